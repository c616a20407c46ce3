/- P. Its conditions: none. -/
import Derived.Test.YtihmgaccbcfgjaaGreatTG41
open Nat (add_sub_cancel sub_zero)
open Bool (false_eq_true)
open List (length_append length_nil length_cons any_cons)
set_option linter.all false
namespace Go.Proofs.YtihmgaccbcfgjaaGreat.Old
open Go.V Go.RowKit
def E1 (q:Nat):Int:=2*(q:Int)
def cls (q:Nat):Int:=2*(q:Int)+1
def Tm.steps (lo:Nat):Tm->List Int
 |.eps=>[E1 lo,cls lo]
 |.leaf _=>[E1 lo,cls lo]
 |.cat a b=>[E1 (Tm.top (.cat a b) lo)]++(a.steps lo++b.steps (lo+a.size))++[cls (Tm.top (.cat a b) lo)]
 |.alt a b=>[E1 (Tm.top (.alt a b) lo)]++(if a.can then a.steps lo else b.steps (lo+a.size))++[cls (Tm.top (.alt a b) lo)]
 |.star a=>[E1 (Tm.top (.star a) lo),cls (Tm.top (.star a) lo)]
 |.maybe a=>[E1 (Tm.top (.maybe a) lo),cls (Tm.top (.maybe a) lo)]
 |.group n a=>[E1 (Tm.top (.group n a) lo)]++a.steps lo++[cls (Tm.top (.group n a) lo)]
 |.iter a=>[E1 (Tm.top (.iter a) lo)]++a.steps lo++[cls (Tm.top (.iter a) lo)]
def Tm.j9 (t:Tm):∀lo,(t.steps lo).length<=2*t.size:=by
 induction t with
 |eps=>intro lo;simp[Tm.steps,Tm.size]
 |leaf s=>intro lo;simp[Tm.steps,Tm.size]
 |cat a b c d=>intro lo;have:=c lo;have:=d (lo+a.size);simp[Tm.steps,Tm.size];omega
 |alt a b c d=>intro lo;have:=c lo;have:=d (lo+a.size);simp only[Tm.steps,Tm.size];split<;>simp<;>omega
 |star a c|maybe a c=>intro lo;have:=c lo;simp[Tm.steps,Tm.size];omega
 |group n a c=>intro lo;have:=c lo;simp[Tm.steps,Tm.size];omega
 |iter a c=>intro lo;have:=c lo;simp[Tm.steps,Tm.size];omega
def o7 {q:Nat}(h:q<=1000000000):W (2*(q:Int))=E1 q:=E3 O' O'
def a0h {q:Nat}(h:q<=1000000000):W (E1 q+1)=cls q:=E3 (by unfold E1;omega) (by unfold E1;omega)
def At.V6 {l:List C0}{lo:Nat}{s:Tm}(h:At l lo s):s.top lo<l.length:=by have:=h.len;have:=s.size_pos;unfold Tm.top;omega
structure q0k (l:List C0)(c:List Bool):Prop where
 len:c.length=l.length
 top:∀(s:Tm) (lo:Nat),At l lo s->gt c (s.top lo:Int)=s.can
def f05 {l:List C0}(hR:L2 l=true):q0k l (M8 l):=by
 simp only[M8,hR,if_true];exact⟨f0k _ _,fun s lo h=>I0T h _ (by have:=h.len;have:=s.size_pos;unfold Tm.top;omega)⟩
def D0p {l:List C0}{c:List Bool}(v:q0k l c)(hl:l.length<=400)(fuel:Nat):∀(s:Tm) (lo:Nat),At l lo s->∀(k:Nat) (out:List Int),s.size<=k->out.length+2*s.size<=1000000000->
  L6 fuel k l c (s.top lo:Int) out=some (out++s.steps lo):=by
 intro s
 induction s with
 |eps|leaf _=>
  intro lo h k out hk j;obtain⟨k,rfl⟩:∃q,k=q+1:=⟨k-1,by simp[Tm.size]at hk;omega⟩
  have hlen:=h.len;have hg:=h.N3;simp only[Tm.size]at hlen j;have e:y0 l (lo:Int)=true:=V0 O' O';have d:∀x:Int,K0 8 out [x]=true:=fun x=>B4 Z';have f:∀x y:Int,K0 8 (out++[x]) [y]=true:=fun x y=>B4 Z';simp only[Tm.top,Tm.size,add_sub_cancel]at hg ⊢;unfold L6;simp[o7 (show lo<=1000000000 from O'),a0h (show lo<=1000000000 from O'),d,f,e,hg,Tm.node,Tm.steps]
 |cat a b g ihb=>
  intro lo h k out hk j;obtain⟨k,rfl⟩:∃q,k=q+1:=⟨k-1,by simp[Tm.size]at hk;omega⟩
  have hlen:=h.len;have hg:=h.N3;obtain⟨ha,o,_⟩:=(At.bin rfl rfl).1 h;have w:=a.j9 lo;have z:=b.j9 (lo+a.size);simp only[Tm.steps];simp only[Tm.size]at hlen j hk;have i:Tm.top (.cat a b) lo<l.length:=by simp only[Tm.top,Tm.size];omega
  generalize Tm.top (.cat a b) lo=r at *;have e:y0 l (r:Int)=true:=V0 O' O';have d:K0 8 out [E1 r]=true:=B4 Z';unfold L6;simp only[o7 (show r<=1000000000 from O'),d,if_true,e,hg,Tm.node];have m:=g lo ha k (out++[E1 r]) O' Z';have p:=ihb (lo+a.size) o k (out++[E1 r]++a.steps lo) O' Z';have f:K0 8 (out++[E1 r]++a.steps lo++b.steps (lo+a.size)) [cls r]=true:=B4 Z';simp only[beq_self_eq_true,if_true,m,G0,p,a0h (show r<=1000000000 from O'),f];simp
 |alt a b g ihb=>
  intro lo h k out hk j;obtain⟨k,rfl⟩:∃q,k=q+1:=⟨k-1,by simp[Tm.size]at hk;omega⟩
  have hlen:=h.len;have hg:=h.N3;obtain⟨ha,o,_⟩:=(At.bin rfl rfl).1 h;have w:=a.j9 lo;have z:=b.j9 (lo+a.size);simp only[Tm.steps];simp only[Tm.size]at hlen j hk;have i:Tm.top (.alt a b) lo<l.length:=by simp only[Tm.top,Tm.size];omega
  generalize Tm.top (.alt a b) lo=r at *;have e:y0 l (r:Int)=true:=V0 O' O';have d:K0 8 out [E1 r]=true:=B4 Z';have t:y0 c (a.top lo:Int)=true:=V0 O' (by rw[v.len];unfold Tm.top;omega);unfold L6;simp only[o7 (show r<=1000000000 from O'),d,if_true,e,hg,Tm.node,t,v.top a lo ha];have m:=g lo ha k (out++[E1 r]) O' Z';have p:=ihb (lo+a.size) o k (out++[E1 r]) O' Z';have f:K0 8 (out++[E1 r]++a.steps lo) [cls r]=true:=B4 Z';have u:K0 8 (out++[E1 r]++b.steps (lo+a.size)) [cls r]=true:=B4 Z';rw[show((4:Int)==3)=false from rfl,show((4:Int)==4)=true from rfl];cases a.can
  ·simp only[q0,p,a0h (show r<=1000000000 from O'),u];simp
  ·simp only[q0,m,a0h (show r<=1000000000 from O'),f];simp
 |star a g|maybe a g=>
  intro lo h k out hk j;obtain⟨k,rfl⟩:∃q,k=q+1:=⟨k-1,by simp[Tm.size]at hk;omega⟩
  have hlen:=h.len;have hg:=h.N3;simp only[Tm.steps];simp only[Tm.size]at hlen j hk;have i:=h.V6;generalize Tm.top _ lo=r at *;have e:y0 l (r:Int)=true:=V0 O' O';have d:∀x:Int,K0 8 out [x]=true:=fun x=>B4 Z';have f:∀x y:Int,K0 8 (out++[x]) [y]=true:=fun x y=>B4 Z';unfold L6;simp[o7 (show r<=1000000000 from O'),a0h (show r<=1000000000 from O'),d,f,e,hg,Tm.node]
 |group n a g|iter a g=>
  intro lo h k out hk j;obtain⟨k,rfl⟩:∃q,k=q+1:=⟨k-1,by simp[Tm.size]at hk;omega⟩
  have hlen:=h.len;have hg:=h.N3;obtain⟨ha,_⟩:=(At.un rfl rfl).1 h;have w:=a.j9 lo;simp only[Tm.steps];simp only[Tm.size]at hlen j hk;have i:=h.V6;generalize Tm.top _ lo=r at *;have e:y0 l (r:Int)=true:=V0 O' O';have d:K0 8 out [E1 r]=true:=B4 Z';have m:=g lo ha k (out++[E1 r]) O' Z';have f:K0 8 (out++[E1 r]++a.steps lo) [cls r]=true:=B4 Z';unfold L6;simp only[o7 (show r<=1000000000 from O'),d,if_true,e,hg,Tm.node];simp[m,a0h (show r<=1000000000 from O')];simpa using f
def s0X {l:List C0}{c:List Bool}(w:q0k l c)(hl:l.length<=400)(fuel:Nat):∀(s:Tm) (lo:Nat),At l lo s->∀(k:Nat),s.size<=k->
  R5 fuel k l c (s.top lo:Int)=some (s.steps lo):=by
 intro s
 induction s with
 |eps|leaf _=>
  intro lo h k hk;obtain⟨k,rfl⟩:∃q,k=q+1:=⟨k-1,by simp[Tm.size]at hk;omega⟩
  have hlen:=h.len;have hg:=h.N3;simp only[Tm.size]at hlen;have d:y0 l (lo:Int)=true:=V0 O' O';have f:∀x y:Int,K0 8 [x] [y]=true:=fun x y=>B4 X';simp only[Tm.top,Tm.size,add_sub_cancel]at hg ⊢;unfold R5;simp[o7 (show lo<=1000000000 from O'),a0h (show lo<=1000000000 from O'),f,d,hg,Tm.node,Tm.steps]
 |cat a b e ihb=>
  intro lo h k hk;obtain⟨k,rfl⟩:∃q,k=q+1:=⟨k-1,by simp[Tm.size]at hk;omega⟩
  have hlen:=h.len;have hg:=h.N3;obtain⟨ha,p,_⟩:=(At.bin rfl rfl).1 h;have z:=a.j9 lo;have C:=b.j9 (lo+a.size);simp only[Tm.steps];simp only[Tm.size]at hlen hk;have i:Tm.top (.cat a b) lo<l.length:=by simp only[Tm.top,Tm.size];omega
  generalize Tm.top (.cat a b) lo=r at *;have d:y0 l (r:Int)=true:=V0 O' O';have o:=e lo ha k O';have t:=ihb (lo+a.size) p k O';have g:K0 8 [E1 r] (a.steps lo)=true:=B4 Z';have f:K0 8 ([E1 r]++a.steps lo) (b.steps (lo+a.size))=true:=B4 Z';have j:K0 8 (([E1 r]++a.steps lo)++b.steps (lo+a.size)) [cls r]=true:=B4 Z';unfold R5;simp only[o7 (show r<=1000000000 from O'),if_true,d,hg,Tm.node,beq_self_eq_true,o,t,G0,g,f,a0h (show r<=1000000000 from O'),j];simp
 |alt a b e ihb=>
  intro lo h k hk;obtain⟨k,rfl⟩:∃q,k=q+1:=⟨k-1,by simp[Tm.size]at hk;omega⟩
  have hlen:=h.len;have hg:=h.N3;obtain⟨ha,p,_⟩:=(At.bin rfl rfl).1 h;have z:=a.j9 lo;have C:=b.j9 (lo+a.size);simp only[Tm.steps];simp only[Tm.size]at hlen hk;have i:Tm.top (.alt a b) lo<l.length:=by simp only[Tm.top,Tm.size];omega
  generalize Tm.top (.alt a b) lo=r at *;have d:y0 l (r:Int)=true:=V0 O' O';have u:y0 c (a.top lo:Int)=true:=V0 O' (by rw[w.len];unfold Tm.top;omega);have o:=e lo ha k O';have t:=ihb (lo+a.size) p k O';have g:K0 8 [E1 r] (a.steps lo)=true:=B4 Z';have m:K0 8 [E1 r] (b.steps (lo+a.size))=true:=B4 Z';have j:K0 8 ([E1 r]++a.steps lo) [cls r]=true:=B4 Z';have v:K0 8 ([E1 r]++b.steps (lo+a.size)) [cls r]=true:=B4 Z';unfold R5;simp only[o7 (show r<=1000000000 from O'),if_true,d,hg,Tm.node,u,w.top a lo ha];rw[show((4:Int)==3)=false from rfl,show((4:Int)==4)=true from rfl];cases a.can
  ·simp only[q0,t,m,a0h (show r<=1000000000 from O'),v]
  ·simp only[q0,o,g,a0h (show r<=1000000000 from O'),j]
 |star a e|maybe a e=>
  intro lo h k hk;obtain⟨k,rfl⟩:∃q,k=q+1:=⟨k-1,by simp[Tm.size]at hk;omega⟩
  have hlen:=h.len;have hg:=h.N3;simp only[Tm.steps];simp only[Tm.size]at hlen hk;have i:=h.V6;generalize Tm.top _ lo=r at *;have d:y0 l (r:Int)=true:=V0 O' O';have f:∀x y:Int,K0 8 [x] [y]=true:=fun x y=>B4 X';unfold R5;simp[o7 (show r<=1000000000 from O'),a0h (show r<=1000000000 from O'),f,d,hg,Tm.node]
 |group n a e|iter a e=>
  intro lo h k hk;obtain⟨k,rfl⟩:∃q,k=q+1:=⟨k-1,by simp[Tm.size]at hk;omega⟩
  have hlen:=h.len;have hg:=h.N3;obtain⟨ha,_⟩:=(At.un rfl rfl).1 h;have z:=a.j9 lo;simp only[Tm.steps];simp only[Tm.size]at hlen hk;have i:=h.V6;generalize Tm.top _ lo=r at *;have d:y0 l (r:Int)=true:=V0 O' O';have o:=e lo ha k O';have g:K0 8 [E1 r] (a.steps lo)=true:=B4 Z';have f:K0 8 ([E1 r]++a.steps lo) [cls r]=true:=B4 Z';unfold R5;simp only[o7 (show r<=1000000000 from O'),if_true,d,hg,Tm.node];simp[o,g,a0h (show r<=1000000000 from O')];simpa using f
def p0O {l:List C0}(hw:∀x∈l,P2 x){t:Tm}(d:I4 l t)(hR:L2 l=true){fuel:Nat}(i:401<fuel){lo:Nat}{s:Tm}(h:At l lo s):
  a0e fuel l (s.top lo:Int)=some (if s.can then s.steps lo else[]):=by
 have e:=d.le;have hlen:=d.len;have f:=h.len;have hp:=s.size_pos;have a:=f05 hR;have g:s.top lo<l.length:=by unfold Tm.top;omega
 have hn:¬((s.top lo:Int)>=((M8 l).length:Int)):=by rw[a.len];omega
 have c:¬((s.top lo:Int)<0):=O'
 have b:y0 (M8 l) (s.top lo:Int)=true:=V0 O' (by rw[a.len];omega);unfold a0e;rw[n0E hw i];simp only[q0,c,hn,b,a.top s lo h];cases s.can
 ·rfl
 ·rw[D0p a O' fuel s lo h fuel [] O' Z'];rfl
def H0F {l:List C0}(hw:∀x∈l,P2 x){t:Tm}(d:I4 l t)(hR:L2 l=true){fuel:Nat}(i:401<fuel){lo:Nat}{s:Tm}(h:At l lo s):
  c0Y fuel l (s.top lo:Int)=some (if s.can then s.steps lo else[]):=by
 have e:=d.le;have hlen:=d.len;have f:=h.len;have hp:=s.size_pos;have a:=f05 hR;have g:s.top lo<l.length:=by unfold Tm.top;omega
 have hn:¬((s.top lo:Int)>=((M8 l).length:Int)):=by rw[a.len];omega
 have c:¬((s.top lo:Int)<0):=O'
 have b:y0 (M8 l) (s.top lo:Int)=true:=V0 O' (by rw[a.len];omega);unfold c0Y;rw[t0D hw O' i O'];simp only[q0,c,hn,b,a.top s lo h];cases s.can
 ·rfl
 ·rw[s0X a O' fuel s lo h fuel O'];rfl
def Tm.Y0 (lo p:Nat)(ahead:List Int):Tm->List B0
 |.eps=>[]
 |.leaf _=>[⟨(p:Int),0,ahead++[E1 lo]⟩]
 |.cat a b=>a.Y0 lo p (ahead++[E1 (Tm.top (.cat a b) lo)])++(if a.can then b.Y0 (lo+a.size) (p+a.leaves) (ahead++[E1 (Tm.top (.cat a b) lo)]++a.steps lo)else[])
 |.alt a b=>a.Y0 lo p (ahead++[E1 (Tm.top (.alt a b) lo)])++b.Y0 (lo+a.size) (p+a.leaves) (ahead++[E1 (Tm.top (.alt a b) lo)])
 |.star a=>a.Y0 lo p (ahead++[E1 (Tm.top (.star a) lo)])
 |.maybe a=>a.Y0 lo p (ahead++[E1 (Tm.top (.maybe a) lo)])
 |.group n a=>a.Y0 lo p (ahead++[E1 (Tm.top (.group n a) lo)])
 |.iter a=>a.Y0 lo p (ahead++[E1 (Tm.top (.iter a) lo)])
def Tm.b0c (t:Tm):∀lo p ahead,(t.Y0 lo p ahead).length<=t.leaves:=by
 induction t with
 |eps=>intro lo p ahead;simp[Tm.Y0]
 |leaf s=>intro lo p ahead;simp[Tm.Y0,Tm.leaves]
 |cat a b c ihb=>
  intro lo p ahead;have:=c lo p (ahead++[E1 (Tm.top (.cat a b) lo)]);have:=ihb (lo+a.size) (p+a.leaves) (ahead++[E1 (Tm.top (.cat a b) lo)]++a.steps lo);simp only[Tm.Y0,Tm.leaves];split<;>simp only[length_append,length_nil]<;>omega
 |alt a b c ihb=>
  intro lo p ahead;have:=c lo p (ahead++[E1 (Tm.top (.alt a b) lo)]);have:=ihb (lo+a.size) (p+a.leaves) (ahead++[E1 (Tm.top (.alt a b) lo)]);simp only[Tm.Y0,Tm.leaves,length_append];omega
 |star a c|maybe a c|group _ a c|iter a c=>intro lo p ahead;exact c _ _ _
def a0R {l:List C0}:∀{s:Tm} {lo:Nat},At l lo s->N0 l (lo+s.size)=N0 l lo+s.leaves:=by
 intro s
 induction s with
 |eps=>intro lo h;have hg:=h.N3;simp only[Tm.top,Tm.size,add_sub_cancel]at hg;simp[Tm.size,N0,hg,Tm.node,Tm.leaves]
 |leaf s=>intro lo h;have hg:=h.N3;simp only[Tm.top,Tm.size,add_sub_cancel]at hg;simp[Tm.size,N0,hg,Tm.node,Tm.leaves]
 |cat a b c d|alt a b c d=>
  intro lo h;have hg:=h.N3;obtain⟨ha,f,_⟩:=(At.bin rfl rfl).1 h;simp only[Tm.top,Tm.size]at hg;have e:lo+(a.size+b.size+1)-1=lo+a.size+b.size:=O'
  rw[e]at hg;simp only[Tm.size,<-Nat.add_assoc,N0,hg,Tm.node,Tm.leaves,d f,c ha];simp
 |star a c|maybe a c|group _ a c|iter a c=>
  intro lo h;have hg:=h.N3;obtain⟨ha,_⟩:=(At.un rfl rfl).1 h;simp only[Tm.top,Tm.size]at hg;have e:lo+(a.size+1)-1=lo+a.size:=O'
  rw[e]at hg;simp only[Tm.size,<-Nat.add_assoc,N0,hg,Tm.node,Tm.leaves,c ha];simp
def d0k {fuel:Nat}{a b:List Int}(h:(a.length+b.length)*8<=140737488355328):N8 fuel a b=some (a++b):=by
 have hs:P3 a 0 (a.length:Int)=true:=by simp[P3]
 have c:G1 a 0 (a.length:Int)=a:=by simp[G1]
 have ha:K0 8 a b=true:=B4 h;unfold N8;simp[hs,c,ha]
def f0u {fuel:Nat}{a b:List Int}(h:(a.length+b.length)*8<=140737488355328):O9 fuel a b=some (a++b):=by
 have h1:K0 8 ([]:List Int) a=true:=B4 Z';have c:K0 8 a b=true:=B4 h;unfold O9;simp[h1,c]
structure h0E (c:L4)(l:List C0)(t:Tm):Prop where
 tl:c.l=l
 up:UpT c.up t
 deep:b02 c.deep t
 index:c.index=B7 l l.length
 can:c.can=M8 l
def t0i {l:List C0}{lo:Nat}{s:List Int}(h:At l lo (.leaf s)):y0 (B7 l l.length) (lo:Int)=true/\gt (B7 l l.length) (lo:Int)=(N0 l lo:Int):=by
 have hlen:=h.len;have hg:=h.N3;simp only[Tm.top,Tm.size,add_sub_cancel]at hg hlen;refine⟨V0 O' (by rw[d0s];omega),?_⟩;rw[X2 (m0u l l.length lo O'),hg];simp[Tm.node]
def p02 {l:List C0}(hw:∀x∈l,P2 x){t:Tm}(R:I4 l t)(hR:L2 l=true){c:L4}(u:h0E c l t){fuel:Nat}(hf:401<fuel):
  ∀(s:Tm) (lo:Nat),At l lo s->∀(k:Nat) (ahead:List Int) (out:List B0),s.size<=k->ahead.length+1000*s.size<=1000000000->out.length+s.size<=1000000000->
   P5 fuel k c (s.top lo:Int) ahead out=some (out++s.Y0 lo (N0 l lo) ahead):=by
 have U:=R.le;have w:=R.len;have i:=u.tl;have J:=u.index;have v:=u.can;have o:=f05 hR;intro s
 induction s with
 |eps=>
  intro lo h k ahead out hk j e;obtain⟨k,rfl⟩:∃q,k=q+1:=⟨k-1,by simp[Tm.size]at hk;omega⟩
  have g:=h.V6;have hg:=h.N3;simp only[Tm.size]at j e;generalize Tm.top _ lo=r at *;have d:y0 l (r:Int)=true:=V0 O' O';unfold P5;simp only[i,d,if_true,o7 (show r<=1000000000 from O'),d0k (fuel:=fuel) (a:=ahead) (b:=[E1 r]) Z',G0,hg,Tm.node];simp[Tm.Y0]
 |leaf s=>
  intro lo h k ahead out hk j e;obtain⟨k,rfl⟩:∃q,k=q+1:=⟨k-1,by simp[Tm.size]at hk;omega⟩
  have g:=h.V6;have hg:=h.N3;obtain⟨i1,i2⟩:=t0i h;simp only[Tm.size]at j e;simp only[Tm.top,Tm.size,add_sub_cancel]at hg g ⊢;have d:y0 l (lo:Int)=true:=V0 O' O';have C:∀x:B0,K0 40 out [x]=true:=fun x=>B4 Z';unfold P5;simp only[i,d,if_true,o7 (show lo<=1000000000 from O'),d0k (fuel:=fuel) (a:=ahead) (b:=[E1 lo]) Z',G0,hg,Tm.node,J,i1,i2,C];simp[Tm.Y0]
 |cat a b f ihb=>
  intro lo h k ahead out hk j e;obtain⟨k,rfl⟩:∃q,k=q+1:=⟨k-1,by simp[Tm.size]at hk;omega⟩
  have g:=h.V6;have hlen:=h.len;have hg:=h.N3;obtain⟨ha,z,_⟩:=(At.bin rfl rfl).1 h;have sa:=a.j9 lo;have la:=a.b0c lo (N0 l lo) (ahead++[E1 (Tm.top (.cat a b) lo)]);have y:=a.b0r;simp only[Tm.Y0];simp only[Tm.size]at hlen j e hk;generalize Tm.top (.cat a b) lo=r at *;have d:y0 l (r:Int)=true:=V0 O' O';have I:y0 (M8 l) (a.top lo:Int)=true:=V0 O' (by rw[o.len];have:=ha.V6;omega);have p:=f lo ha k (ahead++[E1 r]) out O' Z' O';have n:=ihb (lo+a.size) z k (ahead++[E1 r]++a.steps lo) (out++a.Y0 lo (N0 l lo) (ahead++[E1 r])) O' Z' Z';rw[a0R ha]at n;unfold P5;simp only[i,d,if_true,o7 (show r<=1000000000 from O'),d0k (fuel:=fuel) (a:=ahead) (b:=[E1 r]) Z',G0,hg,Tm.node,p,v,I,o.top a lo ha];rw[show((3:Int)==2)=false from rfl,show((3:Int)==3)=true from rfl];cases m:a.can
  ·simp
  ·simp only[false_eq_true,if_false,if_true,p0O hw R hR hf ha,m,G0,d0k (fuel:=fuel) (a:=ahead++[E1 r]) (b:=a.steps lo) Z',n];simp
 |alt a b f ihb=>
  intro lo h k ahead out hk j e;obtain⟨k,rfl⟩:∃q,k=q+1:=⟨k-1,by simp[Tm.size]at hk;omega⟩
  have g:=h.V6;have hlen:=h.len;have hg:=h.N3;obtain⟨ha,z,_⟩:=(At.bin rfl rfl).1 h;have la:=a.b0c lo (N0 l lo) (ahead++[E1 (Tm.top (.alt a b) lo)]);have y:=a.b0r;simp only[Tm.Y0];simp only[Tm.size]at hlen j e hk;generalize Tm.top (.alt a b) lo=r at *;have d:y0 l (r:Int)=true:=V0 O' O';have p:=f lo ha k (ahead++[E1 r]) out O' Z' O';have n:=ihb (lo+a.size) z k (ahead++[E1 r]) (out++a.Y0 lo (N0 l lo) (ahead++[E1 r])) O' Z' Z';rw[a0R ha]at n;unfold P5;simp only[i,d,if_true,o7 (show r<=1000000000 from O'),d0k (fuel:=fuel) (a:=ahead) (b:=[E1 r]) Z',G0,hg,Tm.node,p,n];simp
 |star a f|maybe a f|group _ a f|iter a f=>
  intro lo h k ahead out hk j e;obtain⟨k,rfl⟩:∃q,k=q+1:=⟨k-1,by simp[Tm.size]at hk;omega⟩
  have g:=h.V6;have hlen:=h.len;have hg:=h.N3;obtain⟨ha,_⟩:=(At.un rfl rfl).1 h;simp only[Tm.Y0];simp only[Tm.size]at hlen j e hk;generalize Tm.top _ lo=r at *;have d:y0 l (r:Int)=true:=V0 O' O';have p:=f lo ha k (ahead++[E1 r]) out O' Z' O';unfold P5;simp only[i,d,if_true,o7 (show r<=1000000000 from O'),d0k (fuel:=fuel) (a:=ahead) (b:=[E1 r]) Z',G0,hg,Tm.node,p];simp
def H0Z {l:List C0}{t:Tm}(y:I4 l t)(hR:L2 l=true){fuel:Nat}(J:401<fuel):
  ∀(s:Tm) (lo:Nat),At l lo s->∀(k:Nat) (ahead:List Int),s.size<=k->ahead.length+1000*s.size<=1000000000->
   D6 fuel k l (B7 l l.length) (M8 l) (s.top lo:Int) ahead=some (s.Y0 lo (N0 l lo) ahead):=by
 have x:=y.le;have n:=y.len;have i:=f05 hR;intro s
 induction s with
 |eps=>
  intro lo h k ahead hk f;obtain⟨k,rfl⟩:∃q,k=q+1:=⟨k-1,by simp[Tm.size]at hk;omega⟩
  have e:=h.V6;have hg:=h.N3;simp only[Tm.size]at f;generalize Tm.top _ lo=r at *;have c:y0 l (r:Int)=true:=V0 O' O';unfold D6;simp only[c,if_true,o7 (show r<=1000000000 from O'),f0u (fuel:=fuel) (a:=ahead) (b:=[E1 r]) Z',G0,hg,Tm.node];simp[Tm.Y0]
 |leaf s=>
  intro lo h k ahead hk f;obtain⟨k,rfl⟩:∃q,k=q+1:=⟨k-1,by simp[Tm.size]at hk;omega⟩
  have e:=h.V6;have hg:=h.N3;obtain⟨z,i2⟩:=t0i h;simp only[Tm.size]at f;simp only[Tm.top,Tm.size,add_sub_cancel]at hg e ⊢;have c:y0 l (lo:Int)=true:=V0 O' O';unfold D6;simp only[c,if_true,o7 (show lo<=1000000000 from O'),f0u (fuel:=fuel) (a:=ahead) (b:=[E1 lo]) Z',G0,hg,Tm.node,z,i2];simp[Tm.Y0]
 |cat a b d ihb=>
  intro lo h k ahead hk f;obtain⟨k,rfl⟩:∃q,k=q+1:=⟨k-1,by simp[Tm.size]at hk;omega⟩
  have e:=h.V6;have hlen:=h.len;have hg:=h.N3;obtain⟨ha,p,_⟩:=(At.bin rfl rfl).1 h;have R:=a.j9 lo;have C:=a.b0c lo (N0 l lo) (ahead++[E1 (Tm.top (.cat a b) lo)]);have o:=a.b0r;have I:=b.b0c (lo+a.size) (N0 l lo+a.leaves) (ahead++[E1 (Tm.top (.cat a b) lo)]++a.steps lo);have v:=b.b0r;simp only[Tm.Y0];simp only[Tm.size]at hlen f hk;generalize Tm.top (.cat a b) lo=r at *;have c:y0 l (r:Int)=true:=V0 O' O';have u:y0 (M8 l) (a.top lo:Int)=true:=V0 O' (by rw[i.len];have:=ha.V6;omega);have m:=d lo ha k (ahead++[E1 r]) O' Z';have j:=ihb (lo+a.size) p k (ahead++[E1 r]++a.steps lo) O' Z';rw[a0R ha]at j;unfold D6;simp only[c,if_true,o7 (show r<=1000000000 from O'),f0u (fuel:=fuel) (a:=ahead) (b:=[E1 r]) Z',G0,hg,Tm.node,m,u,i.top a lo ha];rw[show((3:Int)==2)=false from rfl,show((3:Int)==3)=true from rfl];cases w:a.can
  ·simp
  ·have g:K0 40 (a.Y0 lo (N0 l lo) (ahead++[E1 r])) (b.Y0 (lo+a.size) (N0 l lo+a.leaves) (ahead++[E1 r]++a.steps lo))=true:=B4 O';simp only[false_eq_true,if_false,if_true,s0X i O' fuel a lo ha fuel O',G0,f0u (fuel:=fuel) (a:=ahead++[E1 r]) (b:=a.steps lo) Z',j,g]
 |alt a b d ihb=>
  intro lo h k ahead hk f;obtain⟨k,rfl⟩:∃q,k=q+1:=⟨k-1,by simp[Tm.size]at hk;omega⟩
  have e:=h.V6;have hlen:=h.len;have hg:=h.N3;obtain⟨ha,p,_⟩:=(At.bin rfl rfl).1 h;have C:=a.b0c lo (N0 l lo) (ahead++[E1 (Tm.top (.alt a b) lo)]);have o:=a.b0r;have I:=b.b0c (lo+a.size) (N0 l lo+a.leaves) (ahead++[E1 (Tm.top (.alt a b) lo)]);have v:=b.b0r;simp only[Tm.Y0];simp only[Tm.size]at hlen f hk;generalize Tm.top (.alt a b) lo=r at *;have c:y0 l (r:Int)=true:=V0 O' O';have m:=d lo ha k (ahead++[E1 r]) O' Z';have j:=ihb (lo+a.size) p k (ahead++[E1 r]) O' Z';rw[a0R ha]at j;have g:K0 40 (a.Y0 lo (N0 l lo) (ahead++[E1 r])) (b.Y0 (lo+a.size) (N0 l lo+a.leaves) (ahead++[E1 r]))=true:=B4 O';unfold D6;simp only[c,if_true,o7 (show r<=1000000000 from O'),f0u (fuel:=fuel) (a:=ahead) (b:=[E1 r]) Z',G0,hg,Tm.node,m,j,g];simp
 |star a d|maybe a d|group _ a d|iter a d=>
  intro lo h k ahead hk f;obtain⟨k,rfl⟩:∃q,k=q+1:=⟨k-1,by simp[Tm.size]at hk;omega⟩
  have e:=h.V6;have hlen:=h.len;have hg:=h.N3;obtain⟨ha,_⟩:=(At.un rfl rfl).1 h;simp only[Tm.Y0];simp only[Tm.size]at hlen f hk;generalize Tm.top _ lo=r at *;have c:y0 l (r:Int)=true:=V0 O' O';have m:=d lo ha k (ahead++[E1 r]) O' Z';unfold D6;simp only[c,if_true,o7 (show r<=1000000000 from O'),f0u (fuel:=fuel) (a:=ahead) (b:=[E1 r]) Z',G0,hg,Tm.node,m];simp
inductive Fr where
 |catL (b:Tm)|catR (a:Tm)|altL (b:Tm)|altR (a:Tm)|star|maybe|group (n:Int)|iter
def Fr.O2 (s:Tm):Fr->Tm
 |.catL b=>.cat s b|.catR a=>.cat a s|.altL b=>.alt s b|.altR a=>.alt a s
 |.star=>.star s|.maybe=>.maybe s|.group n=>.group n s|.iter=>.iter s
def Fr.off:Fr->Nat
 |.catR a=>a.size|.altR a=>a.size|_=>0
def Fr.W9:Fr->Nat
 |.catR a=>a.leaves|.altR a=>a.leaves|_=>0
def Ctx (t:Tm):Nat->Tm->List Fr->Prop
 |lo,s,[]=>lo=0/\s=t
 |lo,s,f :: fs=>f.off<=lo/\Ctx t (lo-f.off) (f.O2 s) fs
def Ctx.size {t:Tm}:∀{fs:List Fr} {lo:Nat} {s:Tm},Ctx t lo s fs->fs.length+s.size<=t.size
 |[],lo,s,⟨_,h⟩=>by subst h;simp
 |f :: fs,lo,s,⟨_,h⟩=>by
  have:=Ctx.size h;cases f<;>simp[Fr.O2,Tm.size]at this ⊢<;>omega
structure Part (l:List C0)(u d:List Int)(lo:Nat)(s:Tm)(k:Nat):Prop where
 at_:At l lo s
 up:Q8 u lo s
 deep:B8 d lo k s
def Ctx.part {l:List C0}{t:Tm}{u d:List Int}(i:I4 l t)(hu:UpT u t)(hd:b02 d t):∀{fs:List Fr} {lo:Nat} {s:Tm},Ctx t lo s fs->Part l u d lo s (fs.length+1)
 |[],lo,s,⟨h1,c⟩=>by subst h1;subst c;exact⟨i.at0,hu.inner,hd.deep⟩
 |f :: fs,lo,s,⟨ho,h⟩=>by
  obtain⟨h1,c,g⟩:=Ctx.part i hu hd h;cases f<;>simp only[Fr.O2,Fr.off,sub_zero]at h1 c g ho
  case catL b=>exact⟨((At.bin rfl rfl).1 h1).1,c.2.2.1,g.2.1⟩
  case altL b=>exact⟨((At.bin rfl rfl).1 h1).1,c.2.2.1,g.2.1⟩
  case catR a=>
   have e:lo-a.size+a.size=lo:=O'
   have:=((At.bin rfl rfl).1 h1).2.1;have g2:=c.2.2.2;have g3:=g.2.2;rw[e]at this g2 g3;exact⟨this,g2,g3⟩
  case altR a=>
   have e:lo-a.size+a.size=lo:=O'
   have:=((At.bin rfl rfl).1 h1).2.1;have g2:=c.2.2.2;have g3:=g.2.2;rw[e]at this g2 g3;exact⟨this,g2,g3⟩
  all_goals exact⟨((At.un rfl rfl).1 h1).1,c.2,g.2⟩
def Ctx.a0Z {l:List C0}{t:Tm}{u d:List Int}(j:I4 l t)(hu:UpT u t)(hd:b02 d t){f:Fr}{fs:List Fr}{lo:Nat}{s:Tm}(h:Ctx t lo s (f :: fs)):
  gt u (s.top lo:Int)=((f.O2 s).top (lo-f.off):Int):=by
 obtain⟨i,h⟩:=h;obtain⟨h1,c,g⟩:=Ctx.part j hu hd h;cases f<;>simp only[Fr.O2,Fr.off,sub_zero]at h1 c g i ⊢
 case catL b=>exact c.1
 case altL b=>exact c.1
 case catR a=>
  have e:lo-a.size+a.size=lo:=O'
  have:=c.2.1
  rwa [e]at this
 case altR a=>
  have e:lo-a.size+a.size=lo:=O'
  have:=c.2.1
  rwa [e]at this
 all_goals exact c.1
def Ctx.root {t:Tm}{u:List Int}(hu:UpT u t){lo:Nat}{s:Tm}(h:Ctx t lo s []):gt u (s.top lo:Int)=-1:=by
 obtain⟨rfl,rfl⟩:=h;exact hu.root
def Q7 (d:Int):List B0->List B0->List B0
 |out,[]=>out
 |out,h :: r=>Q7 d (if out.any (fun x=>x.To==h.To)then out else out++[⟨h.To,d,h.Steps⟩]) r
def f0U (d:Int):∀(r out:List B0),(Q7 d out r).length<=out.length+r.length
 |[],out=>by simp[Q7]
 |h :: r,out=>by
  simp only[Q7,length_cons];cases out.any (fun x=>x.To==h.To)with
  |true=>have:=f0U d r out;simp only[if_true];omega
  |false=>have:=f0U d r (out++[⟨h.To,d,h.Steps⟩]);simp only[false_eq_true,if_false];simp only[length_append,length_cons,length_nil]at this;omega
def V4 (lo p:Nat)(s:Tm)(st:List Int)(out:List B0):List Fr->List B0×List Int×Bool
 |[]=>(out,st,true)
 |.catL b :: fs=>
  if b.can then V4 lo p (.cat s b) (st++b.steps (lo+s.size)++[cls (Tm.top (.cat s b) lo)]) (Q7 (fs.length+1:Nat) out (b.Y0 (lo+s.size) (p+s.leaves) st)) fs
  else(Q7 (fs.length+1:Nat) out (b.Y0 (lo+s.size) (p+s.leaves) st),[],false)
 |.star :: fs=>V4 lo p (.star s) (st++[cls (Tm.top (.star s) lo)]) (Q7 (fs.length+1:Nat) out (s.Y0 lo p st)) fs
 |f :: fs=>V4 (lo-f.off) (p-f.W9) (f.O2 s) (st++[cls ((f.O2 s).top (lo-f.off))]) out fs
def E05 {l:List C0}{t:Tm}{u d:List Int}(g:I4 l t)(hu:UpT u t)(hd:b02 d t){f:Fr}{fs:List Fr}{lo:Nat}{s:Tm}(h:Ctx t lo s (f :: fs)):N0 l (lo-f.off)=N0 l lo-f.W9:=by
 obtain⟨e,h⟩:=h;obtain⟨h1,c,b⟩:=Ctx.part g hu hd h;clear c b;cases f<;>simp only[Fr.O2,Fr.off,Fr.W9,sub_zero]at h1 e ⊢
 case catR a=>
  have:=a0R ((At.bin rfl rfl).1 h1).1;rw[show lo-a.size+a.size=lo from O']at this;omega
 case altR a=>
  have:=a0R ((At.bin rfl rfl).1 h1).1;rw[show lo-a.size+a.size=lo from O']at this;omega
def B0e (fuel:Nat)(out:List B0)(h:B0)(g:out.length<fuel)(hl:out.length<=1000000000):j0r fuel out h=some (out.any fun x=>x.To==h.To):=by
 have key:∀(k i:Nat),i+k=out.length->∀m,k<m->∃t,iter (e0f fuel out h) m (i:Int)=some t/\(match t with|.inl _=>(out.drop i).any (fun x=>x.To==h.To)=false|.inr r=>0<=r/\(out.drop i).any (fun x=>x.To==h.To)=true):=by
  intro k
  induction k with
  |zero=>
   intro i hi m hm;obtain⟨m,rfl⟩:∃q,m=q+1:=⟨m-1,O'⟩
   refine⟨.inl (),?_,?_⟩
   ·unfold iter e0f;have:¬((i:Int)<(out.length:Int)):=O'
    simp[this]
   ·rw[List.drop_of_length_le O'];rfl
  |succ k ih=>
   intro i hi m hm;obtain⟨m,rfl⟩:∃q,m=q+1:=⟨m-1,O'⟩
   have b:i<out.length:=O'
   have d:y0 out (i:Int)=true:=V0 O' O';have hg:gt out (i:Int)=out[i]:=X2 (by simp[b]);have hd:out.drop i=out[i] :: out.drop (i+1):=List.drop_eq_getElem_cons b;have e:(i:Int)<(out.length:Int):=O'
   have f:e0f fuel out h (i:Int)=if(out[i].To==h.To)=true then some (.done (.inr (i:Int)))else some (.next ((i+1:Nat):Int)):=by
    unfold e0f o0u;simp only[q0,e,d,hg,X1 (show i<9223372036854775807 from O')]
   unfold iter;rw[f]
   by_cases c:(out[i].To==h.To)=true
   ·rw[if_pos c];exact⟨_,rfl,O',by rw[hd];simp only[any_cons,c,Bool.true_or]⟩
   ·rw[if_neg c];obtain⟨t,h1,a⟩:=ih (i+1) O' m O';refine⟨t,h1,?_⟩;rw[hd];have c':(out[i].To==h.To)=false:=by simpa using c
    cases t with
    |inl _=>simp only[any_cons,c',Bool.false_or];exact a
    |inr r=>simp only[any_cons,c',Bool.false_or];exact a
 obtain⟨t,h1,a⟩:=key out.length 0 O' fuel O';unfold j0r n0J;rw[show(0:Int)=((0:Nat):Int)from rfl,h1];rw[List.drop_zero]at a;cases t with
 |inl _=>simp only[G0];rw[a];rfl
 |inr r=>simp only[G0];rw[a.2];simp[a.1]
def drop_cons {α:Type}[Inhabited α]{l:List α}{i:Nat}(h:i<l.length):l.drop i=gt l (i:Int) :: l.drop (i+1):=by
 rw[List.drop_eq_getElem_cons h,X2 (x:=l[i]) (by simp[h])]
def t0q {fuel:Nat}{c:L4}{at_:Nat}{d:Int}{goal:Int}{st:List Int}{out hops:List B0}(a:P5 fuel fuel c goal st []=some hops)(hd:y0 c.deep (at_:Int)=true)(f:gt c.deep (at_:Int)=d)
  (p:out.length+hops.length<=1000000) (n:1000001<fuel):b0h fuel c (at_:Int) goal st out=some (Q7 d out hops):=by
 have key:∀(k i:Nat) (o:List B0),i+k=hops.length->o.length+k<=1000000->∀m,k<m->iter (d09 fuel c (at_:Int) out hops) m (o,(i:Int))=some (Q7 d o (hops.drop i)):=by
  intro k
  induction k with
  |zero=>
   intro i o hi l m hm;obtain⟨m,rfl⟩:∃q,m=q+1:=⟨m-1,O'⟩
   rw[List.drop_of_length_le O'];unfold iter d09;have:¬((i:Int)<(hops.length:Int)):=O'
   simp[this,Q7]
  |succ k ih=>
   intro i o hi l m hm;obtain⟨m,rfl⟩:∃q,m=q+1:=⟨m-1,O'⟩
   have g:i<hops.length:=O'
   have e:y0 hops (i:Int)=true:=V0 O' O';have h:(i:Int)<(hops.length:Int):=O'
   have b:∀x:B0,K0 40 o [x]=true:=fun x=>B4 Z';have j:d09 fuel c (at_:Int) out hops (o,(i:Int))=some (.next ((if o.any (fun x=>x.To==(gt hops (i:Int)).To)then o else o++[⟨(gt hops (i:Int)).To,d,(gt hops (i:Int)).Steps⟩]),((i+1:Nat):Int))):=by
    unfold d09;simp only[q0,h,e,B0e fuel o (gt hops (i:Int)) O' O',hd,f,b,X1 (show i<9223372036854775807 from O')];cases o.any (fun x=>x.To==(gt hops (i:Int)).To)<;>simp
   unfold iter;rw[j,drop_cons g];simp only[Q7];refine ih (i+1) _ O' ?_ m O';split
   ·omega
   ·simp only[length_append,length_cons,length_nil];omega
 unfold b0h;rw[a];simp only[G0];rw[show(0:Int)=((0:Nat):Int)from rfl,key hops.length 0 out O' O' fuel O'];simp
def E0E {l:List C0}(hw:∀x∈l,P2 x){t:Tm}(C:I4 l t)(hR:L2 l=true){c:L4}(o:h0E c l t){fuel:Nat}(hf:1000001<fuel)(p1:Int):
  ∀(fs:List Fr) (lo:Nat) (s:Tm) (st:List Int) (out:List B0),Ctx t lo s fs->st.length+1000*fs.length<=500000->out.length+1000*fs.length<=500000->∀m,fs.length<m->
   ∃r,iter (c0n fuel c p1) m ((s.top lo:Int),st,out,gt c.up (s.top lo:Int))=some r/\
    (match r with|.inl (y1,y2)=>(y2,y1,true)|.inr (I,z2)=>(I,z2,false))=V4 lo (N0 l lo) s st out fs/\(∀I z2,r=.inr (I,z2)->z2=[]):=by
 have e5:=C.le;have c7:=C.len;have c4:=o.tl;have c0:=o.can;have b4:=f05 hR;intro fs
 induction fs with
 |nil=>
  intro lo s st out z h1 h2 m hm;obtain⟨m,rfl⟩:∃q,m=q+1:=⟨m-1,O'⟩
  refine⟨.inl (st,out),?_,rfl,fun _ _ h=>by cases h⟩;rw[z.root o.up];unfold iter c0n;simp
 |cons f fs ih=>
  intro lo s st out z h1 h2 m hm;obtain⟨m,rfl⟩:∃q,m=q+1:=⟨m-1,O'⟩
  have b7:=z.part C o.up o.deep;have g:=z.2.part C o.up o.deep;have U:=z.a0Z C o.up o.deep;have a1:=z.2;have R:=E05 C o.up o.deep z;have b6:=z.size;simp only[length_cons]at h1 h2 hm b6;rw[U];have e6:=g.at_.V6;have hg:=g.at_.N3;have b5:=g.deep.top;generalize j:lo-f.off=lo' at *;generalize v:(f.O2 s).top lo'=r at *;have c5:y0 l (r:Int)=true:=V0 O' O';have c3:y0 c.up (r:Int)=true:=V0 O' (by rw[o.up.len];omega);have b3:y0 c.deep (r:Int)=true:=V0 O' (by rw[o.deep.len];omega);have c6:(r:Int)>=0:=O'
  have b2:W (W (2*(r:Int))+1)=cls r:=by rw[o7 O',a0h O']
  have next:∀(w:List Int) (y:List B0),w.length<=st.length+900->(Option.bind (N8 fuel w [W (W (2*(r:Int))+1)]) fun c8=>if y0 c.up (r:Int)=true then(some (.next ((r:Int),c8,y,gt c.up (r:Int))):Option (Q0 (Int×List Int×List B0×Int) ((List Int×List B0)⊕((List B0)×(List Int)))))else none)=some (.next ((r:Int),w++[cls r],y,gt c.up (r:Int))):=fun w y hs=>by
   rw[b2,d0k (fuel:=fuel) (a:=w) (b:=[cls r]) Z',c3];rfl
  have plain:∀(e7:List Fr),V4 lo (N0 l lo) s st out (f :: fs)=V4 lo' (N0 l lo') (f.O2 s) (st++[cls r]) out fs->c0n fuel c p1 ((s.top lo:Int),st,out,(r:Int))=some (.next ((r:Int),st++[cls r],out,gt c.up (r:Int)))->
    ∃r',iter (c0n fuel c p1) (m+1) ((s.top lo:Int),st,out,(r:Int))=some r'/\(match r' with|.inl (y1,y2)=>(y2,y1,true)|.inr (I,z2)=>(I,z2,false))=V4 lo (N0 l lo) s st out (f :: fs)/\(∀I z2,r'=.inr (I,z2)->z2=[]):=fun _ e1 e2=>by
   unfold iter;rw[e1,e2];have:=ih lo' (f.O2 s) (st++[cls r]) out a1 Z' O' m O';rw[v]at this;exact this
  have e:c0n fuel c p1 ((s.top lo:Int),st,out,(r:Int))=c0n fuel c p1 ((s.top lo:Int),st,out,(r:Int)):=rfl
  conv at e=>rhs;unfold c0n
  simp only[c6,decide_true,if_true,c4,c5,hg]at e;cases f with
  |catL b=>
   simp only[Fr.O2,Fr.off,sub_zero]at j v hg g e;subst j;obtain⟨u,k,_⟩:=(At.bin rfl rfl).1 g.at_;have b8:=b.b0c (lo+s.size) (N0 l lo+s.leaves) st;have e3:=b.b0r;have e9:=b.j9 (lo+s.size);have e4:b.size<=400:=by have:=k.len;omega
   have i:=p02 hw C hR o (show 401<fuel from O') b (lo+s.size) k fuel st [] O' O' Z';rw[a0R u,List.nil_append]at i;have p:=t0q (at_:=r) (d:=(fs.length+1:Nat)) (st:=st) (out:=out) i b3 b5 O' hf;have b1:y0 (M8 l) (b.top (lo+s.size):Int)=true:=V0 O' (by rw[b4.len];have:=k.V6;omega);simp only[Tm.node,beq_self_eq_true,if_true,G0,p,c0,b1,b4.top b _ k]at e;have b9:=f0U ((fs.length+1:Nat):Int) (b.Y0 (lo+s.size) (N0 l lo+s.leaves) st) out;simp only[V4];cases J:b.can with
   |false=>
    simp only[q0,J]at e;refine⟨_,by unfold iter;rw[e],?_,fun I z2 h=>by cases h;rfl⟩;simp
   |true=>
    simp only[q0,J,p0O hw C hR (show 401<fuel from O') k,d0k (fuel:=fuel) (a:=st) (b:=b.steps (lo+s.size)) O']at e;rw[next _ _ Z']at e;unfold iter;rw[e];have:=ih lo (.cat s b) (st++b.steps (lo+s.size)++[cls r]) (Q7 ((fs.length+1:Nat):Int) out (b.Y0 (lo+s.size) (N0 l lo+s.leaves) st)) a1 Z' O' m O';rw[v]at this;rw[if_pos rfl,v];exact this
  |star=>
   simp only[Fr.O2,Fr.off,sub_zero]at j v hg g e;subst j;obtain⟨u,_⟩:=(At.un rfl rfl).1 g.at_;have b8:=s.b0c lo (N0 l lo) st;have e3:=s.b0r;have e4:s.size<=400:=by have:=u.len;omega
   have i:=p02 hw C hR o (show 401<fuel from O') s lo u fuel st [] O' O' Z';rw[List.nil_append]at i;have p:=t0q (at_:=r) (d:=(fs.length+1:Nat)) (st:=st) (out:=out) i b3 b5 O' hf;simp only[q0,Tm.node,show((5:Int)==3)=false from rfl,beq_self_eq_true,p]at e;rw[next _ _ O']at e;have b9:=f0U ((fs.length+1:Nat):Int) (s.Y0 lo (N0 l lo) st) out;simp only[V4];unfold iter;rw[e];have:=ih lo (.star s) (st++[cls r]) (Q7 ((fs.length+1:Nat):Int) out (s.Y0 lo (N0 l lo) st)) a1 Z' O' m O';rw[v]at this;rw[v];exact this
  |catR a=>
   simp only[Fr.O2,Fr.off]at j v hg g e;have h0:=s.size_pos;have c9:((a.top lo':Int)==(s.top lo:Int))=false:=by
    have:=z.1;have:=a.size_pos;simp only[Fr.off]at *;have:a.top lo'≠s.top lo:=by unfold Tm.top;omega
    simp;omega
   refine plain fs (by simp only[V4,Fr.off,Fr.W9,j,R,Fr.O2,v]) ?_;rw[e];simp only[q0,Tm.node,c9,beq_self_eq_true];exact next st out O'
  |altR a=>
   simp only[Fr.O2,Fr.off]at j v hg g e;refine plain fs (by simp only[V4,Fr.off,Fr.W9,j,R,Fr.O2,v]) ?_;rw[e];simp only[Tm.node,G0];exact next st out O'
  |altL b|maybe|group n|iter=>
   simp only[Fr.O2,Fr.off,sub_zero]at j v hg g e;subst j;refine plain fs (by subst v;rfl) ?_;rw[e];simp only[Tm.node,G0];exact next st out O'
