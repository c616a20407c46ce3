/- P. Its conditions: none. -/
import Derived.Test.YtmhooikfkhjijaaGreatYG38
open Nat (add_sub_cancel sub_zero)
open Bool (false_eq_true)
open List (length_append length_nil length_cons any_cons)
set_option linter.all false
namespace Go.Proofs.YtmhooikfkhjijaaGreat.Old
open Go.V Go.RowKit
def O0 (q:Nat):Int:=2*(q:Int)
def cls (q:Nat):Int:=2*(q:Int)+1
def Tm.steps (lo:Nat):Tm->List Int
 |.eps=>[O0 lo,cls lo]
 |.leaf _=>[O0 lo,cls lo]
 |.cat a b=>[O0 (Tm.top (.cat a b) lo)]++(a.steps lo++b.steps (lo+a.size))++[cls (Tm.top (.cat a b) lo)]
 |.alt a b=>[O0 (Tm.top (.alt a b) lo)]++(if a.can then a.steps lo else b.steps (lo+a.size))++[cls (Tm.top (.alt a b) lo)]
 |.star a=>[O0 (Tm.top (.star a) lo),cls (Tm.top (.star a) lo)]
 |.maybe a=>[O0 (Tm.top (.maybe a) lo),cls (Tm.top (.maybe a) lo)]
 |.group n a=>[O0 (Tm.top (.group n a) lo)]++a.steps lo++[cls (Tm.top (.group n a) lo)]
 |.iter a=>[O0 (Tm.top (.iter a) lo)]++a.steps lo++[cls (Tm.top (.iter a) lo)]
def Tm.X8 (t:Tm):∀lo,(t.steps lo).length<=2*t.size:=by
 induction t with
 |eps=>intro lo;simp[Tm.steps,Tm.size]
 |leaf s=>intro lo;simp[Tm.steps,Tm.size]
 |cat a b c d=>intro lo;have:=c lo;have:=d (lo+a.size);simp[Tm.steps,Tm.size];omega
 |alt a b c d=>intro lo;have:=c lo;have:=d (lo+a.size);simp only[Tm.steps,Tm.size];split<;>simp<;>omega
 |star a c|maybe a c=>intro lo;have:=c lo;simp[Tm.steps,Tm.size];omega
 |group n a c=>intro lo;have:=c lo;simp[Tm.steps,Tm.size];omega
 |iter a c=>intro lo;have:=c lo;simp[Tm.steps,Tm.size];omega
def o7 {q:Nat}(h:q<=1000000000):W (2*(q:Int))=O0 q:=n3 (by omega) (by omega)
def W9 {q:Nat}(h:q<=1000000000):W (O0 q+1)=cls q:=n3 (by unfold O0;omega) (by unfold O0;omega)
def At.j5 {l:List C0}{lo:Nat}{s:Tm}(h:At l lo s):s.top lo<l.length:=by have:=h.len;have:=s.size_pos;unfold Tm.top;omega
structure n04 (l:List C0)(c:List Bool):Prop where
 len:c.length=l.length
 top:∀(s:Tm) (lo:Nat),At l lo s->gt c (s.top lo:Int)=s.can
def g0B {l:List C0}(hR:K1 l=true):n04 l (V8 l):=by
 simp only[V8,hR,if_true];exact⟨d03 _ _,fun s lo h=>w0k h _ (by have:=h.len;have:=s.size_pos;unfold Tm.top;omega)⟩
def B0U {l:List C0}{c:List Bool}(v:n04 l c)(hl:l.length<=400)(fuel:Nat):∀(s:Tm) (lo:Nat),At l lo s->∀(k:Nat) (out:List Int),s.size<=k->out.length+2*s.size<=1000000000->
  X6 fuel k l c (s.top lo:Int) out=some (out++s.steps lo):=by
 intro s
 induction s with
 |eps|leaf _=>
  intro lo h k out hk j;obtain⟨k,rfl⟩:∃q,k=q+1:=⟨k-1,by simp[Tm.size]at hk;omega⟩
  have hlen:=h.len;have hg:=h.D2;simp only[Tm.size]at hlen j;have d:B0 l (lo:Int)=true:=R0 (by omega) (by omega);have f:∀x:Int,I0 8 out [x]=true:=fun x=>Y4 (by simp;omega);have e:∀x y:Int,I0 8 (out++[x]) [y]=true:=fun x y=>Y4 (by simp;omega);simp only[Tm.top,Tm.size,add_sub_cancel]at hg ⊢;unfold X6;simp[o7 (show lo<=1000000000 by omega),W9 (show lo<=1000000000 by omega),f,e,d,hg,Tm.node,Tm.steps]
 |cat a b g ihb=>
  intro lo h k out hk j;obtain⟨k,rfl⟩:∃q,k=q+1:=⟨k-1,by simp[Tm.size]at hk;omega⟩
  have hlen:=h.len;have hg:=h.D2;obtain⟨ha,t,_⟩:=(At.bin rfl rfl).1 h;have w:=a.X8 lo;have z:=b.X8 (lo+a.size);simp only[Tm.steps];simp only[Tm.size]at hlen j hk;have i:Tm.top (.cat a b) lo<l.length:=by simp only[Tm.top,Tm.size];omega
  generalize Tm.top (.cat a b) lo=r at *;have d:B0 l (r:Int)=true:=R0 (by omega) (by omega);have f:I0 8 out [O0 r]=true:=Y4 (by simp;omega);unfold X6;simp only[o7 (show r<=1000000000 by omega),f,if_true,d,hg,Tm.node];have m:=g lo ha k (out++[O0 r]) (by omega) (by simp;omega);have o:=ihb (lo+a.size) t k (out++[O0 r]++a.steps lo) (by omega) (by simp;omega);have e:I0 8 (out++[O0 r]++a.steps lo++b.steps (lo+a.size)) [cls r]=true:=Y4 (by simp;omega);simp only[beq_self_eq_true,if_true,m,G0,o,W9 (show r<=1000000000 by omega),e];simp
 |alt a b g ihb=>
  intro lo h k out hk j;obtain⟨k,rfl⟩:∃q,k=q+1:=⟨k-1,by simp[Tm.size]at hk;omega⟩
  have hlen:=h.len;have hg:=h.D2;obtain⟨ha,t,_⟩:=(At.bin rfl rfl).1 h;have w:=a.X8 lo;have z:=b.X8 (lo+a.size);simp only[Tm.steps];simp only[Tm.size]at hlen j hk;have i:Tm.top (.alt a b) lo<l.length:=by simp only[Tm.top,Tm.size];omega
  generalize Tm.top (.alt a b) lo=r at *;have d:B0 l (r:Int)=true:=R0 (by omega) (by omega);have f:I0 8 out [O0 r]=true:=Y4 (by simp;omega);have p:B0 c (a.top lo:Int)=true:=R0 (by omega) (by rw[v.len];unfold Tm.top;omega);unfold X6;simp only[o7 (show r<=1000000000 by omega),f,if_true,d,hg,Tm.node,p,v.top a lo ha];have m:=g lo ha k (out++[O0 r]) (by omega) (by simp;omega);have o:=ihb (lo+a.size) t k (out++[O0 r]) (by omega) (by simp;omega);have e:I0 8 (out++[O0 r]++a.steps lo) [cls r]=true:=Y4 (by simp;omega);have u:I0 8 (out++[O0 r]++b.steps (lo+a.size)) [cls r]=true:=Y4 (by simp;omega);rw[show((4:Int)==3)=false from rfl,show((4:Int)==4)=true from rfl];cases a.can
  ·simp only[q0,o,W9 (show r<=1000000000 by omega),u];simp
  ·simp only[q0,m,W9 (show r<=1000000000 by omega),e];simp
 |star a g|maybe a g=>
  intro lo h k out hk j;obtain⟨k,rfl⟩:∃q,k=q+1:=⟨k-1,by simp[Tm.size]at hk;omega⟩
  have hlen:=h.len;have hg:=h.D2;simp only[Tm.steps];simp only[Tm.size]at hlen j hk;have i:=h.j5;generalize Tm.top _ lo=r at *;have d:B0 l (r:Int)=true:=R0 (by omega) (by omega);have f:∀x:Int,I0 8 out [x]=true:=fun x=>Y4 (by simp;omega);have e:∀x y:Int,I0 8 (out++[x]) [y]=true:=fun x y=>Y4 (by simp;omega);unfold X6;simp[o7 (show r<=1000000000 by omega),W9 (show r<=1000000000 by omega),f,e,d,hg,Tm.node]
 |group n a g|iter a g=>
  intro lo h k out hk j;obtain⟨k,rfl⟩:∃q,k=q+1:=⟨k-1,by simp[Tm.size]at hk;omega⟩
  have hlen:=h.len;have hg:=h.D2;obtain⟨ha,_⟩:=(At.un rfl rfl).1 h;have w:=a.X8 lo;simp only[Tm.steps];simp only[Tm.size]at hlen j hk;have i:=h.j5;generalize Tm.top _ lo=r at *;have d:B0 l (r:Int)=true:=R0 (by omega) (by omega);have f:I0 8 out [O0 r]=true:=Y4 (by simp;omega);have m:=g lo ha k (out++[O0 r]) (by omega) (by simp;omega);have e:I0 8 (out++[O0 r]++a.steps lo) [cls r]=true:=Y4 (by simp;omega);unfold X6;simp only[o7 (show r<=1000000000 by omega),f,if_true,d,hg,Tm.node];simp[m,W9 (show r<=1000000000 by omega)];simpa using e
def r0B {l:List C0}{c:List Bool}(w:n04 l c)(hl:l.length<=400)(fuel:Nat):∀(s:Tm) (lo:Nat),At l lo s->∀(k:Nat),s.size<=k->
  Y5 fuel k l c (s.top lo:Int)=some (s.steps lo):=by
 intro s
 induction s with
 |eps|leaf _=>
  intro lo h k hk;obtain⟨k,rfl⟩:∃q,k=q+1:=⟨k-1,by simp[Tm.size]at hk;omega⟩
  have hlen:=h.len;have hg:=h.D2;simp only[Tm.size]at hlen;have d:B0 l (lo:Int)=true:=R0 (by omega) (by omega);have f:∀x y:Int,I0 8 [x] [y]=true:=fun x y=>Y4 (by simp);simp only[Tm.top,Tm.size,add_sub_cancel]at hg ⊢;unfold Y5;simp[o7 (show lo<=1000000000 by omega),W9 (show lo<=1000000000 by omega),f,d,hg,Tm.node,Tm.steps]
 |cat a b e ihb=>
  intro lo h k hk;obtain⟨k,rfl⟩:∃q,k=q+1:=⟨k-1,by simp[Tm.size]at hk;omega⟩
  have hlen:=h.len;have hg:=h.D2;obtain⟨ha,v,_⟩:=(At.bin rfl rfl).1 h;have z:=a.X8 lo;have C:=b.X8 (lo+a.size);simp only[Tm.steps];simp only[Tm.size]at hlen hk;have g:Tm.top (.cat a b) lo<l.length:=by simp only[Tm.top,Tm.size];omega
  generalize Tm.top (.cat a b) lo=r at *;have d:B0 l (r:Int)=true:=R0 (by omega) (by omega);have o:=e lo ha k (by omega);have t:=ihb (lo+a.size) v k (by omega);have i:I0 8 [O0 r] (a.steps lo)=true:=Y4 (by simp;omega);have f:I0 8 ([O0 r]++a.steps lo) (b.steps (lo+a.size))=true:=Y4 (by simp;omega);have j:I0 8 (([O0 r]++a.steps lo)++b.steps (lo+a.size)) [cls r]=true:=Y4 (by simp;omega);unfold Y5;simp only[o7 (show r<=1000000000 by omega),if_true,d,hg,Tm.node,beq_self_eq_true,o,t,G0,i,f,W9 (show r<=1000000000 by omega),j];simp
 |alt a b e ihb=>
  intro lo h k hk;obtain⟨k,rfl⟩:∃q,k=q+1:=⟨k-1,by simp[Tm.size]at hk;omega⟩
  have hlen:=h.len;have hg:=h.D2;obtain⟨ha,v,_⟩:=(At.bin rfl rfl).1 h;have z:=a.X8 lo;have C:=b.X8 (lo+a.size);simp only[Tm.steps];simp only[Tm.size]at hlen hk;have g:Tm.top (.alt a b) lo<l.length:=by simp only[Tm.top,Tm.size];omega
  generalize Tm.top (.alt a b) lo=r at *;have d:B0 l (r:Int)=true:=R0 (by omega) (by omega);have u:B0 c (a.top lo:Int)=true:=R0 (by omega) (by rw[w.len];unfold Tm.top;omega);have o:=e lo ha k (by omega);have t:=ihb (lo+a.size) v k (by omega);have i:I0 8 [O0 r] (a.steps lo)=true:=Y4 (by simp;omega);have m:I0 8 [O0 r] (b.steps (lo+a.size))=true:=Y4 (by simp;omega);have j:I0 8 ([O0 r]++a.steps lo) [cls r]=true:=Y4 (by simp;omega);have p:I0 8 ([O0 r]++b.steps (lo+a.size)) [cls r]=true:=Y4 (by simp;omega);unfold Y5;simp only[o7 (show r<=1000000000 by omega),if_true,d,hg,Tm.node,u,w.top a lo ha];rw[show((4:Int)==3)=false from rfl,show((4:Int)==4)=true from rfl];cases a.can
  ·simp only[q0,t,m,W9 (show r<=1000000000 by omega),p]
  ·simp only[q0,o,i,W9 (show r<=1000000000 by omega),j]
 |star a e|maybe a e=>
  intro lo h k hk;obtain⟨k,rfl⟩:∃q,k=q+1:=⟨k-1,by simp[Tm.size]at hk;omega⟩
  have hlen:=h.len;have hg:=h.D2;simp only[Tm.steps];simp only[Tm.size]at hlen hk;have g:=h.j5;generalize Tm.top _ lo=r at *;have d:B0 l (r:Int)=true:=R0 (by omega) (by omega);have f:∀x y:Int,I0 8 [x] [y]=true:=fun x y=>Y4 (by simp);unfold Y5;simp[o7 (show r<=1000000000 by omega),W9 (show r<=1000000000 by omega),f,d,hg,Tm.node]
 |group n a e|iter a e=>
  intro lo h k hk;obtain⟨k,rfl⟩:∃q,k=q+1:=⟨k-1,by simp[Tm.size]at hk;omega⟩
  have hlen:=h.len;have hg:=h.D2;obtain⟨ha,_⟩:=(At.un rfl rfl).1 h;have z:=a.X8 lo;simp only[Tm.steps];simp only[Tm.size]at hlen hk;have g:=h.j5;generalize Tm.top _ lo=r at *;have d:B0 l (r:Int)=true:=R0 (by omega) (by omega);have o:=e lo ha k (by omega);have i:I0 8 [O0 r] (a.steps lo)=true:=Y4 (by simp;omega);have f:I0 8 ([O0 r]++a.steps lo) [cls r]=true:=Y4 (by simp;omega);unfold Y5;simp only[o7 (show r<=1000000000 by omega),if_true,d,hg,Tm.node];simp[o,i,W9 (show r<=1000000000 by omega)];simpa using f
def l0k {l:List C0}(hw:∀x∈l,o3 x){t:Tm}(d:O2 l t)(hR:K1 l=true){fuel:Nat}(g:401<fuel){lo:Nat}{s:Tm}(h:At l lo s):
  a0f fuel l (s.top lo:Int)=some (if s.can then s.steps lo else[]):=by
 have e:=d.le;have hlen:=d.len;have i:=h.len;have hp:=s.size_pos;have a:=g0B hR;have f:s.top lo<l.length:=by unfold Tm.top;omega
 have hn:¬((s.top lo:Int)>=((V8 l).length:Int)):=by rw[a.len];omega
 have b:¬((s.top lo:Int)<0):=by omega
 have c:B0 (V8 l) (s.top lo:Int)=true:=R0 (by omega) (by rw[a.len];omega);unfold a0f;rw[s0c hw g];simp only[q0,b,hn,c,a.top s lo h];cases s.can
 ·rfl
 ·rw[B0U a (by omega) fuel s lo h fuel [] (by omega) (by simp;omega)];rfl
def A0A {l:List C0}(hw:∀x∈l,o3 x){t:Tm}(d:O2 l t)(hR:K1 l=true){fuel:Nat}(g:401<fuel){lo:Nat}{s:Tm}(h:At l lo s):
  c0i fuel l (s.top lo:Int)=some (if s.can then s.steps lo else[]):=by
 have e:=d.le;have hlen:=d.len;have i:=h.len;have hp:=s.size_pos;have a:=g0B hR;have f:s.top lo<l.length:=by unfold Tm.top;omega
 have hn:¬((s.top lo:Int)>=((V8 l).length:Int)):=by rw[a.len];omega
 have b:¬((s.top lo:Int)<0):=by omega
 have c:B0 (V8 l) (s.top lo:Int)=true:=R0 (by omega) (by rw[a.len];omega);unfold c0i;rw[q0H hw (by omega) g (by omega)];simp only[q0,b,hn,c,a.top s lo h];cases s.can
 ·rfl
 ·rw[r0B a (by omega) fuel s lo h fuel (by omega)];rfl
def Tm.Q0 (lo p:Nat)(ahead:List Int):Tm->List y0
 |.eps=>[]
 |.leaf _=>[⟨(p:Int),0,ahead++[O0 lo]⟩]
 |.cat a b=>a.Q0 lo p (ahead++[O0 (Tm.top (.cat a b) lo)])++(if a.can then b.Q0 (lo+a.size) (p+a.leaves) (ahead++[O0 (Tm.top (.cat a b) lo)]++a.steps lo)else[])
 |.alt a b=>a.Q0 lo p (ahead++[O0 (Tm.top (.alt a b) lo)])++b.Q0 (lo+a.size) (p+a.leaves) (ahead++[O0 (Tm.top (.alt a b) lo)])
 |.star a=>a.Q0 lo p (ahead++[O0 (Tm.top (.star a) lo)])
 |.maybe a=>a.Q0 lo p (ahead++[O0 (Tm.top (.maybe a) lo)])
 |.group n a=>a.Q0 lo p (ahead++[O0 (Tm.top (.group n a) lo)])
 |.iter a=>a.Q0 lo p (ahead++[O0 (Tm.top (.iter a) lo)])
def Tm.a0V (t:Tm):∀lo p ahead,(t.Q0 lo p ahead).length<=t.leaves:=by
 induction t with
 |eps=>intro lo p ahead;simp[Tm.Q0]
 |leaf s=>intro lo p ahead;simp[Tm.Q0,Tm.leaves]
 |cat a b c ihb=>
  intro lo p ahead;have:=c lo p (ahead++[O0 (Tm.top (.cat a b) lo)]);have:=ihb (lo+a.size) (p+a.leaves) (ahead++[O0 (Tm.top (.cat a b) lo)]++a.steps lo);simp only[Tm.Q0,Tm.leaves];split<;>simp only[length_append,length_nil]<;>omega
 |alt a b c ihb=>
  intro lo p ahead;have:=c lo p (ahead++[O0 (Tm.top (.alt a b) lo)]);have:=ihb (lo+a.size) (p+a.leaves) (ahead++[O0 (Tm.top (.alt a b) lo)]);simp only[Tm.Q0,Tm.leaves,length_append];omega
 |star a c|maybe a c|group _ a c|iter a c=>intro lo p ahead;exact c _ _ _
def b9 {l:List C0}:∀{s:Tm} {lo:Nat},At l lo s->L0 l (lo+s.size)=L0 l lo+s.leaves:=by
 intro s
 induction s with
 |eps=>intro lo h;have hg:=h.D2;simp only[Tm.top,Tm.size,add_sub_cancel]at hg;simp[Tm.size,L0,hg,Tm.node,Tm.leaves]
 |leaf s=>intro lo h;have hg:=h.D2;simp only[Tm.top,Tm.size,add_sub_cancel]at hg;simp[Tm.size,L0,hg,Tm.node,Tm.leaves]
 |cat a b c d|alt a b c d=>
  intro lo h;have hg:=h.D2;obtain⟨ha,f,_⟩:=(At.bin rfl rfl).1 h;simp only[Tm.top,Tm.size]at hg;have e:lo+(a.size+b.size+1)-1=lo+a.size+b.size:=by omega
  rw[e]at hg;simp only[Tm.size,<-Nat.add_assoc,L0,hg,Tm.node,Tm.leaves,d f,c ha];simp
 |star a c|maybe a c|group _ a c|iter a c=>
  intro lo h;have hg:=h.D2;obtain⟨ha,_⟩:=(At.un rfl rfl).1 h;simp only[Tm.top,Tm.size]at hg;have e:lo+(a.size+1)-1=lo+a.size:=by omega
  rw[e]at hg;simp only[Tm.size,<-Nat.add_assoc,L0,hg,Tm.node,Tm.leaves,c ha];simp
def d0t {fuel:Nat}{a b:List Int}(h:(a.length+b.length)*8<=140737488355328):I8 fuel a b=some (a++b):=by
 have d:I4 a 0 (a.length:Int)=true:=by simp[I4]
 have c:I1 a 0 (a.length:Int)=a:=by simp[I1]
 have ha:I0 8 a b=true:=Y4 h;unfold I8;simp[d,c,ha]
def e03 {fuel:Nat}{a b:List Int}(h:(a.length+b.length)*8<=140737488355328):K9 fuel a b=some (a++b):=by
 have h1:I0 8 ([]:List Int) a=true:=Y4 (by simp;omega);have c:I0 8 a b=true:=Y4 h;unfold K9;simp[h1,c]
structure h0m (c:U4)(l:List C0)(t:Tm):Prop where
 tl:c.l=l
 up:UpT c.up t
 deep:b00 c.deep t
 index:c.index=C7 l l.length
 can:c.can=V8 l
def p0L {l:List C0}{lo:Nat}{s:List Int}(h:At l lo (.leaf s)):B0 (C7 l l.length) (lo:Int)=true/\gt (C7 l l.length) (lo:Int)=(L0 l lo:Int):=by
 have hlen:=h.len;have hg:=h.D2;simp only[Tm.top,Tm.size,add_sub_cancel]at hg hlen;refine⟨R0 (by omega) (by rw[d0d];omega),?_⟩;rw[B4 (p0e l l.length lo (by omega)),hg];simp[Tm.node]
def n05 {l:List C0}(hw:∀x∈l,o3 x){t:Tm}(C:O2 l t)(hR:K1 l=true){c:U4}(u:h0m c l t){fuel:Nat}(hf:401<fuel):
  ∀(s:Tm) (lo:Nat),At l lo s->∀(k:Nat) (ahead:List Int) (out:List y0),s.size<=k->ahead.length+1000*s.size<=1000000000->out.length+s.size<=1000000000->
   e6 fuel k c (s.top lo:Int) ahead out=some (out++s.Q0 lo (L0 l lo) ahead):=by
 have U:=C.le;have v:=C.len;have i:=u.tl;have w:=u.index;have z:=u.can;have o:=g0B hR;intro s
 induction s with
 |eps=>
  intro lo h k ahead out hk j e;obtain⟨k,rfl⟩:∃q,k=q+1:=⟨k-1,by simp[Tm.size]at hk;omega⟩
  have g:=h.j5;have hg:=h.D2;simp only[Tm.size]at j e;generalize Tm.top _ lo=r at *;have d:B0 l (r:Int)=true:=R0 (by omega) (by omega);unfold e6;simp only[i,d,if_true,o7 (show r<=1000000000 by omega),d0t (fuel:=fuel) (a:=ahead) (b:=[O0 r]) (by simp;omega),G0,hg,Tm.node];simp[Tm.Q0]
 |leaf s=>
  intro lo h k ahead out hk j e;obtain⟨k,rfl⟩:∃q,k=q+1:=⟨k-1,by simp[Tm.size]at hk;omega⟩
  have g:=h.j5;have hg:=h.D2;obtain⟨i1,i2⟩:=p0L h;simp only[Tm.size]at j e;simp only[Tm.top,Tm.size,add_sub_cancel]at hg g ⊢;have d:B0 l (lo:Int)=true:=R0 (by omega) (by omega);have J:∀x:y0,I0 40 out [x]=true:=fun x=>Y4 (by simp;omega);unfold e6;simp only[i,d,if_true,o7 (show lo<=1000000000 by omega),d0t (fuel:=fuel) (a:=ahead) (b:=[O0 lo]) (by simp;omega),G0,hg,Tm.node,w,i1,i2,J];simp[Tm.Q0]
 |cat a b f ihb=>
  intro lo h k ahead out hk j e;obtain⟨k,rfl⟩:∃q,k=q+1:=⟨k-1,by simp[Tm.size]at hk;omega⟩
  have g:=h.j5;have hlen:=h.len;have hg:=h.D2;obtain⟨ha,I,_⟩:=(At.bin rfl rfl).1 h;have sa:=a.X8 lo;have la:=a.a0V lo (L0 l lo) (ahead++[O0 (Tm.top (.cat a b) lo)]);have R:=a.a0D;simp only[Tm.Q0];simp only[Tm.size]at hlen j e hk;generalize Tm.top (.cat a b) lo=r at *;have d:B0 l (r:Int)=true:=R0 (by omega) (by omega);have y:B0 (V8 l) (a.top lo:Int)=true:=R0 (by omega) (by rw[o.len];have:=ha.j5;omega);have p:=f lo ha k (ahead++[O0 r]) out (by omega) (by simp;omega) (by omega);have n:=ihb (lo+a.size) I k (ahead++[O0 r]++a.steps lo) (out++a.Q0 lo (L0 l lo) (ahead++[O0 r])) (by omega) (by simp;omega) (by simp;omega);rw[b9 ha]at n;unfold e6;simp only[i,d,if_true,o7 (show r<=1000000000 by omega),d0t (fuel:=fuel) (a:=ahead) (b:=[O0 r]) (by simp;omega),G0,hg,Tm.node,p,z,y,o.top a lo ha];rw[show((3:Int)==2)=false from rfl,show((3:Int)==3)=true from rfl];cases m:a.can
  ·simp
  ·simp only[false_eq_true,if_false,if_true,l0k hw C hR hf ha,m,G0,d0t (fuel:=fuel) (a:=ahead++[O0 r]) (b:=a.steps lo) (by simp;omega),n];simp
 |alt a b f ihb=>
  intro lo h k ahead out hk j e;obtain⟨k,rfl⟩:∃q,k=q+1:=⟨k-1,by simp[Tm.size]at hk;omega⟩
  have g:=h.j5;have hlen:=h.len;have hg:=h.D2;obtain⟨ha,I,_⟩:=(At.bin rfl rfl).1 h;have la:=a.a0V lo (L0 l lo) (ahead++[O0 (Tm.top (.alt a b) lo)]);have R:=a.a0D;simp only[Tm.Q0];simp only[Tm.size]at hlen j e hk;generalize Tm.top (.alt a b) lo=r at *;have d:B0 l (r:Int)=true:=R0 (by omega) (by omega);have p:=f lo ha k (ahead++[O0 r]) out (by omega) (by simp;omega) (by omega);have n:=ihb (lo+a.size) I k (ahead++[O0 r]) (out++a.Q0 lo (L0 l lo) (ahead++[O0 r])) (by omega) (by simp;omega) (by simp;omega);rw[b9 ha]at n;unfold e6;simp only[i,d,if_true,o7 (show r<=1000000000 by omega),d0t (fuel:=fuel) (a:=ahead) (b:=[O0 r]) (by simp;omega),G0,hg,Tm.node,p,n];simp
 |star a f|maybe a f|group _ a f|iter a f=>
  intro lo h k ahead out hk j e;obtain⟨k,rfl⟩:∃q,k=q+1:=⟨k-1,by simp[Tm.size]at hk;omega⟩
  have g:=h.j5;have hlen:=h.len;have hg:=h.D2;obtain⟨ha,_⟩:=(At.un rfl rfl).1 h;simp only[Tm.Q0];simp only[Tm.size]at hlen j e hk;generalize Tm.top _ lo=r at *;have d:B0 l (r:Int)=true:=R0 (by omega) (by omega);have p:=f lo ha k (ahead++[O0 r]) out (by omega) (by simp;omega) (by omega);unfold e6;simp only[i,d,if_true,o7 (show r<=1000000000 by omega),d0t (fuel:=fuel) (a:=ahead) (b:=[O0 r]) (by simp;omega),G0,hg,Tm.node,p];simp
def B00 {l:List C0}{t:Tm}(y:O2 l t)(hR:K1 l=true){fuel:Nat}(R:401<fuel):
  ∀(s:Tm) (lo:Nat),At l lo s->∀(k:Nat) (ahead:List Int),s.size<=k->ahead.length+1000*s.size<=1000000000->
   O6 fuel k l (C7 l l.length) (V8 l) (s.top lo:Int) ahead=some (s.Q0 lo (L0 l lo) ahead):=by
 have x:=y.le;have n:=y.len;have g:=g0B hR;intro s
 induction s with
 |eps=>
  intro lo h k ahead hk f;obtain⟨k,rfl⟩:∃q,k=q+1:=⟨k-1,by simp[Tm.size]at hk;omega⟩
  have e:=h.j5;have hg:=h.D2;simp only[Tm.size]at f;generalize Tm.top _ lo=r at *;have c:B0 l (r:Int)=true:=R0 (by omega) (by omega);unfold O6;simp only[c,if_true,o7 (show r<=1000000000 by omega),e03 (fuel:=fuel) (a:=ahead) (b:=[O0 r]) (by simp;omega),G0,hg,Tm.node];simp[Tm.Q0]
 |leaf s=>
  intro lo h k ahead hk f;obtain⟨k,rfl⟩:∃q,k=q+1:=⟨k-1,by simp[Tm.size]at hk;omega⟩
  have e:=h.j5;have hg:=h.D2;obtain⟨I,i2⟩:=p0L h;simp only[Tm.size]at f;simp only[Tm.top,Tm.size,add_sub_cancel]at hg e ⊢;have c:B0 l (lo:Int)=true:=R0 (by omega) (by omega);unfold O6;simp only[c,if_true,o7 (show lo<=1000000000 by omega),e03 (fuel:=fuel) (a:=ahead) (b:=[O0 lo]) (by simp;omega),G0,hg,Tm.node,I,i2];simp[Tm.Q0]
 |cat a b d ihb=>
  intro lo h k ahead hk f;obtain⟨k,rfl⟩:∃q,k=q+1:=⟨k-1,by simp[Tm.size]at hk;omega⟩
  have e:=h.j5;have hlen:=h.len;have hg:=h.D2;obtain⟨ha,u,_⟩:=(At.bin rfl rfl).1 h;have J:=a.X8 lo;have C:=a.a0V lo (L0 l lo) (ahead++[O0 (Tm.top (.cat a b) lo)]);have v:=a.a0D;have z:=b.a0V (lo+a.size) (L0 l lo+a.leaves) (ahead++[O0 (Tm.top (.cat a b) lo)]++a.steps lo);have p:=b.a0D;simp only[Tm.Q0];simp only[Tm.size]at hlen f hk;generalize Tm.top (.cat a b) lo=r at *;have c:B0 l (r:Int)=true:=R0 (by omega) (by omega);have o:B0 (V8 l) (a.top lo:Int)=true:=R0 (by omega) (by rw[g.len];have:=ha.j5;omega);have m:=d lo ha k (ahead++[O0 r]) (by omega) (by simp;omega);have j:=ihb (lo+a.size) u k (ahead++[O0 r]++a.steps lo) (by omega) (by simp;omega);rw[b9 ha]at j;unfold O6;simp only[c,if_true,o7 (show r<=1000000000 by omega),e03 (fuel:=fuel) (a:=ahead) (b:=[O0 r]) (by simp;omega),G0,hg,Tm.node,m,o,g.top a lo ha];rw[show((3:Int)==2)=false from rfl,show((3:Int)==3)=true from rfl];cases w:a.can
  ·simp
  ·have i:I0 40 (a.Q0 lo (L0 l lo) (ahead++[O0 r])) (b.Q0 (lo+a.size) (L0 l lo+a.leaves) (ahead++[O0 r]++a.steps lo))=true:=Y4 (by omega);simp only[false_eq_true,if_false,if_true,r0B g (by omega) fuel a lo ha fuel (by omega),G0,e03 (fuel:=fuel) (a:=ahead++[O0 r]) (b:=a.steps lo) (by simp;omega),j,i]
 |alt a b d ihb=>
  intro lo h k ahead hk f;obtain⟨k,rfl⟩:∃q,k=q+1:=⟨k-1,by simp[Tm.size]at hk;omega⟩
  have e:=h.j5;have hlen:=h.len;have hg:=h.D2;obtain⟨ha,u,_⟩:=(At.bin rfl rfl).1 h;have C:=a.a0V lo (L0 l lo) (ahead++[O0 (Tm.top (.alt a b) lo)]);have v:=a.a0D;have z:=b.a0V (lo+a.size) (L0 l lo+a.leaves) (ahead++[O0 (Tm.top (.alt a b) lo)]);have p:=b.a0D;simp only[Tm.Q0];simp only[Tm.size]at hlen f hk;generalize Tm.top (.alt a b) lo=r at *;have c:B0 l (r:Int)=true:=R0 (by omega) (by omega);have m:=d lo ha k (ahead++[O0 r]) (by omega) (by simp;omega);have j:=ihb (lo+a.size) u k (ahead++[O0 r]) (by omega) (by simp;omega);rw[b9 ha]at j;have i:I0 40 (a.Q0 lo (L0 l lo) (ahead++[O0 r])) (b.Q0 (lo+a.size) (L0 l lo+a.leaves) (ahead++[O0 r]))=true:=Y4 (by omega);unfold O6;simp only[c,if_true,o7 (show r<=1000000000 by omega),e03 (fuel:=fuel) (a:=ahead) (b:=[O0 r]) (by simp;omega),G0,hg,Tm.node,m,j,i];simp
 |star a d|maybe a d|group _ a d|iter a d=>
  intro lo h k ahead hk f;obtain⟨k,rfl⟩:∃q,k=q+1:=⟨k-1,by simp[Tm.size]at hk;omega⟩
  have e:=h.j5;have hlen:=h.len;have hg:=h.D2;obtain⟨ha,_⟩:=(At.un rfl rfl).1 h;simp only[Tm.Q0];simp only[Tm.size]at hlen f hk;generalize Tm.top _ lo=r at *;have c:B0 l (r:Int)=true:=R0 (by omega) (by omega);have m:=d lo ha k (ahead++[O0 r]) (by omega) (by simp;omega);unfold O6;simp only[c,if_true,o7 (show r<=1000000000 by omega),e03 (fuel:=fuel) (a:=ahead) (b:=[O0 r]) (by simp;omega),G0,hg,Tm.node,m];simp
inductive Fr where
 |catL (b:Tm)|catR (a:Tm)|altL (b:Tm)|altR (a:Tm)|star|maybe|group (n:Int)|iter
def Fr.E2 (s:Tm):Fr->Tm
 |.catL b=>.cat s b|.catR a=>.cat a s|.altL b=>.alt s b|.altR a=>.alt a s
 |.star=>.star s|.maybe=>.maybe s|.group n=>.group n s|.iter=>.iter s
def Fr.off:Fr->Nat
 |.catR a=>a.size|.altR a=>a.size|_=>0
def Fr.v7:Fr->Nat
 |.catR a=>a.leaves|.altR a=>a.leaves|_=>0
def Ctx (t:Tm):Nat->Tm->List Fr->Prop
 |lo,s,[]=>lo=0/\s=t
 |lo,s,f :: fs=>f.off<=lo/\Ctx t (lo-f.off) (f.E2 s) fs
def Ctx.size {t:Tm}:∀{fs:List Fr} {lo:Nat} {s:Tm},Ctx t lo s fs->fs.length+s.size<=t.size
 |[],lo,s,⟨_,h⟩=>by subst h;simp
 |f :: fs,lo,s,⟨_,h⟩=>by
  have:=Ctx.size h;cases f<;>simp[Fr.E2,Tm.size]at this ⊢<;>omega
structure Part (l:List C0)(u d:List Int)(lo:Nat)(s:Tm)(k:Nat):Prop where
 at_:At l lo s
 up:J8 u lo s
 deep:G7 d lo k s
def Ctx.part {l:List C0}{t:Tm}{u d:List Int}(i:O2 l t)(hu:UpT u t)(hd:b00 d t):∀{fs:List Fr} {lo:Nat} {s:Tm},Ctx t lo s fs->Part l u d lo s (fs.length+1)
 |[],lo,s,⟨h1,c⟩=>by subst h1;subst c;exact⟨i.at0,hu.inner,hd.deep⟩
 |f :: fs,lo,s,⟨ho,h⟩=>by
  obtain⟨h1,c,g⟩:=Ctx.part i hu hd h;cases f<;>simp only[Fr.E2,Fr.off,sub_zero]at h1 c g ho
  case catL b=>exact⟨((At.bin rfl rfl).1 h1).1,c.2.2.1,g.2.1⟩
  case altL b=>exact⟨((At.bin rfl rfl).1 h1).1,c.2.2.1,g.2.1⟩
  case catR a=>
   have e:lo-a.size+a.size=lo:=by omega
   have:=((At.bin rfl rfl).1 h1).2.1;have g2:=c.2.2.2;have g3:=g.2.2;rw[e]at this g2 g3;exact⟨this,g2,g3⟩
  case altR a=>
   have e:lo-a.size+a.size=lo:=by omega
   have:=((At.bin rfl rfl).1 h1).2.1;have g2:=c.2.2.2;have g3:=g.2.2;rw[e]at this g2 g3;exact⟨this,g2,g3⟩
  all_goals exact⟨((At.un rfl rfl).1 h1).1,c.2,g.2⟩
def Ctx.r0u {l:List C0}{t:Tm}{u d:List Int}(g:O2 l t)(hu:UpT u t)(hd:b00 d t){f:Fr}{fs:List Fr}{lo:Nat}{s:Tm}(h:Ctx t lo s (f :: fs)):
  gt u (s.top lo:Int)=((f.E2 s).top (lo-f.off):Int):=by
 obtain⟨i,h⟩:=h;obtain⟨h1,c,j⟩:=Ctx.part g hu hd h;cases f<;>simp only[Fr.E2,Fr.off,sub_zero]at h1 c j i ⊢
 case catL b=>exact c.1
 case altL b=>exact c.1
 case catR a=>
  have e:lo-a.size+a.size=lo:=by omega
  have:=c.2.1
  rwa [e]at this
 case altR a=>
  have e:lo-a.size+a.size=lo:=by omega
  have:=c.2.1
  rwa [e]at this
 all_goals exact c.1
def Ctx.root {t:Tm}{u:List Int}(hu:UpT u t){lo:Nat}{s:Tm}(h:Ctx t lo s []):gt u (s.top lo:Int)=-1:=by
 obtain⟨rfl,rfl⟩:=h;exact hu.root
def a6 (d:Int):List y0->List y0->List y0
 |out,[]=>out
 |out,h :: r=>a6 d (if out.any (fun x=>x.To==h.To)then out else out++[⟨h.To,d,h.Steps⟩]) r
def f0h (d:Int):∀(r out:List y0),(a6 d out r).length<=out.length+r.length
 |[],out=>by simp[a6]
 |h :: r,out=>by
  simp only[a6,length_cons];cases out.any (fun x=>x.To==h.To)with
  |true=>have:=f0h d r out;simp only[if_true];omega
  |false=>have:=f0h d r (out++[⟨h.To,d,h.Steps⟩]);simp only[false_eq_true,if_false];simp only[length_append,length_cons,length_nil]at this;omega
def n4 (lo p:Nat)(s:Tm)(st:List Int)(out:List y0):List Fr->List y0×List Int×Bool
 |[]=>(out,st,true)
 |.catL b :: fs=>
  if b.can then n4 lo p (.cat s b) (st++b.steps (lo+s.size)++[cls (Tm.top (.cat s b) lo)]) (a6 (fs.length+1:Nat) out (b.Q0 (lo+s.size) (p+s.leaves) st)) fs
  else(a6 (fs.length+1:Nat) out (b.Q0 (lo+s.size) (p+s.leaves) st),[],false)
 |.star :: fs=>n4 lo p (.star s) (st++[cls (Tm.top (.star s) lo)]) (a6 (fs.length+1:Nat) out (s.Q0 lo p st)) fs
 |f :: fs=>n4 (lo-f.off) (p-f.v7) (f.E2 s) (st++[cls ((f.E2 s).top (lo-f.off))]) out fs
def z01 {l:List C0}{t:Tm}{u d:List Int}(b:O2 l t)(hu:UpT u t)(hd:b00 d t){f:Fr}{fs:List Fr}{lo:Nat}{s:Tm}(h:Ctx t lo s (f :: fs)):L0 l (lo-f.off)=L0 l lo-f.v7:=by
 obtain⟨c,h⟩:=h;obtain⟨h1,g,e⟩:=Ctx.part b hu hd h;clear g e;cases f<;>simp only[Fr.E2,Fr.off,Fr.v7,sub_zero]at h1 c ⊢
 case catR a=>
  have:=b9 ((At.bin rfl rfl).1 h1).1;rw[show lo-a.size+a.size=lo from by omega]at this;omega
 case altR a=>
  have:=b9 ((At.bin rfl rfl).1 h1).1;rw[show lo-a.size+a.size=lo from by omega]at this;omega
def y0G (fuel:Nat)(out:List y0)(h:y0)(g:out.length<fuel)(hl:out.length<=1000000000):j0G fuel out h=some (out.any fun x=>x.To==h.To):=by
 have key:∀(k i:Nat),i+k=out.length->∀m,k<m->∃t,iter (d01 fuel out h) m (i:Int)=some t/\(match t with|.inl _=>(out.drop i).any (fun x=>x.To==h.To)=false|.inr r=>0<=r/\(out.drop i).any (fun x=>x.To==h.To)=true):=by
  intro k
  induction k with
  |zero=>
   intro i hi m hm;obtain⟨m,rfl⟩:∃q,m=q+1:=⟨m-1,by omega⟩
   refine⟨.inl (),?_,?_⟩
   ·unfold iter d01;have:¬((i:Int)<(out.length:Int)):=by omega
    simp[this]
   ·rw[List.drop_of_length_le (by omega)];rfl
  |succ k ih=>
   intro i hi m hm;obtain⟨m,rfl⟩:∃q,m=q+1:=⟨m-1,by omega⟩
   have b:i<out.length:=by omega
   have d:B0 out (i:Int)=true:=R0 (by omega) (by omega);have hg:gt out (i:Int)=out[i]:=B4 (by simp[b]);have hd:out.drop i=out[i] :: out.drop (i+1):=List.drop_eq_getElem_cons b;have e:(i:Int)<(out.length:Int):=by omega
   have f:d01 fuel out h (i:Int)=if(out[i].To==h.To)=true then some (.done (.inr (i:Int)))else some (.next ((i+1:Nat):Int)):=by
    unfold d01 o0n;simp only[q0,e,d,hg,G3 (show i<9223372036854775807 by omega)]
   unfold iter;rw[f]
   by_cases c:(out[i].To==h.To)=true
   ·rw[if_pos c];exact⟨_,rfl,by omega,by rw[hd];simp only[any_cons,c,Bool.true_or]⟩
   ·rw[if_neg c];obtain⟨t,h1,a⟩:=ih (i+1) (by omega) m (by omega);refine⟨t,h1,?_⟩;rw[hd];have c':(out[i].To==h.To)=false:=by simpa using c
    cases t with
    |inl _=>simp only[any_cons,c',Bool.false_or];exact a
    |inr r=>simp only[any_cons,c',Bool.false_or];exact a
 obtain⟨t,h1,a⟩:=key out.length 0 (by omega) fuel (by omega);unfold j0G l0M;rw[show(0:Int)=((0:Nat):Int)from rfl,h1];rw[List.drop_zero]at a;cases t with
 |inl _=>simp only[G0];rw[a];rfl
 |inr r=>simp only[G0];rw[a.2];simp[a.1]
def drop_cons {α:Type}[Inhabited α]{l:List α}{i:Nat}(h:i<l.length):l.drop i=gt l (i:Int) :: l.drop (i+1):=by
 rw[List.drop_eq_getElem_cons h,B4 (x:=l[i]) (by simp[h])]
def u0K {fuel:Nat}{c:U4}{at_:Nat}{d:Int}{goal:Int}{st:List Int}{out hops:List y0}(a:e6 fuel fuel c goal st []=some hops)(hd:B0 c.deep (at_:Int)=true)(e:gt c.deep (at_:Int)=d)
  (n:out.length+hops.length<=1000000) (p:1000001<fuel):a01 fuel c (at_:Int) goal st out=some (a6 d out hops):=by
 have key:∀(k i:Nat) (o:List y0),i+k=hops.length->o.length+k<=1000000->∀m,k<m->iter (d0H fuel c (at_:Int) out hops) m (o,(i:Int))=some (a6 d o (hops.drop i)):=by
  intro k
  induction k with
  |zero=>
   intro i o hi l m hm;obtain⟨m,rfl⟩:∃q,m=q+1:=⟨m-1,by omega⟩
   rw[List.drop_of_length_le (by omega)];unfold iter d0H;have:¬((i:Int)<(hops.length:Int)):=by omega
   simp[this,a6]
  |succ k ih=>
   intro i o hi l m hm;obtain⟨m,rfl⟩:∃q,m=q+1:=⟨m-1,by omega⟩
   have j:i<hops.length:=by omega
   have b:B0 hops (i:Int)=true:=R0 (by omega) (by omega);have f:(i:Int)<(hops.length:Int):=by omega
   have g:∀x:y0,I0 40 o [x]=true:=fun x=>Y4 (by simp;omega);have h:d0H fuel c (at_:Int) out hops (o,(i:Int))=some (.next ((if o.any (fun x=>x.To==(gt hops (i:Int)).To)then o else o++[⟨(gt hops (i:Int)).To,d,(gt hops (i:Int)).Steps⟩]),((i+1:Nat):Int))):=by
    unfold d0H;simp only[q0,f,b,y0G fuel o (gt hops (i:Int)) (by omega) (by omega),hd,e,g,G3 (show i<9223372036854775807 by omega)];cases o.any (fun x=>x.To==(gt hops (i:Int)).To)<;>simp
   unfold iter;rw[h,drop_cons j];simp only[a6];refine ih (i+1) _ (by omega) ?_ m (by omega);split
   ·omega
   ·simp only[length_append,length_cons,length_nil];omega
 unfold a01;rw[a];simp only[G0];rw[show(0:Int)=((0:Nat):Int)from rfl,key hops.length 0 out (by omega) (by omega) fuel (by omega)];simp
def E0h {l:List C0}(hw:∀x∈l,o3 x){t:Tm}(C:O2 l t)(hR:K1 l=true){c:U4}(p:h0m c l t){fuel:Nat}(hf:1000001<fuel)(p1:Int):
  ∀(fs:List Fr) (lo:Nat) (s:Tm) (st:List Int) (out:List y0),Ctx t lo s fs->st.length+1000*fs.length<=500000->out.length+1000*fs.length<=500000->∀m,fs.length<m->
   ∃r,iter (b0G fuel c p1) m ((s.top lo:Int),st,out,gt c.up (s.top lo:Int))=some r/\
    (match r with|.inl (y1,y2)=>(y2,y1,true)|.inr (I,z2)=>(I,z2,false))=n4 lo (L0 l lo) s st out fs/\(∀I z2,r=.inr (I,z2)->z2=[]):=by
 have h6:=C.le;have c5:=C.len;have c0:=p.tl;have h0:=p.can;have b5:=g0B hR;intro fs
 induction fs with
 |nil=>
  intro lo s st out z h1 h2 m hm;obtain⟨m,rfl⟩:∃q,m=q+1:=⟨m-1,by omega⟩
  refine⟨.inl (st,out),?_,rfl,fun _ _ h=>by cases h⟩;rw[z.root p.up];unfold iter b0G;simp
 |cons f fs ih=>
  intro lo s st out z h1 h2 m hm;obtain⟨m,rfl⟩:∃q,m=q+1:=⟨m-1,by omega⟩
  have c8:=z.part C p.up p.deep;have g:=z.2.part C p.up p.deep;have a1:=z.r0u C p.up p.deep;have U:=z.2;have R:=z01 C p.up p.deep z;have h5:=z.size;simp only[length_cons]at h1 h2 hm h5;rw[a1];have h7:=g.at_.j5;have hg:=g.at_.D2;have b3:=g.deep.top;generalize j:lo-f.off=lo' at *;generalize v:(f.E2 s).top lo'=r at *;have e5:B0 l (r:Int)=true:=R0 (by omega) (by omega);have c4:B0 c.up (r:Int)=true:=R0 (by omega) (by rw[p.up.len];omega);have b1:B0 c.deep (r:Int)=true:=R0 (by omega) (by rw[p.deep.len];omega);have h3:(r:Int)>=0:=by omega
  have b2:W (W (2*(r:Int))+1)=cls r:=by rw[o7 (by omega),W9 (by omega)]
  have next:∀(y:List Int) (w:List y0),y.length<=st.length+900->(Option.bind (I8 fuel y [W (W (2*(r:Int))+1)]) fun e4=>if B0 c.up (r:Int)=true then(some (.next ((r:Int),e4,w,gt c.up (r:Int))):Option (V0 (Int×List Int×List y0×Int) ((List Int×List y0)⊕((List y0)×(List Int)))))else none)=some (.next ((r:Int),y++[cls r],w,gt c.up (r:Int))):=fun y w hs=>by
   rw[b2,d0t (fuel:=fuel) (a:=y) (b:=[cls r]) (by simp;omega),c4];rfl
  have plain:∀(h8:List Fr),n4 lo (L0 l lo) s st out (f :: fs)=n4 lo' (L0 l lo') (f.E2 s) (st++[cls r]) out fs->b0G fuel c p1 ((s.top lo:Int),st,out,(r:Int))=some (.next ((r:Int),st++[cls r],out,gt c.up (r:Int)))->
    ∃r',iter (b0G fuel c p1) (m+1) ((s.top lo:Int),st,out,(r:Int))=some r'/\(match r' with|.inl (y1,y2)=>(y2,y1,true)|.inr (I,z2)=>(I,z2,false))=n4 lo (L0 l lo) s st out (f :: fs)/\(∀I z2,r'=.inr (I,z2)->z2=[]):=fun _ e1 e2=>by
   unfold iter;rw[e1,e2];have:=ih lo' (f.E2 s) (st++[cls r]) out U (by simp;omega) (by omega) m (by omega);rw[v]at this;exact this
  have e:b0G fuel c p1 ((s.top lo:Int),st,out,(r:Int))=b0G fuel c p1 ((s.top lo:Int),st,out,(r:Int)):=rfl
  conv at e=>rhs;unfold b0G
  simp only[h3,decide_true,if_true,c0,e5,hg]at e;cases f with
  |catL b=>
   simp only[Fr.E2,Fr.off,sub_zero]at j v hg g e;subst j;obtain⟨u,k,_⟩:=(At.bin rfl rfl).1 g.at_;have e3:=b.a0V (lo+s.size) (L0 l lo+s.leaves) st;have c6:=b.a0D;have i1:=b.X8 (lo+s.size);have h4:b.size<=400:=by have:=k.len;omega
   have i:=n05 hw C hR p (show 401<fuel by omega) b (lo+s.size) k fuel st [] (by omega) (by omega) (by simp;omega);rw[b9 u,List.nil_append]at i;have o:=u0K (at_:=r) (d:=(fs.length+1:Nat)) (st:=st) (out:=out) i b1 b3 (by omega) hf;have b4:B0 (V8 l) (b.top (lo+s.size):Int)=true:=R0 (by omega) (by rw[b5.len];have:=k.j5;omega);simp only[Tm.node,beq_self_eq_true,if_true,G0,o,h0,b4,b5.top b _ k]at e;have c3:=f0h ((fs.length+1:Nat):Int) (b.Q0 (lo+s.size) (L0 l lo+s.leaves) st) out;simp only[n4];cases J:b.can with
   |false=>
    simp only[q0,J]at e;refine⟨_,by unfold iter;rw[e],?_,fun I z2 h=>by cases h;rfl⟩;simp
   |true=>
    simp only[q0,J,l0k hw C hR (show 401<fuel by omega) k,d0t (fuel:=fuel) (a:=st) (b:=b.steps (lo+s.size)) (by omega)]at e;rw[next _ _ (by simp;omega)]at e;unfold iter;rw[e];have:=ih lo (.cat s b) (st++b.steps (lo+s.size)++[cls r]) (a6 ((fs.length+1:Nat):Int) out (b.Q0 (lo+s.size) (L0 l lo+s.leaves) st)) U (by simp;omega) (by omega) m (by omega);rw[v]at this;rw[if_pos rfl,v];exact this
  |star=>
   simp only[Fr.E2,Fr.off,sub_zero]at j v hg g e;subst j;obtain⟨u,_⟩:=(At.un rfl rfl).1 g.at_;have e3:=s.a0V lo (L0 l lo) st;have c6:=s.a0D;have h4:s.size<=400:=by have:=u.len;omega
   have i:=n05 hw C hR p (show 401<fuel by omega) s lo u fuel st [] (by omega) (by omega) (by simp;omega);rw[List.nil_append]at i;have o:=u0K (at_:=r) (d:=(fs.length+1:Nat)) (st:=st) (out:=out) i b1 b3 (by omega) hf;simp only[q0,Tm.node,show((5:Int)==3)=false from rfl,beq_self_eq_true,o]at e;rw[next _ _ (by omega)]at e;have c3:=f0h ((fs.length+1:Nat):Int) (s.Q0 lo (L0 l lo) st) out;simp only[n4];unfold iter;rw[e];have:=ih lo (.star s) (st++[cls r]) (a6 ((fs.length+1:Nat):Int) out (s.Q0 lo (L0 l lo) st)) U (by simp;omega) (by omega) m (by omega);rw[v]at this;rw[v];exact this
  |catR a=>
   simp only[Fr.E2,Fr.off]at j v hg g e;have h9:=s.size_pos;have e9:((a.top lo':Int)==(s.top lo:Int))=false:=by
    have:=z.1;have:=a.size_pos;simp only[Fr.off]at *;have:a.top lo'≠s.top lo:=by unfold Tm.top;omega
    simp;omega
   refine plain fs (by simp only[n4,Fr.off,Fr.v7,j,R,Fr.E2,v]) ?_;rw[e];simp only[q0,Tm.node,e9,beq_self_eq_true];exact next st out (by omega)
  |altR a=>
   simp only[Fr.E2,Fr.off]at j v hg g e;refine plain fs (by simp only[n4,Fr.off,Fr.v7,j,R,Fr.E2,v]) ?_;rw[e];simp only[Tm.node,G0];exact next st out (by omega)
  |altL b|maybe|group n|iter=>
   simp only[Fr.E2,Fr.off,sub_zero]at j v hg g e;subst j;refine plain fs (by subst v;rfl) ?_;rw[e];simp only[Tm.node,G0];exact next st out (by omega)
