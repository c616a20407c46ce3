/- P. Its conditions: none. -/
import Derived.Test.YtbccffnofdnpoaaGreatAG38
open Bool (false_eq_true)
open Nat (sub_zero lt_or_ge zero_le)
open List (length_cons any_cons nil_append)
set_option linter.all false
namespace Go.Proofs.YtbccffnofdnpoaaGreat.Old
open Go.V Go.RowKit
def Tm.R1 (lo p:Nat)(ahead:List Int):Tm->List B0
 |.eps=>[]
 |.leaf _=>[⟨(p:Int),0,ahead++[E3 lo]⟩]
 |.cat a b=>a.R1 lo p (ahead++[E3 (Tm.top (.cat a b) lo)])++(if a.can then b.R1 (lo+a.size) (p+a.leaves) (ahead++[E3 (Tm.top (.cat a b) lo)]++a.steps lo)else[])
 |.alt a b=>a.R1 lo p (ahead++[E3 (Tm.top (.alt a b) lo)])++b.R1 (lo+a.size) (p+a.leaves) (ahead++[E3 (Tm.top (.alt a b) lo)])
 |.star a=>a.R1 lo p (ahead++[E3 (Tm.top (.star a) lo)])
 |.maybe a=>a.R1 lo p (ahead++[E3 (Tm.top (.maybe a) lo)])
 |.group n a=>a.R1 lo p (ahead++[E3 (Tm.top (.group n a) lo)])
 |.iter a=>a.R1 lo p (ahead++[E3 (Tm.top (.iter a) lo)])
def Tm.d0R (t:Tm):∀lo p ahead,(t.R1 lo p ahead).length<=t.leaves:=by
 induction t with
 |eps=>simp[Tm.R1]
 |leaf s=>simp[Tm.R1,Tm.leaves]
 |cat a b c ihb=>
  grind [Tm.R1,Tm.leaves]
 |alt a b c ihb=>
  grind [Tm.R1,Tm.leaves]
 |star a c|maybe a c|group _ a c|iter a c=>intro lo p ahead;exact c _ _ _
def b0K {l:List D0}:∀{s:Tm} {lo:Nat},At l lo s->Z0 l (lo+s.size)=Z0 l lo+s.leaves:=by
 intro s
 induction s with
 |eps=>intro lo h;have hg:=h.P5;simp_all[Tm.top,Tm.size,Z0,Tm.node,Tm.leaves]
 |leaf s=>intro lo h;have hg:=h.P5;simp_all[Tm.top,Tm.size,Z0,Tm.node,Tm.leaves]
 |cat a b c d|alt a b c d=>
  intro lo h;have hg:=h.P5;obtain⟨ha,f,_⟩:=(At.bin rfl rfl).1 h;simp only[Tm.top,Tm.size]at hg;have e:lo+(a.size+b.size+1)-1=lo+a.size+b.size:=O'
  rw[e]at hg;simp only[Tm.size,<-Nat.add_assoc,Z0,hg,Tm.node,Tm.leaves,d f,c ha];simp
 |star a c|maybe a c|group _ a c|iter a c=>
  intro lo h;have hg:=h.P5;obtain⟨ha,_⟩:=(At.un rfl rfl).1 h
  simp_all[Tm.top,Tm.size,Z0,Tm.node,Tm.leaves]
def d0N {fuel:Nat}{a b:List Int}(h:(a.length+b.length)*8<=140737488355328):d07 fuel a b=some (a++b):=by
 simp_all[b5,U1,W4,d07]
structure k0k (c:u7)(l:List D0)(t:Tm):Prop where
 tl:c.l=l
 up:UpT c.up t
 deep:c0d c.deep t
 index:c.index=b0t l l.length
 can:c.can=b0T l
def D05 {l:List D0}{lo:Nat}{s:List Int}(h:At l lo (.leaf s)):C0 (b0t l l.length) (lo:Int)=true/\gt (b0t l l.length) (lo:Int)=(Z0 l lo:Int):=by
 have hlen:=h.len;have hg:=h.P5;simp only[Tm.top,Tm.size,Nat.add_sub_cancel]at hg hlen;refine⟨R0 O' (by grind [h06]),?_⟩;rw[P2 (o0Q l l.length lo O'),hg];rfl
def q0G {l:List D0}(hw:∀x∈l,V2 x){t:Tm}(R:K5 l t)(hR:N3 l=true){c:u7}(J:k0k c l t){fuel:Nat}(hf:401<fuel):
  ∀(s:Tm) (lo:Nat),At l lo s->∀(k:Nat) (ahead:List Int) (out:List B0),s.size<=k->ahead.length+1000*s.size<=1000000000->out.length+s.size<=1000000000->
   X9 fuel k c (s.top lo:Int) ahead out=some (out++s.R1 lo (Z0 l lo) ahead):=by
 have U:=R.le;have w:=R.len;have i:=J.tl;have u:=J.index;have z:=J.can;have p:=k0x hR;intro s
 induction s with
 |eps=>
  intro lo h k ahead out hk j e;obtain⟨k,rfl⟩:∃q,k=q+1:=⟨k-1,by simp_all[Tm.size]⟩
  have f:=h.a0g;have hg:=h.P5;generalize Tm.top _ lo=r at *;have d:C0 l (r:Int)=true:=R0 O' O';unfold X9;simp only[i,d,if_true,b0q (show r<=1000000000 from O'),d0N (fuel:=fuel) (a:=ahead) (b:=[E3 r]) (by grind),F0,hg,Tm.node];simp[Tm.R1]
 |leaf s=>
  intro lo h k ahead out hk j e;obtain⟨k,rfl⟩:∃q,k=q+1:=⟨k-1,by simp_all[Tm.size]⟩
  have f:=h.a0g;have hg:=h.P5;obtain⟨i1,i2⟩:=D05 h;simp only[Tm.size]at j e;simp only[Tm.top,Tm.size,Nat.add_sub_cancel]at hg f ⊢;have d:C0 l (lo:Int)=true:=R0 O' O';have I:∀x:B0,J0 40 out [x]=true:=fun x=>W4 (by grind);unfold X9;simp only[i,d,if_true,b0q (show lo<=1000000000 from O'),d0N (fuel:=fuel) (a:=ahead) (b:=[E3 lo]) (by grind),F0,hg,Tm.node,u,i1,i2,I];rfl
 |cat a b g ihb=>
  intro lo h k ahead out hk j e;obtain⟨k,rfl⟩:∃q,k=q+1:=⟨k-1,by grind [Tm.size]⟩
  have f:=h.a0g;have hlen:=h.len;have hg:=h.P5;obtain⟨ha,C,_⟩:=(At.bin rfl rfl).1 h;have sa:=a.c0l lo;have la:=a.d0R lo (Z0 l lo) (ahead++[E3 (Tm.top (.cat a b) lo)]);have y:=a.d08;simp only[Tm.R1];simp only[Tm.size]at hlen j e hk;generalize Tm.top (.cat a b) lo=r at *;have d:C0 l (r:Int)=true:=R0 O' O';have v:C0 (b0T l) (a.top lo:Int)=true:=R0 O' (by rw[p.len];have:=ha.a0g;omega);have m:=g lo ha k (ahead++[E3 r]) out O' (by grind) O';have o:=ihb (lo+a.size) C k (ahead++[E3 r]++a.steps lo) (out++a.R1 lo (Z0 l lo) (ahead++[E3 r])) O' (by grind) (by grind);rw[b0K ha]at o;unfold X9;simp only[i,d,if_true,b0q (show r<=1000000000 from O'),d0N (fuel:=fuel) (a:=ahead) (b:=[E3 r]) (by grind),F0,hg,Tm.node,m,z,v,p.top a lo ha];rw[show((3:Int)==2)=false from rfl,show((3:Int)==3)=true from rfl];cases n:a.can
  ·simp
  ·simp only[false_eq_true,if_false,if_true,s0T hw R hR hf ha,n,F0,d0N (fuel:=fuel) (a:=ahead++[E3 r]) (b:=a.steps lo) Z',o];simp
 |alt a b g ihb=>
  intro lo h k ahead out hk j e;obtain⟨k,rfl⟩:∃q,k=q+1:=⟨k-1,by simp[Tm.size]at hk;omega⟩
  have f:=h.a0g;have hlen:=h.len;have hg:=h.P5;obtain⟨ha,C,_⟩:=(At.bin rfl rfl).1 h;have la:=a.d0R lo (Z0 l lo) (ahead++[E3 (Tm.top (.alt a b) lo)]);have y:=a.d08;simp only[Tm.R1];simp only[Tm.size]at hlen j e hk;generalize Tm.top (.alt a b) lo=r at *;have d:C0 l (r:Int)=true:=R0 O' O';have m:=g lo ha k (ahead++[E3 r]) out O' Z' O';have o:=ihb (lo+a.size) C k (ahead++[E3 r]) (out++a.R1 lo (Z0 l lo) (ahead++[E3 r])) O' Z' Z';rw[b0K ha]at o;unfold X9;simp only[i,d,if_true,b0q (show r<=1000000000 from O'),d0N (fuel:=fuel) (a:=ahead) (b:=[E3 r]) Z',F0,hg,Tm.node,m,o];simp
 |star a g|maybe a g|group _ a g|iter a g=>
  intro lo h k ahead out hk j e;obtain⟨k,rfl⟩:∃q,k=q+1:=⟨k-1,by simp[Tm.size]at hk;omega⟩
  have f:=h.a0g;have hlen:=h.len;have hg:=h.P5;obtain⟨ha,_⟩:=(At.un rfl rfl).1 h;simp only[Tm.R1];simp only[Tm.size]at hlen j e hk;generalize Tm.top _ lo=r at *;have d:C0 l (r:Int)=true:=R0 O' O';have m:=g lo ha k (ahead++[E3 r]) out O' Z' O';unfold X9;simp only[i,d,if_true,b0q (show r<=1000000000 from O'),d0N (fuel:=fuel) (a:=ahead) (b:=[E3 r]) Z',F0,hg,Tm.node,m];simp
inductive Fr where
 |catL (b:Tm)|catR (a:Tm)|altL (b:Tm)|altR (a:Tm)|star|maybe|group (n:Int)|iter
def Fr.M3 (s:Tm):Fr->Tm
 |.catL b=>.cat s b|.catR a=>.cat a s|.altL b=>.alt s b|.altR a=>.alt a s
 |.star=>.star s|.maybe=>.maybe s|.group n=>.group n s|.iter=>.iter s
def Fr.off:Fr->Nat
 |.catR a=>a.size|.altR a=>a.size|_=>0
def Fr.Z9:Fr->Nat
 |.catR a=>a.leaves|.altR a=>a.leaves|_=>0
def Ctx (t:Tm):Nat->Tm->List Fr->Prop
 |lo,s,[]=>lo=0/\s=t
 |lo,s,f :: fs=>f.off<=lo/\Ctx t (lo-f.off) (f.M3 s) fs
theorem Ctx.size {t:Tm}:∀{fs:List Fr} {lo:Nat} {s:Tm},Ctx t lo s fs->fs.length+s.size<=t.size
 |[],lo,s,⟨_,h⟩=>by simp_all
 |f :: fs,lo,s,⟨_,h⟩=>by
  have:=Ctx.size h;cases f<;>simp[Fr.M3,Tm.size]at this ⊢<;>omega
structure Part (l:List D0)(u d:List Int)(lo:Nat)(s:Tm)(k:Nat):Prop where
 at_:At l lo s
 up:V8 u lo s
 deep:D8 d lo k s
def Ctx.part {l:List D0}{t:Tm}{u d:List Int}(i:K5 l t)(hu:UpT u t)(hd:c0d d t):∀{fs:List Fr} {lo:Nat} {s:Tm},Ctx t lo s fs->Part l u d lo s (fs.length+1)
 |[],lo,s,⟨h1,c⟩=>by subst h1;subst c;exact⟨i.at0,hu.inner,hd.deep⟩
 |f :: fs,lo,s,⟨ho,h⟩=>by
  obtain⟨h1,c,g⟩:=Ctx.part i hu hd h;cases f<;>simp only[Fr.M3,Fr.off,sub_zero]at h1 c g ho
  case catL b=>exact⟨((At.bin rfl rfl).1 h1).1,c.2.2.1,g.2.1⟩
  case altL b=>exact⟨((At.bin rfl rfl).1 h1).1,c.2.2.1,g.2.1⟩
  case catR a=>
   have e:lo-a.size+a.size=lo:=O'
   have:=((At.bin rfl rfl).1 h1).2.1;have g2:=c.2.2.2;have g3:=g.2.2;rw[e]at this g2 g3;exact⟨this,g2,g3⟩
  case altR a=>
   have e:lo-a.size+a.size=lo:=O'
   have:=((At.bin rfl rfl).1 h1).2.1;have g2:=c.2.2.2;have g3:=g.2.2;rw[e]at this g2 g3;exact⟨this,g2,g3⟩
  all_goals exact⟨((At.un rfl rfl).1 h1).1,c.2,g.2⟩
def Ctx.d0v {l:List D0}{t:Tm}{u d:List Int}(g:K5 l t)(hu:UpT u t)(hd:c0d d t){f:Fr}{fs:List Fr}{lo:Nat}{s:Tm}(h:Ctx t lo s (f :: fs)):
  gt u (s.top lo:Int)=((f.M3 s).top (lo-f.off):Int):=by
 obtain⟨e,h⟩:=h;obtain⟨h1,b,c⟩:=Ctx.part g hu hd h;cases f<;>simp only[Fr.M3,Fr.off,sub_zero]at h1 b c e ⊢
 case catR a=>
  have:=b.2.1
  simp_all
 case altR a=>
  have:=b.2.1
  simp_all
 all_goals exact b.1
def Ctx.root {t:Tm}{u:List Int}(hu:UpT u t){lo:Nat}{s:Tm}(h:Ctx t lo s []):gt u (s.top lo:Int)=-1:=by
 obtain⟨rfl,rfl⟩:=h;exact hu.root
def G8 (d:Int):List B0->List B0->List B0
 |out,[]=>out
 |out,h :: r=>G8 d (if out.any (fun x=>x.To==h.To)then out else out++[⟨h.To,d,h.Steps⟩]) r
def g0w (d:Int):∀(r out:List B0),(G8 d out r).length<=out.length+r.length
 |[],out=>by simp[G8]
 |h :: r,out=>by
  simp only[G8,length_cons];cases out.any (fun x=>x.To==h.To)with
  |true=>have:=g0w d r out;grind
  |false=>have:=g0w d r (out++[⟨h.To,d,h.Steps⟩]);grind
def Z5 (lo p:Nat)(s:Tm)(st:List Int)(out:List B0):List Fr->List B0×List Int×Bool
 |[]=>(out,st,true)
 |.catL b :: fs=>
  if b.can then Z5 lo p (.cat s b) (st++b.steps (lo+s.size)++[cls (Tm.top (.cat s b) lo)]) (G8 (fs.length+1:Nat) out (b.R1 (lo+s.size) (p+s.leaves) st)) fs
  else(G8 (fs.length+1:Nat) out (b.R1 (lo+s.size) (p+s.leaves) st),[],false)
 |.star :: fs=>Z5 lo p (.star s) (st++[cls (Tm.top (.star s) lo)]) (G8 (fs.length+1:Nat) out (s.R1 lo p st)) fs
 |f :: fs=>Z5 (lo-f.off) (p-f.Z9) (f.M3 s) (st++[cls ((f.M3 s).top (lo-f.off))]) out fs
def C00 {l:List D0}{t:Tm}{u d:List Int}(c:K5 l t)(hu:UpT u t)(hd:c0d d t){f:Fr}{fs:List Fr}{lo:Nat}{s:Tm}(h:Ctx t lo s (f :: fs)):Z0 l (lo-f.off)=Z0 l lo-f.Z9:=by
 obtain⟨b,h⟩:=h;obtain⟨h1,g,e⟩:=Ctx.part c hu hd h;cases f<;>simp only[Fr.M3,Fr.off,Fr.Z9,sub_zero]at h1 b ⊢
 case catR a=>
  have:=b0K ((At.bin rfl rfl).1 h1).1
  simp_all
 case altR a=>
  have:=b0K ((At.bin rfl rfl).1 h1).1
  simp_all
def J0U (fuel:Nat)(R1 out:List B0)(x:Int)(g:out.length<fuel)(hl:out.length<=1000000000):∃t,iter (g0m fuel R1 out x) fuel 0=some t/\(match t with|.inr _=>out.any (fun y=>y.To==(gt R1 x).To)=false|.inl r=>0<=r/\out.any (fun y=>y.To==(gt R1 x).To)=true):=by
 have key:∀(k i:Nat),i+k=out.length->∀m,k<m->∃t,iter (g0m fuel R1 out x) m (i:Int)=some t/\(match t with|.inr _=>(out.drop i).any (fun y=>y.To==(gt R1 x).To)=false|.inl r=>0<=r/\(out.drop i).any (fun y=>y.To==(gt R1 x).To)=true):=by
  intro k
  induction k with
  |zero=>
   intro i hi m hm;obtain⟨m,rfl⟩:∃q,m=q+1:=⟨m-1,O'⟩
   refine⟨.inr (),?_,?_⟩
   ·unfold iter g0m;have:¬((i:Int)<(out.length:Int)):=O'
    simp[this]
   ·rw[List.drop_of_length_le O'];rfl
  |succ k ih=>
   intro i hi m hm;obtain⟨m,rfl⟩:∃q,m=q+1:=⟨m-1,O'⟩
   have a:i<out.length:=O'
   have b:C0 out (i:Int)=true:=R0 O' O';have hg:gt out (i:Int)=out[i]:=P2 (by simp[a]);have hd:out.drop i=out[i] :: out.drop (i+1):=List.drop_eq_getElem_cons a;have e:(i:Int)<(out.length:Int):=O'
   have d:g0m fuel R1 out x (i:Int)=if(out[i].To==(gt R1 x).To)=true then some (.done (.inl (i:Int)))else some (.next ((i+1:Nat):Int)):=by
    unfold g0m;simp only[e,decide_true,if_true,b,hg,K2 (show i<9223372036854775807 from O')]
   unfold iter;rw[d]
   by_cases c:(out[i].To==(gt R1 x).To)=true
   ·rw[if_pos c];exact⟨_,rfl,O',by rw[hd];simp only[any_cons,c,Bool.true_or]⟩
   ·rw[if_neg c];obtain⟨t,h1,f⟩:=ih (i+1) O' m O';refine⟨t,h1,?_⟩;rw[hd];have c':(out[i].To==(gt R1 x).To)=false:=by simpa using c
    cases t with
    |inl _=>simp only[any_cons,c',Bool.false_or];exact f
    |inr r=>simp only[any_cons,c',Bool.false_or];exact f
 exact key out.length 0 O' fuel O'
def drop_cons {α:Type}[Inhabited α]{l:List α}{i:Nat}(h:i<l.length):l.drop i=gt l (i:Int) :: l.drop (i+1):=by
 rw[List.drop_eq_getElem_cons h,P2 (x:=l[i]) V']
def A0i {fuel:Nat}{c:u7}{at_:Nat}{d:Int}{goal:Int}{st:List Int}{out hops:List B0}(a:X9 fuel fuel c goal st []=some hops)(hd:C0 c.deep (at_:Int)=true)(g:gt c.deep (at_:Int)=d)
  (s:out.length+hops.length<=1000000) (p:1000001<fuel):i0m fuel c (at_:Int) goal st out=some (G8 d out hops):=by
 have key:∀(k i:Nat) (o:List B0),i+k=hops.length->o.length+k<=1000000->∀m,k<m->iter (h05 fuel c (at_:Int) hops) m (o,(i:Int))=some (G8 d o (hops.drop i)):=by
  intro k
  induction k with
  |zero=>
   intro i o hi n m hm;obtain⟨m,rfl⟩:∃q,m=q+1:=⟨m-1,O'⟩
   rw[List.drop_of_length_le O'];unfold iter h05;have:¬((i:Int)<(hops.length:Int)):=O'
   simp[this,G8]
  |succ k ih=>
   intro i o hi n m hm;obtain⟨m,rfl⟩:∃q,m=q+1:=⟨m-1,O'⟩
   have l:i<hops.length:=O'
   have e:C0 hops (i:Int)=true:=R0 O' O';have j:(i:Int)<(hops.length:Int):=O'
   have b:∀x:B0,J0 40 o [x]=true:=fun x=>W4 Z';have f:h05 fuel c (at_:Int) hops (o,(i:Int))=some (.next ((if o.any (fun x=>x.To==(gt hops (i:Int)).To)then o else o++[⟨(gt hops (i:Int)).To,d,(gt hops (i:Int)).Steps⟩]),((i+1:Nat):Int))):=by
    obtain⟨t,h1,h⟩:=J0U fuel hops o (i:Int) O' O';unfold h05;simp only[q0,j,e,h1,hd,g,b,K2 (show i<9223372036854775807 from O')];cases t with
    |inl r=>rw[h.2];simp[h.1]
    |inr r=>rw[h];simp
   unfold iter;rw[f,drop_cons l];simp only[G8];refine ih (i+1) _ O' ?_ m O';split
   ·omega
   ·simp only[List.length_append,length_cons,List.length_nil];omega
 unfold i0m;rw[a];simp only[F0];rw[show(0:Int)=((0:Nat):Int)from rfl,key hops.length 0 out O' O' fuel O'];simp
def H02 {l:List D0}(hw:∀x∈l,V2 x){t:Tm}(z:K5 l t)(hR:N3 l=true){c:u7}(o:k0k c l t){fuel:Nat}(hf:1000001<fuel):
  ∀(fs:List Fr) (lo:Nat) (s:Tm) (st:List Int) (out:List B0),Ctx t lo s fs->st.length+1000*fs.length<=500000->out.length+1000*fs.length<=500000->∀m,fs.length<m->
   ∃r,iter (e0j fuel c) m ((s.top lo:Int),st,out,gt c.up (s.top lo:Int))=some r/\
    (match r with|.inr (y1,y2)=>(y2,y1,true)|.inl z1=>(z1,[],false))=Z5 lo (Z0 l lo) s st out fs:=by
 have h4:=z.le;have e3:=z.len;have h0:=o.tl;have b4:=o.can;have b3:=k0x hR;intro fs
 induction fs with
 |nil=>
  intro lo s st out y h1 h2 m hm;obtain⟨m,rfl⟩:∃q,m=q+1:=⟨m-1,O'⟩
  refine⟨.inr (st,out),?_,rfl⟩;rw[y.root o.up];unfold iter e0j;simp
 |cons f fs ih=>
  intro lo s st out y h1 h2 m hm;obtain⟨m,rfl⟩:∃q,m=q+1:=⟨m-1,O'⟩
  have e6:=y.part z o.up o.deep;have g:=y.2.part z o.up o.deep;have R:=y.d0v z o.up o.deep;have J:=y.2;have I:=C00 z o.up o.deep y;have c5:=y.size;simp only[length_cons]at h1 h2 hm c5;rw[R];have h5:=g.at_.a0g;have hg:=g.at_.P5;have b1:=g.deep.top;generalize i:lo-f.off=lo' at *;generalize u:(f.M3 s).top lo'=r at *;have e4:C0 l (r:Int)=true:=R0 O' O';have c4:C0 c.up (r:Int)=true:=R0 O' (by rw[o.up.len];omega);have a1:C0 c.deep (r:Int)=true:=R0 O' (by rw[o.deep.len];omega);have c8:(r:Int)>=0:=O'
  have b2:W (W (2*(r:Int))+1)=cls r:=by rw[b0q O',e0r O']
  have next:∀(v:List Int) (w:List B0),v.length<=st.length+900->(Option.bind (d07 fuel v [W (W (2*(r:Int))+1)]) fun h3=>if C0 c.up (r:Int)=true then(some (.next ((r:Int),h3,w,gt c.up (r:Int))):Option (X0 (Int×List Int×List B0×Int) ((List B0)⊕(List Int×List B0))))else none)=some (.next ((r:Int),v++[cls r],w,gt c.up (r:Int))):=fun v w hs=>by
   rw[b2,d0N (fuel:=fuel) (a:=v) (b:=[cls r]) Z',c4];rfl
  have plain:∀(h8:List Fr),Z5 lo (Z0 l lo) s st out (f :: fs)=Z5 lo' (Z0 l lo') (f.M3 s) (st++[cls r]) out fs->e0j fuel c ((s.top lo:Int),st,out,(r:Int))=some (.next ((r:Int),st++[cls r],out,gt c.up (r:Int)))->
    ∃r',iter (e0j fuel c) (m+1) ((s.top lo:Int),st,out,(r:Int))=some r'/\(match r' with|.inr (y1,y2)=>(y2,y1,true)|.inl z1=>(z1,[],false))=Z5 lo (Z0 l lo) s st out (f :: fs):=fun _ e1 e2=>by
   unfold iter;rw[e1,e2];have:=ih lo' (f.M3 s) (st++[cls r]) out J Z' O' m O';rw[u]at this;exact this
  have e:e0j fuel c ((s.top lo:Int),st,out,(r:Int))=e0j fuel c ((s.top lo:Int),st,out,(r:Int)):=rfl
  conv at e=>rhs;unfold e0j
  simp only[c8,decide_true,if_true,h0,e4,hg]at e;cases f with
  |catL b=>
   simp only[Fr.M3,Fr.off,sub_zero]at i u hg g e;subst i;obtain⟨p,j,_⟩:=(At.bin rfl rfl).1 g.at_;have e9:=b.d0R (lo+s.size) (Z0 l lo+s.leaves) st;have e7:=b.d08;have h6:=b.c0l (lo+s.size);have e5:b.size<=400:=by have:=j.len;omega
   have h:=q0G hw z hR o (show 401<fuel from O') b (lo+s.size) j fuel st [] O' O' Z';rw[b0K p,nil_append]at h;have k:=A0i (at_:=r) (d:=(fs.length+1:Nat)) (st:=st) (out:=out) h a1 b1 O' hf;have U:C0 (b0T l) (b.top (lo+s.size):Int)=true:=R0 O' (by rw[b3.len];have:=j.a0g;omega);simp only[Tm.node,beq_self_eq_true,if_true,F0,k,b4,U,b3.top b _ j]at e;have c3:=g0w ((fs.length+1:Nat):Int) (b.R1 (lo+s.size) (Z0 l lo+s.leaves) st) out;simp only[Z5];cases C:b.can with
   |false=>
    simp only[q0,C]at e;refine⟨_,by unfold iter;rw[e],?_⟩;simp
   |true=>
    simp only[q0,C,s0T hw z hR (show 401<fuel from O') j,d0N (fuel:=fuel) (a:=st) (b:=b.steps (lo+s.size)) O']at e;rw[next _ _ Z']at e;unfold iter;rw[e];have:=ih lo (.cat s b) (st++b.steps (lo+s.size)++[cls r]) (G8 ((fs.length+1:Nat):Int) out (b.R1 (lo+s.size) (Z0 l lo+s.leaves) st)) J Z' O' m O';rw[u]at this;rw[if_pos rfl,u];exact this
  |star=>
   simp only[Fr.M3,Fr.off,sub_zero]at i u hg g e;subst i;obtain⟨p,_⟩:=(At.un rfl rfl).1 g.at_;have e9:=s.d0R lo (Z0 l lo) st;have e7:=s.d08;have e5:s.size<=400:=by have:=p.len;omega
   have h:=q0G hw z hR o (show 401<fuel from O') s lo p fuel st [] O' O' Z';rw[nil_append]at h;have k:=A0i (at_:=r) (d:=(fs.length+1:Nat)) (st:=st) (out:=out) h a1 b1 O' hf;simp only[q0,Tm.node,show((5:Int)==3)=false from rfl,beq_self_eq_true,k]at e;rw[next _ _ O']at e;have c3:=g0w ((fs.length+1:Nat):Int) (s.R1 lo (Z0 l lo) st) out;simp only[Z5];unfold iter;rw[e];have:=ih lo (.star s) (st++[cls r]) (G8 ((fs.length+1:Nat):Int) out (s.R1 lo (Z0 l lo) st)) J Z' O' m O';rw[u]at this;rw[u];exact this
  |catR a=>
   simp only[Fr.M3,Fr.off]at i u hg g e;have h7:=s.size_pos;have c6:((a.top lo':Int)==(s.top lo:Int))=false:=by
    have:=y.1;have:=a.size_pos;simp only[Fr.off]at *;have:a.top lo'≠s.top lo:=by unfold Tm.top;omega
    simp;omega
   refine plain fs (by simp only[Z5,Fr.off,Fr.Z9,i,I,Fr.M3,u]) ?_;rw[e];simp only[q0,Tm.node,c6,beq_self_eq_true];exact next st out O'
  |altR a=>
   simp only[Fr.M3,Fr.off]at i u hg g e;refine plain fs (by simp only[Z5,Fr.off,Fr.Z9,i,I,Fr.M3,u]) ?_;rw[e];simp only[Tm.node,F0];exact next st out O'
  |altL b|maybe|group n|iter=>
   simp only[Fr.M3,Fr.off,sub_zero]at i u hg g e;subst i;refine plain fs (by subst u;rfl) ?_;rw[e];simp only[Tm.node,F0];exact next st out O'
def Ctx.down {t:Tm}:∀{s:Tm} {lo:Nat} {fs:List Fr},Ctx t lo s fs->∀i,lo<=i->i<lo+s.size->∃lo' f e,Ctx t lo' f e/\f.top lo'=i:=by
 intro s
 induction s with
 |eps=>grind [Tm.top,Tm.size]
 |leaf s=>grind [Tm.top,Tm.size]
 |cat a b iha ihb=>
  intro lo fs h i h1 d;rcases lt_or_ge i (lo+a.size)with c|c
  ·exact iha (fs:=.catL b :: fs) ⟨zero_le _,h⟩ i h1 c
  ·rcases lt_or_ge i (lo+a.size+b.size)with c2|c2
   ·exact ihb (lo:=lo+a.size) (fs:=.catR a :: fs) ⟨by simp[Fr.off],by simp_all[Fr.off,Fr.M3]⟩ i c c2
   grind [Tm.top,Tm.size]
 |alt a b iha ihb=>
  intro lo fs h i h1 d;rcases lt_or_ge i (lo+a.size)with c|c
  ·exact iha (fs:=.altL b :: fs) ⟨zero_le _,h⟩ i h1 c
  ·rcases lt_or_ge i (lo+a.size+b.size)with c2|c2
   ·exact ihb (lo:=lo+a.size) (fs:=.altR a :: fs) ⟨by simp[Fr.off],by simp_all[Fr.off,Fr.M3]⟩ i c c2
   grind [Tm.top,Tm.size]
 |star a iha=>
  intro lo fs h i h1 d;rcases lt_or_ge i (lo+a.size)with c|c
  ·exact iha (fs:=.star :: fs) ⟨zero_le _,h⟩ i h1 c
  grind [Tm.top,Tm.size]
 |maybe a iha=>
  intro lo fs h i h1 d;rcases lt_or_ge i (lo+a.size)with c|c
  ·exact iha (fs:=.maybe :: fs) ⟨zero_le _,h⟩ i h1 c
  grind [Tm.top,Tm.size]
 |group n a iha=>
  intro lo fs h i h1 d;rcases lt_or_ge i (lo+a.size)with c|c
  ·exact iha (fs:=.group n :: fs) ⟨zero_le _,h⟩ i h1 c
  grind [Tm.top,Tm.size]
 |iter a iha=>
  intro lo fs h i h1 d;simp only[Tm.size]at d;rcases lt_or_ge i (lo+a.size)with c|c
  ·exact iha (fs:=.iter :: fs) ⟨zero_le _,h⟩ i h1 c
  grind [Tm.top,Tm.size]
def Ctx.at_ {l:List D0}{t:Tm}(c:K5 l t):∀{fs:List Fr} {lo:Nat} {s:Tm},Ctx t lo s fs->At l lo s
 |[],lo,s,⟨h1,d⟩=>by subst h1;subst d;exact c.at0
 |f :: fs,lo,s,⟨ho,h⟩=>by
  have h1:=Ctx.at_ c h;cases f<;>simp only[Fr.M3,Fr.off,sub_zero]at h1 ho
  case catL b=>exact((At.bin rfl rfl).1 h1).1
  case altL b=>exact((At.bin rfl rfl).1 h1).1
  case catR a=>
   have:=((At.bin rfl rfl).1 h1).2.1
   simp_all
  case altR a=>
   have:=((At.bin rfl rfl).1 h1).2.1
   simp_all
  all_goals exact((At.un rfl rfl).1 h1).1
structure e0y (l:List D0)(t:Tm)(p q:Nat)(S:List Int)(fs:List Fr):Prop where
 ctx:Ctx t q (.leaf S) fs
 num:Z0 l q=p
 get:(C3 l l.length)[p]?=some (q:Int)
def A04 {l:List D0}{t:Tm}(c:K5 l t){p:Nat}(hp:p<Z0 l l.length):∃q S fs,e0y l t p q S fs:=by
 obtain⟨q,h1,e,f,d⟩:=b0N l l.length p hp;obtain⟨lo,s,fs,b,hs⟩:=Ctx.down (t:=t) (s:=t) (lo:=0) (fs:=[]) ⟨rfl,rfl⟩ q (zero_le _) (by rw[c.len]at h1;omega);have a:=b.at_ c;have hg:=a.P5;cases s with
 |leaf S=>
  subst hs;exact⟨lo,S,fs,b,d,e⟩
 |_=>simp_all[Tm.node]
def M0p {l:List D0}{t:Tm}(a:K5 l t):Z0 l l.length=t.leaves:=by
 have:=b0K a.at0;rw[Nat.zero_add,<-a.len]at this
 simp_all[Z0]
def w0E (n:Nat)(h:B0):Prop:=0<=h.To/\h.To<n/\h.Steps.length<=2000000
def Tm.m0z (s:Tm):∀(lo p:Nat) (ahead:List Int),s.size<=400->ahead.length+1000*s.size<=2000000->∀h∈s.R1 lo p ahead,(p:Int)<=h.To/\h.To<((p+s.leaves:Nat):Int)/\h.Steps.length<=2000000:=by
 induction s with
 |eps=>simp[Tm.R1]
 |leaf s=>grind [Tm.R1,Tm.leaves,Tm.size]
 |cat a b c ihb=>
  intro lo p ahead hs d h f;have e:=a.c0l lo
  grind [Tm.R1,Tm.size,Tm.leaves]
 |alt a b c ihb=>
  grind [Tm.R1,Tm.size,Tm.leaves]
 |star a c|maybe a c|group _ a c|iter a c=>
  grind [Tm.R1,Tm.size,Tm.leaves]
structure B2 (n:Nat)(out:List B0):Prop where
 ok:∀h∈out,w0E n h
 dist:out.Pairwise fun a b=>a.To≠b.To
def s0y {n:Nat}(d:Int):∀(r out:List B0),B2 n out->(∀h∈r,w0E n h)->B2 n (G8 d out r)
 |[],out,h,_=>h
 |x :: r,out,h,hr=>by
  refine s0y d r _ ?_ (fun y c=>hr y (by grind));split
  ·exact h
  ·have e:=hr x V';refine⟨fun y c=>?_,?_⟩
   ·rcases List.mem_append.1 c with c|c
    ·exact h.ok y c
    ·simp only[List.mem_singleton]at c;subst c;exact e
   ·refine List.pairwise_append.2 ⟨h.dist,V',fun a ha b f=>?_⟩
    simp_all
def c07 {l:List D0}{t:Tm}(i:K5 l t):∀(fs:List Fr) (lo:Nat) (s:Tm) (st:List Int) (out:List B0),Ctx t lo s fs->B2 t.leaves out->st.length+1000*fs.length<=500000->
  B2 t.leaves (Z5 lo (Z0 l lo) s st out fs).1/\(Z5 lo (Z0 l lo) s st out fs).2.1.length<=500000
 |[],lo,s,st,out,g,hw,hl=>⟨hw,by simp_all[Z5]⟩
 |f :: fs,lo,s,st,out,g,hw,hl=>by
  have c:=g.2.at_ i;have hlen:=c.len;have o:=i.le;have p:=i.len;have d:=m0F l hlen;rw[b0K c,M0p i]at d;have e:Z0 l (lo-f.off)=Z0 l lo-f.Z9:=by
   cases f<;>simp only[Fr.M3,Fr.off,Fr.Z9,sub_zero]at c ⊢
   case catR a=>
    have k:=g.1;simp only[Fr.off]at k;have:=b0K ((At.bin rfl rfl).1 c).1
    simp_all
   case altR a=>
    have k:=g.1;simp only[Fr.off]at k;have:=b0K ((At.bin rfl rfl).1 c).1
    simp_all
  cases f with
  |catL b=>
   simp only[Fr.M3,Fr.off,sub_zero,Tm.leaves,Tm.size]at c d hlen;have q:=b.c0l (lo+s.size);have j:=s0y (n:=t.leaves) ((fs.length+1:Nat):Int) (b.R1 (lo+s.size) (Z0 l lo+s.leaves) st) out hw (fun h m=>by
    have:=b.m0z (lo+s.size) (Z0 l lo+s.leaves) st O' O' h m;exact⟨O',O',this.2.2⟩)
   simp only[Z5];split
   ·exact c07 i fs lo (.cat s b) _ _ g.2 j (by grind)
   simp_all
  |star=>
   simp only[Fr.M3,Fr.off,sub_zero,Tm.leaves,Tm.size]at c d hlen;have j:=s0y (n:=t.leaves) ((fs.length+1:Nat):Int) (s.R1 lo (Z0 l lo) st) out hw (fun h m=>by
    have:=s.m0z lo (Z0 l lo) st O' O' h m;exact⟨O',O',this.2.2⟩)
   simp only[Z5];exact c07 i fs lo (.star s) _ _ g.2 j (by grind)
  |catR a=>
   have:=c07 i fs (lo-(Fr.catR a).off) ((Fr.catR a).M3 s) (st++[cls (((Fr.catR a).M3 s).top (lo-(Fr.catR a).off))]) out g.2 hw (by grind);rw[e]at this;exact this
  |altR a=>
   have:=c07 i fs (lo-(Fr.altR a).off) ((Fr.altR a).M3 s) (st++[cls (((Fr.altR a).M3 s).top (lo-(Fr.altR a).off))]) out g.2 hw (by grind);rw[e]at this;exact this
  |altL b=>
   have:=c07 i fs (lo-(Fr.altL b).off) ((Fr.altL b).M3 s) (st++[cls (((Fr.altL b).M3 s).top (lo-(Fr.altL b).off))]) out g.2 hw (by grind);rw[e]at this;exact this
  |maybe=>
   have:=c07 i fs (lo-Fr.maybe.off) (Fr.maybe.M3 s) (st++[cls ((Fr.maybe.M3 s).top (lo-Fr.maybe.off))]) out g.2 hw (by grind);rw[e]at this;exact this
  |group n=>
   have:=c07 i fs (lo-(Fr.group n).off) ((Fr.group n).M3 s) (st++[cls (((Fr.group n).M3 s).top (lo-(Fr.group n).off))]) out g.2 hw (by grind);rw[e]at this;exact this
  |iter=>
   have:=c07 i fs (lo-Fr.iter.off) (Fr.iter.M3 s) (st++[cls ((Fr.iter.M3 s).top (lo-Fr.iter.off))]) out g.2 hw (by grind);rw[e]at this;exact this
def B2.c0P {n:Nat}{out:List B0}(h:B2 n out)(hn:n<=1000)(hl:out.length<=1000000):c0P B0.To out=true:=by
 simp only[Go.V.c0P,Bool.and_eq_true,List.all_eq_true,decide_eq_true_eq];refine⟨⟨O',fun x a=>?_⟩,(g0f _ _).2 h.dist⟩;have:=h.ok x a;exact⟨this.1,by have:=this.2.1;omega⟩
def D0K {α:Type}(z:α)(ys:List α):o5 (List.replicate ys.length z) ys=ys:=by
 simp[o5]
def n0d {fuel:Nat}(out:List B0)(hl:out.length<=1000000)(d:out.length<fuel)(hs:∀h∈out,h.Steps.length<=2000000):k0d fuel out=some out:=by
 have key:=V3 (step:=n0G fuel out) (fun i=>((i:Int),out)) out out.length (fun i hi=>.inl (by
  have a:C0 out (i:Int)=true:=R0 O' O';have c:(i:Int)<(out.length:Int):=O'
  have hg:gt out (i:Int)=out[i]:=P2 (by simp[hi]);have h1:=hs out[i] (List.getElem_mem _);have b:F4 8 (out[i].Steps.length:Int)=true:=by simp[F4];omega
  unfold n0G;simp only[c,decide_true,if_true,a,hg,b,Int.toNat_natCast,D0K,K2 (show i<9223372036854775807 from O')];rw[show(⟨out[i].To,out[i].Turn,out[i].Steps⟩:B0)=out[i]from rfl];simp)) (by unfold n0G;simp) out.length 0 fuel O' O'
 unfold k0d;rw[show(0:Int)=((0:Nat):Int)from rfl,key];rfl
def N8 (t:Tm)(p q:Nat)(S:List Int)(fs:List Fr):List B0×List Int×Bool:=Z5 q p (.leaf S) [cls q] [] fs
def t0T {l:List D0}(hw:∀x∈l,V2 x){t:Tm}(b:K5 l t)(hR:N3 l=true){fuel:Nat}(a:401<fuel):∃c,i02 fuel l=some (.inr c,true)/\k0k c l t:=by
 obtain⟨u,e,hu⟩:=q0R b hR a;obtain⟨d,f,hd⟩:=n0z b hR a;refine⟨⟨l,u,d,b0t l l.length,b0T l⟩,?_,⟨rfl,hu,hd,rfl,rfl⟩⟩;unfold i02;rw[d0t l a,e,f,C0W hw a,s0J hw a];simp[hR,r0d]
def j0M {l:List D0}(hw:∀x∈l,V2 x){t:Tm}(i:K5 l t)(hR:N3 l=true){fuel:Nat}(d:401<fuel){p q:Nat}{S:List Int}{fs:List Fr}(hp:e0y l t p q S fs)(g:p<Z0 l l.length):
  ∃c,k0p fuel l (p:Int)=some (.inr c,(q:Int),true)/\k0k c l t:=by
 obtain⟨c,e,h⟩:=t0T hw i hR d;refine⟨c,?_,h⟩;have a:c0j l=C3 l l.length:=by simp[c0j,hR]
 have f:¬((p:Int)<0):=O'
 have h1:¬((p:Int)>=((C3 l l.length).length:Int)):=by rw[Y9];omega
 have b:C0 (C3 l l.length) (p:Int)=true:=R0 O' (by rw[Y9];omega);unfold k0p;rw[e,p0G hw d,a];simp[f,h1,b,P2 hp.get];omega
def z00 {l:List D0}(hw:∀x∈l,V2 x){t:Tm}(b:K5 l t)(hR:N3 l=true){c:u7}(g:k0k c l t){fuel:Nat}(i:1000001<fuel){p q:Nat}{S:List Int}{fs:List Fr}(hp:e0y l t p q S fs):
  j0j fuel c (q:Int)=some ((N8 t p q S fs).1,if(N8 t p q S fs).2.2 then(N8 t p q S fs).2.1 else[]):=by
 have f:=b.le;have j:=b.len;have a:=hp.ctx.size;have e:=hp.ctx.at_ b;have hq:q<l.length:=by have:=e.len;simp only[Tm.size]at this;omega
 have d:C0 c.up (q:Int)=true:=R0 O' (by rw[g.up.len];omega);obtain⟨r,h1,h⟩:=H02 hw b hR g i fs q (.leaf S) [cls q] [] hp.ctx (by simp;simp only[Tm.size]at a;omega) (by simp;simp only[Tm.size]at a;omega) fuel (by simp only[Tm.size]at a;omega);unfold j0j;rw[hp.num]at h;simp only[Tm.top,Tm.size,Nat.add_sub_cancel]at h1;simp only[d,if_true,b0q (show q<=1000000000 from O'),e0r (show q<=1000000000 from O'),h1,F0];unfold N8;rw[<-h];cases r with
 |inl y=>rfl
 |inr z=>obtain⟨k,z2⟩:=z;rfl
def x00 {l:List D0}{t:Tm}(b:K5 l t){p q:Nat}{S:List Int}{fs:List Fr}(hp:e0y l t p q S fs):B2 t.leaves (N8 t p q S fs).1/\(N8 t p q S fs).2.1.length<=500000:=by
 have c:=hp.ctx.size;have a:=b.le;have:=c07 b fs q (.leaf S) [cls q] [] hp.ctx ⟨V',List.Pairwise.nil⟩ (by grind);rw[hp.num]at this;exact this
def d0i {l:List D0}{t:Tm}(c:K5 l t):∀(fs:List Fr) (lo p:Nat) (s:Tm) (st:List Int) (out:List B0),Ctx t lo s fs->out.length+1000*fs.length<=500000->(Z5 lo p s st out fs).1.length<=500000
 |[],lo,p,s,st,out,d,hl=>by simp_all[Z5]
 |f :: fs,lo,p,s,st,out,d,hl=>by
  have e:=d.2.at_ c;have hlen:=e.len;have g:=c.le;have j:=c.len;simp only[length_cons]at hl;cases f with
  |catL b=>
   simp only[Fr.M3,Fr.off,sub_zero,Tm.size]at hlen;have h1:=g0w ((fs.length+1:Nat):Int) (b.R1 (lo+s.size) (p+s.leaves) st) out;have i:=b.d0R (lo+s.size) (p+s.leaves) st;have h:=b.d08;simp only[Z5];split
   ·exact d0i c fs lo p (.cat s b) _ _ d.2 O'
   grind
  |star=>
   simp only[Fr.M3,Fr.off,sub_zero,Tm.size]at hlen;have h1:=g0w ((fs.length+1:Nat):Int) (s.R1 lo p st) out;have i:=s.d0R lo p st;have h:=s.d08;exact d0i c fs lo p (.star s) _ _ d.2 O'
  |catR a=>exact d0i c fs (lo-(Fr.catR a).off) (p-(Fr.catR a).Z9) ((Fr.catR a).M3 s) _ out d.2 O'
  |altR a=>exact d0i c fs (lo-(Fr.altR a).off) (p-(Fr.altR a).Z9) ((Fr.altR a).M3 s) _ out d.2 O'
  |altL b=>exact d0i c fs (lo-(Fr.altL b).off) (p-(Fr.altL b).Z9) ((Fr.altL b).M3 s) _ out d.2 O'
  |maybe=>exact d0i c fs (lo-Fr.maybe.off) (p-Fr.maybe.Z9) (Fr.maybe.M3 s) _ out d.2 O'
  |group n=>exact d0i c fs (lo-(Fr.group n).off) (p-(Fr.group n).Z9) ((Fr.group n).M3 s) _ out d.2 O'
  |iter=>exact d0i c fs (lo-Fr.iter.off) (p-Fr.iter.Z9) (Fr.iter.M3 s) _ out d.2 O'
def t0Z {l:List D0}{t:Tm}(b:K5 l t){p q:Nat}{S:List Int}{fs:List Fr}(hp:e0y l t p q S fs):(N8 t p q S fs).1.length<=500000:=by
 have c:=hp.ctx.size;have a:=b.le;exact d0i b fs q p (.leaf S) [cls q] [] hp.ctx (by grind)
def M0V {l:List D0}(hw:∀x∈l,V2 x){t:Tm}(d:K5 l t)(hR:N3 l=true){fuel:Nat}(i:1000001<fuel){p q:Nat}{S:List Int}{fs:List Fr}(hp:e0y l t p q S fs)(f:p<Z0 l l.length):
  f0e fuel l (p:Int)=some (j5 B0.To (N8 t p q S fs).1):=by
 obtain⟨c,e,j⟩:=j0M hw d hR (show 401<fuel from O') hp f;obtain⟨a,_⟩:=x00 d hp;have hl:=t0Z d hp;have k:=d.lv;unfold f0e;rw[e];have g:p0x fuel (N8 t p q S fs).1=some (j5 B0.To (N8 t p q S fs).1):=if_pos (a.c0P O' O');simp only[q0,z00 hw d hR j i hp,g];have b:=c0E B0.To (N8 t p q S fs).1;rw[n0d _ (by rw[l0x];omega) (by rw[l0x];omega) (fun h m=>(a.ok h (b.mem_iff.1 m)).2.2)];simp
def a0B (s:List Int):B0×Bool:=if s.length=0 then(⟨0,0,[]⟩,false)else(⟨-1,0,s⟩,true)
def F0I {l:List D0}(hw:∀x∈l,V2 x){t:Tm}(b:K5 l t)(hR:N3 l=true){fuel:Nat}(d:1000001<fuel){p q:Nat}{S:List Int}{fs:List Fr}(hp:e0y l t p q S fs)(a:p<Z0 l l.length):
  a0W fuel l (p:Int)=some (a0B (if(N8 t p q S fs).2.2 then(N8 t p q S fs).2.1 else[])):=by
 obtain⟨c,e,f⟩:=j0M hw b hR (show 401<fuel from O') hp a;have h1:((p:Int)==-1)=false:=V'
 unfold a0W a0B;simp only[q0,h1,e,z00 hw b hR f d hp]
 grind
def t0Y {l:List D0}(hw:∀x∈l,V2 x){t:Tm}(a:K5 l t)(hR:N3 l=true){fuel:Nat}(f:1000001<fuel):a0W fuel l (-1)=some (a0B (if t.can then t.steps 0 else[]))/\True:=by
 have b:=a.le;have d:=a.len;have hp:=t.size_pos;have e:W ((l.length:Int)-1)=(t.top 0:Int):=by rw[J3 O' O'];unfold Tm.top;omega
 have c:c0j l=C3 l l.length:=by simp[c0j,hR]
 have g:¬((-1:Int)>=((C3 l l.length).length:Int)):=O'
 constructor
 ·unfold a0W a0B;simp only[beq_self_eq_true,if_true,e,s0T hw a hR (show 401<fuel from O') a.at0,F0];generalize (if t.can=true then t.steps 0 else[])=s
  by_cases hs:s.length=0
  ·simp[hs]
  ·simp[hs]
 ·trivial
def F0n {l:List D0}(hw:∀x∈l,V2 x){t:Tm}(a:K5 l t)(hR:N3 l=true){fuel:Nat}(p:1000001<fuel){lo:Nat}{s:Tm}(h:At l lo s):g0p fuel l (s.top lo:Int)=some (s.R1 lo (Z0 l lo) [])/\True:=by
 have b:=a.le;have n:=a.len;have d:=h.a0g;have m:=h.len;have f:¬((s.top lo:Int)<0):=O'
 have h1:¬((s.top lo:Int)>=(l.length:Int)):=O'
 have j:=s.d0R lo (Z0 l lo) [];have g:=s.d08;constructor
 ·obtain⟨c,e,i⟩:=t0T hw a hR (show 401<fuel from O');unfold g0p;rw[e];simp only[Bool.not_true,false_eq_true,if_false,f,decide_false,h1,F0,q0G hw a hR i (show 401<fuel from O') s lo h fuel [] [] O' Z' Z',nil_append];rw[n0d _ O' O' (fun k o=>(s.m0z lo (Z0 l lo) [] O' Z' k o).2.2)];rfl
 ·trivial
