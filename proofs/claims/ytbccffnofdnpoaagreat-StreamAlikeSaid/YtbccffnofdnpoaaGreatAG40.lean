/- P. Its conditions: none. -/
import Derived.Test.YtbccffnofdnpoaaGreatAG39
open List (mem_append append_nil map_append take_succ mem_of_getElem? ext_getElem getElem_set getElem_map getElem_range take_length map_cons map_nil)
open Nat (sub_zero)
open Bool (false_eq_true)
set_option linter.all false
namespace Go.Proofs.YtbccffnofdnpoaaGreat.Old
open Go.V Go.RowKit
def F3 (B:Int)(st:List Int):Prop:=∀x∈st,0<=x/\x<=B
def F3.app {B:Int}{a b:List Int}(h:F3 B a)(k:F3 B b):F3 B (a++b):=fun x c=>(mem_append.1 c).elim (h x) (k x)
def F3.one {B x:Int}(d:0<=x)(h:x<=B):F3 B [x]:=fun y c=>by simp at c;subst c;exact⟨d,h⟩
def F3.nil {B:Int}:F3 B []:=fun _ h=>by cases h
theorem F3.E3 {B:Int}{q:Nat}(h:2*(q:Int)+1<=B):F3 B [E3 q]:=F3.one (by unfold Old.E3;omega) (by unfold Old.E3;omega)
def F3.cls {B:Int}{q:Nat}(h:2*(q:Int)+1<=B):F3 B [cls q]:=F3.one (by unfold Old.cls;omega) (by unfold Old.cls;omega)
def F3.two {B:Int}{q:Nat}(h:2*(q:Int)+1<=B):F3 B [Old.E3 q,Old.cls q]:=F3.app (F3.E3 h) (F3.cls h)
def Tm.s0e (t:Tm):∀(lo:Nat) (B:Int),2*((lo+t.size:Nat):Int)<=B->F3 B (t.steps lo):=by
 induction t with
 |eps=>intro lo B h;simp only[Tm.size]at h;simp only[Tm.steps];exact F3.two O'
 |leaf s=>intro lo B h;simp only[Tm.size]at h;simp only[Tm.steps];exact F3.two O'
 |cat a b c ihb=>
  intro lo B h;simp only[Tm.size]at h;simp only[Tm.steps];have d:2*((Tm.top (.cat a b) lo:Nat):Int)+1<=B:=by simp only[Tm.top,Tm.size];omega
  exact((F3.E3 d).app ((c lo B O').app (ihb (lo+a.size) B O'))).app (F3.cls d)
 |alt a b c ihb=>
  intro lo B h;simp only[Tm.size]at h;simp only[Tm.steps];have d:2*((Tm.top (.alt a b) lo:Nat):Int)+1<=B:=by simp only[Tm.top,Tm.size];omega
  refine((F3.E3 d).app ?_).app (F3.cls d);split
  ·exact c lo B O'
  ·exact ihb (lo+a.size) B O'
 |star a c=>intro lo B h;simp only[Tm.size]at h;simp only[Tm.steps];exact F3.two J'
 |maybe a c=>intro lo B h;simp only[Tm.size]at h;simp only[Tm.steps];exact F3.two J'
 |group n a c=>
  intro lo B h;simp only[Tm.size]at h;simp only[Tm.steps];have d:2*((Tm.top (.group n a) lo:Nat):Int)+1<=B:=by simp only[Tm.top,Tm.size];omega
  exact((F3.E3 d).app (c lo B O')).app (F3.cls d)
 |iter a c=>
  intro lo B h;simp only[Tm.size]at h;simp only[Tm.steps];have d:2*((Tm.top (.iter a) lo:Nat):Int)+1<=B:=by simp only[Tm.top,Tm.size];omega
  exact((F3.E3 d).app (c lo B O')).app (F3.cls d)
def X8 (B:Int)(l:List B0):Prop:=∀h∈l,F3 B h.Steps
def X8.app {B:Int}{a b:List B0}(h:X8 B a)(k:X8 B b):X8 B (a++b):=fun x c=>(mem_append.1 c).elim (h x) (k x)
def Tm.o09 (t:Tm):∀(lo p:Nat) (ahead:List Int) (B:Int),2*((lo+t.size:Nat):Int)<=B->F3 B ahead->X8 B (t.R1 lo p ahead):=by
 induction t with
 |eps=>intro lo p ahead B h k x d;simp[Tm.R1]at d
 |leaf s=>intro lo p ahead B h k x d;simp only[Tm.size]at h;simp only[Tm.R1,List.mem_singleton]at d;subst d;exact k.app (F3.E3 O')
 |cat a b c ihb=>
  intro lo p ahead B h k;simp only[Tm.size]at h;simp only[Tm.R1];have g:2*((Tm.top (.cat a b) lo:Nat):Int)+1<=B:=by simp only[Tm.top,Tm.size];omega
  have f:=k.app (F3.E3 g);refine(c lo p _ B O' f).app ?_;split
  ·exact ihb _ _ _ B O' (f.app (a.s0e lo B O'))
  ·intro x d;cases d
 |alt a b c ihb=>
  intro lo p ahead B h k;simp only[Tm.size]at h;simp only[Tm.R1];have g:2*((Tm.top (.alt a b) lo:Nat):Int)+1<=B:=by simp only[Tm.top,Tm.size];omega
  have f:=k.app (F3.E3 g);exact(c lo p _ B O' f).app (ihb _ _ _ B O' f)
 |star a c|maybe a c|group n a c|iter a c=>
  intro lo p ahead B h k;simp only[Tm.size]at h;simp only[Tm.R1];exact c lo p _ B O' (k.app (F3.E3 J'))
def o0q {B:Int}(d:Int):∀(r out:List B0),X8 B out->X8 B r->X8 B (G8 d out r)
 |[],out,h,_=>h
 |x :: r,out,h,k=>by
  simp only[G8];have f:X8 B r:=fun y c=>k y (List.mem_cons_of_mem _ c);split
  ·exact o0q d r out h f
  ·exact o0q d r _ (h.app fun y c=>by simp at c;subst c;exact k x V') f
def Ctx.lo_le {t:Tm}:∀{fs:List Fr} {lo:Nat} {s:Tm},Ctx t lo s fs->lo+s.size<=t.size
 |[],lo,s,⟨c,h⟩=>by subst h;omega
 |f :: fs,lo,s,⟨c,h⟩=>by
  have:=Ctx.lo_le h;cases f<;>simp[Fr.M3,Fr.off,Tm.size]at this c ⊢<;>omega
def l0B {t:Tm}{B:Int}(i:2*(t.size:Int)<=B):∀(fs:List Fr) (lo p:Nat) (s:Tm) (st:List Int) (out:List B0),Ctx t lo s fs->F3 B st->X8 B out->
  X8 B (Z5 lo p s st out fs).1/\F3 B (Z5 lo p s st out fs).2.1
 |[],lo,p,s,st,out,_,h,k=>by simp only[Z5];exact⟨k,h⟩
 |f :: fs,lo,p,s,st,out,hx,h,k=>by
  have d:=Ctx.lo_le hx.2;have c:=hx.2;have g:=hx.1;cases f with
  |catL b=>
   simp only[Fr.M3,Fr.off,sub_zero,Tm.size]at d c g;have hs:=b.s0e (lo+s.size) B O';have hi:=b.o09 (lo+s.size) (p+s.leaves) st B O' h;have j:=o0q ((fs.length+1:Nat):Int) _ _ k hi;simp only[Z5];split
   ·exact l0B i fs lo p _ _ _ c ((h.app hs).app (F3.cls J')) j
   ·exact⟨j,F3.nil⟩
  |star=>
   simp only[Fr.M3,Fr.off,sub_zero,Tm.size]at d c g;simp only[Z5];exact l0B i fs lo p _ _ _ c (h.app (F3.cls J')) (o0q _ _ _ k (s.o09 lo p st B O' h))
  |catR a|altL b|altR a|maybe|group n|iter=>
   simp only[Fr.M3,Fr.off,sub_zero,Tm.size]at d c g;simp only[Z5,Fr.M3,Fr.off,Fr.Z9,sub_zero];exact l0B i fs _ _ _ _ _ c (h.app (F3.cls J')) k
def a0S (l:List B0):Prop:=∀h∈l,0<=h.Turn/\h.Turn<=400
def a0S.app {a b:List B0}(h:a0S a)(k:a0S b):a0S (a++b):=fun x c=>(mem_append.1 c).elim (h x) (k x)
def Tm.F0s (t:Tm):∀(lo p:Nat) (ahead:List Int),a0S (t.R1 lo p ahead):=by
 induction t with
 |eps=>intro lo p ahead x f;simp[Tm.R1]at f
 |leaf s=>intro lo p ahead x f;simp only[Tm.R1,List.mem_singleton]at f;subst f;exact⟨Int.le_refl _,show(0:Int)<=400 from O'⟩
 |cat a b c d=>
  intro lo p ahead;simp only[Tm.R1];refine(c lo p _).app ?_;split
  ·exact d _ _ _
  ·intro x f;cases f
 |alt a b c d=>intro lo p ahead;simp only[Tm.R1];exact(c lo p _).app (d _ _ _)
 |star a c|maybe a c|group n a c|iter a c=>intro lo p ahead;simp only[Tm.R1];exact c lo p _
def o0A {d:Int}(c:0<=d)(h1:d<=400):∀(r out:List B0),a0S out->a0S (G8 d out r)
 |[],out,h=>h
 |x :: r,out,h=>by
  simp only[G8];split
  ·exact o0A c h1 r out h
  ·exact o0A c h1 r _ (h.app fun y f=>by simp at f;subst f;exact⟨c,h1⟩)
def n0B {t:Tm}(i:t.size<=400):∀(fs:List Fr) (lo p:Nat) (s:Tm) (st:List Int) (out:List B0),Ctx t lo s fs->a0S out->a0S (Z5 lo p s st out fs).1
 |[],lo,p,s,st,out,_,k=>by simp only[Z5];exact k
 |f :: fs,lo,p,s,st,out,hx,k=>by
  have g:=Ctx.size hx;have c:=hx.2;have:=s.size_pos;simp only[List.length_cons]at g;cases f with
  |catL b=>
   simp only[Fr.M3,Fr.off,sub_zero]at c;have h:=o0A (d:=((fs.length+1:Nat):Int)) O' O' (b.R1 (lo+s.size) (p+s.leaves) st) out k;simp only[Z5];split
   ·exact n0B i fs lo p _ _ _ c h
   ·exact h
  |star=>
   simp only[Fr.M3,Fr.off,sub_zero]at c;simp only[Z5];exact n0B i fs lo p _ _ _ c (o0A O' O' _ _ k)
  |catR a|altL b|altR a|maybe|group n|iter=>
   simp only[Fr.M3,Fr.off,sub_zero]at c;simp only[Z5,Fr.M3,Fr.off,Fr.Z9,sub_zero];exact n0B i fs _ _ _ _ _ c k
end Go.Proofs.YtbccffnofdnpoaaGreat.Old
namespace Go.Proofs.YtbccffnofdnpoaaGreat.Old
open Go.V Go.RowKit
def u0G {s:List Int}(h:s.length<=500000):(a0B s).1.Steps.length<=500000:=by
 unfold a0B;split<;>simp[h]
def Tm.s0I (s:Tm):∀(lo p:Nat) (ahead:List Int),(∀h∈s.R1 lo p ahead,(p:Int)<=h.To/\h.To<((p+s.leaves:Nat):Int))/\(s.R1 lo p ahead).Pairwise fun a b=>a.To<b.To:=by
 induction s with
 |eps=>intro lo p ahead;simp[Tm.R1]
 |leaf s=>intro lo p ahead;simp[Tm.R1,Tm.leaves];omega
 |cat a b c ihb=>
  intro lo p ahead;simp only[Tm.R1,Tm.leaves];obtain⟨h1,f⟩:=c lo p (ahead++[E3 (Tm.top (.cat a b) lo)]);split
  ·refine⟨fun h d=>?_,List.pairwise_append.2 ⟨f,(ihb _ _ _).2,fun x g y i=>?_⟩⟩
   ·rcases mem_append.1 d with d|d
    ·have:=h1 h d;omega
    ·have:=(ihb _ _ _).1 h d;omega
   ·have:=h1 x g;have:=(ihb _ _ _).1 y i;omega
  ·simp only[append_nil];exact⟨fun h d=>by have:=h1 h d;omega,f⟩
 |alt a b c ihb=>
  intro lo p ahead;simp only[Tm.R1,Tm.leaves];obtain⟨h1,f⟩:=c lo p (ahead++[E3 (Tm.top (.alt a b) lo)]);obtain⟨j,k⟩:=ihb (lo+a.size) (p+a.leaves) (ahead++[E3 (Tm.top (.alt a b) lo)]);refine⟨fun h d=>?_,List.pairwise_append.2 ⟨f,k,fun x g y i=>?_⟩⟩
  ·rcases mem_append.1 d with d|d
   ·have:=h1 h d;omega
   ·have:=j h d;omega
  ·have:=h1 x g;have:=j y i;omega
 |star a c|maybe a c|group _ a c|iter a c=>
  intro lo p ahead;simp only[Tm.R1,Tm.leaves];exact c lo p _
def L00 {l:List D0}{t:Tm}(f:K5 l t):B2 t.leaves (t.R1 0 0 []):=by
 have d:=f.le;have g:=f.len;exact⟨fun h c=>⟨(by have:=(t.s0I 0 0 []).1 h c;omega),(by have:=(t.s0I 0 0 []).1 h c;omega),(t.m0z 0 0 [] O' Z' h c).2.2⟩,(t.s0I 0 0 []).2.imp fun h=>O'⟩
def G0H {n:Nat}{out:List B0}(h:B2 n out):B2 n (j5 B0.To out):=by
 refine⟨fun x c=>h.ok x ((c0E B0.To _).mem_iff.1 c),?_⟩;have hp:=c0E B0.To out;exact hp.symm.pairwise_iff (R:=fun a b:B0=>a.To≠b.To) (fun h=>h.symm) |>.1 h.dist
structure m0a (l:List D0)(n:Nat)(a:List B0)(b:Nat->List B0)(e:Nat->B0×Bool)(z:B0×Bool):Prop where
 n64:n<=400
 aw:B2 n a
 bw:∀p,p<n->B2 n (b p)
 el:∀p,p<n->(e p).1.Steps.length<=500000
 zl:z.1.Steps.length<=500000
 e0:∀p,p<n->(e p).2=decide ((e p).1.Steps≠[])
 z0:z.2=decide (z.1.Steps≠[])
 ab:X8 800 a
 bb:∀p,p<n->X8 800 (b p)
 eb:∀p,p<n->F3 800 (e p).1.Steps
 zb:F3 800 z.1.Steps
 al:a.length<=500000
 aT:a0S a
 bT:∀p,p<n->a0S (b p)
 bl:∀p,p<n->(b p).length<=500000
def x0H {B:Int}{s:List Int}(h:F3 B s):F3 B (a0B s).1.Steps:=by
 unfold a0B;split
 ·exact F3.nil
 ·exact h
def y0X {l:List D0}{t:Tm}(f:K5 l t){p q:Nat}{S:List Int}{fs:List Fr}(hp:e0y l t p q S fs):X8 800 (N8 t p q S fs).1/\F3 800 (N8 t p q S fs).2.1:=by
 have d:=f.le;have c:=Ctx.lo_le hp.ctx;simp only[Tm.size]at c;exact l0B O' fs q p _ _ _ hp.ctx (F3.cls O') (fun _ h=>by cases h)
end Go.Proofs.YtbccffnofdnpoaaGreat.Old
namespace Go.Proofs.YtbccffnofdnpoaaGreat
open Go.V Go.RowKit Old
@[simp] def R9 {α:Type}(x:Option α):Option.bind x (fun r=>some r)=x:=by cases x<;>rfl
def r0z (s:List Int):(a0B s).2=decide ((a0B s).1.Steps≠[]):=by
 unfold a0B;split
 ·simp
 ·rename_i h;simp;intro e;exact h (by simp[e])
structure m0v (l:List D0)(n:Nat)(a:List B0)(b:Nat->List B0)(e:Nat->B0×Bool)(z:B0×Bool)(F:Nat):Prop where
 mR:Q9 F l=some true
 rR:g0l F l=some true
 mL:T9 F l=some (C3 l l.length)
 mA:g0p F l ((l.length:Int)-1)=some a
 mZ:a0W F l (-1)=some z
 mB:∀p:Nat,p<n->f0e F l (p:Int)=some (b p)
 mE:∀p:Nat,p<n->a0W F l (p:Int)=some (e p)
def m0V {l:List D0}(hw:∀x∈l,V2 x)(hl:l.length*64<=140737488351232)(hR:N3 l=true):∃a b e z,m0a l (Z0 l l.length) a b e z/\∀F,1000001<F->l.length+1<F->m0v l (Z0 l l.length) a b e z F:=by
 obtain⟨t,d⟩:=c0v hw hR;have k:=d.le;have q:=d.len;have hn:t.leaves=Z0 l l.length:=by
  have h:=b0K d.at0;rw[Nat.zero_add,<-q]at h;rw[h];simp[Z0]
 have f:∀p:Nat,∃x:List B0×(B0×Bool),p<Z0 l l.length->(B2 (Z0 l l.length) x.1/\x.2.1.Steps.length<=500000/\x.2.2=decide (x.2.1.Steps≠[])/\X8 800 x.1/\F3 800 x.2.1.Steps/\x.1.length<=500000/\a0S x.1/\
   ∀F,1000001<F->l.length+1<F->f0e F l (p:Int)=some x.1/\a0W F l (p:Int)=some x.2):=by
  intro p
  by_cases hp:p<Z0 l l.length
  ·obtain⟨r,S,fs,c⟩:=A04 d hp;obtain⟨i,hlen⟩:=x00 d c;refine⟨(j5 B0.To (N8 t p r S fs).1,a0B (if(N8 t p r S fs).2.2 then(N8 t p r S fs).2.1 else[])),fun _=>⟨?_,?_,r0z _,fun h s=>(y0X d c).1 h ((c0E B0.To _).mem_iff.1 s),x0H ?_,by rw[l0x];exact t0Z d c,fun h s=>n0B k fs _ _ _ _ _ c.ctx (fun _ h=>by cases h) h ((c0E B0.To _).mem_iff.1 s),fun F j g=>⟨?_,?_⟩⟩⟩
   ·rw[<-hn];exact G0H i
   ·refine u0G ?_;split
    ·exact hlen
    ·simp
   ·split
    ·exact(y0X d c).2
    ·exact F3.nil
   ·exact(Old.M0V hw d hR j c hp)
   ·exact(Old.F0I hw d hR j c hp)
  ·exact⟨([],(⟨0,0,[]⟩,false)),fun h=>absurd h hp⟩
 have v:=t.c0l 0;refine⟨t.R1 0 0 [],fun p=>(Classical.choose (f p)).1,fun p=>(Classical.choose (f p)).2,a0B (if t.can then t.steps 0 else[]),⟨?_,?_,?_,?_,?_,?_,?_,?_,?_,?_,?_,?_,?_,?_,?_⟩,fun F j g=>?_⟩
 ·have:=e07 l l.length;omega
 ·rw[<-hn];exact L00 d
 ·intro p hp;exact(Classical.choose_spec (f p) hp).1
 ·intro p hp;exact(Classical.choose_spec (f p) hp).2.1
 ·refine u0G ?_;split
  ·omega
  ·simp
 ·intro p hp;exact(Classical.choose_spec (f p) hp).2.2.1
 ·exact r0z _
 ·exact t.o09 0 0 [] 800 O' F3.nil
 ·intro p hp;exact(Classical.choose_spec (f p) hp).2.2.2.1
 ·intro p hp;exact(Classical.choose_spec (f p) hp).2.2.2.2.1
 ·refine x0H ?_;split
  ·exact t.s0e 0 800 O'
  ·exact F3.nil
 ·have:=t.d0R 0 0 [];have:=t.d08;omega
 ·exact t.F0s 0 0 []
 ·intro p hp;exact(Classical.choose_spec (f p) hp).2.2.2.2.2.2.1
 ·intro p hp;exact(Classical.choose_spec (f p) hp).2.2.2.2.2.1
 ·have o:c0j l=C3 l l.length:=by simp[c0j,hR]
  obtain⟨h1,y⟩:=Old.t0Y hw d hR j;obtain⟨u,w⟩:=Old.F0n hw d hR j d.at0;have m:((t.top 0:Nat):Int)=(l.length:Int)-1:=by have:=t.size_pos;unfold Tm.top;omega
  rw[m]at u;exact⟨(by rw[Old.d0t l O',hR]),(by rw[Old.u0k l hl g,hR]),(by rw[Old.p0G hw O',o]),u,h1,
   fun p hp=>((Classical.choose_spec (f p) hp).2.2.2.2.2.2.2 F j g).1,fun p hp=>((Classical.choose_spec (f p) hp).2.2.2.2.2.2.2 F j g).2⟩
end Go.Proofs.YtbccffnofdnpoaaGreat
namespace Go.Proofs.YtbccffnofdnpoaaGreat
open Go.V Go.RowKit Old
def b0L (B1:List D0)(n:Nat):Bool:=B1.any fun x=>x.Kind==7&&x.N==(n:Int)
def b0v (B1:List D0)(k:Nat):List Int:=((List.range k).filter (b0L B1)).map fun n:Nat=>(n:Int)
def I0J (B1:List D0):b0v B1 0=[]:=rfl
theorem X4 {α:Type}[Inhabited α]{l:List α}{i:Nat}(h:i<l.length):l[i]?=some (gt l (i:Int)):=by
 have:=m0e (R0 (l:=l) (i:=(i:Int)) O' O');simpa using this
def l0s (B1:List D0):List Int:=b0v B1 10
def Gok (B1:List D0):Prop:=∀x∈B1,x.Kind=7->1<=x.N/\x.N<=9
def F0E (B1:List D0)(k:Nat):b0v B1 (k+1)=if b0L B1 k then b0v B1 k++[(k:Int)]else b0v B1 k:=by
 unfold b0v;rw[List.range_succ,List.filter_append,map_append];cases h:b0L B1 k<;>simp[h]
def u0h (B1:List D0)(k:Nat):(b0v B1 k).length<=k:=by
 unfold b0v;rw[List.length_map];exact Nat.le_trans (List.length_filter_le _ _) V'
def flags (B1:List D0):List Bool:=(List.range 10).map (b0L B1)
def J05 (B1:List D0){n:Nat}(h:n<10):gt (flags B1) (n:Int)=b0L B1 n:=by
 refine P2 ?_;simp[flags,h]
def J0Z {B1:List D0}{i:Nat}(hi:i<B1.length)(hk:Gok B1):flags (B1.take (i+1))=if(gt B1 (i:Int)).Kind==7 then(flags (B1.take i)).set (gt B1 (i:Int)).N.toNat true else flags (B1.take i):=by
 have d:B1[i]?=some (gt B1 (i:Int)):=X4 hi;have f:B1.take (i+1)=B1.take i++[gt B1 (i:Int)]:=by rw[take_succ,d];rfl
 have hm:=hk _ (mem_of_getElem? d);generalize gt B1 (i:Int)=x at *;cases c:x.Kind==7
 ·simp only[if_false,false_eq_true];unfold flags;refine List.map_congr_left fun n _=>?_;simp[b0L,f,c]
 ·simp only[if_true];have hm:=hm (by simpa using c);refine ext_getElem (by simp[flags]) fun n h1 g=>?_;simp only[flags,List.length_map,List.length_range]at h1;rw[getElem_set];simp only[flags,getElem_map,getElem_range];rw[show b0L (B1.take (i+1)) n=(b0L (B1.take i) n||(x.N==(n:Int)))from by simp[b0L,f,c]];split
  ·rename_i e;have:x.N=(n:Int):=O'
   simp[this]
  ·rename_i e;have:(x.N==(n:Int))=false:=by simp;omega
   simp[this]
section
variable {F:Nat}
def L0L {l:List D0}{q:Int}{low:List Int}{B1:List D0}(hs:U1 l (gt low q) (W (q+1))=B1)(hk:Gok B1)(hl:B1.length<=400)(j:401<F):
  iter (j0h F l q low (B1.length:Int)) F (0,[false,false,false,false,false,false,false,false,false,false])=some (flags B1):=by
 have d:flags (B1.take 0)=[false,false,false,false,false,false,false,false,false,false]:=by simp[flags,b0L];decide
 rw[<-d];have:=V3 (step:=j0h F l q low (B1.length:Int)) (fun i=>((i:Int),flags (B1.take i))) (flags B1) B1.length (fun i hi=>.inl ?_) ?_ B1.length 0 F O' O'
 ·exact this
 ·unfold j0h;have h1:(i:Int)<(B1.length:Int):=O'
  have c:C0 B1 (i:Int)=true:=R0 O' O';have hm:=hk _ (mem_of_getElem? (m0e c));have g:W ((i:Int)+1)=((i+1:Nat):Int):=by rw[J3 O' O'];omega
  simp only[hs,h1,decide_true,if_true,c,g];rw[J0Z hi hk];cases h:(gt B1 (i:Int)).Kind==7
  ·simp only[q0]
  ·have hm:=hm (by simpa using h);have f:(decide (0<=(gt B1 (i:Int)).N)&&decide ((gt B1 (i:Int)).N<10))=true:=by simp;omega
   simp only[if_true,f,F0]
 ·unfold j0h;have h1:¬((B1.length:Int)<(B1.length:Int)):=O'
  simp only[q0,h1,take_length]
def E0l {B1:List D0}(g:401<F):iter (i0O F (flags B1)) F ([],0)=some (l0s B1):=by
 have:=V3 (step:=i0O F (flags B1)) (fun i=>(b0v B1 i,(i:Int))) (l0s B1) 10 (fun i hi=>.inl ?_) ?_ 10 0 F O' O'
 ·rw[I0J]at this;exact this
 ·unfold i0O;have h1:(i:Int)<10:=O'
  have d:(0:Int)<=(i:Int):=O'
  have f:W ((i:Int)+1)=((i+1:Nat):Int):=by rw[J3 O' O'];omega
  have c:J0 8 (b0v B1 i) [(i:Int)]=true:=by have:=u0h B1 i;simp[J0];omega
  simp only[h1,d,decide_true,if_true,Bool.and_self,J05 B1 hi,f,c];rw[F0E];cases b0L B1 i<;>simp only[q0]
 ·unfold i0O;simp[l0s]
def E0u {l:List D0}:∀{i:Nat} {a:List Int},N5 l i=some a->∀j:Nat,j<i->a0b (gt l (j:Int))=true:=by
 intro i
 induction i with
 |zero=>intro a _ j c;omega
 |succ i ih=>
  intro a h j c;unfold N5 at h;cases e:N5 l i with
  |none=>rw[e]at h;cases h
  |some b=>
   rw[e]at h;dsimp only at h;split at h
   ·rename_i hg;rcases Nat.lt_or_ge j i with h1|h1
    ·exact ih e j h1
    ·obtain rfl:j=i:=O'
     simp only[D7,Bool.and_eq_true]at hg;exact hg.1.2
   ·cases h
structure x0B (l:List D0):Prop where
 ne:S5 l≠[]
 len:(S5 l).length=l.length
 rng:∀j:Nat,j<l.length->0<=gt (S5 l) (j:Int)/\gt (S5 l) (j:Int)<=j
 grp:∀x∈l,x.Kind=7->1<=x.N/\x.N<=9
 pos:0<l.length
 le:l.length<=400
def i0H {l:List D0}(hR:N3 l=true):x0B l:=by
 have d:S5 l≠[]:=by intro e;simp[N3,e]at hR
 have h:=d;unfold S5 at h;cases e:N5 l l.length with
 |none=>rw[e]at h;exact absurd rfl h
 |some a=>
  have c:=d00 e;rw[e]at h;dsimp only at h;split at h
  ·exact absurd rfl h
  ·rename_i hn;have i:S5 l=a:=by unfold S5;rw[e];dsimp only;rw[if_neg hn]
   refine⟨d,by rw[i];exact c.len,fun j f=>by rw[i];exact c.rng j f,fun x k m=>?_,O',O'⟩;obtain⟨j,f,rfl⟩:=List.getElem_of_mem k;have g:=E0u e j f;have hg:gt l (j:Int)=l[j]:=P2 (List.getElem?_eq_getElem f);rw[hg]at g;simp[a0b,m]at g;exact g.2
def b0p (l:List D0)(q:Int):List Int:=if q<0\/(l.length:Int)<=q then[]else l0s (U1 l (gt (S5 l) q) (q+1))
def z0o {l:List D0}(c:401<F):c0b F l=some (S5 l):=(Old.w05 l c)
def F0a {l:List D0}(h:x0B l)(a b:Int):Gok (U1 l a b):=fun x c d=>h.grp x (List.mem_of_mem_drop (List.mem_of_mem_take c)) d
def v09 {l:List D0}(hR:N3 l=true)(q:Int)(f:401<F):j0z F l q=some (b0p l q):=by
 have h:=i0H hR;have i:=h.le;have hlen:=h.len;unfold j0z b0p;rw[z0o f];simp only[F0,hlen]
 by_cases d:q<0
 ·simp[d]
 ·by_cases h1:(l.length:Int)<=q
  ·have:q>=(l.length:Int):=h1;simp[d,this]
  ·obtain⟨n,rfl⟩:∃n:Nat,q=n:=⟨q.toNat,O'⟩
   have hn:n<l.length:=O'
   have m:=h.rng n hn;have j:W ((n:Int)+1)=(n:Int)+1:=J3 O' O';have k:¬((n:Int)>=(l.length:Int)):=h1;have c:b5 l (gt (S5 l) (n:Int)) ((n:Int)+1)=true:=by simp[b5];omega
   have g:C0 (S5 l) (n:Int)=true:=R0 O' O';simp only[q0,d,h1,k,g,j,c,or_self];rw[L0L (by rw[j]) (F0a h _ _) (by rw[f0f c];omega) f,F0,E0l f,F0]
end
theorem J0n {B1:List D0}{k:Nat}{x:Int}(h:x∈b0v B1 k):0<=x/\x<k:=by
 unfold b0v at h
 grind
def O0F {l:List D0}{q x:Int}(h:x∈b0p l q):0<=x/\x<10:=by
 unfold b0p at h;split at h
 ·cases h
 ·exact J0n h
theorem q0j (l:List D0)(q:Int):(b0p l q).length<=10:=by
 unfold b0p;split
 ·simp
 ·exact u0h _ 10
def f0m (l:List D0):Int:=(b0p l ((l.length:Int)-1)).getLast?.getD 0
def Z2 (l:List D0):Int:=1+2*f0m l
def q0g (l:List D0):0<=f0m l/\f0m l<10:=by
 unfold f0m;cases h:(b0p l ((l.length:Int)-1)).getLast? with
 |none=>simp
 |some x=>exact O0F (List.mem_of_getLast? h)
section
variable {F:Nat}
theorem O0e {l:List D0}(hR:N3 l=true)(d:401<F):l0i F l=some (f0m l):=by
 have h:=i0H hR;have c:=h.le;unfold l0i f0m;rw[show W ((l.length:Int)-1)=(l.length:Int)-1 from J3 O' O',v09 hR _ d,F0,R9];have f:=q0j l ((l.length:Int)-1);generalize b0p l ((l.length:Int)-1)=g at *;have:=V3 (step:=m0u F g) (fun i=>((g.take i).getLast?.getD 0,(i:Int))) (g.getLast?.getD 0) g.length (fun i hi=>.inl ?_) ?_ g.length 0 F O' O'
 ·grind
 ·unfold m0u;have j:W ((i:Int)+1)=((i+1:Nat):Int):=by grind [J3]
  have k:g.take (i+1)=g.take i++[gt g (i:Int)]:=by grind [take_succ,X4]
  simp_all[R0]
 simp[m0u]
def l0u {l:List D0}(hR:N3 l=true)(c:401<F):e0Y F l=some (Z2 l):=by
 have d:=q0g l;unfold e0Y Z2;rw[(Old.d0t l c),hR];simp only[q0,O0e hR c];rw[J3 (n:=2*f0m l) O' O',J3 O' O']
def e0K (l:List D0)(s:Int):List R3:=
 if s<0\/(l.length:Int)<=s / 2 then[]else
 if(gt l (s / 2)).Kind=7 then[⟨1+s % 2,(gt l (s / 2)).N⟩]else
 if(gt l (s / 2)).Kind=8/\s % 2=0 then(b0p l (s / 2)).map fun g=>⟨3,g⟩else[]
theorem p0z (l:List D0)(s:Int):(e0K l s).length<=10:=by
 grind [e0K,q0j]
def L5 (l:List D0)(steps:List Int):List R3:=steps.flatMap (e0K l)
theorem F0t {g:List Int}{step:List R3×Int->Option (X0 (List R3×Int) (List R3))}(c:∀o (i:Int),step (o,i)=if decide (i<(g.length:Int))then if C0 g i then if J0 16 o [(⟨3,gt g i⟩:R3)]then some (.next (o++[(⟨3,gt g i⟩:R3)],W (i+1)))else none else none else some (.done o))
  (hg:g.length<=10) (f:401<F) (o:List R3) (h:o.length<=100000000):iter step F (o,0)=some (o++g.map fun g=>⟨3,g⟩):=by
 have:=V3 (step:=step) (fun i=>(o++(g.take i).map fun g=>(⟨3,g⟩:R3),(i:Int))) (o++g.map fun g=>⟨3,g⟩) g.length (fun i hi=>.inl ?_) ?_ g.length 0 F O' O'
 ·simp_all
 ·have j:W ((i:Int)+1)=((i+1:Nat):Int):=by grind [J3]
  have k:g.take (i+1)=g.take i++[gt g (i:Int)]:=by grind [take_succ,X4]
  have d:J0 16 (o++(g.take i).map fun g=>(⟨3,g⟩:R3)) [(⟨3,gt g (i:Int)⟩:R3)]=true:=by grind [J0]
  simp_all[R0]
 simp_all
def SOk (s:Int):Prop:=-9223372036854775808<=s/\s<=9223372036854775807
theorem I0o {l:List D0}(hR:N3 l=true)(d:401<F){s:Int}(hs:SOk s):n06 F l s=some (e0K l s):=by
 have h:=i0H hR;unfold n06 e0K
 by_cases f:s<0
 ·grind
 ·obtain⟨n,rfl⟩:∃n:Nat,s=n:=⟨s.toNat,O'⟩
  obtain⟨_,j⟩:=hs;have q:(n:Int).tdiv 2=((n / 2:Nat):Int):=rfl;have p:(n:Int).tmod 2=((n % 2:Nat):Int):=rfl;have u:(n:Int) / 2=((n / 2:Nat):Int):=O'
  have t:(n:Int) % 2=((n % 2:Nat):Int):=O'
  have w:W ((n / 2:Nat):Int)=((n / 2:Nat):Int):=J3 O' O';simp only[q0,q,p,u,t,w,f,false_or]
  by_cases h1:(l.length:Int)<=((n / 2:Nat):Int)
  ·grind
  ·have c:C0 l ((n / 2:Nat):Int)=true:=R0 O' O';simp only[q0,h1,c];have m:((n % 2:Nat):Int)=0\/((n % 2:Nat):Int)=1:=O'
   generalize ((n % 2:Nat):Int)=r at *;generalize ((n / 2:Nat):Int)=k at *
   by_cases x:(gt l k).Kind=7
   ·grind
   ·by_cases v:(gt l k).Kind=8
    ·rcases m with rfl|rfl
     ·simp only[v,if_true,F0,beq_self_eq_true,and_self,v09 hR _ d,R9];have:=F0t (F:=F) (g:=b0p l k) (step:=y0e F (b0p l k)) (fun o i=>rfl) (q0j _ _) d [] V'
      simp_all
     simp_all
    simp_all
def g09 {l:List D0}(hR:N3 l=true){st:List Int}(f:st.length<=2000000)(j:2000001<F)(hs:∀s∈st,SOk s):d0p F l st=some (L5 l st):=by
 unfold d0p;rw[(Old.d0t l O'),hR];simp only[q0,R9];have hlen:∀i,i<=st.length->(L5 l (st.take i)).length<=10*i:=by
  intro i
  induction i with
  |zero=>intro _;simp[L5]
  |succ i ih=>
   intro hi;have:=ih O';have d:=p0z l (gt st (i:Int));rw[show st.take (i+1)=st.take i++[gt st (i:Int)]from by rw[take_succ,X4 O'];rfl];simp only[L5,List.flatMap_append,List.length_append,List.flatMap_cons,List.flatMap_nil,append_nil]at *;omega
 have:=V3 (step:=l0L F l st) (fun i=>(L5 l (st.take i),(i:Int))) (L5 l st) st.length (fun i hi=>.inl ?_) ?_ st.length 0 F O' O'
 ·exact this
 ·unfold l0L;have h1:(i:Int)<(st.length:Int):=O'
  have g:W ((i:Int)+1)=((i+1:Nat):Int):=by rw[J3 O' O'];omega
  have h:st.take (i+1)=st.take i++[gt st (i:Int)]:=by rw[take_succ,X4 hi];rfl
  have d:=p0z l (gt st (i:Int));have k:=hlen i O';have c:J0 16 (L5 l (st.take i)) (e0K l (gt st (i:Int)))=true:=by simp[J0];omega
  simp only[q0,h1,R0 (l:=st) (i:=(i:Int)) O' h1,g,I0o hR (show 401<F from O') (hs _ (mem_of_getElem? (X4 hi))),c,h,L5,List.flatMap_append,List.flatMap_cons,List.flatMap_nil,append_nil];rw[show L5 l (List.take i st)=List.flatMap (e0K l) (List.take i st)from rfl]at c;rw[if_pos c]
 ·unfold l0L;have h1:¬((st.length:Int)<(st.length:Int)):=O'
  simp only[q0,h1,take_length]
theorem f0u (l:List D0):∀st:List Int,(L5 l st).length<=10*st.length
 |[]=>by simp[L5]
 |x :: r=>by
  have h:=f0u l r
  grind [p0z,L5]
end
def H3 (l:List D0)(h:B0):G4:=⟨h,L5 l h.Steps⟩
def i7 (l:List D0)(n:Nat)(a:List B0)(b:Nat->List B0)(e:Nat->B0×Bool)(z:B0×Bool):c0r:=
 ⟨l,(C3 l l.length).map fun q=>(gt l q).Set,a.map (H3 l),(List.range n).map fun p=>(b p).map (H3 l),(List.range n).map fun p=>H3 l (e p).1,(List.range n).map fun p=>(e p).2,L5 l z.1.Steps,z.2,Z2 l,z.1⟩
def F3.sok {st:List Int}(h:F3 800 st):∀s∈st,SOk s:=fun s hs=>by have:=h s hs;unfold SOk;omega
def M0Y {β:Type}(f:Nat->β)(i:Nat):(List.range (i+1)).map f=(List.range i).map f++[f i]:=by
 rw[List.range_succ,map_append];rfl
section
variable {F:Nat}
def w0q {l:List D0}(hR:N3 l=true){hops:List B0}(hlen:hops.length<=500000)(d:2000001<F)(j:X8 800 hops)(hs:∀h∈hops,h.Steps.length<=2000000):j0R F l hops=some (hops.map (H3 l)):=by
 unfold j0R;rw[R9];have:=V3 (step:=k00 F l hops) (fun i=>((hops.take i).map (H3 l),(i:Int))) (hops.map (H3 l)) hops.length (fun i hi=>.inl ?_) ?_ hops.length 0 F O' O'
 ·exact this
 ·unfold k00;have h1:(i:Int)<(hops.length:Int):=O'
  have f:W ((i:Int)+1)=((i+1:Nat):Int):=by rw[J3 O' O'];omega
  have g:hops.take (i+1)=hops.take i++[gt hops (i:Int)]:=by rw[take_succ,X4 hi];rfl
  have hm:=mem_of_getElem? (X4 hi);have c:J0 64 ((hops.take i).map (H3 l)) [(⟨gt hops (i:Int),L5 l (gt hops (i:Int)).Steps⟩:G4)]=true:=by simp[J0];omega
  simp only[q0,h1,R0 (l:=hops) (i:=(i:Int)) O' h1,f,g09 hR (hs _ hm) d (F3.sok (j _ hm)),c,g,map_append,map_cons,map_nil,H3]
 ·unfold k00;have h1:¬((hops.length:Int)<(hops.length:Int)):=O'
  simp only[q0,h1,take_length]
variable {l:List D0}{n:Nat}{a:List B0}{b:Nat->List B0}{e:Nat->B0×Bool}{z:B0×Bool}
def O0T (hR:N3 l=true)(hn:n=Z0 l l.length)(T:m0a l n a b e z)(k:2000001<F)(TF:m0v l n a b e z F):k0R F l=some (i7 l n a b e z):=by
 have h:=i0H hR;have s:=h.le;have u:=h.pos;have t:=T.n64;have y:(C3 l l.length).length=n:=by rw[Y9,hn]
 have m:o0c F l=some l:=by unfold o0c;rw[if_pos (by simp[J0];omega)]
 unfold k0R i7;rw[m,show W ((l.length:Int)-1)=(l.length:Int)-1 from J3 O' O'];simp only[F0,TF.mA,w0q hR T.al k T.ab (fun h r=>(T.aw.ok h r).2.2),l0u hR (show 401<F from O'),TF.mL,TF.mZ,g09 hR (show z.1.Steps.length<=2000000 by have:=T.zl;omega) k (F3.sok T.zb)];generalize o:C3 l l.length=lv at *;have:=V3 (step:=j04 F l lv) (fun i=>((i:Int),(l,(lv.take i).map (fun q=>(gt l q).Set),a.map (H3 l),(List.range i).map (fun p=>(b p).map (H3 l)),(List.range i).map (fun p=>H3 l (e p).1),(List.range i).map (fun p=>(e p).2),Z2 l,(⟨0,0,[]⟩:B0))))
  (l,lv.map (fun q=>(gt l q).Set),a.map (H3 l),(List.range n).map (fun p=>(b p).map (H3 l)),(List.range n).map (fun p=>H3 l (e p).1),(List.range n).map (fun p=>(e p).2),Z2 l,(⟨0,0,[]⟩:B0)) n (fun i hi=>.inl ?_) ?_ n 0 F O' O'
 ·have w:iter (j04 F l lv) F (0,(l,[],a.map (H3 l),[],[],[],Z2 l,(⟨0,0,[]⟩:B0)))=_:=this;rw[w];rfl
 ·unfold j04;have h1:(i:Int)<(lv.length:Int):=O'
  have x:W ((i:Int)+1)=((i+1:Nat):Int):=by rw[J3 O' O'];omega
  obtain⟨q,hq,d,_,_⟩:=b0N l l.length i (by rw[<-hn];exact hi);rw[o]at d;have hg:gt lv (i:Int)=(q:Int):=P2 d;have v:lv.take (i+1)=lv.take i++[(q:Int)]:=by rw[take_succ,d];rfl
  have g:J0 32 ((lv.take i).map (fun q=>(gt l q).Set)) [(gt l (q:Int)).Set]=true:=by simp[J0];omega
  have j:J0 24 ((List.range i).map (fun p=>(b p).map (H3 l))) [(b i).map (H3 l)]=true:=by simp[J0];omega
  have c:J0 64 ((List.range i).map (fun p=>H3 l (e p).1)) [(⟨(e i).1,L5 l (e i).1.Steps⟩:G4)]=true:=by simp[J0];omega
  have f:J0 1 ((List.range i).map (fun p=>(e p).2)) [(e i).2]=true:=by simp[J0];omega
  simp only[h1,decide_true,if_true,R0 (l:=lv) (i:=(i:Int)) O' h1,hg,R0 (l:=l) (i:=(q:Int)) O' O',g,TF.mB i hi,F0,w0q hR (T.bl i hi) k (T.bb i hi) (fun h r=>((T.bw i hi).ok h r).2.2),j,TF.mE i hi,
   g09 hR (show(e i).1.Steps.length<=2000000 by have:=T.el i hi;omega) k (F3.sok (T.eb i hi)),c,f,x,v,M0Y,map_append,map_cons,map_nil,H3]
  simp only[H3]at c;rw[if_pos c]
 ·unfold j04;have h1:¬((n:Int)<(lv.length:Int)):=O'
  simp only[q0,h1];rw[List.take_of_length_le O']
def I0n (hR:N3 l=true)(hn:n=Z0 l l.length)(T:m0a l n a b e z)(c:2000001<F)(TF:m0v l n a b e z F):l0j F l=some (.inr ⟨i7 l n a b e z,0,0,[],[],⟨[],[]⟩⟩,0):=by
 unfold l0j;rw[TF.mR];simp only[q0,O0T hR hn T c TF]
end
def L3 (n:Nat)(f:Nat->Int):List Int:=(List.range n).map f
def N2 (m n:Nat)(f:Nat->Nat->Int):List (List Int):=(List.range m).map fun i=>L3 n (f i)
def R2 (n:Nat)(fB fD:Nat->Nat->Int):J2:=⟨N2 n n fB,N2 n n fD⟩
@[simp] def A0F (n:Nat)(f:Nat->Int):(L3 n f).length=n:=by simp[L3]
@[simp] def M0O (m n:Nat)(f:Nat->Nat->Int):(N2 m n f).length=m:=by simp[N2]
def b06 {n i:Nat}(f:Nat->Int)(h:i<n):gt (L3 n f) (i:Int)=f i:=P2 (by simp[L3,h])
def R8 {m n i:Nat}(f:Nat->Nat->Int)(h:i<m):gt (N2 m n f) (i:Int)=L3 n (f i):=P2 (by simp[N2,h])
def a0G {n i:Nat}(f:Nat->Int)(h:i<n):C0 (L3 n f) (i:Int)=true:=R0 O' Z'
def p9 {m n i:Nat}(f:Nat->Nat->Int)(h:i<m):C0 (N2 m n f) (i:Int)=true:=R0 O' Z'
theorem K2 {i:Nat}(h:i<=1000000000):W ((i:Int)+1)=((i+1:Nat):Int):=by grind [J3]
structure b0b (n:Nat)(fB fD:Nat->Nat->Int):Prop where
 b0:∀i k,i<n->k<n->0<=fB i k
 bd:∀i,i<n->fB i i=0
 dd:∀i,i<n->fD i i=0
 d1:∀i k,i<n->k<n->i≠k->fD i k=1\/fD i k=-1
 dn:∀i k,i<n->k<n->fD k i=- fD i k
section
variable {F n:Nat}{fB fD:Nat->Nat->Int}
def M09 (hn:n<=1000)(c:2000<F)(f:Nat->Nat->Int):i0X F (N2 n n f) (n:Int)=some true:=by
 unfold i0X;have:=V3 (step:=n0b F (N2 n n f) (n:Int)) (fun i=>(i:Int)) (.inr ()) n (fun i hi=>.inl ?_) ?_ n 0 F O' O'
 ·simp_all
 ·unfold n0b;have h1:(i:Int)<((N2 n n f).length:Int):=by simp;omega
  simp only[q0,h1,p9 f hi,R8 f hi,A0F,bne_self_eq_false,K2 (i:=i) O']
 simp[n0b]
theorem x0p (hn:n<=1000)(f:2000<F)(h:b0b n fB fD):i0e F (R2 n fB fD) (n:Int)=some true:=by
 unfold i0e R2;simp only[q0,M09 hn f];have:=V3 (step:=o0s F ⟨N2 n n fB,N2 n n fD⟩ (n:Int)) (fun i=>(i:Int)) (.inr ()) n (fun i hi=>.inl ?_) ?_ n 0 F O' O'
 ·simp_all
 ·have c:=V3 (step:=j0W F ⟨N2 n n fB,N2 n n fD⟩ (n:Int) (i:Int)) (fun k=>(k:Int)) (.inr ()) n (fun k hk=>.inl ?_) ?_ n 0 F O' O'
  ·have g:iter (j0W F ⟨N2 n n fB,N2 n n fD⟩ (n:Int) (i:Int)) F 0=_:=c;unfold o0s;have h1:(i:Int)<(n:Int):=O'
   simp only[q0,h1,p9 _ hi,R8 _ hi,a0G _ hi,b06 _ hi,h.bd i hi,h.dd i hi,bne_self_eq_false,g,K2 (i:=i) O']
  ·unfold j0W;have h1:(k:Int)<(n:Int):=O'
   have m:¬fB i k<0:=by have:=h.b0 i k hi hk;omega
   have hd:=h.dn i k hi hk;have j:W (0-fD i k)=- fD i k:=by
    by_cases e:i=k
    ·subst e;rw[h.dd i hi];rfl
    ·rcases h.d1 i k hi hk e with e|e<;>rw[e]<;>rfl
   simp only[q0,h1,p9 _ hi,p9 _ hk,R8 _ hi,R8 _ hk,a0G _ hi,a0G _ hk,b06 _ hi,b06 _ hk,m,R9,hd,j,bne_self_eq_false,K2 (i:=k) O']
   by_cases e:i=k
   ·grind
   ·have d:((i:Int) != (k:Int))=true:=by grind
    rcases h.d1 i k hi hk e with e2|e2<;>simp[d,e2]
  simp[j0W]
 simp[o0s]
def n0U (hn:n<=1000)(c:2000<F)(h:b0b n fB fD):f0G F (R2 n fB fD)=some true:=by
 unfold f0G;rw[R9,show((R2 n fB fD).B.length:Int)=(n:Int)from by simp[R2],x0p hn c h]
end
def G0v {n:Nat}{f g:Nat->Int}(h:∀k,k<n->f k=g k):L3 n f=L3 n g:=List.map_congr_left fun k hk=>h k (List.mem_range.1 hk)
def h0q {m n:Nat}{f g:Nat->Nat->Int}(h:∀i k,i<m->k<n->f i k=g i k):N2 m n f=N2 m n g:=
 List.map_congr_left fun i hi=>G0v fun k hk=>h i k (List.mem_range.1 hi) hk
def r0r {n k:Nat}{f:Nat->Int}{v:Int}:(L3 n f).set k v=L3 n fun j=>if j=k then v else f j:=by
 refine ext_getElem V' fun i h1 c=>?_;simp only[L3,getElem_set,getElem_map,getElem_range];omega
theorem r0F {m n i:Nat}{f:Nat->Nat->Int}{g:Nat->Int}:(N2 m n f).set i (L3 n g)=N2 m n fun a=>if a=i then g else f a:=by
 refine ext_getElem V' fun j h1 c=>?_;simp only[N2,getElem_set,getElem_map,getElem_range]
 grind
def L0y (n:Nat):List.replicate n (0:Int)=L3 n fun _=>0:=by
 refine ext_getElem V' fun i h1 c=>?_;simp[L3]
def O0c (m n:Nat):List.replicate m (L3 n fun _=>0)=N2 m n fun _ _=>0:=by
 refine ext_getElem V' fun i h1 c=>?_;simp[N2]
section
variable {F n:Nat}{fB fD:Nat->Nat->Int}
theorem u0Q (hn:n<=1000)(h:2000<F):f0C F (n:Int)=some (N2 n n fun _ _=>0):=by
 unfold f0C;have g:F4 24 (n:Int)=true:=by grind [F4]
 have f:F4 8 (n:Int)=true:=by grind [F4]
 have:=V3 (step:=m0T F (n:Int) (n:Int)) (fun i=>((i:Int),List.replicate i (L3 n fun _=>0)++List.replicate (n-i) ([]:List Int))) (N2 n n fun _ _=>0) n (fun i hi=>.inl ?_) ?_ n 0 F O' O'
 ·grind
 ·unfold m0T;have h1:(i:Int)<(n:Int):=O'
  have d:C0 (List.replicate i (L3 n fun _=>0)++List.replicate (n-i) ([]:List Int)) (i:Int)=true:=R0 O' (by grind);have c:(List.replicate i (L3 n fun _=>0)++List.replicate (n-i) ([]:List Int)).set i (L3 n fun _=>0)=List.replicate (i+1) (L3 n fun _=>0)++List.replicate (n-(i+1)) ([]:List Int):=by
   rw[List.set_append_right _ _ V',List.length_replicate,Nat.sub_self,show n-i=(n-(i+1))+1 from O',List.replicate_succ,List.set_cons_zero,List.replicate_succ' (n:=i),List.append_assoc];rfl
  simp only[h1,decide_true,if_true,f,d,Int.toNat_natCast,L0y,c,K2 (i:=i) O']
 simp[m0T,O0c]
def c0i (n:Nat)(fB:Nat->Nat->Int)(i k:Nat):Int:=if i<n/\k<n then fB i k else 0
def c0I (n:Nat)(fD:Nat->Nat->Int)(i k:Nat):Int:=if i<n/\k<n then fD i k else if i<n/\k=n then 1 else if i=n/\k<n then -1 else 0
def J0G (h:b0b n fB fD):b0b (n+1) (c0i n fB) (c0I n fD) where
 b0 i k hi hk:=by unfold c0i;split;exact h.b0 i k O' O';omega
 bd i hi:=by unfold c0i;split;exact h.bd i O';rfl
 dd i hi:=by
  unfold c0I;split
  ·exact h.dd i O'
  omega
 d1 i k hi hk hne:=by
  unfold c0I
  by_cases h1:i<n/\k<n
  ·rw[if_pos h1];exact h.d1 i k h1.1 h1.2 hne
  omega
 dn i k hi hk:=by
  unfold c0I
  by_cases h1:i<n/\k<n
  ·rw[if_pos h1,if_pos ⟨h1.2,h1.1⟩];exact h.dn i k h1.1 h1.2
  omega
def G0S {m:Nat}(hm:n<=m)(f g:Nat->Int):o5 (L3 m f) (L3 n g)=L3 m fun k=>if k<n then g k else f k:=by
 unfold o5;refine ext_getElem Z' fun i h1 c=>?_
 by_cases e:i<n
 ·simp_all[L3]
 simp_all[L3,if_neg]
def sB (n:Nat)(fB:Nat->Nat->Int)(i a k:Nat):Int:=if a<i/\k<n then fB a k else 0
def sD (n:Nat)(fD:Nat->Nat->Int)(i a k:Nat):Int:=if a<i/\k<n then fD a k else if a<i/\k=n then 1 else if a=n/\k<i then -1 else 0
theorem x0Y (hn:n<=900)(f:2000<F)(h:b0b n fB fD):g0z F (R2 n fB fD)=some (R2 (n+1) (c0i n fB) (c0I n fD)):=by
 unfold g0z;rw[n0U O' f h];have hlen:((R2 n fB fD).B.length:Int)=(n:Int):=by simp[R2]
 simp only[q0,hlen,K2 (i:=n) O',u0Q (n:=n+1) (F:=F) O' f];have:=V3 (step:=m0C F (R2 n fB fD)) (fun i=>((i:Int),N2 (n+1) (n+1) (sB n fB i),N2 (n+1) (n+1) (sD n fD i))) (N2 (n+1) (n+1) (c0i n fB),N2 (n+1) (n+1) (c0I n fD)) n (fun i hi=>.inl ?_) ?_ n 0 F O' O'
 ·have j:N2 (n+1) (n+1) (sB n fB 0)=N2 (n+1) (n+1) fun _ _=>0:=h0q fun i k _ _=>by rfl
  have g:N2 (n+1) (n+1) (sD n fD 0)=N2 (n+1) (n+1) fun _ _=>0:=h0q fun i k _ _=>by simp[sD]
  grind [R2]
 ·unfold m0C;have h1:(i:Int)<(n:Int):=O'
  have c:i<n+1:=O'
  have d:n<n+1:=O'
  simp only[hlen,h1,decide_true,if_true];simp only[R2,p9 _ hi,p9 _ c,R8 _ hi,R8 _ c,if_true,G0S (show n<=n+1 from O'),Int.toNat_natCast,r0F,p9 _ d,a0G _ d,R8 _ d,r0r,a0G _ c,K2 (i:=i) O'];congr 1;congr 1;congr 1;congr 1
  ·refine h0q fun a k ha hk=>?_;unfold sB
   by_cases e:a=i
   ·simp_all
   ·simp only[e,if_false];omega
  ·unfold sD
   grind
 ·unfold m0C;have h1:¬((n:Int)<(n:Int)):=O'
  simp only[q0,hlen,h1];congr 1
def inB (f:Nat->Nat->Int)(g:Nat->Nat->Int)(i k a j:Nat):Int:=if a=i/\j<k then f a j else g a j
end
