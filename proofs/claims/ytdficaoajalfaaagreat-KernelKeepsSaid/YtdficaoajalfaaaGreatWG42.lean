/- How great the numbers of steps may be. What the program and the document tell of a term's ways. The groups of a term: the program and the document tell the same. Marks: the program and the document tell the same. What is known of a term before it runs: the program's chart, the document's crowd of no runs. Its conditions: none. -/
import Derived.Test.YtdficaoajalfaaaGreatWG41
import Derived.Test.YtdficaoajalfaaaGreatWBr2
open List (mem_append append_nil length_map take_succ take_length flatMap_cons)
open Nat (sub_zero)
open Bool (false_eq_true)
set_option linter.all false
namespace Go.Proofs.YtdficaoajalfaaaGreat.Old
open Go.V Go.RowKit
def n3 (B:Int) (st:List Int):Prop:=∀ x∈st,0<=x/\x<=B
theorem n3.app {B:Int} {a b:List Int} (h:n3 B a) (k:n3 B b):n3 B (a++b):=fun x hx=>(mem_append.1 hx).elim (h x) (k x)
theorem n3.one {B x:Int} (h0:0<=x) (h:x<=B):n3 B [x]:=fun y hy=>by simp at hy;subst hy;exact ⟨h0,h⟩
theorem n3.nil {B:Int}:n3 B []:=fun _ h=>by cases h
theorem n3.P1 {B:Int} {q:Nat} (h:2*(q:Int)+1<=B):n3 B [P1 q]:=n3.one (by unfold Old.P1;omega) (by unfold Old.P1;omega)
theorem n3.cls {B:Int} {q:Nat} (h:2*(q:Int)+1<=B):n3 B [cls q]:=n3.one (by unfold Old.cls;omega) (by unfold Old.cls;omega)
theorem n3.two {B:Int} {q:Nat} (h:2*(q:Int)+1<=B):n3 B [Old.P1 q,Old.cls q]:=n3.app (n3.P1 h) (n3.cls h)
theorem Tm.n0A (t:Tm):∀ (lo:Nat) (B:Int),2*((lo+t.size:Nat):Int)<=B->n3 B (t.steps lo):=by
 induction t with
 |eps=>intro lo B h;simp only [Tm.size] at h;simp only [Tm.steps];exact n3.two (by omega)
 |leaf s=>intro lo B h;simp only [Tm.size] at h;simp only [Tm.steps];exact n3.two (by omega)
 |
  cat a b iha ihb=>
  intro lo B h;simp only [Tm.size] at h;simp only [Tm.steps];have ht:2*((Tm.top (.cat a b) lo:Nat):Int)+1<=B:=by simp only [Tm.top,Tm.size];omega
  exact ((n3.P1 ht).app ((iha lo B (by omega)).app (ihb (lo+a.size) B (by omega)))).app (n3.cls ht)
 |
  alt a b iha ihb=>
  intro lo B h;simp only [Tm.size] at h;simp only [Tm.steps];have ht:2*((Tm.top (.alt a b) lo:Nat):Int)+1<=B:=by simp only [Tm.top,Tm.size];omega
  refine ((n3.P1 ht).app ?_).app (n3.cls ht);split
  ·exact iha lo B (by omega)
  ·exact ihb (lo+a.size) B (by omega)
 |star a iha=>intro lo B h;simp only [Tm.size] at h;simp only [Tm.steps];exact n3.two (by simp only [Tm.top,Tm.size];omega)
 |maybe a iha=>intro lo B h;simp only [Tm.size] at h;simp only [Tm.steps];exact n3.two (by simp only [Tm.top,Tm.size];omega)
 |
  group n a iha=>
  intro lo B h;simp only [Tm.size] at h;simp only [Tm.steps];have ht:2*((Tm.top (.group n a) lo:Nat):Int)+1<=B:=by simp only [Tm.top,Tm.size];omega
  exact ((n3.P1 ht).app (iha lo B (by omega))).app (n3.cls ht)
 |
  iter a iha=>
  intro lo B h;simp only [Tm.size] at h;simp only [Tm.steps];have ht:2*((Tm.top (.iter a) lo:Nat):Int)+1<=B:=by simp only [Tm.top,Tm.size];omega
  exact ((n3.P1 ht).app (iha lo B (by omega))).app (n3.cls ht)
def S8 (B:Int) (l:List B0):Prop:=∀ h∈l,n3 B h.Steps
theorem S8.app {B:Int} {a b:List B0} (h:S8 B a) (k:S8 B b):S8 B (a++b):=fun x hx=>(mem_append.1 hx).elim (h x) (k x)
theorem Tm.m0E (t:Tm):∀ (lo p:Nat) (ahead:List Int) (B:Int),2*((lo+t.size:Nat):Int)<=B->n3 B ahead->S8 B (t.Z0 lo p ahead):=by
 induction t with
 |eps=>intro lo p ahead B h k x hx;simp [Tm.Z0] at hx
 |leaf s=>intro lo p ahead B h k x hx;simp only [Tm.size] at h;simp only [Tm.Z0,List.mem_singleton] at hx;subst hx;exact k.app (n3.P1 (by omega))
 |
  cat a b iha ihb=>
  intro lo p ahead B h k;simp only [Tm.size] at h;simp only [Tm.Z0];have ht:2*((Tm.top (.cat a b) lo:Nat):Int)+1<=B:=by simp only [Tm.top,Tm.size];omega
  have k1:=k.app (n3.P1 ht);refine (iha lo p _ B (by omega) k1).app ?_;split
  ·exact ihb _ _ _ B (by omega) (k1.app (a.n0A lo B (by omega)))
  ·intro x hx;cases hx
 |
  alt a b iha ihb=>
  intro lo p ahead B h k;simp only [Tm.size] at h;simp only [Tm.Z0];have ht:2*((Tm.top (.alt a b) lo:Nat):Int)+1<=B:=by simp only [Tm.top,Tm.size];omega
  have k1:=k.app (n3.P1 ht);exact (iha lo p _ B (by omega) k1).app (ihb _ _ _ B (by omega) k1)
 |
  star a iha | maybe a iha | group n a iha | iter a iha=>
  intro lo p ahead B h k;simp only [Tm.size] at h;simp only [Tm.Z0];exact iha lo p _ B (by omega) (k.app (n3.P1 (by simp only [Tm.top,Tm.size];omega)))
theorem j0A {B:Int} (d:Int):∀ (r out:List B0),S8 B out->S8 B r->S8 B (E6 d out r)
 |[],out,h,_=>h
 |
  x :: r,out,h,k=>by
  simp only [E6];have kr:S8 B r:=fun y hy=>k y (List.mem_cons_of_mem _ hy);split
  ·exact j0A d r out h kr
  ·exact j0A d r _ (h.app fun y hy=>by simp at hy;subst hy;exact k x (by simp)) kr
theorem Ctx.lo_le {t:Tm}:∀ {fs:List Fr} {lo:Nat} {s:Tm},Ctx t lo s fs->lo+s.size<=t.size
 |[],lo,s,⟨h0,h⟩=>by subst h;omega
 |
  f :: fs,lo,s,⟨h0,h⟩=>by
  have:=Ctx.lo_le h;cases f<;>simp [Fr.O2,Fr.off,Tm.size] at this h0 ⊢<;>omega
theorem l0g {t:Tm} {B:Int} (hB:2*(t.size:Int)<=B):∀ (fs:List Fr) (lo p:Nat) (s:Tm) (st:List Int) (out:List B0),Ctx t lo s fs->n3 B st->S8 B out->
  S8 B (V3 lo p s st out fs).1/\n3 B (V3 lo p s st out fs).2.1
 |[],lo,p,s,st,out,_,h,k=>by simp only [V3];exact ⟨k,h⟩
 |
  f :: fs,lo,p,s,st,out,hx,h,k=>by
  have hlo:=Ctx.lo_le hx.2;have hx2:=hx.2;have h0:=hx.1;cases f with
  |
   catL b=>
   simp only [Fr.O2,Fr.off,sub_zero,Tm.size] at hlo hx2 h0;have hs:=b.n0A (lo+s.size) B (by omega);have hi:=b.m0E (lo+s.size) (p+s.leaves) st B (by omega) h;have ht:=j0A ((fs.length+1:Nat):Int) _ _ k hi;simp only [V3];split
   ·exact l0g hB fs lo p _ _ _ hx2 ((h.app hs).app (n3.cls (by simp only [Tm.top,Tm.size];omega))) ht
   ·exact ⟨ht,n3.nil⟩
  |
   star=>
   simp only [Fr.O2,Fr.off,sub_zero,Tm.size] at hlo hx2 h0;simp only [V3];exact l0g hB fs lo p _ _ _ hx2 (h.app (n3.cls (by simp only [Tm.top,Tm.size];omega))) (j0A _ _ _ k (s.m0E lo p st B (by omega) h))
  |
   catR a | altL b | altR a | maybe | group n | iter=>
   simp only [Fr.O2,Fr.off,sub_zero,Tm.size] at hlo hx2 h0;simp only [V3,Fr.O2,Fr.off,Fr.l7,sub_zero];exact l0g hB fs _ _ _ _ _ hx2 (h.app (n3.cls (by simp only [Tm.top,Tm.size];omega))) k
def a0q (l:List B0):Prop:=∀ h∈l,0<=h.Turn/\h.Turn<=400
theorem a0q.app {a b:List B0} (h:a0q a) (k:a0q b):a0q (a++b):=fun x hx=>(mem_append.1 hx).elim (h x) (k x)
theorem Tm.H0S (t:Tm):∀ (lo p:Nat) (ahead:List Int),a0q (t.Z0 lo p ahead):=by
 induction t with
 |eps=>intro lo p ahead x hx;simp [Tm.Z0] at hx
 |leaf s=>intro lo p ahead x hx;simp only [Tm.Z0,List.mem_singleton] at hx;subst hx;exact ⟨Int.le_refl _,show (0:Int)<=400 by omega⟩
 |
  cat a b iha ihb=>
  intro lo p ahead;simp only [Tm.Z0];refine (iha lo p _).app ?_;split
  ·exact ihb _ _ _
  ·intro x hx;cases hx
 |alt a b iha ihb=>intro lo p ahead;simp only [Tm.Z0];exact (iha lo p _).app (ihb _ _ _)
 |star a iha | maybe a iha | group n a iha | iter a iha=>intro lo p ahead;simp only [Tm.Z0];exact iha lo p _
theorem j08 {d:Int} (h0:0<=d) (h1:d<=400):∀ (r out:List B0),a0q out->a0q (E6 d out r)
 |[],out,h=>h
 |
  x :: r,out,h=>by
  simp only [E6];split
  ·exact j08 h0 h1 r out h
  ·exact j08 h0 h1 r _ (h.app fun y hy=>by simp at hy;subst hy;exact ⟨h0,h1⟩)
theorem k0D {t:Tm} (ht:t.size<=400):∀ (fs:List Fr) (lo p:Nat) (s:Tm) (st:List Int) (out:List B0),Ctx t lo s fs->a0q out->a0q (V3 lo p s st out fs).1
 |[],lo,p,s,st,out,_,k=>by simp only [V3];exact k
 |
  f :: fs,lo,p,s,st,out,hx,k=>by
  have hsz:=Ctx.size hx;have hx2:=hx.2;have:=s.size_pos;simp only [List.length_cons] at hsz;cases f with
  |
   catL b=>
   simp only [Fr.O2,Fr.off,sub_zero] at hx2;have h:=j08 (d:=((fs.length+1:Nat):Int)) (by omega) (by omega) (b.Z0 (lo+s.size) (p+s.leaves) st) out k;simp only [V3];split
   ·exact k0D ht fs lo p _ _ _ hx2 h
   ·exact h
  |
   star=>
   simp only [Fr.O2,Fr.off,sub_zero] at hx2;simp only [V3];exact k0D ht fs lo p _ _ _ hx2 (j08 (by omega) (by omega) _ _ k)
  |
   catR a | altL b | altR a | maybe | group n | iter=>
   simp only [Fr.O2,Fr.off,sub_zero] at hx2;simp only [V3,Fr.O2,Fr.off,Fr.l7,sub_zero];exact k0D ht fs _ _ _ _ _ hx2 k
end Go.Proofs.YtdficaoajalfaaaGreat.Old
namespace Go.Proofs.YtdficaoajalfaaaGreat.Old
open Go.V Go.RowKit
theorem u0g {s:List Int} (h:s.length<=500000):(D8 s).1.Steps.length<=500000:=by
 unfold D8;split<;>simp [h]
theorem Tm.p0N (s:Tm):∀ (lo p:Nat) (ahead:List Int),(∀ h∈s.Z0 lo p ahead,(p:Int)<=h.To/\h.To<((p+s.leaves:Nat):Int))/\(s.Z0 lo p ahead).Pairwise fun a b=>a.To<b.To:=by
 induction s with
 |eps=>intro lo p ahead;simp [Tm.Z0]
 |leaf s=>intro lo p ahead;simp [Tm.Z0,Tm.leaves];omega
 |
  cat a b iha ihb=>
  intro lo p ahead;simp only [Tm.Z0,Tm.leaves];obtain ⟨h1,h2⟩:=iha lo p (ahead++[P1 (Tm.top (.cat a b) lo)]);split
  ·refine ⟨fun h hh=>?_,List.pairwise_append.2 ⟨h2,(ihb _ _ _).2,fun x hx y hy=>?_⟩⟩
   ·rcases mem_append.1 hh with hh | hh
    ·have:=h1 h hh;omega
    ·have:=(ihb _ _ _).1 h hh;omega
   ·have:=h1 x hx;have:=(ihb _ _ _).1 y hy;omega
  ·simp only [append_nil];exact ⟨fun h hh=>by have:=h1 h hh;omega,h2⟩
 |
  alt a b iha ihb=>
  intro lo p ahead;simp only [Tm.Z0,Tm.leaves];obtain ⟨h1,h2⟩:=iha lo p (ahead++[P1 (Tm.top (.alt a b) lo)]);obtain ⟨h3,h4⟩:=ihb (lo+a.size) (p+a.leaves) (ahead++[P1 (Tm.top (.alt a b) lo)]);refine ⟨fun h hh=>?_,List.pairwise_append.2 ⟨h2,h4,fun x hx y hy=>?_⟩⟩
  ·rcases mem_append.1 hh with hh | hh
   ·have:=h1 h hh;omega
   ·have:=h3 h hh;omega
  ·have:=h1 x hx;have:=h3 y hy;omega
 |
  star a iha | maybe a iha | group _ a iha | iter a iha=>
  intro lo p ahead;simp only [Tm.Z0,Tm.leaves];exact iha lo p _
theorem y03 {l:List D0} {t:Tm} (ht:J4 l t):A8 t.leaves (t.Z0 0 0 []):=by
 have h400:=ht.le;have hln:=ht.len;exact ⟨fun h hh=>⟨(by have:=(t.p0N 0 0 []).1 h hh;omega),(by have:=(t.p0N 0 0 []).1 h hh;omega),(t.k00 0 0 [] (by omega) (by simp;omega) h hh).2.2⟩,(t.p0N 0 0 []).2.imp fun h=>by omega⟩
theorem H0q {n:Nat} {out:List B0} (h:A8 n out):A8 n (j7 B0.To out):=by
 refine ⟨fun x hx=>h.ok x ((c0f B0.To _).mem_iff.1 hx),?_⟩;have hp:=c0f B0.To out;exact hp.symm.pairwise_iff (R:=fun a b:B0=>a.To≠b.To) (fun h=>h.symm) |>.1 h.dist
structure n0i (l:List D0) (n:Nat) (a:List B0) (b:Nat->List B0) (e:Nat->B0×Bool) (z:B0×Bool):Prop where
 n64:n<=400
 aw:A8 n a
 bw:∀ p,p<n->A8 n (b p)
 el:∀ p,p<n->(e p).1.Steps.length<=500000
 zl:z.1.Steps.length<=500000
 e0:∀ p,p<n->(e p).2=decide ((e p).1.Steps≠[])
 z0:z.2=decide (z.1.Steps≠[])
 ab:S8 800 a
 bb:∀ p,p<n->S8 800 (b p)
 eb:∀ p,p<n->n3 800 (e p).1.Steps
 zb:n3 800 z.1.Steps
 al:a.length<=500000
 aT:a0q a
 bT:∀ p,p<n->a0q (b p)
 bl:∀ p,p<n->(b p).length<=500000
theorem u0m {B:Int} {s:List Int} (h:n3 B s):n3 B (D8 s).1.Steps:=by
 unfold D8;split
 ·exact n3.nil
 ·exact h
theorem u04 {l:List D0} {t:Tm} (ht:J4 l t) {p q:Nat} {S:List Int} {fs:List Fr} (hp:a06 l t p q S fs):S8 800 (M5 t p q S fs).1/\n3 800 (M5 t p q S fs).2.1:=by
 have h400:=ht.le;have hlo:=Ctx.lo_le hp.ctx;simp only [Tm.size] at hlo;exact l0g (by omega) fs q p _ _ _ hp.ctx (n3.cls (by omega)) (fun _ h=>by cases h)
end Go.Proofs.YtdficaoajalfaaaGreat.Old
namespace Go.Proofs.YtdficaoajalfaaaGreat
open Go.V Go.RowKit Old
theorem m0e (s:List Int):(D8 s).2=decide ((D8 s).1.Steps≠[]):=by
 unfold D8;split
 ·simp
 ·rename_i h;simp;intro e;exact h (by simp [e])
structure p0R (l:List D0) (n:Nat) (a:List B0) (b:Nat->List B0) (e:Nat->B0×Bool) (z:B0×Bool) (F:Nat):Prop where
 mR:a7 F l=some true
 rR:Q6 F l=some true
 mL:E7 F l=some (Q1 l l.length)
 rL:u7 F l=some (Q1 l l.length)
 mA:b0u F l ((l.length:Int)-1)=some a
 rA:b0w F l ((l.length:Int)-1)=some a
 mZ:Y8 F l (-1)=some z
 rZ:J9 F l (-1)=some z
 mB:∀ p:Nat,p<n->a09 F l (p:Int)=some (b p)
 rB:∀ p:Nat,p<n->b0r F l (p:Int)=some (b p)
 mE:∀ p:Nat,p<n->Y8 F l (p:Int)=some (e p)
 rE:∀ p:Nat,p<n->J9 F l (p:Int)=some (e p)
theorem b7 {α:Type} {o n:Option α} (h:Ref o n Eq) {x:α} (e:o=some x):n=some x:=by
 obtain ⟨y,h1,h2⟩:=h.run x e;rw [h1,h2]
theorem n02 {l:List D0} (hw:∀ x∈l,C3 x) (hl:l.length*64<=140737488351232) (hR:J2 l=true):∃ a b e z,n0i l (N0 l l.length) a b e z/\∀ F,1000001<F->l.length+1<F->p0R l (N0 l l.length) a b e z F:=by
 obtain ⟨t,ht⟩:=a0u hw hR;have h400:=ht.le;have hln:=ht.len;have hn:t.leaves=N0 l l.length:=by
  have h:=a0h ht.at0;rw [Nat.zero_add,<-hln] at h;rw [h];simp [N0]
 have hP:∀ p:Nat,∃ x:List B0×(B0×Bool),p<N0 l l.length->(A8 (N0 l l.length) x.1/\x.2.1.Steps.length<=500000/\x.2.2=decide (x.2.1.Steps≠[])/\S8 800 x.1/\n3 800 x.2.1.Steps/\x.1.length<=500000/\a0q x.1/\
   ∀ F,1000001<F->l.length+1<F->a09 F l (p:Int)=some x.1/\b0r F l (p:Int)=some x.1/\Y8 F l (p:Int)=some x.2/\J9 F l (p:Int)=some x.2):=by
  intro p
  by_cases hp:p<N0 l l.length
  ·obtain ⟨q',S,fs,hpl⟩:=E09 ht hp;obtain ⟨hways,hlen⟩:=m0b ht hpl;refine ⟨(j7 B0.To (M5 t p q' S fs).1,D8 (if (M5 t p q' S fs).2.2 then (M5 t p q' S fs).2.1 else [])),fun _=>⟨?_,?_,m0e _,fun h hh=>(u04 ht hpl).1 h ((c0f B0.To _).mem_iff.1 hh),u0m ?_,by rw [e0x];exact q0c ht hpl,fun h hh=>k0D h400 fs _ _ _ _ _ hpl.ctx (fun _ h=>by cases h) h ((c0f B0.To _).mem_iff.1 hh),fun F hF hF2=>⟨?_,?_,?_,?_⟩⟩⟩
   ·rw [<-hn];exact H0q hways
   ·refine u0g ?_;split
    ·exact hlen
    ·simp
   ·split
    ·exact (u04 ht hpl).2
    ·exact n3.nil
   ·exact b7 A0X (Old.F0g hw ht hR hF hpl hp)
   ·exact b7 H0h (Old.G0H hw ht hR hF hpl hp)
   ·exact b7 o09 (Old.H0j hw ht hR hF hpl hp)
   ·exact b7 w0q (Old.w02 hw ht hR hF hpl hp)
  ·exact ⟨([],(⟨0,0,[]⟩,false)),fun h=>absurd h hp⟩
 have hst:=t.L8 0;refine ⟨t.Z0 0 0 [],fun p=>(Classical.choose (hP p)).1,fun p=>(Classical.choose (hP p)).2,D8 (if t.can then t.steps 0 else []),⟨?_,?_,?_,?_,?_,?_,?_,?_,?_,?_,?_,?_,?_,?_,?_⟩,fun F hF hF2=>?_⟩
 ·have:=d0c l l.length;omega
 ·rw [<-hn];exact y03 ht
 ·intro p hp;exact (Classical.choose_spec (hP p) hp).1
 ·intro p hp;exact (Classical.choose_spec (hP p) hp).2.1
 ·refine u0g ?_;split
  ·omega
  ·simp
 ·intro p hp;exact (Classical.choose_spec (hP p) hp).2.2.1
 ·exact m0e _
 ·exact t.m0E 0 0 [] 800 (by omega) n3.nil
 ·intro p hp;exact (Classical.choose_spec (hP p) hp).2.2.2.1
 ·intro p hp;exact (Classical.choose_spec (hP p) hp).2.2.2.2.1
 ·refine u0m ?_;split
  ·exact t.n0A 0 800 (by omega)
  ·exact n3.nil
 ·have:=t.a0c 0 0 [];have:=t.P9;omega
 ·exact t.H0S 0 0 []
 ·intro p hp;exact (Classical.choose_spec (hP p) hp).2.2.2.2.2.2.1
 ·intro p hp;exact (Classical.choose_spec (hP p) hp).2.2.2.2.2.1
 ·have hLF:v8 l=Q1 l l.length:=by simp [v8,hR]
  obtain ⟨h1,h2⟩:=Old.t0q hw ht hR hF;obtain ⟨h3,h4⟩:=Old.A00 hw ht hR hF ht.at0;have htop:((t.top 0:Nat):Int)=(l.length:Int)-1:=by have:=t.size_pos;unfold Tm.top;omega
  rw [htop] at h3 h4;exact ⟨b7 h0X (by rw [Old.c0N l (by omega),hR]),b7 i0v (by rw [Old.b0g l hl hF2,hR]),b7 r0D (by rw [Old.m0s hw (by omega),hLF]),b7 v0k (by rw [Old.g08 hw hl (by omega) hF2,hLF]),
   b7 C0W h3,b7 I0h h4,b7 o09 h1,b7 w0q h2,
   fun p hp=>((Classical.choose_spec (hP p) hp).2.2.2.2.2.2.2 F hF hF2).1,fun p hp=>((Classical.choose_spec (hP p) hp).2.2.2.2.2.2.2 F hF hF2).2.1,fun p hp=>((Classical.choose_spec (hP p) hp).2.2.2.2.2.2.2 F hF hF2).2.2.1,fun p hp=>((Classical.choose_spec (hP p) hp).2.2.2.2.2.2.2 F hF hF2).2.2.2⟩
end Go.Proofs.YtdficaoajalfaaaGreat
namespace Go.Proofs.YtdficaoajalfaaaGreat
open Go.V Go.RowKit Old
def A7 (X0:List D0) (n:Nat):Bool:=X0.any fun x=>x.Kind==7&&x.N==(n:Int)
def s9 (X0:List D0) (k:Nat):List Int:=((List.range k).filter (A7 X0)).map fun n:Nat=>(n:Int)
theorem s0l (X0:List D0):s9 X0 0=[]:=rfl
theorem E4 {α:Type} [Inhabited α] {l:List α} {i:Nat} (h:i<l.length):l[i]?=some (gt l (i:Int)):=by
 have:=l0B (P0 (l:=l) (i:=(i:Int)) (by omega) (by omega));simpa using this
def d09 (X0:List D0):List Int:=s9 X0 10
def Gok (X0:List D0):Prop:=∀ x∈X0,x.Kind=7->1<=x.N/\x.N<=9
theorem n0O (X0:List D0) (k:Nat):s9 X0 (k+1)=if A7 X0 k then s9 X0 k++[(k:Int)] else s9 X0 k:=by
 unfold s9;rw [List.range_succ,List.filter_append,List.map_append];cases h:A7 X0 k<;>simp [h]
theorem l05 (X0:List D0) (k:Nat):(s9 X0 k).length<=k:=by
 unfold s9;rw [length_map];exact Nat.le_trans (List.length_filter_le _ _) (by simp)
theorem F0u {X0:List D0} (h:Gok X0):A7 X0 0=false:=by
 unfold A7;rw [List.any_eq_false];intro x hx;simp;intro h7 h0;have:=(h x hx h7).1;omega
def flags (X0:List D0):List Bool:=(List.range 10).map (A7 X0)
theorem C0T (X0:List D0) {n:Nat} (h:n<10):gt (flags X0) (n:Int)=A7 X0 n:=by
 refine I3 ?_;simp [flags,h]
theorem F0p {X0:List D0} {i:Nat} (hi:i<X0.length) (hk:Gok X0):flags (X0.take (i+1))=if (gt X0 (i:Int)).Kind==7 then (flags (X0.take i)).set (gt X0 (i:Int)).N.toNat true else flags (X0.take i):=by
 have hx:X0[i]?=some (gt X0 (i:Int)):=E4 hi;have ht:X0.take (i+1)=X0.take i++[gt X0 (i:Int)]:=by rw [take_succ,hx];rfl
 have hm:=hk _ (List.mem_of_getElem? hx);generalize gt X0 (i:Int)=x at *;cases h7:x.Kind==7
 ·simp only [if_false,false_eq_true];unfold flags;refine List.map_congr_left fun n _=>?_;simp [A7,ht,h7]
 ·simp only [if_true];have hm:=hm (by simpa using h7);refine List.ext_getElem (by simp [flags]) fun n h1 h2=>?_;simp only [flags,length_map,List.length_range] at h1;rw [List.getElem_set];simp only [flags,List.getElem_map,List.getElem_range];rw [show A7 (X0.take (i+1)) n=(A7 (X0.take i) n||(x.N==(n:Int))) from by simp [A7,ht,h7]];split
  ·rename_i e;have:x.N=(n:Int):=by omega
   simp [this]
  ·rename_i e;have:(x.N==(n:Int))=false:=by simp;omega
   simp [this]
section
variable {F:Nat}
theorem H0i {l:List D0} {q:Int} {low:List Int} {X0:List D0} (hs:U1 l (gt low q) (W (q+1))=X0) (hk:Gok X0) (hl:X0.length<=400) (hF:401<F) :
  iter (h0p F l q low (X0.length:Int)) F (0,[false,false,false,false,false,false,false,false,false,false])=some (flags X0):=by
 have h0:flags (X0.take 0)=[false,false,false,false,false,false,false,false,false,false]:=by simp [flags,A7];decide
 rw [<-h0];have:=V2 (step:=h0p F l q low (X0.length:Int)) (fun i=>((i:Int),flags (X0.take i))) (flags X0) X0.length (fun i hi=>.inl ?_) ?_ X0.length 0 F (by omega) (by omega)
 ·exact this
 ·unfold h0p;have h1:(i:Int)<(X0.length:Int):=by omega
  have hin:y0 X0 (i:Int)=true:=P0 (by omega) (by omega);have hm:=hk _ (List.mem_of_getElem? (l0B hin));have hW:W ((i:Int)+1)=((i+1:Nat):Int):=by rw [Z2 (by omega) (by omega)];omega
  simp only [hs,h1,decide_true,if_true,hin,hW];rw [F0p hi hk];cases h7:(gt X0 (i:Int)).Kind==7
  ·simp only [if_false,false_eq_true,E0]
  ·have hm:=hm (by simpa using h7);have h2:(decide (0<=(gt X0 (i:Int)).N)&&decide ((gt X0 (i:Int)).N<10))=true:=by simp;omega
   simp only [if_true,h2,E0]
 ·unfold h0p;have h1:¬ ((X0.length:Int)<(X0.length:Int)):=by omega
  simp only [h1,decide_false,if_false,false_eq_true,take_length]
theorem B02 {X0:List D0} (hF:401<F):iter (h0N F (flags X0)) F ([],0)=some (d09 X0):=by
 have:=V2 (step:=h0N F (flags X0)) (fun i=>(s9 X0 i,(i:Int))) (d09 X0) 10 (fun i hi=>.inl ?_) ?_ 10 0 F (by omega) (by omega)
 ·rw [s0l] at this;exact this
 ·unfold h0N;have h1:(i:Int)<10:=by omega
  have h2:(0:Int)<=(i:Int):=by omega
  have hW:W ((i:Int)+1)=((i+1:Nat):Int):=by rw [Z2 (by omega) (by omega)];omega
  have hap:I0 8 (s9 X0 i) [(i:Int)]=true:=by have:=l05 X0 i;simp [I0];omega
  simp only [h1,h2,decide_true,if_true,Bool.and_self,C0T X0 hi,hW,hap];rw [n0O];cases A7 X0 i<;>simp only [if_true,if_false,false_eq_true,E0]
 ·unfold h0N;simp [d09]
theorem D0U {l:List D0} {q lo:Nat} (hq:q<l.length) (hl:l.length<=400) (hlo:lo<=q) (n:Nat) (hF:401<F) :
  iter (g05 F l (q:Int) (n:Int)) F (false,(lo:Int))=some (A7 (U1 l (lo:Int) ((q+1:Nat):Int)) n):=by
 have hcut:U1 l (lo:Int) ((q+1:Nat):Int)=(l.drop lo).take (q+1-lo):=by unfold U1;congr 1;omega
 have:=V2 (step:=g05 F l (q:Int) (n:Int)) (fun i=>(A7 ((l.drop lo).take i) n,((lo+i:Nat):Int))) (A7 (U1 l (lo:Int) ((q+1:Nat):Int)) n) (q+1-lo) (fun i hi=>.inl ?_) ?_ (q+1-lo) 0 F (by omega) (by omega)
 ·exact this
 ·unfold g05;have h1:((lo+i:Nat):Int)<=(q:Int):=by omega
  have hin:y0 l ((lo+i:Nat):Int)=true:=P0 (by omega) (by omega);have hx:(l.drop lo)[i]?=some (gt l ((lo+i:Nat):Int)):=by rw [List.getElem?_drop];exact E4 (by omega)
  have ht:(l.drop lo).take (i+1)=(l.drop lo).take i++[gt l ((lo+i:Nat):Int)]:=by rw [take_succ,hx];rfl
  have hW:W (((lo+i:Nat):Int)+1)=((lo+(i+1):Nat):Int):=by rw [Z2 (by omega) (by omega)];omega
  have hg:A7 ((l.drop lo).take (i+1)) n=(A7 ((l.drop lo).take i) n||((gt l ((lo+i:Nat):Int)).Kind==7&&(gt l ((lo+i:Nat):Int)).N==(n:Int))):=by simp [A7,ht]
  rw [hg];simp only [h1,decide_true,if_true,hin,hW,z6];cases A7 ((l.drop lo).take i) n<;>cases (gt l ((lo+i:Nat):Int)).Kind==7<;>simp [E0]
 ·unfold g05;have h1:¬ (((lo+(q+1-lo):Nat):Int)<=(q:Int)):=by omega
  simp only [h1,decide_false,if_false,false_eq_true,hcut]
theorem x0t {l:List D0} {q lo:Nat} {low:List Int} (hq:q<l.length) (hl:l.length<=400) (hlo:lo<=q) (hin:y0 low (q:Int)=true) (hg:gt low (q:Int)=(lo:Int)) (hk:Gok (U1 l (lo:Int) ((q+1:Nat):Int))) (hF:401<F) :
  iter (i0L F l (q:Int) low) F ([],1)=some (d09 (U1 l (lo:Int) ((q+1:Nat):Int))):=by
 generalize hseg:U1 l (lo:Int) ((q+1:Nat):Int)=X0 at *;have h0:s9 X0 1=[]:=by rw [n0O,F0u hk,s0l];simp
 rw [<-h0];have:=V2 (step:=i0L F l (q:Int) low) (fun i=>(s9 X0 (i+1),((i+1:Nat):Int))) (d09 X0) 9 (fun i hi=>.inl ?_) ?_ 9 0 F (by omega) (by omega)
 ·exact this
 ·unfold i0L;have h1:((i+1:Nat):Int)<=9:=by omega
  have hW:W (((i+1:Nat):Int)+1)=((i+1+1:Nat):Int):=by rw [Z2 (by omega) (by omega)];omega
  have hap:I0 8 (s9 X0 (i+1)) [((i+1:Nat):Int)]=true:=by have:=l05 X0 (i+1);simp [I0];omega
  have hi:=D0U (F:=F) hq hl hlo (i+1) hF;rw [hseg] at hi;simp only [h1,decide_true,if_true,hin,hg,hi,E0,hW,hap];rw [n0O X0 (i+1)];cases A7 X0 (i+1)<;>simp only [if_true,if_false,false_eq_true,E0]
 ·unfold i0L;simp [d09]
theorem I0w {l:List D0}:∀ {i:Nat} {a:List Int},u5 l i=some a->∀ j:Nat,j<i->K9 (gt l (j:Int))=true:=by
 intro i
 induction i with
 |zero=>intro a _ j hj;omega
 |
  succ i ih=>
  intro a h j hj;unfold u5 at h;cases e:u5 l i with
  |none=>rw [e] at h;cases h
  |
   some b=>
   rw [e] at h;dsimp only at h;split at h
   ·rename_i hg;rcases Nat.lt_or_ge j i with h1 | h1
    ·exact ih e j h1
    ·obtain rfl:j=i:=by omega
     simp only [v7,Bool.and_eq_true] at hg;exact hg.1.2
   ·cases h
structure v0X (l:List D0):Prop where
 ne:X3 l≠[]
 len:(X3 l).length=l.length
 rng:∀ j:Nat,j<l.length->0<=gt (X3 l) (j:Int)/\gt (X3 l) (j:Int)<=j
 grp:∀ x∈l,x.Kind=7->1<=x.N/\x.N<=9
 pos:0<l.length
 le:l.length<=400
theorem b0x {l:List D0} (hR:J2 l=true):v0X l:=by
 have hne:X3 l≠[]:=by intro e;simp [J2,e] at hR
 have h:=hne;unfold X3 at h;cases e:u5 l l.length with
 |none=>rw [e] at h;exact absurd rfl h
 |
  some a=>
  have hok:=c0G e;rw [e] at h;dsimp only at h;split at h
  ·exact absurd rfl h
  ·rename_i hn;have hL:X3 l=a:=by unfold X3;rw [e];dsimp only;rw [if_neg hn]
   refine ⟨hne,by rw [hL];exact hok.len,fun j hj=>by rw [hL];exact hok.rng j hj,fun x hx h7=>?_,by omega,by omega⟩;obtain ⟨j,hj,rfl⟩:=List.getElem_of_mem hx;have hf:=I0w e j hj;have hg:gt l (j:Int)=l[j]:=I3 (List.getElem?_eq_getElem hj);rw [hg] at hf;simp [K9,h7] at hf;exact hf.2
def G8 (l:List D0) (q:Int):List Int:=if q<0\/(l.length:Int)<=q then [] else d09 (U1 l (gt (X3 l) q) (q+1))
theorem v0M {l:List D0} (hf:401<F):T8 F l=some (X3 l):=b7 t09 (Old.r0F l hf)
theorem u0E {l:List D0} (hR:J2 l=true) (hl:l.length*64<=140737488351232) (hf:l.length+1<F):i0F F l=some (X3 l):=by
 obtain ⟨b,h1,h2⟩:=(q0J (F:=F) (l:=l)).run _ (Old.s0T l hl hf);unfold i0F;rw [h1];cases b with
 |inl u=>exact absurd h2 (b0x hR).ne
 |inr y=>rw [h2.1];rfl
theorem s0e {l:List D0} (h:v0X l) (a b:Int):Gok (U1 l a b):=fun x hx h7=>h.grp x (List.mem_of_mem_drop (List.mem_of_mem_take hx)) h7
theorem r0M {l:List D0} (hR:J2 l=true) (q:Int) (hf:401<F):h0k F l q=some (G8 l q):=by
 have h:=b0x hR;have h400:=h.le;have hlen:=h.len;unfold h0k G8;rw [v0M hf];simp only [E0,hlen]
 by_cases h0:q<0
 ·simp [h0]
 ·by_cases h1:(l.length:Int)<=q
  ·have:q>=(l.length:Int):=h1;simp [h0,this]
  ·obtain ⟨n,rfl⟩:∃ n:Nat,q=n:=⟨q.toNat,by omega⟩
   have hn:n<l.length:=by omega
   have hr:=h.rng n hn;have hW:W ((n:Int)+1)=(n:Int)+1:=Z2 (by omega) (by omega);have h2:¬ ((n:Int)>=(l.length:Int)):=h1;have hsl:S4 l (gt (X3 l) (n:Int)) ((n:Int)+1)=true:=by simp [S4];omega
   have hin:y0 (X3 l) (n:Int)=true:=P0 (by omega) (by omega);simp only [h0,h1,h2,decide_false,if_false,E0,false_eq_true,hin,if_true,hW,hsl,or_self];rw [H0i (by rw [hW]) (s0e h _ _) (by rw [c0Y hsl];omega) hf,E0,B02 hf,E0]
theorem r0U {l:List D0} (hR:J2 l=true) (hl:l.length*64<=140737488351232) (q:Int) (hf:401<F) (hf2:l.length+1<F):g0H F l q=some (G8 l q):=by
 have h:=b0x hR;have h400:=h.le;have hlen:=h.len;unfold g0H G8;rw [u0E hR hl hf2];simp only [E0,hlen]
 by_cases h0:q<0
 ·simp [h0]
 ·by_cases h1:(l.length:Int)<=q
  ·have:q>=(l.length:Int):=h1;simp [h0,this]
  ·obtain ⟨n,rfl⟩:∃ n:Nat,q=n:=⟨q.toNat,by omega⟩
   have hn:n<l.length:=by omega
   have hr:=h.rng n hn;have h2:¬ ((n:Int)>=(l.length:Int)):=h1;have hin:y0 (X3 l) (n:Int)=true:=P0 (by omega) (by omega);obtain ⟨lo,hlo⟩:∃ lo:Nat,gt (X3 l) (n:Int)=lo:=⟨(gt (X3 l) (n:Int)).toNat,by omega⟩
   rw [hlo] at hr;simp only [h0,h1,h2,decide_false,if_false,E0,false_eq_true,or_self,z6,hlo];exact x0t hn h400 (by omega) hin hlo (s0e h _ _) hf
end
theorem w0L {X0:List D0} {k:Nat} {x:Int} (h:x∈s9 X0 k):0<=x/\x<k:=by
 unfold s9 at h;obtain ⟨n,hn,rfl⟩:=List.mem_map.1 h;have:=List.mem_range.1 (List.mem_filter.1 hn).1;omega
theorem C0K {l:List D0} {q x:Int} (h:x∈G8 l q):0<=x/\x<10:=by
 unfold G8 at h;split at h
 ·cases h
 ·exact w0L h
theorem g03 (l:List D0) (q:Int):(G8 l q).length<=10:=by
 unfold G8;split
 ·simp
 ·exact l05 _ 10
def b05 (l:List D0):Int:=(G8 l ((l.length:Int)-1)).getLast?.getD 0
def T3 (l:List D0):Int:=1+2*b05 l
theorem p0e (l:List D0):0<=b05 l/\b05 l<10:=by
 unfold b05;cases h:(G8 l ((l.length:Int)-1)).getLast? with
 |none=>simp
 |some x=>exact C0K (List.mem_of_getLast? h)
section
variable {F:Nat}
theorem D0q {l:List D0} (hR:J2 l=true) (hf:401<F):i0U F l=some (b05 l):=by
 have h:=b0x hR;have h400:=h.le;have hpos:=h.pos;unfold i0U b05;rw [show W ((l.length:Int)-1)=(l.length:Int)-1 from Z2 (by omega) (by omega),r0M hR _ hf,E0,z6];have hgl:=g03 l ((l.length:Int)-1);generalize G8 l ((l.length:Int)-1)=g at *;have:=V2 (step:=j0m F g) (fun i=>((g.take i).getLast?.getD 0,(i:Int))) (g.getLast?.getD 0) g.length (fun i hi=>.inl ?_) ?_ g.length 0 F (by omega) (by omega)
 ·exact this
 ·unfold j0m;have h1:(i:Int)<(g.length:Int):=by omega
  have hW:W ((i:Int)+1)=((i+1:Nat):Int):=by rw [Z2 (by omega) (by omega)];omega
  have ht:g.take (i+1)=g.take i++[gt g (i:Int)]:=by rw [take_succ,E4 hi];rfl
  simp only [h1,decide_true,if_true,P0 (l:=g) (i:=(i:Int)) (by omega) h1,hW,ht,List.getLast?_append,List.getLast?_singleton,Option.some_or,Option.getD_some]
 ·unfold j0m;have h1:¬ ((g.length:Int)<(g.length:Int)):=by omega
  simp only [h1,decide_false,if_false,false_eq_true,take_length]
theorem H0x {l:List D0} (hR:J2 l=true) (hl:l.length*64<=140737488351232) (hf:401<F) (hf2:l.length+1<F):j0d F l=some (b05 l):=by
 have h:=b0x hR;have h400:=h.le;have hpos:=h.pos;unfold j0d b05;rw [show W ((l.length:Int)-1)=(l.length:Int)-1 from Z2 (by omega) (by omega),r0U hR hl _ hf hf2,E0];have hgl:=g03 l ((l.length:Int)-1);generalize G8 l ((l.length:Int)-1)=g at *
 by_cases h0:g=[]
 ·subst h0;rfl
 ·have hp:0<g.length:=List.length_pos_iff.2 h0;have hne:((g.length:Int)==0)=false:=by simp;omega
  have hW:W ((g.length:Int)-1)=((g.length-1:Nat):Int):=by rw [Z2 (by omega) (by omega)];omega
  rw [if_neg (by rw [hne];simp),hW,if_pos (P0 (by omega) (by omega))];have:g.getLast?=some (gt g ((g.length-1:Nat):Int)):=by rw [List.getLast?_eq_getElem?,E4 (by omega)]
  rw [this];rfl
theorem v0V {l:List D0} (hR:J2 l=true) (hf:401<F):h0t F l=some (T3 l):=by
 have ht:=p0e l;unfold h0t T3;rw [b7 h0X (Old.c0N l hf),hR];simp only [E0,Bool.not_true,false_eq_true,if_false,D0q hR hf];rw [Z2 (n:=2*b05 l) (by omega) (by omega),Z2 (by omega) (by omega)]
theorem t0W {l:List D0} (hR:J2 l=true) (hl:l.length*64<=140737488351232) (hf:401<F) (hf2:l.length+1<F):h0e F l=some (T3 l):=by
 have ht:=p0e l;unfold h0e T3;rw [b7 i0v (Old.b0g l hl hf2),hR];simp only [E0,Bool.not_true,false_eq_true,if_false,H0x hR hl hf hf2];rw [Z2 (n:=2*b05 l) (by omega) (by omega),Z2 (by omega) (by omega)]
def c0K (l:List D0) (s:Int):List P2:=
 if s<0\/(l.length:Int)<=s / 2 then [] else
 if (gt l (s / 2)).Kind=7 then [⟨1+s % 2,(gt l (s / 2)).N⟩] else
 if (gt l (s / 2)).Kind=8/\s % 2=0 then (G8 l (s / 2)).map fun g=>⟨3,g⟩ else []
theorem n0U (l:List D0) (s:Int):(c0K l s).length<=10:=by
 unfold c0K;have:=g03 l (s / 2);split
 ·simp
 ·split
  ·simp
  ·split
   ·rw [length_map];exact this
   ·simp
def j5 (l:List D0) (steps:List Int):List P2:=steps.flatMap (c0K l)
theorem t0E {g:List Int} {step:List P2×Int->Option (U0 (List P2×Int) (List P2))} (hstep:∀ o (i:Int),step (o,i)=if decide (i<(g.length:Int)) then if y0 g i then if I0 16 o [(⟨3,gt g i⟩:P2)] then some (.next (o++[(⟨3,gt g i⟩:P2)],W (i+1))) else none else none else some (.done o))
  (hg:g.length<=10) (hf:401<F) (o:List P2) (ho:o.length<=100000000):iter step F (o,0)=some (o++g.map fun g=>⟨3,g⟩):=by
 have:=V2 (step:=step) (fun i=>(o++(g.take i).map fun g=>(⟨3,g⟩:P2),(i:Int))) (o++g.map fun g=>⟨3,g⟩) g.length (fun i hi=>.inl ?_) ?_ g.length 0 F (by omega) (by omega)
 ·simpa using this
 ·rw [hstep];have h1:(i:Int)<(g.length:Int):=by omega
  have hW:W ((i:Int)+1)=((i+1:Nat):Int):=by rw [Z2 (by omega) (by omega)];omega
  have ht:g.take (i+1)=g.take i++[gt g (i:Int)]:=by rw [take_succ,E4 hi];rfl
  have hap:I0 16 (o++(g.take i).map fun g=>(⟨3,g⟩:P2)) [(⟨3,gt g (i:Int)⟩:P2)]=true:=by simp [I0];omega
  simp only [h1,decide_true,if_true,P0 (l:=g) (i:=(i:Int)) (by omega) h1,hW,ht,hap,List.map_append,List.map_cons,List.map_nil,List.append_assoc]
 ·rw [hstep];have h1:¬ ((g.length:Int)<(g.length:Int)):=by omega
  simp only [h1,decide_false,if_false,false_eq_true,take_length]
def SOk (s:Int):Prop:=-9223372036854775808<=s/\s<=9223372036854775807
theorem B0E {l:List D0} (hR:J2 l=true) (hf:401<F) {s:Int} (hs:SOk s):k0Q F l s=some (c0K l s):=by
 have h:=b0x hR;have h400:=h.le;unfold k0Q c0K
 by_cases h0:s<0
 ·simp [h0]
 ·obtain ⟨n,rfl⟩:∃ n:Nat,s=n:=⟨s.toNat,by omega⟩
  obtain ⟨_,hs2⟩:=hs;have e1:(n:Int).tdiv 2=((n / 2:Nat):Int):=rfl;have e2:(n:Int).tmod 2=((n % 2:Nat):Int):=rfl;have e3:(n:Int) / 2=((n / 2:Nat):Int):=by omega
  have e4:(n:Int) % 2=((n % 2:Nat):Int):=by omega
  have hW:W ((n / 2:Nat):Int)=((n / 2:Nat):Int):=Z2 (by omega) (by omega);simp only [e1,e2,e3,e4,hW,h0,decide_false,if_false,false_eq_true,E0,false_or]
  by_cases h1:(l.length:Int)<=((n / 2:Nat):Int)
  ·have h1':((n / 2:Nat):Int)>=(l.length:Int):=h1;simp only [h1,h1',decide_true,if_true]
  ·have h1':¬ ((n / 2:Nat):Int)>=(l.length:Int):=h1;have hin:y0 l ((n / 2:Nat):Int)=true:=P0 (by omega) (by omega);simp only [h1,h1',decide_false,if_false,false_eq_true,hin,if_true];have hr:((n % 2:Nat):Int)=0\/((n % 2:Nat):Int)=1:=by omega
   generalize ((n % 2:Nat):Int)=r at *;generalize ((n / 2:Nat):Int)=k at *
   by_cases h7:(gt l k).Kind=7
   ·rcases hr with rfl | rfl<;>simp [h7,E0]
   ·have h7':((gt l k).Kind==7)=false:=by simp [h7]
    by_cases h8:(gt l k).Kind=8
    ·rcases hr with rfl | rfl
     ·have h8':((gt l k).Kind==8)=true:=by simp [h8]
      simp only [h7',h8',h8,h7,false_eq_true,if_false,if_true,E0,beq_self_eq_true,and_self,r0M hR _ hf,z6];have:=t0E (F:=F) (g:=G8 l k) (step:=v0K F (G8 l k)) (fun o i=>rfl) (g03 _ _) hf [] (by simp);simpa using this
     ·simp [h7,h8,E0]
    ·simp [h7,h8,E0]
theorem m0D {l:List D0} (hR:J2 l=true) {st:List Int} (hst:st.length<=2000000) (hf:2000001<F) (hs:∀ s∈st,SOk s):f0H F l st=some (j5 l st):=by
 unfold f0H;rw [b7 h0X (Old.c0N l (by omega)),hR];simp only [E0,Bool.not_true,false_eq_true,if_false,z6];have hlen:∀ i,i<=st.length->(j5 l (st.take i)).length<=10*i:=by
  intro i
  induction i with
  |zero=>intro _;simp [j5]
  |
   succ i ih=>
   intro hi;have:=ih (by omega);have h2:=n0U l (gt st (i:Int));rw [show st.take (i+1)=st.take i++[gt st (i:Int)] from by rw [take_succ,E4 (by omega)];rfl];simp only [j5,List.flatMap_append,List.length_append,flatMap_cons,List.flatMap_nil,append_nil] at *;omega
 have:=V2 (step:=l0J F l st) (fun i=>(j5 l (st.take i),(i:Int))) (j5 l st) st.length (fun i hi=>.inl ?_) ?_ st.length 0 F (by omega) (by omega)
 ·exact this
 ·unfold l0J;have h1:(i:Int)<(st.length:Int):=by omega
  have hW:W ((i:Int)+1)=((i+1:Nat):Int):=by rw [Z2 (by omega) (by omega)];omega
  have ht:st.take (i+1)=st.take i++[gt st (i:Int)]:=by rw [take_succ,E4 hi];rfl
  have h2:=n0U l (gt st (i:Int));have h3:=hlen i (by omega);have hap:I0 16 (j5 l (st.take i)) (c0K l (gt st (i:Int)))=true:=by simp [I0];omega
  simp only [h1,decide_true,if_true,P0 (l:=st) (i:=(i:Int)) (by omega) h1,hW,B0E hR (show 401<F by omega) (hs _ (List.mem_of_getElem? (E4 hi))),E0,hap,ht,j5,List.flatMap_append,flatMap_cons,List.flatMap_nil,append_nil];rw [show j5 l (List.take i st)=List.flatMap (c0K l) (List.take i st) from rfl] at hap;rw [if_pos hap]
 ·unfold l0J;have h1:¬ ((st.length:Int)<(st.length:Int)):=by omega
  simp only [h1,decide_false,if_false,false_eq_true,take_length]
theorem d0w (l:List D0):∀ st:List Int,(j5 l st).length<=10*st.length
 |[]=>by simp [j5]
 |
  x :: r=>by
  have h:=d0w l r;have h2:=n0U l x;simp only [j5,flatMap_cons,List.length_append,List.length_cons] at *;omega
theorem o0M {l:List D0} (hR:J2 l=true) (hl:l.length*64<=140737488351232) (hf:401<F) (hf2:l.length+1<F) {st:List Int} {i:Nat} (hi:i<st.length) (hlen:st.length<=2000000) (hs:SOk (gt st (i:Int))) {o:List P2} (ho:o.length<=50000000) :
  g0x F l st (o,(i:Int))=some (.next (o++c0K l (gt st (i:Int)),((i+1:Nat):Int))):=by
 have h:=b0x hR;have h400:=h.le;have hi1:(i:Int)<(st.length:Int):=by omega
 have hW1:W ((i:Int)+1)=((i+1:Nat):Int):=by rw [Z2 (by omega) (by omega)];omega
 unfold g0x c0K;simp only [hi1,decide_true,if_true,P0 (l:=st) (i:=(i:Int)) (by omega) hi1,hW1];generalize gt st (i:Int)=s at *
 by_cases h0:s<0
 ·simp [h0]
 ·obtain ⟨n,rfl⟩:∃ n:Nat,s=n:=⟨s.toNat,by omega⟩
  obtain ⟨_,hs2⟩:=hs;have e1:(n:Int).tdiv 2=((n / 2:Nat):Int):=rfl;have e2:(n:Int).tmod 2=((n % 2:Nat):Int):=rfl;have e3:(n:Int) / 2=((n / 2:Nat):Int):=by omega
  have e4:(n:Int) % 2=((n % 2:Nat):Int):=by omega
  have hW:W ((n / 2:Nat):Int)=((n / 2:Nat):Int):=Z2 (by omega) (by omega);have hW2:W (1+((n % 2:Nat):Int))=1+((n % 2:Nat):Int):=Z2 (by omega) (by omega);simp only [e1,e2,e3,e4,hW,hW2,h0,decide_false,if_false,false_eq_true,E0,false_or]
  by_cases h1:(l.length:Int)<=((n / 2:Nat):Int)
  ·have h1':((n / 2:Nat):Int)>=(l.length:Int):=h1;simp only [h1,h1',decide_true,if_true,E0,append_nil]
  ·have h1':¬ ((n / 2:Nat):Int)>=(l.length:Int):=h1;have hin:y0 l ((n / 2:Nat):Int)=true:=P0 (by omega) (by omega);simp only [h1,h1',decide_false,if_false,false_eq_true,hin,if_true];have hr:((n % 2:Nat):Int)=0\/((n % 2:Nat):Int)=1:=by omega
   generalize ((n % 2:Nat):Int)=r at *;generalize ((n / 2:Nat):Int)=k at *
   by_cases h7:(gt l k).Kind=7
   ·have hap:I0 16 o [(⟨1+r,(gt l k).N⟩:P2)]=true:=by simp [I0];omega
    simp [h7,E0,hap]
   ·have h7':((gt l k).Kind==7)=false:=by simp [h7]
    by_cases h8:(gt l k).Kind=8
    ·rcases hr with rfl | rfl
     ·have h8':((gt l k).Kind==8)=true:=by simp [h8]
      rw [if_neg h7,if_pos (show (gt l k).Kind=8/\(0:Int)=0 from ⟨h8,rfl⟩)];simp only [h7',h8',false_eq_true,if_false,if_true,E0,beq_self_eq_true,r0U hR hl _ hf hf2,z6];rw [t0E (F:=F) (g:=G8 l k) (step:=s05 F (G8 l k)) (fun o i=>rfl) (g03 _ _) hf o (by omega)];simp [E0]
     ·simp [h7,h8,E0]
    ·simp [h7,h8,E0]
end
def m0S (l:List D0) (h:B0):a00:=⟨h,j5 l h.Steps⟩
def I0J (l:List D0) (n:Nat) (a:List B0) (b:Nat->List B0) (e:Nat->B0×Bool) (z:B0×Bool):c0U:=
 ⟨l,(Q1 l l.length).map fun q=>(gt l q).Set,a.map (m0S l),(List.range n).map fun p=>(b p).map (m0S l),(List.range n).map fun p=>m0S l (e p).1,(List.range n).map fun p=>(e p).2,j5 l z.1.Steps,z.2,T3 l,z.1⟩
def Q8 (l:List D0) (n:Nat) (a:List B0) (b:Nat->List B0) (e:Nat->B0×Bool) (at_ work:Int) (places:List Int) (tags:List (List Int)) (rank:E1):T5:=
 ⟨l,Q1 l l.length,a,(List.range n).map b,(List.range n).map fun p=>(e p).1.Steps,at_,work,places,tags,rank⟩
theorem n3.sok {st:List Int} (h:n3 800 st):∀ s∈st,SOk s:=fun s hs=>by have:=h s hs;unfold SOk;omega
section
variable {F:Nat}
variable {l:List D0} {n:Nat} {a:List B0} {b:Nat->List B0} {e:Nat->B0×Bool} {z:B0×Bool}
end
