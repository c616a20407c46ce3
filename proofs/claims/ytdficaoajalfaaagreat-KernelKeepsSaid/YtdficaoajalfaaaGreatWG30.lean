/- When one reckoning follows another. The newer forms follow the older ones. Its conditions: none. -/
import Derived.Test.YtdficaoajalfaaaGreatWOm
set_option linter.all false
namespace Go.Proofs.YtdficaoajalfaaaGreat
open Go.V Go.RowKit
class Ref {α β:Type} (o:Option α) (n:Option β) (R:α->β->Prop):Prop where
 run:∀ a,o=some a->∃ b,n=some b/\R a b
def D6 {σ σ' τ τ':Type} (I:σ->σ'->Prop) (R:τ->τ'->Prop):U0 σ τ->U0 σ' τ'->Prop
 |.next s,.next s'=>I s s'
 |.done t,.done t'=>R t t'
 |_,_=>False
section
variable {α β γ δ σ σ' τ τ':Type}
theorem Ref.none {n:Option β} {R:α->β->Prop}:Ref Option.none n R:=⟨fun _ h=>by cases h⟩
theorem Ref.some {a:α} {b:β} {R:α->β->Prop} (h:R a b):Ref (Option.some a) (Option.some b) R:=⟨fun _ e=>by cases e;exact ⟨b,rfl,h⟩⟩
theorem Ref.bind {o:Option α} {n:Option β} {R:α->β->Prop} {f:α->Option γ} {g:β->Option δ} {S:γ->δ->Prop} (h:Ref o n R) (hf:∀ a b,R a b->Ref (f a) (g b) S):Ref (Option.bind o f) (Option.bind n g) S:=by
 refine ⟨fun c hc=>?_⟩;cases o with
 |none=>cases hc
 |
  some a=>
  obtain ⟨b,rfl,hR⟩:=h.run a rfl;exact (hf a b hR).run c hc
theorem Ref.ite {c:Prop} [Decidable c] {o o':Option α} {n n':Option β} {R:α->β->Prop} (h:c->Ref o n R) (h':¬ c->Ref o' n' R):Ref (if c then o else o') (if c then n else n') R:=by
 by_cases e:c
 ·rw [if_pos e,if_pos e];exact h e
 ·rw [if_neg e,if_neg e];exact h' e
theorem Ref.N2 {c:Prop} [Decidable c] {o o':Option α} {n:Option β} {R:α->β->Prop} (h:c->Ref o n R) (h':¬ c->Ref o' n R):Ref (if c then o else o') n R:=by
 by_cases e:c
 ·rw [if_pos e];exact h e
 ·rw [if_neg e];exact h' e
theorem Ref.iter {I:σ->σ'->Prop} {R:τ->τ'->Prop} {f:σ->Option (U0 σ τ)} {f':σ'->Option (U0 σ' τ')} (h:∀ s s',I s s'->Ref (f s) (f' s') (D6 I R)):∀ (k:Nat) (s:σ) (s':σ'),I s s'->Ref (iter f k s) (iter f' k s') R:=by
 intro k
 induction k with
 |zero=>intro s s' _;exact ⟨fun a ha=>by cases ha⟩
 |
  succ k ih=>
  intro s s' hI;refine ⟨fun a ha=>?_⟩;have hs:=h s s' hI;unfold Go.V.iter at ha ⊢;cases e:f s with
  |none=>rw [e] at ha;cases ha
  |
   some c=>
   obtain ⟨c',e',hc⟩:=hs.run c e;rw [e] at ha;rw [e'];cases c<;>cases c'<;>first | exact hc.elim | skip
   ·exact (ih _ _ hc).run a ha
   ·cases ha;exact ⟨_,rfl,hc⟩
end
theorem nr:(∀ {α β:Type} {c:Prop} {h:Decidable c} {a b:Option α} {f:α->Option β},Option.bind (@ite (Option α) c h a b) f=@ite (Option β) c h (Option.bind a f) (Option.bind b f))/\(∀ {α β:Type} (a:α) (f:α->Option β),Option.bind (some a) f=f a)/\(∀ {α β:Type} (f:α->Option β),Option.bind none f=none)/\
  (∀ {α β γ:Type} (o:Option α) (f:α->Option β) (g:β->Option γ),Option.bind (Option.bind o f) g=Option.bind o fun a=>Option.bind (f a) g)/\(∀ {α:Type} (o:Option α),(Option.bind o fun x=>some x)=o)/\(∀ {α:Type} {h:Decidable True} (a b:α),@ite α True h a b=a)/\(∀ {α:Type} {h:Decidable False} (a b:α),@ite α False h a b=b)/\
  ((¬ True)=False)/\((¬ False)=True)/\((false=true)=False):=
 ⟨by intro α β c h a b f;split<;>rfl,fun _ _=>rfl,fun _=>rfl,fun o _ _=>by cases o<;>rfl,fun o=>by cases o<;>rfl,fun _ _=>if_pos trivial,fun _ _=>if_neg id,by simp,by simp,by simp⟩
theorem E0 {α β:Type} (a:α) (f:α->Option β):Option.bind (some a) f=f a:=rfl
theorem z6 {α:Type} (o:Option α):(Option.bind o fun x=>some x)=o:=by cases o<;>rfl
def Sw {α β:Type} (s:α×β) (s':β×α):Prop:=s'=(s.2,s.1)
section
variable {F:Nat} {l:List D0}
theorem H0K {a:List Int} {i:Int}:Ref (Old.b0y F l a i) (b0y F l a i) Eq:=by
 unfold Old.b0y b0y
 (try simp only [nr]);repeat' first | exact Ref.none | exact Ref.some rfl | exact Ref.some trivial | infer_instance | (refine Ref.N2 (fun h=>?_) (fun h=>?_)<;>try simp only [h,nr]) | (refine Ref.bind (R:=Eq) ?_ ?_;infer_instance;intro a b e;cases e;try simp only [nr]) | fail
attribute [instance] H0K
theorem B0e {x:D0}:Ref (Old.b04 F x) (b04 F x) Eq:=by
 unfold Old.b04 b04
 (try simp only [nr]);repeat' first | exact Ref.none | exact Ref.some rfl | exact Ref.some trivial | infer_instance | (refine Ref.N2 (fun h=>?_) (fun h=>?_)<;>try simp only [h,nr]) | (refine Ref.bind (R:=Eq) ?_ ?_;infer_instance;intro a b e;cases e;try simp only [nr]) | fail
attribute [instance] B0e
theorem F0P {x:D0} (s s':Int) (h:s=s'):Ref (Old.c0p F x l s) (o0a F x l s') (D6 Eq fun a b=>match a,b with | .inl _,.inr _=>True | .inr r,.inl _=>r=true | _,_=>False):=by
 subst h;unfold Old.c0p o0a
 (try simp only [nr]);repeat' first | exact Ref.none | exact Ref.some rfl | exact Ref.some trivial | infer_instance | (refine Ref.N2 (fun h=>?_) (fun h=>?_)<;>try simp only [h,nr]) | (refine Ref.bind (R:=Eq) ?_ ?_;infer_instance;intro a b e;cases e;try simp only [nr]) | fail
theorem I0s {x:D0}:Ref (Old.b0E F x l) (b0E F x l) Eq:=by
 unfold Old.b0E b0E;refine Ref.bind (Ref.iter F0P _ _ _ rfl) ?_
 rintro (_ | r) (_ | _) h
 ·exact h.elim
 ·exact Ref.some rfl
 ·cases h;exact Ref.some rfl
 ·exact h.elim
attribute [instance] I0s
def I0d (a:(List Int×Int) ⊕ List Int) (b:Unit ⊕ (List Int×Int)):Prop:=match a,b with
 |.inl x,.inr y=>x=y
 |.inr r,.inl _=>r=[]
 |_,_=>False
theorem H0w (s s':List Int×Int×Int) (h:s=s'):Ref (Old.e0s F l s) (n0u F l s') (D6 Eq I0d):=by
 obtain ⟨a,i,j⟩:=s;subst h;unfold Old.e0s n0u
 (try simp only [nr]);repeat' first | exact Ref.none | exact Ref.some rfl | exact Ref.some trivial | infer_instance | (refine Ref.N2 (fun h=>?_) (fun h=>?_)<;>try simp only [h,nr]) | (refine Ref.bind (R:=Eq) ?_ ?_;infer_instance;intro a b e;cases e;try simp only [nr]) | fail
theorem t09:Ref (Old.T8 F l) (T8 F l) Eq:=by
 unfold Old.T8 T8;simp only [nr];refine Ref.N2 (fun h=>?_) (fun h=>?_)<;>simp only [h,if_true,if_false]
 ·exact Ref.some rfl
 ·refine Ref.N2 (fun h=>?_) (fun h=>?_)<;>(try simp only [h,if_true,if_false])
  ·exact Ref.some rfl
  ·refine Ref.bind (Ref.iter H0w _ _ _ rfl) ?_
   rintro (⟨a,i⟩ | r) (_ | ⟨b,j⟩) e
   ·exact e.elim
   ·cases e;(try simp only [nr]);repeat' first | exact Ref.none | exact Ref.some rfl | exact Ref.some trivial | infer_instance | (refine Ref.N2 (fun h=>?_) (fun h=>?_)<;>try simp only [h,nr]) | (refine Ref.bind (R:=Eq) ?_ ?_;infer_instance;intro a b e;cases e;try simp only [nr]) | fail
   ·cases e;exact Ref.some rfl
   ·exact e.elim
attribute [instance] t09
theorem h0X:Ref (Old.a7 F l) (a7 F l) Eq:=by
 unfold Old.a7 a7
 (try simp only [nr]);repeat' first | exact Ref.none | exact Ref.some rfl | exact Ref.some trivial | infer_instance | (refine Ref.N2 (fun h=>?_) (fun h=>?_)<;>try simp only [h,nr]) | (refine Ref.bind (R:=Eq) ?_ ?_;infer_instance;intro a b e;cases e;try simp only [nr]) | fail
attribute [instance] h0X
theorem w0I (s:List Bool×Int) (s':Int×List Bool) (h:Sw s s'):Ref (Old.d0O F l s) (n0g F l s') (D6 Sw Eq):=by
 obtain ⟨a,i⟩:=s;subst h;unfold Old.d0O n0g
 (try simp only [nr]);repeat' first | exact Ref.none | exact Ref.some rfl | exact Ref.some trivial | infer_instance | (refine Ref.N2 (fun h=>?_) (fun h=>?_)<;>try simp only [h,nr]) | (refine Ref.bind (R:=Eq) ?_ ?_;infer_instance;intro a b e;cases e;try simp only [nr]) | fail
theorem q04:Ref (Old.X9 F l) (X9 F l) Eq:=by
 unfold Old.X9 X9
 (try simp only [nr]);repeat' first | exact Ref.none | exact Ref.some rfl | exact Ref.some trivial | infer_instance | (refine Ref.N2 (fun h=>?_) (fun h=>?_)<;>try simp only [h,nr]) | (refine Ref.bind (R:=Eq) ?_ ?_;infer_instance;intro a b e;cases e;try simp only [nr]) | fail
 exact Ref.iter w0I _ _ _ rfl
attribute [instance] q04
theorem x0C {c:List Bool}:∀ {k:Nat} {q:Int} {o:List Int},Ref (Old.W6 F k l c q o) (W6 F k l c q o) Eq:=by
 intro k
 induction k with
 |zero=>intro q o;exact Ref.none
 |
  succ k ih=>
  intro q o;unfold Old.W6 W6
  (try simp only [nr]);repeat' (first | exact Ref.none | exact Ref.some rfl | exact ih | infer_instance | (refine Ref.N2 (fun h=>?_) (fun h=>?_)<;>try simp only [h,nr]) | (refine Ref.bind (R:=Eq) ?_ ?_;(first | exact ih | infer_instance);intro a_ b_ e_;cases e_;try simp only [nr]) | fail)
attribute [instance] x0C
theorem D0L {q:Int}:Ref (Old.a0b F l q) (a0b F l q) Eq:=by
 unfold Old.a0b a0b
 (try simp only [nr]);repeat' first | exact Ref.none | exact Ref.some rfl | exact Ref.some trivial | infer_instance | (refine Ref.N2 (fun h=>?_) (fun h=>?_)<;>try simp only [h,nr]) | (refine Ref.bind (R:=Eq) ?_ ?_;infer_instance;intro a b e;cases e;try simp only [nr]) | fail
attribute [instance] D0L
theorem I0A (s:List Int×Int) (s':Int×List Int) (h:Sw s s'):Ref (Old.e0L F l s) (m0O F l s') (D6 Sw Eq):=by
 obtain ⟨a,i⟩:=s;subst h;unfold Old.e0L m0O
 (try simp only [nr]);repeat' first | exact Ref.none | exact Ref.some rfl | exact Ref.some trivial | infer_instance | (refine Ref.N2 (fun h=>?_) (fun h=>?_)<;>try simp only [h,nr]) | (refine Ref.bind (R:=Eq) ?_ ?_;infer_instance;intro a b e;cases e;try simp only [nr]) | fail
theorem t0I:Ref (Old.R9 F l) (R9 F l) Eq:=by
 unfold Old.R9 R9
 (try simp only [nr]);repeat' first | exact Ref.none | exact Ref.some rfl | exact Ref.some trivial | infer_instance | (refine Ref.N2 (fun h=>?_) (fun h=>?_)<;>try simp only [h,nr]) | (refine Ref.bind (R:=Eq) ?_ ?_;infer_instance;intro a b e;cases e;try simp only [nr]) | fail
 exact Ref.iter I0A _ _ _ rfl
attribute [instance] t0I
theorem x0J {up:List Int} (s:List Int×Int) (s':Int×List Int) (h:Sw s s'):Ref (Old.g0j F up s) (n0o F up s') (D6 Sw Eq):=by
 obtain ⟨a,i⟩:=s;subst h;unfold Old.g0j n0o
 (try simp only [nr]);repeat' first | exact Ref.none | exact Ref.some rfl | exact Ref.some trivial | infer_instance | (refine Ref.N2 (fun h=>?_) (fun h=>?_)<;>try simp only [h,nr]) | (refine Ref.bind (R:=Eq) ?_ ?_;infer_instance;intro a b e;cases e;try simp only [nr]) | fail
theorem s0O:Ref (Old.a0n F l) (a0n F l) Eq:=by
 unfold Old.a0n a0n
 (try simp only [nr]);repeat' first | exact Ref.none | exact Ref.some rfl | exact Ref.some trivial | infer_instance | (refine Ref.N2 (fun h=>?_) (fun h=>?_)<;>try simp only [h,nr]) | (refine Ref.bind (R:=Eq) ?_ ?_;infer_instance;intro a b e;cases e;try simp only [nr]) | fail
 exact Ref.iter x0J _ _ _ rfl
attribute [instance] s0O
theorem x0p (s s':List Int×Int) (h:s=s'):Ref (Old.e0a F l s) (o0t F l s') (D6 Eq Eq):=by
 obtain ⟨a,i⟩:=s;subst h;unfold Old.e0a o0t
 (try simp only [nr]);repeat' first | exact Ref.none | exact Ref.some rfl | exact Ref.some trivial | infer_instance | (refine Ref.N2 (fun h=>?_) (fun h=>?_)<;>try simp only [h,nr]) | (refine Ref.bind (R:=Eq) ?_ ?_;infer_instance;intro a b e;cases e;try simp only [nr]) | fail
theorem r0D:Ref (Old.E7 F l) (E7 F l) Eq:=by
 unfold Old.E7 E7
 (try simp only [nr]);repeat' first | exact Ref.none | exact Ref.some rfl | exact Ref.some trivial | infer_instance | (refine Ref.N2 (fun h=>?_) (fun h=>?_)<;>try simp only [h,nr]) | (refine Ref.bind (R:=Eq) ?_ ?_;infer_instance;intro a b e;cases e;try simp only [nr]) | fail
 exact Ref.iter x0p _ _ _ rfl
attribute [instance] r0D
theorem I0O {x:Int} (hx:x=((List.replicate (Int.toNat (l.length:Int)) (0:Int)).length:Int)) (s:List Int×Int) (s':Int×List Int) (h:Sw s s'):Ref (Old.f0f F l s) (o0I F x s') (D6 Sw Eq):=by
 obtain ⟨a,i⟩:=s;subst h;subst hx;unfold Old.f0f o0I
 (try simp only [nr]);repeat' first | exact Ref.none | exact Ref.some rfl | exact Ref.some trivial | infer_instance | (refine Ref.N2 (fun h=>?_) (fun h=>?_)<;>try simp only [h,nr]) | (refine Ref.bind (R:=Eq) ?_ ?_;infer_instance;intro a b e;cases e;try simp only [nr]) | fail
theorem z0H {y x:List Int} (s:List Int×Int) (s':Int×List Int) (h:Sw s s'):Ref (Old.f09 F y x s) (n0B F x s') (D6 Sw Eq):=by
 obtain ⟨a,i⟩:=s;subst h;unfold Old.f09 n0B
 (try simp only [nr]);repeat' first | exact Ref.none | exact Ref.some rfl | exact Ref.some trivial | infer_instance | (refine Ref.N2 (fun h=>?_) (fun h=>?_)<;>try simp only [h,nr]) | (refine Ref.bind (R:=Eq) ?_ ?_;infer_instance;intro a b e;cases e;try simp only [nr]) | fail
theorem B0m:Ref (Old.b0L F l) (b0L F l) Eq:=by
 unfold Old.b0L b0L
 (try simp only [nr]);repeat' first | exact Ref.none | exact Ref.some rfl | exact Ref.some trivial | infer_instance | (refine Ref.N2 (fun h=>?_) (fun h=>?_)<;>try simp only [h,nr]) | (refine Ref.bind (R:=Eq) ?_ ?_;infer_instance;intro a b e;cases e;try simp only [nr]) | fail
 refine Ref.bind (Ref.iter (I0O rfl) _ _ _ rfl) ?_
 rintro a _ rfl
 (try simp only [nr]);repeat' first | exact Ref.none | exact Ref.some rfl | exact Ref.some trivial | infer_instance | (refine Ref.N2 (fun h=>?_) (fun h=>?_)<;>try simp only [h,nr]) | (refine Ref.bind (R:=Eq) ?_ ?_;infer_instance;intro a b e;cases e;try simp only [nr]) | fail
 exact Ref.iter z0H _ _ _ rfl
attribute [instance] B0m
def toS {α:Type}:Option α->Unit ⊕ α
 |none=>.inl ()
 |some a=>.inr a
theorem r0g:Ref (Old.a0F F l) (a0F F l) (fun a b=>b=(toS a.1,a.2)):=by
 unfold Old.a0F a0F
 (try simp only [nr]);repeat' first | exact Ref.none | exact Ref.some rfl | exact Ref.some trivial | infer_instance | (refine Ref.N2 (fun h=>?_) (fun h=>?_)<;>try simp only [h,nr]) | (refine Ref.bind (R:=Eq) ?_ ?_;infer_instance;intro a b e;cases e;try simp only [nr]) | fail
theorem r0Q {p:Int}:Ref (Old.a0E F l p) (a0E F l p) (fun a b=>b=(toS a.1,a.2)):=by
 unfold Old.a0E a0E;simp only [nr];refine Ref.bind r0g ?_
 rintro ⟨_ | c,ok⟩ _ rfl
 all_goals
  simp only [toS,E0]
  (try simp only [nr]);repeat' first | exact Ref.none | exact Ref.some rfl | exact Ref.some trivial | infer_instance | (refine Ref.N2 (fun h=>?_) (fun h=>?_)<;>try simp only [h,nr]) | (refine Ref.bind (R:=Eq) ?_ ?_;infer_instance;intro a b e;cases e;try simp only [nr]) | fail
theorem A0J {a b:List Int}:Ref (Old.N8 F a b) (N8 F a b) Eq:=by
 unfold Old.N8 N8;simp only [Nat.le_refl,Int.le_refl,decide_true,Bool.and_self,Bool.and_true,Bool.true_and,if_true]
 (try simp only [nr]);repeat' first | exact Ref.none | exact Ref.some rfl | exact Ref.some trivial | infer_instance | (refine Ref.N2 (fun h=>?_) (fun h=>?_)<;>try simp only [h,nr]) | (refine Ref.bind (R:=Eq) ?_ ?_;infer_instance;intro a b e;cases e;try simp only [nr]) | fail
attribute [instance] A0J
theorem I0M {c:X4}:∀ {k:Nat} {q:Int} {o:List Int} {h:List B0},Ref (Old.o6 F k c q o h) (o6 F k c q o h) Eq:=by
 intro k
 induction k with
 |zero=>intro q o h;exact Ref.none
 |
  succ k ih=>
  intro q o h;unfold Old.o6 o6
  (try simp only [nr]);repeat' (first | exact Ref.none | exact Ref.some rfl | exact ih | infer_instance | (refine Ref.N2 (fun h=>?_) (fun h=>?_)<;>try simp only [h,nr]) | (refine Ref.bind (R:=Eq) ?_ ?_;(first | exact ih | infer_instance);intro a_ b_ e_;cases e_;try simp only [nr]) | fail)
attribute [instance] I0M
theorem A0B {Z0 out:List B0} {x:Int} (s s':Int) (h:s=s'):Ref (Old.d0Q F out (gt Z0 x) s) (n0W F Z0 out x s') (D6 Eq fun a b=>match a,b with | .inl _,.inr _=>True | .inr a,.inl b=>a=b | _,_=>False):=by
 subst h;unfold Old.d0Q n0W Old.m0y
 (try simp only [nr]);repeat' first | exact Ref.none | exact Ref.some rfl | exact Ref.some trivial | infer_instance | (refine Ref.N2 (fun h=>?_) (fun h=>?_)<;>try simp only [h,nr]) | (refine Ref.bind (R:=Eq) ?_ ?_;infer_instance;intro a b e;cases e;try simp only [nr]) | fail
theorem D00 {c:X4} {at_:Int} {p4 Z0:List B0} (s s':List B0×Int) (h:s=s'):Ref (Old.d03 F c at_ p4 Z0 s) (l07 F c at_ Z0 s') (D6 Eq Eq):=by
 obtain ⟨o,i⟩:=s;subst h;unfold Old.d03 l07 Old.l0W Old.m0w;simp only [nr];refine Ref.N2 (fun h=>?_) (fun h=>?_)<;>simp only [h,if_true,if_false]
 ·refine Ref.N2 (fun h=>?_) (fun h=>?_)<;>simp only [h,if_true,if_false]
  ·refine Ref.bind (Ref.iter A0B _ _ _ rfl) ?_
   rintro (_ | a) (b | _) e
   ·exact e.elim
   ·(try simp only [nr]);repeat' first | exact Ref.none | exact Ref.some rfl | exact Ref.some trivial | infer_instance | (refine Ref.N2 (fun h=>?_) (fun h=>?_)<;>try simp only [h,nr]) | (refine Ref.bind (R:=Eq) ?_ ?_;infer_instance;intro a b e;cases e;try simp only [nr]) | fail
   ·cases e;(try simp only [nr]);repeat' first | exact Ref.none | exact Ref.some rfl | exact Ref.some trivial | infer_instance | (refine Ref.N2 (fun h=>?_) (fun h=>?_)<;>try simp only [h,nr]) | (refine Ref.bind (R:=Eq) ?_ ?_;infer_instance;intro a b e;cases e;try simp only [nr]) | fail
   ·exact e.elim
  ·exact Ref.none
 ·exact Ref.some rfl
theorem E0r {c:X4} {at_ goal:Int} {o:List Int} {h:List B0}:Ref (Old.a0I F c at_ goal o h) (a0I F c at_ goal o h) Eq:=by
 unfold Old.a0I a0I
 (try simp only [nr]);repeat' first | exact Ref.none | exact Ref.some rfl | exact Ref.some trivial | infer_instance | (refine Ref.N2 (fun h=>?_) (fun h=>?_)<;>try simp only [h,nr]) | (refine Ref.bind (R:=Eq) ?_ ?_;infer_instance;intro a b e;cases e;try simp only [nr]) | fail
 exact Ref.iter D00 _ _ _ rfl
attribute [instance] E0r
def ClR (a:(List Int×List B0) ⊕ (List B0×List Int)) (b:List B0 ⊕ (List Int×List B0)):Prop:=match a,b with
 |.inl x,.inr y=>x=y
 |.inr r,.inl x=>r=(x,[])
 |_,_=>False
theorem G0T {c:X4} {q:Int} (s s':Int×List Int×List B0×Int) (h:s=s'):Ref (Old.b0D F c q s) (p0D F c s') (D6 Eq ClR):=by
 obtain ⟨a,b,d,e⟩:=s;subst h;unfold Old.b0D p0D
 (try simp only [nr]);repeat' first | exact Ref.none | exact Ref.some rfl | exact Ref.some trivial | infer_instance | (refine Ref.N2 (fun h=>?_) (fun h=>?_)<;>try simp only [h,nr]) | (refine Ref.bind (R:=Eq) ?_ ?_;infer_instance;intro a b e;cases e;try simp only [nr]) | fail
theorem z0u {c:X4} {q:Int}:Ref (Old.a0Q F c q) (a0Q F c q) Eq:=by
 unfold Old.a0Q a0Q;refine Ref.N2 (fun h=>?_) (fun h=>?_)<;>simp only [h,if_true,if_false]
 ·refine Ref.bind (Ref.iter G0T _ _ _ rfl) ?_
  rintro (⟨a,b⟩ | r) (x | ⟨y,z⟩) e
  ·exact e.elim
  ·cases e;(try simp only [nr]);repeat' first | exact Ref.none | exact Ref.some rfl | exact Ref.some trivial | infer_instance | (refine Ref.N2 (fun h=>?_) (fun h=>?_)<;>try simp only [h,nr]) | (refine Ref.bind (R:=Eq) ?_ ?_;infer_instance;intro a b e;cases e;try simp only [nr]) | fail
  ·cases e;(try simp only [nr]);repeat' first | exact Ref.none | exact Ref.some rfl | exact Ref.some trivial | infer_instance | (refine Ref.N2 (fun h=>?_) (fun h=>?_)<;>try simp only [h,nr]) | (refine Ref.bind (R:=Eq) ?_ ?_;infer_instance;intro a b e;cases e;try simp only [nr]) | fail
  ·exact e.elim
 ·exact Ref.none
attribute [instance] z0u
theorem o09 {p:Int}:Ref (Old.Y8 F l p) (Y8 F l p) Eq:=by
 unfold Old.Y8 Y8;simp only [nr];refine Ref.N2 (fun h=>?_) (fun h=>?_)<;>simp only [h,if_true,if_false]
 ·(try simp only [nr]);repeat' first | exact Ref.none | exact Ref.some rfl | exact Ref.some trivial | infer_instance | (refine Ref.N2 (fun h=>?_) (fun h=>?_)<;>try simp only [h,nr]) | (refine Ref.bind (R:=Eq) ?_ ?_;infer_instance;intro a b e;cases e;try simp only [nr]) | fail
 ·refine Ref.bind r0Q ?_
  rintro ⟨_ | c,q,ok⟩ _ rfl
  all_goals
   simp only [toS]
   (try simp only [nr]);repeat' first | exact Ref.none | exact Ref.some rfl | exact Ref.some trivial | infer_instance | (refine Ref.N2 (fun h=>?_) (fun h=>?_)<;>try simp only [h,nr]) | (refine Ref.bind (R:=Eq) ?_ ?_;infer_instance;intro a b e;cases e;try simp only [nr]) | fail
theorem A07 {h:List B0} (s:List B0×Int) (s':Int×List B0) (e:Sw s s'):Ref (Old.f0Z F h s) (p0f F h s') (D6 Sw Eq):=by
 obtain ⟨a,i⟩:=s;subst e;unfold Old.f0Z p0f
 (try simp only [nr]);repeat' first | exact Ref.none | exact Ref.some rfl | exact Ref.some trivial | infer_instance | (refine Ref.N2 (fun h=>?_) (fun h=>?_)<;>try simp only [h,nr]) | (refine Ref.bind (R:=Eq) ?_ ?_;infer_instance;intro a b e;cases e;try simp only [nr]) | fail
theorem B0B {h:List B0}:Ref (Old.a0L F h) (a0L F h) Eq:=by
 unfold Old.a0L a0L
 (try simp only [nr]);repeat' first | exact Ref.none | exact Ref.some rfl | exact Ref.some trivial | infer_instance | (refine Ref.N2 (fun h=>?_) (fun h=>?_)<;>try simp only [h,nr]) | (refine Ref.bind (R:=Eq) ?_ ?_;infer_instance;intro a b e;cases e;try simp only [nr]) | fail
 exact Ref.iter A07 _ _ _ rfl
attribute [instance] B0B
theorem C0W {q:Int}:Ref (Old.b0u F l q) (b0u F l q) Eq:=by
 unfold Old.b0u b0u;simp only [nr];refine Ref.bind r0g ?_
 rintro ⟨_ | c,ok⟩ _ rfl
 all_goals
  simp only [toS]
  (try simp only [nr]);repeat' first | exact Ref.none | exact Ref.some rfl | exact Ref.some trivial | infer_instance | (refine Ref.N2 (fun h=>?_) (fun h=>?_)<;>try simp only [h,nr]) | (refine Ref.bind (R:=Eq) ?_ ?_;infer_instance;intro a b e;cases e;try simp only [nr]) | fail
theorem A0X {p:Int}:Ref (Old.a09 F l p) (a09 F l p) Eq:=by
 unfold Old.a09 a09 m0n;simp only [nr];refine Ref.bind r0Q ?_
 rintro ⟨_ | c,q,ok⟩ _ rfl
 all_goals
  simp only [toS]
  (try simp only [nr]);repeat' first | exact Ref.none | exact Ref.some rfl | exact Ref.some trivial | infer_instance | (refine Ref.N2 (fun h=>?_) (fun h=>?_)<;>try simp only [h,nr]) | (refine Ref.bind (R:=Eq) ?_ ?_;infer_instance;intro a b e;cases e;try simp only [nr]) | fail
end
