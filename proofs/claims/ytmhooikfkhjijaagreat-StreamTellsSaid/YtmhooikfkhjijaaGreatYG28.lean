/- P. Its conditions: none. -/
import Derived.Test.YtmhooikfkhjijaaGreatYOm
set_option linter.all false
namespace Go.Proofs.YtmhooikfkhjijaaGreat
open Go.V Go.RowKit
class Ref {α β:Type}(o:Option α)(n:Option β)(R:α->β->Prop):Prop where
 run:∀a,o=some a->∃b,n=some b/\R a b
def C0o {σ σ' τ τ':Type}(I:σ->σ'->Prop)(R:τ->τ'->Prop):T0 σ τ->T0 σ' τ'->Prop
 |.next s,.next s'=>I s s'
 |.done t,.done t'=>R t t'
 |_,_=>False
section
variable {α β γ δ σ σ' τ τ':Type}
instance Ref.none {n:Option β}{R:α->β->Prop}:Ref Option.none n R:=⟨fun _ h=>by cases h⟩
theorem Ref.some {a:α}{b:β}{R:α->β->Prop}(h:R a b):Ref (Option.some a) (Option.some b) R:=⟨fun _ e=>by cases e;exact⟨b,rfl,h⟩⟩
theorem Ref.bind {o:Option α}{n:Option β}{R:α->β->Prop}{f:α->Option γ}{g:β->Option δ}{S:γ->δ->Prop}(h:Ref o n R)(hf:∀a b,R a b->Ref (f a) (g b) S):Ref (Option.bind o f) (Option.bind n g) S:=by
 refine⟨fun c hc=>?_⟩;cases o with
 |none=>cases hc
 |
  some a=>
  obtain⟨b,rfl,hR⟩:=h.run a rfl;exact(hf a b hR).run c hc
theorem Ref.bq {o n:Option α}{f:α->Option γ}{g:α->Option δ}{S:γ->δ->Prop}(h:Ref o n Eq)(hf:∀a,Ref (f a) (g a) S):Ref (Option.bind o f) (Option.bind n g) S:=Ref.bind h fun a b e=>by cases e;exact hf a
theorem Ref.ite {c:Prop}[Decidable c]{o o':Option α}{n n':Option β}{R:α->β->Prop}(h:c->Ref o n R)(h':¬c->Ref o' n' R):Ref (if c then o else o') (if c then n else n') R:=by
 by_cases e:c
 ·rw[if_pos e,if_pos e];exact h e
 ·rw[if_neg e,if_neg e];exact h' e
theorem Ref.e04 {c:Prop}[Decidable c]{o o':Option α}{n:Option β}{R:α->β->Prop}(h:c->Ref o n R)(h':¬c->Ref o' n R):Ref (if c then o else o') n R:=by
 by_cases e:c
 ·rw[if_pos e];exact h e
 ·rw[if_neg e];exact h' e
theorem Ref.iter {I:σ->σ'->Prop}{R:τ->τ'->Prop}{f:σ->Option (T0 σ τ)}{f':σ'->Option (T0 σ' τ')}(h:∀s s',I s s'->Ref (f s) (f' s') (C0o I R)):∀(k:Nat) (s:σ) (s':σ'),I s s'->Ref (iter f k s) (iter f' k s') R:=by
 intro k
 induction k with
 |zero=>intro s s' _;exact⟨fun a ha=>by cases ha⟩
 |
  succ k ih=>
  intro s s' hI;refine⟨fun a ha=>?_⟩;have hs:=h s s' hI;unfold Go.V.iter at ha ⊢;cases e:f s with
  |none=>rw[e]at ha;cases ha
  |
   some c=>
   obtain⟨c',e',hc⟩:=hs.run c e;rw[e]at ha;rw[e'];cases c<;>cases c'<;>first|exact hc.elim|skip
   ·exact(ih _ _ hc).run a ha
   ·cases ha;exact⟨_,rfl,hc⟩
end
theorem nr:(∀{α β:Type} {c:Prop} {h:Decidable c} {a b:Option α} {f:α->Option β},Option.bind (@ite (Option α) c h a b) f=@ite (Option β) c h (Option.bind a f) (Option.bind b f))/\(∀{α β:Type} (a:α) (f:α->Option β),Option.bind (some a) f=f a)/\(∀{α β:Type} (f:α->Option β),Option.bind none f=none)/\
  (∀{α β γ:Type} (o:Option α) (f:α->Option β) (g:β->Option γ),Option.bind (Option.bind o f) g=Option.bind o fun a=>Option.bind (f a) g)/\(∀{α:Type} (o:Option α),(Option.bind o fun x=>some x)=o)/\(∀{α:Type} {h:Decidable True} (a b:α),@ite α True h a b=a)/\(∀{α:Type} {h:Decidable False} (a b:α),@ite α False h a b=b)/\
  ((¬True)=False)/\((¬False)=True)/\((false=true)=False):=
 ⟨by intro α β c h a b f;split<;>rfl,fun _ _=>rfl,fun _=>rfl,fun o _ _=>by cases o<;>rfl,fun o=>by cases o<;>rfl,fun _ _=>if_pos trivial,fun _ _=>if_neg id,by simp,by simp,by simp⟩
theorem F1 {α β:Type}(a:α)(f:α->Option β):Option.bind (some a) f=f a:=rfl
theorem C0k {α:Type}(o:Option α):(Option.bind o fun x=>some x)=o:=by cases o<;>rfl
def Sw {α β:Type}(s:α×β)(s':β×α):Prop:=s'=(s.2,s.1)
section
variable {F:Nat}{l:List U0}
theorem W0e {a:List Int}{i:Int}:Ref (Old.p0i F l a i) (p0i F l a i) Eq:=by
 unfold Old.p0i p0i
 (try simp only[nr]);repeat' first|exact Ref.some rfl|exact Ref.some trivial|infer_instance|(refine Ref.e04 (fun h=>?_) (fun h=>?_)<;>try simp only[h,nr])|(refine Ref.bq inferInstance fun a=>?_;try simp only[nr])|fail
attribute [instance] W0e
theorem Q0f {x:U0}:Ref (Old.m0O F x) (m0O F x) Eq:=by
 unfold Old.m0O m0O
 (try simp only[nr]);repeat' first|exact Ref.some rfl|exact Ref.some trivial|infer_instance|(refine Ref.e04 (fun h=>?_) (fun h=>?_)<;>try simp only[h,nr])|(refine Ref.bq inferInstance fun a=>?_;try simp only[nr])|fail
attribute [instance] Q0f
theorem W0E {x:U0}(s s':Int)(h:s=s'):Ref (Old.E0n F x l s) (s0W F x l s') (C0o Eq fun a b=>match a,b with|.inl _,.inr _=>True|.inr r,.inl _=>r=true|_,_=>False):=by
 subst h;unfold Old.E0n s0W
 (try simp only[nr]);repeat' first|exact Ref.some rfl|exact Ref.some trivial|infer_instance|(refine Ref.e04 (fun h=>?_) (fun h=>?_)<;>try simp only[h,nr])|(refine Ref.bq inferInstance fun a=>?_;try simp only[nr])|fail
theorem Q0L {x:U0}:Ref (Old.o01 F x l) (o01 F x l) Eq:=by
 unfold Old.o01 o01;refine Ref.bind (Ref.iter W0E _ _ _ rfl) ?_
 rintro(_|r) (_|_) h
 ·exact h.elim
 ·exact Ref.some rfl
 ·cases h;exact Ref.some rfl
 ·exact h.elim
attribute [instance] Q0L
def X0q (a:(List Int×Int)⊕List Int)(b:Unit⊕(List Int×Int)):Prop:=match a,b with
 |.inl x,.inr y=>x=y
 |.inr r,.inl _=>r=[]
 |_,_=>False
theorem U0o (s s':List Int×Int×Int)(h:s=s'):Ref (Old.E06 F l s) (q0M F l s') (C0o Eq X0q):=by
 obtain⟨a,i,j⟩:=s;subst h;unfold Old.E06 q0M
 (try simp only[nr]);repeat' first|exact Ref.some rfl|exact Ref.some trivial|infer_instance|(refine Ref.e04 (fun h=>?_) (fun h=>?_)<;>try simp only[h,nr])|(refine Ref.bq inferInstance fun a=>?_;try simp only[nr])|fail
theorem M0O:Ref (Old.b0e F l) (b0e F l) Eq:=by
 unfold Old.b0e b0e;simp only[nr];refine Ref.e04 (fun h=>?_) (fun h=>?_)<;>simp only[h,if_true,if_false]
 ·exact Ref.some rfl
 ·refine Ref.e04 (fun h=>?_) (fun h=>?_)<;>(try simp only[h,if_true,if_false])
  ·exact Ref.some rfl
  ·refine Ref.bind (Ref.iter U0o _ _ _ rfl) ?_
   rintro(⟨a,i⟩|r) (_|⟨b,j⟩) e
   ·exact e.elim
   ·cases e;(try simp only[nr]);repeat' first|exact Ref.some rfl|exact Ref.some trivial|infer_instance|(refine Ref.e04 (fun h=>?_) (fun h=>?_)<;>try simp only[h,nr])|(refine Ref.bq inferInstance fun a=>?_;try simp only[nr])|fail
   ·cases e;exact Ref.some rfl
   ·exact e.elim
attribute [instance] M0O
theorem H0Q:Ref (Old.R7 F l) (R7 F l) Eq:=by
 unfold Old.R7 R7
 (try simp only[nr]);repeat' first|exact Ref.some rfl|exact Ref.some trivial|infer_instance|(refine Ref.e04 (fun h=>?_) (fun h=>?_)<;>try simp only[h,nr])|(refine Ref.bq inferInstance fun a=>?_;try simp only[nr])|fail
attribute [instance] H0Q
theorem Q0e (s:List Bool×Int)(s':Int×List Bool)(h:Sw s s'):Ref (Old.E0X F l s) (t0q F l s') (C0o Sw Eq):=by
 obtain⟨a,i⟩:=s;subst h;unfold Old.E0X t0q
 (try simp only[nr]);repeat' first|exact Ref.some rfl|exact Ref.some trivial|infer_instance|(refine Ref.e04 (fun h=>?_) (fun h=>?_)<;>try simp only[h,nr])|(refine Ref.bq inferInstance fun a=>?_;try simp only[nr])|fail
theorem S0a:Ref (Old.e0l F l) (e0l F l) Eq:=by
 unfold Old.e0l e0l
 (try simp only[nr]);repeat' first|exact Ref.some rfl|exact Ref.some trivial|infer_instance|(refine Ref.e04 (fun h=>?_) (fun h=>?_)<;>try simp only[h,nr])|(refine Ref.bq inferInstance fun a=>?_;try simp only[nr])|fail
 exact Ref.iter Q0e _ _ _ rfl
attribute [instance] S0a
theorem X0K {c:List Bool}:∀{k:Nat} {q:Int} {o:List Int},Ref (Old.a08 F k l c q o) (a08 F k l c q o) Eq:=by
 intro k
 induction k with
 |zero=>intro q o;exact Ref.none
 |
  succ k ih=>
  intro q o;unfold Old.a08 a08
  (try simp only[nr]);repeat' (first|exact Ref.some rfl|exact ih|infer_instance|(refine Ref.e04 (fun h=>?_) (fun h=>?_)<;>try simp only[h,nr])|(refine Ref.bind (R:=Eq) ?_ ?_;(first|exact Ref.some rfl|exact ih|infer_instance);intro a_ b_ e_;cases e_;try simp only[nr]))
attribute [instance] X0K
theorem S0j {q:Int}:Ref (Old.g0H F l q) (g0H F l q) Eq:=by
 unfold Old.g0H g0H
 (try simp only[nr]);repeat' first|exact Ref.some rfl|exact Ref.some trivial|infer_instance|(refine Ref.e04 (fun h=>?_) (fun h=>?_)<;>try simp only[h,nr])|(refine Ref.bq inferInstance fun a=>?_;try simp only[nr])|fail
attribute [instance] S0j
theorem V0u (s:List Int×Int)(s':Int×List Int)(h:Sw s s'):Ref (Old.F0k F l s) (s01 F l s') (C0o Sw Eq):=by
 obtain⟨a,i⟩:=s;subst h;unfold Old.F0k s01
 (try simp only[nr]);repeat' first|exact Ref.some rfl|exact Ref.some trivial|infer_instance|(refine Ref.e04 (fun h=>?_) (fun h=>?_)<;>try simp only[h,nr])|(refine Ref.bq inferInstance fun a=>?_;try simp only[nr])|fail
theorem M0N:Ref (Old.d0T F l) (d0T F l) Eq:=by
 unfold Old.d0T d0T
 (try simp only[nr]);repeat' first|exact Ref.some rfl|exact Ref.some trivial|infer_instance|(refine Ref.e04 (fun h=>?_) (fun h=>?_)<;>try simp only[h,nr])|(refine Ref.bq inferInstance fun a=>?_;try simp only[nr])|fail
 exact Ref.iter V0u _ _ _ rfl
attribute [instance] M0N
theorem V0x {up:List Int}(s:List Int×Int)(s':Int×List Int)(h:Sw s s'):Ref (Old.F0P F up s) (q0N F up s') (C0o Sw Eq):=by
 obtain⟨a,i⟩:=s;subst h;unfold Old.F0P q0N
 (try simp only[nr]);repeat' first|exact Ref.some rfl|exact Ref.some trivial|infer_instance|(refine Ref.e04 (fun h=>?_) (fun h=>?_)<;>try simp only[h,nr])|(refine Ref.bq inferInstance fun a=>?_;try simp only[nr])|fail
theorem N0T:Ref (Old.i0V F l) (i0V F l) Eq:=by
 unfold Old.i0V i0V
 (try simp only[nr]);repeat' first|exact Ref.some rfl|exact Ref.some trivial|infer_instance|(refine Ref.e04 (fun h=>?_) (fun h=>?_)<;>try simp only[h,nr])|(refine Ref.bq inferInstance fun a=>?_;try simp only[nr])|fail
 exact Ref.iter V0x _ _ _ rfl
attribute [instance] N0T
theorem U0B (s s':List Int×Int)(h:s=s'):Ref (Old.E0V F l s) (w0O F l s') (C0o Eq Eq):=by
 obtain⟨a,i⟩:=s;subst h;unfold Old.E0V w0O
 (try simp only[nr]);repeat' first|exact Ref.some rfl|exact Ref.some trivial|infer_instance|(refine Ref.e04 (fun h=>?_) (fun h=>?_)<;>try simp only[h,nr])|(refine Ref.bq inferInstance fun a=>?_;try simp only[nr])|fail
theorem K0k:Ref (Old.a0I F l) (a0I F l) Eq:=by
 unfold Old.a0I a0I
 (try simp only[nr]);repeat' first|exact Ref.some rfl|exact Ref.some trivial|infer_instance|(refine Ref.e04 (fun h=>?_) (fun h=>?_)<;>try simp only[h,nr])|(refine Ref.bq inferInstance fun a=>?_;try simp only[nr])|fail
 exact Ref.iter U0B _ _ _ rfl
attribute [instance] K0k
theorem Q0O {x:Int}(hx:x=((List.replicate (Int.toNat (l.length:Int)) (0:Int)).length:Int))(s:List Int×Int)(s':Int×List Int)(h:Sw s s'):Ref (Old.F0Z F l s) (x0b F x s') (C0o Sw Eq):=by
 obtain⟨a,i⟩:=s;subst h;subst hx;unfold Old.F0Z x0b
 (try simp only[nr]);repeat' first|exact Ref.some rfl|exact Ref.some trivial|infer_instance|(refine Ref.e04 (fun h=>?_) (fun h=>?_)<;>try simp only[h,nr])|(refine Ref.bq inferInstance fun a=>?_;try simp only[nr])|fail
theorem R05 {y x:List Int}(s:List Int×Int)(s':Int×List Int)(h:Sw s s'):Ref (Old.F0F F y x s) (w0J F x s') (C0o Sw Eq):=by
 obtain⟨a,i⟩:=s;subst h;unfold Old.F0F w0J
 (try simp only[nr]);repeat' first|exact Ref.some rfl|exact Ref.some trivial|infer_instance|(refine Ref.e04 (fun h=>?_) (fun h=>?_)<;>try simp only[h,nr])|(refine Ref.bq inferInstance fun a=>?_;try simp only[nr])|fail
theorem R0g:Ref (Old.l0A F l) (l0A F l) Eq:=by
 unfold Old.l0A l0A
 (try simp only[nr]);repeat' first|exact Ref.some rfl|exact Ref.some trivial|infer_instance|(refine Ref.e04 (fun h=>?_) (fun h=>?_)<;>try simp only[h,nr])|(refine Ref.bq inferInstance fun a=>?_;try simp only[nr])|fail
 refine Ref.bind (Ref.iter (Q0O rfl) _ _ _ rfl) ?_
 rintro a _ rfl
 (try simp only[nr]);repeat' first|exact Ref.some rfl|exact Ref.some trivial|infer_instance|(refine Ref.e04 (fun h=>?_) (fun h=>?_)<;>try simp only[h,nr])|(refine Ref.bq inferInstance fun a=>?_;try simp only[nr])|fail
 exact Ref.iter R05 _ _ _ rfl
attribute [instance] R0g
def toS {α:Type}:Option α->Unit⊕α
 |none=>.inl ()
 |some a=>.inr a
theorem N08:Ref (Old.i0z F l) (i0z F l) (fun a b=>b=(toS a.1,a.2)):=by
 unfold Old.i0z i0z
 (try simp only[nr]);repeat' first|exact Ref.some rfl|exact Ref.some trivial|infer_instance|(refine Ref.e04 (fun h=>?_) (fun h=>?_)<;>try simp only[h,nr])|(refine Ref.bq inferInstance fun a=>?_;try simp only[nr])|fail
theorem N0m {p:Int}:Ref (Old.h0N F l p) (h0N F l p) (fun a b=>b=(toS a.1,a.2)):=by
 unfold Old.h0N h0N;simp only[nr];refine Ref.bind N08 ?_
 rintro⟨_|c,ok⟩ _ rfl
 all_goals
  simp only[toS,F1]
  (try simp only[nr]);repeat' first|exact Ref.some rfl|exact Ref.some trivial|infer_instance|(refine Ref.e04 (fun h=>?_) (fun h=>?_)<;>try simp only[h,nr])|(refine Ref.bq inferInstance fun a=>?_;try simp only[nr])|fail
theorem T0P {a b:List Int}:Ref (Old.d0i F a b) (d0i F a b) Eq:=by
 unfold Old.d0i d0i;simp only[Nat.le_refl,Int.le_refl,decide_true,Bool.and_self,Bool.and_true,Bool.true_and,if_true]
 (try simp only[nr]);repeat' first|exact Ref.some rfl|exact Ref.some trivial|infer_instance|(refine Ref.e04 (fun h=>?_) (fun h=>?_)<;>try simp only[h,nr])|(refine Ref.bq inferInstance fun a=>?_;try simp only[nr])|fail
attribute [instance] T0P
theorem V0J {c:B5}:∀{k:Nat} {q:Int} {o:List Int} {h:List E1},Ref (Old.F9 F k c q o h) (F9 F k c q o h) Eq:=by
 intro k
 induction k with
 |zero=>intro q o h;exact Ref.none
 |
  succ k ih=>
  intro q o h;unfold Old.F9 F9
  (try simp only[nr]);repeat' (first|exact Ref.some rfl|exact ih|infer_instance|(refine Ref.e04 (fun h=>?_) (fun h=>?_)<;>try simp only[h,nr])|(refine Ref.bind (R:=Eq) ?_ ?_;(first|exact Ref.some rfl|exact ih|infer_instance);intro a_ b_ e_;cases e_;try simp only[nr]))
attribute [instance] V0J
theorem Q0G {b0r out:List E1}{x:Int}(s s':Int)(h:s=s'):Ref (Old.E0S F out (gt b0r x) s) (s0X F b0r out x s') (C0o Eq fun a b=>match a,b with|.inl _,.inr _=>True|.inr a,.inl b=>a=b|_,_=>False):=by
 subst h;unfold Old.E0S s0X Old.L0n
 (try simp only[nr]);repeat' first|exact Ref.some rfl|exact Ref.some trivial|infer_instance|(refine Ref.e04 (fun h=>?_) (fun h=>?_)<;>try simp only[h,nr])|(refine Ref.bq inferInstance fun a=>?_;try simp only[nr])|fail
theorem V0O {c:B5}{at_:Int}{p4 b0r:List E1}(s s':List E1×Int)(h:s=s'):Ref (Old.F0h F c at_ p4 b0r s) (q0Q F c at_ b0r s') (C0o Eq Eq):=by
 obtain⟨o,i⟩:=s;subst h;unfold Old.F0h q0Q Old.J0y Old.K0W;simp only[nr];refine Ref.e04 (fun h=>?_) (fun h=>?_)<;>simp only[h,if_true,if_false]
 ·refine Ref.e04 (fun h=>?_) (fun h=>?_)<;>simp only[h,if_true,if_false]
  ·refine Ref.bind (Ref.iter Q0G _ _ _ rfl) ?_
   rintro(_|a) (b|_) e
   ·exact e.elim
   ·(try simp only[nr]);repeat' first|exact Ref.some rfl|exact Ref.some trivial|infer_instance|(refine Ref.e04 (fun h=>?_) (fun h=>?_)<;>try simp only[h,nr])|(refine Ref.bq inferInstance fun a=>?_;try simp only[nr])|fail
   ·cases e;(try simp only[nr]);repeat' first|exact Ref.some rfl|exact Ref.some trivial|infer_instance|(refine Ref.e04 (fun h=>?_) (fun h=>?_)<;>try simp only[h,nr])|(refine Ref.bq inferInstance fun a=>?_;try simp only[nr])|fail
   ·exact e.elim
  ·exact Ref.none
 ·exact Ref.some rfl
theorem Q0k {c:B5}{at_ goal:Int}{o:List Int}{h:List E1}:Ref (Old.h0E F c at_ goal o h) (h0E F c at_ goal o h) Eq:=by
 unfold Old.h0E h0E
 (try simp only[nr]);repeat' first|exact Ref.some rfl|exact Ref.some trivial|infer_instance|(refine Ref.e04 (fun h=>?_) (fun h=>?_)<;>try simp only[h,nr])|(refine Ref.bq inferInstance fun a=>?_;try simp only[nr])|fail
 exact Ref.iter V0O _ _ _ rfl
attribute [instance] Q0k
def ClR (a:(List Int×List E1)⊕(List E1×List Int))(b:List E1⊕(List Int×List E1)):Prop:=match a,b with
 |.inl x,.inr y=>x=y
 |.inr r,.inl x=>r=(x,[])
 |_,_=>False
theorem T0A {c:B5}{q:Int}(s s':Int×List Int×List E1×Int)(h:s=s'):Ref (Old.D01 F c q s) (v0x F c s') (C0o Eq ClR):=by
 obtain⟨a,b,d,e⟩:=s;subst h;unfold Old.D01 v0x
 (try simp only[nr]);repeat' first|exact Ref.some rfl|exact Ref.some trivial|infer_instance|(refine Ref.e04 (fun h=>?_) (fun h=>?_)<;>try simp only[h,nr])|(refine Ref.bq inferInstance fun a=>?_;try simp only[nr])|fail
theorem U0X {c:B5}{q:Int}:Ref (Old.k0q F c q) (k0q F c q) Eq:=by
 unfold Old.k0q k0q;refine Ref.e04 (fun h=>?_) (fun h=>?_)<;>simp only[h,if_true,if_false]
 ·refine Ref.bind (Ref.iter T0A _ _ _ rfl) ?_
  rintro(⟨a,b⟩|r) (x|⟨y,z⟩) e
  ·exact e.elim
  ·cases e;(try simp only[nr]);repeat' first|exact Ref.some rfl|exact Ref.some trivial|infer_instance|(refine Ref.e04 (fun h=>?_) (fun h=>?_)<;>try simp only[h,nr])|(refine Ref.bq inferInstance fun a=>?_;try simp only[nr])|fail
  ·cases e;(try simp only[nr]);repeat' first|exact Ref.some rfl|exact Ref.some trivial|infer_instance|(refine Ref.e04 (fun h=>?_) (fun h=>?_)<;>try simp only[h,nr])|(refine Ref.bq inferInstance fun a=>?_;try simp only[nr])|fail
  ·exact e.elim
 ·exact Ref.none
attribute [instance] U0X
theorem N00 {p:Int}:Ref (Old.g0v F l p) (g0v F l p) Eq:=by
 unfold Old.g0v g0v;simp only[nr];refine Ref.e04 (fun h=>?_) (fun h=>?_)<;>simp only[h,if_true,if_false]
 ·(try simp only[nr]);repeat' first|exact Ref.some rfl|exact Ref.some trivial|infer_instance|(refine Ref.e04 (fun h=>?_) (fun h=>?_)<;>try simp only[h,nr])|(refine Ref.bq inferInstance fun a=>?_;try simp only[nr])|fail
 ·refine Ref.bind N0m ?_
  rintro⟨_|c,q,ok⟩ _ rfl
  all_goals
   simp only[toS]
   (try simp only[nr]);repeat' first|exact Ref.some rfl|exact Ref.some trivial|infer_instance|(refine Ref.e04 (fun h=>?_) (fun h=>?_)<;>try simp only[h,nr])|(refine Ref.bq inferInstance fun a=>?_;try simp only[nr])|fail
theorem T0c {h:List E1}(s:List E1×Int)(s':Int×List E1)(e:Sw s s'):Ref (Old.F0z F h s) (y0S F h s') (C0o Sw Eq):=by
 obtain⟨a,i⟩:=s;subst e;unfold Old.F0z y0S
 (try simp only[nr]);repeat' first|exact Ref.some rfl|exact Ref.some trivial|infer_instance|(refine Ref.e04 (fun h=>?_) (fun h=>?_)<;>try simp only[h,nr])|(refine Ref.bq inferInstance fun a=>?_;try simp only[nr])|fail
theorem U0P {h:List E1}:Ref (Old.j0p F h) (j0p F h) Eq:=by
 unfold Old.j0p j0p
 (try simp only[nr]);repeat' first|exact Ref.some rfl|exact Ref.some trivial|infer_instance|(refine Ref.e04 (fun h=>?_) (fun h=>?_)<;>try simp only[h,nr])|(refine Ref.bq inferInstance fun a=>?_;try simp only[nr])|fail
 exact Ref.iter T0c _ _ _ rfl
attribute [instance] U0P
theorem T06 {q:Int}:Ref (Old.o0v F l q) (o0v F l q) Eq:=by
 unfold Old.o0v o0v;simp only[nr];refine Ref.bind N08 ?_
 rintro⟨_|c,ok⟩ _ rfl
 all_goals
  simp only[toS]
  (try simp only[nr]);repeat' first|exact Ref.some rfl|exact Ref.some trivial|infer_instance|(refine Ref.e04 (fun h=>?_) (fun h=>?_)<;>try simp only[h,nr])|(refine Ref.bq inferInstance fun a=>?_;try simp only[nr])|fail
theorem U0E {p:Int}:Ref (Old.o04 F l p) (o04 F l p) Eq:=by
 unfold Old.o04 o04 k0X;simp only[nr];refine Ref.bind N0m ?_
 rintro⟨_|c,q,ok⟩ _ rfl
 all_goals
  simp only[toS]
  (try simp only[nr]);repeat' first|exact Ref.some rfl|exact Ref.some trivial|infer_instance|(refine Ref.e04 (fun h=>?_) (fun h=>?_)<;>try simp only[h,nr])|(refine Ref.bq inferInstance fun a=>?_;try simp only[nr])|fail
end
