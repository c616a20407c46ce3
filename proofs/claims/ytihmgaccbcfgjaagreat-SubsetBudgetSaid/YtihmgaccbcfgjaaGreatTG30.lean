/- P. Its conditions: none. -/
import Derived.Test.YtihmgaccbcfgjaaGreatTOm
set_option linter.all false
theorem Go.J' {P:Prop}(h:P:=by (try simp only[nr]);repeat' first|exact Ref.some rfl|exact Ref.some trivial|infer_instance|(refine Ref.B2 (fun h=>?_) (fun h=>?_)<;>try simp only[h,nr])|(refine Ref.bind (R:=Eq) ?_ ?_;infer_instance;intro a b e;cases e;try simp only[nr])|fail):P:=h
namespace Go.Proofs.YtihmgaccbcfgjaaGreat
open Go.V Go.RowKit
class Ref {α β:Type}(o:Option α)(n:Option β)(R:α->β->Prop):Prop where
 run:∀a,o=some a->∃b,n=some b/\R a b
def I6 {σ σ' τ τ':Type}(I:σ->σ'->Prop)(R:τ->τ'->Prop):Q0 σ τ->Q0 σ' τ'->Prop
 |.next s,.next b=>I s b
 |.done t,.done a=>R t a
 |_,_=>False
section
variable {α β γ δ σ σ' τ τ':Type}
instance Ref.none {n:Option β}{R:α->β->Prop}:Ref Option.none n R:=⟨fun _ h=>by cases h⟩
theorem Ref.some {a:α}{b:β}{R:α->β->Prop}(h:R a b):Ref (Option.some a) (Option.some b) R:=⟨fun _ e=>by cases e;exact⟨b,rfl,h⟩⟩
instance Ref.z {a:α}:Ref (Option.some a) (Option.some a) Eq:=Ref.some rfl
theorem Ref.bind {o:Option α}{n:Option β}{R:α->β->Prop}{f:α->Option γ}{g:β->Option δ}{S:γ->δ->Prop}(h:Ref o n R)(e:∀a b,R a b->Ref (f a) (g b) S):Ref (Option.bind o f) (Option.bind n g) S:=by
 refine⟨fun c d=>?_⟩;cases o with
 |none=>cases d
 |some a=>
  obtain⟨b,rfl,hR⟩:=h.run a rfl;exact(e a b hR).run c d
theorem Ref.ite {c:Prop}[Decidable c]{o a:Option α}{n b:Option β}{R:α->β->Prop}(h:c->Ref o n R)(d:¬c->Ref a b R):Ref (if c then o else a) (if c then n else b) R:=by
 by_cases e:c
 ·rw[if_pos e,if_pos e];exact h e
 ·rw[if_neg e,if_neg e];exact d e
theorem Ref.B2 {c:Prop}[Decidable c]{o a:Option α}{n:Option β}{R:α->β->Prop}(h:c->Ref o n R)(b:¬c->Ref a n R):Ref (if c then o else a) n R:=by
 by_cases e:c
 ·rw[if_pos e];exact h e
 ·rw[if_neg e];exact b e
theorem Ref.iter {I:σ->σ'->Prop}{R:τ->τ'->Prop}{f:σ->Option (Q0 σ τ)}{g:σ'->Option (Q0 σ' τ')}(h:∀s b,I s b->Ref (f s) (g b) (I6 I R)):∀(k:Nat) (s:σ) (b:σ'),I s b->Ref (iter f k s) (iter g k b) R:=by
 intro k
 induction k with
 |zero=>intro s b _;exact⟨fun a ha=>by cases ha⟩
 |succ k ih=>
  intro s b i;refine⟨fun a ha=>?_⟩;have hs:=h s b i;unfold Go.V.iter at ha ⊢;cases e:f s with
  |none=>rw[e]at ha;cases ha
  |some c=>
   obtain⟨c',e',d⟩:=hs.run c e;rw[e]at ha;rw[e'];cases c<;>cases c'<;>first|exact d.elim|skip
   ·exact(ih _ _ d).run a ha
   ·cases ha;exact⟨_,rfl,d⟩
end
def nr:(∀{α β:Type} {c:Prop} {h:Decidable c} {a b:Option α} {f:α->Option β},Option.bind (@ite (Option α) c h a b) f=@ite (Option β) c h (Option.bind a f) (Option.bind b f))/\(∀{α β:Type} (a:α) (f:α->Option β),Option.bind (some a) f=f a)/\(∀{α β:Type} (f:α->Option β),Option.bind none f=none)/\
  (∀{α β γ:Type} (o:Option α) (f:α->Option β) (g:β->Option γ),Option.bind (Option.bind o f) g=Option.bind o fun a=>Option.bind (f a) g)/\(∀{α:Type} (o:Option α),(Option.bind o fun x=>some x)=o)/\(∀{α:Type} {h:Decidable True} (a b:α),@ite α True h a b=a)/\(∀{α:Type} {h:Decidable False} (a b:α),@ite α False h a b=b)/\
  ((¬True)=False)/\((¬False)=True)/\((false=true)=False):=
 ⟨by intro α β c h a b f;split<;>rfl,fun _ _=>rfl,fun _=>rfl,fun o _ _=>by cases o<;>rfl,fun o=>by cases o<;>rfl,fun _ _=>if_pos trivial,fun _ _=>if_neg id,X',X',X'⟩
def G0 {α β:Type}(a:α)(f:α->Option β):Option.bind (some a) f=f a:=rfl
def I8 {α:Type}(o:Option α):(Option.bind o fun x=>some x)=o:=by cases o<;>rfl
def Sw {α β:Type}(s:α×β)(a:β×α):Prop:=a=(s.2,s.1)
section
variable {F:Nat}{l:List C0}
theorem z0D {a:List Int}{i:Int}:Ref (Old.c0u F l a i) (c0u F l a i) Eq:=by
 unfold Old.c0u c0u
 exact J'
attribute [instance] z0D
theorem w02 {x:C0}:Ref (Old.c0v F x) (c0v F x) Eq:=by
 unfold Old.c0v c0v
 exact J'
attribute [instance] w02
theorem y0M {x:C0}(s c:Int)(h:s=c):Ref (Old.c0B F x l s) (o0y F x l c) (I6 Eq fun a b=>match a,b with|.inl _,.inr _=>True|.inr r,.inl _=>r=true|_,_=>False):=by
 subst h;unfold Old.c0B o0y
 exact J'
theorem F0c {x:C0}:Ref (Old.c0b F x l) (c0b F x l) Eq:=by
 unfold Old.c0b c0b;refine Ref.bind (Ref.iter y0M _ _ _ rfl) ?_
 rintro(_|r) (_|_) h
 ·exact h.elim
 ·exact Ref.some rfl
 ·cases h;exact Ref.some rfl
 ·exact h.elim
attribute [instance] F0c
def x09 (a:(List Int×Int)⊕List Int)(b:Unit⊕(List Int×Int)):Prop:=match a,b with
 |.inl x,.inr y=>x=y
 |.inr r,.inl _=>r=[]
 |_,_=>False
theorem C0v (s b:List Int×Int×Int)(h:s=b):Ref (Old.e0O F l s) (m00 F l b) (I6 Eq x09):=by
 obtain⟨a,i,j⟩:=s;subst h;unfold Old.e0O m00
 exact J'
theorem v0d:Ref (Old.I9 F l) (I9 F l) Eq:=by
 unfold Old.I9 I9;simp only[nr];refine Ref.B2 (fun h=>?_) (fun h=>?_)<;>simp only[h,if_true,if_false]
 ·exact Ref.some rfl
 ·refine Ref.B2 (fun h=>?_) (fun h=>?_)<;>(try simp only[h,if_true,if_false])
  ·exact Ref.some rfl
  ·refine Ref.bind (Ref.iter C0v _ _ _ rfl) ?_
   rintro(⟨a,i⟩|r) (_|⟨b,j⟩) e
   ·exact e.elim
   ·cases e;(try simp only[nr]);repeat' first|exact Ref.some rfl|exact Ref.some trivial|infer_instance|(refine Ref.B2 (fun h=>?_) (fun h=>?_)<;>try simp only[h,nr])|(refine Ref.bind (R:=Eq) ?_ ?_;infer_instance;intro a b e;cases e;try simp only[nr])|fail
   ·cases e;exact Ref.some rfl
   ·exact e.elim
attribute [instance] v0d
theorem i0m:Ref (Old.l6 F l) (l6 F l) Eq:=by
 unfold Old.l6 l6
 exact J'
attribute [instance] i0m
theorem z0h (s:List Bool×Int)(b:Int×List Bool)(h:Sw s b):Ref (Old.d0Z F l s) (l0O F l b) (I6 Sw Eq):=by
 obtain⟨a,i⟩:=s;subst h;unfold Old.d0Z l0O
 exact J'
theorem v0O:Ref (Old.a0v F l) (a0v F l) Eq:=by
 unfold Old.a0v a0v
 (try simp only[nr]);repeat' first|exact Ref.some rfl|exact Ref.some trivial|infer_instance|(refine Ref.B2 (fun h=>?_) (fun h=>?_)<;>try simp only[h,nr])|(refine Ref.bind (R:=Eq) ?_ ?_;infer_instance;intro a b e;cases e;try simp only[nr])|fail
 exact Ref.iter z0h _ _ _ rfl
attribute [instance] v0O
theorem D0l {c:List Bool}:∀{k:Nat} {q:Int} {o:List Int},Ref (Old.L6 F k l c q o) (L6 F k l c q o) Eq:=by
 intro k
 induction k with
 |zero=>intro q o;exact Ref.none
 |succ k ih=>
  intro q o;unfold Old.L6 L6
  (try simp only[nr]);repeat' (first|exact Ref.some rfl|exact ih|infer_instance|(refine Ref.B2 (fun h=>?_) (fun h=>?_)<;>try simp only[h,nr])|(refine Ref.bind (R:=Eq) ?_ ?_;(first|exact ih|infer_instance);intro b b_ a;cases a;try simp only[nr])|fail)
attribute [instance] D0l
theorem E0A {q:Int}:Ref (Old.a0e F l q) (a0e F l q) Eq:=by
 unfold Old.a0e a0e
 exact J'
attribute [instance] E0A
theorem E0I (s:List Int×Int)(b:Int×List Int)(h:Sw s b):Ref (Old.e0j F l s) (p0W F l b) (I6 Sw Eq):=by
 obtain⟨a,i⟩:=s;subst h;unfold Old.e0j p0W
 exact J'
theorem t0c:Ref (Old.a0l F l) (a0l F l) Eq:=by
 unfold Old.a0l a0l
 (try simp only[nr]);repeat' first|exact Ref.some rfl|exact Ref.some trivial|infer_instance|(refine Ref.B2 (fun h=>?_) (fun h=>?_)<;>try simp only[h,nr])|(refine Ref.bind (R:=Eq) ?_ ?_;infer_instance;intro a b e;cases e;try simp only[nr])|fail
 exact Ref.iter E0I _ _ _ rfl
attribute [instance] t0c
theorem z0T {up:List Int}(s:List Int×Int)(b:Int×List Int)(h:Sw s b):Ref (Old.f0F F up s) (p0a F up b) (I6 Sw Eq):=by
 obtain⟨a,i⟩:=s;subst h;unfold Old.f0F p0a
 exact J'
theorem u0Y:Ref (Old.a0P F l) (a0P F l) Eq:=by
 unfold Old.a0P a0P
 (try simp only[nr]);repeat' first|exact Ref.some rfl|exact Ref.some trivial|infer_instance|(refine Ref.B2 (fun h=>?_) (fun h=>?_)<;>try simp only[h,nr])|(refine Ref.bind (R:=Eq) ?_ ?_;infer_instance;intro a b e;cases e;try simp only[nr])|fail
 exact Ref.iter z0T _ _ _ rfl
attribute [instance] u0Y
theorem z02 (s b:List Int×Int)(h:s=b):Ref (Old.f0h F l s) (p0Y F l b) (I6 Eq Eq):=by
 obtain⟨a,i⟩:=s;subst h;unfold Old.f0h p0Y
 exact J'
theorem u0l:Ref (Old.C7 F l) (C7 F l) Eq:=by
 unfold Old.C7 C7
 (try simp only[nr]);repeat' first|exact Ref.some rfl|exact Ref.some trivial|infer_instance|(refine Ref.B2 (fun h=>?_) (fun h=>?_)<;>try simp only[h,nr])|(refine Ref.bind (R:=Eq) ?_ ?_;infer_instance;intro a b e;cases e;try simp only[nr])|fail
 exact Ref.iter z02 _ _ _ rfl
attribute [instance] u0l
theorem F0x {x:Int}(c:x=((List.replicate (Int.toNat (l.length:Int)) (0:Int)).length:Int))(s:List Int×Int)(b:Int×List Int)(h:Sw s b):Ref (Old.f07 F l s) (p0g F x b) (I6 Sw Eq):=by
 obtain⟨a,i⟩:=s;subst h;subst c;unfold Old.f07 p0g
 exact J'
theorem C0V {y x:List Int}(s:List Int×Int)(b:Int×List Int)(h:Sw s b):Ref (Old.f0q F y x s) (p0t F x b) (I6 Sw Eq):=by
 obtain⟨a,i⟩:=s;subst h;unfold Old.f0q p0t
 exact J'
theorem z0m:Ref (Old.b05 F l) (b05 F l) Eq:=by
 unfold Old.b05 b05
 (try simp only[nr]);repeat' first|exact Ref.some rfl|exact Ref.some trivial|infer_instance|(refine Ref.B2 (fun h=>?_) (fun h=>?_)<;>try simp only[h,nr])|(refine Ref.bind (R:=Eq) ?_ ?_;infer_instance;intro a b e;cases e;try simp only[nr])|fail
 refine Ref.bind (Ref.iter (F0x rfl) _ _ _ rfl) ?_
 rintro a _ rfl
 (try simp only[nr]);repeat' first|exact Ref.some rfl|exact Ref.some trivial|infer_instance|(refine Ref.B2 (fun h=>?_) (fun h=>?_)<;>try simp only[h,nr])|(refine Ref.bind (R:=Eq) ?_ ?_;infer_instance;intro a b e;cases e;try simp only[nr])|fail
 exact Ref.iter C0V _ _ _ rfl
attribute [instance] z0m
def toS {α:Type}:Option α->Unit⊕α
 |none=>.inl ()
 |some a=>.inr a
theorem u01:Ref (Old.b0b F l) (b0b F l) (fun a b=>b=(toS a.1,a.2)):=by
 unfold Old.b0b b0b
 exact J'
theorem v0x {p:Int}:Ref (Old.b0n F l p) (b0n F l p) (fun a b=>b=(toS a.1,a.2)):=by
 unfold Old.b0n b0n;simp only[nr];refine Ref.bind u01 ?_
 rintro⟨_|c,ok⟩ _ rfl
 all_goals
  simp only[toS,G0]
  exact J'
theorem G0C {a b:List Int}:Ref (Old.N8 F a b) (N8 F a b) Eq:=by
 unfold Old.N8 N8;simp only[Nat.le_refl,Int.le_refl,decide_true,Bool.and_self,Bool.and_true,Bool.true_and,if_true]
 exact J'
attribute [instance] G0C
theorem H0G {c:L4}:∀{k:Nat} {q:Int} {o:List Int} {h:List B0},Ref (Old.P5 F k c q o h) (P5 F k c q o h) Eq:=by
 intro k
 induction k with
 |zero=>intro q o h;exact Ref.none
 |succ k ih=>
  intro q o h;unfold Old.P5 P5
  (try simp only[nr]);repeat' (first|exact Ref.some rfl|exact ih|infer_instance|(refine Ref.B2 (fun h=>?_) (fun h=>?_)<;>try simp only[h,nr])|(refine Ref.bind (R:=Eq) ?_ ?_;(first|exact ih|infer_instance);intro b b_ a;cases a;try simp only[nr])|fail)
attribute [instance] H0G
theorem A0N {Y0 out:List B0}{x:Int}(s c:Int)(h:s=c):Ref (Old.e0f F out (gt Y0 x) s) (l0P F Y0 out x c) (I6 Eq fun a b=>match a,b with|.inl _,.inr _=>True|.inr a,.inl b=>a=b|_,_=>False):=by
 subst h;unfold Old.e0f l0P Old.o0u
 exact J'
theorem F09 {c:L4}{at_:Int}{f Y0:List B0}(s d:List B0×Int)(h:s=d):Ref (Old.d09 F c at_ f Y0 s) (q0C F c at_ Y0 d) (I6 Eq Eq):=by
 obtain⟨o,i⟩:=s;subst h;unfold Old.d09 q0C Old.j0r Old.n0J;simp only[nr];refine Ref.B2 (fun h=>?_) (fun h=>?_)<;>simp only[h,if_true,if_false]
 ·refine Ref.B2 (fun h=>?_) (fun h=>?_)<;>simp only[h,if_true,if_false]
  ·refine Ref.bind (Ref.iter A0N _ _ _ rfl) ?_
   rintro(_|a) (b|_) e
   ·exact e.elim
   ·(try simp only[nr]);repeat' first|exact Ref.some rfl|exact Ref.some trivial|infer_instance|(refine Ref.B2 (fun h=>?_) (fun h=>?_)<;>try simp only[h,nr])|(refine Ref.bind (R:=Eq) ?_ ?_;infer_instance;intro a b e;cases e;try simp only[nr])|fail
   ·cases e;(try simp only[nr]);repeat' first|exact Ref.some rfl|exact Ref.some trivial|infer_instance|(refine Ref.B2 (fun h=>?_) (fun h=>?_)<;>try simp only[h,nr])|(refine Ref.bind (R:=Eq) ?_ ?_;infer_instance;intro a b e;cases e;try simp only[nr])|fail
   ·exact e.elim
  ·exact Ref.none
 ·exact Ref.some rfl
theorem A0F {c:L4}{at_ goal:Int}{o:List Int}{h:List B0}:Ref (Old.b0h F c at_ goal o h) (b0h F c at_ goal o h) Eq:=by
 unfold Old.b0h b0h
 (try simp only[nr]);repeat' first|exact Ref.some rfl|exact Ref.some trivial|infer_instance|(refine Ref.B2 (fun h=>?_) (fun h=>?_)<;>try simp only[h,nr])|(refine Ref.bind (R:=Eq) ?_ ?_;infer_instance;intro a b e;cases e;try simp only[nr])|fail
 exact Ref.iter F09 _ _ _ rfl
attribute [instance] A0F
def ClR (a:(List Int×List B0)⊕(List B0×List Int))(b:List B0⊕(List Int×List B0)):Prop:=match a,b with
 |.inl x,.inr y=>x=y
 |.inr r,.inl x=>r=(x,[])
 |_,_=>False
theorem G00 {c:L4}{q:Int}(s f:Int×List Int×List B0×Int)(h:s=f):Ref (Old.c0n F c q s) (l08 F c f) (I6 Eq ClR):=by
 obtain⟨a,b,d,e⟩:=s;subst h;unfold Old.c0n l08
 exact J'
theorem y0O {c:L4}{q:Int}:Ref (Old.a08 F c q) (a08 F c q) Eq:=by
 unfold Old.a08 a08;refine Ref.B2 (fun h=>?_) (fun h=>?_)<;>simp only[h,if_true,if_false]
 ·refine Ref.bind (Ref.iter G00 _ _ _ rfl) ?_
  rintro(⟨a,b⟩|r) (x|⟨y,z⟩) e
  ·exact e.elim
  ·cases e;(try simp only[nr]);repeat' first|exact Ref.some rfl|exact Ref.some trivial|infer_instance|(refine Ref.B2 (fun h=>?_) (fun h=>?_)<;>try simp only[h,nr])|(refine Ref.bind (R:=Eq) ?_ ?_;infer_instance;intro a b e;cases e;try simp only[nr])|fail
  ·cases e;(try simp only[nr]);repeat' first|exact Ref.some rfl|exact Ref.some trivial|infer_instance|(refine Ref.B2 (fun h=>?_) (fun h=>?_)<;>try simp only[h,nr])|(refine Ref.bind (R:=Eq) ?_ ?_;infer_instance;intro a b e;cases e;try simp only[nr])|fail
  ·exact e.elim
 ·exact Ref.none
attribute [instance] y0O
theorem n0P {p:Int}:Ref (Old.G9 F l p) (G9 F l p) Eq:=by
 unfold Old.G9 G9;simp only[nr];refine Ref.B2 (fun h=>?_) (fun h=>?_)<;>simp only[h,if_true,if_false]
 ·(try simp only[nr]);repeat' first|exact Ref.some rfl|exact Ref.some trivial|infer_instance|(refine Ref.B2 (fun h=>?_) (fun h=>?_)<;>try simp only[h,nr])|(refine Ref.bind (R:=Eq) ?_ ?_;infer_instance;intro a b e;cases e;try simp only[nr])|fail
 ·refine Ref.bind v0x ?_
  rintro⟨_|c,q,ok⟩ _ rfl
  all_goals
   simp only[toS]
   exact J'
theorem E0n {h:List B0}(s:List B0×Int)(b:Int×List B0)(e:Sw s b):Ref (Old.g0j F h s) (m0I F h b) (I6 Sw Eq):=by
 obtain⟨a,i⟩:=s;subst e;unfold Old.g0j m0I
 exact J'
theorem y0f {h:List B0}:Ref (Old.a01 F h) (a01 F h) Eq:=by
 unfold Old.a01 a01
 (try simp only[nr]);repeat' first|exact Ref.some rfl|exact Ref.some trivial|infer_instance|(refine Ref.B2 (fun h=>?_) (fun h=>?_)<;>try simp only[h,nr])|(refine Ref.bind (R:=Eq) ?_ ?_;infer_instance;intro a b e;cases e;try simp only[nr])|fail
 exact Ref.iter E0n _ _ _ rfl
attribute [instance] y0f
theorem B0J {q:Int}:Ref (Old.c0h F l q) (c0h F l q) Eq:=by
 unfold Old.c0h c0h;simp only[nr];refine Ref.bind u01 ?_
 rintro⟨_|c,ok⟩ _ rfl
 all_goals
  simp only[toS]
  exact J'
theorem x0g {p:Int}:Ref (Old.b0M F l p) (b0M F l p) Eq:=by
 unfold Old.b0M b0M n0N;simp only[nr];refine Ref.bind v0x ?_
 rintro⟨_|c,q,ok⟩ _ rfl
 all_goals
  simp only[toS]
  exact J'
end
