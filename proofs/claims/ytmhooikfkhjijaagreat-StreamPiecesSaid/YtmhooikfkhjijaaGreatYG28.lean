/- P. Its conditions: none. -/
import Derived.Test.YtmhooikfkhjijaaGreatYOm
set_option linter.all false
namespace Go.Proofs.YtmhooikfkhjijaaGreat
open Go.V Go.RowKit
class Ref {α β:Type}(o:Option α)(n:Option β)(R:α->β->Prop):Prop where
 run:∀a,o=some a->∃b,n=some b/\R a b
def W6 {σ σ' τ τ':Type}(I:σ->σ'->Prop)(R:τ->τ'->Prop):V0 σ τ->V0 σ' τ'->Prop
 |.next s,.next a=>I s a
 |.done t,.done b=>R t b
 |_,_=>False
section
variable {α β γ δ σ σ' τ τ':Type}
instance Ref.none {n:Option β}{R:α->β->Prop}:Ref Option.none n R:=⟨fun _ h=>by cases h⟩
theorem Ref.some {a:α}{b:β}{R:α->β->Prop}(h:R a b):Ref (Option.some a) (Option.some b) R:=⟨fun _ e=>by cases e;exact⟨b,rfl,h⟩⟩
instance Ref.z {a:α}:Ref (Option.some a) (Option.some a) Eq:=Ref.some rfl
theorem Ref.bind {o:Option α}{n:Option β}{R:α->β->Prop}{f:α->Option γ}{g:β->Option δ}{S:γ->δ->Prop}(h:Ref o n R)(e:∀a b,R a b->Ref (f a) (g b) S):Ref (Option.bind o f) (Option.bind n g) S:=by
 refine⟨fun c d=>?_⟩;cases o with
 |none=>cases d
 |some a=>
  obtain⟨b,rfl,hR⟩:=h.run a rfl;exact(e a b hR).run c d
theorem Ref.ite {c:Prop}[Decidable c]{o b:Option α}{n a:Option β}{R:α->β->Prop}(h:c->Ref o n R)(d:¬c->Ref b a R):Ref (if c then o else b) (if c then n else a) R:=by
 by_cases e:c
 ·rw[if_pos e,if_pos e];exact h e
 ·rw[if_neg e,if_neg e];exact d e
theorem Ref.Y1 {c:Prop}[Decidable c]{o a:Option α}{n:Option β}{R:α->β->Prop}(h:c->Ref o n R)(b:¬c->Ref a n R):Ref (if c then o else a) n R:=by
 by_cases e:c
 ·rw[if_pos e];exact h e
 ·rw[if_neg e];exact b e
theorem Ref.iter {I:σ->σ'->Prop}{R:τ->τ'->Prop}{f:σ->Option (V0 σ τ)}{g:σ'->Option (V0 σ' τ')}(h:∀s b,I s b->Ref (f s) (g b) (W6 I R)):∀(k:Nat) (s:σ) (b:σ'),I s b->Ref (iter f k s) (iter g k b) R:=by
 intro k
 induction k with
 |zero=>intro s b _;exact⟨fun a ha=>by cases ha⟩
 |succ k ih=>
  intro s b i;refine⟨fun a ha=>?_⟩;have j:=h s b i;unfold Go.V.iter at ha ⊢;cases e:f s with
  |none=>rw[e]at ha;cases ha
  |some c=>
   obtain⟨c',e',d⟩:=j.run c e;rw[e]at ha;rw[e'];cases c<;>cases c'<;>first|exact d.elim|skip
   ·exact(ih _ _ d).run a ha
   ·cases ha;exact⟨_,rfl,d⟩
end
def nr:(∀{α β:Type} {c:Prop} {h:Decidable c} {a b:Option α} {f:α->Option β},Option.bind (@ite (Option α) c h a b) f=@ite (Option β) c h (Option.bind a f) (Option.bind b f))/\(∀{α β:Type} (a:α) (f:α->Option β),Option.bind (some a) f=f a)/\(∀{α β:Type} (f:α->Option β),Option.bind none f=none)/\
  (∀{α β γ:Type} (o:Option α) (f:α->Option β) (g:β->Option γ),Option.bind (Option.bind o f) g=Option.bind o fun a=>Option.bind (f a) g)/\(∀{α:Type} (o:Option α),(Option.bind o fun x=>some x)=o)/\(∀{α:Type} {h:Decidable True} (a b:α),@ite α True h a b=a)/\(∀{α:Type} {h:Decidable False} (a b:α),@ite α False h a b=b)/\
  ((¬True)=False)/\((¬False)=True)/\((false=true)=False):=
 ⟨by intro α β c h a b f;split<;>rfl,fun _ _=>rfl,fun _=>rfl,fun o _ _=>by cases o<;>rfl,fun o=>by cases o<;>rfl,fun _ _=>if_pos trivial,fun _ _=>if_neg id,by simp,by simp,by simp⟩
def G0 {α β:Type}(a:α)(f:α->Option β):Option.bind (some a) f=f a:=rfl
def s9 {α:Type}(o:Option α):(Option.bind o fun x=>some x)=o:=by cases o<;>rfl
def Sw {α β:Type}(s:α×β)(a:β×α):Prop:=a=(s.2,s.1)
section
variable {F:Nat}{l:List C0}
theorem A0X {a:List Int}{i:Int}:Ref (Old.b0z F l a i) (b0z F l a i) Eq:=by
 unfold Old.b0z b0z
 (try simp only[nr]);repeat' first|exact Ref.some rfl|exact Ref.some trivial|infer_instance|(refine Ref.Y1 (fun h=>?_) (fun h=>?_)<;>try simp only[h,nr])|(refine Ref.bind (R:=Eq) ?_ ?_;infer_instance;intro a b e;cases e;try simp only[nr])|fail
attribute [instance] A0X
theorem D0a {x:C0}:Ref (Old.b0P F x) (b0P F x) Eq:=by
 unfold Old.b0P b0P
 (try simp only[nr]);repeat' first|exact Ref.some rfl|exact Ref.some trivial|infer_instance|(refine Ref.Y1 (fun h=>?_) (fun h=>?_)<;>try simp only[h,nr])|(refine Ref.bind (R:=Eq) ?_ ?_;infer_instance;intro a b e;cases e;try simp only[nr])|fail
attribute [instance] D0a
theorem w0B {x:C0}(s c:Int)(h:s=c):Ref (Old.c0u F x l s) (m03 F x l c) (W6 Eq fun a b=>match a,b with|.inl _,.inr _=>True|.inr r,.inl _=>r=true|_,_=>False):=by
 subst h;unfold Old.c0u m03
 (try simp only[nr]);repeat' first|exact Ref.some rfl|exact Ref.some trivial|infer_instance|(refine Ref.Y1 (fun h=>?_) (fun h=>?_)<;>try simp only[h,nr])|(refine Ref.bind (R:=Eq) ?_ ?_;infer_instance;intro a b e;cases e;try simp only[nr])|fail
theorem y0H {x:C0}:Ref (Old.b09 F x l) (b09 F x l) Eq:=by
 unfold Old.b09 b09;refine Ref.bind (Ref.iter w0B _ _ _ rfl) ?_
 rintro(_|r) (_|_) h
 ·exact h.elim
 ·exact Ref.some rfl
 ·cases h;exact Ref.some rfl
 ·exact h.elim
attribute [instance] y0H
def A0s (a:(List Int×Int)⊕List Int)(b:Unit⊕(List Int×Int)):Prop:=match a,b with
 |.inl x,.inr y=>x=y
 |.inr r,.inl _=>r=[]
 |_,_=>False
theorem D0u (s c:List Int×Int×Int)(h:s=c):Ref (Old.d0Y F l s) (k0U F l c) (W6 Eq A0s):=by
 obtain⟨a,i,j⟩:=s;subst h;unfold Old.d0Y k0U
 (try simp only[nr]);repeat' first|exact Ref.some rfl|exact Ref.some trivial|infer_instance|(refine Ref.Y1 (fun h=>?_) (fun h=>?_)<;>try simp only[h,nr])|(refine Ref.bind (R:=Eq) ?_ ?_;infer_instance;intro a b e;cases e;try simp only[nr])|fail
theorem q09:Ref (Old.R8 F l) (R8 F l) Eq:=by
 unfold Old.R8 R8;simp only[nr];refine Ref.Y1 (fun h=>?_) (fun h=>?_)<;>simp only[h,if_true,if_false]
 ·exact Ref.some rfl
 ·refine Ref.Y1 (fun h=>?_) (fun h=>?_)<;>(try simp only[h,if_true,if_false])
  ·exact Ref.some rfl
  ·refine Ref.bind (Ref.iter D0u _ _ _ rfl) ?_
   rintro(⟨a,i⟩|r) (_|⟨b,j⟩) e
   ·exact e.elim
   ·cases e;(try simp only[nr]);repeat' first|exact Ref.some rfl|exact Ref.some trivial|infer_instance|(refine Ref.Y1 (fun h=>?_) (fun h=>?_)<;>try simp only[h,nr])|(refine Ref.bind (R:=Eq) ?_ ?_;infer_instance;intro a b e;cases e;try simp only[nr])|fail
   ·cases e;exact Ref.some rfl
   ·exact e.elim
attribute [instance] q09
theorem g0k:Ref (Old.c7 F l) (c7 F l) Eq:=by
 unfold Old.c7 c7
 (try simp only[nr]);repeat' first|exact Ref.some rfl|exact Ref.some trivial|infer_instance|(refine Ref.Y1 (fun h=>?_) (fun h=>?_)<;>try simp only[h,nr])|(refine Ref.bind (R:=Eq) ?_ ?_;infer_instance;intro a b e;cases e;try simp only[nr])|fail
attribute [instance] g0k
theorem z0q (s:List Bool×Int)(c:Int×List Bool)(h:Sw s c):Ref (Old.d09 F l s) (m0w F l c) (W6 Sw Eq):=by
 obtain⟨a,i⟩:=s;subst h;unfold Old.d09 m0w
 (try simp only[nr]);repeat' first|exact Ref.some rfl|exact Ref.some trivial|infer_instance|(refine Ref.Y1 (fun h=>?_) (fun h=>?_)<;>try simp only[h,nr])|(refine Ref.bind (R:=Eq) ?_ ?_;infer_instance;intro a b e;cases e;try simp only[nr])|fail
theorem A0N:Ref (Old.a0T F l) (a0T F l) Eq:=by
 unfold Old.a0T a0T
 (try simp only[nr]);repeat' first|exact Ref.some rfl|exact Ref.some trivial|infer_instance|(refine Ref.Y1 (fun h=>?_) (fun h=>?_)<;>try simp only[h,nr])|(refine Ref.bind (R:=Eq) ?_ ?_;infer_instance;intro a b e;cases e;try simp only[nr])|fail
 exact Ref.iter z0q _ _ _ rfl
attribute [instance] A0N
theorem z0E {c:List Bool}:∀{k:Nat} {q:Int} {o:List Int},Ref (Old.X6 F k l c q o) (X6 F k l c q o) Eq:=by
 intro k
 induction k with
 |zero=>intro q o;exact Ref.none
 |succ k ih=>
  intro q o;unfold Old.X6 X6
  (try simp only[nr]);repeat' (first|exact Ref.some rfl|exact ih|infer_instance|(refine Ref.Y1 (fun h=>?_) (fun h=>?_)<;>try simp only[h,nr])|(refine Ref.bind (R:=Eq) ?_ ?_;(first|exact ih|infer_instance);intro b b_ a;cases a;try simp only[nr])|fail)
attribute [instance] z0E
theorem v0c {q:Int}:Ref (Old.a0f F l q) (a0f F l q) Eq:=by
 unfold Old.a0f a0f
 (try simp only[nr]);repeat' first|exact Ref.some rfl|exact Ref.some trivial|infer_instance|(refine Ref.Y1 (fun h=>?_) (fun h=>?_)<;>try simp only[h,nr])|(refine Ref.bind (R:=Eq) ?_ ?_;infer_instance;intro a b e;cases e;try simp only[nr])|fail
attribute [instance] v0c
theorem z0C (s:List Int×Int)(c:Int×List Int)(h:Sw s c):Ref (Old.e0n F l s) (o0s F l c) (W6 Sw Eq):=by
 obtain⟨a,i⟩:=s;subst h;unfold Old.e0n o0s
 (try simp only[nr]);repeat' first|exact Ref.some rfl|exact Ref.some trivial|infer_instance|(refine Ref.Y1 (fun h=>?_) (fun h=>?_)<;>try simp only[h,nr])|(refine Ref.bind (R:=Eq) ?_ ?_;infer_instance;intro a b e;cases e;try simp only[nr])|fail
theorem q0g:Ref (Old.S9 F l) (S9 F l) Eq:=by
 unfold Old.S9 S9
 (try simp only[nr]);repeat' first|exact Ref.some rfl|exact Ref.some trivial|infer_instance|(refine Ref.Y1 (fun h=>?_) (fun h=>?_)<;>try simp only[h,nr])|(refine Ref.bind (R:=Eq) ?_ ?_;infer_instance;intro a b e;cases e;try simp only[nr])|fail
 exact Ref.iter z0C _ _ _ rfl
attribute [instance] q0g
theorem E0y {up:List Int}(s:List Int×Int)(c:Int×List Int)(h:Sw s c):Ref (Old.f0P F up s) (o0V F up c) (W6 Sw Eq):=by
 obtain⟨a,i⟩:=s;subst h;unfold Old.f0P o0V
 (try simp only[nr]);repeat' first|exact Ref.some rfl|exact Ref.some trivial|infer_instance|(refine Ref.Y1 (fun h=>?_) (fun h=>?_)<;>try simp only[h,nr])|(refine Ref.bind (R:=Eq) ?_ ?_;infer_instance;intro a b e;cases e;try simp only[nr])|fail
theorem u0T:Ref (Old.a0w F l) (a0w F l) Eq:=by
 unfold Old.a0w a0w
 (try simp only[nr]);repeat' first|exact Ref.some rfl|exact Ref.some trivial|infer_instance|(refine Ref.Y1 (fun h=>?_) (fun h=>?_)<;>try simp only[h,nr])|(refine Ref.bind (R:=Eq) ?_ ?_;infer_instance;intro a b e;cases e;try simp only[nr])|fail
 exact Ref.iter E0y _ _ _ rfl
attribute [instance] u0T
theorem A0u (s c:List Int×Int)(h:s=c):Ref (Old.e0U F l s) (o0x F l c) (W6 Eq Eq):=by
 obtain⟨a,i⟩:=s;subst h;unfold Old.e0U o0x
 (try simp only[nr]);repeat' first|exact Ref.some rfl|exact Ref.some trivial|infer_instance|(refine Ref.Y1 (fun h=>?_) (fun h=>?_)<;>try simp only[h,nr])|(refine Ref.bind (R:=Eq) ?_ ?_;infer_instance;intro a b e;cases e;try simp only[nr])|fail
theorem u0E:Ref (Old.K7 F l) (K7 F l) Eq:=by
 unfold Old.K7 K7
 (try simp only[nr]);repeat' first|exact Ref.some rfl|exact Ref.some trivial|infer_instance|(refine Ref.Y1 (fun h=>?_) (fun h=>?_)<;>try simp only[h,nr])|(refine Ref.bind (R:=Eq) ?_ ?_;infer_instance;intro a b e;cases e;try simp only[nr])|fail
 exact Ref.iter A0u _ _ _ rfl
attribute [instance] u0E
theorem F0p {x:Int}(d:x=((List.replicate (Int.toNat (l.length:Int)) (0:Int)).length:Int))(s:List Int×Int)(c:Int×List Int)(h:Sw s c):Ref (Old.f0G F l s) (k04 F x c) (W6 Sw Eq):=by
 obtain⟨a,i⟩:=s;subst h;subst d;unfold Old.f0G k04
 (try simp only[nr]);repeat' first|exact Ref.some rfl|exact Ref.some trivial|infer_instance|(refine Ref.Y1 (fun h=>?_) (fun h=>?_)<;>try simp only[h,nr])|(refine Ref.bind (R:=Eq) ?_ ?_;infer_instance;intro a b e;cases e;try simp only[nr])|fail
theorem x05 {y x:List Int}(s:List Int×Int)(c:Int×List Int)(h:Sw s c):Ref (Old.f0d F y x s) (l0v F x c) (W6 Sw Eq):=by
 obtain⟨a,i⟩:=s;subst h;unfold Old.f0d l0v
 (try simp only[nr]);repeat' first|exact Ref.some rfl|exact Ref.some trivial|infer_instance|(refine Ref.Y1 (fun h=>?_) (fun h=>?_)<;>try simp only[h,nr])|(refine Ref.bind (R:=Eq) ?_ ?_;infer_instance;intro a b e;cases e;try simp only[nr])|fail
theorem F0m:Ref (Old.b0K F l) (b0K F l) Eq:=by
 unfold Old.b0K b0K
 (try simp only[nr]);repeat' first|exact Ref.some rfl|exact Ref.some trivial|infer_instance|(refine Ref.Y1 (fun h=>?_) (fun h=>?_)<;>try simp only[h,nr])|(refine Ref.bind (R:=Eq) ?_ ?_;infer_instance;intro a b e;cases e;try simp only[nr])|fail
 refine Ref.bind (Ref.iter (F0p rfl) _ _ _ rfl) ?_
 rintro a _ rfl
 (try simp only[nr]);repeat' first|exact Ref.some rfl|exact Ref.some trivial|infer_instance|(refine Ref.Y1 (fun h=>?_) (fun h=>?_)<;>try simp only[h,nr])|(refine Ref.bind (R:=Eq) ?_ ?_;infer_instance;intro a b e;cases e;try simp only[nr])|fail
 exact Ref.iter x05 _ _ _ rfl
attribute [instance] F0m
def toS {α:Type}:Option α->Unit⊕α
 |none=>.inl ()
 |some a=>.inr a
theorem u0R:Ref (Old.a0Z F l) (a0Z F l) (fun a b=>b=(toS a.1,a.2)):=by
 unfold Old.a0Z a0Z
 (try simp only[nr]);repeat' first|exact Ref.some rfl|exact Ref.some trivial|infer_instance|(refine Ref.Y1 (fun h=>?_) (fun h=>?_)<;>try simp only[h,nr])|(refine Ref.bind (R:=Eq) ?_ ?_;infer_instance;intro a b e;cases e;try simp only[nr])|fail
theorem q0a {p:Int}:Ref (Old.a0S F l p) (a0S F l p) (fun a b=>b=(toS a.1,a.2)):=by
 unfold Old.a0S a0S;simp only[nr];refine Ref.bind u0R ?_
 rintro⟨_|c,ok⟩ _ rfl
 all_goals
  simp only[toS,G0]
  (try simp only[nr]);repeat' first|exact Ref.some rfl|exact Ref.some trivial|infer_instance|(refine Ref.Y1 (fun h=>?_) (fun h=>?_)<;>try simp only[h,nr])|(refine Ref.bind (R:=Eq) ?_ ?_;infer_instance;intro a b e;cases e;try simp only[nr])|fail
theorem B0x {a b:List Int}:Ref (Old.I8 F a b) (I8 F a b) Eq:=by
 unfold Old.I8 I8;simp only[Nat.le_refl,Int.le_refl,decide_true,Bool.and_self,Bool.and_true,Bool.true_and,if_true]
 (try simp only[nr]);repeat' first|exact Ref.some rfl|exact Ref.some trivial|infer_instance|(refine Ref.Y1 (fun h=>?_) (fun h=>?_)<;>try simp only[h,nr])|(refine Ref.bind (R:=Eq) ?_ ?_;infer_instance;intro a b e;cases e;try simp only[nr])|fail
attribute [instance] B0x
theorem x0A {c:U4}:∀{k:Nat} {q:Int} {o:List Int} {h:List y0},Ref (Old.e6 F k c q o h) (e6 F k c q o h) Eq:=by
 intro k
 induction k with
 |zero=>intro q o h;exact Ref.none
 |succ k ih=>
  intro q o h;unfold Old.e6 e6
  (try simp only[nr]);repeat' (first|exact Ref.some rfl|exact ih|infer_instance|(refine Ref.Y1 (fun h=>?_) (fun h=>?_)<;>try simp only[h,nr])|(refine Ref.bind (R:=Eq) ?_ ?_;(first|exact ih|infer_instance);intro b b_ a;cases a;try simp only[nr])|fail)
attribute [instance] x0A
theorem F0v {Q0 out:List y0}{x:Int}(s c:Int)(h:s=c):Ref (Old.d01 F out (gt Q0 x) s) (l0q F Q0 out x c) (W6 Eq fun a b=>match a,b with|.inl _,.inr _=>True|.inr a,.inl b=>a=b|_,_=>False):=by
 subst h;unfold Old.d01 l0q Old.o0n
 (try simp only[nr]);repeat' first|exact Ref.some rfl|exact Ref.some trivial|infer_instance|(refine Ref.Y1 (fun h=>?_) (fun h=>?_)<;>try simp only[h,nr])|(refine Ref.bind (R:=Eq) ?_ ?_;infer_instance;intro a b e;cases e;try simp only[nr])|fail
theorem E0l {c:U4}{at_:Int}{f Q0:List y0}(s d:List y0×Int)(h:s=d):Ref (Old.d0H F c at_ f Q0 s) (l0x F c at_ Q0 d) (W6 Eq Eq):=by
 obtain⟨o,i⟩:=s;subst h;unfold Old.d0H l0x Old.j0G Old.l0M;simp only[nr];refine Ref.Y1 (fun h=>?_) (fun h=>?_)<;>simp only[h,if_true,if_false]
 ·refine Ref.Y1 (fun h=>?_) (fun h=>?_)<;>simp only[h,if_true,if_false]
  ·refine Ref.bind (Ref.iter F0v _ _ _ rfl) ?_
   rintro(_|a) (b|_) e
   ·exact e.elim
   ·(try simp only[nr]);repeat' first|exact Ref.some rfl|exact Ref.some trivial|infer_instance|(refine Ref.Y1 (fun h=>?_) (fun h=>?_)<;>try simp only[h,nr])|(refine Ref.bind (R:=Eq) ?_ ?_;infer_instance;intro a b e;cases e;try simp only[nr])|fail
   ·cases e;(try simp only[nr]);repeat' first|exact Ref.some rfl|exact Ref.some trivial|infer_instance|(refine Ref.Y1 (fun h=>?_) (fun h=>?_)<;>try simp only[h,nr])|(refine Ref.bind (R:=Eq) ?_ ?_;infer_instance;intro a b e;cases e;try simp only[nr])|fail
   ·exact e.elim
  ·exact Ref.none
 ·exact Ref.some rfl
theorem D0t {c:U4}{at_ goal:Int}{o:List Int}{h:List y0}:Ref (Old.a01 F c at_ goal o h) (a01 F c at_ goal o h) Eq:=by
 unfold Old.a01 a01
 (try simp only[nr]);repeat' first|exact Ref.some rfl|exact Ref.some trivial|infer_instance|(refine Ref.Y1 (fun h=>?_) (fun h=>?_)<;>try simp only[h,nr])|(refine Ref.bind (R:=Eq) ?_ ?_;infer_instance;intro a b e;cases e;try simp only[nr])|fail
 exact Ref.iter E0l _ _ _ rfl
attribute [instance] D0t
def ClR (a:(List Int×List y0)⊕(List y0×List Int))(b:List y0⊕(List Int×List y0)):Prop:=match a,b with
 |.inl x,.inr y=>x=y
 |.inr r,.inl x=>r=(x,[])
 |_,_=>False
theorem D0q {c:U4}{q:Int}(s f:Int×List Int×List y0×Int)(h:s=f):Ref (Old.b0G F c q s) (k0S F c f) (W6 Eq ClR):=by
 obtain⟨a,b,d,e⟩:=s;subst h;unfold Old.b0G k0S
 (try simp only[nr]);repeat' first|exact Ref.some rfl|exact Ref.some trivial|infer_instance|(refine Ref.Y1 (fun h=>?_) (fun h=>?_)<;>try simp only[h,nr])|(refine Ref.bind (R:=Eq) ?_ ?_;infer_instance;intro a b e;cases e;try simp only[nr])|fail
theorem y0B {c:U4}{q:Int}:Ref (Old.a00 F c q) (a00 F c q) Eq:=by
 unfold Old.a00 a00;refine Ref.Y1 (fun h=>?_) (fun h=>?_)<;>simp only[h,if_true,if_false]
 ·refine Ref.bind (Ref.iter D0q _ _ _ rfl) ?_
  rintro(⟨a,b⟩|r) (x|⟨y,z⟩) e
  ·exact e.elim
  ·cases e;(try simp only[nr]);repeat' first|exact Ref.some rfl|exact Ref.some trivial|infer_instance|(refine Ref.Y1 (fun h=>?_) (fun h=>?_)<;>try simp only[h,nr])|(refine Ref.bind (R:=Eq) ?_ ?_;infer_instance;intro a b e;cases e;try simp only[nr])|fail
  ·cases e;(try simp only[nr]);repeat' first|exact Ref.some rfl|exact Ref.some trivial|infer_instance|(refine Ref.Y1 (fun h=>?_) (fun h=>?_)<;>try simp only[h,nr])|(refine Ref.bind (R:=Eq) ?_ ?_;infer_instance;intro a b e;cases e;try simp only[nr])|fail
  ·exact e.elim
 ·exact Ref.none
attribute [instance] y0B
theorem j0d {p:Int}:Ref (Old.J9 F l p) (J9 F l p) Eq:=by
 unfold Old.J9 J9;simp only[nr];refine Ref.Y1 (fun h=>?_) (fun h=>?_)<;>simp only[h,if_true,if_false]
 ·(try simp only[nr]);repeat' first|exact Ref.some rfl|exact Ref.some trivial|infer_instance|(refine Ref.Y1 (fun h=>?_) (fun h=>?_)<;>try simp only[h,nr])|(refine Ref.bind (R:=Eq) ?_ ?_;infer_instance;intro a b e;cases e;try simp only[nr])|fail
 ·refine Ref.bind q0a ?_
  rintro⟨_|c,q,ok⟩ _ rfl
  all_goals
   simp only[toS]
   (try simp only[nr]);repeat' first|exact Ref.some rfl|exact Ref.some trivial|infer_instance|(refine Ref.Y1 (fun h=>?_) (fun h=>?_)<;>try simp only[h,nr])|(refine Ref.bind (R:=Eq) ?_ ?_;infer_instance;intro a b e;cases e;try simp only[nr])|fail
theorem F0a {h:List y0}(s:List y0×Int)(c:Int×List y0)(e:Sw s c):Ref (Old.f0o F h s) (l0p F h c) (W6 Sw Eq):=by
 obtain⟨a,i⟩:=s;subst e;unfold Old.f0o l0p
 (try simp only[nr]);repeat' first|exact Ref.some rfl|exact Ref.some trivial|infer_instance|(refine Ref.Y1 (fun h=>?_) (fun h=>?_)<;>try simp only[h,nr])|(refine Ref.bind (R:=Eq) ?_ ?_;infer_instance;intro a b e;cases e;try simp only[nr])|fail
theorem C0s {h:List y0}:Ref (Old.a0H F h) (a0H F h) Eq:=by
 unfold Old.a0H a0H
 (try simp only[nr]);repeat' first|exact Ref.some rfl|exact Ref.some trivial|infer_instance|(refine Ref.Y1 (fun h=>?_) (fun h=>?_)<;>try simp only[h,nr])|(refine Ref.bind (R:=Eq) ?_ ?_;infer_instance;intro a b e;cases e;try simp only[nr])|fail
 exact Ref.iter F0a _ _ _ rfl
attribute [instance] C0s
theorem q0Y {q:Int}:Ref (Old.b0O F l q) (b0O F l q) Eq:=by
 unfold Old.b0O b0O;simp only[nr];refine Ref.bind u0R ?_
 rintro⟨_|c,ok⟩ _ rfl
 all_goals
  simp only[toS]
  (try simp only[nr]);repeat' first|exact Ref.some rfl|exact Ref.some trivial|infer_instance|(refine Ref.Y1 (fun h=>?_) (fun h=>?_)<;>try simp only[h,nr])|(refine Ref.bind (R:=Eq) ?_ ?_;infer_instance;intro a b e;cases e;try simp only[nr])|fail
theorem t0d {p:Int}:Ref (Old.a06 F l p) (a06 F l p) Eq:=by
 unfold Old.a06 a06 o02;simp only[nr];refine Ref.bind q0a ?_
 rintro⟨_|c,q,ok⟩ _ rfl
 all_goals
  simp only[toS]
  (try simp only[nr]);repeat' first|exact Ref.some rfl|exact Ref.some trivial|infer_instance|(refine Ref.Y1 (fun h=>?_) (fun h=>?_)<;>try simp only[h,nr])|(refine Ref.bind (R:=Eq) ?_ ?_;infer_instance;intro a b e;cases e;try simp only[nr])|fail
end
