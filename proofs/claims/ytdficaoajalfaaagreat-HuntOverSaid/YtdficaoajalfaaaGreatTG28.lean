/- When one reckoning follows another. The newer forms follow the older ones. Its conditions: none. -/
import Derived.Test.YtdficaoajalfaaaGreatTOm
set_option linter.all false
namespace Go.Proofs.YtdficaoajalfaaaGreat
open Go.V Go.RowKit
class Ref {α β:Type} (o:Option α) (n:Option β) (R:α->β->Prop):Prop where
 run:∀ a,o=some a->∃ b,n=some b/\R a b
def CtlR {σ σ' τ τ':Type} (I:σ->σ'->Prop) (R:τ->τ'->Prop):Ctl σ τ->Ctl σ' τ'->Prop
 |.next s,.next s'=>I s s'
 |.done t,.done t'=>R t t'
 |_,_=>False
section
variable {α β γ δ σ σ' τ τ':Type}
theorem Ref.none {n:Option β} {R:α->β->Prop}:Ref Option.none n R:=⟨fun _ h=>by cases h⟩
theorem Ref.some {a:α} {b:β} {R:α->β->Prop} (h:R a b):Ref (Option.some a) (Option.some b) R:=⟨fun _ e=>by cases e;exact ⟨b,rfl,h⟩⟩
theorem Ref.bind {o:Option α} {n:Option β} {R:α->β->Prop} {f:α->Option γ} {g:β->Option δ} {S:γ->δ->Prop} (h:Ref o n R) (hf:∀ a b,R a b->Ref (f a) (g b) S):Ref (Option.bind o f) (Option.bind n g) S:=by
 refine ⟨fun c hc=>?_⟩
 cases o with
 |none=>cases hc
 |
  some a=>
  obtain ⟨b,rfl,hR⟩:=h.run a rfl
  exact (hf a b hR).run c hc
theorem Ref.ite {c:Prop} [Decidable c] {o o':Option α} {n n':Option β} {R:α->β->Prop} (h:c->Ref o n R) (h':¬ c->Ref o' n' R):Ref (if c then o else o') (if c then n else n') R:=by
 by_cases e:c
 ·rw [if_pos e,if_pos e];exact h e
 ·rw [if_neg e,if_neg e];exact h' e
theorem Ref.iteL {c:Prop} [Decidable c] {o o':Option α} {n:Option β} {R:α->β->Prop} (h:c->Ref o n R) (h':¬ c->Ref o' n R):Ref (if c then o else o') n R:=by
 by_cases e:c
 ·rw [if_pos e];exact h e
 ·rw [if_neg e];exact h' e
theorem Ref.iter {I:σ->σ'->Prop} {R:τ->τ'->Prop} {f:σ->Option (Ctl σ τ)} {f':σ'->Option (Ctl σ' τ')} (h:∀ s s',I s s'->Ref (f s) (f' s') (CtlR I R)):∀ (k:Nat) (s:σ) (s':σ'),I s s'->Ref (iter f k s) (iter f' k s') R:=by
 intro k
 induction k with
 |zero=>intro s s' _;exact ⟨fun a ha=>by cases ha⟩
 |
  succ k ih=>
  intro s s' hI
  refine ⟨fun a ha=>?_⟩
  have hs:=h s s' hI
  unfold Go.V.iter at ha ⊢
  cases e:f s with
  |none=>rw [e] at ha;cases ha
  |
   some c=>
   obtain ⟨c',e',hc⟩:=hs.run c e
   rw [e] at ha;rw [e']
   cases c<;>cases c'<;>first | exact hc.elim | skip
   ·exact (ih _ _ hc).run a ha
   ·cases ha;exact ⟨_,rfl,hc⟩
end
theorem nr:(∀ {α β:Type} {c:Prop} {h:Decidable c} {a b:Option α} {f:α->Option β},Option.bind (@ite (Option α) c h a b) f=@ite (Option β) c h (Option.bind a f) (Option.bind b f))/\(∀ {α β:Type} (a:α) (f:α->Option β),Option.bind (some a) f=f a)/\(∀ {α β:Type} (f:α->Option β),Option.bind none f=none)/\
  (∀ {α β γ:Type} (o:Option α) (f:α->Option β) (g:β->Option γ),Option.bind (Option.bind o f) g=Option.bind o fun a=>Option.bind (f a) g)/\(∀ {α:Type} (o:Option α),(Option.bind o fun x=>some x)=o)/\(∀ {α:Type} {h:Decidable True} (a b:α),@ite α True h a b=a)/\(∀ {α:Type} {h:Decidable False} (a b:α),@ite α False h a b=b)/\
  ((¬ True)=False)/\((¬ False)=True)/\((false=true)=False):=
 ⟨by intro α β c h a b f;split<;>rfl,fun _ _=>rfl,fun _=>rfl,fun o _ _=>by cases o<;>rfl,fun o=>by cases o<;>rfl,fun _ _=>if_pos trivial,fun _ _=>if_neg id,by simp,by simp,by simp⟩
theorem a_0 {α β:Type} (a:α) (f:α->Option β):Option.bind (some a) f=f a:=rfl
theorem i_2 {α:Type} (o:Option α):(Option.bind o fun x=>some x)=o:=by cases o<;>rfl
def Sw {α β:Type} (s:α×β) (s':β×α):Prop:=s'=(s.2,s.1)
section
variable {F:Nat} {l:List a_2}
theorem b_tz {a:List Int} {i:Int}:Ref (Old.a_fu F l a i) (a_fu F l a i) Eq:=by
 unfold Old.a_fu a_fu
 (try simp only [nr]);repeat' first | exact Ref.none | exact Ref.some rfl | exact Ref.some trivial | infer_instance | (refine Ref.iteL (fun h=>?_) (fun h=>?_)<;>try simp only [h,nr]) | (refine Ref.bind (R:=Eq) ?_ ?_;infer_instance;intro a b e;cases e;try simp only [nr]) | fail
attribute [instance] b_tz
theorem b_sc {x:a_2}:Ref (Old.a_bd F x) (a_bd F x) Eq:=by
 unfold Old.a_bd a_bd
 (try simp only [nr]);repeat' first | exact Ref.none | exact Ref.some rfl | exact Ref.some trivial | infer_instance | (refine Ref.iteL (fun h=>?_) (fun h=>?_)<;>try simp only [h,nr]) | (refine Ref.bind (R:=Eq) ?_ ?_;infer_instance;intro a b e;cases e;try simp only [nr]) | fail
attribute [instance] b_sc
theorem b_pi {x:a_2} (s s':Int) (h:s=s'):Ref (Old.t_5 F x l s) (a_1e F x l s') (CtlR Eq fun a b=>match a,b with | .inl _,.inr _=>True | .inr r,.inl _=>r=true | _,_=>False):=by
 subst h
 unfold Old.t_5 a_1e
 (try simp only [nr]);repeat' first | exact Ref.none | exact Ref.some rfl | exact Ref.some trivial | infer_instance | (refine Ref.iteL (fun h=>?_) (fun h=>?_)<;>try simp only [h,nr]) | (refine Ref.bind (R:=Eq) ?_ ?_;infer_instance;intro a b e;cases e;try simp only [nr]) | fail
theorem b_sx {x:a_2}:Ref (Old.a_c3 F x l) (a_c3 F x l) Eq:=by
 unfold Old.a_c3 a_c3
 refine Ref.bind (Ref.iter b_pi _ _ _ rfl) ?_
 rintro (_ | r) (_ | _) h
 ·exact h.elim
 ·exact Ref.some rfl
 ·cases h;exact Ref.some rfl
 ·exact h.elim
attribute [instance] b_sx
def LowR (a:(List Int×Int) ⊕ List Int) (b:Unit ⊕ (List Int×Int)):Prop:=match a,b with
 |.inl x,.inr y=>x=y
 |.inr r,.inl _=>r=[]
 |_,_=>False
theorem b_om (s s':List Int×Int×Int) (h:s=s'):Ref (Old.y_1 F l s) (a_ls F l s') (CtlR Eq LowR):=by
 obtain ⟨a,i,j⟩:=s;subst h
 unfold Old.y_1 a_ls
 (try simp only [nr]);repeat' first | exact Ref.none | exact Ref.some rfl | exact Ref.some trivial | infer_instance | (refine Ref.iteL (fun h=>?_) (fun h=>?_)<;>try simp only [h,nr]) | (refine Ref.bind (R:=Eq) ?_ ?_;infer_instance;intro a b e;cases e;try simp only [nr]) | fail
theorem b_mn:Ref (Old.k_5 F l) (k_5 F l) Eq:=by
 unfold Old.k_5 k_5
 simp only [nr]
 refine Ref.iteL (fun h=>?_) (fun h=>?_)<;>simp only [h,if_true,if_false]
 ·exact Ref.some rfl
 ·refine Ref.iteL (fun h=>?_) (fun h=>?_)<;>(try simp only [h,if_true,if_false])
  ·exact Ref.some rfl
  ·refine Ref.bind (Ref.iter b_om _ _ _ rfl) ?_
   rintro (⟨a,i⟩ | r) (_ | ⟨b,j⟩) e
   ·exact e.elim
   ·cases e;(try simp only [nr]);repeat' first | exact Ref.none | exact Ref.some rfl | exact Ref.some trivial | infer_instance | (refine Ref.iteL (fun h=>?_) (fun h=>?_)<;>try simp only [h,nr]) | (refine Ref.bind (R:=Eq) ?_ ?_;infer_instance;intro a b e;cases e;try simp only [nr]) | fail
   ·cases e;exact Ref.some rfl
   ·exact e.elim
attribute [instance] b_mn
theorem a_q5:Ref (Old.f_3 F l) (f_3 F l) Eq:=by
 unfold Old.f_3 f_3
 (try simp only [nr]);repeat' first | exact Ref.none | exact Ref.some rfl | exact Ref.some trivial | infer_instance | (refine Ref.iteL (fun h=>?_) (fun h=>?_)<;>try simp only [h,nr]) | (refine Ref.bind (R:=Eq) ?_ ?_;infer_instance;intro a b e;cases e;try simp only [nr]) | fail
attribute [instance] a_q5
theorem b_so (s:List Bool×Int) (s':Int×List Bool) (h:Sw s s'):Ref (Old.a_d3 F l s) (a_5j F l s') (CtlR Sw Eq):=by
 obtain ⟨a,i⟩:=s;subst h
 unfold Old.a_d3 a_5j
 (try simp only [nr]);repeat' first | exact Ref.none | exact Ref.some rfl | exact Ref.some trivial | infer_instance | (refine Ref.iteL (fun h=>?_) (fun h=>?_)<;>try simp only [h,nr]) | (refine Ref.bind (R:=Eq) ?_ ?_;infer_instance;intro a b e;cases e;try simp only [nr]) | fail
theorem b_t1:Ref (Old.a_b8 F l) (a_b8 F l) Eq:=by
 unfold Old.a_b8 a_b8
 (try simp only [nr]);repeat' first | exact Ref.none | exact Ref.some rfl | exact Ref.some trivial | infer_instance | (refine Ref.iteL (fun h=>?_) (fun h=>?_)<;>try simp only [h,nr]) | (refine Ref.bind (R:=Eq) ?_ ?_;infer_instance;intro a b e;cases e;try simp only [nr]) | fail
 exact Ref.iter b_so _ _ _ rfl
attribute [instance] b_t1
theorem b_tr {c:List Bool}:∀ {k:Nat} {q:Int} {o:List Int},Ref (Old.h_0 F k l c q o) (h_0 F k l c q o) Eq:=by
 intro k
 induction k with
 |zero=>intro q o;exact Ref.none
 |
  succ k ih=>
  intro q o
  unfold Old.h_0 h_0
  (try simp only [nr]);repeat' (first | exact Ref.none | exact Ref.some rfl | exact ih | infer_instance | (refine Ref.iteL (fun h=>?_) (fun h=>?_)<;>try simp only [h,nr]) | (refine Ref.bind (R:=Eq) ?_ ?_;(first | exact ih | infer_instance);intro a_ b_ e_;cases e_;try simp only [nr]) | fail)
attribute [instance] b_tr
theorem b_sr {q:Int}:Ref (Old.q_9 F l q) (q_9 F l q) Eq:=by
 unfold Old.q_9 q_9
 (try simp only [nr]);repeat' first | exact Ref.none | exact Ref.some rfl | exact Ref.some trivial | infer_instance | (refine Ref.iteL (fun h=>?_) (fun h=>?_)<;>try simp only [h,nr]) | (refine Ref.bind (R:=Eq) ?_ ?_;infer_instance;intro a b e;cases e;try simp only [nr]) | fail
attribute [instance] b_sr
theorem b_q2 (s:List Int×Int) (s':Int×List Int) (h:Sw s s'):Ref (Old.a_al F l s) (a_oh F l s') (CtlR Sw Eq):=by
 obtain ⟨a,i⟩:=s;subst h
 unfold Old.a_al a_oh
 (try simp only [nr]);repeat' first | exact Ref.none | exact Ref.some rfl | exact Ref.some trivial | infer_instance | (refine Ref.iteL (fun h=>?_) (fun h=>?_)<;>try simp only [h,nr]) | (refine Ref.bind (R:=Eq) ?_ ?_;infer_instance;intro a b e;cases e;try simp only [nr]) | fail
theorem b_Up:Ref (Old.q_0 F l) (q_0 F l) Eq:=by
 unfold Old.q_0 q_0
 (try simp only [nr]);repeat' first | exact Ref.none | exact Ref.some rfl | exact Ref.some trivial | infer_instance | (refine Ref.iteL (fun h=>?_) (fun h=>?_)<;>try simp only [h,nr]) | (refine Ref.bind (R:=Eq) ?_ ?_;infer_instance;intro a b e;cases e;try simp only [nr]) | fail
 exact Ref.iter b_q2 _ _ _ rfl
attribute [instance] b_Up
theorem b_k7 {up:List Int} (s:List Int×Int) (s':Int×List Int) (h:Sw s s'):Ref (Old.a_ad F up s) (a_j2 F up s') (CtlR Sw Eq):=by
 obtain ⟨a,i⟩:=s;subst h
 unfold Old.a_ad a_j2
 (try simp only [nr]);repeat' first | exact Ref.none | exact Ref.some rfl | exact Ref.some trivial | infer_instance | (refine Ref.iteL (fun h=>?_) (fun h=>?_)<;>try simp only [h,nr]) | (refine Ref.bind (R:=Eq) ?_ ?_;infer_instance;intro a b e;cases e;try simp only [nr]) | fail
theorem b_g0:Ref (Old.m_4 F l) (m_4 F l) Eq:=by
 unfold Old.m_4 m_4
 (try simp only [nr]);repeat' first | exact Ref.none | exact Ref.some rfl | exact Ref.some trivial | infer_instance | (refine Ref.iteL (fun h=>?_) (fun h=>?_)<;>try simp only [h,nr]) | (refine Ref.bind (R:=Eq) ?_ ?_;infer_instance;intro a b e;cases e;try simp only [nr]) | fail
 exact Ref.iter b_k7 _ _ _ rfl
attribute [instance] b_g0
theorem b_f6 (s s':List Int×Int) (h:s=s'):Ref (Old.p_5 F l s) (a_gf F l s') (CtlR Eq Eq):=by
 obtain ⟨a,i⟩:=s;subst h
 unfold Old.p_5 a_gf
 (try simp only [nr]);repeat' first | exact Ref.none | exact Ref.some rfl | exact Ref.some trivial | infer_instance | (refine Ref.iteL (fun h=>?_) (fun h=>?_)<;>try simp only [h,nr]) | (refine Ref.bind (R:=Eq) ?_ ?_;infer_instance;intro a b e;cases e;try simp only [nr]) | fail
theorem a_7u:Ref (Old.f_1 F l) (f_1 F l) Eq:=by
 unfold Old.f_1 f_1
 (try simp only [nr]);repeat' first | exact Ref.none | exact Ref.some rfl | exact Ref.some trivial | infer_instance | (refine Ref.iteL (fun h=>?_) (fun h=>?_)<;>try simp only [h,nr]) | (refine Ref.bind (R:=Eq) ?_ ?_;infer_instance;intro a b e;cases e;try simp only [nr]) | fail
 exact Ref.iter b_f6 _ _ _ rfl
attribute [instance] a_7u
theorem b_l4 {x:Int} (hx:x=((List.replicate (Int.toNat (l.length:Int)) (0:Int)).length:Int)) (s:List Int×Int) (s':Int×List Int) (h:Sw s s'):Ref (Old.a_dk F l s) (a_zv F x s') (CtlR Sw Eq):=by
 obtain ⟨a,i⟩:=s;subst h;subst hx
 unfold Old.a_dk a_zv
 (try simp only [nr]);repeat' first | exact Ref.none | exact Ref.some rfl | exact Ref.some trivial | infer_instance | (refine Ref.iteL (fun h=>?_) (fun h=>?_)<;>try simp only [h,nr]) | (refine Ref.bind (R:=Eq) ?_ ?_;infer_instance;intro a b e;cases e;try simp only [nr]) | fail
theorem b_l1 {y x:List Int} (s:List Int×Int) (s':Int×List Int) (h:Sw s s'):Ref (Old.a_dh F y x s) (a_ww F x s') (CtlR Sw Eq):=by
 obtain ⟨a,i⟩:=s;subst h
 unfold Old.a_dh a_ww
 (try simp only [nr]);repeat' first | exact Ref.none | exact Ref.some rfl | exact Ref.some trivial | infer_instance | (refine Ref.iteL (fun h=>?_) (fun h=>?_)<;>try simp only [h,nr]) | (refine Ref.bind (R:=Eq) ?_ ?_;infer_instance;intro a b e;cases e;try simp only [nr]) | fail
theorem b_sq:Ref (Old.a_a9 F l) (a_a9 F l) Eq:=by
 unfold Old.a_a9 a_a9
 (try simp only [nr]);repeat' first | exact Ref.none | exact Ref.some rfl | exact Ref.some trivial | infer_instance | (refine Ref.iteL (fun h=>?_) (fun h=>?_)<;>try simp only [h,nr]) | (refine Ref.bind (R:=Eq) ?_ ?_;infer_instance;intro a b e;cases e;try simp only [nr]) | fail
 refine Ref.bind (Ref.iter (b_l4 rfl) _ _ _ rfl) ?_
 rintro a _ rfl
 (try simp only [nr]);repeat' first | exact Ref.none | exact Ref.some rfl | exact Ref.some trivial | infer_instance | (refine Ref.iteL (fun h=>?_) (fun h=>?_)<;>try simp only [h,nr]) | (refine Ref.bind (R:=Eq) ?_ ?_;infer_instance;intro a b e;cases e;try simp only [nr]) | fail
 exact Ref.iter b_l1 _ _ _ rfl
attribute [instance] b_sq
def toS {α:Type}:Option α->Unit ⊕ α
 |none=>.inl ()
 |some a=>.inr a
theorem b_of:Ref (Old.o_4 F l) (o_4 F l) (fun a b=>b=(toS a.1,a.2)):=by
 unfold Old.o_4 o_4
 (try simp only [nr]);repeat' first | exact Ref.none | exact Ref.some rfl | exact Ref.some trivial | infer_instance | (refine Ref.iteL (fun h=>?_) (fun h=>?_)<;>try simp only [h,nr]) | (refine Ref.bind (R:=Eq) ?_ ?_;infer_instance;intro a b e;cases e;try simp only [nr]) | fail
theorem b_at {p:Int}:Ref (Old.o_5 F l p) (o_5 F l p) (fun a b=>b=(toS a.1,a.2)):=by
 unfold Old.o_5 o_5
 simp only [nr]
 refine Ref.bind b_of ?_
 rintro ⟨_ | c,ok⟩ _ rfl
 all_goals
  simp only [toS,a_0]
  (try simp only [nr]);repeat' first | exact Ref.none | exact Ref.some rfl | exact Ref.some trivial | infer_instance | (refine Ref.iteL (fun h=>?_) (fun h=>?_)<;>try simp only [h,nr]) | (refine Ref.bind (R:=Eq) ?_ ?_;infer_instance;intro a b e;cases e;try simp only [nr]) | fail
theorem b_ti {a b:List Int}:Ref (Old.j_1 F a b) (j_1 F a b) Eq:=by
 unfold Old.j_1 j_1
 simp only [Nat.le_refl,Int.le_refl,decide_true,Bool.and_self,Bool.and_true,Bool.true_and,if_true]
 (try simp only [nr]);repeat' first | exact Ref.none | exact Ref.some rfl | exact Ref.some trivial | infer_instance | (refine Ref.iteL (fun h=>?_) (fun h=>?_)<;>try simp only [h,nr]) | (refine Ref.bind (R:=Eq) ?_ ?_;infer_instance;intro a b e;cases e;try simp only [nr]) | fail
attribute [instance] b_ti
theorem b_tk {c:d_0}:∀ {k:Nat} {q:Int} {o:List Int} {h:List a_1},Ref (Old.c_7 F k c q o h) (c_7 F k c q o h) Eq:=by
 intro k
 induction k with
 |zero=>intro q o h;exact Ref.none
 |
  succ k ih=>
  intro q o h
  unfold Old.c_7 c_7
  (try simp only [nr]);repeat' (first | exact Ref.none | exact Ref.some rfl | exact ih | infer_instance | (refine Ref.iteL (fun h=>?_) (fun h=>?_)<;>try simp only [h,nr]) | (refine Ref.bind (R:=Eq) ?_ ?_;(first | exact ih | infer_instance);intro a_ b_ e_;cases e_;try simp only [nr]) | fail)
attribute [instance] b_tk
theorem b_pv {c_5 out:List a_1} {x:Int} (s s':Int) (h:s=s'):Ref (Old.d_9 F out (gt c_5 x) s) (a_o2 F c_5 out x s') (CtlR Eq fun a b=>match a,b with | .inl _,.inr _=>True | .inr a,.inl b=>a=b | _,_=>False):=by
 subst h
 unfold Old.d_9 a_o2 Old.a_gs
 (try simp only [nr]);repeat' first | exact Ref.none | exact Ref.some rfl | exact Ref.some trivial | infer_instance | (refine Ref.iteL (fun h=>?_) (fun h=>?_)<;>try simp only [h,nr]) | (refine Ref.bind (R:=Eq) ?_ ?_;infer_instance;intro a b e;cases e;try simp only [nr]) | fail
theorem b_kc {c:d_0} {at_:Int} {p4 c_5:List a_1} (s s':List a_1×Int) (h:s=s'):Ref (Old.p_1 F c at_ p4 c_5 s) (a_ou F c at_ c_5 s') (CtlR Eq Eq):=by
 obtain ⟨o,i⟩:=s;subst h
 unfold Old.p_1 a_ou Old.g_8 Old.l_0
 simp only [nr]
 refine Ref.iteL (fun h=>?_) (fun h=>?_)<;>simp only [h,if_true,if_false]
 ·refine Ref.iteL (fun h=>?_) (fun h=>?_)<;>simp only [h,if_true,if_false]
  ·refine Ref.bind (Ref.iter b_pv _ _ _ rfl) ?_
   rintro (_ | a) (b | _) e
   ·exact e.elim
   ·(try simp only [nr]);repeat' first | exact Ref.none | exact Ref.some rfl | exact Ref.some trivial | infer_instance | (refine Ref.iteL (fun h=>?_) (fun h=>?_)<;>try simp only [h,nr]) | (refine Ref.bind (R:=Eq) ?_ ?_;infer_instance;intro a b e;cases e;try simp only [nr]) | fail
   ·cases e;(try simp only [nr]);repeat' first | exact Ref.none | exact Ref.some rfl | exact Ref.some trivial | infer_instance | (refine Ref.iteL (fun h=>?_) (fun h=>?_)<;>try simp only [h,nr]) | (refine Ref.bind (R:=Eq) ?_ ?_;infer_instance;intro a b e;cases e;try simp only [nr]) | fail
   ·exact e.elim
  ·exact Ref.none
 ·exact Ref.some rfl
theorem b_sp {c:d_0} {at_ goal:Int} {o:List Int} {h:List a_1}:Ref (Old.j_6 F c at_ goal o h) (j_6 F c at_ goal o h) Eq:=by
 unfold Old.j_6 j_6
 (try simp only [nr]);repeat' first | exact Ref.none | exact Ref.some rfl | exact Ref.some trivial | infer_instance | (refine Ref.iteL (fun h=>?_) (fun h=>?_)<;>try simp only [h,nr]) | (refine Ref.bind (R:=Eq) ?_ ?_;infer_instance;intro a b e;cases e;try simp only [nr]) | fail
 exact Ref.iter b_kc _ _ _ rfl
attribute [instance] b_sp
def ClR (a:(List Int×List a_1) ⊕ (List a_1×List Int)) (b:List a_1 ⊕ (List Int×List a_1)):Prop:=match a,b with
 |.inl x,.inr y=>x=y
 |.inr r,.inl x=>r=(x,[])
 |_,_=>False
theorem b_pl {c:d_0} {q:Int} (s s':Int×List Int×List a_1×Int) (h:s=s'):Ref (Old.i_0 F c q s) (a_o1 F c s') (CtlR Eq ClR):=by
 obtain ⟨a,b,d,e⟩:=s;subst h
 unfold Old.i_0 a_o1
 (try simp only [nr]);repeat' first | exact Ref.none | exact Ref.some rfl | exact Ref.some trivial | infer_instance | (refine Ref.iteL (fun h=>?_) (fun h=>?_)<;>try simp only [h,nr]) | (refine Ref.bind (R:=Eq) ?_ ?_;infer_instance;intro a b e;cases e;try simp only [nr]) | fail
theorem b_ss {c:d_0} {q:Int}:Ref (Old.j_8 F c q) (j_8 F c q) Eq:=by
 unfold Old.j_8 j_8
 refine Ref.iteL (fun h=>?_) (fun h=>?_)<;>simp only [h,if_true,if_false]
 ·refine Ref.bind (Ref.iter b_pl _ _ _ rfl) ?_
  rintro (⟨a,b⟩ | r) (x | ⟨y,z⟩) e
  ·exact e.elim
  ·cases e;(try simp only [nr]);repeat' first | exact Ref.none | exact Ref.some rfl | exact Ref.some trivial | infer_instance | (refine Ref.iteL (fun h=>?_) (fun h=>?_)<;>try simp only [h,nr]) | (refine Ref.bind (R:=Eq) ?_ ?_;infer_instance;intro a b e;cases e;try simp only [nr]) | fail
  ·cases e;(try simp only [nr]);repeat' first | exact Ref.none | exact Ref.some rfl | exact Ref.some trivial | infer_instance | (refine Ref.iteL (fun h=>?_) (fun h=>?_)<;>try simp only [h,nr]) | (refine Ref.bind (R:=Eq) ?_ ?_;infer_instance;intro a b e;cases e;try simp only [nr]) | fail
  ·exact e.elim
 ·exact Ref.none
attribute [instance] b_ss
theorem b_mw {p:Int}:Ref (Old.i_4 F l p) (i_4 F l p) Eq:=by
 unfold Old.i_4 i_4
 simp only [nr]
 refine Ref.iteL (fun h=>?_) (fun h=>?_)<;>simp only [h,if_true,if_false]
 ·(try simp only [nr]);repeat' first | exact Ref.none | exact Ref.some rfl | exact Ref.some trivial | infer_instance | (refine Ref.iteL (fun h=>?_) (fun h=>?_)<;>try simp only [h,nr]) | (refine Ref.bind (R:=Eq) ?_ ?_;infer_instance;intro a b e;cases e;try simp only [nr]) | fail
 ·refine Ref.bind b_at ?_
  rintro ⟨_ | c,q,ok⟩ _ rfl
  all_goals
   simp only [toS]
   (try simp only [nr]);repeat' first | exact Ref.none | exact Ref.some rfl | exact Ref.some trivial | infer_instance | (refine Ref.iteL (fun h=>?_) (fun h=>?_)<;>try simp only [h,nr]) | (refine Ref.bind (R:=Eq) ?_ ?_;infer_instance;intro a b e;cases e;try simp only [nr]) | fail
theorem b_su {h:List a_1} (s:List a_1×Int) (s':Int×List a_1) (e:Sw s s'):Ref (Old.a_em F h s) (a_0o F h s') (CtlR Sw Eq):=by
 obtain ⟨a,i⟩:=s;subst e
 unfold Old.a_em a_0o
 (try simp only [nr]);repeat' first | exact Ref.none | exact Ref.some rfl | exact Ref.some trivial | infer_instance | (refine Ref.iteL (fun h=>?_) (fun h=>?_)<;>try simp only [h,nr]) | (refine Ref.bind (R:=Eq) ?_ ?_;infer_instance;intro a b e;cases e;try simp only [nr]) | fail
theorem b_t2 {h:List a_1}:Ref (Old.w_6 F h) (w_6 F h) Eq:=by
 unfold Old.w_6 w_6
 (try simp only [nr]);repeat' first | exact Ref.none | exact Ref.some rfl | exact Ref.some trivial | infer_instance | (refine Ref.iteL (fun h=>?_) (fun h=>?_)<;>try simp only [h,nr]) | (refine Ref.bind (R:=Eq) ?_ ?_;infer_instance;intro a b e;cases e;try simp only [nr]) | fail
 exact Ref.iter b_su _ _ _ rfl
attribute [instance] b_t2
theorem b_nn {q:Int}:Ref (Old.m_5 F l q) (m_5 F l q) Eq:=by
 unfold Old.m_5 m_5
 simp only [nr]
 refine Ref.bind b_of ?_
 rintro ⟨_ | c,ok⟩ _ rfl
 all_goals
  simp only [toS]
  (try simp only [nr]);repeat' first | exact Ref.none | exact Ref.some rfl | exact Ref.some trivial | infer_instance | (refine Ref.iteL (fun h=>?_) (fun h=>?_)<;>try simp only [h,nr]) | (refine Ref.bind (R:=Eq) ?_ ?_;infer_instance;intro a b e;cases e;try simp only [nr]) | fail
theorem b_ra {p:Int}:Ref (Old.m_1 F l p) (m_1 F l p) Eq:=by
 unfold Old.m_1 m_1 a_gk
 simp only [nr]
 refine Ref.bind b_at ?_
 rintro ⟨_ | c,q,ok⟩ _ rfl
 all_goals
  simp only [toS]
  (try simp only [nr]);repeat' first | exact Ref.none | exact Ref.some rfl | exact Ref.some trivial | infer_instance | (refine Ref.iteL (fun h=>?_) (fun h=>?_)<;>try simp only [h,nr]) | (refine Ref.bind (R:=Eq) ?_ ?_;infer_instance;intro a b e;cases e;try simp only [nr]) | fail
end
