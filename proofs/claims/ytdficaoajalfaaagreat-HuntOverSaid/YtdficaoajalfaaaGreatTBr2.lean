/- The newer forms follow the older ones: the document's side. Its conditions: none. -/
import Derived.Test.YtdficaoajalfaaaGreatTG28
set_option linter.all false
set_option maxHeartbeats 2000000
namespace Go.Proofs.YtdficaoajalfaaaGreat
open Go.V Go.RowKit
section
variable {F:Nat} {l:List a_2}
theorem b_hj {k:Int}:Ref (Old.q_6 F k) (q_6 F k) Eq:=by
 unfold Old.q_6 q_6
 (try simp only [nr]);repeat' first | exact Ref.none | exact Ref.some rfl | exact Ref.some trivial | infer_instance | (refine Ref.iteL (fun h=>?_) (fun h=>?_)<;>try simp only [h,nr]) | (refine Ref.bind (R:=Eq) ?_ ?_;infer_instance;intro a b e;cases e;try simp only [nr]) | fail
attribute [instance] b_hj
def FndR (a:Unit ⊕ List Int) (b:Unit ⊕ Unit):Prop:=match a,b with
 |.inl _,.inr _=>True
 |.inr r,.inl _=>r=[]
 |_,_=>False
theorem b_ie {y:List Int} {n i:Int} (s s':Int) (h:s=s'):Ref (Old.q_2 F l y n i s) (a_hq F l i s') (CtlR Eq FndR):=by
 subst h
 unfold Old.q_2 a_hq
 (try simp only [nr]);repeat' first | exact Ref.none | exact Ref.some rfl | exact Ref.some trivial | infer_instance | (refine Ref.iteL (fun h=>?_) (fun h=>?_)<;>try simp only [h,nr]) | (refine Ref.bind (R:=Eq) ?_ ?_;infer_instance;intro a b e;cases e;try simp only [nr]) | fail
def Rot {α β γ:Type} (s:α×β×γ) (s':β×γ×α):Prop:=s'=(s.2.1,s.2.2,s.1)
def LwR (a:(List Int×Int) ⊕ List Int) (b:Unit ⊕ (Int×List Int)):Prop:=match a,b with
 |.inl x,.inr y=>y=(x.2,x.1)
 |.inr r,.inl _=>r=[]
 |_,_=>False
theorem b_nw {β:Type} (t:a_2) (K:Bool->Option β):(
    Option.bind (α:=Bool) (
     if decide ((t.Kind)<1) then
      some true
     else
      some (decide ((t.Kind)>8))) fun x=>
    Option.bind (α:=Bool) (
     if x then
      some true
     else
      Option.bind (α:=Bool) (
       if (t.Kind) != 2 then
        let x2:=!(((gt (t.Set) 0)==0)&&(((gt (t.Set) 1)==0)&&(((gt (t.Set) 2)==0)&&((gt (t.Set) 3)==0))))
        some x2
       else
        some false) fun x3=>
      some x3) fun x4=>
    Option.bind (α:=Bool) (
     if x4 then
      some true
     else
      Option.bind (α:=Bool) (
       if (t.Kind) != 7 then
        some ((t.N) != 0)
       else
        some false) fun x5=>
      some x5) fun x6=>
    Option.bind (α:=Bool) (
     if x6 then
      some true
     else
      Option.bind (α:=Bool) (
       if (t.Kind)==7 then
        if decide ((t.N)<1) then
         some true
        else
         some (decide ((t.N)>9))
       else
        some false) fun x7=>
      some x7) fun x8=>K x8)=Option.bind ((
      if (decide ((t.Kind)<1)) then
       some true
      else
       if (decide ((t.Kind)>8)) then
        some true
       else
        if ((t.Kind) != 2) then
         if (!(((gt (t.Set) 0)==0)&&(((gt (t.Set) 1)==0)&&(((gt (t.Set) 2)==0)&&((gt (t.Set) 3)==0))))) then
          some true
         else
          if ((t.Kind) != 7) then
           if ((t.N) != 0) then
            some true
           else
            if ((t.Kind)==7) then
             if (decide ((t.N)<1)) then
              some true
             else
              some (decide ((t.N)>9))
            else
             some false
          else
           if ((t.Kind)==7) then
            if (decide ((t.N)<1)) then
             some true
            else
             some (decide ((t.N)>9))
           else
            some false
        else
         if ((t.Kind) != 7) then
          if ((t.N) != 0) then
           some true
          else
           if ((t.Kind)==7) then
            if (decide ((t.N)<1)) then
             some true
            else
             some (decide ((t.N)>9))
           else
            some false
         else
          if ((t.Kind)==7) then
           if (decide ((t.N)<1)) then
            some true
           else
            some (decide ((t.N)>9))
          else
           some false):Option Bool) K:=by
 simp only [nr]
 repeat' (first | rfl | (split<;>(try simp only [*,if_true,if_false,not_true_eq_false,not_false_eq_true,Bool.false_eq_true])))
theorem b_nz {β:Type} (t:a_2) (part part2:Bool) (K:Bool->Option β):(
     Option.bind (α:=Bool) (
      if !part then
       some ((t.A) != (-1))
      else
       some false) fun x9=>
     Option.bind (α:=Bool) (
      if x9 then
       some true
      else
       Option.bind (α:=Bool) (
        if !part2 then
         some ((t.B) != (-1))
        else
         some false) fun x10=>
       some x10) fun x11=>K x11)=Option.bind ((
        if (!part) then
         if ((t.A) != (-1)) then
          some true
         else
          if (!part2) then
           some ((t.B) != (-1))
          else
           some false
        else
         if (!part2) then
          some ((t.B) != (-1))
         else
          some false):Option Bool) K:=by
 simp only [nr]
 repeat' (first | rfl | (split<;>(try simp only [*,if_true,if_false,not_true_eq_false,not_false_eq_true,Bool.false_eq_true])))
theorem Ref.of_eq {α β:Type} {o:Option α} {n n':Option β} {R:α->β->Prop} (e:n'=n) (h:Ref o n R):Ref o n' R:=e▸h
theorem Ref.rfl' {α:Type} {o:Option α}:Ref o o Eq:=⟨fun a h=>⟨a,h,rfl⟩⟩
theorem b_jw (s:List Int×Int×Int) (s':Int×Int×List Int) (h:Rot s s'):Ref (Old.s_8 F l s) (a_ic F l s') (CtlR Rot LwR):=by
 obtain ⟨y,n,i⟩:=s;subst h
 unfold Old.s_8 a_ic
 dsimp only
 refine Ref.ite (fun h1=>?_) (fun h1=>?_)
 ·refine Ref.ite (fun h2=>?_) (fun h2=>Ref.none)
  refine Ref.bind b_hj ?_
  rintro ⟨part,part2⟩ _ rfl
  dsimp only
  refine Ref.ite (fun h3=>?_) (fun h3=>Ref.none)
  refine Ref.of_eq (b_nw (gt l i) _) ?_
  refine Ref.bind Ref.rfl' ?_
  rintro x _ rfl
  refine Ref.ite (fun h4=>Ref.some rfl) (fun h4=>?_)
  refine Ref.of_eq (b_nz (gt l i) part part2 _) ?_
  refine Ref.bind Ref.rfl' ?_
  rintro x _ rfl
  refine Ref.ite (fun h4=>Ref.some rfl) (fun h4=>?_)
  refine Ref.bind Ref.rfl' ?_
  rintro n2 _ rfl
  refine Ref.bind (R:=fun (a:Int ⊕ List Int) (b:Unit ⊕ Int)=>match a,b with | .inl x,.inr y=>x=y | .inr r,.inl _=>r=[] | _,_=>False) ?_ ?_
  ·(try simp only [nr]);repeat' first | exact Ref.none | exact Ref.some rfl | exact Ref.some trivial | infer_instance | (refine Ref.iteL (fun h=>?_) (fun h=>?_)<;>try simp only [h,nr]) | (refine Ref.bind (R:=Eq) ?_ ?_;infer_instance;intro a b e;cases e;try simp only [nr]) | fail
  ·rintro (a | r) (_ | b) e
   ·exact e.elim
   ·cases e
    dsimp only
    refine Ref.bind (R:=fun (a:List Int ⊕ List Int) (b:Unit ⊕ List Int)=>match a,b with | .inl x,.inr y=>x=y | .inr r,.inl _=>r=[] | _,_=>False) ?_ ?_
    ·(try simp only [nr]);repeat' first | exact Ref.none | exact Ref.some rfl | exact Ref.some trivial | infer_instance | (refine Ref.iteL (fun h=>?_) (fun h=>?_)<;>try simp only [h,nr]) | (refine Ref.bind (R:=Eq) ?_ ?_;infer_instance;intro a b e;cases e;try simp only [nr]) | fail
    ·rintro (a | r) (_ | b) e
     ·exact e.elim
     ·cases e
      dsimp only
      refine Ref.ite (fun h5=>?_) (fun h5=>Ref.none)
      refine Ref.bind (Ref.iter b_ie _ _ _ rfl) ?_
      rintro (_ | r) (_ | _) e
      ·exact e.elim
      ·exact Ref.some rfl
      ·cases e;exact Ref.some rfl
      ·exact e.elim
     ·cases e;exact Ref.some rfl
     ·exact e.elim
   ·cases e;exact Ref.some rfl
   ·exact e.elim
 ·exact Ref.some rfl
def LsR (a:List Int) (b:Unit ⊕ List Int):Prop:=match b with
 |.inl _=>a=[]
 |.inr y=>a=y/\nonE y=true
theorem b_is:Ref (Old.n_9 F l) (n_9 F l) LsR:=by
 unfold Old.n_9 n_9
 refine Ref.iteL (fun h=>?_) (fun h=>?_)<;>simp only [h,if_true,if_false]
 ·refine Ref.bind (Ref.iter b_jw _ _ _ rfl) ?_
  rintro (⟨a,i⟩ | r) (_ | ⟨b,j⟩) e
  ·exact e.elim
  ·cases e
   simp only [nr]
   repeat' (first | exact Ref.some ⟨rfl,by assumption⟩ | exact Ref.none | exact Ref.some rfl | exact Ref.some trivial | infer_instance | (refine Ref.iteL (fun h=>?_) (fun h=>?_)<;>try simp only [h,nr]) | (refine Ref.bind (R:=Eq) ?_ ?_;infer_instance;intro a b e;cases e;try simp only [nr]) | fail)
  ·cases e;exact Ref.some rfl
  ·exact e.elim
 ·exact Ref.none
theorem a_oe:Ref (Old.d_1 F l) (d_1 F l) Eq:=by
 unfold Old.d_1 d_1
 refine Ref.bind b_is ?_
 rintro a (_ | b) e
 ·cases e;exact Ref.some rfl
 ·obtain ⟨rfl,h⟩:=e
  have h':(!a.isEmpty)=true:=h
  simp only [h',if_true]
  exact Ref.some rfl
attribute [instance] a_oe
theorem b_a5 (s s':List Int×Int) (h:s=s'):Ref (Old.p_4 F l s) (a_f9 F l s') (CtlR Eq Eq):=by
 obtain ⟨a,i⟩:=s;subst h
 unfold Old.p_4 a_f9
 (try simp only [nr]);repeat' first | exact Ref.none | exact Ref.some rfl | exact Ref.some trivial | infer_instance | (refine Ref.iteL (fun h=>?_) (fun h=>?_)<;>try simp only [h,nr]) | (refine Ref.bind (R:=Eq) ?_ ?_;infer_instance;intro a b e;cases e;try simp only [nr]) | fail
theorem a_3m:Ref (Old.e_4 F l) (e_4 F l) Eq:=by
 unfold Old.e_4 e_4
 (try simp only [nr]);repeat' first | exact Ref.none | exact Ref.some rfl | exact Ref.some trivial | infer_instance | (refine Ref.iteL (fun h=>?_) (fun h=>?_)<;>try simp only [h,nr]) | (refine Ref.bind (R:=Eq) ?_ ?_;infer_instance;intro a b e;cases e;try simp only [nr]) | fail
 exact Ref.iter b_a5 _ _ _ rfl
attribute [instance] a_3m
theorem b_t0 {a b:List Int}:Ref (Old.m_3 F a b) (m_3 F a b) Eq:=by
 unfold Old.m_3 m_3
 (try simp only [nr]);repeat' first | exact Ref.none | exact Ref.some rfl | exact Ref.some trivial | infer_instance | (refine Ref.iteL (fun h=>?_) (fun h=>?_)<;>try simp only [h,nr]) | (refine Ref.bind (R:=Eq) ?_ ?_;infer_instance;intro a b e;cases e;try simp only [nr]) | fail
attribute [instance] b_t0
theorem b_Of {c:List Bool}:∀ {k:Nat} {q:Int},Ref (Old.g_4 F k l c q) (g_4 F k l c q) Eq:=by
 intro k
 induction k with
 |zero=>intro q;exact Ref.none
 |
  succ k ih=>
  intro q
  unfold Old.g_4 g_4
  (try simp only [nr]);repeat' (first | exact Ref.none | exact Ref.some rfl | exact ih | infer_instance | (refine Ref.iteL (fun h=>?_) (fun h=>?_)<;>try simp only [h,nr]) | (refine Ref.bind (R:=Eq) ?_ ?_;(first | exact ih | infer_instance);intro a_ b_ e_;cases e_;try simp only [nr]) | fail)
attribute [instance] b_Of
theorem b_sv {x:List Int} {c:List Bool}:∀ {k:Nat} {q:Int} {o:List Int},Ref (Old.f_5 F k l x c q o) (f_5 F k l x c q o) Eq:=by
 intro k
 induction k with
 |zero=>intro q o;exact Ref.none
 |
  succ k ih=>
  intro q o
  unfold Old.f_5 f_5
  (try simp only [nr]);repeat' (first | exact Ref.none | exact Ref.some rfl | exact ih | infer_instance | (refine Ref.iteL (fun h=>?_) (fun h=>?_)<;>try simp only [h,nr]) | (refine Ref.bind (R:=Eq) ?_ ?_;(first | exact ih | infer_instance);intro a_ b_ e_;cases e_;try simp only [nr]) | fail)
attribute [instance] b_sv
theorem b_l2 (s:List Int×Int×Int) (s':Int×Int×List Int) (h:Rot s s'):Ref (Old.a_di F l s) (a_zb F l s') (CtlR Rot Eq):=by
 obtain ⟨a,i,j⟩:=s;subst h
 unfold Old.a_di a_zb
 (try simp only [nr]);repeat' first | exact Ref.none | exact Ref.some rfl | exact Ref.some trivial | infer_instance | (refine Ref.iteL (fun h=>?_) (fun h=>?_)<;>try simp only [h,nr]) | (refine Ref.bind (R:=Eq) ?_ ?_;infer_instance;intro a b e;cases e;try simp only [nr]) | fail
theorem b_p6:Ref (Old.t_8 F l) (t_8 F l) Eq:=by
 unfold Old.t_8 t_8
 (try simp only [nr]);repeat' first | exact Ref.none | exact Ref.some rfl | exact Ref.some trivial | infer_instance | (refine Ref.iteL (fun h=>?_) (fun h=>?_)<;>try simp only [h,nr]) | (refine Ref.bind (R:=Eq) ?_ ?_;infer_instance;intro a b e;cases e;try simp only [nr]) | fail
 exact Ref.iter b_l2 _ _ _ rfl
attribute [instance] b_p6
theorem b_p2 (s:List Bool×Int) (s':Int×List Bool) (h:Sw s s'):Ref (Old.a_cv F l s) (a_16 F l s') (CtlR Sw Eq):=by
 obtain ⟨a,i⟩:=s;subst h
 unfold Old.a_cv a_16
 (try simp only [nr]);repeat' first | exact Ref.none | exact Ref.some rfl | exact Ref.some trivial | infer_instance | (refine Ref.iteL (fun h=>?_) (fun h=>?_)<;>try simp only [h,nr]) | (refine Ref.bind (R:=Eq) ?_ ?_;infer_instance;intro a b e;cases e;try simp only [nr]) | fail
theorem b_to:Ref (Old.s_2 F l) (s_2 F l) Eq:=by
 unfold Old.s_2 s_2
 (try simp only [nr]);repeat' first | exact Ref.none | exact Ref.some rfl | exact Ref.some trivial | infer_instance | (refine Ref.iteL (fun h=>?_) (fun h=>?_)<;>try simp only [h,nr]) | (refine Ref.bind (R:=Eq) ?_ ?_;infer_instance;intro a b e;cases e;try simp only [nr]) | fail
 exact Ref.iter b_p2 _ _ _ rfl
attribute [instance] b_to
theorem b_kf {q:Int}:Ref (Old.o_6 F l q) (o_6 F l q) Eq:=by
 unfold Old.o_6 o_6
 (try simp only [nr]);repeat' first | exact Ref.none | exact Ref.some rfl | exact Ref.some trivial | infer_instance | (refine Ref.iteL (fun h=>?_) (fun h=>?_)<;>try simp only [h,nr]) | (refine Ref.bind (R:=Eq) ?_ ?_;infer_instance;intro a b e;cases e;try simp only [nr]) | fail
theorem b_st (s:List Int×Int) (s':Int×List Int) (h:Sw s s'):Ref (Old.a_he F l s) (a_4r F l s') (CtlR Sw Eq):=by
 obtain ⟨a,i⟩:=s;subst h
 unfold Old.a_he a_4r
 (try simp only [nr]);repeat' first | exact Ref.none | exact Ref.some rfl | exact Ref.some trivial | infer_instance | (refine Ref.iteL (fun h=>?_) (fun h=>?_)<;>try simp only [h,nr]) | (refine Ref.bind (R:=Eq) ?_ ?_;infer_instance;intro a b e;cases e;try simp only [nr]) | fail
theorem b_r9 {y:List Int} (s:List Int×Int) (s':Int×List Int) (h:Sw s s'):Ref (Old.a_dz F l y s) (a_4v F l s') (CtlR Sw Eq):=by
 obtain ⟨a,i⟩:=s;subst h
 unfold Old.a_dz a_4v
 (try simp only [nr]);repeat' first | exact Ref.none | exact Ref.some rfl | exact Ref.some trivial | infer_instance | (refine Ref.iteL (fun h=>?_) (fun h=>?_)<;>try simp only [h,nr]) | (refine Ref.bind (R:=Eq) ?_ ?_;infer_instance;intro a b e;cases e;try simp only [nr]) | fail
theorem b_ty:Ref (Old.a_bt F l) (a_bt F l) Eq:=by
 unfold Old.a_bt a_bt
 (try simp only [nr]);repeat' first | exact Ref.none | exact Ref.some rfl | exact Ref.some trivial | infer_instance | (refine Ref.iteL (fun h=>?_) (fun h=>?_)<;>try simp only [h,nr]) | (refine Ref.bind (R:=Eq) ?_ ?_;infer_instance;intro a b e;cases e;try simp only [nr]) | fail
 refine Ref.bind (Ref.iter b_st _ _ _ rfl) ?_
 rintro a _ rfl
 (try simp only [nr]);repeat' first | exact Ref.none | exact Ref.some rfl | exact Ref.some trivial | infer_instance | (refine Ref.iteL (fun h=>?_) (fun h=>?_)<;>try simp only [h,nr]) | (refine Ref.bind (R:=Eq) ?_ ?_;infer_instance;intro a b e;cases e;try simp only [nr]) | fail
 exact Ref.iter b_r9 _ _ _ rfl
attribute [instance] b_ty
theorem b_g2 {up:List Int} (s:List Int×Int) (s':Int×List Int) (h:Sw s s'):Ref (Old.x_6 F up s) (a_ij F up s') (CtlR Sw Eq):=by
 obtain ⟨a,i⟩:=s;subst h
 unfold Old.x_6 a_ij
 (try simp only [nr]);repeat' first | exact Ref.none | exact Ref.some rfl | exact Ref.some trivial | infer_instance | (refine Ref.iteL (fun h=>?_) (fun h=>?_)<;>try simp only [h,nr]) | (refine Ref.bind (R:=Eq) ?_ ?_;infer_instance;intro a b e;cases e;try simp only [nr]) | fail
theorem b_cm:Ref (Old.l_8 F l) (l_8 F l) Eq:=by
 unfold Old.l_8 l_8
 (try simp only [nr]);repeat' first | exact Ref.none | exact Ref.some rfl | exact Ref.some trivial | infer_instance | (refine Ref.iteL (fun h=>?_) (fun h=>?_)<;>try simp only [h,nr]) | (refine Ref.bind (R:=Eq) ?_ ?_;infer_instance;intro a b e;cases e;try simp only [nr]) | fail
 exact Ref.iter b_g2 _ _ _ rfl
attribute [instance] b_cm
theorem b_px {h:List a_1} {p:Int} (s s':Int) (e:s=s'):Ref (Old.a_at F h p s) (a_zc F h p s') (CtlR Eq fun a b=>match a,b with | .inl _,.inr _=>True | .inr r,.inl _=>r=true | _,_=>False):=by
 subst e
 unfold Old.a_at a_zc
 (try simp only [nr]);repeat' first | exact Ref.none | exact Ref.some rfl | exact Ref.some trivial | infer_instance | (refine Ref.iteL (fun h=>?_) (fun h=>?_)<;>try simp only [h,nr]) | (refine Ref.bind (R:=Eq) ?_ ?_;infer_instance;intro a b e;cases e;try simp only [nr]) | fail
theorem b_sw {h:List a_1} {p:Int}:Ref (Old.a_bc F h p) (a_bc F h p) Eq:=by
 unfold Old.a_bc a_bc
 refine Ref.bind (Ref.iter b_px _ _ _ rfl) ?_
 rintro (_ | r) (_ | _) e
 ·exact e.elim
 ·exact Ref.some rfl
 ·cases e;exact Ref.some rfl
 ·exact e.elim
attribute [instance] b_sw
theorem b_jp {x6:a_1} {up deep x3:List Int} {x4:List Bool} {x7:Int} {x8:List Int} {x9:List a_1} {x12:Int} {x14:List a_1} (s0:List Int) (s:List a_1×List a_1×Int) (s':List Int×List a_1×Int×List a_1) (e:s'=(s0,s.1,s.2.2,s.2.1)) :
  Ref (Old.o_0 F l x6 up deep x3 x4 x7 x8 x9 x12 x14 s) (a_w1 F up deep x7 s') (CtlR (fun s s'=>s'=(s0,s.1,s.2.2,s.2.1)) fun a b=>b=(s0,a)):=by
 obtain ⟨o,y,i⟩:=s;subst e
 unfold Old.o_0 a_w1
 (try simp only [nr]);repeat' first | exact Ref.none | exact Ref.some rfl | exact Ref.some trivial | infer_instance | (refine Ref.iteL (fun h=>?_) (fun h=>?_)<;>try simp only [h,nr]) | (refine Ref.bind (R:=Eq) ?_ ?_;infer_instance;intro a b e;cases e;try simp only [nr]) | fail
def RcR (a:(a_1×List Int×List a_1) ⊕ (List a_1×a_1×Bool)) (b:(List a_1×a_1) ⊕ (List Int×List a_1)):Prop:=match a,b with
 |.inl x,.inr y=>y=x.2
 |.inr r,.inl x=>r=(x.1,x.2,false)
 |_,_=>False
theorem b_ko {up deep x3 x5:List Int} {x4:List Bool} {p1:Int} (s:a_1×Int×List Int×List a_1) (s':List Int×List Bool×Int×List Int×List a_1) (e:s'=(x3,x4,s.2)) :
  Ref (Old.l_7 F l up deep x3 x4 x5 p1 s) (a_y5 F l up deep s') (CtlR (fun s s'=>s'=(x3,x4,s.2)) RcR):=by
 obtain ⟨h,q,o,y⟩:=s;subst e
 unfold Old.l_7 a_y5
 (try simp only [nr]);repeat' first | exact Ref.none | exact Ref.some rfl | exact Ref.some trivial | infer_instance | (refine Ref.iteL (fun h=>?_) (fun h=>?_)<;>try simp only [h,nr]) | (refine Ref.bind (R:=Eq) ?_ ?_;infer_instance;intro a b e;cases e;try simp only [nr]) | fail
 all_goals
  refine Ref.bind (Ref.iter (b_jp o) _ _ _ rfl) ?_
  rintro a _ rfl
  (try simp only [nr]);repeat' first | exact Ref.none | exact Ref.some rfl | exact Ref.some trivial | infer_instance | (refine Ref.iteL (fun h=>?_) (fun h=>?_)<;>try simp only [h,nr]) | (refine Ref.bind (R:=Eq) ?_ ?_;infer_instance;intro a b e;cases e;try simp only [nr]) | fail
theorem b_sj {p:Int}:Ref (Old.t_9 F l p) (t_9 F l p) Eq:=by
 unfold Old.t_9 t_9
 (try simp only [nr]);repeat' first | exact Ref.none | exact Ref.some rfl | exact Ref.some trivial | infer_instance | (refine Ref.iteL (fun h=>?_) (fun h=>?_)<;>try simp only [h,nr]) | (refine Ref.bind (R:=Eq) ?_ ?_;infer_instance;intro a b e;cases e;try simp only [nr]) | fail
 refine Ref.bind (Ref.iter b_ko _ _ _ rfl) ?_
 rintro (⟨a,b,c⟩ | r) (⟨x,y⟩ | ⟨x,y⟩) e
 ·exact e.elim
 ·cases e;exact Ref.some rfl
 ·cases e;exact Ref.some rfl
 ·exact e.elim
attribute [instance] b_sj
theorem b_fa {x3:List a_1×a_1×Bool} {x4:List a_1} {r:Int} (s s':List a_1×Int) (h:s=s'):Ref (Old.s_5 F l x3 x4 r s) (a_io F x3.1 r s') (CtlR Eq Eq):=by
 obtain ⟨a,i⟩:=s;subst h
 unfold Old.s_5 a_io
 (try simp only [nr]);repeat' first | exact Ref.none | exact Ref.some rfl | exact Ref.some trivial | infer_instance | (refine Ref.iteL (fun h=>?_) (fun h=>?_)<;>try simp only [h,nr]) | (refine Ref.bind (R:=Eq) ?_ ?_;infer_instance;intro a b e;cases e;try simp only [nr]) | fail
theorem b_hq {x3:List a_1×a_1×Bool} (s s':List a_1×Int) (h:s=s'):Ref (Old.x_8 F l x3 s) (a_i7 F l x3.1 s') (CtlR Eq Eq):=by
 obtain ⟨a,i⟩:=s;subst h
 unfold Old.x_8 a_i7
 (try simp only [nr]);repeat' first | exact Ref.none | exact Ref.some rfl | exact Ref.some trivial | infer_instance | (refine Ref.iteL (fun h=>?_) (fun h=>?_)<;>try simp only [h,nr]) | (refine Ref.bind (R:=Eq) ?_ ?_;infer_instance;intro a b e;cases e;try simp only [nr]) | fail
 refine Ref.bind (Ref.iter b_fa _ _ _ rfl) ?_
 rintro a _ rfl
 (try simp only [nr]);repeat' first | exact Ref.none | exact Ref.some rfl | exact Ref.some trivial | infer_instance | (refine Ref.iteL (fun h=>?_) (fun h=>?_)<;>try simp only [h,nr]) | (refine Ref.bind (R:=Eq) ?_ ?_;infer_instance;intro a b e;cases e;try simp only [nr]) | fail
theorem b_np {p:Int}:Ref (Old.n_7 F l p) (n_7 F l p) Eq:=by
 unfold Old.n_7 n_7
 (try simp only [nr]);repeat' first | exact Ref.none | exact Ref.some rfl | exact Ref.some trivial | infer_instance | (refine Ref.iteL (fun h=>?_) (fun h=>?_)<;>try simp only [h,nr]) | (refine Ref.bind (R:=Eq) ?_ ?_;infer_instance;intro a b e;cases e;try simp only [nr]) | fail
 all_goals exact Ref.iter b_hq _ _ _ rfl
theorem b_sk {q:Int}:Ref (Old.a_ba F l q) (a_ba F l q) Eq:=by
 unfold Old.a_ba a_ba
 (try simp only [nr]);repeat' first | exact Ref.none | exact Ref.some rfl | exact Ref.some trivial | infer_instance | (refine Ref.iteL (fun h=>?_) (fun h=>?_)<;>try simp only [h,nr]) | (refine Ref.bind (R:=Eq) ?_ ?_;infer_instance;intro a b e;cases e;try simp only [nr]) | fail
attribute [instance] b_sk
theorem b_iq {p:Int}:Ref (Old.k_0 F l p) (k_0 F l p) Eq:=by
 unfold Old.k_0 k_0
 (try simp only [nr]);repeat' first | exact Ref.none | exact Ref.some rfl | exact Ref.some trivial | infer_instance | (refine Ref.iteL (fun h=>?_) (fun h=>?_)<;>try simp only [h,nr]) | (refine Ref.bind (R:=Eq) ?_ ?_;infer_instance;intro a b e;cases e;try simp only [nr]) | fail
end
