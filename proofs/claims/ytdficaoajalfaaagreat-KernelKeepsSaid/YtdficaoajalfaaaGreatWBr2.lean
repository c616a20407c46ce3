/- The newer forms follow the older ones: the document's side. Its conditions: none. -/
import Derived.Test.YtdficaoajalfaaaGreatWG30
set_option linter.all false
set_option maxHeartbeats 2000000
namespace Go.Proofs.YtdficaoajalfaaaGreat
open Go.V Go.RowKit
section
variable {F:Nat} {l:List D0}
theorem v05 {k:Int}:Ref (Old.b02 F k) (b02 F k) Eq:=by
 unfold Old.b02 b02
 (try simp only [nr]);repeat' first | exact Ref.none | exact Ref.some rfl | exact Ref.some trivial | infer_instance | (refine Ref.N2 (fun h=>?_) (fun h=>?_)<;>try simp only [h,nr]) | (refine Ref.bind (R:=Eq) ?_ ?_;infer_instance;intro a b e;cases e;try simp only [nr]) | fail
attribute [instance] v05
def E0y (a:Unit ⊕ List Int) (b:Unit ⊕ Unit):Prop:=match a,b with
 |.inl _,.inr _=>True
 |.inr r,.inl _=>r=[]
 |_,_=>False
theorem G0W {y:List Int} {n i:Int} (s s':Int) (h:s=s'):Ref (Old.d0u F l y n i s) (n0T F l i s') (D6 Eq E0y):=by
 subst h;unfold Old.d0u n0T
 (try simp only [nr]);repeat' first | exact Ref.none | exact Ref.some rfl | exact Ref.some trivial | infer_instance | (refine Ref.N2 (fun h=>?_) (fun h=>?_)<;>try simp only [h,nr]) | (refine Ref.bind (R:=Eq) ?_ ?_;infer_instance;intro a b e;cases e;try simp only [nr]) | fail
def Rot {α β γ:Type} (s:α×β×γ) (s':β×γ×α):Prop:=s'=(s.2.1,s.2.2,s.1)
def LwR (a:(List Int×Int) ⊕ List Int) (b:Unit ⊕ (Int×List Int)):Prop:=match a,b with
 |.inl x,.inr y=>y=(x.2,x.1)
 |.inr r,.inl _=>r=[]
 |_,_=>False
theorem x08 {β:Type} (t:D0) (K:Bool->Option β):(
    Option.bind (α:=Bool) (
     if decide ((t.Kind)<1) then
      some true
     else
      some (decide ((t.Kind)>8))) fun x=>
    Option.bind (α:=Bool) (
     if x then
      some true
     else
      Option.bind (α:=Bool) (
       if (t.Kind) != 2 then
        let x2:=!(((gt (t.Set) 0)==0)&&(((gt (t.Set) 1)==0)&&(((gt (t.Set) 2)==0)&&((gt (t.Set) 3)==0))))
        some x2
       else
        some false) fun x3=>
      some x3) fun x4=>
    Option.bind (α:=Bool) (
     if x4 then
      some true
     else
      Option.bind (α:=Bool) (
       if (t.Kind) != 7 then
        some ((t.N) != 0)
       else
        some false) fun x5=>
      some x5) fun x6=>
    Option.bind (α:=Bool) (
     if x6 then
      some true
     else
      Option.bind (α:=Bool) (
       if (t.Kind)==7 then
        if decide ((t.N)<1) then
         some true
        else
         some (decide ((t.N)>9))
       else
        some false) fun x7=>
      some x7) fun x8=>K x8)=Option.bind ((
      if (decide ((t.Kind)<1)) then
       some true
      else
       if (decide ((t.Kind)>8)) then
        some true
       else
        if ((t.Kind) != 2) then
         if (!(((gt (t.Set) 0)==0)&&(((gt (t.Set) 1)==0)&&(((gt (t.Set) 2)==0)&&((gt (t.Set) 3)==0))))) then
          some true
         else
          if ((t.Kind) != 7) then
           if ((t.N) != 0) then
            some true
           else
            if ((t.Kind)==7) then
             if (decide ((t.N)<1)) then
              some true
             else
              some (decide ((t.N)>9))
            else
             some false
          else
           if ((t.Kind)==7) then
            if (decide ((t.N)<1)) then
             some true
            else
             some (decide ((t.N)>9))
           else
            some false
        else
         if ((t.Kind) != 7) then
          if ((t.N) != 0) then
           some true
          else
           if ((t.Kind)==7) then
            if (decide ((t.N)<1)) then
             some true
            else
             some (decide ((t.N)>9))
           else
            some false
         else
          if ((t.Kind)==7) then
           if (decide ((t.N)<1)) then
            some true
           else
            some (decide ((t.N)>9))
          else
           some false):Option Bool) K:=by
 simp only [nr]
 repeat' (first | rfl | (split<;>(try simp only [*,if_true,if_false,not_true_eq_false,not_false_eq_true,Bool.false_eq_true])))
theorem D0V {β:Type} (t:D0) (part part2:Bool) (K:Bool->Option β):(
     Option.bind (α:=Bool) (
      if !part then
       some ((t.A) != (-1))
      else
       some false) fun x9=>
     Option.bind (α:=Bool) (
      if x9 then
       some true
      else
       Option.bind (α:=Bool) (
        if !part2 then
         some ((t.B) != (-1))
        else
         some false) fun x10=>
       some x10) fun x11=>K x11)=Option.bind ((
        if (!part) then
         if ((t.A) != (-1)) then
          some true
         else
          if (!part2) then
           some ((t.B) != (-1))
          else
           some false
        else
         if (!part2) then
          some ((t.B) != (-1))
         else
          some false):Option Bool) K:=by
 simp only [nr]
 repeat' (first | rfl | (split<;>(try simp only [*,if_true,if_false,not_true_eq_false,not_false_eq_true,Bool.false_eq_true])))
theorem Ref.of_eq {α β:Type} {o:Option α} {n n':Option β} {R:α->β->Prop} (e:n'=n) (h:Ref o n R):Ref o n' R:=e▸h
theorem Ref.o0C {α:Type} {o:Option α}:Ref o o Eq:=⟨fun a h=>⟨a,h,rfl⟩⟩
theorem C0n (s:List Int×Int×Int) (s':Int×Int×List Int) (h:Rot s s'):Ref (Old.e0z F l s) (p07 F l s') (D6 Rot LwR):=by
 obtain ⟨y,n,i⟩:=s;subst h;unfold Old.e0z p07;dsimp only;refine Ref.ite (fun h1=>?_) (fun h1=>?_)
 ·refine Ref.ite (fun h2=>?_) (fun h2=>Ref.none);refine Ref.bind v05 ?_
  rintro ⟨part,part2⟩ _ rfl
  dsimp only;refine Ref.ite (fun h3=>?_) (fun h3=>Ref.none);refine Ref.of_eq (x08 (gt l i) _) ?_;refine Ref.bind Ref.o0C ?_
  rintro x _ rfl
  refine Ref.ite (fun h4=>Ref.some rfl) (fun h4=>?_);refine Ref.of_eq (D0V (gt l i) part part2 _) ?_;refine Ref.bind Ref.o0C ?_
  rintro x _ rfl
  refine Ref.ite (fun h4=>Ref.some rfl) (fun h4=>?_);refine Ref.bind Ref.o0C ?_
  rintro n2 _ rfl
  refine Ref.bind (R:=fun (a:Int ⊕ List Int) (b:Unit ⊕ Int)=>match a,b with | .inl x,.inr y=>x=y | .inr r,.inl _=>r=[] | _,_=>False) ?_ ?_
  ·(try simp only [nr]);repeat' first | exact Ref.none | exact Ref.some rfl | exact Ref.some trivial | infer_instance | (refine Ref.N2 (fun h=>?_) (fun h=>?_)<;>try simp only [h,nr]) | (refine Ref.bind (R:=Eq) ?_ ?_;infer_instance;intro a b e;cases e;try simp only [nr]) | fail
  ·rintro (a | r) (_ | b) e
   ·exact e.elim
   ·cases e;dsimp only;refine Ref.bind (R:=fun (a:List Int ⊕ List Int) (b:Unit ⊕ List Int)=>match a,b with | .inl x,.inr y=>x=y | .inr r,.inl _=>r=[] | _,_=>False) ?_ ?_
    ·(try simp only [nr]);repeat' first | exact Ref.none | exact Ref.some rfl | exact Ref.some trivial | infer_instance | (refine Ref.N2 (fun h=>?_) (fun h=>?_)<;>try simp only [h,nr]) | (refine Ref.bind (R:=Eq) ?_ ?_;infer_instance;intro a b e;cases e;try simp only [nr]) | fail
    ·rintro (a | r) (_ | b) e
     ·exact e.elim
     ·cases e;dsimp only;refine Ref.ite (fun h5=>?_) (fun h5=>Ref.none);refine Ref.bind (Ref.iter G0W _ _ _ rfl) ?_
      rintro (_ | r) (_ | _) e
      ·exact e.elim
      ·exact Ref.some rfl
      ·cases e;exact Ref.some rfl
      ·exact e.elim
     ·cases e;exact Ref.some rfl
     ·exact e.elim
   ·cases e;exact Ref.some rfl
   ·exact e.elim
 ·exact Ref.some rfl
def LsR (a:List Int) (b:Unit ⊕ List Int):Prop:=match b with
 |.inl _=>a=[]
 |.inr y=>a=y/\i0q y=true
theorem q0J:Ref (Old.b0m F l) (b0m F l) LsR:=by
 unfold Old.b0m b0m;refine Ref.N2 (fun h=>?_) (fun h=>?_)<;>simp only [h,if_true,if_false]
 ·refine Ref.bind (Ref.iter C0n _ _ _ rfl) ?_
  rintro (⟨a,i⟩ | r) (_ | ⟨b,j⟩) e
  ·exact e.elim
  ·cases e;simp only [nr]
   repeat' (first | exact Ref.some ⟨rfl,by assumption⟩ | exact Ref.none | exact Ref.some rfl | exact Ref.some trivial | infer_instance | (refine Ref.N2 (fun h=>?_) (fun h=>?_)<;>try simp only [h,nr]) | (refine Ref.bind (R:=Eq) ?_ ?_;infer_instance;intro a b e;cases e;try simp only [nr]) | fail)
  ·cases e;exact Ref.some rfl
  ·exact e.elim
 ·exact Ref.none
theorem i0v:Ref (Old.Q6 F l) (Q6 F l) Eq:=by
 unfold Old.Q6 Q6;refine Ref.bind q0J ?_
 rintro a (_ | b) e
 ·cases e;exact Ref.some rfl
 ·obtain ⟨rfl,h⟩:=e;have h':(!a.isEmpty)=true:=h;simp only [h',if_true];exact Ref.some rfl
attribute [instance] i0v
theorem D0z (s s':List Int×Int) (h:s=s'):Ref (Old.e0u F l s) (n0k F l s') (D6 Eq Eq):=by
 obtain ⟨a,i⟩:=s;subst h;unfold Old.e0u n0k
 (try simp only [nr]);repeat' first | exact Ref.none | exact Ref.some rfl | exact Ref.some trivial | infer_instance | (refine Ref.N2 (fun h=>?_) (fun h=>?_)<;>try simp only [h,nr]) | (refine Ref.bind (R:=Eq) ?_ ?_;infer_instance;intro a b e;cases e;try simp only [nr]) | fail
theorem v0k:Ref (Old.u7 F l) (u7 F l) Eq:=by
 unfold Old.u7 u7
 (try simp only [nr]);repeat' first | exact Ref.none | exact Ref.some rfl | exact Ref.some trivial | infer_instance | (refine Ref.N2 (fun h=>?_) (fun h=>?_)<;>try simp only [h,nr]) | (refine Ref.bind (R:=Eq) ?_ ?_;infer_instance;intro a b e;cases e;try simp only [nr]) | fail
 exact Ref.iter D0z _ _ _ rfl
attribute [instance] v0k
theorem y0G {a b:List Int}:Ref (Old.I8 F a b) (I8 F a b) Eq:=by
 unfold Old.I8 I8
 (try simp only [nr]);repeat' first | exact Ref.none | exact Ref.some rfl | exact Ref.some trivial | infer_instance | (refine Ref.N2 (fun h=>?_) (fun h=>?_)<;>try simp only [h,nr]) | (refine Ref.bind (R:=Eq) ?_ ?_;infer_instance;intro a b e;cases e;try simp only [nr]) | fail
attribute [instance] y0G
theorem x02 {c:List Bool}:∀ {k:Nat} {q:Int},Ref (Old.Z5 F k l c q) (Z5 F k l c q) Eq:=by
 intro k
 induction k with
 |zero=>intro q;exact Ref.none
 |
  succ k ih=>
  intro q;unfold Old.Z5 Z5
  (try simp only [nr]);repeat' (first | exact Ref.none | exact Ref.some rfl | exact ih | infer_instance | (refine Ref.N2 (fun h=>?_) (fun h=>?_)<;>try simp only [h,nr]) | (refine Ref.bind (R:=Eq) ?_ ?_;(first | exact ih | infer_instance);intro a_ b_ e_;cases e_;try simp only [nr]) | fail)
attribute [instance] x02
theorem x0z {x:List Int} {c:List Bool}:∀ {k:Nat} {q:Int} {o:List Int},Ref (Old.C6 F k l x c q o) (C6 F k l x c q o) Eq:=by
 intro k
 induction k with
 |zero=>intro q o;exact Ref.none
 |
  succ k ih=>
  intro q o;unfold Old.C6 C6
  (try simp only [nr]);repeat' (first | exact Ref.none | exact Ref.some rfl | exact ih | infer_instance | (refine Ref.N2 (fun h=>?_) (fun h=>?_)<;>try simp only [h,nr]) | (refine Ref.bind (R:=Eq) ?_ ?_;(first | exact ih | infer_instance);intro a_ b_ e_;cases e_;try simp only [nr]) | fail)
attribute [instance] x0z
theorem y0m (s:List Int×Int×Int) (s':Int×Int×List Int) (h:Rot s s'):Ref (Old.f02 F l s) (n0P F l s') (D6 Rot Eq):=by
 obtain ⟨a,i,j⟩:=s;subst h;unfold Old.f02 n0P
 (try simp only [nr]);repeat' first | exact Ref.none | exact Ref.some rfl | exact Ref.some trivial | infer_instance | (refine Ref.N2 (fun h=>?_) (fun h=>?_)<;>try simp only [h,nr]) | (refine Ref.bind (R:=Eq) ?_ ?_;infer_instance;intro a b e;cases e;try simp only [nr]) | fail
theorem w04:Ref (Old.a0Y F l) (a0Y F l) Eq:=by
 unfold Old.a0Y a0Y
 (try simp only [nr]);repeat' first | exact Ref.none | exact Ref.some rfl | exact Ref.some trivial | infer_instance | (refine Ref.N2 (fun h=>?_) (fun h=>?_)<;>try simp only [h,nr]) | (refine Ref.bind (R:=Eq) ?_ ?_;infer_instance;intro a b e;cases e;try simp only [nr]) | fail
 exact Ref.iter y0m _ _ _ rfl
attribute [instance] w04
theorem x0W (s:List Bool×Int) (s':Int×List Bool) (h:Sw s s'):Ref (Old.e0N F l s) (q0f F l s') (D6 Sw Eq):=by
 obtain ⟨a,i⟩:=s;subst h;unfold Old.e0N q0f
 (try simp only [nr]);repeat' first | exact Ref.none | exact Ref.some rfl | exact Ref.some trivial | infer_instance | (refine Ref.N2 (fun h=>?_) (fun h=>?_)<;>try simp only [h,nr]) | (refine Ref.bind (R:=Eq) ?_ ?_;infer_instance;intro a b e;cases e;try simp only [nr]) | fail
theorem A0L:Ref (Old.Q9 F l) (Q9 F l) Eq:=by
 unfold Old.Q9 Q9
 (try simp only [nr]);repeat' first | exact Ref.none | exact Ref.some rfl | exact Ref.some trivial | infer_instance | (refine Ref.N2 (fun h=>?_) (fun h=>?_)<;>try simp only [h,nr]) | (refine Ref.bind (R:=Eq) ?_ ?_;infer_instance;intro a b e;cases e;try simp only [nr]) | fail
 exact Ref.iter x0W _ _ _ rfl
attribute [instance] A0L
theorem I0h {q:Int}:Ref (Old.b0w F l q) (b0w F l q) Eq:=by
 unfold Old.b0w b0w
 (try simp only [nr]);repeat' first | exact Ref.none | exact Ref.some rfl | exact Ref.some trivial | infer_instance | (refine Ref.N2 (fun h=>?_) (fun h=>?_)<;>try simp only [h,nr]) | (refine Ref.bind (R:=Eq) ?_ ?_;infer_instance;intro a b e;cases e;try simp only [nr]) | fail
theorem y07 (s:List Int×Int) (s':Int×List Int) (h:Sw s s'):Ref (Old.f0D F l s) (o0i F l s') (D6 Sw Eq):=by
 obtain ⟨a,i⟩:=s;subst h;unfold Old.f0D o0i
 (try simp only [nr]);repeat' first | exact Ref.none | exact Ref.some rfl | exact Ref.some trivial | infer_instance | (refine Ref.N2 (fun h=>?_) (fun h=>?_)<;>try simp only [h,nr]) | (refine Ref.bind (R:=Eq) ?_ ?_;infer_instance;intro a b e;cases e;try simp only [nr]) | fail
theorem E0i {y:List Int} (s:List Int×Int) (s':Int×List Int) (h:Sw s s'):Ref (Old.e0d F l y s) (q0e F l s') (D6 Sw Eq):=by
 obtain ⟨a,i⟩:=s;subst h;unfold Old.e0d q0e
 (try simp only [nr]);repeat' first | exact Ref.none | exact Ref.some rfl | exact Ref.some trivial | infer_instance | (refine Ref.N2 (fun h=>?_) (fun h=>?_)<;>try simp only [h,nr]) | (refine Ref.bind (R:=Eq) ?_ ?_;infer_instance;intro a b e;cases e;try simp only [nr]) | fail
theorem D0Z:Ref (Old.a0Z F l) (a0Z F l) Eq:=by
 unfold Old.a0Z a0Z
 (try simp only [nr]);repeat' first | exact Ref.none | exact Ref.some rfl | exact Ref.some trivial | infer_instance | (refine Ref.N2 (fun h=>?_) (fun h=>?_)<;>try simp only [h,nr]) | (refine Ref.bind (R:=Eq) ?_ ?_;infer_instance;intro a b e;cases e;try simp only [nr]) | fail
 refine Ref.bind (Ref.iter y07 _ _ _ rfl) ?_
 rintro a _ rfl
 (try simp only [nr]);repeat' first | exact Ref.none | exact Ref.some rfl | exact Ref.some trivial | infer_instance | (refine Ref.N2 (fun h=>?_) (fun h=>?_)<;>try simp only [h,nr]) | (refine Ref.bind (R:=Eq) ?_ ?_;infer_instance;intro a b e;cases e;try simp only [nr]) | fail
 exact Ref.iter E0i _ _ _ rfl
attribute [instance] D0Z
theorem I0S {up:List Int} (s:List Int×Int) (s':Int×List Int) (h:Sw s s'):Ref (Old.f08 F up s) (p0O F up s') (D6 Sw Eq):=by
 obtain ⟨a,i⟩:=s;subst h;unfold Old.f08 p0O
 (try simp only [nr]);repeat' first | exact Ref.none | exact Ref.some rfl | exact Ref.some trivial | infer_instance | (refine Ref.N2 (fun h=>?_) (fun h=>?_)<;>try simp only [h,nr]) | (refine Ref.bind (R:=Eq) ?_ ?_;infer_instance;intro a b e;cases e;try simp only [nr]) | fail
theorem r0n:Ref (Old.a0V F l) (a0V F l) Eq:=by
 unfold Old.a0V a0V
 (try simp only [nr]);repeat' first | exact Ref.none | exact Ref.some rfl | exact Ref.some trivial | infer_instance | (refine Ref.N2 (fun h=>?_) (fun h=>?_)<;>try simp only [h,nr]) | (refine Ref.bind (R:=Eq) ?_ ?_;infer_instance;intro a b e;cases e;try simp only [nr]) | fail
 exact Ref.iter I0S _ _ _ rfl
attribute [instance] r0n
theorem F05 {h:List B0} {p:Int} (s s':Int) (e:s=s'):Ref (Old.d02 F h p s) (o0L F h p s') (D6 Eq fun a b=>match a,b with | .inl _,.inr _=>True | .inr r,.inl _=>r=true | _,_=>False):=by
 subst e;unfold Old.d02 o0L
 (try simp only [nr]);repeat' first | exact Ref.none | exact Ref.some rfl | exact Ref.some trivial | infer_instance | (refine Ref.N2 (fun h=>?_) (fun h=>?_)<;>try simp only [h,nr]) | (refine Ref.bind (R:=Eq) ?_ ?_;infer_instance;intro a b e;cases e;try simp only [nr]) | fail
theorem I0R {h:List B0} {p:Int}:Ref (Old.b03 F h p) (b03 F h p) Eq:=by
 unfold Old.b03 b03;refine Ref.bind (Ref.iter F05 _ _ _ rfl) ?_
 rintro (_ | r) (_ | _) e
 ·exact e.elim
 ·exact Ref.some rfl
 ·cases e;exact Ref.some rfl
 ·exact e.elim
attribute [instance] I0R
theorem A0h {x6:B0} {up deep x3:List Int} {x4:List Bool} {x7:Int} {x8:List Int} {x9:List B0} {x12:Int} {x14:List B0} (s0:List Int) (s:List B0×List B0×Int) (s':List Int×List B0×Int×List B0) (e:s'=(s0,s.1,s.2.2,s.2.1)) :
  Ref (Old.b0R F l x6 up deep x3 x4 x7 x8 x9 x12 x14 s) (n0S F up deep x7 s') (D6 (fun s s'=>s'=(s0,s.1,s.2.2,s.2.1)) fun a b=>b=(s0,a)):=by
 obtain ⟨o,y,i⟩:=s;subst e;unfold Old.b0R n0S
 (try simp only [nr]);repeat' first | exact Ref.none | exact Ref.some rfl | exact Ref.some trivial | infer_instance | (refine Ref.N2 (fun h=>?_) (fun h=>?_)<;>try simp only [h,nr]) | (refine Ref.bind (R:=Eq) ?_ ?_;infer_instance;intro a b e;cases e;try simp only [nr]) | fail
def RcR (a:(B0×List Int×List B0) ⊕ (List B0×B0×Bool)) (b:(List B0×B0) ⊕ (List Int×List B0)):Prop:=match a,b with
 |.inl x,.inr y=>y=x.2
 |.inr r,.inl x=>r=(x.1,x.2,false)
 |_,_=>False
theorem y0D {up deep x3 x5:List Int} {x4:List Bool} {p1:Int} (s:B0×Int×List Int×List B0) (s':List Int×List Bool×Int×List Int×List B0) (e:s'=(x3,x4,s.2)) :
  Ref (Old.b0h F l up deep x3 x4 x5 p1 s) (n0a F l up deep s') (D6 (fun s s'=>s'=(x3,x4,s.2)) RcR):=by
 obtain ⟨h,q,o,y⟩:=s;subst e;unfold Old.b0h n0a
 (try simp only [nr]);repeat' first | exact Ref.none | exact Ref.some rfl | exact Ref.some trivial | infer_instance | (refine Ref.N2 (fun h=>?_) (fun h=>?_)<;>try simp only [h,nr]) | (refine Ref.bind (R:=Eq) ?_ ?_;infer_instance;intro a b e;cases e;try simp only [nr]) | fail
 all_goals
  refine Ref.bind (Ref.iter (A0h o) _ _ _ rfl) ?_
  rintro a _ rfl
  (try simp only [nr]);repeat' first | exact Ref.none | exact Ref.some rfl | exact Ref.some trivial | infer_instance | (refine Ref.N2 (fun h=>?_) (fun h=>?_)<;>try simp only [h,nr]) | (refine Ref.bind (R:=Eq) ?_ ?_;infer_instance;intro a b e;cases e;try simp only [nr]) | fail
theorem E0q {p:Int}:Ref (Old.a0P F l p) (a0P F l p) Eq:=by
 unfold Old.a0P a0P
 (try simp only [nr]);repeat' first | exact Ref.none | exact Ref.some rfl | exact Ref.some trivial | infer_instance | (refine Ref.N2 (fun h=>?_) (fun h=>?_)<;>try simp only [h,nr]) | (refine Ref.bind (R:=Eq) ?_ ?_;infer_instance;intro a b e;cases e;try simp only [nr]) | fail
 refine Ref.bind (Ref.iter y0D _ _ _ rfl) ?_
 rintro (⟨a,b,c⟩ | r) (⟨x,y⟩ | ⟨x,y⟩) e
 ·exact e.elim
 ·cases e;exact Ref.some rfl
 ·cases e;exact Ref.some rfl
 ·exact e.elim
attribute [instance] E0q
theorem E0g {x3:List B0×B0×Bool} {x4:List B0} {r:Int} (s s':List B0×Int) (h:s=s'):Ref (Old.d08 F l x3 x4 r s) (q0q F x3.1 r s') (D6 Eq Eq):=by
 obtain ⟨a,i⟩:=s;subst h;unfold Old.d08 q0q
 (try simp only [nr]);repeat' first | exact Ref.none | exact Ref.some rfl | exact Ref.some trivial | infer_instance | (refine Ref.N2 (fun h=>?_) (fun h=>?_)<;>try simp only [h,nr]) | (refine Ref.bind (R:=Eq) ?_ ?_;infer_instance;intro a b e;cases e;try simp only [nr]) | fail
theorem G0U {x3:List B0×B0×Bool} (s s':List B0×Int) (h:s=s'):Ref (Old.f0u F l x3 s) (p0b F l x3.1 s') (D6 Eq Eq):=by
 obtain ⟨a,i⟩:=s;subst h;unfold Old.f0u p0b
 (try simp only [nr]);repeat' first | exact Ref.none | exact Ref.some rfl | exact Ref.some trivial | infer_instance | (refine Ref.N2 (fun h=>?_) (fun h=>?_)<;>try simp only [h,nr]) | (refine Ref.bind (R:=Eq) ?_ ?_;infer_instance;intro a b e;cases e;try simp only [nr]) | fail
 refine Ref.bind (Ref.iter E0g _ _ _ rfl) ?_
 rintro a _ rfl
 (try simp only [nr]);repeat' first | exact Ref.none | exact Ref.some rfl | exact Ref.some trivial | infer_instance | (refine Ref.N2 (fun h=>?_) (fun h=>?_)<;>try simp only [h,nr]) | (refine Ref.bind (R:=Eq) ?_ ?_;infer_instance;intro a b e;cases e;try simp only [nr]) | fail
theorem H0h {p:Int}:Ref (Old.b0r F l p) (b0r F l p) Eq:=by
 unfold Old.b0r b0r
 (try simp only [nr]);repeat' first | exact Ref.none | exact Ref.some rfl | exact Ref.some trivial | infer_instance | (refine Ref.N2 (fun h=>?_) (fun h=>?_)<;>try simp only [h,nr]) | (refine Ref.bind (R:=Eq) ?_ ?_;infer_instance;intro a b e;cases e;try simp only [nr]) | fail
 all_goals exact Ref.iter G0U _ _ _ rfl
theorem G0d {q:Int}:Ref (Old.b0A F l q) (b0A F l q) Eq:=by
 unfold Old.b0A b0A
 (try simp only [nr]);repeat' first | exact Ref.none | exact Ref.some rfl | exact Ref.some trivial | infer_instance | (refine Ref.N2 (fun h=>?_) (fun h=>?_)<;>try simp only [h,nr]) | (refine Ref.bind (R:=Eq) ?_ ?_;infer_instance;intro a b e;cases e;try simp only [nr]) | fail
attribute [instance] G0d
theorem w0q {p:Int}:Ref (Old.J9 F l p) (J9 F l p) Eq:=by
 unfold Old.J9 J9
 (try simp only [nr]);repeat' first | exact Ref.none | exact Ref.some rfl | exact Ref.some trivial | infer_instance | (refine Ref.N2 (fun h=>?_) (fun h=>?_)<;>try simp only [h,nr]) | (refine Ref.bind (R:=Eq) ?_ ?_;infer_instance;intro a b e;cases e;try simp only [nr]) | fail
end
