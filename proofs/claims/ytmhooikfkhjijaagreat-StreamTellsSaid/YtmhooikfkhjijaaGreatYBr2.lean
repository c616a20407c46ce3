/- P. Its conditions: none. -/
import Derived.Test.YtmhooikfkhjijaaGreatYG28
set_option linter.all false
set_option maxHeartbeats 2000000
namespace Go.Proofs.YtmhooikfkhjijaaGreat
open Go.V Go.RowKit
section
variable {F:Nat}{l:List U0}
theorem M0I {k:Int}:Ref (Old.D0T F k) (D0T F k) Eq:=by
 unfold Old.D0T D0T
 (try simp only[nr]);repeat' first|exact Ref.some rfl|exact Ref.some trivial|infer_instance|(refine Ref.e04 (fun h=>?_) (fun h=>?_)<;>try simp only[h,nr])|(refine Ref.bq inferInstance fun a=>?_;try simp only[nr])|fail
attribute [instance] M0I
def Q0n (a:Unit⊕List Int)(b:Unit⊕Unit):Prop:=match a,b with
 |.inl _,.inr _=>True
 |.inr r,.inl _=>r=[]
 |_,_=>False
theorem X0M {y:List Int}{n i:Int}(s s':Int)(h:s=s'):Ref (Old.E0E F l y n i s) (J0R F l i s') (C0o Eq Q0n):=by
 subst h;unfold Old.E0E J0R
 (try simp only[nr]);repeat' first|exact Ref.some rfl|exact Ref.some trivial|infer_instance|(refine Ref.e04 (fun h=>?_) (fun h=>?_)<;>try simp only[h,nr])|(refine Ref.bq inferInstance fun a=>?_;try simp only[nr])|fail
def Rot {α β γ:Type}(s:α×β×γ)(s':β×γ×α):Prop:=s'=(s.2.1,s.2.2,s.1)
def LwR (a:(List Int×Int)⊕List Int)(b:Unit⊕(Int×List Int)):Prop:=match a,b with
 |.inl x,.inr y=>y=(x.2,x.1)
 |.inr r,.inl _=>r=[]
 |_,_=>False
theorem S0d {β:Type}(t:U0)(K:Bool->Option β):(
    Option.bind (α:=Bool) (
     if decide ((t.Kind)<1)then
      some true
     else
      some (decide ((t.Kind)>8))) fun x=>
    Option.bind (α:=Bool) (
     if x then
      some true
     else
      Option.bind (α:=Bool) (
       if(t.Kind) != 2 then
        let x2:=!(((gt (t.Set) 0)==0)&&(((gt (t.Set) 1)==0)&&(((gt (t.Set) 2)==0)&&((gt (t.Set) 3)==0))))
        some x2
       else
        some false) fun x3=>
      some x3) fun x4=>
    Option.bind (α:=Bool) (
     if x4 then
      some true
     else
      Option.bind (α:=Bool) (
       if(t.Kind) != 7 then
        some ((t.N) != 0)
       else
        some false) fun x5=>
      some x5) fun x6=>
    Option.bind (α:=Bool) (
     if x6 then
      some true
     else
      Option.bind (α:=Bool) (
       if(t.Kind)==7 then
        if decide ((t.N)<1)then
         some true
        else
         some (decide ((t.N)>9))
       else
        some false) fun x7=>
      some x7) fun x8=>K x8)=Option.bind ((
      if(decide ((t.Kind)<1))then
       some true
      else
       if(decide ((t.Kind)>8))then
        some true
       else
        if((t.Kind) != 2)then
         if(!(((gt (t.Set) 0)==0)&&(((gt (t.Set) 1)==0)&&(((gt (t.Set) 2)==0)&&((gt (t.Set) 3)==0)))))then
          some true
         else
          if((t.Kind) != 7)then
           if((t.N) != 0)then
            some true
           else
            if((t.Kind)==7)then
             if(decide ((t.N)<1))then
              some true
             else
              some (decide ((t.N)>9))
            else
             some false
          else
           if((t.Kind)==7)then
            if(decide ((t.N)<1))then
             some true
            else
             some (decide ((t.N)>9))
           else
            some false
        else
         if((t.Kind) != 7)then
          if((t.N) != 0)then
           some true
          else
           if((t.Kind)==7)then
            if(decide ((t.N)<1))then
             some true
            else
             some (decide ((t.N)>9))
           else
            some false
         else
          if((t.Kind)==7)then
           if(decide ((t.N)<1))then
            some true
           else
            some (decide ((t.N)>9))
          else
           some false):Option Bool) K:=by
 simp only[nr]
 repeat' (first|rfl|(split<;>(try simp only[q0, *,not_true_eq_false,not_false_eq_true])))
theorem P0T {β:Type}(t:U0)(part part2:Bool)(K:Bool->Option β):(
     Option.bind (α:=Bool) (
      if !part then
       some ((t.A) != (-1))
      else
       some false) fun x9=>
     Option.bind (α:=Bool) (
      if x9 then
       some true
      else
       Option.bind (α:=Bool) (
        if !part2 then
         some ((t.B) != (-1))
        else
         some false) fun x10=>
       some x10) fun x11=>K x11)=Option.bind ((
        if(!part)then
         if((t.A) != (-1))then
          some true
         else
          if(!part2)then
           some ((t.B) != (-1))
          else
           some false
        else
         if(!part2)then
          some ((t.B) != (-1))
         else
          some false):Option Bool) K:=by
 simp only[nr]
 repeat' (first|rfl|(split<;>(try simp only[q0, *,not_true_eq_false,not_false_eq_true])))
theorem Ref.of_eq {α β:Type}{o:Option α}{n n':Option β}{R:α->β->Prop}(e:n'=n)(h:Ref o n R):Ref o n' R:=e▸h
theorem Ref.K05 {α:Type}{o:Option α}:Ref o o Eq:=⟨fun a h=>⟨a,h,rfl⟩⟩
theorem V0y (s:List Int×Int×Int)(s':Int×Int×List Int)(h:Rot s s'):Ref (Old.F0j F l s) (J0Z F l s') (C0o Rot LwR):=by
 obtain⟨y,n,i⟩:=s;subst h;unfold Old.F0j J0Z;dsimp only;refine Ref.ite (fun h1=>?_) (fun h1=>?_)
 ·refine Ref.ite (fun h2=>?_) (fun h2=>Ref.none);refine Ref.bind M0I ?_
  rintro⟨part,part2⟩ _ rfl
  dsimp only;refine Ref.ite (fun h3=>?_) (fun h3=>Ref.none);refine Ref.of_eq (S0d (gt l i) _) ?_;refine Ref.bind Ref.K05 ?_
  rintro x _ rfl
  refine Ref.ite (fun h4=>Ref.some rfl) (fun h4=>?_);refine Ref.of_eq (P0T (gt l i) part part2 _) ?_;refine Ref.bind Ref.K05 ?_
  rintro x _ rfl
  refine Ref.ite (fun h4=>Ref.some rfl) (fun h4=>?_);refine Ref.bind Ref.K05 ?_
  rintro n2 _ rfl
  refine Ref.bind (R:=fun(a:Int⊕List Int) (b:Unit⊕Int)=>match a,b with|.inl x,.inr y=>x=y|.inr r,.inl _=>r=[]|_,_=>False) ?_ ?_
  ·(try simp only[nr]);repeat' first|exact Ref.some rfl|exact Ref.some trivial|infer_instance|(refine Ref.e04 (fun h=>?_) (fun h=>?_)<;>try simp only[h,nr])|(refine Ref.bq inferInstance fun a=>?_;try simp only[nr])|fail
  ·rintro(a|r) (_|b) e
   ·exact e.elim
   ·cases e;dsimp only;refine Ref.bind (R:=fun(a:List Int⊕List Int) (b:Unit⊕List Int)=>match a,b with|.inl x,.inr y=>x=y|.inr r,.inl _=>r=[]|_,_=>False) ?_ ?_
    ·(try simp only[nr]);repeat' first|exact Ref.some rfl|exact Ref.some trivial|infer_instance|(refine Ref.e04 (fun h=>?_) (fun h=>?_)<;>try simp only[h,nr])|(refine Ref.bq inferInstance fun a=>?_;try simp only[nr])|fail
    ·rintro(a|r) (_|b) e
     ·exact e.elim
     ·cases e;dsimp only;refine Ref.ite (fun h5=>?_) (fun h5=>Ref.none);refine Ref.bind (Ref.iter X0M _ _ _ rfl) ?_
      rintro(_|r) (_|_) e
      ·exact e.elim
      ·exact Ref.some rfl
      ·cases e;exact Ref.some rfl
      ·exact e.elim
     ·cases e;exact Ref.some rfl
     ·exact e.elim
   ·cases e;exact Ref.some rfl
   ·exact e.elim
 ·exact Ref.some rfl
def LsR (a:List Int)(b:Unit⊕List Int):Prop:=match b with
 |.inl _=>a=[]
 |.inr y=>a=y/\H0b y=true
theorem M0w:Ref (Old.D0H F l) (D0H F l) LsR:=by
 unfold Old.D0H D0H;refine Ref.e04 (fun h=>?_) (fun h=>?_)<;>simp only[h,if_true,if_false]
 ·refine Ref.bind (Ref.iter V0y _ _ _ rfl) ?_
  rintro(⟨a,i⟩|r) (_|⟨b,j⟩) e
  ·exact e.elim
  ·cases e;simp only[nr]
   repeat' (first|exact Ref.some ⟨rfl,by assumption⟩|exact Ref.some rfl|exact Ref.some trivial|infer_instance|(refine Ref.e04 (fun h=>?_) (fun h=>?_)<;>try simp only[h,nr])|(refine Ref.bq inferInstance fun a=>?_;try simp only[nr])|fail)
  ·cases e;exact Ref.some rfl
  ·exact e.elim
 ·exact Ref.none
theorem F0s:Ref (Old.C0n F l) (C0n F l) Eq:=by
 unfold Old.C0n C0n;refine Ref.bind M0w ?_
 rintro a (_|b) e
 ·cases e;exact Ref.some rfl
 ·obtain⟨rfl,h⟩:=e;have h':(!a.isEmpty)=true:=h;simp only[h',if_true];exact Ref.some rfl
attribute [instance] F0s
theorem S07 (s s':List Int×Int)(h:s=s'):Ref (Old.E0P F l s) (K07 F l s') (C0o Eq Eq):=by
 obtain⟨a,i⟩:=s;subst h;unfold Old.E0P K07
 (try simp only[nr]);repeat' first|exact Ref.some rfl|exact Ref.some trivial|infer_instance|(refine Ref.e04 (fun h=>?_) (fun h=>?_)<;>try simp only[h,nr])|(refine Ref.bq inferInstance fun a=>?_;try simp only[nr])|fail
theorem L07:Ref (Old.C0z F l) (C0z F l) Eq:=by
 unfold Old.C0z C0z
 (try simp only[nr]);repeat' first|exact Ref.some rfl|exact Ref.some trivial|infer_instance|(refine Ref.e04 (fun h=>?_) (fun h=>?_)<;>try simp only[h,nr])|(refine Ref.bq inferInstance fun a=>?_;try simp only[nr])|fail
 exact Ref.iter S07 _ _ _ rfl
attribute [instance] L07
theorem X0A {a b:List Int}:Ref (Old.C02 F a b) (C02 F a b) Eq:=by
 unfold Old.C02 C02
 (try simp only[nr]);repeat' first|exact Ref.some rfl|exact Ref.some trivial|infer_instance|(refine Ref.e04 (fun h=>?_) (fun h=>?_)<;>try simp only[h,nr])|(refine Ref.bq inferInstance fun a=>?_;try simp only[nr])|fail
attribute [instance] X0A
theorem W0I {c:List Bool}:∀{k:Nat} {q:Int},Ref (Old.B08 F k l c q) (B08 F k l c q) Eq:=by
 intro k
 induction k with
 |zero=>intro q;exact Ref.none
 |
  succ k ih=>
  intro q;unfold Old.B08 B08
  (try simp only[nr]);repeat' (first|exact Ref.some rfl|exact ih|infer_instance|(refine Ref.e04 (fun h=>?_) (fun h=>?_)<;>try simp only[h,nr])|(refine Ref.bind (R:=Eq) ?_ ?_;(first|exact Ref.some rfl|exact ih|infer_instance);intro a_ b_ e_;cases e_;try simp only[nr]))
attribute [instance] W0I
theorem Q0q {x:List Int}{c:List Bool}:∀{k:Nat} {q:Int} {o:List Int},Ref (Old.C0h F k l x c q o) (C0h F k l x c q o) Eq:=by
 intro k
 induction k with
 |zero=>intro q o;exact Ref.none
 |
  succ k ih=>
  intro q o;unfold Old.C0h C0h
  (try simp only[nr]);repeat' (first|exact Ref.some rfl|exact ih|infer_instance|(refine Ref.e04 (fun h=>?_) (fun h=>?_)<;>try simp only[h,nr])|(refine Ref.bind (R:=Eq) ?_ ?_;(first|exact Ref.some rfl|exact ih|infer_instance);intro a_ b_ e_;cases e_;try simp only[nr]))
attribute [instance] Q0q
theorem W02 (s:List Int×Int×Int)(s':Int×Int×List Int)(h:Rot s s'):Ref (Old.F0D F l s) (J0F F l s') (C0o Rot Eq):=by
 obtain⟨a,i,j⟩:=s;subst h;unfold Old.F0D J0F
 (try simp only[nr]);repeat' first|exact Ref.some rfl|exact Ref.some trivial|infer_instance|(refine Ref.e04 (fun h=>?_) (fun h=>?_)<;>try simp only[h,nr])|(refine Ref.bq inferInstance fun a=>?_;try simp only[nr])|fail
theorem Q0Y:Ref (Old.D0x F l) (D0x F l) Eq:=by
 unfold Old.D0x D0x
 (try simp only[nr]);repeat' first|exact Ref.some rfl|exact Ref.some trivial|infer_instance|(refine Ref.e04 (fun h=>?_) (fun h=>?_)<;>try simp only[h,nr])|(refine Ref.bq inferInstance fun a=>?_;try simp only[nr])|fail
 exact Ref.iter W02 _ _ _ rfl
attribute [instance] Q0Y
theorem U0l (s:List Bool×Int)(s':Int×List Bool)(h:Sw s s'):Ref (Old.E0Q F l s) (J0Y F l s') (C0o Sw Eq):=by
 obtain⟨a,i⟩:=s;subst h;unfold Old.E0Q J0Y
 (try simp only[nr]);repeat' first|exact Ref.some rfl|exact Ref.some trivial|infer_instance|(refine Ref.e04 (fun h=>?_) (fun h=>?_)<;>try simp only[h,nr])|(refine Ref.bq inferInstance fun a=>?_;try simp only[nr])|fail
theorem P0B:Ref (Old.D0k F l) (D0k F l) Eq:=by
 unfold Old.D0k D0k
 (try simp only[nr]);repeat' first|exact Ref.some rfl|exact Ref.some trivial|infer_instance|(refine Ref.e04 (fun h=>?_) (fun h=>?_)<;>try simp only[h,nr])|(refine Ref.bq inferInstance fun a=>?_;try simp only[nr])|fail
 exact Ref.iter U0l _ _ _ rfl
attribute [instance] P0B
theorem S00 {q:Int}:Ref (Old.D0V F l q) (D0V F l q) Eq:=by
 unfold Old.D0V D0V
 (try simp only[nr]);repeat' first|exact Ref.some rfl|exact Ref.some trivial|infer_instance|(refine Ref.e04 (fun h=>?_) (fun h=>?_)<;>try simp only[h,nr])|(refine Ref.bq inferInstance fun a=>?_;try simp only[nr])|fail
theorem P0x (s:List Int×Int)(s':Int×List Int)(h:Sw s s'):Ref (Old.G0q F l s) (L0V F l s') (C0o Sw Eq):=by
 obtain⟨a,i⟩:=s;subst h;unfold Old.G0q L0V
 (try simp only[nr]);repeat' first|exact Ref.some rfl|exact Ref.some trivial|infer_instance|(refine Ref.e04 (fun h=>?_) (fun h=>?_)<;>try simp only[h,nr])|(refine Ref.bq inferInstance fun a=>?_;try simp only[nr])|fail
theorem S0P {y:List Int}(s:List Int×Int)(s':Int×List Int)(h:Sw s s'):Ref (Old.F0a F l y s) (M0o F l s') (C0o Sw Eq):=by
 obtain⟨a,i⟩:=s;subst h;unfold Old.F0a M0o
 (try simp only[nr]);repeat' first|exact Ref.some rfl|exact Ref.some trivial|infer_instance|(refine Ref.e04 (fun h=>?_) (fun h=>?_)<;>try simp only[h,nr])|(refine Ref.bq inferInstance fun a=>?_;try simp only[nr])|fail
theorem T0D:Ref (Old.D0E F l) (D0E F l) Eq:=by
 unfold Old.D0E D0E
 (try simp only[nr]);repeat' first|exact Ref.some rfl|exact Ref.some trivial|infer_instance|(refine Ref.e04 (fun h=>?_) (fun h=>?_)<;>try simp only[h,nr])|(refine Ref.bq inferInstance fun a=>?_;try simp only[nr])|fail
 refine Ref.bind (Ref.iter P0x _ _ _ rfl) ?_
 rintro a _ rfl
 (try simp only[nr]);repeat' first|exact Ref.some rfl|exact Ref.some trivial|infer_instance|(refine Ref.e04 (fun h=>?_) (fun h=>?_)<;>try simp only[h,nr])|(refine Ref.bq inferInstance fun a=>?_;try simp only[nr])|fail
 exact Ref.iter S0P _ _ _ rfl
attribute [instance] T0D
theorem U0C {up:List Int}(s:List Int×Int)(s':Int×List Int)(h:Sw s s'):Ref (Old.F0B F up s) (L0X F up s') (C0o Sw Eq):=by
 obtain⟨a,i⟩:=s;subst h;unfold Old.F0B L0X
 (try simp only[nr]);repeat' first|exact Ref.some rfl|exact Ref.some trivial|infer_instance|(refine Ref.e04 (fun h=>?_) (fun h=>?_)<;>try simp only[h,nr])|(refine Ref.bq inferInstance fun a=>?_;try simp only[nr])|fail
theorem M0U:Ref (Old.D0D F l) (D0D F l) Eq:=by
 unfold Old.D0D D0D
 (try simp only[nr]);repeat' first|exact Ref.some rfl|exact Ref.some trivial|infer_instance|(refine Ref.e04 (fun h=>?_) (fun h=>?_)<;>try simp only[h,nr])|(refine Ref.bq inferInstance fun a=>?_;try simp only[nr])|fail
 exact Ref.iter U0C _ _ _ rfl
attribute [instance] M0U
theorem W0b {h:List E1}{p:Int}(s s':Int)(e:s=s'):Ref (Old.E0R F h p s) (K0h F h p s') (C0o Eq fun a b=>match a,b with|.inl _,.inr _=>True|.inr r,.inl _=>r=true|_,_=>False):=by
 subst e;unfold Old.E0R K0h
 (try simp only[nr]);repeat' first|exact Ref.some rfl|exact Ref.some trivial|infer_instance|(refine Ref.e04 (fun h=>?_) (fun h=>?_)<;>try simp only[h,nr])|(refine Ref.bq inferInstance fun a=>?_;try simp only[nr])|fail
theorem U06 {h:List E1}{p:Int}:Ref (Old.D02 F h p) (D02 F h p) Eq:=by
 unfold Old.D02 D02;refine Ref.bind (Ref.iter W0b _ _ _ rfl) ?_
 rintro(_|r) (_|_) e
 ·exact e.elim
 ·exact Ref.some rfl
 ·cases e;exact Ref.some rfl
 ·exact e.elim
attribute [instance] U06
theorem W0v {x6:E1}{up deep x3:List Int}{x4:List Bool}{x7:Int}{x8:List Int}{x9:List E1}{x12:Int}{x14:List E1}(s0:List Int)(s:List E1×List E1×Int)(s':List Int×List E1×Int×List E1)(e:s'=(s0,s.1,s.2.2,s.2.1)):
  Ref (Old.D0W F l x6 up deep x3 x4 x7 x8 x9 x12 x14 s) (J06 F up deep x7 s') (C0o (fun s s'=>s'=(s0,s.1,s.2.2,s.2.1)) fun a b=>b=(s0,a)):=by
 obtain⟨o,y,i⟩:=s;subst e;unfold Old.D0W J06
 (try simp only[nr]);repeat' first|exact Ref.some rfl|exact Ref.some trivial|infer_instance|(refine Ref.e04 (fun h=>?_) (fun h=>?_)<;>try simp only[h,nr])|(refine Ref.bq inferInstance fun a=>?_;try simp only[nr])|fail
def RcR (a:(E1×List Int×List E1)⊕(List E1×E1×Bool))(b:(List E1×E1)⊕(List Int×List E1)):Prop:=match a,b with
 |.inl x,.inr y=>y=x.2
 |.inr r,.inl x=>r=(x.1,x.2,false)
 |_,_=>False
theorem Q0U {up deep x3 x5:List Int}{x4:List Bool}{p1:Int}(s:E1×Int×List Int×List E1)(s':List Int×List Bool×Int×List Int×List E1)(e:s'=(x3,x4,s.2)):
  Ref (Old.D0K F l up deep x3 x4 x5 p1 s) (L0y F l up deep s') (C0o (fun s s'=>s'=(x3,x4,s.2)) RcR):=by
 obtain⟨h,q,o,y⟩:=s;subst e;unfold Old.D0K L0y
 (try simp only[nr]);repeat' first|exact Ref.some rfl|exact Ref.some trivial|infer_instance|(refine Ref.e04 (fun h=>?_) (fun h=>?_)<;>try simp only[h,nr])|(refine Ref.bq inferInstance fun a=>?_;try simp only[nr])|fail
 all_goals
  refine Ref.bind (Ref.iter (W0v o) _ _ _ rfl) ?_
  rintro a _ rfl
  (try simp only[nr]);repeat' first|exact Ref.some rfl|exact Ref.some trivial|infer_instance|(refine Ref.e04 (fun h=>?_) (fun h=>?_)<;>try simp only[h,nr])|(refine Ref.bq inferInstance fun a=>?_;try simp only[nr])|fail
theorem Q00 {p:Int}:Ref (Old.D0w F l p) (D0w F l p) Eq:=by
 unfold Old.D0w D0w
 (try simp only[nr]);repeat' first|exact Ref.some rfl|exact Ref.some trivial|infer_instance|(refine Ref.e04 (fun h=>?_) (fun h=>?_)<;>try simp only[h,nr])|(refine Ref.bq inferInstance fun a=>?_;try simp only[nr])|fail
 refine Ref.bind (Ref.iter Q0U _ _ _ rfl) ?_
 rintro(⟨a,b,c⟩|r) (⟨x,y⟩|⟨x,y⟩) e
 ·exact e.elim
 ·cases e;exact Ref.some rfl
 ·cases e;exact Ref.some rfl
 ·exact e.elim
attribute [instance] Q00
theorem U07 {x3:List E1×E1×Bool}{x4:List E1}{r:Int}(s s':List E1×Int)(h:s=s'):Ref (Old.E08 F l x3 x4 r s) (L0p F x3.1 r s') (C0o Eq Eq):=by
 obtain⟨a,i⟩:=s;subst h;unfold Old.E08 L0p
 (try simp only[nr]);repeat' first|exact Ref.some rfl|exact Ref.some trivial|infer_instance|(refine Ref.e04 (fun h=>?_) (fun h=>?_)<;>try simp only[h,nr])|(refine Ref.bq inferInstance fun a=>?_;try simp only[nr])|fail
theorem R00 {x3:List E1×E1×Bool}(s s':List E1×Int)(h:s=s'):Ref (Old.F01 F l x3 s) (K09 F l x3.1 s') (C0o Eq Eq):=by
 obtain⟨a,i⟩:=s;subst h;unfold Old.F01 K09
 (try simp only[nr]);repeat' first|exact Ref.some rfl|exact Ref.some trivial|infer_instance|(refine Ref.e04 (fun h=>?_) (fun h=>?_)<;>try simp only[h,nr])|(refine Ref.bq inferInstance fun a=>?_;try simp only[nr])|fail
 refine Ref.bind (Ref.iter U07 _ _ _ rfl) ?_
 rintro a _ rfl
 (try simp only[nr]);repeat' first|exact Ref.some rfl|exact Ref.some trivial|infer_instance|(refine Ref.e04 (fun h=>?_) (fun h=>?_)<;>try simp only[h,nr])|(refine Ref.bq inferInstance fun a=>?_;try simp only[nr])|fail
theorem P0n {p:Int}:Ref (Old.D0N F l p) (D0N F l p) Eq:=by
 unfold Old.D0N D0N
 (try simp only[nr]);repeat' first|exact Ref.some rfl|exact Ref.some trivial|infer_instance|(refine Ref.e04 (fun h=>?_) (fun h=>?_)<;>try simp only[h,nr])|(refine Ref.bq inferInstance fun a=>?_;try simp only[nr])|fail
 all_goals exact Ref.iter R00 _ _ _ rfl
theorem S0B {q:Int}:Ref (Old.D0X F l q) (D0X F l q) Eq:=by
 unfold Old.D0X D0X
 (try simp only[nr]);repeat' first|exact Ref.some rfl|exact Ref.some trivial|infer_instance|(refine Ref.e04 (fun h=>?_) (fun h=>?_)<;>try simp only[h,nr])|(refine Ref.bq inferInstance fun a=>?_;try simp only[nr])|fail
attribute [instance] S0B
theorem N0E {p:Int}:Ref (Old.D0c F l p) (D0c F l p) Eq:=by
 unfold Old.D0c D0c
 (try simp only[nr]);repeat' first|exact Ref.some rfl|exact Ref.some trivial|infer_instance|(refine Ref.e04 (fun h=>?_) (fun h=>?_)<;>try simp only[h,nr])|(refine Ref.bq inferInstance fun a=>?_;try simp only[nr])|fail
end
