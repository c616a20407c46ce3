/- P. Its conditions: none. -/
import Derived.Test.YtihmgaccbcfgjaaGreatTG30
set_option linter.all false
set_option maxHeartbeats 2000000
namespace Go.Proofs.YtihmgaccbcfgjaaGreat
open Go.V Go.RowKit
section
variable {F:Nat}{l:List C0}
theorem u07 {k:Int}:Ref (Old.c0t F k) (c0t F k) Eq:=by
 unfold Old.c0t c0t
 exact J'
attribute [instance] u07
def B0Z (a:Unit⊕List Int)(b:Unit⊕Unit):Prop:=match a,b with
 |.inl _,.inr _=>True
 |.inr r,.inl _=>r=[]
 |_,_=>False
theorem B0T {y:List Int}{n i:Int}(s a:Int)(h:s=a):Ref (Old.d0A F l y n i s) (n0Y F l i a) (I6 Eq B0Z):=by
 subst h;unfold Old.d0A n0Y
 exact J'
def Rot {α β γ:Type}(s:α×β×γ)(a:β×γ×α):Prop:=a=(s.2.1,s.2.2,s.1)
def LwR (a:(List Int×Int)⊕List Int)(b:Unit⊕(Int×List Int)):Prop:=match a,b with
 |.inl x,.inr y=>y=(x.2,x.1)
 |.inr r,.inl _=>r=[]
 |_,_=>False
def E0l {β:Type}(t:C0)(K:Bool->Option β):(
    Option.bind (α:=Bool) (
     if decide ((t.Kind)<1)then
      some true
     else
      some (decide ((t.Kind)>8))) fun x=>
    Option.bind (α:=Bool) (
     if x then
      some true
     else
      Option.bind (α:=Bool) (
       if(t.Kind) != 2 then
        let e:=!(((gt (t.Set) 0)==0)&&(((gt (t.Set) 1)==0)&&(((gt (t.Set) 2)==0)&&((gt (t.Set) 3)==0))))
        some e
       else
        some false) fun d=>
      some d) fun g=>
    Option.bind (α:=Bool) (
     if g then
      some true
     else
      Option.bind (α:=Bool) (
       if(t.Kind) != 7 then
        some ((t.N) != 0)
       else
        some false) fun c=>
      some c) fun b=>
    Option.bind (α:=Bool) (
     if b then
      some true
     else
      Option.bind (α:=Bool) (
       if(t.Kind)==7 then
        if decide ((t.N)<1)then
         some true
        else
         some (decide ((t.N)>9))
       else
        some false) fun f=>
      some f) fun a=>K a)=Option.bind ((
      if(decide ((t.Kind)<1))then
       some true
      else
       if(decide ((t.Kind)>8))then
        some true
       else
        if((t.Kind) != 2)then
         if(!(((gt (t.Set) 0)==0)&&(((gt (t.Set) 1)==0)&&(((gt (t.Set) 2)==0)&&((gt (t.Set) 3)==0)))))then
          some true
         else
          if((t.Kind) != 7)then
           if((t.N) != 0)then
            some true
           else
            if((t.Kind)==7)then
             if(decide ((t.N)<1))then
              some true
             else
              some (decide ((t.N)>9))
            else
             some false
          else
           if((t.Kind)==7)then
            if(decide ((t.N)<1))then
             some true
            else
             some (decide ((t.N)>9))
           else
            some false
        else
         if((t.Kind) != 7)then
          if((t.N) != 0)then
           some true
          else
           if((t.Kind)==7)then
            if(decide ((t.N)<1))then
             some true
            else
             some (decide ((t.N)>9))
           else
            some false
         else
          if((t.Kind)==7)then
           if(decide ((t.N)<1))then
            some true
           else
            some (decide ((t.N)>9))
          else
           some false):Option Bool) K:=by
 simp only[nr]
 repeat' (first|rfl|(split<;>(try simp only[q0, *,not_true_eq_false,not_false_eq_true])))
def E0s {β:Type}(t:C0)(part a:Bool)(K:Bool->Option β):(
     Option.bind (α:=Bool) (
      if !part then
       some ((t.A) != (-1))
      else
       some false) fun d=>
     Option.bind (α:=Bool) (
      if d then
       some true
      else
       Option.bind (α:=Bool) (
        if !a then
         some ((t.B) != (-1))
        else
         some false) fun b=>
       some b) fun c=>K c)=Option.bind ((
        if(!part)then
         if((t.A) != (-1))then
          some true
         else
          if(!a)then
           some ((t.B) != (-1))
          else
           some false
        else
         if(!a)then
          some ((t.B) != (-1))
         else
          some false):Option Bool) K:=by
 simp only[nr]
 repeat' (first|rfl|(split<;>(try simp only[q0, *,not_true_eq_false,not_false_eq_true])))
theorem Ref.of_eq {α β:Type}{o:Option α}{n a:Option β}{R:α->β->Prop}(e:a=n)(h:Ref o n R):Ref o a R:=e▸h
theorem Ref.l02 {α:Type}{o:Option α}:Ref o o Eq:=⟨fun a h=>⟨a,h,rfl⟩⟩
theorem B0A (s:List Int×Int×Int)(f:Int×Int×List Int)(h:Rot s f):Ref (Old.e0h F l s) (m0R F l f) (I6 Rot LwR):=by
 obtain⟨y,n,i⟩:=s;subst h;unfold Old.e0h m0R;dsimp only;refine Ref.ite (fun h1=>?_) (fun h1=>?_)
 ·refine Ref.ite (fun k=>?_) (fun k=>Ref.none);refine Ref.bind u07 ?_
  rintro⟨part,c⟩ _ rfl
  dsimp only;refine Ref.ite (fun j=>?_) (fun j=>Ref.none);refine Ref.of_eq (E0l (gt l i) _) ?_;refine Ref.bind Ref.l02 ?_
  rintro x _ rfl
  refine Ref.ite (fun d=>Ref.some rfl) (fun d=>?_);refine Ref.of_eq (E0s (gt l i) part c _) ?_;refine Ref.bind Ref.l02 ?_
  rintro x _ rfl
  refine Ref.ite (fun d=>Ref.some rfl) (fun d=>?_);refine Ref.bind Ref.l02 ?_
  rintro m _ rfl
  refine Ref.bind (R:=fun(a:Int⊕List Int) (b:Unit⊕Int)=>match a,b with|.inl x,.inr y=>x=y|.inr r,.inl _=>r=[]|_,_=>False) ?_ ?_
  ·(try simp only[nr]);repeat' first|exact Ref.some rfl|exact Ref.some trivial|infer_instance|(refine Ref.B2 (fun h=>?_) (fun h=>?_)<;>try simp only[h,nr])|(refine Ref.bind (R:=Eq) ?_ ?_;infer_instance;intro a b e;cases e;try simp only[nr])|fail
  ·rintro(a|r) (_|b) e
   ·exact e.elim
   ·cases e;dsimp only;refine Ref.bind (R:=fun(a:List Int⊕List Int) (b:Unit⊕List Int)=>match a,b with|.inl x,.inr y=>x=y|.inr r,.inl _=>r=[]|_,_=>False) ?_ ?_
    ·(try simp only[nr]);repeat' first|exact Ref.some rfl|exact Ref.some trivial|infer_instance|(refine Ref.B2 (fun h=>?_) (fun h=>?_)<;>try simp only[h,nr])|(refine Ref.bind (R:=Eq) ?_ ?_;infer_instance;intro a b e;cases e;try simp only[nr])|fail
    ·rintro(a|r) (_|b) e
     ·exact e.elim
     ·cases e;dsimp only;refine Ref.ite (fun g=>?_) (fun g=>Ref.none);refine Ref.bind (Ref.iter B0T _ _ _ rfl) ?_
      rintro(_|r) (_|_) e
      ·exact e.elim
      ·exact Ref.some rfl
      ·cases e;exact Ref.some rfl
      ·exact e.elim
     ·cases e;exact Ref.some rfl
     ·exact e.elim
   ·cases e;exact Ref.some rfl
   ·exact e.elim
 ·exact Ref.some rfl
def LsR (a:List Int)(b:Unit⊕List Int):Prop:=match b with
 |.inl _=>a=[]
 |.inr y=>a=y/\h08 y=true
theorem q0T:Ref (Old.b0G F l) (b0G F l) LsR:=by
 unfold Old.b0G b0G;refine Ref.B2 (fun h=>?_) (fun h=>?_)<;>simp only[h,if_true,if_false]
 ·refine Ref.bind (Ref.iter B0A _ _ _ rfl) ?_
  rintro(⟨a,i⟩|r) (_|⟨b,j⟩) e
  ·exact e.elim
  ·cases e;simp only[nr]
   repeat' (first|exact Ref.some ⟨rfl,by assumption⟩|exact Ref.some rfl|exact Ref.some trivial|infer_instance|(refine Ref.B2 (fun h=>?_) (fun h=>?_)<;>try simp only[h,nr])|(refine Ref.bind (R:=Eq) ?_ ?_;infer_instance;intro a b e;cases e;try simp only[nr])|fail)
  ·cases e;exact Ref.some rfl
  ·exact e.elim
 ·exact Ref.none
theorem o01:Ref (Old.U6 F l) (U6 F l) Eq:=by
 unfold Old.U6 U6;refine Ref.bind q0T ?_
 rintro a (_|b) e
 ·cases e;exact Ref.some rfl
 ·obtain⟨rfl,h⟩:=e;have c:(!a.isEmpty)=true:=h;simp only[c,if_true];exact Ref.some rfl
attribute [instance] o01
theorem C0T (s b:List Int×Int)(h:s=b):Ref (Old.e0i F l s) (q0u F l b) (I6 Eq Eq):=by
 obtain⟨a,i⟩:=s;subst h;unfold Old.e0i q0u
 exact J'
theorem E0u:Ref (Old.b0P F l) (b0P F l) Eq:=by
 unfold Old.b0P b0P
 (try simp only[nr]);repeat' first|exact Ref.some rfl|exact Ref.some trivial|infer_instance|(refine Ref.B2 (fun h=>?_) (fun h=>?_)<;>try simp only[h,nr])|(refine Ref.bind (R:=Eq) ?_ ?_;infer_instance;intro a b e;cases e;try simp only[nr])|fail
 exact Ref.iter C0T _ _ _ rfl
attribute [instance] E0u
theorem B0Q {a b:List Int}:Ref (Old.O9 F a b) (O9 F a b) Eq:=by
 unfold Old.O9 O9
 exact J'
attribute [instance] B0Q
theorem H06 {c:List Bool}:∀{k:Nat} {q:Int},Ref (Old.R5 F k l c q) (R5 F k l c q) Eq:=by
 intro k
 induction k with
 |zero=>intro q;exact Ref.none
 |succ k ih=>
  intro q;unfold Old.R5 R5
  (try simp only[nr]);repeat' (first|exact Ref.some rfl|exact ih|infer_instance|(refine Ref.B2 (fun h=>?_) (fun h=>?_)<;>try simp only[h,nr])|(refine Ref.bind (R:=Eq) ?_ ?_;(first|exact ih|infer_instance);intro b b_ a;cases a;try simp only[nr])|fail)
attribute [instance] H06
theorem F0R {x:List Int}{c:List Bool}:∀{k:Nat} {q:Int} {o:List Int},Ref (Old.D6 F k l x c q o) (D6 F k l x c q o) Eq:=by
 intro k
 induction k with
 |zero=>intro q o;exact Ref.none
 |succ k ih=>
  intro q o;unfold Old.D6 D6
  (try simp only[nr]);repeat' (first|exact Ref.some rfl|exact ih|infer_instance|(refine Ref.B2 (fun h=>?_) (fun h=>?_)<;>try simp only[h,nr])|(refine Ref.bind (R:=Eq) ?_ ?_;(first|exact ih|infer_instance);intro b b_ a;cases a;try simp only[nr])|fail)
attribute [instance] F0R
theorem E0J (s:List Int×Int×Int)(b:Int×Int×List Int)(h:Rot s b):Ref (Old.f0s F l s) (n0Z F l b) (I6 Rot Eq):=by
 obtain⟨a,i,j⟩:=s;subst h;unfold Old.f0s n0Z
 exact J'
theorem C02:Ref (Old.b0S F l) (b0S F l) Eq:=by
 unfold Old.b0S b0S
 (try simp only[nr]);repeat' first|exact Ref.some rfl|exact Ref.some trivial|infer_instance|(refine Ref.B2 (fun h=>?_) (fun h=>?_)<;>try simp only[h,nr])|(refine Ref.bind (R:=Eq) ?_ ?_;infer_instance;intro a b e;cases e;try simp only[nr])|fail
 exact Ref.iter E0J _ _ _ rfl
attribute [instance] C02
theorem D0u (s:List Bool×Int)(b:Int×List Bool)(h:Sw s b):Ref (Old.d00 F l s) (p0e F l b) (I6 Sw Eq):=by
 obtain⟨a,i⟩:=s;subst h;unfold Old.d00 p0e
 exact J'
theorem G0n:Ref (Old.a0U F l) (a0U F l) Eq:=by
 unfold Old.a0U a0U
 (try simp only[nr]);repeat' first|exact Ref.some rfl|exact Ref.some trivial|infer_instance|(refine Ref.B2 (fun h=>?_) (fun h=>?_)<;>try simp only[h,nr])|(refine Ref.bind (R:=Eq) ?_ ?_;infer_instance;intro a b e;cases e;try simp only[nr])|fail
 exact Ref.iter D0u _ _ _ rfl
attribute [instance] G0n
theorem C0y (s:List Int×Int)(b:Int×List Int)(h:Sw s b):Ref (Old.n0A F l s) (m0E F l b) (I6 Sw Eq):=by
 obtain⟨a,i⟩:=s;subst h;unfold Old.n0A m0E
 exact J'
theorem z0J {y:List Int}(s:List Int×Int)(b:Int×List Int)(h:Sw s b):Ref (Old.h0I F l y s) (p0F F l b) (I6 Sw Eq):=by
 obtain⟨a,i⟩:=s;subst h;unfold Old.h0I p0F
 exact J'
theorem C0p:Ref (Old.c0E F l) (c0E F l) Eq:=by
 unfold Old.c0E c0E
 (try simp only[nr]);repeat' first|exact Ref.some rfl|exact Ref.some trivial|infer_instance|(refine Ref.B2 (fun h=>?_) (fun h=>?_)<;>try simp only[h,nr])|(refine Ref.bind (R:=Eq) ?_ ?_;infer_instance;intro a b e;cases e;try simp only[nr])|fail
 refine Ref.bind (Ref.iter C0y _ _ _ rfl) ?_
 rintro a _ rfl
 (try simp only[nr]);repeat' first|exact Ref.some rfl|exact Ref.some trivial|infer_instance|(refine Ref.B2 (fun h=>?_) (fun h=>?_)<;>try simp only[h,nr])|(refine Ref.bind (R:=Eq) ?_ ?_;infer_instance;intro a b e;cases e;try simp only[nr])|fail
 exact Ref.iter z0J _ _ _ rfl
attribute [instance] C0p
theorem H0z {up:List Int}(s:List Int×Int)(b:Int×List Int)(h:Sw s b):Ref (Old.m0h F up s) (p0x F up b) (I6 Sw Eq):=by
 obtain⟨a,i⟩:=s;subst h;unfold Old.m0h p0x
 exact J'
theorem E0w:Ref (Old.e0d F l) (e0d F l) Eq:=by
 unfold Old.e0d e0d
 (try simp only[nr]);repeat' first|exact Ref.some rfl|exact Ref.some trivial|infer_instance|(refine Ref.B2 (fun h=>?_) (fun h=>?_)<;>try simp only[h,nr])|(refine Ref.bind (R:=Eq) ?_ ?_;infer_instance;intro a b e;cases e;try simp only[nr])|fail
 exact Ref.iter H0z _ _ _ rfl
attribute [instance] E0w
theorem I06 {h:List B0}{p:Int}(s c:Int)(e:s=c):Ref (Old.n0u F h p s) (n0S F h p c) (I6 Eq fun a b=>match a,b with|.inl _,.inr _=>True|.inr r,.inl _=>r=true|_,_=>False):=by
 subst e;unfold Old.n0u n0S
 exact J'
theorem C0S {h:List B0}{p:Int}:Ref (Old.e0K F h p) (e0K F h p) Eq:=by
 unfold Old.e0K e0K;refine Ref.bind (Ref.iter I06 _ _ _ rfl) ?_
 rintro(_|r) (_|_) e
 ·exact e.elim
 ·exact Ref.some rfl
 ·cases e;exact Ref.some rfl
 ·exact e.elim
attribute [instance] C0S
theorem z0b {p:B0}{up deep k:List Int}{m:List Bool}{h:Int}{n:List Int}{j:List B0}{d:Int}{g:List B0}(f:List Int)(s:List B0×List B0×Int)(c:List Int×List B0×Int×List B0)(e:c=(f,s.1,s.2.2,s.2.1)):
  Ref (Old.o0R F l p up deep k m h n j d g s) (o0K F up deep h c) (I6 (fun s c=>c=(f,s.1,s.2.2,s.2.1)) fun a b=>b=(f,a)):=by
 obtain⟨o,y,i⟩:=s;subst e;unfold Old.o0R o0K
 exact J'
def RcR (a:(B0×List Int×List B0)⊕(List B0×B0×Bool))(b:(List B0×B0)⊕(List Int×List B0)):Prop:=match a,b with
 |.inl x,.inr y=>y=x.2
 |.inr r,.inl x=>r=(x.1,x.2,false)
 |_,_=>False
theorem y0m {up deep d g:List Int}{f:List Bool}{p1:Int}(s:B0×Int×List Int×List B0)(c:List Int×List Bool×Int×List Int×List B0)(e:c=(d,f,s.2)):
  Ref (Old.p0b F l up deep d f g p1 s) (o0o F l up deep c) (I6 (fun s c=>c=(d,f,s.2)) RcR):=by
 obtain⟨h,q,o,y⟩:=s;subst e;unfold Old.p0b o0o
 (try simp only[nr]);repeat' first|exact Ref.some rfl|exact Ref.some trivial|infer_instance|(refine Ref.B2 (fun h=>?_) (fun h=>?_)<;>try simp only[h,nr])|(refine Ref.bind (R:=Eq) ?_ ?_;infer_instance;intro a b e;cases e;try simp only[nr])|fail
 all_goals
  refine Ref.bind (Ref.iter (z0b o) _ _ _ rfl) ?_
  rintro a _ rfl
  exact J'
theorem F0F {p:Int}:Ref (Old.e07 F l p) (e07 F l p) Eq:=by
 unfold Old.e07 e07
 (try simp only[nr]);repeat' first|exact Ref.some rfl|exact Ref.some trivial|infer_instance|(refine Ref.B2 (fun h=>?_) (fun h=>?_)<;>try simp only[h,nr])|(refine Ref.bind (R:=Eq) ?_ ?_;infer_instance;intro a b e;cases e;try simp only[nr])|fail
 refine Ref.bind (Ref.iter y0m _ _ _ rfl) ?_
 rintro(⟨a,b,c⟩|r) (⟨x,y⟩|⟨x,y⟩) e
 ·exact e.elim
 ·cases e;exact Ref.some rfl
 ·cases e;exact Ref.some rfl
 ·exact e.elim
attribute [instance] F0F
theorem B04 {q:Int}:Ref (Old.c0Y F l q) (c0Y F l q) Eq:=by
 unfold Old.c0Y c0Y
 exact J'
attribute [instance] B04
end
