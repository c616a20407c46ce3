/- P. Its conditions: none. -/
import Derived.Test.YtmhooikfkhjijaaGreatYG28
set_option linter.all false
set_option maxHeartbeats 2000000
namespace Go.Proofs.YtmhooikfkhjijaaGreat
open Go.V Go.RowKit
section
variable {F:Nat}{l:List C0}
theorem t0K {k:Int}:Ref (Old.b04 F k) (b04 F k) Eq:=by
 unfold Old.b04 b04
 (try simp only[nr]);repeat' first|exact Ref.some rfl|exact Ref.some trivial|infer_instance|(refine Ref.Y1 (fun h=>?_) (fun h=>?_)<;>try simp only[h,nr])|(refine Ref.bind (R:=Eq) ?_ ?_;infer_instance;intro a b e;cases e;try simp only[nr])|fail
attribute [instance] t0K
def B0v (a:Unit⊕List Int)(b:Unit⊕Unit):Prop:=match a,b with
 |.inl _,.inr _=>True
 |.inr r,.inl _=>r=[]
 |_,_=>False
theorem C06 {y:List Int}{n i:Int}(s c:Int)(h:s=c):Ref (Old.c0V F l y n i s) (m0o F l i c) (W6 Eq B0v):=by
 subst h;unfold Old.c0V m0o
 (try simp only[nr]);repeat' first|exact Ref.some rfl|exact Ref.some trivial|infer_instance|(refine Ref.Y1 (fun h=>?_) (fun h=>?_)<;>try simp only[h,nr])|(refine Ref.bind (R:=Eq) ?_ ?_;infer_instance;intro a b e;cases e;try simp only[nr])|fail
def Rot {α β γ:Type}(s:α×β×γ)(a:β×γ×α):Prop:=a=(s.2.1,s.2.2,s.1)
def LwR (a:(List Int×Int)⊕List Int)(b:Unit⊕(Int×List Int)):Prop:=match a,b with
 |.inl x,.inr y=>y=(x.2,x.1)
 |.inr r,.inl _=>r=[]
 |_,_=>False
def A0h {β:Type}(t:C0)(K:Bool->Option β):(
    Option.bind (α:=Bool) (
     if decide ((t.Kind)<1)then
      some true
     else
      some (decide ((t.Kind)>8))) fun x=>
    Option.bind (α:=Bool) (
     if x then
      some true
     else
      Option.bind (α:=Bool) (
       if(t.Kind) != 2 then
        let d:=!(((gt (t.Set) 0)==0)&&(((gt (t.Set) 1)==0)&&(((gt (t.Set) 2)==0)&&((gt (t.Set) 3)==0))))
        some d
       else
        some false) fun c=>
      some c) fun a=>
    Option.bind (α:=Bool) (
     if a then
      some true
     else
      Option.bind (α:=Bool) (
       if(t.Kind) != 7 then
        some ((t.N) != 0)
       else
        some false) fun f=>
      some f) fun e=>
    Option.bind (α:=Bool) (
     if e then
      some true
     else
      Option.bind (α:=Bool) (
       if(t.Kind)==7 then
        if decide ((t.N)<1)then
         some true
        else
         some (decide ((t.N)>9))
       else
        some false) fun g=>
      some g) fun b=>K b)=Option.bind ((
      if(decide ((t.Kind)<1))then
       some true
      else
       if(decide ((t.Kind)>8))then
        some true
       else
        if((t.Kind) != 2)then
         if(!(((gt (t.Set) 0)==0)&&(((gt (t.Set) 1)==0)&&(((gt (t.Set) 2)==0)&&((gt (t.Set) 3)==0)))))then
          some true
         else
          if((t.Kind) != 7)then
           if((t.N) != 0)then
            some true
           else
            if((t.Kind)==7)then
             if(decide ((t.N)<1))then
              some true
             else
              some (decide ((t.N)>9))
            else
             some false
          else
           if((t.Kind)==7)then
            if(decide ((t.N)<1))then
             some true
            else
             some (decide ((t.N)>9))
           else
            some false
        else
         if((t.Kind) != 7)then
          if((t.N) != 0)then
           some true
          else
           if((t.Kind)==7)then
            if(decide ((t.N)<1))then
             some true
            else
             some (decide ((t.N)>9))
           else
            some false
         else
          if((t.Kind)==7)then
           if(decide ((t.N)<1))then
            some true
           else
            some (decide ((t.N)>9))
          else
           some false):Option Bool) K:=by
 simp only[nr]
 repeat' (first|rfl|(split<;>(try simp only[q0, *,not_true_eq_false,not_false_eq_true])))
def x00 {β:Type}(t:C0)(part a:Bool)(K:Bool->Option β):(
     Option.bind (α:=Bool) (
      if !part then
       some ((t.A) != (-1))
      else
       some false) fun d=>
     Option.bind (α:=Bool) (
      if d then
       some true
      else
       Option.bind (α:=Bool) (
        if !a then
         some ((t.B) != (-1))
        else
         some false) fun c=>
       some c) fun b=>K b)=Option.bind ((
        if(!part)then
         if((t.A) != (-1))then
          some true
         else
          if(!a)then
           some ((t.B) != (-1))
          else
           some false
        else
         if(!a)then
          some ((t.B) != (-1))
         else
          some false):Option Bool) K:=by
 simp only[nr]
 repeat' (first|rfl|(split<;>(try simp only[q0, *,not_true_eq_false,not_false_eq_true])))
theorem Ref.of_eq {α β:Type}{o:Option α}{n a:Option β}{R:α->β->Prop}(e:a=n)(h:Ref o n R):Ref o a R:=e▸h
theorem Ref.n0g {α:Type}{o:Option α}:Ref o o Eq:=⟨fun a h=>⟨a,h,rfl⟩⟩
theorem w0v (s:List Int×Int×Int)(f:Int×Int×List Int)(h:Rot s f):Ref (Old.e0D F l s) (l0w F l f) (W6 Rot LwR):=by
 obtain⟨y,n,i⟩:=s;subst h;unfold Old.e0D l0w;dsimp only;refine Ref.ite (fun h1=>?_) (fun h1=>?_)
 ·refine Ref.ite (fun k=>?_) (fun k=>Ref.none);refine Ref.bind t0K ?_
  rintro⟨part,c⟩ _ rfl
  dsimp only;refine Ref.ite (fun j=>?_) (fun j=>Ref.none);refine Ref.of_eq (A0h (gt l i) _) ?_;refine Ref.bind Ref.n0g ?_
  rintro x _ rfl
  refine Ref.ite (fun d=>Ref.some rfl) (fun d=>?_);refine Ref.of_eq (x00 (gt l i) part c _) ?_;refine Ref.bind Ref.n0g ?_
  rintro x _ rfl
  refine Ref.ite (fun d=>Ref.some rfl) (fun d=>?_);refine Ref.bind Ref.n0g ?_
  rintro m _ rfl
  refine Ref.bind (R:=fun(a:Int⊕List Int) (b:Unit⊕Int)=>match a,b with|.inl x,.inr y=>x=y|.inr r,.inl _=>r=[]|_,_=>False) ?_ ?_
  ·(try simp only[nr]);repeat' first|exact Ref.some rfl|exact Ref.some trivial|infer_instance|(refine Ref.Y1 (fun h=>?_) (fun h=>?_)<;>try simp only[h,nr])|(refine Ref.bind (R:=Eq) ?_ ?_;infer_instance;intro a b e;cases e;try simp only[nr])|fail
  ·rintro(a|r) (_|b) e
   ·exact e.elim
   ·cases e;dsimp only;refine Ref.bind (R:=fun(a:List Int⊕List Int) (b:Unit⊕List Int)=>match a,b with|.inl x,.inr y=>x=y|.inr r,.inl _=>r=[]|_,_=>False) ?_ ?_
    ·(try simp only[nr]);repeat' first|exact Ref.some rfl|exact Ref.some trivial|infer_instance|(refine Ref.Y1 (fun h=>?_) (fun h=>?_)<;>try simp only[h,nr])|(refine Ref.bind (R:=Eq) ?_ ?_;infer_instance;intro a b e;cases e;try simp only[nr])|fail
    ·rintro(a|r) (_|b) e
     ·exact e.elim
     ·cases e;dsimp only;refine Ref.ite (fun g=>?_) (fun g=>Ref.none);refine Ref.bind (Ref.iter C06 _ _ _ rfl) ?_
      rintro(_|r) (_|_) e
      ·exact e.elim
      ·exact Ref.some rfl
      ·cases e;exact Ref.some rfl
      ·exact e.elim
     ·cases e;exact Ref.some rfl
     ·exact e.elim
   ·cases e;exact Ref.some rfl
   ·exact e.elim
 ·exact Ref.some rfl
def LsR (a:List Int)(b:Unit⊕List Int):Prop:=match b with
 |.inl _=>a=[]
 |.inr y=>a=y/\h0r y=true
theorem u0x:Ref (Old.b0c F l) (b0c F l) LsR:=by
 unfold Old.b0c b0c;refine Ref.Y1 (fun h=>?_) (fun h=>?_)<;>simp only[h,if_true,if_false]
 ·refine Ref.bind (Ref.iter w0v _ _ _ rfl) ?_
  rintro(⟨a,i⟩|r) (_|⟨b,j⟩) e
  ·exact e.elim
  ·cases e;simp only[nr]
   repeat' (first|exact Ref.some ⟨rfl,by assumption⟩|exact Ref.some rfl|exact Ref.some trivial|infer_instance|(refine Ref.Y1 (fun h=>?_) (fun h=>?_)<;>try simp only[h,nr])|(refine Ref.bind (R:=Eq) ?_ ?_;infer_instance;intro a b e;cases e;try simp only[nr])|fail)
  ·cases e;exact Ref.some rfl
  ·exact e.elim
 ·exact Ref.none
theorem o0w:Ref (Old.B6 F l) (B6 F l) Eq:=by
 unfold Old.B6 B6;refine Ref.bind u0x ?_
 rintro a (_|b) e
 ·cases e;exact Ref.some rfl
 ·obtain⟨rfl,h⟩:=e;have c:(!a.isEmpty)=true:=h;simp only[c,if_true];exact Ref.some rfl
attribute [instance] o0w
theorem y02 (s c:List Int×Int)(h:s=c):Ref (Old.d0D F l s) (o0C F l c) (W6 Eq Eq):=by
 obtain⟨a,i⟩:=s;subst h;unfold Old.d0D o0C
 (try simp only[nr]);repeat' first|exact Ref.some rfl|exact Ref.some trivial|infer_instance|(refine Ref.Y1 (fun h=>?_) (fun h=>?_)<;>try simp only[h,nr])|(refine Ref.bind (R:=Eq) ?_ ?_;infer_instance;intro a b e;cases e;try simp only[nr])|fail
theorem w0u:Ref (Old.b0t F l) (b0t F l) Eq:=by
 unfold Old.b0t b0t
 (try simp only[nr]);repeat' first|exact Ref.some rfl|exact Ref.some trivial|infer_instance|(refine Ref.Y1 (fun h=>?_) (fun h=>?_)<;>try simp only[h,nr])|(refine Ref.bind (R:=Eq) ?_ ?_;infer_instance;intro a b e;cases e;try simp only[nr])|fail
 exact Ref.iter y02 _ _ _ rfl
attribute [instance] w0u
theorem B07 {a b:List Int}:Ref (Old.K9 F a b) (K9 F a b) Eq:=by
 unfold Old.K9 K9
 (try simp only[nr]);repeat' first|exact Ref.some rfl|exact Ref.some trivial|infer_instance|(refine Ref.Y1 (fun h=>?_) (fun h=>?_)<;>try simp only[h,nr])|(refine Ref.bind (R:=Eq) ?_ ?_;infer_instance;intro a b e;cases e;try simp only[nr])|fail
attribute [instance] B07
theorem y0d {c:List Bool}:∀{k:Nat} {q:Int},Ref (Old.Y5 F k l c q) (Y5 F k l c q) Eq:=by
 intro k
 induction k with
 |zero=>intro q;exact Ref.none
 |succ k ih=>
  intro q;unfold Old.Y5 Y5
  (try simp only[nr]);repeat' (first|exact Ref.some rfl|exact ih|infer_instance|(refine Ref.Y1 (fun h=>?_) (fun h=>?_)<;>try simp only[h,nr])|(refine Ref.bind (R:=Eq) ?_ ?_;(first|exact ih|infer_instance);intro b b_ a;cases a;try simp only[nr])|fail)
attribute [instance] y0d
theorem D0k {x:List Int}{c:List Bool}:∀{k:Nat} {q:Int} {o:List Int},Ref (Old.O6 F k l x c q o) (O6 F k l x c q o) Eq:=by
 intro k
 induction k with
 |zero=>intro q o;exact Ref.none
 |succ k ih=>
  intro q o;unfold Old.O6 O6
  (try simp only[nr]);repeat' (first|exact Ref.some rfl|exact ih|infer_instance|(refine Ref.Y1 (fun h=>?_) (fun h=>?_)<;>try simp only[h,nr])|(refine Ref.bind (R:=Eq) ?_ ?_;(first|exact ih|infer_instance);intro b b_ a;cases a;try simp only[nr])|fail)
attribute [instance] D0k
theorem v0T (s:List Int×Int×Int)(c:Int×Int×List Int)(h:Rot s c):Ref (Old.g0c F l s) (l0F F l c) (W6 Rot Eq):=by
 obtain⟨a,i,j⟩:=s;subst h;unfold Old.g0c l0F
 (try simp only[nr]);repeat' first|exact Ref.some rfl|exact Ref.some trivial|infer_instance|(refine Ref.Y1 (fun h=>?_) (fun h=>?_)<;>try simp only[h,nr])|(refine Ref.bind (R:=Eq) ?_ ?_;infer_instance;intro a b e;cases e;try simp only[nr])|fail
theorem C0J:Ref (Old.b0p F l) (b0p F l) Eq:=by
 unfold Old.b0p b0p
 (try simp only[nr]);repeat' first|exact Ref.some rfl|exact Ref.some trivial|infer_instance|(refine Ref.Y1 (fun h=>?_) (fun h=>?_)<;>try simp only[h,nr])|(refine Ref.bind (R:=Eq) ?_ ?_;infer_instance;intro a b e;cases e;try simp only[nr])|fail
 exact Ref.iter v0T _ _ _ rfl
attribute [instance] C0J
theorem v0p (s:List Bool×Int)(c:Int×List Bool)(h:Sw s c):Ref (Old.e0C F l s) (m0Y F l c) (W6 Sw Eq):=by
 obtain⟨a,i⟩:=s;subst h;unfold Old.e0C m0Y
 (try simp only[nr]);repeat' first|exact Ref.some rfl|exact Ref.some trivial|infer_instance|(refine Ref.Y1 (fun h=>?_) (fun h=>?_)<;>try simp only[h,nr])|(refine Ref.bind (R:=Eq) ?_ ?_;infer_instance;intro a b e;cases e;try simp only[nr])|fail
theorem E0E:Ref (Old.a0j F l) (a0j F l) Eq:=by
 unfold Old.a0j a0j
 (try simp only[nr]);repeat' first|exact Ref.some rfl|exact Ref.some trivial|infer_instance|(refine Ref.Y1 (fun h=>?_) (fun h=>?_)<;>try simp only[h,nr])|(refine Ref.bind (R:=Eq) ?_ ?_;infer_instance;intro a b e;cases e;try simp only[nr])|fail
 exact Ref.iter v0p _ _ _ rfl
attribute [instance] E0E
theorem C0t (s:List Int×Int)(c:Int×List Int)(h:Sw s c):Ref (Old.n0c F l s) (l0y F l c) (W6 Sw Eq):=by
 obtain⟨a,i⟩:=s;subst h;unfold Old.n0c l0y
 (try simp only[nr]);repeat' first|exact Ref.some rfl|exact Ref.some trivial|infer_instance|(refine Ref.Y1 (fun h=>?_) (fun h=>?_)<;>try simp only[h,nr])|(refine Ref.bind (R:=Eq) ?_ ?_;infer_instance;intro a b e;cases e;try simp only[nr])|fail
theorem x0l {y:List Int}(s:List Int×Int)(c:Int×List Int)(h:Sw s c):Ref (Old.h0N F l y s) (k0P F l c) (W6 Sw Eq):=by
 obtain⟨a,i⟩:=s;subst h;unfold Old.h0N k0P
 (try simp only[nr]);repeat' first|exact Ref.some rfl|exact Ref.some trivial|infer_instance|(refine Ref.Y1 (fun h=>?_) (fun h=>?_)<;>try simp only[h,nr])|(refine Ref.bind (R:=Eq) ?_ ?_;infer_instance;intro a b e;cases e;try simp only[nr])|fail
theorem z0X:Ref (Old.c0n F l) (c0n F l) Eq:=by
 unfold Old.c0n c0n
 (try simp only[nr]);repeat' first|exact Ref.some rfl|exact Ref.some trivial|infer_instance|(refine Ref.Y1 (fun h=>?_) (fun h=>?_)<;>try simp only[h,nr])|(refine Ref.bind (R:=Eq) ?_ ?_;infer_instance;intro a b e;cases e;try simp only[nr])|fail
 refine Ref.bind (Ref.iter C0t _ _ _ rfl) ?_
 rintro a _ rfl
 (try simp only[nr]);repeat' first|exact Ref.some rfl|exact Ref.some trivial|infer_instance|(refine Ref.Y1 (fun h=>?_) (fun h=>?_)<;>try simp only[h,nr])|(refine Ref.bind (R:=Eq) ?_ ?_;infer_instance;intro a b e;cases e;try simp only[nr])|fail
 exact Ref.iter x0l _ _ _ rfl
attribute [instance] z0X
theorem D0U {up:List Int}(s:List Int×Int)(c:Int×List Int)(h:Sw s c):Ref (Old.o0u F up s) (l0G F up c) (W6 Sw Eq):=by
 obtain⟨a,i⟩:=s;subst h;unfold Old.o0u l0G
 (try simp only[nr]);repeat' first|exact Ref.some rfl|exact Ref.some trivial|infer_instance|(refine Ref.Y1 (fun h=>?_) (fun h=>?_)<;>try simp only[h,nr])|(refine Ref.bind (R:=Eq) ?_ ?_;infer_instance;intro a b e;cases e;try simp only[nr])|fail
theorem w0f:Ref (Old.e0N F l) (e0N F l) Eq:=by
 unfold Old.e0N e0N
 (try simp only[nr]);repeat' first|exact Ref.some rfl|exact Ref.some trivial|infer_instance|(refine Ref.Y1 (fun h=>?_) (fun h=>?_)<;>try simp only[h,nr])|(refine Ref.bind (R:=Eq) ?_ ?_;infer_instance;intro a b e;cases e;try simp only[nr])|fail
 exact Ref.iter D0U _ _ _ rfl
attribute [instance] w0f
theorem E0T {h:List y0}{p:Int}(s c:Int)(e:s=c):Ref (Old.l0R F h p s) (o0q F h p c) (W6 Eq fun a b=>match a,b with|.inl _,.inr _=>True|.inr r,.inl _=>r=true|_,_=>False):=by
 subst e;unfold Old.l0R o0q
 (try simp only[nr]);repeat' first|exact Ref.some rfl|exact Ref.some trivial|infer_instance|(refine Ref.Y1 (fun h=>?_) (fun h=>?_)<;>try simp only[h,nr])|(refine Ref.bind (R:=Eq) ?_ ?_;infer_instance;intro a b e;cases e;try simp only[nr])|fail
theorem D08 {h:List y0}{p:Int}:Ref (Old.e0b F h p) (e0b F h p) Eq:=by
 unfold Old.e0b e0b;refine Ref.bind (Ref.iter E0T _ _ _ rfl) ?_
 rintro(_|r) (_|_) e
 ·exact e.elim
 ·exact Ref.some rfl
 ·cases e;exact Ref.some rfl
 ·exact e.elim
attribute [instance] D08
theorem w0M {q:y0}{up deep k:List Int}{n:List Bool}{j:Int}{p:List Int}{m:List y0}{g:Int}{f:List y0}(d:List Int)(s:List y0×List y0×Int)(c:List Int×List y0×Int×List y0)(e:c=(d,s.1,s.2.2,s.2.1)):
  Ref (Old.o0m F l q up deep k n j p m g f s) (m0C F up deep j c) (W6 (fun s c=>c=(d,s.1,s.2.2,s.2.1)) fun a b=>b=(d,a)):=by
 obtain⟨o,y,i⟩:=s;subst e;unfold Old.o0m m0C
 (try simp only[nr]);repeat' first|exact Ref.some rfl|exact Ref.some trivial|infer_instance|(refine Ref.Y1 (fun h=>?_) (fun h=>?_)<;>try simp only[h,nr])|(refine Ref.bind (R:=Eq) ?_ ?_;infer_instance;intro a b e;cases e;try simp only[nr])|fail
def RcR (a:(y0×List Int×List y0)⊕(List y0×y0×Bool))(b:(List y0×y0)⊕(List Int×List y0)):Prop:=match a,b with
 |.inl x,.inr y=>y=x.2
 |.inr r,.inl x=>r=(x.1,x.2,false)
 |_,_=>False
theorem B0h {up deep d g:List Int}{f:List Bool}{p1:Int}(s:y0×Int×List Int×List y0)(c:List Int×List Bool×Int×List Int×List y0)(e:c=(d,f,s.2)):
  Ref (Old.m0O F l up deep d f g p1 s) (l0f F l up deep c) (W6 (fun s c=>c=(d,f,s.2)) RcR):=by
 obtain⟨h,q,o,y⟩:=s;subst e;unfold Old.m0O l0f
 (try simp only[nr]);repeat' first|exact Ref.some rfl|exact Ref.some trivial|infer_instance|(refine Ref.Y1 (fun h=>?_) (fun h=>?_)<;>try simp only[h,nr])|(refine Ref.bind (R:=Eq) ?_ ?_;infer_instance;intro a b e;cases e;try simp only[nr])|fail
 all_goals
  refine Ref.bind (Ref.iter (w0M o) _ _ _ rfl) ?_
  rintro a _ rfl
  (try simp only[nr]);repeat' first|exact Ref.some rfl|exact Ref.some trivial|infer_instance|(refine Ref.Y1 (fun h=>?_) (fun h=>?_)<;>try simp only[h,nr])|(refine Ref.bind (R:=Eq) ?_ ?_;infer_instance;intro a b e;cases e;try simp only[nr])|fail
theorem z0M {p:Int}:Ref (Old.e0d F l p) (e0d F l p) Eq:=by
 unfold Old.e0d e0d
 (try simp only[nr]);repeat' first|exact Ref.some rfl|exact Ref.some trivial|infer_instance|(refine Ref.Y1 (fun h=>?_) (fun h=>?_)<;>try simp only[h,nr])|(refine Ref.bind (R:=Eq) ?_ ?_;infer_instance;intro a b e;cases e;try simp only[nr])|fail
 refine Ref.bind (Ref.iter B0h _ _ _ rfl) ?_
 rintro(⟨a,b,c⟩|r) (⟨x,y⟩|⟨x,y⟩) e
 ·exact e.elim
 ·cases e;exact Ref.some rfl
 ·cases e;exact Ref.some rfl
 ·exact e.elim
attribute [instance] z0M
theorem z0P {q:Int}:Ref (Old.c0i F l q) (c0i F l q) Eq:=by
 unfold Old.c0i c0i
 (try simp only[nr]);repeat' first|exact Ref.some rfl|exact Ref.some trivial|infer_instance|(refine Ref.Y1 (fun h=>?_) (fun h=>?_)<;>try simp only[h,nr])|(refine Ref.bind (R:=Eq) ?_ ?_;infer_instance;intro a b e;cases e;try simp only[nr])|fail
attribute [instance] z0P
end
