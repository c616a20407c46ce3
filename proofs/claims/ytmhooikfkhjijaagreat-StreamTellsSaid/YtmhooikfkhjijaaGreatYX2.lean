/- P. Its conditions: none. -/
import Derived.Test.YtmhooikfkhjijaaGreatYX1
set_option linter.all false
namespace Go.X
open Go.V Go.RowKit
inductive Sh where
 |any|d (t:U)|own (e:Nat) (t:U)|box (T:Nat) (cs:List Sh)|agg (cs:List Sh)|tup (cs:List Sh)|nil|nilp|nilif|kb (b:Bool)
 |fn (f:Nat) (cs:List Sh)|ifc (T:Nat) (x:Sh)|alt (x y:Sh)|map|M0 (e:Nat) (F:List Nat) (t:U)
def DC:Bool->Bool->Type->Type->Type
 |true,_,_,B=>B
 |false,true,A,_=>A
 |false,false,A,B=>A×B
def a0N {A B:Type}:(p q:Bool)->A->B->DC p q A B
 |true,_,_,b=>b
 |false,true,a,_=>a
 |false,false,a,b=>(a,b)
def D9 {A B:Type}:(p q:Bool)->A->DC p q A B->A
 |true,_,a,_=>a
 |false,true,_,x=>x
 |false,false,_,x=>x.1
def a0W {A B:Type}:(p q:Bool)->B->DC p q A B->B
 |true,_,_,x=>x
 |false,true,b,_=>b
 |false,false,_,x=>x.2
mutual
def j4:Sh->Bool
 |.d _|.own _ _|.alt _ _|.map|.M0 ..=>false
 |.box _ cs|.agg cs|.tup cs|.fn _ cs=>K3 cs
 |.ifc _ x=>j4 x
 |_=>true
def K3:List Sh->Bool
 |[]=>true
 |x :: r=>j4 x&&K3 r
end
mutual
def Q3 (D:Nat->Type):Sh->Type
 |.d t=>Den D t
 |.own _ t|.M0 _ _ t=>List (Den D t)
 |.box _ cs|.agg cs|.tup cs|.fn _ cs=>O2 D cs
 |.ifc _ x=>Q3 D x
 |.alt x y=>Q3 D x⊕Q3 D y
 |.map=>List (Int×Int)
 |_=>Unit
def O2 (D:Nat->Type):List Sh->Type
 |[]=>Unit
 |x :: r=>DC (j4 x) (K3 r) (Q3 D x) (O2 D r)
end
section
variable (E:Env)
mutual
def K7:(x:Sh)->Q3 E.D x
 |.d t=>dfl E t
 |.own _ _|.M0 _ _ _=>([]:List _)
 |.box _ cs|.agg cs|.tup cs|.fn _ cs=>k9 cs
 |.ifc _ x=>K7 x
 |.alt x _=>Sum.inl (K7 x)
 |.map=>([]:List (Int×Int))
 |.any|.nil|.nilp|.nilif|.kb _=>()
def k9:(l:List Sh)->O2 E.D l
 |[]=>()
 |x :: r=>a0N (j4 x) (K3 r) (K7 x) (k9 r)
end
def A6 {D:Nat->Type}(t u:U)(x:List (Den D t)):Option (List (Den D u)):=if h:t=u then some (h▸x)else none
structure TD (E:Env) where
 D:(t:U)->V E.D->Option (Den E.D t)
 M:(t:U)->List (V E.D)->Option (Den E.D t)
 F:(ts:List U)->List (V E.D)->Option (HL E.D ts×List (V E.D))
 A:(t:U)->Nat->List (V E.D)->Option (List (Den E.D t)×List (V E.D))
def a0T {D:Nat->Type}(ik:IntKind)(v:V D):Option Int:=match o3 v with
 |some (ik',x)=>match decide (ik'=ik)with|true=>some x|false=>none
 |none=>none
def a0K {D:Nat->Type}(v:V D):Option ByteArray:=match v with|.d .str x=>some x|_=>none
def a0R (s:St E.D)(t:U)(v:V E.D):Option (List (Den E.D t)):=match v with
 |.nil=>some []
 |.d (.list t') xs=>A6 t' t xs
 |
  .sl id=>match C0 s id with
  |.fz t' xs=>A6 t' t xs
  |_=>none
 |_=>none
def unD {D:Nat->Type}:V D->Option ((t:U)×Den D t)
 |.d t x=>some ⟨t,x⟩
 |_=>none
def k0z {D:Nat->Type}:V D->Bool
 |.nilp=>true
 |_=>false
def b06 {α β:Type}:Option (α×List β)->Option α
 |some (x,[])=>some x
 |_=>none
def a0S (r:TD E)(i:Nat)(v:V E.D):Option (E.D i):=match unD v with
 |some ⟨t',x⟩=>X9 t' (.st i) x
 |
  none=>match b0b v with
  |
   some l=>match b06 (r.F (E.fs i) l)with
   |some h=>some (E.mkS i h)
   |none=>none
  |none=>none
def a0V (r:TD E)(n:Nat)(t:U)(v:V E.D):Option (List (Den E.D t)):=match unD v with
 |some ⟨t',x⟩=>X9 t' (.arr n t) x
 |
  none=>match b0b v with
  |some l=>b06 (r.A t n l)
  |none=>none
def a0f (s:St E.D)(r:TD E)(t:U)(v:V E.D):Option (Den E.D t):=match v with
 |.pd t' x=>X9 t' t x
 |.d (.ptr t') x=>X9 t' t x
 |
  .pb id 0 []=>match C0 s id with
  |.fzb _ cs=>r.M t cs
  |_=>none
 |_=>none
def a0L (s:St E.D)(r:TD E)(t:U)(v:V E.D):Option (Option (Den E.D t)):=match k0z v with
 |true=>some none
 |
  false=>match unD v with
  |some ⟨t',x⟩=>X9 t' (.opt t) x
  |
   none=>match a0f E s r t v with
   |some y=>some (some y)
   |none=>none
def e0U (s:St E.D)(r:TD E):(t:U)->V E.D->Option (Den E.D t)
 |.int ik,v=>a0T ik v
 |.bool,v=>D4 v
 |.str,v=>a0K v
 |.list t,v=>a0R E s t v
 |.st i,v=>a0S E r i v
 |.arr n t,v=>a0V E r n t v
 |.ptr t,v=>a0f E s r t v
 |.opt t,v=>a0L E s r t v
def g0X (r:TD E)(t:U)(m:List (V E.D)):Option (Den E.D t):=match asV E (j6 t) m with
 |some v=>r.D t v
 |none=>none
def j0H (r:TD E)(ts:List U)(l:List (V E.D)):Option (HL E.D ts×List (V E.D)):=match ts with
 |[]=>some ((),l)
 |
  t :: ts=>match N5 E 100000 (O1 E t) l with
  |
   some (m,q)=>match r.M t m,r.F ts q with
   |some x,some (h,q')=>some ((x,h),q')
   |_,_=>none
  |none=>none
def i0D (r:TD E)(t:U)(n:Nat)(l:List (V E.D)):Option (List (Den E.D t)×List (V E.D)):=match n with
 |0=>some ([],l)
 |
  n+1=>match N5 E 100000 (O1 E t) l with
  |
   some (m,q)=>match r.M t m,r.A t n q with
   |some x,some (xs,q')=>some (x :: xs,q')
   |_,_=>none
  |none=>none
def td (s:St E.D):Nat->TD E
 |0=>⟨fun _ _=>none,fun _ _=>none,fun _ _=>none,fun _ _ _=>none⟩
 |k+1=>⟨e0U E s (td s k),g0X E (td s k),j0H E (td s k),i0D E (td s k)⟩
def toD (s:St E.D)(k:Nat)(t:U)(v:V E.D):Option (Den E.D t):=(td E s k).D t v
def I4:Nat->St E.D->List (V E.D)->Option (St E.D)
 |0,_,_=>none
 |_+1,s,[]=>some s
 |
  k+1,s,v :: r=>match v with
  |
   .sl id=>match C0 s id with
   |.lst _ t xs=>I4 k (s.at id (.fz t xs)) r
   |.fz ..=>I4 k s r
   |.M0 _ _ t xs none=>I4 k (s.at id (.fz t xs)) r
   |_=>none
  |
   .pb id 0 []=>match C0 s id with
   |
    .box T cs=>match I4 k s cs with
    |
     some s1=>match C0 s1 id with
     |.box T' cs'=>I4 k (s1.at id (.fzb T' cs')) r
     |_=>none
    |none=>none
   |.fzb ..=>I4 k s r
   |_=>none
  |.agg l=>I4 k s (l++r)
  |.tup l=>I4 k s (l++r)
  |_=>I4 k s r
def E5:Nat:=100000
def W9 (s:St E.D)(t:U)(v:V E.D):Option (St E.D×Den E.D t):=match I4 E E5 s [v]with
 |
  some s1=>match toD E s1 E5 t v with
  |some x=>some (s1,x)
  |none=>none
 |none=>none
mutual
def fits (s:St E.D):Sh->V E.D->Bool
 |.any,_=>true
 |.nil,.nil=>true
 |.nilp,.nilp=>true
 |.nilif,.nilif=>true
 |.box ..,.pb _ 0 []=>true
 |.own ..,.sl _=>true
 |.own ..,.nil=>true
 |.M0 ..,.sl _=>true
 |.M0 ..,.nil=>true
 |.tup cs,.tup l=>f0r s cs l
 |.agg cs,.agg l=>f0r s cs l
 |.kb b,.kb b'=>b==b'
 |.d (.ptr _),.nilp=>false
 |.d _,.nilif=>false
 |.d _,_=>true
 |.alt x y,v=>fits s x v||fits s y v
 |.ifc T x,.ifc T' v=>Nat.beq T T'&&fits s x v
 |.fn f cs,.fn f' l=>Nat.beq f f'&&f0r s cs l
 |.map,.mp _=>true
 |_,_=>false
def f0r (s:St E.D):List Sh->List (V E.D)->Bool
 |[],[]=>true
 |x :: r,v :: l=>fits s x v&&f0r s r l
 |_,_=>false
end
def d0S:U->Bool
 |.list _=>true
 |_=>false
def g08 (t:U):Nat:=match t with
 |.st k=>(E.fs k).length
 |_=>1
def T7 (l:List U):Bool:=match l with
 |[]=>true
 |t :: r=>d0S t&&T7 r
def W5 (t:U)(F:List Nat):Bool:=Nat.beq (O1 E t) F.length&&Nat.beq F.length (g08 E t)&&(match t with|.list _=>true|.st k=>T7 (E.fs k)|_=>false)
structure Pk (α:Type) where
 ids:List (Option Nat)
 dat:α
mutual
def p0m:Sh->Nat
 |.d t=>O1 E t
 |.agg cs=>l0t cs
 |_=>1
def l0t:List Sh->Nat
 |[]=>0
 |x :: r=>p0m x+l0t r
end
def Q8:List Sh->List (V E.D)->Option (List (V E.D))
 |[],[]=>some []
 |[],_=>none
 |
  x :: r,l=>match N5 E E5 (p0m E x) l with
  |
   some (m,l')=>match asV E (match x with|.d t=>j6 t|.agg _=>true|_=>false) m,Q8 r l' with
   |some v,some vs=>some (v :: vs)
   |_,_=>none
  |none=>none
mutual
def fzs (s:St E.D):Sh->V E.D->List (V E.D)
 |.d _,v=>[v]
 |
  .box _ cs,v=>match v with
  |
   .pb id 0 []=>match C0 s id with
   |.box _ l=>(match Q8 E cs l with|some l'=>T8 s cs l'|none=>[])
   |_=>[]
  |_=>[]
 |.agg cs,v=>match Q8 E cs (Z3 v)with|some l=>T8 s cs l|none=>[]
 |.tup cs,v=>match v with|.tup l=>T8 s cs l|_=>[]
 |.fn _ cs,v=>match v with|.fn _ l=>T8 s cs l|_=>[]
 |.ifc _ x,v=>match v with|.ifc _ u=>fzs s x u|_=>[]
 |.alt x y,v=>match fits E s x v with|true=>fzs s x v|false=>fzs s y v
 |_,_=>[]
def T8 (s:St E.D):List Sh->List (V E.D)->List (V E.D)
 |x :: r,v :: l=>fzs s x v++T8 s r l
 |_,_=>[]
end
def r8:Option (Pk Unit):=some ⟨[],()⟩
def j0o (s:St E.D)(e:Nat)(t:U)(v:V E.D):Option (Pk (List (Den E.D t))):=match v with
 |.nil=>some ⟨[none],[]⟩
 |
  .sl id=>match C0 s id with
  |
   .lst e' t' xs=>match Nat.beq e e',A6 t' t xs with
   |true,some ys=>some ⟨[some id],ys⟩
   |_,_=>none
  |_=>none
 |_=>none
def a0p (s:St E.D)(e:Nat)(F:List Nat)(t:U)(v:V E.D):Option (Pk (List (Den E.D t))):=match v with
 |.nil=>match W5 E t F with|true=>some ⟨[none],[]⟩|false=>none
 |
  .sl id=>match C0 s id with
  |
   .M0 e' F' t' xs none=>match Nat.beq e e'&&F==F',A6 t' t xs with
   |true,some ys=>some ⟨[some id],ys⟩
   |_,_=>none
  |_=>none
 |_=>none
def i0J (s:St E.D)(T:Nat)(cs:List Sh)(v:V E.D):Option (Nat×List (V E.D)):=match v with
 |
  .pb id 0 []=>match C0 s id with
  |
   .box T' l=>match Nat.beq T T',Q8 E cs l with
   |true,some l'=>some (id,l')
   |_,_=>none
  |_=>none
 |_=>none
def k0R {D:Nat->Type}:V D->Option (List (V D))
 |.tup l=>some l
 |_=>none
def n0k {D:Nat->Type}(f:Nat):V D->Option (List (V D))
 |.fn g l=>match Nat.beq f g with|true=>some l|false=>none
 |_=>none
def o0E {D:Nat->Type}(T:Nat):V D->Option (V D)
 |.ifc T' u=>match Nat.beq T T' with|true=>some u|false=>none
 |_=>none
def k0m (s:St E.D):V E.D->Option (Pk (List (Int×Int)))
 |.mp id=>match C0 s id with|.map m=>some ⟨[some id],m⟩|_=>none
 |_=>none
def isC {D:Nat->Type}:Sh->V D->Bool
 |.nil,.nil=>true
 |.nilp,.nilp=>true
 |.nilif,.nilif=>true
 |.kb b,.kb b'=>b==b'
 |_,_=>false
def j0d:Sh->Bool
 |.any=>false
 |_=>true
mutual
def rd (s:St E.D):(sh:Sh)->V E.D->Option (Pk (Q3 E.D sh))
 |.any,_=>r8
 |.d t,v=>match toD E s E5 t v with|some x=>some ⟨[],x⟩|none=>none
 |.own e t,v=>j0o E s e t v
 |.M0 e F t,v=>a0p E s e F t v
 |
  .box T cs,v=>match i0J E s T cs v with
  |
   some (id,l)=>match o5 s cs l with
   |some ⟨ids,x⟩=>some ⟨ids++[some id],x⟩
   |none=>none
  |none=>none
 |
  .agg cs,v=>match G2 v with
  |true=>match Q8 E cs (Z3 v)with|some l=>o5 s cs l|none=>none
  |false=>none
 |.tup cs,v=>match k0R v with|some l=>o5 s cs l|none=>none
 |.fn f cs,v=>match n0k f v with|some l=>o5 s cs l|none=>none
 |
  .ifc T x,v=>match j0d x with
  |true=>match o0E T v with|some u=>rd s x u|none=>none
  |false=>none
 |
  .alt x y,v=>match j0d x&&j0d y with
  |
   true=>match fits E s x v with
   |true=>match rd s x v with|some ⟨ids,a⟩=>some ⟨ids,Sum.inl a⟩|none=>none
   |false=>match rd s y v with|some ⟨ids,a⟩=>some ⟨ids,Sum.inr a⟩|none=>none
  |false=>none
 |.map,v=>k0m E s v
 |.nil,v=>match isC .nil v with|true=>r8|false=>none
 |.nilp,v=>match isC .nilp v with|true=>r8|false=>none
 |.nilif,v=>match isC .nilif v with|true=>r8|false=>none
 |.kb b,v=>match isC (.kb b) v with|true=>r8|false=>none
def o5 (s:St E.D):(cs:List Sh)->List (V E.D)->Option (Pk (O2 E.D cs))
 |[],l=>match l with | []=>r8|_=>none
 |
  x :: r,l=>match l with
  |
   v :: l'=>match rd s x v,o5 s r l' with
   |some ⟨i,a⟩,some ⟨j,b⟩=>some ⟨i++j,a0N (j4 x) (K3 r) a b⟩
   |_,_=>none
  |[]=>none
end
mutual
def b5 {R:Type}(s:St E.D):(sh:Sh)->Q3 E.D sh->(St E.D->V E.D->Option R)->Option R
 |.any,_,k=>k s .undef
 |.d t,x,k=>k s (v8 t x)
 |.own e t,x,k=>k (s.new (.lst e t x)) (.sl s.nid)
 |.M0 e F t,x,k=>k (s.new (.M0 e F t x none)) (.sl s.nid)
 |.box T cs,x,k=>X5 s cs x fun s l=>k (s.new (.box T l)) (.pb s.nid 0 [])
 |.agg cs,x,k=>X5 s cs x fun s l=>k s (.agg (l.flatMap Z3))
 |.tup cs,x,k=>X5 s cs x fun s l=>k s (.tup l)
 |.fn f cs,x,k=>X5 s cs x fun s l=>k s (.fn f l)
 |.ifc T sh,x,k=>b5 s sh x fun s v=>k s (.ifc T v)
 |
  .alt a b,x,k=>match(show Q3 E.D a⊕Q3 E.D b from x)with
  |.inl y=>b5 s a y k
  |.inr y=>b5 s b y k
 |.map,x,k=>k (s.new (.map x)) (.mp s.nid)
 |.nil,_,k=>k s .nil
 |.nilp,_,k=>k s .nilp
 |.nilif,_,k=>k s .nilif
 |.kb b,_,k=>k s (.kb b)
def X5 {R:Type}(s:St E.D):(cs:List Sh)->O2 E.D cs->(St E.D->List (V E.D)->Option R)->Option R
 |[],_,k=>k s []
 |x :: r,a,k=>b5 s x (D9 (j4 x) (K3 r) (K7 E x) a) fun s v=>X5 s r (a0W (j4 x) (K3 r) (k9 E r) a) fun s l=>k s (v :: l)
end
structure Cut where
 sl:List (Nat×Sh)
 th:List (Nat×Sh)
def Cut.G7 (c:Cut):List Sh:=c.sl.map Prod.snd++c.th.map Prod.snd
abbrev c0d (D:Nat->Type)(c:Cut):Type:=O2 D c.G7
def J8 {D:Nat->Type}(s:St D)(t:Nat):V D:=match J2 s.fr t with|some v=>v|none=>.undef
def R6 {D:Nat->Type}(s:St D)(id:Nat):V D:=match C0 s id with
 |.box ..=>.pb id 0 []
 |.fzb ..=>.pb id 0 []
 |.lst ..=>.sl id
 |.fz ..=>.sl id
 |.M0 ..=>.sl id
 |.rof ..=>.sl id
 |.map _=>.mp id
 |.gone=>.undef
def c0F {α β:Type}(now was:List (Nat×α))(c:List (Nat×β)):Bool:=
 (now.take (now.length-was.length)).all fun p=>(match J2 was p.1 with|none=>true|some _=>false)||(match J2 c p.1 with|none=>false|some _=>true)
def o9:List Nat->Bool
 |[]=>true
 |x :: r=>!(r.any (Nat.beq x))&&o9 r
def i07 (nid:Nat)(th:List (Nat×Sh))(ids:List Nat):Bool:=
 o9 ids&&ids.all fun i=>Nat.ble nid i||(match J2 th i with|none=>false|some _=>true)
def H7 (s0 s:St E.D)(c:Cut):Option (c0d E.D c):=
 let vs:=c.sl.map (fun p=>J8 s p.1)++c.th.map (fun p=>R6 s p.1)
 match I4 E E5 s (T8 E s c.G7 vs)with
 |
  some s1=>match o5 E s1 c.G7 vs with
  |
   some ⟨ids,x⟩=>match c0F s1.fr s0.fr c.sl&&c0F s1.th s0.th c.th&&i07 s0.nid c.th (ids.filterMap fun x=>x)&&(c.th.all fun p=>Nat.blt p.1 s0.nid)&&o9 (c.th.map Prod.fst)&&(c.sl.all fun p=>Nat.blt p.1 s0.n)with
   |true=>some x
   |false=>none
  |none=>none
 |none=>none
def C5 {D:Nat->Type}(s:St D):List (Nat×Sh)->List (V D)->St D
 |(t,_) :: r,v :: l=>C5 (s.put (some t) v) r l
 |_,_=>s
def P0 {D:Nat->Type}(s:St D):List Nat->St D
 |[]=>s
 |i :: r=>P0 (s.at i .gone) r
def o6 {D:Nat->Type}(q:Nat):List (Nat×Th D)->List Nat
 |[]=>[]
 |(r,.rof q' _ _) :: l=>match Nat.beq q q' with|true=>r :: o6 q l|false=>o6 q l
 |_ :: l=>o6 q l
def X4 {D:Nat->Type}(s:St D)(q:Nat):St D:=P0 s (o6 q s.th)
def c7 {D:Nat->Type}(s:St D):List Nat->St D
 |[]=>s
 |q :: r=>c7 (X4 s q) r
def p0d {D:Nat->Type}:Th D->Bool
 |.rof ..=>true
 |_=>false
def p0w {D:Nat->Type}(s:St D)(sh:Sh)(j:Nat):Bool:=match sh with
 |.M0 _ F _=>(match C0 s j with|.M0 _ F' _ _ none=>Nat.beq F.length F'.length|_=>false)
 |_=>false
def v7 {D:Nat->Type}(s:St D)(id j:Nat)(sh:Sh):St D:=match p0d (C0 s j)with
 |true=>s.at id .gone
 |
  false=>match p0w s sh j with
  |true=>(s.at id (C0 s j)).at j .gone
  |false=>((X4 s id).at id (C0 s j)).at j .gone
def u7 {D:Nat->Type}(s:St D)(id:Nat)(sh:Sh)(v:V D):St D:=match v with
 |.sl j=>v7 s id j sh
 |.pb j 0 []=>v7 s id j sh
 |.mp j=>v7 s id j sh
 |_=>s.at id .gone
def Z6 {D:Nat->Type}(s:St D):List (Nat×Sh)->List (V D)->St D
 |(t,sh) :: r,v :: l=>Z6 (u7 s t sh v) r l
 |_,_=>s
def j9 {R:Type}(s0:St E.D)(c:Cut)(x:c0d E.D c)(k:St E.D->Option R):Option R:=
 X5 E (P0 s0 (c.th.map Prod.fst)) c.G7 x fun s l=>k (Z6 (C5 s c.sl l) c.th (l.drop c.sl.length))
inductive Ex where|nrm|ex (id:Nat)|ret
def Ex.eq:Ex->Ex->Bool
 |.nrm,.nrm=>true
 |.ex i,.ex j=>Nat.beq i j
 |.ret,.ret=>true
 |_,_=>false
def c0H (D:Nat->Type):List (Ex×Cut)->Type
 |[]=>Empty
 |[x]=>c0d D x.2
 |x :: y :: r=>c0d D x.2⊕c0H D (y :: r)
def W8 (s0:St E.D)(e:Ex)(s:St E.D):(xs:List (Ex×Cut))->Option (c0H E.D xs)
 |[]=>none
 |[x]=>match x.1.eq e with|true=>H7 E s0 s x.2|false=>none
 |
  x :: y :: r=>match x.1.eq e with
  |true=>match H7 E s0 s x.2 with|some a=>some (Sum.inl a)|none=>none
  |false=>match W8 s0 e s (y :: r)with|some a=>some (Sum.inr a)|none=>none
def resume {R:Type}(s0:St E.D)(k:Ex->St E.D->Option R):(xs:List (Ex×Cut))->c0H E.D xs->Option R
 |[],_=>none
 |[x],a=>j9 E s0 x.2 a (k x.1)
 |
  x :: y :: r,a=>match(show c0d E.D x.2⊕c0H E.D (y :: r)from a)with
  |.inl b=>j9 E s0 x.2 b (k x.1)
  |.inr b=>resume s0 k (y :: r) b
structure Ann where
 js:List (Nat×List (Ex×Cut))
 ls:List (Nat×Cut×List (Ex×Cut))
 rs:List (Nat×Nat×Nat×Cut)
 tb:List Nat:=[]
structure Sm (D:Nat->Type) where
 f:Nat
 ins:List Sh
 res:Sh
 back:List (Nat×Sh)
 m:O2 D ins->Option (O2 D (res :: back.map Prod.snd))
structure X1 where
 sm:List (Sm E.D)
 ann:Nat->Ann
 fuel:Nat
 tb:List Nat:=[]
def a1h {D:Nat->Type}:List (V D)->Option Nat
 |[]=>none
 |
  x :: r=>match x with
  |.ifc T _=>some T
  |_=>a1h r
def shT:List Sh->Option Nat
 |[]=>none
 |
  x :: r=>match x with
  |.ifc T _=>some T
  |_=>shT r
def b1W (s:St E.D)(c:Sm E.D)(args:List (V E.D)):Bool:=match c.ins,args with
 |
  .box _ cs :: _,.pb id _ _ :: _=>match shT cs with
  |
   some T=>match C0 s id with
   |.box _ ps=>(match a1h ps with|some T'=>Nat.beq T T'|none=>false)
   |_=>false
  |none=>true
 |_,_=>true
def G02 (s:St E.D)(args:List (V E.D)):List (Sm E.D)->Nat->Option (Sm E.D)
 |[],_=>none
 |
  x :: r,f=>match Nat.beq x.f f with
  |true=>(match b1W E s x args with|true=>some x|false=>G02 s args r f)
  |false=>G02 s args r f
def b0n:Sh->Bool
 |.d (.int _)|.d .bool|.d .str|.own _ (.int _)|.own _ .bool|.any|.nil|.nilp|.kb _=>true
 |_=>false
def f0D:Sh->Bool
 |.tup cs=>cs.all b0n
 |x=>b0n x
def b0M {D:Nat->Type}:V D->Option Nat
 |.sl i=>some i
 |.pb i 0 []=>some i
 |.mp i=>some i
 |_=>none
def E3 {D:Nat->Type}(args:List (V D)):List (Nat×Sh)->List (Nat×Sh)
 |[]=>[]
 |
  (j,sh) :: r=>match args[j]? with
  |
   some v=>match b0M v with
   |some i=>(i,sh) :: E3 args r
   |none=>E3 args r
  |none=>E3 args r
def g0C {R:Type}(s:St E.D)(c:Sm E.D)(args:List (V E.D))(k:St E.D->V E.D->Option R):Option R:=
 match I4 E E5 s (T8 E s c.ins args)with
 |
  some s1=>match o5 E s1 c.ins args with
  |
   some ⟨ids,x⟩=>match o9 (ids.filterMap fun x=>x)&&Nat.beq (E3 args c.back).length c.back.length with
   |true=>Option.bind (c.m x) fun y=>
     X5 E (P0 (match f0D c.res&&c.back.all (fun p=>b0n p.2)with|true=>s|false=>s1) (ids.filterMap fun x=>x)) (c.res :: c.back.map Prod.snd) y fun s2 l=>match l with
      |v :: l'=>k (Z6 (c7 s2 ((E3 args c.back).map Prod.fst)) (E3 args c.back) l') v
      |[]=>none
   |false=>none
  |none=>none
 |none=>none
def n0n (T:Nat):Option Value:=match E.P.info? T with
 |some i=>i.zero
 |none=>none
def w8 (e:Nat):Option (Value×Nat×Nat):=match E.P.info? e with
 |
  some i=>match i.zero with
  |some z=>some (z,i.size,i.bytes)
  |none=>none
 |none=>none
def V7 (T:Nat):Option Nat:=match E.P.underlying T with
 |some (.slice e)=>some e
 |_=>none
def d0x (s:St E.D)(t:U):List (V E.D)->Option (List (Den E.D t))
 |[]=>some []
 |
  v :: r=>match toD E s E5 t v,d0x s t r with
  |some x,some xs=>some (x :: xs)
  |_,_=>none
def f0l:Nat->List (Nat×Operand)->Bool
 |_,[]=>true
 |j,(i,_) :: r=>Nat.beq i j&&f0l (j+1) r
def g0y:Operand->Operand->Bool
 |.tmp a,.tmp b=>Nat.beq a b
 |.const (.int .i64 a),.const (.int .i64 b)=>decide (a=b)
 |_,_=>false
abbrev K (R:Type):=St E.D->V E.D->Option R
def h0v {R:Type}(s:St E.D)(T:Nat)(k:K E R):Option R:=match n0n E T with
 |
  some z=>match z.cells.toList.all (·.oneCell')with
  |true=>k (s.new (.box T (Z3 (I7 E z)))) (.pb s.nid 0 [])
  |false=>none
 |none=>none
def j0f {R:Type}(s:St E.D)(T:Nat)(v:V E.D)(k:K E R):Option R:=match C9 v with
 |true=>k (s.new (.box T (Z3 v))) (.pb s.nid 0 [])
 |false=>none
def d0L {D:Nat->Type}(s:St D)(id:Nat):Option (Nat×List (V D)):=match C0 s id with
 |.box T l=>some (T,l)
 |_=>none
def a01 (s:St E.D)(id:Nat):Option (Nat×((t:U)×List (Den E.D t))):=match C0 s id with
 |.lst e t xs=>some (e,⟨t,xs⟩)
 |_=>none
def g0e (l:List (V E.D)):Option (((t:U)×Den E.D t)×List (V E.D)):=match l with
 |.d t x :: r=>some (⟨t,x⟩,r)
 |_=>none
def l0i:List Field->Option (List Nat)
 |[]=>some []
 |
  x :: r=>match V7 E x.type,l0i r with
  |some e,some l=>some (e :: l)
  |_,_=>none
def l0J (e:Nat):Option (List Nat):=match E.P.underlying e with
 |some (.slice e')=>some [e']
 |some (.struct l)=>l0i E l.toList
 |_=>none
def l0w {D:Nat->Type}(g:(u:U)->List (Den D u)->Option (List (Den D u))):(t:U)->Den D t->Option (Den D t)
 |.list u,x=>g u x
 |_,_=>none
def k0s {D:Nat->Type}(g:(u:U)->List (Den D u)->Option (List (Den D u)))(u:U)(x:List (Den D u)):Nat->Option (List (Den D u))
 |0=>g u x
 |_=>none
def i0Z (k:Nat)(o:Option (HL E.D (E.fs k))):Option (E.D k):=match o with
 |some h=>some (E.mkS k h)
 |none=>none
def setRow (t:U)(x:Den E.D t)(f:Nat)(g:(u:U)->List (Den E.D u)->Option (List (Den E.D u))):Option (Den E.D t):=match t,x with
 |.list u,x=>k0s g u x f
 |.st k,x=>i0Z E k (C7 (E.fs k) (E.un k x) f (l0w g))
 |_,_=>none
def V8 (s:St E.D)(id:Nat):Option (Nat×List Nat×Option (Int×Nat)×((t:U)×List (Den E.D t))):=match C0 s id with
 |.M0 e F t xs o=>some (e,F,o,⟨t,xs⟩)
 |_=>none
def g0E (t:U)(q:List o4):Option Nat:=match t,q with
 |.list _,[]=>some 0
 |.st k,[.inl (f,o)]=>match Nat.beq (z8 E (E.fs k) f) o with|true=>some f|false=>none
 |_,_=>none
def c0a (s:St E.D)(e:Nat)(u:U)(v:V E.D):Option (Option Nat×List (Den E.D u)):=match v with
 |.nil=>some (none,[])
 |
  .sl j=>match a01 E s j with
  |
   some (e',⟨u',ys⟩)=>match Nat.beq e e',A6 u' u ys with
   |true,some zs=>some (some j,zs)
   |_,_=>none
  |none=>none
 |_=>none
def E9 {D:Nat->Type}(s:St D):Option Nat->St D
 |some id=>s.at id .gone
 |none=>s
def k09 (o:Option (Int×Nat))(i:Int)(f:Nat):Option Bool:=match o with
 |none=>none
 |some (j,g)=>match Nat.beq f g with|true=>some (decide (j=i))|false=>some false
def h0i (t:U)(f:Nat):Option U:=match t with
 |.list u=>match f with|0=>some u|_=>none
 |.st k=>match f0L (E.fs k) f with|some (.list u)=>some u|_=>none
 |_=>none
def j0E {R:Type}(s:St E.D)(id:Nat)(i:Int)(z:Nat)(q:List o4)(v:V E.D)(k:K E R):Option R:=match V8 E s id with
 |
  some (e,F,o,⟨t,xs⟩)=>match Nat.beq z (O1 E t),g0E E t q with
  |
   true,some f=>match h0i E t f,F[f]? with
   |
    some u,some e'=>match c0a E s e' u v with
    |
     some (g,ys)=>match setRow E t (E4 E t xs i) f (fun u' _=>A6 u u' ys)with
     |
      some x=>match k09 o i f with
      |none=>k ((X4 (E9 s g) id).at id (.M0 e F t (xs.set i.toNat x) none)) (.tup [])
      |some b=>if b then k ((X4 (E9 s g) id).at id (.M0 e F t (xs.set i.toNat x) none)) (.tup [])else none
     |none=>none
    |none=>none
   |_,_=>none
  |_,_=>none
 |none=>none
def i0f {R:Type}(s:St E.D)(n:Nat)(r:Nat)(j:Int)(f:Nat)(i:Int)(z:Nat)(q:List o4)(v:V E.D)(k:K E R):Option R:=match Z7 E s r j f with
 |
  some ⟨t,_⟩=>match Nat.beq z (O1 E t),a09 E t q with
  |
   true,some u=>match W9 E s u v with
   |
    some (s1,y)=>match V8 E s1 r with
    |some (e,F,none,⟨t0,xs⟩)=>match setRow E t0 (E4 E t0 xs j) f (fun u' ys=>match Nat.beq z (O1 E u')&&Nat.beq (O1 E u) n,l8 E u y q u' (E4 E u' ys i)with
      |true,some x=>some (ys.set i.toNat x)
      |_,_=>none)with
     |some x=>k (s1.at r (.M0 e F t0 (xs.set j.toNat x) none)) (.tup [])
     |none=>none
    |_=>none
   |none=>none
  |_,_=>none
 |none=>none
def e0v {R:Type}(s:St E.D)(T:Nat)(p v:V E.D)(k:K E R):Option R:=match J3 E T with
 |none=>none
 |
  some n=>match Nat.beq (vsz E v) n&&C9 v with
  |false=>none
  |
   true=>match p with
   |
    .pb id off []=>match d0L s id with
    |
     some (T',cs)=>match E6 E off n cs with
     |some (a,_,c)=>k (s.at id (.box T' (a++Z3 v++c))) (.tup [])
     |none=>none
    |none=>none
   |
    .pb id off q=>match W7 s id off q v with
    |some (s1,T',l)=>k (s1.at id (.box T' l)) (.tup [])
    |none=>none
   |
    .pe id i z q=>match C0 s id with
    |.M0 ..=>match Nat.beq n 1 with|true=>j0E E s id i z q v k|false=>none
    |.rof r j f=>i0f E s n r j f i z q v k
    |
     _=>match a01 E s id with
     |
      some (_,⟨t,_⟩)=>match Nat.beq z (O1 E t),a09 E t q with
      |
       true,some u=>match W9 E s u v with
       |
        some (s1,y)=>match a01 E s1 id with
        |
         some (e,⟨t',xs⟩)=>match Nat.beq z (O1 E t')&&Nat.beq (O1 E u) n,l8 E u y q t' (E4 E t' xs i)with
         |true,some x=>k (s1.at id (.lst e t' (xs.set i.toNat x))) (.tup [])
         |_,_=>none
        |none=>none
       |none=>none
      |_,_=>none
     |none=>none
   |_=>none
where
 /-- A store b0r an element of an array within a variable. -/
 W7 (s:St E.D) (id off:Nat) (q:List o4) (v:V E.D):Option (St E.D×Nat×List (V E.D)):=match d0L s id with
  |
   some (_,cs)=>match N5 E E5 off cs with
   |
    some (_,m)=>match g0e E m with
    |
     some (⟨t,_⟩,_)=>match a09 E t q with
     |
      some u=>match Nat.beq (O1 E u) (vsz E v),W9 E s u v with
      |
       true,some (s1,y)=>match d0L s1 id with
       |
        some (T',cs')=>match N5 E E5 off cs' with
        |
         some (a,m')=>match g0e E m' with
         |
          some (⟨t',x'⟩,c)=>match l8 E u y q t' x' with
          |some z=>some (s1,T',a++.d t' z :: c)
          |none=>none
         |none=>none
        |none=>none
       |none=>none
      |_,_=>none
     |none=>none
    |none=>none
   |none=>none
  |none=>none
def a0s (s:St E.D)(t:U)(y:V E.D):Option (List (Den E.D t)):=match y with
 |.nil=>some []
 |
  y=>match G8 E s y with
  |some ⟨t',ys⟩=>A6 t' t ys
  |none=>none
def k0H (s:St E.D)(e:Nat)(t:U)(x:V E.D):Option (Option Nat×List (Den E.D t)):=match x with
 |.nil=>some (none,[])
 |
  .sl id=>match a01 E s id with
  |
   some (e',⟨t',xs⟩)=>match Nat.beq e e',A6 t' t xs with
   |true,some ys=>some (some id,ys)
   |_,_=>none
  |none=>none
 |_=>none
def N8 (t:U)(z:Value)(sz bytes:Nat):Bool:=Nat.beq sz (O1 E t)&&Nat.beq z.cells.size sz&&Nat.blt 0 sz&&Nat.blt 0 bytes
def c0C (s:St E.D)(e:Nat)(F:List Nat)(t:U)(x:V E.D):Option (Option Nat×List (Den E.D t)):=match x with
 |.nil=>some (none,[])
 |
  .sl id=>match V8 E s id with
  |
   some (e',F',none,⟨t',xs⟩)=>match Nat.beq e e'&&F==F',A6 t' t xs with
   |true,some ys=>some (some id,ys)
   |_,_=>none
  |_=>none
 |_=>none
def m0A (s:St E.D)(x:V E.D):Option (Nat×Int×Nat):=match x with
 |
  .sl id=>match C0 s id with
  |.rof r j f=>some (r,j,f)
  |_=>none
 |_=>none
def o0I (s:St E.D)(y:V E.D):Option Nat:=match y with
 |
  .sl id=>match C0 s id with
  |.M0 ..=>some id
  |_=>none
 |_=>none
def h0I {R:Type}(s:St E.D)(T:Nat)(x:V E.D)(iy:Nat)(k:K E R):Option R:=match V7 E T with
 |none=>none
 |
  some e=>match E.uT e,w8 E e,V8 E s iy with
  |
   some t,some (z,sz,bytes),some (e2,F,none,⟨t',ys'⟩)=>match N8 E t z sz bytes&&Nat.beq e e2&&W5 E t F,A6 t' t ys',c0C E s e F t x with
   |
    true,some ys,some (g,xs)=>match(match g with|some ix=>!(Nat.beq ix iy)|none=>true)with
    |true=>if C1 bytes xs ys then k (((E9 s g).at iy .gone).new (.M0 e F t (xs++ys) none)) (.sl s.nid)else none
    |false=>none
   |_,_,_=>none
  |_,_,_=>none
def i0u (s:St E.D)(r:Nat)(j:Int)(f:Nat):Option (St E.D):=match V8 E s r with
 |
  some (e,F,none,⟨t,xs⟩)=>match Z7 E s r j f,F[f]? with
  |some ⟨u,zs⟩,some e'=>some (((X4 s r).at r (.M0 e F t xs (some (j,f)))).new (.lst e' u zs))
  |_,_=>none
 |_=>none
def e07 {R:Type}(s:St E.D)(T:Nat)(x y:V E.D)(k:K E R):Option R:=match V7 E T with
 |none=>none
 |
  some e=>match E.uT e,w8 E e with
  |
   some t,some (z,sz,bytes)=>match N8 E t z sz bytes,a0s E s t y,k0H E s e t x with
   |true,some ys,some (g,xs)=>if C1 bytes xs ys then k ((E9 s g).new (.lst e t (xs++ys))) (.sl s.nid)else none
   |_,_,_=>none
  |_,_=>none
def f0B {D:Nat->Type}:V D->Option ((t:U)×List (Den D t))
 |.df t xs=>some ⟨t,xs⟩
 |_=>none
def k0W {R:Type}(s:St E.D)(T:Nat)(t':U)(xs':List (Den E.D t'))(y:V E.D)(k:K E R):Option R:=match V7 E T with
 |none=>none
 |
  some e=>match E.uT e,w8 E e with
  |
   some t,some (z,sz,bytes)=>match N8 E t z sz bytes,a0s E s t y,A6 t' t xs' with
   |true,some ys,some xs=>if C1 bytes xs ys then k s (.d (.list t) (xs++ys))else none
   |_,_,_=>none
  |_,_=>none
def j03 {R:Type}(s:St E.D)(T:Nat)(x y:V E.D)(k:K E R):Option R:=match f0B x with
 |some ⟨t,xs⟩=>k0W E s T t xs y k
 |none=>e07 E s T x y k
def h0D {R:Type}(s:St E.D)(T:Nat)(x y:V E.D)(k:K E R):Option R:=match m0A E s x with
 |
  some (r,j,f)=>match i0u E s r j f with
  |some s1=>e07 E s1 T (.sl s.nid) y k
  |none=>none
 |
  none=>match o0I E s y with
  |some iy=>h0I E s T x iy k
  |none=>j03 E s T x y k
def i0a {R:Type}(s:St E.D)(T:Nat)(t':U)(xs':List (Den E.D t'))(y:V E.D)(k:K E R):Option R:=match V7 E T with
 |none=>none
 |
  some e=>match E.uT e,w8 E e with
  |
   some t,some (z,sz,bytes)=>match N8 E t z sz bytes,a0s E s t y,A6 t' t xs' with
   |true,some ys,some xs=>if xs.isEmpty&&C1 bytes xs ys then k (s.new (.lst e t ys)) (.sl s.nid)else none
   |_,_,_=>none
  |_,_=>none
def i0i {R:Type}(b:Bool)(s:St E.D)(T:Nat)(x y:V E.D)(k:K E R):Option R:=match b,f0B x with
 |true,some ⟨t,xs⟩=>i0a E s T t xs y k
 |_,_=>h0D E s T x y k
def bsV {R:Type}(s:St E.D)(T n:Nat)(parts:List (Nat×Operand))(k:K E R):Option R:=match V7 E T with
 |
  some e=>match E.uT e,w8 E e with
  |
   some t,some (z,sz,bytes)=>match N8 E t z sz bytes&&Nat.beq n parts.length&&f0l 0 parts&&Nat.ble n 10000&&Nat.ble sz 1000&&(parts.all fun p=>(C9 (V0 E s p.2))&&Nat.beq (vsz E (V0 E s p.2)) sz),I4 E E5 s (parts.map fun p=>V0 E s p.2)with
   |
    true,some s1=>match d0x E s1 t (parts.map fun p=>V0 E s p.2)with
    |some xs=>k (s1.new (.lst e t xs)) (.sl s1.nid)
    |none=>none
   |_,_=>none
  |_,_=>none
 |none=>none
def emp {D:Nat->Type}:St D:=⟨0,[],[],0,[]⟩
def i0X {R:Type}(s:St E.D)(T:Nat)(n m:Operand)(k:K E R):Option R:=match V7 E T,o3 (V0 E s n),g0y n m with
 |
  some e,some (_,x),true=>match E.uT e,w8 E e with
  |
   some t,some (z,sz,bytes)=>match N8 E t z sz bytes,toD E emp E5 t (I7 E z)with
   |true,some zx=>if S5 bytes x then k (s.new (.lst e t (List.replicate x.toNat zx))) (.sl s.nid)else none
   |_,_=>none
  |_,_=>none
 |_,_,_=>none
def isNil {D:Nat->Type}:V D->Bool
 |.nil=>true
 |_=>false
def i0F {R:Type}(s:St E.D)(T:Nat)(n m:Operand)(k:K E R):Option R:=match V7 E T,o3 (V0 E s n),g0y n m with
 |
  some e,some (_,x),true=>match E.uT e,w8 E e,l0J E e with
  |
   some t,some (z,sz,bytes),some F=>match N8 E t z sz bytes&&W5 E t F&&(Z3 (I7 E z)).all isNil,toD E emp E5 t (I7 E z)with
   |true,some zx=>if S5 bytes x then k (s.new (.M0 e F t (List.replicate x.toNat zx) none)) (.sl s.nid)else none
   |_,_=>none
  |_,_,_=>none
 |_,_,_=>none
def bsT {R:Type}(s:St E.D)(T n:Nat)(parts:List (Nat×Operand))(k:K E R):Option R:=match V7 E T,parts,n with
 |
  some e,[(0,x)],1=>match E.uT e,w8 E e,l0J E e with
  |
   some (.list u),some (z,sz,bytes),some [e']=>match N8 E (.list u) z sz bytes&&W5 E (.list u) [e'],c0a E s e' u (V0 E s x)with
   |true,some (g,ys)=>k ((E9 s g).new (.M0 e [e'] (.list u) [ys] none)) (.sl s.nid)
   |_,_=>none
  |_,_,_=>none
 |_,_,_=>none
def e0Z (tb:List Nat)(o:Oper):Bool:=match o.dst with
 |some d=>tb.any (Nat.beq d)
 |none=>false
def h0k {R:Type}(s:St E.D)(T T':Nat)(x:V E.D)(k:K E R):Option R:=match x with
 |
  .sl id=>match Nat.beq T T',E.P.underlying T,a01 E s id with
  |
   true,some (.slice e),some (_,⟨.int .u8,xs⟩)=>match E.P.underlying e with
   |some (.int .u8)=>if !xs.isEmpty then k (s.at id (.fz (.int .u8) xs)) (.sl id)else none
   |_=>none
  |_,_,_=>none
 |_=>none
def copyV {R:Type}(s:St E.D)(T:Nat)(x y:V E.D)(k:K E R):Option R:=match E.P.underlying T,x with
 |
  some (.slice e),.sl id=>match J3 E e with
  |
   some 1=>match C0 s id with
   |
    .lst e' t xs=>match Nat.beq (O1 E t) 1,a0s E s t y with
    |true,some ys=>k (s.at id (.lst e' t (P2 xs ys))) (dI .i64 ((Nat.min ys.length xs.length:Nat):Int))
    |_,_=>none
   |
    .rof r j f=>match V8 E s r,Z7 E s r j f with
    |
     some (e0,F,none,⟨t0,xs0⟩),some ⟨t,xs⟩=>match Nat.beq (O1 E t) 1,a0s E s t y with
     |
      true,some ys=>match setRow E t0 (E4 E t0 xs0 j) f (fun u' zs=>match A6 t u' ys with|some ws=>some (P2 zs ws)|none=>none)with
      |some x=>k (s.at r (.M0 e0 F t0 (xs0.set j.toNat x) none)) (dI .i64 ((Nat.min ys.length xs.length:Nat):Int))
      |none=>none
     |_,_=>none
    |_,_=>none
   |_=>none
  |_=>none
 |_,_=>none
def evE {R:Type}(tb:List Nat)(s:St E.D)(o:Oper)(k:K E R):Option R:=match o.op with
 |.alloc T=>h0v E s T k
 |.box T x=>j0f E s T (V0 E s x) k
 |.store T p x=>e0v E s T (V0 E s p) (V0 E s x) k
 |.buildSlice T n parts=>match e0Z tb o with|true=>bsT E s T n parts.toList k|false=>bsV E s T n parts.toList k
 |.makeSlice T n m=>match e0Z tb o with|true=>i0F E s T n m k|false=>i0X E s T n m k
 |
  .call c=>match c.callee,c.args.toList,c.argTypes.toList with
  |
   .builtin .append,[x,y],[T,T']=>match Nat.beq T T' with
   |true=>i0i E (e0Z tb o) s T (V0 E s x) (V0 E s y) k
   |false=>none
  |
   .builtin .copy,[x,y],[T,T']=>match Nat.beq T T' with
   |true=>copyV E s T (V0 E s x) (V0 E s y) k
   |false=>none
  |_,_,_=>none
 |.convert T T' x=>h0k E s T T' (V0 E s x) k
 |_=>none
def g09 (s:St E.D)(T:Nat)(p:V E.D):Option (Nat×Int×Nat):=match p with
 |
  .pe id i z q=>match V8 E s id with
  |
   some (_,F,none,⟨t,_⟩)=>match R5 E T,J3 E T,g0E E t q with
   |some false,some 1,some f=>match Nat.beq z (O1 E t)&&Nat.blt f F.length with|true=>some (id,i,f)|false=>none
   |_,_,_=>none
  |_=>none
 |_=>none
def f0x (s:St E.D)(o:Oper):Option (Nat×Int×Nat):=match o.op with
 |.load T x=>g09 E s T (V0 E s x)
 |_=>none
end
