/- P. Its conditions: none. -/
import Derived.Test.YtihmgaccbcfgjaaGreatRX1
set_option linter.all false
namespace Go.X
open Go.V Go.RowKit
inductive Sh where
 |any|d (t:U)|own (e:Nat) (t:U)|box (T:Nat) (cs:List Sh)|agg (cs:List Sh)|tup (cs:List Sh)|nil|nilp|nilif|kb (b:Bool)
 |fn (f:Nat) (cs:List Sh)|ifc (T:Nat) (x:Sh)|alt (x y:Sh)|map|X0 (e:Nat) (F:List Nat) (t:U)
def DC:Bool->Bool->Type->Type->Type
 |true,_,_,B=>B
 |false,true,A,_=>A
 |false,false,A,B=>A×B
def e0q {A B:Type}:(p q:Bool)->A->B->DC p q A B
 |true,_,_,b=>b
 |false,true,a,_=>a
 |false,false,a,b=>(a,b)
def c0G {A B:Type}:(p q:Bool)->A->DC p q A B->A
 |true,_,a,_=>a
 |false,true,_,x=>x
 |false,false,_,x=>x.1
def e0t {A B:Type}:(p q:Bool)->B->DC p q A B->B
 |true,_,_,x=>x
 |false,true,b,_=>b
 |false,false,_,x=>x.2
mutual
def Z5:Sh->Bool
 |.d _|.own _ _|.alt _ _|.map|.X0 ..=>false
 |.box _ cs|.agg cs|.tup cs|.fn _ cs=>J5 cs
 |.ifc _ x=>Z5 x
 |_=>true
def J5:List Sh->Bool
 |[]=>true
 |x :: r=>Z5 x&&J5 r
end
mutual
def Q5 (D:Nat->Type):Sh->Type
 |.d t=>Den D t
 |.own _ t|.X0 _ _ t=>List (Den D t)
 |.box _ cs|.agg cs|.tup cs|.fn _ cs=>J4 D cs
 |.ifc _ x=>Q5 D x
 |.alt x y=>Q5 D x⊕Q5 D y
 |.map=>List (Int×Int)
 |_=>Unit
def J4 (D:Nat->Type):List Sh->Type
 |[]=>Unit
 |x :: r=>DC (Z5 x) (J5 r) (Q5 D x) (J4 D r)
end
section
variable (E:Env)
mutual
def b0W:(x:Sh)->Q5 E.D x
 |.d t=>dfl E t
 |.own _ _|.X0 _ _ _=>([]:List _)
 |.box _ cs|.agg cs|.tup cs|.fn _ cs=>c0M cs
 |.ifc _ x=>b0W x
 |.alt x _=>Sum.inl (b0W x)
 |.map=>([]:List (Int×Int))
 |.any|.nil|.nilp|.nilif|.kb _=>()
def c0M:(l:List Sh)->J4 E.D l
 |[]=>()
 |x :: r=>e0q (Z5 x) (J5 r) (b0W x) (c0M r)
end
def N9 {D:Nat->Type}(t u:U)(x:List (Den D t)):Option (List (Den D u)):=if h:t=u then some (h▸x)else none
structure TD (E:Env) where
 D:(t:U)->V E.D->Option (Den E.D t)
 M:(t:U)->List (V E.D)->Option (Den E.D t)
 F:(ts:List U)->List (V E.D)->Option (HL E.D ts×List (V E.D))
 A:(t:U)->Nat->List (V E.D)->Option (List (Den E.D t)×List (V E.D))
def d04 {D:Nat->Type}(b:IntKind)(v:V D):Option Int:=match B5 v with
 |some (a,x)=>match decide (a=b)with|true=>some x|false=>none
 |none=>none
def f0a {D:Nat->Type}(v:V D):Option ByteArray:=match v with|.d .str x=>some x|_=>none
def e0J (s:St E.D)(t:U)(v:V E.D):Option (List (Den E.D t)):=match v with
 |.nil=>some []
 |.d (.list a) xs=>N9 a t xs
 |.sl id=>match F0 s id with
  |.fz a xs=>N9 a t xs
  |_=>none
 |_=>none
def unD {D:Nat->Type}:V D->Option ((t:U)×Den D t)
 |.d t x=>some ⟨t,x⟩
 |_=>none
def o0n {D:Nat->Type}:V D->Bool
 |.nilp=>true
 |_=>false
def f0C {α β:Type}:Option (α×List β)->Option α
 |some (x,[])=>some x
 |_=>none
def e01 (r:TD E)(i:Nat)(v:V E.D):Option (E.D i):=match unD v with
 |some ⟨a,x⟩=>d0i a (.st i) x
 |none=>match d0X v with
  |some l=>match f0C (r.F (E.fs i) l)with
   |some h=>some (E.mkS i h)
   |none=>none
  |none=>none
def e0C (r:TD E)(n:Nat)(t:U)(v:V E.D):Option (List (Den E.D t)):=match unD v with
 |some ⟨a,x⟩=>d0i a (.arr n t) x
 |none=>match d0X v with
  |some l=>f0C (r.A t n l)
  |none=>none
def d0I (s:St E.D)(r:TD E)(t:U)(v:V E.D):Option (Den E.D t):=match v with
 |.pd a x=>d0i a t x
 |.d (.ptr a) x=>d0i a t x
 |.pb id 0 []=>match F0 s id with
  |.fzb _ cs=>r.M t cs
  |_=>none
 |_=>none
def e0N (s:St E.D)(r:TD E)(t:U)(v:V E.D):Option (Option (Den E.D t)):=match o0n v with
 |true=>some none
 |false=>match unD v with
  |some ⟨a,x⟩=>d0i a (.opt t) x
  |none=>match d0I E s r t v with
   |some y=>some (some y)
   |none=>none
def k0e (s:St E.D)(r:TD E):(t:U)->V E.D->Option (Den E.D t)
 |.int a,v=>d04 a v
 |.bool,v=>G6 v
 |.str,v=>f0a v
 |.list t,v=>e0J E s t v
 |.st i,v=>e01 E r i v
 |.arr n t,v=>e0C E r n t v
 |.ptr t,v=>d0I E s r t v
 |.opt t,v=>e0N E s r t v
def p0U (r:TD E)(t:U)(m:List (V E.D)):Option (Den E.D t):=match asV E (L8 t) m with
 |some v=>r.D t v
 |none=>none
def p0Z (r:TD E)(ts:List U)(l:List (V E.D)):Option (HL E.D ts×List (V E.D)):=match ts with
 |[]=>some ((),l)
 |t :: ts=>match G8 E 100000 (K2 E t) l with
  |some (m,q)=>match r.M t m,r.F ts q with
   |some x,some (h,a)=>some ((x,h),a)
   |_,_=>none
  |none=>none
def m0t (r:TD E)(t:U)(n:Nat)(l:List (V E.D)):Option (List (Den E.D t)×List (V E.D)):=match n with
 |0=>some ([],l)
 |n+1=>match G8 E 100000 (K2 E t) l with
  |some (m,q)=>match r.M t m,r.A t n q with
   |some x,some (xs,a)=>some (x :: xs,a)
   |_,_=>none
  |none=>none
def td (s:St E.D):Nat->TD E
 |0=>⟨fun _ _=>none,fun _ _=>none,fun _ _=>none,fun _ _ _=>none⟩
 |k+1=>⟨k0e E s (td s k),p0U E (td s k),p0Z E (td s k),m0t E (td s k)⟩
def toD (s:St E.D)(k:Nat)(t:U)(v:V E.D):Option (Den E.D t):=(td E s k).D t v
def T6:Nat->St E.D->List (V E.D)->Option (St E.D)
 |0,_,_=>none
 |_+1,s,[]=>some s
 |k+1,s,v :: r=>match v with
  |.sl id=>match F0 s id with
   |.lst _ t xs=>T6 k (s.at id (.fz t xs)) r
   |.fz ..=>T6 k s r
   |.X0 _ _ t xs none=>T6 k (s.at id (.fz t xs)) r
   |_=>none
  |.pb id 0 []=>match F0 s id with
   |.box T cs=>match T6 k s cs with
    |some s1=>match F0 s1 id with
     |.box b a=>T6 k (s1.at id (.fzb b a)) r
     |_=>none
    |none=>none
   |.fzb ..=>T6 k s r
   |_=>none
  |.agg l=>T6 k s (l++r)
  |.tup l=>T6 k s (l++r)
  |_=>T6 k s r
def C8:Nat:=100000
def rdD (s:St E.D)(t:U)(v:V E.D):Option (St E.D×Den E.D t):=match T6 E C8 s [v]with
 |some s1=>match toD E s1 C8 t v with
  |some x=>some (s1,x)
  |none=>none
 |none=>none
mutual
def fits (s:St E.D):Sh->V E.D->Bool
 |.any,_=>true
 |.nil,.nil=>true
 |.nilp,.nilp=>true
 |.nilif,.nilif=>true
 |.box ..,.pb _ 0 []=>true
 |.own ..,.sl _=>true
 |.own ..,.nil=>true
 |.X0 ..,.sl _=>true
 |.X0 ..,.nil=>true
 |.tup cs,.tup l=>i0X s cs l
 |.agg cs,.agg l=>i0X s cs l
 |.kb b,.kb b'=>b==b'
 |.d (.ptr _),.nilp=>false
 |.d _,.nilif=>false
 |.d _,_=>true
 |.alt x y,v=>fits s x v||fits s y v
 |.ifc T x,.ifc a v=>Nat.beq T a&&fits s x v
 |.fn f cs,.fn c l=>Nat.beq f c&&i0X s cs l
 |.map,.mp _=>true
 |_,_=>false
def i0X (s:St E.D):List Sh->List (V E.D)->Bool
 |[],[]=>true
 |x :: r,v :: l=>fits s x v&&i0X s r l
 |_,_=>false
end
def i0f:U->Bool
 |.list _=>true
 |_=>false
def n05 (t:U):Nat:=match t with
 |.st k=>(E.fs k).length
 |_=>1
def b0B (l:List U):Bool:=match l with
 |[]=>true
 |t :: r=>i0f t&&b0B r
def C9 (t:U)(F:List Nat):Bool:=Nat.beq (K2 E t) F.length&&Nat.beq F.length (n05 E t)&&(match t with|.list _=>true|.st k=>b0B (E.fs k)|_=>false)
structure Pk (α:Type) where
 ids:List (Option Nat)
 dat:α
mutual
def v0k:Sh->Nat
 |.d t=>K2 E t
 |.agg cs=>s0f cs
 |_=>1
def s0f:List Sh->Nat
 |[]=>0
 |x :: r=>v0k x+s0f r
end
def c0S:List Sh->List (V E.D)->Option (List (V E.D))
 |[],[]=>some []
 |[],_=>none
 |x :: r,l=>match G8 E C8 (v0k E x) l with
  |some (m,l')=>match asV E (match x with|.d t=>L8 t|.agg _=>true|_=>false) m,c0S r l' with
   |some v,some vs=>some (v :: vs)
   |_,_=>none
  |none=>none
mutual
def fzs (s:St E.D):Sh->V E.D->List (V E.D)
 |.d _,v=>[v]
 |.box _ cs,v=>match v with
  |.pb id 0 []=>match F0 s id with
   |.box _ l=>(match c0S E cs l with|some l'=>c0F s cs l'|none=>[])
   |_=>[]
  |_=>[]
 |.agg cs,v=>match c0S E cs (j6 v)with|some l=>c0F s cs l|none=>[]
 |.tup cs,v=>match v with|.tup l=>c0F s cs l|_=>[]
 |.fn _ cs,v=>match v with|.fn _ l=>c0F s cs l|_=>[]
 |.ifc _ x,v=>match v with|.ifc _ u=>fzs s x u|_=>[]
 |.alt x y,v=>match fits E s x v with|true=>fzs s x v|false=>fzs s y v
 |_,_=>[]
def c0F (s:St E.D):List Sh->List (V E.D)->List (V E.D)
 |x :: r,v :: l=>fzs s x v++c0F s r l
 |_,_=>[]
end
def pk0:Option (Pk Unit):=some ⟨[],()⟩
def m0S (s:St E.D)(e:Nat)(t:U)(v:V E.D):Option (Pk (List (Den E.D t))):=match v with
 |.nil=>some ⟨[none],[]⟩
 |.sl id=>match F0 s id with
  |.lst e' t' xs=>match Nat.beq e e',N9 t' t xs with
   |true,some ys=>some ⟨[some id],ys⟩
   |_,_=>none
  |_=>none
 |_=>none
def d0M (s:St E.D)(e:Nat)(F:List Nat)(t:U)(v:V E.D):Option (Pk (List (Den E.D t))):=match v with
 |.nil=>match C9 E t F with|true=>some ⟨[none],[]⟩|false=>none
 |.sl id=>match F0 s id with
  |.X0 e' F' t' xs none=>match Nat.beq e e'&&F==F',N9 t' t xs with
   |true,some ys=>some ⟨[some id],ys⟩
   |_,_=>none
  |_=>none
 |_=>none
def n0L (s:St E.D)(T:Nat)(cs:List Sh)(v:V E.D):Option (Nat×List (V E.D)):=match v with
 |.pb id 0 []=>match F0 s id with
  |.box T' l=>match Nat.beq T T',c0S E cs l with
   |true,some l'=>some (id,l')
   |_,_=>none
  |_=>none
 |_=>none
def r08 {D:Nat->Type}:V D->Option (List (V D))
 |.tup l=>some l
 |_=>none
def s0p {D:Nat->Type}(f:Nat):V D->Option (List (V D))
 |.fn g l=>match Nat.beq f g with|true=>some l|false=>none
 |_=>none
def q0M {D:Nat->Type}(T:Nat):V D->Option (V D)
 |.ifc a u=>match Nat.beq T a with|true=>some u|false=>none
 |_=>none
def m0P (s:St E.D):V E.D->Option (Pk (List (Int×Int)))
 |.mp id=>match F0 s id with|.map m=>some ⟨[some id],m⟩|_=>none
 |_=>none
def isC {D:Nat->Type}:Sh->V D->Bool
 |.nil,.nil=>true
 |.nilp,.nilp=>true
 |.nilif,.nilif=>true
 |.kb b,.kb b'=>b==b'
 |_,_=>false
def o0x:Sh->Bool
 |.any=>false
 |_=>true
mutual
def rd (s:St E.D):(sh:Sh)->V E.D->Option (Pk (Q5 E.D sh))
 |.any,_=>pk0
 |.d t,v=>match toD E s C8 t v with|some x=>some ⟨[],x⟩|none=>none
 |.own e t,v=>m0S E s e t v
 |.X0 e F t,v=>d0M E s e F t v
 |.box T cs,v=>match n0L E s T cs v with
  |some (id,l)=>match W7 s cs l with
   |some ⟨ids,x⟩=>some ⟨ids++[some id],x⟩
   |none=>none
  |none=>none
 |.agg cs,v=>match V3 v with
  |true=>match c0S E cs (j6 v)with|some l=>W7 s cs l|none=>none
  |false=>none
 |.tup cs,v=>match r08 v with|some l=>W7 s cs l|none=>none
 |.fn f cs,v=>match s0p f v with|some l=>W7 s cs l|none=>none
 |.ifc T x,v=>match o0x x with
  |true=>match q0M T v with|some u=>rd s x u|none=>none
  |false=>none
 |.alt x y,v=>match o0x x&&o0x y with
  |true=>match fits E s x v with
   |true=>match rd s x v with|some ⟨ids,a⟩=>some ⟨ids,Sum.inl a⟩|none=>none
   |false=>match rd s y v with|some ⟨ids,a⟩=>some ⟨ids,Sum.inr a⟩|none=>none
  |false=>none
 |.map,v=>m0P E s v
 |.nil,v=>match isC .nil v with|true=>pk0|false=>none
 |.nilp,v=>match isC .nilp v with|true=>pk0|false=>none
 |.nilif,v=>match isC .nilif v with|true=>pk0|false=>none
 |.kb b,v=>match isC (.kb b) v with|true=>pk0|false=>none
def W7 (s:St E.D):(cs:List Sh)->List (V E.D)->Option (Pk (J4 E.D cs))
 |[],l=>match l with | []=>pk0|_=>none
 |x :: r,l=>match l with
  |v :: l'=>match rd s x v,W7 s r l' with
   |some ⟨i,a⟩,some ⟨j,b⟩=>some ⟨i++j,e0q (Z5 x) (J5 r) a b⟩
   |_,_=>none
  |[]=>none
end
mutual
def R7 {R:Type}(s:St E.D):(sh:Sh)->Q5 E.D sh->(St E.D->V E.D->Option R)->Option R
 |.any,_,k=>k s .undef
 |.d t,x,k=>k s (ofD t x)
 |.own e t,x,k=>k (s.new (.lst e t x)) (.sl s.nid)
 |.X0 e F t,x,k=>k (s.new (.X0 e F t x none)) (.sl s.nid)
 |.box T cs,x,k=>J9 s cs x fun s l=>k (s.new (.box T l)) (.pb s.nid 0 [])
 |.agg cs,x,k=>J9 s cs x fun s l=>k s (.agg (l.flatMap j6))
 |.tup cs,x,k=>J9 s cs x fun s l=>k s (.tup l)
 |.fn f cs,x,k=>J9 s cs x fun s l=>k s (.fn f l)
 |.ifc T sh,x,k=>R7 s sh x fun s v=>k s (.ifc T v)
 |.alt a b,x,k=>match(show Q5 E.D a⊕Q5 E.D b from x)with
  |.inl y=>R7 s a y k
  |.inr y=>R7 s b y k
 |.map,x,k=>k (s.new (.map x)) (.mp s.nid)
 |.nil,_,k=>k s .nil
 |.nilp,_,k=>k s .nilp
 |.nilif,_,k=>k s .nilif
 |.kb b,_,k=>k s (.kb b)
def J9 {R:Type}(s:St E.D):(cs:List Sh)->J4 E.D cs->(St E.D->List (V E.D)->Option R)->Option R
 |[],_,k=>k s []
 |x :: r,a,k=>R7 s x (c0G (Z5 x) (J5 r) (b0W E x) a) fun s v=>J9 s r (e0t (Z5 x) (J5 r) (c0M E r) a) fun s l=>k s (v :: l)
end
structure Cut where
 sl:List (Nat×Sh)
 th:List (Nat×Sh)
def Cut.shs (c:Cut):List Sh:=c.sl.map Prod.snd++c.th.map Prod.snd
abbrev g0F (D:Nat->Type)(c:Cut):Type:=J4 D c.shs
def b08 {D:Nat->Type}(s:St D)(t:Nat):V D:=match F4 s.fr t with|some v=>v|none=>.undef
def thV {D:Nat->Type}(s:St D)(id:Nat):V D:=match F0 s id with
 |.box ..=>.pb id 0 []
 |.fzb ..=>.pb id 0 []
 |.lst ..=>.sl id
 |.fz ..=>.sl id
 |.X0 ..=>.sl id
 |.rof ..=>.sl id
 |.map _=>.mp id
 |.gone=>.undef
def h0c {α β:Type}(now a:List (Nat×α))(c:List (Nat×β)):Bool:=
 (now.take (now.length-a.length)).all fun p=>(match F4 a p.1 with|none=>true|some _=>false)||(match F4 c p.1 with|none=>false|some _=>true)
def c0I:List Nat->Bool
 |[]=>true
 |x :: r=>!(r.any (Nat.beq x))&&c0I r
def p0s (nid:Nat)(th:List (Nat×Sh))(ids:List Nat):Bool:=
 c0I ids&&ids.all fun i=>Nat.ble nid i||(match F4 th i with|none=>false|some _=>true)
def b0E (a s:St E.D)(c:Cut):Option (g0F E.D c):=
 let vs:=c.sl.map (fun p=>b08 s p.1)++c.th.map (fun p=>thV s p.1)
 match T6 E C8 s (c0F E s c.shs vs)with
 |some s1=>match W7 E s1 c.shs vs with
  |some ⟨ids,x⟩=>match h0c s1.fr a.fr c.sl&&h0c s1.th a.th c.th&&p0s a.nid c.th (ids.filterMap fun x=>x)&&(c.th.all fun p=>Nat.blt p.1 a.nid)&&c0I (c.th.map Prod.fst)&&(c.sl.all fun p=>Nat.blt p.1 a.n)with
   |true=>some x
   |false=>none
  |none=>none
 |none=>none
def e8 {D:Nat->Type}(s:St D):List (Nat×Sh)->List (V D)->St D
 |(t,_) :: r,v :: l=>e8 (s.put (some t) v) r l
 |_,_=>s
def Z0 {D:Nat->Type}(s:St D):List Nat->St D
 |[]=>s
 |i :: r=>Z0 (s.at i .gone) r
def X9 {D:Nat->Type}(q:Nat):List (Nat×Th D)->List Nat
 |[]=>[]
 |(r,.rof a _ _) :: l=>match Nat.beq q a with|true=>r :: X9 q l|false=>X9 q l
 |_ :: l=>X9 q l
def H7 {D:Nat->Type}(s:St D)(q:Nat):St D:=Z0 s (X9 q s.th)
def a0D {D:Nat->Type}(s:St D):List Nat->St D
 |[]=>s
 |q :: r=>a0D (H7 s q) r
def u08 {D:Nat->Type}:Th D->Bool
 |.rof ..=>true
 |_=>false
def u0e {D:Nat->Type}(s:St D)(sh:Sh)(j:Nat):Bool:=match sh with
 |.X0 _ F _=>(match F0 s j with|.X0 _ a _ _ none=>Nat.beq F.length a.length|_=>false)
 |_=>false
def mvT {D:Nat->Type}(s:St D)(id j:Nat)(sh:Sh):St D:=match u08 (F0 s j)with
 |true=>s.at id .gone
 |false=>match u0e s sh j with
  |true=>(s.at id (F0 s j)).at j .gone
  |false=>((H7 s id).at id (F0 s j)).at j .gone
def b0e {D:Nat->Type}(s:St D)(id:Nat)(sh:Sh)(v:V D):St D:=match v with
 |.sl j=>mvT s id j sh
 |.pb j 0 []=>mvT s id j sh
 |.mp j=>mvT s id j sh
 |_=>s.at id .gone
def a0I {D:Nat->Type}(s:St D):List (Nat×Sh)->List (V D)->St D
 |(t,sh) :: r,v :: l=>a0I (b0e s t sh v) r l
 |_,_=>s
def c0A {R:Type}(a:St E.D)(c:Cut)(x:g0F E.D c)(k:St E.D->Option R):Option R:=
 J9 E (Z0 a (c.th.map Prod.fst)) c.shs x fun s l=>k (a0I (e8 s c.sl l) c.th (l.drop c.sl.length))
inductive Ex where|nrm|ex (id:Nat)|ret
def Ex.eq:Ex->Ex->Bool
 |.nrm,.nrm=>true
 |.ex i,.ex j=>Nat.beq i j
 |.ret,.ret=>true
 |_,_=>false
def h0p (D:Nat->Type):List (Ex×Cut)->Type
 |[]=>Empty
 |[x]=>g0F D x.2
 |x :: y :: r=>g0F D x.2⊕h0p D (y :: r)
def c0Z (b:St E.D)(e:Ex)(s:St E.D):(xs:List (Ex×Cut))->Option (h0p E.D xs)
 |[]=>none
 |[x]=>match x.1.eq e with|true=>b0E E b s x.2|false=>none
 |x :: y :: r=>match x.1.eq e with
  |true=>match b0E E b s x.2 with|some a=>some (Sum.inl a)|none=>none
  |false=>match c0Z b e s (y :: r)with|some a=>some (Sum.inr a)|none=>none
def resume {R:Type}(c:St E.D)(k:Ex->St E.D->Option R):(xs:List (Ex×Cut))->h0p E.D xs->Option R
 |[],_=>none
 |[x],a=>c0A E c x.2 a (k x.1)
 |x :: y :: r,a=>match(show g0F E.D x.2⊕h0p E.D (y :: r)from a)with
  |.inl b=>c0A E c x.2 b (k x.1)
  |.inr b=>resume c k (y :: r) b
structure Ann where
 js:List (Nat×List (Ex×Cut))
 ls:List (Nat×Cut×List (Ex×Cut))
 rs:List (Nat×Nat×Nat×Cut)
 tb:List Nat:=[]
structure Sm (D:Nat->Type) where
 f:Nat
 ins:List Sh
 res:Sh
 back:List (Nat×Sh)
 m:J4 D ins->Option (J4 D (res :: back.map Prod.snd))
structure J3 where
 sm:List (Sm E.D)
 ann:Nat->Ann
 fuel:Nat
 tb:List Nat:=[]
def t0S {D:Nat->Type}:List (V D)->Option Nat
 |[]=>none
 |x :: r=>match x with
  |.ifc T _=>some T
  |_=>t0S r
def shT:List Sh->Option Nat
 |[]=>none
 |x :: r=>match x with
  |.ifc T _=>some T
  |_=>shT r
def I0y (s:St E.D)(c:Sm E.D)(args:List (V E.D)):Bool:=match c.ins,args with
 |.box _ cs :: _,.pb id _ _ :: _=>match shT cs with
  |some T=>match F0 s id with
   |.box _ ps=>(match t0S ps with|some a=>Nat.beq T a|none=>false)
   |_=>false
  |none=>true
 |_,_=>true
def g0b {D:Nat->Type}:V D->Option Nat
 |.sl i=>some i
 |.pb i 0 []=>some i
 |.mp i=>some i
 |_=>none
def D5 {D:Nat->Type}(args:List (V D)):List (Nat×Sh)->List (Nat×Sh)
 |[]=>[]
 |(j,sh) :: r=>match args[j]? with
  |some v=>match g0b v with
   |some i=>(i,sh) :: D5 args r
   |none=>D5 args r
  |none=>D5 args r
def A0t (s:St E.D)(c:Sm E.D)(args:List (V E.D)):Bool:=match Nat.beq (D5 args c.back).length c.back.length with
 |true=>I0y E s c args
 |false=>false
def e0U (s:St E.D)(args:List (V E.D)):List (Sm E.D)->Nat->Option (Sm E.D)
 |[],_=>none
 |x :: r,f=>match Nat.beq x.f f with
  |true=>(match A0t E s x args with|true=>some x|false=>e0U s args r f)
  |false=>e0U s args r f
def f0B:Sh->Bool
 |.d (.int _)|.d .bool|.d .str|.own _ (.int _)|.own _ .bool|.any|.nil|.nilp|.kb _=>true
 |_=>false
def k0j:Sh->Bool
 |.tup cs=>cs.all f0B
 |x=>f0B x
def j0X {R:Type}(s:St E.D)(c:Sm E.D)(args:List (V E.D))(k:St E.D->V E.D->Option R):Option R:=
 match T6 E C8 s (c0F E s c.ins args)with
 |some s1=>match W7 E s1 c.ins args with
  |some ⟨ids,x⟩=>match c0I (ids.filterMap fun x=>x)&&Nat.beq (D5 args c.back).length c.back.length with
   |true=>Option.bind (c.m x) fun y=>
     J9 E (Z0 (match k0j c.res&&c.back.all (fun p=>f0B p.2)with|true=>s|false=>s1) (ids.filterMap fun x=>x)) (c.res :: c.back.map Prod.snd) y fun s2 l=>match l with
      |v :: l'=>k (a0I (a0D s2 ((D5 args c.back).map Prod.fst)) (D5 args c.back) l') v
      |[]=>none
   |false=>none
  |none=>none
 |none=>none
def s0s (T:Nat):Option Value:=match E.P.info? T with
 |some i=>i.zero
 |none=>none
def c0f (e:Nat):Option (Value×Nat×Nat):=match E.P.info? e with
 |some i=>match i.zero with
  |some z=>some (z,i.size,i.bytes)
  |none=>none
 |none=>none
def b0J (T:Nat):Option Nat:=match E.P.underlying T with
 |some (.slice e)=>some e
 |_=>none
def i0K (s:St E.D)(t:U):List (V E.D)->Option (List (Den E.D t))
 |[]=>some []
 |v :: r=>match toD E s C8 t v,i0K s t r with
  |some x,some xs=>some (x :: xs)
  |_,_=>none
def l0h:Nat->List (Nat×Operand)->Bool
 |_,[]=>true
 |j,(i,_) :: r=>Nat.beq i j&&l0h (j+1) r
def j0Y:Operand->Operand->Bool
 |.tmp a,.tmp b=>Nat.beq a b
 |.const (.int .i64 a),.const (.int .i64 b)=>decide (a=b)
 |_,_=>false
abbrev K (R:Type):=St E.D->V E.D->Option R
def n0c {R:Type}(s:St E.D)(T:Nat)(k:K E R):Option R:=match s0s E T with
 |some z=>match z.cells.toList.all (·.oneCell')with
  |true=>k (s.new (.box T (j6 (ofZ E z)))) (.pb s.nid 0 [])
  |false=>none
 |none=>none
def p0V {R:Type}(s:St E.D)(T:Nat)(v:V E.D)(k:K E R):Option R:=match c0O v with
 |true=>k (s.new (.box T (j6 v))) (.pb s.nid 0 [])
 |false=>none
def h0T {D:Nat->Type}(s:St D)(id:Nat):Option (Nat×List (V D)):=match F0 s id with
 |.box T l=>some (T,l)
 |_=>none
def e0I (s:St E.D)(id:Nat):Option (Nat×((t:U)×List (Den E.D t))):=match F0 s id with
 |.lst e t xs=>some (e,⟨t,xs⟩)
 |_=>none
def k0I (l:List (V E.D)):Option (((t:U)×Den E.D t)×List (V E.D)):=match l with
 |.d t x :: r=>some (⟨t,x⟩,r)
 |_=>none
def t0C:List Field->Option (List Nat)
 |[]=>some []
 |x :: r=>match b0J E x.type,t0C r with
  |some e,some l=>some (e :: l)
  |_,_=>none
def s0C (e:Nat):Option (List Nat):=match E.P.underlying e with
 |some (.slice e')=>some [e']
 |some (.struct l)=>t0C E l.toList
 |_=>none
def r07 {D:Nat->Type}(g:(u:U)->List (Den D u)->Option (List (Den D u))):(t:U)->Den D t->Option (Den D t)
 |.list u,x=>g u x
 |_,_=>none
def o0b {D:Nat->Type}(g:(u:U)->List (Den D u)->Option (List (Den D u)))(u:U)(x:List (Den D u)):Nat->Option (List (Den D u))
 |0=>g u x
 |_=>none
def n0K (k:Nat)(o:Option (HL E.D (E.fs k))):Option (E.D k):=match o with
 |some h=>some (E.mkS k h)
 |none=>none
def setRow (t:U)(x:Den E.D t)(f:Nat)(g:(u:U)->List (Den E.D u)->Option (List (Den E.D u))):Option (Den E.D t):=match t,x with
 |.list u,x=>o0b g u x f
 |.st k,x=>n0K E k (a00 (E.fs k) (E.un k x) f (r07 g))
 |_,_=>none
def c0X (s:St E.D)(id:Nat):Option (Nat×List Nat×Option (Int×Nat)×((t:U)×List (Den E.D t))):=match F0 s id with
 |.X0 e F t xs o=>some (e,F,o,⟨t,xs⟩)
 |_=>none
def i02 (t:U)(q:List B6):Option Nat:=match t,q with
 |.list _,[]=>some 0
 |.st k,[.inl (f,o)]=>match Nat.beq (c0g E (E.fs k) f) o with|true=>some f|false=>none
 |_,_=>none
def g0u (s:St E.D)(e:Nat)(u:U)(v:V E.D):Option (Option Nat×List (Den E.D u)):=match v with
 |.nil=>some (none,[])
 |.sl j=>match e0I E s j with
  |some (e',⟨u',ys⟩)=>match Nat.beq e e',N9 u' u ys with
   |true,some a=>some (some j,a)
   |_,_=>none
  |none=>none
 |_=>none
def d0c {D:Nat->Type}(s:St D):Option Nat->St D
 |some id=>s.at id .gone
 |none=>s
def t0K (o:Option (Int×Nat))(i:Int)(f:Nat):Option Bool:=match o with
 |none=>none
 |some (j,g)=>match Nat.beq f g with|true=>some (decide (j=i))|false=>some false
def q0H (t:U)(f:Nat):Option U:=match t with
 |.list u=>match f with|0=>some u|_=>none
 |.st k=>match j0F (E.fs k) f with|some (.list u)=>some u|_=>none
 |_=>none
def m05 {R:Type}(s:St E.D)(id:Nat)(i:Int)(z:Nat)(q:List B6)(v:V E.D)(k:K E R):Option R:=match c0X E s id with
 |some (e,F,o,⟨t,xs⟩)=>match Nat.beq z (K2 E t),i02 E t q with
  |true,some f=>match q0H E t f,F[f]? with
   |some u,some e'=>match g0u E s e' u v with
    |some (g,ys)=>match setRow E t (E6 E t xs i) f (fun a _=>N9 u a ys)with
     |some x=>match t0K o i f with
      |none=>k ((H7 (d0c s g) id).at id (.X0 e F t (xs.set i.toNat x) none)) (.tup [])
      |some b=>if b then k ((H7 (d0c s g) id).at id (.X0 e F t (xs.set i.toNat x) none)) (.tup [])else none
     |none=>none
    |none=>none
   |_,_=>none
  |_,_=>none
 |none=>none
def l03 {R:Type}(s:St E.D)(n:Nat)(r:Nat)(j:Int)(f:Nat)(i:Int)(z:Nat)(q:List B6)(v:V E.D)(k:K E R):Option R:=match b0A E s r j f with
 |some ⟨t,_⟩=>match Nat.beq z (K2 E t),e0l E t q with
  |true,some u=>match rdD E s u v with
   |some (s1,y)=>match c0X E s1 r with
    |some (e,F,none,⟨t0,xs⟩)=>match setRow E t0 (E6 E t0 xs j) f (fun a ys=>match Nat.beq z (K2 E a)&&Nat.beq (K2 E u) n,b07 E u y q a (E6 E a ys i)with
      |true,some x=>some (ys.set i.toNat x)
      |_,_=>none)with
     |some x=>k (s1.at r (.X0 e F t0 (xs.set j.toNat x) none)) (.tup [])
     |none=>none
    |_=>none
   |none=>none
  |_,_=>none
 |none=>none
def k0Y {R:Type}(s:St E.D)(T:Nat)(p v:V E.D)(k:K E R):Option R:=match H5 E T with
 |none=>none
 |some n=>match Nat.beq (vsz E v) n&&c0O v with
  |false=>none
  |true=>match p with
   |.pb id off []=>match h0T s id with
    |some (b,cs)=>match a0i E off n cs with
     |some (a,_,c)=>k (s.at id (.box b (a++j6 v++c))) (.tup [])
     |none=>none
    |none=>none
   |.pb id off q=>match rdP s id off q v with
    |some (s1,b,l)=>k (s1.at id (.box b l)) (.tup [])
    |none=>none
   |.pe id i z q=>match F0 s id with
    |.X0 ..=>match Nat.beq n 1 with|true=>m05 E s id i z q v k|false=>none
    |.rof r j f=>l03 E s n r j f i z q v k
    |_=>match e0I E s id with
     |some (_,⟨t,_⟩)=>match Nat.beq z (K2 E t),e0l E t q with
      |true,some u=>match rdD E s u v with
       |some (s1,y)=>match e0I E s1 id with
        |some (e,⟨t',xs⟩)=>match Nat.beq z (K2 E t')&&Nat.beq (K2 E u) n,b07 E u y q t' (E6 E t' xs i)with
         |true,some x=>k (s1.at id (.lst e t' (xs.set i.toNat x))) (.tup [])
         |_,_=>none
        |none=>none
       |none=>none
      |_,_=>none
     |none=>none
   |_=>none
where
 /-- A store Y0 an element of an array within a variable. -/
 rdP (s:St E.D) (id off:Nat) (q:List B6) (v:V E.D):Option (St E.D×Nat×List (V E.D)):=match h0T s id with
  |some (_,cs)=>match G8 E C8 off cs with
   |some (_,m)=>match k0I E m with
    |some (⟨t,_⟩,_)=>match e0l E t q with
     |some u=>match Nat.beq (K2 E u) (vsz E v),rdD E s u v with
      |true,some (s1,y)=>match h0T s1 id with
       |some (T',cs')=>match G8 E C8 off cs' with
        |some (a,m')=>match k0I E m' with
         |some (⟨t',x'⟩,c)=>match b07 E u y q t' x' with
          |some z=>some (s1,T',a++.d t' z :: c)
          |none=>none
         |none=>none
        |none=>none
       |none=>none
      |_,_=>none
     |none=>none
    |none=>none
   |none=>none
  |none=>none
def e0p (s:St E.D)(t:U)(y:V E.D):Option (List (Den E.D t)):=match y with
 |.nil=>some []
 |y=>match c0o E s y with
  |some ⟨a,ys⟩=>N9 a t ys
  |none=>none
def v0q (s:St E.D)(e:Nat)(t:U)(x:V E.D):Option (Option Nat×List (Den E.D t)):=match x with
 |.nil=>some (none,[])
 |.sl id=>match e0I E s id with
  |some (e',⟨t',xs⟩)=>match Nat.beq e e',N9 t' t xs with
   |true,some ys=>some (some id,ys)
   |_,_=>none
  |none=>none
 |_=>none
def c0r (t:U)(z:Value)(sz bytes:Nat):Bool:=Nat.beq sz (K2 E t)&&Nat.beq z.cells.size sz&&Nat.blt 0 sz&&Nat.blt 0 bytes
def g0Z (s:St E.D)(e:Nat)(F:List Nat)(t:U)(x:V E.D):Option (Option Nat×List (Den E.D t)):=match x with
 |.nil=>some (none,[])
 |.sl id=>match c0X E s id with
  |some (e',F',none,⟨t',xs⟩)=>match Nat.beq e e'&&F==F',N9 t' t xs with
   |true,some ys=>some (some id,ys)
   |_,_=>none
  |_=>none
 |_=>none
def q09 (s:St E.D)(x:V E.D):Option (Nat×Int×Nat):=match x with
 |.sl id=>match F0 s id with
  |.rof r j f=>some (r,j,f)
  |_=>none
 |_=>none
def v0X (s:St E.D)(y:V E.D):Option Nat:=match y with
 |.sl id=>match F0 s id with
  |.X0 ..=>some id
  |_=>none
 |_=>none
def o0t {R:Type}(s:St E.D)(T:Nat)(x:V E.D)(a:Nat)(k:K E R):Option R:=match b0J E T with
 |none=>none
 |some e=>match E.uT e,c0f E e,c0X E s a with
  |some t,some (z,sz,bytes),some (e2,F,none,⟨t',ys'⟩)=>match c0r E t z sz bytes&&Nat.beq e e2&&C9 E t F,N9 t' t ys',g0Z E s e F t x with
   |true,some ys,some (g,xs)=>match(match g with|some b=>!(Nat.beq b a)|none=>true)with
    |true=>if K0 bytes xs ys then k (((d0c s g).at a .gone).new (.X0 e F t (xs++ys) none)) (.sl s.nid)else none
    |false=>none
   |_,_,_=>none
  |_,_,_=>none
def n0h (s:St E.D)(r:Nat)(j:Int)(f:Nat):Option (St E.D):=match c0X E s r with
 |some (e,F,none,⟨t,xs⟩)=>match b0A E s r j f,F[f]? with
  |some ⟨u,a⟩,some e'=>some (((H7 s r).at r (.X0 e F t xs (some (j,f)))).new (.lst e' u a))
  |_,_=>none
 |_=>none
def i08 {R:Type}(s:St E.D)(T:Nat)(x y:V E.D)(k:K E R):Option R:=match b0J E T with
 |none=>none
 |some e=>match E.uT e,c0f E e with
  |some t,some (z,sz,bytes)=>match c0r E t z sz bytes,e0p E s t y,v0q E s e t x with
   |true,some ys,some (g,xs)=>if K0 bytes xs ys then k ((d0c s g).new (.lst e t (xs++ys))) (.sl s.nid)else none
   |_,_,_=>none
  |_,_=>none
def k0J {D:Nat->Type}:V D->Option ((t:U)×List (Den D t))
 |.df t xs=>some ⟨t,xs⟩
 |_=>none
def w0Q {R:Type}(s:St E.D)(T:Nat)(b:U)(a:List (Den E.D b))(y:V E.D)(k:K E R):Option R:=match b0J E T with
 |none=>none
 |some e=>match E.uT e,c0f E e with
  |some t,some (z,sz,bytes)=>match c0r E t z sz bytes,e0p E s t y,N9 b t a with
   |true,some ys,some xs=>if K0 bytes xs ys then k s (.d (.list t) (xs++ys))else none
   |_,_,_=>none
  |_,_=>none
def q0L {R:Type}(s:St E.D)(T:Nat)(x y:V E.D)(k:K E R):Option R:=match k0J x with
 |some ⟨t,xs⟩=>w0Q E s T t xs y k
 |none=>i08 E s T x y k
def o04 {R:Type}(s:St E.D)(T:Nat)(x y:V E.D)(k:K E R):Option R:=match q09 E s x with
 |some (r,j,f)=>match n0h E s r j f with
  |some s1=>i08 E s1 T (.sl s.nid) y k
  |none=>none
 |none=>match v0X E s y with
  |some a=>o0t E s T x a k
  |none=>q0L E s T x y k
def p0G {R:Type}(s:St E.D)(T:Nat)(b:U)(a:List (Den E.D b))(y:V E.D)(k:K E R):Option R:=match b0J E T with
 |none=>none
 |some e=>match E.uT e,c0f E e with
  |some t,some (z,sz,bytes)=>match c0r E t z sz bytes,e0p E s t y,N9 b t a with
   |true,some ys,some xs=>if xs.isEmpty&&K0 bytes xs ys then k (s.new (.lst e t ys)) (.sl s.nid)else none
   |_,_,_=>none
  |_,_=>none
def q0b {R:Type}(b:Bool)(s:St E.D)(T:Nat)(x y:V E.D)(k:K E R):Option R:=match b,k0J x with
 |true,some ⟨t,xs⟩=>p0G E s T t xs y k
 |_,_=>o04 E s T x y k
def bsV {R:Type}(s:St E.D)(T n:Nat)(parts:List (Nat×Operand))(k:K E R):Option R:=match b0J E T with
 |some e=>match E.uT e,c0f E e with
  |some t,some (z,sz,bytes)=>match c0r E t z sz bytes&&Nat.beq n parts.length&&l0h 0 parts&&Nat.ble n 10000&&Nat.ble sz 1000&&(parts.all fun p=>(c0O (N1 E s p.2))&&Nat.beq (vsz E (N1 E s p.2)) sz),T6 E C8 s (parts.map fun p=>N1 E s p.2)with
   |true,some s1=>match i0K E s1 t (parts.map fun p=>N1 E s p.2)with
    |some xs=>k (s1.new (.lst e t xs)) (.sl s1.nid)
    |none=>none
   |_,_=>none
  |_,_=>none
 |none=>none
def emp {D:Nat->Type}:St D:=⟨0,[],[],0,[]⟩
def q0z {R:Type}(s:St E.D)(T:Nat)(n m:Operand)(k:K E R):Option R:=match b0J E T,B5 (N1 E s n),j0Y n m with
 |some e,some (_,x),true=>match E.uT e,c0f E e with
  |some t,some (z,sz,bytes)=>match c0r E t z sz bytes,toD E emp C8 t (ofZ E z)with
   |true,some zx=>if R2 bytes x then k (s.new (.lst e t (List.replicate x.toNat zx))) (.sl s.nid)else none
   |_,_=>none
  |_,_=>none
 |_,_,_=>none
def isNil {D:Nat->Type}:V D->Bool
 |.nil=>true
 |_=>false
def n0d {R:Type}(s:St E.D)(T:Nat)(n m:Operand)(k:K E R):Option R:=match b0J E T,B5 (N1 E s n),j0Y n m with
 |some e,some (_,x),true=>match E.uT e,c0f E e,s0C E e with
  |some t,some (z,sz,bytes),some F=>match c0r E t z sz bytes&&C9 E t F&&(j6 (ofZ E z)).all isNil,toD E emp C8 t (ofZ E z)with
   |true,some zx=>if R2 bytes x then k (s.new (.X0 e F t (List.replicate x.toNat zx) none)) (.sl s.nid)else none
   |_,_=>none
  |_,_,_=>none
 |_,_,_=>none
def bsT {R:Type}(s:St E.D)(T n:Nat)(parts:List (Nat×Operand))(k:K E R):Option R:=match b0J E T,parts,n with
 |some e,[(0,x)],1=>match E.uT e,c0f E e,s0C E e with
  |some (.list u),some (z,sz,bytes),some [e']=>match c0r E (.list u) z sz bytes&&C9 E (.list u) [e'],g0u E s e' u (N1 E s x)with
   |true,some (g,ys)=>k ((d0c s g).new (.X0 e [e'] (.list u) [ys] none)) (.sl s.nid)
   |_,_=>none
  |_,_,_=>none
 |_,_,_=>none
def j0A (tb:List Nat)(o:Oper):Bool:=match o.dst with
 |some d=>tb.any (Nat.beq d)
 |none=>false
def n0T {R:Type}(s:St E.D)(T a:Nat)(x:V E.D)(k:K E R):Option R:=match x with
 |.sl id=>match Nat.beq T a,E.P.underlying T,e0I E s id with
  |true,some (.slice e),some (_,⟨.int .u8,xs⟩)=>match E.P.underlying e with
   |some (.int .u8)=>if !xs.isEmpty then k (s.at id (.fz (.int .u8) xs)) (.sl id)else none
   |_=>none
  |_,_,_=>none
 |_=>none
def m02 (s:St E.D)(x:V E.D):Option (Nat×List (Int×Int)):=match x with
 |.mp id=>match F0 s id with|.map m=>some (id,m)|_=>none
 |_=>none
def p0k {R:Type}(s:St E.D)(T:Nat)(x i y:V E.D)(k:K E R):Option R:=match m02 E s x,h0z i,h0z y,l0B E T with
 |some (id,m),some a,some b,true=>k (s.at id (.map (b0f m a b))) (.tup [])
 |_,_,_,_=>none
def copyV {R:Type}(s:St E.D)(T:Nat)(x y:V E.D)(k:K E R):Option R:=match E.P.underlying T,x with
 |some (.slice e),.sl id=>match H5 E e with
  |some 1=>match F0 s id with
   |.lst e' t xs=>match Nat.beq (K2 E t) 1,e0p E s t y with
    |true,some ys=>k (s.at id (.lst e' t (j4 xs ys))) (dI .i64 ((Nat.min ys.length xs.length:Nat):Int))
    |_,_=>none
   |.rof r j f=>match c0X E s r,b0A E s r j f with
    |some (e0,F,none,⟨t0,xs0⟩),some ⟨t,xs⟩=>match Nat.beq (K2 E t) 1,e0p E s t y with
     |true,some ys=>match setRow E t0 (E6 E t0 xs0 j) f (fun a b=>match N9 t a ys with|some ws=>some (j4 b ws)|none=>none)with
      |some x=>k (s.at r (.X0 e0 F t0 (xs0.set j.toNat x) none)) (dI .i64 ((Nat.min ys.length xs.length:Nat):Int))
      |none=>none
     |_,_=>none
    |_,_=>none
   |_=>none
  |_=>none
 |_,_=>none
def evE {R:Type}(tb:List Nat)(s:St E.D)(o:Oper)(k:K E R):Option R:=match o.op with
 |.alloc T=>n0c E s T k
 |.box T x=>p0V E s T (N1 E s x) k
 |.store T p x=>k0Y E s T (N1 E s p) (N1 E s x) k
 |.buildSlice T n parts=>match j0A tb o with|true=>bsT E s T n parts.toList k|false=>bsV E s T n parts.toList k
 |.makeSlice T n m=>match j0A tb o with|true=>n0d E s T n m k|false=>q0z E s T n m k
 |.call c=>match c.callee,c.args.toList,c.argTypes.toList with
  |.builtin .append,[x,y],[T,a]=>match Nat.beq T a with
   |true=>q0b E (j0A tb o) s T (N1 E s x) (N1 E s y) k
   |false=>none
  |.builtin .copy,[x,y],[T,a]=>match Nat.beq T a with
   |true=>copyV E s T (N1 E s x) (N1 E s y) k
   |false=>none
  |_,_,_=>none
 |.convert T a x=>n0T E s T a (N1 E s x) k
 |.makeMap _ none=>k (s.new (.map [])) (.mp s.nid)
 |.mapUpdate T m i x=>p0k E s T (N1 E s m) (N1 E s i) (N1 E s x) k
 |_=>none
def m0x (s:St E.D)(T:Nat)(p:V E.D):Option (Nat×Int×Nat):=match p with
 |.pe id i z q=>match c0X E s id with
  |some (_,F,none,⟨t,_⟩)=>match Y8 E T,H5 E T,i02 E t q with
   |some false,some 1,some f=>match Nat.beq z (K2 E t)&&Nat.blt f F.length with|true=>some (id,i,f)|false=>none
   |_,_,_=>none
  |_=>none
 |_=>none
def j0w (s:St E.D)(o:Oper):Option (Nat×Int×Nat):=match o.op with
 |.load T x=>m0x E s T (N1 E s x)
 |_=>none
end
