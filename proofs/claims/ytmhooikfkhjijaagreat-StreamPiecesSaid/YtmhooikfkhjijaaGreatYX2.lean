/- P. Its conditions: none. -/
import Derived.Test.YtmhooikfkhjijaaGreatYX1
set_option linter.all false
namespace Go.X
open Go.V Go.RowKit
inductive Sh where
 |any|d (t:U)|own (e:Nat) (t:U)|box (T:Nat) (cs:List Sh)|agg (cs:List Sh)|tup (cs:List Sh)|nil|nilp|nilif|kb (b:Bool)
 |fn (f:Nat) (cs:List Sh)|ifc (T:Nat) (x:Sh)|alt (x y:Sh)|map|B1 (e:Nat) (F:List Nat) (t:U)
def DC:Bool->Bool->Type->Type->Type
 |true,_,_,B=>B
 |false,true,A,_=>A
 |false,false,A,B=>A×B
def e0E {A B:Type}:(p q:Bool)->A->B->DC p q A B
 |true,_,_,b=>b
 |false,true,a,_=>a
 |false,false,a,b=>(a,b)
def c0R {A B:Type}:(p q:Bool)->A->DC p q A B->A
 |true,_,a,_=>a
 |false,true,_,x=>x
 |false,false,_,x=>x.1
def d0E {A B:Type}:(p q:Bool)->B->DC p q A B->B
 |true,_,_,x=>x
 |false,true,b,_=>b
 |false,false,_,x=>x.2
mutual
def J6:Sh->Bool
 |.d _|.own _ _|.alt _ _|.map|.B1 ..=>false
 |.box _ cs|.agg cs|.tup cs|.fn _ cs=>U5 cs
 |.ifc _ x=>J6 x
 |_=>true
def U5:List Sh->Bool
 |[]=>true
 |x :: r=>J6 x&&U5 r
end
mutual
def D6 (D:Nat->Type):Sh->Type
 |.d t=>Den D t
 |.own _ t|.B1 _ _ t=>List (Den D t)
 |.box _ cs|.agg cs|.tup cs|.fn _ cs=>S4 D cs
 |.ifc _ x=>D6 D x
 |.alt x y=>D6 D x⊕D6 D y
 |.map=>List (Int×Int)
 |_=>Unit
def S4 (D:Nat->Type):List Sh->Type
 |[]=>Unit
 |x :: r=>DC (J6 x) (U5 r) (D6 D x) (S4 D r)
end
section
variable (E:Env)
mutual
def b0f:(x:Sh)->D6 E.D x
 |.d t=>dfl E t
 |.own _ _|.B1 _ _ _=>([]:List _)
 |.box _ cs|.agg cs|.tup cs|.fn _ cs=>c0s cs
 |.ifc _ x=>b0f x
 |.alt x _=>Sum.inl (b0f x)
 |.map=>([]:List (Int×Int))
 |.any|.nil|.nilp|.nilif|.kb _=>()
def c0s:(l:List Sh)->S4 E.D l
 |[]=>()
 |x :: r=>e0E (J6 x) (U5 r) (b0f x) (c0s r)
end
def B9 {D:Nat->Type}(t u:U)(x:List (Den D t)):Option (List (Den D u)):=if h:t=u then some (h▸x)else none
structure TD (E:Env) where
 D:(t:U)->V E.D->Option (Den E.D t)
 M:(t:U)->List (V E.D)->Option (Den E.D t)
 F:(ts:List U)->List (V E.D)->Option (HL E.D ts×List (V E.D))
 A:(t:U)->Nat->List (V E.D)->Option (List (Den E.D t)×List (V E.D))
def e0l {D:Nat->Type}(b:IntKind)(v:V D):Option Int:=match L5 v with
 |some (a,x)=>match decide (a=b)with|true=>some x|false=>none
 |none=>none
def d0J {D:Nat->Type}(v:V D):Option ByteArray:=match v with|.d .str x=>some x|_=>none
def d0O (s:St E.D)(t:U)(v:V E.D):Option (List (Den E.D t)):=match v with
 |.nil=>some []
 |.d (.list a) xs=>B9 a t xs
 |.sl id=>match E0 s id with
  |.fz a xs=>B9 a t xs
  |_=>none
 |_=>none
def unD {D:Nat->Type}:V D->Option ((t:U)×Den D t)
 |.d t x=>some ⟨t,x⟩
 |_=>none
def o0I {D:Nat->Type}:V D->Bool
 |.nilp=>true
 |_=>false
def e01 {α β:Type}:Option (α×List β)->Option α
 |some (x,[])=>some x
 |_=>none
def e0y (r:TD E)(i:Nat)(v:V E.D):Option (E.D i):=match unD v with
 |some ⟨a,x⟩=>d0m a (.st i) x
 |none=>match e0W v with
  |some l=>match e01 (r.F (E.fs i) l)with
   |some h=>some (E.mkS i h)
   |none=>none
  |none=>none
def d0P (r:TD E)(n:Nat)(t:U)(v:V E.D):Option (List (Den E.D t)):=match unD v with
 |some ⟨a,x⟩=>d0m a (.arr n t) x
 |none=>match e0W v with
  |some l=>e01 (r.A t n l)
  |none=>none
def d0a (s:St E.D)(r:TD E)(t:U)(v:V E.D):Option (Den E.D t):=match v with
 |.pd a x=>d0m a t x
 |.d (.ptr a) x=>d0m a t x
 |.pb id 0 []=>match E0 s id with
  |.fzb _ cs=>r.M t cs
  |_=>none
 |_=>none
def d0C (s:St E.D)(r:TD E)(t:U)(v:V E.D):Option (Option (Den E.D t)):=match o0I v with
 |true=>some none
 |false=>match unD v with
  |some ⟨a,x⟩=>d0m a (.opt t) x
  |none=>match d0a E s r t v with
   |some y=>some (some y)
   |none=>none
def k0x (s:St E.D)(r:TD E):(t:U)->V E.D->Option (Den E.D t)
 |.int a,v=>e0l a v
 |.bool,v=>V6 v
 |.str,v=>d0J v
 |.list t,v=>d0O E s t v
 |.st i,v=>e0y E r i v
 |.arr n t,v=>d0P E r n t v
 |.ptr t,v=>d0a E s r t v
 |.opt t,v=>d0C E s r t v
def o0r (r:TD E)(t:U)(m:List (V E.D)):Option (Den E.D t):=match asV E (Y8 t) m with
 |some v=>r.D t v
 |none=>none
def m0A (r:TD E)(ts:List U)(l:List (V E.D)):Option (HL E.D ts×List (V E.D)):=match ts with
 |[]=>some ((),l)
 |t :: ts=>match F8 E 100000 (X2 E t) l with
  |some (m,q)=>match r.M t m,r.F ts q with
   |some x,some (h,a)=>some ((x,h),a)
   |_,_=>none
  |none=>none
def n0l (r:TD E)(t:U)(n:Nat)(l:List (V E.D)):Option (List (Den E.D t)×List (V E.D)):=match n with
 |0=>some ([],l)
 |n+1=>match F8 E 100000 (X2 E t) l with
  |some (m,q)=>match r.M t m,r.A t n q with
   |some x,some (xs,a)=>some (x :: xs,a)
   |_,_=>none
  |none=>none
def td (s:St E.D):Nat->TD E
 |0=>⟨fun _ _=>none,fun _ _=>none,fun _ _=>none,fun _ _ _=>none⟩
 |k+1=>⟨k0x E s (td s k),o0r E (td s k),m0A E (td s k),n0l E (td s k)⟩
def toD (s:St E.D)(k:Nat)(t:U)(v:V E.D):Option (Den E.D t):=(td E s k).D t v
def b7:Nat->St E.D->List (V E.D)->Option (St E.D)
 |0,_,_=>none
 |_+1,s,[]=>some s
 |k+1,s,v :: r=>match v with
  |.sl id=>match E0 s id with
   |.lst _ t xs=>b7 k (s.at id (.fz t xs)) r
   |.fz ..=>b7 k s r
   |.B1 _ _ t xs none=>b7 k (s.at id (.fz t xs)) r
   |_=>none
  |.pb id 0 []=>match E0 s id with
   |.box T cs=>match b7 k s cs with
    |some s1=>match E0 s1 id with
     |.box b a=>b7 k (s1.at id (.fzb b a)) r
     |_=>none
    |none=>none
   |.fzb ..=>b7 k s r
   |_=>none
  |.agg l=>b7 k s (l++r)
  |.tup l=>b7 k s (l++r)
  |_=>b7 k s r
def C8:Nat:=100000
def rdD (s:St E.D)(t:U)(v:V E.D):Option (St E.D×Den E.D t):=match b7 E C8 s [v]with
 |some s1=>match toD E s1 C8 t v with
  |some x=>some (s1,x)
  |none=>none
 |none=>none
mutual
def fits (s:St E.D):Sh->V E.D->Bool
 |.any,_=>true
 |.nil,.nil=>true
 |.nilp,.nilp=>true
 |.nilif,.nilif=>true
 |.box ..,.pb _ 0 []=>true
 |.own ..,.sl _=>true
 |.own ..,.nil=>true
 |.B1 ..,.sl _=>true
 |.B1 ..,.nil=>true
 |.tup cs,.tup l=>k0u s cs l
 |.agg cs,.agg l=>k0u s cs l
 |.kb b,.kb b'=>b==b'
 |.d (.ptr _),.nilp=>false
 |.d _,.nilif=>false
 |.d _,_=>true
 |.alt x y,v=>fits s x v||fits s y v
 |.ifc T x,.ifc c v=>Nat.beq T c&&fits s x v
 |.fn f cs,.fn a l=>Nat.beq f a&&k0u s cs l
 |.map,.mp _=>true
 |_,_=>false
def k0u (s:St E.D):List Sh->List (V E.D)->Bool
 |[],[]=>true
 |x :: r,v :: l=>fits s x v&&k0u s r l
 |_,_=>false
end
def g02:U->Bool
 |.list _=>true
 |_=>false
def l0d (t:U):Nat:=match t with
 |.st k=>(E.fs k).length
 |_=>1
def b0v (l:List U):Bool:=match l with
 |[]=>true
 |t :: r=>g02 t&&b0v r
def l9 (t:U)(F:List Nat):Bool:=Nat.beq (X2 E t) F.length&&Nat.beq F.length (l0d E t)&&(match t with|.list _=>true|.st k=>b0v (E.fs k)|_=>false)
structure Pk (α:Type) where
 ids:List (Option Nat)
 dat:α
mutual
def q06:Sh->Nat
 |.d t=>X2 E t
 |.agg cs=>r0k cs
 |_=>1
def r0k:List Sh->Nat
 |[]=>0
 |x :: r=>q06 x+r0k r
end
def c0w:List Sh->List (V E.D)->Option (List (V E.D))
 |[],[]=>some []
 |[],_=>none
 |x :: r,l=>match F8 E C8 (q06 E x) l with
  |some (m,l')=>match asV E (match x with|.d t=>Y8 t|.agg _=>true|_=>false) m,c0w r l' with
   |some v,some vs=>some (v :: vs)
   |_,_=>none
  |none=>none
mutual
def fzs (s:St E.D):Sh->V E.D->List (V E.D)
 |.d _,v=>[v]
 |.box _ cs,v=>match v with
  |.pb id 0 []=>match E0 s id with
   |.box _ l=>(match c0w E cs l with|some l'=>c0D s cs l'|none=>[])
   |_=>[]
  |_=>[]
 |.agg cs,v=>match c0w E cs (H6 v)with|some l=>c0D s cs l|none=>[]
 |.tup cs,v=>match v with|.tup l=>c0D s cs l|_=>[]
 |.fn _ cs,v=>match v with|.fn _ l=>c0D s cs l|_=>[]
 |.ifc _ x,v=>match v with|.ifc _ u=>fzs s x u|_=>[]
 |.alt x y,v=>match fits E s x v with|true=>fzs s x v|false=>fzs s y v
 |_,_=>[]
def c0D (s:St E.D):List Sh->List (V E.D)->List (V E.D)
 |x :: r,v :: l=>fzs s x v++c0D s r l
 |_,_=>[]
end
def pk0:Option (Pk Unit):=some ⟨[],()⟩
def l05 (s:St E.D)(e:Nat)(t:U)(v:V E.D):Option (Pk (List (Den E.D t))):=match v with
 |.nil=>some ⟨[none],[]⟩
 |.sl id=>match E0 s id with
  |.lst e' t' xs=>match Nat.beq e e',B9 t' t xs with
   |true,some ys=>some ⟨[some id],ys⟩
   |_,_=>none
  |_=>none
 |_=>none
def d0s (s:St E.D)(e:Nat)(F:List Nat)(t:U)(v:V E.D):Option (Pk (List (Den E.D t))):=match v with
 |.nil=>match l9 E t F with|true=>some ⟨[none],[]⟩|false=>none
 |.sl id=>match E0 s id with
  |.B1 e' F' t' xs none=>match Nat.beq e e'&&F==F',B9 t' t xs with
   |true,some ys=>some ⟨[some id],ys⟩
   |_,_=>none
  |_=>none
 |_=>none
def o0l (s:St E.D)(T:Nat)(cs:List Sh)(v:V E.D):Option (Nat×List (V E.D)):=match v with
 |.pb id 0 []=>match E0 s id with
  |.box T' l=>match Nat.beq T T',c0w E cs l with
   |true,some l'=>some (id,l')
   |_,_=>none
  |_=>none
 |_=>none
def t0J {D:Nat->Type}:V D->Option (List (V D))
 |.tup l=>some l
 |_=>none
def r0J {D:Nat->Type}(f:Nat):V D->Option (List (V D))
 |.fn g l=>match Nat.beq f g with|true=>some l|false=>none
 |_=>none
def s00 {D:Nat->Type}(T:Nat):V D->Option (V D)
 |.ifc a u=>match Nat.beq T a with|true=>some u|false=>none
 |_=>none
def l0O (s:St E.D):V E.D->Option (Pk (List (Int×Int)))
 |.mp id=>match E0 s id with|.map m=>some ⟨[some id],m⟩|_=>none
 |_=>none
def isC {D:Nat->Type}:Sh->V D->Bool
 |.nil,.nil=>true
 |.nilp,.nilp=>true
 |.nilif,.nilif=>true
 |.kb b,.kb b'=>b==b'
 |_,_=>false
def n0F:Sh->Bool
 |.any=>false
 |_=>true
mutual
def rd (s:St E.D):(sh:Sh)->V E.D->Option (Pk (D6 E.D sh))
 |.any,_=>pk0
 |.d t,v=>match toD E s C8 t v with|some x=>some ⟨[],x⟩|none=>none
 |.own e t,v=>l05 E s e t v
 |.B1 e F t,v=>d0s E s e F t v
 |.box T cs,v=>match o0l E s T cs v with
  |some (id,l)=>match U7 s cs l with
   |some ⟨ids,x⟩=>some ⟨ids++[some id],x⟩
   |none=>none
  |none=>none
 |.agg cs,v=>match C4 v with
  |true=>match c0w E cs (H6 v)with|some l=>U7 s cs l|none=>none
  |false=>none
 |.tup cs,v=>match t0J v with|some l=>U7 s cs l|none=>none
 |.fn f cs,v=>match r0J f v with|some l=>U7 s cs l|none=>none
 |.ifc T x,v=>match n0F x with
  |true=>match s00 T v with|some u=>rd s x u|none=>none
  |false=>none
 |.alt x y,v=>match n0F x&&n0F y with
  |true=>match fits E s x v with
   |true=>match rd s x v with|some ⟨ids,a⟩=>some ⟨ids,Sum.inl a⟩|none=>none
   |false=>match rd s y v with|some ⟨ids,a⟩=>some ⟨ids,Sum.inr a⟩|none=>none
  |false=>none
 |.map,v=>l0O E s v
 |.nil,v=>match isC .nil v with|true=>pk0|false=>none
 |.nilp,v=>match isC .nilp v with|true=>pk0|false=>none
 |.nilif,v=>match isC .nilif v with|true=>pk0|false=>none
 |.kb b,v=>match isC (.kb b) v with|true=>pk0|false=>none
def U7 (s:St E.D):(cs:List Sh)->List (V E.D)->Option (Pk (S4 E.D cs))
 |[],l=>match l with | []=>pk0|_=>none
 |x :: r,l=>match l with
  |v :: l'=>match rd s x v,U7 s r l' with
   |some ⟨i,a⟩,some ⟨j,b⟩=>some ⟨i++j,e0E (J6 x) (U5 r) a b⟩
   |_,_=>none
  |[]=>none
end
mutual
def Z7 {R:Type}(s:St E.D):(sh:Sh)->D6 E.D sh->(St E.D->V E.D->Option R)->Option R
 |.any,_,k=>k s .undef
 |.d t,x,k=>k s (ofD t x)
 |.own e t,x,k=>k (s.new (.lst e t x)) (.sl s.nid)
 |.B1 e F t,x,k=>k (s.new (.B1 e F t x none)) (.sl s.nid)
 |.box T cs,x,k=>c9 s cs x fun s l=>k (s.new (.box T l)) (.pb s.nid 0 [])
 |.agg cs,x,k=>c9 s cs x fun s l=>k s (.agg (l.flatMap H6))
 |.tup cs,x,k=>c9 s cs x fun s l=>k s (.tup l)
 |.fn f cs,x,k=>c9 s cs x fun s l=>k s (.fn f l)
 |.ifc T sh,x,k=>Z7 s sh x fun s v=>k s (.ifc T v)
 |.alt a b,x,k=>match(show D6 E.D a⊕D6 E.D b from x)with
  |.inl y=>Z7 s a y k
  |.inr y=>Z7 s b y k
 |.map,x,k=>k (s.new (.map x)) (.mp s.nid)
 |.nil,_,k=>k s .nil
 |.nilp,_,k=>k s .nilp
 |.nilif,_,k=>k s .nilif
 |.kb b,_,k=>k s (.kb b)
def c9 {R:Type}(s:St E.D):(cs:List Sh)->S4 E.D cs->(St E.D->List (V E.D)->Option R)->Option R
 |[],_,k=>k s []
 |x :: r,a,k=>Z7 s x (c0R (J6 x) (U5 r) (b0f E x) a) fun s v=>c9 s r (d0E (J6 x) (U5 r) (c0s E r) a) fun s l=>k s (v :: l)
end
structure Cut where
 sl:List (Nat×Sh)
 th:List (Nat×Sh)
def Cut.shs (c:Cut):List Sh:=c.sl.map Prod.snd++c.th.map Prod.snd
abbrev f02 (D:Nat->Type)(c:Cut):Type:=S4 D c.shs
def b0R {D:Nat->Type}(s:St D)(t:Nat):V D:=match Q4 s.fr t with|some v=>v|none=>.undef
def thV {D:Nat->Type}(s:St D)(id:Nat):V D:=match E0 s id with
 |.box ..=>.pb id 0 []
 |.fzb ..=>.pb id 0 []
 |.lst ..=>.sl id
 |.fz ..=>.sl id
 |.B1 ..=>.sl id
 |.rof ..=>.sl id
 |.map _=>.mp id
 |.gone=>.undef
def g0s {α β:Type}(now a:List (Nat×α))(c:List (Nat×β)):Bool:=
 (now.take (now.length-a.length)).all fun p=>(match Q4 a p.1 with|none=>true|some _=>false)||(match Q4 c p.1 with|none=>false|some _=>true)
def c0j:List Nat->Bool
 |[]=>true
 |x :: r=>!(r.any (Nat.beq x))&&c0j r
def m0i (nid:Nat)(th:List (Nat×Sh))(ids:List Nat):Bool:=
 c0j ids&&ids.all fun i=>Nat.ble nid i||(match Q4 th i with|none=>false|some _=>true)
def b0w (a s:St E.D)(c:Cut):Option (f02 E.D c):=
 let vs:=c.sl.map (fun p=>b0R s p.1)++c.th.map (fun p=>thV s p.1)
 match b7 E C8 s (c0D E s c.shs vs)with
 |some s1=>match U7 E s1 c.shs vs with
  |some ⟨ids,x⟩=>match g0s s1.fr a.fr c.sl&&g0s s1.th a.th c.th&&m0i a.nid c.th (ids.filterMap fun x=>x)&&(c.th.all fun p=>Nat.blt p.1 a.nid)&&c0j (c.th.map Prod.fst)&&(c.sl.all fun p=>Nat.blt p.1 a.n)with
   |true=>some x
   |false=>none
  |none=>none
 |none=>none
def z8 {D:Nat->Type}(s:St D):List (Nat×Sh)->List (V D)->St D
 |(t,_) :: r,v :: l=>z8 (s.put (some t) v) r l
 |_,_=>s
def X0 {D:Nat->Type}(s:St D):List Nat->St D
 |[]=>s
 |i :: r=>X0 (s.at i .gone) r
def C9 {D:Nat->Type}(q:Nat):List (Nat×Th D)->List Nat
 |[]=>[]
 |(r,.rof a _ _) :: l=>match Nat.beq q a with|true=>r :: C9 q l|false=>C9 q l
 |_ :: l=>C9 q l
def N7 {D:Nat->Type}(s:St D)(q:Nat):St D:=X0 s (C9 q s.th)
def a0k {D:Nat->Type}(s:St D):List Nat->St D
 |[]=>s
 |q :: r=>a0k (N7 s q) r
def u0r {D:Nat->Type}:Th D->Bool
 |.rof ..=>true
 |_=>false
def t0E {D:Nat->Type}(s:St D)(sh:Sh)(j:Nat):Bool:=match sh with
 |.B1 _ F _=>(match E0 s j with|.B1 _ a _ _ none=>Nat.beq F.length a.length|_=>false)
 |_=>false
def mvT {D:Nat->Type}(s:St D)(id j:Nat)(sh:Sh):St D:=match u0r (E0 s j)with
 |true=>s.at id .gone
 |false=>match t0E s sh j with
  |true=>(s.at id (E0 s j)).at j .gone
  |false=>((N7 s id).at id (E0 s j)).at j .gone
def a0F {D:Nat->Type}(s:St D)(id:Nat)(sh:Sh)(v:V D):St D:=match v with
 |.sl j=>mvT s id j sh
 |.pb j 0 []=>mvT s id j sh
 |.mp j=>mvT s id j sh
 |_=>s.at id .gone
def a0y {D:Nat->Type}(s:St D):List (Nat×Sh)->List (V D)->St D
 |(t,sh) :: r,v :: l=>a0y (a0F s t sh v) r l
 |_,_=>s
def c0B {R:Type}(a:St E.D)(c:Cut)(x:f02 E.D c)(k:St E.D->Option R):Option R:=
 c9 E (X0 a (c.th.map Prod.fst)) c.shs x fun s l=>k (a0y (z8 s c.sl l) c.th (l.drop c.sl.length))
inductive Ex where|nrm|ex (id:Nat)|ret
def Ex.eq:Ex->Ex->Bool
 |.nrm,.nrm=>true
 |.ex i,.ex j=>Nat.beq i j
 |.ret,.ret=>true
 |_,_=>false
def g07 (D:Nat->Type):List (Ex×Cut)->Type
 |[]=>Empty
 |[x]=>f02 D x.2
 |x :: y :: r=>f02 D x.2⊕g07 D (y :: r)
def c0G (b:St E.D)(e:Ex)(s:St E.D):(xs:List (Ex×Cut))->Option (g07 E.D xs)
 |[]=>none
 |[x]=>match x.1.eq e with|true=>b0w E b s x.2|false=>none
 |x :: y :: r=>match x.1.eq e with
  |true=>match b0w E b s x.2 with|some a=>some (Sum.inl a)|none=>none
  |false=>match c0G b e s (y :: r)with|some a=>some (Sum.inr a)|none=>none
def resume {R:Type}(c:St E.D)(k:Ex->St E.D->Option R):(xs:List (Ex×Cut))->g07 E.D xs->Option R
 |[],_=>none
 |[x],a=>c0B E c x.2 a (k x.1)
 |x :: y :: r,a=>match(show f02 E.D x.2⊕g07 E.D (y :: r)from a)with
  |.inl b=>c0B E c x.2 b (k x.1)
  |.inr b=>resume c k (y :: r) b
structure Ann where
 js:List (Nat×List (Ex×Cut))
 ls:List (Nat×Cut×List (Ex×Cut))
 rs:List (Nat×Nat×Nat×Cut)
 tb:List Nat:=[]
structure Sm (D:Nat->Type) where
 f:Nat
 ins:List Sh
 res:Sh
 back:List (Nat×Sh)
 m:S4 D ins->Option (S4 D (res :: back.map Prod.snd))
structure D4 where
 sm:List (Sm E.D)
 ann:Nat->Ann
 fuel:Nat
 tb:List Nat:=[]
def q04 {D:Nat->Type}:List (V D)->Option Nat
 |[]=>none
 |x :: r=>match x with
  |.ifc T _=>some T
  |_=>q04 r
def shT:List Sh->Option Nat
 |[]=>none
 |x :: r=>match x with
  |.ifc T _=>some T
  |_=>shT r
def P0o (s:St E.D)(c:Sm E.D)(args:List (V E.D)):Bool:=match c.ins,args with
 |.box _ cs :: _,.pb id _ _ :: _=>match shT cs with
  |some T=>match E0 s id with
   |.box _ ps=>(match q04 ps with|some a=>Nat.beq T a|none=>false)
   |_=>false
  |none=>true
 |_,_=>true
def f0Z {D:Nat->Type}:V D->Option Nat
 |.sl i=>some i
 |.pb i 0 []=>some i
 |.mp i=>some i
 |_=>none
def M5 {D:Nat->Type}(args:List (V D)):List (Nat×Sh)->List (Nat×Sh)
 |[]=>[]
 |(j,sh) :: r=>match args[j]? with
  |some v=>match f0Z v with
   |some i=>(i,sh) :: M5 args r
   |none=>M5 args r
  |none=>M5 args r
def E0q (s:St E.D)(c:Sm E.D)(args:List (V E.D)):Bool:=match Nat.beq (M5 args c.back).length c.back.length with
 |true=>P0o E s c args
 |false=>false
def e0G (s:St E.D)(args:List (V E.D)):List (Sm E.D)->Nat->Option (Sm E.D)
 |[],_=>none
 |x :: r,f=>match Nat.beq x.f f with
  |true=>(match E0q E s x args with|true=>some x|false=>e0G s args r f)
  |false=>e0G s args r f
def f0u:Sh->Bool
 |.d (.int _)|.d .bool|.d .str|.own _ (.int _)|.own _ .bool|.any|.nil|.nilp|.kb _=>true
 |_=>false
def k0l:Sh->Bool
 |.tup cs=>cs.all f0u
 |x=>f0u x
def j0r {R:Type}(s:St E.D)(c:Sm E.D)(args:List (V E.D))(k:St E.D->V E.D->Option R):Option R:=
 match b7 E C8 s (c0D E s c.ins args)with
 |some s1=>match U7 E s1 c.ins args with
  |some ⟨ids,x⟩=>match c0j (ids.filterMap fun x=>x)&&Nat.beq (M5 args c.back).length c.back.length with
   |true=>Option.bind (c.m x) fun y=>
     c9 E (X0 (match k0l c.res&&c.back.all (fun p=>f0u p.2)with|true=>s|false=>s1) (ids.filterMap fun x=>x)) (c.res :: c.back.map Prod.snd) y fun s2 l=>match l with
      |v :: l'=>k (a0y (a0k s2 ((M5 args c.back).map Prod.fst)) (M5 args c.back) l') v
      |[]=>none
   |false=>none
  |none=>none
 |none=>none
def q0S (T:Nat):Option Value:=match E.P.info? T with
 |some i=>i.zero
 |none=>none
def b03 (e:Nat):Option (Value×Nat×Nat):=match E.P.info? e with
 |some i=>match i.zero with
  |some z=>some (z,i.size,i.bytes)
  |none=>none
 |none=>none
def b0e (T:Nat):Option Nat:=match E.P.underlying T with
 |some (.slice e)=>some e
 |_=>none
def h0L (s:St E.D)(t:U):List (V E.D)->Option (List (Den E.D t))
 |[]=>some []
 |v :: r=>match toD E s C8 t v,h0L s t r with
  |some x,some xs=>some (x :: xs)
  |_,_=>none
def i0h:Nat->List (Nat×Operand)->Bool
 |_,[]=>true
 |j,(i,_) :: r=>Nat.beq i j&&i0h (j+1) r
def h05:Operand->Operand->Bool
 |.tmp a,.tmp b=>Nat.beq a b
 |.const (.int .i64 a),.const (.int .i64 b)=>decide (a=b)
 |_,_=>false
abbrev K (R:Type):=St E.D->V E.D->Option R
def n0q {R:Type}(s:St E.D)(T:Nat)(k:K E R):Option R:=match q0S E T with
 |some z=>match z.cells.toList.all (·.oneCell')with
  |true=>k (s.new (.box T (H6 (ofZ E z)))) (.pb s.nid 0 [])
  |false=>none
 |none=>none
def o0T {R:Type}(s:St E.D)(T:Nat)(v:V E.D)(k:K E R):Option R:=match c0k v with
 |true=>k (s.new (.box T (H6 v))) (.pb s.nid 0 [])
 |false=>none
def g04 {D:Nat->Type}(s:St D)(id:Nat):Option (Nat×List (V D)):=match E0 s id with
 |.box T l=>some (T,l)
 |_=>none
def e0K (s:St E.D)(id:Nat):Option (Nat×((t:U)×List (Den E.D t))):=match E0 s id with
 |.lst e t xs=>some (e,⟨t,xs⟩)
 |_=>none
def i0p (l:List (V E.D)):Option (((t:U)×Den E.D t)×List (V E.D)):=match l with
 |.d t x :: r=>some (⟨t,x⟩,r)
 |_=>none
def q0N:List Field->Option (List Nat)
 |[]=>some []
 |x :: r=>match b0e E x.type,q0N r with
  |some e,some l=>some (e :: l)
  |_,_=>none
def t0x (e:Nat):Option (List Nat):=match E.P.underlying e with
 |some (.slice e')=>some [e']
 |some (.struct l)=>q0N E l.toList
 |_=>none
def p0S {D:Nat->Type}(g:(u:U)->List (Den D u)->Option (List (Den D u))):(t:U)->Den D t->Option (Den D t)
 |.list u,x=>g u x
 |_,_=>none
def m0l {D:Nat->Type}(g:(u:U)->List (Den D u)->Option (List (Den D u)))(u:U)(x:List (Den D u)):Nat->Option (List (Den D u))
 |0=>g u x
 |_=>none
def m00 (k:Nat)(o:Option (HL E.D (E.fs k))):Option (E.D k):=match o with
 |some h=>some (E.mkS k h)
 |none=>none
def setRow (t:U)(x:Den E.D t)(f:Nat)(g:(u:U)->List (Den E.D u)->Option (List (Den E.D u))):Option (Den E.D t):=match t,x with
 |.list u,x=>m0l g u x f
 |.st k,x=>m00 E k (a0I (E.fs k) (E.un k x) f (p0S g))
 |_,_=>none
def c0p (s:St E.D)(id:Nat):Option (Nat×List Nat×Option (Int×Nat)×((t:U)×List (Den E.D t))):=match E0 s id with
 |.B1 e F t xs o=>some (e,F,o,⟨t,xs⟩)
 |_=>none
def j0j (t:U)(q:List P6):Option Nat:=match t,q with
 |.list _,[]=>some 0
 |.st k,[.inl (f,o)]=>match Nat.beq (b0A E (E.fs k) f) o with|true=>some f|false=>none
 |_,_=>none
def e06 (s:St E.D)(e:Nat)(u:U)(v:V E.D):Option (Option Nat×List (Den E.D u)):=match v with
 |.nil=>some (none,[])
 |.sl j=>match e0K E s j with
  |some (e',⟨u',ys⟩)=>match Nat.beq e e',B9 u' u ys with
   |true,some a=>some (some j,a)
   |_,_=>none
  |none=>none
 |_=>none
def c0l {D:Nat->Type}(s:St D):Option Nat->St D
 |some id=>s.at id .gone
 |none=>s
def r0f (o:Option (Int×Nat))(i:Int)(f:Nat):Option Bool:=match o with
 |none=>none
 |some (j,g)=>match Nat.beq f g with|true=>some (decide (j=i))|false=>some false
def o0z (t:U)(f:Nat):Option U:=match t with
 |.list u=>match f with|0=>some u|_=>none
 |.st k=>match k0i (E.fs k) f with|some (.list u)=>some u|_=>none
 |_=>none
def l0z {R:Type}(s:St E.D)(id:Nat)(i:Int)(z:Nat)(q:List P6)(v:V E.D)(k:K E R):Option R:=match c0p E s id with
 |some (e,F,o,⟨t,xs⟩)=>match Nat.beq z (X2 E t),j0j E t q with
  |true,some f=>match o0z E t f,F[f]? with
   |some u,some e'=>match e06 E s e' u v with
    |some (g,ys)=>match setRow E t (U6 E t xs i) f (fun a _=>B9 u a ys)with
     |some x=>match r0f o i f with
      |none=>k ((N7 (c0l s g) id).at id (.B1 e F t (xs.set i.toNat x) none)) (.tup [])
      |some b=>if b then k ((N7 (c0l s g) id).at id (.B1 e F t (xs.set i.toNat x) none)) (.tup [])else none
     |none=>none
    |none=>none
   |_,_=>none
  |_,_=>none
 |none=>none
def m0b {R:Type}(s:St E.D)(n:Nat)(r:Nat)(j:Int)(f:Nat)(i:Int)(z:Nat)(q:List P6)(v:V E.D)(k:K E R):Option R:=match a09 E s r j f with
 |some ⟨t,_⟩=>match Nat.beq z (X2 E t),e0R E t q with
  |true,some u=>match rdD E s u v with
   |some (s1,y)=>match c0p E s1 r with
    |some (e,F,none,⟨t0,xs⟩)=>match setRow E t0 (U6 E t0 xs j) f (fun a ys=>match Nat.beq z (X2 E a)&&Nat.beq (X2 E u) n,c0f E u y q a (U6 E a ys i)with
      |true,some x=>some (ys.set i.toNat x)
      |_,_=>none)with
     |some x=>k (s1.at r (.B1 e F t0 (xs.set j.toNat x) none)) (.tup [])
     |none=>none
    |_=>none
   |none=>none
  |_,_=>none
 |none=>none
def i0T {R:Type}(s:St E.D)(T:Nat)(p v:V E.D)(k:K E R):Option R:=match R5 E T with
 |none=>none
 |some n=>match Nat.beq (vsz E v) n&&c0k v with
  |false=>none
  |true=>match p with
   |.pb id off []=>match g04 s id with
    |some (b,cs)=>match Q9 E off n cs with
     |some (a,_,c)=>k (s.at id (.box b (a++H6 v++c))) (.tup [])
     |none=>none
    |none=>none
   |.pb id off q=>match rdP s id off q v with
    |some (s1,b,l)=>k (s1.at id (.box b l)) (.tup [])
    |none=>none
   |.pe id i z q=>match E0 s id with
    |.B1 ..=>match Nat.beq n 1 with|true=>l0z E s id i z q v k|false=>none
    |.rof r j f=>m0b E s n r j f i z q v k
    |_=>match e0K E s id with
     |some (_,⟨t,_⟩)=>match Nat.beq z (X2 E t),e0R E t q with
      |true,some u=>match rdD E s u v with
       |some (s1,y)=>match e0K E s1 id with
        |some (e,⟨t',xs⟩)=>match Nat.beq z (X2 E t')&&Nat.beq (X2 E u) n,c0f E u y q t' (U6 E t' xs i)with
         |true,some x=>k (s1.at id (.lst e t' (xs.set i.toNat x))) (.tup [])
         |_,_=>none
        |none=>none
       |none=>none
      |_,_=>none
     |none=>none
   |_=>none
where
 /-- A store Q0 an element of an array within a variable. -/
 rdP (s:St E.D) (id off:Nat) (q:List P6) (v:V E.D):Option (St E.D×Nat×List (V E.D)):=match g04 s id with
  |some (_,cs)=>match F8 E C8 off cs with
   |some (_,m)=>match i0p E m with
    |some (⟨t,_⟩,_)=>match e0R E t q with
     |some u=>match Nat.beq (X2 E u) (vsz E v),rdD E s u v with
      |true,some (s1,y)=>match g04 s1 id with
       |some (T',cs')=>match F8 E C8 off cs' with
        |some (a,m')=>match i0p E m' with
         |some (⟨t',x'⟩,c)=>match c0f E u y q t' x' with
          |some z=>some (s1,T',a++.d t' z :: c)
          |none=>none
         |none=>none
        |none=>none
       |none=>none
      |_,_=>none
     |none=>none
    |none=>none
   |none=>none
  |none=>none
def e0J (s:St E.D)(t:U)(y:V E.D):Option (List (Den E.D t)):=match y with
 |.nil=>some []
 |y=>match b0I E s y with
  |some ⟨a,ys⟩=>B9 a t ys
  |none=>none
def t0g (s:St E.D)(e:Nat)(t:U)(x:V E.D):Option (Option Nat×List (Den E.D t)):=match x with
 |.nil=>some (none,[])
 |.sl id=>match e0K E s id with
  |some (e',⟨t',xs⟩)=>match Nat.beq e e',B9 t' t xs with
   |true,some ys=>some (some id,ys)
   |_,_=>none
  |none=>none
 |_=>none
def b01 (t:U)(z:Value)(sz bytes:Nat):Bool:=Nat.beq sz (X2 E t)&&Nat.beq z.cells.size sz&&Nat.blt 0 sz&&Nat.blt 0 bytes
def h0C (s:St E.D)(e:Nat)(F:List Nat)(t:U)(x:V E.D):Option (Option Nat×List (Den E.D t)):=match x with
 |.nil=>some (none,[])
 |.sl id=>match c0p E s id with
  |some (e',F',none,⟨t',xs⟩)=>match Nat.beq e e'&&F==F',B9 t' t xs with
   |true,some ys=>some (some id,ys)
   |_,_=>none
  |_=>none
 |_=>none
def p05 (s:St E.D)(x:V E.D):Option (Nat×Int×Nat):=match x with
 |.sl id=>match E0 s id with
  |.rof r j f=>some (r,j,f)
  |_=>none
 |_=>none
def p0K (s:St E.D)(y:V E.D):Option Nat:=match y with
 |.sl id=>match E0 s id with
  |.B1 ..=>some id
  |_=>none
 |_=>none
def n0r {R:Type}(s:St E.D)(T:Nat)(x:V E.D)(a:Nat)(k:K E R):Option R:=match b0e E T with
 |none=>none
 |some e=>match E.uT e,b03 E e,c0p E s a with
  |some t,some (z,sz,bytes),some (e2,F,none,⟨t',ys'⟩)=>match b01 E t z sz bytes&&Nat.beq e e2&&l9 E t F,B9 t' t ys',h0C E s e F t x with
   |true,some ys,some (g,xs)=>match(match g with|some b=>!(Nat.beq b a)|none=>true)with
    |true=>if I0 bytes xs ys then k (((c0l s g).at a .gone).new (.B1 e F t (xs++ys) none)) (.sl s.nid)else none
    |false=>none
   |_,_,_=>none
  |_,_,_=>none
def o0a (s:St E.D)(r:Nat)(j:Int)(f:Nat):Option (St E.D):=match c0p E s r with
 |some (e,F,none,⟨t,xs⟩)=>match a09 E s r j f,F[f]? with
  |some ⟨u,a⟩,some e'=>some (((N7 s r).at r (.B1 e F t xs (some (j,f)))).new (.lst e' u a))
  |_,_=>none
 |_=>none
def k0B {R:Type}(s:St E.D)(T:Nat)(x y:V E.D)(k:K E R):Option R:=match b0e E T with
 |none=>none
 |some e=>match E.uT e,b03 E e with
  |some t,some (z,sz,bytes)=>match b01 E t z sz bytes,e0J E s t y,t0g E s e t x with
   |true,some ys,some (g,xs)=>if I0 bytes xs ys then k ((c0l s g).new (.lst e t (xs++ys))) (.sl s.nid)else none
   |_,_,_=>none
  |_,_=>none
def j0W {D:Nat->Type}:V D->Option ((t:U)×List (Den D t))
 |.df t xs=>some ⟨t,xs⟩
 |_=>none
def t0t {R:Type}(s:St E.D)(T:Nat)(b:U)(a:List (Den E.D b))(y:V E.D)(k:K E R):Option R:=match b0e E T with
 |none=>none
 |some e=>match E.uT e,b03 E e with
  |some t,some (z,sz,bytes)=>match b01 E t z sz bytes,e0J E s t y,B9 b t a with
   |true,some ys,some xs=>if I0 bytes xs ys then k s (.d (.list t) (xs++ys))else none
   |_,_,_=>none
  |_,_=>none
def n0i {R:Type}(s:St E.D)(T:Nat)(x y:V E.D)(k:K E R):Option R:=match j0W x with
 |some ⟨t,xs⟩=>t0t E s T t xs y k
 |none=>k0B E s T x y k
def l0V {R:Type}(s:St E.D)(T:Nat)(x y:V E.D)(k:K E R):Option R:=match p05 E s x with
 |some (r,j,f)=>match o0a E s r j f with
  |some s1=>k0B E s1 T (.sl s.nid) y k
  |none=>none
 |none=>match p0K E s y with
  |some a=>n0r E s T x a k
  |none=>n0i E s T x y k
def n0G {R:Type}(s:St E.D)(T:Nat)(b:U)(a:List (Den E.D b))(y:V E.D)(k:K E R):Option R:=match b0e E T with
 |none=>none
 |some e=>match E.uT e,b03 E e with
  |some t,some (z,sz,bytes)=>match b01 E t z sz bytes,e0J E s t y,B9 b t a with
   |true,some ys,some xs=>if xs.isEmpty&&I0 bytes xs ys then k (s.new (.lst e t ys)) (.sl s.nid)else none
   |_,_,_=>none
  |_,_=>none
def n0X {R:Type}(b:Bool)(s:St E.D)(T:Nat)(x y:V E.D)(k:K E R):Option R:=match b,j0W x with
 |true,some ⟨t,xs⟩=>n0G E s T t xs y k
 |_,_=>l0V E s T x y k
def bsV {R:Type}(s:St E.D)(T n:Nat)(parts:List (Nat×Operand))(k:K E R):Option R:=match b0e E T with
 |some e=>match E.uT e,b03 E e with
  |some t,some (z,sz,bytes)=>match b01 E t z sz bytes&&Nat.beq n parts.length&&i0h 0 parts&&Nat.ble n 10000&&Nat.ble sz 1000&&(parts.all fun p=>(c0k (T1 E s p.2))&&Nat.beq (vsz E (T1 E s p.2)) sz),b7 E C8 s (parts.map fun p=>T1 E s p.2)with
   |true,some s1=>match h0L E s1 t (parts.map fun p=>T1 E s p.2)with
    |some xs=>k (s1.new (.lst e t xs)) (.sl s1.nid)
    |none=>none
   |_,_=>none
  |_,_=>none
 |none=>none
def emp {D:Nat->Type}:St D:=⟨0,[],[],0,[]⟩
def o03 {R:Type}(s:St E.D)(T:Nat)(n m:Operand)(k:K E R):Option R:=match b0e E T,L5 (T1 E s n),h05 n m with
 |some e,some (_,x),true=>match E.uT e,b03 E e with
  |some t,some (z,sz,bytes)=>match b01 E t z sz bytes,toD E emp C8 t (ofZ E z)with
   |true,some zx=>if V2 bytes x then k (s.new (.lst e t (List.replicate x.toNat zx))) (.sl s.nid)else none
   |_,_=>none
  |_,_=>none
 |_,_,_=>none
def isNil {D:Nat->Type}:V D->Bool
 |.nil=>true
 |_=>false
def m08 {R:Type}(s:St E.D)(T:Nat)(n m:Operand)(k:K E R):Option R:=match b0e E T,L5 (T1 E s n),h05 n m with
 |some e,some (_,x),true=>match E.uT e,b03 E e,t0x E e with
  |some t,some (z,sz,bytes),some F=>match b01 E t z sz bytes&&l9 E t F&&(H6 (ofZ E z)).all isNil,toD E emp C8 t (ofZ E z)with
   |true,some zx=>if V2 bytes x then k (s.new (.B1 e F t (List.replicate x.toNat zx) none)) (.sl s.nid)else none
   |_,_=>none
  |_,_,_=>none
 |_,_,_=>none
def bsT {R:Type}(s:St E.D)(T n:Nat)(parts:List (Nat×Operand))(k:K E R):Option R:=match b0e E T,parts,n with
 |some e,[(0,x)],1=>match E.uT e,b03 E e,t0x E e with
  |some (.list u),some (z,sz,bytes),some [e']=>match b01 E (.list u) z sz bytes&&l9 E (.list u) [e'],e06 E s e' u (T1 E s x)with
   |true,some (g,ys)=>k ((c0l s g).new (.B1 e [e'] (.list u) [ys] none)) (.sl s.nid)
   |_,_=>none
  |_,_,_=>none
 |_,_,_=>none
def j0c (tb:List Nat)(o:Oper):Bool:=match o.dst with
 |some d=>tb.any (Nat.beq d)
 |none=>false
def n0f {R:Type}(s:St E.D)(T a:Nat)(x:V E.D)(k:K E R):Option R:=match x with
 |.sl id=>match Nat.beq T a,E.P.underlying T,e0K E s id with
  |true,some (.slice e),some (_,⟨.int .u8,xs⟩)=>match E.P.underlying e with
   |some (.int .u8)=>if !xs.isEmpty then k (s.at id (.fz (.int .u8) xs)) (.sl id)else none
   |_=>none
  |_,_,_=>none
 |_=>none
def copyV {R:Type}(s:St E.D)(T:Nat)(x y:V E.D)(k:K E R):Option R:=match E.P.underlying T,x with
 |some (.slice e),.sl id=>match R5 E e with
  |some 1=>match E0 s id with
   |.lst e' t xs=>match Nat.beq (X2 E t) 1,e0J E s t y with
    |true,some ys=>k (s.at id (.lst e' t (G4 xs ys))) (dI .i64 ((Nat.min ys.length xs.length:Nat):Int))
    |_,_=>none
   |.rof r j f=>match c0p E s r,a09 E s r j f with
    |some (e0,F,none,⟨t0,xs0⟩),some ⟨t,xs⟩=>match Nat.beq (X2 E t) 1,e0J E s t y with
     |true,some ys=>match setRow E t0 (U6 E t0 xs0 j) f (fun b a=>match B9 t b ys with|some ws=>some (G4 a ws)|none=>none)with
      |some x=>k (s.at r (.B1 e0 F t0 (xs0.set j.toNat x) none)) (dI .i64 ((Nat.min ys.length xs.length:Nat):Int))
      |none=>none
     |_,_=>none
    |_,_=>none
   |_=>none
  |_=>none
 |_,_=>none
def evE {R:Type}(tb:List Nat)(s:St E.D)(o:Oper)(k:K E R):Option R:=match o.op with
 |.alloc T=>n0q E s T k
 |.box T x=>o0T E s T (T1 E s x) k
 |.store T p x=>i0T E s T (T1 E s p) (T1 E s x) k
 |.buildSlice T n parts=>match j0c tb o with|true=>bsT E s T n parts.toList k|false=>bsV E s T n parts.toList k
 |.makeSlice T n m=>match j0c tb o with|true=>m08 E s T n m k|false=>o03 E s T n m k
 |.call c=>match c.callee,c.args.toList,c.argTypes.toList with
  |.builtin .append,[x,y],[T,a]=>match Nat.beq T a with
   |true=>n0X E (j0c tb o) s T (T1 E s x) (T1 E s y) k
   |false=>none
  |.builtin .copy,[x,y],[T,a]=>match Nat.beq T a with
   |true=>copyV E s T (T1 E s x) (T1 E s y) k
   |false=>none
  |_,_,_=>none
 |.convert T a x=>n0f E s T a (T1 E s x) k
 |_=>none
def n0A (s:St E.D)(T:Nat)(p:V E.D):Option (Nat×Int×Nat):=match p with
 |.pe id i z q=>match c0p E s id with
  |some (_,F,none,⟨t,_⟩)=>match p9 E T,R5 E T,j0j E t q with
   |some false,some 1,some f=>match Nat.beq z (X2 E t)&&Nat.blt f F.length with|true=>some (id,i,f)|false=>none
   |_,_,_=>none
  |_=>none
 |_=>none
def j0o (s:St E.D)(o:Oper):Option (Nat×Int×Nat):=match o.op with
 |.load T x=>n0A E s T (T1 E s x)
 |_=>none
end
