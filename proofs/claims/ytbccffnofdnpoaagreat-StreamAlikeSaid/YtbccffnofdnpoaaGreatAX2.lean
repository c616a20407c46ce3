/- P. Its conditions: none. -/
import Derived.Test.YtbccffnofdnpoaaGreatAX1
set_option linter.all false
namespace Go.X
open Go.V Go.RowKit
inductive Sh where
 |any|d (t:U)|own (e:Nat) (t:U)|box (T:Nat) (cs:List Sh)|agg (cs:List Sh)|tup (cs:List Sh)|nil|nilp|nilif|kb (b:Bool)
 |fn (f:Nat) (cs:List Sh)|ifc (T:Nat) (x:Sh)|alt (x y:Sh)|map|G1 (e:Nat) (F:List Nat) (t:U)
def DC:Bool->Bool->Type->Type->Type
 |true,_,_,B=>B
 |false,true,A,_=>A
 |false,false,A,B=>A×B
def e0N {A B:Type}:(p q:Bool)->A->B->DC p q A B
 |true,_,_,b=>b
 |false,true,a,_=>a
 |false,false,a,b=>(a,b)
def d0y {A B:Type}:(p q:Bool)->A->DC p q A B->A
 |true,_,a,_=>a
 |false,true,_,x=>x
 |false,false,_,x=>x.1
def e03 {A B:Type}:(p q:Bool)->B->DC p q A B->B
 |true,_,_,x=>x
 |false,true,b,_=>b
 |false,false,_,x=>x.2
mutual
def Z6:Sh->Bool
 |.d _|.own _ _|.alt _ _|.map|.G1 ..=>false
 |.box _ cs|.agg cs|.tup cs|.fn _ cs=>A6 cs
 |.ifc _ x=>Z6 x
 |_=>true
def A6:List Sh->Bool
 |[]=>true
 |x :: r=>Z6 x&&A6 r
end
mutual
def H6 (D:Nat->Type):Sh->Type
 |.d t=>Den D t
 |.own _ t|.G1 _ _ t=>List (Den D t)
 |.box _ cs|.agg cs|.tup cs|.fn _ cs=>F5 D cs
 |.ifc _ x=>H6 D x
 |.alt x y=>H6 D x⊕H6 D y
 |.map=>List (Int×Int)
 |_=>Unit
def F5 (D:Nat->Type):List Sh->Type
 |[]=>Unit
 |x :: r=>DC (Z6 x) (A6 r) (H6 D x) (F5 D r)
end
section
variable (E:Env)
mutual
def b05:(x:Sh)->H6 E.D x
 |.d t=>dfl E t
 |.own _ _|.G1 _ _ _=>([]:List _)
 |.box _ cs|.agg cs|.tup cs|.fn _ cs=>d0m cs
 |.ifc _ x=>b05 x
 |.alt x _=>Sum.inl (b05 x)
 |.map=>([]:List (Int×Int))
 |.any|.nil|.nilp|.nilif|.kb _=>()
def d0m:(l:List Sh)->F5 E.D l
 |[]=>()
 |x :: r=>e0N (Z6 x) (A6 r) (b05 x) (d0m r)
end
def J9 {D:Nat->Type}(t u:U)(x:List (Den D t)):Option (List (Den D u)):=if h:t=u then some (h▸x)else none
structure TD (E:Env) where
 D:(t:U)->V E.D->Option (Den E.D t)
 M:(t:U)->List (V E.D)->Option (Den E.D t)
 F:(ts:List U)->List (V E.D)->Option (HL E.D ts×List (V E.D))
 A:(t:U)->Nat->List (V E.D)->Option (List (Den E.D t)×List (V E.D))
def e0R {D:Nat->Type}(b:IntKind)(v:V D):Option Int:=match o6 v with
 |some (a,x)=>match decide (a=b)with|true=>some x|false=>none
 |none=>none
def f0q {D:Nat->Type}(v:V D):Option ByteArray:=match v with|.d .str x=>some x|_=>none
def e00 (s:St E.D)(t:U)(v:V E.D):Option (List (Den E.D t)):=match v with
 |.nil=>some []
 |.d (.list a) xs=>J9 a t xs
 |.sl id=>match G0 s id with
  |.fz a xs=>J9 a t xs
  |_=>none
 |_=>none
def unD {D:Nat->Type}:V D->Option ((t:U)×Den D t)
 |.d t x=>some ⟨t,x⟩
 |_=>none
def o08 {D:Nat->Type}:V D->Bool
 |.nilp=>true
 |_=>false
def g0D {α β:Type}:Option (α×List β)->Option α
 |some (x,[])=>some x
 |_=>none
def e0H (r:TD E)(i:Nat)(v:V E.D):Option (E.D i):=match unD v with
 |some ⟨a,x⟩=>e0t a (.st i) x
 |none=>match f0K v with
  |some l=>match g0D (r.F (E.fs i) l)with
   |some h=>some (E.mkS i h)
   |none=>none
  |none=>none
def f0B (r:TD E)(n:Nat)(t:U)(v:V E.D):Option (List (Den E.D t)):=match unD v with
 |some ⟨a,x⟩=>e0t a (.arr n t) x
 |none=>match f0K v with
  |some l=>g0D (r.A t n l)
  |none=>none
def d0M (s:St E.D)(r:TD E)(t:U)(v:V E.D):Option (Den E.D t):=match v with
 |.pd a x=>e0t a t x
 |.d (.ptr a) x=>e0t a t x
 |.pb id 0 []=>match G0 s id with
  |.fzb _ cs=>r.M t cs
  |_=>none
 |_=>none
def f0x (s:St E.D)(r:TD E)(t:U)(v:V E.D):Option (Option (Den E.D t)):=match o08 v with
 |true=>some none
 |false=>match unD v with
  |some ⟨a,x⟩=>e0t a (.opt t) x
  |none=>match d0M E s r t v with
   |some y=>some (some y)
   |none=>none
def l0m (s:St E.D)(r:TD E):(t:U)->V E.D->Option (Den E.D t)
 |.int a,v=>e0R a v
 |.bool,v=>M7 v
 |.str,v=>f0q v
 |.list t,v=>e00 E s t v
 |.st i,v=>e0H E r i v
 |.arr n t,v=>f0B E r n t v
 |.ptr t,v=>d0M E s r t v
 |.opt t,v=>f0x E s r t v
def s04 (r:TD E)(t:U)(m:List (V E.D)):Option (Den E.D t):=match asV E (c9 t) m with
 |some v=>r.D t v
 |none=>none
def p0n (r:TD E)(ts:List U)(l:List (V E.D)):Option (HL E.D ts×List (V E.D)):=match ts with
 |[]=>some ((),l)
 |t :: ts=>match w9 E 100000 (K3 E t) l with
  |some (m,q)=>match r.M t m,r.F ts q with
   |some x,some (h,a)=>some ((x,h),a)
   |_,_=>none
  |none=>none
def p01 (r:TD E)(t:U)(n:Nat)(l:List (V E.D)):Option (List (Den E.D t)×List (V E.D)):=match n with
 |0=>some ([],l)
 |n+1=>match w9 E 100000 (K3 E t) l with
  |some (m,q)=>match r.M t m,r.A t n q with
   |some x,some (xs,a)=>some (x :: xs,a)
   |_,_=>none
  |none=>none
def td (s:St E.D):Nat->TD E
 |0=>⟨fun _ _=>none,fun _ _=>none,fun _ _=>none,fun _ _ _=>none⟩
 |k+1=>⟨l0m E s (td s k),s04 E (td s k),p0n E (td s k),p01 E (td s k)⟩
def toD (s:St E.D)(k:Nat)(t:U)(v:V E.D):Option (Den E.D t):=(td E s k).D t v
def s7:Nat->St E.D->List (V E.D)->Option (St E.D)
 |0,_,_=>none
 |_+1,s,[]=>some s
 |k+1,s,v :: r=>match v with
  |.sl id=>match G0 s id with
   |.lst _ t xs=>s7 k (s.at id (.fz t xs)) r
   |.fz ..=>s7 k s r
   |.G1 _ _ t xs none=>s7 k (s.at id (.fz t xs)) r
   |_=>none
  |.pb id 0 []=>match G0 s id with
   |.box T cs=>match s7 k s cs with
    |some s1=>match G0 s1 id with
     |.box b a=>s7 k (s1.at id (.fzb b a)) r
     |_=>none
    |none=>none
   |.fzb ..=>s7 k s r
   |_=>none
  |.agg l=>s7 k s (l++r)
  |.tup l=>s7 k s (l++r)
  |_=>s7 k s r
def M8:Nat:=100000
def rdD (s:St E.D)(t:U)(v:V E.D):Option (St E.D×Den E.D t):=match s7 E M8 s [v]with
 |some s1=>match toD E s1 M8 t v with
  |some x=>some (s1,x)
  |none=>none
 |none=>none
mutual
def fits (s:St E.D):Sh->V E.D->Bool
 |.any,_=>true
 |.nil,.nil=>true
 |.nilp,.nilp=>true
 |.nilif,.nilif=>true
 |.box ..,.pb _ 0 []=>true
 |.own ..,.sl _=>true
 |.own ..,.nil=>true
 |.G1 ..,.sl _=>true
 |.G1 ..,.nil=>true
 |.tup cs,.tup l=>o0f s cs l
 |.agg cs,.agg l=>o0f s cs l
 |.kb b,.kb b'=>b==b'
 |.d (.ptr _),.nilp=>false
 |.d _,.nilif=>false
 |.d _,_=>true
 |.alt x y,v=>fits s x v||fits s y v
 |.ifc T x,.ifc c v=>Nat.beq T c&&fits s x v
 |.fn f cs,.fn a l=>Nat.beq f a&&o0f s cs l
 |.map,.mp _=>true
 |_,_=>false
def o0f (s:St E.D):List Sh->List (V E.D)->Bool
 |[],[]=>true
 |x :: r,v :: l=>fits s x v&&o0f s r l
 |_,_=>false
end
def i0t:U->Bool
 |.list _=>true
 |_=>false
def r0k (t:U):Nat:=match t with
 |.st k=>(E.fs k).length
 |_=>1
def b07 (l:List U):Bool:=match l with
 |[]=>true
 |t :: r=>i0t t&&b07 r
def A9 (t:U)(F:List Nat):Bool:=Nat.beq (K3 E t) F.length&&Nat.beq F.length (r0k E t)&&(match t with|.list _=>true|.st k=>b07 (E.fs k)|_=>false)
structure Pk (α:Type) where
 ids:List (Option Nat)
 dat:α
mutual
def t07:Sh->Nat
 |.d t=>K3 E t
 |.agg cs=>t0M cs
 |_=>1
def t0M:List Sh->Nat
 |[]=>0
 |x :: r=>t07 x+t0M r
end
def d0g:List Sh->List (V E.D)->Option (List (V E.D))
 |[],[]=>some []
 |[],_=>none
 |x :: r,l=>match w9 E M8 (t07 E x) l with
  |some (m,l')=>match asV E (match x with|.d t=>c9 t|.agg _=>true|_=>false) m,d0g r l' with
   |some v,some vs=>some (v :: vs)
   |_,_=>none
  |none=>none
mutual
def fzs (s:St E.D):Sh->V E.D->List (V E.D)
 |.d _,v=>[v]
 |.box _ cs,v=>match v with
  |.pb id 0 []=>match G0 s id with
   |.box _ l=>(match d0g E cs l with|some l'=>c0V s cs l'|none=>[])
   |_=>[]
  |_=>[]
 |.agg cs,v=>match d0g E cs (b7 v)with|some l=>c0V s cs l|none=>[]
 |.tup cs,v=>match v with|.tup l=>c0V s cs l|_=>[]
 |.fn _ cs,v=>match v with|.fn _ l=>c0V s cs l|_=>[]
 |.ifc _ x,v=>match v with|.ifc _ u=>fzs s x u|_=>[]
 |.alt x y,v=>match fits E s x v with|true=>fzs s x v|false=>fzs s y v
 |_,_=>[]
def c0V (s:St E.D):List Sh->List (V E.D)->List (V E.D)
 |x :: r,v :: l=>fzs s x v++c0V s r l
 |_,_=>[]
end
def pk0:Option (Pk Unit):=some ⟨[],()⟩
def p0V (s:St E.D)(e:Nat)(t:U)(v:V E.D):Option (Pk (List (Den E.D t))):=match v with
 |.nil=>some ⟨[none],[]⟩
 |.sl id=>match G0 s id with
  |.lst e' t' xs=>match Nat.beq e e',J9 t' t xs with
   |true,some ys=>some ⟨[some id],ys⟩
   |_,_=>none
  |_=>none
 |_=>none
def d09 (s:St E.D)(e:Nat)(F:List Nat)(t:U)(v:V E.D):Option (Pk (List (Den E.D t))):=match v with
 |.nil=>match A9 E t F with|true=>some ⟨[none],[]⟩|false=>none
 |.sl id=>match G0 s id with
  |.G1 e' F' t' xs none=>match Nat.beq e e'&&F==F',J9 t' t xs with
   |true,some ys=>some ⟨[some id],ys⟩
   |_,_=>none
  |_=>none
 |_=>none
def q0l (s:St E.D)(T:Nat)(cs:List Sh)(v:V E.D):Option (Nat×List (V E.D)):=match v with
 |.pb id 0 []=>match G0 s id with
  |.box T' l=>match Nat.beq T T',d0g E cs l with
   |true,some l'=>some (id,l')
   |_,_=>none
  |_=>none
 |_=>none
def x0a {D:Nat->Type}:V D->Option (List (V D))
 |.tup l=>some l
 |_=>none
def y0E {D:Nat->Type}(f:Nat):V D->Option (List (V D))
 |.fn g l=>match Nat.beq f g with|true=>some l|false=>none
 |_=>none
def A0e {D:Nat->Type}(T:Nat):V D->Option (V D)
 |.ifc a u=>match Nat.beq T a with|true=>some u|false=>none
 |_=>none
def s0h (s:St E.D):V E.D->Option (Pk (List (Int×Int)))
 |.mp id=>match G0 s id with|.map m=>some ⟨[some id],m⟩|_=>none
 |_=>none
def isC {D:Nat->Type}:Sh->V D->Bool
 |.nil,.nil=>true
 |.nilp,.nilp=>true
 |.nilif,.nilif=>true
 |.kb b,.kb b'=>b==b'
 |_,_=>false
def r0g:Sh->Bool
 |.any=>false
 |_=>true
mutual
def rd (s:St E.D):(sh:Sh)->V E.D->Option (Pk (H6 E.D sh))
 |.any,_=>pk0
 |.d t,v=>match toD E s M8 t v with|some x=>some ⟨[],x⟩|none=>none
 |.own e t,v=>p0V E s e t v
 |.G1 e F t,v=>d09 E s e F t v
 |.box T cs,v=>match q0l E s T cs v with
  |some (id,l)=>match l8 s cs l with
   |some ⟨ids,x⟩=>some ⟨ids++[some id],x⟩
   |none=>none
  |none=>none
 |.agg cs,v=>match T4 v with
  |true=>match d0g E cs (b7 v)with|some l=>l8 s cs l|none=>none
  |false=>none
 |.tup cs,v=>match x0a v with|some l=>l8 s cs l|none=>none
 |.fn f cs,v=>match y0E f v with|some l=>l8 s cs l|none=>none
 |.ifc T x,v=>match r0g x with
  |true=>match A0e T v with|some u=>rd s x u|none=>none
  |false=>none
 |.alt x y,v=>match r0g x&&r0g y with
  |true=>match fits E s x v with
   |true=>match rd s x v with|some ⟨ids,a⟩=>some ⟨ids,Sum.inl a⟩|none=>none
   |false=>match rd s y v with|some ⟨ids,a⟩=>some ⟨ids,Sum.inr a⟩|none=>none
  |false=>none
 |.map,v=>s0h E s v
 |.nil,v=>match isC .nil v with|true=>pk0|false=>none
 |.nilp,v=>match isC .nilp v with|true=>pk0|false=>none
 |.nilif,v=>match isC .nilif v with|true=>pk0|false=>none
 |.kb b,v=>match isC (.kb b) v with|true=>pk0|false=>none
def l8 (s:St E.D):(cs:List Sh)->List (V E.D)->Option (Pk (F5 E.D cs))
 |[],l=>match l with | []=>pk0|_=>none
 |x :: r,l=>match l with
  |v :: l'=>match rd s x v,l8 s r l' with
   |some ⟨i,a⟩,some ⟨j,b⟩=>some ⟨i++j,e0N (Z6 x) (A6 r) a b⟩
   |_,_=>none
  |[]=>none
end
mutual
def P8 {R:Type}(s:St E.D):(sh:Sh)->H6 E.D sh->(St E.D->V E.D->Option R)->Option R
 |.any,_,k=>k s .undef
 |.d t,x,k=>k s (ofD t x)
 |.own e t,x,k=>k (s.new (.lst e t x)) (.sl s.nid)
 |.G1 e F t,x,k=>k (s.new (.G1 e F t x none)) (.sl s.nid)
 |.box T cs,x,k=>G9 s cs x fun s l=>k (s.new (.box T l)) (.pb s.nid 0 [])
 |.agg cs,x,k=>G9 s cs x fun s l=>k s (.agg (l.flatMap b7))
 |.tup cs,x,k=>G9 s cs x fun s l=>k s (.tup l)
 |.fn f cs,x,k=>G9 s cs x fun s l=>k s (.fn f l)
 |.ifc T sh,x,k=>P8 s sh x fun s v=>k s (.ifc T v)
 |.alt a b,x,k=>match(show H6 E.D a⊕H6 E.D b from x)with
  |.inl y=>P8 s a y k
  |.inr y=>P8 s b y k
 |.map,x,k=>k (s.new (.map x)) (.mp s.nid)
 |.nil,_,k=>k s .nil
 |.nilp,_,k=>k s .nilp
 |.nilif,_,k=>k s .nilif
 |.kb b,_,k=>k s (.kb b)
def G9 {R:Type}(s:St E.D):(cs:List Sh)->F5 E.D cs->(St E.D->List (V E.D)->Option R)->Option R
 |[],_,k=>k s []
 |x :: r,a,k=>P8 s x (d0y (Z6 x) (A6 r) (b05 E x) a) fun s v=>G9 s r (e03 (Z6 x) (A6 r) (d0m E r) a) fun s l=>k s (v :: l)
end
structure Cut where
 sl:List (Nat×Sh)
 th:List (Nat×Sh)
def Cut.shs (c:Cut):List Sh:=c.sl.map Prod.snd++c.th.map Prod.snd
abbrev f0V (D:Nat->Type)(c:Cut):Type:=F5 D c.shs
def c0n {D:Nat->Type}(s:St D)(t:Nat):V D:=match C5 s.fr t with|some v=>v|none=>.undef
def thV {D:Nat->Type}(s:St D)(id:Nat):V D:=match G0 s id with
 |.box ..=>.pb id 0 []
 |.fzb ..=>.pb id 0 []
 |.lst ..=>.sl id
 |.fz ..=>.sl id
 |.G1 ..=>.sl id
 |.rof ..=>.sl id
 |.map _=>.mp id
 |.gone=>.undef
def j0x {α β:Type}(now a:List (Nat×α))(c:List (Nat×β)):Bool:=
 (now.take (now.length-a.length)).all fun p=>(match C5 a p.1 with|none=>true|some _=>false)||(match C5 c p.1 with|none=>false|some _=>true)
def d0n:List Nat->Bool
 |[]=>true
 |x :: r=>!(r.any (Nat.beq x))&&d0n r
def o0S (nid:Nat)(th:List (Nat×Sh))(ids:List Nat):Bool:=
 d0n ids&&ids.all fun i=>Nat.ble nid i||(match C5 th i with|none=>false|some _=>true)
def b0I (a s:St E.D)(c:Cut):Option (f0V E.D c):=
 let vs:=c.sl.map (fun p=>c0n s p.1)++c.th.map (fun p=>thV s p.1)
 match s7 E M8 s (c0V E s c.shs vs)with
 |some s1=>match l8 E s1 c.shs vs with
  |some ⟨ids,x⟩=>match j0x s1.fr a.fr c.sl&&j0x s1.th a.th c.th&&o0S a.nid c.th (ids.filterMap fun x=>x)&&(c.th.all fun p=>Nat.blt p.1 a.nid)&&d0n (c.th.map Prod.fst)&&(c.sl.all fun p=>Nat.blt p.1 a.n)with
   |true=>some x
   |false=>none
  |none=>none
 |none=>none
def Z8 {D:Nat->Type}(s:St D):List (Nat×Sh)->List (V D)->St D
 |(t,_) :: r,v :: l=>Z8 (s.put (some t) v) r l
 |_,_=>s
def L1 {D:Nat->Type}(s:St D):List Nat->St D
 |[]=>s
 |i :: r=>L1 (s.at i .gone) r
def a0z {D:Nat->Type}(q:Nat):List (Nat×Th D)->List Nat
 |[]=>[]
 |(r,.rof a _ _) :: l=>match Nat.beq q a with|true=>r :: a0z q l|false=>a0z q l
 |_ :: l=>a0z q l
def S7 {D:Nat->Type}(s:St D)(q:Nat):St D:=L1 s (a0z q s.th)
def a0M {D:Nat->Type}(s:St D):List Nat->St D
 |[]=>s
 |q :: r=>a0M (S7 s q) r
def y0j {D:Nat->Type}:Th D->Bool
 |.rof ..=>true
 |_=>false
def w0D {D:Nat->Type}(s:St D)(sh:Sh)(j:Nat):Bool:=match sh with
 |.G1 _ F _=>(match G0 s j with|.G1 _ a _ _ none=>Nat.beq F.length a.length|_=>false)
 |_=>false
def mvT {D:Nat->Type}(s:St D)(id j:Nat)(sh:Sh):St D:=match y0j (G0 s j)with
 |true=>s.at id .gone
 |false=>match w0D s sh j with
  |true=>(s.at id (G0 s j)).at j .gone
  |false=>((S7 s id).at id (G0 s j)).at j .gone
def b0P {D:Nat->Type}(s:St D)(id:Nat)(sh:Sh)(v:V D):St D:=match v with
 |.sl j=>mvT s id j sh
 |.pb j 0 []=>mvT s id j sh
 |.mp j=>mvT s id j sh
 |_=>s.at id .gone
def a00 {D:Nat->Type}(s:St D):List (Nat×Sh)->List (V D)->St D
 |(t,sh) :: r,v :: l=>a00 (b0P s t sh v) r l
 |_,_=>s
def d0U {R:Type}(a:St E.D)(c:Cut)(x:f0V E.D c)(k:St E.D->Option R):Option R:=
 G9 E (L1 a (c.th.map Prod.fst)) c.shs x fun s l=>k (a00 (Z8 s c.sl l) c.th (l.drop c.sl.length))
inductive Ex where|nrm|ex (id:Nat)|ret
def Ex.eq:Ex->Ex->Bool
 |.nrm,.nrm=>true
 |.ex i,.ex j=>Nat.beq i j
 |.ret,.ret=>true
 |_,_=>false
def h0O (D:Nat->Type):List (Ex×Cut)->Type
 |[]=>Empty
 |[x]=>f0V D x.2
 |x :: y :: r=>f0V D x.2⊕h0O D (y :: r)
def d0z (b:St E.D)(e:Ex)(s:St E.D):(xs:List (Ex×Cut))->Option (h0O E.D xs)
 |[]=>none
 |[x]=>match x.1.eq e with|true=>b0I E b s x.2|false=>none
 |x :: y :: r=>match x.1.eq e with
  |true=>match b0I E b s x.2 with|some a=>some (Sum.inl a)|none=>none
  |false=>match d0z b e s (y :: r)with|some a=>some (Sum.inr a)|none=>none
def resume {R:Type}(c:St E.D)(k:Ex->St E.D->Option R):(xs:List (Ex×Cut))->h0O E.D xs->Option R
 |[],_=>none
 |[x],a=>d0U E c x.2 a (k x.1)
 |x :: y :: r,a=>match(show f0V E.D x.2⊕h0O E.D (y :: r)from a)with
  |.inl b=>d0U E c x.2 b (k x.1)
  |.inr b=>resume c k (y :: r) b
structure Ann where
 js:List (Nat×List (Ex×Cut))
 ls:List (Nat×Cut×List (Ex×Cut))
 rs:List (Nat×Nat×Nat×Cut)
 tb:List Nat:=[]
structure Sm (D:Nat->Type) where
 f:Nat
 ins:List Sh
 res:Sh
 back:List (Nat×Sh)
 m:F5 D ins->Option (F5 D (res :: back.map Prod.snd))
structure P3 where
 sm:List (Sm E.D)
 ann:Nat->Ann
 fuel:Nat
 tb:List Nat:=[]
def v0S {D:Nat->Type}:List (V D)->Option Nat
 |[]=>none
 |x :: r=>match x with
  |.ifc T _=>some T
  |_=>v0S r
def shT:List Sh->Option Nat
 |[]=>none
 |x :: r=>match x with
  |.ifc T _=>some T
  |_=>shT r
def E0c (s:St E.D)(c:Sm E.D)(args:List (V E.D)):Bool:=match c.ins,args with
 |.box _ cs :: _,.pb id _ _ :: _=>match shT cs with
  |some T=>match G0 s id with
   |.box _ ps=>(match v0S ps with|some a=>Nat.beq T a|none=>false)
   |_=>false
  |none=>true
 |_,_=>true
def f0Y {D:Nat->Type}:V D->Option Nat
 |.sl i=>some i
 |.pb i 0 []=>some i
 |.mp i=>some i
 |_=>none
def i6 {D:Nat->Type}(args:List (V D)):List (Nat×Sh)->List (Nat×Sh)
 |[]=>[]
 |(j,sh) :: r=>match args[j]? with
  |some v=>match f0Y v with
   |some i=>(i,sh) :: i6 args r
   |none=>i6 args r
  |none=>i6 args r
def E0P (s:St E.D)(c:Sm E.D)(args:List (V E.D)):Bool:=match Nat.beq (i6 args c.back).length c.back.length with
 |true=>E0c E s c args
 |false=>false
def e0C (s:St E.D)(args:List (V E.D)):List (Sm E.D)->Nat->Option (Sm E.D)
 |[],_=>none
 |x :: r,f=>match Nat.beq x.f f with
  |true=>(match E0P E s x args with|true=>some x|false=>e0C s args r f)
  |false=>e0C s args r f
def g06:Sh->Bool
 |.d (.int _)|.d .bool|.d .str|.own _ (.int _)|.own _ .bool|.any|.nil|.nilp|.kb _=>true
 |_=>false
def o0g:Sh->Bool
 |.tup cs=>cs.all g06
 |x=>g06 x
def l0C {R:Type}(s:St E.D)(c:Sm E.D)(args:List (V E.D))(k:St E.D->V E.D->Option R):Option R:=
 match s7 E M8 s (c0V E s c.ins args)with
 |some s1=>match l8 E s1 c.ins args with
  |some ⟨ids,x⟩=>match d0n (ids.filterMap fun x=>x)&&Nat.beq (i6 args c.back).length c.back.length with
   |true=>Option.bind (c.m x) fun y=>
     G9 E (L1 (match o0g c.res&&c.back.all (fun p=>g06 p.2)with|true=>s|false=>s1) (ids.filterMap fun x=>x)) (c.res :: c.back.map Prod.snd) y fun s2 l=>match l with
      |v :: l'=>k (a00 (a0M s2 ((i6 args c.back).map Prod.fst)) (i6 args c.back) l') v
      |[]=>none
   |false=>none
  |none=>none
 |none=>none
def t01 (T:Nat):Option Value:=match E.P.info? T with
 |some i=>i.zero
 |none=>none
def b0X (e:Nat):Option (Value×Nat×Nat):=match E.P.info? e with
 |some i=>match i.zero with
  |some z=>some (z,i.size,i.bytes)
  |none=>none
 |none=>none
def Qe:Nat:=1000000
def a0o (T:Nat):Option Nat:=match E.P.underlying T with
 |some (.slice e)=>match Nat.blt e Qe with|true=>some e|false=>none
 |_=>none
def j0Q (s:St E.D)(t:U):List (V E.D)->Option (List (Den E.D t))
 |[]=>some []
 |v :: r=>match toD E s M8 t v,j0Q s t r with
  |some x,some xs=>some (x :: xs)
  |_,_=>none
def m0R:Nat->List (Nat×Operand)->Bool
 |_,[]=>true
 |j,(i,_) :: r=>Nat.beq i j&&m0R (j+1) r
def o0l:Operand->Operand->Bool
 |.tmp a,.tmp b=>Nat.beq a b
 |.const (.int .i64 a),.const (.int .i64 b)=>decide (a=b)
 |_,_=>false
abbrev K (R:Type):=St E.D->V E.D->Option R
def r0l {R:Type}(s:St E.D)(T:Nat)(k:K E R):Option R:=match t01 E T with
 |some z=>match z.cells.toList.all (·.oneCell')with
  |true=>k (s.new (.box T (b7 (ofZ E z)))) (.pb s.nid 0 [])
  |false=>none
 |none=>none
def q0I {R:Type}(s:St E.D)(T:Nat)(v:V E.D)(k:K E R):Option R:=match c05 v with
 |true=>k (s.new (.box T (b7 v))) (.pb s.nid 0 [])
 |false=>none
def j02 {D:Nat->Type}(s:St D)(id:Nat):Option (Nat×List (V D)):=match G0 s id with
 |.box T l=>some (T,l)
 |_=>none
def c0u (s:St E.D)(id:Nat):Option (Nat×((t:U)×List (Den E.D t))):=match G0 s id with
 |.lst e t xs=>some (e,⟨t,xs⟩)
 |_=>none
def l0G (l:List (V E.D)):Option (((t:U)×Den E.D t)×List (V E.D)):=match l with
 |.d t x :: r=>some (⟨t,x⟩,r)
 |_=>none
def x01:List Field->Option (List Nat)
 |[]=>some []
 |x :: r=>match a0o E x.type,x01 r with
  |some e,some l=>some (e :: l)
  |_,_=>none
def x0W (e:Nat):Option (List Nat):=match E.P.underlying e with
 |some (.slice e')=>some [e']
 |some (.struct l)=>x01 E l.toList
 |_=>none
def x0K {D:Nat->Type}(g:(u:U)->List (Den D u)->Option (List (Den D u))):(t:U)->Den D t->Option (Den D t)
 |.list u,x=>g u x
 |_,_=>none
def q02 {D:Nat->Type}(g:(u:U)->List (Den D u)->Option (List (Den D u)))(u:U)(x:List (Den D u)):Nat->Option (List (Den D u))
 |0=>g u x
 |_=>none
def r0N (k:Nat)(o:Option (HL E.D (E.fs k))):Option (E.D k):=match o with
 |some h=>some (E.mkS k h)
 |none=>none
def setRow (t:U)(x:Den E.D t)(f:Nat)(g:(u:U)->List (Den E.D u)->Option (List (Den E.D u))):Option (Den E.D t):=match t,x with
 |.list u,x=>q02 g u x f
 |.st k,x=>r0N E k (b0A (E.fs k) (E.un k x) f (x0K g))
 |_,_=>none
def d0o (s:St E.D)(id:Nat):Option (Nat×List Nat×Option (Int×Nat)×((t:U)×List (Den E.D t))):=match G0 s id with
 |.G1 e F t xs o=>some (e,F,o,⟨t,xs⟩)
 |_=>none
def l0K (t:U)(q:List Y6):Option Nat:=match t,q with
 |.list _,[]=>some 0
 |.st k,[.inl (f,o)]=>match Nat.beq (c0T E (E.fs k) f) o with|true=>some f|false=>none
 |_,_=>none
def i0S (s:St E.D)(e:Nat)(u:U)(v:V E.D):Option (Option Nat×List (Den E.D u)):=match v with
 |.nil=>some (none,[])
 |.sl j=>match c0u E s j with
  |some (e',⟨u',ys⟩)=>match Nat.beq e e',J9 u' u ys with
   |true,some a=>some (some j,a)
   |_,_=>none
  |none=>none
 |_=>none
def d0G {D:Nat->Type}(s:St D):Option Nat->St D
 |some id=>s.at id .gone
 |none=>s
def y0d (o:Option (Int×Nat))(i:Int)(f:Nat):Option Bool:=match o with
 |none=>none
 |some (j,g)=>match Nat.beq f g with|true=>some (decide (j=i))|false=>some false
def t0p (t:U)(f:Nat):Option U:=match t with
 |.list u=>match f with|0=>some u|_=>none
 |.st k=>match n0p (E.fs k) f with|some (.list u)=>some u|_=>none
 |_=>none
def r0a {R:Type}(s:St E.D)(id:Nat)(i:Int)(z:Nat)(q:List Y6)(v:V E.D)(k:K E R):Option R:=match d0o E s id with
 |some (e,F,o,⟨t,xs⟩)=>match Nat.beq z (K3 E t),l0K E t q with
  |true,some f=>match t0p E t f,F[f]? with
   |some u,some e'=>match i0S E s e' u v with
    |some (g,ys)=>match setRow E t (r7 E t xs i) f (fun a _=>J9 u a ys)with
     |some x=>match y0d o i f with
      |none=>k ((S7 (d0G s g) id).at id (.G1 e F t (xs.set i.toNat x) none)) (.tup [])
      |some b=>if b then k ((S7 (d0G s g) id).at id (.G1 e F t (xs.set i.toNat x) none)) (.tup [])else none
     |none=>none
    |none=>none
   |_,_=>none
  |_,_=>none
 |none=>none
def q0k {R:Type}(s:St E.D)(n:Nat)(r:Nat)(j:Int)(f:Nat)(i:Int)(z:Nat)(q:List Y6)(v:V E.D)(k:K E R):Option R:=match b03 E s r j f with
 |some ⟨t,_⟩=>match Nat.beq z (K3 E t),f0i E t q with
  |true,some u=>match rdD E s u v with
   |some (s1,y)=>match d0o E s1 r with
    |some (e,F,none,⟨t0,xs⟩)=>match setRow E t0 (r7 E t0 xs j) f (fun a ys=>match Nat.beq z (K3 E a)&&Nat.beq (K3 E u) n,d0f E u y q a (r7 E a ys i)with
      |true,some x=>some (ys.set i.toNat x)
      |_,_=>none)with
     |some x=>k (s1.at r (.G1 e F t0 (xs.set j.toNat x) none)) (.tup [])
     |none=>none
    |_=>none
   |none=>none
  |_,_=>none
 |none=>none
def m0B {R:Type}(s:St E.D)(T:Nat)(p v:V E.D)(k:K E R):Option R:=match D6 E T with
 |none=>none
 |some n=>match Nat.beq (vsz E v) n&&c05 v with
  |false=>none
  |true=>match p with
   |.pb id off []=>match j02 s id with
    |some (b,cs)=>match a0K E off n cs with
     |some (a,_,c)=>k (s.at id (.box b (a++b7 v++c))) (.tup [])
     |none=>none
    |none=>none
   |.pb id off q=>match rdP s id off q v with
    |some (s1,b,l)=>k (s1.at id (.box b l)) (.tup [])
    |none=>none
   |.pe id i z q=>match G0 s id with
    |.G1 ..=>match Nat.beq n 1 with|true=>r0a E s id i z q v k|false=>none
    |.rof r j f=>q0k E s n r j f i z q v k
    |_=>match c0u E s id with
     |some (_,⟨t,_⟩)=>match Nat.beq z (K3 E t),f0i E t q with
      |true,some u=>match rdD E s u v with
       |some (s1,y)=>match c0u E s1 id with
        |some (e,⟨t',xs⟩)=>match Nat.beq z (K3 E t')&&Nat.beq (K3 E u) n,d0f E u y q t' (r7 E t' xs i)with
         |true,some x=>k (s1.at id (.lst e t' (xs.set i.toNat x))) (.tup [])
         |_,_=>none
        |none=>none
       |none=>none
      |_,_=>none
     |none=>none
   |_=>none
where
 /-- A store R1 an element of an array within a variable. -/
 rdP (s:St E.D) (id off:Nat) (q:List Y6) (v:V E.D):Option (St E.D×Nat×List (V E.D)):=match j02 s id with
  |some (_,cs)=>match w9 E M8 off cs with
   |some (_,m)=>match l0G E m with
    |some (⟨t,_⟩,_)=>match f0i E t q with
     |some u=>match Nat.beq (K3 E u) (vsz E v),rdD E s u v with
      |true,some (s1,y)=>match j02 s1 id with
       |some (T',cs')=>match w9 E M8 off cs' with
        |some (a,m')=>match l0G E m' with
         |some (⟨t',x'⟩,c)=>match d0f E u y q t' x' with
          |some z=>some (s1,T',a++.d t' z :: c)
          |none=>none
         |none=>none
        |none=>none
       |none=>none
      |_,_=>none
     |none=>none
    |none=>none
   |none=>none
  |none=>none
def e0h (s:St E.D)(t:U)(y:V E.D):Option (List (Den E.D t)):=match y with
 |.nil=>some []
 |y=>match c0o E s y with
  |some ⟨a,ys⟩=>J9 a t ys
  |none=>none
def y07 (s:St E.D)(e:Nat)(t:U)(x:V E.D):Option (Option Nat×List (Den E.D t)):=match x with
 |.nil=>some (none,[])
 |.sl id=>match c0u E s id with
  |some (e',⟨t',xs⟩)=>match Nat.beq e e',J9 t' t xs with
   |true,some ys=>some (some id,ys)
   |_,_=>none
  |none=>none
 |_=>none
def b0U (t:U)(z:Value)(sz bytes:Nat):Bool:=Nat.beq sz (K3 E t)&&Nat.beq z.cells.size sz&&Nat.blt 0 sz&&Nat.blt 0 bytes
def m0K (s:St E.D)(e:Nat)(F:List Nat)(t:U)(x:V E.D):Option (Option Nat×List (Den E.D t)):=match x with
 |.nil=>some (none,[])
 |.sl id=>match d0o E s id with
  |some (e',F',none,⟨t',xs⟩)=>match Nat.beq e e'&&F==F',J9 t' t xs with
   |true,some ys=>some (some id,ys)
   |_,_=>none
  |_=>none
 |_=>none
def z0U (s:St E.D)(x:V E.D):Option (Nat×Int×Nat):=match x with
 |.sl id=>match G0 s id with
  |.rof r j f=>some (r,j,f)
  |_=>none
 |_=>none
def y0n (s:St E.D)(y:V E.D):Option Nat:=match y with
 |.sl id=>match G0 s id with
  |.G1 ..=>some id
  |_=>none
 |_=>none
def r0w {R:Type}(s:St E.D)(T:Nat)(x:V E.D)(a:Nat)(k:K E R):Option R:=match a0o E T with
 |none=>none
 |some e=>match E.uT e,b0X E e,d0o E s a with
  |some t,some (z,sz,bytes),some (e2,F,none,⟨t',ys'⟩)=>match b0U E t z sz bytes&&Nat.beq e e2&&A9 E t F,J9 t' t ys',m0K E s e F t x with
   |true,some ys,some (g,xs)=>match(match g with|some b=>!(Nat.beq b a)|none=>true)with
    |true=>if J0 bytes xs ys then k (((d0G s g).at a .gone).new (.G1 e F t (xs++ys) none)) (.sl s.nid)else none
    |false=>none
   |_,_,_=>none
  |_,_,_=>none
def p0Y (s:St E.D)(r:Nat)(j:Int)(f:Nat):Option (St E.D):=match d0o E s r with
 |some (e,F,none,⟨t,xs⟩)=>match b03 E s r j f,F[f]? with
  |some ⟨u,a⟩,some e'=>some (((S7 s r).at r (.G1 e F t xs (some (j,f)))).new (.lst e' u a))
  |_,_=>none
 |_=>none
def k0B {R:Type}(s:St E.D)(T:Nat)(x y:V E.D)(k:K E R):Option R:=match a0o E T with
 |none=>none
 |some e=>match E.uT e,b0X E e with
  |some t,some (z,sz,bytes)=>match b0U E t z sz bytes,e0h E s t y,y07 E s e t x with
   |true,some ys,some (g,xs)=>if J0 bytes xs ys then k ((d0G s g).new (.lst e t (xs++ys))) (.sl s.nid)else none
   |_,_,_=>none
  |_,_=>none
def o0y {D:Nat->Type}:V D->Option ((t:U)×List (Den D t))
 |.df t xs=>some ⟨t,xs⟩
 |_=>none
def v00 {R:Type}(s:St E.D)(T:Nat)(b:U)(a:List (Den E.D b))(y:V E.D)(k:K E R):Option R:=match a0o E T with
 |none=>none
 |some e=>match E.uT e,b0X E e with
  |some t,some (z,sz,bytes)=>match b0U E t z sz bytes,e0h E s t y,J9 b t a with
   |true,some ys,some xs=>if J0 bytes xs ys then k s (.d (.list t) (xs++ys))else none
   |_,_,_=>none
  |_,_=>none
def s0f {R:Type}(s:St E.D)(T:Nat)(x y:V E.D)(k:K E R):Option R:=match o0y x with
 |some ⟨t,xs⟩=>v00 E s T t xs y k
 |none=>k0B E s T x y k
def o0W {R:Type}(s:St E.D)(T:Nat)(x y:V E.D)(k:K E R):Option R:=match z0U E s x with
 |some (r,j,f)=>match p0Y E s r j f with
  |some s1=>k0B E s1 T (.sl s.nid) y k
  |none=>none
 |none=>match y0n E s y with
  |some a=>r0w E s T x a k
  |none=>s0f E s T x y k
def s0U {R:Type}(s:St E.D)(T:Nat)(b:U)(a:List (Den E.D b))(y:V E.D)(k:K E R):Option R:=match a0o E T with
 |none=>none
 |some e=>match E.uT e,b0X E e with
  |some t,some (z,sz,bytes)=>match b0U E t z sz bytes,e0h E s t y,J9 b t a with
   |true,some ys,some xs=>if xs.isEmpty&&J0 bytes xs ys then k (s.new (.lst e t ys)) (.sl s.nid)else none
   |_,_,_=>none
  |_,_=>none
def quV (s:St E.D)(T:Nat)(x:V E.D):Option (Nat×Nat×((t:U)×List (Den E.D t))):=match x with
 |.sl id=>match a0o E T,c0u E s id with
  |some e,some (e',x)=>match Nat.beq e' (Qe+e)with|true=>some (id,e,x)|false=>none
  |_,_=>none
 |_=>none
def r0K {R:Type}(s:St E.D)(id e:Nat)(b:U)(a:List (Den E.D b))(y:V E.D)(k:K E R):Option R:=match E.uT e,b0X E e with
 |some t,some (z,sz,bytes)=>match b0U E t z sz bytes,e0h E s t y,J9 b t a with
  |true,some ys,some xs=>match ys.isEmpty with
   |true=>none
   |false=>if J0 bytes xs ys then k ((s.at id .gone).new (.lst (Qe+e) t (xs++ys))) (.sl s.nid)else none
  |_,_,_=>none
 |_,_=>none
def s00 {R:Type}(b:Bool)(s:St E.D)(T:Nat)(x y:V E.D)(k:K E R):Option R:=match quV E s T x with
 |some (id,e,⟨t,xs⟩)=>r0K E s id e t xs y k
 |none=>match b,o0y x with
  |true,some ⟨t,xs⟩=>s0U E s T t xs y k
  |_,_=>o0W E s T x y k
def qE (q:Bool)(e:Nat):Nat:=match q with|true=>Qe+e|false=>e
def bsV {R:Type}(s:St E.D)(T n:Nat)(q:Bool)(parts:List (Nat×Operand))(k:K E R):Option R:=match a0o E T with
 |some e=>match E.uT e,b0X E e with
  |some t,some (z,sz,bytes)=>match b0U E t z sz bytes&&Nat.beq n parts.length&&m0R 0 parts&&Nat.ble n 10000&&Nat.ble sz 1000&&(parts.all fun p=>(c05 (T1 E s p.2))&&Nat.beq (vsz E (T1 E s p.2)) sz),s7 E M8 s (parts.map fun p=>T1 E s p.2)with
   |true,some s1=>match j0Q E s1 t (parts.map fun p=>T1 E s p.2)with
    |some xs=>k (s1.new (.lst (qE q e) t xs)) (.sl s1.nid)
    |none=>none
   |_,_=>none
  |_,_=>none
 |none=>none
def emp {D:Nat->Type}:St D:=⟨0,[],[],0,[]⟩
def p03 {R:Type}(s:St E.D)(T:Nat)(n m:Operand)(k:K E R):Option R:=match a0o E T,o6 (T1 E s n),o0l n m with
 |some e,some (_,x),true=>match E.uT e,b0X E e with
  |some t,some (z,sz,bytes)=>match b0U E t z sz bytes,toD E emp M8 t (ofZ E z)with
   |true,some zx=>if F4 bytes x then k (s.new (.lst e t (List.replicate x.toNat zx))) (.sl s.nid)else none
   |_,_=>none
  |_,_=>none
 |_,_,_=>none
def isNil {D:Nat->Type}:V D->Bool
 |.nil=>true
 |_=>false
def p0N {R:Type}(s:St E.D)(T:Nat)(n m:Operand)(k:K E R):Option R:=match a0o E T,o6 (T1 E s n),o0l n m with
 |some e,some (_,x),true=>match E.uT e,b0X E e,x0W E e with
  |some t,some (z,sz,bytes),some F=>match b0U E t z sz bytes&&A9 E t F&&(b7 (ofZ E z)).all isNil,toD E emp M8 t (ofZ E z)with
   |true,some zx=>if F4 bytes x then k (s.new (.G1 e F t (List.replicate x.toNat zx) none)) (.sl s.nid)else none
   |_,_=>none
  |_,_,_=>none
 |_,_,_=>none
def bsT {R:Type}(s:St E.D)(T n:Nat)(parts:List (Nat×Operand))(k:K E R):Option R:=match a0o E T,parts,n with
 |some e,[(0,x)],1=>match E.uT e,b0X E e,x0W E e with
  |some (.list u),some (z,sz,bytes),some [e']=>match b0U E (.list u) z sz bytes&&A9 E (.list u) [e'],i0S E s e' u (T1 E s x)with
   |true,some (g,ys)=>k ((d0G s g).new (.G1 e [e'] (.list u) [ys] none)) (.sl s.nid)
   |_,_=>none
  |_,_,_=>none
 |_,_,_=>none
def k03 (tb:List Nat)(o:Oper):Bool:=match o.dst with
 |some d=>tb.any (Nat.beq d)
 |none=>false
def inQ (tb:List Nat)(o:Oper):Bool:=match o.dst with
 |some d=>tb.any (Nat.beq (d+Qe))
 |none=>false
def s0X {R:Type}(s:St E.D)(T:Nat)(x:V E.D)(lo hi mx:Option (V E.D))(k:K E R):Option R:=match x,lo,hi,mx with
 |.sl id,none,some h,none=>match E.P.underlying T,c0u E s id,o6 h with
  |some (.slice e),some (e',⟨t,xs⟩),some (_,n)=>match a0x E e t&&Nat.beq e e'&&Nat.blt e Qe with
   |true=>if b5 xs 0 n then k ((s.at id .gone).new (.lst e' t (U1 xs 0 n))) (.sl s.nid)else none
   |false=>none
  |_,_,_=>none
 |.sl id,some l,none,none=>match E.P.underlying T,c0u E s id,o6 l with
  |some (.slice e),some (e',⟨t,xs⟩),some (_,n)=>match a0x E e t&&Nat.beq e' (Qe+e)with
   |true=>if b5 xs n xs.length then k ((s.at id .gone).new (.lst e' t (U1 xs n xs.length))) (.sl s.nid)else none
   |false=>none
  |_,_,_=>none
 |_,_,_,_=>none
def q0H {R:Type}(s:St E.D)(T a:Nat)(x:V E.D)(k:K E R):Option R:=match x with
 |.sl id=>match Nat.beq T a,E.P.underlying T,c0u E s id with
  |true,some (.slice e),some (e',⟨.int .u8,xs⟩)=>match E.P.underlying e with
   |some (.int .u8)=>if Nat.blt e' Qe&&!xs.isEmpty then k (s.at id (.fz (.int .u8) xs)) (.sl id)else none
   |_=>none
  |_,_,_=>none
 |_=>none
def l0P (s:St E.D)(x:V E.D):Option (Nat×List (Int×Int)):=match x with
 |.mp id=>match G0 s id with|.map m=>some (id,m)|_=>none
 |_=>none
def t0v {R:Type}(s:St E.D)(T:Nat)(x i y:V E.D)(k:K E R):Option R:=match l0P E s x,f03 i,f03 y,k0e E T with
 |some (id,m),some a,some b,true=>k (s.at id (.map (P6 m a b))) (.tup [])
 |_,_,_,_=>none
def p0k {R:Type}(s:St E.D)(T:Nat)(x i:V E.D)(k:K E R):Option R:=match l0P E s x,f03 i,k0e E T with
 |some (id,m),some a,true=>k (s.at id (.map (a0d m a))) (.tup [])
 |_,_,_=>none
def copyV {R:Type}(s:St E.D)(T:Nat)(x y:V E.D)(k:K E R):Option R:=match E.P.underlying T,x with
 |some (.slice e),.sl id=>match D6 E e with
  |some 1=>match G0 s id with
   |.lst e' t xs=>match Nat.beq (K3 E t) 1&&Nat.blt e' Qe,e0h E s t y with
    |true,some ys=>k (s.at id (.lst e' t (o5 xs ys))) (dI .i64 ((Nat.min ys.length xs.length:Nat):Int))
    |_,_=>none
   |.rof r j f=>match d0o E s r,b03 E s r j f with
    |some (e0,F,none,⟨t0,xs0⟩),some ⟨t,xs⟩=>match Nat.beq (K3 E t) 1&&F.all (fun e=>Nat.blt e Qe),e0h E s t y with
     |true,some ys=>match setRow E t0 (r7 E t0 xs0 j) f (fun b a=>match J9 t b ys with|some ws=>some (o5 a ws)|none=>none)with
      |some x=>k (s.at r (.G1 e0 F t0 (xs0.set j.toNat x) none)) (dI .i64 ((Nat.min ys.length xs.length:Nat):Int))
      |none=>none
     |_,_=>none
    |_,_=>none
   |_=>none
  |_=>none
 |_,_=>none
def evE {R:Type}(tb:List Nat)(s:St E.D)(o:Oper)(k:K E R):Option R:=match o.op with
 |.alloc T=>r0l E s T k
 |.box T x=>q0I E s T (T1 E s x) k
 |.store T p x=>m0B E s T (T1 E s p) (T1 E s x) k
 |.buildSlice T n parts=>match k03 tb o with|true=>bsT E s T n parts.toList k|false=>bsV E s T n (inQ tb o) parts.toList k
 |.makeSlice T n m=>match k03 tb o with|true=>p0N E s T n m k|false=>p03 E s T n m k
 |.call c=>match c.callee,c.args.toList,c.argTypes.toList with
  |.builtin .append,[x,y],[T,a]=>match Nat.beq T a with
   |true=>s00 E (k03 tb o) s T (T1 E s x) (T1 E s y) k
   |false=>none
  |.builtin .copy,[x,y],[T,a]=>match Nat.beq T a with
   |true=>copyV E s T (T1 E s x) (T1 E s y) k
   |false=>none
  |.builtin .delete,[x,y],[T,_]=>p0k E s T (T1 E s x) (T1 E s y) k
  |_,_,_=>none
 |.slice T x lo hi mx=>s0X E s T (T1 E s x) (lo.map (T1 E s)) (hi.map (T1 E s)) (mx.map (T1 E s)) k
 |.convert T a x=>q0H E s T a (T1 E s x) k
 |.makeMap _ none=>k (s.new (.map [])) (.mp s.nid)
 |.mapUpdate T m i x=>t0v E s T (T1 E s m) (T1 E s i) (T1 E s x) k
 |_=>none
def t0E (s:St E.D)(T:Nat)(p:V E.D):Option (Nat×Int×Nat):=match p with
 |.pe id i z q=>match d0o E s id with
  |some (_,F,none,⟨t,_⟩)=>match P9 E T,D6 E T,l0K E t q with
   |some false,some 1,some f=>match Nat.beq z (K3 E t)&&Nat.blt f F.length with|true=>some (id,i,f)|false=>none
   |_,_,_=>none
  |_=>none
 |_=>none
def o0n (s:St E.D)(o:Oper):Option (Nat×Int×Nat):=match o.op with
 |.load T x=>t0E E s T (T1 E s x)
 |_=>none
end
