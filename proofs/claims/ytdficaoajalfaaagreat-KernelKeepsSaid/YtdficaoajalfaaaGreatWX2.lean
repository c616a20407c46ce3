/- Shapes: what is packed at joins, loops, calls; the interpreter. Its conditions: none. -/
import Derived.Test.YtdficaoajalfaaaGreatWX1
set_option linter.all false
namespace Go.X
open Go.V Go.RowKit
inductive Sh where
 |any | d (t:U) | own (e:Nat) (t:U) | box (T:Nat) (cs:List Sh) | agg (cs:List Sh) | tup (cs:List Sh) | nil | nilp | nilif | kb (b:Bool)
 |fn (f:Nat) (cs:List Sh) | ifc (T:Nat) (x:Sh) | alt (x y:Sh) | map | V0 (e:Nat) (F:List Nat) (t:U)
def DC:Bool->Bool->Type->Type->Type
 |true,_,_,B=>B
 |false,true,A,_=>A
 |false,false,A,B=>A×B
def e0m {A B:Type}:(p q:Bool)->A->B->DC p q A B
 |true,_,_,b=>b
 |false,true,a,_=>a
 |false,false,a,b=>(a,b)
def c0q {A B:Type}:(p q:Bool)->A->DC p q A B->A
 |true,_,a,_=>a
 |false,true,_,x=>x
 |false,false,_,x=>x.1
def d0N {A B:Type}:(p q:Bool)->B->DC p q A B->B
 |true,_,_,x=>x
 |false,true,b,_=>b
 |false,false,_,x=>x.2
mutual
def J6:Sh->Bool
 |.d _ | .own _ _ | .alt _ _ | .map | .V0 ..=>false
 |.box _ cs | .agg cs | .tup cs | .fn _ cs=>V5 cs
 |.ifc _ x=>J6 x
 |_=>true
def V5:List Sh->Bool
 |[]=>true
 |x :: r=>J6 x&&V5 r
end
mutual
def H6 (D:Nat->Type):Sh->Type
 |.d t=>Den D t
 |.own _ t | .V0 _ _ t=>List (Den D t)
 |.box _ cs | .agg cs | .tup cs | .fn _ cs=>W4 D cs
 |.ifc _ x=>H6 D x
 |.alt x y=>H6 D x ⊕ H6 D y
 |.map=>List (Int×Int)
 |_=>Unit
def W4 (D:Nat->Type):List Sh->Type
 |[]=>Unit
 |x :: r=>DC (J6 x) (V5 r) (H6 D x) (W4 D r)
end
section
variable (E:Env)
mutual
def b0c:(x:Sh)->H6 E.D x
 |.d t=>dfl E t
 |.own _ _ | .V0 _ _ _=>([]:List _)
 |.box _ cs | .agg cs | .tup cs | .fn _ cs=>c0M cs
 |.ifc _ x=>b0c x
 |.alt x _=>Sum.inl (b0c x)
 |.map=>([]:List (Int×Int))
 |.any | .nil | .nilp | .nilif | .kb _=>()
def c0M:(l:List Sh)->W4 E.D l
 |[]=>()
 |x :: r=>e0m (J6 x) (V5 r) (b0c x) (c0M r)
end
def w9 {D:Nat->Type} (t u:U) (x:List (Den D t)):Option (List (Den D u)):=if h:t=u then some (h▸x) else none
structure TD (E:Env) where
 D:(t:U)->V E.D->Option (Den E.D t)
 M:(t:U)->List (V E.D)->Option (Den E.D t)
 F:(ts:List U)->List (V E.D)->Option (HL E.D ts×List (V E.D))
 A:(t:U)->Nat->List (V E.D)->Option (List (Den E.D t)×List (V E.D))
def d07 {D:Nat->Type} (ik:IntKind) (v:V D):Option Int:=match H5 v with
 |some (ik',x)=>match decide (ik'=ik) with | true=>some x | false=>none
 |none=>none
def e0g {D:Nat->Type} (v:V D):Option ByteArray:=match v with | .d .str x=>some x | _=>none
def d06 (s:St E.D) (t:U) (v:V E.D):Option (List (Den E.D t)):=match v with
 |.nil=>some []
 |.d (.list t') xs=>w9 t' t xs
 |
  .sl id=>match G0 s id with
  |.fz t' xs=>w9 t' t xs
  |_=>none
 |_=>none
def unD {D:Nat->Type}:V D->Option ((t:U)×Den D t)
 |.d t x=>some ⟨t,x⟩
 |_=>none
def m0Q {D:Nat->Type}:V D->Bool
 |.nilp=>true
 |_=>false
def f0b {α β:Type}:Option (α×List β)->Option α
 |some (x,[])=>some x
 |_=>none
def e0c (r:TD E) (i:Nat) (v:V E.D):Option (E.D i):=match unD v with
 |some ⟨t',x⟩=>d0x t' (.st i) x
 |
  none=>match d04 v with
  |
   some l=>match f0b (r.F (E.fs i) l) with
   |some h=>some (E.mkS i h)
   |none=>none
  |none=>none
def e0M (r:TD E) (n:Nat) (t:U) (v:V E.D):Option (List (Den E.D t)):=match unD v with
 |some ⟨t',x⟩=>d0x t' (.arr n t) x
 |
  none=>match d04 v with
  |some l=>f0b (r.A t n l)
  |none=>none
def c0W (s:St E.D) (r:TD E) (t:U) (v:V E.D):Option (Den E.D t):=match v with
 |.pd t' x=>d0x t' t x
 |.d (.ptr t') x=>d0x t' t x
 |
  .pb id 0 []=>match G0 s id with
  |.fzb _ cs=>r.M t cs
  |_=>none
 |_=>none
def e0b (s:St E.D) (r:TD E) (t:U) (v:V E.D):Option (Option (Den E.D t)):=match m0Q v with
 |true=>some none
 |
  false=>match unD v with
  |some ⟨t',x⟩=>d0x t' (.opt t) x
  |
   none=>match c0W E s r t v with
   |some y=>some (some y)
   |none=>none
def j0L (s:St E.D) (r:TD E):(t:U)->V E.D->Option (Den E.D t)
 |.int ik,v=>d07 ik v
 |.bool,v=>U6 v
 |.str,v=>e0g v
 |.list t,v=>d06 E s t v
 |.st i,v=>e0c E r i v
 |.arr n t,v=>e0M E r n t v
 |.ptr t,v=>c0W E s r t v
 |.opt t,v=>e0b E s r t v
def o0o (r:TD E) (t:U) (m:List (V E.D)):Option (Den E.D t):=match asV E (k9 t) m with
 |some v=>r.D t v
 |none=>none
def p0k (r:TD E) (ts:List U) (l:List (V E.D)):Option (HL E.D ts×List (V E.D)):=match ts with
 |[]=>some ((),l)
 |
  t :: ts=>match P8 E 100000 (o3 E t) l with
  |
   some (m,q)=>match r.M t m,r.F ts q with
   |some x,some (h,q')=>some ((x,h),q')
   |_,_=>none
  |none=>none
def o0K (r:TD E) (t:U) (n:Nat) (l:List (V E.D)):Option (List (Den E.D t)×List (V E.D)):=match n with
 |0=>some ([],l)
 |
  n+1=>match P8 E 100000 (o3 E t) l with
  |
   some (m,q)=>match r.M t m,r.A t n q with
   |some x,some (xs,q')=>some (x :: xs,q')
   |_,_=>none
  |none=>none
def td (s:St E.D):Nat->TD E
 |0=>⟨fun _ _=>none,fun _ _=>none,fun _ _=>none,fun _ _ _=>none⟩
 |k+1=>⟨j0L E s (td s k),o0o E (td s k),p0k E (td s k),o0K E (td s k)⟩
def toD (s:St E.D) (k:Nat) (t:U) (v:V E.D):Option (Den E.D t):=(td E s k).D t v
def o7:Nat->St E.D->List (V E.D)->Option (St E.D)
 |0,_,_=>none
 |_+1,s,[]=>some s
 |
  k+1,s,v :: r=>match v with
  |
   .sl id=>match G0 s id with
   |.lst _ t xs=>o7 k (s.at id (.fz t xs)) r
   |.fz ..=>o7 k s r
   |.V0 _ _ t xs none=>o7 k (s.at id (.fz t xs)) r
   |_=>none
  |
   .pb id 0 []=>match G0 s id with
   |
    .box T cs=>match o7 k s cs with
    |
     some s1=>match G0 s1 id with
     |.box T' cs'=>o7 k (s1.at id (.fzb T' cs')) r
     |_=>none
    |none=>none
   |.fzb ..=>o7 k s r
   |_=>none
  |.agg l=>o7 k s (l++r)
  |.tup l=>o7 k s (l++r)
  |_=>o7 k s r
def s8:Nat:=100000
def rdD (s:St E.D) (t:U) (v:V E.D):Option (St E.D×Den E.D t):=match o7 E s8 s [v] with
 |
  some s1=>match toD E s1 s8 t v with
  |some x=>some (s1,x)
  |none=>none
 |none=>none
mutual
def fits (s:St E.D):Sh->V E.D->Bool
 |.any,_=>true
 |.nil,.nil=>true
 |.nilp,.nilp=>true
 |.nilif,.nilif=>true
 |.box ..,.pb _ 0 []=>true
 |.own ..,.sl _=>true
 |.own ..,.nil=>true
 |.V0 ..,.sl _=>true
 |.V0 ..,.nil=>true
 |.tup cs,.tup l=>j0q s cs l
 |.agg cs,.agg l=>j0q s cs l
 |.kb b,.kb b'=>b==b'
 |.d (.ptr _),.nilp=>false
 |.d _,.nilif=>false
 |.d _,_=>true
 |.alt x y,v=>fits s x v||fits s y v
 |.ifc T x,.ifc T' v=>Nat.beq T T'&&fits s x v
 |.fn f cs,.fn f' l=>Nat.beq f f'&&j0q s cs l
 |.map,.mp _=>true
 |_,_=>false
def j0q (s:St E.D):List Sh->List (V E.D)->Bool
 |[],[]=>true
 |x :: r,v :: l=>fits s x v&&j0q s r l
 |_,_=>false
end
def i0N:U->Bool
 |.list _=>true
 |_=>false
def p0a (t:U):Nat:=match t with
 |.st k=>(E.fs k).length
 |_=>1
def b0d (l:List U):Bool:=match l with
 |[]=>true
 |t :: r=>i0N t&&b0d r
def b9 (t:U) (F:List Nat):Bool:=Nat.beq (o3 E t) F.length&&Nat.beq F.length (p0a E t)&&(match t with | .list _=>true | .st k=>b0d (E.fs k) | _=>false)
structure Pk (α:Type) where
 ids:List (Option Nat)
 dat:α
mutual
def u0I:Sh->Nat
 |.d t=>o3 E t
 |.agg cs=>u0z cs
 |_=>1
def u0z:List Sh->Nat
 |[]=>0
 |x :: r=>u0I x+u0z r
end
def c0h:List Sh->List (V E.D)->Option (List (V E.D))
 |[],[]=>some []
 |[],_=>none
 |
  x :: r,l=>match P8 E s8 (u0I E x) l with
  |
   some (m,l')=>match asV E (match x with | .d t=>k9 t | .agg _=>true | _=>false) m,c0h r l' with
   |some v,some vs=>some (v :: vs)
   |_,_=>none
  |none=>none
mutual
def fzs (s:St E.D):Sh->V E.D->List (V E.D)
 |.d _,v=>[v]
 |
  .box _ cs,v=>match v with
  |
   .pb id 0 []=>match G0 s id with
   |.box _ l=>(match c0h E cs l with | some l'=>c0d s cs l' | none=>[])
   |_=>[]
  |_=>[]
 |.agg cs,v=>match c0h E cs (M6 v) with | some l=>c0d s cs l | none=>[]
 |.tup cs,v=>match v with | .tup l=>c0d s cs l | _=>[]
 |.fn _ cs,v=>match v with | .fn _ l=>c0d s cs l | _=>[]
 |.ifc _ x,v=>match v with | .ifc _ u=>fzs s x u | _=>[]
 |.alt x y,v=>match fits E s x v with | true=>fzs s x v | false=>fzs s y v
 |_,_=>[]
def c0d (s:St E.D):List Sh->List (V E.D)->List (V E.D)
 |x :: r,v :: l=>fzs s x v++c0d s r l
 |_,_=>[]
end
def pk0:Option (Pk Unit):=some ⟨[],()⟩
def n05 (s:St E.D) (e:Nat) (t:U) (v:V E.D):Option (Pk (List (Den E.D t))):=match v with
 |.nil=>some ⟨[none],[]⟩
 |
  .sl id=>match G0 s id with
  |
   .lst e' t' xs=>match Nat.beq e e',w9 t' t xs with
   |true,some ys=>some ⟨[some id],ys⟩
   |_,_=>none
  |_=>none
 |_=>none
def d0B (s:St E.D) (e:Nat) (F:List Nat) (t:U) (v:V E.D):Option (Pk (List (Den E.D t))):=match v with
 |.nil=>match b9 E t F with | true=>some ⟨[none],[]⟩ | false=>none
 |
  .sl id=>match G0 s id with
  |
   .V0 e' F' t' xs none=>match Nat.beq e e'&&F==F',w9 t' t xs with
   |true,some ys=>some ⟨[some id],ys⟩
   |_,_=>none
  |_=>none
 |_=>none
def n03 (s:St E.D) (T:Nat) (cs:List Sh) (v:V E.D):Option (Nat×List (V E.D)):=match v with
 |
  .pb id 0 []=>match G0 s id with
  |
   .box T' l=>match Nat.beq T T',c0h E cs l with
   |true,some l'=>some (id,l')
   |_,_=>none
  |_=>none
 |_=>none
def u0v {D:Nat->Type}:V D->Option (List (V D))
 |.tup l=>some l
 |_=>none
def u0F {D:Nat->Type} (f:Nat):V D->Option (List (V D))
 |.fn g l=>match Nat.beq f g with | true=>some l | false=>none
 |_=>none
def t0s {D:Nat->Type} (T:Nat):V D->Option (V D)
 |.ifc T' u=>match Nat.beq T T' with | true=>some u | false=>none
 |_=>none
def l06 (s:St E.D):V E.D->Option (Pk (List (Int×Int)))
 |.mp id=>match G0 s id with | .map m=>some ⟨[some id],m⟩ | _=>none
 |_=>none
def isC {D:Nat->Type}:Sh->V D->Bool
 |.nil,.nil=>true
 |.nilp,.nilp=>true
 |.nilif,.nilif=>true
 |.kb b,.kb b'=>b==b'
 |_,_=>false
def n0x:Sh->Bool
 |.any=>false
 |_=>true
mutual
def rd (s:St E.D):(sh:Sh)->V E.D->Option (Pk (H6 E.D sh))
 |.any,_=>pk0
 |.d t,v=>match toD E s s8 t v with | some x=>some ⟨[],x⟩ | none=>none
 |.own e t,v=>n05 E s e t v
 |.V0 e F t,v=>d0B E s e F t v
 |
  .box T cs,v=>match n03 E s T cs v with
  |
   some (id,l)=>match Y7 s cs l with
   |some ⟨ids,x⟩=>some ⟨ids++[some id],x⟩
   |none=>none
  |none=>none
 |
  .agg cs,v=>match K4 v with
  |true=>match c0h E cs (M6 v) with | some l=>Y7 s cs l | none=>none
  |false=>none
 |.tup cs,v=>match u0v v with | some l=>Y7 s cs l | none=>none
 |.fn f cs,v=>match u0F f v with | some l=>Y7 s cs l | none=>none
 |
  .ifc T x,v=>match n0x x with
  |true=>match t0s T v with | some u=>rd s x u | none=>none
  |false=>none
 |
  .alt x y,v=>match n0x x&&n0x y with
  |
   true=>match fits E s x v with
   |true=>match rd s x v with | some ⟨ids,a⟩=>some ⟨ids,Sum.inl a⟩ | none=>none
   |false=>match rd s y v with | some ⟨ids,a⟩=>some ⟨ids,Sum.inr a⟩ | none=>none
  |false=>none
 |.map,v=>l06 E s v
 |.nil,v=>match isC .nil v with | true=>pk0 | false=>none
 |.nilp,v=>match isC .nilp v with | true=>pk0 | false=>none
 |.nilif,v=>match isC .nilif v with | true=>pk0 | false=>none
 |.kb b,v=>match isC (.kb b) v with | true=>pk0 | false=>none
def Y7 (s:St E.D):(cs:List Sh)->List (V E.D)->Option (Pk (W4 E.D cs))
 |[],l=>match l with | []=>pk0 | _=>none
 |
  x :: r,l=>match l with
  |
   v :: l'=>match rd s x v,Y7 s r l' with
   |some ⟨i,a⟩,some ⟨j,b⟩=>some ⟨i++j,e0m (J6 x) (V5 r) a b⟩
   |_,_=>none
  |[]=>none
end
mutual
def Z7 {R:Type} (s:St E.D):(sh:Sh)->H6 E.D sh->(St E.D->V E.D->Option R)->Option R
 |.any,_,k=>k s .undef
 |.d t,x,k=>k s (ofD t x)
 |.own e t,x,k=>k (s.new (.lst e t x)) (.sl s.nid)
 |.V0 e F t,x,k=>k (s.new (.V0 e F t x none)) (.sl s.nid)
 |.box T cs,x,k=>q9 s cs x fun s l=>k (s.new (.box T l)) (.pb s.nid 0 [])
 |.agg cs,x,k=>q9 s cs x fun s l=>k s (.agg (l.flatMap M6))
 |.tup cs,x,k=>q9 s cs x fun s l=>k s (.tup l)
 |.fn f cs,x,k=>q9 s cs x fun s l=>k s (.fn f l)
 |.ifc T sh,x,k=>Z7 s sh x fun s v=>k s (.ifc T v)
 |
  .alt a b,x,k=>match (show H6 E.D a ⊕ H6 E.D b from x) with
  |.inl y=>Z7 s a y k
  |.inr y=>Z7 s b y k
 |.map,x,k=>k (s.new (.map x)) (.mp s.nid)
 |.nil,_,k=>k s .nil
 |.nilp,_,k=>k s .nilp
 |.nilif,_,k=>k s .nilif
 |.kb b,_,k=>k s (.kb b)
def q9 {R:Type} (s:St E.D):(cs:List Sh)->W4 E.D cs->(St E.D->List (V E.D)->Option R)->Option R
 |[],_,k=>k s []
 |x :: r,a,k=>Z7 s x (c0q (J6 x) (V5 r) (b0c E x) a) fun s v=>q9 s r (d0N (J6 x) (V5 r) (c0M E r) a) fun s l=>k s (v :: l)
end
structure Cut where
 sl:List (Nat×Sh)
 th:List (Nat×Sh)
def Cut.L3 (c:Cut):List Sh:=c.sl.map Prod.snd++c.th.map Prod.snd
abbrev f0n (D:Nat->Type) (c:Cut):Type:=W4 D c.L3
def b0H {D:Nat->Type} (s:St D) (t:Nat):V D:=match V4 s.fr t with | some v=>v | none=>.undef
def B2 {D:Nat->Type} (s:St D) (id:Nat):V D:=match G0 s id with
 |.box ..=>.pb id 0 []
 |.fzb ..=>.pb id 0 []
 |.lst ..=>.sl id
 |.fz ..=>.sl id
 |.V0 ..=>.sl id
 |.rof ..=>.sl id
 |.map _=>.mp id
 |.gone=>.undef
def g0V {α β:Type} (now was:List (Nat×α)) (c:List (Nat×β)):Bool:=
 (now.take (now.length-was.length)).all fun p=>(match V4 was p.1 with | none=>true | some _=>false)||(match V4 c p.1 with | none=>false | some _=>true)
def c0k:List Nat->Bool
 |[]=>true
 |x :: r=>!(r.any (Nat.beq x))&&c0k r
def o0T (nid:Nat) (th:List (Nat×Sh)) (ids:List Nat):Bool:=
 c0k ids&&ids.all fun i=>Nat.ble nid i||(match V4 th i with | none=>false | some _=>true)
def b0o (s0 s:St E.D) (c:Cut):Option (f0n E.D c):=
 let vs:=c.sl.map (fun p=>b0H s p.1)++c.th.map (fun p=>B2 s p.1)
 match o7 E s8 s (c0d E s c.L3 vs) with
 |
  some s1=>match Y7 E s1 c.L3 vs with
  |
   some ⟨ids,x⟩=>match g0V s1.fr s0.fr c.sl&&g0V s1.th s0.th c.th&&o0T s0.nid c.th (ids.filterMap fun x=>x)&&(c.th.all fun p=>Nat.blt p.1 s0.nid)&&c0k (c.th.map Prod.fst)&&(c.sl.all fun p=>Nat.blt p.1 s0.n) with
   |true=>some x
   |false=>none
  |none=>none
 |none=>none
def r8 {D:Nat->Type} (s:St D):List (Nat×Sh)->List (V D)->St D
 |(t,_) :: r,v :: l=>r8 (s.put (some t) v) r l
 |_,_=>s
def K1 {D:Nat->Type} (s:St D):List Nat->St D
 |[]=>s
 |i :: r=>K1 (s.at i .gone) r
def D9 {D:Nat->Type} (q:Nat):List (Nat×Th D)->List Nat
 |[]=>[]
 |(r,.rof q' _ _) :: l=>match Nat.beq q q' with | true=>r :: D9 q l | false=>D9 q l
 |_ :: l=>D9 q l
def Q7 {D:Nat->Type} (s:St D) (q:Nat):St D:=K1 s (D9 q s.th)
def a0s {D:Nat->Type} (s:St D):List Nat->St D
 |[]=>s
 |q :: r=>a0s (Q7 s q) r
def u0R {D:Nat->Type}:Th D->Bool
 |.rof ..=>true
 |_=>false
def r0X {D:Nat->Type} (s:St D) (sh:Sh) (j:Nat):Bool:=match sh with
 |.V0 _ F _=>(match G0 s j with | .V0 _ F' _ _ none=>Nat.beq F.length F'.length | _=>false)
 |_=>false
def l3 {D:Nat->Type} (s:St D) (id j:Nat) (sh:Sh):St D:=match u0R (G0 s j) with
 |true=>s.at id .gone
 |
  false=>match r0X s sh j with
  |true=>(s.at id (G0 s j)).at j .gone
  |false=>((Q7 s id).at id (G0 s j)).at j .gone
def a0z {D:Nat->Type} (s:St D) (id:Nat) (sh:Sh) (v:V D):St D:=match v with
 |.sl j=>l3 s id j sh
 |.pb j 0 []=>l3 s id j sh
 |.mp j=>l3 s id j sh
 |_=>s.at id .gone
def a0k {D:Nat->Type} (s:St D):List (Nat×Sh)->List (V D)->St D
 |(t,sh) :: r,v :: l=>a0k (a0z s t sh v) r l
 |_,_=>s
def c0z {R:Type} (s0:St E.D) (c:Cut) (x:f0n E.D c) (k:St E.D->Option R):Option R:=
 q9 E (K1 s0 (c.th.map Prod.fst)) c.L3 x fun s l=>k (a0k (r8 s c.sl l) c.th (l.drop c.sl.length))
inductive Ex where | nrm | ex (id:Nat) | ret
def Ex.eq:Ex->Ex->Bool
 |.nrm,.nrm=>true
 |.ex i,.ex j=>Nat.beq i j
 |.ret,.ret=>true
 |_,_=>false
def h0G (D:Nat->Type):List (Ex×Cut)->Type
 |[]=>Empty
 |[x]=>f0n D x.2
 |x :: y :: r=>f0n D x.2 ⊕ h0G D (y :: r)
def c0v (s0:St E.D) (e:Ex) (s:St E.D):(xs:List (Ex×Cut))->Option (h0G E.D xs)
 |[]=>none
 |[x]=>match x.1.eq e with | true=>b0o E s0 s x.2 | false=>none
 |
  x :: y :: r=>match x.1.eq e with
  |true=>match b0o E s0 s x.2 with | some a=>some (Sum.inl a) | none=>none
  |false=>match c0v s0 e s (y :: r) with | some a=>some (Sum.inr a) | none=>none
def resume {R:Type} (s0:St E.D) (k:Ex->St E.D->Option R):(xs:List (Ex×Cut))->h0G E.D xs->Option R
 |[],_=>none
 |[x],a=>c0z E s0 x.2 a (k x.1)
 |
  x :: y :: r,a=>match (show f0n E.D x.2 ⊕ h0G E.D (y :: r) from a) with
  |.inl b=>c0z E s0 x.2 b (k x.1)
  |.inr b=>resume s0 k (y :: r) b
structure Ann where
 js:List (Nat×List (Ex×Cut))
 ls:List (Nat×Cut×List (Ex×Cut))
 rs:List (Nat×Nat×Nat×Cut)
 tb:List Nat:=[]
structure Sm (D:Nat->Type) where
 f:Nat
 ins:List Sh
 res:Sh
 back:List (Nat×Sh)
 m:W4 D ins->Option (W4 D (res :: back.map Prod.snd))
structure P4 where
 sm:List (Sm E.D)
 ann:Nat->Ann
 fuel:Nat
 tb:List Nat:=[]
def e0W:List (Sm E.D)->Nat->Option (Sm E.D)
 |[],_=>none
 |x :: r,f=>match Nat.beq x.f f with | true=>some x | false=>e0W r f
def f0t:Sh->Bool
 |.d (.int _) | .d .bool | .d .str | .own _ (.int _) | .own _ .bool | .any | .nil | .nilp | .kb _=>true
 |_=>false
def i0T:Sh->Bool
 |.tup cs=>cs.all f0t
 |x=>f0t x
def f0z {D:Nat->Type}:V D->Option Nat
 |.sl i=>some i
 |.pb i 0 []=>some i
 |.mp i=>some i
 |_=>none
def Q5 {D:Nat->Type} (args:List (V D)):List (Nat×Sh)->List (Nat×Sh)
 |[]=>[]
 |
  (j,sh) :: r=>match args[j]? with
  |
   some v=>match f0z v with
   |some i=>(i,sh) :: Q5 args r
   |none=>Q5 args r
  |none=>Q5 args r
def j0B {R:Type} (s:St E.D) (c:Sm E.D) (args:List (V E.D)) (k:St E.D->V E.D->Option R):Option R:=
 match o7 E s8 s (c0d E s c.ins args) with
 |
  some s1=>match Y7 E s1 c.ins args with
  |
   some ⟨ids,x⟩=>match c0k (ids.filterMap fun x=>x)&&Nat.beq (Q5 args c.back).length c.back.length with
   |true=>Option.bind (c.m x) fun y=>
     q9 E (K1 (match i0T c.res&&c.back.all (fun p=>f0t p.2) with | true=>s | false=>s1) (ids.filterMap fun x=>x)) (c.res :: c.back.map Prod.snd) y fun s2 l=>match l with
      |v :: l'=>k (a0k (a0s s2 ((Q5 args c.back).map Prod.fst)) (Q5 args c.back) l') v
      |[]=>none
   |false=>none
  |none=>none
 |none=>none
def r0I (T:Nat):Option Value:=match E.P.info? T with
 |some i=>i.zero
 |none=>none
def b0W (e:Nat):Option (Value×Nat×Nat):=match E.P.info? e with
 |
  some i=>match i.zero with
  |some z=>some (z,i.size,i.bytes)
  |none=>none
 |none=>none
def b0l (T:Nat):Option Nat:=match E.P.underlying T with
 |some (.slice e)=>some e
 |_=>none
def i0y (s:St E.D) (t:U):List (V E.D)->Option (List (Den E.D t))
 |[]=>some []
 |
  v :: r=>match toD E s s8 t v,i0y s t r with
  |some x,some xs=>some (x :: xs)
  |_,_=>none
def j0C:Nat->List (Nat×Operand)->Bool
 |_,[]=>true
 |j,(i,_) :: r=>Nat.beq i j&&j0C (j+1) r
def l0L:Operand->Operand->Bool
 |.tmp a,.tmp b=>Nat.beq a b
 |_,_=>false
abbrev K (R:Type):=St E.D->V E.D->Option R
def p0Q {R:Type} (s:St E.D) (T:Nat) (k:K E R):Option R:=match r0I E T with
 |
  some z=>match z.cells.toList.all (·.oneCell') with
  |true=>k (s.new (.box T (M6 (ofZ E z)))) (.pb s.nid 0 [])
  |false=>none
 |none=>none
def q0u {R:Type} (s:St E.D) (T:Nat) (v:V E.D) (k:K E R):Option R:=match c0i v with
 |true=>k (s.new (.box T (M6 v))) (.pb s.nid 0 [])
 |false=>none
def g0I {D:Nat->Type} (s:St D) (id:Nat):Option (Nat×List (V D)):=match G0 s id with
 |.box T l=>some (T,l)
 |_=>none
def d0q (s:St E.D) (id:Nat):Option (Nat×((t:U)×List (Den E.D t))):=match G0 s id with
 |.lst e t xs=>some (e,⟨t,xs⟩)
 |_=>none
def i09 (l:List (V E.D)):Option (((t:U)×Den E.D t)×List (V E.D)):=match l with
 |.d t x :: r=>some (⟨t,x⟩,r)
 |_=>none
def v0R:List Field->Option (List Nat)
 |[]=>some []
 |
  x :: r=>match b0l E x.type,v0R r with
  |some e,some l=>some (e :: l)
  |_,_=>none
def v0y (e:Nat):Option (List Nat):=match E.P.underlying e with
 |some (.slice e')=>some [e']
 |some (.struct l)=>v0R E l.toList
 |_=>none
def w0C {D:Nat->Type} (g:(u:U)->List (Den D u)->Option (List (Den D u))):(t:U)->Den D t->Option (Den D t)
 |.list u,x=>g u x
 |_,_=>none
def n0V {D:Nat->Type} (g:(u:U)->List (Den D u)->Option (List (Den D u))) (u:U) (x:List (Den D u)):Nat->Option (List (Den D u))
 |0=>g u x
 |_=>none
def n0Y (k:Nat) (o:Option (HL E.D (E.fs k))):Option (E.D k):=match o with
 |some h=>some (E.mkS k h)
 |none=>none
def setRow (t:U) (x:Den E.D t) (f:Nat) (g:(u:U)->List (Den E.D u)->Option (List (Den E.D u))):Option (Den E.D t):=match t,x with
 |.list u,x=>n0V g u x f
 |.st k,x=>n0Y E k (a0K (E.fs k) (E.un k x) f (w0C g))
 |_,_=>none
def c0b (s:St E.D) (id:Nat):Option (Nat×List Nat×Option (Int×Nat)×((t:U)×List (Den E.D t))):=match G0 s id with
 |.V0 e F t xs o=>some (e,F,o,⟨t,xs⟩)
 |_=>none
def j0Z (t:U) (q:List N6):Option Nat:=match t,q with
 |.list _,[]=>some 0
 |.st k,[.inl (f,o)]=>match Nat.beq (b0C E (E.fs k) f) o with | true=>some f | false=>none
 |_,_=>none
def f0K (s:St E.D) (e:Nat) (u:U) (v:V E.D):Option (Option Nat×List (Den E.D u)):=match v with
 |.nil=>some (none,[])
 |
  .sl j=>match d0q E s j with
  |
   some (e',⟨u',ys⟩)=>match Nat.beq e e',w9 u' u ys with
   |true,some zs=>some (some j,zs)
   |_,_=>none
  |none=>none
 |_=>none
def c0s {D:Nat->Type} (s:St D):Option Nat->St D
 |some id=>s.at id .gone
 |none=>s
def w0b (o:Option (Int×Nat)) (i:Int) (f:Nat):Option Bool:=match o with
 |none=>none
 |some (j,g)=>match Nat.beq f g with | true=>some (decide (j=i)) | false=>some false
def p0h (t:U) (f:Nat):Option U:=match t with
 |.list u=>match f with | 0=>some u | _=>none
 |.st k=>match l0U (E.fs k) f with | some (.list u)=>some u | _=>none
 |_=>none
def o0r {R:Type} (s:St E.D) (id:Nat) (i:Int) (z:Nat) (q:List N6) (v:V E.D) (k:K E R):Option R:=match c0b E s id with
 |
  some (e,F,o,⟨t,xs⟩)=>match Nat.beq z (o3 E t),j0Z E t q with
  |
   true,some f=>match p0h E t f,F[f]? with
   |
    some u,some e'=>match f0K E s e' u v with
    |
     some (g,ys)=>match setRow E t (c7 E t xs i) f (fun u' _=>w9 u u' ys) with
     |
      some x=>match w0b o i f with
      |none=>k ((Q7 (c0s s g) id).at id (.V0 e F t (xs.set i.toNat x) none)) (.tup [])
      |some b=>if b then k ((Q7 (c0s s g) id).at id (.V0 e F t (xs.set i.toNat x) none)) (.tup []) else none
     |none=>none
    |none=>none
   |_,_=>none
  |_,_=>none
 |none=>none
def n0f {R:Type} (s:St E.D) (n:Nat) (r:Nat) (j:Int) (f:Nat) (i:Int) (z:Nat) (q:List N6) (v:V E.D) (k:K E R):Option R:=match b0a E s r j f with
 |
  some ⟨t,_⟩=>match Nat.beq z (o3 E t),d0I E t q with
  |
   true,some u=>match rdD E s u v with
   |
    some (s1,y)=>match c0b E s1 r with
    |some (e,F,none,⟨t0,xs⟩)=>match setRow E t0 (c7 E t0 xs j) f (fun u' ys=>match Nat.beq z (o3 E u')&&Nat.beq (o3 E u) n,b0U E u y q u' (c7 E u' ys i) with
      |true,some x=>some (ys.set i.toNat x)
      |_,_=>none) with
     |some x=>k (s1.at r (.V0 e F t0 (xs.set j.toNat x) none)) (.tup [])
     |none=>none
    |_=>none
   |none=>none
  |_,_=>none
 |none=>none
def j0j {R:Type} (s:St E.D) (T:Nat) (p v:V E.D) (k:K E R):Option R:=match W5 E T with
 |none=>none
 |
  some n=>match Nat.beq (vsz E v) n&&c0i v with
  |false=>none
  |
   true=>match p with
   |
    .pb id off []=>match g0I s id with
    |
     some (T',cs)=>match O9 E off n cs with
     |some (a,_,c)=>k (s.at id (.box T' (a++M6 v++c))) (.tup [])
     |none=>none
    |none=>none
   |
    .pb id off q=>match b5 s id off q v with
    |some (s1,T',l)=>k (s1.at id (.box T' l)) (.tup [])
    |none=>none
   |
    .pe id i z q=>match G0 s id with
    |.V0 ..=>match Nat.beq n 1 with | true=>o0r E s id i z q v k | false=>none
    |.rof r j f=>n0f E s n r j f i z q v k
    |
     _=>match d0q E s id with
     |
      some (_,⟨t,_⟩)=>match Nat.beq z (o3 E t),d0I E t q with
      |
       true,some u=>match rdD E s u v with
       |
        some (s1,y)=>match d0q E s1 id with
        |
         some (e,⟨t',xs⟩)=>match Nat.beq z (o3 E t')&&Nat.beq (o3 E u) n,b0U E u y q t' (c7 E t' xs i) with
         |true,some x=>k (s1.at id (.lst e t' (xs.set i.toNat x))) (.tup [])
         |_,_=>none
        |none=>none
       |none=>none
      |_,_=>none
     |none=>none
   |_=>none
where
 /-- A store Z0 an element of an array within a variable. -/
 b5 (s:St E.D) (id off:Nat) (q:List N6) (v:V E.D):Option (St E.D×Nat×List (V E.D)):=match g0I s id with
  |
   some (_,cs)=>match P8 E s8 off cs with
   |
    some (_,m)=>match i09 E m with
    |
     some (⟨t,_⟩,_)=>match d0I E t q with
     |
      some u=>match Nat.beq (o3 E u) (vsz E v),rdD E s u v with
      |
       true,some (s1,y)=>match g0I s1 id with
       |
        some (T',cs')=>match P8 E s8 off cs' with
        |
         some (a,m')=>match i09 E m' with
         |
          some (⟨t',x'⟩,c)=>match b0U E u y q t' x' with
          |some z=>some (s1,T',a++.d t' z :: c)
          |none=>none
         |none=>none
        |none=>none
       |none=>none
      |_,_=>none
     |none=>none
    |none=>none
   |none=>none
  |none=>none
def e0P (s:St E.D) (t:U) (y:V E.D):Option (List (Den E.D t)):=match y with
 |.nil=>some []
 |
  y=>match b0K E s y with
  |some ⟨t',ys⟩=>w9 t' t ys
  |none=>none
def s0n (s:St E.D) (e:Nat) (t:U) (x:V E.D):Option (Option Nat×List (Den E.D t)):=match x with
 |.nil=>some (none,[])
 |
  .sl id=>match d0q E s id with
  |
   some (e',⟨t',xs⟩)=>match Nat.beq e e',w9 t' t xs with
   |true,some ys=>some (some id,ys)
   |_,_=>none
  |none=>none
 |_=>none
def b0T (t:U) (z:Value) (sz bytes:Nat):Bool:=Nat.beq sz (o3 E t)&&Nat.beq z.cells.size sz&&Nat.blt 0 sz&&Nat.blt 0 bytes
def h0W (s:St E.D) (e:Nat) (F:List Nat) (t:U) (x:V E.D):Option (Option Nat×List (Den E.D t)):=match x with
 |.nil=>some (none,[])
 |
  .sl id=>match c0b E s id with
  |
   some (e',F',none,⟨t',xs⟩)=>match Nat.beq e e'&&F==F',w9 t' t xs with
   |true,some ys=>some (some id,ys)
   |_,_=>none
  |_=>none
 |_=>none
def v0n (s:St E.D) (x:V E.D):Option (Nat×Int×Nat):=match x with
 |
  .sl id=>match G0 s id with
  |.rof r j f=>some (r,j,f)
  |_=>none
 |_=>none
def t0A (s:St E.D) (y:V E.D):Option Nat:=match y with
 |
  .sl id=>match G0 s id with
  |.V0 ..=>some id
  |_=>none
 |_=>none
def o0R {R:Type} (s:St E.D) (T:Nat) (x:V E.D) (iy:Nat) (k:K E R):Option R:=match b0l E T with
 |none=>none
 |
  some e=>match E.uT e,b0W E e,c0b E s iy with
  |
   some t,some (z,sz,bytes),some (e2,F,none,⟨t',ys'⟩)=>match b0T E t z sz bytes&&Nat.beq e e2&&b9 E t F,w9 t' t ys',h0W E s e F t x with
   |
    true,some ys,some (g,xs)=>match (match g with | some ix=>!(Nat.beq ix iy) | none=>true) with
    |true=>if I0 bytes xs ys then k (((c0s s g).at iy .gone).new (.V0 e F t (xs++ys) none)) (.sl s.nid) else none
    |false=>none
   |_,_,_=>none
  |_,_,_=>none
def o05 (s:St E.D) (r:Nat) (j:Int) (f:Nat):Option (St E.D):=match c0b E s r with
 |
  some (e,F,none,⟨t,xs⟩)=>match b0a E s r j f,F[f]? with
  |some ⟨u,zs⟩,some e'=>some (((Q7 s r).at r (.V0 e F t xs (some (j,f)))).new (.lst e' u zs))
  |_,_=>none
 |_=>none
def l0f {R:Type} (s:St E.D) (T:Nat) (x y:V E.D) (k:K E R):Option R:=match b0l E T with
 |none=>none
 |
  some e=>match E.uT e,b0W E e with
  |
   some t,some (z,sz,bytes)=>match b0T E t z sz bytes,e0P E s t y,s0n E s e t x with
   |true,some ys,some (g,xs)=>if I0 bytes xs ys then k ((c0s s g).new (.lst e t (xs++ys))) (.sl s.nid) else none
   |_,_,_=>none
  |_,_=>none
def l0z {D:Nat->Type}:V D->Option ((t:U)×List (Den D t))
 |.df t xs=>some ⟨t,xs⟩
 |_=>none
def r0a {R:Type} (s:St E.D) (T:Nat) (t':U) (xs':List (Den E.D t')) (y:V E.D) (k:K E R):Option R:=match b0l E T with
 |none=>none
 |
  some e=>match E.uT e,b0W E e with
  |
   some t,some (z,sz,bytes)=>match b0T E t z sz bytes,e0P E s t y,w9 t' t xs' with
   |true,some ys,some xs=>if I0 bytes xs ys then k s (.d (.list t) (xs++ys)) else none
   |_,_,_=>none
  |_,_=>none
def n0p {R:Type} (s:St E.D) (T:Nat) (x y:V E.D) (k:K E R):Option R:=match l0z x with
 |some ⟨t,xs⟩=>r0a E s T t xs y k
 |none=>l0f E s T x y k
def o06 {R:Type} (s:St E.D) (T:Nat) (x y:V E.D) (k:K E R):Option R:=match v0n E s x with
 |
  some (r,j,f)=>match o05 E s r j f with
  |some s1=>l0f E s1 T (.sl s.nid) y k
  |none=>none
 |
  none=>match t0A E s y with
  |some iy=>o0R E s T x iy k
  |none=>n0p E s T x y k
def q0r {R:Type} (s:St E.D) (T:Nat) (t':U) (xs':List (Den E.D t')) (y:V E.D) (k:K E R):Option R:=match b0l E T with
 |none=>none
 |
  some e=>match E.uT e,b0W E e with
  |
   some t,some (z,sz,bytes)=>match b0T E t z sz bytes,e0P E s t y,w9 t' t xs' with
   |true,some ys,some xs=>if xs.isEmpty&&I0 bytes xs ys then k (s.new (.lst e t ys)) (.sl s.nid) else none
   |_,_,_=>none
  |_,_=>none
def p0U {R:Type} (b:Bool) (s:St E.D) (T:Nat) (x y:V E.D) (k:K E R):Option R:=match b,l0z x with
 |true,some ⟨t,xs⟩=>q0r E s T t xs y k
 |_,_=>o06 E s T x y k
def bsV {R:Type} (s:St E.D) (T n:Nat) (parts:List (Nat×Operand)) (k:K E R):Option R:=match b0l E T with
 |
  some e=>match E.uT e,b0W E e with
  |
   some t,some (z,sz,bytes)=>match b0T E t z sz bytes&&Nat.beq n parts.length&&j0C 0 parts&&Nat.ble n 10000&&Nat.ble sz 1000&&(parts.all fun p=>(c0i (T1 E s p.2))&&Nat.beq (vsz E (T1 E s p.2)) sz),o7 E s8 s (parts.map fun p=>T1 E s p.2) with
   |
    true,some s1=>match i0y E s1 t (parts.map fun p=>T1 E s p.2) with
    |some xs=>k (s1.new (.lst e t xs)) (.sl s1.nid)
    |none=>none
   |_,_=>none
  |_,_=>none
 |none=>none
def emp {D:Nat->Type}:St D:=⟨0,[],[],0,[]⟩
def m0t {R:Type} (s:St E.D) (T:Nat) (n m:Operand) (k:K E R):Option R:=match b0l E T,H5 (T1 E s n),l0L n m with
 |
  some e,some (_,x),true=>match E.uT e,b0W E e with
  |
   some t,some (z,sz,bytes)=>match b0T E t z sz bytes,toD E emp s8 t (ofZ E z) with
   |true,some zx=>if B3 bytes x then k (s.new (.lst e t (List.replicate x.toNat zx))) (.sl s.nid) else none
   |_,_=>none
  |_,_=>none
 |_,_,_=>none
def isNil {D:Nat->Type}:V D->Bool
 |.nil=>true
 |_=>false
def m0k {R:Type} (s:St E.D) (T:Nat) (n m:Operand) (k:K E R):Option R:=match b0l E T,H5 (T1 E s n),l0L n m with
 |
  some e,some (_,x),true=>match E.uT e,b0W E e,v0y E e with
  |
   some t,some (z,sz,bytes),some F=>match b0T E t z sz bytes&&b9 E t F&&(M6 (ofZ E z)).all isNil,toD E emp s8 t (ofZ E z) with
   |true,some zx=>if B3 bytes x then k (s.new (.V0 e F t (List.replicate x.toNat zx) none)) (.sl s.nid) else none
   |_,_=>none
  |_,_,_=>none
 |_,_,_=>none
def bsT {R:Type} (s:St E.D) (T n:Nat) (parts:List (Nat×Operand)) (k:K E R):Option R:=match b0l E T,parts,n with
 |
  some e,[(0,x)],1=>match E.uT e,b0W E e,v0y E e with
  |
   some (.list u),some (z,sz,bytes),some [e']=>match b0T E (.list u) z sz bytes&&b9 E (.list u) [e'],f0K E s e' u (T1 E s x) with
   |true,some (g,ys)=>k ((c0s s g).new (.V0 e [e'] (.list u) [ys] none)) (.sl s.nid)
   |_,_=>none
  |_,_,_=>none
 |_,_,_=>none
def k0z (tb:List Nat) (o:Oper):Bool:=match o.dst with
 |some d=>tb.any (Nat.beq d)
 |none=>false
def n0m {R:Type} (s:St E.D) (T T':Nat) (x:V E.D) (k:K E R):Option R:=match x with
 |
  .sl id=>match Nat.beq T T',E.P.underlying T,d0q E s id with
  |
   true,some (.slice e),some (_,⟨.int .u8,xs⟩)=>match E.P.underlying e with
   |some (.int .u8)=>if !xs.isEmpty then k (s.at id (.fz (.int .u8) xs)) (.sl id) else none
   |_=>none
  |_,_,_=>none
 |_=>none
def k0x (s:St E.D) (x:V E.D):Option (Nat×List (Int×Int)):=match x with
 |.mp id=>match G0 s id with | .map m=>some (id,m) | _=>none
 |_=>none
def p08 {R:Type} (s:St E.D) (T:Nat) (x i y:V E.D) (k:K E R):Option R:=match k0x E s x,f0L i,f0L y,g0M E T with
 |some (id,m),some a,some b,true=>k (s.at id (.map (a0M m a b))) (.tup [])
 |_,_,_,_=>none
def copyV {R:Type} (s:St E.D) (T:Nat) (x y:V E.D) (k:K E R):Option R:=match E.P.underlying T,x with
 |
  some (.slice e),.sl id=>match W5 E e with
  |
   some 1=>match G0 s id with
   |
    .lst e' t xs=>match Nat.beq (o3 E t) 1,e0P E s t y with
    |true,some ys=>k (s.at id (.lst e' t (M4 xs ys))) (dI .i64 ((Nat.min ys.length xs.length:Nat):Int))
    |_,_=>none
   |
    .rof r j f=>match c0b E s r,b0a E s r j f with
    |
     some (e0,F,none,⟨t0,xs0⟩),some ⟨t,xs⟩=>match Nat.beq (o3 E t) 1,e0P E s t y with
     |
      true,some ys=>match setRow E t0 (c7 E t0 xs0 j) f (fun u' zs=>match w9 t u' ys with | some ws=>some (M4 zs ws) | none=>none) with
      |some x=>k (s.at r (.V0 e0 F t0 (xs0.set j.toNat x) none)) (dI .i64 ((Nat.min ys.length xs.length:Nat):Int))
      |none=>none
     |_,_=>none
    |_,_=>none
   |_=>none
  |_=>none
 |_,_=>none
def evE {R:Type} (tb:List Nat) (s:St E.D) (o:Oper) (k:K E R):Option R:=match o.op with
 |.alloc T=>p0Q E s T k
 |.box T x=>q0u E s T (T1 E s x) k
 |.store T p x=>j0j E s T (T1 E s p) (T1 E s x) k
 |.buildSlice T n parts=>match k0z tb o with | true=>bsT E s T n parts.toList k | false=>bsV E s T n parts.toList k
 |.makeSlice T n m=>match k0z tb o with | true=>m0k E s T n m k | false=>m0t E s T n m k
 |
  .call c=>match c.callee,c.args.toList,c.argTypes.toList with
  |
   .builtin .append,[x,y],[T,T']=>match Nat.beq T T' with
   |true=>p0U E (k0z tb o) s T (T1 E s x) (T1 E s y) k
   |false=>none
  |
   .builtin .copy,[x,y],[T,T']=>match Nat.beq T T' with
   |true=>copyV E s T (T1 E s x) (T1 E s y) k
   |false=>none
  |_,_,_=>none
 |.convert T T' x=>n0m E s T T' (T1 E s x) k
 |.makeMap _ none=>k (s.new (.map [])) (.mp s.nid)
 |.mapUpdate T m i x=>p08 E s T (T1 E s m) (T1 E s i) (T1 E s x) k
 |_=>none
def m0h (s:St E.D) (T:Nat) (p:V E.D):Option (Nat×Int×Nat):=match p with
 |
  .pe id i z q=>match c0b E s id with
  |
   some (_,F,none,⟨t,_⟩)=>match j9 E T,W5 E T,j0Z E t q with
   |some false,some 1,some f=>match Nat.beq z (o3 E t)&&Nat.blt f F.length with | true=>some (id,i,f) | false=>none
   |_,_,_=>none
  |_=>none
 |_=>none
def i0V (s:St E.D) (o:Oper):Option (Nat×Int×Nat):=match o.op with
 |.load T x=>m0h E s T (T1 E s x)
 |_=>none
end
