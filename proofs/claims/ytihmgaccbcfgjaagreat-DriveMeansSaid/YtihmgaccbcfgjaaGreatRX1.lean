/- P. Its conditions: none. -/
import Derived.Test.YtihmgaccbcfgjaaGreatRG01
set_option linter.all false
namespace Go.X
open Go.V Go.RowKit
inductive U where
 |int (k:IntKind)|bool|str|list (t:U)|st (i:Nat)|arr (n:Nat) (t:U)|ptr (t:U)|opt (t:U)
 deriving DecidableEq
def Den (D:Nat->Type):U->Type
 |.int _=>Int
 |.bool=>Bool
 |.str=>ByteArray
 |.list t=>List (Den D t)
 |.st i=>D i
 |.arr _ t=>List (Den D t)
 |.ptr t=>Den D t
 |.opt t=>Option (Den D t)
def HL (D:Nat->Type):List U->Type
 |[]=>Unit
 |t :: ts=>Den D t×HL D ts
structure Env where
 P:Program
 D:Nat->Type
 inh:(i:Nat)->D i
 fs:Nat->List U
 un:(i:Nat)->D i->HL D (fs i)
 mkS:(i:Nat)->HL D (fs i)->D i
 ty:(i:Nat)->Ty (D i)
 uT:Nat->Option U
abbrev B6:=(Nat×Nat)⊕(Int×Nat×Nat)
inductive V (D:Nat->Type):Type where
 |undef|kb (b:Bool)|ki (k:IntKind) (n:Int)|d (t:U) (x:Den D t)|nil|nilp|nilif|nilfn
 |sl (id:Nat)|pb (id off:Nat) (p:List B6)|pe (id:Nat) (i:Int) (z:Nat) (p:List B6)|pd (t:U) (x:Den D t)|df (t:U) (xs:List (Den D t))|mp (id:Nat)
 |agg (vs:List (V D))|tup (vs:List (V D))|fn (f:Nat) (caps:List (V D))|ifc (T:Nat) (v:V D)
inductive Th (D:Nat->Type):Type where
 |gone|box (T:Nat) (cs:List (V D))|fzb (T:Nat) (cs:List (V D))|lst (e:Nat) (t:U) (xs:List (Den D t))|fz (t:U) (xs:List (Den D t))|map (m:List (Int×Int))
 |X0 (e:Nat) (F:List Nat) (t:U) (xs:List (Den D t)) (o:Option (Int×Nat))|rof (q:Nat) (i:Int) (f:Nat)
abbrev Fr (D:Nat->Type):=List (Nat×V D)
structure St (D:Nat->Type) where
 n:Nat
 fr:Fr D
 th:List (Nat×Th D)
 nid:Nat
 stk:List (Nat×Fr D)
def F4 {α:Type}:List (Nat×α)->Nat->Option α
 |[],_=>none
 |(k,v) :: r,t=>match Nat.beq k t with|true=>some v|false=>F4 r t
def F0 {D:Nat->Type}(s:St D)(id:Nat):Th D:=match F4 s.th id with|some x=>x|none=>.gone
def Q1 {D:Nat->Type}:Th D->Bool
 |.box .. | .lst .. | .map _|.X0 ..=>true
 |_=>false
def St.put {D:Nat->Type}(s:St D)(dst:Option Nat)(v:V D):St D:=match dst with
 |some t=>{ s with fr:=(t,v) :: s.fr }
 |none=>s
def St.at {D:Nat->Type}(s:St D)(id:Nat)(x:Th D):St D:={ s with th:=(id,x) :: s.th }
def St.new {D:Nat->Type}(s:St D)(x:Th D):St D:={ s with th:=(s.nid,x) :: s.th,nid:=s.nid+1 }
section
variable (E:Env)
def dfl:(t:U)->Den E.D t
 |.int _=>(default:Int)
 |.bool=>(default:Bool)
 |.str=>ByteArray.empty
 |.list _=>[]
 |.st i=>E.inh i
 |.arr n t=>List.replicate n (dfl t)
 |.ptr t=>dfl t
 |.opt _=>none
def E6 (t:U)(xs:List (Den E.D t))(i:Int):Den E.D t:=@gt _ ⟨dfl E t⟩ xs i
def w0m:Ty ByteArray where
 sz:=1
 R:=fun _ _ cs x=>cs=[.string x]
 len:=by simp
 one:=by rintro _ _ _ _ rfl v a;simp at a;subst a;rfl
 L0:=fun _ h=>h
def s0G {α:Type}(n:Nat)(T:Ty α):Ty (List α) where
 sz:=n*T.sz
 R:=fun H S cs xs=>xs.length=n/\R1 T H S cs xs
 len:=by rintro _ _ _ _ ⟨rfl,h⟩;exact h.1
 one:=by rintro _ _ _ _ ⟨_,h⟩;exact h.e0w
 L0:=fun k ⟨h1,h2⟩=>⟨h1,h2.L0 k⟩
def PtR {α:Type}(T:Ty α)(H:I0)(S:D0)(v:Value)(x:α):Prop:=
 ∃b o cs,v=.pointer (some ⟨b,o,none⟩)/\b<H.size/\¬S b/\T.R H S cs x/\∀j u,cs[j]?=some u->O1 H b (o+j)=some u
def PtR.L0 {α:Type}{T:Ty α}{H c:I0}{S d:D0}{v:Value}{x:α}(k:P0 H S c d):PtR T H S v x->PtR T c d v x:=by
 rintro⟨b,o,cs,rfl,a,hs,e,g⟩
 exact⟨b,o,cs,rfl,Nat.lt_of_lt_of_le a k.size,(k.blk b a hs).1,T.L0 k e,fun j u f=>by rw[f0K (k.blk b a hs).2];simp_all⟩
def F0L {α:Type}(T:Ty α):Ty α where
 sz:=1
 R:=fun H S cs x=>∃v,cs=[v]/\PtR T H S v x
 len:=by simp_all
 one:=by rintro _ _ _ _ ⟨_,rfl,⟨_,_,_,rfl,_⟩⟩ v hv;simp at hv;subst hv;rfl
 L0:=fun k ⟨v,h1,h2⟩=>⟨v,h1,h2.L0 k⟩
def l0b {α:Type}(T:Ty α)(H:I0)(S:D0)(v:Value):Option α->Prop
 |none=>v=.pointer none
 |some y=>PtR T H S v y
def y0i {α:Type}(T:Ty α):Ty (Option α) where
 sz:=1
 R:=fun H S cs x=>∃v,cs=[v]/\l0b T H S v x
 len:=by simp_all
 one:=by
  rintro _ _ _ x ⟨v,rfl,h⟩ u hu
  simp at hu;subst hu;cases x with
  |none=>subst h;rfl
  |some y=>obtain⟨_,_,_,rfl,_⟩:=h;rfl
 L0:=by
  rintro _ _ _ _ _ x k ⟨v,h1,h2⟩
  refine⟨v,h1,?_⟩;cases x with
  |none=>exact h2
  |some y=>exact PtR.L0 k h2
def R6:Ty Unit where
 sz:=0
 R:=fun _ _ cs _=>cs=[]
 len:=Z'
 one:=by simp
 L0:=fun _ h=>h
def I2 {α β:Type}(T:Ty α)(a:Ty β):Ty (α×β) where
 sz:=T.sz+a.sz
 R:=fun H S cs x=>∃c1 c2,cs=c1++c2/\T.R H S c1 x.1/\a.R H S c2 x.2
 len:=by rintro _ _ _ _ ⟨c1,c2,rfl,h1,h2⟩;rw[List.length_append,T.len h1,a.len h2]
 one:=by
  rintro _ _ _ _ ⟨c1,c2,rfl,h1,h2⟩ v hv
  rcases List.mem_append.1 hv with h|h
  ·exact T.one h1 v h
  ·exact a.one h2 v h
 L0:=fun k ⟨c1,c2,h0,h1,h2⟩=>⟨c1,c2,h0,T.L0 k h1,a.L0 k h2⟩
def r7 {α β:Type}(f:α->β)(T:Ty β):Ty α where
 sz:=T.sz
 R:=fun H S cs x=>T.R H S cs (f x)
 len:=fun h=>T.len h
 one:=fun h=>T.one h
 L0:=fun k h=>T.L0 k h
def J0:(t:U)->Ty (Den E.D t)
 |.int k=>P1 k
 |.bool=>l8
 |.str=>w0m
 |.list t=>O4 (J0 t)
 |.st i=>E.ty i
 |.arr n t=>s0G n (J0 t)
 |.ptr t=>F0L (J0 t)
 |.opt t=>y0i (J0 t)
def K2 (t:U):Nat:=(J0 E t).sz
def L8:U->Bool
 |.st _|.arr _ _=>true
 |_=>false
def sz1:V E.D->Nat
 |.d t _=>K2 E t
 |_=>1
def szs (l:List (V E.D)):Nat:=match l with
 |[]=>0
 |v :: r=>sz1 E v+szs r
def vsz:V E.D->Nat
 |.agg vs=>szs E vs
 |v=>sz1 E v
def V3 {D:Nat->Type}:V D->Bool
 |.agg _=>true
 |.d t _=>L8 t
 |_=>false
def g0T {D:Nat->Type}:V D->Bool
 |.undef|.tup _|.agg _=>false
 |_=>true
def c0O {D:Nat->Type}:V D->Bool
 |.agg l=>l.all g0T
 |v=>g0T v
def g04 {D:Nat->Type}:(ts:List U)->HL D ts->List (V D)
 |[],_=>[]
 |t :: ts,h=>.d t h.1 :: g04 ts h.2
def elts (t:U)(xs:List (Den E.D t)):Nat->Nat->List (V E.D)
 |0,_=>[]
 |n+1,j=>.d t (E6 E t xs (j:Int)) :: elts t xs n (j+1)
def g0G:V E.D->Option (List (V E.D))
 |.d (.st i) x=>some (g04 (E.fs i) (E.un i x))
 |.d (.arr n t) x=>some (elts E t x n 0)
 |_=>none
def d0X {D:Nat->Type}:V D->Option (List (V D))
 |.agg vs=>some vs
 |_=>none
def j6 {D:Nat->Type}:V D->List (V D)
 |.agg vs=>vs
 |v=>[v]
def G8:Nat->Nat->List (V E.D)->Option (List (V E.D)×List (V E.D))
 |0,_,_=>none
 |k+1,off,cs=>match off with
  |0=>some ([],cs)
  |off'+1=>match cs with
   |[]=>none
   |v :: r=>match d0X v with
    |some l=>G8 k (off'+1) (l++r)
    |none=>match Nat.ble (sz1 E v) (off'+1)with
     |true=>match G8 k (off'+1-sz1 E v) r with
      |some (a,b)=>some (v :: a,b)
      |none=>none
     |false=>match g0G E v with
      |some l=>G8 k (off'+1) (l++r)
      |none=>none
def a0i (off n:Nat)(cs:List (V E.D)):Option (List (V E.D)×List (V E.D)×List (V E.D)):=
 match G8 E 100000 off cs with
 |some (a,b)=>match G8 E 100000 n b with
  |some (m,c)=>some (a,m,c)
  |none=>none
 |none=>none
def asV (ag:Bool)(m:List (V E.D)):Option (V E.D):=match ag with
 |true=>match m with
  |[v]=>match V3 v with|true=>some v|false=>some (.agg [v])
  |l=>some (.agg l)
 |false=>match m with
  |[v]=>match V3 v with
   |false=>some v
   |true=>match g0G E v with
    |some [u]=>match V3 u with|false=>some u|true=>none
    |_=>none
  |_=>none
def Y8 (T:Nat):Option Bool:=match E.P.underlying T with
 |some (.struct _)=>some true
 |some (.array _ _)=>some true
 |some _=>some false
 |none=>none
def H5 (T:Nat):Option Nat:=match E.P.info? T with
 |some i=>some i.size
 |none=>none
def j0F:List U->Nat->Option U
 |[],_=>none
 |t :: _,0=>some t
 |_ :: ts,j+1=>j0F ts j
def c0g:List U->Nat->Nat
 |[],_=>0
 |_ :: _,0=>0
 |t :: ts,j+1=>K2 E t+c0g ts j
def I5 {D:Nat->Type}:(ts:List U)->HL D ts->Nat->Option ((t:U)×Den D t)
 |[],_,_=>none
 |t :: _,h,0=>some ⟨t,h.1⟩
 |_ :: ts,h,j+1=>I5 ts h.2 j
def d0w (t:U)(x:Den E.D t):List B6->Option ((t:U)×Den E.D t)
 |[]=>some ⟨t,x⟩
 |.inl (j,o) :: p=>match t,x with
  |.st i,x=>match Nat.beq (c0g E (E.fs i) j) o with
   |true=>match I5 (E.fs i) (E.un i x) j with
    |some ⟨u,y⟩=>d0w u y p
    |none=>none
   |false=>none
  |_,_=>none
 |.inr (i,z,m) :: p=>match t,x with
  |.arr m' u,x=>match Nat.beq (K2 E u) z&&Nat.beq m' m with
   |true=>d0w u (E6 E u x i) p
   |false=>none
  |_,_=>none
def d0i {D:Nat->Type}(t u:U)(x:Den D t):Option (Den D u):=if h:t=u then some (h▸x)else none
def a00 {D:Nat->Type}:(ts:List U)->HL D ts->Nat->((t:U)->Den D t->Option (Den D t))->Option (HL D ts)
 |[],_,_,_=>none
 |t :: _,h,0,f=>match f t h.1 with
  |some y=>some (y,h.2)
  |none=>none
 |_ :: ts,h,j+1,f=>match a00 ts h.2 j f with
  |some a=>some (h.1,a)
  |none=>none
def b07 (u:U)(y:Den E.D u):List B6->(t:U)->Den E.D t->Option (Den E.D t)
 |[],t,_=>d0i u t y
 |.inl (j,o) :: p,t,x=>match t,x with
  |.st i,x=>match Nat.beq (c0g E (E.fs i) j) o with
   |true=>match a00 (E.fs i) (E.un i x) j (fun a x'=>b07 u y p a x')with
    |some h=>some (E.mkS i h)
    |none=>none
   |false=>none
  |_,_=>none
 |.inr (i,z,m) :: p,t,x=>match t,x with
  |.arr m' u',x=>match Nat.beq (K2 E u') z&&Nat.beq m' m with
   |true=>match b07 u y p u' (E6 E u' x i)with
    |some z=>some (x.set i.toNat z)
    |none=>none
   |false=>none
  |_,_=>none
def e0l:U->List B6->Option U
 |t,[]=>some t
 |.st i,.inl (j,_) :: p=>match j0F (E.fs i) j with
  |some u=>e0l u p
  |none=>none
 |.arr _ u,.inr _ :: p=>e0l u p
 |_,_=>none
def V7 {D:Nat->Type}:Value->V D
 |.bool b=>.kb b
 |.int k n=>.ki k n
 |.string s=>.d .str s
 |.pointer none=>.nilp
 |.slice none 0 0=>.nil
 |.nilIface=>.nilif
 |.nilFunc=>.nilfn
 |_=>.undef
def ofZ (z:Value):V E.D:=match z with
 |.agg cs=>.agg (cs.toList.map V7)
 |z=>V7 z
def N1 (s:St E.D):Operand->V E.D
 |.tmp t=>match F4 s.fr t with|some v=>v|none=>.undef
 |.const v=>V7 v
 |.global _=>.undef
 |.func f=>.fn f []
def B5 {D:Nat->Type}:V D->Option (IntKind×Int)
 |.d (.int k) x=>some (k,x)
 |.ki k n=>some (k,n)
 |_=>none
def G6 {D:Nat->Type}:V D->Option Bool
 |.d .bool x=>some x
 |.kb b=>some b
 |_=>none
inductive QR (D:Nat->Type) where
 |bad|ok (v:V D)|chk (b:Bool) (v:V D)
def dI {D:Nat->Type}(k:IntKind)(x:Int):V D:=.d (.int k) x
def dB {D:Nat->Type}(x:Bool):V D:=.d .bool x
def g0E {D:Nat->Type}:V D->Option Int
 |.ki _ n=>some n
 |_=>none
def q0y {D:Nat->Type}(op:BinOp)(k:IntKind)(x y:Int)(a:Option Int):QR D:=match op with
 |.add=>.ok (dI k (k.wrap (x+y)))
 |.sub=>.ok (dI k (k.wrap (x-y)))
 |.mul=>.ok (dI k (k.wrap (x*y)))
 |.quo=>match a with
  |some n=>match decide (n=0)with|true=>.bad|false=>.ok (dI k (k.wrap (x.tdiv y)))
  |none=>.chk (!decide (y=0)) (dI k (k.wrap (x.tdiv y)))
 |.rem=>match a with
  |some n=>match decide (n=0)with|true=>.bad|false=>.ok (dI k (x.tmod y))
  |none=>.chk (!decide (y=0)) (dI k (x.tmod y))
 |.and=>.ok (dI k (Q2 k x y))
 |.or=>.ok (dI k (bor k x y))
 |.xor=>.ok (dI k (i0T k x y))
 |.andNot=>.ok (dI k (u0i k x y))
 |.eql=>.ok (dB (x==y))
 |.neq=>.ok (dB (x != y))
 |.lss=>.ok (dB (decide (x<y)))
 |.leq=>.ok (dB (decide (x<=y)))
 |.gtr=>.ok (dB (decide (x>y)))
 |.geq=>.ok (dB (decide (x>=y)))
 |_=>.bad
def q0w {D:Nat->Type}(op:BinOp)(k:IntKind)(x y:Int)(a:Option Int):QR D:=
 let r:=match op with|.shl=>dI k (shl k x y)|_=>dI k (shr k x y)
 match a with
 |some n=>match decide (n<0)with|true=>.bad|false=>.ok r
 |none=>.chk (!decide (y<0)) r
def g05:BinOp->Bool
 |.shl|.shr=>true
 |_=>false
def isEq:BinOp->Option Bool
 |.eql=>some true
 |.neq=>some false
 |_=>none
def sgn:Bool->Bool->Bool
 |true,r=>r
 |false,r=>!r
def eqR {D:Nat->Type}(pos:Bool)(r:Bool):V D:=dB (sgn pos r)
def i6 {D:Nat->Type}(pos:Bool)(r:Bool):V D:=.kb (sgn pos r)
def c0R (T:Nat):Nat:=match E.P.underlying T with
 |some .bool=>1
 |some (.pointer _)=>2
 |some (.slice _)=>3
 |some (.interface _)=>4
 |_=>0
def eqP {D:Nat->Type}(pos:Bool):V D->V D->QR D
 |.nilp,.nilp=>.ok (i6 pos true)
 |.nilp,.pb ..=>.ok (i6 pos false)
 |.nilp,.pd ..=>.ok (i6 pos false)
 |.pb ..,.nilp=>.ok (i6 pos false)
 |.pd ..,.nilp=>.ok (i6 pos false)
 |.d (.opt _) x,.nilp=>.ok (eqR pos x.isNone)
 |_,_=>.bad
def leaf:Nat->V E.D->V E.D
 |0,v=>v
 |k+1,v=>match g0G E v with
  |some [u]=>leaf k u
  |_=>v
def e0r (v:V E.D):Option (IntKind×Int):=B5 (leaf E 10 v)
def b09 (k:IntKind):List (V E.D)->List (V E.D)->Option Bool
 |[],[]=>some true
 |[a],[b]=>match e0r E a,e0r E b with
  |some (e,x),some (d,y)=>match decide (e=k)&&decide (d=k)with|true=>some (x==y)|false=>none
  |_,_=>none
 |a :: l,b :: r=>match e0r E a,e0r E b,b09 k l r with
  |some (e,x),some (d,y),some c=>match decide (e=k)&&decide (d=k)with|true=>some ((x==y)&&c)|false=>none
  |_,_,_=>none
 |_,_=>none
def f0w {α:Type}:List α->Option α
 |[v]=>some v
 |_=>none
def m0H:Option Bool->Bool->Bool
 |none,a=>a
 |some c,a=>a&&c
def S9:Nat->Nat->List (V E.D)->List (V E.D)->Option Bool
 |0,_,_,_=>none
 |d+1,T,xs,ys=>match E.P.underlying T with
  |some (.int _)=>match f0w xs,f0w ys with
   |some a,some b=>match e0r E a,e0r E b with
    |some (g,x),some (f,y)=>match decide (g=f)with|true=>some (x==y)|false=>none
    |_,_=>none
   |_,_=>none
  |some .bool=>match f0w xs,f0w ys with
   |some a,some b=>match G6 (leaf E 10 a),G6 (leaf E 10 b)with
    |some x,some y=>some (x==y)
    |_,_=>none
   |_,_=>none
  |some (.struct fs)=>match E.P.stoodInHeld T with
   |true=>none
   |false=>match eqFs (S9 d) fs.toList xs ys with
    |some (some c)=>some c
    |some none=>some true
    |none=>none
  |some (.array 4 e)=>match E.P.underlying e with
   |some (.int k)=>match H5 E e,cutA 100000 4 xs,cutA 100000 4 ys with
    |some 1,some l,some r=>b09 E k l r
    |_,_,_=>none
   |_=>none
  |_=>none
where
 cutA:Nat->Nat->List (V E.D)->Option (List (V E.D))
  |0,_,_=>none
  |_+1,0,l=>match l with | []=>some []|_=>none
  |k+1,n+1,l=>match G8 E 100000 1 l with
   |some ([v],r)=>match cutA k n r with
    |some q=>some (v :: q)
    |none=>none
   |_=>none
 eqFs (rec:Nat->List (V E.D)->List (V E.D)->Option Bool):List Field->List (V E.D)->List (V E.D)->Option (Option Bool)
  |[],_,_=>some none
  |f :: r,xs,ys=>match f.name== "_",H5 E f.type,eqAg f.type with
   |false,some n,true=>match a0i E f.offset n xs,a0i E f.offset n ys with
    |some (_,mx,_),some (_,my,_)=>match rec f.type mx my,eqFs rec r xs ys with
     |some a,some c=>some (some (m0H c a))
     |_,_=>none
    |_,_=>none
   |_,_,_=>none
 eqAg (T:Nat):Bool:=match Y8 E T,H5 E T with
  |some true,some _=>true
  |some false,some 1=>true
  |_,_=>false
def t0I (T:Nat):Bool:=match Y8 E T with
 |some b=>b
 |none=>false
def eqV (T:Nat)(pos:Bool)(a b:V E.D):QR E.D:=match c0R E T with
 |1=>match G6 a,G6 b with
  |some x,some y=>.ok (eqR pos (x==y))
  |_,_=>.bad
 |2=>eqP pos a b
 |3=>match a,b with
  |.nil,.nil=>.ok (i6 pos true)
  |.d (.list _) xs,.nil=>.chk (!xs.isEmpty) (i6 pos false)
  |_,_=>.bad
 |4=>match a,b with
  |.ifc ..,.nilif=>.ok (i6 pos false)
  |_,_=>.bad
 |_=>match V3 a&&V3 b&&!(E.P.eqGuardType E.P.depth T)&&t0I E T with
  |true=>match S9 E 50 T (j6 a) (j6 b)with
   |some r=>.ok (eqR pos r)
   |none=>.bad
  |false=>.bad
def p0S (op:BinOp)(T:Nat)(a b:V E.D):QR E.D:=match B5 a,B5 b with
 |some (k,x),some (k',y)=>match g05 op with
  |true=>q0w op k x y (g0E b)
  |false=>match decide (k=k')with
   |true=>q0y op k x y (g0E b)
   |false=>.bad
 |_,_=>match isEq op with
  |some pos=>eqV E T pos a b
  |none=>.bad
def unV {D:Nat->Type}(op:UnOp)(a:V D):QR D:=match op with
 |.not=>match a with
  |.kb b=>.ok (.kb (!b))
  |.d .bool x=>.ok (dB (!x))
  |_=>.bad
 |.neg=>match B5 a with
  |some (k,x)=>.ok (dI k (k.wrap (0-x)))
  |none=>.bad
 |.xor=>match B5 a with
  |some (k,x)=>.ok (dI k (i0T k (if k.signed then -1 else k.max) x))
  |none=>.bad
 |_=>.bad
def x0p {D:Nat->Type}(u:U)(x:List (Den D u)):Nat->Option ((u:U)×List (Den D u))
 |0=>some ⟨u,x⟩
 |_=>none
def G0s {D:Nat->Type}:(t:U)->Den D t->Option ((u:U)×List (Den D u))
 |.list u,x=>some ⟨u,x⟩
 |_,_=>none
def c0N {D:Nat->Type}(o:Option ((t:U)×Den D t)):Option ((u:U)×List (Den D u)):=match o with
 |some ⟨t,y⟩=>G0s t y
 |none=>none
def V2 (t:U)(x:Den E.D t)(f:Nat):Option ((u:U)×List (Den E.D u)):=match t,x with
 |.list u,x=>x0p u x f
 |.st i,x=>c0N (I5 (E.fs i) (E.un i x) f)
 |_,_=>none
def b0A (s:St E.D)(q:Nat)(i:Int)(f:Nat):Option ((t:U)×List (Den E.D t)):=match F0 s q with
 |.X0 _ _ t xs none=>V2 E t (E6 E t xs i) f
 |_=>none
def c0o (s:St E.D):V E.D->Option ((t:U)×List (Den E.D t))
 |.d (.list t) xs=>some ⟨t,xs⟩
 |.sl id=>match F0 s id with
  |.lst _ t xs=>some ⟨t,xs⟩
  |.fz t xs=>some ⟨t,xs⟩
  |.rof q i f=>b0A E s q i f
  |_=>none
 |_=>none
def g0Y (s:St E.D)(v:V E.D):Option ((t:U)×List (Den E.D t)):=match v with
 |.sl id=>match F0 s id with
  |.X0 _ _ t xs _=>some ⟨t,xs⟩
  |_=>c0o E s v
 |_=>c0o E s v
def m0C (s:St E.D)(T:Nat)(v:V E.D):QR E.D:=match E.P.underlying T with
 |some (.slice _)=>match v with
  |.nil=>.ok (.ki .i64 0)
  |v=>match g0Y E s v with
   |some ⟨_,xs⟩=>.ok (dI .i64 (xs.length:Int))
   |none=>.bad
 |some .string=>match v with
  |.d .str x=>.ok (dI .i64 (x.size:Int))
  |_=>.bad
 |some (.array n _)=>.ok (.ki .i64 n)
 |some (.map _ _)=>match v with
  |.mp id=>match F0 s id with
   |.map m=>.ok (dI .i64 (m.length:Int))
   |_=>.bad
  |_=>.bad
 |_=>.bad
def k0A (s:St E.D)(id:Nat):Option (List (V E.D)):=match F0 s id with
 |.box _ cs=>some cs
 |.fzb _ cs=>some cs
 |_=>none
def ofD {D:Nat->Type}:(t:U)->Den D t->V D
 |.ptr t,x=>.pd t x
 |t,x=>.d t x
def k0N (s:St E.D)(T:Nat)(p:V E.D):QR E.D:=match Y8 E T,H5 E T with
 |some ag,some n=>match p with
  |.pb id off []=>match k0A E s id with
   |some cs=>match a0i E off n cs with
    |some (_,m,_)=>match asV E ag m with
     |some (.d t x)=>.ok (ofD t x)
     |some v=>.ok v
     |none=>.bad
    |none=>.bad
   |none=>.bad
  |.pb id off (.inr i :: q)=>match k0A E s id with
   |some cs=>match G8 E 100000 off cs with
    |some (_,.d (.arr k t) x :: _)=>match d0w E (.arr k t) x (.inr i :: q)with
     |some ⟨u,y⟩=>match(L8 u==ag)&&(K2 E u==n)with|true=>.ok (ofD u y)|false=>.bad
     |none=>.bad
    |_=>.bad
   |none=>.bad
  |.pe id i z q=>match c0o E s (.sl id)with
   |some ⟨t,xs⟩=>match d0w E t (E6 E t xs i) q with
    |some ⟨u,y⟩=>match(L8 u==ag)&&(K2 E u==n)&&Nat.beq z (K2 E t)with|true=>.ok (ofD u y)|false=>.bad
    |none=>.bad
   |none=>.bad
  |.pd t x=>match(L8 t==ag)&&(K2 E t==n)with|true=>.ok (ofD t x)|false=>.bad
  |_=>.bad
 |_,_=>.bad
def v0i (T:Nat)(f:Nat):Option Nat:=match E.P.underlying T with
 |some (.struct l)=>match l[f]? with
  |some x=>match H5 E x.type with
   |some (_+1)=>some x.offset
   |_=>none
  |none=>none
 |_=>none
def m0O (s:St E.D)(T:Nat)(p:V E.D)(f:Nat):QR E.D:=match v0i E T f with
 |some o=>match p with
  |.pb id off []=>.ok (.pb id (off+o) [])
  |.pb id off q=>.ok (.pb id off (q++[.inl (f,o)]))
  |.pe id i z q=>match g0Y E s (.sl id)with
   |some ⟨t,_⟩=>match e0l E t q with
    |some (.st k)=>match Nat.beq (c0g E (E.fs k) f) o with|true=>.ok (.pe id i z (q++[.inl (f,o)]))|false=>.bad
    |_=>.bad
   |none=>.bad
  |.pd (.st k) x=>match Nat.beq (c0g E (E.fs k) f) o with
   |true=>match I5 (E.fs k) (E.un k x) f with
    |some ⟨u,y⟩=>.ok (.pd u y)
    |none=>.bad
   |false=>.bad
  |_=>.bad
 |none=>.bad
def m0e (T:Nat)(v:V E.D)(f:Nat):QR E.D:=match E.P.underlying T with
 |some (.struct l)=>match l[f]? with
  |some x=>match Y8 E x.type,H5 E x.type with
   |some ag,some n=>match V3 v with
    |false=>.bad
    |true=>match a0i E x.offset n (j6 v)with
     |some (_,m,_)=>match asV E ag m with
      |some (.d t y)=>.ok (ofD t y)
      |some u=>.ok u
      |none=>.bad
     |none=>.bad
   |_,_=>.bad
  |none=>.bad
 |_=>.bad
def b0d (e:Nat)(t:U):Bool:=match H5 E e with
 |some n=>Nat.beq n (K2 E t)
 |none=>false
def v0l {D:Nat->Type}(i:V D)(n:Nat):Bool:=match g0E i with
 |some m=>decide (0<=m)&&decide (m<n)
 |none=>false
def g0C {D:Nat->Type}(i:V D)(j:Int)(n:Nat)(v:V D):QR D:=match v0l i n with
 |true=>.ok v
 |false=>.chk (decide (0<=j)&&decide (j<n)) v
def o07 (s:St E.D)(T:Nat)(p i:V E.D):QR E.D:=match B5 i with
 |none=>.bad
 |some (_,j)=>match E.P.underlying T with
  |some (.slice e)=>match p with
   |.d (.list t) xs=>match b0d E e t with|true=>.chk (y0 xs j) (.pd t (E6 E t xs j))|false=>.bad
   |.sl id=>match F0 s id with
    |.lst _ t xs=>match b0d E e t with|true=>.chk (y0 xs j) (.pe id j (K2 E t) [])|false=>.bad
    |.fz t xs=>match b0d E e t with|true=>.chk (y0 xs j) (.pd t (E6 E t xs j))|false=>.bad
    |.X0 _ _ t xs _=>match b0d E e t with|true=>.chk (y0 xs j) (.pe id j (K2 E t) [])|false=>.bad
    |.rof q k f=>(match b0A E s q k f with
     |some ⟨t,xs⟩=>(match b0d E e t with|true=>.chk (y0 xs j) (.pe id j (K2 E t) [])|false=>.bad)
     |none=>.bad)
    |_=>.bad
   |_=>.bad
  |some (.array n e)=>match p with
   |.pb id off []=>match g0E i with
    |some m=>match H5 E e with
     |some z=>g0C i j n (.pb id (off+m.toNat*z) [])
     |none=>.bad
    |none=>(match H5 E e with|some z=>g0C i j n (.pb id off [.inr (j,z,n)])|none=>.bad)
   |.pe id k z q=>match g0Y E s (.sl id)with
    |some ⟨t,_⟩=>match e0l E t q with
     |some (.arr a u)=>match Nat.beq n a&&b0d E e u with|true=>g0C i j n (.pe id k z (q++[.inr (j,K2 E u,n)]))|false=>.bad
     |_=>.bad
    |none=>.bad
   |.pd (.arr a u) x=>match Nat.beq n a&&b0d E e u with|true=>g0C i j n (.pd u (E6 E u x j))|false=>.bad
   |_=>.bad
  |_=>.bad
def t0j:Option Value->Bool
 |some (.int .i64 0)=>true
 |_=>false
def l0B (T:Nat):Bool:=match E.P.underlying T with
 |some (.map kt et)=>match E.P.underlying kt,E.P.info? et with
  |some (.int .i64),some i=>t0j i.zero
  |_,_=>false
 |_=>false
def h0z {D:Nat->Type}(v:V D):Option Int:=match B5 v with
 |some (.i64,k)=>some k
 |_=>none
def q0f (s:St E.D)(T:Nat)(x i:V E.D)(ok:Bool):QR E.D:=match x with
 |.mp id=>match F0 s id,h0z i,l0B E T with
  |.map m,some k,true=>match ok with
   |true=>.ok (.tup [dI .i64 (U7 m k),dB (J7 m k)])
   |false=>.ok (dI .i64 (U7 m k))
  |_,_,_=>.bad
 |_=>.bad
def loI {D:Nat->Type}:Option (V D)->Option Int
 |none=>some 0
 |some v=>match B5 v with|some (_,x)=>some x|none=>none
def hiI {D:Nat->Type}(n:Int):Option (V D)->Option Int
 |none=>some n
 |some v=>match B5 v with|some (_,x)=>some x|none=>none
def n06 (s:St E.D):V E.D->Option ((t:U)×List (Den E.D t))
 |.d (.list t) xs=>some ⟨t,xs⟩
 |.sl id=>match F0 s id with
  |.fz t xs=>some ⟨t,xs⟩
  |_=>none
 |_=>none
def p0f (s:St E.D)(T:Nat)(x:V E.D)(lo hi mx:Option (V E.D))(full:Bool):QR E.D:=match n06 E s x,E.P.underlying T with
 |some ⟨t,xs⟩,some (.slice e)=>match b0d E e t,loI lo,hiI (xs.length:Int) hi with
  |true,some l,some h=>match mx with
   |none=>.chk (P3 xs l h) (.d (.list t) (G1 xs l h))
   |some m=>match B5 m,hi with
    |some (_,mm),some _=>match full with
     |true=>.chk (P3 xs l h&&(decide (h<=mm)&&decide (mm<=(xs.length:Int)))) (.df t (G1 xs l h))
     |false=>.chk (decide (h=mm)&&(P3 xs l h&&(decide (h<=mm)&&decide (mm<=(xs.length:Int))))) (.df t (G1 xs l h))
    |_,_=>.bad
  |_,_,_=>.bad
 |_,_=>.bad
def j0G (T:Nat)(ok:Bool)(v:V E.D):QR E.D:=match E.P.underlying T,ok with
 |some (.interface _),_=>.bad
 |some _,true=>(match zeroInfo T with
  |true=>match v with
   |.ifc t u=>match Nat.beq t T with|true=>.ok (.tup [u,.kb true])|false=>.ok (.tup [.undef,.kb false])
   |.nilif=>.ok (.tup [.undef,.kb false])
   |_=>.bad
  |false=>.bad)
 |_,_=>.bad
where
 zeroInfo (T:Nat):Bool:=match E.P.info? T with
  |some i=>i.zero.isSome
  |none=>false
def m0V:Option Operand->Option Operand->Bool
 |some (.tmp a),some (.tmp b)=>Nat.beq a b
 |_,_=>false
def n0j {D:Nat->Type}(c a b:V D):QR D:=match c with
 |.kb true=>.ok a
 |.kb false=>.ok b
 |c=>match G6 c with
  |some x=>match G6 a,G6 b with
   |some y,some z=>.ok (dB (if x then y else z))
   |_,_=>.bad
  |none=>.bad
def o0W {D:Nat->Type}:List (V D)->Nat->QR D
 |[],_=>.bad
 |v :: _,0=>.ok v
 |_ :: r,j+1=>o0W r j
def g03:List Field->Option (List (Nat×Nat))
 |[]=>some []
 |f :: r=>match H5 E f.type,g03 r with
  |some n,some l=>some ((f.offset,n) :: l)
  |_,_=>none
def d02 (pl:List (Nat×Nat)):List (Nat×V E.D)->List (V E.D)->Option (List (V E.D))
 |[],cs=>some cs
 |(i,v) :: r,cs=>match pl[i]? with
  |some (off,n)=>match Nat.beq (vsz E v) n&&c0O v with
   |true=>match a0i E off n cs with
    |some (a,_,c)=>d02 pl r (a++j6 v++c)
    |none=>none
   |false=>none
  |none=>none
def n08 (s:St E.D)(T:Nat)(parts:List (Nat×Operand)):QR E.D:=match E.P.info? T with
 |some i=>match i.zero with
  |some z=>match E.P.underlying T with
   |some (.struct fs)=>match g03 E fs.toList with
    |some pl=>match d02 E pl (parts.map fun p=>(p.1,N1 E s p.2)) (j6 (ofZ E z))with
     |some cs=>.ok (.agg cs)
     |none=>.bad
    |none=>.bad
   |some (.array n e)=>match H5 E e with
    |some m=>match d02 E ((List.range n).map fun j=>(j*m,m)) (parts.map fun p=>(p.1,N1 E s p.2)) (j6 (ofZ E z))with
     |some cs=>.ok (.agg cs)
     |none=>.bad
    |none=>.bad
   |_=>.bad
  |none=>.bad
 |none=>.bad
def v0E {D:Nat->Type}(a b:V D):QR D:=match B5 a,B5 b with
 |some (k,x),some (_,y)=>.ok (dI k (if y<x then y else x))
 |_,_=>.bad
def s0Z {D:Nat->Type}(a b:V D):QR D:=match B5 a,B5 b with
 |some (k,x),some (_,y)=>.ok (dI k (if y>x then y else x))
 |_,_=>.bad
def o0G (a:Nat)(b:Nat)(v:V E.D):QR E.D:=match E.P.underlying a,E.P.underlying b with
 |some _,some (.int k)=>match B5 v with
  |some (_,x)=>.ok (dI k (k.wrap x))
  |none=>.bad
 |_,_=>.bad
def n0i {D:Nat->Type}(v:V D):QR D:=match v with
 |.pb ..=>.ok v
 |.pe ..=>.ok v
 |.pd ..=>.ok v
 |.ifc ..=>.ok v
 |.fn ..=>.ok v
 |_=>.bad
def mkIf (T:Nat)(v:V E.D):QR E.D:=match E.P.underlying T with
 |some (.interface _)=>.bad
 |some _=>.ok (.ifc T v)
 |none=>.bad
def d05 {D:Nat->Type}(s:St D):V D->Bool
 |.pb id _ _=>Q1 (F0 s id)
 |.pe id _ _ _=>match F0 s id with
  |.rof ..=>true
  |x=>Q1 x
 |_=>false
def rdP {D:Nat->Type}(s:St D):V D->Option Nat
 |.pb id _ _=>match F0 s id with
  |.box ..=>some id
  |_=>none
 |.pe id _ _ _=>match F0 s id with
  |.lst ..=>some id
  |_=>none
 |_=>none
def l9 (s:St E.D)(o:Oper):Option Nat:=match o.op with
 |.load _ x=>rdP s (N1 E s x)
 |_=>none
def k9 (s:St E.D)(o:Oper):Bool:=match o.op with
 |.load _ x=>d05 s (N1 E s x)
 |.call c=>match c.args.toList with
  |[x]=>(match N1 E s x with|.mp _=>true|_=>false)
  |_=>false
 |.lookup _ x _ _=>(match N1 E s x with|.mp _=>true|_=>false)
 |_=>false
def n02 (s:St E.D)(op:BinOp)(T:Nat)(x y:V E.D)(a:Bool):Option (QR E.D):=match x,y with
 |.sl id,.nil=>match c0R E T,isEq op with
  |3,some pos=>match F0 s id with
   |.lst _ _ xs=>some (.chk (!xs.isEmpty) (i6 pos false))
   |.fz _ xs=>some (.chk (!xs.isEmpty) (i6 pos false))
   |_=>none
  |_,_=>none
 |.nilif,.nilif=>match c0R E T,isEq op,a with
  |4,some pos,true=>some (.ok (i6 pos true))
  |_,_,_=>none
 |_,_=>none
def w0P:Operand->Bool
 |.const _=>true
 |_=>false
def evQ (s:St E.D)(o:Oper):QR E.D:=match o.op with
 |.move x=>.ok (N1 E s x)
 |.assign x=>.ok (N1 E s x)
 |.pick c a b=>n0j (N1 E s c) (N1 E s a) (N1 E s b)
 |.nilCheck x=>n0i (N1 E s x)
 |.binOp op T x y _=>match n02 E s op T (N1 E s x) (N1 E s y) (w0P y)with
  |some r=>r
  |none=>p0S E op T (N1 E s x) (N1 E s y)
 |.unOp op _ x=>unV op (N1 E s x)
 |.convert a b x=>o0G E a b (N1 E s x)
 |.fieldAddr T x f=>m0O E s T (N1 E s x) f
 |.field T x f=>m0e E T (N1 E s x) f
 |.indexAddr T x i=>o07 E s T (N1 E s x) (N1 E s i)
 |.load T x=>k0N E s T (N1 E s x)
 |.extract x i=>match N1 E s x with|.tup l=>o0W l i|_=>.bad
 |.build T parts=>n08 E s T parts.toList
 |.makeFunc fn first caps=>match fn,first.toList with
  |.func f,[]=>.ok (.fn f (caps.toList.map (N1 E s)))
  |_,_=>.bad
 |.makeInterface T x=>mkIf E T (N1 E s x)
 |.typeAssert x _ T ok=>j0G E T ok (N1 E s x)
 |.lookup T x i ok=>q0f E s T (N1 E s x) (N1 E s i) ok
 |.slice T x lo hi mx=>p0f E s T (N1 E s x) (lo.map (N1 E s)) (hi.map (N1 E s)) (mx.map (N1 E s)) (m0V hi mx)
 |.call c=>match c.callee,c.args.toList with
  |.builtin .len,[x]=>match c.argTypes.toList with
   |T :: _=>m0C E s T (N1 E s x)
   |[]=>.bad
  |.builtin .min,[x,y]=>v0E (N1 E s x) (N1 E s y)
  |.builtin .max,[x,y]=>s0Z (N1 E s x) (N1 E s y)
  |_,_=>.bad
 |_=>.bad
end
