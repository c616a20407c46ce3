/- P. Its conditions: none. -/
import Derived.Test.YtbccffnofdnpoaaGreatAVMap
set_option linter.all false
namespace Go.X
open Go.V Go.RowKit
inductive U where
 |int (k:IntKind)|bool|str|list (t:U)|st (i:Nat)|arr (n:Nat) (t:U)|ptr (t:U)|opt (t:U)
 deriving DecidableEq
def Den (D:Nat->Type):U->Type
 |.int _=>Int
 |.bool=>Bool
 |.str=>ByteArray
 |.list t=>List (Den D t)
 |.st i=>D i
 |.arr _ t=>List (Den D t)
 |.ptr t=>Den D t
 |.opt t=>Option (Den D t)
def HL (D:Nat->Type):List U->Type
 |[]=>Unit
 |t :: ts=>Den D t×HL D ts
structure Env where
 P:Program
 D:Nat->Type
 inh:(i:Nat)->D i
 fs:Nat->List U
 un:(i:Nat)->D i->HL D (fs i)
 mkS:(i:Nat)->HL D (fs i)->D i
 ty:(i:Nat)->Ty (D i)
 uT:Nat->Option U
abbrev Y6:=(Nat×Nat)⊕(Int×Nat×Nat)
inductive V (D:Nat->Type):Type where
 |undef|kb (b:Bool)|ki (k:IntKind) (n:Int)|d (t:U) (x:Den D t)|nil|nilp|nilif|nilfn
 |sl (id:Nat)|pb (id off:Nat) (p:List Y6)|pe (id:Nat) (i:Int) (z:Nat) (p:List Y6)|pd (t:U) (x:Den D t)|df (t:U) (xs:List (Den D t))|mp (id:Nat)
 |agg (vs:List (V D))|tup (vs:List (V D))|fn (f:Nat) (caps:List (V D))|ifc (T:Nat) (v:V D)
inductive Th (D:Nat->Type):Type where
 |gone|box (T:Nat) (cs:List (V D))|fzb (T:Nat) (cs:List (V D))|lst (e:Nat) (t:U) (xs:List (Den D t))|fz (t:U) (xs:List (Den D t))|map (m:List (Int×Int))
 |G1 (e:Nat) (F:List Nat) (t:U) (xs:List (Den D t)) (o:Option (Int×Nat))|rof (q:Nat) (i:Int) (f:Nat)
abbrev Fr (D:Nat->Type):=List (Nat×V D)
structure St (D:Nat->Type) where
 n:Nat
 fr:Fr D
 th:List (Nat×Th D)
 nid:Nat
 stk:List (Nat×Fr D)
def C5 {α:Type}:List (Nat×α)->Nat->Option α
 |[],_=>none
 |(k,v) :: r,t=>match Nat.beq k t with|true=>some v|false=>C5 r t
def G0 {D:Nat->Type}(s:St D)(id:Nat):Th D:=match C5 s.th id with|some x=>x|none=>.gone
def E2 {D:Nat->Type}:Th D->Bool
 |.box .. | .lst .. | .map _|.G1 ..=>true
 |_=>false
def St.put {D:Nat->Type}(s:St D)(dst:Option Nat)(v:V D):St D:=match dst with
 |some t=>{ s with fr:=(t,v) :: s.fr }
 |none=>s
def St.at {D:Nat->Type}(s:St D)(id:Nat)(x:Th D):St D:={ s with th:=(id,x) :: s.th }
def St.new {D:Nat->Type}(s:St D)(x:Th D):St D:={ s with th:=(s.nid,x) :: s.th,nid:=s.nid+1 }
section
variable (E:Env)
def dfl:(t:U)->Den E.D t
 |.int _=>(default:Int)
 |.bool=>(default:Bool)
 |.str=>ByteArray.empty
 |.list _=>[]
 |.st i=>E.inh i
 |.arr n t=>List.replicate n (dfl t)
 |.ptr t=>dfl t
 |.opt _=>none
def r7 (t:U)(xs:List (Den E.D t))(i:Int):Den E.D t:=@gt _ ⟨dfl E t⟩ xs i
def A0n:Ty ByteArray where
 sz:=1
 R:=fun _ _ cs x=>cs=[.string x]
 len:=by simp
 one:=by rintro _ _ _ _ rfl v a;simp at a;subst a;rfl
 J1:=fun _ h=>h
def n0L {α:Type}(n:Nat)(T:Ty α):Ty (List α) where
 sz:=n*T.sz
 R:=fun H S cs xs=>xs.length=n/\V1 T H S cs xs
 len:=by rintro _ _ _ _ ⟨rfl,h⟩;exact h.1
 one:=by rintro _ _ _ _ ⟨_,h⟩;exact h.f0y
 J1:=fun k ⟨h1,h2⟩=>⟨h1,h2.J1 k⟩
def PtR {α:Type}(T:Ty α)(H:M0)(S:E0)(v:Value)(x:α):Prop:=
 ∃b o cs,v=.pointer (some ⟨b,o,none⟩)/\b<H.size/\¬S b/\T.R H S cs x/\∀j u,cs[j]?=some u->D2 H b (o+j)=some u
def PtR.J1 {α:Type}{T:Ty α}{H c:M0}{S d:E0}{v:Value}{x:α}(k:Y0 H S c d):PtR T H S v x->PtR T c d v x:=by
 rintro⟨b,o,cs,rfl,a,hs,e,f⟩
 exact⟨b,o,cs,rfl,Nat.lt_of_lt_of_le a k.size,(k.blk b a hs).1,T.J1 k e,fun j u g=>by rw[f07 (k.blk b a hs).2];simp_all⟩
def i0g {α:Type}(T:Ty α):Ty α where
 sz:=1
 R:=fun H S cs x=>∃v,cs=[v]/\PtR T H S v x
 len:=by simp_all
 one:=by rintro _ _ _ _ ⟨_,rfl,⟨_,_,_,rfl,_⟩⟩ v hv;simp at hv;subst hv;rfl
 J1:=fun k ⟨v,h1,h2⟩=>⟨v,h1,h2.J1 k⟩
def z04 {α:Type}(T:Ty α)(H:M0)(S:E0)(v:Value):Option α->Prop
 |none=>v=.pointer none
 |some y=>PtR T H S v y
def N0x {α:Type}(T:Ty α):Ty (Option α) where
 sz:=1
 R:=fun H S cs x=>∃v,cs=[v]/\z04 T H S v x
 len:=by simp_all
 one:=by
  rintro _ _ _ x ⟨v,rfl,h⟩ u hu
  simp at hu;subst hu;cases x with
  |none=>subst h;rfl
  |some y=>obtain⟨_,_,_,rfl,_⟩:=h;rfl
 J1:=by
  rintro _ _ _ _ _ x k ⟨v,h1,h2⟩
  refine⟨v,h1,?_⟩;cases x with
  |none=>exact h2
  |some y=>exact PtR.J1 k h2
def G5:Ty Unit where
 sz:=0
 R:=fun _ _ cs _=>cs=[]
 len:=V'
 one:=by simp
 J1:=fun _ h=>h
def O1 {α β:Type}(T:Ty α)(a:Ty β):Ty (α×β) where
 sz:=T.sz+a.sz
 R:=fun H S cs x=>∃c1 c2,cs=c1++c2/\T.R H S c1 x.1/\a.R H S c2 x.2
 len:=by rintro _ _ _ _ ⟨c1,c2,rfl,h1,h2⟩;rw[List.length_append,T.len h1,a.len h2]
 one:=by
  rintro _ _ _ _ ⟨c1,c2,rfl,h1,h2⟩ v hv
  rcases List.mem_append.1 hv with h|h
  ·exact T.one h1 v h
  ·exact a.one h2 v h
 J1:=fun k ⟨c1,c2,h0,h1,h2⟩=>⟨c1,c2,h0,T.J1 k h1,a.J1 k h2⟩
def O5 {α β:Type}(f:α->β)(T:Ty β):Ty α where
 sz:=T.sz
 R:=fun H S cs x=>T.R H S cs (f x)
 len:=fun h=>T.len h
 one:=fun h=>T.one h
 J1:=fun k h=>T.J1 k h
def L0:(t:U)->Ty (Den E.D t)
 |.int k=>Z1 k
 |.bool=>b0h
 |.str=>A0n
 |.list t=>I3 (L0 t)
 |.st i=>E.ty i
 |.arr n t=>n0L n (L0 t)
 |.ptr t=>i0g (L0 t)
 |.opt t=>N0x (L0 t)
def K3 (t:U):Nat:=(L0 E t).sz
def c9:U->Bool
 |.st _|.arr _ _=>true
 |_=>false
def sz1:V E.D->Nat
 |.d t _=>K3 E t
 |_=>1
def szs (l:List (V E.D)):Nat:=match l with
 |[]=>0
 |v :: r=>sz1 E v+szs r
def vsz:V E.D->Nat
 |.agg vs=>szs E vs
 |v=>sz1 E v
def T4 {D:Nat->Type}:V D->Bool
 |.agg _=>true
 |.d t _=>c9 t
 |_=>false
def i0y {D:Nat->Type}:V D->Bool
 |.undef|.tup _|.agg _=>false
 |_=>true
def c05 {D:Nat->Type}:V D->Bool
 |.agg l=>l.all i0y
 |v=>i0y v
def o0r {D:Nat->Type}:(ts:List U)->HL D ts->List (V D)
 |[],_=>[]
 |t :: ts,h=>.d t h.1 :: o0r ts h.2
def elts (t:U)(xs:List (Den E.D t)):Nat->Nat->List (V E.D)
 |0,_=>[]
 |n+1,j=>.d t (r7 E t xs (j:Int)) :: elts t xs n (j+1)
def i04:V E.D->Option (List (V E.D))
 |.d (.st i) x=>some (o0r (E.fs i) (E.un i x))
 |.d (.arr n t) x=>some (elts E t x n 0)
 |_=>none
def f0K {D:Nat->Type}:V D->Option (List (V D))
 |.agg vs=>some vs
 |_=>none
def b7 {D:Nat->Type}:V D->List (V D)
 |.agg vs=>vs
 |v=>[v]
def w9:Nat->Nat->List (V E.D)->Option (List (V E.D)×List (V E.D))
 |0,_,_=>none
 |k+1,off,cs=>match off with
  |0=>some ([],cs)
  |off'+1=>match cs with
   |[]=>none
   |v :: r=>match f0K v with
    |some l=>w9 k (off'+1) (l++r)
    |none=>match Nat.ble (sz1 E v) (off'+1)with
     |true=>match w9 k (off'+1-sz1 E v) r with
      |some (a,b)=>some (v :: a,b)
      |none=>none
     |false=>match i04 E v with
      |some l=>w9 k (off'+1) (l++r)
      |none=>none
def a0K (off n:Nat)(cs:List (V E.D)):Option (List (V E.D)×List (V E.D)×List (V E.D)):=
 match w9 E 100000 off cs with
 |some (a,b)=>match w9 E 100000 n b with
  |some (m,c)=>some (a,m,c)
  |none=>none
 |none=>none
def asV (a:Bool)(m:List (V E.D)):Option (V E.D):=match a with
 |true=>match m with
  |[v]=>match T4 v with|true=>some v|false=>some (.agg [v])
  |l=>some (.agg l)
 |false=>match m with
  |[v]=>match T4 v with
   |false=>some v
   |true=>match i04 E v with
    |some [u]=>match T4 u with|false=>some u|true=>none
    |_=>none
  |_=>none
def P9 (T:Nat):Option Bool:=match E.P.underlying T with
 |some (.struct _)=>some true
 |some (.array _ _)=>some true
 |some _=>some false
 |none=>none
def D6 (T:Nat):Option Nat:=match E.P.info? T with
 |some i=>some i.size
 |none=>none
def n0p:List U->Nat->Option U
 |[],_=>none
 |t :: _,0=>some t
 |_ :: ts,j+1=>n0p ts j
def c0T:List U->Nat->Nat
 |[],_=>0
 |_ :: _,0=>0
 |t :: ts,j+1=>K3 E t+c0T ts j
def F6 {D:Nat->Type}:(ts:List U)->HL D ts->Nat->Option ((t:U)×Den D t)
 |[],_,_=>none
 |t :: _,h,0=>some ⟨t,h.1⟩
 |_ :: ts,h,j+1=>F6 ts h.2 j
def e0c (t:U)(x:Den E.D t):List Y6->Option ((t:U)×Den E.D t)
 |[]=>some ⟨t,x⟩
 |.inl (j,o) :: p=>match t,x with
  |.st i,x=>match Nat.beq (c0T E (E.fs i) j) o with
   |true=>match F6 (E.fs i) (E.un i x) j with
    |some ⟨u,y⟩=>e0c u y p
    |none=>none
   |false=>none
  |_,_=>none
 |.inr (i,z,m) :: p=>match t,x with
  |.arr m' u,x=>match Nat.beq (K3 E u) z&&Nat.beq m' m with
   |true=>e0c u (r7 E u x i) p
   |false=>none
  |_,_=>none
def e0t {D:Nat->Type}(t u:U)(x:Den D t):Option (Den D u):=if h:t=u then some (h▸x)else none
def b0A {D:Nat->Type}:(ts:List U)->HL D ts->Nat->((t:U)->Den D t->Option (Den D t))->Option (HL D ts)
 |[],_,_,_=>none
 |t :: _,h,0,f=>match f t h.1 with
  |some y=>some (y,h.2)
  |none=>none
 |_ :: ts,h,j+1,f=>match b0A ts h.2 j f with
  |some a=>some (h.1,a)
  |none=>none
def d0f (u:U)(y:Den E.D u):List Y6->(t:U)->Den E.D t->Option (Den E.D t)
 |[],t,_=>e0t u t y
 |.inl (j,o) :: p,t,x=>match t,x with
  |.st i,x=>match Nat.beq (c0T E (E.fs i) j) o with
   |true=>match b0A (E.fs i) (E.un i x) j (fun b a=>d0f u y p b a)with
    |some h=>some (E.mkS i h)
    |none=>none
   |false=>none
  |_,_=>none
 |.inr (i,z,m) :: p,t,x=>match t,x with
  |.arr m' u',x=>match Nat.beq (K3 E u') z&&Nat.beq m' m with
   |true=>match d0f u y p u' (r7 E u' x i)with
    |some z=>some (x.set i.toNat z)
    |none=>none
   |false=>none
  |_,_=>none
def f0i:U->List Y6->Option U
 |t,[]=>some t
 |.st i,.inl (j,_) :: p=>match n0p (E.fs i) j with
  |some u=>f0i u p
  |none=>none
 |.arr _ u,.inr _ :: p=>f0i u p
 |_,_=>none
def j8 {D:Nat->Type}:Value->V D
 |.bool b=>.kb b
 |.int k n=>.ki k n
 |.string s=>.d .str s
 |.pointer none=>.nilp
 |.slice none 0 0=>.nil
 |.nilIface=>.nilif
 |.nilFunc=>.nilfn
 |_=>.undef
def ofZ (z:Value):V E.D:=match z with
 |.agg cs=>.agg (cs.toList.map j8)
 |z=>j8 z
def T1 (s:St E.D):Operand->V E.D
 |.tmp t=>match C5 s.fr t with|some v=>v|none=>.undef
 |.const v=>j8 v
 |.global _=>.undef
 |.func f=>.fn f []
def o6 {D:Nat->Type}:V D->Option (IntKind×Int)
 |.d (.int k) x=>some (k,x)
 |.ki k n=>some (k,n)
 |_=>none
def M7 {D:Nat->Type}:V D->Option Bool
 |.d .bool x=>some x
 |.kb b=>some b
 |_=>none
inductive QR (D:Nat->Type) where
 |bad|ok (v:V D)|chk (b:Bool) (v:V D)
def dI {D:Nat->Type}(k:IntKind)(x:Int):V D:=.d (.int k) x
def dB {D:Nat->Type}(x:Bool):V D:=.d .bool x
def g0G {D:Nat->Type}:V D->Option Int
 |.ki _ n=>some n
 |_=>none
def p0q {D:Nat->Type}(op:BinOp)(k:IntKind)(x y:Int)(a:Option Int):QR D:=match op with
 |.add=>.ok (dI k (k.wrap (x+y)))
 |.sub=>.ok (dI k (k.wrap (x-y)))
 |.mul=>.ok (dI k (k.wrap (x*y)))
 |.quo=>match a with
  |some n=>match decide (n=0)with|true=>.bad|false=>.ok (dI k (k.wrap (x.tdiv y)))
  |none=>.chk (!decide (y=0)) (dI k (k.wrap (x.tdiv y)))
 |.rem=>match a with
  |some n=>match decide (n=0)with|true=>.bad|false=>.ok (dI k (x.tmod y))
  |none=>.chk (!decide (y=0)) (dI k (x.tmod y))
 |.and=>.ok (dI k (O3 k x y))
 |.or=>.ok (dI k (bor k x y))
 |.xor=>.ok (dI k (k0z k x y))
 |.andNot=>.ok (dI k (u0M k x y))
 |.eql=>.ok (dB (x==y))
 |.neq=>.ok (dB (x != y))
 |.lss=>.ok (dB (decide (x<y)))
 |.leq=>.ok (dB (decide (x<=y)))
 |.gtr=>.ok (dB (decide (x>y)))
 |.geq=>.ok (dB (decide (x>=y)))
 |_=>.bad
def p0B {D:Nat->Type}(op:BinOp)(k:IntKind)(x y:Int)(a:Option Int):QR D:=
 let r:=match op with|.shl=>dI k (shl k x y)|_=>dI k (shr k x y)
 match a with
 |some n=>match decide (n<0)with|true=>.bad|false=>.ok r
 |none=>.chk (!decide (y<0)) r
def h0I:BinOp->Bool
 |.shl|.shr=>true
 |_=>false
def isEq:BinOp->Option Bool
 |.eql=>some true
 |.neq=>some false
 |_=>none
def sgn:Bool->Bool->Bool
 |true,r=>r
 |false,r=>!r
def eqR {D:Nat->Type}(pos:Bool)(r:Bool):V D:=dB (sgn pos r)
def W6 {D:Nat->Type}(pos:Bool)(r:Bool):V D:=.kb (sgn pos r)
def d0K (T:Nat):Nat:=match E.P.underlying T with
 |some .bool=>1
 |some (.pointer _)=>2
 |some (.slice _)=>3
 |some (.interface _)=>4
 |_=>0
def eqP {D:Nat->Type}(pos:Bool):V D->V D->QR D
 |.nilp,.nilp=>.ok (W6 pos true)
 |.nilp,.pb ..=>.ok (W6 pos false)
 |.nilp,.pd ..=>.ok (W6 pos false)
 |.pb ..,.nilp=>.ok (W6 pos false)
 |.pd ..,.nilp=>.ok (W6 pos false)
 |.d (.opt _) x,.nilp=>.ok (eqR pos x.isNone)
 |_,_=>.bad
def leaf:Nat->V E.D->V E.D
 |0,v=>v
 |k+1,v=>match i04 E v with
  |some [u]=>leaf k u
  |_=>v
def f0N (v:V E.D):Option (IntKind×Int):=o6 (leaf E 10 v)
def d0r (k:IntKind):List (V E.D)->List (V E.D)->Option Bool
 |[],[]=>some true
 |[a],[b]=>match f0N E a,f0N E b with
  |some (d,x),some (k2,y)=>match decide (d=k)&&decide (k2=k)with|true=>some (x==y)|false=>none
  |_,_=>none
 |a :: l,b :: r=>match f0N E a,f0N E b,d0r k l r with
  |some (d,x),some (k2,y),some c=>match decide (d=k)&&decide (k2=k)with|true=>some ((x==y)&&c)|false=>none
  |_,_,_=>none
 |_,_=>none
def g0Z {α:Type}:List α->Option α
 |[v]=>some v
 |_=>none
def r0W:Option Bool->Bool->Bool
 |none,a=>a
 |some c,a=>a&&c
def eqT:Nat->Nat->List (V E.D)->List (V E.D)->Option Bool
 |0,_,_,_=>none
 |d+1,T,xs,ys=>match E.P.underlying T with
  |some (.int _)=>match g0Z xs,g0Z ys with
   |some a,some b=>match f0N E a,f0N E b with
    |some (f,x),some (k2,y)=>match decide (f=k2)with|true=>some (x==y)|false=>none
    |_,_=>none
   |_,_=>none
  |some .bool=>match g0Z xs,g0Z ys with
   |some a,some b=>match M7 (leaf E 10 a),M7 (leaf E 10 b)with
    |some x,some y=>some (x==y)
    |_,_=>none
   |_,_=>none
  |some (.struct fs)=>match E.P.stoodInHeld T with
   |true=>none
   |false=>match eqFs (eqT d) fs.toList xs ys with
    |some (some c)=>some c
    |some none=>some true
    |none=>none
  |some (.array 4 e)=>match E.P.underlying e with
   |some (.int k)=>match D6 E e,cutA 100000 4 xs,cutA 100000 4 ys with
    |some 1,some l,some r=>d0r E k l r
    |_,_,_=>none
   |_=>none
  |_=>none
where
 cutA:Nat->Nat->List (V E.D)->Option (List (V E.D))
  |0,_,_=>none
  |_+1,0,l=>match l with | []=>some []|_=>none
  |k+1,n+1,l=>match w9 E 100000 1 l with
   |some ([v],r)=>match cutA k n r with
    |some q=>some (v :: q)
    |none=>none
   |_=>none
 eqFs (rec:Nat->List (V E.D)->List (V E.D)->Option Bool):List Field->List (V E.D)->List (V E.D)->Option (Option Bool)
  |[],_,_=>some none
  |f :: r,xs,ys=>match f.name== "_",D6 E f.type,eqAg f.type with
   |false,some n,true=>match a0K E f.offset n xs,a0K E f.offset n ys with
    |some (_,mx,_),some (_,my,_)=>match rec f.type mx my,eqFs rec r xs ys with
     |some a,some c=>some (some (r0W c a))
     |_,_=>none
    |_,_=>none
   |_,_,_=>none
 eqAg (T:Nat):Bool:=match P9 E T,D6 E T with
  |some true,some _=>true
  |some false,some 1=>true
  |_,_=>false
def z0n (T:Nat):Bool:=match P9 E T with
 |some b=>b
 |none=>false
def eqV (T:Nat)(pos:Bool)(a b:V E.D):QR E.D:=match d0K E T with
 |1=>match M7 a,M7 b with
  |some x,some y=>.ok (eqR pos (x==y))
  |_,_=>.bad
 |2=>eqP pos a b
 |3=>match a,b with
  |.nil,.nil=>.ok (W6 pos true)
  |.d (.list _) xs,.nil=>.chk (!xs.isEmpty) (W6 pos false)
  |_,_=>.bad
 |4=>match a,b with
  |.ifc ..,.nilif=>.ok (W6 pos false)
  |_,_=>.bad
 |_=>match T4 a&&T4 b&&!(E.P.eqGuardType E.P.depth T)&&z0n E T with
  |true=>match eqT E 50 T (b7 a) (b7 b)with
   |some r=>.ok (eqR pos r)
   |none=>.bad
  |false=>.bad
def s0H (op:BinOp)(T:Nat)(a b:V E.D):QR E.D:=match o6 a,o6 b with
 |some (k,x),some (k',y)=>match h0I op with
  |true=>p0B op k x y (g0G b)
  |false=>match decide (k=k')with
   |true=>p0q op k x y (g0G b)
   |false=>.bad
 |_,_=>match isEq op with
  |some pos=>eqV E T pos a b
  |none=>.bad
def unV {D:Nat->Type}(op:UnOp)(a:V D):QR D:=match op with
 |.not=>match a with
  |.kb b=>.ok (.kb (!b))
  |.d .bool x=>.ok (dB (!x))
  |_=>.bad
 |.neg=>match o6 a with
  |some (k,x)=>.ok (dI k (k.wrap (0-x)))
  |none=>.bad
 |.xor=>match o6 a with
  |some (k,x)=>.ok (dI k (k0z k (if k.signed then -1 else k.max) x))
  |none=>.bad
 |_=>.bad
def D00 {D:Nat->Type}(u:U)(x:List (Den D u)):Nat->Option ((u:U)×List (Den D u))
 |0=>some ⟨u,x⟩
 |_=>none
def F0Z {D:Nat->Type}:(t:U)->Den D t->Option ((u:U)×List (Den D u))
 |.list u,x=>some ⟨u,x⟩
 |_,_=>none
def d0x {D:Nat->Type}(o:Option ((t:U)×Den D t)):Option ((u:U)×List (Den D u)):=match o with
 |some ⟨t,y⟩=>F0Z t y
 |none=>none
def L3 (t:U)(x:Den E.D t)(f:Nat):Option ((u:U)×List (Den E.D u)):=match t,x with
 |.list u,x=>D00 u x f
 |.st i,x=>d0x (F6 (E.fs i) (E.un i x) f)
 |_,_=>none
def b03 (s:St E.D)(q:Nat)(i:Int)(f:Nat):Option ((t:U)×List (Den E.D t)):=match G0 s q with
 |.G1 _ _ t xs none=>L3 E t (r7 E t xs i) f
 |_=>none
def c0o (s:St E.D):V E.D->Option ((t:U)×List (Den E.D t))
 |.d (.list t) xs=>some ⟨t,xs⟩
 |.sl id=>match G0 s id with
  |.lst _ t xs=>some ⟨t,xs⟩
  |.fz t xs=>some ⟨t,xs⟩
  |.rof q i f=>b03 E s q i f
  |_=>none
 |_=>none
def i0f (s:St E.D)(v:V E.D):Option ((t:U)×List (Den E.D t)):=match v with
 |.sl id=>match G0 s id with
  |.G1 _ _ t xs _=>some ⟨t,xs⟩
  |_=>c0o E s v
 |_=>c0o E s v
def q0K (s:St E.D)(T:Nat)(v:V E.D):QR E.D:=match E.P.underlying T with
 |some (.slice _)=>match v with
  |.nil=>.ok (.ki .i64 0)
  |v=>match i0f E s v with
   |some ⟨_,xs⟩=>.ok (dI .i64 (xs.length:Int))
   |none=>.bad
 |some .string=>match v with
  |.d .str x=>.ok (dI .i64 (x.size:Int))
  |_=>.bad
 |some (.array n _)=>.ok (.ki .i64 n)
 |some (.map _ _)=>match v with
  |.mp id=>match G0 s id with
   |.map m=>.ok (dI .i64 (m.length:Int))
   |_=>.bad
  |_=>.bad
 |_=>.bad
def m0b (s:St E.D)(id:Nat):Option (List (V E.D)):=match G0 s id with
 |.box _ cs=>some cs
 |.fzb _ cs=>some cs
 |_=>none
def ofD {D:Nat->Type}:(t:U)->Den D t->V D
 |.ptr t,x=>.pd t x
 |t,x=>.d t x
def h0T (s:St E.D)(T:Nat)(p:V E.D):QR E.D:=match P9 E T,D6 E T with
 |some ag,some n=>match p with
  |.pb id off []=>match m0b E s id with
   |some cs=>match a0K E off n cs with
    |some (_,m,_)=>match asV E ag m with
     |some (.d t x)=>.ok (ofD t x)
     |some v=>.ok v
     |none=>.bad
    |none=>.bad
   |none=>.bad
  |.pb id off (.inr i :: q)=>match m0b E s id with
   |some cs=>match w9 E 100000 off cs with
    |some (_,.d (.arr k t) x :: _)=>match e0c E (.arr k t) x (.inr i :: q)with
     |some ⟨u,y⟩=>match(c9 u==ag)&&(K3 E u==n)with|true=>.ok (ofD u y)|false=>.bad
     |none=>.bad
    |_=>.bad
   |none=>.bad
  |.pe id i z q=>match c0o E s (.sl id)with
   |some ⟨t,xs⟩=>match e0c E t (r7 E t xs i) q with
    |some ⟨u,y⟩=>match(c9 u==ag)&&(K3 E u==n)&&Nat.beq z (K3 E t)with|true=>.ok (ofD u y)|false=>.bad
    |none=>.bad
   |none=>.bad
  |.pd t x=>match(c9 t==ag)&&(K3 E t==n)with|true=>.ok (ofD t x)|false=>.bad
  |_=>.bad
 |_,_=>.bad
def y0F (T:Nat)(f:Nat):Option Nat:=match E.P.underlying T with
 |some (.struct l)=>match l[f]? with
  |some x=>match D6 E x.type with
   |some (_+1)=>some x.offset
   |_=>none
  |none=>none
 |_=>none
def k0m (s:St E.D)(T:Nat)(p:V E.D)(f:Nat):QR E.D:=match y0F E T f with
 |some o=>match p with
  |.pb id off []=>.ok (.pb id (off+o) [])
  |.pb id off q=>.ok (.pb id off (q++[.inl (f,o)]))
  |.pe id i z q=>match i0f E s (.sl id)with
   |some ⟨t,_⟩=>match f0i E t q with
    |some (.st k)=>match Nat.beq (c0T E (E.fs k) f) o with|true=>.ok (.pe id i z (q++[.inl (f,o)]))|false=>.bad
    |_=>.bad
   |none=>.bad
  |.pd (.st k) x=>match Nat.beq (c0T E (E.fs k) f) o with
   |true=>match F6 (E.fs k) (E.un k x) f with
    |some ⟨u,y⟩=>.ok (.pd u y)
    |none=>.bad
   |false=>.bad
  |_=>.bad
 |none=>.bad
def n0c (T:Nat)(v:V E.D)(f:Nat):QR E.D:=match E.P.underlying T with
 |some (.struct l)=>match l[f]? with
  |some x=>match P9 E x.type,D6 E x.type with
   |some ag,some n=>match T4 v with
    |false=>.bad
    |true=>match a0K E x.offset n (b7 v)with
     |some (_,m,_)=>match asV E ag m with
      |some (.d t y)=>.ok (ofD t y)
      |some u=>.ok u
      |none=>.bad
     |none=>.bad
   |_,_=>.bad
  |none=>.bad
 |_=>.bad
def a0x (e:Nat)(t:U):Bool:=match D6 E e with
 |some n=>Nat.beq n (K3 E t)
 |none=>false
def x0u {D:Nat->Type}(i:V D)(n:Nat):Bool:=match g0G i with
 |some m=>decide (0<=m)&&decide (m<n)
 |none=>false
def g0V {D:Nat->Type}(i:V D)(j:Int)(n:Nat)(v:V D):QR D:=match x0u i n with
 |true=>.ok v
 |false=>.chk (decide (0<=j)&&decide (j<n)) v
def q0r (s:St E.D)(T:Nat)(p i:V E.D):QR E.D:=match o6 i with
 |none=>.bad
 |some (_,j)=>match E.P.underlying T with
  |some (.slice e)=>match p with
   |.d (.list t) xs=>match a0x E e t with|true=>.chk (C0 xs j) (.pd t (r7 E t xs j))|false=>.bad
   |.sl id=>match G0 s id with
    |.lst _ t xs=>match a0x E e t with|true=>.chk (C0 xs j) (.pe id j (K3 E t) [])|false=>.bad
    |.fz t xs=>match a0x E e t with|true=>.chk (C0 xs j) (.pd t (r7 E t xs j))|false=>.bad
    |.G1 _ _ t xs _=>match a0x E e t with|true=>.chk (C0 xs j) (.pe id j (K3 E t) [])|false=>.bad
    |.rof q k f=>(match b03 E s q k f with
     |some ⟨t,xs⟩=>(match a0x E e t with|true=>.chk (C0 xs j) (.pe id j (K3 E t) [])|false=>.bad)
     |none=>.bad)
    |_=>.bad
   |_=>.bad
  |some (.array n e)=>match p with
   |.pb id off []=>match g0G i with
    |some m=>match D6 E e with
     |some z=>g0V i j n (.pb id (off+m.toNat*z) [])
     |none=>.bad
    |none=>(match D6 E e with|some z=>g0V i j n (.pb id off [.inr (j,z,n)])|none=>.bad)
   |.pe id k z q=>match i0f E s (.sl id)with
    |some ⟨t,_⟩=>match f0i E t q with
     |some (.arr a u)=>match Nat.beq n a&&a0x E e u with|true=>g0V i j n (.pe id k z (q++[.inr (j,K3 E u,n)]))|false=>.bad
     |_=>.bad
    |none=>.bad
   |.pd (.arr a u) x=>match Nat.beq n a&&a0x E e u with|true=>g0V i j n (.pd u (r7 E u x j))|false=>.bad
   |_=>.bad
  |_=>.bad
def w0H:Option Value->Bool
 |some (.int .i64 0)=>true
 |_=>false
def k0e (T:Nat):Bool:=match E.P.underlying T with
 |some (.map kt et)=>match E.P.underlying kt,E.P.info? et with
  |some (.int .i64),some i=>w0H i.zero
  |_,_=>false
 |_=>false
def f03 {D:Nat->Type}(v:V D):Option Int:=match o6 v with
 |some (.i64,k)=>some k
 |_=>none
def q04 (s:St E.D)(T:Nat)(x i:V E.D)(ok:Bool):QR E.D:=match x with
 |.mp id=>match G0 s id,f03 i,k0e E T with
  |.map m,some k,true=>match ok with
   |true=>.ok (.tup [dI .i64 (B3 m k),dB (T3 m k)])
   |false=>.ok (dI .i64 (B3 m k))
  |_,_,_=>.bad
 |_=>.bad
def loI {D:Nat->Type}:Option (V D)->Option Int
 |none=>some 0
 |some v=>match o6 v with|some (_,x)=>some x|none=>none
def hiI {D:Nat->Type}(n:Int):Option (V D)->Option Int
 |none=>some n
 |some v=>match o6 v with|some (_,x)=>some x|none=>none
def r0T (s:St E.D):V E.D->Option ((t:U)×List (Den E.D t))
 |.d (.list t) xs=>some ⟨t,xs⟩
 |.sl id=>match G0 s id with
  |.fz t xs=>some ⟨t,xs⟩
  |_=>none
 |_=>none
def s0Q (s:St E.D)(T:Nat)(x:V E.D)(lo hi mx:Option (V E.D))(full:Bool):QR E.D:=match r0T E s x,E.P.underlying T with
 |some ⟨t,xs⟩,some (.slice e)=>match a0x E e t,loI lo,hiI (xs.length:Int) hi with
  |true,some l,some h=>match mx with
   |none=>.chk (b5 xs l h) (.d (.list t) (U1 xs l h))
   |some m=>match o6 m,hi with
    |some (_,mm),some _=>match full with
     |true=>.chk (b5 xs l h&&(decide (h<=mm)&&decide (mm<=(xs.length:Int)))) (.df t (U1 xs l h))
     |false=>.chk (decide (h=mm)&&(b5 xs l h&&(decide (h<=mm)&&decide (mm<=(xs.length:Int))))) (.df t (U1 xs l h))
    |_,_=>.bad
  |_,_,_=>.bad
 |_,_=>.bad
def l0t (T:Nat)(ok:Bool)(v:V E.D):QR E.D:=match E.P.underlying T,ok with
 |some (.interface _),_=>.bad
 |some _,true=>(match zeroInfo T with
  |true=>match v with
   |.ifc t u=>match Nat.beq t T with|true=>.ok (.tup [u,.kb true])|false=>.ok (.tup [.undef,.kb false])
   |.nilif=>.ok (.tup [.undef,.kb false])
   |_=>.bad
  |false=>.bad)
 |_,_=>.bad
where
 zeroInfo (T:Nat):Bool:=match E.P.info? T with
  |some i=>i.zero.isSome
  |none=>false
def r05:Option Operand->Option Operand->Bool
 |some (.tmp a),some (.tmp b)=>Nat.beq a b
 |_,_=>false
def s0C {D:Nat->Type}(c a b:V D):QR D:=match c with
 |.kb true=>.ok a
 |.kb false=>.ok b
 |c=>match M7 c with
  |some x=>match M7 a,M7 b with
   |some y,some z=>.ok (dB (if x then y else z))
   |_,_=>.bad
  |none=>.bad
def p0o {D:Nat->Type}:List (V D)->Nat->QR D
 |[],_=>.bad
 |v :: _,0=>.ok v
 |_ :: r,j+1=>p0o r j
def j0I:List Field->Option (List (Nat×Nat))
 |[]=>some []
 |f :: r=>match D6 E f.type,j0I r with
  |some n,some l=>some ((f.offset,n) :: l)
  |_,_=>none
def f0c (pl:List (Nat×Nat)):List (Nat×V E.D)->List (V E.D)->Option (List (V E.D))
 |[],cs=>some cs
 |(i,v) :: r,cs=>match pl[i]? with
  |some (off,n)=>match Nat.beq (vsz E v) n&&c05 v with
   |true=>match a0K E off n cs with
    |some (a,_,c)=>f0c pl r (a++b7 v++c)
    |none=>none
   |false=>none
  |none=>none
def r0Y (s:St E.D)(T:Nat)(parts:List (Nat×Operand)):QR E.D:=match E.P.info? T with
 |some i=>match i.zero with
  |some z=>match E.P.underlying T with
   |some (.struct fs)=>match j0I E fs.toList with
    |some pl=>match f0c E pl (parts.map fun p=>(p.1,T1 E s p.2)) (b7 (ofZ E z))with
     |some cs=>.ok (.agg cs)
     |none=>.bad
    |none=>.bad
   |some (.array n e)=>match D6 E e with
    |some m=>match f0c E ((List.range n).map fun j=>(j*m,m)) (parts.map fun p=>(p.1,T1 E s p.2)) (b7 (ofZ E z))with
     |some cs=>.ok (.agg cs)
     |none=>.bad
    |none=>.bad
   |_=>.bad
  |none=>.bad
 |none=>.bad
def x0n {D:Nat->Type}(a b:V D):QR D:=match o6 a,o6 b with
 |some (k,x),some (_,y)=>.ok (dI k (if y<x then y else x))
 |_,_=>.bad
def x0c {D:Nat->Type}(a b:V D):QR D:=match o6 a,o6 b with
 |some (k,x),some (_,y)=>.ok (dI k (if y>x then y else x))
 |_,_=>.bad
def r0x (a:Nat)(b:Nat)(v:V E.D):QR E.D:=match E.P.underlying a,E.P.underlying b with
 |some _,some (.int k)=>match o6 v with
  |some (_,x)=>.ok (dI k (k.wrap x))
  |none=>.bad
 |_,_=>.bad
def t0c {D:Nat->Type}(v:V D):QR D:=match v with
 |.pb ..=>.ok v
 |.pe ..=>.ok v
 |.pd ..=>.ok v
 |.ifc ..=>.ok v
 |.fn ..=>.ok v
 |_=>.bad
def mkIf (T:Nat)(v:V E.D):QR E.D:=match E.P.underlying T with
 |some (.interface _)=>.bad
 |some _=>.ok (.ifc T v)
 |none=>.bad
def e0Q {D:Nat->Type}(s:St D):V D->Bool
 |.pb id _ _=>E2 (G0 s id)
 |.pe id _ _ _=>match G0 s id with
  |.rof ..=>true
  |x=>E2 x
 |_=>false
def rdP {D:Nat->Type}(s:St D):V D->Option Nat
 |.pb id _ _=>match G0 s id with
  |.box ..=>some id
  |_=>none
 |.pe id _ _ _=>match G0 s id with
  |.lst ..=>some id
  |_=>none
 |_=>none
def F9 (s:St E.D)(o:Oper):Option Nat:=match o.op with
 |.load _ x=>rdP s (T1 E s x)
 |_=>none
def D9 (s:St E.D)(o:Oper):Bool:=match o.op with
 |.load _ x=>e0Q s (T1 E s x)
 |.call c=>match c.args.toList with
  |[x]=>(match T1 E s x with|.mp _=>true|_=>false)
  |_=>false
 |.lookup _ x _ _=>(match T1 E s x with|.mp _=>true|_=>false)
 |_=>false
def r0t (s:St E.D)(op:BinOp)(T:Nat)(x y:V E.D)(a:Bool):Option (QR E.D):=match x,y with
 |.sl id,.nil=>match d0K E T,isEq op with
  |3,some pos=>match G0 s id with
   |.lst _ _ xs=>some (.chk (!xs.isEmpty) (W6 pos false))
   |.fz _ xs=>some (.chk (!xs.isEmpty) (W6 pos false))
   |_=>none
  |_,_=>none
 |.nilif,.nilif=>match d0K E T,isEq op,a with
  |4,some pos,true=>some (.ok (W6 pos true))
  |_,_,_=>none
 |_,_=>none
def w0N:Operand->Bool
 |.const _=>true
 |_=>false
def evQ (s:St E.D)(o:Oper):QR E.D:=match o.op with
 |.move x=>.ok (T1 E s x)
 |.assign x=>.ok (T1 E s x)
 |.pick c a b=>s0C (T1 E s c) (T1 E s a) (T1 E s b)
 |.nilCheck x=>t0c (T1 E s x)
 |.binOp op T x y _=>match r0t E s op T (T1 E s x) (T1 E s y) (w0N y)with
  |some r=>r
  |none=>s0H E op T (T1 E s x) (T1 E s y)
 |.unOp op _ x=>unV op (T1 E s x)
 |.convert a b x=>r0x E a b (T1 E s x)
 |.fieldAddr T x f=>k0m E s T (T1 E s x) f
 |.field T x f=>n0c E T (T1 E s x) f
 |.indexAddr T x i=>q0r E s T (T1 E s x) (T1 E s i)
 |.load T x=>h0T E s T (T1 E s x)
 |.extract x i=>match T1 E s x with|.tup l=>p0o l i|_=>.bad
 |.build T parts=>r0Y E s T parts.toList
 |.makeFunc fn first caps=>match fn,first.toList with
  |.func f,[]=>.ok (.fn f (caps.toList.map (T1 E s)))
  |_,_=>.bad
 |.makeInterface T x=>mkIf E T (T1 E s x)
 |.typeAssert x _ T ok=>l0t E T ok (T1 E s x)
 |.lookup T x i ok=>q04 E s T (T1 E s x) (T1 E s i) ok
 |.slice T x lo hi mx=>s0Q E s T (T1 E s x) (lo.map (T1 E s)) (hi.map (T1 E s)) (mx.map (T1 E s)) (r05 hi mx)
 |.call c=>match c.callee,c.args.toList with
  |.builtin .len,[x]=>match c.argTypes.toList with
   |T :: _=>q0K E s T (T1 E s x)
   |[]=>.bad
  |.builtin .min,[x,y]=>x0n (T1 E s x) (T1 E s y)
  |.builtin .max,[x,y]=>x0c (T1 E s x) (T1 E s y)
  |_,_=>.bad
 |_=>.bad
end
