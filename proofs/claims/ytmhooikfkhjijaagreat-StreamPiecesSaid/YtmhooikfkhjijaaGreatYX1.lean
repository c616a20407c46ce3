/- P. Its conditions: none. -/
import Derived.Test.YtmhooikfkhjijaaGreatYG02
set_option linter.all false
namespace Go.X
open Go.V Go.RowKit
inductive U where
 |int (k:IntKind)|bool|str|list (t:U)|st (i:Nat)|arr (n:Nat) (t:U)|ptr (t:U)|opt (t:U)
 deriving DecidableEq
def Den (D:Nat->Type):U->Type
 |.int _=>Int
 |.bool=>Bool
 |.str=>ByteArray
 |.list t=>List (Den D t)
 |.st i=>D i
 |.arr _ t=>List (Den D t)
 |.ptr t=>Den D t
 |.opt t=>Option (Den D t)
def HL (D:Nat->Type):List U->Type
 |[]=>Unit
 |t :: ts=>Den D t×HL D ts
structure Env where
 P:Program
 D:Nat->Type
 inh:(i:Nat)->D i
 fs:Nat->List U
 un:(i:Nat)->D i->HL D (fs i)
 mkS:(i:Nat)->HL D (fs i)->D i
 ty:(i:Nat)->Ty (D i)
 uT:Nat->Option U
abbrev P6:=(Nat×Nat)⊕(Int×Nat×Nat)
inductive V (D:Nat->Type):Type where
 |undef|kb (b:Bool)|ki (k:IntKind) (n:Int)|d (t:U) (x:Den D t)|nil|nilp|nilif|nilfn
 |sl (id:Nat)|pb (id off:Nat) (p:List P6)|pe (id:Nat) (i:Int) (z:Nat) (p:List P6)|pd (t:U) (x:Den D t)|df (t:U) (xs:List (Den D t))|mp (id:Nat)
 |agg (vs:List (V D))|tup (vs:List (V D))|fn (f:Nat) (caps:List (V D))|ifc (T:Nat) (v:V D)
inductive Th (D:Nat->Type):Type where
 |gone|box (T:Nat) (cs:List (V D))|fzb (T:Nat) (cs:List (V D))|lst (e:Nat) (t:U) (xs:List (Den D t))|fz (t:U) (xs:List (Den D t))|map (m:List (Int×Int))
 |B1 (e:Nat) (F:List Nat) (t:U) (xs:List (Den D t)) (o:Option (Int×Nat))|rof (q:Nat) (i:Int) (f:Nat)
abbrev Fr (D:Nat->Type):=List (Nat×V D)
structure St (D:Nat->Type) where
 n:Nat
 fr:Fr D
 th:List (Nat×Th D)
 nid:Nat
 stk:List (Nat×Fr D)
def Q4 {α:Type}:List (Nat×α)->Nat->Option α
 |[],_=>none
 |(k,v) :: r,t=>match Nat.beq k t with|true=>some v|false=>Q4 r t
def E0 {D:Nat->Type}(s:St D)(id:Nat):Th D:=match Q4 s.th id with|some x=>x|none=>.gone
def P1 {D:Nat->Type}:Th D->Bool
 |.box .. | .lst .. | .map _|.B1 ..=>true
 |_=>false
def St.put {D:Nat->Type}(s:St D)(dst:Option Nat)(v:V D):St D:=match dst with
 |some t=>{ s with fr:=(t,v) :: s.fr }
 |none=>s
def St.at {D:Nat->Type}(s:St D)(id:Nat)(x:Th D):St D:={ s with th:=(id,x) :: s.th }
def St.new {D:Nat->Type}(s:St D)(x:Th D):St D:={ s with th:=(s.nid,x) :: s.th,nid:=s.nid+1 }
section
variable (E:Env)
def dfl:(t:U)->Den E.D t
 |.int _=>(default:Int)
 |.bool=>(default:Bool)
 |.str=>ByteArray.empty
 |.list _=>[]
 |.st i=>E.inh i
 |.arr n t=>List.replicate n (dfl t)
 |.ptr t=>dfl t
 |.opt _=>none
def U6 (t:U)(xs:List (Den E.D t))(i:Int):Den E.D t:=@gt _ ⟨dfl E t⟩ xs i
def q07:Ty ByteArray where
 sz:=1
 R:=fun _ _ cs x=>cs=[.string x]
 len:=by rintro _ _ _ _ rfl;rfl
 one:=by rintro _ _ _ _ rfl v a;simp at a;subst a;rfl
 L1:=fun _ h=>h
def l0B {α:Type}(n:Nat)(T:Ty α):Ty (List α) where
 sz:=n*T.sz
 R:=fun H S cs xs=>xs.length=n/\U1 T H S cs xs
 len:=by rintro _ _ _ _ ⟨rfl,h⟩;exact h.1
 one:=by rintro _ _ _ _ ⟨_,h⟩;exact h.f01
 L1:=fun k ⟨h1,h2⟩=>⟨h1,h2.L1 k⟩
def PtR {α:Type}(T:Ty α)(H:K0)(S:D0)(v:Value)(x:α):Prop:=
 ∃b o cs,v=.pointer (some ⟨b,o,none⟩)/\b<H.size/\¬S b/\T.R H S cs x/\∀j u,cs[j]?=some u->U2 H b (o+j)=some u
def PtR.L1 {α:Type}{T:Ty α}{H d:K0}{S e:D0}{v:Value}{x:α}(k:U0 H S d e):PtR T H S v x->PtR T d e v x:=by
 rintro⟨b,o,cs,rfl,a,c,g,f⟩
 exact⟨b,o,cs,rfl,Nat.lt_of_lt_of_le a k.size,(k.blk b a c).1,T.L1 k g,fun j u h=>by rw[f0O (k.blk b a c).2];exact f j u h⟩
def l08 {α:Type}(T:Ty α):Ty α where
 sz:=1
 R:=fun H S cs x=>∃v,cs=[v]/\PtR T H S v x
 len:=by rintro _ _ _ _ ⟨_,rfl,_⟩;rfl
 one:=by rintro _ _ _ _ ⟨_,rfl,⟨_,_,_,rfl,_⟩⟩ v hv;simp at hv;subst hv;rfl
 L1:=fun k ⟨v,h1,h2⟩=>⟨v,h1,h2.L1 k⟩
def i0O {α:Type}(T:Ty α)(H:K0)(S:D0)(v:Value):Option α->Prop
 |none=>v=.pointer none
 |some y=>PtR T H S v y
def v0M {α:Type}(T:Ty α):Ty (Option α) where
 sz:=1
 R:=fun H S cs x=>∃v,cs=[v]/\i0O T H S v x
 len:=by rintro _ _ _ _ ⟨_,rfl,_⟩;rfl
 one:=by
  rintro _ _ _ x ⟨v,rfl,h⟩ u hu
  simp at hu;subst hu;cases x with
  |none=>unfold i0O at h;subst h;rfl
  |some y=>obtain⟨_,_,_,rfl,_⟩:=h;rfl
 L1:=by
  rintro _ _ _ _ _ x k ⟨v,h1,h2⟩
  refine⟨v,h1,?_⟩;cases x with
  |none=>exact h2
  |some y=>exact PtR.L1 k h2
def G6:Ty Unit where
 sz:=0
 R:=fun _ _ cs _=>cs=[]
 len:=by rintro _ _ _ _ rfl;rfl
 one:=by rintro _ _ _ _ rfl v a;simp at a
 L1:=fun _ h=>h
def J1 {α β:Type}(T:Ty α)(a:Ty β):Ty (α×β) where
 sz:=T.sz+a.sz
 R:=fun H S cs x=>∃c1 c2,cs=c1++c2/\T.R H S c1 x.1/\a.R H S c2 x.2
 len:=by rintro _ _ _ _ ⟨c1,c2,rfl,h1,h2⟩;rw[List.length_append,T.len h1,a.len h2]
 one:=by
  rintro _ _ _ _ ⟨c1,c2,rfl,h1,h2⟩ v hv
  rcases List.mem_append.1 hv with h|h
  ·exact T.one h1 v h
  ·exact a.one h2 v h
 L1:=fun k ⟨c1,c2,h0,h1,h2⟩=>⟨c1,c2,h0,T.L1 k h1,a.L1 k h2⟩
def T6 {α β:Type}(f:α->β)(T:Ty β):Ty α where
 sz:=T.sz
 R:=fun H S cs x=>T.R H S cs (f x)
 len:=fun h=>T.len h
 one:=fun h=>T.one h
 L1:=fun k h=>T.L1 k h
def J0:(t:U)->Ty (Den E.D t)
 |.int k=>C2 k
 |.bool=>b0E
 |.str=>q07
 |.list t=>E3 (J0 t)
 |.st i=>E.ty i
 |.arr n t=>l0B n (J0 t)
 |.ptr t=>l08 (J0 t)
 |.opt t=>v0M (J0 t)
def X2 (t:U):Nat:=(J0 E t).sz
def Y8:U->Bool
 |.st _|.arr _ _=>true
 |_=>false
def sz1:V E.D->Nat
 |.d t _=>X2 E t
 |_=>1
def szs (l:List (V E.D)):Nat:=match l with
 |[]=>0
 |v :: r=>sz1 E v+szs r
def vsz:V E.D->Nat
 |.agg vs=>szs E vs
 |v=>sz1 E v
def C4 {D:Nat->Type}:V D->Bool
 |.agg _=>true
 |.d t _=>Y8 t
 |_=>false
def h0J {D:Nat->Type}:V D->Bool
 |.undef|.tup _|.agg _=>false
 |_=>true
def c0k {D:Nat->Type}:V D->Bool
 |.agg l=>l.all h0J
 |v=>h0J v
def g0w {D:Nat->Type}:(ts:List U)->HL D ts->List (V D)
 |[],_=>[]
 |t :: ts,h=>.d t h.1 :: g0w ts h.2
def elts (t:U)(xs:List (Den E.D t)):Nat->Nat->List (V E.D)
 |0,_=>[]
 |n+1,j=>.d t (U6 E t xs (j:Int)) :: elts t xs n (j+1)
def g0g:V E.D->Option (List (V E.D))
 |.d (.st i) x=>some (g0w (E.fs i) (E.un i x))
 |.d (.arr n t) x=>some (elts E t x n 0)
 |_=>none
def e0W {D:Nat->Type}:V D->Option (List (V D))
 |.agg vs=>some vs
 |_=>none
def H6 {D:Nat->Type}:V D->List (V D)
 |.agg vs=>vs
 |v=>[v]
def F8:Nat->Nat->List (V E.D)->Option (List (V E.D)×List (V E.D))
 |0,_,_=>none
 |k+1,off,cs=>match off with
  |0=>some ([],cs)
  |off'+1=>match cs with
   |[]=>none
   |v :: r=>match e0W v with
    |some l=>F8 k (off'+1) (l++r)
    |none=>match Nat.ble (sz1 E v) (off'+1)with
     |true=>match F8 k (off'+1-sz1 E v) r with
      |some (a,b)=>some (v :: a,b)
      |none=>none
     |false=>match g0g E v with
      |some l=>F8 k (off'+1) (l++r)
      |none=>none
def Q9 (off n:Nat)(cs:List (V E.D)):Option (List (V E.D)×List (V E.D)×List (V E.D)):=
 match F8 E 100000 off cs with
 |some (a,b)=>match F8 E 100000 n b with
  |some (m,c)=>some (a,m,c)
  |none=>none
 |none=>none
def asV (ag:Bool)(m:List (V E.D)):Option (V E.D):=match ag with
 |true=>match m with
  |[v]=>match C4 v with|true=>some v|false=>some (.agg [v])
  |l=>some (.agg l)
 |false=>match m with
  |[v]=>match C4 v with
   |false=>some v
   |true=>match g0g E v with
    |some [u]=>match C4 u with|false=>some u|true=>none
    |_=>none
  |_=>none
def p9 (T:Nat):Option Bool:=match E.P.underlying T with
 |some (.struct _)=>some true
 |some (.array _ _)=>some true
 |some _=>some false
 |none=>none
def R5 (T:Nat):Option Nat:=match E.P.info? T with
 |some i=>some i.size
 |none=>none
def k0i:List U->Nat->Option U
 |[],_=>none
 |t :: _,0=>some t
 |_ :: ts,j+1=>k0i ts j
def b0A:List U->Nat->Nat
 |[],_=>0
 |_ :: _,0=>0
 |t :: ts,j+1=>X2 E t+b0A ts j
def N5 {D:Nat->Type}:(ts:List U)->HL D ts->Nat->Option ((t:U)×Den D t)
 |[],_,_=>none
 |t :: _,h,0=>some ⟨t,h.1⟩
 |_ :: ts,h,j+1=>N5 ts h.2 j
def d0j (t:U)(x:Den E.D t):List P6->Option ((t:U)×Den E.D t)
 |[]=>some ⟨t,x⟩
 |.inl (j,o) :: p=>match t,x with
  |.st i,x=>match Nat.beq (b0A E (E.fs i) j) o with
   |true=>match N5 (E.fs i) (E.un i x) j with
    |some ⟨u,y⟩=>d0j u y p
    |none=>none
   |false=>none
  |_,_=>none
 |.inr (i,z,m) :: p=>match t,x with
  |.arr m' u,x=>match Nat.beq (X2 E u) z&&Nat.beq m' m with
   |true=>d0j u (U6 E u x i) p
   |false=>none
  |_,_=>none
def d0m {D:Nat->Type}(t u:U)(x:Den D t):Option (Den D u):=if h:t=u then some (h▸x)else none
def a0I {D:Nat->Type}:(ts:List U)->HL D ts->Nat->((t:U)->Den D t->Option (Den D t))->Option (HL D ts)
 |[],_,_,_=>none
 |t :: _,h,0,f=>match f t h.1 with
  |some y=>some (y,h.2)
  |none=>none
 |_ :: ts,h,j+1,f=>match a0I ts h.2 j f with
  |some a=>some (h.1,a)
  |none=>none
def c0f (u:U)(y:Den E.D u):List P6->(t:U)->Den E.D t->Option (Den E.D t)
 |[],t,_=>d0m u t y
 |.inl (j,o) :: p,t,x=>match t,x with
  |.st i,x=>match Nat.beq (b0A E (E.fs i) j) o with
   |true=>match a0I (E.fs i) (E.un i x) j (fun a x'=>c0f u y p a x')with
    |some h=>some (E.mkS i h)
    |none=>none
   |false=>none
  |_,_=>none
 |.inr (i,z,m) :: p,t,x=>match t,x with
  |.arr m' u',x=>match Nat.beq (X2 E u') z&&Nat.beq m' m with
   |true=>match c0f u y p u' (U6 E u' x i)with
    |some z=>some (x.set i.toNat z)
    |none=>none
   |false=>none
  |_,_=>none
def e0R:U->List P6->Option U
 |t,[]=>some t
 |.st i,.inl (j,_) :: p=>match k0i (E.fs i) j with
  |some u=>e0R u p
  |none=>none
 |.arr _ u,.inr _ :: p=>e0R u p
 |_,_=>none
def a8 {D:Nat->Type}:Value->V D
 |.bool b=>.kb b
 |.int k n=>.ki k n
 |.string s=>.d .str s
 |.pointer none=>.nilp
 |.slice none 0 0=>.nil
 |.nilIface=>.nilif
 |.nilFunc=>.nilfn
 |_=>.undef
def ofZ (z:Value):V E.D:=match z with
 |.agg cs=>.agg (cs.toList.map a8)
 |z=>a8 z
def T1 (s:St E.D):Operand->V E.D
 |.tmp t=>match Q4 s.fr t with|some v=>v|none=>.undef
 |.const v=>a8 v
 |.global _=>.undef
 |.func f=>.fn f []
def L5 {D:Nat->Type}:V D->Option (IntKind×Int)
 |.d (.int k) x=>some (k,x)
 |.ki k n=>some (k,n)
 |_=>none
def V6 {D:Nat->Type}:V D->Option Bool
 |.d .bool x=>some x
 |.kb b=>some b
 |_=>none
inductive QR (D:Nat->Type) where
 |bad|ok (v:V D)|chk (b:Bool) (v:V D)
def dI {D:Nat->Type}(k:IntKind)(x:Int):V D:=.d (.int k) x
def dB {D:Nat->Type}(x:Bool):V D:=.d .bool x
def f0p {D:Nat->Type}:V D->Option Int
 |.ki _ n=>some n
 |_=>none
def l00 {D:Nat->Type}(op:BinOp)(k:IntKind)(x y:Int)(a:Option Int):QR D:=match op with
 |.add=>.ok (dI k (k.wrap (x+y)))
 |.sub=>.ok (dI k (k.wrap (x-y)))
 |.mul=>.ok (dI k (k.wrap (x*y)))
 |.quo=>match a with
  |some n=>match decide (n=0)with|true=>.bad|false=>.ok (dI k (k.wrap (x.tdiv y)))
  |none=>.chk (!decide (y=0)) (dI k (k.wrap (x.tdiv y)))
 |.rem=>match a with
  |some n=>match decide (n=0)with|true=>.bad|false=>.ok (dI k (x.tmod y))
  |none=>.chk (!decide (y=0)) (dI k (x.tmod y))
 |.and=>.ok (dI k (C3 k x y))
 |.or=>.ok (dI k (bor k x y))
 |.xor=>.ok (dI k (i0u k x y))
 |.andNot=>.ok (dI k (q0O k x y))
 |.eql=>.ok (dB (x==y))
 |.neq=>.ok (dB (x != y))
 |.lss=>.ok (dB (decide (x<y)))
 |.leq=>.ok (dB (decide (x<=y)))
 |.gtr=>.ok (dB (decide (x>y)))
 |.geq=>.ok (dB (decide (x>=y)))
 |_=>.bad
def k0L {D:Nat->Type}(op:BinOp)(k:IntKind)(x y:Int)(a:Option Int):QR D:=
 let r:=match op with|.shl=>dI k (shl k x y)|_=>dI k (shr k x y)
 match a with
 |some n=>match decide (n<0)with|true=>.bad|false=>.ok r
 |none=>.chk (!decide (y<0)) r
def g0K:BinOp->Bool
 |.shl|.shr=>true
 |_=>false
def isEq:BinOp->Option Bool
 |.eql=>some true
 |.neq=>some false
 |_=>none
def sgn:Bool->Bool->Bool
 |true,r=>r
 |false,r=>!r
def eqR {D:Nat->Type}(pos:Bool)(r:Bool):V D:=dB (sgn pos r)
def Q6 {D:Nat->Type}(pos:Bool)(r:Bool):V D:=.kb (sgn pos r)
def c0t (T:Nat):Nat:=match E.P.underlying T with
 |some .bool=>1
 |some (.pointer _)=>2
 |some (.slice _)=>3
 |some (.interface _)=>4
 |_=>0
def eqP {D:Nat->Type}(pos:Bool):V D->V D->QR D
 |.nilp,.nilp=>.ok (Q6 pos true)
 |.nilp,.pb ..=>.ok (Q6 pos false)
 |.nilp,.pd ..=>.ok (Q6 pos false)
 |.pb ..,.nilp=>.ok (Q6 pos false)
 |.pd ..,.nilp=>.ok (Q6 pos false)
 |.d (.opt _) x,.nilp=>.ok (eqR pos x.isNone)
 |_,_=>.bad
def leaf:Nat->V E.D->V E.D
 |0,v=>v
 |k+1,v=>match g0g E v with
  |some [u]=>leaf k u
  |_=>v
def d0L (v:V E.D):Option (IntKind×Int):=L5 (leaf E 10 v)
def b0V (k:IntKind):List (V E.D)->List (V E.D)->Option Bool
 |[],[]=>some true
 |[a],[b]=>match d0L E a,d0L E b with
  |some (e,x),some (d,y)=>match decide (e=k)&&decide (d=k)with|true=>some (x==y)|false=>none
  |_,_=>none
 |a :: l,b :: r=>match d0L E a,d0L E b,b0V k l r with
  |some (e,x),some (d,y),some c=>match decide (e=k)&&decide (d=k)with|true=>some ((x==y)&&c)|false=>none
  |_,_,_=>none
 |_,_=>none
def f0e {α:Type}:List α->Option α
 |[v]=>some v
 |_=>none
def m0M:Option Bool->Bool->Bool
 |none,a=>a
 |some c,a=>a&&c
def w9:Nat->Nat->List (V E.D)->List (V E.D)->Option Bool
 |0,_,_,_=>none
 |d+1,T,xs,ys=>match E.P.underlying T with
  |some (.int _)=>match f0e xs,f0e ys with
   |some a,some b=>match d0L E a,d0L E b with
    |some (g,x),some (f,y)=>match decide (g=f)with|true=>some (x==y)|false=>none
    |_,_=>none
   |_,_=>none
  |some .bool=>match f0e xs,f0e ys with
   |some a,some b=>match V6 (leaf E 10 a),V6 (leaf E 10 b)with
    |some x,some y=>some (x==y)
    |_,_=>none
   |_,_=>none
  |some (.struct fs)=>match E.P.stoodInHeld T with
   |true=>none
   |false=>match eqFs (w9 d) fs.toList xs ys with
    |some (some c)=>some c
    |some none=>some true
    |none=>none
  |some (.array 4 e)=>match E.P.underlying e with
   |some (.int k)=>match R5 E e,cutA 100000 4 xs,cutA 100000 4 ys with
    |some 1,some l,some r=>b0V E k l r
    |_,_,_=>none
   |_=>none
  |_=>none
where
 cutA:Nat->Nat->List (V E.D)->Option (List (V E.D))
  |0,_,_=>none
  |_+1,0,l=>match l with | []=>some []|_=>none
  |k+1,n+1,l=>match F8 E 100000 1 l with
   |some ([v],r)=>match cutA k n r with
    |some q=>some (v :: q)
    |none=>none
   |_=>none
 eqFs (rec:Nat->List (V E.D)->List (V E.D)->Option Bool):List Field->List (V E.D)->List (V E.D)->Option (Option Bool)
  |[],_,_=>some none
  |f :: r,xs,ys=>match f.name== "_",R5 E f.type,eqAg f.type with
   |false,some n,true=>match Q9 E f.offset n xs,Q9 E f.offset n ys with
    |some (_,mx,_),some (_,my,_)=>match rec f.type mx my,eqFs rec r xs ys with
     |some a,some c=>some (some (m0M c a))
     |_,_=>none
    |_,_=>none
   |_,_,_=>none
 eqAg (T:Nat):Bool:=match p9 E T,R5 E T with
  |some true,some _=>true
  |some false,some 1=>true
  |_,_=>false
def q0B (T:Nat):Bool:=match p9 E T with
 |some b=>b
 |none=>false
def eqV (T:Nat)(pos:Bool)(a b:V E.D):QR E.D:=match c0t E T with
 |1=>match V6 a,V6 b with
  |some x,some y=>.ok (eqR pos (x==y))
  |_,_=>.bad
 |2=>eqP pos a b
 |3=>match a,b with
  |.nil,.nil=>.ok (Q6 pos true)
  |.d (.list _) xs,.nil=>.chk (!xs.isEmpty) (Q6 pos false)
  |_,_=>.bad
 |4=>match a,b with
  |.ifc ..,.nilif=>.ok (Q6 pos false)
  |_,_=>.bad
 |_=>match C4 a&&C4 b&&!(E.P.eqGuardType E.P.depth T)&&q0B E T with
  |true=>match w9 E 50 T (H6 a) (H6 b)with
   |some r=>.ok (eqR pos r)
   |none=>.bad
  |false=>.bad
def m0H (op:BinOp)(T:Nat)(a b:V E.D):QR E.D:=match L5 a,L5 b with
 |some (k,x),some (k',y)=>match g0K op with
  |true=>k0L op k x y (f0p b)
  |false=>match decide (k=k')with
   |true=>l00 op k x y (f0p b)
   |false=>.bad
 |_,_=>match isEq op with
  |some pos=>eqV E T pos a b
  |none=>.bad
def unV {D:Nat->Type}(op:UnOp)(a:V D):QR D:=match op with
 |.not=>match a with
  |.kb b=>.ok (.kb (!b))
  |.d .bool x=>.ok (dB (!x))
  |_=>.bad
 |.neg=>match L5 a with
  |some (k,x)=>.ok (dI k (k.wrap (0-x)))
  |none=>.bad
 |.xor=>match L5 a with
  |some (k,x)=>.ok (dI k (i0u k (if k.signed then -1 else k.max) x))
  |none=>.bad
 |_=>.bad
def x0M {D:Nat->Type}(u:U)(x:List (Den D u)):Nat->Option ((u:U)×List (Den D u))
 |0=>some ⟨u,x⟩
 |_=>none
def D0J {D:Nat->Type}:(t:U)->Den D t->Option ((u:U)×List (Den D u))
 |.list u,x=>some ⟨u,x⟩
 |_,_=>none
def c0v {D:Nat->Type}(o:Option ((t:U)×Den D t)):Option ((u:U)×List (Den D u)):=match o with
 |some ⟨t,y⟩=>D0J t y
 |none=>none
def V3 (t:U)(x:Den E.D t)(f:Nat):Option ((u:U)×List (Den E.D u)):=match t,x with
 |.list u,x=>x0M u x f
 |.st i,x=>c0v (N5 (E.fs i) (E.un i x) f)
 |_,_=>none
def a09 (s:St E.D)(q:Nat)(i:Int)(f:Nat):Option ((t:U)×List (Den E.D t)):=match E0 s q with
 |.B1 _ _ t xs none=>V3 E t (U6 E t xs i) f
 |_=>none
def b0I (s:St E.D):V E.D->Option ((t:U)×List (Den E.D t))
 |.d (.list t) xs=>some ⟨t,xs⟩
 |.sl id=>match E0 s id with
  |.lst _ t xs=>some ⟨t,xs⟩
  |.fz t xs=>some ⟨t,xs⟩
  |.rof q i f=>a09 E s q i f
  |_=>none
 |_=>none
def g0W (s:St E.D)(v:V E.D):Option ((t:U)×List (Den E.D t)):=match v with
 |.sl id=>match E0 s id with
  |.B1 _ _ t xs _=>some ⟨t,xs⟩
  |_=>b0I E s v
 |_=>b0I E s v
def n0b (s:St E.D)(T:Nat)(v:V E.D):QR E.D:=match E.P.underlying T with
 |some (.slice _)=>match v with
  |.nil=>.ok (.ki .i64 0)
  |v=>match g0W E s v with
   |some ⟨_,xs⟩=>.ok (dI .i64 (xs.length:Int))
   |none=>.bad
 |some .string=>match v with
  |.d .str x=>.ok (dI .i64 (x.size:Int))
  |_=>.bad
 |some (.array n _)=>.ok (.ki .i64 n)
 |some (.map _ _)=>match v with
  |.mp id=>match E0 s id with
   |.map m=>.ok (dI .i64 (m.length:Int))
   |_=>.bad
  |_=>.bad
 |_=>.bad
def j0F (s:St E.D)(id:Nat):Option (List (V E.D)):=match E0 s id with
 |.box _ cs=>some cs
 |.fzb _ cs=>some cs
 |_=>none
def ofD {D:Nat->Type}:(t:U)->Den D t->V D
 |.ptr t,x=>.pd t x
 |t,x=>.d t x
def j0Z (s:St E.D)(T:Nat)(p:V E.D):QR E.D:=match p9 E T,R5 E T with
 |some ag,some n=>match p with
  |.pb id off []=>match j0F E s id with
   |some cs=>match Q9 E off n cs with
    |some (_,m,_)=>match asV E ag m with
     |some (.d t x)=>.ok (ofD t x)
     |some v=>.ok v
     |none=>.bad
    |none=>.bad
   |none=>.bad
  |.pb id off (.inr i :: q)=>match j0F E s id with
   |some cs=>match F8 E 100000 off cs with
    |some (_,.d (.arr k t) x :: _)=>match d0j E (.arr k t) x (.inr i :: q)with
     |some ⟨u,y⟩=>match(Y8 u==ag)&&(X2 E u==n)with|true=>.ok (ofD u y)|false=>.bad
     |none=>.bad
    |_=>.bad
   |none=>.bad
  |.pe id i z q=>match b0I E s (.sl id)with
   |some ⟨t,xs⟩=>match d0j E t (U6 E t xs i) q with
    |some ⟨u,y⟩=>match(Y8 u==ag)&&(X2 E u==n)&&Nat.beq z (X2 E t)with|true=>.ok (ofD u y)|false=>.bad
    |none=>.bad
   |none=>.bad
  |.pd t x=>match(Y8 t==ag)&&(X2 E t==n)with|true=>.ok (ofD t x)|false=>.bad
  |_=>.bad
 |_,_=>.bad
def q0n (T:Nat)(f:Nat):Option Nat:=match E.P.underlying T with
 |some (.struct l)=>match l[f]? with
  |some x=>match R5 E x.type with
   |some (_+1)=>some x.offset
   |_=>none
  |none=>none
 |_=>none
def m0P (s:St E.D)(T:Nat)(p:V E.D)(f:Nat):QR E.D:=match q0n E T f with
 |some o=>match p with
  |.pb id off []=>.ok (.pb id (off+o) [])
  |.pb id off q=>.ok (.pb id off (q++[.inl (f,o)]))
  |.pe id i z q=>match g0W E s (.sl id)with
   |some ⟨t,_⟩=>match e0R E t q with
    |some (.st k)=>match Nat.beq (b0A E (E.fs k) f) o with|true=>.ok (.pe id i z (q++[.inl (f,o)]))|false=>.bad
    |_=>.bad
   |none=>.bad
  |.pd (.st k) x=>match Nat.beq (b0A E (E.fs k) f) o with
   |true=>match N5 (E.fs k) (E.un k x) f with
    |some ⟨u,y⟩=>.ok (.pd u y)
    |none=>.bad
   |false=>.bad
  |_=>.bad
 |none=>.bad
def n06 (T:Nat)(v:V E.D)(f:Nat):QR E.D:=match E.P.underlying T with
 |some (.struct l)=>match l[f]? with
  |some x=>match p9 E x.type,R5 E x.type with
   |some ag,some n=>match C4 v with
    |false=>.bad
    |true=>match Q9 E x.offset n (H6 v)with
     |some (_,m,_)=>match asV E ag m with
      |some (.d t y)=>.ok (ofD t y)
      |some u=>.ok u
      |none=>.bad
     |none=>.bad
   |_,_=>.bad
  |none=>.bad
 |_=>.bad
def a0N (e:Nat)(t:U):Bool:=match R5 E e with
 |some n=>Nat.beq n (X2 E t)
 |none=>false
def p04 {D:Nat->Type}(i:V D)(n:Nat):Bool:=match f0p i with
 |some m=>decide (0<=m)&&decide (m<n)
 |none=>false
def f0i {D:Nat->Type}(i:V D)(j:Int)(n:Nat)(v:V D):QR D:=match p04 i n with
 |true=>.ok v
 |false=>.chk (decide (0<=j)&&decide (j<n)) v
def m0G (s:St E.D)(T:Nat)(p i:V E.D):QR E.D:=match L5 i with
 |none=>.bad
 |some (_,j)=>match E.P.underlying T with
  |some (.slice e)=>match p with
   |.d (.list t) xs=>match a0N E e t with|true=>.chk (B0 xs j) (.pd t (U6 E t xs j))|false=>.bad
   |.sl id=>match E0 s id with
    |.lst _ t xs=>match a0N E e t with|true=>.chk (B0 xs j) (.pe id j (X2 E t) [])|false=>.bad
    |.fz t xs=>match a0N E e t with|true=>.chk (B0 xs j) (.pd t (U6 E t xs j))|false=>.bad
    |.B1 _ _ t xs _=>match a0N E e t with|true=>.chk (B0 xs j) (.pe id j (X2 E t) [])|false=>.bad
    |.rof q k f=>(match a09 E s q k f with
     |some ⟨t,xs⟩=>(match a0N E e t with|true=>.chk (B0 xs j) (.pe id j (X2 E t) [])|false=>.bad)
     |none=>.bad)
    |_=>.bad
   |_=>.bad
  |some (.array n e)=>match p with
   |.pb id off []=>match f0p i with
    |some m=>match R5 E e with
     |some z=>f0i i j n (.pb id (off+m.toNat*z) [])
     |none=>.bad
    |none=>(match R5 E e with|some z=>f0i i j n (.pb id off [.inr (j,z,n)])|none=>.bad)
   |.pe id k z q=>match g0W E s (.sl id)with
    |some ⟨t,_⟩=>match e0R E t q with
     |some (.arr a u)=>match Nat.beq n a&&a0N E e u with|true=>f0i i j n (.pe id k z (q++[.inr (j,X2 E u,n)]))|false=>.bad
     |_=>.bad
    |none=>.bad
   |.pd (.arr a u) x=>match Nat.beq n a&&a0N E e u with|true=>f0i i j n (.pd u (U6 E u x j))|false=>.bad
   |_=>.bad
  |_=>.bad
def loI {D:Nat->Type}:Option (V D)->Option Int
 |none=>some 0
 |some v=>match L5 v with|some (_,x)=>some x|none=>none
def hiI {D:Nat->Type}(n:Int):Option (V D)->Option Int
 |none=>some n
 |some v=>match L5 v with|some (_,x)=>some x|none=>none
def m0U (s:St E.D):V E.D->Option ((t:U)×List (Den E.D t))
 |.d (.list t) xs=>some ⟨t,xs⟩
 |.sl id=>match E0 s id with
  |.fz t xs=>some ⟨t,xs⟩
  |_=>none
 |_=>none
def m07 (s:St E.D)(T:Nat)(x:V E.D)(lo hi mx:Option (V E.D))(full:Bool):QR E.D:=match m0U E s x,E.P.underlying T with
 |some ⟨t,xs⟩,some (.slice e)=>match a0N E e t,loI lo,hiI (xs.length:Int) hi with
  |true,some l,some h=>match mx with
   |none=>.chk (I4 xs l h) (.d (.list t) (I1 xs l h))
   |some m=>match L5 m,hi with
    |some (_,mm),some _=>match full with
     |true=>.chk (I4 xs l h&&(decide (h<=mm)&&decide (mm<=(xs.length:Int)))) (.df t (I1 xs l h))
     |false=>.chk (decide (h=mm)&&(I4 xs l h&&(decide (h<=mm)&&decide (mm<=(xs.length:Int))))) (.df t (I1 xs l h))
    |_,_=>.bad
  |_,_,_=>.bad
 |_,_=>.bad
def i01 (T:Nat)(ok:Bool)(v:V E.D):QR E.D:=match E.P.underlying T,ok with
 |some (.interface _),_=>.bad
 |some _,true=>(match zeroInfo T with
  |true=>match v with
   |.ifc t u=>match Nat.beq t T with|true=>.ok (.tup [u,.kb true])|false=>.ok (.tup [.undef,.kb false])
   |.nilif=>.ok (.tup [.undef,.kb false])
   |_=>.bad
  |false=>.bad)
 |_,_=>.bad
where
 zeroInfo (T:Nat):Bool:=match E.P.info? T with
  |some i=>i.zero.isSome
  |none=>false
def l06:Option Operand->Option Operand->Bool
 |some (.tmp a),some (.tmp b)=>Nat.beq a b
 |_,_=>false
def k0V {D:Nat->Type}(c a b:V D):QR D:=match c with
 |.kb true=>.ok a
 |.kb false=>.ok b
 |c=>match V6 c with
  |some x=>match V6 a,V6 b with
   |some y,some z=>.ok (dB (if x then y else z))
   |_,_=>.bad
  |none=>.bad
def o08 {D:Nat->Type}:List (V D)->Nat->QR D
 |[],_=>.bad
 |v :: _,0=>.ok v
 |_ :: r,j+1=>o08 r j
def h0Q:List Field->Option (List (Nat×Nat))
 |[]=>some []
 |f :: r=>match R5 E f.type,h0Q r with
  |some n,some l=>some ((f.offset,n) :: l)
  |_,_=>none
def d0G (pl:List (Nat×Nat)):List (Nat×V E.D)->List (V E.D)->Option (List (V E.D))
 |[],cs=>some cs
 |(i,v) :: r,cs=>match pl[i]? with
  |some (off,n)=>match Nat.beq (vsz E v) n&&c0k v with
   |true=>match Q9 E off n cs with
    |some (a,_,c)=>d0G pl r (a++H6 v++c)
    |none=>none
   |false=>none
  |none=>none
def m0t (s:St E.D)(T:Nat)(parts:List (Nat×Operand)):QR E.D:=match E.P.info? T with
 |some i=>match i.zero with
  |some z=>match E.P.underlying T with
   |some (.struct fs)=>match h0Q E fs.toList with
    |some pl=>match d0G E pl (parts.map fun p=>(p.1,T1 E s p.2)) (H6 (ofZ E z))with
     |some cs=>.ok (.agg cs)
     |none=>.bad
    |none=>.bad
   |some (.array n e)=>match R5 E e with
    |some m=>match d0G E ((List.range n).map fun j=>(j*m,m)) (parts.map fun p=>(p.1,T1 E s p.2)) (H6 (ofZ E z))with
     |some cs=>.ok (.agg cs)
     |none=>.bad
    |none=>.bad
   |_=>.bad
  |none=>.bad
 |none=>.bad
def q0i {D:Nat->Type}(a b:V D):QR D:=match L5 a,L5 b with
 |some (k,x),some (_,y)=>.ok (dI k (if y<x then y else x))
 |_,_=>.bad
def q0o {D:Nat->Type}(a b:V D):QR D:=match L5 a,L5 b with
 |some (k,x),some (_,y)=>.ok (dI k (if y>x then y else x))
 |_,_=>.bad
def n0h (a:Nat)(b:Nat)(v:V E.D):QR E.D:=match E.P.underlying a,E.P.underlying b with
 |some _,some (.int k)=>match L5 v with
  |some (_,x)=>.ok (dI k (k.wrap x))
  |none=>.bad
 |_,_=>.bad
def l0K {D:Nat->Type}(v:V D):QR D:=match v with
 |.pb ..=>.ok v
 |.pe ..=>.ok v
 |.pd ..=>.ok v
 |.ifc ..=>.ok v
 |.fn ..=>.ok v
 |_=>.bad
def mkIf (T:Nat)(v:V E.D):QR E.D:=match E.P.underlying T with
 |some (.interface _)=>.bad
 |some _=>.ok (.ifc T v)
 |none=>.bad
def d0Z {D:Nat->Type}(s:St D):V D->Bool
 |.pb id _ _=>P1 (E0 s id)
 |.pe id _ _ _=>match E0 s id with
  |.rof ..=>true
  |x=>P1 x
 |_=>false
def rdP {D:Nat->Type}(s:St D):V D->Option Nat
 |.pb id _ _=>match E0 s id with
  |.box ..=>some id
  |_=>none
 |.pe id _ _ _=>match E0 s id with
  |.lst ..=>some id
  |_=>none
 |_=>none
def D9 (s:St E.D)(o:Oper):Option Nat:=match o.op with
 |.load _ x=>rdP s (T1 E s x)
 |_=>none
def A9 (s:St E.D)(o:Oper):Bool:=match o.op with
 |.load _ x=>d0Z s (T1 E s x)
 |.call c=>match c.args.toList with
  |[x]=>(match T1 E s x with|.mp _=>true|_=>false)
  |_=>false
 |.lookup _ x _ _=>(match T1 E s x with|.mp _=>true|_=>false)
 |_=>false
def n0V (s:St E.D)(op:BinOp)(T:Nat)(x y:V E.D)(a:Bool):Option (QR E.D):=match x,y with
 |.sl id,.nil=>match c0t E T,isEq op with
  |3,some pos=>match E0 s id with
   |.lst _ _ xs=>some (.chk (!xs.isEmpty) (Q6 pos false))
   |.fz _ xs=>some (.chk (!xs.isEmpty) (Q6 pos false))
   |_=>none
  |_,_=>none
 |.nilif,.nilif=>match c0t E T,isEq op,a with
  |4,some pos,true=>some (.ok (Q6 pos true))
  |_,_,_=>none
 |_,_=>none
def t0b:Operand->Bool
 |.const _=>true
 |_=>false
def evQ (s:St E.D)(o:Oper):QR E.D:=match o.op with
 |.move x=>.ok (T1 E s x)
 |.assign x=>.ok (T1 E s x)
 |.pick c a b=>k0V (T1 E s c) (T1 E s a) (T1 E s b)
 |.nilCheck x=>l0K (T1 E s x)
 |.binOp op T x y _=>match n0V E s op T (T1 E s x) (T1 E s y) (t0b y)with
  |some r=>r
  |none=>m0H E op T (T1 E s x) (T1 E s y)
 |.unOp op _ x=>unV op (T1 E s x)
 |.convert a b x=>n0h E a b (T1 E s x)
 |.fieldAddr T x f=>m0P E s T (T1 E s x) f
 |.field T x f=>n06 E T (T1 E s x) f
 |.indexAddr T x i=>m0G E s T (T1 E s x) (T1 E s i)
 |.load T x=>j0Z E s T (T1 E s x)
 |.extract x i=>match T1 E s x with|.tup l=>o08 l i|_=>.bad
 |.build T parts=>m0t E s T parts.toList
 |.makeFunc fn first caps=>match fn,first.toList with
  |.func f,[]=>.ok (.fn f (caps.toList.map (T1 E s)))
  |_,_=>.bad
 |.makeInterface T x=>mkIf E T (T1 E s x)
 |.typeAssert x _ T ok=>i01 E T ok (T1 E s x)
 |.slice T x lo hi mx=>m07 E s T (T1 E s x) (lo.map (T1 E s)) (hi.map (T1 E s)) (mx.map (T1 E s)) (l06 hi mx)
 |.call c=>match c.callee,c.args.toList with
  |.builtin .len,[x]=>match c.argTypes.toList with
   |T :: _=>n0b E s T (T1 E s x)
   |[]=>.bad
  |.builtin .min,[x,y]=>q0i (T1 E s x) (T1 E s y)
  |.builtin .max,[x,y]=>q0o (T1 E s x) (T1 E s y)
  |_,_=>.bad
 |_=>.bad
end
