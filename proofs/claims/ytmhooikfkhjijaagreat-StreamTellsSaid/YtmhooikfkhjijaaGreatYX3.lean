/- P. Its conditions: none. -/
import Derived.Test.YtmhooikfkhjijaaGreatYX2
set_option linter.all false
namespace Go.X
open Go.V Go.RowKit
section
variable (E:Env)
abbrev b7:={R:Type}->Nat->List (V E.D)->St E.D->(St E.D->V E.D->Option R)->Option R
inductive Gt where|bad|yes|no|ask (d:Nat) (b:Bool)
def D7 (s:St E.D)(ops:Array Oper)(o:Oper):Gt:=match o.guard with
 |none=>.yes
 |
  some (j,want)=>match ops[j]? with
  |
   some g=>match g.dst with
   |
    some d=>match J2 s.fr d with
    |some (.kb b)=>(match b==want with|true=>.yes|false=>.no)
    |some (.tup [])=>.no
    |
     some v=>match D4 v with
     |some b=>.ask d b
     |none=>.bad
    |none=>.bad
   |none=>.bad
  |none=>.bad
def I8 (n:Nat)(o:Oper):Bool:=match o.dst with
 |some d=>Nat.blt d n
 |none=>true
def d0y (g:Nat):Bool:=match E.P.funcs[g]? with
 |some fn=>fn.body.isSome&&!(fn.name== "runtime.NumGoroutine")
 |none=>false
def g0m (s:St E.D):ResultVar->Option (V E.D)
 |.tmp t=>some (J8 s t)
 |
  .cell q T=>match f0S E s T (J8 s q)with
  |.ok v=>some v
  |_=>none
def c07 (s:St E.D):List ResultVar->Option (List (V E.D))
 |[]=>some []
 |
  r :: l=>match g0m E s r,c07 s l with
  |some v,some vs=>some (v :: vs)
  |_,_=>none
def result (s:St E.D)(fn:Func):Option (V E.D):=match c07 E s fn.results.toList with
 |some [v]=>some v
 |some l=>some (.tup l)
 |none=>none
def C6 {D:Nat->Type}:List (V D)->Nat->Fr D
 |[],_=>[]
 |v :: r,k=>(k,v) :: C6 r (k+1)
def a0F (g:Nat):Option (Func×Code):=match E.P.funcs[g]? with
 |none=>none
 |
  some fn=>match fn.body with
  |none=>none
  |some body=>some (fn,body)
def b0g (ops:Array Oper):List Oper->St E.D->Option (St E.D)
 |[],s=>some s
 |
  o :: l,s=>match I8 s.n o with
  |false=>none
  |
   true=>match D7 E s ops o with
   |
    .yes=>(match evQ E s o with
    |.ok v=>b0g ops l (s.put o.dst v)
    |_=>none)
   |.no=>b0g ops l (s.put o.dst (.tup []))
   |_=>none
def Z5:Nat->Code->St E.D->Option (Ex×St E.D)
 |0,_,_=>none
 |
  f+1,c,s=>match c with
  |.skip=>some (.nrm,s)
  |
   .region _ ops draw=>match draw with
   |false=>(match b0g E ops ops.toList s with|some s'=>some (.nrm,s')|none=>none)
   |true=>none
  |
   .seq x y=>match Z5 f x s with
   |some (.nrm,s')=>Z5 f y s'
   |some (.ex i,s')=>some (.ex i,s')
   |some (.ret,s')=>some (.ret,s')
   |none=>none
  |
   .cond c x y=>match V0 E s c with
   |.kb true=>Z5 f x s
   |.kb false=>Z5 f y s
   |_=>none
  |
   .block id x=>match Z5 f x s with
   |some (e,s')=>(match e.eq (.ex id)with|true=>some (.nrm,s')|false=>some (e,s'))
   |none=>none
  |.exit id=>some (.ex id,s)
  |.ret=>some (.ret,s)
  |_=>none
def v0W:Ex->Bool
 |.ex _=>false
 |_=>true
def f0G (g:Nat)(args:List (V E.D))(s:St E.D):Option (V E.D):=match a0F E g with
 |
  some (fn,body)=>match Nat.ble args.length fn.ntmps,Z5 E 1000 body { s with n:=fn.ntmps,fr:=C6 args 0,stk:=(s.n,s.fr) :: s.stk } with
  |true,some (e,s')=>(match v0W e with|true=>result E s' fn|false=>none)
  |_,_=>none
 |none=>none
def f0f {R:Type}(C:X1 E)(inl:b7 E)(s:St E.D)(f:Nat)(args:List (V E.D))(k:K E R):Option R:=
 match G02 E s args C.sm f with
 |some c=>g0C E s c args k
 |
  none=>match f0G E f args s with
  |some v=>k s v
  |none=>inl f args s k
noncomputable def same {α:Type}(a b:Option α):Option α:=open Classical in if a=b then a else none
def l0G (s:St E.D)(o:Oper):Option (Bool×V E.D×V E.D):=match o.op with
 |
  .binOp op T x y _=>match V0 E s x,V0 E s y,X8 E T,isEq op with
  |.d (.list _) xs,.nil,3,some pos=>some (xs.isEmpty,V3 pos true,V3 pos false)
  |_,_,_,_=>none
 |_=>none
def i0k (tb:List Nat)(s:St E.D)(o:Oper):Option (Bool×V E.D×V E.D):=match e0Z tb o with
 |true=>l0G E s o
 |false=>none
abbrev Plc (D:Nat->Type):=V D⊕V D
def G03 (s:St E.D)(T:Nat):Plc E.D->Option (V E.D)
 |.inl v=>some v
 |.inr p=>match f0S E s T p with|.ok v=>some v|_=>none
def F0J (s:St E.D):List FieldStep->Nat->Plc E.D->Option (Nat×Plc E.D)
 |[],t,x=>some (t,x)
 |
  st :: rest,t,x=>match E.P.underlying st.struct with
  |
   some (.struct fs)=>match fs[st.index]? with
   |
    some f=>match st.deref,x with
    |
     true,x=>match G03 E s t x with
     |some v=>match i0M E s st.struct v st.index with|.ok p=>F0J s rest f.type (.inr p)|_=>none
     |none=>none
    |false,.inr p=>match i0M E s st.struct p st.index with|.ok q=>F0J s rest f.type (.inr q)|_=>none
    |
     false,.inl v=>match G2 v with
     |true=>match j07 E st.struct v st.index with|.ok u=>F0J s rest f.type (.inl u)|_=>none
     |false=>none
   |none=>none
  |_=>none
def K0b (T:Nat):Option Bool:=match E.P.underlying T with
 |some (.pointer _)=>some true
 |some _=>some false
 |none=>none
def K0e (s:St E.D)(T:Nat)(v:V E.D)(name:String):Option (Nat×V E.D):=match E.P.info? T with
 |
  some i=>match i.methods.find? (·.name==name)with
  |
   some m=>match F0J E s m.path.toList T (.inl v)with
   |
    some (xt,x)=>match m.func,K0b E xt,x with
    |some (f,true),some true,x=>match G03 E s xt x with|some u=>some (f,u)|none=>none
    |some (f,true),some false,.inr p=>some (f,p)
    |some (f,false),some false,x=>match G03 E s xt x with|some u=>some (f,u)|none=>none
    |_,_,_=>none
   |none=>none
  |none=>none
 |none=>none
noncomputable def opV {R:Type}(C:X1 E)(inl:b7 E)(s:St E.D)(o:Oper)(k:K E R):Option R:=
 match i0k E C.tb s o with
 |some (b,v1,v2)=>if b then same (k s v1) (k s v2)else k s v2
 |none=>match evQ E s o with
 |.ok v=>k s v
 |.chk b v=>if b then k s v else none
 |
  .bad=>match f0x E s o with
  |some (q,i,f)=>k (s.new (.rof q i f)) (.sl s.nid)
  |
   none=>match o.op with
   |
    .call c=>match c.callee with
    |.builtin _=>evE E C.tb s o k
    |
     .value f=>match V0 E s f with
     |
      .fn g caps=>match d0y E g with
      |true=>f0f E C inl s g (c.args.toList.map (V0 E s)++caps) k
      |false=>none
     |_=>none
    |
     .invoke recv name=>match V0 E s recv with
     |
      .ifc T v0=>match K0e E s T v0 name with
      |
       some (g,v)=>match d0y E g with
       |true=>f0f E C inl s g (v :: c.args.toList.map (V0 E s)) k
       |false=>none
      |none=>none
     |_=>none
   |_=>evE E C.tb s o k
def g0a (s:St E.D)(ops:Array Oper)(o:Oper):Bool:=match D7 E s ops o with
 |.no=>true
 |_=>false
def a1I (s:St E.D)(c:Cut):Cut:=⟨c.sl,c.th.filter fun p=>Nat.blt p.1 s.nid⟩
def g0W (s:St E.D)(ops:Array Oper)(i:Nat):List (Nat×Nat×Cut)->Option (Nat×Cut×List (Nat×Nat×Cut))
 |
  (a,b,c) :: r=>match Nat.blt a i with
  |true=>g0W s ops i r
  |
   false=>match Nat.beq a i with
   |
    true=>(match ops[i]? with
    |some o=>match g0a E s ops o with|true=>none|false=>some (b,a1I E s c,r)
    |none=>none)
   |false=>none
 |[]=>none
noncomputable def s8 (C:X1 E)(inl:b7 E)(ops:Array Oper):Nat->{R:Type}->List (Nat×Nat×Cut)->Nat->Nat->List Oper->St E.D->(St E.D->Option R)->Option R
 |0,_,_,_,_,_,_,_=>none
 |
  f+1,_,cs,i,stop,l,s,k=>match Nat.beq i stop with
  |true=>k s
  |
   false=>match g0W E s ops i cs with
   |
    some (b,c,r)=>match Nat.ble i b&&Nat.blt b stop with
    |false=>none
    |
     true=>Option.bind (s8 C inl ops f (r.filter fun p=>Nat.ble p.1 b) i (b+1) l s (fun s'=>H7 E s s' c)) fun d=>
     j9 E s c d fun s'=>s8 C inl ops f (r.filter fun p=>Nat.blt b p.1) (b+1) stop (l.drop (b+1-i)) s' k
   |
    none=>match l with
    |[]=>none
    |
     o :: l'=>match I8 s.n o with
     |false=>none
     |
      true=>match D7 E s ops o with
      |.bad=>none
      |.yes=>opV E C inl s o fun s' v=>s8 C inl ops f cs (i+1) stop l' (s'.put o.dst v) k
      |.no=>s8 C inl ops f cs (i+1) stop l' (s.put o.dst (.tup [])) k
      |.ask d b=>if b then s8 C inl ops f cs i stop l (s.put (some d) (.kb true)) k else s8 C inl ops f cs i stop l (s.put (some d) (.kb false)) k
def c0b (o:Oper):Bool:=match o.op with
 |.move _|.assign _|.pick .. | .nilCheck _|.binOp .. | .unOp .. | .convert .. | .fieldAddr .. | .field .. | .indexAddr .. | .load .. | .extract .. | .build .. | .makeFunc .. | .makeInterface .. | .lookup .. | .typeAssert ..=>true
 |
  .call c=>match c.callee with
  |.builtin .len|.builtin .min|.builtin .max=>true
  |_=>false
 |_=>false
def p9 (o:Oper):Bool:=match o.op with
 |.load ..=>true
 |.lookup ..=>true
 |.call _=>true
 |_=>false
def w0W (s:St E.D)(ops:Array Oper)(p0:Nat)(cs:List (Nat×Nat×Cut))(p:Nat):Bool:=cs.any fun c=>Nat.ble p0 c.1&&Nat.ble c.1 p&&Nat.ble p c.2.1&&!(Nat.beq c.1 p0&&(match ops[p0]? with|some o=>g0a E s ops o|none=>false))
def U2 (L:Array Bool)(p:Nat):Bool:=!L.getD p true
def b0c (L:Array Bool):Nat->Nat->Option Nat
 |0,_=>none
 |n+1,lo=>match U2 L lo with|true=>some lo|false=>b0c L n (lo+1)
def q9 (L:Array Bool):Nat->Nat->Array Bool
 |0,_=>L
 |n+1,lo=>q9 (L.setIfInBounds lo true) n (lo+1)
def l0b (L:Array Bool):Nat->Nat->Bool
 |0,_=>true
 |n+1,lo=>U2 L lo&&l0b L n (lo+1)
def p0J (s:St E.D)(ops:Array Oper)(p0:Nat)(cs:List (Nat×Nat×Cut))(L:Array Bool)(lo hi:Nat):Option Nat:=
 (Region.ready .any ops L).find? fun p=>Nat.ble lo p&&Nat.blt p hi&&!w0W E s ops p0 cs p&&(match ops[p]? with|some o=>c0b o||g0a E s ops o|none=>false)
def S8 (ops:Array Oper):Nat->Nat->List Nat
 |0,_=>[]
 |
  n+1,lo=>match ops[lo]? with
  |some o=>match p9 o with|true=>lo :: S8 ops n (lo+1)|false=>S8 ops n (lo+1)
  |none=>[]
def g0h (ops:Array Oper)(n lo:Nat):List (Nat×Option Nat):=(S8 ops n lo).map fun i=>(i,none)
def E8 (C:X1 E)(s:St E.D)(o:Oper):Bool:=match o.op with
 |
  .call c=>match c.callee with
  |.builtin _=>true
  |
   .value f=>match V0 E s f with
   |.fn g caps=>(G02 E s (c.args.toList.map (V0 E s)++caps) C.sm g).isSome||(f0G E g (c.args.toList.map (V0 E s)++caps) s).isSome
   |_=>false
  |_=>false
 |_=>true
def k0u {D:Nat->Type}(s s1:St D):Bool:=(s1.th.take (s1.th.length-s.th.length)).any fun p=>Nat.blt p.1 s.nid
def F4 {D:Nat->Type}(s s1:St D)(q:Nat):Bool:=(s1.th.take (s1.th.length-s.th.length)).any fun p=>Nat.beq p.1 q
def f0U {D:Nat->Type}(ops:Array Oper)(plain:Bool)(s s1:St D)(p:Nat)(o:Nat×Option Nat):Bool:=a03 ops p o.1||(plain&&(!k0u s s1||(match o.2 with
 |some q=>!F4 s s1 q&&o1 (C0 s q)
 |none=>false)))
def okQ (ops:Array Oper)(L:Array Bool)(i:Nat):Bool:=Region.noSelect ops&&Region.free .any ops L i&&clb ops L
noncomputable def g0d {α:Type}:List (Option α)->Option α
 |[]=>none
 |[a]=>a
 |a :: b :: l=>same a (g0d (b :: l))
def l0S (p0:Nat):List (Nat×Nat×Cut)->Option Cut
 |[]=>none
 |(a,_,c) :: r=>match Nat.beq a (p0+1000000)with|true=>some c|false=>l0S p0 r
def d0N (s:St E.D)(ops:Array Oper):List Nat->Option (Nat×Bool)
 |[]=>none
 |
  p :: l=>match ops[p]? with
  |
   some o=>match D7 E s ops o with
   |.ask d b=>some (d,b)
   |_=>d0N s ops l
  |none=>d0N s ops l
noncomputable def p0c {R:Type}(C:X1 E)(inl:b7 E)(ops:Array Oper)(rec:Array Bool->St E.D->Option R)(lo hi:Nat)(L:Array Bool)(owns:List (Nat×Option Nat))(s:St E.D)(p:Nat):Option R:=match ops[p]? with
 |none=>none
 |
  some o=>match I8 s.n o&&Nat.ble lo p&&Nat.blt p hi&&!c0b o with
  |false=>none
  |
   true=>match D7 E s ops o with
   |
    .yes=>opV E C inl s o fun s' v=>match owns.all (f0U ops (E8 E C s o) s s' p)with
    |true=>rec (L.setIfInBounds p true) (s'.put o.dst v)
    |false=>none
   |_=>none
noncomputable def R3 (C:X1 E)(inl:b7 E)(ops:Array Oper):Nat->{R:Type}->List (Nat×Nat×Cut)->Nat->Nat->Array Bool->List (Nat×Option Nat)->St E.D->(St E.D->Option R)->Option R
 |0,_,_,_,_,_,_,_,_=>none
 |
  f+1,_,cs,lo,hi,L,owns,s,k=>match b0c L (hi-lo) lo with
  |none=>k s
  |
   some p0=>match p0J E s ops p0 cs L lo hi with
   |
    some p=>match ops[p]? with
    |none=>none
    |
     some o=>match I8 s.n o&&okQ ops L p with
     |false=>none
     |
      true=>match D7 E s ops o with
      |.bad=>none
      |
       .yes=>match evQ E s o with
       |
        .bad=>match f0x E s o with
        |some (q,i,g)=>R3 C inl ops f cs lo hi (L.setIfInBounds p true) ((p,none) :: owns) ((s.new (.rof q i g)).put o.dst (.sl s.nid)) k
        |none=>none
       |.ok v=>R3 C inl ops f cs lo hi (L.setIfInBounds p true) (match V5 E s o with|true=>(p,l6 E s o) :: owns|false=>owns) (s.put o.dst v) k
       |.chk b v=>if b then R3 C inl ops f cs lo hi (L.setIfInBounds p true) (match V5 E s o with|true=>(p,l6 E s o) :: owns|false=>owns) (s.put o.dst v) k else none
      |.no=>R3 C inl ops f cs lo hi (L.setIfInBounds p true) owns (s.put o.dst (.tup [])) k
      |.ask d b=>if b then R3 C inl ops f cs lo hi L owns (s.put (some d) (.kb true)) k else R3 C inl ops f cs lo hi L owns (s.put (some d) (.kb false)) k
   |
    none=>match g0W E s ops p0 cs with
    |
     some (b,c,r)=>match Nat.ble p0 b&&Nat.blt b hi&&l0b L (b+1-p0) p0 with
     |false=>none
     |
      true=>Option.bind (R3 C inl ops f (r.filter fun p=>Nat.ble p.1 b||Nat.ble 1000000 p.1) p0 (b+1) L owns s (fun s'=>H7 E s s' c)) fun d=>
      j9 E s c d fun s'=>R3 C inl ops f (r.filter fun p=>Nat.blt b p.1) lo hi (q9 L (b+1-p0) p0) (g0h ops (b+1-p0) p0++owns) s' k
    |
     none=>match Region.ready .any ops L with
     |
      [p]=>match ops[p]? with
      |none=>none
      |
       some o=>match I8 s.n o&&Nat.ble lo p&&Nat.blt p hi&&!c0b o with
       |false=>none
       |
        true=>match D7 E s ops o with
        |
         .yes=>opV E C inl s o fun s' v=>match owns.all (f0U ops (E8 E C s o) s s' p)with
         |true=>R3 C inl ops f cs lo hi (L.setIfInBounds p true) owns (s'.put o.dst v) k
         |false=>none
        |.ask d b=>if b then R3 C inl ops f cs lo hi L owns (s.put (some d) (.kb true)) k else R3 C inl ops f cs lo hi L owns (s.put (some d) (.kb false)) k
        |_=>none
     |
      l=>match d0N E s ops l with
      |some (d,b)=>if b then R3 C inl ops f cs lo hi L owns (s.put (some d) (.kb true)) k else R3 C inl ops f cs lo hi L owns (s.put (some d) (.kb false)) k
      |
       none=>match l0S p0 cs,l with
       |
        some c,_ :: _=>Option.bind (g0d (l.map (p0c E C inl ops (fun L' s'=>R3 C inl ops f cs p0 hi L' owns s' (fun s''=>H7 E s s'' c)) p0 hi L owns s))) fun d=>
        j9 E s c d fun s'=>R3 C inl ops f cs lo hi (q9 L (hi-p0) p0) (g0h ops (hi-p0) p0++owns) s' k
       |_,_=>none
def a0c:Code->Option Nat
 |.region id _ _=>some id
 |.seq a b=>match a0c a with|some x=>some x|none=>a0c b
 |.cond _ a b=>match a0c a with|some x=>some x|none=>a0c b
 |.block _ a=>a0c a
 |.loop a=>a0c a
 |.scope a=>a0c a
 |_=>none
def o0f {α:Type}(l:List (Nat×α))(c:Code):Option α:=match l with
 |[]=>none
 |
  _=>match a0c c with
  |some r=>J2 l r
  |none=>none
def leave {R:Type}(k:K E R)(fn:Func)(s':St E.D):Option R:=match result E s' fn with
 |
  some v=>match s'.stk with
  |(n,fr) :: r=>k { s' with n:=n,fr:=fr,stk:=r } v
  |[]=>none
 |none=>none
def X1.at (C:X1 E)(A:Ann):X1 E:={ C with tb:=A.tb }
noncomputable def mod (C:X1 E):Nat->{R:Type}->Code->Ann->St E.D->(Ex->St E.D->Option R)->Option R
 |0,_,_,_,_,_=>none
 |
  f+1,_,c,A,s,k=>
  let inl:b7 E:=fun g args s k=>match a0F E g with
   |none=>none
   |
    some (fn,body)=>match Nat.ble args.length fn.ntmps with
    |false=>none
    |
     true=>mod C f body (C.ann g) { s with n:=fn.ntmps,fr:=C6 args 0,stk:=(s.n,s.fr) :: s.stk } fun e s'=>match e with
     |.ex _=>none
     |.nrm=>leave E k fn s'
     |.ret=>leave E k fn s'
  match c with
  |.skip=>k .nrm s
  |
   .region id ops draw=>match draw with
   |false=>s8 E (X1.at E C A) inl ops 100000 ((A.rs.filter fun p=>Nat.beq p.1 id).map Prod.snd) 0 ops.size ops.toList s (k .nrm)
   |true=>R3 E (X1.at E C A) inl ops 100000 ((A.rs.filter fun p=>Nat.beq p.1 id).map Prod.snd) 0 ops.size (Array.replicate ops.size false) [] s (k .nrm)
  |
   .seq x y=>match o0f A.js y with
   |some xs=>Option.bind (mod C f x A s fun e s'=>W8 E s e s' xs) fun d=>
     resume E s (fun e s'=>match e with|.nrm=>mod C f y A s' k|e=>k e s') xs d
   |none=>mod C f x A s fun e s'=>match e with|.nrm=>mod C f y A s' k|e=>k e s'
  |
   .cond c x y=>match V0 E s c with
   |.kb true=>mod C f x A s k
   |.kb false=>mod C f y A s k
   |
    c=>match D4 c with
    |some b=>if b then mod C f x A s k else mod C f y A s k
    |none=>none
  |
   .block id x=>mod C f x A s fun e s'=>match e.eq (.ex id)with
   |true=>k .nrm s'
   |false=>k e s'
  |
   .loop x=>match o0f A.ls x with
   |
    some (c,xs)=>match H7 E s s c with
    |some d0=>Option.bind (iter (fun d=>j9 E s c d fun s1=>mod C f x A s1 fun e s'=>match e with
      |.nrm=>(match H7 E s s' c with|some d'=>some (.next d')|none=>none)
      |e=>(match W8 E s e s' xs with|some d'=>some (.done d')|none=>none)) C.fuel d0) fun t=>resume E s k xs t
    |none=>none
   |none=>none
  |.exit id=>k (.ex id) s
  |.ret=>k .ret s
  |_=>none
noncomputable def run (C:X1 E)(f:Nat)(ins:List Sh)(res:Sh)(back:List (Nat×Sh))(x:O2 E.D ins):Option (O2 E.D (res :: back.map Prod.snd)):=
 match E.P.funcs[f]? with
 |none=>none
 |
  some fn=>match fn.body with
  |none=>none
  |
   some body=>X5 E { n:=fn.ntmps,fr:=[],th:=[],nid:=0,stk:=[] } ins x fun s args=>
   match Nat.ble args.length fn.ntmps with
   |false=>none
   |
    true=>mod E C E5 body (C.ann f) { s with fr:=C6 args 0 } fun e s'=>match e with
    |.ex _=>none
    |
     _=>match result E s' fn with
     |none=>none
     |
      some v=>
      let vs:=v :: (E3 args back).map fun p=>R6 s' p.1
      match I4 E E5 s' (T8 E s' (res :: back.map Prod.snd) vs)with
      |
       some s1=>match o5 E s1 (res :: back.map Prod.snd) vs with
       |some ⟨ids,y⟩=>match o9 (ids.filterMap fun x=>x)&&Nat.beq (E3 args back).length back.length with|true=>some y|false=>none
       |none=>none
      |none=>none
end
