/- P. Its conditions: none. -/
import Derived.Test.YtbccffnofdnpoaaGreatAX2
set_option linter.all false
namespace Go.X
open Go.V Go.RowKit
section
variable (E:Env)
abbrev Inl:={R:Type}->Nat->List (V E.D)->St E.D->(St E.D->V E.D->Option R)->Option R
inductive Gt where|bad|yes|no|ask (d:Nat) (b:Bool)
def b0C (s:St E.D)(ops:Array Oper)(o:Oper):Gt:=match o.guard with
 |none=>.yes
 |some (j,want)=>match ops[j]? with
  |some g=>match g.dst with
   |some d=>match C5 s.fr d with
    |some (.kb b)=>(match b==want with|true=>.yes|false=>.no)
    |some (.tup [])=>.no
    |some v=>match M7 v with
     |some b=>.ask d b
     |none=>.bad
    |none=>.bad
   |none=>.bad
  |none=>.bad
def c0H (n:Nat)(o:Oper):Bool:=match o.dst with
 |some d=>Nat.blt d n
 |none=>true
def j0q (g:Nat):Bool:=match E.P.funcs[g]? with
 |some fn=>fn.body.isSome&&!(fn.name== "runtime.NumGoroutine")
 |none=>false
def m0k (s:St E.D):ResultVar->Option (V E.D)
 |.tmp t=>some (c0n s t)
 |.cell q T=>match h0T E s T (c0n s q)with
  |.ok v=>some v
  |_=>none
def j0O (s:St E.D):List ResultVar->Option (List (V E.D))
 |[]=>some []
 |r :: l=>match m0k E s r,j0O s l with
  |some v,some vs=>some (v :: vs)
  |_,_=>none
def result (s:St E.D)(fn:Func):Option (V E.D):=match j0O E s fn.results.toList with
 |some [v]=>some v
 |some l=>some (.tup l)
 |none=>none
def V9 {D:Nat->Type}:List (V D)->Nat->Fr D
 |[],_=>[]
 |v :: r,k=>(k,v) :: V9 r (k+1)
def e06 (g:Nat):Option (Func×Code):=match E.P.funcs[g]? with
 |none=>none
 |some fn=>match fn.body with
  |none=>none
  |some body=>some (fn,body)
def g0H (ops:Array Oper):List Oper->St E.D->Option (St E.D)
 |[],s=>some s
 |o :: l,s=>match c0H s.n o with
  |false=>none
  |true=>match b0C E s ops o with
   |.yes=>(match evQ E s o with
    |.ok v=>g0H ops l (s.put o.dst v)
    |_=>none)
   |.no=>g0H ops l (s.put o.dst (.tup []))
   |_=>none
def b0a:Nat->Code->St E.D->Option (Ex×St E.D)
 |0,_,_=>none
 |f+1,c,s=>match c with
  |.skip=>some (.nrm,s)
  |.region _ ops draw=>match draw with
   |false=>(match g0H E ops ops.toList s with|some a=>some (.nrm,a)|none=>none)
   |true=>none
  |.seq x y=>match b0a f x s with
   |some (.nrm,a)=>b0a f y a
   |some (.ex i,a)=>some (.ex i,a)
   |some (.ret,a)=>some (.ret,a)
   |none=>none
  |.cond c x y=>match T1 E s c with
   |.kb true=>b0a f x s
   |.kb false=>b0a f y s
   |_=>none
  |.block id x=>match b0a f x s with
   |some (e,a)=>(match e.eq (.ex id)with|true=>some (.nrm,a)|false=>some (e,a))
   |none=>none
  |.exit id=>some (.ex id,s)
  |.ret=>some (.ret,s)
  |_=>none
def D0m:Ex->Bool
 |.ex _=>false
 |_=>true
def k06 (g:Nat)(args:List (V E.D))(s:St E.D):Option (V E.D):=match e06 E g with
 |some (fn,body)=>match Nat.ble args.length fn.ntmps,b0a E 1000 body { s with n:=fn.ntmps,fr:=V9 args 0,stk:=(s.n,s.fr) :: s.stk } with
  |true,some (e,a)=>(match D0m e with|true=>result E a fn|false=>none)
  |_,_=>none
 |none=>none
def m03 {R:Type}(C:P3 E)(inl:Inl E)(s:St E.D)(f:Nat)(args:List (V E.D))(k:K E R):Option R:=
 match e0C E s args C.sm f with
 |some c=>l0C E s c args k
 |none=>match k06 E f args s with
  |some v=>k s v
  |none=>inl f args s k
noncomputable def same {α:Type}(a b:Option α):Option α:=open Classical in if a=b then a else none
def v0x (s:St E.D)(o:Oper):Option (Bool×V E.D×V E.D):=match o.op with
 |.binOp op T x y _=>match T1 E s x,T1 E s y,d0K E T,isEq op with
  |.d (.list _) xs,.nil,3,some pos=>some (xs.isEmpty,W6 pos true,W6 pos false)
  |_,_,_,_=>none
 |_=>none
def t0s (tb:List Nat)(s:St E.D)(o:Oper):Option (Bool×V E.D×V E.D):=match k03 tb o with
 |true=>v0x E s o
 |false=>none
abbrev Plc (D:Nat->Type):=V D⊕V D
def k0l (s:St E.D)(T:Nat):Plc E.D->Option (V E.D)
 |.inl v=>some v
 |.inr p=>match h0T E s T p with|.ok v=>some v|_=>none
def g04 (s:St E.D):List FieldStep->Nat->Plc E.D->Option (Nat×Plc E.D)
 |[],t,x=>some (t,x)
 |st :: rest,t,x=>match E.P.underlying st.struct with
  |some (.struct fs)=>match fs[st.index]? with
   |some f=>match st.deref,x with
    |true,x=>match k0l E s t x with
     |some v=>match k0m E s st.struct v st.index with|.ok p=>g04 s rest f.type (.inr p)|_=>none
     |none=>none
    |false,.inr p=>match k0m E s st.struct p st.index with|.ok q=>g04 s rest f.type (.inr q)|_=>none
    |false,.inl v=>match T4 v with
     |true=>match n0c E st.struct v st.index with|.ok u=>g04 s rest f.type (.inl u)|_=>none
     |false=>none
   |none=>none
  |_=>none
def s0D (T:Nat):Option Bool:=match E.P.underlying T with
 |some (.pointer _)=>some true
 |some _=>some false
 |none=>none
def s0k (s:St E.D)(T:Nat)(v:V E.D)(name:String):Option (Nat×V E.D):=match E.P.info? T with
 |some i=>match i.methods.find? (·.name==name)with
  |some m=>match g04 E s m.path.toList T (.inl v)with
   |some (xt,x)=>match m.func,s0D E xt,x with
    |some (f,true),some true,x=>match k0l E s xt x with|some u=>some (f,u)|none=>none
    |some (f,true),some false,.inr p=>some (f,p)
    |some (f,false),some false,x=>match k0l E s xt x with|some u=>some (f,u)|none=>none
    |_,_,_=>none
   |none=>none
  |none=>none
 |none=>none
noncomputable def opV {R:Type}(C:P3 E)(inl:Inl E)(s:St E.D)(o:Oper)(k:K E R):Option R:=
 match t0s E C.tb s o with
 |some (b,v1,v2)=>if b then same (k s v1) (k s v2)else k s v2
 |none=>match evQ E s o with
 |.ok v=>k s v
 |.chk b v=>if b then k s v else none
 |.bad=>match o0n E s o with
  |some (q,i,f)=>k (s.new (.rof q i f)) (.sl s.nid)
  |none=>match o.op with
   |.call c=>match c.callee with
    |.builtin _=>evE E C.tb s o k
    |.value f=>match T1 E s f with
     |.fn g caps=>match j0q E g with
      |true=>m03 E C inl s g (c.args.toList.map (T1 E s)++caps) k
      |false=>none
     |_=>none
    |.invoke recv name=>match T1 E s recv with
     |.ifc T v0=>match s0k E s T v0 name with
      |some (g,v)=>match j0q E g with
       |true=>m03 E C inl s g (v :: c.args.toList.map (T1 E s)) k
       |false=>none
      |none=>none
     |_=>none
   |_=>evE E C.tb s o k
def m09 (s:St E.D)(ops:Array Oper)(o:Oper):Bool:=match b0C E s ops o with
 |.no=>true
 |_=>false
def M0a (s:St E.D)(c:Cut):Cut:=⟨c.sl,c.th.filter fun p=>Nat.blt p.1 s.nid⟩
def p0d (s:St E.D)(ops:Array Oper)(i:Nat):List (Nat×Nat×Cut)->Option (Nat×Cut×List (Nat×Nat×Cut))
 |(a,b,c) :: r=>match Nat.blt a i with
  |true=>p0d s ops i r
  |false=>match Nat.beq a i with
   |true=>(match ops[i]? with
    |some o=>match m09 E s ops o with|true=>none|false=>some (b,M0a E s c,r)
    |none=>none)
   |false=>none
 |[]=>none
noncomputable def evs (C:P3 E)(inl:Inl E)(ops:Array Oper):Nat->{R:Type}->List (Nat×Nat×Cut)->Nat->Nat->List Oper->St E.D->(St E.D->Option R)->Option R
 |0,_,_,_,_,_,_,_=>none
 |f+1,_,cs,i,stop,l,s,k=>match Nat.beq i stop with
  |true=>k s
  |false=>match p0d E s ops i cs with
   |some (b,c,r)=>match Nat.ble i b&&Nat.blt b stop with
    |false=>none
    |true=>Option.bind (evs C inl ops f (r.filter fun p=>Nat.ble p.1 b) i (b+1) l s (fun s'=>b0I E s s' c)) fun d=>
     d0U E s c d fun s'=>evs C inl ops f (r.filter fun p=>Nat.blt b p.1) (b+1) stop (l.drop (b+1-i)) s' k
   |none=>match l with
    |[]=>none
    |o :: l'=>match c0H s.n o with
     |false=>none
     |true=>match b0C E s ops o with
      |.bad=>none
      |.yes=>opV E C inl s o fun s' v=>evs C inl ops f cs (i+1) stop l' (s'.put o.dst v) k
      |.no=>evs C inl ops f cs (i+1) stop l' (s.put o.dst (.tup [])) k
      |.ask d b=>if b then evs C inl ops f cs i stop l (s.put (some d) (.kb true)) k else evs C inl ops f cs i stop l (s.put (some d) (.kb false)) k
def f0Z (o:Oper):Bool:=match o.op with
 |.move _|.assign _|.pick .. | .nilCheck _|.binOp .. | .unOp .. | .convert .. | .fieldAddr .. | .field .. | .indexAddr .. | .load .. | .extract .. | .build .. | .makeFunc .. | .makeInterface .. | .lookup .. | .typeAssert ..=>true
 |.call c=>match c.callee with
  |.builtin .len|.builtin .min|.builtin .max=>true
  |_=>false
 |_=>false
def d0I (o:Oper):Bool:=match o.op with
 |.load ..=>true
 |.lookup ..=>true
 |.call _=>true
 |_=>false
def H0i (s:St E.D)(ops:Array Oper)(p0:Nat)(cs:List (Nat×Nat×Cut))(p:Nat):Bool:=cs.any fun c=>Nat.ble p0 c.1&&Nat.ble c.1 p&&Nat.ble p c.2.1&&!(Nat.beq c.1 p0&&(match ops[p0]? with|some o=>m09 E s ops o|none=>false))
def a6 (L:Array Bool)(p:Nat):Bool:=!L.getD p true
def f0l (L:Array Bool):Nat->Nat->Option Nat
 |0,_=>none
 |n+1,lo=>match a6 L lo with|true=>some lo|false=>f0l L n (lo+1)
def c03 (L:Array Bool):Nat->Nat->Array Bool
 |0,_=>L
 |n+1,lo=>c03 (L.setIfInBounds lo true) n (lo+1)
def w0e (L:Array Bool):Nat->Nat->Bool
 |0,_=>true
 |n+1,lo=>a6 L lo&&w0e L n (lo+1)
def C0y (s:St E.D)(ops:Array Oper)(p0:Nat)(cs:List (Nat×Nat×Cut))(L:Array Bool)(lo hi:Nat):Option Nat:=
 (Region.ready .any ops L).find? fun p=>Nat.ble lo p&&Nat.blt p hi&&!H0i E s ops p0 cs p&&(match ops[p]? with|some o=>f0Z o||m09 E s ops o|none=>false)
def d0u (ops:Array Oper):Nat->Nat->List Nat
 |0,_=>[]
 |n+1,lo=>match ops[lo]? with
  |some o=>match d0I o with|true=>lo :: d0u ops n (lo+1)|false=>d0u ops n (lo+1)
  |none=>[]
def k01 (ops:Array Oper)(n lo:Nat):List (Nat×Option Nat):=(d0u ops n lo).map fun i=>(i,none)
def c0e (C:P3 E)(s:St E.D)(o:Oper):Bool:=match o.op with
 |.call c=>match c.callee with
  |.builtin _=>true
  |.value f=>match T1 E s f with
   |.fn g caps=>(e0C E s (c.args.toList.map (T1 E s)++caps) C.sm g).isSome||(k06 E g (c.args.toList.map (T1 E s)++caps) s).isSome
   |_=>false
  |_=>false
 |_=>true
def q0B {D:Nat->Type}(s s1:St D):Bool:=(s1.th.take (s1.th.length-s.th.length)).any fun p=>Nat.blt p.1 s.nid
def c7 {D:Nat->Type}(s s1:St D)(q:Nat):Bool:=(s1.th.take (s1.th.length-s.th.length)).any fun p=>Nat.beq p.1 q
def m0w {D:Nat->Type}(ops:Array Oper)(plain:Bool)(s s1:St D)(p:Nat)(o:Nat×Option Nat):Bool:=f0z ops p o.1||(plain&&(!q0B s s1||(match o.2 with
 |some q=>!c7 s s1 q&&E2 (G0 s q)
 |none=>false)))
def okQ (ops:Array Oper)(L:Array Bool)(i:Nat):Bool:=Region.noSelect ops&&Region.free .any ops L i&&clb ops L
noncomputable def k0A {α:Type}:List (Option α)->Option α
 |[]=>none
 |[a]=>a
 |a :: b :: l=>same a (k0A (b :: l))
def y0J (p0:Nat):List (Nat×Nat×Cut)->Option Cut
 |[]=>none
 |(a,_,c) :: r=>match Nat.beq a (p0+1000000)with|true=>some c|false=>y0J p0 r
def h0M (s:St E.D)(ops:Array Oper):List Nat->Option (Nat×Bool)
 |[]=>none
 |p :: l=>match ops[p]? with
  |some o=>match b0C E s ops o with
   |.ask d b=>some (d,b)
   |_=>h0M s ops l
  |none=>h0M s ops l
noncomputable def u0w {R:Type}(C:P3 E)(inl:Inl E)(ops:Array Oper)(rec:Array Bool->St E.D->Option R)(lo hi:Nat)(L:Array Bool)(owns:List (Nat×Option Nat))(s:St E.D)(p:Nat):Option R:=match ops[p]? with
 |none=>none
 |some o=>match c0H s.n o&&Nat.ble lo p&&Nat.blt p hi&&!f0Z o with
  |false=>none
  |true=>match b0C E s ops o with
   |.yes=>opV E C inl s o fun s' v=>match owns.all (m0w ops (c0e E C s o) s s' p)with
    |true=>rec (L.setIfInBounds p true) (s'.put o.dst v)
    |false=>none
   |_=>none
noncomputable def O6 (C:P3 E)(inl:Inl E)(ops:Array Oper):Nat->{R:Type}->List (Nat×Nat×Cut)->Nat->Nat->Array Bool->List (Nat×Option Nat)->St E.D->(St E.D->Option R)->Option R
 |0,_,_,_,_,_,_,_,_=>none
 |f+1,_,cs,lo,hi,L,owns,s,k=>match f0l L (hi-lo) lo with
  |none=>k s
  |some p0=>match C0y E s ops p0 cs L lo hi with
   |some p=>match ops[p]? with
    |none=>none
    |some o=>match c0H s.n o&&okQ ops L p with
     |false=>none
     |true=>match b0C E s ops o with
      |.bad=>none
      |.yes=>match evQ E s o with
       |.bad=>match o0n E s o with
        |some (q,i,g)=>O6 C inl ops f cs lo hi (L.setIfInBounds p true) ((p,none) :: owns) ((s.new (.rof q i g)).put o.dst (.sl s.nid)) k
        |none=>none
       |.ok v=>O6 C inl ops f cs lo hi (L.setIfInBounds p true) (match D9 E s o with|true=>(p,F9 E s o) :: owns|false=>owns) (s.put o.dst v) k
       |.chk b v=>if b then O6 C inl ops f cs lo hi (L.setIfInBounds p true) (match D9 E s o with|true=>(p,F9 E s o) :: owns|false=>owns) (s.put o.dst v) k else none
      |.no=>O6 C inl ops f cs lo hi (L.setIfInBounds p true) owns (s.put o.dst (.tup [])) k
      |.ask d b=>if b then O6 C inl ops f cs lo hi L owns (s.put (some d) (.kb true)) k else O6 C inl ops f cs lo hi L owns (s.put (some d) (.kb false)) k
   |none=>match p0d E s ops p0 cs with
    |some (b,c,r)=>match Nat.ble p0 b&&Nat.blt b hi&&w0e L (b+1-p0) p0 with
     |false=>none
     |true=>Option.bind (O6 C inl ops f (r.filter fun p=>Nat.ble p.1 b||Nat.ble 1000000 p.1) p0 (b+1) L owns s (fun s'=>b0I E s s' c)) fun d=>
      d0U E s c d fun s'=>O6 C inl ops f (r.filter fun p=>Nat.blt b p.1) lo hi (c03 L (b+1-p0) p0) (k01 ops (b+1-p0) p0++owns) s' k
    |none=>match Region.ready .any ops L with
     |[p]=>match ops[p]? with
      |none=>none
      |some o=>match c0H s.n o&&Nat.ble lo p&&Nat.blt p hi&&!f0Z o with
       |false=>none
       |true=>match b0C E s ops o with
        |.yes=>opV E C inl s o fun s' v=>match owns.all (m0w ops (c0e E C s o) s s' p)with
         |true=>O6 C inl ops f cs lo hi (L.setIfInBounds p true) owns (s'.put o.dst v) k
         |false=>none
        |.ask d b=>if b then O6 C inl ops f cs lo hi L owns (s.put (some d) (.kb true)) k else O6 C inl ops f cs lo hi L owns (s.put (some d) (.kb false)) k
        |_=>none
     |l=>match h0M E s ops l with
      |some (d,b)=>if b then O6 C inl ops f cs lo hi L owns (s.put (some d) (.kb true)) k else O6 C inl ops f cs lo hi L owns (s.put (some d) (.kb false)) k
      |none=>match y0J p0 cs,l with
       |some c,_ :: _=>Option.bind (k0A (l.map (u0w E C inl ops (fun L' s'=>O6 C inl ops f cs p0 hi L' owns s' (fun s''=>b0I E s s'' c)) p0 hi L owns s))) fun d=>
        d0U E s c d fun s'=>O6 C inl ops f cs lo hi (c03 L (hi-p0) p0) (k01 ops (hi-p0) p0++owns) s' k
       |_,_=>none
def d0O:Code->Option Nat
 |.region id _ _=>some id
 |.seq a b=>match d0O a with|some x=>some x|none=>d0O b
 |.cond _ a b=>match d0O a with|some x=>some x|none=>d0O b
 |.block _ a=>d0O a
 |.loop a=>d0O a
 |.scope a=>d0O a
 |_=>none
def u0x {α:Type}(l:List (Nat×α))(c:Code):Option α:=match l with
 |[]=>none
 |_=>match d0O c with
  |some r=>C5 l r
  |none=>none
def leave {R:Type}(k:K E R)(fn:Func)(a:St E.D):Option R:=match result E a fn with
 |some v=>match a.stk with
  |(n,fr) :: r=>k { a with n:=n,fr:=fr,stk:=r } v
  |[]=>none
 |none=>none
def P3.at (C:P3 E)(A:Ann):P3 E:={ C with tb:=A.tb }
noncomputable def mod (C:P3 E):Nat->{R:Type}->Code->Ann->St E.D->(Ex->St E.D->Option R)->Option R
 |0,_,_,_,_,_=>none
 |f+1,_,c,A,s,k=>
  let inl:Inl E:=fun g args s k=>match e06 E g with
   |none=>none
   |some (fn,body)=>match Nat.ble args.length fn.ntmps with
    |false=>none
    |true=>mod C f body (C.ann g) { s with n:=fn.ntmps,fr:=V9 args 0,stk:=(s.n,s.fr) :: s.stk } fun e s'=>match e with
     |.ex _=>none
     |.nrm=>leave E k fn s'
     |.ret=>leave E k fn s'
  match c with
  |.skip=>k .nrm s
  |.region id ops draw=>match draw with
   |false=>evs E (P3.at E C A) inl ops 100000 ((A.rs.filter fun p=>Nat.beq p.1 id).map Prod.snd) 0 ops.size ops.toList s (k .nrm)
   |true=>O6 E (P3.at E C A) inl ops 100000 ((A.rs.filter fun p=>Nat.beq p.1 id).map Prod.snd) 0 ops.size (Array.replicate ops.size false) [] s (k .nrm)
  |.seq x y=>match u0x A.js y with
   |some xs=>Option.bind (mod C f x A s fun e s'=>d0z E s e s' xs) fun d=>
     resume E s (fun e s'=>match e with|.nrm=>mod C f y A s' k|e=>k e s') xs d
   |none=>mod C f x A s fun e s'=>match e with|.nrm=>mod C f y A s' k|e=>k e s'
  |.cond c x y=>match T1 E s c with
   |.kb true=>mod C f x A s k
   |.kb false=>mod C f y A s k
   |c=>match M7 c with
    |some b=>if b then mod C f x A s k else mod C f y A s k
    |none=>none
  |.block id x=>mod C f x A s fun e s'=>match e.eq (.ex id)with
   |true=>k .nrm s'
   |false=>k e s'
  |.loop x=>match u0x A.ls x with
   |some (c,xs)=>match b0I E s s c with
    |some d0=>Option.bind (iter (fun d=>d0U E s c d fun s1=>mod C f x A s1 fun e s'=>match e with
      |.nrm=>(match b0I E s s' c with|some d'=>some (.next d')|none=>none)
      |e=>(match d0z E s e s' xs with|some d'=>some (.done d')|none=>none)) C.fuel d0) fun t=>resume E s k xs t
    |none=>none
   |none=>none
  |.exit id=>k (.ex id) s
  |.ret=>k .ret s
  |_=>none
noncomputable def run (C:P3 E)(f:Nat)(ins:List Sh)(res:Sh)(back:List (Nat×Sh))(x:F5 E.D ins):Option (F5 E.D (res :: back.map Prod.snd)):=
 match E.P.funcs[f]? with
 |none=>none
 |some fn=>match fn.body with
  |none=>none
  |some body=>G9 E { n:=fn.ntmps,fr:=[],th:=[],nid:=0,stk:=[] } ins x fun s args=>
   match Nat.ble args.length fn.ntmps with
   |false=>none
   |true=>mod E C M8 body (C.ann f) { s with fr:=V9 args 0 } fun e s'=>match e with
    |.ex _=>none
    |_=>match result E s' fn with
     |none=>none
     |some v=>
      let vs:=v :: (i6 args back).map fun p=>thV s' p.1
      match s7 E M8 s' (c0V E s' (res :: back.map Prod.snd) vs)with
      |some s1=>match l8 E s1 (res :: back.map Prod.snd) vs with
       |some ⟨ids,y⟩=>match d0n (ids.filterMap fun x=>x)&&Nat.beq (i6 args back).length back.length with|true=>some y|false=>none
       |none=>none
      |none=>none
end
