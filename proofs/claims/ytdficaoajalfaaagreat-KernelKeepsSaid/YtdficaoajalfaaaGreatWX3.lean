/- The interpreter: regions, code, calls. Its conditions: none. -/
import Derived.Test.YtdficaoajalfaaaGreatWX2
set_option linter.all false
namespace Go.X
open Go.V Go.RowKit
section
variable (E:Env)
abbrev D2:={R:Type}->Nat->List (V E.D)->St E.D->(St E.D->V E.D->Option R)->Option R
inductive Gt where | bad | yes | no | ask (d:Nat) (b:Bool)
def a0C (s:St E.D) (ops:Array Oper) (o:Oper):Gt:=match o.guard with
 |none=>.yes
 |
  some (j,want)=>match ops[j]? with
  |
   some g=>match g.dst with
   |
    some d=>match V4 s.fr d with
    |some (.kb b)=>(match b==want with | true=>.yes | false=>.no)
    |some (.tup [])=>.no
    |
     some v=>match U6 v with
     |some b=>.ask d b
     |none=>.bad
    |none=>.bad
   |none=>.bad
  |none=>.bad
def b0O (n:Nat) (o:Oper):Bool:=match o.dst with
 |some d=>Nat.blt d n
 |none=>true
def g0z (g:Nat):Bool:=match E.P.funcs[g]? with
 |some fn=>fn.body.isSome&&!(fn.name== "runtime.NumGoroutine")
 |none=>false
def j0v (s:St E.D):ResultVar->Option (V E.D)
 |.tmp t=>some (b0H s t)
 |
  .cell q T=>match j0k E s T (b0H s q) with
  |.ok v=>some v
  |_=>none
def g00 (s:St E.D):List ResultVar->Option (List (V E.D))
 |[]=>some []
 |
  r :: l=>match j0v E s r,g00 s l with
  |some v,some vs=>some (v :: vs)
  |_,_=>none
def result (s:St E.D) (fn:Func):Option (V E.D):=match g00 E s fn.results.toList with
 |some [v]=>some v
 |some l=>some (.tup l)
 |none=>none
def B9 {D:Nat->Type}:List (V D)->Nat->Fr D
 |[],_=>[]
 |v :: r,k=>(k,v) :: B9 r (k+1)
def e0f (g:Nat):Option (Func×Code):=match E.P.funcs[g]? with
 |none=>none
 |
  some fn=>match fn.body with
  |none=>none
  |some body=>some (fn,body)
def e02 (ops:Array Oper):List Oper->St E.D->Option (St E.D)
 |[],s=>some s
 |
  o :: l,s=>match b0O s.n o with
  |false=>none
  |
   true=>match a0C E s ops o with
   |
    .yes=>(match evQ E s o with
    |.ok v=>e02 ops l (s.put o.dst v)
    |_=>none)
   |.no=>e02 ops l (s.put o.dst (.tup []))
   |_=>none
def U8:Nat->Code->St E.D->Option (Ex×St E.D)
 |0,_,_=>none
 |
  f+1,c,s=>match c with
  |.skip=>some (.nrm,s)
  |
   .region _ ops draw=>match draw with
   |false=>(match e02 E ops ops.toList s with | some s'=>some (.nrm,s') | none=>none)
   |true=>none
  |
   .seq x y=>match U8 f x s with
   |some (.nrm,s')=>U8 f y s'
   |some (.ex i,s')=>some (.ex i,s')
   |some (.ret,s')=>some (.ret,s')
   |none=>none
  |
   .cond c x y=>match T1 E s c with
   |.kb true=>U8 f x s
   |.kb false=>U8 f y s
   |_=>none
  |
   .block id x=>match U8 f x s with
   |some (e,s')=>(match e.eq (.ex id) with | true=>some (.nrm,s') | false=>some (e,s'))
   |none=>none
  |.exit id=>some (.ex id,s)
  |.ret=>some (.ret,s)
  |_=>none
def x0I:Ex->Bool
 |.ex _=>false
 |_=>true
def j0i (g:Nat) (args:List (V E.D)) (s:St E.D):Option (V E.D):=match e0f E g with
 |
  some (fn,body)=>match Nat.ble args.length fn.ntmps,U8 E 1000 body { s with n:=fn.ntmps,fr:=B9 args 0,stk:=(s.n,s.fr) :: s.stk } with
  |true,some (e,s')=>(match x0I e with | true=>result E s' fn | false=>none)
  |_,_=>none
 |none=>none
def j0x {R:Type} (C:P4 E) (inl:D2 E) (s:St E.D) (f:Nat) (args:List (V E.D)) (k:K E R):Option R:=
 match e0W E C.sm f with
 |some c=>j0B E s c args k
 |
  none=>match j0i E f args s with
  |some v=>k s v
  |none=>inl f args s k
noncomputable def same {α:Type} (a b:Option α):Option α:=open Classical in if a=b then a else none
def t0z (s:St E.D) (o:Oper):Option (Bool×V E.D×V E.D):=match o.op with
 |
  .binOp op T x y _=>match T1 E s x,T1 E s y,c0H E T,isEq op with
  |.d (.list _) xs,.nil,3,some pos=>some (xs.isEmpty,O6 pos true,O6 pos false)
  |_,_,_,_=>none
 |_=>none
def p00 (tb:List Nat) (s:St E.D) (o:Oper):Option (Bool×V E.D×V E.D):=match k0z tb o with
 |true=>t0z E s o
 |false=>none
def p0J (T:Nat) (name:String):Option Nat:=match E.P.info? T with
 |
  some i=>match i.methods.find? (·.name==name) with
  |
   some m=>match m.path.isEmpty,m.func,E.P.underlying T with
   |true,some (f,true),some (.pointer _)=>some f
   |true,some (_,false),some (.pointer _)=>none
   |true,some (f,false),some _=>some f
   |_,_,_=>none
  |none=>none
 |none=>none
noncomputable def opV {R:Type} (C:P4 E) (inl:D2 E) (s:St E.D) (o:Oper) (k:K E R):Option R:=
 match p00 E C.tb s o with
 |some (b,v1,v2)=>if b then same (k s v1) (k s v2) else k s v2
 |none=>match evQ E s o with
 |.ok v=>k s v
 |.chk b v=>if b then k s v else none
 |
  .bad=>match i0V E s o with
  |some (q,i,f)=>k (s.new (.rof q i f)) (.sl s.nid)
  |
   none=>match o.op with
   |
    .call c=>match c.callee with
    |.builtin _=>evE E C.tb s o k
    |
     .value f=>match T1 E s f with
     |
      .fn g caps=>match g0z E g with
      |true=>j0x E C inl s g (c.args.toList.map (T1 E s)++caps) k
      |false=>none
     |_=>none
    |
     .invoke recv name=>match T1 E s recv with
     |
      .ifc T v=>match p0J E T name with
      |
       some g=>match g0z E g with
       |true=>j0x E C inl s g (v :: c.args.toList.map (T1 E s)) k
       |false=>none
      |none=>none
     |_=>none
   |_=>evE E C.tb s o k
def k0G (s:St E.D) (ops:Array Oper) (o:Oper):Bool:=match a0C E s ops o with
 |.no=>true
 |_=>false
def o0Y (s:St E.D) (ops:Array Oper) (i:Nat):List (Nat×Nat×Cut)->Option (Nat×Cut×List (Nat×Nat×Cut))
 |
  (a,b,c) :: r=>match Nat.blt a i with
  |true=>o0Y s ops i r
  |
   false=>match Nat.beq a i with
   |
    true=>(match ops[i]? with
    |some o=>match k0G E s ops o with | true=>none | false=>some (b,c,r)
    |none=>none)
   |false=>none
 |[]=>none
noncomputable def evs (C:P4 E) (inl:D2 E) (ops:Array Oper):Nat->{R:Type}->List (Nat×Nat×Cut)->Nat->Nat->List Oper->St E.D->(St E.D->Option R)->Option R
 |0,_,_,_,_,_,_,_=>none
 |
  f+1,_,cs,i,stop,l,s,k=>match Nat.beq i stop with
  |true=>k s
  |
   false=>match o0Y E s ops i cs with
   |
    some (b,c,r)=>match Nat.ble i b&&Nat.blt b stop with
    |false=>none
    |
     true=>Option.bind (evs C inl ops f (r.filter fun p=>Nat.ble p.1 b) i (b+1) l s (fun s'=>b0o E s s' c)) fun d=>
     c0z E s c d fun s'=>evs C inl ops f (r.filter fun p=>Nat.blt b p.1) (b+1) stop (l.drop (b+1-i)) s' k
   |
    none=>match l with
    |[]=>none
    |
     o :: l'=>match b0O s.n o with
     |false=>none
     |
      true=>match a0C E s ops o with
      |.bad=>none
      |.yes=>opV E C inl s o fun s' v=>evs C inl ops f cs (i+1) stop l' (s'.put o.dst v) k
      |.no=>evs C inl ops f cs (i+1) stop l' (s.put o.dst (.tup [])) k
      |.ask d b=>if b then evs C inl ops f cs i stop l (s.put (some d) (.kb true)) k else evs C inl ops f cs i stop l (s.put (some d) (.kb false)) k
def e01 (o:Oper):Bool:=match o.op with
 |.move _ | .assign _ | .pick .. | .nilCheck _ | .binOp .. | .unOp .. | .convert .. | .fieldAddr .. | .field .. | .indexAddr .. | .load .. | .extract .. | .build .. | .makeFunc .. | .makeInterface .. | .lookup .. | .typeAssert ..=>true
 |
  .call c=>match c.callee with
  |.builtin .len | .builtin .min | .builtin .max=>true
  |_=>false
 |_=>false
def c0t (o:Oper):Bool:=match o.op with
 |.load ..=>true
 |.lookup ..=>true
 |.call _=>true
 |_=>false
def G05 (s:St E.D) (ops:Array Oper) (p0:Nat) (cs:List (Nat×Nat×Cut)) (p:Nat):Bool:=cs.any fun c=>Nat.ble p0 c.1&&Nat.ble c.1 p&&Nat.ble p c.2.1&&!(Nat.beq c.1 p0&&(match ops[p0]? with | some o=>k0G E s ops o | none=>false))
def C5 (L:Array Bool) (p:Nat):Bool:=!L.getD p true
def e0r (L:Array Bool):Nat->Nat->Option Nat
 |0,_=>none
 |n+1,lo=>match C5 L lo with | true=>some lo | false=>e0r L n (lo+1)
def c0j (L:Array Bool):Nat->Nat->Array Bool
 |0,_=>L
 |n+1,lo=>c0j (L.setIfInBounds lo true) n (lo+1)
def u0l (L:Array Bool):Nat->Nat->Bool
 |0,_=>true
 |n+1,lo=>C5 L lo&&u0l L n (lo+1)
def C0V (s:St E.D) (ops:Array Oper) (p0:Nat) (cs:List (Nat×Nat×Cut)) (L:Array Bool) (lo hi:Nat):Option Nat:=
 (Region.ready .any ops L).find? fun p=>Nat.ble lo p&&Nat.blt p hi&&!G05 E s ops p0 cs p&&(match ops[p]? with | some o=>e01 o||k0G E s ops o | none=>false)
def c0y (ops:Array Oper):Nat->Nat->List Nat
 |0,_=>[]
 |
  n+1,lo=>match ops[lo]? with
  |some o=>match c0t o with | true=>lo :: c0y ops n (lo+1) | false=>c0y ops n (lo+1)
  |none=>[]
def l0Z (ops:Array Oper) (n lo:Nat):List (Nat×Option Nat):=(c0y ops n lo).map fun i=>(i,none)
def b0F (C:P4 E) (s:St E.D) (o:Oper):Bool:=match o.op with
 |
  .call c=>match c.callee with
  |.builtin _=>true
  |
   .value f=>match T1 E s f with
   |.fn g caps=>(e0W E C.sm g).isSome||(j0i E g (c.args.toList.map (T1 E s)++caps) s).isSome
   |_=>false
  |_=>false
 |_=>true
def o0v {D:Nat->Type} (s s1:St D):Bool:=(s1.th.take (s1.th.length-s.th.length)).any fun p=>Nat.blt p.1 s.nid
def X6 {D:Nat->Type} (s s1:St D) (q:Nat):Bool:=(s1.th.take (s1.th.length-s.th.length)).any fun p=>Nat.beq p.1 q
def k0f {D:Nat->Type} (ops:Array Oper) (plain:Bool) (s s1:St D) (p:Nat) (o:Nat×Option Nat):Bool:=e0J ops p o.1||(plain&&(!o0v s s1||(match o.2 with
 |some q=>!X6 s s1 q&&X1 (G0 s q)
 |none=>false)))
def okQ (ops:Array Oper) (L:Array Bool) (i:Nat):Bool:=Region.noSelect ops&&Region.free .any ops L i&&clb ops L
noncomputable def k02 {α:Type}:List (Option α)->Option α
 |[]=>none
 |[a]=>a
 |a :: b :: l=>same a (k02 (b :: l))
def t0a (p0:Nat):List (Nat×Nat×Cut)->Option Cut
 |[]=>none
 |(a,_,c) :: r=>match Nat.beq a (p0+1000000) with | true=>some c | false=>t0a p0 r
def h0Z (s:St E.D) (ops:Array Oper):List Nat->Option (Nat×Bool)
 |[]=>none
 |
  p :: l=>match ops[p]? with
  |
   some o=>match a0C E s ops o with
   |.ask d b=>some (d,b)
   |_=>h0Z s ops l
  |none=>h0Z s ops l
noncomputable def q0z {R:Type} (C:P4 E) (inl:D2 E) (ops:Array Oper) (rec:Array Bool->St E.D->Option R) (lo hi:Nat) (L:Array Bool) (owns:List (Nat×Option Nat)) (s:St E.D) (p:Nat):Option R:=match ops[p]? with
 |none=>none
 |
  some o=>match b0O s.n o&&Nat.ble lo p&&Nat.blt p hi&&!e01 o with
  |false=>none
  |
   true=>match a0C E s ops o with
   |
    .yes=>opV E C inl s o fun s' v=>match owns.all (k0f ops (b0F E C s o) s s' p) with
    |true=>rec (L.setIfInBounds p true) (s'.put o.dst v)
    |false=>none
   |_=>none
noncomputable def G6 (C:P4 E) (inl:D2 E) (ops:Array Oper):Nat->{R:Type}->List (Nat×Nat×Cut)->Nat->Nat->Array Bool->List (Nat×Option Nat)->St E.D->(St E.D->Option R)->Option R
 |0,_,_,_,_,_,_,_,_=>none
 |
  f+1,_,cs,lo,hi,L,owns,s,k=>match e0r L (hi-lo) lo with
  |none=>k s
  |
   some p0=>match C0V E s ops p0 cs L lo hi with
   |
    some p=>match ops[p]? with
    |none=>none
    |
     some o=>match b0O s.n o&&okQ ops L p with
     |false=>none
     |
      true=>match a0C E s ops o with
      |.bad=>none
      |
       .yes=>match evQ E s o with
       |
        .bad=>match i0V E s o with
        |some (q,i,g)=>G6 C inl ops f cs lo hi (L.setIfInBounds p true) ((p,none) :: owns) ((s.new (.rof q i g)).put o.dst (.sl s.nid)) k
        |none=>none
       |.ok v=>G6 C inl ops f cs lo hi (L.setIfInBounds p true) (match X8 E s o with | true=>(p,o9 E s o) :: owns | false=>owns) (s.put o.dst v) k
       |.chk b v=>if b then G6 C inl ops f cs lo hi (L.setIfInBounds p true) (match X8 E s o with | true=>(p,o9 E s o) :: owns | false=>owns) (s.put o.dst v) k else none
      |.no=>G6 C inl ops f cs lo hi (L.setIfInBounds p true) owns (s.put o.dst (.tup [])) k
      |.ask d b=>if b then G6 C inl ops f cs lo hi L owns (s.put (some d) (.kb true)) k else G6 C inl ops f cs lo hi L owns (s.put (some d) (.kb false)) k
   |
    none=>match o0Y E s ops p0 cs with
    |
     some (b,c,r)=>match Nat.ble p0 b&&Nat.blt b hi&&u0l L (b+1-p0) p0 with
     |false=>none
     |
      true=>Option.bind (G6 C inl ops f (r.filter fun p=>Nat.ble p.1 b||Nat.ble 1000000 p.1) p0 (b+1) L owns s (fun s'=>b0o E s s' c)) fun d=>
      c0z E s c d fun s'=>G6 C inl ops f (r.filter fun p=>Nat.blt b p.1) lo hi (c0j L (b+1-p0) p0) (l0Z ops (b+1-p0) p0++owns) s' k
    |
     none=>match Region.ready .any ops L with
     |
      [p]=>match ops[p]? with
      |none=>none
      |
       some o=>match b0O s.n o&&Nat.ble lo p&&Nat.blt p hi&&!e01 o with
       |false=>none
       |
        true=>match a0C E s ops o with
        |
         .yes=>opV E C inl s o fun s' v=>match owns.all (k0f ops (b0F E C s o) s s' p) with
         |true=>G6 C inl ops f cs lo hi (L.setIfInBounds p true) owns (s'.put o.dst v) k
         |false=>none
        |.ask d b=>if b then G6 C inl ops f cs lo hi L owns (s.put (some d) (.kb true)) k else G6 C inl ops f cs lo hi L owns (s.put (some d) (.kb false)) k
        |_=>none
     |
      l=>match h0Z E s ops l with
      |some (d,b)=>if b then G6 C inl ops f cs lo hi L owns (s.put (some d) (.kb true)) k else G6 C inl ops f cs lo hi L owns (s.put (some d) (.kb false)) k
      |
       none=>match t0a p0 cs,l with
       |
        some c,_ :: _=>Option.bind (k02 (l.map (q0z E C inl ops (fun L' s'=>G6 C inl ops f cs p0 hi L' owns s' (fun s''=>b0o E s s'' c)) p0 hi L owns s))) fun d=>
        c0z E s c d fun s'=>G6 C inl ops f cs lo hi (c0j L (hi-p0) p0) (l0Z ops (hi-p0) p0++owns) s' k
       |_,_=>none
def d0A:Code->Option Nat
 |.region id _ _=>some id
 |.seq a b=>match d0A a with | some x=>some x | none=>d0A b
 |.cond _ a b=>match d0A a with | some x=>some x | none=>d0A b
 |.block _ a=>d0A a
 |.loop a=>d0A a
 |.scope a=>d0A a
 |_=>none
def s0L {α:Type} (l:List (Nat×α)) (c:Code):Option α:=match l with
 |[]=>none
 |
  _=>match d0A c with
  |some r=>V4 l r
  |none=>none
def leave {R:Type} (k:K E R) (fn:Func) (s':St E.D):Option R:=match result E s' fn with
 |
  some v=>match s'.stk with
  |(n,fr) :: r=>k { s' with n:=n,fr:=fr,stk:=r } v
  |[]=>none
 |none=>none
def P4.at (C:P4 E) (A:Ann):P4 E:={ C with tb:=A.tb }
noncomputable def mod (C:P4 E):Nat->{R:Type}->Code->Ann->St E.D->(Ex->St E.D->Option R)->Option R
 |0,_,_,_,_,_=>none
 |
  f+1,_,c,A,s,k=>
  let inl:D2 E:=fun g args s k=>match e0f E g with
   |none=>none
   |
    some (fn,body)=>match Nat.ble args.length fn.ntmps with
    |false=>none
    |
     true=>mod C f body (C.ann g) { s with n:=fn.ntmps,fr:=B9 args 0,stk:=(s.n,s.fr) :: s.stk } fun e s'=>match e with
     |.ex _=>none
     |.nrm=>leave E k fn s'
     |.ret=>leave E k fn s'
  match c with
  |.skip=>k .nrm s
  |
   .region id ops draw=>match draw with
   |false=>evs E (P4.at E C A) inl ops 100000 ((A.rs.filter fun p=>Nat.beq p.1 id).map Prod.snd) 0 ops.size ops.toList s (k .nrm)
   |true=>G6 E (P4.at E C A) inl ops 100000 ((A.rs.filter fun p=>Nat.beq p.1 id).map Prod.snd) 0 ops.size (Array.replicate ops.size false) [] s (k .nrm)
  |
   .seq x y=>match s0L A.js y with
   |some xs=>Option.bind (mod C f x A s fun e s'=>c0v E s e s' xs) fun d=>
     resume E s (fun e s'=>match e with | .nrm=>mod C f y A s' k | e=>k e s') xs d
   |none=>mod C f x A s fun e s'=>match e with | .nrm=>mod C f y A s' k | e=>k e s'
  |
   .cond c x y=>match T1 E s c with
   |.kb true=>mod C f x A s k
   |.kb false=>mod C f y A s k
   |
    c=>match U6 c with
    |some b=>if b then mod C f x A s k else mod C f y A s k
    |none=>none
  |
   .block id x=>mod C f x A s fun e s'=>match e.eq (.ex id) with
   |true=>k .nrm s'
   |false=>k e s'
  |
   .loop x=>match s0L A.ls x with
   |
    some (c,xs)=>match b0o E s s c with
    |some d0=>Option.bind (iter (fun d=>c0z E s c d fun s1=>mod C f x A s1 fun e s'=>match e with
      |.nrm=>(match b0o E s s' c with | some d'=>some (.next d') | none=>none)
      |e=>(match c0v E s e s' xs with | some d'=>some (.done d') | none=>none)) C.fuel d0) fun t=>resume E s k xs t
    |none=>none
   |none=>none
  |.exit id=>k (.ex id) s
  |.ret=>k .ret s
  |_=>none
noncomputable def run (C:P4 E) (f:Nat) (ins:List Sh) (res:Sh) (back:List (Nat×Sh)) (x:W4 E.D ins):Option (W4 E.D (res :: back.map Prod.snd)):=
 match E.P.funcs[f]? with
 |none=>none
 |
  some fn=>match fn.body with
  |none=>none
  |
   some body=>q9 E { n:=fn.ntmps,fr:=[],th:=[],nid:=0,stk:=[] } ins x fun s args=>
   match Nat.ble args.length fn.ntmps with
   |false=>none
   |
    true=>mod E C s8 body (C.ann f) { s with fr:=B9 args 0 } fun e s'=>match e with
    |.ex _=>none
    |
     _=>match result E s' fn with
     |none=>none
     |
      some v=>
      let vs:=v :: (Q5 args back).map fun p=>B2 s' p.1
      match o7 E s8 s' (c0d E s' (res :: back.map Prod.snd) vs) with
      |
       some s1=>match Y7 E s1 (res :: back.map Prod.snd) vs with
       |some ⟨ids,y⟩=>match c0k (ids.filterMap fun x=>x)&&Nat.beq (Q5 args back).length back.length with | true=>some y | false=>none
       |none=>none
      |none=>none
end
