/- P. Its conditions: none. -/
import Derived.Test.YtihmgaccbcfgjaaGreatRX2
set_option linter.all false
namespace Go.X
open Go.V Go.RowKit
section
variable (E:Env)
abbrev Inl:={R:Type}->Nat->List (V E.D)->St E.D->(St E.D->V E.D->Option R)->Option R
inductive Gt where|bad|yes|no|ask (d:Nat) (b:Bool)
def a09 (s:St E.D)(ops:Array Oper)(o:Oper):Gt:=match o.guard with
 |none=>.yes
 |some (j,want)=>match ops[j]? with
  |some g=>match g.dst with
   |some d=>match F4 s.fr d with
    |some (.kb b)=>(match b==want with|true=>.yes|false=>.no)
    |some (.tup [])=>.no
    |some v=>match G6 v with
     |some b=>.ask d b
     |none=>.bad
    |none=>.bad
   |none=>.bad
  |none=>.bad
def b03 (n:Nat)(o:Oper):Bool:=match o.dst with
 |some d=>Nat.blt d n
 |none=>true
def k0B (g:Nat):Bool:=match E.P.funcs[g]? with
 |some fn=>fn.body.isSome&&!(fn.name== "runtime.NumGoroutine")
 |none=>false
def l0E (s:St E.D):ResultVar->Option (V E.D)
 |.tmp t=>some (b08 s t)
 |.cell q T=>match k0N E s T (b08 s q)with
  |.ok v=>some v
  |_=>none
def h0Q (s:St E.D):List ResultVar->Option (List (V E.D))
 |[]=>some []
 |r :: l=>match l0E E s r,h0Q s l with
  |some v,some vs=>some (v :: vs)
  |_,_=>none
def result (s:St E.D)(fn:Func):Option (V E.D):=match h0Q E s fn.results.toList with
 |some [v]=>some v
 |some l=>some (.tup l)
 |none=>none
def P9 {D:Nat->Type}:List (V D)->Nat->Fr D
 |[],_=>[]
 |v :: r,k=>(k,v) :: P9 r (k+1)
def e0x (g:Nat):Option (Func×Code):=match E.P.funcs[g]? with
 |none=>none
 |some fn=>match fn.body with
  |none=>none
  |some body=>some (fn,body)
def g0o (ops:Array Oper):List Oper->St E.D->Option (St E.D)
 |[],s=>some s
 |o :: l,s=>match b03 s.n o with
  |false=>none
  |true=>match a09 E s ops o with
   |.yes=>(match evQ E s o with
    |.ok v=>g0o ops l (s.put o.dst v)
    |_=>none)
   |.no=>g0o ops l (s.put o.dst (.tup []))
   |_=>none
def o9:Nat->Code->St E.D->Option (Ex×St E.D)
 |0,_,_=>none
 |f+1,c,s=>match c with
  |.skip=>some (.nrm,s)
  |.region _ ops draw=>match draw with
   |false=>(match g0o E ops ops.toList s with|some a=>some (.nrm,a)|none=>none)
   |true=>none
  |.seq x y=>match o9 f x s with
   |some (.nrm,a)=>o9 f y a
   |some (.ex i,a)=>some (.ex i,a)
   |some (.ret,a)=>some (.ret,a)
   |none=>none
  |.cond c x y=>match N1 E s c with
   |.kb true=>o9 f x s
   |.kb false=>o9 f y s
   |_=>none
  |.block id x=>match o9 f x s with
   |some (e,a)=>(match e.eq (.ex id)with|true=>some (.nrm,a)|false=>some (e,a))
   |none=>none
  |.exit id=>some (.ex id,s)
  |.ret=>some (.ret,s)
  |_=>none
def A0a:Ex->Bool
 |.ex _=>false
 |_=>true
def i0R (g:Nat)(args:List (V E.D))(s:St E.D):Option (V E.D):=match e0x E g with
 |some (fn,body)=>match Nat.ble args.length fn.ntmps,o9 E 1000 body { s with n:=fn.ntmps,fr:=P9 args 0,stk:=(s.n,s.fr) :: s.stk } with
  |true,some (e,a)=>(match A0a e with|true=>result E a fn|false=>none)
  |_,_=>none
 |none=>none
def t0d {R:Type}(C:J3 E)(inl:Inl E)(s:St E.D)(f:Nat)(args:List (V E.D))(k:K E R):Option R:=
 match e0U E s args C.sm f with
 |some c=>j0X E s c args k
 |none=>match i0R E f args s with
  |some v=>k s v
  |none=>inl f args s k
noncomputable def same {α:Type}(a b:Option α):Option α:=open Classical in if a=b then a else none
def s08 (s:St E.D)(o:Oper):Option (Bool×V E.D×V E.D):=match o.op with
 |.binOp op T x y _=>match N1 E s x,N1 E s y,c0R E T,isEq op with
  |.d (.list _) xs,.nil,3,some pos=>some (xs.isEmpty,i6 pos true,i6 pos false)
  |_,_,_,_=>none
 |_=>none
def o0N (tb:List Nat)(s:St E.D)(o:Oper):Option (Bool×V E.D×V E.D):=match j0A tb o with
 |true=>s08 E s o
 |false=>none
noncomputable def opV {R:Type}(C:J3 E)(inl:Inl E)(s:St E.D)(o:Oper)(k:K E R):Option R:=
 match o0N E C.tb s o with
 |some (b,v1,v2)=>if b then same (k s v1) (k s v2)else k s v2
 |none=>match evQ E s o with
 |.ok v=>k s v
 |.chk b v=>if b then k s v else none
 |.bad=>match j0w E s o with
  |some (q,i,f)=>k (s.new (.rof q i f)) (.sl s.nid)
  |none=>match o.op with
   |.call c=>match c.callee with
    |.builtin _=>evE E C.tb s o k
    |.value f=>match N1 E s f with
     |.fn g caps=>match k0B E g with
      |true=>t0d E C inl s g (c.args.toList.map (N1 E s)++caps) k
      |false=>none
     |_=>none
    |.invoke _ _=>none
   |_=>evE E C.tb s o k
def k0a (s:St E.D)(ops:Array Oper)(o:Oper):Bool:=match a09 E s ops o with
 |.no=>true
 |_=>false
def D0Z (s:St E.D)(c:Cut):Cut:=⟨c.sl,c.th.filter fun p=>Nat.blt p.1 s.nid⟩
def q0q (s:St E.D)(ops:Array Oper)(i:Nat):List (Nat×Nat×Cut)->Option (Nat×Cut×List (Nat×Nat×Cut))
 |(a,b,c) :: r=>match Nat.blt a i with
  |true=>q0q s ops i r
  |false=>match Nat.beq a i with
   |true=>(match ops[i]? with
    |some o=>match k0a E s ops o with|true=>none|false=>some (b,D0Z E s c,r)
    |none=>none)
   |false=>none
 |[]=>none
noncomputable def evs (C:J3 E)(inl:Inl E)(ops:Array Oper):Nat->{R:Type}->List (Nat×Nat×Cut)->Nat->Nat->List Oper->St E.D->(St E.D->Option R)->Option R
 |0,_,_,_,_,_,_,_=>none
 |f+1,_,cs,i,stop,l,s,k=>match Nat.beq i stop with
  |true=>k s
  |false=>match q0q E s ops i cs with
   |some (b,c,r)=>match Nat.ble i b&&Nat.blt b stop with
    |false=>none
    |true=>Option.bind (evs C inl ops f (r.filter fun p=>Nat.ble p.1 b) i (b+1) l s (fun s'=>b0E E s s' c)) fun d=>
     c0A E s c d fun s'=>evs C inl ops f (r.filter fun p=>Nat.blt b p.1) (b+1) stop (l.drop (b+1-i)) s' k
   |none=>match l with
    |[]=>none
    |o :: l'=>match b03 s.n o with
     |false=>none
     |true=>match a09 E s ops o with
      |.bad=>none
      |.yes=>opV E C inl s o fun s' v=>evs C inl ops f cs (i+1) stop l' (s'.put o.dst v) k
      |.no=>evs C inl ops f cs (i+1) stop l' (s.put o.dst (.tup [])) k
      |.ask d b=>if b then evs C inl ops f cs i stop l (s.put (some d) (.kb true)) k else evs C inl ops f cs i stop l (s.put (some d) (.kb false)) k
def f0o (o:Oper):Bool:=match o.op with
 |.move _|.assign _|.pick .. | .nilCheck _|.binOp .. | .unOp .. | .convert .. | .fieldAddr .. | .field .. | .indexAddr .. | .load .. | .extract .. | .build .. | .makeFunc .. | .makeInterface .. | .lookup .. | .typeAssert ..=>true
 |.call c=>match c.callee with
  |.builtin .len|.builtin .min|.builtin .max=>true
  |_=>false
 |_=>false
def c08 (o:Oper):Bool:=match o.op with
 |.load ..=>true
 |.lookup ..=>true
 |.call _=>true
 |_=>false
def D0d (s:St E.D)(ops:Array Oper)(p0:Nat)(cs:List (Nat×Nat×Cut))(p:Nat):Bool:=cs.any fun c=>Nat.ble p0 c.1&&Nat.ble c.1 p&&Nat.ble p c.2.1&&!(Nat.beq c.1 p0&&(match ops[p0]? with|some o=>k0a E s ops o|none=>false))
def U4 (L:Array Bool)(p:Nat):Bool:=!L.getD p true
def d03 (L:Array Bool):Nat->Nat->Option Nat
 |0,_=>none
 |n+1,lo=>match U4 L lo with|true=>some lo|false=>d03 L n (lo+1)
def d0a (L:Array Bool):Nat->Nat->Array Bool
 |0,_=>L
 |n+1,lo=>d0a (L.setIfInBounds lo true) n (lo+1)
def r0e (L:Array Bool):Nat->Nat->Bool
 |0,_=>true
 |n+1,lo=>U4 L lo&&r0e L n (lo+1)
def I0U (s:St E.D)(ops:Array Oper)(p0:Nat)(cs:List (Nat×Nat×Cut))(L:Array Bool)(lo hi:Nat):Option Nat:=
 (Region.ready .any ops L).find? fun p=>Nat.ble lo p&&Nat.blt p hi&&!D0d E s ops p0 cs p&&(match ops[p]? with|some o=>f0o o||k0a E s ops o|none=>false)
def c0U (ops:Array Oper):Nat->Nat->List Nat
 |0,_=>[]
 |n+1,lo=>match ops[lo]? with
  |some o=>match c08 o with|true=>lo :: c0U ops n (lo+1)|false=>c0U ops n (lo+1)
  |none=>[]
def l0n (ops:Array Oper)(n lo:Nat):List (Nat×Option Nat):=(c0U ops n lo).map fun i=>(i,none)
def e0s (C:J3 E)(s:St E.D)(o:Oper):Bool:=match o.op with
 |.call c=>match c.callee with
  |.builtin _=>true
  |.value f=>match N1 E s f with
   |.fn g caps=>(e0U E s (c.args.toList.map (N1 E s)++caps) C.sm g).isSome||(i0R E g (c.args.toList.map (N1 E s)++caps) s).isSome
   |_=>false
  |_=>false
 |_=>true
def p0j {D:Nat->Type}(s s1:St D):Bool:=(s1.th.take (s1.th.length-s.th.length)).any fun p=>Nat.blt p.1 s.nid
def W6 {D:Nat->Type}(s s1:St D)(q:Nat):Bool:=(s1.th.take (s1.th.length-s.th.length)).any fun p=>Nat.beq p.1 q
def k0P {D:Nat->Type}(ops:Array Oper)(plain:Bool)(s s1:St D)(p:Nat)(o:Nat×Option Nat):Bool:=e0a ops p o.1||(plain&&(!p0j s s1||(match o.2 with
 |some q=>!W6 s s1 q&&Q1 (F0 s q)
 |none=>false)))
def okQ (ops:Array Oper)(L:Array Bool)(i:Nat):Bool:=Region.noSelect ops&&Region.free .any ops L i&&clb ops L
noncomputable def k0R {α:Type}:List (Option α)->Option α
 |[]=>none
 |[a]=>a
 |a :: b :: l=>same a (k0R (b :: l))
def r04 (p0:Nat):List (Nat×Nat×Cut)->Option Cut
 |[]=>none
 |(a,_,c) :: r=>match Nat.beq a (p0+1000000)with|true=>some c|false=>r04 p0 r
def g01 (s:St E.D)(ops:Array Oper):List Nat->Option (Nat×Bool)
 |[]=>none
 |p :: l=>match ops[p]? with
  |some o=>match a09 E s ops o with
   |.ask d b=>some (d,b)
   |_=>g01 s ops l
  |none=>g01 s ops l
noncomputable def r0l {R:Type}(C:J3 E)(inl:Inl E)(ops:Array Oper)(rec:Array Bool->St E.D->Option R)(lo hi:Nat)(L:Array Bool)(owns:List (Nat×Option Nat))(s:St E.D)(p:Nat):Option R:=match ops[p]? with
 |none=>none
 |some o=>match b03 s.n o&&Nat.ble lo p&&Nat.blt p hi&&!f0o o with
  |false=>none
  |true=>match a09 E s ops o with
   |.yes=>opV E C inl s o fun s' v=>match owns.all (k0P ops (e0s E C s o) s s' p)with
    |true=>rec (L.setIfInBounds p true) (s'.put o.dst v)
    |false=>none
   |_=>none
noncomputable def U5 (C:J3 E)(inl:Inl E)(ops:Array Oper):Nat->{R:Type}->List (Nat×Nat×Cut)->Nat->Nat->Array Bool->List (Nat×Option Nat)->St E.D->(St E.D->Option R)->Option R
 |0,_,_,_,_,_,_,_,_=>none
 |f+1,_,cs,lo,hi,L,owns,s,k=>match d03 L (hi-lo) lo with
  |none=>k s
  |some p0=>match I0U E s ops p0 cs L lo hi with
   |some p=>match ops[p]? with
    |none=>none
    |some o=>match b03 s.n o&&okQ ops L p with
     |false=>none
     |true=>match a09 E s ops o with
      |.bad=>none
      |.yes=>match evQ E s o with
       |.bad=>match j0w E s o with
        |some (q,i,g)=>U5 C inl ops f cs lo hi (L.setIfInBounds p true) ((p,none) :: owns) ((s.new (.rof q i g)).put o.dst (.sl s.nid)) k
        |none=>none
       |.ok v=>U5 C inl ops f cs lo hi (L.setIfInBounds p true) (match k9 E s o with|true=>(p,l9 E s o) :: owns|false=>owns) (s.put o.dst v) k
       |.chk b v=>if b then U5 C inl ops f cs lo hi (L.setIfInBounds p true) (match k9 E s o with|true=>(p,l9 E s o) :: owns|false=>owns) (s.put o.dst v) k else none
      |.no=>U5 C inl ops f cs lo hi (L.setIfInBounds p true) owns (s.put o.dst (.tup [])) k
      |.ask d b=>if b then U5 C inl ops f cs lo hi L owns (s.put (some d) (.kb true)) k else U5 C inl ops f cs lo hi L owns (s.put (some d) (.kb false)) k
   |none=>match q0q E s ops p0 cs with
    |some (b,c,r)=>match Nat.ble p0 b&&Nat.blt b hi&&r0e L (b+1-p0) p0 with
     |false=>none
     |true=>Option.bind (U5 C inl ops f (r.filter fun p=>Nat.ble p.1 b||Nat.ble 1000000 p.1) p0 (b+1) L owns s (fun s'=>b0E E s s' c)) fun d=>
      c0A E s c d fun s'=>U5 C inl ops f (r.filter fun p=>Nat.blt b p.1) lo hi (d0a L (b+1-p0) p0) (l0n ops (b+1-p0) p0++owns) s' k
    |none=>match Region.ready .any ops L with
     |[p]=>match ops[p]? with
      |none=>none
      |some o=>match b03 s.n o&&Nat.ble lo p&&Nat.blt p hi&&!f0o o with
       |false=>none
       |true=>match a09 E s ops o with
        |.yes=>opV E C inl s o fun s' v=>match owns.all (k0P ops (e0s E C s o) s s' p)with
         |true=>U5 C inl ops f cs lo hi (L.setIfInBounds p true) owns (s'.put o.dst v) k
         |false=>none
        |.ask d b=>if b then U5 C inl ops f cs lo hi L owns (s.put (some d) (.kb true)) k else U5 C inl ops f cs lo hi L owns (s.put (some d) (.kb false)) k
        |_=>none
     |l=>match g01 E s ops l with
      |some (d,b)=>if b then U5 C inl ops f cs lo hi L owns (s.put (some d) (.kb true)) k else U5 C inl ops f cs lo hi L owns (s.put (some d) (.kb false)) k
      |none=>match r04 p0 cs,l with
       |some c,_ :: _=>Option.bind (k0R (l.map (r0l E C inl ops (fun L' s'=>U5 C inl ops f cs p0 hi L' owns s' (fun s''=>b0E E s s'' c)) p0 hi L owns s))) fun d=>
        c0A E s c d fun s'=>U5 C inl ops f cs lo hi (d0a L (hi-p0) p0) (l0n ops (hi-p0) p0++owns) s' k
       |_,_=>none
def d0E:Code->Option Nat
 |.region id _ _=>some id
 |.seq a b=>match d0E a with|some x=>some x|none=>d0E b
 |.cond _ a b=>match d0E a with|some x=>some x|none=>d0E b
 |.block _ a=>d0E a
 |.loop a=>d0E a
 |.scope a=>d0E a
 |_=>none
def v0D {α:Type}(l:List (Nat×α))(c:Code):Option α:=match l with
 |[]=>none
 |_=>match d0E c with
  |some r=>F4 l r
  |none=>none
def leave {R:Type}(k:K E R)(fn:Func)(a:St E.D):Option R:=match result E a fn with
 |some v=>match a.stk with
  |(n,fr) :: r=>k { a with n:=n,fr:=fr,stk:=r } v
  |[]=>none
 |none=>none
def J3.at (C:J3 E)(A:Ann):J3 E:={ C with tb:=A.tb }
noncomputable def mod (C:J3 E):Nat->{R:Type}->Code->Ann->St E.D->(Ex->St E.D->Option R)->Option R
 |0,_,_,_,_,_=>none
 |f+1,_,c,A,s,k=>
  let inl:Inl E:=fun g args s k=>match e0x E g with
   |none=>none
   |some (fn,body)=>match Nat.ble args.length fn.ntmps with
    |false=>none
    |true=>mod C f body (C.ann g) { s with n:=fn.ntmps,fr:=P9 args 0,stk:=(s.n,s.fr) :: s.stk } fun e s'=>match e with
     |.ex _=>none
     |.nrm=>leave E k fn s'
     |.ret=>leave E k fn s'
  match c with
  |.skip=>k .nrm s
  |.region id ops draw=>match draw with
   |false=>evs E (J3.at E C A) inl ops 100000 ((A.rs.filter fun p=>Nat.beq p.1 id).map Prod.snd) 0 ops.size ops.toList s (k .nrm)
   |true=>U5 E (J3.at E C A) inl ops 100000 ((A.rs.filter fun p=>Nat.beq p.1 id).map Prod.snd) 0 ops.size (Array.replicate ops.size false) [] s (k .nrm)
  |.seq x y=>match v0D A.js y with
   |some xs=>Option.bind (mod C f x A s fun e s'=>c0Z E s e s' xs) fun d=>
     resume E s (fun e s'=>match e with|.nrm=>mod C f y A s' k|e=>k e s') xs d
   |none=>mod C f x A s fun e s'=>match e with|.nrm=>mod C f y A s' k|e=>k e s'
  |.cond c x y=>match N1 E s c with
   |.kb true=>mod C f x A s k
   |.kb false=>mod C f y A s k
   |c=>match G6 c with
    |some b=>if b then mod C f x A s k else mod C f y A s k
    |none=>none
  |.block id x=>mod C f x A s fun e s'=>match e.eq (.ex id)with
   |true=>k .nrm s'
   |false=>k e s'
  |.loop x=>match v0D A.ls x with
   |some (c,xs)=>match b0E E s s c with
    |some d0=>Option.bind (iter (fun d=>c0A E s c d fun s1=>mod C f x A s1 fun e s'=>match e with
      |.nrm=>(match b0E E s s' c with|some d'=>some (.next d')|none=>none)
      |e=>(match c0Z E s e s' xs with|some d'=>some (.done d')|none=>none)) C.fuel d0) fun t=>resume E s k xs t
    |none=>none
   |none=>none
  |.exit id=>k (.ex id) s
  |.ret=>k .ret s
  |_=>none
noncomputable def run (C:J3 E)(f:Nat)(ins:List Sh)(res:Sh)(back:List (Nat×Sh))(x:J4 E.D ins):Option (J4 E.D (res :: back.map Prod.snd)):=
 match E.P.funcs[f]? with
 |none=>none
 |some fn=>match fn.body with
  |none=>none
  |some body=>J9 E { n:=fn.ntmps,fr:=[],th:=[],nid:=0,stk:=[] } ins x fun s args=>
   match Nat.ble args.length fn.ntmps with
   |false=>none
   |true=>mod E C C8 body (C.ann f) { s with fr:=P9 args 0 } fun e s'=>match e with
    |.ex _=>none
    |_=>match result E s' fn with
     |none=>none
     |some v=>
      let vs:=v :: (D5 args back).map fun p=>thV s' p.1
      match T6 E C8 s' (c0F E s' (res :: back.map Prod.snd) vs)with
      |some s1=>match W7 E s1 (res :: back.map Prod.snd) vs with
       |some ⟨ids,y⟩=>match c0I (ids.filterMap fun x=>x)&&Nat.beq (D5 args back).length back.length with|true=>some y|false=>none
       |none=>none
      |none=>none
end
