/- The interpreter: regions, code, calls. Its conditions: none. -/
import Derived.Test.YtdficaoajalfaaaGreatTX2
set_option linter.all false
namespace Go.X
open Go.V Go.RowKit
section
variable (E:Env)
abbrev Inl:={R:Type}->Nat->List (V E.D)->St E.D->(St E.D->V E.D->Option R)->Option R
inductive Gt where | bad | yes | no | ask (d:Nat) (b:Bool)
def a_g7 (s:St E.D) (ops:Array Oper) (o:Oper):Gt:=match o.guard with
 |none=>.yes
 |
  some (j,want)=>match ops[j]? with
  |
   some g=>match g.dst with
   |
    some d=>match lkp s.fr d with
    |some (.kb b)=>(match b==want with | true=>.yes | false=>.no)
    |some (.tup [])=>.no
    |
     some v=>match asB v with
     |some b=>.ask d b
     |none=>.bad
    |none=>.bad
   |none=>.bad
  |none=>.bad
def dstB (n:Nat) (o:Oper):Bool:=match o.dst with
 |some d=>Nat.blt d n
 |none=>true
def a_oz (g:Nat):Bool:=match E.P.funcs[g]? with
 |some fn=>fn.body.isSome&&!(fn.name== "runtime.NumGoroutine")
 |none=>false
def resV (s:St E.D):ResultVar->Option (V E.D)
 |.tmp t=>some (getS s t)
 |
  .cell q T=>match a_54 E s T (getS s q) with
  |.ok v=>some v
  |_=>none
def a_1p (s:St E.D):List ResultVar->Option (List (V E.D))
 |[]=>some []
 |
  r :: l=>match resV E s r,a_1p s l with
  |some v,some vs=>some (v :: vs)
  |_,_=>none
def result (s:St E.D) (fn:Func):Option (V E.D):=match a_1p E s fn.results.toList with
 |some [v]=>some v
 |some l=>some (.tup l)
 |none=>none
def a_dg {D:Nat->Type}:List (V D)->Nat->Fr D
 |[],_=>[]
 |v :: r,k=>(k,v) :: a_dg r (k+1)
def a_os (g:Nat):Option (Func×Code):=match E.P.funcs[g]? with
 |none=>none
 |
  some fn=>match fn.body with
  |none=>none
  |some body=>some (fn,body)
def pevs (ops:Array Oper):List Oper->St E.D->Option (St E.D)
 |[],s=>some s
 |
  o :: l,s=>match dstB s.n o with
  |false=>none
  |
   true=>match a_g7 E s ops o with
   |
    .yes=>(match evQ E s o with
    |.ok v=>pevs ops l (s.put o.dst v)
    |_=>none)
   |.no=>pevs ops l (s.put o.dst (.tup []))
   |_=>none
def pmod:Nat->Code->St E.D->Option (Ex×St E.D)
 |0,_,_=>none
 |
  f+1,c,s=>match c with
  |.skip=>some (.nrm,s)
  |
   .region _ ops draw=>match draw with
   |false=>(match pevs E ops ops.toList s with | some s'=>some (.nrm,s') | none=>none)
   |true=>none
  |
   .seq x y=>match pmod f x s with
   |some (.nrm,s')=>pmod f y s'
   |some (.ex i,s')=>some (.ex i,s')
   |some (.ret,s')=>some (.ret,s')
   |none=>none
  |
   .cond c x y=>match e_2 E s c with
   |.kb true=>pmod f x s
   |.kb false=>pmod f y s
   |_=>none
  |
   .block id x=>match pmod f x s with
   |some (e,s')=>(match e.eq (.ex id) with | true=>some (.nrm,s') | false=>some (e,s'))
   |none=>none
  |.exit id=>some (.ex id,s)
  |.ret=>some (.ret,s)
  |_=>none
def b_r7:Ex->Bool
 |.ex _=>false
 |_=>true
def a_6a (g:Nat) (args:List (V E.D)) (s:St E.D):Option (V E.D):=match a_os E g with
 |
  some (fn,body)=>match Nat.ble args.length fn.ntmps,pmod E 1000 body { s with n:=fn.ntmps,fr:=a_dg args 0,stk:=(s.n,s.fr) :: s.stk } with
  |true,some (e,s')=>(match b_r7 e with | true=>result E s' fn | false=>none)
  |_,_=>none
 |none=>none
def a_52 {R:Type} (C:Cx0 E) (inl:Inl E) (s:St E.D) (f:Nat) (args:List (V E.D)) (k:K E R):Option R:=
 match a_v8 E C.sm f with
 |some c=>a_5z E s c args k
 |
  none=>match a_6a E f args s with
  |some v=>k s v
  |none=>inl f args s k
noncomputable def same {α:Type} (a b:Option α):Option α:=open Classical in if a=b then a else none
def twoV (s:St E.D) (o:Oper):Option (Bool×V E.D×V E.D):=match o.op with
 |
  .binOp op T x y _=>match e_2 E s x,e_2 E s y,a_m3 E T,isEq op with
  |.d (.list _) xs,.nil,3,some pos=>some (xs.isEmpty,eqK pos true,eqK pos false)
  |_,_,_,_=>none
 |_=>none
def twoT (tb:List Nat) (s:St E.D) (o:Oper):Option (Bool×V E.D×V E.D):=match inTb tb o with
 |true=>twoV E s o
 |false=>none
def b_ec (T:Nat) (name:String):Option Nat:=match E.P.info? T with
 |
  some i=>match i.methods.find? (·.name==name) with
  |
   some m=>match m.path.isEmpty,m.func,E.P.underlying T with
   |true,some (f,true),some (.pointer _)=>some f
   |true,some (_,false),some (.pointer _)=>none
   |true,some (f,false),some _=>some f
   |_,_,_=>none
  |none=>none
 |none=>none
noncomputable def opV {R:Type} (C:Cx0 E) (inl:Inl E) (s:St E.D) (o:Oper) (k:K E R):Option R:=
 match twoT E C.tb s o with
 |some (b,v1,v2)=>if b then same (k s v1) (k s v2) else k s v2
 |none=>match evQ E s o with
 |.ok v=>k s v
 |.chk b v=>if b then k s v else none
 |
  .bad=>match borV E s o with
  |some (q,i,f)=>k (s.new (.rof q i f)) (.sl s.nid)
  |
   none=>match o.op with
   |
    .call c=>match c.callee with
    |.builtin _=>evE E C.tb s o k
    |
     .value f=>match e_2 E s f with
     |
      .fn g caps=>match a_oz E g with
      |true=>a_52 E C inl s g (c.args.toList.map (e_2 E s)++caps) k
      |false=>none
     |_=>none
    |
     .invoke recv name=>match e_2 E s recv with
     |
      .ifc T v=>match b_ec E T name with
      |
       some g=>match a_oz E g with
       |true=>a_52 E C inl s g (v :: c.args.toList.map (e_2 E s)) k
       |false=>none
      |none=>none
     |_=>none
   |_=>evE E C.tb s o k
def a_02 (s:St E.D) (ops:Array Oper) (o:Oper):Bool:=match a_g7 E s ops o with
 |.no=>true
 |_=>false
def a_3i (s:St E.D) (ops:Array Oper) (i:Nat):List (Nat×Nat×Cut)->Option (Nat×Cut×List (Nat×Nat×Cut))
 |
  (a,b,c) :: r=>match Nat.blt a i with
  |true=>a_3i s ops i r
  |
   false=>match Nat.beq a i with
   |
    true=>(match ops[i]? with
    |some o=>match a_02 E s ops o with | true=>none | false=>some (b,c,r)
    |none=>none)
   |false=>none
 |[]=>none
noncomputable def evs (C:Cx0 E) (inl:Inl E) (ops:Array Oper):Nat->{R:Type}->List (Nat×Nat×Cut)->Nat->Nat->List Oper->St E.D->(St E.D->Option R)->Option R
 |0,_,_,_,_,_,_,_=>none
 |
  f+1,_,cs,i,stop,l,s,k=>match Nat.beq i stop with
  |true=>k s
  |
   false=>match a_3i E s ops i cs with
   |
    some (b,c,r)=>match Nat.ble i b&&Nat.blt b stop with
    |false=>none
    |
     true=>Option.bind (evs C inl ops f (r.filter fun p=>Nat.ble p.1 b) i (b+1) l s (fun s'=>a_ii E s s' c)) fun d=>
     a_f3 E s c d fun s'=>evs C inl ops f (r.filter fun p=>Nat.blt b p.1) (b+1) stop (l.drop (b+1-i)) s' k
   |
    none=>match l with
    |[]=>none
    |
     o :: l'=>match dstB s.n o with
     |false=>none
     |
      true=>match a_g7 E s ops o with
      |.bad=>none
      |.yes=>opV E C inl s o fun s' v=>evs C inl ops f cs (i+1) stop l' (s'.put o.dst v) k
      |.no=>evs C inl ops f cs (i+1) stop l' (s.put o.dst (.tup [])) k
      |.ask d b=>if b then evs C inl ops f cs i stop l (s.put (some d) (.kb true)) k else evs C inl ops f cs i stop l (s.put (some d) (.kb false)) k
def a_v6 (o:Oper):Bool:=match o.op with
 |.move _ | .assign _ | .pick .. | .nilCheck _ | .binOp .. | .unOp .. | .convert .. | .fieldAddr .. | .field .. | .indexAddr .. | .load .. | .extract .. | .build .. | .makeFunc .. | .makeInterface .. | .lookup .. | .typeAssert ..=>true
 |
  .call c=>match c.callee with
  |.builtin .len | .builtin .min | .builtin .max=>true
  |_=>false
 |_=>false
def isLd (o:Oper):Bool:=match o.op with
 |.load ..=>true
 |.lookup ..=>true
 |.call _=>true
 |_=>false
def b_rj (s:St E.D) (ops:Array Oper) (p0:Nat) (cs:List (Nat×Nat×Cut)) (p:Nat):Bool:=cs.any fun c=>Nat.ble p0 c.1&&Nat.ble c.1 p&&Nat.ble p c.2.1&&!(Nat.beq c.1 p0&&(match ops[p0]? with | some o=>a_02 E s ops o | none=>false))
def unl (L:Array Bool) (p:Nat):Bool:=!L.getD p true
def a_oy (L:Array Bool):Nat->Nat->Option Nat
 |0,_=>none
 |n+1,lo=>match unl L lo with | true=>some lo | false=>a_oy L n (lo+1)
def setR (L:Array Bool):Nat->Nat->Array Bool
 |0,_=>L
 |n+1,lo=>setR (L.setIfInBounds lo true) n (lo+1)
def allU (L:Array Bool):Nat->Nat->Bool
 |0,_=>true
 |n+1,lo=>unl L lo&&allU L n (lo+1)
def b_ru (s:St E.D) (ops:Array Oper) (p0:Nat) (cs:List (Nat×Nat×Cut)) (L:Array Bool) (lo hi:Nat):Option Nat:=
 (Region.ready .any ops L).find? fun p=>Nat.ble lo p&&Nat.blt p hi&&!b_rj E s ops p0 cs p&&(match ops[p]? with | some o=>a_v6 o||a_02 E s ops o | none=>false)
def ldsR (ops:Array Oper):Nat->Nat->List Nat
 |0,_=>[]
 |
  n+1,lo=>match ops[lo]? with
  |some o=>match isLd o with | true=>lo :: ldsR ops n (lo+1) | false=>ldsR ops n (lo+1)
  |none=>[]
def ldsO (ops:Array Oper) (n lo:Nat):List (Nat×Option Nat):=(ldsR ops n lo).map fun i=>(i,none)
def a_gr (C:Cx0 E) (s:St E.D) (o:Oper):Bool:=match o.op with
 |
  .call c=>match c.callee with
  |.builtin _=>true
  |
   .value f=>match e_2 E s f with
   |.fn g caps=>(a_v8 E C.sm g).isSome||(a_6a E g (c.args.toList.map (e_2 E s)++caps) s).isSome
   |_=>false
  |_=>false
 |_=>true
def mutB {D:Nat->Type} (s s1:St D):Bool:=(s1.th.take (s1.th.length-s.th.length)).any fun p=>Nat.blt p.1 s.nid
def z_7 {D:Nat->Type} (s s1:St D) (q:Nat):Bool:=(s1.th.take (s1.th.length-s.th.length)).any fun p=>Nat.beq p.1 q
def okOw {D:Nat->Type} (ops:Array Oper) (plain:Bool) (s s1:St D) (p:Nat) (o:Nat×Option Nat):Bool:=a_hk ops p o.1||(plain&&(!mutB s s1||(match o.2 with
 |some q=>!z_7 s s1 q&&e_3 (a_5 s q)
 |none=>false)))
def okQ (ops:Array Oper) (L:Array Bool) (i:Nat):Bool:=Region.noSelect ops&&Region.free .any ops L i&&clb ops L
noncomputable def a_55 {α:Type}:List (Option α)->Option α
 |[]=>none
 |[a]=>a
 |a :: b :: l=>same a (a_55 (b :: l))
def b_dk (p0:Nat):List (Nat×Nat×Cut)->Option Cut
 |[]=>none
 |(a,_,c) :: r=>match Nat.beq a (p0+1000000) with | true=>some c | false=>b_dk p0 r
def askL (s:St E.D) (ops:Array Oper):List Nat->Option (Nat×Bool)
 |[]=>none
 |
  p :: l=>match ops[p]? with
  |
   some o=>match a_g7 E s ops o with
   |.ask d b=>some (d,b)
   |_=>askL s ops l
  |none=>askL s ops l
noncomputable def effD {R:Type} (C:Cx0 E) (inl:Inl E) (ops:Array Oper) (rec:Array Bool->St E.D->Option R) (lo hi:Nat) (L:Array Bool) (owns:List (Nat×Option Nat)) (s:St E.D) (p:Nat):Option R:=match ops[p]? with
 |none=>none
 |
  some o=>match dstB s.n o&&Nat.ble lo p&&Nat.blt p hi&&!a_v6 o with
  |false=>none
  |
   true=>match a_g7 E s ops o with
   |
    .yes=>opV E C inl s o fun s' v=>match owns.all (okOw ops (a_gr E C s o) s s' p) with
    |true=>rec (L.setIfInBounds p true) (s'.put o.dst v)
    |false=>none
   |_=>none
noncomputable def drw (C:Cx0 E) (inl:Inl E) (ops:Array Oper):Nat->{R:Type}->List (Nat×Nat×Cut)->Nat->Nat->Array Bool->List (Nat×Option Nat)->St E.D->(St E.D->Option R)->Option R
 |0,_,_,_,_,_,_,_,_=>none
 |
  f+1,_,cs,lo,hi,L,owns,s,k=>match a_oy L (hi-lo) lo with
  |none=>k s
  |
   some p0=>match b_ru E s ops p0 cs L lo hi with
   |
    some p=>match ops[p]? with
    |none=>none
    |
     some o=>match dstB s.n o&&okQ ops L p with
     |false=>none
     |
      true=>match a_g7 E s ops o with
      |.bad=>none
      |
       .yes=>match evQ E s o with
       |
        .bad=>match borV E s o with
        |some (q,i,g)=>drw C inl ops f cs lo hi (L.setIfInBounds p true) ((p,none) :: owns) ((s.new (.rof q i g)).put o.dst (.sl s.nid)) k
        |none=>none
       |.ok v=>drw C inl ops f cs lo hi (L.setIfInBounds p true) (match a_dv E s o with | true=>(p,rdT E s o) :: owns | false=>owns) (s.put o.dst v) k
       |.chk b v=>if b then drw C inl ops f cs lo hi (L.setIfInBounds p true) (match a_dv E s o with | true=>(p,rdT E s o) :: owns | false=>owns) (s.put o.dst v) k else none
      |.no=>drw C inl ops f cs lo hi (L.setIfInBounds p true) owns (s.put o.dst (.tup [])) k
      |.ask d b=>if b then drw C inl ops f cs lo hi L owns (s.put (some d) (.kb true)) k else drw C inl ops f cs lo hi L owns (s.put (some d) (.kb false)) k
   |
    none=>match a_3i E s ops p0 cs with
    |
     some (b,c,r)=>match Nat.ble p0 b&&Nat.blt b hi&&allU L (b+1-p0) p0 with
     |false=>none
     |
      true=>Option.bind (drw C inl ops f (r.filter fun p=>Nat.ble p.1 b||Nat.ble 1000000 p.1) p0 (b+1) L owns s (fun s'=>a_ii E s s' c)) fun d=>
      a_f3 E s c d fun s'=>drw C inl ops f (r.filter fun p=>Nat.blt b p.1) lo hi (setR L (b+1-p0) p0) (ldsO ops (b+1-p0) p0++owns) s' k
    |
     none=>match Region.ready .any ops L with
     |
      [p]=>match ops[p]? with
      |none=>none
      |
       some o=>match dstB s.n o&&Nat.ble lo p&&Nat.blt p hi&&!a_v6 o with
       |false=>none
       |
        true=>match a_g7 E s ops o with
        |
         .yes=>opV E C inl s o fun s' v=>match owns.all (okOw ops (a_gr E C s o) s s' p) with
         |true=>drw C inl ops f cs lo hi (L.setIfInBounds p true) owns (s'.put o.dst v) k
         |false=>none
        |.ask d b=>if b then drw C inl ops f cs lo hi L owns (s.put (some d) (.kb true)) k else drw C inl ops f cs lo hi L owns (s.put (some d) (.kb false)) k
        |_=>none
     |
      l=>match askL E s ops l with
      |some (d,b)=>if b then drw C inl ops f cs lo hi L owns (s.put (some d) (.kb true)) k else drw C inl ops f cs lo hi L owns (s.put (some d) (.kb false)) k
      |
       none=>match b_dk p0 cs,l with
       |
        some c,_ :: _=>Option.bind (a_55 (l.map (effD E C inl ops (fun L' s'=>drw C inl ops f cs p0 hi L' owns s' (fun s''=>a_ii E s s'' c)) p0 hi L owns s))) fun d=>
        a_f3 E s c d fun s'=>drw C inl ops f cs lo hi (setR L (hi-p0) p0) (ldsO ops (hi-p0) p0++owns) s' k
       |_,_=>none
def a_k3:Code->Option Nat
 |.region id _ _=>some id
 |.seq a b=>match a_k3 a with | some x=>some x | none=>a_k3 b
 |.cond _ a b=>match a_k3 a with | some x=>some x | none=>a_k3 b
 |.block _ a=>a_k3 a
 |.loop a=>a_k3 a
 |.scope a=>a_k3 a
 |_=>none
def b_mt {α:Type} (l:List (Nat×α)) (c:Code):Option α:=match l with
 |[]=>none
 |
  _=>match a_k3 c with
  |some r=>lkp l r
  |none=>none
def leave {R:Type} (k:K E R) (fn:Func) (s':St E.D):Option R:=match result E s' fn with
 |
  some v=>match s'.stk with
  |(n,fr) :: r=>k { s' with n:=n,fr:=fr,stk:=r } v
  |[]=>none
 |none=>none
def Cx0.at (C:Cx0 E) (A:Ann):Cx0 E:={ C with tb:=A.tb }
noncomputable def mod (C:Cx0 E):Nat->{R:Type}->Code->Ann->St E.D->(Ex->St E.D->Option R)->Option R
 |0,_,_,_,_,_=>none
 |
  f+1,_,c,A,s,k=>
  let inl:Inl E:=fun g args s k=>match a_os E g with
   |none=>none
   |
    some (fn,body)=>match Nat.ble args.length fn.ntmps with
    |false=>none
    |
     true=>mod C f body (C.ann g) { s with n:=fn.ntmps,fr:=a_dg args 0,stk:=(s.n,s.fr) :: s.stk } fun e s'=>match e with
     |.ex _=>none
     |.nrm=>leave E k fn s'
     |.ret=>leave E k fn s'
  match c with
  |.skip=>k .nrm s
  |
   .region id ops draw=>match draw with
   |false=>evs E (Cx0.at E C A) inl ops 100000 ((A.rs.filter fun p=>Nat.beq p.1 id).map Prod.snd) 0 ops.size ops.toList s (k .nrm)
   |true=>drw E (Cx0.at E C A) inl ops 100000 ((A.rs.filter fun p=>Nat.beq p.1 id).map Prod.snd) 0 ops.size (Array.replicate ops.size false) [] s (k .nrm)
  |
   .seq x y=>match b_mt A.js y with
   |some xs=>Option.bind (mod C f x A s fun e s'=>a_m6 E s e s' xs) fun d=>
     resume E s (fun e s'=>match e with | .nrm=>mod C f y A s' k | e=>k e s') xs d
   |none=>mod C f x A s fun e s'=>match e with | .nrm=>mod C f y A s' k | e=>k e s'
  |
   .cond c x y=>match e_2 E s c with
   |.kb true=>mod C f x A s k
   |.kb false=>mod C f y A s k
   |
    c=>match asB c with
    |some b=>if b then mod C f x A s k else mod C f y A s k
    |none=>none
  |
   .block id x=>mod C f x A s fun e s'=>match e.eq (.ex id) with
   |true=>k .nrm s'
   |false=>k e s'
  |
   .loop x=>match b_mt A.ls x with
   |
    some (c,xs)=>match a_ii E s s c with
    |some d0=>Option.bind (iter (fun d=>a_f3 E s c d fun s1=>mod C f x A s1 fun e s'=>match e with
      |.nrm=>(match a_ii E s s' c with | some d'=>some (.next d') | none=>none)
      |e=>(match a_m6 E s e s' xs with | some d'=>some (.done d') | none=>none)) C.fuel d0) fun t=>resume E s k xs t
    |none=>none
   |none=>none
  |.exit id=>k (.ex id) s
  |.ret=>k .ret s
  |_=>none
noncomputable def run (C:Cx0 E) (f:Nat) (ins:List Sh) (res:Sh) (back:List (Nat×Sh)) (x:n_2 E.D ins):Option (n_2 E.D (res :: back.map Prod.snd)):=
 match E.P.funcs[f]? with
 |none=>none
 |
  some fn=>match fn.body with
  |none=>none
  |
   some body=>mkL E { n:=fn.ntmps,fr:=[],th:=[],nid:=0,stk:=[] } ins x fun s args=>
   match Nat.ble args.length fn.ntmps with
   |false=>none
   |
    true=>mod E C big body (C.ann f) { s with fr:=a_dg args 0 } fun e s'=>match e with
    |.ex _=>none
    |
     _=>match result E s' fn with
     |none=>none
     |
      some v=>
      let vs:=v :: (n_0 args back).map fun p=>thV s' p.1
      match frz E big s' (fzsL E s' (res :: back.map Prod.snd) vs) with
      |
       some s1=>match rdL E s1 (res :: back.map Prod.snd) vs with
       |some ⟨ids,y⟩=>match a_jh (ids.filterMap fun x=>x)&&Nat.beq (n_0 args back).length back.length with | true=>some y | false=>none
       |none=>none
      |none=>none
end
