/- Shapes: what is packed at joins, loops, calls; the interpreter. Its conditions: none. -/
import Derived.Test.YtdficaoajalfaaaGreatTX1
set_option linter.all false
namespace Go.X
open Go.V Go.RowKit
inductive Sh where
 |any | d (t:U) | own (e:Nat) (t:U) | box (T:Nat) (cs:List Sh) | agg (cs:List Sh) | tup (cs:List Sh) | nil | nilp | nilif | kb (b:Bool)
 |fn (f:Nat) (cs:List Sh) | ifc (T:Nat) (x:Sh) | alt (x y:Sh) | map | tab (e:Nat) (F:List Nat) (t:U)
def DC:Bool->Bool->Type->Type->Type
 |true,_,_,B=>B
 |false,true,A,_=>A
 |false,false,A,B=>A×B
def mkDC {A B:Type}:(p q:Bool)->A->B->DC p q A B
 |true,_,_,b=>b
 |false,true,a,_=>a
 |false,false,a,b=>(a,b)
def a_mw {A B:Type}:(p q:Bool)->A->DC p q A B->A
 |true,_,a,_=>a
 |false,true,_,x=>x
 |false,false,_,x=>x.1
def a_rl {A B:Type}:(p q:Bool)->B->DC p q A B->B
 |true,_,_,x=>x
 |false,true,b,_=>b
 |false,false,_,x=>x.2
mutual
def y_2:Sh->Bool
 |.d _ | .own _ _ | .alt _ _ | .map | .tab ..=>false
 |.box _ cs | .agg cs | .tup cs | .fn _ cs=>n_6 cs
 |.ifc _ x=>y_2 x
 |_=>true
def n_6:List Sh->Bool
 |[]=>true
 |x :: r=>y_2 x&&n_6 r
end
mutual
def Dat (D:Nat->Type):Sh->Type
 |.d t=>Den D t
 |.own _ t | .tab _ _ t=>List (Den D t)
 |.box _ cs | .agg cs | .tup cs | .fn _ cs=>n_2 D cs
 |.ifc _ x=>Dat D x
 |.alt x y=>Dat D x ⊕ Dat D y
 |.map=>List (Int×Int)
 |_=>Unit
def n_2 (D:Nat->Type):List Sh->Type
 |[]=>Unit
 |x :: r=>DC (y_2 x) (n_6 r) (Dat D x) (n_2 D r)
end
section
variable (E:Env)
mutual
def dDat:(x:Sh)->Dat E.D x
 |.d t=>dfl E t
 |.own _ _ | .tab _ _ _=>([]:List _)
 |.box _ cs | .agg cs | .tup cs | .fn _ cs=>a_mx cs
 |.ifc _ x=>dDat x
 |.alt x _=>Sum.inl (dDat x)
 |.map=>([]:List (Int×Int))
 |.any | .nil | .nilp | .nilif | .kb _=>()
def a_mx:(l:List Sh)->n_2 E.D l
 |[]=>()
 |x :: r=>mkDC (y_2 x) (n_6 r) (dDat x) (a_mx r)
end
def a_dn {D:Nat->Type} (t u:U) (x:List (Den D t)):Option (List (Den D u)):=if h:t=u then some (h▸x) else none
structure TD (E:Env) where
 D:(t:U)->V E.D->Option (Den E.D t)
 M:(t:U)->List (V E.D)->Option (Den E.D t)
 F:(ts:List U)->List (V E.D)->Option (HL E.D ts×List (V E.D))
 A:(t:U)->Nat->List (V E.D)->Option (List (Den E.D t)×List (V E.D))
def a_o0 {D:Nat->Type} (ik:IntKind) (v:V D):Option Int:=match asI v with
 |some (ik',x)=>match decide (ik'=ik) with | true=>some x | false=>none
 |none=>none
def a_nw {D:Nat->Type} (v:V D):Option ByteArray:=match v with | .d .str x=>some x | _=>none
def a_j1 (s:St E.D) (t:U) (v:V E.D):Option (List (Den E.D t)):=match v with
 |.nil=>some []
 |.d (.list t') xs=>a_dn t' t xs
 |
  .sl id=>match a_5 s id with
  |.fz t' xs=>a_dn t' t xs
  |_=>none
 |_=>none
def unD {D:Nat->Type}:V D->Option ((t:U)×Den D t)
 |.d t x=>some ⟨t,x⟩
 |_=>none
def a_8i {D:Nat->Type}:V D->Bool
 |.nilp=>true
 |_=>false
def a_q4 {α β:Type}:Option (α×List β)->Option α
 |some (x,[])=>some x
 |_=>none
def a_sf (r:TD E) (i:Nat) (v:V E.D):Option (E.D i):=match unD v with
 |some ⟨t',x⟩=>a_pa t' (.st i) x
 |
  none=>match a_rj v with
  |
   some l=>match a_q4 (r.F (E.fs i) l) with
   |some h=>some (E.mkS i h)
   |none=>none
  |none=>none
def a_n7 (r:TD E) (n:Nat) (t:U) (v:V E.D):Option (List (Den E.D t)):=match unD v with
 |some ⟨t',x⟩=>a_pa t' (.arr n t) x
 |
  none=>match a_rj v with
  |some l=>a_q4 (r.A t n l)
  |none=>none
def a_k4 (s:St E.D) (r:TD E) (t:U) (v:V E.D):Option (Den E.D t):=match v with
 |.pd t' x=>a_pa t' t x
 |.d (.ptr t') x=>a_pa t' t x
 |
  .pb id 0 []=>match a_5 s id with
  |.fzb _ cs=>r.M t cs
  |_=>none
 |_=>none
def a_oi (s:St E.D) (r:TD E) (t:U) (v:V E.D):Option (Option (Den E.D t)):=match a_8i v with
 |true=>some none
 |
  false=>match unD v with
  |some ⟨t',x⟩=>a_pa t' (.opt t) x
  |
   none=>match a_k4 E s r t v with
   |some y=>some (some y)
   |none=>none
def toDF (s:St E.D) (r:TD E):(t:U)->V E.D->Option (Den E.D t)
 |.int ik,v=>a_o0 ik v
 |.bool,v=>asB v
 |.str,v=>a_nw v
 |.list t,v=>a_j1 E s t v
 |.st i,v=>a_sf E r i v
 |.arr n t,v=>a_n7 E r n t v
 |.ptr t,v=>a_k4 E s r t v
 |.opt t,v=>a_oi E s r t v
def toMF (r:TD E) (t:U) (m:List (V E.D)):Option (Den E.D t):=match asV E (aggU t) m with
 |some v=>r.D t v
 |none=>none
def toFF (r:TD E) (ts:List U) (l:List (V E.D)):Option (HL E.D ts×List (V E.D)):=match ts with
 |[]=>some ((),l)
 |
  t :: ts=>match cutS E 100000 (szU E t) l with
  |
   some (m,q)=>match r.M t m,r.F ts q with
   |some x,some (h,q')=>some ((x,h),q')
   |_,_=>none
  |none=>none
def toAF (r:TD E) (t:U) (n:Nat) (l:List (V E.D)):Option (List (Den E.D t)×List (V E.D)):=match n with
 |0=>some ([],l)
 |
  n+1=>match cutS E 100000 (szU E t) l with
  |
   some (m,q)=>match r.M t m,r.A t n q with
   |some x,some (xs,q')=>some (x :: xs,q')
   |_,_=>none
  |none=>none
def td (s:St E.D):Nat->TD E
 |0=>⟨fun _ _=>none,fun _ _=>none,fun _ _=>none,fun _ _ _=>none⟩
 |k+1=>⟨toDF E s (td s k),toMF E (td s k),toFF E (td s k),toAF E (td s k)⟩
def toD (s:St E.D) (k:Nat) (t:U) (v:V E.D):Option (Den E.D t):=(td E s k).D t v
def frz:Nat->St E.D->List (V E.D)->Option (St E.D)
 |0,_,_=>none
 |_+1,s,[]=>some s
 |
  k+1,s,v :: r=>match v with
  |
   .sl id=>match a_5 s id with
   |.lst _ t xs=>frz k (s.at id (.fz t xs)) r
   |.fz ..=>frz k s r
   |.tab _ _ t xs none=>frz k (s.at id (.fz t xs)) r
   |_=>none
  |
   .pb id 0 []=>match a_5 s id with
   |
    .box T cs=>match frz k s cs with
    |
     some s1=>match a_5 s1 id with
     |.box T' cs'=>frz k (s1.at id (.fzb T' cs')) r
     |_=>none
    |none=>none
   |.fzb ..=>frz k s r
   |_=>none
  |.agg l=>frz k s (l++r)
  |.tup l=>frz k s (l++r)
  |_=>frz k s r
def big:Nat:=100000
def rdD (s:St E.D) (t:U) (v:V E.D):Option (St E.D×Den E.D t):=match frz E big s [v] with
 |
  some s1=>match toD E s1 big t v with
  |some x=>some (s1,x)
  |none=>none
 |none=>none
mutual
def fits (s:St E.D):Sh->V E.D->Bool
 |.any,_=>true
 |.nil,.nil=>true
 |.nilp,.nilp=>true
 |.nilif,.nilif=>true
 |.box ..,.pb _ 0 []=>true
 |.own ..,.sl _=>true
 |.own ..,.nil=>true
 |.tab ..,.sl _=>true
 |.tab ..,.nil=>true
 |.tup cs,.tup l=>a_5y s cs l
 |.agg cs,.agg l=>a_5y s cs l
 |.kb b,.kb b'=>b==b'
 |.d (.ptr _),.nilp=>false
 |.d _,.nilif=>false
 |.d _,_=>true
 |.alt x y,v=>fits s x v||fits s y v
 |.ifc T x,.ifc T' v=>Nat.beq T T'&&fits s x v
 |.fn f cs,.fn f' l=>Nat.beq f f'&&a_5y s cs l
 |.map,.mp _=>true
 |_,_=>false
def a_5y (s:St E.D):List Sh->List (V E.D)->Bool
 |[],[]=>true
 |x :: r,v :: l=>fits s x v&&a_5y s r l
 |_,_=>false
end
def a_1s:U->Bool
 |.list _=>true
 |_=>false
def nRow (t:U):Nat:=match t with
 |.st k=>(E.fs k).length
 |_=>1
def allB (l:List U):Bool:=match l with
 |[]=>true
 |t :: r=>a_1s t&&allB r
def a_cg (t:U) (F:List Nat):Bool:=Nat.beq (szU E t) F.length&&Nat.beq F.length (nRow E t)&&(match t with | .list _=>true | .st k=>allB (E.fs k) | _=>false)
structure Pk (α:Type) where
 ids:List (Option Nat)
 dat:α
mutual
def shSz:Sh->Nat
 |.d t=>szU E t
 |.agg cs=>b_mk cs
 |_=>1
def b_mk:List Sh->Nat
 |[]=>0
 |x :: r=>shSz x+b_mk r
end
def a_m9:List Sh->List (V E.D)->Option (List (V E.D))
 |[],[]=>some []
 |[],_=>none
 |
  x :: r,l=>match cutS E big (shSz E x) l with
  |
   some (m,l')=>match asV E (match x with | .d t=>aggU t | .agg _=>true | _=>false) m,a_m9 r l' with
   |some v,some vs=>some (v :: vs)
   |_,_=>none
  |none=>none
mutual
def fzs (s:St E.D):Sh->V E.D->List (V E.D)
 |.d _,v=>[v]
 |
  .box _ cs,v=>match v with
  |
   .pb id 0 []=>match a_5 s id with
   |.box _ l=>(match a_m9 E cs l with | some l'=>fzsL s cs l' | none=>[])
   |_=>[]
  |_=>[]
 |.agg cs,v=>match a_m9 E cs (r_1 v) with | some l=>fzsL s cs l | none=>[]
 |.tup cs,v=>match v with | .tup l=>fzsL s cs l | _=>[]
 |.fn _ cs,v=>match v with | .fn _ l=>fzsL s cs l | _=>[]
 |.ifc _ x,v=>match v with | .ifc _ u=>fzs s x u | _=>[]
 |.alt x y,v=>match fits E s x v with | true=>fzs s x v | false=>fzs s y v
 |_,_=>[]
def fzsL (s:St E.D):List Sh->List (V E.D)->List (V E.D)
 |x :: r,v :: l=>fzs s x v++fzsL s r l
 |_,_=>[]
end
def pk0:Option (Pk Unit):=some ⟨[],()⟩
def b_ga (s:St E.D) (e:Nat) (t:U) (v:V E.D):Option (Pk (List (Den E.D t))):=match v with
 |.nil=>some ⟨[none],[]⟩
 |
  .sl id=>match a_5 s id with
  |
   .lst e' t' xs=>match Nat.beq e e',a_dn t' t xs with
   |true,some ys=>some ⟨[some id],ys⟩
   |_,_=>none
  |_=>none
 |_=>none
def a_pl (s:St E.D) (e:Nat) (F:List Nat) (t:U) (v:V E.D):Option (Pk (List (Den E.D t))):=match v with
 |.nil=>match a_cg E t F with | true=>some ⟨[none],[]⟩ | false=>none
 |
  .sl id=>match a_5 s id with
  |
   .tab e' F' t' xs none=>match Nat.beq e e'&&F==F',a_dn t' t xs with
   |true,some ys=>some ⟨[some id],ys⟩
   |_,_=>none
  |_=>none
 |_=>none
def b_es (s:St E.D) (T:Nat) (cs:List Sh) (v:V E.D):Option (Nat×List (V E.D)):=match v with
 |
  .pb id 0 []=>match a_5 s id with
  |
   .box T' l=>match Nat.beq T T',a_m9 E cs l with
   |true,some l'=>some (id,l')
   |_,_=>none
  |_=>none
 |_=>none
def b_m7 {D:Nat->Type}:V D->Option (List (V D))
 |.tup l=>some l
 |_=>none
def unFn {D:Nat->Type} (f:Nat):V D->Option (List (V D))
 |.fn g l=>match Nat.beq f g with | true=>some l | false=>none
 |_=>none
def b_mv {D:Nat->Type} (T:Nat):V D->Option (V D)
 |.ifc T' u=>match Nat.beq T T' with | true=>some u | false=>none
 |_=>none
def b_fx (s:St E.D):V E.D->Option (Pk (List (Int×Int)))
 |.mp id=>match a_5 s id with | .map m=>some ⟨[some id],m⟩ | _=>none
 |_=>none
def isC {D:Nat->Type}:Sh->V D->Bool
 |.nil,.nil=>true
 |.nilp,.nilp=>true
 |.nilif,.nilif=>true
 |.kb b,.kb b'=>b==b'
 |_,_=>false
def a_7e:Sh->Bool
 |.any=>false
 |_=>true
mutual
def rd (s:St E.D):(sh:Sh)->V E.D->Option (Pk (Dat E.D sh))
 |.any,_=>pk0
 |.d t,v=>match toD E s big t v with | some x=>some ⟨[],x⟩ | none=>none
 |.own e t,v=>b_ga E s e t v
 |.tab e F t,v=>a_pl E s e F t v
 |
  .box T cs,v=>match b_es E s T cs v with
  |
   some (id,l)=>match rdL s cs l with
   |some ⟨ids,x⟩=>some ⟨ids++[some id],x⟩
   |none=>none
  |none=>none
 |
  .agg cs,v=>match isA v with
  |true=>match a_m9 E cs (r_1 v) with | some l=>rdL s cs l | none=>none
  |false=>none
 |.tup cs,v=>match b_m7 v with | some l=>rdL s cs l | none=>none
 |.fn f cs,v=>match unFn f v with | some l=>rdL s cs l | none=>none
 |
  .ifc T x,v=>match a_7e x with
  |true=>match b_mv T v with | some u=>rd s x u | none=>none
  |false=>none
 |
  .alt x y,v=>match a_7e x&&a_7e y with
  |
   true=>match fits E s x v with
   |true=>match rd s x v with | some ⟨ids,a⟩=>some ⟨ids,Sum.inl a⟩ | none=>none
   |false=>match rd s y v with | some ⟨ids,a⟩=>some ⟨ids,Sum.inr a⟩ | none=>none
  |false=>none
 |.map,v=>b_fx E s v
 |.nil,v=>match isC .nil v with | true=>pk0 | false=>none
 |.nilp,v=>match isC .nilp v with | true=>pk0 | false=>none
 |.nilif,v=>match isC .nilif v with | true=>pk0 | false=>none
 |.kb b,v=>match isC (.kb b) v with | true=>pk0 | false=>none
def rdL (s:St E.D):(cs:List Sh)->List (V E.D)->Option (Pk (n_2 E.D cs))
 |[],l=>match l with | []=>pk0 | _=>none
 |
  x :: r,l=>match l with
  |
   v :: l'=>match rd s x v,rdL s r l' with
   |some ⟨i,a⟩,some ⟨j,b⟩=>some ⟨i++j,mkDC (y_2 x) (n_6 r) a b⟩
   |_,_=>none
  |[]=>none
end
mutual
def mkV {R:Type} (s:St E.D):(sh:Sh)->Dat E.D sh->(St E.D->V E.D->Option R)->Option R
 |.any,_,k=>k s .undef
 |.d t,x,k=>k s (ofD t x)
 |.own e t,x,k=>k (s.new (.lst e t x)) (.sl s.nid)
 |.tab e F t,x,k=>k (s.new (.tab e F t x none)) (.sl s.nid)
 |.box T cs,x,k=>mkL s cs x fun s l=>k (s.new (.box T l)) (.pb s.nid 0 [])
 |.agg cs,x,k=>mkL s cs x fun s l=>k s (.agg (l.flatMap r_1))
 |.tup cs,x,k=>mkL s cs x fun s l=>k s (.tup l)
 |.fn f cs,x,k=>mkL s cs x fun s l=>k s (.fn f l)
 |.ifc T sh,x,k=>mkV s sh x fun s v=>k s (.ifc T v)
 |
  .alt a b,x,k=>match (show Dat E.D a ⊕ Dat E.D b from x) with
  |.inl y=>mkV s a y k
  |.inr y=>mkV s b y k
 |.map,x,k=>k (s.new (.map x)) (.mp s.nid)
 |.nil,_,k=>k s .nil
 |.nilp,_,k=>k s .nilp
 |.nilif,_,k=>k s .nilif
 |.kb b,_,k=>k s (.kb b)
def mkL {R:Type} (s:St E.D):(cs:List Sh)->n_2 E.D cs->(St E.D->List (V E.D)->Option R)->Option R
 |[],_,k=>k s []
 |x :: r,a,k=>mkV s x (a_mw (y_2 x) (n_6 r) (dDat E x) a) fun s v=>mkL s r (a_rl (y_2 x) (n_6 r) (a_mx E r) a) fun s l=>k s (v :: l)
end
structure Cut where
 sl:List (Nat×Sh)
 th:List (Nat×Sh)
def Cut.shs (c:Cut):List Sh:=c.sl.map Prod.snd++c.th.map Prod.snd
abbrev DatC (D:Nat->Type) (c:Cut):Type:=n_2 D c.shs
def getS {D:Nat->Type} (s:St D) (t:Nat):V D:=match lkp s.fr t with | some v=>v | none=>.undef
def thV {D:Nat->Type} (s:St D) (id:Nat):V D:=match a_5 s id with
 |.box ..=>.pb id 0 []
 |.fzb ..=>.pb id 0 []
 |.lst ..=>.sl id
 |.fz ..=>.sl id
 |.tab ..=>.sl id
 |.rof ..=>.sl id
 |.map _=>.mp id
 |.gone=>.undef
def a_t3 {α β:Type} (now was:List (Nat×α)) (c:List (Nat×β)):Bool:=
 (now.take (now.length-was.length)).all fun p=>(match lkp was p.1 with | none=>true | some _=>false)||(match lkp c p.1 with | none=>false | some _=>true)
def a_jh:List Nat->Bool
 |[]=>true
 |x :: r=>!(r.any (Nat.beq x))&&a_jh r
def a_99 (nid:Nat) (th:List (Nat×Sh)) (ids:List Nat):Bool:=
 a_jh ids&&ids.all fun i=>Nat.ble nid i||(match lkp th i with | none=>false | some _=>true)
def a_ii (s0 s:St E.D) (c:Cut):Option (DatC E.D c):=
 let vs:=c.sl.map (fun p=>getS s p.1)++c.th.map (fun p=>thV s p.1)
 match frz E big s (fzsL E s c.shs vs) with
 |
  some s1=>match rdL E s1 c.shs vs with
  |
   some ⟨ids,x⟩=>match a_t3 s1.fr s0.fr c.sl&&a_t3 s1.th s0.th c.th&&a_99 s0.nid c.th (ids.filterMap fun x=>x)&&(c.th.all fun p=>Nat.blt p.1 s0.nid)&&a_jh (c.th.map Prod.fst)&&(c.sl.all fun p=>Nat.blt p.1 s0.n) with
   |true=>some x
   |false=>none
  |none=>none
 |none=>none
def u_5 {D:Nat->Type} (s:St D):List (Nat×Sh)->List (V D)->St D
 |(t,_) :: r,v :: l=>u_5 (s.put (some t) v) r l
 |_,_=>s
def b_0 {D:Nat->Type} (s:St D):List Nat->St D
 |[]=>s
 |i :: r=>b_0 (s.at i .gone) r
def a_ak {D:Nat->Type} (q:Nat):List (Nat×Th D)->List Nat
 |[]=>[]
 |(r,.rof q' _ _) :: l=>match Nat.beq q q' with | true=>r :: a_ak q l | false=>a_ak q l
 |_ :: l=>a_ak q l
def x_7 {D:Nat->Type} (s:St D) (q:Nat):St D:=b_0 s (a_ak q s.th)
def a_ct {D:Nat->Type} (s:St D):List Nat->St D
 |[]=>s
 |q :: r=>a_ct (x_7 s q) r
def b_mz {D:Nat->Type}:Th D->Bool
 |.rof ..=>true
 |_=>false
def b_m0 {D:Nat->Type} (s:St D) (sh:Sh) (j:Nat):Bool:=match sh with
 |.tab _ F _=>(match a_5 s j with | .tab _ F' _ _ none=>Nat.beq F.length F'.length | _=>false)
 |_=>false
def mvT {D:Nat->Type} (s:St D) (id j:Nat) (sh:Sh):St D:=match b_mz (a_5 s j) with
 |true=>s.at id .gone
 |
  false=>match b_m0 s sh j with
  |true=>(s.at id (a_5 s j)).at j .gone
  |false=>((x_7 s id).at id (a_5 s j)).at j .gone
def a_d4 {D:Nat->Type} (s:St D) (id:Nat) (sh:Sh) (v:V D):St D:=match v with
 |.sl j=>mvT s id j sh
 |.pb j 0 []=>mvT s id j sh
 |.mp j=>mvT s id j sh
 |_=>s.at id .gone
def a_ag {D:Nat->Type} (s:St D):List (Nat×Sh)->List (V D)->St D
 |(t,sh) :: r,v :: l=>a_ag (a_d4 s t sh v) r l
 |_,_=>s
def a_f3 {R:Type} (s0:St E.D) (c:Cut) (x:DatC E.D c) (k:St E.D->Option R):Option R:=
 mkL E (b_0 s0 (c.th.map Prod.fst)) c.shs x fun s l=>k (a_ag (u_5 s c.sl l) c.th (l.drop c.sl.length))
inductive Ex where | nrm | ex (id:Nat) | ret
def Ex.eq:Ex->Ex->Bool
 |.nrm,.nrm=>true
 |.ex i,.ex j=>Nat.beq i j
 |.ret,.ret=>true
 |_,_=>false
def SumD (D:Nat->Type):List (Ex×Cut)->Type
 |[]=>Empty
 |[x]=>DatC D x.2
 |x :: y :: r=>DatC D x.2 ⊕ SumD D (y :: r)
def a_m6 (s0:St E.D) (e:Ex) (s:St E.D):(xs:List (Ex×Cut))->Option (SumD E.D xs)
 |[]=>none
 |[x]=>match x.1.eq e with | true=>a_ii E s0 s x.2 | false=>none
 |
  x :: y :: r=>match x.1.eq e with
  |true=>match a_ii E s0 s x.2 with | some a=>some (Sum.inl a) | none=>none
  |false=>match a_m6 s0 e s (y :: r) with | some a=>some (Sum.inr a) | none=>none
def resume {R:Type} (s0:St E.D) (k:Ex->St E.D->Option R):(xs:List (Ex×Cut))->SumD E.D xs->Option R
 |[],_=>none
 |[x],a=>a_f3 E s0 x.2 a (k x.1)
 |
  x :: y :: r,a=>match (show DatC E.D x.2 ⊕ SumD E.D (y :: r) from a) with
  |.inl b=>a_f3 E s0 x.2 b (k x.1)
  |.inr b=>resume s0 k (y :: r) b
structure Ann where
 js:List (Nat×List (Ex×Cut))
 ls:List (Nat×Cut×List (Ex×Cut))
 rs:List (Nat×Nat×Nat×Cut)
 tb:List Nat:=[]
structure Sm (D:Nat->Type) where
 f:Nat
 ins:List Sh
 res:Sh
 back:List (Nat×Sh)
 m:n_2 D ins->Option (n_2 D (res :: back.map Prod.snd))
structure Cx0 where
 sm:List (Sm E.D)
 ann:Nat->Ann
 fuel:Nat
 tb:List Nat:=[]
def a_v8:List (Sm E.D)->Nat->Option (Sm E.D)
 |[],_=>none
 |x :: r,f=>match Nat.beq x.f f with | true=>some x | false=>a_v8 r f
def scal:Sh->Bool
 |.d (.int _) | .d .bool | .d .str | .own _ (.int _) | .own _ .bool | .any | .nil | .nilp | .kb _=>true
 |_=>false
def a_53:Sh->Bool
 |.tup cs=>cs.all scal
 |x=>scal x
def idOf {D:Nat->Type}:V D->Option Nat
 |.sl i=>some i
 |.pb i 0 []=>some i
 |.mp i=>some i
 |_=>none
def n_0 {D:Nat->Type} (args:List (V D)):List (Nat×Sh)->List (Nat×Sh)
 |[]=>[]
 |
  (j,sh) :: r=>match args[j]? with
  |
   some v=>match idOf v with
   |some i=>(i,sh) :: n_0 args r
   |none=>n_0 args r
  |none=>n_0 args r
def a_5z {R:Type} (s:St E.D) (c:Sm E.D) (args:List (V E.D)) (k:St E.D->V E.D->Option R):Option R:=
 match frz E big s (fzsL E s c.ins args) with
 |
  some s1=>match rdL E s1 c.ins args with
  |
   some ⟨ids,x⟩=>match a_jh (ids.filterMap fun x=>x)&&Nat.beq (n_0 args c.back).length c.back.length with
   |true=>Option.bind (c.m x) fun y=>
     mkL E (b_0 (match a_53 c.res&&c.back.all (fun p=>scal p.2) with | true=>s | false=>s1) (ids.filterMap fun x=>x)) (c.res :: c.back.map Prod.snd) y fun s2 l=>match l with
      |v :: l'=>k (a_ag (a_ct s2 ((n_0 args c.back).map Prod.fst)) (n_0 args c.back) l') v
      |[]=>none
   |false=>none
  |none=>none
 |none=>none
def b_mb (T:Nat):Option Value:=match E.P.info? T with
 |some i=>i.zero
 |none=>none
def a_kn (e:Nat):Option (Value×Nat×Nat):=match E.P.info? e with
 |
  some i=>match i.zero with
  |some z=>some (z,i.size,i.bytes)
  |none=>none
 |none=>none
def a_if (T:Nat):Option Nat:=match E.P.underlying T with
 |some (.slice e)=>some e
 |_=>none
def toDs (s:St E.D) (t:U):List (V E.D)->Option (List (Den E.D t))
 |[]=>some []
 |
  v :: r=>match toD E s big t v,toDs s t r with
  |some x,some xs=>some (x :: xs)
  |_,_=>none
def a_5w:Nat->List (Nat×Operand)->Bool
 |_,[]=>true
 |j,(i,_) :: r=>Nat.beq i j&&a_5w (j+1) r
def opEq:Operand->Operand->Bool
 |.tmp a,.tmp b=>Nat.beq a b
 |_,_=>false
abbrev K (R:Type):=St E.D->V E.D->Option R
def a_6f {R:Type} (s:St E.D) (T:Nat) (k:K E R):Option R:=match b_mb E T with
 |
  some z=>match z.cells.toList.all (·.oneCell') with
  |true=>k (s.new (.box T (r_1 (ofZ E z)))) (.pb s.nid 0 [])
  |false=>none
 |none=>none
def boxN {R:Type} (s:St E.D) (T:Nat) (v:V E.D) (k:K E R):Option R:=match stor v with
 |true=>k (s.new (.box T (r_1 v))) (.pb s.nid 0 [])
 |false=>none
def a_vg {D:Nat->Type} (s:St D) (id:Nat):Option (Nat×List (V D)):=match a_5 s id with
 |.box T l=>some (T,l)
 |_=>none
def a_nj (s:St E.D) (id:Nat):Option (Nat×((t:U)×List (Den E.D t))):=match a_5 s id with
 |.lst e t xs=>some (e,⟨t,xs⟩)
 |_=>none
def segD (l:List (V E.D)):Option (((t:U)×Den E.D t)×List (V E.D)):=match l with
 |.d t x :: r=>some (⟨t,x⟩,r)
 |_=>none
def b_ms:List Field->Option (List Nat)
 |[]=>some []
 |
  x :: r=>match a_if E x.type,b_ms r with
  |some e,some l=>some (e :: l)
  |_,_=>none
def tabF (e:Nat):Option (List Nat):=match E.P.underlying e with
 |some (.slice e')=>some [e']
 |some (.struct l)=>b_ms E l.toList
 |_=>none
def b_mx {D:Nat->Type} (g:(u:U)->List (Den D u)->Option (List (Den D u))):(t:U)->Den D t->Option (Den D t)
 |.list u,x=>g u x
 |_,_=>none
def a_2j {D:Nat->Type} (g:(u:U)->List (Den D u)->Option (List (Den D u))) (u:U) (x:List (Den D u)):Nat->Option (List (Den D u))
 |0=>g u x
 |_=>none
def a_2a (k:Nat) (o:Option (HL E.D (E.fs k))):Option (E.D k):=match o with
 |some h=>some (E.mkS k h)
 |none=>none
def setRow (t:U) (x:Den E.D t) (f:Nat) (g:(u:U)->List (Den E.D u)->Option (List (Den E.D u))):Option (Den E.D t):=match t,x with
 |.list u,x=>a_2j g u x f
 |.st k,x=>a_2a E k (setF (E.fs k) (E.un k x) f (b_mx g))
 |_,_=>none
def a_ig (s:St E.D) (id:Nat):Option (Nat×List Nat×Option (Int×Nat)×((t:U)×List (Den E.D t))):=match a_5 s id with
 |.tab e F t xs o=>some (e,F,o,⟨t,xs⟩)
 |_=>none
def a_58 (t:U) (q:List Stp):Option Nat:=match t,q with
 |.list _,[]=>some 0
 |.st k,[.inl (f,o)]=>match Nat.beq (a_gt E (E.fs k) f) o with | true=>some f | false=>none
 |_,_=>none
def rowV (s:St E.D) (e:Nat) (u:U) (v:V E.D):Option (Option Nat×List (Den E.D u)):=match v with
 |.nil=>some (none,[])
 |
  .sl j=>match a_nj E s j with
  |
   some (e',⟨u',ys⟩)=>match Nat.beq e e',a_dn u' u ys with
   |true,some zs=>some (some j,zs)
   |_,_=>none
  |none=>none
 |_=>none
def a_ms {D:Nat->Type} (s:St D):Option Nat->St D
 |some id=>s.at id .gone
 |none=>s
def b_mo (o:Option (Int×Nat)) (i:Int) (f:Nat):Option Bool:=match o with
 |none=>none
 |some (j,g)=>match Nat.beq f g with | true=>some (decide (j=i)) | false=>some false
def rowU (t:U) (f:Nat):Option U:=match t with
 |.list u=>match f with | 0=>some u | _=>none
 |.st k=>match fldU (E.fs k) f with | some (.list u)=>some u | _=>none
 |_=>none
def b_e2 {R:Type} (s:St E.D) (id:Nat) (i:Int) (z:Nat) (q:List Stp) (v:V E.D) (k:K E R):Option R:=match a_ig E s id with
 |
  some (e,F,o,⟨t,xs⟩)=>match Nat.beq z (szU E t),a_58 E t q with
  |
   true,some f=>match rowU E t f,F[f]? with
   |
    some u,some e'=>match rowV E s e' u v with
    |
     some (g,ys)=>match setRow E t (gtD E t xs i) f (fun u' _=>a_dn u u' ys) with
     |
      some x=>match b_mo o i f with
      |none=>k ((x_7 (a_ms s g) id).at id (.tab e F t (xs.set i.toNat x) none)) (.tup [])
      |some b=>if b then k ((x_7 (a_ms s g) id).at id (.tab e F t (xs.set i.toNat x) none)) (.tup []) else none
     |none=>none
    |none=>none
   |_,_=>none
  |_,_=>none
 |none=>none
def b_d7 {R:Type} (s:St E.D) (n:Nat) (r:Nat) (j:Int) (f:Nat) (i:Int) (z:Nat) (q:List Stp) (v:V E.D) (k:K E R):Option R:=match rofV E s r j f with
 |
  some ⟨t,_⟩=>match Nat.beq z (szU E t),typP E t q with
  |
   true,some u=>match rdD E s u v with
   |
    some (s1,y)=>match a_ig E s1 r with
    |some (e,F,none,⟨t0,xs⟩)=>match setRow E t0 (gtD E t0 xs j) f (fun u' ys=>match Nat.beq z (szU E u')&&Nat.beq (szU E u) n,setP E u y q u' (gtD E u' ys i) with
      |true,some x=>some (ys.set i.toNat x)
      |_,_=>none) with
     |some x=>k (s1.at r (.tab e F t0 (xs.set j.toNat x) none)) (.tup [])
     |none=>none
    |_=>none
   |none=>none
  |_,_=>none
 |none=>none
def a_08 {R:Type} (s:St E.D) (T:Nat) (p v:V E.D) (k:K E R):Option R:=match szT E T with
 |none=>none
 |
  some n=>match Nat.beq (vsz E v) n&&stor v with
  |false=>none
  |
   true=>match p with
   |
    .pb id off []=>match a_vg s id with
    |
     some (T',cs)=>match segs E off n cs with
     |some (a,_,c)=>k (s.at id (.box T' (a++r_1 v++c))) (.tup [])
     |none=>none
    |none=>none
   |
    .pb id off q=>match rdP s id off q v with
    |some (s1,T',l)=>k (s1.at id (.box T' l)) (.tup [])
    |none=>none
   |
    .pe id i z q=>match a_5 s id with
    |.tab ..=>match Nat.beq n 1 with | true=>b_e2 E s id i z q v k | false=>none
    |.rof r j f=>b_d7 E s n r j f i z q v k
    |
     _=>match a_nj E s id with
     |
      some (_,⟨t,_⟩)=>match Nat.beq z (szU E t),typP E t q with
      |
       true,some u=>match rdD E s u v with
       |
        some (s1,y)=>match a_nj E s1 id with
        |
         some (e,⟨t',xs⟩)=>match Nat.beq z (szU E t')&&Nat.beq (szU E u) n,setP E u y q t' (gtD E t' xs i) with
         |true,some x=>k (s1.at id (.lst e t' (xs.set i.toNat x))) (.tup [])
         |_,_=>none
        |none=>none
       |none=>none
      |_,_=>none
     |none=>none
   |_=>none
where
 /-- A store c_5 an element of an array within a variable. -/
 rdP (s:St E.D) (id off:Nat) (q:List Stp) (v:V E.D):Option (St E.D×Nat×List (V E.D)):=match a_vg s id with
  |
   some (_,cs)=>match cutS E big off cs with
   |
    some (_,m)=>match segD E m with
    |
     some (⟨t,_⟩,_)=>match typP E t q with
     |
      some u=>match Nat.beq (szU E u) (vsz E v),rdD E s u v with
      |
       true,some (s1,y)=>match a_vg s1 id with
       |
        some (T',cs')=>match cutS E big off cs' with
        |
         some (a,m')=>match segD E m' with
         |
          some (⟨t',x'⟩,c)=>match setP E u y q t' x' with
          |some z=>some (s1,T',a++.d t' z :: c)
          |none=>none
         |none=>none
        |none=>none
       |none=>none
      |_,_=>none
     |none=>none
    |none=>none
   |none=>none
  |none=>none
def srcV (s:St E.D) (t:U) (y:V E.D):Option (List (Den E.D t)):=match y with
 |.nil=>some []
 |
  y=>match lstV E s y with
  |some ⟨t',ys⟩=>a_dn t' t ys
  |none=>none
def dstV (s:St E.D) (e:Nat) (t:U) (x:V E.D):Option (Option Nat×List (Den E.D t)):=match x with
 |.nil=>some (none,[])
 |
  .sl id=>match a_nj E s id with
  |
   some (e',⟨t',xs⟩)=>match Nat.beq e e',a_dn t' t xs with
   |true,some ys=>some (some id,ys)
   |_,_=>none
  |none=>none
 |_=>none
def elOk (t:U) (z:Value) (sz bytes:Nat):Bool:=Nat.beq sz (szU E t)&&Nat.beq z.cells.size sz&&Nat.blt 0 sz&&Nat.blt 0 bytes
def dstT (s:St E.D) (e:Nat) (F:List Nat) (t:U) (x:V E.D):Option (Option Nat×List (Den E.D t)):=match x with
 |.nil=>some (none,[])
 |
  .sl id=>match a_ig E s id with
  |
   some (e',F',none,⟨t',xs⟩)=>match Nat.beq e e'&&F==F',a_dn t' t xs with
   |true,some ys=>some (some id,ys)
   |_,_=>none
  |_=>none
 |_=>none
def rofX (s:St E.D) (x:V E.D):Option (Nat×Int×Nat):=match x with
 |
  .sl id=>match a_5 s id with
  |.rof r j f=>some (r,j,f)
  |_=>none
 |_=>none
def b_ht (s:St E.D) (y:V E.D):Option Nat:=match y with
 |
  .sl id=>match a_5 s id with
  |.tab ..=>some id
  |_=>none
 |_=>none
def b_d3 {R:Type} (s:St E.D) (T:Nat) (x:V E.D) (iy:Nat) (k:K E R):Option R:=match a_if E T with
 |none=>none
 |
  some e=>match E.uT e,a_kn E e,a_ig E s iy with
  |
   some t,some (z,sz,bytes),some (e2,F,none,⟨t',ys'⟩)=>match elOk E t z sz bytes&&Nat.beq e e2&&a_cg E t F,a_dn t' t ys',dstT E s e F t x with
   |
    true,some ys,some (g,xs)=>match (match g with | some ix=>!(Nat.beq ix iy) | none=>true) with
    |true=>if a_8 bytes xs ys then k (((a_ms s g).at iy .gone).new (.tab e F t (xs++ys) none)) (.sl s.nid) else none
    |false=>none
   |_,_,_=>none
  |_,_,_=>none
def a_8m (s:St E.D) (r:Nat) (j:Int) (f:Nat):Option (St E.D):=match a_ig E s r with
 |
  some (e,F,none,⟨t,xs⟩)=>match rofV E s r j f,F[f]? with
  |some ⟨u,zs⟩,some e'=>some (((x_7 s r).at r (.tab e F t xs (some (j,f)))).new (.lst e' u zs))
  |_,_=>none
 |_=>none
def a_wj {R:Type} (s:St E.D) (T:Nat) (x y:V E.D) (k:K E R):Option R:=match a_if E T with
 |none=>none
 |
  some e=>match E.uT e,a_kn E e with
  |
   some t,some (z,sz,bytes)=>match elOk E t z sz bytes,srcV E s t y,dstV E s e t x with
   |true,some ys,some (g,xs)=>if a_8 bytes xs ys then k ((a_ms s g).new (.lst e t (xs++ys))) (.sl s.nid) else none
   |_,_,_=>none
  |_,_=>none
def unDf {D:Nat->Type}:V D->Option ((t:U)×List (Den D t))
 |.df t xs=>some ⟨t,xs⟩
 |_=>none
def b_c7 {R:Type} (s:St E.D) (T:Nat) (t':U) (xs':List (Den E.D t')) (y:V E.D) (k:K E R):Option R:=match a_if E T with
 |none=>none
 |
  some e=>match E.uT e,a_kn E e with
  |
   some t,some (z,sz,bytes)=>match elOk E t z sz bytes,srcV E s t y,a_dn t' t xs' with
   |true,some ys,some xs=>if a_8 bytes xs ys then k s (.d (.list t) (xs++ys)) else none
   |_,_,_=>none
  |_,_=>none
def a_2e {R:Type} (s:St E.D) (T:Nat) (x y:V E.D) (k:K E R):Option R:=match unDf x with
 |some ⟨t,xs⟩=>b_c7 E s T t xs y k
 |none=>a_wj E s T x y k
def a_2d {R:Type} (s:St E.D) (T:Nat) (x y:V E.D) (k:K E R):Option R:=match rofX E s x with
 |
  some (r,j,f)=>match a_8m E s r j f with
  |some s1=>a_wj E s1 T (.sl s.nid) y k
  |none=>none
 |
  none=>match b_ht E s y with
  |some iy=>b_d3 E s T x iy k
  |none=>a_2e E s T x y k
def a_23 {R:Type} (s:St E.D) (T:Nat) (t':U) (xs':List (Den E.D t')) (y:V E.D) (k:K E R):Option R:=match a_if E T with
 |none=>none
 |
  some e=>match E.uT e,a_kn E e with
  |
   some t,some (z,sz,bytes)=>match elOk E t z sz bytes,srcV E s t y,a_dn t' t xs' with
   |true,some ys,some xs=>if xs.isEmpty&&a_8 bytes xs ys then k (s.new (.lst e t ys)) (.sl s.nid) else none
   |_,_,_=>none
  |_,_=>none
def apdV {R:Type} (b:Bool) (s:St E.D) (T:Nat) (x y:V E.D) (k:K E R):Option R:=match b,unDf x with
 |true,some ⟨t,xs⟩=>a_23 E s T t xs y k
 |_,_=>a_2d E s T x y k
def bsV {R:Type} (s:St E.D) (T n:Nat) (parts:List (Nat×Operand)) (k:K E R):Option R:=match a_if E T with
 |
  some e=>match E.uT e,a_kn E e with
  |
   some t,some (z,sz,bytes)=>match elOk E t z sz bytes&&Nat.beq n parts.length&&a_5w 0 parts&&Nat.ble n 10000&&Nat.ble sz 1000&&(parts.all fun p=>(stor (e_2 E s p.2))&&Nat.beq (vsz E (e_2 E s p.2)) sz),frz E big s (parts.map fun p=>e_2 E s p.2) with
   |
    true,some s1=>match toDs E s1 t (parts.map fun p=>e_2 E s p.2) with
    |some xs=>k (s1.new (.lst e t xs)) (.sl s1.nid)
    |none=>none
   |_,_=>none
  |_,_=>none
 |none=>none
def emp {D:Nat->Type}:St D:=⟨0,[],[],0,[]⟩
def b_gc {R:Type} (s:St E.D) (T:Nat) (n m:Operand) (k:K E R):Option R:=match a_if E T,asI (e_2 E s n),opEq n m with
 |
  some e,some (_,x),true=>match E.uT e,a_kn E e with
  |
   some t,some (z,sz,bytes)=>match elOk E t z sz bytes,toD E emp big t (ofZ E z) with
   |true,some zx=>if g_3 bytes x then k (s.new (.lst e t (List.replicate x.toNat zx))) (.sl s.nid) else none
   |_,_=>none
  |_,_=>none
 |_,_,_=>none
def isNil {D:Nat->Type}:V D->Bool
 |.nil=>true
 |_=>false
def b_fg {R:Type} (s:St E.D) (T:Nat) (n m:Operand) (k:K E R):Option R:=match a_if E T,asI (e_2 E s n),opEq n m with
 |
  some e,some (_,x),true=>match E.uT e,a_kn E e,tabF E e with
  |
   some t,some (z,sz,bytes),some F=>match elOk E t z sz bytes&&a_cg E t F&&(r_1 (ofZ E z)).all isNil,toD E emp big t (ofZ E z) with
   |true,some zx=>if g_3 bytes x then k (s.new (.tab e F t (List.replicate x.toNat zx) none)) (.sl s.nid) else none
   |_,_=>none
  |_,_,_=>none
 |_,_,_=>none
def bsT {R:Type} (s:St E.D) (T n:Nat) (parts:List (Nat×Operand)) (k:K E R):Option R:=match a_if E T,parts,n with
 |
  some e,[(0,x)],1=>match E.uT e,a_kn E e,tabF E e with
  |
   some (.list u),some (z,sz,bytes),some [e']=>match elOk E (.list u) z sz bytes&&a_cg E (.list u) [e'],rowV E s e' u (e_2 E s x) with
   |true,some (g,ys)=>k ((a_ms s g).new (.tab e [e'] (.list u) [ys] none)) (.sl s.nid)
   |_,_=>none
  |_,_,_=>none
 |_,_,_=>none
def inTb (tb:List Nat) (o:Oper):Bool:=match o.dst with
 |some d=>tb.any (Nat.beq d)
 |none=>false
def b_f0 {R:Type} (s:St E.D) (T T':Nat) (x:V E.D) (k:K E R):Option R:=match x with
 |
  .sl id=>match Nat.beq T T',E.P.underlying T,a_nj E s id with
  |
   true,some (.slice e),some (_,⟨.int .u8,xs⟩)=>match E.P.underlying e with
   |some (.int .u8)=>if !xs.isEmpty then k (s.at id (.fz (.int .u8) xs)) (.sl id) else none
   |_=>none
  |_,_,_=>none
 |_=>none
def copyV {R:Type} (s:St E.D) (T:Nat) (x y:V E.D) (k:K E R):Option R:=match E.P.underlying T,x with
 |
  some (.slice e),.sl id=>match szT E e with
  |
   some 1=>match a_5 s id with
   |
    .lst e' t xs=>match Nat.beq (szU E t) 1,srcV E s t y with
    |true,some ys=>k (s.at id (.lst e' t (i_1 xs ys))) (dI .i64 ((Nat.min ys.length xs.length:Nat):Int))
    |_,_=>none
   |
    .rof r j f=>match a_ig E s r,rofV E s r j f with
    |
     some (e0,F,none,⟨t0,xs0⟩),some ⟨t,xs⟩=>match Nat.beq (szU E t) 1,srcV E s t y with
     |
      true,some ys=>match setRow E t0 (gtD E t0 xs0 j) f (fun u' zs=>match a_dn t u' ys with | some ws=>some (i_1 zs ws) | none=>none) with
      |some x=>k (s.at r (.tab e0 F t0 (xs0.set j.toNat x) none)) (dI .i64 ((Nat.min ys.length xs.length:Nat):Int))
      |none=>none
     |_,_=>none
    |_,_=>none
   |_=>none
  |_=>none
 |_,_=>none
def evE {R:Type} (tb:List Nat) (s:St E.D) (o:Oper) (k:K E R):Option R:=match o.op with
 |.alloc T=>a_6f E s T k
 |.box T x=>boxN E s T (e_2 E s x) k
 |.store T p x=>a_08 E s T (e_2 E s p) (e_2 E s x) k
 |.buildSlice T n parts=>match inTb tb o with | true=>bsT E s T n parts.toList k | false=>bsV E s T n parts.toList k
 |.makeSlice T n m=>match inTb tb o with | true=>b_fg E s T n m k | false=>b_gc E s T n m k
 |
  .call c=>match c.callee,c.args.toList,c.argTypes.toList with
  |
   .builtin .append,[x,y],[T,T']=>match Nat.beq T T' with
   |true=>apdV E (inTb tb o) s T (e_2 E s x) (e_2 E s y) k
   |false=>none
  |
   .builtin .copy,[x,y],[T,T']=>match Nat.beq T T' with
   |true=>copyV E s T (e_2 E s x) (e_2 E s y) k
   |false=>none
  |_,_,_=>none
 |.convert T T' x=>b_f0 E s T T' (e_2 E s x) k
 |_=>none
def borP (s:St E.D) (T:Nat) (p:V E.D):Option (Nat×Int×Nat):=match p with
 |
  .pe id i z q=>match a_ig E s id with
  |
   some (_,F,none,⟨t,_⟩)=>match a_ch E T,szT E T,a_58 E t q with
   |some false,some 1,some f=>match Nat.beq z (szU E t)&&Nat.blt f F.length with | true=>some (id,i,f) | false=>none
   |_,_,_=>none
  |_=>none
 |_=>none
def borV (s:St E.D) (o:Oper):Option (Nat×Int×Nat):=match o.op with
 |.load T x=>borP E s T (e_2 E s x)
 |_=>none
end
