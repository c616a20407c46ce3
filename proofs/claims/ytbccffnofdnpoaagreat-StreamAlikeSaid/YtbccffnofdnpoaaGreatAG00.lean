/- P. Its conditions: none. -/
import Derived.Tactics
import Derived.Orders
import Derived.Deep.Quiet
import Derived.KernelRfl
import Derived.Below
import Derived.Laws.OwnMore
import Derived.Laws.MakeOwn
import Derived.Deep.Draws
import Derived.Deep.AppendLies
open Bool (and_eq_true)
set_option linter.all false
theorem Go.O' {P:Prop}(h:P:=by omega):P:=h
theorem Go.Z' {P:Prop}(h:P:=by simp;omega):P:=h
theorem Go.V' {P:Prop}(h:P:=by simp):P:=h
namespace Go.V
abbrev FL:=List (Nat×Value)
def look?:FL->Nat->Option Value
 |[],_=>none
 |(k,v) :: r,t=>if k=t then some v else look? r t
def lk (l:FL):Operand->Value
 |.tmp t=>(look? l t).getD undef
 |.const v=>v
 |.global g=>.pointer (some ⟨g,0,none⟩)
 |.func f=>.func (.func f) #[] #[]
def h0s (l:FL):Operand->Bool
 |.tmp t=>(look? l t).isSome
 |_=>true
structure Ag (n:Nat)(l:FL)(a:Act):Prop where
 size:a.tmps.size=n
 defers:a.defers=[]
 slot:∀k v,look? l k=some v->a.tmps[k]?=some v
def Ag.eval {n:Nat}{l:FL}{a:Act}(h:Ag n l a){x:Operand}(b:h0s l x=true):a.eval x=lk l x:=by
 cases x with
 |tmp t=>
  simp only[h0s,Option.isSome_iff_exists]at b;obtain⟨v,c⟩:=b;have:=h.slot t v c
  simp_all[Act.eval,lk]
 |const v=>rfl
 |global g=>rfl
 |func f=>rfl
def E8 (l:FL)(d:Option Nat)(v:Value):FL:=
 match d with
 |none=>l
 |some d=>(d,v) :: l
def Ag.put {n:Nat}{l:FL}{a:Act}(h:Ag n l a)(d:Option Nat)(v:Value)(hd:∀k,d=some k->k<n):Ag n (E8 l d v) (a.put d v):=by
 cases d with
 |none=>exact h
 |some d=>
  have b:=hd d rfl;refine⟨by simp[Act.put,h.size],by simp[Act.put,h.defers],fun k u hk=>?_⟩;simp only[E8,look?]at hk;simp only[Act.put]
  by_cases e:d=k
  ·subst e;simp only[if_true,Option.some.injEq]at hk;subst hk;rw[Array.getElem?_setIfInBounds_self_of_lt (by rw[h.size];omega)]
  ·rw[if_neg e]at hk;rw[Array.getElem?_setIfInBounds_ne e];exact h.slot k u hk
def r0C (l:FL):FL->Prop
 |[]=>True
 |(k,v) :: r=>look? l k=some v/\r0C l r
def w0l {l:FL}:∀{l':FL},r0C l l'->∀k v,look? l' k=some v->look? l k=some v
 |(k',v') :: r,h,k,v,hk=>by
  simp only[look?]at hk
  by_cases e:k'=k
  ·subst e;simp only[if_true,Option.some.injEq]at hk;subst hk;exact h.1
  ·rw[if_neg e]at hk;exact w0l h.2 k v hk
theorem Ag.of {n:Nat}{l l':FL}{a:Act}(h:Ag n l a)(b:r0C l l'):Ag n l' a:=⟨h.size,h.defers,fun k v hk=>h.slot k v (w0l b k v hk)⟩
def gate (ops:Array Oper)(l:FL)(o:Oper):Option Bool:=
 match o.guard with
 |none=>some true
 |some (j,want)=>
  match(ops[j]?).bind (·.dst)with
  |some d=>match look? l d with
   |some (.bool b)=>some (b==want)
   |some (.tuple _)=>some false
   |_=>none
  |none=>none
def i0K {ops:Array Oper}{n:Nat}{l:FL}{a:Act}(h:Ag n l a){o:Oper}{b:Bool}(hg:gate ops l o=some b):Region.wanted o (yielded ops a.tmps)=b:=by
 unfold gate at hg;unfold Region.wanted;cases f:o.guard with
 |none=>simp_all
 |some jw=>
  obtain⟨j,want⟩:=jw;simp only[f]at hg;cases hd:(ops[j]?).bind (·.dst)with
  |none=>simp_all
  |some d=>
   simp only[hd]at hg;cases hl:look? l d with
   |none=>simp_all
   |some v=>
    have hs:=h.slot d v hl;simp only[hl]at hg;unfold yielded;cases v<;>simp at hg
    case bool c=>simp_all
    simp_all
def j01 (n:Nat)(o:Oper):Bool:=
 match o.dst with
 |some d=>decide (d<n)
 |none=>true
theorem y0T {n:Nat}{o:Oper}(h:j01 n o=true):∀k,o.dst=some k->k<n:=by
 grind [j01]
def x0v:Op->Bool
 |.select ..=>false
 |_=>true
theorem D0D {n:Nat}{l:FL}{a:Act}(h:Ag n l a){o:Oper}(hs:x0v o.op=true)(hk:o.op.operands.all (h0s l)=true):execOp a.eval o=execOp (lk l) o:=by
 refine execOp_congr o ?_ ?_
 ·intro cs b e;rw[e]at hs;cases hs
 ·intro x c;exact h.eval (by grind [Array.all_eq_true_iff_forall_mem])
def fit (n:Nat)(l:FL)(o:Oper):Bool:=x0v o.op&&o.op.operands.all (h0s l)&&j01 n o
def m0P {n:Nat}{l:FL}{o:Oper}(h:fit n l o=true):∀k,o.dst=some k->k<n:=by
 simp only[fit,and_eq_true]at h;exact y0T h.2
theorem m0S {n:Nat}{l:FL}{o:Oper}(h:fit n l o=true){a:Act}(ha:Ag n l a):execOp a.eval o=execOp (lk l) o:=by
 simp only[fit,and_eq_true]at h
 grind [D0D]
section
variable {P:Program}{ops:Array Oper}{n:Nat}{Q:Exit->Act->World->Prop}
def d0b {l:FL}{a:Act}{w w':World}{o:Oper}{rest:List Oper}{v:Value}(ha:Ag n l a)(b:(gate ops l o==some true&&fit n l o)=true)
  (d:(execOp (lk l) o).run P w=.ok (.value v) w') (h:∀c,Ag n (E8 l o.dst v) c->wpList P ops Q rest c w'):wpList P ops Q (o :: rest) a w:=by
 simp only[and_eq_true,beq_iff_eq]at b;unfold wpList;rw[if_pos (i0K ha b.1)];refine .inl ?_;simp only[Oper.wp,m0S b.2 ha,d,Oper.upon];exact h _ (ha.put _ _ (m0P b.2))
def H0Z {l:FL}{a:Act}{w w':World}{o:Oper}{rest:List Oper}(ha:Ag n l a)(b:(gate ops l o==some true&&fit n l o)=true)
  (d:(execOp (lk l) o).run P w=.ok .skip w') (h:∀c,Ag n (E8 l o.dst undef) c->wpList P ops Q rest c w'):wpList P ops Q (o :: rest) a w:=by
 simp only[and_eq_true,beq_iff_eq]at b;unfold wpList;rw[if_pos (i0K ha b.1)];refine .inl ?_;simp only[Oper.wp,m0S b.2 ha,d,Oper.upon];exact h _ (ha.put _ _ (m0P b.2))
def H0U {l:FL}{a:Act}{w:World}{o:Oper}{rest:List Oper}(ha:Ag n l a)(b:(gate ops l o==some false&&j01 n o)=true)
  (h:∀c,Ag n (E8 l o.dst undef) c->wpList P ops Q rest c w):wpList P ops Q (o :: rest) a w:=by
 simp only[and_eq_true,beq_iff_eq]at b;unfold wpList;rw[i0K ha b.1];exact h _ (ha.put _ _ (y0T b.2))
def t0K {l:FL}{a:Act}{w w':World}{o:Oper}{rest:List Oper}{f:FuncId}{args:Array Value}(ha:Ag n l a)(c:(gate ops l o==some true&&fit n l o)=true)
  (i:(execOp (lk l) o).run P w=.ok (.enter f args) w') {R:Value->World->Prop} (g:Calls P f args w' fun e b=>∃v,e=.returned v/\R v b)
  (h:∀v b,R v b->∀d,Ag n (E8 l o.dst v) d->wpList P ops Q rest d b):wpList P ops Q (o :: rest) a w:=by
 simp only[and_eq_true,beq_iff_eq]at c;unfold wpList;rw[if_pos (i0K ha c.1)];refine .inl ?_;simp only[Oper.wp,m0S c.2 ha,i,Oper.upon];refine g.mono ?_
 rintro e b ⟨v,rfl,hv⟩
 exact h v b hv _ (ha.put _ _ (m0P c.2))
def B1 (P:Program)(ops:Array Oper)(n:Nat):Nat->List Oper->FL->World->Option (List Oper×FL×World)
 |0,xs,l,w=>some (xs,l,w)
 |_+1,[],_,_=>none
 |k+1,o :: rest,l,w=>
  match gate ops l o with
  |some true=>
   if fit n l o then
    match(execOp (lk l) o).run P w with
    |.ok (.value v) w'=>B1 P ops n k rest (E8 l o.dst v) w'
    |.ok .skip w'=>B1 P ops n k rest (E8 l o.dst undef) w'
    |_=>none
   else none
  |some false=>if j01 n o then B1 P ops n k rest (E8 l o.dst undef) w else none
  |none=>none
theorem k0i:∀(k:Nat) (xs:List Oper) (l:FL) (w:World) (rest:List Oper) (l':FL) (w':World),B1 P ops n k xs l w=some (rest,l',w')->
  ∀a,Ag n l a->(∀c,Ag n l' c->wpList P ops Q rest c w')->wpList P ops Q xs a w
 |0,xs,l,w,rest,l',w',h,a,ha,hk=>by
  simp only[B1,Option.some.injEq,Prod.mk.injEq]at h
  simp_all
 |k+1,[],l,w,rest,l',w',h,a,ha,hk=>by grind [B1]
 |k+1,o :: xs,l,w,rest,l',w',h,a,ha,hk=>by
  unfold B1 at h;split at h
  ·split at h
   ·split at h
    ·rename_i v w1 d;exact d0b ha (by simp_all) d fun c b=>k0i k xs _ _ rest l' w' h c b hk
    ·rename_i w1 d;exact H0Z ha (by simp_all) d fun c b=>k0i k xs _ _ rest l' w' h c b hk
    grind
   grind
  ·split at h
   ·exact H0U ha (by simp_all) fun c b=>k0i k xs _ _ rest l' w' h c b hk
   grind
  grind
def a0K (P:Program)(ops:Array Oper)(n k:Nat)(ks:List Nat)(xs:List Oper)(l:FL)(w:World):Option (List Oper×FL×World):=
 (B1 P ops n k xs l w).map fun r=>(r.1,ks.filterMap (fun t=>(look? r.2.1 t).map fun v=>(t,v)),r.2.2)
theorem l0I (l:FL):∀(ks:List Nat) (k:Nat) (v:Value),look? (ks.filterMap (fun t=>(look? l t).map fun v=>(t,v))) k=some v->look? l k=some v
 |[],k,v,h=>by grind [look?]
 |t :: ks,k,v,h=>by
  cases a:look? l t with
  |none=>
   simp only[List.filterMap_cons,a,Option.map_none]at h;exact l0I l ks k v h
  |some u=>
   simp only[List.filterMap_cons,a,Option.map_some,look?]at h
   by_cases e:t=k
   ·simp_all
   ·rw[if_neg e]at h;exact l0I l ks k v h
def j0w {k:Nat}{ks:List Nat}{xs:List Oper}{l:FL}{w:World}{l':FL}{w':World}{a:Act}(ha:Ag n l a)
  (h:a0K P ops n k ks xs l w=some (xs.drop k,l',w')) (hk:∀c,Ag n l' c->wpList P ops Q (xs.drop k) c w'):wpList P ops Q xs a w:=by
 unfold a0K at h;cases hs:B1 P ops n k xs l w with
 |none=>simp_all
 |some r=>
  obtain⟨r1,r2,f⟩:=r;simp only[hs,Option.map_some,Option.some.injEq,Prod.mk.injEq]at h;obtain⟨rfl,rfl,rfl⟩:=h;exact k0i k xs l w _ r2 _ hs a ha fun c b=>hk c ⟨b.size,b.defers,fun t v d=>b.slot t v (l0I r2 ks t v d)⟩
theorem k0S {P:Program}{ops:Array Oper}{n:Nat}:∀(k:Nat) (xs:List Oper) (l:FL) (w:World) (r:List Oper) (l':FL) (w':World),B1 P ops n k xs l w=some (r,l',w')->∀t,(∀o∈xs.take k,o.dst≠some t)->look? l' t=look? l t
 |0,xs,l,w,r,l',w',h,t,_=>by
  simp_all[B1]
 |k+1,[],l,w,r,l',w',h,t,_=>by grind [B1]
 |k+1,o :: xs,l,w,r,l',w',h,t,ht=>by
  have hp:∀v,look? (E8 l o.dst v) t=look? l t:=by
   intro v;cases hd:o.dst with
   |none=>rfl
   |some d=>
    simp_all[E8,look?]
  have a:∀o∈xs.take k,o.dst≠some t:=fun o b=>ht o (by grind);unfold B1 at h;split at h
  ·split at h
   ·split at h
    ·rw[k0S k xs _ _ r l' w' h t a,hp]
    ·rw[k0S k xs _ _ r l' w' h t a,hp]
    grind
   grind
  ·split at h
   ·rw[k0S k xs _ _ r l' w' h t a,hp]
   grind
  grind
def z0W {t:Nat}{v:Value}:∀(d l:FL),look? (d++l) t=some v->look? d t=some v\/(look? d t=none/\look? l t=some v)
 |[],l,h=>.inr ⟨rfl,h⟩
 |(k,u) :: d,l,h=>by
  simp only[List.cons_append,look?]at h ⊢
  by_cases e:k=t
  ·simp_all
  simp_all[z0W]
def A0g {t:Nat}:∀(d:FL),look? d t=none->(d.any fun e=>e.1==t)=false
 |[],_=>rfl
 |(k,u) :: d,h=>by
  simp only[look?]at h
  by_cases e:k=t
  ·simp_all
  simp_all[A0g]
def dok (xs:List Oper)(d l:FL):Bool:=xs.all fun o=>match o.dst with|none=>true|some t=>(d.any fun e=>e.1==t)||(look? l t).isNone
def sk {P:Program}{ops:Array Oper}{n:Nat}{Q:Exit->Act->World->Prop}{xs:List Oper}{l:FL}{w:World}{a:Act}(ha:Ag n l a)(k:Nat)(d:FL)(hk:∀c,Ag n (d++l) c->wpList P ops Q (xs.drop k) c w)
  (h:a0K P ops n k (d.map Prod.fst) xs l w=some (xs.drop k,d,w):=by kernel_rfl) (i:dok (xs.take k) d l=true:=by kernel_rfl):wpList P ops Q xs a w:=by
 unfold a0K at h;cases hs:B1 P ops n k xs l w with
 |none=>simp_all
 |some r=>
  obtain⟨r1,r2,m⟩:=r;simp only[hs,Option.map_some,Option.some.injEq,Prod.mk.injEq]at h;obtain⟨rfl,f,rfl⟩:=h;refine k0i k xs l _ _ r2 _ hs a ha fun c b=>hk c ⟨b.size,b.defers,fun t v g=>?_⟩;rcases z0W d l g with h4|⟨h4,h5⟩
  ·exact b.slot t v (l0I r2 _ t v (by rw[f];exact h4))
  ·refine b.slot t v ?_;rw[k0S k xs l _ _ r2 _ hs t ?_,h5];intro o j hd;have:=List.all_eq_true.1 i o j
   simp_all[A0g]
end
inductive X0 (σ τ:Type) where
 |next (s:σ)
 |done (t:τ)
def iter {σ τ:Type}(step:σ->Option (X0 σ τ)):Nat->σ->Option τ
 |0,_=>none
 |k+1,s=>match step s with
  |none=>none
  |some (.next a)=>iter step k a
  |some (.done t)=>some t
section
variable {P:Program}{n:Nat}{Q:Exit->Act->World->Prop}
def E6 {id:Nat}{xs:List Oper}{a:Act}{w:World}(h:wpList P xs.toArray Q xs a w):(Code.region id xs.toArray false).wp P Q a w:=wp_region_lit h
def N0r {c:Operand}{x y:Code}{l:FL}{a:Act}{w:World}(ha:Ag n l a)(hk:(h0s l c&&(lk l c matches .bool false))=true)(h:y.wp P Q a w):(Code.cond c x y).wp P Q a w:=by
 simp only[and_eq_true]at hk;refine wp_cond_false ?_ h;rw[ha.eval hk.1];have:=hk.2;split at this<;>simp_all
def t0I {t:Nat}{b:Bool}{x y:Code}{l:FL}{a:Act}{w:World}(ha:Ag n l a)(hk:look? l t=some (.bool b))(d:b=true->x.wp P Q a w)(c:b=false->y.wp P Q a w):(Code.cond (.tmp t) x y).wp P Q a w:=by
 have he:a.eval (.tmp t)=.bool b:=by rw[ha.eval (by simp[h0s,hk])];simp[lk,hk]
 cases b with
 |true=>exact wp_cond_true he (d rfl)
 |false=>exact wp_cond_false he (c rfl)
def w0C {σ τ:Type}{step:σ->Option (X0 σ τ)}{body:Code}{I:σ->Act->World->Prop}{D:τ->Exit->Act->World->Prop}
  (round:∀s c a w,I s a w->step s=some c->body.wp P (Exit.then (fun f w'=>∃i,c=.next i/\I i f w') (fun e f w'=>∃t,c=.done t/\D t e f w')) a w):
  ∀(k:Nat) (s:σ) (t:τ) (a:Act) (w:World),iter step k s=some t->I s a w->(Code.loop body).wp P (D t) a w:=by
 intro k s t a w hk m b ks cs;have key:∀(k:Nat) (s:σ) (a:Act) (w:World),iter step k s=some t->I s a w->
   ∃e f w',D t e f w'/\Arrives P (lone (b.at a (.code body :: .inLoop body :: ks)) cs w) b ks cs e f w':=by
  intro k
  induction k with
  |zero=>intro s a w h _;simp[iter]at h
  |succ k ih=>
   intro s a w h m;unfold iter at h;cases hs:step s with
   |none=>simp[hs]at h
   |some c=>
    obtain⟨e,o,p,hq,d⟩:=round s c a w m hs b (.inLoop body :: ks) cs;cases e with
    |normal=>
     obtain⟨i,rfl,l⟩:=hq;simp only[hs]at h;obtain⟨q,r,u,j,g⟩:=ih i o p h l;exact⟨q,r,u,j,.of_steps (Steps.trans d (.one step_inLoop)) g⟩
    |_=>
     obtain⟨y,rfl,hd⟩:=hq;simp only[hs,Option.some.injEq]at h;subst h;exact⟨_,o,p,hd,.pass (x:=.inLoop body) rfl (fun _ _=>.inl V') d⟩
 obtain⟨e,f,w',hq,d⟩:=key k s a w hk m;exact⟨e,f,w',hq,.of_steps (.one step_loop) d⟩
def h0N (vs:List Value):Nat->FL:=
 match vs with
 |[]=>fun _=>[]
 |v :: r=>fun k=>(k,v) :: h0N r (k+1)
def A0p:∀(vs:List Value) (i k:Nat) (v:Value),look? (h0N vs i) k=some v->i<=k/\vs[k-i]?=some v
 |[],i,k,v,h=>by simp[h0N,look?]at h
 |x :: r,i,k,v,h=>by
  simp only[h0N,look?]at h
  by_cases e:i=k
  ·subst e;simp only[if_true,Option.some.injEq]at h;subst h;simp
  ·rw[if_neg e]at h;obtain⟨h1,a⟩:=A0p r (i+1) k v h;refine⟨O',?_⟩;have:k-i=(k-(i+1))+1:=O'
   rw[this];simpa using a
def n0H {f:FuncId}{fn:Func}{c:Code}{vs:List Value}{w:World}{R:Ending->World->Prop}(d:P.funcs[f]?=some fn)(g:fn.body=some c)(hn:(decide (vs.length<=fn.ntmps))=true)
  (h:∀a,Ag fn.ntmps (h0N vs 0) a->c.wp P (bodyPost P fn R) a w):Calls P f vs.toArray w R:=
 calls_of_wp d g (h _ ⟨by simp at hn ⊢;omega,rfl,fun k v hk=>by
  obtain⟨_,b⟩:=A0p vs 0 k v hk;simp only[Nat.sub_zero]at b;rw[Array.getElem?_append_left (by
   rcases Nat.lt_or_ge k vs.length with hl|hl
   ·simpa using hl
   ·rw[List.getElem?_eq_none hl]at b;cases b)]
  simpa using b⟩)
def enter {f:FuncId}{fn:Func}{c:Code}{args:Array Value}{w:World}{R:Ending->World->Prop}(b:P.funcs[f]?=some fn)(d:fn.body=some c){l:FL}
  (hl:∀k v,look? l k=some v->(args++Array.replicate (fn.ntmps-args.size) undef)[k]?=some v) (hn:args.size<=fn.ntmps)
  (h:∀a,Ag fn.ntmps l a->c.wp P (bodyPost P fn R) a w):Calls P f args w R:=
 calls_of_wp b d (h _ ⟨Z',rfl,hl⟩)
def O0I (fn:Func)(R:Value->World->Prop):∀c a w,¬bodyPost P fn (fun e w'=>∃v,e=.returned v/\R v w') (.panic c) a w:=by
 rintro c a w ⟨_,v,h,_⟩;cases h
end
end Go.V
namespace Go.V
open Go.RowKit
abbrev M0:=Array Obj
abbrev E0:=Nat->Prop
structure Y0 (H:M0)(S:E0)(H':M0)(S':E0):Prop where
 size:H.size<=H'.size
 blk:∀b,b<H.size->¬S b->¬S' b/\H'[b]?=H[b]?
def Y0.refl (H:M0)(S:E0):Y0 H S H S:=⟨Nat.le_refl _,fun _ _ h=>⟨h,rfl⟩⟩
def Y0.trans {H H1 c:M0}{S S1 a:E0}(h:Y0 H S H1 S1)(k:Y0 H1 S1 c a):Y0 H S c a:=
 ⟨Nat.le_trans h.size k.size,fun b d hs=>by
  obtain⟨h1,f⟩:=h.blk b d hs;obtain⟨g,k2⟩:=k.blk b (Nat.lt_of_lt_of_le d h.size) h1
  simp_all⟩
theorem Y0.less {H:M0}{S S':E0}(h:∀b,S' b->S b):Y0 H S H S':=⟨Nat.le_refl _,fun b _ hn=>⟨fun a=>hn (h b a),rfl⟩⟩
structure Ty (α:Type) where
 sz:Nat
 R:M0->E0->List Value->α->Prop
 len:∀{H S cs x},R H S cs x->cs.length=sz
 one:∀{H S cs x},R H S cs x->∀v∈cs,v.oneCell'=true
 J1:∀{H S H' S' cs x},Y0 H S H' S'->R H S cs x->R H' S' cs x
def D2 (H:M0)(b o:Nat):Option Value:=
 match H[b]? with
 |some (.cells c _ _)=>c[o]?
 |_=>none
theorem g0Y (w:World)(b o:Nat):w.cell? ⟨b,o,none⟩=D2 w.heap b o:=by
 rfl
theorem v0E {H:M0}{b o:Nat}{v:Value}(h:D2 H b o=some v):b<H.size:=by
 grind [D2]
def f07 {H H':M0}{b o:Nat}(h:H'[b]?=H[b]?):D2 H' b o=D2 H b o:=by simp_all[D2]
def Y5 {α:Type}(T:Ty α)(H:M0)(S:E0)(A:Option Addr)(xs:List α):Prop:=
 ∀(i:Nat) (x:α),xs[i]?=some x->∃b o cs,A=some ⟨b,o,none⟩/\T.R H S cs x/\∀j v,cs[j]?=some v->D2 H b (o+i*T.sz+j)=some v
def Sl {α:Type}(T:Ty α)(H:M0)(S:E0)(A:Option Addr)(c:Nat)(xs:List α):Prop:=
 xs.length<=c/\(xs≠[]->∃b o,A=some ⟨b,o,none⟩/\b<H.size/\¬S b)/\Y5 T H S A xs
def Sl.rdb {α:Type}{T:Ty α}{H:M0}{S:E0}{A:Option Addr}{c:Nat}{xs:List α}(h:Sl T H S A c xs):Y5 T H S A xs:=h.2.2
theorem Sl.J1 {α:Type}{T:Ty α}{H H':M0}{S S':E0}{A:Option Addr}{c:Nat}{xs:List α}(k:Y0 H S H' S')(h:Sl T H S A c xs):Sl T H' S' A c xs:=by
 refine⟨h.1,fun d=>?_,fun i x d=>?_⟩
 ·obtain⟨b,o,f,a,hs⟩:=h.2.1 d;exact⟨b,o,f,Nat.lt_of_lt_of_le a k.size,(k.blk b a hs).1⟩
 ·have g:xs≠[]:=by grind
  obtain⟨b,o,f,a,hs⟩:=h.2.1 g;obtain⟨b',q,cs,l,m,p⟩:=h.2.2 i x d;exact⟨b,o,cs,f,T.J1 k m,fun j v r=>by rw[f07 (k.blk b a hs).2];simp_all⟩
theorem Sl.nil {α:Type}{T:Ty α}{H:M0}{S:E0}{A:Option Addr}{c:Nat}:Sl T H S A c []:=⟨V',fun h=>absurd rfl h,fun i x a=>by grind⟩
abbrev W (n:Int):Int:=IntKind.i64.wrap n
def O3 (k:IntKind)(a b:Int):Int:=k.wrap (BitVec.ofInt k.bits a&&& BitVec.ofInt k.bits b).toNat
def bor (k:IntKind)(a b:Int):Int:=k.wrap (BitVec.ofInt k.bits a ||| BitVec.ofInt k.bits b).toNat
def k0z (k:IntKind)(a b:Int):Int:=k.wrap (BitVec.ofInt k.bits a ^^^ BitVec.ofInt k.bits b).toNat
def u0M (k:IntKind)(a b:Int):Int:=k.wrap (BitVec.ofInt k.bits a&&& ~~~BitVec.ofInt k.bits b).toNat
def shr (k:IntKind)(a b:Int):Int:=a.fdiv (2 ^ min b.toNat k.bits)
def shl (k:IntKind)(a b:Int):Int:=k.wrap (a*2 ^ min b.toNat k.bits)
def J0e {α:Sort _}{b:Bool}{x y:α}(h:b=true):(if b then x else y)=x:=if_pos h
theorem J0a {α:Sort _}{b:Bool}{x y:α}(h:b=false):(if b then x else y)=y:=by grind
def s0l {α:Type _}{b:Bool}{x:Option α}{r:α}(h:(if b then x else none)=some r):b=true/\x=some r:=by
 simp_all
def c0p {α β:Type _}{m:Option α}{f:α->Option β}{r:β}(h:Option.bind m f=some r):∃x,m=some x/\f x=some r:=by
 cases m with
 |none=>cases h
 |some x=>simp_all
def D0R {G:Prop}{n t:Nat}{b:Bool}{l:FL}{a:Act}(ha:Ag n l a)(hl:look? l t=some (.bool b))(f:b=true->Ag n ((t,.bool true) :: l) a->G)(d:b=false->Ag n ((t,.bool false) :: l) a->G):G:=by
 have key:∀b',b=b'->Ag n ((t,.bool b') :: l) a:=fun b' e=>⟨ha.size,ha.defers,fun k v hk=>by
  simp only[look?]at hk
  by_cases c:t=k
  ·subst c;simp only[if_true,Option.some.injEq]at hk;subst hk;subst e;exact ha.slot _ _ hl
  ·rw[if_neg c]at hk;exact ha.slot k v hk⟩
 cases b with
 |true=>simp_all
 |false=>simp_all
def Ag.to {n:Nat}{l l':FL}{a:Act}(ha:Ag n l a)(h:l'.map (fun p=>look? l p.1)=l'.map (fun p=>some p.2)):Ag n l' a:=by
 refine⟨ha.size,ha.defers,?_⟩
 induction l' with
 |nil=>simp[look?]
 |cons p r ih=>
  intro k v hk;simp only[List.map_cons,List.cons.injEq]at h;obtain⟨b,c⟩:=p;simp only[look?]at hk
  by_cases e:b=k
  ·subst e;simp only[if_true,Option.some.injEq]at hk;subst hk;exact ha.slot _ _ h.1
  simp_all
def F0z {P:Program}{c:Code}{Q:Exit->Act->World->Prop}{D:Act->World->Prop}{a:Act}{w:World}(h:c.wp P (Exit.then D Q) a w)(hd:∀a w,D a w->Q .normal a w):c.wp P Q a w:=
 wp_mono h fun e a w hq=>by cases e<;>first|exact hd _ _ hq|exact hq
def gt {α:Type}[Inhabited α](l:List α)(i:Int):α:=l.getD i.toNat default
def C0 {α:Type}(l:List α)(i:Int):Bool:=decide (0<=i)&&decide (i<l.length)
def b0O {α:Type}{l:List α}{i:Int}(h:C0 l i=true):0<=i/\i<l.length:=by simp_all[C0]
def m0e {α:Type}[Inhabited α]{l:List α}{i:Int}(h:C0 l i=true):l[i.toNat]?=some (gt l i):=by
 have:=b0O h
 simp_all[gt]
def Y5.get {α:Type}[Inhabited α]{T:Ty α}{H:M0}{S:E0}{A:Option Addr}{xs:List α}(h:Y5 T H S A xs){i:Int}(hi:C0 xs i=true):
  ∃b o cs,A=some ⟨b,o,none⟩/\T.R H S cs (gt xs i)/\∀j v,cs[j]?=some v->D2 H b (o+i.toNat*T.sz+j)=some v:=h _ _ (m0e hi)
theorem Y5.at {α:Type}[Inhabited α]{T:Ty α}{H:M0}{S:E0}{b o:Nat}{xs:List α}(h:Y5 T H S (some ⟨b,o,none⟩) xs){i:Int}(hi:C0 xs i=true):
  ∃cs,T.R H S cs (gt xs i)/\∀j v,cs[j]?=some v->D2 H b (o+i.toNat*T.sz+j)=some v:=by
 obtain⟨b',c,cs,a,d⟩:=h.get hi
 grind
def Z1 (k:IntKind):Ty Int where
 sz:=1
 R:=fun _ _ cs x=>cs=[.int k x]
 len:=by simp
 one:=by rintro _ _ _ _ rfl v a;simp at a;subst a;rfl
 J1:=fun _ h=>h
def b0h:Ty Bool where
 sz:=1
 R:=fun _ _ cs x=>cs=[.bool x]
 len:=by simp_all
 one:=by rintro _ _ _ _ rfl v a;simp at a;subst a;rfl
 J1:=fun _ h=>h
def I3 {α:Type}(T:Ty α):Ty (List α) where
 sz:=1
 R:=fun H S cs xs=>∃(A:Option Addr) (c:Nat),cs=[.slice A xs.length c]/\Sl T H S A c xs
 len:=by simp_all
 one:=by rintro _ _ _ _ ⟨_,_,rfl,_⟩ v hv;simp at hv;subst hv;rfl
 J1:=fun k ⟨A,c,h1,h2⟩=>⟨A,c,h1,h2.J1 k⟩
def Row (H:M0)(e:TypeId)(sz:Nat)(v:Value)(n:Nat)(cs:List Value):Prop:=
 cs.length=n*sz/\((v=.slice none 0 0/\n=0)\/
  ∃g cap cur,v=.slice (some ⟨g,0,none⟩) n cap/\H[g]?=some (.cells cur e (0,0))/\n<=cap/\cap<=maxLen/\cur.size=cap*sz/\cur.toList.take (n*sz)=cs)
def Row.own {w:World}{e:TypeId}{sz:Nat}{v:Value}{n:Nat}{cs:List Value}(h:Row w.heap e sz v n cs):w.ownsRow 0 e sz v n cs:=by
 obtain⟨a,h1|⟨g,cap,cur,b,r⟩⟩:=h
 ·exact⟨a,.inl h1⟩
 ·exact⟨a,.inr ⟨g,cap,cur,b,Nat.zero_le _,r⟩⟩
theorem Row.of {w:World}{B:Nat}{e:TypeId}{sz:Nat}{v:Value}{n:Nat}{cs:List Value}(h:w.ownsRow B e sz v n cs):Row w.heap e sz v n cs:=by
 obtain⟨a,h1|⟨g,cap,cur,b,_,r⟩⟩:=h
 ·exact⟨a,.inl h1⟩
 ·exact⟨a,.inr ⟨g,cap,cur,b,r⟩⟩
def V1 {α:Type}(T:Ty α)(H:M0)(S:E0)(cs:List Value)(xs:List α):Prop:=
 cs.length=xs.length*T.sz/\∀(i:Nat) (x:α),xs[i]?=some x->T.R H S ((cs.drop (i*T.sz)).take T.sz) x
theorem V1.nil {α:Type}{T:Ty α}{H:M0}{S:E0}:V1 T H S [] []:=⟨V',fun i x a=>by grind⟩
def V1.J1 {α:Type}{T:Ty α}{H H':M0}{S S':E0}{cs:List Value}{xs:List α}(k:Y0 H S H' S')(h:V1 T H S cs xs):V1 T H' S' cs xs:=
 ⟨h.1,fun i x a=>T.J1 k (h.2 i x a)⟩
theorem V1.append {α:Type}{T:Ty α}{H:M0}{S:E0}{cs b:List Value}{xs ys:List α}(h:V1 T H S cs xs)(k:V1 T H S b ys):V1 T H S (cs++b) (xs++ys):=by
 refine⟨by simp[h.1,k.1,Nat.add_mul],fun i x a=>?_⟩;rcases Nat.lt_or_ge i xs.length with hi|hi
 ·rw[List.getElem?_append_left hi]at a;have c:=h.2 i x a;have hle:i*T.sz+T.sz<=cs.length:=by rw[h.1,<-Nat.succ_mul];exact Nat.mul_le_mul_right _ hi
  grind
 ·rw[List.getElem?_append_right hi]at a;have k2:=k.2 _ x a;have e:i*T.sz=cs.length+(i-xs.length)*T.sz:=by rw[h.1,<-Nat.add_mul];simp_all
  simp_all
theorem V1.one {α:Type}{T:Ty α}{H:M0}{S:E0}{cs:List Value}{x:α}(h:T.R H S cs x):V1 T H S cs [x]:=by
 refine⟨by simp[T.len h],fun i y a=>?_⟩;cases i with
 |zero=>
  simp at a;subst a;simp only[Nat.zero_mul,List.drop_zero];rw[List.take_of_length_le (by rw[T.len h];omega)];exact h
 |succ i=>grind
theorem V1.f0y {α:Type}{T:Ty α}{H:M0}{S:E0}{cs:List Value}{xs:List α}(h:V1 T H S cs xs):∀v∈cs,v.oneCell'=true:=by
 intro v g;obtain⟨p,hp,rfl⟩:=List.getElem_of_mem g;have b:p<xs.length*T.sz:=by rw[<-h.1];exact hp
 have a:0<T.sz:=by
  grind
 have hi:p / T.sz<xs.length:=(Nat.div_lt_iff_lt_mul a).2 b;have d:=h.2 (p / T.sz) _ (List.getElem?_eq_getElem hi);refine T.one d _ ?_;have c:=Nat.mod_lt p a;have f:p / T.sz*T.sz+p % T.sz=p:=by simp[Nat.mul_comm,Nat.div_add_mod]
 refine List.mem_iff_getElem?.2 ⟨p % T.sz,?_⟩
 simp_all
def Ow {α:Type}(T:Ty α)(e:TypeId)(M:E0)(H:M0)(S:E0)(v:Value)(xs:List α):Prop:=
 (∀k,v.ownBlock=some k->S k/\M k)/\∃cs,Row H e T.sz v xs.length cs/\V1 T H S cs xs
def inV (v:Value)(S:E0):E0:=fun k=>v.ownBlock=some k\/S k
section
variable {α:Type}{T:Ty α}{e:TypeId}{M M':E0}{H H':M0}{S S':E0}{v:Value}{xs:List α}
theorem Ow.form (h:Ow T e M H S v xs):∃A c,v=.slice A xs.length c:=by
 obtain⟨_,cs,⟨_,h1⟩,_⟩:=h
 grind
theorem Ow.cap {A:Option Addr}{n c:Nat}(h:Ow T e M H S (.slice A n c) xs):xs.length<=c:=by
 obtain⟨_,cs,⟨_,h1⟩,_⟩:=h
 grind
def Ow.own (h:Ow T e M H S v xs):∀k,v.ownBlock=some k->S k/\M k:=h.1
theorem Ow.lt (h:Ow T e M H S v xs):∀k,v.ownBlock=some k->k<H.size:=by
 obtain⟨_,cs,⟨_,h1⟩,_⟩:=h;rcases h1 with⟨rfl,a⟩|⟨g,cap,cur,rfl,hg,_⟩
 ·simp[Value.ownBlock]
 grind [Value.ownBlock]
theorem Ow.rdb {A:Option Addr}{n c:Nat}(h:Ow T e M H S (.slice A n c) xs):Y5 T H S A xs:=by
 obtain⟨_,cs,⟨hl,h1⟩,he⟩:=h;intro i x b;have hi:i<xs.length:=by
  grind
 rcases h1 with⟨a,f⟩|⟨g,cap,cur,a,hg,hnc,hm,hcs,htake⟩
 ·omega
 ·obtain⟨rfl,rfl,rfl⟩:=a;refine⟨g,0,_,rfl,he.2 i x b,fun j u k=>?_⟩;have d:j<T.sz:=by
   grind
  unfold D2
  grind
def Ow.J1 (k:Y0 H S H' S')(h:Ow T e M H S v xs)(hs:∀b,S b->S' b)(c:∀b,v.ownBlock=some b->H'[b]?=H[b]?):Ow T e M H' S' v xs:=by
 obtain⟨a,cs,⟨hl,h1⟩,he⟩:=h;refine⟨fun k hk=>⟨hs k (a k hk).1,(a k hk).2⟩,cs,⟨hl,?_⟩,he.J1 k⟩;rcases h1 with h1|⟨g,cap,cur,rfl,hg,r⟩
 ·simp_all
 ·exact .inr ⟨g,cap,cur,rfl,by simp_all[Value.ownBlock],r⟩
def Ow.u0I (h:Ow T e M H S v xs)(hs:∀b,S' b->S b)(c:∀b,v.ownBlock=some b->S' b):Ow T e M H S' v xs:=by
 obtain⟨a,cs,h1,he⟩:=h;exact⟨fun k hk=>⟨c k hk,(a k hk).2⟩,cs,h1,he.J1 (Y0.less hs)⟩
def Ow.c04 (h:Ow T e M H S v xs)(hm:∀k,v.ownBlock=some k->M' k):Ow T e M' H S v xs:=⟨fun k hk=>⟨(h.1 k hk).1,hm k hk⟩,h.2⟩
def Ow.freeze {A:Option Addr}{n c:Nat}(h:Ow T e M H S (.slice A n c) xs)(hs:∀b,S' b->S b)(hn:∀b,(Value.slice A n c).ownBlock=some b->¬S' b):Sl T H S' A c xs:=by
 refine⟨h.cap,fun d=>?_,?_⟩
 ·obtain⟨_,cs,⟨hl,h1⟩,he⟩:=h;rcases h1 with⟨f,m⟩|⟨g,cap,cur,f,hg,hnc,hm,hcs,htake⟩
  ·simp_all
  ·obtain⟨rfl,rfl,rfl⟩:=f;exact⟨g,0,rfl,(Array.getElem?_eq_some_iff.1 hg).1,hn g (by rfl)⟩
 ·have j:=h.rdb;intro i x d;obtain⟨b,o,cs,l,a,k⟩:=j i x d;exact⟨b,o,cs,l,T.J1 (Y0.less hs) a,k⟩
theorem Ow.nil:Ow T e M H S (.slice none 0 0) []:=⟨fun k hk=>by grind [Value.ownBlock],[],⟨V',.inl ⟨rfl,rfl⟩⟩,V1.nil⟩
end
def Bx (H:M0)(S:E0)(b:Nat)(t:TypeId)(cs:List Value):Prop:=H[b]?=some (.cells cs.toArray t (0,0))/\¬S b
def Mb (M:E0)(H:M0)(S:E0)(b:Nat)(t:TypeId)(cs:List Value):Prop:=H[b]?=some (.cells cs.toArray t (0,0))/\S b/\M b
def getElem?_lt {H:M0}{b:Nat}{o:Obj}(h:H[b]?=some o):b<H.size:=(Array.getElem?_eq_some_iff.1 h).1
def Bx.f0D {H:M0}{S:E0}{b:Nat}{t:TypeId}{cs:List Value}(h:Bx H S b t cs):b<H.size:=getElem?_lt h.1
def Mb.f0D {M:E0}{H:M0}{S:E0}{b:Nat}{t:TypeId}{cs:List Value}(h:Mb M H S b t cs):b<H.size:=getElem?_lt h.1
def Bx.J1 {H H':M0}{S S':E0}{b:Nat}{t:TypeId}{cs:List Value}(k:Y0 H S H' S')(h:Bx H S b t cs):Bx H' S' b t cs:=by
 obtain⟨h1,a⟩:=k.blk b (getElem?_lt h.1) h.2;exact⟨a.trans h.1,h1⟩
def Bx.cell {H:M0}{S:E0}{b:Nat}{t:TypeId}{cs:List Value}(h:Bx H S b t cs)(j:Nat)(v:Value)(a:cs[j]?=some v):D2 H b j=some v:=by
 unfold D2;rw[h.1];simp_all
def Mb.cell {M:E0}{H:M0}{S:E0}{b:Nat}{t:TypeId}{cs:List Value}(h:Mb M H S b t cs)(j:Nat)(v:Value)(a:cs[j]?=some v):D2 H b j=some v:=by
 unfold D2;rw[h.1];simp_all
def Mb.J1 {M:E0}{H H':M0}{S S':E0}{b:Nat}{t:TypeId}{cs:List Value}(h:Mb M H S b t cs)(hs:∀b,S b->S' b)(a:H'[b]?=H[b]?):Mb M H' S' b t cs:=
 ⟨a.trans h.1,hs b h.2.1,h.2.2⟩
structure E9 (W0:E0)(w w1:World):Prop where
 os:w1.os=w.os
 tape:w1.tape=w.tape
 output:w1.output=w.output
 size:w.heap.size<=w1.heap.size
 block:∀k,k<w.heap.size->¬W0 k->w1.heap[k]?=w.heap[k]?
def C6:E0:=fun _=>False
def E9.below {w w1:World}(h:E9 C6 w w1):Below w.heap.size w w1:=⟨h.os,h.tape,h.output,h.size,fun k hk=>h.block k hk (fun h=>h)⟩
def E9.trans {W0:E0}{w w1 a:World}(h:E9 W0 w w1)(b:Below w1.heap.size w1 a):E9 W0 w a:=
 ⟨b.os.trans h.os,b.tape.trans h.tape,b.output.trans h.output,Nat.le_trans h.size b.size,fun k hk hn=>(b.block k (Nat.lt_of_lt_of_le hk h.size)).trans (h.block k hk hn)⟩
def Wr (W0:E0)(w0:World):E0:=fun k=>W0 k\/w0.heap.size<=k
structure Cx (w0:World)(W0 S0:E0)(w:World)(S:E0):Prop where
 bel:E9 W0 w0 w
 sub:∀b,S0 b->S b
 lt:∀b,S b->b<w.heap.size
 lt0:∀b,S0 b->b<w0.heap.size
def Cx.start {w:World}{W0 S:E0}(a:∀b,S b->b<w.heap.size):Cx w W0 S w S:=⟨⟨rfl,rfl,rfl,Nat.le_refl _,fun _ _ _=>rfl⟩,fun _ h=>h,a,a⟩
theorem Cx.size {w0 w:World}{W0 S0 S:E0}(h:Cx w0 W0 S0 w S):w0.heap.size<=w.heap.size:=h.bel.size
def Cx.below {w0 w:World}{S0 S:E0}(h:Cx w0 C6 S0 w S):Below w0.heap.size w0 w:=h.bel.below
def Cx.ext {w0 w w1:World}{W0 S0 S:E0}(h:Cx w0 W0 S0 w S)(c:Below w.heap.size w w1):Cx w0 W0 S0 w1 S:=
 ⟨h.bel.trans c,h.sub,fun b a=>Nat.lt_of_lt_of_le (h.lt b a) c.size,h.lt0⟩
theorem Cx.more {w0 w:World}{W0 S0 S S1:E0}(h:Cx w0 W0 S0 w S)(hs:∀b,S b->S1 b)(hl:∀b,S1 b->b<w.heap.size):Cx w0 W0 S0 w S1:=
 ⟨h.bel,fun b a=>hs b (h.sub b a),hl,h.lt0⟩
def Y0.ext {w w1:World}(S:E0)(a:Below w.heap.size w w1):Y0 w.heap S w1.heap S:=⟨a.size,fun b h hn=>⟨hn,a.block b h⟩⟩
section
variable {P:Program}
theorem H0h (w:World)(b o n m:Nat):w.cell? (((⟨b,o,none⟩:Addr).add n).add m)=D2 w.heap b (o+n+m):=by
 grind [g0Y,Addr.add]
theorem a01 (w:World)(b o n:Nat):w.cell? ((⟨b,o,none⟩:Addr).add n)=D2 w.heap b (o+n):=by
 grind [g0Y,Addr.add]
def flat:TypeDesc->Bool
 |.struct _|.array _ _=>false
 |_=>true
def w0Y {l:FL}{o:Oper}{T:TypeId}{x:Operand}{a:Addr}{v:Value}{d:TypeDesc}(w:World)(c:o.op=.load T x)(f:lk l x=.pointer (some a))
  (b:P.underlying T=some d) (hd:flat d=true) (g:w.cell? a=some v):
  (execOp (lk l) o).run P w=.ok (.value v) w:=by
 have:(isAgg T).run P w=.ok false w:=by
  unfold isAgg;simp only[run_underlying b,Sem.run_bind];cases d<;>simp_all[flat]
 simp_all[execOp,Instr.loadAt,Instr.sureAddr,loadVar]
theorem t0G (a:Addr)(w:World):∀(cs:List Value) (i:Nat) (acc:Array Value),(∀j v,cs[j]?=some v->w.cell? (a.add (i+j))=some v)->
  (loadCellsFrom a i cs.length acc).run P w=.ok (acc++cs.toArray) w
 |[],i,acc,_=>by rfl
 |c :: cs,i,acc,h=>by
  have b:=h 0 c V';have d:=t0G a w cs (i+1) (acc.push c) (fun j v f=>by have:=h (j+1) v (by simp_all);grind)
  simp_all[loadCellsFrom]
def RV (P:Program)(l:FL)(w:World):ResultVar->Value->Prop
 |.tmp t,v=>look? l t=some v
 |.cell q t,v=>∃ad,look? l q=some (.pointer (some ad))/\(loadVar t ad).run P w=.ok v w
def rvs (tmps:Array Value)(r:ResultVar):Sem Value:=
 match r with
 |.tmp t=>pure (tmps.getD t undef)
 |.cell a t=>do loadVar t (<-asAddr (tmps.getD a undef))
def RV.run {n:Nat}{l:FL}{a:Act}{w:World}{r:ResultVar}{v:Value}(ha:Ag n l a)(h:RV P l w r v):(rvs a.tmps r).run P w=.ok v w:=by
 cases r with
 |tmp t=>simp[rvs,ha.slot t v h]
 |cell q t=>
  obtain⟨ad,h1,b⟩:=h;simp[rvs,ha.slot q _ h1,asAddr,b]
def x09 {n:Nat}{l:FL}{a:Act}{w:World}{fn:Func}{R:Ending->World->Prop}{e:Exit}{r1 r2:ResultVar}{v1 v2:Value}(ha:Ag n l a)(b:fn.results=#[r1,r2])(he:e=.ret\/e=.normal)
  (h1:RV P l w r1 v1) (c:RV P l w r2 v2) (h:R (.returned (.tuple #[v1,v2])) w):bodyPost P fn R e a w:=by
 have f:=h1.run ha;have g:=c.run ha;have d:(results fn a.tmps).run P w=.ok (.tuple #[v1,v2]) w:=by
  have:results fn a.tmps=(do let x <-rvs a.tmps r1;let y <-rvs a.tmps r2;pure (.tuple #[x,y])):=by
   unfold results;rw[b];simp[rvs];rfl
  simp_all
 rcases he with rfl|rfl<;>exact⟨ha.defers,_,d,h⟩
def x0L {n:Nat}{l:FL}{a:Act}{w:World}{fn:Func}{R:Ending->World->Prop}{e:Exit}{r1:ResultVar}{v1:Value}(ha:Ag n l a)(b:fn.results=#[r1])(he:e=.ret\/e=.normal)
  (h1:RV P l w r1 v1) (h:R (.returned v1) w):bodyPost P fn R e a w:=by
 have d:=h1.run ha;have c:(results fn a.tmps).run P w=.ok v1 w:=by
  have:results fn a.tmps=rvs a.tmps r1:=by
   unfold results;rw[b];simp[rvs];rfl
  simp_all
 rcases he with rfl|rfl<;>exact⟨ha.defers,_,c,h⟩
def RV.cell {l:FL}{w:World}{q:Nat}{t:TypeId}{b:Nat}{f:TypeId}{cs:List Value}{d:TypeDesc}(hl:look? l q=some (.pointer (some ⟨b,0,none⟩)))(i:w.heap[b]?=some (.cells cs.toArray f (0,0)))
  (g:P.underlying t=some d) (hd:flat d=false) (c:(P.info? t).map (·.size)=some cs.length):RV P l w (.cell q t) (.agg cs.toArray):=by
 refine⟨_,hl,?_⟩;obtain⟨inf,a,h⟩:=Option.map_eq_some_iff.1 c;have h1:(isAgg t).run P w=.ok true w:=by
  unfold isAgg;simp only[run_underlying g,Sem.run_bind];cases d<;>simp_all[flat]
 simp_all[t0G,a01,D2,loadVar,loadCells,sizeOf,typeInfo]
end
