/- P. Its conditions: none. -/
import Derived.Tactics
import Derived.Orders
import Derived.Deep.Quiet
import Derived.KernelRfl
import Derived.Below
import Derived.Laws.OwnMore
import Derived.Laws.MakeOwn
import Derived.Deep.Draws
import Derived.Deep.AppendLies
import Derived.Maps.AppendAt
import Derived.Laws.StructEq
import Derived.Laws.Cover3
import Derived.Laws.Slices
open Bool (and_eq_true)
open Nat (lt_or_ge le_refl le_trans lt_of_lt_of_le succ_mul mul_le_mul_right)
set_option linter.all false
theorem Go.O' {P:Prop}(h:P:=by omega):P:=h
theorem Go.Z' {P:Prop}(h:P:=by simp):P:=h
theorem Go.V' {P:Prop}(h:P:=by simp;omega):P:=h
namespace Go.V
abbrev FL:=List (Nat×Value)
def look?:FL->Nat->Option Value
 |[],_=>none
 |(k,v) :: r,t=>if k=t then some v else look? r t
def lk (l:FL):Operand->Value
 |.tmp t=>(look? l t).getD undef
 |.const v=>v
 |.global g=>.pointer (some ⟨g,0,none⟩)
 |.func f=>.func (.func f) #[] #[]
def g0r (l:FL):Operand->Bool
 |.tmp t=>(look? l t).isSome
 |_=>true
structure Ag (n:Nat)(l:FL)(a:Act):Prop where
 size:a.tmps.size=n
 defers:a.defers=[]
 slot:∀k v,look? l k=some v->a.tmps[k]?=some v
def Ag.eval {n:Nat}{l:FL}{a:Act}(h:Ag n l a){x:Operand}(b:g0r l x=true):a.eval x=lk l x:=by
 cases x with
 |tmp t=>
  simp only[g0r,Option.isSome_iff_exists]at b;obtain⟨v,c⟩:=b;have:=h.slot t v c
  simp_all[Act.eval,lk]
 |const v=>rfl
 |global g=>rfl
 |func f=>rfl
def N5 (l:FL)(d:Option Nat)(v:Value):FL:=
 match d with
 |none=>l
 |some d=>(d,v) :: l
def Ag.put {n:Nat}{l:FL}{a:Act}(h:Ag n l a)(d:Option Nat)(v:Value)(hd:∀k,d=some k->k<n):Ag n (N5 l d v) (a.put d v):=by
 cases d with
 |none=>exact h
 |some d=>
  have b:=hd d rfl;refine⟨by simp[Act.put,h.size],by simp[Act.put,h.defers],fun k u hk=>?_⟩;simp only[N5,look?]at hk;simp only[Act.put]
  by_cases e:d=k
  ·subst e;simp only[if_true,Option.some.injEq]at hk;subst hk;rw[Array.getElem?_setIfInBounds_self_of_lt (by rw[h.size];omega)]
  ·rw[if_neg e]at hk;rw[Array.getElem?_setIfInBounds_ne e];exact h.slot k u hk
def m08 (l:FL):FL->Prop
 |[]=>True
 |(k,v) :: r=>look? l k=some v/\m08 l r
def w0q {l:FL}:∀{l':FL},m08 l l'->∀k v,look? l' k=some v->look? l k=some v
 |(k',v') :: r,h,k,v,hk=>by
  simp only[look?]at hk
  by_cases e:k'=k
  ·subst e;simp only[if_true,Option.some.injEq]at hk;subst hk;exact h.1
  ·rw[if_neg e]at hk;exact w0q h.2 k v hk
theorem Ag.of {n:Nat}{l l':FL}{a:Act}(h:Ag n l a)(b:m08 l l'):Ag n l' a:=⟨h.size,h.defers,fun k v hk=>h.slot k v (w0q b k v hk)⟩
def gate (ops:Array Oper)(l:FL)(o:Oper):Option Bool:=
 match o.guard with
 |none=>some true
 |some (j,want)=>
  match(ops[j]?).bind (·.dst)with
  |some d=>match look? l d with
   |some (.bool b)=>some (b==want)
   |some (.tuple _)=>some false
   |_=>none
  |none=>none
def i0E {ops:Array Oper}{n:Nat}{l:FL}{a:Act}(h:Ag n l a){o:Oper}{b:Bool}(hg:gate ops l o=some b):Region.wanted o (yielded ops a.tmps)=b:=by
 unfold gate at hg;unfold Region.wanted;cases f:o.guard with
 |none=>simp_all
 |some jw=>
  obtain⟨j,want⟩:=jw;simp only[f]at hg;cases hd:(ops[j]?).bind (·.dst)with
  |none=>simp_all
  |some d=>
   simp only[hd]at hg;cases hl:look? l d with
   |none=>simp_all
   |some v=>
    have hs:=h.slot d v hl;simp only[hl]at hg;unfold yielded;cases v<;>simp at hg
    case bool c=>simp_all
    simp_all
def i0H (n:Nat)(o:Oper):Bool:=
 match o.dst with
 |some d=>decide (d<n)
 |none=>true
theorem s0r {n:Nat}{o:Oper}(h:i0H n o=true):∀k,o.dst=some k->k<n:=by
 grind [i0H]
def t0M:Op->Bool
 |.select ..=>false
 |_=>true
theorem E0f {n:Nat}{l:FL}{a:Act}(h:Ag n l a){o:Oper}(hs:t0M o.op=true)(hk:o.op.operands.all (g0r l)=true):execOp a.eval o=execOp (lk l) o:=by
 refine execOp_congr o ?_ ?_
 ·intro cs b e;rw[e]at hs;cases hs
 ·intro x c;exact h.eval (by grind [Array.all_eq_true_iff_forall_mem])
def fit (n:Nat)(l:FL)(o:Oper):Bool:=t0M o.op&&o.op.operands.all (g0r l)&&i0H n o
def k0x {n:Nat}{l:FL}{o:Oper}(h:fit n l o=true):∀k,o.dst=some k->k<n:=by
 simp only[fit,and_eq_true]at h;exact s0r h.2
theorem j0E {n:Nat}{l:FL}{o:Oper}(h:fit n l o=true){a:Act}(ha:Ag n l a):execOp a.eval o=execOp (lk l) o:=by
 simp only[fit,and_eq_true]at h
 grind [E0f]
section
variable {P:Program}{ops:Array Oper}{n:Nat}{Q:Exit->Act->World->Prop}
def b0U {l:FL}{a:Act}{w w':World}{o:Oper}{rest:List Oper}{v:Value}(ha:Ag n l a)(b:(gate ops l o==some true&&fit n l o)=true)
  (d:(execOp (lk l) o).run P w=.ok (.value v) w') (h:∀c,Ag n (N5 l o.dst v) c->wpList P ops Q rest c w'):wpList P ops Q (o :: rest) a w:=by
 simp only[and_eq_true,beq_iff_eq]at b;unfold wpList;rw[if_pos (i0E ha b.1)];refine .inl ?_;simp only[Oper.wp,j0E b.2 ha,d,Oper.upon];exact h _ (ha.put _ _ (k0x b.2))
def l0Y {l:FL}{a:Act}{w w':World}{o:Oper}{rest:List Oper}(ha:Ag n l a)(b:(gate ops l o==some true&&fit n l o)=true)
  (d:(execOp (lk l) o).run P w=.ok .skip w') (h:∀c,Ag n (N5 l o.dst undef) c->wpList P ops Q rest c w'):wpList P ops Q (o :: rest) a w:=by
 simp only[and_eq_true,beq_iff_eq]at b;unfold wpList;rw[if_pos (i0E ha b.1)];refine .inl ?_;simp only[Oper.wp,j0E b.2 ha,d,Oper.upon];exact h _ (ha.put _ _ (k0x b.2))
def I0S {l:FL}{a:Act}{w:World}{o:Oper}{rest:List Oper}(ha:Ag n l a)(b:(gate ops l o==some false&&i0H n o)=true)
  (h:∀c,Ag n (N5 l o.dst undef) c->wpList P ops Q rest c w):wpList P ops Q (o :: rest) a w:=by
 simp only[and_eq_true,beq_iff_eq]at b;unfold wpList;rw[i0E ha b.1];exact h _ (ha.put _ _ (s0r b.2))
def l0S {l:FL}{a:Act}{w w':World}{o:Oper}{rest:List Oper}{f:FuncId}{args:Array Value}(ha:Ag n l a)(c:(gate ops l o==some true&&fit n l o)=true)
  (i:(execOp (lk l) o).run P w=.ok (.enter f args) w') {R:Value->World->Prop} (g:Calls P f args w' fun e b=>∃v,e=.returned v/\R v b)
  (h:∀v b,R v b->∀d,Ag n (N5 l o.dst v) d->wpList P ops Q rest d b):wpList P ops Q (o :: rest) a w:=by
 simp only[and_eq_true,beq_iff_eq]at c;unfold wpList;rw[if_pos (i0E ha c.1)];refine .inl ?_;simp only[Oper.wp,j0E c.2 ha,i,Oper.upon];refine g.mono ?_
 rintro e b ⟨v,rfl,hv⟩
 exact h v b hv _ (ha.put _ _ (k0x c.2))
def R0 (P:Program)(ops:Array Oper)(n:Nat):Nat->List Oper->FL->World->Option (List Oper×FL×World)
 |0,xs,l,w=>some (xs,l,w)
 |_+1,[],_,_=>none
 |k+1,o :: rest,l,w=>
  match gate ops l o with
  |some true=>
   if fit n l o then
    match(execOp (lk l) o).run P w with
    |.ok (.value v) w'=>R0 P ops n k rest (N5 l o.dst v) w'
    |.ok .skip w'=>R0 P ops n k rest (N5 l o.dst undef) w'
    |_=>none
   else none
  |some false=>if i0H n o then R0 P ops n k rest (N5 l o.dst undef) w else none
  |none=>none
theorem h0n:∀(k:Nat) (xs:List Oper) (l:FL) (w:World) (rest:List Oper) (l':FL) (w':World),R0 P ops n k xs l w=some (rest,l',w')->
  ∀a,Ag n l a->(∀c,Ag n l' c->wpList P ops Q rest c w')->wpList P ops Q xs a w
 |0,xs,l,w,rest,l',w',h,a,ha,hk=>by
  simp only[R0,Option.some.injEq,Prod.mk.injEq]at h
  simp_all
 |k+1,[],l,w,rest,l',w',h,a,ha,hk=>by grind [R0]
 |k+1,o :: xs,l,w,rest,l',w',h,a,ha,hk=>by
  unfold R0 at h;split at h
  ·split at h
   ·split at h
    ·rename_i v w1 d;exact b0U ha (by simp_all) d fun c b=>h0n k xs _ _ rest l' w' h c b hk
    ·rename_i w1 d;exact l0Y ha (by simp_all) d fun c b=>h0n k xs _ _ rest l' w' h c b hk
    grind
   grind
  ·split at h
   ·exact I0S ha (by simp_all) fun c b=>h0n k xs _ _ rest l' w' h c b hk
   grind
  grind
def a0i (P:Program)(ops:Array Oper)(n k:Nat)(ks:List Nat)(xs:List Oper)(l:FL)(w:World):Option (List Oper×FL×World):=
 (R0 P ops n k xs l w).map fun r=>(r.1,ks.filterMap (fun t=>(look? r.2.1 t).map fun v=>(t,v)),r.2.2)
theorem j0m (l:FL):∀(ks:List Nat) (k:Nat) (v:Value),look? (ks.filterMap (fun t=>(look? l t).map fun v=>(t,v))) k=some v->look? l k=some v
 |[],k,v,h=>by grind [look?]
 |t :: ks,k,v,h=>by
  cases b:look? l t with
  |none=>
   simp only[List.filterMap_cons,b,Option.map_none]at h;exact j0m l ks k v h
  |some u=>
   simp only[List.filterMap_cons,b,Option.map_some,look?]at h
   by_cases e:t=k
   ·simp_all
   ·rw[if_neg e]at h;exact j0m l ks k v h
def i0l {k:Nat}{ks:List Nat}{xs:List Oper}{l:FL}{w:World}{l':FL}{w':World}{a:Act}(ha:Ag n l a)
  (h:a0i P ops n k ks xs l w=some (xs.drop k,l',w')) (hk:∀c,Ag n l' c->wpList P ops Q (xs.drop k) c w'):wpList P ops Q xs a w:=by
 unfold a0i at h;cases hs:R0 P ops n k xs l w with
 |none=>simp_all
 |some r=>
  obtain⟨r1,r2,f⟩:=r;simp only[hs,Option.map_some,Option.some.injEq,Prod.mk.injEq]at h;obtain⟨rfl,rfl,rfl⟩:=h;exact h0n k xs l w _ r2 _ hs a ha fun c b=>hk c ⟨b.size,b.defers,fun t v d=>b.slot t v (j0m r2 ks t v d)⟩
theorem l0q {P:Program}{ops:Array Oper}{n:Nat}:∀(k:Nat) (xs:List Oper) (l:FL) (w:World) (r:List Oper) (l':FL) (w':World),R0 P ops n k xs l w=some (r,l',w')->∀t,(∀o∈xs.take k,o.dst≠some t)->look? l' t=look? l t
 |0,xs,l,w,r,l',w',h,t,_=>by
  simp_all[R0]
 |k+1,[],l,w,r,l',w',h,t,_=>by grind [R0]
 |k+1,o :: xs,l,w,r,l',w',h,t,ht=>by
  have hp:∀v,look? (N5 l o.dst v) t=look? l t:=by
   intro v;cases hd:o.dst with
   |none=>rfl
   |some d=>
    simp_all[N5,look?]
  have b:∀o∈xs.take k,o.dst≠some t:=fun o ho=>ht o (by grind);unfold R0 at h;split at h
  ·split at h
   ·split at h
    ·rw[l0q k xs _ _ r l' w' h t b,hp]
    ·rw[l0q k xs _ _ r l' w' h t b,hp]
    grind
   grind
  ·split at h
   ·rw[l0q k xs _ _ r l' w' h t b,hp]
   grind
  grind
def v0z {t:Nat}{v:Value}:∀(d l:FL),look? (d++l) t=some v->look? d t=some v\/(look? d t=none/\look? l t=some v)
 |[],l,h=>.inr ⟨rfl,h⟩
 |(k,u) :: d,l,h=>by
  simp only[List.cons_append,look?]at h ⊢
  by_cases e:k=t
  ·simp_all
  simp_all[v0z]
def r0q {t:Nat}:∀(d:FL),look? d t=none->(d.any fun e=>e.1==t)=false
 |[],_=>rfl
 |(k,u) :: d,h=>by
  simp only[look?]at h
  by_cases e:k=t
  ·simp_all
  simp_all[r0q]
def dok (xs:List Oper)(d l:FL):Bool:=xs.all fun o=>match o.dst with|none=>true|some t=>(d.any fun e=>e.1==t)||(look? l t).isNone
def sk {P:Program}{ops:Array Oper}{n:Nat}{Q:Exit->Act->World->Prop}{xs:List Oper}{l:FL}{w:World}{a:Act}(ha:Ag n l a)(k:Nat)(d:FL)(hk:∀c,Ag n (d++l) c->wpList P ops Q (xs.drop k) c w)
  (h:a0i P ops n k (d.map Prod.fst) xs l w=some (xs.drop k,d,w):=by kernel_rfl) (g:dok (xs.take k) d l=true:=by kernel_rfl):wpList P ops Q xs a w:=by
 unfold a0i at h;cases hs:R0 P ops n k xs l w with
 |none=>simp_all
 |some r=>
  obtain⟨r1,r2,j⟩:=r;simp only[hs,Option.map_some,Option.some.injEq,Prod.mk.injEq]at h;obtain⟨rfl,i,rfl⟩:=h;refine h0n k xs l _ _ r2 _ hs a ha fun c b=>hk c ⟨b.size,b.defers,fun t v f=>?_⟩;rcases v0z d l f with h4|⟨h4,h5⟩
  ·exact b.slot t v (j0m r2 _ t v (by rw[i];exact h4))
  ·refine b.slot t v ?_;rw[l0q k xs l _ _ r2 _ hs t ?_,h5];intro o ho hd;have:=List.all_eq_true.1 g o ho
   simp_all[r0q]
end
inductive Q0 (σ τ:Type) where
 |next (s:σ)
 |done (t:τ)
def iter {σ τ:Type}(step:σ->Option (Q0 σ τ)):Nat->σ->Option τ
 |0,_=>none
 |k+1,s=>match step s with
  |none=>none
  |some (.next b)=>iter step k b
  |some (.done t)=>some t
section
variable {P:Program}{n:Nat}{Q:Exit->Act->World->Prop}
def Y3 {id:Nat}{xs:List Oper}{a:Act}{w:World}(h:wpList P xs.toArray Q xs a w):(Code.region id xs.toArray false).wp P Q a w:=wp_region_lit h
def z0y {c:Operand}{x y:Code}{l:FL}{a:Act}{w:World}(ha:Ag n l a)(hk:(g0r l c&&(lk l c matches .bool false))=true)(h:y.wp P Q a w):(Code.cond c x y).wp P Q a w:=by
 simp only[and_eq_true]at hk;refine wp_cond_false ?_ h;rw[ha.eval hk.1];have:=hk.2;split at this<;>simp_all
def e0B {t:Nat}{b:Bool}{x y:Code}{l:FL}{a:Act}{w:World}(ha:Ag n l a)(hk:look? l t=some (.bool b))(c:b=true->x.wp P Q a w)(d:b=false->y.wp P Q a w):(Code.cond (.tmp t) x y).wp P Q a w:=by
 have he:a.eval (.tmp t)=.bool b:=by rw[ha.eval (by simp[g0r,hk])];simp[lk,hk]
 cases b with
 |true=>exact wp_cond_true he (c rfl)
 |false=>exact wp_cond_false he (d rfl)
def k0i {σ τ:Type}{step:σ->Option (Q0 σ τ)}{body:Code}{I:σ->Act->World->Prop}{D:τ->Exit->Act->World->Prop}
  (round:∀s c a w,I s a w->step s=some c->body.wp P (Exit.then (fun f w'=>∃j,c=.next j/\I j f w') (fun e f w'=>∃t,c=.done t/\D t e f w')) a w):
  ∀(k:Nat) (s:σ) (t:τ) (a:Act) (w:World),iter step k s=some t->I s a w->(Code.loop body).wp P (D t) a w:=by
 intro k s t a w hk q b ks cs;have key:∀(k:Nat) (s:σ) (a:Act) (w:World),iter step k s=some t->I s a w->
   ∃e f w',D t e f w'/\Arrives P (lone (b.at a (.code body :: .inLoop body :: ks)) cs w) b ks cs e f w':=by
  intro k
  induction k with
  |zero=>intro s a w h _;simp[iter]at h
  |succ k ih=>
   intro s a w h q;unfold iter at h;cases hs:step s with
   |none=>simp[hs]at h
   |some c=>
    obtain⟨e,r,u,i,d⟩:=round s c a w q hs b (.inLoop body :: ks) cs;cases e with
    |normal=>
     obtain⟨j,rfl,m⟩:=i;simp only[hs]at h;obtain⟨z,C,y,p,g⟩:=ih j r u h m;exact⟨z,C,y,p,.of_steps (Steps.trans d (.one step_inLoop)) g⟩
    |_=>
     obtain⟨J,rfl,hd⟩:=i;simp only[hs,Option.some.injEq]at h;subst h;exact⟨_,r,u,hd,.pass (x:=.inLoop body) rfl (fun _ _=>.inl Z') d⟩
 obtain⟨e,f,w',i,d⟩:=key k s a w hk q;exact⟨e,f,w',i,.of_steps (.one step_loop) d⟩
def i0s (vs:List Value):Nat->FL:=
 match vs with
 |[]=>fun _=>[]
 |v :: r=>fun k=>(k,v) :: i0s r (k+1)
def t0p:∀(vs:List Value) (i k:Nat) (v:Value),look? (i0s vs i) k=some v->i<=k/\vs[k-i]?=some v
 |[],i,k,v,h=>by simp[i0s,look?]at h
 |x :: r,i,k,v,h=>by
  simp only[i0s,look?]at h
  by_cases e:i=k
  ·subst e;simp only[if_true,Option.some.injEq]at h;subst h;simp
  ·rw[if_neg e]at h;obtain⟨h1,b⟩:=t0p r (i+1) k v h;refine⟨O',?_⟩;have:k-i=(k-(i+1))+1:=O'
   rw[this];simpa using b
def h0q {f:FuncId}{fn:Func}{c:Code}{vs:List Value}{w:World}{R:Ending->World->Prop}(g:P.funcs[f]?=some fn)(d:fn.body=some c)(hn:(decide (vs.length<=fn.ntmps))=true)
  (h:∀a,Ag fn.ntmps (i0s vs 0) a->c.wp P (bodyPost P fn R) a w):Calls P f vs.toArray w R:=
 calls_of_wp g d (h _ ⟨by simp at hn ⊢;omega,rfl,fun k v hk=>by
  obtain⟨_,b⟩:=t0p vs 0 k v hk;simp only[Nat.sub_zero]at b;rw[Array.getElem?_append_left (by
   rcases lt_or_ge k vs.length with hl|hl
   ·simpa using hl
   ·rw[List.getElem?_eq_none hl]at b;cases b)]
  simpa using b⟩)
def enter {f:FuncId}{fn:Func}{c:Code}{args:Array Value}{w:World}{R:Ending->World->Prop}(d:P.funcs[f]?=some fn)(b:fn.body=some c){l:FL}
  (hl:∀k v,look? l k=some v->(args++Array.replicate (fn.ntmps-args.size) undef)[k]?=some v) (hn:args.size<=fn.ntmps)
  (h:∀a,Ag fn.ntmps l a->c.wp P (bodyPost P fn R) a w):Calls P f args w R:=
 calls_of_wp d b (h _ ⟨V',rfl,hl⟩)
def x0d (fn:Func)(R:Value->World->Prop):∀c a w,¬bodyPost P fn (fun e w'=>∃v,e=.returned v/\R v w') (.panic c) a w:=by
 rintro c a w ⟨_,v,h,_⟩;cases h
end
end Go.V
namespace Go.V
open Go.RowKit
abbrev I0:=Array Obj
abbrev D0:=Nat->Prop
structure P0 (H:I0)(S:D0)(H':I0)(S':D0):Prop where
 size:H.size<=H'.size
 blk:∀b,b<H.size->¬S b->¬S' b/\H'[b]?=H[b]?
def P0.refl (H:I0)(S:D0):P0 H S H S:=⟨le_refl _,fun _ _ h=>⟨h,rfl⟩⟩
def P0.trans {H H1 c:I0}{S S1 f:D0}(h:P0 H S H1 S1)(k:P0 H1 S1 c f):P0 H S c f:=
 ⟨le_trans h.size k.size,fun b d hs=>by
  obtain⟨h1,j⟩:=h.blk b d hs;obtain⟨i,g⟩:=k.blk b (lt_of_lt_of_le d h.size) h1
  simp_all⟩
theorem P0.less {H:I0}{S S':D0}(h:∀b,S' b->S b):P0 H S H S':=⟨le_refl _,fun b _ hn=>⟨fun c=>hn (h b c),rfl⟩⟩
structure Ty (α:Type) where
 sz:Nat
 R:I0->D0->List Value->α->Prop
 len:∀{H S cs x},R H S cs x->cs.length=sz
 one:∀{H S cs x},R H S cs x->∀v∈cs,v.oneCell'=true
 L0:∀{H S H' S' cs x},P0 H S H' S'->R H S cs x->R H' S' cs x
def O1 (H:I0)(b o:Nat):Option Value:=
 match H[b]? with
 |some (.cells c _ _)=>c[o]?
 |_=>none
theorem e0W (w:World)(b o:Nat):w.cell? ⟨b,o,none⟩=O1 w.heap b o:=by
 rfl
theorem v0a {H:I0}{b o:Nat}{v:Value}(h:O1 H b o=some v):b<H.size:=by
 grind [O1]
def f0K {H H':I0}{b o:Nat}(h:H'[b]?=H[b]?):O1 H' b o=O1 H b o:=by simp_all[O1]
def Q4 {α:Type}(T:Ty α)(H:I0)(S:D0)(A:Option Addr)(xs:List α):Prop:=
 ∀(i:Nat) (x:α),xs[i]?=some x->∃b o cs,A=some ⟨b,o,none⟩/\T.R H S cs x/\∀j v,cs[j]?=some v->O1 H b (o+i*T.sz+j)=some v
def Sl {α:Type}(T:Ty α)(H:I0)(S:D0)(A:Option Addr)(c:Nat)(xs:List α):Prop:=
 xs.length<=c/\(xs≠[]->∃b o,A=some ⟨b,o,none⟩/\b<H.size/\¬S b)/\Q4 T H S A xs
def Sl.O8 {α:Type}{T:Ty α}{H:I0}{S:D0}{A:Option Addr}{c:Nat}{xs:List α}(h:Sl T H S A c xs):Q4 T H S A xs:=h.2.2
theorem Sl.L0 {α:Type}{T:Ty α}{H H':I0}{S S':D0}{A:Option Addr}{c:Nat}{xs:List α}(k:P0 H S H' S')(h:Sl T H S A c xs):Sl T H' S' A c xs:=by
 refine⟨h.1,fun g=>?_,fun i x g=>?_⟩
 ·obtain⟨b,o,m,d,hs⟩:=h.2.1 g;exact⟨b,o,m,lt_of_lt_of_le d k.size,(k.blk b d hs).1⟩
 ·have f:xs≠[]:=by grind
  obtain⟨b,o,m,d,hs⟩:=h.2.1 f;obtain⟨b',r,cs,p,q,t⟩:=h.2.2 i x g;exact⟨b,o,cs,m,T.L0 k q,fun j v s=>by rw[f0K (k.blk b d hs).2];simp_all⟩
theorem Sl.nil {α:Type}{T:Ty α}{H:I0}{S:D0}{A:Option Addr}{c:Nat}:Sl T H S A c []:=⟨Z',fun h=>absurd rfl h,fun i x b=>by grind⟩
abbrev W (n:Int):Int:=IntKind.i64.wrap n
def Q2 (k:IntKind)(a b:Int):Int:=k.wrap (BitVec.ofInt k.bits a&&& BitVec.ofInt k.bits b).toNat
def bor (k:IntKind)(a b:Int):Int:=k.wrap (BitVec.ofInt k.bits a ||| BitVec.ofInt k.bits b).toNat
def i0T (k:IntKind)(a b:Int):Int:=k.wrap (BitVec.ofInt k.bits a ^^^ BitVec.ofInt k.bits b).toNat
def u0i (k:IntKind)(a b:Int):Int:=k.wrap (BitVec.ofInt k.bits a&&& ~~~BitVec.ofInt k.bits b).toNat
def shr (k:IntKind)(a b:Int):Int:=a.fdiv (2 ^ min b.toNat k.bits)
def shl (k:IntKind)(a b:Int):Int:=k.wrap (a*2 ^ min b.toNat k.bits)
def I0M {α:Sort _}{b:Bool}{x y:α}(h:b=true):(if b then x else y)=x:=if_pos h
theorem G0m {α:Sort _}{b:Bool}{x y:α}(h:b=false):(if b then x else y)=y:=by grind
def b0i {α:Type _}{b:Bool}{x:Option α}{r:α}(h:(if b then x else none)=some r):b=true/\x=some r:=by
 simp_all
def a0c {α β:Type _}{m:Option α}{f:α->Option β}{r:β}(h:Option.bind m f=some r):∃x,m=some x/\f x=some r:=by
 cases m with
 |none=>cases h
 |some x=>simp_all
def s0F {G:Prop}{n t:Nat}{b:Bool}{l:FL}{a:Act}(ha:Ag n l a)(hl:look? l t=some (.bool b))(d:b=true->Ag n ((t,.bool true) :: l) a->G)(f:b=false->Ag n ((t,.bool false) :: l) a->G):G:=by
 have key:∀b',b=b'->Ag n ((t,.bool b') :: l) a:=fun b' e=>⟨ha.size,ha.defers,fun k v hk=>by
  simp only[look?]at hk
  by_cases c:t=k
  ·subst c;simp only[if_true,Option.some.injEq]at hk;subst hk;subst e;exact ha.slot _ _ hl
  ·rw[if_neg c]at hk;exact ha.slot k v hk⟩
 cases b with
 |true=>simp_all
 |false=>simp_all
def Ag.to {n:Nat}{l l':FL}{a:Act}(ha:Ag n l a)(h:l'.map (fun p=>look? l p.1)=l'.map (fun p=>some p.2)):Ag n l' a:=by
 refine⟨ha.size,ha.defers,?_⟩
 induction l' with
 |nil=>simp[look?]
 |cons p r ih=>
  intro k v hk;simp only[List.map_cons,List.cons.injEq]at h;obtain⟨b,c⟩:=p;simp only[look?]at hk
  by_cases e:b=k
  ·subst e;simp only[if_true,Option.some.injEq]at hk;subst hk;exact ha.slot _ _ h.1
  simp_all
def p0y {P:Program}{c:Code}{Q:Exit->Act->World->Prop}{D:Act->World->Prop}{a:Act}{w:World}(h:c.wp P (Exit.then D Q) a w)(hd:∀a w,D a w->Q .normal a w):c.wp P Q a w:=
 wp_mono h fun e a w b=>by cases e<;>first|exact hd _ _ b|exact b
def gt {α:Type}[Inhabited α](l:List α)(i:Int):α:=l.getD i.toNat default
def y0 {α:Type}(l:List α)(i:Int):Bool:=decide (0<=i)&&decide (i<l.length)
def a0o {α:Type}{l:List α}{i:Int}(h:y0 l i=true):0<=i/\i<l.length:=by simp_all[y0]
def h0D {α:Type}[Inhabited α]{l:List α}{i:Int}(h:y0 l i=true):l[i.toNat]?=some (gt l i):=by
 have:=a0o h
 simp_all[gt]
def Q4.get {α:Type}[Inhabited α]{T:Ty α}{H:I0}{S:D0}{A:Option Addr}{xs:List α}(h:Q4 T H S A xs){i:Int}(hi:y0 xs i=true):
  ∃b o cs,A=some ⟨b,o,none⟩/\T.R H S cs (gt xs i)/\∀j v,cs[j]?=some v->O1 H b (o+i.toNat*T.sz+j)=some v:=h _ _ (h0D hi)
theorem Q4.at {α:Type}[Inhabited α]{T:Ty α}{H:I0}{S:D0}{b o:Nat}{xs:List α}(h:Q4 T H S (some ⟨b,o,none⟩) xs){i:Int}(hi:y0 xs i=true):
  ∃cs,T.R H S cs (gt xs i)/\∀j v,cs[j]?=some v->O1 H b (o+i.toNat*T.sz+j)=some v:=by
 obtain⟨b',c,cs,f,d⟩:=h.get hi
 grind
def P1 (k:IntKind):Ty Int where
 sz:=1
 R:=fun _ _ cs x=>cs=[.int k x]
 len:=by simp
 one:=by rintro _ _ _ _ rfl v b;simp at b;subst b;rfl
 L0:=fun _ h=>h
def l8:Ty Bool where
 sz:=1
 R:=fun _ _ cs x=>cs=[.bool x]
 len:=by simp_all
 one:=by rintro _ _ _ _ rfl v b;simp at b;subst b;rfl
 L0:=fun _ h=>h
def O4 {α:Type}(T:Ty α):Ty (List α) where
 sz:=1
 R:=fun H S cs xs=>∃(A:Option Addr) (c:Nat),cs=[.slice A xs.length c]/\Sl T H S A c xs
 len:=by simp_all
 one:=by rintro _ _ _ _ ⟨_,_,rfl,_⟩ v hv;simp at hv;subst hv;rfl
 L0:=fun k ⟨A,c,h1,h2⟩=>⟨A,c,h1,h2.L0 k⟩
def Row (H:I0)(e:TypeId)(sz:Nat)(v:Value)(n:Nat)(cs:List Value):Prop:=
 cs.length=n*sz/\((v=.slice none 0 0/\n=0)\/
  ∃g cap cur,v=.slice (some ⟨g,0,none⟩) n cap/\H[g]?=some (.cells cur e (0,0))/\n<=cap/\cap<=maxLen/\cur.size=cap*sz/\cur.toList.take (n*sz)=cs)
def Row.own {w:World}{e:TypeId}{sz:Nat}{v:Value}{n:Nat}{cs:List Value}(h:Row w.heap e sz v n cs):w.ownsRow 0 e sz v n cs:=by
 obtain⟨b,h1|⟨g,cap,cur,c,r⟩⟩:=h
 ·exact⟨b,.inl h1⟩
 ·exact⟨b,.inr ⟨g,cap,cur,c,Nat.zero_le _,r⟩⟩
theorem Row.of {w:World}{B:Nat}{e:TypeId}{sz:Nat}{v:Value}{n:Nat}{cs:List Value}(h:w.ownsRow B e sz v n cs):Row w.heap e sz v n cs:=by
 obtain⟨b,h1|⟨g,cap,cur,c,_,r⟩⟩:=h
 ·exact⟨b,.inl h1⟩
 ·exact⟨b,.inr ⟨g,cap,cur,c,r⟩⟩
def R1 {α:Type}(T:Ty α)(H:I0)(S:D0)(cs:List Value)(xs:List α):Prop:=
 cs.length=xs.length*T.sz/\∀(i:Nat) (x:α),xs[i]?=some x->T.R H S ((cs.drop (i*T.sz)).take T.sz) x
theorem R1.nil {α:Type}{T:Ty α}{H:I0}{S:D0}:R1 T H S [] []:=⟨Z',fun i x b=>by grind⟩
def R1.L0 {α:Type}{T:Ty α}{H H':I0}{S S':D0}{cs:List Value}{xs:List α}(k:P0 H S H' S')(h:R1 T H S cs xs):R1 T H' S' cs xs:=
 ⟨h.1,fun i x b=>T.L0 k (h.2 i x b)⟩
theorem R1.append {α:Type}{T:Ty α}{H:I0}{S:D0}{cs c:List Value}{xs ys:List α}(h:R1 T H S cs xs)(k:R1 T H S c ys):R1 T H S (cs++c) (xs++ys):=by
 refine⟨by simp[h.1,k.1,Nat.add_mul],fun i x b=>?_⟩;rcases lt_or_ge i xs.length with hi|hi
 ·rw[List.getElem?_append_left hi]at b;have f:=h.2 i x b;have hle:i*T.sz+T.sz<=cs.length:=by rw[h.1,<-succ_mul];exact mul_le_mul_right _ hi
  grind
 ·rw[List.getElem?_append_right hi]at b;have d:=k.2 _ x b;have e:i*T.sz=cs.length+(i-xs.length)*T.sz:=by rw[h.1,<-Nat.add_mul];simp_all
  simp_all
theorem R1.one {α:Type}{T:Ty α}{H:I0}{S:D0}{cs:List Value}{x:α}(h:T.R H S cs x):R1 T H S cs [x]:=by
 refine⟨by simp[T.len h],fun i y b=>?_⟩;cases i with
 |zero=>
  simp at b;subst b;simp only[Nat.zero_mul,List.drop_zero];rw[List.take_of_length_le (by rw[T.len h];omega)];exact h
 |succ i=>grind
theorem R1.e0w {α:Type}{T:Ty α}{H:I0}{S:D0}{cs:List Value}{xs:List α}(h:R1 T H S cs xs):∀v∈cs,v.oneCell'=true:=by
 intro v f;obtain⟨p,hp,rfl⟩:=List.getElem_of_mem f;have c:p<xs.length*T.sz:=by rw[<-h.1];exact hp
 have b:0<T.sz:=by
  grind
 have hi:p / T.sz<xs.length:=(Nat.div_lt_iff_lt_mul b).2 c;have g:=h.2 (p / T.sz) _ (List.getElem?_eq_getElem hi);refine T.one g _ ?_;have d:=Nat.mod_lt p b;have i:p / T.sz*T.sz+p % T.sz=p:=by simp[Nat.mul_comm,Nat.div_add_mod]
 refine List.mem_iff_getElem?.2 ⟨p % T.sz,?_⟩
 simp_all
def Ow {α:Type}(T:Ty α)(e:TypeId)(M:D0)(H:I0)(S:D0)(v:Value)(xs:List α):Prop:=
 (∀k,v.ownBlock=some k->S k/\M k)/\∃cs,Row H e T.sz v xs.length cs/\R1 T H S cs xs
def inV (v:Value)(S:D0):D0:=fun k=>v.ownBlock=some k\/S k
section
variable {α:Type}{T:Ty α}{e:TypeId}{M M':D0}{H H':I0}{S S':D0}{v:Value}{xs:List α}
theorem Ow.form (h:Ow T e M H S v xs):∃A c,v=.slice A xs.length c:=by
 obtain⟨_,cs,⟨_,h1⟩,_⟩:=h
 grind
theorem Ow.cap {A:Option Addr}{n c:Nat}(h:Ow T e M H S (.slice A n c) xs):xs.length<=c:=by
 obtain⟨_,cs,⟨_,h1⟩,_⟩:=h
 grind
def Ow.own (h:Ow T e M H S v xs):∀k,v.ownBlock=some k->S k/\M k:=h.1
theorem Ow.lt (h:Ow T e M H S v xs):∀k,v.ownBlock=some k->k<H.size:=by
 obtain⟨_,cs,⟨_,h1⟩,_⟩:=h;rcases h1 with⟨rfl,b⟩|⟨g,cap,cur,rfl,hg,_⟩
 ·simp[Value.ownBlock]
 grind [Value.ownBlock]
theorem Ow.O8 {A:Option Addr}{n c:Nat}(h:Ow T e M H S (.slice A n c) xs):Q4 T H S A xs:=by
 obtain⟨_,cs,⟨hl,h1⟩,he⟩:=h;intro i x f;have hi:i<xs.length:=by
  grind
 rcases h1 with⟨b,m⟩|⟨g,cap,cur,b,hg,hnc,hm,hcs,htake⟩
 ·omega
 ·obtain⟨rfl,rfl,rfl⟩:=b;refine⟨g,0,_,rfl,he.2 i x f,fun j u k=>?_⟩;have d:j<T.sz:=by
   grind
  unfold O1
  grind
def Ow.L0 (k:P0 H S H' S')(h:Ow T e M H S v xs)(hs:∀b,S b->S' b)(d:∀b,v.ownBlock=some b->H'[b]?=H[b]?):Ow T e M H' S' v xs:=by
 obtain⟨c,cs,⟨hl,h1⟩,he⟩:=h;refine⟨fun k hk=>⟨hs k (c k hk).1,(c k hk).2⟩,cs,⟨hl,?_⟩,he.L0 k⟩;rcases h1 with h1|⟨g,cap,cur,rfl,hg,r⟩
 ·simp_all
 ·exact .inr ⟨g,cap,cur,rfl,by simp_all[Value.ownBlock],r⟩
def Ow.o0U (h:Ow T e M H S v xs)(hs:∀b,S' b->S b)(c:∀b,v.ownBlock=some b->S' b):Ow T e M H S' v xs:=by
 obtain⟨d,cs,h1,he⟩:=h;exact⟨fun k hk=>⟨c k hk,(d k hk).2⟩,cs,h1,he.L0 (P0.less hs)⟩
def Ow.b0a (h:Ow T e M H S v xs)(hm:∀k,v.ownBlock=some k->M' k):Ow T e M' H S v xs:=⟨fun k hk=>⟨(h.1 k hk).1,hm k hk⟩,h.2⟩
def Ow.freeze {A:Option Addr}{n c:Nat}(h:Ow T e M H S (.slice A n c) xs)(hs:∀b,S' b->S b)(hn:∀b,(Value.slice A n c).ownBlock=some b->¬S' b):Sl T H S' A c xs:=by
 refine⟨h.cap,fun f=>?_,?_⟩
 ·obtain⟨_,cs,⟨hl,h1⟩,he⟩:=h;rcases h1 with⟨j,q⟩|⟨g,cap,cur,j,hg,hnc,hm,hcs,htake⟩
  ·simp_all
  ·obtain⟨rfl,rfl,rfl⟩:=j;exact⟨g,0,rfl,(Array.getElem?_eq_some_iff.1 hg).1,hn g (by rfl)⟩
 ·have m:=h.O8;intro i x f;obtain⟨b,o,cs,p,d,k⟩:=m i x f;exact⟨b,o,cs,p,T.L0 (P0.less hs) d,k⟩
theorem Ow.nil:Ow T e M H S (.slice none 0 0) []:=⟨fun k hk=>by grind [Value.ownBlock],[],⟨Z',.inl ⟨rfl,rfl⟩⟩,R1.nil⟩
end
def Bx (H:I0)(S:D0)(b:Nat)(t:TypeId)(cs:List Value):Prop:=H[b]?=some (.cells cs.toArray t (0,0))/\¬S b
def Mb (M:D0)(H:I0)(S:D0)(b:Nat)(t:TypeId)(cs:List Value):Prop:=H[b]?=some (.cells cs.toArray t (0,0))/\S b/\M b
def getElem?_lt {H:I0}{b:Nat}{o:Obj}(h:H[b]?=some o):b<H.size:=(Array.getElem?_eq_some_iff.1 h).1
def Bx.d0J {H:I0}{S:D0}{b:Nat}{t:TypeId}{cs:List Value}(h:Bx H S b t cs):b<H.size:=getElem?_lt h.1
def Mb.d0J {M:D0}{H:I0}{S:D0}{b:Nat}{t:TypeId}{cs:List Value}(h:Mb M H S b t cs):b<H.size:=getElem?_lt h.1
def Bx.L0 {H H':I0}{S S':D0}{b:Nat}{t:TypeId}{cs:List Value}(k:P0 H S H' S')(h:Bx H S b t cs):Bx H' S' b t cs:=by
 obtain⟨h1,c⟩:=k.blk b (getElem?_lt h.1) h.2;exact⟨c.trans h.1,h1⟩
def Bx.cell {H:I0}{S:D0}{b:Nat}{t:TypeId}{cs:List Value}(h:Bx H S b t cs)(j:Nat)(v:Value)(c:cs[j]?=some v):O1 H b j=some v:=by
 unfold O1;rw[h.1];simp_all
def Mb.cell {M:D0}{H:I0}{S:D0}{b:Nat}{t:TypeId}{cs:List Value}(h:Mb M H S b t cs)(j:Nat)(v:Value)(c:cs[j]?=some v):O1 H b j=some v:=by
 unfold O1;rw[h.1];simp_all
def Mb.L0 {M:D0}{H H':I0}{S S':D0}{b:Nat}{t:TypeId}{cs:List Value}(h:Mb M H S b t cs)(hs:∀b,S b->S' b)(c:H'[b]?=H[b]?):Mb M H' S' b t cs:=
 ⟨c.trans h.1,hs b h.2.1,h.2.2⟩
structure D9 (W0:D0)(w w1:World):Prop where
 os:w1.os=w.os
 tape:w1.tape=w.tape
 output:w1.output=w.output
 size:w.heap.size<=w1.heap.size
 block:∀k,k<w.heap.size->¬W0 k->w1.heap[k]?=w.heap[k]?
def C3:D0:=fun _=>False
def D9.below {w w1:World}(h:D9 C3 w w1):Below w.heap.size w w1:=⟨h.os,h.tape,h.output,h.size,fun k hk=>h.block k hk (fun h=>h)⟩
def D9.trans {W0:D0}{w w1 c:World}(h:D9 W0 w w1)(b:Below w1.heap.size w1 c):D9 W0 w c:=
 ⟨b.os.trans h.os,b.tape.trans h.tape,b.output.trans h.output,le_trans h.size b.size,fun k hk hn=>(b.block k (lt_of_lt_of_le hk h.size)).trans (h.block k hk hn)⟩
def Wr (W0:D0)(w0:World):D0:=fun k=>W0 k\/w0.heap.size<=k
structure Cx (w0:World)(W0 S0:D0)(w:World)(S:D0):Prop where
 bel:D9 W0 w0 w
 sub:∀b,S0 b->S b
 lt:∀b,S b->b<w.heap.size
 lt0:∀b,S0 b->b<w0.heap.size
def Cx.start {w:World}{W0 S:D0}(c:∀b,S b->b<w.heap.size):Cx w W0 S w S:=⟨⟨rfl,rfl,rfl,le_refl _,fun _ _ _=>rfl⟩,fun _ h=>h,c,c⟩
theorem Cx.size {w0 w:World}{W0 S0 S:D0}(h:Cx w0 W0 S0 w S):w0.heap.size<=w.heap.size:=h.bel.size
def Cx.below {w0 w:World}{S0 S:D0}(h:Cx w0 C3 S0 w S):Below w0.heap.size w0 w:=h.bel.below
def Cx.ext {w0 w w1:World}{W0 S0 S:D0}(h:Cx w0 W0 S0 w S)(d:Below w.heap.size w w1):Cx w0 W0 S0 w1 S:=
 ⟨h.bel.trans d,h.sub,fun b c=>lt_of_lt_of_le (h.lt b c) d.size,h.lt0⟩
theorem Cx.more {w0 w:World}{W0 S0 S S1:D0}(h:Cx w0 W0 S0 w S)(hs:∀b,S b->S1 b)(hl:∀b,S1 b->b<w.heap.size):Cx w0 W0 S0 w S1:=
 ⟨h.bel,fun b c=>hs b (h.sub b c),hl,h.lt0⟩
def P0.ext {w w1:World}(S:D0)(c:Below w.heap.size w w1):P0 w.heap S w1.heap S:=⟨c.size,fun b h hn=>⟨hn,c.block b h⟩⟩
section
variable {P:Program}
theorem n0g (w:World)(b o n m:Nat):w.cell? (((⟨b,o,none⟩:Addr).add n).add m)=O1 w.heap b (o+n+m):=by
 grind [e0W,Addr.add]
theorem k7 (w:World)(b o n:Nat):w.cell? ((⟨b,o,none⟩:Addr).add n)=O1 w.heap b (o+n):=by
 grind [e0W,Addr.add]
def flat:TypeDesc->Bool
 |.struct _|.array _ _=>false
 |_=>true
def b0w {l:FL}{o:Oper}{T:TypeId}{x:Operand}{a:Addr}{v:Value}{d:TypeDesc}(w:World)(ho:o.op=.load T x)(f:lk l x=.pointer (some a))
  (b:P.underlying T=some d) (hd:flat d=true) (c:w.cell? a=some v):
  (execOp (lk l) o).run P w=.ok (.value v) w:=by
 have:(isAgg T).run P w=.ok false w:=by
  unfold isAgg;simp only[run_underlying b,Sem.run_bind];cases d<;>simp_all[flat]
 simp_all[execOp,Instr.loadAt,Instr.sureAddr,loadVar]
theorem k06 (a:Addr)(w:World):∀(cs:List Value) (i:Nat) (acc:Array Value),(∀j v,cs[j]?=some v->w.cell? (a.add (i+j))=some v)->
  (loadCellsFrom a i cs.length acc).run P w=.ok (acc++cs.toArray) w
 |[],i,acc,_=>by rfl
 |c :: cs,i,acc,h=>by
  have b:=h 0 c Z';have f:=k06 a w cs (i+1) (acc.push c) (fun j v d=>by have:=h (j+1) v (by simp_all);grind)
  simp_all[loadCellsFrom]
def RV (P:Program)(l:FL)(w:World):ResultVar->Value->Prop
 |.tmp t,v=>look? l t=some v
 |.cell q t,v=>∃ad,look? l q=some (.pointer (some ad))/\(loadVar t ad).run P w=.ok v w
def r9 (tmps:Array Value)(r:ResultVar):Sem Value:=
 match r with
 |.tmp t=>pure (tmps.getD t undef)
 |.cell a t=>do loadVar t (<-asAddr (tmps.getD a undef))
def RV.run {n:Nat}{l:FL}{a:Act}{w:World}{r:ResultVar}{v:Value}(ha:Ag n l a)(h:RV P l w r v):(r9 a.tmps r).run P w=.ok v w:=by
 cases r with
 |tmp t=>simp[r9,ha.slot t v h]
 |cell q t=>
  obtain⟨ad,h1,b⟩:=h;simp[r9,ha.slot q _ h1,asAddr,b]
def r0Q {n:Nat}{l:FL}{a:Act}{w:World}{fn:Func}{R:Ending->World->Prop}{e:Exit}{r1 r2:ResultVar}{v1 v2:Value}(ha:Ag n l a)(b:fn.results=#[r1,r2])(he:e=.ret\/e=.normal)
  (h1:RV P l w r1 v1) (d:RV P l w r2 v2) (h:R (.returned (.tuple #[v1,v2])) w):bodyPost P fn R e a w:=by
 have g:=h1.run ha;have f:=d.run ha;have c:(results fn a.tmps).run P w=.ok (.tuple #[v1,v2]) w:=by
  have:results fn a.tmps=(do let x <-r9 a.tmps r1;let y <-r9 a.tmps r2;pure (.tuple #[x,y])):=by
   unfold results;rw[b];simp[r9];rfl
  simp_all
 rcases he with rfl|rfl<;>exact⟨ha.defers,_,c,h⟩
def j0g {n:Nat}{l:FL}{a:Act}{w:World}{fn:Func}{R:Ending->World->Prop}{e:Exit}{r1:ResultVar}{v1:Value}(ha:Ag n l a)(c:fn.results=#[r1])(he:e=.ret\/e=.normal)
  (h1:RV P l w r1 v1) (h:R (.returned v1) w):bodyPost P fn R e a w:=by
 have d:=h1.run ha;have b:(results fn a.tmps).run P w=.ok v1 w:=by
  have:results fn a.tmps=r9 a.tmps r1:=by
   unfold results;rw[c];simp[r9];rfl
  simp_all
 rcases he with rfl|rfl<;>exact⟨ha.defers,_,b,h⟩
def RV.cell {l:FL}{w:World}{q:Nat}{t:TypeId}{b:Nat}{tt:TypeId}{cs:List Value}{d:TypeDesc}(hl:look? l q=some (.pointer (some ⟨b,0,none⟩)))(i:w.heap[b]?=some (.cells cs.toArray tt (0,0)))
  (h:P.underlying t=some d) (hd:flat d=false) (g:(P.info? t).map (·.size)=some cs.length):RV P l w (.cell q t) (.agg cs.toArray):=by
 refine⟨_,hl,?_⟩;obtain⟨inf,c,f⟩:=Option.map_eq_some_iff.1 g;have h1:(isAgg t).run P w=.ok true w:=by
  unfold isAgg;simp only[run_underlying h,Sem.run_bind];cases d<;>simp_all[flat]
 simp_all[k06,k7,O1,loadVar,loadCells,sizeOf,typeInfo]
end
section
variable {P:Program}{ops:Array Oper}{n:Nat}{Q:Exit->Act->World->Prop}{l:FL}{a:Act}{w:World}{o:Oper}{rest:List Oper}
theorem Below.new (w:World)(b:Obj):Below w.heap.size w (w.alloc b):=(Below.refl _ w).alloc (le_refl _) b
def n0p {b off:Nat}{v v0:Value}{ad:Addr}(c:ad=⟨b,off,none⟩)(h1:v.oneCell'=true)(d:w.cell? ⟨b,off,none⟩=some v0)(f:w.frozen? ⟨b,off,none⟩=false):
  (store ad v).run P w=.ok () (w.setCell ⟨b,off,none⟩ v):=by
 cases v<;>simp_all[store,Sem.run,Value.oneCell']
def v05 {b off:Nat}{t:TypeId}{cs:List Value}{v:Value}(c:w.heap[b]?=some (.cells cs.toArray t (0,0))):
  (w.setCell ⟨b,off,none⟩ v).heap[b]?=some (.cells (cs.set off v).toArray t (0,0)):=by
 simp[World.setCell,Array.getElem?_modify,c]
def h0h {W0:D0}{w:World}:∀k,Wr W0 w k->Wr W0 w k:=fun _ h=>h
structure j5 (b:Nat)(w w1:World):Prop where
 os:w1.os=w.os
 tape:w1.tape=w.tape
 output:w1.output=w.output
 size:w.heap.size<=w1.heap.size
 block:∀k,k<w.heap.size->k≠b->w1.heap[k]?=w.heap[k]?
def j5.cell (w:World)(b off:Nat)(v:Value):j5 b w (w.setCell ⟨b,off,none⟩ v):=
 ⟨rfl,rfl,rfl,Z',fun k _ hk=>Below.heap_setCell w _ v k hk⟩
def j5.cx {b:Nat}{w0 w1:World}{W0 S0 S:D0}(h:Cx w0 W0 S0 w S)(ho:j5 b w w1)(c:Wr W0 w0 b):Cx w0 W0 S0 w1 S:=
 ⟨⟨ho.os.trans h.bel.os,ho.tape.trans h.bel.tape,ho.output.trans h.bel.output,le_trans h.bel.size ho.size,fun k hk hn=>(ho.block k (by have:=h.bel.size;omega) (fun e=>by subst e;exact c.elim hn (fun d=>O'))).trans (h.bel.block k hk hn)⟩,h.sub,fun k hk=>lt_of_lt_of_le (h.lt k hk) ho.size,h.lt0⟩
def j5.L0 {b:Nat}{w1:World}{S:D0}(ho:j5 b w w1)(c:S b):P0 w.heap S w1.heap S:=
 ⟨ho.size,fun k hk hn=>⟨hn,ho.block k hk (fun e=>hn (e▸c))⟩⟩
theorem Q4.news {α:Type}{T:Ty α}{S:D0}{A:Option Addr}:∀{xs:List α} {k:Nat},(∀(i:Nat) (x:α),xs[i]?=some x->∃b o cs,A=some ⟨b,o,none⟩/\T.R w.heap S cs x/\∀j v,cs[j]?=some v->O1 w.heap b (o+(k+i)*T.sz+j)=some v)->
  ∃news,R1 T w.heap S news xs/\∀b o,A=some ⟨b,o,none⟩->∀j u,news[j]?=some u->O1 w.heap b (o+k*T.sz+j)=some u
 |[],k,_=>⟨[],R1.nil,fun b o _ j u c=>by grind⟩
 |x :: xs,k,h=>by
  obtain⟨b,o,cs,g,d,p⟩:=h 0 x Z';obtain⟨news,he,hn⟩:=Q4.news (xs:=xs) (k:=k+1) (fun i y r=>by
   obtain⟨b,o,cs,g,d,p⟩:=h (i+1) y (by simp_all);exact⟨b,o,cs,g,d,fun j v c=>by grind⟩)
  refine⟨cs++news,?_,fun b' m f j u c=>?_⟩
  ·have:=(R1.one d).append he
   simp_all
  ·rcases lt_or_ge j cs.length with hlt|hge
   ·grind
   ·rw[List.getElem?_append_right hge]at c;have q:=hn b' m f _ u c;rw[T.len d]at q hge
    grind
def u0z (base:Nat)(t ty e:TypeId)(i:TypeInfo)(size:Nat)(d:P.underlying t=some (.slice e))(hi:P.info? e=some i)
  (v:Value) (n:Nat) (xs:List Value) (b:w.ownsRow base e size v n xs) (A:Option Addr) (c:Nat):(Builtin.append_ #[t,t] ty #[v,.slice A 0 c]).run P w=.ok v w:=by
 rcases b.2 with⟨rfl,rfl⟩|⟨g,cap,cur,rfl,_,_,hnc,_⟩
 ·cases A<;>simp[Builtin.append_,run_underlying d,sizeOf,typeInfo,hi,Builtin.lenOf,Builtin.firstCells,loadCells,loadCellsFrom]
 ·cases A<;>simp[Builtin.append_,run_underlying d,sizeOf,typeInfo,hi,Builtin.lenOf,Builtin.firstCells,loadCells,loadCellsFrom,hnc,storeCells]
def K0 {α:Type}(bytes:Nat)(xs ys:List α):Bool:=decide ((xs.length+ys.length)*bytes<=140737488355328)
theorem z0l {α:Type}{T:Ty α}{S M:D0}(t ty e:TypeId)(bytes:Nat)(z:Value)(ht:P.underlying t=some (.slice e))(hE:(P.info? e).map (fun i=>(i.zero,i.size,i.bytes))=some (some z,T.sz,bytes))(m:(decide (z.cells.size=T.sz)&&decide (0<T.sz)&&decide (0<bytes))=true)
  {v:Value} {xs ys:List α} (s:Ow T e M w.heap S v xs) {A:Option Addr} {c:Nat} (hy:Q4 T w.heap S A ys) (p:K0 bytes xs ys=true):
  ∃g w1,(Builtin.append_ #[t,t] ty #[v,.slice A ys.length c]).run P w=.ok g w1/\w.grownBy w1 v.ownBlock/\(g.ownBlock=v.ownBlock\/g.ownBlock=some w.heap.size)/\
   ∀S1:D0,P0 w.heap S w1.heap S1->∀r:D0,(∀k,g.ownBlock=some k->S1 k/\r k)->Ow T e r w1.heap S1 g (xs++ys):=by
 obtain⟨i,hi,J⟩:=Option.map_eq_some_iff.1 hE;simp only[Prod.mk.injEq]at J;obtain⟨hz,b1,b2⟩:=J;simp only[and_eq_true,decide_eq_true_eq]at m;obtain⟨hS,cs,d,R⟩:=s;simp only[K0,decide_eq_true_eq]at p;have C:xs.length+ys.length<=maxLen:=by
  have:xs.length+ys.length<=(xs.length+ys.length)*bytes:=Nat.le_mul_of_pos_right _ m.2
  grind [maxLen]
 obtain⟨news,f,U⟩:=Q4.news (w:=w) (xs:=ys) (k:=0) (A:=A) (T:=T) (S:=S) (fun i x hx=>by
  obtain⟨b,o,cs,h1,h2,h3⟩:=hy i x hx
  grind)
 have done:∀(g:Value) (w1:World),w1.ownsRow 0 e T.sz g (xs.length+ys.length) (cs++news)->∀S1:D0,P0 w.heap S w1.heap S1->∀r:D0,(∀k,g.ownBlock=some k->S1 k/\r k)->Ow T e r w1.heap S1 g (xs++ys):=by
  intro g w1 h1 S1 k r a1;refine⟨a1,cs++news,?_,(R.L0 k).append (f.L0 k)⟩
  grind [Row.of]
 rcases A with _|ad
 ·have I:ys=[]:=by
   cases ys with
   |nil=>rfl
   |cons y ys=>obtain⟨b,o,cs,h,_⟩:=hy 0 y Z';cases h
  subst I;have hn:news=[]:=List.eq_nil_of_length_eq_zero (by have:=f.1;simp_all);subst hn;exact⟨v,w,u0z 0 t ty e i T.sz ht hi v xs.length cs d.own none c,⟨rfl,rfl,rfl,le_refl _,fun _ _ _=>rfl⟩,.inl rfl,done v w (by simpa using d.own)⟩
 ·rcases Nat.eq_zero_or_pos ys.length with I|hpos
  ·have I:ys=[]:=List.eq_nil_of_length_eq_zero I;subst I;have hn:news=[]:=List.eq_nil_of_length_eq_zero (by have:=f.1;simp_all);subst hn;exact⟨v,w,u0z 0 t ty e i T.sz ht hi v xs.length cs d.own (some ad) c,⟨rfl,rfl,rfl,le_refl _,fun _ _ _=>rfl⟩,.inl rfl,done v w (by simpa using d.own)⟩
  ·obtain⟨b,o,_,hA,_⟩:=hy 0 ys[0] Z';have hA:=Option.some.inj hA;subst hA;have q:∀j u,news[j]?=some u->w.cell? ((⟨b,o,none⟩:Addr).add j)=some u:=by
    intro j u hj;rw[k7]
    simp_all
   obtain⟨g,w',b3,h2,h3,_,h5⟩:=run_append_own_at (P:=P) w 0 t ty e i z T.sz bytes ht hi hz b1 b2 m.1.1 m.1.2 v xs.length cs d.own ⟨b,o,none⟩ ys.length c news f.1 q f.e0w C p (Nat.zero_le _)
   grind
def Ow.ext {α:Type}{T:Ty α}{e:TypeId}{M S:D0}{v:Value}{xs:List α}{w w1:World}(h:Ow T e M w.heap S v xs)(c:Below w.heap.size w w1):Ow T e M w1.heap S v xs:=
 h.L0 (P0.ext S c) (fun _ h=>h) (fun b d=>c.block b (h.lt b d))
def Mb.ext {M S:D0}{b:Nat}{t:TypeId}{cs:List Value}{w w1:World}(h:Mb M w.heap S b t cs)(c:Below w.heap.size w w1):Mb M w1.heap S b t cs:=
 h.L0 (fun _ h=>h) (c.block b (getElem?_lt h.1))
def Ow.result {α:Type}{T:Ty α}{e:TypeId}{M:D0}{H:I0}{S S0:D0}{v:Value}{xs:List α}(h:Ow T e M H S v xs)(hs:∀b,S0 b->S b):Ow T e M H (inV v S0) v xs:=
 h.o0U (fun _ c=>c.elim (fun d=>(h.1 _ d).1) (hs _)) (fun _ c=>.inl c)
theorem Bx.new {w0 w w1:World}{W0 S0 S:D0}{b:Nat}{t:TypeId}{cs:List Value}(cx:Cx w0 W0 S0 w S)(hk:w1.heap[b]?=some (.cells cs.toArray t (0,0)))(he:w.heap.size=b):Bx w1.heap S b t cs:=
 ⟨hk,fun hs=>by have:=cx.lt b hs;omega⟩
def F6 (v u:Value):Prop:=∀k,v.ownBlock=some k->u.ownBlock≠some k
def bv (b:Nat):Value:=.slice (some ⟨b,0,none⟩) 0 0
def F6.symm {v u:Value}(h:F6 v u):F6 u v:=fun k hk e=>h k e hk
def F6.nil {v:Value}:F6 v (.slice none 0 0):=fun k _ e=>by cases e
theorem F6.new {v u:Value}{m:Nat}(h:∀k,v.ownBlock=some k->k<m)(b:∀k,u.ownBlock=some k->m<=k):F6 v u:=fun k hk e=>by grind
theorem F6.grow {v u b:Value}{m:Nat}(d:F6 v u)(h:∀k,v.ownBlock=some k->k<m)(c:∀k,b.ownBlock=some k->u.ownBlock=some k\/m<=k):F6 v b:=fun k hk e=>by
 rcases c k e with h2|h2
 ·exact d k hk h2
 grind
def Mb.lt {M:D0}{H:I0}{S:D0}{b:Nat}{t:TypeId}{cs:List Value}(h:Mb M H S b t cs):∀k,(bv b).ownBlock=some k->k<H.size:=fun k hk=>by cases hk;exact getElem?_lt h.1
def Ow.only {α:Type}{T:Ty α}{e:TypeId}{M S:D0}{b:Nat}{v:Value}{xs:List α}{w w1:World}(h:Ow T e M w.heap S v xs)(ho:j5 b w w1)(c:S b)(hd:v.ownBlock≠some b):Ow T e M w1.heap S v xs:=
 h.L0 (ho.L0 c) (fun _ h=>h) (fun k hk=>ho.block k (h.lt k hk) (fun e=>hd (by simp_all)))
def Mb.only {M S:D0}{b c:Nat}{t:TypeId}{cs:List Value}{w w1:World}(h:Mb M w.heap S c t cs)(ho:j5 b w w1)(hd:c≠b):Mb M w1.heap S c t cs:=
 h.L0 (fun _ h=>h) (ho.block c (getElem?_lt h.1) hd)
def R2 (bytes:Nat)(n:Int):Bool:=decide (0<=n)&&decide (n*bytes<=140737488355328)
def l0r {α:Type}{T:Ty α}{H:I0}{S:D0}{z:List Value}{x:α}(b:T.R H S z x):∀(k:Nat),R1 T H S (List.replicate k z).flatten (List.replicate k x)
 |0=>R1.nil
 |k+1=>by
  exact(R1.one b).append (l0r b k)
theorem n0t (z:Array Value):∀(k:Nat),(madeCells z (k*z.size)).toList=(List.replicate k z.toList).flatten:=by
 intro k;apply List.ext_getElem?;intro i;rcases lt_or_ge i (k*z.size)with hi|hi
 ·have h1:((madeCells z (k*z.size)).toList)[i]?=some z[i % z.size]!:=by simp[madeCells,hi]
  have key:∀(k i:Nat),i<k*z.size->((List.replicate k z.toList).flatten)[i]?=some z[i % z.size]!:=by
   intro k
   induction k with
   |zero=>omega
   |succ k ih=>
    grind [Nat.mod_eq_of_lt,List.getElem?_append_right,Nat.mod_eq_sub_mod]
  simp_all
 simp_all[size_madeCells]
theorem r0o {α:Type}{T:Ty α}{w0:World}{W0 S0 S:D0}{t e:TypeId}{bytes:Nat}{z:Value}{zx:α}{x y:Operand}{k:IntKind}{m:Int}(ha:Ag n l a)(cx:Cx w0 W0 S0 w S)(hf:(gate ops l o==some true&&fit n l o)=true)
  (ho:o.op=.makeSlice t x y) (hx:lk l x=.int k m) (hy:lk l y=.int k m)
  (U:P.underlying t=some (.slice e)) (hE:(P.info? e).map (fun i=>(i.zero,i.size,i.bytes))=some (some z,T.sz,bytes)) (p:(decide (z.cells.size=T.sz)&&decide (0<T.sz)&&decide (0<bytes))=true)
  (hz:∀(H:I0) (S:D0),T.R H S z.cells.toList zx) (d:R2 bytes m=true)
  (h:∀w1 S1 u c1,Cx w0 W0 S0 w1 S1->Below w.heap.size w w1->P0 w.heap S w1.heap S1->(∀b,S b->S1 b)->
   (∀k,(Value.slice u (List.replicate m.toNat zx).length c1).ownBlock=some k->w.heap.size<=k)->Ow T e (Wr C3 w0) w1.heap S1 (.slice u (List.replicate m.toNat zx).length c1) (List.replicate m.toNat zx)->
   ∀s,Ag n (N5 l o.dst (.slice u (List.replicate m.toNat zx).length c1)) s->wpList P ops Q rest s w1):wpList P ops Q (o :: rest) a w:=by
 obtain⟨i,hi,r⟩:=Option.map_eq_some_iff.1 hE;simp only[Prod.mk.injEq]at r;obtain⟨J,C,b1⟩:=r;simp only[and_eq_true,decide_eq_true_eq]at p;simp only[R2,and_eq_true,decide_eq_true_eq]at d;obtain⟨q,rfl⟩:=Int.eq_ofNat_of_zero_le d.1;have a1:q<=q*bytes:=Nat.le_mul_of_pos_right _ p.2;obtain⟨w1,f,g,hg⟩:=run_make_full (P:=P) w w.heap.size t e i z T.sz U hi J C k k q (by grind) (by grind [maxLen]) (le_refl _);have j:Below w.heap.size w w1:=⟨hg.os,hg.tape,hg.output,hg.size,fun k hk=>hg.block k hk Z'⟩
 have hblk:∀k,(Value.slice (some ⟨w.heap.size,0,none⟩) (List.replicate q zx).length q).ownBlock=some k->k=w.heap.size:=by
  simp[Value.ownBlock]
 refine b0U ha hf (v:=.slice (some ⟨w.heap.size,0,none⟩) (List.replicate q zx).length q) (w':=w1) ?_ fun s I=>
  h w1 (inV (.slice (some ⟨w.heap.size,0,none⟩) (List.replicate q zx).length q) S) (some ⟨w.heap.size,0,none⟩) q ?_ j ⟨j.size,fun b c hn=>⟨fun hi=>?_,j.block b c⟩⟩ (fun b c=>.inr c) (fun k hk=>by grind) ⟨fun k hk=>⟨.inl hk,.inr (by rw[hblk k hk];exact cx.size)⟩,_,?_,l0r (hz _ _) q⟩ s I
 ·simp[execOp,ho,hx,hy,f]
 ·refine⟨cx.bel.trans j,fun b c=>.inr (cx.sub b c),fun b c=>?_,cx.lt0⟩;rcases c with c|c
  ·have:=g.2
   grind
  ·exact lt_of_lt_of_le (cx.lt b c) j.size
 ·rcases hi with hi|hi
  ·grind
  grind
 grind [n0t,Row.of]
theorem k0z (b o p:Nat):(⟨b,o,none⟩:Addr).add p=⟨b,o+p,none⟩:=by
 simp[Addr.add]
theorem F0t {cs:List Value}{p q sz:Nat}{v:Value}(h:p<q\/q+sz<=p):((cs.set p v).drop q).take sz=(cs.drop q).take sz:=by
 apply List.ext_getElem?
 grind
theorem B0H {cs:List Value}{q f sz:Nat}{v:Value}:((cs.set (q+f) v).drop q).take sz=((cs.drop q).take sz).set f v:=by
 apply List.ext_getElem?
 grind
def R1.set {α:Type}{T:Ty α}{H H':I0}{S S':D0}{cs:List Value}{xs:List α}(k:P0 H S H' S')(h:R1 T H S cs xs){i f:Nat}{x x':α}{v:Value}(m:f<T.sz)(d:xs[i]?=some x)
  (g:∀c,T.R H S c x->T.R H' S' (c.set f v) x'):R1 T H' S' (cs.set (i*T.sz+f) v) (xs.set i x'):=by
 refine⟨by simp[h.1],fun j y b=>?_⟩;rw[List.getElem?_set]at b
 by_cases e:i=j
 ·subst e;have hi:i<xs.length:=by
   simp_all
  simp only[if_true,if_pos hi,Option.some.injEq]at b;subst b;rw[B0H];exact g _ (h.2 i x d)
 ·rw[if_neg e]at b;rw[F0t]
  ·exact T.L0 k (h.2 j y b)
  ·rcases lt_or_ge i j with h1|h1
   ·have:i*T.sz+T.sz<=j*T.sz:=by rw[<-succ_mul];exact mul_le_mul_right _ h1
    omega
   ·have:j*T.sz+T.sz<=i*T.sz:=by rw[<-succ_mul];exact mul_le_mul_right _ O'
    omega
def v0w (n:Nat)(i:Int):Bool:=decide (0<=i)&&decide (i<n)
def h08 {α:Type}(l:List α):Bool:=!l.isEmpty
def G1 {α:Type}(xs:List α)(lo hi:Int):List α:=(xs.drop lo.toNat).take (hi-lo).toNat
def P3 {α:Type}(xs:List α)(lo hi:Int):Bool:=decide (0<=lo)&&decide (lo<=hi)&&decide (hi<=xs.length)
theorem d0b {α:Type}{xs:List α}{lo hi:Int}(h:P3 xs lo hi=true):(G1 xs lo hi).length=(hi-lo).toNat:=by
 simp only[P3,and_eq_true,decide_eq_true_eq]at h
 grind [G1]
theorem Q4.cut {α:Type}{T:Ty α}{H:I0}{S:D0}{A:Option Addr}{xs:List α}{lo hi:Int}{m:Nat}{A':Option Addr}(h:Q4 T H S A xs)(hk:P3 xs lo hi=true)
  (p:A'=A.map (·.add (lo.toNat*T.sz))\/m=0/\(G1 xs lo hi)=[]):Q4 T H S A' (G1 xs lo hi):=by
 intro i x d;have f:G1 xs lo hi≠[]:=by grind
 have c:i<(hi-lo).toNat:=by
  grind [G1]
 unfold G1 at d;rw[List.getElem?_take_of_lt c,List.getElem?_drop]at d;obtain⟨b,o,cs,g,k,j⟩:=h _ x d
 grind [k0z]
theorem Sl.cut {α:Type}{T:Ty α}{H:I0}{S:D0}{A A':Option Addr}{c c' m:Nat}{xs:List α}{lo hi:Int}(h:Sl T H S A c xs)(hk:P3 xs lo hi=true)(j:(hi-lo).toNat<=c')
  (g:A'=A.map (·.add (lo.toNat*T.sz))\/m=0/\(G1 xs lo hi)=[]):Sl T H S A' c' (G1 xs lo hi):=by
 refine⟨by simp_all[d0b],fun i=>?_,h.O8.cut hk g⟩;have d:xs≠[]:=by grind [G1]
 obtain⟨b,o,f,k,hs⟩:=h.2.1 d
 simp_all[k0z]
theorem Ow.take {α:Type}{T:Ty α}{e:TypeId}{M:D0}{H:I0}{S:D0}{A:Option Addr}{c:Nat}{xs:List α}{hi:Int}(h:Ow T e M H S (.slice A xs.length c) xs)(p:0<=hi)(h1:hi<=xs.length):Ow T e M H S (.slice A (G1 xs 0 hi).length c) (G1 xs 0 hi):=by
 obtain⟨q,rfl⟩:=Int.eq_ofNat_of_zero_le p;have d:G1 xs 0 (q:Int)=xs.take q:=by rfl
 obtain⟨m,cs,⟨hl,r⟩,he⟩:=h;have g:q<=xs.length:=O'
 have j:q*T.sz<=xs.length*T.sz:=mul_le_mul_right _ g;refine⟨fun k hk=>m k (by cases A<;>exact hk),cs.take (q*T.sz),⟨by simp_all,?_⟩,⟨by simp_all,fun i x f=>?_⟩⟩
 ·grind
 ·rw[d]at f;have b:i<q:=by
   grind
  rw[List.getElem?_take_of_lt b]at f;have:=he.2 i x f;have hle:i*T.sz+T.sz<=q*T.sz:=by rw[<-succ_mul];exact mul_le_mul_right _ b
  grind [List.drop_take]
end
