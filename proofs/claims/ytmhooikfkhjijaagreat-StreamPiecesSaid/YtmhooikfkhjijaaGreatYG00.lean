/- P. Its conditions: none. -/
import Derived.Tactics
import Derived.Orders
import Derived.Deep.Quiet
import Derived.KernelRfl
import Derived.Below
import Derived.Laws.OwnMore
import Derived.Laws.MakeOwn
import Derived.Deep.Draws
import Derived.Deep.AppendLies
open Bool (and_eq_true)
open Nat (lt_or_ge le_refl lt_of_lt_of_le zero_add)
set_option linter.all false
namespace Go.V
abbrev FL:=List (Nat×Value)
def look?:FL->Nat->Option Value
 |[],_=>none
 |(k,v) :: r,t=>if k=t then some v else look? r t
def lk (l:FL):Operand->Value
 |.tmp t=>(look? l t).getD undef
 |.const v=>v
 |.global g=>.pointer (some ⟨g,0,none⟩)
 |.func f=>.func (.func f) #[] #[]
def g0a (l:FL):Operand->Bool
 |.tmp t=>(look? l t).isSome
 |_=>true
structure Ag (n:Nat)(l:FL)(a:Act):Prop where
 size:a.tmps.size=n
 defers:a.defers=[]
 slot:∀k v,look? l k=some v->a.tmps[k]?=some v
def Ag.eval {n:Nat}{l:FL}{a:Act}(h:Ag n l a){x:Operand}(b:g0a l x=true):a.eval x=lk l x:=by
 cases x with
 |tmp t=>
  simp only[g0a,Option.isSome_iff_exists]at b;obtain⟨v,c⟩:=b;have:=h.slot t v c;simp[Act.eval,lk,c,this]
 |const v=>rfl
 |global g=>rfl
 |func f=>rfl
def A8 (l:FL)(d:Option Nat)(v:Value):FL:=
 match d with
 |none=>l
 |some d=>(d,v) :: l
def Ag.put {n:Nat}{l:FL}{a:Act}(h:Ag n l a)(d:Option Nat)(v:Value)(hd:∀k,d=some k->k<n):Ag n (A8 l d v) (a.put d v):=by
 cases d with
 |none=>exact h
 |some d=>
  have b:=hd d rfl;refine⟨by simp[Act.put,h.size],by simp[Act.put,h.defers],fun k u hk=>?_⟩;simp only[A8,look?]at hk;simp only[Act.put]
  by_cases e:d=k
  ·subst e;simp only[if_true,Option.some.injEq]at hk;subst hk;rw[Array.getElem?_setIfInBounds_self_of_lt (by rw[h.size];exact b)]
  ·rw[if_neg e]at hk;rw[Array.getElem?_setIfInBounds_ne e];exact h.slot k u hk
def k07 (l:FL):FL->Prop
 |[]=>True
 |(k,v) :: r=>look? l k=some v/\k07 l r
def r0D {l:FL}:∀{l':FL},k07 l l'->∀k v,look? l' k=some v->look? l k=some v
 |(k',v') :: r,h,k,v,hk=>by
  simp only[look?]at hk
  by_cases e:k'=k
  ·subst e;simp only[if_true,Option.some.injEq]at hk;subst hk;exact h.1
  ·rw[if_neg e]at hk;exact r0D h.2 k v hk
def Ag.of {n:Nat}{l l':FL}{a:Act}(h:Ag n l a)(b:k07 l l'):Ag n l' a:=⟨h.size,h.defers,fun k v hk=>h.slot k v (r0D b k v hk)⟩
def gate (ops:Array Oper)(l:FL)(o:Oper):Option Bool:=
 match o.guard with
 |none=>some true
 |some (j,want)=>
  match(ops[j]?).bind (·.dst)with
  |some d=>match look? l d with
   |some (.bool b)=>some (b==want)
   |some (.tuple _)=>some false
   |_=>none
  |none=>none
def g0O {ops:Array Oper}{n:Nat}{l:FL}{a:Act}(h:Ag n l a){o:Oper}{b:Bool}(hg:gate ops l o=some b):Region.wanted o (yielded ops a.tmps)=b:=by
 unfold gate at hg;unfold Region.wanted;cases f:o.guard with
 |none=>simp[f]at hg;simp[hg]
 |some jw=>
  obtain⟨j,want⟩:=jw;simp only[f]at hg;simp only;cases hd:(ops[j]?).bind (·.dst)with
  |none=>simp[hd]at hg
  |some d=>
   simp only[hd]at hg;cases hl:look? l d with
   |none=>simp[hl]at hg
   |some v=>
    have g:=h.slot d v hl;simp only[hl]at hg;unfold yielded;simp only[hd,Option.bind_some,g];cases v<;>simp at hg
    case bool c=>simpa using hg
    case tuple vs=>subst hg;simp
def h0x (n:Nat)(o:Oper):Bool:=
 match o.dst with
 |some d=>decide (d<n)
 |none=>true
def s0U {n:Nat}{o:Oper}(h:h0x n o=true):∀k,o.dst=some k->k<n:=by
 intro k hk;simpa[h0x,hk]using h
def u0t:Op->Bool
 |.select ..=>false
 |_=>true
def y0g {n:Nat}{l:FL}{a:Act}(h:Ag n l a){o:Oper}(c:u0t o.op=true)(hk:o.op.operands.all (g0a l)=true):execOp a.eval o=execOp (lk l) o:=by
 refine execOp_congr o ?_ ?_
 ·intro cs b e;rw[e]at c;cases c
 ·intro x d;exact h.eval (by have:=(Array.all_eq_true_iff_forall_mem).1 hk x d;exact this)
def fit (n:Nat)(l:FL)(o:Oper):Bool:=u0t o.op&&o.op.operands.all (g0a l)&&h0x n o
def i0r {n:Nat}{l:FL}{o:Oper}(h:fit n l o=true):∀k,o.dst=some k->k<n:=by
 simp only[fit,and_eq_true]at h;exact s0U h.2
def i03 {n:Nat}{l:FL}{o:Oper}(h:fit n l o=true){a:Act}(ha:Ag n l a):execOp a.eval o=execOp (lk l) o:=by
 simp only[fit,and_eq_true]at h;exact y0g ha h.1.1 h.1.2
section
variable {P:Program}{ops:Array Oper}{n:Nat}{Q:Exit->Act->World->Prop}
def c0A {l:FL}{a:Act}{w w':World}{o:Oper}{rest:List Oper}{v:Value}(ha:Ag n l a)(b:(gate ops l o==some true&&fit n l o)=true)
  (d:(execOp (lk l) o).run P w=.ok (.value v) w') (h:∀c,Ag n (A8 l o.dst v) c->wpList P ops Q rest c w'):wpList P ops Q (o :: rest) a w:=by
 simp only[and_eq_true,beq_iff_eq]at b;unfold wpList;rw[if_pos (g0O ha b.1)];refine .inl ?_;simp only[Oper.wp,i03 b.2 ha,d,Oper.upon];exact h _ (ha.put _ _ (i0r b.2))
def E0d {l:FL}{a:Act}{w w':World}{o:Oper}{rest:List Oper}(ha:Ag n l a)(b:(gate ops l o==some true&&fit n l o)=true)
  (d:(execOp (lk l) o).run P w=.ok .skip w') (h:∀c,Ag n (A8 l o.dst undef) c->wpList P ops Q rest c w'):wpList P ops Q (o :: rest) a w:=by
 simp only[and_eq_true,beq_iff_eq]at b;unfold wpList;rw[if_pos (g0O ha b.1)];refine .inl ?_;simp only[Oper.wp,i03 b.2 ha,d,Oper.upon];exact h _ (ha.put _ _ (i0r b.2))
def D0v {l:FL}{a:Act}{w:World}{o:Oper}{rest:List Oper}(ha:Ag n l a)(b:(gate ops l o==some false&&h0x n o)=true)
  (h:∀c,Ag n (A8 l o.dst undef) c->wpList P ops Q rest c w):wpList P ops Q (o :: rest) a w:=by
 simp only[and_eq_true,beq_iff_eq]at b;unfold wpList;rw[g0O ha b.1];simp only[Bool.false_eq_true,if_false];exact h _ (ha.put _ _ (s0U b.2))
def t01 {l:FL}{a:Act}{w w':World}{o:Oper}{rest:List Oper}{f:FuncId}{args:Array Value}(ha:Ag n l a)(c:(gate ops l o==some true&&fit n l o)=true)
  (i:(execOp (lk l) o).run P w=.ok (.enter f args) w') {R:Value->World->Prop} (g:Calls P f args w' fun e b=>∃v,e=.returned v/\R v b)
  (h:∀v b,R v b->∀d,Ag n (A8 l o.dst v) d->wpList P ops Q rest d b):wpList P ops Q (o :: rest) a w:=by
 simp only[and_eq_true,beq_iff_eq]at c;unfold wpList;rw[if_pos (g0O ha c.1)];refine .inl ?_;simp only[Oper.wp,i03 c.2 ha,i,Oper.upon];refine g.mono ?_
 rintro e b ⟨v,rfl,hv⟩
 exact h v b hv _ (ha.put _ _ (i0r c.2))
def M0 (P:Program)(ops:Array Oper)(n:Nat):Nat->List Oper->FL->World->Option (List Oper×FL×World)
 |0,xs,l,w=>some (xs,l,w)
 |_+1,[],_,_=>none
 |k+1,o :: rest,l,w=>
  match gate ops l o with
  |some true=>
   if fit n l o then
    match(execOp (lk l) o).run P w with
    |.ok (.value v) w'=>M0 P ops n k rest (A8 l o.dst v) w'
    |.ok .skip w'=>M0 P ops n k rest (A8 l o.dst undef) w'
    |_=>none
   else none
  |some false=>if h0x n o then M0 P ops n k rest (A8 l o.dst undef) w else none
  |none=>none
def g0M:∀(k:Nat) (xs:List Oper) (l:FL) (w:World) (rest:List Oper) (l':FL) (w':World),M0 P ops n k xs l w=some (rest,l',w')->
  ∀a,Ag n l a->(∀c,Ag n l' c->wpList P ops Q rest c w')->wpList P ops Q xs a w
 |0,xs,l,w,rest,l',w',h,a,ha,hk=>by
  simp only[M0,Option.some.injEq,Prod.mk.injEq]at h;obtain⟨rfl,rfl,rfl⟩:=h;exact hk a ha
 |k+1,[],l,w,rest,l',w',h,a,ha,hk=>by simp[M0]at h
 |k+1,o :: xs,l,w,rest,l',w',h,a,ha,hk=>by
  unfold M0 at h;split at h
  ·rename_i hg;split at h
   ·rename_i f;split at h
    ·rename_i v w1 d;exact c0A ha (by simp[hg,f]) d fun c b=>g0M k xs _ _ rest l' w' h c b hk
    ·rename_i w1 d;exact E0d ha (by simp[hg,f]) d fun c b=>g0M k xs _ _ rest l' w' h c b hk
    ·cases h
   ·cases h
  ·rename_i hg;split at h
   ·rename_i hd;exact D0v ha (by simp[hg,hd]) fun c b=>g0M k xs _ _ rest l' w' h c b hk
   ·cases h
  ·cases h
def Q9 (P:Program)(ops:Array Oper)(n k:Nat)(ks:List Nat)(xs:List Oper)(l:FL)(w:World):Option (List Oper×FL×World):=
 (M0 P ops n k xs l w).map fun r=>(r.1,ks.filterMap (fun t=>(look? r.2.1 t).map fun v=>(t,v)),r.2.2)
def i0F (l:FL):∀(ks:List Nat) (k:Nat) (v:Value),look? (ks.filterMap (fun t=>(look? l t).map fun v=>(t,v))) k=some v->look? l k=some v
 |[],k,v,h=>by simp[look?]at h
 |t :: ks,k,v,h=>by
  cases a:look? l t with
  |none=>
   simp only[List.filterMap_cons,a,Option.map_none]at h;exact i0F l ks k v h
  |some u=>
   simp only[List.filterMap_cons,a,Option.map_some,look?]at h
   by_cases e:t=k
   ·subst e;simp only[if_true,Option.some.injEq]at h;subst h;exact a
   ·rw[if_neg e]at h;exact i0F l ks k v h
def g0z {k:Nat}{ks:List Nat}{xs:List Oper}{l:FL}{w:World}{l':FL}{w':World}{a:Act}(ha:Ag n l a)
  (h:Q9 P ops n k ks xs l w=some (xs.drop k,l',w')) (hk:∀c,Ag n l' c->wpList P ops Q (xs.drop k) c w'):wpList P ops Q xs a w:=by
 generalize xs.drop k=rest at h hk;unfold Q9 at h;cases d:M0 P ops n k xs l w with
 |none=>simp[d]at h
 |some r=>
  obtain⟨r1,r2,g⟩:=r;simp only[d,Option.map_some,Option.some.injEq,Prod.mk.injEq]at h;obtain⟨rfl,rfl,rfl⟩:=h;exact g0M k xs l w _ r2 _ d a ha fun c b=>hk c ⟨b.size,b.defers,fun t v f=>b.slot t v (i0F r2 ks t v f)⟩
def j0I {P:Program}{ops:Array Oper}{n:Nat}:∀(k:Nat) (xs:List Oper) (l:FL) (w:World) (r:List Oper) (l':FL) (w':World),M0 P ops n k xs l w=some (r,l',w')->∀t,(∀o∈xs.take k,o.dst≠some t)->look? l' t=look? l t
 |0,xs,l,w,r,l',w',h,t,_=>by
  simp only[M0,Option.some.injEq,Prod.mk.injEq]at h;rw[h.2.1]
 |k+1,[],l,w,r,l',w',h,t,_=>by simp[M0]at h
 |k+1,o :: xs,l,w,r,l',w',h,t,ht=>by
  have hp:∀v,look? (A8 l o.dst v) t=look? l t:=by
   intro v;have:=ht o (by simp);cases hd:o.dst with
   |none=>rfl
   |some d=>
    rw[hd]at this;simp only[A8,look?];rw[if_neg (fun e=>this (by rw[e]))]
  have a:∀o∈xs.take k,o.dst≠some t:=fun o b=>ht o (by simp[b]);unfold M0 at h;split at h
  ·split at h
   ·split at h
    ·rw[j0I k xs _ _ r l' w' h t a,hp]
    ·rw[j0I k xs _ _ r l' w' h t a,hp]
    ·cases h
   ·cases h
  ·split at h
   ·rw[j0I k xs _ _ r l' w' h t a,hp]
   ·cases h
  ·cases h
def s0K {t:Nat}{v:Value}:∀(d l:FL),look? (d++l) t=some v->look? d t=some v\/(look? d t=none/\look? l t=some v)
 |[],l,h=>.inr ⟨rfl,h⟩
 |(k,u) :: d,l,h=>by
  simp only[List.cons_append,look?]at h ⊢
  by_cases e:k=t
  ·rw[if_pos e]at h ⊢;exact .inl h
  ·rw[if_neg e]at h ⊢;exact s0K d l h
def p0Q {t:Nat}:∀(d:FL),look? d t=none->(d.any fun e=>e.1==t)=false
 |[],_=>rfl
 |(k,u) :: d,h=>by
  simp only[look?]at h
  by_cases e:k=t
  ·rw[if_pos e]at h;cases h
  ·rw[if_neg e]at h;simp only[List.any_cons,p0Q d h,Bool.or_false];simpa using e
def dok (xs:List Oper)(d l:FL):Bool:=xs.all fun o=>match o.dst with|none=>true|some t=>(d.any fun e=>e.1==t)||(look? l t).isNone
def sk {P:Program}{ops:Array Oper}{n:Nat}{Q:Exit->Act->World->Prop}{xs:List Oper}{l:FL}{w:World}{a:Act}(ha:Ag n l a)(k:Nat)(d:FL)(hk:∀f,Ag n (d++l) f->wpList P ops Q (xs.drop k) f w)
  (h:Q9 P ops n k (d.map Prod.fst) xs l w=some (xs.drop k,d,w):=by kernel_rfl) (m:dok (xs.take k) d l=true:=by kernel_rfl):wpList P ops Q xs a w:=by
 generalize xs.drop k=rest at h hk;unfold Q9 at h;cases c:M0 P ops n k xs l w with
 |none=>simp[c]at h
 |some r=>
  obtain⟨r1,r2,p⟩:=r;simp only[c,Option.map_some,Option.some.injEq,Prod.mk.injEq]at h;obtain⟨rfl,j,rfl⟩:=h;refine g0M k xs l _ _ r2 _ c a ha fun f b=>hk f ⟨b.size,b.defers,fun t v g=>?_⟩;rcases s0K d l g with h4|⟨h4,h5⟩
  ·exact b.slot t v (i0F r2 _ t v (by rw[j];exact h4))
  ·refine b.slot t v ?_;rw[j0I k xs l _ _ r2 _ c t ?_,h5];intro o i hd;have:=List.all_eq_true.1 m o i;simp only[hd,p0Q d h4,h5,Option.isNone_some,Bool.or_self]at this;cases this
end
inductive V0 (σ τ:Type) where
 |next (s:σ)
 |done (t:τ)
def iter {σ τ:Type}(step:σ->Option (V0 σ τ)):Nat->σ->Option τ
 |0,_=>none
 |k+1,s=>match step s with
  |none=>none
  |some (.next a)=>iter step k a
  |some (.done t)=>some t
section
variable {P:Program}{n:Nat}{Q:Exit->Act->World->Prop}
def R6 {id:Nat}{xs:List Oper}{a:Act}{w:World}(h:wpList P xs.toArray Q xs a w):(Code.region id xs.toArray false).wp P Q a w:=wp_region_lit h
def w0o {c:Operand}{x y:Code}{l:FL}{a:Act}{w:World}(ha:Ag n l a)(hk:(g0a l c&&(lk l c matches .bool false))=true)(h:y.wp P Q a w):(Code.cond c x y).wp P Q a w:=by
 simp only[and_eq_true]at hk;refine wp_cond_false ?_ h;rw[ha.eval hk.1];have:=hk.2;split at this<;>simp_all
def n0K {t:Nat}{b:Bool}{x y:Code}{l:FL}{a:Act}{w:World}(ha:Ag n l a)(hk:look? l t=some (.bool b))(d:b=true->x.wp P Q a w)(c:b=false->y.wp P Q a w):(Code.cond (.tmp t) x y).wp P Q a w:=by
 have he:a.eval (.tmp t)=.bool b:=by rw[ha.eval (by simp[g0a,hk])];simp[lk,hk]
 cases b with
 |true=>exact wp_cond_true he (d rfl)
 |false=>exact wp_cond_false he (c rfl)
def s0e {σ τ:Type}{step:σ->Option (V0 σ τ)}{body:Code}{I:σ->Act->World->Prop}{D:τ->Exit->Act->World->Prop}
  (round:∀s c a w,I s a w->step s=some c->body.wp P (Exit.then (fun f w'=>∃l,c=.next l/\I l f w') (fun e f w'=>∃t,c=.done t/\D t e f w')) a w):
  ∀(k:Nat) (s:σ) (t:τ) (a:Act) (w:World),iter step k s=some t->I s a w->(Code.loop body).wp P (D t) a w:=by
 intro k s t a w hk m b ks cs;have key:∀(k:Nat) (s:σ) (a:Act) (w:World),iter step k s=some t->I s a w->
   ∃e f w',D t e f w'/\Arrives P (lone (b.at a (.code body :: .inLoop body :: ks)) cs w) b ks cs e f w':=by
  intro k
  induction k with
  |zero=>intro s a w h _;simp[iter]at h
  |succ k ih=>
   intro s a w h m;unfold iter at h;cases i:step s with
   |none=>simp[i]at h
   |some c=>
    obtain⟨e,r,q,j,d⟩:=round s c a w m i b (.inLoop body :: ks) cs;cases e with
    |normal=>
     obtain⟨l,rfl,o⟩:=j;simp only[i]at h;obtain⟨z,y,u,p,g⟩:=ih l r q h o;exact⟨z,y,u,p,.of_steps (Steps.trans d (.one step_inLoop)) g⟩
    |_=>
     obtain⟨C,rfl,hd⟩:=j;simp only[i,Option.some.injEq]at h;subst h;exact⟨_,r,q,hd,.pass (x:=.inLoop body) rfl (fun _ _=>.inl (by simp)) d⟩
 obtain⟨e,f,w',j,d⟩:=key k s a w hk m;exact⟨e,f,w',j,.of_steps (.one step_loop) d⟩
def g0r (vs:List Value):Nat->FL:=
 match vs with
 |[]=>fun _=>[]
 |v :: r=>fun k=>(k,v) :: g0r r (k+1)
def u01:∀(vs:List Value) (i k:Nat) (v:Value),look? (g0r vs i) k=some v->i<=k/\vs[k-i]?=some v
 |[],i,k,v,h=>by simp[g0r,look?]at h
 |x :: r,i,k,v,h=>by
  simp only[g0r,look?]at h
  by_cases e:i=k
  ·subst e;simp only[if_true,Option.some.injEq]at h;subst h;simp
  ·rw[if_neg e]at h;obtain⟨h1,a⟩:=u01 r (i+1) k v h;refine⟨by omega,?_⟩;have:k-i=(k-(i+1))+1:=by omega
   rw[this];simpa using a
def k0H {f:FuncId}{fn:Func}{c:Code}{vs:List Value}{w:World}{R:Ending->World->Prop}(d:P.funcs[f]?=some fn)(g:fn.body=some c)(hn:(decide (vs.length<=fn.ntmps))=true)
  (h:∀a,Ag fn.ntmps (g0r vs 0) a->c.wp P (bodyPost P fn R) a w):Calls P f vs.toArray w R:=
 calls_of_wp d g (h _ ⟨by simp at hn ⊢;omega,rfl,fun k v hk=>by
  obtain⟨_,b⟩:=u01 vs 0 k v hk;simp only[Nat.sub_zero]at b;rw[Array.getElem?_append_left (by
   rcases lt_or_ge k vs.length with hl|hl
   ·simpa using hl
   ·rw[List.getElem?_eq_none hl]at b;cases b)]
  simpa using b⟩)
def enter {f:FuncId}{fn:Func}{c:Code}{args:Array Value}{w:World}{R:Ending->World->Prop}(b:P.funcs[f]?=some fn)(d:fn.body=some c){l:FL}
  (hl:∀k v,look? l k=some v->(args++Array.replicate (fn.ntmps-args.size) undef)[k]?=some v) (hn:args.size<=fn.ntmps)
  (h:∀a,Ag fn.ntmps l a->c.wp P (bodyPost P fn R) a w):Calls P f args w R:=
 calls_of_wp b d (h _ ⟨by simp;omega,rfl,hl⟩)
def E0H (fn:Func)(R:Value->World->Prop):∀c a w,¬bodyPost P fn (fun e w'=>∃v,e=.returned v/\R v w') (.panic c) a w:=by
 rintro c a w ⟨_,v,h,_⟩;cases h
end
end Go.V
namespace Go.V
open Go.RowKit
abbrev K0:=Array Obj
abbrev D0:=Nat->Prop
structure U0 (H:K0)(S:D0)(H':K0)(S':D0):Prop where
 size:H.size<=H'.size
 blk:∀b,b<H.size->¬S b->¬S' b/\H'[b]?=H[b]?
def U0.refl (H:K0)(S:D0):U0 H S H S:=⟨le_refl _,fun _ _ h=>⟨h,rfl⟩⟩
def U0.trans {H H1 a:K0}{S S1 d:D0}(h:U0 H S H1 S1)(k:U0 H1 S1 a d):U0 H S a d:=
 ⟨Nat.le_trans h.size k.size,fun b c f=>by
  obtain⟨h1,j⟩:=h.blk b c f;obtain⟨i,g⟩:=k.blk b (lt_of_lt_of_le c h.size) h1;exact⟨i,g.trans j⟩⟩
def U0.less {H:K0}{S S':D0}(h:∀b,S' b->S b):U0 H S H S':=⟨le_refl _,fun b _ hn=>⟨fun a=>hn (h b a),rfl⟩⟩
structure Ty (α:Type) where
 sz:Nat
 R:K0->D0->List Value->α->Prop
 len:∀{H S cs x},R H S cs x->cs.length=sz
 one:∀{H S cs x},R H S cs x->∀v∈cs,v.oneCell'=true
 L1:∀{H S H' S' cs x},U0 H S H' S'->R H S cs x->R H' S' cs x
def U2 (H:K0)(b o:Nat):Option Value:=
 match H[b]? with
 |some (.cells c _ _)=>c[o]?
 |_=>none
def h0f (w:World)(b o:Nat):w.cell? ⟨b,o,none⟩=U2 w.heap b o:=by
 unfold World.cell? U2;simp only;cases w.heap[b]? with
 |none=>rfl
 |some o=>cases o<;>simp
def r03 {H:K0}{b o:Nat}{v:Value}(h:U2 H b o=some v):b<H.size:=by
 unfold U2 at h;rcases lt_or_ge b H.size with hl|hl
 ·exact hl
 ·rw[Array.getElem?_eq_none hl]at h;cases h
def f0O {H H':K0}{b o:Nat}(h:H'[b]?=H[b]?):U2 H' b o=U2 H b o:=by unfold U2;rw[h]
def V5 {α:Type}(T:Ty α)(H:K0)(S:D0)(A:Option Addr)(xs:List α):Prop:=
 ∀(i:Nat) (x:α),xs[i]?=some x->∃b o cs,A=some ⟨b,o,none⟩/\T.R H S cs x/\∀j v,cs[j]?=some v->U2 H b (o+i*T.sz+j)=some v
def Sl {α:Type}(T:Ty α)(H:K0)(S:D0)(A:Option Addr)(c:Nat)(xs:List α):Prop:=
 xs.length<=c/\(xs≠[]->∃b o,A=some ⟨b,o,none⟩/\b<H.size/\¬S b)/\V5 T H S A xs
def Sl.rdb {α:Type}{T:Ty α}{H:K0}{S:D0}{A:Option Addr}{c:Nat}{xs:List α}(h:Sl T H S A c xs):V5 T H S A xs:=h.2.2
def Sl.L1 {α:Type}{T:Ty α}{H H':K0}{S S':D0}{A:Option Addr}{c:Nat}{xs:List α}(k:U0 H S H' S')(h:Sl T H S A c xs):Sl T H' S' A c xs:=by
 refine⟨h.1,fun g=>?_,fun i x g=>?_⟩
 ·obtain⟨b,o,d,f,l⟩:=h.2.1 g;exact⟨b,o,d,lt_of_lt_of_le f k.size,(k.blk b f l).1⟩
 ·have m:xs≠[]:=by rintro rfl;simp at g
  obtain⟨b,o,d,f,l⟩:=h.2.1 m;obtain⟨b',s,cs,a,q,p⟩:=h.2.2 i x g;obtain⟨rfl,rfl⟩:b=b'/\o=s:=by rw[d]at a;simpa using a
  exact⟨b,o,cs,d,T.L1 k q,fun j v r=>by rw[f0O (k.blk b f l).2];exact p j v r⟩
def Sl.nil {α:Type}{T:Ty α}{H:K0}{S:D0}{A:Option Addr}{c:Nat}:Sl T H S A c []:=⟨by simp,fun h=>absurd rfl h,fun i x a=>by simp at a⟩
abbrev W (n:Int):Int:=IntKind.i64.wrap n
def C3 (k:IntKind)(a b:Int):Int:=k.wrap (BitVec.ofInt k.bits a&&& BitVec.ofInt k.bits b).toNat
def bor (k:IntKind)(a b:Int):Int:=k.wrap (BitVec.ofInt k.bits a ||| BitVec.ofInt k.bits b).toNat
def i0u (k:IntKind)(a b:Int):Int:=k.wrap (BitVec.ofInt k.bits a ^^^ BitVec.ofInt k.bits b).toNat
def q0O (k:IntKind)(a b:Int):Int:=k.wrap (BitVec.ofInt k.bits a&&& ~~~BitVec.ofInt k.bits b).toNat
def shr (k:IntKind)(a b:Int):Int:=a.fdiv (2 ^ min b.toNat k.bits)
def shl (k:IntKind)(a b:Int):Int:=k.wrap (a*2 ^ min b.toNat k.bits)
def F0o {α:Sort _}{b:Bool}{x y:α}(h:b=true):(if b then x else y)=x:=if_pos h
def v03 {α:Sort _}{b:Bool}{x y:α}(h:b=false):(if b then x else y)=y:=if_neg (by rw[h];decide)
def l09 {α:Type _}{b:Bool}{x:Option α}{r:α}(h:(if b then x else none)=some r):b=true/\x=some r:=by
 cases b with
 |true=>exact⟨rfl,h⟩
 |false=>cases h
def b0Z {α β:Type _}{m:Option α}{f:α->Option β}{r:β}(h:Option.bind m f=some r):∃x,m=some x/\f x=some r:=by
 cases m with
 |none=>cases h
 |some x=>exact⟨x,rfl,h⟩
def z05 {G:Prop}{n t:Nat}{b:Bool}{l:FL}{a:Act}(ha:Ag n l a)(hl:look? l t=some (.bool b))(d:b=true->Ag n ((t,.bool true) :: l) a->G)(f:b=false->Ag n ((t,.bool false) :: l) a->G):G:=by
 have key:∀b',b=b'->Ag n ((t,.bool b') :: l) a:=fun b' e=>⟨ha.size,ha.defers,fun k v hk=>by
  simp only[look?]at hk
  by_cases c:t=k
  ·subst c;simp only[if_true,Option.some.injEq]at hk;subst hk;subst e;exact ha.slot _ _ hl
  ·rw[if_neg c]at hk;exact ha.slot k v hk⟩
 cases b with
 |true=>exact d rfl (key true rfl)
 |false=>exact f rfl (key false rfl)
def Ag.to {n:Nat}{l l':FL}{a:Act}(ha:Ag n l a)(h:l'.map (fun p=>look? l p.1)=l'.map (fun p=>some p.2)):Ag n l' a:=by
 refine⟨ha.size,ha.defers,?_⟩
 induction l' with
 |nil=>intro k v hk;simp[look?]at hk
 |cons p r ih=>
  intro k v hk;simp only[List.map_cons,List.cons.injEq]at h;obtain⟨b,c⟩:=p;simp only[look?]at hk
  by_cases e:b=k
  ·subst e;simp only[if_true,Option.some.injEq]at hk;subst hk;exact ha.slot _ _ h.1
  ·rw[if_neg e]at hk;exact ih h.2 k v hk
def C0p {P:Program}{c:Code}{Q:Exit->Act->World->Prop}{D:Act->World->Prop}{a:Act}{w:World}(h:c.wp P (Exit.then D Q) a w)(hd:∀a w,D a w->Q .normal a w):c.wp P Q a w:=
 wp_mono h fun e a w b=>by cases e<;>first|exact hd _ _ b|exact b
def gt {α:Type}[Inhabited α](l:List α)(i:Int):α:=l.getD i.toNat default
def B0 {α:Type}(l:List α)(i:Int):Bool:=decide (0<=i)&&decide (i<l.length)
def c0g {α:Type}{l:List α}{i:Int}(h:B0 l i=true):0<=i/\i<l.length:=by simpa[B0]using h
def i0e {α:Type}[Inhabited α]{l:List α}{i:Int}(h:B0 l i=true):l[i.toNat]?=some (gt l i):=by
 have:=c0g h;have hl:i.toNat<l.length:=by omega
 simp[gt,hl]
def V5.get {α:Type}[Inhabited α]{T:Ty α}{H:K0}{S:D0}{A:Option Addr}{xs:List α}(h:V5 T H S A xs){i:Int}(hi:B0 xs i=true):
  ∃b o cs,A=some ⟨b,o,none⟩/\T.R H S cs (gt xs i)/\∀j v,cs[j]?=some v->U2 H b (o+i.toNat*T.sz+j)=some v:=h _ _ (i0e hi)
def V5.at {α:Type}[Inhabited α]{T:Ty α}{H:K0}{S:D0}{b o:Nat}{xs:List α}(h:V5 T H S (some ⟨b,o,none⟩) xs){i:Int}(hi:B0 xs i=true):
  ∃cs,T.R H S cs (gt xs i)/\∀j v,cs[j]?=some v->U2 H b (o+i.toNat*T.sz+j)=some v:=by
 obtain⟨b',d,cs,a,c⟩:=h.get hi;simp at a;obtain⟨rfl,rfl⟩:=a;exact⟨cs,c⟩
def C2 (k:IntKind):Ty Int where
 sz:=1
 R:=fun _ _ cs x=>cs=[.int k x]
 len:=by rintro _ _ _ _ rfl;rfl
 one:=by rintro _ _ _ _ rfl v a;simp at a;subst a;rfl
 L1:=fun _ h=>h
def b0E:Ty Bool where
 sz:=1
 R:=fun _ _ cs x=>cs=[.bool x]
 len:=by rintro _ _ _ _ rfl;rfl
 one:=by rintro _ _ _ _ rfl v a;simp at a;subst a;rfl
 L1:=fun _ h=>h
def E3 {α:Type}(T:Ty α):Ty (List α) where
 sz:=1
 R:=fun H S cs xs=>∃(A:Option Addr) (c:Nat),cs=[.slice A xs.length c]/\Sl T H S A c xs
 len:=by rintro _ _ _ _ ⟨_,_,rfl,_⟩;rfl
 one:=by rintro _ _ _ _ ⟨_,_,rfl,_⟩ v hv;simp at hv;subst hv;rfl
 L1:=fun k ⟨A,c,h1,h2⟩=>⟨A,c,h1,h2.L1 k⟩
def Row (H:K0)(e:TypeId)(sz:Nat)(v:Value)(n:Nat)(cs:List Value):Prop:=
 cs.length=n*sz/\((v=.slice none 0 0/\n=0)\/
  ∃g cap cur,v=.slice (some ⟨g,0,none⟩) n cap/\H[g]?=some (.cells cur e (0,0))/\n<=cap/\cap<=maxLen/\cur.size=cap*sz/\cur.toList.take (n*sz)=cs)
def Row.own {w:World}{e:TypeId}{sz:Nat}{v:Value}{n:Nat}{cs:List Value}(h:Row w.heap e sz v n cs):w.ownsRow 0 e sz v n cs:=by
 obtain⟨a,h1|⟨g,cap,cur,b,r⟩⟩:=h
 ·exact⟨a,.inl h1⟩
 ·exact⟨a,.inr ⟨g,cap,cur,b,Nat.zero_le _,r⟩⟩
def Row.of {w:World}{B:Nat}{e:TypeId}{sz:Nat}{v:Value}{n:Nat}{cs:List Value}(h:w.ownsRow B e sz v n cs):Row w.heap e sz v n cs:=by
 obtain⟨a,h1|⟨g,cap,cur,b,_,r⟩⟩:=h
 ·exact⟨a,.inl h1⟩
 ·exact⟨a,.inr ⟨g,cap,cur,b,r⟩⟩
def U1 {α:Type}(T:Ty α)(H:K0)(S:D0)(cs:List Value)(xs:List α):Prop:=
 cs.length=xs.length*T.sz/\∀(i:Nat) (x:α),xs[i]?=some x->T.R H S ((cs.drop (i*T.sz)).take T.sz) x
def U1.nil {α:Type}{T:Ty α}{H:K0}{S:D0}:U1 T H S [] []:=⟨by simp,fun i x a=>by simp at a⟩
def U1.L1 {α:Type}{T:Ty α}{H H':K0}{S S':D0}{cs:List Value}{xs:List α}(k:U0 H S H' S')(h:U1 T H S cs xs):U1 T H' S' cs xs:=
 ⟨h.1,fun i x a=>T.L1 k (h.2 i x a)⟩
def U1.append {α:Type}{T:Ty α}{H:K0}{S:D0}{cs b:List Value}{xs ys:List α}(h:U1 T H S cs xs)(k:U1 T H S b ys):U1 T H S (cs++b) (xs++ys):=by
 refine⟨by simp[h.1,k.1,Nat.add_mul],fun i x a=>?_⟩;rcases lt_or_ge i xs.length with hi|hi
 ·rw[List.getElem?_append_left hi]at a;have f:=h.2 i x a;have hle:i*T.sz+T.sz<=cs.length:=by rw[h.1,<-Nat.succ_mul];exact Nat.mul_le_mul_right _ hi
  rw[List.drop_append_of_le_length (by omega),List.take_append_of_le_length (by simp;omega)];exact f
 ·rw[List.getElem?_append_right hi]at a;have c:=k.2 _ x a;have e:i*T.sz=cs.length+(i-xs.length)*T.sz:=by rw[h.1,<-Nat.add_mul];congr 1;omega
  rw[e,List.drop_append];have:List.drop (cs.length+(i-xs.length)*T.sz) cs=[]:=List.drop_of_length_le (by omega);rw[this,List.nil_append];have d:cs.length+(i-xs.length)*T.sz-cs.length=(i-xs.length)*T.sz:=by omega
  rw[d];exact c
def U1.one {α:Type}{T:Ty α}{H:K0}{S:D0}{cs:List Value}{x:α}(h:T.R H S cs x):U1 T H S cs [x]:=by
 refine⟨by simp[T.len h],fun i y a=>?_⟩;cases i with
 |zero=>
  simp at a;subst a;simp only[Nat.zero_mul,List.drop_zero];rw[List.take_of_length_le (by rw[T.len h];exact le_refl _)];exact h
 |succ i=>simp at a
def U1.f01 {α:Type}{T:Ty α}{H:K0}{S:D0}{cs:List Value}{xs:List α}(h:U1 T H S cs xs):∀v∈cs,v.oneCell'=true:=by
 intro v f;obtain⟨p,hp,rfl⟩:=List.getElem_of_mem f;have c:p<xs.length*T.sz:=by rw[<-h.1];exact hp
 have a:0<T.sz:=by
  rcases Nat.eq_zero_or_pos T.sz with e|e
  ·rw[e]at c;omega
  ·exact e
 have hi:p / T.sz<xs.length:=(Nat.div_lt_iff_lt_mul a).2 c;have g:=h.2 (p / T.sz) _ (List.getElem?_eq_getElem hi);refine T.one g _ ?_;have b:=Nat.mod_lt p a;have d:p / T.sz*T.sz+p % T.sz=p:=by rw[Nat.mul_comm];exact Nat.div_add_mod p T.sz
 refine List.mem_iff_getElem?.2 ⟨p % T.sz,?_⟩;rw[List.getElem?_take_of_lt b,List.getElem?_drop,d,List.getElem?_eq_getElem hp]
def Ow {α:Type}(T:Ty α)(e:TypeId)(M:D0)(H:K0)(S:D0)(v:Value)(xs:List α):Prop:=
 (∀k,v.ownBlock=some k->S k/\M k)/\∃cs,Row H e T.sz v xs.length cs/\U1 T H S cs xs
def inV (v:Value)(S:D0):D0:=fun k=>v.ownBlock=some k\/S k
section
variable {α:Type}{T:Ty α}{e:TypeId}{M M':D0}{H H':K0}{S S':D0}{v:Value}{xs:List α}
def Ow.form (h:Ow T e M H S v xs):∃A c,v=.slice A xs.length c:=by
 obtain⟨_,cs,⟨_,h1⟩,_⟩:=h;rcases h1 with⟨rfl,a⟩|⟨g,cap,cur,rfl,_⟩
 ·exact⟨none,0,by rw[a]⟩
 ·exact⟨_,_,rfl⟩
def Ow.cap {A:Option Addr}{n c:Nat}(h:Ow T e M H S (.slice A n c) xs):xs.length<=c:=by
 obtain⟨_,cs,⟨_,h1⟩,_⟩:=h;rcases h1 with⟨a,b⟩|⟨g,cap,cur,a,_,hc,_⟩
 ·omega
 ·simp at a;obtain⟨_,_,rfl⟩:=a;exact hc
def Ow.own (h:Ow T e M H S v xs):∀k,v.ownBlock=some k->S k/\M k:=h.1
def Ow.lt (h:Ow T e M H S v xs):∀k,v.ownBlock=some k->k<H.size:=by
 obtain⟨_,cs,⟨_,h1⟩,_⟩:=h;rcases h1 with⟨rfl,a⟩|⟨g,cap,cur,rfl,hg,_⟩
 ·intro k hk;simp[Value.ownBlock]at hk
 ·intro k hk;simp[Value.ownBlock]at hk;subst hk;exact(Array.getElem?_eq_some_iff.1 hg).1
def Ow.rdb {A:Option Addr}{n c:Nat}(h:Ow T e M H S (.slice A n c) xs):V5 T H S A xs:=by
 obtain⟨_,cs,⟨hl,h1⟩,he⟩:=h;intro i x f;have hi:i<xs.length:=by
  rcases lt_or_ge i xs.length with h|h
  ·exact h
  ·rw[List.getElem?_eq_none h]at f;cases f
 rcases h1 with⟨b,k⟩|⟨g,cap,cur,b,hg,hnc,hm,hcs,htake⟩
 ·omega
 ·simp at b;obtain⟨rfl,rfl,rfl⟩:=b;refine⟨g,0,_,rfl,he.2 i x f,fun j u a=>?_⟩;have d:j<T.sz:=by
   rcases lt_or_ge j T.sz with h|h
   ·exact h
   ·rw[List.getElem?_eq_none (by simp;omega)]at a;cases a
  rw[List.getElem?_take_of_lt d,List.getElem?_drop]at a;unfold U2;rw[hg];simp only;rw[<-htake]at a;have hle:i*T.sz+T.sz<=xs.length*T.sz:=by rw[<-Nat.succ_mul];exact Nat.mul_le_mul_right _ hi
  rw[List.getElem?_take_of_lt (by omega)]at a;rw[zero_add];simpa using a
def Ow.L1 (k:U0 H S H' S')(h:Ow T e M H S v xs)(c:∀b,S b->S' b)(d:∀b,v.ownBlock=some b->H'[b]?=H[b]?):Ow T e M H' S' v xs:=by
 obtain⟨a,cs,⟨hl,h1⟩,he⟩:=h;refine⟨fun k hk=>⟨c k (a k hk).1,(a k hk).2⟩,cs,⟨hl,?_⟩,he.L1 k⟩;rcases h1 with h1|⟨g,cap,cur,rfl,hg,r⟩
 ·exact .inl h1
 ·exact .inr ⟨g,cap,cur,rfl,by rw[d g (by simp[Value.ownBlock])];exact hg,r⟩
def Ow.p0E (h:Ow T e M H S v xs)(a:∀b,S' b->S b)(c:∀b,v.ownBlock=some b->S' b):Ow T e M H S' v xs:=by
 obtain⟨d,cs,h1,he⟩:=h;exact⟨fun k hk=>⟨c k hk,(d k hk).2⟩,cs,h1,he.L1 (U0.less a)⟩
def Ow.e0z (h:Ow T e M H S v xs)(hm:∀k,v.ownBlock=some k->M' k):Ow T e M' H S v xs:=⟨fun k hk=>⟨(h.1 k hk).1,hm k hk⟩,h.2⟩
def Ow.freeze {A:Option Addr}{n c:Nat}(h:Ow T e M H S (.slice A n c) xs)(l:∀b,S' b->S b)(hn:∀b,(Value.slice A n c).ownBlock=some b->¬S' b):Sl T H S' A c xs:=by
 refine⟨h.cap,fun f=>?_,?_⟩
 ·obtain⟨_,cs,⟨hl,h1⟩,he⟩:=h;rcases h1 with⟨a,p⟩|⟨g,cap,cur,a,hg,hnc,hm,hcs,htake⟩
  ·exact absurd (List.eq_nil_of_length_eq_zero p) f
  ·simp at a;obtain⟨rfl,rfl,rfl⟩:=a;exact⟨g,0,rfl,(Array.getElem?_eq_some_iff.1 hg).1,hn g (by simp[Value.ownBlock])⟩
 ·have m:=h.rdb;intro i x f;obtain⟨b,o,cs,k,d,j⟩:=m i x f;exact⟨b,o,cs,k,T.L1 (U0.less l) d,j⟩
def Ow.nil:Ow T e M H S (.slice none 0 0) []:=⟨fun k hk=>by simp[Value.ownBlock]at hk,[],⟨by simp,.inl ⟨rfl,rfl⟩⟩,U1.nil⟩
end
def Bx (H:K0)(S:D0)(b:Nat)(t:TypeId)(cs:List Value):Prop:=H[b]?=some (.cells cs.toArray t (0,0))/\¬S b
def Mb (M:D0)(H:K0)(S:D0)(b:Nat)(t:TypeId)(cs:List Value):Prop:=H[b]?=some (.cells cs.toArray t (0,0))/\S b/\M b
def getElem?_lt {H:K0}{b:Nat}{o:Obj}(h:H[b]?=some o):b<H.size:=(Array.getElem?_eq_some_iff.1 h).1
def Bx.e0S {H:K0}{S:D0}{b:Nat}{t:TypeId}{cs:List Value}(h:Bx H S b t cs):b<H.size:=getElem?_lt h.1
def Mb.e0S {M:D0}{H:K0}{S:D0}{b:Nat}{t:TypeId}{cs:List Value}(h:Mb M H S b t cs):b<H.size:=getElem?_lt h.1
def Bx.L1 {H H':K0}{S S':D0}{b:Nat}{t:TypeId}{cs:List Value}(k:U0 H S H' S')(h:Bx H S b t cs):Bx H' S' b t cs:=by
 obtain⟨h1,a⟩:=k.blk b (getElem?_lt h.1) h.2;exact⟨a.trans h.1,h1⟩
def Bx.cell {H:K0}{S:D0}{b:Nat}{t:TypeId}{cs:List Value}(h:Bx H S b t cs)(j:Nat)(v:Value)(a:cs[j]?=some v):U2 H b j=some v:=by
 unfold U2;rw[h.1];simpa using a
def Mb.cell {M:D0}{H:K0}{S:D0}{b:Nat}{t:TypeId}{cs:List Value}(h:Mb M H S b t cs)(j:Nat)(v:Value)(a:cs[j]?=some v):U2 H b j=some v:=by
 unfold U2;rw[h.1];simpa using a
def Mb.L1 {M:D0}{H H':K0}{S S':D0}{b:Nat}{t:TypeId}{cs:List Value}(h:Mb M H S b t cs)(a:∀b,S b->S' b)(c:H'[b]?=H[b]?):Mb M H' S' b t cs:=
 ⟨c.trans h.1,a b h.2.1,h.2.2⟩
structure Q8 (W0:D0)(w w1:World):Prop where
 os:w1.os=w.os
 tape:w1.tape=w.tape
 output:w1.output=w.output
 size:w.heap.size<=w1.heap.size
 block:∀k,k<w.heap.size->¬W0 k->w1.heap[k]?=w.heap[k]?
def Q5:D0:=fun _=>False
def Q8.below {w w1:World}(h:Q8 Q5 w w1):Below w.heap.size w w1:=⟨h.os,h.tape,h.output,h.size,fun k hk=>h.block k hk (fun h=>h)⟩
def Q8.trans {W0:D0}{w w1 a:World}(h:Q8 W0 w w1)(b:Below w1.heap.size w1 a):Q8 W0 w a:=
 ⟨b.os.trans h.os,b.tape.trans h.tape,b.output.trans h.output,Nat.le_trans h.size b.size,fun k hk hn=>(b.block k (lt_of_lt_of_le hk h.size)).trans (h.block k hk hn)⟩
def Wr (W0:D0)(w0:World):D0:=fun k=>W0 k\/w0.heap.size<=k
structure Cx (w0:World)(W0 S0:D0)(w:World)(S:D0):Prop where
 bel:Q8 W0 w0 w
 sub:∀b,S0 b->S b
 lt:∀b,S b->b<w.heap.size
 lt0:∀b,S0 b->b<w0.heap.size
def Cx.start {w:World}{W0 S:D0}(a:∀b,S b->b<w.heap.size):Cx w W0 S w S:=⟨⟨rfl,rfl,rfl,le_refl _,fun _ _ _=>rfl⟩,fun _ h=>h,a,a⟩
def Cx.size {w0 w:World}{W0 S0 S:D0}(h:Cx w0 W0 S0 w S):w0.heap.size<=w.heap.size:=h.bel.size
def Cx.below {w0 w:World}{S0 S:D0}(h:Cx w0 Q5 S0 w S):Below w0.heap.size w0 w:=h.bel.below
def Cx.ext {w0 w w1:World}{W0 S0 S:D0}(h:Cx w0 W0 S0 w S)(c:Below w.heap.size w w1):Cx w0 W0 S0 w1 S:=
 ⟨h.bel.trans c,h.sub,fun b a=>lt_of_lt_of_le (h.lt b a) c.size,h.lt0⟩
def Cx.more {w0 w:World}{W0 S0 S S1:D0}(h:Cx w0 W0 S0 w S)(a:∀b,S b->S1 b)(hl:∀b,S1 b->b<w.heap.size):Cx w0 W0 S0 w S1:=
 ⟨h.bel,fun b c=>a b (h.sub b c),hl,h.lt0⟩
def U0.ext {w w1:World}(S:D0)(a:Below w.heap.size w w1):U0 w.heap S w1.heap S:=⟨a.size,fun b h hn=>⟨hn,a.block b h⟩⟩
section
variable {P:Program}
def D0A (w:World)(b o n m:Nat):w.cell? (((⟨b,o,none⟩:Addr).add n).add m)=U2 w.heap b (o+n+m):=by
 rw[<-h0f];congr 1;unfold Addr.add
 by_cases hn:n=0<;>by_cases hm:m=0<;>simp[hn,hm]
def b0a (w:World)(b o n:Nat):w.cell? ((⟨b,o,none⟩:Addr).add n)=U2 w.heap b (o+n):=by
 rw[<-h0f];congr 1;unfold Addr.add
 by_cases hn:n=0<;>simp[hn]
def flat:TypeDesc->Bool
 |.struct _|.array _ _=>false
 |_=>true
def s0G {l:FL}{o:Oper}{T:TypeId}{x:Operand}{a:Addr}{v:Value}{d:TypeDesc}(w:World)(c:o.op=.load T x)(f:lk l x=.pointer (some a))
  (g:P.underlying T=some d) (hd:flat d=true) (b:w.cell? a=some v):
  (execOp (lk l) o).run P w=.ok (.value v) w:=by
 have:(isAgg T).run P w=.ok false w:=by
  unfold isAgg;simp only[run_underlying g,Sem.run_bind];cases d<;>simp_all[flat]
 simp[execOp,c,f,Instr.loadAt,Instr.sureAddr,loadVar,this,load,Sem.run,b]
def l02 (a:Addr)(w:World):∀(cs:List Value) (i:Nat) (acc:Array Value),(∀j v,cs[j]?=some v->w.cell? (a.add (i+j))=some v)->
  (loadCellsFrom a i cs.length acc).run P w=.ok (acc++cs.toArray) w
 |[],i,acc,_=>by simp[loadCellsFrom]
 |c :: cs,i,acc,h=>by
  have b:=h 0 c (by simp);have f:=l02 a w cs (i+1) (acc.push c) (fun j v d=>by have:=h (j+1) v (by simpa using d);rwa [show i+1+j=i+(j+1)from by omega]);simp only[Nat.add_zero]at b;simp[loadCellsFrom,load,Sem.run,b,f]
def RV (P:Program)(l:FL)(w:World):ResultVar->Value->Prop
 |.tmp t,v=>look? l t=some v
 |.cell q t,v=>∃ad,look? l q=some (.pointer (some ad))/\(loadVar t ad).run P w=.ok v w
def S8 (tmps:Array Value)(r:ResultVar):Sem Value:=
 match r with
 |.tmp t=>pure (tmps.getD t undef)
 |.cell a t=>do loadVar t (<-asAddr (tmps.getD a undef))
def RV.run {n:Nat}{l:FL}{a:Act}{w:World}{r:ResultVar}{v:Value}(ha:Ag n l a)(h:RV P l w r v):(S8 a.tmps r).run P w=.ok v w:=by
 cases r with
 |tmp t=>simp[S8,ha.slot t v h]
 |cell q t=>
  obtain⟨ad,h1,b⟩:=h;simp[S8,ha.slot q _ h1,asAddr,b]
def r0h {n:Nat}{l:FL}{a:Act}{w:World}{fn:Func}{R:Ending->World->Prop}{e:Exit}{r1 r2:ResultVar}{v1 v2:Value}(ha:Ag n l a)(c:fn.results=#[r1,r2])(he:e=.ret\/e=.normal)
  (h1:RV P l w r1 v1) (g:RV P l w r2 v2) (h:R (.returned (.tuple #[v1,v2])) w):bodyPost P fn R e a w:=by
 have f:=h1.run ha;have d:=g.run ha;have b:(results fn a.tmps).run P w=.ok (.tuple #[v1,v2]) w:=by
  have:results fn a.tmps=(do let x <-S8 a.tmps r1;let y <-S8 a.tmps r2;pure (.tuple #[x,y])):=by
   unfold results;rw[c];simp[S8];rfl
  rw[this];simp[f,d]
 rcases he with rfl|rfl<;>exact⟨ha.defers,_,b,h⟩
def u0m {n:Nat}{l:FL}{a:Act}{w:World}{fn:Func}{R:Ending->World->Prop}{e:Exit}{r1:ResultVar}{v1:Value}(ha:Ag n l a)(b:fn.results=#[r1])(he:e=.ret\/e=.normal)
  (h1:RV P l w r1 v1) (h:R (.returned v1) w):bodyPost P fn R e a w:=by
 have c:=h1.run ha;have d:(results fn a.tmps).run P w=.ok v1 w:=by
  have:results fn a.tmps=S8 a.tmps r1:=by
   unfold results;rw[b];simp[S8];rfl
  rw[this];simp[c]
 rcases he with rfl|rfl<;>exact⟨ha.defers,_,d,h⟩
def RV.cell {l:FL}{w:World}{q:Nat}{t:TypeId}{b:Nat}{f:TypeId}{cs:List Value}{d:TypeDesc}(hl:look? l q=some (.pointer (some ⟨b,0,none⟩)))(g:w.heap[b]?=some (.cells cs.toArray f (0,0)))
  (h:P.underlying t=some d) (hd:flat d=false) (m:(P.info? t).map (·.size)=some cs.length):RV P l w (.cell q t) (.agg cs.toArray):=by
 refine⟨_,hl,?_⟩;obtain⟨inf,a,c⟩:=Option.map_eq_some_iff.1 m;have h1:(isAgg t).run P w=.ok true w:=by
  unfold isAgg;simp only[run_underlying h,Sem.run_bind];cases d<;>simp_all[flat]
 have k:=l02 (P:=P) ⟨b,0,none⟩ w cs 0 #[] (fun j v i=>by
  rw[b0a,zero_add,zero_add];unfold U2;rw[g];simpa using i)
 simp[loadVar,h1,loadCells,sizeOf,typeInfo,a,c,k]
end
