/- P. Its conditions: none. -/
import Derived.Test.YtmhooikfkhjijaaGreatYX11
open Nat (lt_or_ge blt_eq ble_eq)
open List (mem_cons mem_map mem_append)
open Bool (and_eq_true or_eq_true not_eq_true')
set_option linter.all false
namespace Go.X
open Go.V Go.RowKit
section
variable {E:Env}{ops:Array Oper}{Q:Exit->Act->World->Prop}
def d0g (ops:Array Oper)(m:Nat):Bool:=match ops[m]? with
 |some o=>!g0d o
 |none=>false
structure L7 where
 h:K0
 i:Nat
 v:Option Value
def L7.has (p:L7)(k:Nat):Prop:=∀u,p.v=some u->D1 u=some k
structure TS (ops:Array Oper)(AN:K0->D0->Prop)(AO:List L7)(er:List Nat)(L:Array Bool)(w:World):Prop where
 an:∀H1 S1,AN H1 S1->∃S',U0 H1 S1 w.heap S'
 ao:∀p∈AO,(∀m,d0g ops m=true->e0g ops m p.i=true->m∉er->L.getD m false=false)->∀k,k<p.h.size->p.has k->w.heap[k]?=p.h[k]?
def o0p {S b:Array Bool->World->Prop}(h:∀L w,S L w->b L w):∀(n:Nat) (L:Array Bool) (a:Act) (w:World),wpS E.P ops Q S n L a w->wpS E.P ops Q b n L a w
 |0,L,a,w,hw=>hw
 |n+1,L,a,w,hw=>⟨hw.1,fun i hi=>wpOp_mono (fun c w' k=>⟨h _ _ k.1,o0p h n _ c w' k.2⟩) (hw.2 i hi)⟩
def TS.mono {AN c:K0->D0->Prop}{d b:List L7}{er:List Nat}(h1:∀H S,AN H S->c H S)(e:∀p∈d,p∈b){L:Array Bool}{w:World}(h:TS ops c b er L w):TS ops AN d er L w:=
 ⟨fun H S ha=>h.an H S (h1 H S ha),fun p hp=>h.ao p (e p hp)⟩
def TS.er {AN:K0->D0->Prop}{b:List L7}{er:List Nat}{q:Nat}{L:Array Bool}{w:World}(h:TS ops AN b (q :: er) L w):TS ops AN b er L w:=
 ⟨h.an,fun p hp hm=>h.ao p hp fun m h1 d c=>hm m h1 d (fun e=>c (List.mem_cons_of_mem _ e))⟩
def TS.set {AN:K0->D0->Prop}{d:List L7}{er:List Nat}{i:Nat}(hi:d0g ops i=false\/i∈er){L:Array Bool}{w:World}:TS ops AN d er (L.setIfInBounds i true) w↔TS ops AN d er L w:=by
 have key:∀m,d0g ops m=true->m∉er->(L.setIfInBounds i true).getD m false=L.getD m false:=fun m h1 c=>by
  have:i≠m:=by
   rintro rfl
   rcases hi with hi|hi
   ·rw[hi]at h1;cases h1
   ·exact c hi
  exact getD_set_ne false this
 constructor
 ·exact fun h=>⟨h.an,fun p hp hm=>h.ao p hp fun m h1 c b=>by rw[key m h1 b];exact hm m h1 c b⟩
 ·exact fun h=>⟨h.an,fun p hp hm=>h.ao p hp fun m h1 c b=>by rw[<-key m h1 b];exact hm m h1 c b⟩
def j9 (ops:Array Oper)(L:Array Bool):Nat:=((List.range ops.size).filter fun p=>B5 L p).length
def c0N {L:Array Bool}{p q:Nat}:B5 (L.setIfInBounds p true) q=(B5 L q&&!decide (p=q)):=by
 unfold B5
 by_cases h:p=q
 ·subst h;simp only[decide_true,Bool.not_true,Bool.and_false,Array.getD_eq_getD_getElem?];rcases lt_or_ge p L.size with h1|h1
  ·simp[h1]
  ·simp[Array.getElem?_eq_none,h1]
 ·rw[getD_set_ne true h];simp[h]
def i0x {L:Array Bool}{p:Nat}(h1:p<ops.size)(c:B5 L p=true):j9 ops (L.setIfInBounds p true)+1<=j9 ops L:=by
 have:∀l:List Nat,p∈l->(l.filter fun q=>B5 (L.setIfInBounds p true) q).length+1<=(l.filter fun q=>B5 L q).length:=by
  intro l
  induction l with
  |nil=>intro h;cases h
  |cons x l ih=>
   have hle:∀l:List Nat,(l.filter fun q=>B5 (L.setIfInBounds p true) q).length<=(l.filter fun q=>B5 L q).length:=by
    intro l;have e:(l.filter fun q=>B5 (L.setIfInBounds p true) q)=(l.filter fun q=>B5 L q).filter fun q=>!decide (p=q):=by
     rw[List.filter_filter];congr 1;funext q;rw[c0N,Bool.and_comm]
    rw[e];exact List.length_filter_le _ _
   intro hm
   by_cases b:p=x
   ·subst b;have:=hle l;simp only[List.filter_cons,c0N,c,decide_true,Bool.not_true,Bool.and_false,Bool.true_and,Bool.false_eq_true,if_false,if_true,List.length_cons];simp only[c0N]at this;omega
   ·have hm:p∈l:=by
     rcases mem_cons.1 hm with h|h
     ·exact absurd h b
     ·exact h
    have:=ih hm;simp only[c0N]at this;simp only[List.filter_cons,c0N,b,decide_false,Bool.not_false,Bool.and_true];cases B5 L x<;>simp<;>omega
 exact this _ (List.mem_range.2 h1)
def n0t {L:Array Bool}{p:Nat}:B5 L p=true↔L[p]?=some false:=by
 unfold B5;rw[Array.getD_eq_getD_getElem?];cases h:L[p]? with
 |none=>simp
 |some b=>cases b<;>simp
def g0y {L:Array Bool}{p:Nat}(h:p∈Region.ready .any ops L):B5 L p=true/\p<ops.size:=by
 obtain⟨h1,o,b,_⟩:=mem_ready.1 h;exact⟨by unfold B5;rw[h1];rfl,(Array.getElem?_eq_some_iff.1 b).1⟩
def F0w {L:Array Bool}(h:∀p,p<ops.size->B5 L p=false):Region.ready .any ops L=[]:=by
 cases b:Region.ready .any ops L with
 |nil=>rfl
 |cons p l=>
  have:=g0y (p:=p) (ops:=ops) (L:=L) (by rw[b];simp);rw[h p this.2]at this;exact absurd this.1 (by simp)
variable {A:O4}{s:St E.D}{ρ:Nat->Value}{S:D0}{a:Act}{as:List Act}{w:World}
def O4.with (A:O4)(AN:K0->D0->Prop)(HA:Nat->Value->Prop):O4:={ A with anc:=AN,hda:=HA }
def Rp.anc {b:K0->D0->Prop}{c:Nat->Value->Prop}(h:Rp E (A.with b c) s ρ S a as w){AN:K0->D0->Prop}{HA:Nat->Value->Prop}(hk:∀H1 S1,AN H1 S1->U0 H1 S1 w.heap S)(d:∀i u,HA i u->i<s.nid/\hd (ρ i)=u):Rp E (A.with AN HA) s ρ S a as w:=
 ⟨h.cx,h.fr,h.stk,h.th,h.ow,h.dj,h.lt,h.rf,hk,d⟩
def Rp.w0T {AN:K0->D0->Prop}{HA:Nat->Value->Prop}(h:Rp E (A.with AN HA) s ρ S a as w)(hk:∀H1 S1,A.anc H1 S1->AN H1 S1)(b:∀i u,A.hda i u->HA i u):Rp E A s ρ S a as w:=
 ⟨h.cx,h.fr,h.stk,h.th,h.ow,h.dj,h.lt,h.rf,fun H1 S1 ha=>h.kp H1 S1 (hk H1 S1 ha),fun i u ha=>h.hp i u (b i u ha)⟩
def e0F (H:K0)(p:Nat)(ov:Option (Option Value))(b:List L7):List L7:=match ov with
 |some v=>⟨H,p,v⟩ :: b
 |none=>b
def z0v {H:K0}{p:Nat}{ov:Option (Option Value)}{b:List L7}{q:L7}(h:q∈b):q∈e0F H p ov b:=by
 cases ov with
 |none=>exact h
 |some v=>exact List.mem_cons_of_mem _ h
def k0T {H:K0}{p:Nat}{ov:Option (Option Value)}{b:List L7}{q:L7}(h:q∈e0F H p ov b):q∈b\/∃v,ov=some v/\q=⟨H,p,v⟩:=by
 cases ov with
 |none=>exact .inl h
 |some v=>
  rcases mem_cons.1 h with rfl|h
  ·exact .inr ⟨v,rfl,rfl⟩
  ·exact .inl h
def B0z {AN:K0->D0->Prop}{d:List L7}{er:List Nat}{n p:Nat}{L:Array Bool}{o:Oper}{u:Value}{B:Nat->Prop}{ov:Option (Option Value)}(J:∀k,B k->∃v,ov=some v/\∀x,v=some x->D1 x=some k)(I:NoP Q)(z:ops[p]?=some o)(g:okQ ops L p=true)(U:p∈Region.ready .any ops L)(he:d0g ops p=false)
  (hw:Region.wanted o (yielded ops a.tmps)=true) (f:∀w',K8 E s S w B w'->(execOp a.eval o).run E.P w'=.ok (.value u) w') (i:TS ops AN d er L w)
  (hk:wpS E.P ops Q (TS ops (fun H1 S1=>AN H1 S1\/(H1=w.heap/\S1=S)) (e0F w.heap p ov d) er) n (L.setIfInBounds p true) (a.put o.dst u) w):wpS E.P ops Q (TS ops AN d er) (n+1) L a w:=by
 simp only[okQ,and_eq_true]at g;obtain⟨⟨h1,t⟩,h3⟩:=g;have e:TS ops (fun H1 S1=>AN H1 S1\/(H1=w.heap/\S1=S)) (e0F w.heap p ov d) er L w:=by
  refine⟨fun H1 S1 ha=>?_,fun q j=>?_⟩
  ·rcases ha with ha|⟨rfl,rfl⟩
   ·exact i.an H1 S1 ha
   ·exact⟨S1,U0.refl _ _⟩
  ·rcases k0T j with j|⟨v,_,rfl⟩
   ·exact i.ao q j
   ·exact fun _ k _ _=>rfl
 refine o0p (S:=TS ops (fun H1 S1=>AN H1 S1\/(H1=w.heap/\S1=S)) (e0F w.heap p ov d) er) (fun L w h=>h.mono (fun _ _ h=>.inl h) (fun q j=>z0v j)) _ _ _ _ ?_;refine m0r (S:=TS ops (fun H1 S1=>AN H1 S1\/(H1=w.heap/\S1=S)) (e0F w.heap p ov d) er) (Sx:=fun w'=>K8 E s S w B w') z (Region.noSelect_spec h1) (fun c a w hp=>absurd hp (I c _ w)) (fun y w' C hu b=>⟨?_,fun k hk l=>?_⟩)
  (fun y w' b _=>(TS.set (.inl he)).1 b) (fun y w' b=>(TS.set (.inl he)).2 b) n L a w (n0I h3) (Region.free_spec z t) U (.inl ⟨hw,fun w' r=>f w' r⟩) e hk
 ·exact b.an w.heap S (.inr ⟨rfl,rfl⟩)
 ·obtain⟨v,e1,R⟩:=J k hk;subst e1;exact b.ao ⟨w.heap,p,v⟩ (by simp[e0F]) (fun m _ t _=>t0n C t hu) k l R
def x0s {AN:K0->D0->Prop}{e:List L7}{er:List Nat}{n p:Nat}{L:Array Bool}{o:Oper}(x:NoP Q)(r:ops[p]?=some o)(i:okQ ops L p=true)(t:p∈Region.ready .any ops L)
  (hw:Region.wanted o (yielded ops a.tmps)=false) (j:TS ops AN e er L w)
  (hk:wpS E.P ops Q (TS ops AN e (p :: er)) n (L.setIfInBounds p true) (a.put o.dst undef) w):wpS E.P ops Q (TS ops AN e er) (n+1) L a w:=by
 simp only[okQ,and_eq_true]at i;obtain⟨⟨h1,z⟩,J⟩:=i;have d:=(mem_ready.1 t).1;have l:L.getD p false=false:=by
  rw[Array.getD_eq_getD_getElem?]at d ⊢;cases h:L[p]? with
  |none=>rfl
  |some b=>rw[h]at d;simpa using d
 have g:TS ops AN e (p :: er) L w:=⟨j.an,fun q C hm=>j.ao q C fun m R y u=>by
  by_cases f:m=p
  ·subst f;exact l
  ·exact hm m R y (by simp[f,u])⟩
 refine o0p (S:=TS ops AN e (p :: er)) (fun L w h=>h.er) _ _ _ _ ?_;exact m0r (S:=TS ops AN e (p :: er)) (Sx:=fun _=>True) r (Region.noSelect_spec h1) (fun c a w hp=>absurd hp (x c _ w)) (fun _ _ _ _ _=>trivial)
  (fun I w' k _=>(TS.set (.inr (by simp))).1 k) (fun I w' k=>(TS.set (.inr (by simp))).2 k) n L a w (n0I J) (Region.free_spec r z) t (v:=undef) (.inr ⟨hw,rfl⟩) g hk
section
variable {E:Env}{ops:Array Oper}{Q:Exit->Act->World->Prop}{as:List Act}
def p0U:∀{n lo:Nat} {L:Array Bool},d08 L n lo=none->∀q,lo<=q->q<lo+n->B5 L q=false
 |0,lo,L,_,q,h1,b=>by omega
 |n+1,lo,L,h,q,h1,b=>by
  simp only[d08]at h;split at h
  ·cases h
  ·rename_i hu
   by_cases e:q=lo
   ·subst e;exact hu
   ·exact p0U h q (by omega) (by omega)
def q0E:∀{n lo p:Nat} {L:Array Bool},d08 L n lo=some p->lo<=p/\p<lo+n/\B5 L p=true
 |0,lo,p,L,h=>by simp[d08]at h
 |n+1,lo,p,L,h=>by
  simp only[d08]at h;split at h
  ·rename_i hu;simp at h;subst h;exact⟨Nat.le_refl _,by omega,hu⟩
  ·obtain⟨h1,c,b⟩:=q0E h;exact⟨by omega,by omega,b⟩
def m0z:∀(n lo:Nat) (L:Array Bool),(c0r L n lo).size=L.size
 |0,lo,L=>rfl
 |n+1,lo,L=>by rw[c0r,m0z n (lo+1)];simp
def m0m:∀(n lo q:Nat) (L:Array Bool),(c0r L n lo).getD q true=(decide (lo<=q/\q<lo+n)||L.getD q true)
 |0,lo,q,L=>by
  have:¬(lo<=q/\q<lo+0):=by omega
  rw[decide_eq_false this,Bool.false_or];rfl
 |n+1,lo,q,L=>by
  rw[c0r,m0m n (lo+1) q]
  by_cases e:lo=q
  ·subst e;have h1:lo<=lo/\lo<lo+(n+1):=by omega
   rw[decide_eq_true h1,Bool.true_or];have:(L.setIfInBounds lo true).getD lo true=true:=by
    rw[Array.getD_eq_getD_getElem?];rcases lt_or_ge lo L.size with h|h
    ·simp[h]
    ·simp[Array.getElem?_eq_none,h]
   rw[this,Bool.or_true]
  ·rw[getD_set_ne true e];congr 1;apply decide_eq_decide.2;omega
def u0W {L b:Array Bool}(h1:L.size=b.size)(d:∀q,L.getD q true=b.getD q true):L=b:=by
 apply Array.ext h1;intro i hi c;have:=d i;simpa[Array.getD_eq_getD_getElem?,hi,c]using this
def q0u {L:Array Bool}{q:Nat}:B5 L q=!L.getD q true:=rfl
def t0f:∀{n lo q:Nat} {o:Oper},lo<=q->q<lo+n->ops[q]?=some o->c0U o=true->q∈c0o ops n lo
 |0,lo,q,o,h1,c,_,_=>by omega
 |n+1,lo,q,o,h1,c,ho,hl=>by
  have d:q<ops.size:=(Array.getElem?_eq_some_iff.1 ho).1;have b:ops[lo]?=some (ops[lo]'(by omega)):=by simp
  simp only[c0o,b]
  by_cases e:q=lo
  ·subst e;rw[b]at ho;simp at ho;rw[ho,hl];exact List.mem_cons_self
  ·have:=t0f (n:=n) (lo:=lo+1) (by omega) (by omega) ho hl;split
   ·exact List.mem_cons_of_mem _ this
   ·exact this
def r0I:∀{n lo q:Nat},q∈c0o ops n lo->lo<=q/\q<lo+n/\∃o,ops[q]?=some o/\c0U o=true
 |0,lo,q,h=>by simp[c0o]at h
 |n+1,lo,q,h=>by
  simp only[c0o]at h;split at h
  ·rename_i o b;have up:q∈c0o ops n (lo+1)->lo<=q/\q<lo+(n+1)/\∃o,ops[q]?=some o/\c0U o=true:=fun h=>by
    obtain⟨h1,d,c⟩:=r0I h;exact⟨by omega,by omega,c⟩
   split at h
   ·rename_i hl;rcases mem_cons.1 h with rfl|h
    ·exact⟨by omega,by omega,o,b,hl⟩
    ·exact up h
   ·exact up h
  ·cases h
def F0h {s:St E.D}{o:Oper}(h:A9 E s o=true):c0U o=true:=by
 unfold A9 at h;unfold c0U;cases b:o.op<;>rw[b]at h<;>simp_all
def l0h {L:Array Bool}{p:Nat}(h1:p<ops.size)(b:B5 L p=true):0<j9 ops L:=Nat.lt_of_lt_of_le (Nat.succ_pos _) (i0x h1 b)
def s0J {s:St E.D}{o:Oper}{q:Nat}(h:D9 E s o=some q):E0 s q≠.gone:=by
 unfold D9 at h;split at h<;>try cases h
 unfold rdP at h;split at h<;>try cases h
 all_goals
  split at h<;>try cases h
  rename_i hl;rw[hl];simp
def InR (ops:Array Oper)(lo hi:Nat)(q:Nat):Prop:=lo<=q/\q<hi/\∃o,ops[q]?=some o/\c0U o=true
def MO (HA:Nat->Value->Prop)(o:Nat×Option Nat)(p:L7):Prop:=o.1=p.i/\∀q,o.2=some q->∃u,p.v=some u/\HA q u
def MO.mono {HA b:Nat->Value->Prop}(h:∀i u,HA i u->b i u){o:Nat×Option Nat}{p:L7}(hm:MO HA o p):MO b o p:=⟨hm.1,fun q d=>by
 obtain⟨u,h1,c⟩:=hm.2 q d;exact⟨u,h1,h _ _ c⟩⟩
def MO.back {HA b:Nat->Value->Prop}(h:∀i u,HA i u->b i u){g:Nat->Value}(hp:∀i u,b i u->g i=u){o:Nat×Option Nat}{p:L7}(hw:∀q,o.2=some q->∃u,HA q u)(hm:MO b o p):MO HA o p:=⟨hm.1,fun q e=>by
 obtain⟨u,h1,f⟩:=hm.2 q e;obtain⟨c,d⟩:=hw q e;have:u=c:=(hp q u f).symm.trans (hp q c (h q c d));subst this;exact⟨u,h1,d⟩⟩
def q0m {n lo q:Nat}{o:Oper}(h1:lo<=q)(b:q<lo+n)(c:ops[q]?=some o)(hl:c0U o=true):(q,none)∈i0t ops n lo:=mem_map.2 ⟨q,t0f h1 b c hl,rfl⟩
def s07 {n lo:Nat}{o:Nat×Option Nat}(h:o∈i0t ops n lo):lo<=o.1/\o.1<lo+n/\∃x,ops[o.1]?=some x/\c0U x=true:=by
 obtain⟨q,h1,rfl⟩:=mem_map.1 h;exact r0I h1
structure DK (E:Env)(ops:Array Oper)(Q:Exit->Act->World->Prop)(A:O4)(as:List Act)(AN:K0->D0->Prop)(HA:Nat->Value->Prop)(owns:List (Nat×Option Nat))(lo hi:Nat)(s:St E.D)(L:Array Bool)(s':St E.D)(AN':K0->D0->Prop)(HA':Nat->Value->Prop)(AO':List L7)(er':List Nat)(ρ':Nat->Value)(S':D0)(a':Act)(w':World)(L':Array Bool)(n':Nat):Prop where
 rp:Rp E (A.with AN' HA') s' ρ' S' a' as w'
 ext:Ext s s'
 ts:TS ops AN' AO' er' L' w'
 an:∀H S,AN H S->AN' H S
 ha:∀i u,HA i u->HA' i u
 ao:∀p∈AO',(∃o∈owns,MO HA o p)\/InR ops lo hi p.i
 er:∀m∈er',B5 L' m=false
 j9:j9 ops L'<=n'
 size:L'.size=ops.size
 all:∀q,lo<=q->q<hi->B5 L' q=false
 out:∀q,(q<lo\/hi<=q)->L'.getD q true=L.getD q true
def u0V {α:Type}{r:α}:∀{l:List (Option α)},j0k l=some r->∀x∈l,x=some r
 |[],h=>by cases h
 |[a],h=>by intro x c;simp at c;subst c;exact h
 |a :: b :: l,h=>by
  obtain⟨h1,d⟩:=o00 (show same a (j0k (b :: l))=some r from h);intro x c;rcases mem_cons.1 c with rfl|c
  ·exact h1
  ·exact u0V d x c
def m0Z {A:O4}{s:St E.D}{ρ:Nat->Value}{S:D0}{a:Act}{w:World}(h:Rp E A s ρ S a as w){d:Nat}{b:Bool}:∀{l:List Nat},g0S E s ops l=some (d,b)->a.tmps.getD d undef=.bool b
 |[],hl=>by cases hl
 |p :: l,hl=>by
  simp only[g0S]at hl;split at hl
  ·rename_i o c;split at hl
   ·rename_i hg;cases hl;exact(f0W h (ops:=ops) (o:=o)).2.2 _ _ hg
   ·exact m0Z h hl
  ·exact m0Z h hl
def v0H {D:Nat->Type}{s s1:St D}{q:Nat}(h:n0T s s1=false)(b:q<s.nid):Z6 s s1 q=false:=by
 unfold n0T at h;unfold Z6;rw[List.any_eq_false]at h ⊢;intro p hp e;rw[Nat.beq_eq]at e;subst e;exact h p hp (by rw[blt_eq];exact b)
def p0w {A:O4}{s:St E.D}{ρ:Nat->Value}{S:D0}{a:Act}{w:World}(hE:Q1 E){C:D4 E}{inl:Inl E}(hi:e0v E inl)(hs:d0x E C){R:Type}{rec:Array Bool->St E.D->Option R}{p:Nat}{L:Array Bool}{owns:List (Nat×Option Nat)}{o:Oper}{r:R}{AN:K0->D0->Prop}{HA:Nat->Value->Prop}{z:List L7}{er:List Nat}{K:Act->World->Prop}
  (hk:opV E C inl s o (fun s' v=>match owns.all (k0D ops (e0V E C s o) s s' p)with|true=>rec (L.setIfInBounds p true) (s'.put o.dst v)|false=>none)=some r) (h:Rp E (A.with AN HA) s ρ S a as w) (ho:ops[p]?=some o) (x:b0M s.n o=true) (b2:g0d o=false) (c:B5 L p=true) (hw:Region.wanted o (yielded ops a.tmps)=true)
  (b3:TS ops AN z er L w) (e4:∀p∈z,∃o∈owns,MO HA o p) (c0:∀m∈er,B5 L m=false)
  (y:∀s1 ρ1 S1 a1 w1,rec (L.setIfInBounds p true) s1=some r->Rp E (A.with AN HA) s1 ρ1 S1 a1 as w1->Ext s s1->TS ops AN z er (L.setIfInBounds p true) w1->K a1 w1):
  wpList E.P ops (Exit.then (fun a' w'=>TS ops AN z er (L.setIfInBounds p true) w'/\K a' w') Q) [o] a w:=by
 have j:d0g ops p=true:=by unfold d0g;rw[ho];simp[b2]
 have I:p∉er:=fun hm=>by rw[c0 p hm]at c;cases c
 have c8:L.getD p false=false:=by
  rw[Array.getD_eq_getD_getElem?,n0t.1 c];rfl
 have c3:(L.setIfInBounds p true).getD p false=true:=by
  have:=(Array.getElem?_eq_some_iff.1 (n0t.1 c)).1;rw[Array.getD_eq_getD_getElem?];simp[this]
 unfold wpList;rw[if_pos hw];refine .inl (t0z hE hi hs hk h fun s1 v u ρ1 S1 w1 f h1 hv he e5 hold=>?_);split at f<;>try cases f
 rename_i b;have d:TS ops AN z er (L.setIfInBounds p true) w1:=by
  refine⟨fun H2 S2 ha=>⟨S1,h1.kp H2 S2 ha⟩,fun q hq hm k J t=>?_⟩;obtain⟨ow,b1,l⟩:=e4 q hq;have b:=List.all_eq_true.1 b ow b1;unfold k0D at b;rw[or_eq_true]at b;rcases b with b|b
  ·rw[l.1]at b;have:=hm p j b I;rw[c3]at this;cases this
  ·rw[and_eq_true,or_eq_true,not_eq_true']at b;have U:=b3.ao q hq (fun m e1 g e3=>by
    by_cases i:p=m
    ·subst i;exact c8
    ·have:=hm m e1 g e3
     rwa [getD_set_ne false i]at this) k J t
   have c5:k<w.heap.size:=by
    rcases lt_or_ge k w.heap.size with h6|h6
    ·exact h6
    ·rw[Array.getElem?_eq_none h6]at U;simp[J]at U
   refine(hold b.1 k c5 (fun id e1 e0 g hb=>?_)).trans U;rcases b.2 with hc|hc
   ·rw[v0H hc e1]at g;cases g
   ·split at hc<;>try cases hc
    rename_i q0 b5;rw[and_eq_true,not_eq_true']at hc;obtain⟨u0,c6,b4⟩:=l.2 q0 b5;obtain⟨_,c4⟩:=h.hp q0 u0 b4;refine h.dj id q0 (fun e=>?_) e0 hc.2 k hb (Bk.hd (by rw[c4];exact t u0 c6));subst e;rw[hc.1]at g;cases g
 exact s0M d (y _ ρ1 S1 (a.put o.dst u) w1 f (h1.d0K x he.n hv) (he.trans (Ext.put s1 o.dst v)) d)
def F0c {a:Act}{w:World}{P:Program}{S:Array Bool->World->Prop}{L:Array Bool}{fuel:Nat}(c:Region.ready .any ops L≠[])
  (h:∀i∈Region.ready .any ops L,∃o,ops[i]?=some o/\wpList P ops (Exit.then (fun d w'=>S (L.setIfInBounds i true) w'/\wpS P ops Q S fuel (L.setIfInBounds i true) d w') Q) [o] a w):wpS P ops Q S (fuel+1) L a w:=by
 refine⟨fun f=>absurd f c,fun j e=>?_⟩;obtain⟨o,b,hw⟩:=h j e;exact r0G b hw
def c0I (hE:Q1 E){C:D4 E}{inl:Inl E}(hi:e0v E inl)(hs:d0x E C)(hQ:NoP Q):∀(f:Nat) (R:Type) (cs:List (Nat×Nat×Cut)) (lo hi:Nat) (L:Array Bool) (owns:List (Nat×Option Nat)) (s:St E.D) (k:St E.D->Option R) (r:R),
  E6 E C inl ops f cs lo hi L owns s k=some r->L.size=ops.size->∀(A:O4) (AN:K0->D0->Prop) (HA:Nat->Value->Prop) (AO:List L7) (er:List Nat) (ρ:Nat->Value) (S:D0) (a:Act) (w:World) (n:Nat),
  Rp E (A.with AN HA) s ρ S a as w->TS ops AN AO er L w->(∀p∈AO,∃o∈owns,MO HA o p)->(∀o∈owns,∀q,o.2=some q->∃u,HA q u)->(∀m∈er,B5 L m=false)->j9 ops L<=n->
  (∀s' y b2 z J ρ' S' a' w' L' n',k s'=some r->DK E ops Q A as AN HA owns lo hi s L s' y b2 z J ρ' S' a' w' L' n'->wpS E.P ops Q (TS ops y z J) n' L' a' w')->
  wpS E.P ops Q (TS ops AN AO er) n L a w
 |0,R,cs,lo,hi,L,owns,s,k,r,hk,c3=>by simp[E6]at hk
 |f+1,R,cs,lo,hi',L,owns,s,k,r,hk,c3=>by
  intro A AN HA AO er ρ S a w n h b4 c8 c0 e4 hn hK;simp only[E6]at hk;split at hk
  ·rename_i hu;have h7:∀q,lo<=q->q<hi'->B5 L q=false:=fun q h1 h2=>p0U hu q h1 (by omega);exact hK s AN HA AO er ρ S a w L n hk ⟨h,Ext.refl s,b4,fun _ _ h=>h,fun _ _ h=>h,fun p hp=>.inl (c8 p hp),e4,hn,c3,h7,fun _ _=>rfl⟩
  ·rename_i p0 hu;obtain⟨u1,u2,u3⟩:=q0E hu;have ask:∀{d:Nat} {b:Bool},a.tmps.getD d undef=.bool b->(if b then E6 E C inl ops f cs lo hi' L owns (s.put (some d) (.kb true)) k else E6 E C inl ops f cs lo hi' L owns (s.put (some d) (.kb false)) k)=some r->wpS E.P ops Q (TS ops AN AO er) n L a w:=by
    intro d b hb hk;have:E6 E C inl ops f cs lo hi' L owns (s.put (some d) (.kb b)) k=some r:=by cases b<;>exact hk
    exact c0I hE hi hs hQ f R cs lo hi' L owns _ k r this c3 A AN HA AO er ρ S a w n (h.o0y (by rw[hb];exact VS.kb)) b4 c8 c0 e4 hn fun s' y b2 z J ρ' S' a' w' L' n' b5 dk=>
     hK s' y b2 z J ρ' S' a' w' L' n' b5 ⟨dk.rp,(Ext.put s (some d) _).trans dk.ext,dk.ts,dk.an,dk.ha,dk.ao,dk.er,dk.j9,dk.size,dk.all,dk.out⟩
   split at hk
   ·rename_i p hp;split at hk<;>try cases hk
    rename_i o ho;split at hk<;>try cases hk
    rename_i p1;rw[and_eq_true]at p1;obtain⟨b1,n2⟩:=p1;have i1:p∈Region.ready .any ops L:=List.mem_of_find?_eq_some hp;have n9:=List.find?_some hp;simp only[and_eq_true,ble_eq,blt_eq,ho]at n9;obtain⟨⟨⟨l4,k8⟩,_⟩,o0⟩:=n9;obtain⟨U,c6⟩:=g0y i1;have hc:=i0x (ops:=ops) c6 U;obtain⟨m,rfl⟩:∃m,n=m+1:=⟨n-1,by have:=l0h (ops:=ops) c6 U;omega⟩
    have b3:∀q,(q<lo\/hi'<=q)->(L.setIfInBounds p true).getD q true=L.getD q true:=fun q l=>getD_set_ne true (by omega);have c5:∀m∈er,B5 (L.setIfInBounds p true) m=false:=fun m hm=>by rw[c0N,e4 m hm];rfl
    obtain⟨g1,g2,g3⟩:=f0W h (ops:=ops) (o:=o);have step:∀{sB:St E.D} {ρB:Nat->Value} {v:V E.D} {u:Value},Rp E (A.with AN HA) sB ρB S a as w->Ext s sB->(∀q,D9 E s o=some q->q<sB.nid/\hd (ρB q)=hd (ρ q))->a0E E s ops o=.yes->VS E ρB sB.nid w.heap S v u->(∀w',K8 E s S w (d06 E s ρ o) w'->(execOp a.eval o).run E.P w'=.ok (.value u) w')->
      E6 E C inl ops f cs lo hi' (L.setIfInBounds p true) (match A9 E s o with|true=>(p,D9 E s o) :: owns|false=>owns) (sB.put o.dst v) k=some r->wpS E.P ops Q (TS ops AN AO er) (m+1) L a w:=by
     intro sB ρB v u hB o1 p2 hg hv o2 hk;have b1:b0M sB.n o=true:=by rw[o1.n];exact b1
     have p3:g0d o=true:=by
      simp only[or_eq_true]at o0;rcases o0 with h|h
      ·exact h
      ·unfold j05 at h;rw[hg]at h;cases h
     have k0:d0g ops p=false:=by unfold d0g;rw[ho];simp[p3]
     refine B0z (B:=d06 E s ρ o) (ov:=if A9 E s o then some ((D9 E s o).map fun q=>hd (ρ q))else none) (fun k hk=>?_) hQ ho n2 i1 k0 (g1 hg) o2 b4 ?_
     ·rw[if_pos hk.1];refine⟨_,rfl,fun x hx=>?_⟩;obtain⟨q,l,rfl⟩:=Option.map_eq_some_iff.1 hx;exact hk.2 q l
     have h2:=(hB.anc (AN:=fun H1 S1=>AN H1 S1\/(H1=w.heap/\S1=S)) (HA:=fun i x=>HA i x\/(D9 E s o=some i/\x=hd (ρ i))) (fun H1 S1 ha=>by
      rcases ha with ha|⟨rfl,rfl⟩
      ·exact h.kp H1 S1 ha
      ·exact U0.refl _ _) (fun i x hx=>by
      rcases hx with hx|⟨h1,rfl⟩
      ·exact hB.hp i x hx
      ·exact p2 i h1))
     refine c0I hE hi hs hQ f R cs lo hi' _ _ _ k r hk (by simp[c3]) A _ _ _ er ρB S _ w m (h2.d0K b1 rfl hv) ?_ ?_ ?_ c5 (by omega) fun s' y b2 z J ρ' S' a' w' L' n' b5 dk=>?_
     ·refine(TS.set (.inl k0)).2 ⟨fun H1 S1 ha=>?_,fun q l=>?_⟩
      ·rcases ha with ha|⟨rfl,rfl⟩
       ·exact b4.an H1 S1 ha
       ·exact⟨S1,U0.refl _ _⟩
      ·rcases k0T l with l|⟨v,_,rfl⟩
       ·exact b4.ao q l
       ·exact fun _ k _ _=>rfl
     ·intro q l;rcases k0T l with l|⟨v,e1,rfl⟩
      ·obtain⟨o',h5,h6⟩:=c8 q l;refine⟨o',?_,h6.mono fun _ _ h=>.inl h⟩;cases A9 E s o<;>simp[h5]
      ·cases I:A9 E s o with
       |false=>rw[I]at e1;simp at e1
       |true=>
        rw[I]at e1;simp only[if_true,Option.some.injEq]at e1;refine⟨(p,D9 E s o),by simp,rfl,fun q l=>⟨hd (ρ q),?_,.inr ⟨l,rfl⟩⟩⟩;have l:D9 E s o=some q:=l;show v=_;rw[<-e1,l];rfl
     ·intro o' c4 q l;cases I:A9 E s o with
      |false=>
       rw[I]at c4;obtain⟨u,hu⟩:=c0 o' c4 q l;exact⟨u,.inl hu⟩
      |true=>
       rw[I]at c4;rcases mem_cons.1 c4 with rfl|c4
       ·exact⟨_,.inr ⟨l,rfl⟩⟩
       ·obtain⟨u,hu⟩:=c0 o' c4 q l;exact⟨u,.inl hu⟩
     ·refine hK s' y b2 z J ρ' S' a' w' L' n' b5 ⟨dk.rp,o1.trans ((Ext.put sB o.dst v).trans dk.ext),dk.ts,fun H1 S1 ha=>dk.an H1 S1 (.inl ha),fun i x hx=>dk.ha i x (.inl hx),fun q l=>?_,dk.er,dk.j9,dk.size,dk.all,fun q l=>(dk.out q l).trans (b3 q l)⟩;have back:∀{o'},o'∈owns->MO _ o' q->MO HA o' q:=fun h8 h9=>h9.back (fun _ _ h=>.inl h) (g:=fun i=>hd (ρB i)) (fun i x hx=>(h2.hp i x hx).2) (c0 _ h8);rcases dk.ao q l with⟨o',h3,h4⟩|h3
      ·cases I:A9 E s o with
       |false=>rw[I]at h3;exact .inl ⟨o',h3,back h3 h4⟩
       |true=>
        rw[I]at h3;rcases mem_cons.1 h3 with e|h3
        ·subst e;have e:=h4.1;simp only at e;rw[<-e];exact .inr ⟨l4,k8,o,ho,F0h I⟩
        ·exact .inl ⟨o',h3,back h3 h4⟩
      ·exact .inr h3
    have l:=n00 hE h o;split at hk
    ·cases hk
    ·rename_i hg;split at hk
     ·split at hk<;>try cases hk
      rename_i q i g hb;obtain⟨⟨e1,e2⟩,u,ρ1,h1,_,h3,h4⟩:=t0V h hb;refine step h1 (Ext.new s _) (fun q l=>by rw[e2]at l;cases l) hg h3 (fun w' hw=>h4 w' (hw.e0z fun k _=>⟨e1,fun q l=>by rw[e2]at l;cases l⟩)) ?_;rw[e1,e2];exact hk
     ·rename_i v hv;rw[hv]at l;obtain⟨u,h1,h2⟩:=l;exact step h (Ext.refl s) (fun q l=>⟨h.F7 (s0J l),rfl⟩) hg h1 h2 hk
     ·rename_i b v hv;rw[hv]at l;split at hk<;>try cases hk
      rename_i hb;obtain⟨u,h1,h2⟩:=l hb;exact step h (Ext.refl s) (fun q l=>⟨h.F7 (s0J l),rfl⟩) hg h1 h2 hk
    ·rename_i hg;refine x0s hQ ho n2 i1 (g2 hg) b4 ?_;refine c0I hE hi hs hQ f R cs lo hi' _ _ _ k r hk (by simp[c3]) A AN HA AO (p :: er) ρ S _ w m (h.d0K b1 rfl VS.unit) ((TS.set (.inr (by simp))).2 ⟨b4.an,fun q l hm=>b4.ao q l fun j e1 e2 e3=>?_⟩) c8 c0 ?_ (by omega) fun s' y b2 z J ρ' S' a' w' L' n' b5 dk=>?_
     ·by_cases hj:j=p
      ·subst hj;rw[n0t]at U;rw[Array.getD_eq_getD_getElem?,U];rfl
      ·exact hm j e1 e2 (by simp[hj,e3])
     ·intro q l;rcases mem_cons.1 l with rfl|l
      ·rw[c0N];simp
      ·exact c5 q l
     ·exact hK s' y b2 z J ρ' S' a' w' L' n' b5 ⟨dk.rp,(Ext.put s o.dst _).trans dk.ext,dk.ts,dk.an,dk.ha,dk.ao,dk.er,dk.j9,dk.size,dk.all,fun q l=>(dk.out q l).trans (b3 q l)⟩
    ·rename_i d b hg;exact ask (g3 d b hg) hk
   ·split at hk
    ·rename_i b c r' p4;split at hk<;>try cases hk
     rename_i hb;simp only[and_eq_true,ble_eq,blt_eq]at hb;obtain⟨⟨p7,p8⟩,p6⟩:=hb;obtain⟨d,hd,hk⟩:=b0Z hk;refine c0I hE hi hs hQ f _ _ p0 (b+1) L owns s _ d hd c3 A AN HA AO er ρ S a w n h b4 c8 c0 e4 hn fun s' y b2 z J ρ' S' a' w' L' n' k4 dk=>?_;obtain⟨u,ρ1,S1,h1,h2,h3,_⟩:=e0t (A:=A.with y HA) hE (fun i u ha=>(h.hp i u ha).1) h (dk.rp.anc (AN:=y) (HA:=HA) (fun H1 S1 ha=>dk.rp.kp H1 S1 ha) (fun i u ha=>dk.rp.hp i u (dk.ha i u ha))) dk.ext k4 hk;have k6:L'=c0r L (b+1-p0) p0:=by
      refine u0W (by rw[dk.size,m0z,c3]) fun q=>?_;rw[m0m]
      by_cases hr:p0<=q/\q<p0+(b+1-p0)
      ·rw[decide_eq_true hr,Bool.true_or];have:=dk.all q hr.1 (by omega);rw[q0u]at this;simpa using this
      ·rw[decide_eq_false hr,Bool.false_or];exact dk.out q (by omega)
     rw[<-k6]at h1;refine c0I hE hi hs hQ f R _ lo hi' L' _ u _ r h1 dk.size A y HA z J ρ1 S1 a' w' n' h2 dk.ts ?_ ?_ dk.er dk.j9 fun j0 j1 h0 j2 e9 ρ'' l1 k5 l2 n0 n1 b5 t=>?_
     ·intro q l;rcases dk.ao q l with⟨o',h4,h5⟩|⟨h4,h5,o,ho,hl⟩
      ·exact⟨o',List.mem_append_right _ h4,h5⟩
      ·exact⟨_,List.mem_append_left _ (q0m h4 (by omega) ho hl),rfl,fun q0 l3=>by cases l3⟩
     ·intro o' c4 q l;rcases mem_append.1 c4 with h5|h5
      ·obtain⟨_,_,rfl⟩:=mem_map.1 h5;cases l
      ·exact c0 o' h5 q l
     ·refine hK j0 j1 h0 j2 e9 ρ'' l1 k5 l2 n0 n1 b5 ⟨t.rp,h3.trans t.ext,t.ts,fun H1 S1 ha=>t.an H1 S1 (dk.an H1 S1 ha),fun i x hx=>t.ha i x hx,fun q l=>?_,t.er,t.j9,t.size,t.all,fun q l=>(t.out q l).trans (dk.out q (by omega))⟩;rcases t.ao q l with⟨o',h4,h6⟩|h4
      ·rcases mem_append.1 h4 with h5|h5
       ·obtain⟨e1,e2,e3⟩:=s07 h5;rw[h6.1]at e1 e2 e3;exact .inr ⟨by omega,by omega,e3⟩
       ·exact .inl ⟨o',h5,h6⟩
      ·exact .inr h4
    ·split at hk
     ·rename_i p hr;split at hk<;>try cases hk
      rename_i o ho;split at hk<;>try cases hk
      rename_i hb;simp only[and_eq_true,ble_eq,blt_eq,not_eq_true']at hb;obtain⟨⟨⟨b1,l4⟩,k8⟩,k3⟩:=hb;obtain⟨U,c6⟩:=g0y (L:=L) (ops:=ops) (p:=p) (by rw[hr];simp);obtain⟨g1,g2,g3⟩:=f0W h (ops:=ops) (o:=o);split at hk
      ·rename_i hg;have hc:=i0x (ops:=ops) c6 U;obtain⟨m,rfl⟩:∃m,n=m+1:=⟨n-1,by have:=l0h (ops:=ops) c6 U;omega⟩
       have b3:∀q,(q<lo\/hi'<=q)->(L.setIfInBounds p true).getD q true=L.getD q true:=fun q l=>getD_set_ne true (by omega);have c5:∀m∈er,B5 (L.setIfInBounds p true) m=false:=fun m hm=>by rw[c0N,e4 m hm];rfl
       refine u0g hr ho (p0w (rec:=fun L' s'=>E6 E C inl ops f cs lo hi' L' owns s' k) hE hi hs hk h ho b1 k3 U (g1 hg) b4 c8 e4 fun s1 ρ1 S1 a1 w1 k1 h1 he j3=>?_);exact c0I hE hi hs hQ f R cs lo hi' (L.setIfInBounds p true) owns _ k r k1 (by simp[c3]) A AN HA AO er ρ1 S1 a1 w1 m h1 j3 c8 c0 c5 (by omega) fun s' y b2 z J ρ' S' a' w' L' n' b5 dk=>
        hK s' y b2 z J ρ' S' a' w' L' n' b5 ⟨dk.rp,he.trans dk.ext,dk.ts,dk.an,dk.ha,dk.ao,dk.er,dk.j9,dk.size,dk.all,fun q l=>(dk.out q l).trans (b3 q l)⟩
      ·rename_i d b hg;exact ask (g3 d b hg) hk
      ·cases hk
     ·split at hk
      ·rename_i d b hl;exact ask (m0Z h hl) hk
      ·split at hk<;>try cases hk
       rename_i c i0 l0 p5 hr;obtain⟨d,hd,hk⟩:=b0Z hk;have h7:=u0V hd;obtain⟨m,rfl⟩:∃m,n=m+1:=⟨n-1,by
        obtain⟨U,c6⟩:=g0y (L:=L) (ops:=ops) (p:=i0) (by rw[hr];simp);have:=l0h (ops:=ops) c6 U;omega⟩
       refine F0c (by rw[hr];simp) fun p hp=>?_;obtain⟨U,c6⟩:=g0y hp;have e5:=h7 _ (mem_map.2 ⟨p,hp,rfl⟩);unfold q0T at e5;split at e5<;>try cases e5
       rename_i o ho;split at e5<;>try cases e5
       rename_i hb;simp only[and_eq_true,ble_eq,blt_eq,not_eq_true']at hb;obtain⟨⟨⟨b1,l4⟩,k8⟩,k3⟩:=hb;obtain⟨g1,g2,g3⟩:=f0W h (ops:=ops) (o:=o);split at e5<;>try cases e5
       rename_i hg;refine⟨o,ho,?_⟩;have hc:=i0x (ops:=ops) c6 U;have b3:∀q,(q<p0\/hi'<=q)->(L.setIfInBounds p true).getD q true=L.getD q true:=fun q l=>getD_set_ne true (by omega);have c5:∀m∈er,B5 (L.setIfInBounds p true) m=false:=fun m hm=>by rw[c0N,e4 m hm];rfl
       refine p0w (rec:=fun L' s'=>E6 E C inl ops f cs p0 hi' L' owns s' fun j0=>b0w E s j0 c) hE hi hs e5 h ho b1 k3 U (g1 hg) b4 c8 e4 fun s1 ρ1 S1 a1 w1 k1 h1 he j3=>?_;refine c0I hE hi hs hQ f _ cs p0 hi' (L.setIfInBounds p true) owns _ _ d k1 (by simp[c3]) A AN HA AO er ρ1 S1 a1 w1 m h1 j3 c8 c0 c5 (by omega) fun s' y b2 z J ρ' S' a' w' L' n' k4 dk=>?_;obtain⟨u,ρ2,S2,q1,q2,q3,_⟩:=e0t (A:=A.with y HA) hE (fun i u ha=>(h.hp i u ha).1) h (dk.rp.anc (AN:=y) (HA:=HA) (fun H1 S1 ha=>dk.rp.kp H1 S1 ha) (fun i u ha=>dk.rp.hp i u (dk.ha i u ha))) (he.trans dk.ext) k4 hk;have k6:L'=c0r L (hi'-p0) p0:=by
        refine u0W (by rw[dk.size,m0z,c3]) fun q=>?_;rw[m0m]
        by_cases k2:p0<=q/\q<p0+(hi'-p0)
        ·rw[decide_eq_true k2,Bool.true_or];have:=dk.all q k2.1 (by omega);rw[q0u]at this;simpa using this
        ·rw[decide_eq_false k2,Bool.false_or];exact(dk.out q (by omega)).trans (b3 q (by omega))
       rw[<-k6]at q1;refine c0I hE hi hs hQ f R _ lo hi' L' _ u _ r q1 dk.size A y HA z J ρ2 S2 a' w' n' q2 dk.ts ?_ ?_ dk.er dk.j9 fun j0 j1 h0 j2 e9 ρ'' l1 k5 l2 n0 n1 b5 t=>?_
       ·intro q l;rcases dk.ao q l with⟨o',h4,h5⟩|⟨h4,h5,o,ho,hl⟩
        ·exact⟨o',List.mem_append_right _ h4,h5⟩
        ·exact⟨_,List.mem_append_left _ (q0m h4 (by omega) ho hl),rfl,fun q0 l3=>by cases l3⟩
       ·intro o' c4 q l;rcases mem_append.1 c4 with h5|h5
        ·obtain⟨_,_,rfl⟩:=mem_map.1 h5;cases l
        ·exact c0 o' h5 q l
       ·refine hK j0 j1 h0 j2 e9 ρ'' l1 k5 l2 n0 n1 b5 ⟨t.rp,q3.trans t.ext,t.ts,fun H1 S1 ha=>t.an H1 S1 (dk.an H1 S1 ha),fun i x hx=>t.ha i x hx,fun q l=>?_,t.er,t.j9,t.size,t.all,fun q l=>(t.out q l).trans ((dk.out q (by omega)).trans (b3 q (by omega)))⟩;rcases t.ao q l with⟨o',h4,h6⟩|h4
        ·rcases mem_append.1 h4 with h5|h5
         ·obtain⟨e1,e2,e3⟩:=s07 h5;rw[h6.1]at e1 e2 e3;exact .inr ⟨by omega,by omega,e3⟩
         ·exact .inl ⟨o',h5,h6⟩
        ·exact .inr h4
def w0d (d:Q1 E){C:D4 E}(e:d0x E C):q0x E C:=by
 intro inl hi R cs id ops s k r hk A ρ S a as w h Q g n;refine wp_region_any d.mix (k05 (S:=TS ops A.anc [] []) _ _ _ _ ?_);have b:j9 ops (Array.replicate ops.size false)<=ops.size:=by
  unfold j9;exact Nat.le_trans (List.length_filter_le _ _) (by simp)
 refine c0I d hi e g 100000 R cs 0 ops.size _ [] s k r hk (by simp) A A.anc A.hda [] [] ρ S a _ _ ⟨⟨⟨h.cx.bel.1,h.cx.bel.2,h.cx.bel.3,h.cx.bel.4,h.cx.bel.5⟩,h.cx.sub,h.cx.lt,h.cx.lt0⟩,h.fr,h.stk,h.th,h.ow,h.dj,h.lt,h.rf,h.kp,h.hp⟩ ⟨fun H1 S1 ha=>⟨S,h.kp H1 S1 ha⟩,by simp⟩ (by simp) (by simp) (by simp) b fun m q i o f ρ' l j w' t u c dk=>?_;exact s0C (F0w fun p hp=>dk.all p (Nat.zero_le _) hp) (n m ρ' l j w' c (dk.rp.w0T dk.an dk.ha) dk.ext)
end
end
