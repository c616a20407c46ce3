/- P. Its conditions: none. -/
import Derived.Test.YtihmgaccbcfgjaaGreatTX11
open Nat (lt_or_ge blt_eq ble_eq)
open List (mem_cons mem_map mem_append)
open Bool (and_eq_true or_eq_true not_eq_true')
set_option linter.all false
namespace Go.X
open Go.V Go.RowKit
section
variable {E:Env}{ops:Array Oper}{Q:Exit->Act->World->Prop}
def d0D (ops:Array Oper)(m:Nat):Bool:=match ops[m]? with
 |some o=>!f0o o
 |none=>false
structure I7 where
 h:I0
 i:Nat
 v:Option Value
def I7.has (p:I7)(k:Nat):Prop:=∀u,p.v=some u->B1 u=some k
structure TS (ops:Array Oper)(AN:I0->D0->Prop)(AO:List I7)(er:List Nat)(L:Array Bool)(w:World):Prop where
 an:∀H1 S1,AN H1 S1->∃S',P0 H1 S1 w.heap S'
 ao:∀p∈AO,(∀m,d0D ops m=true->e0a ops m p.i=true->m∉er->L.getD m false=false)->∀k,k<p.h.size->p.has k->w.heap[k]?=p.h[k]?
def n0x {S b:Array Bool->World->Prop}(h:∀L w,S L w->b L w):∀(n:Nat) (L:Array Bool) (a:Act) (w:World),wpS E.P ops Q S n L a w->wpS E.P ops Q b n L a w
 |0,L,a,w,hw=>hw
 |n+1,L,a,w,hw=>⟨hw.1,fun i hi=>wpOp_mono (fun c w' k=>⟨h _ _ k.1,n0x h n _ c w' k.2⟩) (hw.2 i hi)⟩
def TS.mono {AN b:I0->D0->Prop}{d c:List I7}{er:List Nat}(h1:∀H S,AN H S->b H S)(e:∀p∈d,p∈c){L:Array Bool}{w:World}(h:TS ops b c er L w):TS ops AN d er L w:=
 ⟨fun H S ha=>h.an H S (h1 H S ha),fun p hp=>h.ao p (e p hp)⟩
def TS.er {AN:I0->D0->Prop}{b:List I7}{er:List Nat}{q:Nat}{L:Array Bool}{w:World}(h:TS ops AN b (q :: er) L w):TS ops AN b er L w:=
 ⟨h.an,fun p hp hm=>h.ao p hp fun m h1 e c=>hm m h1 e (fun d=>c (List.mem_cons_of_mem _ d))⟩
def TS.set {AN:I0->D0->Prop}{d:List I7}{er:List Nat}{i:Nat}(hi:d0D ops i=false\/i∈er){L:Array Bool}{w:World}:TS ops AN d er (L.setIfInBounds i true) w↔TS ops AN d er L w:=by
 have key:∀m,d0D ops m=true->m∉er->(L.setIfInBounds i true).getD m false=L.getD m false:=fun m h1 c=>by
  have:i≠m:=by
   rintro rfl
   rcases hi with hi|hi
   ·rw[hi]at h1;cases h1
   ·exact c hi
  exact getD_set_ne false this
 constructor
 ·exact fun h=>⟨h.an,fun p hp hm=>h.ao p hp fun m h1 c b=>by rw[key m h1 b];exact hm m h1 c b⟩
 ·exact fun h=>⟨h.an,fun p hp hm=>h.ao p hp fun m h1 c b=>by rw[<-key m h1 b];exact hm m h1 c b⟩
def M9 (ops:Array Oper)(L:Array Bool):Nat:=((List.range ops.size).filter fun p=>U4 L p).length
def c0L {L:Array Bool}{p q:Nat}:U4 (L.setIfInBounds p true) q=(U4 L q&&!decide (p=q)):=by
 unfold U4
 by_cases h:p=q
 ·subst h;simp only[decide_true,Bool.not_true,Bool.and_false,Array.getD_eq_getD_getElem?];rcases lt_or_ge p L.size with h1|h1
  ·simp[h1]
  ·simp[Array.getElem?_eq_none,h1]
 ·rw[getD_set_ne true h];simp[h]
def f0i {L:Array Bool}{p:Nat}(h1:p<ops.size)(c:U4 L p=true):M9 ops (L.setIfInBounds p true)+1<=M9 ops L:=by
 have:∀l:List Nat,p∈l->(l.filter fun q=>U4 (L.setIfInBounds p true) q).length+1<=(l.filter fun q=>U4 L q).length:=by
  intro l
  induction l with
  |nil=>intro h;cases h
  |cons x l ih=>
   have hle:∀l:List Nat,(l.filter fun q=>U4 (L.setIfInBounds p true) q).length<=(l.filter fun q=>U4 L q).length:=by
    intro l;have e:(l.filter fun q=>U4 (L.setIfInBounds p true) q)=(l.filter fun q=>U4 L q).filter fun q=>!decide (p=q):=by
     rw[List.filter_filter];congr 1;funext q;rw[c0L,Bool.and_comm]
    rw[e];exact List.length_filter_le _ _
   intro hm
   by_cases b:p=x
   ·subst b;have:=hle l;simp only[List.filter_cons,c0L,c,decide_true,Bool.not_true,Bool.and_false,Bool.true_and,Bool.false_eq_true,if_false,if_true,List.length_cons];simp only[c0L]at this;omega
   ·have hm:p∈l:=by
     rcases mem_cons.1 hm with h|h
     ·exact absurd h b
     ·exact h
    have:=ih hm;simp only[c0L]at this;simp only[List.filter_cons,c0L,b,decide_false,Bool.not_false,Bool.and_true];cases U4 L x<;>simp<;>omega
 exact this _ (List.mem_range.2 h1)
def l0X {L:Array Bool}{p:Nat}:U4 L p=true↔L[p]?=some false:=by
 unfold U4;rw[Array.getD_eq_getD_getElem?];cases h:L[p]? with
 |none=>simp
 |some b=>cases b<;>simp
def h06 {L:Array Bool}{p:Nat}(h:p∈Region.ready .any ops L):U4 L p=true/\p<ops.size:=by
 obtain⟨h1,o,b,_⟩:=mem_ready.1 h;exact⟨by unfold U4;rw[h1];rfl,(Array.getElem?_eq_some_iff.1 b).1⟩
def C0z {L:Array Bool}(h:∀p,p<ops.size->U4 L p=false):Region.ready .any ops L=[]:=by
 cases b:Region.ready .any ops L with
 |nil=>rfl
 |cons p l=>
  have:=h06 (p:=p) (ops:=ops) (L:=L) (by rw[b];simp);rw[h p this.2]at this;exact absurd this.1 X'
variable {A:E4}{s:St E.D}{ρ:Nat->Value}{S:D0}{a:Act}{as:List Act}{w:World}
def E4.with (A:E4)(AN:I0->D0->Prop)(HA:Nat->Value->Prop):E4:={ A with anc:=AN,hda:=HA }
def Rp.anc {c:I0->D0->Prop}{b:Nat->Value->Prop}(h:Rp E (A.with c b) s ρ S a as w){AN:I0->D0->Prop}{HA:Nat->Value->Prop}(hk:∀H1 S1,AN H1 S1->P0 H1 S1 w.heap S)(d:∀i u,HA i u->i<s.nid/\hd (ρ i)=u):Rp E (A.with AN HA) s ρ S a as w:=
 ⟨h.cx,h.fr,h.stk,h.th,h.ow,h.dj,h.lt,h.rf,hk,d⟩
def Rp.D0B {AN:I0->D0->Prop}{HA:Nat->Value->Prop}(h:Rp E (A.with AN HA) s ρ S a as w)(hk:∀H1 S1,A.anc H1 S1->AN H1 S1)(b:∀i u,A.hda i u->HA i u):Rp E A s ρ S a as w:=
 ⟨h.cx,h.fr,h.stk,h.th,h.ow,h.dj,h.lt,h.rf,fun H1 S1 ha=>h.kp H1 S1 (hk H1 S1 ha),fun i u ha=>h.hp i u (b i u ha)⟩
def d08 (H:I0)(p:Nat)(ov:Option (Option Value))(b:List I7):List I7:=match ov with
 |some v=>⟨H,p,v⟩ :: b
 |none=>b
def C01 {H:I0}{p:Nat}{ov:Option (Option Value)}{b:List I7}{q:I7}(h:q∈b):q∈d08 H p ov b:=by
 cases ov with
 |none=>exact h
 |some v=>exact List.mem_cons_of_mem _ h
def p0A {H:I0}{p:Nat}{ov:Option (Option Value)}{b:List I7}{q:I7}(h:q∈d08 H p ov b):q∈b\/∃v,ov=some v/\q=⟨H,p,v⟩:=by
 cases ov with
 |none=>exact .inl h
 |some v=>
  rcases mem_cons.1 h with rfl|h
  ·exact .inr ⟨v,rfl,rfl⟩
  ·exact .inl h
def B0p {AN:I0->D0->Prop}{b:List I7}{er:List Nat}{n p:Nat}{L:Array Bool}{o:Oper}{u:Value}{B:Nat->Prop}{ov:Option (Option Value)}(I:∀k,B k->∃v,ov=some v/\∀x,v=some x->B1 x=some k)(z:NoP Q)(t:ops[p]?=some o)(e:okQ ops L p=true)(R:p∈Region.ready .any ops L)(he:d0D ops p=false)
  (hw:Region.wanted o (yielded ops a.tmps)=true) (f:∀w',O6 E s S w B w'->(execOp a.eval o).run E.P w'=.ok (.value u) w') (d:TS ops AN b er L w)
  (hk:wpS E.P ops Q (TS ops (fun H1 S1=>AN H1 S1\/(H1=w.heap/\S1=S)) (d08 w.heap p ov b) er) n (L.setIfInBounds p true) (a.put o.dst u) w):wpS E.P ops Q (TS ops AN b er) (n+1) L a w:=by
 simp only[okQ,and_eq_true]at e;obtain⟨⟨h1,j⟩,J⟩:=e;have g:TS ops (fun H1 S1=>AN H1 S1\/(H1=w.heap/\S1=S)) (d08 w.heap p ov b) er L w:=by
  refine⟨fun H1 S1 ha=>?_,fun q i=>?_⟩
  ·rcases ha with ha|⟨rfl,rfl⟩
   ·exact d.an H1 S1 ha
   ·exact⟨S1,P0.refl _ _⟩
  ·rcases p0A i with i|⟨v,_,rfl⟩
   ·exact d.ao q i
   ·exact fun _ k _ _=>rfl
 refine n0x (S:=TS ops (fun H1 S1=>AN H1 S1\/(H1=w.heap/\S1=S)) (d08 w.heap p ov b) er) (fun L w h=>h.mono (fun _ _ h=>.inl h) (fun q i=>C01 i)) _ _ _ _ ?_;refine n0o (S:=TS ops (fun H1 S1=>AN H1 S1\/(H1=w.heap/\S1=S)) (d08 w.heap p ov b) er) (Sx:=fun w'=>O6 E s S w B w') t (Region.noSelect_spec h1) (fun c a w hp=>absurd hp (z c _ w)) (fun y w' C hu hs=>⟨?_,fun k hk l=>?_⟩)
  (fun y w' hs _=>(TS.set (.inl he)).1 hs) (fun y w' hs=>(TS.set (.inl he)).2 hs) n L a w (n0R J) (Region.free_spec t j) R (.inl ⟨hw,fun w' r=>f w' r⟩) g hk
 ·exact hs.an w.heap S (.inr ⟨rfl,rfl⟩)
 ·obtain⟨v,e1,U⟩:=I k hk;subst e1;exact hs.ao ⟨w.heap,p,v⟩ (by simp[d08]) (fun m _ j _=>r0h C j hu) k l U
def G04 {AN:I0->D0->Prop}{e:List I7}{er:List Nat}{n p:Nat}{L:Array Bool}{o:Oper}(t:NoP Q)(l:ops[p]?=some o)(g:okQ ops L p=true)(r:p∈Region.ready .any ops L)
  (hw:Region.wanted o (yielded ops a.tmps)=false) (f:TS ops AN e er L w)
  (hk:wpS E.P ops Q (TS ops AN e (p :: er)) n (L.setIfInBounds p true) (a.put o.dst undef) w):wpS E.P ops Q (TS ops AN e er) (n+1) L a w:=by
 simp only[okQ,and_eq_true]at g;obtain⟨⟨h1,y⟩,u⟩:=g;have d:=(mem_ready.1 r).1;have k:L.getD p false=false:=by
  rw[Array.getD_eq_getD_getElem?]at d ⊢;cases h:L[p]? with
  |none=>rfl
  |some b=>rw[h]at d;simpa using d
 have j:TS ops AN e (p :: er) L w:=⟨f.an,fun q J hm=>f.ao q J fun m I z C=>by
  by_cases i:m=p
  ·subst i;exact k
  ·exact hm m I z (by simp[i,C])⟩
 refine n0x (S:=TS ops AN e (p :: er)) (fun L w h=>h.er) _ _ _ _ ?_;exact n0o (S:=TS ops AN e (p :: er)) (Sx:=fun _=>True) l (Region.noSelect_spec h1) (fun c a w hp=>absurd hp (t c _ w)) (fun _ _ _ _ _=>trivial)
  (fun x w' hs _=>(TS.set (.inr X')).1 hs) (fun x w' hs=>(TS.set (.inr X')).2 hs) n L a w (n0R u) (Region.free_spec l y) r (v:=undef) (.inr ⟨hw,rfl⟩) j hk
section
variable {E:Env}{ops:Array Oper}{Q:Exit->Act->World->Prop}{as:List Act}
def u0P:∀{n lo:Nat} {L:Array Bool},d03 L n lo=none->∀q,lo<=q->q<lo+n->U4 L q=false
 |0,lo,L,_,q,h1,b=>O'
 |n+1,lo,L,h,q,h1,b=>by
  simp only[d03]at h;split at h
  ·cases h
  ·rename_i hu
   by_cases e:q=lo
   ·subst e;exact hu
   ·exact u0P h q O' O'
def v0C:∀{n lo p:Nat} {L:Array Bool},d03 L n lo=some p->lo<=p/\p<lo+n/\U4 L p=true
 |0,lo,p,L,h=>by simp[d03]at h
 |n+1,lo,p,L,h=>by
  simp only[d03]at h;split at h
  ·rename_i hu;simp at h;subst h;exact⟨Nat.le_refl _,O',hu⟩
  ·obtain⟨h1,c,b⟩:=v0C h;exact⟨O',O',b⟩
def m0y:∀(n lo:Nat) (L:Array Bool),(d0a L n lo).size=L.size
 |0,lo,L=>rfl
 |n+1,lo,L=>by rw[d0a,m0y n (lo+1)];simp
def o0T:∀(n lo q:Nat) (L:Array Bool),(d0a L n lo).getD q true=(decide (lo<=q/\q<lo+n)||L.getD q true)
 |0,lo,q,L=>by
  have:¬(lo<=q/\q<lo+0):=O'
  rw[decide_eq_false this,Bool.false_or];rfl
 |n+1,lo,q,L=>by
  rw[d0a,o0T n (lo+1) q]
  by_cases e:lo=q
  ·subst e;have h1:lo<=lo/\lo<lo+(n+1):=O'
   rw[decide_eq_true h1,Bool.true_or];have:(L.setIfInBounds lo true).getD lo true=true:=by
    rw[Array.getD_eq_getD_getElem?];rcases lt_or_ge lo L.size with h|h
    ·simp[h]
    ·simp[Array.getElem?_eq_none,h]
   rw[this,Bool.or_true]
  ·rw[getD_set_ne true e];congr 1;apply decide_eq_decide.2;omega
def s0z {L b:Array Bool}(h1:L.size=b.size)(d:∀q,L.getD q true=b.getD q true):L=b:=by
 apply Array.ext h1;intro i hi c;have:=d i;simpa[Array.getD_eq_getD_getElem?,hi,c]using this
def w0C {L:Array Bool}{q:Nat}:U4 L q=!L.getD q true:=rfl
def r0u:∀{n lo q:Nat} {o:Oper},lo<=q->q<lo+n->ops[q]?=some o->c08 o=true->q∈c0U ops n lo
 |0,lo,q,o,h1,c,_,_=>O'
 |n+1,lo,q,o,h1,c,ho,hl=>by
  have d:q<ops.size:=(Array.getElem?_eq_some_iff.1 ho).1;have b:ops[lo]?=some (ops[lo]' O'):=X'
  simp only[c0U,b]
  by_cases e:q=lo
  ·subst e;rw[b]at ho;simp at ho;rw[ho,hl];exact List.mem_cons_self
  ·have:=r0u (n:=n) (lo:=lo+1) O' O' ho hl;split
   ·exact List.mem_cons_of_mem _ this
   ·exact this
def s0M:∀{n lo q:Nat},q∈c0U ops n lo->lo<=q/\q<lo+n/\∃o,ops[q]?=some o/\c08 o=true
 |0,lo,q,h=>by simp[c0U]at h
 |n+1,lo,q,h=>by
  simp only[c0U]at h;split at h
  ·rename_i o c;have up:q∈c0U ops n (lo+1)->lo<=q/\q<lo+(n+1)/\∃o,ops[q]?=some o/\c08 o=true:=fun h=>by
    obtain⟨h1,d,b⟩:=s0M h;exact⟨O',O',b⟩
   split at h
   ·rename_i hl;rcases mem_cons.1 h with rfl|h
    ·exact⟨O',O',o,c,hl⟩
    ·exact up h
   ·exact up h
  ·cases h
def F0r {s:St E.D}{o:Oper}(h:k9 E s o=true):c08 o=true:=by
 unfold k9 at h;unfold c08;cases b:o.op<;>rw[b]at h<;>simp_all
def n07 {L:Array Bool}{p:Nat}(h1:p<ops.size)(b:U4 L p=true):0<M9 ops L:=Nat.lt_of_lt_of_le (Nat.succ_pos _) (f0i h1 b)
def w0y {s:St E.D}{o:Oper}{q:Nat}(h:l9 E s o=some q):F0 s q≠.gone:=by
 unfold l9 at h;split at h<;>try cases h
 unfold rdP at h;split at h<;>try cases h
 all_goals
  split at h<;>try cases h
  rename_i hl;rw[hl];simp
def InR (ops:Array Oper)(lo hi:Nat)(q:Nat):Prop:=lo<=q/\q<hi/\∃o,ops[q]?=some o/\c08 o=true
def MO (HA:Nat->Value->Prop)(o:Nat×Option Nat)(p:I7):Prop:=o.1=p.i/\∀q,o.2=some q->∃u,p.v=some u/\HA q u
def MO.mono {HA b:Nat->Value->Prop}(h:∀i u,HA i u->b i u){o:Nat×Option Nat}{p:I7}(hm:MO HA o p):MO b o p:=⟨hm.1,fun q c=>by
 obtain⟨u,h1,d⟩:=hm.2 q c;exact⟨u,h1,h _ _ d⟩⟩
def MO.back {HA b:Nat->Value->Prop}(h:∀i u,HA i u->b i u){g:Nat->Value}(hp:∀i u,b i u->g i=u){o:Nat×Option Nat}{p:I7}(hw:∀q,o.2=some q->∃u,HA q u)(hm:MO b o p):MO HA o p:=⟨hm.1,fun q e=>by
 obtain⟨u,h1,f⟩:=hm.2 q e;obtain⟨c,d⟩:=hw q e;have:u=c:=(hp q u f).symm.trans (hp q c (h q c d));subst this;exact⟨u,h1,d⟩⟩
def u0K {n lo q:Nat}{o:Oper}(h1:lo<=q)(b:q<lo+n)(c:ops[q]?=some o)(hl:c08 o=true):(q,none)∈l0n ops n lo:=mem_map.2 ⟨q,r0u h1 b c hl,rfl⟩
def s0u {n lo:Nat}{o:Nat×Option Nat}(h:o∈l0n ops n lo):lo<=o.1/\o.1<lo+n/\∃x,ops[o.1]?=some x/\c08 x=true:=by
 obtain⟨q,h1,rfl⟩:=mem_map.1 h;exact s0M h1
structure DK (E:Env)(ops:Array Oper)(Q:Exit->Act->World->Prop)(A:E4)(as:List Act)(AN:I0->D0->Prop)(HA:Nat->Value->Prop)(owns:List (Nat×Option Nat))(lo hi:Nat)(s:St E.D)(L:Array Bool)(s':St E.D)(AN':I0->D0->Prop)(HA':Nat->Value->Prop)(AO':List I7)(er':List Nat)(ρ':Nat->Value)(S':D0)(a':Act)(w':World)(L':Array Bool)(n':Nat):Prop where
 rp:Rp E (A.with AN' HA') s' ρ' S' a' as w'
 ext:Ext s s'
 ts:TS ops AN' AO' er' L' w'
 an:∀H S,AN H S->AN' H S
 ha:∀i u,HA i u->HA' i u
 ao:∀p∈AO',(∃o∈owns,MO HA o p)\/InR ops lo hi p.i
 er:∀m∈er',U4 L' m=false
 M9:M9 ops L'<=n'
 size:L'.size=ops.size
 all:∀q,lo<=q->q<hi->U4 L' q=false
 out:∀q,(q<lo\/hi<=q)->L'.getD q true=L.getD q true
def u06 {α:Type}{r:α}:∀{l:List (Option α)},k0R l=some r->∀x∈l,x=some r
 |[],h=>by cases h
 |[a],h=>by intro x c;simp at c;subst c;exact h
 |a :: b :: l,h=>by
  obtain⟨h1,d⟩:=p0q (show same a (k0R (b :: l))=some r from h);intro x c;rcases mem_cons.1 c with rfl|c
  ·exact h1
  ·exact u06 d x c
def n0W {A:E4}{s:St E.D}{ρ:Nat->Value}{S:D0}{a:Act}{w:World}(h:Rp E A s ρ S a as w){d:Nat}{b:Bool}:∀{l:List Nat},g01 E s ops l=some (d,b)->a.tmps.getD d undef=.bool b
 |[],hl=>by cases hl
 |p :: l,hl=>by
  simp only[g01]at hl;split at hl
  ·rename_i o c;split at hl
   ·rename_i hg;cases hl;exact(f0y h (ops:=ops) (o:=o)).2.2 _ _ hg
   ·exact n0W h hl
  ·exact n0W h hl
def H0P {D:Nat->Type}{s s1:St D}{q:Nat}(h:p0j s s1=false)(b:q<s.nid):W6 s s1 q=false:=by
 unfold p0j at h;unfold W6;rw[List.any_eq_false]at h ⊢;intro p hp e;rw[Nat.beq_eq]at e;subst e;exact h p hp (by rw[blt_eq];exact b)
def q06 {A:E4}{s:St E.D}{ρ:Nat->Value}{S:D0}{a:Act}{w:World}(hE:T1 E){C:J3 E}{inl:Inl E}(hi:e0G E inl)(hs:d0j E C){R:Type}{rec:Array Bool->St E.D->Option R}{p:Nat}{L:Array Bool}{owns:List (Nat×Option Nat)}{o:Oper}{r:R}{AN:I0->D0->Prop}{HA:Nat->Value->Prop}{t:List I7}{er:List Nat}{K:Act->World->Prop}
  (hk:opV E C inl s o (fun s' v=>match owns.all (k0P ops (e0s E C s o) s s' p)with|true=>rec (L.setIfInBounds p true) (s'.put o.dst v)|false=>none)=some r) (h:Rp E (A.with AN HA) s ρ S a as w) (ho:ops[p]?=some o) (I:b03 s.n o=true) (b3:f0o o=false) (c:U4 L p=true) (hw:Region.wanted o (yielded ops a.tmps)=true)
  (b6:TS ops AN t er L w) (b7:∀p∈t,∃o∈owns,MO HA o p) (b8:∀m∈er,U4 L m=false)
  (J:∀s1 ρ1 S1 a1 w1,rec (L.setIfInBounds p true) s1=some r->Rp E (A.with AN HA) s1 ρ1 S1 a1 as w1->Ext s s1->TS ops AN t er (L.setIfInBounds p true) w1->K a1 w1):
  wpList E.P ops (Exit.then (fun a' w'=>TS ops AN t er (L.setIfInBounds p true) w'/\K a' w') Q) [o] a w:=by
 have y:d0D ops p=true:=by unfold d0D;rw[ho];simp[b3]
 have j:p∉er:=fun hm=>by rw[b8 p hm]at c;cases c
 have b1:L.getD p false=false:=by
  rw[Array.getD_eq_getD_getElem?,l0X.1 c];rfl
 have b5:(L.setIfInBounds p true).getD p false=true:=by
  have:=(Array.getElem?_eq_some_iff.1 (l0X.1 c)).1;rw[Array.getD_eq_getD_getElem?];simp[this]
 unfold wpList;rw[if_pos hw];refine .inl (t0B hE hi hs hk h fun s1 v u ρ1 S1 w1 f h1 hv he c4 hold=>?_);split at f<;>try cases f
 rename_i b;have d:TS ops AN t er (L.setIfInBounds p true) w1:=by
  refine⟨fun H2 S2 ha=>⟨S1,h1.kp H2 S2 ha⟩,fun q hq hm k i l=>?_⟩;obtain⟨ow,b4,z⟩:=b7 q hq;have b:=List.all_eq_true.1 b ow b4;unfold k0P at b;rw[or_eq_true]at b;rcases b with b|b
  ·rw[z.1]at b;have:=hm p y b j;rw[b5]at this;cases this
  ·rw[and_eq_true,or_eq_true,not_eq_true']at b;have h5:=b6.ao q hq (fun m e1 g e3=>by
    by_cases x:p=m
    ·subst x;exact b1
    ·have:=hm m e1 g e3
     rwa [getD_set_ne false x]at this) k i l
   have b9:k<w.heap.size:=by
    rcases lt_or_ge k w.heap.size with h6|h6
    ·exact h6
    ·rw[Array.getElem?_eq_none h6]at h5;simp[i]at h5
   refine(hold b.1 k b9 (fun id e1 e0 g hb=>?_)).trans h5;rcases b.2 with hc|hc
   ·rw[H0P hc e1]at g;cases g
   ·split at hc<;>try cases hc
    rename_i q0 c3;rw[and_eq_true,not_eq_true']at hc;obtain⟨u0,c0,U⟩:=z.2 q0 c3;obtain⟨_,b2⟩:=h.hp q0 u0 U;refine h.dj id q0 (fun e=>?_) e0 hc.2 k hb (Bk.hd (by rw[b2];exact l u0 c0));subst e;rw[hc.1]at g;cases g
 exact s0o d (J _ ρ1 S1 (a.put o.dst u) w1 f (h1.f0c I he.n hv) (he.trans (Ext.put s1 o.dst v)) d)
def F0d {a:Act}{w:World}{P:Program}{S:Array Bool->World->Prop}{L:Array Bool}{fuel:Nat}(d:Region.ready .any ops L≠[])
  (h:∀i∈Region.ready .any ops L,∃o,ops[i]?=some o/\wpList P ops (Exit.then (fun f w'=>S (L.setIfInBounds i true) w'/\wpS P ops Q S fuel (L.setIfInBounds i true) f w') Q) [o] a w):wpS P ops Q S (fuel+1) L a w:=by
 refine⟨fun e=>absurd e d,fun j b=>?_⟩;obtain⟨o,c,hw⟩:=h j b;exact q0V c hw
def c05 (hE:T1 E){C:J3 E}{inl:Inl E}(hi:e0G E inl)(hs:d0j E C)(hQ:NoP Q):∀(f:Nat) (R:Type) (cs:List (Nat×Nat×Cut)) (lo hi:Nat) (L:Array Bool) (owns:List (Nat×Option Nat)) (s:St E.D) (k:St E.D->Option R) (r:R),
  U5 E C inl ops f cs lo hi L owns s k=some r->L.size=ops.size->∀(A:E4) (AN:I0->D0->Prop) (HA:Nat->Value->Prop) (AO:List I7) (er:List Nat) (ρ:Nat->Value) (S:D0) (a:Act) (w:World) (n:Nat),
  Rp E (A.with AN HA) s ρ S a as w->TS ops AN AO er L w->(∀p∈AO,∃o∈owns,MO HA o p)->(∀o∈owns,∀q,o.2=some q->∃u,HA q u)->(∀m∈er,U4 L m=false)->M9 ops L<=n->
  (∀s' y b4 J I ρ' S' a' w' L' n',k s'=some r->DK E ops Q A as AN HA owns lo hi s L s' y b4 J I ρ' S' a' w' L' n'->wpS E.P ops Q (TS ops y J I) n' L' a' w')->
  wpS E.P ops Q (TS ops AN AO er) n L a w
 |0,R,cs,lo,hi,L,owns,s,k,r,hk,b6=>by simp[U5]at hk
 |f+1,R,cs,lo,hi',L,owns,s,k,r,hk,b6=>by
  intro A AN HA AO er ρ S a w n h b5 c0 b8 c4 hn hK;simp only[U5]at hk;split at hk
  ·rename_i hu;have e7:∀q,lo<=q->q<hi'->U4 L q=false:=fun q h1 h2=>u0P hu q h1 O';exact hK s AN HA AO er ρ S a w L n hk ⟨h,Ext.refl s,b5,fun _ _ h=>h,fun _ _ h=>h,fun p hp=>.inl (c0 p hp),c4,hn,b6,e7,fun _ _=>rfl⟩
  ·rename_i p0 hu;obtain⟨u1,u2,u3⟩:=v0C hu;have ask:∀{d:Nat} {b:Bool},a.tmps.getD d undef=.bool b->(if b then U5 E C inl ops f cs lo hi' L owns (s.put (some d) (.kb true)) k else U5 E C inl ops f cs lo hi' L owns (s.put (some d) (.kb false)) k)=some r->wpS E.P ops Q (TS ops AN AO er) n L a w:=by
    intro d b hb hk;have:U5 E C inl ops f cs lo hi' L owns (s.put (some d) (.kb b)) k=some r:=by cases b<;>exact hk
    exact c05 hE hi hs hQ f R cs lo hi' L owns _ k r this b6 A AN HA AO er ρ S a w n (h.m0r (by rw[hb];exact VS.kb)) b5 c0 b8 c4 hn fun s' y b4 J I ρ' S' a' w' L' n' b3 dk=>
     hK s' y b4 J I ρ' S' a' w' L' n' b3 ⟨dk.rp,(Ext.put s (some d) _).trans dk.ext,dk.ts,dk.an,dk.ha,dk.ao,dk.er,dk.M9,dk.size,dk.all,dk.out⟩
   split at hk
   ·rename_i p hp;split at hk<;>try cases hk
    rename_i o ho;split at hk<;>try cases hk
    rename_i l4;rw[and_eq_true]at l4;obtain⟨b1,k8⟩:=l4;have e5:p∈Region.ready .any ops L:=List.mem_of_find?_eq_some hp;have k6:=List.find?_some hp;simp only[and_eq_true,ble_eq,blt_eq,ho]at k6;obtain⟨⟨⟨j2,i1⟩,_⟩,l2⟩:=k6;obtain⟨U,c3⟩:=h06 e5;have hc:=f0i (ops:=ops) c3 U;obtain⟨m,rfl⟩:∃m,n=m+1:=⟨n-1,by have:=n07 (ops:=ops) c3 U;omega⟩
    have b2:∀q,(q<lo\/hi'<=q)->(L.setIfInBounds p true).getD q true=L.getD q true:=fun q l=>getD_set_ne true O';have b9:∀m∈er,U4 (L.setIfInBounds p true) m=false:=fun m hm=>by rw[c0L,c4 m hm];rfl
    obtain⟨g1,g2,g3⟩:=f0y h (ops:=ops) (o:=o);have step:∀{sB:St E.D} {ρB:Nat->Value} {v:V E.D} {u:Value},Rp E (A.with AN HA) sB ρB S a as w->Ext s sB->(∀q,l9 E s o=some q->q<sB.nid/\hd (ρB q)=hd (ρ q))->a09 E s ops o=.yes->VS E ρB sB.nid w.heap S v u->(∀w',O6 E s S w (e0Q E s ρ o) w'->(execOp a.eval o).run E.P w'=.ok (.value u) w')->
      U5 E C inl ops f cs lo hi' (L.setIfInBounds p true) (match k9 E s o with|true=>(p,l9 E s o) :: owns|false=>owns) (sB.put o.dst v) k=some r->wpS E.P ops Q (TS ops AN AO er) (m+1) L a w:=by
     intro sB ρB v u hB l1 n1 hg hv l3 hk;have b1:b03 sB.n o=true:=by rw[l1.n];exact b1
     have n0:f0o o=true:=by
      simp only[or_eq_true]at l2;rcases l2 with h|h
      ·exact h
      ·unfold k0a at h;rw[hg]at h;cases h
     have e9:d0D ops p=false:=by unfold d0D;rw[ho];simp[n0]
     refine B0p (B:=e0Q E s ρ o) (ov:=if k9 E s o then some ((l9 E s o).map fun q=>hd (ρ q))else none) (fun k hk=>?_) hQ ho k8 e5 e9 (g1 hg) l3 b5 ?_
     ·rw[if_pos hk.1];refine⟨_,rfl,fun x hx=>?_⟩;obtain⟨q,l,rfl⟩:=Option.map_eq_some_iff.1 hx;exact hk.2 q l
     have h2:=(hB.anc (AN:=fun H1 S1=>AN H1 S1\/(H1=w.heap/\S1=S)) (HA:=fun i x=>HA i x\/(l9 E s o=some i/\x=hd (ρ i))) (fun H1 S1 ha=>by
      rcases ha with ha|⟨rfl,rfl⟩
      ·exact h.kp H1 S1 ha
      ·exact P0.refl _ _) (fun i x hx=>by
      rcases hx with hx|⟨h1,rfl⟩
      ·exact hB.hp i x hx
      ·exact n1 i h1))
     refine c05 hE hi hs hQ f R cs lo hi' _ _ _ k r hk (by simp[b6]) A _ _ _ er ρB S _ w m (h2.f0c b1 rfl hv) ?_ ?_ ?_ b9 O' fun s' y b4 J I ρ' S' a' w' L' n' b3 dk=>?_
     ·refine(TS.set (.inl e9)).2 ⟨fun H1 S1 ha=>?_,fun q l=>?_⟩
      ·rcases ha with ha|⟨rfl,rfl⟩
       ·exact b5.an H1 S1 ha
       ·exact⟨S1,P0.refl _ _⟩
      ·rcases p0A l with l|⟨v,_,rfl⟩
       ·exact b5.ao q l
       ·exact fun _ k _ _=>rfl
     ·intro q l;rcases p0A l with l|⟨v,e1,rfl⟩
      ·obtain⟨o',h5,h6⟩:=c0 q l;refine⟨o',?_,h6.mono fun _ _ h=>.inl h⟩;cases k9 E s o<;>simp[h5]
      ·cases z:k9 E s o with
       |false=>rw[z]at e1;simp at e1
       |true=>
        rw[z]at e1;simp only[if_true,Option.some.injEq]at e1;refine⟨(p,l9 E s o),X',rfl,fun q l=>⟨hd (ρ q),?_,.inr ⟨l,rfl⟩⟩⟩;have l:l9 E s o=some q:=l;show v=_;rw[<-e1,l];rfl
     ·intro o' b7 q l;cases z:k9 E s o with
      |false=>
       rw[z]at b7;obtain⟨u,hu⟩:=b8 o' b7 q l;exact⟨u,.inl hu⟩
      |true=>
       rw[z]at b7;rcases mem_cons.1 b7 with rfl|b7
       ·exact⟨_,.inr ⟨l,rfl⟩⟩
       ·obtain⟨u,hu⟩:=b8 o' b7 q l;exact⟨u,.inl hu⟩
     ·refine hK s' y b4 J I ρ' S' a' w' L' n' b3 ⟨dk.rp,l1.trans ((Ext.put sB o.dst v).trans dk.ext),dk.ts,fun H1 S1 ha=>dk.an H1 S1 (.inl ha),fun i x hx=>dk.ha i x (.inl hx),fun q l=>?_,dk.er,dk.M9,dk.size,dk.all,fun q l=>(dk.out q l).trans (b2 q l)⟩;have back:∀{o'},o'∈owns->MO _ o' q->MO HA o' q:=fun h8 h9=>h9.back (fun _ _ h=>.inl h) (g:=fun i=>hd (ρB i)) (fun i x hx=>(h2.hp i x hx).2) (b8 _ h8);rcases dk.ao q l with⟨o',h3,h4⟩|h3
      ·cases z:k9 E s o with
       |false=>rw[z]at h3;exact .inl ⟨o',h3,back h3 h4⟩
       |true=>
        rw[z]at h3;rcases mem_cons.1 h3 with e|h3
        ·subst e;have e:=h4.1;simp only at e;rw[<-e];exact .inr ⟨j2,i1,o,ho,F0r z⟩
        ·exact .inl ⟨o',h3,back h3 h4⟩
      ·exact .inr h3
    have l:=n0V hE h o;split at hk
    ·cases hk
    ·rename_i hg;split at hk
     ·split at hk<;>try cases hk
      rename_i q i g hb;obtain⟨⟨e1,e2⟩,u,ρ1,h1,_,h3,h4⟩:=s01 h hb;refine step h1 (Ext.new s _) (fun q l=>by rw[e2]at l;cases l) hg h3 (fun w' hw=>h4 w' (hw.b0a fun k _=>⟨e1,fun q l=>by rw[e2]at l;cases l⟩)) ?_;rw[e1,e2];exact hk
     ·rename_i v hv;rw[hv]at l;obtain⟨u,h1,h2⟩:=l;exact step h (Ext.refl s) (fun q l=>⟨h.i7 (w0y l),rfl⟩) hg h1 h2 hk
     ·rename_i b v hv;rw[hv]at l;split at hk<;>try cases hk
      rename_i hb;obtain⟨u,h1,h2⟩:=l hb;exact step h (Ext.refl s) (fun q l=>⟨h.i7 (w0y l),rfl⟩) hg h1 h2 hk
    ·rename_i hg;refine G04 hQ ho k8 e5 (g2 hg) b5 ?_;refine c05 hE hi hs hQ f R cs lo hi' _ _ _ k r hk (by simp[b6]) A AN HA AO (p :: er) ρ S _ w m (h.f0c b1 rfl VS.unit) ((TS.set (.inr X')).2 ⟨b5.an,fun q l hm=>b5.ao q l fun j e1 e2 e3=>?_⟩) c0 b8 ?_ O' fun s' y b4 J I ρ' S' a' w' L' n' b3 dk=>?_
     ·by_cases hj:j=p
      ·subst hj;rw[l0X]at U;rw[Array.getD_eq_getD_getElem?,U];rfl
      ·exact hm j e1 e2 (by simp[hj,e3])
     ·intro q l;rcases mem_cons.1 l with rfl|l
      ·rw[c0L];simp
      ·exact b9 q l
     ·exact hK s' y b4 J I ρ' S' a' w' L' n' b3 ⟨dk.rp,(Ext.put s o.dst _).trans dk.ext,dk.ts,dk.an,dk.ha,dk.ao,dk.er,dk.M9,dk.size,dk.all,fun q l=>(dk.out q l).trans (b2 q l)⟩
    ·rename_i d b hg;exact ask (g3 d b hg) hk
   ·split at hk
    ·rename_i b c r' n2;split at hk<;>try cases hk
     rename_i hb;simp only[and_eq_true,ble_eq,blt_eq]at hb;obtain⟨⟨o0,n4⟩,n3⟩:=hb;obtain⟨d,hd,hk⟩:=a0c hk;refine c05 hE hi hs hQ f _ _ p0 (b+1) L owns s _ d hd b6 A AN HA AO er ρ S a w n h b5 c0 b8 c4 hn fun s' y b4 J I ρ' S' a' w' L' n' k1 dk=>?_;obtain⟨u,ρ1,S1,h1,h2,h3,_⟩:=d0N (A:=A.with y HA) hE (fun i u ha=>(h.hp i u ha).1) h (dk.rp.anc (AN:=y) (HA:=HA) (fun H1 S1 ha=>dk.rp.kp H1 S1 ha) (fun i u ha=>dk.rp.hp i u (dk.ha i u ha))) dk.ext k1 hk;have k0:L'=d0a L (b+1-p0) p0:=by
      refine s0z (by rw[dk.size,m0y,b6]) fun q=>?_;rw[o0T]
      by_cases hr:p0<=q/\q<p0+(b+1-p0)
      ·rw[decide_eq_true hr,Bool.true_or];have:=dk.all q hr.1 O';rw[w0C]at this;simpa using this
      ·rw[decide_eq_false hr,Bool.false_or];exact dk.out q O'
     rw[<-k0]at h1;refine c05 hE hi hs hQ f R _ lo hi' L' _ u _ r h1 dk.size A y HA J I ρ1 S1 a' w' n' h2 dk.ts ?_ ?_ dk.er dk.M9 fun e6 c9 c8 e4 c7 ρ'' h0 k3 k2 j1 j0 b3 t=>?_
     ·intro q l;rcases dk.ao q l with⟨o',h4,h5⟩|⟨h4,h5,o,ho,hl⟩
      ·exact⟨o',List.mem_append_right _ h4,h5⟩
      ·exact⟨_,List.mem_append_left _ (u0K h4 O' ho hl),rfl,fun q0 j3=>by cases j3⟩
     ·intro o' b7 q l;rcases mem_append.1 b7 with h5|h5
      ·obtain⟨_,_,rfl⟩:=mem_map.1 h5;cases l
      ·exact b8 o' h5 q l
     ·refine hK e6 c9 c8 e4 c7 ρ'' h0 k3 k2 j1 j0 b3 ⟨t.rp,h3.trans t.ext,t.ts,fun H1 S1 ha=>t.an H1 S1 (dk.an H1 S1 ha),fun i x hx=>t.ha i x hx,fun q l=>?_,t.er,t.M9,t.size,t.all,fun q l=>(t.out q l).trans (dk.out q O')⟩;rcases t.ao q l with⟨o',h4,h6⟩|h4
      ·rcases mem_append.1 h4 with h5|h5
       ·obtain⟨e1,e2,e3⟩:=s0u h5;rw[h6.1]at e1 e2 e3;exact .inr ⟨O',O',e3⟩
       ·exact .inl ⟨o',h5,h6⟩
      ·exact .inr h4
    ·split at hk
     ·rename_i p hr;split at hk<;>try cases hk
      rename_i o ho;split at hk<;>try cases hk
      rename_i hb;simp only[and_eq_true,ble_eq,blt_eq,not_eq_true']at hb;obtain⟨⟨⟨b1,j2⟩,i1⟩,h7⟩:=hb;obtain⟨U,c3⟩:=h06 (L:=L) (ops:=ops) (p:=p) (by rw[hr];simp);obtain⟨g1,g2,g3⟩:=f0y h (ops:=ops) (o:=o);split at hk
      ·rename_i hg;have hc:=f0i (ops:=ops) c3 U;obtain⟨m,rfl⟩:∃m,n=m+1:=⟨n-1,by have:=n07 (ops:=ops) c3 U;omega⟩
       have b2:∀q,(q<lo\/hi'<=q)->(L.setIfInBounds p true).getD q true=L.getD q true:=fun q l=>getD_set_ne true O';have b9:∀m∈er,U4 (L.setIfInBounds p true) m=false:=fun m hm=>by rw[c0L,c4 m hm];rfl
       refine w0f hr ho (q06 (rec:=fun L' s'=>U5 E C inl ops f cs lo hi' L' owns s' k) hE hi hs hk h ho b1 h7 U (g1 hg) b5 c0 c4 fun s1 ρ1 S1 a1 w1 k4 h1 he c6=>?_);exact c05 hE hi hs hQ f R cs lo hi' (L.setIfInBounds p true) owns _ k r k4 (by simp[b6]) A AN HA AO er ρ1 S1 a1 w1 m h1 c6 c0 b8 b9 O' fun s' y b4 J I ρ' S' a' w' L' n' b3 dk=>
        hK s' y b4 J I ρ' S' a' w' L' n' b3 ⟨dk.rp,he.trans dk.ext,dk.ts,dk.an,dk.ha,dk.ao,dk.er,dk.M9,dk.size,dk.all,fun q l=>(dk.out q l).trans (b2 q l)⟩
      ·rename_i d b hg;exact ask (g3 d b hg) hk
      ·cases hk
     ·split at hk
      ·rename_i d b hl;exact ask (n0W h hl) hk
      ·split at hk<;>try cases hk
       rename_i c i0 l0 n9 hr;obtain⟨d,hd,hk⟩:=a0c hk;have e7:=u06 hd;obtain⟨m,rfl⟩:∃m,n=m+1:=⟨n-1,by
        obtain⟨U,c3⟩:=h06 (L:=L) (ops:=ops) (p:=i0) (by rw[hr];simp);have:=n07 (ops:=ops) c3 U;omega⟩
       refine F0d (by rw[hr];simp) fun p hp=>?_;obtain⟨U,c3⟩:=h06 hp;have c5:=e7 _ (mem_map.2 ⟨p,hp,rfl⟩);unfold r0l at c5;split at c5<;>try cases c5
       rename_i o ho;split at c5<;>try cases c5
       rename_i hb;simp only[and_eq_true,ble_eq,blt_eq,not_eq_true']at hb;obtain⟨⟨⟨b1,j2⟩,i1⟩,h7⟩:=hb;obtain⟨g1,g2,g3⟩:=f0y h (ops:=ops) (o:=o);split at c5<;>try cases c5
       rename_i hg;refine⟨o,ho,?_⟩;have hc:=f0i (ops:=ops) c3 U;have b2:∀q,(q<p0\/hi'<=q)->(L.setIfInBounds p true).getD q true=L.getD q true:=fun q l=>getD_set_ne true O';have b9:∀m∈er,U4 (L.setIfInBounds p true) m=false:=fun m hm=>by rw[c0L,c4 m hm];rfl
       refine q06 (rec:=fun L' s'=>U5 E C inl ops f cs p0 hi' L' owns s' fun e6=>b0E E s e6 c) hE hi hs c5 h ho b1 h7 U (g1 hg) b5 c0 c4 fun s1 ρ1 S1 a1 w1 k4 h1 he c6=>?_;refine c05 hE hi hs hQ f _ cs p0 hi' (L.setIfInBounds p true) owns _ _ d k4 (by simp[b6]) A AN HA AO er ρ1 S1 a1 w1 m h1 c6 c0 b8 b9 O' fun s' y b4 J I ρ' S' a' w' L' n' k1 dk=>?_;obtain⟨u,ρ2,S2,q1,q2,q3,_⟩:=d0N (A:=A.with y HA) hE (fun i u ha=>(h.hp i u ha).1) h (dk.rp.anc (AN:=y) (HA:=HA) (fun H1 S1 ha=>dk.rp.kp H1 S1 ha) (fun i u ha=>dk.rp.hp i u (dk.ha i u ha))) (he.trans dk.ext) k1 hk;have k0:L'=d0a L (hi'-p0) p0:=by
        refine s0z (by rw[dk.size,m0y,b6]) fun q=>?_;rw[o0T]
        by_cases k5:p0<=q/\q<p0+(hi'-p0)
        ·rw[decide_eq_true k5,Bool.true_or];have:=dk.all q k5.1 O';rw[w0C]at this;simpa using this
        ·rw[decide_eq_false k5,Bool.false_or];exact(dk.out q O').trans (b2 q O')
       rw[<-k0]at q1;refine c05 hE hi hs hQ f R _ lo hi' L' _ u _ r q1 dk.size A y HA J I ρ2 S2 a' w' n' q2 dk.ts ?_ ?_ dk.er dk.M9 fun e6 c9 c8 e4 c7 ρ'' h0 k3 k2 j1 j0 b3 t=>?_
       ·intro q l;rcases dk.ao q l with⟨o',h4,h5⟩|⟨h4,h5,o,ho,hl⟩
        ·exact⟨o',List.mem_append_right _ h4,h5⟩
        ·exact⟨_,List.mem_append_left _ (u0K h4 O' ho hl),rfl,fun q0 j3=>by cases j3⟩
       ·intro o' b7 q l;rcases mem_append.1 b7 with h5|h5
        ·obtain⟨_,_,rfl⟩:=mem_map.1 h5;cases l
        ·exact b8 o' h5 q l
       ·refine hK e6 c9 c8 e4 c7 ρ'' h0 k3 k2 j1 j0 b3 ⟨t.rp,q3.trans t.ext,t.ts,fun H1 S1 ha=>t.an H1 S1 (dk.an H1 S1 ha),fun i x hx=>t.ha i x hx,fun q l=>?_,t.er,t.M9,t.size,t.all,fun q l=>(t.out q l).trans ((dk.out q O').trans (b2 q O'))⟩;rcases t.ao q l with⟨o',h4,h6⟩|h4
        ·rcases mem_append.1 h4 with h5|h5
         ·obtain⟨e1,e2,e3⟩:=s0u h5;rw[h6.1]at e1 e2 e3;exact .inr ⟨O',O',e3⟩
         ·exact .inl ⟨o',h5,h6⟩
        ·exact .inr h4
def y0F (d:T1 E){C:J3 E}(hs:d0j E C):w0c E C:=by
 intro inl hi R cs id ops s k r hk A ρ S a as w h Q e j;refine wp_region_any d.mix (p0J (S:=TS ops A.anc [] []) _ _ _ _ ?_);have b:M9 ops (Array.replicate ops.size false)<=ops.size:=by
  unfold M9;exact Nat.le_trans (List.length_filter_le _ _) X'
 refine c05 d hi hs e 100000 R cs 0 ops.size _ [] s k r hk X' A A.anc A.hda [] [] ρ S a _ _ ⟨⟨⟨h.cx.bel.1,h.cx.bel.2,h.cx.bel.3,h.cx.bel.4,h.cx.bel.5⟩,h.cx.sub,h.cx.lt,h.cx.lt0⟩,h.fr,h.stk,h.th,h.ow,h.dj,h.lt,h.rf,h.kp,h.hp⟩ ⟨fun H1 S1 ha=>⟨S,h.kp H1 S1 ha⟩,X'⟩ X' X' X' b fun l m n f o ρ' g i w' q t c dk=>?_;exact o03 (C0z fun p hp=>dk.all p (Nat.zero_le _) hp) (j l ρ' g i w' c (dk.rp.D0B dk.an dk.ha) dk.ext)
end
end
