/- P. Its conditions: none. -/
import Derived.Test.YtihmgaccbcfgjaaGreatRX11
open List (mem_cons mem_map mem_append)
open Bool (and_eq_true not_eq_true')
open Nat (blt_eq ble_eq)
set_option linter.all false
namespace Go.X
open Go.V Go.RowKit
section
variable {E:Env}{ops:Array Oper}{Q:Exit->Act->World->Prop}
def d0D (ops:Array Oper)(m:Nat):Bool:=match ops[m]? with
 |some o=>!f0o o
 |none=>false
structure I7 where
 h:I0
 i:Nat
 v:Option Value
def I7.has (p:I7)(k:Nat):Prop:=∀u,p.v=some u->B1 u=some k
structure TS (ops:Array Oper)(AN:I0->D0->Prop)(AO:List I7)(er:List Nat)(L:Array Bool)(w:World):Prop where
 an:∀H1 S1,AN H1 S1->∃S',P0 H1 S1 w.heap S'
 ao:∀p∈AO,(∀m,d0D ops m=true->e0a ops m p.i=true->m∉er->L.getD m false=false)->∀k,k<p.h.size->p.has k->w.heap[k]?=p.h[k]?
def n0x {S b:Array Bool->World->Prop}(h:∀L w,S L w->b L w):∀(n:Nat) (L:Array Bool) (a:Act) (w:World),wpS E.P ops Q S n L a w->wpS E.P ops Q b n L a w
 |0,L,a,w,hw=>hw
 |n+1,L,a,w,hw=>⟨hw.1,fun i hi=>wpOp_mono (fun c w' k=>⟨h _ _ k.1,n0x h n _ c w' k.2⟩) (hw.2 i hi)⟩
def TS.mono {AN c:I0->D0->Prop}{d b:List I7}{er:List Nat}(h1:∀H S,AN H S->c H S)(e:∀p∈d,p∈b){L:Array Bool}{w:World}(h:TS ops c b er L w):TS ops AN d er L w:=
 ⟨fun H S ha=>h.an H S (h1 H S ha),fun p hp=>h.ao p (e p hp)⟩
def TS.er {AN:I0->D0->Prop}{b:List I7}{er:List Nat}{q:Nat}{L:Array Bool}{w:World}(h:TS ops AN b (q :: er) L w):TS ops AN b er L w:=
 ⟨h.an,fun p hp hm=>h.ao p hp fun m h1 e d=>hm m h1 e (fun c=>d (List.mem_cons_of_mem _ c))⟩
theorem TS.set {AN:I0->D0->Prop}{b:List I7}{er:List Nat}{i:Nat}(hi:d0D ops i=false\/i∈er){L:Array Bool}{w:World}:TS ops AN b er (L.setIfInBounds i true) w↔TS ops AN b er L w:=by
 have key:∀m,d0D ops m=true->m∉er->(L.setIfInBounds i true).getD m false=L.getD m false:=fun m h1 c=>by
  have:i≠m:=by
   grind
  simp_all
 constructor
 ·exact fun h=>⟨h.an,fun p hp hm=>h.ao p hp fun m h1 c d=>by simp_all⟩
 ·exact fun h=>⟨h.an,fun p hp hm=>h.ao p hp fun m h1 c d=>by simp_all⟩
def M9 (ops:Array Oper)(L:Array Bool):Nat:=((List.range ops.size).filter fun p=>U4 L p).length
def c0L {L:Array Bool}{p q:Nat}:U4 (L.setIfInBounds p true) q=(U4 L q&&!decide (p=q)):=by
 unfold U4
 by_cases h:p=q
 ·simp_all
 simp_all
theorem f0i {L:Array Bool}{p:Nat}(h1:p<ops.size)(c:U4 L p=true):M9 ops (L.setIfInBounds p true)+1<=M9 ops L:=by
 have:∀l:List Nat,p∈l->(l.filter fun q=>U4 (L.setIfInBounds p true) q).length+1<=(l.filter fun q=>U4 L q).length:=by
  intro l
  induction l with
  |nil=>simp
  |cons x l ih=>
   have hle:∀l:List Nat,(l.filter fun q=>U4 (L.setIfInBounds p true) q).length<=(l.filter fun q=>U4 L q).length:=by
    intro l;have e:(l.filter fun q=>U4 (L.setIfInBounds p true) q)=(l.filter fun q=>U4 L q).filter fun q=>!decide (p=q):=by
     simp[c0L,Bool.and_comm]
    grind
   intro hm
   by_cases b:p=x
   ·simp_all[c0L]
   ·have hm:p∈l:=by
     simp_all
    have:=ih hm;simp only[c0L]at this;simp only[List.filter_cons,c0L,b,decide_false,Bool.not_false,Bool.and_true]
    grind
 exact this _ (List.mem_range.2 h1)
theorem l0X {L:Array Bool}{p:Nat}:U4 L p=true↔L[p]?=some false:=by
 unfold U4;rw[Array.getD_eq_getD_getElem?]
 grind
theorem h06 {L:Array Bool}{p:Nat}(h:p∈Region.ready .any ops L):U4 L p=true/\p<ops.size:=by
 grind [mem_ready,U4]
theorem C0z {L:Array Bool}(h:∀p,p<ops.size->U4 L p=false):Region.ready .any ops L=[]:=by
 cases b:Region.ready .any ops L with
 |nil=>rfl
 |cons p l=>
  have:=h06 (p:=p) (ops:=ops) (L:=L) (by simp_all)
  grind
variable {A:E4}{s:St E.D}{ρ:Nat->Value}{S:D0}{a:Act}{as:List Act}{w:World}
def E4.with (A:E4)(AN:I0->D0->Prop)(HA:Nat->Value->Prop):E4:={ A with anc:=AN,hda:=HA }
def Rp.anc {b:I0->D0->Prop}{c:Nat->Value->Prop}(h:Rp E (A.with b c) s ρ S a as w){AN:I0->D0->Prop}{HA:Nat->Value->Prop}(hk:∀H1 S1,AN H1 S1->P0 H1 S1 w.heap S)(d:∀i u,HA i u->i<s.nid/\hd (ρ i)=u):Rp E (A.with AN HA) s ρ S a as w:=
 ⟨h.cx,h.fr,h.stk,h.th,h.ow,h.dj,h.lt,h.rf,hk,d⟩
def Rp.D0B {AN:I0->D0->Prop}{HA:Nat->Value->Prop}(h:Rp E (A.with AN HA) s ρ S a as w)(hk:∀H1 S1,A.anc H1 S1->AN H1 S1)(b:∀i u,A.hda i u->HA i u):Rp E A s ρ S a as w:=
 ⟨h.cx,h.fr,h.stk,h.th,h.ow,h.dj,h.lt,h.rf,fun H1 S1 ha=>h.kp H1 S1 (hk H1 S1 ha),fun i u ha=>h.hp i u (b i u ha)⟩
def d08 (H:I0)(p:Nat)(ov:Option (Option Value))(b:List I7):List I7:=match ov with
 |some v=>⟨H,p,v⟩ :: b
 |none=>b
def C01 {H:I0}{p:Nat}{ov:Option (Option Value)}{b:List I7}{q:I7}(h:q∈b):q∈d08 H p ov b:=by
 cases ov with
 |none=>exact h
 |some v=>exact List.mem_cons_of_mem _ h
def p0A {H:I0}{p:Nat}{ov:Option (Option Value)}{b:List I7}{q:I7}(h:q∈d08 H p ov b):q∈b\/∃v,ov=some v/\q=⟨H,p,v⟩:=by
 cases ov with
 |none=>exact .inl h
 |some v=>
  rcases mem_cons.1 h with rfl|h
  ·simp
  simp_all
def B0p {AN:I0->D0->Prop}{b:List I7}{er:List Nat}{n p:Nat}{L:Array Bool}{o:Oper}{u:Value}{B:Nat->Prop}{ov:Option (Option Value)}(C:∀k,B k->∃v,ov=some v/\∀x,v=some x->B1 x=some k)(J:NoP Q)(ho:ops[p]?=some o)(g:okQ ops L p=true)(U:p∈Region.ready .any ops L)(he:d0D ops p=false)
  (hw:Region.wanted o (yielded ops a.tmps)=true) (d:∀w',O6 E s S w B w'->(execOp a.eval o).run E.P w'=.ok (.value u) w') (f:TS ops AN b er L w)
  (hk:wpS E.P ops Q (TS ops (fun H1 S1=>AN H1 S1\/(H1=w.heap/\S1=S)) (d08 w.heap p ov b) er) n (L.setIfInBounds p true) (a.put o.dst u) w):wpS E.P ops Q (TS ops AN b er) (n+1) L a w:=by
 simp only[okQ,and_eq_true]at g;obtain⟨⟨h1,l⟩,y⟩:=g;have i:TS ops (fun H1 S1=>AN H1 S1\/(H1=w.heap/\S1=S)) (d08 w.heap p ov b) er L w:=by
  refine⟨fun H1 S1 ha=>?_,fun q e=>?_⟩
  ·rcases ha with ha|⟨rfl,rfl⟩
   ·exact f.an H1 S1 ha
   ·exact⟨S1,P0.refl _ _⟩
  ·rcases p0A e with e|⟨v,_,rfl⟩
   ·exact f.ao q e
   simp
 refine n0x (S:=TS ops (fun H1 S1=>AN H1 S1\/(H1=w.heap/\S1=S)) (d08 w.heap p ov b) er) (fun L w h=>h.mono (fun _ _ h=>.inl h) (fun q e=>C01 e)) _ _ _ _ ?_;refine n0o (S:=TS ops (fun H1 S1=>AN H1 S1\/(H1=w.heap/\S1=S)) (d08 w.heap p ov b) er) (Sx:=fun w'=>O6 E s S w B w') ho (Region.noSelect_spec h1) (fun c a w hp=>absurd hp (J c _ w)) (fun t w' R hu hs=>⟨?_,fun k hk j=>?_⟩)
  (fun t w' hs _=>(TS.set (.inl he)).1 hs) (fun t w' hs=>(TS.set (.inl he)).2 hs) n L a w (n0R y) (Region.free_spec ho l) U (.inl ⟨hw,fun w' r=>d w' r⟩) i hk
 ·exact hs.an w.heap S (.inr ⟨rfl,rfl⟩)
 ·obtain⟨v,z,I⟩:=C k hk;subst z;exact hs.ao ⟨w.heap,p,v⟩ (by simp[d08]) (fun m _ l _=>r0h R l hu) k j I
theorem G04 {AN:I0->D0->Prop}{b:List I7}{er:List Nat}{n p:Nat}{L:Array Bool}{o:Oper}(k:NoP Q)(ho:ops[p]?=some o)(f:okQ ops L p=true)(g:p∈Region.ready .any ops L)
  (hw:Region.wanted o (yielded ops a.tmps)=false) (e:TS ops AN b er L w)
  (hk:wpS E.P ops Q (TS ops AN b (p :: er)) n (L.setIfInBounds p true) (a.put o.dst undef) w):wpS E.P ops Q (TS ops AN b er) (n+1) L a w:=by
 simp only[okQ,and_eq_true]at f;obtain⟨⟨h1,l⟩,r⟩:=f;have t:=(mem_ready.1 g).1;have d:TS ops AN b (p :: er) L w:=⟨e.an,fun q j hm=>e.ao q j fun m y u x=>by
  grind⟩
 refine n0x (S:=TS ops AN b (p :: er)) (fun L w h=>h.er) _ _ _ _ ?_;exact n0o (S:=TS ops AN b (p :: er)) (Sx:=fun _=>True) ho (Region.noSelect_spec h1) (fun c a w hp=>absurd hp (k c _ w)) (fun _ _ _ _ _=>trivial)
  (fun i w' hs _=>(TS.set (.inr Z')).1 hs) (fun i w' hs=>(TS.set (.inr Z')).2 hs) n L a w (n0R r) (Region.free_spec ho l) g (v:=undef) (.inr ⟨hw,rfl⟩) d hk
section
variable {E:Env}{ops:Array Oper}{Q:Exit->Act->World->Prop}{as:List Act}
def u0P:∀{n lo:Nat} {L:Array Bool},d03 L n lo=none->∀q,lo<=q->q<lo+n->U4 L q=false
 |0,lo,L,_,q,h1,b=>O'
 |n+1,lo,L,h,q,h1,b=>by
  simp only[d03]at h;split at h
  ·cases h
  ·by_cases e:q=lo
   ·simp_all
   ·exact u0P h q O' O'
theorem v0C:∀{n lo p:Nat} {L:Array Bool},d03 L n lo=some p->lo<=p/\p<lo+n/\U4 L p=true
 |0,lo,p,L,h=>by grind [d03]
 |n+1,lo,p,L,h=>by
  simp only[d03]at h;split at h
  ·simp_all
  ·obtain⟨h1,c,b⟩:=v0C h
   grind
def m0y:∀(n lo:Nat) (L:Array Bool),(d0a L n lo).size=L.size
 |0,lo,L=>rfl
 |n+1,lo,L=>by simp[d0a,m0y]
theorem o0T:∀(n lo q:Nat) (L:Array Bool),(d0a L n lo).getD q true=(decide (lo<=q/\q<lo+n)||L.getD q true)
 |0,lo,q,L=>by
  have:¬(lo<=q/\q<lo+0):=O'
  rw[decide_eq_false this,Bool.false_or];rfl
 |n+1,lo,q,L=>by
  rw[d0a,o0T n (lo+1) q]
  by_cases e:lo=q
  ·simp_all
  ·rw[getD_set_ne true e]
   grind
def s0z {L b:Array Bool}(h1:L.size=b.size)(c:∀q,L.getD q true=b.getD q true):L=b:=by
 apply Array.ext h1;intro i hi d;have:=c i
 simp_all
def w0C {L:Array Bool}{q:Nat}:U4 L q=!L.getD q true:=rfl
theorem r0u:∀{n lo q:Nat} {o:Oper},lo<=q->q<lo+n->ops[q]?=some o->c08 o=true->q∈c0U ops n lo
 |0,lo,q,o,h1,c,_,_=>O'
 |n+1,lo,q,o,h1,c,ho,hl=>by
  have d:q<ops.size:=(Array.getElem?_eq_some_iff.1 ho).1;have b:ops[lo]?=some (ops[lo]' O'):=Z'
  simp only[c0U,b]
  by_cases e:q=lo
  ·simp_all
  ·have:=r0u (n:=n) (lo:=lo+1) O' O' ho hl
   grind
theorem s0M:∀{n lo q:Nat},q∈c0U ops n lo->lo<=q/\q<lo+n/\∃o,ops[q]?=some o/\c08 o=true
 |0,lo,q,h=>by grind [c0U]
 |n+1,lo,q,h=>by
  simp only[c0U]at h;split at h
  ·have up:q∈c0U ops n (lo+1)->lo<=q/\q<lo+(n+1)/\∃o,ops[q]?=some o/\c08 o=true:=fun h=>by
    obtain⟨h1,b,c⟩:=s0M h
    grind
   grind
  grind
theorem F0r {s:St E.D}{o:Oper}(h:k9 E s o=true):c08 o=true:=by
 grind [k9,c08]
def n07 {L:Array Bool}{p:Nat}(h1:p<ops.size)(b:U4 L p=true):0<M9 ops L:=Nat.lt_of_lt_of_le (Nat.succ_pos _) (f0i h1 b)
theorem w0y {s:St E.D}{o:Oper}{q:Nat}(h:l9 E s o=some q):F0 s q≠.gone:=by
 unfold l9 at h;unfold rdP at h
 grind
def InR (ops:Array Oper)(lo hi:Nat)(q:Nat):Prop:=lo<=q/\q<hi/\∃o,ops[q]?=some o/\c08 o=true
def MO (HA:Nat->Value->Prop)(o:Nat×Option Nat)(p:I7):Prop:=o.1=p.i/\∀q,o.2=some q->∃u,p.v=some u/\HA q u
def MO.mono {HA b:Nat->Value->Prop}(h:∀i u,HA i u->b i u){o:Nat×Option Nat}{p:I7}(hm:MO HA o p):MO b o p:=⟨hm.1,fun q c=>by
 obtain⟨u,h1,d⟩:=hm.2 q c
 simp_all⟩
theorem MO.back {HA b:Nat->Value->Prop}(h:∀i u,HA i u->b i u){g:Nat->Value}(hp:∀i u,b i u->g i=u){o:Nat×Option Nat}{p:I7}(hw:∀q,o.2=some q->∃u,HA q u)(hm:MO b o p):MO HA o p:=⟨hm.1,fun q c=>by
 obtain⟨u,h1,d⟩:=hm.2 q c
 grind⟩
def u0K {n lo q:Nat}{o:Oper}(h1:lo<=q)(b:q<lo+n)(ho:ops[q]?=some o)(hl:c08 o=true):(q,none)∈l0n ops n lo:=mem_map.2 ⟨q,r0u h1 b ho hl,rfl⟩
def s0u {n lo:Nat}{o:Nat×Option Nat}(h:o∈l0n ops n lo):lo<=o.1/\o.1<lo+n/\∃x,ops[o.1]?=some x/\c08 x=true:=by
 obtain⟨q,h1,rfl⟩:=mem_map.1 h;exact s0M h1
structure DK (E:Env)(ops:Array Oper)(Q:Exit->Act->World->Prop)(A:E4)(as:List Act)(AN:I0->D0->Prop)(HA:Nat->Value->Prop)(owns:List (Nat×Option Nat))(lo hi:Nat)(s:St E.D)(L:Array Bool)(s':St E.D)(AN':I0->D0->Prop)(HA':Nat->Value->Prop)(AO':List I7)(er':List Nat)(ρ':Nat->Value)(S':D0)(a':Act)(w':World)(L':Array Bool)(n':Nat):Prop where
 rp:Rp E (A.with AN' HA') s' ρ' S' a' as w'
 ext:Ext s s'
 ts:TS ops AN' AO' er' L' w'
 an:∀H S,AN H S->AN' H S
 ha:∀i u,HA i u->HA' i u
 ao:∀p∈AO',(∃o∈owns,MO HA o p)\/InR ops lo hi p.i
 er:∀m∈er',U4 L' m=false
 M9:M9 ops L'<=n'
 size:L'.size=ops.size
 all:∀q,lo<=q->q<hi->U4 L' q=false
 out:∀q,(q<lo\/hi<=q)->L'.getD q true=L.getD q true
def u06 {α:Type}{r:α}:∀{l:List (Option α)},k0R l=some r->∀x∈l,x=some r
 |[],h=>by cases h
 |[a],h=>by intro x c;simp at c;subst c;exact h
 |a :: b :: l,h=>by
  obtain⟨h1,d⟩:=p0q (show same a (k0R (b :: l))=some r from h);intro x c;rcases mem_cons.1 c with rfl|c
  ·exact h1
  ·exact u06 d x c
theorem n0W {A:E4}{s:St E.D}{ρ:Nat->Value}{S:D0}{a:Act}{w:World}(h:Rp E A s ρ S a as w){d:Nat}{b:Bool}:∀{l:List Nat},g01 E s ops l=some (d,b)->a.tmps.getD d undef=.bool b
 |[],hl=>by cases hl
 |p :: l,hl=>by
  simp only[g01]at hl;split at hl
  ·split at hl
   ·grind [f0y]
   ·exact n0W h hl
  ·exact n0W h hl
theorem H0P {D:Nat->Type}{s s1:St D}{q:Nat}(h:p0j s s1=false)(b:q<s.nid):W6 s s1 q=false:=by
 grind [p0j,W6,Nat.beq_eq,blt_eq]
theorem q06 {A:E4}{s:St E.D}{ρ:Nat->Value}{S:D0}{a:Act}{w:World}(hE:T1 E){C:J3 E}{inl:Inl E}(hi:e0G E inl)(hs:d0j E C){R:Type}{rec:Array Bool->St E.D->Option R}{p:Nat}{L:Array Bool}{owns:List (Nat×Option Nat)}{o:Oper}{r:R}{AN:I0->D0->Prop}{HA:Nat->Value->Prop}{i:List I7}{er:List Nat}{K:Act->World->Prop}
  (hk:opV E C inl s o (fun s' v=>match owns.all (k0P ops (e0s E C s o) s s' p)with|true=>rec (L.setIfInBounds p true) (s'.put o.dst v)|false=>none)=some r) (h:Rp E (A.with AN HA) s ρ S a as w) (ho:ops[p]?=some o) (f:b03 s.n o=true) (c3:f0o o=false) (J:U4 L p=true) (hw:Region.wanted o (yielded ops a.tmps)=true)
  (y:TS ops AN i er L w) (U:∀p∈i,∃o∈owns,MO HA o p) (c5:∀m∈er,U4 L m=false)
  (l:∀s1 ρ1 S1 a1 w1,rec (L.setIfInBounds p true) s1=some r->Rp E (A.with AN HA) s1 ρ1 S1 a1 as w1->Ext s s1->TS ops AN i er (L.setIfInBounds p true) w1->K a1 w1):
  wpList E.P ops (Exit.then (fun a' w'=>TS ops AN i er (L.setIfInBounds p true) w'/\K a' w') Q) [o] a w:=by
 have b5:d0D ops p=true:=by simp_all[d0D]
 have b4:p∉er:=fun hm=>by simp_all
 have c4:L.getD p false=false:=by
  simp_all[l0X]
 have c0:(L.setIfInBounds p true).getD p false=true:=by
  have:=(Array.getElem?_eq_some_iff.1 (l0X.1 J)).1
  simp_all
 unfold wpList;rw[if_pos hw];refine .inl (t0B hE hi hs hk h fun s1 v u ρ1 S1 w1 d h1 hv he c8 hold=>?_);split at d<;>try cases d
 rename_i b;have c:TS ops AN i er (L.setIfInBounds p true) w1:=by
  refine⟨fun H2 S2 ha=>⟨S1,h1.kp H2 S2 ha⟩,fun q hq hm k t j=>?_⟩;obtain⟨ow,z,g⟩:=U q hq;have b:=List.all_eq_true.1 b ow z;unfold k0P at b;rw[Bool.or_eq_true]at b;rcases b with b|b
  ·rw[g.1]at b
   simp_all
  ·rw[and_eq_true,Bool.or_eq_true,not_eq_true']at b;have h5:=y.ao q hq (fun m e1 e2 e3=>by
    by_cases c6:p=m
    ·simp_all
    ·have:=hm m e1 e2 e3
     simp_all) k t j
   have b3:k<w.heap.size:=by
    grind
   refine(hold b.1 k b3 (fun id e1 e0 e2 hb=>?_)).trans h5;rcases b.2 with hc|hc
   ·simp_all[H0P]
   ·split at hc<;>try cases hc
    rename_i q0 b2;rw[and_eq_true,not_eq_true']at hc;obtain⟨u0,I,b1⟩:=g.2 q0 b2;obtain⟨_,x⟩:=h.hp q0 u0 b1;refine h.dj id q0 (fun e=>?_) e0 hc.2 k hb (Bk.hd (by rw[x];exact j u0 I))
    simp_all
 exact s0o c (l _ ρ1 S1 (a.put o.dst u) w1 d (h1.f0c f he.n hv) (he.trans (Ext.put s1 o.dst v)) c)
def F0d {a:Act}{w:World}{P:Program}{S:Array Bool->World->Prop}{L:Array Bool}{fuel:Nat}(e:Region.ready .any ops L≠[])
  (h:∀i∈Region.ready .any ops L,∃o,ops[i]?=some o/\wpList P ops (Exit.then (fun c w'=>S (L.setIfInBounds i true) w'/\wpS P ops Q S fuel (L.setIfInBounds i true) c w') Q) [o] a w):wpS P ops Q S (fuel+1) L a w:=by
 refine⟨fun d=>absurd d e,fun j b=>?_⟩;obtain⟨o,ho,hw⟩:=h j b;exact q0V ho hw
theorem c05 (hE:T1 E){C:J3 E}{inl:Inl E}(hi:e0G E inl)(hs:d0j E C)(hQ:NoP Q):∀(f:Nat) (R:Type) (cs:List (Nat×Nat×Cut)) (lo hi:Nat) (L:Array Bool) (owns:List (Nat×Option Nat)) (s:St E.D) (k:St E.D->Option R) (r:R),
  U5 E C inl ops f cs lo hi L owns s k=some r->L.size=ops.size->∀(A:E4) (AN:I0->D0->Prop) (HA:Nat->Value->Prop) (AO:List I7) (er:List Nat) (ρ:Nat->Value) (S:D0) (a:Act) (w:World) (n:Nat),
  Rp E (A.with AN HA) s ρ S a as w->TS ops AN AO er L w->(∀p∈AO,∃o∈owns,MO HA o p)->(∀o∈owns,∀q,o.2=some q->∃u,HA q u)->(∀m∈er,U4 L m=false)->M9 ops L<=n->
  (∀s' y b2 z J ρ' S' a' w' L' n',k s'=some r->DK E ops Q A as AN HA owns lo hi s L s' y b2 z J ρ' S' a' w' L' n'->wpS E.P ops Q (TS ops y z J) n' L' a' w')->
  wpS E.P ops Q (TS ops AN AO er) n L a w
 |0,R,cs,lo,hi,L,owns,s,k,r,hk,c4=>by grind [U5]
 |f+1,R,cs,lo,hi',L,owns,s,k,r,hk,c4=>by
  intro A AN HA AO er ρ S a w n h b3 c6 c0 e5 hn hK;simp only[U5]at hk;split at hk
  ·rename_i hu;have j1:∀q,lo<=q->q<hi'->U4 L q=false:=fun q h1 h2=>u0P hu q h1 O';exact hK s AN HA AO er ρ S a w L n hk ⟨h,Ext.refl s,b3,fun _ _ h=>h,fun _ _ h=>h,fun p hp=>.inl (c6 p hp),e5,hn,c4,j1,fun _ _=>rfl⟩
  ·rename_i p0 hu;obtain⟨u1,u2,u3⟩:=v0C hu;have ask:∀{d:Nat} {b:Bool},a.tmps.getD d undef=.bool b->(if b then U5 E C inl ops f cs lo hi' L owns (s.put (some d) (.kb true)) k else U5 E C inl ops f cs lo hi' L owns (s.put (some d) (.kb false)) k)=some r->wpS E.P ops Q (TS ops AN AO er) n L a w:=by
    intro d b hb hk;have:U5 E C inl ops f cs lo hi' L owns (s.put (some d) (.kb b)) k=some r:=by grind
    exact c05 hE hi hs hQ f R cs lo hi' L owns _ k r this c4 A AN HA AO er ρ S a w n (h.m0r (by simp_all[VS.kb])) b3 c6 c0 e5 hn fun s' y b2 z J ρ' S' a' w' L' n' b4 dk=>
     hK s' y b2 z J ρ' S' a' w' L' n' b4 ⟨dk.rp,(Ext.put s (some d) _).trans dk.ext,dk.ts,dk.an,dk.ha,dk.ao,dk.er,dk.M9,dk.size,dk.all,dk.out⟩
   split at hk
   ·rename_i p hp;split at hk<;>try cases hk
    rename_i o ho;split at hk<;>try cases hk
    rename_i n0;rw[and_eq_true]at n0;obtain⟨b1,n2⟩:=n0;have e9:p∈Region.ready .any ops L:=List.mem_of_find?_eq_some hp;have n4:=List.find?_some hp;simp only[and_eq_true,ble_eq,blt_eq,ho]at n4;obtain⟨⟨⟨l1,k8⟩,_⟩,p5⟩:=n4;obtain⟨U,c8⟩:=h06 e9;have hc:=f0i (ops:=ops) c8 U;obtain⟨m,rfl⟩:∃m,n=m+1:=⟨n-1,O'⟩
    have b5:∀q,(q<lo\/hi'<=q)->(L.setIfInBounds p true).getD q true=L.getD q true:=fun q l=>getD_set_ne true O';have c5:∀m∈er,U4 (L.setIfInBounds p true) m=false:=fun m hm=>by simp_all[c0L]
    obtain⟨g1,g2,g3⟩:=f0y h (ops:=ops) (o:=o);have step:∀{sB:St E.D} {ρB:Nat->Value} {v:V E.D} {u:Value},Rp E (A.with AN HA) sB ρB S a as w->Ext s sB->(∀q,l9 E s o=some q->q<sB.nid/\hd (ρB q)=hd (ρ q))->a09 E s ops o=.yes->VS E ρB sB.nid w.heap S v u->(∀w',O6 E s S w (e0Q E s ρ o) w'->(execOp a.eval o).run E.P w'=.ok (.value u) w')->
      U5 E C inl ops f cs lo hi' (L.setIfInBounds p true) (match k9 E s o with|true=>(p,l9 E s o) :: owns|false=>owns) (sB.put o.dst v) k=some r->wpS E.P ops Q (TS ops AN AO er) (m+1) L a w:=by
     intro sB ρB v u hB n1 o0 hg hv n3 hk;have b1:b03 sB.n o=true:=by rw[n1.n];omega
     have o1:f0o o=true:=by
      simp_all[k0a]
     have j2:d0D ops p=false:=by unfold d0D;rw[ho];simp[o1]
     refine B0p (B:=e0Q E s ρ o) (ov:=if k9 E s o then some ((l9 E s o).map fun q=>hd (ρ q))else none) (fun k hk=>?_) hQ ho n2 e9 j2 (g1 hg) n3 b3 ?_
     ·rw[if_pos hk.1];refine⟨_,rfl,fun x hx=>?_⟩;obtain⟨q,l,rfl⟩:=Option.map_eq_some_iff.1 hx;exact hk.2 q l
     have h2:=(hB.anc (AN:=fun H1 S1=>AN H1 S1\/(H1=w.heap/\S1=S)) (HA:=fun i x=>HA i x\/(l9 E s o=some i/\x=hd (ρ i))) (fun H1 S1 ha=>by
      rcases ha with ha|⟨rfl,rfl⟩
      ·exact h.kp H1 S1 ha
      ·exact P0.refl _ _) (fun i x hx=>by
      rcases hx with hx|⟨h1,rfl⟩
      ·exact hB.hp i x hx
      ·exact o0 i h1))
     refine c05 hE hi hs hQ f R cs lo hi' _ _ _ k r hk (by simp[c4]) A _ _ _ er ρB S _ w m (h2.f0c b1 rfl hv) ?_ ?_ ?_ c5 O' fun s' y b2 z J ρ' S' a' w' L' n' b4 dk=>?_
     ·refine(TS.set (.inl j2)).2 ⟨fun H1 S1 ha=>?_,fun q l=>?_⟩
      ·rcases ha with ha|⟨rfl,rfl⟩
       ·exact b3.an H1 S1 ha
       ·exact⟨S1,P0.refl _ _⟩
      ·rcases p0A l with l|⟨v,_,rfl⟩
       ·exact b3.ao q l
       ·exact fun _ k _ _=>rfl
     ·intro q l;rcases p0A l with l|⟨v,e1,rfl⟩
      ·obtain⟨o',h5,h6⟩:=c6 q l;refine⟨o',?_,h6.mono fun _ _ h=>.inl h⟩;cases k9 E s o<;>simp[h5]
      ·cases I:k9 E s o with
       |false=>rw[I]at e1;simp at e1
       |true=>
        rw[I]at e1;simp only[if_true,Option.some.injEq]at e1;refine⟨(p,l9 E s o),Z',rfl,fun q l=>⟨hd (ρ q),?_,.inr ⟨l,rfl⟩⟩⟩;have l:l9 E s o=some q:=l;show v=_;rw[<-e1,l];rfl
     ·intro o' c3 q l;cases I:k9 E s o with
      |false=>
       rw[I]at c3;obtain⟨u,hu⟩:=c0 o' c3 q l;exact⟨u,.inl hu⟩
      |true=>
       rw[I]at c3;rcases mem_cons.1 c3 with rfl|c3
       ·exact⟨_,.inr ⟨l,rfl⟩⟩
       ·obtain⟨u,hu⟩:=c0 o' c3 q l;exact⟨u,.inl hu⟩
     ·refine hK s' y b2 z J ρ' S' a' w' L' n' b4 ⟨dk.rp,n1.trans ((Ext.put sB o.dst v).trans dk.ext),dk.ts,fun H1 S1 ha=>dk.an H1 S1 (.inl ha),fun i x hx=>dk.ha i x (.inl hx),fun q l=>?_,dk.er,dk.M9,dk.size,dk.all,fun q l=>(dk.out q l).trans (b5 q l)⟩;have back:∀{o'},o'∈owns->MO _ o' q->MO HA o' q:=fun h8 h9=>h9.back (fun _ _ h=>.inl h) (g:=fun i=>hd (ρB i)) (fun i x hx=>(h2.hp i x hx).2) (c0 _ h8);rcases dk.ao q l with⟨o',h3,h4⟩|h3
      ·cases I:k9 E s o with
       |false=>rw[I]at h3;exact .inl ⟨o',h3,back h3 h4⟩
       |true=>
        rw[I]at h3;rcases mem_cons.1 h3 with e|h3
        ·subst e;have e:=h4.1;simp only at e;rw[<-e];exact .inr ⟨l1,k8,o,ho,F0r I⟩
        ·exact .inl ⟨o',h3,back h3 h4⟩
      ·exact .inr h3
    have l:=n0V hE h o;split at hk
    ·cases hk
    ·rename_i hg;split at hk
     ·split at hk<;>try cases hk
      rename_i q i g hb;obtain⟨⟨e1,e2⟩,u,ρ1,h1,_,h3,h4⟩:=s01 h hb;refine step h1 (Ext.new s _) (fun q l=>by rw[e2]at l;cases l) hg h3 (fun w' hw=>h4 w' (hw.b0a fun k _=>⟨e1,fun q l=>by rw[e2]at l;cases l⟩)) ?_;rw[e1,e2];exact hk
     ·rename_i v hv;rw[hv]at l;obtain⟨u,h1,h2⟩:=l;exact step h (Ext.refl s) (fun q l=>⟨h.i7 (w0y l),rfl⟩) hg h1 h2 hk
     ·rename_i b v hv;rw[hv]at l;split at hk<;>try cases hk
      rename_i hb;obtain⟨u,h1,h2⟩:=l hb;exact step h (Ext.refl s) (fun q l=>⟨h.i7 (w0y l),rfl⟩) hg h1 h2 hk
    ·rename_i hg;refine G04 hQ ho n2 e9 (g2 hg) b3 ?_;refine c05 hE hi hs hQ f R cs lo hi' _ _ _ k r hk (by simp[c4]) A AN HA AO (p :: er) ρ S _ w m (h.f0c b1 rfl VS.unit) ((TS.set (.inr Z')).2 ⟨b3.an,fun q l hm=>b3.ao q l fun j e1 e2 e3=>?_⟩) c6 c0 ?_ O' fun s' y b2 z J ρ' S' a' w' L' n' b4 dk=>?_
     ·by_cases hj:j=p
      ·subst hj;rw[l0X]at U;rw[Array.getD_eq_getD_getElem?,U];rfl
      ·exact hm j e1 e2 (by simp[hj,e3])
     ·intro q l;rcases mem_cons.1 l with rfl|l
      ·rw[c0L];simp
      ·exact c5 q l
     ·exact hK s' y b2 z J ρ' S' a' w' L' n' b4 ⟨dk.rp,(Ext.put s o.dst _).trans dk.ext,dk.ts,dk.an,dk.ha,dk.ao,dk.er,dk.M9,dk.size,dk.all,fun q l=>(dk.out q l).trans (b5 q l)⟩
    grind
   ·split at hk
    ·rename_i b c r' o2;split at hk<;>try cases hk
     rename_i hb;simp only[and_eq_true,ble_eq,blt_eq]at hb;obtain⟨⟨p4,p2⟩,p1⟩:=hb;obtain⟨d,hd,hk⟩:=a0c hk;refine c05 hE hi hs hQ f _ _ p0 (b+1) L owns s _ d hd c4 A AN HA AO er ρ S a w n h b3 c6 c0 e5 hn fun s' y b2 z J ρ' S' a' w' L' n' j3 dk=>?_;obtain⟨u,ρ1,S1,h1,h2,h3,_⟩:=d0N (A:=A.with y HA) hE (fun i u ha=>(h.hp i u ha).1) h (dk.rp.anc (AN:=y) (HA:=HA) (fun H1 S1 ha=>dk.rp.kp H1 S1 ha) (fun i u ha=>dk.rp.hp i u (dk.ha i u ha))) dk.ext j3 hk;have l4:L'=d0a L (b+1-p0) p0:=by
      refine s0z (by rw[dk.size,m0y,c4]) fun q=>?_;rw[o0T]
      by_cases hr:p0<=q/\q<p0+(b+1-p0)
      ·rw[decide_eq_true hr,Bool.true_or];have:=dk.all q hr.1 O';rw[w0C]at this;simpa using this
      ·rw[decide_eq_false hr,Bool.false_or];exact dk.out q O'
     rw[<-l4]at h1;refine c05 hE hi hs hQ f R _ lo hi' L' _ u _ r h1 dk.size A y HA z J ρ1 S1 a' w' n' h2 dk.ts ?_ ?_ dk.er dk.M9 fun j0 e7 i1 h7 h0 ρ'' k4 k5 k6 l3 k3 b4 t=>?_
     ·intro q l;rcases dk.ao q l with⟨o',h4,h5⟩|⟨h4,h5,o,ho,hl⟩
      ·exact⟨o',List.mem_append_right _ h4,h5⟩
      ·exact⟨_,List.mem_append_left _ (u0K h4 O' ho hl),rfl,fun q0 l2=>by cases l2⟩
     ·intro o' c3 q l;rcases mem_append.1 c3 with h5|h5
      ·obtain⟨_,_,rfl⟩:=mem_map.1 h5;cases l
      ·exact c0 o' h5 q l
     ·refine hK j0 e7 i1 h7 h0 ρ'' k4 k5 k6 l3 k3 b4 ⟨t.rp,h3.trans t.ext,t.ts,fun H1 S1 ha=>t.an H1 S1 (dk.an H1 S1 ha),fun i x hx=>t.ha i x hx,fun q l=>?_,t.er,t.M9,t.size,t.all,fun q l=>(t.out q l).trans (dk.out q O')⟩;rcases t.ao q l with⟨o',h4,h6⟩|h4
      ·rcases mem_append.1 h4 with h5|h5
       ·obtain⟨e1,e2,e3⟩:=s0u h5;rw[h6.1]at e1 e2 e3;exact .inr ⟨O',O',e3⟩
       ·exact .inl ⟨o',h5,h6⟩
      ·exact .inr h4
    ·split at hk
     ·rename_i p hr;split at hk<;>try cases hk
      rename_i o ho;split at hk<;>try cases hk
      rename_i hb;simp only[and_eq_true,ble_eq,blt_eq,not_eq_true']at hb;obtain⟨⟨⟨b1,l1⟩,k8⟩,k0⟩:=hb;obtain⟨U,c8⟩:=h06 (L:=L) (ops:=ops) (p:=p) (by rw[hr];simp);obtain⟨g1,g2,g3⟩:=f0y h (ops:=ops) (o:=o);split at hk
      ·rename_i hg;have hc:=f0i (ops:=ops) c8 U;obtain⟨m,rfl⟩:∃m,n=m+1:=⟨n-1,by have:=n07 (ops:=ops) c8 U;omega⟩
       have b5:∀q,(q<lo\/hi'<=q)->(L.setIfInBounds p true).getD q true=L.getD q true:=fun q l=>getD_set_ne true O';have c5:∀m∈er,U4 (L.setIfInBounds p true) m=false:=fun m hm=>by rw[c0L,e5 m hm];rfl
       refine w0f hr ho (q06 (rec:=fun L' s'=>U5 E C inl ops f cs lo hi' L' owns s' k) hE hi hs hk h ho b1 k0 U (g1 hg) b3 c6 e5 fun s1 ρ1 S1 a1 w1 k1 h1 he e6=>?_);exact c05 hE hi hs hQ f R cs lo hi' (L.setIfInBounds p true) owns _ k r k1 (by simp[c4]) A AN HA AO er ρ1 S1 a1 w1 m h1 e6 c6 c0 c5 O' fun s' y b2 z J ρ' S' a' w' L' n' b4 dk=>
        hK s' y b2 z J ρ' S' a' w' L' n' b4 ⟨dk.rp,he.trans dk.ext,dk.ts,dk.an,dk.ha,dk.ao,dk.er,dk.M9,dk.size,dk.all,fun q l=>(dk.out q l).trans (b5 q l)⟩
      ·rename_i d b hg;exact ask (g3 d b hg) hk
      ·cases hk
     ·split at hk
      ·rename_i d b hl;exact ask (n0W h hl) hk
      ·split at hk<;>try cases hk
       rename_i c i0 l0 p3 hr;obtain⟨d,hd,hk⟩:=a0c hk;have j1:=u06 hd;obtain⟨m,rfl⟩:∃m,n=m+1:=⟨n-1,by
        obtain⟨U,c8⟩:=h06 (L:=L) (ops:=ops) (p:=i0) (by rw[hr];simp);have:=n07 (ops:=ops) c8 U;omega⟩
       refine F0d (by rw[hr];simp) fun p hp=>?_;obtain⟨U,c8⟩:=h06 hp;have e4:=j1 _ (mem_map.2 ⟨p,hp,rfl⟩);unfold r0l at e4;split at e4<;>try cases e4
       rename_i o ho;split at e4<;>try cases e4
       rename_i hb;simp only[and_eq_true,ble_eq,blt_eq,not_eq_true']at hb;obtain⟨⟨⟨b1,l1⟩,k8⟩,k0⟩:=hb;obtain⟨g1,g2,g3⟩:=f0y h (ops:=ops) (o:=o);split at e4<;>try cases e4
       rename_i hg;refine⟨o,ho,?_⟩;have hc:=f0i (ops:=ops) c8 U;have b5:∀q,(q<p0\/hi'<=q)->(L.setIfInBounds p true).getD q true=L.getD q true:=fun q l=>getD_set_ne true O';have c5:∀m∈er,U4 (L.setIfInBounds p true) m=false:=fun m hm=>by rw[c0L,e5 m hm];rfl
       refine q06 (rec:=fun L' s'=>U5 E C inl ops f cs p0 hi' L' owns s' fun j0=>b0E E s j0 c) hE hi hs e4 h ho b1 k0 U (g1 hg) b3 c6 e5 fun s1 ρ1 S1 a1 w1 k1 h1 he e6=>?_;refine c05 hE hi hs hQ f _ cs p0 hi' (L.setIfInBounds p true) owns _ _ d k1 (by simp[c4]) A AN HA AO er ρ1 S1 a1 w1 m h1 e6 c6 c0 c5 O' fun s' y b2 z J ρ' S' a' w' L' n' j3 dk=>?_;obtain⟨u,ρ2,S2,q1,q2,q3,_⟩:=d0N (A:=A.with y HA) hE (fun i u ha=>(h.hp i u ha).1) h (dk.rp.anc (AN:=y) (HA:=HA) (fun H1 S1 ha=>dk.rp.kp H1 S1 ha) (fun i u ha=>dk.rp.hp i u (dk.ha i u ha))) (he.trans dk.ext) j3 hk;have l4:L'=d0a L (hi'-p0) p0:=by
        refine s0z (by rw[dk.size,m0y,c4]) fun q=>?_;rw[o0T]
        by_cases k2:p0<=q/\q<p0+(hi'-p0)
        ·rw[decide_eq_true k2,Bool.true_or];have:=dk.all q k2.1 O';rw[w0C]at this;simpa using this
        ·rw[decide_eq_false k2,Bool.false_or];exact(dk.out q O').trans (b5 q O')
       rw[<-l4]at q1;refine c05 hE hi hs hQ f R _ lo hi' L' _ u _ r q1 dk.size A y HA z J ρ2 S2 a' w' n' q2 dk.ts ?_ ?_ dk.er dk.M9 fun j0 e7 i1 h7 h0 ρ'' k4 k5 k6 l3 k3 b4 t=>?_
       ·intro q l;rcases dk.ao q l with⟨o',h4,h5⟩|⟨h4,h5,o,ho,hl⟩
        ·exact⟨o',List.mem_append_right _ h4,h5⟩
        ·exact⟨_,List.mem_append_left _ (u0K h4 O' ho hl),rfl,fun q0 l2=>by cases l2⟩
       ·intro o' c3 q l;rcases mem_append.1 c3 with h5|h5
        ·obtain⟨_,_,rfl⟩:=mem_map.1 h5;cases l
        ·exact c0 o' h5 q l
       ·refine hK j0 e7 i1 h7 h0 ρ'' k4 k5 k6 l3 k3 b4 ⟨t.rp,q3.trans t.ext,t.ts,fun H1 S1 ha=>t.an H1 S1 (dk.an H1 S1 ha),fun i x hx=>t.ha i x hx,fun q l=>?_,t.er,t.M9,t.size,t.all,fun q l=>(t.out q l).trans ((dk.out q O').trans (b5 q O'))⟩;rcases t.ao q l with⟨o',h4,h6⟩|h4
        ·rcases mem_append.1 h4 with h5|h5
         ·obtain⟨e1,e2,e3⟩:=s0u h5;rw[h6.1]at e1 e2 e3;exact .inr ⟨O',O',e3⟩
         ·exact .inl ⟨o',h5,h6⟩
        ·exact .inr h4
theorem y0F (d:T1 E){C:J3 E}(hs:d0j E C):w0c E C:=by
 intro inl hi R cs id ops s k r hk A ρ S a as w h Q l j;refine wp_region_any d.mix (p0J (S:=TS ops A.anc [] []) _ _ _ _ ?_);have b:M9 ops (Array.replicate ops.size false)<=ops.size:=by
  grind [M9]
 refine c05 d hi hs l 100000 R cs 0 ops.size _ [] s k r hk Z' A A.anc A.hda [] [] ρ S a _ _ ⟨⟨⟨h.cx.bel.1,h.cx.bel.2,h.cx.bel.3,h.cx.bel.4,h.cx.bel.5⟩,h.cx.sub,h.cx.lt,h.cx.lt0⟩,h.fr,h.stk,h.th,h.ow,h.dj,h.lt,h.rf,h.kp,h.hp⟩ ⟨fun H1 S1 ha=>⟨S,h.kp H1 S1 ha⟩,Z'⟩ Z' Z' Z' b fun g i e m o ρ' f n w' q t c dk=>?_;exact o03 (C0z fun p hp=>dk.all p (Nat.zero_le _) hp) (j g ρ' f n w' c (dk.rp.D0B dk.an dk.ha) dk.ext)
end
end
