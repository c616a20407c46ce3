/- Regions that draw their order: sound. Its conditions: none. -/
import Derived.Test.YtdficaoajalfaaaGreatAX11
open Nat (lt_or_ge blt_eq ble_eq)
open List (mem_cons mem_map mem_append)
open Bool (and_eq_true or_eq_true not_eq_true')
set_option linter.all false
namespace Go.X
open Go.V Go.RowKit
section
variable {E:Env} {ops:Array Oper} {Q:Exit->Act->World->Prop}
def d0g (ops:Array Oper) (m:Nat):Bool:=match ops[m]? with
 |some o=>!g0d o
 |none=>false
structure L7 where
 h:K0
 i:Nat
 v:Option Value
def L7.has (p:L7) (k:Nat):Prop:=∀ u,p.v=some u->D1 u=some k
structure TS (ops:Array Oper) (AN:K0->D0->Prop) (AO:List L7) (er:List Nat) (L:Array Bool) (w:World):Prop where
 an:∀ H1 S1,AN H1 S1->∃ S',U0 H1 S1 w.heap S'
 ao:∀ p∈AO,(∀ m,d0g ops m=true->e0g ops m p.i=true->m∉er->L.getD m false=false)->∀ k,k<p.h.size->p.has k->w.heap[k]?=p.h[k]?
theorem o0p {S S':Array Bool->World->Prop} (h:∀ L w,S L w->S' L w):∀ (n:Nat) (L:Array Bool) (a:Act) (w:World),wpS E.P ops Q S n L a w->wpS E.P ops Q S' n L a w
 |0,L,a,w,hw=>hw
 |n+1,L,a,w,hw=>⟨hw.1,fun i hi=>wpOp_mono (fun a' w' k=>⟨h _ _ k.1,o0p h n _ a' w' k.2⟩) (hw.2 i hi)⟩
theorem TS.mono {AN AN':K0->D0->Prop} {AO AO':List L7} {er:List Nat} (h1:∀ H S,AN H S->AN' H S) (h2:∀ p∈AO,p∈AO') {L:Array Bool} {w:World} (h:TS ops AN' AO' er L w):TS ops AN AO er L w:=
 ⟨fun H S ha=>h.an H S (h1 H S ha),fun p hp=>h.ao p (h2 p hp)⟩
theorem TS.er {AN:K0->D0->Prop} {AO:List L7} {er:List Nat} {q:Nat} {L:Array Bool} {w:World} (h:TS ops AN AO (q :: er) L w):TS ops AN AO er L w:=
 ⟨h.an,fun p hp hm=>h.ao p hp fun m h1 h2 h3=>hm m h1 h2 (fun h4=>h3 (List.mem_cons_of_mem _ h4))⟩
theorem TS.set {AN:K0->D0->Prop} {AO:List L7} {er:List Nat} {i:Nat} (hi:d0g ops i=false\/i∈er) {L:Array Bool} {w:World}:TS ops AN AO er (L.setIfInBounds i true) w↔TS ops AN AO er L w:=by
 have key:∀ m,d0g ops m=true->m∉er->(L.setIfInBounds i true).getD m false=L.getD m false:=fun m h1 h2=>by
  have:i≠m:=by
   rintro rfl
   rcases hi with hi | hi
   ·rw [hi] at h1;cases h1
   ·exact h2 hi
  exact getD_set_ne false this
 constructor
 ·exact fun h=>⟨h.an,fun p hp hm=>h.ao p hp fun m h1 h2 h3=>by rw [key m h1 h3];exact hm m h1 h2 h3⟩
 ·exact fun h=>⟨h.an,fun p hp hm=>h.ao p hp fun m h1 h2 h3=>by rw [<-key m h1 h3];exact hm m h1 h2 h3⟩
def j9 (ops:Array Oper) (L:Array Bool):Nat:=((List.range ops.size).filter fun p=>B5 L p).length
theorem c0N {L:Array Bool} {p q:Nat}:B5 (L.setIfInBounds p true) q=(B5 L q&&!decide (p=q)):=by
 unfold B5
 by_cases h:p=q
 ·subst h;simp only [decide_true,Bool.not_true,Bool.and_false,Array.getD_eq_getD_getElem?];rcases lt_or_ge p L.size with h1 | h1
  ·simp [h1]
  ·simp [Array.getElem?_eq_none,h1]
 ·rw [getD_set_ne true h];simp [h]
theorem i0x {L:Array Bool} {p:Nat} (h1:p<ops.size) (h2:B5 L p=true):j9 ops (L.setIfInBounds p true)+1<=j9 ops L:=by
 have:∀ l:List Nat,p∈l->(l.filter fun q=>B5 (L.setIfInBounds p true) q).length+1<=(l.filter fun q=>B5 L q).length:=by
  intro l
  induction l with
  |nil=>intro h;cases h
  |
   cons x l ih=>
   have hle:∀ l:List Nat,(l.filter fun q=>B5 (L.setIfInBounds p true) q).length<=(l.filter fun q=>B5 L q).length:=by
    intro l;have e:(l.filter fun q=>B5 (L.setIfInBounds p true) q)=(l.filter fun q=>B5 L q).filter fun q=>!decide (p=q):=by
     rw [List.filter_filter];congr 1;funext q;rw [c0N,Bool.and_comm]
    rw [e];exact List.length_filter_le _ _
   intro hm
   by_cases hx:p=x
   ·subst hx;have:=hle l;simp only [List.filter_cons,c0N,h2,decide_true,Bool.not_true,Bool.and_false,Bool.true_and,Bool.false_eq_true,if_false,if_true,List.length_cons];simp only [c0N] at this;omega
   ·have hm:p∈l:=by
     rcases mem_cons.1 hm with h | h
     ·exact absurd h hx
     ·exact h
    have:=ih hm;simp only [c0N] at this;simp only [List.filter_cons,c0N,hx,decide_false,Bool.not_false,Bool.and_true];cases B5 L x<;>simp<;>omega
 exact this _ (List.mem_range.2 h1)
theorem n0t {L:Array Bool} {p:Nat}:B5 L p=true↔L[p]?=some false:=by
 unfold B5;rw [Array.getD_eq_getD_getElem?];cases h:L[p]? with
 |none=>simp
 |some b=>cases b<;>simp
theorem g0y {L:Array Bool} {p:Nat} (h:p∈Region.ready .any ops L):B5 L p=true/\p<ops.size:=by
 obtain ⟨h1,o,ho,_⟩:=mem_ready.1 h;exact ⟨by unfold B5;rw [h1];rfl,(Array.getElem?_eq_some_iff.1 ho).1⟩
theorem F0w {L:Array Bool} (h:∀ p,p<ops.size->B5 L p=false):Region.ready .any ops L=[]:=by
 cases hr:Region.ready .any ops L with
 |nil=>rfl
 |
  cons p l=>
  have:=g0y (p:=p) (ops:=ops) (L:=L) (by rw [hr];simp);rw [h p this.2] at this;exact absurd this.1 (by simp)
variable {A:O4} {s:St E.D} {ρ:Nat->Value} {S:D0} {a:Act} {as:List Act} {w:World}
def O4.with (A:O4) (AN:K0->D0->Prop) (HA:Nat->Value->Prop):O4:={ A with anc:=AN,hda:=HA }
theorem Rp.anc {AN1:K0->D0->Prop} {HA1:Nat->Value->Prop} (h:Rp E (A.with AN1 HA1) s ρ S a as w) {AN:K0->D0->Prop} {HA:Nat->Value->Prop} (hk:∀ H1 S1,AN H1 S1->U0 H1 S1 w.heap S) (hh:∀ i u,HA i u->i<s.nid/\hd (ρ i)=u):Rp E (A.with AN HA) s ρ S a as w:=
 ⟨h.cx,h.fr,h.stk,h.th,h.ow,h.dj,h.lt,h.rf,hk,hh⟩
theorem Rp.w0T {AN:K0->D0->Prop} {HA:Nat->Value->Prop} (h:Rp E (A.with AN HA) s ρ S a as w) (hk:∀ H1 S1,A.anc H1 S1->AN H1 S1) (hh:∀ i u,A.hda i u->HA i u):Rp E A s ρ S a as w:=
 ⟨h.cx,h.fr,h.stk,h.th,h.ow,h.dj,h.lt,h.rf,fun H1 S1 ha=>h.kp H1 S1 (hk H1 S1 ha),fun i u ha=>h.hp i u (hh i u ha)⟩
def e0F (H:K0) (p:Nat) (ov:Option (Option Value)) (AO:List L7):List L7:=match ov with
 |some v=>⟨H,p,v⟩ :: AO
 |none=>AO
theorem z0v {H:K0} {p:Nat} {ov:Option (Option Value)} {AO:List L7} {q:L7} (h:q∈AO):q∈e0F H p ov AO:=by
 cases ov with
 |none=>exact h
 |some v=>exact List.mem_cons_of_mem _ h
theorem k0T {H:K0} {p:Nat} {ov:Option (Option Value)} {AO:List L7} {q:L7} (h:q∈e0F H p ov AO):q∈AO\/∃ v,ov=some v/\q=⟨H,p,v⟩:=by
 cases ov with
 |none=>exact .inl h
 |
  some v=>
  rcases mem_cons.1 h with rfl | h
  ·exact .inr ⟨v,rfl,rfl⟩
  ·exact .inl h
theorem B0z {AN:K0->D0->Prop} {AO:List L7} {er:List Nat} {n p:Nat} {L:Array Bool} {o:Oper} {u:Value} {B:Nat->Prop} {ov:Option (Option Value)} (hB:∀ k,B k->∃ v,ov=some v/\∀ x,v=some x->D1 x=some k) (hQ:NoP Q) (ho:ops[p]?=some o) (hok:okQ ops L p=true) (hr:p∈Region.ready .any ops L) (he:d0g ops p=false)
  (hw:Region.wanted o (yielded ops a.tmps)=true) (hrun:∀ w',K8 E s S w B w'->(execOp a.eval o).run E.P w'=.ok (.value u) w') (hts:TS ops AN AO er L w)
  (hk:wpS E.P ops Q (TS ops (fun H1 S1=>AN H1 S1\/(H1=w.heap/\S1=S)) (e0F w.heap p ov AO) er) n (L.setIfInBounds p true) (a.put o.dst u) w):wpS E.P ops Q (TS ops AN AO er) (n+1) L a w:=by
 simp only [okQ,and_eq_true] at hok;obtain ⟨⟨h1,h2⟩,h3⟩:=hok;have hts2:TS ops (fun H1 S1=>AN H1 S1\/(H1=w.heap/\S1=S)) (e0F w.heap p ov AO) er L w:=by
  refine ⟨fun H1 S1 ha=>?_,fun q hq=>?_⟩
  ·rcases ha with ha | ⟨rfl,rfl⟩
   ·exact hts.an H1 S1 ha
   ·exact ⟨S1,U0.refl _ _⟩
  ·rcases k0T hq with hq | ⟨v,_,rfl⟩
   ·exact hts.ao q hq
   ·exact fun _ k _ _=>rfl
 refine o0p (S:=TS ops (fun H1 S1=>AN H1 S1\/(H1=w.heap/\S1=S)) (e0F w.heap p ov AO) er) (fun L w h=>h.mono (fun _ _ h=>.inl h) (fun q hq=>z0v hq)) _ _ _ _ ?_;refine m0r (S:=TS ops (fun H1 S1=>AN H1 S1\/(H1=w.heap/\S1=S)) (e0F w.heap p ov AO) er) (Sx:=fun w'=>K8 E s S w B w') ho (Region.noSelect_spec h1) (fun c a w hp=>absurd hp (hQ c _ w)) (fun L' w' hc hu hs=>⟨?_,fun k hk hkl=>?_⟩)
  (fun L' w' hs _=>(TS.set (.inl he)).1 hs) (fun L' w' hs=>(TS.set (.inl he)).2 hs) n L a w (n0I h3) (Region.free_spec ho h2) hr (.inl ⟨hw,fun w' hw'=>hrun w' hw'⟩) hts2 hk
 ·exact hs.an w.heap S (.inr ⟨rfl,rfl⟩)
 ·obtain ⟨v,e1,e2⟩:=hB k hk;subst e1;exact hs.ao ⟨w.heap,p,v⟩ (by simp [e0F]) (fun m _ h2 _=>t0n hc h2 hu) k hkl e2
theorem x0s {AN:K0->D0->Prop} {AO:List L7} {er:List Nat} {n p:Nat} {L:Array Bool} {o:Oper} (hQ:NoP Q) (ho:ops[p]?=some o) (hok:okQ ops L p=true) (hr:p∈Region.ready .any ops L)
  (hw:Region.wanted o (yielded ops a.tmps)=false) (hts:TS ops AN AO er L w)
  (hk:wpS E.P ops Q (TS ops AN AO (p :: er)) n (L.setIfInBounds p true) (a.put o.dst undef) w):wpS E.P ops Q (TS ops AN AO er) (n+1) L a w:=by
 simp only [okQ,and_eq_true] at hok;obtain ⟨⟨h1,h2⟩,h3⟩:=hok;have hun:=(mem_ready.1 hr).1;have hpl:L.getD p false=false:=by
  rw [Array.getD_eq_getD_getElem?] at hun ⊢;cases h:L[p]? with
  |none=>rfl
  |some b=>rw [h] at hun;simpa using hun
 have hts2:TS ops AN AO (p :: er) L w:=⟨hts.an,fun q hq hm=>hts.ao q hq fun m e1 e2 e3=>by
  by_cases hmp:m=p
  ·subst hmp;exact hpl
  ·exact hm m e1 e2 (by simp [hmp,e3])⟩
 refine o0p (S:=TS ops AN AO (p :: er)) (fun L w h=>h.er) _ _ _ _ ?_;exact m0r (S:=TS ops AN AO (p :: er)) (Sx:=fun _=>True) ho (Region.noSelect_spec h1) (fun c a w hp=>absurd hp (hQ c _ w)) (fun _ _ _ _ _=>trivial)
  (fun L' w' hs _=>(TS.set (.inr (by simp))).1 hs) (fun L' w' hs=>(TS.set (.inr (by simp))).2 hs) n L a w (n0I h3) (Region.free_spec ho h2) hr (v:=undef) (.inr ⟨hw,rfl⟩) hts2 hk
section
variable {E:Env} {ops:Array Oper} {Q:Exit->Act->World->Prop} {as:List Act}
theorem p0U:∀ {n lo:Nat} {L:Array Bool},d08 L n lo=none->∀ q,lo<=q->q<lo+n->B5 L q=false
 |0,lo,L,_,q,h1,h2=>by omega
 |
  n+1,lo,L,h,q,h1,h2=>by
  simp only [d08] at h;split at h
  ·cases h
  ·rename_i hu
   by_cases e:q=lo
   ·subst e;exact hu
   ·exact p0U h q (by omega) (by omega)
theorem q0E:∀ {n lo p:Nat} {L:Array Bool},d08 L n lo=some p->lo<=p/\p<lo+n/\B5 L p=true
 |0,lo,p,L,h=>by simp [d08] at h
 |
  n+1,lo,p,L,h=>by
  simp only [d08] at h;split at h
  ·rename_i hu;simp at h;subst h;exact ⟨Nat.le_refl _,by omega,hu⟩
  ·obtain ⟨h1,h2,h3⟩:=q0E h;exact ⟨by omega,by omega,h3⟩
theorem m0z:∀ (n lo:Nat) (L:Array Bool),(c0r L n lo).size=L.size
 |0,lo,L=>rfl
 |n+1,lo,L=>by rw [c0r,m0z n (lo+1)];simp
theorem m0m:∀ (n lo q:Nat) (L:Array Bool),(c0r L n lo).getD q true=(decide (lo<=q/\q<lo+n)||L.getD q true)
 |
  0,lo,q,L=>by
  have:¬ (lo<=q/\q<lo+0):=by omega
  rw [decide_eq_false this,Bool.false_or];rfl
 |
  n+1,lo,q,L=>by
  rw [c0r,m0m n (lo+1) q]
  by_cases e:lo=q
  ·subst e;have h1:lo<=lo/\lo<lo+(n+1):=by omega
   rw [decide_eq_true h1,Bool.true_or];have:(L.setIfInBounds lo true).getD lo true=true:=by
    rw [Array.getD_eq_getD_getElem?];rcases lt_or_ge lo L.size with h | h
    ·simp [h]
    ·simp [Array.getElem?_eq_none,h]
   rw [this,Bool.or_true]
  ·rw [getD_set_ne true e];congr 1;apply decide_eq_decide.2;omega
theorem u0W {L L':Array Bool} (h1:L.size=L'.size) (h2:∀ q,L.getD q true=L'.getD q true):L=L':=by
 apply Array.ext h1;intro i hi hi';have:=h2 i;simpa [Array.getD_eq_getD_getElem?,hi,hi'] using this
theorem q0u {L:Array Bool} {q:Nat}:B5 L q=!L.getD q true:=rfl
theorem t0f:∀ {n lo q:Nat} {o:Oper},lo<=q->q<lo+n->ops[q]?=some o->c0U o=true->q∈c0o ops n lo
 |0,lo,q,o,h1,h2,_,_=>by omega
 |
  n+1,lo,q,o,h1,h2,ho,hl=>by
  have hq:q<ops.size:=(Array.getElem?_eq_some_iff.1 ho).1;have hlo:ops[lo]?=some (ops[lo]'(by omega)):=by simp
  simp only [c0o,hlo]
  by_cases e:q=lo
  ·subst e;rw [hlo] at ho;simp at ho;rw [ho,hl];exact List.mem_cons_self
  ·have:=t0f (n:=n) (lo:=lo+1) (by omega) (by omega) ho hl;split
   ·exact List.mem_cons_of_mem _ this
   ·exact this
theorem r0I:∀ {n lo q:Nat},q∈c0o ops n lo->lo<=q/\q<lo+n/\∃ o,ops[q]?=some o/\c0U o=true
 |0,lo,q,h=>by simp [c0o] at h
 |
  n+1,lo,q,h=>by
  simp only [c0o] at h;split at h
  ·rename_i o ho;have up:q∈c0o ops n (lo+1)->lo<=q/\q<lo+(n+1)/\∃ o,ops[q]?=some o/\c0U o=true:=fun h=>by
    obtain ⟨h1,h2,h3⟩:=r0I h;exact ⟨by omega,by omega,h3⟩
   split at h
   ·rename_i hl;rcases mem_cons.1 h with rfl | h
    ·exact ⟨by omega,by omega,o,ho,hl⟩
    ·exact up h
   ·exact up h
  ·cases h
theorem F0h {s:St E.D} {o:Oper} (h:A9 E s o=true):c0U o=true:=by
 unfold A9 at h;unfold c0U;cases ho:o.op<;>rw [ho] at h<;>simp_all
theorem l0h {L:Array Bool} {p:Nat} (h1:p<ops.size) (h2:B5 L p=true):0<j9 ops L:=Nat.lt_of_lt_of_le (Nat.succ_pos _) (i0x h1 h2)
theorem s0J {s:St E.D} {o:Oper} {q:Nat} (h:D9 E s o=some q):E0 s q≠.gone:=by
 unfold D9 at h;split at h<;>try cases h
 unfold rdP at h;split at h<;>try cases h
 all_goals
  split at h<;>try cases h
  rename_i hl;rw [hl];simp
def InR (ops:Array Oper) (lo hi:Nat) (q:Nat):Prop:=lo<=q/\q<hi/\∃ o,ops[q]?=some o/\c0U o=true
def MO (HA:Nat->Value->Prop) (o:Nat×Option Nat) (p:L7):Prop:=o.1=p.i/\∀ q,o.2=some q->∃ u,p.v=some u/\HA q u
theorem MO.mono {HA HA':Nat->Value->Prop} (h:∀ i u,HA i u->HA' i u) {o:Nat×Option Nat} {p:L7} (hm:MO HA o p):MO HA' o p:=⟨hm.1,fun q hq=>by
 obtain ⟨u,h1,h2⟩:=hm.2 q hq;exact ⟨u,h1,h _ _ h2⟩⟩
theorem MO.back {HA HA':Nat->Value->Prop} (h:∀ i u,HA i u->HA' i u) {g:Nat->Value} (hp:∀ i u,HA' i u->g i=u) {o:Nat×Option Nat} {p:L7} (hw:∀ q,o.2=some q->∃ u,HA q u) (hm:MO HA' o p):MO HA o p:=⟨hm.1,fun q hq=>by
 obtain ⟨u,h1,h2⟩:=hm.2 q hq;obtain ⟨u',h3⟩:=hw q hq;have:u=u':=(hp q u h2).symm.trans (hp q u' (h q u' h3));subst this;exact ⟨u,h1,h3⟩⟩
theorem q0m {n lo q:Nat} {o:Oper} (h1:lo<=q) (h2:q<lo+n) (ho:ops[q]?=some o) (hl:c0U o=true):(q,none)∈i0t ops n lo:=mem_map.2 ⟨q,t0f h1 h2 ho hl,rfl⟩
theorem s07 {n lo:Nat} {o:Nat×Option Nat} (h:o∈i0t ops n lo):lo<=o.1/\o.1<lo+n/\∃ x,ops[o.1]?=some x/\c0U x=true:=by
 obtain ⟨q,h1,rfl⟩:=mem_map.1 h;exact r0I h1
structure DK (E:Env) (ops:Array Oper) (Q:Exit->Act->World->Prop) (A:O4) (as:List Act) (AN:K0->D0->Prop) (HA:Nat->Value->Prop) (owns:List (Nat×Option Nat)) (lo hi:Nat) (s:St E.D) (L:Array Bool) (s':St E.D) (AN':K0->D0->Prop) (HA':Nat->Value->Prop) (AO':List L7) (er':List Nat) (ρ':Nat->Value) (S':D0) (a':Act) (w':World) (L':Array Bool) (n':Nat):Prop where
 rp:Rp E (A.with AN' HA') s' ρ' S' a' as w'
 ext:Ext s s'
 ts:TS ops AN' AO' er' L' w'
 an:∀ H S,AN H S->AN' H S
 ha:∀ i u,HA i u->HA' i u
 ao:∀ p∈AO',(∃ o∈owns,MO HA o p)\/InR ops lo hi p.i
 er:∀ m∈er',B5 L' m=false
 j9:j9 ops L'<=n'
 size:L'.size=ops.size
 all:∀ q,lo<=q->q<hi->B5 L' q=false
 out:∀ q,(q<lo\/hi<=q)->L'.getD q true=L.getD q true
theorem u0V {α:Type} {r:α}:∀ {l:List (Option α)},j0k l=some r->∀ x∈l,x=some r
 |[],h=>by cases h
 |[a],h=>by intro x hx;simp at hx;subst hx;exact h
 |
  a :: b :: l,h=>by
  obtain ⟨h1,h2⟩:=o00 (show same a (j0k (b :: l))=some r from h);intro x hx;rcases mem_cons.1 hx with rfl | hx
  ·exact h1
  ·exact u0V h2 x hx
theorem m0Z {A:O4} {s:St E.D} {ρ:Nat->Value} {S:D0} {a:Act} {w:World} (h:Rp E A s ρ S a as w) {d:Nat} {b:Bool}:∀ {l:List Nat},g0S E s ops l=some (d,b)->a.tmps.getD d undef=.bool b
 |[],hl=>by cases hl
 |
  p :: l,hl=>by
  simp only [g0S] at hl;split at hl
  ·rename_i o ho;split at hl
   ·rename_i hg;cases hl;exact (f0W h (ops:=ops) (o:=o)).2.2 _ _ hg
   ·exact m0Z h hl
  ·exact m0Z h hl
theorem v0H {D:Nat->Type} {s s1:St D} {q:Nat} (h:n0T s s1=false) (hq:q<s.nid):Z6 s s1 q=false:=by
 unfold n0T at h;unfold Z6;rw [List.any_eq_false] at h ⊢;intro p hp e;rw [Nat.beq_eq] at e;subst e;exact h p hp (by rw [blt_eq];exact hq)
theorem p0w {A:O4} {s:St E.D} {ρ:Nat->Value} {S:D0} {a:Act} {w:World} (hE:Q1 E) {C:D4 E} {inl:Inl E} (hi:e0v E inl) (hs:d0x E C) {R:Type} {rec:Array Bool->St E.D->Option R} {p:Nat} {L:Array Bool} {owns:List (Nat×Option Nat)} {o:Oper} {r:R} {AN:K0->D0->Prop} {HA:Nat->Value->Prop} {AO:List L7} {er:List Nat} {K:Act->World->Prop}
  (hk:opV E C inl s o (fun s' v=>match owns.all (k0D ops (e0V E C s o) s s' p) with | true=>rec (L.setIfInBounds p true) (s'.put o.dst v) | false=>none)=some r) (h:Rp E (A.with AN HA) s ρ S a as w) (ho:ops[p]?=some o) (hdst:b0M s.n o=true) (hnk:g0d o=false) (hun:B5 L p=true) (hw:Region.wanted o (yielded ops a.tmps)=true)
  (hts:TS ops AN AO er L w) (hao:∀ p∈AO,∃ o∈owns,MO HA o p) (her:∀ m∈er,B5 L m=false)
  (hrec:∀ s1 ρ1 S1 a1 w1,rec (L.setIfInBounds p true) s1=some r->Rp E (A.with AN HA) s1 ρ1 S1 a1 as w1->Ext s s1->TS ops AN AO er (L.setIfInBounds p true) w1->K a1 w1) :
  wpList E.P ops (Exit.then (fun a' w'=>TS ops AN AO er (L.setIfInBounds p true) w'/\K a' w') Q) [o] a w:=by
 have heff:d0g ops p=true:=by unfold d0g;rw [ho];simp [hnk]
 have hper:p∉er:=fun hm=>by rw [her p hm] at hun;cases hun
 have hLp:L.getD p false=false:=by
  rw [Array.getD_eq_getD_getElem?,n0t.1 hun];rfl
 have hSp:(L.setIfInBounds p true).getD p false=true:=by
  have:=(Array.getElem?_eq_some_iff.1 (n0t.1 hun)).1;rw [Array.getD_eq_getD_getElem?];simp [this]
 unfold wpList;rw [if_pos hw];refine .inl (t0z hE hi hs hk h fun s1 v u ρ1 S1 w1 hk1 h1 hv he hfr hold=>?_);split at hk1<;>try cases hk1
 rename_i hcond;have hts1:TS ops AN AO er (L.setIfInBounds p true) w1:=by
  refine ⟨fun H2 S2 ha=>⟨S1,h1.kp H2 S2 ha⟩,fun q hq hm k hks hqk=>?_⟩;obtain ⟨ow,how,hmo⟩:=hao q hq;have hcond:=List.all_eq_true.1 hcond ow how;unfold k0D at hcond;rw [or_eq_true] at hcond;rcases hcond with hcond | hcond
  ·rw [hmo.1] at hcond;have:=hm p heff hcond hper;rw [hSp] at this;cases this
  ·rw [and_eq_true,or_eq_true,not_eq_true'] at hcond;have h5:=hts.ao q hq (fun m e1 e2 e3=>by
    by_cases hmp:p=m
    ·subst hmp;exact hLp
    ·have:=hm m e1 e2 e3
     rwa [getD_set_ne false hmp] at this) k hks hqk
   have hk2:k<w.heap.size:=by
    rcases lt_or_ge k w.heap.size with h6 | h6
    ·exact h6
    ·rw [Array.getElem?_eq_none h6] at h5;simp [hks] at h5
   refine (hold hcond.1 k hk2 (fun id e1 e0 e2 hb=>?_)).trans h5;rcases hcond.2 with hc | hc
   ·rw [v0H hc e1] at e2;cases e2
   ·split at hc<;>try cases hc
    rename_i q0 hq0;rw [and_eq_true,not_eq_true'] at hc;obtain ⟨u0,hv0,ha0⟩:=hmo.2 q0 hq0;obtain ⟨_,hhd⟩:=h.hp q0 u0 ha0;refine h.dj id q0 (fun e=>?_) e0 hc.2 k hb (Bk.hd (by rw [hhd];exact hqk u0 hv0));subst e;rw [hc.1] at e2;cases e2
 exact s0M hts1 (hrec _ ρ1 S1 (a.put o.dst u) w1 hk1 (h1.d0K hdst he.n hv) (he.trans (Ext.put s1 o.dst v)) hts1)
theorem F0c {a:Act} {w:World} {P:Program} {S:Array Bool->World->Prop} {L:Array Bool} {fuel:Nat} (hr:Region.ready .any ops L≠[])
  (h:∀ i∈Region.ready .any ops L,∃ o,ops[i]?=some o/\wpList P ops (Exit.then (fun a' w'=>S (L.setIfInBounds i true) w'/\wpS P ops Q S fuel (L.setIfInBounds i true) a' w') Q) [o] a w):wpS P ops Q S (fuel+1) L a w:=by
 refine ⟨fun h0=>absurd h0 hr,fun j hj=>?_⟩;obtain ⟨o,ho,hw⟩:=h j hj;exact r0G ho hw
theorem c0I (hE:Q1 E) {C:D4 E} {inl:Inl E} (hi:e0v E inl) (hs:d0x E C) (hQ:NoP Q):∀ (f:Nat) (R:Type) (cs:List (Nat×Nat×Cut)) (lo hi:Nat) (L:Array Bool) (owns:List (Nat×Option Nat)) (s:St E.D) (k:St E.D->Option R) (r:R),
  E6 E C inl ops f cs lo hi L owns s k=some r->L.size=ops.size->∀ (A:O4) (AN:K0->D0->Prop) (HA:Nat->Value->Prop) (AO:List L7) (er:List Nat) (ρ:Nat->Value) (S:D0) (a:Act) (w:World) (n:Nat),
  Rp E (A.with AN HA) s ρ S a as w->TS ops AN AO er L w->(∀ p∈AO,∃ o∈owns,MO HA o p)->(∀ o∈owns,∀ q,o.2=some q->∃ u,HA q u)->(∀ m∈er,B5 L m=false)->j9 ops L<=n->
  (∀ s' AN' HA' AO' er' ρ' S' a' w' L' n',k s'=some r->DK E ops Q A as AN HA owns lo hi s L s' AN' HA' AO' er' ρ' S' a' w' L' n'->wpS E.P ops Q (TS ops AN' AO' er') n' L' a' w')->
  wpS E.P ops Q (TS ops AN AO er) n L a w
 |0,R,cs,lo,hi,L,owns,s,k,r,hk,hsz=>by simp [E6] at hk
 |
  f+1,R,cs,lo,hi',L,owns,s,k,r,hk,hsz=>by
  intro A AN HA AO er ρ S a w n h hts hao how her hn hK;simp only [E6] at hk;split at hk
  ·rename_i hu;have hall:∀ q,lo<=q->q<hi'->B5 L q=false:=fun q h1 h2=>p0U hu q h1 (by omega);exact hK s AN HA AO er ρ S a w L n hk ⟨h,Ext.refl s,hts,fun _ _ h=>h,fun _ _ h=>h,fun p hp=>.inl (hao p hp),her,hn,hsz,hall,fun _ _=>rfl⟩
  ·rename_i p0 hu;obtain ⟨u1,u2,u3⟩:=q0E hu;have ask:∀ {d:Nat} {b:Bool},a.tmps.getD d undef=.bool b->(if b then E6 E C inl ops f cs lo hi' L owns (s.put (some d) (.kb true)) k else E6 E C inl ops f cs lo hi' L owns (s.put (some d) (.kb false)) k)=some r->wpS E.P ops Q (TS ops AN AO er) n L a w:=by
    intro d b hb hk;have:E6 E C inl ops f cs lo hi' L owns (s.put (some d) (.kb b)) k=some r:=by cases b<;>exact hk
    exact c0I hE hi hs hQ f R cs lo hi' L owns _ k r this hsz A AN HA AO er ρ S a w n (h.o0y (by rw [hb];exact VS.kb)) hts hao how her hn fun s' AN' HA' AO' er' ρ' S' a' w' L' n' hk' dk=>
     hK s' AN' HA' AO' er' ρ' S' a' w' L' n' hk' ⟨dk.rp,(Ext.put s (some d) _).trans dk.ext,dk.ts,dk.an,dk.ha,dk.ao,dk.er,dk.j9,dk.size,dk.all,dk.out⟩
   split at hk
   ·rename_i p hp;split at hk<;>try cases hk
    rename_i o ho;split at hk<;>try cases hk
    rename_i hdo;rw [and_eq_true] at hdo;obtain ⟨hdst,hok⟩:=hdo;have hmem:p∈Region.ready .any ops L:=List.mem_of_find?_eq_some hp;have hpp:=List.find?_some hp;simp only [and_eq_true,ble_eq,blt_eq,ho] at hpp;obtain ⟨⟨⟨hp1,hp2⟩,_⟩,hp3⟩:=hpp;obtain ⟨hun,hps⟩:=g0y hmem;have hc:=i0x (ops:=ops) hps hun;obtain ⟨m,rfl⟩:∃ m,n=m+1:=⟨n-1,by have:=l0h (ops:=ops) hps hun;omega⟩
    have hout:∀ q,(q<lo\/hi'<=q)->(L.setIfInBounds p true).getD q true=L.getD q true:=fun q hq=>getD_set_ne true (by omega);have herS:∀ m∈er,B5 (L.setIfInBounds p true) m=false:=fun m hm=>by rw [c0N,her m hm];rfl
    obtain ⟨g1,g2,g3⟩:=f0W h (ops:=ops) (o:=o);have step:∀ {sB:St E.D} {ρB:Nat->Value} {v:V E.D} {u:Value},Rp E (A.with AN HA) sB ρB S a as w->Ext s sB->(∀ q,D9 E s o=some q->q<sB.nid/\hd (ρB q)=hd (ρ q))->a0E E s ops o=.yes->VS E ρB sB.nid w.heap S v u->(∀ w',K8 E s S w (d06 E s ρ o) w'->(execOp a.eval o).run E.P w'=.ok (.value u) w')->
      E6 E C inl ops f cs lo hi' (L.setIfInBounds p true) (match A9 E s o with | true=>(p,D9 E s o) :: owns | false=>owns) (sB.put o.dst v) k=some r->wpS E.P ops Q (TS ops AN AO er) (m+1) L a w:=by
     intro sB ρB v u hB heB hrq hg hv hrun hk;have hdst:b0M sB.n o=true:=by rw [heB.n];exact hdst
     have hkq:g0d o=true:=by
      simp only [or_eq_true] at hp3;rcases hp3 with h | h
      ·exact h
      ·unfold j05 at h;rw [hg] at h;cases h
     have heff:d0g ops p=false:=by unfold d0g;rw [ho];simp [hkq]
     refine B0z (B:=d06 E s ρ o) (ov:=if A9 E s o then some ((D9 E s o).map fun q=>hd (ρ q)) else none) (fun k hk=>?_) hQ ho hok hmem heff (g1 hg) hrun hts ?_
     ·rw [if_pos hk.1];refine ⟨_,rfl,fun x hx=>?_⟩;obtain ⟨q,hq,rfl⟩:=Option.map_eq_some_iff.1 hx;exact hk.2 q hq
     have h2:=(hB.anc (AN:=fun H1 S1=>AN H1 S1\/(H1=w.heap/\S1=S)) (HA:=fun i x=>HA i x\/(D9 E s o=some i/\x=hd (ρ i))) (fun H1 S1 ha=>by
      rcases ha with ha | ⟨rfl,rfl⟩
      ·exact h.kp H1 S1 ha
      ·exact U0.refl _ _) (fun i x hx=>by
      rcases hx with hx | ⟨h1,rfl⟩
      ·exact hB.hp i x hx
      ·exact hrq i h1))
     refine c0I hE hi hs hQ f R cs lo hi' _ _ _ k r hk (by simp [hsz]) A _ _ _ er ρB S _ w m (h2.d0K hdst rfl hv) ?_ ?_ ?_ herS (by omega) fun s' AN' HA' AO' er' ρ' S' a' w' L' n' hk' dk=>?_
     ·refine (TS.set (.inl heff)).2 ⟨fun H1 S1 ha=>?_,fun q hq=>?_⟩
      ·rcases ha with ha | ⟨rfl,rfl⟩
       ·exact hts.an H1 S1 ha
       ·exact ⟨S1,U0.refl _ _⟩
      ·rcases k0T hq with hq | ⟨v,_,rfl⟩
       ·exact hts.ao q hq
       ·exact fun _ k _ _=>rfl
     ·intro q hq;rcases k0T hq with hq | ⟨v,e1,rfl⟩
      ·obtain ⟨o',h5,h6⟩:=hao q hq;refine ⟨o',?_,h6.mono fun _ _ h=>.inl h⟩;cases A9 E s o<;>simp [h5]
      ·cases hown:A9 E s o with
       |false=>rw [hown] at e1;simp at e1
       |
        true=>
        rw [hown] at e1;simp only [if_true,Option.some.injEq] at e1;refine ⟨(p,D9 E s o),by simp,rfl,fun q hq=>⟨hd (ρ q),?_,.inr ⟨hq,rfl⟩⟩⟩;have hq:D9 E s o=some q:=hq;show v=_;rw [<-e1,hq];rfl
     ·intro o' ho' q hq;cases hown:A9 E s o with
      |
       false=>
       rw [hown] at ho';obtain ⟨u,hu⟩:=how o' ho' q hq;exact ⟨u,.inl hu⟩
      |
       true=>
       rw [hown] at ho';rcases mem_cons.1 ho' with rfl | ho'
       ·exact ⟨_,.inr ⟨hq,rfl⟩⟩
       ·obtain ⟨u,hu⟩:=how o' ho' q hq;exact ⟨u,.inl hu⟩
     ·refine hK s' AN' HA' AO' er' ρ' S' a' w' L' n' hk' ⟨dk.rp,heB.trans ((Ext.put sB o.dst v).trans dk.ext),dk.ts,fun H1 S1 ha=>dk.an H1 S1 (.inl ha),fun i x hx=>dk.ha i x (.inl hx),fun q hq=>?_,dk.er,dk.j9,dk.size,dk.all,fun q hq=>(dk.out q hq).trans (hout q hq)⟩;have back:∀ {o'},o'∈owns->MO _ o' q->MO HA o' q:=fun h8 h9=>h9.back (fun _ _ h=>.inl h) (g:=fun i=>hd (ρB i)) (fun i x hx=>(h2.hp i x hx).2) (how _ h8);rcases dk.ao q hq with ⟨o',h3,h4⟩ | h3
      ·cases hown:A9 E s o with
       |false=>rw [hown] at h3;exact .inl ⟨o',h3,back h3 h4⟩
       |
        true=>
        rw [hown] at h3;rcases mem_cons.1 h3 with e | h3
        ·subst e;have e:=h4.1;simp only at e;rw [<-e];exact .inr ⟨hp1,hp2,o,ho,F0h hown⟩
        ·exact .inl ⟨o',h3,back h3 h4⟩
      ·exact .inr h3
    have hq:=n00 hE h o;split at hk
    ·cases hk
    ·rename_i hg;split at hk
     ·split at hk<;>try cases hk
      rename_i q i g hb;obtain ⟨⟨e1,e2⟩,u,ρ1,h1,_,h3,h4⟩:=t0V h hb;refine step h1 (Ext.new s _) (fun q hq=>by rw [e2] at hq;cases hq) hg h3 (fun w' hw=>h4 w' (hw.e0z fun k _=>⟨e1,fun q hq=>by rw [e2] at hq;cases hq⟩)) ?_;rw [e1,e2];exact hk
     ·rename_i v hv;rw [hv] at hq;obtain ⟨u,h1,h2⟩:=hq;exact step h (Ext.refl s) (fun q hq=>⟨h.F7 (s0J hq),rfl⟩) hg h1 h2 hk
     ·rename_i b v hv;rw [hv] at hq;split at hk<;>try cases hk
      rename_i hb;obtain ⟨u,h1,h2⟩:=hq hb;exact step h (Ext.refl s) (fun q hq=>⟨h.F7 (s0J hq),rfl⟩) hg h1 h2 hk
    ·rename_i hg;refine x0s hQ ho hok hmem (g2 hg) hts ?_;refine c0I hE hi hs hQ f R cs lo hi' _ _ _ k r hk (by simp [hsz]) A AN HA AO (p :: er) ρ S _ w m (h.d0K hdst rfl VS.unit) ((TS.set (.inr (by simp))).2 ⟨hts.an,fun q hq hm=>hts.ao q hq fun j e1 e2 e3=>?_⟩) hao how ?_ (by omega) fun s' AN' HA' AO' er' ρ' S' a' w' L' n' hk' dk=>?_
     ·by_cases hj:j=p
      ·subst hj;rw [n0t] at hun;rw [Array.getD_eq_getD_getElem?,hun];rfl
      ·exact hm j e1 e2 (by simp [hj,e3])
     ·intro q hq;rcases mem_cons.1 hq with rfl | hq
      ·rw [c0N];simp
      ·exact herS q hq
     ·exact hK s' AN' HA' AO' er' ρ' S' a' w' L' n' hk' ⟨dk.rp,(Ext.put s o.dst _).trans dk.ext,dk.ts,dk.an,dk.ha,dk.ao,dk.er,dk.j9,dk.size,dk.all,fun q hq=>(dk.out q hq).trans (hout q hq)⟩
    ·rename_i d b hg;exact ask (g3 d b hg) hk
   ·split at hk
    ·rename_i b c r' hcut;split at hk<;>try cases hk
     rename_i hb;simp only [and_eq_true,ble_eq,blt_eq] at hb;obtain ⟨⟨hb1,hb2⟩,hb3⟩:=hb;obtain ⟨d,hd,hk⟩:=b0Z hk;refine c0I hE hi hs hQ f _ _ p0 (b+1) L owns s _ d hd hsz A AN HA AO er ρ S a w n h hts hao how her hn fun s' AN' HA' AO' er' ρ' S' a' w' L' n' hp' dk=>?_;obtain ⟨u,ρ1,S1,h1,h2,h3,_⟩:=e0t (A:=A.with AN' HA) hE (fun i u ha=>(h.hp i u ha).1) h (dk.rp.anc (AN:=AN') (HA:=HA) (fun H1 S1 ha=>dk.rp.kp H1 S1 ha) (fun i u ha=>dk.rp.hp i u (dk.ha i u ha))) dk.ext hp' hk;have hLL:L'=c0r L (b+1-p0) p0:=by
      refine u0W (by rw [dk.size,m0z,hsz]) fun q=>?_;rw [m0m]
      by_cases hr:p0<=q/\q<p0+(b+1-p0)
      ·rw [decide_eq_true hr,Bool.true_or];have:=dk.all q hr.1 (by omega);rw [q0u] at this;simpa using this
      ·rw [decide_eq_false hr,Bool.false_or];exact dk.out q (by omega)
     rw [<-hLL] at h1;refine c0I hE hi hs hQ f R _ lo hi' L' _ u _ r h1 dk.size A AN' HA AO' er' ρ1 S1 a' w' n' h2 dk.ts ?_ ?_ dk.er dk.j9 fun s'' AN'' HA'' AO'' er'' ρ'' S'' a'' w'' L'' n'' hk' dk'=>?_
     ·intro q hq;rcases dk.ao q hq with ⟨o',h4,h5⟩ | ⟨h4,h5,o,ho,hl⟩
      ·exact ⟨o',List.mem_append_right _ h4,h5⟩
      ·exact ⟨_,List.mem_append_left _ (q0m h4 (by omega) ho hl),rfl,fun q0 hq0=>by cases hq0⟩
     ·intro o' ho' q hq;rcases mem_append.1 ho' with h5 | h5
      ·obtain ⟨_,_,rfl⟩:=mem_map.1 h5;cases hq
      ·exact how o' h5 q hq
     ·refine hK s'' AN'' HA'' AO'' er'' ρ'' S'' a'' w'' L'' n'' hk' ⟨dk'.rp,h3.trans dk'.ext,dk'.ts,fun H1 S1 ha=>dk'.an H1 S1 (dk.an H1 S1 ha),fun i x hx=>dk'.ha i x hx,fun q hq=>?_,dk'.er,dk'.j9,dk'.size,dk'.all,fun q hq=>(dk'.out q hq).trans (dk.out q (by omega))⟩;rcases dk'.ao q hq with ⟨o',h4,h6⟩ | h4
      ·rcases mem_append.1 h4 with h5 | h5
       ·obtain ⟨e1,e2,e3⟩:=s07 h5;rw [h6.1] at e1 e2 e3;exact .inr ⟨by omega,by omega,e3⟩
       ·exact .inl ⟨o',h5,h6⟩
      ·exact .inr h4
    ·split at hk
     ·rename_i p hr;split at hk<;>try cases hk
      rename_i o ho;split at hk<;>try cases hk
      rename_i hb;simp only [and_eq_true,ble_eq,blt_eq,not_eq_true'] at hb;obtain ⟨⟨⟨hdst,hp1⟩,hp2⟩,hnk⟩:=hb;obtain ⟨hun,hps⟩:=g0y (L:=L) (ops:=ops) (p:=p) (by rw [hr];simp);obtain ⟨g1,g2,g3⟩:=f0W h (ops:=ops) (o:=o);split at hk
      ·rename_i hg;have hc:=i0x (ops:=ops) hps hun;obtain ⟨m,rfl⟩:∃ m,n=m+1:=⟨n-1,by have:=l0h (ops:=ops) hps hun;omega⟩
       have hout:∀ q,(q<lo\/hi'<=q)->(L.setIfInBounds p true).getD q true=L.getD q true:=fun q hq=>getD_set_ne true (by omega);have herS:∀ m∈er,B5 (L.setIfInBounds p true) m=false:=fun m hm=>by rw [c0N,her m hm];rfl
       refine u0g hr ho (p0w (rec:=fun L' s'=>E6 E C inl ops f cs lo hi' L' owns s' k) hE hi hs hk h ho hdst hnk hun (g1 hg) hts hao her fun s1 ρ1 S1 a1 w1 hk1 h1 he hts1=>?_);exact c0I hE hi hs hQ f R cs lo hi' (L.setIfInBounds p true) owns _ k r hk1 (by simp [hsz]) A AN HA AO er ρ1 S1 a1 w1 m h1 hts1 hao how herS (by omega) fun s' AN' HA' AO' er' ρ' S' a' w' L' n' hk' dk=>
        hK s' AN' HA' AO' er' ρ' S' a' w' L' n' hk' ⟨dk.rp,he.trans dk.ext,dk.ts,dk.an,dk.ha,dk.ao,dk.er,dk.j9,dk.size,dk.all,fun q hq=>(dk.out q hq).trans (hout q hq)⟩
      ·rename_i d b hg;exact ask (g3 d b hg) hk
      ·cases hk
     ·split at hk
      ·rename_i d b hl;exact ask (m0Z h hl) hk
      ·split at hk<;>try cases hk
       rename_i c i0 l0 hfk hr;obtain ⟨d,hd,hk⟩:=b0Z hk;have hall:=u0V hd;obtain ⟨m,rfl⟩:∃ m,n=m+1:=⟨n-1,by
        obtain ⟨hun,hps⟩:=g0y (L:=L) (ops:=ops) (p:=i0) (by rw [hr];simp);have:=l0h (ops:=ops) hps hun;omega⟩
       refine F0c (by rw [hr];simp) fun p hp=>?_;obtain ⟨hun,hps⟩:=g0y hp;have hbr:=hall _ (mem_map.2 ⟨p,hp,rfl⟩);unfold q0T at hbr;split at hbr<;>try cases hbr
       rename_i o ho;split at hbr<;>try cases hbr
       rename_i hb;simp only [and_eq_true,ble_eq,blt_eq,not_eq_true'] at hb;obtain ⟨⟨⟨hdst,hp1⟩,hp2⟩,hnk⟩:=hb;obtain ⟨g1,g2,g3⟩:=f0W h (ops:=ops) (o:=o);split at hbr<;>try cases hbr
       rename_i hg;refine ⟨o,ho,?_⟩;have hc:=i0x (ops:=ops) hps hun;have hout:∀ q,(q<p0\/hi'<=q)->(L.setIfInBounds p true).getD q true=L.getD q true:=fun q hq=>getD_set_ne true (by omega);have herS:∀ m∈er,B5 (L.setIfInBounds p true) m=false:=fun m hm=>by rw [c0N,her m hm];rfl
       refine p0w (rec:=fun L' s'=>E6 E C inl ops f cs p0 hi' L' owns s' fun s''=>b0w E s s'' c) hE hi hs hbr h ho hdst hnk hun (g1 hg) hts hao her fun s1 ρ1 S1 a1 w1 hk1 h1 he hts1=>?_;refine c0I hE hi hs hQ f _ cs p0 hi' (L.setIfInBounds p true) owns _ _ d hk1 (by simp [hsz]) A AN HA AO er ρ1 S1 a1 w1 m h1 hts1 hao how herS (by omega) fun s' AN' HA' AO' er' ρ' S' a' w' L' n' hp' dk=>?_;obtain ⟨u,ρ2,S2,q1,q2,q3,_⟩:=e0t (A:=A.with AN' HA) hE (fun i u ha=>(h.hp i u ha).1) h (dk.rp.anc (AN:=AN') (HA:=HA) (fun H1 S1 ha=>dk.rp.kp H1 S1 ha) (fun i u ha=>dk.rp.hp i u (dk.ha i u ha))) (he.trans dk.ext) hp' hk;have hLL:L'=c0r L (hi'-p0) p0:=by
        refine u0W (by rw [dk.size,m0z,hsz]) fun q=>?_;rw [m0m]
        by_cases hrr:p0<=q/\q<p0+(hi'-p0)
        ·rw [decide_eq_true hrr,Bool.true_or];have:=dk.all q hrr.1 (by omega);rw [q0u] at this;simpa using this
        ·rw [decide_eq_false hrr,Bool.false_or];exact (dk.out q (by omega)).trans (hout q (by omega))
       rw [<-hLL] at q1;refine c0I hE hi hs hQ f R _ lo hi' L' _ u _ r q1 dk.size A AN' HA AO' er' ρ2 S2 a' w' n' q2 dk.ts ?_ ?_ dk.er dk.j9 fun s'' AN'' HA'' AO'' er'' ρ'' S'' a'' w'' L'' n'' hk' dk'=>?_
       ·intro q hq;rcases dk.ao q hq with ⟨o',h4,h5⟩ | ⟨h4,h5,o,ho,hl⟩
        ·exact ⟨o',List.mem_append_right _ h4,h5⟩
        ·exact ⟨_,List.mem_append_left _ (q0m h4 (by omega) ho hl),rfl,fun q0 hq0=>by cases hq0⟩
       ·intro o' ho' q hq;rcases mem_append.1 ho' with h5 | h5
        ·obtain ⟨_,_,rfl⟩:=mem_map.1 h5;cases hq
        ·exact how o' h5 q hq
       ·refine hK s'' AN'' HA'' AO'' er'' ρ'' S'' a'' w'' L'' n'' hk' ⟨dk'.rp,q3.trans dk'.ext,dk'.ts,fun H1 S1 ha=>dk'.an H1 S1 (dk.an H1 S1 ha),fun i x hx=>dk'.ha i x hx,fun q hq=>?_,dk'.er,dk'.j9,dk'.size,dk'.all,fun q hq=>(dk'.out q hq).trans ((dk.out q (by omega)).trans (hout q (by omega)))⟩;rcases dk'.ao q hq with ⟨o',h4,h6⟩ | h4
        ·rcases mem_append.1 h4 with h5 | h5
         ·obtain ⟨e1,e2,e3⟩:=s07 h5;rw [h6.1] at e1 e2 e3;exact .inr ⟨by omega,by omega,e3⟩
         ·exact .inl ⟨o',h5,h6⟩
        ·exact .inr h4
theorem w0d (hE:Q1 E) {C:D4 E} (hs:d0x E C):q0x E C:=by
 intro inl hi R cs id ops s k r hk A ρ S a as w h Q hQ hK;refine wp_region_any hE.mix (k05 (S:=TS ops A.anc [] []) _ _ _ _ ?_);have hcnt:j9 ops (Array.replicate ops.size false)<=ops.size:=by
  unfold j9;exact Nat.le_trans (List.length_filter_le _ _) (by simp)
 refine c0I hE hi hs hQ 100000 R cs 0 ops.size _ [] s k r hk (by simp) A A.anc A.hda [] [] ρ S a _ _ ⟨⟨⟨h.cx.bel.1,h.cx.bel.2,h.cx.bel.3,h.cx.bel.4,h.cx.bel.5⟩,h.cx.sub,h.cx.lt,h.cx.lt0⟩,h.fr,h.stk,h.th,h.ow,h.dj,h.lt,h.rf,h.kp,h.hp⟩ ⟨fun H1 S1 ha=>⟨S,h.kp H1 S1 ha⟩,by simp⟩ (by simp) (by simp) (by simp) hcnt fun s' AN' HA' AO' er' ρ' S' a' w' L' n' hk' dk=>?_;exact s0C (F0w fun p hp=>dk.all p (Nat.zero_le _) hp) (hK s' ρ' S' a' w' hk' (dk.rp.w0T dk.an dk.ha) dk.ext)
end
end
