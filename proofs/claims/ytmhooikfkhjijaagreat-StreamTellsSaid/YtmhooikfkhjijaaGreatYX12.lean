/- P. Its conditions: none. -/
import Derived.Test.YtmhooikfkhjijaaGreatYX11
open Nat (lt_or_ge blt_eq ble_eq)
open List (mem_cons mem_map mem_append)
open Bool (and_eq_true or_eq_true not_eq_true')
set_option linter.all false
namespace Go.X
open Go.V Go.RowKit
section
variable {E:Env}{ops:Array Oper}{Q:Exit->Act->World->Prop}
def a0d (ops:Array Oper)(m:Nat):Bool:=match ops[m]? with
 |some o=>!c0b o
 |none=>false
structure W4 where
 h:F0
 i:Nat
 v:Option Value
def W4.has (p:W4)(k:Nat):Prop:=∀u,p.v=some u->Q0 u=some k
structure TS (ops:Array Oper)(AN:F0->B0->Prop)(AO:List W4)(er:List Nat)(L:Array Bool)(w:World):Prop where
 an:∀H1 S1,AN H1 S1->∃S',J0 H1 S1 w.heap S'
 ao:∀p∈AO,(∀m,a0d ops m=true->a03 ops m p.i=true->m∉er->L.getD m false=false)->∀k,k<p.h.size->p.has k->w.heap[k]?=p.h[k]?
def i0C {S S':Array Bool->World->Prop}(h:∀L w,S L w->S' L w):∀(n:Nat) (L:Array Bool) (a:Act) (w:World),wpS E.P ops Q S n L a w->wpS E.P ops Q S' n L a w
 |0,L,a,w,hw=>hw
 |n+1,L,a,w,hw=>⟨hw.1,fun i hi=>wpOp_mono (fun a' w' k=>⟨h _ _ k.1,i0C h n _ a' w' k.2⟩) (hw.2 i hi)⟩
def TS.mono {AN AN':F0->B0->Prop}{AO AO':List W4}{er:List Nat}(h1:∀H S,AN H S->AN' H S)(h2:∀p∈AO,p∈AO'){L:Array Bool}{w:World}(h:TS ops AN' AO' er L w):TS ops AN AO er L w:=
 ⟨fun H S ha=>h.an H S (h1 H S ha),fun p hp=>h.ao p (h2 p hp)⟩
def TS.er {AN:F0->B0->Prop}{AO:List W4}{er:List Nat}{q:Nat}{L:Array Bool}{w:World}(h:TS ops AN AO (q :: er) L w):TS ops AN AO er L w:=
 ⟨h.an,fun p hp hm=>h.ao p hp fun m h1 h2 h3=>hm m h1 h2 (fun h4=>h3 (List.mem_cons_of_mem _ h4))⟩
def TS.set {AN:F0->B0->Prop}{AO:List W4}{er:List Nat}{i:Nat}(hi:a0d ops i=false\/i∈er){L:Array Bool}{w:World}:TS ops AN AO er (L.setIfInBounds i true) w↔TS ops AN AO er L w:=by
 have key:∀m,a0d ops m=true->m∉er->(L.setIfInBounds i true).getD m false=L.getD m false:=fun m h1 h2=>by
  have:i≠m:=by
   rintro rfl
   rcases hi with hi|hi
   ·rw[hi]at h1;cases h1
   ·exact h2 hi
  exact getD_set_ne false this
 constructor
 ·exact fun h=>⟨h.an,fun p hp hm=>h.ao p hp fun m h1 h2 h3=>by rw[key m h1 h3];exact hm m h1 h2 h3⟩
 ·exact fun h=>⟨h.an,fun p hp hm=>h.ao p hp fun m h1 h2 h3=>by rw[<-key m h1 h3];exact hm m h1 h2 h3⟩
def i6 (ops:Array Oper)(L:Array Bool):Nat:=((List.range ops.size).filter fun p=>U2 L p).length
def b9 {L:Array Bool}{p q:Nat}:U2 (L.setIfInBounds p true) q=(U2 L q&&!decide (p=q)):=by
 unfold U2
 by_cases h:p=q
 ·subst h;simp only[decide_true,Bool.not_true,Bool.and_false,Array.getD_eq_getD_getElem?];rcases lt_or_ge p L.size with h1|h1
  ·simp[h1]
  ·simp[Array.getElem?_eq_none,h1]
 ·rw[getD_set_ne true h];simp[h]
def e0e {L:Array Bool}{p:Nat}(h1:p<ops.size)(h2:U2 L p=true):i6 ops (L.setIfInBounds p true)+1<=i6 ops L:=by
 have:∀l:List Nat,p∈l->(l.filter fun q=>U2 (L.setIfInBounds p true) q).length+1<=(l.filter fun q=>U2 L q).length:=by
  intro l
  induction l with
  |nil=>intro h;cases h
  |
   cons x l ih=>
   have hle:∀l:List Nat,(l.filter fun q=>U2 (L.setIfInBounds p true) q).length<=(l.filter fun q=>U2 L q).length:=by
    intro l;have e:(l.filter fun q=>U2 (L.setIfInBounds p true) q)=(l.filter fun q=>U2 L q).filter fun q=>!decide (p=q):=by
     rw[List.filter_filter];congr 1;funext q;rw[b9,Bool.and_comm]
    rw[e];exact List.length_filter_le _ _
   intro hm
   by_cases hx:p=x
   ·subst hx;have:=hle l;simp only[List.filter_cons,b9,h2,decide_true,Bool.not_true,Bool.and_false,Bool.true_and,Bool.false_eq_true,if_false,if_true,List.length_cons];simp only[b9]at this;omega
   ·have hm:p∈l:=by
     rcases mem_cons.1 hm with h|h
     ·exact absurd h hx
     ·exact h
    have:=ih hm;simp only[b9]at this;simp only[List.filter_cons,b9,hx,decide_false,Bool.not_false,Bool.and_true];cases U2 L x<;>simp<;>omega
 exact this _ (List.mem_range.2 h1)
def i0U {L:Array Bool}{p:Nat}:U2 L p=true↔L[p]?=some false:=by
 unfold U2;rw[Array.getD_eq_getD_getElem?];cases h:L[p]? with
 |none=>simp
 |some b=>cases b<;>simp
def d0U {L:Array Bool}{p:Nat}(h:p∈Region.ready .any ops L):U2 L p=true/\p<ops.size:=by
 obtain⟨h1,o,ho,_⟩:=mem_ready.1 h;exact⟨by unfold U2;rw[h1];rfl,(Array.getElem?_eq_some_iff.1 ho).1⟩
def w0c {L:Array Bool}(h:∀p,p<ops.size->U2 L p=false):Region.ready .any ops L=[]:=by
 cases hr:Region.ready .any ops L with
 |nil=>rfl
 |
  cons p l=>
  have:=d0U (p:=p) (ops:=ops) (L:=L) (by rw[hr];simp);rw[h p this.2]at this;exact absurd this.1 (by simp)
variable {A:K2}{s:St E.D}{ρ:Nat->Value}{S:B0}{a:Act}{as:List Act}{w:World}
def K2.with (A:K2)(AN:F0->B0->Prop)(HA:Nat->Value->Prop):K2:={ A with j8:=AN,hda:=HA }
def Rp.j8 {AN1:F0->B0->Prop}{HA1:Nat->Value->Prop}(h:Rp E (A.with AN1 HA1) s ρ S a as w){AN:F0->B0->Prop}{HA:Nat->Value->Prop}(hk:∀H1 S1,AN H1 S1->J0 H1 S1 w.heap S)(hh:∀i u,HA i u->i<s.nid/\hd (ρ i)=u):Rp E (A.with AN HA) s ρ S a as w:=
 ⟨h.cx,h.fr,h.stk,h.th,h.ow,h.dj,h.lt,h.rf,hk,hh⟩
def Rp.y0D {AN:F0->B0->Prop}{HA:Nat->Value->Prop}(h:Rp E (A.with AN HA) s ρ S a as w)(hk:∀H1 S1,A.j8 H1 S1->AN H1 S1)(hh:∀i u,A.hda i u->HA i u):Rp E A s ρ S a as w:=
 ⟨h.cx,h.fr,h.stk,h.th,h.ow,h.dj,h.lt,h.rf,fun H1 S1 ha=>h.kp H1 S1 (hk H1 S1 ha),fun i u ha=>h.hp i u (hh i u ha)⟩
def a0x (H:F0)(p:Nat)(ov:Option (Option Value))(AO:List W4):List W4:=match ov with
 |some v=>⟨H,p,v⟩ :: AO
 |none=>AO
def q0F {H:F0}{p:Nat}{ov:Option (Option Value)}{AO:List W4}{q:W4}(h:q∈AO):q∈a0x H p ov AO:=by
 cases ov with
 |none=>exact h
 |some v=>exact List.mem_cons_of_mem _ h
def i0T {H:F0}{p:Nat}{ov:Option (Option Value)}{AO:List W4}{q:W4}(h:q∈a0x H p ov AO):q∈AO\/∃v,ov=some v/\q=⟨H,p,v⟩:=by
 cases ov with
 |none=>exact .inl h
 |
  some v=>
  rcases mem_cons.1 h with rfl|h
  ·exact .inr ⟨v,rfl,rfl⟩
  ·exact .inl h
def t0f {AN:F0->B0->Prop}{AO:List W4}{er:List Nat}{n p:Nat}{L:Array Bool}{o:Oper}{u:Value}{B:Nat->Prop}{ov:Option (Option Value)}(hB:∀k,B k->∃v,ov=some v/\∀x,v=some x->Q0 x=some k)(hQ:P6 Q)(ho:ops[p]?=some o)(hok:okQ ops L p=true)(hr:p∈Region.ready .any ops L)(he:a0d ops p=false)
  (hw:Region.wanted o (yielded ops a.tmps)=true) (hrun:∀w',G5 E s S w B w'->(execOp a.eval o).run E.P w'=.ok (.value u) w') (hts:TS ops AN AO er L w)
  (hk:wpS E.P ops Q (TS ops (fun H1 S1=>AN H1 S1\/(H1=w.heap/\S1=S)) (a0x w.heap p ov AO) er) n (L.setIfInBounds p true) (a.put o.dst u) w):wpS E.P ops Q (TS ops AN AO er) (n+1) L a w:=by
 simp only[okQ,and_eq_true]at hok;obtain⟨⟨h1,h2⟩,h3⟩:=hok;have hts2:TS ops (fun H1 S1=>AN H1 S1\/(H1=w.heap/\S1=S)) (a0x w.heap p ov AO) er L w:=by
  refine⟨fun H1 S1 ha=>?_,fun q hq=>?_⟩
  ·rcases ha with ha|⟨rfl,rfl⟩
   ·exact hts.an H1 S1 ha
   ·exact⟨S1,J0.refl _ _⟩
  ·rcases i0T hq with hq|⟨v,_,rfl⟩
   ·exact hts.ao q hq
   ·exact fun _ k _ _=>rfl
 refine i0C (S:=TS ops (fun H1 S1=>AN H1 S1\/(H1=w.heap/\S1=S)) (a0x w.heap p ov AO) er) (fun L w h=>h.mono (fun _ _ h=>.inl h) (fun q hq=>q0F hq)) _ _ _ _ ?_;refine g02 (S:=TS ops (fun H1 S1=>AN H1 S1\/(H1=w.heap/\S1=S)) (a0x w.heap p ov AO) er) (Sx:=fun w'=>G5 E s S w B w') ho (Region.noSelect_spec h1) (fun c a w hp=>absurd hp (hQ c _ w)) (fun L' w' hc hu hs=>⟨?_,fun k hk hkl=>?_⟩)
  (fun L' w' hs _=>(TS.set (.inl he)).1 hs) (fun L' w' hs=>(TS.set (.inl he)).2 hs) n L a w (i0A h3) (Region.free_spec ho h2) hr (.inl ⟨hw,fun w' hw'=>hrun w' hw'⟩) hts2 hk
 ·exact hs.an w.heap S (.inr ⟨rfl,rfl⟩)
 ·obtain⟨v,e1,e2⟩:=hB k hk;subst e1;exact hs.ao ⟨w.heap,p,v⟩ (by simp[a0x]) (fun m _ h2 _=>m0o hc h2 hu) k hkl e2
def t04 {AN:F0->B0->Prop}{AO:List W4}{er:List Nat}{n p:Nat}{L:Array Bool}{o:Oper}(hQ:P6 Q)(ho:ops[p]?=some o)(hok:okQ ops L p=true)(hr:p∈Region.ready .any ops L)
  (hw:Region.wanted o (yielded ops a.tmps)=false) (hts:TS ops AN AO er L w)
  (hk:wpS E.P ops Q (TS ops AN AO (p :: er)) n (L.setIfInBounds p true) (a.put o.dst undef) w):wpS E.P ops Q (TS ops AN AO er) (n+1) L a w:=by
 simp only[okQ,and_eq_true]at hok;obtain⟨⟨h1,h2⟩,h3⟩:=hok;have hun:=(mem_ready.1 hr).1;have hpl:L.getD p false=false:=by
  rw[Array.getD_eq_getD_getElem?]at hun ⊢;cases h:L[p]? with
  |none=>rfl
  |some b=>rw[h]at hun;simpa using hun
 have hts2:TS ops AN AO (p :: er) L w:=⟨hts.an,fun q hq hm=>hts.ao q hq fun m e1 e2 e3=>by
  by_cases hmp:m=p
  ·subst hmp;exact hpl
  ·exact hm m e1 e2 (by simp[hmp,e3])⟩
 refine i0C (S:=TS ops AN AO (p :: er)) (fun L w h=>h.er) _ _ _ _ ?_;exact g02 (S:=TS ops AN AO (p :: er)) (Sx:=fun _=>True) ho (Region.noSelect_spec h1) (fun c a w hp=>absurd hp (hQ c _ w)) (fun _ _ _ _ _=>trivial)
  (fun L' w' hs _=>(TS.set (.inr (by simp))).1 hs) (fun L' w' hs=>(TS.set (.inr (by simp))).2 hs) n L a w (i0A h3) (Region.free_spec ho h2) hr (v:=undef) (.inr ⟨hw,rfl⟩) hts2 hk
section
variable {E:Env}{ops:Array Oper}{Q:Exit->Act->World->Prop}{as:List Act}
def o0e:∀{n lo:Nat} {L:Array Bool},b0c L n lo=none->∀q,lo<=q->q<lo+n->U2 L q=false
 |0,lo,L,_,q,h1,h2=>by omega
 |
  n+1,lo,L,h,q,h1,h2=>by
  simp only[b0c]at h;split at h
  ·cases h
  ·rename_i hu
   by_cases e:q=lo
   ·subst e;exact hu
   ·exact o0e h q (by omega) (by omega)
def l0T:∀{n lo p:Nat} {L:Array Bool},b0c L n lo=some p->lo<=p/\p<lo+n/\U2 L p=true
 |0,lo,p,L,h=>by simp[b0c]at h
 |
  n+1,lo,p,L,h=>by
  simp only[b0c]at h;split at h
  ·rename_i hu;simp at h;subst h;exact⟨Nat.le_refl _,by omega,hu⟩
  ·obtain⟨h1,h2,h3⟩:=l0T h;exact⟨by omega,by omega,h3⟩
def h0l:∀(n lo:Nat) (L:Array Bool),(q9 L n lo).size=L.size
 |0,lo,L=>rfl
 |n+1,lo,L=>by rw[q9,h0l n (lo+1)];simp
def g00:∀(n lo q:Nat) (L:Array Bool),(q9 L n lo).getD q true=(decide (lo<=q/\q<lo+n)||L.getD q true)
 |
  0,lo,q,L=>by
  have:¬(lo<=q/\q<lo+0):=by omega
  rw[decide_eq_false this,Bool.false_or];rfl
 |
  n+1,lo,q,L=>by
  rw[q9,g00 n (lo+1) q]
  by_cases e:lo=q
  ·subst e;have h1:lo<=lo/\lo<lo+(n+1):=by omega
   rw[decide_eq_true h1,Bool.true_or];have:(L.setIfInBounds lo true).getD lo true=true:=by
    rw[Array.getD_eq_getD_getElem?];rcases lt_or_ge lo L.size with h|h
    ·simp[h]
    ·simp[Array.getElem?_eq_none,h]
   rw[this,Bool.or_true]
  ·rw[getD_set_ne true e];congr 1;apply decide_eq_decide.2;omega
def m0m {L L':Array Bool}(h1:L.size=L'.size)(h2:∀q,L.getD q true=L'.getD q true):L=L':=by
 apply Array.ext h1;intro i hi hi';have:=h2 i;simpa[Array.getD_eq_getD_getElem?,hi,hi']using this
def n0D {L:Array Bool}{q:Nat}:U2 L q=!L.getD q true:=rfl
def o0r:∀{n lo q:Nat} {o:Oper},lo<=q->q<lo+n->ops[q]?=some o->p9 o=true->q∈S8 ops n lo
 |0,lo,q,o,h1,h2,_,_=>by omega
 |
  n+1,lo,q,o,h1,h2,ho,hl=>by
  have hq:q<ops.size:=(Array.getElem?_eq_some_iff.1 ho).1;have hlo:ops[lo]?=some (ops[lo]'(by omega)):=by simp
  simp only[S8,hlo]
  by_cases e:q=lo
  ·subst e;rw[hlo]at ho;simp at ho;rw[ho,hl];exact List.mem_cons_self
  ·have:=o0r (n:=n) (lo:=lo+1) (by omega) (by omega) ho hl;split
   ·exact List.mem_cons_of_mem _ this
   ·exact this
def n0z:∀{n lo q:Nat},q∈S8 ops n lo->lo<=q/\q<lo+n/\∃o,ops[q]?=some o/\p9 o=true
 |0,lo,q,h=>by simp[S8]at h
 |
  n+1,lo,q,h=>by
  simp only[S8]at h;split at h
  ·rename_i o ho;have up:q∈S8 ops n (lo+1)->lo<=q/\q<lo+(n+1)/\∃o,ops[q]?=some o/\p9 o=true:=fun h=>by
    obtain⟨h1,h2,h3⟩:=n0z h;exact⟨by omega,by omega,h3⟩
   split at h
   ·rename_i hl;rcases mem_cons.1 h with rfl|h
    ·exact⟨by omega,by omega,o,ho,hl⟩
    ·exact up h
   ·exact up h
  ·cases h
def p0Z {s:St E.D}{o:Oper}(h:V5 E s o=true):p9 o=true:=by
 unfold V5 at h;unfold p9;cases ho:o.op<;>rw[ho]at h<;>simp_all
def h0P {L:Array Bool}{p:Nat}(h1:p<ops.size)(h2:U2 L p=true):0<i6 ops L:=Nat.lt_of_lt_of_le (Nat.succ_pos _) (e0e h1 h2)
def l0k {s:St E.D}{o:Oper}{q:Nat}(h:l6 E s o=some q):C0 s q≠.gone:=by
 unfold l6 at h;split at h<;>try cases h
 unfold W7 at h;split at h<;>try cases h
 all_goals
  split at h<;>try cases h
  rename_i hl;rw[hl];simp
def InR (ops:Array Oper)(lo hi:Nat)(q:Nat):Prop:=lo<=q/\q<hi/\∃o,ops[q]?=some o/\p9 o=true
def MO (HA:Nat->Value->Prop)(o:Nat×Option Nat)(p:W4):Prop:=o.1=p.i/\∀q,o.2=some q->∃u,p.v=some u/\HA q u
def MO.mono {HA HA':Nat->Value->Prop}(h:∀i u,HA i u->HA' i u){o:Nat×Option Nat}{p:W4}(hm:MO HA o p):MO HA' o p:=⟨hm.1,fun q hq=>by
 obtain⟨u,h1,h2⟩:=hm.2 q hq;exact⟨u,h1,h _ _ h2⟩⟩
def MO.back {HA HA':Nat->Value->Prop}(h:∀i u,HA i u->HA' i u){g:Nat->Value}(hp:∀i u,HA' i u->g i=u){o:Nat×Option Nat}{p:W4}(hw:∀q,o.2=some q->∃u,HA q u)(hm:MO HA' o p):MO HA o p:=⟨hm.1,fun q hq=>by
 obtain⟨u,h1,h2⟩:=hm.2 q hq;obtain⟨u',h3⟩:=hw q hq;have:u=u':=(hp q u h2).symm.trans (hp q u' (h q u' h3));subst this;exact⟨u,h1,h3⟩⟩
def m0Y {n lo q:Nat}{o:Oper}(h1:lo<=q)(h2:q<lo+n)(ho:ops[q]?=some o)(hl:p9 o=true):(q,none)∈g0h ops n lo:=mem_map.2 ⟨q,o0r h1 h2 ho hl,rfl⟩
def n0T {n lo:Nat}{o:Nat×Option Nat}(h:o∈g0h ops n lo):lo<=o.1/\o.1<lo+n/\∃x,ops[o.1]?=some x/\p9 x=true:=by
 obtain⟨q,h1,rfl⟩:=mem_map.1 h;exact n0z h1
structure DK (E:Env)(ops:Array Oper)(Q:Exit->Act->World->Prop)(A:K2)(as:List Act)(AN:F0->B0->Prop)(HA:Nat->Value->Prop)(owns:List (Nat×Option Nat))(lo hi:Nat)(s:St E.D)(L:Array Bool)(s':St E.D)(AN':F0->B0->Prop)(HA':Nat->Value->Prop)(AO':List W4)(er':List Nat)(ρ':Nat->Value)(S':B0)(a':Act)(w':World)(L':Array Bool)(n':Nat):Prop where
 rp:Rp E (A.with AN' HA') s' ρ' S' a' as w'
 ext:Ext s s'
 ts:TS ops AN' AO' er' L' w'
 an:∀H S,AN H S->AN' H S
 ha:∀i u,HA i u->HA' i u
 ao:∀p∈AO',(∃o∈owns,MO HA o p)\/InR ops lo hi p.i
 er:∀m∈er',U2 L' m=false
 i6:i6 ops L'<=n'
 size:L'.size=ops.size
 all:∀q,lo<=q->q<hi->U2 L' q=false
 out:∀q,(q<lo\/hi<=q)->L'.getD q true=L.getD q true
def l03 {α:Type}{r:α}:∀{l:List (Option α)},g0d l=some r->∀x∈l,x=some r
 |[],h=>by cases h
 |[a],h=>by intro x hx;simp at hx;subst hx;exact h
 |
  a :: b :: l,h=>by
  obtain⟨h1,h2⟩:=i08 (show same a (g0d (b :: l))=some r from h);intro x hx;rcases mem_cons.1 hx with rfl|hx
  ·exact h1
  ·exact l03 h2 x hx
def g01 {A:K2}{s:St E.D}{ρ:Nat->Value}{S:B0}{a:Act}{w:World}(h:Rp E A s ρ S a as w){d:Nat}{b:Bool}:∀{l:List Nat},d0N E s ops l=some (d,b)->a.tmps.getD d undef=.bool b
 |[],hl=>by cases hl
 |
  p :: l,hl=>by
  simp only[d0N]at hl;split at hl
  ·rename_i o ho;split at hl
   ·rename_i hg;cases hl;exact(b0w h (ops:=ops) (o:=o)).2.2 _ _ hg
   ·exact g01 h hl
  ·exact g01 h hl
def u04 {D:Nat->Type}{s s1:St D}{q:Nat}(h:k0u s s1=false)(hq:q<s.nid):F4 s s1 q=false:=by
 unfold k0u at h;unfold F4;rw[List.any_eq_false]at h ⊢;intro p hp e;rw[Nat.beq_eq]at e;subst e;exact h p hp (by rw[blt_eq];exact hq)
def n0M {A:K2}{s:St E.D}{ρ:Nat->Value}{S:B0}{a:Act}{w:World}(hE:B1 E){C:X1 E}{inl:b7 E}(hi:a0G E inl)(hs:a0j E C){R:Type}{rec:Array Bool->St E.D->Option R}{p:Nat}{L:Array Bool}{owns:List (Nat×Option Nat)}{o:Oper}{r:R}{AN:F0->B0->Prop}{HA:Nat->Value->Prop}{AO:List W4}{er:List Nat}{K:Act->World->Prop}
  (hk:opV E C inl s o (fun s' v=>match owns.all (f0U ops (E8 E C s o) s s' p)with|true=>rec (L.setIfInBounds p true) (s'.put o.dst v)|false=>none)=some r) (h:Rp E (A.with AN HA) s ρ S a as w) (ho:ops[p]?=some o) (hdst:I8 s.n o=true) (hnk:c0b o=false) (hun:U2 L p=true) (hw:Region.wanted o (yielded ops a.tmps)=true)
  (hts:TS ops AN AO er L w) (hao:∀p∈AO,∃o∈owns,MO HA o p) (her:∀m∈er,U2 L m=false)
  (hrec:∀s1 ρ1 S1 a1 w1,rec (L.setIfInBounds p true) s1=some r->Rp E (A.with AN HA) s1 ρ1 S1 a1 as w1->Ext s s1->TS ops AN AO er (L.setIfInBounds p true) w1->K a1 w1):
  wpList E.P ops (Exit.then (fun a' w'=>TS ops AN AO er (L.setIfInBounds p true) w'/\K a' w') Q) [o] a w:=by
 have heff:a0d ops p=true:=by unfold a0d;rw[ho];simp[hnk]
 have hper:p∉er:=fun hm=>by rw[her p hm]at hun;cases hun
 have hLp:L.getD p false=false:=by
  rw[Array.getD_eq_getD_getElem?,i0U.1 hun];rfl
 have hSp:(L.setIfInBounds p true).getD p false=true:=by
  have:=(Array.getElem?_eq_some_iff.1 (i0U.1 hun)).1;rw[Array.getD_eq_getD_getElem?];simp[this]
 unfold wpList;rw[if_pos hw];refine .inl (p0C hE hi hs hk h fun s1 v u ρ1 S1 w1 hk1 h1 hv he hfr hold=>?_);split at hk1<;>try cases hk1
 rename_i hcond;have hts1:TS ops AN AO er (L.setIfInBounds p true) w1:=by
  refine⟨fun H2 S2 ha=>⟨S1,h1.kp H2 S2 ha⟩,fun q hq hm k hks hqk=>?_⟩;obtain⟨ow,how,hmo⟩:=hao q hq;have hcond:=List.all_eq_true.1 hcond ow how;unfold f0U at hcond;rw[or_eq_true]at hcond;rcases hcond with hcond|hcond
  ·rw[hmo.1]at hcond;have:=hm p heff hcond hper;rw[hSp]at this;cases this
  ·rw[and_eq_true,or_eq_true,not_eq_true']at hcond;have h5:=hts.ao q hq (fun m e1 e2 e3=>by
    by_cases hmp:p=m
    ·subst hmp;exact hLp
    ·have:=hm m e1 e2 e3
     rwa [getD_set_ne false hmp]at this) k hks hqk
   have hk2:k<w.heap.size:=by
    rcases lt_or_ge k w.heap.size with h6|h6
    ·exact h6
    ·rw[Array.getElem?_eq_none h6]at h5;simp[hks]at h5
   refine(hold hcond.1 k hk2 (fun id e1 e0 e2 hb=>?_)).trans h5;rcases hcond.2 with hc|hc
   ·rw[u04 hc e1]at e2;cases e2
   ·split at hc<;>try cases hc
    rename_i q0 hq0;rw[and_eq_true,not_eq_true']at hc;obtain⟨u0,hv0,ha0⟩:=hmo.2 q0 hq0;obtain⟨_,hhd⟩:=h.hp q0 u0 ha0;refine h.dj id q0 (fun e=>?_) e0 hc.2 k hb (Bk.hd (by rw[hhd];exact hqk u0 hv0));subst e;rw[hc.1]at e2;cases e2
 exact n0B hts1 (hrec _ ρ1 S1 (a.put o.dst u) w1 hk1 (h1.a0J hdst he.n hv) (he.trans (Ext.put s1 o.dst v)) hts1)
def v0u {a:Act}{w:World}{P:Program}{S:Array Bool->World->Prop}{L:Array Bool}{fuel:Nat}(hr:Region.ready .any ops L≠[])
  (h:∀i∈Region.ready .any ops L,∃o,ops[i]?=some o/\wpList P ops (Exit.then (fun a' w'=>S (L.setIfInBounds i true) w'/\wpS P ops Q S fuel (L.setIfInBounds i true) a' w') Q) [o] a w):wpS P ops Q S (fuel+1) L a w:=by
 refine⟨fun h0=>absurd h0 hr,fun j hj=>?_⟩;obtain⟨o,ho,hw⟩:=h j hj;exact o0B ho hw
def B9 (hE:B1 E){C:X1 E}{inl:b7 E}(hi:a0G E inl)(hs:a0j E C)(hQ:P6 Q):∀(f:Nat) (R:Type) (cs:List (Nat×Nat×Cut)) (lo hi:Nat) (L:Array Bool) (owns:List (Nat×Option Nat)) (s:St E.D) (k:St E.D->Option R) (r:R),
  R3 E C inl ops f cs lo hi L owns s k=some r->L.size=ops.size->∀(A:K2) (AN:F0->B0->Prop) (HA:Nat->Value->Prop) (AO:List W4) (er:List Nat) (ρ:Nat->Value) (S:B0) (a:Act) (w:World) (n:Nat),
  Rp E (A.with AN HA) s ρ S a as w->TS ops AN AO er L w->(∀p∈AO,∃o∈owns,MO HA o p)->(∀o∈owns,∀q,o.2=some q->∃u,HA q u)->(∀m∈er,U2 L m=false)->i6 ops L<=n->
  (∀s' AN' HA' AO' er' ρ' S' a' w' L' n',k s'=some r->DK E ops Q A as AN HA owns lo hi s L s' AN' HA' AO' er' ρ' S' a' w' L' n'->wpS E.P ops Q (TS ops AN' AO' er') n' L' a' w')->
  wpS E.P ops Q (TS ops AN AO er) n L a w
 |0,R,cs,lo,hi,L,owns,s,k,r,hk,hsz=>by simp[R3]at hk
 |
  f+1,R,cs,lo,hi',L,owns,s,k,r,hk,hsz=>by
  intro A AN HA AO er ρ S a w n h hts hao how her hn hK;simp only[R3]at hk;split at hk
  ·rename_i hu;have hall:∀q,lo<=q->q<hi'->U2 L q=false:=fun q h1 h2=>o0e hu q h1 (by omega);exact hK s AN HA AO er ρ S a w L n hk ⟨h,Ext.refl s,hts,fun _ _ h=>h,fun _ _ h=>h,fun p hp=>.inl (hao p hp),her,hn,hsz,hall,fun _ _=>rfl⟩
  ·rename_i p0 hu;obtain⟨u1,u2,u3⟩:=l0T hu;have ask:∀{d:Nat} {b:Bool},a.tmps.getD d undef=.bool b->(if b then R3 E C inl ops f cs lo hi' L owns (s.put (some d) (.kb true)) k else R3 E C inl ops f cs lo hi' L owns (s.put (some d) (.kb false)) k)=some r->wpS E.P ops Q (TS ops AN AO er) n L a w:=by
    intro d b hb hk;have:R3 E C inl ops f cs lo hi' L owns (s.put (some d) (.kb b)) k=some r:=by cases b<;>exact hk
    exact B9 hE hi hs hQ f R cs lo hi' L owns _ k r this hsz A AN HA AO er ρ S a w n (h.j09 (by rw[hb];exact VS.kb)) hts hao how her hn fun s' AN' HA' AO' er' ρ' S' a' w' L' n' hk' dk=>
     hK s' AN' HA' AO' er' ρ' S' a' w' L' n' hk' ⟨dk.rp,(Ext.put s (some d) _).trans dk.ext,dk.ts,dk.an,dk.ha,dk.ao,dk.er,dk.i6,dk.size,dk.all,dk.out⟩
   split at hk
   ·rename_i p hp;split at hk<;>try cases hk
    rename_i o ho;split at hk<;>try cases hk
    rename_i hdo;rw[and_eq_true]at hdo;obtain⟨hdst,hok⟩:=hdo;have hmem:p∈Region.ready .any ops L:=List.mem_of_find?_eq_some hp;have hpp:=List.find?_some hp;simp only[and_eq_true,ble_eq,blt_eq,ho]at hpp;obtain⟨⟨⟨hp1,hp2⟩,_⟩,hp3⟩:=hpp;obtain⟨hun,hps⟩:=d0U hmem;have hc:=e0e (ops:=ops) hps hun;obtain⟨m,rfl⟩:∃m,n=m+1:=⟨n-1,by have:=h0P (ops:=ops) hps hun;omega⟩
    have hout:∀q,(q<lo\/hi'<=q)->(L.setIfInBounds p true).getD q true=L.getD q true:=fun q hq=>getD_set_ne true (by omega);have herS:∀m∈er,U2 (L.setIfInBounds p true) m=false:=fun m hm=>by rw[b9,her m hm];rfl
    obtain⟨g1,g2,g3⟩:=b0w h (ops:=ops) (o:=o);have step:∀{sB:St E.D} {ρB:Nat->Value} {v:V E.D} {u:Value},Rp E (A.with AN HA) sB ρB S a as w->Ext s sB->(∀q,l6 E s o=some q->q<sB.nid/\hd (ρB q)=hd (ρ q))->D7 E s ops o=.yes->VS E ρB sB.nid w.heap S v u->(∀w',G5 E s S w (a0u E s ρ o) w'->(execOp a.eval o).run E.P w'=.ok (.value u) w')->
      R3 E C inl ops f cs lo hi' (L.setIfInBounds p true) (match V5 E s o with|true=>(p,l6 E s o) :: owns|false=>owns) (sB.put o.dst v) k=some r->wpS E.P ops Q (TS ops AN AO er) (m+1) L a w:=by
     intro sB ρB v u hB heB hrq hg hv hrun hk;have hdst:I8 sB.n o=true:=by rw[heB.n];exact hdst
     have hkq:c0b o=true:=by
      simp only[or_eq_true]at hp3;rcases hp3 with h|h
      ·exact h
      ·unfold g0a at h;rw[hg]at h;cases h
     have heff:a0d ops p=false:=by unfold a0d;rw[ho];simp[hkq]
     refine t0f (B:=a0u E s ρ o) (ov:=if V5 E s o then some ((l6 E s o).map fun q=>hd (ρ q))else none) (fun k hk=>?_) hQ ho hok hmem heff (g1 hg) hrun hts ?_
     ·rw[if_pos hk.1];refine⟨_,rfl,fun x hx=>?_⟩;obtain⟨q,hq,rfl⟩:=Option.map_eq_some_iff.1 hx;exact hk.2 q hq
     have h2:=(hB.j8 (AN:=fun H1 S1=>AN H1 S1\/(H1=w.heap/\S1=S)) (HA:=fun i x=>HA i x\/(l6 E s o=some i/\x=hd (ρ i))) (fun H1 S1 ha=>by
      rcases ha with ha|⟨rfl,rfl⟩
      ·exact h.kp H1 S1 ha
      ·exact J0.refl _ _) (fun i x hx=>by
      rcases hx with hx|⟨h1,rfl⟩
      ·exact hB.hp i x hx
      ·exact hrq i h1))
     refine B9 hE hi hs hQ f R cs lo hi' _ _ _ k r hk (by simp[hsz]) A _ _ _ er ρB S _ w m (h2.a0J hdst rfl hv) ?_ ?_ ?_ herS (by omega) fun s' AN' HA' AO' er' ρ' S' a' w' L' n' hk' dk=>?_
     ·refine(TS.set (.inl heff)).2 ⟨fun H1 S1 ha=>?_,fun q hq=>?_⟩
      ·rcases ha with ha|⟨rfl,rfl⟩
       ·exact hts.an H1 S1 ha
       ·exact⟨S1,J0.refl _ _⟩
      ·rcases i0T hq with hq|⟨v,_,rfl⟩
       ·exact hts.ao q hq
       ·exact fun _ k _ _=>rfl
     ·intro q hq;rcases i0T hq with hq|⟨v,e1,rfl⟩
      ·obtain⟨o',h5,h6⟩:=hao q hq;refine⟨o',?_,h6.mono fun _ _ h=>.inl h⟩;cases V5 E s o<;>simp[h5]
      ·cases hown:V5 E s o with
       |false=>rw[hown]at e1;simp at e1
       |
        true=>
        rw[hown]at e1;simp only[if_true,Option.some.injEq]at e1;refine⟨(p,l6 E s o),by simp,rfl,fun q hq=>⟨hd (ρ q),?_,.inr ⟨hq,rfl⟩⟩⟩;have hq:l6 E s o=some q:=hq;show v=_;rw[<-e1,hq];rfl
     ·intro o' ho' q hq;cases hown:V5 E s o with
      |
       false=>
       rw[hown]at ho';obtain⟨u,hu⟩:=how o' ho' q hq;exact⟨u,.inl hu⟩
      |
       true=>
       rw[hown]at ho';rcases mem_cons.1 ho' with rfl|ho'
       ·exact⟨_,.inr ⟨hq,rfl⟩⟩
       ·obtain⟨u,hu⟩:=how o' ho' q hq;exact⟨u,.inl hu⟩
     ·refine hK s' AN' HA' AO' er' ρ' S' a' w' L' n' hk' ⟨dk.rp,heB.trans ((Ext.put sB o.dst v).trans dk.ext),dk.ts,fun H1 S1 ha=>dk.an H1 S1 (.inl ha),fun i x hx=>dk.ha i x (.inl hx),fun q hq=>?_,dk.er,dk.i6,dk.size,dk.all,fun q hq=>(dk.out q hq).trans (hout q hq)⟩;have back:∀{o'},o'∈owns->MO _ o' q->MO HA o' q:=fun h8 h9=>h9.back (fun _ _ h=>.inl h) (g:=fun i=>hd (ρB i)) (fun i x hx=>(h2.hp i x hx).2) (how _ h8);rcases dk.ao q hq with⟨o',h3,h4⟩|h3
      ·cases hown:V5 E s o with
       |false=>rw[hown]at h3;exact .inl ⟨o',h3,back h3 h4⟩
       |
        true=>
        rw[hown]at h3;rcases mem_cons.1 h3 with e|h3
        ·subst e;have e:=h4.1;simp only at e;rw[<-e];exact .inr ⟨hp1,hp2,o,ho,p0Z hown⟩
        ·exact .inl ⟨o',h3,back h3 h4⟩
      ·exact .inr h3
    have hq:=j0q hE h o;split at hk
    ·cases hk
    ·rename_i hg;split at hk
     ·split at hk<;>try cases hk
      rename_i q i g hb;obtain⟨⟨e1,e2⟩,u,ρ1,h1,_,h3,h4⟩:=o0s h hb;refine step h1 (Ext.new s _) (fun q hq=>by rw[e2]at hq;cases hq) hg h3 (fun w' hw=>h4 w' (hw.l9 fun k _=>⟨e1,fun q hq=>by rw[e2]at hq;cases hq⟩)) ?_;rw[e1,e2];exact hk
     ·rename_i v hv;rw[hv]at hq;obtain⟨u,h1,h2⟩:=hq;exact step h (Ext.refl s) (fun q hq=>⟨h.L4 (l0k hq),rfl⟩) hg h1 h2 hk
     ·rename_i b v hv;rw[hv]at hq;split at hk<;>try cases hk
      rename_i hb;obtain⟨u,h1,h2⟩:=hq hb;exact step h (Ext.refl s) (fun q hq=>⟨h.L4 (l0k hq),rfl⟩) hg h1 h2 hk
    ·rename_i hg;refine t04 hQ ho hok hmem (g2 hg) hts ?_;refine B9 hE hi hs hQ f R cs lo hi' _ _ _ k r hk (by simp[hsz]) A AN HA AO (p :: er) ρ S _ w m (h.a0J hdst rfl VS.unit) ((TS.set (.inr (by simp))).2 ⟨hts.an,fun q hq hm=>hts.ao q hq fun j e1 e2 e3=>?_⟩) hao how ?_ (by omega) fun s' AN' HA' AO' er' ρ' S' a' w' L' n' hk' dk=>?_
     ·by_cases hj:j=p
      ·subst hj;rw[i0U]at hun;rw[Array.getD_eq_getD_getElem?,hun];rfl
      ·exact hm j e1 e2 (by simp[hj,e3])
     ·intro q hq;rcases mem_cons.1 hq with rfl|hq
      ·rw[b9];simp
      ·exact herS q hq
     ·exact hK s' AN' HA' AO' er' ρ' S' a' w' L' n' hk' ⟨dk.rp,(Ext.put s o.dst _).trans dk.ext,dk.ts,dk.an,dk.ha,dk.ao,dk.er,dk.i6,dk.size,dk.all,fun q hq=>(dk.out q hq).trans (hout q hq)⟩
    ·rename_i d b hg;exact ask (g3 d b hg) hk
   ·split at hk
    ·rename_i b c r' hcut;split at hk<;>try cases hk
     rename_i hb;simp only[and_eq_true,ble_eq,blt_eq]at hb;obtain⟨⟨hb1,hb2⟩,hb3⟩:=hb;obtain⟨d,hd,hk⟩:=O8 hk;refine B9 hE hi hs hQ f _ _ p0 (b+1) L owns s _ d hd hsz A AN HA AO er ρ S a w n h hts hao how her hn fun s' AN' HA' AO' er' ρ' S' a' w' L' n' hp' dk=>?_;obtain⟨u,ρ1,S1,h1,h2,h3,_⟩:=b0y (A:=A.with AN' HA) hE (fun i u ha=>(h.hp i u ha).1) h (dk.rp.j8 (AN:=AN') (HA:=HA) (fun H1 S1 ha=>dk.rp.kp H1 S1 ha) (fun i u ha=>dk.rp.hp i u (dk.ha i u ha))) dk.ext hp' hk;have hLL:L'=q9 L (b+1-p0) p0:=by
      refine m0m (by rw[dk.size,h0l,hsz]) fun q=>?_;rw[g00]
      by_cases hr:p0<=q/\q<p0+(b+1-p0)
      ·rw[decide_eq_true hr,Bool.true_or];have:=dk.all q hr.1 (by omega);rw[n0D]at this;simpa using this
      ·rw[decide_eq_false hr,Bool.false_or];exact dk.out q (by omega)
     rw[<-hLL]at h1;refine B9 hE hi hs hQ f R _ lo hi' L' _ u _ r h1 dk.size A AN' HA AO' er' ρ1 S1 a' w' n' h2 dk.ts ?_ ?_ dk.er dk.i6 fun s'' AN'' HA'' AO'' er'' ρ'' S'' a'' w'' L'' n'' hk' dk'=>?_
     ·intro q hq;rcases dk.ao q hq with⟨o',h4,h5⟩|⟨h4,h5,o,ho,hl⟩
      ·exact⟨o',List.mem_append_right _ h4,h5⟩
      ·exact⟨_,List.mem_append_left _ (m0Y h4 (by omega) ho hl),rfl,fun q0 hq0=>by cases hq0⟩
     ·intro o' ho' q hq;rcases mem_append.1 ho' with h5|h5
      ·obtain⟨_,_,rfl⟩:=mem_map.1 h5;cases hq
      ·exact how o' h5 q hq
     ·refine hK s'' AN'' HA'' AO'' er'' ρ'' S'' a'' w'' L'' n'' hk' ⟨dk'.rp,h3.trans dk'.ext,dk'.ts,fun H1 S1 ha=>dk'.an H1 S1 (dk.an H1 S1 ha),fun i x hx=>dk'.ha i x hx,fun q hq=>?_,dk'.er,dk'.i6,dk'.size,dk'.all,fun q hq=>(dk'.out q hq).trans (dk.out q (by omega))⟩;rcases dk'.ao q hq with⟨o',h4,h6⟩|h4
      ·rcases mem_append.1 h4 with h5|h5
       ·obtain⟨e1,e2,e3⟩:=n0T h5;rw[h6.1]at e1 e2 e3;exact .inr ⟨by omega,by omega,e3⟩
       ·exact .inl ⟨o',h5,h6⟩
      ·exact .inr h4
    ·split at hk
     ·rename_i p hr;split at hk<;>try cases hk
      rename_i o ho;split at hk<;>try cases hk
      rename_i hb;simp only[and_eq_true,ble_eq,blt_eq,not_eq_true']at hb;obtain⟨⟨⟨hdst,hp1⟩,hp2⟩,hnk⟩:=hb;obtain⟨hun,hps⟩:=d0U (L:=L) (ops:=ops) (p:=p) (by rw[hr];simp);obtain⟨g1,g2,g3⟩:=b0w h (ops:=ops) (o:=o);split at hk
      ·rename_i hg;have hc:=e0e (ops:=ops) hps hun;obtain⟨m,rfl⟩:∃m,n=m+1:=⟨n-1,by have:=h0P (ops:=ops) hps hun;omega⟩
       have hout:∀q,(q<lo\/hi'<=q)->(L.setIfInBounds p true).getD q true=L.getD q true:=fun q hq=>getD_set_ne true (by omega);have herS:∀m∈er,U2 (L.setIfInBounds p true) m=false:=fun m hm=>by rw[b9,her m hm];rfl
       refine p0a hr ho (n0M (rec:=fun L' s'=>R3 E C inl ops f cs lo hi' L' owns s' k) hE hi hs hk h ho hdst hnk hun (g1 hg) hts hao her fun s1 ρ1 S1 a1 w1 hk1 h1 he hts1=>?_);exact B9 hE hi hs hQ f R cs lo hi' (L.setIfInBounds p true) owns _ k r hk1 (by simp[hsz]) A AN HA AO er ρ1 S1 a1 w1 m h1 hts1 hao how herS (by omega) fun s' AN' HA' AO' er' ρ' S' a' w' L' n' hk' dk=>
        hK s' AN' HA' AO' er' ρ' S' a' w' L' n' hk' ⟨dk.rp,he.trans dk.ext,dk.ts,dk.an,dk.ha,dk.ao,dk.er,dk.i6,dk.size,dk.all,fun q hq=>(dk.out q hq).trans (hout q hq)⟩
      ·rename_i d b hg;exact ask (g3 d b hg) hk
      ·cases hk
     ·split at hk
      ·rename_i d b hl;exact ask (g01 h hl) hk
      ·split at hk<;>try cases hk
       rename_i c i0 l0 hfk hr;obtain⟨d,hd,hk⟩:=O8 hk;have hall:=l03 hd;obtain⟨m,rfl⟩:∃m,n=m+1:=⟨n-1,by
        obtain⟨hun,hps⟩:=d0U (L:=L) (ops:=ops) (p:=i0) (by rw[hr];simp);have:=h0P (ops:=ops) hps hun;omega⟩
       refine v0u (by rw[hr];simp) fun p hp=>?_;obtain⟨hun,hps⟩:=d0U hp;have hbr:=hall _ (mem_map.2 ⟨p,hp,rfl⟩);unfold p0c at hbr;split at hbr<;>try cases hbr
       rename_i o ho;split at hbr<;>try cases hbr
       rename_i hb;simp only[and_eq_true,ble_eq,blt_eq,not_eq_true']at hb;obtain⟨⟨⟨hdst,hp1⟩,hp2⟩,hnk⟩:=hb;obtain⟨g1,g2,g3⟩:=b0w h (ops:=ops) (o:=o);split at hbr<;>try cases hbr
       rename_i hg;refine⟨o,ho,?_⟩;have hc:=e0e (ops:=ops) hps hun;have hout:∀q,(q<p0\/hi'<=q)->(L.setIfInBounds p true).getD q true=L.getD q true:=fun q hq=>getD_set_ne true (by omega);have herS:∀m∈er,U2 (L.setIfInBounds p true) m=false:=fun m hm=>by rw[b9,her m hm];rfl
       refine n0M (rec:=fun L' s'=>R3 E C inl ops f cs p0 hi' L' owns s' fun s''=>H7 E s s'' c) hE hi hs hbr h ho hdst hnk hun (g1 hg) hts hao her fun s1 ρ1 S1 a1 w1 hk1 h1 he hts1=>?_;refine B9 hE hi hs hQ f _ cs p0 hi' (L.setIfInBounds p true) owns _ _ d hk1 (by simp[hsz]) A AN HA AO er ρ1 S1 a1 w1 m h1 hts1 hao how herS (by omega) fun s' AN' HA' AO' er' ρ' S' a' w' L' n' hp' dk=>?_;obtain⟨u,ρ2,S2,q1,q2,q3,_⟩:=b0y (A:=A.with AN' HA) hE (fun i u ha=>(h.hp i u ha).1) h (dk.rp.j8 (AN:=AN') (HA:=HA) (fun H1 S1 ha=>dk.rp.kp H1 S1 ha) (fun i u ha=>dk.rp.hp i u (dk.ha i u ha))) (he.trans dk.ext) hp' hk;have hLL:L'=q9 L (hi'-p0) p0:=by
        refine m0m (by rw[dk.size,h0l,hsz]) fun q=>?_;rw[g00]
        by_cases hrr:p0<=q/\q<p0+(hi'-p0)
        ·rw[decide_eq_true hrr,Bool.true_or];have:=dk.all q hrr.1 (by omega);rw[n0D]at this;simpa using this
        ·rw[decide_eq_false hrr,Bool.false_or];exact(dk.out q (by omega)).trans (hout q (by omega))
       rw[<-hLL]at q1;refine B9 hE hi hs hQ f R _ lo hi' L' _ u _ r q1 dk.size A AN' HA AO' er' ρ2 S2 a' w' n' q2 dk.ts ?_ ?_ dk.er dk.i6 fun s'' AN'' HA'' AO'' er'' ρ'' S'' a'' w'' L'' n'' hk' dk'=>?_
       ·intro q hq;rcases dk.ao q hq with⟨o',h4,h5⟩|⟨h4,h5,o,ho,hl⟩
        ·exact⟨o',List.mem_append_right _ h4,h5⟩
        ·exact⟨_,List.mem_append_left _ (m0Y h4 (by omega) ho hl),rfl,fun q0 hq0=>by cases hq0⟩
       ·intro o' ho' q hq;rcases mem_append.1 ho' with h5|h5
        ·obtain⟨_,_,rfl⟩:=mem_map.1 h5;cases hq
        ·exact how o' h5 q hq
       ·refine hK s'' AN'' HA'' AO'' er'' ρ'' S'' a'' w'' L'' n'' hk' ⟨dk'.rp,q3.trans dk'.ext,dk'.ts,fun H1 S1 ha=>dk'.an H1 S1 (dk.an H1 S1 ha),fun i x hx=>dk'.ha i x hx,fun q hq=>?_,dk'.er,dk'.i6,dk'.size,dk'.all,fun q hq=>(dk'.out q hq).trans ((dk.out q (by omega)).trans (hout q (by omega)))⟩;rcases dk'.ao q hq with⟨o',h4,h6⟩|h4
        ·rcases mem_append.1 h4 with h5|h5
         ·obtain⟨e1,e2,e3⟩:=n0T h5;rw[h6.1]at e1 e2 e3;exact .inr ⟨by omega,by omega,e3⟩
         ·exact .inl ⟨o',h5,h6⟩
        ·exact .inr h4
def y0Q (hE:B1 E){C:X1 E}(hs:a0j E C):k0M E C:=by
 intro inl hi R cs id ops s k r hk A ρ S a as w h Q hQ hK;refine wp_region_any hE.mix (i0W (S:=TS ops A.j8 [] []) _ _ _ _ ?_);have hcnt:i6 ops (Array.replicate ops.size false)<=ops.size:=by
  unfold i6;exact Nat.le_trans (List.length_filter_le _ _) (by simp)
 refine B9 hE hi hs hQ 100000 R cs 0 ops.size _ [] s k r hk (by simp) A A.j8 A.hda [] [] ρ S a _ _ ⟨⟨⟨h.cx.bel.1,h.cx.bel.2,h.cx.bel.3,h.cx.bel.4,h.cx.bel.5⟩,h.cx.sub,h.cx.lt,h.cx.lt0⟩,h.fr,h.stk,h.th,h.ow,h.dj,h.lt,h.rf,h.kp,h.hp⟩ ⟨fun H1 S1 ha=>⟨S,h.kp H1 S1 ha⟩,by simp⟩ (by simp) (by simp) (by simp) hcnt fun s' AN' HA' AO' er' ρ' S' a' w' L' n' hk' dk=>?_;exact n0Q (w0c fun p hp=>dk.all p (Nat.zero_le _) hp) (hK s' ρ' S' a' w' hk' (dk.rp.y0D dk.an dk.ha) dk.ext)
end
end
