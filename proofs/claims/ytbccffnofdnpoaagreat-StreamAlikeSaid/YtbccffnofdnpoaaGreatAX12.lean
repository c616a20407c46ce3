/- P. Its conditions: none. -/
import Derived.Test.YtbccffnofdnpoaaGreatAX11
open List (mem_cons mem_map mem_append)
open Bool (and_eq_true not_eq_true')
open Nat (blt_eq ble_eq)
set_option linter.all false
namespace Go.X
open Go.V Go.RowKit
section
variable {E:Env}{ops:Array Oper}{Q:Exit->Act->World->Prop}
def e0o (ops:Array Oper)(m:Nat):Bool:=match ops[m]? with
 |some o=>!f0Z o
 |none=>false
structure U7 where
 h:M0
 i:Nat
 v:Option Value
def U7.has (p:U7)(k:Nat):Prop:=∀u,p.v=some u->D1 u=some k
structure TS (ops:Array Oper)(AN:M0->E0->Prop)(AO:List U7)(er:List Nat)(L:Array Bool)(w:World):Prop where
 an:∀H1 S1,AN H1 S1->∃S',Y0 H1 S1 w.heap S'
 ao:∀p∈AO,(∀m,e0o ops m=true->f0z ops m p.i=true->m∉er->L.getD m false=false)->∀k,k<p.h.size->p.has k->w.heap[k]?=p.h[k]?
def p0e {S b:Array Bool->World->Prop}(h:∀L w,S L w->b L w):∀(n:Nat) (L:Array Bool) (a:Act) (w:World),wpS E.P ops Q S n L a w->wpS E.P ops Q b n L a w
 |0,L,a,w,hw=>hw
 |n+1,L,a,w,hw=>⟨hw.1,fun i hi=>wpOp_mono (fun c w' k=>⟨h _ _ k.1,p0e h n _ c w' k.2⟩) (hw.2 i hi)⟩
def TS.mono {AN b:M0->E0->Prop}{d c:List U7}{er:List Nat}(h1:∀H S,AN H S->b H S)(e:∀p∈d,p∈c){L:Array Bool}{w:World}(h:TS ops b c er L w):TS ops AN d er L w:=
 ⟨fun H S ha=>h.an H S (h1 H S ha),fun p hp=>h.ao p (e p hp)⟩
def TS.er {AN:M0->E0->Prop}{b:List U7}{er:List Nat}{q:Nat}{L:Array Bool}{w:World}(h:TS ops AN b (q :: er) L w):TS ops AN b er L w:=
 ⟨h.an,fun p hp hm=>h.ao p hp fun m h1 d c=>hm m h1 d (fun e=>c (List.mem_cons_of_mem _ e))⟩
theorem TS.set {AN:M0->E0->Prop}{c:List U7}{er:List Nat}{i:Nat}(hi:e0o ops i=false\/i∈er){L:Array Bool}{w:World}:TS ops AN c er (L.setIfInBounds i true) w↔TS ops AN c er L w:=by
 have key:∀m,e0o ops m=true->m∉er->(L.setIfInBounds i true).getD m false=L.getD m false:=fun m h1 b=>by
  have:i≠m:=by
   grind
  simp_all
 constructor
 ·exact fun h=>⟨h.an,fun p hp hm=>h.ao p hp fun m h1 b d=>by simp_all⟩
 ·exact fun h=>⟨h.an,fun p hp hm=>h.ao p hp fun m h1 b d=>by simp_all⟩
def N9 (ops:Array Oper)(L:Array Bool):Nat:=((List.range ops.size).filter fun p=>a6 L p).length
def e0l {L:Array Bool}{p q:Nat}:a6 (L.setIfInBounds p true) q=(a6 L q&&!decide (p=q)):=by
 unfold a6
 by_cases h:p=q
 ·simp_all
 simp_all
theorem e0a {L:Array Bool}{p:Nat}(h1:p<ops.size)(c:a6 L p=true):N9 ops (L.setIfInBounds p true)+1<=N9 ops L:=by
 have:∀l:List Nat,p∈l->(l.filter fun q=>a6 (L.setIfInBounds p true) q).length+1<=(l.filter fun q=>a6 L q).length:=by
  intro l
  induction l with
  |nil=>simp
  |cons x l ih=>
   have hle:∀l:List Nat,(l.filter fun q=>a6 (L.setIfInBounds p true) q).length<=(l.filter fun q=>a6 L q).length:=by
    intro l;have e:(l.filter fun q=>a6 (L.setIfInBounds p true) q)=(l.filter fun q=>a6 L q).filter fun q=>!decide (p=q):=by
     simp[e0l,Bool.and_comm]
    grind
   intro hm
   by_cases b:p=x
   ·simp_all[e0l]
   ·have hm:p∈l:=by
     simp_all
    have:=ih hm;simp only[e0l]at this;simp only[List.filter_cons,e0l,b,decide_false,Bool.not_false,Bool.and_true]
    grind
 exact this _ (List.mem_range.2 h1)
theorem q0p {L:Array Bool}{p:Nat}:a6 L p=true↔L[p]?=some false:=by
 unfold a6;rw[Array.getD_eq_getD_getElem?]
 grind
theorem i0d {L:Array Bool}{p:Nat}(h:p∈Region.ready .any ops L):a6 L p=true/\p<ops.size:=by
 grind [mem_ready,a6]
theorem D0r {L:Array Bool}(h:∀p,p<ops.size->a6 L p=false):Region.ready .any ops L=[]:=by
 cases b:Region.ready .any ops L with
 |nil=>rfl
 |cons p l=>
  have:=i0d (p:=p) (ops:=ops) (L:=L) (by simp_all)
  grind
variable {A:A5}{s:St E.D}{ρ:Nat->Value}{S:E0}{a:Act}{as:List Act}{w:World}
def A5.with (A:A5)(AN:M0->E0->Prop)(HA:Nat->Value->Prop):A5:={ A with anc:=AN,hda:=HA }
def Rp.anc {b:M0->E0->Prop}{c:Nat->Value->Prop}(h:Rp E (A.with b c) s ρ S a as w){AN:M0->E0->Prop}{HA:Nat->Value->Prop}(hk:∀H1 S1,AN H1 S1->Y0 H1 S1 w.heap S)(d:∀i u,HA i u->i<s.nid/\hd (ρ i)=u):Rp E (A.with AN HA) s ρ S a as w:=
 ⟨h.cx,h.fr,h.stk,h.th,h.ow,h.dj,h.lt,h.rf,hk,d⟩
def Rp.D0d {AN:M0->E0->Prop}{HA:Nat->Value->Prop}(h:Rp E (A.with AN HA) s ρ S a as w)(hk:∀H1 S1,A.anc H1 S1->AN H1 S1)(b:∀i u,A.hda i u->HA i u):Rp E A s ρ S a as w:=
 ⟨h.cx,h.fr,h.stk,h.th,h.ow,h.dj,h.lt,h.rf,fun H1 S1 ha=>h.kp H1 S1 (hk H1 S1 ha),fun i u ha=>h.hp i u (b i u ha)⟩
def e0T (H:M0)(p:Nat)(ov:Option (Option Value))(b:List U7):List U7:=match ov with
 |some v=>⟨H,p,v⟩ :: b
 |none=>b
def L0t {H:M0}{p:Nat}{ov:Option (Option Value)}{b:List U7}{q:U7}(h:q∈b):q∈e0T H p ov b:=by
 cases ov with
 |none=>exact h
 |some v=>exact List.mem_cons_of_mem _ h
def r0i {H:M0}{p:Nat}{ov:Option (Option Value)}{b:List U7}{q:U7}(h:q∈e0T H p ov b):q∈b\/∃v,ov=some v/\q=⟨H,p,v⟩:=by
 cases ov with
 |none=>exact .inl h
 |some v=>
  rcases mem_cons.1 h with rfl|h
  ·simp
  simp_all
def O0W {AN:M0->E0->Prop}{b:List U7}{er:List Nat}{n p:Nat}{L:Array Bool}{o:Oper}{u:Value}{B:Nat->Prop}{ov:Option (Option Value)}(R:∀k,B k->∃v,ov=some v/\∀x,v=some x->D1 x=some k)(C:NoP Q)(t:ops[p]?=some o)(g:okQ ops L p=true)(U:p∈Region.ready .any ops L)(he:e0o ops p=false)
  (hw:Region.wanted o (yielded ops a.tmps)=true) (d:∀w',l6 E s S w B w'->(execOp a.eval o).run E.P w'=.ok (.value u) w') (e:TS ops AN b er L w)
  (hk:wpS E.P ops Q (TS ops (fun H1 S1=>AN H1 S1\/(H1=w.heap/\S1=S)) (e0T w.heap p ov b) er) n (L.setIfInBounds p true) (a.put o.dst u) w):wpS E.P ops Q (TS ops AN b er) (n+1) L a w:=by
 simp only[okQ,and_eq_true]at g;obtain⟨⟨h1,j⟩,y⟩:=g;have f:TS ops (fun H1 S1=>AN H1 S1\/(H1=w.heap/\S1=S)) (e0T w.heap p ov b) er L w:=by
  refine⟨fun H1 S1 ha=>?_,fun q hq=>?_⟩
  ·rcases ha with ha|⟨rfl,rfl⟩
   ·exact e.an H1 S1 ha
   ·exact⟨S1,Y0.refl _ _⟩
  ·rcases r0i hq with hq|⟨v,_,rfl⟩
   ·exact e.ao q hq
   simp
 refine p0e (S:=TS ops (fun H1 S1=>AN H1 S1\/(H1=w.heap/\S1=S)) (e0T w.heap p ov b) er) (fun L w h=>h.mono (fun _ _ h=>.inl h) (fun q hq=>L0t hq)) _ _ _ _ ?_;refine q0z (S:=TS ops (fun H1 S1=>AN H1 S1\/(H1=w.heap/\S1=S)) (e0T w.heap p ov b) er) (Sx:=fun w'=>l6 E s S w B w') t (Region.noSelect_spec h1) (fun c a w hp=>absurd hp (C c _ w)) (fun r w' J hu hs=>⟨?_,fun k hk i=>?_⟩)
  (fun r w' hs _=>(TS.set (.inl he)).1 hs) (fun r w' hs=>(TS.set (.inl he)).2 hs) n L a w (q0s y) (Region.free_spec t j) U (.inl ⟨hw,fun w' l=>d w' l⟩) f hk
 ·exact hs.an w.heap S (.inr ⟨rfl,rfl⟩)
 ·obtain⟨v,z,I⟩:=R k hk;subst z;exact hs.ao ⟨w.heap,p,v⟩ (by simp[e0T]) (fun m _ j _=>y0g J j hu) k i I
theorem F07 {AN:M0->E0->Prop}{b:List U7}{er:List Nat}{n p:Nat}{L:Array Bool}{o:Oper}(r:NoP Q)(g:ops[p]?=some o)(d:okQ ops L p=true)(i:p∈Region.ready .any ops L)
  (hw:Region.wanted o (yielded ops a.tmps)=false) (e:TS ops AN b er L w)
  (hk:wpS E.P ops Q (TS ops AN b (p :: er)) n (L.setIfInBounds p true) (a.put o.dst undef) w):wpS E.P ops Q (TS ops AN b er) (n+1) L a w:=by
 simp only[okQ,and_eq_true]at d;obtain⟨⟨h1,t⟩,j⟩:=d;have l:=(mem_ready.1 i).1;have f:TS ops AN b (p :: er) L w:=⟨e.an,fun q hq hm=>e.ao q hq fun m x u y=>by
  grind⟩
 refine p0e (S:=TS ops AN b (p :: er)) (fun L w h=>h.er) _ _ _ _ ?_;exact q0z (S:=TS ops AN b (p :: er)) (Sx:=fun _=>True) g (Region.noSelect_spec h1) (fun c a w hp=>absurd hp (r c _ w)) (fun _ _ _ _ _=>trivial)
  (fun k w' hs _=>(TS.set (.inr V')).1 hs) (fun k w' hs=>(TS.set (.inr V')).2 hs) n L a w (q0s j) (Region.free_spec g t) i (v:=undef) (.inr ⟨hw,rfl⟩) f hk
section
variable {E:Env}{ops:Array Oper}{Q:Exit->Act->World->Prop}{as:List Act}
def z0X:∀{n lo:Nat} {L:Array Bool},f0l L n lo=none->∀q,lo<=q->q<lo+n->a6 L q=false
 |0,lo,L,_,q,h1,b=>O'
 |n+1,lo,L,h,q,h1,b=>by
  simp only[f0l]at h;split at h
  ·cases h
  ·by_cases e:q=lo
   ·simp_all
   ·exact z0X h q O' O'
theorem w0j:∀{n lo p:Nat} {L:Array Bool},f0l L n lo=some p->lo<=p/\p<lo+n/\a6 L p=true
 |0,lo,p,L,h=>by grind [f0l]
 |n+1,lo,p,L,h=>by
  simp only[f0l]at h;split at h
  ·simp_all
  ·obtain⟨h1,c,b⟩:=w0j h
   grind
def p0p:∀(n lo:Nat) (L:Array Bool),(c03 L n lo).size=L.size
 |0,lo,L=>rfl
 |n+1,lo,L=>by simp[c03,p0p]
theorem q0P:∀(n lo q:Nat) (L:Array Bool),(c03 L n lo).getD q true=(decide (lo<=q/\q<lo+n)||L.getD q true)
 |0,lo,q,L=>by
  have:¬(lo<=q/\q<lo+0):=O'
  rw[decide_eq_false this,Bool.false_or];rfl
 |n+1,lo,q,L=>by
  rw[c03,q0P n (lo+1) q]
  by_cases e:lo=q
  ·simp_all
  ·rw[getD_set_ne true e]
   grind
def z0t {L b:Array Bool}(h1:L.size=b.size)(d:∀q,L.getD q true=b.getD q true):L=b:=by
 apply Array.ext h1;intro i hi c;have:=d i
 simp_all
def z0y {L:Array Bool}{q:Nat}:a6 L q=!L.getD q true:=rfl
theorem y0Y:∀{n lo q:Nat} {o:Oper},lo<=q->q<lo+n->ops[q]?=some o->d0I o=true->q∈d0u ops n lo
 |0,lo,q,o,h1,c,_,_=>O'
 |n+1,lo,q,o,h1,c,ho,hl=>by
  have hq:q<ops.size:=(Array.getElem?_eq_some_iff.1 ho).1;have b:ops[lo]?=some (ops[lo]' O'):=V'
  simp only[d0u,b]
  by_cases e:q=lo
  ·simp_all
  ·have:=y0Y (n:=n) (lo:=lo+1) O' O' ho hl
   grind
theorem v0X:∀{n lo q:Nat},q∈d0u ops n lo->lo<=q/\q<lo+n/\∃o,ops[q]?=some o/\d0I o=true
 |0,lo,q,h=>by grind [d0u]
 |n+1,lo,q,h=>by
  simp only[d0u]at h;split at h
  ·have up:q∈d0u ops n (lo+1)->lo<=q/\q<lo+(n+1)/\∃o,ops[q]?=some o/\d0I o=true:=fun h=>by
    obtain⟨h1,c,b⟩:=v0X h
    grind
   grind
  grind
theorem I0w {s:St E.D}{o:Oper}(h:D9 E s o=true):d0I o=true:=by
 grind [D9,d0I]
def u0V {L:Array Bool}{p:Nat}(h1:p<ops.size)(b:a6 L p=true):0<N9 ops L:=Nat.lt_of_lt_of_le (Nat.succ_pos _) (e0a h1 b)
theorem u0T {s:St E.D}{o:Oper}{q:Nat}(h:F9 E s o=some q):G0 s q≠.gone:=by
 unfold F9 at h;unfold rdP at h
 grind
def InR (ops:Array Oper)(lo hi:Nat)(q:Nat):Prop:=lo<=q/\q<hi/\∃o,ops[q]?=some o/\d0I o=true
def MO (HA:Nat->Value->Prop)(o:Nat×Option Nat)(p:U7):Prop:=o.1=p.i/\∀q,o.2=some q->∃u,p.v=some u/\HA q u
def MO.mono {HA b:Nat->Value->Prop}(h:∀i u,HA i u->b i u){o:Nat×Option Nat}{p:U7}(hm:MO HA o p):MO b o p:=⟨hm.1,fun q hq=>by
 obtain⟨u,h1,c⟩:=hm.2 q hq
 simp_all⟩
theorem MO.back {HA b:Nat->Value->Prop}(h:∀i u,HA i u->b i u){g:Nat->Value}(hp:∀i u,b i u->g i=u){o:Nat×Option Nat}{p:U7}(hw:∀q,o.2=some q->∃u,HA q u)(hm:MO b o p):MO HA o p:=⟨hm.1,fun q hq=>by
 obtain⟨u,h1,c⟩:=hm.2 q hq
 grind⟩
def x0h {n lo q:Nat}{o:Oper}(h1:lo<=q)(b:q<lo+n)(c:ops[q]?=some o)(hl:d0I o=true):(q,none)∈k01 ops n lo:=mem_map.2 ⟨q,y0Y h1 b c hl,rfl⟩
def y0A {n lo:Nat}{o:Nat×Option Nat}(h:o∈k01 ops n lo):lo<=o.1/\o.1<lo+n/\∃x,ops[o.1]?=some x/\d0I x=true:=by
 obtain⟨q,h1,rfl⟩:=mem_map.1 h;exact v0X h1
structure DK (E:Env)(ops:Array Oper)(Q:Exit->Act->World->Prop)(A:A5)(as:List Act)(AN:M0->E0->Prop)(HA:Nat->Value->Prop)(owns:List (Nat×Option Nat))(lo hi:Nat)(s:St E.D)(L:Array Bool)(s':St E.D)(AN':M0->E0->Prop)(HA':Nat->Value->Prop)(AO':List U7)(er':List Nat)(ρ':Nat->Value)(S':E0)(a':Act)(w':World)(L':Array Bool)(n':Nat):Prop where
 rp:Rp E (A.with AN' HA') s' ρ' S' a' as w'
 ext:Ext s s'
 ts:TS ops AN' AO' er' L' w'
 an:∀H S,AN H S->AN' H S
 ha:∀i u,HA i u->HA' i u
 ao:∀p∈AO',(∃o∈owns,MO HA o p)\/InR ops lo hi p.i
 er:∀m∈er',a6 L' m=false
 N9:N9 ops L'<=n'
 size:L'.size=ops.size
 all:∀q,lo<=q->q<hi->a6 L' q=false
 out:∀q,(q<lo\/hi<=q)->L'.getD q true=L.getD q true
def z0h {α:Type}{r:α}:∀{l:List (Option α)},k0A l=some r->∀x∈l,x=some r
 |[],h=>by cases h
 |[a],h=>by intro x c;simp at c;subst c;exact h
 |a :: b :: l,h=>by
  obtain⟨h1,d⟩:=r0s (show same a (k0A (b :: l))=some r from h);intro x c;rcases mem_cons.1 c with rfl|c
  ·exact h1
  ·exact z0h d x c
theorem o04 {A:A5}{s:St E.D}{ρ:Nat->Value}{S:E0}{a:Act}{w:World}(h:Rp E A s ρ S a as w){d:Nat}{b:Bool}:∀{l:List Nat},h0M E s ops l=some (d,b)->a.tmps.getD d undef=.bool b
 |[],hl=>by cases hl
 |p :: l,hl=>by
  simp only[h0M]at hl;split at hl
  ·split at hl
   ·grind [g0X]
   ·exact o04 h hl
  ·exact o04 h hl
theorem L0A {D:Nat->Type}{s s1:St D}{q:Nat}(h:q0B s s1=false)(hq:q<s.nid):c7 s s1 q=false:=by
 grind [q0B,c7,Nat.beq_eq,blt_eq]
theorem z09 {A:A5}{s:St E.D}{ρ:Nat->Value}{S:E0}{a:Act}{w:World}(hE:G2 E){C:P3 E}{inl:Inl E}(hi:e0J E inl)(hs:e0q E C){R:Type}{rec:Array Bool->St E.D->Option R}{p:Nat}{L:Array Bool}{owns:List (Nat×Option Nat)}{o:Oper}{r:R}{AN:M0->E0->Prop}{HA:Nat->Value->Prop}{g:List U7}{er:List Nat}{K:Act->World->Prop}
  (hk:opV E C inl s o (fun s' v=>match owns.all (m0w ops (c0e E C s o) s s' p)with|true=>rec (L.setIfInBounds p true) (s'.put o.dst v)|false=>none)=some r) (h:Rp E (A.with AN HA) s ρ S a as w) (ho:ops[p]?=some o) (l:c0H s.n o=true) (c4:f0Z o=false) (b1:a6 L p=true) (hw:Region.wanted o (yielded ops a.tmps)=true)
  (t:TS ops AN g er L w) (x:∀p∈g,∃o∈owns,MO HA o p) (c6:∀m∈er,a6 L m=false)
  (f:∀s1 ρ1 S1 a1 w1,rec (L.setIfInBounds p true) s1=some r->Rp E (A.with AN HA) s1 ρ1 S1 a1 as w1->Ext s s1->TS ops AN g er (L.setIfInBounds p true) w1->K a1 w1):
  wpList E.P ops (Exit.then (fun a' w'=>TS ops AN g er (L.setIfInBounds p true) w'/\K a' w') Q) [o] a w:=by
 have b4:e0o ops p=true:=by simp_all[e0o]
 have c3:p∉er:=fun hm=>by simp_all
 have c8:L.getD p false=false:=by
  simp_all[q0p]
 have c5:(L.setIfInBounds p true).getD p false=true:=by
  have:=(Array.getElem?_eq_some_iff.1 (q0p.1 b1)).1
  simp_all
 unfold wpList;rw[if_pos hw];refine .inl (t09 hE hi hs hk h fun s1 v u ρ1 S1 w1 d h1 hv he e5 hold=>?_);split at d<;>try cases d
 rename_i b;have c:TS ops AN g er (L.setIfInBounds p true) w1:=by
  refine⟨fun H2 S2 ha=>⟨S1,h1.kp H2 S2 ha⟩,fun q hq hm k b3 j=>?_⟩;obtain⟨ow,y,i⟩:=x q hq;have b:=List.all_eq_true.1 b ow y;unfold m0w at b;rw[Bool.or_eq_true]at b;rcases b with b|b
  ·rw[i.1]at b
   simp_all
  ·rw[and_eq_true,Bool.or_eq_true,not_eq_true']at b;have h5:=t.ao q hq (fun m e1 e2 e3=>by
    by_cases e4:p=m
    ·simp_all
    ·have:=hm m e1 e2 e3
     simp_all) k b3 j
   have J:k<w.heap.size:=by
    grind
   refine(hold b.1 k J (fun id e1 e0 e2 hb=>?_)).trans h5;rcases b.2 with hc|hc
   ·simp_all[L0A]
   ·split at hc<;>try cases hc
    rename_i q0 I;rw[and_eq_true,not_eq_true']at hc;obtain⟨u0,U,b2⟩:=i.2 q0 I;obtain⟨_,z⟩:=h.hp q0 u0 b2;refine h.dj id q0 (fun e=>?_) e0 hc.2 k hb (Bk.hd (by rw[z];exact j u0 U))
    simp_all
 exact u0r c (f _ ρ1 S1 (a.put o.dst u) w1 d (h1.f0H l he.n hv) (he.trans (Ext.put s1 o.dst v)) c)
def H0q {a:Act}{w:World}{P:Program}{S:Array Bool->World->Prop}{L:Array Bool}{fuel:Nat}(f:Region.ready .any ops L≠[])
  (h:∀i∈Region.ready .any ops L,∃o,ops[i]?=some o/\wpList P ops (Exit.then (fun c w'=>S (L.setIfInBounds i true) w'/\wpS P ops Q S fuel (L.setIfInBounds i true) c w') Q) [o] a w):wpS P ops Q S (fuel+1) L a w:=by
 refine⟨fun b=>absurd b f,fun j e=>?_⟩;obtain⟨o,d,hw⟩:=h j e;exact z0f d hw
theorem d0w (hE:G2 E){C:P3 E}{inl:Inl E}(hi:e0J E inl)(hs:e0q E C)(hQ:NoP Q):∀(f:Nat) (R:Type) (cs:List (Nat×Nat×Cut)) (lo hi:Nat) (L:Array Bool) (owns:List (Nat×Option Nat)) (s:St E.D) (k:St E.D->Option R) (r:R),
  O6 E C inl ops f cs lo hi L owns s k=some r->L.size=ops.size->∀(A:A5) (AN:M0->E0->Prop) (HA:Nat->Value->Prop) (AO:List U7) (er:List Nat) (ρ:Nat->Value) (S:E0) (a:Act) (w:World) (n:Nat),
  Rp E (A.with AN HA) s ρ S a as w->TS ops AN AO er L w->(∀p∈AO,∃o∈owns,MO HA o p)->(∀o∈owns,∀q,o.2=some q->∃u,HA q u)->(∀m∈er,a6 L m=false)->N9 ops L<=n->
  (∀s' t b2 z y ρ' S' a' w' L' n',k s'=some r->DK E ops Q A as AN HA owns lo hi s L s' t b2 z y ρ' S' a' w' L' n'->wpS E.P ops Q (TS ops t z y) n' L' a' w')->
  wpS E.P ops Q (TS ops AN AO er) n L a w
 |0,R,cs,lo,hi,L,owns,s,k,r,hk,c5=>by grind [O6]
 |f+1,R,cs,lo,hi',L,owns,s,k,r,hk,c5=>by
  intro A AN HA AO er ρ S a w n h U c8 c3 e6 hn hK;simp only[O6]at hk;split at hk
  ·rename_i hu;have i1:∀q,lo<=q->q<hi'->a6 L q=false:=fun q h1 h2=>z0X hu q h1 O';exact hK s AN HA AO er ρ S a w L n hk ⟨h,Ext.refl s,U,fun _ _ h=>h,fun _ _ h=>h,fun p hp=>.inl (c8 p hp),e6,hn,c5,i1,fun _ _=>rfl⟩
  ·rename_i p0 hu;obtain⟨u1,u2,u3⟩:=w0j hu;have ask:∀{d:Nat} {b:Bool},a.tmps.getD d undef=.bool b->(if b then O6 E C inl ops f cs lo hi' L owns (s.put (some d) (.kb true)) k else O6 E C inl ops f cs lo hi' L owns (s.put (some d) (.kb false)) k)=some r->wpS E.P ops Q (TS ops AN AO er) n L a w:=by
    intro d b hb hk;have:O6 E C inl ops f cs lo hi' L owns (s.put (some d) (.kb b)) k=some r:=by grind
    exact d0w hE hi hs hQ f R cs lo hi' L owns _ k r this c5 A AN HA AO er ρ S a w n (h.o0J (by simp_all[VS.kb])) U c8 c3 e6 hn fun s' t b2 z y ρ' S' a' w' L' n' b1 dk=>
     hK s' t b2 z y ρ' S' a' w' L' n' b1 ⟨dk.rp,(Ext.put s (some d) _).trans dk.ext,dk.ts,dk.an,dk.ha,dk.ao,dk.er,dk.N9,dk.size,dk.all,dk.out⟩
   split at hk
   ·rename_i p hp;split at hk<;>try cases hk
    rename_i o ho;split at hk<;>try cases hk
    rename_i n9;rw[and_eq_true]at n9;obtain⟨b3,n4⟩:=n9;have e7:p∈Region.ready .any ops L:=List.mem_of_find?_eq_some hp;have n3:=List.find?_some hp;simp only[and_eq_true,ble_eq,blt_eq,ho]at n3;obtain⟨⟨⟨l3,k5⟩,_⟩,p3⟩:=n3;obtain⟨J,e5⟩:=i0d e7;have hc:=e0a (ops:=ops) e5 J;obtain⟨m,rfl⟩:∃m,n=m+1:=⟨n-1,O'⟩
    have b4:∀q,(q<lo\/hi'<=q)->(L.setIfInBounds p true).getD q true=L.getD q true:=fun q hq=>getD_set_ne true O';have c6:∀m∈er,a6 (L.setIfInBounds p true) m=false:=fun m hm=>by simp_all[e0l]
    obtain⟨g1,g2,g3⟩:=g0X h (ops:=ops) (o:=o);have step:∀{sB:St E.D} {ρB:Nat->Value} {v:V E.D} {u:Value},Rp E (A.with AN HA) sB ρB S a as w->Ext s sB->(∀q,F9 E s o=some q->q<sB.nid/\hd (ρB q)=hd (ρ q))->b0C E s ops o=.yes->VS E ρB sB.nid w.heap S v u->(∀w',l6 E s S w (e0D E s ρ o) w'->(execOp a.eval o).run E.P w'=.ok (.value u) w')->
      O6 E C inl ops f cs lo hi' (L.setIfInBounds p true) (match D9 E s o with|true=>(p,F9 E s o) :: owns|false=>owns) (sB.put o.dst v) k=some r->wpS E.P ops Q (TS ops AN AO er) (m+1) L a w:=by
     intro sB ρB v u hB o0 o1 hg hv n2 hk;have b3:c0H sB.n o=true:=by rw[o0.n];omega
     have o2:f0Z o=true:=by
      simp_all[m09]
     have j3:e0o ops p=false:=by unfold e0o;rw[ho];simp[o2]
     refine O0W (B:=e0D E s ρ o) (ov:=if D9 E s o then some ((F9 E s o).map fun q=>hd (ρ q))else none) (fun k hk=>?_) hQ ho n4 e7 j3 (g1 hg) n2 U ?_
     ·rw[if_pos hk.1];refine⟨_,rfl,fun x hx=>?_⟩;obtain⟨q,hq,rfl⟩:=Option.map_eq_some_iff.1 hx;exact hk.2 q hq
     have h2:=(hB.anc (AN:=fun H1 S1=>AN H1 S1\/(H1=w.heap/\S1=S)) (HA:=fun i x=>HA i x\/(F9 E s o=some i/\x=hd (ρ i))) (fun H1 S1 ha=>by
      rcases ha with ha|⟨rfl,rfl⟩
      ·exact h.kp H1 S1 ha
      ·exact Y0.refl _ _) (fun i x hx=>by
      rcases hx with hx|⟨h1,rfl⟩
      ·exact hB.hp i x hx
      ·exact o1 i h1))
     refine d0w hE hi hs hQ f R cs lo hi' _ _ _ k r hk (by simp[c5]) A _ _ _ er ρB S _ w m (h2.f0H b3 rfl hv) ?_ ?_ ?_ c6 O' fun s' t b2 z y ρ' S' a' w' L' n' b1 dk=>?_
     ·refine(TS.set (.inl j3)).2 ⟨fun H1 S1 ha=>?_,fun q hq=>?_⟩
      ·rcases ha with ha|⟨rfl,rfl⟩
       ·exact U.an H1 S1 ha
       ·exact⟨S1,Y0.refl _ _⟩
      ·rcases r0i hq with hq|⟨v,_,rfl⟩
       ·exact U.ao q hq
       ·exact fun _ k _ _=>rfl
     ·intro q hq;rcases r0i hq with hq|⟨v,e1,rfl⟩
      ·obtain⟨o',h5,h6⟩:=c8 q hq;refine⟨o',?_,h6.mono fun _ _ h=>.inl h⟩;cases D9 E s o<;>simp[h5]
      ·cases I:D9 E s o with
       |false=>rw[I]at e1;simp at e1
       |true=>
        rw[I]at e1;simp only[if_true,Option.some.injEq]at e1;refine⟨(p,F9 E s o),V',rfl,fun q hq=>⟨hd (ρ q),?_,.inr ⟨hq,rfl⟩⟩⟩;have hq:F9 E s o=some q:=hq;show v=_;rw[<-e1,hq];rfl
     ·intro o' c4 q hq;cases I:D9 E s o with
      |false=>
       rw[I]at c4;obtain⟨u,hu⟩:=c3 o' c4 q hq;exact⟨u,.inl hu⟩
      |true=>
       rw[I]at c4;rcases mem_cons.1 c4 with rfl|c4
       ·exact⟨_,.inr ⟨hq,rfl⟩⟩
       ·obtain⟨u,hu⟩:=c3 o' c4 q hq;exact⟨u,.inl hu⟩
     ·refine hK s' t b2 z y ρ' S' a' w' L' n' b1 ⟨dk.rp,o0.trans ((Ext.put sB o.dst v).trans dk.ext),dk.ts,fun H1 S1 ha=>dk.an H1 S1 (.inl ha),fun i x hx=>dk.ha i x (.inl hx),fun q hq=>?_,dk.er,dk.N9,dk.size,dk.all,fun q hq=>(dk.out q hq).trans (b4 q hq)⟩;have back:∀{o'},o'∈owns->MO _ o' q->MO HA o' q:=fun h8 h9=>h9.back (fun _ _ h=>.inl h) (g:=fun i=>hd (ρB i)) (fun i x hx=>(h2.hp i x hx).2) (c3 _ h8);rcases dk.ao q hq with⟨o',h3,h4⟩|h3
      ·cases I:D9 E s o with
       |false=>rw[I]at h3;exact .inl ⟨o',h3,back h3 h4⟩
       |true=>
        rw[I]at h3;rcases mem_cons.1 h3 with e|h3
        ·subst e;have e:=h4.1;simp only at e;rw[<-e];exact .inr ⟨l3,k5,o,ho,I0w I⟩
        ·exact .inl ⟨o',h3,back h3 h4⟩
      ·exact .inr h3
    have hq:=s0p hE h o;split at hk
    ·cases hk
    ·rename_i hg;split at hk
     ·split at hk<;>try cases hk
      rename_i q i g hb;obtain⟨⟨e1,e2⟩,u,ρ1,h1,_,h3,h4⟩:=w0c h hb;refine step h1 (Ext.new s _) (fun q hq=>by rw[e2]at hq;cases hq) hg h3 (fun w' hw=>h4 w' (hw.c04 fun k _=>⟨e1,fun q hq=>by rw[e2]at hq;cases hq⟩)) ?_;rw[e1,e2];exact hk
     ·rename_i v hv;rw[hv]at hq;obtain⟨u,h1,h2⟩:=hq;exact step h (Ext.refl s) (fun q hq=>⟨h.F7 (u0T hq),rfl⟩) hg h1 h2 hk
     ·rename_i b v hv;rw[hv]at hq;split at hk<;>try cases hk
      rename_i hb;obtain⟨u,h1,h2⟩:=hq hb;exact step h (Ext.refl s) (fun q hq=>⟨h.F7 (u0T hq),rfl⟩) hg h1 h2 hk
    ·rename_i hg;refine F07 hQ ho n4 e7 (g2 hg) U ?_;refine d0w hE hi hs hQ f R cs lo hi' _ _ _ k r hk (by simp[c5]) A AN HA AO (p :: er) ρ S _ w m (h.f0H b3 rfl VS.unit) ((TS.set (.inr V')).2 ⟨U.an,fun q hq hm=>U.ao q hq fun j e1 e2 e3=>?_⟩) c8 c3 ?_ O' fun s' t b2 z y ρ' S' a' w' L' n' b1 dk=>?_
     ·by_cases hj:j=p
      ·subst hj;rw[q0p]at J;rw[Array.getD_eq_getD_getElem?,J];rfl
      ·exact hm j e1 e2 (by simp[hj,e3])
     ·intro q hq;rcases mem_cons.1 hq with rfl|hq
      ·rw[e0l];simp
      ·exact c6 q hq
     ·exact hK s' t b2 z y ρ' S' a' w' L' n' b1 ⟨dk.rp,(Ext.put s o.dst _).trans dk.ext,dk.ts,dk.an,dk.ha,dk.ao,dk.er,dk.N9,dk.size,dk.all,fun q hq=>(dk.out q hq).trans (b4 q hq)⟩
    grind
   ·split at hk
    ·rename_i b c r' o3;split at hk<;>try cases hk
     rename_i hb;simp only[and_eq_true,ble_eq,blt_eq]at hb;obtain⟨⟨p4,o4⟩,p2⟩:=hb;obtain⟨d,hd,hk⟩:=c0p hk;refine d0w hE hi hs hQ f _ _ p0 (b+1) L owns s _ d hd c5 A AN HA AO er ρ S a w n h U c8 c3 e6 hn fun s' t b2 z y ρ' S' a' w' L' n' l4 dk=>?_;obtain⟨u,ρ1,S1,h1,h2,h3,_⟩:=d0T (A:=A.with t HA) hE (fun i u ha=>(h.hp i u ha).1) h (dk.rp.anc (AN:=t) (HA:=HA) (fun H1 S1 ha=>dk.rp.kp H1 S1 ha) (fun i u ha=>dk.rp.hp i u (dk.ha i u ha))) dk.ext l4 hk;have k6:L'=c03 L (b+1-p0) p0:=by
      refine z0t (by rw[dk.size,p0p,c5]) fun q=>?_;rw[q0P]
      by_cases hr:p0<=q/\q<p0+(b+1-p0)
      ·rw[decide_eq_true hr,Bool.true_or];have:=dk.all q hr.1 O';rw[z0y]at this;simpa using this
      ·rw[decide_eq_false hr,Bool.false_or];exact dk.out q O'
     rw[<-k6]at h1;refine d0w hE hi hs hQ f R _ lo hi' L' _ u _ r h1 dk.size A t HA z y ρ1 S1 a' w' n' h2 dk.ts ?_ ?_ dk.er dk.N9 fun j0 e9 h0 j2 h7 ρ'' n1 n0 k1 k3 k8 b1 l=>?_
     ·intro q hq;rcases dk.ao q hq with⟨o',h4,h5⟩|⟨h4,h5,o,ho,hl⟩
      ·exact⟨o',List.mem_append_right _ h4,h5⟩
      ·exact⟨_,List.mem_append_left _ (x0h h4 O' ho hl),rfl,fun q0 k4=>by cases k4⟩
     ·intro o' c4 q hq;rcases mem_append.1 c4 with h5|h5
      ·obtain⟨_,_,rfl⟩:=mem_map.1 h5;cases hq
      ·exact c3 o' h5 q hq
     ·refine hK j0 e9 h0 j2 h7 ρ'' n1 n0 k1 k3 k8 b1 ⟨l.rp,h3.trans l.ext,l.ts,fun H1 S1 ha=>l.an H1 S1 (dk.an H1 S1 ha),fun i x hx=>l.ha i x hx,fun q hq=>?_,l.er,l.N9,l.size,l.all,fun q hq=>(l.out q hq).trans (dk.out q O')⟩;rcases l.ao q hq with⟨o',h4,h6⟩|h4
      ·rcases mem_append.1 h4 with h5|h5
       ·obtain⟨e1,e2,e3⟩:=y0A h5;rw[h6.1]at e1 e2 e3;exact .inr ⟨O',O',e3⟩
       ·exact .inl ⟨o',h5,h6⟩
      ·exact .inr h4
    ·split at hk
     ·rename_i p hr;split at hk<;>try cases hk
      rename_i o ho;split at hk<;>try cases hk
      rename_i hb;simp only[and_eq_true,ble_eq,blt_eq,not_eq_true']at hb;obtain⟨⟨⟨b3,l3⟩,k5⟩,k0⟩:=hb;obtain⟨J,e5⟩:=i0d (L:=L) (ops:=ops) (p:=p) (by rw[hr];simp);obtain⟨g1,g2,g3⟩:=g0X h (ops:=ops) (o:=o);split at hk
      ·rename_i hg;have hc:=e0a (ops:=ops) e5 J;obtain⟨m,rfl⟩:∃m,n=m+1:=⟨n-1,by have:=u0V (ops:=ops) e5 J;omega⟩
       have b4:∀q,(q<lo\/hi'<=q)->(L.setIfInBounds p true).getD q true=L.getD q true:=fun q hq=>getD_set_ne true O';have c6:∀m∈er,a6 (L.setIfInBounds p true) m=false:=fun m hm=>by rw[e0l,e6 m hm];rfl
       refine z0z hr ho (z09 (rec:=fun L' s'=>O6 E C inl ops f cs lo hi' L' owns s' k) hE hi hs hk h ho b3 k0 J (g1 hg) U c8 e6 fun s1 ρ1 S1 a1 w1 k2 h1 he j1=>?_);exact d0w hE hi hs hQ f R cs lo hi' (L.setIfInBounds p true) owns _ k r k2 (by simp[c5]) A AN HA AO er ρ1 S1 a1 w1 m h1 j1 c8 c3 c6 O' fun s' t b2 z y ρ' S' a' w' L' n' b1 dk=>
        hK s' t b2 z y ρ' S' a' w' L' n' b1 ⟨dk.rp,he.trans dk.ext,dk.ts,dk.an,dk.ha,dk.ao,dk.er,dk.N9,dk.size,dk.all,fun q hq=>(dk.out q hq).trans (b4 q hq)⟩
      ·rename_i d b hg;exact ask (g3 d b hg) hk
      ·cases hk
     ·split at hk
      ·rename_i d b hl;exact ask (o04 h hl) hk
      ·split at hk<;>try cases hk
       rename_i c i0 l0 p1 hr;obtain⟨d,hd,hk⟩:=c0p hk;have i1:=z0h hd;obtain⟨m,rfl⟩:∃m,n=m+1:=⟨n-1,by
        obtain⟨J,e5⟩:=i0d (L:=L) (ops:=ops) (p:=i0) (by rw[hr];simp);have:=u0V (ops:=ops) e5 J;omega⟩
       refine H0q (by rw[hr];simp) fun p hp=>?_;obtain⟨J,e5⟩:=i0d hp;have e4:=i1 _ (mem_map.2 ⟨p,hp,rfl⟩);unfold u0w at e4;split at e4<;>try cases e4
       rename_i o ho;split at e4<;>try cases e4
       rename_i hb;simp only[and_eq_true,ble_eq,blt_eq,not_eq_true']at hb;obtain⟨⟨⟨b3,l3⟩,k5⟩,k0⟩:=hb;obtain⟨g1,g2,g3⟩:=g0X h (ops:=ops) (o:=o);split at e4<;>try cases e4
       rename_i hg;refine⟨o,ho,?_⟩;have hc:=e0a (ops:=ops) e5 J;have b4:∀q,(q<p0\/hi'<=q)->(L.setIfInBounds p true).getD q true=L.getD q true:=fun q hq=>getD_set_ne true O';have c6:∀m∈er,a6 (L.setIfInBounds p true) m=false:=fun m hm=>by rw[e0l,e6 m hm];rfl
       refine z09 (rec:=fun L' s'=>O6 E C inl ops f cs p0 hi' L' owns s' fun j0=>b0I E s j0 c) hE hi hs e4 h ho b3 k0 J (g1 hg) U c8 e6 fun s1 ρ1 S1 a1 w1 k2 h1 he j1=>?_;refine d0w hE hi hs hQ f _ cs p0 hi' (L.setIfInBounds p true) owns _ _ d k2 (by simp[c5]) A AN HA AO er ρ1 S1 a1 w1 m h1 j1 c8 c3 c6 O' fun s' t b2 z y ρ' S' a' w' L' n' l4 dk=>?_;obtain⟨u,ρ2,S2,q1,q2,q3,_⟩:=d0T (A:=A.with t HA) hE (fun i u ha=>(h.hp i u ha).1) h (dk.rp.anc (AN:=t) (HA:=HA) (fun H1 S1 ha=>dk.rp.kp H1 S1 ha) (fun i u ha=>dk.rp.hp i u (dk.ha i u ha))) (he.trans dk.ext) l4 hk;have k6:L'=c03 L (hi'-p0) p0:=by
        refine z0t (by rw[dk.size,p0p,c5]) fun q=>?_;rw[q0P]
        by_cases j4:p0<=q/\q<p0+(hi'-p0)
        ·rw[decide_eq_true j4,Bool.true_or];have:=dk.all q j4.1 O';rw[z0y]at this;simpa using this
        ·rw[decide_eq_false j4,Bool.false_or];exact(dk.out q O').trans (b4 q O')
       rw[<-k6]at q1;refine d0w hE hi hs hQ f R _ lo hi' L' _ u _ r q1 dk.size A t HA z y ρ2 S2 a' w' n' q2 dk.ts ?_ ?_ dk.er dk.N9 fun j0 e9 h0 j2 h7 ρ'' n1 n0 k1 k3 k8 b1 l=>?_
       ·intro q hq;rcases dk.ao q hq with⟨o',h4,h5⟩|⟨h4,h5,o,ho,hl⟩
        ·exact⟨o',List.mem_append_right _ h4,h5⟩
        ·exact⟨_,List.mem_append_left _ (x0h h4 O' ho hl),rfl,fun q0 k4=>by cases k4⟩
       ·intro o' c4 q hq;rcases mem_append.1 c4 with h5|h5
        ·obtain⟨_,_,rfl⟩:=mem_map.1 h5;cases hq
        ·exact c3 o' h5 q hq
       ·refine hK j0 e9 h0 j2 h7 ρ'' n1 n0 k1 k3 k8 b1 ⟨l.rp,q3.trans l.ext,l.ts,fun H1 S1 ha=>l.an H1 S1 (dk.an H1 S1 ha),fun i x hx=>l.ha i x hx,fun q hq=>?_,l.er,l.N9,l.size,l.all,fun q hq=>(l.out q hq).trans ((dk.out q O').trans (b4 q O'))⟩;rcases l.ao q hq with⟨o',h4,h6⟩|h4
        ·rcases mem_append.1 h4 with h5|h5
         ·obtain⟨e1,e2,e3⟩:=y0A h5;rw[h6.1]at e1 e2 e3;exact .inr ⟨O',O',e3⟩
         ·exact .inl ⟨o',h5,h6⟩
        ·exact .inr h4
theorem M0o (d:G2 E){C:P3 E}(hs:e0q E C):v0u E C:=by
 intro inl hi R cs id ops s k r hk A ρ S a as w h Q e m;refine wp_region_any d.mix (t0d (S:=TS ops A.anc [] []) _ _ _ _ ?_);have b:N9 ops (Array.replicate ops.size false)<=ops.size:=by
  grind [N9]
 refine d0w d hi hs e 100000 R cs 0 ops.size _ [] s k r hk V' A A.anc A.hda [] [] ρ S a _ _ ⟨⟨⟨h.cx.bel.1,h.cx.bel.2,h.cx.bel.3,h.cx.bel.4,h.cx.bel.5⟩,h.cx.sub,h.cx.lt,h.cx.lt0⟩,h.fr,h.stk,h.th,h.ow,h.dj,h.lt,h.rf,h.kp,h.hp⟩ ⟨fun H1 S1 ha=>⟨S,h.kp H1 S1 ha⟩,V'⟩ V' V' V' b fun g n f o j ρ' i l w' t q c dk=>?_;exact x0T (D0r fun p hp=>dk.all p (Nat.zero_le _) hp) (m g ρ' i l w' c (dk.rp.D0d dk.an dk.ha) dk.ext)
end
end
