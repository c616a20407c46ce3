/- Reading data off, freezing: sound. Its conditions: none. -/
import Derived.Test.YtdficaoajalfaaaGreatAX5
open Nat (le_refl)
set_option linter.all false
namespace Go.X
open Go.V Go.RowKit
section
variable {E:Env}
theorem c0q {D:Nat->Type} {t u:U} {x:Den D t} {y:Den D u} (h:d0m t u x=some y):∃ e:t=u,e▸x=y:=by
 unfold d0m at h;split at h
 ·rename_i e;simp at h;exact ⟨e,h⟩
 ·cases h
theorem L9 {D:Nat->Type} {t u:U} {x:List (Den D t)} {y:List (Den D u)} (h:B9 t u x=some y):∃ e:t=u,e▸x=y:=by
 unfold B9 at h;split at h
 ·rename_i e;simp at h;exact ⟨e,h⟩
 ·cases h
section
variable {ρ:Nat->Value} {n:Nat} {H:K0} {S:D0} {s:St E.D}
theorem VC.d0h {t:U} {x:Den E.D t} {c:List Value} (h:VC E ρ n H S (.d t x) c):(J0 E t).R H S c x:=by unfold VC at h;exact h
theorem s0o (ht:∀ id,X3 E ρ n H S (E0 s id) (ρ id)) {r:TD E} (iM:∀ (t:U) (m:List (V E.D)) (x:Den E.D t) (c:List Value),r.M t m=some x->N0 E ρ n H S m c->(J0 E t).R H S c x)
  {t:U} {v:V E.D} {x:Den E.D t} {c:List Value} (h:d0a E s r t v=some x) (hv:VC E ρ n H S v c):∃ u,c=[u]/\PtR (J0 E t) H S u x:=by
 unfold d0a at h;split at h
 ·obtain ⟨e,h⟩:=c0q h;subst e;subst h;unfold VC at hv;exact hv
 ·obtain ⟨e,h⟩:=c0q h;subst e;subst h;exact hv.d0h
 ·rename_i id;split at h<;>try cases h
  rename_i T cs hl;unfold VC at hv;obtain ⟨_,_,b,hr,rfl⟩:=hv;have:=ht id;rw [hl] at this;obtain ⟨b',cc,hr',hb,hcs,_,hns⟩:=this;obtain rfl:b=b':=by rw [hr'] at hr;simpa [hd,eq_comm] using hr
  refine ⟨_,rfl,b,0,cc,rfl,getElem?_lt hb,hns,iM _ _ _ _ h hcs,fun j u hj=>?_⟩;unfold U2;rw [hb];simpa using hj
 ·cases h
theorem y08 {ik:IntKind} {v:V E.D} {x:Int} {c:List Value} (h:e0l ik v=some x) (hv:VC E ρ n H S v c):c=[.int ik x]:=by
 unfold e0l at h;split at h<;>try cases h
 rename_i ik' y hy;split at h<;>try cases h
 rename_i he;have he:=of_decide_eq_true he;subst he;cases v<;>simp only [L5] at hy<;>try cases hy
 ·unfold VC at hv;exact hv
 ·rename_i t z;cases t<;>simp only [L5] at hy<;>try cases hy
  exact hv.d0h
theorem x0u {v:V E.D} {x:Bool} {c:List Value} (h:V6 v=some x) (hv:VC E ρ n H S v c):c=[.bool x]:=by
 cases v<;>simp only [V6] at h<;>try cases h
 ·unfold VC at hv;exact hv
 ·rename_i t z;cases t<;>simp only [V6] at h<;>try cases h
  exact hv.d0h
theorem C09 (ht:∀ id,X3 E ρ n H S (E0 s id) (ρ id)) {t:U} {v:V E.D} {x:List (Den E.D t)} {c:List Value} (h:d0O E s t v=some x) (hv:VC E ρ n H S v c):(J0 E (.list t)).R H S c x:=by
 unfold d0O at h;split at h
 ·cases h;unfold VC at hv;subst hv;exact ⟨none,0,rfl,Sl.nil⟩
 ·obtain ⟨e,h⟩:=L9 h;subst e;subst h;exact hv.d0h
 ·rename_i id;split at h<;>try cases h
  rename_i t' xs hl;obtain ⟨e,h⟩:=L9 h;subst e;subst h;unfold VC at hv;obtain ⟨_,_,rfl⟩:=hv;have:=ht id;rw [hl] at this;obtain ⟨A',c',h1,h2⟩:=this;exact ⟨A',c',by rw [h1],h2⟩
 ·cases h
def h0O (E:Env) (ρ:Nat->Value) (n:Nat) (H:K0) (S:D0) (r:TD E):Prop:=
  (∀ (t:U) (v:V E.D) (x:Den E.D t) (c:List Value),r.D t v=some x->VC E ρ n H S v c->(J0 E t).R H S c x)/\
  (∀ (t:U) (m:List (V E.D)) (x:Den E.D t) (c:List Value),r.M t m=some x->N0 E ρ n H S m c->(J0 E t).R H S c x)/\
  (∀ (ts:List U) (l q:List (V E.D)) (h:HL E.D ts) (c:List Value),r.F ts l=some (h,q)->N0 E ρ n H S l c->∃ c1 c2,c=c1++c2/\(a0r E ts).R H S c1 h/\N0 E ρ n H S q c2)/\
  (∀ (t:U) (m:Nat) (l q:List (V E.D)) (xs:List (Den E.D t)) (c:List Value),r.A t m l=some (xs,q)->N0 E ρ n H S l c->∃ c1 c2,c=c1++c2/\xs.length=m/\U1 (J0 E t) H S c1 xs/\N0 E ρ n H S q c2)
theorem f0z {D:Nat->Type} {v:V D} {t:U} {x:Den D t} (h:unD v=some ⟨t,x⟩):v=.d t x:=by
 cases v<;>simp [unD] at h
 obtain ⟨rfl,h⟩:=h;have h:=eq_of_heq h;subst h;rfl
theorem j0u {D:Nat->Type} {v:V D} {l:List (V D)} (h:e0W v=some l):v=.agg l:=by
 cases v<;>simp [e0W] at h
 subst h;rfl
theorem q0r {D:Nat->Type} {v:V D} (h:o0I v=true):v=.nilp:=by
 cases v<;>simp [o0I] at h
 rfl
theorem s0t {α β:Type} {x:α}:∀ {o:Option (α×List β)},e01 o=some x->o=some (x,[])
 |none,h=>by simp [e01] at h
 |some (y,[]),h=>by simp [e01] at h;rw [h]
 |some (y,_ :: _),h=>by simp [e01] at h
theorem w0U (hE:Q1 E) {r:TD E} (hr:h0O E ρ n H S r) {i:Nat} {v:V E.D} {x:E.D i} {c:List Value} (h:e0y E r i v=some x) (hv:VC E ρ n H S v c):(J0 E (.st i)).R H S c x:=by
 unfold e0y at h;split at h
 ·rename_i hd;obtain rfl:=f0z hd;obtain ⟨e,h⟩:=c0q h;subst e;subst h;exact hv.d0h
 ·split at h<;>try cases h
  rename_i l hl;obtain rfl:=j0u hl;split at h<;>try cases h
  rename_i hh hf;have hf:=s0t hf;unfold VC at hv;obtain ⟨c1,c2,rfl,h1,h2⟩:=hr.2.2.1 _ _ _ _ _ hf hv;unfold N0 at h2;subst h2;rw [List.append_nil];refine (hE.st i H S c1 _).2 ?_;rw [hE.unmk];exact h1
theorem A0H {r:TD E} (hr:h0O E ρ n H S r) {m:Nat} {t:U} {v:V E.D} {x:List (Den E.D t)} {c:List Value} (h:d0P E r m t v=some x) (hv:VC E ρ n H S v c):(J0 E (.arr m t)).R H S c x:=by
 unfold d0P at h;split at h
 ·rename_i hd;obtain rfl:=f0z hd;obtain ⟨e,h⟩:=c0q h;subst e;subst h;exact hv.d0h
 ·split at h<;>try cases h
  rename_i l hl;obtain rfl:=j0u hl;have hf:=s0t h;unfold VC at hv;obtain ⟨c1,c2,rfl,h1,h2,h3⟩:=hr.2.2.2 _ _ _ _ _ _ hf hv;unfold N0 at h3;subst h3;rw [List.append_nil];exact ⟨h1,h2⟩
theorem x0Y (ht:∀ id,X3 E ρ n H S (E0 s id) (ρ id)) {r:TD E} (hr:h0O E ρ n H S r) {t:U} {v:V E.D} {x:Option (Den E.D t)} {c:List Value} (h:d0C E s r t v=some x) (hv:VC E ρ n H S v c):(J0 E (.opt t)).R H S c x:=by
 unfold d0C at h;split at h
 ·rename_i hn;obtain rfl:=q0r hn;simp only [Option.some.injEq] at h;subst h;unfold VC at hv;exact ⟨_,hv,rfl⟩
 ·split at h
  ·rename_i hd;obtain rfl:=f0z hd;obtain ⟨e,h⟩:=c0q h;subst e;subst h;exact hv.d0h
  ·split at h
   ·rename_i y hy;simp only [Option.some.injEq] at h;subst h;obtain ⟨u,hu,hp⟩:=s0o ht hr.2.1 hy hv;exact ⟨u,hu,hp⟩
   ·cases h
theorem C0w {v:V E.D} {x:ByteArray} {c:List Value} (h:d0J v=some x) (hv:VC E ρ n H S v c):(J0 E .str).R H S c x:=by
 unfold d0J at h;split at h
 ·rename_i y;obtain rfl:y=x:=Option.some.inj h;exact hv.d0h
 ·cases h
theorem z0w (hE:Q1 E) (ht:∀ id,X3 E ρ n H S (E0 s id) (ρ id)) {r:TD E} (hr:h0O E ρ n H S r):∀ (t:U) (v:V E.D) (x:Den E.D t) (c:List Value),k0x E s r t v=some x->VC E ρ n H S v c->(J0 E t).R H S c x
 |.int ik,v,x,c,h,hv=>y08 (show e0l ik v=some x from h) hv
 |.bool,v,x,c,h,hv=>x0u (show V6 v=some x from h) hv
 |.str,v,x,c,h,hv=>C0w (show d0J v=some x from h) hv
 |.list t,v,x,c,h,hv=>C09 ht (show d0O E s t v=some x from h) hv
 |.st i,v,x,c,h,hv=>w0U hE hr (show e0y E r i v=some x from h) hv
 |.arr m t,v,x,c,h,hv=>A0H hr (show d0P E r m t v=some x from h) hv
 |.ptr t,v,x,c,h,hv=>s0o ht hr.2.1 (show d0a E s r t v=some x from h) hv
 |.opt t,v,x,c,h,hv=>x0Y ht hr (show d0C E s r t v=some x from h) hv
theorem z0T (hE:Q1 E) (ht:∀ id,X3 E ρ n H S (E0 s id) (ρ id)):∀ k:Nat,h0O E ρ n H S (td E s k):=by
 intro k
 induction k with
 |zero=>exact ⟨(fun _ _ _ _ h=>by cases h),(fun _ _ _ _ h=>by cases h),(fun _ _ _ _ _ h=>by cases h),(fun _ _ _ _ _ _ h=>by cases h)⟩
 |
  succ k ih=>
  refine ⟨z0w hE ht ih,fun t m x c h hm=>?_,fun ts l r hh c h hl=>?_,fun t m l r xs c h hl=>?_⟩
  ·replace h:o0r E (td E s k) t m=some x:=h;unfold o0r at h;split at h<;>try cases h
   rename_i v ha;exact ih.1 _ _ _ _ h (f0Y hE ha hm).1
  ·replace h:m0A E (td E s k) ts l=some (hh,r):=h;unfold m0A at h;split at h
   ·simp only [Option.some.injEq,Prod.mk.injEq] at h;obtain ⟨rfl,rfl⟩:=h;exact ⟨[],c,rfl,rfl,hl⟩
   ·split at h<;>try cases h
    rename_i m r' hc;split at h<;>try cases h
    rename_i x h' hx hr;obtain ⟨c1,c2,rfl,_,hm,hr'⟩:=b0g hE _ _ _ _ _ hc c hl;obtain ⟨d1,d2,rfl,h1,h2⟩:=ih.2.2.1 _ _ _ _ _ hr hr';exact ⟨c1++d1,d2,by simp,⟨c1,d1,rfl,ih.2.1 _ _ _ _ hx hm,h1⟩,h2⟩
  ·replace h:n0l E (td E s k) t m l=some (xs,r):=h;unfold n0l at h;split at h
   ·simp only [Option.some.injEq,Prod.mk.injEq] at h;obtain ⟨rfl,rfl⟩:=h;exact ⟨[],c,rfl,rfl,U1.nil,hl⟩
   ·split at h<;>try cases h
    rename_i q r' hc;split at h<;>try cases h
    rename_i x xs' hx hr;obtain ⟨c1,c2,rfl,_,hm,hr'⟩:=b0g hE _ _ _ _ _ hc c hl;obtain ⟨d1,d2,rfl,h1,h2,h3⟩:=ih.2.2.2 _ _ _ _ _ _ hr hr';refine ⟨c1++d1,d2,by simp,by simp [h1],?_,h3⟩;exact (U1.one (ih.2.1 _ _ _ _ hx hm)).append h2
theorem h0c (hE:Q1 E) (ht:∀ id,X3 E ρ n H S (E0 s id) (ρ id)) {k:Nat} {t:U} {v:V E.D} {x:Den E.D t} {c:List Value} (h:toD E s k t v=some x) (hv:VC E ρ n H S v c):(J0 E t).R H S c x:=(z0T hE ht k).1 _ _ _ _ h hv
end
section
variable {A:O4} {s s1:St E.D} {ρ:Nat->Value} {S:D0} {a:Act} {as:List Act} {w:World}
structure Ext {D:Nat->Type} (s s1:St D):Prop where
 n:s1.n=s.n
 fr:∃ l,s1.fr=l++s.fr
 th:∃ l,s1.th=l++s.th
 stk:s1.stk=s.stk
 nid:s.nid<=s1.nid
theorem Ext.refl {D:Nat->Type} (s:St D):Ext s s:=⟨rfl,⟨[],rfl⟩,⟨[],rfl⟩,rfl,le_refl _⟩
theorem Ext.trans {D:Nat->Type} {s s1 s2:St D} (h:Ext s s1) (k:Ext s1 s2):Ext s s2:=by
 obtain ⟨l,hl⟩:=h.fr;obtain ⟨l',hl'⟩:=k.fr;obtain ⟨m,hm⟩:=h.th;obtain ⟨m',hm'⟩:=k.th;exact ⟨k.n.trans h.n,⟨l'++l,by rw [hl',hl,List.append_assoc]⟩,⟨m'++m,by rw [hm',hm,List.append_assoc]⟩,k.stk.trans h.stk,Nat.le_trans h.nid k.nid⟩
theorem Ext.at {D:Nat->Type} (s:St D) (id:Nat) (x:Th D):Ext s (s.at id x):=⟨rfl,⟨[],rfl⟩,⟨[(id,x)],rfl⟩,rfl,le_refl _⟩
theorem Ext.new {D:Nat->Type} (s:St D) (x:Th D):Ext s (s.new x):=⟨rfl,⟨[],rfl⟩,⟨[(s.nid,x)],rfl⟩,rfl,Nat.le_succ _⟩
theorem Ext.put {D:Nat->Type} (s:St D) (d:Option Nat) (v:V D):Ext s (s.put d v):=by
 cases d with
 |none=>exact Ext.refl s
 |some t=>exact ⟨rfl,⟨[(t,v)],rfl⟩,⟨[],rfl⟩,rfl,le_refl _⟩
theorem Rp.freeze (h:Rp E A s ρ S a as w) {id:Nat} {x:Th E.D} (ho:P1 (E0 s id)=true) (hx:P1 x=false) (hg:x≠.gone)
  (hth:∀ S1:D0,(∀ k,S1 k->S k)->(∀ k,Bk (ρ id) k->¬ S1 k)->X3 E ρ s.nid w.heap S1 (E0 s id) (ρ id)->X3 E ρ s.nid w.heap S1 x (ρ id)) (hnr:∀ q i f,x≠.rof q i f:=by intros;simp) :
  ∃ S1,(∀ k,S1 k->S k)/\Rp E A (s.at id x) ρ S1 a as w:=by
 have hk:U0 w.heap S w.heap (fun k=>S k/\¬ Bk (ρ id) k):=U0.less fun _ h=>h.1;have hid:id<s.nid:=h.F7 (by rintro e;rw [e] at ho;cases ho);have hl:∀ j,E0 { s with th:=(id,x) :: s.th,nid:=s.nid } j=if id=j then x else E0 s j:=fun j=>G8 s id j x;have hsame:∀ j,j≠id->j<s.nid->b0o s { s with th:=(id,x) :: s.th,nid:=s.nid } ρ ρ (fun k=>S k/\¬ Bk (ρ id) k) w w j:=fun j hj hlt=>
  ⟨by rw [hl,if_neg (Ne.symm hj)],hlt,rfl,fun hoj k hk2=>⟨rfl,(h.ow j hoj k hk2).1,fun e2=>h.dj id j (Ne.symm hj) ho hoj k e2 hk2⟩⟩
 refine ⟨fun k=>S k/\¬ Bk (ρ id) k,fun _ h=>h.1,h.step (nid1:=s.nid) (th1:=(id,x) :: s.th) ⟨⟨h.cx.bel,fun b hb=>⟨h.cx.sub b hb,fun e=>(h.ow id ho b e).2.1 hb⟩,fun b hb=>h.cx.lt b hb.1,h.cx.lt0⟩,hk,fun _ _=>rfl,le_refl _⟩ (fun j=>?_) fun r q i f hr e F t xs hq=>?_⟩
 ·by_cases e:id=j
  ·subst e;refine .inr ⟨?_,fun h2=>?_,fun h2=>by omega⟩
   ·rw [hl,if_pos rfl];exact hth _ (fun _ h=>h.1) (fun k hk2 h=>h.2 hk2) ((h.th id).mono (fun _ _=>rfl) (le_refl _) hk (fun _ _ _=>rfl))
   ·rw [hl,if_pos rfl,hx] at h2;cases h2
  ·by_cases hlt:j<s.nid
   ·exact .inl (hsame j (fun h=>e h.symm) hlt)
   ·rw [hl,if_neg e];refine .inr ⟨?_,fun hoj=>?_,fun _=>h.lt j (by omega)⟩
    ·rw [h.lt j (by omega)];trivial
    ·rw [h.lt j (by omega)] at hoj;cases hoj
 ·rw [hl] at hr;split at hr
  ·exact absurd hr (hnr q i f)
  ·rename_i hne;have hq2:=h.b0T hr;rw [hl] at hq;split at hq
   ·rw [hq] at hx;cases hx
   ·rename_i hne2;exact .inl ⟨hsame r (Ne.symm hne) (h.F7 (by rw [hr];simp)),hsame q (Ne.symm hne2) hq2⟩
theorem i0P {t:U} {H:K0} {S:D0} {e:Nat} {v:Value} {xs:List (Den E.D t)} {cs:List Value} (hrow:Row H e (J0 E t).sz v xs.length cs) (hels:U1 (J0 E t) H S cs xs) (hn:∀ k,D1 v=some k->¬ S k) :
  ∃ A' c,v=.slice A' xs.length c/\Sl (J0 E t) H S A' c xs:=by
 obtain ⟨hcl,hrow⟩:=hrow;rcases hrow with ⟨h0,a,rfl⟩ | ⟨g,cap,cur,rfl,hp,hg,hnc,hmx,hsz,htk⟩
 ·have:xs=[]:=List.eq_nil_of_length_eq_zero h0;subst this;exact ⟨a,0,rfl,le_refl _,fun h=>absurd rfl h,fun i x hx=>by simp at hx⟩
 ·refine ⟨some ⟨g,0,none⟩,cap,rfl,hnc,fun _=>⟨g,0,rfl,getElem?_lt hg,hn g (e0I hp)⟩,fun i x hx=>⟨g,0,_,rfl,hels.2 i x hx,fun j v hj=>?_⟩⟩;have hi:i<xs.length:=(List.getElem?_eq_some_iff.1 hx).1;have hjs:j<(J0 E t).sz:=by
   rcases Nat.lt_or_ge j (J0 E t).sz with h | h
   ·exact h
   ·rw [List.getElem?_eq_none (by simp;omega)] at hj;cases hj
  rw [List.getElem?_take_of_lt hjs,List.getElem?_drop] at hj;unfold U2;rw [hg];simp only;rw [<-htk] at hj;have hle:i*(J0 E t).sz+(J0 E t).sz<=xs.length*(J0 E t).sz:=by rw [<-Nat.succ_mul];exact Nat.mul_le_mul_right _ hi
  rw [List.getElem?_take_of_lt (by omega)] at hj;rw [Nat.zero_add];simpa using hj
theorem q0h {H:K0} {S:D0}:∀ (l:List U) (h:HL E.D l) (M0:List Value),b0v l=true->M0.length=l.length->
  (∀ f u (y:List (Den E.D u)),N5 l h f=some ⟨.list u,y⟩->∃ r A' c,M0[f]?=some r/\r=.slice A' y.length c/\Sl (J0 E u) H S A' c y)->(a0r E l).R H S M0 h
 |
  [],_,M0,_,hl,_=>by
  have:M0=[]:=List.eq_nil_of_length_eq_zero (by simpa using hl);subst this;rfl
 |t :: l,h,[],_,hl,_=>by simp at hl
 |
  t :: l,h,v :: M0,hb,hl,hr=>by
  simp only [b0v,Bool.and_eq_true] at hb;obtain ⟨hb1,hb2⟩:=hb;cases t<;>simp only [g02,Bool.false_eq_true] at hb1
  rename_i u;obtain ⟨r,A',c,h1,h2,h3⟩:=hr 0 u h.1 rfl;simp only [List.getElem?_cons_zero,Option.some.injEq] at h1;subst h1;refine ⟨[v],M0,rfl,⟨A',c,by rw [h2],h3⟩,q0h l h.2 M0 hb2 (by simpa using hl) fun f w y hy=>?_⟩;obtain ⟨r',A'',c',h4,h5,h6⟩:=hr (f+1) w y hy;exact ⟨r',A'',c',by simpa using h4,h5,h6⟩
theorem H8.els (hE:Q1 E) {H:K0} {S S1:D0} {e:Nat} {F:List Nat} {t:U} {xs:List (Den E.D t)} {v:Value} {cs:List Value} (h:H8 E H S e F t xs none v cs) (hs:∀ k,S1 k->S k) (hn:∀ k,Bk v k->¬ S1 k):U1 (J0 E t) H S1 cs xs:=by
 refine ⟨h.row.1,fun i x hx=>?_⟩;have hi:i<xs.length:=(List.getElem?_eq_some_iff.1 hx).1;obtain ⟨hsz,hrow⟩:=d0v h.ok;have hsz2:=h.sz;have hle:i*F.length+F.length<=cs.length:=by rw [hsz2,<-Nat.succ_mul];exact Nat.mul_le_mul_right _ hi
 rw [hsz];have hlen:((cs.drop (i*F.length)).take F.length).length=F.length:=by rw [List.length_take,List.length_drop];omega
 have key:∀ f u (y:List (Den E.D u)),f<F.length->V3 E t x f=some ⟨u,y⟩->∃ r A' c,((cs.drop (i*F.length)).take F.length)[f]?=some r/\r=.slice A' y.length c/\Sl (J0 E u) H S1 A' c y:=by
  intro f u y hf hy;obtain ⟨r,h1,cs',h2,h3⟩:=h.rows i x f u y _ hx hy (List.getElem?_eq_getElem hf) (by simp);have h8:=d0I (o:=none) hf (by simp) h1 (by simp);rw [<-h.tl] at h8;obtain ⟨A',c,h4,h5⟩:=i0P h2 (h3.L1 (U0.less hs)) fun k hk=>hn k (Bk.tl (List.mem_of_getElem? h8) hk);exact ⟨r,A',c,by rw [List.getElem?_take_of_lt hf,List.getElem?_drop];exact h1,h4,h5⟩
 have hok:=h.ok;simp only [l9,Bool.and_eq_true,Nat.beq_eq] at hok;obtain ⟨⟨_,hnr⟩,hk⟩:=hok;cases t<;>simp only at hk<;>try cases hk
 ·rename_i u _;have h1:F.length=1:=hnr;obtain ⟨r,A',c,h2,h3,h4⟩:=key 0 u x (by omega) rfl;refine ⟨A',c,?_,h4⟩;rw [<-h3];refine List.ext_getElem? fun j=>?_;cases j with
  |zero=>exact h2
  |succ j=>rw [List.getElem?_eq_none (by rw [hlen];omega),List.getElem?_eq_none (by simp)]
 ·rename_i k _;refine (hE.st k H S1 _ x).2 (q0h _ _ _ hk (by rw [hlen];exact hnr) fun f u y hy=>?_);refine key f u y ?_ (show c0v _=_ by rw [hy];rfl);rcases Nat.lt_or_ge f F.length with h9 | h9
  ·exact h9
  ·have hnr:F.length=(E.fs k).length:=hnr;have:∀ (l:List U) (h:HL E.D l) (f:Nat),l.length<=f->N5 l h f=none:=by
    intro l
    induction l with
    |nil=>intro h f _;rfl
    |
     cons t l ih=>
     intro h f hf;cases f with
     |zero=>simp at hf
     |succ f=>exact ih h.2 f (by simpa using hf)
   rw [this _ _ _ (by omega)] at hy;cases hy
theorem a0a (hE:Q1 E):∀ (k:Nat) (s:St E.D) (l:List (V E.D)) (s1:St E.D),b7 E k s l=some s1->∀ (S:D0),Rp E A s ρ S a as w->∃ S1,(∀ k,S1 k->S k)/\Rp E A s1 ρ S1 a as w/\Ext s s1/\s1.fr=s.fr/\s1.nid=s.nid
 |0,s,l,s1,h=>by simp [b7] at h
 |
  k+1,s,[],s1,h=>by
  intro S hr;simp only [b7,Option.some.injEq] at h;subst h;exact ⟨S,fun _ h=>h,hr,Ext.refl s,rfl,rfl⟩
 |
  k+1,s,v :: r,s1,h=>by
  intro S hr;simp only [b7] at h;split at h
  ·rename_i id;split at h<;>try cases h
   ·rename_i e t xs hl;obtain ⟨S1,h1,h2⟩:=hr.freeze (id:=id) (x:=.fz t xs) (by rw [hl];rfl) rfl (by simp) (by
     intro S1 hs hn ht;rw [hl] at ht;obtain ⟨cs,hrow,hels⟩:=ht;obtain ⟨_,_,e1⟩:=Row.form hrow;have:=i0P hrow hels (fun k hk=>hn k (by rw [e1] at hk ⊢;exact hk));obtain ⟨A',c,h1,h2⟩:=this;exact ⟨A',c,by rw [h1];rfl,h2⟩)
    obtain ⟨S2,h3,h4,h5,h6,h7⟩:=a0a hE k _ r s1 h _ h2;exact ⟨S2,fun b hb=>h1 b (h3 b hb),h4,(Ext.at s id _).trans h5,h6,h7⟩
   ·exact a0a hE k _ r s1 h _ hr
   ·rename_i e F t xs hl;obtain ⟨S1,h1,h2⟩:=hr.freeze (id:=id) (x:=.fz t xs) (by rw [hl];rfl) rfl (by simp) (by
     intro S1 hs hn ht;have ht:=hr.th id;rw [hl] at ht;obtain ⟨cs,ht⟩:=ht;exact i0P ht.row (ht.els hE hs hn) fun k hk=>hn k (Bk.hd hk))
    obtain ⟨S2,h3,h4,h5,h6,h7⟩:=a0a hE k _ r s1 h _ h2;exact ⟨S2,fun b hb=>h1 b (h3 b hb),h4,(Ext.at s id _).trans h5,h6,h7⟩
  ·rename_i id;split at h<;>try cases h
   ·rename_i T cs hl;split at h<;>try cases h
    rename_i s2 hf;obtain ⟨S2,h3,h4,h5,h6,h7⟩:=a0a hE k _ cs s2 hf _ hr;split at h<;>try cases h
    rename_i T' cs' hl2;obtain ⟨S1,h1,h2⟩:=h4.freeze (id:=id) (x:=.fzb T' cs') (by rw [hl2];rfl) rfl (by simp) (by
     intro S1 hs hn ht;rw [hl2] at ht;obtain ⟨b,cc,hv,hb,hcs,hone⟩:=ht;exact ⟨b,cc,hv,hb,hcs,hone,hn b (by rw [hv];rfl)⟩)
    obtain ⟨S3,h8,h9,h10,h11,h12⟩:=a0a hE k _ r s1 h _ h2;exact ⟨S3,fun b hb=>h3 b (h1 b (h8 b hb)),h9,(h5.trans (Ext.at s2 id _)).trans h10,h11.trans h6,h12.trans h7⟩
   ·exact a0a hE k _ r s1 h _ hr
  ·exact a0a hE k _ _ s1 h _ hr
  ·exact a0a hE k _ _ s1 h _ hr
  ·exact a0a hE k _ _ s1 h _ hr
theorem a0R:∀ (k:Nat) (s:St E.D) (l:List (V E.D)) (s1:St E.D),b7 E k s l=some s1->∀ id,P1 (E0 s1 id)=true->E0 s id=E0 s1 id
 |0,s,l,s1,h=>by simp [b7] at h
 |
  k+1,s,[],s1,h=>by
  simp only [b7,Option.some.injEq] at h;subst h;exact fun _ _=>rfl
 |
  k+1,s,v :: r,s1,h=>by
  have at_:∀ (s0:St E.D) (i:Nat) (x:Th E.D),P1 x=false->∀ id,(∀ id,P1 (E0 s1 id)=true->E0 (s0.at i x) id=E0 s1 id)->P1 (E0 s1 id)=true->E0 s0 id=E0 s1 id:=by
   intro s0 i x hx id ih ho;have h2:=ih id ho;rw [G8] at h2;split at h2
   ·rw [<-h2,hx] at ho;cases ho
   ·exact h2
  simp only [b7] at h;split at h
  ·rename_i id;split at h<;>try cases h
   ·exact fun j hj=>at_ s id _ (by rfl) j (a0R k _ r s1 h) hj
   ·exact a0R k s r s1 h
   ·exact fun j hj=>at_ s id _ (by rfl) j (a0R k _ r s1 h) hj
  ·rename_i id;split at h<;>try cases h
   ·split at h<;>try cases h
    rename_i s2 h2;split at h<;>try cases h
    intro j hj;have e1:=at_ s2 id _ (by rfl) j (a0R k _ r s1 h) hj;have e2:=a0R k s _ s2 h2 j (by rw [e1];exact hj);exact e2.trans e1
   ·exact a0R k s r s1 h
  ·exact a0R k s _ s1 h
  ·exact a0R k s _ s1 h
  ·exact a0R k s r s1 h
end
end
