/- Joins: sound. Its conditions: none. -/
import Derived.Test.YtdficaoajalfaaaGreatAX8
open Nat (lt_of_lt_of_le le_refl beq_eq lt_or_ge le_add_right)
open List (mem_cons all_eq_true nodup_cons mem_of_getElem? mem_filterMap map_cons)
set_option linter.all false
namespace Go.X
open Go.V Go.RowKit
section
variable {E:Env}
section
variable {ρ0 ρ ρ1:Nat->Value} {n0 n N:Nat} {H0 H:K0} {S0 S:D0}
mutual
theorem VC.cut (hρ:∀ i,i<n0->hd (ρ1 i)=hd (ρ i)) (hn:n0<=N):∀ (v:V E.D) (c0 c:List Value),VC E ρ0 n0 H0 S0 v c0->VC E ρ n H S v c->VC E ρ1 N H S v c
 |.undef,_,_,_,h=>h
 |.kb _,_,_,_,h=>h
 |.ki _ _,_,_,_,h=>h
 |.d _ _,_,_,_,h=>h
 |.nil,_,_,_,h=>h
 |.nilp,_,_,_,h=>h
 |.nilif,_,_,_,h=>h
 |.nilfn,_,_,_,h=>h
 |.sl id,c0,c,⟨h0,_⟩,⟨_,h1,h2⟩=>⟨lt_of_lt_of_le h0 hn,by rw [hρ id h0];exact h1,by rw [hρ id h0];exact h2⟩
 |.pb id off p,c0,c,⟨h0,_⟩,⟨_,h1,b,h2,h3⟩=>⟨lt_of_lt_of_le h0 hn,h1,b,(hρ id h0).trans h2,h3⟩
 |.pe id i z p,c0,c,⟨h0,_⟩,⟨_,h1,b,o,m,cc,h2,h3⟩=>⟨lt_of_lt_of_le h0 hn,h1,b,o,m,cc,(hρ id h0).trans h2,h3⟩
 |.pd _ _,_,_,_,h=>h
 |.df _ _,_,_,_,h=>h
 |.mp id,c0,c,⟨h0,_⟩,⟨_,h1,h2⟩=>⟨lt_of_lt_of_le h0 hn,by rw [hρ id h0];exact h1,by rw [hρ id h0];exact h2⟩
 |.agg l,c0,c,h0,h=>N0.cut hρ hn l c0 c h0 h
 |.tup l,c0,c,⟨u0,_,h0⟩,⟨u,h1,h⟩=>⟨u,h1,VT.cut hρ hn l u0 u h0 h⟩
 |.fn f l,c0,c,⟨u0,_,h0⟩,⟨u,h1,h⟩=>⟨u,h1,VT.cut hρ hn l u0 u h0 h⟩
 |.ifc T v,c0,c,⟨d0,h0,_⟩,⟨d,h,h1⟩=>⟨d,VC.cut hρ hn v d0 d h0 h,h1⟩
theorem N0.cut (hρ:∀ i,i<n0->hd (ρ1 i)=hd (ρ i)) (hn:n0<=N):∀ (l:List (V E.D)) (c0 c:List Value),N0 E ρ0 n0 H0 S0 l c0->N0 E ρ n H S l c->N0 E ρ1 N H S l c
 |[],_,_,_,h=>h
 |v :: l,_,_,⟨a1,a2,_,h1,h2⟩,⟨b1,b2,e,k1,k2⟩=>⟨b1,b2,e,VC.cut hρ hn v a1 b1 h1 k1,N0.cut hρ hn l a2 b2 h2 k2⟩
theorem VT.cut (hρ:∀ i,i<n0->hd (ρ1 i)=hd (ρ i)) (hn:n0<=N):∀ (l:List (V E.D)) (c0 c:List Value),VT E ρ0 n0 H0 S0 l c0->VT E ρ n H S l c->VT E ρ1 N H S l c
 |[],_,_,_,h=>h
 |v :: l,_,_,⟨a1,a2,h1,_,h2⟩,⟨b1,b2,k1,e,k2⟩=>⟨b1,b2,VC.cut hρ hn v a1 b1 h1 k1,e,VT.cut hρ hn l a2 b2 h2 k2⟩
end -- mutual
theorem VS.cut (hρ:∀ i,i<n0->hd (ρ1 i)=hd (ρ i)) (hn:n0<=N) {v:V E.D} {u0 u:Value}:VS E ρ0 n0 H0 S0 v u0->VS E ρ n H S v u->VS E ρ1 N H S v u:=by
 rintro ⟨c0,h0,_⟩ ⟨c,h,e⟩
 exact ⟨c,VC.cut hρ hn v c0 c h0 h,e⟩
theorem X3.cut (hρ:∀ i,i<n0->hd (ρ1 i)=hd (ρ i)) (hn:n0<=N) {x:Th E.D} {v0 v:Value} (h0:X3 E ρ0 n0 H0 S0 x v0) (h:X3 E ρ n H S x v):X3 E ρ1 N H S x v:=by
 cases x with
 |gone=>trivial
 |
  box T l=>
  obtain ⟨_,c0,_,_,k0,_⟩:=h0;obtain ⟨b,cs,rfl,h1,h2,h3⟩:=h;exact ⟨b,cs,rfl,h1,N0.cut hρ hn l c0 cs k0 h2,h3⟩
 |
  fzb T l=>
  obtain ⟨_,c0,_,_,k0,_⟩:=h0;obtain ⟨b,cs,rfl,h1,h2,h3⟩:=h;exact ⟨b,cs,rfl,h1,N0.cut hρ hn l c0 cs k0 h2,h3⟩
 |lst e t xs=>exact h
 |fz t xs=>exact h
 |map m=>exact h
 |B1 e F t xs o=>exact h
 |rof q i f=>exact ⟨lt_of_lt_of_le h0.1 hn,h.2⟩
theorem b0x.cut (hρ:∀ i,i<n0->hd (ρ1 i)=hd (ρ i)) (hn:n0<=N) {m0 m:Nat} {fr:Fr E.D} {a0 a:Act} (h0:b0x E ρ0 n0 H0 S0 m0 fr a0) (h:b0x E ρ n H S m fr a):b0x E ρ1 N H S m fr a:=
 ⟨h.size,h.defers,fun t v ht=>VS.cut hρ hn (h0.slot t v ht) (h.slot t v ht)⟩
theorem O9.cut (hρ:∀ i,i<n0->hd (ρ1 i)=hd (ρ i)) (hn:n0<=N):∀ {l:List (Nat×Fr E.D)} {as0 as:List Act},O9 E ρ0 n0 H0 S0 l as0->O9 E ρ n H S l as->O9 E ρ1 N H S l as
 |[],[],[],_,h=>h
 |[],[],_ :: _,_,h=>h.elim
 |[],_ :: _,_,h0,_=>h0.elim
 |_ :: _,[],_,h0,_=>h0.elim
 |_ :: _,_ :: _,[],_,h=>h.elim
 |p :: l,a0 :: as0,a :: as,⟨h0,k0⟩,⟨h,k⟩=>⟨b0x.cut hρ hn h0 h,O9.cut hρ hn k0 k⟩
end
section
variable {A:O4} {s0 s s1:St E.D} {ρ0 ρ:Nat->Value} {S0 S:D0} {a0 a:Act} {as0 as:List Act} {w0 w:World}
structure Tp (E:Env) (A:O4) (s:St E.D) (ρ:Nat->Value) (S:D0) (w:World):Prop where
 cx:Cx A.w0 A.W0 A.S0 w S
 th:∀ id,X3 E ρ s.nid w.heap S (E0 s id) (ρ id)
 ow:∀ id,P1 (E0 s id)=true->∀ k,Bk (ρ id) k->S k/\¬ A.S0 k/\Wr A.W0 A.w0 k
 dj:∀ i j,i≠j->P1 (E0 s i)=true->P1 (E0 s j)=true->∀ k,Bk (ρ i) k->¬ Bk (ρ j) k
 lt:∀ id,s.nid<=id->E0 s id=.gone
 rf:∀ r q i f,E0 s r=.rof q i f->∀ e F t xs,E0 s q=.B1 e F t xs none->b0W w.heap (hd (ρ q)) F.length i f (ρ r)
 kp:∀ H1 S1,A.anc H1 S1->U0 H1 S1 w.heap S
 hp:∀ i u,A.hda i u->i<s.nid/\hd (ρ i)=u
theorem Rp.tp (h:Rp E A s ρ S a as w):Tp E A s ρ S w:=⟨h.cx,h.th,h.ow,h.dj,h.lt,h.rf,h.kp,h.hp⟩
theorem h0i {D:Nat->Type}:∀ (l:List Nat) (s:St D),(X0 s l).nid=s.nid/\(X0 s l).fr=s.fr/\(X0 s l).n=s.n/\(X0 s l).stk=s.stk/\∃ t,(X0 s l).th=t++s.th
 |[],s=>⟨rfl,rfl,rfl,rfl,[],rfl⟩
 |
  i :: l,s=>by
  obtain ⟨h1,h2,h3,h4,t,h5⟩:=h0i l (s.at i .gone);exact ⟨h1,h2,h3,h4,t++[(i,.gone)],by show (X0 (s.at i .gone) l).th=_;rw [h5];simp [St.at]⟩
theorem h0A:∀ (l:List Nat) (s:St E.D) (j:Nat),(j∈l->E0 (X0 s l) j=.gone)/\(E0 (X0 s l) j=E0 s j\/E0 (X0 s l) j=.gone)
 |[],s,j=>⟨(fun h=>by cases h),.inl rfl⟩
 |
  i :: l,s,j=>by
  obtain ⟨h1,h2⟩:=h0A l (s.at i .gone) j;have hl:=G8 s i j .gone;refine ⟨fun h=>?_,?_⟩
  ·rcases mem_cons.1 h with rfl | h
   ·show E0 (X0 (s.at j .gone) l) j=.gone;rcases h2 with h2 | h2
    ·rw [h2,hl,if_pos rfl]
    ·exact h2
   ·exact h1 h
  ·show E0 (X0 (s.at i .gone) l) j=_\/E0 (X0 (s.at i .gone) l) j=_;rcases h2 with h2 | h2
   ·rw [h2,hl];split
    ·exact .inr rfl
    ·exact .inl rfl
   ·exact .inr h2
theorem Tp.gone (h:Tp E A s ρ S w) (id:Nat):Tp E A (s.at id .gone) ρ S w:=by
 have hl:∀ j,E0 (s.at id .gone) j=if id=j then .gone else E0 s j:=fun j=>G8 s id j .gone;refine ⟨h.cx,fun j=>?_,fun j hj=>?_,fun i j hij hi hj=>?_,fun j hj=>?_,fun r q i f hr e F t xs hq=>?_,h.kp,h.hp⟩
 ·rw [hl];split
  ·trivial
  ·exact h.th j
 ·rw [hl] at hj;split at hj
  ·cases hj
  ·exact h.ow j hj
 ·rw [hl] at hi hj;split at hi
  ·cases hi
  ·split at hj
   ·cases hj
   ·exact h.dj i j hij hi hj
 ·rw [hl];split
  ·rfl
  ·exact h.lt j hj
 ·rw [hl] at hr hq;split at hr
  ·cases hr
  ·split at hq
   ·cases hq
   ·exact h.rf r q i f hr e F t xs hq
theorem Tp.p0N:∀ (l:List Nat) {s:St E.D},Tp E A s ρ S w->Tp E A (X0 s l) ρ S w
 |[],_,h=>h
 |i :: l,s,h=>Tp.p0N l (s:=s.at i .gone) (h.gone i)
theorem m0S {D:Nat->Type} {s:St D} {q r q' f:Nat} {i:Int} (h:E0 (N7 s q) r=.rof q' i f):E0 s r=.rof q' i f/\q'≠q:=by
 unfold N7 at h;rw [d0p] at h;split at h
 ·cases h
 ·rename_i hn;refine ⟨h,?_⟩
  rintro rfl
  exact hn (i0K h)
theorem Tp.rename (h:Tp E A s ρ S w) {s1:St E.D} {G:List Nat} {x:Th E.D} {id j:Nat} (hs1:s1=Go.X.X0 s G) (hid:id<s.nid) (hx:x=E0 s j) (hnr:u0r x=false) (e:hd (ρ id)=hd (ρ j))
  (hrf:∀ r i f,E0 s1 r=.rof id i f->∀ e F t xs,x=.B1 e F t xs none->b0W w.heap (hd (ρ id)) F.length i f (ρ r)):Tp E A ((s1.at id x).at j .gone) (M6 ρ id (ρ j)) S w:=by
 subst hs1;have hl:∀ i,E0 (((Go.X.X0 s G).at id x).at j .gone) i=if j=i then .gone else if id=i then x else if i∈G then .gone else E0 s i:=fun i=>by
  rw [G8,G8,d0p]
 have hn:(((Go.X.X0 s G).at id x).at j .gone).nid=s.nid:=(a0d G s).1;have hhd:∀ i,hd (M6 ρ id (ρ j) i)=hd (ρ i):=fun i=>by
  by_cases h1:i=id
  ·subst h1;rw [I5];exact e.symm
  ·rw [G5 h1]
 have hnrx:∀ q i f,x≠.rof q i f:=fun q i f e=>by rw [e] at hnr;cases hnr
 have hmono:∀ (y:Th E.D) (v:Value),X3 E ρ s.nid w.heap S y v->X3 E (M6 ρ id (ρ j)) s.nid w.heap S y v:=fun y v hy=>hy.mono (fun i _=>hhd i) (le_refl _) (U0.refl _ _) (fun _ _ _=>rfl);refine ⟨h.cx,fun i=>?_,fun i ho k hk=>?_,fun i i' hne ho ho' k hk hk'=>?_,fun i hi=>?_,fun r q i f hr e2 F t xs hq=>?_,h.kp,fun i u ha=>⟨by rw [hn];exact (h.hp i u ha).1,(hhd i).trans (h.hp i u ha).2⟩⟩
 ·rw [hl,hn];split
  ·trivial
  ·split
   ·rename_i h1;subst h1;rw [I5,hx];exact hmono _ _ (h.th j)
   ·rename_i h1;split
    ·trivial
    ·rw [G5 (Ne.symm h1)];exact hmono _ _ (h.th i)
 ·rw [hl] at ho;split at ho
  ·cases ho
  ·split at ho
   ·rename_i h1;subst h1;rw [I5] at hk;rw [hx] at ho;exact h.ow j ho k hk
   ·rename_i h1;rw [G5 (Ne.symm h1)] at hk;split at ho
    ·cases ho
    ·exact h.ow i ho k hk
 ·rw [hl] at ho ho';split at ho
  ·cases ho
  ·split at ho'
   ·cases ho'
   ·rename_i h1 h2;split at ho
    ·rename_i h3;subst h3;rw [if_neg hne] at ho';rw [I5] at hk;rw [G5 (Ne.symm hne)] at hk';rw [hx] at ho;split at ho'
     ·cases ho'
     ·exact h.dj j i' h2 ho ho' k hk hk'
    ·rename_i h3;rw [G5 (Ne.symm h3)] at hk;split at ho
     ·cases ho
     ·split at ho'
      ·rename_i h4;subst h4;rw [I5] at hk';rw [hx] at ho';exact h.dj i j (fun e2=>h1 e2.symm) ho ho' k hk hk'
      ·rename_i h4;rw [G5 (Ne.symm h4)] at hk';split at ho'
       ·cases ho'
       ·exact h.dj i i' hne ho ho' k hk hk'
 ·rw [hn] at hi;rw [hl];split
  ·rfl
  ·split
   ·rename_i h1;subst h1;omega
   ·split
    ·rfl
    ·exact h.lt i hi
 ·rw [hl] at hr hq;split at hr
  ·cases hr
  ·split at hr
   ·exact absurd hr (hnrx q i f)
   ·rename_i h1;split at hr
    ·cases hr
    ·rename_i hg;rw [hhd,G5 (Ne.symm h1)];split at hq
     ·cases hq
     ·split at hq
      ·rename_i h2;subst h2;exact hrf r i f (by rw [d0p,if_neg hg];exact hr) e2 F t xs hq
      ·split at hq
       ·cases hq
       ·exact h.rf r q i f hr e2 F t xs hq
theorem D0T {D:Nat->Type} (s:St D) (id:Nat) (sh:Sh) (v:V D):(a0F s id sh v).nid=s.nid/\(a0F s id sh v).fr=s.fr/\(a0F s id sh v).n=s.n/\(a0F s id sh v).stk=s.stk/\∃ t,(a0F s id sh v).th=t++s.th:=by
 have mv:∀ j,(mvT s id j sh).nid=s.nid/\(mvT s id j sh).fr=s.fr/\(mvT s id j sh).n=s.n/\(mvT s id j sh).stk=s.stk/\∃ t,(mvT s id j sh).th=t++s.th:=fun j=>by
  unfold mvT;split
  ·exact ⟨rfl,rfl,rfl,rfl,[(_,_)],rfl⟩
  ·split
   ·exact ⟨rfl,rfl,rfl,rfl,[(_,_),(_,_)],rfl⟩
   ·obtain ⟨h1,h2,h3,h4,t,h5⟩:=a0d (C9 id s.th) s;exact ⟨h1,h2,h3,h4,(j,.gone) :: (id,E0 s j) :: t,by show _ :: _ :: (N7 s id).th=_;unfold N7;rw [h5];rfl⟩
 unfold a0F;split<;>first | exact mv _ | exact ⟨rfl,rfl,rfl,rfl,[(_,_)],rfl⟩
def A0b (E:Env) (s:St E.D) (ρ:Nat->Value) (w:World) (th:List (Nat×Sh)):Prop:=∀ p∈th,∀ e F t,p.2=.B1 e F t->∀ r i f,E0 s r=.rof p.1 i f->b0W w.heap (hd (ρ p.1)) F.length i f (ρ r)
theorem Tp.move (h:Tp E A s ρ S w) {id:Nat} {sh:Sh} (hid:id<s.nid) {v:V E.D} {H:K0} {N:Nat} {S1:D0} (hv:VS E ρ N H S1 v (hd (ρ id))) (hrf:∀ e F t,sh=.B1 e F t->∀ r i f,E0 s r=.rof id i f->b0W w.heap (hd (ρ id)) F.length i f (ρ r)) :
  ∃ ρ1,Tp E A (a0F s id sh v) ρ1 S w/\(∀ i,hd (ρ1 i)=hd (ρ i))/\∀ r q i f,E0 (a0F s id sh v) r=.rof q i f->E0 s r=.rof q i f/\ρ1 r=ρ r:=by
 have gn:∃ ρ1,Tp E A (s.at id .gone) ρ1 S w/\(∀ i,hd (ρ1 i)=hd (ρ i))/\∀ r q i f,E0 (s.at id .gone) r=.rof q i f->E0 s r=.rof q i f/\ρ1 r=ρ r:=by
  refine ⟨ρ,h.gone id,fun _=>rfl,fun r q i f hr=>?_⟩;rw [G8] at hr;split at hr
  ·cases hr
  ·exact ⟨hr,rfl⟩
 have mv:∀ j,hd (ρ id)=hd (ρ j)->∃ ρ1,Tp E A (mvT s id j sh) ρ1 S w/\(∀ i,hd (ρ1 i)=hd (ρ i))/\∀ r q i f,E0 (mvT s id j sh) r=.rof q i f->E0 s r=.rof q i f/\ρ1 r=ρ r:=by
  intro j e;unfold mvT;split
  ·exact gn
  ·rename_i hnr;have hhd:∀ i,hd (M6 ρ id (ρ j) i)=hd (ρ i):=fun i=>by
    by_cases h1:i=id
    ·subst h1;rw [I5];exact e.symm
    ·rw [G5 h1]
   have hnrx:∀ q i f,E0 s j≠.rof q i f:=fun q i f e=>by rw [e] at hnr;cases hnr
   split
   ·rename_i hk;refine ⟨M6 ρ id (ρ j),h.rename (G:=[]) rfl hid rfl hnr e (fun r i f hr e2 F t xs hx=>?_),hhd,fun r q i f hr=>?_⟩
    ·unfold t0E at hk;split at hk
     ·rename_i e3 F3 t3;rw [hx] at hk;simp only at hk;rw [beq_eq] at hk;rw [<-hk];exact hrf _ _ _ rfl r i f hr
     ·cases hk
    ·rw [G8,G8] at hr;split at hr
     ·cases hr
     ·split at hr
      ·exact absurd hr (hnrx q i f)
      ·rename_i h1;exact ⟨hr,G5 (Ne.symm h1)⟩
   ·refine ⟨M6 ρ id (ρ j),h.rename (G:=C9 id s.th) rfl hid rfl hnr e (fun r i f hr=>?_),hhd,fun r q i f hr=>?_⟩
    ·exact absurd rfl (m0S hr).2
    ·rw [G8,G8] at hr;split at hr
     ·cases hr
     ·split at hr
      ·exact absurd hr (hnrx q i f)
      ·rename_i h1;exact ⟨(m0S hr).1,G5 (Ne.symm h1)⟩
 unfold a0F;split
 ·obtain ⟨_,e⟩:=hv.X9;exact mv _ e
 ·obtain ⟨_,_,b,h1,h2⟩:=hv.b0l;exact mv _ (by rw [h1,h2];simp [M4])
 ·obtain ⟨_,e⟩:=hv.p0x;exact mv _ e
 ·exact gn
section
variable {A:O4} {s0 s s1:St E.D} {ρ0 ρ:Nat->Value} {S0 S:D0} {a0 a:Act} {as0 as:List Act} {w0 w:World}
theorem t0Y {α β:Type} {now was:List (Nat×α)} {c:List (Nat×β)} (h:g0s now was c=true) (he:∃ l,now=l++was) {k:Nat} (hk:Q4 c k=none) {v:α} (hv:Q4 was k=some v):Q4 now k=some v:=by
 obtain ⟨l,rfl⟩:=he;have ht:(l++was).take ((l++was).length-was.length)=l:=by simp
 unfold g0s at h;rw [ht,all_eq_true] at h;rw [m0V,j04 l k,hv];intro p hp e;have:=h p hp;rw [e] at this;simp [hv,hk] at this
theorem p0q {α:Type}:∀ {l:List (Nat×α)} {k:Nat},k∉l.map Prod.fst->Q4 l k=none:=fun {l k} h=>j04 l k fun p hp e=>h (List.mem_map.2 ⟨p,hp,e⟩)
theorem p0h:∀ {l:List Nat},c0j l=true->l.Nodup
 |[],_=>List.nodup_nil
 |
  x :: l,h=>by
  simp only [c0j,Bool.and_eq_true,Bool.not_eq_true',List.any_eq_false] at h;refine nodup_cons.2 ⟨fun hx=>?_,p0h h.2⟩;have:=h.1 x hx;simp at this
def D8 (ρ:Nat->Value) (n0:Nat) (pl:List Value):Nat->Value:=fun i=>if i<n0 then ρ i else (pl[i-n0]?).getD undef
theorem e7 {n0 i:Nat} {pl:List Value} (h:i<n0):D8 ρ n0 pl i=ρ i:=if_pos h
theorem j0B {n0 i:Nat} {pl:List Value} {v:Value} (h:pl[i]?=some v):D8 ρ n0 pl (n0+i)=v:=by
 unfold D8;rw [if_neg (by omega),Nat.add_sub_cancel_left,h];rfl
theorem Tp.pack {A0:O4} (hH:∀ i u,A.hda i u->i<s0.nid) (h0:Rp E A0 s0 ρ0 S0 a0 as0 w0) (h:Rp E A s1 ρ S a as w) (he:Ext s0 s1) {cth:List (Nat×Sh)} (hk:g0s s1.th s0.th cth=true) {ids:List (Option Nat)} (ho:W5 s1 ids) (ht:m0i s0.nid cth (ids.filterMap fun x=>x)=true)
  {tl:List (Nat×Th E.D)} (hn:L6 E (D8 ρ s0.nid (ids.map (place ρ))) (s0.nid+ids.length) w.heap S (X0 s0 (cth.map Prod.fst)) tl (ids.map (place ρ))) :
  Tp E A ((X0 s0 (cth.map Prod.fst)).more tl (ids.map (place ρ)).length) (D8 ρ s0.nid (ids.map (place ρ))) S w/\
   ∀ r q i f,E0 ((X0 s0 (cth.map Prod.fst)).more tl (ids.map (place ρ)).length) r=.rof q i f->r<s0.nid/\q<s0.nid/\E0 s1 r=.rof q i f:=by
 obtain ⟨g1,g2,g3,g4,g5,g6⟩:=h0i (cth.map Prod.fst) s0;have hlen:(ids.map (place ρ)).length=ids.length:=by simp
 have hnid:((X0 s0 (cth.map Prod.fst)).more tl (ids.map (place ρ)).length).nid=s0.nid+ids.length:=by show _+_=_;rw [g1,hlen]
 simp only [m0i,Bool.and_eq_true,all_eq_true] at ht;obtain ⟨hnd,hge⟩:=ht;have hnd:=p0h hnd;have low:∀ j,j<s0.nid->E0 ((X0 s0 (cth.map Prod.fst)).more tl (ids.map (place ρ)).length) j=.gone\/
   (E0 ((X0 s0 (cth.map Prod.fst)).more tl (ids.map (place ρ)).length) j=E0 s0 j/\E0 s0 j=E0 s1 j/\Q4 cth j=none):=by
  intro j hj;rw [f0J _ _ _ _ (fun p hp=>by have:=hn.keys p hp;rw [g1] at this;omega)];obtain ⟨k1,k2⟩:=h0A (cth.map Prod.fst) s0 j;cases hc:Q4 cth j with
  |
   some x=>
   refine .inl (k1 ?_)
   by_cases hm:j∈cth.map Prod.fst
   ·exact hm
   ·rw [p0q hm] at hc;cases hc
  |
   none=>
   rcases k2 with k2 | k2
   ·cases hw:Q4 s0.th j with
    |
     none=>
     refine .inl (k2.trans ?_);unfold E0;rw [hw]
    |
     some x=>
     refine .inr ⟨k2,?_,rfl⟩;unfold E0;rw [hw,t0Y hk he.th hc hw]
   ·exact .inl k2
 have high:∀ i,s0.nid+ids.length<=i->E0 ((X0 s0 (cth.map Prod.fst)).more tl (ids.map (place ρ)).length) i=.gone:=by
  intro i hi;rw [f0J _ _ _ _ (fun p hp=>by have:=hn.keys p hp;rw [g1,hlen] at this;omega)];obtain ⟨k1,k2⟩:=h0A (cth.map Prod.fst) s0 i;rcases k2 with k2 | k2
  ·rw [k2];exact h0.lt i (by omega)
  ·exact k2
 have new:∀ i,s0.nid<=i->i<s0.nid+ids.length->∃ x,ids[i-s0.nid]?=some x/\D8 ρ s0.nid (ids.map (place ρ)) i=place ρ x:=by
  intro i h1 h2;have hlt:i-s0.nid<ids.length:=by omega
  refine ⟨ids[i-s0.nid],by simp [hlt],?_⟩;have:=j0B (ρ:=ρ) (n0:=s0.nid) (pl:=ids.map (place ρ)) (i:=i-s0.nid) (v:=place ρ ids[i-s0.nid]) (by simp [hlt]);rw [show s0.nid+(i-s0.nid)=i from by omega] at this;exact this
 have who:∀ i,P1 (E0 ((X0 s0 (cth.map Prod.fst)).more tl (ids.map (place ρ)).length) i)=true->∀ k,Bk (D8 ρ s0.nid (ids.map (place ρ)) i) k->
   ∃ j,P1 (E0 s1 j)=true/\Bk (ρ j) k/\((i<s0.nid/\j=i/\Q4 cth j=none)\/(s0.nid<=i/\ids[i-s0.nid]?=some (some j))):=by
  intro i hoi k hk2;rcases lt_or_ge i s0.nid with hlt | hge2
  ·rcases low i hlt with e | ⟨e1,e2,e3⟩
   ·rw [e] at hoi;cases hoi
   ·rw [e1,e2] at hoi;rw [e7 hlt] at hk2;exact ⟨i,hoi,hk2,.inl ⟨hlt,rfl,e3⟩⟩
  ·rcases lt_or_ge i (s0.nid+ids.length) with hlt2 | hge3
   ·obtain ⟨x,hx,hp⟩:=new i hge2 hlt2;rw [hp] at hk2;cases x with
    |none=>cases hk2
    |some j=>exact ⟨j,ho j (mem_of_getElem? hx),hk2,.inr ⟨hge2,hx⟩⟩
   ·rw [high i hge3] at hoi;cases hoi
 have inj:∀ (i i':Nat) (j:Nat),i≠i'->ids[i]?=some (some j)->ids[i']?=some (some j)->False:=by
  intro i i' j hne h1 h2;have:∀ (l:List (Option Nat)) (p q:Nat),(l.filterMap fun x=>x).Nodup->p<q->l[p]?=some (some j)->l[q]?=some (some j)->False:=by
   intro l
   induction l with
   |nil=>intro p q _ _ hp;simp at hp
   |
    cons y l ih=>
    intro p q hl hpq hp hq;cases p with
    |
     zero=>
     simp at hp;subst hp;obtain ⟨q',rfl⟩:∃ q',q=q'+1:=⟨q-1,by omega⟩
     simp only [List.getElem?_cons_succ] at hq;simp only [List.filterMap_cons,nodup_cons] at hl;exact hl.1 (mem_filterMap.2 ⟨some j,mem_of_getElem? hq,rfl⟩)
    |
     succ p=>
     obtain ⟨q',rfl⟩:∃ q',q=q'+1:=⟨q-1,by omega⟩
     simp only [List.getElem?_cons_succ] at hp hq;refine ih p q' ?_ (by omega) hp hq;cases y with
     |none=>simpa using hl
     |some z=>simp only [List.filterMap_cons,nodup_cons] at hl;exact hl.2
  rcases Nat.lt_or_gt_of_ne hne with hlt | hgt
  ·exact this ids i i' hnd hlt h1 h2
  ·exact this ids i' i hnd hgt h2 h1
 have rofs:∀ r q i f,E0 ((X0 s0 (cth.map Prod.fst)).more tl (ids.map (place ρ)).length) r=.rof q i f->r<s0.nid/\q<s0.nid/\E0 s1 r=.rof q i f:=by
  intro r q i f hr;rcases lt_or_ge r s0.nid with hlt | hge2
  ·rcases low r hlt with e | ⟨e1,e2,_⟩
   ·rw [e] at hr;cases hr
   ·exact ⟨hlt,h0.b0T (by rw [<-e1];exact hr),by rw [<-e2,<-e1];exact hr⟩
  ·rcases lt_or_ge r (s0.nid+ids.length) with hlt2 | hge3
   ·obtain ⟨x,hx,hp⟩:=new r hge2 hlt2;have:=(hn.th (r-s0.nid) (place ρ x) (by rw [List.getElem?_map,hx];rfl)).2;rw [g1,show s0.nid+(r-s0.nid)=r from by omega,hr] at this;cases this
   ·rw [high r hge3] at hr;cases hr
 refine ⟨⟨h.cx,fun id=>?_,fun i hoi k hk2=>?_,fun i i' hne hoi hoi' k hk2 hk3=>?_,fun i hi=>high i (by rw [<-hnid];exact hi),fun r q i f hr e F t xs hq=>?_,h.kp,fun i u ha=>⟨by rw [hnid];have:=hH i u ha;omega,by rw [e7 (hH i u ha)];exact (h.hp i u ha).2⟩⟩,rofs⟩
 ·rw [hnid];rcases lt_or_ge id s0.nid with hlt | hge2
  ·rcases low id hlt with e | ⟨e1,e2,e3⟩
   ·rw [e];trivial
   ·rw [e1,e7 hlt];have h1:=h.th id;rw [<-e2] at h1;exact X3.cut (fun i hi=>by rw [e7 hi]) (le_add_right _ _) (h0.th id) h1
  ·rcases lt_or_ge id (s0.nid+ids.length) with hlt2 | hge3
   ·obtain ⟨x,hx,hp⟩:=new id hge2 hlt2;have:=(hn.th (id-s0.nid) (place ρ x) (by rw [List.getElem?_map,hx];rfl)).1;rw [g1,show s0.nid+(id-s0.nid)=id from by omega] at this;rw [hp];exact this
   ·rw [high id hge3];trivial
 ·obtain ⟨j,h1,h2,_⟩:=who i hoi k hk2;exact h.ow j h1 k h2
 ·obtain ⟨j,h1,h2,h3⟩:=who i hoi k hk2;obtain ⟨j',h1',h2',h3'⟩:=who i' hoi' k hk3
  by_cases hjj:j=j'
  ·subst hjj;rcases h3 with ⟨h3,rfl,h5⟩ | ⟨h3,h5⟩
   ·rcases h3' with ⟨h3',h4',_⟩ | ⟨h3',h5'⟩
    ·exact hne h4'
    ·have:=hge j (mem_filterMap.2 ⟨some j,mem_of_getElem? h5',rfl⟩);rw [h5] at this;simp at this;omega
   ·rcases h3' with ⟨h3',rfl,h5'⟩ | ⟨h3',h5'⟩
    ·have:=hge j (mem_filterMap.2 ⟨some j,mem_of_getElem? h5,rfl⟩);rw [h5'] at this;simp at this;omega
    ·exact inj _ _ j (by omega) h5 h5'
  ·exact h.dj j j' hjj h1 h1' k h2 h2'
 ·obtain ⟨h1,hq0,h3⟩:=rofs r q i f hr;rcases low q hq0 with e' | ⟨e1,e2,_⟩
  ·rw [e'] at hq;cases hq
  ·rw [e7 hq0,e7 h1];exact h.rf r q i f h3 e F t xs (by rw [<-e2,<-e1];exact hq)
section
variable {A:O4} {s0 s s1:St E.D} {ρ0 ρ:Nat->Value} {S0 S:D0} {a0 a:Act} {as0 as:List Act} {w0 w:World}
theorem VT.app {n:Nat} {H:K0}:∀ {l l':List (V E.D)} {us us':List Value},VT E ρ n H S l us->VT E ρ n H S l' us'->VT E ρ n H S (l++l') (us++us')
 |[],l',us,us',h,h'=>by unfold VT at h;subst h;exact h'
 |
  v :: l,l',us,us',h,h'=>by
  unfold VT at h;obtain ⟨c,u,h1,rfl,h2⟩:=h;rw [List.cons_append];unfold VT;exact ⟨c,u++us',h1,rfl,VT.app h2 h'⟩
theorem VT.map {n:Nat} {H:K0} {α:Type} {f:α->V E.D} {g:α->Value}:∀ {l:List α},(∀ p∈l,VS E ρ n H S (f p) (g p))->VT E ρ n H S (l.map f) (l.map g)
 |[],_=>by unfold List.map VT;rfl
 |
  p :: l,h=>by
  obtain ⟨c,h1,h2⟩:=h p (by simp);rw [map_cons,map_cons];unfold VT;exact ⟨c,_,h1,by rw [h2],VT.map fun q hq=>h q (by simp [hq])⟩
theorem VT.j01 {n:Nat} {H:K0}:∀ {us us':List Value} {l:List (V E.D)},VT E ρ n H S l (us++us')->∃ l1 l2,l=l1++l2/\l1.length=us.length/\VT E ρ n H S l1 us/\VT E ρ n H S l2 us'
 |[],us',l,h=>⟨[],l,rfl,rfl,by unfold VT;rfl,h⟩
 |u :: us,us',[],h=>by unfold VT at h;simp at h
 |
  u :: us,us',v :: l,h=>by
  unfold VT at h;obtain ⟨c,q,h1,h2,h3⟩:=h;simp only [List.cons_append,List.cons.injEq] at h2;obtain ⟨rfl,rfl⟩:=h2;obtain ⟨l1,l2,rfl,h4,h5,h6⟩:=VT.j01 h3;exact ⟨v :: l1,l2,rfl,by simp [h4],by unfold VT;exact ⟨c,us,h1,rfl,h5⟩,h6⟩
theorem Rp.b0R (h:Rp E A s ρ S a as w) (t:Nat):VS E ρ s.nid w.heap S (b0R s t) (a.tmps.getD t undef):=by
 unfold Go.X.b0R;cases ht:Q4 s.fr t with
 |some v=>exact h.get ht
 |none=>exact VS.undef _
theorem Rp.thV (h:Rp E A s ρ S a as w) (id:Nat):VS E ρ s.nid w.heap S (thV s id) (hd (ρ id)):=by
 have ht:=h.th id;have hid:E0 s id≠.gone->id<s.nid:=h.F7;unfold Go.X.thV;cases hl:E0 s id with
 |gone=>exact VS.undef _
 |
  box T l=>
  rw [hl] at ht hid;obtain ⟨b,cs,hr,_⟩:=ht;have:=VS.pb (E:=E) (ρ:=ρ) (b:=b) (S:=S) (H:=w.heap) (off:=0) (p:=[]) (hid (by simp)) trivial (by rw [hr];rfl);rw [hr];simpa [M4,Go.X.hd] using this
 |
  fzb T l=>
  rw [hl] at ht hid;obtain ⟨b,cs,hr,_⟩:=ht;have:=VS.pb (E:=E) (ρ:=ρ) (b:=b) (S:=S) (H:=w.heap) (off:=0) (p:=[]) (hid (by simp)) trivial (by rw [hr];rfl);rw [hr];simpa [M4,Go.X.hd] using this
 |
  lst e t xs=>
  rw [hl] at ht hid;obtain ⟨A',c,hv⟩:=S5.form ht;exact VS.of rfl (by unfold VC;exact ⟨hid (by simp),by rw [hv];rfl,rfl⟩)
 |
  fz t xs=>
  rw [hl] at ht hid;obtain ⟨A',c,hv,_⟩:=ht;exact VS.of rfl (by unfold VC;exact ⟨hid (by simp),by rw [hv];rfl,rfl⟩)
 |
  map m=>
  rw [hl] at ht hid;obtain ⟨r,es,cl,hv,_⟩:=ht;exact VS.of rfl (by unfold VC;exact ⟨hid (by simp),by rw [hv];rfl,rfl⟩)
 |
  B1 e F t xs o=>
  rw [hl] at ht hid;obtain ⟨cs,ht⟩:=ht;obtain ⟨A',c,hv⟩:=Row.form ht.row;exact VS.of rfl (by unfold VC;exact ⟨hid (by simp),by rw [hv];rfl,rfl⟩)
 |
  rof q i f=>
  rw [hl] at ht hid;exact VS.of rfl (by unfold VC;exact ⟨hid (by simp),by rw [ht.2.2];exact ht.2.1,rfl⟩)
theorem s0L {n:Nat} {H:K0} {t:Nat->Value}:∀ (sl:List (Nat×Sh)) (l:List (V E.D)) (u:St E.D),VT E ρ n H S l (sl.map fun p=>t p.1)->(∀ k v,k∉sl.map Prod.fst->Q4 u.fr k=some v->VS E ρ n H S v (t k))->
  (∀ k v,Q4 (z8 u sl l).fr k=some v->VS E ρ n H S v (t k))/\(z8 u sl l).th=u.th/\(z8 u sl l).nid=u.nid/\(z8 u sl l).n=u.n/\(z8 u sl l).stk=u.stk/\∃ q,(z8 u sl l).fr=q++u.fr
 |[],l,u,_,hu=>⟨fun k v h=>hu k v (by simp) (by cases l<;>exact h),by cases l<;>rfl,by cases l<;>rfl,by cases l<;>rfl,by cases l<;>rfl,[],by cases l<;>rfl⟩
 |(i,sh) :: sl,[],u,hl,_=>by unfold VT at hl;simp at hl
 |
  (i,sh) :: sl,v :: l,u,hl,hu=>by
  rw [map_cons] at hl;unfold VT at hl;obtain ⟨c,us,h1,h2,h3⟩:=hl;simp only [List.cons.injEq] at h2;obtain ⟨h2,rfl⟩:=h2;obtain ⟨k1,k2,k3,k4,k5,q,k6⟩:=s0L sl l (u.put (some i) v) h3 (fun k w hk hw=>by
   simp only [St.put,a0q] at hw;split at hw
   ·rename_i e;simp only [Option.some.injEq] at hw;subst e;subst hw;exact ⟨c,h1,h2⟩
   ·rename_i e;exact hu k w (by rw [map_cons,mem_cons];rintro (e2 | e2);exact e e2.symm;exact hk e2) hw)
  exact ⟨k1,k2,k3,k4,k5,q++[(i,v)],by show (z8 (u.put (some i) v) sl l).fr=_;rw [k6];simp [St.put]⟩
theorem o09 {N:Nat} {H:K0} {S1:D0}:∀ (th:List (Nat×Sh)) (l:List (V E.D)) (u:St E.D) (ρ:Nat->Value),Tp E A u ρ S w->(∀ p∈th,p.1<u.nid)->A0b E u ρ w th->VT E ρ N H S1 l (th.map fun p=>hd (ρ p.1))->
  ∃ ρ1,Tp E A (a0y u th l) ρ1 S w/\(∀ i,hd (ρ1 i)=hd (ρ i))/\(a0y u th l).fr=u.fr/\(a0y u th l).nid=u.nid/\(a0y u th l).n=u.n/\(a0y u th l).stk=u.stk/\∃ q,(a0y u th l).th=q++u.th
 |[],l,u,ρ,h,_,_,_=>⟨ρ,by cases l<;>exact h,fun _=>rfl,by cases l<;>rfl,by cases l<;>rfl,by cases l<;>rfl,by cases l<;>rfl,[],by cases l<;>rfl⟩
 |(i,sh) :: th,[],u,ρ,_,_,_,hl=>by unfold VT at hl;simp at hl
 |
  (i,sh) :: th,v :: l,u,ρ,h,hi,hrf,hl=>by
  rw [map_cons] at hl;unfold VT at hl;obtain ⟨c,us,h1,h2,h3⟩:=hl;simp only [List.cons.injEq] at h2;obtain ⟨h2,rfl⟩:=h2;obtain ⟨m1,m2,m3,m4,q,m5⟩:=D0T u i sh v;obtain ⟨ρ1,g1,g2,g3⟩:=h.move (hi (i,sh) (by simp)) (sh:=sh) ⟨c,h1,h2⟩ (hrf (i,sh) (by simp));have h3':VT E ρ1 N H S1 l (th.map fun p=>hd (ρ1 p.1)):=by
   have e:(th.map fun p=>hd (ρ1 p.1))=th.map fun p=>hd (ρ p.1):=List.map_congr_left fun p _=>g2 p.1;rw [e];exact h3.mono (fun i _=>g2 i) (le_refl _) (U0.refl _ _)
  obtain ⟨ρ2,k1,k0,k2,k3,k4,k5,q',k6⟩:=o09 th l (a0F u i sh v) ρ1 g1 (fun p hp=>by rw [m1];exact hi p (by simp [hp])) (fun p hp e F t hsh r i' f hr=>by
   obtain ⟨e1,e2⟩:=g3 r p.1 i' f hr;rw [g2,e2];exact hrf p (by simp [hp]) e F t hsh r i' f e1) h3'
  exact ⟨ρ2,k1,fun i=>(k0 i).trans (g2 i),k2.trans m2,k3.trans m1,k4.trans m3,k5.trans m4,q'++q,by show (a0y (a0F u i sh v) th l).th=_;rw [k6,m5];simp⟩
theorem t0N {s:St E.D} {e:Nat} {F:List Nat} {t:U}:∀ (cs:List Sh) (l:List (V E.D)) (pk:Pk (S4 E.D cs)),U7 E s cs l=some pk->∀ (i:Nat) (v:V E.D),cs[i]?=some (.B1 e F t)->l[i]?=some v->∃ pk',d0s E s e F t v=some pk'
 |[],_,_,_,i,_,hi,_=>by simp at hi
 |
  x :: r,l,pk,h,i,v,hi,hv=>by
  unfold U7 at h;split at h<;>try cases h
  rename_i v' l';split at h<;>try cases h
  rename_i i1 a j b hr1 hr2;cases i with
  |
   zero=>
   obtain rfl:x=.B1 e F t:=Option.some.inj hi;obtain rfl:v'=v:=Option.some.inj hv;unfold rd at hr1;exact ⟨_,hr1⟩
  |succ i=>exact t0N r l' _ hr2 i v (by simpa using hi) (by simpa using hv)
theorem x0X {s s1:St E.D} {id e:Nat} {F:List Nat} {t:U} {pk:Pk (List (Den E.D t))} (h:d0s E s1 e F t (thV s id)=some pk):∃ xs,E0 s1 id=.B1 e F t xs none:=by
 unfold thV at h;split at h<;>simp only [d0s] at h<;>first | (cases h;done) | skip
 all_goals
  split at h<;>try cases h
  rename_i hl;split at h<;>try cases h
  rename_i he hc;rw [Bool.and_eq_true,beq_eq,beq_iff_eq] at he;obtain ⟨rfl,rfl⟩:=he;obtain ⟨e2,hc⟩:=L9 hc;subst e2;exact ⟨_,hl⟩
theorem e0t (hE:Q1 E) {A0:O4} (hH:∀ i u,A.hda i u->i<s0.nid) (h0:Rp E A0 s0 ρ0 S0 a0 as0 w0) (h:Rp E A s ρ S a as w) (he:Ext s0 s) {c:Cut} {x:f02 E.D c} (hp:b0w E s0 s c=some x) {R:Type} {r:R} {k:St E.D->Option R} (hu:c0B E s0 c x k=some r) :
  ∃ u ρ1 S1,k u=some r/\Rp E A u ρ1 S1 a as w/\Ext s0 u/\∀ k,S1 k->S k:=by
 unfold b0w at hp;simp only at hp;split at hp<;>try cases hp
 rename_i s1 hf;split at hp<;>try cases hp
 rename_i ids x' hrd;split at hp<;>try cases hp
 rename_i hok;simp only [Bool.and_eq_true] at hok;obtain ⟨⟨⟨⟨⟨hk1,hk2⟩,hto⟩,hlt⟩,hnd⟩,hsl⟩:=hok;obtain ⟨S1,hs1,hr1,he1,hf1,hn1⟩:=a0a hE _ s _ s1 hf S h;have he2:=he.trans he1;have hvt:VT E ρ s1.nid w.heap S1 (c.sl.map (fun p=>b0R s p.1)++c.th.map (fun p=>thV s p.1)) (c.sl.map (fun p=>a.tmps.getD p.1 undef)++c.th.map (fun p=>hd (ρ p.1))):=by
  rw [hn1];exact (VT.map fun p _=>(h.b0R p.1).c02 hs1).app (VT.map fun p _=>(h.thV p.1).c02 hs1)
 obtain ⟨hsr,hown⟩:=f00 hE hr1.th c.shs _ ⟨ids,x⟩ _ hrd hvt;obtain ⟨g1,g2,g3,g4,g5,g6⟩:=h0i (c.th.map Prod.fst) s0;unfold c0B at hu;have hlen:(ids.map (place ρ)).length=ids.length:=by simp
 obtain ⟨vs2,tl,hk',hvt2,hnt⟩:=f0j (ρ:=D8 ρ s0.nid (ids.map (place ρ))) (N:=s0.nid+ids.length) c.shs x _ _ (X0 s0 (c.th.map Prod.fst)) _ hsr hu (fun i v hi=>by rw [g1];exact j0B hi) (by rw [g1,hlen];exact le_refl _);obtain ⟨htp,hrofs⟩:=Tp.pack hH h0 hr1 he2 hk2 hown hto hnt;obtain ⟨l1,l2,rfl,hl1,hv1,hv2⟩:=hvt2.j01;have hd:(l1++l2).drop c.sl.length=l2:=by
  have:l1.length=c.sl.length:=by simpa using hl1
  rw [<-this];simp
 have hnidU:((X0 s0 (c.th.map Prod.fst)).more tl (ids.map (place ρ)).length).nid=s0.nid+ids.length:=by show _+_=_;rw [g1,hlen]
 have hput:z8 ((X0 s0 (c.th.map Prod.fst)).more tl (ids.map (place ρ)).length) c.sl (l1++l2)=z8 ((X0 s0 (c.th.map Prod.fst)).more tl (ids.map (place ρ)).length) c.sl l1:=by
  have:∀ (sl:List (Nat×Sh)) (l l':List (V E.D)) (u:St E.D),l.length=sl.length->z8 u sl (l++l')=z8 u sl l:=by
   intro sl
   induction sl with
   |
    nil=>
    intro l l' u hl;have:l=[]:=List.eq_nil_of_length_eq_zero hl;subst this;cases l'<;>rfl
   |
    cons p sl ih=>
    intro l l' u hl;cases l with
    |nil=>simp at hl
    |
     cons v l=>
     obtain ⟨i,sh⟩:=p;show z8 (u.put (some i) v) sl (l++l')=z8 (u.put (some i) v) sl l;exact ih l l' _ (by simpa using hl)
  exact this _ _ _ _ (by simpa using hl1)
 rw [hd,hput] at hk';have hfr0:((X0 s0 (c.th.map Prod.fst)).more tl (ids.map (place ρ)).length).fr=s0.fr:=g2;obtain ⟨q1,q2,q3,q4,q5,q6,q7⟩:=s0L (t:=fun k=>a.tmps.getD k undef) c.sl l1 ((X0 s0 (c.th.map Prod.fst)).more tl (ids.map (place ρ)).length) hv1 (fun k v hk hv=>by
  rw [hfr0] at hv;have h2:=t0Y hk1 he2.fr (p0q hk) hv;exact VS.cut (fun i hi=>by rw [e7 hi]) (le_add_right _ _) (h0.get hv) (hr1.get h2))
 have htp2:Tp E A (z8 ((X0 s0 (c.th.map Prod.fst)).more tl (ids.map (place ρ)).length) c.sl l1) (D8 ρ s0.nid (ids.map (place ρ))) S1 w:=by
  have hlk:∀ i,E0 (z8 ((X0 s0 (c.th.map Prod.fst)).more tl (ids.map (place ρ)).length) c.sl l1) i=E0 ((X0 s0 (c.th.map Prod.fst)).more tl (ids.map (place ρ)).length) i:=fun i=>by unfold E0;rw [q2]
  refine ⟨htp.cx,fun i=>?_,fun i hi=>?_,fun i j hij hi hj=>?_,fun i hi=>?_,fun r q i f hr e F t xs hq=>?_,htp.kp,fun i u ha=>⟨by rw [q3];exact (htp.hp i u ha).1,(htp.hp i u ha).2⟩⟩
  ·rw [hlk,q3];exact htp.th i
  ·rw [hlk] at hi;exact htp.ow i hi
  ·rw [hlk] at hi hj;exact htp.dj i j hij hi hj
  ·rw [hlk];rw [q3] at hi;exact htp.lt i hi
  ·rw [hlk] at hr hq;exact htp.rf r q i f hr e F t xs hq
 have hltp:∀ p∈c.th,p.1<s0.nid:=fun p hp=>by
  have:=all_eq_true.1 hlt p hp
  rwa [Nat.blt_eq] at this
 obtain ⟨ρ2,m1,m0,m2,m3,m4,m5,m6,m7⟩:=o09 (N:=s0.nid+ids.length) (H:=w.heap) (S1:=S1) c.th l2 _ _ htp2 (fun p hp=>by rw [q3,hnidU];have:=hltp p hp;omega) (fun p hp e F t hsh r i f hr=>by
  have hlk:E0 (z8 ((X0 s0 (c.th.map Prod.fst)).more tl (ids.map (place ρ)).length) c.sl l1) r=E0 ((X0 s0 (c.th.map Prod.fst)).more tl (ids.map (place ρ)).length) r:=by unfold E0;rw [q2]
  rw [hlk] at hr;obtain ⟨z1,z2,z3⟩:=hrofs r p.1 i f hr;rw [e7 z1,e7 z2];obtain ⟨kk,hkk⟩:=List.getElem?_of_mem hp;obtain ⟨pk',hpk⟩:=t0N (e:=e) (F:=F) (t:=t) c.shs _ _ hrd (c.sl.length+kk) (thV s p.1) (by unfold Cut.shs;rw [List.getElem?_append_right (by simp)];simp [hkk,hsh]) (by rw [List.getElem?_append_right (by simp)];simp [hkk]);obtain ⟨xs,hxs⟩:=x0X hpk;exact hr1.rf r p.1 i f z3 e F t xs hxs) (by
  have:c.th.map (fun p=>Go.X.hd (D8 ρ s0.nid (ids.map (place ρ)) p.1))=c.th.map (fun p=>Go.X.hd (ρ p.1)):=List.map_congr_left fun p hp=>by rw [e7 (hltp p hp)]
  rw [this];exact hv2)
 have hnidF:=m3.trans (q3.trans hnidU);refine ⟨_,_,S1,hk',⟨m1.cx,⟨?_,h.fr.defers,fun t v ht=>?_⟩,?_,m1.th,m1.ow,m1.dj,m1.lt,m1.rf,m1.kp,m1.hp⟩,⟨?_,?_,?_,?_,?_⟩,hs1⟩
 ·rw [m4,q4];show a.tmps.size=(X0 s0 (c.th.map Prod.fst)).n;rw [g3,h.fr.size,he.n]
 ·rw [hnidF];rw [m2] at ht;exact (q1 t v ht).mono (fun i _=>m0 i) (le_refl _) (U0.refl _ _)
 ·rw [hnidF,m5,q5];show O9 E _ _ _ _ (X0 s0 (c.th.map Prod.fst)).stk as;rw [g4];have:=hr1.stk;rw [he2.stk] at this;exact O9.cut (fun i hi=>by rw [m0,e7 hi]) (le_add_right _ _) h0.stk this
 ·rw [m4,q4];exact g3
 ·rw [m2,q7];exact ⟨q6,by rw [hfr0]⟩
 ·rw [m7,q2];exact ⟨m6++(tl++g5),by show _=_ ;simp [St.more,g6]⟩
 ·rw [m5,q5];exact g4
 ·rw [hnidF];exact le_add_right _ _
section
variable {A:O4} {s0 s:St E.D} {ρ0 ρ:Nat->Value} {S0 S:D0} {a0 a:Act} {as0 as:List Act} {w0 w:World}
theorem Ex.h06:∀ {e f:Ex},Ex.eq e f=true->e=f
 |.nrm,.nrm,_=>rfl
 |.ex i,.ex j,h=>by have h:Nat.beq i j=true:=h;rw [beq_eq] at h;rw [h]
 |.ret,.ret,_=>rfl
 |.nrm,.ex _,h=>by cases h
 |.nrm,.ret,h=>by cases h
 |.ex _,.nrm,h=>by cases h
 |.ex _,.ret,h=>by cases h
 |.ret,.nrm,h=>by cases h
 |.ret,.ex _,h=>by cases h
theorem o0U (hE:Q1 E) {A0:O4} (hH:∀ i u,A.hda i u->i<s0.nid) (h0:Rp E A0 s0 ρ0 S0 a0 as0 w0) (h:Rp E A s ρ S a as w) (he:Ext s0 s) {e:Ex} {R:Type} {r:R} {k:Ex->St E.D->Option R}:∀ (xs:List (Ex×Cut)) (d:g07 E.D xs),c0G E s0 e s xs=some d->resume E s0 k xs d=some r->
  ∃ u ρ1 S1,k e u=some r/\Rp E A u ρ1 S1 a as w/\Ext s0 u
 |[],d,hp,_=>by cases d
 |
  [x],d,hp,hr=>by
  unfold c0G at hp;split at hp<;>try cases hp
  rename_i he2;have e2:=Ex.h06 he2;unfold resume at hr;obtain ⟨u,ρ1,S1,h1,h2,h3,_⟩:=e0t hE hH h0 h he hp hr;exact ⟨u,ρ1,S1,by rw [<-e2];exact h1,h2,h3⟩
 |
  x :: y :: xs,d,hp,hr=>by
  unfold c0G at hp;split at hp
  ·rename_i he2;have e2:=Ex.h06 he2;split at hp<;>try cases hp
   rename_i b hb;obtain ⟨u,ρ1,S1,h1,h2,h3,_⟩:=e0t hE hH h0 h he hb (show c0B E s0 x.2 b (k x.1)=some r from hr);exact ⟨u,ρ1,S1,by rw [<-e2];exact h1,h2,h3⟩
  ·split at hp<;>try cases hp
   rename_i b hb;exact o0U hE hH h0 h he (y :: xs) b hb hr
end
end
end
end
end
