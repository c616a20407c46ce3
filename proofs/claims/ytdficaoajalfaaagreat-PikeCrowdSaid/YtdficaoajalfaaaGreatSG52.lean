/- The deepest node that two are in, and how deep it lies. The rank of runs that went on: the program and the document tell the same. The rank of runs that went on, by the program and by the document. Its conditions: none. -/
import Derived.Test.YtdficaoajalfaaaGreatSG51
open Nat (zero_le lt_or_ge sub_zero)
open Bool (false_eq_true)
set_option linter.all false
namespace Go.Proofs.YtdficaoajalfaaaGreat
open Go.V Go.RowKit Old
theorem a_ph {l:List a_2}:∀ {n:Nat} {a:List Int},k_3 l n=some a->∀ j,j<n->∃ b,k_3 l j=some b/\b.length=j/\(∀ i:Nat,i<j->gt a (i:Int)=gt b (i:Int))/\gt a (j:Int)=g_2 l b j/\0<=g_2 l b j
 |0,a,h,j,hj=>by omega
 |
  n+1,a,h,j,hj=>by
  simp only [k_3] at h
  split at h
  ·cases h
  ·rename_i b hb
   split at h
   ·rename_i hg
    cases h
    have hl:=(a_dr hb).len
    simp only [u_2,Bool.and_eq_true,decide_eq_true_eq] at hg
    by_cases e:j=n
    ·subst e
     exact ⟨b,hb,hl,fun i hi=>m_6 (by omega) (by omega),x_9 hl.symm,hg.1.1⟩
    ·obtain ⟨c,h1,h2,h3,h4,h5⟩:=a_ph hb j (by omega)
     exact ⟨c,h1,h2,fun i hi=>by rw [m_6 (by omega) (by omega)];exact h3 i hi,by rw [m_6 (by omega) (by omega)];exact h4,h5⟩
   ·cases h
theorem a_1z {c:Prop} [Decidable c] {v z:Int} (h:0<=if c then v else -1) (e:v=z):(if c then v else -1)=z:=by
 by_cases hc:c
 ·rw [if_pos hc];exact e
 ·rw [if_neg hc] at h;omega
theorem a_8d {c d:Prop} [Decidable c] [Decidable d] {v z:Int} (h:0<=if c then (if d then v else -1) else -1) (e:v=z):(if c then (if d then v else -1) else -1)=z:=by
 by_cases hc:c
 ·rw [if_pos hc] at h ⊢;exact a_1z h e
 ·rw [if_neg hc] at h;omega
theorem b_g3 {l:List a_2}:∀ {s:Tm} {lo n:Nat} {a:List Int},At l lo s->s.top lo<n->k_3 l n=some a->gt a (s.top lo:Int)=lo:=by
 intro s
 induction s with
 |
  eps | leaf s=>
  intro lo n a h hn ha
  obtain ⟨b,h1,h2,h3,h4,h5⟩:=a_ph ha _ hn
  rw [h4]
  have hg:=h.f_6
  unfold g_2
  rw [hg]
  simp [Tm.node,Tm.top,Tm.size]
 |
  cat x y ihx ihy | alt x y ihx ihy=>
  intro lo n a h hn ha
  obtain ⟨b,h1,h2,h3,h4,h5⟩:=a_ph ha _ hn
  have hg:=h.f_6
  obtain ⟨hx,hy,_⟩:=(At.bin rfl rfl).1 h
  have:=x.size_pos;have:=y.size_pos
  rw [h4]
  have i1:=ihx hx (n:=Tm.top _ lo) (a:=b) (by simp only [Tm.top,Tm.size];omega) h1
  unfold g_2 at h5 ⊢
  rw [hg] at h5 ⊢
  simp only [Tm.node] at h5 ⊢
  revert h5
  simp only [show ¬ ((3:Int)=1\/(3:Int)=2) from by omega,show ¬ ((4:Int)=1\/(4:Int)=2) from by omega,if_false,show ((3:Int)=3\/(3:Int)=4) from .inl rfl,show ((4:Int)=3\/(4:Int)=4) from .inr rfl,if_true]
  intro h5
  first | exact a_1z h5 i1 | exact a_8d h5 i1
 |
  star x ihx | maybe x ihx | group _ x ihx | iter x ihx=>
  intro lo n a h hn ha
  obtain ⟨b,h1,h2,h3,h4,h5⟩:=a_ph ha _ hn
  have hg:=h.f_6
  obtain ⟨hx,_⟩:=(At.un rfl rfl).1 h
  have:=x.size_pos
  rw [h4]
  have i1:=ihx hx (n:=Tm.top _ lo) (a:=b) (by simp only [Tm.top,Tm.size];omega) h1
  unfold g_2 at h5 ⊢
  rw [hg] at h5 ⊢
  simp only [Tm.node] at h5 ⊢
  revert h5
  simp
  intro h5
  first | exact a_1z h5 i1 | exact a_8d h5 i1
theorem a_j7 {l:List a_2} (hR:c_0 l=true) {s:Tm} {lo:Nat} (h:At l lo s):gt (i_9 l) (s.top lo:Int)=lo:=by
 have ht:=h.k_6
 unfold c_0 at hR
 unfold i_9 at hR ⊢
 cases e:k_3 l l.length with
 |none=>rw [e] at hR;simp at hR
 |
  some a=>
  rw [e] at hR
  dsimp only at hR ⊢
  split
  ·rename_i hc;rw [if_pos hc] at hR;simp at hR
  ·exact b_g3 h ht e
theorem b_dr {l:List a_2} (hR:c_0 l=true) {s:Tm} {lo:Nat} (h:At l lo s) {q:Nat} (h1:lo<=q) (h2:q<lo+s.size):(lo:Int)<=gt (i_9 l) (q:Int):=by
 obtain ⟨lo',s',h3,h4,h5,_⟩:=h.b_dm q h1 h2
 have:=a_j7 hR h3
 rw [h4] at this
 rw [this];omega
def l_9 (l:List a_2) (a b:Nat) (q:Nat):Bool:=decide (gt (i_9 l) (q:Int)<=(a:Int))&&(decide (a<=q)&&(decide (gt (i_9 l) (q:Int)<=(b:Int))&&decide (b<=q)))
theorem z_6 {l:List a_2} {a b q:Nat}:l_9 l a b q=true↔gt (i_9 l) (q:Int)<=(a:Int)/\a<=q/\gt (i_9 l) (q:Int)<=(b:Int)/\b<=q:=by
 simp [l_9]
def a_kw (b:Nat):List Fr->Nat->Tm->Nat
 |[],lo,s=>s.top lo
 |f :: fs,lo,s=>if lo<=b/\b<=s.top lo then s.top lo else a_kw b fs (lo-f.off) (f.e_8 s)
theorem b_jy {l:List a_2} {t:Tm} (ht:IsT l t) (hR:c_0 l=true) {a b:Nat} (hb:b<l.length):∀ (fs:List Fr) (lo:Nat) (s:Tm),Ctx t lo s fs->lo<=a->a<=s.top lo->(∀ q,lo<=q->q<s.top lo->l_9 l a b q=false)->
  l_9 l a b (a_kw b fs lo s)=true/\(∀ q,q<a_kw b fs lo s->l_9 l a b q=false)/\a_kw b fs lo s<l.length:=by
 intro fs
 induction fs with
 |
  nil=>
  intro lo s hc h1 h2 h3
  obtain ⟨rfl,rfl⟩:=hc
  have hlen:=ht.len;have hp:=s.size_pos
  have hl:=a_j7 hR ht.at0
  simp only [a_kw]
  refine ⟨z_6.2 ⟨by rw [hl];omega,h2,by rw [hl];omega,by unfold Tm.top;omega⟩,fun q hq=>h3 q (zero_le _) hq,by unfold Tm.top;omega⟩
 |
  cons f fs ih=>
  intro lo s hc h1 h2 h3
  have hat:=hc.at_ ht
  have hlo:=a_j7 hR hat
  have htop:=hat.k_6
  simp only [a_kw]
  split
  ·rename_i hin
   refine ⟨z_6.2 ⟨by rw [hlo];omega,h2,by rw [hlo];omega,hin.2⟩,fun q hq=>?_,htop⟩
   by_cases h:lo<=q
   ·exact h3 q h hq
   ·have:¬ l_9 l a b q=true:=fun h'=>by have:=(z_6.1 h').2.1;omega
    simpa using this
  ·rename_i hout
   obtain ⟨hoff,hc2⟩:=hc
   have hat2:=hc2.at_ ht
   have hsp:=s.size_pos
   have inS:∀ q,lo<=q->q<=s.top lo->l_9 l a b q=false:=fun q q1 q2=>by
    have hge:=b_dr hR hat q1 (by unfold Tm.top at q2;omega)
    have:¬ l_9 l a b q=true:=fun h'=>by
     obtain ⟨_,_,p3,p4⟩:=z_6.1 h'
     exact hout ⟨by omega,by omega⟩
    simpa using this
   have hlt:∀ q,q<lo->l_9 l a b q=false:=fun q q1=>by
    have:¬ l_9 l a b q=true:=fun h'=>by have:=(z_6.1 h').2.1;omega
    simpa using this
   have hgt:∀ (y:Tm),At l (lo+s.size) y->∀ q,lo+s.size<=q->q<lo+s.size+y.size->l_9 l a b q=false:=fun y hy q q1 q2=>by
    have hge:=b_dr hR hy q1 q2
    have:¬ l_9 l a b q=true:=fun h'=>by
     have:=(z_6.1 h').1
     unfold Tm.top at h2;omega
    simpa using this
   have all:∀ q,lo-f.off<=q->q<(f.e_8 s).top (lo-f.off)->l_9 l a b q=false:=fun q q1 q2=>by
    rcases lt_or_ge q lo with c | c
    ·exact hlt q c
    ·rcases lt_or_ge (s.top lo) q with c2 | c2
     ·cases f<;>simp only [Fr.e_8,Fr.off,sub_zero,Tm.top,Tm.size] at q1 q2 c2 hat2 hoff
      case catL y=>exact hgt y ((At.bin rfl rfl).1 hat2).2.1 q (by omega) (by omega)
      case altL y=>exact hgt y ((At.bin rfl rfl).1 hat2).2.1 q (by omega) (by omega)
      all_goals omega
     ·exact inS q c c2
   refine ih _ _ hc2 (by omega) ?_ all
   cases f<;>simp only [Fr.e_8,Fr.off,sub_zero,Tm.top,Tm.size] at h2 hoff ⊢<;>omega
def h_7 (l:List a_2) (a b:Nat):Nat:=((List.range l.length).find? (l_9 l a b)).getD 0
theorem b_gr {P:Nat->Bool} {n k:Nat} (hk:k<n) (h:P k=true) (hf:∀ q,q<k->P q=false):(List.range n).find? P=some k:=by
 rw [List.find?_eq_some_iff_append]
 refine ⟨h,List.range k,(List.range (n-k-1)).map (k+1+·),?_,fun q hq=>by simp [hf q (List.mem_range.1 hq)]⟩
 refine List.ext_getElem (by simp;omega) fun i h1 h2=>?_
 simp only [List.length_range] at h1
 simp only [List.getElem_range]
 rcases Nat.lt_trichotomy i k with c | c | c
 ·rw [List.getElem_append_left (by simpa using c)];simp
 ·subst c;rw [List.getElem_append_right (by simp)];simp
 ·rw [List.getElem_append_right (by simp;omega)]
  simp only [List.length_range]
  rw [List.getElem_cons]
  rw [dif_neg (by omega)]
  simp;omega
theorem b_ls {l:List a_2} {a b k:Nat} (hk:k<l.length) (h:l_9 l a b k=true) (hf:∀ q,q<k->l_9 l a b q=false):h_7 l a b=k:=by
 unfold h_7;rw [b_gr hk h hf];rfl
theorem a_1k (l:List a_2) (a b:Nat):h_7 l a b=h_7 l b a:=by
 have:l_9 l a b=l_9 l b a:=funext fun q=>by
  unfold l_9
  cases decide (gt (i_9 l) (q:Int)<=(a:Int))<;>cases decide (a<=q)<;>cases decide (gt (i_9 l) (q:Int)<=(b:Int))<;>cases decide (b<=q)<;>rfl
 unfold h_7;rw [this]
theorem b_ha {l:List a_2} {t:Tm} (ht:IsT l t) {q:Nat} (hq:q<l.length):∃ lo s fs,Ctx t lo s fs/\s.top lo=q:=by
 have h0:Ctx t 0 t []:=⟨rfl,rfl⟩
 exact h0.down q (zero_le _) (by have:=ht.len;omega)
theorem a_o8 {l:List a_2} (hw:∀ x∈l,d_6 x) (hR:c_0 l=true) {a b:Nat} (ha:a<l.length) (hb:b<l.length):h_7 l a b<l.length/\l_9 l a b (h_7 l a b)=true/\∀ q,q<h_7 l a b->l_9 l a b q=false:=by
 obtain ⟨t,ht⟩:=a_a5 hw hR
 obtain ⟨lo,s,fs,hc,hs⟩:=b_ha ht ha
 have hat0:=ht.at0
 have hlen:=ht.len;have hp:=t.size_pos
 have hl:=a_j7 hR hat0
 have hroot:l_9 l a b (l.length-1)=true:=z_6.2 ⟨by rw [show l.length-1=t.top 0 from by unfold Tm.top;omega,hl];omega,by omega,by rw [show l.length-1=t.top 0 from by unfold Tm.top;omega,hl];omega,by omega⟩
 cases e:(List.range l.length).find? (l_9 l a b) with
 |
  none=>
  rw [List.find?_eq_none] at e
  exact absurd hroot (e _ (by simp;omega))
 |
  some k=>
  have hk:=List.mem_range.1 (List.mem_of_find?_eq_some e)
  have h1:=List.find?_some e
  have:h_7 l a b=k:=by unfold h_7;rw [e];rfl
  rw [this]
  refine ⟨hk,h1,fun q hq=>?_⟩
  rw [List.find?_eq_some_iff_append] at e
  obtain ⟨_,as_,bs_,e1,e2⟩:=e
  have hql:q<as_.length:=by
   have e3:(List.range l.length)[as_.length]?=some k:=by rw [e1];simp
   have e4:as_.length<l.length:=by
    have:=congrArg List.length e1;simp at this;omega
   rw [List.getElem?_range e4] at e3
   cases e3;exact hq
  have e5:as_[q]?=some q:=by
   have:(List.range l.length)[q]?=some q:=List.getElem?_range (by omega)
   rw [e1,List.getElem?_append_left hql] at this
   exact this
  have:=e2 q (List.mem_of_getElem? e5)
  simpa using this
theorem a_4c {d d':List Int}:∀ {s:Tm} {lo k:Nat},u_4 d lo k s->u_4 d' lo k s->∀ j:Nat,lo<=j->j<=s.top lo->gt d (j:Int)=gt d' (j:Int)/\(k:Int)<=gt d (j:Int)/\gt d (j:Int)<k+s.size:=by
 intro s
 induction s with
 |
  eps | leaf s=>
  intro lo k h h' j j1 j2
  have:j=lo:=by simp only [Tm.top,Tm.size] at j2;omega
  subst this
  simp only [u_4] at h h'
  simp only [Tm.size];omega
 |
  cat a b iha ihb | alt a b iha ihb=>
  intro lo k h h' j j1 j2
  obtain ⟨p1,p2,p3⟩:=h
  obtain ⟨q1,q2,q3⟩:=h'
  have:=a.size_pos;have:=b.size_pos
  simp only [Tm.top,Tm.size] at p1 q1 j2 ⊢
  rcases lt_or_ge j (lo+a.size) with c | c
  ·have:=iha p2 q2 j j1 (by unfold Tm.top;omega);omega
  ·rcases lt_or_ge j (lo+a.size+b.size) with c2 | c2
   ·have:=ihb p3 q3 j c (by unfold Tm.top;omega);omega
   ·have:j=lo+(a.size+b.size+1)-1:=by omega
    subst this;omega
 |
  star a iha | maybe a iha | group _ a iha | iter a iha=>
  intro lo k h h' j j1 j2
  obtain ⟨p1,p2⟩:=h
  obtain ⟨q1,q2⟩:=h'
  have:=a.size_pos
  simp only [Tm.top,Tm.size] at p1 q1 j2 ⊢
  rcases lt_or_ge j (lo+a.size) with c | c
  ·have:=iha p2 q2 j j1 (by unfold Tm.top;omega);omega
  ·have:j=lo+(a.size+1)-1:=by omega
   subst this;omega
theorem a_zy {d d':List Int} {t:Tm} (h:a_ha d t) (h':a_ha d' t):d=d':=by
 have hp:=t.size_pos
 refine List.ext_getElem (by rw [h.len,h'.len]) fun j h1 h2=>?_
 have e:=(a_4c h.deep h'.deep j (zero_le _) (by have:=h.len;unfold Tm.top;omega)).1
 rwa [d_4 (x:=d[j]) (by simp [h1]),d_4 (x:=d'[j]) (by simp [h2])] at e
def a_az (l:List a_2):List Int:=(Old.m_4 402 l).getD []
theorem a_zd {l:List a_2} {t:Tm} (ht:IsT l t) (hR:c_0 l=true):a_ha (a_az l) t:=by
 obtain ⟨d,h1,h2⟩:=Old.a_06 ht hR (show 401<402 by omega)
 unfold a_az;rw [h1];exact h2
theorem a_lc {l:List a_2} (hw:∀ x∈l,d_6 x) (hR:c_0 l=true):(a_az l).length=l.length/\∀ q:Nat,q<l.length->1<=gt (a_az l) (q:Int)/\gt (a_az l) (q:Int)<=400:=by
 obtain ⟨t,ht⟩:=a_a5 hw hR
 have h:=a_zd ht hR
 have h400:=ht.le;have hlen:=ht.len;have hp:=t.size_pos
 refine ⟨by rw [h.len,hlen],fun q hq=>?_⟩
 have:=(a_4c h.deep h.deep q (zero_le _) (by unfold Tm.top;omega)).2
 omega
theorem b_p0 {l:List a_2} (hw:∀ x∈l,d_6 x) (hR:c_0 l=true) {F:Nat} (hf:401<F):m_4 F l=some (a_az l):=by
 obtain ⟨t,ht⟩:=a_a5 hw hR
 obtain ⟨d,h1,h2⟩:=Old.a_06 ht hR hf
 rw [a_zy h2 (a_zd ht hR)] at h1
 exact eqOf b_g0 h1
theorem b_o5 {l:List a_2} (hw:∀ x∈l,d_6 x) (hR:c_0 l=true) {F:Nat} (hf:401<F):l_8 F l=some (a_az l):=by
 obtain ⟨t,ht⟩:=a_a5 hw hR
 obtain ⟨d,h1,h2⟩:=Old.b_g4 ht hR hf
 rw [a_zy h2 (a_zd ht hR)] at h1
 exact eqOf b_cm h1
def a_fo (l:List a_2) (x y:a_1):Int:=gt (a_az l) ((h_7 l (gt (b_3 l l.length) x.To).toNat (gt (b_3 l l.length) y.To).toNat:Nat):Int)+1
def a_se (l:List a_2) (x y:a_1):Bool:=(gt l ((h_7 l (gt (b_3 l l.length) x.To).toNat (gt (b_3 l l.length) y.To).toNat:Nat):Int)).Kind==3
def v_7 (l:List a_2) (x y:a_1):Int×Int×Int:=
 if x.Turn>y.Turn then (x.Turn+1,y.Turn+1,1) else if x.Turn<y.Turn then (x.Turn+1,y.Turn+1,-1) else
 if x.To>y.To then (a_fo l x y,if a_se l x y then a_fo l x y+1 else a_fo l x y,-1) else (if a_se l x y then a_fo l x y+1 else a_fo l x y,a_fo l x y,1)
theorem b_gw (l:List a_2) (x y:a_1):a_fo l x y=a_fo l y x:=by unfold a_fo;rw [a_1k]
theorem b_eu (l:List a_2) (x y:a_1):a_se l x y=a_se l y x:=by unfold a_se;rw [a_1k]
theorem a_r8 (l:List a_2) (x y:a_1) (h:x.To≠y.To):v_7 l y x=((v_7 l x y).2.1,(v_7 l x y).1,- (v_7 l x y).2.2):=by
 unfold v_7
 rw [b_gw l y x,b_eu l y x]
 rcases Int.lt_trichotomy x.Turn y.Turn with c | c | c
 ·rw [if_pos (show y.Turn>x.Turn from c),if_neg (show ¬ x.Turn>y.Turn by omega),if_pos c]
  simp
 ·rw [if_neg (show ¬ y.Turn>x.Turn by omega),if_neg (show ¬ y.Turn<x.Turn by omega),if_neg (show ¬ x.Turn>y.Turn by omega),if_neg (show ¬ x.Turn<y.Turn by omega)]
  rcases Int.lt_or_gt_of_ne h with c2 | c2
  ·rw [if_pos (show y.To>x.To from c2),if_neg (show ¬ x.To>y.To by omega)]
  ·rw [if_neg (show ¬ y.To>x.To by omega),if_pos (show x.To>y.To from c2)];simp
 ·rw [if_neg (show ¬ y.Turn>x.Turn by omega),if_pos (show y.Turn<x.Turn from c),if_pos (show x.Turn>y.Turn from c)]
structure a_en (n:Nat) (h:a_1):Prop where
 to0:0<=h.To
 to1:h.To<n
 t0:0<=h.Turn
 t1:h.Turn<=400
theorem a_4n {l:List a_2} (hw:∀ x∈l,d_6 x) (hR:c_0 l=true) {n:Nat} (hn:n=a_3 l l.length) {x y:a_1} (hx:a_en n x) (hy:a_en n y):0<=(v_7 l x y).1/\0<=(v_7 l x y).2.1/\((v_7 l x y).2.2=1\/(v_7 l x y).2.2=-1):=by
 have hq:1<=a_fo l x y:=by
  obtain ⟨h1,h2,h3,h4⟩:=hx
  obtain ⟨k1,k2,k3,k4⟩:=hy
  obtain ⟨p,hp,hp2,_⟩:=z_9 l l.length x.To.toNat (by omega)
  obtain ⟨q,hq,hq2,_⟩:=z_9 l l.length y.To.toNat (by omega)
  have e1:gt (b_3 l l.length) x.To=(p:Int):=a_97 hp2
  have e2:gt (b_3 l l.length) y.To=(q:Int):=a_97 hq2
  have hj:=(a_o8 hw hR (a:=p) (b:=q) hp hq).1
  have:=((a_lc hw hR).2 _ hj).1
  unfold a_fo
  rw [e1,e2]
  simp only [Int.toNat_natCast];omega
 obtain ⟨h1,h2,h3,h4⟩:=hx
 obtain ⟨k1,k2,k3,k4⟩:=hy
 unfold v_7
 split
 ·exact ⟨by simp only;omega,by simp only;omega,.inl rfl⟩
 ·split
  ·exact ⟨by simp only;omega,by simp only;omega,.inr rfl⟩
  ·split
   ·refine ⟨by simp only;omega,?_,.inr rfl⟩
    simp only;split<;>omega
   ·refine ⟨?_,by simp only;omega,.inl rfl⟩
    simp only;split<;>omega
section
variable (l:List a_2) (fB fD:Nat->Nat->Int) (fr:List Nat) (hops:List a_1)
def i_6 (i k:Nat):Int:=if i=k then 0 else if fr.getD i 0=fr.getD k 0 then (v_7 l (gt hops (i:Int)) (gt hops (k:Int))).1 else numF (fB (fr.getD i 0) (fr.getD k 0)) (gt hops (i:Int)).Turn
def j_4 (i k:Nat):Int:=if i=k then 0 else if fr.getD i 0=fr.getD k 0 then (v_7 l (gt hops (i:Int)) (gt hops (k:Int))).2.2 else agF fB fD (fr.getD i 0) (fr.getD k 0) (gt hops (i:Int)) (gt hops (k:Int))
end
theorem b_oy {fB fD:Nat->Nat->Int} {a b:Nat} {p q:a_1} (h:fD b a=- fD a b):agF fB fD b a q p=- agF fB fD a b p q:=by
 unfold agF
 rcases Int.lt_trichotomy (numF (fB a b) p.Turn) (numF (fB b a) q.Turn) with c | c | c
 ·rw [if_pos c,if_neg (show ¬ numF (fB a b) p.Turn>numF (fB b a) q.Turn by omega),if_pos c];rfl
 ·rw [if_neg (by omega),if_neg (by omega),if_neg (by omega),if_neg (by omega),h]
 ·rw [if_neg (by omega),if_pos c,if_pos c]
theorem b_je {b t:Int} (hb:0<=b) (ht:0<=t) (ht2:t<=400):0<=numF b t:=by
 unfold numF
 rw [f_2 (by omega) (by omega)]
 split<;>omega
theorem b_oa {fB fD:Nat->Nat->Int} {a b:Nat} {p q:a_1} (h:fD a b=1\/fD a b=-1):agF fB fD a b p q=1\/agF fB fD a b p q=-1:=by
 unfold agF
 split
 ·exact .inl rfl
 ·split
  ·exact .inr rfl
  ·exact h
theorem a_ln {n:Nat} {hops:List a_1} (h:∀ x∈hops,a_en n x) {i:Nat} (hi:i<hops.length):a_en n (gt hops (i:Int)):=h _ (List.mem_of_getElem? (n_3 hi))
theorem b_fc {hops:List a_1} (h:hops.Pairwise fun a b=>a.To<b.To) {i k:Nat} (hi:i<hops.length) (hk:k<hops.length) (hne:i≠k):(gt hops (i:Int)).To≠(gt hops (k:Int)).To:=by
 have hp:=List.pairwise_iff_getElem.1 h
 have e1:gt hops (i:Int)=hops[i]:=d_4 (by simp [hi])
 have e2:gt hops (k:Int)=hops[k]:=d_4 (by simp [hk])
 rw [e1,e2]
 rcases Nat.lt_or_gt_of_ne hne with c | c
 ·have:=hp i k hi hk c;omega
 ·have:=hp k i hk hi c;omega
theorem a_2k {l:List a_2} (hw:∀ x∈l,d_6 x) (hR:c_0 l=true) {n:Nat} (hn:n=a_3 l l.length) {m:Nat} {fB fD:Nat->Nat->Int} (h:t_4 m fB fD) {fr:List Nat} {hops:List a_1} (hi:∀ i∈fr,i<m) (hlen:hops.length=fr.length) (hh:∀ x∈hops,a_en n x)
  (hasc:hops.Pairwise fun a b=>a.To<b.To):t_4 fr.length (i_6 l fB fr hops) (j_4 l fB fD fr hops) where
 b0 i k h1 h2:=by
  have x1:=a_ln hh (i:=i) (by omega)
  have x2:=a_ln hh (i:=k) (by omega)
  unfold i_6
  split
  ·exact Int.le_refl _
  ·split
   ·exact (a_4n hw hR hn x1 x2).1
   ·exact b_je (h.b0 _ _ (j_2 hi h1) (j_2 hi h2)) x1.t0 x1.t1
 bd i h1:=by unfold i_6;rw [if_pos rfl]
 dd i h1:=by unfold j_4;rw [if_pos rfl]
 d1 i k h1 h2 hne:=by
  have x1:=a_ln hh (i:=i) (by omega)
  have x2:=a_ln hh (i:=k) (by omega)
  unfold j_4
  rw [if_neg hne]
  split
  ·exact (a_4n hw hR hn x1 x2).2.2
  ·rename_i hf
   exact b_oa (h.d1 _ _ (j_2 hi h1) (j_2 hi h2) hf)
 dn i k h1 h2:=by
  unfold j_4
  by_cases e:i=k
  ·subst e;rw [if_pos rfl];rfl
  ·rw [if_neg e,if_neg (fun h=>e h.symm)]
   by_cases e2:fr.getD i 0=fr.getD k 0
   ·rw [if_pos e2,if_pos e2.symm,a_r8 l _ _ (b_fc hasc (by omega) (by omega) e)]
   ·rw [if_neg e2,if_neg (fun h=>e2 h.symm)]
    exact b_oy (h.dn _ _ (j_2 hi h1) (j_2 hi h2))
theorem a_k5 {σ τ:Type} {step:σ->Option (Ctl σ τ)} {s s':σ} {k:Nat} (h:step s=some (.next s')):iter step (k+1) s=iter step k s':=by
 rw [show iter step (k+1) s=match step s with | none=>none | some (.next s')=>iter step k s' | some (.done t)=>some t from rfl,h]
theorem a_h0 {σ τ:Type} {step:σ->Option (Ctl σ τ)} {s:σ} {t:τ} {k:Nat} (h:step s=some (.done t)):iter step (k+1) s=some t:=by
 rw [show iter step (k+1) s=match step s with | none=>none | some (.next s')=>iter step k s' | some (.done t)=>some t from rfl,h]
section
variable {F:Nat} {l:List a_2}
theorem b_i5 {t:Tm} (ht:IsT l t) (hR:c_0 l=true) {u d:List Int} (hu:UpT u t) (hd:a_ha d t) {b:Nat} (hb:b<l.length):∀ (fs:List Fr) (lo:Nat) (s:Tm),Ctx t lo s fs->∀ k,fs.length<k->iter (h_5 u (i_9 l) (b:Int)) k (s.top lo:Int)=some ((a_kw b fs lo s:Nat):Int):=by
 have hL:=a_iz hR
 have hlen:=ht.len
 intro fs
 induction fs with
 |
  nil=>
  intro lo s hc k hk
  obtain ⟨k,rfl⟩:∃ q,k=q+1:=⟨k-1,by simp at hk;omega⟩
  have hat:=hc.at_ ht
  have hlo:=a_j7 hR hat
  have htop:=hat.k_6
  obtain ⟨rfl,rfl⟩:=hc
  have hin:inb (i_9 l) (s.top 0:Int)=true:=a_7 (by omega) (by rw [hL.len];omega)
  have h1:(s.top 0:Int)>=0:=by omega
  have h2:gt (i_9 l) (s.top 0:Int)<=(b:Int):=by rw [hlo];omega
  have h3:(b:Int)<=(s.top 0:Int):=by unfold Tm.top;omega
  refine a_h0 ?_
  unfold h_5
  simp only [Int.natCast_nonneg,decide_true,if_true,hin,h2,h3,Bool.and_self,a_kw]
 |
  cons f fs ih=>
  intro lo s hc k hk
  obtain ⟨k,rfl⟩:∃ q,k=q+1:=⟨k-1,by simp at hk;omega⟩
  have hat:=hc.at_ ht
  have hlo:=a_j7 hR hat
  have htop:=hat.k_6
  have hed:=hc.edge ht hu hd
  have hin:inb (i_9 l) (s.top lo:Int)=true:=a_7 (by omega) (by rw [hL.len];omega)
  have hiu:inb u (s.top lo:Int)=true:=a_7 (by omega) (by rw [hu.len];omega)
  have hn:=ih _ _ hc.2 k (by simp at hk;omega)
  by_cases h:lo<=b/\b<=s.top lo
  ·refine a_h0 ?_
   unfold h_5
   simp only [Int.natCast_nonneg,decide_true,if_true,hin,hiu,hlo,Bool.true_and,a_kw,hed]
   have h1:(lo:Int)<=(b:Int):=by omega
   have h2:(b:Int)<=(s.top lo:Int):=by omega
   simp only [h,h1,h2,decide_true,Bool.and_self,if_true,and_self]
  ·have h2:(decide ((lo:Int)<=(b:Int))&&decide ((b:Int)<=(s.top lo:Int)))=false:=by
    simp only [Bool.and_eq_false_iff,decide_eq_false_iff_not];omega
   have hs:h_5 u (i_9 l) (b:Int) (s.top lo:Int)=some (.next ((Fr.e_8 s f).top (lo-f.off):Int)):=by
    unfold h_5
    simp only [Int.natCast_nonneg,decide_true,if_true,hin,hiu,hlo,Bool.true_and,hed,h2,false_eq_true,if_false]
   rw [a_k5 hs,a_kw,if_neg h,hn]
theorem b_qj (hw:∀ x∈l,d_6 x) (hR:c_0 l=true) (hf:1000<F) {a b:Nat} (ha:a<l.length) (hb:b<l.length):a_dc F l (a:Int) (b:Int)=some ((h_7 l a b:Nat):Int):=by
 obtain ⟨t,ht⟩:=a_a5 hw hR
 obtain ⟨u,h1,h2⟩:=Old.m_Up ht hR (show 401<F by omega)
 obtain ⟨d,_,h4⟩:=Old.a_06 ht hR (show 401<F by omega)
 obtain ⟨lo,s,fs,hc,hs⟩:=b_ha ht ha
 have hul:=h2.len;have hlen:=ht.len;have h400:=ht.le
 have hsz:=hc.size
 have hj:=b_jy ht hR (a:=a) hb fs lo s hc (by have:=s.size_pos;unfold Tm.top at hs;omega) (by omega) (fun q q1 q2=>by
  have:¬ l_9 l a b q=true:=fun h'=>by have:=(z_6.1 h').2.1;omega
  simpa using this)
 have hwk:=b_i5 ht hR h2 h4 hb fs lo s hc F (by omega)
 rw [hs] at hwk
 unfold a_dc
 rw [eqOf b_Up h1]
 have c1:(decide ((a:Int)<0)||(decide ((b:Int)<0)||(decide ((a:Int)>=(u.length:Int))||decide ((b:Int)>=(u.length:Int)))))=false:=by
  simp only [Bool.or_eq_false_iff,decide_eq_false_iff_not];omega
 simp only [a_0,c1,false_eq_true,if_false,b_m6 (show 401<F by omega),hwk]
 rw [b_ls hj.2.2 hj.1 hj.2.1]
theorem b_o9 (hw:∀ x∈l,d_6 x) (hR:c_0 l=true) (hl:l.length*64<=140737488351232) (hf:1000<F) (hf2:l.length+1<F) {a b:Nat} (ha:a<l.length) (hb:b<l.length):a_jg F l (a:Int) (b:Int)=some ((h_7 l a b:Nat):Int):=by
 have hL:=a_iz hR
 have h400:=hL.le;have hlen:=hL.len
 obtain ⟨j1,j2,j3⟩:=a_o8 hw hR ha hb
 unfold a_jg
 rw [b_ir hR hl hf2]
 have c1:¬ (a:Int)<0:=by omega
 have c2:¬ (b:Int)<0:=by omega
 have c3:¬ (a:Int)>=((i_9 l).length:Int):=by omega
 have c4:¬ (b:Int)>=((i_9 l).length:Int):=by omega
 simp only [a_0,c1,c2,c3,c4,decide_false,false_eq_true,if_false]
 have key:∀ k,k<=h_7 l a b->∀ m,k<m->iter (a_bu F l (a:Int) (b:Int) (i_9 l)) m ((h_7 l a b-k:Nat):Int)=some (.inl ((h_7 l a b:Nat):Int)):=by
  intro k
  induction k with
  |
   zero=>
   intro _ m hm
   obtain ⟨m,rfl⟩:∃ q,m=q+1:=⟨m-1,by omega⟩
   rw [sub_zero]
   obtain ⟨p1,p2,p3,p4⟩:=z_6.1 j2
   have h1:((h_7 l a b:Nat):Int)<(l.length:Int):=by omega
   have hin:inb (i_9 l) ((h_7 l a b:Nat):Int)=true:=a_7 (by omega) (by omega)
   have h2:(a:Int)<=((h_7 l a b:Nat):Int):=by omega
   have h3:(b:Int)<=((h_7 l a b:Nat):Int):=by omega
   refine a_h0 ?_
   unfold a_bu
   simp only [h1,decide_true,if_true,hin,p1,h2,p3,h3,a_0]
  |
   succ k ih=>
   intro hk m hm
   obtain ⟨m,rfl⟩:∃ q,m=q+1:=⟨m-1,by omega⟩
   have hn:=ih (by omega) m (by omega)
   have hq:h_7 l a b-(k+1)<h_7 l a b:=by omega
   have hno:=j3 _ hq
   have e1:((h_7 l a b-k:Nat):Int)=((h_7 l a b-(k+1):Nat):Int)+1:=by omega
   generalize h_7 l a b-(k+1)=q at *
   rw [e1] at hn
   have h1:(q:Int)<(l.length:Int):=by omega
   have hin:inb (i_9 l) (q:Int)=true:=a_7 (by omega) (by omega)
   have hW:W ((q:Int)+1)=(q:Int)+1:=f_2 (by omega) (by omega)
   rw [<-hn]
   refine a_k5 ?_
   unfold a_bu
   simp only [h1,decide_true,if_true,hin,hW]
   unfold l_9 at hno
   by_cases x1:gt (i_9 l) (q:Int)<=(a:Int)
   ·by_cases x2:a<=q
    ·have y2:(a:Int)<=(q:Int):=by omega
     by_cases x3:gt (i_9 l) (q:Int)<=(b:Int)
     ·have x4:¬ b<=q:=fun h=>by simp [x1,x2,x3,h] at hno
      have y4:¬ (b:Int)<=(q:Int):=by omega
      simp only [x1,y2,x3,y4,decide_true,decide_false,if_true,a_0,false_eq_true,if_false]
     ·simp only [x1,y2,x3,decide_true,decide_false,if_true,a_0,false_eq_true,if_false]
    ·have y2:¬ (a:Int)<=(q:Int):=by omega
     simp only [x1,y2,decide_true,decide_false,if_true,a_0,false_eq_true,if_false]
   ·simp only [x1,decide_false,a_0,false_eq_true,if_false]
 have:=key (h_7 l a b) (Nat.le_refl _) F (by omega)
 rw [Nat.sub_self] at this
 have h2:iter (a_bu F l (a:Int) (b:Int) (i_9 l)) F 0=_:=this
 rw [h2]
 rfl
theorem a_ng (l:List a_2) {n:Nat} (hn:n=a_3 l l.length) {x:Int} (h0:0<=x) (h1:x<n):∃ q:Nat,q<l.length/\gt (b_3 l l.length) x=(q:Int)/\inb (b_3 l l.length) x=true:=by
 obtain ⟨q,h2,h3,_⟩:=z_9 l l.length x.toNat (by omega)
 refine ⟨q,h2,a_97 h3,a_7 h0 ?_⟩
 rw [f_8];omega
theorem a_4g (hw:∀ x∈l,d_6 x) (hR:c_0 l=true) {n:Nat} (hn:n=a_3 l l.length) (hf:1000<F) (hL:f_1 F l=some (b_3 l l.length)) {x y:a_1} (hx:a_en n x) (hy:a_en n y) (hne:x.To≠y.To) (k:Nat) (hle:x.Turn≠y.Turn\/x.To<y.To) :
  a_cd F (k+1) l x y=some (v_7 l x y):=by
 obtain ⟨a1,a2,a3,a4⟩:=hx
 obtain ⟨b1,b2,b3,b4⟩:=hy
 have hll:=f_8 l l.length
 unfold a_cd
 rw [hL]
 have c1:x.To>=0:=a1
 have c2:x.To<((b_3 l l.length).length:Int):=by omega
 have c3:y.To>=0:=b1
 have c4:y.To<((b_3 l l.length).length:Int):=by omega
 have c5:(x.To==y.To)=false:=by simpa using hne
 have w1:W (x.Turn+1)=x.Turn+1:=f_2 (by omega) (by omega)
 have w2:W (y.Turn+1)=y.Turn+1:=f_2 (by omega) (by omega)
 simp only [a_0,c1,c2,c3,c4,c5,decide_true,if_true,Bool.not_true,false_eq_true,if_false,w1,w2,decide_eq_true_eq]
 unfold v_7
 by_cases h1:x.Turn>y.Turn
 ·rw [if_pos h1,if_pos h1]
 ·rw [if_neg h1,if_neg h1]
  by_cases h2:x.Turn<y.Turn
  ·rw [if_pos h2,if_pos h2]
  ·have h3:¬ x.To>y.To:=by omega
   rw [if_neg h2,if_neg h2,if_neg h3,if_neg h3]
   obtain ⟨p,hp,e1,i1⟩:=a_ng l hn a1 a2
   obtain ⟨q,hq,e2,i2⟩:=a_ng l hn b1 b2
   have hj:=(a_o8 hw hR hp hq).1
   have hd:=(a_lc hw hR).1
   have hd2:=(a_lc hw hR).2 _ hj
   unfold a_fo a_se
   rw [i1,i2,e1,e2]
   simp only [if_true,b_qj hw hR hf hp hq,b_p0 hw hR (show 401<F by omega),a_0,Int.toNat_natCast]
   have i3:inb (a_az l) ((h_7 l p q:Nat):Int)=true:=a_7 (by omega) (by omega)
   have i4:inb l ((h_7 l p q:Nat):Int)=true:=a_7 (by omega) (by omega)
   have w3:W (gt (a_az l) ((h_7 l p q:Nat):Int)+1)=gt (a_az l) ((h_7 l p q:Nat):Int)+1:=f_2 (by omega) (by omega)
   have w4:W (gt (a_az l) ((h_7 l p q:Nat):Int)+1+1)=gt (a_az l) ((h_7 l p q:Nat):Int)+1+1:=f_2 (by omega) (by omega)
   rw [i3,i4]
   simp only [if_true,w3,w4]
   split<;>rfl
theorem b_jt (hw:∀ x∈l,d_6 x) (hR:c_0 l=true) {n:Nat} (hn:n=a_3 l l.length) (hf:1000<F) (hL:f_1 F l=some (b_3 l l.length)) {x y:a_1} (hx:a_en n x) (hy:a_en n y) (hne:x.To≠y.To) :
  a_cd F F l x y=some (v_7 l x y):=by
 obtain ⟨k,rfl⟩:∃ k,F=k+2:=⟨F-2,by omega⟩
 by_cases hle:x.Turn≠y.Turn\/x.To<y.To
 ·exact a_4g hw hR hn hf hL hx hy hne _ hle
 ·have e:x.Turn=y.Turn:=by omega
  have h:=a_4g hw hR hn hf hL hy hx (fun h=>hne h.symm) k (.inr (by omega))
  have hc:=a_r8 l x y hne
  obtain ⟨a1,a2,a3,a4⟩:=hx
  obtain ⟨b1,b2,b3,b4⟩:=hy
  have hll:=f_8 l l.length
  unfold a_cd
  rw [hL]
  have c1:x.To>=0:=a1
  have c2:x.To<((b_3 l l.length).length:Int):=by omega
  have c3:y.To>=0:=b1
  have c4:y.To<((b_3 l l.length).length:Int):=by omega
  have c5:(x.To==y.To)=false:=by simpa using hne
  have h1:¬ x.Turn>y.Turn:=by omega
  have h2:¬ x.Turn<y.Turn:=by omega
  have h3:x.To>y.To:=by omega
  simp only [a_0,c1,c2,c3,c4,c5,h1,h2,h3,decide_true,decide_false,if_true,Bool.not_true,false_eq_true,if_false,h,hc]
  have:(v_7 l x y).2.2=-1:=by unfold v_7;rw [if_neg h1,if_neg h2,if_pos h3]
  rw [<-this]
theorem b_m8 (hw:∀ x∈l,d_6 x) (hR:c_0 l=true) {n:Nat} (hn:n=a_3 l l.length) (hl:l.length*64<=140737488351232) (hf:1000<F) (hf2:l.length+1<F) (hL:e_4 F l=some (b_3 l l.length)) {x y:a_1} (hx:a_en n x) (hy:a_en n y) (hne:x.To≠y.To) :
  a_ih F l x y=some (v_7 l x y):=by
 obtain ⟨a1,a2,a3,a4⟩:=hx
 obtain ⟨b1,b2,b3,b4⟩:=hy
 have hll:=f_8 l l.length
 unfold a_ih
 rw [hL]
 have c1:¬ x.To<0:=by omega
 have c2:¬ x.To>=((b_3 l l.length).length:Int):=by omega
 have c3:¬ y.To<0:=by omega
 have c4:¬ y.To>=((b_3 l l.length).length:Int):=by omega
 have c5:(x.To==y.To)=false:=by simpa using hne
 have w1:W (x.Turn+1)=x.Turn+1:=f_2 (by omega) (by omega)
 have w2:W (y.Turn+1)=y.Turn+1:=f_2 (by omega) (by omega)
 simp only [a_0,c1,c2,c3,c4,c5,decide_false,false_eq_true,if_false,w1,w2,decide_eq_true_eq]
 unfold v_7
 by_cases h1:x.Turn>y.Turn
 ·rw [if_pos h1,if_pos h1]
 ·rw [if_neg h1,if_neg h1]
  by_cases h2:x.Turn<y.Turn
  ·rw [if_pos h2,if_pos h2]
  ·rw [if_neg h2,if_neg h2]
   obtain ⟨p,hp,e1,i1⟩:=a_ng l hn a1 a2
   obtain ⟨q,hq,e2,i2⟩:=a_ng l hn b1 b2
   have hj:=(a_o8 hw hR hp hq).1
   have hd:=(a_lc hw hR).1
   have hd2:=(a_lc hw hR).2 _ hj
   unfold a_fo a_se
   rw [i1,i2,e1,e2]
   simp only [if_true,b_o9 hw hR hl hf hf2 hp hq,b_o5 hw hR (show 401<F by omega),a_0,Int.toNat_natCast]
   have i3:inb (a_az l) ((h_7 l p q:Nat):Int)=true:=a_7 (by omega) (by omega)
   have i4:inb l ((h_7 l p q:Nat):Int)=true:=a_7 (by omega) (by omega)
   have w3:W (gt (a_az l) ((h_7 l p q:Nat):Int)+1)=gt (a_az l) ((h_7 l p q:Nat):Int)+1:=f_2 (by omega) (by omega)
   have w4:W (gt (a_az l) ((h_7 l p q:Nat):Int)+1+1)=gt (a_az l) ((h_7 l p q:Nat):Int)+1+1:=f_2 (by omega) (by omega)
   rw [i3,i4]
   simp only [if_true,w3,w4]
   by_cases h3:x.To>y.To
   ·by_cases h4:(gt l ((h_7 l p q:Nat):Int)).Kind=3
    ·simp [h3,h4]
    ·simp [h3,h4]
   ·by_cases h4:(gt l ((h_7 l p q:Nat):Int)).Kind=3
    ·simp [h3,h4]
    ·simp [h3,h4]
end
