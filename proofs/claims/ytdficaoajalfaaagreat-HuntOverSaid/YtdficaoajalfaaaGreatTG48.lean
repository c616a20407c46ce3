/- The rank of runs that went on: the program and the document tell the same. The rank of runs that went on, by the program and by the document. The rank of runs that went on: Next, by the program and by the document. Its conditions: none. -/
import Derived.Test.YtdficaoajalfaaaGreatTG47
open Bool (false_eq_true)
set_option linter.all false
namespace Go.Proofs.YtdficaoajalfaaaGreat
open Go.V Go.RowKit Old
def a_fo (l:List a_2) (x y:a_1):Int:=gt (a_az l) ((h_7 l (gt (b_3 l l.length) x.To).toNat (gt (b_3 l l.length) y.To).toNat:Nat):Int)+1
def a_se (l:List a_2) (x y:a_1):Bool:=(gt l ((h_7 l (gt (b_3 l l.length) x.To).toNat (gt (b_3 l l.length) y.To).toNat:Nat):Int)).Kind==3
def v_7 (l:List a_2) (x y:a_1):Int×Int×Int:=
 if x.Turn>y.Turn then (x.Turn+1,y.Turn+1,1) else if x.Turn<y.Turn then (x.Turn+1,y.Turn+1,-1) else
 if x.To>y.To then (a_fo l x y,if a_se l x y then a_fo l x y+1 else a_fo l x y,-1) else (if a_se l x y then a_fo l x y+1 else a_fo l x y,a_fo l x y,1)
theorem b_gw (l:List a_2) (x y:a_1):a_fo l x y=a_fo l y x:=by unfold a_fo;rw [a_1k]
theorem b_eu (l:List a_2) (x y:a_1):a_se l x y=a_se l y x:=by unfold a_se;rw [a_1k]
theorem a_r8 (l:List a_2) (x y:a_1) (h:x.To≠y.To):v_7 l y x=((v_7 l x y).2.1,(v_7 l x y).1,- (v_7 l x y).2.2):=by
 unfold v_7
 rw [b_gw l y x,b_eu l y x]
 rcases Int.lt_trichotomy x.Turn y.Turn with c | c | c
 ·rw [if_pos (show y.Turn>x.Turn from c),if_neg (show ¬ x.Turn>y.Turn by omega),if_pos c]
  simp
 ·rw [if_neg (show ¬ y.Turn>x.Turn by omega),if_neg (show ¬ y.Turn<x.Turn by omega),if_neg (show ¬ x.Turn>y.Turn by omega),if_neg (show ¬ x.Turn<y.Turn by omega)]
  rcases Int.lt_or_gt_of_ne h with c2 | c2
  ·rw [if_pos (show y.To>x.To from c2),if_neg (show ¬ x.To>y.To by omega)]
  ·rw [if_neg (show ¬ y.To>x.To by omega),if_pos (show x.To>y.To from c2)];simp
 ·rw [if_neg (show ¬ y.Turn>x.Turn by omega),if_pos (show y.Turn<x.Turn from c),if_pos (show x.Turn>y.Turn from c)]
structure a_en (n:Nat) (h:a_1):Prop where
 to0:0<=h.To
 to1:h.To<n
 t0:0<=h.Turn
 t1:h.Turn<=400
theorem a_4n {l:List a_2} (hw:∀ x∈l,d_6 x) (hR:c_0 l=true) {n:Nat} (hn:n=a_3 l l.length) {x y:a_1} (hx:a_en n x) (hy:a_en n y):0<=(v_7 l x y).1/\0<=(v_7 l x y).2.1/\((v_7 l x y).2.2=1\/(v_7 l x y).2.2=-1):=by
 have hq:1<=a_fo l x y:=by
  obtain ⟨h1,h2,h3,h4⟩:=hx
  obtain ⟨k1,k2,k3,k4⟩:=hy
  obtain ⟨p,hp,hp2,_⟩:=z_9 l l.length x.To.toNat (by omega)
  obtain ⟨q,hq,hq2,_⟩:=z_9 l l.length y.To.toNat (by omega)
  have e1:gt (b_3 l l.length) x.To=(p:Int):=a_97 hp2
  have e2:gt (b_3 l l.length) y.To=(q:Int):=a_97 hq2
  have hj:=(a_o8 hw hR (a:=p) (b:=q) hp hq).1
  have:=((a_lc hw hR).2 _ hj).1
  unfold a_fo
  rw [e1,e2]
  simp only [Int.toNat_natCast];omega
 obtain ⟨h1,h2,h3,h4⟩:=hx
 obtain ⟨k1,k2,k3,k4⟩:=hy
 unfold v_7
 split
 ·exact ⟨by simp only;omega,by simp only;omega,.inl rfl⟩
 ·split
  ·exact ⟨by simp only;omega,by simp only;omega,.inr rfl⟩
  ·split
   ·refine ⟨by simp only;omega,?_,.inr rfl⟩
    simp only;split<;>omega
   ·refine ⟨?_,by simp only;omega,.inl rfl⟩
    simp only;split<;>omega
section
variable (l:List a_2) (fB fD:Nat->Nat->Int) (fr:List Nat) (hops:List a_1)
def i_6 (i k:Nat):Int:=if i=k then 0 else if fr.getD i 0=fr.getD k 0 then (v_7 l (gt hops (i:Int)) (gt hops (k:Int))).1 else numF (fB (fr.getD i 0) (fr.getD k 0)) (gt hops (i:Int)).Turn
def j_4 (i k:Nat):Int:=if i=k then 0 else if fr.getD i 0=fr.getD k 0 then (v_7 l (gt hops (i:Int)) (gt hops (k:Int))).2.2 else agF fB fD (fr.getD i 0) (fr.getD k 0) (gt hops (i:Int)) (gt hops (k:Int))
end
theorem b_oy {fB fD:Nat->Nat->Int} {a b:Nat} {p q:a_1} (h:fD b a=- fD a b):agF fB fD b a q p=- agF fB fD a b p q:=by
 unfold agF
 rcases Int.lt_trichotomy (numF (fB a b) p.Turn) (numF (fB b a) q.Turn) with c | c | c
 ·rw [if_pos c,if_neg (show ¬ numF (fB a b) p.Turn>numF (fB b a) q.Turn by omega),if_pos c];rfl
 ·rw [if_neg (by omega),if_neg (by omega),if_neg (by omega),if_neg (by omega),h]
 ·rw [if_neg (by omega),if_pos c,if_pos c]
theorem b_je {b t:Int} (hb:0<=b) (ht:0<=t) (ht2:t<=400):0<=numF b t:=by
 unfold numF
 rw [f_2 (by omega) (by omega)]
 split<;>omega
theorem b_oa {fB fD:Nat->Nat->Int} {a b:Nat} {p q:a_1} (h:fD a b=1\/fD a b=-1):agF fB fD a b p q=1\/agF fB fD a b p q=-1:=by
 unfold agF
 split
 ·exact .inl rfl
 ·split
  ·exact .inr rfl
  ·exact h
theorem a_ln {n:Nat} {hops:List a_1} (h:∀ x∈hops,a_en n x) {i:Nat} (hi:i<hops.length):a_en n (gt hops (i:Int)):=h _ (List.mem_of_getElem? (n_3 hi))
theorem b_fc {hops:List a_1} (h:hops.Pairwise fun a b=>a.To<b.To) {i k:Nat} (hi:i<hops.length) (hk:k<hops.length) (hne:i≠k):(gt hops (i:Int)).To≠(gt hops (k:Int)).To:=by
 have hp:=List.pairwise_iff_getElem.1 h
 have e1:gt hops (i:Int)=hops[i]:=d_4 (by simp [hi])
 have e2:gt hops (k:Int)=hops[k]:=d_4 (by simp [hk])
 rw [e1,e2]
 rcases Nat.lt_or_gt_of_ne hne with c | c
 ·have:=hp i k hi hk c;omega
 ·have:=hp k i hk hi c;omega
theorem a_2k {l:List a_2} (hw:∀ x∈l,d_6 x) (hR:c_0 l=true) {n:Nat} (hn:n=a_3 l l.length) {m:Nat} {fB fD:Nat->Nat->Int} (h:t_4 m fB fD) {fr:List Nat} {hops:List a_1} (hi:∀ i∈fr,i<m) (hlen:hops.length=fr.length) (hh:∀ x∈hops,a_en n x)
  (hasc:hops.Pairwise fun a b=>a.To<b.To):t_4 fr.length (i_6 l fB fr hops) (j_4 l fB fD fr hops) where
 b0 i k h1 h2:=by
  have x1:=a_ln hh (i:=i) (by omega)
  have x2:=a_ln hh (i:=k) (by omega)
  unfold i_6
  split
  ·exact Int.le_refl _
  ·split
   ·exact (a_4n hw hR hn x1 x2).1
   ·exact b_je (h.b0 _ _ (j_2 hi h1) (j_2 hi h2)) x1.t0 x1.t1
 bd i h1:=by unfold i_6;rw [if_pos rfl]
 dd i h1:=by unfold j_4;rw [if_pos rfl]
 d1 i k h1 h2 hne:=by
  have x1:=a_ln hh (i:=i) (by omega)
  have x2:=a_ln hh (i:=k) (by omega)
  unfold j_4
  rw [if_neg hne]
  split
  ·exact (a_4n hw hR hn x1 x2).2.2
  ·rename_i hf
   exact b_oa (h.d1 _ _ (j_2 hi h1) (j_2 hi h2) hf)
 dn i k h1 h2:=by
  unfold j_4
  by_cases e:i=k
  ·subst e;rw [if_pos rfl];rfl
  ·rw [if_neg e,if_neg (fun h=>e h.symm)]
   by_cases e2:fr.getD i 0=fr.getD k 0
   ·rw [if_pos e2,if_pos e2.symm,a_r8 l _ _ (b_fc hasc (by omega) (by omega) e)]
   ·rw [if_neg e2,if_neg (fun h=>e2 h.symm)]
    exact b_oy (h.dn _ _ (j_2 hi h1) (j_2 hi h2))
theorem a_k5 {σ τ:Type} {step:σ->Option (Ctl σ τ)} {s s':σ} {k:Nat} (h:step s=some (.next s')):iter step (k+1) s=iter step k s':=by
 rw [show iter step (k+1) s=match step s with | none=>none | some (.next s')=>iter step k s' | some (.done t)=>some t from rfl,h]
theorem a_h0 {σ τ:Type} {step:σ->Option (Ctl σ τ)} {s:σ} {t:τ} {k:Nat} (h:step s=some (.done t)):iter step (k+1) s=some t:=by
 rw [show iter step (k+1) s=match step s with | none=>none | some (.next s')=>iter step k s' | some (.done t)=>some t from rfl,h]
section
variable {F:Nat} {l:List a_2}
theorem b_i5 {t:Tm} (ht:IsT l t) (hR:c_0 l=true) {u d:List Int} (hu:UpT u t) (hd:a_ha d t) {b:Nat} (hb:b<l.length):∀ (fs:List Fr) (lo:Nat) (s:Tm),Ctx t lo s fs->∀ k,fs.length<k->iter (h_5 u (i_9 l) (b:Int)) k (s.top lo:Int)=some ((a_kw b fs lo s:Nat):Int):=by
 have hL:=a_iz hR
 have hlen:=ht.len
 intro fs
 induction fs with
 |
  nil=>
  intro lo s hc k hk
  obtain ⟨k,rfl⟩:∃ q,k=q+1:=⟨k-1,by simp at hk;omega⟩
  have hat:=hc.at_ ht
  have hlo:=a_j7 hR hat
  have htop:=hat.k_6
  obtain ⟨rfl,rfl⟩:=hc
  have hin:inb (i_9 l) (s.top 0:Int)=true:=a_7 (by omega) (by rw [hL.len];omega)
  have h1:(s.top 0:Int)>=0:=by omega
  have h2:gt (i_9 l) (s.top 0:Int)<=(b:Int):=by rw [hlo];omega
  have h3:(b:Int)<=(s.top 0:Int):=by unfold Tm.top;omega
  refine a_h0 ?_
  unfold h_5
  simp only [Int.natCast_nonneg,decide_true,if_true,hin,h2,h3,Bool.and_self,a_kw]
 |
  cons f fs ih=>
  intro lo s hc k hk
  obtain ⟨k,rfl⟩:∃ q,k=q+1:=⟨k-1,by simp at hk;omega⟩
  have hat:=hc.at_ ht
  have hlo:=a_j7 hR hat
  have htop:=hat.k_6
  have hed:=hc.edge ht hu hd
  have hin:inb (i_9 l) (s.top lo:Int)=true:=a_7 (by omega) (by rw [hL.len];omega)
  have hiu:inb u (s.top lo:Int)=true:=a_7 (by omega) (by rw [hu.len];omega)
  have hn:=ih _ _ hc.2 k (by simp at hk;omega)
  by_cases h:lo<=b/\b<=s.top lo
  ·refine a_h0 ?_
   unfold h_5
   simp only [Int.natCast_nonneg,decide_true,if_true,hin,hiu,hlo,Bool.true_and,a_kw,hed]
   have h1:(lo:Int)<=(b:Int):=by omega
   have h2:(b:Int)<=(s.top lo:Int):=by omega
   simp only [h,h1,h2,decide_true,Bool.and_self,if_true,and_self]
  ·have h2:(decide ((lo:Int)<=(b:Int))&&decide ((b:Int)<=(s.top lo:Int)))=false:=by
    simp only [Bool.and_eq_false_iff,decide_eq_false_iff_not];omega
   have hs:h_5 u (i_9 l) (b:Int) (s.top lo:Int)=some (.next ((Fr.e_8 s f).top (lo-f.off):Int)):=by
    unfold h_5
    simp only [Int.natCast_nonneg,decide_true,if_true,hin,hiu,hlo,Bool.true_and,hed,h2,false_eq_true,if_false]
   rw [a_k5 hs,a_kw,if_neg h,hn]
theorem b_qj (hw:∀ x∈l,d_6 x) (hR:c_0 l=true) (hf:1000<F) {a b:Nat} (ha:a<l.length) (hb:b<l.length):a_dc F l (a:Int) (b:Int)=some ((h_7 l a b:Nat):Int):=by
 obtain ⟨t,ht⟩:=a_a5 hw hR
 obtain ⟨u,h1,h2⟩:=Old.m_Up ht hR (show 401<F by omega)
 obtain ⟨d,_,h4⟩:=Old.a_06 ht hR (show 401<F by omega)
 obtain ⟨lo,s,fs,hc,hs⟩:=b_ha ht ha
 have hul:=h2.len;have hlen:=ht.len;have h400:=ht.le
 have hsz:=hc.size
 have hj:=b_jy ht hR (a:=a) hb fs lo s hc (by have:=s.size_pos;unfold Tm.top at hs;omega) (by omega) (fun q q1 q2=>by
  have:¬ l_9 l a b q=true:=fun h'=>by have:=(z_6.1 h').2.1;omega
  simpa using this)
 have hwk:=b_i5 ht hR h2 h4 hb fs lo s hc F (by omega)
 rw [hs] at hwk
 unfold a_dc
 rw [eqOf b_Up h1]
 have c1:(decide ((a:Int)<0)||(decide ((b:Int)<0)||(decide ((a:Int)>=(u.length:Int))||decide ((b:Int)>=(u.length:Int)))))=false:=by
  simp only [Bool.or_eq_false_iff,decide_eq_false_iff_not];omega
 simp only [a_0,c1,false_eq_true,if_false,b_m6 (show 401<F by omega),hwk]
 rw [b_ls hj.2.2 hj.1 hj.2.1]
theorem b_o9 (hw:∀ x∈l,d_6 x) (hR:c_0 l=true) (hl:l.length*64<=140737488351232) (hf:1000<F) (hf2:l.length+1<F) {a b:Nat} (ha:a<l.length) (hb:b<l.length):a_jg F l (a:Int) (b:Int)=some ((h_7 l a b:Nat):Int):=by
 have hL:=a_iz hR
 have h400:=hL.le;have hlen:=hL.len
 obtain ⟨j1,j2,j3⟩:=a_o8 hw hR ha hb
 unfold a_jg
 rw [b_ir hR hl hf2]
 have c1:¬ (a:Int)<0:=by omega
 have c2:¬ (b:Int)<0:=by omega
 have c3:¬ (a:Int)>=((i_9 l).length:Int):=by omega
 have c4:¬ (b:Int)>=((i_9 l).length:Int):=by omega
 simp only [a_0,c1,c2,c3,c4,decide_false,false_eq_true,if_false]
 have key:∀ k,k<=h_7 l a b->∀ m,k<m->iter (a_bu F l (a:Int) (b:Int) (i_9 l)) m ((h_7 l a b-k:Nat):Int)=some (.inl ((h_7 l a b:Nat):Int)):=by
  intro k
  induction k with
  |
   zero=>
   intro _ m hm
   obtain ⟨m,rfl⟩:∃ q,m=q+1:=⟨m-1,by omega⟩
   rw [Nat.sub_zero]
   obtain ⟨p1,p2,p3,p4⟩:=z_6.1 j2
   have h1:((h_7 l a b:Nat):Int)<(l.length:Int):=by omega
   have hin:inb (i_9 l) ((h_7 l a b:Nat):Int)=true:=a_7 (by omega) (by omega)
   have h2:(a:Int)<=((h_7 l a b:Nat):Int):=by omega
   have h3:(b:Int)<=((h_7 l a b:Nat):Int):=by omega
   refine a_h0 ?_
   unfold a_bu
   simp only [h1,decide_true,if_true,hin,p1,h2,p3,h3,a_0]
  |
   succ k ih=>
   intro hk m hm
   obtain ⟨m,rfl⟩:∃ q,m=q+1:=⟨m-1,by omega⟩
   have hn:=ih (by omega) m (by omega)
   have hq:h_7 l a b-(k+1)<h_7 l a b:=by omega
   have hno:=j3 _ hq
   have e1:((h_7 l a b-k:Nat):Int)=((h_7 l a b-(k+1):Nat):Int)+1:=by omega
   generalize h_7 l a b-(k+1)=q at *
   rw [e1] at hn
   have h1:(q:Int)<(l.length:Int):=by omega
   have hin:inb (i_9 l) (q:Int)=true:=a_7 (by omega) (by omega)
   have hW:W ((q:Int)+1)=(q:Int)+1:=f_2 (by omega) (by omega)
   rw [<-hn]
   refine a_k5 ?_
   unfold a_bu
   simp only [h1,decide_true,if_true,hin,hW]
   unfold l_9 at hno
   by_cases x1:gt (i_9 l) (q:Int)<=(a:Int)
   ·by_cases x2:a<=q
    ·have y2:(a:Int)<=(q:Int):=by omega
     by_cases x3:gt (i_9 l) (q:Int)<=(b:Int)
     ·have x4:¬ b<=q:=fun h=>by simp [x1,x2,x3,h] at hno
      have y4:¬ (b:Int)<=(q:Int):=by omega
      simp only [x1,y2,x3,y4,decide_true,decide_false,if_true,a_0,false_eq_true,if_false]
     ·simp only [x1,y2,x3,decide_true,decide_false,if_true,a_0,false_eq_true,if_false]
    ·have y2:¬ (a:Int)<=(q:Int):=by omega
     simp only [x1,y2,decide_true,decide_false,if_true,a_0,false_eq_true,if_false]
   ·simp only [x1,decide_false,a_0,false_eq_true,if_false]
 have:=key (h_7 l a b) (Nat.le_refl _) F (by omega)
 rw [Nat.sub_self] at this
 have h2:iter (a_bu F l (a:Int) (b:Int) (i_9 l)) F 0=_:=this
 rw [h2]
 rfl
theorem a_ng (l:List a_2) {n:Nat} (hn:n=a_3 l l.length) {x:Int} (h0:0<=x) (h1:x<n):∃ q:Nat,q<l.length/\gt (b_3 l l.length) x=(q:Int)/\inb (b_3 l l.length) x=true:=by
 obtain ⟨q,h2,h3,_⟩:=z_9 l l.length x.toNat (by omega)
 refine ⟨q,h2,a_97 h3,a_7 h0 ?_⟩
 rw [f_8];omega
theorem a_4g (hw:∀ x∈l,d_6 x) (hR:c_0 l=true) {n:Nat} (hn:n=a_3 l l.length) (hf:1000<F) (hL:f_1 F l=some (b_3 l l.length)) {x y:a_1} (hx:a_en n x) (hy:a_en n y) (hne:x.To≠y.To) (k:Nat) (hle:x.Turn≠y.Turn\/x.To<y.To) :
  a_cd F (k+1) l x y=some (v_7 l x y):=by
 obtain ⟨a1,a2,a3,a4⟩:=hx
 obtain ⟨b1,b2,b3,b4⟩:=hy
 have hll:=f_8 l l.length
 unfold a_cd
 rw [hL]
 have c1:x.To>=0:=a1
 have c2:x.To<((b_3 l l.length).length:Int):=by omega
 have c3:y.To>=0:=b1
 have c4:y.To<((b_3 l l.length).length:Int):=by omega
 have c5:(x.To==y.To)=false:=by simpa using hne
 have w1:W (x.Turn+1)=x.Turn+1:=f_2 (by omega) (by omega)
 have w2:W (y.Turn+1)=y.Turn+1:=f_2 (by omega) (by omega)
 simp only [a_0,c1,c2,c3,c4,c5,decide_true,if_true,Bool.not_true,false_eq_true,if_false,w1,w2,decide_eq_true_eq]
 unfold v_7
 by_cases h1:x.Turn>y.Turn
 ·rw [if_pos h1,if_pos h1]
 ·rw [if_neg h1,if_neg h1]
  by_cases h2:x.Turn<y.Turn
  ·rw [if_pos h2,if_pos h2]
  ·have h3:¬ x.To>y.To:=by omega
   rw [if_neg h2,if_neg h2,if_neg h3,if_neg h3]
   obtain ⟨p,hp,e1,i1⟩:=a_ng l hn a1 a2
   obtain ⟨q,hq,e2,i2⟩:=a_ng l hn b1 b2
   have hj:=(a_o8 hw hR hp hq).1
   have hd:=(a_lc hw hR).1
   have hd2:=(a_lc hw hR).2 _ hj
   unfold a_fo a_se
   rw [i1,i2,e1,e2]
   simp only [if_true,b_qj hw hR hf hp hq,b_p0 hw hR (show 401<F by omega),a_0,Int.toNat_natCast]
   have i3:inb (a_az l) ((h_7 l p q:Nat):Int)=true:=a_7 (by omega) (by omega)
   have i4:inb l ((h_7 l p q:Nat):Int)=true:=a_7 (by omega) (by omega)
   have w3:W (gt (a_az l) ((h_7 l p q:Nat):Int)+1)=gt (a_az l) ((h_7 l p q:Nat):Int)+1:=f_2 (by omega) (by omega)
   have w4:W (gt (a_az l) ((h_7 l p q:Nat):Int)+1+1)=gt (a_az l) ((h_7 l p q:Nat):Int)+1+1:=f_2 (by omega) (by omega)
   rw [i3,i4]
   simp only [if_true,w3,w4]
   split<;>rfl
theorem b_jt (hw:∀ x∈l,d_6 x) (hR:c_0 l=true) {n:Nat} (hn:n=a_3 l l.length) (hf:1000<F) (hL:f_1 F l=some (b_3 l l.length)) {x y:a_1} (hx:a_en n x) (hy:a_en n y) (hne:x.To≠y.To) :
  a_cd F F l x y=some (v_7 l x y):=by
 obtain ⟨k,rfl⟩:∃ k,F=k+2:=⟨F-2,by omega⟩
 by_cases hle:x.Turn≠y.Turn\/x.To<y.To
 ·exact a_4g hw hR hn hf hL hx hy hne _ hle
 ·have e:x.Turn=y.Turn:=by omega
  have h:=a_4g hw hR hn hf hL hy hx (fun h=>hne h.symm) k (.inr (by omega))
  have hc:=a_r8 l x y hne
  obtain ⟨a1,a2,a3,a4⟩:=hx
  obtain ⟨b1,b2,b3,b4⟩:=hy
  have hll:=f_8 l l.length
  unfold a_cd
  rw [hL]
  have c1:x.To>=0:=a1
  have c2:x.To<((b_3 l l.length).length:Int):=by omega
  have c3:y.To>=0:=b1
  have c4:y.To<((b_3 l l.length).length:Int):=by omega
  have c5:(x.To==y.To)=false:=by simpa using hne
  have h1:¬ x.Turn>y.Turn:=by omega
  have h2:¬ x.Turn<y.Turn:=by omega
  have h3:x.To>y.To:=by omega
  simp only [a_0,c1,c2,c3,c4,c5,h1,h2,h3,decide_true,decide_false,if_true,Bool.not_true,false_eq_true,if_false,h,hc]
  have:(v_7 l x y).2.2=-1:=by unfold v_7;rw [if_neg h1,if_neg h2,if_pos h3]
  rw [<-this]
theorem b_m8 (hw:∀ x∈l,d_6 x) (hR:c_0 l=true) {n:Nat} (hn:n=a_3 l l.length) (hl:l.length*64<=140737488351232) (hf:1000<F) (hf2:l.length+1<F) (hL:e_4 F l=some (b_3 l l.length)) {x y:a_1} (hx:a_en n x) (hy:a_en n y) (hne:x.To≠y.To) :
  a_ih F l x y=some (v_7 l x y):=by
 obtain ⟨a1,a2,a3,a4⟩:=hx
 obtain ⟨b1,b2,b3,b4⟩:=hy
 have hll:=f_8 l l.length
 unfold a_ih
 rw [hL]
 have c1:¬ x.To<0:=by omega
 have c2:¬ x.To>=((b_3 l l.length).length:Int):=by omega
 have c3:¬ y.To<0:=by omega
 have c4:¬ y.To>=((b_3 l l.length).length:Int):=by omega
 have c5:(x.To==y.To)=false:=by simpa using hne
 have w1:W (x.Turn+1)=x.Turn+1:=f_2 (by omega) (by omega)
 have w2:W (y.Turn+1)=y.Turn+1:=f_2 (by omega) (by omega)
 simp only [a_0,c1,c2,c3,c4,c5,decide_false,false_eq_true,if_false,w1,w2,decide_eq_true_eq]
 unfold v_7
 by_cases h1:x.Turn>y.Turn
 ·rw [if_pos h1,if_pos h1]
 ·rw [if_neg h1,if_neg h1]
  by_cases h2:x.Turn<y.Turn
  ·rw [if_pos h2,if_pos h2]
  ·rw [if_neg h2,if_neg h2]
   obtain ⟨p,hp,e1,i1⟩:=a_ng l hn a1 a2
   obtain ⟨q,hq,e2,i2⟩:=a_ng l hn b1 b2
   have hj:=(a_o8 hw hR hp hq).1
   have hd:=(a_lc hw hR).1
   have hd2:=(a_lc hw hR).2 _ hj
   unfold a_fo a_se
   rw [i1,i2,e1,e2]
   simp only [if_true,b_o9 hw hR hl hf hf2 hp hq,b_o5 hw hR (show 401<F by omega),a_0,Int.toNat_natCast]
   have i3:inb (a_az l) ((h_7 l p q:Nat):Int)=true:=a_7 (by omega) (by omega)
   have i4:inb l ((h_7 l p q:Nat):Int)=true:=a_7 (by omega) (by omega)
   have w3:W (gt (a_az l) ((h_7 l p q:Nat):Int)+1)=gt (a_az l) ((h_7 l p q:Nat):Int)+1:=f_2 (by omega) (by omega)
   have w4:W (gt (a_az l) ((h_7 l p q:Nat):Int)+1+1)=gt (a_az l) ((h_7 l p q:Nat):Int)+1+1:=f_2 (by omega) (by omega)
   rw [i3,i4]
   simp only [if_true,w3,w4]
   by_cases h3:x.To>y.To
   ·by_cases h4:(gt l ((h_7 l p q:Nat):Int)).Kind=3
    ·simp [h3,h4]
    ·simp [h3,h4]
   ·by_cases h4:(gt l ((h_7 l p q:Nat):Int)).Kind=3
    ·simp [h3,h4]
    ·simp [h3,h4]
end
def o_1 (i k:Nat) (f:Nat->Nat->Int) (a b:Nat):Int:=if (a<i/\b<i)\/(a=i/\b<k)\/(b=i/\a<k) then f a b else 0
def q_1 (i k:Nat) (f:Nat->Nat->Int) (a b:Nat):Int:=if a<i\/(a=i/\b<k) then f a b else 0
theorem b_lt {m i k:Nat} (hk:k<i) (f:Nat->Nat->Int) :
  mat m m (fun a=>if a=k then (fun j=>if j=i then f k i else (if k=i then (fun j=>if j=k then f i k else o_1 i k f i j) else o_1 i k f k) j) else (if a=i then (fun j=>if j=k then f i k else o_1 i k f i j) else o_1 i k f a))=mat m m (o_1 i (k+1) f):=by
 refine j_9 fun a b _ _=>?_
 have hki:¬ k=i:=by omega
 by_cases e1:a=k
 ·rw [if_pos e1]
  by_cases e2:b=i
  ·rw [if_pos e2];unfold o_1;rw [if_pos (by omega),e1,e2]
  ·rw [if_neg e2,if_neg hki,e1];unfold o_1
   by_cases e3:b<i
   ·rw [if_pos (by omega),if_pos (by omega)]
   ·rw [if_neg (by omega),if_neg (by omega)]
 ·rw [if_neg e1]
  by_cases e2:a=i
  ·rw [if_pos e2]
   by_cases e3:b=k
   ·rw [if_pos e3];unfold o_1;rw [if_pos (by omega),e2,e3]
   ·rw [if_neg e3,e2];unfold o_1
    by_cases e4:b<k
    ·rw [if_pos (by omega),if_pos (by omega)]
    ·rw [if_neg (by omega),if_neg (by omega)]
  ·rw [if_neg e2];unfold o_1
   by_cases e4:(a<i/\b<i)\/(a=i/\b<k)\/(b=i/\a<k)
   ·rw [if_pos e4,if_pos (by omega)]
   ·rw [if_neg e4,if_neg (by omega)]
theorem a_8e {m i:Nat} (f:Nat->Nat->Int) (h:f i i=0):mat m m (o_1 i i f)=mat m m (o_1 (i+1) 0 f):=by
 refine j_9 fun a b _ _=>?_
 unfold o_1
 by_cases e:a=i/\b=i
 ·rw [if_neg (by omega),if_pos (by omega),e.1,e.2,h]
 ·by_cases e4:(a<i/\b<i)\/(a=i/\b<i)\/(b=i/\a<i)
  ·rw [if_pos e4,if_pos (by omega)]
  ·rw [if_neg e4,if_neg (by omega)]
theorem a_33 {m i k:Nat} (f:Nat->Nat->Int):mat m m (fun a=>if a=i then (fun j=>if j=k then f i k else q_1 i k f i j) else q_1 i k f a)=mat m m (q_1 i (k+1) f):=by
 refine j_9 fun a b _ _=>?_
 by_cases e2:a=i
 ·rw [if_pos e2]
  by_cases e3:b=k
  ·rw [if_pos e3];unfold q_1;rw [if_pos (by omega),e2,e3]
  ·rw [if_neg e3,e2];unfold q_1
   by_cases e4:b<k
   ·rw [if_pos (by omega),if_pos (by omega)]
   ·rw [if_neg (by omega),if_neg (by omega)]
 ·rw [if_neg e2];unfold q_1
  by_cases e4:a<i
  ·rw [if_pos (by omega),if_pos (by omega)]
  ·rw [if_neg (by omega),if_neg (by omega)]
theorem a_03 {m i:Nat} (f:Nat->Nat->Int) (h:f i i=0):mat m m (q_1 i i f)=mat m m (q_1 i (i+1) f):=by
 refine j_9 fun a b _ _=>?_
 unfold q_1
 by_cases e:a=i/\b=i
 ·rw [if_neg (by omega),if_pos (by omega),e.1,e.2,h]
 ·by_cases e4:a<i\/(a=i/\b<i)
  ·rw [if_pos e4,if_pos (by omega)]
  ·rw [if_neg e4,if_neg (by omega)]
theorem a_3v {m i:Nat} (f:Nat->Nat->Int):mat m m (q_1 i m f)=mat m m (q_1 (i+1) 0 f):=by
 refine j_9 fun a b ha hb=>?_
 unfold q_1
 by_cases e4:a<i\/(a=i/\b<m)
 ·rw [if_pos e4,if_pos (by omega)]
 ·rw [if_neg e4,if_neg (by omega)]
theorem a_7z {fr:List Nat} {i k:Nat}:(((fr.getD i 0:Nat):Int)==((fr.getD k 0:Nat):Int))=decide (fr.getD i 0=fr.getD k 0):=by
 by_cases h:fr.getD i 0=fr.getD k 0
 ·rw [h];simp
 ·have:¬ ((fr.getD i 0:Nat):Int)=((fr.getD k 0:Nat):Int):=by omega
  simp only [h,decide_false,beq_eq_false_iff_ne,ne_eq,this,not_false_eq_true]
section
variable {F:Nat} {l:List a_2} {n m:Nat} {fB fD:Nat->Nat->Int} {fr:List Nat} {hops:List a_1}
structure GoOn (l:List a_2) (n m:Nat) (fr:List Nat) (hops:List a_1):Prop where
 lt:∀ i∈fr,i<m
 len:hops.length=fr.length
 le:fr.length<=500
 hop:∀ x∈hops,a_en n x
 asc:hops.Pairwise fun a b=>a.To<b.To
theorem b_r4 {d:Int} (h:d=1\/d=-1):W (0-d)=- d:=by rcases h with h | h<;>rw [h]<;>rfl
theorem b_ne (hw:∀ x∈l,d_6 x) (hR:c_0 l=true) (hn:n=a_3 l l.length) (hf:2000<F) (hL:f_1 F l=some (b_3 l l.length)) (h:t_4 m fB fD) (g:GoOn l n m fr hops) {i:Nat} (hi:i<fr.length) :
  iter (a_da F l (b_6 m fB fD) (b_7 fr) hops (i:Int)) F (0,mat fr.length fr.length (o_1 i 0 (i_6 l fB fr hops)),mat fr.length fr.length (o_1 i 0 (j_4 l fB fD fr hops)))=some (mat fr.length fr.length (o_1 (i+1) 0 (i_6 l fB fr hops)),mat fr.length fr.length (o_1 (i+1) 0 (j_4 l fB fD fr hops))):=by
 have hle:=g.le
 have ok:=a_2k hw hR hn h g.lt g.len g.hop g.asc
 rw [<-a_8e _ (ok.bd i hi),<-a_8e _ (ok.dd i hi)]
 have:=c_2 (step:=a_da F l (b_6 m fB fD) (b_7 fr) hops (i:Int)) (fun k=>((k:Int),mat fr.length fr.length (o_1 i k (i_6 l fB fr hops)),mat fr.length fr.length (o_1 i k (j_4 l fB fD fr hops)))) (mat fr.length fr.length (o_1 i i (i_6 l fB fr hops)),mat fr.length fr.length (o_1 i i (j_4 l fB fD fr hops))) i (fun k hk=>.inl ?_) ?_ i 0 F (by omega) (by omega)
 ·exact this
 ·have hkl:k<fr.length:=by omega
  have h1:(k:Int)<(i:Int):=by omega
  have hih:inb hops (i:Int)=true:=a_7 (by omega) (by rw [g.len];omega)
  have hkh:inb hops (k:Int)=true:=a_7 (by omega) (by rw [g.len];omega)
  have xi:=a_ln g.hop (i:=i) (by rw [g.len];exact hi)
  have xk:=a_ln g.hop (i:=k) (by rw [g.len];exact hkl)
  have hto:=b_fc g.asc (i:=i) (k:=k) (by rw [g.len];exact hi) (by rw [g.len];exact hkl) (by omega)
  have hne:¬ i=k:=by omega
  have hne':¬ k=i:=by omega
  have hdn:=ok.dn i k hi hkl
  have hd1:=ok.d1 i k hi hkl hne
  have hWd:W (0-j_4 l fB fD fr hops i k)=j_4 l fB fD fr hops k i:=by rw [hdn];exact b_r4 hd1
  have key:∀ p q r:Int,p=i_6 l fB fr hops i k->q=i_6 l fB fr hops k i->r=j_4 l fB fD fr hops i k->
    (Option.bind (some (mat fr.length fr.length (fun a=>if a=k then (fun j=>if j=i then q else (if k=i then (fun j=>if j=k then p else o_1 i k (i_6 l fB fr hops) i j) else o_1 i k (i_6 l fB fr hops) k) j) else (if a=i then (fun j=>if j=k then p else o_1 i k (i_6 l fB fr hops) i j) else o_1 i k (i_6 l fB fr hops) a)),
     mat fr.length fr.length (fun a=>if a=i then (fun j=>if j=k then r else o_1 i k (j_4 l fB fD fr hops) i j) else o_1 i k (j_4 l fB fD fr hops) a))) fun (y5,y6)=>
    (if inb y6 (k:Int) then
     if inb y6 (i:Int) then
      if inb (gt y6 (i:Int)) (k:Int) then
       if inb (gt y6 (k:Int)) (i:Int) then
        let t5:=y6.set (k:Int).toNat ((gt y6 (k:Int)).set (i:Int).toNat (W (0-(gt (gt y6 (i:Int)) (k:Int)))))
        some (.next (W ((k:Int)+1),y5,t5))
       else none
      else none
     else none
    else none:Option (Ctl (Int×(List (List Int))×(List (List Int))) ((List (List Int))×(List (List Int))))))=some (.next (((k+1:Nat):Int),mat fr.length fr.length (o_1 i (k+1) (i_6 l fB fr hops)),mat fr.length fr.length (o_1 i (k+1) (j_4 l fB fD fr hops)))):=by
   rintro p q r rfl rfl rfl
   simp only [a_0,i_3 _ hi,i_3 _ hkl,j_7 _ hi,j_7 _ hkl,h_9 _ hi,h_9 _ hkl,if_true,r_2 _ hi,r_2 _ hkl,Int.toNat_natCast,a_kb,a_nh,b_lt hk,hWd,c_3 (i:=k) (by omega)]
  unfold a_da
  simp only [h1,decide_true,if_true,h_4 hi,h_4 hkl,i_5 hi,i_5 hkl,a_7z,decide_eq_true_eq,i_3 _ hi,i_3 _ hkl,hih,hkh,b_jt hw hR hn (show 1000<F by omega) hL xi xk hto,j_7 _ hi,j_7 _ hkl,h_9 _ hi,h_9 _ hkl,a_57 g.len g.lt hi hkl,a_57 g.len g.lt hkl hi,b_cv g.len g.lt hi hkl,Int.toNat_natCast,a_kb,a_nh]
  by_cases he:fr.getD i 0=fr.getD k 0
  ·rw [if_pos he]
   refine key _ _ _ ?_ ?_ ?_
   ·unfold i_6;rw [if_neg hne,if_pos he]
   ·unfold i_6;rw [if_neg hne',if_pos he.symm,a_r8 l _ _ hto]
   ·unfold j_4;rw [if_neg hne,if_pos he]
  ·rw [if_neg he]
   refine key _ _ _ ?_ ?_ ?_
   ·unfold i_6;rw [if_neg hne,if_neg he]
   ·unfold i_6;rw [if_neg hne',if_neg (fun e=>he e.symm)]
   ·unfold j_4;rw [if_neg hne,if_neg he]
 ·unfold a_da
  have h1:¬ ((i:Int)<(i:Int)):=by omega
  simp only [h1,decide_false,if_false,false_eq_true]
theorem b_qh (hw:∀ x∈l,d_6 x) (hR:c_0 l=true) (hn:n=a_3 l l.length) (hf:2000<F) (hL:f_1 F l=some (b_3 l l.length)) (hm:m<=1000) (h:t_4 m fB fD) (g:GoOn l n m fr hops) :
  a_gx F l (b_6 m fB fD) (b_7 fr) hops=some (b_6 fr.length (i_6 l fB fr hops) (j_4 l fB fD fr hops)):=by
 have hle:=g.le
 unfold a_gx
 rw [a_wk hm hf h]
 have hlen:(((b_7 fr).length:Int) != (hops.length:Int))=false:=by rw [a_hm,g.len];simp
 have t1:=c_2 (step:=a_c6 F (b_6 m fB fD) (b_7 fr)) (fun i=>(i:Int)) (.inr ()) fr.length (fun i hi=>.inl ?_) ?_ fr.length 0 F (by omega) (by omega)
 ·have e1:iter (a_c6 F (b_6 m fB fD) (b_7 fr)) F 0=_:=t1
  have t2:=c_2 (step:=a_c4 F l (b_6 m fB fD) (b_7 fr) hops) (fun i=>((i:Int),mat fr.length fr.length (o_1 i 0 (i_6 l fB fr hops)),mat fr.length fr.length (o_1 i 0 (j_4 l fB fD fr hops)))) (mat fr.length fr.length (i_6 l fB fr hops),mat fr.length fr.length (j_4 l fB fD fr hops)) fr.length (fun i hi=>.inl ?_) ?_ fr.length 0 F (by omega) (by omega)
  ·have z:∀ f,mat fr.length fr.length (o_1 0 0 f)=mat fr.length fr.length fun _ _=>0:=fun f=>j_9 fun a b _ _=>by unfold o_1;rw [if_neg (by omega)]
   rw [z,z] at t2
   have e2:iter (a_c4 F l (b_6 m fB fD) (b_7 fr) hops) F (0,mat fr.length fr.length (fun _ _=>0),mat fr.length fr.length fun _ _=>0)=_:=t2
   simp only [a_0,Bool.not_true,false_eq_true,if_false,hlen,e1,show decide ((-1:Int)>=0)=false from rfl]
   rw [a_hm,b_c5 (by omega) hf]
   simp only [a_0,e2]
   rfl
  ·unfold a_c4
   have h1:(i:Int)<((b_7 fr).length:Int):=by simp;omega
   simp only [h1,decide_true,if_true,b_ne hw hR hn hf hL h g hi,a_0,c_3 (i:=i) (by omega)]
  ·unfold a_c4
   have h1:¬ ((fr.length:Int)<((b_7 fr).length:Int)):=by simp
   have z:∀ f,mat fr.length fr.length (o_1 fr.length 0 f)=mat fr.length fr.length f:=fun f=>j_9 fun a b _ _=>by unfold o_1;rw [if_pos (by omega)]
   simp only [h1,decide_false,if_false,false_eq_true,z]
 ·unfold a_c6 a_dq
  have h1:(i:Int)<((b_7 fr).length:Int):=by simp;omega
  have hx:=j_2 g.lt hi
  have h2:((fr.getD i 0:Nat):Int)>=0:=by omega
  have h3:((fr.getD i 0:Nat):Int)<((b_6 m fB fD).B.length:Int):=by simp only [b_6,a_v9];omega
  simp only [h1,decide_true,if_true,h_4 hi,i_5 hi,h2,h3,a_0,Bool.not_true,false_eq_true,if_false,c_3 (i:=i) (by omega)]
 ·unfold a_c6
  have h1:¬ ((fr.length:Int)<((b_7 fr).length:Int)):=by simp
  simp only [h1,decide_false,if_false,false_eq_true]
theorem b_lu (hw:∀ x∈l,d_6 x) (hR:c_0 l=true) (hn:n=a_3 l l.length) (hl:l.length*64<=140737488351232) (hf:2000<F) (hf2:l.length+1<F) (hL:e_4 F l=some (b_3 l l.length)) (h:t_4 m fB fD) (g:GoOn l n m fr hops) {i:Nat} (hi:i<fr.length) :
  iter (a_ay F l (b_6 m fB fD) (b_7 fr) hops (i:Int)) F (0,mat fr.length fr.length (q_1 i 0 (i_6 l fB fr hops)),mat fr.length fr.length (q_1 i 0 (j_4 l fB fD fr hops)))=some (mat fr.length fr.length (q_1 (i+1) 0 (i_6 l fB fr hops)),mat fr.length fr.length (q_1 (i+1) 0 (j_4 l fB fD fr hops))):=by
 have hle:=g.le
 have ok:=a_2k hw hR hn h g.lt g.len g.hop g.asc
 rw [<-a_3v,<-a_3v]
 have:=c_2 (step:=a_ay F l (b_6 m fB fD) (b_7 fr) hops (i:Int)) (fun k=>((k:Int),mat fr.length fr.length (q_1 i k (i_6 l fB fr hops)),mat fr.length fr.length (q_1 i k (j_4 l fB fD fr hops)))) (mat fr.length fr.length (q_1 i fr.length (i_6 l fB fr hops)),mat fr.length fr.length (q_1 i fr.length (j_4 l fB fD fr hops))) fr.length (fun k hkl=>.inl ?_) ?_ fr.length 0 F (by omega) (by omega)
 ·exact this
 ·have h1:(k:Int)<((b_7 fr).length:Int):=by simp;omega
  have hih:inb hops (i:Int)=true:=a_7 (by omega) (by rw [g.len];omega)
  have hkh:inb hops (k:Int)=true:=a_7 (by omega) (by rw [g.len];omega)
  have xi:=a_ln g.hop (i:=i) (by rw [g.len];exact hi)
  have xk:=a_ln g.hop (i:=k) (by rw [g.len];exact hkl)
  unfold a_ay
  by_cases hik:i=k
  ·subst hik
   simp only [h1,decide_true,if_true,beq_self_eq_true,a_0,c_3 (i:=i) (by omega),a_03 _ (ok.bd i hi),a_03 _ (ok.dd i hi)]
  ·have hto:=b_fc g.asc (i:=i) (k:=k) (by rw [g.len];exact hi) (by rw [g.len];exact hkl) hik
   have hb:((i:Int)==(k:Int))=false:=by simp;omega
   have xa:=j_2 g.lt hi
   have xb:=j_2 g.lt hkl
   simp only [h1,decide_true,if_true,hb,false_eq_true,if_false,h_4 hi,h_4 hkl,i_5 hi,i_5 hkl,a_7z,decide_eq_true_eq,i_3 _ hi,i_3 _ hkl,hih,hkh,b_m8 hw hR hn hl (show 1000<F by omega) hf2 hL xi xk hto,a_8a,a_4e xa xb,j_7 _ hi,j_7 _ hkl,h_9 _ hi,h_9 _ hkl,
    show (b_6 m fB fD).B=mat m m fB from rfl,i_3 _ xa,j_7 _ xa,h_9 _ xb,r_2 _ xb,Int.toNat_natCast,a_kb,a_nh,a_0,c_3 (i:=k) (by omega)]
   have eB:=a_33 (m:=fr.length) (i:=i) (k:=k) (i_6 l fB fr hops)
   have eD:=a_33 (m:=fr.length) (i:=i) (k:=k) (j_4 l fB fD fr hops)
   by_cases he:fr.getD i 0=fr.getD k 0
   ·rw [if_pos he]
    have q1:i_6 l fB fr hops i k=(v_7 l (gt hops (i:Int)) (gt hops (k:Int))).1:=by unfold i_6;rw [if_neg hik,if_pos he]
    have q2:j_4 l fB fD fr hops i k=(v_7 l (gt hops (i:Int)) (gt hops (k:Int))).2.2:=by unfold j_4;rw [if_neg hik,if_pos he]
    rw [q1] at eB;rw [q2] at eD
    simp only [a_0,eB,eD]
   ·rw [if_neg he]
    have q1:i_6 l fB fr hops i k=numF (fB (fr.getD i 0) (fr.getD k 0)) (gt hops (i:Int)).Turn:=by unfold i_6;rw [if_neg hik,if_neg he]
    have q2:j_4 l fB fD fr hops i k=agF fB fD (fr.getD i 0) (fr.getD k 0) (gt hops (i:Int)) (gt hops (k:Int)):=by unfold j_4;rw [if_neg hik,if_neg he]
    rw [q1] at eB;rw [q2] at eD
    simp only [a_0,eB,eD]
 ·unfold a_ay
  have h1:¬ ((fr.length:Int)<((b_7 fr).length:Int)):=by simp
  simp only [h1,decide_false,if_false,false_eq_true]
theorem b_ow (hw:∀ x∈l,d_6 x) (hR:c_0 l=true) (hn:n=a_3 l l.length) (hl:l.length*64<=140737488351232) (hf:2000<F) (hf2:l.length+1<F) (hL:e_4 F l=some (b_3 l l.length)) (hm:m<=1000) (h:t_4 m fB fD) (g:GoOn l n m fr hops) :
  a_i0 F l (b_6 m fB fD) (b_7 fr) hops=some (b_6 fr.length (i_6 l fB fr hops) (j_4 l fB fD fr hops)):=by
 have hle:=g.le
 unfold a_i0
 have hrl:((b_6 m fB fD).B.length:Int)=(m:Int):=by simp [b_6]
 rw [hrl,a_fn hm hf h]
 have hlen:(((b_7 fr).length:Int) != (hops.length:Int))=false:=by rw [a_hm,g.len];simp
 have t1:=c_2 (step:=a_b9 F (b_6 m fB fD) (b_7 fr)) (fun i=>(i:Int)) (.inr ()) fr.length (fun i hi=>.inl ?_) ?_ fr.length 0 F (by omega) (by omega)
 ·have e1:iter (a_b9 F (b_6 m fB fD) (b_7 fr)) F 0=_:=t1
  have t2:=c_2 (step:=a_ap F l (b_6 m fB fD) (b_7 fr) hops) (fun i=>((i:Int),mat fr.length fr.length (q_1 i 0 (i_6 l fB fr hops)),mat fr.length fr.length (q_1 i 0 (j_4 l fB fD fr hops)))) (mat fr.length fr.length (i_6 l fB fr hops),mat fr.length fr.length (j_4 l fB fD fr hops)) fr.length (fun i hi=>.inl ?_) ?_ fr.length 0 F (by omega) (by omega)
  ·have z:∀ f,mat fr.length fr.length (q_1 0 0 f)=mat fr.length fr.length fun _ _=>0:=fun f=>j_9 fun a b _ _=>by unfold q_1;rw [if_neg (by omega)]
   rw [z,z] at t2
   have e2:iter (a_ap F l (b_6 m fB fD) (b_7 fr) hops) F (0,mat fr.length fr.length (fun _ _=>0),mat fr.length fr.length fun _ _=>0)=_:=t2
   simp only [a_0,Bool.not_true,false_eq_true,if_false,hlen,e1]
   rw [a_hm,b_dn (by omega) hf]
   simp only [a_0,e2]
   rfl
  ·unfold a_ap
   have h1:(i:Int)<((b_7 fr).length:Int):=by simp;omega
   simp only [h1,decide_true,if_true,b_lu hw hR hn hl hf hf2 hL h g hi,a_0,c_3 (i:=i) (by omega)]
  ·unfold a_ap
   have h1:¬ ((fr.length:Int)<((b_7 fr).length:Int)):=by simp
   have z:∀ f,mat fr.length fr.length (q_1 fr.length 0 f)=mat fr.length fr.length f:=fun f=>j_9 fun a b _ _=>by unfold q_1;rw [if_pos (by omega)]
   simp only [h1,decide_false,if_false,false_eq_true,z]
 ·unfold a_b9
  have h1:(i:Int)<((b_7 fr).length:Int):=by simp;omega
  have hx:=j_2 g.lt hi
  have h2:¬ ((fr.getD i 0:Nat):Int)<0:=by omega
  have h3:¬ ((fr.getD i 0:Nat):Int)>=((b_6 m fB fD).B.length:Int):=by simp only [b_6,a_v9];omega
  simp only [h1,decide_true,if_true,h_4 hi,i_5 hi,h2,h3,decide_false,false_eq_true,if_false,a_0,c_3 (i:=i) (by omega)]
 ·unfold a_b9
  have h1:¬ ((fr.length:Int)<((b_7 fr).length:Int)):=by simp
  simp only [h1,decide_false,if_false,false_eq_true]
end
