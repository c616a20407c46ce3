/- A crowd of runs: what is f_0, and what begins and ends here. What is the same as itself. Runs that are let go: the program and the document tell the same. Runs that are let go: the document's side. The deepest node that two are in, and how deep it lies. Its conditions: none. -/
import Derived.Test.YtdficaoajalfaaaGreatTG46
open Nat (zero_le lt_or_ge)
open Bool (false_eq_true)
open List (filter_cons filter_nil mem_range mem_of_getElem? getElem_mem map_append map_cons map_nil ext_getElem getElem_map getElem_range length_map mem_map)
set_option linter.all false
namespace Go.Proofs.YtdficaoajalfaaaGreat
open Go.V Go.RowKit Old
structure l_1 (l:List a_2) (n:Nat) (a:List a_1) (b:Nat->List a_1) (e:Nat->a_1×Bool) (z:a_1×Bool) (F:Nat):Prop where
 hR:c_0 l=true
 hl:l.length*64<=140737488351232
 hn:n=a_3 l l.length
 T:a_zz l n a b e z
 f1:2000001<F
 f2:l.length+1<F
 f3:1000000000<F
 TF:a_uf l n a b e z F
def a_au (l:List a_2) (at_:Int):List Int:=(List.replicate (h_2 l).toNat (-1)).set 0 at_
theorem p_6 (l:List a_2):1<=h_2 l/\h_2 l<=19:=by have:=a_rh l;unfold h_2;omega
theorem a_ix (l:List a_2) (at_:Int):(a_au l at_).length=(h_2 l).toNat:=by simp [a_au]
section
variable {l:List a_2} {n:Nat} {a:List a_1} {b:Nat->List a_1} {e:Nat->a_1×Bool} {z:a_1×Bool} {F:Nat} {at_ work:Int} {pl:List Nat} {vals:List (List Int)} {fB fD:Nat->Nat->Int}
def mkC (l:List a_2) (n:Nat) (a:List a_1) (b:Nat->List a_1) (e:Nat->a_1×Bool) (z:a_1×Bool) (at_ work:Int) (pl:List Nat) (vals:List (List Int)) (fB fD:Nat->Nat->Int):b_1:=
 ⟨m_0 l n a b e z,at_,work,b_7 pl,vals,b_6 pl.length fB fD⟩
def mkX (l:List a_2) (n:Nat) (a:List a_1) (b:Nat->List a_1) (e:Nat->a_1×Bool) (at_ work:Int) (pl:List Nat) (vals:List (List Int)) (fB fD:Nat->Nat->Int):b_4:=
 s_9 l n a b e at_ work (b_7 pl) vals (b_6 pl.length fB fD)
structure p_7 (l:List a_2) (n:Nat) (pl:List Nat) (vals:List (List Int)) (fB fD:Nat->Nat->Int):Prop where
 len:vals.length=pl.length
 pln:∀ p∈pl,p<n
 asc:pl.Pairwise fun a b=>a<b
 row:∀ v∈vals,v.length=(h_2 l).toNat
 rk:t_4 pl.length fB fD
theorem b_c6 {n:Nat}:∀ {pl:List Nat} {lo:Nat},(∀ p∈pl,lo<=p/\p<n)->pl.Pairwise (fun a b=>a<b)->pl.length+lo<=n\/pl=[]
 |[],_,_,_=>.inr rfl
 |
  x :: r,lo,h,hp=>by
  obtain ⟨h1,h2⟩:=List.pairwise_cons.1 hp
  have hx:=h x (by simp)
  rcases b_c6 (pl:=r) (lo:=x+1) (fun p hp=>⟨h1 p hp,(h p (List.mem_cons_of_mem _ hp)).2⟩) h2 with h3 | h3
  ·refine .inl ?_;simp only [List.length_cons];omega
  ·subst h3;refine .inl ?_;simp only [List.length_cons,List.length_nil];omega
theorem p_7.le (h:p_7 l n pl vals fB fD):pl.length<=n:=by
 rcases b_c6 (lo:=0) (fun p hp=>⟨zero_le _,h.pln p hp⟩) h.asc with h1 | h1
 ·omega
 ·simp [h1]
theorem b_df (K:l_1 l n a b e z F) (c:b_1) (hc:c.chart=m_0 l n a b e z):r_5 F c=some (a_au l c.at_):=by
 have ht:=p_6 l
 obtain ⟨t,hT⟩:∃ t:Nat,h_2 l=t:=⟨(h_2 l).toNat,by omega⟩
 unfold r_5 a_au
 rw [hc,show (m_0 l n a b e z).tags=h_2 l from rfl,hT,b_nm (by omega) (by omega)]
 simp only [a_0,Int.toNat_natCast]
 rw [if_pos (a_7 (by omega) (by simp;omega))]
 rfl
theorem b_cn (K:l_1 l n a b e z F) (c:b_4) (hc:c.L=l):a_a8 F c=some (a_au l c.At):=by
 have ht:=p_6 l
 have f1:=K.f1
 obtain ⟨t,hT⟩:∃ t:Nat,h_2 l=t:=⟨(h_2 l).toNat,by omega⟩
 unfold a_a8 a_au
 rw [hc,b_cl K.hR K.hl (by omega) K.f2,hT]
 simp only [a_0,b_ly (F:=F) (n:=t) (x:=-1) (by omega) (by omega),Int.toNat_natCast]
 rw [if_pos (a_7 (by omega) (by simp;omega))]
 rfl
def s_7 (l:List a_2) (z:a_1×Bool) (at_:Int):List Int×Bool:=if z.2 then (a_d5 at_ (-1) (a_au l at_) (OfF l z.1.Steps),true) else ([],false)
theorem b_ct (K:l_1 l n a b e z F):r_6 F (mkC l n a b e z at_ work pl vals fB fD)=some (s_7 l z at_):=by
 have ht:=p_6 l
 unfold r_6 s_7
 rw [b_df K _ rfl]
 simp only [mkC,m_0]
 by_cases h2:z.2=true
 rotate_left
 ·have h2:z.2=false:=by simpa using h2
  simp [h2]
 ·simp only [h2,Bool.not_true,false_eq_true,if_false,a_0,if_true]
  have hol:=a_h4 l z.1.Steps
  have hz:=K.T.zl
  rw [a_1v (by rw [a_ix];omega) (by omega)]
  rfl
theorem b_dw (K:l_1 l n a b e z F):a_d1 F (mkX l n a b e at_ work pl vals fB fD)=some (s_7 l z at_):=by
 have ht:=p_6 l
 have f1:=K.f1
 have f3:=K.f3
 have hz:=K.T.zl
 have hol:=a_h4 l z.1.Steps
 unfold a_d1 s_7
 rw [b_cn K _ rfl]
 simp only [mkX,s_9,K.TF.rZ,a_0]
 cases z.2
 ·simp
 ·simp only [Bool.not_true,false_eq_true,if_false,if_true,b_ev K.hR K.hl (show z.1.Steps.length<=2000000 by omega) K.f1 K.f2 (Bnd.sok K.T.zb),a_0]
  rw [a_yv (by rw [a_ix];omega) (by omega) (by omega)]
  rfl
theorem a_m8 {β:Type} [Inhabited β] {f:Nat->β} {p:Nat} (h:p<n):gt ((List.range n).map f) (p:Int)=f p:=d_4 (by simp [h])
theorem a_jk {β:Type} {f:Nat->β} {p:Nat} (h:p<n):inb ((List.range n).map f) (p:Int)=true:=a_7 (by omega) (by simp;omega)
def canN (e:Nat->a_1×Bool) (pl:List Nat) (k:Nat):List Nat:=(List.range k).filter fun i=>(e (pl.getD i 0)).2
theorem a_3q (e:Nat->a_1×Bool) (pl:List Nat) (k:Nat):canN e pl (k+1)=if (e (pl.getD k 0)).2 then canN e pl k++[k] else canN e pl k:=by
 unfold canN
 rw [List.range_succ,List.filter_append]
 by_cases h:(e (pl.getD k 0)).2=true
 ·simp only [h,if_true,filter_cons,filter_nil]
 ·have h:(e (pl.getD k 0)).2=false:=by simpa using h
  simp only [h,false_eq_true,if_false,filter_cons,filter_nil,List.append_nil]
theorem a_r2 (e:Nat->a_1×Bool) (pl:List Nat) (k:Nat):(canN e pl k).length<=k:=Nat.le_trans (List.length_filter_le _ _) (by simp)
theorem a_ne {k i:Nat} (h:i∈canN e pl k):i<k:=mem_range.1 (List.mem_filter.1 h).1
theorem a_er (r:List Nat) (i:Nat):b_7 (r++[i])=b_7 r++[(i:Int)]:=by simp [b_7]
def a_hi (l:List a_2) (e:Nat->a_1×Bool) (at_:Int) (pl:List Nat) (vals:List (List Int)) (fD:Nat->Nat->Int):List Int×Bool:=
 if a_b2 fD (canN e pl pl.length)<0 then ([],false) else (a_d5 at_ (-1) (gt vals (a_b2 fD (canN e pl pl.length))) (OfF l (e (pl.getD (a_b2 fD (canN e pl pl.length)).toNat 0)).1.Steps),true)
theorem a_2c (C:p_7 l n pl vals fB fD) {k:Nat} (hk:k<pl.length):(gt vals (k:Int)).length<=1000:=by
 have ht:=p_6 l
 have:=C.row _ (mem_of_getElem? (n_3 (l:=vals) (i:=k) (by rw [C.len];exact hk)))
 omega
theorem b_dc (K:l_1 l n a b e z F) (C:p_7 l n pl vals fB fD):p_3 F (mkC l n a b e z at_ work pl vals fB fD)=some (a_hi l e at_ pl vals fD):=by
 have f1:=K.f1
 have hm:=C.le
 have hn:=K.T.n64
 unfold p_3 a_hi
 have:=c_2 (step:=t_0 F (mkC l n a b e z at_ work pl vals fB fD)) (fun i=>(b_7 (canN e pl i),(i:Int))) (b_7 (canN e pl pl.length)) pl.length (fun i hi=>.inl ?_) ?_ pl.length 0 F (by omega) (by omega)
 ·have h2:iter (t_0 F (mkC l n a b e z at_ work pl vals fB fD)) F ([],0)=_:=this
  rw [h2]
  simp only [a_0,mkC]
  rw [b_qp (by omega) (by omega) C.rk _ (by have:=a_r2 e pl pl.length;omega) (fun i h=>a_ne h)]
  rcases a_hu (fD:=fD) (canN e pl pl.length) (n:=pl.length) (fun i h=>a_ne h) with hb | ⟨k,hb,hk⟩
  ·rw [hb];rfl
  ·have hp:=j_2 C.pln hk
   have hk0:¬ ((k:Int)<0):=by omega
   rw [hb]
   simp only [a_0,hk0,decide_false,false_eq_true,if_false,a_7 (l:=vals) (i:=(k:Int)) (by omega) (by rw [C.len];omega),h_4 hk,i_5 hk,m_0,a_jk hp,a_m8 hp,if_true,e_7,Int.toNat_natCast]
   have hol:=a_h4 l (e (pl.getD k 0)).1.Steps
   have hel:=K.T.el _ hp
   rw [a_1v (a_2c C hk) (by show (OfF l (e (pl.getD k 0)).1.Steps).length<=1000000000;omega)]
   rfl
 ·unfold t_0
  have h1:(i:Int)<((b_7 pl).length:Int):=by simp;omega
  have hp:=j_2 C.pln hi
  have hap:a_8 8 (b_7 (canN e pl i)) [(i:Int)]=true:=by have:=a_r2 e pl i;simp [a_8];omega
  simp only [mkC,h1,decide_true,if_true,h_4 hi,i_5 hi,m_0,a_jk hp,a_m8 hp,hap,c_3 (i:=i) (by omega),a_3q]
  by_cases h2:(e (pl.getD i 0)).2=true
  ·simp only [h2,if_true,a_0,a_er]
  ·have h2:(e (pl.getD i 0)).2=false:=by simpa using h2
   simp only [h2,false_eq_true,if_false,a_0]
 ·unfold t_0
  have h1:¬ ((pl.length:Int)<((b_7 pl).length:Int)):=by simp
  simp only [mkC,h1,decide_false,if_false,false_eq_true]
theorem b_cq (K:l_1 l n a b e z F) (C:p_7 l n pl vals fB fD):a_c8 F (mkX l n a b e at_ work pl vals fB fD)=some (a_hi l e at_ pl vals fD):=by
 have f1:=K.f1
 have f3:=K.f3
 have hm:=C.le
 have hn:=K.T.n64
 unfold a_c8 a_hi
 have:=c_2 (step:=a_bh F (mkX l n a b e at_ work pl vals fB fD)) (fun i=>(b_7 (canN e pl i),(i:Int))) (b_7 (canN e pl pl.length)) pl.length (fun i hi=>.inl ?_) ?_ pl.length 0 F (by omega) (by omega)
 ·have h2:iter (a_bh F (mkX l n a b e at_ work pl vals fB fD)) F ([],0)=_:=this
  rw [h2]
  simp only [a_0,mkX,s_9]
  rw [b_nc (by omega) (by omega) C.rk _ (by have:=a_r2 e pl pl.length;omega) (fun i h=>a_ne h)]
  rcases a_hu (fD:=fD) (canN e pl pl.length) (n:=pl.length) (fun i h=>a_ne h) with hb | ⟨k,hb,hk⟩
  ·rw [hb];rfl
  ·have hp:=j_2 C.pln hk
   have hk0:¬ ((k:Int)<0):=by omega
   have hel:=K.T.el _ hp
   have hol:=a_h4 l (e (pl.getD k 0)).1.Steps
   rw [hb]
   simp only [a_0,hk0,decide_false,false_eq_true,if_false,a_7 (l:=vals) (i:=(k:Int)) (by omega) (by rw [C.len];omega),h_4 hk,i_5 hk,a_jk hp,a_m8 hp,if_true,Int.toNat_natCast]
   rw [b_ev K.hR K.hl (by omega) K.f1 K.f2 (Bnd.sok (K.T.eb _ hp)),a_0,a_yv (a_2c C hk) (by omega) (by omega)]
   rfl
 ·unfold a_bh
  have h1:(i:Int)<((b_7 pl).length:Int):=by simp;omega
  have hp:=j_2 C.pln hi
  have hap:a_8 8 (b_7 (canN e pl i)) [(i:Int)]=true:=by have:=a_r2 e pl i;simp [a_8];omega
  have he:decide (((e (pl.getD i 0)).1.Steps.length:Int)>0)=(e (pl.getD i 0)).2:=by
   rw [K.T.e0 _ hp]
   cases (e (pl.getD i 0)).1.Steps with
   |nil=>simp
   |cons x r=>simp
  simp only [mkX,s_9,h1,decide_true,if_true,h_4 hi,i_5 hi,a_jk hp,a_m8 hp,hap,c_3 (i:=i) (by omega),a_3q,he]
  by_cases h2:(e (pl.getD i 0)).2=true
  ·simp only [h2,if_true,a_0,a_er]
  ·have h2:(e (pl.getD i 0)).2=false:=by simpa using h2
   simp only [h2,false_eq_true,if_false,a_0]
 ·unfold a_bh
  have h1:¬ ((pl.length:Int)<((b_7 pl).length:Int)):=by simp
  simp only [mkX,s_9,h1,decide_false,if_false,false_eq_true]
end
section
variable {F:Nat}
variable {l:List a_2} {n:Nat} {a:List a_1} {b:Nat->List a_1} {e:Nat->a_1×Bool} {z:a_1×Bool} {at_ work:Int} {pl:List Nat} {vals:List (List Int)} {fB fD:Nat->Nat->Int}
theorem a_0s:(s_7 l z at_).1.length<=1000:=by
 have ht:=p_6 l
 unfold s_7
 split
 ·rw [a_do,a_ix];omega
 ·simp
end
def g_7 (vals:List (List Int)) (from_:Int) (k:Nat):List Nat:=(List.range k).filter fun (i:Nat)=>decide (gt (gt vals (i:Int)) 0<=from_)
theorem a_1d (vals:List (List Int)) (from_:Int) (k:Nat):g_7 vals from_ (k+1)=if decide (gt (gt vals (k:Int)) 0<=from_)=true then g_7 vals from_ k++[k] else g_7 vals from_ k:=by
 unfold g_7
 rw [List.range_succ,List.filter_append]
 by_cases h:decide (gt (gt vals (k:Int)) 0<=from_)=true
 ·rw [if_pos h];simp only [filter_cons,h,if_true,filter_nil]
 ·rw [if_neg h];simp only [filter_cons,h,if_false,filter_nil,List.append_nil,false_eq_true]
theorem a_lp (vals:List (List Int)) (from_:Int) (k:Nat):(g_7 vals from_ k).length<=k:=Nat.le_trans (List.length_filter_le _ _) (by simp)
theorem a_7g {vals:List (List Int)} {from_:Int} {k i:Nat} (h:i∈g_7 vals from_ k):i<k:=mem_range.1 (List.mem_filter.1 h).1
section
variable {F:Nat}
theorem a_84 {x:List Int} {of:List Nat} (h:∀ i∈of,i<x.length) (hl:of.length<=1000) (hf:2000<F):u_9 F x (b_7 of)=some (of.map fun i:Nat=>gt x (i:Int)):=by
 unfold u_9
 rw [i_2]
 have:=c_2 (step:=a_ce F x (b_7 of)) (fun i=>((of.take i).map fun i:Nat=>gt x (i:Int),(i:Int))) (of.map fun i:Nat=>gt x (i:Int)) of.length (fun i hi=>.inl ?_) ?_ of.length 0 F (by omega) (by omega)
 ·exact this
 ·unfold a_ce
  have h1:(i:Int)<((b_7 of).length:Int):=by simp;omega
  have hx:=h of[i] (getElem_mem hi)
  have hap:a_8 8 ((of.take i).map fun i:Nat=>gt x (i:Int)) [gt x ((of[i]:Nat):Int)]=true:=by simp [a_8];omega
  simp only [h1,decide_true,if_true,h_4 hi,a_q6 hi,a_7 (l:=x) (i:=((of[i]:Nat):Int)) (by omega) (by omega),hap,a_hx hi,map_append,map_cons,map_nil,c_3 (i:=i) (by omega)]
 ·unfold a_ce
  have h1:¬ ((of.length:Int)<((b_7 of).length:Int)):=by simp
  simp only [h1,decide_false,if_false,false_eq_true,List.take_length]
theorem a_y9 {x:List (List Int)} {of:List Nat} (h:∀ i∈of,i<x.length) (hl:of.length<=1000) (hf:2000<F):a_ae F x (b_7 of)=some (of.map fun i:Nat=>gt x (i:Int)):=by
 unfold a_ae
 rw [i_2]
 have:=c_2 (step:=a_ci F x (b_7 of)) (fun i=>((of.take i).map fun i:Nat=>gt x (i:Int),(i:Int))) (of.map fun i:Nat=>gt x (i:Int)) of.length (fun i hi=>.inl ?_) ?_ of.length 0 F (by omega) (by omega)
 ·exact this
 ·unfold a_ci
  have h1:(i:Int)<((b_7 of).length:Int):=by simp;omega
  have hx:=h of[i] (getElem_mem hi)
  have hap:a_8 24 ((of.take i).map fun i:Nat=>gt x (i:Int)) [gt x ((of[i]:Nat):Int)]=true:=by simp [a_8];omega
  simp only [h1,decide_true,if_true,h_4 hi,a_q6 hi,a_7 (l:=x) (i:=((of[i]:Nat):Int)) (by omega) (by omega),hap,a_hx hi,map_append,map_cons,map_nil,c_3 (i:=i) (by omega)]
 ·unfold a_ci
  have h1:¬ ((of.length:Int)<((b_7 of).length:Int)):=by simp
  simp only [h1,decide_false,if_false,false_eq_true,List.take_length]
theorem b_pn {c:b_1} {from_:Int} (hr:∀ v∈c.values,0<v.length) (hl:c.values.length<=1000) (hf:2000<F):iter (t_3 F c from_) F ([],0)=some (b_7 (g_7 c.values from_ c.values.length)):=by
 have:=c_2 (step:=t_3 F c from_) (fun i=>(b_7 (g_7 c.values from_ i),(i:Int))) (b_7 (g_7 c.values from_ c.values.length)) c.values.length (fun i hi=>.inl ?_) ?_ c.values.length 0 F (by omega) (by omega)
 ·exact this
 ·unfold t_3
  have h1:(i:Int)<(c.values.length:Int):=by omega
  have hv:=hr _ (mem_of_getElem? (n_3 hi))
  have hap:a_8 8 (b_7 (g_7 c.values from_ i)) [(i:Int)]=true:=by have:=a_lp c.values from_ i;simp [a_8];omega
  simp only [h1,decide_true,if_true,a_7 (l:=c.values) (i:=(i:Int)) (by omega) h1,a_7 (l:=gt c.values (i:Int)) (i:=0) (by omega) (by omega),hap,a_1d,c_3 (i:=i) (by omega)]
  by_cases h2:decide (gt (gt c.values (i:Int)) 0<=from_)=true
  ·simp only [h2,if_true,a_0,a_er]
  ·have h2:decide (gt (gt c.values (i:Int)) 0<=from_)=false:=by simpa using h2
   simp only [h2,false_eq_true,if_false,a_0]
 ·unfold t_3
  have h1:¬ ((c.values.length:Int)<(c.values.length:Int)):=by omega
  simp only [h1,decide_false,if_false,false_eq_true]
theorem b_ix {β:Type} {n i:Nat} {f:Nat->β} {v:β}:((List.range n).map f).set i v=(List.range n).map fun j=>if j=i then v else f j:=by
 refine ext_getElem (by simp) fun j h1 h2=>?_
 simp only [List.getElem_set,getElem_map,getElem_range]
 by_cases e:i=j
 ·simp [e]
 ·rw [if_neg e,if_neg (fun h=>e h.symm)]
def half (s m:Nat) (st:List Nat) (f:Nat->Nat->Int) (x i:Nat):List Int:=if i<x then h_1 s (fun k=>f (st.getD i 0) (st.getD k 0)) else h_1 m (f (st.getD i 0))
theorem b_kl {m:Nat} {st:List Nat} (h:∀ i∈st,i<m) (f:Nat->Nat->Int):(st.map fun i:Nat=>gt (mat m m f) (i:Int))=(List.range st.length).map (half st.length m st f 0):=by
 refine ext_getElem (by simp) fun j h1 h2=>?_
 simp only [length_map] at h1
 have hj:=h st[j] (getElem_mem h1)
 simp only [getElem_map,getElem_range,half,Nat.not_lt_zero,if_false]
 rw [j_7 f hj]
 simp [List.getD,h1]
theorem b_h0 (s m:Nat) (st:List Nat) (f:Nat->Nat->Int) {x:Nat}:(List.range s).map (fun j=>if j=x then h_1 s (fun k=>f (st.getD x 0) (st.getD k 0)) else half s m st f x j)=(List.range s).map (half s m st f (x+1)):=by
 refine List.map_congr_left fun j _=>?_
 unfold half
 by_cases e:j=x
 ·subst e;simp
 ·rw [if_neg e]
  by_cases e2:j<x
  ·rw [if_pos e2,if_pos (by omega)]
  ·rw [if_neg e2,if_neg (by omega)]
theorem b_ka {m:Nat} {st:List Nat} (h:∀ i∈st,i<m) (hl:st.length<=1000) (hf:2000<F) (g:Nat->Int):u_9 F (h_1 m g) (b_7 st)=some (h_1 st.length fun k=>g (st.getD k 0)):=by
 rw [a_84 (by simpa using h) hl hf]
 congr 1
 refine ext_getElem (by simp) fun j h1 h2=>?_
 simp only [length_map] at h1
 have hj:=h st[j] (getElem_mem h1)
 simp only [getElem_map,r_2 g hj]
 simp [h_1,List.getD,h1]
theorem b_fv {m:Nat} {st:List Nat} (h:∀ i∈st,i<m) (hl:st.length<=1000) (hf:2000<F) (fB fD:Nat->Nat->Int) :
  iter (r_3 F (b_7 st)) F (0,(List.range st.length).map (half st.length m st fB 0),(List.range st.length).map (half st.length m st fD 0)) =
   some (mat st.length st.length (fun i k=>fB (st.getD i 0) (st.getD k 0)),mat st.length st.length (fun i k=>fD (st.getD i 0) (st.getD k 0))):=by
 have:=c_2 (step:=r_3 F (b_7 st)) (fun x=>((x:Int),(List.range st.length).map (half st.length m st fB x),(List.range st.length).map (half st.length m st fD x)))
  (mat st.length st.length (fun i k=>fB (st.getD i 0) (st.getD k 0)),mat st.length st.length (fun i k=>fD (st.getD i 0) (st.getD k 0))) st.length (fun x hx=>.inl ?_) ?_ st.length 0 F (by omega) (by omega)
 ·exact this
 ·unfold r_3
  have h1:(x:Int)<((b_7 st).length:Int):=by simp;omega
  have hh:∀ f:Nat->Nat->Int,half st.length m st f x x=h_1 m (f (st.getD x 0)):=fun f=>by unfold half;rw [if_neg (by omega)]
  simp only [h1,decide_true,if_true,a_jk hx,a_m8 hx,hh,b_ka h hl hf,a_0,Int.toNat_natCast,b_ix,b_h0,c_3 (i:=x) (by omega)]
 ·unfold r_3
  have h1:¬ ((st.length:Int)<((b_7 st).length:Int)):=by simp
  simp only [h1,decide_false,if_false,false_eq_true]
  have e:∀ f:Nat->Nat->Int,(List.range st.length).map (half st.length m st f st.length)=mat st.length st.length (fun i k=>f (st.getD i 0) (st.getD k 0)):=fun f=>List.map_congr_left fun i hi=>by
   unfold half;rw [if_pos (mem_range.1 hi)]
  rw [e,e]
variable {l:List a_2} {n:Nat} {a:List a_1} {b:Nat->List a_1} {e:Nat->a_1×Bool} {z:a_1×Bool} {at_ work:Int} {pl:List Nat} {vals:List (List Int)} {fB fD:Nat->Nat->Int}
theorem b_p5 (K:l_1 l n a b e z F) (C:p_7 l n pl vals fB fD) (from_:Int) {st:List Nat} (hst:st=g_7 vals from_ vals.length) :
  a_ck F (mkC l n a b e z at_ work pl vals fB fD) from_=some (mkC l n a b e z at_ work (st.map fun i=>pl.getD i 0) (st.map fun i:Nat=>gt vals (i:Int)) (fun i k=>fB (st.getD i 0) (st.getD k 0)) (fun i k=>fD (st.getD i 0) (st.getD k 0))):=by
 have f1:=K.f1
 have hm:=C.le
 have hn:=K.T.n64
 have ht:=p_6 l
 have hlt:∀ i∈st,i<pl.length:=fun i h=>by rw [hst] at h;have:=a_7g h;rw [C.len] at this;exact this
 have hsl:st.length<=1000:=by rw [hst];have:=a_lp vals from_ vals.length;have:=C.len;omega
 unfold a_ck
 have hs:=b_pn (F:=F) (c:=mkC l n a b e z at_ work pl vals fB fD) (from_:=from_) (fun v hv=>by have:=C.row v hv;omega) (by show vals.length<=1000;rw [C.len];omega) (by omega)
 rw [hs,show g_7 (mkC l n a b e z at_ work pl vals fB fD).values from_ (mkC l n a b e z at_ work pl vals fB fD).values.length=st from hst.symm]
 simp only [a_0,mkC,b_6,a_84 (x:=b_7 pl) (of:=st) (F:=F) (by simpa using hlt) hsl (by omega),a_y9 (x:=vals) (of:=st) (F:=F) (by rw [C.len];exact hlt) hsl (by omega),a_y9 (x:=mat pl.length pl.length fB) (of:=st) (F:=F) (by simpa using hlt) hsl (by omega),a_y9 (x:=mat pl.length pl.length fD) (of:=st) (F:=F) (by simpa using hlt) hsl (by omega),b_kl hlt,b_fv hlt hsl (show 2000<F by omega),length_map]
 congr 2
 refine ext_getElem (by simp) fun j h1 h2=>?_
 simp only [length_map] at h1
 simp only [b_7,getElem_map]
 exact i_5 (hlt st[j] (getElem_mem h1))
end
theorem nst (vals:List (List Int)) (from_:Int) {β:Type} (g:Nat->β) (k:Nat):(g_7 vals from_ (k+1)).map g=if decide (gt (gt vals (k:Int)) 0<=from_)=true then (g_7 vals from_ k).map g++[g k] else (g_7 vals from_ k).map g:=by
 rw [a_1d]
 by_cases h:decide (gt (gt vals (k:Int)) 0<=from_)=true
 ·rw [if_pos h,if_pos h,map_append];rfl
 ·rw [if_neg h,if_neg h]
section
variable {F:Nat} {l:List a_2} {n:Nat} {a:List a_1} {b:Nat->List a_1} {e:Nat->a_1×Bool} {z:a_1×Bool} {at_ work:Int} {pl:List Nat} {vals:List (List Int)} {fB fD:Nat->Nat->Int}
theorem b_j2 (K:l_1 l n a b e z F) (C:p_7 l n pl vals fB fD) (from_:Int) {i:Nat} (hi:i<pl.length) :
  iter (a_an F (mkX l n a b e at_ work pl vals fB fD) from_ (i:Int)) F ([],[],0)=some ((g_7 vals from_ pl.length).map (fB i),(g_7 vals from_ pl.length).map (fD i)):=by
 have f1:=K.f1
 have hm:=C.le
 have hn:=K.T.n64
 have ht:=p_6 l
 have hvl:=C.len
 have:=c_2 (step:=a_an F (mkX l n a b e at_ work pl vals fB fD) from_ (i:Int)) (fun k=>((g_7 vals from_ k).map (fB i),(g_7 vals from_ k).map (fD i),(k:Int))) ((g_7 vals from_ pl.length).map (fB i),(g_7 vals from_ pl.length).map (fD i)) pl.length (fun k hk=>.inl ?_) ?_ pl.length 0 F (by omega) (by omega)
 ·exact this
 ·unfold a_an
  have h1:(k:Int)<((b_7 pl).length:Int):=by simp;omega
  have hv:=C.row _ (mem_of_getElem? (n_3 (l:=vals) (i:=k) (by omega)))
  have hsl:=a_lp vals from_ k
  have hap1:a_8 8 ((g_7 vals from_ k).map (fB i)) [fB i k]=true:=by simp [a_8];omega
  have hap2:a_8 8 ((g_7 vals from_ k).map (fD i)) [fD i k]=true:=by simp [a_8];omega
  simp only [mkX,s_9,b_6,h1,decide_true,if_true,a_7 (l:=vals) (i:=(k:Int)) (by omega) (by omega),a_7 (l:=gt vals (k:Int)) (i:=0) (by omega) (by omega),i_3 _ hi,j_7 _ hi,h_9 _ hk,r_2 _ hk,hap1,hap2,nst,c_3 (i:=k) (by omega)]
  split
  ·rename_i h2
   have h3:decide (gt (gt vals (k:Int)) 0<=from_)=true:=h2
   simp only [h3,if_true];rfl
  ·rename_i h2
   have h3:¬ decide (gt (gt vals (k:Int)) 0<=from_)=true:=h2
   simp only [h3,if_false];rfl
 ·unfold a_an
  have h1:¬ ((pl.length:Int)<((b_7 pl).length:Int)):=by simp
  simp only [mkX,s_9,h1,decide_false,if_false,false_eq_true]
theorem b_qv (K:l_1 l n a b e z F) (C:p_7 l n pl vals fB fD) (from_:Int) {st:List Nat} (hst:st=g_7 vals from_ pl.length) :
  a_i4 F (mkX l n a b e at_ work pl vals fB fD) from_=some (mkX l n a b e at_ work (st.map fun i=>pl.getD i 0) (st.map fun i:Nat=>gt vals (i:Int)) (fun i k=>fB (st.getD i 0) (st.getD k 0)) (fun i k=>fD (st.getD i 0) (st.getD k 0))):=by
 have f1:=K.f1
 have hm:=C.le
 have hn:=K.T.n64
 have ht:=p_6 l
 have hvl:=C.len
 have hsl:=a_lp vals from_ pl.length
 unfold a_i4
 have:=c_2 (step:=a_be F (mkX l n a b e at_ work pl vals fB fD) from_) (fun i=>((i:Int),(l,b_3 l l.length,a,(List.range n).map b,(List.range n).map (fun p=>(e p).1.Steps),at_,work,(g_7 vals from_ i).map (fun j=>((pl.getD j 0:Nat):Int)),(g_7 vals from_ i).map (fun j:Nat=>gt vals (j:Int)),((g_7 vals from_ i).map (fun j=>(g_7 vals from_ pl.length).map (fB j)),(g_7 vals from_ i).map (fun j=>(g_7 vals from_ pl.length).map (fD j))))))
  (l,b_3 l l.length,a,(List.range n).map b,(List.range n).map (fun p=>(e p).1.Steps),at_,work,(g_7 vals from_ pl.length).map (fun j=>((pl.getD j 0:Nat):Int)),(g_7 vals from_ pl.length).map (fun j:Nat=>gt vals (j:Int)),((g_7 vals from_ pl.length).map (fun j=>(g_7 vals from_ pl.length).map (fB j)),(g_7 vals from_ pl.length).map (fun j=>(g_7 vals from_ pl.length).map (fD j)))) pl.length (fun i hi=>.inl ?_) ?_ pl.length 0 F (by omega) (by omega)
 ·have h2:iter (a_be F (mkX l n a b e at_ work pl vals fB fD) from_) F (0,((mkX l n a b e at_ work pl vals fB fD).L,(mkX l n a b e at_ work pl vals fB fD).Leaves,(mkX l n a b e at_ work pl vals fB fD).First,(mkX l n a b e at_ work pl vals fB fD).Hops,(mkX l n a b e at_ work pl vals fB fD).Ends,(mkX l n a b e at_ work pl vals fB fD).At,(mkX l n a b e at_ work pl vals fB fD).Work,[],[],([],[])))=_:=this
  rw [h2]
  have em:∀ f:Nat->Nat->Int,(st.map fun j=>st.map (f j))=mat st.length st.length (fun i k=>f (st.getD i 0) (st.getD k 0)):=fun f=>by
   refine ext_getElem (by simp) fun j h1 h2=>?_
   simp only [length_map] at h1
   simp only [mat,getElem_map,getElem_range]
   refine ext_getElem (by simp) fun k h3 h4=>?_
   simp only [length_map] at h3
   simp [h_1,List.getD,h1,h3]
  rw [<-hst,em,em]
  simp only [a_0,mkX,s_9,b_6,length_map,b_7,List.map_map]
  rfl
 ·unfold a_be
  have h1:(i:Int)<((b_7 pl).length:Int):=by simp;omega
  have hv:=C.row _ (mem_of_getElem? (n_3 (l:=vals) (i:=i) (by omega)))
  have hl2:=a_lp vals from_ i
  have hk:=b_j2 (at_:=at_) (work:=work) K C from_ hi
  have hap1:a_8 8 ((g_7 vals from_ i).map (fun j=>((pl.getD j 0:Nat):Int))) [((pl.getD i 0:Nat):Int)]=true:=by simp [a_8];omega
  have hap2:a_8 24 ((g_7 vals from_ i).map (fun j:Nat=>gt vals (j:Int))) [gt vals (i:Int)]=true:=by simp [a_8];omega
  have hap3:a_8 24 ((g_7 vals from_ i).map (fun j=>(g_7 vals from_ pl.length).map (fB j))) [(g_7 vals from_ pl.length).map (fB i)]=true:=by simp [a_8];omega
  have hap4:a_8 24 ((g_7 vals from_ i).map (fun j=>(g_7 vals from_ pl.length).map (fD j))) [(g_7 vals from_ pl.length).map (fD i)]=true:=by simp [a_8];omega
  simp only [hk,nst]
  simp only [mkX,s_9,h1,decide_true,if_true,a_7 (l:=vals) (i:=(i:Int)) (by omega) (by omega),a_7 (l:=gt vals (i:Int)) (i:=0) (by omega) (by omega),h_4 hi,i_5 hi,hap1,hap2,hap3,hap4,a_0,c_3 (i:=i) (by omega)]
  split
  ·rename_i h2
   have h3:¬ decide (gt (gt vals (i:Int)) 0<=from_)=true:=by have:gt (gt vals (i:Int)) 0>from_:=of_decide_eq_true h2;simp;omega
   simp only [h3,if_false];rfl
  ·rename_i h2
   have h3:decide (gt (gt vals (i:Int)) 0<=from_)=true:=by
    have:¬ gt (gt vals (i:Int)) 0>from_:=fun h=>h2 (decide_eq_true h)
    simp;omega
   simp only [h3,if_true];rfl
 ·unfold a_be
  have h1:¬ ((pl.length:Int)<((b_7 pl).length:Int)):=by simp
  simp only [mkX,s_9,h1,decide_false,if_false,false_eq_true]
theorem b_ig (vals:List (List Int)) (from_:Int) (k:Nat):(g_7 vals from_ k).Pairwise fun a b=>a<b:=List.Pairwise.filter _ List.pairwise_lt_range
theorem a_zr {st:List Nat} (h:st.Pairwise fun a b=>a<b) {i k:Nat} (hk:k<st.length) (hik:i<k):st.getD i 0<st.getD k 0:=by
 have:=List.pairwise_iff_getElem.1 h i k (by omega) hk hik
 simpa [List.getD,hk,show i<st.length by omega] using this
theorem b_o1 (C:p_7 l n pl vals fB fD) {st:List Nat} (hs:st.Pairwise fun a b=>a<b) (hlt:∀ i∈st,i<pl.length) :
  p_7 l n (st.map fun i=>pl.getD i 0) (st.map fun i:Nat=>gt vals (i:Int)) (fun i k=>fB (st.getD i 0) (st.getD k 0)) (fun i k=>fD (st.getD i 0) (st.getD k 0)) where
 len:=by simp
 pln p hp:=by
  obtain ⟨i,hi,rfl⟩:=mem_map.1 hp
  exact j_2 C.pln (hlt i hi)
 asc:=by
  rw [List.pairwise_map]
  exact hs.imp_of_mem fun {x y} hx hy hxy=>a_zr C.asc (hlt y hy) hxy
 row v hv:=by
  obtain ⟨i,hi,rfl⟩:=mem_map.1 hv
  exact C.row _ (mem_of_getElem? (n_3 (l:=vals) (i:=i) (by rw [C.len];exact hlt i hi)))
 rk:=by
  have g:∀ i,i<(st.map fun i=>pl.getD i 0).length->i<st.length/\st.getD i 0<pl.length:=fun i hi=>by
   simp only [length_map] at hi
   exact ⟨hi,j_2 hlt hi⟩
  refine ⟨fun i k hi hk=>C.rk.b0 _ _ (g i hi).2 (g k hk).2,fun i hi=>C.rk.bd _ (g i hi).2,fun i hi=>C.rk.dd _ (g i hi).2,fun i k hi hk hne=>C.rk.d1 _ _ (g i hi).2 (g k hk).2 ?_,fun i k hi hk=>C.rk.dn _ _ (g i hi).2 (g k hk).2⟩
  rcases lt_or_ge i k with h | h
  ·have:=a_zr hs (g k hk).1 h;omega
  ·have:=a_zr hs (g i hi).1 (show k<i by omega);omega
end
theorem a_ph {l:List a_2}:∀ {n:Nat} {a:List Int},k_3 l n=some a->∀ j,j<n->∃ b,k_3 l j=some b/\b.length=j/\(∀ i:Nat,i<j->gt a (i:Int)=gt b (i:Int))/\gt a (j:Int)=g_2 l b j/\0<=g_2 l b j
 |0,a,h,j,hj=>by omega
 |
  n+1,a,h,j,hj=>by
  simp only [k_3] at h
  split at h
  ·cases h
  ·rename_i b hb
   split at h
   ·rename_i hg
    cases h
    have hl:=(a_dr hb).len
    simp only [u_2,Bool.and_eq_true,decide_eq_true_eq] at hg
    by_cases e:j=n
    ·subst e
     exact ⟨b,hb,hl,fun i hi=>m_6 (by omega) (by omega),x_9 hl.symm,hg.1.1⟩
    ·obtain ⟨c,h1,h2,h3,h4,h5⟩:=a_ph hb j (by omega)
     exact ⟨c,h1,h2,fun i hi=>by rw [m_6 (by omega) (by omega)];exact h3 i hi,by rw [m_6 (by omega) (by omega)];exact h4,h5⟩
   ·cases h
theorem a_1z {c:Prop} [Decidable c] {v z:Int} (h:0<=if c then v else -1) (e:v=z):(if c then v else -1)=z:=by
 by_cases hc:c
 ·rw [if_pos hc];exact e
 ·rw [if_neg hc] at h;omega
theorem a_8d {c d:Prop} [Decidable c] [Decidable d] {v z:Int} (h:0<=if c then (if d then v else -1) else -1) (e:v=z):(if c then (if d then v else -1) else -1)=z:=by
 by_cases hc:c
 ·rw [if_pos hc] at h ⊢;exact a_1z h e
 ·rw [if_neg hc] at h;omega
theorem b_g3 {l:List a_2}:∀ {s:Tm} {lo n:Nat} {a:List Int},At l lo s->s.top lo<n->k_3 l n=some a->gt a (s.top lo:Int)=lo:=by
 intro s
 induction s with
 |
  eps | leaf s=>
  intro lo n a h hn ha
  obtain ⟨b,h1,h2,h3,h4,h5⟩:=a_ph ha _ hn
  rw [h4]
  have hg:=h.f_6
  unfold g_2
  rw [hg]
  simp [Tm.node,Tm.top,Tm.size]
 |
  cat x y ihx ihy | alt x y ihx ihy=>
  intro lo n a h hn ha
  obtain ⟨b,h1,h2,h3,h4,h5⟩:=a_ph ha _ hn
  have hg:=h.f_6
  obtain ⟨hx,hy,_⟩:=(At.bin rfl rfl).1 h
  have:=x.size_pos;have:=y.size_pos
  rw [h4]
  have i1:=ihx hx (n:=Tm.top _ lo) (a:=b) (by simp only [Tm.top,Tm.size];omega) h1
  unfold g_2 at h5 ⊢
  rw [hg] at h5 ⊢
  simp only [Tm.node] at h5 ⊢
  revert h5
  simp only [show ¬ ((3:Int)=1\/(3:Int)=2) from by omega,show ¬ ((4:Int)=1\/(4:Int)=2) from by omega,if_false,show ((3:Int)=3\/(3:Int)=4) from .inl rfl,show ((4:Int)=3\/(4:Int)=4) from .inr rfl,if_true]
  intro h5
  first | exact a_1z h5 i1 | exact a_8d h5 i1
 |
  star x ihx | maybe x ihx | group _ x ihx | iter x ihx=>
  intro lo n a h hn ha
  obtain ⟨b,h1,h2,h3,h4,h5⟩:=a_ph ha _ hn
  have hg:=h.f_6
  obtain ⟨hx,_⟩:=(At.un rfl rfl).1 h
  have:=x.size_pos
  rw [h4]
  have i1:=ihx hx (n:=Tm.top _ lo) (a:=b) (by simp only [Tm.top,Tm.size];omega) h1
  unfold g_2 at h5 ⊢
  rw [hg] at h5 ⊢
  simp only [Tm.node] at h5 ⊢
  revert h5
  simp
  intro h5
  first | exact a_1z h5 i1 | exact a_8d h5 i1
theorem a_j7 {l:List a_2} (hR:c_0 l=true) {s:Tm} {lo:Nat} (h:At l lo s):gt (i_9 l) (s.top lo:Int)=lo:=by
 have ht:=h.k_6
 unfold c_0 at hR
 unfold i_9 at hR ⊢
 cases e:k_3 l l.length with
 |none=>rw [e] at hR;simp at hR
 |
  some a=>
  rw [e] at hR
  dsimp only at hR ⊢
  split
  ·rename_i hc;rw [if_pos hc] at hR;simp at hR
  ·exact b_g3 h ht e
theorem b_dr {l:List a_2} (hR:c_0 l=true) {s:Tm} {lo:Nat} (h:At l lo s) {q:Nat} (h1:lo<=q) (h2:q<lo+s.size):(lo:Int)<=gt (i_9 l) (q:Int):=by
 obtain ⟨lo',s',h3,h4,h5,_⟩:=h.b_dm q h1 h2
 have:=a_j7 hR h3
 rw [h4] at this
 rw [this];omega
def l_9 (l:List a_2) (a b:Nat) (q:Nat):Bool:=decide (gt (i_9 l) (q:Int)<=(a:Int))&&(decide (a<=q)&&(decide (gt (i_9 l) (q:Int)<=(b:Int))&&decide (b<=q)))
theorem z_6 {l:List a_2} {a b q:Nat}:l_9 l a b q=true↔gt (i_9 l) (q:Int)<=(a:Int)/\a<=q/\gt (i_9 l) (q:Int)<=(b:Int)/\b<=q:=by
 simp [l_9]
def a_kw (b:Nat):List Fr->Nat->Tm->Nat
 |[],lo,s=>s.top lo
 |f :: fs,lo,s=>if lo<=b/\b<=s.top lo then s.top lo else a_kw b fs (lo-f.off) (f.e_8 s)
theorem b_jy {l:List a_2} {t:Tm} (ht:IsT l t) (hR:c_0 l=true) {a b:Nat} (hb:b<l.length):∀ (fs:List Fr) (lo:Nat) (s:Tm),Ctx t lo s fs->lo<=a->a<=s.top lo->(∀ q,lo<=q->q<s.top lo->l_9 l a b q=false)->
  l_9 l a b (a_kw b fs lo s)=true/\(∀ q,q<a_kw b fs lo s->l_9 l a b q=false)/\a_kw b fs lo s<l.length:=by
 intro fs
 induction fs with
 |
  nil=>
  intro lo s hc h1 h2 h3
  obtain ⟨rfl,rfl⟩:=hc
  have hlen:=ht.len;have hp:=s.size_pos
  have hl:=a_j7 hR ht.at0
  simp only [a_kw]
  refine ⟨z_6.2 ⟨by rw [hl];omega,h2,by rw [hl];omega,by unfold Tm.top;omega⟩,fun q hq=>h3 q (zero_le _) hq,by unfold Tm.top;omega⟩
 |
  cons f fs ih=>
  intro lo s hc h1 h2 h3
  have hat:=hc.at_ ht
  have hlo:=a_j7 hR hat
  have htop:=hat.k_6
  simp only [a_kw]
  split
  ·rename_i hin
   refine ⟨z_6.2 ⟨by rw [hlo];omega,h2,by rw [hlo];omega,hin.2⟩,fun q hq=>?_,htop⟩
   by_cases h:lo<=q
   ·exact h3 q h hq
   ·have:¬ l_9 l a b q=true:=fun h'=>by have:=(z_6.1 h').2.1;omega
    simpa using this
  ·rename_i hout
   obtain ⟨hoff,hc2⟩:=hc
   have hat2:=hc2.at_ ht
   have hsp:=s.size_pos
   have inS:∀ q,lo<=q->q<=s.top lo->l_9 l a b q=false:=fun q q1 q2=>by
    have hge:=b_dr hR hat q1 (by unfold Tm.top at q2;omega)
    have:¬ l_9 l a b q=true:=fun h'=>by
     obtain ⟨_,_,p3,p4⟩:=z_6.1 h'
     exact hout ⟨by omega,by omega⟩
    simpa using this
   have hlt:∀ q,q<lo->l_9 l a b q=false:=fun q q1=>by
    have:¬ l_9 l a b q=true:=fun h'=>by have:=(z_6.1 h').2.1;omega
    simpa using this
   have hgt:∀ (y:Tm),At l (lo+s.size) y->∀ q,lo+s.size<=q->q<lo+s.size+y.size->l_9 l a b q=false:=fun y hy q q1 q2=>by
    have hge:=b_dr hR hy q1 q2
    have:¬ l_9 l a b q=true:=fun h'=>by
     have:=(z_6.1 h').1
     unfold Tm.top at h2;omega
    simpa using this
   have all:∀ q,lo-f.off<=q->q<(f.e_8 s).top (lo-f.off)->l_9 l a b q=false:=fun q q1 q2=>by
    rcases lt_or_ge q lo with c | c
    ·exact hlt q c
    ·rcases lt_or_ge (s.top lo) q with c2 | c2
     ·cases f<;>simp only [Fr.e_8,Fr.off,Nat.sub_zero,Tm.top,Tm.size] at q1 q2 c2 hat2 hoff
      case catL y=>exact hgt y ((At.bin rfl rfl).1 hat2).2.1 q (by omega) (by omega)
      case altL y=>exact hgt y ((At.bin rfl rfl).1 hat2).2.1 q (by omega) (by omega)
      all_goals omega
     ·exact inS q c c2
   refine ih _ _ hc2 (by omega) ?_ all
   cases f<;>simp only [Fr.e_8,Fr.off,Nat.sub_zero,Tm.top,Tm.size] at h2 hoff ⊢<;>omega
def h_7 (l:List a_2) (a b:Nat):Nat:=((List.range l.length).find? (l_9 l a b)).getD 0
theorem b_gr {P:Nat->Bool} {n k:Nat} (hk:k<n) (h:P k=true) (hf:∀ q,q<k->P q=false):(List.range n).find? P=some k:=by
 rw [List.find?_eq_some_iff_append]
 refine ⟨h,List.range k,(List.range (n-k-1)).map (k+1+·),?_,fun q hq=>by simp [hf q (mem_range.1 hq)]⟩
 refine ext_getElem (by simp;omega) fun i h1 h2=>?_
 simp only [List.length_range] at h1
 simp only [getElem_range]
 rcases Nat.lt_trichotomy i k with c | c | c
 ·rw [List.getElem_append_left (by simpa using c)];simp
 ·subst c;rw [List.getElem_append_right (by simp)];simp
 ·rw [List.getElem_append_right (by simp;omega)]
  simp only [List.length_range]
  rw [List.getElem_cons]
  rw [dif_neg (by omega)]
  simp;omega
theorem b_ls {l:List a_2} {a b k:Nat} (hk:k<l.length) (h:l_9 l a b k=true) (hf:∀ q,q<k->l_9 l a b q=false):h_7 l a b=k:=by
 unfold h_7;rw [b_gr hk h hf];rfl
theorem a_1k (l:List a_2) (a b:Nat):h_7 l a b=h_7 l b a:=by
 have:l_9 l a b=l_9 l b a:=funext fun q=>by
  unfold l_9
  cases decide (gt (i_9 l) (q:Int)<=(a:Int))<;>cases decide (a<=q)<;>cases decide (gt (i_9 l) (q:Int)<=(b:Int))<;>cases decide (b<=q)<;>rfl
 unfold h_7;rw [this]
theorem b_ha {l:List a_2} {t:Tm} (ht:IsT l t) {q:Nat} (hq:q<l.length):∃ lo s fs,Ctx t lo s fs/\s.top lo=q:=by
 have h0:Ctx t 0 t []:=⟨rfl,rfl⟩
 exact h0.down q (zero_le _) (by have:=ht.len;omega)
theorem a_o8 {l:List a_2} (hw:∀ x∈l,d_6 x) (hR:c_0 l=true) {a b:Nat} (ha:a<l.length) (hb:b<l.length):h_7 l a b<l.length/\l_9 l a b (h_7 l a b)=true/\∀ q,q<h_7 l a b->l_9 l a b q=false:=by
 obtain ⟨t,ht⟩:=a_a5 hw hR
 obtain ⟨lo,s,fs,hc,hs⟩:=b_ha ht ha
 have hat0:=ht.at0
 have hlen:=ht.len;have hp:=t.size_pos
 have hl:=a_j7 hR hat0
 have hroot:l_9 l a b (l.length-1)=true:=z_6.2 ⟨by rw [show l.length-1=t.top 0 from by unfold Tm.top;omega,hl];omega,by omega,by rw [show l.length-1=t.top 0 from by unfold Tm.top;omega,hl];omega,by omega⟩
 cases e:(List.range l.length).find? (l_9 l a b) with
 |
  none=>
  rw [List.find?_eq_none] at e
  exact absurd hroot (e _ (by simp;omega))
 |
  some k=>
  have hk:=mem_range.1 (List.mem_of_find?_eq_some e)
  have h1:=List.find?_some e
  have:h_7 l a b=k:=by unfold h_7;rw [e];rfl
  rw [this]
  refine ⟨hk,h1,fun q hq=>?_⟩
  rw [List.find?_eq_some_iff_append] at e
  obtain ⟨_,as_,bs_,e1,e2⟩:=e
  have hql:q<as_.length:=by
   have e3:(List.range l.length)[as_.length]?=some k:=by rw [e1];simp
   have e4:as_.length<l.length:=by
    have:=congrArg List.length e1;simp at this;omega
   rw [List.getElem?_range e4] at e3
   cases e3;exact hq
  have e5:as_[q]?=some q:=by
   have:(List.range l.length)[q]?=some q:=List.getElem?_range (by omega)
   rw [e1,List.getElem?_append_left hql] at this
   exact this
  have:=e2 q (mem_of_getElem? e5)
  simpa using this
theorem a_4c {d d':List Int}:∀ {s:Tm} {lo k:Nat},u_4 d lo k s->u_4 d' lo k s->∀ j:Nat,lo<=j->j<=s.top lo->gt d (j:Int)=gt d' (j:Int)/\(k:Int)<=gt d (j:Int)/\gt d (j:Int)<k+s.size:=by
 intro s
 induction s with
 |
  eps | leaf s=>
  intro lo k h h' j j1 j2
  have:j=lo:=by simp only [Tm.top,Tm.size] at j2;omega
  subst this
  simp only [u_4] at h h'
  simp only [Tm.size];omega
 |
  cat a b iha ihb | alt a b iha ihb=>
  intro lo k h h' j j1 j2
  obtain ⟨p1,p2,p3⟩:=h
  obtain ⟨q1,q2,q3⟩:=h'
  have:=a.size_pos;have:=b.size_pos
  simp only [Tm.top,Tm.size] at p1 q1 j2 ⊢
  rcases lt_or_ge j (lo+a.size) with c | c
  ·have:=iha p2 q2 j j1 (by unfold Tm.top;omega);omega
  ·rcases lt_or_ge j (lo+a.size+b.size) with c2 | c2
   ·have:=ihb p3 q3 j c (by unfold Tm.top;omega);omega
   ·have:j=lo+(a.size+b.size+1)-1:=by omega
    subst this;omega
 |
  star a iha | maybe a iha | group _ a iha | iter a iha=>
  intro lo k h h' j j1 j2
  obtain ⟨p1,p2⟩:=h
  obtain ⟨q1,q2⟩:=h'
  have:=a.size_pos
  simp only [Tm.top,Tm.size] at p1 q1 j2 ⊢
  rcases lt_or_ge j (lo+a.size) with c | c
  ·have:=iha p2 q2 j j1 (by unfold Tm.top;omega);omega
  ·have:j=lo+(a.size+1)-1:=by omega
   subst this;omega
theorem a_zy {d d':List Int} {t:Tm} (h:a_ha d t) (h':a_ha d' t):d=d':=by
 have hp:=t.size_pos
 refine ext_getElem (by rw [h.len,h'.len]) fun j h1 h2=>?_
 have e:=(a_4c h.deep h'.deep j (zero_le _) (by have:=h.len;unfold Tm.top;omega)).1
 rwa [d_4 (x:=d[j]) (by simp [h1]),d_4 (x:=d'[j]) (by simp [h2])] at e
def a_az (l:List a_2):List Int:=(Old.m_4 402 l).getD []
theorem a_zd {l:List a_2} {t:Tm} (ht:IsT l t) (hR:c_0 l=true):a_ha (a_az l) t:=by
 obtain ⟨d,h1,h2⟩:=Old.a_06 ht hR (show 401<402 by omega)
 unfold a_az;rw [h1];exact h2
theorem a_lc {l:List a_2} (hw:∀ x∈l,d_6 x) (hR:c_0 l=true):(a_az l).length=l.length/\∀ q:Nat,q<l.length->1<=gt (a_az l) (q:Int)/\gt (a_az l) (q:Int)<=400:=by
 obtain ⟨t,ht⟩:=a_a5 hw hR
 have h:=a_zd ht hR
 have h400:=ht.le;have hlen:=ht.len;have hp:=t.size_pos
 refine ⟨by rw [h.len,hlen],fun q hq=>?_⟩
 have:=(a_4c h.deep h.deep q (zero_le _) (by unfold Tm.top;omega)).2
 omega
theorem b_p0 {l:List a_2} (hw:∀ x∈l,d_6 x) (hR:c_0 l=true) {F:Nat} (hf:401<F):m_4 F l=some (a_az l):=by
 obtain ⟨t,ht⟩:=a_a5 hw hR
 obtain ⟨d,h1,h2⟩:=Old.a_06 ht hR hf
 rw [a_zy h2 (a_zd ht hR)] at h1
 exact eqOf b_g0 h1
theorem b_o5 {l:List a_2} (hw:∀ x∈l,d_6 x) (hR:c_0 l=true) {F:Nat} (hf:401<F):l_8 F l=some (a_az l):=by
 obtain ⟨t,ht⟩:=a_a5 hw hR
 obtain ⟨d,h1,h2⟩:=Old.b_g4 ht hR hf
 rw [a_zy h2 (a_zd ht hR)] at h1
 exact eqOf b_cm h1
