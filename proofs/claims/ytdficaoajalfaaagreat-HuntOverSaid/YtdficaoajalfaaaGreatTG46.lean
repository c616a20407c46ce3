/- Ranks: the program and the document tell the same. Which run is ahead: the program and the document tell the same. The pick among runs that come to one place: the program and the document tell the same. Tags behind marks: the program and the document tell the same. Its conditions: none. -/
import Derived.Test.YtdficaoajalfaaaGreatTG45
open Bool (false_eq_true)
open List (ext_getElem getElem_map getElem_range getElem_mem take_length)
open Int (toNat_natCast)
set_option linter.all false
namespace Go.Proofs.YtdficaoajalfaaaGreat
open Go.V Go.RowKit Old
def h_1 (n:Nat) (f:Nat->Int):List Int:=(List.range n).map f
def mat (m n:Nat) (f:Nat->Nat->Int):List (List Int):=(List.range m).map fun i=>h_1 n (f i)
def b_6 (n:Nat) (fB fD:Nat->Nat->Int):b_9:=⟨mat n n fB,mat n n fD⟩
@[simp] theorem a_op (n:Nat) (f:Nat->Int):(h_1 n f).length=n:=by simp [h_1]
@[simp] theorem a_v9 (m n:Nat) (f:Nat->Nat->Int):(mat m n f).length=m:=by simp [mat]
theorem r_2 {n i:Nat} (f:Nat->Int) (h:i<n):gt (h_1 n f) (i:Int)=f i:=d_4 (by simp [h_1,h])
theorem j_7 {m n i:Nat} (f:Nat->Nat->Int) (h:i<m):gt (mat m n f) (i:Int)=h_1 n (f i):=d_4 (by simp [mat,h])
theorem h_9 {n i:Nat} (f:Nat->Int) (h:i<n):inb (h_1 n f) (i:Int)=true:=a_7 (by omega) (by simp;omega)
theorem i_3 {m n i:Nat} (f:Nat->Nat->Int) (h:i<m):inb (mat m n f) (i:Int)=true:=a_7 (by omega) (by simp;omega)
theorem c_3 {i:Nat} (h:i<=1000000000):W ((i:Int)+1)=((i+1:Nat):Int):=by rw [f_2 (by omega) (by omega)];omega
structure t_4 (n:Nat) (fB fD:Nat->Nat->Int):Prop where
 b0:∀ i k,i<n->k<n->0<=fB i k
 bd:∀ i,i<n->fB i i=0
 dd:∀ i,i<n->fD i i=0
 d1:∀ i k,i<n->k<n->i≠k->fD i k=1\/fD i k=-1
 dn:∀ i k,i<n->k<n->fD k i=- fD i k
section
variable {F n:Nat} {fB fD:Nat->Nat->Int}
theorem b_k8 (hn:n<=1000) (hf:2000<F) (f:Nat->Nat->Int):a_d2 F (mat n n f) (n:Int)=some true:=by
 unfold a_d2
 have:=c_2 (step:=a_am F (mat n n f) (n:Int)) (fun i=>(i:Int)) (.inr ()) n (fun i hi=>.inl ?_) ?_ n 0 F (by omega) (by omega)
 ·have h2:iter (a_am F (mat n n f) (n:Int)) F 0=_:=this
  rw [h2];simp [a_0]
 ·unfold a_am
  have h1:(i:Int)<((mat n n f).length:Int):=by simp;omega
  simp only [h1,decide_true,if_true,i_3 f hi,j_7 f hi,a_op,bne_self_eq_false,false_eq_true,if_false,c_3 (i:=i) (by omega)]
 ·unfold a_am
  have h1:¬ ((n:Int)<((mat n n f).length:Int)):=by simp
  simp only [h1,decide_false,if_false,false_eq_true]
theorem b_i6 (hn:n<=1000) (hf:2000<F) (h:t_4 n fB fD):a_ia F (b_6 n fB fD) (n:Int)=some true:=by
 unfold a_ia b_6
 simp only [b_k8 hn hf,a_0,Bool.not_true,false_eq_true,if_false]
 have:=c_2 (step:=a_bv F ⟨mat n n fB,mat n n fD⟩ (n:Int)) (fun i=>(i:Int)) (.inr ()) n (fun i hi=>.inl ?_) ?_ n 0 F (by omega) (by omega)
 ·have h2:iter (a_bv F ⟨mat n n fB,mat n n fD⟩ (n:Int)) F 0=_:=this
  rw [h2];rfl
 ·have hin:=c_2 (step:=a_bm F ⟨mat n n fB,mat n n fD⟩ (n:Int) (i:Int)) (fun k=>(k:Int)) (.inr ()) n (fun k hk=>.inl ?_) ?_ n 0 F (by omega) (by omega)
  ·have h2:iter (a_bm F ⟨mat n n fB,mat n n fD⟩ (n:Int) (i:Int)) F 0=_:=hin
   unfold a_bv
   have h1:(i:Int)<(n:Int):=by omega
   simp only [h1,decide_true,if_true,i_3 _ hi,j_7 _ hi,h_9 _ hi,r_2 _ hi,h.bd i hi,h.dd i hi,bne_self_eq_false,false_eq_true,if_false,a_0,h2,c_3 (i:=i) (by omega)]
  ·unfold a_bm
   have h1:(k:Int)<(n:Int):=by omega
   have hb:¬ fB i k<0:=by have:=h.b0 i k hi hk;omega
   have hd:=h.dn i k hi hk
   have hW:W (0-fD i k)=- fD i k:=by
    by_cases e:i=k
    ·subst e;rw [h.dd i hi];rfl
    ·rcases h.d1 i k hi hk e with e | e<;>rw [e]<;>rfl
   simp only [h1,decide_true,if_true,i_3 _ hi,i_3 _ hk,j_7 _ hi,j_7 _ hk,h_9 _ hi,h_9 _ hk,r_2 _ hi,r_2 _ hk,hb,decide_false,false_eq_true,if_false,i_2,hd,hW,bne_self_eq_false,c_3 (i:=k) (by omega)]
   by_cases e:i=k
   ·subst e;simp [a_0]
   ·have hne:((i:Int) != (k:Int))=true:=by simp;omega
    rcases h.d1 i k hi hk e with e2 | e2<;>simp [hne,e2,a_0]
  ·unfold a_bm
   have h1:¬ ((n:Int)<(n:Int)):=by omega
   simp only [h1,decide_false,if_false,false_eq_true]
 ·unfold a_bv
  have h1:¬ ((n:Int)<(n:Int)):=by omega
  simp only [h1,decide_false,if_false,false_eq_true]
theorem a_wk (hn:n<=1000) (hf:2000<F) (h:t_4 n fB fD):a_ai F (b_6 n fB fD)=some true:=by
 unfold a_ai
 rw [i_2,show ((b_6 n fB fD).B.length:Int)=(n:Int) from by simp [b_6],b_i6 hn hf h]
theorem a_fn (hn:n<=1000) (hf:2000<F) (h:t_4 n fB fD):y_3 F (b_6 n fB fD) (n:Int)=some true:=by
 unfold y_3 b_6
 simp only [a_v9,bne_self_eq_false,false_eq_true,if_false,a_0]
 have:=c_2 (step:=a_aq F ⟨mat n n fB,mat n n fD⟩ (n:Int)) (fun i=>(i:Int)) (.inr ()) n (fun i hi=>.inl ?_) ?_ n 0 F (by omega) (by omega)
 ·have h2:iter (a_aq F ⟨mat n n fB,mat n n fD⟩ (n:Int)) F 0=_:=this
  rw [h2]
  simp only [a_0]
  have:=c_2 (step:=a_as F ⟨mat n n fB,mat n n fD⟩ (n:Int)) (fun i=>(i:Int)) (.inr ()) n (fun i hi=>.inl ?_) ?_ n 0 F (by omega) (by omega)
  ·have h2:iter (a_as F ⟨mat n n fB,mat n n fD⟩ (n:Int)) F 0=_:=this
   rw [h2];rfl
  ·have hin:=c_2 (step:=z_1 F ⟨mat n n fB,mat n n fD⟩ (n:Int) (i:Int)) (fun k=>(k:Int)) (.inr ()) n (fun k hk=>.inl ?_) ?_ n 0 F (by omega) (by omega)
   ·have h2:iter (z_1 F ⟨mat n n fB,mat n n fD⟩ (n:Int) (i:Int)) F 0=_:=hin
    unfold a_as
    have h1:(i:Int)<(n:Int):=by omega
    simp only [h1,decide_true,if_true,h2,a_0,c_3 (i:=i) (by omega)]
   ·unfold z_1
    have h1:(k:Int)<(n:Int):=by omega
    have hb:¬ fB i k<0:=by have:=h.b0 i k hi hk;omega
    have hd:=h.dn i k hi hk
    have hW:W (0-fD i k)=- fD i k:=by
     by_cases e:i=k
     ·subst e;rw [h.dd i hi];rfl
     ·rcases h.d1 i k hi hk e with e | e<;>rw [e]<;>rfl
    simp only [h1,decide_true,if_true,i_3 _ hi,i_3 _ hk,j_7 _ hi,j_7 _ hk,h_9 _ hi,h_9 _ hk,r_2 _ hi,r_2 _ hk,hb,decide_false,false_eq_true,if_false,i_2,hd,hW,bne_self_eq_false,c_3 (i:=k) (by omega)]
    by_cases e:i=k
    ·subst e;simp [a_0,h.bd i hi,h.dd i hi]
    ·have hne:((i:Int) != (k:Int))=true:=by simp;omega
     have hne':((i:Int)==(k:Int))=false:=by simp;omega
     rcases h.d1 i k hi hk e with e2 | e2<;>simp [hne,hne',e2,a_0]
   ·unfold z_1
    have h1:¬ ((n:Int)<(n:Int)):=by omega
    simp only [h1,decide_false,if_false,false_eq_true]
  ·unfold a_as
   have h1:¬ ((n:Int)<(n:Int)):=by omega
   simp only [h1,decide_false,if_false,false_eq_true]
 ·unfold a_aq
  have h1:(i:Int)<(n:Int):=by omega
  simp only [h1,decide_true,if_true,i_3 _ hi,j_7 _ hi,a_op,bne_self_eq_false,false_eq_true,if_false,a_0,c_3 (i:=i) (by omega)]
 ·unfold a_aq
  have h1:¬ ((n:Int)<(n:Int)):=by omega
  simp only [h1,decide_false,if_false,false_eq_true]
end
theorem b_gj {n:Nat} {f g:Nat->Int} (h:∀ k,k<n->f k=g k):h_1 n f=h_1 n g:=List.map_congr_left fun k hk=>h k (List.mem_range.1 hk)
theorem j_9 {m n:Nat} {f g:Nat->Nat->Int} (h:∀ i k,i<m->k<n->f i k=g i k):mat m n f=mat m n g:=
 List.map_congr_left fun i hi=>b_gj fun k hk=>h i k (List.mem_range.1 hi) hk
theorem a_kb {n k:Nat} {f:Nat->Int} {v:Int}:(h_1 n f).set k v=h_1 n fun j=>if j=k then v else f j:=by
 refine ext_getElem (by simp) fun i h1 h2=>?_
 simp only [h_1,List.getElem_set,getElem_map,getElem_range]
 by_cases e:k=i
 ·simp [e]
 ·rw [if_neg e,if_neg (fun h=>e h.symm)]
theorem a_nh {m n i:Nat} {f:Nat->Nat->Int} {g:Nat->Int}:(mat m n f).set i (h_1 n g)=mat m n fun a=>if a=i then g else f a:=by
 refine ext_getElem (by simp) fun j h1 h2=>?_
 simp only [mat,List.getElem_set,getElem_map,getElem_range]
 by_cases e:i=j
 ·simp [e]
 ·rw [if_neg e,if_neg (fun h=>e h.symm)]
theorem a_4h (n:Nat):List.replicate n (0:Int)=h_1 n fun _=>0:=by
 refine ext_getElem (by simp) fun i h1 h2=>?_
 simp [h_1]
theorem b_kv (m n:Nat):List.replicate m (h_1 n fun _=>0)=mat m n fun _ _=>0:=by
 refine ext_getElem (by simp) fun i h1 h2=>?_
 simp [mat]
section
variable {F n:Nat} {fB fD:Nat->Nat->Int}
theorem b_c5 (hn:n<=1000) (hf:2000<F):a_ar F (n:Int)=some (mat n n fun _ _=>0):=by
 unfold a_ar
 have hm1:g_3 24 (n:Int)=true:=by simp [g_3];omega
 have hm2:g_3 8 (n:Int)=true:=by simp [g_3];omega
 simp only [hm1,if_true,toNat_natCast,List.length_replicate,i_2]
 have:=c_2 (step:=a_ei F (n:Int) (n:Int)) (fun i=>((i:Int),List.replicate i (h_1 n fun _=>0)++List.replicate (n-i) ([]:List Int))) (mat n n fun _ _=>0) n (fun i hi=>.inl ?_) ?_ n 0 F (by omega) (by omega)
 ·exact this
 ·unfold a_ei
  have h1:(i:Int)<(n:Int):=by omega
  have hin:inb (List.replicate i (h_1 n fun _=>0)++List.replicate (n-i) ([]:List Int)) (i:Int)=true:=a_7 (by omega) (by simp;omega)
  have hset:(List.replicate i (h_1 n fun _=>0)++List.replicate (n-i) ([]:List Int)).set i (h_1 n fun _=>0)=List.replicate (i+1) (h_1 n fun _=>0)++List.replicate (n-(i+1)) ([]:List Int):=by
   rw [List.set_append_right _ _ (by simp),List.length_replicate,Nat.sub_self,show n-i=(n-(i+1))+1 from by omega,List.replicate_succ,List.set_cons_zero,List.replicate_succ' (n:=i),List.append_assoc]
   rfl
  simp only [h1,decide_true,if_true,hm2,hin,toNat_natCast,a_4h,hset,c_3 (i:=i) (by omega)]
 ·unfold a_ei
  have h1:¬ ((n:Int)<(n:Int)):=by omega
  simp only [h1,decide_false,if_false,false_eq_true,Nat.sub_self,List.replicate_zero,List.append_nil,b_kv]
def a_pi (n:Nat) (fB:Nat->Nat->Int) (i k:Nat):Int:=if i<n/\k<n then fB i k else 0
def a_mr (n:Nat) (fD:Nat->Nat->Int) (i k:Nat):Int:=if i<n/\k<n then fD i k else if i<n/\k=n then 1 else if i=n/\k<n then -1 else 0
theorem b_n6 (h:t_4 n fB fD):t_4 (n+1) (a_pi n fB) (a_mr n fD) where
 b0 i k hi hk:=by unfold a_pi;split;exact h.b0 i k (by omega) (by omega);omega
 bd i hi:=by unfold a_pi;split;exact h.bd i (by omega);rfl
 dd i hi:=by
  unfold a_mr;split
  ·exact h.dd i (by omega)
  ·rw [if_neg (by omega),if_neg (by omega)]
 d1 i k hi hk hne:=by
  unfold a_mr
  by_cases h1:i<n/\k<n
  ·rw [if_pos h1];exact h.d1 i k h1.1 h1.2 hne
  ·rw [if_neg h1]
   by_cases h2:i<n/\k=n
   ·rw [if_pos h2];exact .inl rfl
   ·rw [if_neg h2,if_pos (by omega)];exact .inr rfl
 dn i k hi hk:=by
  unfold a_mr
  by_cases h1:i<n/\k<n
  ·rw [if_pos h1,if_pos ⟨h1.2,h1.1⟩];exact h.dn i k h1.1 h1.2
  ·rw [if_neg h1,if_neg (fun h=>h1 ⟨h.2,h.1⟩)]
   by_cases h2:i<n/\k=n
   ·rw [if_pos h2,if_neg (by omega),if_pos ⟨h2.2,h2.1⟩]
   ·rw [if_neg h2]
    by_cases h3:i=n/\k<n
    ·rw [if_pos h3,if_pos ⟨h3.2,h3.1⟩];rfl
    ·rw [if_neg h3,if_neg (fun h=>h3 ⟨h.2,h.1⟩),if_neg (fun h=>h2 ⟨h.2,h.1⟩)];rfl
theorem b_jk {m:Nat} (hm:n<=m) (f g:Nat->Int):i_1 (h_1 m f) (h_1 n g)=h_1 m fun k=>if k<n then g k else f k:=by
 unfold i_1
 rw [a_op,a_op,List.take_of_length_le (by simp;exact hm)]
 refine ext_getElem (by simp;omega) fun i h1 h2=>?_
 simp only [a_op] at h2
 by_cases e:i<n
 ·rw [List.getElem_append_left (by simpa using e)]
  simp [h_1,e]
 ·rw [List.getElem_append_right (by simp;omega)]
  simp only [h_1,List.getElem_drop,List.length_map,List.length_range,getElem_map,getElem_range,if_neg e]
  congr 1;omega
def sB (n:Nat) (fB:Nat->Nat->Int) (i a k:Nat):Int:=if a<i/\k<n then fB a k else 0
def sD (n:Nat) (fD:Nat->Nat->Int) (i a k:Nat):Int:=if a<i/\k<n then fD a k else if a<i/\k=n then 1 else if a=n/\k<i then -1 else 0
theorem b_pq (hn:n<=900) (hf:2000<F) (h:t_4 n fB fD):a_g2 F (b_6 n fB fD)=some (b_6 (n+1) (a_pi n fB) (a_mr n fD)):=by
 unfold a_g2
 rw [a_wk (by omega) hf h]
 have hlen:((b_6 n fB fD).B.length:Int)=(n:Int):=by simp [b_6]
 simp only [a_0,Bool.not_true,false_eq_true,if_false,hlen,c_3 (i:=n) (by omega),b_c5 (n:=n+1) (F:=F) (by omega) hf]
 have:=c_2 (step:=a_db F (b_6 n fB fD)) (fun i=>((i:Int),mat (n+1) (n+1) (sB n fB i),mat (n+1) (n+1) (sD n fD i))) (mat (n+1) (n+1) (a_pi n fB),mat (n+1) (n+1) (a_mr n fD)) n (fun i hi=>.inl ?_) ?_ n 0 F (by omega) (by omega)
 ·have e1:mat (n+1) (n+1) (sB n fB 0)=mat (n+1) (n+1) fun _ _=>0:=j_9 fun i k _ _=>by unfold sB;rw [if_neg (by omega)]
  have e2:mat (n+1) (n+1) (sD n fD 0)=mat (n+1) (n+1) fun _ _=>0:=j_9 fun i k _ _=>by unfold sD;rw [if_neg (by omega),if_neg (by omega),if_neg (by omega)]
  rw [e1,e2] at this
  have h2:iter (a_db F (b_6 n fB fD)) F (0,mat (n+1) (n+1) (fun _ _=>0),mat (n+1) (n+1) fun _ _=>0)=_:=this
  rw [h2];rfl
 ·unfold a_db
  have h1:(i:Int)<(n:Int):=by omega
  have hi1:i<n+1:=by omega
  have hn1:n<n+1:=by omega
  simp only [hlen,h1,decide_true,if_true]
  simp only [b_6,i_3 _ hi,i_3 _ hi1,j_7 _ hi,j_7 _ hi1,if_true,b_jk (show n<=n+1 by omega),toNat_natCast,a_nh,i_3 _ hn1,h_9 _ hn1,j_7 _ hn1,a_kb,h_9 _ hi1,c_3 (i:=i) (by omega)]
  congr 1;congr 1;congr 1
  congr 1
  ·refine j_9 fun a k ha hk=>?_
   unfold sB
   by_cases e:a=i
   ·subst e
    simp only [if_true]
    by_cases e2:k<n
    ·simp [e2]
    ·simp [e2]
   ·simp only [e,if_false]
    by_cases e2:a<i/\k<n
    ·rw [if_pos e2,if_pos (by omega)]
    ·rw [if_neg e2,if_neg (by omega)]
  ·refine j_9 fun a k ha hk=>?_
   have hni:¬ n=i:=by omega
   unfold sD
   by_cases e:a=n
   ·subst e
    simp only [if_true,hni,if_false]
    by_cases e3:k=i
    ·subst e3;simp;omega
    ·simp only [e3,if_false]
     rw [if_neg (by omega),if_neg (by omega),if_neg (show ¬ (a<i+1/\k<a) by omega),if_neg (show ¬ (a<i+1/\k=a) by omega)]
     by_cases e4:k<i
     ·rw [if_pos ⟨trivial,e4⟩,if_pos ⟨trivial,by omega⟩]
     ·rw [if_neg (fun h=>e4 h.2),if_neg (by omega)]
   ·by_cases e2:a=i
    ·subst e2
     simp only [hni,if_false,if_true,e]
     by_cases e3:k=n
     ·subst e3;simp
     ·have:k<n:=by omega
      simp [e3,this]
    ·simp only [e,e2,if_false]
     by_cases e3:a<i/\k<n
     ·rw [if_pos e3,if_pos (by omega)]
     ·rw [if_neg e3,if_neg (show ¬ (a<i+1/\k<n) by omega)]
      by_cases e4:a<i/\k=n
      ·rw [if_pos e4,if_pos (by omega)]
      ·rw [if_neg e4,if_neg (show ¬ (a<i+1/\k=n) by omega),if_neg (fun h=>h.1),if_neg (fun h=>h.1)]
 ·unfold a_db
  have h1:¬ ((n:Int)<(n:Int)):=by omega
  simp only [hlen,h1,decide_false,if_false,false_eq_true]
  congr 1
theorem b_dn (hn:n<=1000) (hf:2000<F):a_es F (n:Int)=some (mat n n fun _ _=>0,mat n n fun _ _=>0):=by
 unfold a_es
 have:=c_2 (step:=a_bg F (n:Int)) (fun i=>((i:Int),(mat i n fun _ _=>0,mat i n fun _ _=>0))) (mat n n fun _ _=>0,mat n n fun _ _=>0) n (fun i hi=>.inl ?_) ?_ n 0 F (by omega) (by omega)
 ·have h2:iter (a_bg F (n:Int)) F (0,([],[]))=_:=this
  rw [h2];rfl
 ·unfold a_bg
  have h1:(i:Int)<(n:Int):=by omega
  have hm:g_3 8 (n:Int)=true:=by simp [g_3];omega
  have hap:a_8 24 (mat i n fun _ _=>0) [h_1 n fun _=>0]=true:=by simp [a_8];omega
  have hs:mat (i+1) n (fun _ _=>0)=mat i n (fun _ _=>0)++[h_1 n fun _=>0]:=a_so _ i
  simp only [h1,decide_true,if_true,hm,toNat_natCast,a_4h,hap,hs,c_3 (i:=i) (by omega)]
 ·unfold a_bg
  have h1:¬ ((n:Int)<(n:Int)):=by omega
  simp only [h1,decide_false,if_false,false_eq_true]
def inB (f:Nat->Nat->Int) (g:Nat->Nat->Int) (i k a j:Nat):Int:=if a=i/\j<k then f a j else g a j
theorem b_ot (hn:n<=900) (hf:2000<F) {i:Nat} (hi:i<n) (f g:Nat->Nat->Int):iter (a_br F (b_6 n fB fD) (i:Int)) F (0,mat (n+1) (n+1) f,mat (n+1) (n+1) g)=some (mat (n+1) (n+1) (inB fB f i n),mat (n+1) (n+1) (inB fD g i n)):=by
 have hlen:((b_6 n fB fD).B.length:Int)=(n:Int):=by simp [b_6]
 have hi1:i<n+1:=by omega
 have:=c_2 (step:=a_br F (b_6 n fB fD) (i:Int)) (fun k=>((k:Int),mat (n+1) (n+1) (inB fB f i k),mat (n+1) (n+1) (inB fD g i k))) (mat (n+1) (n+1) (inB fB f i n),mat (n+1) (n+1) (inB fD g i n)) n (fun k hk=>.inl ?_) ?_ n 0 F (by omega) (by omega)
 ·have e:∀ (u v:Nat->Nat->Int),mat (n+1) (n+1) (inB u v i 0)=mat (n+1) (n+1) v:=fun u v=>j_9 fun a j _ _=>by unfold inB;rw [if_neg (by omega)]
  rw [e,e] at this
  exact this
 ·unfold a_br
  have h1:(k:Int)<(n:Int):=by omega
  have hk1:k<n+1:=by omega
  have e:∀ (u v:Nat->Nat->Int),mat (n+1) (n+1) (fun a=>if a=i then (fun j=>if j=k then u i k else inB u v i k i j) else inB u v i k a)=mat (n+1) (n+1) (inB u v i (k+1)):=fun u v=>j_9 fun a j _ _=>by
   unfold inB
   by_cases h2:a=i
   ·subst h2
    simp only [if_true,true_and]
    by_cases h3:j=k
    ·subst h3;simp
    ·simp only [h3,if_false]
     by_cases h4:j<k
     ·rw [if_pos h4,if_pos (by omega)]
     ·rw [if_neg h4,if_neg (by omega)]
   ·simp [h2]
  simp only [hlen,h1,decide_true,if_true]
  simp only [b_6,i_3 _ hi,i_3 _ hi1,j_7 _ hi,j_7 _ hi1,h_9 _ hk,h_9 _ hk1,r_2 _ hk,if_true,toNat_natCast,a_kb,a_nh,e,c_3 (i:=k) (by omega)]
 ·unfold a_br
  have h1:¬ ((n:Int)<(n:Int)):=by omega
  simp only [hlen,h1,decide_false,if_false,false_eq_true]
theorem b_os (hn:n<=900) (hf:2000<F) (h:t_4 n fB fD):a_fc F (b_6 n fB fD)=some (b_6 (n+1) (a_pi n fB) (a_mr n fD)):=by
 unfold a_fc
 have hlen:((b_6 n fB fD).B.length:Int)=(n:Int):=by simp [b_6]
 rw [hlen,a_fn (by omega) hf h]
 simp only [a_0,Bool.not_true,false_eq_true,if_false,c_3 (i:=n) (by omega),b_dn (n:=n+1) (F:=F) (by omega) hf]
 have:=c_2 (step:=a_b6 F (b_6 n fB fD)) (fun i=>((i:Int),mat (n+1) (n+1) (sB n fB i),mat (n+1) (n+1) (sD n fD i))) (mat (n+1) (n+1) (a_pi n fB),mat (n+1) (n+1) (a_mr n fD)) n (fun i hi=>.inl ?_) ?_ n 0 F (by omega) (by omega)
 ·have e1:mat (n+1) (n+1) (sB n fB 0)=mat (n+1) (n+1) fun _ _=>0:=j_9 fun i k _ _=>by unfold sB;rw [if_neg (by omega)]
  have e2:mat (n+1) (n+1) (sD n fD 0)=mat (n+1) (n+1) fun _ _=>0:=j_9 fun i k _ _=>by unfold sD;rw [if_neg (by omega),if_neg (by omega),if_neg (by omega)]
  rw [e1,e2] at this
  have h2:iter (a_b6 F (b_6 n fB fD)) F (0,mat (n+1) (n+1) (fun _ _=>0),mat (n+1) (n+1) fun _ _=>0)=_:=this
  rw [h2];rfl
 ·unfold a_b6
  have h1:(i:Int)<(n:Int):=by omega
  have hi1:i<n+1:=by omega
  have hn1:n<n+1:=by omega
  simp only [hlen,h1,decide_true,if_true,b_ot hn hf hi,a_0]
  simp only [i_3 _ hi1,j_7 _ hi1,if_true,toNat_natCast,a_nh,i_3 _ hn1,h_9 _ hn1,j_7 _ hn1,a_kb,h_9 _ hi1,c_3 (i:=i) (by omega)]
  congr 1;congr 1;congr 1
  congr 1
  ·refine j_9 fun a k ha hk=>?_
   unfold inB sB
   by_cases e:a=i
   ·subst e
    by_cases e2:k<n
    ·simp [e2]
    ·simp [e2]
   ·rw [if_neg (fun h=>e h.1)]
    by_cases e2:a<i/\k<n
    ·rw [if_pos e2,if_pos (by omega)]
    ·rw [if_neg e2,if_neg (by omega)]
  ·refine j_9 fun a k ha hk=>?_
   have hni:¬ n=i:=by omega
   unfold inB sD
   by_cases e:a=n
   ·subst e
    simp only [if_true,hni,if_false,false_and]
    by_cases e3:k=i
    ·subst e3;simp;omega
    ·simp only [e3,if_false]
     rw [if_neg (by omega),if_neg (by omega),if_neg (show ¬ (a<i+1/\k<a) by omega),if_neg (show ¬ (a<i+1/\k=a) by omega)]
     by_cases e4:k<i
     ·rw [if_pos ⟨trivial,e4⟩,if_pos ⟨trivial,by omega⟩]
     ·rw [if_neg (fun h=>e4 h.2),if_neg (by omega)]
   ·by_cases e2:a=i
    ·subst e2
     simp only [hni,if_false,if_true,e]
     by_cases e3:k=n
     ·subst e3;simp
     ·have:k<n:=by omega
      simp [e3,this]
    ·simp only [e,e2,if_false,false_and]
     by_cases e3:a<i/\k<n
     ·rw [if_pos e3,if_pos (by omega)]
     ·rw [if_neg e3,if_neg (show ¬ (a<i+1/\k<n) by omega)]
      by_cases e4:a<i/\k=n
      ·rw [if_pos e4,if_pos (by omega)]
      ·rw [if_neg e4,if_neg (show ¬ (a<i+1/\k=n) by omega)]
 ·unfold a_b6
  have h1:¬ ((n:Int)<(n:Int)):=by omega
  simp only [hlen,h1,decide_false,if_false,false_eq_true]
  congr 1
end
def b_7 (l:List Nat):List Int:=l.map fun n:Nat=>(n:Int)
@[simp] theorem a_hm (l:List Nat):(b_7 l).length=l.length:=by simp [b_7]
theorem a_q6 {l:List Nat} {i:Nat} (h:i<l.length):gt (b_7 l) (i:Int)=((l[i]:Nat):Int):=d_4 (by simp [b_7,h])
theorem h_4 {l:List Nat} {i:Nat} (h:i<l.length):inb (b_7 l) (i:Int)=true:=a_7 (by omega) (by simp;omega)
def a_mq (fD:Nat->Nat->Int) (f_0:Int) (i:Nat):Int:=if f_0<0 then (i:Int) else if 0<fD i f_0.toNat then (i:Int) else f_0
def a_b2 (fD:Nat->Nat->Int) (of:List Nat):Int:=of.foldl (a_mq fD) (-1)
theorem a_hx {α:Type} {l:List α} {i:Nat} (h:i<l.length):l.take (i+1)=l.take i++[l[i]]:=by rw [List.take_succ,List.getElem?_eq_getElem h];rfl
theorem a_0r (fD:Nat->Nat->Int) (l:List Nat) (i:Nat):a_b2 fD (l++[i])=a_mq fD (a_b2 fD l) i:=by simp [a_b2]
theorem a_hu {n:Nat} {fD:Nat->Nat->Int} (of:List Nat) (h:∀ i∈of,i<n):a_b2 fD of=-1\/∃ k:Nat,a_b2 fD of=k/\k<n:=by
 have:∀ (of:List Nat) (b:Int),(b=-1\/∃ k:Nat,b=k/\k<n)->(∀ i∈of,i<n)->(of.foldl (a_mq fD) b=-1\/∃ k:Nat,of.foldl (a_mq fD) b=k/\k<n):=by
  intro of
  induction of with
  |nil=>intro b hb _;exact hb
  |
   cons x r ih=>
   intro b hb hi
   refine ih _ ?_ (fun i h=>hi i (List.mem_cons_of_mem _ h))
   have hx:=hi x (by simp)
   unfold a_mq
   split
   ·exact .inr ⟨x,rfl,hx⟩
   ·split
    ·exact .inr ⟨x,rfl,hx⟩
    ·exact hb
 exact this of (-1) (.inl rfl) h
section
variable {F n:Nat} {fB fD:Nat->Nat->Int}
theorem b_qp (hn:n<=1000) (hf:2000<F) (h:t_4 n fB fD) (of:List Nat) (hof:of.length<=1000) (hi:∀ i∈of,i<n):a_km F (b_6 n fB fD) (b_7 of)=some (a_b2 fD of):=by
 unfold a_km
 rw [a_wk hn hf h]
 simp only [a_0,Bool.not_true,false_eq_true,if_false,i_2]
 have:=c_2 (step:=a_fq F (b_6 n fB fD) (b_7 of)) (fun i=>(a_b2 fD (of.take i),(i:Int))) (a_b2 fD of) of.length (fun i hil=>.inl ?_) ?_ of.length 0 F (by omega) (by omega)
 ·exact this
 ·unfold a_fq a_dq
  have h1:(i:Int)<((b_7 of).length:Int):=by simp;omega
  have hx:=hi of[i] (getElem_mem hil)
  have h2:((of[i]:Nat):Int)>=0:=by omega
  have h3:((of[i]:Nat):Int)<((b_6 n fB fD).B.length:Int):=by simp [b_6];omega
  simp only [h1,decide_true,if_true,h_4 hil,a_q6 hil,h2,h3,a_0,i_2,a_hx hil,a_0r,c_3 (i:=i) (by omega)]
  have hb:=a_hu (fD:=fD) (of.take i) (n:=n) (fun i h=>hi i (List.mem_of_mem_take h))
  generalize a_b2 fD (of.take i)=b at *
  rcases hb with rfl | ⟨k,rfl,hk⟩
  ·simp [a_mq,a_0]
  ·have hk0:¬ ((k:Int)<0):=by omega
   simp only [b_6,hk0,decide_false,false_eq_true,if_false,i_3 _ hx,j_7 _ hx,h_9 _ hk,r_2 _ hk,if_true,a_0,a_mq,toNat_natCast]
   by_cases h4:0<fD of[i] k
   ·have h4':fD of[i] k>0:=h4
    simp [h4,a_0]
   ·simp [h4,a_0]
 ·unfold a_fq
  have h1:¬ ((of.length:Int)<((b_7 of).length:Int)):=by simp
  simp only [h1,decide_false,if_false,false_eq_true,take_length]
theorem b_nc (hn:n<=1000) (hf:2000<F) (h:t_4 n fB fD) (of:List Nat) (hof:of.length<=1000) (hi:∀ i∈of,i<n):a_i9 F (b_6 n fB fD) (b_7 of)=some (a_b2 fD of):=by
 unfold a_i9
 have hlen:((b_6 n fB fD).B.length:Int)=(n:Int):=by simp [b_6]
 rw [i_2]
 have:=c_2 (step:=a_el F (b_6 n fB fD) (b_7 of)) (fun i=>(a_b2 fD (of.take i),(i:Int))) (a_b2 fD of) of.length (fun i hil=>.inl ?_) ?_ of.length 0 F (by omega) (by omega)
 ·exact this
 ·unfold a_el
  have h1:(i:Int)<((b_7 of).length:Int):=by simp;omega
  have hx:=hi of[i] (getElem_mem hil)
  have h2:¬ ((of[i]:Nat):Int)<0:=by omega
  have h3:¬ ((of[i]:Nat):Int)>=(n:Int):=by omega
  simp only [hlen,a_fn hn hf h,h1,decide_true,if_true,h_4 hil,a_q6 hil,h2,h3,decide_false,false_eq_true,if_false,a_0,i_2,a_hx hil,a_0r,c_3 (i:=i) (by omega)]
  have hb:=a_hu (fD:=fD) (of.take i) (n:=n) (fun i h=>hi i (List.mem_of_mem_take h))
  generalize a_b2 fD (of.take i)=b at *
  rcases hb with rfl | ⟨k,rfl,hk⟩
  ·simp [a_mq,a_0]
  ·have hk0:¬ ((k:Int)<0):=by omega
   simp only [b_6,hk0,decide_false,false_eq_true,if_false,i_3 _ hx,j_7 _ hx,h_9 _ hk,r_2 _ hk,if_true,a_0,a_mq,toNat_natCast]
   by_cases h4:0<fD of[i] k
   ·simp [h4,a_0]
   ·simp [h4,a_0]
 ·unfold a_el
  have h1:¬ ((of.length:Int)<((b_7 of).length:Int)):=by simp
  simp only [hlen,a_fn hn hf h,h1,decide_false,if_true,if_false,false_eq_true,take_length,a_0]
end
def numF (b t:Int):Int:=if W (t+1)<b then W (t+1) else b
def agF (fB fD:Nat->Nat->Int) (a b:Nat) (p q:a_1):Int:=
 if numF (fB a b) p.Turn>numF (fB b a) q.Turn then 1 else if numF (fB a b) p.Turn<numF (fB b a) q.Turn then -1 else fD a b
def a_pj (fB fD:Nat->Nat->Int) (fr:List Nat) (hops:List a_1) (f_0:Int) (i:Nat):Int:=
 if f_0<0 then (i:Int) else if 0<agF fB fD (fr.getD i 0) (fr.getD f_0.toNat 0) (gt hops (i:Int)) (gt hops f_0) then (i:Int) else f_0
def a_i8 (fB fD:Nat->Nat->Int) (fr:List Nat) (hops:List a_1) (k:Nat):Int:=(List.range k).foldl (a_pj fB fD fr hops) (-1)
def a_pr (fB fD:Nat->Nat->Int) (fr:List Nat) (hops:List a_1):Int:=a_i8 fB fD fr hops fr.length
theorem a_mt (fB fD:Nat->Nat->Int) (fr:List Nat) (hops:List a_1) (k:Nat):a_i8 fB fD fr hops (k+1)=a_pj fB fD fr hops (a_i8 fB fD fr hops k) k:=by simp [a_i8,List.range_succ]
theorem a_tr (fB fD:Nat->Nat->Int) (fr:List Nat) (hops:List a_1):∀ k,a_i8 fB fD fr hops k=-1\/∃ j:Nat,a_i8 fB fD fr hops k=j/\j<k:=by
 intro k
 induction k with
 |zero=>exact .inl rfl
 |
  succ k ih=>
  rw [a_mt]
  unfold a_pj
  split
  ·exact .inr ⟨k,rfl,by omega⟩
  ·split
   ·exact .inr ⟨k,rfl,by omega⟩
   ·rcases ih with h | ⟨j,h,hj⟩
    ·exact .inl h
    ·exact .inr ⟨j,h,by omega⟩
section
variable {F n:Nat} {fB fD:Nat->Nat->Int} {fr:List Nat} {hops:List a_1}
theorem i_5 {l:List Nat} {i:Nat} (h:i<l.length):gt (b_7 l) (i:Int)=((l.getD i 0:Nat):Int):=by rw [a_q6 h];simp [List.getD,h]
theorem j_2 (hi:∀ i∈fr,i<n) {i:Nat} (h:i<fr.length):fr.getD i 0<n:=by
 have:=hi fr[i] (getElem_mem h);simpa [List.getD,h] using this
theorem a_57 (hlen:hops.length=fr.length) (hi:∀ i∈fr,i<n) {i k:Nat} (h1:i<fr.length) (h2:k<fr.length) :
  p_2 F ⟨b_6 n fB fD,b_7 fr,hops⟩ (i:Int) (k:Int)=some (numF (fB (fr.getD i 0) (fr.getD k 0)) (gt hops (i:Int)).Turn):=by
 have x1:=j_2 hi h1
 have x2:=j_2 hi h2
 unfold p_2 numF
 simp only [b_6,h_4 h1,h_4 h2,i_5 h1,i_5 h2,i_3 _ x1,j_7 _ x1,h_9 _ x2,r_2 _ x2,if_true,a_7 (l:=hops) (i:=(i:Int)) (by omega) (by omega)]
theorem b_cv (hlen:hops.length=fr.length) (hi:∀ i∈fr,i<n) {i k:Nat} (h1:i<fr.length) (h2:k<fr.length) :
  u_6 F ⟨b_6 n fB fD,b_7 fr,hops⟩ (i:Int) (k:Int)=some (agF fB fD (fr.getD i 0) (fr.getD k 0) (gt hops (i:Int)) (gt hops (k:Int))):=by
 have x1:=j_2 hi h1
 have x2:=j_2 hi h2
 unfold u_6 agF
 rw [a_57 hlen hi h1 h2,a_57 hlen hi h2 h1]
 simp only [a_0,b_6,h_4 h1,h_4 h2,i_5 h1,i_5 h2,i_3 _ x1,j_7 _ x1,h_9 _ x2,r_2 _ x2,if_true,decide_eq_true_eq]
 split
 ·rfl
 ·split<;>rfl
theorem a_8a (b t:Int):a_ac F b t=some (numF b t):=by
 unfold a_ac numF
 by_cases h:b<W (t+1)
 ·simp only [h,decide_true,if_true];rw [if_neg (by omega)]
 ·simp only [h,decide_false,if_false,false_eq_true]
  by_cases h2:W (t+1)<b
  ·rw [if_pos h2]
  ·rw [if_neg h2];congr 1;omega
theorem a_4e {a b:Nat} (ha:a<n) (hb:b<n) (p q:a_1):a_bf F (b_6 n fB fD) (a:Int) (b:Int) p q=some (agF fB fD a b p q):=by
 unfold a_bf agF
 simp only [b_6,i_3 _ ha,i_3 _ hb,j_7 _ ha,j_7 _ hb,h_9 _ ha,h_9 _ hb,r_2 _ ha,r_2 _ hb,if_true,a_8a,a_0,decide_eq_true_eq]
 split
 ·rfl
 ·split<;>rfl
theorem b_ij (hn:n<=1000) (hf:2000<F) (h:t_4 n fB fD) (hlen:hops.length=fr.length) (hfr:fr.length<=1000) (hi:∀ i∈fr,i<n):a_d9 F (b_6 n fB fD) (b_7 fr) hops=some (a_pr fB fD fr hops):=by
 unfold a_d9
 rw [a_wk hn hf h]
 have hx2:(if (hops.length:Int)<((b_7 fr).length:Int) then (hops.length:Int) else ((b_7 fr).length:Int))=(fr.length:Int):=by rw [a_hm,hlen];simp
 simp only [a_0,Bool.not_true,false_eq_true,if_false,i_2,hx2]
 have:=c_2 (step:=a_f8 F (b_6 n fB fD) (b_7 fr) hops (fr.length:Int)) (fun i=>(a_i8 fB fD fr hops i,(i:Int))) (a_pr fB fD fr hops) fr.length (fun i hil=>.inl ?_) ?_ fr.length 0 F (by omega) (by omega)
 ·exact this
 ·unfold a_f8 a_dq
  have h1:(i:Int)<(fr.length:Int):=by omega
  have hx:=j_2 hi hil
  have h2:((fr.getD i 0:Nat):Int)>=0:=by omega
  have h3:((fr.getD i 0:Nat):Int)<((b_6 n fB fD).B.length:Int):=by simp only [b_6,a_v9];omega
  simp only [h1,decide_true,if_true,h_4 hil,i_5 hil,h2,h3,a_0,i_2,a_mt,c_3 (i:=i) (by omega)]
  have hb:=a_tr fB fD fr hops i
  generalize a_i8 fB fD fr hops i=b at *
  rcases hb with rfl | ⟨k,rfl,hk⟩
  ·simp [a_pj,a_0]
  ·have hk0:¬ ((k:Int)<0):=by omega
   simp only [hk0,decide_false,false_eq_true,if_false,b_cv hlen hi hil (show k<fr.length by omega),a_0,a_pj,toNat_natCast]
   by_cases h4:0<agF fB fD (fr.getD i 0) (fr.getD k 0) (gt hops (i:Int)) (gt hops (k:Int))
   ·have h4':agF fB fD (fr.getD i 0) (fr.getD k 0) (gt hops (i:Int)) (gt hops (k:Int))>0:=h4
    simp only [h4,h4',decide_true,if_true,a_0]
   ·have h4':¬ agF fB fD (fr.getD i 0) (fr.getD k 0) (gt hops (i:Int)) (gt hops (k:Int))>0:=h4
    simp only [h4,h4',decide_false,false_eq_true,if_false,a_0]
 ·unfold a_f8
  have h1:¬ ((fr.length:Int)<(fr.length:Int)):=by omega
  simp only [h1,decide_false,if_false,false_eq_true]
  rfl
theorem b_pe (hn:n<=1000) (hf:2000<F) (h:t_4 n fB fD) (hlen:hops.length=fr.length) (hfr:fr.length<=1000) (hi:∀ i∈fr,i<n):a_fi F (b_6 n fB fD) (b_7 fr) hops=some (a_pr fB fD fr hops):=by
 unfold a_fi
 have hln:((b_6 n fB fD).B.length:Int)=(n:Int):=by simp [b_6]
 rw [i_2]
 have:=c_2 (step:=a_eo F (b_6 n fB fD) (b_7 fr) hops) (fun i=>(a_i8 fB fD fr hops i,(i:Int))) (a_pr fB fD fr hops) fr.length (fun i hil=>.inl ?_) ?_ fr.length 0 F (by omega) (by omega)
 ·exact this
 ·unfold a_eo
  have h1:(i:Int)<((b_7 fr).length:Int):=by simp;omega
  have h1':(i:Int)<(hops.length:Int):=by omega
  have hx:=j_2 hi hil
  have h2:¬ ((fr.getD i 0:Nat):Int)<0:=by omega
  have h3:¬ ((fr.getD i 0:Nat):Int)>=(n:Int):=by omega
  have hih:inb hops (i:Int)=true:=a_7 (by omega) h1'
  simp only [hln,a_fn hn hf h,h1,h1',decide_true,if_true,h_4 hil,i_5 hil,h2,h3,decide_false,false_eq_true,if_false,a_0,i_2,a_mt,c_3 (i:=i) (by omega),hih]
  have hb:=a_tr fB fD fr hops i
  generalize a_i8 fB fD fr hops i=b at *
  rcases hb with rfl | ⟨k,rfl,hk⟩
  ·simp [a_pj,a_0]
  ·have hk0:¬ ((k:Int)<0):=by omega
   have hkl:k<fr.length:=by omega
   have hkh:inb hops (k:Int)=true:=a_7 (by omega) (by omega)
   simp only [hk0,decide_false,false_eq_true,if_false,h_4 hkl,i_5 hkl,hkh,if_true,a_4e hx (j_2 hi hkl),a_0,a_pj,toNat_natCast]
   by_cases h4:0<agF fB fD (fr.getD i 0) (fr.getD k 0) (gt hops (i:Int)) (gt hops (k:Int))
   ·have h4':agF fB fD (fr.getD i 0) (fr.getD k 0) (gt hops (i:Int)) (gt hops (k:Int))>0:=h4
    simp only [h4,h4',decide_true,if_true,a_0]
   ·have h4':¬ agF fB fD (fr.getD i 0) (fr.getD k 0) (gt hops (i:Int)) (gt hops (k:Int))>0:=h4
    simp only [h4,h4',decide_false,false_eq_true,if_false,a_0]
 ·unfold a_eo
  have h1:¬ ((fr.length:Int)<((b_7 fr).length:Int)):=by simp
  simp only [hln,a_fn hn hf h,h1,decide_false,if_true,if_false,false_eq_true,a_0]
  rfl
end
def a_d5 (now none_:Int) (tags:List Int) (marks:List d_5):List Int:=marks.foldl (c_6 now none_) tags
theorem b_e0 (now none_:Int) (o:List Int) (m:d_5):(c_6 now none_ o m).length=o.length:=by
 unfold c_6
 split
 ·rfl
 ·split
  ·simp
  ·split
   ·simp
   ·split
    ·simp
    ·rfl
theorem a_do (now none_:Int):∀ (marks:List d_5) (o:List Int),(a_d5 now none_ o marks).length=o.length
 |[],o=>rfl
 |
  m :: r,o=>by
  have h:=a_do now none_ r (c_6 now none_ o m)
  rw [b_e0] at h
  exact h
section
variable {F:Nat}
theorem a_1v {tags:List Int} {marks:List d_5} {now none_:Int} (ht:tags.length<=1000) (hm:marks.length<=1000000000):w_4 F tags marks now none_=some (a_d5 now none_ tags marks):=by
 unfold w_4
 rw [if_pos (by simp [a_8];omega)]
 rfl
theorem b_jd {marks:List d_5} {now none_:Int} {o:List Int} (ho:o.length<=1000) {i:Nat} (hi:i<marks.length) (hm:marks.length<=1000000000) :
  a_aw F marks now none_ ((i:Int),o)=some (.next (((i+1:Nat):Int),c_6 now none_ o (gt marks (i:Int)))):=by
 unfold a_aw c_6
 have h1:(i:Int)<(marks.length:Int):=by omega
 have hin:inb marks (i:Int)=true:=a_7 (by omega) h1
 simp only [h1,decide_true,if_true,hin,c_3 (i:=i) (by omega)]
 generalize gt marks (i:Int)=m
 by_cases h2:m.Group<1
 ·simp [h2,a_0]
 ·by_cases h3:m.Group>(o.length:Int)
  ·have h4:((o.length:Int)-1) / 2<m.Group:=by omega
   simp [h2,h3,h4,a_0]
  ·have hW:W (2*m.Group)=2*m.Group:=f_2 (by omega) (by omega)
   have hW2:W (2*m.Group-1)=2*m.Group-1:=f_2 (by omega) (by omega)
   simp only [h2,h3,decide_false,false_eq_true,if_false,a_0,hW,hW2]
   by_cases h5:2*m.Group>=(o.length:Int)
   ·have h4:((o.length:Int)-1) / 2<m.Group:=by omega
    simp only [h5,h4,decide_true,or_true,if_true,a_0]
   ·have h4:¬ ((o.length:Int)-1) / 2<m.Group:=by omega
    have hi1:inb o (2*m.Group-1)=true:=a_7 (by omega) (by omega)
    have hi2:inb o (2*m.Group)=true:=a_7 (by omega) (by omega)
    have hi3:inb (o.set (2*m.Group-1).toNat none_) (2*m.Group)=true:=a_7 (by omega) (by simp;omega)
    simp only [h5,h4,decide_false,or_self,false_eq_true,if_false,hi1,hi2,hi3,if_true,beq_iff_eq]
    by_cases k1:m.Kind=1
    ·simp [k1,a_0]
    ·by_cases k2:m.Kind=2
     ·simp [k2,a_0]
     ·by_cases k3:m.Kind=3
      ·simp [k3,a_0]
      ·simp [k1,k2,k3,a_0]
theorem a_yv {tags:List Int} {marks:List d_5} {now none_:Int} (ht:tags.length<=1000) (hm:marks.length<=1000000000) (hf:marks.length<F):a_bb F tags marks now none_=some (a_d5 now none_ tags marks):=by
 unfold a_bb
 rw [if_pos (by simp [a_8];omega),i_2,List.nil_append]
 have:=c_2 (step:=a_aw F marks now none_) (fun i=>((i:Int),a_d5 now none_ tags (marks.take i))) (a_d5 now none_ tags marks) marks.length (fun i hi=>.inl ?_) ?_ marks.length 0 F (by omega) hf
 ·exact this
 ·rw [b_jd (by rw [a_do];exact ht) hi hm]
  have hs:marks.take (i+1)=marks.take i++[gt marks (i:Int)]:=by rw [List.take_succ,n_3 hi];rfl
  simp only [a_d5,hs,List.foldl_append,List.foldl_cons,List.foldl_nil]
 ·unfold a_aw
  have h1:¬ ((marks.length:Int)<(marks.length:Int)):=by omega
  simp only [h1,decide_false,if_false,false_eq_true,take_length]
theorem b_nm {n:Nat} {x:Int} (h0:1<=n) (hn:n<=1000):a_i2 F (n:Int) x=some (List.replicate n x):=by
 unfold a_i2 a_jo
 have h1:¬ (n:Int)<1:=by omega
 have h2:(decide ((0:Int)<=(n:Int))&&decide ((n:Int)<=1000))=true:=by simp;omega
 simp only [h1,decide_false,false_eq_true,if_false,i_2,Go.X.a_qp,h2,if_true,toNat_natCast]
theorem b_ly {n:Nat} {x:Int} (hn:n<=1000) (hf:2000<F):a_g8 F (n:Int) x=some (List.replicate n x):=by
 unfold a_g8
 rw [i_2]
 have:=c_2 (step:=a_dt F (n:Int) x) (fun i=>(List.replicate i x,(i:Int))) (List.replicate n x) n (fun i hi=>.inl ?_) ?_ n 0 F (by omega) (by omega)
 ·exact this
 ·unfold a_dt
  have h1:(i:Int)<(n:Int):=by omega
  have hap:a_8 8 (List.replicate i x) [x]=true:=by simp [a_8];omega
  simp only [h1,decide_true,if_true,hap,List.replicate_succ',c_3 (i:=i) (by omega)]
 ·unfold a_dt
  have h1:¬ ((n:Int)<(n:Int)):=by omega
  simp only [h1,decide_false,if_false,false_eq_true]
end
