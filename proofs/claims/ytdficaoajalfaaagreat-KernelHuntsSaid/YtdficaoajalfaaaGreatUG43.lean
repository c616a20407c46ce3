/- Ranks: the program and the document tell the same. Which run is ahead: the program and the document tell the same. The pick among runs that come to one place: the program and the document tell the same. Tags behind marks: the program and the document tell the same. A crowd of runs: what is U2, and what begins and ends here. What is the same as itself. Its conditions: none. -/
import Derived.Test.YtdficaoajalfaaaGreatUG42
open Bool (false_eq_true)
open List (mem_range ext_getElem getElem_map getElem_range getElem_mem take_length)
open Int (toNat_natCast)
set_option linter.all false
namespace Go.Proofs.YtdficaoajalfaaaGreat
open Go.V Go.RowKit Old
def E3 (n:Nat) (f:Nat->Int):List Int:=(List.range n).map f
def Q0 (m n:Nat) (f:Nat->Nat->Int):List (List Int):=(List.range m).map fun i=>E3 n (f i)
def O1 (n:Nat) (fB fD:Nat->Nat->Int):E1:=⟨Q0 n n fB,Q0 n n fD⟩
@[simp] theorem h0f (n:Nat) (f:Nat->Int):(E3 n f).length=n:=by simp [E3]
@[simp] theorem k07 (m n:Nat) (f:Nat->Nat->Int):(Q0 m n f).length=m:=by simp [Q0]
theorem j8 {n i:Nat} (f:Nat->Int) (h:i<n):gt (E3 n f) (i:Int)=f i:=I3 (by simp [E3,h])
theorem F5 {m n i:Nat} (f:Nat->Nat->Int) (h:i<m):gt (Q0 m n f) (i:Int)=E3 n (f i):=I3 (by simp [Q0,h])
theorem l6 {n i:Nat} (f:Nat->Int) (h:i<n):y0 (E3 n f) (i:Int)=true:=P0 (by omega) (by simp;omega)
theorem P5 {m n i:Nat} (f:Nat->Nat->Int) (h:i<m):y0 (Q0 m n f) (i:Int)=true:=P0 (by omega) (by simp;omega)
theorem E2 {i:Nat} (h:i<=1000000000):W ((i:Int)+1)=((i+1:Nat):Int):=by rw [Z2 (by omega) (by omega)];omega
structure e8 (n:Nat) (fB fD:Nat->Nat->Int):Prop where
 b0:∀ i k,i<n->k<n->0<=fB i k
 bd:∀ i,i<n->fB i i=0
 dd:∀ i,i<n->fD i i=0
 d1:∀ i k,i<n->k<n->i≠k->fD i k=1\/fD i k=-1
 dn:∀ i k,i<n->k<n->fD k i=- fD i k
section
variable {F n:Nat} {fB fD:Nat->Nat->Int}
theorem B0o (hn:n<=1000) (hf:2000<F) (f:Nat->Nat->Int):i0M F (Q0 n n f) (n:Int)=some true:=by
 unfold i0M;have:=V2 (step:=g06 F (Q0 n n f) (n:Int)) (fun i=>(i:Int)) (.inr ()) n (fun i hi=>.inl ?_) ?_ n 0 F (by omega) (by omega)
 ·have h2:iter (g06 F (Q0 n n f) (n:Int)) F 0=_:=this;rw [h2];simp [E0]
 ·unfold g06;have h1:(i:Int)<((Q0 n n f).length:Int):=by simp;omega
  simp only [h1,decide_true,if_true,P5 f hi,F5 f hi,h0f,bne_self_eq_false,false_eq_true,if_false,E2 (i:=i) (by omega)]
 ·unfold g06;have h1:¬ ((n:Int)<((Q0 n n f).length:Int)):=by simp
  simp only [h1,decide_false,if_false,false_eq_true]
theorem u0X (hn:n<=1000) (hf:2000<F) (h:e8 n fB fD):h0O F (O1 n fB fD) (n:Int)=some true:=by
 unfold h0O O1;simp only [B0o hn hf,E0,Bool.not_true,false_eq_true,if_false];have:=V2 (step:=i0l F ⟨Q0 n n fB,Q0 n n fD⟩ (n:Int)) (fun i=>(i:Int)) (.inr ()) n (fun i hi=>.inl ?_) ?_ n 0 F (by omega) (by omega)
 ·have h2:iter (i0l F ⟨Q0 n n fB,Q0 n n fD⟩ (n:Int)) F 0=_:=this;rw [h2];rfl
 ·have hin:=V2 (step:=i0A F ⟨Q0 n n fB,Q0 n n fD⟩ (n:Int) (i:Int)) (fun k=>(k:Int)) (.inr ()) n (fun k hk=>.inl ?_) ?_ n 0 F (by omega) (by omega)
  ·have h2:iter (i0A F ⟨Q0 n n fB,Q0 n n fD⟩ (n:Int) (i:Int)) F 0=_:=hin;unfold i0l;have h1:(i:Int)<(n:Int):=by omega
   simp only [h1,decide_true,if_true,P5 _ hi,F5 _ hi,l6 _ hi,j8 _ hi,h.bd i hi,h.dd i hi,bne_self_eq_false,false_eq_true,if_false,E0,h2,E2 (i:=i) (by omega)]
  ·unfold i0A;have h1:(k:Int)<(n:Int):=by omega
   have hb:¬ fB i k<0:=by have:=h.b0 i k hi hk;omega
   have hd:=h.dn i k hi hk;have hW:W (0-fD i k)=- fD i k:=by
    by_cases e:i=k
    ·subst e;rw [h.dd i hi];rfl
    ·rcases h.d1 i k hi hk e with e | e<;>rw [e]<;>rfl
   simp only [h1,decide_true,if_true,P5 _ hi,P5 _ hk,F5 _ hi,F5 _ hk,l6 _ hi,l6 _ hk,j8 _ hi,j8 _ hk,hb,decide_false,false_eq_true,if_false,z6,hd,hW,bne_self_eq_false,E2 (i:=k) (by omega)]
   by_cases e:i=k
   ·subst e;simp [E0]
   ·have hne:((i:Int) != (k:Int))=true:=by simp;omega
    rcases h.d1 i k hi hk e with e2 | e2<;>simp [hne,e2,E0]
  ·unfold i0A;have h1:¬ ((n:Int)<(n:Int)):=by omega
   simp only [h1,decide_false,if_false,false_eq_true]
 ·unfold i0l;have h1:¬ ((n:Int)<(n:Int)):=by omega
  simp only [h1,decide_false,if_false,false_eq_true]
theorem j0O (hn:n<=1000) (hf:2000<F) (h:e8 n fB fD):d0J F (O1 n fB fD)=some true:=by
 unfold d0J;rw [z6,show ((O1 n fB fD).B.length:Int)=(n:Int) from by simp [O1],u0X hn hf h]
theorem e0V (hn:n<=1000) (hf:2000<F) (h:e8 n fB fD):e0q F (O1 n fB fD) (n:Int)=some true:=by
 unfold e0q O1;simp only [k07,bne_self_eq_false,false_eq_true,if_false,E0];have:=V2 (step:=h0d F ⟨Q0 n n fB,Q0 n n fD⟩ (n:Int)) (fun i=>(i:Int)) (.inr ()) n (fun i hi=>.inl ?_) ?_ n 0 F (by omega) (by omega)
 ·have h2:iter (h0d F ⟨Q0 n n fB,Q0 n n fD⟩ (n:Int)) F 0=_:=this;rw [h2];simp only [E0];have:=V2 (step:=h0C F ⟨Q0 n n fB,Q0 n n fD⟩ (n:Int)) (fun i=>(i:Int)) (.inr ()) n (fun i hi=>.inl ?_) ?_ n 0 F (by omega) (by omega)
  ·have h2:iter (h0C F ⟨Q0 n n fB,Q0 n n fD⟩ (n:Int)) F 0=_:=this;rw [h2];rfl
  ·have hin:=V2 (step:=i0k F ⟨Q0 n n fB,Q0 n n fD⟩ (n:Int) (i:Int)) (fun k=>(k:Int)) (.inr ()) n (fun k hk=>.inl ?_) ?_ n 0 F (by omega) (by omega)
   ·have h2:iter (i0k F ⟨Q0 n n fB,Q0 n n fD⟩ (n:Int) (i:Int)) F 0=_:=hin;unfold h0C;have h1:(i:Int)<(n:Int):=by omega
    simp only [h1,decide_true,if_true,h2,E0,E2 (i:=i) (by omega)]
   ·unfold i0k;have h1:(k:Int)<(n:Int):=by omega
    have hb:¬ fB i k<0:=by have:=h.b0 i k hi hk;omega
    have hd:=h.dn i k hi hk;have hW:W (0-fD i k)=- fD i k:=by
     by_cases e:i=k
     ·subst e;rw [h.dd i hi];rfl
     ·rcases h.d1 i k hi hk e with e | e<;>rw [e]<;>rfl
    simp only [h1,decide_true,if_true,P5 _ hi,P5 _ hk,F5 _ hi,F5 _ hk,l6 _ hi,l6 _ hk,j8 _ hi,j8 _ hk,hb,decide_false,false_eq_true,if_false,z6,hd,hW,bne_self_eq_false,E2 (i:=k) (by omega)]
    by_cases e:i=k
    ·subst e;simp [E0,h.bd i hi,h.dd i hi]
    ·have hne:((i:Int) != (k:Int))=true:=by simp;omega
     have hne':((i:Int)==(k:Int))=false:=by simp;omega
     rcases h.d1 i k hi hk e with e2 | e2<;>simp [hne,hne',e2,E0]
   ·unfold i0k;have h1:¬ ((n:Int)<(n:Int)):=by omega
    simp only [h1,decide_false,if_false,false_eq_true]
  ·unfold h0C;have h1:¬ ((n:Int)<(n:Int)):=by omega
   simp only [h1,decide_false,if_false,false_eq_true]
 ·unfold h0d;have h1:(i:Int)<(n:Int):=by omega
  simp only [h1,decide_true,if_true,P5 _ hi,F5 _ hi,h0f,bne_self_eq_false,false_eq_true,if_false,E0,E2 (i:=i) (by omega)]
 ·unfold h0d;have h1:¬ ((n:Int)<(n:Int)):=by omega
  simp only [h1,decide_false,if_false,false_eq_true]
end
theorem G00 {n:Nat} {f g:Nat->Int} (h:∀ k,k<n->f k=g k):E3 n f=E3 n g:=List.map_congr_left fun k hk=>h k (mem_range.1 hk)
theorem V7 {m n:Nat} {f g:Nat->Nat->Int} (h:∀ i k,i<m->k<n->f i k=g i k):Q0 m n f=Q0 m n g:=
 List.map_congr_left fun i hi=>G00 fun k hk=>h i k (mem_range.1 hi) hk
theorem f04 {n k:Nat} {f:Nat->Int} {v:Int}:(E3 n f).set k v=E3 n fun j=>if j=k then v else f j:=by
 refine ext_getElem (by simp) fun i h1 h2=>?_;simp only [E3,List.getElem_set,getElem_map,getElem_range]
 by_cases e:k=i
 ·simp [e]
 ·rw [if_neg e,if_neg (fun h=>e h.symm)]
theorem f0v {m n i:Nat} {f:Nat->Nat->Int} {g:Nat->Int}:(Q0 m n f).set i (E3 n g)=Q0 m n fun a=>if a=i then g else f a:=by
 refine ext_getElem (by simp) fun j h1 h2=>?_;simp only [Q0,List.getElem_set,getElem_map,getElem_range]
 by_cases e:i=j
 ·simp [e]
 ·rw [if_neg e,if_neg (fun h=>e h.symm)]
theorem q0L (n:Nat):List.replicate n (0:Int)=E3 n fun _=>0:=by
 refine ext_getElem (by simp) fun i h1 h2=>?_;simp [E3]
theorem C0O (m n:Nat):List.replicate m (E3 n fun _=>0)=Q0 m n fun _ _=>0:=by
 refine ext_getElem (by simp) fun i h1 h2=>?_;simp [Q0]
section
variable {F n:Nat} {fB fD:Nat->Nat->Int}
theorem r0N (hn:n<=1000) (hf:2000<F):e0G F (n:Int)=some (Q0 n n fun _ _=>0):=by
 unfold e0G;have hm1:B3 24 (n:Int)=true:=by simp [B3];omega
 have hm2:B3 8 (n:Int)=true:=by simp [B3];omega
 simp only [hm1,if_true,toNat_natCast,List.length_replicate,z6];have:=V2 (step:=k0H F (n:Int) (n:Int)) (fun i=>((i:Int),List.replicate i (E3 n fun _=>0)++List.replicate (n-i) ([]:List Int))) (Q0 n n fun _ _=>0) n (fun i hi=>.inl ?_) ?_ n 0 F (by omega) (by omega)
 ·exact this
 ·unfold k0H;have h1:(i:Int)<(n:Int):=by omega
  have hin:y0 (List.replicate i (E3 n fun _=>0)++List.replicate (n-i) ([]:List Int)) (i:Int)=true:=P0 (by omega) (by simp;omega);have hset:(List.replicate i (E3 n fun _=>0)++List.replicate (n-i) ([]:List Int)).set i (E3 n fun _=>0)=List.replicate (i+1) (E3 n fun _=>0)++List.replicate (n-(i+1)) ([]:List Int):=by
   rw [List.set_append_right _ _ (by simp),List.length_replicate,Nat.sub_self,show n-i=(n-(i+1))+1 from by omega,List.replicate_succ,List.set_cons_zero,List.replicate_succ' (n:=i),List.append_assoc];rfl
  simp only [h1,decide_true,if_true,hm2,hin,toNat_natCast,q0L,hset,E2 (i:=i) (by omega)]
 ·unfold k0H;have h1:¬ ((n:Int)<(n:Int)):=by omega
  simp only [h1,decide_false,if_false,false_eq_true,Nat.sub_self,List.replicate_zero,List.append_nil,C0O]
def a0T (n:Nat) (fB:Nat->Nat->Int) (i k:Nat):Int:=if i<n/\k<n then fB i k else 0
def a0S (n:Nat) (fD:Nat->Nat->Int) (i k:Nat):Int:=if i<n/\k<n then fD i k else if i<n/\k=n then 1 else if i=n/\k<n then -1 else 0
theorem D0W (h:e8 n fB fD):e8 (n+1) (a0T n fB) (a0S n fD) where
 b0 i k hi hk:=by unfold a0T;split;exact h.b0 i k (by omega) (by omega);omega
 bd i hi:=by unfold a0T;split;exact h.bd i (by omega);rfl
 dd i hi:=by
  unfold a0S;split
  ·exact h.dd i (by omega)
  ·rw [if_neg (by omega),if_neg (by omega)]
 d1 i k hi hk hne:=by
  unfold a0S
  by_cases h1:i<n/\k<n
  ·rw [if_pos h1];exact h.d1 i k h1.1 h1.2 hne
  ·rw [if_neg h1]
   by_cases h2:i<n/\k=n
   ·rw [if_pos h2];exact .inl rfl
   ·rw [if_neg h2,if_pos (by omega)];exact .inr rfl
 dn i k hi hk:=by
  unfold a0S
  by_cases h1:i<n/\k<n
  ·rw [if_pos h1,if_pos ⟨h1.2,h1.1⟩];exact h.dn i k h1.1 h1.2
  ·rw [if_neg h1,if_neg (fun h=>h1 ⟨h.2,h.1⟩)]
   by_cases h2:i<n/\k=n
   ·rw [if_pos h2,if_neg (by omega),if_pos ⟨h2.2,h2.1⟩]
   ·rw [if_neg h2]
    by_cases h3:i=n/\k<n
    ·rw [if_pos h3,if_pos ⟨h3.2,h3.1⟩];rfl
    ·rw [if_neg h3,if_neg (fun h=>h3 ⟨h.2,h.1⟩),if_neg (fun h=>h2 ⟨h.2,h.1⟩)];rfl
theorem w07 {m:Nat} (hm:n<=m) (f g:Nat->Int):M4 (E3 m f) (E3 n g)=E3 m fun k=>if k<n then g k else f k:=by
 unfold M4;rw [h0f,h0f,List.take_of_length_le (by simp;exact hm)];refine ext_getElem (by simp;omega) fun i h1 h2=>?_;simp only [h0f] at h2
 by_cases e:i<n
 ·rw [List.getElem_append_left (by simpa using e)];simp [E3,e]
 ·rw [List.getElem_append_right (by simp;omega)];simp only [E3,List.getElem_drop,List.length_map,List.length_range,getElem_map,getElem_range,if_neg e];congr 1;omega
def sB (n:Nat) (fB:Nat->Nat->Int) (i a k:Nat):Int:=if a<i/\k<n then fB a k else 0
def sD (n:Nat) (fD:Nat->Nat->Int) (i a k:Nat):Int:=if a<i/\k<n then fD a k else if a<i/\k=n then 1 else if a=n/\k<i then -1 else 0
theorem D0m (hn:n<=900) (hf:2000<F) (h:e8 n fB fD):i04 F (O1 n fB fD)=some (O1 (n+1) (a0T n fB) (a0S n fD)):=by
 unfold i04;rw [j0O (by omega) hf h];have hlen:((O1 n fB fD).B.length:Int)=(n:Int):=by simp [O1]
 simp only [E0,Bool.not_true,false_eq_true,if_false,hlen,E2 (i:=n) (by omega),r0N (n:=n+1) (F:=F) (by omega) hf];have:=V2 (step:=i0O F (O1 n fB fD)) (fun i=>((i:Int),Q0 (n+1) (n+1) (sB n fB i),Q0 (n+1) (n+1) (sD n fD i))) (Q0 (n+1) (n+1) (a0T n fB),Q0 (n+1) (n+1) (a0S n fD)) n (fun i hi=>.inl ?_) ?_ n 0 F (by omega) (by omega)
 ·have e1:Q0 (n+1) (n+1) (sB n fB 0)=Q0 (n+1) (n+1) fun _ _=>0:=V7 fun i k _ _=>by unfold sB;rw [if_neg (by omega)]
  have e2:Q0 (n+1) (n+1) (sD n fD 0)=Q0 (n+1) (n+1) fun _ _=>0:=V7 fun i k _ _=>by unfold sD;rw [if_neg (by omega),if_neg (by omega),if_neg (by omega)]
  rw [e1,e2] at this;have h2:iter (i0O F (O1 n fB fD)) F (0,Q0 (n+1) (n+1) (fun _ _=>0),Q0 (n+1) (n+1) fun _ _=>0)=_:=this;rw [h2];rfl
 ·unfold i0O;have h1:(i:Int)<(n:Int):=by omega
  have hi1:i<n+1:=by omega
  have hn1:n<n+1:=by omega
  simp only [hlen,h1,decide_true,if_true];simp only [O1,P5 _ hi,P5 _ hi1,F5 _ hi,F5 _ hi1,if_true,w07 (show n<=n+1 by omega),toNat_natCast,f0v,P5 _ hn1,l6 _ hn1,F5 _ hn1,f04,l6 _ hi1,E2 (i:=i) (by omega)];congr 1;congr 1;congr 1;congr 1
  ·refine V7 fun a k ha hk=>?_;unfold sB
   by_cases e:a=i
   ·subst e;simp only [if_true]
    by_cases e2:k<n
    ·simp [e2]
    ·simp [e2]
   ·simp only [e,if_false]
    by_cases e2:a<i/\k<n
    ·rw [if_pos e2,if_pos (by omega)]
    ·rw [if_neg e2,if_neg (by omega)]
  ·refine V7 fun a k ha hk=>?_;have hni:¬ n=i:=by omega
   unfold sD
   by_cases e:a=n
   ·subst e;simp only [if_true,hni,if_false]
    by_cases e3:k=i
    ·subst e3;simp;omega
    ·simp only [e3,if_false];rw [if_neg (by omega),if_neg (by omega),if_neg (show ¬ (a<i+1/\k<a) by omega),if_neg (show ¬ (a<i+1/\k=a) by omega)]
     by_cases e4:k<i
     ·rw [if_pos ⟨trivial,e4⟩,if_pos ⟨trivial,by omega⟩]
     ·rw [if_neg (fun h=>e4 h.2),if_neg (by omega)]
   ·by_cases e2:a=i
    ·subst e2;simp only [hni,if_false,if_true,e]
     by_cases e3:k=n
     ·subst e3;simp
     ·have:k<n:=by omega
      simp [e3,this]
    ·simp only [e,e2,if_false]
     by_cases e3:a<i/\k<n
     ·rw [if_pos e3,if_pos (by omega)]
     ·rw [if_neg e3,if_neg (show ¬ (a<i+1/\k<n) by omega)]
      by_cases e4:a<i/\k=n
      ·rw [if_pos e4,if_pos (by omega)]
      ·rw [if_neg e4,if_neg (show ¬ (a<i+1/\k=n) by omega),if_neg (fun h=>h.1),if_neg (fun h=>h.1)]
 ·unfold i0O;have h1:¬ ((n:Int)<(n:Int)):=by omega
  simp only [hlen,h1,decide_false,if_false,false_eq_true];congr 1
theorem t0m (hn:n<=1000) (hf:2000<F):h0m F (n:Int)=some (Q0 n n fun _ _=>0,Q0 n n fun _ _=>0):=by
 unfold h0m;have:=V2 (step:=g0t F (n:Int)) (fun i=>((i:Int),(Q0 i n fun _ _=>0,Q0 i n fun _ _=>0))) (Q0 n n fun _ _=>0,Q0 n n fun _ _=>0) n (fun i hi=>.inl ?_) ?_ n 0 F (by omega) (by omega)
 ·have h2:iter (g0t F (n:Int)) F (0,([],[]))=_:=this;rw [h2];rfl
 ·unfold g0t;have h1:(i:Int)<(n:Int):=by omega
  have hm:B3 8 (n:Int)=true:=by simp [B3];omega
  have hap:I0 24 (Q0 i n fun _ _=>0) [E3 n fun _=>0]=true:=by simp [I0];omega
  have hs:Q0 (i+1) n (fun _ _=>0)=Q0 i n (fun _ _=>0)++[E3 n fun _=>0]:=v0W _ i;simp only [h1,decide_true,if_true,hm,toNat_natCast,q0L,hap,hs,E2 (i:=i) (by omega)]
 ·unfold g0t;have h1:¬ ((n:Int)<(n:Int)):=by omega
  simp only [h1,decide_false,if_false,false_eq_true]
def O7 (f:Nat->Nat->Int) (g:Nat->Nat->Int) (i k a j:Nat):Int:=if a=i/\j<k then f a j else g a j
theorem x0M (hn:n<=900) (hf:2000<F) {i:Nat} (hi:i<n) (f g:Nat->Nat->Int):iter (g0Z F (O1 n fB fD) (i:Int)) F (0,Q0 (n+1) (n+1) f,Q0 (n+1) (n+1) g)=some (Q0 (n+1) (n+1) (O7 fB f i n),Q0 (n+1) (n+1) (O7 fD g i n)):=by
 have hlen:((O1 n fB fD).B.length:Int)=(n:Int):=by simp [O1]
 have hi1:i<n+1:=by omega
 have:=V2 (step:=g0Z F (O1 n fB fD) (i:Int)) (fun k=>((k:Int),Q0 (n+1) (n+1) (O7 fB f i k),Q0 (n+1) (n+1) (O7 fD g i k))) (Q0 (n+1) (n+1) (O7 fB f i n),Q0 (n+1) (n+1) (O7 fD g i n)) n (fun k hk=>.inl ?_) ?_ n 0 F (by omega) (by omega)
 ·have e:∀ (u v:Nat->Nat->Int),Q0 (n+1) (n+1) (O7 u v i 0)=Q0 (n+1) (n+1) v:=fun u v=>V7 fun a j _ _=>by unfold O7;rw [if_neg (by omega)]
  rw [e,e] at this;exact this
 ·unfold g0Z;have h1:(k:Int)<(n:Int):=by omega
  have hk1:k<n+1:=by omega
  have e:∀ (u v:Nat->Nat->Int),Q0 (n+1) (n+1) (fun a=>if a=i then (fun j=>if j=k then u i k else O7 u v i k i j) else O7 u v i k a)=Q0 (n+1) (n+1) (O7 u v i (k+1)):=fun u v=>V7 fun a j _ _=>by
   unfold O7
   by_cases h2:a=i
   ·subst h2;simp only [if_true,true_and]
    by_cases h3:j=k
    ·subst h3;simp
    ·simp only [h3,if_false]
     by_cases h4:j<k
     ·rw [if_pos h4,if_pos (by omega)]
     ·rw [if_neg h4,if_neg (by omega)]
   ·simp [h2]
  simp only [hlen,h1,decide_true,if_true];simp only [O1,P5 _ hi,P5 _ hi1,F5 _ hi,F5 _ hi1,l6 _ hk,l6 _ hk1,j8 _ hk,if_true,toNat_natCast,f04,f0v,e,E2 (i:=k) (by omega)]
 ·unfold g0Z;have h1:¬ ((n:Int)<(n:Int)):=by omega
  simp only [hlen,h1,decide_false,if_false,false_eq_true]
theorem F0i (hn:n<=900) (hf:2000<F) (h:e8 n fB fD):g0R F (O1 n fB fD)=some (O1 (n+1) (a0T n fB) (a0S n fD)):=by
 unfold g0R;have hlen:((O1 n fB fD).B.length:Int)=(n:Int):=by simp [O1]
 rw [hlen,e0V (by omega) hf h];simp only [E0,Bool.not_true,false_eq_true,if_false,E2 (i:=n) (by omega),t0m (n:=n+1) (F:=F) (by omega) hf];have:=V2 (step:=i0t F (O1 n fB fD)) (fun i=>((i:Int),Q0 (n+1) (n+1) (sB n fB i),Q0 (n+1) (n+1) (sD n fD i))) (Q0 (n+1) (n+1) (a0T n fB),Q0 (n+1) (n+1) (a0S n fD)) n (fun i hi=>.inl ?_) ?_ n 0 F (by omega) (by omega)
 ·have e1:Q0 (n+1) (n+1) (sB n fB 0)=Q0 (n+1) (n+1) fun _ _=>0:=V7 fun i k _ _=>by unfold sB;rw [if_neg (by omega)]
  have e2:Q0 (n+1) (n+1) (sD n fD 0)=Q0 (n+1) (n+1) fun _ _=>0:=V7 fun i k _ _=>by unfold sD;rw [if_neg (by omega),if_neg (by omega),if_neg (by omega)]
  rw [e1,e2] at this;have h2:iter (i0t F (O1 n fB fD)) F (0,Q0 (n+1) (n+1) (fun _ _=>0),Q0 (n+1) (n+1) fun _ _=>0)=_:=this;rw [h2];rfl
 ·unfold i0t;have h1:(i:Int)<(n:Int):=by omega
  have hi1:i<n+1:=by omega
  have hn1:n<n+1:=by omega
  simp only [hlen,h1,decide_true,if_true,x0M hn hf hi,E0];simp only [P5 _ hi1,F5 _ hi1,if_true,toNat_natCast,f0v,P5 _ hn1,l6 _ hn1,F5 _ hn1,f04,l6 _ hi1,E2 (i:=i) (by omega)];congr 1;congr 1;congr 1;congr 1
  ·refine V7 fun a k ha hk=>?_;unfold O7 sB
   by_cases e:a=i
   ·subst e
    by_cases e2:k<n
    ·simp [e2]
    ·simp [e2]
   ·rw [if_neg (fun h=>e h.1)]
    by_cases e2:a<i/\k<n
    ·rw [if_pos e2,if_pos (by omega)]
    ·rw [if_neg e2,if_neg (by omega)]
  ·refine V7 fun a k ha hk=>?_;have hni:¬ n=i:=by omega
   unfold O7 sD
   by_cases e:a=n
   ·subst e;simp only [if_true,hni,if_false,false_and]
    by_cases e3:k=i
    ·subst e3;simp;omega
    ·simp only [e3,if_false];rw [if_neg (by omega),if_neg (by omega),if_neg (show ¬ (a<i+1/\k<a) by omega),if_neg (show ¬ (a<i+1/\k=a) by omega)]
     by_cases e4:k<i
     ·rw [if_pos ⟨trivial,e4⟩,if_pos ⟨trivial,by omega⟩]
     ·rw [if_neg (fun h=>e4 h.2),if_neg (by omega)]
   ·by_cases e2:a=i
    ·subst e2;simp only [hni,if_false,if_true,e]
     by_cases e3:k=n
     ·subst e3;simp
     ·have:k<n:=by omega
      simp [e3,this]
    ·simp only [e,e2,if_false,false_and]
     by_cases e3:a<i/\k<n
     ·rw [if_pos e3,if_pos (by omega)]
     ·rw [if_neg e3,if_neg (show ¬ (a<i+1/\k<n) by omega)]
      by_cases e4:a<i/\k=n
      ·rw [if_pos e4,if_pos (by omega)]
      ·rw [if_neg e4,if_neg (show ¬ (a<i+1/\k=n) by omega)]
 ·unfold i0t;have h1:¬ ((n:Int)<(n:Int)):=by omega
  simp only [hlen,h1,decide_false,if_false,false_eq_true];congr 1
end
def O0 (l:List Nat):List Int:=l.map fun n:Nat=>(n:Int)
@[simp] theorem d0T (l:List Nat):(O0 l).length=l.length:=by simp [O0]
theorem f07 {l:List Nat} {i:Nat} (h:i<l.length):gt (O0 l) (i:Int)=((l[i]:Nat):Int):=I3 (by simp [O0,h])
theorem A6 {l:List Nat} {i:Nat} (h:i<l.length):y0 (O0 l) (i:Int)=true:=P0 (by omega) (by simp;omega)
def D4 (fD:Nat->Nat->Int) (U2:Int) (i:Nat):Int:=if U2<0 then (i:Int) else if 0<fD i U2.toNat then (i:Int) else U2
def R5 (fD:Nat->Nat->Int) (of:List Nat):Int:=of.foldl (D4 fD) (-1)
theorem g0W {α:Type} {l:List α} {i:Nat} (h:i<l.length):l.take (i+1)=l.take i++[l[i]]:=by rw [List.take_succ,List.getElem?_eq_getElem h];rfl
theorem u0M (fD:Nat->Nat->Int) (l:List Nat) (i:Nat):R5 fD (l++[i])=D4 fD (R5 fD l) i:=by simp [R5]
theorem d0g {n:Nat} {fD:Nat->Nat->Int} (of:List Nat) (h:∀ i∈of,i<n):R5 fD of=-1\/∃ k:Nat,R5 fD of=k/\k<n:=by
 have:∀ (of:List Nat) (b:Int),(b=-1\/∃ k:Nat,b=k/\k<n)->(∀ i∈of,i<n)->(of.foldl (D4 fD) b=-1\/∃ k:Nat,of.foldl (D4 fD) b=k/\k<n):=by
  intro of
  induction of with
  |nil=>intro b hb _;exact hb
  |
   cons x r ih=>
   intro b hb hi;refine ih _ ?_ (fun i h=>hi i (List.mem_cons_of_mem _ h));have hx:=hi x (by simp);unfold D4;split
   ·exact .inr ⟨x,rfl,hx⟩
   ·split
    ·exact .inr ⟨x,rfl,hx⟩
    ·exact hb
 exact this of (-1) (.inl rfl) h
section
variable {F n:Nat} {fB fD:Nat->Nat->Int}
theorem A02 (hn:n<=1000) (hf:2000<F) (h:e8 n fB fD) (of:List Nat) (hof:of.length<=1000) (hi:∀ i∈of,i<n):k0O F (O1 n fB fD) (O0 of)=some (R5 fD of):=by
 unfold k0O;rw [j0O hn hf h];simp only [E0,Bool.not_true,false_eq_true,if_false,z6];have:=V2 (step:=k05 F (O1 n fB fD) (O0 of)) (fun i=>(R5 fD (of.take i),(i:Int))) (R5 fD of) of.length (fun i hil=>.inl ?_) ?_ of.length 0 F (by omega) (by omega)
 ·exact this
 ·unfold k05 e0y;have h1:(i:Int)<((O0 of).length:Int):=by simp;omega
  have hx:=hi of[i] (getElem_mem hil);have h2:((of[i]:Nat):Int)>=0:=by omega
  have h3:((of[i]:Nat):Int)<((O1 n fB fD).B.length:Int):=by simp [O1];omega
  simp only [h1,decide_true,if_true,A6 hil,f07 hil,h2,h3,E0,z6,g0W hil,u0M,E2 (i:=i) (by omega)];have hb:=d0g (fD:=fD) (of.take i) (n:=n) (fun i h=>hi i (List.mem_of_mem_take h));generalize R5 fD (of.take i)=b at *;rcases hb with rfl | ⟨k,rfl,hk⟩
  ·simp [D4,E0]
  ·have hk0:¬ ((k:Int)<0):=by omega
   simp only [O1,hk0,decide_false,false_eq_true,if_false,P5 _ hx,F5 _ hx,l6 _ hk,j8 _ hk,if_true,E0,D4,toNat_natCast]
   by_cases h4:0<fD of[i] k
   ·have h4':fD of[i] k>0:=h4;simp [h4,E0]
   ·simp [h4,E0]
 ·unfold k05;have h1:¬ ((of.length:Int)<((O0 of).length:Int)):=by simp
  simp only [h1,decide_false,if_false,false_eq_true,take_length]
theorem w0Y (hn:n<=1000) (hf:2000<F) (h:e8 n fB fD) (of:List Nat) (hof:of.length<=1000) (hi:∀ i∈of,i<n):j0F F (O1 n fB fD) (O0 of)=some (R5 fD of):=by
 unfold j0F;have hlen:((O1 n fB fD).B.length:Int)=(n:Int):=by simp [O1]
 rw [z6];have:=V2 (step:=k0g F (O1 n fB fD) (O0 of)) (fun i=>(R5 fD (of.take i),(i:Int))) (R5 fD of) of.length (fun i hil=>.inl ?_) ?_ of.length 0 F (by omega) (by omega)
 ·exact this
 ·unfold k0g;have h1:(i:Int)<((O0 of).length:Int):=by simp;omega
  have hx:=hi of[i] (getElem_mem hil);have h2:¬ ((of[i]:Nat):Int)<0:=by omega
  have h3:¬ ((of[i]:Nat):Int)>=(n:Int):=by omega
  simp only [hlen,e0V hn hf h,h1,decide_true,if_true,A6 hil,f07 hil,h2,h3,decide_false,false_eq_true,if_false,E0,z6,g0W hil,u0M,E2 (i:=i) (by omega)];have hb:=d0g (fD:=fD) (of.take i) (n:=n) (fun i h=>hi i (List.mem_of_mem_take h));generalize R5 fD (of.take i)=b at *;rcases hb with rfl | ⟨k,rfl,hk⟩
  ·simp [D4,E0]
  ·have hk0:¬ ((k:Int)<0):=by omega
   simp only [O1,hk0,decide_false,false_eq_true,if_false,P5 _ hx,F5 _ hx,l6 _ hk,j8 _ hk,if_true,E0,D4,toNat_natCast]
   by_cases h4:0<fD of[i] k
   ·simp [h4,E0]
   ·simp [h4,E0]
 ·unfold k0g;have h1:¬ ((of.length:Int)<((O0 of).length:Int)):=by simp
  simp only [hlen,e0V hn hf h,h1,decide_false,if_true,if_false,false_eq_true,take_length,E0]
end
def K7 (b t:Int):Int:=if W (t+1)<b then W (t+1) else b
def N7 (fB fD:Nat->Nat->Int) (a b:Nat) (p q:B0):Int:=
 if K7 (fB a b) p.Turn>K7 (fB b a) q.Turn then 1 else if K7 (fB a b) p.Turn<K7 (fB b a) q.Turn then -1 else fD a b
def c09 (fB fD:Nat->Nat->Int) (fr:List Nat) (hops:List B0) (U2:Int) (i:Nat):Int:=
 if U2<0 then (i:Int) else if 0<N7 fB fD (fr.getD i 0) (fr.getD U2.toNat 0) (gt hops (i:Int)) (gt hops U2) then (i:Int) else U2
def b0f (fB fD:Nat->Nat->Int) (fr:List Nat) (hops:List B0) (k:Nat):Int:=(List.range k).foldl (c09 fB fD fr hops) (-1)
def d0z (fB fD:Nat->Nat->Int) (fr:List Nat) (hops:List B0):Int:=b0f fB fD fr hops fr.length
theorem l0M (fB fD:Nat->Nat->Int) (fr:List Nat) (hops:List B0) (k:Nat):b0f fB fD fr hops (k+1)=c09 fB fD fr hops (b0f fB fD fr hops k) k:=by simp [b0f,List.range_succ]
theorem n0X (fB fD:Nat->Nat->Int) (fr:List Nat) (hops:List B0):∀ k,b0f fB fD fr hops k=-1\/∃ j:Nat,b0f fB fD fr hops k=j/\j<k:=by
 intro k
 induction k with
 |zero=>exact .inl rfl
 |
  succ k ih=>
  rw [l0M];unfold c09;split
  ·exact .inr ⟨k,rfl,by omega⟩
  ·split
   ·exact .inr ⟨k,rfl,by omega⟩
   ·rcases ih with h | ⟨j,h,hj⟩
    ·exact .inl h
    ·exact .inr ⟨j,h,by omega⟩
section
variable {F n:Nat} {fB fD:Nat->Nat->Int} {fr:List Nat} {hops:List B0}
theorem e7 {l:List Nat} {i:Nat} (h:i<l.length):gt (O0 l) (i:Int)=((l.getD i 0:Nat):Int):=by rw [f07 h];simp [List.getD,h]
theorem T6 (hi:∀ i∈fr,i<n) {i:Nat} (h:i<fr.length):fr.getD i 0<n:=by
 have:=hi fr[i] (getElem_mem h);simpa [List.getD,h] using this
theorem k0j (hlen:hops.length=fr.length) (hi:∀ i∈fr,i<n) {i k:Nat} (h1:i<fr.length) (h2:k<fr.length) :
  d0X F ⟨O1 n fB fD,O0 fr,hops⟩ (i:Int) (k:Int)=some (K7 (fB (fr.getD i 0) (fr.getD k 0)) (gt hops (i:Int)).Turn):=by
 have x1:=T6 hi h1;have x2:=T6 hi h2;unfold d0X K7;simp only [O1,A6 h1,A6 h2,e7 h1,e7 h2,P5 _ x1,F5 _ x1,l6 _ x2,j8 _ x2,if_true,P0 (l:=hops) (i:=(i:Int)) (by omega) (by omega)]
theorem u0L (hlen:hops.length=fr.length) (hi:∀ i∈fr,i<n) {i k:Nat} (h1:i<fr.length) (h2:k<fr.length) :
  g0u F ⟨O1 n fB fD,O0 fr,hops⟩ (i:Int) (k:Int)=some (N7 fB fD (fr.getD i 0) (fr.getD k 0) (gt hops (i:Int)) (gt hops (k:Int))):=by
 have x1:=T6 hi h1;have x2:=T6 hi h2;unfold g0u N7;rw [k0j hlen hi h1 h2,k0j hlen hi h2 h1];simp only [E0,O1,A6 h1,A6 h2,e7 h1,e7 h2,P5 _ x1,F5 _ x1,l6 _ x2,j8 _ x2,if_true,decide_eq_true_eq];split
 ·rfl
 ·split<;>rfl
theorem q0H (b t:Int):e0U F b t=some (K7 b t):=by
 unfold e0U K7
 by_cases h:b<W (t+1)
 ·simp only [h,decide_true,if_true];rw [if_neg (by omega)]
 ·simp only [h,decide_false,if_false,false_eq_true]
  by_cases h2:W (t+1)<b
  ·rw [if_pos h2]
  ·rw [if_neg h2];congr 1;omega
theorem t0N {a b:Nat} (ha:a<n) (hb:b<n) (p q:B0):h0A F (O1 n fB fD) (a:Int) (b:Int) p q=some (N7 fB fD a b p q):=by
 unfold h0A N7;simp only [O1,P5 _ ha,P5 _ hb,F5 _ ha,F5 _ hb,l6 _ ha,l6 _ hb,j8 _ ha,j8 _ hb,if_true,q0H,E0,decide_eq_true_eq];split
 ·rfl
 ·split<;>rfl
theorem G0v (hn:n<=1000) (hf:2000<F) (h:e8 n fB fD) (hlen:hops.length=fr.length) (hfr:fr.length<=1000) (hi:∀ i∈fr,i<n):h0Y F (O1 n fB fD) (O0 fr) hops=some (d0z fB fD fr hops):=by
 unfold h0Y;rw [j0O hn hf h];have hx2:(if (hops.length:Int)<((O0 fr).length:Int) then (hops.length:Int) else ((O0 fr).length:Int))=(fr.length:Int):=by rw [d0T,hlen];simp
 simp only [E0,Bool.not_true,false_eq_true,if_false,z6,hx2];have:=V2 (step:=l0G F (O1 n fB fD) (O0 fr) hops (fr.length:Int)) (fun i=>(b0f fB fD fr hops i,(i:Int))) (d0z fB fD fr hops) fr.length (fun i hil=>.inl ?_) ?_ fr.length 0 F (by omega) (by omega)
 ·exact this
 ·unfold l0G e0y;have h1:(i:Int)<(fr.length:Int):=by omega
  have hx:=T6 hi hil;have h2:((fr.getD i 0:Nat):Int)>=0:=by omega
  have h3:((fr.getD i 0:Nat):Int)<((O1 n fB fD).B.length:Int):=by simp only [O1,k07];omega
  simp only [h1,decide_true,if_true,A6 hil,e7 hil,h2,h3,E0,z6,l0M,E2 (i:=i) (by omega)];have hb:=n0X fB fD fr hops i;generalize b0f fB fD fr hops i=b at *;rcases hb with rfl | ⟨k,rfl,hk⟩
  ·simp [c09,E0]
  ·have hk0:¬ ((k:Int)<0):=by omega
   simp only [hk0,decide_false,false_eq_true,if_false,u0L hlen hi hil (show k<fr.length by omega),E0,c09,toNat_natCast]
   by_cases h4:0<N7 fB fD (fr.getD i 0) (fr.getD k 0) (gt hops (i:Int)) (gt hops (k:Int))
   ·have h4':N7 fB fD (fr.getD i 0) (fr.getD k 0) (gt hops (i:Int)) (gt hops (k:Int))>0:=h4;simp only [h4,h4',decide_true,if_true,E0]
   ·have h4':¬ N7 fB fD (fr.getD i 0) (fr.getD k 0) (gt hops (i:Int)) (gt hops (k:Int))>0:=h4;simp only [h4,h4',decide_false,false_eq_true,if_false,E0]
 ·unfold l0G;have h1:¬ ((fr.length:Int)<(fr.length:Int)):=by omega
  simp only [h1,decide_false,if_false,false_eq_true];rfl
theorem D03 (hn:n<=1000) (hf:2000<F) (h:e8 n fB fD) (hlen:hops.length=fr.length) (hfr:fr.length<=1000) (hi:∀ i∈fr,i<n):h0g F (O1 n fB fD) (O0 fr) hops=some (d0z fB fD fr hops):=by
 unfold h0g;have hln:((O1 n fB fD).B.length:Int)=(n:Int):=by simp [O1]
 rw [z6];have:=V2 (step:=i02 F (O1 n fB fD) (O0 fr) hops) (fun i=>(b0f fB fD fr hops i,(i:Int))) (d0z fB fD fr hops) fr.length (fun i hil=>.inl ?_) ?_ fr.length 0 F (by omega) (by omega)
 ·exact this
 ·unfold i02;have h1:(i:Int)<((O0 fr).length:Int):=by simp;omega
  have h1':(i:Int)<(hops.length:Int):=by omega
  have hx:=T6 hi hil;have h2:¬ ((fr.getD i 0:Nat):Int)<0:=by omega
  have h3:¬ ((fr.getD i 0:Nat):Int)>=(n:Int):=by omega
  have hih:y0 hops (i:Int)=true:=P0 (by omega) h1';simp only [hln,e0V hn hf h,h1,h1',decide_true,if_true,A6 hil,e7 hil,h2,h3,decide_false,false_eq_true,if_false,E0,z6,l0M,E2 (i:=i) (by omega),hih];have hb:=n0X fB fD fr hops i;generalize b0f fB fD fr hops i=b at *;rcases hb with rfl | ⟨k,rfl,hk⟩
  ·simp [c09,E0]
  ·have hk0:¬ ((k:Int)<0):=by omega
   have hkl:k<fr.length:=by omega
   have hkh:y0 hops (k:Int)=true:=P0 (by omega) (by omega);simp only [hk0,decide_false,false_eq_true,if_false,A6 hkl,e7 hkl,hkh,if_true,t0N hx (T6 hi hkl),E0,c09,toNat_natCast]
   by_cases h4:0<N7 fB fD (fr.getD i 0) (fr.getD k 0) (gt hops (i:Int)) (gt hops (k:Int))
   ·have h4':N7 fB fD (fr.getD i 0) (fr.getD k 0) (gt hops (i:Int)) (gt hops (k:Int))>0:=h4;simp only [h4,h4',decide_true,if_true,E0]
   ·have h4':¬ N7 fB fD (fr.getD i 0) (fr.getD k 0) (gt hops (i:Int)) (gt hops (k:Int))>0:=h4;simp only [h4,h4',decide_false,false_eq_true,if_false,E0]
 ·unfold i02;have h1:¬ ((fr.length:Int)<((O0 fr).length:Int)):=by simp
  simp only [hln,e0V hn hf h,h1,decide_false,if_true,if_false,false_eq_true,E0];rfl
end
def a6 (now none_:Int) (tags:List Int) (marks:List P2):List Int:=marks.foldl (L4 now none_) tags
theorem F0U (now none_:Int) (o:List Int) (m:P2):(L4 now none_ o m).length=o.length:=by
 unfold L4;split
 ·rfl
 ·split
  ·simp
  ·split
   ·simp
   ·split
    ·simp
    ·rfl
theorem c0B (now none_:Int):∀ (marks:List P2) (o:List Int),(a6 now none_ o marks).length=o.length
 |[],o=>rfl
 |
  m :: r,o=>by
  have h:=c0B now none_ r (L4 now none_ o m);rw [F0U] at h;exact h
section
variable {F:Nat}
theorem m07 {tags:List Int} {marks:List P2} {now none_:Int} (ht:tags.length<=1000) (hm:marks.length<=1000000000):c01 F tags marks now none_=some (a6 now none_ tags marks):=by
 unfold c01;rw [if_pos (by simp [I0];omega)];rfl
theorem F0F {marks:List P2} {now none_:Int} {o:List Int} (ho:o.length<=1000) {i:Nat} (hi:i<marks.length) (hm:marks.length<=1000000000) :
  i0f F marks now none_ ((i:Int),o)=some (.next (((i+1:Nat):Int),L4 now none_ o (gt marks (i:Int)))):=by
 unfold i0f L4;have h1:(i:Int)<(marks.length:Int):=by omega
 have hin:y0 marks (i:Int)=true:=P0 (by omega) h1;simp only [h1,decide_true,if_true,hin,E2 (i:=i) (by omega)];generalize gt marks (i:Int)=m
 by_cases h2:m.Group<1
 ·simp [h2,E0]
 ·by_cases h3:m.Group>(o.length:Int)
  ·have h4:((o.length:Int)-1) / 2<m.Group:=by omega
   simp [h2,h3,h4,E0]
  ·have hW:W (2*m.Group)=2*m.Group:=Z2 (by omega) (by omega);have hW2:W (2*m.Group-1)=2*m.Group-1:=Z2 (by omega) (by omega);simp only [h2,h3,decide_false,false_eq_true,if_false,E0,hW,hW2]
   by_cases h5:2*m.Group>=(o.length:Int)
   ·have h4:((o.length:Int)-1) / 2<m.Group:=by omega
    simp only [h5,h4,decide_true,or_true,if_true,E0]
   ·have h4:¬ ((o.length:Int)-1) / 2<m.Group:=by omega
    have hi1:y0 o (2*m.Group-1)=true:=P0 (by omega) (by omega);have hi2:y0 o (2*m.Group)=true:=P0 (by omega) (by omega);have hi3:y0 (o.set (2*m.Group-1).toNat none_) (2*m.Group)=true:=P0 (by omega) (by simp;omega);simp only [h5,h4,decide_false,or_self,false_eq_true,if_false,hi1,hi2,hi3,if_true,beq_iff_eq]
    by_cases k1:m.Kind=1
    ·simp [k1,E0]
    ·by_cases k2:m.Kind=2
     ·simp [k2,E0]
     ·by_cases k3:m.Kind=3
      ·simp [k3,E0]
      ·simp [k1,k2,k3,E0]
theorem m0B {tags:List Int} {marks:List P2} {now none_:Int} (ht:tags.length<=1000) (hm:marks.length<=1000000000) (hf:marks.length<F):g0e F tags marks now none_=some (a6 now none_ tags marks):=by
 unfold g0e;rw [if_pos (by simp [I0];omega),z6,List.nil_append];have:=V2 (step:=i0f F marks now none_) (fun i=>((i:Int),a6 now none_ tags (marks.take i))) (a6 now none_ tags marks) marks.length (fun i hi=>.inl ?_) ?_ marks.length 0 F (by omega) hf
 ·exact this
 ·rw [F0F (by rw [c0B];exact ht) hi hm];have hs:marks.take (i+1)=marks.take i++[gt marks (i:Int)]:=by rw [List.take_succ,E4 hi];rfl
  simp only [a6,hs,List.foldl_append,List.foldl_cons,List.foldl_nil]
 ·unfold i0f;have h1:¬ ((marks.length:Int)<(marks.length:Int)):=by omega
  simp only [h1,decide_false,if_false,false_eq_true,take_length]
theorem D0G {n:Nat} {x:Int} (h0:1<=n) (hn:n<=1000):k0C F (n:Int) x=some (List.replicate n x):=by
 unfold k0C p0p;have h1:¬ (n:Int)<1:=by omega
 have h2:(decide ((0:Int)<=(n:Int))&&decide ((n:Int)<=1000))=true:=by simp;omega
 simp only [h1,decide_false,false_eq_true,if_false,z6,Go.X.g07,h2,if_true,toNat_natCast]
theorem E0E {n:Nat} {x:Int} (hn:n<=1000) (hf:2000<F):k0i F (n:Int) x=some (List.replicate n x):=by
 unfold k0i;rw [z6];have:=V2 (step:=l0C F (n:Int) x) (fun i=>(List.replicate i x,(i:Int))) (List.replicate n x) n (fun i hi=>.inl ?_) ?_ n 0 F (by omega) (by omega)
 ·exact this
 ·unfold l0C;have h1:(i:Int)<(n:Int):=by omega
  have hap:I0 8 (List.replicate i x) [x]=true:=by simp [I0];omega
  simp only [h1,decide_true,if_true,hap,List.replicate_succ',E2 (i:=i) (by omega)]
 ·unfold l0C;have h1:¬ ((n:Int)<(n:Int)):=by omega
  simp only [h1,decide_false,if_false,false_eq_true]
end
structure Q4 (l:List D0) (n:Nat) (a:List B0) (b:Nat->List B0) (e:Nat->B0×Bool) (z:B0×Bool) (F:Nat):Prop where
 hR:J2 l=true
 hl:l.length*64<=140737488351232
 hn:n=N0 l l.length
 T:n0i l n a b e z
 f1:2000001<F
 f2:l.length+1<F
 f3:1000000000<F
 TF:p0R l n a b e z F
def Z8 (l:List D0) (at_:Int):List Int:=(List.replicate (T3 l).toNat (-1)).set 0 at_
theorem l8 (l:List D0):1<=T3 l/\T3 l<=19:=by have:=p0e l;unfold T3;omega
theorem l0a (l:List D0) (at_:Int):(Z8 l at_).length=(T3 l).toNat:=by simp [Z8]
section
variable {l:List D0} {n:Nat} {a:List B0} {b:Nat->List B0} {e:Nat->B0×Bool} {z:B0×Bool} {F:Nat} {at_ work:Int} {pl:List Nat} {vals:List (List Int)} {fB fD:Nat->Nat->Int}
def mkC (l:List D0) (n:Nat) (a:List B0) (b:Nat->List B0) (e:Nat->B0×Bool) (z:B0×Bool) (at_ work:Int) (pl:List Nat) (vals:List (List Int)) (fB fD:Nat->Nat->Int):b0Y:=
 ⟨I0J l n a b e z,at_,work,O0 pl,vals,O1 pl.length fB fD⟩
def O3 (l:List D0) (n:Nat) (a:List B0) (b:Nat->List B0) (e:Nat->B0×Bool) (at_ work:Int) (pl:List Nat) (vals:List (List Int)) (fB fD:Nat->Nat->Int):T5:=
 Q8 l n a b e at_ work (O0 pl) vals (O1 pl.length fB fD)
structure U3 (l:List D0) (n:Nat) (pl:List Nat) (vals:List (List Int)) (fB fD:Nat->Nat->Int):Prop where
 len:vals.length=pl.length
 pln:∀ p∈pl,p<n
 asc:pl.Pairwise fun a b=>a<b
 row:∀ v∈vals,v.length=(T3 l).toNat
 rk:e8 pl.length fB fD
theorem u0Q {n:Nat}:∀ {pl:List Nat} {lo:Nat},(∀ p∈pl,lo<=p/\p<n)->pl.Pairwise (fun a b=>a<b)->pl.length+lo<=n\/pl=[]
 |[],_,_,_=>.inr rfl
 |
  x :: r,lo,h,hp=>by
  obtain ⟨h1,h2⟩:=List.pairwise_cons.1 hp;have hx:=h x (by simp);rcases u0Q (pl:=r) (lo:=x+1) (fun p hp=>⟨h1 p hp,(h p (List.mem_cons_of_mem _ hp)).2⟩) h2 with h3 | h3
  ·refine .inl ?_;simp only [List.length_cons];omega
  ·subst h3;refine .inl ?_;simp only [List.length_cons,List.length_nil];omega
theorem U3.le (h:U3 l n pl vals fB fD):pl.length<=n:=by
 rcases u0Q (lo:=0) (fun p hp=>⟨Nat.zero_le _,h.pln p hp⟩) h.asc with h1 | h1
 ·omega
 ·simp [h1]
theorem u0U (K:Q4 l n a b e z F) (c:T5) (hc:c.L=l):e0Y F c=some (Z8 l c.At):=by
 have ht:=l8 l;have f1:=K.f1;obtain ⟨t,hT⟩:∃ t:Nat,T3 l=t:=⟨(T3 l).toNat,by omega⟩
 unfold e0Y Z8;rw [hc,t0W K.hR K.hl (by omega) K.f2,hT];simp only [E0,E0E (F:=F) (n:=t) (x:=-1) (by omega) (by omega),toNat_natCast];rw [if_pos (P0 (by omega) (by simp;omega))];rfl
def W9 (l:List D0) (z:B0×Bool) (at_:Int):List Int×Bool:=if z.2 then (a6 at_ (-1) (Z8 l at_) (j5 l z.1.Steps),true) else ([],false)
theorem y0B (K:Q4 l n a b e z F):j04 F (O3 l n a b e at_ work pl vals fB fD)=some (W9 l z at_):=by
 have ht:=l8 l;have f1:=K.f1;have f3:=K.f3;have hz:=K.T.zl;have hol:=d0w l z.1.Steps;unfold j04 W9;rw [u0U K _ rfl];simp only [O3,Q8,K.TF.rZ,E0];cases z.2
 ·simp
 ·simp only [Bool.not_true,false_eq_true,if_false,if_true,o0h K.hR K.hl (show z.1.Steps.length<=2000000 by omega) K.f1 K.f2 (n3.sok K.T.zb),E0];rw [m0B (by rw [l0a];omega) (by omega) (by omega)];rfl
theorem m0c {β:Type} [Inhabited β] {f:Nat->β} {p:Nat} (h:p<n):gt ((List.range n).map f) (p:Int)=f p:=I3 (by simp [h])
theorem m03 {β:Type} {f:Nat->β} {p:Nat} (h:p<n):y0 ((List.range n).map f) (p:Int)=true:=P0 (by omega) (by simp;omega)
def l5 (e:Nat->B0×Bool) (pl:List Nat) (k:Nat):List Nat:=(List.range k).filter fun i=>(e (pl.getD i 0)).2
theorem s09 (e:Nat->B0×Bool) (pl:List Nat) (k:Nat):l5 e pl (k+1)=if (e (pl.getD k 0)).2 then l5 e pl k++[k] else l5 e pl k:=by
 unfold l5;rw [List.range_succ,List.filter_append]
 by_cases h:(e (pl.getD k 0)).2=true
 ·simp only [h,if_true,List.filter_cons,List.filter_nil]
 ·have h:(e (pl.getD k 0)).2=false:=by simpa using h
  simp only [h,false_eq_true,if_false,List.filter_cons,List.filter_nil,List.append_nil]
theorem l0w (e:Nat->B0×Bool) (pl:List Nat) (k:Nat):(l5 e pl k).length<=k:=Nat.le_trans (List.length_filter_le _ _) (by simp)
theorem c0P {k i:Nat} (h:i∈l5 e pl k):i<k:=mem_range.1 (List.mem_filter.1 h).1
theorem c0c (r:List Nat) (i:Nat):O0 (r++[i])=O0 r++[(i:Int)]:=by simp [O0]
def c0r (l:List D0) (e:Nat->B0×Bool) (at_:Int) (pl:List Nat) (vals:List (List Int)) (fD:Nat->Nat->Int):List Int×Bool:=
 if R5 fD (l5 e pl pl.length)<0 then ([],false) else (a6 at_ (-1) (gt vals (R5 fD (l5 e pl pl.length))) (j5 l (e (pl.getD (R5 fD (l5 e pl pl.length)).toNat 0)).1.Steps),true)
theorem t04 (C:U3 l n pl vals fB fD) {k:Nat} (hk:k<pl.length):(gt vals (k:Int)).length<=1000:=by
 have ht:=l8 l;have:=C.row _ (List.mem_of_getElem? (E4 (l:=vals) (i:=k) (by rw [C.len];exact hk)));omega
theorem F0c (K:Q4 l n a b e z F) (C:U3 l n pl vals fB fD):f00 F (O3 l n a b e at_ work pl vals fB fD)=some (c0r l e at_ pl vals fD):=by
 have f1:=K.f1;have f3:=K.f3;have hm:=C.le;have hn:=K.T.n64;unfold f00 c0r;have:=V2 (step:=h0u F (O3 l n a b e at_ work pl vals fB fD)) (fun i=>(O0 (l5 e pl i),(i:Int))) (O0 (l5 e pl pl.length)) pl.length (fun i hi=>.inl ?_) ?_ pl.length 0 F (by omega) (by omega)
 ·have h2:iter (h0u F (O3 l n a b e at_ work pl vals fB fD)) F ([],0)=_:=this;rw [h2];simp only [E0,O3,Q8];rw [w0Y (by omega) (by omega) C.rk _ (by have:=l0w e pl pl.length;omega) (fun i h=>c0P h)];rcases d0g (fD:=fD) (l5 e pl pl.length) (n:=pl.length) (fun i h=>c0P h) with hb | ⟨k,hb,hk⟩
  ·rw [hb];rfl
  ·have hp:=T6 C.pln hk;have hk0:¬ ((k:Int)<0):=by omega
   have hel:=K.T.el _ hp;have hol:=d0w l (e (pl.getD k 0)).1.Steps;rw [hb];simp only [E0,hk0,decide_false,false_eq_true,if_false,P0 (l:=vals) (i:=(k:Int)) (by omega) (by rw [C.len];omega),A6 hk,e7 hk,m03 hp,m0c hp,if_true,toNat_natCast];rw [o0h K.hR K.hl (by omega) K.f1 K.f2 (n3.sok (K.T.eb _ hp)),E0,m0B (t04 C hk) (by omega) (by omega)];rfl
 ·unfold h0u;have h1:(i:Int)<((O0 pl).length:Int):=by simp;omega
  have hp:=T6 C.pln hi;have hap:I0 8 (O0 (l5 e pl i)) [(i:Int)]=true:=by have:=l0w e pl i;simp [I0];omega
  have he:decide (((e (pl.getD i 0)).1.Steps.length:Int)>0)=(e (pl.getD i 0)).2:=by
   rw [K.T.e0 _ hp];cases (e (pl.getD i 0)).1.Steps with
   |nil=>simp
   |cons x r=>simp
  simp only [O3,Q8,h1,decide_true,if_true,A6 hi,e7 hi,m03 hp,m0c hp,hap,E2 (i:=i) (by omega),s09,he]
  by_cases h2:(e (pl.getD i 0)).2=true
  ·simp only [h2,if_true,E0,c0c]
  ·have h2:(e (pl.getD i 0)).2=false:=by simpa using h2
   simp only [h2,false_eq_true,if_false,E0]
 ·unfold h0u;have h1:¬ ((pl.length:Int)<((O0 pl).length:Int)):=by simp
  simp only [O3,Q8,h1,decide_false,if_false,false_eq_true]
end
section
variable {F:Nat}
theorem l0F {x:List Int} (h:x.length<=1000000) (hf:2000001<F):F9 F x x=some true:=by
 unfold F9;simp only [bne_self_eq_false,false_eq_true,if_false];have:=V2 (step:=i0C F x x) (fun i=>(i:Int)) (.inr ()) x.length (fun i hi=>.inl ?_) ?_ x.length 0 F (by omega) (by omega)
 ·have h2:iter (i0C F x x) F 0=_:=this;rw [h2];rfl
 ·unfold i0C;have h1:(i:Int)<(x.length:Int):=by omega
  simp only [h1,decide_true,if_true,P0 (l:=x) (i:=(i:Int)) (by omega) h1,bne_self_eq_false,false_eq_true,if_false,E2 (i:=i) (by omega)]
 ·unfold i0C;have h1:¬ ((x.length:Int)<(x.length:Int)):=by omega
  simp only [h1,decide_false,if_false,false_eq_true]
variable {l:List D0} {n:Nat} {a:List B0} {b:Nat->List B0} {e:Nat->B0×Bool} {z:B0×Bool} {at_ work:Int} {pl:List Nat} {vals:List (List Int)} {fB fD:Nat->Nat->Int}
theorem B0x:(W9 l z at_).1.length<=1000:=by
 have ht:=l8 l;unfold W9;split
 ·rw [c0B,l0a];omega
 ·simp
end
