/- Ranks: the program and the document tell the same. Which run is ahead: the program and the document tell the same. The pick among runs that come to one place: the program and the document tell the same. Tags behind marks: the program and the document tell the same. A crowd of runs: what is U2, and what begins and ends here. What is the same as itself. Runs that are let go: the program and the document tell the same. Runs that are let go: the document's side. The deepest node that two are in, and how deep it lies. Its conditions: none. -/
import Derived.Test.YtdficaoajalfaaaGreatWG42
open Bool (false_eq_true)
open List (mem_range ext_getElem getElem_map getElem_range length_range mem_map)
open Nat (zero_le lt_or_ge)
set_option linter.all false
namespace Go.Proofs.YtdficaoajalfaaaGreat
open Go.V Go.RowKit Old
def E3 (n:Nat) (f:Nat->Int):List Int:=(List.range n).map f
def Q0 (m n:Nat) (f:Nat->Nat->Int):List (List Int):=(List.range m).map fun i=>E3 n (f i)
def O1 (n:Nat) (fB fD:Nat->Nat->Int):E1:=⟨Q0 n n fB,Q0 n n fD⟩
@[simp] theorem h0f (n:Nat) (f:Nat->Int):(E3 n f).length=n:=by simp [E3]
@[simp] theorem k07 (m n:Nat) (f:Nat->Nat->Int):(Q0 m n f).length=m:=by simp [Q0]
theorem j8 {n i:Nat} (f:Nat->Int) (h:i<n):gt (E3 n f) (i:Int)=f i:=I3 (by simp [E3,h])
theorem F5 {m n i:Nat} (f:Nat->Nat->Int) (h:i<m):gt (Q0 m n f) (i:Int)=E3 n (f i):=I3 (by simp [Q0,h])
theorem l6 {n i:Nat} (f:Nat->Int) (h:i<n):y0 (E3 n f) (i:Int)=true:=P0 (by omega) (by simp;omega)
theorem P5 {m n i:Nat} (f:Nat->Nat->Int) (h:i<m):y0 (Q0 m n f) (i:Int)=true:=P0 (by omega) (by simp;omega)
theorem E2 {i:Nat} (h:i<=1000000000):W ((i:Int)+1)=((i+1:Nat):Int):=by rw [Z2 (by omega) (by omega)];omega
structure e8 (n:Nat) (fB fD:Nat->Nat->Int):Prop where
 b0:∀ i k,i<n->k<n->0<=fB i k
 bd:∀ i,i<n->fB i i=0
 dd:∀ i,i<n->fD i i=0
 d1:∀ i k,i<n->k<n->i≠k->fD i k=1\/fD i k=-1
 dn:∀ i k,i<n->k<n->fD k i=- fD i k
section
variable {F n:Nat} {fB fD:Nat->Nat->Int}
theorem B0o (hn:n<=1000) (hf:2000<F) (f:Nat->Nat->Int):i0M F (Q0 n n f) (n:Int)=some true:=by
 unfold i0M;have:=V2 (step:=g06 F (Q0 n n f) (n:Int)) (fun i=>(i:Int)) (.inr ()) n (fun i hi=>.inl ?_) ?_ n 0 F (by omega) (by omega)
 ·have h2:iter (g06 F (Q0 n n f) (n:Int)) F 0=_:=this;rw [h2];simp [E0]
 ·unfold g06;have h1:(i:Int)<((Q0 n n f).length:Int):=by simp;omega
  simp only [h1,decide_true,if_true,P5 f hi,F5 f hi,h0f,bne_self_eq_false,false_eq_true,if_false,E2 (i:=i) (by omega)]
 ·unfold g06;have h1:¬ ((n:Int)<((Q0 n n f).length:Int)):=by simp
  simp only [h1,decide_false,if_false,false_eq_true]
theorem u0X (hn:n<=1000) (hf:2000<F) (h:e8 n fB fD):h0O F (O1 n fB fD) (n:Int)=some true:=by
 unfold h0O O1;simp only [B0o hn hf,E0,Bool.not_true,false_eq_true,if_false];have:=V2 (step:=i0l F ⟨Q0 n n fB,Q0 n n fD⟩ (n:Int)) (fun i=>(i:Int)) (.inr ()) n (fun i hi=>.inl ?_) ?_ n 0 F (by omega) (by omega)
 ·have h2:iter (i0l F ⟨Q0 n n fB,Q0 n n fD⟩ (n:Int)) F 0=_:=this;rw [h2];rfl
 ·have hin:=V2 (step:=i0A F ⟨Q0 n n fB,Q0 n n fD⟩ (n:Int) (i:Int)) (fun k=>(k:Int)) (.inr ()) n (fun k hk=>.inl ?_) ?_ n 0 F (by omega) (by omega)
  ·have h2:iter (i0A F ⟨Q0 n n fB,Q0 n n fD⟩ (n:Int) (i:Int)) F 0=_:=hin;unfold i0l;have h1:(i:Int)<(n:Int):=by omega
   simp only [h1,decide_true,if_true,P5 _ hi,F5 _ hi,l6 _ hi,j8 _ hi,h.bd i hi,h.dd i hi,bne_self_eq_false,false_eq_true,if_false,E0,h2,E2 (i:=i) (by omega)]
  ·unfold i0A;have h1:(k:Int)<(n:Int):=by omega
   have hb:¬ fB i k<0:=by have:=h.b0 i k hi hk;omega
   have hd:=h.dn i k hi hk;have hW:W (0-fD i k)=- fD i k:=by
    by_cases e:i=k
    ·subst e;rw [h.dd i hi];rfl
    ·rcases h.d1 i k hi hk e with e | e<;>rw [e]<;>rfl
   simp only [h1,decide_true,if_true,P5 _ hi,P5 _ hk,F5 _ hi,F5 _ hk,l6 _ hi,l6 _ hk,j8 _ hi,j8 _ hk,hb,decide_false,false_eq_true,if_false,z6,hd,hW,bne_self_eq_false,E2 (i:=k) (by omega)]
   by_cases e:i=k
   ·subst e;simp [E0]
   ·have hne:((i:Int) != (k:Int))=true:=by simp;omega
    rcases h.d1 i k hi hk e with e2 | e2<;>simp [hne,e2,E0]
  ·unfold i0A;have h1:¬ ((n:Int)<(n:Int)):=by omega
   simp only [h1,decide_false,if_false,false_eq_true]
 ·unfold i0l;have h1:¬ ((n:Int)<(n:Int)):=by omega
  simp only [h1,decide_false,if_false,false_eq_true]
theorem j0O (hn:n<=1000) (hf:2000<F) (h:e8 n fB fD):d0J F (O1 n fB fD)=some true:=by
 unfold d0J;rw [z6,show ((O1 n fB fD).B.length:Int)=(n:Int) from by simp [O1],u0X hn hf h]
theorem e0V (hn:n<=1000) (hf:2000<F) (h:e8 n fB fD):e0q F (O1 n fB fD) (n:Int)=some true:=by
 unfold e0q O1;simp only [k07,bne_self_eq_false,false_eq_true,if_false,E0];have:=V2 (step:=h0d F ⟨Q0 n n fB,Q0 n n fD⟩ (n:Int)) (fun i=>(i:Int)) (.inr ()) n (fun i hi=>.inl ?_) ?_ n 0 F (by omega) (by omega)
 ·have h2:iter (h0d F ⟨Q0 n n fB,Q0 n n fD⟩ (n:Int)) F 0=_:=this;rw [h2];simp only [E0];have:=V2 (step:=h0C F ⟨Q0 n n fB,Q0 n n fD⟩ (n:Int)) (fun i=>(i:Int)) (.inr ()) n (fun i hi=>.inl ?_) ?_ n 0 F (by omega) (by omega)
  ·have h2:iter (h0C F ⟨Q0 n n fB,Q0 n n fD⟩ (n:Int)) F 0=_:=this;rw [h2];rfl
  ·have hin:=V2 (step:=i0k F ⟨Q0 n n fB,Q0 n n fD⟩ (n:Int) (i:Int)) (fun k=>(k:Int)) (.inr ()) n (fun k hk=>.inl ?_) ?_ n 0 F (by omega) (by omega)
   ·have h2:iter (i0k F ⟨Q0 n n fB,Q0 n n fD⟩ (n:Int) (i:Int)) F 0=_:=hin;unfold h0C;have h1:(i:Int)<(n:Int):=by omega
    simp only [h1,decide_true,if_true,h2,E0,E2 (i:=i) (by omega)]
   ·unfold i0k;have h1:(k:Int)<(n:Int):=by omega
    have hb:¬ fB i k<0:=by have:=h.b0 i k hi hk;omega
    have hd:=h.dn i k hi hk;have hW:W (0-fD i k)=- fD i k:=by
     by_cases e:i=k
     ·subst e;rw [h.dd i hi];rfl
     ·rcases h.d1 i k hi hk e with e | e<;>rw [e]<;>rfl
    simp only [h1,decide_true,if_true,P5 _ hi,P5 _ hk,F5 _ hi,F5 _ hk,l6 _ hi,l6 _ hk,j8 _ hi,j8 _ hk,hb,decide_false,false_eq_true,if_false,z6,hd,hW,bne_self_eq_false,E2 (i:=k) (by omega)]
    by_cases e:i=k
    ·subst e;simp [E0,h.bd i hi,h.dd i hi]
    ·have hne:((i:Int) != (k:Int))=true:=by simp;omega
     have hne':((i:Int)==(k:Int))=false:=by simp;omega
     rcases h.d1 i k hi hk e with e2 | e2<;>simp [hne,hne',e2,E0]
   ·unfold i0k;have h1:¬ ((n:Int)<(n:Int)):=by omega
    simp only [h1,decide_false,if_false,false_eq_true]
  ·unfold h0C;have h1:¬ ((n:Int)<(n:Int)):=by omega
   simp only [h1,decide_false,if_false,false_eq_true]
 ·unfold h0d;have h1:(i:Int)<(n:Int):=by omega
  simp only [h1,decide_true,if_true,P5 _ hi,F5 _ hi,h0f,bne_self_eq_false,false_eq_true,if_false,E0,E2 (i:=i) (by omega)]
 ·unfold h0d;have h1:¬ ((n:Int)<(n:Int)):=by omega
  simp only [h1,decide_false,if_false,false_eq_true]
end
theorem G00 {n:Nat} {f g:Nat->Int} (h:∀ k,k<n->f k=g k):E3 n f=E3 n g:=List.map_congr_left fun k hk=>h k (mem_range.1 hk)
theorem V7 {m n:Nat} {f g:Nat->Nat->Int} (h:∀ i k,i<m->k<n->f i k=g i k):Q0 m n f=Q0 m n g:=
 List.map_congr_left fun i hi=>G00 fun k hk=>h i k (mem_range.1 hi) hk
theorem f04 {n k:Nat} {f:Nat->Int} {v:Int}:(E3 n f).set k v=E3 n fun j=>if j=k then v else f j:=by
 refine ext_getElem (by simp) fun i h1 h2=>?_;simp only [E3,List.getElem_set,getElem_map,getElem_range]
 by_cases e:k=i
 ·simp [e]
 ·rw [if_neg e,if_neg (fun h=>e h.symm)]
theorem f0v {m n i:Nat} {f:Nat->Nat->Int} {g:Nat->Int}:(Q0 m n f).set i (E3 n g)=Q0 m n fun a=>if a=i then g else f a:=by
 refine ext_getElem (by simp) fun j h1 h2=>?_;simp only [Q0,List.getElem_set,getElem_map,getElem_range]
 by_cases e:i=j
 ·simp [e]
 ·rw [if_neg e,if_neg (fun h=>e h.symm)]
theorem q0L (n:Nat):List.replicate n (0:Int)=E3 n fun _=>0:=by
 refine ext_getElem (by simp) fun i h1 h2=>?_;simp [E3]
theorem C0O (m n:Nat):List.replicate m (E3 n fun _=>0)=Q0 m n fun _ _=>0:=by
 refine ext_getElem (by simp) fun i h1 h2=>?_;simp [Q0]
section
variable {F n:Nat} {fB fD:Nat->Nat->Int}
theorem r0N (hn:n<=1000) (hf:2000<F):e0G F (n:Int)=some (Q0 n n fun _ _=>0):=by
 unfold e0G;have hm1:B3 24 (n:Int)=true:=by simp [B3];omega
 have hm2:B3 8 (n:Int)=true:=by simp [B3];omega
 simp only [hm1,if_true,Int.toNat_natCast,List.length_replicate,z6];have:=V2 (step:=k0H F (n:Int) (n:Int)) (fun i=>((i:Int),List.replicate i (E3 n fun _=>0)++List.replicate (n-i) ([]:List Int))) (Q0 n n fun _ _=>0) n (fun i hi=>.inl ?_) ?_ n 0 F (by omega) (by omega)
 ·exact this
 ·unfold k0H;have h1:(i:Int)<(n:Int):=by omega
  have hin:y0 (List.replicate i (E3 n fun _=>0)++List.replicate (n-i) ([]:List Int)) (i:Int)=true:=P0 (by omega) (by simp;omega);have hset:(List.replicate i (E3 n fun _=>0)++List.replicate (n-i) ([]:List Int)).set i (E3 n fun _=>0)=List.replicate (i+1) (E3 n fun _=>0)++List.replicate (n-(i+1)) ([]:List Int):=by
   rw [List.set_append_right _ _ (by simp),List.length_replicate,Nat.sub_self,show n-i=(n-(i+1))+1 from by omega,List.replicate_succ,List.set_cons_zero,List.replicate_succ' (n:=i),List.append_assoc];rfl
  simp only [h1,decide_true,if_true,hm2,hin,Int.toNat_natCast,q0L,hset,E2 (i:=i) (by omega)]
 ·unfold k0H;have h1:¬ ((n:Int)<(n:Int)):=by omega
  simp only [h1,decide_false,if_false,false_eq_true,Nat.sub_self,List.replicate_zero,List.append_nil,C0O]
def a0T (n:Nat) (fB:Nat->Nat->Int) (i k:Nat):Int:=if i<n/\k<n then fB i k else 0
def a0S (n:Nat) (fD:Nat->Nat->Int) (i k:Nat):Int:=if i<n/\k<n then fD i k else if i<n/\k=n then 1 else if i=n/\k<n then -1 else 0
theorem D0W (h:e8 n fB fD):e8 (n+1) (a0T n fB) (a0S n fD) where
 b0 i k hi hk:=by unfold a0T;split;exact h.b0 i k (by omega) (by omega);omega
 bd i hi:=by unfold a0T;split;exact h.bd i (by omega);rfl
 dd i hi:=by
  unfold a0S;split
  ·exact h.dd i (by omega)
  ·rw [if_neg (by omega),if_neg (by omega)]
 d1 i k hi hk hne:=by
  unfold a0S
  by_cases h1:i<n/\k<n
  ·rw [if_pos h1];exact h.d1 i k h1.1 h1.2 hne
  ·rw [if_neg h1]
   by_cases h2:i<n/\k=n
   ·rw [if_pos h2];exact .inl rfl
   ·rw [if_neg h2,if_pos (by omega)];exact .inr rfl
 dn i k hi hk:=by
  unfold a0S
  by_cases h1:i<n/\k<n
  ·rw [if_pos h1,if_pos ⟨h1.2,h1.1⟩];exact h.dn i k h1.1 h1.2
  ·rw [if_neg h1,if_neg (fun h=>h1 ⟨h.2,h.1⟩)]
   by_cases h2:i<n/\k=n
   ·rw [if_pos h2,if_neg (by omega),if_pos ⟨h2.2,h2.1⟩]
   ·rw [if_neg h2]
    by_cases h3:i=n/\k<n
    ·rw [if_pos h3,if_pos ⟨h3.2,h3.1⟩];rfl
    ·rw [if_neg h3,if_neg (fun h=>h3 ⟨h.2,h.1⟩),if_neg (fun h=>h2 ⟨h.2,h.1⟩)];rfl
theorem w07 {m:Nat} (hm:n<=m) (f g:Nat->Int):M4 (E3 m f) (E3 n g)=E3 m fun k=>if k<n then g k else f k:=by
 unfold M4;rw [h0f,h0f,List.take_of_length_le (by simp;exact hm)];refine ext_getElem (by simp;omega) fun i h1 h2=>?_;simp only [h0f] at h2
 by_cases e:i<n
 ·rw [List.getElem_append_left (by simpa using e)];simp [E3,e]
 ·rw [List.getElem_append_right (by simp;omega)];simp only [E3,List.getElem_drop,List.length_map,length_range,getElem_map,getElem_range,if_neg e];congr 1;omega
def sB (n:Nat) (fB:Nat->Nat->Int) (i a k:Nat):Int:=if a<i/\k<n then fB a k else 0
def sD (n:Nat) (fD:Nat->Nat->Int) (i a k:Nat):Int:=if a<i/\k<n then fD a k else if a<i/\k=n then 1 else if a=n/\k<i then -1 else 0
theorem D0m (hn:n<=900) (hf:2000<F) (h:e8 n fB fD):i04 F (O1 n fB fD)=some (O1 (n+1) (a0T n fB) (a0S n fD)):=by
 unfold i04;rw [j0O (by omega) hf h];have hlen:((O1 n fB fD).B.length:Int)=(n:Int):=by simp [O1]
 simp only [E0,Bool.not_true,false_eq_true,if_false,hlen,E2 (i:=n) (by omega),r0N (n:=n+1) (F:=F) (by omega) hf];have:=V2 (step:=i0O F (O1 n fB fD)) (fun i=>((i:Int),Q0 (n+1) (n+1) (sB n fB i),Q0 (n+1) (n+1) (sD n fD i))) (Q0 (n+1) (n+1) (a0T n fB),Q0 (n+1) (n+1) (a0S n fD)) n (fun i hi=>.inl ?_) ?_ n 0 F (by omega) (by omega)
 ·have e1:Q0 (n+1) (n+1) (sB n fB 0)=Q0 (n+1) (n+1) fun _ _=>0:=V7 fun i k _ _=>by unfold sB;rw [if_neg (by omega)]
  have e2:Q0 (n+1) (n+1) (sD n fD 0)=Q0 (n+1) (n+1) fun _ _=>0:=V7 fun i k _ _=>by unfold sD;rw [if_neg (by omega),if_neg (by omega),if_neg (by omega)]
  rw [e1,e2] at this;have h2:iter (i0O F (O1 n fB fD)) F (0,Q0 (n+1) (n+1) (fun _ _=>0),Q0 (n+1) (n+1) fun _ _=>0)=_:=this;rw [h2];rfl
 ·unfold i0O;have h1:(i:Int)<(n:Int):=by omega
  have hi1:i<n+1:=by omega
  have hn1:n<n+1:=by omega
  simp only [hlen,h1,decide_true,if_true];simp only [O1,P5 _ hi,P5 _ hi1,F5 _ hi,F5 _ hi1,if_true,w07 (show n<=n+1 by omega),Int.toNat_natCast,f0v,P5 _ hn1,l6 _ hn1,F5 _ hn1,f04,l6 _ hi1,E2 (i:=i) (by omega)];congr 1;congr 1;congr 1;congr 1
  ·refine V7 fun a k ha hk=>?_;unfold sB
   by_cases e:a=i
   ·subst e;simp only [if_true]
    by_cases e2:k<n
    ·simp [e2]
    ·simp [e2]
   ·simp only [e,if_false]
    by_cases e2:a<i/\k<n
    ·rw [if_pos e2,if_pos (by omega)]
    ·rw [if_neg e2,if_neg (by omega)]
  ·refine V7 fun a k ha hk=>?_;have hni:¬ n=i:=by omega
   unfold sD
   by_cases e:a=n
   ·subst e;simp only [if_true,hni,if_false]
    by_cases e3:k=i
    ·subst e3;simp;omega
    ·simp only [e3,if_false];rw [if_neg (by omega),if_neg (by omega),if_neg (show ¬ (a<i+1/\k<a) by omega),if_neg (show ¬ (a<i+1/\k=a) by omega)]
     by_cases e4:k<i
     ·rw [if_pos ⟨trivial,e4⟩,if_pos ⟨trivial,by omega⟩]
     ·rw [if_neg (fun h=>e4 h.2),if_neg (by omega)]
   ·by_cases e2:a=i
    ·subst e2;simp only [hni,if_false,if_true,e]
     by_cases e3:k=n
     ·subst e3;simp
     ·have:k<n:=by omega
      simp [e3,this]
    ·simp only [e,e2,if_false]
     by_cases e3:a<i/\k<n
     ·rw [if_pos e3,if_pos (by omega)]
     ·rw [if_neg e3,if_neg (show ¬ (a<i+1/\k<n) by omega)]
      by_cases e4:a<i/\k=n
      ·rw [if_pos e4,if_pos (by omega)]
      ·rw [if_neg e4,if_neg (show ¬ (a<i+1/\k=n) by omega),if_neg (fun h=>h.1),if_neg (fun h=>h.1)]
 ·unfold i0O;have h1:¬ ((n:Int)<(n:Int)):=by omega
  simp only [hlen,h1,decide_false,if_false,false_eq_true];congr 1
def O7 (f:Nat->Nat->Int) (g:Nat->Nat->Int) (i k a j:Nat):Int:=if a=i/\j<k then f a j else g a j
end
def O0 (l:List Nat):List Int:=l.map fun n:Nat=>(n:Int)
@[simp] theorem d0T (l:List Nat):(O0 l).length=l.length:=by simp [O0]
theorem f07 {l:List Nat} {i:Nat} (h:i<l.length):gt (O0 l) (i:Int)=((l[i]:Nat):Int):=I3 (by simp [O0,h])
theorem A6 {l:List Nat} {i:Nat} (h:i<l.length):y0 (O0 l) (i:Int)=true:=P0 (by omega) (by simp;omega)
def D4 (fD:Nat->Nat->Int) (U2:Int) (i:Nat):Int:=if U2<0 then (i:Int) else if 0<fD i U2.toNat then (i:Int) else U2
def R5 (fD:Nat->Nat->Int) (of:List Nat):Int:=of.foldl (D4 fD) (-1)
theorem g0W {α:Type} {l:List α} {i:Nat} (h:i<l.length):l.take (i+1)=l.take i++[l[i]]:=by rw [List.take_succ,List.getElem?_eq_getElem h];rfl
theorem u0M (fD:Nat->Nat->Int) (l:List Nat) (i:Nat):R5 fD (l++[i])=D4 fD (R5 fD l) i:=by simp [R5]
theorem d0g {n:Nat} {fD:Nat->Nat->Int} (of:List Nat) (h:∀ i∈of,i<n):R5 fD of=-1\/∃ k:Nat,R5 fD of=k/\k<n:=by
 have:∀ (of:List Nat) (b:Int),(b=-1\/∃ k:Nat,b=k/\k<n)->(∀ i∈of,i<n)->(of.foldl (D4 fD) b=-1\/∃ k:Nat,of.foldl (D4 fD) b=k/\k<n):=by
  intro of
  induction of with
  |nil=>intro b hb _;exact hb
  |
   cons x r ih=>
   intro b hb hi;refine ih _ ?_ (fun i h=>hi i (List.mem_cons_of_mem _ h));have hx:=hi x (by simp);unfold D4;split
   ·exact .inr ⟨x,rfl,hx⟩
   ·split
    ·exact .inr ⟨x,rfl,hx⟩
    ·exact hb
 exact this of (-1) (.inl rfl) h
section
variable {F n:Nat} {fB fD:Nat->Nat->Int}
theorem A02 (hn:n<=1000) (hf:2000<F) (h:e8 n fB fD) (of:List Nat) (hof:of.length<=1000) (hi:∀ i∈of,i<n):k0O F (O1 n fB fD) (O0 of)=some (R5 fD of):=by
 unfold k0O;rw [j0O hn hf h];simp only [E0,Bool.not_true,false_eq_true,if_false,z6];have:=V2 (step:=k05 F (O1 n fB fD) (O0 of)) (fun i=>(R5 fD (of.take i),(i:Int))) (R5 fD of) of.length (fun i hil=>.inl ?_) ?_ of.length 0 F (by omega) (by omega)
 ·exact this
 ·unfold k05 e0y;have h1:(i:Int)<((O0 of).length:Int):=by simp;omega
  have hx:=hi of[i] (List.getElem_mem hil);have h2:((of[i]:Nat):Int)>=0:=by omega
  have h3:((of[i]:Nat):Int)<((O1 n fB fD).B.length:Int):=by simp [O1];omega
  simp only [h1,decide_true,if_true,A6 hil,f07 hil,h2,h3,E0,z6,g0W hil,u0M,E2 (i:=i) (by omega)];have hb:=d0g (fD:=fD) (of.take i) (n:=n) (fun i h=>hi i (List.mem_of_mem_take h));generalize R5 fD (of.take i)=b at *;rcases hb with rfl | ⟨k,rfl,hk⟩
  ·simp [D4,E0]
  ·have hk0:¬ ((k:Int)<0):=by omega
   simp only [O1,hk0,decide_false,false_eq_true,if_false,P5 _ hx,F5 _ hx,l6 _ hk,j8 _ hk,if_true,E0,D4,Int.toNat_natCast]
   by_cases h4:0<fD of[i] k
   ·have h4':fD of[i] k>0:=h4;simp [h4,E0]
   ·simp [h4,E0]
 ·unfold k05;have h1:¬ ((of.length:Int)<((O0 of).length:Int)):=by simp
  simp only [h1,decide_false,if_false,false_eq_true,List.take_length]
end
def K7 (b t:Int):Int:=if W (t+1)<b then W (t+1) else b
def N7 (fB fD:Nat->Nat->Int) (a b:Nat) (p q:B0):Int:=
 if K7 (fB a b) p.Turn>K7 (fB b a) q.Turn then 1 else if K7 (fB a b) p.Turn<K7 (fB b a) q.Turn then -1 else fD a b
def c09 (fB fD:Nat->Nat->Int) (fr:List Nat) (hops:List B0) (U2:Int) (i:Nat):Int:=
 if U2<0 then (i:Int) else if 0<N7 fB fD (fr.getD i 0) (fr.getD U2.toNat 0) (gt hops (i:Int)) (gt hops U2) then (i:Int) else U2
def b0f (fB fD:Nat->Nat->Int) (fr:List Nat) (hops:List B0) (k:Nat):Int:=(List.range k).foldl (c09 fB fD fr hops) (-1)
def d0z (fB fD:Nat->Nat->Int) (fr:List Nat) (hops:List B0):Int:=b0f fB fD fr hops fr.length
theorem l0M (fB fD:Nat->Nat->Int) (fr:List Nat) (hops:List B0) (k:Nat):b0f fB fD fr hops (k+1)=c09 fB fD fr hops (b0f fB fD fr hops k) k:=by simp [b0f,List.range_succ]
theorem n0X (fB fD:Nat->Nat->Int) (fr:List Nat) (hops:List B0):∀ k,b0f fB fD fr hops k=-1\/∃ j:Nat,b0f fB fD fr hops k=j/\j<k:=by
 intro k
 induction k with
 |zero=>exact .inl rfl
 |
  succ k ih=>
  rw [l0M];unfold c09;split
  ·exact .inr ⟨k,rfl,by omega⟩
  ·split
   ·exact .inr ⟨k,rfl,by omega⟩
   ·rcases ih with h | ⟨j,h,hj⟩
    ·exact .inl h
    ·exact .inr ⟨j,h,by omega⟩
section
variable {F n:Nat} {fB fD:Nat->Nat->Int} {fr:List Nat} {hops:List B0}
theorem e7 {l:List Nat} {i:Nat} (h:i<l.length):gt (O0 l) (i:Int)=((l.getD i 0:Nat):Int):=by rw [f07 h];simp [List.getD,h]
theorem T6 (hi:∀ i∈fr,i<n) {i:Nat} (h:i<fr.length):fr.getD i 0<n:=by
 have:=hi fr[i] (List.getElem_mem h);simpa [List.getD,h] using this
theorem k0j (hlen:hops.length=fr.length) (hi:∀ i∈fr,i<n) {i k:Nat} (h1:i<fr.length) (h2:k<fr.length) :
  d0X F ⟨O1 n fB fD,O0 fr,hops⟩ (i:Int) (k:Int)=some (K7 (fB (fr.getD i 0) (fr.getD k 0)) (gt hops (i:Int)).Turn):=by
 have x1:=T6 hi h1;have x2:=T6 hi h2;unfold d0X K7;simp only [O1,A6 h1,A6 h2,e7 h1,e7 h2,P5 _ x1,F5 _ x1,l6 _ x2,j8 _ x2,if_true,P0 (l:=hops) (i:=(i:Int)) (by omega) (by omega)]
theorem u0L (hlen:hops.length=fr.length) (hi:∀ i∈fr,i<n) {i k:Nat} (h1:i<fr.length) (h2:k<fr.length) :
  g0u F ⟨O1 n fB fD,O0 fr,hops⟩ (i:Int) (k:Int)=some (N7 fB fD (fr.getD i 0) (fr.getD k 0) (gt hops (i:Int)) (gt hops (k:Int))):=by
 have x1:=T6 hi h1;have x2:=T6 hi h2;unfold g0u N7;rw [k0j hlen hi h1 h2,k0j hlen hi h2 h1];simp only [E0,O1,A6 h1,A6 h2,e7 h1,e7 h2,P5 _ x1,F5 _ x1,l6 _ x2,j8 _ x2,if_true,decide_eq_true_eq];split
 ·rfl
 ·split<;>rfl
theorem G0v (hn:n<=1000) (hf:2000<F) (h:e8 n fB fD) (hlen:hops.length=fr.length) (hfr:fr.length<=1000) (hi:∀ i∈fr,i<n):h0Y F (O1 n fB fD) (O0 fr) hops=some (d0z fB fD fr hops):=by
 unfold h0Y;rw [j0O hn hf h];have hx2:(if (hops.length:Int)<((O0 fr).length:Int) then (hops.length:Int) else ((O0 fr).length:Int))=(fr.length:Int):=by rw [d0T,hlen];simp
 simp only [E0,Bool.not_true,false_eq_true,if_false,z6,hx2];have:=V2 (step:=l0G F (O1 n fB fD) (O0 fr) hops (fr.length:Int)) (fun i=>(b0f fB fD fr hops i,(i:Int))) (d0z fB fD fr hops) fr.length (fun i hil=>.inl ?_) ?_ fr.length 0 F (by omega) (by omega)
 ·exact this
 ·unfold l0G e0y;have h1:(i:Int)<(fr.length:Int):=by omega
  have hx:=T6 hi hil;have h2:((fr.getD i 0:Nat):Int)>=0:=by omega
  have h3:((fr.getD i 0:Nat):Int)<((O1 n fB fD).B.length:Int):=by simp only [O1,k07];omega
  simp only [h1,decide_true,if_true,A6 hil,e7 hil,h2,h3,E0,z6,l0M,E2 (i:=i) (by omega)];have hb:=n0X fB fD fr hops i;generalize b0f fB fD fr hops i=b at *;rcases hb with rfl | ⟨k,rfl,hk⟩
  ·simp [c09,E0]
  ·have hk0:¬ ((k:Int)<0):=by omega
   simp only [hk0,decide_false,false_eq_true,if_false,u0L hlen hi hil (show k<fr.length by omega),E0,c09,Int.toNat_natCast]
   by_cases h4:0<N7 fB fD (fr.getD i 0) (fr.getD k 0) (gt hops (i:Int)) (gt hops (k:Int))
   ·have h4':N7 fB fD (fr.getD i 0) (fr.getD k 0) (gt hops (i:Int)) (gt hops (k:Int))>0:=h4;simp only [h4,h4',decide_true,if_true,E0]
   ·have h4':¬ N7 fB fD (fr.getD i 0) (fr.getD k 0) (gt hops (i:Int)) (gt hops (k:Int))>0:=h4;simp only [h4,h4',decide_false,false_eq_true,if_false,E0]
 ·unfold l0G;have h1:¬ ((fr.length:Int)<(fr.length:Int)):=by omega
  simp only [h1,decide_false,if_false,false_eq_true];rfl
end
def a6 (now none_:Int) (tags:List Int) (marks:List P2):List Int:=marks.foldl (L4 now none_) tags
theorem F0U (now none_:Int) (o:List Int) (m:P2):(L4 now none_ o m).length=o.length:=by
 unfold L4;split
 ·rfl
 ·split
  ·simp
  ·split
   ·simp
   ·split
    ·simp
    ·rfl
theorem c0B (now none_:Int):∀ (marks:List P2) (o:List Int),(a6 now none_ o marks).length=o.length
 |[],o=>rfl
 |
  m :: r,o=>by
  have h:=c0B now none_ r (L4 now none_ o m);rw [F0U] at h;exact h
section
variable {F:Nat}
theorem m07 {tags:List Int} {marks:List P2} {now none_:Int} (ht:tags.length<=1000) (hm:marks.length<=1000000000):c01 F tags marks now none_=some (a6 now none_ tags marks):=by
 unfold c01;rw [if_pos (by simp [I0];omega)];rfl
theorem D0G {n:Nat} {x:Int} (h0:1<=n) (hn:n<=1000):k0C F (n:Int) x=some (List.replicate n x):=by
 unfold k0C p0p;have h1:¬ (n:Int)<1:=by omega
 have h2:(decide ((0:Int)<=(n:Int))&&decide ((n:Int)<=1000))=true:=by simp;omega
 simp only [h1,decide_false,false_eq_true,if_false,z6,Go.X.g07,h2,if_true,Int.toNat_natCast]
end
structure Q4 (l:List D0) (n:Nat) (a:List B0) (b:Nat->List B0) (e:Nat->B0×Bool) (z:B0×Bool) (F:Nat):Prop where
 hR:J2 l=true
 hl:l.length*64<=140737488351232
 hn:n=N0 l l.length
 T:n0i l n a b e z
 f1:2000001<F
 f2:l.length+1<F
 f3:1000000000<F
 TF:p0R l n a b e z F
def Z8 (l:List D0) (at_:Int):List Int:=(List.replicate (T3 l).toNat (-1)).set 0 at_
theorem l8 (l:List D0):1<=T3 l/\T3 l<=19:=by have:=p0e l;unfold T3;omega
theorem l0a (l:List D0) (at_:Int):(Z8 l at_).length=(T3 l).toNat:=by simp [Z8]
section
variable {l:List D0} {n:Nat} {a:List B0} {b:Nat->List B0} {e:Nat->B0×Bool} {z:B0×Bool} {F:Nat} {at_ work:Int} {pl:List Nat} {vals:List (List Int)} {fB fD:Nat->Nat->Int}
def mkC (l:List D0) (n:Nat) (a:List B0) (b:Nat->List B0) (e:Nat->B0×Bool) (z:B0×Bool) (at_ work:Int) (pl:List Nat) (vals:List (List Int)) (fB fD:Nat->Nat->Int):b0Y:=
 ⟨I0J l n a b e z,at_,work,O0 pl,vals,O1 pl.length fB fD⟩
def O3 (l:List D0) (n:Nat) (a:List B0) (b:Nat->List B0) (e:Nat->B0×Bool) (at_ work:Int) (pl:List Nat) (vals:List (List Int)) (fB fD:Nat->Nat->Int):T5:=
 Q8 l n a b e at_ work (O0 pl) vals (O1 pl.length fB fD)
structure U3 (l:List D0) (n:Nat) (pl:List Nat) (vals:List (List Int)) (fB fD:Nat->Nat->Int):Prop where
 len:vals.length=pl.length
 pln:∀ p∈pl,p<n
 asc:pl.Pairwise fun a b=>a<b
 row:∀ v∈vals,v.length=(T3 l).toNat
 rk:e8 pl.length fB fD
theorem u0Q {n:Nat}:∀ {pl:List Nat} {lo:Nat},(∀ p∈pl,lo<=p/\p<n)->pl.Pairwise (fun a b=>a<b)->pl.length+lo<=n\/pl=[]
 |[],_,_,_=>.inr rfl
 |
  x :: r,lo,h,hp=>by
  obtain ⟨h1,h2⟩:=List.pairwise_cons.1 hp;have hx:=h x (by simp);rcases u0Q (pl:=r) (lo:=x+1) (fun p hp=>⟨h1 p hp,(h p (List.mem_cons_of_mem _ hp)).2⟩) h2 with h3 | h3
  ·refine .inl ?_;simp only [List.length_cons];omega
  ·subst h3;refine .inl ?_;simp only [List.length_cons,List.length_nil];omega
theorem U3.le (h:U3 l n pl vals fB fD):pl.length<=n:=by
 rcases u0Q (lo:=0) (fun p hp=>⟨zero_le _,h.pln p hp⟩) h.asc with h1 | h1
 ·omega
 ·simp [h1]
def W9 (l:List D0) (z:B0×Bool) (at_:Int):List Int×Bool:=if z.2 then (a6 at_ (-1) (Z8 l at_) (j5 l z.1.Steps),true) else ([],false)
def l5 (e:Nat->B0×Bool) (pl:List Nat) (k:Nat):List Nat:=(List.range k).filter fun i=>(e (pl.getD i 0)).2
theorem s09 (e:Nat->B0×Bool) (pl:List Nat) (k:Nat):l5 e pl (k+1)=if (e (pl.getD k 0)).2 then l5 e pl k++[k] else l5 e pl k:=by
 unfold l5;rw [List.range_succ,List.filter_append]
 by_cases h:(e (pl.getD k 0)).2=true
 ·simp only [h,if_true,List.filter_cons,List.filter_nil]
 ·have h:(e (pl.getD k 0)).2=false:=by simpa using h
  simp only [h,false_eq_true,if_false,List.filter_cons,List.filter_nil,List.append_nil]
theorem l0w (e:Nat->B0×Bool) (pl:List Nat) (k:Nat):(l5 e pl k).length<=k:=Nat.le_trans (List.length_filter_le _ _) (by simp)
theorem c0P {k i:Nat} (h:i∈l5 e pl k):i<k:=mem_range.1 (List.mem_filter.1 h).1
theorem c0c (r:List Nat) (i:Nat):O0 (r++[i])=O0 r++[(i:Int)]:=by simp [O0]
def c0r (l:List D0) (e:Nat->B0×Bool) (at_:Int) (pl:List Nat) (vals:List (List Int)) (fD:Nat->Nat->Int):List Int×Bool:=
 if R5 fD (l5 e pl pl.length)<0 then ([],false) else (a6 at_ (-1) (gt vals (R5 fD (l5 e pl pl.length))) (j5 l (e (pl.getD (R5 fD (l5 e pl pl.length)).toNat 0)).1.Steps),true)
end
section
variable {F:Nat}
variable {l:List D0} {n:Nat} {a:List B0} {b:Nat->List B0} {e:Nat->B0×Bool} {z:B0×Bool} {at_ work:Int} {pl:List Nat} {vals:List (List Int)} {fB fD:Nat->Nat->Int}
end
def K2 (vals:List (List Int)) (from_:Int) (k:Nat):List Nat:=(List.range k).filter fun (i:Nat)=>decide (gt (gt vals (i:Int)) 0<=from_)
section
variable {F:Nat}
variable {l:List D0} {n:Nat} {a:List B0} {b:Nat->List B0} {e:Nat->B0×Bool} {z:B0×Bool} {at_ work:Int} {pl:List Nat} {vals:List (List Int)} {fB fD:Nat->Nat->Int}
end
section
variable {F:Nat} {l:List D0} {n:Nat} {a:List B0} {b:Nat->List B0} {e:Nat->B0×Bool} {z:B0×Bool} {at_ work:Int} {pl:List Nat} {vals:List (List Int)} {fB fD:Nat->Nat->Int}
theorem n0N {st:List Nat} (h:st.Pairwise fun a b=>a<b) {i k:Nat} (hk:k<st.length) (hik:i<k):st.getD i 0<st.getD k 0:=by
 have:=List.pairwise_iff_getElem.1 h i k (by omega) hk hik;simpa [List.getD,hk,show i<st.length by omega] using this
theorem u0t (C:U3 l n pl vals fB fD) {st:List Nat} (hs:st.Pairwise fun a b=>a<b) (hlt:∀ i∈st,i<pl.length) :
  U3 l n (st.map fun i=>pl.getD i 0) (st.map fun i:Nat=>gt vals (i:Int)) (fun i k=>fB (st.getD i 0) (st.getD k 0)) (fun i k=>fD (st.getD i 0) (st.getD k 0)) where
 len:=by simp
 pln p hp:=by
  obtain ⟨i,hi,rfl⟩:=mem_map.1 hp;exact T6 C.pln (hlt i hi)
 asc:=by
  rw [List.pairwise_map];exact hs.imp_of_mem fun {x y} hx hy hxy=>n0N C.asc (hlt y hy) hxy
 row v hv:=by
  obtain ⟨i,hi,rfl⟩:=mem_map.1 hv;exact C.row _ (List.mem_of_getElem? (E4 (l:=vals) (i:=i) (by rw [C.len];exact hlt i hi)))
 rk:=by
  have g:∀ i,i<(st.map fun i=>pl.getD i 0).length->i<st.length/\st.getD i 0<pl.length:=fun i hi=>by
   simp only [List.length_map] at hi;exact ⟨hi,T6 hlt hi⟩
  refine ⟨fun i k hi hk=>C.rk.b0 _ _ (g i hi).2 (g k hk).2,fun i hi=>C.rk.bd _ (g i hi).2,fun i hi=>C.rk.dd _ (g i hi).2,fun i k hi hk hne=>C.rk.d1 _ _ (g i hi).2 (g k hk).2 ?_,fun i k hi hk=>C.rk.dn _ _ (g i hi).2 (g k hk).2⟩;rcases lt_or_ge i k with h | h
  ·have:=n0N hs (g k hk).1 h;omega
  ·have:=n0N hs (g i hi).1 (show k<i by omega);omega
end
theorem k0N {l:List D0}:∀ {n:Nat} {a:List Int},u5 l n=some a->∀ j,j<n->∃ b,u5 l j=some b/\b.length=j/\(∀ i:Nat,i<j->gt a (i:Int)=gt b (i:Int))/\gt a (j:Int)=Q3 l b j/\0<=Q3 l b j
 |0,a,h,j,hj=>by omega
 |
  n+1,a,h,j,hj=>by
  simp only [u5] at h;split at h
  ·cases h
  ·rename_i b hb;split at h
   ·rename_i hg;cases h;have hl:=(c0G hb).len;simp only [v7,Bool.and_eq_true,decide_eq_true_eq] at hg
    by_cases e:j=n
    ·subst e;exact ⟨b,hb,hl,fun i hi=>a0R (by omega) (by omega),c0I hl.symm,hg.1.1⟩
    ·obtain ⟨c,h1,h2,h3,h4,h5⟩:=k0N hb j (by omega);exact ⟨c,h1,h2,fun i hi=>by rw [a0R (by omega) (by omega)];exact h3 i hi,by rw [a0R (by omega) (by omega)];exact h4,h5⟩
   ·cases h
theorem p0E {c:Prop} [Decidable c] {v z:Int} (h:0<=if c then v else -1) (e:v=z):(if c then v else -1)=z:=by
 by_cases hc:c
 ·rw [if_pos hc];exact e
 ·rw [if_neg hc] at h;omega
theorem v0z {c d:Prop} [Decidable c] [Decidable d] {v z:Int} (h:0<=if c then (if d then v else -1) else -1) (e:v=z):(if c then (if d then v else -1) else -1)=z:=by
 by_cases hc:c
 ·rw [if_pos hc] at h ⊢;exact p0E h e
 ·rw [if_neg hc] at h;omega
theorem B04 {l:List D0}:∀ {s:Tm} {lo n:Nat} {a:List Int},At l lo s->s.top lo<n->u5 l n=some a->gt a (s.top lo:Int)=lo:=by
 intro s
 induction s with
 |
  eps | leaf s=>
  intro lo n a h hn ha;obtain ⟨b,h1,h2,h3,h4,h5⟩:=k0N ha _ hn;rw [h4];have hg:=h.Z3;unfold Q3;rw [hg];simp [Tm.node,Tm.top,Tm.size]
 |
  cat x y ihx ihy | alt x y ihx ihy=>
  intro lo n a h hn ha;obtain ⟨b,h1,h2,h3,h4,h5⟩:=k0N ha _ hn;have hg:=h.Z3;obtain ⟨hx,hy,_⟩:=(At.bin rfl rfl).1 h;have:=x.size_pos;have:=y.size_pos;rw [h4];have i1:=ihx hx (n:=Tm.top _ lo) (a:=b) (by simp only [Tm.top,Tm.size];omega) h1;unfold Q3 at h5 ⊢;rw [hg] at h5 ⊢;simp only [Tm.node] at h5 ⊢
  revert h5
  simp only [show ¬ ((3:Int)=1\/(3:Int)=2) from by omega,show ¬ ((4:Int)=1\/(4:Int)=2) from by omega,if_false,show ((3:Int)=3\/(3:Int)=4) from .inl rfl,show ((4:Int)=3\/(4:Int)=4) from .inr rfl,if_true];intro h5
  first | exact p0E h5 i1 | exact v0z h5 i1
 |
  star x ihx | maybe x ihx | group _ x ihx | iter x ihx=>
  intro lo n a h hn ha;obtain ⟨b,h1,h2,h3,h4,h5⟩:=k0N ha _ hn;have hg:=h.Z3;obtain ⟨hx,_⟩:=(At.un rfl rfl).1 h;have:=x.size_pos;rw [h4];have i1:=ihx hx (n:=Tm.top _ lo) (a:=b) (by simp only [Tm.top,Tm.size];omega) h1;unfold Q3 at h5 ⊢;rw [hg] at h5 ⊢;simp only [Tm.node] at h5 ⊢
  revert h5
  simp;intro h5
  first | exact p0E h5 i1 | exact v0z h5 i1
theorem f0M {l:List D0} (hR:J2 l=true) {s:Tm} {lo:Nat} (h:At l lo s):gt (X3 l) (s.top lo:Int)=lo:=by
 have ht:=h.u6;unfold J2 at hR;unfold X3 at hR ⊢;cases e:u5 l l.length with
 |none=>rw [e] at hR;simp at hR
 |
  some a=>
  rw [e] at hR;dsimp only at hR ⊢;split
  ·rename_i hc;rw [if_pos hc] at hR;simp at hR
  ·exact B04 h ht e
theorem w0B {l:List D0} (hR:J2 l=true) {s:Tm} {lo:Nat} (h:At l lo s) {q:Nat} (h1:lo<=q) (h2:q<lo+s.size):(lo:Int)<=gt (X3 l) (q:Int):=by
 obtain ⟨lo',s',h3,h4,h5,_⟩:=h.s0M q h1 h2;have:=f0M hR h3;rw [h4] at this;rw [this];omega
def P6 (l:List D0) (a b:Nat) (q:Nat):Bool:=decide (gt (X3 l) (q:Int)<=(a:Int))&&(decide (a<=q)&&(decide (gt (X3 l) (q:Int)<=(b:Int))&&decide (b<=q)))
theorem c0g {l:List D0} {a b q:Nat}:P6 l a b q=true↔gt (X3 l) (q:Int)<=(a:Int)/\a<=q/\gt (X3 l) (q:Int)<=(b:Int)/\b<=q:=by
 simp [P6]
def b0Q (b:Nat):List Fr->Nat->Tm->Nat
 |[],lo,s=>s.top lo
 |f :: fs,lo,s=>if lo<=b/\b<=s.top lo then s.top lo else b0Q b fs (lo-f.off) (f.O2 s)
theorem z0Z {l:List D0} {t:Tm} (ht:J4 l t) (hR:J2 l=true) {a b:Nat} (hb:b<l.length):∀ (fs:List Fr) (lo:Nat) (s:Tm),Ctx t lo s fs->lo<=a->a<=s.top lo->(∀ q,lo<=q->q<s.top lo->P6 l a b q=false)->
  P6 l a b (b0Q b fs lo s)=true/\(∀ q,q<b0Q b fs lo s->P6 l a b q=false)/\b0Q b fs lo s<l.length:=by
 intro fs
 induction fs with
 |
  nil=>
  intro lo s hc h1 h2 h3;obtain ⟨rfl,rfl⟩:=hc;have hlen:=ht.len;have hp:=s.size_pos;have hl:=f0M hR ht.at0;simp only [b0Q];refine ⟨c0g.2 ⟨by rw [hl];omega,h2,by rw [hl];omega,by unfold Tm.top;omega⟩,fun q hq=>h3 q (zero_le _) hq,by unfold Tm.top;omega⟩
 |
  cons f fs ih=>
  intro lo s hc h1 h2 h3;have hat:=hc.at_ ht;have hlo:=f0M hR hat;have htop:=hat.u6;simp only [b0Q];split
  ·rename_i hin;refine ⟨c0g.2 ⟨by rw [hlo];omega,h2,by rw [hlo];omega,hin.2⟩,fun q hq=>?_,htop⟩
   by_cases h:lo<=q
   ·exact h3 q h hq
   ·have:¬ P6 l a b q=true:=fun h'=>by have:=(c0g.1 h').2.1;omega
    simpa using this
  ·rename_i hout;obtain ⟨hoff,hc2⟩:=hc;have hat2:=hc2.at_ ht;have hsp:=s.size_pos;have inS:∀ q,lo<=q->q<=s.top lo->P6 l a b q=false:=fun q q1 q2=>by
    have hge:=w0B hR hat q1 (by unfold Tm.top at q2;omega);have:¬ P6 l a b q=true:=fun h'=>by
     obtain ⟨_,_,p3,p4⟩:=c0g.1 h';exact hout ⟨by omega,by omega⟩
    simpa using this
   have hlt:∀ q,q<lo->P6 l a b q=false:=fun q q1=>by
    have:¬ P6 l a b q=true:=fun h'=>by have:=(c0g.1 h').2.1;omega
    simpa using this
   have hgt:∀ (y:Tm),At l (lo+s.size) y->∀ q,lo+s.size<=q->q<lo+s.size+y.size->P6 l a b q=false:=fun y hy q q1 q2=>by
    have hge:=w0B hR hy q1 q2;have:¬ P6 l a b q=true:=fun h'=>by
     have:=(c0g.1 h').1;unfold Tm.top at h2;omega
    simpa using this
   have all:∀ q,lo-f.off<=q->q<(f.O2 s).top (lo-f.off)->P6 l a b q=false:=fun q q1 q2=>by
    rcases lt_or_ge q lo with c | c
    ·exact hlt q c
    ·rcases lt_or_ge (s.top lo) q with c2 | c2
     ·cases f<;>simp only [Fr.O2,Fr.off,Nat.sub_zero,Tm.top,Tm.size] at q1 q2 c2 hat2 hoff
      case catL y=>exact hgt y ((At.bin rfl rfl).1 hat2).2.1 q (by omega) (by omega)
      case altL y=>exact hgt y ((At.bin rfl rfl).1 hat2).2.1 q (by omega) (by omega)
      all_goals omega
     ·exact inS q c c2
   refine ih _ _ hc2 (by omega) ?_ all;cases f<;>simp only [Fr.O2,Fr.off,Nat.sub_zero,Tm.top,Tm.size] at h2 hoff ⊢<;>omega
def I4 (l:List D0) (a b:Nat):Nat:=((List.range l.length).find? (P6 l a b)).getD 0
theorem I0i {P:Nat->Bool} {n k:Nat} (hk:k<n) (h:P k=true) (hf:∀ q,q<k->P q=false):(List.range n).find? P=some k:=by
 rw [List.find?_eq_some_iff_append];refine ⟨h,List.range k,(List.range (n-k-1)).map (k+1+·),?_,fun q hq=>by simp [hf q (mem_range.1 hq)]⟩;refine ext_getElem (by simp;omega) fun i h1 h2=>?_;simp only [length_range] at h1;simp only [getElem_range];rcases Nat.lt_trichotomy i k with c | c | c
 ·rw [List.getElem_append_left (by simpa using c)];simp
 ·subst c;rw [List.getElem_append_right (by simp)];simp
 ·rw [List.getElem_append_right (by simp;omega)];simp only [length_range];rw [List.getElem_cons];rw [dif_neg (by omega)];simp;omega
theorem z00 {l:List D0} {a b k:Nat} (hk:k<l.length) (h:P6 l a b k=true) (hf:∀ q,q<k->P6 l a b q=false):I4 l a b=k:=by
 unfold I4;rw [I0i hk h hf];rfl
theorem t0R (l:List D0) (a b:Nat):I4 l a b=I4 l b a:=by
 have:P6 l a b=P6 l b a:=funext fun q=>by
  unfold P6;cases decide (gt (X3 l) (q:Int)<=(a:Int))<;>cases decide (a<=q)<;>cases decide (gt (X3 l) (q:Int)<=(b:Int))<;>cases decide (b<=q)<;>rfl
 unfold I4;rw [this]
theorem q0Q {l:List D0} {t:Tm} (ht:J4 l t) {q:Nat} (hq:q<l.length):∃ lo s fs,Ctx t lo s fs/\s.top lo=q:=by
 have h0:Ctx t 0 t []:=⟨rfl,rfl⟩
 exact h0.down q (zero_le _) (by have:=ht.len;omega)
theorem h0L {l:List D0} (hw:∀ x∈l,C3 x) (hR:J2 l=true) {a b:Nat} (ha:a<l.length) (hb:b<l.length):I4 l a b<l.length/\P6 l a b (I4 l a b)=true/\∀ q,q<I4 l a b->P6 l a b q=false:=by
 obtain ⟨t,ht⟩:=a0u hw hR;obtain ⟨lo,s,fs,hc,hs⟩:=q0Q ht ha;have hat0:=ht.at0;have hlen:=ht.len;have hp:=t.size_pos;have hl:=f0M hR hat0;have hroot:P6 l a b (l.length-1)=true:=c0g.2 ⟨by rw [show l.length-1=t.top 0 from by unfold Tm.top;omega,hl];omega,by omega,by rw [show l.length-1=t.top 0 from by unfold Tm.top;omega,hl];omega,by omega⟩;cases e:(List.range l.length).find? (P6 l a b) with
 |
  none=>
  rw [List.find?_eq_none] at e;exact absurd hroot (e _ (by simp;omega))
 |
  some k=>
  have hk:=mem_range.1 (List.mem_of_find?_eq_some e);have h1:=List.find?_some e;have:I4 l a b=k:=by unfold I4;rw [e];rfl
  rw [this];refine ⟨hk,h1,fun q hq=>?_⟩;rw [List.find?_eq_some_iff_append] at e;obtain ⟨_,as_,bs_,e1,e2⟩:=e;have hql:q<as_.length:=by
   have e3:(List.range l.length)[as_.length]?=some k:=by rw [e1];simp
   have e4:as_.length<l.length:=by
    have:=congrArg List.length e1;simp at this;omega
   rw [List.getElem?_range e4] at e3;cases e3;exact hq
  have e5:as_[q]?=some q:=by
   have:(List.range l.length)[q]?=some q:=List.getElem?_range (by omega);rw [e1,List.getElem?_append_left hql] at this;exact this
  have:=e2 q (List.mem_of_getElem? e5);simpa using this
theorem u0P {d d':List Int}:∀ {s:Tm} {lo k:Nat},w8 d lo k s->w8 d' lo k s->∀ j:Nat,lo<=j->j<=s.top lo->gt d (j:Int)=gt d' (j:Int)/\(k:Int)<=gt d (j:Int)/\gt d (j:Int)<k+s.size:=by
 intro s
 induction s with
 |
  eps | leaf s=>
  intro lo k h h' j j1 j2;have:j=lo:=by simp only [Tm.top,Tm.size] at j2;omega
  subst this;simp only [w8] at h h';simp only [Tm.size];omega
 |
  cat a b iha ihb | alt a b iha ihb=>
  intro lo k h h' j j1 j2;obtain ⟨p1,p2,p3⟩:=h;obtain ⟨q1,q2,q3⟩:=h';have:=a.size_pos;have:=b.size_pos;simp only [Tm.top,Tm.size] at p1 q1 j2 ⊢;rcases lt_or_ge j (lo+a.size) with c | c
  ·have:=iha p2 q2 j j1 (by unfold Tm.top;omega);omega
  ·rcases lt_or_ge j (lo+a.size+b.size) with c2 | c2
   ·have:=ihb p3 q3 j c (by unfold Tm.top;omega);omega
   ·have:j=lo+(a.size+b.size+1)-1:=by omega
    subst this;omega
 |
  star a iha | maybe a iha | group _ a iha | iter a iha=>
  intro lo k h h' j j1 j2;obtain ⟨p1,p2⟩:=h;obtain ⟨q1,q2⟩:=h';have:=a.size_pos;simp only [Tm.top,Tm.size] at p1 q1 j2 ⊢;rcases lt_or_ge j (lo+a.size) with c | c
  ·have:=iha p2 q2 j j1 (by unfold Tm.top;omega);omega
  ·have:j=lo+(a.size+1)-1:=by omega
   subst this;omega
theorem t0i {d d':List Int} {t:Tm} (h:a0A d t) (h':a0A d' t):d=d':=by
 have hp:=t.size_pos;refine ext_getElem (by rw [h.len,h'.len]) fun j h1 h2=>?_;have e:=(u0P h.deep h'.deep j (zero_le _) (by have:=h.len;unfold Tm.top;omega)).1
 rwa [I3 (x:=d[j]) (by simp [h1]),I3 (x:=d'[j]) (by simp [h2])] at e
def F8 (l:List D0):List Int:=(Old.a0n 402 l).getD []
theorem q0s {l:List D0} {t:Tm} (ht:J4 l t) (hR:J2 l=true):a0A (F8 l) t:=by
 obtain ⟨d,h1,h2⟩:=Old.k0o ht hR (show 401<402 by omega);unfold F8;rw [h1];exact h2
theorem e0R {l:List D0} (hw:∀ x∈l,C3 x) (hR:J2 l=true):(F8 l).length=l.length/\∀ q:Nat,q<l.length->1<=gt (F8 l) (q:Int)/\gt (F8 l) (q:Int)<=400:=by
 obtain ⟨t,ht⟩:=a0u hw hR;have h:=q0s ht hR;have h400:=ht.le;have hlen:=ht.len;have hp:=t.size_pos;refine ⟨by rw [h.len,hlen],fun q hq=>?_⟩;have:=(u0P h.deep h.deep q (zero_le _) (by unfold Tm.top;omega)).2;omega
theorem G0X {l:List D0} (hw:∀ x∈l,C3 x) (hR:J2 l=true) {F:Nat} (hf:401<F):a0n F l=some (F8 l):=by
 obtain ⟨t,ht⟩:=a0u hw hR;obtain ⟨d,h1,h2⟩:=Old.k0o ht hR hf;rw [t0i h2 (q0s ht hR)] at h1;exact b7 s0O h1
