/- P. Its conditions: none. -/
import Derived.Test.YtmhooikfkhjijaaGreatYG44
open Bool (false_eq_true)
open List (ext_getElem getElem_map getElem_range getElem_mem take_length)
open Int (toNat_natCast)
set_option linter.all false
namespace Go.Proofs.YtmhooikfkhjijaaGreat
open Go.V Go.RowKit Old
def s5 (n:Nat)(f:Nat->Int):List Int:=(List.range n).map f
def e7 (m n:Nat)(f:Nat->Nat->Int):List (List Int):=(List.range m).map fun i=>s5 n (f i)
def b0U (n:Nat)(fB fD:Nat->Nat->Int):P1:=⟨e7 n n fB,e7 n n fD⟩
@[simp] def G0D (n:Nat)(f:Nat->Int):(s5 n f).length=n:=by simp[s5]
@[simp] def I0M (m n:Nat)(f:Nat->Nat->Int):(e7 m n f).length=m:=by simp[e7]
def C00 {n i:Nat}(f:Nat->Int)(h:i<n):gt (s5 n f) (i:Int)=f i:=Y5 (by simp[s5,h])
def B06 {m n i:Nat}(f:Nat->Nat->Int)(h:i<m):gt (e7 m n f) (i:Int)=s5 n (f i):=Y5 (by simp[e7,h])
def C0u {n i:Nat}(f:Nat->Int)(h:i<n):y0 (s5 n f) (i:Int)=true:=B4 (by omega) (by simp;omega)
def B09 {m n i:Nat}(f:Nat->Nat->Int)(h:i<m):y0 (e7 m n f) (i:Int)=true:=B4 (by omega) (by simp;omega)
def R2 {i:Nat}(h:i<=1000000000):W ((i:Int)+1)=((i+1:Nat):Int):=by rw[c0R (by omega) (by omega)];omega
structure C0Q (n:Nat)(fB fD:Nat->Nat->Int):Prop where
 b0:∀i k,i<n->k<n->0<=fB i k
 bd:∀i,i<n->fB i i=0
 dd:∀i,i<n->fD i i=0
 d1:∀i k,i<n->k<n->i≠k->fD i k=1\/fD i k=-1
 dn:∀i k,i<n->k<n->fD k i=- fD i k
section
variable {F n:Nat}{fB fD:Nat->Nat->Int}
def R0Q (hn:n<=1000)(hf:2000<F)(f:Nat->Nat->Int):h0b F (e7 n n f) (n:Int)=some true:=by
 unfold h0b;have:=j0K (step:=z0N F (e7 n n f) (n:Int)) (fun i=>(i:Int)) (.inr ()) n (fun i hi=>.inl ?_) ?_ n 0 F (by omega) (by omega)
 ·have h2:iter (z0N F (e7 n n f) (n:Int)) F 0=_:=this;rw[h2];simp[F1]
 ·unfold z0N;have h1:(i:Int)<((e7 n n f).length:Int):=by simp;omega
  simp only[q0,h1,B09 f hi,B06 f hi,G0D,bne_self_eq_false,R2 (i:=i) (by omega)]
 ·unfold z0N;have h1:¬((n:Int)<((e7 n n f).length:Int)):=by simp
  simp only[q0,h1]
def U0S (hn:n<=1000)(hf:2000<F)(h:C0Q n fB fD):i0G F (b0U n fB fD) (n:Int)=some true:=by
 unfold i0G b0U;simp only[q0,R0Q hn hf];have:=j0K (step:=s02 F ⟨e7 n n fB,e7 n n fD⟩ (n:Int)) (fun i=>(i:Int)) (.inr ()) n (fun i hi=>.inl ?_) ?_ n 0 F (by omega) (by omega)
 ·have h2:iter (s02 F ⟨e7 n n fB,e7 n n fD⟩ (n:Int)) F 0=_:=this;rw[h2];rfl
 ·have hin:=j0K (step:=u0j F ⟨e7 n n fB,e7 n n fD⟩ (n:Int) (i:Int)) (fun k=>(k:Int)) (.inr ()) n (fun k hk=>.inl ?_) ?_ n 0 F (by omega) (by omega)
  ·have h2:iter (u0j F ⟨e7 n n fB,e7 n n fD⟩ (n:Int) (i:Int)) F 0=_:=hin;unfold s02;have h1:(i:Int)<(n:Int):=by omega
   simp only[q0,h1,B09 _ hi,B06 _ hi,C0u _ hi,C00 _ hi,h.bd i hi,h.dd i hi,bne_self_eq_false,h2,R2 (i:=i) (by omega)]
  ·unfold u0j;have h1:(k:Int)<(n:Int):=by omega
   have hb:¬fB i k<0:=by have:=h.b0 i k hi hk;omega
   have hd:=h.dn i k hi hk;have hW:W (0-fD i k)=- fD i k:=by
    by_cases e:i=k
    ·subst e;rw[h.dd i hi];rfl
    ·rcases h.d1 i k hi hk e with e|e<;>rw[e]<;>rfl
   simp only[q0,h1,B09 _ hi,B09 _ hk,B06 _ hi,B06 _ hk,C0u _ hi,C0u _ hk,C00 _ hi,C00 _ hk,hb,C0k,hd,hW,bne_self_eq_false,R2 (i:=k) (by omega)]
   by_cases e:i=k
   ·subst e;simp[F1]
   ·have hne:((i:Int) != (k:Int))=true:=by simp;omega
    rcases h.d1 i k hi hk e with e2|e2<;>simp[hne,e2,F1]
  ·unfold u0j;have h1:¬((n:Int)<(n:Int)):=by omega
   simp only[q0,h1]
 ·unfold s02;have h1:¬((n:Int)<(n:Int)):=by omega
  simp only[q0,h1]
def I0S (hn:n<=1000)(hf:2000<F)(h:C0Q n fB fD):c0K F (b0U n fB fD)=some true:=by
 unfold c0K;rw[C0k,show((b0U n fB fD).B.length:Int)=(n:Int)from by simp[b0U],U0S hn hf h]
def F0r (hn:n<=1000)(hf:2000<F)(h:C0Q n fB fD):E03 F (b0U n fB fD) (n:Int)=some true:=by
 unfold E03 b0U;simp only[q0,I0M,bne_self_eq_false];have:=j0K (step:=G01 F ⟨e7 n n fB,e7 n n fD⟩ (n:Int)) (fun i=>(i:Int)) (.inr ()) n (fun i hi=>.inl ?_) ?_ n 0 F (by omega) (by omega)
 ·have h2:iter (G01 F ⟨e7 n n fB,e7 n n fD⟩ (n:Int)) F 0=_:=this;rw[h2];simp only[F1];have:=j0K (step:=G0A F ⟨e7 n n fB,e7 n n fD⟩ (n:Int)) (fun i=>(i:Int)) (.inr ()) n (fun i hi=>.inl ?_) ?_ n 0 F (by omega) (by omega)
  ·have h2:iter (G0A F ⟨e7 n n fB,e7 n n fD⟩ (n:Int)) F 0=_:=this;rw[h2];rfl
  ·have hin:=j0K (step:=H0K F ⟨e7 n n fB,e7 n n fD⟩ (n:Int) (i:Int)) (fun k=>(k:Int)) (.inr ()) n (fun k hk=>.inl ?_) ?_ n 0 F (by omega) (by omega)
   ·have h2:iter (H0K F ⟨e7 n n fB,e7 n n fD⟩ (n:Int) (i:Int)) F 0=_:=hin;unfold G0A;have h1:(i:Int)<(n:Int):=by omega
    simp only[q0,h1,h2,R2 (i:=i) (by omega)]
   ·unfold H0K;have h1:(k:Int)<(n:Int):=by omega
    have hb:¬fB i k<0:=by have:=h.b0 i k hi hk;omega
    have hd:=h.dn i k hi hk;have hW:W (0-fD i k)=- fD i k:=by
     by_cases e:i=k
     ·subst e;rw[h.dd i hi];rfl
     ·rcases h.d1 i k hi hk e with e|e<;>rw[e]<;>rfl
    simp only[q0,h1,B09 _ hi,B09 _ hk,B06 _ hi,B06 _ hk,C0u _ hi,C0u _ hk,C00 _ hi,C00 _ hk,hb,C0k,hd,hW,bne_self_eq_false,R2 (i:=k) (by omega)]
    by_cases e:i=k
    ·subst e;simp[F1,h.bd i hi,h.dd i hi]
    ·have hne:((i:Int) != (k:Int))=true:=by simp;omega
     have hne':((i:Int)==(k:Int))=false:=by simp;omega
     rcases h.d1 i k hi hk e with e2|e2<;>simp[hne,hne',e2,F1]
   ·unfold H0K;have h1:¬((n:Int)<(n:Int)):=by omega
    simp only[q0,h1]
  ·unfold G0A;have h1:¬((n:Int)<(n:Int)):=by omega
   simp only[q0,h1]
 ·unfold G01;have h1:(i:Int)<(n:Int):=by omega
  simp only[q0,h1,B09 _ hi,B06 _ hi,G0D,bne_self_eq_false,R2 (i:=i) (by omega)]
 ·unfold G01;have h1:¬((n:Int)<(n:Int)):=by omega
  simp only[q0,h1]
end
def T04 {n:Nat}{f g:Nat->Int}(h:∀k,k<n->f k=g k):s5 n f=s5 n g:=List.map_congr_left fun k hk=>h k (List.mem_range.1 hk)
def C0P {m n:Nat}{f g:Nat->Nat->Int}(h:∀i k,i<m->k<n->f i k=g i k):e7 m n f=e7 m n g:=
 List.map_congr_left fun i hi=>T04 fun k hk=>h i k (List.mem_range.1 hi) hk
def F0M {n k:Nat}{f:Nat->Int}{v:Int}:(s5 n f).set k v=s5 n fun j=>if j=k then v else f j:=by
 refine ext_getElem (by simp) fun i h1 h2=>?_;simp only[s5,List.getElem_set,getElem_map,getElem_range]
 by_cases e:k=i
 ·simp[e]
 ·rw[if_neg e,if_neg (fun h=>e h.symm)]
def F0A {m n i:Nat}{f:Nat->Nat->Int}{g:Nat->Int}:(e7 m n f).set i (s5 n g)=e7 m n fun a=>if a=i then g else f a:=by
 refine ext_getElem (by simp) fun j h1 h2=>?_;simp only[e7,List.getElem_set,getElem_map,getElem_range]
 by_cases e:i=j
 ·simp[e]
 ·rw[if_neg e,if_neg (fun h=>e h.symm)]
def O08 (n:Nat):List.replicate n (0:Int)=s5 n fun _=>0:=by
 refine ext_getElem (by simp) fun i h1 h2=>?_;simp[s5]
def X0j (m n:Nat):List.replicate m (s5 n fun _=>0)=e7 m n fun _ _=>0:=by
 refine ext_getElem (by simp) fun i h1 h2=>?_;simp[e7]
section
variable {F n:Nat}{fB fD:Nat->Nat->Int}
def O06 (hn:n<=1000)(hf:2000<F):c0x F (n:Int)=some (e7 n n fun _ _=>0):=by
 unfold c0x;have hm1:S5 24 (n:Int)=true:=by simp[S5];omega
 have hm2:S5 8 (n:Int)=true:=by simp[S5];omega
 simp only[hm1,if_true,toNat_natCast,List.length_replicate,C0k];have:=j0K (step:=y0X F (n:Int) (n:Int)) (fun i=>((i:Int),List.replicate i (s5 n fun _=>0)++List.replicate (n-i) ([]:List Int))) (e7 n n fun _ _=>0) n (fun i hi=>.inl ?_) ?_ n 0 F (by omega) (by omega)
 ·exact this
 ·unfold y0X;have h1:(i:Int)<(n:Int):=by omega
  have hin:y0 (List.replicate i (s5 n fun _=>0)++List.replicate (n-i) ([]:List Int)) (i:Int)=true:=B4 (by omega) (by simp;omega);have hset:(List.replicate i (s5 n fun _=>0)++List.replicate (n-i) ([]:List Int)).set i (s5 n fun _=>0)=List.replicate (i+1) (s5 n fun _=>0)++List.replicate (n-(i+1)) ([]:List Int):=by
   rw[List.set_append_right _ _ (by simp),List.length_replicate,Nat.sub_self,show n-i=(n-(i+1))+1 from by omega,List.replicate_succ,List.set_cons_zero,List.replicate_succ' (n:=i),List.append_assoc];rfl
  simp only[h1,decide_true,if_true,hm2,hin,toNat_natCast,O08,hset,R2 (i:=i) (by omega)]
 ·unfold y0X;have h1:¬((n:Int)<(n:Int)):=by omega
  simp only[q0,h1,Nat.sub_self,List.replicate_zero,List.append_nil,X0j]
def E0v (n:Nat)(fB:Nat->Nat->Int)(i k:Nat):Int:=if i<n/\k<n then fB i k else 0
def E0q (n:Nat)(fD:Nat->Nat->Int)(i k:Nat):Int:=if i<n/\k<n then fD i k else if i<n/\k=n then 1 else if i=n/\k<n then -1 else 0
def T00 (h:C0Q n fB fD):C0Q (n+1) (E0v n fB) (E0q n fD) where
 b0 i k hi hk:=by unfold E0v;split;exact h.b0 i k (by omega) (by omega);omega
 bd i hi:=by unfold E0v;split;exact h.bd i (by omega);rfl
 dd i hi:=by
  unfold E0q;split
  ·exact h.dd i (by omega)
  ·rw[if_neg (by omega),if_neg (by omega)]
 d1 i k hi hk hne:=by
  unfold E0q
  by_cases h1:i<n/\k<n
  ·rw[if_pos h1];exact h.d1 i k h1.1 h1.2 hne
  ·rw[if_neg h1]
   by_cases h2:i<n/\k=n
   ·rw[if_pos h2];exact .inl rfl
   ·rw[if_neg h2,if_pos (by omega)];exact .inr rfl
 dn i k hi hk:=by
  unfold E0q
  by_cases h1:i<n/\k<n
  ·rw[if_pos h1,if_pos ⟨h1.2,h1.1⟩];exact h.dn i k h1.1 h1.2
  ·rw[if_neg h1,if_neg (fun h=>h1 ⟨h.2,h.1⟩)]
   by_cases h2:i<n/\k=n
   ·rw[if_pos h2,if_neg (by omega),if_pos ⟨h2.2,h2.1⟩]
   ·rw[if_neg h2]
    by_cases h3:i=n/\k<n
    ·rw[if_pos h3,if_pos ⟨h3.2,h3.1⟩];rfl
    ·rw[if_neg h3,if_neg (fun h=>h3 ⟨h.2,h.1⟩),if_neg (fun h=>h2 ⟨h.2,h.1⟩)];rfl
def V0Y {m:Nat}(hm:n<=m)(f g:Nat->Int):P2 (s5 m f) (s5 n g)=s5 m fun k=>if k<n then g k else f k:=by
 unfold P2;rw[G0D,G0D,List.take_of_length_le (by simp;exact hm)];refine ext_getElem (by simp;omega) fun i h1 h2=>?_;simp only[G0D]at h2
 by_cases e:i<n
 ·rw[List.getElem_append_left (by simpa using e)];simp[s5,e]
 ·rw[List.getElem_append_right (by simp;omega)];simp only[s5,List.getElem_drop,List.length_map,List.length_range,getElem_map,getElem_range,if_neg e];congr 1;omega
def sB (n:Nat)(fB:Nat->Nat->Int)(i a k:Nat):Int:=if a<i/\k<n then fB a k else 0
def sD (n:Nat)(fD:Nat->Nat->Int)(i a k:Nat):Int:=if a<i/\k<n then fD a k else if a<i/\k=n then 1 else if a=n/\k<i then -1 else 0
def U0D (hn:n<=900)(hf:2000<F)(h:C0Q n fB fD):m0W F (b0U n fB fD)=some (b0U (n+1) (E0v n fB) (E0q n fD)):=by
 unfold m0W;rw[I0S (by omega) hf h];have hlen:((b0U n fB fD).B.length:Int)=(n:Int):=by simp[b0U]
 simp only[q0,hlen,R2 (i:=n) (by omega),O06 (n:=n+1) (F:=F) (by omega) hf];have:=j0K (step:=q0h F (b0U n fB fD)) (fun i=>((i:Int),e7 (n+1) (n+1) (sB n fB i),e7 (n+1) (n+1) (sD n fD i))) (e7 (n+1) (n+1) (E0v n fB),e7 (n+1) (n+1) (E0q n fD)) n (fun i hi=>.inl ?_) ?_ n 0 F (by omega) (by omega)
 ·have e1:e7 (n+1) (n+1) (sB n fB 0)=e7 (n+1) (n+1) fun _ _=>0:=C0P fun i k _ _=>by unfold sB;rw[if_neg (by omega)]
  have e2:e7 (n+1) (n+1) (sD n fD 0)=e7 (n+1) (n+1) fun _ _=>0:=C0P fun i k _ _=>by unfold sD;rw[if_neg (by omega),if_neg (by omega),if_neg (by omega)]
  rw[e1,e2]at this;have h2:iter (q0h F (b0U n fB fD)) F (0,e7 (n+1) (n+1) (fun _ _=>0),e7 (n+1) (n+1) fun _ _=>0)=_:=this;rw[h2];rfl
 ·unfold q0h;have h1:(i:Int)<(n:Int):=by omega
  have hi1:i<n+1:=by omega
  have hn1:n<n+1:=by omega
  simp only[hlen,h1,decide_true,if_true];simp only[b0U,B09 _ hi,B09 _ hi1,B06 _ hi,B06 _ hi1,if_true,V0Y (show n<=n+1 by omega),toNat_natCast,F0A,B09 _ hn1,C0u _ hn1,B06 _ hn1,F0M,C0u _ hi1,R2 (i:=i) (by omega)];congr 1;congr 1;congr 1;congr 1
  ·refine C0P fun a k ha hk=>?_;unfold sB
   by_cases e:a=i
   ·subst e;simp only[if_true]
    by_cases e2:k<n
    ·simp[e2]
    ·simp[e2]
   ·simp only[e,if_false]
    by_cases e2:a<i/\k<n
    ·rw[if_pos e2,if_pos (by omega)]
    ·rw[if_neg e2,if_neg (by omega)]
  ·refine C0P fun a k ha hk=>?_;have hni:¬n=i:=by omega
   unfold sD
   by_cases e:a=n
   ·subst e;simp only[if_true,hni,if_false]
    by_cases e3:k=i
    ·subst e3;simp;omega
    ·simp only[e3,if_false];rw[if_neg (by omega),if_neg (by omega),if_neg (show ¬(a<i+1/\k<a) by omega),if_neg (show ¬(a<i+1/\k=a) by omega)]
     by_cases e4:k<i
     ·rw[if_pos ⟨trivial,e4⟩,if_pos ⟨trivial,by omega⟩]
     ·rw[if_neg (fun h=>e4 h.2),if_neg (by omega)]
   ·by_cases e2:a=i
    ·subst e2;simp only[hni,if_false,if_true,e]
     by_cases e3:k=n
     ·subst e3;simp
     ·have:k<n:=by omega
      simp[e3,this]
    ·simp only[e,e2,if_false]
     by_cases e3:a<i/\k<n
     ·rw[if_pos e3,if_pos (by omega)]
     ·rw[if_neg e3,if_neg (show ¬(a<i+1/\k<n) by omega)]
      by_cases e4:a<i/\k=n
      ·rw[if_pos e4,if_pos (by omega)]
      ·rw[if_neg e4,if_neg (show ¬(a<i+1/\k=n) by omega),if_neg (fun h=>h.1),if_neg (fun h=>h.1)]
 ·unfold q0h;have h1:¬((n:Int)<(n:Int)):=by omega
  simp only[q0,hlen,h1];congr 1
def O0T (hn:n<=1000)(hf:2000<F):H0B F (n:Int)=some (e7 n n fun _ _=>0,e7 n n fun _ _=>0):=by
 unfold H0B;have:=j0K (step:=G0T F (n:Int)) (fun i=>((i:Int),(e7 i n fun _ _=>0,e7 i n fun _ _=>0))) (e7 n n fun _ _=>0,e7 n n fun _ _=>0) n (fun i hi=>.inl ?_) ?_ n 0 F (by omega) (by omega)
 ·have h2:iter (G0T F (n:Int)) F (0,([],[]))=_:=this;rw[h2];rfl
 ·unfold G0T;have h1:(i:Int)<(n:Int):=by omega
  have hm:S5 8 (n:Int)=true:=by simp[S5];omega
  have hap:C1 24 (e7 i n fun _ _=>0) [s5 n fun _=>0]=true:=by simp[C1];omega
  have hs:e7 (i+1) n (fun _ _=>0)=e7 i n (fun _ _=>0)++[s5 n fun _=>0]:=L0z _ i;simp only[h1,decide_true,if_true,hm,toNat_natCast,O08,hap,hs,R2 (i:=i) (by omega)]
 ·unfold G0T;have h1:¬((n:Int)<(n:Int)):=by omega
  simp only[q0,h1]
def inB (f:Nat->Nat->Int)(g:Nat->Nat->Int)(i k a j:Nat):Int:=if a=i/\j<k then f a j else g a j
def Q0F (hn:n<=900)(hf:2000<F){i:Nat}(hi:i<n)(f g:Nat->Nat->Int):iter (H0n F (b0U n fB fD) (i:Int)) F (0,e7 (n+1) (n+1) f,e7 (n+1) (n+1) g)=some (e7 (n+1) (n+1) (inB fB f i n),e7 (n+1) (n+1) (inB fD g i n)):=by
 have hlen:((b0U n fB fD).B.length:Int)=(n:Int):=by simp[b0U]
 have hi1:i<n+1:=by omega
 have:=j0K (step:=H0n F (b0U n fB fD) (i:Int)) (fun k=>((k:Int),e7 (n+1) (n+1) (inB fB f i k),e7 (n+1) (n+1) (inB fD g i k))) (e7 (n+1) (n+1) (inB fB f i n),e7 (n+1) (n+1) (inB fD g i n)) n (fun k hk=>.inl ?_) ?_ n 0 F (by omega) (by omega)
 ·have e:∀(u v:Nat->Nat->Int),e7 (n+1) (n+1) (inB u v i 0)=e7 (n+1) (n+1) v:=fun u v=>C0P fun a j _ _=>by unfold inB;rw[if_neg (by omega)]
  rw[e,e]at this;exact this
 ·unfold H0n;have h1:(k:Int)<(n:Int):=by omega
  have hk1:k<n+1:=by omega
  have e:∀(u v:Nat->Nat->Int),e7 (n+1) (n+1) (fun a=>if a=i then(fun j=>if j=k then u i k else inB u v i k i j)else inB u v i k a)=e7 (n+1) (n+1) (inB u v i (k+1)):=fun u v=>C0P fun a j _ _=>by
   unfold inB
   by_cases h2:a=i
   ·subst h2;simp only[if_true,true_and]
    by_cases h3:j=k
    ·subst h3;simp
    ·simp only[h3,if_false]
     by_cases h4:j<k
     ·rw[if_pos h4,if_pos (by omega)]
     ·rw[if_neg h4,if_neg (by omega)]
   ·simp[h2]
  simp only[hlen,h1,decide_true,if_true];simp only[b0U,B09 _ hi,B09 _ hi1,B06 _ hi,B06 _ hi1,C0u _ hk,C0u _ hk1,C00 _ hk,if_true,toNat_natCast,F0M,F0A,e,R2 (i:=k) (by omega)]
 ·unfold H0n;have h1:¬((n:Int)<(n:Int)):=by omega
  simp only[q0,hlen,h1]
def S0v (hn:n<=900)(hf:2000<F)(h:C0Q n fB fD):H0l F (b0U n fB fD)=some (b0U (n+1) (E0v n fB) (E0q n fD)):=by
 unfold H0l;have hlen:((b0U n fB fD).B.length:Int)=(n:Int):=by simp[b0U]
 rw[hlen,F0r (by omega) hf h];simp only[q0,R2 (i:=n) (by omega),O0T (n:=n+1) (F:=F) (by omega) hf];have:=j0K (step:=H0v F (b0U n fB fD)) (fun i=>((i:Int),e7 (n+1) (n+1) (sB n fB i),e7 (n+1) (n+1) (sD n fD i))) (e7 (n+1) (n+1) (E0v n fB),e7 (n+1) (n+1) (E0q n fD)) n (fun i hi=>.inl ?_) ?_ n 0 F (by omega) (by omega)
 ·have e1:e7 (n+1) (n+1) (sB n fB 0)=e7 (n+1) (n+1) fun _ _=>0:=C0P fun i k _ _=>by unfold sB;rw[if_neg (by omega)]
  have e2:e7 (n+1) (n+1) (sD n fD 0)=e7 (n+1) (n+1) fun _ _=>0:=C0P fun i k _ _=>by unfold sD;rw[if_neg (by omega),if_neg (by omega),if_neg (by omega)]
  rw[e1,e2]at this;have h2:iter (H0v F (b0U n fB fD)) F (0,e7 (n+1) (n+1) (fun _ _=>0),e7 (n+1) (n+1) fun _ _=>0)=_:=this;rw[h2];rfl
 ·unfold H0v;have h1:(i:Int)<(n:Int):=by omega
  have hi1:i<n+1:=by omega
  have hn1:n<n+1:=by omega
  simp only[q0,hlen,h1,Q0F hn hf hi];simp only[B09 _ hi1,B06 _ hi1,if_true,toNat_natCast,F0A,B09 _ hn1,C0u _ hn1,B06 _ hn1,F0M,C0u _ hi1,R2 (i:=i) (by omega)];congr 1;congr 1;congr 1;congr 1
  ·refine C0P fun a k ha hk=>?_;unfold inB sB
   by_cases e:a=i
   ·subst e
    by_cases e2:k<n
    ·simp[e2]
    ·simp[e2]
   ·rw[if_neg (fun h=>e h.1)]
    by_cases e2:a<i/\k<n
    ·rw[if_pos e2,if_pos (by omega)]
    ·rw[if_neg e2,if_neg (by omega)]
  ·refine C0P fun a k ha hk=>?_;have hni:¬n=i:=by omega
   unfold inB sD
   by_cases e:a=n
   ·subst e;simp only[if_true,hni,if_false,false_and]
    by_cases e3:k=i
    ·subst e3;simp;omega
    ·simp only[e3,if_false];rw[if_neg (by omega),if_neg (by omega),if_neg (show ¬(a<i+1/\k<a) by omega),if_neg (show ¬(a<i+1/\k=a) by omega)]
     by_cases e4:k<i
     ·rw[if_pos ⟨trivial,e4⟩,if_pos ⟨trivial,by omega⟩]
     ·rw[if_neg (fun h=>e4 h.2),if_neg (by omega)]
   ·by_cases e2:a=i
    ·subst e2;simp only[hni,if_false,if_true,e]
     by_cases e3:k=n
     ·subst e3;simp
     ·have:k<n:=by omega
      simp[e3,this]
    ·simp only[e,e2,if_false,false_and]
     by_cases e3:a<i/\k<n
     ·rw[if_pos e3,if_pos (by omega)]
     ·rw[if_neg e3,if_neg (show ¬(a<i+1/\k<n) by omega)]
      by_cases e4:a<i/\k=n
      ·rw[if_pos e4,if_pos (by omega)]
      ·rw[if_neg e4,if_neg (show ¬(a<i+1/\k=n) by omega)]
 ·unfold H0v;have h1:¬((n:Int)<(n:Int)):=by omega
  simp only[q0,hlen,h1];congr 1
end
def a0B (l:List Nat):List Int:=l.map fun n:Nat=>(n:Int)
@[simp] def E0u (l:List Nat):(a0B l).length=l.length:=by simp[a0B]
def H0O {l:List Nat}{i:Nat}(h:i<l.length):gt (a0B l) (i:Int)=((l[i]:Nat):Int):=Y5 (by simp[a0B,h])
def C0f {l:List Nat}{i:Nat}(h:i<l.length):y0 (a0B l) (i:Int)=true:=B4 (by omega) (by simp;omega)
def D08 (fD:Nat->Nat->Int)(c0U:Int)(i:Nat):Int:=if c0U<0 then(i:Int)else if 0<fD i c0U.toNat then(i:Int)else c0U
def C0Y (fD:Nat->Nat->Int)(of:List Nat):Int:=of.foldl (D08 fD) (-1)
def G0i {α:Type}{l:List α}{i:Nat}(h:i<l.length):l.take (i+1)=l.take i++[l[i]]:=by rw[List.take_succ,List.getElem?_eq_getElem h];rfl
def N0J (fD:Nat->Nat->Int)(l:List Nat)(i:Nat):C0Y fD (l++[i])=D08 fD (C0Y fD l) i:=by simp[C0Y]
def H0J {n:Nat}{fD:Nat->Nat->Int}(of:List Nat)(h:∀i∈of,i<n):C0Y fD of=-1\/∃k:Nat,C0Y fD of=k/\k<n:=by
 have:∀(of:List Nat) (b:Int),(b=-1\/∃k:Nat,b=k/\k<n)->(∀i∈of,i<n)->(of.foldl (D08 fD) b=-1\/∃k:Nat,of.foldl (D08 fD) b=k/\k<n):=by
  intro of
  induction of with
  |nil=>intro b hb _;exact hb
  |
   cons x r ih=>
   intro b hb hi;refine ih _ ?_ (fun i h=>hi i (List.mem_cons_of_mem _ h));have hx:=hi x (by simp);unfold D08;split
   ·exact .inr ⟨x,rfl,hx⟩
   ·split
    ·exact .inr ⟨x,rfl,hx⟩
    ·exact hb
 exact this of (-1) (.inl rfl) h
section
variable {F n:Nat}{fB fD:Nat->Nat->Int}
def V0G (hn:n<=1000)(hf:2000<F)(h:C0Q n fB fD)(of:List Nat)(hof:of.length<=1000)(hi:∀i∈of,i<n):o0z F (b0U n fB fD) (a0B of)=some (C0Y fD of):=by
 unfold o0z;rw[I0S hn hf h];simp only[q0,C0k];have:=j0K (step:=y0b F (b0U n fB fD) (a0B of)) (fun i=>(C0Y fD (of.take i),(i:Int))) (C0Y fD of) of.length (fun i hil=>.inl ?_) ?_ of.length 0 F (by omega) (by omega)
 ·exact this
 ·unfold y0b f0H;have h1:(i:Int)<((a0B of).length:Int):=by simp;omega
  have hx:=hi of[i] (getElem_mem hil);have h2:((of[i]:Nat):Int)>=0:=by omega
  have h3:((of[i]:Nat):Int)<((b0U n fB fD).B.length:Int):=by simp[b0U];omega
  simp only[q0,h1,C0f hil,H0O hil,h2,h3,C0k,G0i hil,N0J,R2 (i:=i) (by omega)];have hb:=H0J (fD:=fD) (of.take i) (n:=n) (fun i h=>hi i (List.mem_of_mem_take h));generalize C0Y fD (of.take i)=b at *;rcases hb with rfl|⟨k,rfl,hk⟩
  ·simp[D08,F1]
  ·have hk0:¬((k:Int)<0):=by omega
   simp only[q0,b0U,hk0,B09 _ hx,B06 _ hx,C0u _ hk,C00 _ hk,D08,toNat_natCast]
   by_cases h4:0<fD of[i] k
   ·have h4':fD of[i] k>0:=h4;simp[h4,F1]
   ·simp[h4,F1]
 ·unfold y0b;have h1:¬((of.length:Int)<((a0B of).length:Int)):=by simp
  simp only[q0,h1,take_length]
def Q0E (hn:n<=1000)(hf:2000<F)(h:C0Q n fB fD)(of:List Nat)(hof:of.length<=1000)(hi:∀i∈of,i<n):J0l F (b0U n fB fD) (a0B of)=some (C0Y fD of):=by
 unfold J0l;have hlen:((b0U n fB fD).B.length:Int)=(n:Int):=by simp[b0U]
 rw[C0k];have:=j0K (step:=I0j F (b0U n fB fD) (a0B of)) (fun i=>(C0Y fD (of.take i),(i:Int))) (C0Y fD of) of.length (fun i hil=>.inl ?_) ?_ of.length 0 F (by omega) (by omega)
 ·exact this
 ·unfold I0j;have h1:(i:Int)<((a0B of).length:Int):=by simp;omega
  have hx:=hi of[i] (getElem_mem hil);have h2:¬((of[i]:Nat):Int)<0:=by omega
  have h3:¬((of[i]:Nat):Int)>=(n:Int):=by omega
  simp only[q0,hlen,F0r hn hf h,h1,C0f hil,H0O hil,h2,h3,C0k,G0i hil,N0J,R2 (i:=i) (by omega)];have hb:=H0J (fD:=fD) (of.take i) (n:=n) (fun i h=>hi i (List.mem_of_mem_take h));generalize C0Y fD (of.take i)=b at *;rcases hb with rfl|⟨k,rfl,hk⟩
  ·simp[D08,F1]
  ·have hk0:¬((k:Int)<0):=by omega
   simp only[q0,b0U,hk0,B09 _ hx,B06 _ hx,C0u _ hk,C00 _ hk,D08,toNat_natCast]
   by_cases h4:0<fD of[i] k
   ·simp[h4,F1]
   ·simp[h4,F1]
 ·unfold I0j;have h1:¬((of.length:Int)<((a0B of).length:Int)):=by simp
  simp only[q0,hlen,F0r hn hf h,h1,take_length]
end
def D0a (b t:Int):Int:=if W (t+1)<b then W (t+1)else b
def agF (fB fD:Nat->Nat->Int)(a b:Nat)(p q:E1):Int:=
 if D0a (fB a b) p.Turn>D0a (fB b a) q.Turn then 1 else if D0a (fB a b) p.Turn<D0a (fB b a) q.Turn then -1 else fD a b
def E0K (fB fD:Nat->Nat->Int)(fr:List Nat)(hops:List E1)(c0U:Int)(i:Nat):Int:=
 if c0U<0 then(i:Int)else if 0<agF fB fD (fr.getD i 0) (fr.getD c0U.toNat 0) (gt hops (i:Int)) (gt hops c0U)then(i:Int)else c0U
def D0O (fB fD:Nat->Nat->Int)(fr:List Nat)(hops:List E1)(k:Nat):Int:=(List.range k).foldl (E0K fB fD fr hops) (-1)
def E0r (fB fD:Nat->Nat->Int)(fr:List Nat)(hops:List E1):Int:=D0O fB fD fr hops fr.length
def I0k (fB fD:Nat->Nat->Int)(fr:List Nat)(hops:List E1)(k:Nat):D0O fB fD fr hops (k+1)=E0K fB fD fr hops (D0O fB fD fr hops k) k:=by simp[D0O,List.range_succ]
def L0o (fB fD:Nat->Nat->Int)(fr:List Nat)(hops:List E1):∀k,D0O fB fD fr hops k=-1\/∃j:Nat,D0O fB fD fr hops k=j/\j<k:=by
 intro k
 induction k with
 |zero=>exact .inl rfl
 |
  succ k ih=>
  rw[I0k];unfold E0K;split
  ·exact .inr ⟨k,rfl,by omega⟩
  ·split
   ·exact .inr ⟨k,rfl,by omega⟩
   ·rcases ih with h|⟨j,h,hj⟩
    ·exact .inl h
    ·exact .inr ⟨j,h,by omega⟩
section
variable {F n:Nat}{fB fD:Nat->Nat->Int}{fr:List Nat}{hops:List E1}
def C0B {l:List Nat}{i:Nat}(h:i<l.length):gt (a0B l) (i:Int)=((l.getD i 0:Nat):Int):=by rw[H0O h];simp[List.getD,h]
def C0t (hi:∀i∈fr,i<n){i:Nat}(h:i<fr.length):fr.getD i 0<n:=by
 have:=hi fr[i] (getElem_mem h);simpa[List.getD,h]using this
def J0b (hlen:hops.length=fr.length)(hi:∀i∈fr,i<n){i k:Nat}(h1:i<fr.length)(h2:k<fr.length):
  d0A F ⟨b0U n fB fD,a0B fr,hops⟩ (i:Int) (k:Int)=some (D0a (fB (fr.getD i 0) (fr.getD k 0)) (gt hops (i:Int)).Turn):=by
 have x1:=C0t hi h1;have x2:=C0t hi h2;unfold d0A D0a;simp only[b0U,C0f h1,C0f h2,C0B h1,C0B h2,B09 _ x1,B06 _ x1,C0u _ x2,C00 _ x2,if_true,B4 (l:=hops) (i:=(i:Int)) (by omega) (by omega)]
def O0K (hlen:hops.length=fr.length)(hi:∀i∈fr,i<n){i k:Nat}(h1:i<fr.length)(h2:k<fr.length):
  j0s F ⟨b0U n fB fD,a0B fr,hops⟩ (i:Int) (k:Int)=some (agF fB fD (fr.getD i 0) (fr.getD k 0) (gt hops (i:Int)) (gt hops (k:Int))):=by
 have x1:=C0t hi h1;have x2:=C0t hi h2;unfold j0s agF;rw[J0b hlen hi h1 h2,J0b hlen hi h2 h1];simp only[F1,b0U,C0f h1,C0f h2,C0B h1,C0B h2,B09 _ x1,B06 _ x1,C0u _ x2,C00 _ x2,if_true,decide_eq_true_eq];split
 ·rfl
 ·split<;>rfl
def O0e (b t:Int):G0f F b t=some (D0a b t):=by
 unfold G0f D0a
 by_cases h:b<W (t+1)
 ·simp only[h,decide_true,if_true];rw[if_neg (by omega)]
 ·simp only[q0,h]
  by_cases h2:W (t+1)<b
  ·rw[if_pos h2]
  ·rw[if_neg h2];congr 1;omega
def M01 {a b:Nat}(ha:a<n)(hb:b<n)(p q:E1):H0x F (b0U n fB fD) (a:Int) (b:Int) p q=some (agF fB fD a b p q):=by
 unfold H0x agF;simp only[b0U,B09 _ ha,B09 _ hb,B06 _ ha,B06 _ hb,C0u _ ha,C0u _ hb,C00 _ ha,C00 _ hb,if_true,O0e,F1,decide_eq_true_eq];split
 ·rfl
 ·split<;>rfl
def O04 (hn:n<=1000)(hf:2000<F)(h:C0Q n fB fD)(hlen:hops.length=fr.length)(hfr:fr.length<=1000)(hi:∀i∈fr,i<n):l0s F (b0U n fB fD) (a0B fr) hops=some (E0r fB fD fr hops):=by
 unfold l0s;rw[I0S hn hf h];have hx2:(if(hops.length:Int)<((a0B fr).length:Int)then(hops.length:Int)else((a0B fr).length:Int))=(fr.length:Int):=by rw[E0u,hlen];simp
 simp only[q0,C0k,hx2];have:=j0K (step:=s0o F (b0U n fB fD) (a0B fr) hops (fr.length:Int)) (fun i=>(D0O fB fD fr hops i,(i:Int))) (E0r fB fD fr hops) fr.length (fun i hil=>.inl ?_) ?_ fr.length 0 F (by omega) (by omega)
 ·exact this
 ·unfold s0o f0H;have h1:(i:Int)<(fr.length:Int):=by omega
  have hx:=C0t hi hil;have h2:((fr.getD i 0:Nat):Int)>=0:=by omega
  have h3:((fr.getD i 0:Nat):Int)<((b0U n fB fD).B.length:Int):=by simp only[b0U,I0M];omega
  simp only[q0,h1,C0f hil,C0B hil,h2,h3,C0k,I0k,R2 (i:=i) (by omega)];have hb:=L0o fB fD fr hops i;generalize D0O fB fD fr hops i=b at *;rcases hb with rfl|⟨k,rfl,hk⟩
  ·simp[E0K,F1]
  ·have hk0:¬((k:Int)<0):=by omega
   simp only[q0,hk0,O0K hlen hi hil (show k<fr.length by omega),E0K,toNat_natCast]
   by_cases h4:0<agF fB fD (fr.getD i 0) (fr.getD k 0) (gt hops (i:Int)) (gt hops (k:Int))
   ·have h4':agF fB fD (fr.getD i 0) (fr.getD k 0) (gt hops (i:Int)) (gt hops (k:Int))>0:=h4;simp only[q0,h4,h4']
   ·have h4':¬agF fB fD (fr.getD i 0) (fr.getD k 0) (gt hops (i:Int)) (gt hops (k:Int))>0:=h4;simp only[q0,h4,h4']
 ·unfold s0o;have h1:¬((fr.length:Int)<(fr.length:Int)):=by omega
  simp only[q0,h1];rfl
def P0U (hn:n<=1000)(hf:2000<F)(h:C0Q n fB fD)(hlen:hops.length=fr.length)(hfr:fr.length<=1000)(hi:∀i∈fr,i<n):G0Q F (b0U n fB fD) (a0B fr) hops=some (E0r fB fD fr hops):=by
 unfold G0Q;have hln:((b0U n fB fD).B.length:Int)=(n:Int):=by simp[b0U]
 rw[C0k];have:=j0K (step:=I0U F (b0U n fB fD) (a0B fr) hops) (fun i=>(D0O fB fD fr hops i,(i:Int))) (E0r fB fD fr hops) fr.length (fun i hil=>.inl ?_) ?_ fr.length 0 F (by omega) (by omega)
 ·exact this
 ·unfold I0U;have h1:(i:Int)<((a0B fr).length:Int):=by simp;omega
  have h1':(i:Int)<(hops.length:Int):=by omega
  have hx:=C0t hi hil;have h2:¬((fr.getD i 0:Nat):Int)<0:=by omega
  have h3:¬((fr.getD i 0:Nat):Int)>=(n:Int):=by omega
  have hih:y0 hops (i:Int)=true:=B4 (by omega) h1';simp only[q0,hln,F0r hn hf h,h1,h1',C0f hil,C0B hil,h2,h3,C0k,I0k,R2 (i:=i) (by omega),hih];have hb:=L0o fB fD fr hops i;generalize D0O fB fD fr hops i=b at *;rcases hb with rfl|⟨k,rfl,hk⟩
  ·simp[E0K,F1]
  ·have hk0:¬((k:Int)<0):=by omega
   have hkl:k<fr.length:=by omega
   have hkh:y0 hops (k:Int)=true:=B4 (by omega) (by omega);simp only[q0,hk0,C0f hkl,C0B hkl,hkh,M01 hx (C0t hi hkl),E0K,toNat_natCast]
   by_cases h4:0<agF fB fD (fr.getD i 0) (fr.getD k 0) (gt hops (i:Int)) (gt hops (k:Int))
   ·have h4':agF fB fD (fr.getD i 0) (fr.getD k 0) (gt hops (i:Int)) (gt hops (k:Int))>0:=h4;simp only[q0,h4,h4']
   ·have h4':¬agF fB fD (fr.getD i 0) (fr.getD k 0) (gt hops (i:Int)) (gt hops (k:Int))>0:=h4;simp only[q0,h4,h4']
 ·unfold I0U;have h1:¬((fr.length:Int)<((a0B fr).length:Int)):=by simp
  simp only[q0,hln,F0r hn hf h,h1];rfl
end
def A0G (now none_:Int)(tags:List Int)(marks:List Z2):List Int:=marks.foldl (G4 now none_) tags
def X0G (now none_:Int)(o:List Int)(m:Z2):(G4 now none_ o m).length=o.length:=by
 unfold G4;split
 ·rfl
 ·split
  ·simp
  ·split
   ·simp
   ·split
    ·simp
    ·rfl
def D0F (now none_:Int):∀(marks:List Z2) (o:List Int),(A0G now none_ o marks).length=o.length
 |[],o=>rfl
 |
  m :: r,o=>by
  have h:=D0F now none_ r (G4 now none_ o m);rw[X0G]at h;exact h
section
variable {F:Nat}
def K0X {tags:List Int}{marks:List Z2}{now none_:Int}(ht:tags.length<=1000)(hm:marks.length<=1000000000):b0A F tags marks now none_=some (A0G now none_ tags marks):=by
 unfold b0A;rw[if_pos (by simp[C1];omega)];rfl
def X0r {marks:List Z2}{now none_:Int}{o:List Int}(ho:o.length<=1000){i:Nat}(hi:i<marks.length)(hm:marks.length<=1000000000):
  H0d F marks now none_ ((i:Int),o)=some (.next (((i+1:Nat):Int),G4 now none_ o (gt marks (i:Int)))):=by
 unfold H0d G4;have h1:(i:Int)<(marks.length:Int):=by omega
 have hin:y0 marks (i:Int)=true:=B4 (by omega) h1;simp only[h1,decide_true,if_true,hin,R2 (i:=i) (by omega)];generalize gt marks (i:Int)=m
 by_cases h2:m.Group<1
 ·simp[h2,F1]
 ·by_cases h3:m.Group>(o.length:Int)
  ·have h4:((o.length:Int)-1) / 2<m.Group:=by omega
   simp[h2,h3,h4,F1]
  ·have hW:W (2*m.Group)=2*m.Group:=c0R (by omega) (by omega);have hW2:W (2*m.Group-1)=2*m.Group-1:=c0R (by omega) (by omega);simp only[q0,h2,h3,hW,hW2]
   by_cases h5:2*m.Group>=(o.length:Int)
   ·have h4:((o.length:Int)-1) / 2<m.Group:=by omega
    simp only[q0,h5,h4,or_true]
   ·have h4:¬((o.length:Int)-1) / 2<m.Group:=by omega
    have hi1:y0 o (2*m.Group-1)=true:=B4 (by omega) (by omega);have hi2:y0 o (2*m.Group)=true:=B4 (by omega) (by omega);have hi3:y0 (o.set (2*m.Group-1).toNat none_) (2*m.Group)=true:=B4 (by omega) (by simp;omega);simp only[q0,h5,h4,or_self,hi1,hi2,hi3,beq_iff_eq]
    by_cases k1:m.Kind=1
    ·simp[k1,F1]
    ·by_cases k2:m.Kind=2
     ·simp[k2,F1]
     ·by_cases k3:m.Kind=3
      ·simp[k3,F1]
      ·simp[k1,k2,k3,F1]
def K00 {tags:List Int}{marks:List Z2}{now none_:Int}(ht:tags.length<=1000)(hm:marks.length<=1000000000)(hf:marks.length<F):F0S F tags marks now none_=some (A0G now none_ tags marks):=by
 unfold F0S;rw[if_pos (by simp[C1];omega),C0k,List.nil_append];have:=j0K (step:=H0d F marks now none_) (fun i=>((i:Int),A0G now none_ tags (marks.take i))) (A0G now none_ tags marks) marks.length (fun i hi=>.inl ?_) ?_ marks.length 0 F (by omega) hf
 ·exact this
 ·rw[X0r (by rw[D0F];exact ht) hi hm];have hs:marks.take (i+1)=marks.take i++[gt marks (i:Int)]:=by rw[List.take_succ,B01 hi];rfl
  simp only[A0G,hs,List.foldl_append,List.foldl_cons,List.foldl_nil]
 ·unfold H0d;have h1:¬((marks.length:Int)<(marks.length:Int)):=by omega
  simp only[q0,h1,take_length]
def P0w {n:Nat}{x:Int}(h0:1<=n)(hn:n<=1000):m0n F (n:Int) x=some (List.replicate n x):=by
 unfold m0n m00;have h1:¬(n:Int)<1:=by omega
 have h2:(decide ((0:Int)<=(n:Int))&&decide ((n:Int)<=1000))=true:=by simp;omega
 simp only[q0,h1,C0k,Go.X.e0w,h2,toNat_natCast]
def P0g {n:Nat}{x:Int}(hn:n<=1000)(hf:2000<F):J0C F (n:Int) x=some (List.replicate n x):=by
 unfold J0C;rw[C0k];have:=j0K (step:=I0a F (n:Int) x) (fun i=>(List.replicate i x,(i:Int))) (List.replicate n x) n (fun i hi=>.inl ?_) ?_ n 0 F (by omega) (by omega)
 ·exact this
 ·unfold I0a;have h1:(i:Int)<(n:Int):=by omega
  have hap:C1 8 (List.replicate i x) [x]=true:=by simp[C1];omega
  simp only[h1,decide_true,if_true,hap,List.replicate_succ',R2 (i:=i) (by omega)]
 ·unfold I0a;have h1:¬((n:Int)<(n:Int)):=by omega
  simp only[q0,h1]
end
