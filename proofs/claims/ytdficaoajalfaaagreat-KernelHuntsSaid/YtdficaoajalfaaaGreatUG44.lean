/- Runs that are let go: the program and the document tell the same. Runs that are let go: the document's side. The deepest node that two are in, and how deep it lies. The rank of runs that went on: the program and the document tell the same. The rank of runs that went on, by the program and by the document. Its conditions: none. -/
import Derived.Test.YtdficaoajalfaaaGreatUG43
open Bool (false_eq_true)
open List (mem_range mem_of_getElem? ext_getElem length_map mem_map)
open Nat (lt_or_ge zero_le sub_zero)
set_option linter.all false
namespace Go.Proofs.YtdficaoajalfaaaGreat
open Go.V Go.RowKit Old
def K2 (vals:List (List Int)) (from_:Int) (k:Nat):List Nat:=(List.range k).filter fun (i:Nat)=>decide (gt (gt vals (i:Int)) 0<=from_)
theorem B0O (vals:List (List Int)) (from_:Int) (k:Nat):K2 vals from_ (k+1)=if decide (gt (gt vals (k:Int)) 0<=from_)=true then K2 vals from_ k++[k] else K2 vals from_ k:=by
 unfold K2;rw [List.range_succ,List.filter_append]
 by_cases h:decide (gt (gt vals (k:Int)) 0<=from_)=true
 ·rw [if_pos h];simp only [List.filter_cons,h,if_true,List.filter_nil]
 ·rw [if_neg h];simp only [List.filter_cons,h,if_false,List.filter_nil,List.append_nil,false_eq_true]
theorem m02 (vals:List (List Int)) (from_:Int) (k:Nat):(K2 vals from_ k).length<=k:=Nat.le_trans (List.length_filter_le _ _) (by simp)
theorem l0o {vals:List (List Int)} {from_:Int} {k i:Nat} (h:i∈K2 vals from_ k):i<k:=mem_range.1 (List.mem_filter.1 h).1
section
variable {F:Nat}
variable {l:List D0} {n:Nat} {a:List B0} {b:Nat->List B0} {e:Nat->B0×Bool} {z:B0×Bool} {at_ work:Int} {pl:List Nat} {vals:List (List Int)} {fB fD:Nat->Nat->Int}
end
theorem nst (vals:List (List Int)) (from_:Int) {β:Type} (g:Nat->β) (k:Nat):(K2 vals from_ (k+1)).map g=if decide (gt (gt vals (k:Int)) 0<=from_)=true then (K2 vals from_ k).map g++[g k] else (K2 vals from_ k).map g:=by
 rw [B0O]
 by_cases h:decide (gt (gt vals (k:Int)) 0<=from_)=true
 ·rw [if_pos h,if_pos h,List.map_append];rfl
 ·rw [if_neg h,if_neg h]
section
variable {F:Nat} {l:List D0} {n:Nat} {a:List B0} {b:Nat->List B0} {e:Nat->B0×Bool} {z:B0×Bool} {at_ work:Int} {pl:List Nat} {vals:List (List Int)} {fB fD:Nat->Nat->Int}
theorem E00 (K:Q4 l n a b e z F) (C:U3 l n pl vals fB fD) (from_:Int) {i:Nat} (hi:i<pl.length) :
  iter (h08 F (O3 l n a b e at_ work pl vals fB fD) from_ (i:Int)) F ([],[],0)=some ((K2 vals from_ pl.length).map (fB i),(K2 vals from_ pl.length).map (fD i)):=by
 have f1:=K.f1;have hm:=C.le;have hn:=K.T.n64;have ht:=l8 l;have hvl:=C.len;have:=V2 (step:=h08 F (O3 l n a b e at_ work pl vals fB fD) from_ (i:Int)) (fun k=>((K2 vals from_ k).map (fB i),(K2 vals from_ k).map (fD i),(k:Int))) ((K2 vals from_ pl.length).map (fB i),(K2 vals from_ pl.length).map (fD i)) pl.length (fun k hk=>.inl ?_) ?_ pl.length 0 F (by omega) (by omega)
 ·exact this
 ·unfold h08;have h1:(k:Int)<((O0 pl).length:Int):=by simp;omega
  have hv:=C.row _ (mem_of_getElem? (E4 (l:=vals) (i:=k) (by omega)));have hsl:=m02 vals from_ k;have hap1:I0 8 ((K2 vals from_ k).map (fB i)) [fB i k]=true:=by simp [I0];omega
  have hap2:I0 8 ((K2 vals from_ k).map (fD i)) [fD i k]=true:=by simp [I0];omega
  simp only [O3,Q8,O1,h1,decide_true,if_true,P0 (l:=vals) (i:=(k:Int)) (by omega) (by omega),P0 (l:=gt vals (k:Int)) (i:=0) (by omega) (by omega),P5 _ hi,F5 _ hi,l6 _ hk,j8 _ hk,hap1,hap2,nst,E2 (i:=k) (by omega)];split
  ·rename_i h2;have h3:decide (gt (gt vals (k:Int)) 0<=from_)=true:=h2;simp only [h3,if_true];rfl
  ·rename_i h2;have h3:¬ decide (gt (gt vals (k:Int)) 0<=from_)=true:=h2;simp only [h3,if_false];rfl
 ·unfold h08;have h1:¬ ((pl.length:Int)<((O0 pl).length:Int)):=by simp
  simp only [O3,Q8,h1,decide_false,if_false,false_eq_true]
theorem E0d (K:Q4 l n a b e z F) (C:U3 l n pl vals fB fD) (from_:Int) {st:List Nat} (hst:st=K2 vals from_ pl.length) :
  f0I F (O3 l n a b e at_ work pl vals fB fD) from_=some (O3 l n a b e at_ work (st.map fun i=>pl.getD i 0) (st.map fun i:Nat=>gt vals (i:Int)) (fun i k=>fB (st.getD i 0) (st.getD k 0)) (fun i k=>fD (st.getD i 0) (st.getD k 0))):=by
 have f1:=K.f1;have hm:=C.le;have hn:=K.T.n64;have ht:=l8 l;have hvl:=C.len;have hsl:=m02 vals from_ pl.length;unfold f0I;have:=V2 (step:=g0w F (O3 l n a b e at_ work pl vals fB fD) from_) (fun i=>((i:Int),(l,Q1 l l.length,a,(List.range n).map b,(List.range n).map (fun p=>(e p).1.Steps),at_,work,(K2 vals from_ i).map (fun j=>((pl.getD j 0:Nat):Int)),(K2 vals from_ i).map (fun j:Nat=>gt vals (j:Int)),((K2 vals from_ i).map (fun j=>(K2 vals from_ pl.length).map (fB j)),(K2 vals from_ i).map (fun j=>(K2 vals from_ pl.length).map (fD j))))))
  (l,Q1 l l.length,a,(List.range n).map b,(List.range n).map (fun p=>(e p).1.Steps),at_,work,(K2 vals from_ pl.length).map (fun j=>((pl.getD j 0:Nat):Int)),(K2 vals from_ pl.length).map (fun j:Nat=>gt vals (j:Int)),((K2 vals from_ pl.length).map (fun j=>(K2 vals from_ pl.length).map (fB j)),(K2 vals from_ pl.length).map (fun j=>(K2 vals from_ pl.length).map (fD j)))) pl.length (fun i hi=>.inl ?_) ?_ pl.length 0 F (by omega) (by omega)
 ·have h2:iter (g0w F (O3 l n a b e at_ work pl vals fB fD) from_) F (0,((O3 l n a b e at_ work pl vals fB fD).L,(O3 l n a b e at_ work pl vals fB fD).Leaves,(O3 l n a b e at_ work pl vals fB fD).First,(O3 l n a b e at_ work pl vals fB fD).Hops,(O3 l n a b e at_ work pl vals fB fD).Ends,(O3 l n a b e at_ work pl vals fB fD).At,(O3 l n a b e at_ work pl vals fB fD).Work,[],[],([],[])))=_:=this;rw [h2];have em:∀ f:Nat->Nat->Int,(st.map fun j=>st.map (f j))=Q0 st.length st.length (fun i k=>f (st.getD i 0) (st.getD k 0)):=fun f=>by
   refine ext_getElem (by simp) fun j h1 h2=>?_;simp only [length_map] at h1;simp only [Q0,List.getElem_map,List.getElem_range];refine ext_getElem (by simp) fun k h3 h4=>?_;simp only [length_map] at h3;simp [E3,List.getD,h1,h3]
  rw [<-hst,em,em];simp only [E0,O3,Q8,O1,length_map,O0,List.map_map];rfl
 ·unfold g0w;have h1:(i:Int)<((O0 pl).length:Int):=by simp;omega
  have hv:=C.row _ (mem_of_getElem? (E4 (l:=vals) (i:=i) (by omega)));have hl2:=m02 vals from_ i;have hk:=E00 (at_:=at_) (work:=work) K C from_ hi;have hap1:I0 8 ((K2 vals from_ i).map (fun j=>((pl.getD j 0:Nat):Int))) [((pl.getD i 0:Nat):Int)]=true:=by simp [I0];omega
  have hap2:I0 24 ((K2 vals from_ i).map (fun j:Nat=>gt vals (j:Int))) [gt vals (i:Int)]=true:=by simp [I0];omega
  have hap3:I0 24 ((K2 vals from_ i).map (fun j=>(K2 vals from_ pl.length).map (fB j))) [(K2 vals from_ pl.length).map (fB i)]=true:=by simp [I0];omega
  have hap4:I0 24 ((K2 vals from_ i).map (fun j=>(K2 vals from_ pl.length).map (fD j))) [(K2 vals from_ pl.length).map (fD i)]=true:=by simp [I0];omega
  simp only [hk,nst];simp only [O3,Q8,h1,decide_true,if_true,P0 (l:=vals) (i:=(i:Int)) (by omega) (by omega),P0 (l:=gt vals (i:Int)) (i:=0) (by omega) (by omega),A6 hi,e7 hi,hap1,hap2,hap3,hap4,E0,E2 (i:=i) (by omega)];split
  ·rename_i h2;have h3:¬ decide (gt (gt vals (i:Int)) 0<=from_)=true:=by have:gt (gt vals (i:Int)) 0>from_:=of_decide_eq_true h2;simp;omega
   simp only [h3,if_false];rfl
  ·rename_i h2;have h3:decide (gt (gt vals (i:Int)) 0<=from_)=true:=by
    have:¬ gt (gt vals (i:Int)) 0>from_:=fun h=>h2 (decide_eq_true h);simp;omega
   simp only [h3,if_true];rfl
 ·unfold g0w;have h1:¬ ((pl.length:Int)<((O0 pl).length:Int)):=by simp
  simp only [O3,Q8,h1,decide_false,if_false,false_eq_true]
theorem w0k (vals:List (List Int)) (from_:Int) (k:Nat):(K2 vals from_ k).Pairwise fun a b=>a<b:=List.Pairwise.filter _ List.pairwise_lt_range
theorem n0N {st:List Nat} (h:st.Pairwise fun a b=>a<b) {i k:Nat} (hk:k<st.length) (hik:i<k):st.getD i 0<st.getD k 0:=by
 have:=List.pairwise_iff_getElem.1 h i k (by omega) hk hik;simpa [List.getD,hk,show i<st.length by omega] using this
theorem u0t (C:U3 l n pl vals fB fD) {st:List Nat} (hs:st.Pairwise fun a b=>a<b) (hlt:∀ i∈st,i<pl.length) :
  U3 l n (st.map fun i=>pl.getD i 0) (st.map fun i:Nat=>gt vals (i:Int)) (fun i k=>fB (st.getD i 0) (st.getD k 0)) (fun i k=>fD (st.getD i 0) (st.getD k 0)) where
 len:=by simp
 pln p hp:=by
  obtain ⟨i,hi,rfl⟩:=mem_map.1 hp;exact T6 C.pln (hlt i hi)
 asc:=by
  rw [List.pairwise_map];exact hs.imp_of_mem fun {x y} hx hy hxy=>n0N C.asc (hlt y hy) hxy
 row v hv:=by
  obtain ⟨i,hi,rfl⟩:=mem_map.1 hv;exact C.row _ (mem_of_getElem? (E4 (l:=vals) (i:=i) (by rw [C.len];exact hlt i hi)))
 rk:=by
  have g:∀ i,i<(st.map fun i=>pl.getD i 0).length->i<st.length/\st.getD i 0<pl.length:=fun i hi=>by
   simp only [length_map] at hi;exact ⟨hi,T6 hlt hi⟩
  refine ⟨fun i k hi hk=>C.rk.b0 _ _ (g i hi).2 (g k hk).2,fun i hi=>C.rk.bd _ (g i hi).2,fun i hi=>C.rk.dd _ (g i hi).2,fun i k hi hk hne=>C.rk.d1 _ _ (g i hi).2 (g k hk).2 ?_,fun i k hi hk=>C.rk.dn _ _ (g i hi).2 (g k hk).2⟩;rcases lt_or_ge i k with h | h
  ·have:=n0N hs (g k hk).1 h;omega
  ·have:=n0N hs (g i hi).1 (show k<i by omega);omega
end
theorem k0N {l:List D0}:∀ {n:Nat} {a:List Int},u5 l n=some a->∀ j,j<n->∃ b,u5 l j=some b/\b.length=j/\(∀ i:Nat,i<j->gt a (i:Int)=gt b (i:Int))/\gt a (j:Int)=Q3 l b j/\0<=Q3 l b j
 |0,a,h,j,hj=>by omega
 |
  n+1,a,h,j,hj=>by
  simp only [u5] at h;split at h
  ·cases h
  ·rename_i b hb;split at h
   ·rename_i hg;cases h;have hl:=(c0G hb).len;simp only [v7,Bool.and_eq_true,decide_eq_true_eq] at hg
    by_cases e:j=n
    ·subst e;exact ⟨b,hb,hl,fun i hi=>a0R (by omega) (by omega),c0I hl.symm,hg.1.1⟩
    ·obtain ⟨c,h1,h2,h3,h4,h5⟩:=k0N hb j (by omega);exact ⟨c,h1,h2,fun i hi=>by rw [a0R (by omega) (by omega)];exact h3 i hi,by rw [a0R (by omega) (by omega)];exact h4,h5⟩
   ·cases h
theorem p0E {c:Prop} [Decidable c] {v z:Int} (h:0<=if c then v else -1) (e:v=z):(if c then v else -1)=z:=by
 by_cases hc:c
 ·rw [if_pos hc];exact e
 ·rw [if_neg hc] at h;omega
theorem v0z {c d:Prop} [Decidable c] [Decidable d] {v z:Int} (h:0<=if c then (if d then v else -1) else -1) (e:v=z):(if c then (if d then v else -1) else -1)=z:=by
 by_cases hc:c
 ·rw [if_pos hc] at h ⊢;exact p0E h e
 ·rw [if_neg hc] at h;omega
theorem B04 {l:List D0}:∀ {s:Tm} {lo n:Nat} {a:List Int},At l lo s->s.top lo<n->u5 l n=some a->gt a (s.top lo:Int)=lo:=by
 intro s
 induction s with
 |
  eps | leaf s=>
  intro lo n a h hn ha;obtain ⟨b,h1,h2,h3,h4,h5⟩:=k0N ha _ hn;rw [h4];have hg:=h.Z3;unfold Q3;rw [hg];simp [Tm.node,Tm.top,Tm.size]
 |
  cat x y ihx ihy | alt x y ihx ihy=>
  intro lo n a h hn ha;obtain ⟨b,h1,h2,h3,h4,h5⟩:=k0N ha _ hn;have hg:=h.Z3;obtain ⟨hx,hy,_⟩:=(At.bin rfl rfl).1 h;have:=x.size_pos;have:=y.size_pos;rw [h4];have i1:=ihx hx (n:=Tm.top _ lo) (a:=b) (by simp only [Tm.top,Tm.size];omega) h1;unfold Q3 at h5 ⊢;rw [hg] at h5 ⊢;simp only [Tm.node] at h5 ⊢
  revert h5
  simp only [show ¬ ((3:Int)=1\/(3:Int)=2) from by omega,show ¬ ((4:Int)=1\/(4:Int)=2) from by omega,if_false,show ((3:Int)=3\/(3:Int)=4) from .inl rfl,show ((4:Int)=3\/(4:Int)=4) from .inr rfl,if_true];intro h5
  first | exact p0E h5 i1 | exact v0z h5 i1
 |
  star x ihx | maybe x ihx | group _ x ihx | iter x ihx=>
  intro lo n a h hn ha;obtain ⟨b,h1,h2,h3,h4,h5⟩:=k0N ha _ hn;have hg:=h.Z3;obtain ⟨hx,_⟩:=(At.un rfl rfl).1 h;have:=x.size_pos;rw [h4];have i1:=ihx hx (n:=Tm.top _ lo) (a:=b) (by simp only [Tm.top,Tm.size];omega) h1;unfold Q3 at h5 ⊢;rw [hg] at h5 ⊢;simp only [Tm.node] at h5 ⊢
  revert h5
  simp;intro h5
  first | exact p0E h5 i1 | exact v0z h5 i1
theorem f0M {l:List D0} (hR:J2 l=true) {s:Tm} {lo:Nat} (h:At l lo s):gt (X3 l) (s.top lo:Int)=lo:=by
 have ht:=h.u6;unfold J2 at hR;unfold X3 at hR ⊢;cases e:u5 l l.length with
 |none=>rw [e] at hR;simp at hR
 |
  some a=>
  rw [e] at hR;dsimp only at hR ⊢;split
  ·rename_i hc;rw [if_pos hc] at hR;simp at hR
  ·exact B04 h ht e
theorem w0B {l:List D0} (hR:J2 l=true) {s:Tm} {lo:Nat} (h:At l lo s) {q:Nat} (h1:lo<=q) (h2:q<lo+s.size):(lo:Int)<=gt (X3 l) (q:Int):=by
 obtain ⟨lo',s',h3,h4,h5,_⟩:=h.s0M q h1 h2;have:=f0M hR h3;rw [h4] at this;rw [this];omega
def P6 (l:List D0) (a b:Nat) (q:Nat):Bool:=decide (gt (X3 l) (q:Int)<=(a:Int))&&(decide (a<=q)&&(decide (gt (X3 l) (q:Int)<=(b:Int))&&decide (b<=q)))
theorem c0g {l:List D0} {a b q:Nat}:P6 l a b q=true↔gt (X3 l) (q:Int)<=(a:Int)/\a<=q/\gt (X3 l) (q:Int)<=(b:Int)/\b<=q:=by
 simp [P6]
def b0Q (b:Nat):List Fr->Nat->Tm->Nat
 |[],lo,s=>s.top lo
 |f :: fs,lo,s=>if lo<=b/\b<=s.top lo then s.top lo else b0Q b fs (lo-f.off) (f.O2 s)
theorem z0Z {l:List D0} {t:Tm} (ht:J4 l t) (hR:J2 l=true) {a b:Nat} (hb:b<l.length):∀ (fs:List Fr) (lo:Nat) (s:Tm),Ctx t lo s fs->lo<=a->a<=s.top lo->(∀ q,lo<=q->q<s.top lo->P6 l a b q=false)->
  P6 l a b (b0Q b fs lo s)=true/\(∀ q,q<b0Q b fs lo s->P6 l a b q=false)/\b0Q b fs lo s<l.length:=by
 intro fs
 induction fs with
 |
  nil=>
  intro lo s hc h1 h2 h3;obtain ⟨rfl,rfl⟩:=hc;have hlen:=ht.len;have hp:=s.size_pos;have hl:=f0M hR ht.at0;simp only [b0Q];refine ⟨c0g.2 ⟨by rw [hl];omega,h2,by rw [hl];omega,by unfold Tm.top;omega⟩,fun q hq=>h3 q (zero_le _) hq,by unfold Tm.top;omega⟩
 |
  cons f fs ih=>
  intro lo s hc h1 h2 h3;have hat:=hc.at_ ht;have hlo:=f0M hR hat;have htop:=hat.u6;simp only [b0Q];split
  ·rename_i hin;refine ⟨c0g.2 ⟨by rw [hlo];omega,h2,by rw [hlo];omega,hin.2⟩,fun q hq=>?_,htop⟩
   by_cases h:lo<=q
   ·exact h3 q h hq
   ·have:¬ P6 l a b q=true:=fun h'=>by have:=(c0g.1 h').2.1;omega
    simpa using this
  ·rename_i hout;obtain ⟨hoff,hc2⟩:=hc;have hat2:=hc2.at_ ht;have hsp:=s.size_pos;have inS:∀ q,lo<=q->q<=s.top lo->P6 l a b q=false:=fun q q1 q2=>by
    have hge:=w0B hR hat q1 (by unfold Tm.top at q2;omega);have:¬ P6 l a b q=true:=fun h'=>by
     obtain ⟨_,_,p3,p4⟩:=c0g.1 h';exact hout ⟨by omega,by omega⟩
    simpa using this
   have hlt:∀ q,q<lo->P6 l a b q=false:=fun q q1=>by
    have:¬ P6 l a b q=true:=fun h'=>by have:=(c0g.1 h').2.1;omega
    simpa using this
   have hgt:∀ (y:Tm),At l (lo+s.size) y->∀ q,lo+s.size<=q->q<lo+s.size+y.size->P6 l a b q=false:=fun y hy q q1 q2=>by
    have hge:=w0B hR hy q1 q2;have:¬ P6 l a b q=true:=fun h'=>by
     have:=(c0g.1 h').1;unfold Tm.top at h2;omega
    simpa using this
   have all:∀ q,lo-f.off<=q->q<(f.O2 s).top (lo-f.off)->P6 l a b q=false:=fun q q1 q2=>by
    rcases lt_or_ge q lo with c | c
    ·exact hlt q c
    ·rcases lt_or_ge (s.top lo) q with c2 | c2
     ·cases f<;>simp only [Fr.O2,Fr.off,sub_zero,Tm.top,Tm.size] at q1 q2 c2 hat2 hoff
      case catL y=>exact hgt y ((At.bin rfl rfl).1 hat2).2.1 q (by omega) (by omega)
      case altL y=>exact hgt y ((At.bin rfl rfl).1 hat2).2.1 q (by omega) (by omega)
      all_goals omega
     ·exact inS q c c2
   refine ih _ _ hc2 (by omega) ?_ all;cases f<;>simp only [Fr.O2,Fr.off,sub_zero,Tm.top,Tm.size] at h2 hoff ⊢<;>omega
def I4 (l:List D0) (a b:Nat):Nat:=((List.range l.length).find? (P6 l a b)).getD 0
theorem I0i {P:Nat->Bool} {n k:Nat} (hk:k<n) (h:P k=true) (hf:∀ q,q<k->P q=false):(List.range n).find? P=some k:=by
 rw [List.find?_eq_some_iff_append];refine ⟨h,List.range k,(List.range (n-k-1)).map (k+1+·),?_,fun q hq=>by simp [hf q (mem_range.1 hq)]⟩;refine ext_getElem (by simp;omega) fun i h1 h2=>?_;simp only [List.length_range] at h1;simp only [List.getElem_range];rcases Nat.lt_trichotomy i k with c | c | c
 ·rw [List.getElem_append_left (by simpa using c)];simp
 ·subst c;rw [List.getElem_append_right (by simp)];simp
 ·rw [List.getElem_append_right (by simp;omega)];simp only [List.length_range];rw [List.getElem_cons];rw [dif_neg (by omega)];simp;omega
theorem z00 {l:List D0} {a b k:Nat} (hk:k<l.length) (h:P6 l a b k=true) (hf:∀ q,q<k->P6 l a b q=false):I4 l a b=k:=by
 unfold I4;rw [I0i hk h hf];rfl
theorem t0R (l:List D0) (a b:Nat):I4 l a b=I4 l b a:=by
 have:P6 l a b=P6 l b a:=funext fun q=>by
  unfold P6;cases decide (gt (X3 l) (q:Int)<=(a:Int))<;>cases decide (a<=q)<;>cases decide (gt (X3 l) (q:Int)<=(b:Int))<;>cases decide (b<=q)<;>rfl
 unfold I4;rw [this]
theorem q0Q {l:List D0} {t:Tm} (ht:J4 l t) {q:Nat} (hq:q<l.length):∃ lo s fs,Ctx t lo s fs/\s.top lo=q:=by
 have h0:Ctx t 0 t []:=⟨rfl,rfl⟩
 exact h0.down q (zero_le _) (by have:=ht.len;omega)
theorem h0L {l:List D0} (hw:∀ x∈l,C3 x) (hR:J2 l=true) {a b:Nat} (ha:a<l.length) (hb:b<l.length):I4 l a b<l.length/\P6 l a b (I4 l a b)=true/\∀ q,q<I4 l a b->P6 l a b q=false:=by
 obtain ⟨t,ht⟩:=a0u hw hR;obtain ⟨lo,s,fs,hc,hs⟩:=q0Q ht ha;have hat0:=ht.at0;have hlen:=ht.len;have hp:=t.size_pos;have hl:=f0M hR hat0;have hroot:P6 l a b (l.length-1)=true:=c0g.2 ⟨by rw [show l.length-1=t.top 0 from by unfold Tm.top;omega,hl];omega,by omega,by rw [show l.length-1=t.top 0 from by unfold Tm.top;omega,hl];omega,by omega⟩;cases e:(List.range l.length).find? (P6 l a b) with
 |
  none=>
  rw [List.find?_eq_none] at e;exact absurd hroot (e _ (by simp;omega))
 |
  some k=>
  have hk:=mem_range.1 (List.mem_of_find?_eq_some e);have h1:=List.find?_some e;have:I4 l a b=k:=by unfold I4;rw [e];rfl
  rw [this];refine ⟨hk,h1,fun q hq=>?_⟩;rw [List.find?_eq_some_iff_append] at e;obtain ⟨_,as_,bs_,e1,e2⟩:=e;have hql:q<as_.length:=by
   have e3:(List.range l.length)[as_.length]?=some k:=by rw [e1];simp
   have e4:as_.length<l.length:=by
    have:=congrArg List.length e1;simp at this;omega
   rw [List.getElem?_range e4] at e3;cases e3;exact hq
  have e5:as_[q]?=some q:=by
   have:(List.range l.length)[q]?=some q:=List.getElem?_range (by omega);rw [e1,List.getElem?_append_left hql] at this;exact this
  have:=e2 q (mem_of_getElem? e5);simpa using this
theorem u0P {d d':List Int}:∀ {s:Tm} {lo k:Nat},w8 d lo k s->w8 d' lo k s->∀ j:Nat,lo<=j->j<=s.top lo->gt d (j:Int)=gt d' (j:Int)/\(k:Int)<=gt d (j:Int)/\gt d (j:Int)<k+s.size:=by
 intro s
 induction s with
 |
  eps | leaf s=>
  intro lo k h h' j j1 j2;have:j=lo:=by simp only [Tm.top,Tm.size] at j2;omega
  subst this;simp only [w8] at h h';simp only [Tm.size];omega
 |
  cat a b iha ihb | alt a b iha ihb=>
  intro lo k h h' j j1 j2;obtain ⟨p1,p2,p3⟩:=h;obtain ⟨q1,q2,q3⟩:=h';have:=a.size_pos;have:=b.size_pos;simp only [Tm.top,Tm.size] at p1 q1 j2 ⊢;rcases lt_or_ge j (lo+a.size) with c | c
  ·have:=iha p2 q2 j j1 (by unfold Tm.top;omega);omega
  ·rcases lt_or_ge j (lo+a.size+b.size) with c2 | c2
   ·have:=ihb p3 q3 j c (by unfold Tm.top;omega);omega
   ·have:j=lo+(a.size+b.size+1)-1:=by omega
    subst this;omega
 |
  star a iha | maybe a iha | group _ a iha | iter a iha=>
  intro lo k h h' j j1 j2;obtain ⟨p1,p2⟩:=h;obtain ⟨q1,q2⟩:=h';have:=a.size_pos;simp only [Tm.top,Tm.size] at p1 q1 j2 ⊢;rcases lt_or_ge j (lo+a.size) with c | c
  ·have:=iha p2 q2 j j1 (by unfold Tm.top;omega);omega
  ·have:j=lo+(a.size+1)-1:=by omega
   subst this;omega
theorem t0i {d d':List Int} {t:Tm} (h:a0A d t) (h':a0A d' t):d=d':=by
 have hp:=t.size_pos;refine ext_getElem (by rw [h.len,h'.len]) fun j h1 h2=>?_;have e:=(u0P h.deep h'.deep j (zero_le _) (by have:=h.len;unfold Tm.top;omega)).1
 rwa [I3 (x:=d[j]) (by simp [h1]),I3 (x:=d'[j]) (by simp [h2])] at e
def F8 (l:List D0):List Int:=(Old.a0n 402 l).getD []
theorem q0s {l:List D0} {t:Tm} (ht:J4 l t) (hR:J2 l=true):a0A (F8 l) t:=by
 obtain ⟨d,h1,h2⟩:=Old.k0o ht hR (show 401<402 by omega);unfold F8;rw [h1];exact h2
theorem e0R {l:List D0} (hw:∀ x∈l,C3 x) (hR:J2 l=true):(F8 l).length=l.length/\∀ q:Nat,q<l.length->1<=gt (F8 l) (q:Int)/\gt (F8 l) (q:Int)<=400:=by
 obtain ⟨t,ht⟩:=a0u hw hR;have h:=q0s ht hR;have h400:=ht.le;have hlen:=ht.len;have hp:=t.size_pos;refine ⟨by rw [h.len,hlen],fun q hq=>?_⟩;have:=(u0P h.deep h.deep q (zero_le _) (by unfold Tm.top;omega)).2;omega
theorem G0X {l:List D0} (hw:∀ x∈l,C3 x) (hR:J2 l=true) {F:Nat} (hf:401<F):a0n F l=some (F8 l):=by
 obtain ⟨t,ht⟩:=a0u hw hR;obtain ⟨d,h1,h2⟩:=Old.k0o ht hR hf;rw [t0i h2 (q0s ht hR)] at h1;exact b7 s0O h1
theorem y0c {l:List D0} (hw:∀ x∈l,C3 x) (hR:J2 l=true) {F:Nat} (hf:401<F):a0V F l=some (F8 l):=by
 obtain ⟨t,ht⟩:=a0u hw hR;obtain ⟨d,h1,h2⟩:=Old.s0N ht hR hf;rw [t0i h2 (q0s ht hR)] at h1;exact b7 r0n h1
def E9 (l:List D0) (x y:B0):Int:=gt (F8 l) ((I4 l (gt (Q1 l l.length) x.To).toNat (gt (Q1 l l.length) y.To).toNat:Nat):Int)+1
def d0V (l:List D0) (x y:B0):Bool:=(gt l ((I4 l (gt (Q1 l l.length) x.To).toNat (gt (Q1 l l.length) y.To).toNat:Nat):Int)).Kind==3
def r7 (l:List D0) (x y:B0):Int×Int×Int:=
 if x.Turn>y.Turn then (x.Turn+1,y.Turn+1,1) else if x.Turn<y.Turn then (x.Turn+1,y.Turn+1,-1) else
 if x.To>y.To then (E9 l x y,if d0V l x y then E9 l x y+1 else E9 l x y,-1) else (if d0V l x y then E9 l x y+1 else E9 l x y,E9 l x y,1)
theorem y0A (l:List D0) (x y:B0):E9 l x y=E9 l y x:=by unfold E9;rw [t0R]
theorem E0p (l:List D0) (x y:B0):d0V l x y=d0V l y x:=by unfold d0V;rw [t0R]
theorem m0H (l:List D0) (x y:B0) (h:x.To≠y.To):r7 l y x=((r7 l x y).2.1,(r7 l x y).1,- (r7 l x y).2.2):=by
 unfold r7;rw [y0A l y x,E0p l y x];rcases Int.lt_trichotomy x.Turn y.Turn with c | c | c
 ·rw [if_pos (show y.Turn>x.Turn from c),if_neg (show ¬ x.Turn>y.Turn by omega),if_pos c];simp
 ·rw [if_neg (show ¬ y.Turn>x.Turn by omega),if_neg (show ¬ y.Turn<x.Turn by omega),if_neg (show ¬ x.Turn>y.Turn by omega),if_neg (show ¬ x.Turn<y.Turn by omega)];rcases Int.lt_or_gt_of_ne h with c2 | c2
  ·rw [if_pos (show y.To>x.To from c2),if_neg (show ¬ x.To>y.To by omega)]
  ·rw [if_neg (show ¬ y.To>x.To by omega),if_pos (show x.To>y.To from c2)];simp
 ·rw [if_neg (show ¬ y.Turn>x.Turn by omega),if_pos (show y.Turn<x.Turn from c),if_pos (show x.Turn>y.Turn from c)]
structure J7 (n:Nat) (h:B0):Prop where
 to0:0<=h.To
 to1:h.To<n
 t0:0<=h.Turn
 t1:h.Turn<=400
theorem s0i {l:List D0} (hw:∀ x∈l,C3 x) (hR:J2 l=true) {n:Nat} (hn:n=N0 l l.length) {x y:B0} (hx:J7 n x) (hy:J7 n y):0<=(r7 l x y).1/\0<=(r7 l x y).2.1/\((r7 l x y).2.2=1\/(r7 l x y).2.2=-1):=by
 have hq:1<=E9 l x y:=by
  obtain ⟨h1,h2,h3,h4⟩:=hx;obtain ⟨k1,k2,k3,k4⟩:=hy;obtain ⟨p,hp,hp2,_⟩:=b07 l l.length x.To.toNat (by omega);obtain ⟨q,hq,hq2,_⟩:=b07 l l.length y.To.toNat (by omega);have e1:gt (Q1 l l.length) x.To=(p:Int):=i0s hp2;have e2:gt (Q1 l l.length) y.To=(q:Int):=i0s hq2;have hj:=(h0L hw hR (a:=p) (b:=q) hp hq).1;have:=((e0R hw hR).2 _ hj).1;unfold E9;rw [e1,e2];simp only [Int.toNat_natCast];omega
 obtain ⟨h1,h2,h3,h4⟩:=hx;obtain ⟨k1,k2,k3,k4⟩:=hy;unfold r7;split
 ·exact ⟨by simp only;omega,by simp only;omega,.inl rfl⟩
 ·split
  ·exact ⟨by simp only;omega,by simp only;omega,.inr rfl⟩
  ·split
   ·refine ⟨by simp only;omega,?_,.inr rfl⟩;simp only;split<;>omega
   ·refine ⟨?_,by simp only;omega,.inl rfl⟩;simp only;split<;>omega
section
variable (l:List D0) (fB fD:Nat->Nat->Int) (fr:List Nat) (hops:List B0)
def H4 (i k:Nat):Int:=if i=k then 0 else if fr.getD i 0=fr.getD k 0 then (r7 l (gt hops (i:Int)) (gt hops (k:Int))).1 else K7 (fB (fr.getD i 0) (fr.getD k 0)) (gt hops (i:Int)).Turn
def U4 (i k:Nat):Int:=if i=k then 0 else if fr.getD i 0=fr.getD k 0 then (r7 l (gt hops (i:Int)) (gt hops (k:Int))).2.2 else N7 fB fD (fr.getD i 0) (fr.getD k 0) (gt hops (i:Int)) (gt hops (k:Int))
end
theorem z0t {fB fD:Nat->Nat->Int} {a b:Nat} {p q:B0} (h:fD b a=- fD a b):N7 fB fD b a q p=- N7 fB fD a b p q:=by
 unfold N7;rcases Int.lt_trichotomy (K7 (fB a b) p.Turn) (K7 (fB b a) q.Turn) with c | c | c
 ·rw [if_pos c,if_neg (show ¬ K7 (fB a b) p.Turn>K7 (fB b a) q.Turn by omega),if_pos c];rfl
 ·rw [if_neg (by omega),if_neg (by omega),if_neg (by omega),if_neg (by omega),h]
 ·rw [if_neg (by omega),if_pos c,if_pos c]
theorem B0A {b t:Int} (hb:0<=b) (ht:0<=t) (ht2:t<=400):0<=K7 b t:=by
 unfold K7;rw [Z2 (by omega) (by omega)];split<;>omega
theorem B0M {fB fD:Nat->Nat->Int} {a b:Nat} {p q:B0} (h:fD a b=1\/fD a b=-1):N7 fB fD a b p q=1\/N7 fB fD a b p q=-1:=by
 unfold N7;split
 ·exact .inl rfl
 ·split
  ·exact .inr rfl
  ·exact h
theorem a0O {n:Nat} {hops:List B0} (h:∀ x∈hops,J7 n x) {i:Nat} (hi:i<hops.length):J7 n (gt hops (i:Int)):=h _ (mem_of_getElem? (E4 hi))
theorem o0W {hops:List B0} (h:hops.Pairwise fun a b=>a.To<b.To) {i k:Nat} (hi:i<hops.length) (hk:k<hops.length) (hne:i≠k):(gt hops (i:Int)).To≠(gt hops (k:Int)).To:=by
 have hp:=List.pairwise_iff_getElem.1 h;have e1:gt hops (i:Int)=hops[i]:=I3 (by simp [hi]);have e2:gt hops (k:Int)=hops[k]:=I3 (by simp [hk]);rw [e1,e2];rcases Nat.lt_or_gt_of_ne hne with c | c
 ·have:=hp i k hi hk c;omega
 ·have:=hp k i hk hi c;omega
theorem p03 {l:List D0} (hw:∀ x∈l,C3 x) (hR:J2 l=true) {n:Nat} (hn:n=N0 l l.length) {m:Nat} {fB fD:Nat->Nat->Int} (h:e8 m fB fD) {fr:List Nat} {hops:List B0} (hi:∀ i∈fr,i<m) (hlen:hops.length=fr.length) (hh:∀ x∈hops,J7 n x)
  (hasc:hops.Pairwise fun a b=>a.To<b.To):e8 fr.length (H4 l fB fr hops) (U4 l fB fD fr hops) where
 b0 i k h1 h2:=by
  have x1:=a0O hh (i:=i) (by omega);have x2:=a0O hh (i:=k) (by omega);unfold H4;split
  ·exact Int.le_refl _
  ·split
   ·exact (s0i hw hR hn x1 x2).1
   ·exact B0A (h.b0 _ _ (T6 hi h1) (T6 hi h2)) x1.t0 x1.t1
 bd i h1:=by unfold H4;rw [if_pos rfl]
 dd i h1:=by unfold U4;rw [if_pos rfl]
 d1 i k h1 h2 hne:=by
  have x1:=a0O hh (i:=i) (by omega);have x2:=a0O hh (i:=k) (by omega);unfold U4;rw [if_neg hne];split
  ·exact (s0i hw hR hn x1 x2).2.2
  ·rename_i hf;exact B0M (h.d1 _ _ (T6 hi h1) (T6 hi h2) hf)
 dn i k h1 h2:=by
  unfold U4
  by_cases e:i=k
  ·subst e;rw [if_pos rfl];rfl
  ·rw [if_neg e,if_neg (fun h=>e h.symm)]
   by_cases e2:fr.getD i 0=fr.getD k 0
   ·rw [if_pos e2,if_pos e2.symm,m0H l _ _ (o0W hasc (by omega) (by omega) e)]
   ·rw [if_neg e2,if_neg (fun h=>e2 h.symm)];exact z0t (h.dn _ _ (T6 hi h1) (T6 hi h2))
theorem l0A {σ τ:Type} {step:σ->Option (U0 σ τ)} {s s':σ} {k:Nat} (h:step s=some (.next s')):iter step (k+1) s=iter step k s':=by
 rw [show iter step (k+1) s=match step s with | none=>none | some (.next s')=>iter step k s' | some (.done t)=>some t from rfl,h]
theorem g0d {σ τ:Type} {step:σ->Option (U0 σ τ)} {s:σ} {t:τ} {k:Nat} (h:step s=some (.done t)):iter step (k+1) s=some t:=by
 rw [show iter step (k+1) s=match step s with | none=>none | some (.next s')=>iter step k s' | some (.done t)=>some t from rfl,h]
section
variable {F:Nat} {l:List D0}
theorem x0e {t:Tm} (ht:J4 l t) (hR:J2 l=true) {u d:List Int} (hu:UpT u t) (hd:a0A d t) {b:Nat} (hb:b<l.length):∀ (fs:List Fr) (lo:Nat) (s:Tm),Ctx t lo s fs->∀ k,fs.length<k->iter (a0m u (X3 l) (b:Int)) k (s.top lo:Int)=some ((b0Q b fs lo s:Nat):Int):=by
 have hL:=b0x hR;have hlen:=ht.len;intro fs
 induction fs with
 |
  nil=>
  intro lo s hc k hk;obtain ⟨k,rfl⟩:∃ q,k=q+1:=⟨k-1,by simp at hk;omega⟩
  have hat:=hc.at_ ht;have hlo:=f0M hR hat;have htop:=hat.u6;obtain ⟨rfl,rfl⟩:=hc;have hin:y0 (X3 l) (s.top 0:Int)=true:=P0 (by omega) (by rw [hL.len];omega);have h1:(s.top 0:Int)>=0:=by omega
  have h2:gt (X3 l) (s.top 0:Int)<=(b:Int):=by rw [hlo];omega
  have h3:(b:Int)<=(s.top 0:Int):=by unfold Tm.top;omega
  refine g0d ?_;unfold a0m;simp only [Int.natCast_nonneg,decide_true,if_true,hin,h2,h3,Bool.and_self,b0Q]
 |
  cons f fs ih=>
  intro lo s hc k hk;obtain ⟨k,rfl⟩:∃ q,k=q+1:=⟨k-1,by simp at hk;omega⟩
  have hat:=hc.at_ ht;have hlo:=f0M hR hat;have htop:=hat.u6;have hed:=hc.m0V ht hu hd;have hin:y0 (X3 l) (s.top lo:Int)=true:=P0 (by omega) (by rw [hL.len];omega);have hiu:y0 u (s.top lo:Int)=true:=P0 (by omega) (by rw [hu.len];omega);have hn:=ih _ _ hc.2 k (by simp at hk;omega)
  by_cases h:lo<=b/\b<=s.top lo
  ·refine g0d ?_;unfold a0m;simp only [Int.natCast_nonneg,decide_true,if_true,hin,hiu,hlo,Bool.true_and,b0Q,hed];have h1:(lo:Int)<=(b:Int):=by omega
   have h2:(b:Int)<=(s.top lo:Int):=by omega
   simp only [h,h1,h2,decide_true,Bool.and_self,if_true,and_self]
  ·have h2:(decide ((lo:Int)<=(b:Int))&&decide ((b:Int)<=(s.top lo:Int)))=false:=by
    simp only [Bool.and_eq_false_iff,decide_eq_false_iff_not];omega
   have hs:a0m u (X3 l) (b:Int) (s.top lo:Int)=some (.next ((Fr.O2 s f).top (lo-f.off):Int)):=by
    unfold a0m;simp only [Int.natCast_nonneg,decide_true,if_true,hin,hiu,hlo,Bool.true_and,hed,h2,false_eq_true,if_false]
   rw [l0A hs,b0Q,if_neg h,hn]
theorem C08 (hw:∀ x∈l,C3 x) (hR:J2 l=true) (hf:1000<F) {a b:Nat} (ha:a<l.length) (hb:b<l.length):f0S F l (a:Int) (b:Int)=some ((I4 l a b:Nat):Int):=by
 obtain ⟨t,ht⟩:=a0u hw hR;obtain ⟨u,h1,h2⟩:=Old.o0p ht hR (show 401<F by omega);obtain ⟨d,_,h4⟩:=Old.k0o ht hR (show 401<F by omega);obtain ⟨lo,s,fs,hc,hs⟩:=q0Q ht ha;have hul:=h2.len;have hlen:=ht.len;have h400:=ht.le;have hsz:=hc.size;have hj:=z0Z ht hR (a:=a) hb fs lo s hc (by have:=s.size_pos;unfold Tm.top at hs;omega) (by omega) (fun q q1 q2=>by
  have:¬ P6 l a b q=true:=fun h'=>by have:=(c0g.1 h').2.1;omega
  simpa using this)
 have hwk:=x0e ht hR h2 h4 hb fs lo s hc F (by omega);rw [hs] at hwk;unfold f0S;rw [b7 t0I h1];have c1:(decide ((a:Int)<0)||(decide ((b:Int)<0)||(decide ((a:Int)>=(u.length:Int))||decide ((b:Int)>=(u.length:Int)))))=false:=by
  simp only [Bool.or_eq_false_iff,decide_eq_false_iff_not];omega
 simp only [E0,c1,false_eq_true,if_false,v0M (show 401<F by omega),hwk];rw [z00 hj.2.2 hj.1 hj.2.1]
theorem C0m (hw:∀ x∈l,C3 x) (hR:J2 l=true) (hl:l.length*64<=140737488351232) (hf:1000<F) (hf2:l.length+1<F) {a b:Nat} (ha:a<l.length) (hb:b<l.length):k03 F l (a:Int) (b:Int)=some ((I4 l a b:Nat):Int):=by
 have hL:=b0x hR;have h400:=hL.le;have hlen:=hL.len;obtain ⟨j1,j2,j3⟩:=h0L hw hR ha hb;unfold k03;rw [u0E hR hl hf2];have c1:¬ (a:Int)<0:=by omega
 have c2:¬ (b:Int)<0:=by omega
 have c3:¬ (a:Int)>=((X3 l).length:Int):=by omega
 have c4:¬ (b:Int)>=((X3 l).length:Int):=by omega
 simp only [E0,c1,c2,c3,c4,decide_false,false_eq_true,if_false];have key:∀ k,k<=I4 l a b->∀ m,k<m->iter (g0s F l (a:Int) (b:Int) (X3 l)) m ((I4 l a b-k:Nat):Int)=some (.inl ((I4 l a b:Nat):Int)):=by
  intro k
  induction k with
  |
   zero=>
   intro _ m hm;obtain ⟨m,rfl⟩:∃ q,m=q+1:=⟨m-1,by omega⟩
   rw [sub_zero];obtain ⟨p1,p2,p3,p4⟩:=c0g.1 j2;have h1:((I4 l a b:Nat):Int)<(l.length:Int):=by omega
   have hin:y0 (X3 l) ((I4 l a b:Nat):Int)=true:=P0 (by omega) (by omega);have h2:(a:Int)<=((I4 l a b:Nat):Int):=by omega
   have h3:(b:Int)<=((I4 l a b:Nat):Int):=by omega
   refine g0d ?_;unfold g0s;simp only [h1,decide_true,if_true,hin,p1,h2,p3,h3,E0]
  |
   succ k ih=>
   intro hk m hm;obtain ⟨m,rfl⟩:∃ q,m=q+1:=⟨m-1,by omega⟩
   have hn:=ih (by omega) m (by omega);have hq:I4 l a b-(k+1)<I4 l a b:=by omega
   have hno:=j3 _ hq;have e1:((I4 l a b-k:Nat):Int)=((I4 l a b-(k+1):Nat):Int)+1:=by omega
   generalize I4 l a b-(k+1)=q at *;rw [e1] at hn;have h1:(q:Int)<(l.length:Int):=by omega
   have hin:y0 (X3 l) (q:Int)=true:=P0 (by omega) (by omega);have hW:W ((q:Int)+1)=(q:Int)+1:=Z2 (by omega) (by omega);rw [<-hn];refine l0A ?_;unfold g0s;simp only [h1,decide_true,if_true,hin,hW];unfold P6 at hno
   by_cases x1:gt (X3 l) (q:Int)<=(a:Int)
   ·by_cases x2:a<=q
    ·have y2:(a:Int)<=(q:Int):=by omega
     by_cases x3:gt (X3 l) (q:Int)<=(b:Int)
     ·have x4:¬ b<=q:=fun h=>by simp [x1,x2,x3,h] at hno
      have y4:¬ (b:Int)<=(q:Int):=by omega
      simp only [x1,y2,x3,y4,decide_true,decide_false,if_true,E0,false_eq_true,if_false]
     ·simp only [x1,y2,x3,decide_true,decide_false,if_true,E0,false_eq_true,if_false]
    ·have y2:¬ (a:Int)<=(q:Int):=by omega
     simp only [x1,y2,decide_true,decide_false,if_true,E0,false_eq_true,if_false]
   ·simp only [x1,decide_false,E0,false_eq_true,if_false]
 have:=key (I4 l a b) (Nat.le_refl _) F (by omega);rw [Nat.sub_self] at this;have h2:iter (g0s F l (a:Int) (b:Int) (X3 l)) F 0=_:=this;rw [h2];rfl
theorem d0M (l:List D0) {n:Nat} (hn:n=N0 l l.length) {x:Int} (h0:0<=x) (h1:x<n):∃ q:Nat,q<l.length/\gt (Q1 l l.length) x=(q:Int)/\y0 (Q1 l l.length) x=true:=by
 obtain ⟨q,h2,h3,_⟩:=b07 l l.length x.toNat (by omega);refine ⟨q,h2,i0s h3,P0 h0 ?_⟩;rw [S6];omega
theorem q0F (hw:∀ x∈l,C3 x) (hR:J2 l=true) {n:Nat} (hn:n=N0 l l.length) (hf:1000<F) (hL:E7 F l=some (Q1 l l.length)) {x y:B0} (hx:J7 n x) (hy:J7 n y) (hne:x.To≠y.To) (k:Nat) (hle:x.Turn≠y.Turn\/x.To<y.To) :
  e0F F (k+1) l x y=some (r7 l x y):=by
 obtain ⟨a1,a2,a3,a4⟩:=hx;obtain ⟨b1,b2,b3,b4⟩:=hy;have hll:=S6 l l.length;unfold e0F;rw [hL];have c1:x.To>=0:=a1;have c2:x.To<((Q1 l l.length).length:Int):=by omega
 have c3:y.To>=0:=b1;have c4:y.To<((Q1 l l.length).length:Int):=by omega
 have c5:(x.To==y.To)=false:=by simpa using hne
 have w1:W (x.Turn+1)=x.Turn+1:=Z2 (by omega) (by omega);have w2:W (y.Turn+1)=y.Turn+1:=Z2 (by omega) (by omega);simp only [E0,c1,c2,c3,c4,c5,decide_true,if_true,Bool.not_true,false_eq_true,if_false,w1,w2,decide_eq_true_eq];unfold r7
 by_cases h1:x.Turn>y.Turn
 ·rw [if_pos h1,if_pos h1]
 ·rw [if_neg h1,if_neg h1]
  by_cases h2:x.Turn<y.Turn
  ·rw [if_pos h2,if_pos h2]
  ·have h3:¬ x.To>y.To:=by omega
   rw [if_neg h2,if_neg h2,if_neg h3,if_neg h3];obtain ⟨p,hp,e1,i1⟩:=d0M l hn a1 a2;obtain ⟨q,hq,e2,i2⟩:=d0M l hn b1 b2;have hj:=(h0L hw hR hp hq).1;have hd:=(e0R hw hR).1;have hd2:=(e0R hw hR).2 _ hj;unfold E9 d0V;rw [i1,i2,e1,e2];simp only [if_true,C08 hw hR hf hp hq,G0X hw hR (show 401<F by omega),E0,Int.toNat_natCast];have i3:y0 (F8 l) ((I4 l p q:Nat):Int)=true:=P0 (by omega) (by omega);have i4:y0 l ((I4 l p q:Nat):Int)=true:=P0 (by omega) (by omega);have w3:W (gt (F8 l) ((I4 l p q:Nat):Int)+1)=gt (F8 l) ((I4 l p q:Nat):Int)+1:=Z2 (by omega) (by omega);have w4:W (gt (F8 l) ((I4 l p q:Nat):Int)+1+1)=gt (F8 l) ((I4 l p q:Nat):Int)+1+1:=Z2 (by omega) (by omega);rw [i3,i4];simp only [if_true,w3,w4];split<;>rfl
theorem I0P (hw:∀ x∈l,C3 x) (hR:J2 l=true) {n:Nat} (hn:n=N0 l l.length) (hf:1000<F) (hL:E7 F l=some (Q1 l l.length)) {x y:B0} (hx:J7 n x) (hy:J7 n y) (hne:x.To≠y.To) :
  e0F F F l x y=some (r7 l x y):=by
 obtain ⟨k,rfl⟩:∃ k,F=k+2:=⟨F-2,by omega⟩
 by_cases hle:x.Turn≠y.Turn\/x.To<y.To
 ·exact q0F hw hR hn hf hL hx hy hne _ hle
 ·have e:x.Turn=y.Turn:=by omega
  have h:=q0F hw hR hn hf hL hy hx (fun h=>hne h.symm) k (.inr (by omega));have hc:=m0H l x y hne;obtain ⟨a1,a2,a3,a4⟩:=hx;obtain ⟨b1,b2,b3,b4⟩:=hy;have hll:=S6 l l.length;unfold e0F;rw [hL];have c1:x.To>=0:=a1;have c2:x.To<((Q1 l l.length).length:Int):=by omega
  have c3:y.To>=0:=b1;have c4:y.To<((Q1 l l.length).length:Int):=by omega
  have c5:(x.To==y.To)=false:=by simpa using hne
  have h1:¬ x.Turn>y.Turn:=by omega
  have h2:¬ x.Turn<y.Turn:=by omega
  have h3:x.To>y.To:=by omega
  simp only [E0,c1,c2,c3,c4,c5,h1,h2,h3,decide_true,decide_false,if_true,Bool.not_true,false_eq_true,if_false,h,hc];have:(r7 l x y).2.2=-1:=by unfold r7;rw [if_neg h1,if_neg h2,if_pos h3]
  rw [<-this]
theorem B06 (hw:∀ x∈l,C3 x) (hR:J2 l=true) {n:Nat} (hn:n=N0 l l.length) (hl:l.length*64<=140737488351232) (hf:1000<F) (hf2:l.length+1<F) (hL:u7 F l=some (Q1 l l.length)) {x y:B0} (hx:J7 n x) (hy:J7 n y) (hne:x.To≠y.To) :
  l00 F l x y=some (r7 l x y):=by
 obtain ⟨a1,a2,a3,a4⟩:=hx;obtain ⟨b1,b2,b3,b4⟩:=hy;have hll:=S6 l l.length;unfold l00;rw [hL];have c1:¬ x.To<0:=by omega
 have c2:¬ x.To>=((Q1 l l.length).length:Int):=by omega
 have c3:¬ y.To<0:=by omega
 have c4:¬ y.To>=((Q1 l l.length).length:Int):=by omega
 have c5:(x.To==y.To)=false:=by simpa using hne
 have w1:W (x.Turn+1)=x.Turn+1:=Z2 (by omega) (by omega);have w2:W (y.Turn+1)=y.Turn+1:=Z2 (by omega) (by omega);simp only [E0,c1,c2,c3,c4,c5,decide_false,false_eq_true,if_false,w1,w2,decide_eq_true_eq];unfold r7
 by_cases h1:x.Turn>y.Turn
 ·rw [if_pos h1,if_pos h1]
 ·rw [if_neg h1,if_neg h1]
  by_cases h2:x.Turn<y.Turn
  ·rw [if_pos h2,if_pos h2]
  ·rw [if_neg h2,if_neg h2];obtain ⟨p,hp,e1,i1⟩:=d0M l hn a1 a2;obtain ⟨q,hq,e2,i2⟩:=d0M l hn b1 b2;have hj:=(h0L hw hR hp hq).1;have hd:=(e0R hw hR).1;have hd2:=(e0R hw hR).2 _ hj;unfold E9 d0V;rw [i1,i2,e1,e2];simp only [if_true,C0m hw hR hl hf hf2 hp hq,y0c hw hR (show 401<F by omega),E0,Int.toNat_natCast];have i3:y0 (F8 l) ((I4 l p q:Nat):Int)=true:=P0 (by omega) (by omega);have i4:y0 l ((I4 l p q:Nat):Int)=true:=P0 (by omega) (by omega);have w3:W (gt (F8 l) ((I4 l p q:Nat):Int)+1)=gt (F8 l) ((I4 l p q:Nat):Int)+1:=Z2 (by omega) (by omega);have w4:W (gt (F8 l) ((I4 l p q:Nat):Int)+1+1)=gt (F8 l) ((I4 l p q:Nat):Int)+1+1:=Z2 (by omega) (by omega);rw [i3,i4];simp only [if_true,w3,w4]
   by_cases h3:x.To>y.To
   ·by_cases h4:(gt l ((I4 l p q:Nat):Int)).Kind=3
    ·simp [h3,h4]
    ·simp [h3,h4]
   ·by_cases h4:(gt l ((I4 l p q:Nat):Int)).Kind=3
    ·simp [h3,h4]
    ·simp [h3,h4]
end
