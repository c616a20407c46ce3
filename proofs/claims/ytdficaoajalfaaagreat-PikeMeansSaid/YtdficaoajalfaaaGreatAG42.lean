/- The pick among runs that come to one place: the program and the document tell the same. Tags behind marks: the program and the document tell the same. A crowd of runs: what is K3, and what begins and ends here. What is the same as itself. Runs that are let go: the program and the document tell the same. Runs that are let go: the document's side. The deepest node that two are in, and how deep it lies. The rank of runs that went on: the program and the document tell the same. The rank of runs that went on, by the program and by the document. Its conditions: none. -/
import Derived.Test.YtdficaoajalfaaaGreatAG41
open Bool (false_eq_true)
open Nat (zero_le lt_or_ge)
set_option linter.all false
namespace Go.Proofs.YtdficaoajalfaaaGreat
open Go.V Go.RowKit Old
def J4 (b t:Int):Int:=if W (t+1)<b then W (t+1) else b
def i7 (fB fD:Nat->Nat->Int) (a b:Nat) (p q:y0):Int:=
 if J4 (fB a b) p.Turn>J4 (fB b a) q.Turn then 1 else if J4 (fB a b) p.Turn<J4 (fB b a) q.Turn then -1 else fD a b
def e0A (fB fD:Nat->Nat->Int) (fr:List Nat) (hops:List y0) (K3:Int) (i:Nat):Int:=
 if K3<0 then (i:Int) else if 0<i7 fB fD (fr.getD i 0) (fr.getD K3.toNat 0) (gt hops (i:Int)) (gt hops K3) then (i:Int) else K3
def c0a (fB fD:Nat->Nat->Int) (fr:List Nat) (hops:List y0) (k:Nat):Int:=(List.range k).foldl (e0A fB fD fr hops) (-1)
def f0y (fB fD:Nat->Nat->Int) (fr:List Nat) (hops:List y0):Int:=c0a fB fD fr hops fr.length
theorem i0n (fB fD:Nat->Nat->Int) (fr:List Nat) (hops:List y0) (k:Nat):c0a fB fD fr hops (k+1)=e0A fB fD fr hops (c0a fB fD fr hops k) k:=by simp [c0a,List.range_succ]
theorem l0Q (fB fD:Nat->Nat->Int) (fr:List Nat) (hops:List y0):∀ k,c0a fB fD fr hops k=-1\/∃ j:Nat,c0a fB fD fr hops k=j/\j<k:=by
 intro k
 induction k with
 |zero=>exact .inl rfl
 |
  succ k ih=>
  rw [i0n];unfold e0A;split
  ·exact .inr ⟨k,rfl,by omega⟩
  ·split
   ·exact .inr ⟨k,rfl,by omega⟩
   ·rcases ih with h | ⟨j,h,hj⟩
    ·exact .inl h
    ·exact .inr ⟨j,h,by omega⟩
section
variable {F n:Nat} {fB fD:Nat->Nat->Int} {fr:List Nat} {hops:List y0}
theorem a0G {l:List Nat} {i:Nat} (h:i<l.length):gt (J2 l) (i:Int)=((l.getD i 0:Nat):Int):=by rw [r0M h];simp [List.getD,h]
theorem E8 (hi:∀ i∈fr,i<n) {i:Nat} (h:i<fr.length):fr.getD i 0<n:=by
 have:=hi fr[i] (List.getElem_mem h);simpa [List.getD,h] using this
theorem j02 (hlen:hops.length=fr.length) (hi:∀ i∈fr,i<n) {i k:Nat} (h1:i<fr.length) (h2:k<fr.length) :
  e0M F ⟨D3 n fB fD,J2 fr,hops⟩ (i:Int) (k:Int)=some (J4 (fB (fr.getD i 0) (fr.getD k 0)) (gt hops (i:Int)).Turn):=by
 have x1:=E8 hi h1;have x2:=E8 hi h2;unfold e0M J4;simp only [D3,a0h h1,a0h h2,a0G h1,a0G h2,U9 _ x1,a0g _ x1,a0P _ x2,d0w _ x2,if_true,R0 (l:=hops) (i:=(i:Int)) (by omega) (by omega)]
theorem p0R (hlen:hops.length=fr.length) (hi:∀ i∈fr,i<n) {i k:Nat} (h1:i<fr.length) (h2:k<fr.length) :
  h0v F ⟨D3 n fB fD,J2 fr,hops⟩ (i:Int) (k:Int)=some (i7 fB fD (fr.getD i 0) (fr.getD k 0) (gt hops (i:Int)) (gt hops (k:Int))):=by
 have x1:=E8 hi h1;have x2:=E8 hi h2;unfold h0v i7;rw [j02 hlen hi h1 h2,j02 hlen hi h2 h1];simp only [G0,D3,a0h h1,a0h h2,a0G h1,a0G h2,U9 _ x1,a0g _ x1,a0P _ x2,d0w _ x2,if_true,decide_eq_true_eq];split
 ·rfl
 ·split<;>rfl
theorem r0T (hn:n<=1000) (hf:2000<F) (h:a0s n fB fD) (hlen:hops.length=fr.length) (hfr:fr.length<=1000) (hi:∀ i∈fr,i<n):f0V F (D3 n fB fD) (J2 fr) hops=some (f0y fB fD fr hops):=by
 unfold f0V;rw [i0o hn hf h];have hx2:(if (hops.length:Int)<((J2 fr).length:Int) then (hops.length:Int) else ((J2 fr).length:Int))=(fr.length:Int):=by rw [i0f,hlen];simp
 simp only [G0,Bool.not_true,false_eq_true,if_false,s9,hx2];have:=R4 (step:=j0q F (D3 n fB fD) (J2 fr) hops (fr.length:Int)) (fun i=>(c0a fB fD fr hops i,(i:Int))) (f0y fB fD fr hops) fr.length (fun i hil=>.inl ?_) ?_ fr.length 0 F (by omega) (by omega)
 ·exact this
 ·unfold j0q e0p;have h1:(i:Int)<(fr.length:Int):=by omega
  have hx:=E8 hi hil;have h2:((fr.getD i 0:Nat):Int)>=0:=by omega
  have h3:((fr.getD i 0:Nat):Int)<((D3 n fB fD).B.length:Int):=by simp only [D3,q0M];omega
  simp only [h1,decide_true,if_true,a0h hil,a0G hil,h2,h3,G0,s9,i0n,G3 (i:=i) (by omega)];have hb:=l0Q fB fD fr hops i;generalize c0a fB fD fr hops i=b at *;rcases hb with rfl | ⟨k,rfl,hk⟩
  ·simp [e0A,G0]
  ·have hk0:¬ ((k:Int)<0):=by omega
   simp only [hk0,decide_false,false_eq_true,if_false,p0R hlen hi hil (show k<fr.length by omega),G0,e0A,Int.toNat_natCast]
   by_cases h4:0<i7 fB fD (fr.getD i 0) (fr.getD k 0) (gt hops (i:Int)) (gt hops (k:Int))
   ·have h4':i7 fB fD (fr.getD i 0) (fr.getD k 0) (gt hops (i:Int)) (gt hops (k:Int))>0:=h4;simp only [h4,h4',decide_true,if_true,G0]
   ·have h4':¬ i7 fB fD (fr.getD i 0) (fr.getD k 0) (gt hops (i:Int)) (gt hops (k:Int))>0:=h4;simp only [h4,h4',decide_false,false_eq_true,if_false,G0]
 ·unfold j0q;have h1:¬ ((fr.length:Int)<(fr.length:Int)):=by omega
  simp only [h1,decide_false,if_false,false_eq_true];rfl
end
def S6 (now none_:Int) (tags:List Int) (marks:List G2):List Int:=marks.foldl (o5 now none_) tags
theorem m0K (now none_:Int) (o:List Int) (m:G2):(o5 now none_ o m).length=o.length:=by
 unfold o5;split
 ·rfl
 ·split
  ·simp
  ·split
   ·simp
   ·split
    ·simp
    ·rfl
theorem h0s (now none_:Int):∀ (marks:List G2) (o:List Int),(S6 now none_ o marks).length=o.length
 |[],o=>rfl
 |
  m :: r,o=>by
  have h:=h0s now none_ r (o5 now none_ o m);rw [m0K] at h;exact h
section
variable {F:Nat}
theorem m04 {tags:List Int} {marks:List G2} {now none_:Int} (ht:tags.length<=1000) (hm:marks.length<=1000000000):d0i F tags marks now none_=some (S6 now none_ tags marks):=by
 unfold d0i;rw [if_pos (by simp [I0];omega)];rfl
theorem v08 {n:Nat} {x:Int} (h0:1<=n) (hn:n<=1000):j0Q F (n:Int) x=some (List.replicate n x):=by
 unfold j0Q o0d;have h1:¬ (n:Int)<1:=by omega
 have h2:(decide ((0:Int)<=(n:Int))&&decide ((n:Int)<=1000))=true:=by simp;omega
 simp only [h1,decide_false,false_eq_true,if_false,s9,Go.X.g0I,h2,if_true,Int.toNat_natCast]
end
structure H5 (l:List C0) (n:Nat) (a:List y0) (b:Nat->List y0) (e:Nat->y0×Bool) (z:y0×Bool) (F:Nat):Prop where
 hR:K1 l=true
 hl:l.length*64<=140737488351232
 hn:n=L0 l l.length
 T:j06 l n a b e z
 f1:2000001<F
 f2:l.length+1<F
 f3:1000000000<F
 TF:k0b l n a b e z F
def O7 (l:List C0) (at_:Int):List Int:=(List.replicate (l5 l).toNat (-1)).set 0 at_
theorem f0m (l:List C0):1<=l5 l/\l5 l<=19:=by have:=g0o l;unfold l5;omega
theorem k0w (l:List C0) (at_:Int):(O7 l at_).length=(l5 l).toNat:=by simp [O7]
section
variable {l:List C0} {n:Nat} {a:List y0} {b:Nat->List y0} {e:Nat->y0×Bool} {z:y0×Bool} {F:Nat} {at_ work:Int} {pl:List Nat} {vals:List (List Int)} {fB fD:Nat->Nat->Int}
def B7 (l:List C0) (n:Nat) (a:List y0) (b:Nat->List y0) (e:Nat->y0×Bool) (z:y0×Bool) (at_ work:Int) (pl:List Nat) (vals:List (List Int)) (fB fD:Nat->Nat->Int):N3:=
 ⟨Y6 l n a b e z,at_,work,J2 pl,vals,D3 pl.length fB fD⟩
def mkX (l:List C0) (n:Nat) (a:List y0) (b:Nat->List y0) (e:Nat->y0×Bool) (at_ work:Int) (pl:List Nat) (vals:List (List Int)) (fB fD:Nat->Nat->Int):c0b:=
 y0L l n a b e at_ work (J2 pl) vals (D3 pl.length fB fD)
structure F6 (l:List C0) (n:Nat) (pl:List Nat) (vals:List (List Int)) (fB fD:Nat->Nat->Int):Prop where
 len:vals.length=pl.length
 pln:∀ p∈pl,p<n
 asc:pl.Pairwise fun a b=>a<b
 row:∀ v∈vals,v.length=(l5 l).toNat
 rk:a0s pl.length fB fD
theorem s0X {n:Nat}:∀ {pl:List Nat} {lo:Nat},(∀ p∈pl,lo<=p/\p<n)->pl.Pairwise (fun a b=>a<b)->pl.length+lo<=n\/pl=[]
 |[],_,_,_=>.inr rfl
 |
  x :: r,lo,h,hp=>by
  obtain ⟨h1,h2⟩:=List.pairwise_cons.1 hp;have hx:=h x (by simp);rcases s0X (pl:=r) (lo:=x+1) (fun p hp=>⟨h1 p hp,(h p (List.mem_cons_of_mem _ hp)).2⟩) h2 with h3 | h3
  ·refine .inl ?_;simp only [List.length_cons];omega
  ·subst h3;refine .inl ?_;simp only [List.length_cons,List.length_nil];omega
theorem F6.le (h:F6 l n pl vals fB fD):pl.length<=n:=by
 rcases s0X (lo:=0) (fun p hp=>⟨zero_le _,h.pln p hp⟩) h.asc with h1 | h1
 ·omega
 ·simp [h1]
theorem q0J (K:H5 l n a b e z F) (c:N3) (hc:c.chart=Y6 l n a b e z):f0t F c=some (O7 l c.at_):=by
 have ht:=f0m l;obtain ⟨t,hT⟩:∃ t:Nat,l5 l=t:=⟨(l5 l).toNat,by omega⟩
 unfold f0t O7;rw [hc,show (Y6 l n a b e z).tags=l5 l from rfl,hT,v08 (by omega) (by omega)];simp only [G0,Int.toNat_natCast];rw [if_pos (R0 (by omega) (by simp;omega))];rfl
def U8 (l:List C0) (z:y0×Bool) (at_:Int):List Int×Bool:=if z.2 then (S6 at_ (-1) (O7 l at_) (N4 l z.1.Steps),true) else ([],false)
theorem x0K (K:H5 l n a b e z F):h0M F (B7 l n a b e z at_ work pl vals fB fD)=some (U8 l z at_):=by
 have ht:=f0m l;unfold h0M U8;rw [q0J K _ rfl];simp only [B7,Y6]
 by_cases h2:z.2=true
 rotate_left
 ·have h2:z.2=false:=by simpa using h2
  simp [h2]
 ·simp only [h2,Bool.not_true,false_eq_true,if_false,G0,if_true];have hol:=i0I l z.1.Steps;have hz:=K.T.zl;rw [m04 (by rw [k0w];omega) (by omega)];rfl
theorem g0l {β:Type} [Inhabited β] {f:Nat->β} {p:Nat} (h:p<n):gt ((List.range n).map f) (p:Int)=f p:=B4 (by simp [h])
theorem g0n {β:Type} {f:Nat->β} {p:Nat} (h:p<n):B0 ((List.range n).map f) (p:Int)=true:=R0 (by omega) (by simp;omega)
def W7 (e:Nat->y0×Bool) (pl:List Nat) (k:Nat):List Nat:=(List.range k).filter fun i=>(e (pl.getD i 0)).2
theorem C03 (e:Nat->y0×Bool) (pl:List Nat) (k:Nat):W7 e pl (k+1)=if (e (pl.getD k 0)).2 then W7 e pl k++[k] else W7 e pl k:=by
 unfold W7;rw [List.range_succ,List.filter_append]
 by_cases h:(e (pl.getD k 0)).2=true
 ·simp only [h,if_true,List.filter_cons,List.filter_nil]
 ·have h:(e (pl.getD k 0)).2=false:=by simpa using h
  simp only [h,false_eq_true,if_false,List.filter_cons,List.filter_nil,List.append_nil]
theorem r0O (e:Nat->y0×Bool) (pl:List Nat) (k:Nat):(W7 e pl k).length<=k:=Nat.le_trans (List.length_filter_le _ _) (by simp)
theorem j0D {k i:Nat} (h:i∈W7 e pl k):i<k:=List.mem_range.1 (List.mem_filter.1 h).1
theorem o0h (r:List Nat) (i:Nat):J2 (r++[i])=J2 r++[(i:Int)]:=by simp [J2]
def e0c (l:List C0) (e:Nat->y0×Bool) (at_:Int) (pl:List Nat) (vals:List (List Int)) (fD:Nat->Nat->Int):List Int×Bool:=
 if q9 fD (W7 e pl pl.length)<0 then ([],false) else (S6 at_ (-1) (gt vals (q9 fD (W7 e pl pl.length))) (N4 l (e (pl.getD (q9 fD (W7 e pl pl.length)).toNat 0)).1.Steps),true)
theorem s0d (C:F6 l n pl vals fB fD) {k:Nat} (hk:k<pl.length):(gt vals (k:Int)).length<=1000:=by
 have ht:=f0m l;have:=C.row _ (List.mem_of_getElem? (u6 (l:=vals) (i:=k) (by rw [C.len];exact hk)));omega
theorem y0C (K:H5 l n a b e z F) (C:F6 l n pl vals fB fD):g0f F (B7 l n a b e z at_ work pl vals fB fD)=some (e0c l e at_ pl vals fD):=by
 have f1:=K.f1;have hm:=C.le;have hn:=K.T.n64;unfold g0f e0c;have:=R4 (step:=h00 F (B7 l n a b e z at_ work pl vals fB fD)) (fun i=>(J2 (W7 e pl i),(i:Int))) (J2 (W7 e pl pl.length)) pl.length (fun i hi=>.inl ?_) ?_ pl.length 0 F (by omega) (by omega)
 ·have h2:iter (h00 F (B7 l n a b e z at_ work pl vals fB fD)) F ([],0)=_:=this;rw [h2];simp only [G0,B7];rw [A0c (by omega) (by omega) C.rk _ (by have:=r0O e pl pl.length;omega) (fun i h=>j0D h)];rcases o0f (fD:=fD) (W7 e pl pl.length) (n:=pl.length) (fun i h=>j0D h) with hb | ⟨k,hb,hk⟩
  ·rw [hb];rfl
  ·have hp:=E8 C.pln hk;have hk0:¬ ((k:Int)<0):=by omega
   rw [hb];simp only [G0,hk0,decide_false,false_eq_true,if_false,R0 (l:=vals) (i:=(k:Int)) (by omega) (by rw [C.len];omega),a0h hk,a0G hk,Y6,g0n hp,g0l hp,if_true,Q2,Int.toNat_natCast];have hol:=i0I l (e (pl.getD k 0)).1.Steps;have hel:=K.T.el _ hp;rw [m04 (s0d C hk) (by show (N4 l (e (pl.getD k 0)).1.Steps).length<=1000000000;omega)];rfl
 ·unfold h00;have h1:(i:Int)<((J2 pl).length:Int):=by simp;omega
  have hp:=E8 C.pln hi;have hap:I0 8 (J2 (W7 e pl i)) [(i:Int)]=true:=by have:=r0O e pl i;simp [I0];omega
  simp only [B7,h1,decide_true,if_true,a0h hi,a0G hi,Y6,g0n hp,g0l hp,hap,G3 (i:=i) (by omega),C03]
  by_cases h2:(e (pl.getD i 0)).2=true
  ·simp only [h2,if_true,G0,o0h]
  ·have h2:(e (pl.getD i 0)).2=false:=by simpa using h2
   simp only [h2,false_eq_true,if_false,G0]
 ·unfold h00;have h1:¬ ((pl.length:Int)<((J2 pl).length:Int)):=by simp
  simp only [B7,h1,decide_false,if_false,false_eq_true]
end
section
variable {F:Nat}
variable {l:List C0} {n:Nat} {a:List y0} {b:Nat->List y0} {e:Nat->y0×Bool} {z:y0×Bool} {at_ work:Int} {pl:List Nat} {vals:List (List Int)} {fB fD:Nat->Nat->Int}
theorem A0r (C:F6 l n pl vals fB fD):(e0c l e at_ pl vals fD).1.length<=1000:=by
 unfold e0c;split
 ·simp
 ·rename_i h;rcases o0f (fD:=fD) (W7 e pl pl.length) (n:=pl.length) (fun i h=>j0D h) with hb | ⟨k,hb,hk⟩
  ·omega
  ·rw [hb];rw [h0s];exact s0d C hk
theorem B0Q:(U8 l z at_).1.length<=1000:=by
 have ht:=f0m l;unfold U8;split
 ·rw [h0s,k0w];omega
 ·simp
end
def w0h (vals:List (List Int)) (from_:Int) (k:Nat):List Nat:=(List.range k).filter fun (i:Nat)=>decide (gt (gt vals (i:Int)) 0<=from_)
section
variable {F:Nat}
theorem v0W {β:Type} {n i:Nat} {f:Nat->β} {v:β}:((List.range n).map f).set i v=(List.range n).map fun j=>if j=i then v else f j:=by
 refine List.ext_getElem (by simp) fun j h1 h2=>?_;simp only [List.getElem_set,List.getElem_map,List.getElem_range]
 by_cases e:i=j
 ·simp [e]
 ·rw [if_neg e,if_neg (fun h=>e h.symm)]
variable {l:List C0} {n:Nat} {a:List y0} {b:Nat->List y0} {e:Nat->y0×Bool} {z:y0×Bool} {at_ work:Int} {pl:List Nat} {vals:List (List Int)} {fB fD:Nat->Nat->Int}
end
section
variable {F:Nat} {l:List C0} {n:Nat} {a:List y0} {b:Nat->List y0} {e:Nat->y0×Bool} {z:y0×Bool} {at_ work:Int} {pl:List Nat} {vals:List (List Int)} {fB fD:Nat->Nat->Int}
theorem n0n {st:List Nat} (h:st.Pairwise fun a b=>a<b) {i k:Nat} (hk:k<st.length) (hik:i<k):st.getD i 0<st.getD k 0:=by
 have:=List.pairwise_iff_getElem.1 h i k (by omega) hk hik;simpa [List.getD,hk,show i<st.length by omega] using this
theorem F0s (C:F6 l n pl vals fB fD) {st:List Nat} (hs:st.Pairwise fun a b=>a<b) (hlt:∀ i∈st,i<pl.length) :
  F6 l n (st.map fun i=>pl.getD i 0) (st.map fun i:Nat=>gt vals (i:Int)) (fun i k=>fB (st.getD i 0) (st.getD k 0)) (fun i k=>fD (st.getD i 0) (st.getD k 0)) where
 len:=by simp
 pln p hp:=by
  obtain ⟨i,hi,rfl⟩:=List.mem_map.1 hp;exact E8 C.pln (hlt i hi)
 asc:=by
  rw [List.pairwise_map];exact hs.imp_of_mem fun {x y} hx hy hxy=>n0n C.asc (hlt y hy) hxy
 row v hv:=by
  obtain ⟨i,hi,rfl⟩:=List.mem_map.1 hv;exact C.row _ (List.mem_of_getElem? (u6 (l:=vals) (i:=i) (by rw [C.len];exact hlt i hi)))
 rk:=by
  have g:∀ i,i<(st.map fun i=>pl.getD i 0).length->i<st.length/\st.getD i 0<pl.length:=fun i hi=>by
   simp only [List.length_map] at hi;exact ⟨hi,E8 hlt hi⟩
  refine ⟨fun i k hi hk=>C.rk.b0 _ _ (g i hi).2 (g k hk).2,fun i hi=>C.rk.bd _ (g i hi).2,fun i hi=>C.rk.dd _ (g i hi).2,fun i k hi hk hne=>C.rk.d1 _ _ (g i hi).2 (g k hk).2 ?_,fun i k hi hk=>C.rk.dn _ _ (g i hi).2 (g k hk).2⟩;rcases lt_or_ge i k with h | h
  ·have:=n0n hs (g k hk).1 h;omega
  ·have:=n0n hs (g i hi).1 (show k<i by omega);omega
end
theorem k0v {l:List C0}:∀ {n:Nat} {a:List Int},T4 l n=some a->∀ j,j<n->∃ b,T4 l j=some b/\b.length=j/\(∀ i:Nat,i<j->gt a (i:Int)=gt b (i:Int))/\gt a (j:Int)=L3 l b j/\0<=L3 l b j
 |0,a,h,j,hj=>by omega
 |
  n+1,a,h,j,hj=>by
  simp only [T4] at h;split at h
  ·cases h
  ·rename_i b hb;split at h
   ·rename_i hg;cases h;have hl:=(b0U hb).len;simp only [K6,Bool.and_eq_true,decide_eq_true_eq] at hg
    by_cases e:j=n
    ·subst e;exact ⟨b,hb,hl,fun i hi=>b0u (by omega) (by omega),c08 hl.symm,hg.1.1⟩
    ·obtain ⟨c,h1,h2,h3,h4,h5⟩:=k0v hb j (by omega);exact ⟨c,h1,h2,fun i hi=>by rw [b0u (by omega) (by omega)];exact h3 i hi,by rw [b0u (by omega) (by omega)];exact h4,h5⟩
   ·cases h
theorem n0C {c:Prop} [Decidable c] {v z:Int} (h:0<=if c then v else -1) (e:v=z):(if c then v else -1)=z:=by
 by_cases hc:c
 ·rw [if_pos hc];exact e
 ·rw [if_neg hc] at h;omega
theorem r0r {c d:Prop} [Decidable c] [Decidable d] {v z:Int} (h:0<=if c then (if d then v else -1) else -1) (e:v=z):(if c then (if d then v else -1) else -1)=z:=by
 by_cases hc:c
 ·rw [if_pos hc] at h ⊢;exact n0C h e
 ·rw [if_neg hc] at h;omega
theorem F0t {l:List C0}:∀ {s:Tm} {lo n:Nat} {a:List Int},At l lo s->s.top lo<n->T4 l n=some a->gt a (s.top lo:Int)=lo:=by
 intro s
 induction s with
 |
  eps | leaf s=>
  intro lo n a h hn ha;obtain ⟨b,h1,h2,h3,h4,h5⟩:=k0v ha _ hn;rw [h4];have hg:=h.D2;unfold L3;rw [hg];simp [Tm.node,Tm.top,Tm.size]
 |
  cat x y ihx ihy | alt x y ihx ihy=>
  intro lo n a h hn ha;obtain ⟨b,h1,h2,h3,h4,h5⟩:=k0v ha _ hn;have hg:=h.D2;obtain ⟨hx,hy,_⟩:=(At.bin rfl rfl).1 h;have:=x.size_pos;have:=y.size_pos;rw [h4];have i1:=ihx hx (n:=Tm.top _ lo) (a:=b) (by simp only [Tm.top,Tm.size];omega) h1;unfold L3 at h5 ⊢;rw [hg] at h5 ⊢;simp only [Tm.node] at h5 ⊢
  revert h5
  simp only [show ¬ ((3:Int)=1\/(3:Int)=2) from by omega,show ¬ ((4:Int)=1\/(4:Int)=2) from by omega,if_false,show ((3:Int)=3\/(3:Int)=4) from .inl rfl,show ((4:Int)=3\/(4:Int)=4) from .inr rfl,if_true];intro h5
  first | exact n0C h5 i1 | exact r0r h5 i1
 |
  star x ihx | maybe x ihx | group _ x ihx | iter x ihx=>
  intro lo n a h hn ha;obtain ⟨b,h1,h2,h3,h4,h5⟩:=k0v ha _ hn;have hg:=h.D2;obtain ⟨hx,_⟩:=(At.un rfl rfl).1 h;have:=x.size_pos;rw [h4];have i1:=ihx hx (n:=Tm.top _ lo) (a:=b) (by simp only [Tm.top,Tm.size];omega) h1;unfold L3 at h5 ⊢;rw [hg] at h5 ⊢;simp only [Tm.node] at h5 ⊢
  revert h5
  simp;intro h5
  first | exact n0C h5 i1 | exact r0r h5 i1
theorem c0P {l:List C0} (hR:K1 l=true) {s:Tm} {lo:Nat} (h:At l lo s):gt (P4 l) (s.top lo:Int)=lo:=by
 have ht:=h.j5;unfold K1 at hR;unfold P4 at hR ⊢;cases e:T4 l l.length with
 |none=>rw [e] at hR;simp at hR
 |
  some a=>
  rw [e] at hR;dsimp only at hR ⊢;split
  ·rename_i hc;rw [if_pos hc] at hR;simp at hR
  ·exact F0t h ht e
theorem o0i {l:List C0} (hR:K1 l=true) {s:Tm} {lo:Nat} (h:At l lo s) {q:Nat} (h1:lo<=q) (h2:q<lo+s.size):(lo:Int)<=gt (P4 l) (q:Int):=by
 obtain ⟨lo',s',h3,h4,h5,_⟩:=h.q0l q h1 h2;have:=c0P hR h3;rw [h4] at this;rw [this];omega
def l6 (l:List C0) (a b:Nat) (q:Nat):Bool:=decide (gt (P4 l) (q:Int)<=(a:Int))&&(decide (a<=q)&&(decide (gt (P4 l) (q:Int)<=(b:Int))&&decide (b<=q)))
theorem b0L {l:List C0} {a b q:Nat}:l6 l a b q=true↔gt (P4 l) (q:Int)<=(a:Int)/\a<=q/\gt (P4 l) (q:Int)<=(b:Int)/\b<=q:=by
 simp [l6]
def b06 (b:Nat):List Fr->Nat->Tm->Nat
 |[],lo,s=>s.top lo
 |f :: fs,lo,s=>if lo<=b/\b<=s.top lo then s.top lo else b06 b fs (lo-f.off) (f.E2 s)
theorem z0R {l:List C0} {t:Tm} (ht:O2 l t) (hR:K1 l=true) {a b:Nat} (hb:b<l.length):∀ (fs:List Fr) (lo:Nat) (s:Tm),Ctx t lo s fs->lo<=a->a<=s.top lo->(∀ q,lo<=q->q<s.top lo->l6 l a b q=false)->
  l6 l a b (b06 b fs lo s)=true/\(∀ q,q<b06 b fs lo s->l6 l a b q=false)/\b06 b fs lo s<l.length:=by
 intro fs
 induction fs with
 |
  nil=>
  intro lo s hc h1 h2 h3;obtain ⟨rfl,rfl⟩:=hc;have hlen:=ht.len;have hp:=s.size_pos;have hl:=c0P hR ht.at0;simp only [b06];refine ⟨b0L.2 ⟨by rw [hl];omega,h2,by rw [hl];omega,by unfold Tm.top;omega⟩,fun q hq=>h3 q (zero_le _) hq,by unfold Tm.top;omega⟩
 |
  cons f fs ih=>
  intro lo s hc h1 h2 h3;have hat:=hc.at_ ht;have hlo:=c0P hR hat;have htop:=hat.j5;simp only [b06];split
  ·rename_i hin;refine ⟨b0L.2 ⟨by rw [hlo];omega,h2,by rw [hlo];omega,hin.2⟩,fun q hq=>?_,htop⟩
   by_cases h:lo<=q
   ·exact h3 q h hq
   ·have:¬ l6 l a b q=true:=fun h'=>by have:=(b0L.1 h').2.1;omega
    simpa using this
  ·rename_i hout;obtain ⟨hoff,hc2⟩:=hc;have hat2:=hc2.at_ ht;have hsp:=s.size_pos;have inS:∀ q,lo<=q->q<=s.top lo->l6 l a b q=false:=fun q q1 q2=>by
    have hge:=o0i hR hat q1 (by unfold Tm.top at q2;omega);have:¬ l6 l a b q=true:=fun h'=>by
     obtain ⟨_,_,p3,p4⟩:=b0L.1 h';exact hout ⟨by omega,by omega⟩
    simpa using this
   have hlt:∀ q,q<lo->l6 l a b q=false:=fun q q1=>by
    have:¬ l6 l a b q=true:=fun h'=>by have:=(b0L.1 h').2.1;omega
    simpa using this
   have hgt:∀ (y:Tm),At l (lo+s.size) y->∀ q,lo+s.size<=q->q<lo+s.size+y.size->l6 l a b q=false:=fun y hy q q1 q2=>by
    have hge:=o0i hR hy q1 q2;have:¬ l6 l a b q=true:=fun h'=>by
     have:=(b0L.1 h').1;unfold Tm.top at h2;omega
    simpa using this
   have all:∀ q,lo-f.off<=q->q<(f.E2 s).top (lo-f.off)->l6 l a b q=false:=fun q q1 q2=>by
    rcases lt_or_ge q lo with c | c
    ·exact hlt q c
    ·rcases lt_or_ge (s.top lo) q with c2 | c2
     ·cases f<;>simp only [Fr.E2,Fr.off,Nat.sub_zero,Tm.top,Tm.size] at q1 q2 c2 hat2 hoff
      case catL y=>exact hgt y ((At.bin rfl rfl).1 hat2).2.1 q (by omega) (by omega)
      case altL y=>exact hgt y ((At.bin rfl rfl).1 hat2).2.1 q (by omega) (by omega)
      all_goals omega
     ·exact inS q c c2
   refine ih _ _ hc2 (by omega) ?_ all;cases f<;>simp only [Fr.E2,Fr.off,Nat.sub_zero,Tm.top,Tm.size] at h2 hoff ⊢<;>omega
def b8 (l:List C0) (a b:Nat):Nat:=((List.range l.length).find? (l6 l a b)).getD 0
theorem C04 {P:Nat->Bool} {n k:Nat} (hk:k<n) (h:P k=true) (hf:∀ q,q<k->P q=false):(List.range n).find? P=some k:=by
 rw [List.find?_eq_some_iff_append];refine ⟨h,List.range k,(List.range (n-k-1)).map (k+1+·),?_,fun q hq=>by simp [hf q (List.mem_range.1 hq)]⟩;refine List.ext_getElem (by simp;omega) fun i h1 h2=>?_;simp only [List.length_range] at h1;simp only [List.getElem_range];rcases Nat.lt_trichotomy i k with c | c | c
 ·rw [List.getElem_append_left (by simpa using c)];simp
 ·subst c;rw [List.getElem_append_right (by simp)];simp
 ·rw [List.getElem_append_right (by simp;omega)];simp only [List.length_range];rw [List.getElem_cons];rw [dif_neg (by omega)];simp;omega
theorem q05 {l:List C0} {a b k:Nat} (hk:k<l.length) (h:l6 l a b k=true) (hf:∀ q,q<k->l6 l a b q=false):b8 l a b=k:=by
 unfold b8;rw [C04 hk h hf];rfl
theorem p0I (l:List C0) (a b:Nat):b8 l a b=b8 l b a:=by
 have:l6 l a b=l6 l b a:=funext fun q=>by
  unfold l6;cases decide (gt (P4 l) (q:Int)<=(a:Int))<;>cases decide (a<=q)<;>cases decide (gt (P4 l) (q:Int)<=(b:Int))<;>cases decide (b<=q)<;>rfl
 unfold b8;rw [this]
theorem u0v {l:List C0} {t:Tm} (ht:O2 l t) {q:Nat} (hq:q<l.length):∃ lo s fs,Ctx t lo s fs/\s.top lo=q:=by
 have h0:Ctx t 0 t []:=⟨rfl,rfl⟩
 exact h0.down q (zero_le _) (by have:=ht.len;omega)
theorem p0G {l:List C0} (hw:∀ x∈l,o3 x) (hR:K1 l=true) {a b:Nat} (ha:a<l.length) (hb:b<l.length):b8 l a b<l.length/\l6 l a b (b8 l a b)=true/\∀ q,q<b8 l a b->l6 l a b q=false:=by
 obtain ⟨t,ht⟩:=a04 hw hR;obtain ⟨lo,s,fs,hc,hs⟩:=u0v ht ha;have hat0:=ht.at0;have hlen:=ht.len;have hp:=t.size_pos;have hl:=c0P hR hat0;have hroot:l6 l a b (l.length-1)=true:=b0L.2 ⟨by rw [show l.length-1=t.top 0 from by unfold Tm.top;omega,hl];omega,by omega,by rw [show l.length-1=t.top 0 from by unfold Tm.top;omega,hl];omega,by omega⟩;cases e:(List.range l.length).find? (l6 l a b) with
 |
  none=>
  rw [List.find?_eq_none] at e;exact absurd hroot (e _ (by simp;omega))
 |
  some k=>
  have hk:=List.mem_range.1 (List.mem_of_find?_eq_some e);have h1:=List.find?_some e;have:b8 l a b=k:=by unfold b8;rw [e];rfl
  rw [this];refine ⟨hk,h1,fun q hq=>?_⟩;rw [List.find?_eq_some_iff_append] at e;obtain ⟨_,as_,bs_,e1,e2⟩:=e;have hql:q<as_.length:=by
   have e3:(List.range l.length)[as_.length]?=some k:=by rw [e1];simp
   have e4:as_.length<l.length:=by
    have:=congrArg List.length e1;simp at this;omega
   rw [List.getElem?_range e4] at e3;cases e3;exact hq
  have e5:as_[q]?=some q:=by
   have:(List.range l.length)[q]?=some q:=List.getElem?_range (by omega);rw [e1,List.getElem?_append_left hql] at this;exact this
  have:=e2 q (List.mem_of_getElem? e5);simpa using this
theorem q0R {d d':List Int}:∀ {s:Tm} {lo k:Nat},G7 d lo k s->G7 d' lo k s->∀ j:Nat,lo<=j->j<=s.top lo->gt d (j:Int)=gt d' (j:Int)/\(k:Int)<=gt d (j:Int)/\gt d (j:Int)<k+s.size:=by
 intro s
 induction s with
 |
  eps | leaf s=>
  intro lo k h h' j j1 j2;have:j=lo:=by simp only [Tm.top,Tm.size] at j2;omega
  subst this;simp only [G7] at h h';simp only [Tm.size];omega
 |
  cat a b iha ihb | alt a b iha ihb=>
  intro lo k h h' j j1 j2;obtain ⟨p1,p2,p3⟩:=h;obtain ⟨q1,q2,q3⟩:=h';have:=a.size_pos;have:=b.size_pos;simp only [Tm.top,Tm.size] at p1 q1 j2 ⊢;rcases lt_or_ge j (lo+a.size) with c | c
  ·have:=iha p2 q2 j j1 (by unfold Tm.top;omega);omega
  ·rcases lt_or_ge j (lo+a.size+b.size) with c2 | c2
   ·have:=ihb p3 q3 j c (by unfold Tm.top;omega);omega
   ·have:j=lo+(a.size+b.size+1)-1:=by omega
    subst this;omega
 |
  star a iha | maybe a iha | group _ a iha | iter a iha=>
  intro lo k h h' j j1 j2;obtain ⟨p1,p2⟩:=h;obtain ⟨q1,q2⟩:=h';have:=a.size_pos;simp only [Tm.top,Tm.size] at p1 q1 j2 ⊢;rcases lt_or_ge j (lo+a.size) with c | c
  ·have:=iha p2 q2 j j1 (by unfold Tm.top;omega);omega
  ·have:j=lo+(a.size+1)-1:=by omega
   subst this;omega
theorem C0x {d d':List Int} {t:Tm} (h:b00 d t) (h':b00 d' t):d=d':=by
 have hp:=t.size_pos;refine List.ext_getElem (by rw [h.len,h'.len]) fun j h1 h2=>?_;have e:=(q0R h.deep h'.deep j (zero_le _) (by have:=h.len;unfold Tm.top;omega)).1
 rwa [B4 (x:=d[j]) (by simp [h1]),B4 (x:=d'[j]) (by simp [h2])] at e
def a0n (l:List C0):List Int:=(Old.a0w 402 l).getD []
theorem k0W {l:List C0} {t:Tm} (ht:O2 l t) (hR:K1 l=true):b00 (a0n l) t:=by
 obtain ⟨d,h1,h2⟩:=Old.i0j ht hR (show 401<402 by omega);unfold a0n;rw [h1];exact h2
theorem o0H {l:List C0} (hw:∀ x∈l,o3 x) (hR:K1 l=true):(a0n l).length=l.length/\∀ q:Nat,q<l.length->1<=gt (a0n l) (q:Int)/\gt (a0n l) (q:Int)<=400:=by
 obtain ⟨t,ht⟩:=a04 hw hR;have h:=k0W ht hR;have h400:=ht.le;have hlen:=ht.len;have hp:=t.size_pos;refine ⟨by rw [h.len,hlen],fun q hq=>?_⟩;have:=(q0R h.deep h.deep q (zero_le _) (by unfold Tm.top;omega)).2;omega
theorem D0X {l:List C0} (hw:∀ x∈l,o3 x) (hR:K1 l=true) {F:Nat} (hf:401<F):a0w F l=some (a0n l):=by
 obtain ⟨t,ht⟩:=a04 hw hR;obtain ⟨d,h1,h2⟩:=Old.i0j ht hR hf;rw [C0x h2 (k0W ht hR)] at h1;exact B8 u0T h1
def M9 (l:List C0) (x y:y0):Int:=gt (a0n l) ((b8 l (gt (L2 l l.length) x.To).toNat (gt (L2 l l.length) y.To).toNat:Nat):Int)+1
def f09 (l:List C0) (x y:y0):Bool:=(gt l ((b8 l (gt (L2 l l.length) x.To).toNat (gt (L2 l l.length) y.To).toNat:Nat):Int)).Kind==3
def u7 (l:List C0) (x y:y0):Int×Int×Int:=
 if x.Turn>y.Turn then (x.Turn+1,y.Turn+1,1) else if x.Turn<y.Turn then (x.Turn+1,y.Turn+1,-1) else
 if x.To>y.To then (M9 l x y,if f09 l x y then M9 l x y+1 else M9 l x y,-1) else (if f09 l x y then M9 l x y+1 else M9 l x y,M9 l x y,1)
theorem B0F (l:List C0) (x y:y0):M9 l x y=M9 l y x:=by unfold M9;rw [p0I]
theorem C02 (l:List C0) (x y:y0):f09 l x y=f09 l y x:=by unfold f09;rw [p0I]
theorem j0v (l:List C0) (x y:y0) (h:x.To≠y.To):u7 l y x=((u7 l x y).2.1,(u7 l x y).1,- (u7 l x y).2.2):=by
 unfold u7;rw [B0F l y x,C02 l y x];rcases Int.lt_trichotomy x.Turn y.Turn with c | c | c
 ·rw [if_pos (show y.Turn>x.Turn from c),if_neg (show ¬ x.Turn>y.Turn by omega),if_pos c];simp
 ·rw [if_neg (show ¬ y.Turn>x.Turn by omega),if_neg (show ¬ y.Turn<x.Turn by omega),if_neg (show ¬ x.Turn>y.Turn by omega),if_neg (show ¬ x.Turn<y.Turn by omega)];rcases Int.lt_or_gt_of_ne h with c2 | c2
  ·rw [if_pos (show y.To>x.To from c2),if_neg (show ¬ x.To>y.To by omega)]
  ·rw [if_neg (show ¬ y.To>x.To by omega),if_pos (show x.To>y.To from c2)];simp
 ·rw [if_neg (show ¬ y.Turn>x.Turn by omega),if_pos (show y.Turn<x.Turn from c),if_pos (show x.Turn>y.Turn from c)]
structure a0L (n:Nat) (h:y0):Prop where
 to0:0<=h.To
 to1:h.To<n
 t0:0<=h.Turn
 t1:h.Turn<=400
theorem s0N {l:List C0} (hw:∀ x∈l,o3 x) (hR:K1 l=true) {n:Nat} (hn:n=L0 l l.length) {x y:y0} (hx:a0L n x) (hy:a0L n y):0<=(u7 l x y).1/\0<=(u7 l x y).2.1/\((u7 l x y).2.2=1\/(u7 l x y).2.2=-1):=by
 have hq:1<=M9 l x y:=by
  obtain ⟨h1,h2,h3,h4⟩:=hx;obtain ⟨k1,k2,k3,k4⟩:=hy;obtain ⟨p,hp,hp2,_⟩:=c0J l l.length x.To.toNat (by omega);obtain ⟨q,hq,hq2,_⟩:=c0J l l.length y.To.toNat (by omega);have e1:gt (L2 l l.length) x.To=(p:Int):=o0O hp2;have e2:gt (L2 l l.length) y.To=(q:Int):=o0O hq2;have hj:=(p0G hw hR (a:=p) (b:=q) hp hq).1;have:=((o0H hw hR).2 _ hj).1;unfold M9;rw [e1,e2];simp only [Int.toNat_natCast];omega
 obtain ⟨h1,h2,h3,h4⟩:=hx;obtain ⟨k1,k2,k3,k4⟩:=hy;unfold u7;split
 ·exact ⟨by simp only;omega,by simp only;omega,.inl rfl⟩
 ·split
  ·exact ⟨by simp only;omega,by simp only;omega,.inr rfl⟩
  ·split
   ·refine ⟨by simp only;omega,?_,.inr rfl⟩;simp only;split<;>omega
   ·refine ⟨?_,by simp only;omega,.inl rfl⟩;simp only;split<;>omega
section
variable (l:List C0) (fB fD:Nat->Nat->Int) (fr:List Nat) (hops:List y0)
def P5 (i k:Nat):Int:=if i=k then 0 else if fr.getD i 0=fr.getD k 0 then (u7 l (gt hops (i:Int)) (gt hops (k:Int))).1 else J4 (fB (fr.getD i 0) (fr.getD k 0)) (gt hops (i:Int)).Turn
def N6 (i k:Nat):Int:=if i=k then 0 else if fr.getD i 0=fr.getD k 0 then (u7 l (gt hops (i:Int)) (gt hops (k:Int))).2.2 else i7 fB fD (fr.getD i 0) (fr.getD k 0) (gt hops (i:Int)) (gt hops (k:Int))
end
theorem t0B {fB fD:Nat->Nat->Int} {a b:Nat} {p q:y0} (h:fD b a=- fD a b):i7 fB fD b a q p=- i7 fB fD a b p q:=by
 unfold i7;rcases Int.lt_trichotomy (J4 (fB a b) p.Turn) (J4 (fB b a) q.Turn) with c | c | c
 ·rw [if_pos c,if_neg (show ¬ J4 (fB a b) p.Turn>J4 (fB b a) q.Turn by omega),if_pos c];rfl
 ·rw [if_neg (by omega),if_neg (by omega),if_neg (by omega),if_neg (by omega),h]
 ·rw [if_neg (by omega),if_pos c,if_pos c]
theorem w0L {b t:Int} (hb:0<=b) (ht:0<=t) (ht2:t<=400):0<=J4 b t:=by
 unfold J4;rw [n3 (by omega) (by omega)];split<;>omega
theorem p0F {fB fD:Nat->Nat->Int} {a b:Nat} {p q:y0} (h:fD a b=1\/fD a b=-1):i7 fB fD a b p q=1\/i7 fB fD a b p q=-1:=by
 unfold i7;split
 ·exact .inl rfl
 ·split
  ·exact .inr rfl
  ·exact h
theorem e08 {n:Nat} {hops:List y0} (h:∀ x∈hops,a0L n x) {i:Nat} (hi:i<hops.length):a0L n (gt hops (i:Int)):=h _ (List.mem_of_getElem? (u6 hi))
theorem p0X {hops:List y0} (h:hops.Pairwise fun a b=>a.To<b.To) {i k:Nat} (hi:i<hops.length) (hk:k<hops.length) (hne:i≠k):(gt hops (i:Int)).To≠(gt hops (k:Int)).To:=by
 have hp:=List.pairwise_iff_getElem.1 h;have e1:gt hops (i:Int)=hops[i]:=B4 (by simp [hi]);have e2:gt hops (k:Int)=hops[k]:=B4 (by simp [hk]);rw [e1,e2];rcases Nat.lt_or_gt_of_ne hne with c | c
 ·have:=hp i k hi hk c;omega
 ·have:=hp k i hk hi c;omega
theorem p0k {l:List C0} (hw:∀ x∈l,o3 x) (hR:K1 l=true) {n:Nat} (hn:n=L0 l l.length) {m:Nat} {fB fD:Nat->Nat->Int} (h:a0s m fB fD) {fr:List Nat} {hops:List y0} (hi:∀ i∈fr,i<m) (hlen:hops.length=fr.length) (hh:∀ x∈hops,a0L n x)
  (hasc:hops.Pairwise fun a b=>a.To<b.To):a0s fr.length (P5 l fB fr hops) (N6 l fB fD fr hops) where
 b0 i k h1 h2:=by
  have x1:=e08 hh (i:=i) (by omega);have x2:=e08 hh (i:=k) (by omega);unfold P5;split
  ·exact Int.le_refl _
  ·split
   ·exact (s0N hw hR hn x1 x2).1
   ·exact w0L (h.b0 _ _ (E8 hi h1) (E8 hi h2)) x1.t0 x1.t1
 bd i h1:=by unfold P5;rw [if_pos rfl]
 dd i h1:=by unfold N6;rw [if_pos rfl]
 d1 i k h1 h2 hne:=by
  have x1:=e08 hh (i:=i) (by omega);have x2:=e08 hh (i:=k) (by omega);unfold N6;rw [if_neg hne];split
  ·exact (s0N hw hR hn x1 x2).2.2
  ·rename_i hf;exact p0F (h.d1 _ _ (E8 hi h1) (E8 hi h2) hf)
 dn i k h1 h2:=by
  unfold N6
  by_cases e:i=k
  ·subst e;rw [if_pos rfl];rfl
  ·rw [if_neg e,if_neg (fun h=>e h.symm)]
   by_cases e2:fr.getD i 0=fr.getD k 0
   ·rw [if_pos e2,if_pos e2.symm,j0v l _ _ (p0X hasc (by omega) (by omega) e)]
   ·rw [if_neg e2,if_neg (fun h=>e2 h.symm)];exact t0B (h.dn _ _ (E8 hi h1) (E8 hi h2))
theorem e0m {σ τ:Type} {step:σ->Option (V0 σ τ)} {s s':σ} {k:Nat} (h:step s=some (.next s')):iter step (k+1) s=iter step k s':=by
 rw [show iter step (k+1) s=match step s with | none=>none | some (.next s')=>iter step k s' | some (.done t)=>some t from rfl,h]
theorem a0o {σ τ:Type} {step:σ->Option (V0 σ τ)} {s:σ} {t:τ} {k:Nat} (h:step s=some (.done t)):iter step (k+1) s=some t:=by
 rw [show iter step (k+1) s=match step s with | none=>none | some (.next s')=>iter step k s' | some (.done t)=>some t from rfl,h]
section
variable {F:Nat} {l:List C0}
theorem x07 {t:Tm} (ht:O2 l t) (hR:K1 l=true) {u d:List Int} (hu:UpT u t) (hd:b00 d t) {b:Nat} (hb:b<l.length):∀ (fs:List Fr) (lo:Nat) (s:Tm),Ctx t lo s fs->∀ k,fs.length<k->iter (a0l u (P4 l) (b:Int)) k (s.top lo:Int)=some ((b06 b fs lo s:Nat):Int):=by
 have hL:=a0M hR;have hlen:=ht.len;intro fs
 induction fs with
 |
  nil=>
  intro lo s hc k hk;obtain ⟨k,rfl⟩:∃ q,k=q+1:=⟨k-1,by simp at hk;omega⟩
  have hat:=hc.at_ ht;have hlo:=c0P hR hat;have htop:=hat.j5;obtain ⟨rfl,rfl⟩:=hc;have hin:B0 (P4 l) (s.top 0:Int)=true:=R0 (by omega) (by rw [hL.len];omega);have h1:(s.top 0:Int)>=0:=by omega
  have h2:gt (P4 l) (s.top 0:Int)<=(b:Int):=by rw [hlo];omega
  have h3:(b:Int)<=(s.top 0:Int):=by unfold Tm.top;omega
  refine a0o ?_;unfold a0l;simp only [Int.natCast_nonneg,decide_true,if_true,hin,h2,h3,Bool.and_self,b06]
 |
  cons f fs ih=>
  intro lo s hc k hk;obtain ⟨k,rfl⟩:∃ q,k=q+1:=⟨k-1,by simp at hk;omega⟩
  have hat:=hc.at_ ht;have hlo:=c0P hR hat;have htop:=hat.j5;have hed:=hc.r0u ht hu hd;have hin:B0 (P4 l) (s.top lo:Int)=true:=R0 (by omega) (by rw [hL.len];omega);have hiu:B0 u (s.top lo:Int)=true:=R0 (by omega) (by rw [hu.len];omega);have hn:=ih _ _ hc.2 k (by simp at hk;omega)
  by_cases h:lo<=b/\b<=s.top lo
  ·refine a0o ?_;unfold a0l;simp only [Int.natCast_nonneg,decide_true,if_true,hin,hiu,hlo,Bool.true_and,b06,hed];have h1:(lo:Int)<=(b:Int):=by omega
   have h2:(b:Int)<=(s.top lo:Int):=by omega
   simp only [h,h1,h2,decide_true,Bool.and_self,if_true,and_self]
  ·have h2:(decide ((lo:Int)<=(b:Int))&&decide ((b:Int)<=(s.top lo:Int)))=false:=by
    simp only [Bool.and_eq_false_iff,decide_eq_false_iff_not];omega
   have hs:a0l u (P4 l) (b:Int) (s.top lo:Int)=some (.next ((Fr.E2 s f).top (lo-f.off):Int)):=by
    unfold a0l;simp only [Int.natCast_nonneg,decide_true,if_true,hin,hiu,hlo,Bool.true_and,hed,h2,false_eq_true,if_false]
   rw [e0m hs,b06,if_neg h,hn]
theorem x0P (hw:∀ x∈l,o3 x) (hR:K1 l=true) (hf:1000<F) {a b:Nat} (ha:a<l.length) (hb:b<l.length):e0Y F l (a:Int) (b:Int)=some ((b8 l a b:Nat):Int):=by
 obtain ⟨t,ht⟩:=a04 hw hR;obtain ⟨u,h1,h2⟩:=Old.l0S ht hR (show 401<F by omega);obtain ⟨d,_,h4⟩:=Old.i0j ht hR (show 401<F by omega);obtain ⟨lo,s,fs,hc,hs⟩:=u0v ht ha;have hul:=h2.len;have hlen:=ht.len;have h400:=ht.le;have hsz:=hc.size;have hj:=z0R ht hR (a:=a) hb fs lo s hc (by have:=s.size_pos;unfold Tm.top at hs;omega) (by omega) (fun q q1 q2=>by
  have:¬ l6 l a b q=true:=fun h'=>by have:=(b0L.1 h').2.1;omega
  simpa using this)
 have hwk:=x07 ht hR h2 h4 hb fs lo s hc F (by omega);rw [hs] at hwk;unfold e0Y;rw [B8 q0g h1];have c1:(decide ((a:Int)<0)||(decide ((b:Int)<0)||(decide ((a:Int)>=(u.length:Int))||decide ((b:Int)>=(u.length:Int)))))=false:=by
  simp only [Bool.or_eq_false_iff,decide_eq_false_iff_not];omega
 simp only [G0,c1,false_eq_true,if_false,t0e (show 401<F by omega),hwk];rw [q05 hj.2.2 hj.1 hj.2.1]
theorem n0J (l:List C0) {n:Nat} (hn:n=L0 l l.length) {x:Int} (h0:0<=x) (h1:x<n):∃ q:Nat,q<l.length/\gt (L2 l l.length) x=(q:Int)/\B0 (L2 l l.length) x=true:=by
 obtain ⟨q,h2,h3,_⟩:=c0J l l.length x.toNat (by omega);refine ⟨q,h2,o0O h3,R0 h0 ?_⟩;rw [I9];omega
theorem r0e (hw:∀ x∈l,o3 x) (hR:K1 l=true) {n:Nat} (hn:n=L0 l l.length) (hf:1000<F) (hL:K7 F l=some (L2 l l.length)) {x y:y0} (hx:a0L n x) (hy:a0L n y) (hne:x.To≠y.To) (k:Nat) (hle:x.Turn≠y.Turn\/x.To<y.To) :
  e0L F (k+1) l x y=some (u7 l x y):=by
 obtain ⟨a1,a2,a3,a4⟩:=hx;obtain ⟨b1,b2,b3,b4⟩:=hy;have hll:=I9 l l.length;unfold e0L;rw [hL];have c1:x.To>=0:=a1;have c2:x.To<((L2 l l.length).length:Int):=by omega
 have c3:y.To>=0:=b1;have c4:y.To<((L2 l l.length).length:Int):=by omega
 have c5:(x.To==y.To)=false:=by simpa using hne
 have w1:W (x.Turn+1)=x.Turn+1:=n3 (by omega) (by omega);have w2:W (y.Turn+1)=y.Turn+1:=n3 (by omega) (by omega);simp only [G0,c1,c2,c3,c4,c5,decide_true,if_true,Bool.not_true,false_eq_true,if_false,w1,w2,decide_eq_true_eq];unfold u7
 by_cases h1:x.Turn>y.Turn
 ·rw [if_pos h1,if_pos h1]
 ·rw [if_neg h1,if_neg h1]
  by_cases h2:x.Turn<y.Turn
  ·rw [if_pos h2,if_pos h2]
  ·have h3:¬ x.To>y.To:=by omega
   rw [if_neg h2,if_neg h2,if_neg h3,if_neg h3];obtain ⟨p,hp,e1,i1⟩:=n0J l hn a1 a2;obtain ⟨q,hq,e2,i2⟩:=n0J l hn b1 b2;have hj:=(p0G hw hR hp hq).1;have hd:=(o0H hw hR).1;have hd2:=(o0H hw hR).2 _ hj;unfold M9 f09;rw [i1,i2,e1,e2];simp only [if_true,x0P hw hR hf hp hq,D0X hw hR (show 401<F by omega),G0,Int.toNat_natCast];have i3:B0 (a0n l) ((b8 l p q:Nat):Int)=true:=R0 (by omega) (by omega);have i4:B0 l ((b8 l p q:Nat):Int)=true:=R0 (by omega) (by omega);have w3:W (gt (a0n l) ((b8 l p q:Nat):Int)+1)=gt (a0n l) ((b8 l p q:Nat):Int)+1:=n3 (by omega) (by omega);have w4:W (gt (a0n l) ((b8 l p q:Nat):Int)+1+1)=gt (a0n l) ((b8 l p q:Nat):Int)+1+1:=n3 (by omega) (by omega);rw [i3,i4];simp only [if_true,w3,w4];split<;>rfl
theorem y0s (hw:∀ x∈l,o3 x) (hR:K1 l=true) {n:Nat} (hn:n=L0 l l.length) (hf:1000<F) (hL:K7 F l=some (L2 l l.length)) {x y:y0} (hx:a0L n x) (hy:a0L n y) (hne:x.To≠y.To) :
  e0L F F l x y=some (u7 l x y):=by
 obtain ⟨k,rfl⟩:∃ k,F=k+2:=⟨F-2,by omega⟩
 by_cases hle:x.Turn≠y.Turn\/x.To<y.To
 ·exact r0e hw hR hn hf hL hx hy hne _ hle
 ·have e:x.Turn=y.Turn:=by omega
  have h:=r0e hw hR hn hf hL hy hx (fun h=>hne h.symm) k (.inr (by omega));have hc:=j0v l x y hne;obtain ⟨a1,a2,a3,a4⟩:=hx;obtain ⟨b1,b2,b3,b4⟩:=hy;have hll:=I9 l l.length;unfold e0L;rw [hL];have c1:x.To>=0:=a1;have c2:x.To<((L2 l l.length).length:Int):=by omega
  have c3:y.To>=0:=b1;have c4:y.To<((L2 l l.length).length:Int):=by omega
  have c5:(x.To==y.To)=false:=by simpa using hne
  have h1:¬ x.Turn>y.Turn:=by omega
  have h2:¬ x.Turn<y.Turn:=by omega
  have h3:x.To>y.To:=by omega
  simp only [G0,c1,c2,c3,c4,c5,h1,h2,h3,decide_true,decide_false,if_true,Bool.not_true,false_eq_true,if_false,h,hc];have:(u7 l x y).2.2=-1:=by unfold u7;rw [if_neg h1,if_neg h2,if_pos h3]
  rw [<-this]
end
