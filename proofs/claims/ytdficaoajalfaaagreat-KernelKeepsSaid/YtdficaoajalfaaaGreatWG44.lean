/- The rank of runs that went on: the program and the document tell the same. The rank of runs that went on, by the program and by the document. The rank of runs that went on: Next, by the program and by the document. Which byte is in a set: the program and the document tell the same. All that come to places: the program's lists. One byte more: the program and the document tell the same. One byte more: the steps themselves. One byte more: the document's step. What can be reckoned, in place of models that cannot. What is sure, and what a row's reading n02 of its values. What tags say that groups span; runs over bytes. Its conditions: none. -/
import Derived.Test.YtdficaoajalfaaaGreatWG43
import Derived.Test.YtdficaoajalfaaaGreatWMd
import Derived.Test.YtdficaoajalfaaaGreatWX15
open List (mem_of_getElem? mem_filter mem_map)
open Bool (false_eq_true)
set_option linter.all false
namespace Go.Proofs.YtdficaoajalfaaaGreat
open Go.V Go.RowKit Old
def E9 (l:List D0) (x y:B0):Int:=gt (F8 l) ((I4 l (gt (Q1 l l.length) x.To).toNat (gt (Q1 l l.length) y.To).toNat:Nat):Int)+1
def d0V (l:List D0) (x y:B0):Bool:=(gt l ((I4 l (gt (Q1 l l.length) x.To).toNat (gt (Q1 l l.length) y.To).toNat:Nat):Int)).Kind==3
def r7 (l:List D0) (x y:B0):Int×Int×Int:=
 if x.Turn>y.Turn then (x.Turn+1,y.Turn+1,1) else if x.Turn<y.Turn then (x.Turn+1,y.Turn+1,-1) else
 if x.To>y.To then (E9 l x y,if d0V l x y then E9 l x y+1 else E9 l x y,-1) else (if d0V l x y then E9 l x y+1 else E9 l x y,E9 l x y,1)
theorem y0A (l:List D0) (x y:B0):E9 l x y=E9 l y x:=by unfold E9;rw [t0R]
theorem E0p (l:List D0) (x y:B0):d0V l x y=d0V l y x:=by unfold d0V;rw [t0R]
theorem m0H (l:List D0) (x y:B0) (h:x.To≠y.To):r7 l y x=((r7 l x y).2.1,(r7 l x y).1,- (r7 l x y).2.2):=by
 unfold r7;rw [y0A l y x,E0p l y x];rcases Int.lt_trichotomy x.Turn y.Turn with c | c | c
 ·rw [if_pos (show y.Turn>x.Turn from c),if_neg (show ¬ x.Turn>y.Turn by omega),if_pos c];simp
 ·rw [if_neg (show ¬ y.Turn>x.Turn by omega),if_neg (show ¬ y.Turn<x.Turn by omega),if_neg (show ¬ x.Turn>y.Turn by omega),if_neg (show ¬ x.Turn<y.Turn by omega)];rcases Int.lt_or_gt_of_ne h with c2 | c2
  ·rw [if_pos (show y.To>x.To from c2),if_neg (show ¬ x.To>y.To by omega)]
  ·rw [if_neg (show ¬ y.To>x.To by omega),if_pos (show x.To>y.To from c2)];simp
 ·rw [if_neg (show ¬ y.Turn>x.Turn by omega),if_pos (show y.Turn<x.Turn from c),if_pos (show x.Turn>y.Turn from c)]
structure J7 (n:Nat) (h:B0):Prop where
 to0:0<=h.To
 to1:h.To<n
 t0:0<=h.Turn
 t1:h.Turn<=400
theorem s0i {l:List D0} (hw:∀ x∈l,C3 x) (hR:J2 l=true) {n:Nat} (hn:n=N0 l l.length) {x y:B0} (hx:J7 n x) (hy:J7 n y):0<=(r7 l x y).1/\0<=(r7 l x y).2.1/\((r7 l x y).2.2=1\/(r7 l x y).2.2=-1):=by
 have hq:1<=E9 l x y:=by
  obtain ⟨h1,h2,h3,h4⟩:=hx;obtain ⟨k1,k2,k3,k4⟩:=hy;obtain ⟨p,hp,hp2,_⟩:=b07 l l.length x.To.toNat (by omega);obtain ⟨q,hq,hq2,_⟩:=b07 l l.length y.To.toNat (by omega);have e1:gt (Q1 l l.length) x.To=(p:Int):=i0s hp2;have e2:gt (Q1 l l.length) y.To=(q:Int):=i0s hq2;have hj:=(h0L hw hR (a:=p) (b:=q) hp hq).1;have:=((e0R hw hR).2 _ hj).1;unfold E9;rw [e1,e2];simp only [Int.toNat_natCast];omega
 obtain ⟨h1,h2,h3,h4⟩:=hx;obtain ⟨k1,k2,k3,k4⟩:=hy;unfold r7;split
 ·exact ⟨by simp only;omega,by simp only;omega,.inl rfl⟩
 ·split
  ·exact ⟨by simp only;omega,by simp only;omega,.inr rfl⟩
  ·split
   ·refine ⟨by simp only;omega,?_,.inr rfl⟩;simp only;split<;>omega
   ·refine ⟨?_,by simp only;omega,.inl rfl⟩;simp only;split<;>omega
section
variable (l:List D0) (fB fD:Nat->Nat->Int) (fr:List Nat) (hops:List B0)
def H4 (i k:Nat):Int:=if i=k then 0 else if fr.getD i 0=fr.getD k 0 then (r7 l (gt hops (i:Int)) (gt hops (k:Int))).1 else K7 (fB (fr.getD i 0) (fr.getD k 0)) (gt hops (i:Int)).Turn
def U4 (i k:Nat):Int:=if i=k then 0 else if fr.getD i 0=fr.getD k 0 then (r7 l (gt hops (i:Int)) (gt hops (k:Int))).2.2 else N7 fB fD (fr.getD i 0) (fr.getD k 0) (gt hops (i:Int)) (gt hops (k:Int))
end
theorem z0t {fB fD:Nat->Nat->Int} {a b:Nat} {p q:B0} (h:fD b a=- fD a b):N7 fB fD b a q p=- N7 fB fD a b p q:=by
 unfold N7;rcases Int.lt_trichotomy (K7 (fB a b) p.Turn) (K7 (fB b a) q.Turn) with c | c | c
 ·rw [if_pos c,if_neg (show ¬ K7 (fB a b) p.Turn>K7 (fB b a) q.Turn by omega),if_pos c];rfl
 ·rw [if_neg (by omega),if_neg (by omega),if_neg (by omega),if_neg (by omega),h]
 ·rw [if_neg (by omega),if_pos c,if_pos c]
theorem B0A {b t:Int} (hb:0<=b) (ht:0<=t) (ht2:t<=400):0<=K7 b t:=by
 unfold K7;rw [Z2 (by omega) (by omega)];split<;>omega
theorem B0M {fB fD:Nat->Nat->Int} {a b:Nat} {p q:B0} (h:fD a b=1\/fD a b=-1):N7 fB fD a b p q=1\/N7 fB fD a b p q=-1:=by
 unfold N7;split
 ·exact .inl rfl
 ·split
  ·exact .inr rfl
  ·exact h
theorem a0O {n:Nat} {hops:List B0} (h:∀ x∈hops,J7 n x) {i:Nat} (hi:i<hops.length):J7 n (gt hops (i:Int)):=h _ (mem_of_getElem? (E4 hi))
theorem o0W {hops:List B0} (h:hops.Pairwise fun a b=>a.To<b.To) {i k:Nat} (hi:i<hops.length) (hk:k<hops.length) (hne:i≠k):(gt hops (i:Int)).To≠(gt hops (k:Int)).To:=by
 have hp:=List.pairwise_iff_getElem.1 h;have e1:gt hops (i:Int)=hops[i]:=I3 (by simp [hi]);have e2:gt hops (k:Int)=hops[k]:=I3 (by simp [hk]);rw [e1,e2];rcases Nat.lt_or_gt_of_ne hne with c | c
 ·have:=hp i k hi hk c;omega
 ·have:=hp k i hk hi c;omega
theorem p03 {l:List D0} (hw:∀ x∈l,C3 x) (hR:J2 l=true) {n:Nat} (hn:n=N0 l l.length) {m:Nat} {fB fD:Nat->Nat->Int} (h:e8 m fB fD) {fr:List Nat} {hops:List B0} (hi:∀ i∈fr,i<m) (hlen:hops.length=fr.length) (hh:∀ x∈hops,J7 n x)
  (hasc:hops.Pairwise fun a b=>a.To<b.To):e8 fr.length (H4 l fB fr hops) (U4 l fB fD fr hops) where
 b0 i k h1 h2:=by
  have x1:=a0O hh (i:=i) (by omega);have x2:=a0O hh (i:=k) (by omega);unfold H4;split
  ·exact Int.le_refl _
  ·split
   ·exact (s0i hw hR hn x1 x2).1
   ·exact B0A (h.b0 _ _ (T6 hi h1) (T6 hi h2)) x1.t0 x1.t1
 bd i h1:=by unfold H4;rw [if_pos rfl]
 dd i h1:=by unfold U4;rw [if_pos rfl]
 d1 i k h1 h2 hne:=by
  have x1:=a0O hh (i:=i) (by omega);have x2:=a0O hh (i:=k) (by omega);unfold U4;rw [if_neg hne];split
  ·exact (s0i hw hR hn x1 x2).2.2
  ·rename_i hf;exact B0M (h.d1 _ _ (T6 hi h1) (T6 hi h2) hf)
 dn i k h1 h2:=by
  unfold U4
  by_cases e:i=k
  ·subst e;rw [if_pos rfl];rfl
  ·rw [if_neg e,if_neg (fun h=>e h.symm)]
   by_cases e2:fr.getD i 0=fr.getD k 0
   ·rw [if_pos e2,if_pos e2.symm,m0H l _ _ (o0W hasc (by omega) (by omega) e)]
   ·rw [if_neg e2,if_neg (fun h=>e2 h.symm)];exact z0t (h.dn _ _ (T6 hi h1) (T6 hi h2))
theorem l0A {σ τ:Type} {step:σ->Option (U0 σ τ)} {s s':σ} {k:Nat} (h:step s=some (.next s')):iter step (k+1) s=iter step k s':=by
 rw [show iter step (k+1) s=match step s with | none=>none | some (.next s')=>iter step k s' | some (.done t)=>some t from rfl,h]
theorem g0d {σ τ:Type} {step:σ->Option (U0 σ τ)} {s:σ} {t:τ} {k:Nat} (h:step s=some (.done t)):iter step (k+1) s=some t:=by
 rw [show iter step (k+1) s=match step s with | none=>none | some (.next s')=>iter step k s' | some (.done t)=>some t from rfl,h]
section
variable {F:Nat} {l:List D0}
theorem x0e {t:Tm} (ht:J4 l t) (hR:J2 l=true) {u d:List Int} (hu:UpT u t) (hd:a0A d t) {b:Nat} (hb:b<l.length):∀ (fs:List Fr) (lo:Nat) (s:Tm),Ctx t lo s fs->∀ k,fs.length<k->iter (a0m u (X3 l) (b:Int)) k (s.top lo:Int)=some ((b0Q b fs lo s:Nat):Int):=by
 have hL:=b0x hR;have hlen:=ht.len;intro fs
 induction fs with
 |
  nil=>
  intro lo s hc k hk;obtain ⟨k,rfl⟩:∃ q,k=q+1:=⟨k-1,by simp at hk;omega⟩
  have hat:=hc.at_ ht;have hlo:=f0M hR hat;have htop:=hat.u6;obtain ⟨rfl,rfl⟩:=hc;have hin:y0 (X3 l) (s.top 0:Int)=true:=P0 (by omega) (by rw [hL.len];omega);have h1:(s.top 0:Int)>=0:=by omega
  have h2:gt (X3 l) (s.top 0:Int)<=(b:Int):=by rw [hlo];omega
  have h3:(b:Int)<=(s.top 0:Int):=by unfold Tm.top;omega
  refine g0d ?_;unfold a0m;simp only [Int.natCast_nonneg,decide_true,if_true,hin,h2,h3,Bool.and_self,b0Q]
 |
  cons f fs ih=>
  intro lo s hc k hk;obtain ⟨k,rfl⟩:∃ q,k=q+1:=⟨k-1,by simp at hk;omega⟩
  have hat:=hc.at_ ht;have hlo:=f0M hR hat;have htop:=hat.u6;have hed:=hc.m0V ht hu hd;have hin:y0 (X3 l) (s.top lo:Int)=true:=P0 (by omega) (by rw [hL.len];omega);have hiu:y0 u (s.top lo:Int)=true:=P0 (by omega) (by rw [hu.len];omega);have hn:=ih _ _ hc.2 k (by simp at hk;omega)
  by_cases h:lo<=b/\b<=s.top lo
  ·refine g0d ?_;unfold a0m;simp only [Int.natCast_nonneg,decide_true,if_true,hin,hiu,hlo,Bool.true_and,b0Q,hed];have h1:(lo:Int)<=(b:Int):=by omega
   have h2:(b:Int)<=(s.top lo:Int):=by omega
   simp only [h,h1,h2,decide_true,Bool.and_self,if_true,and_self]
  ·have h2:(decide ((lo:Int)<=(b:Int))&&decide ((b:Int)<=(s.top lo:Int)))=false:=by
    simp only [Bool.and_eq_false_iff,decide_eq_false_iff_not];omega
   have hs:a0m u (X3 l) (b:Int) (s.top lo:Int)=some (.next ((Fr.O2 s f).top (lo-f.off):Int)):=by
    unfold a0m;simp only [Int.natCast_nonneg,decide_true,if_true,hin,hiu,hlo,Bool.true_and,hed,h2,false_eq_true,if_false]
   rw [l0A hs,b0Q,if_neg h,hn]
theorem C08 (hw:∀ x∈l,C3 x) (hR:J2 l=true) (hf:1000<F) {a b:Nat} (ha:a<l.length) (hb:b<l.length):f0S F l (a:Int) (b:Int)=some ((I4 l a b:Nat):Int):=by
 obtain ⟨t,ht⟩:=a0u hw hR;obtain ⟨u,h1,h2⟩:=Old.o0p ht hR (show 401<F by omega);obtain ⟨d,_,h4⟩:=Old.k0o ht hR (show 401<F by omega);obtain ⟨lo,s,fs,hc,hs⟩:=q0Q ht ha;have hul:=h2.len;have hlen:=ht.len;have h400:=ht.le;have hsz:=hc.size;have hj:=z0Z ht hR (a:=a) hb fs lo s hc (by have:=s.size_pos;unfold Tm.top at hs;omega) (by omega) (fun q q1 q2=>by
  have:¬ P6 l a b q=true:=fun h'=>by have:=(c0g.1 h').2.1;omega
  simpa using this)
 have hwk:=x0e ht hR h2 h4 hb fs lo s hc F (by omega);rw [hs] at hwk;unfold f0S;rw [b7 t0I h1];have c1:(decide ((a:Int)<0)||(decide ((b:Int)<0)||(decide ((a:Int)>=(u.length:Int))||decide ((b:Int)>=(u.length:Int)))))=false:=by
  simp only [Bool.or_eq_false_iff,decide_eq_false_iff_not];omega
 simp only [E0,c1,false_eq_true,if_false,v0M (show 401<F by omega),hwk];rw [z00 hj.2.2 hj.1 hj.2.1]
theorem d0M (l:List D0) {n:Nat} (hn:n=N0 l l.length) {x:Int} (h0:0<=x) (h1:x<n):∃ q:Nat,q<l.length/\gt (Q1 l l.length) x=(q:Int)/\y0 (Q1 l l.length) x=true:=by
 obtain ⟨q,h2,h3,_⟩:=b07 l l.length x.toNat (by omega);refine ⟨q,h2,i0s h3,P0 h0 ?_⟩;rw [S6];omega
theorem q0F (hw:∀ x∈l,C3 x) (hR:J2 l=true) {n:Nat} (hn:n=N0 l l.length) (hf:1000<F) (hL:E7 F l=some (Q1 l l.length)) {x y:B0} (hx:J7 n x) (hy:J7 n y) (hne:x.To≠y.To) (k:Nat) (hle:x.Turn≠y.Turn\/x.To<y.To) :
  e0F F (k+1) l x y=some (r7 l x y):=by
 obtain ⟨a1,a2,a3,a4⟩:=hx;obtain ⟨b1,b2,b3,b4⟩:=hy;have hll:=S6 l l.length;unfold e0F;rw [hL];have c1:x.To>=0:=a1;have c2:x.To<((Q1 l l.length).length:Int):=by omega
 have c3:y.To>=0:=b1;have c4:y.To<((Q1 l l.length).length:Int):=by omega
 have c5:(x.To==y.To)=false:=by simpa using hne
 have w1:W (x.Turn+1)=x.Turn+1:=Z2 (by omega) (by omega);have w2:W (y.Turn+1)=y.Turn+1:=Z2 (by omega) (by omega);simp only [E0,c1,c2,c3,c4,c5,decide_true,if_true,Bool.not_true,false_eq_true,if_false,w1,w2,decide_eq_true_eq];unfold r7
 by_cases h1:x.Turn>y.Turn
 ·rw [if_pos h1,if_pos h1]
 ·rw [if_neg h1,if_neg h1]
  by_cases h2:x.Turn<y.Turn
  ·rw [if_pos h2,if_pos h2]
  ·have h3:¬ x.To>y.To:=by omega
   rw [if_neg h2,if_neg h2,if_neg h3,if_neg h3];obtain ⟨p,hp,e1,i1⟩:=d0M l hn a1 a2;obtain ⟨q,hq,e2,i2⟩:=d0M l hn b1 b2;have hj:=(h0L hw hR hp hq).1;have hd:=(e0R hw hR).1;have hd2:=(e0R hw hR).2 _ hj;unfold E9 d0V;rw [i1,i2,e1,e2];simp only [if_true,C08 hw hR hf hp hq,G0X hw hR (show 401<F by omega),E0,Int.toNat_natCast];have i3:y0 (F8 l) ((I4 l p q:Nat):Int)=true:=P0 (by omega) (by omega);have i4:y0 l ((I4 l p q:Nat):Int)=true:=P0 (by omega) (by omega);have w3:W (gt (F8 l) ((I4 l p q:Nat):Int)+1)=gt (F8 l) ((I4 l p q:Nat):Int)+1:=Z2 (by omega) (by omega);have w4:W (gt (F8 l) ((I4 l p q:Nat):Int)+1+1)=gt (F8 l) ((I4 l p q:Nat):Int)+1+1:=Z2 (by omega) (by omega);rw [i3,i4];simp only [if_true,w3,w4];split<;>rfl
theorem I0P (hw:∀ x∈l,C3 x) (hR:J2 l=true) {n:Nat} (hn:n=N0 l l.length) (hf:1000<F) (hL:E7 F l=some (Q1 l l.length)) {x y:B0} (hx:J7 n x) (hy:J7 n y) (hne:x.To≠y.To) :
  e0F F F l x y=some (r7 l x y):=by
 obtain ⟨k,rfl⟩:∃ k,F=k+2:=⟨F-2,by omega⟩
 by_cases hle:x.Turn≠y.Turn\/x.To<y.To
 ·exact q0F hw hR hn hf hL hx hy hne _ hle
 ·have e:x.Turn=y.Turn:=by omega
  have h:=q0F hw hR hn hf hL hy hx (fun h=>hne h.symm) k (.inr (by omega));have hc:=m0H l x y hne;obtain ⟨a1,a2,a3,a4⟩:=hx;obtain ⟨b1,b2,b3,b4⟩:=hy;have hll:=S6 l l.length;unfold e0F;rw [hL];have c1:x.To>=0:=a1;have c2:x.To<((Q1 l l.length).length:Int):=by omega
  have c3:y.To>=0:=b1;have c4:y.To<((Q1 l l.length).length:Int):=by omega
  have c5:(x.To==y.To)=false:=by simpa using hne
  have h1:¬ x.Turn>y.Turn:=by omega
  have h2:¬ x.Turn<y.Turn:=by omega
  have h3:x.To>y.To:=by omega
  simp only [E0,c1,c2,c3,c4,c5,h1,h2,h3,decide_true,decide_false,if_true,Bool.not_true,false_eq_true,if_false,h,hc];have:(r7 l x y).2.2=-1:=by unfold r7;rw [if_neg h1,if_neg h2,if_pos h3]
  rw [<-this]
end
def n5 (i k:Nat) (f:Nat->Nat->Int) (a b:Nat):Int:=if (a<i/\b<i)\/(a=i/\b<k)\/(b=i/\a<k) then f a b else 0
theorem x0H {m i k:Nat} (hk:k<i) (f:Nat->Nat->Int) :
  Q0 m m (fun a=>if a=k then (fun j=>if j=i then f k i else (if k=i then (fun j=>if j=k then f i k else n5 i k f i j) else n5 i k f k) j) else (if a=i then (fun j=>if j=k then f i k else n5 i k f i j) else n5 i k f a))=Q0 m m (n5 i (k+1) f):=by
 refine V7 fun a b _ _=>?_;have hki:¬ k=i:=by omega
 by_cases e1:a=k
 ·rw [if_pos e1]
  by_cases e2:b=i
  ·rw [if_pos e2];unfold n5;rw [if_pos (by omega),e1,e2]
  ·rw [if_neg e2,if_neg hki,e1];unfold n5
   by_cases e3:b<i
   ·rw [if_pos (by omega),if_pos (by omega)]
   ·rw [if_neg (by omega),if_neg (by omega)]
 ·rw [if_neg e1]
  by_cases e2:a=i
  ·rw [if_pos e2]
   by_cases e3:b=k
   ·rw [if_pos e3];unfold n5;rw [if_pos (by omega),e2,e3]
   ·rw [if_neg e3,e2];unfold n5
    by_cases e4:b<k
    ·rw [if_pos (by omega),if_pos (by omega)]
    ·rw [if_neg (by omega),if_neg (by omega)]
  ·rw [if_neg e2];unfold n5
   by_cases e4:(a<i/\b<i)\/(a=i/\b<k)\/(b=i/\a<k)
   ·rw [if_pos e4,if_pos (by omega)]
   ·rw [if_neg e4,if_neg (by omega)]
theorem u02 {m i:Nat} (f:Nat->Nat->Int) (h:f i i=0):Q0 m m (n5 i i f)=Q0 m m (n5 (i+1) 0 f):=by
 refine V7 fun a b _ _=>?_;unfold n5
 by_cases e:a=i/\b=i
 ·rw [if_neg (by omega),if_pos (by omega),e.1,e.2,h]
 ·by_cases e4:(a<i/\b<i)\/(a=i/\b<i)\/(b=i/\a<i)
  ·rw [if_pos e4,if_pos (by omega)]
  ·rw [if_neg e4,if_neg (by omega)]
theorem v0D {fr:List Nat} {i k:Nat}:(((fr.getD i 0:Nat):Int)==((fr.getD k 0:Nat):Int))=decide (fr.getD i 0=fr.getD k 0):=by
 by_cases h:fr.getD i 0=fr.getD k 0
 ·rw [h];simp
 ·have:¬ ((fr.getD i 0:Nat):Int)=((fr.getD k 0:Nat):Int):=by omega
  simp only [h,decide_false,beq_eq_false_iff_ne,ne_eq,this,not_false_eq_true]
section
variable {F:Nat} {l:List D0} {n m:Nat} {fB fD:Nat->Nat->Int} {fr:List Nat} {hops:List B0}
structure h0r (l:List D0) (n m:Nat) (fr:List Nat) (hops:List B0):Prop where
 lt:∀ i∈fr,i<m
 len:hops.length=fr.length
 le:fr.length<=500
 hop:∀ x∈hops,J7 n x
 asc:hops.Pairwise fun a b=>a.To<b.To
theorem C0N {d:Int} (h:d=1\/d=-1):W (0-d)=- d:=by rcases h with h | h<;>rw [h]<;>rfl
theorem F0v (hw:∀ x∈l,C3 x) (hR:J2 l=true) (hn:n=N0 l l.length) (hf:2000<F) (hL:E7 F l=some (Q1 l l.length)) (h:e8 m fB fD) (g:h0r l n m fr hops) {i:Nat} (hi:i<fr.length) :
  iter (h0I F l (O1 m fB fD) (O0 fr) hops (i:Int)) F (0,Q0 fr.length fr.length (n5 i 0 (H4 l fB fr hops)),Q0 fr.length fr.length (n5 i 0 (U4 l fB fD fr hops)))=some (Q0 fr.length fr.length (n5 (i+1) 0 (H4 l fB fr hops)),Q0 fr.length fr.length (n5 (i+1) 0 (U4 l fB fD fr hops))):=by
 have hle:=g.le;have ok:=p03 hw hR hn h g.lt g.len g.hop g.asc;rw [<-u02 _ (ok.bd i hi),<-u02 _ (ok.dd i hi)];have:=V2 (step:=h0I F l (O1 m fB fD) (O0 fr) hops (i:Int)) (fun k=>((k:Int),Q0 fr.length fr.length (n5 i k (H4 l fB fr hops)),Q0 fr.length fr.length (n5 i k (U4 l fB fD fr hops)))) (Q0 fr.length fr.length (n5 i i (H4 l fB fr hops)),Q0 fr.length fr.length (n5 i i (U4 l fB fD fr hops))) i (fun k hk=>.inl ?_) ?_ i 0 F (by omega) (by omega)
 ·exact this
 ·have hkl:k<fr.length:=by omega
  have h1:(k:Int)<(i:Int):=by omega
  have hih:y0 hops (i:Int)=true:=P0 (by omega) (by rw [g.len];omega);have hkh:y0 hops (k:Int)=true:=P0 (by omega) (by rw [g.len];omega);have xi:=a0O g.hop (i:=i) (by rw [g.len];exact hi);have xk:=a0O g.hop (i:=k) (by rw [g.len];exact hkl);have hto:=o0W g.asc (i:=i) (k:=k) (by rw [g.len];exact hi) (by rw [g.len];exact hkl) (by omega);have hne:¬ i=k:=by omega
  have hne':¬ k=i:=by omega
  have hdn:=ok.dn i k hi hkl;have hd1:=ok.d1 i k hi hkl hne;have hWd:W (0-U4 l fB fD fr hops i k)=U4 l fB fD fr hops k i:=by rw [hdn];exact C0N hd1
  have key:∀ p q r:Int,p=H4 l fB fr hops i k->q=H4 l fB fr hops k i->r=U4 l fB fD fr hops i k->
    (Option.bind (some (Q0 fr.length fr.length (fun a=>if a=k then (fun j=>if j=i then q else (if k=i then (fun j=>if j=k then p else n5 i k (H4 l fB fr hops) i j) else n5 i k (H4 l fB fr hops) k) j) else (if a=i then (fun j=>if j=k then p else n5 i k (H4 l fB fr hops) i j) else n5 i k (H4 l fB fr hops) a)),
     Q0 fr.length fr.length (fun a=>if a=i then (fun j=>if j=k then r else n5 i k (U4 l fB fD fr hops) i j) else n5 i k (U4 l fB fD fr hops) a))) fun (y5,y6)=>
    (if y0 y6 (k:Int) then
     if y0 y6 (i:Int) then
      if y0 (gt y6 (i:Int)) (k:Int) then
       if y0 (gt y6 (k:Int)) (i:Int) then
        let t5:=y6.set (k:Int).toNat ((gt y6 (k:Int)).set (i:Int).toNat (W (0-(gt (gt y6 (i:Int)) (k:Int)))))
        some (.next (W ((k:Int)+1),y5,t5))
       else none
      else none
     else none
    else none:Option (U0 (Int×(List (List Int))×(List (List Int))) ((List (List Int))×(List (List Int))))))=some (.next (((k+1:Nat):Int),Q0 fr.length fr.length (n5 i (k+1) (H4 l fB fr hops)),Q0 fr.length fr.length (n5 i (k+1) (U4 l fB fD fr hops)))):=by
   rintro p q r rfl rfl rfl
   simp only [E0,P5 _ hi,P5 _ hkl,F5 _ hi,F5 _ hkl,l6 _ hi,l6 _ hkl,if_true,j8 _ hi,j8 _ hkl,Int.toNat_natCast,f04,f0v,x0H hk,hWd,E2 (i:=k) (by omega)]
  unfold h0I;simp only [h1,decide_true,if_true,A6 hi,A6 hkl,e7 hi,e7 hkl,v0D,decide_eq_true_eq,P5 _ hi,P5 _ hkl,hih,hkh,I0P hw hR hn (show 1000<F by omega) hL xi xk hto,F5 _ hi,F5 _ hkl,l6 _ hi,l6 _ hkl,k0j g.len g.lt hi hkl,k0j g.len g.lt hkl hi,u0L g.len g.lt hi hkl,Int.toNat_natCast,f04,f0v]
  by_cases he:fr.getD i 0=fr.getD k 0
  ·rw [if_pos he];refine key _ _ _ ?_ ?_ ?_
   ·unfold H4;rw [if_neg hne,if_pos he]
   ·unfold H4;rw [if_neg hne',if_pos he.symm,m0H l _ _ hto]
   ·unfold U4;rw [if_neg hne,if_pos he]
  ·rw [if_neg he];refine key _ _ _ ?_ ?_ ?_
   ·unfold H4;rw [if_neg hne,if_neg he]
   ·unfold H4;rw [if_neg hne',if_neg (fun e=>he e.symm)]
   ·unfold U4;rw [if_neg hne,if_neg he]
 ·unfold h0I;have h1:¬ ((i:Int)<(i:Int)):=by omega
  simp only [h1,decide_false,if_false,false_eq_true]
theorem A0E (hw:∀ x∈l,C3 x) (hR:J2 l=true) (hn:n=N0 l l.length) (hf:2000<F) (hL:E7 F l=some (Q1 l l.length)) (hm:m<=1000) (h:e8 m fB fD) (g:h0r l n m fr hops) :
  j0K F l (O1 m fB fD) (O0 fr) hops=some (O1 fr.length (H4 l fB fr hops) (U4 l fB fD fr hops)):=by
 have hle:=g.le;unfold j0K;rw [j0O hm hf h];have hlen:(((O0 fr).length:Int) != (hops.length:Int))=false:=by rw [d0T,g.len];simp
 have t1:=V2 (step:=i0a F (O1 m fB fD) (O0 fr)) (fun i=>(i:Int)) (.inr ()) fr.length (fun i hi=>.inl ?_) ?_ fr.length 0 F (by omega) (by omega)
 ·have e1:iter (i0a F (O1 m fB fD) (O0 fr)) F 0=_:=t1;have t2:=V2 (step:=i0u F l (O1 m fB fD) (O0 fr) hops) (fun i=>((i:Int),Q0 fr.length fr.length (n5 i 0 (H4 l fB fr hops)),Q0 fr.length fr.length (n5 i 0 (U4 l fB fD fr hops)))) (Q0 fr.length fr.length (H4 l fB fr hops),Q0 fr.length fr.length (U4 l fB fD fr hops)) fr.length (fun i hi=>.inl ?_) ?_ fr.length 0 F (by omega) (by omega)
  ·have z:∀ f,Q0 fr.length fr.length (n5 0 0 f)=Q0 fr.length fr.length fun _ _=>0:=fun f=>V7 fun a b _ _=>by unfold n5;rw [if_neg (by omega)]
   rw [z,z] at t2;have e2:iter (i0u F l (O1 m fB fD) (O0 fr) hops) F (0,Q0 fr.length fr.length (fun _ _=>0),Q0 fr.length fr.length fun _ _=>0)=_:=t2;simp only [E0,Bool.not_true,false_eq_true,if_false,hlen,e1,show decide ((-1:Int)>=0)=false from rfl];rw [d0T,r0N (by omega) hf];simp only [E0,e2];rfl
  ·unfold i0u;have h1:(i:Int)<((O0 fr).length:Int):=by simp;omega
   simp only [h1,decide_true,if_true,F0v hw hR hn hf hL h g hi,E0,E2 (i:=i) (by omega)]
  ·unfold i0u;have h1:¬ ((fr.length:Int)<((O0 fr).length:Int)):=by simp
   have z:∀ f,Q0 fr.length fr.length (n5 fr.length 0 f)=Q0 fr.length fr.length f:=fun f=>V7 fun a b _ _=>by unfold n5;rw [if_pos (by omega)]
   simp only [h1,decide_false,if_false,false_eq_true,z]
 ·unfold i0a e0y;have h1:(i:Int)<((O0 fr).length:Int):=by simp;omega
  have hx:=T6 g.lt hi;have h2:((fr.getD i 0:Nat):Int)>=0:=by omega
  have h3:((fr.getD i 0:Nat):Int)<((O1 m fB fD).B.length:Int):=by simp only [O1,k07];omega
  simp only [h1,decide_true,if_true,A6 hi,e7 hi,h2,h3,E0,Bool.not_true,false_eq_true,if_false,E2 (i:=i) (by omega)]
 ·unfold i0a;have h1:¬ ((fr.length:Int)<((O0 fr).length:Int)):=by simp
  simp only [h1,decide_false,if_false,false_eq_true]
end
theorem wrap_u64 {n:Nat} (h:n<18446744073709551616):IntKind.wrap .u64 (n:Int)=n:=by
 simp [IntKind.wrap,IntKind.bits,IntKind.signed];omega
theorem v0p (x y:BitVec 64):D3 .u64 (x.toNat:Int) (y.toNat:Int)=((x&&& y).toNat:Int):=by
 unfold D3;simp only [IntKind.bits,BitVec.ofInt_natCast,BitVec.ofNat_toNat,BitVec.setWidth_eq];exact wrap_u64 (x&&& y).isLt
theorem B0Z {k:Nat} (h:k<64):shl .u64 1 (k:Int)=((BitVec.twoPow 64 k).toNat:Int):=by
 have h1:min k 64=k:=by omega
 have h2:2 ^ k<18446744073709551616:=Nat.pow_lt_pow_right (a:=2) (by omega) (show k<64 from h);unfold shl;rw [show (IntKind.u64).bits=64 from rfl,Int.toNat_natCast,h1,Int.one_mul,BitVec.toNat_twoPow,Nat.mod_eq_of_lt h2];rw [show ((2:Int) ^ k)=((2 ^ k:Nat):Int) by simp];exact wrap_u64 h2
theorem C0E (x:BitVec 64) {k:Nat} (h:k<64):shr .u64 (x.toNat:Int) (k:Int)=((x >>> k).toNat:Int):=by
 have h1:min k 64=k:=by omega
 unfold shr;rw [show (IntKind.u64).bits=64 from rfl,Int.toNat_natCast,h1,BitVec.toNat_ushiftRight,Nat.shiftRight_eq_div_pow,show ((2:Int) ^ k)=((2 ^ k:Nat):Int) by simp,Int.fdiv_eq_ediv_of_nonneg _ (Int.natCast_nonneg _),Int.natCast_ediv]
theorem y0X {v:Int} (h0:0<=v) (h1:v<18446744073709551616) {k:Nat} (hk:k<64):(D3 .u64 v (shl .u64 1 (k:Int)) != 0)=(D3 .u64 (shr .u64 v (k:Int)) 1==1):=by
 obtain ⟨x,rfl⟩:∃ x:BitVec 64,v=(x.toNat:Int):=⟨BitVec.ofNat 64 v.toNat,by rw [BitVec.toNat_ofNat,Nat.mod_eq_of_lt (by omega)];omega⟩
 rw [B0Z hk,C0E x hk,v0p,show (1:Int)=((BitVec.twoPow 64 0).toNat:Int) from rfl,v0p,BitVec.and_twoPow,BitVec.and_twoPow];have hb:(x >>> k).getLsbD 0=x.getLsbD k:=by simp
 rw [hb];have hp:(BitVec.twoPow 64 k).toNat≠0:=by
  rw [BitVec.toNat_twoPow,Nat.mod_eq_of_lt (Nat.pow_lt_pow_right (a:=2) (by omega) (show k<64 from hk))];exact Nat.ne_of_gt (Nat.two_pow_pos k)
 cases x.getLsbD k with
 |false=>simp
 |
  true=>
  have:((BitVec.twoPow 64 k).toNat:Int)≠0:=by omega
  simp only [if_true,bne_iff_ne,ne_eq,this,not_false_eq_true,beq_self_eq_true,bne,beq_eq_false_iff_ne.2 this,Bool.not_false]
def hasB (s:List Int) (b:Int):Bool:=D3 .u64 (gt s (Int.tdiv b 64)) (shl .u64 1 (Int.tmod b 64)) != 0
theorem w0c (fuel:Nat) {s:List Int} (hs:s.length=4/\∀ y∈s,C7 .u64 y) {b:Int} (hb:C7 .u8 b):l0m fuel s b=some (hasB s b)/\l0r fuel s (W b)=some (hasB s b):=by
 have hb':0<=b/\b<256:=⟨hb.1,by have:=hb.2;rw [show IntKind.u8.max=255 from rfl] at this;omega⟩
 obtain ⟨n,rfl⟩:∃ n:Nat,b=n:=⟨b.toNat,by omega⟩
 have hn:n<256:=by omega
 have hd:Int.tdiv (n:Int) 64=((n / 64:Nat):Int):=by rw [Int.tdiv_eq_ediv_of_nonneg (by omega)];simp
 have hm:Int.tmod (n:Int) 64=((n % 64:Nat):Int):=by rw [Int.tmod_eq_emod_of_nonneg (by omega)];simp
 have hw8:IntKind.wrap .u8 ((n / 64:Nat):Int)=((n / 64:Nat):Int):=by simp [IntKind.wrap,IntKind.bits,IntKind.signed];omega
 have hWn:W (n:Int)=n:=r0w (by omega);have hWd:W ((n / 64:Nat):Int)=((n / 64:Nat):Int):=r0w (by omega);have hin:w0n 4 ((n / 64:Nat):Int)=true:=by simp [w0n];omega
 have hmem:=hs.2 _ (mem_of_getElem? (E4 (l:=s) (i:=n / 64) (by omega)));have hv:0<=gt s ((n / 64:Nat):Int)/\gt s ((n / 64:Nat):Int)<18446744073709551616:=⟨hmem.1,by have:=hmem.2;rw [show IntKind.u64.max=18446744073709551615 from rfl] at this;omega⟩
 have h0:(0:Int)<=((n % 64:Nat):Int):=by omega
 unfold l0m l0r hasB;have q1:(0:Int)<=((n / 64:Nat):Int):=by omega
 have q2:((n / 64:Nat):Int)<4:=by omega
 have q3:¬ ((n % 64:Nat):Int)<0:=by omega
 have q4:(n:Int)>=0:=by omega
 have q5:(n:Int)<256:=by omega
 simp only [hWn,hd,hm,hw8,hWd,q1,q2,q3,q4,q5,decide_true,decide_false,Bool.not_false,Bool.and_self,if_true,E0,y0X hv.1 hv.2 (show n % 64<64 by omega),and_self]
def R6 (ws:List B0) (r:Nat):Option B0:=ws.find? fun h=>h.To==(r:Int)
def a0J (ws:List B0) (r:Nat):B0:=(R6 ws r).getD ⟨0,0,[]⟩
def K3 (Ws:List (List B0)) (r k:Nat):List Nat:=(List.range k).filter fun i=>(R6 (Ws.getD i []) r).isSome
def I5 (Ws:List (List B0)) (r k:Nat):List B0:=(K3 Ws r k).map fun i=>a0J (Ws.getD i []) r
theorem p0s (Ws:List (List B0)) (r k:Nat):K3 Ws r (k+1)=K3 Ws r k++if (R6 (Ws.getD k []) r).isSome then [k] else []:=by
 unfold K3;rw [List.range_succ,List.filter_append];congr 1;cases h:(R6 (Ws.getD k []) r).isSome
 ·simp only [List.filter_cons,h,false_eq_true,if_false,List.filter_nil]
 ·simp only [List.filter_cons,h,if_true,List.filter_nil]
theorem r0p (Ws:List (List B0)) (r k:Nat):I5 Ws r (k+1)=I5 Ws r k++if (R6 (Ws.getD k []) r).isSome then [a0J (Ws.getD k []) r] else []:=by
 unfold I5;rw [p0s,List.map_append];congr 1;split<;>rfl
theorem u0w {Ws:List (List B0)} {r k i:Nat} (h:i∈K3 Ws r k):i<k:=List.mem_range.1 (mem_filter.1 h).1
theorem j0u (Ws:List (List B0)) (r k:Nat):(K3 Ws r k).length<=k:=Nat.le_trans (List.length_filter_le _ _) (by simp)
theorem j0s (Ws:List (List B0)) (r k:Nat):(I5 Ws r k).length=(K3 Ws r k).length:=by simp [I5]
theorem C0I {ws:List B0} {r:Nat} (h:(R6 ws r).isSome=true):a0J ws r∈ws/\(a0J ws r).To=r:=by
 unfold a0J;cases e:R6 ws r with
 |none=>rw [e] at h;simp at h
 |
  some x=>
  have:=List.find?_some e;exact ⟨List.mem_of_find?_eq_some e,by simpa using this⟩
def H9 (fB fD:Nat->Nat->Int) (Ws:List (List B0)) (r:Nat):Nat:=(d0z fB fD (K3 Ws r Ws.length) (I5 Ws r Ws.length)).toNat
def d0R (fB fD:Nat->Nat->Int) (Ws:List (List B0)) (r:Nat):Nat:=(K3 Ws r Ws.length).getD (H9 fB fD Ws r) 0
def V9 (fB fD:Nat->Nat->Int) (Ws:List (List B0)) (r:Nat):B0:=a0J (Ws.getD (d0R fB fD Ws r) []) r
def O4 (hs:Nat->Bool) (Ws:List (List B0)) (k:Nat):List Nat:=(List.range k).filter fun r=>hs r&&!(K3 Ws r Ws.length).isEmpty
theorem t0g (hs:Nat->Bool) (Ws:List (List B0)) (k:Nat):O4 hs Ws (k+1)=O4 hs Ws k++if hs k&&!(K3 Ws k Ws.length).isEmpty then [k] else []:=by
 unfold O4;rw [List.range_succ,List.filter_append];congr 1;cases h:(hs k&&!(K3 Ws k Ws.length).isEmpty)<;>simp [h]
theorem F0k {hs:Nat->Bool} {Ws:List (List B0)} {k i:Nat} (h:i∈O4 hs Ws k):i<k:=List.mem_range.1 (mem_filter.1 h).1
theorem o0F (hs:Nat->Bool) (Ws:List (List B0)) (k:Nat):(O4 hs Ws k).length<=k:=Nat.le_trans (List.length_filter_le _ _) (by simp)
theorem v0A (hs:Nat->Bool) (Ws:List (List B0)) (k:Nat):(O4 hs Ws k).Pairwise fun a b=>a<b:=List.Pairwise.filter _ List.pairwise_lt_range
theorem z0q {hs:Nat->Bool} {Ws:List (List B0)} {k r:Nat} (h:r∈O4 hs Ws k):hs r=true/\K3 Ws r Ws.length≠[]:=by
 have:=(mem_filter.1 h).2;simpa using this
theorem B0h {fB fD:Nat->Nat->Int} {fr:List Nat} {hops:List B0}:∀ k,0<k->∃ j:Nat,b0f fB fD fr hops k=j/\j<k:=by
 intro k
 induction k with
 |zero=>intro h;omega
 |
  succ k ih=>
  intro _;rw [l0M];unfold c09;split
  ·exact ⟨k,rfl,by omega⟩
  ·split
   ·exact ⟨k,rfl,by omega⟩
   ·rcases n0X fB fD fr hops k with h | ⟨j,h,hj⟩
    ·rename_i hneg _;rw [h] at hneg;exact absurd (show (-1:Int)<0 by omega) hneg
    ·exact ⟨j,h,by omega⟩
theorem C00 {fB fD:Nat->Nat->Int} {fr:List Nat} {hops:List B0} (h:fr≠[]):∃ j:Nat,d0z fB fD fr hops=j/\j<fr.length:=B0h _ (List.length_pos_iff.2 h)
theorem v0C {fB fD:Nat->Nat->Int} {hops:List B0}:d0z fB fD [] hops=-1:=rfl
section
variable {fB fD:Nat->Nat->Int} {Ws:List (List B0)} {r:Nat}
theorem j0w (h:K3 Ws r Ws.length≠[]):d0z fB fD (K3 Ws r Ws.length) (I5 Ws r Ws.length)=(H9 fB fD Ws r:Int)/\H9 fB fD Ws r<(K3 Ws r Ws.length).length:=by
 obtain ⟨j,h1,h2⟩:=C00 (fB:=fB) (fD:=fD) (hops:=I5 Ws r Ws.length) h;unfold H9;rw [h1];exact ⟨rfl,h2⟩
theorem r09 (h:K3 Ws r Ws.length≠[]):d0R fB fD Ws r∈K3 Ws r Ws.length:=by
 have:=(j0w (fB:=fB) (fD:=fD) h).2;unfold d0R;rw [show (K3 Ws r Ws.length).getD (H9 fB fD Ws r) 0=(K3 Ws r Ws.length)[H9 fB fD Ws r] from by simp [List.getD,this]];exact List.getElem_mem this
theorem c0m (h:K3 Ws r Ws.length≠[]):d0R fB fD Ws r<Ws.length:=u0w (r09 h)
theorem u05 (h:K3 Ws r Ws.length≠[]):gt (I5 Ws r Ws.length) (H9 fB fD Ws r:Int)=V9 fB fD Ws r:=by
 have:=(j0w (fB:=fB) (fD:=fD) h).2;refine I3 ?_;unfold V9 d0R I5;simp [List.getD,this]
theorem k0n (h:K3 Ws r Ws.length≠[]):V9 fB fD Ws r∈Ws.getD (d0R fB fD Ws r) []/\(V9 fB fD Ws r).To=r:=C0I (mem_filter.1 (r09 h)).2
end
def z8 (hs:Nat->Bool) (Ws:List (List B0)):Nat->Nat
 |0=>0
 |r+1=>z8 hs Ws r+if hs r then (K3 Ws r Ws.length).length else 0
end Go.Proofs.YtdficaoajalfaaaGreat
namespace Go.Proofs.YtdficaoajalfaaaGreat
open Go.V Go.RowKit Old Go.X
section
variable {F:Nat} {l:List D0} {n:Nat}
theorem y0w {ws:List B0} {j r:Nat} (hj:j<ws.length) (h:(gt ws (j:Int)).To≠(r:Int)):R6 (ws.take (j+1)) r=R6 (ws.take j) r:=by
 unfold R6;rw [List.take_succ,E4 hj,List.find?_append];simp [List.find?_cons,h]
theorem F0a {n:Nat} {ws:List B0} (hw:A8 n ws) {j r:Nat} (hj:j<ws.length) (h:(gt ws (j:Int)).To=(r:Int)):R6 (ws.take (j+1)) r=some (gt ws (j:Int))/\R6 (ws.take j) r=none:=by
 have hnone:R6 (ws.take j) r=none:=by
  unfold R6;rw [List.find?_eq_none];intro x hx;obtain ⟨i,hi,he⟩:=List.mem_iff_getElem.1 hx;simp only [List.length_take] at hi;have hd:=List.pairwise_iff_getElem.1 hw.dist i j (by omega) hj (by omega);rw [List.getElem_take] at he;rw [<-he];have e2:gt ws (j:Int)=ws[j]:=I3 (by simp [hj]);rw [e2] at h;simp only [beq_iff_eq];omega
 refine ⟨?_,hnone⟩;unfold R6 at hnone ⊢;rw [List.take_succ,E4 hj,List.find?_append,hnone];simp [h]
theorem setOf (l:List D0) {n:Nat} (hn:n=N0 l l.length) (hw:∀ x∈l,C3 x) {r:Nat} (hr:r<n):y0 ((Q1 l l.length).map fun q=>(gt l q).Set) (r:Int)=true/\gtZ 4 ((Q1 l l.length).map fun q=>(gt l q).Set) (r:Int)=(gt l (gt (Q1 l l.length) (r:Int))).Set/\
  ((gt l (gt (Q1 l l.length) (r:Int))).Set.length=4/\∀ y∈(gt l (gt (Q1 l l.length) (r:Int))).Set,C7 .u64 y):=by
 obtain ⟨q,h2,h3,h4⟩:=d0M l hn (x:=(r:Int)) (by omega) (by omega);have hlen:=S6 l l.length;refine ⟨P0 (by omega) (by simp;omega),?_,?_⟩
 ·unfold gtZ;have:(Q1 l l.length)[r]?=some (gt (Q1 l l.length) (r:Int)):=E4 (by omega);exact @I3 _ ⟨List.replicate 4 0⟩ _ _ _ (by rw [List.getElem?_map,this];rfl)
 ·rw [h3];have:=hw _ (mem_of_getElem? (E4 (l:=l) (i:=q) h2));exact this.2.2.2.2
def J3 (l:List D0) (b_:Int) (r:Nat):Bool:=hasB (gt l (gt (Q1 l l.length) (r:Int))).Set b_
end
def R0 (a:List B0) (b:Nat->List B0) (pl:List Nat) (beg:Bool):List (List B0):=pl.map b++if beg then [a] else []
def b6 (l:List D0) (at_:Int) (vals:List (List Int)) (beg:Bool):List (List Int):=vals++if beg then [Z8 l at_] else []
def o4 (pl:List Nat) (beg:Bool):Nat:=if beg then pl.length+1 else pl.length
def R3 (pl:List Nat) (beg:Bool) (fB:Nat->Nat->Int):Nat->Nat->Int:=if beg then a0T pl.length fB else fB
def C4 (pl:List Nat) (beg:Bool) (fD:Nat->Nat->Int):Nat->Nat->Int:=if beg then a0S pl.length fD else fD
theorem a0B (a:List B0) (b:Nat->List B0) (pl:List Nat) (beg:Bool):(R0 a b pl beg).length=o4 pl beg:=by unfold R0 o4;cases beg<;>simp
section
variable {F:Nat} {l:List D0} {n:Nat} {a:List B0} {b:Nat->List B0} {e:Nat->B0×Bool} {z:B0×Bool} {at_ work:Int} {pl:List Nat} {vals:List (List Int)} {fB fD:Nat->Nat->Int}
theorem v0U (C:U3 l n pl vals fB fD) (beg:Bool):(b6 l at_ vals beg).length=o4 pl beg:=by unfold b6 o4;cases beg<;>simp [C.len]
theorem h07 (C:U3 l n pl vals fB fD) (beg:Bool):e8 (o4 pl beg) (R3 pl beg fB) (C4 pl beg fD):=by
 unfold o4 R3 C4;cases beg with
 |false=>exact C.rk
 |true=>exact D0W C.rk
theorem s0D (C:U3 l n pl vals fB fD) (beg:Bool):∀ v∈b6 l at_ vals beg,v.length=(T3 l).toNat:=by
 intro v hv;unfold b6 at hv;rcases List.mem_append.1 hv with h | h
 ·exact C.row v h
 ·cases beg with
  |false=>simp at h
  |true=>simp at h;subst h;exact l0a l at_
theorem h0U (K:Q4 l n a b e z F) (C:U3 l n pl vals fB fD) (beg:Bool):∀ i,i<(R0 a b pl beg).length->A8 n ((R0 a b pl beg).getD i [])/\((R0 a b pl beg).getD i []).length<=500000/\(∀ h∈(R0 a b pl beg).getD i [],J7 n h)/\S8 800 ((R0 a b pl beg).getD i []):=by
 intro i hi;have hm:(R0 a b pl beg).getD i []∈R0 a b pl beg:=by
  rw [show (R0 a b pl beg).getD i []=(R0 a b pl beg)[i] from by simp [List.getD,hi]];exact List.getElem_mem hi
 have hop:∀ {ws:List B0},A8 n ws->a0q ws->∀ h∈ws,J7 n h:=fun hw ht h hh=>⟨(hw.ok h hh).1,(hw.ok h hh).2.1,(ht h hh).1,(ht h hh).2⟩
 generalize (R0 a b pl beg).getD i []=ws at *;unfold R0 at hm;rcases List.mem_append.1 hm with h | h
 ·obtain ⟨p,hp,rfl⟩:=mem_map.1 h;have:=C.pln p hp;exact ⟨K.T.bw p this,K.T.bl p this,hop (K.T.bw p this) (K.T.bT p this),K.T.bb p this⟩
 ·cases beg with
  |false=>simp at h
  |true=>simp at h;subst h;exact ⟨K.T.aw,K.T.al,hop K.T.aw K.T.aT,K.T.ab⟩
def R1 (l:List D0) (n:Nat) (a:List B0) (b:Nat->List B0) (pl:List Nat) (b_:Int) (beg:Bool):List Nat:=O4 (J3 l b_) (R0 a b pl beg) n
def G2 (a:List B0) (b:Nat->List B0) (pl:List Nat) (fB fD:Nat->Nat->Int) (beg:Bool) (r:Nat):Nat:=d0R (R3 pl beg fB) (C4 pl beg fD) (R0 a b pl beg) r
def F4 (a:List B0) (b:Nat->List B0) (pl:List Nat) (fB fD:Nat->Nat->Int) (beg:Bool) (r:Nat):B0:=V9 (R3 pl beg fB) (C4 pl beg fD) (R0 a b pl beg) r
def D7 (l:List D0) (a:List B0) (b:Nat->List B0) (at_:Int) (pl:List Nat) (vals:List (List Int)) (fB fD:Nat->Nat->Int) (beg:Bool) (r:Nat):List Int:=
 a6 at_ (-1) (gt (b6 l at_ vals beg) (G2 a b pl fB fD beg r:Int)) (j5 l (F4 a b pl fB fD beg r).Steps)
def stW (l:List D0) (n:Nat) (a:List B0) (b:Nat->List B0) (pl:List Nat) (b_:Int) (beg:Bool):Int:=
 (z8 (J3 l b_) (R0 a b pl beg) n:Int)+(((R1 l n a b pl b_ beg).length:Int)*T3 l+((R1 l n a b pl b_ beg).length:Int)*((R1 l n a b pl b_ beg).length:Int))
theorem b0P {b_:Int} {beg:Bool} {r:Nat} (h:r∈R1 l n a b pl b_ beg):r<n/\K3 (R0 a b pl beg) r (R0 a b pl beg).length≠[]:=⟨F0k h,(z0q h).2⟩
theorem v0j {b_:Int} {beg:Bool}:(R1 l n a b pl b_ beg).length<=n:=o0F _ _ _
theorem i0j (K:Q4 l n a b e z F) (C:U3 l n pl vals fB fD) (b_:Int) (beg:Bool):h0r l n (o4 pl beg) ((R1 l n a b pl b_ beg).map (G2 a b pl fB fD beg)) ((R1 l n a b pl b_ beg).map (F4 a b pl fB fD beg)) where
 lt i hi:=by
  obtain ⟨r,hr,rfl⟩:=mem_map.1 hi;rw [<-a0B a b];exact c0m (b0P hr).2
 len:=by simp
 le:=by have:=v0j (l:=l) (n:=n) (a:=a) (b:=b) (pl:=pl) (b_:=b_) (beg:=beg);have:=K.T.n64;simp;omega
 hop x hx:=by
  obtain ⟨r,hr,rfl⟩:=mem_map.1 hx;have hm:=k0n (fB:=R3 pl beg fB) (fD:=C4 pl beg fD) (b0P hr).2;exact (h0U K C beg _ (c0m (b0P hr).2)).2.2.1 _ hm.1
 asc:=by
  rw [List.pairwise_map];refine (v0A _ _ _).imp_of_mem fun {x y} hx hy hxy=>?_;have h1:=(k0n (fB:=R3 pl beg fB) (fD:=C4 pl beg fD) (b0P hx).2).2;have h2:=(k0n (fB:=R3 pl beg fB) (fD:=C4 pl beg fD) (b0P hy).2).2;unfold F4;rw [h1,h2];omega
theorem l0u {V:List (List Int)} {m:Nat} (h:∀ v∈V,v.length=(T3 l).toNat) (hl:V.length=m) {k:Nat} (hk:k<m):(gt V (k:Int)).length=(T3 l).toNat/\y0 V (k:Int)=true:=
 ⟨h _ (mem_of_getElem? (E4 (by omega))),P0 (by omega) (by omega)⟩
theorem s0p (K:Q4 l n a b e z F) (C:U3 l n pl vals fB fD) (hw:∀ x∈l,C3 x) (b_:Int) (beg:Bool) :
  U3 l n (R1 l n a b pl b_ beg) ((R1 l n a b pl b_ beg).map (D7 l a b at_ pl vals fB fD beg)) (H4 l (R3 pl beg fB) ((R1 l n a b pl b_ beg).map (G2 a b pl fB fD beg)) ((R1 l n a b pl b_ beg).map (F4 a b pl fB fD beg))) (U4 l (R3 pl beg fB) (C4 pl beg fD) ((R1 l n a b pl b_ beg).map (G2 a b pl fB fD beg)) ((R1 l n a b pl b_ beg).map (F4 a b pl fB fD beg))) where
 len:=by simp
 pln r hr:=(b0P hr).1
 asc:=v0A _ _ _
 row v hv:=by
  obtain ⟨r,hr,rfl⟩:=mem_map.1 hv;unfold D7;rw [c0B];exact (l0u (s0D C beg) (v0U C beg) (by rw [<-a0B a b];exact c0m (b0P hr).2)).1
 rk:=by
  have g:=i0j K C b_ beg;have:=p03 hw K.hR K.hn (h07 C beg) g.lt g.len g.hop g.asc;simpa using this
end
section
variable {F:Nat} {l:List D0} {n:Nat} {a:List B0} {b:Nat->List B0} {e:Nat->B0×Bool} {z:B0×Bool} {at_ work:Int} {pl:List Nat} {vals:List (List Int)} {fB fD:Nat->Nat->Int}
theorem t0P (K:Q4 l n a b e z F) (C:U3 l n pl vals fB fD) (beg:Bool) (r:Nat):(K3 (R0 a b pl beg) r (R0 a b pl beg).length).length<=500/\∀ i∈K3 (R0 a b pl beg) r (R0 a b pl beg).length,i<o4 pl beg:=by
 have hm:=C.le;have hn:=K.T.n64;have h1:=j0u (R0 a b pl beg) r (R0 a b pl beg).length;rw [a0B] at h1;refine ⟨by
       have:o4 pl beg<=pl.length+1:=by unfold o4;split<;>omega
       rw [a0B];omega,fun i hi=>?_⟩
 rw [<-a0B a b];exact u0w hi
theorem l0t (K:Q4 l n a b e z F) (C:U3 l n pl vals fB fD) (beg:Bool):o4 pl beg<=401:=by
 have hm:=C.le;have hn:=K.T.n64;unfold o4;split<;>omega
theorem t08 (K:Q4 l n a b e z F) (C:U3 l n pl vals fB fD) {b_:Int} {beg:Bool} {r:Nat} (h:K3 (R0 a b pl beg) r (R0 a b pl beg).length≠[]):(F4 a b pl fB fD beg r).Steps.length<=2000000/\n3 800 (F4 a b pl fB fD beg r).Steps:=by
 have hm:=k0n (fB:=R3 pl beg fB) (fD:=C4 pl beg fD) h;have hw:=h0U K C beg _ (c0m (fB:=R3 pl beg fB) (fD:=C4 pl beg fD) h);exact ⟨(hw.1.ok _ hm.1).2.2,hw.2.2.2 _ hm.1⟩
end
section
variable {F:Nat} {l:List D0} {n:Nat} {a:List B0} {b:Nat->List B0} {e:Nat->B0×Bool} {z:B0×Bool} {at_ work:Int} {pl:List Nat} {vals:List (List Int)} {fB fD:Nat->Nat->Int}
abbrev xT (l:List D0) (n:Nat) (a:List B0) (b:Nat->List B0) (e:Nat->B0×Bool) (at_ work:Int) (places:List Int) (tags:List (List Int)) (rank:E1):(List D0)×(List Int)×(List B0)×(List (List B0))×(List (List Int))×Int×Int×(List Int)×(List (List Int))×E1:=
 (l,Q1 l l.length,a,(List.range n).map b,(List.range n).map fun p=>(e p).1.Steps,at_,work,places,tags,rank)
end
end Go.Proofs.YtdficaoajalfaaaGreat
set_option maxRecDepth 100000
noncomputable section
namespace Go.Proofs.YtdficaoajalfaaaGreat
open Go.V Go.RowKit Go.X
end Go.Proofs.YtdficaoajalfaaaGreat
end
namespace Go.Proofs.YtdficaoajalfaaaGreat
open Go.V Go.RowKit Old Go.X
abbrev Fb:Nat:=10000000000000
theorem F0n {p:List D0} (h:I1 en 20 (.list (.st 0)) p):∀ x∈p,C3 x:=fun x hx=>by
 obtain ⟨h1,h2,h3,h4,⟨h5,h6⟩,_⟩:=h x hx;exact ⟨h1,h2,h3,h4,h5,h6⟩
theorem L9 {α:Type} [Inhabited α] {l:List α} {i:Nat} (h:i<l.length):gt l (i:Int)∈l:=mem_of_getElem? (E4 h)
section
variable {l:List D0}
theorem y0o (hR:J2 l=false) (hl:l.length*64<=140737488351232) (h40:l.length<=1000):a7 Fb l=some false/\Q6 Fb l=some false:=by
 refine ⟨b7 h0X (by rw [Old.c0N l (show 401<Fb by unfold Fb;omega),hR]),b7 i0v (by rw [Old.b0g l hl (show l.length+1<Fb by unfold Fb;omega),hR])⟩
theorem known (hw:∀ x∈l,C3 x) (hR:J2 l=true) (hl:l.length*64<=140737488351232) (h40:l.length<=1000):∃ a b e z,Q4 l (N0 l l.length) a b e z Fb:=by
 obtain ⟨a,b,e,z,T,TF⟩:=n02 hw hl hR;exact ⟨a,b,e,z,hR,hl,rfl,T,by unfold Fb;omega,by unfold Fb;omega,by unfold Fb;omega,TF Fb (by unfold Fb;omega) (by unfold Fb;omega)⟩
end
