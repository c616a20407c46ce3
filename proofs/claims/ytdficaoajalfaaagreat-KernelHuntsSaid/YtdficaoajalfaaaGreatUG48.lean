/- Kernels and hunts: the same runs stay, and the same one is ahead. Kernels: the first one, the next one, what is accepted, and that they are right. Registers that stand for tags. Its conditions: none. -/
import Derived.Test.YtdficaoajalfaaaGreatUG47
import Derived.Test.YtdficaoajalfaaaGreatUG46
open Int (toNat_natCast le_refl)
open List (getElem_mem foldl_cons mem_cons mem_map)
open Bool (false_eq_true)
set_option linter.all false
namespace Go.Proofs.YtdficaoajalfaaaGreat
open Go.V Go.RowKit Old Go.X
theorem D0t {l:List D0} (hw:∀ x∈l,C3 x) (hR:J2 l=true) {n:Nat} (hn:n=N0 l l.length) {x y:B0} (hx:J7 n x) (hy:J7 n y):0<(r7 l x y).1:=by
 have hq:1<=E9 l x y:=by
  obtain ⟨h1,h2,h3,h4⟩:=hx;obtain ⟨k1,k2,k3,k4⟩:=hy;obtain ⟨p,hp,hp2,_⟩:=b07 l l.length x.To.toNat (by omega);obtain ⟨q,hq,hq2,_⟩:=b07 l l.length y.To.toNat (by omega);have e1:gt (Q1 l l.length) x.To=(p:Int):=i0s hp2;have e2:gt (Q1 l l.length) y.To=(q:Int):=i0s hq2;have hj:=(h0L hw hR (a:=p) (b:=q) hp hq).1;have:=((e0R hw hR).2 _ hj).1;unfold E9;rw [e1,e2];simp only [toNat_natCast];omega
 obtain ⟨h1,h2,h3,h4⟩:=hx;unfold r7;split
 ·simp only;omega
 ·split
  ·simp only;omega
  ·split
   ·simp only;omega
   ·simp only;split<;>omega
theorem y0j {b t:Int} (hb:0<b) (h0:0<=t) (h1:t<=400):0<K7 b t:=by
 unfold K7;rw [Z2 (by omega) (by omega)];split<;>omega
abbrev Q2 (vals:List (List Int)) (x:Nat):Int:=gt (gt vals (x:Int)) 0
def e0C (vals:List (List Int)) (fB:Nat->Nat->Int):Prop:=∀ k m:Nat,k<vals.length->m<vals.length->k≠m->Q2 vals k=Q2 vals m->0<fB k m
section
variable {F:Nat} {l:List D0} {n:Nat} {a:List B0} {b:Nat->List B0} {e:Nat->B0×Bool} {z:B0×Bool}
theorem y0x (K:Q4 l n a b e z F) (hw:∀ x∈l,C3 x) {s:Cs} {i:Nat} (h:a0G l n s i) {may:Nat->Bool} (hv:Inv l may i s.vals s.fB s.fD) (hs:e0C s.vals s.fB) (b_:Int) (C0:Bool) :
  e0C (s.step l n a b b_ C0).vals (s.step l n a b b_ C0).fB:=by
 have hat:=h.a0;have hvl:=h.ok.len;have val0:∀ r,gt (D7 l a b s.at_ s.pl s.vals s.fB s.fD C0 r) 0=gt (gt (b6 l s.at_ s.vals C0) (G2 a b s.pl s.fB s.fD C0 r:Int)) 0:=fun r=>by unfold D7;rw [d0K]
 intro k m hk hm hkm heq;have hlen:(s.step l n a b b_ C0).vals.length=(R1 l n a b s.pl b_ C0).length:=by simp [Cs.step]
 rw [hlen] at hk hm;have hkr:=getElem_mem hk;have hmr:=getElem_mem hm;have gv:∀ q (hq:q<(R1 l n a b s.pl b_ C0).length),gt (s.step l n a b b_ C0).vals (q:Int)=D7 l a b s.at_ s.pl s.vals s.fB s.fD C0 (R1 l n a b s.pl b_ C0)[q]:=fun q hq=>I3 (by simp [Cs.step,hq]);unfold Q2 at heq;rw [gv k hk,gv m hm,val0,val0] at heq;generalize hrk:(R1 l n a b s.pl b_ C0)[k]=rk at *;generalize hrm:(R1 l n a b s.pl b_ C0)[m]=rm at *;have g:=i0j K h.ok b_ C0;have V9:J7 n (gt ((R1 l n a b s.pl b_ C0).map (F4 a b s.pl s.fB s.fD C0)) (k:Int)):=a0O g.hop (by simpa using hk);have hopM:J7 n (gt ((R1 l n a b s.pl b_ C0).map (F4 a b s.pl s.fB s.fD C0)) (m:Int)):=a0O g.hop (by simpa using hm);have fk:((R1 l n a b s.pl b_ C0).map (G2 a b s.pl s.fB s.fD C0)).getD k 0=G2 a b s.pl s.fB s.fD C0 rk:=by simp [List.getD,hk,hrk]
 have fm:((R1 l n a b s.pl b_ C0).map (G2 a b s.pl s.fB s.fD C0)).getD m 0=G2 a b s.pl s.fB s.fD C0 rm:=by simp [List.getD,hm,hrm]
 show 0<H4 l _ _ _ k m;unfold H4;rw [if_neg hkm,fk,fm]
 by_cases hse:G2 a b s.pl s.fB s.fD C0 rk=G2 a b s.pl s.fB s.fD C0 rm
 ·rw [if_pos hse];exact D0t hw K.hR K.hn V9 hopM
 ·rw [if_neg hse];refine y0j ?_ V9.t0 V9.t1;rcases g0c (at_:=s.at_) h.ok hkr with ⟨h1,h2⟩ | ⟨h1,h1',h2⟩<;>rcases g0c (at_:=s.at_) h.ok hmr with ⟨h3,h4⟩ | ⟨h3,h3',h4⟩
  ·rw [h2,h4] at heq;have:=hs _ _ (by omega) (by omega) hse heq;unfold R3 a0T;cases C0 with
   |false=>exact this
   |true=>simp only [if_true];rw [if_pos ⟨h1,h3⟩];exact this
  ·rw [h2,h4,d0P] at heq;obtain ⟨j,j1,j2,_⟩:=hv.first _ (L9 (l:=s.vals) (i:=G2 a b s.pl s.fB s.fD C0 rk) (by omega))
   rw [j2,hat] at heq;omega
  ·rw [h2,h4,d0P] at heq;obtain ⟨j,j1,j2,_⟩:=hv.first _ (L9 (l:=s.vals) (i:=G2 a b s.pl s.fB s.fD C0 rm) (by omega))
   rw [j2,hat] at heq;omega
  ·exact absurd (by omega) hse
theorem l0E {vals:List (List Int)} {st:List Nat} (h:∀ i∈st,i<vals.length) {k:Nat} (hk:k<st.length):gt (st.map fun i:Nat=>gt vals (i:Int)) (k:Int)=gt vals (st.getD k 0:Int)/\st.getD k 0<vals.length:=by
 have e:st.getD k 0=st[k]:=by simp [List.getD,hk]
 rw [e];exact ⟨I3 (by simp [hk]),h _ (getElem_mem hk)⟩
theorem G0y {s:Cs} {i:Nat} (h:a0G l n s i) {may:Nat->Bool} (hv:Inv l may i s.vals s.fB s.fD) (hs:e0C s.vals s.fB) (from_:Int):Inv l may i (s.N1 from_).vals (s.N1 from_).fB (s.N1 from_).fD/\e0C (s.N1 from_).vals (s.N1 from_).fB:=by
 have hst:∀ i∈K2 s.vals from_ s.pl.length,i<s.vals.length:=fun i hi=>by rw [h.ok.len];exact l0o hi
 have hasc:=w0k s.vals from_ s.pl.length;have hkl:(s.N1 from_).vals.length=(K2 s.vals from_ s.pl.length).length:=by simp [Cs.N1]
 have hmem:∀ v∈(s.N1 from_).vals,v∈s.vals:=fun v hv=>(v0G h.ok.len v hv).1;have hat:∀ k,k<(s.N1 from_).vals.length->gt (s.N1 from_).vals (k:Int)=gt s.vals ((K2 s.vals from_ s.pl.length).getD k 0:Int)/\(K2 s.vals from_ s.pl.length).getD k 0<s.vals.length:=fun k hk=>l0E hst (by omega);refine ⟨⟨fun v hv'=>hv.first v (hmem v hv'),fun v hv'=>hv.rest v (hmem v hv'),fun k m hk hm hne=>?_⟩,fun k m hk hm hkm heq=>?_⟩
 ·obtain ⟨k1,k2⟩:=hat k hk;obtain ⟨m1,m2⟩:=hat m hm;rw [k1,m1] at hne ⊢;exact hv.ahead _ _ k2 m2 hne
 ·obtain ⟨k1,k2⟩:=hat k hk;obtain ⟨m1,m2⟩:=hat m hm;unfold Q2 at heq;rw [k1,m1] at heq;refine hs _ _ k2 m2 (fun e=>hkm ?_) heq;have hk':k<(K2 s.vals from_ s.pl.length).length:=by omega
  have hm':m<(K2 s.vals from_ s.pl.length).length:=by omega
  have e1:(K2 s.vals from_ s.pl.length)[k]=(K2 s.vals from_ s.pl.length)[m]:=by
   have a1:(K2 s.vals from_ s.pl.length).getD k 0=(K2 s.vals from_ s.pl.length)[k]:=by simp [List.getD,hk']
   have a2:(K2 s.vals from_ s.pl.length).getD m 0=(K2 s.vals from_ s.pl.length)[m]:=by simp [List.getD,hm']
   rw [<-a1,<-a2];exact e
  rcases Nat.lt_trichotomy k m with c | c | c
  ·have:=List.pairwise_iff_getElem.1 hasc k m hk' hm' c;omega
  ·exact c
  ·have:=List.pairwise_iff_getElem.1 hasc m k hm' hk' c;omega
theorem E0k {s:Cs} {i:Nat} (h:a0G l n s i) {may:Nat->Bool} (hv:Inv l may i s.vals s.fB s.fD) (hs:e0C s.vals s.fB) {q:Nat} (hq:q<s.pl.length):H8 s.fB s.fD q s.pl.length=K2 s.vals (Q2 s.vals q) s.pl.length:=by
 have hvl:=h.ok.len;unfold H8 K2;refine List.filter_congr fun x hx=>?_;have hx:x<s.pl.length:=List.mem_range.1 hx;unfold i0g
 by_cases e:x=q
 ·subst e;simp
 ·have e1:(x==q)=false:=by simpa using e
  rw [e1,Bool.false_or]
  by_cases hf:Q2 s.vals x=Q2 s.vals q
  ·have:=hs x q (by omega) (by omega) e hf;have h2:decide (s.fB x q>0)=true:=by simpa using this
   have h3:decide (gt (gt s.vals (x:Int)) 0<=Q2 s.vals q)=true:=by simp only [decide_eq_true_eq];exact Int.le_of_eq hf
   rw [h2,h3];rfl
  ·obtain ⟨p1,p2⟩:=hv.ahead x q (by omega) (by omega) hf;have hd:=h.ok.rk.dn x q hx hq;have h2:decide (s.fB x q>0)=false:=by rw [p1];rfl
   rw [h2,Bool.false_or];rw [Bool.eq_iff_iff];simp only [decide_eq_true_eq];constructor
   ·intro h4;have:=p2.1 (by omega);exact Int.le_of_lt this
   ·intro h4;have:Q2 s.vals x<Q2 s.vals q:=by
     have h5:Q2 s.vals x<=Q2 s.vals q:=h4;omega
    have:=p2.2 this;omega
end
section
variable {vals:List (List Int)} {fD:Nat->Nat->Int}
def p0x (vals:List (List Int)) (fD:Nat->Nat->Int):Prop:=∀ k m:Nat,k<vals.length->m<vals.length->Q2 vals k≠Q2 vals m->(0<fD k m↔Q2 vals k<Q2 vals m)
theorem t0p (hA:p0x vals fD):∀ (C:List Nat) (b:Nat),(∀ x∈C,x<vals.length)->b<vals.length->∃ q:Nat,C.foldl (D4 fD) (b:Int)=q/\q<vals.length/\Q2 vals q<=Q2 vals b/\∀ x∈C,Q2 vals q<=Q2 vals x
 |[],b,_,hb=>⟨b,rfl,hb,le_refl _,fun _ h=>by cases h⟩
 |
  x :: r,b,hC,hb=>by
  have hx:=hC x (by simp);have hstep:∃ b':Nat,D4 fD (b:Int) x=b'/\b'<vals.length/\Q2 vals b'<=Q2 vals b/\Q2 vals b'<=Q2 vals x:=by
   unfold D4;rw [if_neg (by omega),toNat_natCast]
   by_cases hd:0<fD x b
   ·rw [if_pos hd];refine ⟨x,rfl,hx,?_,le_refl _⟩
    by_cases hf:Q2 vals x=Q2 vals b
    ·omega
    ·have:=(hA x b hx hb hf).1 hd;omega
   ·rw [if_neg hd];refine ⟨b,rfl,hb,le_refl _,?_⟩
    by_cases hf:Q2 vals x=Q2 vals b
    ·omega
    ·have:¬ Q2 vals x<Q2 vals b:=fun h=>hd ((hA x b hx hb hf).2 h);omega
  obtain ⟨b',e1,h1,h2,h3⟩:=hstep;obtain ⟨q,e2,k1,k2,k3⟩:=t0p hA r b' (fun y hy=>hC y (List.mem_cons_of_mem _ hy)) h1;refine ⟨q,by rw [foldl_cons,e1];exact e2,k1,by omega,fun y hy=>?_⟩;rcases mem_cons.1 hy with rfl | hy
  ·omega
  ·exact k3 y hy
def a07 (vals:List (List Int)) (T:Int) (b:Int):Int:=if 0<=b/\Q2 vals b.toNat<=T then b else -1
theorem s0b (hA:p0x vals fD) (T:Int):∀ (C:List Nat) (b:Int),(∀ x∈C,x<vals.length/\T<=Q2 vals x)->(0<=b->b.toNat<vals.length/\T<=Q2 vals b.toNat)->
  a07 vals T (C.foldl (D4 fD) b)=(C.filter fun x=>decide (Q2 vals x<=T)).foldl (D4 fD) (a07 vals T b)
 |[],b,_,_=>rfl
 |
  x :: r,b,hC,hb=>by
  obtain ⟨hx,hxT⟩:=hC x (by simp);have hb':0<=D4 fD b x->(D4 fD b x).toNat<vals.length/\T<=Q2 vals (D4 fD b x).toNat:=fun h0=>by
   unfold D4 at h0 ⊢;split at h0
   ·rename_i hn;rw [if_pos hn,toNat_natCast];exact ⟨hx,hxT⟩
   ·rename_i hn;rw [if_neg hn];split at h0
    ·rename_i hd;rw [if_pos hd,toNat_natCast];exact ⟨hx,hxT⟩
    ·rename_i hd;rw [if_neg hd];exact hb (by omega)
  have ih:=s0b hA T r (D4 fD b x) (fun y hy=>hC y (List.mem_cons_of_mem _ hy)) hb';rw [foldl_cons,ih,List.filter_cons];have bNeg:∀ c:Int,c<0->D4 fD c x=x:=fun c h=>by unfold D4;rw [if_pos h]
  have bPos:∀ c:Int,0<=c->0<fD x c.toNat->D4 fD c x=x:=fun c h h2=>by unfold D4;rw [if_neg (by omega),if_pos h2]
  have bStay:∀ c:Int,0<=c->¬ 0<fD x c.toNat->D4 fD c x=c:=fun c h h2=>by unfold D4;rw [if_neg (by omega),if_neg h2]
  have rNeg:∀ c:Int,c<0->a07 vals T c=-1:=fun c h=>by unfold a07;rw [if_neg (by omega)]
  have rBig:∀ c:Int,T<Q2 vals c.toNat->a07 vals T c=-1:=fun c h=>by unfold a07;rw [if_neg (by omega)]
  have rIs:∀ c:Int,0<=c->Q2 vals c.toNat<=T->a07 vals T c=c:=fun c h h2=>by unfold a07;rw [if_pos ⟨h,h2⟩]
  have xT:(x:Int).toNat=x:=toNat_natCast x
  by_cases hP:Q2 vals x<=T
  ·rw [if_pos (by simpa using hP),foldl_cons];congr 1;have rx:a07 vals T (x:Int)=x:=rIs _ (by omega) (by rw [xT];exact hP)
   by_cases h0:b<0
   ·rw [bNeg b h0,rNeg b h0,rx,bNeg (-1) (by omega)]
   ·obtain ⟨b1,b2⟩:=hb (by omega)
    by_cases hf:Q2 vals x=Q2 vals b.toNat
    ·rw [rIs b (by omega) (by omega)]
     by_cases hd:0<fD x b.toNat
     ·rw [bPos b (by omega) hd,rx]
     ·rw [bStay b (by omega) hd,rIs b (by omega) (by omega)]
    ·have hd:0<fD x b.toNat:=(hA x _ hx b1 hf).2 (by omega);rw [bPos b (by omega) hd,rx,rBig b (by omega),bNeg (-1) (by omega)]
  ·rw [if_neg (by simpa using hP)];congr 1;have rx:a07 vals T (x:Int)=-1:=rBig _ (by rw [xT];omega)
   by_cases h0:b<0
   ·rw [bNeg b h0,rNeg b h0,rx]
   ·obtain ⟨b1,b2⟩:=hb (by omega)
    by_cases hd:0<fD x b.toNat
    ·rw [bPos b (by omega) hd,rx]
     by_cases hf:Q2 vals x=Q2 vals b.toNat
     ·rw [rBig b (by omega)]
     ·have:=(hA x _ hx b1 hf).1 hd;rw [rBig b (by omega)]
    ·rw [bStay b (by omega) hd]
theorem A0P (hA:p0x vals fD) {C:List Nat} (hC:∀ x∈C,x<vals.length) {q:Nat} (hq:R5 fD C=q):R5 fD (C.filter fun x=>decide (Q2 vals x<=Q2 vals q))=q:=by
 cases C with
 |nil=>simp [R5] at hq
 |
  cons x r=>
  have h1:R5 fD (x :: r)=r.foldl (D4 fD) (x:Int):=by
   unfold R5;rw [foldl_cons];rfl
  obtain ⟨q',e1,k1,k2,k3⟩:=t0p hA r x (fun y hy=>hC y (List.mem_cons_of_mem _ hy)) (hC x (by simp));rw [hq,e1] at h1;have e:q=q':=by omega
  subst e;have:=s0b hA (Q2 vals q) (x :: r) (-1) (fun y hy=>⟨hC y hy,by
   rcases mem_cons.1 hy with rfl | hy
   ·exact k2
   ·exact k3 y hy⟩) (fun h=>by omega)
  have e2:(x :: r).foldl (D4 fD) (-1)=(q:Int):=hq;rw [e2] at this;unfold a07 at this;rw [if_pos ⟨by omega,by rw [toNat_natCast];exact le_refl _⟩,if_neg (by omega)] at this;exact this.symm
end
theorem w0a (fD:Nat->Nat->Int) (st:List Nat):∀ (C:List Nat) (b:Int),(0<=b->True)->∀ b':Int,((b<0/\b'<0)\/(0<=b/\b'=(st.getD b.toNat 0:Nat)))->
  (C.foldl (D4 fun i j=>fD (st.getD i 0) (st.getD j 0)) b<0/\(C.map fun j=>st.getD j 0).foldl (D4 fD) b'<0)\/(0<=C.foldl (D4 fun i j=>fD (st.getD i 0) (st.getD j 0)) b/\(C.map fun j=>st.getD j 0).foldl (D4 fD) b'=(st.getD (C.foldl (D4 fun i j=>fD (st.getD i 0) (st.getD j 0)) b).toNat 0:Nat))
 |[],b,_,b',h=>h
 |
  x :: r,b,_,b',h=>by
  rw [List.map_cons,foldl_cons,foldl_cons];refine w0a fD st r _ (fun _=>trivial) _ ?_;rcases h with ⟨h1,h2⟩ | ⟨h1,h2⟩
  ·have e1:D4 (fun i j=>fD (st.getD i 0) (st.getD j 0)) b x=x:=by unfold D4;rw [if_pos h1]
   have e2:D4 fD b' (st.getD x 0)=(st.getD x 0:Nat):=by unfold D4;rw [if_pos h2]
   rw [e1,e2];exact .inr ⟨by omega,by rw [toNat_natCast]⟩
  ·have e1:D4 (fun i j=>fD (st.getD i 0) (st.getD j 0)) b x=if 0<fD (st.getD x 0) (st.getD b.toNat 0) then (x:Int) else b:=by unfold D4;rw [if_neg (by omega)]
   have e2:D4 fD b' (st.getD x 0)=if 0<fD (st.getD x 0) (st.getD b.toNat 0) then ((st.getD x 0:Nat):Int) else b':=by rw [h2];unfold D4;rw [if_neg (by omega),toNat_natCast]
   rw [e1,e2]
   by_cases hd:0<fD (st.getD x 0) (st.getD b.toNat 0)
   ·rw [if_pos hd,if_pos hd];exact .inr ⟨by omega,by rw [toNat_natCast]⟩
   ·rw [if_neg hd,if_neg hd];exact .inr ⟨h1,h2⟩
theorem A0D (e:Nat->B0×Bool) (pl st:List Nat) (hst:∀ i∈st,i<pl.length):(l5 e (st.map fun i=>pl.getD i 0) (st.map fun i=>pl.getD i 0).length).map (fun j=>st.getD j 0)=st.filter fun i=>(e (pl.getD i 0)).2:=by
 unfold l5;have h1:(List.range (st.map fun i=>pl.getD i 0).length).map (fun j=>st.getD j 0)=st:=by
  refine List.ext_getElem (by simp) fun j h1 h2=>?_;simp [List.getD,h2]
 rw [<-h1,List.filter_map,h1];congr 1;refine List.filter_congr fun j hj=>?_;have hj:j<st.length:=by simpa using hj
 simp [List.getD,hj]
theorem H0A (t:Old.Tm) (lo:Nat):t.steps lo≠[]:=by cases t<;>simp [Old.Tm.steps]
section
variable {F:Nat} {l:List D0} {n:Nat} {a:List B0} {b:Nat->List B0} {e:Nat->B0×Bool} {z:B0×Bool}
theorem y08 (K:Q4 l n a b e z F) (hw:∀ x∈l,C3 x):∃ can,X9 F l=some can/\y0 can (W ((l.length:Int)-1))=true/\gt can (W ((l.length:Int)-1))=z.2:=by
 have f1:=K.f1;obtain ⟨t,ht⟩:=Old.a0u hw K.hR;have h400:=ht.le;have hln:=ht.len;have hp:=t.size_pos;have hc:=Old.e0p K.hR;have hW:W ((l.length:Int)-1)=(t.top 0:Int):=by rw [Z2 (by omega) (by omega)];unfold Old.Tm.top;omega
 have htl:t.top 0<l.length:=by unfold Old.Tm.top;omega
 refine ⟨Old.i6 l,b7 q04 (Old.q0h hw (show 401<F by omega)),P0 (by rw [hW];omega) (by rw [hW,hc.len];omega),?_⟩;rw [hW,hc.top t 0 ht.at0];have h1:=K.TF.mZ;have h2:=b7 o09 (Old.t0q hw ht K.hR (show 1000001<F by omega)).1;rw [h1] at h2;have h3:=Option.some.inj h2;rw [h3];have hs:=H0A t 0;cases t.can
 ·rfl
 ·simp only [if_true,m0e];unfold D8;rw [if_neg (by simpa using hs)];simpa using hs
theorem B0D (K:Q4 l n a b e z F) (hw:∀ x∈l,C3 x):f0k F l 0=some (a8 (if z.2 then 2 else 1) [] [] (fun _ _=>0) (fun _ _=>0),0):=by
 obtain ⟨can,h1,h2,h3⟩:=y08 K hw;unfold f0k g0a;rw [K.TF.mR];simp only [E0,Bool.not_true,false_eq_true,if_false,beq_self_eq_true,if_true,show ((0:Int)==1)=false from rfl,h1,h2,h3];cases z.2<;>rfl
theorem x0T {pl:List Nat} (hp:∀ p∈pl,p<n) (ha:pl.Pairwise fun a b=>a<b) (hl:pl.length<=1000) (hf:2000<F):h0j F (O0 pl) (n:Int)=some true:=by
 unfold h0j;have:=V2 (step:=g0J F (O0 pl) (n:Int)) (fun i=>(if i=0 then -1 else ((pl.getD (i-1) 0:Nat):Int),(i:Int))) (.inr ()) pl.length (fun i hi=>.inl ?_) ?_ pl.length 0 F (by omega) (by omega)
 ·have h2:iter (g0J F (O0 pl) (n:Int)) F (-1,0)=some (.inr ()):=this;rw [h2];rfl
 ·unfold g0J;have h1:(i:Int)<((O0 pl).length:Int):=by simp;omega
  have hpi:=hp _ (getElem_mem hi);have h2:¬ ((pl[i]:Nat):Int)<=(if i=0 then -1 else ((pl.getD (i-1) 0:Nat):Int)):=by
   by_cases c:i=0
   ·rw [if_pos c];omega
   ·rw [if_neg c];have:=List.pairwise_iff_getElem.1 ha (i-1) i (by omega) hi (by omega);have e:pl.getD (i-1) 0=pl[i-1]:=by simp [List.getD,show i-1<pl.length by omega]
    rw [e];omega
  have h3:¬ ((pl[i]:Nat):Int)>=(n:Int):=by omega
  have h4:(if i+1=0 then (-1:Int) else ((pl.getD (i+1-1) 0:Nat):Int))=((pl[i]:Nat):Int):=by
   rw [if_neg (by omega),Nat.add_sub_cancel];simp [List.getD,hi]
  simp only [h1,decide_true,if_true,A6 hi,f07 hi,h2,h3,decide_false,false_eq_true,if_false,E0,E2 (i:=i) (by omega),h4]
 ·unfold g0J;have h1:¬ (pl.length:Int)<((O0 pl).length:Int):=by simp
  simp only [h1,decide_false,false_eq_true,if_false]
theorem q0x (K:Q4 l n a b e z F) {k:Kd} (C:U3 l n k.pl k.maps k.fB k.fD) (h0:0<=k.flag) (h2:k.flag<=2) (hnum:i0r F k.maps (T3 l)=some true):a0W F l k.K=some true:=by
 have f1:=K.f1;have hm:=C.le;have hn:=K.T.n64;have hvl:=C.len;have hll:=S6 l l.length;have hKn:=K.hn;unfold a0W Kd.K a8;have c1:¬ k.flag<0:=by omega
 have c2:¬ k.flag>2:=by omega
 have c3:((k.maps.length:Int) != (k.pl.length:Int))=false:=by simp [hvl]
 have c4:h0j F (O0 k.pl) ((Q1 l l.length).length:Int)=some true:=by
  have:=x0T (F:=F) (n:=n) C.pln C.asc (by omega) (by omega);rw [show ((Q1 l l.length).length:Int)=(n:Int) by omega];exact this
 simp only [K.TF.mR,E0,Bool.not_true,false_eq_true,if_false,c1,c2,decide_false,c3,K.TF.mL,c4,if_true,v0V K.hR (show 401<F by omega),hnum,d0T,u0X (show k.pl.length<=1000 by omega) (show 2000<F by omega) C.rk]
def Kd.step (l:List D0) (n:Nat) (a:List B0) (b:Nat->List B0) (k:Kd) (b_:Int):Kd:=
 ⟨if k.flag==1 then 1 else 0,R1 l n a b k.pl b_ (!(k.flag==0)),(R1 l n a b k.pl b_ (!(k.flag==0))).map (stM l a b k.pl k.maps k.fB k.fD (!(k.flag==0))),
  H4 l (R3 k.pl (!(k.flag==0)) k.fB) ((R1 l n a b k.pl b_ (!(k.flag==0))).map (G2 a b k.pl k.fB k.fD (!(k.flag==0)))) ((R1 l n a b k.pl b_ (!(k.flag==0))).map (F4 a b k.pl k.fB k.fD (!(k.flag==0)))),
  U4 l (R3 k.pl (!(k.flag==0)) k.fB) (C4 k.pl (!(k.flag==0)) k.fD) ((R1 l n a b k.pl b_ (!(k.flag==0))).map (G2 a b k.pl k.fB k.fD (!(k.flag==0)))) ((R1 l n a b k.pl b_ (!(k.flag==0))).map (F4 a b k.pl k.fB k.fD (!(k.flag==0))))⟩
def Kd.M7 (e:Nat->B0×Bool) (mode:Int) (k:Kd):Kd:=if mode==0 then k.cut e else k
def Kd.num (k:Kd):Kd:=⟨k.flag,k.pl,A5 k.maps,k.fB,k.fD⟩
theorem n0v (K:Q4 l n a b e z F) (hw:∀ x∈l,C3 x) {k:Kd} (C:U3 l n k.pl k.maps k.fB k.fD) (b_:Int):U3 l n (k.step l n a b b_).pl (k.step l n a b b_).maps (k.step l n a b b_).fB (k.step l n a b b_).fD:=by
 have h:=s0p (at_:=0) K C hw b_ (!(k.flag==0));refine ⟨by simp [Kd.step],h.pln,h.asc,fun v hv=>?_,h.rk⟩;obtain ⟨r,hr,rfl⟩:=mem_map.1 hv;unfold stM;rw [c0B];exact (l0u (v07 C _) (v0o C _) (by rw [<-a0B a b];exact c0m (b0P hr).2)).1
theorem m0I {k:Kd} (mode:Int) (C:U3 l n k.pl k.maps k.fB k.fD):U3 l n (k.M7 e mode).pl (k.M7 e mode).maps (k.M7 e mode).fB (k.M7 e mode).fD:=by
 unfold Kd.M7;split
 ·exact c0S C
 ·exact C
theorem k04 {k:Kd} (C:U3 l n k.pl k.maps k.fB k.fD):U3 l n k.num.pl k.num.maps k.num.fB k.num.fD:=by
 refine ⟨by simp [Kd.num,A5,C.len],C.pln,C.asc,fun v hv=>?_,C.rk⟩;unfold Kd.num A5 at hv;obtain ⟨r,hr,rfl⟩:=mem_map.1 hv;rw [List.length_map];exact C.row r hr
theorem x0g (K:Q4 l n a b e z F) {k:Kd} (C:U3 l n k.pl k.maps k.fB k.fD) (h0:0<=k.flag) (h2:k.flag<=2):a0W F l k.num.K=some true/\g0b F k.num.K=some ((G4 k.maps).length:Int):=by
 have f1:=K.f1;have hm:=C.le;have hn:=K.T.n64;have hvl:=C.len;have ht:=l8 l;have hk:=u03 (F:=F) (maps:=k.maps) (tags:=(T3 l).toNat) C.row (by omega) (by omega) (by omega) k.num.K;have e:(((T3 l).toNat:Nat):Int)=T3 l:=by omega
 rw [e] at hk;exact ⟨q0x K (k04 C) h0 h2 hk.1,hk.2⟩
theorem D0R (K:Q4 l n a b e z F) (hw:∀ x∈l,C3 x) {k:Kd} (C:U3 l n k.pl k.maps k.fB k.fD) (hR:a0W F l k.K=some true) {mode:Int} (hmode:mode=0\/mode=1) {b_:Int} (hb:C7 .u8 b_) :
  d0n F l mode k.K b_=some (((k.step l n a b b_).M7 e mode).num.K,G4 ((k.step l n a b b_).M7 e mode).maps):=by
 have f1:=K.f1;have hn:=K.T.n64;have ht:=l8 l;have C1:=n0v K hw C b_;have C2:=m0I (e:=e) mode C1;have hM:=l0t K C (!(k.flag==0));have hmr:g0a F mode=some true:=by
  unfold g0a;rcases hmode with rfl | rfl<;>rfl
 have hg:=E0c (flag:=k.flag) K C (C0:=!(k.flag==0)) (by simp);have hfl:(if k.flag==1 then some ((1,[],[],(⟨[],[]⟩:E1)):Int×List Int×List (List Int)×E1) else some (0,[],[],(⟨[],[]⟩:E1)))=some ((k.step l n a b b_).flag,[],[],(⟨[],[]⟩:E1)):=by
  unfold Kd.step;cases k.flag==1<;>rfl
 have hlp:=C0l K C hw hb (!(k.flag==0)) (k.step l n a b b_).flag (⟨[],[]⟩:E1);have hnx:=A0E (F:=F) hw K.hR K.hn (show 2000<F by omega) K.TF.mL (show o4 k.pl (!(k.flag==0))<=1000 by omega) (h07 C (!(k.flag==0))) (i0j K C b_ (!(k.flag==0)));have hT:(k.step l n a b b_).T=((k.step l n a b b_).flag,O0 (R1 l n a b k.pl b_ (!(k.flag==0))),(R1 l n a b k.pl b_ (!(k.flag==0))).map (stM l a b k.pl k.maps k.fB k.fD (!(k.flag==0))),O1 (R1 l n a b k.pl b_ (!(k.flag==0))).length (H4 l (R3 k.pl (!(k.flag==0)) k.fB) ((R1 l n a b k.pl b_ (!(k.flag==0))).map (G2 a b k.pl k.fB k.fD (!(k.flag==0)))) ((R1 l n a b k.pl b_ (!(k.flag==0))).map (F4 a b k.pl k.fB k.fD (!(k.flag==0))))) (U4 l (R3 k.pl (!(k.flag==0)) k.fB) (C4 k.pl (!(k.flag==0)) k.fD) ((R1 l n a b k.pl b_ (!(k.flag==0))).map (G2 a b k.pl k.fB k.fD (!(k.flag==0)))) ((R1 l n a b k.pl b_ (!(k.flag==0))).map (F4 a b k.pl k.fB k.fD (!(k.flag==0)))))):=rfl;have hcut:=I0k K C1;rw [hT] at hcut;have hkf:k.K.Flag=k.flag:=rfl;have hnum:∀ q:Kd,U3 l n q.pl q.maps q.fB q.fD->Option.bind (g0T F q.T) (fun x=>some (x.1,x.2))=some (q.num.K,G4 q.maps):=fun q Cq=>by
  unfold Kd.T;rw [H09 (F:=F) (fun r hr=>by have:=Cq.row r hr;omega) (by have:=Cq.len;have:=Cq.le;omega) (by omega)];rfl
 unfold d0n;rw [hmr,hR];simp only [E0,Bool.not_true,false_eq_true,if_false];rw [show g02 F l k.K=_ from hg];simp only [E0,hkf,hfl,K.TF.mL,hlp,hnx,List.length_map];rcases hmode with rfl | rfl
 ·simp only [beq_self_eq_true,if_true,hcut,E0];have h3:=hnum _ C2;unfold Kd.M7 at h3 ⊢;simp only [beq_self_eq_true,if_true] at h3 ⊢;exact h3
 ·simp only [show ((1:Int)==0)=false from rfl,false_eq_true,if_false,E0];have h3:=hnum _ C2;unfold Kd.M7 at h3 ⊢;simp only [show ((1:Int)==0)=false from rfl,false_eq_true,if_false] at h3 ⊢;exact h3
def a0v (l:List D0) (e:Nat->B0×Bool) (z:B0×Bool) (k:Kd):List Int:=
 if R5 k.fD (l5 e k.pl k.pl.length)<0 then (if z.2&&(k.flag==2&&k.pl.length==0) then a6 (-1) (-2) (N9 l) (j5 l z.1.Steps) else [])
 else a6 (-1) (-2) (gt k.maps (R5 k.fD (l5 e k.pl k.pl.length))) (j5 l (e (k.pl.getD (R5 k.fD (l5 e k.pl k.pl.length)).toNat 0)).1.Steps)
theorem t0l (K:Q4 l n a b e z F) {k:Kd} (C:U3 l n k.pl k.maps k.fB k.fD) (hR:a0W F l k.K=some true):e0k F l k.K=some (a0v l e z k):=by
 have f1:=K.f1;have hm:=C.le;have hn:=K.T.n64;have ht:=l8 l;unfold e0k a0v;rw [hR,show f0m F l k.K=_ from v0O (flag:=k.flag) K C];simp only [E0,Bool.not_true,false_eq_true,if_false];rcases d0g (fD:=k.fD) (l5 e k.pl k.pl.length) (n:=k.pl.length) (fun i h=>c0P h) with hb | ⟨q,hb,hq⟩
 ·rw [hb];have hol:=d0w l z.1.Steps;have hzl:=K.T.zl;have hpl:((k.K.Places.length:Int)==0)=(k.pl.length==0):=by rw [<-F01];simp [Kd.K,a8]
  have hfl:k.K.Flag=k.flag:=rfl;have h1:¬ (-1:Int)>=0:=by omega
  simp only [h1,decide_false,false_eq_true,if_false,K.TF.mZ,E0,show ((-1:Int)<0)=True from by simp,if_true,hpl,hfl,s0Y K,m0D K.hR (show z.1.Steps.length<=2000000 by omega) K.f1 (n3.sok K.T.zb),m07 (F:=F) (tags:=N9 l) (marks:=j5 l z.1.Steps) (now:=-1) (none_:=-2) (by rw [p0i];omega) (by omega)];cases z.2
  ·simp only [false_eq_true,if_false,E0,Bool.false_and]
  ·simp only [if_true,Bool.true_and];cases k.flag==2
   ·simp only [false_eq_true,if_false,E0,Bool.false_and]
   ·simp only [if_true,Bool.true_and,E0];cases k.pl.length==0<;>rfl
 ·have hp:=T6 C.pln hq;have hol:=d0w l (e (k.pl.getD q 0)).1.Steps;have hel:=K.T.el _ hp;have h1:(q:Int)>=0:=by omega
  have h2:¬ (q:Int)<0:=by omega
  have hin:y0 k.maps (q:Int)=true:=P0 (by omega) (by rw [C.len];omega);rw [hb];simp only [h1,h2,decide_true,if_true,if_false,Kd.K,a8,A6 hq,e7 hq,K.TF.mE _ hp,E0,hin,m0D K.hR (show (e (k.pl.getD q 0)).1.Steps.length<=2000000 by omega) K.f1 (n3.sok (K.T.eb _ hp)),toNat_natCast];rw [m07 (t04 C hq) (by omega)];rfl
end
def R7 (P:Int->Int->Prop) (E V:List Int):Prop:=E.length=V.length/\∀ m:Nat,m<E.length->P (gt E (m:Int)) (gt V (m:Int))
theorem v0I {o:List Int} {j:Nat} {x:Int} (h:j<o.length):gt (o.set j x) (j:Int)=x:=I3 (List.getElem?_set_self h)
theorem q0O {o:List Int} {j m:Nat} {x:Int} (h:¬ j=m):gt (o.set j x) (m:Int)=gt o (m:Int):=by
 unfold gt;rw [List.getD_eq_getElem?_getD,List.getD_eq_getElem?_getD,toNat_natCast,List.getElem?_set_ne h]
theorem h0w {P:Int->Int->Prop} {E V:List Int} (h:R7 P E V) {x y:Int} (hp:P x y) (j:Nat):R7 P (E.set j x) (V.set j y):=by
 refine ⟨by simp [h.1],fun m hm=>?_⟩;rw [List.length_set] at hm
 by_cases e:j=m
 ·subst e;rw [v0I hm,v0I (by rw [<-h.1];exact hm)];exact hp
 ·rw [q0O e,q0O e];exact h.2 m hm
theorem G0Q {P:Int->Int->Prop} {E V:List Int} (h:R7 P E V) {n1 n2 u1 u2:Int} (hn:P n1 n2) (hu:P u1 u2) (k:P2):R7 P (L4 n1 u1 E k) (L4 n2 u2 V k):=by
 unfold L4;rw [<-h.1];split
 ·exact h
 ·split
  ·exact h0w h hn _
  ·split
   ·exact h0w h hn _
   ·split
    ·exact h0w (h0w h hu _) hu _
    ·exact h
theorem l0P {P:Int->Int->Prop} {n1 n2 u1 u2:Int} (hn:P n1 n2) (hu:P u1 u2):∀ (marks:List P2) {E V:List Int},R7 P E V->R7 P (a6 n1 u1 E marks) (a6 n2 u2 V marks)
 |[],_,_,h=>h
 |k :: r,E,V,h=>l0P hn hu r (G0Q h hn hu k)
def a0t (regs:List Int) (now:Int) (e v:Int):Prop:=(e=-2/\v=-1)\/(e=-1/\v=now)\/(0<=e/\e<(regs.length:Int)/\v=gt regs e)
def e0X (regs:List Int) (e v:Int):Prop:=(e=-2/\v=-1)\/(0<=e/\e<(regs.length:Int)/\v=gt regs e)
theorem e0X.n {regs:List Int} {e v:Int} (h:e0X regs e v) (now:Int):a0t regs now e v:=by
 rcases h with h | h
 ·exact .inl h
 ·exact .inr (.inr h)
theorem R7.mono {P Q:Int->Int->Prop} (h:∀ e v,P e v->Q e v) {E V:List Int} (hr:R7 P E V):R7 Q E V:=⟨hr.1,fun m hm=>h _ _ (hr.2 m hm)⟩
theorem s0H (l:List D0) (regs:List Int) (now:Int):R7 (a0t regs now) (N9 l) (Z8 l now):=by
 unfold N9 Z8;refine h0w ⟨by simp,fun m hm=>?_⟩ (.inr (.inl ⟨rfl,rfl⟩)) 0;have hm:m<(T3 l).toNat:=by simpa using hm
 rw [I3 (x:=(-2:Int)) (by simp [hm]),I3 (x:=(-1:Int)) (by simp [hm])];exact .inl ⟨rfl,rfl⟩
theorem w0D {x:Int} (hx:x≠-2):∀ (r s:List Int),(x∈r\/x∈s)->x∈N3 s r
 |
  [],s,h=>by
  rcases h with h | h
  ·cases h
  ·exact h
 |
  v :: r,s,h=>by
  refine w0D hx r (V6 s v) ?_;rcases h with h | h
  ·rcases mem_cons.1 h with h | h
   ·subst h;refine .inr ?_;unfold V6
    by_cases hm:x∈s
    ·rw [if_pos (.inr hm)];exact hm
    ·rw [if_neg (by rintro (h | h);exact hx h;exact hm h)];simp
   ·exact .inl h
  ·exact .inr ((u0a s v).subset h)
def W8 (regs src:List Int) (now:Int):List Int:=src.map fun v=>if v=-1 then now else gt regs v
theorem v0x (regs src:List Int) (now:Int):(W8 regs src now).length=src.length:=by simp [W8]
theorem B05 {regs src:List Int} {now e v:Int} (h:a0t regs now e v) (hm:e≠-2->e∈src):e0X (W8 regs src now) (j4 src e) v:=by
 unfold j4
 by_cases h2:e=-2
 ·rw [if_pos h2];rcases h with ⟨_,h⟩ | ⟨h,_⟩ | ⟨h,_⟩
  ·exact .inl ⟨rfl,h⟩
  ·omega
  ·omega
 ·rw [if_neg h2];have hmem:=hm h2;have hlt:=List.idxOf_lt_length_of_mem hmem;refine .inr ⟨by omega,by rw [v0x];omega,?_⟩;have hg:gt (W8 regs src now) (src.idxOf e:Int)=if e=-1 then now else gt regs e:=by
   refine I3 ?_;unfold W8;rw [List.getElem?_map,List.getElem?_eq_getElem hlt,List.getElem_idxOf hlt];rfl
  rw [hg];rcases h with ⟨h,_⟩ | ⟨h,h3⟩ | ⟨h,_,h3⟩
  ·exact absurd h h2
  ·rw [if_pos h];exact h3
  ·rw [if_neg (by omega)];exact h3
section
variable {F:Nat}
theorem D0N {regs src:List Int} {now:Int} (h:∀ v∈src,v=-1\/(0<=v/\v<(regs.length:Int))) (hl:src.length<=1000000) (hf:2000001<F):j00 F regs src now=some (W8 regs src now,true):=by
 unfold j00;have:=V2 (step:=g0L F regs src now) (fun i=>(W8 regs (src.take i) now,(i:Int))) (.inr (W8 regs src now)) src.length (fun i hi=>.inl ?_) ?_ src.length 0 F (by omega) (by omega)
 ·have h2:iter (g0L F regs src now) F ([],0)=some (.inr (W8 regs src now)):=this;rw [h2];rfl
 ·have h1:(i:Int)<(src.length:Int):=by omega
  have hin:y0 src (i:Int)=true:=P0 (by omega) h1;have hv:=h _ (L9 hi);have ht:W8 regs (src.take (i+1)) now=W8 regs (src.take i) now++[if gt src (i:Int)=-1 then now else gt regs (gt src (i:Int))]:=by
   unfold W8;rw [List.take_succ,E4 hi];simp
  have hap:∀ x,I0 8 (W8 regs (src.take i) now) [x]=true:=fun x=>by have:=v0x regs (src.take i) now;simp [I0];rw [this];simp;omega
  unfold g0L;rw [ht];simp only [h1,decide_true,if_true,hin,hap,E2 (i:=i) (by omega)];rcases hv with hv | ⟨h3,h4⟩
  ·rw [hv];rfl
  ·have b1:(gt src (i:Int)==-1)=false:=by rw [beq_eq_false_iff_ne];omega
   have b2:¬ gt src (i:Int)<0:=by omega
   have b3:¬ gt src (i:Int)>=(regs.length:Int):=by omega
   have b4:¬ gt src (i:Int)=-1:=by omega
   have b5:y0 regs (gt src (i:Int))=true:=P0 h3 h4;simp only [b1,b2,b3,b4,b5,decide_false,false_eq_true,if_false,if_true,E0]
 ·have h1:¬ (src.length:Int)<(src.length:Int):=by omega
  unfold g0L;simp only [h1,decide_false,false_eq_true,if_false,List.take_length]
theorem w00 {V:List Int} {i:Nat} (h:i<V.length):V.take (i+1)=V.take i++[gt V (i:Int)]:=by rw [List.take_succ,E4 h];rfl
theorem t0Q {regs row V:List Int} {now:Int} (h:R7 (a0t regs now) row V) (hl:row.length<=1000) (hf:2000<F):e0H F regs row now=some (V,true):=by
 have hl2:=h.1;unfold e0H;have:=V2 (step:=i0m F regs row now) (fun i=>(V.take i,(i:Int))) (.inr V) row.length (fun i hi=>.inl ?_) ?_ row.length 0 F (by omega) (by omega)
 ·have h2:iter (i0m F regs row now) F ([],0)=some (.inr V):=this;rw [h2];rfl
 ·have h1:(i:Int)<(row.length:Int):=by omega
  have hin:y0 row (i:Int)=true:=P0 (by omega) h1;have hap:∀ x,I0 8 (V.take i) [x]=true:=fun x=>by simp [I0];omega
  unfold i0m;rw [w00 (by omega)];simp only [h1,decide_true,if_true,hin,hap,E2 (i:=i) (by omega)];rcases h.2 i hi with ⟨h3,h4⟩ | ⟨h3,h4⟩ | ⟨h3,h4,h5⟩
  ·rw [h3,h4];rfl
  ·rw [h3,h4];rfl
  ·have b0:(gt row (i:Int)==-2)=false:=by rw [beq_eq_false_iff_ne];omega
   have b1:(gt row (i:Int)==-1)=false:=by rw [beq_eq_false_iff_ne];omega
   have b2:¬ gt row (i:Int)<0:=by omega
   have b3:¬ gt row (i:Int)>=(regs.length:Int):=by omega
   have b5:y0 regs (gt row (i:Int))=true:=P0 h3 h4;simp only [b0,b1,b2,b3,b5,decide_false,false_eq_true,if_false,if_true,E0,h5]
 ·have h1:¬ (row.length:Int)<(row.length:Int):=by omega
  unfold i0m;simp only [h1,decide_false,false_eq_true,if_false];rw [List.take_of_length_le (by omega)]
end
