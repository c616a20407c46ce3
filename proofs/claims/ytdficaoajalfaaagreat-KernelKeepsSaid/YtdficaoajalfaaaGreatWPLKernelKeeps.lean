/- Behind any byte of any kernel there is a kernel: of the models. Its conditions: none. -/
import Derived.Test.YtdficaoajalfaaaGreatWG46
import Derived.Test.YtdficaoajalfaaaGreatWDKernelKeeps
open Bool (false_eq_true)
set_option linter.all false
namespace Go.Proofs.YtdficaoajalfaaaGreat
open Go.V Go.RowKit Old Go.X
section
variable {F:Nat}
theorem b0S {α:Type} [Inhabited α] {v:List α} {y:α} (hy:y∈v):∃ m:Nat,m<v.length/\gt v (m:Int)=y:=by
 obtain ⟨m,hm⟩:=List.getElem?_of_mem hy;exact ⟨m,(List.getElem?_eq_some_iff.1 hm).1,I3 hm⟩
theorem I0W {k:N4} {i:Nat} (hi:i<k.Maps.length) (hl:(gt k.Maps (i:Int)).length<=40) (hf:2000<F):∃ r,iter (f0N F k (i:Int)) F 0=some r/\(r=.inr ()->∀ y∈gt k.Maps (i:Int),y<=1000000):=by
 have hin:y0 k.Maps (i:Int)=true:=P0 (by omega) (by omega);have hp:=a0i (step:=f0N F k (i:Int)) (fun t s=>s=(t:Int)/\∀ m:Nat,m<t->gt (gt k.Maps (i:Int)) (m:Int)<=1000000) (fun r=>r=.inr ()->∀ m:Nat,m<(gt k.Maps (i:Int)).length->gt (gt k.Maps (i:Int)) (m:Int)<=1000000) (n:=(gt k.Maps (i:Int)).length) (fun t s ht hI=>?_) (fun s hI=>?_) (gt k.Maps (i:Int)).length 0 0 F (by omega) ⟨rfl,fun m hm=>by omega⟩ (by omega)
 ·obtain ⟨r,h1,h2⟩:=hp;refine ⟨r,h1,fun hr y hy=>?_⟩;obtain ⟨m,m1,m2⟩:=b0S hy;rw [<-m2];exact h2 hr m m1
 ·obtain ⟨rfl,hI⟩:=hI;have c1:(t:Int)<((gt k.Maps (i:Int)).length:Int):=by omega
  have hin2:y0 (gt k.Maps (i:Int)) (t:Int)=true:=P0 (by omega) c1;unfold f0N;simp only [hin,c1,decide_true,if_true,hin2,E2 (i:=t) (by omega)]
  by_cases c2:gt (gt k.Maps (i:Int)) (t:Int)>1000000
  ·simp only [c2,decide_true,if_true];exact .inr ⟨_,rfl,fun h=>by cases h⟩
  ·simp only [c2,decide_false,false_eq_true,if_false];refine .inl ⟨_,rfl,rfl,fun m hm=>?_⟩
   by_cases e:m=t
   ·subst e;omega
   ·exact hI m (by omega)
 ·obtain ⟨rfl,hI⟩:=hI;have c1:¬ ((gt k.Maps (i:Int)).length:Int)<((gt k.Maps (i:Int)).length:Int):=by omega
  unfold f0N;simp only [hin,c1,decide_false,false_eq_true,if_false,if_true];exact ⟨_,rfl,fun _=>hI⟩
structure SmallK (k:N4):Prop where
 p:k.Places.length<=40
 m:k.Maps.length<=40
 b:k.Rank.B.length<=40
 d:k.Rank.D.length<=40
 r:∀ v∈k.Maps,v.length<=40
 e:∀ v∈k.Maps,∀ y∈v,y<=1000000
theorem J0t (k:N4) (hf:2000<F):∃ r,j0t F k=some r/\(r=true->SmallK k):=by
 unfold j0t
 by_cases c1:k.Places.length<=40
 ·have d1:¬ (k.Places.length:Int)>40:=by omega
  by_cases c2:k.Maps.length<=40
  ·have d2:¬ (k.Maps.length:Int)>40:=by omega
   by_cases c3:k.Rank.B.length<=40
   ·have d3:¬ (k.Rank.B.length:Int)>40:=by omega
    by_cases c4:k.Rank.D.length<=40
    ·have d4:¬ (k.Rank.D.length:Int)>40:=by omega
     simp only [d1,d2,d3,d4,decide_false,false_eq_true,if_false,E0];have hp:=a0i (step:=j0c F k) (fun i s=>s=(i:Int)/\∀ m:Nat,m<i->(gt k.Maps (m:Int)).length<=40/\∀ y∈gt k.Maps (m:Int),y<=1000000) (fun r=>r=.inr ()->∀ m:Nat,m<k.Maps.length->(gt k.Maps (m:Int)).length<=40/\∀ y∈gt k.Maps (m:Int),y<=1000000) (n:=k.Maps.length) (fun i s hi hI=>?_) (fun s hI=>?_) k.Maps.length 0 0 F (by omega) ⟨rfl,fun m hm=>by omega⟩ (by omega)
     ·obtain ⟨r,h1,h2⟩:=hp;rw [h1];rcases r with r | r
      ·exact ⟨false,rfl,fun h=>by cases h⟩
      ·have h3:=h2 rfl;refine ⟨true,rfl,fun _=>⟨c1,c2,c3,c4,fun v hv=>?_,fun v hv=>?_⟩⟩
       ·obtain ⟨m,m1,m2⟩:=b0S hv;rw [<-m2];exact (h3 m m1).1
       ·obtain ⟨m,m1,m2⟩:=b0S hv;rw [<-m2];exact (h3 m m1).2
     ·obtain ⟨rfl,hI⟩:=hI;have e1:(i:Int)<(k.Maps.length:Int):=by omega
      have hin:y0 k.Maps (i:Int)=true:=P0 (by omega) e1;unfold j0c;simp only [e1,decide_true,if_true,hin,E2 (i:=i) (by omega)]
      by_cases e2:(gt k.Maps (i:Int)).length<=40
      ·have e3:¬ ((gt k.Maps (i:Int)).length:Int)>40:=by omega
       obtain ⟨r,g1,g2⟩:=I0W (F:=F) hi e2 hf;simp only [e3,decide_false,false_eq_true,if_false,g1,E0];rcases r with r | r
       ·exact .inr ⟨_,rfl,fun h=>by cases h⟩
       ·refine .inl ⟨_,rfl,rfl,fun m hm=>?_⟩
        by_cases e:m=i
        ·subst e;exact ⟨e2,g2 rfl⟩
        ·exact hI m (by omega)
      ·have e3:((gt k.Maps (i:Int)).length:Int)>40:=by omega
       simp only [e3,decide_true,if_true];exact .inr ⟨_,rfl,fun h=>by cases h⟩
     ·obtain ⟨rfl,hI⟩:=hI;have e1:¬ (k.Maps.length:Int)<(k.Maps.length:Int):=by omega
      unfold j0c;simp only [e1,decide_false,false_eq_true,if_false];exact ⟨_,rfl,fun _=>hI⟩
    ·have d4:(k.Rank.D.length:Int)>40:=by omega
     simp only [d1,d2,d3,d4,decide_false,decide_true,false_eq_true,if_false,E0,if_true];exact ⟨_,rfl,fun h=>by cases h⟩
   ·have d3:(k.Rank.B.length:Int)>40:=by omega
    simp only [d1,d2,d3,decide_false,decide_true,false_eq_true,if_false,E0,if_true];exact ⟨_,rfl,fun h=>by cases h⟩
  ·have d2:(k.Maps.length:Int)>40:=by omega
   simp only [d1,d2,decide_false,decide_true,false_eq_true,if_false,E0,if_true];exact ⟨_,rfl,fun h=>by cases h⟩
 ·have d1:(k.Places.length:Int)>40:=by omega
  simp only [d1,decide_true,E0,if_true];exact ⟨_,rfl,fun h=>by cases h⟩
theorem J0l (k:N4) (hm:k.Maps.length<=1000) (hr:∀ v∈k.Maps,v.length<=1000) (he:∀ v∈k.Maps,∀ y∈v,(y=-2\/0<=y)/\y<=1000000) (hf:2000<F):∃ R:Int,g0b F k=some R/\∀ v∈k.Maps,∀ y∈v,y<R:=by
 unfold g0b;have hp:=a0i (step:=g0C F k) (fun i s=>s.2=(i:Int)/\0<=s.1/\∀ m:Nat,m<i->∀ y∈gt k.Maps (m:Int),y<s.1) (fun R=>∀ m:Nat,m<k.Maps.length->∀ y∈gt k.Maps (m:Int),y<R) (n:=k.Maps.length) (fun i s hi hI=>?_) (fun s hI=>?_) k.Maps.length 0 (0,0) F (by omega) ⟨rfl,Int.le_refl _,fun m hm=>by omega⟩ (by omega)
 ·obtain ⟨R,h1,h2⟩:=hp;rw [h1];refine ⟨R,rfl,fun v hv=>?_⟩;obtain ⟨m,m1,m2⟩:=b0S hv;rw [<-m2];exact h2 m m1
 ·obtain ⟨s1,s2⟩:=s;obtain ⟨h0,h01,hI⟩:=hI;simp only at h0 h01 hI;subst h0;have e1:(i:Int)<(k.Maps.length:Int):=by omega
  have hin:y0 k.Maps (i:Int)=true:=P0 (by omega) e1;have hmem:=L9 (l:=k.Maps) (i:=i) hi;have hrl:=hr _ hmem;have hel:=he _ hmem;have hq:=a0i (step:=g04 F k (i:Int)) (fun t s=>s.2=(t:Int)/\s1<=s.1/\∀ m:Nat,m<t->gt (gt k.Maps (i:Int)) (m:Int)<s.1) (fun R=>s1<=R/\∀ m:Nat,m<(gt k.Maps (i:Int)).length->gt (gt k.Maps (i:Int)) (m:Int)<R) (n:=(gt k.Maps (i:Int)).length) (fun t s ht hI=>?_) (fun s hI=>?_) (gt k.Maps (i:Int)).length 0 (s1,0) F (by omega) ⟨rfl,Int.le_refl _,fun m hm=>by omega⟩ (by omega)
  ·obtain ⟨R,g1,g2,g3⟩:=hq;refine .inl ⟨(R,((i+1:Nat):Int)),?_,rfl,by simp only;omega,fun m hm=>?_⟩
   ·unfold g0C;simp only [e1,decide_true,if_true,hin,g1,E0,E2 (i:=i) (by omega)]
   ·by_cases e:m=i
    ·subst e;intro y hy;obtain ⟨j,j1,j2⟩:=b0S hy;rw [<-j2];exact g3 j j1
    ·intro y hy;have:=hI m (by omega) y hy;simp only;omega
  ·obtain ⟨t1,t2⟩:=s;obtain ⟨k0,k1,k2⟩:=hI;simp only at k0 k1 k2;subst k0;have c1:(t:Int)<((gt k.Maps (i:Int)).length:Int):=by omega
   have hin2:y0 (gt k.Maps (i:Int)) (t:Int)=true:=P0 (by omega) c1;obtain ⟨y1,y2⟩:=hel _ (L9 ht);have hW:W (gt (gt k.Maps (i:Int)) (t:Int)+1)=gt (gt k.Maps (i:Int)) (t:Int)+1:=Z2 (by omega) (by omega);refine .inl ⟨(if gt (gt k.Maps (i:Int)) (t:Int)+1>t1 then gt (gt k.Maps (i:Int)) (t:Int)+1 else t1,((t+1:Nat):Int)),?_,rfl,by simp only;split<;>omega,fun m hm=>?_⟩
   ·unfold g04;simp only [c1,decide_true,if_true,hin2,hW,E2 (i:=t) (by omega)]
   ·simp only
    by_cases e:m=t
    ·subst e;split<;>omega
    ·have:=k2 m (by omega);split<;>omega
  ·obtain ⟨t1,t2⟩:=s;obtain ⟨k0,k1,k2⟩:=hI;simp only at k0 k1 k2;subst k0;have c1:¬ ((gt k.Maps (i:Int)).length:Int)<((gt k.Maps (i:Int)).length:Int):=by omega
   unfold g04;simp only [c1,decide_false,false_eq_true,if_false];exact ⟨_,rfl,k1,k2⟩
 ·obtain ⟨s1,s2⟩:=s;obtain ⟨h0,h01,hI⟩:=hI;simp only at h0 h01 hI;subst h0;have e1:¬ (k.Maps.length:Int)<(k.Maps.length:Int):=by omega
  unfold g0C;simp only [e1,decide_false,false_eq_true,if_false];exact ⟨_,rfl,hI⟩
end
section
variable {F:Nat} {l:List D0} {n:Nat} {a:List B0} {b:Nat->List B0} {e:Nat->B0×Bool} {z:B0×Bool}
theorem J0e (K:Q4 l n a b e z F) {k:N4} (hs:SmallK k):∃ r,a0W F l k=some r/\(r=true->∃ kd:Kd,k=kd.K/\U3 l n kd.pl kd.maps kd.fB kd.fD/\0<=kd.flag/\kd.flag<=2/\∀ v∈kd.maps,∀ y∈v,y=-2\/0<=y):=by
 have f1:=K.f1;have hll:=S6 l l.length;have hKn:=K.hn;have ht:=l8 l;have p1:=hs.p;have p2:=hs.m;have p3:=hs.b;have p4:=hs.d;unfold a0W;simp only [K.TF.mR,E0,Bool.not_true,false_eq_true,if_false]
 by_cases c1:k.Flag<0
 ·simp only [c1,decide_true,if_true,E0];exact ⟨_,rfl,fun h=>by cases h⟩
 by_cases c2:k.Flag>2
 ·simp only [c1,c2,decide_true,decide_false,false_eq_true,if_false,if_true,E0];exact ⟨_,rfl,fun h=>by cases h⟩
 cases c3:((k.Maps.length:Int) != (k.Places.length:Int)) with
 |true=>simp only [c1,c2,decide_false,false_eq_true,if_false,if_true,E0];exact ⟨_,rfl,fun h=>by cases h⟩
 |
  false=>
  have hmp:k.Maps.length=k.Places.length:=by
   have:(k.Maps.length:Int)=(k.Places.length:Int):=by simpa using c3
   omega
  obtain ⟨r1,g1,g2⟩:=J0i (F:=F) (places:=k.Places) (many:=((Q1 l l.length).length:Int)) (by omega) (by omega);simp only [c1,c2,decide_false,false_eq_true,if_false,E0,K.TF.mL,g1];cases r1 with
  |false=>simp only [false_eq_true,if_false,E0];exact ⟨_,rfl,fun h=>by cases h⟩
  |
   true=>
   obtain ⟨r2,g3,g4⟩:=E0P (F:=F) (maps:=k.Maps) (tags:=T3 l) (by omega) (fun v hv=>by have:=hs.r v hv;omega) (by omega);simp only [if_true,v0V K.hR (show 401<F by omega),E0,g3];cases r2 with
   |false=>simp only [false_eq_true,if_false,E0];exact ⟨_,rfl,fun h=>by cases h⟩
   |
    true=>
    obtain ⟨r3,g5,g6⟩:=I02 (F:=F) (x:=k.Rank) (n:=k.Places.length) (by omega) (by omega) (by omega) (by omega);simp only [if_true,g5,E0];refine ⟨r3,rfl,fun hr=>?_⟩;obtain ⟨fB,fD,hrk,hok⟩:=g6 hr;have hpl:=g2 rfl;have hnat:∀ i:Nat,i<k.Places.length->0<=gt k.Places (i:Int)/\gt k.Places (i:Int)<(n:Int):=fun i=>by
     induction i with
     |
      zero=>
      intro hi;have:=hpl 0 hi;rw [if_pos rfl] at this;exact ⟨by omega,by omega⟩
     |
      succ i ih=>
      intro hi;have h1:=ih (by omega);have:=hpl (i+1) hi;rw [if_neg (by omega),Nat.add_sub_cancel] at this;exact ⟨by omega,by omega⟩
    have hplaces:k.Places=O0 (k.Places.map Int.toNat):=by
     refine List.ext_getElem (by simp) fun i i1 i2=>?_;have h1:=(hnat i i1).1;have e1:gt k.Places (i:Int)=k.Places[i]:=I3 (List.getElem?_eq_getElem i1);rw [e1] at h1;simp only [O0,List.getElem_map];omega
    have hmono:∀ d i:Nat,i+d+1<k.Places.length->gt k.Places (i:Int)<gt k.Places ((i+d+1:Nat):Int):=fun d=>by
     induction d with
     |
      zero=>
      intro i hi;have:=hpl (i+1) (by omega);rw [if_neg (by omega),Nat.add_sub_cancel] at this;exact this.1
     |
      succ d ih=>
      intro i hi;have h1:=ih i (by omega);have:=hpl (i+d+1+1) (by omega);rw [if_neg (by omega),Nat.add_sub_cancel] at this;have e2:i+(d+1)+1=i+d+1+1:=by omega
      rw [e2];omega
    have hnum:=g4 rfl;refine ⟨⟨k.Flag,k.Places.map Int.toNat,k.Maps,fB,fD⟩,?_,⟨?_,?_,?_,?_,?_⟩,by show 0<=k.Flag;omega,by show k.Flag<=2;omega,fun v hv=>(hnum v hv).2⟩
    ·unfold Kd.K a8;simp only [List.length_map];rw [<-hplaces,<-hrk]
    ·show k.Maps.length=(k.Places.map Int.toNat).length;simp [hmp]
    ·intro p hp;obtain ⟨x,hx,rfl⟩:=List.mem_map.1 hp;obtain ⟨m,m1,m2⟩:=b0S hx;have:=hnat m m1;rw [m2] at this;omega
    ·show (k.Places.map Int.toNat).Pairwise fun a b=>a<b;rw [List.pairwise_iff_getElem];intro i j i1 j1 hij;simp only [List.length_map] at i1 j1;simp only [List.getElem_map];have h1:=hmono (j-i-1) i (by omega);rw [show i+(j-i-1)+1=j by omega] at h1;have h2:=hnat i i1;have e1:gt k.Places (i:Int)=k.Places[i]:=I3 (List.getElem?_eq_getElem i1);have e2:gt k.Places (j:Int)=k.Places[j]:=I3 (List.getElem?_eq_getElem j1);rw [e1] at h1 h2;rw [e2] at h1;omega
    ·intro v hv;have:=(hnum v hv).1;omega
    ·show e8 (k.Places.map Int.toNat).length fB fD;rw [List.length_map];exact hok
theorem I04 {k:N4} {i:Int} (h:y0 k.Maps i=true):o0S F k i=h0K F k.Maps i:=by
 funext d;obtain ⟨d1,d2⟩:=d;unfold o0S h0K;simp only [h,if_true]
theorem J0m (K:Q4 l n a b e z F) {k:Kd} (C:U3 l n k.pl k.maps k.fB k.fD) (h0:0<=k.flag) (h2:k.flag<=2):∃ r,i0H F l k.K=some r:=by
 have f1:=K.f1;have hm:=C.le;have hn:=K.T.n64;have hvl:=C.len;have ht:=l8 l;have hll:=S6 l l.length;unfold i0H;have c1:¬ k.K.Flag<0:=by show ¬ k.flag<0;omega
 have c2:¬ k.K.Flag>2:=by show ¬ k.flag>2;omega
 have c3:((k.K.Maps.length:Int) != (k.K.Places.length:Int))=false:=by
  show ((k.maps.length:Int) != ((O0 k.pl).length:Int))=false;simp [hvl]
 have c4:e0q F k.K.Rank (k.K.Places.length:Int)=some true:=by
  show e0q F (O1 k.pl.length k.fB k.fD) ((O0 k.pl).length:Int)=some true;rw [d0T];exact e0V (by omega) (by omega) C.rk
 simp only [K.TF.rR,E0,Bool.not_true,false_eq_true,if_false,c1,c2,decide_false,c3,c4];have hp:=a0i (step:=g0X F l k.K) (fun i s=>s.2=(i:Int)) (fun _=>True) (n:=k.pl.length) (fun i s hi hI=>?_) (fun s hI=>?_) k.pl.length 0 (0,0) F (by omega) rfl (by omega)
 ·obtain ⟨r,g1,_⟩:=hp;rw [g1];rcases r with r | r
  ·exact ⟨_,rfl⟩
  ·exact ⟨_,rfl⟩
 ·obtain ⟨s1,s2⟩:=s;simp only at hI;subst hI;have e1:(i:Int)<(k.K.Places.length:Int):=by show (i:Int)<((O0 k.pl).length:Int);simp;omega
  have hinp:y0 k.K.Places (i:Int)=true:=A6 hi;have hinm:y0 k.K.Maps (i:Int)=true:=P0 (by omega) (by show (i:Int)<(k.maps.length:Int);omega);have hpn:=C.pln _ (List.getElem_mem hi);have hgp:gt k.K.Places (i:Int)=((k.pl[i]:Nat):Int):=f07 hi;have hKn:=K.hn;have e2:¬ gt k.K.Places (i:Int)<0:=by rw [hgp];omega
  have e3:¬ gt k.K.Places (i:Int)>=((Q1 l l.length).length:Int):=by rw [hgp];omega
  have e4:(if decide ((i:Int)>0) then if y0 k.K.Places (W ((i:Int)-1)) then some (decide ((gt k.K.Places (i:Int))<=(gt k.K.Places (W ((i:Int)-1))))) else none else some false)=some false:=by
   by_cases c:i=0
   ·subst c;rfl
   ·have c1:(i:Int)>0:=by omega
    have hW:W ((i:Int)-1)=((i-1:Nat):Int):=by rw [Z2 (by omega) (by omega)];omega
    have hin2:y0 k.K.Places ((i-1:Nat):Int)=true:=A6 (by omega);have hgp2:gt k.K.Places ((i-1:Nat):Int)=((k.pl[i-1]:Nat):Int):=f07 (by omega);have hlt:=List.pairwise_iff_getElem.1 C.asc (i-1) i (by omega) hi (by omega);have c2:¬ gt k.K.Places (i:Int)<=gt k.K.Places ((i-1:Nat):Int):=by rw [hgp,hgp2];omega
    simp only [c1,decide_true,if_true,hW,hin2,c2,decide_false]
  have hrow:=C.row _ (L9 (l:=k.maps) (i:=i) (by omega));have e5:(((gt k.K.Maps (i:Int)).length:Int) != T3 l)=false:=by
   show (((gt k.maps (i:Int)).length:Int) != T3 l)=false;rw [hrow];simp;omega
  obtain ⟨r,g1,_⟩:=x0n (F:=F) (maps:=k.K.Maps) (x:=i) (by show (gt k.maps (i:Int)).length<=1000;omega) (by omega) s1;unfold g0X;simp only [e1,decide_true,if_true,hinp,e2,decide_false,false_eq_true,if_false,K.TF.rL,E0,e3,e4,hinm,t0W K.hR K.hl (show 401<F by omega) K.f2,e5,I04 hinm,g1,E2 (i:=i) (by omega)];rcases r with r | r
  ·exact .inr ⟨_,rfl,trivial⟩
  ·exact .inl ⟨_,rfl,rfl⟩
 ·obtain ⟨s1,s2⟩:=s;simp only at hI;subst hI;have e1:¬ (k.pl.length:Int)<(k.K.Places.length:Int):=by show ¬ (k.pl.length:Int)<((O0 k.pl).length:Int);simp
  unfold g0X;simp only [e1,decide_false,false_eq_true,if_false];exact ⟨_,rfl,trivial⟩
end
theorem J0b {x:g0m} (h:I1 en 20 (.st 13) x):C7 .u8 x.B:=by
 obtain ⟨h1,h2,_⟩:=h;exact h2
section
variable {F:Nat} {l:List D0} {n:Nat} {a:List B0} {b:Nat->List B0} {e:Nat->B0×Bool} {z:B0×Bool}
theorem D06 (K:Q4 l n a b e z F) (hw:∀ x∈l,C3 x) {k:Kd} (C:U3 l n k.pl k.maps k.fB k.fD) {R:Int} (he:∀ v∈k.maps,∀ y∈v,y=-2\/0<=y) (hR:∀ v∈k.maps,∀ y∈v,y<R) (b_:Int) (mode:Int):∀ v∈G4 ((k.step l n a b b_).M7 e mode).maps,v=-1\/(0<=v/\v<R):=by
 have hvl:=C.len;have base:∀ s,s<o4 k.pl (!(k.flag==0))->∀ y∈gt (a0N l k.maps (!(k.flag==0))) (s:Int),y=-2\/y=-1\/(0<=y/\y<R):=by
  intro s hs y hy;unfold a0N at hy;unfold o4 at hs
  by_cases c:s<k.pl.length
  ·rw [a0R (by omega) (by omega)] at hy;have hm:=L9 (l:=k.maps) (i:=s) (by omega);rcases he _ hm y hy with h | h
   ·exact .inl h
   ·exact .inr (.inr ⟨h,hR _ hm y hy⟩)
  ·cases hbeg:(!(k.flag==0)) with
   |false=>rw [hbeg] at hs;simp at hs;omega
   |
    true=>
    rw [hbeg] at hs hy;simp only [if_true] at hs hy;have e:s=k.pl.length:=by omega
    subst e;rw [c0I hvl.symm] at hy;unfold N9 at hy;rcases List.mem_or_eq_of_mem_set hy with h | h
    ·exact .inl (List.eq_of_mem_replicate h)
    ·exact .inr (.inl h)
 have M0:∀ v∈(k.step l n a b b_).maps,∀ y∈v,y=-2\/y=-1\/(0<=y/\y<R):=by
  intro v hv y hy;obtain ⟨r,hr,rfl⟩:=List.mem_map.1 hv;obtain ⟨m,m1,m2⟩:=b0S hy;have hs:G2 a b k.pl k.fB k.fD (!(k.flag==0)) r<o4 k.pl (!(k.flag==0)):=by rw [<-a0B a b];exact c0m (b0P hr).2
  unfold stM at m1 m2;rw [c0B] at m1;rcases t0T (-1) (-2) m (j5 l (F4 a b k.pl k.fB k.fD (!(k.flag==0)) r).Steps) (gt (a0N l k.maps (!(k.flag==0))) (G2 a b k.pl k.fB k.fD (!(k.flag==0)) r:Int)) with h | h | h
  ·rw [h] at m2;rw [<-m2];exact base _ hs _ (L9 m1)
  ·rw [h] at m2;exact .inr (.inl m2.symm)
  ·rw [h] at m2;exact .inl m2.symm
 have step2:∀ v∈((k.step l n a b b_).M7 e mode).maps,∀ y∈v,y=-2\/y=-1\/(0<=y/\y<R):=by
  intro v hv;unfold Kd.M7 at hv;split at hv
  ·unfold Kd.cut at hv;split at hv
   ·exact M0 v hv
   ·obtain ⟨i,hi,rfl⟩:=List.mem_map.1 hv;exact M0 _ (L9 (by rw [(n0v K hw C b_).len];exact u0G hi))
  ·exact M0 v hv
 intro v hv;rcases t0j _ _ hv with hv | ⟨hv,hne⟩
 ·cases hv
 ·obtain ⟨row,hrow,hvr⟩:=List.mem_flatten.1 hv;rcases step2 row hrow v hvr with h | h | h
  ·exact absurd h hne
  ·exact .inl h
  ·exact .inr h
theorem J0g {src:List Int} (hnd:src.Nodup) {i:Nat} (hi:i<src.length) (hl:src.length<=1000000) (hf:2000001<F):iter (f0F F src (i:Int)) F 0=some (.inr ()):=by
 have:=V2 (step:=f0F F src (i:Int)) (fun j=>(j:Int)) (.inr ()) i (fun j hj=>.inl ?_) ?_ i 0 F (by omega) (by omega)
 ·exact this
 ·have h1:(j:Int)<(i:Int):=by omega
  have hin:y0 src (j:Int)=true:=P0 (by omega) (by omega);have hin2:y0 src (i:Int)=true:=P0 (by omega) (by omega);have e1:gt src (j:Int)=src[j]:=I3 (List.getElem?_eq_getElem (by omega));have e2:gt src (i:Int)=src[i]:=I3 (List.getElem?_eq_getElem hi);have hne:(gt src (j:Int)==gt src (i:Int))=false:=by
   rw [beq_eq_false_iff_ne,e1,e2];exact List.pairwise_iff_getElem.1 hnd j i (by omega) hi hj
  unfold f0F;simp only [h1,decide_true,if_true,hin,hin2,hne,false_eq_true,if_false,E2 (i:=j) (by omega)]
 ·have h1:¬ (i:Int)<(i:Int):=by omega
  unfold f0F;simp only [h1,decide_false,false_eq_true,if_false]
theorem J0u {k:N4} {src:List Int} {R:Int} (hR:g0b F k=some R) (hsrc:∀ v∈src,v=-1\/(0<=v/\v<R)) (hnd:src.Nodup) (hl:src.length<=1000000) (hf:2000001<F):iter (f0O F k src) F 0=some (.inr ()):=by
 have:=V2 (step:=f0O F k src) (fun j=>(j:Int)) (.inr ()) src.length (fun i hi=>.inl ?_) ?_ src.length 0 F (by omega) (by omega)
 ·exact this
 ·have h1:(i:Int)<(src.length:Int):=by omega
  have hin:y0 src (i:Int)=true:=P0 (by omega) h1;have h12:=J0g (F:=F) hnd hi hl hf;unfold f0O;simp only [h1,decide_true,if_true,hin,hR,E0,E2 (i:=i) (by omega)];rcases hsrc _ (L9 hi) with h | ⟨h,h3⟩
  ·have b1:(gt src (i:Int) != -1)=false:=by rw [h];rfl
   simp only [b1,false_eq_true,if_false,E0,h12]
  ·have b1:(gt src (i:Int) != -1)=true:=by rw [bne_iff_ne];omega
   have b2:¬ gt src (i:Int)<0:=by omega
   have b3:¬ gt src (i:Int)>=R:=by omega
   simp only [b1,b2,b3,decide_false,false_eq_true,if_false,if_true,E0,h12]
 ·have h1:¬ (src.length:Int)<(src.length:Int):=by omega
  unfold f0O;simp only [h1,decide_false,false_eq_true,if_false]
end
theorem J0w:y0Q:=by
 intro l k x hl0 hk0 hx0 hl;have hw:=F0n hl0;have hB:=J0b hx0;refine ⟨Fb,?_⟩;unfold l0k
 by_cases h40:l.length>40
 ·have h1:(l.length:Int)>40:=by omega
  simp only [h1,decide_true,if_true,E0,l0y]
 have h1:¬ (l.length:Int)>40:=by omega
 obtain ⟨rs,s1,s2⟩:=J0t (F:=Fb) k (by unfold Fb;omega);simp only [h1,decide_false,false_eq_true,if_false,s1,E0];cases rs with
 |false=>simp only [Bool.not_false,if_true,E0,l0y]
 |
  true=>
  have hs:=s2 rfl;cases hR:J2 l with
  |
   false=>
   have hkr:a0W Fb l k=some false:=by
    unfold a0W;rw [(y0o hR hl (by omega)).1];simp only [E0,Bool.not_false,if_true]
   simp only [hkr,Bool.not_true,false_eq_true,if_false,Bool.not_false,if_true,E0,l0y]
  |
   true=>
   obtain ⟨a,b,e,z,K⟩:=known hw hR hl (by omega);obtain ⟨rr,r1,r2⟩:=J0e K hs;simp only [r1,Bool.not_true,false_eq_true,if_false,E0];cases rr with
   |false=>simp only [Bool.not_false,if_true,E0,l0y]
   |
    true=>
    obtain ⟨kd,rfl,C,f0,f2,he⟩:=r2 rfl;obtain ⟨r23,g1⟩:=J0m K C f0 f2;simp only [Bool.not_true,false_eq_true,if_false,g1,E0];cases r23 with
    |false=>simp only [Bool.not_false,if_true,E0,l0y]
    |
     true=>
     simp only [Bool.not_true,false_eq_true,if_false,E0]
     by_cases hm:x.Mode=0\/x.Mode=1
     ·have hmode:(if x.Mode != 0 then some (x.Mode != 1) else some false)=some false:=by
       rcases hm with h | h<;>rw [h]<;>rfl
      obtain ⟨R,q1,q2⟩:=J0l (F:=Fb) kd.K (by have:=hs.m;omega) (fun v hv=>by have:=hs.r v hv;omega) (fun v hv y hy=>⟨he v hv y hy,hs.e v hv y hy⟩) (by unfold Fb;omega);have hnx:=D0R K hw C r1 hm hB;have C1:=n0v K hw C x.B;have C2:=m0I (e:=e) x.Mode C1;have hfl1:(kd.step l (N0 l l.length) a b x.B).flag=if kd.flag==1 then 1 else 0:=rfl;have hfl2:((kd.step l (N0 l l.length) a b x.B).M7 e x.Mode).flag=0\/(((kd.step l (N0 l l.length) a b x.B).M7 e x.Mode).flag=1/\kd.flag=1):=by
       have h3:(kd.step l (N0 l l.length) a b x.B).flag=0\/((kd.step l (N0 l l.length) a b x.B).flag=1/\kd.flag=1):=by
        rw [hfl1];cases c:kd.flag==1 with
        |false=>exact .inl rfl
        |true=>exact .inr ⟨rfl,by simpa using c⟩
       unfold Kd.M7;split
       ·unfold Kd.cut;split
        ·exact h3
        ·exact .inl rfl
       ·exact h3
      have hrng:0<=((kd.step l (N0 l l.length) a b x.B).M7 e x.Mode).flag/\((kd.step l (N0 l l.length) a b x.B).M7 e x.Mode).flag<=2:=by rcases hfl2 with h | h<;>omega
      obtain ⟨R2,g2⟩:=x0g K C2 hrng.1 hrng.2;have hsrc:=D06 K hw C (R:=R) he q2 x.B x.Mode (e:=e);have hnd:=B0c ((kd.step l (N0 l l.length) a b x.B).M7 e x.Mode).maps.flatten [] List.nodup_nil;have hsl:(G4 ((kd.step l (N0 l l.length) a b x.B).M7 e x.Mode).maps).length<=1000000:=by
       have ht:=l8 l;have hfl2:=k0V ((kd.step l (N0 l l.length) a b x.B).M7 e x.Mode).maps 1000 (fun r hr=>by have:=C2.row r hr;omega);have h3:=k0w ((kd.step l (N0 l l.length) a b x.B).M7 e x.Mode).maps.flatten [];have h4:=C2.len;have h5:=C2.le;have hn:=K.T.n64;have h6:((kd.step l (N0 l l.length) a b x.B).M7 e x.Mode).maps.length*1000<=400*1000:=Nat.mul_le_mul_right _ (by omega);simp only [List.length_nil] at h3;unfold G4;omega
      have hl7:=J0u (F:=Fb) q1 hsrc hnd hsl (by unfold Fb;omega);have e1:kd.K.Flag=kd.flag:=rfl;have e2:((kd.step l (N0 l l.length) a b x.B).M7 e x.Mode).num.K.Flag=((kd.step l (N0 l l.length) a b x.B).M7 e x.Mode).flag:=rfl;have hx8:(if kd.flag==0 then some (((kd.step l (N0 l l.length) a b x.B).M7 e x.Mode).flag != 0) else some false)=some false:=by
       by_cases c:kd.flag=0
       ·rcases hfl2 with h | ⟨_,h⟩
        ·rw [c,h];rfl
        ·omega
       ·have:(kd.flag==0)=false:=by simpa using c
        rw [this];rfl
      have hx10:(((kd.step l (N0 l l.length) a b x.B).M7 e x.Mode).flag==2)=false:=by
       rcases hfl2 with h | ⟨h,_⟩<;>rw [h]<;>rfl
      simp only [hmode,E0,false_eq_true,if_false,hnx,R2,Bool.not_true,g2,bne_self_eq_false,e1,e2,hx8,hx10,hl7,l0y]
     ·have hmode:(if x.Mode != 0 then some (x.Mode != 1) else some false)=some true:=by
       have b1:(x.Mode != 0)=true:=by rw [bne_iff_ne];exact fun h=>hm (.inl h)
       have b2:(x.Mode != 1)=true:=by rw [bne_iff_ne];exact fun h=>hm (.inr h)
       rw [b1,b2];rfl
      simp only [hmode,E0,if_true,l0y]
