/- What is K3 of a crowd is the whole part that is ahead of all. One entry of the document's table of what is as what. Kernels: all that goes on with a byte. Kernels: which run is ahead of all that can end, and which ones stay. Kernels: registers are numbered anew. Tags: where a run began; the last time that something is found. A search, by the program and by the document: step by step. What holds of any crowd: where its runs began, what their tags are, which one is ahead. Kernels and hunts: the same runs stay, and the same one is ahead. Kernels: the first one, the next one, what is accepted, and that they are right. Kernels, whichever: that they are right is told, and what it f08. The document's table of what is as what, whole. The document's tree, as a function on trees of terms: first parts. The document's tree grows as told. Its conditions: none. -/
import Derived.Test.YtdficaoajalfaaaGreatAG47
import Derived.Test.YtdficaoajalfaaaGreatAG44
open List (mem_cons_of_mem mem_cons mem_filter mem_range any_eq_true length_cons)
open Bool (false_eq_true and_eq_true or_eq_true)
open Nat (le_refl add_mul one_mul)
set_option linter.all false
namespace Go.Proofs.YtdficaoajalfaaaGreat
open Go.V Go.RowKit Old Go.X
theorem m09 {fD:Nat->Nat->Int} {N:Nat->Nat×Pp}:∀ (of:List Nat) (j0:Nat),(∀ i k,i∈j0 :: of->k∈j0 :: of->i≠k->(0<fD i k->LT (N i) (N k))/\(¬ 0<fD i k->LT (N k) (N i)))->
  ∃ j:Nat,of.foldl (a0U fD) (j0:Int)=(j:Int)/\j∈j0 :: of/\∀ i,i∈j0 :: of->i=j\/LT (N j) (N i)
 |[],j0,_=>⟨j0,rfl,by simp,fun i hi=>.inl (by simpa using hi)⟩
 |
  x :: r,j0,h=>by
  have h0:¬ ((j0:Int)<0):=by omega
  have hs:a0U fD (j0:Int) x=if 0<fD x j0 then (x:Int) else (j0:Int):=by unfold a0U;rw [if_neg h0,Int.toNat_natCast]
  rw [List.foldl_cons,hs]
  by_cases c:0<fD x j0
  ·rw [if_pos c];obtain ⟨j,e1,e2,e3⟩:=m09 r x (fun i k hi hk=>h i k (mem_cons_of_mem _ hi) (mem_cons_of_mem _ hk));refine ⟨j,e1,mem_cons_of_mem _ e2,fun i hi=>?_⟩;rcases mem_cons.1 hi with rfl | hi
   ·by_cases hx:x=i
    ·subst hx;exact e3 x (by simp)
    ·have h1:=(h x i (by simp) (by simp) hx).1 c;rcases e3 x (by simp) with e | e
     ·exact .inr (by rw [<-e];exact h1)
     ·exact .inr (e.trans h1)
   ·exact e3 i hi
  ·rw [if_neg c];obtain ⟨j,e1,e2,e3⟩:=m09 r j0 (fun i k hi hk=>h i k (by rcases mem_cons.1 hi with rfl | hi<;>simp [*]) (by rcases mem_cons.1 hk with rfl | hk<;>simp [*]));refine ⟨j,e1,by rcases mem_cons.1 e2 with rfl | e2<;>simp [*],fun i hi=>?_⟩;rcases mem_cons.1 hi with rfl | hi
   ·exact e3 i (by simp)
   ·rcases mem_cons.1 hi with rfl | hi
    ·by_cases hx:i=j0
     ·subst hx;exact e3 i (by simp)
     ·have h1:=(h i j0 (by simp) (by simp) hx).2 c;rcases e3 j0 (by simp) with e | e
      ·exact .inr (by rw [<-e];exact h1)
      ·exact .inr (e.trans h1)
    ·exact e3 i (mem_cons_of_mem _ hi)
section
variable {F:Nat} {l:List C0} {n:Nat} {a:List y0} {b:Nat->List y0} {e:Nat->y0×Bool} {z:y0×Bool} {t:Tm} {w:List Int} {m:Nat} {s:Cs} {G:Nat->Nat×Pp} {A B:Nat->Prop}
theorem v0u {w:List Int} {s:Tm} {i j:Nat} {p:Pp} (u:PU w s i j p):∀ lo,L4 s lo p≠[]:=by
 induction u with
 |more _ _ _ ih=>exact ih
 |_=>intro lo;simp [L4]
theorem PU.ends (K:H5 l n a b e z F) (hw:∀ x∈l,o3 x) (ht:O2 l t) {i j:Nat} {p:Pp} (u:PU w t i j p):(e (Y0 t p)).2=X4 t p/\(X4 t p=true->(e (Y0 t p)).1.Steps=L4 t 0 p):=by
 rw [(u.ways K hw ht).2.1];have h:=v0u u 0;cases X4 t p<;>simp [o8,h]
structure y0i (w:List Int) (l:List C0) (t:Tm) (m:Nat) (B:Nat->Prop) (tags:List Int) (i:Nat) (P:Pt):Prop where
 fit:Fit w t i P
 wid:i+P.wid=m
 pos:0<P.wid
 tag:tags=r8 l (O7 l (i:Int)) (U3 t 0 i P)
 all:∀ i' Q,B i'->Fit w t i' Q->i'+Q.wid=m->0<Q.wid->i<i'\/(i=i'/\(P=Q\/PA P Q))
theorem R7.K3 (I:R7 w l n t m s G A B) (K:H5 l n a b e z F) (hw:∀ x∈l,o3 x) (ht:O2 l t) :
  ((s.K3 l e).2=true->∃ k P,k<s.pl.length/\y0i w l t m B (s.K3 l e).1 (G k).1 P)/\((s.K3 l e).2=false->∀ i Q,B i->Fit w t i Q->i+Q.wid=m->0<Q.wid->False):=by
 have hcan:∀ k,k<s.pl.length->((e (s.pl.getD k 0)).2=true->∃ P,Cl O5 t (G k).2 P):=fun k hk h=>by
  obtain ⟨j,_,u,_,hp,_⟩:=I.run k hk;rw [hp,(u.ends K hw ht).1] at h;exact u.cl h
 have cover:∀ i Q,B i->Fit w t i Q->i+Q.wid=m->0<Q.wid->∃ k,k∈W7 e s.pl s.pl.length/\∀ P,Cl O5 t (G k).2 P->(G k).1<i\/((G k).1=i/\(P=Q\/PA P Q)):=by
  intro i Q hB hQ hm hpos;obtain ⟨Y,j,y1,y2,y3⟩:=hQ.rch hpos;obtain ⟨uY,rY⟩:=y1.ok;obtain ⟨k,k1,k2,k3⟩:=I.cov i j Y (by omega) hB y1;have h2:=(uY.ends K hw ht).1;rw [y3.may,<-k2] at h2;refine ⟨k,mem_filter.2 ⟨mem_range.2 k1,h2⟩,fun P hP=>?_⟩;rcases k3 with k3 | ⟨k3,k4⟩
  ·exact .inl k3
  ·refine .inr ⟨k3,?_⟩;simp only at k3 k4;rcases k4 with k4 | ⟨d,k4⟩
   ·rw [k4] at hP;exact (y3.first hP).2
   ·obtain ⟨j',hj',u,_⟩:=I.run k k1;have:j'=j:=by omega
    subst this;rw [k3] at u;have hP':Cl P3 t (G k).2 P:=by
     have cl:∀ {s:Tm} {p:Pp} {P:Pt},Cl O5 s p P->Cl P3 s p P:=by
      intro s p P h
      induction h with
      |leaf=>exact .leaf
      |catL _ e ih=>exact .catL ih e.emp
      |catR _ ih=>exact .catR ih
      |altL _ ih=>exact .altL ih
      |altR _ ih=>exact .altR ih
      |item _ ih=>exact .item ih
      |more _ ih=>exact .more ih
      |maybe _ ih=>exact .maybe ih
      |group _ ih=>exact .group ih
      |iter _ ih=>exact .iter ih
     exact cl hP
    exact .inr (k4.close zE u uY hP' y3)
 cases hc:W7 e s.pl s.pl.length with
 |
  nil=>
  have hb:s.K3 l e=([],false):=by unfold Cs.K3 e0c;rw [hc];rfl
  rw [hb];refine ⟨fun h=>absurd h (by simp),fun _ i Q h1 h2 h3 h4=>?_⟩;obtain ⟨k,k1,_⟩:=cover i Q h1 h2 h3 h4;rw [hc] at k1;simp at k1
 |
  cons j0 of=>
  have hmem:∀ k,k∈j0 :: of->k<s.pl.length/\(e (s.pl.getD k 0)).2=true:=fun k hk=>by
   rw [<-hc] at hk;exact ⟨j0D hk,(mem_filter.1 hk).2⟩
  have hlt:∀ i k,i<s.pl.length->k<s.pl.length->i≠k->0<s.fD i k->LT (G i) (G k):=fun i k hi hk hik h=>by
   rcases I.ok.rk.d1 i k hi hk hik with h1 | h1
   ·exact (I.rel i k hi hk h1).lt
   ·omega
  have hgt:∀ i k,i<s.pl.length->k<s.pl.length->i≠k->¬ 0<s.fD i k->LT (G k) (G i):=fun i k hi hk hik h=>by
   rcases I.ok.rk.d1 i k hi hk hik with h1 | h1
   ·omega
   ·exact (I.rel k i hk hi (by rw [I.ok.rk.dn i k hi hk,h1];rfl)).lt
  obtain ⟨j,e1,e2,e3⟩:=m09 (fD:=s.fD) (N:=G) of j0 (fun i k hi hk hik=>⟨hlt i k (hmem i hi).1 (hmem k hk).1 hik,hgt i k (hmem i hi).1 (hmem k hk).1 hik⟩);have hbf:q9 s.fD (W7 e s.pl s.pl.length)=(j:Int):=by
   rw [hc];unfold q9;rw [List.foldl_cons];have:a0U s.fD (-1) j0=(j0:Int):=by unfold a0U;rw [if_pos (by omega)]
   rw [this];exact e1
  obtain ⟨hj,hje⟩:=hmem j e2;obtain ⟨P,hP⟩:=hcan j hj hje;obtain ⟨jj,hjj,u,r,hp,hv⟩:=I.run j hj;have hbest:s.K3 l e=(S6 s.at_ (-1) (gt s.vals (j:Int)) (N4 l (e (s.pl.getD j 0)).1.Steps),true):=by
   unfold Cs.K3 e0c;rw [hbf,if_neg (by omega),Int.toNat_natCast]
  rw [hbest];refine ⟨fun _=>⟨j,P,hj,?_⟩,fun h=>absurd h (by simp)⟩;have hwd:=hP.wid zC u;refine ⟨hP.fit e1C u r,by omega,hP.pos zC u,?_,fun i' Q h1 h2 h3 h4=>?_⟩
  ·have hcl:=n0e u 0 hP;rw [hp,(u.ends K hw ht).1] at hje;simp only;rw [hp,(u.ends K hw ht).2 hje,hv,I.at_,hcl,<-hjj];unfold l0i fwd;rw [<-List.cons_append,b0i,i0c]
  ·obtain ⟨k,k1,k2⟩:=cover i' Q h1 h2 h3 h4;rw [hc] at k1;obtain ⟨hk,hke⟩:=hmem k k1;obtain ⟨P',hP'⟩:=hcan k hk hke;have hq:=k2 P' hP';rcases e3 k k1 with h5 | h5
   ·subst h5;rw [hP.det hP'];exact hq
   ·rcases h5 with h5 | ⟨h5,d,h6⟩
    ·rcases hq with hq | ⟨hq,_⟩
     ·exact .inl (by omega)
     ·exact .inl (by omega)
    ·rcases hq with hq | ⟨hq,hq2⟩
     ·exact .inl (by omega)
     ·obtain ⟨j',hj',u',_⟩:=I.run k hk;have:j'=jj:=by omega
      subst this;rw [<-h5] at u';have hpa:=h6.close zC u u' hP hP';refine .inr ⟨by omega,.inr ?_⟩;rcases hq2 with hq2 | hq2
      ·rw [<-hq2];exact hpa
      ·exact hpa.trans hq2
end
def i6 (N i j:Nat):Nat:=i*(N+1)+j
theorem p08 {N i j:Nat} (hi:i<=N) (hj:j<=N):i6 N i j<(N+1)*(N+1):=by
 unfold i6;have h1:(i+1)*(N+1)<=(N+1)*(N+1):=Nat.mul_le_mul_right _ (by omega);rw [Nat.succ_mul] at h1;omega
def c0F (Can:List (List Bool)) (N q:Nat) (f:Nat->Nat->Bool):Prop:=(gt Can (q:Int)).length=(N+1)*(N+1)/\∀ i j:Nat,i<=j->j<=N->gt (gt Can (q:Int)) (i6 N i j:Int)=f i j
section
variable {F:Nat}
theorem u05 {N i j:Nat} (hN:N<=64) (hi:i<=N) (hj:j<=N):W ((W ((i:Int)*(W ((N:Int)+1))))+(j:Int))=(i6 N i j:Int):=by
 have h1:i*(N+1)<=64*65:=Nat.mul_le_mul (by omega) (by omega);rw [G3 (i:=N) (by omega)];have e:(i:Int)*((N+1:Nat):Int)=((i*(N+1):Nat):Int):=by simp
 rw [e,n3 (n:=((i*(N+1):Nat):Int)) (by omega) (by omega),n3 (by omega) (by omega)];unfold i6;omega
theorem t0W {Can:List (List Bool)} {N q i j:Nat} (hq:q<Can.length) (hl:(gt Can (q:Int)).length=(N+1)*(N+1)) (hN:N<=64) (hi:i<=N) (hj:j<=N):a7 F ⟨(N:Int),Can⟩ (q:Int) (i:Int) (j:Int)=some (gt (gt Can (q:Int)) (i6 N i j:Int)):=by
 have hc:=p08 hi hj;unfold a7;have h1:B0 Can (q:Int)=true:=R0 (by omega) (by omega);simp only [h1,if_true,u05 hN hi hj,R0 (l:=gt Can (q:Int)) (i:=(i6 N i j:Int)) (by omega) (by omega)]
theorem b0S {Can:List (List Bool)} {N q:Nat} {f:Nat->Nat->Bool} (h:c0F Can N q f) (hq:q<Can.length) (hN:N<=64) {i j:Nat} (hij:i<=j) (hj:j<=N):a7 F ⟨(N:Int),Can⟩ (q:Int) (i:Int) (j:Int)=some (f i j):=by
 rw [t0W hq h.1 hN (by omega) hj,h.2 i j hij hj]
theorem one_den {l:List C0} {w:List Int} (hw:∀ x∈l,o3 x) (hb:∀ x∈w,Z5 .u8 x) (hN:w.length<=64) (hf:2000<F) {Can:List (List Bool)} {lo:Nat} {s:Old.Tm} (hat:Old.At l lo s) (hlen:s.top lo<Can.length)
  (hch:∀ lo' s',Old.At l lo' s'->s'.top lo'<s.top lo->c0F Can w.length (s'.top lo') (den w s')) {i j:Nat} (hij:i<=j) (hj:j<=w.length)
  (hown:(gt Can (s.top lo:Int)).length=(w.length+1)*(w.length+1)/\∀ k:Nat,i<k->k<=j->gt (gt Can (s.top lo:Int)) (i6 w.length k j:Int)=den w s k j) :
  g0H F l w ⟨(w.length:Int),Can⟩ (s.top lo:Int) (i:Int) (j:Int)=some (den w s i j):=by
 have hg:=hat.D2;have hsl:=hat.len;have hsp:=s.size_pos;have htl:s.top lo<l.length:=by unfold Old.Tm.top;omega
 have hinl:B0 l (s.top lo:Int)=true:=R0 (by omega) (by omega);have hbeq:((i:Int)==(j:Int))=(i==j):=by rw [Bool.eq_iff_iff];simp only [beq_iff_eq];omega
 unfold g0H;rw [hg];simp only [hinl,if_true];cases s with
 |eps=>simp only [Old.Tm.node,beq_self_eq_true,if_true,hbeq];rfl
 |
  leaf st=>
  simp only [Old.Tm.node,show ((2:Int)==1)=false from rfl,false_eq_true,if_false,beq_self_eq_true,if_true,G3 (i:=i) (by omega)];have hbeq2:((j:Int)==((i+1:Nat):Int))=(j==i+1):=by rw [Bool.eq_iff_iff];simp only [beq_iff_eq];omega
  rw [hbeq2];show _=some (j==i+1&&(decide (i<w.length)&&hasB st (gt w (i:Int))));cases c:j==i+1 with
  |false=>simp only [false_eq_true,if_false,G0,Bool.false_and]
  |
   true=>
   have hj1:j=i+1:=by simpa using c
   have hi:i<w.length:=by omega
   have hset:=hw _ (List.mem_of_getElem? hat.top);have hs4:st.length=4/\∀ y∈st,Z5 .u64 y:=hset.2.2.2.2;simp only [if_true,R0 (l:=w) (i:=(i:Int)) (by omega) (by omega),(p0t F hs4 (hb _ (gtm hi))).2,G0,hi,decide_true,Bool.true_and]
 |
  cat a b=>
  obtain ⟨ha,hb2,_⟩:=(Old.At.bin (a:=a) (b:=b) rfl rfl).1 hat;have pa:=a.size_pos;have pb:=b.size_pos;have ra:=hch lo a ha (by unfold Old.Tm.top;simp only [Old.Tm.size];omega);have rb:=hch (lo+a.size) b hb2 (by unfold Old.Tm.top;simp only [Old.Tm.size];omega);have la:a.top lo<Can.length:=by unfold Old.Tm.top at hlen ⊢;simp only [Old.Tm.size] at hlen;omega
  have lb:b.top (lo+a.size)<Can.length:=by unfold Old.Tm.top at hlen ⊢;simp only [Old.Tm.size] at hlen;omega
  simp only [Old.Tm.node,show ((3:Int)==1)=false from rfl,show ((3:Int)==2)=false from rfl,false_eq_true,if_false,beq_self_eq_true,if_true];have hit:=t0F (step:=i0M F l ⟨(w.length:Int),Can⟩ ((Old.Tm.cat a b).top lo:Int) (i:Int) (j:Int)) (lo:=i) (hi:=j+1) (fun k=>den w a i k&&den w b k j) (fun k k1 k2=>?_) ?_ (by omega) (fu:=F) (by omega)
  ·rw [hit];show _=some ((List.range (j+1)).any fun k=>decide (i<=k)&&(den w a i k&&den w b k j));cases (List.range (j+1)).any fun k=>decide (i<=k)&&(den w a i k&&den w b k j)<;>rfl
  ·have h1:(k:Int)<=(j:Int):=by omega
   have e1:=b0S (F:=F) ra la hN k1 (by omega);have e2:=b0S (F:=F) rb lb hN (show k<=j by omega) hj;unfold i0M;rw [hg];simp only [Old.Tm.node,h1,decide_true,if_true,e1,e2,G0,G3 (i:=k) (by omega)];cases den w a i k
   ·simp only [false_eq_true,if_false,G0,Bool.false_and]
   ·simp only [if_true,G0,Bool.true_and];cases den w b k j<;>rfl
  ·have h1:¬ ((j+1:Nat):Int)<=(j:Int):=by omega
   unfold i0M;simp only [h1,decide_false,false_eq_true,if_false]
 |
  alt a b=>
  obtain ⟨ha,hb2,_⟩:=(Old.At.bin (a:=a) (b:=b) rfl rfl).1 hat;have pa:=a.size_pos;have pb:=b.size_pos;have ra:=hch lo a ha (by unfold Old.Tm.top;simp only [Old.Tm.size];omega);have rb:=hch (lo+a.size) b hb2 (by unfold Old.Tm.top;simp only [Old.Tm.size];omega);have la:a.top lo<Can.length:=by unfold Old.Tm.top at hlen ⊢;simp only [Old.Tm.size] at hlen;omega
  have lb:b.top (lo+a.size)<Can.length:=by unfold Old.Tm.top at hlen ⊢;simp only [Old.Tm.size] at hlen;omega
  simp only [Old.Tm.node,show ((4:Int)==1)=false from rfl,show ((4:Int)==2)=false from rfl,show ((4:Int)==3)=false from rfl,false_eq_true,if_false,beq_self_eq_true,if_true,b0S (F:=F) ra la hN hij hj,b0S (F:=F) rb lb hN hij hj,G0];show _=some (den w a i j||den w b i j);cases den w a i j<;>rfl
 |
  star a=>
  obtain ⟨ha,_⟩:=(Old.At.un (a:=a) rfl rfl).1 hat;have pa:=a.size_pos;have ra:=hch lo a ha (by unfold Old.Tm.top;simp only [Old.Tm.size];omega);have la:a.top lo<Can.length:=by unfold Old.Tm.top at hlen ⊢;simp only [Old.Tm.size] at hlen;omega
  simp only [Old.Tm.node,show ((5:Int)==1)=false from rfl,show ((5:Int)==2)=false from rfl,show ((5:Int)==3)=false from rfl,show ((5:Int)==4)=false from rfl,false_eq_true,if_false,beq_self_eq_true,if_true,hbeq,G3 (i:=i) (by omega)];show _=some (K5 (den w a) i j);rw [f0k];cases c:i==j with
  |true=>rfl
  |
   false=>
   have hne:i≠j:=by simpa using c
   simp only [false_eq_true,if_false,Bool.false_or];have hit:=t0F (step:=j09 F l ⟨(w.length:Int),Can⟩ ((Old.Tm.star a).top lo:Int) (i:Int) (j:Int)) (lo:=i+1) (hi:=j+1) (fun k=>den w a i k&&K5 (den w a) k j) (fun k k1 k2=>?_) ?_ (by omega) (fu:=F) (by omega)
   ·rw [hit];have e:((List.range (j+1)).any fun k=>decide (i+1<=k)&&(den w a i k&&K5 (den w a) k j))=((List.range (j+1)).any fun k=>decide (i<k)&&(den w a i k&&K5 (den w a) k j)):=rfl;rw [e];cases (List.range (j+1)).any fun k=>decide (i<k)&&(den w a i k&&K5 (den w a) k j)<;>rfl
   ·have h1:(k:Int)<=(j:Int):=by omega
    have e1:=b0S (F:=F) ra la hN (show i<=k by omega) (by omega);have e2:a7 F ⟨(w.length:Int),Can⟩ ((Old.Tm.star a).top lo:Int) (k:Int) (j:Int)=some (K5 (den w a) k j):=by
     rw [t0W hlen hown.1 hN (by omega) hj,hown.2 k (by omega) (by omega)];rfl
    unfold j09;rw [hg];simp only [Old.Tm.node,h1,decide_true,if_true,e1,e2,G0,G3 (i:=k) (by omega)];cases den w a i k
    ·simp only [false_eq_true,if_false,G0,Bool.false_and]
    ·simp only [if_true,G0,Bool.true_and];cases K5 (den w a) k j<;>rfl
   ·have h1:¬ ((j+1:Nat):Int)<=(j:Int):=by omega
    unfold j09;simp only [h1,decide_false,false_eq_true,if_false]
 |
  maybe a=>
  obtain ⟨ha,_⟩:=(Old.At.un (a:=a) rfl rfl).1 hat;have pa:=a.size_pos;have ra:=hch lo a ha (by unfold Old.Tm.top;simp only [Old.Tm.size];omega);have la:a.top lo<Can.length:=by unfold Old.Tm.top at hlen ⊢;simp only [Old.Tm.size] at hlen;omega
  simp only [Old.Tm.node,show ((6:Int)==1)=false from rfl,show ((6:Int)==2)=false from rfl,show ((6:Int)==3)=false from rfl,show ((6:Int)==4)=false from rfl,show ((6:Int)==5)=false from rfl,false_eq_true,if_false,beq_self_eq_true,if_true,hbeq,b0S (F:=F) ra la hN hij hj,G0];show _=some (i==j||den w a i j);cases i==j<;>rfl
 |
  group m a=>
  obtain ⟨ha,_⟩:=(Old.At.un (a:=a) rfl rfl).1 hat;have pa:=a.size_pos;have ra:=hch lo a ha (by unfold Old.Tm.top;simp only [Old.Tm.size];omega);have la:a.top lo<Can.length:=by unfold Old.Tm.top at hlen ⊢;simp only [Old.Tm.size] at hlen;omega
  simp only [Old.Tm.node,show ((7:Int)==1)=false from rfl,show ((7:Int)==2)=false from rfl,show ((7:Int)==3)=false from rfl,show ((7:Int)==4)=false from rfl,show ((7:Int)==5)=false from rfl,show ((7:Int)==6)=false from rfl,false_eq_true,if_false,b0S (F:=F) ra la hN hij hj,G0];rfl
 |
  iter a=>
  obtain ⟨ha,_⟩:=(Old.At.un (a:=a) rfl rfl).1 hat;have pa:=a.size_pos;have ra:=hch lo a ha (by unfold Old.Tm.top;simp only [Old.Tm.size];omega);have la:a.top lo<Can.length:=by unfold Old.Tm.top at hlen ⊢;simp only [Old.Tm.size] at hlen;omega
  simp only [Old.Tm.node,show ((8:Int)==1)=false from rfl,show ((8:Int)==2)=false from rfl,show ((8:Int)==3)=false from rfl,show ((8:Int)==4)=false from rfl,show ((8:Int)==5)=false from rfl,show ((8:Int)==6)=false from rfl,false_eq_true,if_false,b0S (F:=F) ra la hN hij hj,G0];rfl
end
def w0W (l:List C0):List Int:=(List.replicate (l5 l).toNat (-2)).set 0 (-1)
def D0Y (l:List C0) (maps:List (List Int)) (beg:Bool):List (List Int):=maps++if beg then [w0W l] else []
def mkK (flag:Int) (pl:List Nat) (maps:List (List Int)) (fB fD:Nat->Nat->Int):c00:=⟨flag,J2 pl,maps,D3 pl.length fB fD⟩
def stM (l:List C0) (a:List y0) (b:Nat->List y0) (pl:List Nat) (maps:List (List Int)) (fB fD:Nat->Nat->Int) (beg:Bool) (r:Nat):List Int:=
 S6 (-1) (-2) (gt (D0Y l maps beg) (F4 a b pl fB fD beg r:Int)) (N4 l (K4 a b pl fB fD beg r).Steps)
section
variable {F:Nat} {l:List C0} {n:Nat} {a:List y0} {b:Nat->List y0} {e:Nat->y0×Bool} {z:y0×Bool} {pl:List Nat} {maps:List (List Int)} {fB fD:Nat->Nat->Int} {flag:Int}
end
def y0A (fB fD:Nat->Nat->Int) (ah x:Nat):Bool:=x==ah||(decide (fB x ah>0)||decide (fD ah x<0))
def m0J (fB fD:Nat->Nat->Int) (ah k:Nat):List Nat:=(List.range k).filter (y0A fB fD ah)
theorem D07 {fB fD:Nat->Nat->Int} {ah k i:Nat} (h:i∈m0J fB fD ah k):i<k:=mem_range.1 (mem_filter.1 h).1
theorem D0d (fB fD:Nat->Nat->Int) (ah k:Nat):(m0J fB fD ah k).Pairwise fun a b=>a<b:=List.Pairwise.filter _ List.pairwise_lt_range
section
variable {F:Nat}
end
section
variable {F:Nat} {l:List C0} {n:Nat} {a:List y0} {b:Nat->List y0} {e:Nat->y0×Bool} {z:y0×Bool} {pl:List Nat} {maps:List (List Int)} {fB fD:Nat->Nat->Int} {flag:Int}
structure Kd where
 flag:Int
 pl:List Nat
 maps:List (List Int)
 fB:Nat->Nat->Int
 fD:Nat->Nat->Int
def Kd.K (k:Kd):c00:=mkK k.flag k.pl k.maps k.fB k.fD
def Kd.T (k:Kd):Int×List Int×List (List Int)×T3:=(k.flag,J2 k.pl,k.maps,D3 k.pl.length k.fB k.fD)
def Kd.of (k:Kd) (fl:Int) (st:List Nat):Kd:=⟨fl,st.map fun i=>k.pl.getD i 0,st.map fun i:Nat=>gt k.maps (i:Int),fun i j=>k.fB (st.getD i 0) (st.getD j 0),fun i j=>k.fD (st.getD i 0) (st.getD j 0)⟩
def Kd.cut (e:Nat->y0×Bool) (k:Kd):Kd:=
 if q9 k.fD (W7 e k.pl k.pl.length)<0 then k else k.of 0 (m0J k.fB k.fD (q9 k.fD (W7 e k.pl k.pl.length)).toNat k.pl.length)
theorem e0t {k:Kd} (C:F6 l n k.pl k.maps k.fB k.fD):F6 l n (k.cut e).pl (k.cut e).maps (k.cut e).fB (k.cut e).fD:=by
 unfold Kd.cut;split
 ·exact C
 ·exact F0s C (D0d _ _ _ _) (fun i h=>D07 h)
end
def C0E (s:List Int) (v:Int):List Int:=if v=-2\/v∈s then s else s++[v]
def E01 (s r:List Int):List Int:=r.foldl C0E s
def ren (s:List Int) (v:Int):Int:=if v=-2 then -2 else (s.idxOf v:Int)
section
variable {F:Nat}
def w07 (maps:List (List Int)):List Int:=E01 [] maps.flatten
def E0V (maps:List (List Int)):List (List Int):=maps.map fun r=>r.map (ren (w07 maps))
end
section
variable {F:Nat} {l:List C0} {n:Nat} {a:List y0} {b:Nat->List y0} {e:Nat->y0×Bool} {z:y0×Bool}
end
structure Hs where
 c:Cs
 tags:List Int
 to:Int
 is:Bool
section
variable (l:List C0) (n:Nat) (a:List y0) (b:Nat->List y0) (e:Nat->y0×Bool) (z:y0×Bool)
def Hs.zero:Hs:=⟨Cs.zero,(U8 l z 0).1,0,(U8 l z 0).2⟩
def Hs.C (h:Hs):N3×List Int×Int×Bool:=(h.c.C l n a b e z,h.tags,h.to,h.is)
def Hs.H (h:Hs):e0w:=⟨h.c.C l n a b e z,h.tags,h.to,h.is⟩
def Hs.X (h:Hs):e0x:=⟨h.c.X l n a b e,h.tags,h.to,h.is⟩
end
def Hs.over (h:Hs):Bool:=h.is&&(h.c.pl.length==0&&decide (h.c.at_>0))
section
variable {F:Nat} {l:List C0} {n:Nat} {a:List y0} {b:Nat->List y0} {e:Nat->y0×Bool} {z:y0×Bool}
end
section
variable {F:Nat} {l:List C0} {n:Nat} {a:List y0} {b:Nat->List y0} {e:Nat->y0×Bool} {z:y0×Bool}
end
section
variable {F:Nat} {l:List C0} {n:Nat} {a:List y0} {b:Nat->List y0} {e:Nat->y0×Bool} {z:y0×Bool}
end
section
variable {vals:List (List Int)} {fD:Nat->Nat->Int}
end
section
variable {F:Nat} {l:List C0} {n:Nat} {a:List y0} {b:Nat->List y0} {e:Nat->y0×Bool} {z:y0×Bool}
def Kd.step (l:List C0) (n:Nat) (a:List y0) (b:Nat->List y0) (k:Kd) (b_:Int):Kd:=
 ⟨if k.flag==1 then 1 else 0,F1 l n a b k.pl b_ (!(k.flag==0)),(F1 l n a b k.pl b_ (!(k.flag==0))).map (stM l a b k.pl k.maps k.fB k.fD (!(k.flag==0))),
  P5 l (Y2 k.pl (!(k.flag==0)) k.fB) ((F1 l n a b k.pl b_ (!(k.flag==0))).map (F4 a b k.pl k.fB k.fD (!(k.flag==0)))) ((F1 l n a b k.pl b_ (!(k.flag==0))).map (K4 a b k.pl k.fB k.fD (!(k.flag==0)))),
  N6 l (Y2 k.pl (!(k.flag==0)) k.fB) (j4 k.pl (!(k.flag==0)) k.fD) ((F1 l n a b k.pl b_ (!(k.flag==0))).map (F4 a b k.pl k.fB k.fD (!(k.flag==0)))) ((F1 l n a b k.pl b_ (!(k.flag==0))).map (K4 a b k.pl k.fB k.fD (!(k.flag==0))))⟩
def Kd.num (k:Kd):Kd:=⟨k.flag,k.pl,E0V k.maps,k.fB,k.fD⟩
end
theorem n0B {σ τ:Type} {step:σ->Option (V0 σ τ)} (I:Nat->σ->Prop) (P:τ->Prop) {n:Nat} (hs:∀ i s,i<n->I i s->(∃ s',step s=some (.next s')/\I (i+1) s')\/∃ r,step s=some (.done r)/\P r) (hd:∀ s,I n s->∃ r,step s=some (.done r)/\P r) :
  ∀ (k i:Nat) (s:σ) (fu:Nat),i+k=n->I i s->k<fu->∃ r,iter step fu s=some r/\P r:=by
 intro k
 induction k with
 |
  zero=>
  intro i s fu hi hI hfu;obtain ⟨fu,rfl⟩:∃ m,fu=m+1:=⟨fu-1,by omega⟩
  obtain ⟨r,h1,h2⟩:=hd s (by rw [<-show i=n by omega];exact hI);exact ⟨r,a0o h1,h2⟩
 |
  succ k ih=>
  intro i s fu hi hI hfu;obtain ⟨fu,rfl⟩:∃ m,fu=m+1:=⟨fu-1,by omega⟩
  rcases hs i s (by omega) hI with ⟨s',h1,h2⟩ | ⟨r,h1,h2⟩
  ·rw [e0m h1];exact ih (i+1) s' fu (by omega) h2 (by omega)
  ·exact ⟨r,a0o h1,h2⟩
section
variable {F:Nat}
end
theorem w0w {N i j i' j':Nat} (hj:j<=N) (hj':j'<=N) (h:i6 N i j=i6 N i' j'):i=i'/\j=j':=by
 unfold i6 at h;have h1:(i*(N+1)+j) / (N+1)=i:=by rw [Nat.mul_comm,Nat.mul_add_div (by omega),Nat.div_eq_of_lt (by omega),Nat.add_zero]
 have h2:(i'*(N+1)+j') / (N+1)=i':=by rw [Nat.mul_comm,Nat.mul_add_div (by omega),Nat.div_eq_of_lt (by omega),Nat.add_zero]
 have e:i=i':=by rw [<-h1,<-h2,h]
 subst e;exact ⟨rfl,by omega⟩
theorem s0P {α:Type} [Inhabited α] {o:List α} {j m:Nat} {x:α} (h:j≠m):gt (o.set j x) (m:Int)=gt o (m:Int):=by
 unfold gt;rw [List.getD_eq_getElem?_getD,List.getD_eq_getElem?_getD,Int.toNat_natCast,List.getElem?_set_ne h]
structure a02 (l:List C0) (w:List Int) (Can:List (List Bool)) (q:Nat) (ok:Nat->Nat->Prop):Prop where
 len:Can.length=q+1
 old:∀ lo s,Old.At l lo s->s.top lo<q->c0F Can w.length (s.top lo) (den w s)
 row:(gt Can (q:Int)).length=(w.length+1)*(w.length+1)
 new:∀ lo s,Old.At l lo s->s.top lo=q->∀ i j:Nat,i<=j->j<=w.length->ok i j->gt (gt Can (q:Int)) (i6 w.length i j:Int)=den w s i j
theorem a02.mono {l:List C0} {w:List Int} {Can:List (List Bool)} {q:Nat} {ok ok':Nat->Nat->Prop} (h:a02 l w Can q ok) (hk:∀ i j,i<=j->j<=w.length->ok' i j->ok i j):a02 l w Can q ok':=⟨h.len,h.old,h.row,fun lo s h1 h2 i j h3 h4 h5=>h.new lo s h1 h2 i j h3 h4 (hk i j h3 h4 h5)⟩
section
variable {F:Nat}
theorem z0V {l:List C0} {w:List Int} {t:Old.Tm} (ht:Old.O2 l t) (hw:∀ x∈l,o3 x) (hb:∀ x∈w,Z5 .u8 x) (hN:w.length<=64) (hf:2000<F) {q:Nat} (hq:q<l.length) {i:Nat} (hi:i<=w.length) {y:List (List Bool)} (hy:a02 l w y q fun i' _=>i<i') :
  ∃ y',iter (h0w F l w (q:Int) (w.length:Int) (i:Int)) F ((i:Int),y)=some y'/\a02 l w y' q fun i' _=>i<=i':=by
 refine n0B (step:=h0w F l w (q:Int) (w.length:Int) (i:Int)) (fun j s=>s.1=(j:Int)/\i<=j/\a02 l w s.2 q fun i' j'=>i<i'\/(i'=i/\j'<j)) (fun y'=>a02 l w y' q fun i' _=>i<=i') (n:=w.length+1) (fun j s hj hI=>?_) (fun s hI=>?_) (w.length+1-i) i ((i:Int),y) F (by omega) ⟨rfl,le_refl _,hy.mono fun i' j' h1 h2 h3=>by omega⟩ (by omega)
 ·obtain ⟨s1,Can⟩:=s;obtain ⟨h0,hij,T⟩:=hI;simp only at h0 T;subst h0;have c1:(j:Int)<=(w.length:Int):=by omega
  have hlen:=T.len;have hinq:B0 Can (q:Int)=true:=R0 (by omega) (by omega)
  ·have hone:∀ lo s,Old.At l lo s->s.top lo=q->g0H F l w ⟨(w.length:Int),Can⟩ (q:Int) (i:Int) (j:Int)=some (den w s i j):=fun lo s hat htop=>by
    have:=one_den (F:=F) hw hb hN hf (Can:=Can) hat (by omega) (fun lo' s' h1 h2=>T.old lo' s' h1 (by omega)) hij (by omega) (by rw [htop];exact ⟨T.row,fun k k1 k2=>T.new lo s hat htop k j k2 (by omega) (.inl k1)⟩);rw [htop] at this;exact this
   obtain ⟨lo,s,hat,htop⟩:=ht.node hq;have hv:=hone lo s hat htop;have hc:=p08 hi (show j<=w.length by omega);refine .inl ⟨(((j+1:Nat):Int),Can.set q ((gt Can (q:Int)).set (i6 w.length i j) (den w s i j))),?_,rfl,by omega,⟨by simp [hlen],fun lo' s' h1 h2=>?_,?_,fun lo' s' h1 h2 i' j' h3 h4 h5=>?_⟩⟩
   ·have hin2:B0 (gt Can (q:Int)) (i6 w.length i j:Int)=true:=R0 (by omega) (by rw [T.row];omega);unfold h0w;simp only [c1,decide_true,if_true,hinq,hv,G0,u05 hN hi (show j<=w.length by omega),hin2,Int.toNat_natCast,G3 (i:=j) (by omega)]
   ·have h3:=T.old lo' s' h1 h2;have e:gt (Can.set q ((gt Can (q:Int)).set (i6 w.length i j) (den w s i j))) (s'.top lo':Int)=gt Can (s'.top lo':Int):=s0P (by omega);unfold c0F at h3 ⊢;rw [e];exact h3
   ·have e:gt (Can.set q ((gt Can (q:Int)).set (i6 w.length i j) (den w s i j))) (q:Int)=(gt Can (q:Int)).set (i6 w.length i j) (den w s i j):=B4 (List.getElem?_set_self (by omega));show (gt (Can.set q ((gt Can (q:Int)).set (i6 w.length i j) (den w s i j))) (q:Int)).length=_;rw [e,List.length_set];exact T.row
   ·have e:gt (Can.set q ((gt Can (q:Int)).set (i6 w.length i j) (den w s i j))) (q:Int)=(gt Can (q:Int)).set (i6 w.length i j) (den w s i j):=B4 (List.getElem?_set_self (by omega));show gt (gt (Can.set q ((gt Can (q:Int)).set (i6 w.length i j) (den w s i j))) (q:Int)) (i6 w.length i' j':Int)=_;rw [e]
    by_cases hcell:i'=i/\j'=j
    ·obtain ⟨rfl,rfl⟩:=hcell;have h6:=hone lo' s' h1 h2;rw [hv] at h6;rw [<-Option.some.inj h6];exact B4 (List.getElem?_set_self (by rw [T.row];exact hc))
    ·have hne:i6 w.length i j≠i6 w.length i' j':=fun hh=>by
      have:=w0w (show j<=w.length by omega) h4 hh;exact hcell ⟨this.1.symm,this.2.symm⟩
     have e2:gt ((gt Can (q:Int)).set (i6 w.length i j) (den w s i j)) (i6 w.length i' j':Int)=gt (gt Can (q:Int)) (i6 w.length i' j':Int):=s0P hne;rw [e2];refine T.new lo' s' h1 h2 i' j' h3 h4 ?_;rcases h5 with h5 | ⟨h5,h6⟩
     ·exact .inl h5
     ·exact .inr ⟨h5,by omega⟩
 ·obtain ⟨s1,Can⟩:=s;obtain ⟨h0,_,T⟩:=hI;simp only at h0 T;subst h0;have c1:¬ ((w.length+1:Nat):Int)<=(w.length:Int):=by omega
  unfold h0w;simp only [c1,decide_false,false_eq_true,if_false];exact ⟨_,rfl,T.mono fun i' j' h1 h2 h3=>by omega⟩
theorem z0O {l:List C0} {w:List Int} {t:Old.Tm} (ht:Old.O2 l t) (hw:∀ x∈l,o3 x) (hb:∀ x∈w,Z5 .u8 x) (hN:w.length<=64) (hf:2000<F) {q:Nat} (hq:q<l.length) {y:List (List Bool)} (hy:a02 l w y q fun i' _=>w.length<i') :
  ∃ y',iter (h0z F l w (q:Int) (w.length:Int)) F ((w.length:Int),y)=some y'/\a02 l w y' q fun _ _=>True:=by
 refine n0B (step:=h0z F l w (q:Int) (w.length:Int)) (fun d s=>s.1=(w.length:Int)-(d:Int)/\a02 l w s.2 q fun i' _=>(w.length:Int)-(d:Int)<(i':Int)) (fun y'=>a02 l w y' q fun _ _=>True) (n:=w.length+1) (fun d s hd hI=>?_) (fun s hI=>?_) (w.length+1) 0 ((w.length:Int),y) F (by omega) ⟨by simp,hy.mono fun i' j' h1 h2 h3=>by omega⟩ (by omega)
 ·obtain ⟨s1,Can⟩:=s;obtain ⟨h0,T⟩:=hI;simp only at h0 T;obtain ⟨i,hi⟩:∃ i:Nat,(w.length:Int)-(d:Int)=i:=⟨w.length-d,by omega⟩
  rw [hi] at h0 T;subst h0;obtain ⟨y',g1,g2⟩:=z0V (F:=F) ht hw hb hN hf hq (i:=i) (by omega) (T.mono fun i' j' h1 h2 h3=>by omega);refine .inl ⟨((w.length:Int)-((d+1:Nat):Int),y'),?_,rfl,g2.mono fun i' j' h1 h2 h3=>by omega⟩;have c1:(i:Int)>=0:=by omega
  have hW:W ((i:Int)-1)=(w.length:Int)-((d+1:Nat):Int):=by rw [n3 (by omega) (by omega)];omega
  unfold h0z;simp only [c1,decide_true,if_true,g1,G0,hW]
 ·obtain ⟨s1,Can⟩:=s;obtain ⟨h0,T⟩:=hI;simp only at h0 T;subst h0;have c1:¬ (w.length:Int)-((w.length+1:Nat):Int)>=0:=by omega
  unfold h0z;simp only [c1,decide_false,false_eq_true,if_false];exact ⟨_,rfl,T.mono fun i' j' h1 h2 h3=>by omega⟩
theorem w0G {l:List C0} {w:List Int} {t:Old.Tm} (ht:Old.O2 l t) (hw:∀ x∈l,o3 x) (hb:∀ x∈w,Z5 .u8 x) (hN:w.length<=64) (hf:2000<F) :
  ∃ Can,i0J F l w=some ⟨(w.length:Int),Can⟩/\Can.length=l.length/\∀ lo s,Old.At l lo s->c0F Can w.length (s.top lo) (den w s):=by
 have h400:=ht.le;have hln:=ht.len;have hp:=n0B (step:=k0r F l w) (fun q s=>s.1=(q:Int)/\s.2.1=(w.length:Int)/\s.2.2.length=q/\∀ lo s',Old.At l lo s'->s'.top lo<q->c0F s.2.2 w.length (s'.top lo) (den w s'))
  (fun r=>r.1=(w.length:Int)/\r.2.length=l.length/\∀ lo s',Old.At l lo s'->s'.top lo<l.length->c0F r.2 w.length (s'.top lo) (den w s')) (n:=l.length) (fun q s hq hI=>?_) (fun s hI=>?_) l.length 0 (0,((w.length:Int),[])) F (by omega) ⟨rfl,rfl,rfl,fun lo s' _ h=>by omega⟩ (by omega)
 ·obtain ⟨⟨N2,Can⟩,g1,g2,g3,g4⟩:=hp;simp only at g2 g3 g4;subst g2;refine ⟨Can,?_,g3,fun lo s hat=>g4 lo s hat ?_⟩
  ·unfold i0J;rw [g1];rfl
  ·have:=hat.len;have:=s.size_pos;unfold Old.Tm.top;omega
 ·obtain ⟨s1,s2,Can⟩:=s;obtain ⟨h0,h1,h2,h3⟩:=hI;simp only at h0 h1 h2 h3;subst h0;subst h1;have c1:(q:Int)<(l.length:Int):=by omega
  have hm:(w.length+1)*(w.length+1)<=65*65:=Nat.mul_le_mul (by omega) (by omega);have hW:W ((W ((w.length:Int)+1))*(W ((w.length:Int)+1)))=(((w.length+1)*(w.length+1):Nat):Int):=by
   rw [G3 (i:=w.length) (by omega)];have e:((w.length+1:Nat):Int)*((w.length+1:Nat):Int)=(((w.length+1)*(w.length+1):Nat):Int):=by simp
   rw [e,n3 (by omega) (by omega)]
  have hmk:V2 1 (((w.length+1)*(w.length+1):Nat):Int)=true:=by
   have h5:∀ M:Nat,M<=4225->V2 1 (M:Int)=true:=fun M hM=>by simp [V2];omega
   exact h5 _ hm
  have hap:I0 24 Can [List.replicate ((w.length+1)*(w.length+1)) false]=true:=by simp [I0];omega
  have T0:a02 l w (Can++[List.replicate ((w.length+1)*(w.length+1)) false]) q fun i' _=>w.length<i':=by
   refine ⟨by simp [h2],fun lo s hat hlt=>?_,?_,fun lo s _ _ i j h4 h5 h6=>by omega⟩
   ·have h4:=h3 lo s hat hlt;unfold c0F at h4 ⊢;rw [b0u (by omega) (by omega)];exact h4
   ·rw [c08 h2.symm,List.length_replicate]
  obtain ⟨y',g1,g2⟩:=z0O (F:=F) ht hw hb hN hf hq T0;refine .inl ⟨(((q+1:Nat):Int),((w.length:Int),y')),?_,rfl,rfl,g2.len,fun lo s hat hlt=>?_⟩
  ·unfold k0r;simp only [c1,decide_true,if_true,hW,hmk,Int.toNat_natCast,hap,g1,G0,G3 (i:=q) (by omega)]
  ·by_cases e:s.top lo=q
   ·rw [e];exact ⟨g2.row,fun i j h4 h5=>g2.new lo s hat e i j h4 h5 trivial⟩
   ·exact g2.old lo s hat (by omega)
 ·obtain ⟨s1,s2,Can⟩:=s;obtain ⟨h0,h1,h2,h3⟩:=hI;simp only at h0 h1 h2 h3;subst h0;subst h1;have c1:¬ (l.length:Int)<(l.length:Int):=by omega
  unfold k0r;simp only [c1,decide_false,false_eq_true,if_false];exact ⟨_,rfl,rfl,h2,h3⟩
end
def T5 (c:Nat->Bool):Nat->Nat
 |0=>0
 |k+1=>if c (k+1) then k+1 else T5 c k
theorem j0s {c:Nat->Bool}:∀ {j k:Nat},k<=j->c k=true->c (T5 c j)=true/\k<=T5 c j/\T5 c j<=j
 |
  0,k,h,hc=>by
  have:k=0:=by omega
  subst this;exact ⟨hc,le_refl _,le_refl _⟩
 |
  j+1,k,h,hc=>by
  unfold T5;cases e:c (j+1) with
  |true=>rw [if_pos rfl];exact ⟨e,h,le_refl _⟩
  |
   false=>
   rw [if_neg (by simp)];have hk:k<=j:=by
    rcases Nat.lt_or_ge j k with h2 | h2
    ·have:k=j+1:=by omega
     subst this;rw [e] at hc;cases hc
    ·exact h2
   obtain ⟨h1,h2,h3⟩:=j0s (j:=j) hk hc;exact ⟨h1,h2,by omega⟩
theorem n0k {step:Int->Option (V0 Int Int)} (c:Nat->Bool) {lo:Nat} (hlo:c lo=true):∀ (j:Nat),lo<=j->(∀ k,lo<=k->k<=j->step (k:Int)=some (if c k then .done (k:Int) else .next ((k:Int)-1)))->∀ fu,j<fu->iter step fu (j:Int)=some (T5 c j:Int)
 |
  0,h,hs,fu,hfu=>by
  obtain ⟨fu,rfl⟩:∃ m,fu=m+1:=⟨fu-1,by omega⟩
  have h0:lo=0:=by omega
  subst h0;have:=hs 0 (le_refl _) (le_refl _);rw [hlo] at this;exact a0o this
 |
  j+1,h,hs,fu,hfu=>by
  obtain ⟨fu,rfl⟩:∃ m,fu=m+1:=⟨fu-1,by omega⟩
  have h1:=hs (j+1) h (le_refl _);unfold T5;cases e:c (j+1) with
  |
   true=>
   rw [e] at h1;rw [a0o h1];rfl
  |
   false=>
   rw [e] at h1;have hne:lo≠j+1:=fun hh=>by rw [hh] at hlo;rw [e] at hlo;cases hlo
   have e2:((j+1:Nat):Int)-1=(j:Int):=by omega
   rw [e0m h1,e2,n0k c hlo j (by omega) (fun k k1 k2=>hs k k1 (by omega)) fu (by omega)];simp
def b0r (g:Nat->Nat->List Z1) (f:Nat->Nat->Bool):Nat->Nat->Nat->List Z1
 |0,_,_=>[]
 |n+1,i,j=>if i<j then g i (T5 (fun k=>f i k&&K5 f k j) j)++b0r g f n (T5 (fun k=>f i k&&K5 f k j) j) j else []
def M3 (w:List Int):Old.Tm->Nat->Nat->Nat->Nat->List Z1
 |.eps,lo,deep,i,j=>[⟨(deep:Int),(Old.Tm.top .eps lo:Int),(i:Int),(j:Int)⟩]
 |.leaf s,lo,deep,i,j=>[⟨(deep:Int),(Old.Tm.top (.leaf s) lo:Int),(i:Int),(j:Int)⟩]
 |.cat a b,lo,deep,i,j=>(⟨(deep:Int),(Old.Tm.top (.cat a b) lo:Int),(i:Int),(j:Int)⟩:Z1) :: (M3 w a lo (deep+1) i (T5 (fun k=>den w a i k&&den w b k j) j)++M3 w b (lo+a.size) (deep+1) (T5 (fun k=>den w a i k&&den w b k j) j) j)
 |.alt a b,lo,deep,i,j=>(⟨(deep:Int),(Old.Tm.top (.alt a b) lo:Int),(i:Int),(j:Int)⟩:Z1) :: if den w a i j then M3 w a lo (deep+1) i j else M3 w b (lo+a.size) (deep+1) i j
 |.star a,lo,deep,i,j=>(⟨(deep:Int),(Old.Tm.top (.star a) lo:Int),(i:Int),(j:Int)⟩:Z1) :: b0r (fun i k=>M3 w a lo (deep+1) i k) (den w a) (j-i) i j
 |.maybe a,lo,deep,i,j=>(⟨(deep:Int),(Old.Tm.top (.maybe a) lo:Int),(i:Int),(j:Int)⟩:Z1) :: if i<j then M3 w a lo (deep+1) i j else []
 |.group m a,lo,deep,i,j=>(⟨(deep:Int),(Old.Tm.top (.group m a) lo:Int),(i:Int),(j:Int)⟩:Z1) :: M3 w a lo (deep+1) i j
 |.iter a,lo,deep,i,j=>(⟨(deep:Int),(Old.Tm.top (.iter a) lo:Int),(i:Int),(j:Int)⟩:Z1) :: M3 w a lo (deep+1) i j
theorem d0k (w:List Int):∀ (s:Old.Tm) (i j:Nat),den w s i j=true->i<=j
 |.eps,i,j,h=>by
            have:i=j:=by simpa [den] using h
            omega
 |
  .leaf st,i,j,h=>by
  simp only [den,and_eq_true,beq_iff_eq] at h;omega
 |
  .cat a b,i,j,h=>by
  simp only [den,any_eq_true,mem_range,and_eq_true,decide_eq_true_eq] at h;obtain ⟨k,h1,h2,_⟩:=h;omega
 |
  .alt a b,i,j,h=>by
  simp only [den,or_eq_true] at h;rcases h with h | h
  ·exact d0k w a i j h
  ·exact d0k w b i j h
 |
  .star a,i,j,h=>by
  simp only [den] at h;rw [f0k] at h;simp only [or_eq_true,beq_iff_eq,any_eq_true,mem_range,and_eq_true,decide_eq_true_eq] at h;rcases h with h | ⟨k,h1,h2,_⟩<;>omega
 |
  .maybe a,i,j,h=>by
  simp only [den,or_eq_true,beq_iff_eq] at h;rcases h with h | h
  ·omega
  ·exact d0k w a i j h
 |.group _ a,i,j,h=>d0k w a i j h
 |.iter a,i,j,h=>d0k w a i j h
theorem t0Q {f:Nat->Nat->Bool} {i j:Nat} (h:K5 f i j=true) (hij:i<j):(f i (T5 (fun k=>f i k&&K5 f k j) j)=true/\K5 f (T5 (fun k=>f i k&&K5 f k j) j) j=true)/\i<T5 (fun k=>f i k&&K5 f k j) j/\T5 (fun k=>f i k&&K5 f k j) j<=j:=by
 rw [f0k] at h;have hne:(i==j)=false:=by rw [beq_eq_false_iff_ne];omega
 rw [hne,Bool.false_or,any_eq_true] at h;obtain ⟨k,h1,h2⟩:=h;simp only [and_eq_true,decide_eq_true_eq] at h2;have h1:=mem_range.1 h1;obtain ⟨g1,g2,g3⟩:=j0s (c:=fun k=>f i k&&K5 f k j) (j:=j) (k:=k) (by omega) (by simp [h2.2.1,h2.2.2]);simp only [and_eq_true] at g1;exact ⟨g1,by omega,g3⟩
theorem r0V {g:Nat->Nat->List Z1} {f:Nat->Nat->Bool} {m:Nat} (hg:∀ i k,f i k=true->i<k->(g i k).length<=m*(k-i)):∀ (n i j:Nat),K5 f i j=true->(b0r g f n i j).length<=m*(j-i)
 |0,i,j,_=>by simp [b0r]
 |
  n+1,i,j,h=>by
  unfold b0r
  by_cases hij:i<j
  ·rw [if_pos hij];obtain ⟨⟨g1,g2⟩,g3,g4⟩:=t0Q h hij;generalize T5 (fun k=>f i k&&K5 f k j) j=k at *;have h1:=hg i k g1 g3;have h2:=r0V hg n k j g2;have e:m*(k-i)+m*(j-k)=m*(j-i):=by rw [<-Nat.mul_add];congr 1;omega
   rw [List.length_append];omega
  ·rw [if_neg hij];simp
theorem p0C {w:List Int} {a b:Old.Tm} {i j:Nat} (h:den w (.cat a b) i j=true):(den w a i (T5 (fun k=>den w a i k&&den w b k j) j)=true/\den w b (T5 (fun k=>den w a i k&&den w b k j) j) j=true)/\i<=T5 (fun k=>den w a i k&&den w b k j) j/\T5 (fun k=>den w a i k&&den w b k j) j<=j:=by
 simp only [den,any_eq_true,mem_range,and_eq_true,decide_eq_true_eq] at h;obtain ⟨k,h1,h2,h3,h4⟩:=h;obtain ⟨g1,g2,g3⟩:=j0s (c:=fun k=>den w a i k&&den w b k j) (j:=j) (k:=k) (by omega) (by simp [h3,h4]);simp only [and_eq_true] at g1;exact ⟨g1,by omega,g3⟩
theorem b0C (w:List Int):∀ (s:Old.Tm) (lo deep i j:Nat),den w s i j=true->(M3 w s lo deep i j).length<=s.size*max (j-i) 1
 |.eps,lo,deep,i,j,h=>by simp [M3,Old.Tm.size];omega
 |.leaf s,lo,deep,i,j,h=>by simp [M3,Old.Tm.size];omega
 |
  .cat a b,lo,deep,i,j,h=>by
  obtain ⟨⟨g1,g2⟩,g3,g4⟩:=p0C h;unfold M3;generalize T5 (fun k=>den w a i k&&den w b k j) j=k at *;have h1:=b0C w a lo (deep+1) i k g1;have h2:=b0C w b (lo+a.size) (deep+1) k j g2;have h3:a.size*max (k-i) 1<=a.size*max (j-i) 1:=Nat.mul_le_mul_left _ (by omega);have h4:b.size*max (j-k) 1<=b.size*max (j-i) 1:=Nat.mul_le_mul_left _ (by omega);simp only [length_cons,List.length_append,Old.Tm.size,add_mul,one_mul];omega
 |
  .alt a b,lo,deep,i,j,h=>by
  unfold M3;simp only [length_cons,Old.Tm.size,add_mul,one_mul];cases c:den w a i j with
  |
   true=>
   have h1:=b0C w a lo (deep+1) i j c;rw [if_pos rfl];omega
  |
   false=>
   have hb:den w b i j=true:=by
    simp only [den,c,Bool.false_or] at h;exact h
   have h1:=b0C w b (lo+a.size) (deep+1) i j hb;rw [if_neg (by simp)];omega
 |
  .star a,lo,deep,i,j,h=>by
  unfold M3;have h1:=r0V (g:=fun i k=>M3 w a lo (deep+1) i k) (f:=den w a) (m:=a.size) (fun i k h1 h2=>by
   have:=b0C w a lo (deep+1) i k h1;rw [show max (k-i) 1=k-i by omega] at this;exact this) (j-i) i j h
  have h2:a.size*(j-i)<=a.size*max (j-i) 1:=Nat.mul_le_mul_left _ (by omega);simp only [length_cons,Old.Tm.size,add_mul,one_mul];omega
 |
  .maybe a,lo,deep,i,j,h=>by
  unfold M3;simp only [length_cons,Old.Tm.size,add_mul,one_mul]
  by_cases c:i<j
  ·rw [if_pos c];have ha:den w a i j=true:=by
    simp only [den] at h;have:(i==j)=false:=by rw [beq_eq_false_iff_ne];omega
    rw [this,Bool.false_or] at h;exact h
   have h1:=b0C w a lo (deep+1) i j ha;omega
  ·rw [if_neg c];simp;omega
 |
  .group _ a,lo,deep,i,j,h=>by
  have h1:=b0C w a lo (deep+1) i j h;unfold M3;simp only [length_cons,Old.Tm.size,add_mul,one_mul];omega
 |
  .iter a,lo,deep,i,j,h=>by
  have h1:=b0C w a lo (deep+1) i j h;unfold M3;simp only [length_cons,Old.Tm.size,add_mul,one_mul];omega
