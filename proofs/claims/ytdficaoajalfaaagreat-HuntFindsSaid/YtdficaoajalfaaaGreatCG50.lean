/- P. Its conditions: none. -/
import Derived.Test.YtdficaoajalfaaaGreatCG49
import Derived.Test.YtdficaoajalfaaaGreatCG46
open List (mem_cons_of_mem mem_cons mem_filter mem_map)
open Bool (false_eq_true)
set_option linter.all false
theorem Go.V' {P:Prop}(h:P:=by unfold Old.Tm.top;simp only[Old.Tm.size];omega):P:=h
namespace Go.Proofs.YtdficaoajalfaaaGreat
open Go.V Go.RowKit Old Go.X
def m09 {fD:Nat->Nat->Int}{N:Nat->Nat×Pp}:∀(of:List Nat) (d:Nat),(∀i k,i∈d :: of->k∈d :: of->i≠k->(0<fD i k->LT (N i) (N k))/\(¬0<fD i k->LT (N k) (N i)))->
  ∃j:Nat,of.foldl (a0U fD) (d:Int)=(j:Int)/\j∈d :: of/\∀i,i∈d :: of->i=j\/LT (N j) (N i)
 |[],d,_=>⟨d,rfl,Z9,fun i hi=>.inl (by simpa using hi)⟩
 |x :: r,d,h=>by
  have u:¬((d:Int)<0):=O'
  have q:a0U fD (d:Int) x=if 0<fD x d then(x:Int)else(d:Int):=by unfold a0U;rw[if_neg u,Int.toNat_natCast]
  rw[List.foldl_cons,q]
  by_cases c:0<fD x d
  ·rw[if_pos c];obtain⟨j,p,o,f⟩:=m09 r x (fun i k hi hk=>h i k (mem_cons_of_mem _ hi) (mem_cons_of_mem _ hk));refine⟨j,p,mem_cons_of_mem _ o,fun i hi=>?_⟩;rcases mem_cons.1 hi with rfl|hi
   ·by_cases g:x=i
    ·subst g;exact f x Z9
    ·have h1:=(h x i Z9 Z9 g).1 c;rcases f x Z9 with e|e
     ·exact .inr (by rw[<-e];exact h1)
     ·exact .inr (e.trans h1)
   ·exact f i hi
  ·rw[if_neg c];obtain⟨j,p,o,f⟩:=m09 r d (fun i k hi hk=>h i k (by rcases mem_cons.1 hi with rfl|hi<;>simp[*]) (by rcases mem_cons.1 hk with rfl|hk<;>simp[*]));refine⟨j,p,by rcases mem_cons.1 o with rfl|o<;>simp[*],fun i hi=>?_⟩;rcases mem_cons.1 hi with rfl|hi
   ·exact f i Z9
   ·rcases mem_cons.1 hi with rfl|hi
    ·by_cases g:i=d
     ·subst g;exact f i Z9
     ·have h1:=(h i d Z9 Z9 g).2 c;rcases f d Z9 with e|e
      ·exact .inr (by rw[<-e];exact h1)
      ·exact .inr (e.trans h1)
    ·exact f i (mem_cons_of_mem _ hi)
section
variable {F:Nat}{l:List C0}{n:Nat}{a:List y0}{b:Nat->List y0}{e:Nat->y0×Bool}{z:y0×Bool}{t:Tm}{w:List Int}{m:Nat}{s:Cs}{G:Nat->Nat×Pp}{A B:Nat->Prop}
def v0u {w:List Int}{s:Tm}{i j:Nat}{p:Pp}(u:PU w s i j p):∀lo,L4 s lo p≠[]:=by
 induction u with
 |more _ _ _ c=>exact c
 |_=>intro lo;simp[L4]
def PU.ends (K:H5 l n a b e z F)(hw:∀x∈l,o3 x)(c:O2 l t){i j:Nat}{p:Pp}(u:PU w t i j p):(e (Y0 t p)).2=X4 t p/\(X4 t p=true->(e (Y0 t p)).1.Steps=L4 t 0 p):=by
 rw[(u.ways K hw c).2.1];have h:=v0u u 0;cases X4 t p<;>simp[o8,h]
structure y0i (w:List Int)(l:List C0)(t:Tm)(m:Nat)(B:Nat->Prop)(tags:List Int)(i:Nat)(P:Pt):Prop where
 fit:Fit w t i P
 wid:i+P.wid=m
 pos:0<P.wid
 tag:tags=r8 l (O7 l (i:Int)) (U3 t 0 i P)
 all:∀i' Q,B i'->Fit w t i' Q->i'+Q.wid=m->0<Q.wid->i<i'\/(i=i'/\(P=Q\/PA P Q))
def R7.K3 (I:R7 w l n t m s G A B)(K:H5 l n a b e z F)(hw:∀x∈l,o3 x)(ht:O2 l t):
  ((s.K3 l e).2=true->∃k P,k<s.pl.length/\y0i w l t m B (s.K3 l e).1 (G k).1 P)/\((s.K3 l e).2=false->∀i Q,B i->Fit w t i Q->i+Q.wid=m->0<Q.wid->False):=by
 have p:∀k,k<s.pl.length->((e (s.pl.getD k 0)).2=true->∃P,Cl O5 t (G k).2 P):=fun k hk h=>by
  obtain⟨j,_,u,_,hp,_⟩:=I.run k hk;rw[hp,(u.ends K hw ht).1]at h;exact u.cl h
 have cover:∀i Q,B i->Fit w t i Q->i+Q.wid=m->0<Q.wid->∃k,k∈W7 e s.pl s.pl.length/\∀P,Cl O5 t (G k).2 P->(G k).1<i\/((G k).1=i/\(P=Q\/PA P Q)):=by
  intro i Q hB hQ hm U;obtain⟨Y,j,y1,y2,y3⟩:=hQ.rch U;obtain⟨uY,rY⟩:=y1.ok;obtain⟨k,o,k2,v⟩:=I.cov i j Y O' hB y1;have R:=(uY.ends K hw ht).1;rw[y3.may,<-k2]at R;refine⟨k,mem_filter.2 ⟨List.mem_range.2 o,R⟩,fun P g=>?_⟩;rcases v with v|⟨v,k4⟩
  ·exact .inl v
  ·refine .inr ⟨v,?_⟩;simp only at v k4;rcases k4 with k4|⟨d,k4⟩
   ·rw[k4]at g;exact(y3.first g).2
   ·obtain⟨j',c0,u,_⟩:=I.run k o;have:j'=j:=O'
    subst this;rw[v]at u;exact .inr (k4.close zE u uY g.all y3)
 cases hc:W7 e s.pl s.pl.length with
 |nil=>
  have hb:s.K3 l e=([],false):=by unfold Cs.K3 e0c;rw[hc];rfl
  rw[hb];refine⟨fun h=>absurd h Z9,fun _ i Q h1 R h3 h4=>?_⟩;obtain⟨k,o,_⟩:=cover i Q h1 R h3 h4;rw[hc]at o;simp at o
 |cons j0 of=>
  have c:∀k,k∈j0 :: of->k<s.pl.length/\(e (s.pl.getD k 0)).2=true:=fun k hk=>by
   rw[<-hc]at hk;exact⟨j0D hk,(mem_filter.1 hk).2⟩
  have b3:∀i k,i<s.pl.length->k<s.pl.length->i≠k->0<s.fD i k->LT (G i) (G k):=fun i k hi hk f h=>by
   rcases I.ok.rk.d1 i k hi hk f with h1|h1
   ·exact(I.rel i k hi hk h1).lt
   ·omega
  have b4:∀i k,i<s.pl.length->k<s.pl.length->i≠k->¬0<s.fD i k->LT (G k) (G i):=fun i k hi hk f h=>by
   rcases I.ok.rk.d1 i k hi hk f with h1|h1
   ·omega
   ·exact(I.rel k i hk hi (by rw[I.ok.rk.dn i k hi hk,h1];rfl)).lt
  obtain⟨j,e1,e2,e3⟩:=m09 (fD:=s.fD) (N:=G) of j0 (fun i k hi hk f=>⟨b3 i k (c i hi).1 (c k hk).1 f,b4 i k (c i hi).1 (c k hk).1 f⟩);have c3:q9 s.fD (W7 e s.pl s.pl.length)=(j:Int):=by
   rw[hc];unfold q9;rw[List.foldl_cons];have:a0U s.fD (-1) j0=(j0:Int):=by unfold a0U;rw[if_pos O']
   rw[this];exact e1
  obtain⟨hj,y⟩:=c j e2;obtain⟨P,g⟩:=p j hj y;obtain⟨jj,b5,u,r,hp,hv⟩:=I.run j hj;have J:s.K3 l e=(S6 s.at_ (-1) (gt s.vals (j:Int)) (N4 l (e (s.pl.getD j 0)).1.Steps),true):=by
   unfold Cs.K3 e0c;rw[c3,if_neg O',Int.toNat_natCast]
  rw[J];refine⟨fun _=>⟨j,P,hj,?_⟩,fun h=>absurd h Z9⟩;have c4:=g.wid zC u;refine⟨g.fit e1C u r,O',g.pos zC u,?_,fun i' Q h1 R h3 h4=>?_⟩
  ·have b1:=n0e u 0 g;rw[hp,(u.ends K hw ht).1]at y;simp only;rw[hp,(u.ends K hw ht).2 y,hv,I.at_,b1,<-b5];unfold l0i fwd;rw[<-List.cons_append,b0i,i0c]
  ·obtain⟨k,o,k2⟩:=cover i' Q h1 R h3 h4;rw[hc]at o;obtain⟨hk,b2⟩:=c k o;obtain⟨P',q⟩:=p k hk b2;have C:=k2 P' q;rcases e3 k o with h5|h5
   ·subst h5;rw[g.det q];exact C
   ·rcases h5 with h5|⟨h5,d,h6⟩
    ·rcases C with C|⟨C,_⟩
     ·exact .inl O'
     ·exact .inl O'
    ·rcases C with C|⟨C,hq2⟩
     ·exact .inl O'
     ·obtain⟨j',c0,u',_⟩:=I.run k hk;have:j'=jj:=O'
      subst this;rw[<-h5]at u';have a1:=h6.close zC u u' g q;refine .inr ⟨O',.inr ?_⟩;rcases hq2 with hq2|hq2
      ·rw[<-hq2];exact a1
      ·exact a1.trans hq2
end
def i6 (N i j:Nat):Nat:=i*(N+1)+j
def p08 {N i j:Nat}(hi:i<=N)(c:j<=N):i6 N i j<(N+1)*(N+1):=by
 unfold i6;have h1:(i+1)*(N+1)<=(N+1)*(N+1):=Nat.mul_le_mul_right _ O';rw[Nat.succ_mul]at h1;omega
def c0F (Can:List (List Bool))(N q:Nat)(f:Nat->Nat->Bool):Prop:=(gt Can (q:Int)).length=(N+1)*(N+1)/\∀i j:Nat,i<=j->j<=N->gt (gt Can (q:Int)) (i6 N i j:Int)=f i j
section
variable {F:Nat}
def u05 {N i j:Nat}(d:N<=64)(hi:i<=N)(c:j<=N):W ((W ((i:Int)*(W ((N:Int)+1))))+(j:Int))=(i6 N i j:Int):=by
 have h1:i*(N+1)<=64*65:=Nat.mul_le_mul O' O';rw[G3 (i:=N) O'];have e:(i:Int)*((N+1:Nat):Int)=((i*(N+1):Nat):Int):=Z9
 rw[e,n3 (n:=((i*(N+1):Nat):Int)) O' O',n3 O' O'];unfold i6;omega
def t0W {Can:List (List Bool)}{N q i j:Nat}(f:q<Can.length)(hl:(gt Can (q:Int)).length=(N+1)*(N+1))(d:N<=64)(hi:i<=N)(c:j<=N):a7 F ⟨(N:Int),Can⟩ (q:Int) (i:Int) (j:Int)=some (gt (gt Can (q:Int)) (i6 N i j:Int)):=by
 have g:=p08 hi c;unfold a7;have h1:B0 Can (q:Int)=true:=R0 O' O';simp only[h1,if_true,u05 d hi c,R0 (l:=gt Can (q:Int)) (i:=(i6 N i j:Int)) O' O']
def b0S {Can:List (List Bool)}{N q:Nat}{f:Nat->Nat->Bool}(h:c0F Can N q f)(g:q<Can.length)(k:N<=64){i j:Nat}(c:i<=j)(d:j<=N):a7 F ⟨(N:Int),Can⟩ (q:Int) (i:Int) (j:Int)=some (f i j):=by
 rw[t0W g h.1 k O' d,h.2 i j c d]
def one_den {l:List C0}{w:List Int}(hw:∀x∈l,o3 x)(hb:∀x∈w,Z5 .u8 x)(q:w.length<=64)(hf:2000<F){Can:List (List Bool)}{lo:Nat}{s:Old.Tm}(d:Old.At l lo s)(hlen:s.top lo<Can.length)
  (f:∀lo' s',Old.At l lo' s'->s'.top lo'<s.top lo->c0F Can w.length (s'.top lo') (den w s')) {i j:Nat} (o:i<=j) (C:j<=w.length)
  (r:(gt Can (s.top lo:Int)).length=(w.length+1)*(w.length+1)/\∀k:Nat,i<k->k<=j->gt (gt Can (s.top lo:Int)) (i6 w.length k j:Int)=den w s k j):
  g0H F l w ⟨(w.length:Int),Can⟩ (s.top lo:Int) (i:Int) (j:Int)=some (den w s i j):=by
 have hg:=d.D2;have b4:=d.len;have b2:=s.size_pos;have b3:s.top lo<l.length:=by unfold Old.Tm.top;omega
 have U:B0 l (s.top lo:Int)=true:=R0 O' O';have g:((i:Int)==(j:Int))=(i==j):=by rw[Bool.eq_iff_iff];simp only[beq_iff_eq];omega
 unfold g0H;rw[hg];simp only[U,if_true];cases s with
 |eps=>simp only[Old.Tm.node,beq_self_eq_true,if_true,g];rfl
 |leaf st=>
  simp only[q0,Old.Tm.node,show((2:Int)==1)=false from rfl,beq_self_eq_true,G3 (i:=i) O'];have v:((j:Int)==((i+1:Nat):Int))=(j==i+1):=by rw[Bool.eq_iff_iff];simp only[beq_iff_eq];omega
  rw[v];show _=some (j==i+1&&(decide (i<w.length)&&hasB st (gt w (i:Int))));cases c:j==i+1 with
  |false=>simp only[q0,Bool.false_and]
  |true=>
   have b5:j=i+1:=by simpa using c
   have hi:i<w.length:=O'
   have J:=hw _ (List.mem_of_getElem? d.top);have a1:st.length=4/\∀y∈st,Z5 .u64 y:=J.2.2.2.2;simp only[q0,R0 (l:=w) (i:=(i:Int)) O' O',(p0t F a1 (hb _ (gtm hi))).2,hi,Bool.true_and]
 |cat a b=>
  obtain⟨ha,u,_⟩:=(Old.At.bin (a:=a) (b:=b) rfl rfl).1 d;have R:=a.size_pos;have pb:=b.size_pos;have h:=f lo a ha V';have rb:=f (lo+a.size) b u V';have p:a.top lo<Can.length:=by unfold Old.Tm.top at hlen ⊢;simp only[Old.Tm.size]at hlen;omega
  have lb:b.top (lo+a.size)<Can.length:=by unfold Old.Tm.top at hlen ⊢;simp only[Old.Tm.size]at hlen;omega
  simp only[q0,Old.Tm.node,show((3:Int)==1)=false from rfl,show((3:Int)==2)=false from rfl,beq_self_eq_true];have I:=t0F (step:=i0M F l ⟨(w.length:Int),Can⟩ ((Old.Tm.cat a b).top lo:Int) (i:Int) (j:Int)) (lo:=i) (hi:=j+1) (fun k=>den w a i k&&den w b k j) (fun k k1 k2=>?_) ?_ O' (fu:=F) O'
  ·rw[I];show _=some ((List.range (j+1)).any fun k=>decide (i<=k)&&(den w a i k&&den w b k j));cases(List.range (j+1)).any fun k=>decide (i<=k)&&(den w a i k&&den w b k j)<;>rfl
  ·have h1:(k:Int)<=(j:Int):=O'
   have e1:=b0S (F:=F) h p q k1 O';have e2:=b0S (F:=F) rb lb q (show k<=j from O') C;unfold i0M;rw[hg];simp only[q0,Old.Tm.node,h1,e1,e2,G3 (i:=k) O'];cases den w a i k
   ·simp only[q0,Bool.false_and]
   ·simp only[if_true,G0,Bool.true_and];cases den w b k j<;>rfl
  ·have h1:¬((j+1:Nat):Int)<=(j:Int):=O'
   unfold i0M;simp only[q0,h1]
 |alt a b=>
  obtain⟨ha,u,_⟩:=(Old.At.bin (a:=a) (b:=b) rfl rfl).1 d;have R:=a.size_pos;have pb:=b.size_pos;have h:=f lo a ha V';have rb:=f (lo+a.size) b u V';have p:a.top lo<Can.length:=by unfold Old.Tm.top at hlen ⊢;simp only[Old.Tm.size]at hlen;omega
  have lb:b.top (lo+a.size)<Can.length:=by unfold Old.Tm.top at hlen ⊢;simp only[Old.Tm.size]at hlen;omega
  simp only[q0,Old.Tm.node,show((4:Int)==1)=false from rfl,show((4:Int)==2)=false from rfl,show((4:Int)==3)=false from rfl,beq_self_eq_true,b0S (F:=F) h p q o C,b0S (F:=F) rb lb q o C];show _=some (den w a i j||den w b i j);cases den w a i j<;>rfl
 |star a=>
  obtain⟨ha,_⟩:=(Old.At.un (a:=a) rfl rfl).1 d;have R:=a.size_pos;have h:=f lo a ha V';have p:a.top lo<Can.length:=by unfold Old.Tm.top at hlen ⊢;simp only[Old.Tm.size]at hlen;omega
  simp only[q0,Old.Tm.node,show((5:Int)==1)=false from rfl,show((5:Int)==2)=false from rfl,show((5:Int)==3)=false from rfl,show((5:Int)==4)=false from rfl,beq_self_eq_true,g,G3 (i:=i) O'];show _=some (K5 (den w a) i j);rw[f0k];cases c:i==j with
  |true=>rfl
  |false=>
   have b1:i≠j:=by simpa using c
   simp only[false_eq_true,if_false,Bool.false_or];have I:=t0F (step:=j09 F l ⟨(w.length:Int),Can⟩ ((Old.Tm.star a).top lo:Int) (i:Int) (j:Int)) (lo:=i+1) (hi:=j+1) (fun k=>den w a i k&&K5 (den w a) k j) (fun k k1 k2=>?_) ?_ O' (fu:=F) O'
   ·rw[I];have e:((List.range (j+1)).any fun k=>decide (i+1<=k)&&(den w a i k&&K5 (den w a) k j))=((List.range (j+1)).any fun k=>decide (i<k)&&(den w a i k&&K5 (den w a) k j)):=rfl;rw[e];cases(List.range (j+1)).any fun k=>decide (i<k)&&(den w a i k&&K5 (den w a) k j)<;>rfl
   ·have h1:(k:Int)<=(j:Int):=O'
    have e1:=b0S (F:=F) h p q (show i<=k from O') O';have e2:a7 F ⟨(w.length:Int),Can⟩ ((Old.Tm.star a).top lo:Int) (k:Int) (j:Int)=some (K5 (den w a) k j):=by
     rw[t0W hlen r.1 q O' C,r.2 k O' O'];rfl
    unfold j09;rw[hg];simp only[q0,Old.Tm.node,h1,e1,e2,G3 (i:=k) O'];cases den w a i k
    ·simp only[q0,Bool.false_and]
    ·simp only[if_true,G0,Bool.true_and];cases K5 (den w a) k j<;>rfl
   ·have h1:¬((j+1:Nat):Int)<=(j:Int):=O'
    unfold j09;simp only[q0,h1]
 |maybe a=>
  obtain⟨ha,_⟩:=(Old.At.un (a:=a) rfl rfl).1 d;have R:=a.size_pos;have h:=f lo a ha V';have p:a.top lo<Can.length:=by unfold Old.Tm.top at hlen ⊢;simp only[Old.Tm.size]at hlen;omega
  simp only[q0,Old.Tm.node,show((6:Int)==1)=false from rfl,show((6:Int)==2)=false from rfl,show((6:Int)==3)=false from rfl,show((6:Int)==4)=false from rfl,show((6:Int)==5)=false from rfl,beq_self_eq_true,g,b0S (F:=F) h p q o C];show _=some (i==j||den w a i j);cases i==j<;>rfl
 |group m a=>
  obtain⟨ha,_⟩:=(Old.At.un (a:=a) rfl rfl).1 d;have R:=a.size_pos;have h:=f lo a ha V';have p:a.top lo<Can.length:=by unfold Old.Tm.top at hlen ⊢;simp only[Old.Tm.size]at hlen;omega
  simp only[q0,Old.Tm.node,show((7:Int)==1)=false from rfl,show((7:Int)==2)=false from rfl,show((7:Int)==3)=false from rfl,show((7:Int)==4)=false from rfl,show((7:Int)==5)=false from rfl,show((7:Int)==6)=false from rfl,b0S (F:=F) h p q o C];rfl
 |iter a=>
  obtain⟨ha,_⟩:=(Old.At.un (a:=a) rfl rfl).1 d;have R:=a.size_pos;have h:=f lo a ha V';have p:a.top lo<Can.length:=by unfold Old.Tm.top at hlen ⊢;simp only[Old.Tm.size]at hlen;omega
  simp only[q0,Old.Tm.node,show((8:Int)==1)=false from rfl,show((8:Int)==2)=false from rfl,show((8:Int)==3)=false from rfl,show((8:Int)==4)=false from rfl,show((8:Int)==5)=false from rfl,show((8:Int)==6)=false from rfl,b0S (F:=F) h p q o C];rfl
end
def w0W (l:List C0):List Int:=(List.replicate (l5 l).toNat (-2)).set 0 (-1)
def D0Y (l:List C0)(maps:List (List Int))(beg:Bool):List (List Int):=maps++if beg then[w0W l]else[]
def mkK (flag:Int)(pl:List Nat)(maps:List (List Int))(fB fD:Nat->Nat->Int):c00:=⟨flag,J2 pl,maps,D3 pl.length fB fD⟩
def stM (l:List C0)(a:List y0)(b:Nat->List y0)(pl:List Nat)(maps:List (List Int))(fB fD:Nat->Nat->Int)(beg:Bool)(r:Nat):List Int:=
 S6 (-1) (-2) (gt (D0Y l maps beg) (F4 a b pl fB fD beg r:Int)) (N4 l (K4 a b pl fB fD beg r).Steps)
section
variable {F:Nat}{l:List C0}{n:Nat}{a:List y0}{b:Nat->List y0}{e:Nat->y0×Bool}{z:y0×Bool}{pl:List Nat}{maps:List (List Int)}{fB fD:Nat->Nat->Int}{flag:Int}
end
def y0A (fB fD:Nat->Nat->Int)(c x:Nat):Bool:=x==c||(decide (fB x c>0)||decide (fD c x<0))
def m0J (fB fD:Nat->Nat->Int)(c k:Nat):List Nat:=(List.range k).filter (y0A fB fD c)
def D07 {fB fD:Nat->Nat->Int}{c k i:Nat}(h:i∈m0J fB fD c k):i<k:=List.mem_range.1 (mem_filter.1 h).1
def D0d (fB fD:Nat->Nat->Int)(c k:Nat):(m0J fB fD c k).Pairwise fun a b=>a<b:=List.Pairwise.filter _ List.pairwise_lt_range
section
variable {F:Nat}
end
section
variable {F:Nat}{l:List C0}{n:Nat}{a:List y0}{b:Nat->List y0}{e:Nat->y0×Bool}{z:y0×Bool}{pl:List Nat}{maps:List (List Int)}{fB fD:Nat->Nat->Int}{flag:Int}
structure Kd where
 flag:Int
 pl:List Nat
 maps:List (List Int)
 fB:Nat->Nat->Int
 fD:Nat->Nat->Int
def Kd.K (k:Kd):c00:=mkK k.flag k.pl k.maps k.fB k.fD
def Kd.T (k:Kd):Int×List Int×List (List Int)×T3:=(k.flag,J2 k.pl,k.maps,D3 k.pl.length k.fB k.fD)
def Kd.of (k:Kd)(c:Int)(st:List Nat):Kd:=⟨c,st.map fun i=>k.pl.getD i 0,st.map fun i:Nat=>gt k.maps (i:Int),fun i j=>k.fB (st.getD i 0) (st.getD j 0),fun i j=>k.fD (st.getD i 0) (st.getD j 0)⟩
def Kd.cut (e:Nat->y0×Bool)(k:Kd):Kd:=
 if q9 k.fD (W7 e k.pl k.pl.length)<0 then k else k.of 0 (m0J k.fB k.fD (q9 k.fD (W7 e k.pl k.pl.length)).toNat k.pl.length)
def e0t {k:Kd}(C:F6 l n k.pl k.maps k.fB k.fD):F6 l n (k.cut e).pl (k.cut e).maps (k.cut e).fB (k.cut e).fD:=by
 unfold Kd.cut;split
 ·exact C
 ·exact F0s C (D0d _ _ _ _) (fun i h=>D07 h)
end
def C0E (s:List Int)(v:Int):List Int:=if v=-2\/v∈s then s else s++[v]
def E01 (s r:List Int):List Int:=r.foldl C0E s
def ren (s:List Int)(v:Int):Int:=if v=-2 then -2 else(s.idxOf v:Int)
section
variable {F:Nat}
def w07 (maps:List (List Int)):List Int:=E01 [] maps.flatten
def E0V (maps:List (List Int)):List (List Int):=maps.map fun r=>r.map (ren (w07 maps))
end
def G0B {o:List Int}{j:Nat}{x:Int}(h:1<=j):gt (o.set j x) 0=gt o 0:=by
 unfold gt;rw[List.getD_eq_getElem?_getD,List.getD_eq_getElem?_getD];have:(0:Int).toNat=0:=rfl;rw[this,List.getElem?_set_ne O']
def J03 (now none_:Int)(o:List Int)(m:G2):gt (o5 now none_ o m) 0=gt o 0:=by
 unfold o5;split
 ·rfl
 ·rename_i h;have h1:1<=m.Group:=O'
  split
  ·exact G0B O'
  ·split
   ·exact G0B O'
   ·split
    ·rw[G0B O',G0B O']
    ·rfl
def G0G (now none_:Int):∀(marks:List G2) (o:List Int),gt (S6 now none_ o marks) 0=gt o 0
 |[],o=>rfl
 |m :: r,o=>by
  have h:=G0G now none_ r (o5 now none_ o m);rw[J03]at h;exact h
def H04 (l:List C0)(at_:Int):gt (O7 l at_) 0=at_:=by
 have d:=f0m l;unfold O7;obtain⟨t,c⟩:∃t:Nat,(l5 l).toNat=t+1:=⟨(l5 l).toNat-1,O'⟩
 rw[c];rfl
section
variable {F:Nat}{l:List C0}{n:Nat}{a:List y0}{b:Nat->List y0}{e:Nat->y0×Bool}{z:y0×Bool}
def I01 {at_:Int}{pl:List Nat}{vals:List (List Int)}{fB fD:Nat->Nat->Int}(C:F6 l n pl vals fB fD){beg:Bool}{b_:Int}{r:Nat}(f:r∈F1 l n a b pl b_ beg):
  (F4 a b pl fB fD beg r<pl.length/\gt (E9 l at_ vals beg) (F4 a b pl fB fD beg r:Int)=gt vals (F4 a b pl fB fD beg r:Int))\/(beg=true/\F4 a b pl fB fD beg r=pl.length/\gt (E9 l at_ vals beg) (F4 a b pl fB fD beg r:Int)=O7 l at_):=by
 have c:F4 a b pl fB fD beg r<A5 pl beg:=by rw[<-b0b a b];exact g0V (d0n f).2
 have d:=C.len
 by_cases h:F4 a b pl fB fD beg r<pl.length
 ·refine .inl ⟨h,?_⟩;unfold E9;exact b0u O' O'
 ·cases beg with
  |false=>unfold A5 at c;simp at c;exact absurd c h
  |true=>
   unfold A5 at c;simp only[if_true]at c;have e:F4 a b pl fB fD true r=pl.length:=O'
   refine .inr ⟨rfl,e,?_⟩;rw[e];unfold E9;exact c08 d.symm
def L0f {at_:Int}{pl:List Nat}{vals:List (List Int)}{fB fD:Nat->Nat->Int}(C:F6 l n pl vals fB fD)(d:(e0c l e at_ pl vals fD).2=true):(e0c l e at_ pl vals fD).1.length=(l5 l).toNat/\∃v∈vals,gt (e0c l e at_ pl vals fD).1 0=gt v 0:=by
 unfold e0c at d ⊢
 by_cases c:q9 fD (W7 e pl pl.length)<0
 ·rw[if_pos c]at d;cases d
 ·rw[if_neg c];rcases o0f (fD:=fD) (W7 e pl pl.length) (n:=pl.length) (fun i h=>j0D h)with hb2|⟨k,hb2,hk⟩
  ·rw[hb2]at c;exact absurd (show(-1:Int)<0 from O') c
  ·have hm:=gtm (l:=vals) (i:=k) (by rw[C.len];exact hk);rw[hb2];exact⟨by rw[h0s];exact C.row _ hm,_,hm,by rw[G0G]⟩
def J0L {at_:Int}(c:(U8 l z at_).2=true):(U8 l z at_).1.length=(l5 l).toNat/\gt (U8 l z at_).1 0=at_:=by
 unfold U8 at c ⊢
 by_cases d:z.2=true
 ·rw[if_pos d];exact⟨by rw[h0s,k0w],by rw[G0G,H04]⟩
 ·rw[if_neg d]at c;cases c
end
structure Hs where
 c:Cs
 tags:List Int
 to:Int
 is:Bool
section
variable (l:List C0)(n:Nat)(a:List y0)(b:Nat->List y0)(e:Nat->y0×Bool)(z:y0×Bool)
def Hs.zero:Hs:=⟨Cs.zero,(U8 l z 0).1,0,(U8 l z 0).2⟩
def Hs.R1 (h:Hs)(b_:Int):Cs:=h.c.step l n a b b_ (h.c.at_==0||!h.is)
def Hs.feed (h:Hs)(b_:Int):Hs:=
 if((h.R1 l n a b b_).K3 l e).2 then⟨(h.R1 l n a b b_).L1 (gt ((h.R1 l n a b b_).K3 l e).1 0),((h.R1 l n a b b_).K3 l e).1,(h.R1 l n a b b_).at_,true⟩
 else⟨h.R1 l n a b b_,h.tags,h.to,h.is⟩
def Hs.C (h:Hs):N3×List Int×Int×Bool:=(h.c.C l n a b e z,h.tags,h.to,h.is)
def Hs.H (h:Hs):e0w:=⟨h.c.C l n a b e z,h.tags,h.to,h.is⟩
def Hs.X (h:Hs):e0x:=⟨h.c.X l n a b e,h.tags,h.to,h.is⟩
end
def Hs.found (h:Hs):List G1×Bool:=if h.is then(a0x h.tags h.to,true)else([],false)
def Hs.over (h:Hs):Bool:=h.is&&(h.c.pl.length==0&&decide (h.c.at_>0))
structure f05 (l:List C0)(n:Nat)(h:Hs)(i:Nat):Prop where
 c:h0B l n h.c i
 t0:0<=h.to
 len:h.tags.length<=1000
 pos:∀v∈h.c.vals,0<=gt v 0
 is:h.is=true->h.tags.length=(l5 l).toNat/\0<=gt h.tags 0/\∀v∈h.c.vals,gt v 0<=gt h.tags 0
section
variable {F:Nat}{l:List C0}{n:Nat}{a:List y0}{b:Nat->List y0}{e:Nat->y0×Bool}{z:y0×Bool}
def I0M:f05 l n (Hs.zero l z) 0 where
 c:=y0F l n
 t0:=Int.le_refl _
 len:=B0Q
 pos:=by intro v h;cases h
 is:=fun h=>by
  obtain⟨h1,d⟩:=J0L (l:=l) (z:=z) (at_:=0) h;exact⟨h1,by show 0<=gt (U8 l z 0).1 0;omega,by intro v h;cases h⟩
def K0m (K:H5 l n a b e z F):e0B F l=some (.inr ((Hs.zero l z).C l n a b e z),0):=by
 unfold e0B;rw[x0i K.hR K.hn K.T K.f1 K.TF];have c:(⟨Y6 l n a b e z,0,0,[],[],⟨[],[]⟩⟩:N3)=B7 l n a b e z 0 0 [] [] (fun _ _=>0) (fun _ _=>0):=rfl;simp only[q0,show((0:Int) != 0)=false from rfl,c,x0K K];rfl
def J0h (K:H5 l n a b e z F):G0f F l=some ((Hs.zero l z).X l n a b e):=by
 unfold G0f;rw[L0v K.hR K.hn K.T K.f1 K.TF];have c:y0L l n a b e 0 0 [] [] ⟨[],[]⟩=R2 l n a b e 0 0 [] [] (fun _ _=>0) (fun _ _=>0):=rfl;simp only[G0,c,K0U K];rfl
def L0I {h:Hs}{i:Nat}(c:f05 l n h i)(d:2000<F):F0V F (h.C l n a b e z)=some (h.found,h.C l n a b e z):=by
 unfold F0V Hs.C Hs.found;cases hi:h.is with
 |false=>simp only[q0]
 |true=>simp only[q0,B0A c.len d]
def L01 {h:Hs}{i:Nat}(c:f05 l n h i)(d:2000<F):G0w F (h.X l n a b e)=some h.found:=by
 unfold G0w Hs.X Hs.found;cases hi:h.is with
 |false=>simp only[q0]
 |true=>simp only[q0,J0s c.len d]
def L0F {h:Hs}{i:Nat}(c:f05 l n h i):h.found.1.length<=1000:=by
 unfold Hs.found;split
 ·exact B0O _ _ c.len
 ·simp
def I0I (K:H5 l n a b e z F){s:Cs}{i:Nat}(h:h0B l n s i)(b_:Int)(beg:Bool):∀v∈(s.step l n a b b_ beg).vals,(∃u∈s.vals,gt v 0=gt u 0)\/(beg=true/\gt v 0=(i:Int)):=by
 intro v f;obtain⟨r,d,rfl⟩:=mem_map.1 f;unfold stV;rw[G0G];rcases I01 (at_:=s.at_) h.ok d with⟨h1,c⟩|⟨h1,_,c⟩
 ·rw[c];exact .inl ⟨_,gtm (by rw[h.ok.len];exact h1),rfl⟩
 ·rw[c,H04,h.a0];exact .inr ⟨h1,rfl⟩
def I0S {s:Cs}{from_:Int}(hl:s.vals.length=s.pl.length):∀v∈(s.L1 from_).vals,v∈s.vals/\gt v 0<=from_:=by
 intro v d;obtain⟨k,hk,rfl⟩:=mem_map.1 d;have c:=(mem_filter.1 hk).2;exact⟨gtm (by rw[hl];exact F0X hk),by simpa using c⟩
def G0U (K:H5 l n a b e z F)(hw:∀x∈l,o3 x){h:Hs}{i:Nat}(k:f05 l n h i)(hi:i<=100000){b_:Int}(hb:Z5 .u8 b_):
  f0U F (h.C l n a b e z) b_=some ((h.feed l n a b e b_).C l n a b e z)/\F0D F (h.X l n a b e) b_=some ((h.feed l n a b e b_).X l n a b e)/\f05 l n (h.feed l n a b e b_) (i+1)/\
   ((h.feed l n a b e b_=⟨h.R1 l n a b b_,h.tags,h.to,h.is⟩/\((h.R1 l n a b b_).K3 l e).2=false)\/(((h.R1 l n a b b_).K3 l e).2=true/\(h.feed l n a b e b_).to=((i+1:Nat):Int)/\(h.feed l n a b e b_).is=true/\(h.is=true->gt (h.feed l n a b e b_).tags 0<=gt h.tags 0))):=by
 obtain⟨s1,s2,I⟩:=I0G (e:=e) (z:=z) K hw k.c hi hb (h.c.at_==0||!h.is);have o:=I0I K k.c b_ (h.c.at_==0||!h.is);obtain⟨b1,b2⟩:=L0r K I;have ha:g0u F (h.c.C l n a b e z)=some h.c.at_:=rfl;have b3:g0u F ((h.R1 l n a b b_).C l n a b e z)=some (h.R1 l n a b b_).at_:=rfl;have U:(if h.c.at_==0 then some true else some (!h.is))=some (h.c.at_==0||!h.is):=by cases h.c.at_==0<;>rfl
 have j:∀v∈(h.R1 l n a b b_).vals,0<=gt v 0:=fun v hv=>by
  rcases o v hv with⟨u,hu,r⟩|⟨_,r⟩
  ·rw[r];exact k.pos u hu
  ·rw[r];omega
 have hle:h.is=true->∀v∈(h.R1 l n a b b_).vals,gt v 0<=gt h.tags 0:=fun f v hv=>by
  obtain⟨_,i2,i3⟩:=k.is f;rcases o v hv with⟨u,hu,r⟩|⟨hbeg,r⟩
  ·rw[r];exact i3 u hu
  ·rw[r];have h0:=k.c.a0;rw[f]at hbeg;have:h.c.at_=0:=by simpa using hbeg
   omega
 have a1:(h.R1 l n a b b_).at_=((i+1:Nat):Int):=I.a0;cases d:((h.R1 l n a b b_).K3 l e).2 with
 |false=>
  have hF:h.feed l n a b e b_=⟨h.R1 l n a b b_,h.tags,h.to,h.is⟩:=by unfold Hs.feed;rw[d];rfl
  rw[hF];refine⟨?_,?_,⟨I,k.t0,k.len,j,fun f=>?_⟩,.inl ⟨rfl,rfl⟩⟩
  ·unfold f0U Hs.C;simp only[ha,G0,U,s1];rw[show h.c.step l n a b b_ (h.c.at_==0||!h.is)=h.R1 l n a b b_ from rfl,show g0f F ((h.R1 l n a b b_).C l n a b e z)=some ((h.R1 l n a b b_).K3 l e)from b1];generalize hq:(h.R1 l n a b b_).K3 l e=q at d ⊢;obtain⟨q1,q2⟩:=q;simp only at d;subst d;rfl
  ·unfold F0D Hs.X;rw[show((h.c.X l n a b e).At==0)=(h.c.at_==0)from rfl];simp only[U,G0,s2];rw[show h.c.step l n a b b_ (h.c.at_==0||!h.is)=h.R1 l n a b b_ from rfl,show f0l F ((h.R1 l n a b b_).X l n a b e)=some ((h.R1 l n a b b_).K3 l e)from b2];generalize hq:(h.R1 l n a b b_).K3 l e=q at d ⊢;obtain⟨q1,q2⟩:=q;simp only at d;subst d;rfl
  ·obtain⟨i1,i2,_⟩:=k.is f;exact⟨i1,i2,hle f⟩
 |true=>
  obtain⟨t1,v,v1,v2⟩:=L0f (e:=e) (at_:=(h.R1 l n a b b_).at_) I.ok d;have ht:=f0m l;obtain⟨k1,k2,k3⟩:=L0p (e:=e) (z:=z) K I (gt ((h.R1 l n a b b_).K3 l e).1 0);have hF:h.feed l n a b e b_=⟨(h.R1 l n a b b_).L1 (gt ((h.R1 l n a b b_).K3 l e).1 0),((h.R1 l n a b b_).K3 l e).1,(h.R1 l n a b b_).at_,true⟩:=by unfold Hs.feed;rw[d];rfl
  have J:((h.R1 l n a b b_).K3 l e).1.length=(l5 l).toNat:=t1;have R:gt ((h.R1 l n a b b_).K3 l e).1 0=gt v 0:=v2;have g:B0 ((h.R1 l n a b b_).K3 l e).1 0=true:=R0 O' (by rw[J];omega);rw[hF];have kf:=I0S (s:=h.R1 l n a b b_) (from_:=gt ((h.R1 l n a b b_).K3 l e).1 0) I.ok.len;refine⟨?_,?_,⟨k3,?_,?_,?_,fun _=>⟨J,?_,fun u hu=>(kf u hu).2⟩⟩,.inr ⟨rfl,a1,rfl,fun f=>?_⟩⟩
  ·unfold f0U Hs.C;simp only[ha,G0,U,s1];rw[show h.c.step l n a b b_ (h.c.at_==0||!h.is)=h.R1 l n a b b_ from rfl,show g0f F ((h.R1 l n a b b_).C l n a b e z)=some ((h.R1 l n a b b_).K3 l e)from b1];have y:h0l F ((h.R1 l n a b b_).C l n a b e z) (gt ((h.R1 l n a b b_).K3 l e).1 0)=_:=k1;generalize hq:(h.R1 l n a b b_).K3 l e=q at d g y ⊢;obtain⟨q1,q2⟩:=q;simp only at d g y;subst d;simp only[G0,if_true,g,b3,y];rfl
  ·unfold F0D Hs.X;rw[show((h.c.X l n a b e).At==0)=(h.c.at_==0)from rfl];simp only[U,G0,s2];rw[show h.c.step l n a b b_ (h.c.at_==0||!h.is)=h.R1 l n a b b_ from rfl,show f0l F ((h.R1 l n a b b_).X l n a b e)=some ((h.R1 l n a b b_).K3 l e)from b2];have p:t0p F ((h.R1 l n a b b_).X l n a b e) (gt ((h.R1 l n a b b_).K3 l e).1 0)=_:=k2;generalize hq:(h.R1 l n a b b_).K3 l e=q at d g p ⊢;obtain⟨q1,q2⟩:=q;simp only at d g p;subst d;simp only[G0,if_true,g,p];rfl
  ·show 0<=(h.R1 l n a b b_).at_;omega
  ·show((h.R1 l n a b b_).K3 l e).1.length<=1000;omega
  ·intro u hu;exact j u (kf u hu).1
  ·show 0<=gt ((h.R1 l n a b b_).K3 l e).1 0;rw[R];exact j v v1
  ·show gt ((h.R1 l n a b b_).K3 l e).1 0<=gt h.tags 0;rw[R];exact hle f v v1
end
section
variable {F:Nat}{l:List C0}{n:Nat}{a:List y0}{b:Nat->List y0}{e:Nat->y0×Bool}{z:y0×Bool}
end
section
variable {F:Nat}{l:List C0}{n:Nat}{a:List y0}{b:Nat->List y0}{e:Nat->y0×Bool}{z:y0×Bool}
end
section
variable {vals:List (List Int)}{fD:Nat->Nat->Int}
end
section
variable {F:Nat}{l:List C0}{n:Nat}{a:List y0}{b:Nat->List y0}{e:Nat->y0×Bool}{z:y0×Bool}
def Kd.step (l:List C0)(n:Nat)(a:List y0)(b:Nat->List y0)(k:Kd)(b_:Int):Kd:=
 ⟨if k.flag==1 then 1 else 0,F1 l n a b k.pl b_ (!(k.flag==0)),(F1 l n a b k.pl b_ (!(k.flag==0))).map (stM l a b k.pl k.maps k.fB k.fD (!(k.flag==0))),
  P5 l (Y2 k.pl (!(k.flag==0)) k.fB) ((F1 l n a b k.pl b_ (!(k.flag==0))).map (F4 a b k.pl k.fB k.fD (!(k.flag==0)))) ((F1 l n a b k.pl b_ (!(k.flag==0))).map (K4 a b k.pl k.fB k.fD (!(k.flag==0)))),
  N6 l (Y2 k.pl (!(k.flag==0)) k.fB) (j4 k.pl (!(k.flag==0)) k.fD) ((F1 l n a b k.pl b_ (!(k.flag==0))).map (F4 a b k.pl k.fB k.fD (!(k.flag==0)))) ((F1 l n a b k.pl b_ (!(k.flag==0))).map (K4 a b k.pl k.fB k.fD (!(k.flag==0))))⟩
def Kd.num (k:Kd):Kd:=⟨k.flag,k.pl,E0V k.maps,k.fB,k.fD⟩
end
def n0B {σ τ:Type}{step:σ->Option (V0 σ τ)}(I:Nat->σ->Prop)(P:τ->Prop){n:Nat}(h:∀i s,i<n->I i s->(∃d,step s=some (.next d)/\I (i+1) d)\/∃r,step s=some (.done r)/\P r)(hd:∀s,I n s->∃r,step s=some (.done r)/\P r):
  ∀(k i:Nat) (s:σ) (fu:Nat),i+k=n->I i s->k<fu->∃r,iter step fu s=some r/\P r:=by
 intro k
 induction k with
 |zero=>
  intro i s fu hi f g;obtain⟨fu,rfl⟩:∃m,fu=m+1:=⟨fu-1,O'⟩
  obtain⟨r,h1,c⟩:=hd s (by rw[<-show i=n from O'];exact f);exact⟨r,a0o h1,c⟩
 |succ k ih=>
  intro i s fu hi f g;obtain⟨fu,rfl⟩:∃m,fu=m+1:=⟨fu-1,O'⟩
  rcases h i s O' f with⟨d,h1,c⟩|⟨r,h1,c⟩
  ·rw[e0m h1];exact ih (i+1) d fu O' c O'
  ·exact⟨r,a0o h1,c⟩
section
variable {F:Nat}
end
