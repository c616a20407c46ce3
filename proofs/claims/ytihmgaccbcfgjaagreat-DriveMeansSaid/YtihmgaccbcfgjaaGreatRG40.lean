/- P. Its conditions: none. -/
import Derived.Test.YtihmgaccbcfgjaaGreatRG38
import Derived.Test.YtihmgaccbcfgjaaGreatRG39
open Bool (false_eq_true)
open List (mem_of_getElem? range_succ map_append map_cons map_nil append_nil getElem_mem take_length mem_map length_map length_cons take_succ set_set length_append length_nil)
set_option linter.all false
theorem Go.U' {P:Prop}(h:P:=by unfold Old.Tm.top;simp only[Old.Tm.size];omega):P:=h
namespace Go.Proofs.YtihmgaccbcfgjaaGreat
open Go.V Go.RowKit Old Go.X
def c9 (N i j:Nat):Nat:=i*(N+1)+j
theorem U0s {N i j:Nat}(hi:i<=N)(c:j<=N):c9 N i j<(N+1)*(N+1):=by
 unfold c9;have h1:(i+1)*(N+1)<=(N+1)*(N+1):=Nat.mul_le_mul_right _ O'
 grind
def K00 (Can:List (List Bool))(N q:Nat)(f:Nat->Nat->Bool):Prop:=(gt Can (q:Int)).length=(N+1)*(N+1)/\∀i j:Nat,i<=j->j<=N->gt (gt Can (q:Int)) (c9 N i j:Int)=f i j
section
variable {F:Nat}
theorem U01 {N i j:Nat}(c:N<=64)(hi:i<=N)(d:j<=N):W ((W ((i:Int)*(W ((N:Int)+1))))+(j:Int))=(c9 N i j:Int):=by
 have h1:i*(N+1)<=64*65:=Nat.mul_le_mul O' O'
 grind [E3,c9]
def T06 {Can:List (List Bool)}{N q i j:Nat}(g:q<Can.length)(hl:(gt Can (q:Int)).length=(N+1)*(N+1))(d:N<=64)(hi:i<=N)(c:j<=N):A9 F ⟨(N:Int),Can⟩ (q:Int) (i:Int) (j:Int)=some (gt (gt Can (q:Int)) (c9 N i j:Int)):=by
 have f:=U0s hi c;unfold A9;have h1:y0 Can (q:Int)=true:=V0 O' O';simp only[h1,if_true,U01 d hi c,V0 (l:=gt Can (q:Int)) (i:=(c9 N i j:Int)) O' O']
theorem J0i {Can:List (List Bool)}{N q:Nat}{f:Nat->Nat->Bool}(h:K00 Can N q f)(g:q<Can.length)(k:N<=64){i j:Nat}(c:i<=j)(d:j<=N):A9 F ⟨(N:Int),Can⟩ (q:Int) (i:Int) (j:Int)=some (f i j):=by
 rw[T06 g h.1 k O' d,h.2 i j c d]
theorem one_den {l:List C0}{w:List Int}(hw:∀x∈l,P2 x)(hb:∀x∈w,L5 .u8 x)(q:w.length<=64)(hf:2000<F){Can:List (List Bool)}{lo:Nat}{s:Old.Tm}(d:Old.At l lo s)(hlen:s.top lo<Can.length)
  (f:∀lo' U,Old.At l lo' U->U.top lo'<s.top lo->K00 Can w.length (U.top lo') (den w U)) {i j:Nat} (p:i<=j) (t:j<=w.length)
  (r:(gt Can (s.top lo:Int)).length=(w.length+1)*(w.length+1)/\∀k:Nat,i<k->k<=j->gt (gt Can (s.top lo:Int)) (c9 w.length k j:Int)=den w s k j):
  S0c F l w ⟨(w.length:Int),Can⟩ (s.top lo:Int) (i:Int) (j:Int)=some (den w s i j):=by
 have hg:=d.N3;have b1:=d.len;have b3:=s.size_pos;have b4:s.top lo<l.length:=by grind [Old.Tm.top]
 have J:y0 l (s.top lo:Int)=true:=V0 O' O';have h:((i:Int)==(j:Int))=(i==j):=by grind
 unfold S0c;rw[hg];simp only[J,if_true];cases s with
 |eps=>simp only[Old.Tm.node,beq_self_eq_true,if_true,h];rfl
 |leaf st=>
  simp only[q0,Old.Tm.node,show((2:Int)==1)=false from rfl,beq_self_eq_true,X1 (i:=i) O'];have v:((j:Int)==((i+1:Nat):Int))=(j==i+1):=by grind
  rw[v];show _=some (j==i+1&&(decide (i<w.length)&&hasB st (gt w (i:Int))));cases c:j==i+1 with
  |false=>rfl
  |true=>
   have b5:j=i+1:=by simp_all
   have hi:i<w.length:=O'
   have I:=hw _ (mem_of_getElem? d.top);have a1:st.length=4/\∀y∈st,L5 .u64 y:=I.2.2.2.2;simp only[q0,V0 (l:=w) (i:=(i:Int)) O' O',(t0N F a1 (hb _ (b8 hi))).2,hi,Bool.true_and]
 |cat a b=>
  obtain⟨ha,u,_⟩:=(Old.At.bin (a:=a) (b:=b) rfl rfl).1 d;have C:=a.size_pos;have pb:=b.size_pos;have g:=f lo a ha (by grind [Old.Tm.top,Old.Tm.size]);have rb:=f (lo+a.size) b u (by grind [Old.Tm.top,Old.Tm.size]);have o:a.top lo<Can.length:=by grind [Old.Tm.top,Old.Tm.size]
  have lb:b.top (lo+a.size)<Can.length:=by grind [Old.Tm.top,Old.Tm.size]
  simp only[q0,Old.Tm.node,show((3:Int)==1)=false from rfl,show((3:Int)==2)=false from rfl,beq_self_eq_true];have R:=U06 (step:=S0D F l ⟨(w.length:Int),Can⟩ ((Old.Tm.cat a b).top lo:Int) (i:Int) (j:Int)) (lo:=i) (hi:=j+1) (fun k=>den w a i k&&den w b k j) (fun k k1 k2=>?_) ?_ O' (fu:=F) O'
  ·grind [den]
  ·have h1:(k:Int)<=(j:Int):=O'
   have e1:=J0i (F:=F) g o q k1 O';have e2:=J0i (F:=F) rb lb q (show k<=j from O') t;unfold S0D;rw[hg];simp only[q0,Old.Tm.node,h1,e1,e2,X1 (i:=k) O']
   grind
  ·have h1:¬((j+1:Nat):Int)<=(j:Int):=O'
   unfold S0D
   grind
 |alt a b=>
  obtain⟨ha,u,_⟩:=(Old.At.bin (a:=a) (b:=b) rfl rfl).1 d;have C:=a.size_pos;have pb:=b.size_pos;have g:=f lo a ha U';have rb:=f (lo+a.size) b u U';have o:a.top lo<Can.length:=by unfold Old.Tm.top at hlen ⊢;simp only[Old.Tm.size]at hlen;omega
  have lb:b.top (lo+a.size)<Can.length:=by unfold Old.Tm.top at hlen ⊢;simp only[Old.Tm.size]at hlen;omega
  simp only[q0,Old.Tm.node,show((4:Int)==1)=false from rfl,show((4:Int)==2)=false from rfl,show((4:Int)==3)=false from rfl,beq_self_eq_true,J0i (F:=F) g o q p t,J0i (F:=F) rb lb q p t];show _=some (den w a i j||den w b i j);cases den w a i j<;>rfl
 |star a=>
  obtain⟨ha,_⟩:=(Old.At.un (a:=a) rfl rfl).1 d;have C:=a.size_pos;have g:=f lo a ha U';have o:a.top lo<Can.length:=by unfold Old.Tm.top at hlen ⊢;simp only[Old.Tm.size]at hlen;omega
  simp only[q0,Old.Tm.node,show((5:Int)==1)=false from rfl,show((5:Int)==2)=false from rfl,show((5:Int)==3)=false from rfl,show((5:Int)==4)=false from rfl,beq_self_eq_true,h,X1 (i:=i) O'];show _=some (w8 (den w a) i j);rw[R0q];cases c:i==j with
  |true=>rfl
  |false=>
   have b2:i≠j:=by simpa using c
   simp only[false_eq_true,if_false,Bool.false_or];have R:=U06 (step:=S0P F l ⟨(w.length:Int),Can⟩ ((Old.Tm.star a).top lo:Int) (i:Int) (j:Int)) (lo:=i+1) (hi:=j+1) (fun k=>den w a i k&&w8 (den w a) k j) (fun k k1 k2=>?_) ?_ O' (fu:=F) O'
   ·rw[R];have e:((List.range (j+1)).any fun k=>decide (i+1<=k)&&(den w a i k&&w8 (den w a) k j))=((List.range (j+1)).any fun k=>decide (i<k)&&(den w a i k&&w8 (den w a) k j)):=rfl;rw[e];cases(List.range (j+1)).any fun k=>decide (i<k)&&(den w a i k&&w8 (den w a) k j)<;>rfl
   ·have h1:(k:Int)<=(j:Int):=O'
    have e1:=J0i (F:=F) g o q (show i<=k from O') O';have e2:A9 F ⟨(w.length:Int),Can⟩ ((Old.Tm.star a).top lo:Int) (k:Int) (j:Int)=some (w8 (den w a) k j):=by
     rw[T06 hlen r.1 q O' t,r.2 k O' O'];rfl
    unfold S0P;rw[hg];simp only[q0,Old.Tm.node,h1,e1,e2,X1 (i:=k) O'];cases den w a i k
    ·simp only[q0,Bool.false_and]
    ·simp only[if_true,G0,Bool.true_and];cases w8 (den w a) k j<;>rfl
   ·have h1:¬((j+1:Nat):Int)<=(j:Int):=O'
    unfold S0P;simp only[q0,h1]
 |maybe a=>
  obtain⟨ha,_⟩:=(Old.At.un (a:=a) rfl rfl).1 d;have C:=a.size_pos;have g:=f lo a ha U';have o:a.top lo<Can.length:=by unfold Old.Tm.top at hlen ⊢;simp only[Old.Tm.size]at hlen;omega
  simp only[q0,Old.Tm.node,show((6:Int)==1)=false from rfl,show((6:Int)==2)=false from rfl,show((6:Int)==3)=false from rfl,show((6:Int)==4)=false from rfl,show((6:Int)==5)=false from rfl,beq_self_eq_true,h,J0i (F:=F) g o q p t];show _=some (i==j||den w a i j);cases i==j<;>rfl
 |group m a=>
  obtain⟨ha,_⟩:=(Old.At.un (a:=a) rfl rfl).1 d;have C:=a.size_pos;have g:=f lo a ha U';have o:a.top lo<Can.length:=by unfold Old.Tm.top at hlen ⊢;simp only[Old.Tm.size]at hlen;omega
  simp only[q0,Old.Tm.node,show((7:Int)==1)=false from rfl,show((7:Int)==2)=false from rfl,show((7:Int)==3)=false from rfl,show((7:Int)==4)=false from rfl,show((7:Int)==5)=false from rfl,show((7:Int)==6)=false from rfl,J0i (F:=F) g o q p t];rfl
 |iter a=>
  obtain⟨ha,_⟩:=(Old.At.un (a:=a) rfl rfl).1 d;have C:=a.size_pos;have g:=f lo a ha U';have o:a.top lo<Can.length:=by unfold Old.Tm.top at hlen ⊢;simp only[Old.Tm.size]at hlen;omega
  simp only[q0,Old.Tm.node,show((8:Int)==1)=false from rfl,show((8:Int)==2)=false from rfl,show((8:Int)==3)=false from rfl,show((8:Int)==4)=false from rfl,show((8:Int)==5)=false from rfl,show((8:Int)==6)=false from rfl,J0i (F:=F) g o q p t];rfl
end
def b0I (l:List C0):List Int:=(List.replicate (C4 l).toNat (-2)).set 0 (-1)
def a0F (l:List C0)(maps:List (List Int))(E0:Bool):List (List Int):=maps++if E0 then[b0I l]else[]
def goG (l:List C0)(a:List B0)(b:Nat->List B0)(pl:List Nat)(maps:List (List Int))(E0:Bool):List G5:=((List.range pl.length).map fun(i:Nat)=>(⟨gt maps (i:Int),b (pl.getD i 0)⟩:G5))++if E0 then[⟨b0I l,a⟩]else[]
def z8 (flag:Int)(pl:List Nat)(maps:List (List Int))(fB fD:Nat->Nat->Int):F1:=⟨flag,D1 pl,maps,U2 pl.length fB fD⟩
def stM (l:List C0)(a:List B0)(b:Nat->List B0)(pl:List Nat)(maps:List (List Int))(fB fD:Nat->Nat->Int)(E0:Bool)(r:Nat):List Int:=
 Z9 (-1) (-2) (gt (a0F l maps E0) (T5 a b pl fB fD E0 r:Int)) (a7 l (V5 a b pl fB fD E0 r).Steps)
theorem q0p (l:List C0):(b0I l).length=(C4 l).toNat:=by simp[b0I]
section
variable {F:Nat}{l:List C0}{n:Nat}{a:List B0}{b:Nat->List B0}{e:Nat->B0×Bool}{z:B0×Bool}{pl:List Nat}{maps:List (List Int)}{fB fD:Nat->Nat->Int}{flag:Int}
def s0j (C:R3 l n pl maps fB fD)(E0:Bool):(a0F l maps E0).length=C5 pl E0:=by unfold a0F C5;cases E0<;>simp[C.len]
def w0K (C:R3 l n pl maps fB fD)(E0:Bool):∀v∈a0F l maps E0,v.length=(C4 l).toNat:=by
 intro v c;rcases List.mem_append.1 c with h|h
 ·exact C.row v h
 simp_all[q0p]
theorem s02 (E0:Bool):(goG l a b pl maps E0).length=C5 pl E0:=by grind [goG,C5]
theorem t0v (C:R3 l n pl maps fB fD){E0:Bool}{i:Nat}(hi:i<C5 pl E0):gt (goG l a b pl maps E0) (i:Int)=⟨gt (a0F l maps E0) (i:Int),(Z1 a b pl E0).getD i []⟩:=by
 have c:=C.len;refine X2 ?_;unfold goG a0F Z1;unfold C5 at hi
 by_cases h:i<pl.length
 ·simp_all[List.getElem?_append_left,b0Y]
 ·cases E0 with
  |false=>simp_all
  |true=>
   simp only[if_true]at hi;have e:i=pl.length:=O'
   simp_all[e0v]
theorem t0l (K:U3 l n a b e z F):g0P F l=some (b0I l):=by
 have f1:=K.f1;have d:=a07 l;obtain⟨t,c⟩:∃t:Nat,C4 l=t:=⟨(C4 l).toNat,O'⟩
 unfold g0P b0I;rw[o0r K.hR O',c];simp only[G0,F0o (F:=F) (n:=t) (x:=-2) O' O',Int.toNat_natCast];rw[if_pos (V0 O' (by grind))];rfl
theorem y0j (K:U3 l n a b e z F)(C:R3 l n pl maps fB fD){E0:Bool}(c:(flag==0)=!E0):i0L F l (z8 flag pl maps fB fD) =
  some (goG l a b pl maps E0,U2 (C5 pl E0) (F5 pl E0 fB) (a6 pl E0 fD)):=by
 have f1:=K.f1;have hm:=C.le;have hn:=K.T.n64;have h:=C.len;have hl:=K.hl;unfold i0L;have:=H3 (step:=i0M F l (z8 flag pl maps fB fD)) (fun i=>((List.range i).map (fun(i:Nat)=>(⟨gt maps (i:Int),b (pl.getD i 0)⟩:G5)),(i:Int))) ((List.range pl.length).map (fun(i:Nat)=>(⟨gt maps (i:Int),b (pl.getD i 0)⟩:G5))) pl.length (fun i hi=>.inl ?_) ?_ pl.length 0 F O' O'
 ·have k:iter (i0M F l (z8 flag pl maps fB fD)) F ([],0)=_:=this;rw[k];simp only[G0,z8,c];unfold goG C5 F5 a6;cases E0 with
  |false=>simp
  |true=>
   have d:K0 48 ((List.range pl.length).map (fun(i:Nat)=>(⟨gt maps (i:Int),b (pl.getD i 0)⟩:G5))) [(⟨b0I l,a⟩:G5)]=true:=by grind [K0]
   have j:W ((l.length:Int)-1)=(l.length:Int)-1:=E3 O' O';simp only[q0,t0l K,j,K.TF.mA,d,B0O (show pl.length<=900 from O') (show 2000<F from O') C.rk]
 ·unfold i0M;have h1:(i:Int)<((D1 pl).length:Int):=by simp;omega
  have hp:=P8 C.pln hi;have g:y0 maps (i:Int)=true:=V0 O' O';have f:K0 48 ((List.range i).map (fun(i:Nat)=>(⟨gt maps (i:Int),b (pl.getD i 0)⟩:G5))) [(⟨gt maps (i:Int),b (pl.getD i 0)⟩:G5)]=true:=by grind [K0]
  simp only[q0,z8,h1,q9 hi,a0T hi,g,K.TF.mB _ hp,f,range_succ,map_append,map_cons,map_nil,X1 (i:=i) O']
 simp[i0M,z8]
def I0p {Ws:List (List B0)}{all:List G5}(hl:all.length=Ws.length)(hg:∀i:Nat,i<Ws.length->(gt all (i:Int)).ways=Ws.getD i [])(t:∀i,i<Ws.length->K8 n (Ws.getD i [])/\(Ws.getD i []).length<=500000)(v:Ws.length<=1000)(w:2000001<F)(r:Nat):
  j0n F all (r:Int)=some (D1 (T3 Ws r Ws.length),l7 Ws r Ws.length):=by
 unfold j0n;have:=H3 (step:=i0t F all (r:Int)) (fun i=>(D1 (T3 Ws r i),l7 Ws r i,(i:Int))) (D1 (T3 Ws r Ws.length),l7 Ws r Ws.length) Ws.length (fun i hi=>.inl ?_) ?_ Ws.length 0 F O' O'
 ·have y:iter (i0t F all (r:Int)) F ([],[],0)=_:=this
  simp_all
 ·have h1:(i:Int)<(all.length:Int):=O'
  have m:y0 all (i:Int)=true:=V0 O' h1;obtain⟨p,hlen⟩:=t i hi;have h:=hg i hi;have u:=s0Q Ws r i;have s:=s06 Ws r i;have inner:=H3 (step:=h0g F all (r:Int) (i:Int)) (fun j=>(D1 (T3 Ws r i++if(F8 ((Ws.getD i []).take j) r).isSome then[i]else[]),l7 Ws r i++(if(F8 ((Ws.getD i []).take j) r).isSome then[c02 ((Ws.getD i []).take j) r]else[]),(j:Int)))
   (D1 (T3 Ws r (i+1)),l7 Ws r (i+1)) (Ws.getD i []).length (fun j q=>.inl ?_) ?_ (Ws.getD i []).length 0 F O' O'
  ·have x:F8 ((Ws.getD i []).take 0) r=none:=rfl;have e0:iter (h0g F all (r:Int) (i:Int)) F (D1 (T3 Ws r i),l7 Ws r i,0)=some (D1 (T3 Ws r (i+1)),l7 Ws r (i+1)):=by
    simp_all
   unfold i0t;simp only[q0,h1,m,e0,X1 (i:=i) O']
  ·unfold h0g;have d:(j:Int)<(((Ws.getD i []).length:Nat):Int):=O'
   have c:y0 (Ws.getD i []) (j:Int)=true:=V0 O' d;simp only[h,d,decide_true,if_true,c]
   by_cases f:(gt (Ws.getD i []) (j:Int)).To=(r:Int)
   ·obtain⟨t1,t2⟩:=y0t p q f;have o:((gt (Ws.getD i []) (j:Int)).To==(r:Int))=true:=beq_iff_eq.2 f;have k:K0 8 (D1 (T3 Ws r i)) [(i:Int)]=true:=by simp[K0];omega
    have g:K0 40 (l7 Ws r i) [gt (Ws.getD i []) (j:Int)]=true:=by simp[K0];omega
    simp only[q0,o,t1,t2,Option.isSome_none,append_nil,Option.isSome_some,k,g,X1 (i:=j) O',g0m];unfold c02;rw[t1];rfl
   ·have t1:=x0Z q f;have o:((gt (Ws.getD i []) (j:Int)).To==(r:Int))=false:=beq_eq_false_iff_ne.2 f;simp only[q0,o,t1,X1 (i:=j) O'];unfold c02;rw[t1]
  simp_all[h0g,t04,y0S]
 simp_all[i0t]
set_option maxHeartbeats 2000000 in
theorem E07 (K:U3 l n a b e z F)(C:R3 l n pl maps fB fD)(hw:∀x∈l,P2 x){b_:Int}(hb:L5 .u8 b_)(E0:Bool){fl:Int}{rk:D2}{r:Nat}(hr:r<n):
  f01 F l b_ (U2 (C5 pl E0) (F5 pl E0 fB) (a6 pl E0 fD)) (G2 l l.length)
   (goG l a b pl maps E0,D1 ((H6 (s7 l b_) (Z1 a b pl E0) r).map (T5 a b pl fB fD E0)),(H6 (s7 l b_) (Z1 a b pl E0) r).map (V5 a b pl fB fD E0),(r:Int),(fl,D1 (H6 (s7 l b_) (Z1 a b pl E0) r),(H6 (s7 l b_) (Z1 a b pl E0) r).map (stM l a b pl maps fB fD E0),rk)) =
  some (.next (goG l a b pl maps E0,D1 ((H6 (s7 l b_) (Z1 a b pl E0) (r+1)).map (T5 a b pl fB fD E0)),(H6 (s7 l b_) (Z1 a b pl E0) (r+1)).map (V5 a b pl fB fD E0),((r+1:Nat):Int),(fl,D1 (H6 (s7 l b_) (Z1 a b pl E0) (r+1)),(H6 (s7 l b_) (Z1 a b pl E0) (r+1)).map (stM l a b pl maps fB fD E0),rk))):=by
 have f1:=K.f1;have hn:=K.T.n64;have hM:=t0H K C E0;have j:=d0B a b pl E0;obtain⟨b4,u⟩:=A0d K C E0 r;have I:=s06 (Z1 a b pl E0) r (Z1 a b pl E0).length;have b2:=w0W (s7 l b_) (Z1 a b pl E0) r;have ht:=a07 l;have b5:=K9 l l.length;have b3:=K.hn;have hx:(r:Int)<((G2 l l.length).length:Int):=O'
 obtain⟨q,q1,q2,q3⟩:=l0e l K.hn (x:=(r:Int)) O' O';obtain⟨_,_,s3⟩:=setOf l K.hn hw hr;have hH:hasB (gt l (gt (G2 l l.length) (r:Int))).Set b_=s7 l b_ r:=rfl;have v:=l0W C E0;have R:=I0p (F:=F) (n:=n) (Ws:=Z1 a b pl E0) (all:=goG l a b pl maps E0) (by rw[s02,j]) (fun i hi=>by grind [t0v]) (fun i hi=>⟨(l0d K C E0 i hi).1,(l0d K C E0 i hi).2.1⟩) O' f1 r;unfold f01;simp only[q0,hx,q3,V0 (l:=l) (i:=gt (G2 l l.length) (r:Int)) O' O',(t0N F s3 hb).1,hH,A0A,X1 (i:=r) O',R];cases hP:s7 l b_ r with
 |false=>simp
 |true=>
  simp only[q0,Bool.true_and];have p:=z0O (F:=F) (n:=C5 pl E0) (fB:=F5 pl E0 fB) (fD:=a6 pl E0 fD) (fr:=T3 (Z1 a b pl E0) r (Z1 a b pl E0).length) (hops:=l7 (Z1 a b pl E0) r (Z1 a b pl E0).length) O' O' v I O' u
  by_cases m:T3 (Z1 a b pl E0) r (Z1 a b pl E0).length=[]
  ·have b1:h0B F (U2 (C5 pl E0) (F5 pl E0 fB) (a6 pl E0 fD)) (D1 (T3 (Z1 a b pl E0) r (Z1 a b pl E0).length)) (l7 (Z1 a b pl E0) r (Z1 a b pl E0).length)=some (-1):=by
    grind [A0s]
   grind
  ·obtain⟨k1,k2⟩:=l0V (fB:=F5 pl E0 fB) (fD:=a6 pl E0 fD) m;have U:(T3 (Z1 a b pl E0) r (Z1 a b pl E0).length).isEmpty=false:=by simpa using m
   rw[k1]at p;have k3:¬((b0T (F5 pl E0 fB) (a6 pl E0 fD) (Z1 a b pl E0) r:Nat):Int)<0:=O'
   have d:T5 a b pl fB fD E0 r<C5 pl E0:=by rw[<-j];exact e0o m
   obtain⟨v1,v2⟩:=m07 (w0K C E0) (s0j C E0) d;obtain⟨p1,p2⟩:=H0f K C (b_:=b_) (E0:=E0) m;have o:(((T3 (Z1 a b pl E0) r (Z1 a b pl E0).length).getD (b0T (F5 pl E0 fB) (a6 pl E0 fD) (Z1 a b pl E0) r) 0:Nat):Int)=(T5 a b pl fB fD E0 r:Int):=rfl;have f:y0 (goG l a b pl maps E0) (T5 a b pl fB fD E0 r:Int)=true:=V0 O' (by rw[s02];omega);have c:(gt (goG l a b pl maps E0) (T5 a b pl fB fD E0 r:Int)).tags=gt (a0F l maps E0) (T5 a b pl fB fD E0 r:Int):=by rw[t0v C d]
   have g:gt (l7 (Z1 a b pl E0) r (Z1 a b pl E0).length) ((b0T (F5 pl E0 fB) (a6 pl E0 fD) (Z1 a b pl E0) r:Nat):Int)=V5 a b pl fB fD E0 r:=H0C m;have h:y0 (l7 (Z1 a b pl E0) r (Z1 a b pl E0).length) ((b0T (F5 pl E0 fB) (a6 pl E0 fD) (Z1 a b pl E0) r:Nat):Int)=true:=V0 O' O';have w:K0 8 (D1 (H6 (s7 l b_) (Z1 a b pl E0) r)) [(r:Int)]=true:=by simp[K0];omega
   have s:K0 24 ((H6 (s7 l b_) (Z1 a b pl E0) r).map (stM l a b pl maps fB fD E0)) [stM l a b pl maps fB fD E0 r]=true:=by simp[K0];omega
   have a1:K0 8 (D1 ((H6 (s7 l b_) (Z1 a b pl E0) r).map (T5 a b pl fB fD E0))) [(T5 a b pl fB fD E0 r:Int)]=true:=by simp[K0];omega
   have y:K0 40 ((H6 (s7 l b_) (Z1 a b pl E0) r).map (V5 a b pl fB fD E0)) [V5 a b pl fB fD E0 r]=true:=by simp[K0];omega
   have c0:=j0K l (V5 a b pl fB fD E0 r).Steps;have t:=p07 K.hR p1 K.f1 (N2.sok p2);have k:=o0k (F:=F) (marks:=a7 l (V5 a b pl fB fD E0 r).Steps) (now:=-1) (none_:=-2) (show(gt (a0F l maps E0) (T5 a b pl fB fD E0 r:Int)).length<=1000 from O') O';have J:Z9 (-1) (-2) (gt (a0F l maps E0) (T5 a b pl fB fD E0 r:Int)) (a7 l (V5 a b pl fB fD E0 r).Steps)=stM l a b pl maps fB fD E0 r:=rfl;rw[J]at k;simp only[q0,p,k3,w,q9 k2,a0T k2,o,f,c,h,g,t,k,s,a1,y,U,g0m,map_append,map_cons,map_nil]
def H0h (K:U3 l n a b e z F)(C:R3 l n pl maps fB fD)(hw:∀x∈l,P2 x){b_:Int}(g:L5 .u8 b_)(E0:Bool)(fl:Int)(rk:D2):
  iter (f01 F l b_ (U2 (C5 pl E0) (F5 pl E0 fB) (a6 pl E0 fD)) (G2 l l.length)) F (goG l a b pl maps E0,[],[],0,(fl,[],[],rk)) =
   some (D1 ((Z3 l n a b pl b_ E0).map (T5 a b pl fB fD E0)),(Z3 l n a b pl b_ E0).map (V5 a b pl fB fD E0),(fl,D1 (Z3 l n a b pl b_ E0),(Z3 l n a b pl b_ E0).map (stM l a b pl maps fB fD E0),rk)):=by
 have f1:=K.f1;have hn:=K.T.n64;have f:=K9 l l.length;have d:=K.hn;have:=H3 (step:=f01 F l b_ (U2 (C5 pl E0) (F5 pl E0 fB) (a6 pl E0 fD)) (G2 l l.length))
  (fun r=>(goG l a b pl maps E0,D1 ((H6 (s7 l b_) (Z1 a b pl E0) r).map (T5 a b pl fB fD E0)),(H6 (s7 l b_) (Z1 a b pl E0) r).map (V5 a b pl fB fD E0),(r:Int),(fl,D1 (H6 (s7 l b_) (Z1 a b pl E0) r),(H6 (s7 l b_) (Z1 a b pl E0) r).map (stM l a b pl maps fB fD E0),rk)))
  (D1 ((Z3 l n a b pl b_ E0).map (T5 a b pl fB fD E0)),(Z3 l n a b pl b_ E0).map (V5 a b pl fB fD E0),(fl,D1 (Z3 l n a b pl b_ E0),(Z3 l n a b pl b_ E0).map (stM l a b pl maps fB fD E0),rk)) n
  (fun r c=>.inl (E07 K C hw g E0 c)) ?_ n 0 F O' O'
 ·exact this
 ·unfold f01;have h1:¬((n:Int)<((G2 l l.length).length:Int)):=O'
  simp only[q0,h1];rfl
end
def j0e (fB fD:Nat->Nat->Int)(c x:Nat):Bool:=x==c||(decide (fB x c>0)||decide (fD c x<0))
def a0d (fB fD:Nat->Nat->Int)(c k:Nat):List Nat:=(List.range k).filter (j0e fB fD c)
def F0A (fB fD:Nat->Nat->Int)(c k:Nat):a0d fB fD c (k+1)=if j0e fB fD c k=true then a0d fB fD c k++[k]else a0d fB fD c k:=by
 unfold a0d;rw[range_succ,List.filter_append]
 by_cases h:j0e fB fD c k=true
 ·rw[if_pos h];simp only[List.filter_cons,h,if_true,List.filter_nil]
 ·rw[if_neg h];simp only[List.filter_cons,h,if_false,List.filter_nil,append_nil,false_eq_true]
def r0i (fB fD:Nat->Nat->Int)(c k:Nat):(a0d fB fD c k).length<=k:=Nat.le_trans (List.length_filter_le _ _) Z'
def n01 {fB fD:Nat->Nat->Int}{c k i:Nat}(h:i∈a0d fB fD c k):i<k:=List.mem_range.1 (List.mem_filter.1 h).1
def t0y (fB fD:Nat->Nat->Int)(c k:Nat):(a0d fB fD c k).Pairwise fun a b=>a<b:=List.Pairwise.filter _ List.pairwise_lt_range
section
variable {F:Nat}
def r0O {x:List Int}{of:List Nat}(h:∀i∈of,i<x.length)(hl:of.length<=1000)(f:2000<F):f00 F x (D1 of)=some (of.map fun i:Nat=>gt x (i:Int)):=by
 unfold f00;rw[I8];have:=H3 (step:=k0C F x (D1 of)) (fun i=>((of.take i).map fun i:Nat=>gt x (i:Int),(i:Int))) (of.map fun i:Nat=>gt x (i:Int)) of.length (fun i hi=>.inl ?_) ?_ of.length 0 F O' O'
 ·exact this
 ·unfold k0C;have h1:(i:Int)<((D1 of).length:Int):=by simp;omega
  have d:=h of[i] (getElem_mem hi);have c:K0 8 ((of.take i).map fun i:Nat=>gt x (i:Int)) [gt x ((of[i]:Nat):Int)]=true:=by simp[K0];omega
  simp only[h1,decide_true,if_true,q9 hi,h0N hi,V0 (l:=x) (i:=((of[i]:Nat):Int)) O' O',c,m0z hi,map_append,map_cons,map_nil,X1 (i:=i) O']
 ·unfold k0C;have h1:¬((of.length:Int)<((D1 of).length:Int)):=Z'
  simp only[q0,h1,take_length]
def x0t {x:List (List Int)}{of:List Nat}(h:∀i∈of,i<x.length)(hl:of.length<=1000)(f:2000<F):l0o F x (D1 of)=some (of.map fun i:Nat=>gt x (i:Int)):=by
 unfold l0o;rw[I8];have:=H3 (step:=k0t F x (D1 of)) (fun i=>((of.take i).map fun i:Nat=>gt x (i:Int),(i:Int))) (of.map fun i:Nat=>gt x (i:Int)) of.length (fun i hi=>.inl ?_) ?_ of.length 0 F O' O'
 ·exact this
 ·unfold k0t;have h1:(i:Int)<((D1 of).length:Int):=by simp;omega
  have d:=h of[i] (getElem_mem hi);have c:K0 24 ((of.take i).map fun i:Nat=>gt x (i:Int)) [gt x ((of[i]:Nat):Int)]=true:=by simp[K0];omega
  simp only[h1,decide_true,if_true,q9 hi,h0N hi,V0 (l:=x) (i:=((of[i]:Nat):Int)) O' O',c,m0z hi,map_append,map_cons,map_nil,X1 (i:=i) O']
 ·unfold k0t;have h1:¬((of.length:Int)<((D1 of).length:Int)):=Z'
  simp only[q0,h1,take_length]
def F0I {x:List (List Int)}{of:List Nat}(h:∀i∈of,i<x.length)(hl:of.length<=1000)(ha:of.Pairwise fun a b=>a<b):f06 F x (D1 of)=some (of.map fun i:Nat=>gt x (i:Int)):=by
 unfold f06;have h1:d0y (fun i=>i) (D1 of)=true:=by
  rw[h04];unfold D1;rw[List.pairwise_map];exact ha.imp fun c=>O'
 have g:(D1 of).all (fun i=>y0 x i)=true:=by
  rw[List.all_eq_true];intro i hi;obtain⟨k,hk,rfl⟩:=mem_map.1 hi;exact V0 O' (by have:=h k hk;omega)
 have f:((D1 of).map fun i=>gt x i)=of.map fun i:Nat=>gt x (i:Int):=by simp[D1]
 have d:K0 24 ([]:List (List Int)) (of.map fun i:Nat=>gt x (i:Int))=true:=by simp[K0];omega
 simp only[h1,g,f,d,Bool.and_self,if_true]
def C0I {m:Nat}{st:List Nat}(h:∀i∈st,i<m)(hl:st.length<=1000)(d:2000<F)(g:Nat->Int):f00 F (V2 m g) (D1 st)=some (V2 st.length fun k=>g (st.getD k 0)):=by
 rw[r0O (by simpa using h) hl d];congr 1;refine List.ext_getElem Z' fun j h1 f=>?_;simp only[length_map]at h1;have c:=h st[j] (getElem_mem h1);simp only[List.getElem_map,b0y g c];simp[V2,List.getD,h1]
def F0U {m:Nat}{st:List Nat}(h:∀i∈st,i<m)(hl:st.length<=1000)(g:2000<F)(f:Nat->Nat->Int):i0r F (U1 m m f) (D1 st)=some (U1 st.length st.length (fun i k=>f (st.getD i 0) (st.getD k 0))):=by
 unfold i0r;rw[x0t (by simpa using h) hl g];simp only[G0,I8];have hg:∀i,i<st.length->gt (st.map fun i:Nat=>gt (U1 m m f) (i:Int)) (i:Int)=V2 m (f (st.getD i 0)):=fun i hi=>by
  have j:=h st[i] (getElem_mem hi);rw[X2 (x:=gt (U1 m m f) ((st[i]:Nat):Int)) (by simp[hi]),R8 f j];simp[List.getD,hi]
 have:=H3 (step:=l0z F (D1 st) (st.map fun i:Nat=>gt (U1 m m f) (i:Int))) (fun i=>((List.range i).map (fun i=>V2 st.length fun k=>f (st.getD i 0) (st.getD k 0)),(i:Int))) (U1 st.length st.length (fun i k=>f (st.getD i 0) (st.getD k 0))) st.length (fun i hi=>.inl ?_) ?_ st.length 0 F O' O'
 ·exact this
 ·unfold l0z;have h1:(i:Int)<((st.map fun i:Nat=>gt (U1 m m f) (i:Int)).length:Int):=by simp;omega
  have d:y0 (st.map fun i:Nat=>gt (U1 m m f) (i:Int)) (i:Int)=true:=V0 O' h1;have c:K0 24 ((List.range i).map (fun i=>V2 st.length fun k=>f (st.getD i 0) (st.getD k 0))) [V2 st.length fun k=>f (st.getD i 0) (st.getD k 0)]=true:=by simp[K0];omega
  simp only[q0,h1,d,hg i hi,C0I h hl g,c,range_succ,map_append,map_cons,map_nil,X1 (i:=i) O']
 ·unfold l0z;have h1:¬((st.length:Int)<((st.map fun i:Nat=>gt (U1 m m f) (i:Int)).length:Int)):=Z'
  simp only[q0,h1];rfl
end
section
variable {F:Nat}{l:List C0}{n:Nat}{a:List B0}{b:Nat->List B0}{e:Nat->B0×Bool}{z:B0×Bool}{pl:List Nat}{maps:List (List Int)}{fB fD:Nat->Nat->Int}{flag:Int}
def s0W (K:U3 l n a b e z F)(C:R3 l n pl maps fB fD):f0G F l (z8 flag pl maps fB fD)=some (D8 fD (E7 e pl pl.length)):=by
 have f1:=K.f1;have hm:=C.le;have hn:=K.T.n64;unfold f0G;have:=H3 (step:=g06 F l (z8 flag pl maps fB fD)) (fun i=>(D1 (E7 e pl i),(i:Int))) (D1 (E7 e pl pl.length)) pl.length (fun i hi=>.inl ?_) ?_ pl.length 0 F O' O'
 ·have c:iter (g06 F l (z8 flag pl maps fB fD)) F ([],0)=_:=this;rw[c];simp only[G0,z8];rw[z0o O' O' C.rk _ (by have:=w0M e pl pl.length;omega) (fun i h=>j0P h)];rfl
 ·unfold g06;have h1:(i:Int)<((D1 pl).length:Int):=by simp;omega
  have hp:=P8 C.pln hi;have d:K0 8 (D1 (E7 e pl i)) [(i:Int)]=true:=by have:=w0M e pl i;simp[K0];omega
  simp only[q0,z8,h1,q9 hi,a0T hi,K.TF.mE _ hp,d,X1 (i:=i) O',F0K]
  by_cases c:(e (pl.getD i 0)).2=true
  ·simp only[c,if_true,G0,g0m]
  ·have c:(e (pl.getD i 0)).2=false:=by simpa using c
   simp only[q0,c]
 ·unfold g06;have h1:¬((pl.length:Int)<((D1 pl).length:Int)):=Z'
  simp only[q0,z8,h1]
structure Kd where
 flag:Int
 pl:List Nat
 maps:List (List Int)
 fB:Nat->Nat->Int
 fD:Nat->Nat->Int
def Kd.K (k:Kd):F1:=z8 k.flag k.pl k.maps k.fB k.fD
def Kd.T (k:Kd):Int×List Int×List (List Int)×D2:=(k.flag,D1 k.pl,k.maps,U2 k.pl.length k.fB k.fD)
def Kd.of (k:Kd)(fl:Int)(st:List Nat):Kd:=⟨fl,st.map fun i=>k.pl.getD i 0,st.map fun i:Nat=>gt k.maps (i:Int),fun i j=>k.fB (st.getD i 0) (st.getD j 0),fun i j=>k.fD (st.getD i 0) (st.getD j 0)⟩
def Kd.cut (e:Nat->B0×Bool)(k:Kd):Kd:=
 if D8 k.fD (E7 e k.pl k.pl.length)<0 then k else k.of 0 (a0d k.fB k.fD (D8 k.fD (E7 e k.pl k.pl.length)).toNat k.pl.length)
def F0Q (K:U3 l n a b e z F){k:Kd}(C:R3 l n k.pl k.maps k.fB k.fD):j0p F l k.T=some (k.cut e).T:=by
 have f1:=K.f1;have hm:=C.le;have hn:=K.T.n64;unfold j0p Kd.T;have g:=s0W (flag:=k.flag) K C;unfold z8 at g;simp only[g,G0];unfold Kd.cut;rcases j07 (fD:=k.fD) (E7 e k.pl k.pl.length) (n:=k.pl.length) (fun i h=>j0P h)with hb|⟨q,hb,hq⟩
 ·rw[hb];rfl
 ·have o:¬((q:Int)<0):=O'
  rw[hb];simp only[q0,o,Int.toNat_natCast];have c:∀i∈a0d k.fB k.fD q k.pl.length,i<k.pl.length:=fun i h=>n01 h;have d:(a0d k.fB k.fD q k.pl.length).length<=1000:=by have:=r0i k.fB k.fD q k.pl.length;omega
  have m:=t0y k.fB k.fD q k.pl.length;have f:iter (h0H F (D1 k.pl) (U2 k.pl.length k.fB k.fD) (q:Int)) F ([],0)=some (D1 (a0d k.fB k.fD q k.pl.length)):=by
   have:=H3 (step:=h0H F (D1 k.pl) (U2 k.pl.length k.fB k.fD) (q:Int)) (fun i=>(D1 (a0d k.fB k.fD q i),(i:Int))) (D1 (a0d k.fB k.fD q k.pl.length)) k.pl.length (fun i hi=>.inl ?_) ?_ k.pl.length 0 F O' O'
   ·exact this
   ·unfold h0H;have h1:(i:Int)<((D1 k.pl).length:Int):=by simp;omega
    have p:K0 8 (D1 (a0d k.fB k.fD q i)) [(i:Int)]=true:=by have:=r0i k.fB k.fD q i;simp[K0];omega
    have heq:((i:Int)==(q:Int))=(i==q):=by rw[Bool.eq_iff_iff];simp only[beq_iff_eq];omega
    simp only[h1,decide_true,if_true,U2,H9 _ hi,H9 _ hq,R8 _ hi,R8 _ hq,a0k _ hi,a0k _ hq,b0y _ hi,b0y _ hq,heq,p,F0A,X1 (i:=i) O'];unfold j0e;cases c1:i==q
    ·cases c2:decide (k.fB i q>0)
     ·cases c3:decide (k.fD q i<0)
      ·simp only[q0,Bool.or_self]
      ·simp only[q0,Bool.or_true,g0m]
     ·simp only[q0,Bool.true_or,Bool.or_true,g0m]
    ·simp only[if_true,G0,Bool.true_or,g0m]
   ·unfold h0H;have h1:¬((k.pl.length:Int)<((D1 k.pl).length:Int)):=Z'
    simp only[q0,h1]
  rw[f];generalize a0d k.fB k.fD q k.pl.length=st at *;simp only[G0,r0O (x:=D1 k.pl) (of:=st) (F:=F) (by simpa using c) d O',F0I (F:=F) (x:=k.maps) (of:=st) (by rw[C.len];exact c) d m,U2,F0U c d (show 2000<F from O')];unfold Kd.of;have he:(st.map fun i:Nat=>gt (D1 k.pl) (i:Int))=D1 (st.map fun i=>k.pl.getD i 0):=by
   refine List.ext_getElem Z' fun j h1 r=>?_;simp only[length_map]at h1;have:=a0T (c st[j] (getElem_mem h1));simp only[D1,List.getElem_map]at this ⊢;exact this
  simp only[length_map,he]
theorem d0N {k:Kd}(C:R3 l n k.pl k.maps k.fB k.fD):R3 l n (k.cut e).pl (k.cut e).maps (k.cut e).fB (k.cut e).fD:=by
 unfold Kd.cut;split
 ·exact C
 ·exact x0y C (t0y _ _ _ _) (fun i h=>n01 h)
end
def v8:Nat->List Int->List (Int×Int)
 |_,[]=>[]
 |k,v :: r=>(v,(k:Int)) :: v8 (k+1) r
theorem u0v (v:Int):∀(s:List Int) (k:Nat),v8 k (s++[v])=v8 k s++[(v,((k+s.length:Nat):Int))]
 |[],k=>rfl
 |x :: r,k=>by
  simp only[List.cons_append,v8,u0v v r (k+1),length_cons]
  grind
theorem p0Q (v:Int):∀(s:List Int) (k:Nat),J7 (v8 k s) v=decide (v∈s)
 |[],k=>by rfl
 |x :: r,k=>by
  simp only[v8,J7,p0Q v r (k+1),List.mem_cons]
  grind
theorem s0m (v:Int):∀(s:List Int) (k:Nat),v∈s->U7 (v8 k s) v=((k+s.idxOf v:Nat):Int)
 |x :: r,k,h=>by
  simp only[v8,U7,List.idxOf_cons]
  by_cases e:x=v
  ·simp_all
  ·have c:v∈r:=by
    grind
   have eb:(x==v)=false:=by simp_all
   simp only[eb,false_eq_true,if_false,s0m v r (k+1) c,cond_false];omega
def u0j (v n:Int):∀m:List (Int×Int),J7 m v=false->b0f m v n=m++[(v,n)]
 |[],_=>rfl
 |(a,b) :: r,h=>by
  simp_all[J7,Bool.or_eq_false_iff,b0f,false_eq_true,if_false,u0j,List.cons_append]
def M6 (s:List Int)(v:Int):List Int:=if v=-2\/v∈s then s else s++[v]
def Z2 (s r:List Int):List Int:=r.foldl M6 s
def O3 (s:List Int)(v:Int):Int:=if v=-2 then -2 else(s.idxOf v:Int)
theorem v04 (s:List Int)(v:Int):s <+: M6 s v:=by
 unfold M6;grind
theorem k0W:∀(r s:List Int),s <+: Z2 s r
 |[],s=>List.prefix_refl _
 |v :: r,s=>(v04 s v).trans (k0W r (M6 s v))
theorem h0F (s r t:List Int):Z2 s (r++t)=Z2 (Z2 s r) t:=by simp[Z2]
theorem l0c:∀(r s:List Int),(Z2 s r).length<=s.length+r.length
 |[],s=>by simp[Z2]
 |v :: r,s=>by
  have h1:=l0c r (M6 s v)
  grind [Z2,M6]
theorem t0z {x:Int}:∀(r s:List Int),x∈Z2 s r->x∈s\/(x∈r/\x≠-2)
 |[],s,h=>.inl h
 |v :: r,s,h=>by
  rcases t0z r (M6 s v) h with h1|⟨h1,h2⟩
  ·grind [M6]
  simp_all
theorem v0F {s t:List Int}{v:Int}(h:s <+: t)(c:v∈s):t.idxOf v=s.idxOf v:=by
 obtain⟨u,rfl⟩:=h
 grind
theorem y0U {s:List Int}{v:Int}(c:v∉s):(s++[v]).idxOf v=s.length:=by
 grind
def m0b {s t:List Int}{v:Int}(h:M6 s v <+: t):(v=-2/\O3 t v=-2/\M6 s v=s)\/(v≠-2/\v∈s/\M6 s v=s/\O3 t v=(s.idxOf v:Int)/\s.idxOf v<s.length)\/(v≠-2/\v∉s/\M6 s v=s++[v]/\O3 t v=(s.length:Int)):=by
 by_cases c:v=-2
 ·simp_all[O3,M6]
 ·by_cases hm:v∈s
  ·have e:M6 s v=s:=by simp_all[M6]
   rw[e]at h;exact .inr (.inl ⟨c,hm,e,by unfold O3;rw[if_neg c,v0F h hm],List.idxOf_lt_length_of_mem hm⟩)
  ·have e:M6 s v=s++[v]:=by simp_all[M6]
   rw[e]at h;exact .inr (.inr ⟨c,hm,e,by unfold O3;rw[if_neg c,v0F h Z',y0U hm]⟩)
section
variable {F:Nat}
theorem E0H {row:List Int}{f:Int->Int}{j:Nat}(c:j<row.length):((row.take j).map f++row.drop j).set j (f (gt row (j:Int)))=(row.take (j+1)).map f++row.drop (j+1):=by
 grind [P4,take_succ,List.drop_eq_getElem_cons]
def i0Q {row s:List Int}{j:Nat}(c:j<row.length):Z2 s (row.take (j+1))=M6 (Z2 s (row.take j)) (gt row (j:Int)):=by
 have hg:row[j]?=some (gt row (j:Int)):=P4 c;rw[take_succ,hg,h0F];rfl
theorem C0N {src t:List Int}{y:List (List Int)}{x:Nat}(R:x<y.length){row:List Int}(C:gt y (x:Int)=row)(J:Z2 src row <+: t)(hlen:t.length<=1000000)(a1:row.length<=1000)(hf:2000<F):
  iter (h05 F (x:Int) y) F (src,0,y,v8 0 src)=some (Z2 src row,y.set x (row.map (O3 t)),v8 0 (Z2 src row)):=by
 have:=H3 (step:=h05 F (x:Int) y) (fun j=>(Z2 src (row.take j),(j:Int),y.set x ((row.take j).map (O3 t)++row.drop j),v8 0 (Z2 src (row.take j)))) (Z2 src row,y.set x (row.map (O3 t)),v8 0 (Z2 src row)) row.length (fun j I=>.inl ?_) ?_ row.length 0 F O' O'
 ·have e0:y.set x ((row.take 0).map (O3 t)++row.drop 0)=y:=by
   refine List.ext_getElem? fun i=>?_
   grind [P4]
  rw[<-this];simp only[e0];rfl
 ·have r:(j:Int)<((gt y (x:Int)).length:Int):=by simp_all
  have p:gt (y.set x ((row.take j).map (O3 t)++row.drop j)) (x:Int)=(row.take j).map (O3 t)++row.drop j:=X2 (List.getElem?_set_self R);have U:((row.take j).map (O3 t)++row.drop j).length=row.length:=by grind
  have u:y0 ((row.take j).map (O3 t)++row.drop j) (j:Int)=true:=V0 O' O';have h:gt ((row.take j).map (O3 t)++row.drop j) (j:Int)=gt row (j:Int):=by
   refine X2 ?_
   grind [P4]
  have o:=i0Q (s:=src) I;have hp:M6 (Z2 src (row.take j)) (gt row (j:Int)) <+: t:=by
   grind [h0F,List.take_append_drop,k0W]
  have c:=E0H (f:=O3 t) I;unfold h05;simp only[r,decide_true,if_true,p,u,h,o,X1 (i:=j) O'];have g:=hp.length_le;generalize Z2 src (row.take j)=s at *;generalize gt row (j:Int)=v at *;rcases m0b hp with⟨h1,d,k⟩|⟨h1,d,k,h4,h5⟩|⟨h1,d,k,h4⟩
  ·have m:(v==-2)=true:=by simpa using h1
   rw[k];simp only[m,if_true,G0];rw[d]at c;have:((row.take j).map (O3 t)++row.drop j).set j (-2)=(row.take j).map (O3 t)++row.drop j:=by
    refine List.ext_getElem? fun i=>?_
    by_cases e:j=i
    ·subst e;rw[List.getElem?_set_self O',P4 O',h,h1]
    ·rw[List.getElem?_set_ne e]
   rw[this]at c;rw[c]
  ·have m:(v==-2)=false:=by simpa using h1
   have hm:J7 (v8 0 s) v=true:=by rw[p0Q];simpa using d
   have hg:=s0m v s 0 d;rw[Nat.zero_add]at hg;rw[k];simp only[q0,m,hm,hg,Int.toNat_natCast,set_set];rw[h4]at c;rw[c]
  ·have m:(v==-2)=false:=by simpa using h1
   have hm:J7 (v8 0 s) v=false:=by rw[p0Q];simpa using d
   rw[k]at g ⊢;simp only[length_append,length_cons,length_nil]at g;have q:K0 8 s [v]=true:=by simp[K0];omega
   have w:b0f (v8 0 s) v (s.length:Int)=v8 0 (s++[v]):=by rw[u0j _ _ _ hm,u0v,Nat.zero_add]
   simp only[q0,m,hm,q,w,Int.toNat_natCast,set_set];rw[h4]at c;rw[c]
 simp_all[h05]
theorem j0f:∀(maps:List (List Int)) (m:Nat),(∀r∈maps,r.length<=m)->maps.flatten.length<=maps.length*m
 |[],m,_=>Z'
 |r :: t,m,h=>by
  have h1:=j0f t m (fun x c=>h x (List.mem_cons_of_mem _ c))
  grind [Nat.succ_mul]
def M4 (maps:List (List Int)):List Int:=Z2 [] maps.flatten
def X5 (maps:List (List Int)):List (List Int):=maps.map fun r=>r.map (O3 (M4 maps))
theorem h0A {maps:List (List Int)}{i:Nat}(hi:i<maps.length):Z2 (Z2 [] (maps.take i).flatten) (gt maps (i:Int))=Z2 [] (maps.take (i+1)).flatten:=by
 grind [h0F,take_succ,P4]
theorem w0R (maps:List (List Int))(i:Nat):Z2 [] (maps.take i).flatten <+: M4 maps:=by
 grind [M4,h0F,List.take_append_drop,k0W]
theorem B0a {fl:Int}{N7:List Int}{maps:List (List Int)}{rk:D2}(k:∀r∈maps,r.length<=1000)(hm:maps.length<=1000)(m:2000<F):
  g0N F (fl,N7,maps,rk)=some (⟨fl,N7,X5 maps,rk⟩,M4 maps):=by
 have o:=j0f maps 1000 k;have f:(M4 maps).length<=1000000:=by
  grind [l0c,M4]
 unfold g0N;have:=H3 (step:=i0a F maps) (fun i=>(Z2 [] (maps.take i).flatten,(i:Int),(maps.take i).map (fun r=>r.map (O3 (M4 maps)))++maps.drop i,v8 0 (Z2 [] (maps.take i).flatten))) (M4 maps,X5 maps) maps.length (fun i hi=>.inl ?_) ?_ maps.length 0 F O' O'
 ·have u:iter (i0a F maps) F ([],0,maps,[])=some (M4 maps,X5 maps):=this
  simp_all
 ·have h1:(i:Int)<(maps.length:Int):=O'
  have p:((maps.take i).map (fun r=>r.map (O3 (M4 maps)))++maps.drop i).length=maps.length:=by grind
  have g:y0 ((maps.take i).map (fun r=>r.map (O3 (M4 maps)))++maps.drop i) (i:Int)=true:=V0 O' O';have h:gt ((maps.take i).map (fun r=>r.map (O3 (M4 maps)))++maps.drop i) (i:Int)=gt maps (i:Int):=by
   refine X2 ?_
   grind [P4]
  have j:=k _ (mem_of_getElem? (P4 hi));have d:=C0N (F:=F) (src:=Z2 [] (maps.take i).flatten) (t:=M4 maps) (y:=(maps.take i).map (fun r=>r.map (O3 (M4 maps)))++maps.drop i) (x:=i) O' h (by simp_all[h0A,w0R]) f j m;have c:((maps.take i).map (fun r=>r.map (O3 (M4 maps)))++maps.drop i).set i ((gt maps (i:Int)).map (O3 (M4 maps)))=(maps.take (i+1)).map (fun r=>r.map (O3 (M4 maps)))++maps.drop (i+1):=by
   have q:maps.take (i+1)=maps.take i++[gt maps (i:Int)]:=by grind [take_succ,P4]
   have s:i-((maps.take i).map (fun r=>r.map (O3 (M4 maps)))).length=0:=by grind
   grind [List.drop_eq_getElem_cons]
  unfold i0a;simp only[q0,h1,g,d,h0A hi,c,X1 (i:=i) O']
 ·have h1:¬(maps.length:Int)<(maps.length:Int):=O'
  unfold i0a;simp only[q0,h1,take_length,List.drop_length,append_nil];rfl
theorem D0L {src t:List Int}{y:List (List Int)}{x:Nat}{row:List Int}(g:gt y (x:Int)=row.map (O3 t))(u:Z2 src row <+: t)(hlen:t.length<=1000000)(I:row.length<=1000)(R:2000<F):
  iter (h0x F y (x:Int)) F ((src.length:Int),0)=some (.inr ((Z2 src row).length:Int))/\∀k:F1,iter (g0Q F ⟨k.Flag,k.Places,y,k.Rank⟩ (x:Int)) F ((src.length:Int),0)=some ((Z2 src row).length:Int):=by
 have hp:∀j,j<row.length->M6 (Z2 src (row.take j)) (gt row (j:Int)) <+: t:=fun j m=>by
  rw[<-i0Q m]
  grind [h0F,List.take_append_drop,k0W]
 have J:(row.map (O3 t)).length=row.length:=Z'
 have r:∀j,j<row.length->gt (row.map (O3 t)) (j:Int)=O3 t (gt row (j:Int)):=fun j m=>X2 (by grind [P4]);refine⟨?_,fun k=>?_⟩
 ·have:=H3 (step:=h0x F y (x:Int)) (fun j=>(((Z2 src (row.take j)).length:Int),(j:Int))) (.inr ((Z2 src row).length:Int)) row.length (fun j m=>.inl ?_) ?_ row.length 0 F O' O'
  ·exact this
  ·have c:(j:Int)<((row.map (O3 t)).length:Int):=O'
   have p:y0 (row.map (O3 t)) (j:Int)=true:=V0 O' c;have h:=hp j m;have d:=h.length_le;unfold h0x;simp only[g,c,decide_true,if_true,p,r j m,i0Q (s:=src) m,X1 (i:=j) O'];generalize Z2 src (row.take j)=s at *;generalize gt row (j:Int)=v at *;rcases m0b h with⟨h1,q,f⟩|⟨h1,q,f,h4,h5⟩|⟨h1,q,f,h4⟩
   ·simp_all
   ·have o:(((s.idxOf v:Nat):Int)==-2)=false:=by rfl
    have C:¬((s.idxOf v:Nat):Int)<0:=O'
    have w:¬((s.idxOf v:Nat):Int)>(s.length:Int):=O'
    have U:(((s.idxOf v:Nat):Int)==(s.length:Int))=false:=by grind
    grind
   ·have o:(((s.length:Nat):Int)==-2)=false:=by rw[beq_eq_false_iff_ne];omega
    have C:¬((s.length:Nat):Int)<0:=O'
    have w:¬((s.length:Nat):Int)>(s.length:Int):=O'
    rw[f]at d;simp only[length_append,length_cons,length_nil]at d;rw[h4,f];simp only[q0,o,C,w,beq_self_eq_true,X1 (i:=s.length) O',length_append,length_cons,length_nil]
  simp_all[h0x]
 ·have:=H3 (step:=g0Q F ⟨k.Flag,k.Places,y,k.Rank⟩ (x:Int)) (fun j=>(((Z2 src (row.take j)).length:Int),(j:Int))) ((Z2 src row).length:Int) row.length (fun j m=>.inl ?_) ?_ row.length 0 F O' O'
  ·exact this
  ·have c:(j:Int)<((row.map (O3 t)).length:Int):=O'
   have p:y0 (row.map (O3 t)) (j:Int)=true:=V0 O' c;have h:=hp j m;have d:=h.length_le;unfold g0Q;simp only[g,c,decide_true,if_true,p,r j m,i0Q (s:=src) m,X1 (i:=j) O'];generalize Z2 src (row.take j)=s at *;generalize gt row (j:Int)=v at *;rcases m0b h with⟨h1,q,f⟩|⟨h1,q,f,h4,h5⟩|⟨h1,q,f,h4⟩
   ·have o:¬(W (-2+1)>(s.length:Int)):=by rw[E3 O' O'];omega
    rw[q,f,if_neg o]
   ·rw[f]at d;have o:¬(W (((s.idxOf v:Nat):Int)+1)>(s.length:Int)):=by rw[E3 O' O'];omega
    rw[h4,f,if_neg o]
   ·rw[f]at d;simp only[length_append,length_cons,length_nil]at d;have o:(W (((s.length:Nat):Int)+1)>(s.length:Int)):=by rw[E3 O' O'];omega
    rw[h4,f,if_pos o,X1 (i:=s.length) O'];simp
  ·have c:¬(row.length:Int)<((row.map (O3 t)).length:Int):=O'
   unfold g0Q;simp only[q0,g,c,take_length]
theorem A07 {maps:List (List Int)}{tags:Nat}(o:∀r∈maps,r.length=tags)(v:tags<=1000)(hm:maps.length<=1000)(p:2000<F)(k:F1):
  g07 F (X5 maps) (tags:Int)=some true/\c0k F ⟨k.Flag,k.Places,X5 maps,k.Rank⟩=some ((M4 maps).length:Int):=by
 have s:=j0f maps 1000 (fun r h=>by simp_all);have f:(M4 maps).length<=1000000:=by
  grind [l0c,M4]
 have u:(X5 maps).length=maps.length:=by simp[X5]
 have j:∀i,i<maps.length->gt (X5 maps) (i:Int)=(gt maps (i:Int)).map (O3 (M4 maps)):=fun i hi=>X2 (by grind [X5,P4]);have c:∀i,i<maps.length->_:=fun i hi=>D0L (F:=F) (src:=Z2 [] (maps.take i).flatten) (t:=M4 maps) (y:=X5 maps) (x:=i) (j i hi) (by simp_all[h0A,w0R]) f (by have:=o _ (mem_of_getElem? (P4 hi));omega) p;have m:Z2 [] (maps.take maps.length).flatten=M4 maps:=by rw[take_length];rfl
 constructor
 ·unfold g07;have:=H3 (step:=i0p F (X5 maps) (tags:Int)) (fun i=>(((Z2 [] (maps.take i).flatten).length:Int),(i:Int))) (.inr ()) maps.length (fun i hi=>.inl ?_) ?_ maps.length 0 F O' O'
  ·have q:iter (i0p F (X5 maps) (tags:Int)) F (0,0)=some (.inr ()):=this
   simp_all
  ·have h1:(i:Int)<((X5 maps).length:Int):=O'
   have d:y0 (X5 maps) (i:Int)=true:=V0 O' h1;have hl:=o _ (mem_of_getElem? (P4 hi));have g:(((gt (X5 maps) (i:Int)).length:Int) != (tags:Int))=false:=by simp_all
   unfold i0p;simp only[q0,h1,d,g,(c i hi).1,h0A hi,X1 (i:=i) O']
  simp[X5,i0p]
 ·unfold c0k;have:=H3 (step:=h0f F ⟨k.Flag,k.Places,X5 maps,k.Rank⟩) (fun i=>(((Z2 [] (maps.take i).flatten).length:Int),(i:Int))) ((M4 maps).length:Int) maps.length (fun i hi=>.inl ?_) ?_ maps.length 0 F O' O'
  ·have q:iter (h0f F ⟨k.Flag,k.Places,X5 maps,k.Rank⟩) F (0,0)=some ((M4 maps).length:Int):=this
   simp_all
  ·have h1:(i:Int)<((X5 maps).length:Int):=O'
   have d:y0 (X5 maps) (i:Int)=true:=V0 O' h1;unfold h0f;simp only[q0,h1,d,(c i hi).2 k,h0A hi,X1 (i:=i) O']
  simp_all[h0f]
end
def S0B {o:List Int}{j:Nat}{x:Int}(h:1<=j):gt (o.set j x) 0=gt o 0:=by
 unfold gt;rw[List.getD_eq_getElem?_getD,List.getD_eq_getElem?_getD];have:(0:Int).toNat=0:=rfl;rw[this,List.getElem?_set_ne O']
def V09 (now none_:Int)(o:List Int)(m:J2):gt (T4 now none_ o m) 0=gt o 0:=by
 unfold T4;split
 ·rfl
 ·rename_i h;have h1:1<=m.Group:=O'
  split
  ·exact S0B O'
  ·split
   ·exact S0B O'
   ·split
    ·rw[S0B O',S0B O']
    ·rfl
def Q0E (now none_:Int):∀(marks:List J2) (o:List Int),gt (Z9 now none_ o marks) 0=gt o 0
 |[],o=>rfl
 |m :: r,o=>by
  have h:=Q0E now none_ r (T4 now none_ o m);rw[V09]at h;exact h
def Q0w (l:List C0)(at_:Int):gt (k0o l at_) 0=at_:=by
 have d:=a07 l;unfold k0o;obtain⟨t,c⟩:∃t:Nat,(C4 l).toNat=t+1:=⟨(C4 l).toNat-1,O'⟩
 rw[c];rfl
section
variable {F:Nat}{l:List C0}{n:Nat}{a:List B0}{b:Nat->List B0}{e:Nat->B0×Bool}{z:B0×Bool}
def R01 {at_:Int}{pl:List Nat}{vals:List (List Int)}{fB fD:Nat->Nat->Int}(C:R3 l n pl vals fB fD){E0:Bool}{b_:Int}{r:Nat}(f:r∈Z3 l n a b pl b_ E0):
  (T5 a b pl fB fD E0 r<pl.length/\gt (goV l at_ vals E0) (T5 a b pl fB fD E0 r:Int)=gt vals (T5 a b pl fB fD E0 r:Int))\/(E0=true/\T5 a b pl fB fD E0 r=pl.length/\gt (goV l at_ vals E0) (T5 a b pl fB fD E0 r:Int)=k0o l at_):=by
 have c:T5 a b pl fB fD E0 r<C5 pl E0:=by rw[<-d0B a b];exact e0o (c09 f).2
 have d:=C.len
 by_cases h:T5 a b pl fB fD E0 r<pl.length
 ·refine .inl ⟨h,?_⟩;unfold goV;exact b0Y O' O'
 ·cases E0 with
  |false=>unfold C5 at c;simp at c;exact absurd c h
  |true=>
   unfold C5 at c;simp only[if_true]at c;have e:T5 a b pl fB fD true r=pl.length:=O'
   refine .inr ⟨rfl,e,?_⟩;rw[e];unfold goV;exact e0v d.symm
def U0o {at_:Int}{pl:List Nat}{vals:List (List Int)}{fB fD:Nat->Nat->Int}(C:R3 l n pl vals fB fD)(hs:(B0o l e at_ pl vals fD).2=true):(B0o l e at_ pl vals fD).1.length=(C4 l).toNat/\∃v∈vals,gt (B0o l e at_ pl vals fD).1 0=gt v 0:=by
 unfold B0o at hs ⊢
 by_cases c:D8 fD (E7 e pl pl.length)<0
 ·rw[if_pos c]at hs;cases hs
 ·rw[if_neg c];rcases j07 (fD:=fD) (E7 e pl pl.length) (n:=pl.length) (fun i h=>j0P h)with hb2|⟨k,hb2,hk⟩
  ·rw[hb2]at c;exact absurd (show(-1:Int)<0 from O') c
  ·have hm:=b8 (l:=vals) (i:=k) (by rw[C.len];exact hk);rw[hb2];exact⟨by rw[e0V];exact C.row _ hm,_,hm,by rw[Q0E]⟩
def W05 {at_:Int}(hs:(s0N l z at_).2=true):(s0N l z at_).1.length=(C4 l).toNat/\gt (s0N l z at_).1 0=at_:=by
 unfold s0N at hs ⊢
 by_cases c:z.2=true
 ·rw[if_pos c];exact⟨by rw[e0V,B0S],by rw[Q0E,Q0w]⟩
 ·rw[if_neg c]at hs;cases hs
end
structure Hs where
 c:Cs
 tags:List Int
 to:Int
 is:Bool
section
variable (l:List C0)(n:Nat)(a:List B0)(b:Nat->List B0)(e:Nat->B0×Bool)(z:B0×Bool)
def Hs.zero:Hs:=⟨Cs.zero,(s0N l z 0).1,0,(s0N l z 0).2⟩
def Hs.j0o (h:Hs)(b_:Int):Cs:=h.c.step l n a b b_ (h.c.at_==0||!h.is)
def Hs.feed (h:Hs)(b_:Int):Hs:=
 if((h.j0o l n a b b_).P6 l e).2 then⟨(h.j0o l n a b b_).L0 (gt ((h.j0o l n a b b_).P6 l e).1 0),((h.j0o l n a b b_).P6 l e).1,(h.j0o l n a b b_).at_,true⟩
 else⟨h.j0o l n a b b_,h.tags,h.to,h.is⟩
end
def Hs.found (h:Hs):List g0p×Bool:=if h.is then(f02 h.tags h.to,true)else([],false)
def Hs.over (h:Hs):Bool:=h.is&&(h.c.pl.length==0&&decide (h.c.at_>0))
structure B0U (l:List C0)(n:Nat)(h:Hs)(i:Nat):Prop where
 c:w04 l n h.c i
 t0:0<=h.to
 len:h.tags.length<=1000
 pos:∀v∈h.c.vals,0<=gt v 0
 is:h.is=true->h.tags.length=(C4 l).toNat/\0<=gt h.tags 0/\∀v∈h.c.vals,gt v 0<=gt h.tags 0
section
variable {F:Nat}{l:List C0}{n:Nat}{a:List B0}{b:Nat->List B0}{e:Nat->B0×Bool}{z:B0×Bool}
def U09:B0U l n (Hs.zero l z) 0 where
 c:=U0z l n
 t0:=Int.le_refl _
 len:=V0x
 pos:=by intro v h;cases h
 is:=fun h=>by
  obtain⟨h1,d⟩:=W05 (l:=l) (z:=z) (at_:=0) h;exact⟨h1,by show 0<=gt (s0N l z 0).1 0;omega,by intro v h;cases h⟩
def B0i (p:List Nat):(((p.length:Int))==0)=(p.length==0):=by rw[Bool.eq_iff_iff];simp
def X0b (K:U3 l n a b e z F){s:Cs}{i:Nat}(h:w04 l n s i)(b_:Int)(E0:Bool):∀v∈(s.step l n a b b_ E0).vals,(∃u∈s.vals,gt v 0=gt u 0)\/(E0=true/\gt v 0=(i:Int)):=by
 intro v d;obtain⟨r,f,rfl⟩:=mem_map.1 d;unfold stV;rw[Q0E];rcases R01 (at_:=s.at_) h.ok f with⟨h1,c⟩|⟨h1,_,c⟩
 ·rw[c];exact .inl ⟨_,b8 (by rw[h.ok.len];exact h1),rfl⟩
 ·rw[c,Q0w,h.a0];exact .inr ⟨h1,rfl⟩
def V0d {s:Cs}{from_:Int}(hl:s.vals.length=s.pl.length):∀v∈(s.L0 from_).vals,v∈s.vals/\gt v 0<=from_:=by
 intro v c;obtain⟨k,hk,rfl⟩:=mem_map.1 c;have d:=(List.mem_filter.1 hk).2;exact⟨b8 (by rw[hl];exact Q0X hk),by simpa using d⟩
def T0F (K:U3 l n a b e z F)(hw:∀x∈l,P2 x){h:Hs}{i:Nat}(ho:B0U l n h i)(b_:Int):B0U l n (h.feed l n a b e b_) (i+1):=by
 have g:w04 l n (h.j0o l n a b b_) (i+1):=S0Q K hw ho.c b_ (h.c.at_==0||!h.is);have j:=X0b K ho.c b_ (h.c.at_==0||!h.is);have d:∀v∈(h.j0o l n a b b_).vals,0<=gt v 0:=fun v p=>by
  rcases j v p with⟨u,hu,k⟩|⟨_,k⟩
  ·rw[k];exact ho.pos u hu
  ·rw[k];omega
 have hle:h.is=true->∀v∈(h.j0o l n a b b_).vals,gt v 0<=gt h.tags 0:=fun f v p=>by
  obtain⟨_,i2,i3⟩:=ho.is f;rcases j v p with⟨u,hu,k⟩|⟨hbeg,k⟩
  ·rw[k];exact i3 u hu
  ·rw[k];have J:=ho.c.a0;rw[f]at hbeg;have:h.c.at_=0:=by simpa using hbeg
   omega
 have w:(h.j0o l n a b b_).at_=((i+1:Nat):Int):=g.a0;cases q:((h.j0o l n a b b_).P6 l e).2 with
 |false=>
  have r:h.feed l n a b e b_=⟨h.j0o l n a b b_,h.tags,h.to,h.is⟩:=by unfold Hs.feed;rw[q];rfl
  rw[r];refine⟨g,ho.t0,ho.len,d,fun f=>?_⟩;obtain⟨y,i2,_⟩:=ho.is f;exact⟨y,i2,hle f⟩
 |true=>
  obtain⟨t1,v,v1,v2⟩:=U0o (e:=e) (at_:=(h.j0o l n a b b_).at_) g.ok q;have I:=a07 l;have C:w04 l n ((h.j0o l n a b b_).L0 (gt ((h.j0o l n a b b_).P6 l e).1 0)) (i+1):=⟨x0y g.ok (T0i _ _ _) (fun i h=>Q0X h),g.a0,g.w0,g.w1⟩
  have r:h.feed l n a b e b_=⟨(h.j0o l n a b b_).L0 (gt ((h.j0o l n a b b_).P6 l e).1 0),((h.j0o l n a b b_).P6 l e).1,(h.j0o l n a b b_).at_,true⟩:=by unfold Hs.feed;rw[q];rfl
  have m:((h.j0o l n a b b_).P6 l e).1.length=(C4 l).toNat:=t1;have o:gt ((h.j0o l n a b b_).P6 l e).1 0=gt v 0:=v2;rw[r];have t:=V0d (s:=h.j0o l n a b b_) (from_:=gt ((h.j0o l n a b b_).P6 l e).1 0) g.ok.len;refine⟨C,?_,?_,?_,fun _=>⟨m,?_,fun u hu=>(t u hu).2⟩⟩
  ·show 0<=(h.j0o l n a b b_).at_;omega
  ·show((h.j0o l n a b b_).P6 l e).1.length<=1000;omega
  ·intro u hu;exact d u (t u hu).1
  ·show 0<=gt ((h.j0o l n a b b_).P6 l e).1 0;rw[o];exact d v v1
end
