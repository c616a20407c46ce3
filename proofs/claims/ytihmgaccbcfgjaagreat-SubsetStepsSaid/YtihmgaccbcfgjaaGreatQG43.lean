/- P. Its conditions: none. -/
import Derived.Test.YtihmgaccbcfgjaaGreatQG42
open Bool (false_eq_true)
open List (range_succ map_append map_cons map_nil append_nil getElem_mem take_length mem_map length_map length_cons mem_cons take_succ set_set length_append length_nil)
set_option linter.all false
namespace Go.Proofs.YtihmgaccbcfgjaaGreat
open Go.V Go.RowKit Old Go.X
def b0I (l:List C0):List Int:=(List.replicate (C4 l).toNat (-2)).set 0 (-1)
def a0F (l:List C0)(maps:List (List Int))(E0:Bool):List (List Int):=maps++if E0 then[b0I l]else[]
def goG (l:List C0)(a:List B0)(b:Nat->List B0)(pl:List Nat)(maps:List (List Int))(E0:Bool):List G5:=((List.range pl.length).map fun(i:Nat)=>(⟨gt maps (i:Int),b (pl.getD i 0)⟩:G5))++if E0 then[⟨b0I l,a⟩]else[]
def z8 (flag:Int)(pl:List Nat)(maps:List (List Int))(fB fD:Nat->Nat->Int):F1:=⟨flag,D1 pl,maps,U2 pl.length fB fD⟩
def stM (l:List C0)(a:List B0)(b:Nat->List B0)(pl:List Nat)(maps:List (List Int))(fB fD:Nat->Nat->Int)(E0:Bool)(r:Nat):List Int:=
 Z9 (-1) (-2) (gt (a0F l maps E0) (T5 a b pl fB fD E0 r:Int)) (a7 l (V5 a b pl fB fD E0 r).Steps)
theorem q0p (l:List C0):(b0I l).length=(C4 l).toNat:=by simp[b0I]
section
variable {F:Nat}{l:List C0}{n:Nat}{a:List B0}{b:Nat->List B0}{e:Nat->B0×Bool}{z:B0×Bool}{pl:List Nat}{maps:List (List Int)}{fB fD:Nat->Nat->Int}{flag:Int}
def s0j (C:R3 l n pl maps fB fD)(E0:Bool):(a0F l maps E0).length=C5 pl E0:=by unfold a0F C5;cases E0<;>simp[C.len]
def w0K (C:R3 l n pl maps fB fD)(E0:Bool):∀v∈a0F l maps E0,v.length=(C4 l).toNat:=by
 intro v c;rcases List.mem_append.1 c with h|h
 ·exact C.row v h
 simp_all[q0p]
theorem s02 (E0:Bool):(goG l a b pl maps E0).length=C5 pl E0:=by grind [goG,C5]
theorem t0v (C:R3 l n pl maps fB fD){E0:Bool}{i:Nat}(hi:i<C5 pl E0):gt (goG l a b pl maps E0) (i:Int)=⟨gt (a0F l maps E0) (i:Int),(Z1 a b pl E0).getD i []⟩:=by
 have c:=C.len;refine X2 ?_;unfold goG a0F Z1;unfold C5 at hi
 by_cases h:i<pl.length
 ·simp_all[List.getElem?_append_left,b0Y]
 ·cases E0 with
  |false=>simp_all
  |true=>
   simp only[if_true]at hi;have e:i=pl.length:=O'
   simp_all[e0v]
theorem t0l (K:U3 l n a b e z F):g0P F l=some (b0I l):=by
 have f1:=K.f1;have d:=a07 l;obtain⟨t,c⟩:∃t:Nat,C4 l=t:=⟨(C4 l).toNat,O'⟩
 unfold g0P b0I;rw[o0r K.hR O',c];simp only[G0,F0o (F:=F) (n:=t) (x:=-2) O' O',Int.toNat_natCast];rw[if_pos (V0 O' (by grind))];rfl
theorem y0j (K:U3 l n a b e z F)(C:R3 l n pl maps fB fD){E0:Bool}(c:(flag==0)=!E0):i0L F l (z8 flag pl maps fB fD) =
  some (goG l a b pl maps E0,U2 (C5 pl E0) (F5 pl E0 fB) (a6 pl E0 fD)):=by
 have f1:=K.f1;have hm:=C.le;have hn:=K.T.n64;have h:=C.len;have hl:=K.hl;unfold i0L;have:=H3 (step:=i0M F l (z8 flag pl maps fB fD)) (fun i=>((List.range i).map (fun(i:Nat)=>(⟨gt maps (i:Int),b (pl.getD i 0)⟩:G5)),(i:Int))) ((List.range pl.length).map (fun(i:Nat)=>(⟨gt maps (i:Int),b (pl.getD i 0)⟩:G5))) pl.length (fun i hi=>.inl ?_) ?_ pl.length 0 F O' O'
 ·have k:iter (i0M F l (z8 flag pl maps fB fD)) F ([],0)=_:=this;rw[k];simp only[G0,z8,c];unfold goG C5 F5 a6;cases E0 with
  |false=>simp
  |true=>
   have d:K0 48 ((List.range pl.length).map (fun(i:Nat)=>(⟨gt maps (i:Int),b (pl.getD i 0)⟩:G5))) [(⟨b0I l,a⟩:G5)]=true:=by grind [K0]
   have j:W ((l.length:Int)-1)=(l.length:Int)-1:=E3 O' O';simp only[q0,t0l K,j,K.TF.mA,d,B0O (show pl.length<=900 from O') (show 2000<F from O') C.rk]
 ·unfold i0M;have h1:(i:Int)<((D1 pl).length:Int):=by simp;omega
  have hp:=P8 C.pln hi;have g:y0 maps (i:Int)=true:=V0 O' O';have f:K0 48 ((List.range i).map (fun(i:Nat)=>(⟨gt maps (i:Int),b (pl.getD i 0)⟩:G5))) [(⟨gt maps (i:Int),b (pl.getD i 0)⟩:G5)]=true:=by grind [K0]
  simp only[q0,z8,h1,q9 hi,a0T hi,g,K.TF.mB _ hp,f,range_succ,map_append,map_cons,map_nil,X1 (i:=i) O']
 simp[i0M,z8]
def I0p {Ws:List (List B0)}{all:List G5}(hl:all.length=Ws.length)(hg:∀i:Nat,i<Ws.length->(gt all (i:Int)).ways=Ws.getD i [])(s:∀i,i<Ws.length->K8 n (Ws.getD i [])/\(Ws.getD i []).length<=500000)(w:Ws.length<=1000)(x:2000001<F)(r:Nat):
  j0n F all (r:Int)=some (D1 (T3 Ws r Ws.length),l7 Ws r Ws.length):=by
 unfold j0n;have:=H3 (step:=i0t F all (r:Int)) (fun i=>(D1 (T3 Ws r i),l7 Ws r i,(i:Int))) (D1 (T3 Ws r Ws.length),l7 Ws r Ws.length) Ws.length (fun i hi=>.inl ?_) ?_ Ws.length 0 F O' O'
 ·have y:iter (i0t F all (r:Int)) F ([],[],0)=_:=this
  simp_all
 ·have h1:(i:Int)<(all.length:Int):=O'
  have m:y0 all (i:Int)=true:=V0 O' h1;obtain⟨h,hlen⟩:=s i hi;have p:=hg i hi;have u:=s0Q Ws r i;have t:=s06 Ws r i;have inner:=H3 (step:=h0g F all (r:Int) (i:Int)) (fun j=>(D1 (T3 Ws r i++if(F8 ((Ws.getD i []).take j) r).isSome then[i]else[]),l7 Ws r i++(if(F8 ((Ws.getD i []).take j) r).isSome then[c02 ((Ws.getD i []).take j) r]else[]),(j:Int)))
   (D1 (T3 Ws r (i+1)),l7 Ws r (i+1)) (Ws.getD i []).length (fun j q=>.inl ?_) ?_ (Ws.getD i []).length 0 F O' O'
  ·have v:F8 ((Ws.getD i []).take 0) r=none:=rfl;have e0:iter (h0g F all (r:Int) (i:Int)) F (D1 (T3 Ws r i),l7 Ws r i,0)=some (D1 (T3 Ws r (i+1)),l7 Ws r (i+1)):=by
    simp_all
   unfold i0t;simp only[q0,h1,m,e0,X1 (i:=i) O']
  ·unfold h0g;have d:(j:Int)<(((Ws.getD i []).length:Nat):Int):=O'
   have c:y0 (Ws.getD i []) (j:Int)=true:=V0 O' d;simp only[p,d,decide_true,if_true,c]
   by_cases f:(gt (Ws.getD i []) (j:Int)).To=(r:Int)
   ·obtain⟨t1,t2⟩:=y0t h q f;have o:((gt (Ws.getD i []) (j:Int)).To==(r:Int))=true:=beq_iff_eq.2 f;have g:K0 8 (D1 (T3 Ws r i)) [(i:Int)]=true:=by simp[K0];omega
    have k:K0 40 (l7 Ws r i) [gt (Ws.getD i []) (j:Int)]=true:=by simp[K0];omega
    simp only[q0,o,t1,t2,Option.isSome_none,append_nil,Option.isSome_some,g,k,X1 (i:=j) O',g0m];unfold c02;rw[t1];rfl
   ·have t1:=x0Z q f;have o:((gt (Ws.getD i []) (j:Int)).To==(r:Int))=false:=beq_eq_false_iff_ne.2 f;simp only[q0,o,t1,X1 (i:=j) O'];unfold c02;rw[t1]
  simp_all[h0g,t04,y0S]
 simp_all[i0t]
set_option maxHeartbeats 2000000 in
theorem E07 (K:U3 l n a b e z F)(C:R3 l n pl maps fB fD)(hw:∀x∈l,P2 x){b_:Int}(hb:L5 .u8 b_)(E0:Bool){fl:Int}{rk:D2}{r:Nat}(hr:r<n):
  f01 F l b_ (U2 (C5 pl E0) (F5 pl E0 fB) (a6 pl E0 fD)) (G2 l l.length)
   (goG l a b pl maps E0,D1 ((H6 (s7 l b_) (Z1 a b pl E0) r).map (T5 a b pl fB fD E0)),(H6 (s7 l b_) (Z1 a b pl E0) r).map (V5 a b pl fB fD E0),(r:Int),(fl,D1 (H6 (s7 l b_) (Z1 a b pl E0) r),(H6 (s7 l b_) (Z1 a b pl E0) r).map (stM l a b pl maps fB fD E0),rk)) =
  some (.next (goG l a b pl maps E0,D1 ((H6 (s7 l b_) (Z1 a b pl E0) (r+1)).map (T5 a b pl fB fD E0)),(H6 (s7 l b_) (Z1 a b pl E0) (r+1)).map (V5 a b pl fB fD E0),((r+1:Nat):Int),(fl,D1 (H6 (s7 l b_) (Z1 a b pl E0) (r+1)),(H6 (s7 l b_) (Z1 a b pl E0) (r+1)).map (stM l a b pl maps fB fD E0),rk))):=by
 have f1:=K.f1;have hn:=K.T.n64;have hM:=t0H K C E0;have h:=d0B a b pl E0;obtain⟨b6,R⟩:=A0d K C E0 r;have I:=s06 (Z1 a b pl E0) r (Z1 a b pl E0).length;have b2:=w0W (s7 l b_) (Z1 a b pl E0) r;have ht:=a07 l;have b4:=K9 l l.length;have b5:=K.hn;have hx:(r:Int)<((G2 l l.length).length:Int):=O'
 obtain⟨q,q1,q2,q3⟩:=l0e l K.hn (x:=(r:Int)) O' O';obtain⟨_,_,s3⟩:=setOf l K.hn hw hr;have hH:hasB (gt l (gt (G2 l l.length) (r:Int))).Set b_=s7 l b_ r:=rfl;have w:=l0W C E0;have v:=I0p (F:=F) (n:=n) (Ws:=Z1 a b pl E0) (all:=goG l a b pl maps E0) (by rw[s02,h]) (fun i hi=>by grind [t0v]) (fun i hi=>⟨(l0d K C E0 i hi).1,(l0d K C E0 i hi).2.1⟩) O' f1 r;unfold f01;simp only[q0,hx,q3,V0 (l:=l) (i:=gt (G2 l l.length) (r:Int)) O' O',(t0N F s3 hb).1,hH,A0A,X1 (i:=r) O',v];cases hP:s7 l b_ r with
 |false=>simp
 |true=>
  simp only[q0,Bool.true_and];have k:=z0O (F:=F) (n:=C5 pl E0) (fB:=F5 pl E0 fB) (fD:=a6 pl E0 fD) (fr:=T3 (Z1 a b pl E0) r (Z1 a b pl E0).length) (hops:=l7 (Z1 a b pl E0) r (Z1 a b pl E0).length) O' O' w I O' R
  by_cases d:T3 (Z1 a b pl E0) r (Z1 a b pl E0).length=[]
  ·have b1:h0B F (U2 (C5 pl E0) (F5 pl E0 fB) (a6 pl E0 fD)) (D1 (T3 (Z1 a b pl E0) r (Z1 a b pl E0).length)) (l7 (Z1 a b pl E0) r (Z1 a b pl E0).length)=some (-1):=by
    grind [A0s]
   grind
  ·obtain⟨k1,k2⟩:=l0V (fB:=F5 pl E0 fB) (fD:=a6 pl E0 fD) d;have t:(T3 (Z1 a b pl E0) r (Z1 a b pl E0).length).isEmpty=false:=by simpa using d
   rw[k1]at k;have k3:¬((b0T (F5 pl E0 fB) (a6 pl E0 fD) (Z1 a b pl E0) r:Nat):Int)<0:=O'
   have m:T5 a b pl fB fD E0 r<C5 pl E0:=by rw[<-h];exact e0o d
   obtain⟨v1,v2⟩:=m07 (w0K C E0) (s0j C E0) m;obtain⟨p1,p2⟩:=H0f K C (b_:=b_) (E0:=E0) d;have j:(((T3 (Z1 a b pl E0) r (Z1 a b pl E0).length).getD (b0T (F5 pl E0 fB) (a6 pl E0 fD) (Z1 a b pl E0) r) 0:Nat):Int)=(T5 a b pl fB fD E0 r:Int):=rfl;have g:y0 (goG l a b pl maps E0) (T5 a b pl fB fD E0 r:Int)=true:=V0 O' (by rw[s02];omega);have c:(gt (goG l a b pl maps E0) (T5 a b pl fB fD E0 r:Int)).tags=gt (a0F l maps E0) (T5 a b pl fB fD E0 r:Int):=by rw[t0v C m]
   have p:gt (l7 (Z1 a b pl E0) r (Z1 a b pl E0).length) ((b0T (F5 pl E0 fB) (a6 pl E0 fD) (Z1 a b pl E0) r:Nat):Int)=V5 a b pl fB fD E0 r:=H0C d;have o:y0 (l7 (Z1 a b pl E0) r (Z1 a b pl E0).length) ((b0T (F5 pl E0 fB) (a6 pl E0 fD) (Z1 a b pl E0) r:Nat):Int)=true:=V0 O' O';have s:K0 8 (D1 (H6 (s7 l b_) (Z1 a b pl E0) r)) [(r:Int)]=true:=by simp[K0];omega
   have y:K0 24 ((H6 (s7 l b_) (Z1 a b pl E0) r).map (stM l a b pl maps fB fD E0)) [stM l a b pl maps fB fD E0 r]=true:=by simp[K0];omega
   have a1:K0 8 (D1 ((H6 (s7 l b_) (Z1 a b pl E0) r).map (T5 a b pl fB fD E0))) [(T5 a b pl fB fD E0 r:Int)]=true:=by simp[K0];omega
   have J:K0 40 ((H6 (s7 l b_) (Z1 a b pl E0) r).map (V5 a b pl fB fD E0)) [V5 a b pl fB fD E0 r]=true:=by simp[K0];omega
   have b3:=j0K l (V5 a b pl fB fD E0 r).Steps;have u:=p07 K.hR p1 K.f1 (N2.sok p2);have f:=o0k (F:=F) (marks:=a7 l (V5 a b pl fB fD E0 r).Steps) (now:=-1) (none_:=-2) (show(gt (a0F l maps E0) (T5 a b pl fB fD E0 r:Int)).length<=1000 from O') O';have U:Z9 (-1) (-2) (gt (a0F l maps E0) (T5 a b pl fB fD E0 r:Int)) (a7 l (V5 a b pl fB fD E0 r).Steps)=stM l a b pl maps fB fD E0 r:=rfl;rw[U]at f;simp only[q0,k,k3,s,q9 k2,a0T k2,j,g,c,o,p,u,f,y,a1,J,t,g0m,map_append,map_cons,map_nil]
def H0h (K:U3 l n a b e z F)(C:R3 l n pl maps fB fD)(hw:∀x∈l,P2 x){b_:Int}(d:L5 .u8 b_)(E0:Bool)(fl:Int)(rk:D2):
  iter (f01 F l b_ (U2 (C5 pl E0) (F5 pl E0 fB) (a6 pl E0 fD)) (G2 l l.length)) F (goG l a b pl maps E0,[],[],0,(fl,[],[],rk)) =
   some (D1 ((Z3 l n a b pl b_ E0).map (T5 a b pl fB fD E0)),(Z3 l n a b pl b_ E0).map (V5 a b pl fB fD E0),(fl,D1 (Z3 l n a b pl b_ E0),(Z3 l n a b pl b_ E0).map (stM l a b pl maps fB fD E0),rk)):=by
 have f1:=K.f1;have hn:=K.T.n64;have f:=K9 l l.length;have g:=K.hn;have:=H3 (step:=f01 F l b_ (U2 (C5 pl E0) (F5 pl E0 fB) (a6 pl E0 fD)) (G2 l l.length))
  (fun r=>(goG l a b pl maps E0,D1 ((H6 (s7 l b_) (Z1 a b pl E0) r).map (T5 a b pl fB fD E0)),(H6 (s7 l b_) (Z1 a b pl E0) r).map (V5 a b pl fB fD E0),(r:Int),(fl,D1 (H6 (s7 l b_) (Z1 a b pl E0) r),(H6 (s7 l b_) (Z1 a b pl E0) r).map (stM l a b pl maps fB fD E0),rk)))
  (D1 ((Z3 l n a b pl b_ E0).map (T5 a b pl fB fD E0)),(Z3 l n a b pl b_ E0).map (V5 a b pl fB fD E0),(fl,D1 (Z3 l n a b pl b_ E0),(Z3 l n a b pl b_ E0).map (stM l a b pl maps fB fD E0),rk)) n
  (fun r c=>.inl (E07 K C hw d E0 c)) ?_ n 0 F O' O'
 ·exact this
 ·unfold f01;have h1:¬((n:Int)<((G2 l l.length).length:Int)):=O'
  simp only[q0,h1];rfl
end
def j0e (fB fD:Nat->Nat->Int)(c x:Nat):Bool:=x==c||(decide (fB x c>0)||decide (fD c x<0))
def a0d (fB fD:Nat->Nat->Int)(c k:Nat):List Nat:=(List.range k).filter (j0e fB fD c)
def F0A (fB fD:Nat->Nat->Int)(c k:Nat):a0d fB fD c (k+1)=if j0e fB fD c k=true then a0d fB fD c k++[k]else a0d fB fD c k:=by
 unfold a0d;rw[range_succ,List.filter_append]
 by_cases h:j0e fB fD c k=true
 ·rw[if_pos h];simp only[List.filter_cons,h,if_true,List.filter_nil]
 ·rw[if_neg h];simp only[List.filter_cons,h,if_false,List.filter_nil,append_nil,false_eq_true]
def r0i (fB fD:Nat->Nat->Int)(c k:Nat):(a0d fB fD c k).length<=k:=Nat.le_trans (List.length_filter_le _ _) X'
def n01 {fB fD:Nat->Nat->Int}{c k i:Nat}(h:i∈a0d fB fD c k):i<k:=List.mem_range.1 (List.mem_filter.1 h).1
def t0y (fB fD:Nat->Nat->Int)(c k:Nat):(a0d fB fD c k).Pairwise fun a b=>a<b:=List.Pairwise.filter _ List.pairwise_lt_range
section
variable {F:Nat}
def r0O {x:List Int}{of:List Nat}(h:∀i∈of,i<x.length)(hl:of.length<=1000)(d:2000<F):f00 F x (D1 of)=some (of.map fun i:Nat=>gt x (i:Int)):=by
 unfold f00;rw[I8];have:=H3 (step:=k0C F x (D1 of)) (fun i=>((of.take i).map fun i:Nat=>gt x (i:Int),(i:Int))) (of.map fun i:Nat=>gt x (i:Int)) of.length (fun i hi=>.inl ?_) ?_ of.length 0 F O' O'
 ·exact this
 ·unfold k0C;have h1:(i:Int)<((D1 of).length:Int):=by simp;omega
  have f:=h of[i] (getElem_mem hi);have c:K0 8 ((of.take i).map fun i:Nat=>gt x (i:Int)) [gt x ((of[i]:Nat):Int)]=true:=by simp[K0];omega
  simp only[h1,decide_true,if_true,q9 hi,h0N hi,V0 (l:=x) (i:=((of[i]:Nat):Int)) O' O',c,m0z hi,map_append,map_cons,map_nil,X1 (i:=i) O']
 ·unfold k0C;have h1:¬((of.length:Int)<((D1 of).length:Int)):=X'
  simp only[q0,h1,take_length]
def x0t {x:List (List Int)}{of:List Nat}(h:∀i∈of,i<x.length)(hl:of.length<=1000)(d:2000<F):l0o F x (D1 of)=some (of.map fun i:Nat=>gt x (i:Int)):=by
 unfold l0o;rw[I8];have:=H3 (step:=k0t F x (D1 of)) (fun i=>((of.take i).map fun i:Nat=>gt x (i:Int),(i:Int))) (of.map fun i:Nat=>gt x (i:Int)) of.length (fun i hi=>.inl ?_) ?_ of.length 0 F O' O'
 ·exact this
 ·unfold k0t;have h1:(i:Int)<((D1 of).length:Int):=by simp;omega
  have f:=h of[i] (getElem_mem hi);have c:K0 24 ((of.take i).map fun i:Nat=>gt x (i:Int)) [gt x ((of[i]:Nat):Int)]=true:=by simp[K0];omega
  simp only[h1,decide_true,if_true,q9 hi,h0N hi,V0 (l:=x) (i:=((of[i]:Nat):Int)) O' O',c,m0z hi,map_append,map_cons,map_nil,X1 (i:=i) O']
 ·unfold k0t;have h1:¬((of.length:Int)<((D1 of).length:Int)):=X'
  simp only[q0,h1,take_length]
def F0I {x:List (List Int)}{of:List Nat}(h:∀i∈of,i<x.length)(hl:of.length<=1000)(ha:of.Pairwise fun a b=>a<b):f06 F x (D1 of)=some (of.map fun i:Nat=>gt x (i:Int)):=by
 unfold f06;have h1:d0y (fun i=>i) (D1 of)=true:=by
  rw[h04];unfold D1;rw[List.pairwise_map];exact ha.imp fun c=>O'
 have f:(D1 of).all (fun i=>y0 x i)=true:=by
  rw[List.all_eq_true];intro i hi;obtain⟨k,hk,rfl⟩:=mem_map.1 hi;exact V0 O' (by have:=h k hk;omega)
 have g:((D1 of).map fun i=>gt x i)=of.map fun i:Nat=>gt x (i:Int):=by simp[D1]
 have d:K0 24 ([]:List (List Int)) (of.map fun i:Nat=>gt x (i:Int))=true:=by simp[K0];omega
 simp only[h1,f,g,d,Bool.and_self,if_true]
def C0I {m:Nat}{st:List Nat}(h:∀i∈st,i<m)(hl:st.length<=1000)(d:2000<F)(g:Nat->Int):f00 F (V2 m g) (D1 st)=some (V2 st.length fun k=>g (st.getD k 0)):=by
 rw[r0O (by simpa using h) hl d];congr 1;refine List.ext_getElem X' fun j h1 f=>?_;simp only[length_map]at h1;have c:=h st[j] (getElem_mem h1);simp only[List.getElem_map,b0y g c];simp[V2,List.getD,h1]
def F0U {m:Nat}{st:List Nat}(h:∀i∈st,i<m)(hl:st.length<=1000)(g:2000<F)(f:Nat->Nat->Int):i0r F (U1 m m f) (D1 st)=some (U1 st.length st.length (fun i k=>f (st.getD i 0) (st.getD k 0))):=by
 unfold i0r;rw[x0t (by simpa using h) hl g];simp only[G0,I8];have hg:∀i,i<st.length->gt (st.map fun i:Nat=>gt (U1 m m f) (i:Int)) (i:Int)=V2 m (f (st.getD i 0)):=fun i hi=>by
  have j:=h st[i] (getElem_mem hi);rw[X2 (x:=gt (U1 m m f) ((st[i]:Nat):Int)) (by simp[hi]),R8 f j];simp[List.getD,hi]
 have:=H3 (step:=l0z F (D1 st) (st.map fun i:Nat=>gt (U1 m m f) (i:Int))) (fun i=>((List.range i).map (fun i=>V2 st.length fun k=>f (st.getD i 0) (st.getD k 0)),(i:Int))) (U1 st.length st.length (fun i k=>f (st.getD i 0) (st.getD k 0))) st.length (fun i hi=>.inl ?_) ?_ st.length 0 F O' O'
 ·exact this
 ·unfold l0z;have h1:(i:Int)<((st.map fun i:Nat=>gt (U1 m m f) (i:Int)).length:Int):=by simp;omega
  have c:y0 (st.map fun i:Nat=>gt (U1 m m f) (i:Int)) (i:Int)=true:=V0 O' h1;have d:K0 24 ((List.range i).map (fun i=>V2 st.length fun k=>f (st.getD i 0) (st.getD k 0))) [V2 st.length fun k=>f (st.getD i 0) (st.getD k 0)]=true:=by simp[K0];omega
  simp only[q0,h1,c,hg i hi,C0I h hl g,d,range_succ,map_append,map_cons,map_nil,X1 (i:=i) O']
 ·unfold l0z;have h1:¬((st.length:Int)<((st.map fun i:Nat=>gt (U1 m m f) (i:Int)).length:Int)):=X'
  simp only[q0,h1];rfl
end
section
variable {F:Nat}{l:List C0}{n:Nat}{a:List B0}{b:Nat->List B0}{e:Nat->B0×Bool}{z:B0×Bool}{pl:List Nat}{maps:List (List Int)}{fB fD:Nat->Nat->Int}{flag:Int}
def s0W (K:U3 l n a b e z F)(C:R3 l n pl maps fB fD):f0G F l (z8 flag pl maps fB fD)=some (D8 fD (E7 e pl pl.length)):=by
 have f1:=K.f1;have hm:=C.le;have hn:=K.T.n64;unfold f0G;have:=H3 (step:=g06 F l (z8 flag pl maps fB fD)) (fun i=>(D1 (E7 e pl i),(i:Int))) (D1 (E7 e pl pl.length)) pl.length (fun i hi=>.inl ?_) ?_ pl.length 0 F O' O'
 ·have c:iter (g06 F l (z8 flag pl maps fB fD)) F ([],0)=_:=this;rw[c];simp only[G0,z8];rw[z0o O' O' C.rk _ (by have:=w0M e pl pl.length;omega) (fun i h=>j0P h)];rfl
 ·unfold g06;have h1:(i:Int)<((D1 pl).length:Int):=by simp;omega
  have hp:=P8 C.pln hi;have d:K0 8 (D1 (E7 e pl i)) [(i:Int)]=true:=by have:=w0M e pl i;simp[K0];omega
  simp only[q0,z8,h1,q9 hi,a0T hi,K.TF.mE _ hp,d,X1 (i:=i) O',F0K]
  by_cases c:(e (pl.getD i 0)).2=true
  ·simp only[c,if_true,G0,g0m]
  ·have c:(e (pl.getD i 0)).2=false:=by simpa using c
   simp only[q0,c]
 ·unfold g06;have h1:¬((pl.length:Int)<((D1 pl).length:Int)):=X'
  simp only[q0,z8,h1]
structure Kd where
 flag:Int
 pl:List Nat
 maps:List (List Int)
 fB:Nat->Nat->Int
 fD:Nat->Nat->Int
def Kd.K (k:Kd):F1:=z8 k.flag k.pl k.maps k.fB k.fD
def Kd.T (k:Kd):Int×List Int×List (List Int)×D2:=(k.flag,D1 k.pl,k.maps,U2 k.pl.length k.fB k.fD)
def Kd.of (k:Kd)(fl:Int)(st:List Nat):Kd:=⟨fl,st.map fun i=>k.pl.getD i 0,st.map fun i:Nat=>gt k.maps (i:Int),fun i j=>k.fB (st.getD i 0) (st.getD j 0),fun i j=>k.fD (st.getD i 0) (st.getD j 0)⟩
def Kd.cut (e:Nat->B0×Bool)(k:Kd):Kd:=
 if D8 k.fD (E7 e k.pl k.pl.length)<0 then k else k.of 0 (a0d k.fB k.fD (D8 k.fD (E7 e k.pl k.pl.length)).toNat k.pl.length)
def F0Q (K:U3 l n a b e z F){k:Kd}(C:R3 l n k.pl k.maps k.fB k.fD):j0p F l k.T=some (k.cut e).T:=by
 have f1:=K.f1;have hm:=C.le;have hn:=K.T.n64;unfold j0p Kd.T;have m:=s0W (flag:=k.flag) K C;unfold z8 at m;simp only[m,G0];unfold Kd.cut;rcases j07 (fD:=k.fD) (E7 e k.pl k.pl.length) (n:=k.pl.length) (fun i h=>j0P h)with hb|⟨q,hb,hq⟩
 ·rw[hb];rfl
 ·have p:¬((q:Int)<0):=O'
  rw[hb];simp only[q0,p,Int.toNat_natCast];have c:∀i∈a0d k.fB k.fD q k.pl.length,i<k.pl.length:=fun i h=>n01 h;have d:(a0d k.fB k.fD q k.pl.length).length<=1000:=by have:=r0i k.fB k.fD q k.pl.length;omega
  have g:=t0y k.fB k.fD q k.pl.length;have f:iter (h0H F (D1 k.pl) (U2 k.pl.length k.fB k.fD) (q:Int)) F ([],0)=some (D1 (a0d k.fB k.fD q k.pl.length)):=by
   have:=H3 (step:=h0H F (D1 k.pl) (U2 k.pl.length k.fB k.fD) (q:Int)) (fun i=>(D1 (a0d k.fB k.fD q i),(i:Int))) (D1 (a0d k.fB k.fD q k.pl.length)) k.pl.length (fun i hi=>.inl ?_) ?_ k.pl.length 0 F O' O'
   ·exact this
   ·unfold h0H;have h1:(i:Int)<((D1 k.pl).length:Int):=by simp;omega
    have o:K0 8 (D1 (a0d k.fB k.fD q i)) [(i:Int)]=true:=by have:=r0i k.fB k.fD q i;simp[K0];omega
    have heq:((i:Int)==(q:Int))=(i==q):=by rw[Bool.eq_iff_iff];simp only[beq_iff_eq];omega
    simp only[h1,decide_true,if_true,U2,H9 _ hi,H9 _ hq,R8 _ hi,R8 _ hq,a0k _ hi,a0k _ hq,b0y _ hi,b0y _ hq,heq,o,F0A,X1 (i:=i) O'];unfold j0e;cases c1:i==q
    ·cases c2:decide (k.fB i q>0)
     ·cases c3:decide (k.fD q i<0)
      ·simp only[q0,Bool.or_self]
      ·simp only[q0,Bool.or_true,g0m]
     ·simp only[q0,Bool.true_or,Bool.or_true,g0m]
    ·simp only[if_true,G0,Bool.true_or,g0m]
   ·unfold h0H;have h1:¬((k.pl.length:Int)<((D1 k.pl).length:Int)):=X'
    simp only[q0,h1]
  rw[f];generalize a0d k.fB k.fD q k.pl.length=st at *;simp only[G0,r0O (x:=D1 k.pl) (of:=st) (F:=F) (by simpa using c) d O',F0I (F:=F) (x:=k.maps) (of:=st) (by rw[C.len];exact c) d g,U2,F0U c d (show 2000<F from O')];unfold Kd.of;have he:(st.map fun i:Nat=>gt (D1 k.pl) (i:Int))=D1 (st.map fun i=>k.pl.getD i 0):=by
   refine List.ext_getElem X' fun j h1 r=>?_;simp only[length_map]at h1;have:=a0T (c st[j] (getElem_mem h1));simp only[D1,List.getElem_map]at this ⊢;exact this
  simp only[length_map,he]
theorem d0N {k:Kd}(C:R3 l n k.pl k.maps k.fB k.fD):R3 l n (k.cut e).pl (k.cut e).maps (k.cut e).fB (k.cut e).fD:=by
 unfold Kd.cut;split
 ·exact C
 ·exact x0y C (t0y _ _ _ _) (fun i h=>n01 h)
end
def v8:Nat->List Int->List (Int×Int)
 |_,[]=>[]
 |k,v :: r=>(v,(k:Int)) :: v8 (k+1) r
def u0v (v:Int):∀(s:List Int) (k:Nat),v8 k (s++[v])=v8 k s++[(v,((k+s.length:Nat):Int))]
 |[],k=>rfl
 |x :: r,k=>by
  simp only[List.cons_append,v8,u0v v r (k+1),length_cons]
  grind
def p0Q (v:Int):∀(s:List Int) (k:Nat),J7 (v8 k s) v=decide (v∈s)
 |[],k=>by rfl
 |x :: r,k=>by
  simp only[v8,J7,p0Q v r (k+1),mem_cons]
  grind
theorem s0m (v:Int):∀(s:List Int) (k:Nat),v∈s->U7 (v8 k s) v=((k+s.idxOf v:Nat):Int)
 |x :: r,k,h=>by
  simp only[v8,U7,List.idxOf_cons]
  by_cases e:x=v
  ·simp_all
  ·have c:v∈r:=by
    grind
   have eb:(x==v)=false:=by simp_all
   simp only[eb,false_eq_true,if_false,s0m v r (k+1) c,cond_false];omega
def u0j (v n:Int):∀m:List (Int×Int),J7 m v=false->b0f m v n=m++[(v,n)]
 |[],_=>rfl
 |(a,b) :: r,h=>by
  simp_all[J7,Bool.or_eq_false_iff,b0f,false_eq_true,if_false,u0j,List.cons_append]
def M6 (s:List Int)(v:Int):List Int:=if v=-2\/v∈s then s else s++[v]
def Z2 (s r:List Int):List Int:=r.foldl M6 s
def O3 (s:List Int)(v:Int):Int:=if v=-2 then -2 else(s.idxOf v:Int)
theorem v04 (s:List Int)(v:Int):s <+: M6 s v:=by
 unfold M6;grind
theorem k0W:∀(r s:List Int),s <+: Z2 s r
 |[],s=>List.prefix_refl _
 |v :: r,s=>(v04 s v).trans (k0W r (M6 s v))
theorem h0F (s r t:List Int):Z2 s (r++t)=Z2 (Z2 s r) t:=by simp[Z2]
theorem l0c:∀(r s:List Int),(Z2 s r).length<=s.length+r.length
 |[],s=>by simp[Z2]
 |v :: r,s=>by
  have h1:=l0c r (M6 s v)
  grind [Z2,M6]
def L06:∀(r s:List Int),s.Nodup->(Z2 s r).Nodup
 |[],s,h=>h
 |v :: r,s,h=>L06 r (M6 s v) (by
  grind [M6])
def t0z {x:Int}:∀(r s:List Int),x∈Z2 s r->x∈s\/(x∈r/\x≠-2)
 |[],s,h=>.inl h
 |v :: r,s,h=>by
  rcases t0z r (M6 s v) h with h1|⟨h1,h2⟩
  ·grind [M6]
  simp_all
theorem v0F {s t:List Int}{v:Int}(h:s <+: t)(c:v∈s):t.idxOf v=s.idxOf v:=by
 obtain⟨u,rfl⟩:=h
 grind
theorem y0U {s:List Int}{v:Int}(c:v∉s):(s++[v]).idxOf v=s.length:=by
 grind
def m0b {s t:List Int}{v:Int}(h:M6 s v <+: t):(v=-2/\O3 t v=-2/\M6 s v=s)\/(v≠-2/\v∈s/\M6 s v=s/\O3 t v=(s.idxOf v:Int)/\s.idxOf v<s.length)\/(v≠-2/\v∉s/\M6 s v=s++[v]/\O3 t v=(s.length:Int)):=by
 by_cases c:v=-2
 ·simp_all[O3,M6]
 ·by_cases hm:v∈s
  ·have e:M6 s v=s:=by simp_all[M6]
   rw[e]at h;exact .inr (.inl ⟨c,hm,e,by unfold O3;rw[if_neg c,v0F h hm],List.idxOf_lt_length_of_mem hm⟩)
  ·have e:M6 s v=s++[v]:=by simp_all[M6]
   rw[e]at h;exact .inr (.inr ⟨c,hm,e,by unfold O3;rw[if_neg c,v0F h X',y0U hm]⟩)
section
variable {F:Nat}
theorem E0H {row:List Int}{f:Int->Int}{j:Nat}(c:j<row.length):((row.take j).map f++row.drop j).set j (f (gt row (j:Int)))=(row.take (j+1)).map f++row.drop (j+1):=by
 grind [P4,take_succ,List.drop_eq_getElem_cons]
def i0Q {row s:List Int}{j:Nat}(c:j<row.length):Z2 s (row.take (j+1))=M6 (Z2 s (row.take j)) (gt row (j:Int)):=by
 have hg:row[j]?=some (gt row (j:Int)):=P4 c;rw[take_succ,hg,h0F];rfl
theorem C0N {src t:List Int}{y:List (List Int)}{x:Nat}(R:x<y.length){row:List Int}(I:gt y (x:Int)=row)(J:Z2 src row <+: t)(hlen:t.length<=1000000)(U:row.length<=1000)(hf:2000<F):
  iter (h05 F (x:Int) y) F (src,0,y,v8 0 src)=some (Z2 src row,y.set x (row.map (O3 t)),v8 0 (Z2 src row)):=by
 have:=H3 (step:=h05 F (x:Int) y) (fun j=>(Z2 src (row.take j),(j:Int),y.set x ((row.take j).map (O3 t)++row.drop j),v8 0 (Z2 src (row.take j)))) (Z2 src row,y.set x (row.map (O3 t)),v8 0 (Z2 src row)) row.length (fun j C=>.inl ?_) ?_ row.length 0 F O' O'
 ·have e0:y.set x ((row.take 0).map (O3 t)++row.drop 0)=y:=by
   refine List.ext_getElem? fun i=>?_
   grind [P4]
  rw[<-this];simp only[e0];rfl
 ·have w:(j:Int)<((gt y (x:Int)).length:Int):=by simp_all
  have o:gt (y.set x ((row.take j).map (O3 t)++row.drop j)) (x:Int)=(row.take j).map (O3 t)++row.drop j:=X2 (List.getElem?_set_self R);have a1:((row.take j).map (O3 t)++row.drop j).length=row.length:=by grind
  have u:y0 ((row.take j).map (O3 t)++row.drop j) (j:Int)=true:=V0 O' O';have g:gt ((row.take j).map (O3 t)++row.drop j) (j:Int)=gt row (j:Int):=by
   refine X2 ?_
   grind [P4]
  have r:=i0Q (s:=src) C;have hp:M6 (Z2 src (row.take j)) (gt row (j:Int)) <+: t:=by
   grind [h0F,List.take_append_drop,k0W]
  have c:=E0H (f:=O3 t) C;unfold h05;simp only[w,decide_true,if_true,o,u,g,r,X1 (i:=j) O'];have h:=hp.length_le;generalize Z2 src (row.take j)=s at *;generalize gt row (j:Int)=v at *;rcases m0b hp with⟨h1,d,m⟩|⟨h1,d,m,h4,h5⟩|⟨h1,d,m,h4⟩
  ·have k:(v==-2)=true:=by simpa using h1
   rw[m];simp only[k,if_true,G0];rw[d]at c;have:((row.take j).map (O3 t)++row.drop j).set j (-2)=(row.take j).map (O3 t)++row.drop j:=by
    refine List.ext_getElem? fun i=>?_
    by_cases e:j=i
    ·subst e;rw[List.getElem?_set_self O',P4 O',g,h1]
    ·rw[List.getElem?_set_ne e]
   rw[this]at c;rw[c]
  ·have k:(v==-2)=false:=by simpa using h1
   have hm:J7 (v8 0 s) v=true:=by rw[p0Q];simpa using d
   have hg:=s0m v s 0 d;rw[Nat.zero_add]at hg;rw[m];simp only[q0,k,hm,hg,Int.toNat_natCast,set_set];rw[h4]at c;rw[c]
  ·have k:(v==-2)=false:=by simpa using h1
   have hm:J7 (v8 0 s) v=false:=by rw[p0Q];simpa using d
   rw[m]at h ⊢;simp only[length_append,length_cons,length_nil]at h;have q:K0 8 s [v]=true:=by simp[K0];omega
   have p:b0f (v8 0 s) v (s.length:Int)=v8 0 (s++[v]):=by rw[u0j _ _ _ hm,u0v,Nat.zero_add]
   simp only[q0,k,hm,q,p,Int.toNat_natCast,set_set];rw[h4]at c;rw[c]
 simp_all[h05]
def j0f:∀(maps:List (List Int)) (m:Nat),(∀r∈maps,r.length<=m)->maps.flatten.length<=maps.length*m
 |[],m,_=>X'
 |r :: t,m,h=>by
  have h1:=j0f t m (fun x c=>h x (List.mem_cons_of_mem _ c))
  grind [Nat.succ_mul]
def M4 (maps:List (List Int)):List Int:=Z2 [] maps.flatten
def X5 (maps:List (List Int)):List (List Int):=maps.map fun r=>r.map (O3 (M4 maps))
theorem h0A {maps:List (List Int)}{i:Nat}(hi:i<maps.length):Z2 (Z2 [] (maps.take i).flatten) (gt maps (i:Int))=Z2 [] (maps.take (i+1)).flatten:=by
 grind [h0F,take_succ,P4]
theorem w0R (maps:List (List Int))(i:Nat):Z2 [] (maps.take i).flatten <+: M4 maps:=by
 grind [M4,h0F,List.take_append_drop,k0W]
theorem B0a {fl:Int}{N7:List Int}{maps:List (List Int)}{rk:D2}(k:∀r∈maps,r.length<=1000)(hm:maps.length<=1000)(o:2000<F):
  g0N F (fl,N7,maps,rk)=some (⟨fl,N7,X5 maps,rk⟩,M4 maps):=by
 have m:=j0f maps 1000 k;have c:(M4 maps).length<=1000000:=by
  grind [l0c,M4]
 unfold g0N;have:=H3 (step:=i0a F maps) (fun i=>(Z2 [] (maps.take i).flatten,(i:Int),(maps.take i).map (fun r=>r.map (O3 (M4 maps)))++maps.drop i,v8 0 (Z2 [] (maps.take i).flatten))) (M4 maps,X5 maps) maps.length (fun i hi=>.inl ?_) ?_ maps.length 0 F O' O'
 ·have u:iter (i0a F maps) F ([],0,maps,[])=some (M4 maps,X5 maps):=this
  simp_all
 ·have h1:(i:Int)<(maps.length:Int):=O'
  have p:((maps.take i).map (fun r=>r.map (O3 (M4 maps)))++maps.drop i).length=maps.length:=by grind
  have j:y0 ((maps.take i).map (fun r=>r.map (O3 (M4 maps)))++maps.drop i) (i:Int)=true:=V0 O' O';have g:gt ((maps.take i).map (fun r=>r.map (O3 (M4 maps)))++maps.drop i) (i:Int)=gt maps (i:Int):=by
   refine X2 ?_
   grind [P4]
  have h:=k _ (List.mem_of_getElem? (P4 hi));have d:=C0N (F:=F) (src:=Z2 [] (maps.take i).flatten) (t:=M4 maps) (y:=(maps.take i).map (fun r=>r.map (O3 (M4 maps)))++maps.drop i) (x:=i) O' g (by simp_all[h0A,w0R]) c h o;have f:((maps.take i).map (fun r=>r.map (O3 (M4 maps)))++maps.drop i).set i ((gt maps (i:Int)).map (O3 (M4 maps)))=(maps.take (i+1)).map (fun r=>r.map (O3 (M4 maps)))++maps.drop (i+1):=by
   have q:maps.take (i+1)=maps.take i++[gt maps (i:Int)]:=by grind [take_succ,P4]
   have s:i-((maps.take i).map (fun r=>r.map (O3 (M4 maps)))).length=0:=by grind
   grind [List.drop_eq_getElem_cons]
  unfold i0a;simp only[q0,h1,j,d,h0A hi,f,X1 (i:=i) O']
 ·have h1:¬(maps.length:Int)<(maps.length:Int):=O'
  unfold i0a;simp only[q0,h1,take_length,List.drop_length,append_nil];rfl
theorem D0L {src t:List Int}{y:List (List Int)}{x:Nat}{row:List Int}(h:gt y (x:Int)=row.map (O3 t))(C:Z2 src row <+: t)(hlen:t.length<=1000000)(I:row.length<=1000)(U:2000<F):
  iter (h0x F y (x:Int)) F ((src.length:Int),0)=some (.inr ((Z2 src row).length:Int))/\∀k:F1,iter (g0Q F ⟨k.Flag,k.Places,y,k.Rank⟩ (x:Int)) F ((src.length:Int),0)=some ((Z2 src row).length:Int):=by
 have hp:∀j,j<row.length->M6 (Z2 src (row.take j)) (gt row (j:Int)) <+: t:=fun j m=>by
  rw[<-i0Q m]
  grind [h0F,List.take_append_drop,k0W]
 have J:(row.map (O3 t)).length=row.length:=X'
 have r:∀j,j<row.length->gt (row.map (O3 t)) (j:Int)=O3 t (gt row (j:Int)):=fun j m=>X2 (by grind [P4]);refine⟨?_,fun k=>?_⟩
 ·have:=H3 (step:=h0x F y (x:Int)) (fun j=>(((Z2 src (row.take j)).length:Int),(j:Int))) (.inr ((Z2 src row).length:Int)) row.length (fun j m=>.inl ?_) ?_ row.length 0 F O' O'
  ·exact this
  ·have c:(j:Int)<((row.map (O3 t)).length:Int):=O'
   have p:y0 (row.map (O3 t)) (j:Int)=true:=V0 O' c;have g:=hp j m;have d:=g.length_le;unfold h0x;simp only[h,c,decide_true,if_true,p,r j m,i0Q (s:=src) m,X1 (i:=j) O'];generalize Z2 src (row.take j)=s at *;generalize gt row (j:Int)=v at *;rcases m0b g with⟨h1,q,f⟩|⟨h1,q,f,h4,h5⟩|⟨h1,q,f,h4⟩
   ·simp_all
   ·have o:(((s.idxOf v:Nat):Int)==-2)=false:=by rfl
    have w:¬((s.idxOf v:Nat):Int)<0:=O'
    have u:¬((s.idxOf v:Nat):Int)>(s.length:Int):=O'
    have R:(((s.idxOf v:Nat):Int)==(s.length:Int))=false:=by grind
    grind
   ·have o:(((s.length:Nat):Int)==-2)=false:=by rw[beq_eq_false_iff_ne];omega
    have w:¬((s.length:Nat):Int)<0:=O'
    have u:¬((s.length:Nat):Int)>(s.length:Int):=O'
    rw[f]at d;simp only[length_append,length_cons,length_nil]at d;rw[h4,f];simp only[q0,o,w,u,beq_self_eq_true,X1 (i:=s.length) O',length_append,length_cons,length_nil]
  simp_all[h0x]
 ·have:=H3 (step:=g0Q F ⟨k.Flag,k.Places,y,k.Rank⟩ (x:Int)) (fun j=>(((Z2 src (row.take j)).length:Int),(j:Int))) ((Z2 src row).length:Int) row.length (fun j m=>.inl ?_) ?_ row.length 0 F O' O'
  ·exact this
  ·have c:(j:Int)<((row.map (O3 t)).length:Int):=O'
   have p:y0 (row.map (O3 t)) (j:Int)=true:=V0 O' c;have g:=hp j m;have d:=g.length_le;unfold g0Q;simp only[h,c,decide_true,if_true,p,r j m,i0Q (s:=src) m,X1 (i:=j) O'];generalize Z2 src (row.take j)=s at *;generalize gt row (j:Int)=v at *;rcases m0b g with⟨h1,q,f⟩|⟨h1,q,f,h4,h5⟩|⟨h1,q,f,h4⟩
   ·have o:¬(W (-2+1)>(s.length:Int)):=by rw[E3 O' O'];omega
    rw[q,f,if_neg o]
   ·rw[f]at d;have o:¬(W (((s.idxOf v:Nat):Int)+1)>(s.length:Int)):=by rw[E3 O' O'];omega
    rw[h4,f,if_neg o]
   ·rw[f]at d;simp only[length_append,length_cons,length_nil]at d;have o:(W (((s.length:Nat):Int)+1)>(s.length:Int)):=by rw[E3 O' O'];omega
    rw[h4,f,if_pos o,X1 (i:=s.length) O'];simp
  ·have c:¬(row.length:Int)<((row.map (O3 t)).length:Int):=O'
   unfold g0Q;simp only[q0,h,c,take_length]
theorem A07 {maps:List (List Int)}{tags:Nat}(o:∀r∈maps,r.length=tags)(v:tags<=1000)(hm:maps.length<=1000)(s:2000<F)(k:F1):
  g07 F (X5 maps) (tags:Int)=some true/\c0k F ⟨k.Flag,k.Places,X5 maps,k.Rank⟩=some ((M4 maps).length:Int):=by
 have p:=j0f maps 1000 (fun r h=>by simp_all);have f:(M4 maps).length<=1000000:=by
  grind [l0c,M4]
 have q:(X5 maps).length=maps.length:=by simp[X5]
 have g:∀i,i<maps.length->gt (X5 maps) (i:Int)=(gt maps (i:Int)).map (O3 (M4 maps)):=fun i hi=>X2 (by grind [X5,P4]);have c:∀i,i<maps.length->_:=fun i hi=>D0L (F:=F) (src:=Z2 [] (maps.take i).flatten) (t:=M4 maps) (y:=X5 maps) (x:=i) (g i hi) (by simp_all[h0A,w0R]) f (by have:=o _ (List.mem_of_getElem? (P4 hi));omega) s;have m:Z2 [] (maps.take maps.length).flatten=M4 maps:=by rw[take_length];rfl
 constructor
 ·unfold g07;have:=H3 (step:=i0p F (X5 maps) (tags:Int)) (fun i=>(((Z2 [] (maps.take i).flatten).length:Int),(i:Int))) (.inr ()) maps.length (fun i hi=>.inl ?_) ?_ maps.length 0 F O' O'
  ·have u:iter (i0p F (X5 maps) (tags:Int)) F (0,0)=some (.inr ()):=this
   simp_all
  ·have h1:(i:Int)<((X5 maps).length:Int):=O'
   have d:y0 (X5 maps) (i:Int)=true:=V0 O' h1;have hl:=o _ (List.mem_of_getElem? (P4 hi));have j:(((gt (X5 maps) (i:Int)).length:Int) != (tags:Int))=false:=by simp_all
   unfold i0p;simp only[q0,h1,d,j,(c i hi).1,h0A hi,X1 (i:=i) O']
  simp[X5,i0p]
 ·unfold c0k;have:=H3 (step:=h0f F ⟨k.Flag,k.Places,X5 maps,k.Rank⟩) (fun i=>(((Z2 [] (maps.take i).flatten).length:Int),(i:Int))) ((M4 maps).length:Int) maps.length (fun i hi=>.inl ?_) ?_ maps.length 0 F O' O'
  ·have u:iter (h0f F ⟨k.Flag,k.Places,X5 maps,k.Rank⟩) F (0,0)=some ((M4 maps).length:Int):=this
   simp_all
  ·have h1:(i:Int)<((X5 maps).length:Int):=O'
   have d:y0 (X5 maps) (i:Int)=true:=V0 O' h1;unfold h0f;simp only[q0,h1,d,(c i hi).2 k,h0A hi,X1 (i:=i) O']
  simp_all[h0f]
end
def L00 {S ρ:Type}{body:S->Option (Q0 S ρ)}(n:Nat)(g:Nat->S)(res:ρ)(hs:∀i,i<n->body (g i)=some (.next (g (i+1))))(he:body (g n)=some (.done res)){fu:Nat}(h:n<fu):iter body fu (g 0)=some res:=by
 have key:∀(k i fu:Nat),i+k=n->k<fu->iter body fu (g i)=some res:=by
  intro k
  induction k with
  |zero=>
   intro i fu hi c;obtain⟨fu,rfl⟩:∃m,fu=m+1:=⟨fu-1,O'⟩
   unfold iter;rw[show i=n from O',he]
  |succ k ih=>
   intro i fu hi c;obtain⟨fu,rfl⟩:∃m,fu=m+1:=⟨fu-1,O'⟩
   unfold iter;rw[hs i O'];exact ih (i+1) fu O' O'
 exact key n 0 fu O' h
def Q0g {ρ:Type}{body:Int->Option (Q0 Int ρ)}(n:Nat)(res:ρ)(hs:∀i:Nat,i<n->body (i:Int)=some (.next ((i+1:Nat):Int)))(he:body (n:Int)=some (.done res)){fu:Nat}(h:n<fu):iter body fu 0=some res:=
 L00 n (fun i=>(i:Int)) res hs he h
def f0e (a b:Int):g0p:=if a<0\/b<0 then⟨-1,-1⟩else⟨a,b⟩
def b0u (tags:List Int)(to:Int):Nat->List g0p
 |0=>[f0e (gt tags 0) to]
 |k+1=>b0u tags to k++[f0e (gt tags ((2*k+1:Nat):Int)) (gt tags ((2*k+2:Nat):Int))]
def f02 (tags:List Int)(to:Int):List g0p:=if tags.length % 2=0 then[]else b0u tags to (tags.length / 2)
def K0v (tags:List Int)(to:Int):∀k,(b0u tags to k).length=k+1
 |0=>rfl
 |k+1=>by simp[b0u,K0v tags to k]
def L0z (n:Nat):Int.tmod (n:Int) 2=((n % 2:Nat):Int):=rfl
def P0H {tags:List Int}{to:Int}{fuel:Nat}(hl:tags.length<=1000)(v:2000<fuel):K0H fuel tags to=some (f02 tags to):=by
 unfold K0H f02;rw[L0z]
 by_cases c:tags.length % 2=0
 ·simp[c]
 have c':(((tags.length % 2:Nat):Int)==0)=false:=by rw[beq_eq_false_iff_ne];omega
 rw[if_neg c];simp only[c',false_eq_true,if_false];have q:tags.length % 2=1:=O'
 have h:=L00 (body:=J0D fuel tags to) (fu:=fuel) tags.length (fun i=>((if i=0 then[]else b0u tags to (i / 2)),(i:Int))) (b0u tags to (tags.length / 2)) (fun i hi=>by
  have o:y0 tags (i:Int)=true:=V0 O' O';have hd:(i:Int)<(tags.length:Int):=O'
  unfold J0D;simp only[q0,hd,o,X1 (show i<=1000000000 from O'),L0z,Nat.succ_ne_zero]
  by_cases r:i=0
  ·subst r;have p:¬((0:Nat):Int)>0:=O'
   by_cases g:gt tags 0<0
   ·simp[g,b0u,f0e,B4]
   ·by_cases j:to<0
    ·simp[g,j,b0u,f0e,B4]
    ·simp[g,j,b0u,f0e,B4]
  ·have p:(i:Int)>0:=O'
   simp only[q0,p,r]
   by_cases c2:i % 2=0
   ·have d:(((i % 2:Nat):Int)==0)=true:=by simp[c2]
    have m:(i+1) / 2=i / 2:=O'
    simp only[d,if_true,G0,m]
   ·have d:(((i % 2:Nat):Int)==0)=false:=by rw[beq_eq_false_iff_ne];omega
    have k:y0 tags ((i+1:Nat):Int)=true:=V0 O' O';have m:(i+1) / 2=i / 2+1:=O'
    have t:2*(i / 2)+1=i:=O'
    have u:2*(i / 2)+2=i+1:=O'
    have f:∀y,K0 16 (b0u tags to (i / 2)) [y]=true:=fun y=>B4 (by rw[K0v];simp;omega);simp only[q0,d,k,m,b0u,t,u]
    by_cases g:gt tags (i:Int)<0
    ·simp[g,f0e,f]
    ·by_cases j:gt tags ((i+1:Nat):Int)<0
     ·simp only[q0,g,j,f,f0e,or_true]
     ·simp only[q0,g,j,f,f0e,or_self]) (by
  unfold J0D;have:¬tags.length=0:=O'
  simp[this]) O'
 have s:iter (J0D fuel tags to) fuel (([]:List g0p),0)=some (b0u tags to (tags.length / 2)):=h;rw[s];rfl
def M0N {a b:Int}{fuel:Nat}:K0K fuel a b=some (f0e a b):=by
 unfold K0K f0e
 by_cases c:a<0
 ·simp[c]
 ·by_cases d:b<0
  ·simp[c,d]
  ·simp[c,d]
def P0J {tags:List Int}{to:Int}{fuel:Nat}(hl:tags.length<=1000)(j:2000<fuel):L0K fuel tags to=some (f02 tags to):=by
 unfold L0K f02;rw[L0z]
 by_cases c:tags.length % 2=0
 ·simp[c]
 have c':(((tags.length % 2:Nat):Int)==0)=false:=by rw[beq_eq_false_iff_ne];omega
 have f:y0 tags 0=true:=V0 O' O';rw[if_neg c];simp only[q0,c',f,M0N];have h:=L00 (body:=J0p fuel tags) (fu:=fuel) (tags.length / 2) (fun k=>(b0u tags to k,((2*k+1:Nat):Int))) (b0u tags to (tags.length / 2)) (fun k hk=>by
  have g:y0 tags ((2*k+1:Nat):Int)=true:=V0 O' O';have d:y0 tags ((2*k+1+1:Nat):Int)=true:=V0 O' O';have hd:((2*k+1+1:Nat):Int)<(tags.length:Int):=O'
  have e:W (((2*k+1:Nat):Int)+2)=((2*(k+1)+1:Nat):Int):=by rw[E3 O' O'];omega
  unfold J0p;simp only[q0,X1 (show 2*k+1<=1000000000 from O'),hd,g,d,M0N,e];rw[if_pos (B4 (by rw[K0v];simp;omega))];rfl) (by
  have hd:¬((2*(tags.length / 2)+1+1:Nat):Int)<(tags.length:Int):=O'
  unfold J0p;simp only[q0,X1 (show 2*(tags.length / 2)+1<=1000000000 from O'),hd]) O'
 have i:iter (J0p fuel tags) fuel ([f0e (gt tags 0) to],1)=some (b0u tags to (tags.length / 2)):=h;rw[i];rfl
def N0X (tags:List Int)(to:Int)(h:tags.length<=1000):(f02 tags to).length<=1000:=by
 unfold f02;split
 ·simp
 ·rw[K0v];omega
def M0o {a:List g0p}{fuel:Nat}(hl:a.length<=1000)(d:2000<fuel):y04 fuel a a=some true:=by
 unfold y04;have h:=Q0g (body:=K0w fuel a a) (fu:=fuel) a.length (.inr ()) (fun i hi=>by
  have c:y0 a (i:Int)=true:=V0 O' O';have hd:(i:Int)<(a.length:Int):=O'
  unfold K0w;simp[hd,c,X1 (show i<=1000000000 from O')]) (by unfold K0w;simp) O'
 simp[h]
structure Cs where
 at_:Int
 work:Int
 pl:List Nat
 vals:List (List Int)
 fB:Nat->Nat->Int
 fD:Nat->Nat->Int
def Cs.zero:Cs:=⟨0,0,[],[],fun _ _=>0,fun _ _=>0⟩
def Cs.step (l:List C0)(n:Nat)(a:List B0)(b:Nat->List B0)(s:Cs)(b_:Int)(E0:Bool):Cs:=
 ⟨s.at_+1,s.work+stW l n a b s.pl b_ E0,Z3 l n a b s.pl b_ E0,(Z3 l n a b s.pl b_ E0).map (stV l a b s.at_ s.pl s.vals s.fB s.fD E0),
  u6 l (F5 s.pl E0 s.fB) ((Z3 l n a b s.pl b_ E0).map (T5 a b s.pl s.fB s.fD E0)) ((Z3 l n a b s.pl b_ E0).map (V5 a b s.pl s.fB s.fD E0)),
  Q6 l (F5 s.pl E0 s.fB) (a6 s.pl E0 s.fD) ((Z3 l n a b s.pl b_ E0).map (T5 a b s.pl s.fB s.fD E0)) ((Z3 l n a b s.pl b_ E0).map (V5 a b s.pl s.fB s.fD E0))⟩
def Cs.L0 (s:Cs)(from_:Int):Cs:=
 let st:=A0v s.vals from_ s.pl.length
 ⟨s.at_,s.work,st.map fun i=>s.pl.getD i 0,st.map fun i:Nat=>gt s.vals (i:Int),fun i k=>s.fB (st.getD i 0) (st.getD k 0),fun i k=>s.fD (st.getD i 0) (st.getD k 0)⟩
section
variable (l:List C0)(n:Nat)(a:List B0)(b:Nat->List B0)(e:Nat->B0×Bool)(z:B0×Bool)
def Cs.P6 (s:Cs):List Int×Bool:=B0o l e s.at_ s.pl s.vals s.fD
end
structure w04 (l:List C0)(n:Nat)(s:Cs)(i:Nat):Prop where
 ok:R3 l n s.pl s.vals s.fB s.fD
 a0:s.at_=i
 w0:0<=s.work
 w1:s.work<=1000000*i
section
variable {F:Nat}{l:List C0}{n:Nat}{a:List B0}{b:Nat->List B0}{e:Nat->B0×Bool}{z:B0×Bool}
end
section
variable {F:Nat}{l:List C0}{n:Nat}{a:List B0}{b:Nat->List B0}{e:Nat->B0×Bool}{z:B0×Bool}
end
structure Hs where
 c:Cs
 tags:List Int
 to:Int
 is:Bool
section
variable (l:List C0)(n:Nat)(a:List B0)(b:Nat->List B0)(e:Nat->B0×Bool)(z:B0×Bool)
def Hs.zero:Hs:=⟨Cs.zero,(s0N l z 0).1,0,(s0N l z 0).2⟩
def Hs.j0o (h:Hs)(b_:Int):Cs:=h.c.step l n a b b_ (h.c.at_==0||!h.is)
def Hs.feed (h:Hs)(b_:Int):Hs:=
 if((h.j0o l n a b b_).P6 l e).2 then⟨(h.j0o l n a b b_).L0 (gt ((h.j0o l n a b b_).P6 l e).1 0),((h.j0o l n a b b_).P6 l e).1,(h.j0o l n a b b_).at_,true⟩
 else⟨h.j0o l n a b b_,h.tags,h.to,h.is⟩
end
def Hs.found (h:Hs):List g0p×Bool:=if h.is then(f02 h.tags h.to,true)else([],false)
def Hs.over (h:Hs):Bool:=h.is&&(h.c.pl.length==0&&decide (h.c.at_>0))
structure B0U (l:List C0)(n:Nat)(h:Hs)(i:Nat):Prop where
 c:w04 l n h.c i
 t0:0<=h.to
 len:h.tags.length<=1000
 pos:∀v∈h.c.vals,0<=gt v 0
 is:h.is=true->h.tags.length=(C4 l).toNat/\0<=gt h.tags 0/\∀v∈h.c.vals,gt v 0<=gt h.tags 0
section
variable {F:Nat}{l:List C0}{n:Nat}{a:List B0}{b:Nat->List B0}{e:Nat->B0×Bool}{z:B0×Bool}
def B0i (p:List Nat):(((p.length:Int))==0)=(p.length==0):=by rw[Bool.eq_iff_iff];simp
end
def l0H {o:List Int}{j m:Nat}{x:Int}:gt (o.set j x) (m:Int)=gt o (m:Int)\/gt (o.set j x) (m:Int)=x:=by
 unfold gt;rw[List.getD_eq_getElem?_getD,List.getD_eq_getElem?_getD];simp only[Int.toNat_natCast]
 by_cases e:j=m
 ·subst e
  by_cases h:j<o.length
  ·right;rw[List.getElem?_set_self h];rfl
  ·left;rw[List.set_eq_of_length_le O']
 ·left;rw[List.getElem?_set_ne e]
def E0m (now none_:Int)(o:List Int)(k:J2)(m:Nat):gt (T4 now none_ o k) (m:Int)=gt o (m:Int)\/gt (T4 now none_ o k) (m:Int)=now\/gt (T4 now none_ o k) (m:Int)=none_:=by
 unfold T4;split
 ·exact .inl rfl
 ·split
  ·rcases l0H (o:=o) (j:=(2*k.Group-1).toNat) (m:=m) (x:=now)with h|h
   ·exact .inl h
   ·exact .inr (.inl h)
  ·split
   ·rcases l0H (o:=o) (j:=(2*k.Group).toNat) (m:=m) (x:=now)with h|h
    ·exact .inl h
    ·exact .inr (.inl h)
   ·split
    ·rcases l0H (o:=o.set (2*k.Group-1).toNat none_) (j:=(2*k.Group).toNat) (m:=m) (x:=none_)with h|h
     ·rw[h];rcases l0H (o:=o) (j:=(2*k.Group-1).toNat) (m:=m) (x:=none_)with h|h
      ·exact .inl h
      ·exact .inr (.inr h)
     ·exact .inr (.inr h)
    ·exact .inl rfl
def q0e (now none_:Int)(m:Nat):∀(marks:List J2) (o:List Int),gt (Z9 now none_ o marks) (m:Int)=gt o (m:Int)\/gt (Z9 now none_ o marks) (m:Int)=now\/gt (Z9 now none_ o marks) (m:Int)=none_
 |[],o=>.inl rfl
 |k :: r,o=>by
  have h:=q0e now none_ m r (T4 now none_ o k);have e:Z9 now none_ o (k :: r)=Z9 now none_ (T4 now none_ o k) r:=rfl;rw[e];rcases h with h|h
  ·rw[h];exact E0m now none_ o k m
  ·exact .inr h
structure Inv (l:List C0)(may:Nat->Bool)(i:Nat)(vals:List (List Int))(fB fD:Nat->Nat->Int):Prop where
 first:∀v∈vals,∃j:Nat,j<i/\gt v 0=(j:Int)/\may j=true
 rest:∀v∈vals,∀m:Nat,1<=m->m<(C4 l).toNat->gt v (m:Int)=-1\/(gt v 0<=gt v (m:Int)/\gt v (m:Int)<(i:Int))
 ahead:∀k m:Nat,k<vals.length->m<vals.length->gt (gt vals (k:Int)) 0≠gt (gt vals (m:Int)) 0->fB k m=0/\(0<fD k m↔gt (gt vals (k:Int)) 0<gt (gt vals (m:Int)) 0)
section
variable {F:Nat}{l:List C0}{n:Nat}{a:List B0}{b:Nat->List B0}{e:Nat->B0×Bool}{z:B0×Bool}
end
abbrev q0O (vals:List (List Int))(x:Nat):Int:=gt (gt vals (x:Int)) 0
def E0Y (vals:List (List Int))(fB:Nat->Nat->Int):Prop:=∀k m:Nat,k<vals.length->m<vals.length->k≠m->q0O vals k=q0O vals m->0<fB k m
section
variable {F:Nat}{l:List C0}{n:Nat}{a:List B0}{b:Nat->List B0}{e:Nat->B0×Bool}{z:B0×Bool}
end
section
variable {vals:List (List Int)}{fD:Nat->Nat->Int}
end
def G06 (t:Old.Tm)(lo:Nat):t.steps lo≠[]:=by cases t<;>simp[Old.Tm.steps]
section
variable {F:Nat}{l:List C0}{n:Nat}{a:List B0}{b:Nat->List B0}{e:Nat->B0×Bool}{z:B0×Bool}
def E0U (K:U3 l n a b e z F)(hw:∀x∈l,P2 x):∃can,a0v F l=some can/\y0 can (W ((l.length:Int)-1))=true/\gt can (W ((l.length:Int)-1))=z.2:=by
 have f1:=K.f1;obtain⟨t,c⟩:=Old.a0N hw K.hR;have g:=c.le;have j:=c.len;have hp:=t.size_pos;have f:=Old.f05 K.hR;have d:W ((l.length:Int)-1)=(t.top 0:Int):=by rw[E3 O' O'];unfold Old.Tm.top;omega
 have i:t.top 0<l.length:=by unfold Old.Tm.top;omega
 refine⟨Old.M8 l,(Old.n0E hw (show 401<F from O')),V0 (by rw[d];omega) (by rw[d,f.len];omega),?_⟩;rw[d,f.top t 0 c.at0];have h1:=K.TF.mZ;have h:=(Old.u0E hw c K.hR (show 1000001<F from O')).1;rw[h1]at h;have k:=Option.some.inj h;rw[k];have hs:=G06 t 0;cases t.can
 ·rfl
 ·simp only[if_true,o0h];unfold Z8;rw[if_neg (by simpa using hs)];simpa using hs
def x06 (K:U3 l n a b e z F)(hw:∀x∈l,P2 x):d0z F l 0=some (z8 (if z.2 then 2 else 1) [] [] (fun _ _=>0) (fun _ _=>0),0):=by
 obtain⟨can,h1,d,c⟩:=E0U K hw;unfold d0z f0d;rw[K.TF.mR];simp only[q0,beq_self_eq_true,show((0:Int)==1)=false from rfl,h1,d,c];cases z.2<;>rfl
theorem H0s {pl:List Nat}(hp:∀p∈pl,p<n)(ha:pl.Pairwise fun a b=>a<b)(hl:pl.length<=1000)(j:2000<F):i0v F (D1 pl) (n:Int)=some true:=by
 unfold i0v;have:=H3 (step:=h0V F (D1 pl) (n:Int)) (fun i=>(if i=0 then -1 else((pl.getD (i-1) 0:Nat):Int),(i:Int))) (.inr ()) pl.length (fun i hi=>.inl ?_) ?_ pl.length 0 F O' O'
 ·simp_all
 ·unfold h0V;have h1:(i:Int)<((D1 pl).length:Int):=by simp;omega
  have f:=hp _ (getElem_mem hi);have h:¬((pl[i]:Nat):Int)<=(if i=0 then -1 else((pl.getD (i-1) 0:Nat):Int)):=by
   by_cases c:i=0
   ·omega
   ·grind [List.pairwise_iff_getElem]
  have g:¬((pl[i]:Nat):Int)>=(n:Int):=O'
  have d:(if i+1=0 then(-1:Int)else((pl.getD (i+1-1) 0:Nat):Int))=((pl[i]:Nat):Int):=by
   simp_all
  simp only[q0,h1,q9 hi,h0N hi,h,g,X1 (i:=i) O',d]
 simp[h0V]
theorem E0R (K:U3 l n a b e z F){k:Kd}(C:R3 l n k.pl k.maps k.fB k.fD)(h:0<=k.flag)(i:k.flag<=2)(c:g07 F k.maps (C4 l)=some true):c0P F l k.K=some true:=by
 have f1:=K.f1;have hm:=C.le;have hn:=K.T.n64;have d:=C.len;have f:=K9 l l.length;have g:=K.hn;unfold c0P Kd.K z8;have c1:¬k.flag<0:=O'
 have c2:¬k.flag>2:=O'
 have c3:((k.maps.length:Int) != (k.pl.length:Int))=false:=by grind
 have c4:i0v F (D1 k.pl) ((G2 l l.length).length:Int)=some true:=by
  have:=H0s (F:=F) (n:=n) C.pln C.asc O' O'
  simp_all
 simp only[q0,K.TF.mR,c1,c2,c3,K.TF.mL,c4,o0r K.hR (show 401<F from O'),c,e0b,t01 (show k.pl.length<=1000 from O') (show 2000<F from O') C.rk]
def Kd.step (l:List C0)(n:Nat)(a:List B0)(b:Nat->List B0)(k:Kd)(b_:Int):Kd:=
 ⟨if k.flag==1 then 1 else 0,Z3 l n a b k.pl b_ (!(k.flag==0)),(Z3 l n a b k.pl b_ (!(k.flag==0))).map (stM l a b k.pl k.maps k.fB k.fD (!(k.flag==0))),
  u6 l (F5 k.pl (!(k.flag==0)) k.fB) ((Z3 l n a b k.pl b_ (!(k.flag==0))).map (T5 a b k.pl k.fB k.fD (!(k.flag==0)))) ((Z3 l n a b k.pl b_ (!(k.flag==0))).map (V5 a b k.pl k.fB k.fD (!(k.flag==0)))),
  Q6 l (F5 k.pl (!(k.flag==0)) k.fB) (a6 k.pl (!(k.flag==0)) k.fD) ((Z3 l n a b k.pl b_ (!(k.flag==0))).map (T5 a b k.pl k.fB k.fD (!(k.flag==0)))) ((Z3 l n a b k.pl b_ (!(k.flag==0))).map (V5 a b k.pl k.fB k.fD (!(k.flag==0))))⟩
def Kd.K7 (e:Nat->B0×Bool)(mode:Int)(k:Kd):Kd:=if mode==0 then k.cut e else k
def Kd.num (k:Kd):Kd:=⟨k.flag,k.pl,X5 k.maps,k.fB,k.fD⟩
def o0m (K:U3 l n a b e z F)(hw:∀x∈l,P2 x){k:Kd}(C:R3 l n k.pl k.maps k.fB k.fD)(b_:Int):R3 l n (k.step l n a b b_).pl (k.step l n a b b_).maps (k.step l n a b b_).fB (k.step l n a b b_).fD:=by
 have h:=C0W (at_:=0) K C hw b_ (!(k.flag==0));refine⟨by simp[Kd.step],h.pln,h.asc,fun v c=>?_,h.rk⟩;obtain⟨r,d,rfl⟩:=mem_map.1 c;unfold stM;rw[e0V];exact(m07 (w0K C _) (s0j C _) (by rw[<-d0B a b];exact e0o (c09 d).2)).1
theorem t0R {k:Kd}(mode:Int)(C:R3 l n k.pl k.maps k.fB k.fD):R3 l n (k.K7 e mode).pl (k.K7 e mode).maps (k.K7 e mode).fB (k.K7 e mode).fD:=by
 grind [Kd.K7,d0N]
def v0n {k:Kd}(C:R3 l n k.pl k.maps k.fB k.fD):R3 l n k.num.pl k.num.maps k.num.fB k.num.fD:=by
 refine⟨by simp[Kd.num,X5,C.len],C.pln,C.asc,fun v c=>?_,C.rk⟩;obtain⟨r,d,rfl⟩:=mem_map.1 c;rw[length_map];exact C.row r d
def w0O (K:U3 l n a b e z F){k:Kd}(C:R3 l n k.pl k.maps k.fB k.fD)(d:0<=k.flag)(f:k.flag<=2):c0P F l k.num.K=some true/\c0k F k.num.K=some ((M4 k.maps).length:Int):=by
 have f1:=K.f1;have hm:=C.le;have hn:=K.T.n64;have c:=C.len;have g:=a07 l;have hk:=A07 (F:=F) (maps:=k.maps) (tags:=(C4 l).toNat) C.row O' O' O' k.num.K;have e:(((C4 l).toNat:Nat):Int)=C4 l:=O'
 rw[e]at hk;exact⟨E0R K (v0n C) d f hk.1,hk.2⟩
theorem F0p (K:U3 l n a b e z F)(hw:∀x∈l,P2 x){k:Kd}(C:R3 l n k.pl k.maps k.fB k.fD)(hR:c0P F l k.K=some true){mode:Int}(c:mode=0\/mode=1){b_:Int}(s:L5 .u8 b_):
  c0Q F l mode k.K b_=some (((k.step l n a b b_).K7 e mode).num.K,M4 ((k.step l n a b b_).K7 e mode).maps):=by
 have f1:=K.f1;have hn:=K.T.n64;have w:=a07 l;have m:=o0m K hw C b_;have u:=t0R (e:=e) mode m;have I:=t0H K C (!(k.flag==0));have t:f0d F mode=some true:=by
  unfold f0d
  grind
 have hg:=y0j (flag:=k.flag) K C (E0:=!(k.flag==0)) X';have g:(if k.flag==1 then some ((1,[],[],(⟨[],[]⟩:D2)):Int×List Int×List (List Int)×D2)else some (0,[],[],(⟨[],[]⟩:D2)))=some ((k.step l n a b b_).flag,[],[],(⟨[],[]⟩:D2)):=by
  grind [Kd.step]
 have h:=H0h K C hw s (!(k.flag==0)) (k.step l n a b b_).flag (⟨[],[]⟩:D2);have i:=A0k (F:=F) hw K.hR K.hn (show 2000<F from O') K.TF.mL (show C5 k.pl (!(k.flag==0))<=1000 from O') (l0W C (!(k.flag==0))) (w0s K C b_ (!(k.flag==0)));have y:(k.step l n a b b_).T=((k.step l n a b b_).flag,D1 (Z3 l n a b k.pl b_ (!(k.flag==0))),(Z3 l n a b k.pl b_ (!(k.flag==0))).map (stM l a b k.pl k.maps k.fB k.fD (!(k.flag==0))),U2 (Z3 l n a b k.pl b_ (!(k.flag==0))).length (u6 l (F5 k.pl (!(k.flag==0)) k.fB) ((Z3 l n a b k.pl b_ (!(k.flag==0))).map (T5 a b k.pl k.fB k.fD (!(k.flag==0)))) ((Z3 l n a b k.pl b_ (!(k.flag==0))).map (V5 a b k.pl k.fB k.fD (!(k.flag==0))))) (Q6 l (F5 k.pl (!(k.flag==0)) k.fB) (a6 k.pl (!(k.flag==0)) k.fD) ((Z3 l n a b k.pl b_ (!(k.flag==0))).map (T5 a b k.pl k.fB k.fD (!(k.flag==0)))) ((Z3 l n a b k.pl b_ (!(k.flag==0))).map (V5 a b k.pl k.fB k.fD (!(k.flag==0)))))):=rfl;have o:=F0Q K m;have f:k.K.Flag=k.flag:=rfl;have d:∀q:Kd,R3 l n q.pl q.maps q.fB q.fD->Option.bind (g0N F q.T) (fun x=>some (x.1,x.2))=some (q.num.K,M4 q.maps):=fun q j=>by
  unfold Kd.T;rw[B0a (F:=F) (fun r p=>by have:=j.row r p;omega) (by have:=j.len;have:=j.le;omega) O'];rfl
 unfold c0Q;rw[show i0L F l k.K=_ from hg];simp only[G0,f,g,K.TF.mL,h,i,length_map];rcases c with rfl|rfl
 ·simp_all[Kd.K7]
 ·have v:=d _ u;unfold Kd.K7 at v ⊢
  simp_all
def a06 (l:List C0)(e:Nat->B0×Bool)(z:B0×Bool)(k:Kd):List Int:=
 if D8 k.fD (E7 e k.pl k.pl.length)<0 then(if z.2&&(k.flag==2&&k.pl.length==0)then Z9 (-1) (-2) (b0I l) (a7 l z.1.Steps)else[])
 else Z9 (-1) (-2) (gt k.maps (D8 k.fD (E7 e k.pl k.pl.length))) (a7 l (e (k.pl.getD (D8 k.fD (E7 e k.pl k.pl.length)).toNat 0)).1.Steps)
theorem E0B (K:U3 l n a b e z F){k:Kd}(C:R3 l n k.pl k.maps k.fB k.fD)(hR:c0P F l k.K=some true):c0s F l k.K=some (a06 l e z k):=by
 have p:=a07 l;unfold c0s a06;rw[hR,show f0G F l k.K=_ from s0W (flag:=k.flag) K C];rcases j07 (fD:=k.fD) (E7 e k.pl k.pl.length) (n:=k.pl.length) (fun i h=>j0P h)with hb|⟨q,hb,hq⟩
 ·have f:=j0K l z.1.Steps;have j:=K.T.zl;have d:((k.K.Places.length:Int)==0)=(k.pl.length==0):=by simp[B0i,Kd.K,z8]
  have g:k.K.Flag=k.flag:=rfl;have h1:¬(-1:Int)>=0:=O'
  simp only[h1,decide_false,false_eq_true,if_false,K.TF.mZ,G0,show((-1:Int)<0)=True from X',if_true,d,g,t0l K,p07 K.hR (show z.1.Steps.length<=2000000 from O') K.f1 (N2.sok K.T.zb),o0k (F:=F) (tags:=b0I l) (marks:=a7 l z.1.Steps) (now:=-1) (none_:=-2) (by grind [q0p]) O']
  grind
 ·have hp:=P8 C.pln hq;have f:=j0K l (e (k.pl.getD q 0)).1.Steps;have o:=K.T.el _ hp;have h1:(q:Int)>=0:=O'
  have m:¬(q:Int)<0:=O'
  have c:y0 k.maps (q:Int)=true:=V0 O' (by rw[C.len];omega);rw[hb];simp only[q0,h1,m,Kd.K,z8,q9 hq,a0T hq,K.TF.mE _ hp,c,p07 K.hR (show(e (k.pl.getD q 0)).1.Steps.length<=2000000 from O') K.f1 (N2.sok (K.T.eb _ hp)),Int.toNat_natCast]
  grind [o0k,I0B]
end
def h0G (P:Int->Int->Prop)(E V:List Int):Prop:=E.length=V.length/\∀m:Nat,m<E.length->P (gt E (m:Int)) (gt V (m:Int))
def w0v (regs:List Int)(now:Int)(e v:Int):Prop:=(e=-2/\v=-1)\/(e=-1/\v=now)\/(0<=e/\e<(regs.length:Int)/\v=gt regs e)
def q0n (regs:List Int)(e v:Int):Prop:=(e=-2/\v=-1)\/(0<=e/\e<(regs.length:Int)/\v=gt regs e)
def q0n.n {regs:List Int}{e v:Int}(h:q0n regs e v)(now:Int):w0v regs now e v:=by
 rcases h with h|h
 ·exact .inl h
 ·exact .inr (.inr h)
def h0G.mono {P Q:Int->Int->Prop}(h:∀e v,P e v->Q e v){E V:List Int}(c:h0G P E V):h0G Q E V:=⟨c.1,fun m hm=>h _ _ (c.2 m hm)⟩
def r0I {x:Int}(c:x≠-2):∀(r s:List Int),(x∈r\/x∈s)->x∈Z2 s r
 |[],s,h=>by
  rcases h with h|h
  ·cases h
  ·exact h
 |v :: r,s,h=>by
  refine r0I c r (M6 s v) ?_;rcases h with h|h
  ·rcases mem_cons.1 h with h|h
   ·subst h;refine .inr ?_;unfold M6
    by_cases hm:x∈s
    ·rw[if_pos (.inr hm)];exact hm
    ·rw[if_neg (by rintro(h|h);exact c h;exact hm h)];simp
   ·exact .inl h
  ·exact .inr ((v04 s v).subset h)
section
variable {F:Nat}
end
