/- P. Its conditions: none. -/
import Derived.Test.YtbccffnofdnpoaaGreatAG42
import Derived.Test.YtbccffnofdnpoaaGreatAX15
open Bool (false_eq_true)
open List (append_nil map_append map_cons map_nil length_map range_succ getElem_mem)
set_option linter.all false
namespace Go.Proofs.YtbccffnofdnpoaaGreat
open Go.V Go.RowKit Old Go.X
section
variable {F:Nat}{l:List D0}{n:Nat}{a:List B0}{b:Nat->List B0}{e:Nat->B0×Bool}{z:B0×Bool}{at_ work:Int}{pl:List Nat}{vals:List (List Int)}{fB fD:Nat->Nat->Int}
def t05 (K:Y2 l n a b e z F)(C:C4 l n pl vals fB fD)(y0:Bool)(r:Nat):(U3 (P0 a b pl y0) r (P0 a b pl y0).length).length<=500/\∀i∈U3 (P0 a b pl y0) r (P0 a b pl y0).length,i<H4 pl y0:=by
 have hm:=C.le;have hn:=K.T.n64;have h1:=l0Q (P0 a b pl y0) r (P0 a b pl y0).length;rw[b0d]at h1;refine⟨by
       have:H4 pl y0<=pl.length+1:=by unfold H4;split<;>omega
       rw[b0d];omega,fun i hi=>?_⟩
 rw[<-b0d a b];exact w0u hi
def l0o (K:Y2 l n a b e z F)(C:C4 l n pl vals fB fD)(y0:Bool):H4 pl y0<=401:=by
 have hm:=C.le;have hn:=K.T.n64;unfold H4;split<;>omega
def y0f (K:Y2 l n a b e z F)(C:C4 l n pl vals fB fD){b_:Int}{y0:Bool}{r:Nat}(h:U3 (P0 a b pl y0) r (P0 a b pl y0).length≠[]):(D4 a b pl fB fD y0 r).Steps.length<=2000000/\F3 800 (D4 a b pl fB fD y0 r).Steps:=by
 have hm:=n03 (fB:=Q3 pl y0 fB) (fD:=I4 pl y0 fD) h;have hw:=h0D K C y0 _ (c0F (fB:=Q3 pl y0 fB) (fD:=I4 pl y0 fD) h);exact⟨(hw.1.ok _ hm.1).2.2,hw.2.2.2 _ hm.1⟩
set_option maxHeartbeats 2000000 in
def F0T (K:Y2 l n a b e z F)(C:C4 l n pl vals fB fD)(b_:Int)(y0:Bool)(b2:0<=work)(a1:work<=1000000000000){r:Nat}(hr:r<n):
  e0S F ⟨z6 l at_ vals y0,(P0 a b pl y0).map (fun w=>w.map (H3 l)),R2 (H4 pl y0) (Q3 pl y0 fB) (I4 pl y0 fD)⟩ ((List.range n).map (N6 l (X1 l b_) (P0 a b pl y0) (P0 a b pl y0).length 0))
   (Q0 (K4 (X1 l b_) (P0 a b pl y0) r),(K4 (X1 l b_) (P0 a b pl y0) r).map (O7 l a b at_ pl vals fB fD y0),(r:Int),⟨i7 l n a b e z,at_,work+(z8 (X1 l b_) (P0 a b pl y0) r:Int),Q0 pl,vals,R2 pl.length fB fD⟩,
    (Q0 ((K4 (X1 l b_) (P0 a b pl y0) r).map (O2 a b pl fB fD y0)),(K4 (X1 l b_) (P0 a b pl y0) r).map (fun r=>H3 l (D4 a b pl fB fD y0 r)),(K4 (X1 l b_) (P0 a b pl y0) r).map (D4 a b pl fB fD y0))) =
  some (.next (Q0 (K4 (X1 l b_) (P0 a b pl y0) (r+1)),(K4 (X1 l b_) (P0 a b pl y0) (r+1)).map (O7 l a b at_ pl vals fB fD y0),((r+1:Nat):Int),⟨i7 l n a b e z,at_,work+(z8 (X1 l b_) (P0 a b pl y0) (r+1):Int),Q0 pl,vals,R2 pl.length fB fD⟩,
    (Q0 ((K4 (X1 l b_) (P0 a b pl y0) (r+1)).map (O2 a b pl fB fD y0)),(K4 (X1 l b_) (P0 a b pl y0) (r+1)).map (fun r=>H3 l (D4 a b pl fB fD y0 r)),(K4 (X1 l b_) (P0 a b pl y0) (r+1)).map (D4 a b pl fB fD y0)))):=by
 have f1:=K.f1;have hn:=K.T.n64;have hM:=l0o K C y0;have y:=b0d a b pl y0;obtain⟨b3,q⟩:=t05 K C y0 r;have v:=m0g (P0 a b pl y0) r (P0 a b pl y0).length;have b4:=t0m (X1 l b_) (P0 a b pl y0) r;have b1:=p0E (X1 l b_) (P0 a b pl y0) r;have U:r*(P0 a b pl y0).length<=400*401:=Nat.mul_le_mul O' O';have ht:=k7 l;have hx:(r:Int)<(((List.range n).map (N6 l (X1 l b_) (P0 a b pl y0) (P0 a b pl y0).length 0)).length:Int):=by simp;omega
 have k:=i0z C y0;unfold e0S;simp only[hx,decide_true,if_true,g02 hr,g0v hr,t0l,u0g,z8,K2 (i:=r) O'];cases hP:X1 l b_ r with
 |false=>
  have c:=t0i (F:=F) (n:=H4 pl y0) (fB:=Q3 pl y0 fB) (fD:=I4 pl y0 fD) (fr:=[]) (hops:=[]) O' O' k rfl V' V';have d:e0u F (R2 (H4 pl y0) (Q3 pl y0 fB) (I4 pl y0 fD)) [] []=some (-1):=by rw[<-s0F (fB:=Q3 pl y0 fB) (fD:=I4 pl y0 fD) (hops:=[])];exact c
  have f:W (work+(z8 (X1 l b_) (P0 a b pl y0) r:Int)+((([]:List Int).length:Nat):Int))=work+(z8 (X1 l b_) (P0 a b pl y0) r:Int):=by rw[J3 Z' Z'];simp
  simp only[q0,d,show decide ((-1:Int)<0)=true from rfl,f,Bool.false_and,append_nil,Nat.add_zero]
 |true=>
  simp only[if_true,Bool.true_and];have f:W (work+(z8 (X1 l b_) (P0 a b pl y0) r:Int)+(((Q0 (U3 (P0 a b pl y0) r (P0 a b pl y0).length)).length:Nat):Int))=work+((z8 (X1 l b_) (P0 a b pl y0) r+(U3 (P0 a b pl y0) r (P0 a b pl y0).length).length:Nat):Int):=by rw[J3 Z' Z'];simp;omega
  simp only[f];have c:=t0i (F:=F) (n:=H4 pl y0) (fB:=Q3 pl y0 fB) (fD:=I4 pl y0 fD) (fr:=U3 (P0 a b pl y0) r (P0 a b pl y0).length) (hops:=J5 (P0 a b pl y0) r (P0 a b pl y0).length) O' O' k v O' q
  by_cases g:U3 (P0 a b pl y0) r (P0 a b pl y0).length=[]
  ·have d:e0u F (R2 (H4 pl y0) (Q3 pl y0 fB) (I4 pl y0 fD)) (Q0 (U3 (P0 a b pl y0) r (P0 a b pl y0).length)) (J5 (P0 a b pl y0) r (P0 a b pl y0).length)=some (-1):=by
    rw[c,g,s0F]
   simp only[d,F0,show decide ((-1:Int)<0)=true from rfl,if_true];simp only[q0,g,List.isEmpty_nil,append_nil]
  ·obtain⟨k1,k2⟩:=n0y (fB:=Q3 pl y0 fB) (fD:=I4 pl y0 fD) g;have I:(U3 (P0 a b pl y0) r (P0 a b pl y0).length).isEmpty=false:=by simpa using g
   rw[k1]at c;have k3:¬((L9 (Q3 pl y0 fB) (I4 pl y0 fD) (P0 a b pl y0) r:Nat):Int)<0:=O'
   have J:O2 a b pl fB fD y0 r<H4 pl y0:=by rw[<-y];exact c0F g
   obtain⟨v1,v2⟩:=m0i (u0l (at_:=at_) C y0) (u0O C y0) J;have j:(((U3 (P0 a b pl y0) r (P0 a b pl y0).length).getD (L9 (Q3 pl y0 fB) (I4 pl y0 fD) (P0 a b pl y0) r) 0:Nat):Int)=(O2 a b pl fB fD y0 r:Int):=rfl;have h:gt ((J5 (P0 a b pl y0) r (P0 a b pl y0).length).map (H3 l)) ((L9 (Q3 pl y0 fB) (I4 pl y0 fD) (P0 a b pl y0) r:Nat):Int)=H3 l (D4 a b pl fB fD y0 r):=by
    refine P2 ?_;rw[List.getElem?_map,X4 (show L9 (Q3 pl y0 fB) (I4 pl y0 fD) (P0 a b pl y0) r<(J5 (P0 a b pl y0) r (P0 a b pl y0).length).length from O'),u0e g];rfl
   have o:C0 ((J5 (P0 a b pl y0) r (P0 a b pl y0).length).map (H3 l)) ((L9 (Q3 pl y0 fB) (I4 pl y0 fD) (P0 a b pl y0) r:Nat):Int)=true:=R0 O' Z';have R:J0 8 (Q0 (K4 (X1 l b_) (P0 a b pl y0) r)) [(r:Int)]=true:=by simp[J0];omega
   have s:J0 24 ((K4 (X1 l b_) (P0 a b pl y0) r).map (O7 l a b at_ pl vals fB fD y0)) [O7 l a b at_ pl vals fB fD y0 r]=true:=by simp[J0];omega
   have x:J0 8 (Q0 ((K4 (X1 l b_) (P0 a b pl y0) r).map (O2 a b pl fB fD y0))) [(O2 a b pl fB fD y0 r:Int)]=true:=by simp[J0];omega
   have p:J0 64 ((K4 (X1 l b_) (P0 a b pl y0) r).map (fun r=>H3 l (D4 a b pl fB fD y0 r))) [H3 l (D4 a b pl fB fD y0 r)]=true:=by simp[J0];omega
   have t:J0 40 ((K4 (X1 l b_) (P0 a b pl y0) r).map (D4 a b pl fB fD y0)) [(H3 l (D4 a b pl fB fD y0 r)).Hop]=true:=by simp[J0];omega
   have m:=h0j (F:=F) (marks:=(H3 l (D4 a b pl fB fD y0 r)).marks) (now:=at_) (none_:=-1) (show(gt (z6 l at_ vals y0) (O2 a b pl fB fD y0 r:Int)).length<=1000 from O') (show(L5 l (D4 a b pl fB fD y0 r).Steps).length<=1000000000 by have:=(y0f K C (b_:=b_) (y0:=y0) g).1;have:=f0u l (D4 a b pl fB fD y0 r).Steps;omega);have u:Y3 at_ (-1) (gt (z6 l at_ vals y0) (O2 a b pl fB fD y0 r:Int)) (H3 l (D4 a b pl fB fD y0 r)).marks=O7 l a b at_ pl vals fB fD y0 r:=rfl;rw[u]at m;simp only[q0,c,k3,R,v7 k2,L8 k2,j,v2,o,h,m,s,x,p,t,I,c0B,map_append,map_cons,map_nil];rfl
set_option maxHeartbeats 2000000 in
def D0M (K:Y2 l n a b e z F)(C:C4 l n pl vals fB fD)(hw:∀x∈l,V2 x){b_:Int}(s:J4 .u8 b_)(y0:Bool)(v:0<=at_)(q:at_<=1000000)(o:0<=work)(k:work<=1000000000000):
  e05 F (B6 l n a b e z at_ work pl vals fB fD) b_ y0=some (B6 l n a b e z (at_+1) (work+stW l n a b pl b_ y0) (Q1 l n a b pl b_ y0) ((Q1 l n a b pl b_ y0).map (O7 l a b at_ pl vals fB fD y0))
   (b6 l (Q3 pl y0 fB) ((Q1 l n a b pl b_ y0).map (O2 a b pl fB fD y0)) ((Q1 l n a b pl b_ y0).map (D4 a b pl fB fD y0))) (M6 l (Q3 pl y0 fB) (I4 pl y0 fD) ((Q1 l n a b pl b_ y0).map (O2 a b pl fB fD y0)) ((Q1 l n a b pl b_ y0).map (D4 a b pl fB fD y0)))):=by
 have f1:=K.f1;have hn:=K.T.n64;have hM:=l0o K C y0;have u:=b0d a b pl y0;have f:=t0H K C b_ y0;have j:=O0D (F:=F) (c:=B6 l n a b e z at_ work pl vals fB fD) (g:=⟨z6 l at_ vals y0,(P0 a b pl y0).map (fun w=>w.map (H3 l)),R2 (H4 pl y0) (Q3 pl y0 fB) (I4 pl y0 fD)⟩) hw K.hn hn f1 rfl s (fun i hi=>⟨(h0D K C y0 i hi).1,(h0D K C y0 i hi).2.1⟩) O' rfl;have d:=V3 (step:=e0S F ⟨z6 l at_ vals y0,(P0 a b pl y0).map (fun w=>w.map (H3 l)),R2 (H4 pl y0) (Q3 pl y0 fB) (I4 pl y0 fD)⟩ ((List.range n).map (N6 l (X1 l b_) (P0 a b pl y0) (P0 a b pl y0).length 0)))
  (fun r=>(Q0 (K4 (X1 l b_) (P0 a b pl y0) r),(K4 (X1 l b_) (P0 a b pl y0) r).map (O7 l a b at_ pl vals fB fD y0),(r:Int),⟨i7 l n a b e z,at_,work+(z8 (X1 l b_) (P0 a b pl y0) r:Int),Q0 pl,vals,R2 pl.length fB fD⟩,
    (Q0 ((K4 (X1 l b_) (P0 a b pl y0) r).map (O2 a b pl fB fD y0)),(K4 (X1 l b_) (P0 a b pl y0) r).map (fun r=>H3 l (D4 a b pl fB fD y0 r)),(K4 (X1 l b_) (P0 a b pl y0) r).map (D4 a b pl fB fD y0))))
  (Q0 (Q1 l n a b pl b_ y0),(Q1 l n a b pl b_ y0).map (O7 l a b at_ pl vals fB fD y0),⟨i7 l n a b e z,at_,work+(z8 (X1 l b_) (P0 a b pl y0) n:Int),Q0 pl,vals,R2 pl.length fB fD⟩,
    (Q0 ((Q1 l n a b pl b_ y0).map (O2 a b pl fB fD y0)),(Q1 l n a b pl b_ y0).map (fun r=>H3 l (D4 a b pl fB fD y0 r)),(Q1 l n a b pl b_ y0).map (D4 a b pl fB fD y0))) n
  (fun r I=>.inl (F0T K C b_ y0 o k I)) ?_ n 0 F O' O'
 ·have t:work+(z8 (X1 l b_) (P0 a b pl y0) 0:Int)=work:=by simp[z8]
  rw[t]at d;have y:iter (e0S F ⟨z6 l at_ vals y0,(P0 a b pl y0).map (fun w=>w.map (H3 l)),R2 (H4 pl y0) (Q3 pl y0 fB) (I4 pl y0 fD)⟩ ((List.range n).map (N6 l (X1 l b_) (P0 a b pl y0) (P0 a b pl y0).length 0))) F ([],[],0,B6 l n a b e z at_ work pl vals fB fD,([],[],[]))=_:=d;unfold e05;rw[B06 K C y0];simp only[F0,j,y];have hl:(i7 l n a b e z).l=l:=rfl;have h:=y0o (F:=F) hw K.hR K.hn (show 2000<F from O') K.TF.mL (show H4 pl y0<=1000 from O') (i0z C y0) (j05 K C b_ y0);simp only[hl,h,F0,length_map,c0Q];have p:(i7 l n a b e z).tags=Z2 l:=rfl;obtain⟨U,q2,q3,R,q5,q6,J⟩:=f;rw[p,J3 (n:=at_+1) O' O',J3 (n:=((Q1 l n a b pl b_ y0).length:Int)*Z2 l) O' O',J3 (n:=((Q1 l n a b pl b_ y0).length:Int)*((Q1 l n a b pl b_ y0).length:Int)) O' O',J3 (n:=((Q1 l n a b pl b_ y0).length:Int)*Z2 l+((Q1 l n a b pl b_ y0).length:Int)*((Q1 l n a b pl b_ y0).length:Int)) O' O'];rw[J3 (n:=work+(z8 (X1 l b_) (P0 a b pl y0) n:Int)+(((Q1 l n a b pl b_ y0).length:Int)*Z2 l+((Q1 l n a b pl b_ y0).length:Int)*((Q1 l n a b pl b_ y0).length:Int))) O' O'];have m:work+(z8 (X1 l b_) (P0 a b pl y0) n:Int)+(((Q1 l n a b pl b_ y0).length:Int)*Z2 l+((Q1 l n a b pl b_ y0).length:Int)*((Q1 l n a b pl b_ y0).length:Int))=work+stW l n a b pl b_ y0:=by unfold stW;omega
  rw[m];rfl
 ·unfold e0S;have h1:¬((n:Int)<(((List.range n).map (N6 l (X1 l b_) (P0 a b pl y0) (P0 a b pl y0).length 0)).length:Int)):=V'
  simp only[q0,h1];rfl
end
section
variable {F:Nat}{l:List D0}{n:Nat}{a:List B0}{b:Nat->List B0}{e:Nat->B0×Bool}{z:B0×Bool}{at_ work:Int}{pl:List Nat}{vals:List (List Int)}{fB fD:Nat->Nat->Int}
abbrev xT (l:List D0)(n:Nat)(a:List B0)(b:Nat->List B0)(e:Nat->B0×Bool)(at_ work:Int)(places:List Int)(tags:List (List Int))(rank:J2):(List D0)×(List Int)×(List B0)×(List (List B0))×(List (List Int))×Int×Int×(List Int)×(List (List Int))×J2:=
 (l,C3 l l.length,a,(List.range n).map b,(List.range n).map fun p=>(e p).1.Steps,at_,work,places,tags,rank)
set_option maxHeartbeats 2000000 in
set_option maxHeartbeats 2000000 in
end
abbrev Fb:Nat:=10000000000000
def E0z {p:List D0}(h:wfD en 20 (.list (.st 0)) p):∀x∈p,V2 x:=fun x g=>by
 obtain⟨h1,d,c,i,⟨f,j⟩,_⟩:=h x g;exact⟨h1,d,c,i,f,j⟩
theorem P4 {α:Type}[Inhabited α]{l:List α}{i:Nat}(h:i<l.length):gt l (i:Int)∈l:=List.mem_of_getElem? (X4 h)
section
variable {l:List D0}
def I01 (hR:N3 l=false)(hl:l.length*64<=140737488351232)(c:l.length<=1000):Q9 Fb l=some false/\g0l Fb l=some false:=by
 refine⟨(by rw[Old.d0t l (show 401<Fb by unfold Fb;omega),hR]),(by rw[Old.u0k l hl (show l.length+1<Fb by unfold Fb;omega),hR])⟩
def known (hw:∀x∈l,V2 x)(hR:N3 l=true)(hl:l.length*64<=140737488351232)(c:l.length<=1000):∃a b e z,Y2 l (Z0 l l.length) a b e z Fb:=by
 obtain⟨a,b,e,z,T,TF⟩:=m0V hw hl hR;exact⟨a,b,e,z,hR,hl,rfl,T,by unfold Fb;omega,by unfold Fb;omega,by unfold Fb;omega,TF Fb (by unfold Fb;omega) (by unfold Fb;omega)⟩
def r0A (l:List D0)(n:Nat):C4 l n [] [] (fun _ _=>0) (fun _ _=>0) where
 len:=rfl
 pln:=by intro p h;cases h
 asc:=List.Pairwise.nil
 row:=by intro v h;cases h
 rk:=⟨fun i k h=>by simp at h,fun i h=>rfl,fun i h=>rfl,fun i k h=>by simp at h,fun i k h=>by simp at h⟩
end
def B9 (l:List D0):List Int:=(List.replicate (Z2 l).toNat (-2)).set 0 (-1)
def a0J (l:List D0)(maps:List (List Int))(y0:Bool):List (List Int):=maps++if y0 then[B9 l]else[]
def goG (l:List D0)(a:List B0)(b:Nat->List B0)(pl:List Nat)(maps:List (List Int))(y0:Bool):List s6:=((List.range pl.length).map fun(i:Nat)=>(⟨gt maps (i:Int),b (pl.getD i 0)⟩:s6))++if y0 then[⟨B9 l,a⟩]else[]
def K8 (flag:Int)(pl:List Nat)(maps:List (List Int))(fB fD:Nat->Nat->Int):Y1:=⟨flag,Q0 pl,maps,R2 pl.length fB fD⟩
def stM (l:List D0)(a:List B0)(b:Nat->List B0)(pl:List Nat)(maps:List (List Int))(fB fD:Nat->Nat->Int)(y0:Bool)(r:Nat):List Int:=
 Y3 (-1) (-2) (gt (a0J l maps y0) (O2 a b pl fB fD y0 r:Int)) (L5 l (D4 a b pl fB fD y0 r).Steps)
theorem n09 (l:List D0):(B9 l).length=(Z2 l).toNat:=by simp[B9]
section
variable {F:Nat}{l:List D0}{n:Nat}{a:List B0}{b:Nat->List B0}{e:Nat->B0×Bool}{z:B0×Bool}{pl:List Nat}{maps:List (List Int)}{fB fD:Nat->Nat->Int}{flag:Int}
def u0u (C:C4 l n pl maps fB fD)(y0:Bool):(a0J l maps y0).length=H4 pl y0:=by unfold a0J H4;cases y0<;>simp[C.len]
def v0U (C:C4 l n pl maps fB fD)(y0:Bool):∀v∈a0J l maps y0,v.length=(Z2 l).toNat:=by
 intro v c;rcases List.mem_append.1 c with h|h
 ·exact C.row v h
 simp_all[n09]
theorem z0K (y0:Bool):(goG l a b pl maps y0).length=H4 pl y0:=by grind [goG,H4]
theorem v0O (C:C4 l n pl maps fB fD){y0:Bool}{i:Nat}(hi:i<H4 pl y0):gt (goG l a b pl maps y0) (i:Int)=⟨gt (a0J l maps y0) (i:Int),(P0 a b pl y0).getD i []⟩:=by
 have c:=C.len;refine P2 ?_;unfold goG a0J P0;unfold H4 at hi
 by_cases h:i<pl.length
 ·simp_all[List.getElem?_append_left,b0l]
 ·cases y0 with
  |false=>simp_all
  |true=>
   simp only[if_true]at hi;have e:i=pl.length:=O'
   simp_all[c0Z]
theorem w0a (K:Y2 l n a b e z F):i0C F l=some (B9 l):=by
 have f1:=K.f1;have d:=k7 l;obtain⟨t,c⟩:∃t:Nat,Z2 l=t:=⟨(Z2 l).toNat,O'⟩
 unfold i0C B9;rw[l0u K.hR O',c];simp only[F0,u0t (F:=F) (n:=t) (x:=-2) O' O',Int.toNat_natCast];rw[if_pos (R0 O' (by grind))];rfl
theorem J0E (K:Y2 l n a b e z F)(C:C4 l n pl maps fB fD){y0:Bool}(c:(flag==0)=!y0):j0E F l (K8 flag pl maps fB fD) =
  some (goG l a b pl maps y0,R2 (H4 pl y0) (Q3 pl y0 fB) (I4 pl y0 fD)):=by
 have f1:=K.f1;have hm:=C.le;have hn:=K.T.n64;have h:=C.len;have hl:=K.hl;unfold j0E;have:=V3 (step:=j0a F l (K8 flag pl maps fB fD)) (fun i=>((List.range i).map (fun(i:Nat)=>(⟨gt maps (i:Int),b (pl.getD i 0)⟩:s6)),(i:Int))) ((List.range pl.length).map (fun(i:Nat)=>(⟨gt maps (i:Int),b (pl.getD i 0)⟩:s6))) pl.length (fun i hi=>.inl ?_) ?_ pl.length 0 F O' O'
 ·have j:iter (j0a F l (K8 flag pl maps fB fD)) F ([],0)=_:=this;rw[j];simp only[F0,K8,c];unfold goG H4 Q3 I4;cases y0 with
  |false=>simp
  |true=>
   have f:J0 48 ((List.range pl.length).map (fun(i:Nat)=>(⟨gt maps (i:Int),b (pl.getD i 0)⟩:s6))) [(⟨B9 l,a⟩:s6)]=true:=by grind [J0]
   have k:W ((l.length:Int)-1)=(l.length:Int)-1:=J3 O' O';simp only[q0,w0a K,k,K.TF.mA,f,x0Y (show pl.length<=900 from O') (show 2000<F from O') C.rk]
 ·unfold j0a;have h1:(i:Int)<((Q0 pl).length:Int):=by simp;omega
  have hp:=T7 C.pln hi;have g:C0 maps (i:Int)=true:=R0 O' O';have d:J0 48 ((List.range i).map (fun(i:Nat)=>(⟨gt maps (i:Int),b (pl.getD i 0)⟩:s6))) [(⟨gt maps (i:Int),b (pl.getD i 0)⟩:s6)]=true:=by grind [J0]
  simp only[q0,K8,h1,v7 hi,L8 hi,g,K.TF.mB _ hp,d,range_succ,map_append,map_cons,map_nil,K2 (i:=i) O']
 simp[j0a,K8]
def F0J {Ws:List (List B0)}{all:List s6}(hl:all.length=Ws.length)(hg:∀i:Nat,i<Ws.length->(gt all (i:Int)).ways=Ws.getD i [])(s:∀i,i<Ws.length->B2 n (Ws.getD i [])/\(Ws.getD i []).length<=500000)(x:Ws.length<=1000)(w:2000001<F)(r:Nat):
  l0H F all (r:Int)=some (Q0 (U3 Ws r Ws.length),J5 Ws r Ws.length):=by
 unfold l0H;have:=V3 (step:=i01 F all (r:Int)) (fun i=>(Q0 (U3 Ws r i),J5 Ws r i,(i:Int))) (Q0 (U3 Ws r Ws.length),J5 Ws r Ws.length) Ws.length (fun i hi=>.inl ?_) ?_ Ws.length 0 F O' O'
 ·have y:iter (i01 F all (r:Int)) F ([],[],0)=_:=this
  simp_all
 ·have h1:(i:Int)<(all.length:Int):=O'
  have h:C0 all (i:Int)=true:=R0 O' h1;obtain⟨g,hlen⟩:=s i hi;have p:=hg i hi;have t:=l0Q Ws r i;have u:=m0g Ws r i;have inner:=V3 (step:=j0s F all (r:Int) (i:Int)) (fun j=>(Q0 (U3 Ws r i++if(B7 ((Ws.getD i []).take j) r).isSome then[i]else[]),J5 Ws r i++(if(B7 ((Ws.getD i []).take j) r).isSome then[a0T ((Ws.getD i []).take j) r]else[]),(j:Int)))
   (Q0 (U3 Ws r (i+1)),J5 Ws r (i+1)) (Ws.getD i []).length (fun j q=>.inl ?_) ?_ (Ws.getD i []).length 0 F O' O'
  ·have v:B7 ((Ws.getD i []).take 0) r=none:=rfl;have e0:iter (j0s F all (r:Int) (i:Int)) F (Q0 (U3 Ws r i),J5 Ws r i,0)=some (Q0 (U3 Ws r (i+1)),J5 Ws r (i+1)):=by
    simp_all
   unfold i01;simp only[q0,h1,h,e0,K2 (i:=i) O']
  ·unfold j0s;have c:(j:Int)<(((Ws.getD i []).length:Nat):Int):=O'
   have d:C0 (Ws.getD i []) (j:Int)=true:=R0 O' c;simp only[p,c,decide_true,if_true,d]
   by_cases f:(gt (Ws.getD i []) (j:Int)).To=(r:Int)
   ·obtain⟨t1,t2⟩:=w0U g q f;have o:((gt (Ws.getD i []) (j:Int)).To==(r:Int))=true:=beq_iff_eq.2 f;have m:J0 8 (Q0 (U3 Ws r i)) [(i:Int)]=true:=by simp[J0];omega
    have k:J0 40 (J5 Ws r i) [gt (Ws.getD i []) (j:Int)]=true:=by simp[J0];omega
    simp only[q0,o,t1,t2,Option.isSome_none,append_nil,Option.isSome_some,m,k,K2 (i:=j) O',c0B];unfold a0T;rw[t1];rfl
   ·have t1:=w0y q f;have o:((gt (Ws.getD i []) (j:Int)).To==(r:Int))=false:=beq_eq_false_iff_ne.2 f;simp only[q0,o,t1,K2 (i:=j) O'];unfold a0T;rw[t1]
  simp_all[j0s,r0u,v06]
 simp_all[i01]
set_option maxHeartbeats 2000000 in
theorem F0b (K:Y2 l n a b e z F)(C:C4 l n pl maps fB fD)(hw:∀x∈l,V2 x){b_:Int}(hb:J4 .u8 b_)(y0:Bool){fl:Int}{rk:J2}{r:Nat}(hr:r<n):
  f01 F l b_ (R2 (H4 pl y0) (Q3 pl y0 fB) (I4 pl y0 fD)) (C3 l l.length)
   (goG l a b pl maps y0,Q0 ((K4 (X1 l b_) (P0 a b pl y0) r).map (O2 a b pl fB fD y0)),(K4 (X1 l b_) (P0 a b pl y0) r).map (D4 a b pl fB fD y0),(r:Int),(fl,Q0 (K4 (X1 l b_) (P0 a b pl y0) r),(K4 (X1 l b_) (P0 a b pl y0) r).map (stM l a b pl maps fB fD y0),rk)) =
  some (.next (goG l a b pl maps y0,Q0 ((K4 (X1 l b_) (P0 a b pl y0) (r+1)).map (O2 a b pl fB fD y0)),(K4 (X1 l b_) (P0 a b pl y0) (r+1)).map (D4 a b pl fB fD y0),((r+1:Nat):Int),(fl,Q0 (K4 (X1 l b_) (P0 a b pl y0) (r+1)),(K4 (X1 l b_) (P0 a b pl y0) (r+1)).map (stM l a b pl maps fB fD y0),rk))):=by
 have f1:=K.f1;have hn:=K.T.n64;have hM:=l0o K C y0;have m:=b0d a b pl y0;obtain⟨c3,s⟩:=t05 K C y0 r;have I:=m0g (P0 a b pl y0) r (P0 a b pl y0).length;have c4:=t0m (X1 l b_) (P0 a b pl y0) r;have ht:=k7 l;have b3:=Y9 l l.length;have b4:=K.hn;have hx:(r:Int)<((C3 l l.length).length:Int):=O'
 obtain⟨q,q1,q2,q3⟩:=l0R l K.hn (x:=(r:Int)) O' O';obtain⟨_,_,s3⟩:=setOf l K.hn hw hr;have hH:hasB (gt l (gt (C3 l l.length) (r:Int))).Set b_=X1 l b_ r:=rfl;have y:=i0z C y0;have U:=F0J (F:=F) (n:=n) (Ws:=P0 a b pl y0) (all:=goG l a b pl maps y0) (by rw[z0K,m]) (fun i hi=>by grind [v0O]) (fun i hi=>⟨(h0D K C y0 i hi).1,(h0D K C y0 i hi).2.1⟩) O' f1 r;unfold f01;simp only[q0,hx,q3,R0 (l:=l) (i:=gt (C3 l l.length) (r:Int)) O' O',(r06 F s3 hb).1,hH,u0g,K2 (i:=r) O',U];cases hP:X1 l b_ r with
 |false=>simp
 |true=>
  simp only[q0,Bool.true_and];have h:=t0i (F:=F) (n:=H4 pl y0) (fB:=Q3 pl y0 fB) (fD:=I4 pl y0 fD) (fr:=U3 (P0 a b pl y0) r (P0 a b pl y0).length) (hops:=J5 (P0 a b pl y0) r (P0 a b pl y0).length) O' O' y I O' s
  by_cases j:U3 (P0 a b pl y0) r (P0 a b pl y0).length=[]
  ·have b1:e0u F (R2 (H4 pl y0) (Q3 pl y0 fB) (I4 pl y0 fD)) (Q0 (U3 (P0 a b pl y0) r (P0 a b pl y0).length)) (J5 (P0 a b pl y0) r (P0 a b pl y0).length)=some (-1):=by
    grind [s0F]
   grind
  ·obtain⟨k1,k2⟩:=n0y (fB:=Q3 pl y0 fB) (fD:=I4 pl y0 fD) j;have R:(U3 (P0 a b pl y0) r (P0 a b pl y0).length).isEmpty=false:=by simpa using j
   rw[k1]at h;have k3:¬((L9 (Q3 pl y0 fB) (I4 pl y0 fD) (P0 a b pl y0) r:Nat):Int)<0:=O'
   have p:O2 a b pl fB fD y0 r<H4 pl y0:=by rw[<-m];exact c0F j
   obtain⟨v1,v2⟩:=m0i (v0U C y0) (u0u C y0) p;obtain⟨p1,p2⟩:=y0f K C (b_:=b_) (y0:=y0) j;have f:(((U3 (P0 a b pl y0) r (P0 a b pl y0).length).getD (L9 (Q3 pl y0 fB) (I4 pl y0 fD) (P0 a b pl y0) r) 0:Nat):Int)=(O2 a b pl fB fD y0 r:Int):=rfl;have g:C0 (goG l a b pl maps y0) (O2 a b pl fB fD y0 r:Int)=true:=R0 O' (by rw[z0K];omega);have d:(gt (goG l a b pl maps y0) (O2 a b pl fB fD y0 r:Int)).tags=gt (a0J l maps y0) (O2 a b pl fB fD y0 r:Int):=by rw[v0O C p]
   have c:gt (J5 (P0 a b pl y0) r (P0 a b pl y0).length) ((L9 (Q3 pl y0 fB) (I4 pl y0 fD) (P0 a b pl y0) r:Nat):Int)=D4 a b pl fB fD y0 r:=u0e j;have o:C0 (J5 (P0 a b pl y0) r (P0 a b pl y0).length) ((L9 (Q3 pl y0 fB) (I4 pl y0 fD) (P0 a b pl y0) r:Nat):Int)=true:=R0 O' O';have a1:J0 8 (Q0 (K4 (X1 l b_) (P0 a b pl y0) r)) [(r:Int)]=true:=by simp[J0];omega
   have u:J0 24 ((K4 (X1 l b_) (P0 a b pl y0) r).map (stM l a b pl maps fB fD y0)) [stM l a b pl maps fB fD y0 r]=true:=by simp[J0];omega
   have J:J0 8 (Q0 ((K4 (X1 l b_) (P0 a b pl y0) r).map (O2 a b pl fB fD y0))) [(O2 a b pl fB fD y0 r:Int)]=true:=by simp[J0];omega
   have v:J0 40 ((K4 (X1 l b_) (P0 a b pl y0) r).map (D4 a b pl fB fD y0)) [D4 a b pl fB fD y0 r]=true:=by simp[J0];omega
   have b2:=f0u l (D4 a b pl fB fD y0 r).Steps;have t:=g09 K.hR p1 K.f1 (F3.sok p2);have k:=h0j (F:=F) (marks:=L5 l (D4 a b pl fB fD y0 r).Steps) (now:=-1) (none_:=-2) (show(gt (a0J l maps y0) (O2 a b pl fB fD y0 r:Int)).length<=1000 from O') O';have w:Y3 (-1) (-2) (gt (a0J l maps y0) (O2 a b pl fB fD y0 r:Int)) (L5 l (D4 a b pl fB fD y0 r).Steps)=stM l a b pl maps fB fD y0 r:=rfl;rw[w]at k;simp only[q0,h,k3,a1,v7 k2,L8 k2,f,g,d,o,c,t,k,u,J,v,R,c0B,map_append,map_cons,map_nil]
def K0V (K:Y2 l n a b e z F)(C:C4 l n pl maps fB fD)(hw:∀x∈l,V2 x){b_:Int}(d:J4 .u8 b_)(y0:Bool)(fl:Int)(rk:J2):
  iter (f01 F l b_ (R2 (H4 pl y0) (Q3 pl y0 fB) (I4 pl y0 fD)) (C3 l l.length)) F (goG l a b pl maps y0,[],[],0,(fl,[],[],rk)) =
   some (Q0 ((Q1 l n a b pl b_ y0).map (O2 a b pl fB fD y0)),(Q1 l n a b pl b_ y0).map (D4 a b pl fB fD y0),(fl,Q0 (Q1 l n a b pl b_ y0),(Q1 l n a b pl b_ y0).map (stM l a b pl maps fB fD y0),rk)):=by
 have f1:=K.f1;have hn:=K.T.n64;have f:=Y9 l l.length;have c:=K.hn;have:=V3 (step:=f01 F l b_ (R2 (H4 pl y0) (Q3 pl y0 fB) (I4 pl y0 fD)) (C3 l l.length))
  (fun r=>(goG l a b pl maps y0,Q0 ((K4 (X1 l b_) (P0 a b pl y0) r).map (O2 a b pl fB fD y0)),(K4 (X1 l b_) (P0 a b pl y0) r).map (D4 a b pl fB fD y0),(r:Int),(fl,Q0 (K4 (X1 l b_) (P0 a b pl y0) r),(K4 (X1 l b_) (P0 a b pl y0) r).map (stM l a b pl maps fB fD y0),rk)))
  (Q0 ((Q1 l n a b pl b_ y0).map (O2 a b pl fB fD y0)),(Q1 l n a b pl b_ y0).map (D4 a b pl fB fD y0),(fl,Q0 (Q1 l n a b pl b_ y0),(Q1 l n a b pl b_ y0).map (stM l a b pl maps fB fD y0),rk)) n
  (fun r g=>.inl (F0b K C hw d y0 g)) ?_ n 0 F O' O'
 ·exact this
 ·unfold f01;have h1:¬((n:Int)<((C3 l l.length).length:Int)):=O'
  simp only[q0,h1];rfl
end
def i0A (fB fD:Nat->Nat->Int)(c x:Nat):Bool:=x==c||(decide (fB x c>0)||decide (fD c x<0))
def C9 (fB fD:Nat->Nat->Int)(c k:Nat):List Nat:=(List.range k).filter (i0A fB fD c)
def L07 (fB fD:Nat->Nat->Int)(c k:Nat):C9 fB fD c (k+1)=if i0A fB fD c k=true then C9 fB fD c k++[k]else C9 fB fD c k:=by
 unfold C9;rw[range_succ,List.filter_append]
 by_cases h:i0A fB fD c k=true
 ·rw[if_pos h];simp only[List.filter_cons,h,if_true,List.filter_nil]
 ·rw[if_neg h];simp only[List.filter_cons,h,if_false,List.filter_nil,append_nil,false_eq_true]
def y0N (fB fD:Nat->Nat->Int)(c k:Nat):(C9 fB fD c k).length<=k:=Nat.le_trans (List.length_filter_le _ _) V'
def r0q {fB fD:Nat->Nat->Int}{c k i:Nat}(h:i∈C9 fB fD c k):i<k:=List.mem_range.1 (List.mem_filter.1 h).1
def A0s (fB fD:Nat->Nat->Int)(c k:Nat):(C9 fB fD c k).Pairwise fun a b=>a<b:=List.Pairwise.filter _ List.pairwise_lt_range
section
variable {F:Nat}
def u0m {x:List Int}{of:List Nat}(h:∀i∈of,i<x.length)(hl:of.length<=1000)(d:2000<F):g0g F x (Q0 of)=some (of.map fun i:Nat=>gt x (i:Int)):=by
 unfold g0g;rw[R9];have:=V3 (step:=n0a F x (Q0 of)) (fun i=>((of.take i).map fun i:Nat=>gt x (i:Int),(i:Int))) (of.map fun i:Nat=>gt x (i:Int)) of.length (fun i hi=>.inl ?_) ?_ of.length 0 F O' O'
 ·exact this
 ·unfold n0a;have h1:(i:Int)<((Q0 of).length:Int):=by simp;omega
  have f:=h of[i] (getElem_mem hi);have c:J0 8 ((of.take i).map fun i:Nat=>gt x (i:Int)) [gt x ((of[i]:Nat):Int)]=true:=by simp[J0];omega
  simp only[h1,decide_true,if_true,v7 hi,f0h hi,R0 (l:=x) (i:=((of[i]:Nat):Int)) O' O',c,h0h hi,map_append,map_cons,map_nil,K2 (i:=i) O']
 ·unfold n0a;have h1:¬((of.length:Int)<((Q0 of).length:Int)):=V'
  simp only[q0,h1,List.take_length]
def A02 {x:List (List Int)}{of:List Nat}(h:∀i∈of,i<x.length)(hl:of.length<=1000)(d:2000<F):n0F F x (Q0 of)=some (of.map fun i:Nat=>gt x (i:Int)):=by
 unfold n0F;rw[R9];have:=V3 (step:=l04 F x (Q0 of)) (fun i=>((of.take i).map fun i:Nat=>gt x (i:Int),(i:Int))) (of.map fun i:Nat=>gt x (i:Int)) of.length (fun i hi=>.inl ?_) ?_ of.length 0 F O' O'
 ·exact this
 ·unfold l04;have h1:(i:Int)<((Q0 of).length:Int):=by simp;omega
  have f:=h of[i] (getElem_mem hi);have c:J0 24 ((of.take i).map fun i:Nat=>gt x (i:Int)) [gt x ((of[i]:Nat):Int)]=true:=by simp[J0];omega
  simp only[h1,decide_true,if_true,v7 hi,f0h hi,R0 (l:=x) (i:=((of[i]:Nat):Int)) O' O',c,h0h hi,map_append,map_cons,map_nil,K2 (i:=i) O']
 ·unfold l04;have h1:¬((of.length:Int)<((Q0 of).length:Int)):=V'
  simp only[q0,h1,List.take_length]
def D07 {x:List (List Int)}{of:List Nat}(h:∀i∈of,i<x.length)(hl:of.length<=1000)(ha:of.Pairwise fun a b=>a<b):g0S F x (Q0 of)=some (of.map fun i:Nat=>gt x (i:Int)):=by
 unfold g0S;have h1:a0H (fun i=>i) (Q0 of)=true:=by
  rw[g0f];unfold Q0;rw[List.pairwise_map];exact ha.imp fun g=>O'
 have d:(Q0 of).all (fun i=>C0 x i)=true:=by
  rw[List.all_eq_true];intro i hi;obtain⟨k,hk,rfl⟩:=List.mem_map.1 hi;exact R0 O' (by have:=h k hk;omega)
 have c:((Q0 of).map fun i=>gt x i)=of.map fun i:Nat=>gt x (i:Int):=by simp[Q0]
 have f:J0 24 ([]:List (List Int)) (of.map fun i:Nat=>gt x (i:Int))=true:=by simp[J0];omega
 simp only[h1,d,c,f,Bool.and_self,if_true]
def A0H {m:Nat}{st:List Nat}(h:∀i∈st,i<m)(hl:st.length<=1000)(c:2000<F)(g:Nat->Int):g0g F (L3 m g) (Q0 st)=some (L3 st.length fun k=>g (st.getD k 0)):=by
 rw[u0m (by simpa using h) hl c];congr 1;refine List.ext_getElem V' fun j h1 f=>?_;simp only[length_map]at h1;have d:=h st[j] (getElem_mem h1);simp only[List.getElem_map,b06 g d];simp[L3,List.getD,h1]
def H0j {m:Nat}{st:List Nat}(h:∀i∈st,i<m)(hl:st.length<=1000)(g:2000<F)(f:Nat->Nat->Int):k0j F (N2 m m f) (Q0 st)=some (N2 st.length st.length (fun i k=>f (st.getD i 0) (st.getD k 0))):=by
 unfold k0j;rw[A02 (by simpa using h) hl g];simp only[F0,R9];have hg:∀i,i<st.length->gt (st.map fun i:Nat=>gt (N2 m m f) (i:Int)) (i:Int)=L3 m (f (st.getD i 0)):=fun i hi=>by
  have j:=h st[i] (getElem_mem hi);rw[P2 (x:=gt (N2 m m f) ((st[i]:Nat):Int)) (by simp[hi]),R8 f j];simp[List.getD,hi]
 have:=V3 (step:=n0k F (Q0 st) (st.map fun i:Nat=>gt (N2 m m f) (i:Int))) (fun i=>((List.range i).map (fun i=>L3 st.length fun k=>f (st.getD i 0) (st.getD k 0)),(i:Int))) (N2 st.length st.length (fun i k=>f (st.getD i 0) (st.getD k 0))) st.length (fun i hi=>.inl ?_) ?_ st.length 0 F O' O'
 ·exact this
 ·unfold n0k;have h1:(i:Int)<((st.map fun i:Nat=>gt (N2 m m f) (i:Int)).length:Int):=by simp;omega
  have c:C0 (st.map fun i:Nat=>gt (N2 m m f) (i:Int)) (i:Int)=true:=R0 O' h1;have d:J0 24 ((List.range i).map (fun i=>L3 st.length fun k=>f (st.getD i 0) (st.getD k 0))) [L3 st.length fun k=>f (st.getD i 0) (st.getD k 0)]=true:=by simp[J0];omega
  simp only[q0,h1,c,hg i hi,A0H h hl g,d,range_succ,map_append,map_cons,map_nil,K2 (i:=i) O']
 ·unfold n0k;have h1:¬((st.length:Int)<((st.map fun i:Nat=>gt (N2 m m f) (i:Int)).length:Int)):=V'
  simp only[q0,h1];rfl
end
section
variable {F:Nat}{l:List D0}{n:Nat}{a:List B0}{b:Nat->List B0}{e:Nat->B0×Bool}{z:B0×Bool}{pl:List Nat}{maps:List (List Int)}{fB fD:Nat->Nat->Int}{flag:Int}
def w0A (K:Y2 l n a b e z F)(C:C4 l n pl maps fB fD):g03 F l (K8 flag pl maps fB fD)=some (l7 fD (B5 e pl pl.length)):=by
 have f1:=K.f1;have hm:=C.le;have hn:=K.T.n64;unfold g03;have:=V3 (step:=h09 F l (K8 flag pl maps fB fD)) (fun i=>(Q0 (B5 e pl i),(i:Int))) (Q0 (B5 e pl pl.length)) pl.length (fun i hi=>.inl ?_) ?_ pl.length 0 F O' O'
 ·have c:iter (h09 F l (K8 flag pl maps fB fD)) F ([],0)=_:=this;rw[c];simp only[F0,K8];rw[y0R O' O' C.rk _ (by have:=m02 e pl pl.length;omega) (fun i h=>c0c h)];rfl
 ·unfold h09;have h1:(i:Int)<((Q0 pl).length:Int):=by simp;omega
  have hp:=T7 C.pln hi;have d:J0 8 (Q0 (B5 e pl i)) [(i:Int)]=true:=by have:=m02 e pl i;simp[J0];omega
  simp only[q0,K8,h1,v7 hi,L8 hi,K.TF.mE _ hp,d,K2 (i:=i) O',v0L]
  by_cases c:(e (pl.getD i 0)).2=true
  ·simp only[c,if_true,F0,c0B]
  ·have c:(e (pl.getD i 0)).2=false:=by simpa using c
   simp only[q0,c]
 ·unfold h09;have h1:¬((pl.length:Int)<((Q0 pl).length:Int)):=V'
  simp only[q0,K8,h1]
structure Kd where
 flag:Int
 pl:List Nat
 maps:List (List Int)
 fB:Nat->Nat->Int
 fD:Nat->Nat->Int
def Kd.K (k:Kd):Y1:=K8 k.flag k.pl k.maps k.fB k.fD
def Kd.T (k:Kd):Int×List Int×List (List Int)×J2:=(k.flag,Q0 k.pl,k.maps,R2 k.pl.length k.fB k.fD)
def Kd.of (k:Kd)(fl:Int)(st:List Nat):Kd:=⟨fl,st.map fun i=>k.pl.getD i 0,st.map fun i:Nat=>gt k.maps (i:Int),fun i j=>k.fB (st.getD i 0) (st.getD j 0),fun i j=>k.fD (st.getD i 0) (st.getD j 0)⟩
def Kd.cut (e:Nat->B0×Bool)(k:Kd):Kd:=
 if l7 k.fD (B5 e k.pl k.pl.length)<0 then k else k.of 0 (C9 k.fB k.fD (l7 k.fD (B5 e k.pl k.pl.length)).toNat k.pl.length)
def L0K (K:Y2 l n a b e z F){k:Kd}(C:C4 l n k.pl k.maps k.fB k.fD):l0V F l k.T=some (k.cut e).T:=by
 have f1:=K.f1;have hm:=C.le;have hn:=K.T.n64;unfold l0V Kd.T;have m:=w0A (flag:=k.flag) K C;unfold K8 at m;simp only[m,F0];unfold Kd.cut;rcases e0w (fD:=k.fD) (B5 e k.pl k.pl.length) (n:=k.pl.length) (fun i h=>c0c h)with hb|⟨q,hb,hq⟩
 ·rw[hb];rfl
 ·have p:¬((q:Int)<0):=O'
  rw[hb];simp only[q0,p,Int.toNat_natCast];have c:∀i∈C9 k.fB k.fD q k.pl.length,i<k.pl.length:=fun i h=>r0q h;have f:(C9 k.fB k.fD q k.pl.length).length<=1000:=by have:=y0N k.fB k.fD q k.pl.length;omega
  have g:=A0s k.fB k.fD q k.pl.length;have d:iter (i0G F (Q0 k.pl) (R2 k.pl.length k.fB k.fD) (q:Int)) F ([],0)=some (Q0 (C9 k.fB k.fD q k.pl.length)):=by
   have:=V3 (step:=i0G F (Q0 k.pl) (R2 k.pl.length k.fB k.fD) (q:Int)) (fun i=>(Q0 (C9 k.fB k.fD q i),(i:Int))) (Q0 (C9 k.fB k.fD q k.pl.length)) k.pl.length (fun i hi=>.inl ?_) ?_ k.pl.length 0 F O' O'
   ·exact this
   ·unfold i0G;have h1:(i:Int)<((Q0 k.pl).length:Int):=by simp;omega
    have o:J0 8 (Q0 (C9 k.fB k.fD q i)) [(i:Int)]=true:=by have:=y0N k.fB k.fD q i;simp[J0];omega
    have heq:((i:Int)==(q:Int))=(i==q):=by rw[Bool.eq_iff_iff];simp only[beq_iff_eq];omega
    simp only[h1,decide_true,if_true,R2,p9 _ hi,p9 _ hq,R8 _ hi,R8 _ hq,a0G _ hi,a0G _ hq,b06 _ hi,b06 _ hq,heq,o,L07,K2 (i:=i) O'];unfold i0A;cases c1:i==q
    ·cases c2:decide (k.fB i q>0)
     ·cases c3:decide (k.fD q i<0)
      ·simp only[q0,Bool.or_self]
      ·simp only[q0,Bool.or_true,c0B]
     ·simp only[q0,Bool.true_or,Bool.or_true,c0B]
    ·simp only[if_true,F0,Bool.true_or,c0B]
   ·unfold i0G;have h1:¬((k.pl.length:Int)<((Q0 k.pl).length:Int)):=V'
    simp only[q0,h1]
  rw[d];generalize C9 k.fB k.fD q k.pl.length=st at *;simp only[F0,u0m (x:=Q0 k.pl) (of:=st) (F:=F) (by simpa using c) f O',D07 (F:=F) (x:=k.maps) (of:=st) (by rw[C.len];exact c) f g,R2,H0j c f (show 2000<F from O')];unfold Kd.of;have he:(st.map fun i:Nat=>gt (Q0 k.pl) (i:Int))=Q0 (st.map fun i=>k.pl.getD i 0):=by
   refine List.ext_getElem V' fun j h1 r=>?_;simp only[length_map]at h1;have:=L8 (c st[j] (getElem_mem h1));simp only[Q0,List.getElem_map]at this ⊢;exact this
  simp only[length_map,he]
theorem d0T {k:Kd}(C:C4 l n k.pl k.maps k.fB k.fD):C4 l n (k.cut e).pl (k.cut e).maps (k.cut e).fB (k.cut e).fD:=by
 unfold Kd.cut;split
 ·exact C
 ·exact o0X C (A0s _ _ _ _) (fun i h=>r0q h)
end
