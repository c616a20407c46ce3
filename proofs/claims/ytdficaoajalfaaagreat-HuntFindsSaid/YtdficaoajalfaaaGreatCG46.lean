/- P. Its conditions: none. -/
import Derived.Test.YtdficaoajalfaaaGreatCG45
import Derived.Test.YtdficaoajalfaaaGreatCMd
import Derived.Test.YtdficaoajalfaaaGreatCX15
open Bool (false_eq_true)
open List (append_nil map_cons map_nil any_cons any_eq_false mem_range)
set_option linter.all false
namespace Go.Proofs.YtdficaoajalfaaaGreat
open Go.V Go.RowKit Old Go.X
def H0Y {α:Type}{p:α->Bool}:∀(l:List α) (i:Nat) (x:α),l[i]?=some x->p x=true->(∀j y,j<i->l[j]?=some y->p y=false)->l.find? p=some x
 |[],i,x,h,_,_=>by simp at h
 |y :: r,0,x,h,hp,_=>by simp at h;subst h;simp[hp]
 |y :: r,i+1,x,h,hp,hn=>by
  have c:=hn 0 y O' Z9;simp only[List.find?_cons,c];exact H0Y r i x (by simpa using h) hp (fun j z f d=>hn (j+1) z O' (by simpa using d))
section
variable {F:Nat}{l:List C0}{n:Nat}{a:List y0}{b:Nat->List y0}{e:Nat->y0×Bool}{z:y0×Bool}{at_ work:Int}{pl:List Nat}{vals:List (List Int)}{fB fD:Nat->Nat->Int}
def J0Q {ws:List y0}(hl:ws.length<=1000000)(C:2000001<F)(r:Nat):G0J F ws (r:Int)=some (l7 ws r,(J5 ws r).isSome):=by
 unfold G0J;have key:∀k i,i+k=ws.length->(∀j y,j<i->ws[j]?=some y->(y.To==(r:Int))=false)->∀m,k<m->
   iter (o05 F ws (r:Int)) m (i:Int)=some (match J5 ws r with|some y=>.inl y|none=>.inr ()):=by
  intro k
  induction k with
  |zero=>
   intro i hi h m hm;obtain⟨m,rfl⟩:∃q,m=q+1:=⟨m-1,O'⟩
   have f:J5 ws r=none:=by
    unfold J5;rw[List.find?_eq_none];intro x u;obtain⟨j,t,he⟩:=List.mem_iff_getElem.1 u;have:=h j x O' (by rw[List.getElem?_eq_getElem t,he]);simp[this]
   refine a0o ?_;unfold o05;have h1:¬((i:Int)<(ws.length:Int)):=O'
   simp only[q0,h1,f]
  |succ k ih=>
   intro i hi h m hm;obtain⟨m,rfl⟩:∃q,m=q+1:=⟨m-1,O'⟩
   have g:i<ws.length:=O'
   have h1:(i:Int)<(ws.length:Int):=O'
   have o:B0 ws (i:Int)=true:=R0 O' h1;cases p:((gt ws (i:Int)).To==(r:Int))with
   |true=>
    have d:J5 ws r=some (gt ws (i:Int)):=H0Y ws i _ (u6 g) p h;refine a0o ?_;unfold o05;simp only[h1,decide_true,if_true,o,p,d]
   |false=>
    have hn:=ih (i+1) O' (fun j y w s=>by
     rcases Nat.lt_or_ge j i with c|c
     ·exact h j y c s
     ·obtain rfl:j=i:=O'
      rw[u6 g]at s;cases s;exact p) m O'
    rw[<-hn];refine e0m ?_;unfold o05;simp only[q0,h1,o,p,G3 (i:=i) O']
 have v:iter (o05 F ws (r:Int)) F 0=_:=key ws.length 0 O' (by intro j y h;omega) F O';rw[v];unfold l7;cases J5 ws r<;>rfl
def M0e {c:List (List y0)}(o:∀i,i<c.length->(c.getD i []).length<=500000)(q:c.length<=1000)(k:2000001<F)(r:Nat)(f:List Int)(d:List y0):
  iter (s0r F c (r:Int)) F ([],[],0,f,d)=some (J2 (N1 c r c.length),n5 c r c.length,f,d):=by
 have:=R4 (step:=s0r F c (r:Int)) (fun i=>(J2 (N1 c r i),n5 c r i,(i:Int),f,d)) (J2 (N1 c r c.length),n5 c r c.length,f,d) c.length (fun i hi=>.inl ?_) ?_ c.length 0 F O' O'
 ·exact this
 ·have h1:(i:Int)<(c.length:Int):=O'
  have hg:gt c (i:Int)=c.getD i []:=by
   refine B4 ?_;simp[List.getD,hi]
  have j:=n0s c r i;have m:=n0a c r i;have h:I0 8 (J2 (N1 c r i)) [(i:Int)]=true:=by simp[I0];omega
  have g:I0 40 (n5 c r i) [l7 (c.getD i []) r]=true:=by simp[I0];omega
  unfold s0r;simp only[h1,decide_true,if_true,R0 (l:=c) (i:=(i:Int)) O' h1,hg,J0Q (show(c.getD i []).length<=1000000 by have:=o i hi;omega) k,G0,t00,E0o,G3 (i:=i) O'];cases p:(J5 (c.getD i []) r).isSome with
  |false=>simp only[q0,append_nil]
  |true=>simp only[if_true,h,g,G0,o0h]
 ·unfold s0r;have h1:¬((c.length:Int)<(c.length:Int)):=O'
  simp only[q0,h1]
abbrev xT (l:List C0)(n:Nat)(a:List y0)(b:Nat->List y0)(e:Nat->y0×Bool)(at_ work:Int)(places:List Int)(tags:List (List Int))(rank:T3):(List C0)×(List Int)×(List y0)×(List (List y0))×(List (List Int))×Int×Int×(List Int)×(List (List Int))×T3:=
 (l,L2 l l.length,a,(List.range n).map b,(List.range n).map fun p=>(e p).1.Steps,at_,work,places,tags,rank)
set_option maxHeartbeats 2000000 in
def J0M (K:H5 l n a b e z F)(C:F6 l n pl vals fB fD)(hw:∀x∈l,o3 x){b_:Int}(hb:Z5 .u8 b_)(beg:Bool)(c4:0<=work)(c6:work<=1000000000000){r:Nat}(hr:r<n)(rk:T3):
  i0y F (R2 l n a b e at_ work pl vals fB fD) b_ (E9 l at_ vals beg) (F0 a b pl beg) (D3 (A5 pl beg) (Y2 pl beg fB) (j4 pl beg fD))
   (J2 ((X5 (Z2 l b_) (F0 a b pl beg) r).map (F4 a b pl fB fD beg)),(X5 (Z2 l b_) (F0 a b pl beg) r).map (K4 a b pl fB fD beg),(r:Int),xT l n a b e at_ (work+(Q7 (Z2 l b_) (F0 a b pl beg) r:Int)) (J2 (X5 (Z2 l b_) (F0 a b pl beg) r)) ((X5 (Z2 l b_) (F0 a b pl beg) r).map (stV l a b at_ pl vals fB fD beg)) rk) =
  some (.next (J2 ((X5 (Z2 l b_) (F0 a b pl beg) (r+1)).map (F4 a b pl fB fD beg)),(X5 (Z2 l b_) (F0 a b pl beg) (r+1)).map (K4 a b pl fB fD beg),((r+1:Nat):Int),xT l n a b e at_ (work+(Q7 (Z2 l b_) (F0 a b pl beg) (r+1):Int)) (J2 (X5 (Z2 l b_) (F0 a b pl beg) (r+1))) ((X5 (Z2 l b_) (F0 a b pl beg) (r+1)).map (stV l a b at_ pl vals fB fD beg)) rk)):=by
 have f1:=K.f1;have f3:=K.f3;have hn:=K.T.n64;have hM:=t0m K C beg;have u:=b0b a b pl beg;obtain⟨c0,w⟩:=D0R K C beg r;have I:=n0a (F0 a b pl beg) r (F0 a b pl beg).length;have c8:=t0k (Z2 l b_) (F0 a b pl beg) r;have b5:=n0M (Z2 l b_) (F0 a b pl beg) r;have b3:r*(F0 a b pl beg).length<=400*401:=Nat.mul_le_mul O' O';have ht:=f0m l;have c3:=I9 l l.length;have c5:=K.hn;have hx:(r:Int)<((L2 l l.length).length:Int):=O'
 obtain⟨q,q1,q2,q3⟩:=n0J l K.hn (x:=(r:Int)) O' O';obtain⟨_,_,s3⟩:=setOf l K.hn hw hr;have hH:hasB (gt l (gt (L2 l l.length) (r:Int))).Set b_=Z2 l b_ r:=rfl;have R:=g03 C beg;have a1:∀o m,iter (s0r F (F0 a b pl beg) (r:Int)) F ([],[],0,o,m)=some (J2 (N1 (F0 a b pl beg) r (F0 a b pl beg).length),n5 (F0 a b pl beg) r (F0 a b pl beg).length,o,m):=fun o m=>M0e (fun i hi=>(g0i K C beg i hi).2.1) O' f1 r o m;unfold i0y;simp only[q0,R2,y0L,hx,q3,R0 (l:=l) (i:=gt (L2 l l.length) (r:Int)) O' O',(p0t F s3 hb).2,hH,B0k,Q7,G3 (i:=r) O',a1];cases hP:Z2 l b_ r with
 |false=>simp only[q0,Bool.false_and,append_nil,Nat.add_zero]
 |true=>
  simp only[q0,Bool.true_and];have s:W (work+(Q7 (Z2 l b_) (F0 a b pl beg) r:Int)+(((J2 (N1 (F0 a b pl beg) r (F0 a b pl beg).length)).length:Nat):Int))=work+((Q7 (Z2 l b_) (F0 a b pl beg) r+(N1 (F0 a b pl beg) r (F0 a b pl beg).length).length:Nat):Int):=by rw[n3 Z' Z'];simp;omega
  simp only[s];have d:=L09 (F:=F) (n:=A5 pl beg) (fB:=Y2 pl beg fB) (fD:=j4 pl beg fD) (fr:=N1 (F0 a b pl beg) r (F0 a b pl beg).length) (hops:=n5 (F0 a b pl beg) r (F0 a b pl beg).length) O' O' R I O' w
  by_cases c:N1 (F0 a b pl beg) r (F0 a b pl beg).length=[]
  ·have f:B0D F (D3 (A5 pl beg) (Y2 pl beg fB) (j4 pl beg fD)) (J2 (N1 (F0 a b pl beg) r (F0 a b pl beg).length)) (n5 (F0 a b pl beg) r (F0 a b pl beg).length)=some (-1):=by
    rw[d,c,s0j]
   simp only[f,G0,show decide ((-1:Int)<0)=true from rfl,if_true];simp only[q0,c,List.isEmpty_nil,append_nil]
  ·obtain⟨k1,k2⟩:=i09 (fB:=Y2 pl beg fB) (fD:=j4 pl beg fD) c;have b2:(N1 (F0 a b pl beg) r (F0 a b pl beg).length).isEmpty=false:=by simpa using c
   rw[k1]at d;have k3:¬((a0K (Y2 pl beg fB) (j4 pl beg fD) (F0 a b pl beg) r:Nat):Int)<0:=O'
   have y:F4 a b pl fB fD beg r<A5 pl beg:=by rw[<-u];exact g0V c
   obtain⟨v1,v2⟩:=r0W (u0H (at_:=at_) C beg) (r0P C beg) y;obtain⟨p1,p2⟩:=F0r K C (b_:=b_) (beg:=beg) c;have k:(((N1 (F0 a b pl beg) r (F0 a b pl beg).length).getD (a0K (Y2 pl beg fB) (j4 pl beg fD) (F0 a b pl beg) r) 0:Nat):Int)=(F4 a b pl fB fD beg r:Int):=rfl;have j:gt (n5 (F0 a b pl beg) r (F0 a b pl beg).length) ((a0K (Y2 pl beg fB) (j4 pl beg fD) (F0 a b pl beg) r:Nat):Int)=K4 a b pl fB fD beg r:=A0B c;have h:B0 (n5 (F0 a b pl beg) r (F0 a b pl beg).length) ((a0K (Y2 pl beg fB) (j4 pl beg fD) (F0 a b pl beg) r:Nat):Int)=true:=R0 O' O';have J:I0 8 (J2 (X5 (Z2 l b_) (F0 a b pl beg) r)) [(r:Int)]=true:=by simp[I0];omega
   have t:I0 24 ((X5 (Z2 l b_) (F0 a b pl beg) r).map (stV l a b at_ pl vals fB fD beg)) [stV l a b at_ pl vals fB fD beg r]=true:=by simp[I0];omega
   have U:I0 8 (J2 ((X5 (Z2 l b_) (F0 a b pl beg) r).map (F4 a b pl fB fD beg))) [(F4 a b pl fB fD beg r:Int)]=true:=by simp[I0];omega
   have b1:I0 40 ((X5 (Z2 l b_) (F0 a b pl beg) r).map (K4 a b pl fB fD beg)) [K4 a b pl fB fD beg r]=true:=by simp[I0];omega
   have b4:=i0I l (K4 a b pl fB fD beg r).Steps;have p:=H0k K.hR K.hl p1 K.f1 K.f2 (P2.sok p2);have g:=H0e (F:=F) (marks:=N4 l (K4 a b pl fB fD beg r).Steps) (now:=at_) (none_:=-1) (show(gt (E9 l at_ vals beg) (F4 a b pl fB fD beg r:Int)).length<=1000 from O') O' O';have v:S6 at_ (-1) (gt (E9 l at_ vals beg) (F4 a b pl fB fD beg r:Int)) (N4 l (K4 a b pl fB fD beg r).Steps)=stV l a b at_ pl vals fB fD beg r:=rfl;rw[v]at g;simp only[q0,d,k3,J,a0h k2,a0G k2,k,v2,h,j,p,g,t,U,b1,b2,o0h,List.map_append,map_cons,map_nil]
set_option maxHeartbeats 2000000 in
def J0F (K:H5 l n a b e z F)(C:F6 l n pl vals fB fD)(hw:∀x∈l,o3 x){b_:Int}(h:Z5 .u8 b_)(beg:Bool)(b1:0<=at_)(J:at_<=1000000)(v:0<=work)(w:work<=1000000000000):
  F01 F (R2 l n a b e at_ work pl vals fB fD) b_ beg=some (R2 l n a b e (at_+1) (work+stW l n a b pl b_ beg) (F1 l n a b pl b_ beg) ((F1 l n a b pl b_ beg).map (stV l a b at_ pl vals fB fD beg))
   (P5 l (Y2 pl beg fB) ((F1 l n a b pl b_ beg).map (F4 a b pl fB fD beg)) ((F1 l n a b pl b_ beg).map (K4 a b pl fB fD beg))) (N6 l (Y2 pl beg fB) (j4 pl beg fD) ((F1 l n a b pl b_ beg).map (F4 a b pl fB fD beg)) ((F1 l n a b pl b_ beg).map (K4 a b pl fB fD beg)))):=by
 have f1:=K.f1;have hm:=C.le;have hn:=K.T.n64;have b2:=C.len;have hM:=t0m K C beg;have a1:=b0b a b pl beg;have g:=t09 K C b_ beg;have b3:=I9 l l.length;have b4:=K.hn;have y:=R4 (step:=F09 F (R2 l n a b e at_ work pl vals fB fD)) (fun i=>((pl.take i).map b,(i:Int))) (pl.map b) pl.length (fun i hi=>.inl ?_) ?_ pl.length 0 F O' O'
 ·have e3:iter (F09 F (R2 l n a b e at_ work pl vals fB fD)) F ([],0)=_:=y;have c:=R4 (step:=i0y F (R2 l n a b e at_ work pl vals fB fD) b_ (E9 l at_ vals beg) (F0 a b pl beg) (D3 (A5 pl beg) (Y2 pl beg fB) (j4 pl beg fD)))
   (fun r=>(J2 ((X5 (Z2 l b_) (F0 a b pl beg) r).map (F4 a b pl fB fD beg)),(X5 (Z2 l b_) (F0 a b pl beg) r).map (K4 a b pl fB fD beg),(r:Int),xT l n a b e at_ (work+(Q7 (Z2 l b_) (F0 a b pl beg) r:Int)) (J2 (X5 (Z2 l b_) (F0 a b pl beg) r)) ((X5 (Z2 l b_) (F0 a b pl beg) r).map (stV l a b at_ pl vals fB fD beg)) (D3 pl.length fB fD)))
   (J2 ((F1 l n a b pl b_ beg).map (F4 a b pl fB fD beg)),(F1 l n a b pl b_ beg).map (K4 a b pl fB fD beg),xT l n a b e at_ (work+(Q7 (Z2 l b_) (F0 a b pl beg) n:Int)) (J2 (F1 l n a b pl b_ beg)) ((F1 l n a b pl b_ beg).map (stV l a b at_ pl vals fB fD beg)) (D3 pl.length fB fD)) n
   (fun r R=>.inl (J0M K C hw h beg v w R _)) ?_ n 0 F O' O'
  ·have U:work+(Q7 (Z2 l b_) (F0 a b pl beg) 0:Int)=work:=by simp[Q7]
   rw[U]at c;have h2:iter (i0y F (R2 l n a b e at_ work pl vals fB fD) b_ (E9 l at_ vals beg) (F0 a b pl beg) (D3 (A5 pl beg) (Y2 pl beg fB) (j4 pl beg fD))) F ([],[],0,(l,L2 l l.length,a,(List.range n).map b,(List.range n).map fun p=>(e p).1.Steps,at_,work,[],[],D3 pl.length fB fD))=_:=c;have f:(Option.bind (α:=((List (List Int))×(List (List y0))×T3)) (
     if beg then
      if I0 24 ([]:List (List Int)) vals then
       Option.bind (o0G F (R2 l n a b e at_ work pl vals fB fD)) fun begun=>
       if I0 24 ([]++vals) [begun]then
        if I0 24 (pl.map b) [a]then
         Option.bind (F0S F (D3 pl.length fB fD)) fun d=>
         some (([]++vals)++[begun],pl.map b++[a],d)
        else none
       else none
      else none
     else
      some (vals,pl.map b,D3 pl.length fB fD)) (fun r=>some r))=some (E9 l at_ vals beg,F0 a b pl beg,D3 (A5 pl beg) (Y2 pl beg fB) (j4 pl beg fD)):=by
    unfold E9 F0 A5 Y2 j4;cases beg with
    |false=>simp
    |true=>
     have u:I0 24 ([]:List (List Int)) vals=true:=by simp[I0];omega
     have o:I0 24 vals [O7 l at_]=true:=by simp[I0];omega
     have j:I0 24 (pl.map b) [a]=true:=by simp[I0];omega
     have h:=H0Z K (R2 l n a b e at_ work pl vals fB fD) rfl;have k:O7 l (R2 l n a b e at_ work pl vals fB fD).At=O7 l at_:=rfl;simp only[if_true,h,k,G0,u,o,j,L0w (show pl.length<=900 from O') (show 2000<F from O') C.rk,List.nil_append]
   rw[s9]at f;unfold F01;rw[c0y];have x1:(R2 l n a b e at_ work pl vals fB fD).Tags=vals:=rfl;have x2:(R2 l n a b e at_ work pl vals fB fD).Rank=D3 pl.length fB fD:=rfl;have x3:(R2 l n a b e at_ work pl vals fB fD).First=a:=rfl;have x4:(R2 l n a b e at_ work pl vals fB fD).L=l:=rfl;have x5:(R2 l n a b e at_ work pl vals fB fD).Leaves=L2 l l.length:=rfl;have x6:(R2 l n a b e at_ work pl vals fB fD).Hops=(List.range n).map b:=rfl;have x7:(R2 l n a b e at_ work pl vals fB fD).Ends=(List.range n).map fun p=>(e p).1.Steps:=rfl;have x8:(R2 l n a b e at_ work pl vals fB fD).At=at_:=rfl;have x9:(R2 l n a b e at_ work pl vals fB fD).Work=work:=rfl;simp only[G0,e3,x1,x2,x3,x4,x5,x6,x7,x8,x9,f,h2];have m:=I0Y (F:=F) hw K.hR K.hn K.hl (show 2000<F from O') K.f2 K.TF.rL (show A5 pl beg<=1000 from O') (g03 C beg) (u0q K C b_ beg);have s:=I0h K.hR K.hl (show 401<F from O') K.f2;simp only[m,G0,List.length_map,i0f,s];obtain⟨q1,q2,q3,q4,q5,q6,q7⟩:=g;rw[n3 (n:=at_+1) O' O',n3 (n:=((F1 l n a b pl b_ beg).length:Int)*l5 l) O' O',n3 (n:=((F1 l n a b pl b_ beg).length:Int)*((F1 l n a b pl b_ beg).length:Int)) O' O'];rw[n3 (n:=work+(Q7 (Z2 l b_) (F0 a b pl beg) n:Int)+((F1 l n a b pl b_ beg).length:Int)*l5 l) O' O'];rw[n3 (n:=work+(Q7 (Z2 l b_) (F0 a b pl beg) n:Int)+((F1 l n a b pl b_ beg).length:Int)*l5 l+((F1 l n a b pl b_ beg).length:Int)*((F1 l n a b pl b_ beg).length:Int)) O' O'];have q:work+(Q7 (Z2 l b_) (F0 a b pl beg) n:Int)+((F1 l n a b pl b_ beg).length:Int)*l5 l+((F1 l n a b pl b_ beg).length:Int)*((F1 l n a b pl b_ beg).length:Int)=work+stW l n a b pl b_ beg:=by unfold stW;omega
   rw[q];rfl
  ·unfold i0y;have h1:¬((n:Int)<((L2 l l.length).length:Int)):=O'
   simp only[q0,R2,y0L,h1];rfl
 ·unfold F09;have h1:(i:Int)<((J2 pl).length:Int):=by simp;omega
  have hp:=E8 C.pln hi;have t:I0 24 ((pl.take i).map b) [b (pl.getD i 0)]=true:=by simp[I0];omega
  have I:pl.take (i+1)=pl.take i++[pl.getD i 0]:=by rw[p0m hi];simp[List.getD,hi]
  simp only[R2,y0L,h1,decide_true,if_true,a0h hi,a0G hi,g0n hp,g0l hp,t,I,List.map_append,map_cons,map_nil,G3 (i:=i) O']
 ·unfold F09;have h1:¬((pl.length:Int)<((J2 pl).length:Int)):=Z9
  simp only[q0,R2,y0L,h1,List.take_length]
end
end Go.Proofs.YtdficaoajalfaaaGreat
set_option maxRecDepth 100000
noncomputable section
namespace Go.Proofs.YtdficaoajalfaaaGreat
open Go.V Go.RowKit Go.X
def n0R (F:Nat)(c:N3)(begin:Bool):Option (W8×N3):=
 Option.bind (α:=((List (List Int))×T3)) (
  (
  Option.bind (h0D F c.values) fun clone=>
  some (clone,c.rank))) fun(values,rank)=>
 Option.bind (α:=((List (List Int))×(List (List Q3))×T3)) (
  iter (f0x F c) F (0,(values,[],rank))) fun(d,roads2,rank3)=>
 Option.bind (α:=((List (List Int))×(List (List Q3))×T3)) (
  if begin then
   Option.bind (f0t F c) fun begun=>
   if I0 24 d [begun]then
    if I0 24 roads2 [c.chart.begin]then
     Option.bind (g0m F c.rank) fun g=>
     some (d++[begun],roads2++[c.chart.begin],g)
    else none
   else none
  else
   some (d,roads2,rank3)) fun(f,roads3,rank4)=>
 some ((⟨f,roads3,rank4⟩:W8),c)
def u08:f0s=n0R:=by
 funext c x1 x2;unfold f0s n0R;simp only[c0y]<;>rfl
def k08 (F:Nat)(c:N3)(b:Int)(begin:Bool):Option N3:=
 Option.bind (n0R F c begin) fun(f,b0)=>
 Option.bind (g0D F b0 f b) fun(to,b02)=>
 Option.bind (α:=((List Int)×(List (List Int))×N3×((List Int)×(List Q3)×(List y0)))) (
  iter (d0R F f to) F ([],[],0,b02,([],[],[]))) fun(d,values3,y3,(from_3,roads3,hops3))=>
 Option.bind (g0U F y3.chart.l f.rank from_3 hops3) fun g=>
 let x2:=W ((d.length:Int)*(d.length:Int))
 let x3:=W ((W ((d.length:Int)*y3.chart.tags))+x2)
 some (⟨y3.chart,W (y3.at_+1),W (y3.work+x3),d,values3,g⟩:N3)
def x0S:e0e=k08:=by
 funext c x1 x2 x3;unfold e0e k08;simp only[c0y,u08]<;>rfl
def H0s (F:Nat):(N3×(List Int)×Int×Bool)->Int->Option (N3×(List Int)×Int×Bool)
 |(Crowd,tags,to,is),b=>
 Option.bind (g0u F Crowd) fun at_=>
 Option.bind (α:=Bool) (
  if at_==0 then
   some true
  else
   some (!is)) fun x=>
 Option.bind (k08 F Crowd b x) fun b0=>
 Option.bind (g0f F b0) fun(K3,best2)=>
 if best2 then
  Option.bind (g0u F b0) fun c=>
  if B0 K3 0 then
   Option.bind (h0l F b0 (gt K3 0)) fun d=>
   some (d,K3,c,true)
  else none
 else
  some (b0,tags,to,is)
def J0k:f0U=H0s:=by
 funext c;unfold f0U H0s;simp only[c0y,x0S]<;>rfl
def H0u (F:Nat)(w:(List Int))(d:(Int×(N3×(List Int)×Int×Bool))):Option (V0 (Int×(N3×(List Int)×Int×Bool)) (N3×(List Int)×Int×Bool)):=
 match d with
 |(x,(c,f,i,h))=>
 if decide (x<(w.length:Int))then
  if B0 w x then
   Option.bind (H0s F (c,f,i,h) (gt w x)) fun(g,tags4,to4,is4)=>
   some (.next (W (x+1),(g,tags4,to4,is4)))
  else none
 else
  some (.done (c,f,i,h))
def K0M:f0f=H0u:=by
 funext c x1 x2;unfold f0f H0u;simp only[c0y,J0k]<;>rfl
def G0R (F:Nat)(l:(List C0))(w:(List Int)):Option ((List G1)×Int):=
 Option.bind (α:=((Unit⊕(N3×(List Int)×Int×Bool))×Int)) (
  Option.bind (e0B F l) fun(new,new2)=>
  match new with
  |.inl _=>
   some ((.inl ()),new2)
  |.inr (Crowd,tags,to,is)=>
   some ((.inr (Crowd,tags,to,is)),new2)) fun(h,e)=>
 match h with
 |.inl _=>
  if e != 0 then
   some ([],e)
  else
   none
 |.inr (Crowd2,tags2,to2,is2)=>
  if e != 0 then
   some ([],e)
  else
   Option.bind (α:=(N3×(List Int)×Int×Bool)) (
    iter (H0u F w) F (0,(Crowd2,tags2,to2,is2))) fun(c,tags5,to5,is5)=>
   Option.bind (F0V F (c,tags5,to5,is5)) fun((found,found2),(Crowd6,tags6,to6,is6))=>
   if !found2 then
    some ([],7)
   else
    some (found,0)
def I0C:c0H=G0R:=by
 funext c x1 x2;unfold c0H G0R;simp only[c0y,K0M]<;>rfl
def I0r (F:Nat):Option Bool:=
 Option.bind (F05 F) fun ab=>
 if !([97,98,99,97,99]:List Int).isEmpty then
  Option.bind (G0R F ab [97,98,99,97,99]) fun(search,search2)=>
  Option.bind (F05 F) fun f=>
  if !([97,98]:List Int).isEmpty then
   Option.bind (G0R F f [97,98]) fun(d,search4)=>
   Option.bind (α:=Int) (
    Option.bind (e0B F []) fun(new,new2)=>
    match new with
    |.inl _=>
     some new2
    |.inr (Crowd,tags,to,is)=>
     some new2) fun g=>
   Option.bind (α:=Bool) (
    if search2==0 then
     Option.bind (b08 F search [(⟨1,3⟩:G1),(⟨1,2⟩:G1)]) fun c=>
     some c
    else
     some false) fun x=>
   Option.bind (α:=Bool) (
    if x then
     some (search4==7)
    else
     some false) fun x2=>
   Option.bind (α:=Bool) (
    if x2 then
     some (g==11)
    else
     some false) fun x3=>
   some x3
  else none
 else none
def J0r:j0i=I0r:=by
 funext c;unfold j0i I0r;simp only[c0y,I0C]<;>rfl
end Go.Proofs.YtdficaoajalfaaaGreat
end
namespace Go.Proofs.YtdficaoajalfaaaGreat
open Go.V Go.RowKit Old Go.X
abbrev Fb:Nat:=10000000000000
def D0r {p:List C0}(h:wfD en 20 (.list (.st 0)) p):∀x∈p,o3 x:=fun x c=>by
 obtain⟨h1,f,d,i,⟨j,g⟩,_⟩:=h x c;exact⟨h1,f,d,i,j,g⟩
def z0m {p:List Int}(h:wfD en 20 (.list (.int .u8)) p):∀x∈p,Z5 .u8 x:=fun x c=>h x c
def gtm {α:Type}[Inhabited α]{l:List α}{i:Nat}(h:i<l.length):gt l (i:Int)∈l:=List.mem_of_getElem? (u6 h)
section
variable {l:List C0}
def q0X (hR:K1 l=false)(hl:l.length*64<=140737488351232)(c:l.length<=1000):c7 Fb l=some false/\B6 Fb l=some false:=by
 refine⟨B8 g0k (by rw[Old.c0Q l (show 401<Fb by unfold Fb;omega),hR]),B8 o0w (by rw[Old.e0f l hl (show l.length+1<Fb by unfold Fb;omega),hR])⟩
def w00 (hR:K1 l=false)(hl:l.length*64<=140737488351232)(c:l.length<=1000):c0T Fb l=some (.inl (),11):=by
 unfold c0T;rw[(q0X hR hl c).1];rfl
def known (hw:∀x∈l,o3 x)(hR:K1 l=true)(hl:l.length*64<=140737488351232)(c:l.length<=1000):∃a b e z,H5 l (L0 l l.length) a b e z Fb:=by
 obtain⟨a,b,e,z,T,TF⟩:=f08 hw hl hR;exact⟨a,b,e,z,hR,hl,rfl,T,by unfold Fb;omega,by unfold Fb;omega,by unfold Fb;omega,TF Fb (by unfold Fb;omega) (by unfold Fb;omega)⟩
def u0i (l:List C0)(n:Nat):F6 l n [] [] (fun _ _=>0) (fun _ _=>0) where
 len:=rfl
 pln:=by intro p h;cases h
 asc:=List.Pairwise.nil
 row:=by intro v h;cases h
 rk:=⟨fun i k h=>by simp at h,fun i h=>rfl,fun i h=>rfl,fun i k h=>by simp at h,fun i k h=>by simp at h⟩
end
def G0g:j0i Fb=some true:=by rw[J0r];kernel_rfl
def k0a {α:Type}{p q:α->Bool}:∀{l:List α},(∀x∈l,p x=q x)->l.any p=l.any q
 |[],_=>rfl
 |x :: r,h=>by rw[any_cons,any_cons,h x Z9,k0a fun y c=>h y (List.mem_cons_of_mem _ c)]
def b0X (f:Nat->Nat->Bool):Nat->Nat->Nat->Bool
 |0,i,j=>i==j
 |n+1,i,j=>i==j||(List.range (j+1)).any fun k=>decide (i<k)&&(f i k&&b0X f n k j)
def x0b (f:Nat->Nat->Bool):∀(n m i j:Nat),j-i<=n->j-i<=m->b0X f n i j=b0X f m i j:=by
 intro n
 induction n with
 |zero=>
  intro m i j h1 d;cases m with
  |zero=>rfl
  |succ m=>
   unfold b0X;have:((List.range (j+1)).any fun k=>decide (i<k)&&(f i k&&b0X f m k j))=false:=by
    rw[any_eq_false];intro k hk;have:=mem_range.1 hk;simp;omega
   rw[this,Bool.or_false]
 |succ n ih=>
  intro m i j h1 d;cases m with
  |zero=>
   unfold b0X;have:((List.range (j+1)).any fun k=>decide (i<k)&&(f i k&&b0X f n k j))=false:=by
    rw[any_eq_false];intro k hk;have:=mem_range.1 hk;simp;omega
   rw[this,Bool.or_false]
  |succ m=>
   unfold b0X;congr 1;refine k0a fun k hk=>?_;have hk:=mem_range.1 hk
   by_cases c:i<k
   ·rw[ih m k j O' O']
   ·simp[c]
def K5 (f:Nat->Nat->Bool)(i j:Nat):Bool:=b0X f (j-i) i j
def f0k (f:Nat->Nat->Bool)(i j:Nat):K5 f i j=(i==j||(List.range (j+1)).any fun k=>decide (i<k)&&(f i k&&K5 f k j)):=by
 unfold K5;cases h:j-i with
 |zero=>
  show(i==j)=_;have:((List.range (j+1)).any fun k=>decide (i<k)&&(f i k&&b0X f (j-k) k j))=false:=by
   rw[any_eq_false];intro k hk;have:=mem_range.1 hk;simp;omega
  rw[this,Bool.or_false]
 |succ n=>
  show(i==j||_)=_;congr 1;refine k0a fun k hk=>?_;have hk:=mem_range.1 hk
  by_cases c:i<k
  ·rw[x0b f n (j-k) k j O' O']
  ·simp[c]
def den (w:List Int):Old.Tm->Nat->Nat->Bool
 |.eps=>fun i j=>i==j
 |.leaf s=>fun i j=>j==i+1&&(decide (i<w.length)&&hasB s (gt w (i:Int)))
 |.cat a b=>fun i j=>(List.range (j+1)).any fun k=>decide (i<=k)&&(den w a i k&&den w b k j)
 |.alt a b=>fun i j=>den w a i j||den w b i j
 |.star a=>K5 (den w a)
 |.maybe a=>fun i j=>i==j||den w a i j
 |.group _ a=>den w a
 |.iter a=>den w a
section
variable {F:Nat}
def t0F {step:Int->Option (V0 Int (Unit⊕Unit))}{lo hi:Nat}(c:Nat->Bool)(i:∀k,lo<=k->k<hi->step (k:Int)=some (if c k then .done (.inl ())else .next ((k+1:Nat):Int)))(hd:step (hi:Int)=some (.done (.inr ())))(j:lo<=hi){fu:Nat}(o:hi-lo<fu):
  iter step fu (lo:Int)=some (if(List.range hi).any fun k=>decide (lo<=k)&&c k then .inl ()else .inr ()):=by
 have key:∀(t k fu:Nat),k+t=hi->lo<=k->t<fu->iter step fu (k:Int)=some (if(List.range hi).any fun q=>decide (k<=q)&&c q then .inl ()else .inr ()):=by
  intro t
  induction t with
  |zero=>
   intro k fu hk hl f;obtain⟨fu,rfl⟩:∃m,fu=m+1:=⟨fu-1,O'⟩
   have e:k=hi:=O'
   subst e;rw[a0o hd];have:((List.range k).any fun q=>decide (k<=q)&&c q)=false:=by
    rw[any_eq_false];intro q g;have:=mem_range.1 g;simp;omega
   rw[this];rfl
  |succ t ih=>
   intro k fu hk hl f;obtain⟨fu,rfl⟩:∃m,fu=m+1:=⟨fu-1,O'⟩
   have h:=i k hl O';cases d:c k with
   |true=>
    rw[d]at h;rw[a0o h];have:((List.range hi).any fun q=>decide (k<=q)&&c q)=true:=by
     rw[List.any_eq_true];exact⟨k,mem_range.2 O',by simp[d]⟩
    rw[this];rfl
   |false=>
    rw[d]at h;rw[e0m h,ih (k+1) fu O' O' O'];have:((List.range hi).any fun q=>decide (k+1<=q)&&c q)=((List.range hi).any fun q=>decide (k<=q)&&c q):=by
     refine k0a fun q g=>?_
     by_cases e:q=k
     ·subst e;simp[d]
     ·have:decide (k+1<=q)=decide (k<=q):=by
       rw[Bool.eq_iff_iff];simp;omega
      rw[this]
    rw[this]
 exact key (hi-lo) lo fu O' (Nat.le_refl _) o
end
end Go.Proofs.YtdficaoajalfaaaGreat
namespace Go.Proofs.YtdficaoajalfaaaGreat
open Go.V Go.RowKit Old
inductive Pt where
 |nil|byte|two (x y:Pt)|one (x:Pt)|other (x:Pt)
def Pt.wid:Pt->Nat
 |.nil=>0|.byte=>1|.two x y=>x.wid+y.wid|.one x=>x.wid|.other x=>x.wid
inductive PA:Pt->Pt->Prop
 |wid {x x' y y':Pt}:y.wid<x.wid->PA (.two x x') (.two y y')
 |fst {x x' y y':Pt}:x.wid=y.wid->PA x y->PA (.two x x') (.two y y')
 |snd {x x' y':Pt}:PA x' y'->PA (.two x x') (.two x y')
 |one {x y:Pt}:PA x y->PA (.one x) (.one y)
 |other {x y:Pt}:PA x y->PA (.other x) (.other y)
 |oo {x y:Pt}:PA (.one x) (.other y)
def PA.trans {p q r:Pt}(h:PA p q)(g:PA q r):PA p r:=by
 induction h generalizing r with
 |wid h1=>
  cases g with
  |wid c=>exact .wid O'
  |fst c _=>exact .wid O'
  |snd _=>exact .wid h1
 |fst h1 c f=>
  cases g with
  |wid d=>exact .wid O'
  |fst d i=>exact .fst O' (f i)
  |snd d=>exact .fst h1 c
 |snd h1 f=>
  cases g with
  |wid d=>exact .wid d
  |fst d i=>exact .fst d i
  |snd d=>exact .snd (f d)
 |one h1 f=>
  cases g with
  |one c=>exact .one (f c)
  |oo=>exact .oo
 |other h1 f=>cases g with|other c=>exact .other (f c)
 |oo=>cases g with|other c=>exact .oo
inductive Pp where
 |leaf|catL (p:Pp)|catR (x:Pt) (p:Pp)|altL (p:Pp)|altR (p:Pp)|item (p:Pp)|more (x:Pt) (p:Pp)|one (p:Pp)
def BA (x y:Pt):Prop:=y.wid<x.wid\/(x.wid=y.wid/\PA x y)
def BA.trans {p q r:Pt}(h:BA p q)(g:BA q r):BA p r:=by
 rcases h with h|⟨h,h'⟩<;>rcases g with g|⟨g,g'⟩
 ·exact .inl O'
 ·exact .inl O'
 ·exact .inl O'
 ·exact .inr ⟨O',h'.trans g'⟩
inductive Ah:Nat->Pp->Pp->Prop
 |cc {p:Pp} {x:Pt} {q:Pp}:Ah 0 (.catL p) (.catR x q)
 |cd {x y:Pt} {p q:Pp}:BA x y->Ah 0 (.catR x p) (.catR y q)
 |aa {p q:Pp}:Ah 0 (.altL p) (.altR q)
 |im {p:Pp} {x:Pt} {q:Pp}:Ah 0 (.item p) (.more x q)
 |mm {x y:Pt} {p q:Pp}:BA x y->Ah 0 (.more x p) (.more y q)
 |catL {n:Nat} {p q:Pp}:Ah n p q->Ah (n+1) (.catL p) (.catL q)
 |catR {n:Nat} {x:Pt} {p q:Pp}:Ah n p q->Ah (n+1) (.catR x p) (.catR x q)
 |altL {n:Nat} {p q:Pp}:Ah n p q->Ah (n+1) (.altL p) (.altL q)
 |altR {n:Nat} {p q:Pp}:Ah n p q->Ah (n+1) (.altR p) (.altR q)
 |item {n:Nat} {p q:Pp}:Ah n p q->Ah (n+1) (.item p) (.item q)
 |more {n:Nat} {x:Pt} {p q:Pp}:Ah n p q->Ah n (.more x p) (.more x q)
 |one {n:Nat} {p q:Pp}:Ah n p q->Ah (n+1) (.one p) (.one q)
def Ah.trans {m:Nat}{p q:Pp}(h:Ah m p q):∀{n:Nat} {r:Pp},Ah n q r->∃k,Ah k p r:=by
 induction h with
 |cc=>intro n r g;cases g<;>exact⟨_,.cc⟩
 |cd h=>intro n r g;cases g with
  |cd g=>exact⟨_,.cd (h.trans g)⟩
  |catR g=>exact⟨_,.cd h⟩
 |aa=>intro n r g;cases g;exact⟨_,.aa⟩
 |im=>intro n r g;cases g<;>exact⟨_,.im⟩
 |mm h=>intro n r g;cases g with
  |mm g=>exact⟨_,.mm (h.trans g)⟩
  |more g=>exact⟨_,.mm h⟩
 |catL h ih=>intro n r g;cases g with
  |cc=>exact⟨_,.cc⟩
  |catL g=>obtain⟨k,hk⟩:=ih g;exact⟨_,.catL hk⟩
 |catR h ih=>intro n r g;cases g with
  |cd g=>exact⟨_,.cd g⟩
  |catR g=>obtain⟨k,hk⟩:=ih g;exact⟨_,.catR hk⟩
 |altL h ih=>intro n r g;cases g with
  |aa=>exact⟨_,.aa⟩
  |altL g=>obtain⟨k,hk⟩:=ih g;exact⟨_,.altL hk⟩
 |altR h ih=>intro n r g;cases g with
  |altR g=>obtain⟨k,hk⟩:=ih g;exact⟨_,.altR hk⟩
 |item h ih=>intro n r g;cases g with
  |im=>exact⟨_,.im⟩
  |item g=>obtain⟨k,hk⟩:=ih g;exact⟨_,.item hk⟩
 |more h ih=>intro n r g;cases g with
  |mm g=>exact⟨_,.mm g⟩
  |more g=>obtain⟨k,hk⟩:=ih g;exact⟨_,.more hk⟩
 |one h ih=>intro n r g;cases g with
  |one g=>obtain⟨k,hk⟩:=ih g;exact⟨_,.one hk⟩
inductive Fit (w:List Int):Tm->Nat->Pt->Prop
 |eps {i:Nat}:Fit w .eps i .nil
 |leaf {S:List Int} {i:Nat}:i<w.length->hasB S (gt w (i:Int))=true->Fit w (.leaf S) i .byte
 |cat {a b:Tm} {i:Nat} {x y:Pt}:Fit w a i x->Fit w b (i+x.wid) y->Fit w (.cat a b) i (.two x y)
 |altL {a b:Tm} {i:Nat} {x:Pt}:Fit w a i x->Fit w (.alt a b) i (.one x)
 |altR {a b:Tm} {i:Nat} {x:Pt}:Fit w b i x->Fit w (.alt a b) i (.other x)
 |star0 {a:Tm} {i:Nat}:Fit w (.star a) i .nil
 |star {a:Tm} {i:Nat} {x r:Pt}:Fit w a i x->0<x.wid->Fit w (.star a) (i+x.wid) r->Fit w (.star a) i (.two x r)
 |maybe0 {a:Tm} {i:Nat}:Fit w (.maybe a) i .nil
 |maybe {a:Tm} {i:Nat} {x:Pt}:Fit w a i x->0<x.wid->Fit w (.maybe a) i (.one x)
 |group {m:Int} {a:Tm} {i:Nat} {x:Pt}:Fit w a i x->Fit w (.group m a) i (.one x)
 |iter {a:Tm} {i:Nat} {x:Pt}:Fit w a i x->Fit w (.iter a) i (.one x)
inductive P3:Tm->Pt->Prop
 |eps:P3 .eps .nil
 |cat {a b:Tm} {x y:Pt}:P3 a x->P3 b y->P3 (.cat a b) (.two x y)
 |altL {a b:Tm} {x:Pt}:P3 a x->P3 (.alt a b) (.one x)
 |altR {a b:Tm} {x:Pt}:P3 b x->P3 (.alt a b) (.other x)
 |star {a:Tm}:P3 (.star a) .nil
 |maybe {a:Tm}:P3 (.maybe a) .nil
 |group {m:Int} {a:Tm} {x:Pt}:P3 a x->P3 (.group m a) (.one x)
 |iter {a:Tm} {x:Pt}:P3 a x->P3 (.iter a) (.one x)
def P3.wid {s:Tm}{x:Pt}(h:P3 s x):x.wid=0:=by induction h<;>simp[Pt.wid, *]
def P3.fit {s:Tm}{x:Pt}(h:P3 s x)(w:List Int):∀i,Fit w s i x:=by
 induction h with
 |eps=>exact fun i=>.eps
 |cat h1 f d i2=>exact fun i=>.cat (d i) (by rw[h1.wid];exact i2 i)
 |altL _ c=>exact fun i=>.altL (c i)
 |altR _ c=>exact fun i=>.altR (c i)
 |star=>exact fun i=>.star0
 |maybe=>exact fun i=>.maybe0
 |group _ c=>exact fun i=>.group (c i)
 |iter _ c=>exact fun i=>.iter (c i)
def Fit.emp {w:List Int}{s:Tm}{i:Nat}{x:Pt}(h:Fit w s i x):x.wid=0->P3 s x:=by
 induction h with
 |eps=>exact fun _=>.eps
 |leaf _ _=>intro h;simp[Pt.wid]at h
 |cat _ _ d i2=>intro h;simp only[Pt.wid]at h;exact .cat (d O') (i2 O')
 |altL _ c=>exact fun h=>.altL (c h)
 |altR _ c=>exact fun h=>.altR (c h)
 |star0=>exact fun _=>.star
 |star _ h1 _ _ _=>intro h;simp only[Pt.wid]at h;omega
 |maybe0=>exact fun _=>.maybe
 |maybe _ h1 _=>intro h;simp only[Pt.wid]at h;omega
 |group _ c=>exact fun h=>.group (c h)
 |iter _ c=>exact fun h=>.iter (c h)
def P3.can {s:Tm}{x:Pt}(h:P3 s x):s.can=true:=by induction h<;>simp[Tm.can, *]
def emp:Tm->Pt
 |.eps=>.nil|.leaf _=>.nil|.cat a b=>.two (emp a) (emp b)
 |.alt a b=>if a.can then .one (emp a)else .other (emp b)
 |.star _=>.nil|.maybe _=>.nil|.group _ a=>.one (emp a)|.iter a=>.one (emp a)
def O5 (s:Tm)(x:Pt):Prop:=s.can=true/\x=emp s
def F9:∀{s:Tm},s.can=true->P3 s (emp s):=by
 intro s
 induction s with
 |eps=>exact fun _=>.eps
 |leaf S=>intro h;simp[Tm.can]at h
 |cat a b d f=>intro h;simp only[Tm.can,Bool.and_eq_true]at h;exact .cat (d h.1) (f h.2)
 |alt a b d f=>
  intro h;unfold emp
  by_cases c:a.can=true
  ·rw[if_pos c];exact .altL (d c)
  ·rw[if_neg c];exact .altR (f (by simpa[Tm.can,c]using h))
 |star a d=>exact fun _=>.star
 |maybe a d=>exact fun _=>.maybe
 |group m a d=>intro h;exact .group (d h)
 |iter a d=>intro h;exact .iter (d h)
def O5.emp {s:Tm}{x:Pt}(h:O5 s x):P3 s x:=by obtain⟨h,rfl⟩:=h;exact F9 h
def o0S {s:Tm}{y:Pt}(h:P3 s y):emp s=y\/PA (emp s) y:=by
 induction h with
 |eps=>exact .inl rfl
 |@cat a b x y h1 h2 i1 i2=>
  show Pt.two _ _=_\/PA (Pt.two _ _) _;rcases i1 with e|e
  ·rw[e];rcases i2 with e2|e2
   ·rw[e2];exact .inl rfl
   ·exact .inr (.snd e2)
  ·exact .inr (.fst (by rw[h1.wid,(F9 h1.can).wid]) e)
 |@altL a b x h ih=>
  unfold emp;rw[if_pos h.can];rcases ih with e|e
  ·rw[e];exact .inl rfl
  ·exact .inr (.one e)
 |@altR a b x h ih=>
  unfold emp
  by_cases c:a.can=true
  ·rw[if_pos c];exact .inr .oo
  ·rw[if_neg c];rcases ih with e|e
   ·rw[e];exact .inl rfl
   ·exact .inr (.other e)
 |star=>exact .inl rfl
 |maybe=>exact .inl rfl
 |group h ih=>
  show Pt.one _=_\/PA (Pt.one _) _;rcases ih with e|e
  ·rw[e];exact .inl rfl
  ·exact .inr (.one e)
 |iter h ih=>
  show Pt.one _=_\/PA (Pt.one _) _;rcases ih with e|e
  ·rw[e];exact .inl rfl
  ·exact .inr (.one e)
inductive PU (w:List Int):Tm->Nat->Nat->Pp->Prop
 |leaf {S:List Int} {i:Nat}:PU w (.leaf S) i i .leaf
 |catL {a b:Tm} {i j:Nat} {p:Pp}:PU w a i j p->PU w (.cat a b) i j (.catL p)
 |catR {a b:Tm} {i j:Nat} {x:Pt} {p:Pp}:Fit w a i x->PU w b (i+x.wid) j p->PU w (.cat a b) i j (.catR x p)
 |altL {a b:Tm} {i j:Nat} {p:Pp}:PU w a i j p->PU w (.alt a b) i j (.altL p)
 |altR {a b:Tm} {i j:Nat} {p:Pp}:PU w b i j p->PU w (.alt a b) i j (.altR p)
 |item {a:Tm} {i j:Nat} {p:Pp}:PU w a i j p->PU w (.star a) i j (.item p)
 |more {a:Tm} {i j:Nat} {x:Pt} {p:Pp}:Fit w a i x->0<x.wid->PU w (.star a) (i+x.wid) j p->PU w (.star a) i j (.more x p)
 |maybe {a:Tm} {i j:Nat} {p:Pp}:PU w a i j p->PU w (.maybe a) i j (.one p)
 |group {m:Int} {a:Tm} {i j:Nat} {p:Pp}:PU w a i j p->PU w (.group m a) i j (.one p)
 |iter {a:Tm} {i j:Nat} {p:Pp}:PU w a i j p->PU w (.iter a) i j (.one p)
def PU.le {w:List Int}{s:Tm}{i j:Nat}{p:Pp}(h:PU w s i j p):i<=j:=by induction h<;>omega
def b6:Tm->Pp->List Int
 |.leaf S,.leaf=>S
 |.cat a _,.catL p=>b6 a p
 |.cat _ b,.catR _ p=>b6 b p
 |.alt a _,.altL p=>b6 a p
 |.alt _ b,.altR p=>b6 b p
 |.star a,.item p=>b6 a p
 |.star a,.more _ p=>b6 (.star a) p
 |.maybe a,.one p=>b6 a p
 |.group _ a,.one p=>b6 a p
 |.iter a,.one p=>b6 a p
 |_,_=>[]
def Rd (w:List Int)(s:Tm)(j:Nat)(p:Pp):Prop:=j<w.length/\hasB (b6 s p) (gt w (j:Int))=true
inductive Cl (E:Tm->Pt->Prop):Tm->Pp->Pt->Prop
 |leaf {S:List Int}:Cl E (.leaf S) .leaf .byte
 |catL {a b:Tm} {p:Pp} {P y:Pt}:Cl E a p P->E b y->Cl E (.cat a b) (.catL p) (.two P y)
 |catR {a b:Tm} {x:Pt} {p:Pp} {P:Pt}:Cl E b p P->Cl E (.cat a b) (.catR x p) (.two x P)
 |altL {a b:Tm} {p:Pp} {P:Pt}:Cl E a p P->Cl E (.alt a b) (.altL p) (.one P)
 |altR {a b:Tm} {p:Pp} {P:Pt}:Cl E b p P->Cl E (.alt a b) (.altR p) (.other P)
 |item {a:Tm} {p:Pp} {P:Pt}:Cl E a p P->Cl E (.star a) (.item p) (.two P .nil)
 |more {a:Tm} {x:Pt} {p:Pp} {P:Pt}:Cl E (.star a) p P->Cl E (.star a) (.more x p) (.two x P)
 |maybe {a:Tm} {p:Pp} {P:Pt}:Cl E a p P->Cl E (.maybe a) (.one p) (.one P)
 |group {m:Int} {a:Tm} {p:Pp} {P:Pt}:Cl E a p P->Cl E (.group m a) (.one p) (.one P)
 |iter {a:Tm} {p:Pp} {P:Pt}:Cl E a p P->Cl E (.iter a) (.one p) (.one P)
inductive En (E:Tm->Pt->Prop):Tm->Pp->Prop
 |leaf {S:List Int}:En E (.leaf S) .leaf
 |catL {a b:Tm} {p:Pp}:En E a p->En E (.cat a b) (.catL p)
 |catR {a b:Tm} {x:Pt} {p:Pp}:E a x->En E b p->En E (.cat a b) (.catR x p)
 |altL {a b:Tm} {p:Pp}:En E a p->En E (.alt a b) (.altL p)
 |altR {a b:Tm} {p:Pp}:En E b p->En E (.alt a b) (.altR p)
 |item {a:Tm} {p:Pp}:En E a p->En E (.star a) (.item p)
 |maybe {a:Tm} {p:Pp}:En E a p->En E (.maybe a) (.one p)
 |group {m:Int} {a:Tm} {p:Pp}:En E a p->En E (.group m a) (.one p)
 |iter {a:Tm} {p:Pp}:En E a p->En E (.iter a) (.one p)
inductive Go (E:Tm->Pt->Prop):Tm->Nat->Pp->Pp->Prop
 |catLd {a b:Tm} {n:Nat} {p q:Pp}:Go E a n p q->Go E (.cat a b) (n+1) (.catL p) (.catL q)
 |catT {a b:Tm} {p q:Pp} {P:Pt}:Cl E a p P->En E b q->Go E (.cat a b) 0 (.catL p) (.catR P q)
 |catRd {a b:Tm} {n:Nat} {x:Pt} {p q:Pp}:Go E b n p q->Go E (.cat a b) (n+1) (.catR x p) (.catR x q)
 |altLd {a b:Tm} {n:Nat} {p q:Pp}:Go E a n p q->Go E (.alt a b) (n+1) (.altL p) (.altL q)
 |altRd {a b:Tm} {n:Nat} {p q:Pp}:Go E b n p q->Go E (.alt a b) (n+1) (.altR p) (.altR q)
 |itemd {a:Tm} {n:Nat} {p q:Pp}:Go E a n p q->Go E (.star a) (n+1) (.item p) (.item q)
 |itemT {a:Tm} {p q:Pp} {P:Pt}:Cl E a p P->En E a q->Go E (.star a) 0 (.item p) (.more P (.item q))
 |mored {a:Tm} {n:Nat} {x:Pt} {p q:Pp}:Go E (.star a) n p q->Go E (.star a) n (.more x p) (.more x q)
 |maybe {a:Tm} {n:Nat} {p q:Pp}:Go E a n p q->Go E (.maybe a) (n+1) (.one p) (.one q)
 |group {m:Int} {a:Tm} {n:Nat} {p q:Pp}:Go E a n p q->Go E (.group m a) (n+1) (.one p) (.one q)
 |iter {a:Tm} {n:Nat} {p q:Pp}:Go E a n p q->Go E (.iter a) (n+1) (.one p) (.one q)
