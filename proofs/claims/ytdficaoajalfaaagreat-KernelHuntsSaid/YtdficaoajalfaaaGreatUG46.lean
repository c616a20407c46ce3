/- One byte more: the document's step. What can be reckoned, in place of models that cannot. What is sure, and what a row's reading n02 of its values. What tags say that groups span; runs over bytes. Runs over bytes, by the program and by the document. Tags: where a run began; the last time that something is found. What holds of any crowd: where its runs began, what their tags are, which one is ahead. A search, by the program and by the document: step by step. A search, by the document alone. Its conditions: none. -/
import Derived.Test.YtdficaoajalfaaaGreatUG45
import Derived.Test.YtdficaoajalfaaaGreatUMd
import Derived.Test.YtdficaoajalfaaaGreatUX15
open Bool (false_eq_true)
open List (append_nil map_cons map_nil getD_eq_getElem?_getD mem_map)
set_option linter.all false
namespace Go.Proofs.YtdficaoajalfaaaGreat
open Go.V Go.RowKit Old Go.X
theorem t0f {α:Type} {p:α->Bool}:∀ (l:List α) (i:Nat) (x:α),l[i]?=some x->p x=true->(∀ j y,j<i->l[j]?=some y->p y=false)->l.find? p=some x
 |[],i,x,h,_,_=>by simp at h
 |y :: r,0,x,h,hp,_=>by simp at h;subst h;simp [hp]
 |
  y :: r,i+1,x,h,hp,hn=>by
  have h0:=hn 0 y (by omega) (by simp);simp only [List.find?_cons,h0];exact t0f r i x (by simpa using h) hp (fun j z hj hz=>hn (j+1) z (by omega) (by simpa using hz))
section
variable {F:Nat} {l:List D0} {n:Nat} {a:List B0} {b:Nat->List B0} {e:Nat->B0×Bool} {z:B0×Bool} {at_ work:Int} {pl:List Nat} {vals:List (List Int)} {fB fD:Nat->Nat->Int}
theorem I0j {ws:List B0} (hl:ws.length<=1000000) (hf:2000001<F) (r:Nat):j0S F ws (r:Int)=some (a0J ws r,(R6 ws r).isSome):=by
 unfold j0S;have key:∀ k i,i+k=ws.length->(∀ j y,j<i->ws[j]?=some y->(y.To==(r:Int))=false)->∀ m,k<m->
   iter (g0q F ws (r:Int)) m (i:Int)=some (match R6 ws r with | some y=>.inl y | none=>.inr ()):=by
  intro k
  induction k with
  |
   zero=>
   intro i hi hj m hm;obtain ⟨m,rfl⟩:∃ q,m=q+1:=⟨m-1,by omega⟩
   have hnone:R6 ws r=none:=by
    unfold R6;rw [List.find?_eq_none];intro x hx;obtain ⟨j,hjl,he⟩:=List.mem_iff_getElem.1 hx;have:=hj j x (by omega) (by rw [List.getElem?_eq_getElem hjl,he]);simp [this]
   refine g0d ?_;unfold g0q;have h1:¬ ((i:Int)<(ws.length:Int)):=by omega
   simp only [h1,decide_false,if_false,false_eq_true,hnone]
  |
   succ k ih=>
   intro i hi hj m hm;obtain ⟨m,rfl⟩:∃ q,m=q+1:=⟨m-1,by omega⟩
   have hil:i<ws.length:=by omega
   have h1:(i:Int)<(ws.length:Int):=by omega
   have hin:y0 ws (i:Int)=true:=P0 (by omega) h1;cases hc:((gt ws (i:Int)).To==(r:Int)) with
   |
    true=>
    have hsome:R6 ws r=some (gt ws (i:Int)):=t0f ws i _ (E4 hil) hc hj;refine g0d ?_;unfold g0q;simp only [h1,decide_true,if_true,hin,hc,hsome]
   |
    false=>
    have hn:=ih (i+1) (by omega) (fun j y hj2 hy=>by
     rcases Nat.lt_or_ge j i with c | c
     ·exact hj j y c hy
     ·obtain rfl:j=i:=by omega
      rw [E4 hil] at hy;cases hy;exact hc) m (by omega)
    rw [<-hn];refine l0A ?_;unfold g0q;simp only [h1,decide_true,if_true,hin,hc,false_eq_true,if_false,E2 (i:=i) (by omega)]
 have h2:iter (g0q F ws (r:Int)) F 0=_:=key ws.length 0 (by omega) (by intro j y hj;omega) F (by omega);rw [h2];unfold a0J;cases R6 ws r<;>rfl
theorem B0S {Ws:List (List B0)} (hW:∀ i,i<Ws.length->(Ws.getD i []).length<=500000) (hM:Ws.length<=1000) (hf:2000001<F) (r:Nat) (y2:List Int) (y3:List B0) :
  iter (f0w F Ws (r:Int)) F ([],[],0,y2,y3)=some (O0 (K3 Ws r Ws.length),I5 Ws r Ws.length,y2,y3):=by
 have:=V2 (step:=f0w F Ws (r:Int)) (fun i=>(O0 (K3 Ws r i),I5 Ws r i,(i:Int),y2,y3)) (O0 (K3 Ws r Ws.length),I5 Ws r Ws.length,y2,y3) Ws.length (fun i hi=>.inl ?_) ?_ Ws.length 0 F (by omega) (by omega)
 ·exact this
 ·have h1:(i:Int)<(Ws.length:Int):=by omega
  have hg:gt Ws (i:Int)=Ws.getD i []:=by
   refine I3 ?_;simp [List.getD,hi]
  have hl1:=j0u Ws r i;have hl2:=j0s Ws r i;have ap1:I0 8 (O0 (K3 Ws r i)) [(i:Int)]=true:=by simp [I0];omega
  have ap2:I0 40 (I5 Ws r i) [a0J (Ws.getD i []) r]=true:=by simp [I0];omega
  unfold f0w;simp only [h1,decide_true,if_true,P0 (l:=Ws) (i:=(i:Int)) (by omega) h1,hg,I0j (show (Ws.getD i []).length<=1000000 by have:=hW i hi;omega) hf,E0,p0s,r0p,E2 (i:=i) (by omega)];cases hc:(R6 (Ws.getD i []) r).isSome with
  |false=>simp only [false_eq_true,if_false,E0,append_nil]
  |true=>simp only [if_true,ap1,ap2,E0,c0c]
 ·unfold f0w;have h1:¬ ((Ws.length:Int)<(Ws.length:Int)):=by omega
  simp only [h1,decide_false,if_false,false_eq_true]
abbrev xT (l:List D0) (n:Nat) (a:List B0) (b:Nat->List B0) (e:Nat->B0×Bool) (at_ work:Int) (places:List Int) (tags:List (List Int)) (rank:E1):(List D0)×(List Int)×(List B0)×(List (List B0))×(List (List Int))×Int×Int×(List Int)×(List (List Int))×E1:=
 (l,Q1 l l.length,a,(List.range n).map b,(List.range n).map fun p=>(e p).1.Steps,at_,work,places,tags,rank)
set_option maxHeartbeats 2000000 in
theorem A0M (K:Q4 l n a b e z F) (C:U3 l n pl vals fB fD) (hw:∀ x∈l,C3 x) {b_:Int} (hb:C7 .u8 b_) (C0:Bool) (hw0:0<=work) (hw1:work<=1000000000000) {r:Nat} (hr:r<n) (rk:E1) :
  f06 F (O3 l n a b e at_ work pl vals fB fD) b_ (b6 l at_ vals C0) (R0 a b pl C0) (O1 (o4 pl C0) (R3 pl C0 fB) (C4 pl C0 fD))
   (O0 ((O4 (J3 l b_) (R0 a b pl C0) r).map (G2 a b pl fB fD C0)),(O4 (J3 l b_) (R0 a b pl C0) r).map (F4 a b pl fB fD C0),(r:Int),xT l n a b e at_ (work+(z8 (J3 l b_) (R0 a b pl C0) r:Int)) (O0 (O4 (J3 l b_) (R0 a b pl C0) r)) ((O4 (J3 l b_) (R0 a b pl C0) r).map (D7 l a b at_ pl vals fB fD C0)) rk) =
  some (.next (O0 ((O4 (J3 l b_) (R0 a b pl C0) (r+1)).map (G2 a b pl fB fD C0)),(O4 (J3 l b_) (R0 a b pl C0) (r+1)).map (F4 a b pl fB fD C0),((r+1:Nat):Int),xT l n a b e at_ (work+(z8 (J3 l b_) (R0 a b pl C0) (r+1):Int)) (O0 (O4 (J3 l b_) (R0 a b pl C0) (r+1))) ((O4 (J3 l b_) (R0 a b pl C0) (r+1)).map (D7 l a b at_ pl vals fB fD C0)) rk)):=by
 have f1:=K.f1;have f3:=K.f3;have hn:=K.T.n64;have hM:=l0t K C C0;have hWl:=a0B a b pl C0;obtain ⟨hc1,hc2⟩:=t0P K C C0 r;have hch:=j0s (R0 a b pl C0) r (R0 a b pl C0).length;have hPl:=o0F (J3 l b_) (R0 a b pl C0) r;have hwn:=n0z (J3 l b_) (R0 a b pl C0) r;have hwn2:r*(R0 a b pl C0).length<=400*401:=Nat.mul_le_mul (by omega) (by omega);have ht:=l8 l;have hll:=S6 l l.length;have hKn:=K.hn;have hx:(r:Int)<((Q1 l l.length).length:Int):=by omega
 obtain ⟨q,q1,q2,q3⟩:=d0M l K.hn (x:=(r:Int)) (by omega) (by omega);obtain ⟨_,_,s3⟩:=setOf l K.hn hw hr;have hH:hasB (gt l (gt (Q1 l l.length) (r:Int))).Set b_=J3 l b_ r:=rfl;have hgr:=h07 C C0;have h22:∀ y2 y3,iter (f0w F (R0 a b pl C0) (r:Int)) F ([],[],0,y2,y3)=some (O0 (K3 (R0 a b pl C0) r (R0 a b pl C0).length),I5 (R0 a b pl C0) r (R0 a b pl C0).length,y2,y3):=fun y2 y3=>B0S (fun i hi=>(h0U K C C0 i hi).2.1) (by omega) f1 r y2 y3;unfold f06;simp only [O3,Q8,hx,decide_true,if_true,q3,P0 (l:=l) (i:=gt (Q1 l l.length) (r:Int)) (by omega) (by omega),(w0c F s3 hb).2,hH,E0,t0g,z8,E2 (i:=r) (by omega),h22];cases hP:J3 l b_ r with
 |false=>simp only [Bool.not_false,if_true,E0,Bool.false_and,false_eq_true,if_false,append_nil,Nat.add_zero]
 |
  true=>
  simp only [Bool.not_true,false_eq_true,if_false,if_true,Bool.true_and];have hW0:W (work+(z8 (J3 l b_) (R0 a b pl C0) r:Int)+(((O0 (K3 (R0 a b pl C0) r (R0 a b pl C0).length)).length:Nat):Int))=work+((z8 (J3 l b_) (R0 a b pl C0) r+(K3 (R0 a b pl C0) r (R0 a b pl C0).length).length:Nat):Int):=by rw [Z2 (by simp;omega) (by simp;omega)];simp;omega
  simp only [hW0];have hpk:=D03 (F:=F) (n:=o4 pl C0) (fB:=R3 pl C0 fB) (fD:=C4 pl C0 fD) (fr:=K3 (R0 a b pl C0) r (R0 a b pl C0).length) (hops:=I5 (R0 a b pl C0) r (R0 a b pl C0).length) (by omega) (by omega) hgr hch (by omega) hc2
  by_cases h0:K3 (R0 a b pl C0) r (R0 a b pl C0).length=[]
  ·have hpk2:h0g F (O1 (o4 pl C0) (R3 pl C0 fB) (C4 pl C0 fD)) (O0 (K3 (R0 a b pl C0) r (R0 a b pl C0).length)) (I5 (R0 a b pl C0) r (R0 a b pl C0).length)=some (-1):=by
    rw [hpk,h0,v0C]
   simp only [hpk2,E0,show decide ((-1:Int)<0)=true from rfl,if_true];simp only [h0,List.isEmpty_nil,Bool.not_true,false_eq_true,if_false,append_nil]
  ·obtain ⟨k1,k2⟩:=j0w (fB:=R3 pl C0 fB) (fD:=C4 pl C0 fD) h0;have hne:(K3 (R0 a b pl C0) r (R0 a b pl C0).length).isEmpty=false:=by simpa using h0
   rw [k1] at hpk;have k3:¬ ((H9 (R3 pl C0 fB) (C4 pl C0 fD) (R0 a b pl C0) r:Nat):Int)<0:=by omega
   have hsl:G2 a b pl fB fD C0 r<o4 pl C0:=by rw [<-hWl];exact c0m h0
   obtain ⟨v1,v2⟩:=l0u (s0D (at_:=at_) C C0) (v0U C C0) hsl;obtain ⟨p1,p2⟩:=t08 K C (b_:=b_) (C0:=C0) h0;have hsrc:(((K3 (R0 a b pl C0) r (R0 a b pl C0).length).getD (H9 (R3 pl C0 fB) (C4 pl C0 fD) (R0 a b pl C0) r) 0:Nat):Int)=(G2 a b pl fB fD C0 r:Int):=rfl;have hhop:gt (I5 (R0 a b pl C0) r (R0 a b pl C0).length) ((H9 (R3 pl C0 fB) (C4 pl C0 fD) (R0 a b pl C0) r:Nat):Int)=F4 a b pl fB fD C0 r:=u05 h0;have hrin:y0 (I5 (R0 a b pl C0) r (R0 a b pl C0).length) ((H9 (R3 pl C0 fB) (C4 pl C0 fD) (R0 a b pl C0) r:Nat):Int)=true:=P0 (by omega) (by omega);have ap1:I0 8 (O0 (O4 (J3 l b_) (R0 a b pl C0) r)) [(r:Int)]=true:=by simp [I0];omega
   have ap2:I0 24 ((O4 (J3 l b_) (R0 a b pl C0) r).map (D7 l a b at_ pl vals fB fD C0)) [D7 l a b at_ pl vals fB fD C0 r]=true:=by simp [I0];omega
   have ap3:I0 8 (O0 ((O4 (J3 l b_) (R0 a b pl C0) r).map (G2 a b pl fB fD C0))) [(G2 a b pl fB fD C0 r:Int)]=true:=by simp [I0];omega
   have ap5:I0 40 ((O4 (J3 l b_) (R0 a b pl C0) r).map (F4 a b pl fB fD C0)) [F4 a b pl fB fD C0 r]=true:=by simp [I0];omega
   have hol:=d0w l (F4 a b pl fB fD C0 r).Steps;have hof:=o0h K.hR K.hl p1 K.f1 K.f2 (n3.sok p2);have hap:=m0B (F:=F) (marks:=j5 l (F4 a b pl fB fD C0 r).Steps) (now:=at_) (none_:=-1) (show (gt (b6 l at_ vals C0) (G2 a b pl fB fD C0 r:Int)).length<=1000 by omega) (by omega) (by omega);have hav:a6 at_ (-1) (gt (b6 l at_ vals C0) (G2 a b pl fB fD C0 r:Int)) (j5 l (F4 a b pl fB fD C0 r).Steps)=D7 l a b at_ pl vals fB fD C0 r:=rfl;rw [hav] at hap;simp only [hpk,E0,k3,decide_false,false_eq_true,if_false,ap1,A6 k2,e7 k2,hsrc,v2,hrin,hhop,hof,hap,ap2,ap3,ap5,if_true,hne,Bool.not_false,c0c,List.map_append,map_cons,map_nil]
set_option maxHeartbeats 2000000 in
theorem z0f (K:Q4 l n a b e z F) (C:U3 l n pl vals fB fD) (hw:∀ x∈l,C3 x) {b_:Int} (hb:C7 .u8 b_) (C0:Bool) (ha0:0<=at_) (ha1:at_<=1000000) (hw0:0<=work) (hw1:work<=1000000000000) :
  h0B F (O3 l n a b e at_ work pl vals fB fD) b_ C0=some (O3 l n a b e (at_+1) (work+stW l n a b pl b_ C0) (R1 l n a b pl b_ C0) ((R1 l n a b pl b_ C0).map (D7 l a b at_ pl vals fB fD C0))
   (H4 l (R3 pl C0 fB) ((R1 l n a b pl b_ C0).map (G2 a b pl fB fD C0)) ((R1 l n a b pl b_ C0).map (F4 a b pl fB fD C0))) (U4 l (R3 pl C0 fB) (C4 pl C0 fD) ((R1 l n a b pl b_ C0).map (G2 a b pl fB fD C0)) ((R1 l n a b pl b_ C0).map (F4 a b pl fB fD C0)))):=by
 have f1:=K.f1;have hm:=C.le;have hn:=K.T.n64;have hvl:=C.len;have hM:=l0t K C C0;have hWl:=a0B a b pl C0;have hrng:=v0f K C b_ C0;have hll:=S6 l l.length;have hKn:=K.hn;have l3:=V2 (step:=h09 F (O3 l n a b e at_ work pl vals fB fD)) (fun i=>((pl.take i).map b,(i:Int))) (pl.map b) pl.length (fun i hi=>.inl ?_) ?_ pl.length 0 F (by omega) (by omega)
 ·have e3:iter (h09 F (O3 l n a b e at_ work pl vals fB fD)) F ([],0)=_:=l3;have hloop:=V2 (step:=f06 F (O3 l n a b e at_ work pl vals fB fD) b_ (b6 l at_ vals C0) (R0 a b pl C0) (O1 (o4 pl C0) (R3 pl C0 fB) (C4 pl C0 fD)))
   (fun r=>(O0 ((O4 (J3 l b_) (R0 a b pl C0) r).map (G2 a b pl fB fD C0)),(O4 (J3 l b_) (R0 a b pl C0) r).map (F4 a b pl fB fD C0),(r:Int),xT l n a b e at_ (work+(z8 (J3 l b_) (R0 a b pl C0) r:Int)) (O0 (O4 (J3 l b_) (R0 a b pl C0) r)) ((O4 (J3 l b_) (R0 a b pl C0) r).map (D7 l a b at_ pl vals fB fD C0)) (O1 pl.length fB fD)))
   (O0 ((R1 l n a b pl b_ C0).map (G2 a b pl fB fD C0)),(R1 l n a b pl b_ C0).map (F4 a b pl fB fD C0),xT l n a b e at_ (work+(z8 (J3 l b_) (R0 a b pl C0) n:Int)) (O0 (R1 l n a b pl b_ C0)) ((R1 l n a b pl b_ C0).map (D7 l a b at_ pl vals fB fD C0)) (O1 pl.length fB fD)) n
   (fun r hr=>.inl (A0M K C hw hb C0 hw0 hw1 hr _)) ?_ n 0 F (by omega) (by omega)
  ·have hz:work+(z8 (J3 l b_) (R0 a b pl C0) 0:Int)=work:=by simp [z8]
   rw [hz] at hloop;have h2:iter (f06 F (O3 l n a b e at_ work pl vals fB fD) b_ (b6 l at_ vals C0) (R0 a b pl C0) (O1 (o4 pl C0) (R3 pl C0 fB) (C4 pl C0 fD))) F ([],[],0,(l,Q1 l l.length,a,(List.range n).map b,(List.range n).map fun p=>(e p).1.Steps,at_,work,[],[],O1 pl.length fB fD))=_:=hloop;have hin:(Option.bind (α:=((List (List Int))×(List (List B0))×E1)) (
     if C0 then
      if I0 24 ([]:List (List Int)) vals then
       Option.bind (e0Y F (O3 l n a b e at_ work pl vals fB fD)) fun begun=>
       if I0 24 ([]++vals) [begun] then
        if I0 24 (pl.map b) [a] then
         Option.bind (g0R F (O1 pl.length fB fD)) fun with_=>
         some (([]++vals)++[begun],pl.map b++[a],with_)
        else none
       else none
      else none
     else
      some (vals,pl.map b,O1 pl.length fB fD)) (fun r=>some r))=some (b6 l at_ vals C0,R0 a b pl C0,O1 (o4 pl C0) (R3 pl C0 fB) (C4 pl C0 fD)):=by
    unfold b6 R0 o4 R3 C4;cases C0 with
    |false=>simp
    |
     true=>
     have ap0:I0 24 ([]:List (List Int)) vals=true:=by simp [I0];omega
     have ap1:I0 24 vals [Z8 l at_]=true:=by simp [I0];omega
     have ap2:I0 24 (pl.map b) [a]=true:=by simp [I0];omega
     have hb:=u0U K (O3 l n a b e at_ work pl vals fB fD) rfl;have hb2:Z8 l (O3 l n a b e at_ work pl vals fB fD).At=Z8 l at_:=rfl;simp only [if_true,hb,hb2,E0,ap0,ap1,ap2,F0i (show pl.length<=900 by omega) (show 2000<F by omega) C.rk,List.nil_append]
   rw [z6] at hin;unfold h0B;rw [j0o];have x1:(O3 l n a b e at_ work pl vals fB fD).Tags=vals:=rfl;have x2:(O3 l n a b e at_ work pl vals fB fD).Rank=O1 pl.length fB fD:=rfl;have x3:(O3 l n a b e at_ work pl vals fB fD).First=a:=rfl;have x4:(O3 l n a b e at_ work pl vals fB fD).L=l:=rfl;have x5:(O3 l n a b e at_ work pl vals fB fD).Leaves=Q1 l l.length:=rfl;have x6:(O3 l n a b e at_ work pl vals fB fD).Hops=(List.range n).map b:=rfl;have x7:(O3 l n a b e at_ work pl vals fB fD).Ends=(List.range n).map fun p=>(e p).1.Steps:=rfl;have x8:(O3 l n a b e at_ work pl vals fB fD).At=at_:=rfl;have x9:(O3 l n a b e at_ work pl vals fB fD).Work=work:=rfl;simp only [E0,e3,x1,x2,x3,x4,x5,x6,x7,x8,x9,hin,h2];have hnx:=y0R (F:=F) hw K.hR K.hn K.hl (show 2000<F by omega) K.f2 K.TF.rL (show o4 pl C0<=1000 by omega) (h07 C C0) (i0j K C b_ C0);have htg:=t0W K.hR K.hl (show 401<F by omega) K.f2;simp only [hnx,E0,List.length_map,d0T,htg];obtain ⟨q1,q2,q3,q4,q5,q6,q7⟩:=hrng;rw [Z2 (n:=at_+1) (by omega) (by omega),Z2 (n:=((R1 l n a b pl b_ C0).length:Int)*T3 l) (by omega) (by omega),Z2 (n:=((R1 l n a b pl b_ C0).length:Int)*((R1 l n a b pl b_ C0).length:Int)) (by omega) (by omega)];rw [Z2 (n:=work+(z8 (J3 l b_) (R0 a b pl C0) n:Int)+((R1 l n a b pl b_ C0).length:Int)*T3 l) (by omega) (by omega)];rw [Z2 (n:=work+(z8 (J3 l b_) (R0 a b pl C0) n:Int)+((R1 l n a b pl b_ C0).length:Int)*T3 l+((R1 l n a b pl b_ C0).length:Int)*((R1 l n a b pl b_ C0).length:Int)) (by omega) (by omega)];have hww:work+(z8 (J3 l b_) (R0 a b pl C0) n:Int)+((R1 l n a b pl b_ C0).length:Int)*T3 l+((R1 l n a b pl b_ C0).length:Int)*((R1 l n a b pl b_ C0).length:Int)=work+stW l n a b pl b_ C0:=by unfold stW;omega
   rw [hww];rfl
  ·unfold f06;have h1:¬ ((n:Int)<((Q1 l l.length).length:Int)):=by omega
   simp only [O3,Q8,h1,decide_false,if_false,false_eq_true];rfl
 ·unfold h09;have h1:(i:Int)<((O0 pl).length:Int):=by simp;omega
  have hp:=T6 C.pln hi;have hap:I0 24 ((pl.take i).map b) [b (pl.getD i 0)]=true:=by simp [I0];omega
  have ht:pl.take (i+1)=pl.take i++[pl.getD i 0]:=by rw [g0W hi];simp [List.getD,hi]
  simp only [O3,Q8,h1,decide_true,if_true,A6 hi,e7 hi,m03 hp,m0c hp,hap,ht,List.map_append,map_cons,map_nil,E2 (i:=i) (by omega)]
 ·unfold h09;have h1:¬ ((pl.length:Int)<((O0 pl).length:Int)):=by simp
  simp only [O3,Q8,h1,decide_false,if_false,false_eq_true,List.take_length]
end
end Go.Proofs.YtdficaoajalfaaaGreat
set_option maxRecDepth 100000
noncomputable section
namespace Go.Proofs.YtdficaoajalfaaaGreat
open Go.V Go.RowKit Go.X
end Go.Proofs.YtdficaoajalfaaaGreat
end
namespace Go.Proofs.YtdficaoajalfaaaGreat
open Go.V Go.RowKit Old Go.X
abbrev Fb:Nat:=10000000000000
theorem F0n {p:List D0} (h:wfD en 20 (.list (.st 0)) p):∀ x∈p,C3 x:=fun x hx=>by
 obtain ⟨h1,h2,h3,h4,⟨h5,h6⟩,_⟩:=h x hx;exact ⟨h1,h2,h3,h4,h5,h6⟩
theorem x0Q {p:List Int} (h:wfD en 20 (.list (.int .u8)) p):∀ x∈p,C7 .u8 x:=fun x hx=>h x hx
theorem L9 {α:Type} [Inhabited α] {l:List α} {i:Nat} (h:i<l.length):gt l (i:Int)∈l:=List.mem_of_getElem? (E4 h)
section
variable {l:List D0}
theorem y0o (hR:J2 l=false) (hl:l.length*64<=140737488351232) (h40:l.length<=1000):a7 Fb l=some false/\Q6 Fb l=some false:=by
 refine ⟨b7 h0X (by rw [Old.c0N l (show 401<Fb by unfold Fb;omega),hR]),b7 i0v (by rw [Old.b0g l hl (show l.length+1<Fb by unfold Fb;omega),hR])⟩
theorem known (hw:∀ x∈l,C3 x) (hR:J2 l=true) (hl:l.length*64<=140737488351232) (h40:l.length<=1000):∃ a b e z,Q4 l (N0 l l.length) a b e z Fb:=by
 obtain ⟨a,b,e,z,T,TF⟩:=n02 hw hl hR;exact ⟨a,b,e,z,hR,hl,rfl,T,by unfold Fb;omega,by unfold Fb;omega,by unfold Fb;omega,TF Fb (by unfold Fb;omega) (by unfold Fb;omega)⟩
theorem w0g (l:List D0) (n:Nat):U3 l n [] [] (fun _ _=>0) (fun _ _=>0) where
 len:=rfl
 pln:=by intro p h;cases h
 asc:=List.Pairwise.nil
 row:=by intro v h;cases h
 rk:=⟨fun i k h=>by simp at h,fun i h=>rfl,fun i h=>rfl,fun i k h=>by simp at h,fun i k h=>by simp at h⟩
end
def s0I (a b:Int):b0G:=if a<0\/b<0 then ⟨-1,-1⟩ else ⟨a,b⟩
def u0f (tags:List Int) (to:Int):Nat->List b0G
 |0=>[s0I (gt tags 0) to]
 |k+1=>u0f tags to k++[s0I (gt tags ((2*k+1:Nat):Int)) (gt tags ((2*k+2:Nat):Int))]
def G0Z (tags:List Int) (to:Int):List b0G:=if tags.length % 2=0 then [] else u0f tags to (tags.length / 2)
structure Cs where
 at_:Int
 work:Int
 pl:List Nat
 vals:List (List Int)
 fB:Nat->Nat->Int
 fD:Nat->Nat->Int
def Cs.zero:Cs:=⟨0,0,[],[],fun _ _=>0,fun _ _=>0⟩
def Cs.step (l:List D0) (n:Nat) (a:List B0) (b:Nat->List B0) (s:Cs) (b_:Int) (C0:Bool):Cs:=
 ⟨s.at_+1,s.work+stW l n a b s.pl b_ C0,R1 l n a b s.pl b_ C0,(R1 l n a b s.pl b_ C0).map (D7 l a b s.at_ s.pl s.vals s.fB s.fD C0),
  H4 l (R3 s.pl C0 s.fB) ((R1 l n a b s.pl b_ C0).map (G2 a b s.pl s.fB s.fD C0)) ((R1 l n a b s.pl b_ C0).map (F4 a b s.pl s.fB s.fD C0)),
  U4 l (R3 s.pl C0 s.fB) (C4 s.pl C0 s.fD) ((R1 l n a b s.pl b_ C0).map (G2 a b s.pl s.fB s.fD C0)) ((R1 l n a b s.pl b_ C0).map (F4 a b s.pl s.fB s.fD C0))⟩
def Cs.N1 (s:Cs) (from_:Int):Cs:=
 let st:=K2 s.vals from_ s.pl.length
 ⟨s.at_,s.work,st.map fun i=>s.pl.getD i 0,st.map fun i:Nat=>gt s.vals (i:Int),fun i k=>s.fB (st.getD i 0) (st.getD k 0),fun i k=>s.fD (st.getD i 0) (st.getD k 0)⟩
section
variable (l:List D0) (n:Nat) (a:List B0) (b:Nat->List B0) (e:Nat->B0×Bool) (z:B0×Bool)
def Cs.C (s:Cs):b0Y:=mkC l n a b e z s.at_ s.work s.pl s.vals s.fB s.fD
def Cs.X (s:Cs):T5:=O3 l n a b e s.at_ s.work s.pl s.vals s.fB s.fD
def Cs.U2 (s:Cs):List Int×Bool:=c0r l e s.at_ s.pl s.vals s.fD
end
structure a0G (l:List D0) (n:Nat) (s:Cs) (i:Nat):Prop where
 ok:U3 l n s.pl s.vals s.fB s.fD
 a0:s.at_=i
 w0:0<=s.work
 w1:s.work<=1000000*i
section
variable {F:Nat} {l:List D0} {n:Nat} {a:List B0} {b:Nat->List B0} {e:Nat->B0×Bool} {z:B0×Bool}
theorem I0x (l:List D0) (n:Nat):a0G l n Cs.zero 0:=⟨w0g l n,rfl,Int.le_refl _,by show (0:Int)<=_;omega⟩
end
theorem j0f {o:List Int} {j:Nat} {x:Int} (h:1<=j):gt (o.set j x) 0=gt o 0:=by
 unfold gt;rw [getD_eq_getElem?_getD,getD_eq_getElem?_getD];have:(0:Int).toNat=0:=rfl;rw [this,List.getElem?_set_ne (by omega)]
theorem z0W (now none_:Int) (o:List Int) (m:P2):gt (L4 now none_ o m) 0=gt o 0:=by
 unfold L4;split
 ·rfl
 ·rename_i h;have h1:1<=m.Group:=by omega
  split
  ·exact j0f (by omega)
  ·split
   ·exact j0f (by omega)
   ·split
    ·rw [j0f (by omega),j0f (by omega)]
    ·rfl
theorem d0K (now none_:Int):∀ (marks:List P2) (o:List Int),gt (a6 now none_ o marks) 0=gt o 0
 |[],o=>rfl
 |
  m :: r,o=>by
  have h:=d0K now none_ r (L4 now none_ o m);rw [z0W] at h;exact h
theorem d0P (l:List D0) (at_:Int):gt (Z8 l at_) 0=at_:=by
 have ht:=l8 l;unfold Z8;obtain ⟨t,hT⟩:∃ t:Nat,(T3 l).toNat=t+1:=⟨(T3 l).toNat-1,by omega⟩
 rw [hT];rfl
section
variable {F:Nat} {l:List D0} {n:Nat} {a:List B0} {b:Nat->List B0} {e:Nat->B0×Bool} {z:B0×Bool}
theorem g0c {at_:Int} {pl:List Nat} {vals:List (List Int)} {fB fD:Nat->Nat->Int} (C:U3 l n pl vals fB fD) {C0:Bool} {b_:Int} {r:Nat} (hr:r∈R1 l n a b pl b_ C0) :
  (G2 a b pl fB fD C0 r<pl.length/\gt (b6 l at_ vals C0) (G2 a b pl fB fD C0 r:Int)=gt vals (G2 a b pl fB fD C0 r:Int))\/(C0=true/\G2 a b pl fB fD C0 r=pl.length/\gt (b6 l at_ vals C0) (G2 a b pl fB fD C0 r:Int)=Z8 l at_):=by
 have hlt:G2 a b pl fB fD C0 r<o4 pl C0:=by rw [<-a0B a b];exact c0m (b0P hr).2
 have hvl:=C.len
 by_cases h:G2 a b pl fB fD C0 r<pl.length
 ·refine .inl ⟨h,?_⟩;unfold b6;exact a0R (by omega) (by omega)
 ·cases C0 with
  |false=>unfold o4 at hlt;simp at hlt;exact absurd hlt h
  |
   true=>
   unfold o4 at hlt;simp only [if_true] at hlt;have e:G2 a b pl fB fD true r=pl.length:=by omega
   refine .inr ⟨rfl,e,?_⟩;rw [e];unfold b6;exact c0I hvl.symm
theorem C0u {at_:Int} {pl:List Nat} {vals:List (List Int)} {fB fD:Nat->Nat->Int} (C:U3 l n pl vals fB fD) (hs:(c0r l e at_ pl vals fD).2=true):(c0r l e at_ pl vals fD).1.length=(T3 l).toNat/\∃ v∈vals,gt (c0r l e at_ pl vals fD).1 0=gt v 0:=by
 unfold c0r at hs ⊢
 by_cases hc:R5 fD (l5 e pl pl.length)<0
 ·rw [if_pos hc] at hs;cases hs
 ·rw [if_neg hc];rcases d0g (fD:=fD) (l5 e pl pl.length) (n:=pl.length) (fun i h=>c0P h) with hb2 | ⟨k,hb2,hk⟩
  ·rw [hb2] at hc;exact absurd (show (-1:Int)<0 by omega) hc
  ·have hm:=L9 (l:=vals) (i:=k) (by rw [C.len];exact hk);rw [hb2];exact ⟨by rw [c0B];exact C.row _ hm,_,hm,by rw [d0K]⟩
theorem B01 {at_:Int} (hs:(W9 l z at_).2=true):(W9 l z at_).1.length=(T3 l).toNat/\gt (W9 l z at_).1 0=at_:=by
 unfold W9 at hs ⊢
 by_cases hz:z.2=true
 ·rw [if_pos hz];exact ⟨by rw [c0B,l0a],by rw [d0K,d0P]⟩
 ·rw [if_neg hz] at hs;cases hs
end
theorem i0Y {o:List Int} {j m:Nat} {x:Int}:gt (o.set j x) (m:Int)=gt o (m:Int)\/gt (o.set j x) (m:Int)=x:=by
 unfold gt;rw [getD_eq_getElem?_getD,getD_eq_getElem?_getD];simp only [Int.toNat_natCast]
 by_cases e:j=m
 ·subst e
  by_cases h:j<o.length
  ·right;rw [List.getElem?_set_self h];rfl
  ·left;rw [List.set_eq_of_length_le (by omega)]
 ·left;rw [List.getElem?_set_ne e]
theorem F0t (now none_:Int) (o:List Int) (k:P2) (m:Nat):gt (L4 now none_ o k) (m:Int)=gt o (m:Int)\/gt (L4 now none_ o k) (m:Int)=now\/gt (L4 now none_ o k) (m:Int)=none_:=by
 unfold L4;split
 ·exact .inl rfl
 ·split
  ·rcases i0Y (o:=o) (j:=(2*k.Group-1).toNat) (m:=m) (x:=now) with h | h
   ·exact .inl h
   ·exact .inr (.inl h)
  ·split
   ·rcases i0Y (o:=o) (j:=(2*k.Group).toNat) (m:=m) (x:=now) with h | h
    ·exact .inl h
    ·exact .inr (.inl h)
   ·split
    ·rcases i0Y (o:=o.set (2*k.Group-1).toNat none_) (j:=(2*k.Group).toNat) (m:=m) (x:=none_) with h | h
     ·rw [h];rcases i0Y (o:=o) (j:=(2*k.Group-1).toNat) (m:=m) (x:=none_) with h | h
      ·exact .inl h
      ·exact .inr (.inr h)
     ·exact .inr (.inr h)
    ·exact .inl rfl
theorem t0T (now none_:Int) (m:Nat):∀ (marks:List P2) (o:List Int),gt (a6 now none_ o marks) (m:Int)=gt o (m:Int)\/gt (a6 now none_ o marks) (m:Int)=now\/gt (a6 now none_ o marks) (m:Int)=none_
 |[],o=>.inl rfl
 |
  k :: r,o=>by
  have h:=t0T now none_ m r (L4 now none_ o k);have e:a6 now none_ o (k :: r)=a6 now none_ (L4 now none_ o k) r:=rfl;rw [e];rcases h with h | h
  ·rw [h];exact F0t now none_ o k m
  ·exact .inr h
theorem z0M (l:List D0) (at_:Int) (m:Nat) (h:1<=m) (hm:m<(T3 l).toNat):gt (Z8 l at_) (m:Int)=-1:=by
 unfold Z8 gt;rw [getD_eq_getElem?_getD,Int.toNat_natCast,List.getElem?_set_ne (by omega),List.getElem?_replicate,if_pos hm];rfl
structure Inv (l:List D0) (may:Nat->Bool) (i:Nat) (vals:List (List Int)) (fB fD:Nat->Nat->Int):Prop where
 first:∀ v∈vals,∃ j:Nat,j<i/\gt v 0=(j:Int)/\may j=true
 rest:∀ v∈vals,∀ m:Nat,1<=m->m<(T3 l).toNat->gt v (m:Int)=-1\/(gt v 0<=gt v (m:Int)/\gt v (m:Int)<(i:Int))
 ahead:∀ k m:Nat,k<vals.length->m<vals.length->gt (gt vals (k:Int)) 0≠gt (gt vals (m:Int)) 0->fB k m=0/\(0<fD k m↔gt (gt vals (k:Int)) 0<gt (gt vals (m:Int)) 0)
section
variable {F:Nat} {l:List D0} {n:Nat} {a:List B0} {b:Nat->List B0} {e:Nat->B0×Bool} {z:B0×Bool}
theorem p0C {t:Int} (h0:0<=t) (h1:t<=400):K7 0 t=0:=by
 unfold K7;rw [Z2 (by omega) (by omega),if_neg (by omega)]
theorem w0N (K:Q4 l n a b e z F) {s:Cs} {i:Nat} (h:a0G l n s i) {may:Nat->Bool} (hv:Inv l may i s.vals s.fB s.fD) (b_:Int) (C0:Bool) (hmay:C0=true->may i=true) :
  Inv l may (i+1) (s.step l n a b b_ C0).vals (s.step l n a b b_ C0).fB (s.step l n a b b_ C0).fD:=by
 have hat:=h.a0;have hvl:=h.ok.len;have src:∀ r∈R1 l n a b s.pl b_ C0,(∃ j:Nat,j<i+1/\gt (gt (b6 l s.at_ s.vals C0) (G2 a b s.pl s.fB s.fD C0 r:Int)) 0=(j:Int)/\may j=true)/\
   (∀ m:Nat,1<=m->m<(T3 l).toNat->gt (gt (b6 l s.at_ s.vals C0) (G2 a b s.pl s.fB s.fD C0 r:Int)) (m:Int)=-1\/(gt (gt (b6 l s.at_ s.vals C0) (G2 a b s.pl s.fB s.fD C0 r:Int)) 0<=gt (gt (b6 l s.at_ s.vals C0) (G2 a b s.pl s.fB s.fD C0 r:Int)) (m:Int)/\gt (gt (b6 l s.at_ s.vals C0) (G2 a b s.pl s.fB s.fD C0 r:Int)) (m:Int)<(i:Int))):=by
  intro r hr;rcases g0c (at_:=s.at_) h.ok hr with ⟨h1,h2⟩ | ⟨h1,_,h2⟩
  ·rw [h2];have hm:=L9 (l:=s.vals) (i:=G2 a b s.pl s.fB s.fD C0 r) (by omega);obtain ⟨j,j1,j2,j3⟩:=hv.first _ hm
   exact ⟨⟨j,by omega,j2,j3⟩,hv.rest _ hm⟩
  ·rw [h2,d0P];exact ⟨⟨i,by omega,hat,hmay h1⟩,fun m m1 m2=>.inl (z0M l _ m m1 m2)⟩
 have val0:∀ r,gt (D7 l a b s.at_ s.pl s.vals s.fB s.fD C0 r) 0=gt (gt (b6 l s.at_ s.vals C0) (G2 a b s.pl s.fB s.fD C0 r:Int)) 0:=fun r=>by unfold D7;rw [d0K]
 refine ⟨fun v hvm=>?_,fun v hvm m m1 m2=>?_,fun k m hk hm hne=>?_⟩
 ·obtain ⟨r,hr,rfl⟩:=mem_map.1 hvm;rw [val0];exact (src r hr).1
 ·obtain ⟨r,hr,rfl⟩:=mem_map.1 hvm;obtain ⟨⟨j,j1,j2,_⟩,s2⟩:=src r hr;rw [val0];unfold D7;rcases t0T s.at_ (-1) m (j5 l (F4 a b s.pl s.fB s.fD C0 r).Steps) (gt (b6 l s.at_ s.vals C0) (G2 a b s.pl s.fB s.fD C0 r:Int)) with h1 | h1 | h1
  ·rw [h1];rcases s2 m m1 m2 with h2 | ⟨h2,h3⟩
   ·exact .inl h2
   ·exact .inr ⟨h2,by omega⟩
  ·rw [h1,j2];exact .inr ⟨by omega,by omega⟩
  ·exact .inl h1
 ·have hlen:(s.step l n a b b_ C0).vals.length=(R1 l n a b s.pl b_ C0).length:=by simp [Cs.step]
  rw [hlen] at hk hm;have hkr:=List.getElem_mem hk;have hmr:=List.getElem_mem hm;have gv:∀ q (hq:q<(R1 l n a b s.pl b_ C0).length),gt (s.step l n a b b_ C0).vals (q:Int)=D7 l a b s.at_ s.pl s.vals s.fB s.fD C0 (R1 l n a b s.pl b_ C0)[q]:=fun q hq=>I3 (by simp [Cs.step,hq]);rw [gv k hk,gv m hm,val0,val0] at hne ⊢;generalize hrk:(R1 l n a b s.pl b_ C0)[k]=rk at *;generalize hrm:(R1 l n a b s.pl b_ C0)[m]=rm at *;have g:=i0j K h.ok b_ C0;have V9:J7 n (gt ((R1 l n a b s.pl b_ C0).map (F4 a b s.pl s.fB s.fD C0)) (k:Int)):=a0O g.hop (by simpa using hk);have hopM:J7 n (gt ((R1 l n a b s.pl b_ C0).map (F4 a b s.pl s.fB s.fD C0)) (m:Int)):=a0O g.hop (by simpa using hm);have fk:((R1 l n a b s.pl b_ C0).map (G2 a b s.pl s.fB s.fD C0)).getD k 0=G2 a b s.pl s.fB s.fD C0 rk:=by simp [List.getD,hk,hrk]
  have fm:((R1 l n a b s.pl b_ C0).map (G2 a b s.pl s.fB s.fD C0)).getD m 0=G2 a b s.pl s.fB s.fD C0 rm:=by simp [List.getD,hm,hrm]
  have hsne:G2 a b s.pl s.fB s.fD C0 rk≠G2 a b s.pl s.fB s.fD C0 rm:=fun e=>hne (by rw [e]);have hkm:k≠m:=fun e=>by subst e;rw [hrk] at hrm;exact hsne (by rw [hrm])
  have key:R3 s.pl C0 s.fB (G2 a b s.pl s.fB s.fD C0 rk) (G2 a b s.pl s.fB s.fD C0 rm)=0/\R3 s.pl C0 s.fB (G2 a b s.pl s.fB s.fD C0 rm) (G2 a b s.pl s.fB s.fD C0 rk)=0/\
    (0<C4 s.pl C0 s.fD (G2 a b s.pl s.fB s.fD C0 rk) (G2 a b s.pl s.fB s.fD C0 rm)↔gt (gt (b6 l s.at_ s.vals C0) (G2 a b s.pl s.fB s.fD C0 rk:Int)) 0<gt (gt (b6 l s.at_ s.vals C0) (G2 a b s.pl s.fB s.fD C0 rm:Int)) 0):=by
   rcases g0c (at_:=s.at_) h.ok hkr with ⟨h1,h2⟩ | ⟨h1,h1',h2⟩<;>rcases g0c (at_:=s.at_) h.ok hmr with ⟨h3,h4⟩ | ⟨h3,h3',h4⟩
   ·rw [h2,h4] at hne ⊢;obtain ⟨p1,p2⟩:=hv.ahead _ _ (by omega) (by omega) hne;obtain ⟨p3,_⟩:=hv.ahead _ _ (by omega) (by omega) (fun e=>hne e.symm);unfold R3 C4 a0T a0S;cases C0 with
    |false=>exact ⟨p1,p3,p2⟩
    |true=>simp only [if_true];rw [if_pos ⟨h1,h3⟩,if_pos ⟨h3,h1⟩,if_pos ⟨h1,h3⟩];exact ⟨p1,p3,p2⟩
   ·rw [h2,h4,d0P] at hne ⊢;obtain ⟨j,j1,j2,_⟩:=hv.first _ (L9 (l:=s.vals) (i:=G2 a b s.pl s.fB s.fD C0 rk) (by omega))
    subst h3;unfold R3 C4 a0T a0S;simp only [if_true];rw [if_neg (by omega),if_neg (by omega),if_neg (by omega),if_pos ⟨h1,h3'⟩,j2,hat];exact ⟨rfl,rfl,by omega⟩
   ·rw [h2,h4,d0P] at hne ⊢;obtain ⟨j,j1,j2,_⟩:=hv.first _ (L9 (l:=s.vals) (i:=G2 a b s.pl s.fB s.fD C0 rm) (by omega))
    subst h1;unfold R3 C4 a0T a0S;simp only [if_true];rw [if_neg (by omega),if_neg (by omega),if_neg (by omega),if_neg (by omega),if_pos ⟨h1',h3⟩,j2,hat];exact ⟨rfl,rfl,by omega⟩
   ·exact absurd (by omega) hsne
  obtain ⟨k1,k2,k3⟩:=key;show H4 l _ _ _ k m=0/\(0<U4 l _ _ _ _ k m↔_);unfold H4 U4;rw [if_neg hkm,if_neg hkm,fk,fm,if_neg hsne,if_neg hsne,k1,p0C V9.t0 V9.t1];refine ⟨rfl,?_⟩;unfold N7;rw [k1,k2,p0C V9.t0 V9.t1,p0C hopM.t0 hopM.t1,if_neg (by omega),if_neg (by omega)];exact k3
end
structure Hs where
 c:Cs
 tags:List Int
 to:Int
 is:Bool
section
variable (l:List D0) (n:Nat) (a:List B0) (b:Nat->List B0) (e:Nat->B0×Bool) (z:B0×Bool)
def Hs.zero:Hs:=⟨Cs.zero,(W9 l z 0).1,0,(W9 l z 0).2⟩
def Hs.M0 (h:Hs) (b_:Int):Cs:=h.c.step l n a b b_ (h.c.at_==0||!h.is)
def Hs.feed (h:Hs) (b_:Int):Hs:=
 if ((h.M0 l n a b b_).U2 l e).2 then ⟨(h.M0 l n a b b_).N1 (gt ((h.M0 l n a b b_).U2 l e).1 0),((h.M0 l n a b b_).U2 l e).1,(h.M0 l n a b b_).at_,true⟩
 else ⟨h.M0 l n a b b_,h.tags,h.to,h.is⟩
def Hs.C (h:Hs):b0Y×List Int×Int×Bool:=(h.c.C l n a b e z,h.tags,h.to,h.is)
def Hs.H (h:Hs):e0w:=⟨h.c.C l n a b e z,h.tags,h.to,h.is⟩
def Hs.X (h:Hs):M9:=⟨h.c.X l n a b e,h.tags,h.to,h.is⟩
end
def Hs.found (h:Hs):List b0G×Bool:=if h.is then (G0Z h.tags h.to,true) else ([],false)
def Hs.over (h:Hs):Bool:=h.is&&(h.c.pl.length==0&&decide (h.c.at_>0))
structure l0H (l:List D0) (n:Nat) (h:Hs) (i:Nat):Prop where
 c:a0G l n h.c i
 t0:0<=h.to
 len:h.tags.length<=1000
 pos:∀ v∈h.c.vals,0<=gt v 0
 is:h.is=true->h.tags.length=(T3 l).toNat/\0<=gt h.tags 0/\∀ v∈h.c.vals,gt v 0<=gt h.tags 0
section
variable {F:Nat} {l:List D0} {n:Nat} {a:List B0} {b:Nat->List B0} {e:Nat->B0×Bool} {z:B0×Bool}
theorem y0Z:l0H l n (Hs.zero l z) 0 where
 c:=I0x l n
 t0:=Int.le_refl _
 len:=B0x
 pos:=by intro v h;cases h
 is:=fun h=>by
  obtain ⟨h1,h2⟩:=B01 (l:=l) (z:=z) (at_:=0) h;exact ⟨h1,by show 0<=gt (W9 l z 0).1 0;omega,by intro v h;cases h⟩
theorem B0n (K:Q4 l n a b e z F):k0y F l=some ((Hs.zero l z).X l n a b e):=by
 unfold k0y;rw [z0I K.hR K.hn K.T K.f1 K.TF];have h0:Q8 l n a b e 0 0 [] [] ⟨[],[]⟩=O3 l n a b e 0 0 [] [] (fun _ _=>0) (fun _ _=>0):=rfl;simp only [E0,h0,y0B K];rfl
theorem F01 (p:List Nat):(((p.length:Int))==0)=(p.length==0):=by rw [Bool.eq_iff_iff];simp
theorem x0h (K:Q4 l n a b e z F) {s:Cs} {i:Nat} (h:a0G l n s i) (b_:Int) (C0:Bool):∀ v∈(s.step l n a b b_ C0).vals,(∃ u∈s.vals,gt v 0=gt u 0)\/(C0=true/\gt v 0=(i:Int)):=by
 intro v hv;obtain ⟨r,hr,rfl⟩:=mem_map.1 hv;unfold D7;rw [d0K];rcases g0c (at_:=s.at_) h.ok hr with ⟨h1,h3⟩ | ⟨h1,_,h3⟩
 ·rw [h3];exact .inl ⟨_,L9 (by rw [h.ok.len];exact h1),rfl⟩
 ·rw [h3,d0P,h.a0];exact .inr ⟨h1,rfl⟩
theorem v0G {s:Cs} {from_:Int} (hl:s.vals.length=s.pl.length):∀ v∈(s.N1 from_).vals,v∈s.vals/\gt v 0<=from_:=by
 intro v hv;obtain ⟨k,hk,rfl⟩:=mem_map.1 hv;have h2:=(List.mem_filter.1 hk).2;exact ⟨L9 (by rw [hl];exact l0o hk),by simpa using h2⟩
end
section
variable {F:Nat} {l:List D0} {n:Nat} {a:List B0} {b:Nat->List B0} {e:Nat->B0×Bool} {z:B0×Bool}
theorem r0J (K:Q4 l n a b e z F) (hw:∀ x∈l,C3 x) {s:Cs} {i:Nat} (h:a0G l n s i) (hi:i<=100000) {b_:Int} (hb:C7 .u8 b_) (C0:Bool) :
  h0B F (s.X l n a b e) b_ C0=some ((s.step l n a b b_ C0).X l n a b e)/\a0G l n (s.step l n a b b_ C0) (i+1):=by
 have h0:=h.a0;have h1:=h.w0;have h2:=h.w1;have hr:=v0f K h.ok b_ C0;refine ⟨z0f K h.ok hw hb C0 (by omega) (by omega) h1 (by omega),s0p K h.ok hw b_ C0,?_,?_,?_⟩
 ·show s.at_+1=_;omega
 ·show 0<=s.work+_;omega
 ·show s.work+_<=_;omega
theorem x0S (K:Q4 l n a b e z F) {s:Cs} {i:Nat} (h:a0G l n s i) (from_:Int) :
  f0I F (s.X l n a b e) from_=some ((s.N1 from_).X l n a b e)/\a0G l n (s.N1 from_) i:=
 ⟨E0d (at_:=s.at_) (work:=s.work) K h.ok from_ rfl,u0t h.ok (w0k s.vals from_ s.pl.length) (fun i h=>l0o h),h.a0,h.w0,h.w1⟩
theorem r0x (K:Q4 l n a b e z F) (hw:∀ x∈l,C3 x) {h:Hs} {i:Nat} (ho:l0H l n h i) (hi:i<=100000) {b_:Int} (hb:C7 .u8 b_) :
  h0T F (h.X l n a b e) b_=some ((h.feed l n a b e b_).X l n a b e)/\l0H l n (h.feed l n a b e b_) (i+1):=by
 obtain ⟨s2,s3⟩:=r0J (e:=e) K hw ho.c hi hb (h.c.at_==0||!h.is);have hfst:=x0h K ho.c b_ (h.c.at_==0||!h.is);have b2:=F0c (e:=e) (at_:=(h.M0 l n a b b_).at_) (work:=(h.M0 l n a b b_).work) K s3.ok;have hx:(if h.c.at_==0 then some true else some (!h.is))=some (h.c.at_==0||!h.is):=by cases h.c.at_==0<;>rfl
 have hpos:∀ v∈(h.M0 l n a b b_).vals,0<=gt v 0:=fun v hv=>by
  rcases hfst v hv with ⟨u,hu,h2⟩ | ⟨_,h2⟩
  ·rw [h2];exact ho.pos u hu
  ·rw [h2];omega
 have hle:h.is=true->∀ v∈(h.M0 l n a b b_).vals,gt v 0<=gt h.tags 0:=fun his v hv=>by
  obtain ⟨_,i2,i3⟩:=ho.is his;rcases hfst v hv with ⟨u,hu,h2⟩ | ⟨hbeg,h2⟩
  ·rw [h2];exact i3 u hu
  ·rw [h2];have h0:=ho.c.a0;rw [his] at hbeg;have:h.c.at_=0:=by simpa using hbeg
   omega
 have hat:(h.M0 l n a b b_).at_=((i+1:Nat):Int):=s3.a0;cases hB:((h.M0 l n a b b_).U2 l e).2 with
 |
  false=>
  have hF:h.feed l n a b e b_=⟨h.M0 l n a b b_,h.tags,h.to,h.is⟩:=by unfold Hs.feed;rw [hB];rfl
  rw [hF];refine ⟨?_,⟨s3,ho.t0,ho.len,hpos,fun his=>?_⟩⟩
  ·unfold h0T Hs.X;rw [show ((h.c.X l n a b e).At==0)=(h.c.at_==0) from rfl];simp only [hx,E0,s2];rw [show h.c.step l n a b b_ (h.c.at_==0||!h.is)=h.M0 l n a b b_ from rfl,show f00 F ((h.M0 l n a b b_).X l n a b e)=some ((h.M0 l n a b b_).U2 l e) from b2];generalize hq:(h.M0 l n a b b_).U2 l e=q at hB ⊢;obtain ⟨q1,q2⟩:=q;simp only at hB;subst hB;rfl
  ·obtain ⟨i1,i2,_⟩:=ho.is his;exact ⟨i1,i2,hle his⟩
 |
  true=>
  obtain ⟨t1,v,v1,v2⟩:=C0u (e:=e) (at_:=(h.M0 l n a b b_).at_) s3.ok hB;have ht:=l8 l;obtain ⟨k2,k3⟩:=x0S (e:=e) K s3 (gt ((h.M0 l n a b b_).U2 l e).1 0);have hF:h.feed l n a b e b_=⟨(h.M0 l n a b b_).N1 (gt ((h.M0 l n a b b_).U2 l e).1 0),((h.M0 l n a b b_).U2 l e).1,(h.M0 l n a b b_).at_,true⟩:=by unfold Hs.feed;rw [hB];rfl
  have t1':((h.M0 l n a b b_).U2 l e).1.length=(T3 l).toNat:=t1;have v2':gt ((h.M0 l n a b b_).U2 l e).1 0=gt v 0:=v2;have hin:y0 ((h.M0 l n a b b_).U2 l e).1 0=true:=P0 (by omega) (by rw [t1'];omega);rw [hF];have kf:=v0G (s:=h.M0 l n a b b_) (from_:=gt ((h.M0 l n a b b_).U2 l e).1 0) s3.ok.len;refine ⟨?_,⟨k3,?_,?_,?_,fun _=>⟨t1',?_,fun u hu=>(kf u hu).2⟩⟩⟩
  ·unfold h0T Hs.X;rw [show ((h.c.X l n a b e).At==0)=(h.c.at_==0) from rfl];simp only [hx,E0,s2];rw [show h.c.step l n a b b_ (h.c.at_==0||!h.is)=h.M0 l n a b b_ from rfl,show f00 F ((h.M0 l n a b b_).X l n a b e)=some ((h.M0 l n a b b_).U2 l e) from b2];have k2':f0I F ((h.M0 l n a b b_).X l n a b e) (gt ((h.M0 l n a b b_).U2 l e).1 0)=_:=k2;generalize hq:(h.M0 l n a b b_).U2 l e=q at hB hin k2' ⊢;obtain ⟨q1,q2⟩:=q;simp only at hB hin k2';subst hB;simp only [E0,if_true,hin,k2'];rfl
  ·show 0<=(h.M0 l n a b b_).at_;omega
  ·show ((h.M0 l n a b b_).U2 l e).1.length<=1000;omega
  ·intro u hu;exact hpos u (kf u hu).1
  ·show 0<=gt ((h.M0 l n a b b_).U2 l e).1 0;rw [v2'];exact hpos v v1
end
