/- P. Its conditions: none. -/
import Derived.Test.YtmhooikfkhjijaaGreatYG48
import Derived.Test.YtmhooikfkhjijaaGreatYX15
open Bool (false_eq_true)
set_option linter.all false
namespace Go.Proofs.YtmhooikfkhjijaaGreat
open Go.V Go.RowKit Old Go.X
def N0G {α:Type}{p:α->Bool}:∀(l:List α) (i:Nat) (x:α),l[i]?=some x->p x=true->(∀j y,j<i->l[j]?=some y->p y=false)->l.find? p=some x
 |[],i,x,h,_,_=>by simp at h
 |y :: r,0,x,h,hp,_=>by simp at h;subst h;simp[hp]
 |
  y :: r,i+1,x,h,hp,hn=>by
  have h0:=hn 0 y (by omega) (by simp);simp only[List.find?_cons,h0];exact N0G r i x (by simpa using h) hp (fun j z hj hz=>hn (j+1) z (by omega) (by simpa using hz))
section
variable {F:Nat}{l:List U0}{n:Nat}{a:List E1}{b:Nat->List E1}{e:Nat->E1×Bool}{z:E1×Bool}{at_ work:Int}{pl:List Nat}{vals:List (List Int)}{fB fD:Nat->Nat->Int}
def U0x {ws:List E1}(hl:ws.length<=1000000)(hf:2000001<F)(r:Nat):J0i F ws (r:Int)=some (D0u ws r,(C0l ws r).isSome):=by
 unfold J0i;have key:∀k i,i+k=ws.length->(∀j y,j<i->ws[j]?=some y->(y.To==(r:Int))=false)->∀m,k<m->
   iter (F0W F ws (r:Int)) m (i:Int)=some (match C0l ws r with|some y=>.inl y|none=>.inr ()):=by
  intro k
  induction k with
  |
   zero=>
   intro i hi hj m hm;obtain⟨m,rfl⟩:∃q,m=q+1:=⟨m-1,by omega⟩
   have hnone:C0l ws r=none:=by
    unfold C0l;rw[List.find?_eq_none];intro x hx;obtain⟨j,hjl,he⟩:=List.mem_iff_getElem.1 hx;have:=hj j x (by omega) (by rw[List.getElem?_eq_getElem hjl,he]);simp[this]
   refine G0L ?_;unfold F0W;have h1:¬((i:Int)<(ws.length:Int)):=by omega
   simp only[q0,h1,hnone]
  |
   succ k ih=>
   intro i hi hj m hm;obtain⟨m,rfl⟩:∃q,m=q+1:=⟨m-1,by omega⟩
   have hil:i<ws.length:=by omega
   have h1:(i:Int)<(ws.length:Int):=by omega
   have hin:y0 ws (i:Int)=true:=B4 (by omega) h1;cases hc:((gt ws (i:Int)).To==(r:Int))with
   |
    true=>
    have hsome:C0l ws r=some (gt ws (i:Int)):=N0G ws i _ (B01 hil) hc hj;refine G0L ?_;unfold F0W;simp only[h1,decide_true,if_true,hin,hc,hsome]
   |
    false=>
    have hn:=ih (i+1) (by omega) (fun j y hj2 hy=>by
     rcases Nat.lt_or_ge j i with c|c
     ·exact hj j y c hy
     ·obtain rfl:j=i:=by omega
      rw[B01 hil]at hy;cases hy;exact hc) m (by omega)
    rw[<-hn];refine L0r ?_;unfold F0W;simp only[q0,h1,hin,hc,R2 (i:=i) (by omega)]
 have h2:iter (F0W F ws (r:Int)) F 0=_:=key ws.length 0 (by omega) (by intro j y hj;omega) F (by omega);rw[h2];unfold D0u;cases C0l ws r<;>rfl
def T0W {Ws:List (List E1)}(hW:∀i,i<Ws.length->(Ws.getD i []).length<=500000)(hM:Ws.length<=1000)(hf:2000001<F)(r:Nat)(y2:List Int)(y3:List E1):
  iter (F0Y F Ws (r:Int)) F ([],[],0,y2,y3)=some (a0B (z0X Ws r Ws.length),B0X Ws r Ws.length,y2,y3):=by
 have:=j0K (step:=F0Y F Ws (r:Int)) (fun i=>(a0B (z0X Ws r i),B0X Ws r i,(i:Int),y2,y3)) (a0B (z0X Ws r Ws.length),B0X Ws r Ws.length,y2,y3) Ws.length (fun i hi=>.inl ?_) ?_ Ws.length 0 F (by omega) (by omega)
 ·exact this
 ·have h1:(i:Int)<(Ws.length:Int):=by omega
  have hg:gt Ws (i:Int)=Ws.getD i []:=by
   refine Y5 ?_;simp[List.getD,hi]
  have hl1:=J0u Ws r i;have hl2:=I0D Ws r i;have ap1:C1 8 (a0B (z0X Ws r i)) [(i:Int)]=true:=by simp[C1];omega
  have ap2:C1 40 (B0X Ws r i) [D0u (Ws.getD i []) r]=true:=by simp[C1];omega
  unfold F0Y;simp only[h1,decide_true,if_true,B4 (l:=Ws) (i:=(i:Int)) (by omega) h1,hg,U0x (show(Ws.getD i []).length<=1000000 by have:=hW i hi;omega) hf,F1,J0M,O01,R2 (i:=i) (by omega)];cases hc:(C0l (Ws.getD i []) r).isSome with
  |false=>simp only[q0,List.append_nil]
  |true=>simp only[if_true,ap1,ap2,F1,F0d]
 ·unfold F0Y;have h1:¬((Ws.length:Int)<(Ws.length:Int)):=by omega
  simp only[q0,h1]
abbrev xT (l:List U0)(n:Nat)(a:List E1)(b:Nat->List E1)(e:Nat->E1×Bool)(at_ work:Int)(places:List Int)(tags:List (List Int))(rank:P1):(List U0)×(List Int)×(List E1)×(List (List E1))×(List (List Int))×Int×Int×(List Int)×(List (List Int))×P1:=
 (l,e0L l l.length,a,(List.range n).map b,(List.range n).map fun p=>(e p).1.Steps,at_,work,places,tags,rank)
set_option maxHeartbeats 2000000 in
def W0r (K:B0H l n a b e z F)(C:B02 l n pl vals fB fD)(hw:∀x∈l,l02 x){b_:Int}(hb:inK .u8 b_)(beg:Bool)(hw0:0<=work)(hw1:work<=1000000000000){r:Nat}(hr:r<n)(rk:P1):
  G0o F (mkX l n a b e at_ work pl vals fB fD) b_ (goV l at_ vals beg) (e6 a b pl beg) (b0U (goM pl beg) (goB pl beg fB) (goD pl beg fD))
   (a0B ((A0k (d0e l b_) (e6 a b pl beg) r).map (stS a b pl fB fD beg)),(A0k (d0e l b_) (e6 a b pl beg) r).map (stH a b pl fB fD beg),(r:Int),xT l n a b e at_ (work+(B0W (d0e l b_) (e6 a b pl beg) r:Int)) (a0B (A0k (d0e l b_) (e6 a b pl beg) r)) ((A0k (d0e l b_) (e6 a b pl beg) r).map (stV l a b at_ pl vals fB fD beg)) rk) =
  some (.next (a0B ((A0k (d0e l b_) (e6 a b pl beg) (r+1)).map (stS a b pl fB fD beg)),(A0k (d0e l b_) (e6 a b pl beg) (r+1)).map (stH a b pl fB fD beg),((r+1:Nat):Int),xT l n a b e at_ (work+(B0W (d0e l b_) (e6 a b pl beg) (r+1):Int)) (a0B (A0k (d0e l b_) (e6 a b pl beg) (r+1))) ((A0k (d0e l b_) (e6 a b pl beg) (r+1)).map (stV l a b at_ pl vals fB fD beg)) rk)):=by
 have f1:=K.f1;have f3:=K.f3;have hn:=K.T.n64;have hM:=J0z K C beg;have hWl:=D0B a b pl beg;obtain⟨hc1,hc2⟩:=M0F K C beg r;have hch:=I0D (e6 a b pl beg) r (e6 a b pl beg).length;have hPl:=K03 (d0e l b_) (e6 a b pl beg) r;have hwn:=H0A (d0e l b_) (e6 a b pl beg) r;have hwn2:r*(e6 a b pl beg).length<=400*401:=Nat.mul_le_mul (by omega) (by omega);have ht:=C0D l;have hll:=C0e l l.length;have hKn:=K.hn;have hx:(r:Int)<((e0L l l.length).length:Int):=by omega
 obtain⟨q,q1,q2,q3⟩:=F0C l K.hn (x:=(r:Int)) (by omega) (by omega);obtain⟨_,_,s3⟩:=setOf l K.hn hw hr;have hH:hasB (gt l (gt (e0L l l.length) (r:Int))).Set b_=d0e l b_ r:=rfl;have hgr:=G0x C beg;have h22:∀y2 y3,iter (F0Y F (e6 a b pl beg) (r:Int)) F ([],[],0,y2,y3)=some (a0B (z0X (e6 a b pl beg) r (e6 a b pl beg).length),B0X (e6 a b pl beg) r (e6 a b pl beg).length,y2,y3):=fun y2 y3=>T0W (fun i hi=>(H0i K C beg i hi).2.1) (by omega) f1 r y2 y3;unfold G0o;simp only[q0,mkX,C0V,hx,q3,B4 (l:=l) (i:=gt (e0L l l.length) (r:Int)) (by omega) (by omega),(N0r F s3 hb).2,hH,M05,B0W,R2 (i:=r) (by omega),h22];cases hP:d0e l b_ r with
 |false=>simp only[q0,Bool.false_and,List.append_nil,Nat.add_zero]
 |
  true=>
  simp only[q0,Bool.true_and];have hW0:W (work+(B0W (d0e l b_) (e6 a b pl beg) r:Int)+(((a0B (z0X (e6 a b pl beg) r (e6 a b pl beg).length)).length:Nat):Int))=work+((B0W (d0e l b_) (e6 a b pl beg) r+(z0X (e6 a b pl beg) r (e6 a b pl beg).length).length:Nat):Int):=by rw[c0R (by simp;omega) (by simp;omega)];simp;omega
  simp only[hW0];have hpk:=P0U (F:=F) (n:=goM pl beg) (fB:=goB pl beg fB) (fD:=goD pl beg fD) (fr:=z0X (e6 a b pl beg) r (e6 a b pl beg).length) (hops:=B0X (e6 a b pl beg) r (e6 a b pl beg).length) (by omega) (by omega) hgr hch (by omega) hc2
  by_cases h0:z0X (e6 a b pl beg) r (e6 a b pl beg).length=[]
  ·have hpk2:G0Q F (b0U (goM pl beg) (goB pl beg fB) (goD pl beg fD)) (a0B (z0X (e6 a b pl beg) r (e6 a b pl beg).length)) (B0X (e6 a b pl beg) r (e6 a b pl beg).length)=some (-1):=by
    rw[hpk,h0,L0l]
   simp only[hpk2,F1,show decide ((-1:Int)<0)=true from rfl,if_true];simp only[q0,h0,List.isEmpty_nil,List.append_nil]
  ·obtain⟨k1,k2⟩:=J0q (fB:=goB pl beg fB) (fD:=goD pl beg fD) h0;have hne:(z0X (e6 a b pl beg) r (e6 a b pl beg).length).isEmpty=false:=by simpa using h0
   rw[k1]at hpk;have k3:¬((C07 (goB pl beg fB) (goD pl beg fD) (e6 a b pl beg) r:Nat):Int)<0:=by omega
   have hsl:stS a b pl fB fD beg r<goM pl beg:=by rw[<-hWl];exact F0g h0
   obtain⟨v1,v2⟩:=L0w (K0C (at_:=at_) C beg) (K0t C beg) hsl;obtain⟨p1,p2⟩:=N0C K C (b_:=b_) (beg:=beg) h0;have hsrc:(((z0X (e6 a b pl beg) r (e6 a b pl beg).length).getD (C07 (goB pl beg fB) (goD pl beg fD) (e6 a b pl beg) r) 0:Nat):Int)=(stS a b pl fB fD beg r:Int):=rfl;have hhop:gt (B0X (e6 a b pl beg) r (e6 a b pl beg).length) ((C07 (goB pl beg fB) (goD pl beg fD) (e6 a b pl beg) r:Nat):Int)=stH a b pl fB fD beg r:=M03 h0;have hrin:y0 (B0X (e6 a b pl beg) r (e6 a b pl beg).length) ((C07 (goB pl beg fB) (goD pl beg fD) (e6 a b pl beg) r:Nat):Int)=true:=B4 (by omega) (by omega);have ap1:C1 8 (a0B (A0k (d0e l b_) (e6 a b pl beg) r)) [(r:Int)]=true:=by simp[C1];omega
   have ap2:C1 24 ((A0k (d0e l b_) (e6 a b pl beg) r).map (stV l a b at_ pl vals fB fD beg)) [stV l a b at_ pl vals fB fD beg r]=true:=by simp[C1];omega
   have ap3:C1 8 (a0B ((A0k (d0e l b_) (e6 a b pl beg) r).map (stS a b pl fB fD beg))) [(stS a b pl fB fD beg r:Int)]=true:=by simp[C1];omega
   have ap5:C1 40 ((A0k (d0e l b_) (e6 a b pl beg) r).map (stH a b pl fB fD beg)) [stH a b pl fB fD beg r]=true:=by simp[C1];omega
   have hol:=E0y l (stH a b pl fB fD beg r).Steps;have hof:=M0a K.hR K.hl p1 K.f1 K.f2 (l4.sok p2);have hap:=K00 (F:=F) (marks:=OfF l (stH a b pl fB fD beg r).Steps) (now:=at_) (none_:=-1) (show(gt (goV l at_ vals beg) (stS a b pl fB fD beg r:Int)).length<=1000 by omega) (by omega) (by omega);have hav:A0G at_ (-1) (gt (goV l at_ vals beg) (stS a b pl fB fD beg r:Int)) (OfF l (stH a b pl fB fD beg r).Steps)=stV l a b at_ pl vals fB fD beg r:=rfl;rw[hav]at hap;simp only[q0,hpk,k3,ap1,C0f k2,C0B k2,hsrc,v2,hrin,hhop,hof,hap,ap2,ap3,ap5,hne,F0d,List.map_append,List.map_cons,List.map_nil]
set_option maxHeartbeats 2000000 in
def V0o (K:B0H l n a b e z F)(C:B02 l n pl vals fB fD)(hw:∀x∈l,l02 x){b_:Int}(hb:inK .u8 b_)(beg:Bool)(ha0:0<=at_)(ha1:at_<=1000000)(hw0:0<=work)(hw1:work<=1000000000000):
  H0T F (mkX l n a b e at_ work pl vals fB fD) b_ beg=some (mkX l n a b e (at_+1) (work+stW l n a b pl b_ beg) (stP l n a b pl b_ beg) ((stP l n a b pl b_ beg).map (stV l a b at_ pl vals fB fD beg))
   (A0Q l (goB pl beg fB) ((stP l n a b pl b_ beg).map (stS a b pl fB fD beg)) ((stP l n a b pl b_ beg).map (stH a b pl fB fD beg))) (A0R l (goB pl beg fB) (goD pl beg fD) ((stP l n a b pl b_ beg).map (stS a b pl fB fD beg)) ((stP l n a b pl b_ beg).map (stH a b pl fB fD beg)))):=by
 have f1:=K.f1;have hm:=C.le;have hn:=K.T.n64;have hvl:=C.len;have hM:=J0z K C beg;have hWl:=D0B a b pl beg;have hrng:=J0U K C b_ beg;have hll:=C0e l l.length;have hKn:=K.hn;have l3:=j0K (step:=H0z F (mkX l n a b e at_ work pl vals fB fD)) (fun i=>((pl.take i).map b,(i:Int))) (pl.map b) pl.length (fun i hi=>.inl ?_) ?_ pl.length 0 F (by omega) (by omega)
 ·have e3:iter (H0z F (mkX l n a b e at_ work pl vals fB fD)) F ([],0)=_:=l3;have hloop:=j0K (step:=G0o F (mkX l n a b e at_ work pl vals fB fD) b_ (goV l at_ vals beg) (e6 a b pl beg) (b0U (goM pl beg) (goB pl beg fB) (goD pl beg fD)))
   (fun r=>(a0B ((A0k (d0e l b_) (e6 a b pl beg) r).map (stS a b pl fB fD beg)),(A0k (d0e l b_) (e6 a b pl beg) r).map (stH a b pl fB fD beg),(r:Int),xT l n a b e at_ (work+(B0W (d0e l b_) (e6 a b pl beg) r:Int)) (a0B (A0k (d0e l b_) (e6 a b pl beg) r)) ((A0k (d0e l b_) (e6 a b pl beg) r).map (stV l a b at_ pl vals fB fD beg)) (b0U pl.length fB fD)))
   (a0B ((stP l n a b pl b_ beg).map (stS a b pl fB fD beg)),(stP l n a b pl b_ beg).map (stH a b pl fB fD beg),xT l n a b e at_ (work+(B0W (d0e l b_) (e6 a b pl beg) n:Int)) (a0B (stP l n a b pl b_ beg)) ((stP l n a b pl b_ beg).map (stV l a b at_ pl vals fB fD beg)) (b0U pl.length fB fD)) n
   (fun r hr=>.inl (W0r K C hw hb beg hw0 hw1 hr _)) ?_ n 0 F (by omega) (by omega)
  ·have hz:work+(B0W (d0e l b_) (e6 a b pl beg) 0:Int)=work:=by simp[B0W]
   rw[hz]at hloop;have h2:iter (G0o F (mkX l n a b e at_ work pl vals fB fD) b_ (goV l at_ vals beg) (e6 a b pl beg) (b0U (goM pl beg) (goB pl beg fB) (goD pl beg fD))) F ([],[],0,(l,e0L l l.length,a,(List.range n).map b,(List.range n).map fun p=>(e p).1.Steps,at_,work,[],[],b0U pl.length fB fD))=_:=hloop;have hin:(Option.bind (α:=((List (List Int))×(List (List E1))×P1)) (
     if beg then
      if C1 24 ([]:List (List Int)) vals then
       Option.bind (F0V F (mkX l n a b e at_ work pl vals fB fD)) fun begun=>
       if C1 24 ([]++vals) [begun]then
        if C1 24 (pl.map b) [a]then
         Option.bind (H0l F (b0U pl.length fB fD)) fun with_=>
         some (([]++vals)++[begun],pl.map b++[a],with_)
        else none
       else none
      else none
     else
      some (vals,pl.map b,b0U pl.length fB fD)) (fun r=>some r))=some (goV l at_ vals beg,e6 a b pl beg,b0U (goM pl beg) (goB pl beg fB) (goD pl beg fD)):=by
    unfold goV e6 goM goB goD;cases beg with
    |false=>simp
    |
     true=>
     have ap0:C1 24 ([]:List (List Int)) vals=true:=by simp[C1];omega
     have ap1:C1 24 vals [D0b l at_]=true:=by simp[C1];omega
     have ap2:C1 24 (pl.map b) [a]=true:=by simp[C1];omega
     have hb:=N07 K (mkX l n a b e at_ work pl vals fB fD) rfl;have hb2:D0b l (mkX l n a b e at_ work pl vals fB fD).At=D0b l at_:=rfl;simp only[if_true,hb,hb2,F1,ap0,ap1,ap2,S0v (show pl.length<=900 by omega) (show 2000<F by omega) C.rk,List.nil_append]
   rw[C0k]at hin;unfold H0T;rw[s6];have x1:(mkX l n a b e at_ work pl vals fB fD).Tags=vals:=rfl;have x2:(mkX l n a b e at_ work pl vals fB fD).Rank=b0U pl.length fB fD:=rfl;have x3:(mkX l n a b e at_ work pl vals fB fD).First=a:=rfl;have x4:(mkX l n a b e at_ work pl vals fB fD).L=l:=rfl;have x5:(mkX l n a b e at_ work pl vals fB fD).Leaves=e0L l l.length:=rfl;have x6:(mkX l n a b e at_ work pl vals fB fD).Hops=(List.range n).map b:=rfl;have x7:(mkX l n a b e at_ work pl vals fB fD).Ends=(List.range n).map fun p=>(e p).1.Steps:=rfl;have x8:(mkX l n a b e at_ work pl vals fB fD).At=at_:=rfl;have x9:(mkX l n a b e at_ work pl vals fB fD).Work=work:=rfl;simp only[F1,e3,x1,x2,x3,x4,x5,x6,x7,x8,x9,hin,h2];have hnx:=T0M (F:=F) hw K.hR K.hn K.hl (show 2000<F by omega) K.f2 K.TF.rL (show goM pl beg<=1000 by omega) (G0x C beg) (K0r K C b_ beg);have htg:=J0o K.hR K.hl (show 401<F by omega) K.f2;simp only[hnx,F1,List.length_map,E0u,htg];obtain⟨q1,q2,q3,q4,q5,q6,q7⟩:=hrng;rw[c0R (n:=at_+1) (by omega) (by omega),c0R (n:=((stP l n a b pl b_ beg).length:Int)*f0n l) (by omega) (by omega),c0R (n:=((stP l n a b pl b_ beg).length:Int)*((stP l n a b pl b_ beg).length:Int)) (by omega) (by omega)];rw[c0R (n:=work+(B0W (d0e l b_) (e6 a b pl beg) n:Int)+((stP l n a b pl b_ beg).length:Int)*f0n l) (by omega) (by omega)];rw[c0R (n:=work+(B0W (d0e l b_) (e6 a b pl beg) n:Int)+((stP l n a b pl b_ beg).length:Int)*f0n l+((stP l n a b pl b_ beg).length:Int)*((stP l n a b pl b_ beg).length:Int)) (by omega) (by omega)];have hww:work+(B0W (d0e l b_) (e6 a b pl beg) n:Int)+((stP l n a b pl b_ beg).length:Int)*f0n l+((stP l n a b pl b_ beg).length:Int)*((stP l n a b pl b_ beg).length:Int)=work+stW l n a b pl b_ beg:=by unfold stW;omega
   rw[hww];rfl
  ·unfold G0o;have h1:¬((n:Int)<((e0L l l.length).length:Int)):=by omega
   simp only[q0,mkX,C0V,h1];rfl
 ·unfold H0z;have h1:(i:Int)<((a0B pl).length:Int):=by simp;omega
  have hp:=C0t C.pln hi;have hap:C1 24 ((pl.take i).map b) [b (pl.getD i 0)]=true:=by simp[C1];omega
  have ht:pl.take (i+1)=pl.take i++[pl.getD i 0]:=by rw[G0i hi];simp[List.getD,hi]
  simp only[mkX,C0V,h1,decide_true,if_true,C0f hi,C0B hi,E0d hp,E0g hp,hap,ht,List.map_append,List.map_cons,List.map_nil,R2 (i:=i) (by omega)]
 ·unfold H0z;have h1:¬((pl.length:Int)<((a0B pl).length:Int)):=by simp
  simp only[q0,mkX,C0V,h1,List.take_length]
end
abbrev Fb:Nat:=10000000000000
def K04 {p:List U0}(h:V4 en 20 (.list (.st 0)) p):∀x∈p,l02 x:=fun x hx=>by
 obtain⟨h1,h2,h3,h4,⟨h5,h6⟩,_⟩:=h x hx;exact⟨h1,h2,h3,h4,h5,h6⟩
def gtm {α:Type}[Inhabited α]{l:List α}{i:Nat}(h:i<l.length):gt l (i:Int)∈l:=List.mem_of_getElem? (B01 h)
section
variable {l:List U0}
def O0C (hR:e0M l=false)(hl:l.length*64<=140737488351232)(h40:l.length<=1000):R7 Fb l=some false/\C0n Fb l=some false:=by
 refine⟨C0p H0Q (by rw[Old.E0b l (show 401<Fb by unfold Fb;omega),hR]),C0p F0s (by rw[Old.D0v l hl (show l.length+1<Fb by unfold Fb;omega),hR])⟩
def b1X (hR:e0M l=false)(hl:l.length*64<=140737488351232)(h40:l.length<=1000):H06 Fb l=some (.inl (),11):=by
 unfold H06;rw[(O0C hR hl h40).1];rfl
def known (hw:∀x∈l,l02 x)(hR:e0M l=true)(hl:l.length*64<=140737488351232)(h40:l.length<=1000):∃a b e z,B0H l (u5 l l.length) a b e z Fb:=by
 obtain⟨a,b,e,z,T,TF⟩:=L0Z hw hl hR;exact⟨a,b,e,z,hR,hl,rfl,T,by unfold Fb;omega,by unfold Fb;omega,by unfold Fb;omega,TF Fb (by unfold Fb;omega) (by unfold Fb;omega)⟩
def W0s (l:List U0)(n:Nat):B02 l n [] [] (fun _ _=>0) (fun _ _=>0) where
 len:=rfl
 pln:=by intro p h;cases h
 asc:=List.Pairwise.nil
 row:=by intro v h;cases h
 rk:=⟨fun i k h=>by simp at h,fun i h=>rfl,fun i h=>rfl,fun i k h=>by simp at h,fun i k h=>by simp at h⟩
end
def X09 {S ρ:Type}{body:S->Option (T0 S ρ)}(n:Nat)(g:Nat->S)(res:ρ)(hs:∀i,i<n->body (g i)=some (.next (g (i+1))))(he:body (g n)=some (.done res)){fu:Nat}(h:n<fu):iter body fu (g 0)=some res:=by
 have key:∀(k i fu:Nat),i+k=n->k<fu->iter body fu (g i)=some res:=by
  intro k
  induction k with
  |
   zero=>
   intro i fu hi hfu;obtain⟨fu,rfl⟩:∃m,fu=m+1:=⟨fu-1,by omega⟩
   unfold iter;rw[show i=n by omega,he]
  |
   succ k ih=>
   intro i fu hi hfu;obtain⟨fu,rfl⟩:∃m,fu=m+1:=⟨fu-1,by omega⟩
   unfold iter;rw[hs i (by omega)];exact ih (i+1) fu (by omega) (by omega)
 exact key n 0 fu (by omega) h
def Y0Q {ρ:Type}{body:Int->Option (T0 Int ρ)}(n:Nat)(res:ρ)(hs:∀i:Nat,i<n->body (i:Int)=some (.next ((i+1:Nat):Int)))(he:body (n:Int)=some (.done res)){fu:Nat}(h:n<fu):iter body fu 0=some res:=
 X09 n (fun i=>(i:Int)) res hs he h
def Q7 (a b:Int):V1:=if a<0\/b<0 then⟨-1,-1⟩else⟨a,b⟩
def z6 (tags:List Int)(to:Int):Nat->List V1
 |0=>[Q7 (gt tags 0) to]
 |k+1=>z6 tags to k++[Q7 (gt tags ((2*k+1:Nat):Int)) (gt tags ((2*k+2:Nat):Int))]
def a0h (tags:List Int)(to:Int):List V1:=if tags.length % 2=0 then[]else z6 tags to (tags.length / 2)
def g0k (tags:List Int)(to:Int):∀k,(z6 tags to k).length=k+1
 |0=>rfl
 |k+1=>by simp[z6,g0k tags to k]
def i0L (n:Nat):Int.tmod (n:Int) 2=((n % 2:Nat):Int):=rfl
def t0T {tags:List Int}{to:Int}{fuel:Nat}(hl:tags.length<=1000)(hf:2000<fuel):b0E fuel tags to=some (a0h tags to):=by
 unfold b0E a0h;rw[i0L]
 by_cases c:tags.length % 2=0
 ·simp[c]
 have c':(((tags.length % 2:Nat):Int)==0)=false:=by rw[beq_eq_false_iff_ne];omega
 rw[if_neg c];simp only[c',false_eq_true,if_false];have hodd:tags.length % 2=1:=by omega
 have h:=X09 (body:=c0I fuel tags to) (fu:=fuel) tags.length (fun i=>((if i=0 then[]else z6 tags to (i / 2)),(i:Int))) (z6 tags to (tags.length / 2)) (fun i hi=>by
  have hin:y0 tags (i:Int)=true:=B4 (by omega) (by omega);have hd:(i:Int)<(tags.length:Int):=by omega
  unfold c0I;simp only[q0,hd,hin,R2 (show i<=1000000000 by omega),i0L,Nat.succ_ne_zero]
  by_cases c0:i=0
  ·subst c0;have e1:¬((0:Nat):Int)>0:=by omega
   by_cases n1:gt tags 0<0
   ·simp[n1,z6,Q7,a7]
   ·by_cases n2:to<0
    ·simp[n1,n2,z6,Q7,a7]
    ·simp[n1,n2,z6,Q7,a7]
  ·have e1:(i:Int)>0:=by omega
   simp only[q0,e1,c0]
   by_cases c2:i % 2=0
   ·have c2':(((i % 2:Nat):Int)==0)=true:=by simp[c2]
    have e2:(i+1) / 2=i / 2:=by omega
    simp only[c2',if_true,F1,e2]
   ·have c2':(((i % 2:Nat):Int)==0)=false:=by rw[beq_eq_false_iff_ne];omega
    have hin2:y0 tags ((i+1:Nat):Int)=true:=B4 (by omega) (by omega);have e2:(i+1) / 2=i / 2+1:=by omega
    have e3:2*(i / 2)+1=i:=by omega
    have e4:2*(i / 2)+2=i+1:=by omega
    have hap:∀y,C1 16 (z6 tags to (i / 2)) [y]=true:=fun y=>a7 (by rw[g0k];simp;omega);simp only[q0,c2',hin2,e2,z6,e3,e4]
    by_cases n1:gt tags (i:Int)<0
    ·simp[n1,Q7,hap]
    ·by_cases n2:gt tags ((i+1:Nat):Int)<0
     ·simp only[q0,n1,n2,hap,Q7,or_true]
     ·simp only[q0,n1,n2,hap,Q7,or_self]) (by
  unfold c0I;have:¬tags.length=0:=by omega
  simp[this]) (by omega)
 have h0:iter (c0I fuel tags to) fuel (([]:List V1),0)=some (z6 tags to (tags.length / 2)):=h;rw[h0];rfl
def m0S {a b:Int}{fuel:Nat}:c0Y fuel a b=some (Q7 a b):=by
 unfold c0Y Q7
 by_cases n1:a<0
 ·simp[n1]
 ·by_cases n2:b<0
  ·simp[n1,n2]
  ·simp[n1,n2]
def x0B {tags:List Int}{to:Int}{fuel:Nat}(hl:tags.length<=1000)(hf:2000<fuel):d0Y fuel tags to=some (a0h tags to):=by
 unfold d0Y a0h;rw[i0L]
 by_cases c:tags.length % 2=0
 ·simp[c]
 have c':(((tags.length % 2:Nat):Int)==0)=false:=by rw[beq_eq_false_iff_ne];omega
 have hin0:y0 tags 0=true:=B4 (by omega) (by omega);rw[if_neg c];simp only[q0,c',hin0,m0S];have h:=X09 (body:=c0B fuel tags) (fu:=fuel) (tags.length / 2) (fun k=>(z6 tags to k,((2*k+1:Nat):Int))) (z6 tags to (tags.length / 2)) (fun k hk=>by
  have hin:y0 tags ((2*k+1:Nat):Int)=true:=B4 (by omega) (by omega);have hin2:y0 tags ((2*k+1+1:Nat):Int)=true:=B4 (by omega) (by omega);have hd:((2*k+1+1:Nat):Int)<(tags.length:Int):=by omega
  have e:W (((2*k+1:Nat):Int)+2)=((2*(k+1)+1:Nat):Int):=by rw[c0R (by omega) (by omega)];omega
  unfold c0B;simp only[q0,R2 (show 2*k+1<=1000000000 by omega),hd,hin,hin2,m0S,e];rw[if_pos (a7 (by rw[g0k];simp;omega))];rfl) (by
  have hd:¬((2*(tags.length / 2)+1+1:Nat):Int)<(tags.length:Int):=by omega
  unfold c0B;simp only[q0,R2 (show 2*(tags.length / 2)+1<=1000000000 by omega),hd]) (by omega)
 have h0:iter (c0B fuel tags) fuel ([Q7 (gt tags 0) to],1)=some (z6 tags to (tags.length / 2)):=h;rw[h0];rfl
def l0a (tags:List Int)(to:Int)(h:tags.length<=1000):(a0h tags to).length<=1000:=by
 unfold a0h;split
 ·simp
 ·rw[g0k];omega
def i00 {a:List V1}{fuel:Nat}(hl:a.length<=1000)(hf:2000<fuel):H9 fuel a a=some true:=by
 unfold H9;have h:=Y0Q (body:=e00 fuel a a) (fu:=fuel) a.length (.inr ()) (fun i hi=>by
  have hin:y0 a (i:Int)=true:=B4 (by omega) (by omega);have hd:(i:Int)<(a.length:Int):=by omega
  unfold e00;simp[hd,hin,R2 (show i<=1000000000 by omega)]) (by unfold e00;simp) (by omega)
 simp[h]
structure Cs where
 at_:Int
 work:Int
 pl:List Nat
 vals:List (List Int)
 fB:Nat->Nat->Int
 fD:Nat->Nat->Int
def Cs.zero:Cs:=⟨0,0,[],[],fun _ _=>0,fun _ _=>0⟩
def Cs.step (l:List U0)(n:Nat)(a:List E1)(b:Nat->List E1)(s:Cs)(b_:Int)(beg:Bool):Cs:=
 ⟨s.at_+1,s.work+stW l n a b s.pl b_ beg,stP l n a b s.pl b_ beg,(stP l n a b s.pl b_ beg).map (stV l a b s.at_ s.pl s.vals s.fB s.fD beg),
  A0Q l (goB s.pl beg s.fB) ((stP l n a b s.pl b_ beg).map (stS a b s.pl s.fB s.fD beg)) ((stP l n a b s.pl b_ beg).map (stH a b s.pl s.fB s.fD beg)),
  A0R l (goB s.pl beg s.fB) (goD s.pl beg s.fD) ((stP l n a b s.pl b_ beg).map (stS a b s.pl s.fB s.fD beg)) ((stP l n a b s.pl b_ beg).map (stH a b s.pl s.fB s.fD beg))⟩
def Cs.Y0 (s:Cs)(from_:Int):Cs:=
 let st:=z06 s.vals from_ s.pl.length
 ⟨s.at_,s.work,st.map fun i=>s.pl.getD i 0,st.map fun i:Nat=>gt s.vals (i:Int),fun i k=>s.fB (st.getD i 0) (st.getD k 0),fun i k=>s.fD (st.getD i 0) (st.getD k 0)⟩
section
variable (l:List U0)(n:Nat)(a:List E1)(b:Nat->List E1)(e:Nat->E1×Bool)(z:E1×Bool)
def Cs.C (s:Cs):h0r:=mkC l n a b e z s.at_ s.work s.pl s.vals s.fB s.fD
def Cs.X (s:Cs):B07:=mkX l n a b e s.at_ s.work s.pl s.vals s.fB s.fD
def Cs.c0U (s:Cs):List Int×Bool:=E0l l e s.at_ s.pl s.vals s.fD
end
structure E0z (l:List U0)(n:Nat)(s:Cs)(i:Nat):Prop where
 ok:B02 l n s.pl s.vals s.fB s.fD
 a0:s.at_=i
 w0:0<=s.work
 w1:s.work<=1000000*i
section
variable {F:Nat}{l:List U0}{n:Nat}{a:List E1}{b:Nat->List E1}{e:Nat->E1×Bool}{z:E1×Bool}
def W0m (l:List U0)(n:Nat):E0z l n Cs.zero 0:=⟨W0s l n,rfl,Int.le_refl _,by show(0:Int)<=_;omega⟩
def P0j (K:B0H l n a b e z F)(hw:∀x∈l,l02 x){s:Cs}{i:Nat}(h:E0z l n s i)(hi:i<=100000){b_:Int}(hb:inK .u8 b_)(beg:Bool):
  E0Z F (s.C l n a b e z) b_ beg=some ((s.step l n a b b_ beg).C l n a b e z)/\H0T F (s.X l n a b e) b_ beg=some ((s.step l n a b b_ beg).X l n a b e)/\E0z l n (s.step l n a b b_ beg) (i+1):=by
 have h0:=h.a0;have h1:=h.w0;have h2:=h.w1;have hr:=J0U K h.ok b_ beg;refine⟨S0k K h.ok hw hb beg (by omega) (by omega) h1 (by omega),V0o K h.ok hw hb beg (by omega) (by omega) h1 (by omega),V0I K h.ok hw b_ beg,?_,?_,?_⟩
 ·show s.at_+1=_;omega
 ·show 0<=s.work+_;omega
 ·show s.work+_<=_;omega
def R0T (K:B0H l n a b e z F){s:Cs}{i:Nat}(h:E0z l n s i)(from_:Int):
  E0Y F (s.C l n a b e z) from_=some ((s.Y0 from_).C l n a b e z)/\F03 F (s.X l n a b e) from_=some ((s.Y0 from_).X l n a b e)/\E0z l n (s.Y0 from_) i:=by
 have s1:=S0l (at_:=s.at_) (work:=s.work) K h.ok from_ rfl;have s2:=U0K (at_:=s.at_) (work:=s.work) K h.ok from_ rfl;rw[h.ok.len]at s1;exact⟨s1,s2,U0j h.ok (S0A s.vals from_ s.pl.length) (fun i h=>K0n h),h.a0,h.w0,h.w1⟩
def V0D (K:B0H l n a b e z F){s:Cs}{i:Nat}(h:E0z l n s i):E0L F (s.C l n a b e z)=some (s.c0U l e)/\E02 F (s.X l n a b e)=some (s.c0U l e):=⟨V02 K h.ok,P0d K h.ok⟩
end
def I0p {o:List Int}{j:Nat}{x:Int}(h:1<=j):gt (o.set j x) 0=gt o 0:=by
 unfold gt;rw[List.getD_eq_getElem?_getD,List.getD_eq_getElem?_getD];have:(0:Int).toNat=0:=rfl;rw[this,List.getElem?_set_ne (by omega)]
def V0Q (now none_:Int)(o:List Int)(m:Z2):gt (G4 now none_ o m) 0=gt o 0:=by
 unfold G4;split
 ·rfl
 ·rename_i h;have h1:1<=m.Group:=by omega
  split
  ·exact I0p (by omega)
  ·split
   ·exact I0p (by omega)
   ·split
    ·rw[I0p (by omega),I0p (by omega)]
    ·rfl
def I02 (now none_:Int):∀(marks:List Z2) (o:List Int),gt (A0G now none_ o marks) 0=gt o 0
 |[],o=>rfl
 |
  m :: r,o=>by
  have h:=I02 now none_ r (G4 now none_ o m);rw[V0Q]at h;exact h
def O0A (l:List U0)(at_:Int):gt (D0b l at_) 0=at_:=by
 have ht:=C0D l;unfold D0b;obtain⟨t,hT⟩:∃t:Nat,(f0n l).toNat=t+1:=⟨(f0n l).toNat-1,by omega⟩
 rw[hT];rfl
section
variable {F:Nat}{l:List U0}{n:Nat}{a:List E1}{b:Nat->List E1}{e:Nat->E1×Bool}{z:E1×Bool}
def S0V {at_:Int}{pl:List Nat}{vals:List (List Int)}{fB fD:Nat->Nat->Int}(C:B02 l n pl vals fB fD){beg:Bool}{b_:Int}{r:Nat}(hr:r∈stP l n a b pl b_ beg):
  (stS a b pl fB fD beg r<pl.length/\gt (goV l at_ vals beg) (stS a b pl fB fD beg r:Int)=gt vals (stS a b pl fB fD beg r:Int))\/(beg=true/\stS a b pl fB fD beg r=pl.length/\gt (goV l at_ vals beg) (stS a b pl fB fD beg r:Int)=D0b l at_):=by
 have hlt:stS a b pl fB fD beg r<goM pl beg:=by rw[<-D0B a b];exact F0g (E0G hr).2
 have hvl:=C.len
 by_cases h:stS a b pl fB fD beg r<pl.length
 ·refine .inl ⟨h,?_⟩;unfold goV;exact z0U (by omega) (by omega)
 ·cases beg with
  |false=>unfold goM at hlt;simp at hlt;exact absurd hlt h
  |
   true=>
   unfold goM at hlt;simp only[if_true]at hlt;have e:stS a b pl fB fD true r=pl.length:=by omega
   refine .inr ⟨rfl,e,?_⟩;rw[e];unfold goV;exact F0L hvl.symm
def T0m {at_:Int}{pl:List Nat}{vals:List (List Int)}{fB fD:Nat->Nat->Int}(C:B02 l n pl vals fB fD)(hs:(E0l l e at_ pl vals fD).2=true):(E0l l e at_ pl vals fD).1.length=(f0n l).toNat/\∃v∈vals,gt (E0l l e at_ pl vals fD).1 0=gt v 0:=by
 unfold E0l at hs ⊢
 by_cases hc:C0Y fD (C0O e pl pl.length)<0
 ·rw[if_pos hc]at hs;cases hs
 ·rw[if_neg hc];rcases H0J (fD:=fD) (C0O e pl pl.length) (n:=pl.length) (fun i h=>H0q h)with hb2|⟨k,hb2,hk⟩
  ·rw[hb2]at hc;exact absurd (show(-1:Int)<0 by omega) hc
  ·have hm:=gtm (l:=vals) (i:=k) (by rw[C.len];exact hk);rw[hb2];exact⟨by rw[D0F];exact C.row _ hm,_,hm,by rw[I02]⟩
def S0S {at_:Int}(hs:(D0r l z at_).2=true):(D0r l z at_).1.length=(f0n l).toNat/\gt (D0r l z at_).1 0=at_:=by
 unfold D0r at hs ⊢
 by_cases hz:z.2=true
 ·rw[if_pos hz];exact⟨by rw[D0F,G0M],by rw[I02,O0A]⟩
 ·rw[if_neg hz]at hs;cases hs
end
structure Hs where
 c:Cs
 tags:List Int
 to:Int
 is:Bool
section
variable (l:List U0)(n:Nat)(a:List E1)(b:Nat->List E1)(e:Nat->E1×Bool)(z:E1×Bool)
def Hs.zero:Hs:=⟨Cs.zero,(D0r l z 0).1,0,(D0r l z 0).2⟩
def Hs.n0R (h:Hs)(b_:Int):Cs:=h.c.step l n a b b_ (h.c.at_==0||!h.is)
def Hs.feed (h:Hs)(b_:Int):Hs:=
 if((h.n0R l n a b b_).c0U l e).2 then⟨(h.n0R l n a b b_).Y0 (gt ((h.n0R l n a b b_).c0U l e).1 0),((h.n0R l n a b b_).c0U l e).1,(h.n0R l n a b b_).at_,true⟩
 else⟨h.n0R l n a b b_,h.tags,h.to,h.is⟩
def Hs.C (h:Hs):h0r×List Int×Int×Bool:=(h.c.C l n a b e z,h.tags,h.to,h.is)
def Hs.H (h:Hs):D0R:=⟨h.c.C l n a b e z,h.tags,h.to,h.is⟩
def Hs.X (h:Hs):C0T:=⟨h.c.X l n a b e,h.tags,h.to,h.is⟩
end
def Hs.found (h:Hs):List V1×Bool:=if h.is then(a0h h.tags h.to,true)else([],false)
def Hs.over (h:Hs):Bool:=h.is&&(h.c.pl.length==0&&decide (h.c.at_>0))
structure F0H (l:List U0)(n:Nat)(h:Hs)(i:Nat):Prop where
 c:E0z l n h.c i
 t0:0<=h.to
 len:h.tags.length<=1000
 pos:∀v∈h.c.vals,0<=gt v 0
 is:h.is=true->h.tags.length=(f0n l).toNat/\0<=gt h.tags 0/\∀v∈h.c.vals,gt v 0<=gt h.tags 0
section
variable {F:Nat}{l:List U0}{n:Nat}{a:List E1}{b:Nat->List E1}{e:Nat->E1×Bool}{z:E1×Bool}
def V0B:F0H l n (Hs.zero l z) 0 where
 c:=W0m l n
 t0:=Int.le_refl _
 len:=U0Z
 pos:=by intro v h;cases h
 is:=fun h=>by
  obtain⟨h1,h2⟩:=S0S (l:=l) (z:=z) (at_:=0) h;exact⟨h1,by show 0<=gt (D0r l z 0).1 0;omega,by intro v h;cases h⟩
def X0L (K:B0H l n a b e z F):H0H F l=some (.inr ((Hs.zero l z).C l n a b e z),0):=by
 unfold H0H;rw[R0R K.hR K.hn K.T K.f1 K.TF];have h0:(⟨C0y l n a b e z,0,0,[],[],⟨[],[]⟩⟩:h0r)=mkC l n a b e z 0 0 [] [] (fun _ _=>0) (fun _ _=>0):=rfl;simp only[q0,show((0:Int) != 0)=false from rfl,h0,R0h K];rfl
def T0S (K:B0H l n a b e z F):I0O F l=some ((Hs.zero l z).X l n a b e):=by
 unfold I0O;rw[P0J K.hR K.hn K.T K.f1 K.TF];have h0:C0V l n a b e 0 0 [] [] ⟨[],[]⟩=mkX l n a b e 0 0 [] [] (fun _ _=>0) (fun _ _=>0):=rfl;simp only[F1,h0,U02 K];rfl
def Y0v {h:Hs}{i:Nat}(ho:F0H l n h i)(hf:2000<F):J0G F (h.C l n a b e z)=some (h.found,h.C l n a b e z):=by
 unfold J0G Hs.C Hs.found;cases hi:h.is with
 |false=>simp only[q0]
 |true=>simp only[q0,t0T ho.len hf]
def b1e {h:Hs}{i:Nat}(ho:F0H l n h i)(hf:2000<F):Z0D F (h.X l n a b e)=some h.found:=by
 unfold Z0D Hs.X Hs.found;cases hi:h.is with
 |false=>simp only[q0]
 |true=>simp only[q0,x0B ho.len hf]
def t0D {h:Hs}{i:Nat}(ho:F0H l n h i):h.found.1.length<=1000:=by
 unfold Hs.found;split
 ·exact l0a _ _ ho.len
 ·simp
def U0H {h:Hs}{i:Nat}(ho:F0H l n h i)(hn:n<=1000):J0B F (h.H l n a b e z)=some (h.c.pl.length:Int):=by
 have:=ho.c.ok.le;unfold J0B L0E D0G Hs.H;have:C1 8 ([]:List Int) (a0B h.c.pl)=true:=by simp[C1];omega
 simp only[Cs.C,mkC,this,if_true,F1,E0u]
def Y05 (p:List Nat):(((p.length:Int))==0)=(p.length==0):=by rw[Bool.eq_iff_iff];simp
def Y0t {h:Hs}{i:Nat}(ho:F0H l n h i)(hn:n<=1000):L0q F (h.H l n a b e z)=some h.over:=by
 have hr:=U0H (F:=F) (a:=a) (b:=b) (e:=e) (z:=z) ho hn;unfold L0q Hs.over;rw[hr];unfold Hs.H E0T;cases hi:h.is with
 |false=>simp only[q0,Bool.false_and]
 |
  true=>
  simp only[if_true,F1,Y05,Bool.true_and];cases hp:h.c.pl.length==0 with
  |false=>simp only[q0,Bool.false_and]
  |true=>simp only[if_true,Bool.true_and,Cs.C,mkC,F1];rfl
def b1u {h:Hs}:Z0L F (h.X l n a b e)=some h.over:=by
 unfold Z0L Hs.over Hs.X;have:((((h.c.X l n a b e).Places.length:Int))==0)=(h.c.pl.length==0):=by
  rw[<-Y05];simp[Cs.X,mkX,C0V]
 cases hi:h.is with
 |false=>simp only[q0,Bool.false_and]
 |
  true=>
  simp only[if_true,F1,this,Bool.true_and];cases hp:h.c.pl.length==0 with
  |false=>simp only[q0,Bool.false_and]
  |true=>simp only[if_true,Bool.true_and,Cs.X,mkX,C0V,F1];rfl
def V05 (K:B0H l n a b e z F){s:Cs}{i:Nat}(h:E0z l n s i)(b_:Int)(beg:Bool):∀v∈(s.step l n a b b_ beg).vals,(∃u∈s.vals,gt v 0=gt u 0)\/(beg=true/\gt v 0=(i:Int)):=by
 intro v hv;obtain⟨r,hr,rfl⟩:=List.mem_map.1 hv;unfold stV;rw[I02];rcases S0V (at_:=s.at_) h.ok hr with⟨h1,h3⟩|⟨h1,_,h3⟩
 ·rw[h3];exact .inl ⟨_,gtm (by rw[h.ok.len];exact h1),rfl⟩
 ·rw[h3,O0A,h.a0];exact .inr ⟨h1,rfl⟩
def Q0z {s:Cs}{from_:Int}(hl:s.vals.length=s.pl.length):∀v∈(s.Y0 from_).vals,v∈s.vals/\gt v 0<=from_:=by
 intro v hv;obtain⟨k,hk,rfl⟩:=List.mem_map.1 hv;have h2:=(List.mem_filter.1 hk).2;exact⟨gtm (by rw[hl];exact K0n hk),by simpa using h2⟩
def K0F (K:B0H l n a b e z F)(hw:∀x∈l,l02 x){h:Hs}{i:Nat}(ho:F0H l n h i)(hi:i<=100000){b_:Int}(hb:inK .u8 b_):
  F0c F (h.C l n a b e z) b_=some ((h.feed l n a b e b_).C l n a b e z)/\G0E F (h.X l n a b e) b_=some ((h.feed l n a b e b_).X l n a b e)/\F0H l n (h.feed l n a b e b_) (i+1)/\
   ((h.feed l n a b e b_=⟨h.n0R l n a b b_,h.tags,h.to,h.is⟩/\((h.n0R l n a b b_).c0U l e).2=false)\/(((h.n0R l n a b b_).c0U l e).2=true/\(h.feed l n a b e b_).to=((i+1:Nat):Int)/\(h.feed l n a b e b_).is=true/\(h.is=true->gt (h.feed l n a b e b_).tags 0<=gt h.tags 0))):=by
 obtain⟨s1,s2,s3⟩:=P0j (e:=e) (z:=z) K hw ho.c hi hb (h.c.at_==0||!h.is);have hfst:=V05 K ho.c b_ (h.c.at_==0||!h.is);obtain⟨b1,b2⟩:=V0D K s3;have ha:E0T F (h.c.C l n a b e z)=some h.c.at_:=rfl;have ha2:E0T F ((h.n0R l n a b b_).C l n a b e z)=some (h.n0R l n a b b_).at_:=rfl;have hx:(if h.c.at_==0 then some true else some (!h.is))=some (h.c.at_==0||!h.is):=by cases h.c.at_==0<;>rfl
 have hpos:∀v∈(h.n0R l n a b b_).vals,0<=gt v 0:=fun v hv=>by
  rcases hfst v hv with⟨u,hu,h2⟩|⟨_,h2⟩
  ·rw[h2];exact ho.pos u hu
  ·rw[h2];omega
 have hle:h.is=true->∀v∈(h.n0R l n a b b_).vals,gt v 0<=gt h.tags 0:=fun his v hv=>by
  obtain⟨_,i2,i3⟩:=ho.is his;rcases hfst v hv with⟨u,hu,h2⟩|⟨hbeg,h2⟩
  ·rw[h2];exact i3 u hu
  ·rw[h2];have h0:=ho.c.a0;rw[his]at hbeg;have:h.c.at_=0:=by simpa using hbeg
   omega
 have hat:(h.n0R l n a b b_).at_=((i+1:Nat):Int):=s3.a0;cases hB:((h.n0R l n a b b_).c0U l e).2 with
 |
  false=>
  have hF:h.feed l n a b e b_=⟨h.n0R l n a b b_,h.tags,h.to,h.is⟩:=by unfold Hs.feed;rw[hB];rfl
  rw[hF];refine⟨?_,?_,⟨s3,ho.t0,ho.len,hpos,fun his=>?_⟩,.inl ⟨rfl,rfl⟩⟩
  ·unfold F0c Hs.C;simp only[ha,F1,hx,s1];rw[show h.c.step l n a b b_ (h.c.at_==0||!h.is)=h.n0R l n a b b_ from rfl,show E0L F ((h.n0R l n a b b_).C l n a b e z)=some ((h.n0R l n a b b_).c0U l e)from b1];generalize hq:(h.n0R l n a b b_).c0U l e=q at hB ⊢;obtain⟨q1,q2⟩:=q;simp only at hB;subst hB;rfl
  ·unfold G0E Hs.X;rw[show((h.c.X l n a b e).At==0)=(h.c.at_==0)from rfl];simp only[hx,F1,s2];rw[show h.c.step l n a b b_ (h.c.at_==0||!h.is)=h.n0R l n a b b_ from rfl,show E02 F ((h.n0R l n a b b_).X l n a b e)=some ((h.n0R l n a b b_).c0U l e)from b2];generalize hq:(h.n0R l n a b b_).c0U l e=q at hB ⊢;obtain⟨q1,q2⟩:=q;simp only at hB;subst hB;rfl
  ·obtain⟨i1,i2,_⟩:=ho.is his;exact⟨i1,i2,hle his⟩
 |
  true=>
  obtain⟨t1,v,v1,v2⟩:=T0m (e:=e) (at_:=(h.n0R l n a b b_).at_) s3.ok hB;have ht:=C0D l;obtain⟨k1,k2,k3⟩:=R0T (e:=e) (z:=z) K s3 (gt ((h.n0R l n a b b_).c0U l e).1 0);have hF:h.feed l n a b e b_=⟨(h.n0R l n a b b_).Y0 (gt ((h.n0R l n a b b_).c0U l e).1 0),((h.n0R l n a b b_).c0U l e).1,(h.n0R l n a b b_).at_,true⟩:=by unfold Hs.feed;rw[hB];rfl
  have t1':((h.n0R l n a b b_).c0U l e).1.length=(f0n l).toNat:=t1;have v2':gt ((h.n0R l n a b b_).c0U l e).1 0=gt v 0:=v2;have hin:y0 ((h.n0R l n a b b_).c0U l e).1 0=true:=B4 (by omega) (by rw[t1'];omega);rw[hF];have kf:=Q0z (s:=h.n0R l n a b b_) (from_:=gt ((h.n0R l n a b b_).c0U l e).1 0) s3.ok.len;refine⟨?_,?_,⟨k3,?_,?_,?_,fun _=>⟨t1',?_,fun u hu=>(kf u hu).2⟩⟩,.inr ⟨rfl,hat,rfl,fun his=>?_⟩⟩
  ·unfold F0c Hs.C;simp only[ha,F1,hx,s1];rw[show h.c.step l n a b b_ (h.c.at_==0||!h.is)=h.n0R l n a b b_ from rfl,show E0L F ((h.n0R l n a b b_).C l n a b e z)=some ((h.n0R l n a b b_).c0U l e)from b1];have k1':E0Y F ((h.n0R l n a b b_).C l n a b e z) (gt ((h.n0R l n a b b_).c0U l e).1 0)=_:=k1;generalize hq:(h.n0R l n a b b_).c0U l e=q at hB hin k1' ⊢;obtain⟨q1,q2⟩:=q;simp only at hB hin k1';subst hB;simp only[F1,if_true,hin,ha2,k1'];rfl
  ·unfold G0E Hs.X;rw[show((h.c.X l n a b e).At==0)=(h.c.at_==0)from rfl];simp only[hx,F1,s2];rw[show h.c.step l n a b b_ (h.c.at_==0||!h.is)=h.n0R l n a b b_ from rfl,show E02 F ((h.n0R l n a b b_).X l n a b e)=some ((h.n0R l n a b b_).c0U l e)from b2];have k2':F03 F ((h.n0R l n a b b_).X l n a b e) (gt ((h.n0R l n a b b_).c0U l e).1 0)=_:=k2;generalize hq:(h.n0R l n a b b_).c0U l e=q at hB hin k2' ⊢;obtain⟨q1,q2⟩:=q;simp only at hB hin k2';subst hB;simp only[F1,if_true,hin,k2'];rfl
  ·show 0<=(h.n0R l n a b b_).at_;omega
  ·show((h.n0R l n a b b_).c0U l e).1.length<=1000;omega
  ·intro u hu;exact hpos u (kf u hu).1
  ·show 0<=gt ((h.n0R l n a b b_).c0U l e).1 0;rw[v2'];exact hpos v v1
  ·show gt ((h.n0R l n a b b_).c0U l e).1 0<=gt h.tags 0;rw[v2'];exact hle his v v1
end
