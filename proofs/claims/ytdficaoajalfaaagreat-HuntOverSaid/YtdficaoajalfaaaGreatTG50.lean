/- One byte more: the document's step. What can be reckoned, in place of models that cannot. What is sure, and what a row's reading b_e4 of its values. What tags say that groups span; runs over bytes. Runs over bytes, by the program and by the document. Tags: where a run began; the last time that something is found. Its conditions: none. -/
import Derived.Test.YtdficaoajalfaaaGreatTG49
import Derived.Test.YtdficaoajalfaaaGreatTMd
import Derived.Test.YtdficaoajalfaaaGreatTX15
open Bool (false_eq_true)
set_option linter.all false
namespace Go.Proofs.YtdficaoajalfaaaGreat
open Go.V Go.RowKit Old Go.X
theorem a_o4 {α:Type} {p:α->Bool}:∀ (l:List α) (i:Nat) (x:α),l[i]?=some x->p x=true->(∀ j y,j<i->l[j]?=some y->p y=false)->l.find? p=some x
 |[],i,x,h,_,_=>by simp at h
 |y :: r,0,x,h,hp,_=>by simp at h;subst h;simp [hp]
 |
  y :: r,i+1,x,h,hp,hn=>by
  have h0:=hn 0 y (by omega) (by simp)
  simp only [List.find?_cons,h0]
  exact a_o4 r i x (by simpa using h) hp (fun j z hj hz=>hn (j+1) z (by omega) (by simpa using hz))
section
variable {F:Nat} {l:List a_2} {n:Nat} {a:List a_1} {b:Nat->List a_1} {e:Nat->a_1×Bool} {z:a_1×Bool} {at_ work:Int} {pl:List Nat} {vals:List (List Int)} {fB fD:Nat->Nat->Int}
theorem b_rr {ws:List a_1} (hl:ws.length<=1000000) (hf:2000001<F) (r:Nat):a_kk F ws (r:Int)=some (wayD ws r,(w_8 ws r).isSome):=by
 unfold a_kk
 have key:∀ k i,i+k=ws.length->(∀ j y,j<i->ws[j]?=some y->(y.To==(r:Int))=false)->∀ m,k<m->
   iter (a_ab F ws (r:Int)) m (i:Int)=some (match w_8 ws r with | some y=>.inl y | none=>.inr ()):=by
  intro k
  induction k with
  |
   zero=>
   intro i hi hj m hm
   obtain ⟨m,rfl⟩:∃ q,m=q+1:=⟨m-1,by omega⟩
   have hnone:w_8 ws r=none:=by
    unfold w_8
    rw [List.find?_eq_none]
    intro x hx
    obtain ⟨j,hjl,he⟩:=List.mem_iff_getElem.1 hx
    have:=hj j x (by omega) (by rw [List.getElem?_eq_getElem hjl,he])
    simp [this]
   refine a_h0 ?_
   unfold a_ab
   have h1:¬ ((i:Int)<(ws.length:Int)):=by omega
   simp only [h1,decide_false,if_false,false_eq_true,hnone]
  |
   succ k ih=>
   intro i hi hj m hm
   obtain ⟨m,rfl⟩:∃ q,m=q+1:=⟨m-1,by omega⟩
   have hil:i<ws.length:=by omega
   have h1:(i:Int)<(ws.length:Int):=by omega
   have hin:inb ws (i:Int)=true:=a_7 (by omega) h1
   cases hc:((gt ws (i:Int)).To==(r:Int)) with
   |
    true=>
    have hsome:w_8 ws r=some (gt ws (i:Int)):=a_o4 ws i _ (n_3 hil) hc hj
    refine a_h0 ?_
    unfold a_ab
    simp only [h1,decide_true,if_true,hin,hc,hsome]
   |
    false=>
    have hn:=ih (i+1) (by omega) (fun j y hj2 hy=>by
     rcases Nat.lt_or_ge j i with c | c
     ·exact hj j y c hy
     ·obtain rfl:j=i:=by omega
      rw [n_3 hil] at hy;cases hy;exact hc) m (by omega)
    rw [<-hn]
    refine a_k5 ?_
    unfold a_ab
    simp only [h1,decide_true,if_true,hin,hc,false_eq_true,if_false,c_3 (i:=i) (by omega)]
 have h2:iter (a_ab F ws (r:Int)) F 0=_:=key ws.length 0 (by omega) (by intro j y hj;omega) F (by omega)
 rw [h2]
 unfold wayD
 cases w_8 ws r<;>rfl
theorem b_rs {Ws:List (List a_1)} (hW:∀ i,i<Ws.length->(Ws.getD i []).length<=500000) (hM:Ws.length<=1000) (hf:2000001<F) (r:Nat) (y2:List Int) (y3:List a_1) :
  iter (v_4 F Ws (r:Int)) F ([],[],0,y2,y3)=some (b_7 (g_0 Ws r Ws.length),k_9 Ws r Ws.length,y2,y3):=by
 have:=c_2 (step:=v_4 F Ws (r:Int)) (fun i=>(b_7 (g_0 Ws r i),k_9 Ws r i,(i:Int),y2,y3)) (b_7 (g_0 Ws r Ws.length),k_9 Ws r Ws.length,y2,y3) Ws.length (fun i hi=>.inl ?_) ?_ Ws.length 0 F (by omega) (by omega)
 ·exact this
 ·have h1:(i:Int)<(Ws.length:Int):=by omega
  have hg:gt Ws (i:Int)=Ws.getD i []:=by
   refine d_4 ?_
   simp [List.getD,hi]
  have hl1:=a_pp Ws r i
  have hl2:=a_po Ws r i
  have ap1:a_8 8 (b_7 (g_0 Ws r i)) [(i:Int)]=true:=by simp [a_8];omega
  have ap2:a_8 40 (k_9 Ws r i) [wayD (Ws.getD i []) r]=true:=by simp [a_8];omega
  unfold v_4
  simp only [h1,decide_true,if_true,a_7 (l:=Ws) (i:=(i:Int)) (by omega) h1,hg,b_rr (show (Ws.getD i []).length<=1000000 by have:=hW i hi;omega) hf,a_0,a_rz,a_1a,c_3 (i:=i) (by omega)]
  cases hc:(w_8 (Ws.getD i []) r).isSome with
  |false=>simp only [false_eq_true,if_false,a_0,List.append_nil]
  |true=>simp only [if_true,ap1,ap2,a_0,a_er]
 ·unfold v_4
  have h1:¬ ((Ws.length:Int)<(Ws.length:Int)):=by omega
  simp only [h1,decide_false,if_false,false_eq_true]
abbrev xT (l:List a_2) (n:Nat) (a:List a_1) (b:Nat->List a_1) (e:Nat->a_1×Bool) (at_ work:Int) (places:List Int) (tags:List (List Int)) (rank:b_9):(List a_2)×(List Int)×(List a_1)×(List (List a_1))×(List (List Int))×Int×Int×(List Int)×(List (List Int))×b_9:=
 (l,b_3 l l.length,a,(List.range n).map b,(List.range n).map fun p=>(e p).1.Steps,at_,work,places,tags,rank)
set_option maxHeartbeats 2000000 in
theorem b_ky (K:l_1 l n a b e z F) (C:p_7 l n pl vals fB fD) (hw:∀ x∈l,d_6 x) {b_:Int} (hb:inK .u8 b_) (beg:Bool) (hw0:0<=work) (hw1:work<=1000000000000) {r:Nat} (hr:r<n) (rk:b_9) :
  v_3 F (mkX l n a b e at_ work pl vals fB fD) b_ (goV l at_ vals beg) (goW a b pl beg) (b_6 (goM pl beg) (goB pl beg fB) (goD pl beg fD))
   (b_7 ((j_5 (d_7 l b_) (goW a b pl beg) r).map (stS a b pl fB fD beg)),(j_5 (d_7 l b_) (goW a b pl beg) r).map (stH a b pl fB fD beg),(r:Int),xT l n a b e at_ (work+(l_6 (d_7 l b_) (goW a b pl beg) r:Int)) (b_7 (j_5 (d_7 l b_) (goW a b pl beg) r)) ((j_5 (d_7 l b_) (goW a b pl beg) r).map (stV l a b at_ pl vals fB fD beg)) rk) =
  some (.next (b_7 ((j_5 (d_7 l b_) (goW a b pl beg) (r+1)).map (stS a b pl fB fD beg)),(j_5 (d_7 l b_) (goW a b pl beg) (r+1)).map (stH a b pl fB fD beg),((r+1:Nat):Int),xT l n a b e at_ (work+(l_6 (d_7 l b_) (goW a b pl beg) (r+1):Int)) (b_7 (j_5 (d_7 l b_) (goW a b pl beg) (r+1))) ((j_5 (d_7 l b_) (goW a b pl beg) (r+1)).map (stV l a b at_ pl vals fB fD beg)) rk)):=by
 have f1:=K.f1
 have f3:=K.f3
 have hn:=K.T.n64
 have hM:=a_0t K C beg
 have hWl:=a_c2 a b pl beg
 obtain ⟨hc1,hc2⟩:=b_da K C beg r
 have hch:=a_po (goW a b pl beg) r (goW a b pl beg).length
 have hPl:=a_zl (d_7 l b_) (goW a b pl beg) r
 have hwn:=a_sb (d_7 l b_) (goW a b pl beg) r
 have hwn2:r*(goW a b pl beg).length<=400*401:=Nat.mul_le_mul (by omega) (by omega)
 have ht:=p_6 l
 have hll:=f_8 l l.length
 have hKn:=K.hn
 have hx:(r:Int)<((b_3 l l.length).length:Int):=by omega
 obtain ⟨q,q1,q2,q3⟩:=a_ng l K.hn (x:=(r:Int)) (by omega) (by omega)
 obtain ⟨_,_,s3⟩:=setOf l K.hn hw hr
 have hH:hasB (gt l (gt (b_3 l l.length) (r:Int))).Set b_=d_7 l b_ r:=rfl
 have hgr:=a_qk C beg
 have h22:∀ y2 y3,iter (v_4 F (goW a b pl beg) (r:Int)) F ([],[],0,y2,y3)=some (b_7 (g_0 (goW a b pl beg) r (goW a b pl beg).length),k_9 (goW a b pl beg) r (goW a b pl beg).length,y2,y3):=fun y2 y3=>b_rs (fun i hi=>(a_qz K C beg i hi).2.1) (by omega) f1 r y2 y3
 unfold v_3
 simp only [mkX,s_9,hx,decide_true,if_true,q3,a_7 (l:=l) (i:=gt (b_3 l l.length) (r:Int)) (by omega) (by omega),(b_im F s3 hb).2,hH,a_0,a_3r,l_6,c_3 (i:=r) (by omega),h22]
 cases hP:d_7 l b_ r with
 |false=>simp only [Bool.not_false,if_true,a_0,Bool.false_and,false_eq_true,if_false,List.append_nil,Nat.add_zero]
 |
  true=>
  simp only [Bool.not_true,false_eq_true,if_false,if_true,Bool.true_and]
  have hW0:W (work+(l_6 (d_7 l b_) (goW a b pl beg) r:Int)+(((b_7 (g_0 (goW a b pl beg) r (goW a b pl beg).length)).length:Nat):Int))=work+((l_6 (d_7 l b_) (goW a b pl beg) r+(g_0 (goW a b pl beg) r (goW a b pl beg).length).length:Nat):Int):=by rw [f_2 (by simp;omega) (by simp;omega)];simp;omega
  simp only [hW0]
  have hpk:=b_pe (F:=F) (n:=goM pl beg) (fB:=goB pl beg fB) (fD:=goD pl beg fD) (fr:=g_0 (goW a b pl beg) r (goW a b pl beg).length) (hops:=k_9 (goW a b pl beg) r (goW a b pl beg).length) (by omega) (by omega) hgr hch (by omega) hc2
  by_cases h0:g_0 (goW a b pl beg) r (goW a b pl beg).length=[]
  ·have hpk2:a_fi F (b_6 (goM pl beg) (goB pl beg fB) (goD pl beg fD)) (b_7 (g_0 (goW a b pl beg) r (goW a b pl beg).length)) (k_9 (goW a b pl beg) r (goW a b pl beg).length)=some (-1):=by
    rw [hpk,h0,a_vv]
   simp only [hpk2,a_0,show decide ((-1:Int)<0)=true from rfl,if_true]
   simp only [h0,List.isEmpty_nil,Bool.not_true,false_eq_true,if_false,List.append_nil]
  ·obtain ⟨k1,k2⟩:=a_ro (fB:=goB pl beg fB) (fD:=goD pl beg fD) h0
   have hne:(g_0 (goW a b pl beg) r (goW a b pl beg).length).isEmpty=false:=by simpa using h0
   rw [k1] at hpk
   have k3:¬ ((a_cj (goB pl beg fB) (goD pl beg fD) (goW a b pl beg) r:Nat):Int)<0:=by omega
   have hsl:stS a b pl fB fD beg r<goM pl beg:=by rw [<-hWl];exact a_j9 h0
   obtain ⟨v1,v2⟩:=a_8w (a_8z (at_:=at_) C beg) (a_3a C beg) hsl
   obtain ⟨p1,p2⟩:=a_6t K C (b_:=b_) (beg:=beg) h0
   have hsrc:(((g_0 (goW a b pl beg) r (goW a b pl beg).length).getD (a_cj (goB pl beg fB) (goD pl beg fD) (goW a b pl beg) r) 0:Nat):Int)=(stS a b pl fB fD beg r:Int):=rfl
   have hhop:gt (k_9 (goW a b pl beg) r (goW a b pl beg).length) ((a_cj (goB pl beg fB) (goD pl beg fD) (goW a b pl beg) r:Nat):Int)=stH a b pl fB fD beg r:=b_cy h0
   have hrin:inb (k_9 (goW a b pl beg) r (goW a b pl beg).length) ((a_cj (goB pl beg fB) (goD pl beg fD) (goW a b pl beg) r:Nat):Int)=true:=a_7 (by omega) (by omega)
   have ap1:a_8 8 (b_7 (j_5 (d_7 l b_) (goW a b pl beg) r)) [(r:Int)]=true:=by simp [a_8];omega
   have ap2:a_8 24 ((j_5 (d_7 l b_) (goW a b pl beg) r).map (stV l a b at_ pl vals fB fD beg)) [stV l a b at_ pl vals fB fD beg r]=true:=by simp [a_8];omega
   have ap3:a_8 8 (b_7 ((j_5 (d_7 l b_) (goW a b pl beg) r).map (stS a b pl fB fD beg))) [(stS a b pl fB fD beg r:Int)]=true:=by simp [a_8];omega
   have ap5:a_8 40 ((j_5 (d_7 l b_) (goW a b pl beg) r).map (stH a b pl fB fD beg)) [stH a b pl fB fD beg r]=true:=by simp [a_8];omega
   have hol:=a_h4 l (stH a b pl fB fD beg r).Steps
   have hof:=b_ev K.hR K.hl p1 K.f1 K.f2 (Bnd.sok p2)
   have hap:=a_yv (F:=F) (marks:=OfF l (stH a b pl fB fD beg r).Steps) (now:=at_) (none_:=-1) (show (gt (goV l at_ vals beg) (stS a b pl fB fD beg r:Int)).length<=1000 by omega) (by omega) (by omega)
   have hav:a_d5 at_ (-1) (gt (goV l at_ vals beg) (stS a b pl fB fD beg r:Int)) (OfF l (stH a b pl fB fD beg r).Steps)=stV l a b at_ pl vals fB fD beg r:=rfl
   rw [hav] at hap
   simp only [hpk,a_0,k3,decide_false,false_eq_true,if_false,ap1,h_4 k2,i_5 k2,hsrc,v2,hrin,hhop,hof,hap,ap2,ap3,ap5,if_true,hne,Bool.not_false,a_er,List.map_append,List.map_cons,List.map_nil]
set_option maxHeartbeats 2000000 in
theorem b_hn (K:l_1 l n a b e z F) (C:p_7 l n pl vals fB fD) (hw:∀ x∈l,d_6 x) {b_:Int} (hb:inK .u8 b_) (beg:Bool) (ha0:0<=at_) (ha1:at_<=1000000) (hw0:0<=work) (hw1:work<=1000000000000) :
  a_dd F (mkX l n a b e at_ work pl vals fB fD) b_ beg=some (mkX l n a b e (at_+1) (work+stW l n a b pl b_ beg) (stP l n a b pl b_ beg) ((stP l n a b pl b_ beg).map (stV l a b at_ pl vals fB fD beg))
   (i_6 l (goB pl beg fB) ((stP l n a b pl b_ beg).map (stS a b pl fB fD beg)) ((stP l n a b pl b_ beg).map (stH a b pl fB fD beg))) (j_4 l (goB pl beg fB) (goD pl beg fD) ((stP l n a b pl b_ beg).map (stS a b pl fB fD beg)) ((stP l n a b pl b_ beg).map (stH a b pl fB fD beg)))):=by
 have f1:=K.f1
 have hm:=C.le
 have hn:=K.T.n64
 have hvl:=C.len
 have hM:=a_0t K C beg
 have hWl:=a_c2 a b pl beg
 have hrng:=a_wq K C b_ beg
 have hll:=f_8 l l.length
 have hKn:=K.hn
 have l3:=c_2 (step:=a_b3 F (mkX l n a b e at_ work pl vals fB fD)) (fun i=>((pl.take i).map b,(i:Int))) (pl.map b) pl.length (fun i hi=>.inl ?_) ?_ pl.length 0 F (by omega) (by omega)
 ·have e3:iter (a_b3 F (mkX l n a b e at_ work pl vals fB fD)) F ([],0)=_:=l3
  have hloop:=c_2 (step:=v_3 F (mkX l n a b e at_ work pl vals fB fD) b_ (goV l at_ vals beg) (goW a b pl beg) (b_6 (goM pl beg) (goB pl beg fB) (goD pl beg fD)))
   (fun r=>(b_7 ((j_5 (d_7 l b_) (goW a b pl beg) r).map (stS a b pl fB fD beg)),(j_5 (d_7 l b_) (goW a b pl beg) r).map (stH a b pl fB fD beg),(r:Int),xT l n a b e at_ (work+(l_6 (d_7 l b_) (goW a b pl beg) r:Int)) (b_7 (j_5 (d_7 l b_) (goW a b pl beg) r)) ((j_5 (d_7 l b_) (goW a b pl beg) r).map (stV l a b at_ pl vals fB fD beg)) (b_6 pl.length fB fD)))
   (b_7 ((stP l n a b pl b_ beg).map (stS a b pl fB fD beg)),(stP l n a b pl b_ beg).map (stH a b pl fB fD beg),xT l n a b e at_ (work+(l_6 (d_7 l b_) (goW a b pl beg) n:Int)) (b_7 (stP l n a b pl b_ beg)) ((stP l n a b pl b_ beg).map (stV l a b at_ pl vals fB fD beg)) (b_6 pl.length fB fD)) n
   (fun r hr=>.inl (b_ky K C hw hb beg hw0 hw1 hr _)) ?_ n 0 F (by omega) (by omega)
  ·have hz:work+(l_6 (d_7 l b_) (goW a b pl beg) 0:Int)=work:=by simp [l_6]
   rw [hz] at hloop
   have h2:iter (v_3 F (mkX l n a b e at_ work pl vals fB fD) b_ (goV l at_ vals beg) (goW a b pl beg) (b_6 (goM pl beg) (goB pl beg fB) (goD pl beg fD))) F ([],[],0,(l,b_3 l l.length,a,(List.range n).map b,(List.range n).map fun p=>(e p).1.Steps,at_,work,[],[],b_6 pl.length fB fD))=_:=hloop
   have hin:(Option.bind (α:=((List (List Int))×(List (List a_1))×b_9)) (
     if beg then
      if a_8 24 ([]:List (List Int)) vals then
       Option.bind (a_a8 F (mkX l n a b e at_ work pl vals fB fD)) fun begun=>
       if a_8 24 ([]++vals) [begun] then
        if a_8 24 (pl.map b) [a] then
         Option.bind (a_fc F (b_6 pl.length fB fD)) fun with_=>
         some (([]++vals)++[begun],pl.map b++[a],with_)
        else none
       else none
      else none
     else
      some (vals,pl.map b,b_6 pl.length fB fD)) (fun r=>some r))=some (goV l at_ vals beg,goW a b pl beg,b_6 (goM pl beg) (goB pl beg fB) (goD pl beg fD)):=by
    unfold goV goW goM goB goD
    cases beg with
    |false=>simp
    |
     true=>
     have ap0:a_8 24 ([]:List (List Int)) vals=true:=by simp [a_8];omega
     have ap1:a_8 24 vals [a_au l at_]=true:=by simp [a_8];omega
     have ap2:a_8 24 (pl.map b) [a]=true:=by simp [a_8];omega
     have hb:=b_cn K (mkX l n a b e at_ work pl vals fB fD) rfl
     have hb2:a_au l (mkX l n a b e at_ work pl vals fB fD).At=a_au l at_:=rfl
     simp only [if_true,hb,hb2,a_0,ap0,ap1,ap2,b_os (show pl.length<=900 by omega) (show 2000<F by omega) C.rk,List.nil_append]
   rw [i_2] at hin
   unfold a_dd
   rw [a_aa]
   have x1:(mkX l n a b e at_ work pl vals fB fD).Tags=vals:=rfl
   have x2:(mkX l n a b e at_ work pl vals fB fD).Rank=b_6 pl.length fB fD:=rfl
   have x3:(mkX l n a b e at_ work pl vals fB fD).First=a:=rfl
   have x4:(mkX l n a b e at_ work pl vals fB fD).L=l:=rfl
   have x5:(mkX l n a b e at_ work pl vals fB fD).Leaves=b_3 l l.length:=rfl
   have x6:(mkX l n a b e at_ work pl vals fB fD).Hops=(List.range n).map b:=rfl
   have x7:(mkX l n a b e at_ work pl vals fB fD).Ends=(List.range n).map fun p=>(e p).1.Steps:=rfl
   have x8:(mkX l n a b e at_ work pl vals fB fD).At=at_:=rfl
   have x9:(mkX l n a b e at_ work pl vals fB fD).Work=work:=rfl
   simp only [a_0,e3,x1,x2,x3,x4,x5,x6,x7,x8,x9,hin,h2]
   have hnx:=b_ow (F:=F) hw K.hR K.hn K.hl (show 2000<F by omega) K.f2 K.TF.rL (show goM pl beg<=1000 by omega) (a_qk C beg) (b_fy K C b_ beg)
   have htg:=b_cl K.hR K.hl (show 401<F by omega) K.f2
   simp only [hnx,a_0,List.length_map,a_hm,htg]
   obtain ⟨q1,q2,q3,q4,q5,q6,q7⟩:=hrng
   rw [f_2 (n:=at_+1) (by omega) (by omega),f_2 (n:=((stP l n a b pl b_ beg).length:Int)*h_2 l) (by omega) (by omega),f_2 (n:=((stP l n a b pl b_ beg).length:Int)*((stP l n a b pl b_ beg).length:Int)) (by omega) (by omega)]
   rw [f_2 (n:=work+(l_6 (d_7 l b_) (goW a b pl beg) n:Int)+((stP l n a b pl b_ beg).length:Int)*h_2 l) (by omega) (by omega)]
   rw [f_2 (n:=work+(l_6 (d_7 l b_) (goW a b pl beg) n:Int)+((stP l n a b pl b_ beg).length:Int)*h_2 l+((stP l n a b pl b_ beg).length:Int)*((stP l n a b pl b_ beg).length:Int)) (by omega) (by omega)]
   have hww:work+(l_6 (d_7 l b_) (goW a b pl beg) n:Int)+((stP l n a b pl b_ beg).length:Int)*h_2 l+((stP l n a b pl b_ beg).length:Int)*((stP l n a b pl b_ beg).length:Int)=work+stW l n a b pl b_ beg:=by unfold stW;omega
   rw [hww]
   rfl
  ·unfold v_3
   have h1:¬ ((n:Int)<((b_3 l l.length).length:Int)):=by omega
   simp only [mkX,s_9,h1,decide_false,if_false,false_eq_true]
   rfl
 ·unfold a_b3
  have h1:(i:Int)<((b_7 pl).length:Int):=by simp;omega
  have hp:=j_2 C.pln hi
  have hap:a_8 24 ((pl.take i).map b) [b (pl.getD i 0)]=true:=by simp [a_8];omega
  have ht:pl.take (i+1)=pl.take i++[pl.getD i 0]:=by rw [a_hx hi];simp [List.getD,hi]
  simp only [mkX,s_9,h1,decide_true,if_true,h_4 hi,i_5 hi,a_jk hp,a_m8 hp,hap,ht,List.map_append,List.map_cons,List.map_nil,c_3 (i:=i) (by omega)]
 ·unfold a_b3
  have h1:¬ ((pl.length:Int)<((b_7 pl).length:Int)):=by simp
  simp only [mkX,s_9,h1,decide_false,if_false,false_eq_true,List.take_length]
end
end Go.Proofs.YtdficaoajalfaaaGreat
set_option maxRecDepth 100000
noncomputable section
namespace Go.Proofs.YtdficaoajalfaaaGreat
open Go.V Go.RowKit Go.X
def a_ff (F:Nat) (c:b_1) (begin:Bool):Option (k_4×b_1):=
 Option.bind (α:=((List (List Int))×b_9)) (
  (
  Option.bind (w_3 F c.values) fun clone=>
  some (clone,c.rank))) fun (values,rank)=>
 Option.bind (α:=((List (List Int))×(List (List c_8))×b_9)) (
  iter (n_4 F c) F (0,(values,[],rank))) fun (values3,roads2,rank3)=>
 Option.bind (α:=((List (List Int))×(List (List c_8))×b_9)) (
  if begin then
   Option.bind (r_5 F c) fun begun=>
   if a_8 24 values3 [begun] then
    if a_8 24 roads2 [c.chart.begin] then
     Option.bind (a_g2 F c.rank) fun with_=>
     some (values3++[begun],roads2++[c.chart.begin],with_)
    else none
   else none
  else
   some (values3,roads2,rank3)) fun (values4,roads3,rank4)=>
 some ((⟨values4,roads3,rank4⟩:k_4),c)
theorem a_u3:r_8=a_ff:=by
 funext x0 x1 x2
 unfold r_8 a_ff
 simp only [a_aa]<;>rfl
def a_gl (F:Nat) (c:b_1) (b:Int) (begin:Bool):Option b_1:=
 Option.bind (a_ff F c begin) fun (goers,b0)=>
 Option.bind (a_bs F b0 goers b) fun (to,b02)=>
 Option.bind (α:=((List Int)×(List (List Int))×b_1×((List Int)×(List c_8)×(List a_1)))) (
  iter (l_5 F goers to) F ([],[],0,b02,([],[],[]))) fun (places3,values3,y3,(from_3,roads3,hops3))=>
 Option.bind (a_gx F y3.chart.l goers.rank from_3 hops3) fun next_=>
 let x2:=W ((places3.length:Int)*(places3.length:Int))
 let x3:=W ((W ((places3.length:Int)*y3.chart.tags))+x2)
 some (⟨y3.chart,W (y3.at_+1),W (y3.work+x3),places3,values3,next_⟩:b_1)
theorem a_w3:m_7=a_gl:=by
 funext x0 x1 x2 x3
 unfold m_7 a_gl
 simp only [a_aa,a_u3]<;>rfl
def a_yw (F:Nat):(b_1×(List Int)×Int×Bool)->Int->Option (b_1×(List Int)×Int×Bool)
 |(Crowd,tags,to,is),b=>
 Option.bind (a_i5 F Crowd) fun at_=>
 Option.bind (α:=Bool) (
  if at_==0 then
   some true
  else
   some (!is)) fun x=>
 Option.bind (a_gl F Crowd b x) fun b0=>
 Option.bind (p_3 F b0) fun (f_0,best2)=>
 if best2 then
  Option.bind (a_i5 F b0) fun at_2=>
  if inb f_0 0 then
   Option.bind (a_ck F b0 (gt f_0 0)) fun b02=>
   some (b02,f_0,at_2,true)
  else none
 else
  some (b0,tags,to,is)
theorem b_sg:a_e6=a_yw:=by
 funext x0
 unfold a_e6 a_yw
 simp only [a_aa,a_w3]<;>rfl
def a_yx (F:Nat) (w:(List Int)) (d:(Int×(b_1×(List Int)×Int×Bool))):Option (Ctl (Int×(b_1×(List Int)×Int×Bool)) (b_1×(List Int)×Int×Bool)):=
 match d with
 |(x,(Crowd3,tags3,to3,is3))=>
 if decide (x<(w.length:Int)) then
  if inb w x then
   Option.bind (a_yw F (Crowd3,tags3,to3,is3) (gt w x)) fun (Crowd4,tags4,to4,is4)=>
   some (.next (W (x+1),(Crowd4,tags4,to4,is4)))
  else none
 else
  some (.done (Crowd3,tags3,to3,is3))
theorem b_qc:a_y7=a_yx:=by
 funext x0 x1 x2
 unfold a_y7 a_yx
 simp only [a_aa,b_sg]<;>rfl
def a_us (F:Nat) (l:(List a_2)) (w:(List Int)):Option ((List h_6)×Int):=
 Option.bind (α:=((Unit ⊕ (b_1×(List Int)×Int×Bool))×Int)) (
  Option.bind (a_gb F l) fun (new,new2)=>
  match new with
  |
   .inl _=>
   some ((.inl ()),new2)
  |
   .inr (Crowd,tags,to,is)=>
   some ((.inr (Crowd,tags,to,is)),new2)) fun (h,e)=>
 match h with
 |
  .inl _=>
  if e != 0 then
   some ([],e)
  else
   none
 |
  .inr (Crowd2,tags2,to2,is2)=>
  if e != 0 then
   some ([],e)
  else
   Option.bind (α:=(b_1×(List Int)×Int×Bool)) (
    iter (a_yx F w) F (0,(Crowd2,tags2,to2,is2))) fun (Crowd5,tags5,to5,is5)=>
   Option.bind (a_fb F (Crowd5,tags5,to5,is5)) fun ((found,found2),(Crowd6,tags6,to6,is6))=>
   if !found2 then
    some ([],7)
   else
    some (found,0)
theorem b_te:a_og=a_us:=by
 funext x0 x1 x2
 unfold a_og a_us
 simp only [a_aa,b_qc]<;>rfl
def b_k0 (F:Nat):Option Bool:=
 Option.bind (a_2n F) fun ab=>
 if !([97,98,99,97,99]:List Int).isEmpty then
  Option.bind (a_us F ab [97,98,99,97,99]) fun (search,search2)=>
  Option.bind (a_2n F) fun ab2=>
  if !([97,98]:List Int).isEmpty then
   Option.bind (a_us F ab2 [97,98]) fun (search3,search4)=>
   Option.bind (α:=Int) (
    Option.bind (a_gb F []) fun (new,new2)=>
    match new with
    |
     .inl _=>
     some new2
    |
     .inr (Crowd,tags,to,is)=>
     some new2) fun g=>
   Option.bind (α:=Bool) (
    if search2==0 then
     Option.bind (p_9 F search [(⟨1,3⟩:h_6),(⟨1,2⟩:h_6)]) fun spanne=>
     some spanne
    else
     some false) fun x=>
   Option.bind (α:=Bool) (
    if x then
     some (search4==7)
    else
     some false) fun x2=>
   Option.bind (α:=Bool) (
    if x2 then
     some (g==11)
    else
     some false) fun x3=>
   some x3
  else none
 else none
theorem b_t4:a_fe=b_k0:=by
 funext x0
 unfold a_fe b_k0
 simp only [a_aa,b_te]<;>rfl
end Go.Proofs.YtdficaoajalfaaaGreat
end
namespace Go.Proofs.YtdficaoajalfaaaGreat
open Go.V Go.RowKit Old Go.X
abbrev Fb:Nat:=10000000000000
theorem a_14 {p:List a_2} (h:wfD en 20 (.list (.st 0)) p):∀ x∈p,d_6 x:=fun x hx=>by
 obtain ⟨h1,h2,h3,h4,⟨h5,h6⟩,_⟩:=h x hx
 exact ⟨h1,h2,h3,h4,h5,h6⟩
theorem b_co {p:List Int} (h:wfD en 20 (.list (.int .u8)) p):∀ x∈p,inK .u8 x:=fun x hx=>h x hx
theorem gtm {α:Type} [Inhabited α] {l:List α} {i:Nat} (h:i<l.length):gt l (i:Int)∈l:=List.mem_of_getElem? (n_3 h)
section
variable {l:List a_2}
theorem a_sl (hR:c_0 l=false) (hl:l.length*64<=140737488351232) (h40:l.length<=1000):f_3 Fb l=some false/\d_1 Fb l=some false:=by
 refine ⟨eqOf a_q5 (by rw [Old.a_f4 l (show 401<Fb by unfold Fb;omega),hR]),eqOf a_oe (by rw [Old.a_cy l hl (show l.length+1<Fb by unfold Fb;omega),hR])⟩
theorem b_gy (hR:c_0 l=false) (hl:l.length*64<=140737488351232) (h40:l.length<=1000):w_0 Fb l=some (.inl (),11):=by
 unfold w_0
 rw [(a_sl hR hl h40).1]
 rfl
theorem known (hw:∀ x∈l,d_6 x) (hR:c_0 l=true) (hl:l.length*64<=140737488351232) (h40:l.length<=1000):∃ a b e z,l_1 l (a_3 l l.length) a b e z Fb:=by
 obtain ⟨a,b,e,z,T,TF⟩:=b_e4 hw hl hR
 exact ⟨a,b,e,z,hR,hl,rfl,T,by unfold Fb;omega,by unfold Fb;omega,by unfold Fb;omega,TF Fb (by unfold Fb;omega) (by unfold Fb;omega)⟩
theorem b_mu (l:List a_2) (n:Nat):p_7 l n [] [] (fun _ _=>0) (fun _ _=>0) where
 len:=rfl
 pln:=by intro p h;cases h
 asc:=List.Pairwise.nil
 row:=by intro v h;cases h
 rk:=⟨fun i k h=>by simp at h,fun i h=>rfl,fun i h=>rfl,fun i k h=>by simp at h,fun i k h=>by simp at h⟩
end
theorem b_eo:a_fe Fb=some true:=by rw [b_t4];kernel_rfl
theorem a_y6 {S ρ:Type} {body:S->Option (Ctl S ρ)} (n:Nat) (g:Nat->S) (res:ρ) (hs:∀ i,i<n->body (g i)=some (.next (g (i+1)))) (he:body (g n)=some (.done res)) {fu:Nat} (h:n<fu):iter body fu (g 0)=some res:=by
 have key:∀ (k i fu:Nat),i+k=n->k<fu->iter body fu (g i)=some res:=by
  intro k
  induction k with
  |
   zero=>
   intro i fu hi hfu
   obtain ⟨fu,rfl⟩:∃ m,fu=m+1:=⟨fu-1,by omega⟩
   unfold iter
   rw [show i=n by omega,he]
  |
   succ k ih=>
   intro i fu hi hfu
   obtain ⟨fu,rfl⟩:∃ m,fu=m+1:=⟨fu-1,by omega⟩
   unfold iter
   rw [hs i (by omega)]
   exact ih (i+1) fu (by omega) (by omega)
 exact key n 0 fu (by omega) h
theorem b_g7 {ρ:Type} {body:Int->Option (Ctl Int ρ)} (n:Nat) (res:ρ) (hs:∀ i:Nat,i<n->body (i:Int)=some (.next ((i+1:Nat):Int))) (he:body (n:Int)=some (.done res)) {fu:Nat} (h:n<fu):iter body fu 0=some res:=
 a_y6 n (fun i=>(i:Int)) res hs he h
def a_ej (a b:Int):h_6:=if a<0\/b<0 then ⟨-1,-1⟩ else ⟨a,b⟩
def w_2 (tags:List Int) (to:Int):Nat->List h_6
 |0=>[a_ej (gt tags 0) to]
 |k+1=>w_2 tags to k++[a_ej (gt tags ((2*k+1:Nat):Int)) (gt tags ((2*k+2:Nat):Int))]
def y_6 (tags:List Int) (to:Int):List h_6:=if tags.length % 2=0 then [] else w_2 tags to (tags.length / 2)
theorem a_f6 (tags:List Int) (to:Int):∀ k,(w_2 tags to k).length=k+1
 |0=>rfl
 |k+1=>by simp [w_2,a_f6 tags to k]
theorem a_yp (n:Nat):Int.tmod (n:Int) 2=((n % 2:Nat):Int):=rfl
theorem b_a9 {tags:List Int} {to:Int} {fuel:Nat} (hl:tags.length<=1000) (hf:2000<fuel):a_fd fuel tags to=some (y_6 tags to):=by
 unfold a_fd y_6
 rw [a_yp]
 by_cases c:tags.length % 2=0
 ·simp [c]
 have c':(((tags.length % 2:Nat):Int)==0)=false:=by rw [beq_eq_false_iff_ne];omega
 rw [if_neg c]
 simp only [c',false_eq_true,if_false]
 have hodd:tags.length % 2=1:=by omega
 have h:=a_y6 (body:=a_bx fuel tags to) (fu:=fuel) tags.length (fun i=>((if i=0 then [] else w_2 tags to (i / 2)),(i:Int))) (w_2 tags to (tags.length / 2)) (fun i hi=>by
  have hin:inb tags (i:Int)=true:=a_7 (by omega) (by omega)
  have hd:(i:Int)<(tags.length:Int):=by omega
  unfold a_bx
  simp only [hd,decide_true,if_true,hin,c_3 (show i<=1000000000 by omega),a_yp,Nat.succ_ne_zero,if_false]
  by_cases c0:i=0
  ·subst c0
   have e1:¬ ((0:Nat):Int)>0:=by omega
   by_cases n1:gt tags 0<0
   ·simp [n1,w_2,a_ej,d_8]
   ·by_cases n2:to<0
    ·simp [n1,n2,w_2,a_ej,d_8]
    ·simp [n1,n2,w_2,a_ej,d_8]
  ·have e1:(i:Int)>0:=by omega
   simp only [e1,decide_true,if_true,a_0,c0,if_false]
   by_cases c2:i % 2=0
   ·have c2':(((i % 2:Nat):Int)==0)=true:=by simp [c2]
    have e2:(i+1) / 2=i / 2:=by omega
    simp only [c2',if_true,a_0,e2]
   ·have c2':(((i % 2:Nat):Int)==0)=false:=by rw [beq_eq_false_iff_ne];omega
    have hin2:inb tags ((i+1:Nat):Int)=true:=a_7 (by omega) (by omega)
    have e2:(i+1) / 2=i / 2+1:=by omega
    have e3:2*(i / 2)+1=i:=by omega
    have e4:2*(i / 2)+2=i+1:=by omega
    have hap:∀ y,a_8 16 (w_2 tags to (i / 2)) [y]=true:=fun y=>d_8 (by rw [a_f6];simp;omega)
    simp only [c2',false_eq_true,if_false,hin2,if_true,e2,w_2,e3,e4]
    by_cases n1:gt tags (i:Int)<0
    ·simp [n1,a_ej,hap]
    ·by_cases n2:gt tags ((i+1:Nat):Int)<0
     ·simp only [n1,n2,decide_false,decide_true,false_eq_true,if_false,if_true,a_0,hap,a_ej,or_true]
     ·simp only [n1,n2,decide_false,false_eq_true,if_false,if_true,a_0,hap,a_ej,or_self]) (by
  unfold a_bx
  have:¬ tags.length=0:=by omega
  simp [this]) (by omega)
 have h0:iter (a_bx fuel tags to) fuel (([]:List h_6),0)=some (w_2 tags to (tags.length / 2)):=h
 rw [h0];rfl
theorem a_7b {a b:Int} {fuel:Nat}:a_fh fuel a b=some (a_ej a b):=by
 unfold a_fh a_ej
 by_cases n1:a<0
 ·simp [n1]
 ·by_cases n2:b<0
  ·simp [n1,n2]
  ·simp [n1,n2]
theorem b_f9 {tags:List Int} {to:Int} {fuel:Nat} (hl:tags.length<=1000) (hf:2000<fuel):a_g9 fuel tags to=some (y_6 tags to):=by
 unfold a_g9 y_6
 rw [a_yp]
 by_cases c:tags.length % 2=0
 ·simp [c]
 have c':(((tags.length % 2:Nat):Int)==0)=false:=by rw [beq_eq_false_iff_ne];omega
 have hin0:inb tags 0=true:=a_7 (by omega) (by omega)
 rw [if_neg c]
 simp only [c',false_eq_true,if_false,hin0,if_true,a_7b,a_0]
 have h:=a_y6 (body:=a_ao fuel tags) (fu:=fuel) (tags.length / 2) (fun k=>(w_2 tags to k,((2*k+1:Nat):Int))) (w_2 tags to (tags.length / 2)) (fun k hk=>by
  have hin:inb tags ((2*k+1:Nat):Int)=true:=a_7 (by omega) (by omega)
  have hin2:inb tags ((2*k+1+1:Nat):Int)=true:=a_7 (by omega) (by omega)
  have hd:((2*k+1+1:Nat):Int)<(tags.length:Int):=by omega
  have e:W (((2*k+1:Nat):Int)+2)=((2*(k+1)+1:Nat):Int):=by rw [f_2 (by omega) (by omega)];omega
  unfold a_ao
  simp only [c_3 (show 2*k+1<=1000000000 by omega),hd,decide_true,if_true,hin,hin2,a_7b,a_0,e]
  rw [if_pos (d_8 (by rw [a_f6];simp;omega))];rfl) (by
  have hd:¬ ((2*(tags.length / 2)+1+1:Nat):Int)<(tags.length:Int):=by omega
  unfold a_ao
  simp only [c_3 (show 2*(tags.length / 2)+1<=1000000000 by omega),hd,decide_false,false_eq_true,if_false]) (by omega)
 have h0:iter (a_ao fuel tags) fuel ([a_ej (gt tags 0) to],1)=some (w_2 tags to (tags.length / 2)):=h
 rw [h0];rfl
theorem a_0k (tags:List Int) (to:Int) (h:tags.length<=1000):(y_6 tags to).length<=1000:=by
 unfold y_6
 split
 ·simp
 ·rw [a_f6];omega
theorem a_tx {a:List h_6} {fuel:Nat} (hl:a.length<=1000) (hf:2000<fuel):p_9 fuel a a=some true:=by
 unfold p_9
 have h:=b_g7 (body:=a_bz fuel a a) (fu:=fuel) a.length (.inr ()) (fun i hi=>by
  have hin:inb a (i:Int)=true:=a_7 (by omega) (by omega)
  have hd:(i:Int)<(a.length:Int):=by omega
  unfold a_bz
  simp [hd,hin,c_3 (show i<=1000000000 by omega)]) (by unfold a_bz;simp) (by omega)
 simp [h]
structure Cs where
 at_:Int
 work:Int
 pl:List Nat
 vals:List (List Int)
 fB:Nat->Nat->Int
 fD:Nat->Nat->Int
def Cs.zero:Cs:=⟨0,0,[],[],fun _ _=>0,fun _ _=>0⟩
def Cs.step (l:List a_2) (n:Nat) (a:List a_1) (b:Nat->List a_1) (s:Cs) (b_:Int) (beg:Bool):Cs:=
 ⟨s.at_+1,s.work+stW l n a b s.pl b_ beg,stP l n a b s.pl b_ beg,(stP l n a b s.pl b_ beg).map (stV l a b s.at_ s.pl s.vals s.fB s.fD beg),
  i_6 l (goB s.pl beg s.fB) ((stP l n a b s.pl b_ beg).map (stS a b s.pl s.fB s.fD beg)) ((stP l n a b s.pl b_ beg).map (stH a b s.pl s.fB s.fD beg)),
  j_4 l (goB s.pl beg s.fB) (goD s.pl beg s.fD) ((stP l n a b s.pl b_ beg).map (stS a b s.pl s.fB s.fD beg)) ((stP l n a b s.pl b_ beg).map (stH a b s.pl s.fB s.fD beg))⟩
def Cs.e_0 (s:Cs) (from_:Int):Cs:=
 let st:=g_7 s.vals from_ s.pl.length
 ⟨s.at_,s.work,st.map fun i=>s.pl.getD i 0,st.map fun i:Nat=>gt s.vals (i:Int),fun i k=>s.fB (st.getD i 0) (st.getD k 0),fun i k=>s.fD (st.getD i 0) (st.getD k 0)⟩
section
variable (l:List a_2) (n:Nat) (a:List a_1) (b:Nat->List a_1) (e:Nat->a_1×Bool) (z:a_1×Bool)
def Cs.C (s:Cs):b_1:=mkC l n a b e z s.at_ s.work s.pl s.vals s.fB s.fD
def Cs.X (s:Cs):b_4:=mkX l n a b e s.at_ s.work s.pl s.vals s.fB s.fD
def Cs.f_0 (s:Cs):List Int×Bool:=a_hi l e s.at_ s.pl s.vals s.fD
end
structure CsOk (l:List a_2) (n:Nat) (s:Cs) (i:Nat):Prop where
 ok:p_7 l n s.pl s.vals s.fB s.fD
 a0:s.at_=i
 w0:0<=s.work
 w1:s.work<=1000000*i
section
variable {F:Nat} {l:List a_2} {n:Nat} {a:List a_1} {b:Nat->List a_1} {e:Nat->a_1×Bool} {z:a_1×Bool}
theorem b_ry (l:List a_2) (n:Nat):CsOk l n Cs.zero 0:=⟨b_mu l n,rfl,Int.le_refl _,by show (0:Int)<=_;omega⟩
theorem a_17 (K:l_1 l n a b e z F) (hw:∀ x∈l,d_6 x) {s:Cs} {i:Nat} (h:CsOk l n s i) (hi:i<=100000) {b_:Int} (hb:inK .u8 b_) (beg:Bool) :
  m_7 F (s.C l n a b e z) b_ beg=some ((s.step l n a b b_ beg).C l n a b e z)/\a_dd F (s.X l n a b e) b_ beg=some ((s.step l n a b b_ beg).X l n a b e)/\CsOk l n (s.step l n a b b_ beg) (i+1):=by
 have h0:=h.a0;have h1:=h.w0;have h2:=h.w1
 have hr:=a_wq K h.ok b_ beg
 refine ⟨b_hp K h.ok hw hb beg (by omega) (by omega) h1 (by omega),b_hn K h.ok hw hb beg (by omega) (by omega) h1 (by omega),b_m2 K h.ok hw b_ beg,?_,?_,?_⟩
 ·show s.at_+1=_;omega
 ·show 0<=s.work+_;omega
 ·show s.work+_<=_;omega
theorem b_ws (K:l_1 l n a b e z F) {s:Cs} {i:Nat} (h:CsOk l n s i) (from_:Int) :
  a_ck F (s.C l n a b e z) from_=some ((s.e_0 from_).C l n a b e z)/\a_i4 F (s.X l n a b e) from_=some ((s.e_0 from_).X l n a b e)/\CsOk l n (s.e_0 from_) i:=by
 have s1:=b_p5 (at_:=s.at_) (work:=s.work) K h.ok from_ rfl
 have s2:=b_qv (at_:=s.at_) (work:=s.work) K h.ok from_ rfl
 rw [h.ok.len] at s1
 exact ⟨s1,s2,b_o1 h.ok (b_ig s.vals from_ s.pl.length) (fun i h=>a_7g h),h.a0,h.w0,h.w1⟩
theorem b_d1 (K:l_1 l n a b e z F) {s:Cs} {i:Nat} (h:CsOk l n s i):p_3 F (s.C l n a b e z)=some (s.f_0 l e)/\a_c8 F (s.X l n a b e)=some (s.f_0 l e):=⟨b_dc K h.ok,b_cq K h.ok⟩
end
theorem a_wa {o:List Int} {j:Nat} {x:Int} (h:1<=j):gt (o.set j x) 0=gt o 0:=by
 unfold gt
 rw [List.getD_eq_getElem?_getD,List.getD_eq_getElem?_getD]
 have:(0:Int).toNat=0:=rfl
 rw [this,List.getElem?_set_ne (by omega)]
theorem b_lp (now none_:Int) (o:List Int) (m:d_5):gt (c_6 now none_ o m) 0=gt o 0:=by
 unfold c_6
 split
 ·rfl
 ·rename_i h
  have h1:1<=m.Group:=by omega
  split
  ·exact a_wa (by omega)
  ·split
   ·exact a_wa (by omega)
   ·split
    ·rw [a_wa (by omega),a_wa (by omega)]
    ·rfl
theorem a_rv (now none_:Int):∀ (marks:List d_5) (o:List Int),gt (a_d5 now none_ o marks) 0=gt o 0
 |[],o=>rfl
 |
  m :: r,o=>by
  have h:=a_rv now none_ r (c_6 now none_ o m)
  rw [b_lp] at h
  exact h
theorem b_ce (l:List a_2) (at_:Int):gt (a_au l at_) 0=at_:=by
 have ht:=p_6 l
 unfold a_au
 obtain ⟨t,hT⟩:∃ t:Nat,(h_2 l).toNat=t+1:=⟨(h_2 l).toNat-1,by omega⟩
 rw [hT]
 rfl
section
variable {F:Nat} {l:List a_2} {n:Nat} {a:List a_1} {b:Nat->List a_1} {e:Nat->a_1×Bool} {z:a_1×Bool}
theorem b_qg {at_:Int} {pl:List Nat} {vals:List (List Int)} {fB fD:Nat->Nat->Int} (C:p_7 l n pl vals fB fD) {beg:Bool} {b_:Int} {r:Nat} (hr:r∈stP l n a b pl b_ beg) :
  (stS a b pl fB fD beg r<pl.length/\gt (goV l at_ vals beg) (stS a b pl fB fD beg r:Int)=gt vals (stS a b pl fB fD beg r:Int))\/(beg=true/\stS a b pl fB fD beg r=pl.length/\gt (goV l at_ vals beg) (stS a b pl fB fD beg r:Int)=a_au l at_):=by
 have hlt:stS a b pl fB fD beg r<goM pl beg:=by rw [<-a_c2 a b];exact a_j9 (a_h1 hr).2
 have hvl:=C.len
 by_cases h:stS a b pl fB fD beg r<pl.length
 ·refine .inl ⟨h,?_⟩
  unfold goV
  exact m_6 (by omega) (by omega)
 ·cases beg with
  |false=>unfold goM at hlt;simp at hlt;exact absurd hlt h
  |
   true=>
   unfold goM at hlt
   simp only [if_true] at hlt
   have e:stS a b pl fB fD true r=pl.length:=by omega
   refine .inr ⟨rfl,e,?_⟩
   rw [e]
   unfold goV
   exact x_9 hvl.symm
theorem b_i1 {at_:Int} {pl:List Nat} {vals:List (List Int)} {fB fD:Nat->Nat->Int} (C:p_7 l n pl vals fB fD) (hs:(a_hi l e at_ pl vals fD).2=true):(a_hi l e at_ pl vals fD).1.length=(h_2 l).toNat/\∃ v∈vals,gt (a_hi l e at_ pl vals fD).1 0=gt v 0:=by
 unfold a_hi at hs ⊢
 by_cases hc:a_b2 fD (canN e pl pl.length)<0
 ·rw [if_pos hc] at hs;cases hs
 ·rw [if_neg hc]
  rcases a_hu (fD:=fD) (canN e pl pl.length) (n:=pl.length) (fun i h=>a_ne h) with hb2 | ⟨k,hb2,hk⟩
  ·rw [hb2] at hc;exact absurd (show (-1:Int)<0 by omega) hc
  ·have hm:=gtm (l:=vals) (i:=k) (by rw [C.len];exact hk)
   rw [hb2]
   exact ⟨by rw [a_do];exact C.row _ hm,_,hm,by rw [a_rv]⟩
theorem b_ej {at_:Int} (hs:(s_7 l z at_).2=true):(s_7 l z at_).1.length=(h_2 l).toNat/\gt (s_7 l z at_).1 0=at_:=by
 unfold s_7 at hs ⊢
 by_cases hz:z.2=true
 ·rw [if_pos hz]
  exact ⟨by rw [a_do,a_ix],by rw [a_rv,b_ce]⟩
 ·rw [if_neg hz] at hs;cases hs
theorem b_ca {l:List a_2} {tags:List Int} {to:Int} (h:tags.length=(h_2 l).toNat):0<(y_6 tags to).length/\gt (y_6 tags to) 0=a_ej (gt tags 0) to:=by
 have ht:=p_6 l
 have hodd:tags.length % 2=1:=by
  rw [h]
  have:h_2 l=1+2*TopF l:=rfl
  have:=a_rh l
  omega
 unfold y_6
 rw [if_neg (by omega)]
 refine ⟨by rw [a_f6];omega,?_⟩
 have:∀ k,gt (w_2 tags to k) 0=a_ej (gt tags 0) to:=by
  intro k
  induction k with
  |zero=>rfl
  |
   succ k ih=>
   unfold w_2
   rw [m_6 (by omega) (by rw [a_f6];omega)]
   exact ih
 exact this _
end
