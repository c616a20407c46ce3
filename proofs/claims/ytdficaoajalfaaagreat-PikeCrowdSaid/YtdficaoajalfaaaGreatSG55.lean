/- Runs over bytes, by the program and by the document. Tags: where a run began; the last time that something is found. What holds of any crowd: where its runs began, what their tags are, which one is ahead. Its conditions: none. -/
import Derived.Test.YtdficaoajalfaaaGreatSG54
open Bool (false_eq_true)
open List (getD_eq_getElem?_getD mem_map)
set_option linter.all false
namespace Go.Proofs.YtdficaoajalfaaaGreat
open Go.V Go.RowKit Old Go.X
structure Cs where
 at_:Int
 work:Int
 pl:List Nat
 vals:List (List Int)
 fB:Nat->Nat->Int
 fD:Nat->Nat->Int
def Cs.zero:Cs:=⟨0,0,[],[],fun _ _=>0,fun _ _=>0⟩
def Cs.step (l:List a_2) (n:Nat) (a:List a_1) (b:Nat->List a_1) (s:Cs) (b_:Int) (beg:Bool):Cs:=
 ⟨s.at_+1,s.work+stW l n a b s.pl b_ beg,stP l n a b s.pl b_ beg,(stP l n a b s.pl b_ beg).map (stV l a b s.at_ s.pl s.vals s.fB s.fD beg),
  i_6 l (goB s.pl beg s.fB) ((stP l n a b s.pl b_ beg).map (stS a b s.pl s.fB s.fD beg)) ((stP l n a b s.pl b_ beg).map (stH a b s.pl s.fB s.fD beg)),
  j_4 l (goB s.pl beg s.fB) (goD s.pl beg s.fD) ((stP l n a b s.pl b_ beg).map (stS a b s.pl s.fB s.fD beg)) ((stP l n a b s.pl b_ beg).map (stH a b s.pl s.fB s.fD beg))⟩
def Cs.e_0 (s:Cs) (from_:Int):Cs:=
 let st:=g_7 s.vals from_ s.pl.length
 ⟨s.at_,s.work,st.map fun i=>s.pl.getD i 0,st.map fun i:Nat=>gt s.vals (i:Int),fun i k=>s.fB (st.getD i 0) (st.getD k 0),fun i k=>s.fD (st.getD i 0) (st.getD k 0)⟩
section
variable (l:List a_2) (n:Nat) (a:List a_1) (b:Nat->List a_1) (e:Nat->a_1×Bool) (z:a_1×Bool)
def Cs.C (s:Cs):b_1:=mkC l n a b e z s.at_ s.work s.pl s.vals s.fB s.fD
def Cs.X (s:Cs):b_4:=mkX l n a b e s.at_ s.work s.pl s.vals s.fB s.fD
def Cs.f_0 (s:Cs):List Int×Bool:=a_hi l e s.at_ s.pl s.vals s.fD
end
structure CsOk (l:List a_2) (n:Nat) (s:Cs) (i:Nat):Prop where
 ok:p_7 l n s.pl s.vals s.fB s.fD
 a0:s.at_=i
 w0:0<=s.work
 w1:s.work<=1000000*i
section
variable {F:Nat} {l:List a_2} {n:Nat} {a:List a_1} {b:Nat->List a_1} {e:Nat->a_1×Bool} {z:a_1×Bool}
theorem b_ry (l:List a_2) (n:Nat):CsOk l n Cs.zero 0:=⟨b_mu l n,rfl,Int.le_refl _,by show (0:Int)<=_;omega⟩
theorem a_17 (K:l_1 l n a b e z F) (hw:∀ x∈l,d_6 x) {s:Cs} {i:Nat} (h:CsOk l n s i) (hi:i<=100000) {b_:Int} (hb:inK .u8 b_) (beg:Bool) :
  m_7 F (s.C l n a b e z) b_ beg=some ((s.step l n a b b_ beg).C l n a b e z)/\a_dd F (s.X l n a b e) b_ beg=some ((s.step l n a b b_ beg).X l n a b e)/\CsOk l n (s.step l n a b b_ beg) (i+1):=by
 have h0:=h.a0;have h1:=h.w0;have h2:=h.w1
 have hr:=a_wq K h.ok b_ beg
 refine ⟨b_hp K h.ok hw hb beg (by omega) (by omega) h1 (by omega),b_hn K h.ok hw hb beg (by omega) (by omega) h1 (by omega),b_m2 K h.ok hw b_ beg,?_,?_,?_⟩
 ·show s.at_+1=_;omega
 ·show 0<=s.work+_;omega
 ·show s.work+_<=_;omega
theorem b_d1 (K:l_1 l n a b e z F) {s:Cs} {i:Nat} (h:CsOk l n s i):p_3 F (s.C l n a b e z)=some (s.f_0 l e)/\a_c8 F (s.X l n a b e)=some (s.f_0 l e):=⟨b_dc K h.ok,b_cq K h.ok⟩
def o_8 (l:List a_2) (n:Nat) (a:List a_1) (b:Nat->List a_1) (w:List Int):Nat->Cs
 |0=>Cs.zero
 |i+1=>(o_8 l n a b w i).step l n a b (gt w (i:Int)) (i==0)
def o_7 (l:List a_2) (n:Nat) (a:List a_1) (b:Nat->List a_1) (e:Nat->a_1×Bool) (z:a_1×Bool) (w:List Int) (whole:Bool):Nat->List Int×Bool×Int
 |0=>((s_7 l z 0).1,(s_7 l z 0).2,0)
 |i+1=>if ((o_8 l n a b w (i+1)).f_0 l e).2||whole then (((o_8 l n a b w (i+1)).f_0 l e).1,((o_8 l n a b w (i+1)).f_0 l e).2,((i+1:Nat):Int)) else o_7 l n a b e z w whole i
def runR (r:List Int×Bool×Int):List h_6×Int:=if r.2.1 then (y_6 r.1 r.2.2,0) else ([],7)
theorem a_j0 (K:l_1 l n a b e z F) (hw:∀ x∈l,d_6 x) {w:List Int} (hb:∀ x∈w,inK .u8 x):∀ i,i<=w.length->i<=100000->CsOk l n (o_8 l n a b w i) i
 |0,_,_=>b_ry l n
 |i+1,h,h2=>(a_17 K hw (a_j0 K hw hb i (by omega) (by omega)) (by omega) (hb _ (gtm (by omega))) (i==0)).2.2
theorem a_o3 (K:l_1 l n a b e z F) (hw:∀ x∈l,d_6 x) {w:List Int} (hb:∀ x∈w,inK .u8 x) (whole:Bool):∀ i,i<=w.length->i<=100000->(o_7 l n a b e z w whole i).1.length<=1000
 |0,_,_=>a_0s
 |
  i+1,h,h2=>by
  unfold o_7
  split
  ·exact a_3t (a_j0 K hw hb (i+1) h h2).ok
  ·exact a_o3 K hw hb whole i (by omega) (by omega)
theorem b_fp (K:l_1 l n a b e z F) (hw:∀ x∈l,d_6 x) {w:List Int} (hb:∀ x∈w,inK .u8 x) (hl:w.length<=100000) (whole:Bool):s_3 F l w whole=some (runR (o_7 l n a b e z w whole w.length)):=by
 have f1:=K.f1
 unfold s_3
 rw [b_ma K.hR K.hn K.T K.f1 K.TF]
 have h0:(⟨m_0 l n a b e z,0,0,[],[],⟨[],[]⟩⟩:b_1)=mkC l n a b e z 0 0 [] [] (fun _ _=>0) (fun _ _=>0):=rfl
 simp only [a_0,show ((0:Int) != 0)=false from rfl,false_eq_true,if_false,h0,b_ct K]
 have:=c_2 (step:=y_0 F w whole) (fun i=>((o_7 l n a b e z w whole i).1,(o_7 l n a b e z w whole i).2.1,(o_7 l n a b e z w whole i).2.2,(i:Int),(o_8 l n a b w i).C l n a b e z)) (o_7 l n a b e z w whole w.length) w.length (fun i hi=>.inl ?_) ?_ w.length 0 F (by omega) (by omega)
 ·have h2:iter (y_0 F w whole) F ((s_7 l z 0).1,(s_7 l z 0).2,0,0,mkC l n a b e z 0 0 [] [] (fun _ _=>0) (fun _ _=>0))=_:=this
  rw [h2]
  have hs:=a_o3 K hw hb whole w.length (Nat.le_refl _) hl
  unfold runR
  generalize o_7 l n a b e z w whole w.length=r at *
  obtain ⟨r1,r2,r3⟩:=r
  cases r2 with
  |false=>rfl
  |true=>simp only [a_0,Bool.not_true,false_eq_true,if_false,if_true,b_a9 hs (show 2000<F by omega)]
 ·have hok:=a_j0 K hw hb i (by omega) (by omega)
  have hby:=hb _ (gtm (l:=w) (i:=i) hi)
  obtain ⟨s1,_,s3⟩:=a_17 K hw hok (by omega) hby (i==0)
  have h1:(i:Int)<(w.length:Int):=by omega
  have h2:((i:Int)==0)=(i==0):=by rw [Bool.eq_iff_iff];simp only [beq_iff_eq];omega
  have hb2:=(b_d1 K s3).1
  have hat:((o_8 l n a b w (i+1)).C l n a b e z).at_=((i+1:Nat):Int):=s3.a0
  unfold y_0
  simp only [h1,decide_true,if_true,a_7 (l:=w) (i:=(i:Int)) (by omega) h1,h2,s1,a_0,hb2,c_3 (i:=i) (by omega)]
  have e1:(o_8 l n a b w i).step l n a b (gt w (i:Int)) (i==0)=o_8 l n a b w (i+1):=rfl
  rw [e1]
  simp only [o_7]
  cases c1:((o_8 l n a b w (i+1)).f_0 l e).2
  ·cases whole
   ·simp only [false_eq_true,if_false,a_0,Bool.or_self]
   ·simp only [false_eq_true,if_false,a_0,Bool.false_or,if_true,hat]
  ·simp only [if_true,a_0,Bool.true_or,hat]
 ·unfold y_0
  have h1:¬ ((w.length:Int)<(w.length:Int)):=by omega
  simp only [h1,decide_false,false_eq_true,if_false]
theorem b_rx (K:l_1 l n a b e z F) (hw:∀ x∈l,d_6 x) {w:List Int} (hb:∀ x∈w,inK .u8 x) (hl:w.length<=100000) (whole:Bool):p_8 F l w whole=some (runR (o_7 l n a b e z w whole w.length)):=by
 have f1:=K.f1
 unfold p_8
 rw [K.TF.rR,b_iy K.hR K.hn K.T K.f1 K.TF]
 have h0:s_9 l n a b e 0 0 [] [] ⟨[],[]⟩=mkX l n a b e 0 0 [] [] (fun _ _=>0) (fun _ _=>0):=rfl
 simp only [a_0,Bool.not_true,false_eq_true,if_false,h0,b_dw K]
 have:=c_2 (step:=x_1 F w whole) (fun i=>((o_7 l n a b e z w whole i).1,(o_7 l n a b e z w whole i).2.1,(o_7 l n a b e z w whole i).2.2,(i:Int),(o_8 l n a b w i).X l n a b e)) (o_7 l n a b e z w whole w.length) w.length (fun i hi=>.inl ?_) ?_ w.length 0 F (by omega) (by omega)
 ·have h2:iter (x_1 F w whole) F ((s_7 l z 0).1,(s_7 l z 0).2,0,0,mkX l n a b e 0 0 [] [] (fun _ _=>0) (fun _ _=>0))=_:=this
  rw [h2]
  have hs:=a_o3 K hw hb whole w.length (Nat.le_refl _) hl
  unfold runR
  generalize o_7 l n a b e z w whole w.length=r at *
  obtain ⟨r1,r2,r3⟩:=r
  cases r2 with
  |false=>rfl
  |true=>simp only [a_0,Bool.not_true,false_eq_true,if_false,if_true,b_f9 hs (show 2000<F by omega)]
 ·have hok:=a_j0 K hw hb i (by omega) (by omega)
  have hby:=hb _ (gtm (l:=w) (i:=i) hi)
  obtain ⟨_,s1,s3⟩:=a_17 K hw hok (by omega) hby (i==0)
  have h1:(i:Int)<(w.length:Int):=by omega
  have h2:((i:Int)==0)=(i==0):=by rw [Bool.eq_iff_iff];simp only [beq_iff_eq];omega
  have hb2:=(b_d1 K s3).2
  have hat:((o_8 l n a b w (i+1)).X l n a b e).At=((i+1:Nat):Int):=s3.a0
  unfold x_1
  simp only [h1,decide_true,if_true,a_7 (l:=w) (i:=(i:Int)) (by omega) h1,h2,s1,a_0,hb2,c_3 (i:=i) (by omega)]
  have e1:(o_8 l n a b w i).step l n a b (gt w (i:Int)) (i==0)=o_8 l n a b w (i+1):=rfl
  rw [e1]
  simp only [o_7]
  cases c1:((o_8 l n a b w (i+1)).f_0 l e).2
  ·cases whole
   ·simp only [false_eq_true,if_false,a_0,Bool.or_self]
   ·simp only [false_eq_true,if_false,a_0,Bool.false_or,if_true,hat]
  ·simp only [if_true,a_0,Bool.true_or,hat]
 ·unfold x_1
  have h1:¬ ((w.length:Int)<(w.length:Int)):=by omega
  simp only [h1,decide_false,false_eq_true,if_false]
theorem b_jz {r:List Int×Bool×Int} (h:r.1.length<=1000):(runR r).1.length<=1000:=by
 unfold runR
 split
 ·exact a_0k _ _ h
 ·simp
end
theorem a_wa {o:List Int} {j:Nat} {x:Int} (h:1<=j):gt (o.set j x) 0=gt o 0:=by
 unfold gt
 rw [getD_eq_getElem?_getD,getD_eq_getElem?_getD]
 have:(0:Int).toNat=0:=rfl
 rw [this,List.getElem?_set_ne (by omega)]
theorem b_lp (now none_:Int) (o:List Int) (m:d_5):gt (c_6 now none_ o m) 0=gt o 0:=by
 unfold c_6
 split
 ·rfl
 ·rename_i h
  have h1:1<=m.Group:=by omega
  split
  ·exact a_wa (by omega)
  ·split
   ·exact a_wa (by omega)
   ·split
    ·rw [a_wa (by omega),a_wa (by omega)]
    ·rfl
theorem a_rv (now none_:Int):∀ (marks:List d_5) (o:List Int),gt (a_d5 now none_ o marks) 0=gt o 0
 |[],o=>rfl
 |
  m :: r,o=>by
  have h:=a_rv now none_ r (c_6 now none_ o m)
  rw [b_lp] at h
  exact h
theorem b_ce (l:List a_2) (at_:Int):gt (a_au l at_) 0=at_:=by
 have ht:=p_6 l
 unfold a_au
 obtain ⟨t,hT⟩:∃ t:Nat,(h_2 l).toNat=t+1:=⟨(h_2 l).toNat-1,by omega⟩
 rw [hT]
 rfl
section
variable {F:Nat} {l:List a_2} {n:Nat} {a:List a_1} {b:Nat->List a_1} {e:Nat->a_1×Bool} {z:a_1×Bool}
theorem b_qg {at_:Int} {pl:List Nat} {vals:List (List Int)} {fB fD:Nat->Nat->Int} (C:p_7 l n pl vals fB fD) {beg:Bool} {b_:Int} {r:Nat} (hr:r∈stP l n a b pl b_ beg) :
  (stS a b pl fB fD beg r<pl.length/\gt (goV l at_ vals beg) (stS a b pl fB fD beg r:Int)=gt vals (stS a b pl fB fD beg r:Int))\/(beg=true/\stS a b pl fB fD beg r=pl.length/\gt (goV l at_ vals beg) (stS a b pl fB fD beg r:Int)=a_au l at_):=by
 have hlt:stS a b pl fB fD beg r<goM pl beg:=by rw [<-a_c2 a b];exact a_j9 (a_h1 hr).2
 have hvl:=C.len
 by_cases h:stS a b pl fB fD beg r<pl.length
 ·refine .inl ⟨h,?_⟩
  unfold goV
  exact m_6 (by omega) (by omega)
 ·cases beg with
  |false=>unfold goM at hlt;simp at hlt;exact absurd hlt h
  |
   true=>
   unfold goM at hlt
   simp only [if_true] at hlt
   have e:stS a b pl fB fD true r=pl.length:=by omega
   refine .inr ⟨rfl,e,?_⟩
   rw [e]
   unfold goV
   exact x_9 hvl.symm
theorem b_c1 (K:l_1 l n a b e z F) (hw:∀ x∈l,d_6 x) {w:List Int} (hb:∀ x∈w,inK .u8 x):∀ i,i<=w.length->i<=100000->∀ v∈(o_8 l n a b w i).vals,gt v 0=0
 |0,_,_=>by intro v hv;cases hv
 |
  i+1,h,h2=>by
  intro v hv
  have ok:=a_j0 K hw hb i (by omega) (by omega)
  have ih:=b_c1 K hw hb i (by omega) (by omega)
  obtain ⟨r,hr,rfl⟩:=mem_map.1 hv
  unfold stV
  rw [a_rv]
  rcases b_qg (at_:=(o_8 l n a b w i).at_) ok.ok hr with ⟨h1,h3⟩ | ⟨h1,_,h3⟩
  ·rw [h3]
   exact ih _ (gtm (by rw [ok.ok.len];exact h1))
  ·rw [h3,b_ce,ok.a0]
   have:i=0:=by simpa using h1
   rw [this];rfl
def n_1 (l:List a_2) (n:Nat) (a:List a_1) (b:Nat->List a_1) (e:Nat->a_1×Bool) (z:a_1×Bool) (w:List Int):Nat->List Int×Bool
 |0=>s_7 l z 0
 |i+1=>(o_8 l n a b w (i+1)).f_0 l e
theorem b_f7 (w:List Int):∀ i:Nat,o_7 l n a b e z w true i=((n_1 l n a b e z w i).1,(n_1 l n a b e z w i).2,(i:Int))
 |0=>rfl
 |i+1=>by unfold o_7;rw [if_pos (by simp)];rfl
theorem a_xv (w:List Int):∀ i:Nat,((∀ j,j<=i->(n_1 l n a b e z w j).2=false)/\(o_7 l n a b e z w false i).2.1=false)\/
  ∃ t,t<=i/\(n_1 l n a b e z w t).2=true/\o_7 l n a b e z w false i=((n_1 l n a b e z w t).1,true,(t:Int))/\∀ j,t<j->j<=i->(n_1 l n a b e z w j).2=false
 |
  0=>by
  cases h:(n_1 l n a b e z w 0).2 with
  |false=>exact .inl ⟨fun j hj=>by rw [show j=0 by omega];exact h,h⟩
  |true=>exact .inr ⟨0,Nat.le_refl _,h,by unfold o_7;rw [show (s_7 l z 0).2=true from h];rfl,fun j h1 h2=>by omega⟩
 |
  i+1=>by
  cases h:(n_1 l n a b e z w (i+1)).2 with
  |
   true=>
   refine .inr ⟨i+1,Nat.le_refl _,h,?_,fun j h1 h2=>by omega⟩
   have h':((o_8 l n a b w (i+1)).f_0 l e).2=true:=h
   unfold o_7
   rw [if_pos (by rw [h'];rfl),h'];rfl
  |
   false=>
   have h':((o_8 l n a b w (i+1)).f_0 l e).2=false:=h
   have hl:o_7 l n a b e z w false (i+1)=o_7 l n a b e z w false i:=by
    show (if (((o_8 l n a b w (i+1)).f_0 l e).2||false)=true then _ else _)=_
    rw [if_neg (by rw [h'];simp)]
   rw [hl]
   rcases a_xv w i with ⟨h1,h2⟩ | ⟨t,h1,h2,h3,h4⟩
   ·refine .inl ⟨fun j hj=>?_,h2⟩
    by_cases c:j=i+1
    ·rw [c];exact h
    ·exact h1 j (by omega)
   ·refine .inr ⟨t,by omega,h2,h3,fun j c1 c2=>?_⟩
    by_cases c:j=i+1
    ·rw [c];exact h
    ·exact h4 j c1 (by omega)
theorem b_o6 {w:List Int} {m i:Nat} (h:i<m):gt (w.take m) (i:Int)=gt w (i:Int):=by
 unfold gt
 rw [getD_eq_getElem?_getD,getD_eq_getElem?_getD,List.getElem?_take_of_lt (by omega)]
theorem a_0y (w:List Int) (m:Nat):∀ i,i<=m->o_8 l n a b (w.take m) i=o_8 l n a b w i
 |0,_=>rfl
 |i+1,h=>by unfold o_8;rw [a_0y w m i (by omega),b_o6 (by omega)]
theorem b_ep (w:List Int) (m:Nat):∀ i,i<=m->n_1 l n a b e z (w.take m) i=n_1 l n a b e z w i
 |0,_=>rfl
 |i+1,h=>by show (o_8 l n a b (w.take m) (i+1)).f_0 l e=(o_8 l n a b w (i+1)).f_0 l e;rw [a_0y w m (i+1) h]
theorem b_i1 {at_:Int} {pl:List Nat} {vals:List (List Int)} {fB fD:Nat->Nat->Int} (C:p_7 l n pl vals fB fD) (hs:(a_hi l e at_ pl vals fD).2=true):(a_hi l e at_ pl vals fD).1.length=(h_2 l).toNat/\∃ v∈vals,gt (a_hi l e at_ pl vals fD).1 0=gt v 0:=by
 unfold a_hi at hs ⊢
 by_cases hc:a_b2 fD (canN e pl pl.length)<0
 ·rw [if_pos hc] at hs;cases hs
 ·rw [if_neg hc]
  rcases a_hu (fD:=fD) (canN e pl pl.length) (n:=pl.length) (fun i h=>a_ne h) with hb2 | ⟨k,hb2,hk⟩
  ·rw [hb2] at hc;exact absurd (show (-1:Int)<0 by omega) hc
  ·have hm:=gtm (l:=vals) (i:=k) (by rw [C.len];exact hk)
   rw [hb2]
   exact ⟨by rw [a_do];exact C.row _ hm,_,hm,by rw [a_rv]⟩
theorem b_ej {at_:Int} (hs:(s_7 l z at_).2=true):(s_7 l z at_).1.length=(h_2 l).toNat/\gt (s_7 l z at_).1 0=at_:=by
 unfold s_7 at hs ⊢
 by_cases hz:z.2=true
 ·rw [if_pos hz]
  exact ⟨by rw [a_do,a_ix],by rw [a_rv,b_ce]⟩
 ·rw [if_neg hz] at hs;cases hs
theorem b_go (K:l_1 l n a b e z F) (hw:∀ x∈l,d_6 x) {w:List Int} (hb:∀ x∈w,inK .u8 x) (i:Nat) (h:i<=w.length) (h2:i<=100000) (hs:(n_1 l n a b e z w i).2=true):(n_1 l n a b e z w i).1.length=(h_2 l).toNat/\gt (n_1 l n a b e z w i).1 0=0:=by
 cases i with
 |zero=>exact b_ej hs
 |
  succ i=>
  have ok:=a_j0 K hw hb (i+1) h h2
  have h0:=b_c1 K hw hb (i+1) h h2
  obtain ⟨q1,v,q2,q3⟩:=b_i1 (e:=e) (at_:=(o_8 l n a b w (i+1)).at_) ok.ok hs
  exact ⟨q1,q3.trans (h0 v q2)⟩
theorem b_ca {l:List a_2} {tags:List Int} {to:Int} (h:tags.length=(h_2 l).toNat):0<(y_6 tags to).length/\gt (y_6 tags to) 0=a_ej (gt tags 0) to:=by
 have ht:=p_6 l
 have hodd:tags.length % 2=1:=by
  rw [h]
  have:h_2 l=1+2*TopF l:=rfl
  have:=a_rh l
  omega
 unfold y_6
 rw [if_neg (by omega)]
 refine ⟨by rw [a_f6];omega,?_⟩
 have:∀ k,gt (w_2 tags to k) 0=a_ej (gt tags 0) to:=by
  intro k
  induction k with
  |zero=>rfl
  |
   succ k ih=>
   unfold w_2
   rw [m_6 (by omega) (by rw [a_f6];omega)]
   exact ih
 exact this _
end
theorem a_r3 {o:List Int} {j m:Nat} {x:Int}:gt (o.set j x) (m:Int)=gt o (m:Int)\/gt (o.set j x) (m:Int)=x:=by
 unfold gt
 rw [getD_eq_getElem?_getD,getD_eq_getElem?_getD]
 simp only [Int.toNat_natCast]
 by_cases e:j=m
 ·subst e
  by_cases h:j<o.length
  ·right;rw [List.getElem?_set_self h];rfl
  ·left;rw [List.set_eq_of_length_le (by omega)]
 ·left;rw [List.getElem?_set_ne e]
theorem b_pg (now none_:Int) (o:List Int) (k:d_5) (m:Nat):gt (c_6 now none_ o k) (m:Int)=gt o (m:Int)\/gt (c_6 now none_ o k) (m:Int)=now\/gt (c_6 now none_ o k) (m:Int)=none_:=by
 unfold c_6
 split
 ·exact .inl rfl
 ·split
  ·rcases a_r3 (o:=o) (j:=(2*k.Group-1).toNat) (m:=m) (x:=now) with h | h
   ·exact .inl h
   ·exact .inr (.inl h)
  ·split
   ·rcases a_r3 (o:=o) (j:=(2*k.Group).toNat) (m:=m) (x:=now) with h | h
    ·exact .inl h
    ·exact .inr (.inl h)
   ·split
    ·rcases a_r3 (o:=o.set (2*k.Group-1).toNat none_) (j:=(2*k.Group).toNat) (m:=m) (x:=none_) with h | h
     ·rw [h]
      rcases a_r3 (o:=o) (j:=(2*k.Group-1).toNat) (m:=m) (x:=none_) with h | h
      ·exact .inl h
      ·exact .inr (.inr h)
     ·exact .inr (.inr h)
    ·exact .inl rfl
theorem b_ei (now none_:Int) (m:Nat):∀ (marks:List d_5) (o:List Int),gt (a_d5 now none_ o marks) (m:Int)=gt o (m:Int)\/gt (a_d5 now none_ o marks) (m:Int)=now\/gt (a_d5 now none_ o marks) (m:Int)=none_
 |[],o=>.inl rfl
 |
  k :: r,o=>by
  have h:=b_ei now none_ m r (c_6 now none_ o k)
  have e:a_d5 now none_ o (k :: r)=a_d5 now none_ (c_6 now none_ o k) r:=rfl
  rw [e]
  rcases h with h | h
  ·rw [h];exact b_pg now none_ o k m
  ·exact .inr h
theorem b_se (l:List a_2) (at_:Int) (m:Nat) (h:1<=m) (hm:m<(h_2 l).toNat):gt (a_au l at_) (m:Int)=-1:=by
 unfold a_au gt
 rw [getD_eq_getElem?_getD,Int.toNat_natCast,List.getElem?_set_ne (by omega),List.getElem?_replicate,if_pos hm];rfl
structure Inv (l:List a_2) (may:Nat->Bool) (i:Nat) (vals:List (List Int)) (fB fD:Nat->Nat->Int):Prop where
 first:∀ v∈vals,∃ j:Nat,j<i/\gt v 0=(j:Int)/\may j=true
 rest:∀ v∈vals,∀ m:Nat,1<=m->m<(h_2 l).toNat->gt v (m:Int)=-1\/(gt v 0<=gt v (m:Int)/\gt v (m:Int)<(i:Int))
 ahead:∀ k m:Nat,k<vals.length->m<vals.length->gt (gt vals (k:Int)) 0≠gt (gt vals (m:Int)) 0->fB k m=0/\(0<fD k m↔gt (gt vals (k:Int)) 0<gt (gt vals (m:Int)) 0)
section
variable {F:Nat} {l:List a_2} {n:Nat} {a:List a_1} {b:Nat->List a_1} {e:Nat->a_1×Bool} {z:a_1×Bool}
theorem b_ge {t:Int} (h0:0<=t) (h1:t<=400):numF 0 t=0:=by
 unfold numF
 rw [f_2 (by omega) (by omega),if_neg (by omega)]
theorem b_qx (K:l_1 l n a b e z F) {s:Cs} {i:Nat} (h:CsOk l n s i) {may:Nat->Bool} (hv:Inv l may i s.vals s.fB s.fD) (b_:Int) (beg:Bool) (hmay:beg=true->may i=true) :
  Inv l may (i+1) (s.step l n a b b_ beg).vals (s.step l n a b b_ beg).fB (s.step l n a b b_ beg).fD:=by
 have hat:=h.a0
 have hvl:=h.ok.len
 have src:∀ r∈stP l n a b s.pl b_ beg,(∃ j:Nat,j<i+1/\gt (gt (goV l s.at_ s.vals beg) (stS a b s.pl s.fB s.fD beg r:Int)) 0=(j:Int)/\may j=true)/\
   (∀ m:Nat,1<=m->m<(h_2 l).toNat->gt (gt (goV l s.at_ s.vals beg) (stS a b s.pl s.fB s.fD beg r:Int)) (m:Int)=-1\/(gt (gt (goV l s.at_ s.vals beg) (stS a b s.pl s.fB s.fD beg r:Int)) 0<=gt (gt (goV l s.at_ s.vals beg) (stS a b s.pl s.fB s.fD beg r:Int)) (m:Int)/\gt (gt (goV l s.at_ s.vals beg) (stS a b s.pl s.fB s.fD beg r:Int)) (m:Int)<(i:Int))):=by
  intro r hr
  rcases b_qg (at_:=s.at_) h.ok hr with ⟨h1,h2⟩ | ⟨h1,_,h2⟩
  ·rw [h2]
   have hm:=gtm (l:=s.vals) (i:=stS a b s.pl s.fB s.fD beg r) (by omega)
   obtain ⟨j,j1,j2,j3⟩:=hv.first _ hm
   exact ⟨⟨j,by omega,j2,j3⟩,hv.rest _ hm⟩
  ·rw [h2,b_ce]
   exact ⟨⟨i,by omega,hat,hmay h1⟩,fun m m1 m2=>.inl (b_se l _ m m1 m2)⟩
 have val0:∀ r,gt (stV l a b s.at_ s.pl s.vals s.fB s.fD beg r) 0=gt (gt (goV l s.at_ s.vals beg) (stS a b s.pl s.fB s.fD beg r:Int)) 0:=fun r=>by unfold stV;rw [a_rv]
 refine ⟨fun v hvm=>?_,fun v hvm m m1 m2=>?_,fun k m hk hm hne=>?_⟩
 ·obtain ⟨r,hr,rfl⟩:=mem_map.1 hvm
  rw [val0];exact (src r hr).1
 ·obtain ⟨r,hr,rfl⟩:=mem_map.1 hvm
  obtain ⟨⟨j,j1,j2,_⟩,s2⟩:=src r hr
  rw [val0]
  unfold stV
  rcases b_ei s.at_ (-1) m (OfF l (stH a b s.pl s.fB s.fD beg r).Steps) (gt (goV l s.at_ s.vals beg) (stS a b s.pl s.fB s.fD beg r:Int)) with h1 | h1 | h1
  ·rw [h1]
   rcases s2 m m1 m2 with h2 | ⟨h2,h3⟩
   ·exact .inl h2
   ·exact .inr ⟨h2,by omega⟩
  ·rw [h1,j2];exact .inr ⟨by omega,by omega⟩
  ·exact .inl h1
 ·have hlen:(s.step l n a b b_ beg).vals.length=(stP l n a b s.pl b_ beg).length:=by simp [Cs.step]
  rw [hlen] at hk hm
  have hkr:=List.getElem_mem hk
  have hmr:=List.getElem_mem hm
  have gv:∀ q (hq:q<(stP l n a b s.pl b_ beg).length),gt (s.step l n a b b_ beg).vals (q:Int)=stV l a b s.at_ s.pl s.vals s.fB s.fD beg (stP l n a b s.pl b_ beg)[q]:=fun q hq=>d_4 (by simp [Cs.step,hq])
  rw [gv k hk,gv m hm,val0,val0] at hne ⊢
  generalize hrk:(stP l n a b s.pl b_ beg)[k]=rk at *
  generalize hrm:(stP l n a b s.pl b_ beg)[m]=rm at *
  have g:=b_fy K h.ok b_ beg
  have hopK:a_en n (gt ((stP l n a b s.pl b_ beg).map (stH a b s.pl s.fB s.fD beg)) (k:Int)):=a_ln g.hop (by simpa using hk)
  have hopM:a_en n (gt ((stP l n a b s.pl b_ beg).map (stH a b s.pl s.fB s.fD beg)) (m:Int)):=a_ln g.hop (by simpa using hm)
  have fk:((stP l n a b s.pl b_ beg).map (stS a b s.pl s.fB s.fD beg)).getD k 0=stS a b s.pl s.fB s.fD beg rk:=by simp [List.getD,hk,hrk]
  have fm:((stP l n a b s.pl b_ beg).map (stS a b s.pl s.fB s.fD beg)).getD m 0=stS a b s.pl s.fB s.fD beg rm:=by simp [List.getD,hm,hrm]
  have hsne:stS a b s.pl s.fB s.fD beg rk≠stS a b s.pl s.fB s.fD beg rm:=fun e=>hne (by rw [e])
  have hkm:k≠m:=fun e=>by subst e;rw [hrk] at hrm;exact hsne (by rw [hrm])
  have key:goB s.pl beg s.fB (stS a b s.pl s.fB s.fD beg rk) (stS a b s.pl s.fB s.fD beg rm)=0/\goB s.pl beg s.fB (stS a b s.pl s.fB s.fD beg rm) (stS a b s.pl s.fB s.fD beg rk)=0/\
    (0<goD s.pl beg s.fD (stS a b s.pl s.fB s.fD beg rk) (stS a b s.pl s.fB s.fD beg rm)↔gt (gt (goV l s.at_ s.vals beg) (stS a b s.pl s.fB s.fD beg rk:Int)) 0<gt (gt (goV l s.at_ s.vals beg) (stS a b s.pl s.fB s.fD beg rm:Int)) 0):=by
   rcases b_qg (at_:=s.at_) h.ok hkr with ⟨h1,h2⟩ | ⟨h1,h1',h2⟩<;>rcases b_qg (at_:=s.at_) h.ok hmr with ⟨h3,h4⟩ | ⟨h3,h3',h4⟩
   ·rw [h2,h4] at hne ⊢
    obtain ⟨p1,p2⟩:=hv.ahead _ _ (by omega) (by omega) hne
    obtain ⟨p3,_⟩:=hv.ahead _ _ (by omega) (by omega) (fun e=>hne e.symm)
    unfold goB goD a_pi a_mr
    cases beg with
    |false=>exact ⟨p1,p3,p2⟩
    |true=>simp only [if_true];rw [if_pos ⟨h1,h3⟩,if_pos ⟨h3,h1⟩,if_pos ⟨h1,h3⟩];exact ⟨p1,p3,p2⟩
   ·rw [h2,h4,b_ce] at hne ⊢
    obtain ⟨j,j1,j2,_⟩:=hv.first _ (gtm (l:=s.vals) (i:=stS a b s.pl s.fB s.fD beg rk) (by omega))
    subst h3
    unfold goB goD a_pi a_mr
    simp only [if_true]
    rw [if_neg (by omega),if_neg (by omega),if_neg (by omega),if_pos ⟨h1,h3'⟩,j2,hat]
    exact ⟨rfl,rfl,by omega⟩
   ·rw [h2,h4,b_ce] at hne ⊢
    obtain ⟨j,j1,j2,_⟩:=hv.first _ (gtm (l:=s.vals) (i:=stS a b s.pl s.fB s.fD beg rm) (by omega))
    subst h1
    unfold goB goD a_pi a_mr
    simp only [if_true]
    rw [if_neg (by omega),if_neg (by omega),if_neg (by omega),if_neg (by omega),if_pos ⟨h1',h3⟩,j2,hat]
    exact ⟨rfl,rfl,by omega⟩
   ·exact absurd (by omega) hsne
  obtain ⟨k1,k2,k3⟩:=key
  show i_6 l _ _ _ k m=0/\(0<j_4 l _ _ _ _ k m↔_)
  unfold i_6 j_4
  rw [if_neg hkm,if_neg hkm,fk,fm,if_neg hsne,if_neg hsne,k1,b_ge hopK.t0 hopK.t1]
  refine ⟨rfl,?_⟩
  unfold agF
  rw [k1,k2,b_ge hopK.t0 hopK.t1,b_ge hopM.t0 hopM.t1,if_neg (by omega),if_neg (by omega)]
  exact k3
end
