/- Kernels with registers go as hunts go. Its conditions: none. -/
import Derived.Test.YtdficaoajalfaaaGreatUG48
import Derived.Test.YtdficaoajalfaaaGreatUG46
set_option linter.all false
namespace Go.Proofs.YtdficaoajalfaaaGreat
open Go.V Go.RowKit Old Go.X
theorem G0N {maps:List (List Int)} {r:Nat} (h:r<maps.length):gt (A5 maps) (r:Int)=(gt maps (r:Int)).map (j4 (G4 maps)):=I3 (by unfold A5;rw [List.getElem?_map,E4 h];rfl)
theorem H0Q {maps:List (List Int)} {r m:Nat} (hr:r<maps.length) (hm:m<(gt maps (r:Int)).length) (hne:gt (gt maps (r:Int)) (m:Int)≠-2):gt (gt maps (r:Int)) (m:Int)∈G4 maps:=by
 unfold G4;exact w0D hne _ _ (.inl (List.mem_flatten.2 ⟨_,L9 hr,L9 hm⟩))
theorem n0s {maps V:List (List Int)} {regs:List Int} {now:Int} (h:∀ r,r<maps.length->R7 (a0t regs now) (gt maps (r:Int)) (gt V (r:Int))):∀ r,r<maps.length->R7 (e0X (W8 regs (G4 maps) now)) (gt (A5 maps) (r:Int)) (gt V (r:Int)):=by
 intro r hr;obtain ⟨h1,h2⟩:=h r hr;rw [G0N hr];refine ⟨by simp [h1],fun m hm=>?_⟩;rw [List.length_map] at hm;have hg:gt ((gt maps (r:Int)).map (j4 (G4 maps))) (m:Int)=j4 (G4 maps) (gt (gt maps (r:Int)) (m:Int)):=I3 (by rw [List.getElem?_map,E4 hm];rfl);rw [hg];exact B05 (h2 m hm) (fun hne=>H0Q hr hm hne)
theorem u0A {maps V:List (List Int)} {regs:List Int} {now:Int} (h:∀ r,r<maps.length->R7 (a0t regs now) (gt maps (r:Int)) (gt V (r:Int))):∀ v∈G4 maps,v=-1\/(0<=v/\v<(regs.length:Int)):=by
 intro v hv;rcases t0j _ _ hv with hv | ⟨hv,hne⟩
 ·cases hv
 ·obtain ⟨row,hrow,hvr⟩:=List.mem_flatten.1 hv;obtain ⟨r,hr⟩:=List.getElem?_of_mem hrow;obtain ⟨m,hm⟩:=List.getElem?_of_mem hvr;have hrl:=(List.getElem?_eq_some_iff.1 hr).1;have e1:gt maps (r:Int)=row:=I3 hr;have hml:=(List.getElem?_eq_some_iff.1 hm).1;have e2:gt row (m:Int)=v:=I3 hm;have:=(h r hrl).2 m (by rw [e1];exact hml);rw [e1,e2] at this;rcases this with ⟨h1,_⟩ | ⟨h1,_⟩ | ⟨h1,h2,_⟩
  ·exact absurd h1 hne
  ·exact .inl h1
  ·exact .inr ⟨h1,h2⟩
structure S5 (l:List D0) (n:Nat) (e:Nat->B0×Bool) (z:B0×Bool) (h:Hs) (k:Kd) (regs:List Int) (i:Nat):Prop where
 hs:l0H l n h i
 inv:Inv l (fun _=>true) i h.c.vals h.c.fB h.c.fD
 sm:e0C h.c.vals h.c.fB
 tol:h.to<=(i:Int)
 pl:k.pl=h.c.pl
 fB:k.fB=h.c.fB
 fD:k.fD=h.c.fD
 C:U3 l n k.pl k.maps k.fB k.fD
 rel:∀ r,r<k.maps.length->R7 (e0X regs) (gt k.maps (r:Int)) (gt h.c.vals (r:Int))
 fl:k.flag=if h.is then (if i=0 then 2 else 0) else 1
 acc:if h.is=true/\h.to=(i:Int) then R7 (a0t regs (i:Int)) (a0v l e z k) h.tags/\(a0v l e z k).length=(T3 l).toNat else a0v l e z k=[]
section
variable {F:Nat} {l:List D0} {n:Nat} {a:List B0} {b:Nat->List B0} {e:Nat->B0×Bool} {z:B0×Bool}
theorem G0O (l:List D0) (n:Nat) (e:Nat->B0×Bool) (z:B0×Bool):S5 l n e z (Hs.zero l z) ⟨if z.2 then 2 else 1,[],[],fun _ _=>0,fun _ _=>0⟩ [] 0 where
 hs:=y0Z
 inv:=⟨(fun v h=>by cases h),(fun v h=>by cases h),(fun k m h=>by simp [Hs.zero,Cs.zero] at h)⟩
 sm:=fun k m h=>by simp [Hs.zero,Cs.zero] at h
 tol:=Int.le_refl _
 pl:=rfl
 fB:=rfl
 fD:=rfl
 C:=w0g l n
 rel:=fun r h=>by simp at h
 fl:=by
  show (if z.2=true then (2:Int) else 1)=if (W9 l z 0).2=true then _ else _;unfold W9;cases z.2<;>rfl
 acc:=by
  have hacc:a0v l e z ⟨if z.2 then 2 else 1,[],[],fun _ _=>0,fun _ _=>0⟩=if z.2&&((if z.2 then (2:Int) else 1)==2&&true) then a6 (-1) (-2) (N9 l) (j5 l z.1.Steps) else []:=rfl;rw [hacc];unfold Hs.zero W9;cases hz:z.2 with
  |false=>rw [if_neg (by rintro ⟨h,_⟩;simp at h)];rfl
  |
   true=>
   rw [if_pos ⟨rfl,rfl⟩];have e1:(if (true&&((if true then (2:Int) else 1)==2&&true))=true then a6 (-1) (-2) (N9 l) (j5 l z.1.Steps) else [])=a6 (-1) (-2) (N9 l) (j5 l z.1.Steps):=rfl;rw [e1];refine ⟨?_,by rw [c0B,p0i]⟩;exact l0P (P:=a0t [] ((0:Nat):Int)) (.inr (.inl ⟨rfl,rfl⟩)) (.inl ⟨rfl,rfl⟩) _ (s0H l [] _)
theorem S5.f0 {h:Hs} {k:Kd} {regs:List Int} {i:Nat} (S:S5 l n e z h k regs i):0<=k.flag/\k.flag<=2:=by
 rw [S.fl];split
 ·split<;>omega
 ·omega
theorem S5.C0 {h:Hs} {k:Kd} {regs:List Int} {i:Nat} (S:S5 l n e z h k regs i):(!(k.flag==0))=(h.c.at_==0||!h.is):=by
 rw [S.fl,S.hs.c.a0];cases h.is with
 |false=>simp
 |
  true=>
  simp only [if_true,Bool.not_true,Bool.or_false]
  by_cases c:i=0
  ·subst c;rfl
  ·rw [if_neg c];have:(((i:Nat):Int)==0)=false:=by rw [beq_eq_false_iff_ne];omega
   rw [this];rfl
theorem I0K {maps V:List (List Int)} {regs:List Int} {pl:List Nat} {at_:Int} {C0:Bool} (hm:maps.length=pl.length) (hv:V.length=pl.length) (h:∀ r,r<maps.length->R7 (e0X regs) (gt maps (r:Int)) (gt V (r:Int))) {s:Nat} (hs:s<o4 pl C0) :
  R7 (a0t regs at_) (gt (a0N l maps C0) (s:Int)) (gt (b6 l at_ V C0) (s:Int)):=by
 unfold a0N b6;unfold o4 at hs
 by_cases c:s<pl.length
 ·rw [a0R (by omega) (by omega),a0R (by omega) (by omega)];exact (h s (by omega)).mono (fun e v hh=>hh.n at_)
 ·cases C0 with
  |false=>simp at hs;omega
  |
   true=>
   simp only [if_true] at hs ⊢;have e:s=pl.length:=by omega
   subst e;rw [c0I hm.symm,c0I hv.symm];exact s0H l regs at_
theorem z0A (K:Q4 l n a b e z F) (hw:∀ x∈l,C3 x) {h:Hs} {k:Kd} {regs:List Int} {i:Nat} (S:S5 l n e z h k regs i) (hi:i<=100000) {b_:Int} (hb:C7 .u8 b_) :
  S5 l n e z (h.feed l n a b e b_) ((k.step l n a b b_).M7 e 0).num (W8 regs (G4 ((k.step l n a b b_).M7 e 0).maps) (i:Int)) (i+1)/\∀ v∈G4 ((k.step l n a b b_).M7 e 0).maps,v=-1\/(0<=v/\v<(regs.length:Int)):=by
 obtain ⟨_,ho'⟩:=r0x (e:=e) K hw S.hs hi hb;have hbeg:=S.C0;have hat:=S.hs.c.a0;have C1:=n0v K hw S.C b_;have C2:=m0I (e:=e) 0 C1;have I1:Inv l (fun _=>true) (i+1) (h.M0 l n a b b_).vals (h.M0 l n a b b_).fB (h.M0 l n a b b_).fD:=w0N K S.hs.c S.inv b_ (h.c.at_==0||!h.is) (fun _=>rfl);have M1:e0C (h.M0 l n a b b_).vals (h.M0 l n a b b_).fB:=y0x K hw S.hs.c S.inv S.sm b_ (h.c.at_==0||!h.is);have ok1:a0G l n (h.M0 l n a b b_) (i+1):=(r0J (e:=e) K hw S.hs.c hi hb (h.c.at_==0||!h.is)).2;have hvl:=S.hs.c.ok.len;have hml:=S.C.len;have hpl1:(k.step l n a b b_).pl=(h.M0 l n a b b_).pl:=by
  show R1 l n a b k.pl b_ (!(k.flag==0))=R1 l n a b h.c.pl b_ (h.c.at_==0||!h.is);rw [hbeg,S.pl]
 have hfB1:(k.step l n a b b_).fB=(h.M0 l n a b b_).fB:=by
  unfold Kd.step Hs.M0 Cs.step;simp only [hbeg,S.pl,S.fB,S.fD]
 have hfD1:(k.step l n a b b_).fD=(h.M0 l n a b b_).fD:=by
  unfold Kd.step Hs.M0 Cs.step;simp only [hbeg,S.pl,S.fB,S.fD]
 have hm1:(k.step l n a b b_).maps.length=(k.step l n a b b_).pl.length:=C1.len;have rel1:∀ r,r<(k.step l n a b b_).maps.length->R7 (a0t regs (i:Int)) (gt (k.step l n a b b_).maps (r:Int)) (gt (h.M0 l n a b b_).vals (r:Int)):=by
  intro r hr;rw [hm1] at hr;have hr':r<(R1 l n a b k.pl b_ (!(k.flag==0))).length:=hr;have e1:gt (k.step l n a b b_).maps (r:Int)=stM l a b k.pl k.maps k.fB k.fD (!(k.flag==0)) (R1 l n a b k.pl b_ (!(k.flag==0)))[r]:=I3 (by simp [Kd.step,hr']);have hr2:r<(R1 l n a b h.c.pl b_ (h.c.at_==0||!h.is)).length:=by rw [<-S.pl,<-hbeg];exact hr'
  have e2:gt (h.M0 l n a b b_).vals (r:Int)=D7 l a b h.c.at_ h.c.pl h.c.vals h.c.fB h.c.fD (h.c.at_==0||!h.is) (R1 l n a b h.c.pl b_ (h.c.at_==0||!h.is))[r]:=I3 (by simp [Hs.M0,Cs.step,hr2]);have hmem:=List.getElem_mem hr2;rw [e1,e2];unfold stM D7;simp only [hbeg,S.pl,S.fB,S.fD];rw [<-hat];refine l0P (P:=a0t regs h.c.at_) (.inr (.inl ⟨rfl,rfl⟩)) (.inl ⟨rfl,rfl⟩) _ ?_;exact I0K (pl:=h.c.pl) (by rw [<-S.pl];exact hml) hvl S.rel (by rw [<-a0B a b];exact c0m (b0P hmem).2)
 have hflag1:(k.step l n a b b_).flag=if k.flag==1 then 1 else 0:=rfl;have hat1:(h.M0 l n a b b_).at_=((i+1:Nat):Int):=ok1.a0;have hne0:((((i+1:Nat):Int))==0)=false:=by rw [beq_eq_false_iff_ne];omega
 rcases d0g (fD:=(h.M0 l n a b b_).fD) (l5 e (h.M0 l n a b b_).pl (h.M0 l n a b b_).pl.length) (n:=(h.M0 l n a b b_).pl.length) (fun i h=>c0P h) with hB | ⟨q,hB,hq⟩
 ·-- nothing is found
  have hbest:((h.M0 l n a b b_).U2 l e).2=false:=by unfold Cs.U2 c0r;rw [hB];rfl
  have hF:h.feed l n a b e b_=⟨h.M0 l n a b b_,h.tags,h.to,h.is⟩:=by unfold Hs.feed;rw [hbest];rfl
  have hcut:(k.step l n a b b_).M7 e 0=k.step l n a b b_:=by
   show (if (0:Int)==0 then _ else _)=_;unfold Kd.cut;rw [hpl1,hfD1,hB];rfl
  rw [hcut] at C2 ⊢;rw [hF] at ho' ⊢;refine ⟨⟨ho',I1,M1,by show h.to<=_;have:=S.tol;omega,hpl1,hfB1,hfD1,k04 C1,fun r hr=>n0s rel1 r (by simpa [Kd.num,A5] using hr),?_,?_⟩,u0A rel1⟩
  ·show (k.step l n a b b_).flag=if h.is then (if i+1=0 then 2 else 0) else 1;rw [hflag1,S.fl,if_neg (show ¬ i+1=0 by omega)];cases h.is with
   |false=>rfl
   |
    true=>
    simp only [if_true]
    by_cases c:i=0
    ·rw [if_pos c];rfl
    ·rw [if_neg c];rfl
  ·have hnew:¬ (h.is=true/\h.to=((i+1:Nat):Int)):=fun hh=>by have:=S.tol;omega
   show if h.is=true/\h.to=((i+1:Nat):Int) then _ else _;rw [if_neg hnew];show a0v l e z (k.step l n a b b_).num=[];unfold a0v Kd.num;simp only [hpl1,hfD1,hB];rw [if_pos (by omega)];have:((k.step l n a b b_).flag==2)=false:=by rw [hflag1];split<;>rfl
   rw [this];simp
 ·-- the run q is found
  have hq0:¬ (q:Int)<0:=by omega
  have hbest:(h.M0 l n a b b_).U2 l e=(a6 (h.M0 l n a b b_).at_ (-1) (gt (h.M0 l n a b b_).vals (q:Int)) (j5 l (e ((h.M0 l n a b b_).pl.getD q 0)).1.Steps),true):=by
   unfold Cs.U2 c0r;rw [hB,if_neg hq0,Int.toNat_natCast]
  have hF:h.feed l n a b e b_=⟨(h.M0 l n a b b_).N1 (Q2 (h.M0 l n a b b_).vals q),a6 (h.M0 l n a b b_).at_ (-1) (gt (h.M0 l n a b b_).vals (q:Int)) (j5 l (e ((h.M0 l n a b b_).pl.getD q 0)).1.Steps),(h.M0 l n a b b_).at_,true⟩:=by
   unfold Hs.feed;rw [hbest];simp only [if_true,d0K]
  have hcut:(k.step l n a b b_).M7 e 0=(k.step l n a b b_).of 0 (K2 (h.M0 l n a b b_).vals (Q2 (h.M0 l n a b b_).vals q) (h.M0 l n a b b_).pl.length):=by
   show (k.step l n a b b_).cut e=_;unfold Kd.cut;rw [hpl1,hfD1,hB,if_neg hq0,hfB1,Int.toNat_natCast,E0k ok1 I1 M1 hq]
  rw [hcut] at C2 ⊢;rw [hF] at ho' ⊢;obtain ⟨I2,M2⟩:=G0y ok1 I1 M1 (Q2 (h.M0 l n a b b_).vals q);have hvl1:=ok1.ok.len;have hst:∀ j∈K2 (h.M0 l n a b b_).vals (Q2 (h.M0 l n a b b_).vals q) (h.M0 l n a b b_).pl.length,j<(h.M0 l n a b b_).pl.length:=fun j hj=>l0o hj;have hstD:(K2 (h.M0 l n a b b_).vals (Q2 (h.M0 l n a b b_).vals q) (h.M0 l n a b b_).pl.length).filter (fun i=>(e ((h.M0 l n a b b_).pl.getD i 0)).2)=(l5 e (h.M0 l n a b b_).pl (h.M0 l n a b b_).pl.length).filter fun x=>decide (Q2 (h.M0 l n a b b_).vals x<=Q2 (h.M0 l n a b b_).vals q):=by
   unfold K2 l5;rw [List.filter_filter,List.filter_filter];refine List.filter_congr fun x _=>?_;rw [Bool.and_comm]
  have hbf:=A0P (vals:=(h.M0 l n a b b_).vals) (fD:=(h.M0 l n a b b_).fD) (fun x y hx hy hne=>(I1.ahead x y hx hy hne).2) (C:=l5 e (h.M0 l n a b b_).pl (h.M0 l n a b b_).pl.length) (fun x hx=>by rw [hvl1];exact c0P hx) hB;rw [<-hstD] at hbf;have hkv:((h.M0 l n a b b_).N1 (Q2 (h.M0 l n a b b_).vals q)).vals=(K2 (h.M0 l n a b b_).vals (Q2 (h.M0 l n a b b_).vals q) (h.M0 l n a b b_).pl.length).map fun i:Nat=>gt (h.M0 l n a b b_).vals (i:Int):=rfl;have hcs:=A0D e (h.M0 l n a b b_).pl _ hst;have hkpl:((k.step l n a b b_).of 0 (K2 (h.M0 l n a b b_).vals (Q2 (h.M0 l n a b b_).vals q) (h.M0 l n a b b_).pl.length)).pl=(K2 (h.M0 l n a b b_).vals (Q2 (h.M0 l n a b b_).vals q) (h.M0 l n a b b_).pl.length).map fun i=>(h.M0 l n a b b_).pl.getD i 0:=by unfold Kd.of;rw [hpl1]
  have hkfB:((k.step l n a b b_).of 0 (K2 (h.M0 l n a b b_).vals (Q2 (h.M0 l n a b b_).vals q) (h.M0 l n a b b_).pl.length)).fB=fun i j=>(h.M0 l n a b b_).fB ((K2 (h.M0 l n a b b_).vals (Q2 (h.M0 l n a b b_).vals q) (h.M0 l n a b b_).pl.length).getD i 0) ((K2 (h.M0 l n a b b_).vals (Q2 (h.M0 l n a b b_).vals q) (h.M0 l n a b b_).pl.length).getD j 0):=by unfold Kd.of;rw [hfB1]
  have hkfD:((k.step l n a b b_).of 0 (K2 (h.M0 l n a b b_).vals (Q2 (h.M0 l n a b b_).vals q) (h.M0 l n a b b_).pl.length)).fD=fun i j=>(h.M0 l n a b b_).fD ((K2 (h.M0 l n a b b_).vals (Q2 (h.M0 l n a b b_).vals q) (h.M0 l n a b b_).pl.length).getD i 0) ((K2 (h.M0 l n a b b_).vals (Q2 (h.M0 l n a b b_).vals q) (h.M0 l n a b b_).pl.length).getD j 0):=by unfold Kd.of;rw [hfD1]
  have hkm:((k.step l n a b b_).of 0 (K2 (h.M0 l n a b b_).vals (Q2 (h.M0 l n a b b_).vals q) (h.M0 l n a b b_).pl.length)).maps=(K2 (h.M0 l n a b b_).vals (Q2 (h.M0 l n a b b_).vals q) (h.M0 l n a b b_).pl.length).map fun i:Nat=>gt (k.step l n a b b_).maps (i:Int):=rfl;have hkf:((k.step l n a b b_).of 0 (K2 (h.M0 l n a b b_).vals (Q2 (h.M0 l n a b b_).vals q) (h.M0 l n a b b_).pl.length)).flag=0:=rfl;have hpk:((h.M0 l n a b b_).N1 (Q2 (h.M0 l n a b b_).vals q)).pl=(K2 (h.M0 l n a b b_).vals (Q2 (h.M0 l n a b b_).vals q) (h.M0 l n a b b_).pl.length).map fun i=>(h.M0 l n a b b_).pl.getD i 0:=rfl;generalize hk2:(k.step l n a b b_).of 0 (K2 (h.M0 l n a b b_).vals (Q2 (h.M0 l n a b b_).vals q) (h.M0 l n a b b_).pl.length)=k2 at *;generalize hst2:K2 (h.M0 l n a b b_).vals (Q2 (h.M0 l n a b b_).vals q) (h.M0 l n a b b_).pl.length=st at *;have rel2:∀ r,r<k2.maps.length->R7 (a0t regs (i:Int)) (gt k2.maps (r:Int)) (gt ((h.M0 l n a b b_).N1 (Q2 (h.M0 l n a b b_).vals q)).vals (r:Int)):=by
   intro r hr;have hr2:r<st.length:=by rw [hkm] at hr;simpa using hr
   obtain ⟨e1,e2⟩:=l0E (vals:=(k.step l n a b b_).maps) (fun j hj=>by rw [hm1,hpl1];exact hst j hj) hr2;obtain ⟨e3,e4⟩:=l0E (vals:=(h.M0 l n a b b_).vals) (fun j hj=>by rw [hvl1];exact hst j hj) hr2;rw [hkm,hkv,e1,e3];exact rel1 _ e2
  refine ⟨⟨ho',I2,M2,by show (h.M0 l n a b b_).at_<=_;omega,?_,?_,?_,k04 C2,fun r hr=>n0s rel2 r (by simpa [Kd.num,A5] using hr),?_,?_⟩,u0A rel2⟩
  ·show k2.pl=_;rw [hkpl,hpk]
  ·show k2.fB=_;rw [hkfB];show _=fun i j=>(h.M0 l n a b b_).fB ((K2 (h.M0 l n a b b_).vals (Q2 (h.M0 l n a b b_).vals q) (h.M0 l n a b b_).pl.length).getD i 0) ((K2 (h.M0 l n a b b_).vals (Q2 (h.M0 l n a b b_).vals q) (h.M0 l n a b b_).pl.length).getD j 0);rw [hst2]
  ·show k2.fD=_;rw [hkfD];show _=fun i j=>(h.M0 l n a b b_).fD ((K2 (h.M0 l n a b b_).vals (Q2 (h.M0 l n a b b_).vals q) (h.M0 l n a b b_).pl.length).getD i 0) ((K2 (h.M0 l n a b b_).vals (Q2 (h.M0 l n a b b_).vals q) (h.M0 l n a b b_).pl.length).getD j 0);rw [hst2]
  ·show k2.flag=if true then (if i+1=0 then 2 else 0) else 1;rw [hkf];rfl
  ·show if true=true/\(h.M0 l n a b b_).at_=((i+1:Nat):Int) then _ else _;rw [if_pos ⟨rfl,hat1⟩];have hbm:=w0a (h.M0 l n a b b_).fD st (l5 e (st.map fun i=>(h.M0 l n a b b_).pl.getD i 0) (st.map fun i=>(h.M0 l n a b b_).pl.getD i 0).length) (-1) (fun _=>trivial) (-1) (.inl ⟨by omega,by omega⟩);rw [hcs] at hbm;have hbf2:(st.filter fun i=>(e ((h.M0 l n a b b_).pl.getD i 0)).2).foldl (D4 (h.M0 l n a b b_).fD) (-1)=(q:Int):=hbf;rw [hbf2] at hbm;rcases hbm with ⟨_,h2⟩ | ⟨h1,h2⟩
   ·omega
   ·have hrng:=d0g (fD:=fun i j=>(h.M0 l n a b b_).fD (st.getD i 0) (st.getD j 0)) (l5 e (st.map fun i=>(h.M0 l n a b b_).pl.getD i 0) (st.map fun i=>(h.M0 l n a b b_).pl.getD i 0).length) (n:=(st.map fun i=>(h.M0 l n a b b_).pl.getD i 0).length) (fun i h=>c0P h);have hdef:R5 (fun i j=>(h.M0 l n a b b_).fD (st.getD i 0) (st.getD j 0)) (l5 e (st.map fun i=>(h.M0 l n a b b_).pl.getD i 0) (st.map fun i=>(h.M0 l n a b b_).pl.getD i 0).length)=(l5 e (st.map fun i=>(h.M0 l n a b b_).pl.getD i 0) (st.map fun i=>(h.M0 l n a b b_).pl.getD i 0).length).foldl (D4 fun i j=>(h.M0 l n a b b_).fD (st.getD i 0) (st.getD j 0)) (-1):=rfl;rw [<-hdef] at h1 h2;rcases hrng with hr | ⟨j,hr,hj⟩
    ·rw [hr] at h1;omega
    ·rw [hr,Int.toNat_natCast] at h2;have hj:j<st.length:=by simpa using hj
     have hqj:q=st.getD j 0:=by omega
     have hacc:a0v l e z k2.num=a6 (-1) (-2) (gt (A5 k2.maps) (j:Int)) (j5 l (e ((h.M0 l n a b b_).pl.getD q 0)).1.Steps):=by
      unfold a0v Kd.num;simp only [hkpl,hkfD];rw [hr,if_neg (by omega),Int.toNat_natCast];have:(st.map fun i=>(h.M0 l n a b b_).pl.getD i 0).getD j 0=(h.M0 l n a b b_).pl.getD q 0:=by
       rw [hqj];simp [List.getD,hj]
      rw [this]
     have hjm:j<k2.maps.length:=by rw [hkm];simpa using hj
     have hrel:=n0s rel2 j hjm;obtain ⟨e3,_⟩:=l0E (vals:=(h.M0 l n a b b_).vals) (fun j hj=>by rw [hvl1];exact hst j hj) hj;rw [hkv,e3,<-hqj] at hrel;rw [hacc];refine ⟨?_,?_⟩
     ·rw [hat1];exact l0P (P:=a0t (W8 regs (G4 k2.maps) (i:Int)) ((i+1:Nat):Int)) (.inr (.inl ⟨rfl,rfl⟩)) (.inl ⟨rfl,rfl⟩) _ (hrel.mono (fun e v hh=>hh.n _))
     ·rw [c0B];have:=(k04 C2).row (gt (A5 k2.maps) (j:Int)) (L9 (by show j<(A5 k2.maps).length;simpa [A5] using hjm));exact this
end
