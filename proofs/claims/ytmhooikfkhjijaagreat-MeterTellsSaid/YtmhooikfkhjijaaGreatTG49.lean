/- Runs of programs: the program and the document alike. What it costs: the program and the document alike. What can be reckoned, in place of models that cannot. What is sure. Its conditions: none. -/
import Derived.Test.YtmhooikfkhjijaaGreatTG38
import Derived.Test.YtmhooikfkhjijaaGreatTG48
import Derived.Test.YtmhooikfkhjijaaGreatTMd
open Bool (and_eq_true false_eq_true)
open List (all_eq_true take_zero map_nil map_id)
open Int (natCast_zero)
set_option linter.all false
namespace Go.Proofs.YtmhooikfkhjijaaGreat.Pr
open Go.V Go.RowKit Go.X
variable {F:Nat}
def a0n (at_:Int) (regs:List Int) (n:Int):Int:=if n=-1 then at_ else if n=-2 then -1 else gt regs n
def A0G (at_:Int) (regs:List Int) (l:List C0s):List Int:=l.foldl (fun y m=>y.set m.To.toNat (a0n at_ y m.From)) regs
theorem D0F (at_:Int):∀ (l:List C0s) (regs:List Int),(A0G at_ regs l).length=regs.length
 |[],_=>rfl
 |
  m :: r,regs=>by
  show (A0G at_ (regs.set m.To.toNat (a0n at_ regs m.From)) r).length=_;rw [D0F at_ r];simp
theorem N0K (at_:Int) (l:List C0s) (regs:List Int) {i:Nat} (h:i<l.length) :
  A0G at_ regs (l.take (i+1))=(A0G at_ regs (l.take i)).set (gt l (i:Int)).To.toNat (a0n at_ (A0G at_ regs (l.take i)) (gt l (i:Int)).From):=by
 have:l[i]?=some (gt l (i:Int)):=by rw [Y5 (x:=l[i]) (by simp [h])];simp [h]
 unfold A0G;rw [List.take_succ,this,List.foldl_append];rfl
structure RS where
 tags:List Int
 to:Int
 at_:Int
 stand:Int
 work:Int
 regs:List Int
def e08 (k:Int) (l:List Int):Prop:=∀ n∈l,n=-1\/n=-2\/0<=n/\n<k
structure Rd (p:b0D):Prop where
 sm:Sm p
 r0:1<=p.Regs
 pos:0<p.Stands.length
 cl:p.Class.length=256
 ac:∀ s∈p.Stands,e08 p.Regs s.Accept
 wy:∀ s∈p.Stands,∀ c∈p.Class,0<=c/\c<(s.c0s.length:Int)
 to:∀ s∈p.Stands,∀ x∈s.c0s,-1<=x.To/\x.To<(p.Stands.length:Int)
 ln:∀ s∈p.Stands,∀ x∈s.c0s,(x.Moves.length:Int)<=2*p.Regs
 mv:∀ s∈p.Stands,∀ x∈s.c0s,∀ m∈x.Moves,0<=m.To/\m.To<p.Regs/\-1<=m.From/\m.From<p.Regs
theorem o8 {p:b0D} (hs:Sm p) (h:C0Z p=true):Rd p:=by
 unfold C0Z D0L at h;simp only [and_eq_true,decide_eq_true_eq,Bool.not_eq_true',all_eq_true] at h;obtain ⟨⟨⟨⟨⟨⟨⟨⟨h1,h2⟩,h3⟩,h4⟩,h5⟩,h6⟩,h7⟩,h8⟩,h9⟩:=h;obtain ⟨m,hm,hl,hm2,h256⟩:=x0R h8;obtain ⟨_,_,hcb⟩:=h0Z hm;have hst:∀ s∈p.Stands,(∀ n∈s.Accept,D0i p.Regs n=true)/\s.c0s.length=m/\∀ x∈s.c0s,D0h p x=true:=by
  intro s hs;have:=h9 s hs;unfold V9 a0E at this;simp only [and_eq_true,all_eq_true,beq_iff_eq] at this;exact ⟨this.1.1.2,by have:=this.1.2;omega,this.2⟩
 have hway:∀ s∈p.Stands,∀ x∈s.c0s,(-1<=x.To/\x.To<(p.Stands.length:Int))/\(x.Moves.length:Int)<=2*p.Regs/\∀ m∈x.Moves,0<=m.To/\m.To<p.Regs/\-1<=m.From/\m.From<p.Regs:=by
  intro s hs x hx;have:=(hst s hs).2.2 x hx;unfold D0h F0Q at this;simp only [and_eq_true,decide_eq_true_eq,all_eq_true] at this;refine ⟨⟨this.1.1.1.1,this.1.1.1.2⟩,this.1.2,fun m hm=>?_⟩;have:=this.2 m hm;unfold D04 at this;simp only [and_eq_true,decide_eq_true_eq] at this;exact ⟨this.1.1.1.1,this.1.1.1.2,this.1.1.2,this.1.2⟩
 refine ⟨hs,h4,?_,h256,fun s hs n hn=>?_,fun s hs c hc=>?_,fun s hs x hx=>(hway s hs x hx).1,fun s hs x hx=>(hway s hs x hx).2.1,fun s hs x hx=>(hway s hs x hx).2.2⟩
 ·simp at h6;exact List.length_pos_iff.2 h6
 ·have:=(hst s hs).1 n hn;unfold D0i at this;simp only [and_eq_true,decide_eq_true_eq] at this;omega
 ·rw [(hst s hs).2.1];exact hcb c hc
def E0B (p:b0D) (s:RS):RS:=if 0<=s.stand/\(gt p.Stands s.stand).Accept≠[] then { s with tags:=(gt p.Stands s.stand).Accept.map (a0n s.at_ s.regs),to:=s.at_ } else s
def B0C (p:b0D) (s:RS) (b:Int):C0x:=gt (gt p.Stands s.stand).c0s (gt p.Class b)
def goS (p:b0D) (s:RS) (b:Int):RS:=
 if 0<=s.stand then { s with at_:=s.at_+1,stand:=(B0C p s b).To,work:=s.work+1+((B0C p s b).Moves.length:Int),regs:=A0G s.at_ s.regs (B0C p s b).Moves } else { s with at_:=s.at_+1,work:=s.work+1 }
def E0M (p:b0D) (s:RS) (b:Int):RS:=E0B p (goS p s b)
def F0f (p:b0D):RS:=E0B p ⟨[],0,0,0,0,List.replicate p.Regs.toNat 0⟩
def toA (p:b0D) (s:RS):C0v×b0D×Int×Int×Int×List Int:=(⟨s.tags,s.to⟩,p,s.at_,s.stand,s.work,s.regs)
def toR (p:b0D) (s:RS):C0I:=⟨p,s.at_,s.stand,s.regs,s.tags,s.to,!s.tags.isEmpty,s.work⟩
structure RI (p:b0D) (s:RS) (i:Nat):Prop where
 a0:s.at_=(i:Int)
 st:-1<=s.stand/\s.stand<(p.Stands.length:Int)
 rl:(s.regs.length:Int)=p.Regs
 w0:0<=s.work
 wk:s.work<=(i:Int)*(1+2*p.Regs)
 tl:s.tags.length<=40
theorem N0g {p:b0D} (h:Rd p) {s:RS} {i:Nat} (hc:RI p s i):RI p (E0B p s) i:=by
 unfold E0B;split
 ·rename_i hh;refine ⟨hc.a0,hc.st,hc.rl,hc.w0,hc.wk,?_⟩;show (List.map _ _).length<=40;rw [List.length_map];exact h.sm.ac _ (c0l hh.1 hc.st.2)
 ·exact hc
theorem M0j {p:b0D} (h:Rd p) {s:RS} {i:Nat} (hc:RI p s i) {b:Int} (hb:0<=b/\b<256) (h1:0<=s.stand) :
  y0 p.Class b=true/\y0 (gt p.Stands s.stand).c0s (gt p.Class b)=true/\gt p.Stands s.stand∈p.Stands/\B0C p s b∈(gt p.Stands s.stand).c0s:=by
 have hm:=c0l h1 hc.st.2;have hbl:b<(p.Class.length:Int):=by rw [h.cl];omega
 obtain ⟨e1,e2⟩:=h.wy _ hm _ (c0l hb.1 hbl);exact ⟨B4 hb.1 hbl,B4 e1 e2,hm,c0l e1 e2⟩
theorem mul_succ (i:Nat) (K:Int):((i+1:Nat):Int)*K=(i:Int)*K+K:=by
 rw [show ((i+1:Nat):Int)=(i:Int)+1 from rfl,Int.add_mul,Int.one_mul]
theorem M0e {p:b0D} (h:Rd p) {s:RS} {i:Nat} (hc:RI p s i) {b:Int} (hb:0<=b/\b<256):RI p (goS p s b) (i+1):=by
 have hw:=hc.wk;have hw0:=hc.w0;have ha:=hc.a0;have hr:=h.r0;have hms:=mul_succ i (1+2*p.Regs);unfold goS
 by_cases h1:0<=s.stand
 ·obtain ⟨_,_,hm,hx⟩:=M0j h hc hb h1;have hln:=h.ln _ hm _ hx;rw [if_pos h1];refine ⟨by show s.at_+1=_;omega,h.to _ hm _ hx,?_,?_,?_,hc.tl⟩
  ·show ((A0G _ _ _).length:Int)=_;rw [D0F];exact hc.rl
  ·show 0<=s.work+1+((B0C p s b).Moves.length:Int);omega
  ·show s.work+1+((B0C p s b).Moves.length:Int)<=_;omega
 ·rw [if_neg h1];refine ⟨by show s.at_+1=_;omega,hc.st,hc.rl,?_,?_,hc.tl⟩
  ·show 0<=s.work+1;omega
  ·show s.work+1<=_;omega
theorem U0V {p:b0D} (h:Rd p) {s:RS} {i:Nat} (hc:RI p s i) {b:Int} (hb:0<=b/\b<256):RI p (E0M p s b) (i+1):=N0g h (M0e h hc hb)
theorem K0j {p:b0D} (h:Rd p):RI p ⟨[],0,0,0,0,List.replicate p.Regs.toNat 0⟩ 0:=by
 have hp:=h.pos;have hr:=h.r0;refine ⟨rfl,⟨by show (-1:Int)<=0;omega,by show (0:Int)<_;omega⟩,?_,Int.le_refl _,by simp,by simp⟩;show ((List.replicate _ _).length:Int)=_;rw [List.length_replicate];omega
theorem T02 {p:b0D} (h:Rd p):RI p (F0f p) 0:=N0g h (K0j h)
theorem M0v (r:D0d) (n:Int) (h:n=-1\/n=-2\/0<=n/\n<(r.regs.length:Int)):H0c F r n=some (a0n r.at_ r.regs n):=by
 unfold H0c a0n;rcases h with rfl | rfl | ⟨h1,h2⟩
 ·rfl
 ·rfl
 ·have e1:(n==-1)=false:=by simp;omega
  have e2:(n==-2)=false:=by simp;omega
  simp only [e1,e2,false_eq_true,if_false,B4 h1 h2,if_true];rw [if_neg (by omega),if_neg (by omega)]
theorem M06 {p:b0D} (h:Rd p) {s:RS} {i:Nat} (hc:RI p s i) (hF:2000<F):G0j F (toA p s)=some (toA p (E0B p s)):=by
 have hst:=hc.st;unfold toA G0j K0Y E0B
 by_cases h1:0<=s.stand
 ·have e:decide (s.stand>=0)=true:=by simpa using h1
  have hm:=c0l h1 hst.2;have hin:=B4 h1 hst.2;have hal:=h.sm.ac _ hm;simp only [e,if_true,hin,F1]
  by_cases ha:(gt p.Stands s.stand).Accept=[]
  ·simp [ha]
  ·have:decide (((gt p.Stands s.stand).Accept.length:Int)>0)=true:=by have:=List.length_pos_iff.2 ha;simp;omega
   have hl:=i7 (body:=J0j F ⟨s.tags,s.to⟩ p s.at_ s.stand s.work s.regs) (gt p.Stands s.stand).Accept.length (fun j=>(((gt p.Stands s.stand).Accept.take j).map (a0n s.at_ s.regs),(j:Int))) ((gt p.Stands s.stand).Accept.map (a0n s.at_ s.regs)) (fun j hj=>by
    unfold J0j;have hn:=h.ac _ hm _ (K4 hj);have hv:=M0v (F:=F) ⟨⟨s.tags,s.to⟩,p,s.at_,s.stand,s.work,s.regs⟩ (gt (gt p.Stands s.stand).Accept (j:Int)) (by have:=hc.rl;show _\/_\/_/\_<(s.regs.length:Int);omega);have hap:∀ z:Int,C1 8 (((gt p.Stands s.stand).Accept.take j).map (a0n s.at_ s.regs)) [z]=true:=fun z=>a7 (by simp;omega);simp only [dec_lt hj,Y3,hj,decide_true,if_true,hv,F1,hap];rw [R2 (by omega),c0G _ _ hj]) (by unfold J0j;simp) (fu:=F) (by omega)
   simp only [take_zero,natCast_zero,map_nil] at hl;simp only [this,Bool.not_true,false_eq_true,if_false,if_true,hl,F1];rw [if_pos ⟨h1,ha⟩]
 ·have e:decide (s.stand>=0)=false:=by simpa using h1
  have e2:¬ (0<=s.stand/\(gt p.Stands s.stand).Accept≠[]):=fun hh=>h1 hh.1;simp [e,e2]
theorem o0X {p:b0D} (h:Rd p) {s:RS} {i:Nat} (hc:RI p s i) (hF:2000<F):E07 F (toR p s)=some (toR p (E0B p s)):=by
 have hst:=hc.st;unfold E07 E0B toR
 by_cases h1:0<=s.stand
 ·have e:decide (s.stand<0)=false:=by simpa using h1
  have hm:=c0l h1 hst.2;have hin:=B4 h1 hst.2;have hal:=h.sm.ac _ hm;simp only [e,false_eq_true,if_false,hin,if_true,F1]
  by_cases ha:(gt p.Stands s.stand).Accept=[]
  ·simp [ha]
  ·have:(((gt p.Stands s.stand).Accept.length:Int)==0)=false:=by simp [ha]
   simp only [this,false_eq_true,if_false];have hl:=i7 (body:=I06 F ⟨p,s.at_,s.stand,s.regs,s.tags,s.to,!s.tags.isEmpty,s.work⟩) (gt p.Stands s.stand).Accept.length (fun j=>((j:Int),(p,s.at_,s.stand,s.regs,((gt p.Stands s.stand).Accept.take j).map (a0n s.at_ s.regs),s.to,!s.tags.isEmpty,s.work))) (p,s.at_,s.stand,s.regs,(gt p.Stands s.stand).Accept.map (a0n s.at_ s.regs),s.to,!s.tags.isEmpty,s.work) (fun j hj=>by
    have hn:=h.ac _ hm _ (K4 hj);have hap:∀ z:Int,C1 8 (((gt p.Stands s.stand).Accept.take j).map (a0n s.at_ s.regs)) [z]=true:=fun z=>a7 (by simp;omega);unfold I06;simp only [dec_lt hj,Y3,hj,decide_true,if_true,hap];rw [R2 (by omega),c0G _ _ hj];have hr:=hc.rl;unfold a0n at hn ⊢;rcases hn with hn | hn | ⟨g1,g2⟩
    ·simp [hn]
    ·simp [hn]
    ·have n1:¬ gt (gt p.Stands s.stand).Accept (j:Int)=-1:=by omega
     have n2:¬ gt (gt p.Stands s.stand).Accept (j:Int)=-2:=by omega
     have n3:(gt (gt p.Stands s.stand).Accept (j:Int)==-1)=false:=by simpa using n1
     have n4:(gt (gt p.Stands s.stand).Accept (j:Int)==-2)=false:=by simpa using n2
     simp only [n1,n2,n3,n4,false_eq_true,if_false,B4 g1 (show _<(s.regs.length:Int) by omega),if_true,F1]) (by
    unfold I06;simp) (fu:=F) (by omega)
   simp only [take_zero,natCast_zero,map_nil] at hl;rw [hl,if_pos ⟨h1,ha⟩];have hne:((gt p.Stands s.stand).Accept.map (a0n s.at_ s.regs)).isEmpty=false:=by simp [ha]
   simp only [F1,hne,Bool.not_false]
 ·have e:decide (s.stand<0)=true:=by simp;omega
  have e2:¬ (0<=s.stand/\(gt p.Stands s.stand).Accept≠[]):=fun hh=>h1 hh.1;simp [e,e2]
theorem P0A {p:b0D} (h:Rd p) {s:RS} {i:Nat} (hc:RI p s i) (hi:i<=1000) {b:Int} (hb:0<=b/\b<256) (hF:2000<F):J0a F (toA p s) b=some (toA p (E0M p s b)):=by
 have hst:=hc.st;have ha:=hc.a0;have hw0:=hc.w0;have hwk:s.work<=1201000:=by
  have h1:=hc.wk;have h2:=h.sm.rg;have h3:=h.r0;have:(i:Int)*(1+2*p.Regs)<=1000*1201:=Int.mul_le_mul (by omega) (by omega) (by omega) (by omega);omega
 have hacc:=M06 (F:=F) h (M0e h hc hb) hF;unfold E0M;unfold toA at hacc ⊢;unfold J0a
 by_cases h1:0<=s.stand
 ·obtain ⟨i1,i2,hm,hx⟩:=M0j h hc hb h1;have e:decide (s.stand>=0)=true:=by simpa using h1
  have hin:=B4 h1 hst.2;have hln:=h.sm.mv _ hm _ hx;have hl:=i7 (body:=G0v F ⟨s.tags,s.to⟩ p s.at_ s.stand s.work (B0C p s b).Moves) (B0C p s b).Moves.length (fun j=>((j:Int),A0G s.at_ s.regs ((B0C p s b).Moves.take j))) (A0G s.at_ s.regs (B0C p s b).Moves) (fun j hj=>by
   unfold G0v;have hmv:=h.mv _ hm _ hx _ (K4 hj);have hlen:=D0F s.at_ ((B0C p s b).Moves.take j) s.regs;have hr:=hc.rl;have hv:=M0v (F:=F) ⟨⟨s.tags,s.to⟩,p,s.at_,s.stand,W (s.work+1),A0G s.at_ s.regs ((B0C p s b).Moves.take j)⟩ (gt (B0C p s b).Moves (j:Int)).From (by show _\/_\/_/\_<((A0G _ _ _).length:Int);omega);have hin2:y0 (A0G s.at_ s.regs ((B0C p s b).Moves.take j)) (gt (B0C p s b).Moves (j:Int)).To=true:=B4 hmv.1 (by omega);simp only [dec_lt hj,Y3,hj,decide_true,if_true,hv,F1,hin2];rw [R2 (by omega),N0K _ _ _ hj]) (by unfold G0v;simp) (fu:=F) (by omega)
  simp only [take_zero,natCast_zero] at hl;have hl:iter (G0v F ⟨s.tags,s.to⟩ p s.at_ s.stand s.work (gt (gt p.Stands s.stand).c0s (gt p.Class b)).Moves) F (0,s.regs)=some (A0G s.at_ s.regs (B0C p s b).Moves):=hl;have e1:W (s.work+1)=s.work+1:=c0R (by omega) (by omega);have e2:W (s.work+1+((B0C p s b).Moves.length:Int))=s.work+1+((B0C p s b).Moves.length:Int):=c0R (by omega) (by omega);have e2:W (s.work+1+((gt (gt p.Stands s.stand).c0s (gt p.Class b)).Moves.length:Int))=s.work+1+((B0C p s b).Moves.length:Int):=e2;have e3:W (s.at_+1)=s.at_+1:=c0R (by omega) (by omega);have hg:goS p s b={ s with at_:=s.at_+1,stand:=(B0C p s b).To,work:=s.work+1+((B0C p s b).Moves.length:Int),regs:=A0G s.at_ s.regs (B0C p s b).Moves }:=by unfold goS;rw [if_pos h1]
  rw [hg] at hacc ⊢;have hacc:G0j F (⟨s.tags,s.to⟩,p,s.at_+1,(gt (gt p.Stands s.stand).c0s (gt p.Class b)).To,s.work+1+((B0C p s b).Moves.length:Int),A0G s.at_ s.regs (B0C p s b).Moves)=_:=hacc;simp only [e,if_true,hin,i1,i2,hl,F1,e1,e2,e3,hacc]
 ·have e:decide (s.stand>=0)=false:=by simpa using h1
  have e1:W (s.work+1)=s.work+1:=c0R (by omega) (by omega);have e3:W (s.at_+1)=s.at_+1:=c0R (by omega) (by omega);have hg:goS p s b={ s with at_:=s.at_+1,work:=s.work+1 }:=by unfold goS;rw [if_neg h1]
  rw [hg] at hacc ⊢;simp only [e,false_eq_true,if_false,F1,e1,e3,hacc]
theorem S0m {at_:Int} {regs:List Int} {l:List C0s} (hl:l.length<=1300) (hr:regs.length<=1000) (hm:∀ m∈l,0<=m.To/\m.To<(regs.length:Int)/\-1<=m.From/\m.From<(regs.length:Int)) (hF:2000<F):G0K F regs l at_=some (A0G at_ regs l):=by
 unfold G0K;have hap:C1 8 ([]:List Int) regs=true:=a7 (by simp;omega);have h:=i7 (body:=G0u F l at_) l.length (fun j=>((j:Int),A0G at_ regs (l.take j))) (A0G at_ regs l) (fun j hj=>by
  unfold G0u K0D;obtain ⟨g1,g2,g3,g4⟩:=hm _ (K4 hj);have hlen:=D0F at_ (l.take j) regs;have e1:decide ((gt l (j:Int)).To<0)=false:=by simp;omega
  have e2:decide ((gt l (j:Int)).To>=((A0G at_ regs (l.take j)).length:Int))=false:=by simp;omega
  have e3:decide ((gt l (j:Int)).From>=((A0G at_ regs (l.take j)).length:Int))=false:=by simp;omega
  have e4:decide ((gt l (j:Int)).From < -1)=false:=by simp;omega
  have i1:y0 (A0G at_ regs (l.take j)) (gt l (j:Int)).To=true:=B4 g1 (by omega);simp only [dec_lt hj,Y3,hj,decide_true,if_true,or_some,F1,e1,e2,e3,e4,Bool.or_false,false_eq_true,if_false,i1];rw [R2 (by omega),N0K _ _ _ hj];unfold a0n
  by_cases h0:(gt l (j:Int)).From=-1
  ·simp [h0,i1]
  ·have n1:((gt l (j:Int)).From==-1)=false:=by simpa using h0
   have n2:¬ (gt l (j:Int)).From=-2:=by omega
   have i2:y0 (A0G at_ regs (l.take j)) (gt l (j:Int)).From=true:=B4 (by omega) (by omega);simp only [n1,h0,n2,false_eq_true,if_false,i2,if_true,F1,i1]) (by unfold G0u;simp) (fu:=F) (by omega)
 simp only [take_zero,natCast_zero] at h;have h:iter (G0u F l at_) F (0,[]++regs)=some (A0G at_ regs l):=h;simp only [hap,if_true,h,F1]
theorem R0u {p:b0D} (h:Rd p) {s:RS} {i:Nat} (hc:RI p s i) (hi:i<=1000) {b:Int} (hb:0<=b/\b<256) (hF:2000<F):J0k F (toR p s) b=some (toR p (E0M p s b)):=by
 have hst:=hc.st;have ha:=hc.a0;have hw0:=hc.w0;have hwk:s.work<=1201000:=by
  have h1:=hc.wk;have h2:=h.sm.rg;have h3:=h.r0;have:(i:Int)*(1+2*p.Regs)<=1000*1201:=Int.mul_le_mul (by omega) (by omega) (by omega) (by omega);omega
 have hacc:=o0X (F:=F) h (M0e h hc hb) hF;have hbw:W b=b:=c0R (by omega) (by omega);unfold E0M;unfold toR at hacc ⊢;unfold J0k
 by_cases h1:0<=s.stand
 ·obtain ⟨i1,i2,hm,hx⟩:=M0j h hc hb h1;have e:decide (s.stand>=0)=true:=by simpa using h1
  have hin:=B4 h1 hst.2;have hln:=h.sm.mv _ hm _ hx;have hr:=hc.rl;have hrg:=h.sm.rg;have hap:=S0m (F:=F) (at_:=s.at_) (regs:=s.regs) (l:=(B0C p s b).Moves) hln (by omega) (fun m hmm=>by have:=h.mv _ hm _ hx m hmm;omega) hF;have hap:G0K F s.regs (gt (gt p.Stands s.stand).c0s (gt p.Class b)).Moves s.at_=some (A0G s.at_ s.regs (B0C p s b).Moves):=hap;have e1:W (s.work+1)=s.work+1:=c0R (by omega) (by omega);have e2:W (s.work+1+((B0C p s b).Moves.length:Int))=s.work+1+((B0C p s b).Moves.length:Int):=c0R (by omega) (by omega);have e2:W (s.work+1+((gt (gt p.Stands s.stand).c0s (gt p.Class b)).Moves.length:Int))=s.work+1+((B0C p s b).Moves.length:Int):=e2;have e3:W (s.at_+1)=s.at_+1:=c0R (by omega) (by omega);have hg:goS p s b={ s with at_:=s.at_+1,stand:=(B0C p s b).To,work:=s.work+1+((B0C p s b).Moves.length:Int),regs:=A0G s.at_ s.regs (B0C p s b).Moves }:=by unfold goS;rw [if_pos h1]
  rw [hg] at hacc ⊢;have hacc:E07 F ⟨p,s.at_+1,(gt (gt p.Stands s.stand).c0s (gt p.Class b)).To,A0G s.at_ s.regs (B0C p s b).Moves,s.tags,s.to,!s.tags.isEmpty,s.work+1+((B0C p s b).Moves.length:Int)⟩=_:=hacc;simp only [e,if_true,hin,hbw,i1,i2,hap,F1,e1,e2,e3,hacc]
 ·have e:decide (s.stand>=0)=false:=by simpa using h1
  have e1:W (s.work+1)=s.work+1:=c0R (by omega) (by omega);have e3:W (s.at_+1)=s.at_+1:=c0R (by omega) (by omega);have hg:goS p s b={ s with at_:=s.at_+1,work:=s.work+1 }:=by unfold goS;rw [if_neg h1]
  rw [hg] at hacc ⊢;simp only [e,false_eq_true,if_false,F1,e1,e3,hacc]
theorem d0c (s:List Int) (h:s.length<=1000000):D0G F s=some s:=by
 unfold D0G;rw [if_pos (a7 (by simp;omega))]
theorem U0v (s:List C0s) (h:s.length<=1000000):H00 F s=some s:=by
 unfold H00;rw [if_pos (a7 (by simp;omega))]
theorem Q0j (p:b0D) (hd:Sm p) (hF:2000<F):G06 F p=some p:=by
 have hcl:=hd.cl;have hst:=hd.st;unfold G06;rw [d0c p.Class (by omega)];simp only [F1,s6];have h:=i7 (body:=H04 F p) p.Stands.length (fun i=>((i:Int),(p.Tags,p.Regs,p.Class,p.Stands.take i))) (p.Tags,p.Regs,p.Class,p.Stands) (fun i hi=>by
  have hm:=K4 hi;have hac:=hd.ac _ hm;have hwy:=hd.wy _ hm;unfold H04;simp only [dec_lt hi,Y3,hi,decide_true,if_true];rw [d0c _ (by omega)];simp only [F1];have h:=i7 (body:=I0v F p (i:Int)) (gt p.Stands (i:Int)).c0s.length (fun j=>((j:Int),((gt p.Stands (i:Int)).Accept,(gt p.Stands (i:Int)).c0s.take j))) ((gt p.Stands (i:Int)).Accept,(gt p.Stands (i:Int)).c0s) (fun j hj=>by
   have hs:=hd.mv _ hm _ (K4 hj);unfold I0v;simp only [dec_lt hj,Y3,hj,decide_true,if_true];rw [U0v _ (by omega)];have ha:C1 32 ((gt p.Stands (i:Int)).c0s.take j) [(⟨(gt (gt p.Stands (i:Int)).c0s (j:Int)).To,(gt (gt p.Stands (i:Int)).c0s (j:Int)).Moves⟩:C0x)]=true:=a7 (by simp;omega);simp only [F1,ha,if_true];rw [R2 (by omega)];have:=c0G id (gt p.Stands (i:Int)).c0s hj;simp only [map_id,id] at this;rw [this]) (by unfold I0v;simp) (fu:=F) (by omega)
  simp only [take_zero,natCast_zero] at h;simp only [h,F1];have ha:C1 48 (p.Stands.take i) [(⟨(gt p.Stands (i:Int)).Accept,(gt p.Stands (i:Int)).c0s⟩:C05)]=true:=a7 (by simp;omega);simp only [ha,if_true];rw [R2 (by omega)];have:=c0G id p.Stands hi;simp only [map_id,id] at this;rw [this]) (by unfold H04;simp) (fu:=F) (by omega)
 simp only [take_zero,natCast_zero] at h;simp only [h,F1]
theorem M04 {p:b0D} (h:Rd p):S5 8 p.Regs=true:=by
 have h1:=h.r0;have h2:=h.sm.rg;unfold S5;simp;omega
theorem U0a {p:b0D} (hs:Sm p) (hr:C0Z p=true) (hF:2000<F):H0W F p=some (.inr (toA p (F0f p)),0):=by
 have h:=o8 hs hr;have hacc:=M06 (F:=F) h (K0j h) hF;unfold H0W;rw [O00 p hs hF,Q0j p hs hF];unfold toA at hacc;unfold F0f;simp only [F1,hr,Bool.not_true,false_eq_true,if_false,M04 h,if_true,s6,hacc];rfl
theorem W0R {p:b0D} (hs:Sm p) (hr:C0Z p=true) (hF:2000<F):J0f F p=some (toR p (F0f p)):=by
 have h:=o8 hs hr;have hacc:=o0X (F:=F) h (K0j h) hF;unfold J0f;simp only [M04 h,if_true];have hacc:E07 F ⟨p,0,0,List.replicate p.Regs.toNat 0,[],0,false,0⟩=_:=hacc;rw [hacc];rfl
end Go.Proofs.YtmhooikfkhjijaaGreat.Pr
namespace Go.Proofs.YtmhooikfkhjijaaGreat
open Go.V Go.RowKit Old Go.X
theorem fold_succ {α β:Type} [Inhabited α] (f:β->α->β) (x:β) (w:List α) {i:Nat} (h:i<w.length):(w.take (i+1)).foldl f x=f ((w.take i).foldl f x) (gt w (i:Int)):=by
 have:w[i]?=some (gt w (i:Int)):=by rw [Y5 (x:=w[i]) (by simp [h])];simp [h]
 rw [List.take_succ,this,List.foldl_append];rfl
section
variable {F:Nat}
def runN (p:b0D) (w:List Int) (i:Nat):Pr.RS:=(w.take i).foldl (Pr.E0M p) (Pr.F0f p)
theorem K0G {b:Int} (h:inK .u8 b):0<=b/\b<256:=by
 exact ⟨h.1,by have:=h.2;rw [show IntKind.u8.max=255 from rfl] at this;omega⟩
theorem i64_in {n:Int} (h0:0<=n) (h1:n<=1000000):inK .i64 n:=by
 have e1:IntKind.i64.min=-9223372036854775808:=rfl;have e2:IntKind.i64.max=9223372036854775807:=rfl;exact ⟨by omega,by omega⟩
theorem J0x {p:b0D} (h:Pr.Rd p) {w:List Int} (hb:∀ x∈w,inK .u8 x):∀ i,i<=w.length->Pr.RI p (runN p w i) i
 |0,_=>by unfold runN;rw [take_zero];exact Pr.T02 h
 |
  i+1,hi=>by
  unfold runN;rw [fold_succ _ _ _ (show i<w.length by omega)];exact Pr.U0V h (J0x h hb i (by omega)) (K0G (hb _ (Pr.K4 (by omega))))
def C0M (p:b0D) (w:List Int):t0v×Int:=
 if (C0q p (w.length:Int)).2 != 0 then C0q p (w.length:Int) else (⟨(runN p w w.length).work,(C0q p (w.length:Int)).1.Most,p.Regs,(C0q p (w.length:Int)).1.Room⟩,0)
theorem K02 {p:b0D} {n:Int} (h:((C0q p n).2 != 0)=false):Pr.C0Z p=true/\0<=n/\n<=1000000/\C0q p n=(⟨0,(n+1)*(1+2*p.Regs),0,p.Regs⟩,0):=by
 unfold C0q at h ⊢;cases hr:Pr.C0Z p with
 |false=>rw [hr] at h;simp at h
 |
  true=>
  rw [hr] at h;simp only [if_true] at h ⊢;cases hb:(decide (n<0)||decide (n>1000000)) with
  |true=>rw [hb] at h;simp at h
  |
   false=>
   simp only [Bool.or_eq_false_iff,decide_eq_false_iff_not] at hb;exact ⟨trivial,by omega,by omega,by simp⟩
theorem M0P (p:b0D) (hd:Pr.Sm p) {w:List Int} (hb:∀ x∈w,inK .u8 x) (hw:w.length<=1000) (hF:2000<F):G07 F p w=some (C0M p w):=by
 unfold G07 C0M;rw [L0H p hd _ hF];cases h0:((C0q p (w.length:Int)).2 != 0) with
 |true=>simp only [F1,h0,if_true]
 |
  false=>
  obtain ⟨hr,_,_,_⟩:=K02 h0;have h:=Pr.o8 hd hr;have hl:=Pr.i7 (body:=I0C F w) w.length (fun i=>((i:Int),Pr.toA p (runN p w i))) (Pr.toA p (runN p w w.length)) (fun i hi=>by
   have hri:=J0x h hb i (by omega);have hf:=Pr.P0A (F:=F) h hri (by omega) (K0G (hb _ (Pr.K4 hi))) hF;have hs:runN p w (i+1)=Pr.E0M p (runN p w i) (gt w (i:Int)):=fold_succ _ _ _ hi;unfold I0C;unfold Pr.toA at hf ⊢;simp only [Pr.dec_lt hi,Y3,hi,decide_true,if_true,hf,F1,hs];rw [Go.V.R2 (by omega)]) (by
   unfold I0C Pr.toA;simp) (fu:=F) (by omega)
  have h00:runN p w 0=Pr.F0f p:=by unfold runN;rw [take_zero];rfl
  simp only [h00,natCast_zero] at hl;rw [Pr.U0a hd hr hF];unfold Pr.toA at hl ⊢;simp only [F1,h0,false_eq_true,if_false,show ((0:Int) != 0)=false from rfl,hl];rfl
theorem R0G (p:b0D) (hd:Pr.Sm p) {w:List Int} (hb:∀ x∈w,inK .u8 x) (hw:w.length<=1000) (hF:2000<F):I0u F p w=some (C0M p w):=by
 unfold I0u C0M;rw [N0l p hd _ hF];cases h0:((C0q p (w.length:Int)).2 != 0) with
 |true=>simp only [F1,h0,if_true]
 |
  false=>
  obtain ⟨hr,_,_,_⟩:=K02 h0;have h:=Pr.o8 hd hr;have hl:=Pr.i7 (body:=H0X F w) w.length (fun i=>((i:Int),Pr.toR p (runN p w i))) (Pr.toR p (runN p w w.length)) (fun i hi=>by
   have hri:=J0x h hb i (by omega);have hf:=Pr.R0u (F:=F) h hri (by omega) (K0G (hb _ (Pr.K4 hi))) hF;have hs:runN p w (i+1)=Pr.E0M p (runN p w i) (gt w (i:Int)):=fold_succ _ _ _ hi;unfold H0X;simp only [Pr.dec_lt hi,Y3,hi,decide_true,if_true,hf,F1,hs];rw [Go.V.R2 (by omega)]) (by
   unfold H0X;simp) (fu:=F) (by omega)
  have h00:runN p w 0=Pr.F0f p:=by unfold runN;rw [take_zero];rfl
  simp only [h00,natCast_zero] at hl;rw [Pr.W0R hd hr hF];simp only [F1,h0,false_eq_true,if_false,hl];rfl
def F0m (r:Nat) (t:Int):Int:=(r:Int)+(r:Int)*t+2*(r:Int)*(r:Int)
def G0t (r:Nat) (t w:Int):Int:=if F0m r t>w then F0m r t else w
end
section
variable {F:Nat} {l:List U0} {n:Nat} {a:List E1} {b:Nat->List E1} {e:Nat->E1×Bool} {z:E1×Bool}
def mtF (l:List U0) (n:Nat) (a:List E1) (b:Nat->List E1) (e:Nat->E1×Bool) (s:Hs×Int) (x:Int):Hs×Int:=
 (s.1.feed l n a b e x,G0t (s.1.feed l n a b e x).c.pl.length (f0n l) s.2)
def mtN (l:List U0) (n:Nat) (a:List E1) (b:Nat->List E1) (e:Nat->E1×Bool) (z:E1×Bool) (w:List Int) (i:Nat):Hs×Int:=(w.take i).foldl (mtF l n a b e) (Hs.zero l z,0)
theorem Y0i (K:B0H l n a b e z F) (hw:∀ x∈l,l02 x) {w:List Int} (hb:∀ x∈w,inK .u8 x) (hl:w.length<=1000):∀ i,i<=w.length->F0H l n (mtN l n a b e z w i).1 i
 |0,_=>by unfold mtN;rw [take_zero];exact V0B
 |
  i+1,hi=>by
  have ih:=Y0i K hw hb hl i (by omega);unfold mtN;rw [fold_succ _ _ _ (show i<w.length by omega)];have hby:=hb _ (Pr.K4 (show i<w.length by omega));obtain ⟨_,_,s3,_⟩:=K0F (z:=z) (e:=e) K hw ih (by omega) hby;exact s3
theorem N0M {r n:Nat} (h:r<=n) (hn:n<=400) (t:Int) (ht:1<=t/\t<=19):W ((W ((r:Int)+(W ((r:Int)*t))))+(W ((W (2*(r:Int)))*(r:Int))))=F0m r t:=by
 have h1:=D00 (a:=(r:Int)) (b:=t) (A:=400) (B:=19) (by omega) (by omega) (by omega) (by omega);have h2:=D00 (a:=2*(r:Int)) (b:=(r:Int)) (A:=800) (B:=400) (by omega) (by omega) (by omega) (by omega);rw [c0R (n:=(r:Int)*t) (by omega) (by omega),c0R (n:=(r:Int)+(r:Int)*t) (by omega) (by omega),c0R (n:=2*(r:Int)) (by omega) (by omega),c0R (n:=2*(r:Int)*(r:Int)) (by omega) (by omega),c0R (by omega) (by omega)];rfl
def G0F (l:List U0) (n:Nat) (a:List E1) (b:Nat->List E1) (e:Nat->E1×Bool) (z:E1×Bool) (w:List Int):t0v×Int:=
 if (B0d l (w.length:Int)).2 != 0 then B0d l (w.length:Int) else (⟨(mtN l n a b e z w w.length).1.c.work,(B0d l (w.length:Int)).1.Most,(mtN l n a b e z w w.length).2,(B0d l (w.length:Int)).1.Room⟩,0)
theorem R03 (K:B0H l n a b e z Fb) (hw:∀ x∈l,l02 x) (h40:l.length<=1000) {w:List Int} (hb:∀ x∈w,inK .u8 x) (hl:w.length<=1000):D0Y Fb l w=some (G0F l n a b e z w):=by
 have f1:401<Fb:=by unfold Fb;omega
 have hF:2000<Fb:=by unfold Fb;omega
 have ht:=C0D l;have hn:n<=400:=by have:=G0d K.hR;have:=K.hn;omega
 unfold D0Y G0F;rw [H05 l _ hw K.hl h40 (i64_in (by omega) (by omega))];cases h0:((B0d l (w.length:Int)).2 != 0) with
 |true=>simp only [F1,h0,if_true]
 |
  false=>
  have hlp:=Pr.i7 (body:=F09 Fb w) w.length (fun i=>((i:Int),((mtN l n a b e z w i).1.C l n a b e z,f0n l,(mtN l n a b e z w i).2))) ((mtN l n a b e z w w.length).1.C l n a b e z,f0n l,(mtN l n a b e z w w.length).2) (fun i hi=>by
   have ih:=Y0i K hw hb hl i (by omega);have hby:=hb _ (Pr.K4 (show i<w.length by omega));obtain ⟨s1,_,s3,_⟩:=K0F (z:=z) (e:=e) K hw ih (by omega) hby;have nr:=U0H (F:=Fb) (a:=a) (b:=b) (e:=e) (z:=z) s3 (by omega);have hs:mtN l n a b e z w (i+1)=mtF l n a b e (mtN l n a b e z w i) (gt w (i:Int)):=fold_succ _ _ _ hi;have hW:=N0M s3.c.ok.le hn (f0n l) ht;unfold Hs.C at s1 ⊢;unfold Hs.H at nr;unfold F09 J0E;simp only [Pr.dec_lt hi,Y3,hi,decide_true,if_true,s1,F1,nr,hW,hs];rw [Go.V.R2 (by omega)];rfl) (by
   unfold F09 Hs.C;simp) (fu:=Fb) (by omega)
  have h00:mtN l n a b e z w 0=(Hs.zero l z,0):=by unfold mtN;rw [take_zero];rfl
  simp only [h00,natCast_zero] at hlp;rw [X0L K,K0V K.hR f1];unfold Hs.C at hlp ⊢;simp only [F1,h0,false_eq_true,if_false,show ((0:Int) != 0)=false from rfl,hlp];rfl
theorem P0e (K:B0H l n a b e z Fb) (hw:∀ x∈l,l02 x) (h40:l.length<=1000) {w:List Int} (hb:∀ x∈w,inK .u8 x) (hl:w.length<=1000):G0g Fb l w=some (G0F l n a b e z w):=by
 have f1:401<Fb:=by unfold Fb;omega
 have hF:2000<Fb:=by unfold Fb;omega
 have ht:=C0D l;have hn:n<=400:=by have:=G0d K.hR;have:=K.hn;omega
 unfold G0g G0F;rw [K01 l _ hw K.hl h40 (i64_in (by omega) (by omega))];cases h0:((B0d l (w.length:Int)).2 != 0) with
 |true=>simp only [F1,h0,if_true]
 |
  false=>
  have hbw:(B0d l (w.length:Int)).1=⟨0,(B0d l (w.length:Int)).1.Most,0,(B0d l (w.length:Int)).1.Room⟩:=by
   unfold B0d E0e;split
   ·split<;>rfl
   ·rfl
  generalize hB:B0d l (w.length:Int)=B at *;obtain ⟨⟨c1,c2,c3,c4⟩,B2⟩:=B;simp only [t0v.mk.injEq,true_and] at hbw;obtain ⟨rfl,rfl,_⟩:=hbw;have hlp:=Pr.i7 (body:=I0K Fb w (f0n l)) w.length (fun i=>((i:Int),(⟨0,c2,(mtN l n a b e z w i).2,c4⟩:t0v),(mtN l n a b e z w i).1.X l n a b e)) ((⟨0,c2,(mtN l n a b e z w w.length).2,c4⟩:t0v),(mtN l n a b e z w w.length).1.X l n a b e) (fun i hi=>by
   have ih:=Y0i K hw hb hl i (by omega);have hby:=hb _ (Pr.K4 (show i<w.length by omega));obtain ⟨_,s2,s3,_⟩:=K0F (z:=z) (e:=e) K hw ih (by omega) hby;have hs:mtN l n a b e z w (i+1)=mtF l n a b e (mtN l n a b e z w i) (gt w (i:Int)):=fold_succ _ _ _ hi;have xr:((((Hs.feed l n a b e (mtN l n a b e z w i).1 (gt w (i:Int))).X l n a b e).Crowd.Places.length:Int))=((Hs.feed l n a b e (mtN l n a b e z w i).1 (gt w (i:Int))).c.pl.length:Int):=by simp [Hs.X,Cs.X,mkX,C0V]
   have hW:=N0M s3.c.ok.le hn (f0n l) ht;unfold I0K;simp only [Pr.dec_lt hi,Y3,hi,decide_true,if_true,s2,F1,xr,hW,hs];rw [Go.V.R2 (by omega)];unfold mtF G0t
   by_cases hc:F0m (Hs.feed l n a b e (mtN l n a b e z w i).1 (gt w (i:Int))).c.pl.length (f0n l)>(mtN l n a b e z w i).2
   ·simp only [hc,decide_true,if_true,F1]
   ·simp only [hc,decide_false,false_eq_true,if_false,F1]) (by
   unfold I0K;simp) (fu:=Fb) (by omega)
  have h00:mtN l n a b e z w 0=(Hs.zero l z,0):=by unfold mtN;rw [take_zero];rfl
  simp only [h00,natCast_zero] at hlp;rw [T0S K,J0o K.hR K.hl f1 K.f2];simp only at h0;simp only [F1,h0,false_eq_true,if_false,hlp];rfl
end
theorem Z0m {l:List U0} (hw:∀ x∈l,l02 x) (hl:l.length*64<=140737488351232) (h40:l.length<=1000) {w:List Int} (hb:∀ x∈w,inK .u8 x) (hwl:w.length<=1000) :
  ∃ X:t0v×Int,D0Y Fb l w=some X/\G0g Fb l w=some X:=by
 have hi:inK .i64 (w.length:Int):=i64_in (by omega) (by omega);cases hR:e0M l with
 |
  false=>
  have hB:B0d l (w.length:Int)=(E0e,11):=by unfold B0d;rw [hR];rfl
  refine ⟨(E0e,11),?_,?_⟩
  ·unfold D0Y;rw [H05 l _ hw hl h40 hi,hB];rfl
  ·unfold G0g;rw [K01 l _ hw hl h40 hi,hB];rfl
 |
  true=>
  obtain ⟨a,b,e,z,K⟩:=known hw hR hl h40;exact ⟨_,R03 K hw h40 hb hwl,P0e K hw h40 hb hwl⟩
end Go.Proofs.YtmhooikfkhjijaaGreat
set_option maxRecDepth 100000
noncomputable section
namespace Go.Proofs.YtmhooikfkhjijaaGreat
open Go.V Go.RowKit Go.X
theorem B7 {α β:Type} (x:Option (α×β)):(Option.bind x fun p=>some (p.1,p.2))=x:=by cases x<;>rfl
def J0S (F:Nat) (c:h0r) (begin:Bool):Option (C08×h0r):=
 Option.bind (α:=((List (List Int))×P1)) (
  (
  Option.bind (H0o F c.values) fun clone=>
  some (clone,c.rank))) fun (values,rank)=>
 Option.bind (α:=((List (List Int))×(List (List z05))×P1)) (
  iter (G0l F c) F (0,(values,[],rank))) fun (values3,roads2,rank3)=>
 Option.bind (α:=((List (List Int))×(List (List z05))×P1)) (
  if begin then
   Option.bind (F0t F c) fun begun=>
   if C1 24 values3 [begun] then
    if C1 24 roads2 [c.chart.begin] then
     Option.bind (m0W F c.rank) fun with_=>
     some (values3++[begun],roads2++[c.chart.begin],with_)
    else none
   else none
  else
   some (values3,roads2,rank3)) fun (values4,roads3,rank4)=>
 some ((⟨values4,roads3,rank4⟩:C08),c)
theorem P0I:F0p=J0S:=by
 funext x0 x1 x2;unfold F0p J0S;simp only [s6,B7]<;>rfl
def J09 (F:Nat) (c:h0r) (b:Int) (begin:Bool):Option h0r:=
 Option.bind (J0S F c begin) fun (goers,b0)=>
 Option.bind (G0R F b0 goers b) fun (to,b02)=>
 Option.bind (α:=((List Int)×(List (List Int))×h0r×((List Int)×(List z05)×(List E1)))) (
  iter (E00 F goers to) F ([],[],0,b02,([],[],[]))) fun (places3,values3,y3,(from_3,roads3,hops3))=>
 Option.bind (m0B F y3.chart.l goers.rank from_3 hops3) fun next_=>
 let x2:=W ((places3.length:Int)*(places3.length:Int))
 let x3:=W ((W ((places3.length:Int)*y3.chart.tags))+x2)
 some (⟨y3.chart,W (y3.at_+1),W (y3.work+x3),places3,values3,next_⟩:h0r)
theorem T0i:E0Z=J09:=by
 funext x0 x1 x2 x3;unfold E0Z J09;simp only [s6,B7,P0I]<;>rfl
def K0i (F:Nat):(h0r×(List Int)×Int×Bool)->Int->Option (h0r×(List Int)×Int×Bool)
 |(Crowd,tags,to,is),b=>
 Option.bind (E0T F Crowd) fun at_=>
 Option.bind (α:=Bool) (
  if at_==0 then
   some true
  else
   some (!is)) fun x=>
 Option.bind (J09 F Crowd b x) fun b0=>
 Option.bind (E0L F b0) fun (c0U,best2)=>
 if best2 then
  Option.bind (E0T F b0) fun at_2=>
  if y0 c0U 0 then
   Option.bind (E0Y F b0 (gt c0U 0)) fun b02=>
   some (b02,c0U,at_2,true)
  else none
 else
  some (b0,tags,to,is)
theorem U0Y:F0c=K0i:=by
 funext x0;unfold F0c K0i;simp only [s6,B7,T0i]<;>rfl
def K0N (F:Nat) (w:(List Int)) (d:(Int×((h0r×(List Int)×Int×Bool)×Int×Int))):Option (T0 (Int×((h0r×(List Int)×Int×Bool)×Int×Int)) ((h0r×(List Int)×Int×Bool)×Int×Int)):=
 match d with
 |(x,((Crowd3,tags4,to3,is3),tags5,words))=>
 if decide (x<(w.length:Int)) then
  if y0 w x then
   Option.bind (K0i F (Crowd3,tags4,to3,is3) (gt w x)) fun (Crowd4,tags6,to4,is4)=>
   Option.bind (J0E F ((Crowd4,tags6,to4,is4),tags5,words)) fun ((Crowd5,tags7,to5,is5),tags8,words2)=>
   some (.next (W (x+1),((Crowd5,tags7,to5,is5),tags8,words2)))
  else none
 else
  some (.done ((Crowd3,tags4,to3,is3),tags5,words))
theorem X0o:F09=K0N:=by
 funext x0 x1 x2;unfold F09 K0N;simp only [s6,B7,U0Y]<;>rfl
def K0U (F:Nat) (l:(List U0)) (w:(List Int)):Option (t0v×Int):=
 Option.bind (D0M F l (w.length:Int)) fun (bounds,bounds2)=>
 if bounds2 != 0 then
  some (bounds,bounds2)
 else
  Option.bind (α:=(Int×(Unit ⊕ (h0r×(List Int)×Int×Bool)))) (
   Option.bind (H0H F l) fun (new,new2)=>
   match new with
   |
    .inl _=>
    some (new2,(.inl ()))
   |
    .inr (Crowd,tags,to,is)=>
    some (new2,(.inr (Crowd,tags,to,is)))) fun (e,h)=>
  match h with
  |
   .inl _=>
   if e != 0 then
    some ((⟨0,0,0,0⟩:t0v),e)
   else
    Option.bind (c08 F l) fun tags11=>
    none
  |
   .inr (Crowd2,tags2,to2,is2)=>
   if e != 0 then
    some ((⟨0,0,0,0⟩:t0v),e)
   else
    Option.bind (c08 F l) fun tags3=>
    Option.bind (α:=((h0r×(List Int)×Int×Bool)×Int×Int)) (
     iter (K0N F w) F (0,((Crowd2,tags2,to2,is2),tags3,0))) fun ((Crowd6,tags9,to6,is6),tags10,words3)=>
    Option.bind (K0K F Crowd6) fun work=>
    some ((⟨work,bounds.Most,words3,bounds.Room⟩:t0v),0)
theorem X0i:D0Y=K0U:=by
 funext x0 x1 x2;unfold D0Y K0U;simp only [s6,B7,X0o]<;>rfl
def N03 (F:Nat):Option Bool:=
 Option.bind (H0e F) fun star=>
 Option.bind (D0M F star 2) fun (bounds,bounds2)=>
 Option.bind (H0e F) fun star2=>
 if !([97,97]:List Int).isEmpty then
  Option.bind (K0U F star2 [97,97]) fun (crowd,crowd2)=>
  Option.bind (D0M F [] 2) fun (bounds3,bounds4)=>
  Option.bind (α:=Bool) (
   if bounds2==0 then
    let x:=(bounds.Work==0)&&((bounds.Most==18)&&((bounds.Words==0)&&(bounds.Room==6)))
    some x
   else
    some false) fun x2=>
  Option.bind (α:=Bool) (
   if x2 then
    some (crowd2==0)
   else
    some false) fun x3=>
  Option.bind (α:=Bool) (
   if x3 then
    some (crowd.Words==4)
   else
    some false) fun x4=>
  Option.bind (α:=Bool) (
   if x4 then
    some (crowd.Work==6)
   else
    some false) fun x5=>
  Option.bind (α:=Bool) (
   if x5 then
    some (bounds4==11)
   else
    some false) fun x6=>
  some x6
 else none
theorem V0v:D0Z=N03:=by
 funext x0;unfold D0Z N03;simp only [s6,B7,X0i]<;>rfl
end Go.Proofs.YtmhooikfkhjijaaGreat
end
set_option maxRecDepth 100000
namespace Go.Proofs.YtmhooikfkhjijaaGreat
open Go.V Go.RowKit Old Go.X
theorem L0N:D0Z Fb=some true:=by rw [V0v];kernel_rfl
