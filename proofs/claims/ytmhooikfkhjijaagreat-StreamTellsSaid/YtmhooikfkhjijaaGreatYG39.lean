/- P. Its conditions: none. -/
import Derived.Test.YtmhooikfkhjijaaGreatYG38
import Derived.Test.YtmhooikfkhjijaaGreatYG24
import Derived.Test.YtmhooikfkhjijaaGreatYOm
open Bool (and_eq_true false_eq_true)
open List (all_eq_true take_zero map_nil map_id any_cons)
set_option linter.all false
namespace Go.Proofs.YtmhooikfkhjijaaGreat.Pr
open Go.V Go.RowKit Go.X
variable {F:Nat}
def a0n (at_:Int)(regs:List Int)(n:Int):Int:=if n=-1 then at_ else if n=-2 then -1 else gt regs n
def A0G (at_:Int)(regs:List Int)(l:List C0s):List Int:=l.foldl (fun y m=>y.set m.To.toNat (a0n at_ y m.From)) regs
def D0F (at_:Int):∀(l:List C0s) (regs:List Int),(A0G at_ regs l).length=regs.length
 |[],_=>rfl
 |
  m :: r,regs=>by
  show(A0G at_ (regs.set m.To.toNat (a0n at_ regs m.From)) r).length=_;rw[D0F at_ r];simp
def N0K (at_:Int)(l:List C0s)(regs:List Int){i:Nat}(h:i<l.length):
  A0G at_ regs (l.take (i+1))=(A0G at_ regs (l.take i)).set (gt l (i:Int)).To.toNat (a0n at_ (A0G at_ regs (l.take i)) (gt l (i:Int)).From):=by
 have:l[i]?=some (gt l (i:Int)):=by rw[Y5 (x:=l[i]) (by simp[h])];simp[h]
 unfold A0G;rw[List.take_succ,this,List.foldl_append];rfl
structure RS where
 tags:List Int
 to:Int
 at_:Int
 stand:Int
 work:Int
 regs:List Int
def e08 (k:Int)(l:List Int):Prop:=∀n∈l,n=-1\/n=-2\/0<=n/\n<k
structure Rd (p:b0D):Prop where
 sm:Sm p
 r0:1<=p.Regs
 pos:0<p.Stands.length
 cl:p.Class.length=256
 ac:∀s∈p.Stands,e08 p.Regs s.Accept
 wy:∀s∈p.Stands,∀c∈p.Class,0<=c/\c<(s.c0s.length:Int)
 to:∀s∈p.Stands,∀x∈s.c0s,-1<=x.To/\x.To<(p.Stands.length:Int)
 ln:∀s∈p.Stands,∀x∈s.c0s,(x.Moves.length:Int)<=2*p.Regs
 mv:∀s∈p.Stands,∀x∈s.c0s,∀m∈x.Moves,0<=m.To/\m.To<p.Regs/\-1<=m.From/\m.From<p.Regs
def o8 {p:b0D}(hs:Sm p)(h:C0Z p=true):Rd p:=by
 unfold C0Z D0L at h;simp only[and_eq_true,decide_eq_true_eq,Bool.not_eq_true',all_eq_true]at h;obtain⟨⟨⟨⟨⟨⟨⟨⟨h1,h2⟩,h3⟩,h4⟩,h5⟩,h6⟩,h7⟩,h8⟩,h9⟩:=h;obtain⟨m,hm,hl,hm2,h256⟩:=x0R h8;obtain⟨_,_,hcb⟩:=h0Z hm;have hst:∀s∈p.Stands,(∀n∈s.Accept,D0i p.Regs n=true)/\s.c0s.length=m/\∀x∈s.c0s,D0h p x=true:=by
  intro s hs;have:=h9 s hs;unfold V9 a0E at this;simp only[and_eq_true,all_eq_true,beq_iff_eq]at this;exact⟨this.1.1.2,by have:=this.1.2;omega,this.2⟩
 have hway:∀s∈p.Stands,∀x∈s.c0s,(-1<=x.To/\x.To<(p.Stands.length:Int))/\(x.Moves.length:Int)<=2*p.Regs/\∀m∈x.Moves,0<=m.To/\m.To<p.Regs/\-1<=m.From/\m.From<p.Regs:=by
  intro s hs x hx;have:=(hst s hs).2.2 x hx;unfold D0h F0Q at this;simp only[and_eq_true,decide_eq_true_eq,all_eq_true]at this;refine⟨⟨this.1.1.1.1,this.1.1.1.2⟩,this.1.2,fun m hm=>?_⟩;have:=this.2 m hm;unfold D04 at this;simp only[and_eq_true,decide_eq_true_eq]at this;exact⟨this.1.1.1.1,this.1.1.1.2,this.1.1.2,this.1.2⟩
 refine⟨hs,h4,?_,h256,fun s hs n hn=>?_,fun s hs c hc=>?_,fun s hs x hx=>(hway s hs x hx).1,fun s hs x hx=>(hway s hs x hx).2.1,fun s hs x hx=>(hway s hs x hx).2.2⟩
 ·simp at h6;exact List.length_pos_iff.2 h6
 ·have:=(hst s hs).1 n hn;unfold D0i at this;simp only[and_eq_true,decide_eq_true_eq]at this;omega
 ·rw[(hst s hs).2.1];exact hcb c hc
def E0B (p:b0D)(s:RS):RS:=if 0<=s.stand/\(gt p.Stands s.stand).Accept≠[]then { s with tags:=(gt p.Stands s.stand).Accept.map (a0n s.at_ s.regs),to:=s.at_ } else s
def B0C (p:b0D)(s:RS)(b:Int):C0x:=gt (gt p.Stands s.stand).c0s (gt p.Class b)
def goS (p:b0D)(s:RS)(b:Int):RS:=
 if 0<=s.stand then { s with at_:=s.at_+1,stand:=(B0C p s b).To,work:=s.work+1+((B0C p s b).Moves.length:Int),regs:=A0G s.at_ s.regs (B0C p s b).Moves } else { s with at_:=s.at_+1,work:=s.work+1 }
def E0M (p:b0D)(s:RS)(b:Int):RS:=E0B p (goS p s b)
def F0f (p:b0D):RS:=E0B p ⟨[],0,0,0,0,List.replicate p.Regs.toNat 0⟩
def toA (p:b0D)(s:RS):C0v×b0D×Int×Int×Int×List Int:=(⟨s.tags,s.to⟩,p,s.at_,s.stand,s.work,s.regs)
def toR (p:b0D)(s:RS):C0I:=⟨p,s.at_,s.stand,s.regs,s.tags,s.to,!s.tags.isEmpty,s.work⟩
structure RI (p:b0D)(s:RS)(i:Nat):Prop where
 a0:s.at_=(i:Int)
 st:-1<=s.stand/\s.stand<(p.Stands.length:Int)
 rl:(s.regs.length:Int)=p.Regs
 w0:0<=s.work
 wk:s.work<=(i:Int)*(1+2*p.Regs)
 tl:s.tags.length<=40
def N0g {p:b0D}(h:Rd p){s:RS}{i:Nat}(hc:RI p s i):RI p (E0B p s) i:=by
 unfold E0B;split
 ·rename_i hh;refine⟨hc.a0,hc.st,hc.rl,hc.w0,hc.wk,?_⟩;show(List.map _ _).length<=40;rw[List.length_map];exact h.sm.ac _ (c0l hh.1 hc.st.2)
 ·exact hc
def M0j {p:b0D}(h:Rd p){s:RS}{i:Nat}(hc:RI p s i){b:Int}(hb:0<=b/\b<256)(h1:0<=s.stand):
  y0 p.Class b=true/\y0 (gt p.Stands s.stand).c0s (gt p.Class b)=true/\gt p.Stands s.stand∈p.Stands/\B0C p s b∈(gt p.Stands s.stand).c0s:=by
 have hm:=c0l h1 hc.st.2;have hbl:b<(p.Class.length:Int):=by rw[h.cl];omega
 obtain⟨e1,e2⟩:=h.wy _ hm _ (c0l hb.1 hbl);exact⟨B4 hb.1 hbl,B4 e1 e2,hm,c0l e1 e2⟩
def mul_succ (i:Nat)(K:Int):((i+1:Nat):Int)*K=(i:Int)*K+K:=by
 rw[show((i+1:Nat):Int)=(i:Int)+1 from rfl,Int.add_mul,Int.one_mul]
def M0e {p:b0D}(h:Rd p){s:RS}{i:Nat}(hc:RI p s i){b:Int}(hb:0<=b/\b<256):RI p (goS p s b) (i+1):=by
 have hw:=hc.wk;have hw0:=hc.w0;have ha:=hc.a0;have hr:=h.r0;have hms:=mul_succ i (1+2*p.Regs);unfold goS
 by_cases h1:0<=s.stand
 ·obtain⟨_,_,hm,hx⟩:=M0j h hc hb h1;have hln:=h.ln _ hm _ hx;rw[if_pos h1];refine⟨by show s.at_+1=_;omega,h.to _ hm _ hx,?_,?_,?_,hc.tl⟩
  ·show((A0G _ _ _).length:Int)=_;rw[D0F];exact hc.rl
  ·show 0<=s.work+1+((B0C p s b).Moves.length:Int);omega
  ·show s.work+1+((B0C p s b).Moves.length:Int)<=_;omega
 ·rw[if_neg h1];refine⟨by show s.at_+1=_;omega,hc.st,hc.rl,?_,?_,hc.tl⟩
  ·show 0<=s.work+1;omega
  ·show s.work+1<=_;omega
def U0V {p:b0D}(h:Rd p){s:RS}{i:Nat}(hc:RI p s i){b:Int}(hb:0<=b/\b<256):RI p (E0M p s b) (i+1):=N0g h (M0e h hc hb)
def K0j {p:b0D}(h:Rd p):RI p ⟨[],0,0,0,0,List.replicate p.Regs.toNat 0⟩ 0:=by
 have hp:=h.pos;have hr:=h.r0;refine⟨rfl,⟨by show(-1:Int)<=0;omega,by show(0:Int)<_;omega⟩,?_,Int.le_refl _,by simp,by simp⟩;show((List.replicate _ _).length:Int)=_;rw[List.length_replicate];omega
def T02 {p:b0D}(h:Rd p):RI p (F0f p) 0:=N0g h (K0j h)
def M0v (r:D0d)(n:Int)(h:n=-1\/n=-2\/0<=n/\n<(r.regs.length:Int)):H0c F r n=some (a0n r.at_ r.regs n):=by
 unfold H0c a0n;rcases h with rfl|rfl|⟨h1,h2⟩
 ·rfl
 ·rfl
 ·have e1:(n==-1)=false:=by simp;omega
  have e2:(n==-2)=false:=by simp;omega
  simp only[q0,e1,e2,B4 h1 h2];rw[if_neg (by omega),if_neg (by omega)]
def M06 {p:b0D}(h:Rd p){s:RS}{i:Nat}(hc:RI p s i)(hF:2000<F):G0j F (toA p s)=some (toA p (E0B p s)):=by
 have hst:=hc.st;unfold toA G0j K0Y E0B
 by_cases h1:0<=s.stand
 ·have e:decide (s.stand>=0)=true:=by simpa using h1
  have hm:=c0l h1 hst.2;have hin:=B4 h1 hst.2;have hal:=h.sm.ac _ hm;simp only[e,if_true,hin,F1]
  by_cases ha:(gt p.Stands s.stand).Accept=[]
  ·simp[ha]
  ·have:decide (((gt p.Stands s.stand).Accept.length:Int)>0)=true:=by have:=List.length_pos_iff.2 ha;simp;omega
   have hl:=i7 (body:=J0j F ⟨s.tags,s.to⟩ p s.at_ s.stand s.work s.regs) (gt p.Stands s.stand).Accept.length (fun j=>(((gt p.Stands s.stand).Accept.take j).map (a0n s.at_ s.regs),(j:Int))) ((gt p.Stands s.stand).Accept.map (a0n s.at_ s.regs)) (fun j hj=>by
    unfold J0j;have hn:=h.ac _ hm _ (K4 hj);have hv:=M0v (F:=F) ⟨⟨s.tags,s.to⟩,p,s.at_,s.stand,s.work,s.regs⟩ (gt (gt p.Stands s.stand).Accept (j:Int)) (by have:=hc.rl;show _\/_\/_/\_<(s.regs.length:Int);omega);have hap:∀z:Int,C1 8 (((gt p.Stands s.stand).Accept.take j).map (a0n s.at_ s.regs)) [z]=true:=fun z=>a7 (by simp;omega);simp only[q0,dec_lt hj,Y3,hj,hv,hap];rw[R2 (by omega),c0G _ _ hj]) (by unfold J0j;simp) (fu:=F) (by omega)
   simp only[take_zero,Int.natCast_zero,map_nil]at hl;simp only[q0,this,hl];rw[if_pos ⟨h1,ha⟩]
 ·have e:decide (s.stand>=0)=false:=by simpa using h1
  have e2:¬(0<=s.stand/\(gt p.Stands s.stand).Accept≠[]):=fun hh=>h1 hh.1;simp[e,e2]
def o0X {p:b0D}(h:Rd p){s:RS}{i:Nat}(hc:RI p s i)(hF:2000<F):E07 F (toR p s)=some (toR p (E0B p s)):=by
 have hst:=hc.st;unfold E07 E0B toR
 by_cases h1:0<=s.stand
 ·have e:decide (s.stand<0)=false:=by simpa using h1
  have hm:=c0l h1 hst.2;have hin:=B4 h1 hst.2;have hal:=h.sm.ac _ hm;simp only[q0,e,hin]
  by_cases ha:(gt p.Stands s.stand).Accept=[]
  ·simp[ha]
  ·have:(((gt p.Stands s.stand).Accept.length:Int)==0)=false:=by simp[ha]
   simp only[this,false_eq_true,if_false];have hl:=i7 (body:=I06 F ⟨p,s.at_,s.stand,s.regs,s.tags,s.to,!s.tags.isEmpty,s.work⟩) (gt p.Stands s.stand).Accept.length (fun j=>((j:Int),(p,s.at_,s.stand,s.regs,((gt p.Stands s.stand).Accept.take j).map (a0n s.at_ s.regs),s.to,!s.tags.isEmpty,s.work))) (p,s.at_,s.stand,s.regs,(gt p.Stands s.stand).Accept.map (a0n s.at_ s.regs),s.to,!s.tags.isEmpty,s.work) (fun j hj=>by
    have hn:=h.ac _ hm _ (K4 hj);have hap:∀z:Int,C1 8 (((gt p.Stands s.stand).Accept.take j).map (a0n s.at_ s.regs)) [z]=true:=fun z=>a7 (by simp;omega);unfold I06;simp only[dec_lt hj,Y3,hj,decide_true,if_true,hap];rw[R2 (by omega),c0G _ _ hj];have hr:=hc.rl;unfold a0n at hn ⊢;rcases hn with hn|hn|⟨g1,g2⟩
    ·simp[hn]
    ·simp[hn]
    ·have n1:¬gt (gt p.Stands s.stand).Accept (j:Int)=-1:=by omega
     have n2:¬gt (gt p.Stands s.stand).Accept (j:Int)=-2:=by omega
     have n3:(gt (gt p.Stands s.stand).Accept (j:Int)==-1)=false:=by simpa using n1
     have n4:(gt (gt p.Stands s.stand).Accept (j:Int)==-2)=false:=by simpa using n2
     simp only[q0,n1,n2,n3,n4,B4 g1 (show _<(s.regs.length:Int) by omega)]) (by
    unfold I06;simp) (fu:=F) (by omega)
   simp only[take_zero,Int.natCast_zero,map_nil]at hl;rw[hl,if_pos ⟨h1,ha⟩];have hne:((gt p.Stands s.stand).Accept.map (a0n s.at_ s.regs)).isEmpty=false:=by simp[ha]
   simp only[F1,hne,Bool.not_false]
 ·have e:decide (s.stand<0)=true:=by simp;omega
  have e2:¬(0<=s.stand/\(gt p.Stands s.stand).Accept≠[]):=fun hh=>h1 hh.1;simp[e,e2]
def P0A {p:b0D}(h:Rd p){s:RS}{i:Nat}(hc:RI p s i)(hi:i<=1000){b:Int}(hb:0<=b/\b<256)(hF:2000<F):J0a F (toA p s) b=some (toA p (E0M p s b)):=by
 have hst:=hc.st;have ha:=hc.a0;have hw0:=hc.w0;have hwk:s.work<=1201000:=by
  have h1:=hc.wk;have h2:=h.sm.rg;have h3:=h.r0;have:(i:Int)*(1+2*p.Regs)<=1000*1201:=Int.mul_le_mul (by omega) (by omega) (by omega) (by omega);omega
 have hacc:=M06 (F:=F) h (M0e h hc hb) hF;unfold E0M;unfold toA at hacc ⊢;unfold J0a
 by_cases h1:0<=s.stand
 ·obtain⟨i1,i2,hm,hx⟩:=M0j h hc hb h1;have e:decide (s.stand>=0)=true:=by simpa using h1
  have hin:=B4 h1 hst.2;have hln:=h.sm.mv _ hm _ hx;have hl:=i7 (body:=G0v F ⟨s.tags,s.to⟩ p s.at_ s.stand s.work (B0C p s b).Moves) (B0C p s b).Moves.length (fun j=>((j:Int),A0G s.at_ s.regs ((B0C p s b).Moves.take j))) (A0G s.at_ s.regs (B0C p s b).Moves) (fun j hj=>by
   unfold G0v;have hmv:=h.mv _ hm _ hx _ (K4 hj);have hlen:=D0F s.at_ ((B0C p s b).Moves.take j) s.regs;have hr:=hc.rl;have hv:=M0v (F:=F) ⟨⟨s.tags,s.to⟩,p,s.at_,s.stand,W (s.work+1),A0G s.at_ s.regs ((B0C p s b).Moves.take j)⟩ (gt (B0C p s b).Moves (j:Int)).From (by show _\/_\/_/\_<((A0G _ _ _).length:Int);omega);have hin2:y0 (A0G s.at_ s.regs ((B0C p s b).Moves.take j)) (gt (B0C p s b).Moves (j:Int)).To=true:=B4 hmv.1 (by omega);simp only[q0,dec_lt hj,Y3,hj,hv,hin2];rw[R2 (by omega),N0K _ _ _ hj]) (by unfold G0v;simp) (fu:=F) (by omega)
  simp only[take_zero,Int.natCast_zero]at hl;have hl:iter (G0v F ⟨s.tags,s.to⟩ p s.at_ s.stand s.work (gt (gt p.Stands s.stand).c0s (gt p.Class b)).Moves) F (0,s.regs)=some (A0G s.at_ s.regs (B0C p s b).Moves):=hl;have e1:W (s.work+1)=s.work+1:=c0R (by omega) (by omega);have e2:W (s.work+1+((B0C p s b).Moves.length:Int))=s.work+1+((B0C p s b).Moves.length:Int):=c0R (by omega) (by omega);have e2:W (s.work+1+((gt (gt p.Stands s.stand).c0s (gt p.Class b)).Moves.length:Int))=s.work+1+((B0C p s b).Moves.length:Int):=e2;have e3:W (s.at_+1)=s.at_+1:=c0R (by omega) (by omega);have hg:goS p s b={ s with at_:=s.at_+1,stand:=(B0C p s b).To,work:=s.work+1+((B0C p s b).Moves.length:Int),regs:=A0G s.at_ s.regs (B0C p s b).Moves }:=by unfold goS;rw[if_pos h1]
  rw[hg]at hacc ⊢;have hacc:G0j F (⟨s.tags,s.to⟩,p,s.at_+1,(gt (gt p.Stands s.stand).c0s (gt p.Class b)).To,s.work+1+((B0C p s b).Moves.length:Int),A0G s.at_ s.regs (B0C p s b).Moves)=_:=hacc;simp only[e,if_true,hin,i1,i2,hl,F1,e1,e2,e3,hacc]
 ·have e:decide (s.stand>=0)=false:=by simpa using h1
  have e1:W (s.work+1)=s.work+1:=c0R (by omega) (by omega);have e3:W (s.at_+1)=s.at_+1:=c0R (by omega) (by omega);have hg:goS p s b={ s with at_:=s.at_+1,work:=s.work+1 }:=by unfold goS;rw[if_neg h1]
  rw[hg]at hacc ⊢;simp only[q0,e,e1,e3,hacc]
def S0m {at_:Int}{regs:List Int}{l:List C0s}(hl:l.length<=1300)(hr:regs.length<=1000)(hm:∀m∈l,0<=m.To/\m.To<(regs.length:Int)/\-1<=m.From/\m.From<(regs.length:Int))(hF:2000<F):G0K F regs l at_=some (A0G at_ regs l):=by
 unfold G0K;have hap:C1 8 ([]:List Int) regs=true:=a7 (by simp;omega);have h:=i7 (body:=G0u F l at_) l.length (fun j=>((j:Int),A0G at_ regs (l.take j))) (A0G at_ regs l) (fun j hj=>by
  unfold G0u K0D;obtain⟨g1,g2,g3,g4⟩:=hm _ (K4 hj);have hlen:=D0F at_ (l.take j) regs;have e1:decide ((gt l (j:Int)).To<0)=false:=by simp;omega
  have e2:decide ((gt l (j:Int)).To>=((A0G at_ regs (l.take j)).length:Int))=false:=by simp;omega
  have e3:decide ((gt l (j:Int)).From>=((A0G at_ regs (l.take j)).length:Int))=false:=by simp;omega
  have e4:decide ((gt l (j:Int)).From < -1)=false:=by simp;omega
  have i1:y0 (A0G at_ regs (l.take j)) (gt l (j:Int)).To=true:=B4 g1 (by omega);simp only[q0,dec_lt hj,Y3,hj,or_some,e1,e2,e3,e4,Bool.or_false,i1];rw[R2 (by omega),N0K _ _ _ hj];unfold a0n
  by_cases h0:(gt l (j:Int)).From=-1
  ·simp[h0,i1]
  ·have n1:((gt l (j:Int)).From==-1)=false:=by simpa using h0
   have n2:¬(gt l (j:Int)).From=-2:=by omega
   have i2:y0 (A0G at_ regs (l.take j)) (gt l (j:Int)).From=true:=B4 (by omega) (by omega);simp only[q0,n1,h0,n2,i2,i1]) (by unfold G0u;simp) (fu:=F) (by omega)
 simp only[take_zero,Int.natCast_zero]at h;have h:iter (G0u F l at_) F (0,[]++regs)=some (A0G at_ regs l):=h;simp only[hap,if_true,h,F1]
def R0u {p:b0D}(h:Rd p){s:RS}{i:Nat}(hc:RI p s i)(hi:i<=1000){b:Int}(hb:0<=b/\b<256)(hF:2000<F):J0k F (toR p s) b=some (toR p (E0M p s b)):=by
 have hst:=hc.st;have ha:=hc.a0;have hw0:=hc.w0;have hwk:s.work<=1201000:=by
  have h1:=hc.wk;have h2:=h.sm.rg;have h3:=h.r0;have:(i:Int)*(1+2*p.Regs)<=1000*1201:=Int.mul_le_mul (by omega) (by omega) (by omega) (by omega);omega
 have hacc:=o0X (F:=F) h (M0e h hc hb) hF;have hbw:W b=b:=c0R (by omega) (by omega);unfold E0M;unfold toR at hacc ⊢;unfold J0k
 by_cases h1:0<=s.stand
 ·obtain⟨i1,i2,hm,hx⟩:=M0j h hc hb h1;have e:decide (s.stand>=0)=true:=by simpa using h1
  have hin:=B4 h1 hst.2;have hln:=h.sm.mv _ hm _ hx;have hr:=hc.rl;have hrg:=h.sm.rg;have hap:=S0m (F:=F) (at_:=s.at_) (regs:=s.regs) (l:=(B0C p s b).Moves) hln (by omega) (fun m hmm=>by have:=h.mv _ hm _ hx m hmm;omega) hF;have hap:G0K F s.regs (gt (gt p.Stands s.stand).c0s (gt p.Class b)).Moves s.at_=some (A0G s.at_ s.regs (B0C p s b).Moves):=hap;have e1:W (s.work+1)=s.work+1:=c0R (by omega) (by omega);have e2:W (s.work+1+((B0C p s b).Moves.length:Int))=s.work+1+((B0C p s b).Moves.length:Int):=c0R (by omega) (by omega);have e2:W (s.work+1+((gt (gt p.Stands s.stand).c0s (gt p.Class b)).Moves.length:Int))=s.work+1+((B0C p s b).Moves.length:Int):=e2;have e3:W (s.at_+1)=s.at_+1:=c0R (by omega) (by omega);have hg:goS p s b={ s with at_:=s.at_+1,stand:=(B0C p s b).To,work:=s.work+1+((B0C p s b).Moves.length:Int),regs:=A0G s.at_ s.regs (B0C p s b).Moves }:=by unfold goS;rw[if_pos h1]
  rw[hg]at hacc ⊢;have hacc:E07 F ⟨p,s.at_+1,(gt (gt p.Stands s.stand).c0s (gt p.Class b)).To,A0G s.at_ s.regs (B0C p s b).Moves,s.tags,s.to,!s.tags.isEmpty,s.work+1+((B0C p s b).Moves.length:Int)⟩=_:=hacc;simp only[e,if_true,hin,hbw,i1,i2,hap,F1,e1,e2,e3,hacc]
 ·have e:decide (s.stand>=0)=false:=by simpa using h1
  have e1:W (s.work+1)=s.work+1:=c0R (by omega) (by omega);have e3:W (s.at_+1)=s.at_+1:=c0R (by omega) (by omega);have hg:goS p s b={ s with at_:=s.at_+1,work:=s.work+1 }:=by unfold goS;rw[if_neg h1]
  rw[hg]at hacc ⊢;simp only[q0,e,e1,e3,hacc]
def d0c (s:List Int)(h:s.length<=1000000):D0G F s=some s:=by
 unfold D0G;rw[if_pos (a7 (by simp;omega))]
def U0v (s:List C0s)(h:s.length<=1000000):H00 F s=some s:=by
 unfold H00;rw[if_pos (a7 (by simp;omega))]
def Q0j (p:b0D)(hd:Sm p)(hF:2000<F):G06 F p=some p:=by
 have hcl:=hd.cl;have hst:=hd.st;unfold G06;rw[d0c p.Class (by omega)];simp only[F1,s6];have h:=i7 (body:=H04 F p) p.Stands.length (fun i=>((i:Int),(p.Tags,p.Regs,p.Class,p.Stands.take i))) (p.Tags,p.Regs,p.Class,p.Stands) (fun i hi=>by
  have hm:=K4 hi;have hac:=hd.ac _ hm;have hwy:=hd.wy _ hm;unfold H04;simp only[dec_lt hi,Y3,hi,decide_true,if_true];rw[d0c _ (by omega)];simp only[F1];have h:=i7 (body:=I0v F p (i:Int)) (gt p.Stands (i:Int)).c0s.length (fun j=>((j:Int),((gt p.Stands (i:Int)).Accept,(gt p.Stands (i:Int)).c0s.take j))) ((gt p.Stands (i:Int)).Accept,(gt p.Stands (i:Int)).c0s) (fun j hj=>by
   have hs:=hd.mv _ hm _ (K4 hj);unfold I0v;simp only[dec_lt hj,Y3,hj,decide_true,if_true];rw[U0v _ (by omega)];have ha:C1 32 ((gt p.Stands (i:Int)).c0s.take j) [(⟨(gt (gt p.Stands (i:Int)).c0s (j:Int)).To,(gt (gt p.Stands (i:Int)).c0s (j:Int)).Moves⟩:C0x)]=true:=a7 (by simp;omega);simp only[F1,ha,if_true];rw[R2 (by omega)];have:=c0G id (gt p.Stands (i:Int)).c0s hj;simp only[map_id,id]at this;rw[this]) (by unfold I0v;simp) (fu:=F) (by omega)
  simp only[take_zero,Int.natCast_zero]at h;simp only[h,F1];have ha:C1 48 (p.Stands.take i) [(⟨(gt p.Stands (i:Int)).Accept,(gt p.Stands (i:Int)).c0s⟩:C05)]=true:=a7 (by simp;omega);simp only[ha,if_true];rw[R2 (by omega)];have:=c0G id p.Stands hi;simp only[map_id,id]at this;rw[this]) (by unfold H04;simp) (fu:=F) (by omega)
 simp only[take_zero,Int.natCast_zero]at h;simp only[h,F1]
def M04 {p:b0D}(h:Rd p):S5 8 p.Regs=true:=by
 have h1:=h.r0;have h2:=h.sm.rg;unfold S5;simp;omega
def U0a {p:b0D}(hs:Sm p)(hr:C0Z p=true)(hF:2000<F):H0W F p=some (.inr (toA p (F0f p)),0):=by
 have h:=o8 hs hr;have hacc:=M06 (F:=F) h (K0j h) hF;unfold H0W;rw[O00 p hs hF,Q0j p hs hF];unfold toA at hacc;unfold F0f;simp only[q0,hr,M04 h,s6,hacc];rfl
def W0R {p:b0D}(hs:Sm p)(hr:C0Z p=true)(hF:2000<F):J0f F p=some (toR p (F0f p)):=by
 have h:=o8 hs hr;have hacc:=o0X (F:=F) h (K0j h) hF;unfold J0f;simp only[M04 h,if_true];have hacc:E07 F ⟨p,0,0,List.replicate p.Regs.toNat 0,[],0,false,0⟩=_:=hacc;rw[hacc];rfl
def a1U {p:b0D}(hs:Sm p)(hr:C0Z p=false)(hF:2000<F):H0W F p=some (.inl (),11):=by
 unfold H0W;rw[O00 p hs hF,hr];rfl
end Go.Proofs.YtmhooikfkhjijaaGreat.Pr
namespace Go.Proofs.YtmhooikfkhjijaaGreat.Old
open Go.V Go.RowKit
def Z4:List Int:=[0,0,0,0]
inductive Tm where
 |eps|leaf (s:List Int)|cat (a b:Tm)|alt (a b:Tm)|star (a:Tm)|maybe (a:Tm)|group (n:Int) (a:Tm)|iter (a:Tm)
def Tm.size:Tm->Nat
 |.eps=>1|.leaf _=>1|.cat a b=>a.size+b.size+1|.alt a b=>a.size+b.size+1
 |.star a=>a.size+1|.maybe a=>a.size+1|.group _ a=>a.size+1|.iter a=>a.size+1
def Tm.size_pos (t:Tm):0<t.size:=by cases t<;>simp[Tm.size]
def Tm.top (t:Tm)(lo:Nat):Nat:=lo+t.size-1
def Tm.node (lo:Nat):Tm->U0
 |.eps=>⟨1,-1,-1,0,Z4⟩
 |.leaf s=>⟨2,-1,-1,0,s⟩
 |.cat a b=>⟨3,(a.top lo:Int),(b.top (lo+a.size):Int),0,Z4⟩
 |.alt a b=>⟨4,(a.top lo:Int),(b.top (lo+a.size):Int),0,Z4⟩
 |.star a=>⟨5,(a.top lo:Int),-1,0,Z4⟩
 |.maybe a=>⟨6,(a.top lo:Int),-1,0,Z4⟩
 |.group n a=>⟨7,(a.top lo:Int),-1,n,Z4⟩
 |.iter a=>⟨8,(a.top lo:Int),-1,0,Z4⟩
def Tm.flat (lo:Nat):Tm->List U0
 |.eps=>[Tm.node lo .eps]
 |.leaf s=>[Tm.node lo (.leaf s)]
 |.cat a b=>a.flat lo++b.flat (lo+a.size)++[Tm.node lo (.cat a b)]
 |.alt a b=>a.flat lo++b.flat (lo+a.size)++[Tm.node lo (.alt a b)]
 |.star a=>a.flat lo++[Tm.node lo (.star a)]
 |.maybe a=>a.flat lo++[Tm.node lo (.maybe a)]
 |.group n a=>a.flat lo++[Tm.node lo (.group n a)]
 |.iter a=>a.flat lo++[Tm.node lo (.iter a)]
def Tm.j0D (t:Tm):∀lo,(t.flat lo).length=t.size:=by
 induction t<;>intro lo<;>simp[Tm.flat,Tm.size, *]<;>omega
def z03 (l:List U0)(a:List Int)(i:Nat):Int:=
 let x:=gt l (i:Int)
 if x.Kind=1\/x.Kind=2 then(if x.A=-1/\x.B=-1 then(i:Int)else -1)
 else if x.Kind=3\/x.Kind=4 then(if x.B=(i:Int)-1/\0<=x.B/\0<=x.A/\x.A=gt a x.B-1 then gt a x.A else -1)
 else if x.Kind=5\/x.Kind=6\/x.Kind=7\/x.Kind=8 then(if x.B=-1/\0<=x.A/\x.A=(i:Int)-1 then gt a x.A else -1)
 else -1
def G0Y (x:U0):Bool:=gt x.Set 0==0&&(gt x.Set 1==0&&(gt x.Set 2==0&&gt x.Set 3==0))
def D0f (x:U0):Bool:=(x.Kind==2||G0Y x)&&(if x.Kind==7 then decide (1<=x.N)&&decide (x.N<=9)else x.N==0)
def D0P (x:U0)(Y2:List U0):Bool:=x.Kind==7&&Y2.any fun y=>y.Kind==7&&y.N==x.N
def D0g (l:List U0)(a i:Nat):List U0:=(l.drop a).take (i-a)
def C0E (l:List U0)(a:List Int)(i:Nat):Bool:=decide (0<=z03 l a i)&&D0f (gt l (i:Int))&&!D0P (gt l (i:Int)) (D0g l (z03 l a i).toNat i)
def B0Q (l:List U0):Nat->Option (List Int)
 |0=>some []
 |
  i+1=>match B0Q l i with
  |none=>none
  |some a=>if C0E l a i then some (a++[z03 l a i])else none
def u5 (l:List U0):Nat->Nat
 |0=>0
 |i+1=>u5 l i+if(gt l (i:Int)).Kind=2 then 1 else 0
def D06 (l:List U0):∀i,u5 l i<=i
 |0=>Nat.le_refl _
 |i+1=>by have:=D06 l i;simp only[u5];split<;>omega
def A0i (l:List U0):List Int:=
 match B0Q l l.length with
 |none=>[]
 |some a=>if l.length=0\/400<l.length\/64<u5 l l.length\/gt a ((l.length:Int)-1)≠0 then[]else a
def e0M (l:List U0):Bool:=!(A0i l).isEmpty
structure F0o (a:List Int)(i:Nat):Prop where
 len:a.length=i
 rng:∀j:Nat,j<i->0<=gt a (j:Int)/\gt a (j:Int)<=j
def O0k {l:List U0}{a:List Int}{i:Nat}(h:F0o a i)(h0:0<=z03 l a i):z03 l a i<=i:=by
 have hr:∀z:Int,0<=z->z<i->gt a z<=z:=fun z h1 h2=>by
  have:=(h.rng z.toNat (by omega)).2
  rwa [show((z.toNat:Nat):Int)=z from by omega]at this
 have hr0:∀z:Int,0<=z->z<i->0<=gt a z:=fun z h1 h2=>by
  have:=(h.rng z.toNat (by omega)).1
  rwa [show((z.toNat:Nat):Int)=z from by omega]at this
 revert h0
 unfold z03;simp only;generalize gt l (i:Int)=x
 repeat' split
 all_goals intro h0
 all_goals first
  |omega
  |(rename_i h1;have a1:=hr x.A (by omega) (by first|omega|(have:=hr x.B (by omega) (by omega);omega));first|omega|(have:=hr x.B (by omega) (by omega);omega))
def F0o.snoc {l:List U0}{a:List Int}{i:Nat}(h:F0o a i)(h0:0<=z03 l a i):F0o (a++[z03 l a i]) (i+1):=by
 refine⟨by simp[h.len],fun j hj=>?_⟩
 by_cases e:j=i
 ·subst e;rw[F0L h.len.symm];exact⟨h0,O0k h h0⟩
 ·rw[z0U (by omega) (by rw[h.len];omega)];exact h.rng j (by omega)
def E0m {l:List U0}:∀{i:Nat} {a:List Int},B0Q l i=some a->F0o a i
 |0,a,h=>by simp[B0Q]at h;subst h;exact⟨rfl,fun j hj=>by omega⟩
 |
  i+1,a,h=>by
  simp only[B0Q]at h;split at h
  ·cases h
  ·rename_i b hb;split at h
   ·rename_i hg;cases h;simp only[C0E,and_eq_true,decide_eq_true_eq]at hg;exact(E0m hb).snoc hg.1.1
   ·cases h
def S0I {l:List U0}{a:List Int}{i:Nat}(fuel:Nat)(hi:i<l.length)(ha:F0o a i)(hb:i<4611686018427387904):p0i fuel l a (i:Int)=some (z03 l a i):=by
 have hin:y0 l (i:Int)=true:=B4 (by omega) (by omega);have hW:W ((i:Int)-1)=(i:Int)-1:=c0R (by omega) (by omega);have hr:∀z:Int,0<=z->z<i->gt a z<=z/\0<=gt a z:=fun z h1 h2=>by
  have:=ha.rng z.toNat (by omega)
  rwa [show((z.toNat:Nat):Int)=z from by omega,and_comm]at this
 have hl:=ha.len;unfold p0i z03;simp only[hin,if_true,hW];generalize gt l (i:Int)=x;have hia:∀z:Int,0<=z->z<i->y0 a z=true:=fun z h1 h2=>B4 h1 (by omega);have hWA:0<=x.B->x.B<i->W (gt a x.B-1)=gt a x.B-1:=fun h1 h2=>c0R (by have:=hr x.B h1 h2;omega) (by have:=hr x.B h1 h2;omega);obtain⟨k,A,B,N,S⟩:=x;simp only at hWA ⊢
 by_cases c1:k=1\/k=2
 ·have e1:((if(k==1)=true then some (k==1)else some (k==2)):Option Bool)=some true:=by rcases c1 with rfl|rfl<;>rfl
  simp only[e1,F1,if_true,c1]
  by_cases hA:A=-1<;>by_cases hB:B=-1<;>simp[hA,hB]
 ·have e1:((if(k==1)=true then some (k==1)else some (k==2)):Option Bool)=some false:=by
   have:¬k=1:=fun h=>c1 (.inl h);have:¬k=2:=fun h=>c1 (.inr h);simp[*]
  simp only[q0,e1,c1]
  by_cases c2:k=3\/k=4
  ·have e2:((if(k==3)=true then some (k==3)else some (k==4)):Option Bool)=some true:=by rcases c2 with rfl|rfl<;>rfl
   simp only[e2,F1,if_true,c2]
   by_cases hB:0<=B
   ·by_cases hB2:B=(i:Int)-1
    ·have h1i:(1:Int)<=(i:Int):=by omega
     have hib:=hia B hB (by omega);have hw:=hWA hB (by omega)
     by_cases hA:0<=A
     ·by_cases hA2:A=gt a B-1
      ·have:=hr B hB (by omega);have hiA:=hia A hA (by omega);simp only[ge_iff_le,hB,hB2,hA,decide_true,if_true,beq_self_eq_true]at *;simp only[hib,if_true,hw,F1,hA2,beq_self_eq_true];rw[<-hA2];simp only[hiA,if_true,F1];simp[h1i]
      ·simp only[ge_iff_le,hB,hB2,hA,decide_true,if_true,beq_self_eq_true]at *;simp[hib,hw,hA2,h1i]
     ·simp only[q0,ge_iff_le,hB,hB2,hA,beq_self_eq_true]at *;simp[hA]
    ·simp[hB,hB2]
   ·simp[hB]
  ·have e2:((if(k==3)=true then some (k==3)else some (k==4)):Option Bool)=some false:=by
    have:¬k=3:=fun h=>c2 (.inl h);have:¬k=4:=fun h=>c2 (.inr h);simp[*]
   simp only[q0,e2,c2]
   by_cases c3:k=5\/k=6\/k=7\/k=8
   ·have e3:((if(k==5)=true then some (k==5)else if(k==6)=true then some (k==6)else if(k==7)=true then some (k==7)else some (k==8)):Option Bool)=some true:=by rcases c3 with rfl|rfl|rfl|rfl<;>rfl
    simp only[e3,F1,if_true,c3]
    by_cases hB:B=-1
    ·by_cases hA:0<=A
     ·by_cases hA2:A=(i:Int)-1
      ·have hiA:=hia A hA (by omega);have h1i:(1:Int)<=(i:Int):=by omega
       simp only[ge_iff_le,hB,hA,hA2,decide_true,if_true,beq_self_eq_true]at *;simp[hiA,h1i]
      ·simp[hB,hA,hA2]
     ·simp[hB,hA]
    ·simp[hB]
   ·have e3:((if(k==5)=true then some (k==5)else if(k==6)=true then some (k==6)else if(k==7)=true then some (k==7)else some (k==8)):Option Bool)=some false:=by
     have:¬k=5:=fun h=>c3 (by simp[h]);have:¬k=6:=fun h=>c3 (by simp[h]);have:¬k=7:=fun h=>c3 (by simp[h]);have:¬k=8:=fun h=>c3 (by simp[h]);simp[*]
    simp only[q0,e3,c3]
def Q07 (fuel:Nat)(x:U0):m0O fuel x=some (D0f x):=by
 unfold m0O D0f G0Y
 grind
def P04 (fuel:Nat)(x:U0)(Y2:List U0)(hf:Y2.length<fuel)(hs:Y2.length<4611686018427387904):o01 fuel x Y2=some (D0P x Y2):=by
 have key:∀k i,i+k=Y2.length->∃t,iter (E0n fuel x Y2) (k+1) (i:Int)=some t/\(match t with|.inl _=>some false|.inr r=>some r)=some (x.Kind==7&&(Y2.drop i).any fun y=>y.Kind==7&&y.N==x.N):=by
  intro k
  induction k with
  |
   zero=>
   intro i hi;refine⟨.inl (),?_,?_⟩
   ·unfold iter E0n;have:¬((i:Int)<(Y2.length:Int)):=by omega
    simp[this]
   ·rw[List.drop_of_length_le (by omega)];simp
  |
   succ k ih=>
   intro i hi;have hlt:i<Y2.length:=by omega
   have hin:y0 Y2 (i:Int)=true:=B4 (by omega) (by omega);have hg:gt Y2 (i:Int)=Y2[i]:=Y5 (by simp[hlt]);have hd:Y2.drop i=Y2[i] :: Y2.drop (i+1):=List.drop_eq_getElem_cons hlt;have hd1:(i:Int)<(Y2.length:Int):=by omega
   by_cases hx:(x.Kind==7&&(Y2[i].Kind==7&&Y2[i].N==x.N))=true
   ·refine⟨.inr true,?_,?_⟩
    ·unfold iter E0n;simp only[hd1,decide_true,if_true,hin,hg]
     grind
    ·rw[hd];simp only[any_cons];grind
   ·obtain⟨t,h1,h2⟩:=ih (i+1) (by omega);refine⟨t,?_,?_⟩
    ·unfold iter;have:E0n fuel x Y2 (i:Int)=some (.next ((i+1:Nat):Int)):=by
      unfold E0n;simp only[hd1,decide_true,if_true,hin,hg,R2 (show i<9223372036854775807 by omega)]
      grind
     rw[this];exact h1
    ·rw[h2,hd];simp only[any_cons];grind
 obtain⟨t,h1,h2⟩:=key Y2.length 0 (by omega);have mono:iter (E0n fuel x Y2) fuel ((0:Nat):Int)=some t:=M0T h1 (by omega);unfold o01;rw[show(0:Int)=((0:Nat):Int)from rfl,mono];rw[List.drop_zero]at h2;cases t<;>simpa[D0P]using h2
