/- Cars: feeding; what they find. Spans; what is the same as itself. What can be reckoned, in place of models that cannot. What is sure of law 25. Runs of cars. Its conditions: none. -/
import Derived.Test.YtihmgaccbcfgjaaGreatQG40
import Derived.Test.YtihmgaccbcfgjaaGreatQMd
import Derived.Test.YtihmgaccbcfgjaaGreatQX15
open Bool (false_eq_true)
set_option linter.all false
namespace Go.Proofs.YtihmgaccbcfgjaaGreat
open Go.V Go.RowKit Go.X
variable {F:Nat}
theorem e0j {d:K0} (h:Rd d) {c:X0} {i:Nat} (hc:CI d c i) {b:Int} (hb:0<=b/\b<256) (h1:0<=c.state) :
  c.state<(d.States.length:Int)/\y0 d.Class b=true/\y0 (gt d.States c.state).Edges (gt d.Class b)=true/\gt d.States c.state∈d.States/\C2 d c b∈(gt d.States c.state).Edges/\(c.regs.length:Int)=(gt d.States c.state).Regs/\(C2 d c b).Src.length<=400/\e08 c.regs.length (C2 d c b).Src:=by
 obtain ⟨_,h2,h3⟩:0<=c.state/\c.state<(d.States.length:Int)/\(c.regs.length:Int)=(gt d.States c.state).Regs:=by
  rcases hc.st with h0 | h0
  ·omega
  ·exact h0
 have hm:=c0l h1 h2;have hbl:b<(d.Class.length:Int):=by rw [h.cl];omega
 obtain ⟨e1,e2⟩:=h.ed _ hm _ (c0l hb.1 hbl);have hx:=c0l e1 e2;refine ⟨h2,B4 hb.1 hbl,B4 e1 e2,hm,hx,h3,h.sm.sr _ hm _ hx,fun n hn=>?_⟩;rcases h.sr _ hm _ hx n hn with h0 | ⟨h0,h00⟩
 ·exact .inl h0
 ·exact .inr (.inr ⟨h0,by omega⟩)
theorem g05 {d:K0} (h:Rd d) {c:X0} {i:Nat} (hc:CI d c i) {b:Int} (hb:0<=b/\b<256):CI d (H6 d c b) (i+1):=by
 have hw:=hc.wk;have ha:=hc.at_;unfold H6
 by_cases h1:0<=c.state
 ·obtain ⟨h2,_,_,hm,hx,h3,h4,h5⟩:=e0j h hc hb h1;rw [if_pos h1];refine ⟨hc.d_,by show c.at_+1=_;omega,?_,by show (N2 _ _ _).length<=400;unfold N2;rw [List.length_map];exact h4,?_,hc.tl⟩
  ·show (C2 d c b).To=-1\/_;rcases h.to _ hm _ hx with ⟨h0,_⟩ | ⟨g1,g2,g3⟩
   ·exact .inl h0
   ·refine .inr ⟨g1,g2,?_⟩;show ((N2 _ _ _).length:Int)=_;unfold N2;rw [List.length_map];exact g3
  ·show _<=c.work+1+((C2 d c b).Src.length:Int)/\_;have:(((C2 d c b).Src.length:Nat):Int)<=400:=by omega
   constructor
   ·push_cast;omega
   ·show c.work+1+((C2 d c b).Src.length:Int)<=_
    push_cast;omega
 ·rw [if_neg h1];refine ⟨hc.d_,by show c.at_+1=_;omega,?_,hc.rl,?_,hc.tl⟩
  ·rcases hc.st with h0 | h0
   ·exact .inl h0
   ·omega
  ·show _<=c.work+1/\c.work+1<=_
   push_cast;omega
theorem u0m {d:K0} (h:Rd d) {c:X0} {i:Nat} (hc:CI d c i) {b:Int} (hb:0<=b/\b<256):CI d (I6 d c b) (i+1):=n0J h (g05 h hc hb)
theorem k0B {d:K0} (h:Rd d):CI d ⟨⟨[],0⟩,d,0,0,0,[]⟩ 0:=by
 refine ⟨rfl,rfl,.inr ⟨Int.le_refl _,?_,?_⟩,by simp,by simp,by simp⟩
 ·have:=h.pos;show (0:Int)<_;omega
 ·show ((([]:List Int).length:Nat):Int)=_;rw [h.r0];rfl
theorem w0h {d:K0} (h:Rd d):CI d (J7 d) 0:=n0J h (k0B h)
theorem f0a {d:K0} (h:Rd d) {c:X0} {i:Nat} (hc:CI d c i) (hi:i<=1000) {b:Int} (hb:0<=b/\b<256) (hF:2000<F):a0a F c b=some (I6 d c b):=by
 have hw:=hc.wk;have ha:=hc.at_;have hmc:=g05 h hc hb;have hacc:=p0s (F:=F) h hmc hF;unfold a0a I6;rw [hc.d_];rw [Q6 (n:=c.work+1) (by omega) (by omega)]
 by_cases h1:0<=c.state
 ·obtain ⟨h2,g1,g2,hm,hx,h3,h4,h5⟩:=e0j h hc hb h1;have e:decide (c.state>=0)=true:=by simpa using h1
  simp only [e,if_true,B4 h1 h2,g1,g2];have hx2:gt (gt d.States c.state).Edges (gt d.Class b)=C2 d c b:=rfl;have he:b0s F ⟨c.last,d,c.at_,c.state,c.work+1,c.regs⟩ (C2 d c b).Src=some (N2 c.at_ c.regs (C2 d c b).Src):=o08 (F:=F) ⟨c.last,d,c.at_,c.state,c.work+1,c.regs⟩ (C2 d c b).Src (by omega) h5 hF;rw [hx2,he];simp only [F1];have hlen:(N2 c.at_ c.regs (C2 d c b).Src).length=(C2 d c b).Src.length:=by unfold N2;rw [List.length_map]
  rw [hlen,Q6 (n:=c.work+1+_) (by omega) (by omega),Q6 (n:=c.at_+1) (by omega) (by omega)];have hmv:H6 d c b=⟨c.last,d,c.at_+1,(C2 d c b).To,c.work+1+((C2 d c b).Src.length:Int),N2 c.at_ c.regs (C2 d c b).Src⟩:=by
   unfold H6;rw [if_pos h1];obtain ⟨l,d0,a,s,w,r⟩:=c;obtain rfl:d0=d:=hc.d_;rfl
  rw [hmv] at hacc ⊢;rw [hacc];rfl
 ·have e:decide (c.state>=0)=false:=by simpa using h1
  simp only [e,false_eq_true,if_false,F1];rw [Q6 (n:=c.at_+1) (by omega) (by omega)];have hmv:H6 d c b=⟨c.last,d,c.at_+1,c.state,c.work+1,c.regs⟩:=by
   unfold H6;rw [if_neg h1];obtain ⟨l,d0,a,s,w,r⟩:=c;obtain rfl:d0=d:=hc.d_;rfl
  rw [hmv] at hacc ⊢;rw [hacc];rfl
theorem k0G {d:K0} (h:Rd d) {c:X0} {i:Nat} (hc:CI d c i) (hi:i<=1000) {b:Int} (hb:0<=b/\b<256) (hF:2000<F):d0d F (T3 c) b=some (T3 (I6 d c b)):=by
 have hw:=hc.wk;have ha:=hc.at_;have hmc:=g05 h hc hb;have hacc:=o0X (F:=F) h hmc hF;unfold d0d I6;have hd:=hc.d_;have e0:T3 c=⟨d,c.at_,c.state,c.regs,c.last.tags,c.last.to,!c.last.tags.isEmpty,c.work⟩:=by unfold T3;rw [hd]
 rw [e0];simp only;rw [Q6 (n:=c.work+1) (by omega) (by omega),Q6 (n:=b) hb.1 (by omega)]
 by_cases h1:0<=c.state
 ·obtain ⟨h2,g1,g2,hm,hx,h3,h4,h5⟩:=e0j h hc hb h1;have e:decide (c.state>=0)=true:=by simpa using h1
  simp only [e,if_true,B4 h1 h2,g1,g2];have hx2:gt (gt d.States c.state).Edges (gt d.Class b)=C2 d c b:=rfl;rw [hx2];have hsr:=h.sr _ hm _ hx;have hl:=i7 (body:=d0C F ⟨d,c.at_,c.state,c.regs,c.last.tags,c.last.to,!c.last.tags.isEmpty,c.work⟩ (C2 d c b)) (C2 d c b).Src.length (fun j=>(N2 c.at_ c.regs ((C2 d c b).Src.take j),(j:Int))) (N2 c.at_ c.regs (C2 d c b).Src) (fun j hj=>by
   have hn:=hsr _ (K4 hj);have hap:∀ z:Int,C1 8 (N2 c.at_ c.regs ((C2 d c b).Src.take j)) [z]=true:=fun z=>a7 (by simp [N2];omega);unfold d0C;simp only [dec_lt hj,Y3,hj,decide_true,if_true,hap];rw [R2 (by omega)];have hbl:=c0G (a0n c.at_ c.regs) (C2 d c b).Src hj;unfold N2;rw [hbl];unfold a0n at hn ⊢;rcases hn with hn | ⟨g1,g2⟩
   ·simp [hn]
   ·have n1:¬ gt (C2 d c b).Src (j:Int)=-1:=by omega
    have n2:¬ gt (C2 d c b).Src (j:Int)=-2:=by omega
    have n3:(gt (C2 d c b).Src (j:Int)==-1)=false:=by simpa using n1
    simp only [n1,n2,n3,false_eq_true,if_false,B4 g1 (show _<(c.regs.length:Int) by omega),if_true,F1]) (by
   unfold d0C;simp) (fu:=F) (by omega)
  simp only [List.take_zero,Int.natCast_zero] at hl;have hl:iter (d0C F ⟨d,c.at_,c.state,c.regs,c.last.tags,c.last.to,!c.last.tags.isEmpty,c.work⟩ (C2 d c b)) F ([],0)=some (N2 c.at_ c.regs (C2 d c b).Src):=hl;rw [hl];simp only [F1];have hlen:(N2 c.at_ c.regs (C2 d c b).Src).length=(C2 d c b).Src.length:=by unfold N2;rw [List.length_map]
  rw [hlen,Q6 (n:=c.work+1+_) (by omega) (by omega),Q6 (n:=c.at_+1) (by omega) (by omega)];have hmv:T3 (H6 d c b)=⟨d,c.at_+1,(C2 d c b).To,N2 c.at_ c.regs (C2 d c b).Src,c.last.tags,c.last.to,!c.last.tags.isEmpty,c.work+1+((C2 d c b).Src.length:Int)⟩:=by
   unfold H6 T3;rw [if_pos h1];simp only [hd]
  rw [hmv] at hacc;rw [hacc];rfl
 ·have e:decide (c.state>=0)=false:=by simpa using h1
  simp only [e,false_eq_true,if_false,F1];rw [Q6 (n:=c.at_+1) (by omega) (by omega)];have hmv:T3 (H6 d c b)=⟨d,c.at_+1,c.state,c.regs,c.last.tags,c.last.to,!c.last.tags.isEmpty,c.work+1⟩:=by
   unfold H6 T3;rw [if_neg h1];simp only [hd]
  rw [hmv] at hacc;rw [hacc];rfl
theorem j0x {d:K0} (hs:Sm d) (hF:2000<F):U7 F d=some (if U4 d then (.inr (J7 d),0) else (.inl (),11)):=by
 unfold U7;rw [q0R d hs hF];cases hr:U4 d
 ·simp
 ·have h:=o8 hs hr;simp only [F1,Bool.not_true,false_eq_true,if_false,if_true,s0w d hs hF];rw [p0s h (k0B h) hF];rfl
theorem n0b {d:K0} (h:Rd d) (hF:2000<F):b0x F d=some (T3 (J7 d)):=by
 unfold b0x;have:=o0X (F:=F) h (k0B h) hF;have e:T3 ⟨⟨[],0⟩,d,0,0,0,[]⟩=(⟨d,0,0,[],[],0,false,0⟩:P3):=rfl;rw [e] at this;rw [this];rfl
end Go.Proofs.YtihmgaccbcfgjaaGreat
namespace Go.Proofs.YtihmgaccbcfgjaaGreat
open Go.V Go.RowKit Go.X
theorem k0S {ρ:Type} {body:Int->Option (T0 Int ρ)} (n:Nat) (res:ρ) (hs:∀ i:Nat,i<n->body (i:Int)=some (.next ((i+1:Nat):Int))) (he:body (n:Int)=some (.done res)) {fu:Nat} (h:n<fu):iter body fu 0=some res:=
 i7 n (fun i=>(i:Int)) res hs he h
def Q7 (a b:Int):V1:=if a<0\/b<0 then ⟨-1,-1⟩ else ⟨a,b⟩
def z6 (tags:List Int) (to:Int):Nat->List V1
 |0=>[Q7 (gt tags 0) to]
 |k+1=>z6 tags to k++[Q7 (gt tags ((2*k+1:Nat):Int)) (gt tags ((2*k+2:Nat):Int))]
def a0h (tags:List Int) (to:Int):List V1:=if tags.length % 2=0 then [] else z6 tags to (tags.length / 2)
theorem g0k (tags:List Int) (to:Int):∀ k,(z6 tags to k).length=k+1
 |0=>rfl
 |k+1=>by simp [z6,g0k tags to k]
theorem i0L (n:Nat):Int.tmod (n:Int) 2=((n % 2:Nat):Int):=rfl
theorem t0T {tags:List Int} {to:Int} {fuel:Nat} (hl:tags.length<=1000) (hf:2000<fuel):b0E fuel tags to=some (a0h tags to):=by
 unfold b0E a0h;rw [i0L]
 by_cases c:tags.length % 2=0
 ·simp [c]
 have c':(((tags.length % 2:Nat):Int)==0)=false:=by rw [beq_eq_false_iff_ne];omega
 rw [if_neg c];simp only [c',false_eq_true,if_false];have hodd:tags.length % 2=1:=by omega
 have h:=i7 (body:=c0I fuel tags to) (fu:=fuel) tags.length (fun i=>((if i=0 then [] else z6 tags to (i / 2)),(i:Int))) (z6 tags to (tags.length / 2)) (fun i hi=>by
  have hin:y0 tags (i:Int)=true:=B4 (by omega) (by omega);have hd:(i:Int)<(tags.length:Int):=by omega
  unfold c0I;simp only [hd,decide_true,if_true,hin,R2 (show i<9223372036854775807 by omega),i0L,Nat.succ_ne_zero,if_false]
  by_cases c0:i=0
  ·subst c0;have e1:¬ ((0:Nat):Int)>0:=by omega
   by_cases n1:gt tags 0<0
   ·simp [n1,z6,Q7,a7]
   ·by_cases n2:to<0
    ·simp [n1,n2,z6,Q7,a7]
    ·simp [n1,n2,z6,Q7,a7]
  ·have e1:(i:Int)>0:=by omega
   simp only [e1,decide_true,if_true,F1,c0,if_false]
   by_cases c2:i % 2=0
   ·have c2':(((i % 2:Nat):Int)==0)=true:=by simp [c2]
    have e2:(i+1) / 2=i / 2:=by omega
    simp only [c2',if_true,F1,e2]
   ·have c2':(((i % 2:Nat):Int)==0)=false:=by rw [beq_eq_false_iff_ne];omega
    have hin2:y0 tags ((i+1:Nat):Int)=true:=B4 (by omega) (by omega);have e2:(i+1) / 2=i / 2+1:=by omega
    have e3:2*(i / 2)+1=i:=by omega
    have e4:2*(i / 2)+2=i+1:=by omega
    have hap:∀ y,C1 16 (z6 tags to (i / 2)) [y]=true:=fun y=>a7 (by rw [g0k];simp;omega);simp only [c2',false_eq_true,if_false,hin2,if_true,e2,z6,e3,e4]
    by_cases n1:gt tags (i:Int)<0
    ·simp [n1,Q7,hap]
    ·by_cases n2:gt tags ((i+1:Nat):Int)<0
     ·simp only [n1,n2,decide_false,decide_true,false_eq_true,if_false,if_true,F1,hap,Q7,or_true]
     ·simp only [n1,n2,decide_false,false_eq_true,if_false,if_true,F1,hap,Q7,or_self]) (by
  unfold c0I;have:¬ tags.length=0:=by omega
  simp [this]) (by omega)
 have h0:iter (c0I fuel tags to) fuel (([]:List V1),0)=some (z6 tags to (tags.length / 2)):=h;rw [h0];rfl
theorem m0S {a b:Int} {fuel:Nat}:c0Y fuel a b=some (Q7 a b):=by
 unfold c0Y Q7
 by_cases n1:a<0
 ·simp [n1]
 ·by_cases n2:b<0
  ·simp [n1,n2]
  ·simp [n1,n2]
theorem x0B {tags:List Int} {to:Int} {fuel:Nat} (hl:tags.length<=1000) (hf:2000<fuel):d0Y fuel tags to=some (a0h tags to):=by
 unfold d0Y a0h;rw [i0L]
 by_cases c:tags.length % 2=0
 ·simp [c]
 have c':(((tags.length % 2:Nat):Int)==0)=false:=by rw [beq_eq_false_iff_ne];omega
 have hin0:y0 tags 0=true:=B4 (by omega) (by omega);rw [if_neg c];simp only [c',false_eq_true,if_false,hin0,if_true,m0S,F1];have h:=i7 (body:=c0B fuel tags) (fu:=fuel) (tags.length / 2) (fun k=>(z6 tags to k,((2*k+1:Nat):Int))) (z6 tags to (tags.length / 2)) (fun k hk=>by
  have hin:y0 tags ((2*k+1:Nat):Int)=true:=B4 (by omega) (by omega);have hin2:y0 tags ((2*k+1+1:Nat):Int)=true:=B4 (by omega) (by omega);have hd:((2*k+1+1:Nat):Int)<(tags.length:Int):=by omega
  have e:W (((2*k+1:Nat):Int)+2)=((2*(k+1)+1:Nat):Int):=by rw [c0R (by omega) (by omega)];omega
  unfold c0B;simp only [R2 (show 2*k+1<9223372036854775807 by omega),hd,decide_true,if_true,hin,hin2,m0S,F1,e];rw [if_pos (a7 (by rw [g0k];simp;omega))];rfl) (by
  have hd:¬ ((2*(tags.length / 2)+1+1:Nat):Int)<(tags.length:Int):=by omega
  unfold c0B;simp only [R2 (show 2*(tags.length / 2)+1<9223372036854775807 by omega),hd,decide_false,false_eq_true,if_false]) (by omega)
 have h0:iter (c0B fuel tags) fuel ([Q7 (gt tags 0) to],1)=some (z6 tags to (tags.length / 2)):=h;rw [h0];rfl
theorem l0a (tags:List Int) (to:Int) (h:tags.length<=1000):(a0h tags to).length<=1000:=by
 unfold a0h;split
 ·simp
 ·rw [g0k];omega
theorem i00 {a:List V1} {fuel:Nat} (hl:a.length<=1000) (hf:2000<fuel):H9 fuel a a=some true:=by
 unfold H9;have h:=k0S (body:=e00 fuel a a) (fu:=fuel) a.length (.inr ()) (fun i hi=>by
  have hin:y0 a (i:Int)=true:=B4 (by omega) (by omega);have hd:(i:Int)<(a.length:Int):=by omega
  unfold e00;simp [hd,hin,R2 (show i<9223372036854775807 by omega)]) (by unfold e00;simp) (by omega)
 simp [h]
theorem o0T {F:Nat} {x:List Int} (h:x.length<=1000) (hf:2000<F):d0l F x x=some true:=by
 unfold d0l;simp only [bne_self_eq_false,false_eq_true,if_false];rw [k0S (body:=e0u F x x) x.length (.inr ()) (fun i hi=>by
  unfold e0u;simp only [dec_lt hi,Y3,hi,decide_true,if_true,bne_self_eq_false,false_eq_true,if_false];rw [R2 (by omega)]) (by unfold e0u;simp) (by omega)]
 rfl
end Go.Proofs.YtihmgaccbcfgjaaGreat
set_option maxRecDepth 100000
noncomputable section
namespace Go.Proofs.YtihmgaccbcfgjaaGreat
open Go.V Go.RowKit Go.X
theorem B7 {α β:Type} (x:Option (α×β)):(Option.bind x fun p=>some (p.1,p.2))=x:=by cases x<;>rfl
def i0v (F:Nat):((List U0)×Int×(List Int)×(List I1))->I1->Int->Option (L2×((List U0)×Int×(List Int)×(List I1)))
 |(l,mode,least,states),k,c=>
 if y0 least c then
  Option.bind (α:=(I1×(List Int))) (
   (
   Option.bind (g0p F l mode k (gt least c)) fun (next_,next_2)=>
   some (next_,next_2))) fun (next_5,src)=>
  Option.bind (α:=Bool) (
   if (next_5.Places.length:Int)==0 then
    some (next_5.Flag==0)
   else
    some false) fun x=>
  if x then
   some ((⟨(-1),[]⟩:L2),(l,mode,least,states))
  else
   Option.bind (α:=Int) (
    Option.bind (α:=(Int ⊕ Unit)) (
     iter (o0k F states next_5) F 0) fun z_=>match z_ with
    |
     .inl x3=>
     some x3
    |
     .inr _=>
     some (-1)) fun i=>
   Option.bind (α:=(Int×((List U0)×Int×(List Int)×(List I1)))) (
    if decide (i<0) then
     if C1 104 states [next_5] then
      some ((states.length:Int),(l,mode,least,states++[next_5]))
     else none
    else
     some (i,(l,mode,least,states))) fun (i2,(l2,mode2,least2,states2))=>
   some ((⟨i2,src⟩:L2),(l2,mode2,least2,states2))
 else none
theorem s0j:g0j=i0v:=by
 funext x0;unfold g0j i0v;simp only [s6,B7]<;>rfl
def j0y (F:Nat) (least:(List Int)) (k:I1) (d:(Int×((List U0)×Int×(List Int)×(List I1))×(Int×(List Int)×(List L2)))):Option (T0 (Int×((List U0)×Int×(List Int)×(List I1))×(Int×(List Int)×(List L2))) (((List U0)×Int×(List Int)×(List I1))×(Int×(List Int)×(List L2)))):=
 match d with
 |(x,(l2,mode2,least2,states2),(Regs3,Accept3,Edges))=>
 if decide (x<(least.length:Int)) then
  Option.bind (i0v F (l2,mode2,least2,states2) k x) fun (edge,(l3,mode3,least3,states3))=>
  if C1 32 Edges [edge] then
   some (.next (W (x+1),(l3,mode3,least3,states3),(Regs3,Accept3,Edges++[edge])))
  else none
 else
  some (.done ((l2,mode2,least2,states2),(Regs3,Accept3,Edges)))
theorem s0i:g0S=j0y:=by
 funext x0 x1 x2 x3;unfold g0S j0y;simp only [s6,B7,s0j]<;>rfl
def i0h (F:Nat):((List U0)×Int×(List Int)×(List I1))->I1->Option (Z1×((List U0)×Int×(List Int)×(List I1)))
 |(l,mode,least,states),k=>
 Option.bind (α:=(Int×(List Int))) (
  (
  Option.bind (g0c F k) fun regs=>
  Option.bind (α:=(Int×(List Int))) (
   (
   Option.bind (d0P F l k) fun accept=>
   some (regs,accept))) fun (Regs,Accept)=>
  some (Regs,Accept))) fun (Regs2,Accept2)=>
 Option.bind (α:=(((List U0)×Int×(List Int)×(List I1))×(Int×(List Int)×(List L2)))) (
  iter (j0y F least k) F (0,(l,mode,least,states),(Regs2,Accept2,[]))) fun ((l4,mode4,least4,states4),(Regs4,Accept4,Edges2))=>
 some ((⟨Regs4,Accept4,Edges2⟩:Z1),(l4,mode4,least4,states4))
theorem q0B:d09=i0h:=by
 funext x0;unfold d09 i0h;simp only [s6,B7,s0i]<;>rfl
def h0K (F:Nat) (budget:Int) (d:(Int×((List U0)×Int×(List Int)×(List I1))×(Int×(List Int)×(List Z1)))):Option (T0 (Int×((List U0)×Int×(List Int)×(List I1))×(Int×(List Int)×(List Z1))) ((Int×K0) ⊕ (Int×(List Int)×(List Z1)))):=
 match d with
 |(i2,(l3,mode3,least3,states2),(Tags,Class,States))=>
 if decide (i2<(states2.length:Int)) then
  let x:=decide ((states2.length:Int)>(if 400<budget then 400 else budget))
  if x then
   some (.done (.inl (14,(⟨0,[],[]⟩:K0))))
  else
   if y0 states2 i2 then
    Option.bind (i0h F (l3,mode3,least3,states2) (gt states2 i2)) fun (state,(l4,mode4,least4,states3))=>
    if C1 56 States [state] then
     some (.next (W (i2+1),(l4,mode4,least4,states3),(Tags,Class,States++[state])))
    else none
   else none
 else
  some (.done (.inr (Tags,Class,States)))
theorem x0G:h0T=h0K:=by
 funext x0 x1 x2;unfold h0T h0K;simp only [s6,B7,q0B]<;>rfl
def h0m (F:Nat) (l:(List U0)) (mode:Int) (budget:Int):Option (K0×Int):=
 Option.bind (g0R F l mode) fun (begin,begin2)=>
 if begin2 != 0 then
  some ((⟨0,[],[]⟩:K0),begin2)
 else
  Option.bind (j0A F l) fun (term,term2)=>
  Option.bind (c0m F term) fun least=>
  Option.bind (α:=Unit) (
   iter (p0r F) F ()) fun _=>
  Option.bind (α:=(Int×((List U0)×Int×(List Int)×(List I1)))) (
   if decide ((-1)<0) then
    if C1 104 ([]:List I1) [begin] then
     some (0,(l,mode,least,[]++[begin]))
    else none
   else
    some ((-1),(l,mode,least,[]))) fun (i,(l2,mode2,least2,states))=>
  Option.bind (c08 F l) fun tags=>
  Option.bind (α:=((Int×K0) ⊕ (Int×(List Int)×(List Z1)))) (
   iter (h0K F budget) F (0,(l2,mode2,least2,states),(tags,term,[]))) fun z_=>match z_ with
  |
   .inl (x2,y)=>
   some (y,x2)
  |
   .inr (Tags2,Class2,States2)=>
   some ((⟨Tags2,Class2,States2⟩:K0),0)
theorem y0c:e0Q=h0m:=by
 funext x0 x1 x2 x3;unfold e0Q h0m;simp only [s6,B7,x0G]<;>rfl
def i09 (F:Nat) (d_:K0) (d:(Int×(Int×(List Int)×(List Z1)))):Option (T0 (Int×(Int×(List Int)×(List Z1))) (Int×(List Int)×(List Z1))):=
 match d with
 |(x,(Tags2,Class2,States))=>
 if decide (x<(d_.States.length:Int)) then
  if y0 d_.States x then
   Option.bind (α:=(Int×(List Int))) (
    (
    Option.bind (K6 F ((gt d_.States x).Accept)) fun clone3=>
    some ((gt d_.States x).Regs,clone3))) fun (Regs,Accept)=>
   Option.bind (α:=(Int×(List Int)×(List L2))) (
    iter (c0M F d_ x) F (0,(Regs,Accept,[]))) fun (Regs3,Accept3,Edges2)=>
   if C1 56 States [(⟨Regs3,Accept3,Edges2⟩:Z1)] then
    let l2:=States++[(⟨Regs3,Accept3,Edges2⟩:Z1)]
    some (.next (W (x+1),(Tags2,Class2,l2)))
   else none
  else none
 else
  some (.done (Tags2,Class2,States))
theorem x0E:b0F=i09:=by
 funext x0 x1 x2;unfold b0F i09;simp only [s6,B7]<;>rfl
def h0q (F:Nat) (d_:K0):Option K0:=
 Option.bind (α:=(Int×(List Int))) (
  (
  Option.bind (K6 F d_.Class) fun clone=>
  some (d_.Tags,clone))) fun (Tags,Class)=>
 Option.bind (α:=(Int×(List Int)×(List Z1))) (
  iter (i09 F d_) F (0,(Tags,Class,[]))) fun (Tags3,Class3,States2)=>
 some (⟨Tags3,Class3,States2⟩:K0)
theorem y04:b0l=h0q:=by
 funext x0 x1;unfold b0l h0q;simp only [s6,B7,x0E]<;>rfl
def g0n (F:Nat) (d_:K0):Option ((Unit ⊕ X0)×Int):=
 Option.bind (d0z F d_) fun right=>
 if !right then
  some ((.inl ()),11)
 else
  Option.bind (h0q F d_) fun own=>
  Option.bind (b05 F (⟨(⟨[],0⟩:P7),own,0,0,0,[]⟩:X0)) fun b0=>
  some ((.inr b0),0)
theorem l0g:U7=g0n:=by
 funext x0 x1;unfold U7 g0n;simp only [s6,B7,y04]<;>rfl
def f0m (F:Nat) (d_:K0) (w:(List Int)):Option ((Unit ⊕ X0)×Int):=
 Option.bind (α:=((Unit ⊕ X0)×Int)) (
  Option.bind (g0n F d_) fun (new,new3)=>
  match new with
  |
   .inl _=>
   some ((.inl ()),new3)
  |
   .inr new2=>
   some ((.inr new2),new3)) fun (c,e)=>
 match c with
 |
  .inl _=>
  if e != 0 then
   some ((.inl ()),e)
  else
   none
 |
  .inr c2=>
  if e != 0 then
   some ((.inl ()),e)
  else
   Option.bind (α:=X0) (
    iter (b03 F w) F (0,c2)) fun y2=>
   some ((.inr y2),0)
theorem m0N:a0v=f0m:=by
 funext x0 x1 x2;unfold a0v f0m;simp only [s6,B7,l0g]<;>rfl
def i0I (F:Nat) (d_:K0) (w:(List Int)):Option ((List V1)×Int):=
 Option.bind (α:=((Unit ⊕ X0)×Int)) (
  Option.bind (f0m F d_ w) fun (run,run3)=>
  match run with
  |
   .inl _=>
   some ((.inl ()),run3)
  |
   .inr run2=>
   some ((.inr run2),run3)) fun (c,e)=>
 match c with
 |
  .inl _=>
  if e != 0 then
   some ([],e)
  else
   none
 |
  .inr c2=>
  if e != 0 then
   some ([],e)
  else
   Option.bind (a07 F c2) fun (answer,answer2)=>
   some (answer,answer2)
theorem r0H:a06=i0I:=by
 funext x0 x1 x2;unfold a06 i0I;simp only [s6,B7,m0N]<;>rfl
def g0K (F:Nat) (d_:K0) (w:(List Int)):Option ((List V1)×Int):=
 Option.bind (α:=((Unit ⊕ X0)×Int)) (
  Option.bind (f0m F d_ w) fun (run,run3)=>
  match run with
  |
   .inl _=>
   some ((.inl ()),run3)
  |
   .inr run2=>
   some ((.inr run2),run3)) fun (c,e)=>
 match c with
 |
  .inl _=>
  if e != 0 then
   some ([],e)
  else
   none
 |
  .inr c2=>
  if e != 0 then
   some ([],e)
  else
   Option.bind (b0z F c2) fun accept=>
   if !accept then
    some ([],7)
   else
    Option.bind (a07 F c2) fun (answer,answer2)=>
    some (answer,answer2)
theorem u0I:a0Y=g0K:=by
 funext x0 x1 x2;unfold a0Y g0K;simp only [s6,B7,m0N]<;>rfl
def l0Y (F:Nat):Option Bool:=
 Option.bind (j01 F) fun star=>
 Option.bind (h0m F star 0 9) fun (build,build2)=>
 if !([97,97,98]:List Int).isEmpty then
  Option.bind (i0I F build [97,97,98]) fun (search,search2)=>
  if !([97,97,98]:List Int).isEmpty then
   Option.bind (g0K F build [97,97,98]) fun (match_,match_2)=>
   Option.bind (α:=Int) (
    Option.bind (g0n F (⟨0,[],[]⟩:K0)) fun (new,new3)=>
    match new with
    |
     .inl _=>
     some new3
    |
     .inr new2=>
     some new3) fun g=>
   Option.bind (α:=Bool) (
    if search2==0 then
     Option.bind (H9 F search [(⟨0,2⟩:V1)]) fun spanne=>
     some spanne
    else
     some false) fun x=>
   Option.bind (α:=Bool) (
    if x then
     some (match_2==7)
    else
     some false) fun x2=>
   Option.bind (α:=Bool) (
    if x2 then
     some (g==11)
    else
     some false) fun x3=>
   some x3
  else none
 else none
theorem r0F:j7=l0Y:=by
 funext x0;unfold j7 l0Y;simp only [s6,B7,y0c,l0g,r0H,u0I]<;>rfl
end Go.Proofs.YtihmgaccbcfgjaaGreat
end
namespace Go.Proofs.YtihmgaccbcfgjaaGreat
open Go.V Go.RowKit Go.X
abbrev Fb:Nat:=10000000000000
theorem z7:j7 Fb=some true:=by rw [r0F];kernel_rfl
variable {F:Nat}
theorem f0v {p:List Int} (h:V4 en 20 (.list (.int .u8)) p):∀ x∈p,0<=x/\x<256:=fun x hx=>by
 have h1:inK .u8 x:=h x hx;simp [inK,IntKind.min,IntKind.max,IntKind.bits,IntKind.signed] at h1;omega
def w9 (c:X0):List V1×Bool:=if c.last.tags.isEmpty then ([],false) else (a0h c.last.tags c.last.to,true)
theorem o0G {c:X0} (h:c.last.tags.length<=40) (hF:2000<F):(if (c.last.tags.length:Int)==0 then some (([]:List V1),false) else Option.bind (b0E F c.last.tags c.last.to) fun spans=>some (spans,true))=some (w9 c):=by
 unfold w9;cases ht:c.last.tags with
 |nil=>rfl
 |
  cons x r=>
  have:(((x :: r).length:Nat):Int)≠0:=by simp;omega
  have e:(((x :: r).length:Int)==0)=false:=by simpa using this
  rw [t0T (by rw [<-ht];omega) hF];simp only [e,false_eq_true,if_false,List.isEmpty_cons,F1]
theorem g0V {c:X0} (h:c.last.tags.length<=40) (hF:2000<F):b0o F (T3 c)=some (w9 c):=by
 unfold b0o w9 T3;cases ht:c.last.tags with
 |nil=>rfl
 |
  cons x r=>
  simp only [List.isEmpty_cons,Bool.not_false,Bool.not_true,false_eq_true,if_false];rw [x0B (by rw [<-ht];omega) hF];rfl
def G1 (d:K0) (w:List Int) (i:Nat):X0:=(w.take i).foldl (I6 d) (J7 d)
theorem b0L (d:K0) (w:List Int) {i:Nat} (h:i<w.length):G1 d w (i+1)=I6 d (G1 d w i) (gt w (i:Int)):=by
 have:w[i]?=some (gt w (i:Int)):=by rw [Y5 (x:=w[i]) (by simp [h])];simp [h]
 unfold G1;rw [List.take_succ,this,List.foldl_append];rfl
theorem t0A (d:K0) (w:List Int):G1 d w (w.length+1)=G1 d w w.length:=by
 unfold G1;rw [List.take_of_length_le (by omega),List.take_of_length_le (by omega)]
theorem T6 {d:K0} (h:Rd d) {w:List Int} (hw:∀ x∈w,0<=x/\x<256):∀ i,i<=w.length->CI d (G1 d w i) i
 |0,_=>w0h h
 |i+1,hi=>by rw [b0L d w (by omega)];exact u0m h (T6 h hw i (by omega)) (hw _ (K4 (by omega)))
theorem t0D {c:X0} (h:c.last.tags.length<=40):(w9 c).1.length<=1000:=by
 unfold w9;split
 ·simp
 ·exact l0a _ _ (by omega)
