/- P. Its conditions: none. -/
import Derived.Test.YtihmgaccbcfgjaaGreatRG45
import Derived.Test.YtihmgaccbcfgjaaGreatRG39
import Derived.Test.YtihmgaccbcfgjaaGreatRG37
import Derived.Test.YtihmgaccbcfgjaaGreatRMd
import Derived.Test.YtihmgaccbcfgjaaGreatRG38
import Derived.Test.YtihmgaccbcfgjaaGreatRX15
open Bool (and_eq_true false_eq_true)
open List (all_eq_true map_id take_zero length_map)
set_option linter.all false
namespace Go.Proofs.YtihmgaccbcfgjaaGreat
open Go.V Go.RowKit Go.X
variable {F:Nat}
def J0y (d:Y1):Bool:=decide (d.States.length<=60)&&decide (d.Class.length<=300)&&
 d.States.all fun s=>decide (s.Accept.length<=40)&&decide (s.Edges.length<=300)&&decide (s.Regs<=400)&&s.Edges.all fun x=>decide (x.Src.length<=400)
def Q0c {d:Y1}(h:J0y d=true):Sm d:=by
 unfold J0y at h;simp only[and_eq_true,decide_eq_true_eq,all_eq_true]at h;obtain⟨⟨h1,b⟩,a⟩:=h;exact⟨Nat.le_trans h1 O',b,fun s hs=>(a s hs).1.1.1,fun s hs=>(a s hs).1.1.2,fun s hs=>(a s hs).1.2,fun s hs=>(a s hs).2⟩
def P0O (d:Y1)(f:2000<F):L0p F d=some (J0y d):=by
 unfold L0p J0y
 by_cases h1:d.States.length<=60
 ·have a:decide ((d.States.length:Int)>60)=false:=by simp;omega
  by_cases e:d.Class.length<=300
  ·have b:decide ((d.Class.length:Int)>300)=false:=by simp;omega
   obtain⟨k,hk⟩:=c0H (body:=K03 F d) d.States (fun s=>decide (s.Accept.length<=40)&&decide (s.Edges.length<=300)&&decide (s.Regs<=400)&&s.Edges.all fun x=>decide (x.Src.length<=400)) (.inr ()) (fun _=>.inl ()) (fun i hi=>by
    have hm:=b0x hi;unfold K03;simp only[dec_lt hi,Y7,hi,decide_true,if_true]
    by_cases g1:(gt d.States (i:Int)).Accept.length<=40
    ·have f1:decide (((gt d.States (i:Int)).Accept.length:Int)>40)=false:=by simp;omega
     by_cases g2:(gt d.States (i:Int)).Edges.length<=300
     ·have f2:decide (((gt d.States (i:Int)).Edges.length:Int)>300)=false:=by simp;omega
      by_cases g3:(gt d.States (i:Int)).Regs<=400
      ·have f3:decide ((gt d.States (i:Int)).Regs>400)=false:=by simp;omega
       obtain⟨k,hk⟩:=c0H (body:=K0X F d (i:Int)) (gt d.States (i:Int)).Edges (fun x=>decide (x.Src.length<=400)) (Sum.inr ()) (fun _=>Sum.inl ()) (fun j c=>by
        unfold K0X;simp only[dec_lt c,Y7,c,decide_true,if_true]
        by_cases g4:(gt (gt d.States (i:Int)).Edges (j:Int)).Src.length<=400
        ·have f4:decide (((gt (gt d.States (i:Int)).Edges (j:Int)).Src.length:Int)>400)=false:=by simp;omega
         simp only[q0,f4,g4];rw[Go.V.X1 O']
        ·have f4:decide (((gt (gt d.States (i:Int)).Edges (j:Int)).Src.length:Int)>400)=true:=by simp;omega
         simp[f4,g4]) (by unfold K0X;simp) (fu:=F) O'
       simp only[q0,f1,f2,f3,g1,g2,g3,hk,Bool.true_and];cases(gt d.States (i:Int)).Edges.all fun x=>decide (x.Src.length<=400)
       ·simp
       ·simp only[if_true];rw[Go.V.X1 O']
      ·have f3:decide ((gt d.States (i:Int)).Regs>400)=true:=by simp;omega
       simp[f1,f2,f3,g3]
     ·have f2:decide (((gt d.States (i:Int)).Edges.length:Int)>300)=true:=by simp;omega
      simp[f1,f2,g2]
    ·have f1:decide (((gt d.States (i:Int)).Accept.length:Int)>40)=true:=by simp;omega
     simp[f1,g1]) (by unfold K03;simp) (fu:=F) O'
   simp only[q0,a,b,h1,e,hk,Bool.true_and];cases d.States.all fun s=>decide (s.Accept.length<=40)&&decide (s.Edges.length<=300)&&decide (s.Regs<=400)&&s.Edges.all fun x=>decide (x.Src.length<=400)<;>rfl
  ·have b:decide ((d.Class.length:Int)>300)=true:=by simp;omega
   simp[a,b,e]
 ·have a:decide ((d.States.length:Int)>60)=true:=by simp;omega
  simp[a,h1]
def L0s (s:List Int)(h:s.length<=1000000):j0u F s=some s:=by
 unfold j0u;rw[if_pos (B4 V')]
def O0F (d:Y1)(hd:Sm d)(g:2000<F):J0C F d=some d:=by
 have e:=hd.cl;have f:=hd.st;unfold J0C;rw[L0s d.Class O'];simp only[G0,c0V];have h:=j0i (body:=s0I F d) d.States.length (fun i=>((i:Int),(d.Tags,d.Class,d.States.take i))) (d.Tags,d.Class,d.States) (fun i hi=>by
  have hm:=b0x hi;have c:=hd.ac _ hm;have b:=hd.ed _ hm;unfold s0I;simp only[dec_lt hi,Y7,hi,decide_true,if_true];rw[L0s _ O'];simp only[G0,c0V];have h:=j0i (body:=J0T F d (i:Int)) (gt d.States (i:Int)).Edges.length (fun j=>((j:Int),((gt d.States (i:Int)).Regs,(gt d.States (i:Int)).Accept,(gt d.States (i:Int)).Edges.take j))) ((gt d.States (i:Int)).Regs,(gt d.States (i:Int)).Accept,(gt d.States (i:Int)).Edges) (fun j a=>by
   have hs:=hd.sr _ hm _ (b0x a);unfold J0T;simp only[dec_lt a,Y7,a,decide_true,if_true];rw[L0s _ O'];have ha:K0 32 ((gt d.States (i:Int)).Edges.take j) [(⟨(gt (gt d.States (i:Int)).Edges (j:Int)).To,(gt (gt d.States (i:Int)).Edges (j:Int)).Src⟩:H4)]=true:=B4 V';simp only[G0,ha,if_true];rw[Go.V.X1 O'];have:=J0W id (gt d.States (i:Int)).Edges a;simp only[map_id,id]at this;rw[this]) (by unfold J0T;simp) (fu:=F) O'
  simp only[take_zero,Int.natCast_zero]at h;simp only[h,G0];have ha:K0 56 (d.States.take i) [(⟨(gt d.States (i:Int)).Regs,(gt d.States (i:Int)).Accept,(gt d.States (i:Int)).Edges⟩:L3)]=true:=B4 V';simp only[ha,if_true];rw[Go.V.X1 O'];have:=J0W id d.States hi;simp only[map_id,id]at this;rw[this]) (by unfold s0I;simp) (fu:=F) O'
 simp only[take_zero,Int.natCast_zero]at h;simp only[h,G0]
end Go.Proofs.YtihmgaccbcfgjaaGreat
namespace Go.Proofs.YtihmgaccbcfgjaaGreat
open Go.V Go.RowKit Go.X
variable {F:Nat}
def h0Y (at_:Int)(regs:List Int)(n:Int):Int:=if n=-1 then at_ else if n=-2 then -1 else gt regs n
def a0j (at_:Int)(regs:List Int)(l:List Int):List Int:=l.map (h0Y at_ regs)
def B00 (k:Nat)(l:List Int):Prop:=∀n∈l,n=-1\/n=-2\/0<=n/\n<(k:Int)
def P0f (c:f0L)(n:Int)(h:n=-1\/n=-2\/0<=n/\n<(c.regs.length:Int)):L0T F c n=some (h0Y c.at_ c.regs n):=by
 unfold L0T h0Y;rcases h with rfl|rfl|⟨h1,h2⟩
 ·rfl
 ·rfl
 ·have a:(n==-1)=false:=by simp;omega
  have b:(n==-2)=false:=by simp;omega
  simp only[q0,a,b,V0 h1 h2];rw[if_neg O',if_neg O']
def M0p (c:f0L)(l:List Int)(hl:l.length<=1000)(ho:B00 c.regs.length l)(a:2000<F):J0z F c l=some (a0j c.at_ c.regs l):=by
 unfold J0z;have h:=j0i (body:=J0E F c l) l.length (fun i=>(a0j c.at_ c.regs (l.take i),(i:Int))) (a0j c.at_ c.regs l) (fun i hi=>by
  unfold J0E;simp only[dec_lt hi,Y7,hi,decide_true,if_true];rw[P0f c _ (ho _ (b0x hi))];have ha:K0 8 (a0j c.at_ c.regs (l.take i)) [h0Y c.at_ c.regs (gt l (i:Int))]=true:=B4 (by simp[a0j];omega);simp only[G0,ha,if_true];rw[Go.V.X1 O'];unfold a0j;rw[J0W _ l hi]) (by unfold J0E;simp) (fu:=F) O'
 simp only[take_zero,Int.natCast_zero]at h;have h:iter (J0E F c l) F ([],0)=some (a0j c.at_ c.regs l):=h;rw[h];rfl
structure RdD (d:Y1):Prop where
 sm:Sm d
 pos:0<d.States.length
 cl:d.Class.length=256
 r0:(gt d.States 0).Regs=0
 rg:∀s∈d.States,0<=s.Regs
 ac:∀s∈d.States,B00 s.Regs.toNat s.Accept/\(s.Accept=[]\/(s.Accept.length:Int)=d.Tags)
 tg:1<=d.Tags/\d.Tags<=19/\d.Tags % 2=1
 ed:∀s∈d.States,∀c∈d.Class,0<=c/\c<(s.Edges.length:Int)
 to:∀s∈d.States,∀x∈s.Edges,(x.To=-1/\x.Src=[])\/(0<=x.To/\x.To<(d.States.length:Int)/\(x.Src.length:Int)=(gt d.States x.To).Regs)
 sr:∀s∈d.States,∀x∈s.Edges,∀n∈x.Src,n=-1\/0<=n/\n<s.Regs
def w0T {n r:Int}:z6 n r=true↔n=-1\/0<=n/\n<r:=by
 unfold z6;simp
def I0Q {d:Y1}(hs:Sm d)(h:a0V d=true):RdD d:=by
 unfold a0V at h;simp only[and_eq_true,decide_eq_true_eq,Bool.not_eq_true',all_eq_true]at h;obtain⟨⟨⟨⟨⟨⟨⟨h1,k⟩,g⟩,j⟩,t⟩,l⟩,p⟩,o⟩:=h;obtain⟨m,hm,hl,r,e⟩:=z0k l;obtain⟨_,_,i⟩:=q0m hm;have a:∀s∈d.States,0<=s.Regs/\s.Edges.length=m/\c0C s d.Tags=true/\∀x∈s.Edges,L7 d s.Regs x=true:=by
  intro s hs;have:=p s hs;unfold b0X at this;simp only[and_eq_true,decide_eq_true_eq,all_eq_true,beq_iff_eq]at this;obtain⟨⟨⟨⟨g1,_⟩,g2⟩,g3⟩,g4⟩:=this;exact⟨g1,O',g3,g4⟩
 refine⟨hs,?_,e,by simpa using o,fun s hs=>(a s hs).1,fun s hs=>?_,⟨h1,k,?_⟩,fun s hs c q=>?_,fun s hs x f=>?_,fun s hs x f n hn=>?_⟩
 ·simp at j;exact List.length_pos_iff.2 j
 ·have:=(a s hs).2.2.1;have u:=(a s hs).1;unfold c0C at this;simp only[Bool.or_eq_true,and_eq_true,beq_iff_eq,all_eq_true]at this;rcases this with b|⟨g1,g2⟩
  ·have:s.Accept=[]:=List.eq_nil_of_length_eq_zero O';exact⟨fun n hn=>by rw[this]at hn;simp at hn,.inl this⟩
  ·refine⟨fun n hn=>?_,.inr g1⟩;rcases g2 n hn with b|b
   ·exact .inr (.inl b)
   ·rcases w0T.1 b with b|⟨b,h00⟩
    ·exact .inl b
    ·exact .inr (.inr ⟨b,O'⟩)
 ·have g:¬d.Tags.tmod 2=0:=by simpa using g
  rw[Int.tmod_eq_emod_of_nonneg O']at g;omega
 ·rw[(a s hs).2.1];exact i c q
 ·have:=(a s hs).2.2.2 x f;unfold L7 at this;split at this
  ·rename_i b;exact .inl ⟨b,by simpa using this⟩
  ·simp only[and_eq_true,decide_eq_true_eq,beq_iff_eq]at this;exact .inr ⟨this.1.1.1,this.1.1.2,this.1.2⟩
 ·have:=(a s hs).2.2.2 x f;unfold L7 at this;split at this
  ·rename_i b;have:x.Src=[]:=by simpa using this
   rw[this]at hn;simp at hn
  ·simp only[and_eq_true,all_eq_true]at this;exact w0T.1 (this.2 n hn)
def a02 (d:Y1)(c:f0L):f0L:=if 0<=c.state/\(gt d.States c.state).Accept≠[]then { c with last:=⟨a0j c.at_ c.regs (gt d.States c.state).Accept,c.at_⟩ } else c
def a0b (d:Y1)(c:f0L)(b:Int):H4:=gt (gt d.States c.state).Edges (gt d.Class b)
def c03 (d:Y1)(c:f0L)(b:Int):f0L:=
 if 0<=c.state then { c with at_:=c.at_+1,state:=(a0b d c b).To,work:=c.work+1+((a0b d c b).Src.length:Int),regs:=a0j c.at_ c.regs (a0b d c b).Src } else { c with at_:=c.at_+1,work:=c.work+1 }
def m01 (d:Y1)(c:f0L)(b:Int):f0L:=a02 d (c03 d c b)
def J0h (d:Y1):f0L:=a02 d ⟨⟨[],0⟩,d,0,0,0,[]⟩
structure CI (d:Y1)(c:f0L)(i:Nat):Prop where
 d_:c.d=d
 at_:c.at_=(i:Int)
 st:c.state=-1\/(0<=c.state/\c.state<(d.States.length:Int)/\(c.regs.length:Int)=(gt d.States c.state).Regs)
 rl:c.regs.length<=400
 wk:(i:Int)<=c.work/\c.work<=(i:Int)*401
 tl:c.last.tags.length<=40
def a0C (c:f0L):g0t:=⟨c.d,c.at_,c.state,c.regs,c.last.tags,c.last.to,!c.last.tags.isEmpty,c.work⟩
def L09 {d:Y1}(h:RdD d){c:f0L}{i:Nat}(a:CI d c i):CI d (a02 d c) i:=by
 unfold a02;split
 ·rename_i b;refine⟨a.d_,a.at_,a.st,a.rl,a.wk,?_⟩;rcases a.st with h0|⟨h1,h2,h3⟩
  ·omega
  ·show(a0j _ _ _).length<=40;unfold a0j;rw[length_map];exact h.sm.ac _ (J0H h1 h2)
 ·exact a
def M0f {d:Y1}(h:RdD d){c:f0L}(h1:0<=c.state)(a:c.state<(d.States.length:Int))(b:(c.regs.length:Int)=(gt d.States c.state).Regs):(gt d.States c.state).Accept.length<=40/\B00 c.regs.length (gt d.States c.state).Accept:=by
 have hm:=J0H h1 a;refine⟨h.sm.ac _ hm,?_⟩;have:=(h.ac _ hm).1
 rwa [<-b,Int.toNat_natCast]at this
def L08 {d:Y1}(h:RdD d){c:f0L}{i:Nat}(b:CI d c i)(g:2000<F):J0R F c=some (a02 d c):=by
 unfold J0R J0u a02;rw[b.d_];rcases b.st with h0|⟨h1,h2,h3⟩
 ·have e:decide (c.state>=0)=false:=by simp;omega
  have f:¬(0<=c.state/\(gt d.States c.state).Accept≠[]):=O'
  simp[e,f]
 ·obtain⟨j,a2⟩:=M0f h h1 h2 h3;have e:decide (c.state>=0)=true:=by simpa using h1
  simp only[e,if_true,V0 h1 h2,G0]
  by_cases ha:(gt d.States c.state).Accept=[]
  ·simp[ha]
  ·have:decide (((gt d.States c.state).Accept.length:Int)>0)=true:=by have:=List.length_pos_iff.2 ha;simp;omega
   simp only[this,if_true,G0];rw[M0p c _ O' a2 g,if_pos ⟨h1,ha⟩];obtain⟨l,d0,a,s,w,r⟩:=c;obtain rfl:d0=d:=b.d_;rfl
def M0E {d:Y1}(h:RdD d){c:f0L}{i:Nat}(a:CI d c i)(r:2000<F):K0s F (a0C c)=some (a0C (a02 d c)):=by
 unfold K0s a02 a0C;simp only[a.d_];rcases a.st with h0|⟨h1,h2,h3⟩
 ·have e:decide (c.state<0)=true:=by simp;omega
  have m:¬(0<=c.state/\(gt d.States c.state).Accept≠[]):=O'
  simp[e,m,a.d_]
 ·obtain⟨q,a2⟩:=M0f h h1 h2 h3;have e:decide (c.state<0)=false:=by simpa using h1
  simp only[q0,e,V0 h1 h2]
  by_cases ha:(gt d.States c.state).Accept=[]
  ·simp[ha,a.d_]
  ·have:(((gt d.States c.state).Accept.length:Int)==0)=false:=by simp[ha]
   simp only[this,false_eq_true,if_false];have hl:=j0i (body:=J0G F ⟨d,c.at_,c.state,c.regs,c.last.tags,c.last.to,!c.last.tags.isEmpty,c.work⟩) (gt d.States c.state).Accept.length (fun j=>((j:Int),(d,c.at_,c.state,c.regs,a0j c.at_ c.regs ((gt d.States c.state).Accept.take j),c.last.to,!c.last.tags.isEmpty,c.work))) (d,c.at_,c.state,c.regs,a0j c.at_ c.regs (gt d.States c.state).Accept,c.last.to,!c.last.tags.isEmpty,c.work) (fun j b=>by
    have hn:=a2 _ (b0x b);have g:∀z:Int,K0 8 (a0j c.at_ c.regs ((gt d.States c.state).Accept.take j)) [z]=true:=fun z=>B4 (by simp[a0j];omega);unfold J0G;simp only[dec_lt b,Y7,b,decide_true,if_true,g];rw[Go.V.X1 O'];have n:=J0W (h0Y c.at_ c.regs) (gt d.States c.state).Accept b;unfold a0j;rw[n];unfold h0Y at hn ⊢;rcases hn with hn|hn|⟨g1,g2⟩
    ·simp[hn]
    ·simp[hn]
    ·have l:¬gt (gt d.States c.state).Accept (j:Int)=-1:=O'
     have k:¬gt (gt d.States c.state).Accept (j:Int)=-2:=O'
     have o:(gt (gt d.States c.state).Accept (j:Int)==-1)=false:=by simpa using l
     have p:(gt (gt d.States c.state).Accept (j:Int)==-2)=false:=by simpa using k
     simp only[q0,l,k,o,p,V0 g1 g2]) (by
    unfold J0G;simp) (fu:=F) O'
   simp only[take_zero,Int.natCast_zero]at hl;have hl:iter (J0G F ⟨d,c.at_,c.state,c.regs,c.last.tags,c.last.to,!c.last.tags.isEmpty,c.work⟩) F (0,(d,c.at_,c.state,c.regs,[],c.last.to,!c.last.tags.isEmpty,c.work))=_:=hl;rw[hl,if_pos ⟨h1,ha⟩];have f:(a0j c.at_ c.regs (gt d.States c.state).Accept).isEmpty=false:=by unfold a0j;simp[ha]
   simp only[G0,f,a.d_,Bool.not_false]
end Go.Proofs.YtihmgaccbcfgjaaGreat
namespace Go.Proofs.YtihmgaccbcfgjaaGreat
open Go.V Go.RowKit Go.X
variable {F:Nat}
def L0B {d:Y1}(h:RdD d){c:f0L}{i:Nat}(l:CI d c i){b:Int}(j:0<=b/\b<256)(h1:0<=c.state):
  c.state<(d.States.length:Int)/\y0 d.Class b=true/\y0 (gt d.States c.state).Edges (gt d.Class b)=true/\gt d.States c.state∈d.States/\a0b d c b∈(gt d.States c.state).Edges/\(c.regs.length:Int)=(gt d.States c.state).Regs/\(a0b d c b).Src.length<=400/\B00 c.regs.length (a0b d c b).Src:=by
 obtain⟨_,k,m⟩:0<=c.state/\c.state<(d.States.length:Int)/\(c.regs.length:Int)=(gt d.States c.state).Regs:=by
  rcases l.st with h0|h0
  ·omega
  ·exact h0
 have hm:=J0H h1 k;have a:b<(d.Class.length:Int):=by rw[h.cl];omega
 obtain⟨g,f⟩:=h.ed _ hm _ (J0H j.1 a);have e:=J0H g f;refine⟨k,V0 j.1 a,V0 g f,hm,e,m,h.sm.sr _ hm _ e,fun n hn=>?_⟩;rcases h.sr _ hm _ e n hn with h0|⟨h0,h00⟩
 ·exact .inl h0
 ·exact .inr (.inr ⟨h0,O'⟩)
def L0a {d:Y1}(h:RdD d){c:f0L}{i:Nat}(a:CI d c i){b:Int}(j:0<=b/\b<256):CI d (c03 d c b) (i+1):=by
 have hw:=a.wk;have ha:=a.at_;unfold c03
 by_cases h1:0<=c.state
 ·obtain⟨m,_,_,hm,g,k,f,l⟩:=L0B h a j h1;rw[if_pos h1];refine⟨a.d_,by show c.at_+1=_;omega,?_,by show(a0j _ _ _).length<=400;unfold a0j;rw[length_map];exact f,?_,a.tl⟩
  ·show(a0b d c b).To=-1\/_;rcases h.to _ hm _ g with⟨e,_⟩|⟨g1,g2,g3⟩
   ·exact .inl e
   ·refine .inr ⟨g1,g2,?_⟩;show((a0j _ _ _).length:Int)=_;unfold a0j;rw[length_map];exact g3
  ·show _<=c.work+1+((a0b d c b).Src.length:Int)/\_;have:(((a0b d c b).Src.length:Nat):Int)<=400:=O'
   constructor
   ·push_cast;omega
   ·show c.work+1+((a0b d c b).Src.length:Int)<=_
    push_cast;omega
 ·rw[if_neg h1];refine⟨a.d_,by show c.at_+1=_;omega,?_,a.rl,?_,a.tl⟩
  ·rcases a.st with e|e
   ·exact .inl e
   ·omega
  ·show _<=c.work+1/\c.work+1<=_
   push_cast;omega
def Q0f {d:Y1}(h:RdD d){c:f0L}{i:Nat}(a:CI d c i){b:Int}(e:0<=b/\b<256):CI d (m01 d c b) (i+1):=L09 h (L0a h a e)
def L0G {d:Y1}(h:RdD d):CI d ⟨⟨[],0⟩,d,0,0,0,[]⟩ 0:=by
 refine⟨rfl,rfl,.inr ⟨Int.le_refl _,?_,?_⟩,Z',Z',Z'⟩
 ·have:=h.pos;show(0:Int)<_;omega
 ·show((([]:List Int).length:Nat):Int)=_;rw[h.r0];rfl
def O0y {d:Y1}(h:RdD d):CI d (J0h d) 0:=L09 h (L0G h)
def O0J {d:Y1}(h:RdD d){c:f0L}{i:Nat}(j:CI d c i)(hi:i<=1000){b:Int}(p:0<=b/\b<256)(o:2000<F):L0J F c b=some (m01 d c b):=by
 have hw:=j.wk;have ha:=j.at_;have k:=L0a h j p;have f:=L08 (F:=F) h k o;unfold L0J m01;rw[j.d_];rw[r0K (n:=c.work+1) O' O']
 by_cases h1:0<=c.state
 ·obtain⟨q,g1,g2,hm,v,x,u,t⟩:=L0B h j p h1;have e:decide (c.state>=0)=true:=by simpa using h1
  simp only[e,if_true,V0 h1 q,g1,g2];have m:gt (gt d.States c.state).Edges (gt d.Class b)=a0b d c b:=rfl;have he:J0z F ⟨c.last,d,c.at_,c.state,c.work+1,c.regs⟩ (a0b d c b).Src=some (a0j c.at_ c.regs (a0b d c b).Src):=M0p (F:=F) ⟨c.last,d,c.at_,c.state,c.work+1,c.regs⟩ (a0b d c b).Src O' t o;rw[m,he];simp only[G0];have hlen:(a0j c.at_ c.regs (a0b d c b).Src).length=(a0b d c b).Src.length:=by unfold a0j;rw[length_map]
  rw[hlen,r0K (n:=c.work+1+_) O' O',r0K (n:=c.at_+1) O' O'];have g:c03 d c b=⟨c.last,d,c.at_+1,(a0b d c b).To,c.work+1+((a0b d c b).Src.length:Int),a0j c.at_ c.regs (a0b d c b).Src⟩:=by
   unfold c03;rw[if_pos h1];obtain⟨l,d0,a,s,w,r⟩:=c;obtain rfl:d0=d:=j.d_;rfl
  rw[g]at f ⊢;rw[f];rfl
 ·have e:decide (c.state>=0)=false:=by simpa using h1
  simp only[q0,e];rw[r0K (n:=c.at_+1) O' O'];have g:c03 d c b=⟨c.last,d,c.at_+1,c.state,c.work+1,c.regs⟩:=by
   unfold c03;rw[if_neg h1];obtain⟨l,d0,a,s,w,r⟩:=c;obtain rfl:d0=d:=j.d_;rfl
  rw[g]at f ⊢;rw[f];rfl
def N01 {d:Y1}(h:RdD d){c:f0L}{i:Nat}(g:CI d c i)(hi:i<=1000){b:Int}(q:0<=b/\b<256)(x:2000<F):K09 F (a0C c) b=some (a0C (m01 d c b)):=by
 have hw:=g.wk;have ha:=g.at_;have l:=L0a h g q;have a:=M0E (F:=F) h l x;unfold K09 m01;have hd:=g.d_;have e0:a0C c=⟨d,c.at_,c.state,c.regs,c.last.tags,c.last.to,!c.last.tags.isEmpty,c.work⟩:=by unfold a0C;rw[hd]
 rw[e0];simp only;rw[r0K (n:=c.work+1) O' O',r0K (n:=b) q.1 O']
 by_cases h1:0<=c.state
 ·obtain⟨w,g1,g2,hm,u,C,y,I⟩:=L0B h g q h1;have e:decide (c.state>=0)=true:=by simpa using h1
  simp only[e,if_true,V0 h1 w,g1,g2];have r:gt (gt d.States c.state).Edges (gt d.Class b)=a0b d c b:=rfl;rw[r];have m:=h.sr _ hm _ u;have hl:=j0i (body:=J00 F ⟨d,c.at_,c.state,c.regs,c.last.tags,c.last.to,!c.last.tags.isEmpty,c.work⟩ (a0b d c b)) (a0b d c b).Src.length (fun j=>(a0j c.at_ c.regs ((a0b d c b).Src.take j),(j:Int))) (a0j c.at_ c.regs (a0b d c b).Src) (fun j k=>by
   have hn:=m _ (b0x k);have o:∀z:Int,K0 8 (a0j c.at_ c.regs ((a0b d c b).Src.take j)) [z]=true:=fun z=>B4 (by simp[a0j];omega);unfold J00;simp only[dec_lt k,Y7,k,decide_true,if_true,o];rw[Go.V.X1 O'];have p:=J0W (h0Y c.at_ c.regs) (a0b d c b).Src k;unfold a0j;rw[p];unfold h0Y at hn ⊢;rcases hn with hn|⟨g1,g2⟩
   ·simp[hn]
   ·have s:¬gt (a0b d c b).Src (j:Int)=-1:=O'
    have t:¬gt (a0b d c b).Src (j:Int)=-2:=O'
    have v:(gt (a0b d c b).Src (j:Int)==-1)=false:=by simpa using s
    simp only[q0,s,t,v,V0 g1 (show _<(c.regs.length:Int) from O')]) (by
   unfold J00;simp) (fu:=F) O'
  simp only[take_zero,Int.natCast_zero]at hl;have hl:iter (J00 F ⟨d,c.at_,c.state,c.regs,c.last.tags,c.last.to,!c.last.tags.isEmpty,c.work⟩ (a0b d c b)) F ([],0)=some (a0j c.at_ c.regs (a0b d c b).Src):=hl;rw[hl];simp only[G0];have hlen:(a0j c.at_ c.regs (a0b d c b).Src).length=(a0b d c b).Src.length:=by unfold a0j;rw[length_map]
  rw[hlen,r0K (n:=c.work+1+_) O' O',r0K (n:=c.at_+1) O' O'];have f:a0C (c03 d c b)=⟨d,c.at_+1,(a0b d c b).To,a0j c.at_ c.regs (a0b d c b).Src,c.last.tags,c.last.to,!c.last.tags.isEmpty,c.work+1+((a0b d c b).Src.length:Int)⟩:=by
   unfold c03 a0C;rw[if_pos h1];simp only[hd]
  rw[f]at a;rw[a];rfl
 ·have e:decide (c.state>=0)=false:=by simpa using h1
  simp only[q0,e];rw[r0K (n:=c.at_+1) O' O'];have f:a0C (c03 d c b)=⟨d,c.at_+1,c.state,c.regs,c.last.tags,c.last.to,!c.last.tags.isEmpty,c.work+1⟩:=by
   unfold c03 a0C;rw[if_neg h1];simp only[hd]
  rw[f]at a;rw[a];rfl
def P0P {d:Y1}(hs:Sm d)(a:2000<F):F04 F d=some (if a0V d then(.inr (J0h d),0)else(.inl (),11)):=by
 unfold F04;rw[I07 d hs a];cases b:a0V d
 ·simp
 ·have h:=I0Q hs b;simp only[q0,O0F d hs a];rw[L08 h (L0G h) a];rfl
def Q0n {d:Y1}(h:RdD d)(a:2000<F):L0m F d=some (a0C (J0h d)):=by
 unfold L0m;have:=M0E (F:=F) h (L0G h) a;have e:a0C ⟨⟨[],0⟩,d,0,0,0,[]⟩=(⟨d,0,0,[],[],0,false,0⟩:g0t):=rfl;rw[e]at this;rw[this];rfl
end Go.Proofs.YtihmgaccbcfgjaaGreat
namespace Go.Proofs.YtihmgaccbcfgjaaGreat
open Go.V Go.RowKit Go.X
end Go.Proofs.YtihmgaccbcfgjaaGreat
set_option maxRecDepth 100000
noncomputable section
namespace Go.Proofs.YtihmgaccbcfgjaaGreat
open Go.V Go.RowKit Go.X
def g0z {α β:Type}(x:Option (α×β)):(Option.bind x fun p=>some (p.1,p.2))=x:=by cases x<;>rfl
def m0Y (F:Nat):((List C0)×Int×(List Int)×(List F1))->F1->Int->Option (H4×((List C0)×Int×(List Int)×(List F1)))
 |(l,mode,least,a),k,c=>
 if y0 least c then
  Option.bind (α:=(F1×(List Int))) (
   (
   Option.bind (c0Q F l mode k (gt least c)) fun(d,next_2)=>
   some (d,next_2))) fun(b,src)=>
  Option.bind (α:=Bool) (
   if(b.Places.length:Int)==0 then
    some (b.Flag==0)
   else
    some false) fun x=>
  if x then
   some ((⟨(-1),[]⟩:H4),(l,mode,least,a))
  else
   Option.bind (α:=Int) (
    Option.bind (α:=(Int⊕Unit)) (
     iter (e0D F a b) F 0) fun e=>match e with
    |.inl x3=>
     some x3
    |.inr _=>
     some (-1)) fun i=>
   Option.bind (α:=(Int×((List C0)×Int×(List Int)×(List F1)))) (
    if decide (i<0)then
     if K0 104 a [b]then
      some ((a.length:Int),(l,mode,least,a++[b]))
     else none
    else
     some (i,(l,mode,least,a))) fun(i2,(l2,mode2,least2,states2))=>
   some ((⟨i2,src⟩:H4),(l2,mode2,least2,states2))
 else none
def E0K:f0S=m0Y:=by
 funext a;unfold f0S m0Y;simp only[c0V,g0z]<;>rfl
def p0D (F:Nat)(least:(List Int))(k:F1)(d:(Int×((List C0)×Int×(List Int)×(List F1))×(Int×(List Int)×(List H4)))):Option (Q0 (Int×((List C0)×Int×(List Int)×(List F1))×(Int×(List Int)×(List H4))) (((List C0)×Int×(List Int)×(List F1))×(Int×(List Int)×(List H4)))):=
 match d with
 |(x,(g,f,c,a),(e,b,Edges))=>
 if decide (x<(least.length:Int))then
  Option.bind (m0Y F (g,f,c,a) k x) fun(a0Z,(l3,mode3,least3,states3))=>
  if K0 32 Edges [a0Z]then
   some (.next (W (x+1),(l3,mode3,least3,states3),(e,b,Edges++[a0Z])))
  else none
 else
  some (.done ((g,f,c,a),(e,b,Edges)))
def E0j:e0z=p0D:=by
 funext c d a b;unfold e0z p0D;simp only[c0V,g0z,E0K]<;>rfl
def l09 (F:Nat):((List C0)×Int×(List Int)×(List F1))->F1->Option (L3×((List C0)×Int×(List Int)×(List F1)))
 |(l,mode,least,a),k=>
 Option.bind (α:=(Int×(List Int))) (
  (
  Option.bind (c0k F k) fun regs=>
  Option.bind (α:=(Int×(List Int))) (
   (
   Option.bind (c0s F l k) fun accept=>
   some (regs,accept))) fun(Regs,Accept)=>
  some (Regs,Accept))) fun(b,Accept2)=>
 Option.bind (α:=(((List C0)×Int×(List Int)×(List F1))×(Int×(List Int)×(List H4)))) (
  iter (p0D F least k) F (0,(l,mode,least,a),(b,Accept2,[]))) fun((c,mode4,least4,states4),(Regs4,Accept4,Edges2))=>
 some ((⟨Regs4,Accept4,Edges2⟩:L3),(c,mode4,least4,states4))
def C0B:f0T=l09:=by
 funext a;unfold f0T l09;simp only[c0V,g0z,E0j]<;>rfl
def p0H (F:Nat)(b:Int)(d:(Int×((List C0)×Int×(List Int)×(List F1))×(Int×(List Int)×(List L3)))):Option (Q0 (Int×((List C0)×Int×(List Int)×(List F1))×(Int×(List Int)×(List L3))) ((Int×Y1)⊕(Int×(List Int)×(List L3)))):=
 match d with
 |(i2,(f,e,c,a),(Tags,Class,States))=>
 if decide (i2<(a.length:Int))then
  let x:=decide ((a.length:Int)>(if 400<b then 400 else b))
  if x then
   some (.done (.inl (14,(⟨0,[],[]⟩:Y1))))
  else
   if y0 a i2 then
    Option.bind (l09 F (f,e,c,a) (gt a i2)) fun(state,(l4,mode4,least4,states3))=>
    if K0 56 States [state]then
     some (.next (W (i2+1),(l4,mode4,least4,states3),(Tags,Class,States++[state])))
    else none
   else none
 else
  some (.done (.inr (Tags,Class,States)))
def I0q:b0H=p0H:=by
 funext a b c;unfold b0H p0H;simp only[c0V,g0z,C0B]<;>rfl
def k00 (F:Nat)(l:(List C0))(mode:Int)(a:Int):Option (Y1×Int):=
 Option.bind (d0z F l mode) fun(begin,begin2)=>
 if begin2 != 0 then
  some ((⟨0,[],[]⟩:Y1),begin2)
 else
  Option.bind (f0z F l) fun(term,term2)=>
  Option.bind (e0e F term) fun least=>
  Option.bind (α:=Unit) (
   iter (q0r F) F ()) fun _=>
  Option.bind (α:=(Int×((List C0)×Int×(List Int)×(List F1)))) (
   if decide ((-1)<0)then
    if K0 104 ([]:List F1) [begin]then
     some (0,(l,mode,least,[]++[begin]))
    else none
   else
    some ((-1),(l,mode,least,[]))) fun(i,(l2,mode2,least2,states))=>
  Option.bind (d0Y F l) fun tags=>
  Option.bind (α:=((Int×Y1)⊕(Int×(List Int)×(List L3)))) (
   iter (p0H F a) F (0,(l2,mode2,least2,states),(tags,term,[]))) fun b=>match b with
  |.inl (x2,y)=>
   some (y,x2)
  |.inr (Tags2,Class2,States2)=>
   some ((⟨Tags2,Class2,States2⟩:Y1),0)
def z0s:a05=k00:=by
 funext c d a b;unfold a05 k00;simp only[c0V,g0z,I0q]<;>rfl
def L02 (F:Nat)(d_:Y1)(d:(Int×(Int×(List Int)×(List L3)))):Option (Q0 (Int×(Int×(List Int)×(List L3))) (Int×(List Int)×(List L3))):=
 match d with
 |(x,(c,a,States))=>
 if decide (x<(d_.States.length:Int))then
  if y0 d_.States x then
   Option.bind (α:=(Int×(List Int))) (
    (
    Option.bind (j0u F ((gt d_.States x).Accept)) fun e=>
    some ((gt d_.States x).Regs,e))) fun(Regs,Accept)=>
   Option.bind (α:=(Int×(List Int)×(List H4))) (
    iter (J0T F d_ x) F (0,(Regs,Accept,[]))) fun(b,Accept3,Edges2)=>
   if K0 56 States [(⟨b,Accept3,Edges2⟩:L3)]then
    let f:=States++[(⟨b,Accept3,Edges2⟩:L3)]
    some (.next (W (x+1),(c,a,f)))
   else none
  else none
 else
  some (.done (c,a,States))
def N0F:s0I=L02:=by
 funext a b c;unfold s0I L02;simp only[c0V,g0z]<;>rfl
def K07 (F:Nat)(d_:Y1):Option Y1:=
 Option.bind (α:=(Int×(List Int))) (
  (
  Option.bind (j0u F d_.Class) fun clone=>
  some (d_.Tags,clone))) fun(Tags,Class)=>
 Option.bind (α:=(Int×(List Int)×(List L3))) (
  iter (L02 F d_) F (0,(Tags,Class,[]))) fun(a,Class3,States2)=>
 some (⟨a,Class3,States2⟩:Y1)
def P0v:J0C=K07:=by
 funext a b;unfold J0C K07;simp only[c0V,g0z,N0F]<;>rfl
def K0V (F:Nat)(d_:Y1):Option ((Unit⊕f0L)×Int):=
 Option.bind (e0X F d_) fun right=>
 if !right then
  some ((.inl ()),11)
 else
  Option.bind (K07 F d_) fun own=>
  Option.bind (J0R F (⟨(⟨[],0⟩:e0A),own,0,0,0,[]⟩:f0L)) fun b0=>
  some ((.inr b0),0)
def M0L:F04=K0V:=by
 funext a b;unfold F04 K0V;simp only[c0V,g0z,P0v]<;>rfl
def K0S (F:Nat)(d_:Y1)(w:(List Int)):Option ((Unit⊕f0L)×Int):=
 Option.bind (α:=((Unit⊕f0L)×Int)) (
  Option.bind (K0V F d_) fun(new,new3)=>
  match new with
  |.inl _=>
   some ((.inl ()),new3)
  |.inr new2=>
   some ((.inr new2),new3)) fun(c,e)=>
 match c with
 |.inl _=>
  if e != 0 then
   some ((.inl ()),e)
  else
   none
 |.inr c2=>
  if e != 0 then
   some ((.inl ()),e)
  else
   Option.bind (α:=f0L) (
    iter (p0B F w) F (0,c2)) fun a=>
   some ((.inr a),0)
def M0k:J0m=K0S:=by
 funext a b c;unfold J0m K0S;simp only[c0V,g0z,M0L]<;>rfl
def L0Q (F:Nat)(d_:Y1)(w:(List Int)):Option ((List g0p)×Int):=
 Option.bind (α:=((Unit⊕f0L)×Int)) (
  Option.bind (K0S F d_ w) fun(run,run3)=>
  match run with
  |.inl _=>
   some ((.inl ()),run3)
  |.inr run2=>
   some ((.inr run2),run3)) fun(c,e)=>
 match c with
 |.inl _=>
  if e != 0 then
   some ([],e)
  else
   none
 |.inr c2=>
  if e != 0 then
   some ([],e)
  else
   Option.bind (J0j F c2) fun(answer,answer2)=>
   some (answer,answer2)
def O0d:o0J=L0Q:=by
 funext a b c;unfold o0J L0Q;simp only[c0V,g0z,M0k]<;>rfl
def L0X (F:Nat)(d_:Y1)(w:(List Int)):Option ((List g0p)×Int):=
 Option.bind (α:=((Unit⊕f0L)×Int)) (
  Option.bind (K0S F d_ w) fun(run,run3)=>
  match run with
  |.inl _=>
   some ((.inl ()),run3)
  |.inr run2=>
   some ((.inr run2),run3)) fun(c,e)=>
 match c with
 |.inl _=>
  if e != 0 then
   some ([],e)
  else
   none
 |.inr c2=>
  if e != 0 then
   some ([],e)
  else
   Option.bind (J0u F c2) fun accept=>
   if !accept then
    some ([],7)
   else
    Option.bind (J0j F c2) fun(answer,answer2)=>
    some (answer,answer2)
def P0r:B0X=L0X:=by
 funext a b c;unfold B0X L0X;simp only[c0V,g0z,M0k]<;>rfl
def M0M (F:Nat):Option Bool:=
 Option.bind (M0W F) fun star=>
 Option.bind (k00 F star 0 9) fun(build,build2)=>
 if !([97,97,98]:List Int).isEmpty then
  Option.bind (L0Q F build [97,97,98]) fun(search,search2)=>
  if !([97,97,98]:List Int).isEmpty then
   Option.bind (L0X F build [97,97,98]) fun(b,match_2)=>
   Option.bind (α:=Int) (
    Option.bind (K0V F (⟨0,[],[]⟩:Y1)) fun(new,new3)=>
    match new with
    |.inl _=>
     some new3
    |.inr new2=>
     some new3) fun g=>
   Option.bind (α:=Bool) (
    if search2==0 then
     Option.bind (y04 F search [(⟨0,2⟩:g0p)]) fun a=>
     some a
    else
     some false) fun x=>
   Option.bind (α:=Bool) (
    if x then
     some (match_2==7)
    else
     some false) fun c=>
   Option.bind (α:=Bool) (
    if c then
     some (g==11)
    else
     some false) fun d=>
   some d
  else none
 else none
def P0K:J0K=M0M:=by
 funext a;unfold J0K M0M;simp only[c0V,g0z,z0s,M0L,O0d,P0r]<;>rfl
end Go.Proofs.YtihmgaccbcfgjaaGreat
end
namespace Go.Proofs.YtihmgaccbcfgjaaGreat
open Go.V Go.RowKit Go.X
def L0W:J0K Fb=some true:=by rw[P0K];kernel_rfl
variable {F:Nat}
def N0s {p:List Int}(h:wfD en 20 (.list (.int .u8)) p):∀x∈p,0<=x/\x<256:=fun x a=>by
 have h1:L5 .u8 x:=h x a;simp[L5,IntKind.min,IntKind.max,IntKind.bits,IntKind.signed]at h1;omega
def m0G (c:f0L):List g0p×Bool:=if c.last.tags.isEmpty then([],false)else(f02 c.last.tags c.last.to,true)
def P0p {c:f0L}(h:c.last.tags.length<=40)(d:2000<F):(if(c.last.tags.length:Int)==0 then some (([]:List g0p),false)else Option.bind (K0H F c.last.tags c.last.to) fun a=>some (a,true))=some (m0G c):=by
 unfold m0G;cases b:c.last.tags with
 |nil=>rfl
 |cons x r=>
  have:(((x :: r).length:Nat):Int)≠0:=by simp;omega
  have e:(((x :: r).length:Int)==0)=false:=by simpa using this
  rw[P0H (by rw[<-b];omega) d];simp only[q0,e,List.isEmpty_cons]
def M0y {c:f0L}(h:c.last.tags.length<=40)(b:2000<F):K04 F (a0C c)=some (m0G c):=by
 unfold K04 m0G a0C;cases a:c.last.tags with
 |nil=>rfl
 |cons x r=>
  simp only[q0,List.isEmpty_cons];rw[P0J (by rw[<-a];omega) b];rfl
def a0n (d:Y1)(w:List Int)(i:Nat):f0L:=(w.take i).foldl (m01 d) (J0h d)
def L04 (d:Y1)(w:List Int){i:Nat}(h:i<w.length):a0n d w (i+1)=m01 d (a0n d w i) (gt w (i:Int)):=by
 have:w[i]?=some (gt w (i:Int)):=by rw[X2 (x:=w[i]) (by simp[h])];simp[h]
 unfold a0n;rw[List.take_succ,this,List.foldl_append];rfl
def g0h {d:Y1}(h:RdD d){w:List Int}(hw:∀x∈w,0<=x/\x<256):∀i,i<=w.length->CI d (a0n d w i) i
 |0,_=>O0y h
 |i+1,hi=>by rw[L04 d w O'];exact Q0f h (g0h h hw i O') (hw _ (b0x O'))
