/- P. Its conditions: none. -/
import Derived.Test.YtmhooikfkhjijaaGreatYMd
import Derived.Test.YtmhooikfkhjijaaGreatYG24
import Derived.Test.YtmhooikfkhjijaaGreatYG48
import Derived.Test.YtmhooikfkhjijaaGreatYE16
import Derived.Test.YtmhooikfkhjijaaGreatYG44
set_option linter.all false
namespace Go.Proofs.YtmhooikfkhjijaaGreat.Pr
open Go.V Go.RowKit Go.X
def N0F {α:Type}[Inhabited α]{l:List α}{i:Nat}(h:i<l.length):gt l (i:Int)∈l:=by
 rw[B4 (x:=l[i]) (by simp[h])];exact List.getElem_mem h
def dec_lt {a b:Nat}(h:a<b):decide ((a:Int)<(b:Int))=true:=by simp;omega
variable {F:Nat}
def N0q {α:Type}[Inhabited α]{l:List α}{i:Nat}(h:i<l.length):l.drop i=gt l (i:Int) :: l.drop (i+1):=by
 rw[List.drop_eq_getElem_cons h,B4 (x:=l[i]) (by simp[h])]
end Go.Proofs.YtmhooikfkhjijaaGreat.Pr
namespace Go.Proofs.YtmhooikfkhjijaaGreat
open Go.V Go.RowKit Old Go.X
section
variable {F:Nat}{l:List C0}{n:Nat}{a:List y0}{b:Nat->List y0}{e:Nat->y0×Bool}{z:y0×Bool}
def goH (l:List C0)(n:Nat)(a:List y0)(b:Nat->List y0)(e:Nat->y0×Bool)(h:Hs)(x:Int):Hs:=if h.over then h else h.feed l n a b e x
def a0i (l:List C0)(n:Nat)(a:List y0)(b:Nat->List y0)(e:Nat->y0×Bool)(h:Hs)(w:List Int):Hs:=w.foldl (goH l n a b e) h
def N0m (h:Hs)(v w:List Int):a0i l n a b e (a0i l n a b e h v) w=a0i l n a b e h (v++w):=by unfold a0i;rw[List.foldl_append]
def N0l {h:Hs}(c:h.over=true):∀w:List Int,a0i l n a b e h w=h
 |[]=>rfl
 |x :: w=>by
  show a0i l n a b e (goH l n a b e h x) w=h;unfold goH;rw[if_pos c];exact N0l c w
def N0Y {h:Hs}{i:Nat}(c:f05 l n h i)(hn:n<=1000):G0c F ⟨h.H l n a b e z⟩=some h.over:=by
 unfold G0c;rw[P0l c hn];rfl
def N0P {h:Hs}{i:Nat}(g:f05 l n h i)(hn:n<=1000)(j:2000<F)(cl:Bool)(c:Int):
  m0D F (⟨cl,c⟩,h.C l n a b e z)=some ((h.found.2,cl||h.over,h.found.1),(⟨cl,c⟩,h.C l n a b e z)):=by
 have d:=N0Y (F:=F) (a:=a) (b:=b) (e:=e) (z:=z) g hn;have f:=L0I (a:=a) (b:=b) (e:=e) (z:=z) g j;unfold Hs.H at d;unfold Hs.C at f ⊢;unfold m0D;simp only[f,G0,d];cases cl<;>simp
def P0m (K:H5 l n a b e z F)(hn:n<=1000)(hw:∀x∈l,o3 x){w:List Int}(r:∀x∈w,Z5 .u8 x)(hl:w.length<=1000):
  ∀(k i fu:Nat) (h:Hs) (j:Nat),i+k=w.length->k<fu->f05 l n h j->j<=10000+i->
   iter (d0o F w) fu ((i:Int),h.C l n a b e z)=some ((a0i l n a b e h (w.drop i)).C l n a b e z)/\∃m,m<=j+k/\f05 l n (a0i l n a b e h (w.drop i)) m:=by
 intro k
 induction k with
 |zero=>
  intro i fu h j hi p f u;obtain⟨fu,rfl⟩:∃m,fu=m+1:=⟨fu-1,by omega⟩
  obtain rfl:i=w.length:=by omega
  rw[List.drop_length];refine⟨?_,j,by omega,f⟩;unfold iter d0o Hs.C;simp[a0i]
 |succ k ih=>
  intro i fu h j hi p f u;obtain⟨fu,rfl⟩:∃m,fu=m+1:=⟨fu-1,by omega⟩
  have c:i<w.length:=by omega
  have g:=N0Y (F:=F) (a:=a) (b:=b) (e:=e) (z:=z) f hn;rw[Pr.N0q c];have o:=r _ (Pr.N0F c);cases d:h.over with
  |true=>
   rw[N0l d];refine⟨?_,j,by omega,f⟩;unfold iter d0o Hs.C;unfold Hs.H at g;simp only[q0,Pr.dec_lt c,F0M,c,g,d]
  |false=>
   obtain⟨s1,s,_⟩:=N0D (z:=z) (e:=e) K hw f (by omega) o;have hg:a0i l n a b e h (gt w (i:Int) :: w.drop (i+1))=a0i l n a b e (h.feed l n a b e (gt w (i:Int))) (w.drop (i+1)):=by
    show a0i l n a b e (goH l n a b e h (gt w (i:Int))) _=_;unfold goH;rw[d];rfl
   rw[hg];obtain⟨q,m,i2,i3⟩:=ih (i+1) fu (h.feed l n a b e (gt w (i:Int))) (j+1) (by omega) (by omega) s (by omega);refine⟨?_,m,by omega,i3⟩;rw[<-q];rw[show iter (d0o F w) (fu+1) ((i:Int),h.C l n a b e z)=iter (d0o F w) fu (((i+1:Nat):Int),(h.feed l n a b e (gt w (i:Int))).C l n a b e z)from e0m (by
    unfold d0o;unfold Hs.C at s1 ⊢;unfold Hs.H at g;simp only[q0,Pr.dec_lt c,F0M,c,g,d,s1];rw[Go.V.G3 (by omega)])]
def O0x (K:H5 l n a b e z F):I0a F l=some (.inr (⟨false,0⟩,(Hs.zero l z).C l n a b e z),0):=by
 unfold I0a;rw[K0m K];unfold Hs.C;simp only[q0,show((0:Int) != 0)=false from rfl]
def Q0e {x:a0J}(h:x.Spans.length<=1000)(c:2000<F):I0f F x x=some true:=by
 unfold I0f;simp only[beq_self_eq_true,if_true,G0,h01 h c]
end
section
variable {F:Nat}{l:List C0}{n:Nat}{a:List y0}{b:Nat->List y0}{e:Nat->y0×Bool}{z:y0×Bool}{t:Tm}{w:List Int}{m:Nat}
def Rch.at {i j:Nat}{Y:Pp}(h:Rch w t i j Y):∀q,i<=q->q<=j->∃f,Rch w t i q f:=by
 induction h with
 |beg e r=>intro q h1 d;obtain rfl:_=q:=Nat.le_antisymm h1 d;exact⟨_,.beg e r⟩
 |step h g r ih=>
  rename_i j n p p';intro q h1 d;rcases Nat.lt_or_ge j q with c|c
  ·obtain rfl:q=j+1:=by omega
   exact⟨_,.step h g r⟩
  ·exact ih q h1 c
def O0N {h:Hs}(H:HsI w l n t m h)(y:h.c.at_=m)(d:h.over=true):∃i c P,h.is=true/\h.to=((c:Nat):Int)/\(m<=w.length->H0U w l t w.length h.tags i c P):=by
 unfold Hs.over at d;simp only[Bool.and_eq_true,beq_iff_eq,decide_eq_true_eq]at d;obtain⟨o,x,q⟩:=d;obtain⟨i,c,P,h1,Fn,g,G,I⟩:=H.yes o;refine⟨i,c,P,o,h1,fun hm=>⟨Fn.fit,Fn.wid,by have:=Fn.le;omega,Fn.mn,Fn.tag,fun p Q f J=>?_⟩⟩;have hw:=Fn.wid;have C:=Fn.le
 by_cases c1:p+Q.wid<=m
 ·exact Fn.all p Q f c1
 ·refine .inl (Nat.lt_of_not_le fun hle=>?_);have hi:i<m\/i=m:=by omega
  have s:i<m:=by
   rcases hi with h|h
   ·exact h
   ·have:=g (Fn.fit.zero (by omega));omega
  obtain⟨Y,j,v,R,_⟩:=f.rch (by omega);obtain⟨r,u⟩:=v.at (m-1) (by omega) (by omega);obtain⟨k,hk,_⟩:=I.cov p (m-1) r (by omega) hle u;omega
def N0W (K:H5 l n a b e z F)(hw:∀x∈l,o3 x)(d:O2 l t)(i:∀x∈w,Z5 .u8 x)(hl:w.length<=1000):∀m,m<=w.length->
  ∃q,q<=m/\HsI w l n t q (a0i l n a b e (Hs.zero l z) (w.take m))/\f05 l n (a0i l n a b e (Hs.zero l z) (w.take m)) q/\((a0i l n a b e (Hs.zero l z) (w.take m)).over=true\/q=m)
 |0,_=>⟨0,Nat.le_refl _,K0r K hw d w,I0M,.inr rfl⟩
 |m+1,h=>by
  obtain⟨q,r,g,f,j⟩:=N0W K hw d i hl m (by omega);have o:w.take (m+1)=w.take m++[gt w (m:Int)]:=by rw[List.take_succ,u6 (show m<w.length by omega)];rfl
  have k:a0i l n a b e (Hs.zero l z) (w.take (m+1))=goH l n a b e (a0i l n a b e (Hs.zero l z) (w.take m)) (gt w (m:Int)):=by rw[o,<-N0m];rfl
  rw[k];unfold goH;cases c:(a0i l n a b e (Hs.zero l z) (w.take m)).over with
  |true=>rw[if_pos rfl];exact⟨q,by omega,g,f,.inl c⟩
  |false=>
   rw[if_neg (by simp)];have p:q=m:=by
              rcases j with h|h;· rw[c]at h;cases h
              ·exact h
   subst p;exact⟨q+1,Nat.le_refl _,L0T K hw d g f.c.a0 (by omega),(N0D (e:=e) (z:=z) K hw f (by omega) (i _ (gtm (by omega)))).2.1,.inr rfl⟩
def P0T (K:H5 l n a b e z F)(hw:∀x∈l,o3 x)(f:O2 l t)(hl:l.length*64<=140737488351232)(g:∀x∈w,Z5 .u8 x)(o:w.length<=64):d0X F l w=some (if(a0i l n a b e (Hs.zero l z) w).found.2 then((a0i l n a b e (Hs.zero l z) w).found.1,0)else([],7)):=by
 obtain⟨q,p,d,k,j⟩:=N0W (w:=w) K hw f g (by omega) w.length (Nat.le_refl _);rw[List.take_length]at d k j;rcases j with h|h
 ·have f1:=K.f1;have f3:=K.f3;obtain⟨i,c,P,h1,s,r⟩:=O0N d k.c.a0 h;have:=J0R K.hR K.TF.rR f hw hl g o (by omega) K.f2 (r p);unfold Hs.found;rw[h1,s];exact this
 ·subst h;exact J0d K hw f hl g o d
end
end Go.Proofs.YtmhooikfkhjijaaGreat
set_option maxRecDepth 100000
noncomputable section
namespace Go.Proofs.YtmhooikfkhjijaaGreat
open Go.V Go.RowKit Go.X
def h0V {α β:Type}(x:Option (α×β)):(Option.bind x fun p=>some (p.1,p.2))=x:=by cases x<;>rfl
def n0R (F:Nat)(c:N3)(begin:Bool):Option (W8×N3):=
 Option.bind (α:=((List (List Int))×T3)) (
  (
  Option.bind (I0v F c.values) fun clone=>
  some (clone,c.rank))) fun(values,rank)=>
 Option.bind (α:=((List (List Int))×(List (List Q3))×T3)) (
  iter (f0x F c) F (0,(values,[],rank))) fun(d,roads2,rank3)=>
 Option.bind (α:=((List (List Int))×(List (List Q3))×T3)) (
  if begin then
   Option.bind (f0t F c) fun begun=>
   if I0 24 d [begun]then
    if I0 24 roads2 [c.chart.begin]then
     Option.bind (g0m F c.rank) fun g=>
     some (d++[begun],roads2++[c.chart.begin],g)
    else none
   else none
  else
   some (d,roads2,rank3)) fun(f,roads3,rank4)=>
 some ((⟨f,roads3,rank4⟩:W8),c)
def u08:f0s=n0R:=by
 funext f c d;unfold f0s n0R;simp only[c0y,h0V]<;>rfl
def k08 (F:Nat)(c:N3)(b:Int)(begin:Bool):Option N3:=
 Option.bind (n0R F c begin) fun(f,b0)=>
 Option.bind (g0D F b0 f b) fun(to,b02)=>
 Option.bind (α:=((List Int)×(List (List Int))×N3×((List Int)×(List Q3)×(List y0)))) (
  iter (d0R F f to) F ([],[],0,b02,([],[],[]))) fun(d,values3,y3,(from_3,roads3,hops3))=>
 Option.bind (g0U F y3.chart.l f.rank from_3 hops3) fun g=>
 let i:=W ((d.length:Int)*(d.length:Int))
 let h:=W ((W ((d.length:Int)*y3.chart.tags))+i)
 some (⟨y3.chart,W (y3.at_+1),W (y3.work+h),d,values3,g⟩:N3)
def x0S:e0e=k08:=by
 funext g c f d;unfold e0e k08;simp only[c0y,h0V,u08]<;>rfl
def H0s (F:Nat):(N3×(List Int)×Int×Bool)->Int->Option (N3×(List Int)×Int×Bool)
 |(Crowd,tags,to,is),b=>
 Option.bind (g0u F Crowd) fun at_=>
 Option.bind (α:=Bool) (
  if at_==0 then
   some true
  else
   some (!is)) fun x=>
 Option.bind (k08 F Crowd b x) fun b0=>
 Option.bind (g0f F b0) fun(K3,best2)=>
 if best2 then
  Option.bind (g0u F b0) fun c=>
  if B0 K3 0 then
   Option.bind (h0l F b0 (gt K3 0)) fun d=>
   some (d,K3,c,true)
  else none
 else
  some (b0,tags,to,is)
def J0k:f0U=H0s:=by
 funext c;unfold f0U H0s;simp only[c0y,h0V,x0S]<;>rfl
def M04 (F:Nat)(p:a0c):Option a0c:=
 Option.bind (α:=(Int×Int×(List Int))) (
  (
  Option.bind (h0D F p.Class) fun clone=>
  some (p.Tags,p.Regs,clone))) fun(Tags,Regs,Class)=>
 Option.bind (α:=(Int×Int×(List Int)×(List b0B))) (
  iter (N0I F p) F (0,(Tags,Regs,Class,[]))) fun(c,Regs3,Class3,Stands2)=>
 some (⟨c,Regs3,Class3,Stands2⟩:a0c)
def O00:M0k=M04:=by
 funext d c;unfold M0k M04;simp only[c0y,h0V]<;>rfl
def M01 (F:Nat)(p:a0c):Option ((Unit⊕(a0C×a0c×Int×Int×Int×(List Int)))×Int):=
 Option.bind (N0a F p) fun right=>
 if !right then
  some ((.inl ()),11)
 else
  Option.bind (α:=(a0C×a0c×Int×Int×Int×(List Int))) (
   (
   Option.bind (M04 F p) fun copied=>
   if V2 8 p.Regs then
    some ((⟨[],0⟩:a0C),copied,0,0,0,(List.replicate p.Regs.toNat 0:List Int))
   else none)) fun(last,p2,at_,stand,work,regs)=>
  Option.bind (N0p F (last,p2,at_,stand,work,regs)) fun(c,p3,at_2,stand2,work2,regs2)=>
  some ((.inr (c,p3,at_2,stand2,work2,regs2)),0)
def O0h {α β:Type}(o:Option α):(Option.bind o fun _=>(none:Option β))=none:=by cases o<;>rfl
def O0y:M0t=M01:=by
 funext d c;unfold M0t M01;cases h:V2 8 c.Regs<;>simp only[q0,c0y,h0V,O00,O0h]<;>rfl
def N0k (F:Nat)(b:(List Int))(d:(Int×(N3×(List Int)×Int×Bool))):Option (V0 (Int×(N3×(List Int)×Int×Bool)) (N3×(List Int)×Int×Bool)):=
 match d with
 |(x,(c,f,h,g))=>
 if decide (x<(b.length:Int))then
  if B0 b x then
   Option.bind (G0c F (⟨(⟨c,f,h,g⟩:e0w)⟩:d0B)) fun sure=>
   if sure then
    some (.done (c,f,h,g))
   else
    Option.bind (H0s F (c,f,h,g) (gt b x)) fun(i,tags3,to3,is3)=>
    some (.next (W (x+1),(i,tags3,to3,is3)))
  else none
 else
  some (.done (c,f,h,g))
def P0Y:d0o=N0k:=by
 funext f c d;unfold d0o N0k;simp only[c0y,h0V,J0k]<;>rfl
def L0x (F:Nat):(a0u×(N3×(List Int)×Int×Bool))->(List Int)->Option (((Bool×Bool×(List G1))×Int)×(a0u×(N3×(List Int)×Int×Bool)))
 |(ending,(Crowd,tags,to,is)),b=>
 if ending.closed then
  some (((false,false,[]),13),(ending,(Crowd,tags,to,is)))
 else
  Option.bind (α:=(N3×(List Int)×Int×Bool)) (
   iter (N0k F b) F (0,(Crowd,tags,to,is))) fun(c,tags4,to4,is4)=>
  Option.bind (m0D F ((⟨ending.closed,W (ending.count+(b.length:Int))⟩:a0u),(c,tags4,to4,is4))) fun((tell,tell2,tell3),(ending2,(Crowd5,tags5,to5,is5)))=>
  some (((tell,tell2,tell3),0),(ending2,(Crowd5,tags5,to5,is5)))
def N09:H0m=L0x:=by
 funext c;unfold H0m L0x;simp only[c0y,h0V,P0Y]<;>rfl
def M0r (F:Nat)(p:a0c):Option ((Unit⊕(a0u×(a0C×a0c×Int×Int×Int×(List Int))))×Int):=
 Option.bind (α:=((Unit⊕(a0C×a0c×Int×Int×Int×(List Int)))×Int)) (
  Option.bind (M01 F p) fun(start,start2)=>
  match start with
  |.inl _=>
   some ((.inl ()),start2)
  |.inr (last,p2,at_,stand,work,regs)=>
   some ((.inr (last,p2,at_,stand,work,regs)),start2)) fun(r,e)=>
 match r with
 |.inl _=>
  if e != 0 then
   some ((.inl ()),e)
  else
   none
 |.inr (last2,p3,at_2,stand2,work2,regs2)=>
  if e != 0 then
   some ((.inl ()),e)
  else
   some ((.inr ((⟨false,0⟩:a0u),(last2,p3,at_2,stand2,work2,regs2))),0)
def O0j:K0x=M0r:=by
 funext d c;unfold K0x M0r;simp only[c0y,h0V,O0y]<;>rfl
def N0O (F:Nat):Option Bool:=
 Option.bind (α:=((Unit⊕(a0u×(N3×(List Int)×Int×Bool)))×Int)) (
  Option.bind (M0Z F) fun plus=>
  Option.bind (I0a F plus) fun(g,crowd2)=>
  match g with
  |.inl _=>
   some ((.inl ()),crowd2)
  |.inr (ending,(Crowd,tags,to,is))=>
   some ((.inr (ending,(Crowd,tags,to,is))),crowd2)) fun(s,e)=>
 match s with
 |.inl _=>
  Option.bind (α:=Int) (
   Option.bind (M0r F (⟨0,0,[],[]⟩:a0c)) fun(d,table4)=>
   match d with
   |.inl _=>
    some table4
   |.inr (ending8,(last2,p2,at_2,stand2,work2,regs2))=>
    some table4) fun f2=>
  Option.bind (α:=Bool) (
   if e != 0 then
    some true
   else
    some true) fun k=>
  Option.bind (α:=Bool) (
   if k then
    some true
   else
    some (f2 != 11)) fun o=>
  if o then
   some false
  else
   if !([98,97,97]:List Int).isEmpty then
    none
   else none
 |.inr (ending2,(Crowd2,tags2,to2,is2))=>
  Option.bind (α:=Int) (
   Option.bind (M0r F (⟨0,0,[],[]⟩:a0c)) fun(table,table2)=>
   match table with
   |.inl _=>
    some table2
   |.inr (ending3,(last,p,at_,stand,work,regs))=>
    some table2) fun f=>
  Option.bind (α:=Bool) (
   if e != 0 then
    some true
   else
    some false) fun x=>
  Option.bind (α:=Bool) (
   if x then
    some true
   else
    some (f != 11)) fun r=>
  if r then
   some false
  else
   if !([98,97,97]:List Int).isEmpty then
    Option.bind (L0x F (ending2,(Crowd2,tags2,to2,is2)) [98,97,97]) fun(((feed,feed2,feed3),feed4),(ending4,(Crowd3,tags3,to3,is3)))=>
    if !([98]:List Int).isEmpty then
     Option.bind (L0x F (ending4,(Crowd3,tags3,to3,is3)) [98]) fun(((h,feed6,feed7),feed8),(ending5,(Crowd4,tags4,to4,is4)))=>
     Option.bind (G0j F (ending5,(Crowd4,tags4,to4,is4))) fun(((close,close2,close3),close4),(ending6,(Crowd5,tags5,to5,is5)))=>
     Option.bind (L0x F (ending6,(Crowd5,tags5,to5,is5)) []) fun(((i,feed10,feed11),feed12),(ending7,(Crowd6,tags6,to6,is6)))=>
     Option.bind (α:=Bool) (
      if feed then
       some (!feed2)
      else
       some false) fun q=>
     Option.bind (α:=Bool) (
      if q then
       some feed6
      else
       some false) fun C=>
     Option.bind (α:=Bool) (
      if C then
       Option.bind (b08 F close3 [(⟨1,3⟩:G1)]) fun c=>
       some c
      else
       some false) fun v=>
     Option.bind (α:=Bool) (
      if v then
       some close2
      else
       some false) fun J=>
     Option.bind (α:=Bool) (
      if J then
       some (close4==0)
      else
       some false) fun y=>
     Option.bind (α:=Bool) (
      if y then
       some (feed12==13)
      else
       some false) fun I=>
     Option.bind (α:=Bool) (
      if I then
       some ending7.closed
      else
       some false) fun u=>
     Option.bind (α:=Bool) (
      if u then
       some (ending7.count==4)
      else
       some false) fun j=>
     some j
    else none
   else none
def Q0t:H0n=N0O:=by
 funext c;unfold H0n N0O;simp only[c0y,h0V,N09,O0j]<;>rfl
end Go.Proofs.YtmhooikfkhjijaaGreat
end
set_option maxRecDepth 100000
namespace Go.Proofs.YtmhooikfkhjijaaGreat
open Go.V Go.RowKit Old Go.X
def m0f:H0n Fb=some true:=by rw[Q0t];kernel_rfl
