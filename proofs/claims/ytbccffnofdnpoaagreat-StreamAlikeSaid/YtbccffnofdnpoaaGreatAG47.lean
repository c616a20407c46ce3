/- P. Its conditions: none. -/
import Derived.Test.YtbccffnofdnpoaaGreatAG44
import Derived.Test.YtbccffnofdnpoaaGreatAG46
import Derived.Test.YtbccffnofdnpoaaGreatAMd
import Derived.Test.YtbccffnofdnpoaaGreatAG43
import Derived.Test.YtbccffnofdnpoaaGreatAG33
open Bool (false_eq_true and_eq_true)
open Nat (lt_or_ge le_of_lt)
open List (all_eq_true mem_map length_append)
set_option linter.all false
namespace Go.Proofs.YtbccffnofdnpoaaGreat
open Go.V Go.RowKit Old Go.X
section
variable {F:Nat}{l:List D0}{n:Nat}{a:List B0}{b:Nat->List B0}{e:Nat->B0×Bool}{z:B0×Bool}
def goH (l:List D0)(n:Nat)(a:List B0)(b:Nat->List B0)(e:Nat->B0×Bool)(h:Hs)(x:Int):Hs:=if h.over then h else h.feed l n a b e x
def e8 (l:List D0)(n:Nat)(a:List B0)(b:Nat->List B0)(e:Nat->B0×Bool)(h:Hs)(w:List Int):Hs:=w.foldl (goH l n a b e) h
def v0J {h:Hs}(c:h.over=true):∀w:List Int,e8 l n a b e h w=h
 |[]=>rfl
 |x :: w=>by
  show e8 l n a b e (goH l n a b e h x) w=h;unfold goH;rw[if_pos c];exact v0J c w
def x06 {h:Hs}{i:Nat}(c:P7 l n h i)(hn:n<=1000):g0C F ⟨h.H l n a b e z⟩=some h.over:=by
 unfold g0C;rw[N0d c hn];rfl
def w0h {h:Hs}{i:Nat}(f:P7 l n h i)(hn:n<=1000)(g:2000<F)(cl:Bool)(c:Int):
  h0u F (⟨cl,c⟩,h.C l n a b e z)=some ((h.found.2,cl||h.over,h.found.1),(⟨cl,c⟩,h.C l n a b e z)):=by
 have hs:=x06 (F:=F) (a:=a) (b:=b) (e:=e) (z:=z) f hn;have d:=L0U (a:=a) (b:=b) (e:=e) (z:=z) f g;unfold Hs.H at hs;unfold Hs.C at d ⊢;unfold h0u;simp only[d,F0,hs];cases cl<;>simp
def C04 (K:Y2 l n a b e z F)(hn:n<=1000)(hw:∀x∈l,V2 x){w:List Int}(r:∀x∈w,J4 .u8 x)(hl:w.length<=1000):
  ∀(k i fu:Nat) (h:Hs) (j:Nat),i+k=w.length->k<fu->P7 l n h j->j<=10000+i->
   iter (c0h F w) fu ((i:Int),h.C l n a b e z)=some ((e8 l n a b e h (w.drop i)).C l n a b e z)/\∃m,m<=j+k/\P7 l n (e8 l n a b e h (w.drop i)) m:=by
 intro k
 induction k with
 |zero=>
  intro i fu h j hi g f t;obtain⟨fu,rfl⟩:∃m,fu=m+1:=⟨fu-1,O'⟩
  obtain rfl:i=w.length:=O'
  rw[List.drop_length];refine⟨?_,j,O',f⟩;unfold iter c0h Hs.C;simp[e8]
 |succ k ih=>
  intro i fu h j hi g f t;obtain⟨fu,rfl⟩:∃m,fu=m+1:=⟨fu-1,O'⟩
  have c:i<w.length:=O'
  have hs:=x06 (F:=F) (a:=a) (b:=b) (e:=e) (z:=z) f hn;rw[o0j c];have o:=r _ (a08 c);cases d:h.over with
  |true=>
   rw[v0J d];refine⟨?_,j,O',f⟩;unfold iter c0h Hs.C;unfold Hs.H at hs;simp only[q0,dec_lt c,Q4,c,hs,d]
  |false=>
   obtain⟨s1,s,_⟩:=K0G (z:=z) (e:=e) K hw f O' o;have hg:e8 l n a b e h (gt w (i:Int) :: w.drop (i+1))=e8 l n a b e (h.feed l n a b e (gt w (i:Int))) (w.drop (i+1)):=by
    show e8 l n a b e (goH l n a b e h (gt w (i:Int))) _=_;unfold goH;rw[d];rfl
   rw[hg];obtain⟨q,m,i2,i3⟩:=ih (i+1) fu (h.feed l n a b e (gt w (i:Int))) (j+1) O' O' s O';refine⟨?_,m,O',i3⟩;rw[<-q];rw[show iter (c0h F w) (fu+1) ((i:Int),h.C l n a b e z)=iter (c0h F w) fu (((i+1:Nat):Int),(h.feed l n a b e (gt w (i:Int))).C l n a b e z)from g0F (by
    unfold c0h;unfold Hs.C at s1 ⊢;unfold Hs.H at hs;simp only[q0,dec_lt c,Q4,c,hs,d,s1];rw[Go.V.K2 O'])]
def O0o (K:Y2 l n a b e z F)(hn:n<=1000)(hw:∀x∈l,V2 x){w:List Int}(k:∀x∈w,J4 .u8 x)(hl:w.length<=1000){h:Hs}{j:Nat}(i:P7 l n h j)(q:j<=10000){c:Int}(o:0<=c)(h1:c<=1000000):
  c09 F (⟨false,c⟩,h.C l n a b e z) w=some ((((e8 l n a b e h w).found.2,(e8 l n a b e h w).over,(e8 l n a b e h w).found.1),0),(⟨false,c+w.length⟩,(e8 l n a b e h w).C l n a b e z))/\∃m,m<=j+w.length/\P7 l n (e8 l n a b e h w) m:=by
 have f1:=K.f1;obtain⟨d,m,i2,i3⟩:=C04 K hn hw k hl w.length 0 F h j O' O' i O';rw[List.drop_zero]at d i3;refine⟨?_,m,i2,i3⟩;have f:=w0h (F:=F) (a:=a) (b:=b) (e:=e) (z:=z) i3 hn O' false (c+w.length);have g:W (c+(w.length:Int))=c+(w.length:Int):=J3 O' O';have d:iter (c0h F w) F (0,h.C l n a b e z)=_:=d;unfold Hs.C at d f ⊢;unfold c09;simp only[q0,d,g,f,Bool.false_or]
def O0K (K:Y2 l n a b e z F):g0a F l=some (.inr (⟨false,0⟩,(Hs.zero l z).C l n a b e z),0):=by
 unfold g0a;rw[O0V K];unfold Hs.C;simp only[q0,show((0:Int) != 0)=false from rfl]
def z0L {x:b0c}(h:x.Spans.length<=1000)(c:2000<F):j0k F x x=some true:=by
 unfold j0k;simp only[beq_self_eq_true,if_true,F0,I0d h c]
end
section
variable {F:Nat}{p:N1}
def goR (p:N1)(s:Pr.RS)(x:Int):Pr.RS:=if s.stand<0 then s else Pr.d04 p s x
def a8 (p:N1)(s:Pr.RS)(w:List Int):Pr.RS:=w.foldl (goR p) s
def u0P {s:Pr.RS}(c:s.stand<0):∀w:List Int,a8 p s w=s
 |[]=>rfl
 |x :: w=>by
  show a8 p (goR p s x) w=s;unfold goR;rw[if_pos c];exact u0P c w
def c08 (s:Pr.RS):List D5×Bool:=if s.tags.length=0 then([],false)else(g0R s.tags s.to,true)
def y0t {s:Pr.RS}:k09 F ⟨⟨⟨s.tags,s.to⟩,p,s.at_,s.stand,s.work,s.regs⟩⟩=some (decide (s.stand<0)):=rfl
def u0z {s:Pr.RS}(g:s.tags.length<=1000)(f:2000<F)(cl:Bool)(c:Int):
  h0Y F (⟨cl,c⟩,Pr.T5 p s)=some (((c08 s).2,cl||decide (s.stand<0),(c08 s).1),(⟨cl,c⟩,Pr.T5 p s)):=by
 have hs:=y0t (F:=F) (p:=p) (s:=s);unfold Pr.T5 h0Y c08
 by_cases d:s.tags.length=0
 ·have e:((s.tags.length:Int)==0)=true:=by simp[d]
  simp only[e,d,if_true,F0,hs];cases cl<;>simp
 ·have e:((s.tags.length:Int)==0)=false:=by rw[beq_eq_false_iff_ne];omega
  simp only[q0,e,d,t0N g f,hs];cases cl<;>simp
def u0H {b:Int}(h:J4 .u8 b):0<=b/\b<256:=⟨h.1,by have:=h.2;rw[show IntKind.u8.max=255 from rfl]at this;omega⟩
def J0D (h:Pr.Rd p){w:List Int}(u:∀x∈w,J4 .u8 x)(hl:w.length<=24)(q:2000<F):
  ∀(k i fu:Nat) (s:Pr.RS) (j:Nat),i+k=w.length->k<fu->Pr.RI p s j->j<=500+i->
   iter (h0C F w) fu ((i:Int),Pr.T5 p s)=some (Pr.T5 p (a8 p s (w.drop i)))/\∃m,m<=j+k/\Pr.RI p (a8 p s (w.drop i)) m:=by
 intro k
 induction k with
 |zero=>
  intro i fu s j hi o g t;obtain⟨fu,rfl⟩:∃m,fu=m+1:=⟨fu-1,O'⟩
  obtain rfl:i=w.length:=O'
  rw[List.drop_length];refine⟨?_,j,O',g⟩;unfold iter h0C Pr.T5;simp[a8]
 |succ k ih=>
  intro i fu s j hi o g t;obtain⟨fu,rfl⟩:∃m,fu=m+1:=⟨fu-1,O'⟩
  have c:i<w.length:=O'
  have hs:=y0t (F:=F) (p:=p) (s:=s);rw[o0j c];have f:=u0H (u _ (a08 c))
  by_cases d:s.stand<0
  ·rw[u0P d];refine⟨?_,j,O',g⟩;unfold iter h0C Pr.T5;simp only[q0,dec_lt c,Q4,c,hs,d]
  ·have s1:=Pr.I0m (F:=F) h g O' f q;have hg:a8 p s (gt w (i:Int) :: w.drop (i+1))=a8 p (Pr.d04 p s (gt w (i:Int))) (w.drop (i+1)):=by
    show a8 p (goR p s (gt w (i:Int))) _=_;unfold goR;rw[if_neg d]
   rw[hg];obtain⟨r,m,i2,i3⟩:=ih (i+1) fu (Pr.d04 p s (gt w (i:Int))) (j+1) O' O' (Pr.v0I h g f) O';refine⟨?_,m,O',i3⟩;rw[<-r];exact g0F (by
    unfold h0C;unfold Pr.T5 at s1 ⊢;simp only[q0,dec_lt c,Q4,c,hs,d,s1];rw[Go.V.K2 O'])
def M00 (h:Pr.Rd p){w:List Int}(o:∀x∈w,J4 .u8 x)(hl:w.length<=24)(f:2000<F){s:Pr.RS}{j:Nat}(k:Pr.RI p s j)(r:j<=500){c:Int}(q:0<=c)(h1:c<=1000000):
  l0w F (⟨false,c⟩,Pr.T5 p s) w=some ((((c08 (a8 p s w)).2,decide ((a8 p s w).stand<0),(c08 (a8 p s w)).1),0),(⟨false,c+w.length⟩,Pr.T5 p (a8 p s w)))/\∃m,m<=j+w.length/\Pr.RI p (a8 p s w) m:=by
 obtain⟨d,m,i2,i3⟩:=J0D h o hl f w.length 0 F s j O' O' k O';rw[List.drop_zero]at d i3;refine⟨?_,m,i2,i3⟩;have g:=u0z (F:=F) (p:=p) (s:=a8 p s w) (by have:=i3.tl;omega) f false (c+w.length);have i:W (c+(w.length:Int))=c+(w.length:Int):=J3 O' O';have d:iter (h0C F w) F (0,Pr.T5 p s)=_:=d;unfold Pr.T5 at d g ⊢;unfold l0w;simp only[q0,d,i,g,Bool.false_or]
def O0d {s:Pr.RS}(d:s.tags.length<=1000)(f:2000<F)(c:Int):
  l01 F (⟨false,c⟩,Pr.T5 p s)=some ((((c08 s).2,true,(c08 s).1),0),(⟨true,c⟩,Pr.T5 p s)):=by
 have d:=u0z (F:=F) (p:=p) (s:=s) d f true c;unfold Pr.T5 at d ⊢;unfold l01;simp only[q0,d,Bool.true_or]
structure PlR (p:N1)(s:Pr.RS)(c:Int)(i:Nat):Prop where
 ok:∃j:Nat,Pr.RI p s j/\(j:Int)<=24*i
 c0:0<=c
 c1:c<=24*i
def B0j (hs:Pr.Sm p)(d:Pr.d03 p=true)(c:2000<F):c00 F p=some (.inr (⟨false,0⟩,Pr.T5 p (Pr.d0V p)),0):=by
 unfold c00;rw[Pr.A0Z hs d c];unfold Pr.T5;simp only[q0,show((0:Int) != 0)=false from rfl]
end
end Go.Proofs.YtbccffnofdnpoaaGreat
set_option maxRecDepth 100000
noncomputable section
namespace Go.Proofs.YtbccffnofdnpoaaGreat
open Go.V Go.RowKit Go.X
def d0F {α β:Type}(x:Option (α×β)):(Option.bind x fun p=>some (p.1,p.2))=x:=by cases x<;>rfl
def t0D (F:Nat)(p:N1):Option N1:=
 Option.bind (α:=(Int×Int×(List Int))) (
  (
  Option.bind (K9 F p.Class) fun clone=>
  some (p.Tags,p.Regs,clone))) fun(Tags,Regs,Class)=>
 Option.bind (α:=(Int×Int×(List Int)×(List U6))) (
  iter (h07 F p) F (0,(Tags,Regs,Class,[]))) fun(c,Regs3,Class3,Stands2)=>
 some (⟨c,Regs3,Class3,Stands2⟩:N1)
def E0L:e0P=t0D:=by
 funext d c;unfold e0P t0D;simp only[l9,d0F]<;>rfl
def q07 (F:Nat)(p:N1):Option ((Unit⊕(V4×N1×Int×Int×Int×(List Int)))×Int):=
 Option.bind (j0A F p) fun right=>
 if !right then
  some ((.inl ()),11)
 else
  Option.bind (α:=(V4×N1×Int×Int×Int×(List Int))) (
   (
   Option.bind (t0D F p) fun copied=>
   if F4 8 p.Regs then
    some ((⟨[],0⟩:V4),copied,0,0,0,(List.replicate p.Regs.toNat 0:List Int))
   else none)) fun(last,p2,at_,stand,work,regs)=>
  Option.bind (f0F F (last,p2,at_,stand,work,regs)) fun(c,p3,at_2,stand2,work2,regs2)=>
  some ((.inr (c,p3,at_2,stand2,work2,regs2)),0)
def F0w {α β:Type}(o:Option α):(Option.bind o fun _=>(none:Option β))=none:=by cases o<;>rfl
def F0B:h0b=q07:=by
 funext d c;unfold h0b q07;cases h:F4 8 c.Regs<;>simp only[q0,l9,d0F,E0L,F0w]<;>rfl
def k0J (F:Nat)(p:N1):Option ((Unit⊕(Y4×(V4×N1×Int×Int×Int×(List Int))))×Int):=
 Option.bind (α:=((Unit⊕(V4×N1×Int×Int×Int×(List Int)))×Int)) (
  Option.bind (q07 F p) fun(start,start2)=>
  match start with
  |.inl _=>
   some ((.inl ()),start2)
  |.inr (last,p2,at_,stand,work,regs)=>
   some ((.inr (last,p2,at_,stand,work,regs)),start2)) fun(r,e)=>
 match r with
 |.inl _=>
  if e != 0 then
   some ((.inl ()),e)
  else
   none
 |.inr (last2,p3,at_2,stand2,work2,regs2)=>
  if e != 0 then
   some ((.inl ()),e)
  else
   some ((.inr ((⟨false,0⟩:Y4),(last2,p3,at_2,stand2,work2,regs2))),0)
def H0G:c00=k0J:=by
 funext d c;unfold c00 k0J;simp only[l9,d0F,F0B]<;>rfl
def s08 (F:Nat)(c:L2)(begin:Bool):Option (s9×L2):=
 Option.bind (α:=((List (List Int))×J2)) (
  (
  Option.bind (k0c F c.values) fun clone=>
  some (clone,c.rank))) fun(values,rank)=>
 Option.bind (α:=((List (List Int))×(List (List G4))×J2)) (
  iter (h0E F c) F (0,(values,[],rank))) fun(d,roads2,rank3)=>
 Option.bind (α:=((List (List Int))×(List (List G4))×J2)) (
  if begin then
   Option.bind (h0e F c) fun begun=>
   if J0 24 d [begun]then
    if J0 24 roads2 [c.chart.begin]then
     Option.bind (g0z F c.rank) fun g=>
     some (d++[begun],roads2++[c.chart.begin],g)
    else none
   else none
  else
   some (d,roads2,rank3)) fun(f,roads3,rank4)=>
 some ((⟨f,roads3,rank4⟩:s9),c)
def G0w:h0o=s08:=by
 funext d c f;unfold h0o s08;simp only[l9,d0F]<;>rfl
def p06 (F:Nat)(c:L2)(b:Int)(begin:Bool):Option L2:=
 Option.bind (s08 F c begin) fun(f,b0)=>
 Option.bind (i0I F b0 f b) fun(to,b02)=>
 Option.bind (α:=((List Int)×(List (List Int))×L2×((List Int)×(List G4)×(List B0)))) (
  iter (e0S F f to) F ([],[],0,b02,([],[],[]))) fun(d,values3,y3,(from_3,roads3,hops3))=>
 Option.bind (f00 F y3.chart.l f.rank from_3 hops3) fun g=>
 let i:=W ((d.length:Int)*(d.length:Int))
 let h:=W ((W ((d.length:Int)*y3.chart.tags))+i)
 some (⟨y3.chart,W (y3.at_+1),W (y3.work+h),d,values3,g⟩:L2)
def F02:e05=p06:=by
 funext c d g f;unfold e05 p06;simp only[l9,d0F,G0w]<;>rfl
def s09 (F:Nat):(L2×(List Int)×Int×Bool)->Int->Option (L2×(List Int)×Int×Bool)
 |(Crowd,tags,to,is),b=>
 Option.bind (d0l F Crowd) fun at_=>
 Option.bind (α:=Bool) (
  if at_==0 then
   some true
  else
   some (!is)) fun x=>
 Option.bind (p06 F Crowd b x) fun b0=>
 Option.bind (e0b F b0) fun(Q2,best2)=>
 if best2 then
  Option.bind (d0l F b0) fun c=>
  if C0 Q2 0 then
   Option.bind (e01 F b0 (gt Q2 0)) fun d=>
   some (d,Q2,c,true)
  else none
 else
  some (b0,tags,to,is)
def O0m:f0o=s09:=by
 funext c;unfold f0o s09;simp only[l9,d0F,F02]<;>rfl
def t0f (F:Nat)(b:(List Int))(d:(Int×(L2×(List Int)×Int×Bool))):Option (X0 (Int×(L2×(List Int)×Int×Bool)) (L2×(List Int)×Int×Bool)):=
 match d with
 |(x,(c,f,g,h))=>
 if decide (x<(b.length:Int))then
  if C0 b x then
   Option.bind (g0C F (⟨(⟨c,f,g,h⟩:a05)⟩:c0A)) fun sure=>
   if sure then
    some (.done (c,f,g,h))
   else
    Option.bind (s09 F (c,f,g,h) (gt b x)) fun(i,tags3,to3,is3)=>
    some (.next (W (x+1),(i,tags3,to3,is3)))
  else none
 else
  some (.done (c,f,g,h))
def I0M:c0h=t0f:=by
 funext d c f;unfold c0h t0f;simp only[l9,d0F,O0m]<;>rfl
def j0F (F:Nat):(Y4×(L2×(List Int)×Int×Bool))->(List Int)->Option (((Bool×Bool×(List D5))×Int)×(Y4×(L2×(List Int)×Int×Bool)))
 |(ending,(Crowd,tags,to,is)),b=>
 if ending.closed then
  some (((false,false,[]),13),(ending,(Crowd,tags,to,is)))
 else
  Option.bind (α:=(L2×(List Int)×Int×Bool)) (
   iter (t0f F b) F (0,(Crowd,tags,to,is))) fun(c,tags4,to4,is4)=>
  Option.bind (h0u F ((⟨ending.closed,W (ending.count+(b.length:Int))⟩:Y4),(c,tags4,to4,is4))) fun((tell,tell2,tell3),(ending2,(Crowd5,tags5,to5,is5)))=>
  some (((tell,tell2,tell3),0),(ending2,(Crowd5,tags5,to5,is5)))
def L08:c09=j0F:=by
 funext c;unfold c09 j0F;simp only[l9,d0F,I0M]<;>rfl
def y00 (F:Nat):Option Bool:=
 Option.bind (α:=((Unit⊕(Y4×(L2×(List Int)×Int×Bool)))×Int)) (
  Option.bind (p0s F) fun plus=>
  Option.bind (g0a F plus) fun(g,crowd2)=>
  match g with
  |.inl _=>
   some ((.inl ()),crowd2)
  |.inr (ending,(Crowd,tags,to,is))=>
   some ((.inr (ending,(Crowd,tags,to,is))),crowd2)) fun(s,e)=>
 match s with
 |.inl _=>
  Option.bind (α:=Int) (
   Option.bind (k0J F (⟨0,0,[],[]⟩:N1)) fun(c,table4)=>
   match c with
   |.inl _=>
    some table4
   |.inr (ending8,(last2,p2,at_2,stand2,work2,regs2))=>
    some table4) fun f2=>
  Option.bind (α:=Bool) (
   if e != 0 then
    some true
   else
    some true) fun k=>
  Option.bind (α:=Bool) (
   if k then
    some true
   else
    some (f2 != 11)) fun m=>
  if m then
   some false
  else
   if !([98,97,97]:List Int).isEmpty then
    none
   else none
 |.inr (ending2,(Crowd2,tags2,to2,is2))=>
  Option.bind (α:=Int) (
   Option.bind (k0J F (⟨0,0,[],[]⟩:N1)) fun(table,table2)=>
   match table with
   |.inl _=>
    some table2
   |.inr (ending3,(last,p,at_,stand,work,regs))=>
    some table2) fun f=>
  Option.bind (α:=Bool) (
   if e != 0 then
    some true
   else
    some false) fun x=>
  Option.bind (α:=Bool) (
   if x then
    some true
   else
    some (f != 11)) fun w=>
  if w then
   some false
  else
   if !([98,97,97]:List Int).isEmpty then
    Option.bind (j0F F (ending2,(Crowd2,tags2,to2,is2)) [98,97,97]) fun(((feed,feed2,feed3),feed4),(ending4,(Crowd3,tags3,to3,is3)))=>
    if !([98]:List Int).isEmpty then
     Option.bind (j0F F (ending4,(Crowd3,tags3,to3,is3)) [98]) fun(((h,feed6,feed7),feed8),(ending5,(Crowd4,tags4,to4,is4)))=>
     Option.bind (h0c F (ending5,(Crowd4,tags4,to4,is4))) fun(((close,close2,close3),close4),(ending6,(Crowd5,tags5,to5,is5)))=>
     Option.bind (j0F F (ending6,(Crowd5,tags5,to5,is5)) []) fun(((i,feed10,feed11),feed12),(ending7,(Crowd6,tags6,to6,is6)))=>
     Option.bind (α:=Bool) (
      if feed then
       some (!feed2)
      else
       some false) fun q=>
     Option.bind (α:=Bool) (
      if q then
       some feed6
      else
       some false) fun o=>
     Option.bind (α:=Bool) (
      if o then
       Option.bind (g0k F close3 [(⟨1,3⟩:D5)]) fun d=>
       some d
      else
       some false) fun u=>
     Option.bind (α:=Bool) (
      if u then
       some close2
      else
       some false) fun v=>
     Option.bind (α:=Bool) (
      if v then
       some (close4==0)
      else
       some false) fun r=>
     Option.bind (α:=Bool) (
      if r then
       some (feed12==13)
      else
       some false) fun y=>
     Option.bind (α:=Bool) (
      if y then
       some ending7.closed
      else
       some false) fun t=>
     Option.bind (α:=Bool) (
      if t then
       some (ending7.count==4)
      else
       some false) fun j=>
     some j
    else none
   else none
def F0k:f0p=y00:=by
 funext c;unfold f0p y00;simp only[l9,d0F,H0G,L08]<;>rfl
end Go.Proofs.YtbccffnofdnpoaaGreat
end
set_option maxRecDepth 100000
namespace Go.Proofs.YtbccffnofdnpoaaGreat
open Go.V Go.RowKit Old Go.X
def k0v:f0p Fb=some true:=by rw[F0k];kernel_rfl
end Go.Proofs.YtbccffnofdnpoaaGreat
namespace Go.Proofs.YtbccffnofdnpoaaGreat
open Classical
section
variable {K S:Type}[Inhabited K]
noncomputable def Z7 (all:List K)(x:K):List K:=if x∈all then all else all++[x]
noncomputable def l5 (all:List K)(x:K):Nat:=all.findIdx fun y=>decide (y=x)
theorem q0n (all:List K)(x:K):all <+: Z7 all x:=by
 grind [Z7]
theorem A0M (all:List K)(x:K):x∈Z7 all x:=by
 grind [Z7]
theorem E0G {all:List K}(h:all.Nodup)(x:K):(Z7 all x).Nodup:=by
 grind [Z7]
theorem G0c {all:List K}{x y:K}(h:y∈Z7 all x):y∈all\/(y=x/\x∉all/\Z7 all x=all++[x]):=by
 unfold Z7 at h ⊢
 grind
def i0P {all:List K}{x:K}(h:x∈all):l5 all x<all.length:=by
 simp_all[l5]
def g0i {all:List K}{x:K}(h:x∈all):all[l5 all x]?=some x:=by
 have hl:=i0P h;have:=List.findIdx_getElem (xs:=all) (p:=fun y=>decide (y=x)) (w:=hl);rw[List.getElem?_eq_getElem hl];congr 1;exact of_decide_eq_true this
theorem s0t {all more:List K}{x:K}(h:x∈all)(hp:all <+: more):l5 more x=l5 all x:=by
 obtain⟨r,rfl⟩:=hp
 simp_all[l5,List.findIdx_append]
noncomputable def n5 (nxt:K->Nat->Option (K×S))(k:K)(all:List K):Nat->List K
 |0=>all
 |c+1=>match nxt k c with
  |none=>n5 nxt k all c
  |some (x,_)=>Z7 (n5 nxt k all c) x
theorem s0V (nxt:K->Nat->Option (K×S))(k:K)(all:List K):∀c,all <+: n5 nxt k all c
 |0=>List.prefix_refl _
 |c+1=>by
  unfold n5;split
  ·simp[s0V]
  ·exact(s0V nxt k all c).trans (q0n _ _)
def s0v (nxt:K->Nat->Option (K×S))(k:K){all:List K}(h:all.Nodup):∀c,(n5 nxt k all c).Nodup
 |0=>h
 |c+1=>by
  unfold n5;split
  ·simp_all[s0v]
  simp_all[E0G,s0v]
theorem o0Y (nxt:K->Nat->Option (K×S))(k:K)(all:List K){x:K}{s:S}:∀{c d:Nat},d<c->nxt k d=some (x,s)->x∈n5 nxt k all c
 |c+1,d,h,hx=>by
  unfold n5;rcases lt_or_ge d c with h1|h1
  ·have:=o0Y nxt k all h1 hx
   grind [q0n]
  ·obtain rfl:d=c:=O'
   simp_all[A0M]
theorem j09 (nxt:K->Nat->Option (K×S))(k:K)(all:List K):∀(c:Nat) {x:K},x∈n5 nxt k all c->x∈all\/(x∉all/\∃d s,d<c/\nxt k d=some (x,s))
 |0,x,h=>.inl h
 |c+1,x,h=>by
  unfold n5 at h;split at h
  ·rcases j09 nxt k all c h with h1|⟨h1,d,s,h2,h3⟩
   ·simp_all
   grind
  ·rcases G0c h with h0|⟨rfl,h1,_⟩
   ·rcases j09 nxt k all c h0 with h1|⟨h1,d,s,h2,h3⟩
    ·simp_all
    grind
   grind
noncomputable def runK (nxt:K->Nat->Option (K×S))(C:Nat)(k0:K):Nat->List K
 |0=>[k0]
 |i+1=>if i<(runK nxt C k0 i).length then n5 nxt ((runK nxt C k0 i).getD i default) (runK nxt C k0 i) C else runK nxt C k0 i
variable (nxt:K->Nat->Option (K×S))(C:Nat)(k0:K)
theorem w0m (i:Nat):runK nxt C k0 i <+: runK nxt C k0 (i+1):=by
 rw[show runK nxt C k0 (i+1)=if i<(runK nxt C k0 i).length then n5 nxt ((runK nxt C k0 i).getD i default) (runK nxt C k0 i) C else runK nxt C k0 i from rfl]
 grind [s0V]
theorem d06 {i j:Nat}(h:i<=j):runK nxt C k0 i <+: runK nxt C k0 j:=by
 induction j with
 |zero=>simp_all
 |succ j ih=>
  rcases lt_or_ge j i with c|c
  ·grind
  grind [w0m]
def p0U:∀i,(runK nxt C k0 i).Nodup
 |0=>by simp[runK]
 |i+1=>by
  rw[show runK nxt C k0 (i+1)=if i<(runK nxt C k0 i).length then n5 nxt ((runK nxt C k0 i).getD i default) (runK nxt C k0 i) C else runK nxt C k0 i from rfl];split
  ·simp[s0v,p0U]
  simp[p0U]
theorem E0F (i:Nat):0<(runK nxt C k0 i).length:=by
 have:=(d06 nxt C k0 (Nat.zero_le i)).length_le
 grind [runK]
theorem j0o {i j q:Nat}(c:i<=j)(h:q<(runK nxt C k0 i).length):(runK nxt C k0 j).getD q default=(runK nxt C k0 i).getD q default:=by
 obtain⟨r,d⟩:=d06 nxt C k0 c
 grind
theorem A0k:∀(i:Nat) {x:K},x∈runK nxt C k0 i->x=k0\/∃q d s,q<i/\q<(runK nxt C k0 q).length/\d<C/\nxt ((runK nxt C k0 q).getD q default) d=some (x,s)/\q<l5 (runK nxt C k0 i) x
 |0,x,h=>.inl (by simp_all[runK])
 |i+1,x,h=>by
  have hp:=w0m nxt C k0 i;have f:=h;rw[show runK nxt C k0 (i+1)=if i<(runK nxt C k0 i).length then n5 nxt ((runK nxt C k0 i).getD i default) (runK nxt C k0 i) C else runK nxt C k0 i from rfl]at h;have old:x∈runK nxt C k0 i->x=k0\/∃q d s,q<i+1/\q<(runK nxt C k0 q).length/\d<C/\nxt ((runK nxt C k0 q).getD q default) d=some (x,s)/\q<l5 (runK nxt C k0 (i+1)) x:=fun j=>by
   rcases A0k i j with h1|⟨q,d,s,h1,h2,h3,h4,h5⟩
   ·simp_all
   grind [s0t]
  split at h
  ·rename_i hi;rcases j09 nxt _ _ C h with h1|⟨h1,d,s,h2,h3⟩
   ·simp_all
   ·refine .inr ⟨i,d,s,O',hi,h2,h3,?_⟩;have g:=g0i f;rcases lt_or_ge i (l5 (runK nxt C k0 (i+1)) x)with c|c
    ·exact c
    ·obtain⟨r,k⟩:=hp
     grind
  simp_all
theorem v0i {i j:Nat}(hi:i<j)(hl:i<(runK nxt C k0 i).length){d:Nat}(hd:d<C){x:K}{s:S}(h:nxt ((runK nxt C k0 i).getD i default) d=some (x,s)):x∈runK nxt C k0 j:=by
 refine(d06 nxt C k0 (show i+1<=j from hi)).subset ?_;rw[show runK nxt C k0 (i+1)=if i<(runK nxt C k0 i).length then n5 nxt ((runK nxt C k0 i).getD i default) (runK nxt C k0 i) C else runK nxt C k0 i from rfl,if_pos hl]
 grind [o0Y]
def J6 (B n:Nat):Prop:=n=(runK nxt C k0 n).length/\∀i,i<n->i<(runK nxt C k0 i).length/\(runK nxt C k0 i).length<=B
def j0H (B i:Nat):Prop:=i<(runK nxt C k0 i).length/\B<(runK nxt C k0 i).length/\∀j,j<i->j<(runK nxt C k0 j).length/\(runK nxt C k0 j).length<=B
theorem r0f (B:Nat):(∃n,n<=B/\J6 nxt C k0 B n)\/∃i,i<=B/\j0H nxt C k0 B i:=by
 have key:∀m,(∀i,i<m->i<(runK nxt C k0 i).length/\(runK nxt C k0 i).length<=B)->m<=B+1->(∃n,n<=B/\J6 nxt C k0 B n)\/∃i,i<=B/\j0H nxt C k0 B i:=by
  intro m
  induction h:B+1-m generalizing m with
  |zero=>
   intro hm hle;have:=hm B O';omega
  |succ t ih=>
   intro hm hle
   by_cases c1:m<(runK nxt C k0 m).length
   ·by_cases c2:(runK nxt C k0 m).length<=B
    ·exact ih (m+1) O' (fun i hi=>by
      grind) O'
    ·exact .inr ⟨m,O',c1,O',hm⟩
   ·have c:m<=(runK nxt C k0 m).length:=by
     rcases Nat.eq_zero_or_pos m with h0|h0
     ·omega
     ·have h1:=(hm (m-1) O').1;have d:=(d06 nxt C k0 (show m-1<=m from O')).length_le;omega
    exact .inl ⟨m,O',O',hm⟩
 exact key 0 (fun i h=>O') O'
theorem J6.le {B n:Nat}(h:J6 nxt C k0 B n):n<=B:=by
 obtain⟨h1,c⟩:=h
 grind
theorem J6.more {B c n:Nat}(h:J6 nxt C k0 B n)(f:n<=c):J6 nxt C k0 c n:=by
 obtain⟨h1,d⟩:=h;refine⟨h1,fun i hi=>⟨(d i hi).1,?_⟩⟩;have:=(d06 nxt C k0 (le_of_lt hi)).length_le;omega
def J6.uniq {B g n d:Nat}(h:J6 nxt C k0 B n)(f:J6 nxt C k0 g d):n=d:=by
 rcases Nat.lt_trichotomy n d with c|c|c
 ·have:=(f.2 n c).1;have:=h.1;omega
 ·exact c
 ·have:=(h.2 d c).1;have:=f.1;omega
theorem J6.less {B f n i:Nat}(h:J6 nxt C k0 B n)(d:j0H nxt C k0 f i):f<n:=by
 rcases lt_or_ge i n with c|c
 ·have:=(d06 nxt C k0 (le_of_lt c)).length_le;have:=h.1;have:=d.2.1;omega
 ·rcases lt_or_ge n i with c2|c2
  ·have:=(d.2.2 n c2).1;have:=h.1;omega
  ·obtain rfl:i=n:=O'
   have:=d.1;have:=h.1;omega
def J6.fits {B c n i:Nat}(h:J6 nxt C k0 B n)(f:n<=c)(d:j0H nxt C k0 c i):False:=by
 have:=J6.less nxt C k0 h d;omega
end
end Go.Proofs.YtbccffnofdnpoaaGreat
namespace Go.Proofs.YtbccffnofdnpoaaGreat
open Go.V Go.RowKit Go.X
variable {F:Nat}
def O0l (d:E4)(hd:Sm d)(i:Nat)(hi:i<d.States.length)(f:2000<F):iter (j0b F d (i:Int)) F 0=some (if(gt d.States (i:Int)).Edges.all (b0x d (gt d.States (i:Int)).Regs)then .inr ()else .inl ()):=by
 have hm:=a08 hi;obtain⟨k,hk⟩:=c0S (body:=j0b F d (i:Int)) (gt d.States (i:Int)).Edges (b0x d (gt d.States (i:Int)).Regs) (.inr ()) (fun _=>.inl ()) (fun j c=>by
  unfold j0b;have hs:=hd.sr _ hm _ (a08 c);simp only[dec_lt c,Q4,c,decide_true,if_true];rw[H0J d _ _ O' f];cases b0x d (gt d.States (i:Int)).Regs (gt (gt d.States (i:Int)).Edges (j:Int))
  ·simp
  ·simp only[q0];rw[Go.V.K2 (by have:=hd.ed _ hm;omega)]) (by
  unfold j0b;simp) (fu:=F) (by have:=hd.ed _ hm;omega)
 exact hk
def D0g (d:E4)(hd:Sm d)(c:2000<F):k0K F d=some (d0j d):=by
 unfold k0K d0j
 by_cases h1:d.Tags<1
 ·simp[h1];intro h;omega
 by_cases f:d.Tags>19
 ·simp[h1,f];intro _ h;omega
 have o:decide (d.Tags<1)=false:=by simpa using h1
 have r:decide (d.Tags>19)=false:=by simpa using f
 have u:decide (1<=d.Tags)=true:=by simp;omega
 have s:decide (d.Tags<=19)=true:=by simp;omega
 cases m:d.Tags.tmod 2==0
 ·cases g:(d.States.length:Int)==0
  ·have w:decide ((d.States.length:Int)>400)=false:=by simp;have:=hd.st;omega
   have v:decide ((d.States.length:Int)<=400)=true:=by simp;have:=hd.st;omega
   have t:=hd.cl;simp only[q0,o,r,u,s,w,v,Bool.true_and];rw[r00 d.Class O' c,p0l d.Class O' c];cases x:I9 d.Class
   ·simp
   ·obtain⟨k,hk⟩:=c0S (body:=o0p F d (O0 d.Class)) d.States (a0r d (O0 d.Class).length) (.inr ()) (fun _=>.inl ()) (fun i hi=>by
     have hm:=a08 hi;have hk:=O0l (F:=F) d hd i hi c;have j:=D0H (F:=F) (gt d.States (i:Int)) d.Tags (by have:=hd.ac _ hm;omega) c;unfold o0p a0r;simp only[dec_lt hi,Q4,hi,decide_true,if_true]
     by_cases g1:(gt d.States (i:Int)).Regs<0
     ·have:¬(0<=(gt d.States (i:Int)).Regs):=O'
      simp[g1,this]
     have f1:decide ((gt d.States (i:Int)).Regs<0)=false:=by simpa using g1
     have f2:decide (0<=(gt d.States (i:Int)).Regs)=true:=by simp;omega
     have f3:decide ((gt d.States (i:Int)).Regs>1216)=false:=by simp;have:=hd.rg _ hm;omega
     have f4:decide ((gt d.States (i:Int)).Regs<=1216)=true:=by simp;have:=hd.rg _ hm;omega
     simp only[q0,f1,f2,f3,f4,Bool.true_and];cases g2:((gt d.States (i:Int)).Edges.length:Int)==((O0 d.Class).length:Int)
     ·have:(((gt d.States (i:Int)).Edges.length:Int) != ((O0 d.Class).length:Int))=true:=by simp[bne,g2]
      simp[this]
     ·have:(((gt d.States (i:Int)).Edges.length:Int) != ((O0 d.Class).length:Int))=false:=by simp[bne,g2]
      simp only[q0,this,Bool.true_and,j];cases b0e (gt d.States (i:Int)) d.Tags
      ·simp
      ·simp only[q0,hk,Bool.true_and];cases(gt d.States (i:Int)).Edges.all (b0x d (gt d.States (i:Int)).Regs)
       ·simp
       ·simp only[if_true];rw[Go.V.K2 (by have:=hd.st;omega)]) (by
     unfold o0p;simp) (fu:=F) (by have:=hd.st;omega)
    have q:C0 d.States 0=true:=R0 (Int.le_refl _) (by simp at g;have:=List.length_pos_iff.2 g;omega);simp only[q0,hk];cases d.States.all (a0r d (O0 d.Class).length)
    ·simp
    ·simp[q]
  ·simp[h1,f,m,g]
 ·simp[h1,f,m]
end Go.Proofs.YtbccffnofdnpoaaGreat
namespace Go.Proofs.YtbccffnofdnpoaaGreat
open Go.V Go.RowKit Go.X
def H0N (d:E4)(i j:Nat):Prop:=∃x∈(gt d.States (i:Int)).Edges,x.To=(j:Int)
inductive i06 (d:E4):Nat->Prop
 |zero:i06 d 0
 |step {i j:Nat}:i06 d i->H0N d i j->i06 d j
structure RdD (d:E4):Prop where
 sm:Sm d
 pos:0<d.States.length
 st4:d.States.length<=400
 cl:I9 d.Class=true
 r0:(gt d.States 0).Regs=0
 rg:∀s∈d.States,0<=s.Regs
 ac:∀s∈d.States,(∀n∈s.Accept,n=-1\/n=-2\/0<=n/\n<s.Regs)/\(s.Accept=[]\/(s.Accept.length:Int)=d.Tags)
 tg:1<=d.Tags/\d.Tags<=19/\(d.Tags.tmod 2==0)=false
 en:∀s∈d.States,s.Edges.length=(O0 d.Class).length
 to:∀s∈d.States,∀x∈s.Edges,(x.To=-1/\x.Src=[])\/(0<=x.To/\x.To<(d.States.length:Int)/\(x.Src.length:Int)=(gt d.States x.To).Regs/\∀n∈x.Src,n=-1\/0<=n/\n<s.Regs)
def v0l {n r:Int}:okN n r=true↔n=-1\/0<=n/\n<r:=by
 unfold okN;simp
def n05 {d:E4}(hs:Sm d)(h:d0j d=true):RdD d:=by
 unfold d0j at h;simp only[and_eq_true,decide_eq_true_eq,Bool.not_eq_true',all_eq_true]at h;obtain⟨⟨⟨⟨⟨⟨⟨h1,m⟩,i⟩,g⟩,r⟩,o⟩,q⟩,k⟩:=h;have f:∀s∈d.States,0<=s.Regs/\s.Edges.length=(O0 d.Class).length/\b0e s d.Tags=true/\∀x∈s.Edges,b0x d s.Regs x=true:=by
  intro s hs;have:=q s hs;unfold a0r at this;simp only[and_eq_true,decide_eq_true_eq,all_eq_true,beq_iff_eq]at this;obtain⟨⟨⟨⟨g1,_⟩,g2⟩,g3⟩,g4⟩:=this;exact⟨g1,O',g3,g4⟩
 refine⟨hs,?_,O',o,by simpa using k,fun s hs=>(f s hs).1,fun s hs=>?_,⟨h1,m,i⟩,fun s hs=>(f s hs).2.1,fun s hs x j=>?_⟩
 ·simp at g;exact List.length_pos_iff.2 g
 ·have:=(f s hs).2.2.1;unfold b0e at this;simp only[Bool.or_eq_true,and_eq_true,beq_iff_eq,all_eq_true]at this;rcases this with c|⟨g1,g2⟩
  ·have:s.Accept=[]:=List.eq_nil_of_length_eq_zero O';exact⟨fun n hn=>by rw[this]at hn;simp at hn,.inl this⟩
  ·refine⟨fun n hn=>?_,.inr g1⟩;rcases g2 n hn with c|c
   ·exact .inr (.inl c)
   ·rcases v0l.1 c with c|c
    ·exact .inl c
    ·exact .inr (.inr c)
 ·have:=(f s hs).2.2.2 x j;unfold b0x at this;split at this
  ·rename_i c;exact .inl ⟨c,by simpa using this⟩
  ·simp only[and_eq_true,decide_eq_true_eq,beq_iff_eq,all_eq_true]at this;exact .inr ⟨this.1.1.1,this.1.1.2,this.1.2,fun n hn=>v0l.1 (this.2 n hn)⟩
end Go.Proofs.YtbccffnofdnpoaaGreat
namespace Go.Proofs.YtbccffnofdnpoaaGreat
open Go.V Go.RowKit Go.X
open Classical
section
variable {K:Type}[Inhabited K](R:K->Int)(acc:K->List Int)(nxt:K->Nat->Option (K×List Int))(C:Nat)
noncomputable def W7 (L:List K)(k:K)(c:Nat):I6:=match nxt k c with
 |none=>⟨-1,[]⟩
 |some (x,s)=>⟨(l5 L x:Nat),s⟩
noncomputable def r8 (L:List K)(k:K):j7:=⟨R k,acc k,(List.range C).map (W7 nxt L k)⟩
noncomputable def b0k (tags:Int)(cls:List Int)(L:List K):E4:=⟨tags,cls,L.map (r8 R acc nxt C L)⟩
structure OkL (tags:Int)(L:List K):Prop where
 rg:∀k∈L,0<=R k/\R k<=1216
 ac:∀k∈L,((acc k).length:Int)=0\/(((acc k).length:Int)=tags/\∀v∈acc k,v=-2\/v=-1\/(0<=v/\v<R k))
 nx:∀k∈L,∀c,c<C->∀x s,nxt k c=some (x,s)->x∈L/\(s.length:Int)=R x/\∀v∈s,v=-1\/(0<=v/\v<R k)
def x0X {v r:Int}(h:v=-1\/(0<=v/\v<r)):okN v r=true:=by
 unfold okN;rcases h with rfl|⟨h1,h2⟩
 ·rfl
 ·simp[h1,h2]
def w0r {α β:Type}[Inhabited α][Inhabited β]{L:List α}{f:α->β}{i:Nat}(h:i<L.length):gt (L.map f) (i:Int)=f (L.getD i default):=by
 refine P2 ?_;rw[List.getElem?_map,List.getElem?_eq_getElem h];simp[List.getD,h]
variable {R acc nxt C}
def F0G {tags:Int}{cls:List Int}{L:List K}(h:OkL R acc nxt C tags L)(t1:1<=tags)(t2:tags<=19)(t3:tags.tmod 2≠0)(o:I9 cls=true)(y:C=(O0 cls).length)(w:L≠[])(hl:L.length<=400)(I:R (L.getD 0 default)=0):d0j (b0k R acc nxt C tags cls L)=true:=by
 have t:0<L.length:=List.length_pos_iff.2 w;have d:(b0k R acc nxt C tags cls L).States.length=L.length:=by simp[b0k]
 have e0:gt (b0k R acc nxt C tags cls L).States 0=r8 R acc nxt C L (L.getD 0 default):=w0r (i:=0) t;have g:∀k∈L,∀c,c<C->b0x (b0k R acc nxt C tags cls L) (R k) (W7 nxt L k c)=true:=by
  intro k hk c o;unfold W7;cases e:nxt k c with
  |none=>simp[b0x]
  |some p=>
   obtain⟨x,s⟩:=p;obtain⟨u,a2,a3⟩:=h.nx k hk c o x s e;have hp:=i0P u;have j:=g0i u;have hg:gt (b0k R acc nxt C tags cls L).States ((l5 L x:Nat):Int)=r8 R acc nxt C L x:=by
    refine P2 ?_;show(L.map (r8 R acc nxt C L))[l5 L x]?=_;rw[List.getElem?_map,j];rfl
   unfold b0x;simp only;rw[if_neg O',hg,d];have:∀v∈s,okN v (R k)=true:=fun v m=>x0X (a3 v m);simp only[r8,a2,beq_self_eq_true,Bool.and_true];simp only[and_eq_true,decide_eq_true_eq,all_eq_true];exact⟨⟨O',O'⟩,this⟩
 have r:∀k∈L,a0r (b0k R acc nxt C tags cls L) (O0 cls).length (r8 R acc nxt C L k)=true:=by
  intro k hk;obtain⟨r1,r2⟩:=h.rg k hk;have f:b0e (r8 R acc nxt C L k) tags=true:=by
   unfold b0e r8;rcases h.ac k hk with q|⟨q1,q2⟩
   ·simp only[q];rfl
   ·simp only[q1,beq_self_eq_true,Bool.true_and];rw[Bool.or_eq_true];right;rw[all_eq_true];intro v m;rcases q2 v m with z|z
    ·rw[z];rfl
    ·rw[x0X z,Bool.or_true]
  unfold a0r;simp only[and_eq_true,decide_eq_true_eq,all_eq_true,beq_iff_eq];refine⟨⟨⟨⟨r1,r2⟩,?_⟩,f⟩,fun x J=>?_⟩
  ·simp[r8,y]
  ·obtain⟨c,c1,rfl⟩:=mem_map.1 J;exact g k hk c (List.mem_range.1 c1)
 unfold d0j;rw[e0];simp only[and_eq_true,decide_eq_true_eq,all_eq_true,beq_iff_eq,Bool.not_eq_true',beq_eq_false_iff_ne,d];refine⟨⟨⟨⟨⟨⟨⟨t1,t2⟩,t3⟩,O'⟩,O'⟩,o⟩,fun s hs=>?_⟩,I⟩;obtain⟨k,hk,rfl⟩:=mem_map.1 hs;exact r k hk
def N0X {tags:Int}{cls:List Int}{k0:K}{B n:Nat}(h:J6 nxt C k0 B n):∀q,q<n->i06 (b0k R acc nxt C tags cls (runK nxt C k0 n)) q:=by
 have hn:=h.1;intro q
 induction q using Nat.strongRecOn with
 |_ q ih=>
  intro hq;have o:q<(runK nxt C k0 n).length:=O'
  have g:=p0U nxt C k0 n;have c:=List.getElem_mem o;have f:l5 (runK nxt C k0 n) (runK nxt C k0 n)[q]=q:=by
   have h1:=i0P c;have k:=g0i c;rw[List.getElem?_eq_getElem h1]at k;exact(List.getElem_inj g).1 (Option.some.inj k)
  rcases A0k nxt C k0 n c with h1|⟨p,d,s,p1,p2,p3,p4,p5⟩
  ·have k:(runK nxt C k0 n).getD 0 default=k0:=by
    have:=j0o nxt C k0 (i:=0) (j:=n) (q:=0) (Nat.zero_le _) (by simp[runK]);rw[this];rfl
   have m:(runK nxt C k0 n)[0]' O'=(runK nxt C k0 n).getD 0 default:=by simp[List.getD,show 0<(runK nxt C k0 n).length from O']
   have r:=m.trans k;have:q=0:=(List.getElem_inj g).1 (by rw[h1,r]);subst this;exact .zero
  ·rw[f]at p5;refine .step (ih p p5 O') ⟨W7 nxt (runK nxt C k0 n) ((runK nxt C k0 n).getD p default) d,?_,?_⟩
   ·have:gt (b0k R acc nxt C tags cls (runK nxt C k0 n)).States (p:Int)=r8 R acc nxt C (runK nxt C k0 n) ((runK nxt C k0 n).getD p default):=w0r O';rw[this];exact mem_map.2 ⟨d,List.mem_range.2 p3,rfl⟩
   ·rw[j0o nxt C k0 (le_of_lt p1) p2];unfold W7;rw[p4];simp only[f]
def p0w {tags:Int}{k0:K}{B n:Nat}(h:J6 nxt C k0 B n)(P:K->Prop)(o:P k0)(hs:∀k,P k->∀c,c<C->∀x s,nxt k c=some (x,s)->P x/\(s.length:Int)=R x/\∀v∈s,v=-1\/(0<=v/\v<R k))
  (q:∀k,P k->0<=R k/\R k<=1216) (ha:∀k,P k->((acc k).length:Int)=0\/(((acc k).length:Int)=tags/\∀v∈acc k,v=-2\/v=-1\/(0<=v/\v<R k))):OkL R acc nxt C tags (runK nxt C k0 n)/\∀i,∀k∈runK nxt C k0 i,P k:=by
 have g:∀i,∀k∈runK nxt C k0 i,P k:=by
  intro i
  induction i with
  |zero=>intro k hk;simp[runK]at hk;rw[hk];exact o
  |succ i ih=>
   intro k hk;rw[show runK nxt C k0 (i+1)=if i<(runK nxt C k0 i).length then n5 nxt ((runK nxt C k0 i).getD i default) (runK nxt C k0 i) C else runK nxt C k0 i from rfl]at hk;split at hk
   ·rename_i hi;rcases j09 nxt _ _ C hk with h1|⟨_,d,s,h2,h3⟩
    ·exact ih k h1
    ·refine(hs _ (ih _ ?_) d h2 k s h3).1;rw[show(runK nxt C k0 i).getD i default=(runK nxt C k0 i)[i] by simp[List.getD,hi]];exact List.getElem_mem hi
   ·exact ih k hk
 refine⟨⟨fun k hk=>q k (g n k hk),fun k hk=>ha k (g n k hk),fun k hk c m x s e=>?_⟩,g⟩;obtain⟨t,a2,a3⟩:=hs k (g n k hk) c m x s e;refine⟨?_,a2,a3⟩;have hp:=i0P hk;have j:=g0i hk;have f:l5 (runK nxt C k0 n) k<n:=by have:=h.1;omega
 have hl:=(h.2 _ f).1;have r:(runK nxt C k0 (l5 (runK nxt C k0 n) k)).getD (l5 (runK nxt C k0 n) k) default=k:=by
  rw[<-j0o nxt C k0 (le_of_lt f) hl];rw[List.getD_eq_getElem?_getD,j];rfl
 exact v0i nxt C k0 f hl m (by rw[r];exact e)
end
end Go.Proofs.YtbccffnofdnpoaaGreat
namespace Go.Proofs.YtbccffnofdnpoaaGreat
open Go.V Go.RowKit Go.X
def u8_in (x:Int):J4 .u8 (IntKind.u8.wrap x):=by
 unfold J4;have h1:IntKind.u8.wrap x=x % 256:=by rfl
 have d:IntKind.u8.min=0:=by rfl
 have c:IntKind.u8.max=255:=by rfl
 rw[h1,d,c];omega
def c0U (s:List (List Bool)×List Int)(k:List Bool):List (List Bool)×List Int:=if s.1.contains k then(s.1,s.2++[(s.1.idxOf k:Int)])else(s.1++[k],s.2++[(s.1.length:Int)])
def D3 (key:Nat->List Bool):Nat->List (List Bool)×List Int
 |0=>([],[])
 |b+1=>c0U (D3 key b) (key b)
def q0U:∀(o:List Int) (c n:Int),E7 (o++[c]) n=(E7 o n).bind fun m=>E7 [c] m
 |[],c,n=>rfl
 |x :: r,c,n=>by
  show E7 (x :: (r++[c])) n=_;unfold E7;split
  ·rfl
  ·exact q0U r c _
def j07:∀(o:List Int) (c:Int) (b:Nat) (out:List Int),b8 (o++[c]) b out=b8 [c] (b+o.length) (b8 o b out)
 |[],c,b,out=>rfl
 |x :: r,c,b,out=>by
  show b8 (x :: (r++[c])) b out=_;rw[b8,j07 r c (b+1),List.length_cons,show b+(r.length+1)=b+1+r.length from O'];rfl
def i0M:∀(o:List Int) (b:Nat) (out:List Int),(∀x∈out,J4 .u8 x)->∀x∈b8 o b out,J4 .u8 x
 |[],b,out,h=>h
 |c :: r,b,out,h=>by
  rw[b8];refine i0M r (b+1) _ fun x d=>?_;split at d
  ·rcases List.mem_append.1 d with h1|h1
   ·exact h x h1
   ·simp only[List.mem_singleton]at h1;subst h1;exact u8_in _
  ·exact h x d
def f0j (key:Nat->List Bool):∀b,(D3 key b).2.length=b/\E7 (D3 key b).2 0=some ((D3 key b).1.length:Int)/\(O0 (D3 key b).2).length=(D3 key b).1.length/\(D3 key b).1.length<=b
 |0=>⟨rfl,rfl,rfl,Nat.le_refl _⟩
 |b+1=>by
  obtain⟨h1,d,c,g⟩:=f0j key b;rw[show D3 key (b+1)=c0U (D3 key b) (key b)from rfl];unfold O0 at c ⊢;unfold c0U;split
  ·rename_i f;have hi:=List.idxOf_lt_length_of_mem (List.contains_iff_mem.1 f);refine⟨by simp[h1],?_,?_,by simp only;omega⟩
   ·simp only;rw[q0U,d];show E7 [_] _=_;unfold E7;rw[if_neg O',if_neg O'];rfl
   ·simp only;rw[j07,b8,c,if_neg O'];exact c
  ·refine⟨by simp[h1],?_,?_,by simp only[length_append,List.length_cons,List.length_nil];omega⟩
   ·simp only;rw[q0U,d];show E7 [_] _=_;unfold E7;rw[if_neg O',if_pos rfl];unfold E7;simp
   ·simp only;rw[j07,b8,c,if_pos rfl];show(b8 _ _ _++[_]).length=_;rw[length_append,c,length_append];rfl
def x0x (key:Nat->List Bool):I9 (D3 key 256).2=true:=by
 obtain⟨h1,c,_⟩:=f0j key 256;unfold I9;rw[c,h1];rfl
def z0d {key:Nat->List Bool}{f:List (List Bool)×List Int->Nat->Option (List (List Bool)×List Int)}:∀(n:Nat),(∀b,b<n->∀s,f s b=some (c0U s (key b)))->(List.range n).foldlM f ([],[])=some (D3 key n)
 |0,h=>rfl
 |n+1,h=>by
  rw[List.range_succ,List.foldlM_append,z0d n (fun b c=>h b O')];show(List.foldlM f (D3 key n) [n])=_;simp only[List.foldlM,h n O'];rfl
