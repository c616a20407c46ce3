/- P. Its conditions: none. -/
import Derived.Test.YtmhooikfkhjijaaGreatYG49
import Derived.Test.YtmhooikfkhjijaaGreatYG38
import Derived.Test.YtmhooikfkhjijaaGreatYG39
import Derived.Test.YtmhooikfkhjijaaGreatYMd
open List (drop_length drop_zero)
open Bool (false_eq_true)
set_option linter.all false
namespace Go.Proofs.YtmhooikfkhjijaaGreat
open Go.V Go.RowKit Old Go.X
section
variable {F:Nat}{l:List U0}{n:Nat}{a:List E1}{b:Nat->List E1}{e:Nat->E1×Bool}{z:E1×Bool}
def goH (e:List U0)(f:Nat)(b:List E1)(d:Nat->List E1)(g:Nat->E1×Bool)(a:Hs)(c:Int):Hs:=if a.over then a else a.feed e f b d g c
def A0n (d:List U0)(e:Nat)(a:List E1)(b:Nat->List E1)(g:Nat->E1×Bool)(c:Hs)(f:List Int):Hs:=f.foldl (goH d e a b g) c
def X06 {h:Hs}(ho:h.over=true):∀w:List Int,A0n l n a b e h w=h
 |[]=>rfl
 |
  x :: w=>by
  show A0n l n a b e (goH l n a b e h x) w=h;unfold goH;rw[if_pos ho];exact X06 ho w
def Y0e {h:Hs}{i:Nat}(ho:F0H l n h i)(hn:n<=1000):G0a F ⟨h.H l n a b e z⟩=some h.over:=by
 unfold G0a;rw[Y0t ho hn];rfl
def Y0o {h:Hs}{i:Nat}(ho:F0H l n h i)(hn:n<=1000)(hf:2000<F)(cl:Bool)(c:Int):
  E04 F (⟨cl,c⟩,h.C l n a b e z)=some ((h.found.2,cl||h.over,h.found.1),(⟨cl,c⟩,h.C l n a b e z)):=by
 have hs:=Y0e (F:=F) (a:=a) (b:=b) (e:=e) (z:=z) ho hn;have nf:=Y0v (a:=a) (b:=b) (e:=e) (z:=z) ho hf;unfold Hs.H at hs;unfold Hs.C at nf ⊢;unfold E04;simp only[nf,F1,hs];cases cl<;>simp
def Y0s (K:B0H l n a b e z F)(hn:n<=1000)(hw:∀x∈l,l02 x){w:List Int}(hb:∀x∈w,inK .u8 x)(hl:w.length<=1000):
  ∀(k i fu:Nat) (h:Hs) (j:Nat),i+k=w.length->k<fu->F0H l n h j->j<=10000+i->
   iter (C0K F w) fu ((i:Int),h.C l n a b e z)=some ((A0n l n a b e h (w.drop i)).C l n a b e z)/\∃m,m<=j+k/\F0H l n (A0n l n a b e h (w.drop i)) m:=by
 intro k
 induction k with
 |
  zero=>
  intro i fu h j hi hfu ho hj;obtain⟨fu,rfl⟩:∃m,fu=m+1:=⟨fu-1,by omega⟩
  obtain rfl:i=w.length:=by omega
  rw[drop_length];refine⟨?_,j,by omega,ho⟩;unfold iter C0K Hs.C;simp[A0n]
 |
  succ k ih=>
  intro i fu h j hi hfu ho hj;obtain⟨fu,rfl⟩:∃m,fu=m+1:=⟨fu-1,by omega⟩
  have hil:i<w.length:=by omega
  have hs:=Y0e (F:=F) (a:=a) (b:=b) (e:=e) (z:=z) ho hn;rw[Pr.n0j hil];have hby:=hb _ (Pr.K4 hil);cases hov:h.over with
  |
   true=>
   rw[X06 hov];refine⟨?_,j,by omega,ho⟩;unfold iter C0K Hs.C;unfold Hs.H at hs;simp only[q0,Pr.dec_lt hil,Y3,hil,hs,hov]
  |
   false=>
   obtain⟨s1,_,s3,_⟩:=K0F (z:=z) (e:=e) K hw ho (by omega) hby;have hg:A0n l n a b e h (gt w (i:Int) :: w.drop (i+1))=A0n l n a b e (h.feed l n a b e (gt w (i:Int))) (w.drop (i+1)):=by
    show A0n l n a b e (goH l n a b e h (gt w (i:Int))) _=_;unfold goH;rw[hov];rfl
   rw[hg];obtain⟨i1,m,i2,i3⟩:=ih (i+1) fu (h.feed l n a b e (gt w (i:Int))) (j+1) (by omega) (by omega) s3 (by omega);refine⟨?_,m,by omega,i3⟩;rw[<-i1];rw[show iter (C0K F w) (fu+1) ((i:Int),h.C l n a b e z)=iter (C0K F w) fu (((i+1:Nat):Int),(h.feed l n a b e (gt w (i:Int))).C l n a b e z)from L0r (by
    unfold C0K;unfold Hs.C at s1 ⊢;unfold Hs.H at hs;simp only[q0,Pr.dec_lt hil,Y3,hil,hs,hov,s1];rw[Go.V.R2 (by omega)])]
def G0k (K:B0H l n a b e z F)(hn:n<=1000)(hw:∀x∈l,l02 x){w:List Int}(hb:∀x∈w,inK .u8 x)(hl:w.length<=1000){h:Hs}{j:Nat}(ho:F0H l n h j)(hj:j<=10000){c:Int}(h0:0<=c)(h1:c<=1000000):
  C0g F (⟨false,c⟩,h.C l n a b e z) w=some ((((A0n l n a b e h w).found.2,(A0n l n a b e h w).over,(A0n l n a b e h w).found.1),0),(⟨false,c+w.length⟩,(A0n l n a b e h w).C l n a b e z))/\∃m,m<=j+w.length/\F0H l n (A0n l n a b e h w) m:=by
 have f1:=K.f1;obtain⟨i1,m,i2,i3⟩:=Y0s K hn hw hb hl w.length 0 F h j (by omega) (by omega) ho (by omega);rw[drop_zero]at i1 i3;refine⟨?_,m,i2,i3⟩;have ht:=Y0o (F:=F) (a:=a) (b:=b) (e:=e) (z:=z) i3 hn (by omega) false (c+w.length);have hW:W (c+(w.length:Int))=c+(w.length:Int):=c0R (by omega) (by omega);have i1:iter (C0K F w) F (0,h.C l n a b e z)=_:=i1;unfold Hs.C at i1 ht ⊢;unfold C0g;simp only[q0,i1,hW,ht,Bool.false_or]
def Y08 (K:B0H l n a b e z F):C0R F l=some (.inr (⟨false,0⟩,(Hs.zero l z).C l n a b e z),0):=by
 unfold C0R;rw[X0L K];unfold Hs.C;simp only[q0,show((0:Int) != 0)=false from rfl]
def Y0j {x:G0m}(h:x.Spans.length<=1000)(hf:2000<F):F06 F x x=some true:=by
 unfold F06;simp only[beq_self_eq_true,if_true,F1,i00 h hf]
end
def F0x (a b:Bool):(if a=true then some true else some b)=some (a||b):=by cases a<;>rfl
section
variable {F:Nat}{l:List U0}{n:Nat}{a:List E1}{b:Nat->List E1}{e:Nat->E1×Bool}{z:E1×Bool}
def dX (f:List U0)(h:Nat)(b:List E1)(d:Nat->List E1)(i:Nat->E1×Bool)(a:C0I)(e:Hs)(g:Int)(c:Bool):F0u:=⟨false,e.X f h b d i,a,g,c⟩
def a1v {R:C0I}{h:Hs}{c:Int}{cl:Bool}:K08 F (dX l n a b e R h c cl)=some h.over:=by
 unfold K08 dX;simp only[q0,b1u]
def a1n {R:C0I}{h:Hs}{j:Nat}(ho:F0H l n h j)(hf:2000<F)(c:Int)(cl:Bool):G0S F (dX l n a b e R h c cl)=some ⟨h.found.2,cl||h.over,h.found.1⟩:=by
 have hs:=a1v (F:=F) (l:=l) (n:=n) (a:=a) (b:=b) (e:=e) (R:=R) (h:=h) (c:=c) (cl:=cl);have rf:=b1e (F:=F) (a:=a) (b:=b) (e:=e) ho hf;unfold G0S;rw[hs];unfold dX;simp only[q0,rf];cases cl<;>simp
def b1Y (K:B0H l n a b e z F)(hw:∀x∈l,l02 x){w:List Int}(hb:∀x∈w,inK .u8 x)(hl:w.length<=1000)(R:C0I):
  ∀(k i fu:Nat) (h:Hs) (j:Nat) (c:Int),i+k=w.length->k<fu->F0H l n h j->j<=10000+i->0<=c->c<=10000+i->
   iter (D0t F w) fu ((i:Int),dX l n a b e R h c false)=some (dX l n a b e R (A0n l n a b e h (w.drop i)) (c+k) false):=by
 intro k
 induction k with
 |
  zero=>
  intro i fu h j c hi hfu ho hj h0 hc;obtain⟨fu,rfl⟩:∃m,fu=m+1:=⟨fu-1,by omega⟩
  obtain rfl:i=w.length:=by omega
  rw[drop_length];unfold iter D0t dX;simp[A0n]
 |
  succ k ih=>
  intro i fu h j c hi hfu ho hj h0 hc;obtain⟨fu,rfl⟩:∃m,fu=m+1:=⟨fu-1,by omega⟩
  have hil:i<w.length:=by omega
  rw[Pr.n0j hil];have hby:=hb _ (Pr.K4 hil);have hs:=a1v (F:=F) (l:=l) (n:=n) (a:=a) (b:=b) (e:=e) (R:=R) (h:=h) (c:=c) (cl:=false);have hW:W (c+1)=c+1:=c0R (by omega) (by omega);have hk:c+((k+1:Nat):Int)=(c+1)+(k:Int):=by omega
  rw[hk];cases hov:h.over with
  |
   true=>
   have hg:A0n l n a b e h (gt w (i:Int) :: w.drop (i+1))=A0n l n a b e h (w.drop (i+1)):=by rw[X06 hov,X06 hov]
   rw[hg,<-ih (i+1) fu h j (c+1) (by omega) (by omega) ho (by omega) (by omega) (by omega)];refine L0r ?_;unfold D0t;simp only[q0,Pr.dec_lt hil,hs,hov];unfold dX;simp only[hW];rw[Go.V.R2 (by omega)]
  |
   false=>
   obtain⟨_,s2,s3,_⟩:=K0F (z:=z) (e:=e) K hw ho (by omega) hby;have hg:A0n l n a b e h (gt w (i:Int) :: w.drop (i+1))=A0n l n a b e (h.feed l n a b e (gt w (i:Int))) (w.drop (i+1)):=by
    show A0n l n a b e (goH l n a b e h (gt w (i:Int))) _=_;unfold goH;rw[hov];rfl
   rw[hg,<-ih (i+1) fu (h.feed l n a b e (gt w (i:Int))) (j+1) (c+1) (by omega) (by omega) s3 (by omega) (by omega) (by omega)];refine L0r ?_;unfold D0t;simp only[q0,Pr.dec_lt hil,hs,hov];unfold dX;simp only[q0,Y3,hil,s2,hW];rw[Go.V.R2 (by omega)]
def a1Y (K:B0H l n a b e z F)(hw:∀x∈l,l02 x){w:List Int}(hb:∀x∈w,inK .u8 x)(hl:w.length<=1000)(R:C0I){h:Hs}{j m:Nat}(ho:F0H l n h j)(hj:j<=10000)(h2:F0H l n (A0n l n a b e h w) m){c:Int}(h0:0<=c)(hc:c<=10000):
  E0O F (dX l n a b e R h c false) w=some (dX l n a b e R (A0n l n a b e h w) (c+w.length) false,⟨(A0n l n a b e h w).found.2,(A0n l n a b e h w).over,(A0n l n a b e h w).found.1⟩,0):=by
 have f1:=K.f1;have hlp:=b1Y K hw hb hl R w.length 0 F h j c (by omega) (by omega) ho (by omega) h0 (by omega);rw[drop_zero]at hlp;have hlp:iter (D0t F w) F (0,dX l n a b e R h c false)=_:=hlp;have ht:=a1n (F:=F) (a:=a) (b:=b) (e:=e) (R:=R) h2 (by omega) (c+w.length) false;unfold E0O;rw[show(dX l n a b e R h c false).Closed=false from rfl];simp only[q0,hlp,ht,Bool.false_or]
def b1j {R:C0I}{h:Hs}{j:Nat}(ho:F0H l n h j)(hf:2000<F)(c:Int):E0N F (dX l n a b e R h c false)=some (dX l n a b e R h c true,⟨h.found.2,true,h.found.1⟩,0):=by
 have ht:=a1n (F:=F) (a:=a) (b:=b) (e:=e) (R:=R) ho hf c true;unfold E0N;rw[show(dX l n a b e R h c false).Closed=false from rfl];unfold dX at ht ⊢;simp only[q0,ht,Bool.true_or]
def a15 {h:Hs}{i:Nat}(ho:F0H l n h i)(hn:n<=1000)(hf:2000<F)(c:Int):
  O02 F (⟨false,c⟩,h.C l n a b e z)=some (((h.found.2,true,h.found.1),0),(⟨true,c⟩,h.C l n a b e z)):=by
 have ht:=Y0o (F:=F) (a:=a) (b:=b) (e:=e) (z:=z) ho hn hf true c;unfold Hs.C at ht ⊢;unfold O02;simp only[q0,ht,Bool.true_or]
structure PlH (l:List U0)(n:Nat)(h:Hs)(c:Int)(i:Nat):Prop where
 ok:∃j:Nat,F0H l n h j/\(j:Int)<=24*i
 c0:0<=c
 c1:c<=24*i
def a1X (K:B0H l n a b e z F)(hn:n<=1000)(hw:∀x∈l,l02 x)(R:C0I){ps:List F07}(hb:∀x∈ps,∀y∈x.B,inK .u8 y)(hl:ps.length<=20)(h24:∀x∈ps,x.B.length<=24){i:Nat}(hi:i<ps.length){h:Hs}{c:Int}(cl:Bool)(hp:PlH l n h c i):
  ∃h' c' cl',PlH l n h' c' (i+1)/\F0e F ps ((i:Int),(⟨cl,c⟩,h.C l n a b e z),dX l n a b e R h c cl)=some (.next (((i+1:Nat):Int),(⟨cl',c'⟩,h'.C l n a b e z),dX l n a b e R h' c' cl')):=by
 have f1:=K.f1;have hf:2000<F:=by omega
 obtain⟨j,ho,hj⟩:=hp.ok;have hc0:=hp.c0;have hc1:=hp.c1;have hm:=Pr.K4 hi;have hbl:=h24 _ hm;have hbb:=hb _ hm;have hW:W ((i:Int)+1)=((i+1:Nat):Int):=Go.V.R2 (by omega);have hw1:∀(E:F0T) (q:Hs),L0W F (E,q.C l n a b e z)=some (q.c.work,(E,q.C l n a b e z)):=fun E q=>rfl;have hw2:∀(q:Hs) (d:Int) (k:Bool),X00 F (dX l n a b e R q d k)=some q.c.work:=fun q d k=>rfl;have hcl:∀(q:Hs) (d:Int) (k:Bool),(dX l n a b e R q d k).Closed=k:=fun _ _ _=>rfl;have hct:∀(q:Hs) (d:Int) (k:Bool),(dX l n a b e R q d k).Count=d:=fun _ _ _=>rfl;have sN:F06 F ⟨false,false,[]⟩ ⟨false,false,[]⟩=some true:=Y0j (by simp) hf;cases cl with
 |
  true=>
  refine⟨h,c,true,⟨⟨j,ho,by omega⟩,hc0,by omega⟩,?_⟩;have k1:O02 F (⟨true,c⟩,h.C l n a b e z)=some (((false,false,[]),13),(⟨true,c⟩,h.C l n a b e z)):=rfl;have k2:E0N F (dX l n a b e R h c true)=some (dX l n a b e R h c true,⟨false,false,[]⟩,13):=rfl;have k3:C0g F (⟨true,c⟩,h.C l n a b e z) (gt ps (i:Int)).B=some (((false,false,[]),13),(⟨true,c⟩,h.C l n a b e z)):=rfl;have k4:E0O F (dX l n a b e R h c true) (gt ps (i:Int)).B=some (dX l n a b e R h c true,⟨false,false,[]⟩,13):=rfl;have w1:=hw1 ⟨true,c⟩ h;unfold Hs.C at k1 k3 w1 ⊢;unfold F0e;simp only[Pr.dec_lt hi,if_true,Y3,hi,decide_true];cases(gt ps (i:Int)).Shut<;>simp only[q0,k1,k2,k3,k4,sN,F0x,hcl,hct,w1,hw2,bne_self_eq_false,beq_self_eq_true,Bool.or_false,hW]
 |
  false=>
  cases hS:(gt ps (i:Int)).Shut with
  |
   true=>
   refine⟨h,c,true,⟨⟨j,ho,by omega⟩,hc0,by omega⟩,?_⟩;have k1:=a15 (F:=F) (a:=a) (b:=b) (e:=e) (z:=z) ho hn hf c;have k2:=b1j (F:=F) (a:=a) (b:=b) (e:=e) (R:=R) ho hf c;have s1:=Y0j (F:=F) (x:=⟨h.found.2,true,h.found.1⟩) (t0D ho) hf;have w1:=hw1 ⟨true,c⟩ h;unfold Hs.C at k1 w1 ⊢;unfold F0e;simp only[q0,Pr.dec_lt hi,Y3,hi,hS,k1,k2,s1,F0x,hcl,hct,w1,hw2,bne_self_eq_false,beq_self_eq_true,Bool.or_false,hW]
  |
   false=>
   obtain⟨k1,m,m1,m2⟩:=G0k (c:=c) K hn hw hbb (by omega) ho (by omega) hc0 (by omega);have k2:=a1Y (c:=c) K hw hbb (by omega) R ho (by omega) m2 hc0 (by omega);refine⟨A0n l n a b e h (gt ps (i:Int)).B,c+((gt ps (i:Int)).B.length:Int),false,⟨⟨m,m2,by omega⟩,by omega,by omega⟩,?_⟩;have s1:=Y0j (F:=F) (x:=⟨(A0n l n a b e h (gt ps (i:Int)).B).found.2,(A0n l n a b e h (gt ps (i:Int)).B).over,(A0n l n a b e h (gt ps (i:Int)).B).found.1⟩) (t0D m2) hf;have w1:=hw1 ⟨false,c+((gt ps (i:Int)).B.length:Int)⟩ (A0n l n a b e h (gt ps (i:Int)).B);unfold Hs.C at k1 w1 ⊢;unfold F0e;simp only[q0,Pr.dec_lt hi,Y3,hi,hS,k1,k2,s1,F0x,hcl,hct,w1,hw2,bne_self_eq_false,beq_self_eq_true,Bool.or_false,hW]
def b1M (K:B0H l n a b e z F)(hn:n<=1000)(hw:∀x∈l,l02 x)(R:C0I){ps:List F07}(hb:∀x∈ps,∀y∈x.B,inK .u8 y)(hl:ps.length<=20)(h24:∀x∈ps,x.B.length<=24):
  ∀(k i fu:Nat) (h:Hs) (c:Int) (cl:Bool),i+k=ps.length->k<fu->PlH l n h c i->∃q,iter (F0e F ps) fu ((i:Int),(⟨cl,c⟩,h.C l n a b e z),dX l n a b e R h c cl)=some (.inr q):=by
 intro k
 induction k with
 |
  zero=>
  intro i fu h c cl hi hfu hp;obtain⟨fu,rfl⟩:∃m,fu=m+1:=⟨fu-1,by omega⟩
  obtain rfl:i=ps.length:=by omega
  refine⟨(⟨cl,c⟩,h.C l n a b e z),?_⟩;unfold iter F0e Hs.C;simp
 |
  succ k ih=>
  intro i fu h c cl hi hfu hp;obtain⟨fu,rfl⟩:∃m,fu=m+1:=⟨fu-1,by omega⟩
  obtain⟨h',c',cl',hp',hst⟩:=a1X K hn hw R hb hl h24 (show i<ps.length by omega) cl hp;obtain⟨q,hq⟩:=ih (i+1) fu h' c' cl' (by omega) (by omega) hp';exact⟨q,by rw[<-hq];exact L0r hst⟩
def b1l (K:B0H l n a b e z F)(hn:n<=1000)(hw:∀x∈l,l02 x)(R:C0I){ps:List F07}(hb:∀x∈ps,∀y∈x.B,inK .u8 y)(hl:ps.length<=20)(h24:∀x∈ps,x.B.length<=24):
  ∃q,Y0V F (⟨false,0⟩,(Hs.zero l z).C l n a b e z) (dX l n a b e R (Hs.zero l z) 0 false) ps=some (true,q):=by
 have f1:=K.f1;obtain⟨q,hq⟩:=b1M K hn hw R hb hl h24 ps.length 0 F (Hs.zero l z) 0 false (by omega) (by omega) ⟨⟨0,V0B,by omega⟩,by omega,by omega⟩;have hq:iter (F0e F ps) F (0,(⟨false,0⟩,(Hs.zero l z).C l n a b e z),dX l n a b e R (Hs.zero l z) 0 false)=some (.inr q):=hq;obtain⟨q1,q2,q3,q4,q5⟩:=q;refine⟨(q1,q2,q3,q4,q5),?_⟩;unfold Hs.C at hq ⊢;unfold Y0V;simp only[hq,F1]
end
section
variable {F:Nat}{p:b0D}
def goR (c:b0D)(a:Pr.RS)(b:Int):Pr.RS:=if a.stand<0 then a else Pr.E0M c a b
def A0J (b:b0D)(c:Pr.RS)(a:List Int):Pr.RS:=a.foldl (goR b) c
def Z0H {s:Pr.RS}(ho:s.stand<0):∀w:List Int,A0J p s w=s
 |[]=>rfl
 |
  x :: w=>by
  show A0J p (goR p s x) w=s;unfold goR;rw[if_pos ho];exact Z0H ho w
def C0d (a:Pr.RS):List V1×Bool:=if a.tags.length=0 then([],false)else(a0h a.tags a.to,true)
def a1x {s:Pr.RS}:Y06 F ⟨⟨⟨s.tags,s.to⟩,p,s.at_,s.stand,s.work,s.regs⟩⟩=some (decide (s.stand<0)):=rfl
def a1p {s:Pr.RS}(ht:s.tags.length<=1000)(hf:2000<F)(cl:Bool)(c:Int):
  X03 F (⟨cl,c⟩,Pr.toA p s)=some (((C0d s).2,cl||decide (s.stand<0),(C0d s).1),(⟨cl,c⟩,Pr.toA p s)):=by
 have hs:=a1x (F:=F) (p:=p) (s:=s);unfold Pr.toA X03 C0d
 by_cases h0:s.tags.length=0
 ·have e:((s.tags.length:Int)==0)=true:=by simp[h0]
  simp only[e,h0,if_true,F1,hs];cases cl<;>simp
 ·have e:((s.tags.length:Int)==0)=false:=by rw[beq_eq_false_iff_ne];omega
  simp only[q0,e,h0,t0T ht hf,hs];cases cl<;>simp
def a1u {b:Int}(h:inK .u8 b):0<=b/\b<256:=⟨h.1,by have:=h.2;rw[show IntKind.u8.max=255 from rfl]at this;omega⟩
def a1E (h:Pr.Rd p){w:List Int}(hb:∀x∈w,inK .u8 x)(hl:w.length<=24)(hf:2000<F):
  ∀(k i fu:Nat) (s:Pr.RS) (j:Nat),i+k=w.length->k<fu->Pr.RI p s j->j<=500+i->
   iter (M0b F w) fu ((i:Int),Pr.toA p s)=some (Pr.toA p (A0J p s (w.drop i)))/\∃m,m<=j+k/\Pr.RI p (A0J p s (w.drop i)) m:=by
 intro k
 induction k with
 |
  zero=>
  intro i fu s j hi hfu ho hj;obtain⟨fu,rfl⟩:∃m,fu=m+1:=⟨fu-1,by omega⟩
  obtain rfl:i=w.length:=by omega
  rw[drop_length];refine⟨?_,j,by omega,ho⟩;unfold iter M0b Pr.toA;simp[A0J]
 |
  succ k ih=>
  intro i fu s j hi hfu ho hj;obtain⟨fu,rfl⟩:∃m,fu=m+1:=⟨fu-1,by omega⟩
  have hil:i<w.length:=by omega
  have hs:=a1x (F:=F) (p:=p) (s:=s);rw[Pr.n0j hil];have hby:=a1u (hb _ (Pr.K4 hil))
  by_cases hov:s.stand<0
  ·rw[Z0H hov];refine⟨?_,j,by omega,ho⟩;unfold iter M0b Pr.toA;simp only[q0,Pr.dec_lt hil,Y3,hil,hs,hov]
  ·have s1:=Pr.P0A (F:=F) h ho (by omega) hby hf;have hg:A0J p s (gt w (i:Int) :: w.drop (i+1))=A0J p (Pr.E0M p s (gt w (i:Int))) (w.drop (i+1)):=by
    show A0J p (goR p s (gt w (i:Int))) _=_;unfold goR;rw[if_neg hov]
   rw[hg];obtain⟨i1,m,i2,i3⟩:=ih (i+1) fu (Pr.E0M p s (gt w (i:Int))) (j+1) (by omega) (by omega) (Pr.U0V h ho hby) (by omega);refine⟨?_,m,by omega,i3⟩;rw[<-i1];exact L0r (by
    unfold M0b;unfold Pr.toA at s1 ⊢;simp only[q0,Pr.dec_lt hil,Y3,hil,hs,hov,s1];rw[Go.V.R2 (by omega)])
def b1V (h:Pr.Rd p){w:List Int}(hb:∀x∈w,inK .u8 x)(hl:w.length<=24)(hf:2000<F){s:Pr.RS}{j:Nat}(ho:Pr.RI p s j)(hj:j<=500){c:Int}(h0:0<=c)(h1:c<=1000000):
  X08 F (⟨false,c⟩,Pr.toA p s) w=some ((((C0d (A0J p s w)).2,decide ((A0J p s w).stand<0),(C0d (A0J p s w)).1),0),(⟨false,c+w.length⟩,Pr.toA p (A0J p s w)))/\∃m,m<=j+w.length/\Pr.RI p (A0J p s w) m:=by
 obtain⟨i1,m,i2,i3⟩:=a1E h hb hl hf w.length 0 F s j (by omega) (by omega) ho (by omega);rw[drop_zero]at i1 i3;refine⟨?_,m,i2,i3⟩;have ht:=a1p (F:=F) (p:=p) (s:=A0J p s w) (by have:=i3.tl;omega) hf false (c+w.length);have hW:W (c+(w.length:Int))=c+(w.length:Int):=c0R (by omega) (by omega);have i1:iter (M0b F w) F (0,Pr.toA p s)=_:=i1;unfold Pr.toA at i1 ht ⊢;unfold X08;simp only[q0,i1,hW,ht,Bool.false_or]
def a1T {s:Pr.RS}(ht:s.tags.length<=1000)(hf:2000<F)(c:Int):
  Y0P F (⟨false,c⟩,Pr.toA p s)=some ((((C0d s).2,true,(C0d s).1),0),(⟨true,c⟩,Pr.toA p s)):=by
 have ht:=a1p (F:=F) (p:=p) (s:=s) ht hf true c;unfold Pr.toA at ht ⊢;unfold Y0P;simp only[q0,ht,Bool.true_or]
def dR (a:b0D)(c:C0T)(e:Pr.RS)(d:Int)(b:Bool):F0u:=⟨true,c,Pr.toR a e,d,b⟩
def a1i {H:C0T}{s:Pr.RS}{c:Int}{cl:Bool}:K08 F (dR p H s c cl)=some (decide (s.stand<0)):=rfl
def b14 {s:Pr.RS}(ht:s.tags.length<=1000)(hf:2000<F):Z0F F (Pr.toR p s)=some (C0d s):=by
 unfold Z0F Pr.toR C0d
 by_cases h0:s.tags.length=0
 ·have:s.tags.isEmpty=true:=by simp[List.length_eq_zero_iff.1 h0]
  simp only[q0,this,h0]
 ·have:s.tags.isEmpty=false:=by
   cases hs:s.tags with
   |nil=>rw[hs]at h0;exact absurd rfl h0
   |cons x r=>rfl
  simp only[q0,this,h0,x0B ht hf]
def a1m {H:C0T}{s:Pr.RS}(ht:s.tags.length<=1000)(hf:2000<F)(c:Int)(cl:Bool):G0S F (dR p H s c cl)=some ⟨(C0d s).2,cl||decide (s.stand<0),(C0d s).1⟩:=by
 have hs:=a1i (F:=F) (p:=p) (H:=H) (s:=s) (c:=c) (cl:=cl);have rf:=b14 (F:=F) (p:=p) ht hf;unfold G0S;rw[hs];unfold dR;simp only[if_true,rf,F1];cases cl<;>simp
def b1c (h:Pr.Rd p){w:List Int}(hb:∀x∈w,inK .u8 x)(hl:w.length<=24)(hf:2000<F)(H:C0T):
  ∀(k i fu:Nat) (s:Pr.RS) (j:Nat) (c:Int),i+k=w.length->k<fu->Pr.RI p s j->j<=500+i->0<=c->c<=10000+i->
   iter (D0t F w) fu ((i:Int),dR p H s c false)=some (dR p H (A0J p s (w.drop i)) (c+k) false):=by
 intro k
 induction k with
 |
  zero=>
  intro i fu s j c hi hfu ho hj h0 hc;obtain⟨fu,rfl⟩:∃m,fu=m+1:=⟨fu-1,by omega⟩
  obtain rfl:i=w.length:=by omega
  rw[drop_length];unfold iter D0t dR;simp[A0J]
 |
  succ k ih=>
  intro i fu s j c hi hfu ho hj h0 hc;obtain⟨fu,rfl⟩:∃m,fu=m+1:=⟨fu-1,by omega⟩
  have hil:i<w.length:=by omega
  rw[Pr.n0j hil];have hby:=a1u (hb _ (Pr.K4 hil));have hs:=a1i (F:=F) (p:=p) (H:=H) (s:=s) (c:=c) (cl:=false);have hW:W (c+1)=c+1:=c0R (by omega) (by omega);have hk:c+((k+1:Nat):Int)=(c+1)+(k:Int):=by omega
  rw[hk]
  by_cases hov:s.stand<0
  ·have hg:A0J p s (gt w (i:Int) :: w.drop (i+1))=A0J p s (w.drop (i+1)):=by rw[Z0H hov,Z0H hov]
   rw[hg,<-ih (i+1) fu s j (c+1) (by omega) (by omega) ho (by omega) (by omega) (by omega)];refine L0r ?_;unfold D0t;simp only[q0,Pr.dec_lt hil,hs,hov];unfold dR;simp only[hW];rw[Go.V.R2 (by omega)]
  ·have s2:=Pr.R0u (F:=F) h ho (by omega) hby hf;have hg:A0J p s (gt w (i:Int) :: w.drop (i+1))=A0J p (Pr.E0M p s (gt w (i:Int))) (w.drop (i+1)):=by
    show A0J p (goR p s (gt w (i:Int))) _=_;unfold goR;rw[if_neg hov]
   rw[hg,<-ih (i+1) fu (Pr.E0M p s (gt w (i:Int))) (j+1) (c+1) (by omega) (by omega) (Pr.U0V h ho hby) (by omega) (by omega) (by omega)];refine L0r ?_;unfold D0t;simp only[q0,Pr.dec_lt hil,hs,hov];unfold dR;simp only[q0,Y3,hil,s2,hW];rw[Go.V.R2 (by omega)]
def b10 (h:Pr.Rd p){w:List Int}(hb:∀x∈w,inK .u8 x)(hl:w.length<=24)(hf:2000<F)(H:C0T){s:Pr.RS}{j m:Nat}(ho:Pr.RI p s j)(hj:j<=500)(h2:Pr.RI p (A0J p s w) m){c:Int}(h0:0<=c)(hc:c<=10000):
  E0O F (dR p H s c false) w=some (dR p H (A0J p s w) (c+w.length) false,⟨(C0d (A0J p s w)).2,decide ((A0J p s w).stand<0),(C0d (A0J p s w)).1⟩,0):=by
 have hlp:=b1c h hb hl hf H w.length 0 F s j c (by omega) (by omega) ho (by omega) h0 (by omega);rw[drop_zero]at hlp;have hlp:iter (D0t F w) F (0,dR p H s c false)=_:=hlp;have ht:=a1m (F:=F) (p:=p) (H:=H) (s:=A0J p s w) (by have:=h2.tl;omega) hf (c+w.length) false;unfold E0O;rw[show(dR p H s c false).Closed=false from rfl];simp only[q0,hlp,ht,Bool.false_or]
def b15 {H:C0T}{s:Pr.RS}(ht:s.tags.length<=1000)(hf:2000<F)(c:Int):E0N F (dR p H s c false)=some (dR p H s c true,⟨(C0d s).2,true,(C0d s).1⟩,0):=by
 have ht:=a1m (F:=F) (p:=p) (H:=H) (s:=s) ht hf c true;unfold E0N;rw[show(dR p H s c false).Closed=false from rfl];unfold dR at ht ⊢;simp only[q0,ht,Bool.true_or]
structure PlR (p:b0D)(s:Pr.RS)(c:Int)(i:Nat):Prop where
 ok:∃j:Nat,Pr.RI p s j/\(j:Int)<=24*i
 c0:0<=c
 c1:c<=24*i
def a1l {s:Pr.RS}(h:s.tags.length<=40):(C0d s).1.length<=1000:=by
 unfold C0d;split
 ·simp
 ·exact l0a _ _ (by omega)
def b1v (h:Pr.Rd p)(hf:2000<F)(H:C0T){ps:List F07}(hb:∀x∈ps,∀y∈x.B,inK .u8 y)(hl:ps.length<=20)(h24:∀x∈ps,x.B.length<=24){i:Nat}(hi:i<ps.length){s:Pr.RS}{c:Int}(cl:Bool)(hp:PlR p s c i):
  ∃s' c' cl',PlR p s' c' (i+1)/\F0n F ps ((i:Int),(⟨cl,c⟩,Pr.toA p s),dR p H s c cl)=some (.next (((i+1:Nat):Int),(⟨cl',c'⟩,Pr.toA p s'),dR p H s' c' cl')):=by
 obtain⟨j,ho,hj⟩:=hp.ok;have hc0:=hp.c0;have hc1:=hp.c1;have htl:=ho.tl;have hm:=Pr.K4 hi;have hbl:=h24 _ hm;have hbb:=hb _ hm;have hW:W ((i:Int)+1)=((i+1:Nat):Int):=Go.V.R2 (by omega);have hw1:∀(E:F0T) (q:Pr.RS),Z07 F (E,Pr.toA p q)=some (q.work,(E,Pr.toA p q)):=fun E q=>rfl;have hw2:∀(q:Pr.RS) (d:Int) (k:Bool),X00 F (dR p H q d k)=some q.work:=fun q d k=>rfl;have hcl:∀(q:Pr.RS) (d:Int) (k:Bool),(dR p H q d k).Closed=k:=fun _ _ _=>rfl;have hct:∀(q:Pr.RS) (d:Int) (k:Bool),(dR p H q d k).Count=d:=fun _ _ _=>rfl;have sN:F06 F ⟨false,false,[]⟩ ⟨false,false,[]⟩=some true:=Y0j (by simp) hf;cases cl with
 |
  true=>
  refine⟨s,c,true,⟨⟨j,ho,by omega⟩,hc0,by omega⟩,?_⟩;have k1:Y0P F (⟨true,c⟩,Pr.toA p s)=some (((false,false,[]),13),(⟨true,c⟩,Pr.toA p s)):=rfl;have k2:E0N F (dR p H s c true)=some (dR p H s c true,⟨false,false,[]⟩,13):=rfl;have k3:X08 F (⟨true,c⟩,Pr.toA p s) (gt ps (i:Int)).B=some (((false,false,[]),13),(⟨true,c⟩,Pr.toA p s)):=rfl;have k4:E0O F (dR p H s c true) (gt ps (i:Int)).B=some (dR p H s c true,⟨false,false,[]⟩,13):=rfl;have w1:=hw1 ⟨true,c⟩ s;unfold Pr.toA at k1 k3 w1 ⊢;unfold F0n;simp only[Pr.dec_lt hi,if_true,Y3,hi,decide_true];cases(gt ps (i:Int)).Shut<;>simp only[q0,k1,k2,k3,k4,sN,F0x,hcl,hct,w1,hw2,bne_self_eq_false,beq_self_eq_true,Bool.or_false,hW]
 |
  false=>
  cases hS:(gt ps (i:Int)).Shut with
  |
   true=>
   refine⟨s,c,true,⟨⟨j,ho,by omega⟩,hc0,by omega⟩,?_⟩;have k1:=a1T (F:=F) (p:=p) (s:=s) (by omega) hf c;have k2:=b15 (F:=F) (p:=p) (H:=H) (s:=s) (by omega) hf c;have s1:=Y0j (F:=F) (x:=⟨(C0d s).2,true,(C0d s).1⟩) (a1l htl) hf;have w1:=hw1 ⟨true,c⟩ s;unfold Pr.toA at k1 w1 ⊢;unfold F0n;simp only[q0,Pr.dec_lt hi,Y3,hi,hS,k1,k2,s1,F0x,hcl,hct,w1,hw2,bne_self_eq_false,beq_self_eq_true,Bool.or_false,hW]
  |
   false=>
   obtain⟨k1,m,m1,m2⟩:=b1V (c:=c) h hbb hbl hf ho (by omega) hc0 (by omega);have k2:=b10 (c:=c) h hbb hbl hf H ho (by omega) m2 hc0 (by omega);refine⟨A0J p s (gt ps (i:Int)).B,c+((gt ps (i:Int)).B.length:Int),false,⟨⟨m,m2,by omega⟩,by omega,by omega⟩,?_⟩;have s1:=Y0j (F:=F) (x:=⟨(C0d (A0J p s (gt ps (i:Int)).B)).2,decide ((A0J p s (gt ps (i:Int)).B).stand<0),(C0d (A0J p s (gt ps (i:Int)).B)).1⟩) (a1l m2.tl) hf;have w1:=hw1 ⟨false,c+((gt ps (i:Int)).B.length:Int)⟩ (A0J p s (gt ps (i:Int)).B);unfold Pr.toA at k1 w1 ⊢;unfold F0n;simp only[q0,Pr.dec_lt hi,Y3,hi,hS,k1,k2,s1,F0x,hcl,hct,w1,hw2,bne_self_eq_false,beq_self_eq_true,Bool.or_false,hW]
def b1g (h:Pr.Rd p)(hf:2000<F)(H:C0T){ps:List F07}(hb:∀x∈ps,∀y∈x.B,inK .u8 y)(hl:ps.length<=20)(h24:∀x∈ps,x.B.length<=24):
  ∀(k i fu:Nat) (s:Pr.RS) (c:Int) (cl:Bool),i+k=ps.length->k<fu->PlR p s c i->∃q,iter (F0n F ps) fu ((i:Int),(⟨cl,c⟩,Pr.toA p s),dR p H s c cl)=some (.inr q):=by
 intro k
 induction k with
 |
  zero=>
  intro i fu s c cl hi hfu hp;obtain⟨fu,rfl⟩:∃m,fu=m+1:=⟨fu-1,by omega⟩
  obtain rfl:i=ps.length:=by omega
  refine⟨(⟨cl,c⟩,Pr.toA p s),?_⟩;unfold iter F0n Pr.toA;simp
 |
  succ k ih=>
  intro i fu s c cl hi hfu hp;obtain⟨fu,rfl⟩:∃m,fu=m+1:=⟨fu-1,by omega⟩
  obtain⟨s',c',cl',hp',hst⟩:=b1v h hf H hb hl h24 (show i<ps.length by omega) cl hp;obtain⟨q,hq⟩:=ih (i+1) fu s' c' cl' (by omega) (by omega) hp';exact⟨q,by rw[<-hq];exact L0r hst⟩
def a1C (h:Pr.Rd p)(hf:2000<F)(H:C0T){ps:List F07}(hb:∀x∈ps,∀y∈x.B,inK .u8 y)(hl:ps.length<=20)(h24:∀x∈ps,x.B.length<=24):
  ∃q,K0u F (⟨false,0⟩,Pr.toA p (Pr.F0f p)) (dR p H (Pr.F0f p) 0 false) ps=some (true,q):=by
 obtain⟨q,hq⟩:=b1g h hf H hb hl h24 ps.length 0 F (Pr.F0f p) 0 false (by omega) (by omega) ⟨⟨0,Pr.T02 h,by omega⟩,by omega,by omega⟩;have hq:iter (F0n F ps) F (0,(⟨false,0⟩,Pr.toA p (Pr.F0f p)),dR p H (Pr.F0f p) 0 false)=some (.inr q):=hq;obtain⟨q1,q2,q3,q4,q5,q6,q7⟩:=q;refine⟨(q1,q2,q3,q4,q5,q6,q7),?_⟩;unfold Pr.toA at hq ⊢;unfold K0u;simp only[hq,F1]
def a1s (hs:Pr.Sm p)(hr:Pr.C0Z p=true)(hf:2000<F):I0l F p=some (.inr (⟨false,0⟩,Pr.toA p (Pr.F0f p)),0):=by
 unfold I0l;rw[Pr.U0a hs hr hf];unfold Pr.toA;simp only[q0,show((0:Int) != 0)=false from rfl]
def a1c (hs:Pr.Sm p)(hr:Pr.C0Z p=false)(hf:2000<F):I0l F p=some (.inl (),11):=by
 unfold I0l;rw[Pr.a1U hs hr hf];rfl
end
end Go.Proofs.YtmhooikfkhjijaaGreat
set_option maxRecDepth 100000
noncomputable section
namespace Go.Proofs.YtmhooikfkhjijaaGreat
open Go.V Go.RowKit Go.X
def B7 {α β:Type}(x:Option (α×β)):(Option.bind x fun p=>some (p.1,p.2))=x:=by cases x<;>rfl
def J0S (F:Nat)(a:h0r)(f:Bool):Option (C08×h0r):=
 Option.bind (α:=((List (List Int))×P1)) (
  (
  Option.bind (H0o F a.values) fun m=>
  some (m,a.rank))) fun(k,e)=>
 Option.bind (α:=((List (List Int))×(List (List z05))×P1)) (
  iter (G0l F a) F (0,(k,[],e))) fun(c,b,h)=>
 Option.bind (α:=((List (List Int))×(List (List z05))×P1)) (
  if f then
   Option.bind (F0t F a) fun d=>
   if C1 24 c [d]then
    if C1 24 b [a.chart.begin]then
     Option.bind (m0W F a.rank) fun i=>
     some (c++[d],b++[a.chart.begin],i)
    else none
   else none
  else
   some (c,b,h)) fun(g,l,j)=>
 some ((⟨g,l,j⟩:C08),a)
def P0I:F0p=J0S:=by
 funext x0 x1 x2;unfold F0p J0S;simp only[s6,B7]<;>rfl
def J09 (F:Nat)(k:h0r)(j:Int)(d:Bool):Option h0r:=
 Option.bind (J0S F k d) fun(c,p)=>
 Option.bind (G0R F p c j) fun(o,f)=>
 Option.bind (α:=((List Int)×(List (List Int))×h0r×((List Int)×(List z05)×(List E1)))) (
  iter (E00 F c o) F ([],[],0,f,([],[],[]))) fun(b,n,a,(i,q,g))=>
 Option.bind (m0B F a.chart.l c.rank i g) fun e=>
 let h:=W ((b.length:Int)*(b.length:Int))
 let m:=W ((W ((b.length:Int)*a.chart.tags))+h)
 some (⟨a.chart,W (a.at_+1),W (a.work+m),b,n,e⟩:h0r)
def T0i:E0Z=J09:=by
 funext x0 x1 x2 x3;unfold E0Z J09;simp only[s6,B7,P0I]<;>rfl
def K0i (F:Nat):(h0r×(List Int)×Int×Bool)->Int->Option (h0r×(List Int)×Int×Bool)
 |(c,f,k,is),j=>
 Option.bind (E0T F c) fun g=>
 Option.bind (α:=Bool) (
  if g==0 then
   some true
  else
   some (!is)) fun h=>
 Option.bind (J09 F c j h) fun a=>
 Option.bind (E0L F a) fun(b,i)=>
 if i then
  Option.bind (E0T F a) fun d=>
  if y0 b 0 then
   Option.bind (E0Y F a (gt b 0)) fun e=>
   some (e,b,d,true)
  else none
 else
  some (a,f,k,is)
def U0Y:F0c=K0i:=by
 funext x0;unfold F0c K0i;simp only[s6,B7,T0i]<;>rfl
def X02 (F:Nat)(a:b0D):Option b0D:=
 Option.bind (α:=(Int×Int×(List Int))) (
  (
  Option.bind (D0G F a.Class) fun i=>
  some (a.Tags,a.Regs,i))) fun(d,c,h)=>
 Option.bind (α:=(Int×Int×(List Int)×(List C05))) (
  iter (H04 F a) F (0,(d,c,h,[]))) fun(b,e,f,g)=>
 some (⟨b,e,f,g⟩:b0D)
def Y0H:G06=X02:=by
 funext x0 x1;unfold G06 X02;simp only[s6,B7]<;>rfl
def P0G (F:Nat)(a:b0D):Option ((Unit⊕(C0v×b0D×Int×Int×Int×(List Int)))×Int):=
 Option.bind (H0S F a) fun m=>
 if !m then
  some ((.inl ()),11)
 else
  Option.bind (α:=(C0v×b0D×Int×Int×Int×(List Int))) (
   (
   Option.bind (X02 F a) fun b=>
   if S5 8 a.Regs then
    some ((⟨[],0⟩:C0v),b,0,0,0,(List.replicate a.Regs.toNat 0:List Int))
   else none)) fun(o,f,g,h,l,n)=>
  Option.bind (G0j F (o,f,g,h,l,n)) fun(k,i,d,j,c,e)=>
  some ((.inr (k,i,d,j,c,e)),0)
def Z0q {α β:Type}(o:Option α):(Option.bind o fun _=>(none:Option β))=none:=by cases o<;>rfl
def Y02:H0W=P0G:=by
 funext x0 x1;unfold H0W P0G;cases h:S5 8 x1.Regs<;>simp only[q0,s6,B7,Y0H,Z0q]<;>rfl
def X0U (F:Nat)(f:(List Int))(i:(Int×(h0r×(List Int)×Int×Bool))):Option (T0 (Int×(h0r×(List Int)×Int×Bool)) (h0r×(List Int)×Int×Bool)):=
 match i with
 |(c,(a,d,b,e))=>
 if decide (c<(f.length:Int))then
  if y0 f c then
   Option.bind (G0a F (⟨(⟨a,d,b,e⟩:D0R)⟩:F00)) fun k=>
   if k then
    some (.done (a,d,b,e))
   else
    Option.bind (K0i F (a,d,b,e) (gt f c)) fun(l,h,j,g)=>
    some (.next (W (c+1),(l,h,j,g)))
  else none
 else
  some (.done (a,d,b,e))
def Z0e:C0K=X0U:=by
 funext x0 x1 x2;unfold C0K X0U;simp only[s6,B7,U0Y]<;>rfl
def H03 (F:Nat):(F0T×(h0r×(List Int)×Int×Bool))->(List Int)->Option (((Bool×Bool×(List V1))×Int)×(F0T×(h0r×(List Int)×Int×Bool)))
 |(a,(d,b,e,is)),c=>
 if a.closed then
  some (((false,false,[]),13),(a,(d,b,e,is)))
 else
  Option.bind (α:=(h0r×(List Int)×Int×Bool)) (
   iter (X0U F c) F (0,(d,b,e,is))) fun(h,p,g,k)=>
  Option.bind (E04 F ((⟨a.closed,W (a.count+(c.length:Int))⟩:F0T),(h,p,g,k))) fun((j,q,o),(m,(f,n,l,i)))=>
  some (((j,q,o),0),(m,(f,n,l,i)))
def Y0n:C0g=H03:=by
 funext x0;unfold C0g H03;simp only[s6,B7,Z0e]<;>rfl
def I0E (F:Nat)(d:b0D):Option ((Unit⊕(F0T×(C0v×b0D×Int×Int×Int×(List Int))))×Int):=
 Option.bind (α:=((Unit⊕(C0v×b0D×Int×Int×Int×(List Int)))×Int)) (
  Option.bind (P0G F d) fun(c,b)=>
  match c with
  |
   .inl _=>
   some ((.inl ()),b)
  |
   .inr (last,p2,at_,stand,work,regs)=>
   some ((.inr (last,p2,at_,stand,work,regs)),b)) fun(e,a)=>
 match e with
 |
  .inl _=>
  if a != 0 then
   some ((.inl ()),a)
  else
   none
 |
  .inr (last2,p3,at_2,stand2,work2,regs2)=>
  if a != 0 then
   some ((.inl ()),a)
  else
   some ((.inr ((⟨false,0⟩:F0T),(last2,p3,at_2,stand2,work2,regs2))),0)
def Y0T:I0l=I0E:=by
 funext x0 x1;unfold I0l I0E;simp only[s6,B7,Y02]<;>rfl
def Y0f (F:Nat):Option Bool:=
 Option.bind (α:=((Unit⊕(F0T×(h0r×(List Int)×Int×Bool)))×Int)) (
  Option.bind (X04 F) fun x=>
  Option.bind (C0R F x) fun(h,c)=>
  match h with
  |
   .inl _=>
   some ((.inl ()),c)
  |
   .inr (ending,(Crowd,tags,to,is))=>
   some ((.inr (ending,(Crowd,tags,to,is))),c)) fun(A,d)=>
 match A with
 |
  .inl _=>
  Option.bind (α:=Int) (
   Option.bind (I0E F (⟨0,0,[],[]⟩:b0D)) fun(Z,b)=>
   match Z with
   |
    .inl _=>
    some b
   |
    .inr (ending8,(last2,p2,at_2,stand2,work2,regs2))=>
    some b) fun D=>
  Option.bind (α:=Bool) (
   if d != 0 then
    some true
   else
    some true) fun g=>
  Option.bind (α:=Bool) (
   if g then
    some true
   else
    some (D != 11)) fun r=>
  if r then
   some false
  else
   if !([98,97,97]:List Int).isEmpty then
    none
   else none
 |
  .inr (ending2,(Crowd2,tags2,to2,is2))=>
  Option.bind (α:=Int) (
   Option.bind (I0E F (⟨0,0,[],[]⟩:b0D)) fun(q,a)=>
   match q with
   |
    .inl _=>
    some a
   |
    .inr (ending3,(last,p,at_,stand,work,regs))=>
    some a) fun E=>
  Option.bind (α:=Bool) (
   if d != 0 then
    some true
   else
    some false) fun i=>
  Option.bind (α:=Bool) (
   if i then
    some true
   else
    some (E != 11)) fun j=>
  if j then
   some false
  else
   if !([98,97,97]:List Int).isEmpty then
    Option.bind (H03 F (ending2,(Crowd2,tags2,to2,is2)) [98,97,97]) fun(((t,v,ae),af),(G,(s,w,N,O)))=>
    if !([98]:List Int).isEmpty then
     Option.bind (H03 F (G,(s,w,N,O)) [98]) fun(((ah,C,ab),aj),(J,(S,o,R,k)))=>
     Option.bind (O02 F (J,(S,o,R,k))) fun(((ao,u,L),P),(X,(H,y,l,T)))=>
     Option.bind (H03 F (X,(H,y,l,T)) []) fun(((ac,al,ak),n),(e,(am,ag,ai,an)))=>
     Option.bind (α:=Bool) (
      if t then
       some (!v)
      else
       some false) fun B=>
     Option.bind (α:=Bool) (
      if B then
       some C
      else
       some false) fun aa=>
     Option.bind (α:=Bool) (
      if aa then
       Option.bind (H9 F L [(⟨1,3⟩:V1)]) fun m=>
       some m
      else
       some false) fun Q=>
     Option.bind (α:=Bool) (
      if Q then
       some u
      else
       some false) fun I=>
     Option.bind (α:=Bool) (
      if I then
       some (P==0)
      else
       some false) fun M=>
     Option.bind (α:=Bool) (
      if M then
       some (n==13)
      else
       some false) fun f=>
     Option.bind (α:=Bool) (
      if f then
       some e.closed
      else
       some false) fun z=>
     Option.bind (α:=Bool) (
      if z then
       some (e.count==4)
      else
       some false) fun Y=>
     some Y
    else none
   else none
def Z0k:G0c=Y0f:=by
 funext x0;unfold G0c Y0f;simp only[s6,B7,Y0n,Y0T]<;>rfl
end Go.Proofs.YtmhooikfkhjijaaGreat
end
set_option maxRecDepth 100000
namespace Go.Proofs.YtmhooikfkhjijaaGreat
open Go.V Go.RowKit Old Go.X
def H0L:G0c Fb=some true:=by rw[Z0k];kernel_rfl
