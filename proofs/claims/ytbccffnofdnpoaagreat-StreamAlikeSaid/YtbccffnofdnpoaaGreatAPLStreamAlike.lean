/- P. Its conditions: none. -/
import Derived.Test.YtbccffnofdnpoaaGreatAG48
import Derived.Test.YtbccffnofdnpoaaGreatAG47
import Derived.Test.YtbccffnofdnpoaaGreatAQB3
import Derived.Test.YtbccffnofdnpoaaGreatADStreamAlike
open Bool (false_eq_true)
set_option linter.all false
namespace Go.Proofs.YtbccffnofdnpoaaGreat
open Go.V Go.RowKit Old Go.X
section
variable {F:Nat}{l:List D0}{n:Nat}{a:List B0}{b:Nat->List B0}{e:Nat->B0×Bool}{z:B0×Bool}{mode:Int}{cls:List Int}{L:List Y1}{d:E4}{p:N1}{H:Int->List Int}
def A06 (K:Y2 l n a b e z F)(hw:∀x∈l,V2 x)(hm:mode=0\/mode=1)(hn:n<=64){key:Nat->List Bool}(hk:∀x y:Nat,key x=key y->∀r,r<n->X1 l (x:Int) r=X1 l (y:Int) r){B m:Nat}(h:J6 (K1 F l mode (O0 (D3 key 256).2)) (O0 (D3 key 256).2).length (Kd.zero z mode).K B m):
  ∃L,Mch F l n mode (D3 key 256).2 L (a0l F l mode (D3 key 256).2 (Kd.zero z mode).K B).1/\(Kd.zero z mode).K∈L/\l5 L (Kd.zero z mode).K=0:=by
 obtain⟨_,q,z2⟩:=m05 (z:=z) K hw hm;have v:=i0M (D3 key 256).2 0 [] (fun x f=>by cases f);obtain⟨ok,U⟩:=p0w (R:=V5 F) (acc:=V6 F l) (tags:=Z2 l) h (PM F l n) q (fun k hk c i x s f=>by
   obtain⟨x',J,g,o,u,t⟩:=j0N (mode:=mode) K hw hm (least:=O0 (D3 key 256).2) v hk i;unfold K1 at f;rw[g]at f;simp only at f;split at f
   ·cases f
   ·cases f;exact⟨o,u,t⟩)
  (fun k hk=>by
   obtain⟨_,g,o⟩:=f05 K hk;exact⟨g,O'⟩)
  (fun k hk=>(m0D K hk).2)
 have hp:=d06 (K1 F l mode (O0 (D3 key 256).2)) (O0 (D3 key 256).2).length (Kd.zero z mode).K (Nat.zero_le m);have j:(Kd.zero z mode).K∈runK (K1 F l mode (O0 (D3 key 256).2)) (O0 (D3 key 256).2).length (Kd.zero z mode).K 0:=by simp[runK]
 refine⟨runK (K1 F l mode (O0 (D3 key 256).2)) (O0 (D3 key 256).2).length (Kd.zero z mode).K m,⟨by rw[h03 h],fun x f=>?_,fun k hk c i x s f=>(ok.nx k hk c i x s f).1⟩,hp.subset j,?_⟩
 ·obtain⟨c,c1,c2,c3,y,C,w⟩:=B0V key f;refine⟨c,c1,c2,c3,fun r I=>?_⟩;rw[C,hk y x.toNat w r I];have:((x.toNat:Nat):Int)=x:=by have:=f.1;rw[show IntKind.u8.min=0 from rfl]at this;omega
  rw[this]
 ·rw[s0t j hp];unfold l5 runK;simp[List.findIdx_cons]
def M0f (z:B0×Bool):Kd.zero z 0=⟨if z.2 then 2 else 1,[],[],fun _ _=>0,fun _ _=>0⟩:=by
 unfold Kd.zero;cases z.2<;>rfl
def A0E (K:Y2 l n a b e z F)(hw:∀x∈l,V2 x)(M:Mch F l n 0 cls L d)(P:h0k d p H)(g:(Kd.zero z 0).K∈L)(hp:l5 L (Kd.zero z 0).K=0):T8 F l n e z L H (Pr.d0V p) (Hs.zero l z) 0:=by
 obtain⟨i,f⟩:=M.at g;rw[hp]at i f;have hk:=(v0o (e:=e) (a:=a) (b:=b) K hw (.inl rfl)).2;have c:(H 0).map (gt (List.replicate p.Regs.toNat (0:Int)))=[]:=by
  have j:=(P.hom 0 O' i).1;have h1:(gt d.States 0).Regs=0:=by
   have:gt d.States 0=r8 (V5 F) (V6 F l) (K1 F l 0 (O0 cls)) (O0 cls).length L (Kd.zero z 0).K:=f;rw[this];show V5 F (Kd.zero z 0).K=0;unfold V5;rw[hk.rg];rfl
  rw[h1]at j;have:H 0=[]:=List.eq_nil_of_length_eq_zero O';rw[this];rfl
 refine t0Q (r:=⟨[],0,0,0,0,List.replicate p.Regs.toNat 0⟩) K M P hk g rfl (by rw[hp];rfl) ?_ (fun h=>absurd rfl h) (fun h=>?_)
 ·show l6 l n e z _ _ ((H 0).map (gt (List.replicate p.Regs.toNat (0:Int)))) 0;rw[c,M0f];exact N08 l n e z
 ·unfold f0w
  by_cases hs:(Hs.zero l z).is=true
  ·exact absurd ⟨hs,rfl⟩ h
  ·rw[if_neg hs]
def p0I (K:Y2 l n a b e z F)(hw:∀x∈l,V2 x)(M:Mch F l n 0 cls L d)(P:h0k d p H)(hd:Pr.Rd p):∀(w:List Int) (h:Hs) (r:Pr.RS) (j:Nat),(∀x∈w,J4 .u8 x)->T8 F l n e z L H r h j->Pr.RI p r j->j+w.length<=100000->
  ∃f,f<=j+w.length/\T8 F l n e z L H (a8 p r w) (e8 l n a b e h w) f/\Pr.RI p (a8 p r w) f
 |[],h,r,j,_,S,R,_=>⟨j,Nat.le_refl _,S,R⟩
 |x :: w,h,r,j,hb,S,R,hj=>by
  have g:=S.ov;have m:=hb x (List.mem_cons_self ..);simp only[List.length_cons]at hj ⊢;show ∃f,f<=j+(w.length+1)/\T8 F l n e z L H (a8 p (goR p r x) w) (e8 l n a b e (goH l n a b e h x) w) f/\Pr.RI p (a8 p (goR p r x) w) f;unfold goR goH;cases c:h.over with
  |true=>
   rw[c,decide_eq_true_eq]at g;rw[if_pos g,if_pos rfl];obtain⟨f,o,i⟩:=p0I K hw M P hd w h r j (fun y k=>hb y (List.mem_cons_of_mem _ k)) S R O';exact⟨f,O',i⟩
  |false=>
   rw[c,decide_eq_false_iff_not]at g;rw[if_neg g,if_neg V'];obtain⟨f,o,i⟩:=p0I K hw M P hd w _ _ (j+1) (fun y k=>hb y (List.mem_cons_of_mem _ k)) (L0i K hw M P R.rl S O' c m) (Pr.v0I hd R (u0H m)) O';exact⟨f,O',i⟩
def T8.fnd {r:Pr.RS}{h:Hs}{i:Nat}(S:T8 F l n e z L H r h i):c08 r=h.found:=by
 have c:=S.ls;have g:=S.ok;have j:=k7 l;unfold f0w at c;unfold c08 Hs.found
 by_cases f:h.is=true
 ·rw[if_pos f]at c;obtain⟨t1,_⟩:=g.is f;rw[c.1,c.2,if_pos f,if_neg O']
 ·rw[if_neg f]at c;rw[c,if_neg f];rfl
def G0j {h:Hs}{i:Nat}(j:P7 l n h i)(hn:n<=1000)(g:2000<F)(c:Int):
  h0c F (⟨false,c⟩,h.C l n a b e z)=some (((h.found.2,true,h.found.1),0),(⟨true,c⟩,h.C l n a b e z)):=by
 have f:=w0h (F:=F) (a:=a) (b:=b) (e:=e) (z:=z) j hn g true c;unfold Hs.C at f ⊢;unfold h0c;simp only[q0,f,Bool.true_or]
def B04 {ps:List a0u}(w:2000<F):∃r,k0U F ps=some r/\(r=true->ps.length<=20/\∀x∈ps,x.B.length<=24):=by
 unfold k0U
 by_cases h:ps.length<=20
 ·have g:decide ((ps.length:Int)>20)=false:=by simp;omega
  obtain⟨r,h1,q⟩:=Mv.c0q (body:=k0f F ps) (fun s=>∃k:Nat,k<=ps.length/\s.2=(k:Int)/\(0<=s.1/\s.1<=24*k)/\∀j:Nat,j<k->(gt ps (j:Int)).B.length<=24) (fun s=>(ps.length-s.2).toNat) (fun r=>∀m,r=.inr m->∀x∈ps,x.B.length<=24) (fun s hs=>by
   obtain⟨m,x⟩:=s;obtain⟨k,hk,e,g1,g2⟩:=hs;simp only at e g1 g2;subst e
   by_cases c:k<ps.length
   ·by_cases t:(gt ps (k:Int)).B.length<=24
    ·left;have f:decide (((gt ps (k:Int)).B.length:Int)>24)=false:=by simp;omega
     refine⟨(m+((gt ps (k:Int)).B.length:Int),((k+1:Nat):Int)),?_,⟨k+1,c,rfl,by simp only;omega,fun j v=>?_⟩,by simp only;omega⟩
     ·unfold k0f;simp only[q0,dec_lt c,Q4,c,f,J3 (n:=m+((gt ps (k:Int)).B.length:Int)) O' O',Mv.Ws (show k<=1000000 from O')]
     ·by_cases e:j=k
      ·subst e;exact t
      ·exact g2 j O'
    ·right;have f:decide (((gt ps (k:Int)).B.length:Int)>24)=true:=by simp;omega
     exact⟨.inl (),by unfold k0f;simp only[dec_lt c,Q4,c,decide_true,if_true,f],fun m hm=>by cases hm⟩
   ·right;have:k=ps.length:=O'
    subst this;exact⟨.inr m,by unfold k0f;simp,fun _ _ x i=>by obtain⟨j,o,rfl⟩:=Mv.mgt i;exact g2 j o⟩) F (0,0) ⟨0,Nat.zero_le _,rfl,V',fun j v=>O'⟩ (by simp only;omega)
  simp only[q0,g,h1];cases r with
  |inl u=>exact⟨false,rfl,fun h=>by cases h⟩
  |inr m=>exact⟨_,rfl,fun _=>⟨h,q m rfl⟩⟩
 ·have g:decide ((ps.length:Int)>20)=true:=by simp;omega
  exact⟨false,by simp only[g,if_true],fun h=>by cases h⟩
def I0D (K:Y2 l n a b e z F)(hn:n<=1000)(U:2000<F)(hw:∀x∈l,V2 x)(M:Mch F l n 0 cls L d)(P:h0k d p H)(hd:Pr.Rd p){ps:List a0u}(hb:∀x∈ps,∀y∈x.B,J4 .u8 y)(hl:ps.length<=20)(w:∀x∈ps,x.B.length<=24)(S0:T8 F l n e z L H (Pr.d0V p) (Hs.zero l z) 0):
  ∃h r c j,iter (k0a F ps) F (0,(⟨false,0⟩,(Hs.zero l z).C l n a b e z),(⟨false,0⟩,Pr.T5 p (Pr.d0V p)))=some (.inr ((⟨false,c⟩,Hs.C l n a b e z h),(⟨false,c⟩,Pr.T5 p r)))/\T8 F l n e z L H r h j/\Pr.RI p r j:=by
 have f1:=K.f1;have key:∀(k i fu:Nat) (h:Hs) (r:Pr.RS) (c:Int) (j:Nat),i+k=ps.length->k<fu->T8 F l n e z L H r h j->Pr.RI p r j->j<=24*i->0<=c->c<=24*i->
   ∃s r' c' t,iter (k0a F ps) fu ((i:Int),(⟨false,c⟩,h.C l n a b e z),(⟨false,c⟩,Pr.T5 p r))=some (.inr ((⟨false,c'⟩,Hs.C l n a b e z s),(⟨false,c'⟩,Pr.T5 p r')))/\T8 F l n e z L H r' s t/\Pr.RI p r' t:=by
  intro k
  induction k with
  |zero=>
   intro i fu h r c j hi v S R hj J h1;obtain⟨fu,rfl⟩:∃m,fu=m+1:=⟨fu-1,O'⟩
   obtain rfl:i=ps.length:=O'
   refine⟨h,r,c,j,?_,S,R⟩;unfold iter k0a Hs.C Pr.T5;simp
  |succ k ih=>
   intro i fu h r c j hi v S R hj J h1;obtain⟨fu,rfl⟩:∃m,fu=m+1:=⟨fu-1,O'⟩
   have f:i<ps.length:=O'
   have hm:=Mv.P4 f;have I:=w _ hm;have o:=hb _ hm;obtain⟨a1,_⟩:=O0o (c:=c) K hn hw o O' S.ok O' J O';obtain⟨u,_⟩:=M00 (F:=F) (c:=c) hd o I U R O' J O';obtain⟨t,j1,q,R'⟩:=p0I K hw M P hd (gt ps (i:Int)).B h r j o S R O';rw[q.ov,q.fnd]at u;have s1:=z0L (F:=F) (x:=⟨(e8 l n a b e h (gt ps (i:Int)).B).found.2,(e8 l n a b e h (gt ps (i:Int)).B).over,(e8 l n a b e h (gt ps (i:Int)).B).found.1⟩) (y0G q.ok) U;obtain⟨s,r',c',j2,g1,g2⟩:=ih (i+1) fu (e8 l n a b e h (gt ps (i:Int)).B) (a8 p r (gt ps (i:Int)).B) (c+((gt ps (i:Int)).B.length:Int)) t O' O' q R' O' O' O';refine⟨s,r',c',j2,?_,g2⟩;rw[<-g1];refine g0F ?_;unfold Hs.C at a1 ⊢;unfold Pr.T5 at u ⊢;unfold k0a;simp only[q0,dec_lt f,Q4,f,a1,u,s1,bne_self_eq_false,Mv.Ws (show i<=1000000 from O')]
 obtain⟨h,r,c,j,g⟩:=key ps.length 0 F (Hs.zero l z) (Pr.d0V p) 0 0 O' O' S0 (Pr.C0l hd) O' O' O';exact⟨h,r,c,j,g⟩
end
def D0X {l:List D0}{n:Nat}{a:List B0}{b:Nat->List B0}{e:Nat->B0×Bool}{z:B0×Bool}(K:Y2 l n a b e z Fb)(hw:∀x∈l,V2 x)(hl:l.length<=1000){mode:Int}(hm:mode=0\/mode=1){B:Nat}(i:B<=400):g0e Fb l mode (B:Int)=some (a0l Fb l mode (D3 (K7 l) 256).2 (Kd.zero z mode).K B):=by
 obtain⟨f1,f2,f3,f4⟩:=f0j (K7 l) 256;have h:=J02 K hw hl;have c:=x0x (K7 l);have g:=i0M (D3 (K7 l) 256).2 0 [] (fun x f=>(by cases f));generalize (D3 (K7 l) 256).2=cls at *;exact I0I K hw hm h (by rw[p0l cls O' (by unfold Fb;omega),c];rfl) O' g i
def H08 {ps:List a0u}(h:wfD en 20 (.list (.st 1)) ps):∀x∈ps,∀y∈x.B,J4 .u8 y:=fun x c=>(h x c).2.1
def I0G:u0D:=by
 intro l ps v w hl a1;have hw:=E0z v;have hb:=H08 w;have hF:5000<Fb:=by unfold Fb;omega
 refine⟨Fb,?_⟩;unfold o0N;obtain⟨fw,f1,f2⟩:=B04 (F:=Fb) (ps:=ps) O'
 by_cases b1:l.length<=24
 case neg=>
  have f:decide ((l.length:Int)>24)=true:=by simp;omega
  simp only[f,if_true,F0,k0v]
 have f:decide ((l.length:Int)>24)=false:=by simp;omega
 cases fw with
 |false=>simp only[q0,f,f1,k0v]
 |true=>
  obtain⟨q,j⟩:=f2 rfl;cases hR:N3 l with
  |false=>simp only[q0,f,f1,(I01 hR hl O').2,k0v]
  |true=>
   obtain⟨a,b,e,z,K⟩:=known hw hR hl O';obtain⟨t,ht⟩:=c0v hw hR;have hn:=K0h ht;have hk:=fun x y (h:K7 l x=K7 l y)=>A0y (l:=l) rfl h;have b0:=D0X K hw O' (.inl rfl) (show 40<=400 from O');have b0:g0e Fb l 0 40=_:=b0;simp only[q0,f,f1,K.TF.rR,b0];rcases r0f (K1 Fb l 0 (O0 (D3 (K7 l) 256).2)) (O0 (D3 (K7 l) 256).2).length (Kd.zero z 0).K 40 with⟨m,m1,h⟩|⟨i,i1,h⟩
   ·obtain⟨L,M,g1,g2⟩:=A06 K hw (.inl rfl) O' hk h;have c:=B0w K hw (.inl rfl) O' (show 40<=400 from O') h;have m0:=J0C (mode:=0) K hw (.inl rfl) O' (K7 l) (show 40<=100 from O');have he:(a0l Fb l 0 (D3 (K7 l) 256).2 (Kd.zero z 0).K 40).2=0:=by rw[h03 h]
    have u:=c.2.2;generalize a0l Fb l 0 (D3 (K7 l) 256).2 (Kd.zero z 0).K 40=r0 at *;obtain⟨d,x0⟩:=r0;simp only at M c m0 he u;subst he;have hD:=n05 m0 c.1;obtain⟨p,H,p1,P,o,g⟩:=Mv.B0F (F:=Fb) hD c.1 hF O';have hd:=Pr.n05 o g;obtain⟨I,r',c',j',r,S,R⟩:=I0D (F:=Fb) K O' O' hw M P hd hb q j (A0E K hw M P g1 g2);have J:=O0K K;have k:=B0j (F:=Fb) o g O';have U:=G0j (F:=Fb) (a:=a) (b:=b) (e:=e) (z:=z) S.ok O' O' c';have k2:=O0d (F:=Fb) (p:=p) (s:=r') (by have:=R.tl;omega) O' c';rw[S.fnd]at k2;have s1:=z0L (F:=Fb) (x:=⟨I.found.2,true,I.found.1⟩) (y0G S.ok) O';unfold Hs.C at J r U;unfold Pr.T5 at k r k2;simp only[q0,bne_self_eq_false,p1,J,k,r,U,k2,s1,beq_self_eq_true,k0v]
   ·rw[q0v h];simp only[show((14:Int) != 0)=true from rfl,if_true,F0,k0v]
