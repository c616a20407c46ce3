/- P. Its conditions: none. -/
import Derived.Test.YtmhooikfkhjijaaGreatYG50
import Derived.Test.YtmhooikfkhjijaaGreatYDStreamTells
open Bool (false_eq_true)
set_option linter.all false
namespace Go.Proofs.YtmhooikfkhjijaaGreat
open Go.V Go.RowKit Old Go.X
def b1i {F:Nat}{ps:List F07}(hl:ps.length<=20):∀(k i fu:Nat) (n:Int),i+k=ps.length->k<fu->0<=n->n<=24*i->
  ∃r,iter (I03 F ps) fu (n,(i:Int))=some r/\∀m,r=.inr m->∀j,i<=j->j<ps.length->(gt ps (j:Int)).B.length<=24:=by
 intro k
 induction k with
 |
  zero=>
  intro i fu n hi hfu h0 h1;obtain⟨fu,rfl⟩:∃m,fu=m+1:=⟨fu-1,by omega⟩
  obtain rfl:i=ps.length:=by omega
  refine⟨.inr n,?_,fun m _ j h2 h3=>by omega⟩;unfold iter I03;simp
 |
  succ k ih=>
  intro i fu n hi hfu h0 h1;obtain⟨fu,rfl⟩:∃m,fu=m+1:=⟨fu-1,by omega⟩
  have hil:i<ps.length:=by omega
  by_cases hb:(gt ps (i:Int)).B.length<=24
  ·have e:decide (((gt ps (i:Int)).B.length:Int)>24)=false:=by simp;omega
   obtain⟨r,h2,h3⟩:=ih (i+1) fu (n+((gt ps (i:Int)).B.length:Int)) (by omega) (by omega) (by omega) (by omega);refine⟨r,?_,fun m hm j h4 h5=>?_⟩
   ·rw[<-h2];refine L0r ?_;unfold I03;simp only[q0,Pr.dec_lt hil,Y3,hil,e];rw[c0R (n:=n+((gt ps (i:Int)).B.length:Int)) (by omega) (by omega),Go.V.R2 (by omega)]
   ·by_cases h6:j=i
    ·subst h6;exact hb
    ·exact h3 m hm j (by omega) h5
  ·have e:decide (((gt ps (i:Int)).B.length:Int)>24)=true:=by simp;omega
   refine⟨.inl (),?_,fun m hm=>by cases hm⟩;unfold iter I03;simp only[Pr.dec_lt hil,Y3,hil,decide_true,if_true,e]
def a1O {F:Nat}(ps:List F07)(hf:2000<F):∃r,Z0p F ps=some r/\(r=true->ps.length<=20/\∀x∈ps,x.B.length<=24):=by
 unfold Z0p
 by_cases hl:ps.length<=20
 ·have e:decide ((ps.length:Int)>20)=false:=by simp;omega
  obtain⟨r,h1,h2⟩:=b1i (F:=F) hl ps.length 0 F 0 (by omega) (by omega) (by omega) (by omega);have h1:iter (I03 F ps) F (0,0)=some r:=h1;cases r with
  |inl u=>exact⟨false,by simp only[q0,e,h1],fun h=>by cases h⟩
  |
   inr m=>
   refine⟨decide (m<=24),by simp only[q0,e,h1],fun _=>⟨hl,fun x hx=>?_⟩⟩;obtain⟨j,hj,rfl⟩:=List.getElem_of_mem hx;have:=h2 m rfl j (by omega) hj
   rwa [Y5 (x:=ps[j]) (by simp[hj])]at this
 ·have e:decide ((ps.length:Int)>20)=true:=by simp;omega
  exact⟨false,by simp only[e,if_true],fun h=>by cases h⟩
def c1b {ps:List F07}(h:V4 en 20 (.list (.st 6)) ps):∀x∈ps,∀y∈x.B,inK .u8 y:=fun x hx=>(h x hx).2.1
def b1z:a1w:=by
 intro l p ps hl0 hp0 hs0 hl hpl;have hw:=K04 hl0;have hb:=c1b hs0;have hF:2000<Fb:=by unfold Fb;omega
 refine⟨Fb,?_⟩;unfold Z01;rw[Pr.i0w p hF];obtain⟨r,f1,f2⟩:=a1O (F:=Fb) ps hF;rw[f1];simp only[F1,F0x]
 by_cases h40:l.length<=40
 ·have e:decide ((l.length:Int)>40)=false:=by simp;omega
  cases hs:Pr.a0M p with
  |false=>simp only[q0,e,Bool.or_true,Bool.true_or,H0L]
  |
   true=>
   cases r with
   |false=>simp only[q0,e,Bool.or_true,H0L]
   |
    true=>
    obtain⟨p20,p24⟩:=f2 rfl;have hd:=Pr.i0x hs;have hq:=Pr.X0h p hd hF;cases hR:e0M l with
    |
     false=>
     have c1:C0R Fb l=some (.inl (),11):=by
      unfold C0R H0H;rw[b1X hR hl (by omega)];rfl
     have hr:=(O0C hR hl (by omega)).2;cases hP:Pr.C0Z p with
     |
      false=>
      rw[hP]at hq;simp only[q0,e,Bool.or_false,c1,a1c hd hP hF,hr,hq,show((11:Int) != 11)=false from rfl,show((11:Int)==11)=true from rfl,H0L]
     |
      true=>
      rw[hP]at hq;have hRd:=Pr.o8 hd hP;have d1:D0s Fb p=some (dR p ⟨⟨[],[],[],[],[],0,0,[],[],⟨[],[]⟩⟩,[],0,false⟩ (Pr.F0f p) 0 false):=by
       unfold D0s;rw[Pr.W0R hd hP hF];rfl
      obtain⟨⟨q1,q2,q3,q4,q5,q6,q7⟩,t1⟩:=a1C hRd hF ⟨⟨[],[],[],[],[],0,0,[],[],⟨[],[]⟩⟩,[],0,false⟩ hb p20 p24;have t0:=a1s hd hP hF;unfold Pr.toA at t0 t1;simp only[q0,e,Bool.or_false,c1,t0,hr,hq,show((11:Int) != 11)=false from rfl,show((0:Int)==0)=true from rfl,d1,t1,H0L]
    |
     true=>
     obtain⟨a,b,e_,z,K⟩:=known hw hR hl (by omega);have hn:u5 l l.length<=1000:=by have:=D06 l l.length;omega
     have hr:=K.TF.rR;have c1:=Y08 K;have d0:F02 Fb l=some (dX l (u5 l l.length) a b e_ ⟨⟨0,0,[],[]⟩,0,0,[],[],0,false,0⟩ (Hs.zero l z) 0 false):=by
      unfold F02;rw[T0S K];rfl
     obtain⟨⟨y1,y2,y3,y4,y5⟩,s1⟩:=b1l K hn hw ⟨⟨0,0,[],[]⟩,0,0,[],[],0,false,0⟩ hb p20 p24;unfold Hs.C at c1 s1;cases hP:Pr.C0Z p with
     |
      false=>
      rw[hP]at hq;simp only[q0,e,Bool.or_false,c1,a1c hd hP hF,hr,hq,show((0:Int) != 0)=false from rfl,show((11:Int)==11)=true from rfl,d0,s1,H0L]
     |
      true=>
      rw[hP]at hq;have hRd:=Pr.o8 hd hP;have d1:D0s Fb p=some (dR p ⟨⟨[],[],[],[],[],0,0,[],[],⟨[],[]⟩⟩,[],0,false⟩ (Pr.F0f p) 0 false):=by
       unfold D0s;rw[Pr.W0R hd hP hF];rfl
      obtain⟨⟨q1,q2,q3,q4,q5,q6,q7⟩,t1⟩:=a1C hRd hF ⟨⟨[],[],[],[],[],0,0,[],[],⟨[],[]⟩⟩,[],0,false⟩ hb p20 p24;have t0:=a1s hd hP hF;unfold Pr.toA at t0 t1;simp only[q0,e,Bool.or_false,c1,t0,hr,hq,show((0:Int) != 0)=false from rfl,show((0:Int)==0)=true from rfl,d0,s1,d1,t1,H0L]
 ·have e:decide ((l.length:Int)>40)=true:=by simp;omega
  simp only[e,Bool.true_or,if_true,H0L,F1]
