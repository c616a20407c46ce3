/- P. Its conditions: none. -/
import Derived.Test.YtihmgaccbcfgjaaGreatQG44
import Derived.Test.YtihmgaccbcfgjaaGreatQG47
import Derived.Test.YtihmgaccbcfgjaaGreatQG45
open Bool (false_eq_true)
set_option linter.all false
namespace Go.Proofs.YtihmgaccbcfgjaaGreat
open Go.V Go.RowKit Old Go.X
open Classical
section
variable {F:Nat}{l:List C0}{n:Nat}{a:List B0}{b:Nat->List B0}{e:Nat->B0×Bool}{z:B0×Bool}{mode:Int}
structure DOk (F:Nat)(l:List C0)(k:F1)(R:Nat):Prop where
 rt:i0i F l k=some true
 rg:J0r F k=some (R:Int)
def N0p (K:U3 l n a b e z F)(hw:∀x∈l,P2 x)(hm:mode=0\/mode=1):f0X F l mode=some ((Kd.zero z mode).K,0)/\DOk F l (Kd.zero z mode).K 0:=by
 obtain⟨_,h⟩:=A0M K hw hm;obtain⟨d,c⟩:=M0w K h.C h.f0 h.f2;exact⟨N0T K hw hm,d,c⟩
def N0J (K:U3 l n a b e z F)(hw:∀x∈l,P2 x){k:Kd}{R:Nat}(h:KOk F l n k R)(hd:DOk F l k.K R)(hm:mode=0\/mode=1){b_:Int}(c:L5 .u8 b_):
  J0N F l mode k.K b_=some ((k.next l n a b e mode b_).K,k.src l n a b e mode b_)/\DOk F l (k.next l n a b e mode b_).K (k.src l n a b e mode b_).length:=by
 have f:=t0R (e:=e) mode (o0m K hw h.C b_);have h1:=(x0l K hw h hm c).2.1;obtain⟨g,d⟩:=M0w K f h1.f0 h1.f2;exact⟨O0L K hw h.C hd.rt hm c,g,d⟩
def N0C (K:U3 l n a b e z F)(hw:∀x∈l,P2 x)(hm:mode=0\/mode=1)(hn:n<=64){key:Nat->List Bool}(hk:∀x y:Nat,key x=key y->∀r,r<n->s7 l (x:Int) r=s7 l (y:Int) r){B m:Nat}(h:Y4 (J1 F l mode (M0 (I3 key 256).2)) (M0 (I3 key 256).2).length (Kd.zero z mode).K B m):
  ∃L,Mch F l n mode (I3 key 256).2 L (j8 F l mode (I3 key 256).2 (Kd.zero z mode).K B).1/\(Kd.zero z mode).K∈L/\X6 L (Kd.zero z mode).K=0/\L.length=m:=by
 obtain⟨_,u,z2⟩:=q0I (z:=z) K hw hm;have t:=j0l (I3 key 256).2 0 [] (fun x d=>by cases d);obtain⟨ok,w⟩:=r0E (R:=K6 F) (acc:=V8 F l) (tags:=C4 l) h (PM F l n) u (fun k hk c f x s d=>by
   obtain⟨x',C,g,j,o,q⟩:=j0B (mode:=mode) K hw hm (least:=M0 (I3 key 256).2) t hk f;unfold J1 at d;rw[g]at d;simp only at d;split at d
   ·cases d
   ·cases d;exact⟨j,o,q⟩)
  (fun k hk=>by
   obtain⟨_,g,j⟩:=h0s K hk;exact⟨g,O'⟩)
  (fun k hk=>(n0r K hk).2)
 have hp:=d0g (J1 F l mode (M0 (I3 key 256).2)) (M0 (I3 key 256).2).length (Kd.zero z mode).K (Nat.zero_le m);have i:(Kd.zero z mode).K∈runK (J1 F l mode (M0 (I3 key 256).2)) (M0 (I3 key 256).2).length (Kd.zero z mode).K 0:=by simp[runK]
 refine⟨runK (J1 F l mode (M0 (I3 key 256).2)) (M0 (I3 key 256).2).length (Kd.zero z mode).K m,⟨by rw[e0k h],fun x d=>?_,fun k hk c f x s d=>(ok.nx k hk c f x s d).1⟩,hp.subset i,?_,h.1.symm⟩
 ·obtain⟨c,c1,c2,c3,y,p,y2⟩:=N0c key d;refine⟨c,c1,c2,c3,fun r v=>?_⟩;rw[p,hk y x.toNat y2 r v];have:((x.toNat:Nat):Int)=x:=by have:=d.1;rw[show IntKind.u8.min=0 from rfl]at this;omega
  rw[this]
 ·rw[v09 i hp];unfold X6 runK;simp[List.findIdx_cons]
end
section
variable {F:Nat}
theorem M04 (a b:List Int)(hl:a.length<=1000000)(d:2000001<F):f0t F a b=some (decide (a=b)):=by
 unfold f0t
 by_cases h:a.length=b.length
 ·rw[k0T h (good:=.inr ()) (bad:=.inl ()) (fun i hi=>by
   unfold m0T;have h1:(i:Int)<(a.length:Int):=O'
   simp only[h1,decide_true,if_true,V0 (l:=a) (i:=(i:Int)) O' h1,V0 (l:=b) (i:=(i:Int)) O' O']
   grind [X1]) (by simp[m0T]) (show a.length<F from O')]
  grind
 ·have g:¬a=b:=fun c=>h (by rw[c])
  grind
theorem R0C (a b:List (List Int))(hl:a.length<=1000)(f:∀r∈a,r.length<=1000)(q:2000001<F):M0t F a b=some (decide (a=b)):=by
 unfold M0t
 by_cases h:a.length=b.length
 ·rw[k0T h (good:=.inr ()) (bad:=.inl ()) (fun i hi=>by
   unfold P0e;have h1:(i:Int)<(a.length:Int):=O'
   have ha:y0 a (i:Int)=true:=V0 O' h1;have p:y0 b (i:Int)=true:=V0 O' O';have o:=f _ (b8 (l:=a) (i:=i) hi)
   by_cases c:(gt a (i:Int)).length=(gt b (i:Int)).length
   ·have j:(((gt a (i:Int)).length:Int) != ((gt b (i:Int)).length:Int))=false:=by grind
    simp only[j,false_eq_true,if_false];rw[k0T c (good:=.inr ()) (bad:=.inl ()) (fun k hk=>by
     unfold O0b;have d:(k:Int)<((gt a (i:Int)).length:Int):=O'
     simp only[ha,p,d,decide_true,if_true,V0 (l:=gt a (i:Int)) (i:=(k:Int)) O' d,V0 (l:=gt b (i:Int)) (i:=(k:Int)) O' O']
     grind [X1]) (by simp_all[O0b]) (show(gt a (i:Int)).length<F from O')]
    grind [X1]
   grind) (by simp[P0e]) (show a.length<F from O')]
  grind
 ·have g:¬a=b:=fun m=>h (by rw[m])
  grind
theorem R0c (x y:D2)(h1:x.B.length<=1000)(t:x.D.length<=1000)(s:∀r∈x.B,r.length<=1000)(o:∀r∈x.D,r.length<=1000)(f:2000001<F):M0g F x y=some (decide (x=y)):=by
 unfold M0g
 by_cases h:x.B.length=y.B.length
 ·have e:((x.B.length:Int) != (y.B.length:Int))=false:=by simp[h]
  by_cases d:x.D.length=y.D.length
  ·have e':((x.D.length:Int) != (y.D.length:Int))=false:=by grind
   rw[k0T h (good:=.inr ()) (bad:=.inl ()) (fun i hi=>by
    unfold P05;have h1:(i:Int)<(x.B.length:Int):=O'
    have:=s _ (b8 (l:=x.B) (i:=i) hi);simp only[q0,h1,V0 (l:=x.B) (i:=(i:Int)) O' h1,V0 (l:=y.B) (i:=(i:Int)) O' O',M04 (F:=F) (gt x.B (i:Int)) (gt y.B (i:Int)) O' f]
    grind [X1]) (by simp[P05]) (show x.B.length<F from O')]
   rw[k0T d (good:=.inr ()) (bad:=.inl ()) (fun i hi=>by
     unfold Q0v;have h1:(i:Int)<(x.D.length:Int):=O'
     have:=o _ (b8 (l:=x.D) (i:=i) hi);simp only[q0,h1,V0 (l:=x.D) (i:=(i:Int)) O' h1,V0 (l:=y.D) (i:=(i:Int)) O' O',M04 (F:=F) (gt x.D (i:Int)) (gt y.D (i:Int)) O' f]
     grind [X1]) (by simp[Q0v]) (show x.D.length<F from O')]
   obtain⟨q,j⟩:=x;obtain⟨p,k⟩:=y
   by_cases g:q=p
   ·by_cases m:j=k
    ·simp_all
    simp_all
   simp_all
  ·have e':((x.D.length:Int) != (y.D.length:Int))=true:=by grind
   have m:¬x=y:=fun c=>d (by rw[c])
   simp_all
 ·have g:¬x=y:=fun c=>h (by rw[c])
  grind
def R0S (a b:F1)(t:a.Places.length<=1000)(hm:a.Maps.length<=1000)(f:∀r∈a.Maps,r.length<=1000)(h1:a.Rank.B.length<=1000)(s:a.Rank.D.length<=1000)(p:∀r∈a.Rank.B,r.length<=1000)(j:∀r∈a.Rank.D,r.length<=1000)(c:2000001<F):L0j F a b=some (decide (a=b)):=by
 unfold L0j;rw[M04 _ _ O' c,R0c _ _ h1 s p j c,R0C _ _ hm f c];obtain⟨m,i,g,q⟩:=a;obtain⟨d,o,k,h⟩:=b
 by_cases c1:m=d<;>by_cases c2:i=o<;>by_cases c3:g=k<;>by_cases c4:q=h<;>simp[c1,c2,c3,c4]
end
section
variable {F:Nat}{l:List C0}{n:Nat}{a:List B0}{b:Nat->List B0}{e:Nat->B0×Bool}{z:B0×Bool}{mode:Int}
theorem R0T (K:U3 l n a b e z F){x:F1}(h:PM F l n x)(y:F1):L0j F x y=some (decide (x=y)):=by
 have f1:=K.f1;have hn:=K.T.n64;obtain⟨h1,g,f,fB,fD,d⟩:=z06 K h;refine R0S x y O' O' (fun r c=>by grind) ?_ ?_ ?_ ?_ O'
 ·grind [U2,U1]
 ·grind [U2,U1]
 ·rw[d];intro r c;simp[U2,U1]at c;obtain⟨i,_,rfl⟩:=c;simp;omega
 ·rw[d];intro r c;simp[U2,U1]at c;obtain⟨i,_,rfl⟩:=c;simp;omega
def PD (F:Nat)(l:List C0)(n:Nat)(k:F1):Prop:=∃c R,k=c.K/\KOk F l n c R/\DOk F l c.K R
def PD.pm {k:F1}(h:PD F l n k):PM F l n k:=by
 obtain⟨c,R,h1,d,_⟩:=h;exact⟨c,R,h1,d⟩
def R0r {k:F1}(h:PD F l n k):J0r F k=some (K6 F k):=by
 obtain⟨f,R,rfl,d,c⟩:=h;rw[c.rg];unfold K6;rw[d.rg];rfl
def Q04 (K:U3 l n a b e z F){k:F1}(h:PD F l n k):K0l F l k=some (V8 F l k):=by
 obtain⟨f,R,rfl,c,d⟩:=h;rw[L0I K c.C d.rt];unfold V8;rw[(D0j K c).1];rfl
def Q0S (K:U3 l n a b e z F)(hw:∀x∈l,P2 x)(hm:mode=0\/mode=1){k:F1}(h:PD F l n k){b_:Int}(c:L5 .u8 b_):
  ∃x s,c0Q F l mode k b_=some (x,s)/\J0N F l mode k b_=some (x,s)/\PD F l n x:=by
 obtain⟨j,R,rfl,d,i⟩:=h;obtain⟨g,f,_⟩:=x0l K hw d hm c;obtain⟨g1,g2⟩:=N0J K hw d i hm c;exact⟨_,_,g,g1,_,_,rfl,f,g2⟩
def R0j (K:U3 l n a b e z F)(hw:∀x∈l,P2 x)(hm:mode=0\/mode=1){least:List Int}(f:∀x∈least,L5 .u8 x){k x:F1}{s:List Int}{c:Nat}(h:PD F l n k)(d:c<least.length)(j:J1 F l mode least k c=some (x,s)):PD F l n x:=by
 obtain⟨x',g,m,_,i⟩:=Q0S (mode:=mode) K hw hm h (f _ (b8 d))
 simp_all[J1]
theorem R0a (K:U3 l n a b e z F){x:F1}{all:List F1}(h:∀y∈all,PM F l n y)(hl:all.length<=100000)(E:Int×List Int×List H4)(src:List Int):iter (i0j F all) F (0,E,x,(-1,src))=some (E,x,(if x∈all then((X6 all x:Nat):Int)else -1,src)):=by
 have f1:=K.f1;obtain⟨E1,E2,E3⟩:=E;have key:∀k i fu:Nat,i+k=all.length->k+1<fu->(∀j,j<i->all[j]?≠some x)->iter (i0j F all) fu ((i:Int),(E1,E2,E3),x,(-1,src))=some ((E1,E2,E3),x,(if x∈all then((X6 all x:Nat):Int)else -1,src)):=by
  intro k
  induction k with
  |zero=>
   intro i fu hi o f;obtain⟨fu,rfl⟩:∃m,fu=m+1:=⟨fu-1,O'⟩
   have hn:¬x∈all:=fun p=>by
    grind [List.getElem?_of_mem]
   simp_all[u0x,i0j]
  |succ k ih=>
   intro i fu hi o f;obtain⟨fu,rfl⟩:∃m,fu=m+1:=⟨fu-1,O'⟩
   have c:i<all.length:=O'
   have h1:(i:Int)<(all.length:Int):=O'
   have hs:=R0T K (h _ (b8 c)) x;have g:all[i]?=some (gt all (i:Int)):=P4 c
   by_cases q:gt all (i:Int)=x
   ·have hm:x∈all:=by grind
    have hp:X6 all x=i:=by
     grind [h0o,Nat.lt_trichotomy,X6]
    obtain⟨fu,rfl⟩:∃m,fu=m+1:=⟨fu-1,O'⟩
    have s1:i0j F all ((i:Int),(E1,E2,E3),x,(-1,src))=some (.next (((i+1:Nat):Int),(E1,E2,E3),x,((i:Int),src))):=by
     unfold i0j;rw[show decide (gt all (i:Int)=x)=true from decide_eq_true q]at hs;simp only[q0,h1,show((-1:Int)<0)=True from X',V0 (l:=all) (i:=(i:Int)) O' h1,hs,X1 (i:=i) O']
    have s2:i0j F all (((i+1:Nat):Int),(E1,E2,E3),x,((i:Int),src))=some (.done ((E1,E2,E3),x,((i:Int),src))):=by
     grind [i0j]
    simp_all[n0D,u0x]
   ·rw[<-ih (i+1) fu O' O' (fun j d=>by
     grind)]
    refine n0D ?_;unfold i0j;simp only[q0,h1,show((-1:Int)<0)=True from X',V0 (l:=all) (i:=(i:Int)) O' h1,hs,q,X1 (i:=i) O']
 exact key all.length 0 F O' O' (fun j d=>absurd d (Nat.not_lt_zero j))
theorem Q07 (K:U3 l n a b e z F)(hw:∀x∈l,P2 x)(hm:mode=0\/mode=1){least:List Int}(m:∀x∈least,L5 .u8 x){k:F1}(h:PD F l n k){all:List F1}(p:∀y∈all,PM F l n y)(hl:all.length<=100000){i:Nat}(hi:i<all.length)(hk:gt all (i:Int)=k){c:Nat}(j:c<least.length)(f:least.length<=256)(R:Int)(A:List Int)(E:List H4)(w:E.length<=1000)(y:List L3):
  B0D F l mode (least.length:Int) least (i:Int) (all,(R,A,E),(c:Int),y)=some (.next (match J1 F l mode least k c with|none=>all|some (x,_)=>P7 all x,(R,A,E++[U8 (J1 F l mode least) (match J1 F l mode least k c with|none=>all|some (x,_)=>P7 all x) k c]),((c+1:Nat):Int),y)):=by
 obtain⟨x,s,h1,u,C⟩:=Q0S (mode:=mode) K hw hm h (m _ (b8 j));have hn:J1 F l mode least k c=if(x.Places.length:Int)==0&&x.Flag==0 then none else some (x,s):=by simp_all[J1]
 have d:(if decide ((x.Places.length:Int)>0)then some true else some (x.Flag != 0))=some (!((x.Places.length:Int)==0&&x.Flag==0)):=by
  grind
 have c1:(c:Int)<(least.length:Int):=O'
 have g:y0 all (i:Int)=true:=V0 O' O';have i2:y0 least (c:Int)=true:=V0 O' c1;have ap:∀v:H4,K0 32 E [v]=true:=fun v=>B4 (by grind);have fd:=R0a (x:=x) K p hl (R,A,E) s;unfold B0D;simp only[q0,c1,g,i2,hk,u,c0V,d,X1 (i:=c) O'];unfold U8;cases q:((x.Places.length:Int)==0&&x.Flag==0)with
 |true=>grind
 |false=>
  simp only[q0,fd]
  by_cases o:x∈all
  ·have hp:¬((X6 all x:Nat):Int)<0:=O'
   simp only[q0,o,hp,ap];unfold P7
   simp_all
  ·have r:K0 104 all [x]=true:=B4 (by grind);have t:X6 (P7 all x) x=all.length:=by
    unfold P7;unfold X6
    grind
   simp_all[P7]
def Q0U (K:U3 l n a b e z F)(hw:∀x∈l,P2 x)(hm:mode=0\/mode=1){least:List Int}(g:∀x∈least,L5 .u8 x){k:F1}(h:PD F l n k){all:List F1}(i:∀y∈all,PD F l n y){c:Nat}(j:c<=least.length):∀y∈X3 (J1 F l mode least) k all c,PD F l n y:=by
 intro y f;rcases g0M _ _ _ _ f with h1|⟨_,d,s,h2,h3⟩
 ·simp_all
 ·exact R0j K hw hm g h O' h3
theorem Q02 (K:U3 l n a b e z F)(hw:∀x∈l,P2 x)(hm:mode=0\/mode=1){least:List Int}(o:∀x∈least,L5 .u8 x)(j:least.length<=256){k:F1}(h:PD F l n k){all:List F1}(u:∀y∈all,PD F l n y)(hl:all.length<=1000){i:Nat}(hi:i<all.length)(hk:gt all (i:Int)=k)(R:Int)(A:List Int)(y:List L3):
  iter (B0D F l mode (least.length:Int) least (i:Int)) F (all,(R,A,[]),0,y)=some (X3 (J1 F l mode least) k all least.length,(R,A,(List.range least.length).map (U8 (J1 F l mode least) (X3 (J1 F l mode least) k all least.length) k)),y):=by
 have f1:=K.f1;have f:=H3 (step:=B0D F l mode (least.length:Int) least (i:Int)) (fun c=>(X3 (J1 F l mode least) k all c,(R,A,(List.range c).map (U8 (J1 F l mode least) (X3 (J1 F l mode least) k all least.length) k)),(c:Int),y))
  (X3 (J1 F l mode least) k all least.length,(R,A,(List.range least.length).map (U8 (J1 F l mode least) (X3 (J1 F l mode least) k all least.length) k)),y) least.length (fun c p=>.inl ?_) ?_ least.length 0 F O' O'
 ·exact f
 ·have v:=v08 (J1 F l mode least) k all c;have d:=k0S (J1 F l mode least) k all c;have m:gt (X3 (J1 F l mode least) k all c) (i:Int)=k:=by
   obtain⟨r,w⟩:=d
   grind [L0M]
  have g:i<(X3 (J1 F l mode least) k all c).length:=Nat.lt_of_lt_of_le hi d.length_le;have he:=Q07 K hw hm o h (all:=X3 (J1 F l mode least) k all c) (fun y q=>(Q0U K hw hm o h u O' y q).pm) O' g m p j R A ((List.range c).map (U8 (J1 F l mode least) (X3 (J1 F l mode least) k all least.length) k)) (by grind) y;have hg:(match J1 F l mode least k c with|none=>X3 (J1 F l mode least) k all c|some (x,_)=>P7 (X3 (J1 F l mode least) k all c) x)=X3 (J1 F l mode least) k all (c+1):=by
   grind [X3]
  have hp:U8 (J1 F l mode least) (X3 (J1 F l mode least) k all least.length) k c=U8 (J1 F l mode least) (X3 (J1 F l mode least) k all (c+1)) k c:=u00 (E0Z _ _ _ (show c+1<=least.length from O')) (fun x s t=>m0f _ k all (Nat.lt_succ_self c) t)
  grind [List.range_succ]
 simp[B0D]
theorem R0y (K:U3 l n a b e z F)(hw:∀x∈l,P2 x)(hm:mode=0\/mode=1){cls:List Int}(v:L0o F l=some (cls,((M0 cls).length:Int)))(p:j0R F cls=some (M0 cls))(j:(M0 cls).length<=256)(q:∀x∈M0 cls,L5 .u8 x){B:Nat}(I:B<=400):
  c06 F l mode (B:Int)=some (j8 F l mode cls (Kd.zero z mode).K B):=by
 have f1:=K.f1;obtain⟨t,d0⟩:=N0p K hw hm;obtain⟨_,u⟩:=A0M K hw hm;have C:PD F l n (Kd.zero z mode).K:=⟨_,0,rfl,u,d0⟩
 have r:∀i,∀k∈runK (J1 F l mode (M0 cls)) (M0 cls).length (Kd.zero z mode).K i,PD F l n k:=by
  intro i
  induction i with
  |zero=>simp_all[runK]
  |succ i ih=>
   intro k hk;rw[show runK (J1 F l mode (M0 cls)) (M0 cls).length (Kd.zero z mode).K (i+1)=if i<(runK (J1 F l mode (M0 cls)) (M0 cls).length (Kd.zero z mode).K i).length then X3 (J1 F l mode (M0 cls)) ((runK (J1 F l mode (M0 cls)) (M0 cls).length (Kd.zero z mode).K i).getD i default) (runK (J1 F l mode (M0 cls)) (M0 cls).length (Kd.zero z mode).K i) (M0 cls).length else runK (J1 F l mode (M0 cls)) (M0 cls).length (Kd.zero z mode).K i from rfl]at hk;split at hk
   ·exact Q0U K hw hm q (ih ((runK (J1 F l mode (M0 cls)) (M0 cls).length (Kd.zero z mode).K i).getD i default) (by
      simp_all)) ih (Nat.le_refl _) k hk
   simp_all
 have step:∀i,i<(runK (J1 F l mode (M0 cls)) (M0 cls).length (Kd.zero z mode).K i).length->(runK (J1 F l mode (M0 cls)) (M0 cls).length (Kd.zero z mode).K i).length<=B->
   d0O F l mode (B:Int) ((M0 cls).length:Int) (M0 cls) (runK (J1 F l mode (M0 cls)) (M0 cls).length (Kd.zero z mode).K i,(i:Int),(C4 l,cls,a0G F l mode (M0 cls) (Kd.zero z mode).K i)) =
    some (.next (runK (J1 F l mode (M0 cls)) (M0 cls).length (Kd.zero z mode).K (i+1),((i+1:Nat):Int),(C4 l,cls,a0G F l mode (M0 cls) (Kd.zero z mode).K (i+1)))):=by
  intro i hi w;have hg:gt (runK (J1 F l mode (M0 cls)) (M0 cls).length (Kd.zero z mode).K i) (i:Int)=(runK (J1 F l mode (M0 cls)) (M0 cls).length (Kd.zero z mode).K i).getD i default:=t0O _ _;have d:=r i _ (b8 hi);have g:=fun R A y=>Q02 K hw hm q j d (all:=runK (J1 F l mode (M0 cls)) (M0 cls).length (Kd.zero z mode).K i) (r i) O' hi rfl R A y;have f:X3 (J1 F l mode (M0 cls)) (gt (runK (J1 F l mode (M0 cls)) (M0 cls).length (Kd.zero z mode).K i) (i:Int)) (runK (J1 F l mode (M0 cls)) (M0 cls).length (Kd.zero z mode).K i) (M0 cls).length=runK (J1 F l mode (M0 cls)) (M0 cls).length (Kd.zero z mode).K (i+1):=by
   simp_all[runK]
  rw[f]at g;have c1:(i:Int)<((runK (J1 F l mode (M0 cls)) (M0 cls).length (Kd.zero z mode).K i).length:Int):=O'
  have c2:¬((runK (J1 F l mode (M0 cls)) (M0 cls).length (Kd.zero z mode).K i).length:Int)>400:=O'
  have c3:¬((runK (J1 F l mode (M0 cls)) (M0 cls).length (Kd.zero z mode).K i).length:Int)>(B:Int):=O'
  have o:=V0 (l:=runK (J1 F l mode (M0 cls)) (M0 cls).length (Kd.zero z mode).K i) (i:=(i:Int)) O' c1;have ap:∀s:L3,K0 56 (a0G F l mode (M0 cls) (Kd.zero z mode).K i) [s]=true:=fun s=>B4 (by grind [a0G]);unfold d0O;simp only[q0,c1,c2,c3,o,R0r d,Q04 K d,g,c0V,ap,X1 (i:=i) O'];have hs:a0G F l mode (M0 cls) (Kd.zero z mode).K (i+1)=a0G F l mode (M0 cls) (Kd.zero z mode).K i++[T9 (K6 F) (V8 F l) (J1 F l mode (M0 cls)) (M0 cls).length (runK (J1 F l mode (M0 cls)) (M0 cls).length (Kd.zero z mode).K (i+1)) (gt (runK (J1 F l mode (M0 cls)) (M0 cls).length (Kd.zero z mode).K i) (i:Int))]:=by
   simp_all[a0G,List.range_succ]
  rw[hs];rfl
 unfold c06;simp only[q0,t,bne_self_eq_false,v,p,M0b K.hR K.hl (show 401<F from O') K.f2];rcases h0m (J1 F l mode (M0 cls)) (M0 cls).length (Kd.zero z mode).K B with⟨m,m1,h⟩|⟨m,m1,h⟩
 ·have c:=H3 (step:=d0O F l mode (B:Int) ((M0 cls).length:Int) (M0 cls)) (fun i=>(runK (J1 F l mode (M0 cls)) (M0 cls).length (Kd.zero z mode).K i,(i:Int),(C4 l,cls,a0G F l mode (M0 cls) (Kd.zero z mode).K i))) (.inr (C4 l,cls,a0G F l mode (M0 cls) (Kd.zero z mode).K m)) m (fun i hi=>.inl (step i (h.2 i hi).1 (h.2 i hi).2)) (by
   have hm:=h.1;have c1:¬(m:Int)<((runK (J1 F l mode (M0 cls)) (M0 cls).length (Kd.zero z mode).K m).length:Int):=O'
   unfold d0O
   grind) m 0 F O' O'
  have c:iter (d0O F l mode (B:Int) ((M0 cls).length:Int) (M0 cls)) F ([(Kd.zero z mode).K],0,(C4 l,cls,[]))=_:=c;rw[c,e0k h];simp only[G0,x0N h];rfl
 ·have c:=H3 (step:=d0O F l mode (B:Int) ((M0 cls).length:Int) (M0 cls)) (fun i=>(runK (J1 F l mode (M0 cls)) (M0 cls).length (Kd.zero z mode).K i,(i:Int),(C4 l,cls,a0G F l mode (M0 cls) (Kd.zero z mode).K i))) (.inl (14,⟨0,[],[]⟩)) m (fun i hi=>.inl (step i (h.2.2 i hi).1 (h.2.2 i hi).2)) (by
   have h1:=h.1;have J:=h.2.1;have c1:(m:Int)<((runK (J1 F l mode (M0 cls)) (M0 cls).length (Kd.zero z mode).K m).length:Int):=O'
   have c3:((runK (J1 F l mode (M0 cls)) (M0 cls).length (Kd.zero z mode).K m).length:Int)>(B:Int):=O'
   simp_all[d0O]) m 0 F O' O'
  have c:iter (d0O F l mode (B:Int) ((M0 cls).length:Int) (M0 cls)) F ([(Kd.zero z mode).K],0,(C4 l,cls,[]))=_:=c
  grind [h0Z]
end
end Go.Proofs.YtihmgaccbcfgjaaGreat
namespace Go.Proofs.YtihmgaccbcfgjaaGreat
open Go.V Go.RowKit Old Go.X
def Q0P (key:Nat->List Bool):∀b,(I3 key b).1.Nodup
 |0=>List.nodup_nil
 |b+1=>by
  have c:=Q0P key b;show(g0L (I3 key b) (key b)).1.Nodup;unfold g0L;split
  ·exact c
  ·rename_i h;rw[List.nodup_append];exact⟨c,X',fun x f y d=>by simp at d;subst d;exact fun e=>h (by rw[<-e];simpa using f)⟩
def Q0L (key:Nat->List Bool)(k:List Bool):∀b,k∈(I3 key b).1↔∃x,x<b/\key x=k
 |0=>by simp[I3]
 |b+1=>by
  have f:=Q0L key k b;rw[show I3 key (b+1)=g0L (I3 key b) (key b)from rfl];unfold g0L;constructor
  ·intro h;split at h
   ·obtain⟨x,h1,d⟩:=f.1 h;exact⟨x,O',d⟩
   ·rcases List.mem_append.1 h with h|h
    ·obtain⟨x,h1,d⟩:=f.1 h;exact⟨x,O',d⟩
    ·simp at h;exact⟨b,Nat.lt_succ_self b,h.symm⟩
  ·rintro⟨x,h1,d⟩
   by_cases c:x=b
   ·subst c;split
    ·rename_i h;rw[<-d];simpa using h
    ·rw[d];simp
   ·have:=f.2 ⟨x,O',d⟩;split
    ·exact this
    ·exact List.mem_append_left _ this
def Q06 (key:Nat->List Bool){b x:Nat}(h:x<b):gt (I3 key b).2 (x:Int)=((I3 key b).1.idxOf (key x):Int):=by
 obtain⟨c,h1,d⟩:=L0b key b x h;rw[h1];have f:=(List.getElem?_eq_some_iff.1 d).1;have g:(I3 key b).1[c]=key x:=(List.getElem?_eq_some_iff.1 d).2;rw[<-g,(Q0P key b).idxOf_getElem c f]
section
variable {F:Nat}
def Q09 (p:2000<F){s:List (List Int)}(hs:∀r∈s,r.length=4/\∀y∈r,L5 .u64 y)(hl:s.length<=1000){x y:Nat}(j:x<256)(f:y<256):
  L0U F s (x:Int) (y:Int)=some (decide ((s.map fun r=>hasB r (x:Int))=s.map fun r=>hasB r (y:Int))):=by
 unfold L0U;have c:∀v:Nat,v<256->L5 .u8 (v:Int)/\W (v:Int)=(v:Int):=fun v o=>⟨⟨by show(0:Int)<=_;omega,by show(v:Int)<=255;omega⟩,E3 O' O'⟩
 rw[k0T (a:=s.map fun r=>hasB r (x:Int)) (b:=s.map fun r=>hasB r (y:Int)) X' (good:=.inr ()) (bad:=.inl ()) (fun i hi=>by
  have hi:i<s.length:=by simpa using hi
  have h1:(i:Int)<(s.length:Int):=O'
  have d:y0 s (i:Int)=true:=V0 O' h1;have hm:=hs _ (b8 (l:=s) (i:=i) hi);have m:gtZ 4 s (i:Int)=gt s (i:Int):=by
   unfold gtZ gt;simp[hi]
  have g1:gt (s.map fun r=>hasB r (x:Int)) (i:Int)=hasB (gt s (i:Int)) (x:Int):=X2 (by rw[List.getElem?_map,P4 hi];rfl);have g2:gt (s.map fun r=>hasB r (y:Int)) (i:Int)=hasB (gt s (i:Int)) (y:Int):=X2 (by rw[List.getElem?_map,P4 hi];rfl);have k:=(t0N F hm (c x j).1).2;have g:=(t0N F hm (c y f).1).2;rw[(c x j).2]at k;rw[(c y f).2]at g;unfold Q0G;simp only[q0,h1,d,m,k,g,g1,g2,Go.V.X1 (n:=i) O'];cases hasB (gt s (i:Int)) (x:Int)<;>cases hasB (gt s (i:Int)) (y:Int)<;>rfl) (by unfold Q0G;simp) (show(s.map fun r=>hasB r (x:Int)).length<F from Y')]
 by_cases h:(s.map fun r=>hasB r (x:Int))=s.map fun r=>hasB r (y:Int)
 ·rw[if_pos h,decide_eq_true h];rfl
 ·rw[if_neg h,decide_eq_false h];rfl
def d0q (key:Nat->List Bool)(b c:Nat):Int:=if(List.range c).any (fun x=>decide (key x=key b))then((I3 key b).1.idxOf (key b):Int)else -1
def R0g (hF:2000<F){s:List (List Int)}(hs:∀r∈s,r.length=4/\∀y∈r,L5 .u64 y)(hl:s.length<=1000):
  K0h F s=some ((I3 (fun x=>s.map fun r=>hasB r (x:Int)) 256).2,((I3 (fun x=>s.map fun r=>hasB r (x:Int)) 256).1.length:Int)):=by
 have o:=fun {x y:Nat} hx hy=>Q09 hF hs hl (x:=x) (y:=y) hx hy;generalize p:(fun x:Nat=>s.map fun r=>hasB r (x:Int))=key at *;have u:∀x:Nat,(s.map fun r=>hasB r (x:Int))=key x:=fun x=>by rw[<-p]
 simp only[u]at o;have R:(List.replicate (256:Int).toNat 0:List Int)=(I3 key 0).2++List.replicate (256-0) 0:=rfl;have step:∀b,b<256->J01 F s (((I3 key b).1.length:Int),(b:Int),(I3 key b).2++List.replicate (256-b) 0)=some (.next (((I3 key (b+1)).1.length:Int),((b+1:Nat):Int),(I3 key (b+1)).2++List.replicate (256-(b+1)) 0)):=by
  intro b m;obtain⟨f1,_,_,f4⟩:=k08 key b;have U:List.replicate (256-b) (0:Int)=0 :: List.replicate (256-(b+1)) 0:=by
   rw[show 256-b=(256-(b+1))+1 from O'];rfl
  have set:∀v w:Int,((I3 key b).2++v :: List.replicate (256-(b+1)) 0).set b w=(I3 key b).2++w :: List.replicate (256-(b+1)) 0:=fun v w=>by
   rw[List.set_append_right _ _ O',f1,Nat.sub_self];rfl
  have len:∀v:Int,((I3 key b).2++v :: List.replicate (256-(b+1)) 0).length=256:=fun v=>by simp[f1];omega
  have d:∀(v:Int) (c:Nat),c<256->y0 ((I3 key b).2++v :: List.replicate (256-(b+1)) 0) (c:Int)=true:=fun v c J=>V0 O' (by rw[len];omega);have j:∀v:Int,gt ((I3 key b).2++v :: List.replicate (256-(b+1)) 0) (b:Int)=v:=fun v=>X2 (by rw[List.getElem?_append_right O',f1,Nat.sub_self];rfl);have inner:=H3 (step:=A0U F s (b:Int)) (fun c=>((c:Int),(I3 key b).2++d0q key b c :: List.replicate (256-(b+1)) 0)) ((I3 key b).2++d0q key b b :: List.replicate (256-(b+1)) 0) b (fun c J=>?_) ?_ b 0 F O' O'
  ·have e0:d0q key b 0=-1:=rfl;have inner:iter (A0U F s (b:Int)) F (0,(I3 key b).2++(-1) :: List.replicate (256-(b+1)) 0)=_:=inner;have c1:(b:Int)<256:=O'
   unfold J01;rw[U];simp only[q0,c1,d _ b m,Int.toNat_natCast,set,inner,j,Go.V.X1 (n:=b) O'];have f:(key b∈(I3 key b).1)↔(List.range b).any (fun x=>decide (key x=key b))=true:=by
    rw[Q0L];simp
   rw[show I3 key (b+1)=g0L (I3 key b) (key b)from rfl];unfold g0L d0q
   by_cases h:key b∈(I3 key b).1
   ·have k:=f.1 h;have I:¬((I3 key b).1.idxOf (key b):Int)<0:=O'
    rw[k,if_pos (show(I3 key b).1.contains (key b)=true by simpa using h)];simp only[q0,I,List.append_assoc,List.cons_append,List.nil_append]
   ·have k:(List.range b).any (fun x=>decide (key x=key b))=false:=by
     cases q:(List.range b).any (fun x=>decide (key x=key b))with
     |false=>rfl
     |true=>exact absurd (f.2 q) h
    rw[k,if_neg (show ¬(I3 key b).1.contains (key b)=true by simpa using h)];simp only[q0,show((-1:Int)<0)=True from X',Go.V.X1 (n:=(I3 key b).1.length) O',List.length_append,List.length_cons,List.length_nil,List.append_assoc,List.cons_append,List.nil_append]
  ·by_cases h:(List.range c).any (fun x=>decide (key x=key b))=true
   ·right;have k:(List.range b).any (fun x=>decide (key x=key b))=true:=by
     rw[List.any_eq_true]at h ⊢;obtain⟨x,h1,k⟩:=h;exact⟨x,by simp at h1 ⊢;omega,k⟩
    have C:d0q key b c=((I3 key b).1.idxOf (key b):Int):=by unfold d0q;rw[if_pos h]
    have e2:d0q key b b=((I3 key b).1.idxOf (key b):Int):=by unfold d0q;rw[if_pos k]
    have c1:(c:Int)<(b:Int):=O'
    have I:¬((I3 key b).1.idxOf (key b):Int)<0:=O'
    rw[C,e2];unfold A0U;simp only[q0,c1,d _ b m,j,I]
   ·left;have C:d0q key b c=-1:=by unfold d0q;rw[if_neg h]
    have c1:(c:Int)<(b:Int):=O'
    have t:∀v:Int,gt ((I3 key b).2++v :: List.replicate (256-(b+1)) 0) (c:Int)=((I3 key b).1.idxOf (key c):Int):=fun v=>by
     rw[L0M O'];exact Q06 key J
    rw[C];unfold A0U;simp only[q0,c1,d _ b m,d _ c O',j,show((-1:Int)<0)=True from X',o (show b<256 from O') (show c<256 from O'),t,Int.toNat_natCast,set,Go.V.X1 (n:=c) O'];have hn:(List.range c).any (fun x=>decide (key x=key b))=false:=by simpa using h
    unfold d0q;rw[List.range_succ,List.any_append,hn]
    by_cases g:key b=key c
    ·simp[g]
    ·have g2:¬key c=key b:=fun h=>g h.symm;simp[g,g2]
  ·have c1:¬(b:Int)<(b:Int):=O'
   unfold A0U;simp only[q0,c1]
 have i:=H3 (step:=J01 F s) (fun b=>(((I3 key b).1.length:Int),(b:Int),(I3 key b).2++List.replicate (256-b) 0)) (((I3 key 256).1.length:Int),(I3 key 256).2) 256 (fun b m=>.inl (step b m)) (by
  unfold J01;simp only[q0,show ¬(((256:Nat):Int)<256) from O',Nat.sub_self,List.replicate_zero,List.append_nil]) 256 0 F O' O'
 have i:iter (J01 F s) F (0,0,List.replicate (256:Int).toNat 0)=_:=i;unfold K0h;rw[if_pos (show R2 8 256=true from rfl),i];rfl
end
section
variable {F:Nat}{l:List C0}{n:Nat}{a:List B0}{b:Nat->List B0}{e:Nat->B0×Bool}{z:B0×Bool}
def Q0T (K:U3 l n a b e z F)(hw:∀x∈l,P2 x)(hl:l.length<=1000):L0o F l=some ((I3 (a0K l) 256).2,((I3 (a0K l) 256).1.length:Int)):=by
 have f1:=K.f1;have hs:∀r∈a0z l,r.length=4/\∀y∈r,L5 .u64 y:=fun r h=>by
  unfold a0z at h;obtain⟨x,j,rfl⟩:=List.mem_map.1 h;have:=hw x (List.mem_filter.1 j).1;unfold P2 at this;exact this.2.2.2.2
 have d:=H3 (step:=K0p F l) (fun i=>(a0z (l.take i),(i:Int))) (a0z l) l.length (fun i hi=>.inl ?_) ?_ l.length 0 F O' O'
 ·have d:iter (K0p F l) F ([],0)=some (a0z l):=d;have:=r0s (l:=l);have f:K0h F (a0z l)=some ((I3 (a0K l) 256).2,((I3 (a0K l) 256).1.length:Int)):=R0g (F:=F) O' hs O';unfold L0o Q0C;simp only[q0,K.TF.rR,d,f]
 ·have c1:(i:Int)<(l.length:Int):=O'
  have g:=r0s (l:=l.take i);rw[List.length_take]at g;have ap:K0 32 (a0z (l.take i)) [(gt l (i:Int)).Set]=true:=B4 Y';unfold K0p;simp only[c1,decide_true,if_true,V0 (l:=l) (i:=(i:Int)) O' c1,ap,X1 (i:=i) O'];rw[G0L hi];cases c:(gt l (i:Int)).Kind==2 with
  |true=>simp
  |false=>simp
 ·have c1:¬(l.length:Int)<(l.length:Int):=O'
  unfold K0p;simp only[q0,c1,List.take_length]
end
end Go.Proofs.YtihmgaccbcfgjaaGreat
namespace Go.Proofs.YtihmgaccbcfgjaaGreat
open Go.V Go.RowKit Go.X
abbrev Fc:Nat:=10000000000000
def x0w:d0n Fc=some true:=by rw[E0W];kernel_rfl
