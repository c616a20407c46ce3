/- P. Its conditions: none. -/
import Derived.Test.YtihmgaccbcfgjaaGreatTG51
import Derived.Test.YtihmgaccbcfgjaaGreatTG49
import Derived.Test.YtihmgaccbcfgjaaGreatTDSubsetBudget
open Bool (false_eq_true)
set_option linter.all false
namespace Go.Proofs.YtihmgaccbcfgjaaGreat
open Go.V Go.RowKit Old Go.X
def o0e {l:List C0}{n:Nat}{a:List B0}{b:Nat->List B0}{e:Nat->B0×Bool}{z:B0×Bool}(K:U3 l n a b e z Fb)(hw:∀x∈l,P2 x)(hl:l.length<=1000){mode:Int}(hm:mode=0\/mode=1){B:Nat}(f:B<=400):a05 Fb l mode (B:Int)=some (j8 Fb l mode (I3 (a0K l) 256).2 (Kd.zero z mode).K B):=by
 obtain⟨f1,f2,f3,f4⟩:=k08 (a0K l) 256;have d:=I0v K hw hl;have c:=u0X (a0K l);have h:=j0l (I3 (a0K l) 256).2 0 [] (fun x g=>(by cases g));generalize (I3 (a0K l) 256).2=cls at *;exact D0G K hw hm d (by rw[s0O cls O' (by unfold Fb;omega),c];rfl) O' h f
def all_true {r:List Bool}(h:∀k,k<r.length->tt r k)(hl:r.length<=1000):iter (h0R Fb r) Fb 0=some (.inr ()):=by
 have:=H3 (step:=h0R Fb r) (fun i=>(i:Int)) (.inr ()) r.length (fun i hi=>.inl ?_) ?_ r.length 0 Fb O' (by unfold Fb;omega)
 ·exact this
 ·have c1:(i:Int)<(r.length:Int):=O'
  have a:gt r (i:Int)=true:=(l04 hi).2 (h i hi);unfold h0R;simp only[q0,c1,V0 (l:=r) (i:=(i:Int)) O' c1,a,Go.V.X1 (n:=i) O']
 ·have c1:¬(r.length:Int)<(r.length:Int):=O'
  unfold h0R;simp only[q0,c1]
def G0A:v02:=by
 intro l mode of x a1 s hl;have hw:=E02 x;have hF:2000<Fb:=by unfold Fb;omega
 have sure:d0n Fb=some true:=x0w;refine⟨Fb,?_⟩;unfold m0J
 by_cases b5:l.length<=24
 case neg=>
  have q:decide ((l.length:Int)>24)=true:=by simp;omega
  simp only[q,if_true,G0,sure]
 have q:decide ((l.length:Int)>24)=false:=by simp;omega
 cases hR:L2 l with
 |false=>simp only[q0,q,(y05 hR hl O').2,sure]
 |true=>
  obtain⟨a,b,e,z,K⟩:=known hw hR hl O';obtain⟨t,ht⟩:=a0N hw hR;have hn:=C0w ht;have hr:=K.TF.rR
  by_cases hm:mode=0\/mode=1
  case neg=>
   have v:(mode != 0)=true:=by rw[bne_iff_ne];exact fun h=>hm (.inl h)
   have b2:(mode != 1)=true:=by rw[bne_iff_ne];exact fun h=>hm (.inr h)
   simp only[q0,q,hr,v,b2,sure]
  have g:(if mode != 0 then some (mode != 1)else some false)=some false:=by
   rcases hm with h|h<;>rw[h]<;>rfl
  have w:of.length=2/\∀y∈of,L5 .u8 y:=s;have u8:∀i:Nat,i<2->0<=gt of (i:Int)/\gt of (i:Int)<256:=fun i hi=>by
   have:=w.2 _ (gtm (l:=of) (i:=i) O');exact⟨this.1,by have:=this.2;rw[show IntKind.u8.max=255 from rfl]at this;omega⟩
  have u:=u8 0 O';have I:=u8 1 O';have u:0<=gt of 0/\gt of 0<256:=u;have I:0<=gt of 1/\gt of 1<256:=I;obtain⟨A,hA,b3⟩:∃A:Nat,(W (gt of 0)).tmod 40=(A:Int)/\A<40:=by
   rw[E3 O' O',Int.tmod_eq_emod_of_nonneg u.1];exact⟨(gt of 0 % 40).toNat,O',O'⟩
  obtain⟨C,hC,b4⟩:∃C:Nat,(W (gt of 1)).tmod 40=(C:Int)/\C<40:=by
   rw[E3 O' O',Int.tmod_eq_emod_of_nonneg I.1];exact⟨(gt of 1 % 40).toNat,O',O'⟩
  have hW:W ((A:Int)+(C:Int))=((A+C:Nat):Int):=by rw[E3 O' O'];omega
  have bd:=F0W K hw hm O' (a0K l) (show A<=A+C from O') (show A+C<=400 from O');have b0:=o0e K hw O' hm (show A<=400 from O');have v:=o0e K hw O' hm (show A+C<=400 from O');have U:=fun(m:Nat) (h:m<=400)=>o0e K hw O' hm h;have sm:=C0o (mode:=mode) K hw hm O' (a0K l) (show A<=100 from O');simp only[q0,q,hr,g,hA,hC,hW,b0,v];rcases bd with⟨h1,f⟩|⟨d,m,h1,f,h3,h4,h5,h6,h7,h8,h9⟩
  ·rw[h1];rcases f with f|⟨d,f,h3,h4⟩
   ·rw[f];simp only[show((14:Int)==14)=true from rfl,if_true,List.length_nil,show(((0:Nat):Int)==0)=true from rfl,G0,sure]
   ·rw[f];have c1:((d.States.length:Int)>(A:Int)):=O'
    have c2:((d.States.length:Int)<=((A+C:Nat):Int)):=O'
    simp only[q0,show((14:Int)==14)=true from rfl,show((0:Int)==14)=false from rfl,show((0:Int)==0)=true from rfl,List.length_nil,show(((0:Nat):Int)==0)=true from rfl,c1,c2,sure]
  ·rw[h1]at sm;rw[h1,f];simp only at sm;have R:=sm.bd;have hs:=D0g (F:=Fb) d d R (by unfold Fb;omega);rw[z07]at hs;have j:=F0f (F:=Fb) d sm hF;rw[h3]at j;obtain⟨r,g1,g2⟩:=C03 (F:=Fb) d sm (by unfold Fb;omega);have c:Full d r:=by
    rcases g2 with⟨g2,_⟩|⟨_,g2⟩
    ·rw[h3]at g2;cases g2
    ·exact g2
   have p:=all_true (r:=r) (fun k hk=>(c.2 k).2 (h4 k (by have:=c.1;omega))) (by have:=c.1;omega);have c1:¬((d.States.length:Int)>(A:Int)):=O'
   have c2:((r.length:Int) != (d.States.length:Int))=false:=by rw[c.1];simp
   have J:W ((d.States.length:Int)-1)=((m-1:Nat):Int):=by rw[E3 O' O'];omega
   have o:=U (m-1) O';have n:=U m O';rw[h8]at o;rw[h9]at n;have hd:(d.States.length:Int)=(m:Int):=O'
   simp only[q0,show((0:Int)==14)=false from rfl,show((14:Int)==14)=true from rfl,show((0:Int) != 0)=false from rfl,show((0:Int)==0)=true from rfl,hs,j,c1,g1,c2,p,J,o];rw[hd,n];simp only[show((0:Int)==0)=true from rfl,if_true,G0,hs,sure]
