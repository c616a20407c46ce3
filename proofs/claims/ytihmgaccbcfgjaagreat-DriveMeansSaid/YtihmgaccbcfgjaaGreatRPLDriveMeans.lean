/- P. Its conditions: none. -/
import Derived.Test.YtihmgaccbcfgjaaGreatRG48
import Derived.Test.YtihmgaccbcfgjaaGreatRG49
import Derived.Test.YtihmgaccbcfgjaaGreatRG46
import Derived.Test.YtihmgaccbcfgjaaGreatRDDriveMeans
open Bool (false_eq_true)
set_option linter.all false
namespace Go.Proofs.YtihmgaccbcfgjaaGreat
open Go.V Go.RowKit Old Go.X
def X0v {l:List C0}(hR:L2 l=false)(hl:l.length*64<=140737488351232)(a:l.length<=1000)(mode B:Int):a05 Fb l mode B=some (⟨0,[],[]⟩,11):=by
 unfold a05 d0z;rw[(y05 hR hl a).1];rfl
def U0c {d:Y1}(c:Sm d)(a:a0V d=true){w:List Int}(hw:∀x∈w,0<=x/\x<256):(J0n d w).1.length<=1000/\(C0b d w).1.length<=1000:=by
 have b:=g0h (I0Q c a) hw w.length (Nat.le_refl _);unfold J0n C0b;rw[if_pos a,if_pos a];refine⟨M0V b.tl,?_⟩;split
 ·exact M0V b.tl
 ·simp
def U0Q {l:List C0}{n:Nat}{a:List B0}{b:Nat->List B0}{e:Nat->B0×Bool}{z:B0×Bool}(K:U3 l n a b e z Fb)(hw:∀x∈l,P2 x)(hl:l.length<=1000){mode:Int}(hm:mode=0\/mode=1){B:Nat}(g:B<=400):a05 Fb l mode (B:Int)=some (j8 Fb l mode (I3 (a0K l) 256).2 (Kd.zero z mode).K B):=by
 obtain⟨f1,f2,f3,f4⟩:=k08 (a0K l) 256;have h:=I0v K hw hl;have c:=u0X (a0K l);have f:=j0l (I3 (a0K l) 256).2 0 [] (fun x d=>(by cases d));generalize (I3 (a0K l) 256).2=cls at *;exact D0G K hw hm h (by rw[s0O cls O' (by unfold Fb;omega),c];rfl) O' f g
def V0A:V0f:=by
 intro l w p i hl v;have hw:=E02 p;have r:=V0p i;have d:=N0s i;have m:2000<Fb:=by unfold Fb;omega
 refine⟨Fb,?_⟩;unfold T0n
 by_cases J:l.length<=24
 case neg=>
  have j:decide ((l.length:Int)>24)=true:=by simp;omega
  simp only[j,if_true,G0,L0W]
 have j:decide ((l.length:Int)>24)=false:=by simp;omega
 by_cases C:w.length<=24
 case neg=>
  have k:decide ((w.length:Int)>24)=true:=by simp;omega
  simp only[q0,j,k,L0W]
 have k:decide ((w.length:Int)>24)=false:=by simp;omega
 cases hR:L2 l with
 |false=>simp only[q0,j,k,X0v hR hl O',show((11:Int)==0)=false from rfl,L0W]
 |true=>
  obtain⟨a,b,e,z,K⟩:=known hw hR hl O';obtain⟨t,n⟩:=a0N hw hR;have hn:=C0w n;have hk:=fun x y (h:a0K l x=a0K l y)=>O0s (l:=l) rfl h;have b0:=U0Q K hw O' (.inl rfl) (show 40<=400 from O');have o:=U0Q K hw O' (.inr rfl) (show 40<=400 from O');have q:=W0L (w:=w) K hw n hl O' hk r O' (show 40<=400 from O');have s1:=W07 (w:=w) K hw n hl O' hk r O' (show 40<=400 from O');have m0:=C0o (mode:=0) K hw (.inl rfl) O' (a0K l) (show 40<=100 from O');have m1:=C0o (mode:=1) K hw (.inr rfl) O' (a0K l) (show 40<=100 from O');have b0:a05 Fb l 0 40=_:=b0;have o:a05 Fb l 1 40=_:=o;generalize j8 Fb l 0 (I3 (a0K l) 256).2 (Kd.zero z 0).K 40=r0 at *;generalize j8 Fb l 1 (I3 (a0K l) 256).2 (Kd.zero z 1).K 40=r1 at *;obtain⟨d0,R⟩:=r0;obtain⟨d1,I⟩:=r1;simp only at q s1 m0 m1;have second:(Option.bind (α:=(Unit⊕Unit)) (
    if I==0 then
     Option.bind (B0X Fb d1 w) fun(f,match_2)=>
     Option.bind (R03 Fb l w) fun(match_3,match_4)=>
     Option.bind (y04 Fb f match_3) fun c=>
     Option.bind (α:=Bool) (
      if !c then
       some true
      else
       some (match_2 != match_4)) fun u=>
     if u then
      some (.inl ())
     else
      some (.inr ())
    else
     some (.inr ())) fun s=>match s with
   |.inl _=>
    some false
   |.inr _=>
    Option.bind (J0K Fb) fun g=>
    some g)=some true:=by
   rcases s1 with h|⟨h,hr,_,hf⟩
   ·rw[h];simp only[q0,show((14:Int)==0)=false from rfl,L0W]
   ·rw[h];have sp:=M0o (fuel:=Fb) (U0c m1 hr d).2 m;simp only[q0,show((0:Int)==0)=true from rfl,O0A m1 d (show w.length<=1000 from O') m,hf,sp,bne_self_eq_false,L0W]
  simp only[q0,j,k,b0,o];rcases q with h|⟨h,hr,_,hf⟩
  ·rw[h];simp only[q0,show((14:Int)==0)=false from rfl];exact second
  ·rw[h];have sp:=M0o (fuel:=Fb) (U0c m0 hr d).1 m;simp only[q0,show((0:Int)==0)=true from rfl,N02 m0 d (show w.length<=1000 from O') m,hf,sp,bne_self_eq_false];exact second
