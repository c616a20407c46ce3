/- P. Its conditions: none. -/
import Derived.Test.YtihmgaccbcfgjaaGreatQG48
import Derived.Test.YtihmgaccbcfgjaaGreatQDSubsetSteps
open Bool (false_eq_true)
set_option linter.all false
namespace Go.Proofs.YtihmgaccbcfgjaaGreat
open Go.V Go.RowKit Old Go.X
open Classical
def M0q {F:Nat}{d:Y1}{at_:Int}{row:List Int}(h:(gt d.States at_).Accept=row)(hl:row.length<=1000)(c:2000<F):iter (J05 F d at_ row) F 0=some (.inr ()):=by
 have:=H3 (step:=J05 F d at_ row) (fun i=>(i:Int)) (.inr ()) row.length (fun i hi=>.inl ?_) ?_ row.length 0 F O' O'
 ·exact this
 ·have c1:(i:Int)<(row.length:Int):=O'
  unfold J05;simp only[q0,h,c1,V0 (l:=row) (i:=(i:Int)) O' c1,bne_self_eq_false,Go.V.X1 (n:=i) O']
 ·have c1:¬(row.length:Int)<(row.length:Int):=O'
  unfold J05;simp only[q0,h,c1]
section
variable {F:Nat}{l:List C0}{n:Nat}{a:List B0}{b:Nat->List B0}{e:Nat->B0×Bool}{z:B0×Bool}{mode:Int}
def O0E {cls:List Int}{L:List F1}{d:Y1}(M:Mch F l n mode cls L d):d.Class=cls:=by rw[M.ed];rfl
def N0n (K:U3 l n a b e z F)(hw:∀x∈l,P2 x)(hm:mode=0\/mode=1){cls:List Int}(b5:cls.length=256){L:List F1}{d:Y1}(M:Mch F l n mode cls L d)(b3:L.length<=1000){w:List Int}(b2:∀x∈w,L5 .u8 x)(b4:w.length<=1000):
  ∀(j i fu:Nat),i+j=w.length->j<fu->∀(f:Kd) (R:Nat),KOk F l n f R->DOk F l f.K R->f.K∈L->
   iter (J0o F l mode w d) fu (((X6 L f.K:Nat):Int),(i:Int),f.K)=some (.inr ()):=by
 have f1:=K.f1;have ht:=a07 l;have b6:d.States.length=L.length:=by rw[M.ed];show(L.map _).length=_;simp
 have p:d.Class=cls:=by rw[M.ed];rfl
 intro j
 induction j with
 |zero=>
  intro i fu hi hf f R hk hd q;obtain⟨fu,rfl⟩:∃m,fu=m+1:=⟨fu-1,O'⟩
  have hp:=f0Y q;have c1:(i:Int)<=(w.length:Int):=O'
  have c2:¬((X6 L f.K:Nat):Int)<0:=O'
  have c3:¬((X6 L f.K:Nat):Int)>=(d.States.length:Int):=O'
  have c4:y0 d.States ((X6 L f.K:Nat):Int)=true:=V0 O' O';have o:=M.at q;obtain⟨U,k2,k3⟩:=D0j K hk;have g:(gt d.States ((X6 L f.K:Nat):Int)).Accept=a06 l e z f:=by rw[o];show V8 F l f.K=_;unfold V8;rw[U];rfl
  have k:(gt d.States ((X6 L f.K:Nat):Int)).Regs=(R:Int):=by rw[o];show K6 F f.K=_;unfold K6;rw[hk.rg];rfl
  have hl:=M0q (F:=F) g O' O';have c5:((i:Int)==(w.length:Int))=true:=by rw[beq_iff_eq];omega
  refine u0x ?_;unfold J0o;simp only[q0,c1,c2,c3,c4,L0I K hk.C hd.rt,hd.rg,k,g,bne_self_eq_false,hl,c5]
 |succ j ih=>
  intro i fu hi hf f R hk hd q;obtain⟨fu,rfl⟩:∃m,fu=m+1:=⟨fu-1,O'⟩
  have hp:=f0Y q;have c1:(i:Int)<=(w.length:Int):=O'
  have c2:¬((X6 L f.K:Nat):Int)<0:=O'
  have c3:¬((X6 L f.K:Nat):Int)>=(d.States.length:Int):=O'
  have c4:y0 d.States ((X6 L f.K:Nat):Int)=true:=V0 O' O';have o:=M.at q;obtain⟨U,k2,k3⟩:=D0j K hk;have g:(gt d.States ((X6 L f.K:Nat):Int)).Accept=a06 l e z f:=by rw[o];show V8 F l f.K=_;unfold V8;rw[U];rfl
  have k:(gt d.States ((X6 L f.K:Nat):Int)).Regs=(R:Int):=by rw[o];show K6 F f.K=_;unfold K6;rw[hk.rg];rfl
  have hl:=M0q (F:=F) g O' O';have c5:((i:Int)==(w.length:Int))=false:=by rw[beq_eq_false_iff_ne];omega
  have t:=b2 _ (b8 (l:=w) (i:=i) O');have c6:y0 w (i:Int)=true:=V0 O' O';have b1:0<=gt w (i:Int)/\gt w (i:Int)<256:=⟨t.1,by have:=t.2;rw[show IntKind.u8.max=255 from rfl]at this;omega⟩
  have c7:y0 cls (gt w (i:Int))=true:=V0 b1.1 O';obtain⟨y,q1,q2,q3,q4⟩:=M.cl _ t;have b7:(gt d.States ((X6 L f.K:Nat):Int)).Edges.length=(M0 cls).length:=by rw[o];show((List.range _).map _).length=_;simp
  have c8:¬(y:Int)<0:=O'
  have c9:¬(y:Int)>=((gt d.States ((X6 L f.K:Nat):Int)).Edges.length:Int):=O'
  have v:y0 (gt d.States ((X6 L f.K:Nat):Int)).Edges (y:Int)=true:=V0 O' O';obtain⟨g1,g2⟩:=N0J (mode:=mode) K hw hk hd hm t;obtain⟨e1,e2⟩:=M.a0Z K hw hm hk q (c:={ (default:f0L)with state:=((X6 L f.K:Nat):Int) }) rfl t;have J:a0b d { (default:f0L)with state:=((X6 L f.K:Nat):Int) } (gt w (i:Int))=gt (gt d.States ((X6 L f.K:Nat):Int)).Edges (y:Int):=by
   unfold a0b;rw[p,q1]
  rw[J]at e2;have s:(((f.next l n a b e mode (gt w (i:Int))).K.Places.length:Int)==0)=decide ((f.next l n a b e mode (gt w (i:Int))).pl=[]):=by
   show(((D1 (f.next l n a b e mode (gt w (i:Int))).pl).length:Int)==0)=_;rw[e0b];cases(f.next l n a b e mode (gt w (i:Int))).pl with
   |nil=>rfl
   |cons x r=>simp;omega
  have u:(f.next l n a b e mode (gt w (i:Int))).K.Flag=(f.next l n a b e mode (gt w (i:Int))).flag:=rfl;rcases e2 with⟨e3,e4,e5⟩|⟨e3,e4,e5⟩
  ·refine u0x ?_;unfold J0o;simp only[q0,c1,c2,c3,c4,L0I K hk.C hd.rt,hd.rg,k,g,bne_self_eq_false,hl,c5,c6,p,c7,q1,c8,c9,v,g1,s,u,e3,e4,e5,beq_self_eq_true]
  ·have a1:(if decide ((f.next l n a b e mode (gt w (i:Int))).pl=[])=true then some ((f.next l n a b e mode (gt w (i:Int))).flag==0)else some false)=some false:=by
    by_cases c:(f.next l n a b e mode (gt w (i:Int))).pl=[]
    ·have:¬(f.next l n a b e mode (gt w (i:Int))).flag=0:=fun h=>e3 ⟨c,h⟩;simp[c,this]
    ·simp[c]
   have I:(((X6 L (f.next l n a b e mode (gt w (i:Int))).K:Nat):Int)==-1)=false:=by rw[beq_eq_false_iff_ne];omega
   rw[<-ih (i+1) fu O' O' _ _ e1 g2 e4];refine n0D ?_;unfold J0o;simp only[q0,c1,c2,c3,c4,L0I K hk.C hd.rt,hd.rg,k,g,bne_self_eq_false,hl,c5,c6,p,c7,q1,c8,c9,v,g1,s,u,a1,e5,I,beq_self_eq_true,Go.V.X1 (n:=i) O']
end
def P0s {l:List C0}{n:Nat}{a:List B0}{b:Nat->List B0}{e:Nat->B0×Bool}{z:B0×Bool}(K:U3 l n a b e z Fb)(hw:∀x∈l,P2 x)(hl:l.length<=1000){mode:Int}(hm:mode=0\/mode=1){B:Nat}(h:B<=400):a05 Fb l mode (B:Int)=some (j8 Fb l mode (I3 (a0K l) 256).2 (Kd.zero z mode).K B):=by
 obtain⟨f1,f2,f3,f4⟩:=k08 (a0K l) 256;have f:=I0v K hw hl;have c:=u0X (a0K l);have g:=j0l (I3 (a0K l) 256).2 0 [] (fun x d=>(by cases d));generalize (I3 (a0K l) 256).2=cls at *;exact D0G K hw hm f (by rw[s0O cls O' (by unfold Fb;omega),c];rfl) O' g h
def N0y {l:List C0}(hR:L2 l=false)(hl:l.length*64<=140737488351232)(c:l.length<=1000)(mode B:Int):f0X Fb l mode=some (⟨0,[],[],⟨[],[]⟩⟩,11)/\a05 Fb l mode B=some (⟨0,[],[]⟩,11):=by
 obtain⟨h1,d⟩:=y05 hR hl c;constructor
 ·unfold f0X;rw[d];rfl
 ·unfold a05 d0z;rw[h1];rfl
def N0x {l:List C0}{n:Nat}{a:List B0}{b:Nat->List B0}{e:Nat->B0×Bool}{z:B0×Bool}(K:U3 l n a b e z Fb){mode:Int}(hm:¬(mode=0\/mode=1))(B:Int):f0X Fb l mode=some (⟨0,[],[],⟨[],[]⟩⟩,1)/\a05 Fb l mode B=some (⟨0,[],[]⟩,1):=by
 have b0:(mode != 0)=true:=by rw[bne_iff_ne];exact fun h=>hm (.inl h)
 have d:(mode != 1)=true:=by rw[bne_iff_ne];exact fun h=>hm (.inr h)
 have c:(mode==0)=false:=by rw[beq_eq_false_iff_ne];exact fun h=>hm (.inl h)
 have c1:(mode==1)=false:=by rw[beq_eq_false_iff_ne];exact fun h=>hm (.inr h)
 constructor
 ·unfold f0X;rw[K.TF.rR];simp only[q0,b0,d]
 ·unfold a05 d0z f0d;rw[K.TF.mR];simp only[q0,c,c1];rfl
def N0e:M0J:=by
 intro l mode w r C p hl _;have hw:=E02 r;have s:∀x∈w,L5 .u8 x:=p;have U:2000<Fb:=by unfold Fb;omega
 have sure:d0n Fb=some true:=x0w;refine⟨Fb,?_⟩;unfold L0w
 by_cases f:l.length<=24/\w.length<=12
 case neg=>
  have d:(if decide ((l.length:Int)>24)then some true else some (decide ((w.length:Int)>12)))=some true:=by
   by_cases c:(l.length:Int)>24
   ·simp only[c,decide_true,if_true]
   ·have:(w.length:Int)>12:=O'
    simp only[q0,c,this]
  simp only[d,if_true,G0,sure]
 obtain⟨R,v⟩:=f;have d:(if decide ((l.length:Int)>24)then some true else some (decide ((w.length:Int)>12)))=some false:=by
  have c1:¬(l.length:Int)>24:=O'
  have c2:¬(w.length:Int)>12:=O'
  simp only[q0,c1,c2]
 cases hR:L2 l with
 |false=>
  obtain⟨h1,j⟩:=N0y hR hl O' mode 40;simp only[q0,d,h1,j,show((11:Int) != 0)=true from rfl,sure]
 |true=>
  obtain⟨a,b,e,z,K⟩:=known hw hR hl O';obtain⟨t,u⟩:=a0N hw hR;have hn:=C0w u
  by_cases hm:mode=0\/mode=1
  case neg=>
   obtain⟨h1,j⟩:=N0x K hm 40;simp only[q0,d,h1,j,show((1:Int) != 0)=true from rfl,sure]
  have b0:=P0s K hw O' hm (show 40<=400 from O');have b0:a05 Fb l mode 40=_:=b0;obtain⟨d0,d1⟩:=N0p K hw hm;obtain⟨_,J⟩:=A0M K hw hm;rcases h0m (J1 Fb l mode (M0 (I3 (a0K l) 256).2)) (M0 (I3 (a0K l) 256).2).length (Kd.zero z mode).K 40 with⟨m,m1,h⟩|⟨i,i1,h⟩
  ·obtain⟨L,M,h1,j,h3⟩:=N0C K hw hm O' (key:=a0K l) (fun x y k=>O0s K.hn k) h;obtain⟨f1,_,_,_⟩:=k08 (a0K l) 256;have o:(j8 Fb l mode (I3 (a0K l) 256).2 (Kd.zero z mode).K 40).2=0:=by rw[e0k h]
   have I:(j8 Fb l mode (I3 (a0K l) 256).2 (Kd.zero z mode).K 40).1.Class.length=256:=by rw[O0E M];exact f1
   have g:=N0n (mode:=mode) K hw hm f1 M O' s O' w.length 0 Fb O' (Nat.lt_of_le_of_lt (show w.length<=2000 from O') U) _ _ J d1 h1;have z0:((0:Nat):Int)=0:=rfl;rw[j,z0]at g;have q:(((j8 Fb l mode (I3 (a0K l) 256).2 (Kd.zero z mode).K 40).1.Class.length:Int) != 256)=false:=by rw[I];rfl
   simp only[q0,d,d0,b0,o,show((0:Int) != 0)=false from rfl,q,g,sure]
  ·have o:=h0Z (F:=Fb) (l:=l) (mode:=mode) h;simp only[q0,d,d0,b0,o,show((0:Int) != 0)=false from rfl,show((14:Int) != 0)=true from rfl,sure]
