/- P. Its conditions: none. -/
import Derived.Test.YtihmgaccbcfgjaaGreatQG48
import Derived.Test.YtihmgaccbcfgjaaGreatQPLSubsetSteps
import Derived.Test.YtihmgaccbcfgjaaGreatQG47
import Derived.Test.YtihmgaccbcfgjaaGreatQDSubsetBuilds
set_option linter.all false
namespace Go.Proofs.YtihmgaccbcfgjaaGreat
open Go.V Go.RowKit Old Go.X
open Classical
section
variable {l:List C0}{n:Nat}{a:List B0}{b:Nat->List B0}{e:Nat->B0×Bool}{z:B0×Bool}{mode:Int}
def R0z (K:U3 l n a b e z Fb)(hw:∀x∈l,P2 x)(hl:l.length<=1000)(hm:mode=0\/mode=1){B:Nat}(h:B<=400):c06 Fb l mode (B:Int)=some (j8 Fb l mode (I3 (a0K l) 256).2 (Kd.zero z mode).K B):=by
 obtain⟨f1,f2,f3,f4⟩:=k08 (a0K l) 256;have d:=Q0T K hw hl;have c:=u0X (a0K l);have g:=j0l (I3 (a0K l) 256).2 0 [] (fun x f=>(by cases f));rw[<-f3]at d;generalize (I3 (a0K l) 256).2=cls at *;exact R0y K hw hm d (by rw[A0G cls O' (by unfold Fb;omega),c];rfl) O' g h
def R0k (K:U3 l n a b e z Fb)(hw:∀x∈l,P2 x)(hl:l.length<=1000)(hm:mode=0\/mode=1){B:Int}(r:B<0):a05 Fb l mode B=some (⟨0,[],[]⟩,14)/\c06 Fb l mode B=some (⟨0,[],[]⟩,14):=by
 obtain⟨f1,f2,f3,f4⟩:=k08 (a0K l) 256;have p:=I0v K hw hl;have k:=Q0T K hw hl;have c:=u0X (a0K l);obtain⟨o,_,_⟩:=q0I (z:=z) K hw hm;have d0:=(N0p K hw hm).1;generalize (I3 (a0K l) 256).2=cls at *;have i:e0e Fb cls=some (M0 cls):=by rw[s0O cls O' (by unfold Fb;omega),c];rfl
 have f:j0R Fb cls=some (M0 cls):=by rw[A0G cls O' (by unfold Fb;omega),c];rfl
 have h:=o0r K.hR (show 401<Fb by unfold Fb;omega);have d:=M0b K.hR K.hl (show 401<Fb by unfold Fb;omega) K.f2;obtain⟨F,q⟩:∃F,Fb=F+1:=⟨9999999999999,rfl⟩
 generalize Fb=G at *;subst q;have m:((1:Nat):Int)>B:=O'
 have c1:¬(400:Int)<B:=O'
 constructor
 ·have j:iter (q0r (F+1)) (F+1) ()=some ():=rfl;have g:K0 104 ([]:List F1) [(Kd.zero z mode).K]=true:=B4 X';have hs:b0H (F+1) B (0,(l,mode,M0 cls,[(Kd.zero z mode).K]),(C4 l,cls,[]))=some (.done (.inl (14,⟨0,[],[]⟩))):=by
   unfold b0H;simp only[q0,List.length_cons,List.length_nil,Nat.zero_add,m,c1,show((0:Int)<((1:Nat):Int))=True from X']
  unfold a05;simp only[q0,o,bne_self_eq_false,p,i,j,show((-1:Int)<0)=True from X',g,List.nil_append,h];rw[u0x hs];rfl
 ·have hs:d0O (F+1) l mode B ((I3 (a0K l) 256).1.length:Int) (M0 cls) ([(Kd.zero z mode).K],0,(C4 l,cls,[]))=some (.done (.inl (14,⟨0,[],[]⟩))):=by
   unfold d0O;simp only[q0,List.length_cons,List.length_nil,Nat.zero_add,m,show((0:Int)<((1:Nat):Int))=True from X']
  unfold c06;simp only[q0,d0,bne_self_eq_false,k,f,d];rw[u0x hs];rfl
end
def Q0x:Bd ⟨0,[],[]⟩:=⟨X',X',fun s hs=>(by cases hs),fun s hs=>(by cases hs),fun s hs=>(by cases hs)⟩
def R0O:Q0M:=by
 intro l x k m hl;have hw:=E02 k;have u:2000001<Fb:=by unfold Fb;omega
 have sure:d0n Fb=some true:=x0w;have fin:∀(mode B:Int) (d:Y1) (er:Int),Bd d->a05 Fb l mode B=some (d,er)->c06 Fb l mode B=some (d,er)->
   Option.bind (a05 Fb l mode B) (fun x=>Option.bind (c06 Fb l mode B) fun y=>Option.bind (h0e Fb x.1 y.1) fun h=>
    Option.bind (if h then some (x.2==y.2)else some false) fun x2=>Option.bind (if x2 then Option.bind (d0n Fb) fun i=>some i else some false) fun q=>some q)=some true:=by
  intro mode B d er hd h1 g;have hs:=D0g (F:=Fb) d d hd u;rw[z07]at hs;rw[h1,g];simp only[G0,hs,if_true,beq_self_eq_true,sure]
 refine⟨Fb,?_⟩;unfold Q0A
 by_cases s:l.length<=24
 case neg=>
  have j:decide ((l.length:Int)>24)=true:=by simp;omega
  simp only[j,if_true,G0,sure]
 have j:decide ((l.length:Int)>24)=false:=by simp;omega
 obtain⟨mode,f,r,v⟩:∃mode f,(if decide (x.Budget>40)then some (⟨x.Mode,40⟩:g0c)else some x)=some ⟨mode,f⟩/\f<=40:=by
  by_cases c:x.Budget>40
  ·exact⟨x.Mode,40,by rw[decide_eq_true c];rfl,Int.le_refl _⟩
  ·exact⟨x.Mode,x.Budget,by rw[decide_eq_false c];rfl,O'⟩
 simp only[q0,j,r];cases hR:L2 l with
 |false=>
  obtain⟨h1,g⟩:=N0y hR hl O' mode f;refine fin mode f _ _ Q0x g ?_;unfold c06;rw[h1];rfl
 |true=>
  obtain⟨a,b,e,z,K⟩:=known hw hR hl O';obtain⟨t,o⟩:=a0N hw hR;have hn:=C0w o
  by_cases hm:mode=0\/mode=1
  case neg=>
   obtain⟨h1,g⟩:=N0x K hm f;refine fin mode f _ _ Q0x g ?_;unfold c06;rw[h1];rfl
  by_cases p:f<0
  ·obtain⟨h1,g⟩:=R0k K hw O' hm p;exact fin mode f _ _ Q0x h1 g
  ·obtain⟨B,rfl⟩:∃B:Nat,f=(B:Int):=⟨f.toNat,O'⟩
   have sm:=C0o (mode:=mode) K hw hm O' (a0K l) (show B<=100 from O');exact fin mode _ _ _ sm.bd (P0s K hw O' hm (show B<=400 from O')) (R0z K hw O' hm (show B<=400 from O'))
