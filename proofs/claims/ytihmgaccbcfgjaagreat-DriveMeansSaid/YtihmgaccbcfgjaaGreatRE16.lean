/- P. Its conditions: none. -/
import Derived.Test.YtihmgaccbcfgjaaGreatRG42
set_option linter.all false
namespace Go.Proofs.YtihmgaccbcfgjaaGreat
open Go.V Go.RowKit Old Go.X
section
variable {F:Nat}{l:List C0}{t:Tm}{w:List Int}
theorem T0k {Can:List (List Bool)}(h:w.length<=64)(f:W ((l.length:Int)-1)=(t.top 0:Int))(c:∀i j,i<=j->j<=w.length->A9 F ⟨(w.length:Int),Can⟩ (t.top 0:Int) (i:Int) (j:Int)=some (den w t i j)){i:Nat}:
  ∀(d:Nat),i+d<=w.length+1->(∀j,i<=j->j<i+d->den w t i j=false)->∀fu,d<fu->iter (J0X F l ⟨(w.length:Int),Can⟩ (i:Int)) fu ((i:Int)+(d:Int)-1)=some (.inr ())
 |0,_,_,fu,hfu=>by
  obtain⟨fu,rfl⟩:∃m,fu=m+1:=⟨fu-1,O'⟩
  refine u0x ?_;unfold J0X
  grind
 |d+1,hd,hno,fu,hfu=>by
  obtain⟨fu,rfl⟩:∃m,fu=m+1:=⟨fu-1,O'⟩
  have e:(i:Int)+((d+1:Nat):Int)-1=((i+d:Nat):Int):=O'
  rw[e];have hs:J0X F l ⟨(w.length:Int),Can⟩ (i:Int) ((i+d:Nat):Int)=some (.next ((i:Int)+(d:Int)-1)):=by
   unfold J0X;have h1:((i+d:Nat):Int)>=(i:Int):=O'
   have g:W (((i+d:Nat):Int)-1)=(i:Int)+(d:Int)-1:=by grind [E3]
   simp only[q0,h1,f,c i (i+d) O' O',hno (i+d) O' O',g]
  rw[n0D hs];exact T0k h f c d O' (fun j h1 g=>hno j h1 O') fu O'
theorem T0Y {Can:List (List Bool)}(s:w.length<=64)(p:W ((l.length:Int)-1)=(t.top 0:Int))(f:∀i j,i<=j->j<=w.length->A9 F ⟨(w.length:Int),Can⟩ (t.top 0:Int) (i:Int) (j:Int)=some (den w t i j)){i c:Nat}{es:List g0A}{sp:List g0p}
  (hg:a0O F F l ⟨(w.length:Int),Can⟩ (t.top 0:Int) 1 (i:Int) (c:Int)=some es) (h:Q0R F l es=some sp) (k:i<=c) (g:den w t i c=true):
  ∀(d:Nat),i+d<=w.length+1->c<i+d->(∀j,c<j->j<i+d->den w t i j=false)->∀fu,d<fu->iter (J0X F l ⟨(w.length:Int),Can⟩ (i:Int)) fu ((i:Int)+(d:Int)-1)=some (.inl (sp,0))
 |0,_,r,_,fu,o=>O'
 |d+1,hd,r,hno,fu,o=>by
  obtain⟨fu,rfl⟩:∃m,fu=m+1:=⟨fu-1,O'⟩
  have e:(i:Int)+((d+1:Nat):Int)-1=((i+d:Nat):Int):=O'
  rw[e];have h1:((i+d:Nat):Int)>=(i:Int):=O'
  by_cases c1:c=i+d
  ·refine u0x ?_;unfold J0X
   grind
  ·have hs:J0X F l ⟨(w.length:Int),Can⟩ (i:Int) ((i+d:Nat):Int)=some (.next ((i:Int)+(d:Int)-1)):=by
    unfold J0X;have q:W (((i+d:Nat):Int)-1)=(i:Int)+(d:Int)-1:=by grind [E3]
    simp only[q0,h1,p,f i (i+d) O' O',hno (i+d) O' O',q]
   rw[n0D hs];exact T0Y s p f hg h k g d O' O' (fun j h1 q=>hno j h1 O') fu O'
theorem U0q (c:I4 l t)(hw:∀x∈l,P2 x)(m:∀x∈w,L5 .u8 x)(d:w.length<=64)(k:2000<F):∃Can,R0I F l w=some ⟨(w.length:Int),Can⟩/\W ((l.length:Int)-1)=(t.top 0:Int)/\(∀i j,i<=j->j<=w.length->A9 F ⟨(w.length:Int),Can⟩ (t.top 0:Int) (i:Int) (j:Int)=some (den w t i j))/\
  ∀i j,den w t i j=true->j<=w.length->a0O F F l ⟨(w.length:Int),Can⟩ (t.top 0:Int) 1 (i:Int) (j:Int)=some (A5 w t 0 1 i j):=by
 have g:=c.le;have h:=c.len;have hp:=t.size_pos;obtain⟨Can,c1,c2,c3⟩:=U00 (F:=F) c hw m d k;exact⟨Can,c1,by grind [E3,Old.Tm.top],fun i j h1 f=>J0i (c3 0 t c.at0) (by grind [Old.Tm.top]) d h1 f,
  fun i j h1 f=>U0h (F:=F) (l:=l) d O' c2 c3 t 0 F 1 i j c.at0 O' O' O' h1 f⟩
theorem X0m (hR:L2 l=true)(d:U6 F l=some true)(o:I4 l t)(hw:∀x∈l,P2 x)(u:∀x∈w,L5 .u8 x)(m:w.length<=64)(p:2000<F)(q:∀i P,Fit w t i P->i+P.wid<=w.length->False):L0O F l w=some ([],7):=by
 obtain⟨Can,c1,r,f,_⟩:=U0q (F:=F) o hw u m p;have hd:∀i j,j<=w.length->den w t i j=false:=fun i j h=>by
  grind [M0X]
 have c:¬(w.length:Int)>64:=O'
 unfold L0O Q08;simp only[q0,d,c,bne_self_eq_false,c1];have:=H3 (step:=K0R F l w ⟨(w.length:Int),Can⟩) (fun k=>(k:Int)) (.inr ()) (w.length+1) (fun k hk=>.inl ?_) ?_ (w.length+1) 0 F O' O'
 ·simp_all
 ·unfold K0R;have s:(k:Int)<=(w.length:Int):=O'
  have g:=T0k m r f (i:=k) (w.length+1-k) O' (fun j h1 v=>hd k j O') F O';rw[show(k:Int)+((w.length+1-k:Nat):Int)-1=(w.length:Int) from O']at g;simp only[q0,s,g,X1 (i:=k) O']
 ·unfold K0R
  grind
theorem W0P (hR:L2 l=true)(p:U6 F l=some true)(y:I4 l t)(hw:∀x∈l,P2 x)(hl:l.length*64<=140737488351232)(hb:∀x∈w,L5 .u8 x)(u:w.length<=64)(hf:1000000000<F)(C:l.length+1<F){tags:List Int}{i c:Nat}{P:Pt}(Fn:U0l w l t w.length tags i c P):L0O F l w=some (f02 tags (c:Int),0):=by
 obtain⟨Can,c1,R,s,I⟩:=U0q (F:=F) y hw hb u O';have g:=Fn.wid;have J:=Fn.le;have f:den w t i c=true:=by rw[<-g];exact Fn.fit.den
 have r:∀m j,j<=w.length->(m<i\/(m=i/\c<j))->den w t m j=false:=fun m j h h'=>by
  cases d:den w t m j with
  |false=>rfl
  |true=>
   obtain⟨Q,U,q2⟩:=M0X d;rcases Fn.all m Q U O' with h3|⟨h3,h4⟩<;>omega
 have hg:=I i c f J;have o:=U0k t 0 1 i P Fn.fit Fn.mn;rw[g]at o;rw[o]at hg;have a1:=U08 y u Fn.fit;have hs:=U0t (F:=F) hR y hl O' C p Fn.fit O' O';rw[g,<-Fn.tag]at hs;have q:¬(w.length:Int)>64:=O'
 unfold L0O Q08;simp only[q0,p,q,bne_self_eq_false,c1];have:=H3 (step:=K0R F l w ⟨(w.length:Int),Can⟩) (fun k=>(k:Int)) (.inl (f02 tags (c:Int),0)) i (fun k hk=>.inl ?_) ?_ i 0 F O' O'
 ·simp_all
 ·unfold K0R;have k1:(k:Int)<=(w.length:Int):=O'
  have v:=T0k u R s (i:=k) (w.length+1-k) O' (fun j h1 h2=>r k j O' (.inl hk)) F O';rw[show(k:Int)+((w.length+1-k:Nat):Int)-1=(w.length:Int) from O']at v;simp only[q0,k1,v,X1 (i:=k) O']
 ·unfold K0R;have v:=T0Y u R s hg hs O' f (w.length+1-i) O' O' (fun j h1 h2=>r i j O' (.inr ⟨rfl,h1⟩)) F O'
  grind
end
section
variable {F:Nat}{l:List C0}{n:Nat}{a:List B0}{b:Nat->List B0}{e:Nat->B0×Bool}{z:B0×Bool}{t:Tm}{w:List Int}
def J0U (l:List C0)(n:Nat)(a:List B0)(b:Nat->List B0)(e:Nat->B0×Bool)(z:B0×Bool)(w:List Int):Nat->Hs
 |0=>Hs.zero l z
 |m+1=>(J0U l n a b e z w m).feed l n a b e (gt w (m:Int))
def U0B (K:U3 l n a b e z F)(hw:∀x∈l,P2 x)(f:I4 l t)(d:∀m,m<=w.length->(J0U l n a b e z w m).c.at_=m):∀m,m<=w.length->HsI w l n t m (J0U l n a b e z w m)
 |0,_=>W08 K hw f w
 |m+1,h=>X0w K hw f (U0B K hw f d m O') (d m O') O'
def V0j (K:U3 l n a b e z F)(hw:∀x∈l,P2 x)(f:I4 l t)(hl:l.length*64<=140737488351232)(j:∀x∈w,L5 .u8 x)(g:w.length<=64){h:Hs}(H:HsI w l n t w.length h):L0O F l w=some (if h.found.2 then(h.found.1,0)else([],7)):=by
 have f3:=K.f3;unfold Hs.found;cases c:h.is with
 |false=>
  obtain⟨_,_,d⟩:=H.no c;exact X0m K.hR K.TF.rR f hw j g O' d
 |true=>
  obtain⟨i,cc,P,h1,Fn,_⟩:=H.yes c;rw[h1];exact W0P K.hR K.TF.rR f hw hl j g O' K.f2 Fn
end
