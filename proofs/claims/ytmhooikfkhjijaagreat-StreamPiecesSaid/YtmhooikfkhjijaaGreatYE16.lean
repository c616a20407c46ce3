/- P. Its conditions: none. -/
import Derived.Test.YtmhooikfkhjijaaGreatYG50
set_option linter.all false
namespace Go.Proofs.YtmhooikfkhjijaaGreat
open Go.V Go.RowKit Old Go.X
section
variable {F:Nat}{l:List C0}{t:Tm}{w:List Int}
def H0G {Can:List (List Bool)}(k:w.length<=64)(g:W ((l.length:Int)-1)=(t.top 0:Int))(c:∀i j,i<=j->j<=w.length->a7 F ⟨(w.length:Int),Can⟩ (t.top 0:Int) (i:Int) (j:Int)=some (den w t i j)){i:Nat}:
  ∀(d:Nat),i+d<=w.length+1->(∀j,i<=j->j<i+d->den w t i j=false)->∀fu,d<fu->iter (d02 F l ⟨(w.length:Int),Can⟩ (i:Int)) fu ((i:Int)+(d:Int)-1)=some (.inr ())
 |0,_,_,fu,hfu=>by
  obtain⟨fu,rfl⟩:∃m,fu=m+1:=⟨fu-1,by omega⟩
  refine a0o ?_;unfold d02;have h1:¬((i:Int)+((0:Nat):Int)-1>=(i:Int)):=by omega
  simp only[q0,h1]
 |d+1,hd,hno,fu,hfu=>by
  obtain⟨fu,rfl⟩:∃m,fu=m+1:=⟨fu-1,by omega⟩
  have e:(i:Int)+((d+1:Nat):Int)-1=((i+d:Nat):Int):=by omega
  rw[e];have h:d02 F l ⟨(w.length:Int),Can⟩ (i:Int) ((i+d:Nat):Int)=some (.next ((i:Int)+(d:Int)-1)):=by
   unfold d02;have h1:((i+d:Nat):Int)>=(i:Int):=by omega
   have f:W (((i+d:Nat):Int)-1)=(i:Int)+(d:Int)-1:=by rw[n3 (by omega) (by omega)];omega
   simp only[q0,h1,g,c i (i+d) (by omega) (by omega),hno (i+d) (by omega) (by omega),f]
  rw[e0m h];exact H0G k g c d (by omega) (fun j h1 f=>hno j h1 (by omega)) fu (by omega)
def H0R {Can:List (List Bool)}(v:w.length<=64)(q:W ((l.length:Int)-1)=(t.top 0:Int))(g:∀i j,i<=j->j<=w.length->a7 F ⟨(w.length:Int),Can⟩ (t.top 0:Int) (i:Int) (j:Int)=some (den w t i j)){i c:Nat}{es:List Z1}{sp:List G1}
  (hg:I7 F F l ⟨(w.length:Int),Can⟩ (t.top 0:Int) 1 (i:Int) (c:Int)=some es) (h:i0k F l es=some sp) (k:i<=c) (f:den w t i c=true):
  ∀(d:Nat),i+d<=w.length+1->c<i+d->(∀j,c<j->j<i+d->den w t i j=false)->∀fu,d<fu->iter (d02 F l ⟨(w.length:Int),Can⟩ (i:Int)) fu ((i:Int)+(d:Int)-1)=some (.inl (sp,0))
 |0,_,s,_,fu,p=>by omega
 |d+1,hd,s,hno,fu,p=>by
  obtain⟨fu,rfl⟩:∃m,fu=m+1:=⟨fu-1,by omega⟩
  have e:(i:Int)+((d+1:Nat):Int)-1=((i+d:Nat):Int):=by omega
  rw[e];have h1:((i+d:Nat):Int)>=(i:Int):=by omega
  by_cases c1:c=i+d
  ·refine a0o ?_;rw[<-c1];unfold d02;have o:(c:Int)>=(i:Int):=by omega
   simp only[q0,o,q,g i c k (by omega),f,hg,h]
  ·have u:d02 F l ⟨(w.length:Int),Can⟩ (i:Int) ((i+d:Nat):Int)=some (.next ((i:Int)+(d:Int)-1)):=by
    unfold d02;have r:W (((i+d:Nat):Int)-1)=(i:Int)+(d:Int)-1:=by rw[n3 (by omega) (by omega)];omega
    simp only[q0,h1,q,g i (i+d) (by omega) (by omega),hno (i+d) (by omega) (by omega),r]
   rw[e0m u];exact H0R v q g hg h k f d (by omega) (by omega) (fun j h1 r=>hno j h1 (by omega)) fu (by omega)
def I0n (c:O2 l t)(hw:∀x∈l,o3 x)(k:∀x∈w,Z5 .u8 x)(f:w.length<=64)(m:2000<F):∃Can,i0J F l w=some ⟨(w.length:Int),Can⟩/\W ((l.length:Int)-1)=(t.top 0:Int)/\(∀i j,i<=j->j<=w.length->a7 F ⟨(w.length:Int),Can⟩ (t.top 0:Int) (i:Int) (j:Int)=some (den w t i j))/\
  ∀i j,den w t i j=true->j<=w.length->I7 F F l ⟨(w.length:Int),Can⟩ (t.top 0:Int) 1 (i:Int) (j:Int)=some (M3 w t 0 1 i j):=by
 have g:=c.le;have h:=c.len;have hp:=t.size_pos;obtain⟨Can,c1,c2,c3⟩:=w0G (F:=F) c hw k f m;exact⟨Can,c1,by rw[n3 (by omega) (by omega)];unfold Old.Tm.top;omega,fun i j h1 d=>b0S (c3 0 t c.at0) (by rw[c2];unfold Old.Tm.top;omega) f h1 d,
  fun i j h1 d=>E0G (F:=F) (l:=l) f (by omega) c2 c3 t 0 F 1 i j c.at0 (by omega) (by omega) (by omega) h1 d⟩
def K0a (hR:K1 l=true)(o:B6 F l=some true)(s:O2 l t)(hw:∀x∈l,o3 x)(u:∀x∈w,Z5 .u8 x)(r:w.length<=64)(y:2000<F)(m:∀i P,Fit w t i P->i+P.wid<=w.length->False):d0X F l w=some ([],7):=by
 obtain⟨Can,c1,v,g,_⟩:=I0n (F:=F) s hw u r y;have hd:∀i j,j<=w.length->den w t i j=false:=fun i j h=>by
  cases c:den w t i j with
  |false=>rfl
  |true=>obtain⟨P,p1,C⟩:=f0Q c;exact(m i P p1 (by omega)).elim
 have d:¬(w.length:Int)>64:=by omega
 unfold d0X j0e;simp only[q0,o,d,bne_self_eq_false,c1];have:=R4 (step:=d0S F l w ⟨(w.length:Int),Can⟩) (fun k=>(k:Int)) (.inr ()) (w.length+1) (fun k hk=>.inl ?_) ?_ (w.length+1) 0 F (by omega) (by omega)
 ·have q:iter (d0S F l w ⟨(w.length:Int),Can⟩) F 0=_:=this;rw[q];rfl
 ·unfold d0S;have f:(k:Int)<=(w.length:Int):=by omega
  have p:=H0G r v g (i:=k) (w.length+1-k) (by omega) (fun j h1 q=>hd k j (by omega)) F (by omega);rw[show(k:Int)+((w.length+1-k:Nat):Int)-1=(w.length:Int) by omega]at p;simp only[q0,f,p,G3 (i:=k) (by omega)]
 ·unfold d0S;have f:¬(((w.length+1:Nat):Int)<=(w.length:Int)):=by omega
  simp only[q0,f]
def J0R (hR:K1 l=true)(r:B6 F l=some true)(R:O2 l t)(hw:∀x∈l,o3 x)(hl:l.length*64<=140737488351232)(hb:∀x∈w,Z5 .u8 x)(v:w.length<=64)(hf:1000000000<F)(y:l.length+1<F){tags:List Int}{i c:Nat}{P:Pt}(Fn:H0U w l t w.length tags i c P):d0X F l w=some (a0x tags (c:Int),0):=by
 obtain⟨Can,c1,hW,q,I⟩:=I0n (F:=F) R hw hb v (by omega);have g:=Fn.wid;have C:=Fn.le;have f:den w t i c=true:=by rw[<-g];exact Fn.fit.den
 have p:∀m j,j<=w.length->(m<i\/(m=i/\c<j))->den w t m j=false:=fun m j h h'=>by
  cases d:den w t m j with
  |false=>rfl
  |true=>
   obtain⟨Q,q1,q2⟩:=f0Q d;rcases Fn.all m Q q1 (by omega)with h3|⟨h3,h4⟩<;>omega
 have hg:=I i c f C;have s:=C0c t 0 1 i P Fn.fit Fn.mn;rw[g]at s;rw[s]at hg;have a1:=z0y R v Fn.fit;have hs:=z0A (F:=F) hR R hl (by omega) y r Fn.fit (by omega) (by omega);rw[g,<-Fn.tag]at hs;have u:¬(w.length:Int)>64:=by omega
 unfold d0X j0e;simp only[q0,r,u,bne_self_eq_false,c1];have hi:i<=w.length:=by omega
 have:=R4 (step:=d0S F l w ⟨(w.length:Int),Can⟩) (fun k=>(k:Int)) (.inl (a0x tags (c:Int),0)) i (fun k hk=>.inl ?_) ?_ i 0 F (by omega) (by omega)
 ·have J:iter (d0S F l w ⟨(w.length:Int),Can⟩) F 0=_:=this;rw[J];rfl
 ·unfold d0S;have U:(k:Int)<=(w.length:Int):=by omega
  have o:=H0G v hW q (i:=k) (w.length+1-k) (by omega) (fun j h1 J=>p k j (by omega) (.inl hk)) F (by omega);rw[show(k:Int)+((w.length+1-k:Nat):Int)-1=(w.length:Int) by omega]at o;simp only[q0,U,o,G3 (i:=k) (by omega)]
 ·unfold d0S;have U:(i:Int)<=(w.length:Int):=by omega
  have o:=H0R v hW q hg hs (by omega) f (w.length+1-i) (by omega) (by omega) (fun j h1 J=>p i j (by omega) (.inr ⟨rfl,h1⟩)) F (by omega);rw[show(i:Int)+((w.length+1-i:Nat):Int)-1=(w.length:Int) by omega]at o;simp only[q0,U,o]
end
section
variable {F:Nat}{l:List C0}{n:Nat}{a:List y0}{b:Nat->List y0}{e:Nat->y0×Bool}{z:y0×Bool}{t:Tm}{w:List Int}
def J0d (K:H5 l n a b e z F)(hw:∀x∈l,o3 x)(f:O2 l t)(hl:l.length*64<=140737488351232)(g:∀x∈w,Z5 .u8 x)(j:w.length<=64){h:Hs}(H:HsI w l n t w.length h):d0X F l w=some (if h.found.2 then(h.found.1,0)else([],7)):=by
 have f1:=K.f1;have f3:=K.f3;unfold Hs.found;cases c:h.is with
 |false=>
  obtain⟨_,_,d⟩:=H.no c;exact K0a K.hR K.TF.rR f hw g j (by omega) d
 |true=>
  obtain⟨i,cc,P,h1,Fn,_⟩:=H.yes c;rw[h1];exact J0R K.hR K.TF.rR f hw hl g j (by omega) K.f2 Fn
end
