/- P. Its conditions: none. -/
import Derived.Test.YtdficaoajalfaaaGreatCG52
import Derived.Test.YtdficaoajalfaaaGreatCG50
set_option linter.all false
namespace Go.Proofs.YtdficaoajalfaaaGreat
open Go.V Go.RowKit Old Go.X
section
variable {F:Nat}{l:List C0}{n:Nat}{a:List y0}{b:Nat->List y0}{e:Nat->y0×Bool}{z:y0×Bool}{t:Tm}{w:List Int}{m:Nat}{s:Cs}{G:Nat->Nat×Pp}{A B:Nat->Prop}
def G0Y (i:Nat)(H7:List (Nat×Int)):gt (r8 l (O7 l (i:Int)) H7) 0=(i:Int):=by
 have f:=g0o l;obtain⟨T,d⟩:∃T:Nat,o9 l=T:=⟨(o9 l).toNat,O'⟩
 have c:(O7 l (i:Int)).length=1+2*T:=by rw[k0w];unfold l5;rw[d];omega
 rw[B05 (T:=T) _ _ c];unfold O7;exact b0d (i:=0) (by rw[List.length_replicate];unfold l5;omega)
def R7.L1 (I:R7 w l n t m s G A B)(c:Nat){A' B':Nat->Prop}(hA:∀i,A i->i<=c->A' i)(U:∀i,B' i->B i/\i<=c):∃G',R7 w l n t m (s.L1 (c:Int)) G' A' B':=by
 have r:∀k,k<(w0h s.vals (c:Int) s.pl.length).length->(w0h s.vals (c:Int) s.pl.length).getD k 0∈w0h s.vals (c:Int) s.pl.length:=fun k hk=>by
  simp only[List.getD,List.getElem?_eq_getElem hk,Option.getD_some];exact List.getElem_mem hk
 have f:=fun k hk=>F0X (r k hk);have d:∀k,k<s.pl.length->gt (gt s.vals (k:Int)) 0=((G k).1:Int):=fun k hk=>by
  obtain⟨j,_,_,_,_,hv⟩:=I.run k hk;rw[hv];exact G0Y _ _
 have hlen:(s.L1 (c:Int)).pl.length=(w0h s.vals (c:Int) s.pl.length).length:=by simp[Cs.L1]
 have o:∀k,k<(w0h s.vals (c:Int) s.pl.length).length->(s.L1 (c:Int)).pl.getD k 0=s.pl.getD ((w0h s.vals (c:Int) s.pl.length).getD k 0) 0:=fun k hk=>D0e _ hk;refine⟨fun k=>G ((w0h s.vals (c:Int) s.pl.length).getD k 0),fun k hk=>?_,I.at_,F0s I.ok (I0b s.vals (c:Int) s.pl.length) (fun i h=>F0X h),fun k hk=>?_,fun k k' hk g hD=>?_,fun i j Y hj u J=>?_⟩
 ·rw[hlen]at hk;have h1:=f k hk;have h2:=(List.mem_filter.1 (r k hk)).2;have h3:gt (gt s.vals (((w0h s.vals (c:Int) s.pl.length).getD k 0:Nat):Int)) 0<=(c:Int):=by simpa using h2
  rw[d _ h1]at h3;exact hA _ (I.st0 _ h1) O'
 ·rw[hlen]at hk;obtain⟨j,e1,R,e3,e4,e5⟩:=I.run _ (f k hk);refine⟨j,e1,R,e3,by rw[o k hk];exact e4,?_⟩;have h:gt (s.L1 (c:Int)).vals (k:Int)=gt s.vals (((w0h s.vals (c:Int) s.pl.length).getD k 0:Nat):Int):=p0H (fun i:Nat=>gt s.vals (i:Int)) hk;rw[h];exact e5
 ·rw[hlen]at hk g;exact I.rel _ _ (f k hk) (f k' g) hD
 ·obtain⟨b1,b2⟩:=U i u;obtain⟨k,C,k2,y⟩:=I.cov i j Y hj b1 J;have x:k∈w0h s.vals (c:Int) s.pl.length:=by
   refine List.mem_filter.2 ⟨List.mem_range.2 C,?_⟩;have:gt (gt s.vals (k:Int)) 0<=(c:Int):=by
    rw[d k C];rcases y with h|⟨h,_⟩
    ·simp only at h;omega
    ·simp only at h;omega
   simpa using this
  obtain⟨q,v,eq⟩:=List.getElem_of_mem x;have p:(w0h s.vals (c:Int) s.pl.length).getD q 0=k:=by simp only[List.getD,List.getElem?_eq_getElem v,Option.getD_some];exact eq
  refine⟨q,by rw[hlen];exact v,by rw[o q v,p];exact k2,?_⟩;rw[p];exact y
structure H0U (w:List Int)(l:List C0)(t:Tm)(m:Nat)(tags:List Int)(i c:Nat)(P:Pt):Prop where
 fit:Fit w t i P
 wid:i+P.wid=c
 le:c<=m
 mn:Mn w t i P
 tag:tags=r8 l (O7 l (i:Int)) (U3 t 0 i P)
 all:∀i' Q,Fit w t i' Q->i'+Q.wid<=m->i<i'\/(i=i'/\i'+Q.wid<=c)
structure HsI (w:List Int)(l:List C0)(n:Nat)(t:Tm)(m:Nat)(h:Hs):Prop where
 no:h.is=false->t.can=false/\(∃G,R7 w l n t m h.c G (fun _=>True) (fun _=>True))/\∀i P,Fit w t i P->i+P.wid<=m->False
 yes:h.is=true->∃i c P,h.to=((c:Nat):Int)/\H0U w l t m h.tags i c P/\(t.can=true->i=0)/\∃G,R7 w l n t m h.c G (fun j=>j<=i) (fun j=>j<=i)
def Fit.zero {s:Tm}{i:Nat}{Q:Pt}(h:Fit w s i Q)(c:Q.wid=0):s.can=true:=(h.emp c).can
def K0r (K:H5 l n a b e z F)(hw:∀x∈l,o3 x)(g:O2 l t)(w:List Int):HsI w l n t 0 (Hs.zero l z):=by
 obtain⟨h1,d⟩:=E06 K hw g w;refine⟨fun h=>?_,fun h=>?_⟩
 ·have c:t.can=false:=by rw[<-h1];exact h
  refine⟨c,⟨fun _=>(0,.leaf),.zero _ _ _ _ _ _ _⟩,fun i P f k=>?_⟩;rw[f.zero O']at c;cases c
 ·have c:t.can=true:=by rw[<-h1];exact h
  obtain⟨o,q,p,j⟩:=d c;exact⟨0,0,emp t,rfl,⟨o,O',Nat.le_refl _,p,j,fun r Q f k=>.inr ⟨O',O'⟩⟩,fun _=>rfl,fun _=>(0,.leaf),.zero _ _ _ _ _ _ _⟩
def L0T (K:H5 l n a b e z F)(hw:∀x∈l,o3 x)(v:O2 l t){h:Hs}(H:HsI w l n t m h)(C:h.c.at_=m)(hm:m<w.length):HsI w l n t (m+1) (h.feed l n a b e (gt w (m:Int))):=by
 unfold Hs.feed;have a1:h.R1 l n a b (gt w (m:Int))=h.c.step l n a b (gt w (m:Int)) (h.c.at_==0||!h.is):=rfl;rw[a1];cases r:h.is with
 |false=>
  obtain⟨o,⟨G,I⟩,u⟩:=H.no r;have J:(h.c.at_==0||!false)=true:=Z9
  rw[J];obtain⟨G1,I1⟩:=I.step K hw v hm true (A':=fun _=>True) (B':=fun _=>True) (fun _ _=>trivial) (fun _=>trivial) (fun _ _ _=>trivial) (fun _=>rfl);obtain⟨b1,b2⟩:=I1.K3 K hw v;cases q:((h.c.step l n a b (gt w (m:Int)) true).K3 l e).2 with
  |false=>
   rw[if_neg Z9];refine⟨fun _=>⟨o,⟨G1,I1⟩,fun i P f p=>?_⟩,fun h=>absurd h Z9⟩
   by_cases c1:P.wid=0
   ·rw[f.zero c1]at o;cases o
   ·by_cases c2:i+P.wid<=m
    ·exact u i P f c2
    ·exact b2 q i P trivial f O' O'
  |true=>
   rw[if_pos rfl];refine⟨fun h=>absurd h Z9,fun _=>?_⟩;obtain⟨k,P,hk,R⟩:=b1 q;have y:gt ((h.c.step l n a b (gt w (m:Int)) true).K3 l e).1 0=((G1 k).1:Int):=by rw[R.tag];exact G0Y _ _
   rw[y];obtain⟨G2,I2⟩:=I1.L1 (G1 k).1 (A':=fun j=>j<=(G1 k).1) (B':=fun j=>j<=(G1 k).1) (fun _ _ h=>h) (fun _ h=>⟨trivial,h⟩);refine⟨(G1 k).1,m+1,P,I1.at_,⟨R.fit,R.wid,Nat.le_refl _,fun Q q1 q2=>?_,R.tag,fun d Q f p=>?_⟩,fun h=>(by rw[o]at h;cases h),G2,I2⟩
   ·have:=R.wid;have:=R.pos;rcases R.all _ Q trivial q1 O' O' with h|⟨_,h⟩
    ·omega
    ·exact h
   ·by_cases c1:Q.wid=0
    ·rw[f.zero c1]at o;cases o
    ·by_cases c2:d+Q.wid<=m
     ·exact(u d Q f c2).elim
     ·rcases R.all d Q trivial f O' O' with h|⟨h,_⟩
      ·exact .inl h
      ·exact .inr ⟨h,O'⟩
 |true=>
  obtain⟨i0,c0,P0,U,Fn,g,G,I⟩:=H.yes r;have J:(h.c.at_==0||!true)=(m==0):=by rw[C,Bool.not_true,Bool.or_false,Bool.eq_iff_iff];simp
  rw[J];have b3:m=0->i0=0:=fun y=>by have:=Fn.wid;have:=Fn.le;omega
  obtain⟨G1,I1⟩:=I.step K hw v hm (m==0) (A':=fun j=>j<=i0) (B':=fun j=>j<=i0) (fun _ h=>h) (fun h=>(show m<=i0 by have b5:m=0:=(by simpa using h);omega)) (fun _ _ h=>h) (fun h=>by
    have:=Fn.wid;have:=Fn.le;have:m=0:=by
     rcases Nat.eq_zero_or_pos m with h|h
     ·exact h
     ·-- what is found began by m
      have hz:P0.wid=0:=O'
      have:=g (Fn.fit.zero hz);omega
    simp[this])
  obtain⟨b1,b2⟩:=I1.K3 K hw v;have old:∀d Q,Fit w t d Q->d+Q.wid<=m+1->Q.wid=0\/i0<d\/(d+Q.wid<=m/\i0=d/\d+Q.wid<=c0)\/(d+Q.wid=m+1/\d<=i0/\0<Q.wid):=fun d Q f p=>by
   by_cases c2:d+Q.wid<=m
   ·rcases Fn.all d Q f c2 with h|⟨h,h'⟩
    ·exact .inr (.inl h)
    ·exact .inr (.inr (.inl ⟨c2,h,h'⟩))
   ·by_cases c3:i0<d
    ·exact .inr (.inl c3)
    ·by_cases c1:Q.wid=0
     ·exact .inl c1
     ·exact .inr (.inr (.inr ⟨O',O',O'⟩))
  have b4:c0<=m:=Fn.le;cases q:((h.c.step l n a b (gt w (m:Int)) (m==0)).K3 l e).2 with
  |false=>
   rw[if_neg Z9];refine⟨fun h=>absurd h Z9,fun _=>⟨i0,c0,P0,U,⟨Fn.fit,Fn.wid,O',Fn.mn,Fn.tag,fun d Q f p=>?_⟩,g,G1,I1⟩⟩;rcases old d Q f p with h|h|⟨_,h⟩|⟨h1,h2,h3⟩
   ·have hz:=g (f.zero h);have:=Fn.wid;rcases Nat.eq_zero_or_pos d with h4|h4
    ·exact .inr ⟨O',O'⟩
    ·exact .inl O'
   ·exact .inl h
   ·exact .inr h
   ·exact(b2 q d Q h2 f h1 h3).elim
  |true=>
   rw[if_pos rfl];refine⟨fun h=>absurd h Z9,fun _=>?_⟩;obtain⟨k,P,hk,R⟩:=b1 q;have hA:(G1 k).1<=i0:=I1.st0 k hk;have y:gt ((h.c.step l n a b (gt w (m:Int)) (m==0)).K3 l e).1 0=((G1 k).1:Int):=by rw[R.tag];exact G0Y _ _
   rw[y];obtain⟨G2,I2⟩:=I1.L1 (G1 k).1 (A':=fun j=>j<=(G1 k).1) (B':=fun j=>j<=(G1 k).1) (fun _ _ h=>h) (fun j h=>⟨O',h⟩);refine⟨(G1 k).1,m+1,P,I1.at_,⟨R.fit,R.wid,Nat.le_refl _,fun Q q1 q2=>?_,R.tag,fun d Q f p=>?_⟩,fun h=>(by have:=g h;omega),G2,I2⟩
   ·have:=R.wid;have:=R.pos;rcases R.all _ Q hA q1 O' O' with h|⟨_,h⟩
    ·omega
    ·exact h
   ·rcases old d Q f p with h|h|⟨_,h,_⟩|⟨h1,h2,h3⟩
    ·rcases Nat.lt_or_ge (G1 k).1 d with h4|h4
     ·exact .inl h4
     ·refine .inr ⟨?_,O'⟩;have:=g (f.zero h);omega
    ·exact .inl O'
    ·rcases Nat.lt_or_ge (G1 k).1 d with h4|h4
     ·exact .inl h4
     ·exact .inr ⟨O',O'⟩
    ·rcases R.all d Q h2 f h1 h3 with h|⟨h,_⟩
     ·exact .inl h
     ·exact .inr ⟨h,O'⟩
end
section
variable {F:Nat}{l:List C0}{t:Tm}{w:List Int}
def H0G {Can:List (List Bool)}(k:w.length<=64)(g:W ((l.length:Int)-1)=(t.top 0:Int))(c:∀i j,i<=j->j<=w.length->a7 F ⟨(w.length:Int),Can⟩ (t.top 0:Int) (i:Int) (j:Int)=some (den w t i j)){i:Nat}:
  ∀(d:Nat),i+d<=w.length+1->(∀j,i<=j->j<i+d->den w t i j=false)->∀fu,d<fu->iter (d02 F l ⟨(w.length:Int),Can⟩ (i:Int)) fu ((i:Int)+(d:Int)-1)=some (.inr ())
 |0,_,_,fu,hfu=>by
  obtain⟨fu,rfl⟩:∃m,fu=m+1:=⟨fu-1,O'⟩
  refine a0o ?_;unfold d02;have h1:¬((i:Int)+((0:Nat):Int)-1>=(i:Int)):=O'
  simp only[q0,h1]
 |d+1,hd,hno,fu,hfu=>by
  obtain⟨fu,rfl⟩:∃m,fu=m+1:=⟨fu-1,O'⟩
  have e:(i:Int)+((d+1:Nat):Int)-1=((i+d:Nat):Int):=O'
  rw[e];have h:d02 F l ⟨(w.length:Int),Can⟩ (i:Int) ((i+d:Nat):Int)=some (.next ((i:Int)+(d:Int)-1)):=by
   unfold d02;have h1:((i+d:Nat):Int)>=(i:Int):=O'
   have f:W (((i+d:Nat):Int)-1)=(i:Int)+(d:Int)-1:=by rw[n3 O' O'];omega
   simp only[q0,h1,g,c i (i+d) O' O',hno (i+d) O' O',f]
  rw[e0m h];exact H0G k g c d O' (fun j h1 f=>hno j h1 O') fu O'
def H0R {Can:List (List Bool)}(x:w.length<=64)(q:W ((l.length:Int)-1)=(t.top 0:Int))(g:∀i j,i<=j->j<=w.length->a7 F ⟨(w.length:Int),Can⟩ (t.top 0:Int) (i:Int) (j:Int)=some (den w t i j)){i c:Nat}{es:List Z1}{sp:List G1}
  (hg:I7 F F l ⟨(w.length:Int),Can⟩ (t.top 0:Int) 1 (i:Int) (c:Int)=some es) (k:i0k F l es=some sp) (h:i<=c) (f:den w t i c=true):
  ∀(d:Nat),i+d<=w.length+1->c<i+d->(∀j,c<j->j<i+d->den w t i j=false)->∀fu,d<fu->iter (d02 F l ⟨(w.length:Int),Can⟩ (i:Int)) fu ((i:Int)+(d:Int)-1)=some (.inl (sp,0))
 |0,_,v,_,fu,p=>O'
 |d+1,hd,v,hno,fu,p=>by
  obtain⟨fu,rfl⟩:∃m,fu=m+1:=⟨fu-1,O'⟩
  have e:(i:Int)+((d+1:Nat):Int)-1=((i+d:Nat):Int):=O'
  rw[e];have h1:((i+d:Nat):Int)>=(i:Int):=O'
  by_cases c1:c=i+d
  ·refine a0o ?_;rw[<-c1];unfold d02;have o:(c:Int)>=(i:Int):=O'
   simp only[q0,o,q,g i c h O',f,hg,k]
  ·have u:d02 F l ⟨(w.length:Int),Can⟩ (i:Int) ((i+d:Nat):Int)=some (.next ((i:Int)+(d:Int)-1)):=by
    unfold d02;have r:W (((i+d:Nat):Int)-1)=(i:Int)+(d:Int)-1:=by rw[n3 O' O'];omega
    simp only[q0,h1,q,g i (i+d) O' O',hno (i+d) O' O',r]
   rw[e0m u];exact H0R x q g hg k h f d O' O' (fun j h1 r=>hno j h1 O') fu O'
def I0n (c:O2 l t)(hw:∀x∈l,o3 x)(h:∀x∈w,Z5 .u8 x)(f:w.length<=64)(o:2000<F):∃Can,i0J F l w=some ⟨(w.length:Int),Can⟩/\W ((l.length:Int)-1)=(t.top 0:Int)/\(∀i j,i<=j->j<=w.length->a7 F ⟨(w.length:Int),Can⟩ (t.top 0:Int) (i:Int) (j:Int)=some (den w t i j))/\
  ∀i j,den w t i j=true->j<=w.length->I7 F F l ⟨(w.length:Int),Can⟩ (t.top 0:Int) 1 (i:Int) (j:Int)=some (M3 w t 0 1 i j):=by
 have g:=c.le;have k:=c.len;have hp:=t.size_pos;obtain⟨Can,c1,c2,c3⟩:=w0G (F:=F) c hw h f o;exact⟨Can,c1,by rw[n3 O' O'];unfold Old.Tm.top;omega,fun i j h1 d=>b0S (c3 0 t c.at0) (by rw[c2];unfold Old.Tm.top;omega) f h1 d,
  fun i j h1 d=>E0G (F:=F) (l:=l) f O' c2 c3 t 0 F 1 i j c.at0 O' O' O' h1 d⟩
def K0a (hR:K1 l=true)(p:B6 F l=some true)(y:O2 l t)(hw:∀x∈l,o3 x)(v:∀x∈w,Z5 .u8 x)(r:w.length<=64)(I:2000<F)(f:∀i P,Fit w t i P->i+P.wid<=w.length->False):d0X F l w=some ([],7):=by
 obtain⟨Can,c1,C,g,_⟩:=I0n (F:=F) y hw v r I;have hd:∀i j,j<=w.length->den w t i j=false:=fun i j h=>by
  cases c:den w t i j with
  |false=>rfl
  |true=>obtain⟨P,p1,J⟩:=f0Q c;exact(f i P p1 O').elim
 have d:¬(w.length:Int)>64:=O'
 unfold d0X j0e;simp only[q0,p,d,bne_self_eq_false,c1];have:=R4 (step:=d0S F l w ⟨(w.length:Int),Can⟩) (fun k=>(k:Int)) (.inr ()) (w.length+1) (fun k hk=>.inl ?_) ?_ (w.length+1) 0 F O' O'
 ·have q:iter (d0S F l w ⟨(w.length:Int),Can⟩) F 0=_:=this;rw[q];rfl
 ·unfold d0S;have o:(k:Int)<=(w.length:Int):=O'
  have u:=H0G r C g (i:=k) (w.length+1-k) O' (fun j h1 q=>hd k j O') F O';rw[show(k:Int)+((w.length+1-k:Nat):Int)-1=(w.length:Int) from O']at u;simp only[q0,o,u,G3 (i:=k) O']
 ·unfold d0S;have o:¬(((w.length+1:Nat):Int)<=(w.length:Int)):=O'
  simp only[q0,o]
def J0R (hR:K1 l=true)(v:B6 F l=some true)(J:O2 l t)(hw:∀x∈l,o3 x)(hl:l.length*64<=140737488351232)(hb:∀x∈w,Z5 .u8 x)(C:w.length<=64)(hf:1000000000<F)(R:l.length+1<F){tags:List Int}{i c:Nat}{P:Pt}(Fn:H0U w l t w.length tags i c P):d0X F l w=some (a0x tags (c:Int),0):=by
 obtain⟨Can,c1,hW,p,a1⟩:=I0n (F:=F) J hw hb C O';have g:=Fn.wid;have I:=Fn.le;have f:den w t i c=true:=by rw[<-g];exact Fn.fit.den
 have q:∀o j,j<=w.length->(o<i\/(o=i/\c<j))->den w t o j=false:=fun o j h h'=>by
  cases d:den w t o j with
  |false=>rfl
  |true=>
   obtain⟨Q,q1,q2⟩:=f0Q d;rcases Fn.all o Q q1 O' with h3|⟨h3,h4⟩<;>omega
 have hg:=a1 i c f I;have r:=C0c t 0 1 i P Fn.fit Fn.mn;rw[g]at r;rw[r]at hg;have b1:=z0y J C Fn.fit;have hs:=z0A (F:=F) hR J hl O' R v Fn.fit O' O';rw[g,<-Fn.tag]at hs;have u:¬(w.length:Int)>64:=O'
 unfold d0X j0e;simp only[q0,v,u,bne_self_eq_false,c1];have hi:i<=w.length:=O'
 have:=R4 (step:=d0S F l w ⟨(w.length:Int),Can⟩) (fun k=>(k:Int)) (.inl (a0x tags (c:Int),0)) i (fun k hk=>.inl ?_) ?_ i 0 F O' O'
 ·have U:iter (d0S F l w ⟨(w.length:Int),Can⟩) F 0=_:=this;rw[U];rfl
 ·unfold d0S;have k1:(k:Int)<=(w.length:Int):=O'
  have y:=H0G C hW p (i:=k) (w.length+1-k) O' (fun j h1 U=>q k j O' (.inl hk)) F O';rw[show(k:Int)+((w.length+1-k:Nat):Int)-1=(w.length:Int) from O']at y;simp only[q0,k1,y,G3 (i:=k) O']
 ·unfold d0S;have k1:(i:Int)<=(w.length:Int):=O'
  have y:=H0R C hW p hg hs O' f (w.length+1-i) O' O' (fun j h1 U=>q i j O' (.inr ⟨rfl,h1⟩)) F O';rw[show(i:Int)+((w.length+1-i:Nat):Int)-1=(w.length:Int) from O']at y;simp only[q0,k1,y]
end
section
variable {F:Nat}{l:List C0}{n:Nat}{a:List y0}{b:Nat->List y0}{e:Nat->y0×Bool}{z:y0×Bool}{t:Tm}{w:List Int}
def a0z (l:List C0)(n:Nat)(a:List y0)(b:Nat->List y0)(e:Nat->y0×Bool)(z:y0×Bool)(w:List Int):Nat->Hs
 |0=>Hs.zero l z
 |m+1=>(a0z l n a b e z w m).feed l n a b e (gt w (m:Int))
def H05 (K:H5 l n a b e z F)(hw:∀x∈l,o3 x)(f:O2 l t)(d:∀m,m<=w.length->(a0z l n a b e z w m).c.at_=m):∀m,m<=w.length->HsI w l n t m (a0z l n a b e z w m)
 |0,_=>K0r K hw f w
 |m+1,h=>L0T K hw f (H05 K hw f d m O') (d m O') O'
def J0d (K:H5 l n a b e z F)(hw:∀x∈l,o3 x)(g:O2 l t)(hl:l.length*64<=140737488351232)(f:∀x∈w,Z5 .u8 x)(j:w.length<=64){h:Hs}(H:HsI w l n t w.length h):d0X F l w=some (if h.found.2 then(h.found.1,0)else([],7)):=by
 have f1:=K.f1;have f3:=K.f3;unfold Hs.found;cases c:h.is with
 |false=>
  obtain⟨_,_,d⟩:=H.no c;exact K0a K.hR K.TF.rR g hw f j O' d
 |true=>
  obtain⟨i,cc,P,h1,Fn,_⟩:=H.yes c;rw[h1];exact J0R K.hR K.TF.rR g hw hl f j O' K.f2 Fn
end
