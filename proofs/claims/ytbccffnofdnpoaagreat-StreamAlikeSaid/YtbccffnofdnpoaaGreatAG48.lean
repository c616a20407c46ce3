/- P. Its conditions: none. -/
import Derived.Test.YtbccffnofdnpoaaGreatAG47
import Derived.Test.YtbccffnofdnpoaaGreatAG46
import Derived.Test.YtbccffnofdnpoaaGreatAMd
open List (length_map mem_map take_length take_succ prefix_refl map_append map_cons map_nil)
open Bool (false_eq_true)
set_option linter.all false
namespace Go.Proofs.YtbccffnofdnpoaaGreat
open Go.V Go.RowKit Old Go.X
open Classical
section
variable {F:Nat}{l:List D0}{n:Nat}{a:List B0}{b:Nat->List B0}{e:Nat->B0×Bool}{z:B0×Bool}{mode:Int}
def K1 (F:Nat)(l:List D0)(mode:Int)(least:List Int)(k:Y1)(c:Nat):Option (Y1×List Int):=match e0i F l mode k (gt least (c:Int))with
 |some (x,s)=>if(x.Places.length:Int)==0&&x.Flag==0 then none else some (x,s)
 |none=>none
def V5 (F:Nat)(k:Y1):Int:=(d0s F k).getD 0
def V6 (F:Nat)(l:List D0)(k:Y1):List Int:=(d0J F l k).getD []
def PM (F:Nat)(l:List D0)(n:Nat)(k:Y1):Prop:=∃kd R,k=kd.K/\KOk F l n kd R
def m05 (K:Y2 l n a b e z F)(hw:∀x∈l,V2 x)(hm:mode=0\/mode=1):f0n F l mode=some ((Kd.zero z mode).K,0)/\PM F l n (Kd.zero z mode).K/\V5 F (Kd.zero z mode).K=0:=by
 obtain⟨h1,c⟩:=v0o K hw hm;exact⟨h1,⟨_,0,rfl,c⟩,by unfold V5;rw[c.rg];rfl⟩
def j0N (K:Y2 l n a b e z F)(hw:∀x∈l,V2 x)(hm:mode=0\/mode=1){least:List Int}(g:∀x∈least,J4 .u8 x){k:Y1}(h:PM F l n k){c:Nat}(i:c<least.length):
  ∃x s,e0i F l mode k (gt least (c:Int))=some (x,s)/\PM F l n x/\(s.length:Int)=V5 F x/\∀v∈s,v=-1\/(0<=v/\v<V5 F k):=by
 obtain⟨kd,R,rfl,hk⟩:=h;obtain⟨h1,d,f⟩:=w0x K hw hk hm (g _ (P4 i));refine⟨_,_,h1,⟨_,_,rfl,d⟩,?_,fun v j=>?_⟩
 ·unfold V5;rw[d.rg];rfl
 ·unfold V5;rw[hk.rg];exact f v j
def f05 (K:Y2 l n a b e z F){k:Y1}(h:PM F l n k):d0s F k=some (V5 F k)/\0<=V5 F k/\V5 F k<=n*19:=by
 obtain⟨kd,R,rfl,hk⟩:=h;have:=hk.le;unfold V5;rw[hk.rg];refine⟨rfl,?_,?_⟩
 ·show(0:Int)<=(R:Int);omega
 ·show(R:Int)<=_;omega
def m0D (K:Y2 l n a b e z F){k:Y1}(h:PM F l n k):d0J F l k=some (V6 F l k)/\(((V6 F l k).length:Int)=0\/(((V6 F l k).length:Int)=Z2 l/\∀v∈V6 F l k,v=-2\/v=-1\/(0<=v/\v<V5 F k))):=by
 obtain⟨kd,R,rfl,hk⟩:=h;have f:=k7 l;obtain⟨h1,c,d⟩:=z0T K hk;unfold V6 V5;rw[h1,hk.rg];refine⟨rfl,?_⟩;rcases c with c|c
 ·exact .inl (by show((L7 l e z kd).length:Int)=0;omega)
 ·exact .inr ⟨by show((L7 l e z kd).length:Int)=Z2 l;omega,d⟩
def O0A (K:Y2 l n a b e z F){k:Y1}(h:PM F l n k):k.Places.length<=n/\k.Maps.length=k.Places.length/\(∀r∈k.Maps,r.length<=19)/\∃fB fD,k.Rank=R2 k.Places.length fB fD:=by
 obtain⟨kd,R,rfl,hk⟩:=h;have hl:=hk.C.le;have d:=k7 l;refine⟨?_,?_,fun r c=>?_,kd.fB,kd.fD,?_⟩
 ·show(Q0 kd.pl).length<=n;rw[c0Q];exact hl
 ·show kd.maps.length=(Q0 kd.pl).length;rw[c0Q];exact hk.C.len
 ·have:=hk.C.row r c;omega
 ·show R2 kd.pl.length kd.fB kd.fD=R2 (Q0 kd.pl).length kd.fB kd.fD;rw[c0Q]
noncomputable def a0l (F:Nat)(l:List D0)(mode:Int)(cls:List Int)(k0:Y1)(B:Nat):E4×Int:=
 if h:∃m,J6 (K1 F l mode (O0 cls)) (O0 cls).length k0 B m then(b0k (V5 F) (V6 F l) (K1 F l mode (O0 cls)) (O0 cls).length (Z2 l) cls (runK (K1 F l mode (O0 cls)) (O0 cls).length k0 (Classical.choose h)),0)
 else(⟨0,[],[]⟩,14)
def h03 {cls:List Int}{c:Y1}{B m:Nat}(h:J6 (K1 F l mode (O0 cls)) (O0 cls).length c B m):a0l F l mode cls c B=(b0k (V5 F) (V6 F l) (K1 F l mode (O0 cls)) (O0 cls).length (Z2 l) cls (runK (K1 F l mode (O0 cls)) (O0 cls).length c m),0):=by
 have d:∃m,J6 (K1 F l mode (O0 cls)) (O0 cls).length c B m:=⟨m,h⟩
 unfold a0l;rw[dif_pos d,J6.uniq _ _ _ (Classical.choose_spec d) h]
def q0v {cls:List Int}{c:Y1}{B i:Nat}(h:j0H (K1 F l mode (O0 cls)) (O0 cls).length c B i):a0l F l mode cls c B=(⟨0,[],[]⟩,14):=by
 unfold a0l;rw[dif_neg]
 rintro⟨m,hm⟩
 have h1:=J6.less _ _ _ hm h;have d:=J6.le _ _ _ hm;omega
def B0w (K:Y2 l n a b e z F)(hw:∀x∈l,V2 x)(hm:mode=0\/mode=1)(hn:n<=64){key:Nat->List Bool}{B m:Nat}(U:B<=400)(h:J6 (K1 F l mode (O0 (D3 key 256).2)) (O0 (D3 key 256).2).length (Kd.zero z mode).K B m):
  d0j (a0l F l mode (D3 key 256).2 (Kd.zero z mode).K B).1=true/\(∀q,q<m->i06 (a0l F l mode (D3 key 256).2 (Kd.zero z mode).K B).1 q)/\(a0l F l mode (D3 key 256).2 (Kd.zero z mode).K B).1.States.length=m:=by
 have g:=k7 l;obtain⟨_,p,z2⟩:=m05 (z:=z) K hw hm;have v:=i0M (D3 key 256).2 0 [] (fun x d=>by cases d);obtain⟨ok,J⟩:=p0w (R:=V5 F) (acc:=V6 F l) (tags:=Z2 l) h (PM F l n) p (fun k hk c y x s d=>by
   obtain⟨x',C,f,o,u,r⟩:=j0N (mode:=mode) K hw hm (least:=O0 (D3 key 256).2) v hk y;unfold K1 at d;rw[f]at d;simp only at d;split at d
   ·cases d
   ·cases d;exact⟨o,u,r⟩)
  (fun k hk=>by
   obtain⟨_,f,o⟩:=f05 K hk;exact⟨f,O'⟩)
  (fun k hk=>(m0D K hk).2)
 rw[h03 h];have hlen:=h.1;have hle:=J6.le _ _ _ h;have hp:=E0F (K1 F l mode (O0 (D3 key 256).2)) (O0 (D3 key 256).2).length (Kd.zero z mode).K m;refine⟨F0G ok g.1 g.2 ?_ (x0x key) rfl (List.length_pos_iff.1 hp) O' ?_,fun q hq=>N0X h q hq,?_⟩
 ·have I:=q0g l;unfold Z2 at g ⊢;rw[Int.tmod_eq_emod_of_nonneg O'];omega
 ·have:=j0o (K1 F l mode (O0 (D3 key 256).2)) (O0 (D3 key 256).2).length (Kd.zero z mode).K (i:=0) (j:=m) (q:=0) (Nat.zero_le _) (by simp[runK]);rw[this];exact z2
 ·show(List.map _ _).length=m;rw[length_map];exact hlen.symm
end
section
variable {F:Nat}{l:List D0}{n:Nat}{a:List B0}{b:Nat->List B0}{e:Nat->B0×Bool}{z:B0×Bool}{mode:Int}
end
def N0f (t:Tm):2*t.leaves<=t.size+1:=by induction t<;>simp[Tm.leaves,Tm.size]<;>omega
section
variable {F:Nat}{l:List D0}{n:Nat}{a:List B0}{b:Nat->List B0}{e:Nat->B0×Bool}{z:B0×Bool}{mode:Int}{w:List Int}{t:Tm}
def C0n (c:K5 l t):Z0 l l.length=t.leaves:=by
 have h:=b0K c.at0;rw[Nat.zero_add,<-c.len]at h;rw[h];simp[Z0]
def K0h (c:K5 l t):2*Z0 l l.length<=l.length+1:=by
 have:=N0f t;rw[C0n c,c.len];exact this
def O01 (K:Y2 l n a b e z F)(hw:∀x∈l,V2 x)(hm:mode=0\/mode=1)(hn:n<=20){cls:List Int}(f1:cls.length=256)(f3:(O0 cls).length<=256){B:Nat}(J:B<=100):Sm (a0l F l mode cls (Kd.zero z mode).K B).1:=by
 rcases r0f (K1 F l mode (O0 cls)) (O0 cls).length (Kd.zero z mode).K B with⟨m,m1,h⟩|⟨i,i1,h⟩
 ·obtain⟨_,o,z2⟩:=m05 (z:=z) K hw hm;have v:=i0M cls 0 [] (fun x d=>(by cases d));have I:=k7 l;obtain⟨ok,j⟩:=p0w (R:=V5 F) (acc:=V6 F l) (tags:=Z2 l) h (PM F l n) o (fun k hk c y x s d=>by
    obtain⟨U,C,f,g,u,r⟩:=j0N (mode:=mode) K hw hm (least:=O0 cls) v hk y;unfold K1 at d;rw[f]at d;simp only at d;split at d
    ·cases d
    ·cases d;exact⟨g,u,r⟩)
   (fun k hk=>by
    obtain⟨_,f,g⟩:=f05 K hk;exact⟨f,O'⟩)
   (fun k hk=>(m0D K hk).2)
  rw[h03 h];have hlen:=h.1;refine⟨?_,?_,?_,?_,?_,?_⟩
  ·show(List.map _ _).length<=100;rw[length_map];omega
  ·show cls.length<=300;omega
  ·intro s hs;obtain⟨k,hk,rfl⟩:=mem_map.1 hs;show(V6 F l k).length<=40;rcases ok.ac k hk with q|⟨q,_⟩<;>omega
  ·intro s hs;obtain⟨k,hk,rfl⟩:=mem_map.1 hs;show((List.range _).map _).length<=300;rw[length_map,List.length_range];omega
  ·intro s hs;obtain⟨k,hk,rfl⟩:=mem_map.1 hs;show V5 F k<=400;have:=(f05 K (j m k hk)).2.2;omega
  ·intro s hs x d;obtain⟨k,hk,rfl⟩:=mem_map.1 hs;obtain⟨c,c1,rfl⟩:=mem_map.1 d;unfold W7;cases q:K1 F l mode (O0 cls) k c with
   |none=>simp
   |some p=>
    obtain⟨x,s⟩:=p;obtain⟨f,g,_⟩:=ok.nx k hk c (List.mem_range.1 c1) x s q;have:=(f05 K (j m x f)).2.2;show s.length<=400;omega
 ·rw[q0v h];exact⟨V',V',fun s hs=>(by cases hs),fun s hs=>(by cases hs),fun s hs=>(by cases hs),fun s hs=>(by cases hs)⟩
def J0C (K:Y2 l n a b e z F)(hw:∀x∈l,V2 x)(hm:mode=0\/mode=1)(hn:n<=20)(key:Nat->List Bool){B:Nat}(c:B<=100):Sm (a0l F l mode (D3 key 256).2 (Kd.zero z mode).K B).1:=by
 obtain⟨f1,f2,f3,f4⟩:=f0j key 256;exact O01 K hw hm hn f1 (Nat.le_trans (Nat.le_of_eq f3) f4) c
end
end Go.Proofs.YtbccffnofdnpoaaGreat
namespace Go.Proofs.YtbccffnofdnpoaaGreat
open Go.V Go.RowKit Old Go.X
def a0L (l:List D0):List (List Int):=(l.filter fun x=>x.Kind==2).map fun x=>x.Set
def K7 (l:List D0)(b:Nat):List Bool:=(a0L l).map fun s=>hasB s (b:Int)
def A0y {l:List D0}{n:Nat}(hn:n=Z0 l l.length){x y:Nat}(h:K7 l x=K7 l y):∀r,r<n->X1 l (x:Int) r=X1 l (y:Int) r:=by
 intro r g;obtain⟨q,f,d,c,_⟩:=b0N l l.length r O';have e:gt (C3 l l.length) (r:Int)=(q:Int):=P2 d;show hasB (gt l (gt (C3 l l.length) (r:Int))).Set (x:Int)=hasB (gt l (gt (C3 l l.length) (r:Int))).Set (y:Int);rw[e];unfold K7 at h;refine(List.map_inj_left.1 h) _ ?_;unfold a0L;exact mem_map.2 ⟨gt l (q:Int),List.mem_filter.2 ⟨P4 f,by simpa using c⟩,rfl⟩
end Go.Proofs.YtbccffnofdnpoaaGreat
namespace Go.Proofs.YtbccffnofdnpoaaGreat
open Go.V Go.RowKit Old Go.X
open Classical
def n0Q {α ρ:Type}[Inhabited α]{a b:List α}(hl:a.length=b.length){good bad:ρ}{body:Int->Option (X0 Int ρ)}
  (hs:∀i:Nat,i<a.length->body (i:Int)=some (if gt a (i:Int)=gt b (i:Int)then .next ((i+1:Nat):Int)else .done bad)) (he:body (a.length:Int)=some (.done good)) {fu:Nat} (h:a.length<fu):
  iter body fu 0=some (if a=b then good else bad):=by
 have key:∀k i fu:Nat,i+k=a.length->k<fu->a.take i=b.take i->iter body fu (i:Int)=some (if a=b then good else bad):=by
  intro k
  induction k with
  |zero=>
   intro i fu hi f c;obtain⟨fu,rfl⟩:∃m,fu=m+1:=⟨fu-1,O'⟩
   obtain rfl:i=a.length:=O'
   have d:a=b:=by
    rw[take_length]at c;rw[hl,take_length]at c;exact c
   rw[if_pos d];unfold iter;rw[he]
  |succ k ih=>
   intro i fu hi f c;obtain⟨fu,rfl⟩:∃m,fu=m+1:=⟨fu-1,O'⟩
   have hs:=hs i O'
   by_cases q:gt a (i:Int)=gt b (i:Int)
   ·rw[if_pos q]at hs;rw[<-ih (i+1) fu O' O' (by rw[take_succ,take_succ,c,X4 (show i<a.length from O'),X4 (show i<b.length from O'),q])];exact g0F hs
   ·rw[if_neg q]at hs;have:¬a=b:=fun h=>q (by rw[h]);rw[if_neg this];unfold iter;rw[hs]
 exact key a.length 0 fu O' h rfl
section
variable {F:Nat}
def o0m (a b:List Int)(hl:a.length<=1000000)(d:2000001<F):e0I F a b=some (decide (a=b)):=by
 unfold e0I
 by_cases h:a.length=b.length
 ·have e:((a.length:Int) != (b.length:Int))=false:=by simp[h]
  rw[n0Q h (good:=.inr ()) (bad:=.inl ()) (fun i hi=>by
   unfold o0T;have h1:(i:Int)<(a.length:Int):=O'
   simp only[h1,decide_true,if_true,R0 (l:=a) (i:=(i:Int)) O' h1,R0 (l:=b) (i:=(i:Int)) O' O']
   by_cases g:gt a (i:Int)=gt b (i:Int)
   ·simp[g,K2 (i:=i) O']
   ·simp[g]) (by unfold o0T;simp) (show a.length<F from O')]
  by_cases g:a=b
  ·simp[e,g]
  ·simp[e,g]
 ·have e:((a.length:Int) != (b.length:Int))=true:=by simp;omega
  have g:¬a=b:=fun c=>h (by rw[c]);simp[e,g]
def D0I (x y:J2)(h1:x.B.length<=1000)(q:x.D.length<=1000)(k:∀r∈x.B,r.length<=1000)(o:∀r∈x.D,r.length<=1000)(j:2000001<F):m0m F x y=some (decide (x=y)):=by
 unfold m0m
 by_cases h:x.B.length=y.B.length
 ·have e:((x.B.length:Int) != (y.B.length:Int))=false:=by simp[h]
  rw[n0Q h (good:=.inr ()) (bad:=.inl ()) (fun i hi=>by
   unfold r0b;have h1:(i:Int)<(x.B.length:Int):=O'
   have:=k _ (P4 (l:=x.B) (i:=i) hi);simp only[q0,h1,R0 (l:=x.B) (i:=(i:Int)) O' h1,R0 (l:=y.B) (i:=(i:Int)) O' O',o0m (F:=F) (gt x.B (i:Int)) (gt y.B (i:Int)) O' j]
   by_cases g:gt x.B (i:Int)=gt y.B (i:Int)
   ·simp[g,K2 (i:=i) O']
   ·simp[g]) (by unfold r0b;simp) (show x.B.length<F from O')]
  by_cases g:x.B=y.B
  ·by_cases f:x.D.length=y.D.length
   ·have e':((x.D.length:Int) != (y.D.length:Int))=false:=by simp[f]
    rw[n0Q f (good:=.inr ()) (bad:=.inl ()) (fun i hi=>by
     unfold p0K;have h1:(i:Int)<(x.D.length:Int):=O'
     have:=o _ (P4 (l:=x.D) (i:=i) hi);simp only[q0,h1,R0 (l:=x.D) (i:=(i:Int)) O' h1,R0 (l:=y.D) (i:=(i:Int)) O' O',o0m (F:=F) (gt x.D (i:Int)) (gt y.D (i:Int)) O' j]
     by_cases g:gt x.D (i:Int)=gt y.D (i:Int)
     ·simp[g,K2 (i:=i) O']
     ·simp[g]) (by unfold p0K;simp) (show x.D.length<F from O')]
    obtain⟨s,p⟩:=x;obtain⟨u,m⟩:=y;simp only at g e e' ⊢;subst g
    by_cases c:p=m
    ·simp[e,e',c]
    ·simp[e,e',c]
   ·have e':((x.D.length:Int) != (y.D.length:Int))=true:=by simp;omega
    have c:¬x=y:=fun d=>f (by rw[d]);simp[e,g,e',c]
  ·have c:¬x=y:=fun d=>g (by rw[d]);simp[e,g,c]
 ·have e:((x.B.length:Int) != (y.B.length:Int))=true:=by simp;omega
  have g:¬x=y:=fun d=>h (by rw[d]);simp[e,g]
def M0F (a b:Y1)(C:a.Places.length<=1000)(hm:a.Maps.length<=1000)(o:∀r∈a.Maps,r.length<=1000)(h1:a.Rank.B.length<=1000)(y:a.Rank.D.length<=1000)(p:∀r∈a.Rank.B,r.length<=1000)(u:∀r∈a.Rank.D,r.length<=1000)(f:2000001<F):i0Z F a b=some (decide (a=b)):=by
 unfold i0Z;have j:r0H F=some ():=rfl;rw[j,o0m _ _ O' f,D0I _ _ h1 y p u f];obtain⟨k,v,c,x⟩:=a;obtain⟨m,q,d,s⟩:=b;simp only at hm o ⊢
 by_cases c1:k=m
 ·subst c1
  by_cases c2:v=q
  ·subst c2
   by_cases h:c.length=d.length
   ·have e:((c.length:Int) != (d.length:Int))=false:=by simp[h]
    rw[n0Q h (good:=.inr ()) (bad:=.inl ()) (fun i hi=>by
     unfold p0Q;have h1:(i:Int)<(c.length:Int):=O'
     have:=o _ (P4 (l:=c) (i:=i) hi);simp only[q0,h1,R0 (l:=c) (i:=(i:Int)) O' h1,R0 (l:=d) (i:=(i:Int)) O' O',o0m (F:=F) (gt c (i:Int)) (gt d (i:Int)) O' f]
     by_cases g:gt c (i:Int)=gt d (i:Int)
     ·simp[g,K2 (i:=i) O']
     ·simp[g]) (by unfold p0Q;simp) (show c.length<F from O')]
    by_cases c3:c=d
    ·subst c3
     by_cases c4:x=s
     ·simp[e,c4]
     ·simp[e,c4]
    ·simp[e,c3]
   ·have e:((c.length:Int) != (d.length:Int))=true:=by simp;omega
    have c3:¬c=d:=fun j=>h (by rw[j]);simp[e,c3]
  ·simp[c2]
 ·have:(k==m)=false:=by simpa using c1
  simp[this,c1]
end
section
variable {F:Nat}{l:List D0}{n:Nat}{a:List B0}{b:Nat->List B0}{e:Nat->B0×Bool}{z:B0×Bool}{mode:Int}
def O0r (K:Y2 l n a b e z F){x:Y1}(h:PM F l n x)(y:Y1):i0Z F x y=some (decide (x=y)):=by
 have f1:=K.f1;have hn:=K.T.n64;obtain⟨h1,g,f,fB,fD,d⟩:=O0A K h;refine M0F x y O' O' (fun r c=>by have:=f r c;omega) ?_ ?_ ?_ ?_ O'
 ·rw[d];simp[R2,N2];omega
 ·rw[d];simp[R2,N2];omega
 ·rw[d];intro r c;simp[R2,N2]at c;obtain⟨i,_,rfl⟩:=c;simp;omega
 ·rw[d];intro r c;simp[R2,N2]at c;obtain⟨i,_,rfl⟩:=c;simp;omega
end
def z06 {K S:Type}[Inhabited K](nxt:K->Nat->Option (K×S))(k:K)(all:List K):∀c,(n5 nxt k all c).length<=all.length+c
 |0=>Nat.le_refl _
 |c+1=>by
  have d:=z06 nxt k all c;unfold n5;split
  ·omega
  ·unfold Z7;split
   ·omega
   ·simp only[List.length_append,List.length_cons,List.length_nil];omega
def A08 {K S:Type}[Inhabited K](nxt:K->Nat->Option (K×S))(k:K)(all:List K){c d:Nat}(h:c<=d):n5 nxt k all c <+: n5 nxt k all d:=by
 induction d with
 |zero=>
      obtain rfl:c=0:=O'
      exact prefix_refl _
 |succ d ih=>
  rcases Nat.lt_or_ge d c with q|q
  ·obtain rfl:c=d+1:=O'
   exact prefix_refl _
  ·refine(ih q).trans ?_;rw[show n5 nxt k all (d+1)=(match nxt k d with|none=>n5 nxt k all d|some (x,_)=>Z7 (n5 nxt k all d) x)from rfl];split
   ·exact prefix_refl _
   ·exact q0n _ _
def z0a {K:Type}[Inhabited K]{nxt:K->Nat->Option (K×List Int)}{k:K}{c:Nat}{L M:List K}(h:L <+: M)(d:∀x s,nxt k c=some (x,s)->x∈L):W7 nxt M k c=W7 nxt L k c:=by
 unfold W7;cases q:nxt k c with
 |none=>rfl
 |some p=>
  obtain⟨x,s⟩:=p;simp only;rw[s0t (d x s q) h]
section
variable {F:Nat}{l:List D0}{n:Nat}{a:List B0}{b:Nat->List B0}{e:Nat->B0×Bool}{z:B0×Bool}{mode:Int}
def L0W (K:Y2 l n a b e z F){x:Y1}(h:PM F l n x){all:List Y1}(hl:all.length<=100000):iter (g0s F all x) F 0=some (if x∈all then .inl ((l5 all x:Nat):Int)else .inr ()):=by
 have f1:=K.f1;have key:∀k i fu:Nat,i+k=all.length->k<fu->(∀j,j<i->all[j]?≠some x)->iter (g0s F all x) fu (i:Int)=some (if x∈all then .inl ((l5 all x:Nat):Int)else .inr ()):=by
  intro k
  induction k with
  |zero=>
   intro i fu hi s o;obtain⟨fu,rfl⟩:∃m,fu=m+1:=⟨fu-1,O'⟩
   obtain rfl:i=all.length:=O'
   have hn:¬x∈all:=fun u=>by
    obtain⟨j,g⟩:=List.getElem?_of_mem u;exact o j (List.getElem?_eq_some_iff.1 g).1 g
   rw[if_neg hn];unfold iter g0s;simp
  |succ k ih=>
   intro i fu hi s o;obtain⟨fu,rfl⟩:∃m,fu=m+1:=⟨fu-1,O'⟩
   have d:i<all.length:=O'
   have h1:(i:Int)<(all.length:Int):=O'
   have hs:=O0r K h (gt all (i:Int));have f:all[i]?=some (gt all (i:Int)):=X4 d
   by_cases q:x=gt all (i:Int)
   ·have hm:x∈all:=by rw[q];exact P4 d
    have hp:l5 all x=i:=by
     have p1:=i0P hm;have I:=g0i hm;rcases Nat.lt_trichotomy (l5 all x) i with c|c|c
     ·exact absurd I (o _ c)
     ·exact c
     ·exfalso;have C:decide (all[i]=x)=false:=List.not_of_lt_findIdx (p:=fun y=>decide (y=x)) c;rw[List.getElem?_eq_getElem d]at f;exact of_decide_eq_false C ((Option.some.inj f).trans q.symm)
    rw[if_pos hm,hp];unfold iter g0s;simp only[q0,h1,R0 (l:=all) (i:=(i:Int)) O' h1,hs];rw[if_pos (by simpa using q)]
   ·rw[<-ih (i+1) fu O' O' (fun j g=>by
     by_cases r:j=i
     ·subst r;rw[f];exact fun v=>q (Option.some.inj v).symm
     ·exact o j O')]
    refine g0F ?_;unfold g0s;simp only[q0,h1,R0 (l:=all) (i:=(i:Int)) O' h1,hs];rw[if_neg (by simpa using q),K2 (i:=i) O']
 exact key all.length 0 F O' O' (fun j g=>absurd g (Nat.not_lt_zero j))
def M05 (K:Y2 l n a b e z F)(hw:∀x∈l,V2 x)(hm:mode=0\/mode=1){least:List Int}(j:∀x∈least,J4 .u8 x){k:Y1}(h:PM F l n k){c:Nat}(m:c<least.length){all:List Y1}(hl:all.length<=100000):
  l0c F (l,mode,least,all) k (c:Int)=some (W7 (K1 F l mode least) (match K1 F l mode least k c with|none=>all|some (x,_)=>Z7 all x) k c,(l,mode,least,match K1 F l mode least k c with|none=>all|some (x,_)=>Z7 all x)):=by
 obtain⟨x,s,h1,o,_⟩:=j0N (mode:=mode) K hw hm j h m;have hn:K1 F l mode least k c=if(x.Places.length:Int)==0&&x.Flag==0 then none else some (x,s):=by unfold K1;rw[h1]
 have f:(if(x.Places.length:Int)==0 then some (x.Flag==0)else some false)=some ((x.Places.length:Int)==0&&x.Flag==0):=by cases(x.Places.length:Int)==0<;>rfl
 unfold l0c;simp only[R0 (l:=least) (i:=(c:Int)) O' O',if_true,h1,F0,l9,f];unfold W7;rw[hn];cases q:((x.Places.length:Int)==0&&x.Flag==0)with
 |true=>simp
 |false=>
  simp only[q0,L0W K o hl]
  by_cases d:x∈all
  ·have hp:¬((l5 all x:Nat):Int)<0:=O'
   simp only[q0,d,hp];unfold Z7;rw[if_pos d]
  ·have ap:J0 104 all [x]=true:=W4 Z';have g:l5 (Z7 all x) x=all.length:=by
    unfold Z7;rw[if_neg d];unfold l5;rw[List.findIdx_append];have:List.findIdx (fun y=>decide (y=x)) all=all.length:=List.findIdx_eq_length.2 fun y p=>by
     simp only[decide_eq_false_iff_not];exact fun h=>d (h▸p)
    rw[this,if_neg (Nat.lt_irrefl _)];simp[List.findIdx_cons]
   simp only[q0,d,show((-1:Int)<0)=True from V',ap,g];unfold Z7;rw[if_neg d]
def L0m (K:Y2 l n a b e z F)(hw:∀x∈l,V2 x)(hm:mode=0\/mode=1){least:List Int}(j:∀x∈least,J4 .u8 x)(o:least.length<=256){k:Y1}(h:PM F l n k){all:List Y1}(hl:all.length<=1000):
  k0W F (l,mode,least,all) k=some (r8 (V5 F) (V6 F l) (K1 F l mode least) least.length (n5 (K1 F l mode least) k all least.length) k,(l,mode,least,n5 (K1 F l mode least) k all least.length)):=by
 have f1:=K.f1;have q:=(f05 K h).1;have f:=(m0D K h).1;have d:=V3 (step:=i00 F least k) (fun c=>((c:Int),(l,mode,least,n5 (K1 F l mode least) k all c),(V5 F k,V6 F l k,(List.range c).map (W7 (K1 F l mode least) (n5 (K1 F l mode least) k all least.length) k))))
  ((l,mode,least,n5 (K1 F l mode least) k all least.length),(V5 F k,V6 F l k,(List.range least.length).map (W7 (K1 F l mode least) (n5 (K1 F l mode least) k all least.length) k))) least.length (fun c m=>.inl ?_) ?_ least.length 0 F O' O'
 ·have d:iter (i00 F least k) F (0,(l,mode,least,all),(V5 F k,V6 F l k,[]))=_:=d;unfold k0W;simp only[q,f,F0,l9,d];rfl
 ·have p:=z06 (K1 F l mode least) k all c;have he:=M05 K hw hm j h m (all:=n5 (K1 F l mode least) k all c) O';have hg:(match K1 F l mode least k c with|none=>n5 (K1 F l mode least) k all c|some (x,_)=>Z7 (n5 (K1 F l mode least) k all c) x)=n5 (K1 F l mode least) k all (c+1):=by
   conv=>rhs;rw[n5]
   cases K1 F l mode least k c<;>rfl
  rw[hg]at he;have hp:W7 (K1 F l mode least) (n5 (K1 F l mode least) k all least.length) k c=W7 (K1 F l mode least) (n5 (K1 F l mode least) k all (c+1)) k c:=z0a (A08 _ _ _ (show c+1<=least.length from O')) (fun x s g=>o0Y _ k all (Nat.lt_succ_self c) g);have c1:(c:Int)<(least.length:Int):=O'
  have ap:J0 32 ((List.range c).map (W7 (K1 F l mode least) (n5 (K1 F l mode least) k all least.length) k)) [W7 (K1 F l mode least) (n5 (K1 F l mode least) k all (c+1)) k c]=true:=W4 Z';unfold i00;simp only[q0,c1,he,ap,K2 (i:=c) O'];rw[List.range_succ,map_append,map_cons,map_nil,hp]
 ·have c1:¬(least.length:Int)<(least.length:Int):=O'
  unfold i00;simp only[q0,c1]
end
section
variable {F:Nat}{l:List D0}{n:Nat}{a:List B0}{b:Nat->List B0}{e:Nat->B0×Bool}{z:B0×Bool}{mode:Int}
def L0E (K:Y2 l n a b e z F)(hw:∀x∈l,V2 x)(hm:mode=0\/mode=1){least:List Int}(g:∀x∈least,J4 .u8 x){k x:Y1}{s:List Int}{c:Nat}(h:PM F l n k)(i:c<least.length)(d:K1 F l mode least k c=some (x,s)):PM F l n x:=by
 obtain⟨m,o,j,f,_⟩:=j0N (mode:=mode) K hw hm g h i;unfold K1 at d;rw[j]at d;simp only at d;split at d
 ·cases d
 ·cases d;exact f
noncomputable def a0P (F:Nat)(l:List D0)(mode:Int)(least:List Int)(k0:Y1)(i:Nat):List j7:=
 (List.range i).map fun q=>r8 (V5 F) (V6 F l) (K1 F l mode least) least.length (runK (K1 F l mode least) least.length k0 (q+1)) ((runK (K1 F l mode least) least.length k0 q).getD q default)
def A0T {least:List Int}{d:Y1}{m B:Nat}(h:J6 (K1 F l mode least) least.length d B m):a0P F l mode least d m=(runK (K1 F l mode least) least.length d m).map (r8 (V5 F) (V6 F l) (K1 F l mode least) least.length (runK (K1 F l mode least) least.length d m)):=by
 have hm:=h.1;unfold a0P;refine List.ext_getElem Z' fun i k i2=>?_;have hi:i<m:=by simpa using k
 have hl:=(h.2 i hi).1;rw[List.getElem_map,List.getElem_range,List.getElem_map];have g:(runK (K1 F l mode least) least.length d i).getD i default=(runK (K1 F l mode least) least.length d m)[i]' O':=by
  rw[<-j0o _ _ _ (Nat.le_of_lt hi) hl];simp[List.getD,show i<(runK (K1 F l mode least) least.length d m).length from O']
 rw[<-g];unfold r8;congr 1;refine List.map_congr_left fun c j=>?_;exact(z0a (d06 _ _ _ (show i+1<=m from O')) (fun x s f=>v0i _ _ _ (Nat.lt_succ_self i) hl (List.mem_range.1 j) f)).symm
def I0I (K:Y2 l n a b e z F)(hw:∀x∈l,V2 x)(hm:mode=0\/mode=1){cls:List Int}{t2:Int}(J:i0T F l=some (cls,t2))(o:f0J F cls=some (O0 cls))(q:(O0 cls).length<=256)(v:∀x∈O0 cls,J4 .u8 x){B:Nat}(hB:B<=400):
  g0e F l mode (B:Int)=some (a0l F l mode cls (Kd.zero z mode).K B):=by
 have f1:=K.f1;obtain⟨R,I,z2⟩:=m05 (z:=z) K hw hm;have U:∀i,∀k∈runK (K1 F l mode (O0 cls)) (O0 cls).length (Kd.zero z mode).K i,PM F l n k:=by
  intro i
  induction i with
  |zero=>intro k hk;simp[runK]at hk;rw[hk];exact I
  |succ i ih=>
   intro k hk;rw[show runK (K1 F l mode (O0 cls)) (O0 cls).length (Kd.zero z mode).K (i+1)=if i<(runK (K1 F l mode (O0 cls)) (O0 cls).length (Kd.zero z mode).K i).length then n5 (K1 F l mode (O0 cls)) ((runK (K1 F l mode (O0 cls)) (O0 cls).length (Kd.zero z mode).K i).getD i default) (runK (K1 F l mode (O0 cls)) (O0 cls).length (Kd.zero z mode).K i) (O0 cls).length else runK (K1 F l mode (O0 cls)) (O0 cls).length (Kd.zero z mode).K i from rfl]at hk;split at hk
   ·rename_i hi;rcases j09 _ _ _ _ hk with h1|⟨_,d,s,C,h3⟩
    ·exact ih k h1
    ·exact L0E K hw hm v (ih ((runK (K1 F l mode (O0 cls)) (O0 cls).length (Kd.zero z mode).K i).getD i default) (by
      rw[show(runK (K1 F l mode (O0 cls)) (O0 cls).length (Kd.zero z mode).K i).getD i default=(runK (K1 F l mode (O0 cls)) (O0 cls).length (Kd.zero z mode).K i)[i] by simp[List.getD,hi]];exact List.getElem_mem hi)) C h3
   ·exact ih k hk
 have step:∀i,i<(runK (K1 F l mode (O0 cls)) (O0 cls).length (Kd.zero z mode).K i).length->(runK (K1 F l mode (O0 cls)) (O0 cls).length (Kd.zero z mode).K i).length<=B->
   d0a F (B:Int) ((i:Int),(l,mode,O0 cls,runK (K1 F l mode (O0 cls)) (O0 cls).length (Kd.zero z mode).K i),(Z2 l,cls,a0P F l mode (O0 cls) (Kd.zero z mode).K i)) =
    some (.next (((i+1:Nat):Int),(l,mode,O0 cls,runK (K1 F l mode (O0 cls)) (O0 cls).length (Kd.zero z mode).K (i+1)),(Z2 l,cls,a0P F l mode (O0 cls) (Kd.zero z mode).K (i+1)))):=by
  intro i hi hb;have hg:gt (runK (K1 F l mode (O0 cls)) (O0 cls).length (Kd.zero z mode).K i) (i:Int)=(runK (K1 F l mode (O0 cls)) (O0 cls).length (Kd.zero z mode).K i).getD i default:=x0o _ _;have f:=P4 hi;have j:=L0m K hw hm v q (U i _ f) (all:=runK (K1 F l mode (O0 cls)) (O0 cls).length (Kd.zero z mode).K i) O';have g:n5 (K1 F l mode (O0 cls)) (gt (runK (K1 F l mode (O0 cls)) (O0 cls).length (Kd.zero z mode).K i) (i:Int)) (runK (K1 F l mode (O0 cls)) (O0 cls).length (Kd.zero z mode).K i) (O0 cls).length=runK (K1 F l mode (O0 cls)) (O0 cls).length (Kd.zero z mode).K (i+1):=by
   rw[hg]
   conv=>rhs;rw[runK]
   rw[if_pos hi]
  rw[g]at j;have c1:(i:Int)<((runK (K1 F l mode (O0 cls)) (O0 cls).length (Kd.zero z mode).K i).length:Int):=O'
  have c2:¬(400:Int)<(B:Int):=O'
  have c3:¬((runK (K1 F l mode (O0 cls)) (O0 cls).length (Kd.zero z mode).K i).length:Int)>(B:Int):=O'
  have p:=R0 (l:=runK (K1 F l mode (O0 cls)) (O0 cls).length (Kd.zero z mode).K i) (i:=(i:Int)) O' c1;have ap:∀s:j7,J0 56 (a0P F l mode (O0 cls) (Kd.zero z mode).K i) [s]=true:=fun s=>W4 (by simp[a0P];omega);unfold d0a;simp only[q0,c1,c2,c3,p,j,ap,K2 (i:=i) O'];have hs:a0P F l mode (O0 cls) (Kd.zero z mode).K (i+1)=a0P F l mode (O0 cls) (Kd.zero z mode).K i++[r8 (V5 F) (V6 F l) (K1 F l mode (O0 cls)) (O0 cls).length (runK (K1 F l mode (O0 cls)) (O0 cls).length (Kd.zero z mode).K (i+1)) (gt (runK (K1 F l mode (O0 cls)) (O0 cls).length (Kd.zero z mode).K i) (i:Int))]:=by
   unfold a0P;rw[List.range_succ,map_append,map_cons,map_nil,hg]
  rw[hs]
 have r:iter (w0o F) F ()=some ():=by
  obtain⟨m,rfl⟩:∃m,F=m+1:=⟨F-1,O'⟩
  rfl
 have u:J0 104 ([]:List Y1) [(Kd.zero z mode).K]=true:=W4 V';have y:a0P F l mode (O0 cls) (Kd.zero z mode).K 0=[]:=rfl;unfold g0e;simp only[q0,R,bne_self_eq_false,J,o,r,show((-1:Int)<0)=True from V',u,List.nil_append,l0u K.hR (show 401<F from O')];rcases r0f (K1 F l mode (O0 cls)) (O0 cls).length (Kd.zero z mode).K B with⟨m,m1,h⟩|⟨m,m1,h⟩
 ·have c:=V3 (step:=d0a F (B:Int)) (fun i=>((i:Int),(l,mode,O0 cls,runK (K1 F l mode (O0 cls)) (O0 cls).length (Kd.zero z mode).K i),(Z2 l,cls,a0P F l mode (O0 cls) (Kd.zero z mode).K i))) (.inr (Z2 l,cls,a0P F l mode (O0 cls) (Kd.zero z mode).K m)) m (fun i hi=>.inl (step i (h.2 i hi).1 (h.2 i hi).2)) (by
   have hm:=h.1;have c1:¬(m:Int)<((runK (K1 F l mode (O0 cls)) (O0 cls).length (Kd.zero z mode).K m).length:Int):=O'
   unfold d0a;simp only[q0,c1]) m 0 F O' O'
  have c:iter (d0a F (B:Int)) F (0,(l,mode,O0 cls,[(Kd.zero z mode).K]),(Z2 l,cls,[]))=_:=c;rw[c,h03 h];simp only[F0,A0T h];rfl
 ·have c:=V3 (step:=d0a F (B:Int)) (fun i=>((i:Int),(l,mode,O0 cls,runK (K1 F l mode (O0 cls)) (O0 cls).length (Kd.zero z mode).K i),(Z2 l,cls,a0P F l mode (O0 cls) (Kd.zero z mode).K i))) (.inl (14,⟨0,[],[]⟩)) m (fun i hi=>.inl (step i (h.2.2 i hi).1 (h.2.2 i hi).2)) (by
   have h1:=h.1;have C:=h.2.1;have c1:(m:Int)<((runK (K1 F l mode (O0 cls)) (O0 cls).length (Kd.zero z mode).K m).length:Int):=O'
   have c2:¬(400:Int)<(B:Int):=O'
   have c3:((runK (K1 F l mode (O0 cls)) (O0 cls).length (Kd.zero z mode).K m).length:Int)>(B:Int):=O'
   unfold d0a;simp only[q0,c1,c2,c3]) m 0 F O' O'
  have c:iter (d0a F (B:Int)) F (0,(l,mode,O0 cls,[(Kd.zero z mode).K]),(Z2 l,cls,[]))=_:=c;rw[c,q0v h];rfl
end
end Go.Proofs.YtbccffnofdnpoaaGreat
namespace Go.Proofs.YtbccffnofdnpoaaGreat
open Go.V Go.RowKit Old Go.X
section
variable {F:Nat}{l:List D0}{n:Nat}{a:List B0}{b:Nat->List B0}{e:Nat->B0×Bool}{z:B0×Bool}
def u04 {c:Int}(d:J4 .u8 c):∀(s:List (List Int)),(∀r∈s,r.length=4/\∀y∈r,J4 .u64 y)->e0d F c s=some (s.map fun r=>hasB r c)
 |[],_=>rfl
 |r :: s,h=>by
  unfold e0d;rw[(r06 F (h r V') d).1,u04 d s (fun x f=>h x (List.mem_cons_of_mem _ f))];rfl
def L06 {i:Nat}(h:i<l.length):a0L (l.take (i+1))=a0L (l.take i)++if(gt l (i:Int)).Kind==2 then[(gt l (i:Int)).Set]else[]:=by
 unfold a0L;rw[take_succ,X4 h];simp only[Option.toList,List.filter_append,map_append];congr 1;cases c:(gt l (i:Int)).Kind==2 with
 |true=>rw[List.filter_cons_of_pos (by simpa using c)];rfl
 |false=>rw[List.filter_cons_of_neg (by simpa using c)];rfl
def u0s:(a0L l).length<=l.length:=by
 unfold a0L;rw[length_map];exact List.length_filter_le _ _
def J02 (K:Y2 l n a b e z F)(hw:∀x∈l,V2 x)(hl:l.length<=1000):i0T F l=some ((D3 (K7 l) 256).2,((D3 (K7 l) 256).1.length:Int)):=by
 have f1:=K.f1;have hs:∀r∈a0L l,r.length=4/\∀y∈r,J4 .u64 y:=fun r h=>by
  unfold a0L at h;obtain⟨x,j,rfl⟩:=mem_map.1 h;have:=hw x (List.mem_filter.1 j).1;unfold V2 at this;exact this.2.2.2.2
 have d:=V3 (step:=i08 F l) (fun i=>(a0L (l.take i),(i:Int))) (a0L l) l.length (fun i hi=>.inl ?_) ?_ l.length 0 F O' O'
 ·have d:iter (i08 F l) F ([],0)=some (a0L l):=d;have f:g0n F (a0L l)=some ((D3 (K7 l) 256).2,((D3 (K7 l) 256).1.length:Int)):=by
   have:=u0s (l:=l);unfold g0n;rw[if_pos Z',z0d (key:=K7 l) 256 (fun c k s=>?_)]
   ·rfl
   ·unfold g0d;rw[u04 (c:=(c:Int)) ⟨by show(0:Int)<=_;omega,by show(c:Int)<=255;omega⟩ _ hs];show(if s.1.contains (K7 l c)then _ else _)=_;unfold c0U;split<;>rfl
  unfold i0T;simp only[q0,K.TF.mR,d,f]
 ·have c1:(i:Int)<(l.length:Int):=O'
  have g:=u0s (l:=l.take i);rw[List.length_take]at g;have ap:J0 32 (a0L (l.take i)) [(gt l (i:Int)).Set]=true:=W4 Z';unfold i08;simp only[c1,decide_true,if_true,R0 (l:=l) (i:=(i:Int)) O' c1,ap,K2 (i:=i) O'];rw[L06 hi];cases c:(gt l (i:Int)).Kind==2 with
  |true=>simp
  |false=>simp
 ·have c1:¬(l.length:Int)<(l.length:Int):=O'
  unfold i08;simp only[q0,c1,take_length]
end
end Go.Proofs.YtbccffnofdnpoaaGreat
namespace Go.Proofs.YtbccffnofdnpoaaGreat
open Go.V Go.RowKit Go.X
def t0x {α:Type}[Inhabited α]{a b:List α}{i:Nat}(h:i<a.length):gt (a++b) (i:Int)=gt a (i:Int):=by
 have c:gt a (i:Int)=a[i]:=P2 (List.getElem?_eq_getElem h);rw[c];exact P2 (by rw[List.getElem?_append_left h,List.getElem?_eq_getElem h])
def t0j {α:Type}[Inhabited α]{a:List α}{x:α}{i:Nat}(h:i=a.length):gt (a++[x]) (i:Int)=x:=P2 (by subst h;simp)
def s02 (key:Nat->List Bool):∀b,∀x,x<b->∃c:Nat,gt (D3 key b).2 (x:Int)=(c:Int)/\(D3 key b).1[c]?=some (key x)
 |0,x,h=>absurd h (Nat.not_lt_zero x)
 |b+1,x,h=>by
  obtain⟨h1,_,_,_⟩:=f0j key b;rw[show D3 key (b+1)=c0U (D3 key b) (key b)from rfl];unfold c0U;split
  ·rename_i f;rcases Nat.lt_or_ge x b with q|q
   ·obtain⟨c,c1,c2⟩:=s02 key b x q;exact⟨c,by simp only;rw[t0x O'];exact c1,c2⟩
   ·obtain rfl:x=b:=O'
    have hi:=List.idxOf_lt_length_of_mem (List.contains_iff_mem.1 f);refine⟨(D3 key x).1.idxOf (key x),t0j h1.symm,?_⟩;simp only;rw[List.getElem?_eq_getElem hi,List.getElem_idxOf hi]
  ·rcases Nat.lt_or_ge x b with q|q
   ·obtain⟨c,c1,c2⟩:=s02 key b x q;have d:=(List.getElem?_eq_some_iff.1 c2).1;exact⟨c,by simp only;rw[t0x O'];exact c1,by simp only;rw[List.getElem?_append_left d];exact c2⟩
   ·obtain rfl:x=b:=O'
    exact⟨(D3 key x).1.length,t0j h1.symm,V'⟩
def u0v (key:Nat->List Bool):∀b,b<=256->∀c,c<(D3 key b).1.length->∃x:Nat,x<b/\gt (O0 (D3 key b).2) (c:Int)=(x:Int)/\(D3 key b).1[c]?=some (key x)
 |0,_,c,h=>absurd h (Nat.not_lt_zero c)
 |b+1,hb,c,h=>by
  obtain⟨h1,_,d,_⟩:=f0j key b;rw[show D3 key (b+1)=c0U (D3 key b) (key b)from rfl]at h ⊢;unfold O0 at d ⊢;have i:=u0v key b O';unfold O0 at i;unfold c0U at h ⊢;split at h
  ·rename_i f;rw[if_pos f];have hi:=List.idxOf_lt_length_of_mem (List.contains_iff_mem.1 f);obtain⟨x,k,j,g⟩:=i c h;refine⟨x,O',?_,g⟩;simp only;rw[j07,b8,d,if_neg O'];exact j
  ·rename_i f;rw[if_neg f];simp only[List.length_append,List.length_cons,List.length_nil]at h;simp only;rw[j07,b8,d,if_pos rfl,Nat.zero_add,h1];show ∃x:Nat,x<b+1/\gt (b8 (D3 key b).2 0 []++[IntKind.u8.wrap (b:Int)]) (c:Int)=(x:Int)/\_;rcases Nat.lt_or_ge c (D3 key b).1.length with q|q
   ·obtain⟨x,k,j,g⟩:=i c q;refine⟨x,O',?_,?_⟩
    ·rw[t0x O'];exact j
    ·rw[List.getElem?_append_left q];exact g
   ·obtain rfl:c=(D3 key b).1.length:=O'
    refine⟨b,O',?_,V'⟩;rw[t0j d.symm];have:IntKind.u8.wrap (b:Int)=(b:Int) % 256:=by rfl
    rw[this];omega
def B0V (key:Nat->List Bool){x:Int}(g:J4 .u8 x):∃c:Nat,gt (D3 key 256).2 x=(c:Int)/\c<(O0 (D3 key 256).2).length/\J4 .u8 (gt (O0 (D3 key 256).2) (c:Int))/\∃y:Nat,gt (O0 (D3 key 256).2) (c:Int)=(y:Int)/\key y=key x.toNat:=by
 have i:0<=x/\x<256:=⟨g.1,by have:=g.2;rw[show IntKind.u8.max=255 from rfl]at this;omega⟩
 obtain⟨_,_,j,_⟩:=f0j key 256;obtain⟨c,c1,c2⟩:=s02 key 256 x.toNat O';have d:=(List.getElem?_eq_some_iff.1 c2).1;obtain⟨y,k,f,h⟩:=u0v key 256 (Nat.le_refl _) c d;rw[show((x.toNat:Nat):Int)=x from O']at c1;refine⟨c,c1,O',?_,y,f,?_⟩
 ·rw[f];refine⟨by show(0:Int)<=_;omega,by show(y:Int)<=255;omega⟩
 ·rw[c2]at h;exact(Option.some.inj h).symm
