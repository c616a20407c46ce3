/- P. Its conditions: none. -/
import Derived.Test.YtihmgaccbcfgjaaGreatRG23
import Derived.Test.YtihmgaccbcfgjaaGreatRMd
import Derived.Test.YtihmgaccbcfgjaaGreatRG30
open Bool (and_eq_true false_eq_true)
open Nat (add_assoc lt_or_ge le_of_lt sub_zero)
set_option linter.all false
theorem Go.N' {P:Prop}(h:P:=by simp only[Tm.top,Tm.size];omega):P:=h
namespace Go.Proofs.YtihmgaccbcfgjaaGreat.Old
open Go.V Go.RowKit
def P2 (x:C0):Prop:=(L5 .i64) x.Kind/\(L5 .i64) x.A/\(L5 .i64) x.B/\(L5 .i64) x.N/\(x.Set.length=4/\∀y∈x.Set,L5 .u64 y)
def Z4:List Int:=[0,0,0,0]
inductive Tm where
 |eps|leaf (s:List Int)|cat (a b:Tm)|alt (a b:Tm)|star (a:Tm)|maybe (a:Tm)|group (n:Int) (a:Tm)|iter (a:Tm)
def Tm.size:Tm->Nat
 |.eps=>1|.leaf _=>1|.cat a b=>a.size+b.size+1|.alt a b=>a.size+b.size+1
 |.star a=>a.size+1|.maybe a=>a.size+1|.group _ a=>a.size+1|.iter a=>a.size+1
def Tm.size_pos (t:Tm):0<t.size:=by cases t<;>simp[Tm.size]
def Tm.top (t:Tm)(lo:Nat):Nat:=lo+t.size-1
def Tm.node (lo:Nat):Tm->C0
 |.eps=>⟨1,-1,-1,0,Z4⟩
 |.leaf s=>⟨2,-1,-1,0,s⟩
 |.cat a b=>⟨3,(a.top lo:Int),(b.top (lo+a.size):Int),0,Z4⟩
 |.alt a b=>⟨4,(a.top lo:Int),(b.top (lo+a.size):Int),0,Z4⟩
 |.star a=>⟨5,(a.top lo:Int),-1,0,Z4⟩
 |.maybe a=>⟨6,(a.top lo:Int),-1,0,Z4⟩
 |.group n a=>⟨7,(a.top lo:Int),-1,n,Z4⟩
 |.iter a=>⟨8,(a.top lo:Int),-1,0,Z4⟩
def Tm.flat (lo:Nat):Tm->List C0
 |.eps=>[Tm.node lo .eps]
 |.leaf s=>[Tm.node lo (.leaf s)]
 |.cat a b=>a.flat lo++b.flat (lo+a.size)++[Tm.node lo (.cat a b)]
 |.alt a b=>a.flat lo++b.flat (lo+a.size)++[Tm.node lo (.alt a b)]
 |.star a=>a.flat lo++[Tm.node lo (.star a)]
 |.maybe a=>a.flat lo++[Tm.node lo (.maybe a)]
 |.group n a=>a.flat lo++[Tm.node lo (.group n a)]
 |.iter a=>a.flat lo++[Tm.node lo (.iter a)]
theorem Tm.O5 (t:Tm):∀lo,(t.flat lo).length=t.size:=by
 induction t<;>intro lo<;>simp[Tm.flat,Tm.size, *]<;>omega
def D3 (l:List C0)(a:List Int)(i:Nat):Int:=
 let x:=gt l (i:Int)
 if x.Kind=1\/x.Kind=2 then(if x.A=-1/\x.B=-1 then(i:Int)else -1)
 else if x.Kind=3\/x.Kind=4 then(if x.B=(i:Int)-1/\0<=x.B/\0<=x.A/\x.A=gt a x.B-1 then gt a x.A else -1)
 else if x.Kind=5\/x.Kind=6\/x.Kind=7\/x.Kind=8 then(if x.B=-1/\0<=x.A/\x.A=(i:Int)-1 then gt a x.A else -1)
 else -1
def g0W (x:C0):Bool:=gt x.Set 0==0&&(gt x.Set 1==0&&(gt x.Set 2==0&&gt x.Set 3==0))
def R9 (x:C0):Bool:=(x.Kind==2||g0W x)&&(if x.Kind==7 then decide (1<=x.N)&&decide (x.N<=9)else x.N==0)
def b0L (x:C0)(R0:List C0):Bool:=x.Kind==7&&R0.any fun y=>y.Kind==7&&y.N==x.N
def V9 (l:List C0)(a i:Nat):List C0:=(l.drop a).take (i-a)
def Z6 (l:List C0)(a:List Int)(i:Nat):Bool:=decide (0<=D3 l a i)&&R9 (gt l (i:Int))&&!b0L (gt l (i:Int)) (V9 l (D3 l a i).toNat i)
def R4 (l:List C0):Nat->Option (List Int)
 |0=>some []
 |i+1=>match R4 l i with
  |none=>none
  |some a=>if Z6 l a i then some (a++[D3 l a i])else none
def N0 (l:List C0):Nat->Nat
 |0=>0
 |i+1=>N0 l i+if(gt l (i:Int)).Kind=2 then 1 else 0
theorem d0H (l:List C0):∀i,N0 l i<=i
 |0=>Nat.le_refl _
 |i+1=>by have:=d0H l i;grind [N0]
def K4 (l:List C0):List Int:=
 match R4 l l.length with
 |none=>[]
 |some a=>if l.length=0\/400<l.length\/64<N0 l l.length\/gt a ((l.length:Int)-1)≠0 then[]else a
def L2 (l:List C0):Bool:=!(K4 l).isEmpty
structure f0D (a:List Int)(i:Nat):Prop where
 len:a.length=i
 rng:∀j:Nat,j<i->0<=gt a (j:Int)/\gt a (j:Int)<=j
def r0J {l:List C0}{a:List Int}{i:Nat}(h:f0D a i)(c:0<=D3 l a i):D3 l a i<=i:=by
 have b:∀z:Int,0<=z->z<i->gt a z<=z:=fun z h1 d=>by
  have:=(h.rng z.toNat O').2
  grind
 grind [D3]
def f0D.snoc {l:List C0}{a:List Int}{i:Nat}(h:f0D a i)(c:0<=D3 l a i):f0D (a++[D3 l a i]) (i+1):=by
 refine⟨by simp[h.len],fun j b=>?_⟩
 by_cases e:j=i
 ·subst e;rw[e0v h.len.symm]
  simp_all[r0J]
 ·rw[b0Y O' (by rw[h.len];omega)];exact h.rng j O'
def c07 {l:List C0}:∀{i:Nat} {a:List Int},R4 l i=some a->f0D a i
 |0,a,h=>by simp[R4]at h;subst h;exact⟨rfl,fun j d=>O'⟩
 |i+1,a,h=>by
  simp only[R4]at h;split at h
  ·cases h
  ·rename_i b c;split at h
   ·rename_i hg;cases h;simp only[Z6,and_eq_true,decide_eq_true_eq]at hg;exact(c07 c).snoc hg.1.1
   grind
def x0Y {l:List C0}{a:List Int}{i:Nat}(fuel:Nat)(hi:i<l.length)(ha:f0D a i)(s:i<4611686018427387904):c0u fuel l a (i:Int)=some (D3 l a i):=by
 have d:y0 l (i:Int)=true:=V0 O' O';have n:W ((i:Int)-1)=(i:Int)-1:=E3 O' O';have r:∀z:Int,0<=z->z<i->gt a z<=z/\0<=gt a z:=fun z h1 j=>by
  have:=ha.rng z.toNat O'
  grind
 have hl:=ha.len;unfold c0u D3;simp only[d,if_true,n];generalize gt l (i:Int)=x;have h:∀z:Int,0<=z->z<i->y0 a z=true:=fun z h1 j=>V0 h1 O';have q:0<=x.B->x.B<i->W (gt a x.B-1)=gt a x.B-1:=fun h1 j=>E3 (by grind) (by grind);obtain⟨k,A,B,N,S⟩:=x
 by_cases c1:k=1\/k=2
 ·grind
 ·have o:((if(k==1)=true then some (k==1)else some (k==2)):Option Bool)=some false:=by
   simp_all
  simp only[q0,o,c1]
  by_cases c2:k=3\/k=4
  ·grind
  ·have m:((if(k==3)=true then some (k==3)else some (k==4)):Option Bool)=some false:=by
    simp_all
   simp only[q0,m,c2]
   by_cases c3:k=5\/k=6\/k=7\/k=8
   ·have p:((if(k==5)=true then some (k==5)else if(k==6)=true then some (k==6)else if(k==7)=true then some (k==7)else some (k==8)):Option Bool)=some true:=by rcases c3 with rfl|rfl|rfl|rfl<;>rfl
    simp only[p,G0,if_true,c3]
    by_cases c:B=-1
    ·by_cases f:0<=A
     ·by_cases b:A=(i:Int)-1
      ·have e:=h A f O';have g:(1:Int)<=(i:Int):=O'
       simp only[ge_iff_le,c,b,if_true,beq_self_eq_true]at *;simp[e,g]
      ·simp[c,f,b]
     ·simp[c,f]
    ·simp[c]
   simp_all
def I0C (fuel:Nat)(x:C0):c0v fuel x=some (R9 x):=by
 unfold c0v R9 g0W
 grind
def H0j (fuel:Nat)(x:C0)(R0:List C0)(d:R0.length<fuel)(hs:R0.length<4611686018427387904):c0b fuel x R0=some (b0L x R0):=by
 have key:∀k i,i+k=R0.length->iter (o0y fuel x R0) (k+1) (i:Int)=some (if(x.Kind==7&&(R0.drop i).any fun y=>y.Kind==7&&y.N==x.N)then .inl ()else .inr ()):=by
  intro k
  induction k with
  |zero=>
   simp[iter,o0y]
  |succ k ih=>
   intro i hi;have b:i<R0.length:=O'
   have c:y0 R0 (i:Int)=true:=V0 O' O';have hg:gt R0 (i:Int)=R0[i]:=X2 Z';have hd:R0.drop i=R0[i] :: R0.drop (i+1):=List.drop_eq_getElem_cons b;have a:(i:Int)<(R0.length:Int):=O'
   have hs:o0y fuel x R0 (i:Int)=some (if x.Kind==7&&(R0[i].Kind==7&&R0[i].N==x.N)then .done (.inl ())else .next ((i+1:Nat):Int)):=by
    unfold o0y;simp only[a,decide_true,if_true,c,hg,X1 (show i<9223372036854775807 from O')];cases x.Kind==7<;>cases R0[i].Kind==7<;>cases R0[i].N==x.N<;>rfl
   grind [iter]
 unfold c0b;rw[show(0:Int)=((0:Nat):Int)from rfl,q0S (key R0.length 0 O') O']
 grind [b0L]
def r06 {l:List C0}{i:Nat}(h:R4 l i=none):∀k,R4 l (i+k)=none
 |0=>h
 |k+1=>by simp_all[add_assoc,R4,r06]
def d0L (l:List C0):Unit⊕(List Int×Int):=match R4 l l.length with|none=>.inl ()|some b=>.inr (b,(N0 l l.length:Int))
def w0a {l:List C0}{i:Nat}(h:R4 l i=none)(hi:i<=l.length):d0L l=.inl ():=by
 have:=r06 h (l.length-i);rw[show i+(l.length-i)=l.length from O']at this;simp[d0L,this]
def H0c {l:List C0}{a:Int}{i:Nat}(h:0<=a):G1 l a (i:Int)=V9 l a.toNat i:=by
 grind [G1,V9]
def x0v {l:List C0}{a i:Nat}:(V9 l a i).length<=i:=by grind [V9]
def G0V {l:List C0}{a:List Int}{i:Nat}{fuel:Nat}(h:R4 l i=some a)(hi:i<l.length)(hl:l.length<=400)(j:400<fuel):
  m00 fuel l (a,(N0 l i:Int),(i:Int))=if Z6 l a i then some (.next (a++[D3 l a i],(N0 l (i+1):Int),((i+1:Nat):Int)))else some (.done (.inl ())):=by
 have ok:=c07 h;have c:y0 l (i:Int)=true:=V0 O' O';have g:=d0H l i;have h1:(i:Int)<(l.length:Int):=O'
 have f:W ((N0 l i:Int)+1)=((N0 l i+1:Nat):Int):=X1 O';have e:W ((i:Int)+1)=((i+1:Nat):Int):=X1 O';have d:∀x:Int,K0 8 a [x]=true:=fun x=>B4 (by rw[ok.len];simp;omega);unfold m00;simp only[q0,h1,c,x0Y fuel hi ok O',I0C,f,e,d]
 by_cases hn:D3 l a i<0
 ·have hg:Z6 l a i=false:=by unfold Z6;simp;intro;omega
  simp[hn,hg]
 ·have k:=r0J (l:=l) ok O';have b:P3 l (D3 l a i) (i:Int)=true:=by simp[P3];omega
  simp only[q0,hn,b,H0c (show 0<=D3 l a i from O')];have hs:(V9 l (D3 l a i).toNat i).length<=i:=x0v;rw[H0j fuel _ _ O' O'];have hg:Z6 l a i=(R9 (gt l (i:Int))&&!b0L (gt l (i:Int)) (V9 l (D3 l a i).toNat i)):=by unfold Z6;simp[show 0<=D3 l a i from O']
  rw[hg];generalize b0L (gt l (i:Int)) (V9 l (D3 l a i).toNat i)=ag;generalize R9 (gt l (i:Int))=fb
  by_cases hk:(gt l (i:Int)).Kind=2
  ·cases fb<;>cases ag<;>simp[hk,N0]
  ·cases fb<;>cases ag<;>simp[hk,N0]
def u0V {l:List C0}{fuel:Nat}(hl:l.length<=400)(b:400<fuel):∀(k i:Nat) (a:List Int),R4 l i=some a->i+k=l.length->∀m,k<m->iter (m00 fuel l) m (a,(N0 l i:Int),(i:Int))=some (d0L l)
 |0,i,a,h,hi,m,hm=>by
  obtain⟨m,rfl⟩:∃q,m=q+1:=⟨m-1,O'⟩
  have:¬(i:Int)<(l.length:Int):=O'
  obtain rfl:i=l.length:=O'
  unfold iter m00;simp[d0L,h]
 |k+1,i,a,h,hi,m,hm=>by
  obtain⟨m,rfl⟩:∃q,m=q+1:=⟨m-1,O'⟩
  unfold iter;rw[G0V h O' hl b]
  by_cases hg:Z6 l a i=true
  ·rw[if_pos hg];exact u0V hl b k (i+1) _ (by simp only[R4,h,hg,if_true]) O' m O'
  ·rw[if_neg hg,w0a (i:=i+1) (by simp only[R4,h];simp[hg]) O']
def q08 (l:List C0){fuel:Nat}(i:401<fuel):I9 fuel l=some (K4 l):=by
 unfold I9 K4
 by_cases e:l.length=0
 ·grind
 ·by_cases h:400<l.length
  ·grind
  ·have c:¬(l.length:Int)>400:=O'
   have a:=u0V (l:=l) (fuel:=fuel) O' O' l.length 0 [] rfl O' fuel O';simp only[q0,beq_iff_eq,Int.natCast_eq_zero,e,c];rw[show(([]:List Int),(0:Int),(0:Int))=([],(N0 l 0:Int),((0:Nat):Int))from rfl,a];simp only[G0,d0L];cases g:R4 l l.length with
   |none=>rfl
   |some b=>
    have ok:=c07 g;have hw:W ((l.length:Int)-1)=(l.length:Int)-1:=E3 O' O';have f:y0 b ((l.length:Int)-1)=true:=V0 O' (by rw[ok.len];omega);have d:h08 b=true:=by
     have:=ok.len;cases b with
     |nil=>grind
     |cons x y=>rfl
    grind
def c0y (l:List C0){fuel:Nat}(a:401<fuel):l6 fuel l=some (L2 l):=by
 unfold l6 L2;rw[q08 l a];cases K4 l<;>simp
def C0i (fuel:Nat)(k:Int):c0t fuel k=some (decide (3<=k)&&decide (k<=8),k==3||k==4):=by
 grind [c0t]
def or_some {b c:Bool}:(if b=true then some true else some c)=some (b||c):=by cases b<;>rfl
def T0p {b c:Bool}:(if b=true then some c else some false)=some (b&&c):=by cases b<;>rfl
def q0R (l:List C0)(fuel:Nat){i:Nat}(hi:i<l.length)(g:i<4611686018427387904):∀(k a:Nat),a+k=i->∀m,k<m->
  iter (n0Y fuel l (i:Int)) m (a:Int)=some (if b0L (gt l (i:Int)) (V9 l a i)then .inl ()else .inr ())
 |0,a,ha,m,hm=>by
  obtain⟨m,rfl⟩:∃q,m=q+1:=⟨m-1,O'⟩
  obtain rfl:a=i:=O'
  unfold iter n0Y;simp[b0L,V9]
 |k+1,a,ha,m,hm=>by
  obtain⟨m,rfl⟩:∃q,m=q+1:=⟨m-1,O'⟩
  have c:a<l.length:=O'
  have e:y0 l (a:Int)=true:=V0 O' O';have d:(a:Int)<(i:Int):=O'
  have hg:gt l (a:Int)=l[a]:=X2 (by simp[c]);have b:V9 l a i=l[a] :: V9 l (a+1) i:=by
   unfold V9;rw[List.drop_eq_getElem_cons c,show i-a=(i-(a+1))+1 from O',List.take_succ_cons]
  have f:=q0R l fuel hi g k (a+1) O' m O';have step:n0Y fuel l (i:Int) (a:Int)=some (if((gt l (i:Int)).Kind==7&&(gt l (a:Int)).Kind==7)&&(gt l (a:Int)).N==(gt l (i:Int)).N then .done (.inl ())else .next ((a+1:Nat):Int)):=by
   unfold n0Y;simp only[q0,d,e,X1 (show a<9223372036854775807 from O'),T0p];split<;>rfl
  unfold iter;rw[step,b];unfold b0L at f ⊢;rw[List.any_cons,<-hg];cases h1:(gt l (i:Int)).Kind==7<;>cases j:(gt l (a:Int)).Kind==7<;>cases h:(gt l (a:Int)).N==(gt l (i:Int)).N<;>simp_all
def G0X (x:C0):
  ((((decide (x.Kind<1)||decide (x.Kind>8))||(x.Kind != 2&&!((gt x.Set 0==0)&&((gt x.Set 1==0)&&((gt x.Set 2==0)&&(gt x.Set 3==0))))))||(x.Kind != 7&&x.N != 0))||(x.Kind==7&&(decide (x.N<1)||decide (x.N>9))))
  = (decide (x.Kind<1)||decide (x.Kind>8)||!R9 x):=by
 unfold R9 g0W;obtain⟨k,A,B,N,S⟩:=x;simp only;generalize ((gt S 0==0)&&((gt S 1==0)&&((gt S 2==0)&&(gt S 3==0))))=z
 by_cases h1:k<1
 ·simp[h1]
 ·by_cases b:k>8
  ·simp[b]
  ·by_cases c:k=2
   ·subst c;by_cases hn:N=0<;>simp[hn,bne]
   ·by_cases a:k=7
    ·subst a;cases z<;>by_cases e:N<1<;>by_cases n9:N>9<;>simp[e,n9]<;>omega
    ·have d:(k==2)=false:=by simpa using c
     have f:(k==7)=false:=by simpa using a
     cases z<;>by_cases hn:N=0<;>simp[h1,b,d,f,hn,bne]
def B0u {l:List C0}{a:List Int}{i:Nat}(h:¬(1<=(gt l (i:Int)).Kind/\(gt l (i:Int)).Kind<=8)):Z6 l a i=false:=by
 have:D3 l a i=-1:=by
  unfold D3
  grind
 grind [Z6]
theorem s0q {l:List C0}{a:List Int}{i:Nat}{fuel:Nat}(h:R4 l i=some a)(hi:i<l.length)(hl:l.length<2199023255552)(hf:l.length<fuel):
  m0R fuel l ((N0 l i:Int),(i:Int),a++List.replicate (l.length-i) 0) =
   if Z6 l a i then some (.next ((N0 l (i+1):Int),((i+1:Nat):Int),a++[D3 l a i]++List.replicate (l.length-(i+1)) 0))else some (.done (.inl ())):=by
 have ok:=c07 h;have R:y0 l (i:Int)=true:=V0 O' O';have b4:=d0H l i;have h1:(i:Int)<(l.length:Int):=O'
 have hW:W ((N0 l i:Int)+1)=((N0 l i+1:Nat):Int):=X1 O';have b2:W ((i:Int)+1)=((i+1:Nat):Int):=X1 O';have U:W ((i:Int)-1)=(i:Int)-1:=E3 O' O';have hlen:(a++List.replicate (l.length-i) (0:Int)).length=l.length:=by simp[ok.len];omega
 have w:y0 (a++List.replicate (l.length-i) (0:Int)) (i:Int)=true:=V0 O' (by rw[hlen];omega);have p:List.replicate (l.length-i) (0:Int)=0 :: List.replicate (l.length-(i+1)) 0:=k0H hi 0;have u:∀(x y:Int) (m:List Int),(a++x :: m).set i y=a++y :: m:=fun x y m=>l0M ok.len.symm;have k:∀(x:Int) (m:List Int),gt (a++x :: m) (i:Int)=x:=fun x m=>e0v ok.len.symm;have n:∀(z x:Int) (m:List Int),0<=z->z<i->gt (a++x :: m) z=gt a z:=fun z x m r s=>b0Y r (by rw[ok.len];omega);have g:∀(z x:Int) (m:List Int),0<=z->z<=i->y0 (a++x :: m) z=true:=fun z x m r s=>V0 r (by simp[ok.len];omega);have hr:∀z:Int,0<=z->z<i->gt a z<=z/\0<=gt a z:=fun z h1 s=>by
  have:=ok.rng z.toNat O'
  rwa [show((z.toNat:Nat):Int)=z from O',and_comm]at this
 have tail:∀v:Int,0<=v->v<=i->D3 l a i=v->R9 (gt l (i:Int))=true->
   (Option.bind (iter (n0Y fuel l (i:Int)) fuel v) fun z_=>match z_ with
    |.inl _=>(some (.done (.inl ())):Option (Q0 (Int×Int×List Int) (Unit⊕(Int×List Int))))
    |.inr _=>some (.next ((N0 l (i+1):Int),W ((i:Int)+1),a++v :: List.replicate (l.length-(i+1)) 0))) =
   if Z6 l a i then some (.next ((N0 l (i+1):Int),((i+1:Nat):Int),a++[v]++List.replicate (l.length-(i+1)) 0))else some (.done (.inl ())):=by
  intro v r s d f;obtain⟨q,rfl⟩:=Int.eq_ofNat_of_zero_le r;rw[q0R l fuel hi O' (i-q) q O' fuel O'];have hg:Z6 l a i=!b0L (gt l (i:Int)) (V9 l q i):=by unfold Z6;rw[d,f];simp
  rw[hg]
  by_cases hc:b0L (gt l (i:Int)) (V9 l q i)=true
  ·simp[hc]
  ·simp[hc,b2]
 unfold m0R;simp only[q0,h1,R,w,C0i,or_some,T0p,G0X];rw[p]
 by_cases hk:1<=(gt l (i:Int)).Kind/\(gt l (i:Int)).Kind<=8
 ·have b1:¬(gt l (i:Int)).Kind<1:=O'
  have J:¬(gt l (i:Int)).Kind>8:=O'
  simp only[b1,J,decide_false,Bool.false_or];cases f:R9 (gt l (i:Int))with
  |false=>
   have hg:Z6 l a i=false:=by simp[Z6,f]
   simp[hg]
  |true=>
   simp only[q0,Bool.false_and,Bool.true_and,Bool.or_false,Bool.false_or,Bool.or_true,Int.toNat_natCast,u,k,U];have b3:((if((gt l (i:Int)).Kind==2)=true then some (W ((N0 l i:Int)+1))else some (N0 l i:Int)):Option Int)=some ((N0 l (i+1):Nat):Int):=by
    rw[hW]
    by_cases s:(gt l (i:Int)).Kind=2<;>simp[s,N0]
   simp only[b3,G0];have bad:D3 l a i=-1->Z6 l a i=false:=fun I=>by simp[Z6,I]
   by_cases c1:(gt l (i:Int)).Kind=1\/(gt l (i:Int)).Kind=2
   ·have kA:(decide (3<=(gt l (i:Int)).Kind)&&decide ((gt l (i:Int)).Kind<=8))=false:=by rcases c1 with h|h<;>simp[h]
    have C:((gt l (i:Int)).Kind==3||(gt l (i:Int)).Kind==4)=false:=by rcases c1 with h|h<;>simp[h]
    have d:D3 l a i=if(gt l (i:Int)).A=-1/\(gt l (i:Int)).B=-1 then(i:Int)else -1:=by unfold D3;simp only;rw[if_pos c1]
    simp only[q0,kA,C,Bool.false_and,Bool.true_and,Bool.or_false,Bool.false_or,Bool.or_true]
    by_cases b:(gt l (i:Int)).A=-1
    ·by_cases e:(gt l (i:Int)).B=-1
     ·have c:D3 l a i=i:=by rw[d,if_pos ⟨b,e⟩]
      simp only[q0,b,e,bne_self_eq_false,Bool.false_and,Bool.true_and,Bool.or_false,Bool.false_or,Bool.or_true,g i i _ O' O',k];refine(tail i O' O' c f).trans ?_;rw[c]
     ·rw[bad (by rw[d,if_neg (fun h=>e h.2)])];simp[b,e]
    ·rw[bad (by rw[d,if_neg (fun h=>b h.1)])];simp[b]
   ·have kA:(decide (3<=(gt l (i:Int)).Kind)&&decide ((gt l (i:Int)).Kind<=8))=true:=by simp;omega
    simp only[q0,kA,Bool.false_and,Bool.true_and,Bool.or_false,Bool.false_or,Bool.or_true]
    by_cases c2:(gt l (i:Int)).Kind=3\/(gt l (i:Int)).Kind=4
    ·have C:((gt l (i:Int)).Kind==3||(gt l (i:Int)).Kind==4)=true:=by rcases c2 with h|h<;>simp[h]
     have d:D3 l a i=if(gt l (i:Int)).B=(i:Int)-1/\0<=(gt l (i:Int)).B/\0<=(gt l (i:Int)).A/\(gt l (i:Int)).A=gt a (gt l (i:Int)).B-1 then gt a (gt l (i:Int)).A else -1:=by unfold D3;simp only;rw[if_neg c1,if_pos c2]
     simp only[q0,C,Bool.false_and,Bool.true_and,Bool.or_false,Bool.false_or,Bool.or_true]
     by_cases e:(gt l (i:Int)).B=(i:Int)-1
     ·by_cases t:(i:Int)-1<0
      ·rw[bad (by rw[d,if_neg (fun h=>O')])];simp only[q0,e,bne_self_eq_false,Bool.false_and,Bool.true_and,Bool.or_false,Bool.false_or,Bool.or_true,t]
      ·have b5:=hr ((i:Int)-1) O' O';have a1:W (gt a ((i:Int)-1)-1)=gt a ((i:Int)-1)-1:=E3 O' O';simp only[q0,e,bne_self_eq_false,Bool.false_and,Bool.true_and,Bool.or_false,Bool.false_or,Bool.or_true,t,g _ _ _ (show 0<=(i:Int)-1 from O') O',n _ _ _ (show 0<=(i:Int)-1 from O') O',a1]
       by_cases b:(gt l (i:Int)).A=gt a ((i:Int)-1)-1
       ·by_cases j:gt a ((i:Int)-1)-1<0
        ·rw[bad (by rw[d,if_neg (fun h=>O')])];simp only[q0,b,bne_self_eq_false,Bool.false_and,Bool.true_and,Bool.or_false,Bool.false_or,Bool.or_true,j]
        ·have o:=hr (gt a ((i:Int)-1)-1) O' O';have c:D3 l a i=gt a (gt a ((i:Int)-1)-1):=by rw[d,e,if_pos ⟨rfl,O',O',b⟩,b]
         simp only[q0,b,bne_self_eq_false,Bool.false_and,Bool.true_and,Bool.or_false,Bool.false_or,Bool.or_true,j,g _ _ _ (show 0<=gt a ((i:Int)-1)-1 from O') O',g i _ _ O' O',n _ _ _ (show 0<=gt a ((i:Int)-1)-1 from O') O',k];refine(tail _ o.2 O' c f).trans ?_;rw[c]
       ·rw[bad (by rw[d,e,if_neg (fun h=>b h.2.2.2)])];simp[b]
     ·rw[bad (by rw[d,if_neg (fun h=>e h.1)])];simp[e]
    ·have c3:(gt l (i:Int)).Kind=5\/(gt l (i:Int)).Kind=6\/(gt l (i:Int)).Kind=7\/(gt l (i:Int)).Kind=8:=O'
     have C:((gt l (i:Int)).Kind==3||(gt l (i:Int)).Kind==4)=false:=by rcases c3 with h|h|h|h<;>simp[h]
     have d:D3 l a i=if(gt l (i:Int)).B=-1/\0<=(gt l (i:Int)).A/\(gt l (i:Int)).A=(i:Int)-1 then gt a (gt l (i:Int)).A else -1:=by unfold D3;simp only;rw[if_neg c1,if_neg c2,if_pos c3]
     simp only[q0,C,Bool.false_and,Bool.true_and,Bool.or_false,Bool.false_or,Bool.or_true]
     by_cases e:(gt l (i:Int)).B=-1
     ·simp only[q0,e,bne_self_eq_false,Bool.false_and,Bool.true_and,Bool.or_false,Bool.false_or,Bool.or_true]
      by_cases b:(gt l (i:Int)).A=(i:Int)-1
      ·by_cases j:(i:Int)-1<0
       ·rw[bad (by rw[d,if_neg (fun h=>O')])];simp only[q0,b,bne_self_eq_false,Bool.false_and,Bool.true_and,Bool.or_false,Bool.false_or,Bool.or_true,j]
       ·have o:=hr ((i:Int)-1) O' O';have c:D3 l a i=gt a ((i:Int)-1):=by rw[d,b,if_pos ⟨e,O',rfl⟩]
        simp only[q0,b,bne_self_eq_false,Bool.false_and,Bool.true_and,Bool.or_false,Bool.false_or,Bool.or_true,j,g _ _ _ (show 0<=(i:Int)-1 from O') O',g i _ _ O' O',n _ _ _ (show 0<=(i:Int)-1 from O') O',k];refine(tail _ o.2 O' c f).trans ?_;rw[c]
      ·rw[bad (by rw[d,if_neg (fun h=>b h.2.2)])];simp[b]
     ·rw[bad (by rw[d,if_neg (fun h=>e h.1)])];simp[e]
 ·rw[B0u hk];have:(decide ((gt l (i:Int)).Kind<1)||decide ((gt l (i:Int)).Kind>8)||!R9 (gt l (i:Int)))=true:=by
   by_cases h8:(gt l (i:Int)).Kind<1
   ·simp[h8]
   ·have:(gt l (i:Int)).Kind>8:=O'
    simp[this]
  simp[this]
def R0A (l:List C0):Unit⊕(Int×List Int):=match R4 l l.length with|none=>.inl ()|some b=>.inr ((N0 l l.length:Int),b)
def T03 {l:List C0}{i:Nat}(h:R4 l i=none)(hi:i<=l.length):R0A l=.inl ():=by
 have:=r06 h (l.length-i);rw[show i+(l.length-i)=l.length from O']at this;simp[R0A,this]
def s0i {l:List C0}{fuel:Nat}(hl:l.length<2199023255552)(b:l.length<fuel):∀(k i:Nat) (a:List Int),R4 l i=some a->i+k=l.length->∀m,k<m->
  iter (m0R fuel l) m ((N0 l i:Int),(i:Int),a++List.replicate (l.length-i) 0)=some (R0A l)
 |0,i,a,h,hi,m,hm=>by
  obtain⟨m,rfl⟩:∃q,m=q+1:=⟨m-1,O'⟩
  obtain rfl:i=l.length:=O'
  unfold iter m0R;simp[R0A,h]
 |k+1,i,a,h,hi,m,hm=>by
  obtain⟨m,rfl⟩:∃q,m=q+1:=⟨m-1,O'⟩
  unfold iter;rw[s0q h O' hl b]
  by_cases hg:Z6 l a i=true
  ·rw[if_pos hg];exact s0i hl b k (i+1) _ (by simp only[R4,h,hg,if_true]) O' m O'
  ·rw[if_neg hg,T03 (i:=i+1) (by simp only[R4,h];simp[hg]) O']
def u0g (l:List C0){fuel:Nat}(hl:l.length*64<=140737488351232)(o:l.length+1<fuel):b0G fuel l=some (if h08 (K4 l)then .inr (K4 l)else .inl ()):=by
 have n0:h08 ([]:List Int)=false:=rfl;unfold b0G K4;have h:R2 8 (l.length:Int)=true:=by simp[R2];omega
 have g:=s0i (l:=l) (fuel:=fuel) O' O' l.length 0 [] rfl O' fuel O';simp only[h,if_true,Int.toNat_natCast];rw[show((0:Int),(0:Int),List.replicate l.length (0:Int))=((N0 l 0:Int),((0:Nat):Int),[]++List.replicate (l.length-0) 0)from by simp[N0],g];simp only[G0,R0A,or_some];cases m:R4 l l.length with
 |none=>rfl
 |some b=>
  have ok:=c07 m;have n:=d0H l l.length
  by_cases d:l.length=0
  ·simp[n0,d]
  ·by_cases e:400<l.length
   ·have a:(l.length:Int)>400:=O'
    simp[n0,d,e,a]
   ·have a:¬(l.length:Int)>400:=O'
    have hw:W ((l.length:Int)-1)=(l.length:Int)-1:=E3 O' O';have j:y0 b ((l.length:Int)-1)=true:=V0 O' (by rw[ok.len];omega);have f:h08 b=true:=by
     have:=ok.len;cases b with
     |nil=>simp at this;omega
     |cons x y=>rfl
    simp only[hw,j,if_true]
    by_cases i:64<N0 l l.length
    ·have c:(N0 l l.length:Int)>64:=O'
     simp[n0,d,e,a,i,c]
    ·have c:¬(N0 l l.length:Int)>64:=O'
     by_cases k:gt b ((l.length:Int)-1)=0
     ·simp[n0,d,e,a,i,c,k,f]
     ·simp[n0,d,e,a,i,c,k]
def e02 (l:List C0){fuel:Nat}(hl:l.length*64<=140737488351232)(a:l.length+1<fuel):U6 fuel l=some (L2 l):=by
 unfold U6 L2;rw[u0g l hl a];cases h:K4 l<;>rfl
def At (l:List C0)(lo:Nat)(t:Tm):Prop:=(l.drop lo).take t.size=t.flat lo
def At.len {l:List C0}{lo:Nat}{t:Tm}(h:At l lo t):lo+t.size<=l.length:=by
 have:=congrArg List.length h;rw[Tm.O5,List.length_take,List.length_drop]at this;have:=t.size_pos;omega
def At.get {l:List C0}{lo:Nat}{t:Tm}(h:At l lo t){j:Nat}(a:j<t.size):l[lo+j]?=(t.flat lo)[j]?:=by
 rw[<-h,List.getElem?_take_of_lt a,List.getElem?_drop]
theorem Tm.H08 (t:Tm)(lo:Nat):(t.flat lo)[t.size-1]?=some (t.node lo):=by
 cases t<;>simp[Tm.flat,Tm.size,Tm.O5]
theorem At.top {l:List C0}{lo:Nat}{t:Tm}(h:At l lo t):l[t.top lo]?=some (t.node lo):=by
 have hp:=t.size_pos;have:=h.get (j:=t.size-1) O'
 grind [Tm.H08,Tm.top]
def At.N3 {l:List C0}{lo:Nat}{t:Tm}(h:At l lo t):gt l (t.top lo:Int)=t.node lo:=X2 h.top
theorem At.of {l:List C0}{lo:Nat}{t:Tm}(hl:lo+t.size<=l.length)(h:∀j,j<t.size->l[lo+j]?=(t.flat lo)[j]?):At l lo t:=by
 apply List.ext_getElem?
 grind [Tm.O5]
def At.bin {l:List C0}{lo:Nat}{a b t:Tm}(hs:t.size=a.size+b.size+1)(d:t.flat lo=a.flat lo++b.flat (lo+a.size)++[t.node lo]):At l lo t↔At l lo a/\At l (lo+a.size) b/\l[lo+a.size+b.size]?=some (t.node lo):=by
 constructor
 ·intro h;have hl:=h.len;have e:=fun j c=>h.get (j:=j) c;rw[d]at e;refine⟨At.of O' fun j c=>?_,At.of O' fun j c=>?_,?_⟩
  ·grind [Tm.O5]
  ·rw[add_assoc,e (a.size+j) O',List.append_assoc,List.getElem?_append_right (by simp[Tm.O5]),Tm.O5,Nat.add_sub_cancel_left,List.getElem?_append_left (by grind [Tm.O5])]
  simp_all[add_assoc,Tm.O5]
 ·rintro⟨h1,f,i⟩
  have g:lo+a.size+b.size<l.length:=by
   grind
  refine At.of O' fun j c=>?_;rw[d];rcases lt_or_ge j a.size with ha|ha
  ·rw[List.append_assoc,List.getElem?_append_left (by grind [Tm.O5]),h1.get ha]
  ·rcases lt_or_ge j (a.size+b.size)with hb|hb
   ·rw[List.append_assoc,List.getElem?_append_right (by grind [Tm.O5]),Tm.O5,List.getElem?_append_left (by grind [Tm.O5]),<-f.get O']
    grind
   ·obtain rfl:j=a.size+b.size:=O'
    simp_all[Tm.O5,add_assoc]
def At.un {l:List C0}{lo:Nat}{a t:Tm}(hs:t.size=a.size+1)(c:t.flat lo=a.flat lo++[t.node lo]):At l lo t↔At l lo a/\l[lo+a.size]?=some (t.node lo):=by
 constructor
 ·intro h;have e:=fun j b=>h.get (j:=j) b
  grind [At.of,Tm.O5]
 ·rintro⟨h1,f⟩
  have d:lo+a.size<l.length:=by
   grind
  refine At.of O' fun j b=>?_;rw[c];rcases lt_or_ge j a.size with ha|ha
  ·rw[List.getElem?_append_left (by grind [Tm.O5]),h1.get ha]
  ·obtain rfl:j=a.size:=O'
   simp_all[Tm.O5]
def At.one {l:List C0}{lo:Nat}{t:Tm}(hs:t.size=1)(a:t.flat lo=[t.node lo]):At l lo t↔l[lo]?=some (t.node lo):=by
 constructor
 ·intro h;have:=h.get (j:=0) O'
  simp_all
 ·intro h;have hl:lo<l.length:=by
   grind
  refine At.of O' fun j b=>?_
  simp_all
def z00 (s:List Int):Prop:=s.length=4/\∀y∈s,L5 .u64 y
def Tm.ok:Tm->Prop
 |.eps=>True|.leaf s=>z00 s|.cat a b=>a.ok/\b.ok|.alt a b=>a.ok/\b.ok
 |.star a=>a.ok|.maybe a=>a.ok|.group n a=>1<=n/\n<=9/\a.ok|.iter a=>a.ok
def Tm.leaves:Tm->Nat
 |.eps=>0|.leaf _=>1|.cat a b=>a.leaves+b.leaves|.alt a b=>a.leaves+b.leaves
 |.star a=>a.leaves|.maybe a=>a.leaves|.group _ a=>a.leaves|.iter a=>a.leaves
def Tm.b0r (t:Tm):t.leaves<=t.size:=by induction t<;>simp[Tm.leaves,Tm.size]<;>omega
def St (l:List C0)(a:List Int):Nat->List Tm->Prop
 |i,[]=>i=0
 |i,t :: ts=>t.size<=i/\At l (i-t.size) t/\t.ok/\gt a ((i-1:Nat):Int)=((i-t.size:Nat):Int)/\N0 l i=N0 l (i-t.size)+t.leaves/\St l a (i-t.size) ts
def St.snoc {l:List C0}{a:List Int}{v:Int}:∀{ts:List Tm} {i:Nat},i<=a.length->St l a i ts->St l (a++[v]) i ts
 |[],_,_,h=>h
 |t :: ts,i,hi,⟨h1,h2,h3,h4,h5,h6⟩=>by
  have:=t.size_pos;exact⟨h1,h2,h3,by grind [b0Y],h5,St.snoc O' h6⟩
def F0X {x:C0}(hw:P2 x)(h:g0W x=true):x.Set=Z4:=by
 have hl:=hw.2.2.2.2.1;simp only[g0W,and_eq_true,beq_iff_eq]at h;obtain⟨k,A,B,N,S⟩:=x;simp only at *
 match S,hl with
 |[s0,s1,s2,s3],_=>
  simp_all[gt,Z4]
def r00 {l:List C0}(hw:∀x∈l,P2 x):∀{i:Nat} {a:List Int},R4 l i=some a->i<=l.length->∃ts,St l a i ts
 |0,a,_,_=>⟨[],rfl⟩
 |i+1,a,h,hi=>by
  simp only[R4]at h;split at h
  ·cases h
  ·rename_i b hb;split at h
   ·rename_i hg;cases h;obtain⟨ts,m⟩:=r00 hw hb O';have ok:=c07 hb;simp only[Z6,and_eq_true,decide_eq_true_eq]at hg;obtain⟨⟨h0,hf⟩,_⟩:=hg;have f:l[i]?=some (gt l (i:Int)):=by
     grind [X2]
    have u:P2 (gt l (i:Int)):=hw _ (List.mem_of_getElem? f);have b2:gt (b++[D3 l b i]) ((i:Nat):Int)=D3 l b i:=e0v ok.len.symm;have r:St l (b++[D3 l b i]) i ts:=m.snoc (by rw[ok.len];omega);have n:N0 l (i+1)=N0 l i+if(gt l (i:Int)).Kind=2 then 1 else 0:=rfl;have mk:∀(t:Tm) (us:List Tm),t.size<=i+1->At l (i+1-t.size) t->t.ok->D3 l b i=((i+1-t.size:Nat):Int)->N0 l (i+1)=N0 l (i+1-t.size)+t.leaves->St l (b++[D3 l b i]) (i+1-t.size) us->∃ts,St l (b++[D3 l b i]) (i+1) ts:=
     fun t us h1 h2 h3 h4 h5 h6=>⟨t :: us,h1,h2,h3,by simp_all,h5,h6⟩
    generalize hx:gt l (i:Int)=x at *;have q:x.Kind≠2->x.Set=Z4:=fun h2=>F0X u (by simp_all[R9]);have g:x.Kind≠7->x.N=0:=fun h7=>by simp_all[R9]
    have j:D3 l b i=(if x.Kind=1\/x.Kind=2 then(if x.A=-1/\x.B=-1 then(i:Int)else -1)
      else if x.Kind=3\/x.Kind=4 then(if x.B=(i:Int)-1/\0<=x.B/\0<=x.A/\x.A=gt b x.B-1 then gt b x.A else -1)
      else if x.Kind=5\/x.Kind=6\/x.Kind=7\/x.Kind=8 then(if x.B=-1/\0<=x.A/\x.A=(i:Int)-1 then gt b x.A else -1)else -1):=by
     grind [D3]
    by_cases c1:x.Kind=1\/x.Kind=2
    ·rw[if_pos c1]at j
     by_cases p:x.A=-1/\x.B=-1
     ·rw[if_pos p]at j;rcases c1 with c1|c1
      ·have e:x=Tm.node i .eps:=by
        have:=q O';have:=g O';obtain⟨k,A,B,N,S⟩:=x;simp_all[Tm.node]
       exact mk .eps ts (by simp[Tm.size]) ((At.one rfl rfl).2 (by show l[i]?=some (Tm.node i .eps);rw[f,e])) trivial (by rw[j];simp[Tm.size]) (by rw[n,c1];simp[Tm.size,Tm.leaves]) (by simpa[Tm.size]using r)
      ·have e:x=Tm.node i (.leaf x.Set):=by
        have:=g O';obtain⟨k,A,B,N,S⟩:=x;simp only[Tm.node]at *;simp_all
       exact mk (.leaf x.Set) ts (by simp[Tm.size]) ((At.one rfl rfl).2 (by show l[i]?=some (Tm.node i (.leaf x.Set));rw[f];exact congrArg some e)) ⟨u.2.2.2.2.1,u.2.2.2.2.2⟩ (by rw[j];simp[Tm.size]) (by rw[n,c1];simp[Tm.size,Tm.leaves]) (by simpa[Tm.size]using r)
     omega
    ·rw[if_neg c1]at j
     by_cases c2:x.Kind=3\/x.Kind=4
     ·rw[if_pos c2]at j
      by_cases p:x.B=(i:Int)-1/\0<=x.B/\0<=x.A/\x.A=gt b x.B-1
      ·rw[if_pos p]at j;obtain⟨v,a1,I,C⟩:=p;cases ts with
       |nil=>have:i=0:=m;omega
       |cons tb ts=>
        obtain⟨p1,p2,p3,p4,p5,p6⟩:=m;have e1:gt b x.B=((i-tb.size:Nat):Int):=by rw[v,<-p4];congr 1;omega
        have z:x.A=((i-tb.size-1:Nat):Int):=O'
        cases ts with
        |nil=>have:i-tb.size=0:=p6;omega
        |cons ta ts=>
         obtain⟨q1,y,s,U,q5,J⟩:=p6;have hp:=ta.size_pos;have b1:=tb.size_pos;have R:D3 l b i=((i-tb.size-ta.size:Nat):Int):=by rw[j,z,U]
         have c:i+1-(ta.size+tb.size+1)=i-tb.size-ta.size:=O'
         have d:i-tb.size-ta.size+ta.size=i-tb.size:=O'
         have o:St l (b++[D3 l b i]) (i-tb.size-ta.size) ts:=St.snoc (by rw[ok.len];omega) J;rcases c2 with c2|c2
         ·have e:x=Tm.node (i-tb.size-ta.size) (.cat ta tb):=by
           have:=q O';have:=g O';obtain⟨k,A,B,N,S⟩:=x;simp only[Tm.node,Tm.top]at *;simp only[C0.mk.injEq];refine⟨c2,O',O',by assumption,by assumption⟩
          refine mk (.cat ta tb) ts (by simp[Tm.size];omega) ?_ ⟨s,p3⟩ (by simp only[Tm.size];omega) (by simp only[Tm.size,Tm.leaves,c,n,c2];simp;omega) (by simp only[Tm.size,c];exact o);simp only[Tm.size,c];exact(At.bin rfl rfl).2 ⟨y,by rw[d];exact p2,by rw[d,show i-tb.size+tb.size=i from O',f,e]⟩
         ·have e:x=Tm.node (i-tb.size-ta.size) (.alt ta tb):=by
           have:=q O';have:=g O';obtain⟨k,A,B,N,S⟩:=x;simp only[Tm.node,Tm.top]at *;simp only[C0.mk.injEq];refine⟨c2,O',O',by assumption,by assumption⟩
          refine mk (.alt ta tb) ts (by simp[Tm.size];omega) ?_ ⟨s,p3⟩ (by simp only[Tm.size];omega) (by simp only[Tm.size,Tm.leaves,c,n,c2];simp;omega) (by simp only[Tm.size,c];exact o);simp only[Tm.size,c];exact(At.bin rfl rfl).2 ⟨y,by rw[d];exact p2,by rw[d,show i-tb.size+tb.size=i from O',f,e]⟩
      ·rw[if_neg p]at j;omega
     ·rw[if_neg c2]at j
      by_cases c3:x.Kind=5\/x.Kind=6\/x.Kind=7\/x.Kind=8
      ·rw[if_pos c3]at j
       by_cases p:x.B=-1/\0<=x.A/\x.A=(i:Int)-1
       ·rw[if_pos p]at j;obtain⟨v,I,C⟩:=p;cases ts with
        |nil=>have:i=0:=m;omega
        |cons ta ts=>
         obtain⟨q1,y,s,U,q5,J⟩:=m;have hp:=ta.size_pos;have z:x.A=((i-1:Nat):Int):=O'
         have R:D3 l b i=((i-ta.size:Nat):Int):=by rw[j,z,U]
         have c:i+1-(ta.size+1)=i-ta.size:=O'
         have d:i-ta.size+ta.size=i:=O'
         have o:St l (b++[D3 l b i]) (i-ta.size) ts:=St.snoc (by rw[ok.len];omega) J;have fin:∀t:Tm,t.size=ta.size+1->t.leaves=ta.leaves->t.flat (i-ta.size)=ta.flat (i-ta.size)++[t.node (i-ta.size)]->t.ok->x=t.node (i-ta.size)->∃ts,St l (b++[D3 l b i]) (i+1) ts:=fun t s1 s2 s3 s4 e=>by
          refine mk t ts O' ?_ s4 O' (by rw[s1,c,s2,n,if_neg O'];omega) (by rw[s1,c];exact o);rw[s1,c];exact(At.un s1 s3).2 ⟨y,by rw[d,f,e]⟩
         have w:=q O';rcases c3 with c3|c3|c3|c3
         ·refine fin (.star ta) rfl rfl rfl s ?_;have:=g O';obtain⟨k,A,B,N,S⟩:=x;simp only[Tm.node,Tm.top]at *;simp only[C0.mk.injEq];refine⟨c3,O',v,by assumption,w⟩
         ·refine fin (.maybe ta) rfl rfl rfl s ?_;have:=g O';obtain⟨k,A,B,N,S⟩:=x;simp only[Tm.node,Tm.top]at *;simp only[C0.mk.injEq];refine⟨c3,O',v,by assumption,w⟩
         ·have hn:1<=x.N/\x.N<=9:=by simp only[R9,c3,and_eq_true,beq_self_eq_true,if_true,decide_eq_true_eq]at hf;exact hf.2
          refine fin (.group x.N ta) rfl rfl rfl ⟨hn.1,hn.2,s⟩ ?_;obtain⟨k,A,B,N,S⟩:=x;simp only[Tm.node,Tm.top]at *;simp only[C0.mk.injEq];refine⟨c3,O',v,trivial,w⟩
         ·refine fin (.iter ta) rfl rfl rfl s ?_;have:=g O';obtain⟨k,A,B,N,S⟩:=x;simp only[Tm.node,Tm.top]at *;simp only[C0.mk.injEq];refine⟨c3,O',v,by assumption,w⟩
       ·rw[if_neg p]at j;omega
      ·rw[if_neg c3]at j;omega
   grind
structure I4 (l:List C0)(t:Tm):Prop where
 eq:l=t.flat 0
 at0:At l 0 t
 ok:t.ok
 len:l.length=t.size
 le:t.size<=400
 lv:t.leaves<=64
def a0N {l:List C0}(hw:∀x∈l,P2 x)(h:L2 l=true):∃t,I4 l t:=by
 unfold L2 K4 at h;cases d:R4 l l.length with
 |none=>simp_all
 |some a=>
  simp only[d]at h;split at h
  ·grind
  ·rename_i i;obtain⟨ts,b⟩:=r00 hw d (Nat.le_refl _);cases ts with
   |nil=>exact absurd (.inl b) i
   |cons t ts=>
    obtain⟨n,e,f,j,k,m⟩:=b;have g:gt a ((l.length:Int)-1)=0:=by
     omega
    rw[show((l.length-1:Nat):Int)=(l.length:Int)-1 from O',g]at j;have hs:t.size=l.length:=O'
    rw[hs,Nat.sub_self]at e;have c:l=t.flat 0:=by
     grind [At]
    exact⟨t,c,e,f,hs.symm,O',O'⟩
def At.s0D {l:List C0}:∀{s:Tm} {lo:Nat},At l lo s->∀i,lo<=i->i<lo+s.size->∃lo' d,At l lo' d/\d.top lo'=i/\lo<=lo'/\d.size<=s.size:=by
 intro s;have f:∀(t:Tm) (lo:Nat),t.size=1->At l lo t->∀i,lo<=i->i<lo+t.size->∃lo' d,At l lo' d/\d.top lo'=i/\lo<=lo'/\d.size<=t.size:=fun t lo o h i h1 e=>⟨lo,t,h,by grind [Tm.top],O',O'⟩
 induction s with
 |eps=>exact fun h=>f _ _ rfl h
 |leaf s=>exact fun h=>f _ _ rfl h
 |cat a b iha ihb=>
  intro lo h i h1 e;obtain⟨ha,m,_⟩:=(At.bin rfl rfl).1 h;simp only[Tm.size]at e ⊢;rcases lt_or_ge i (lo+a.size)with c|c
  ·grind
  ·rcases lt_or_ge i (lo+a.size+b.size)with c2|c2
   ·obtain⟨lo',d,p1,g,j,k⟩:=ihb m i c c2;exact⟨lo',d,p1,g,O',O'⟩
   ·exact⟨lo,.cat a b,h,by grind [Tm.top,Tm.size],O',by simp[Tm.size]⟩
 |alt a b iha ihb=>
  intro lo h i h1 e;obtain⟨ha,m,_⟩:=(At.bin rfl rfl).1 h;simp only[Tm.size]at e ⊢;rcases lt_or_ge i (lo+a.size)with c|c
  ·grind
  ·rcases lt_or_ge i (lo+a.size+b.size)with c2|c2
   ·obtain⟨lo',d,p1,g,j,k⟩:=ihb m i c c2;exact⟨lo',d,p1,g,O',O'⟩
   ·exact⟨lo,.alt a b,h,N',O',by simp[Tm.size]⟩
 |star a iha=>
  intro lo h i h1 e;obtain⟨ha,_⟩:=(At.un rfl rfl).1 h;simp only[Tm.size]at e ⊢;rcases lt_or_ge i (lo+a.size)with c|c
  ·obtain⟨lo',d,p1,g,j,k⟩:=iha ha i h1 c;exact⟨lo',d,p1,g,j,O'⟩
  ·exact⟨lo,.star a,h,N',O',by simp[Tm.size]⟩
 |maybe a iha=>
  intro lo h i h1 e;obtain⟨ha,_⟩:=(At.un rfl rfl).1 h;simp only[Tm.size]at e ⊢;rcases lt_or_ge i (lo+a.size)with c|c
  ·obtain⟨lo',d,p1,g,j,k⟩:=iha ha i h1 c;exact⟨lo',d,p1,g,j,O'⟩
  ·exact⟨lo,.maybe a,h,N',O',by simp[Tm.size]⟩
 |group n a iha=>
  intro lo h i h1 e;obtain⟨ha,_⟩:=(At.un rfl rfl).1 h;simp only[Tm.size]at e ⊢;rcases lt_or_ge i (lo+a.size)with c|c
  ·obtain⟨lo',d,p1,g,j,k⟩:=iha ha i h1 c;exact⟨lo',d,p1,g,j,O'⟩
  ·exact⟨lo,.group n a,h,N',O',by simp[Tm.size]⟩
 |iter a iha=>
  intro lo h i h1 e;obtain⟨ha,_⟩:=(At.un rfl rfl).1 h;simp only[Tm.size]at e ⊢;rcases lt_or_ge i (lo+a.size)with c|c
  ·obtain⟨lo',d,p1,g,j,k⟩:=iha ha i h1 c;exact⟨lo',d,p1,g,j,O'⟩
  ·exact⟨lo,.iter a,h,N',O',by simp[Tm.size]⟩
theorem I4.node {l:List C0}{t:Tm}(h:I4 l t){i:Nat}(hi:i<l.length):∃lo s,At l lo s/\s.top lo=i:=by
 obtain⟨lo,s,h1,a,_⟩:=h.at0.s0D i O' (by rw[h.len]at hi;omega)
 grind
def Tm.can:Tm->Bool
 |.eps=>true|.leaf _=>false|.cat a b=>a.can&&b.can|.alt a b=>a.can||b.can
 |.star _=>true|.maybe _=>true|.group _ a=>a.can|.iter a=>a.can
def O7 (l:List C0)(c:List Bool)(i:Nat):Bool:=
 let x:=gt l (i:Int)
 if x.Kind=1\/x.Kind=5\/x.Kind=6 then true
 else if x.Kind=3 then gt c x.A&&gt c x.B else if x.Kind=4 then gt c x.A||gt c x.B else if x.Kind=7\/x.Kind=8 then gt c x.A else false
def l5 (l:List C0):Nat->List Bool
 |0=>[]
 |i+1=>l5 l i++[O7 l (l5 l i) i]
theorem f0k (l:List C0):∀i,(l5 l i).length=i
 |0=>rfl
 |i+1=>by simp[l5,f0k]
def d0W (l:List C0){i j:Nat}(h:j<i):gt (l5 l i) (j:Int)=O7 l (l5 l j) j:=by
 induction i with
 |zero=>omega
 |succ i ih=>
  grind [l5,e0v,f0k,b0Y]
def I0T {l:List C0}:∀{s:Tm} {lo:Nat},At l lo s->∀i,s.top lo<i->gt (l5 l i) (s.top lo:Int)=s.can:=by
 intro s
 induction s with
 |eps=>intro lo h i hi;rw[d0W l hi];simp[O7,h.N3,Tm.node,Tm.can]
 |leaf s=>intro lo h i hi;rw[d0W l hi];simp[O7,h.N3,Tm.node,Tm.can]
 |cat a b c ihb=>
  intro lo h i hi;rw[d0W l hi];obtain⟨ha,d,_⟩:=(At.bin rfl rfl).1 h;have:=b.size_pos;simp only[O7,h.N3,Tm.node,Tm.can]
  grind [Tm.top,Tm.size]
 |alt a b c ihb=>
  intro lo h i hi;rw[d0W l hi];obtain⟨ha,d,_⟩:=(At.bin rfl rfl).1 h;have:=b.size_pos;simp only[O7,h.N3,Tm.node,Tm.can]
  grind [Tm.top,Tm.size]
 |star a c=>intro lo h i hi;rw[d0W l hi];simp[O7,h.N3,Tm.node,Tm.can]
 |maybe a c=>intro lo h i hi;rw[d0W l hi];simp[O7,h.N3,Tm.node,Tm.can]
 |group n a c=>
  intro lo h i hi;rw[d0W l hi];obtain⟨ha,_⟩:=(At.un rfl rfl).1 h;have:=a.size_pos;simp only[O7,h.N3,Tm.node,Tm.can]
  grind [Tm.top,Tm.size]
 |iter a c=>
  intro lo h i hi;rw[d0W l hi];obtain⟨ha,_⟩:=(At.un rfl rfl).1 h;have:=a.size_pos;simp only[O7,h.N3,Tm.node,Tm.can]
  grind [Tm.top,Tm.size]
def M8 (l:List C0):List Bool:=if L2 l then l5 l l.length else[]
def v0I {l:List C0}{t:Tm}(g:I4 l t){i:Nat}(hi:i<l.length)(fuel:Nat):
  l0O fuel l ((i:Int),l5 l i++List.replicate (l.length-i) false)=some (.next (((i+1:Nat):Int),l5 l (i+1)++List.replicate (l.length-(i+1)) false))/\
  p0e fuel l ((i:Int),l5 l i++List.replicate (l.length-i) false)=some (.next (((i+1:Nat):Int),l5 l (i+1)++List.replicate (l.length-(i+1)) false)):=by
 have q:=g.le;have hlen:=g.len;have h1:(i:Int)<(l.length:Int):=O'
 have p:y0 l (i:Int)=true:=V0 O' O';have o:W ((i:Int)+1)=((i+1:Nat):Int):=X1 O';rw[k0H hi false];generalize hm:List.replicate (l.length-(i+1)) false=m;have f:∀(y:Bool),(l5 l i++false :: m).set i y=l5 l i++y :: m:=fun y=>l0M (f0k l i).symm;have d:∀(z:Nat),z<i->gt (l5 l i++false :: m) (z:Int)=gt (l5 l i) (z:Int):=fun z h=>b0Y O' (by grind [f0k]);have c:∀(z:Nat),z<=i->y0 (l5 l i++false :: m) (z:Int)=true:=fun z h=>V0 O' (by grind [f0k]);have j:=c i O';have r:l5 l (i+1)++m=l5 l i++O7 l (l5 l i) i :: m:=by simp[l5]
 rw[r];unfold l0O p0e;simp only[h1,decide_true,if_true,p,j,o,Int.toNat_natCast,f];obtain⟨lo,s,k,hs⟩:=g.node hi;have hg:=k.N3;rw[hs]at hg;cases s with
 |eps=>simp[hg,Tm.node,O7]
 |leaf s=>simp[hg,Tm.node,O7]
 |cat a b=>
  have:=b.size_pos;have e:a.top lo<i:=by rw[<-hs];simp only[Tm.top,Tm.size];omega
  have pb:b.top (lo+a.size)<i:=by rw[<-hs];simp only[Tm.top,Tm.size];omega
  simp only[hg,Tm.node,O7,c _ (le_of_lt e),c _ (le_of_lt pb),d _ e,d _ pb];cases gt (l5 l i) (a.top lo:Int)<;>simp
 |alt a b=>
  have:=b.size_pos;have e:a.top lo<i:=by rw[<-hs];simp only[Tm.top,Tm.size];omega
  have pb:b.top (lo+a.size)<i:=by rw[<-hs];simp only[Tm.top,Tm.size];omega
  simp only[hg,Tm.node,O7,c _ (le_of_lt e),c _ (le_of_lt pb),d _ e,d _ pb];cases gt (l5 l i) (a.top lo:Int)<;>simp
 |star a=>simp[hg,Tm.node,O7]
 |maybe a=>simp[hg,Tm.node,O7]
 |group n a=>
  have:=a.size_pos;have e:a.top lo<i:=by rw[<-hs];simp only[Tm.top,Tm.size];omega
  simp[hg,Tm.node,O7,c _ (le_of_lt e),d _ e]
 |iter a=>
  have:=a.size_pos;have e:a.top lo<i:=by rw[<-hs];simp only[Tm.top,Tm.size];omega
  simp[hg,Tm.node,O7,c _ (le_of_lt e),d _ e]
def n0E {l:List C0}(hw:∀x∈l,P2 x){fuel:Nat}(c:401<fuel):a0v fuel l=some (M8 l):=by
 unfold a0v M8;rw[c0y l c];cases hR:L2 l with
 |false=>rfl
 |true=>
  obtain⟨t,a⟩:=a0N hw hR;have b:=a.le;have hlen:=a.len;have d:R2 1 (l.length:Int)=true:=by grind [R2]
  have:=H3 (step:=l0O fuel l) (fun i=>((i:Int),l5 l i++List.replicate (l.length-i) false)) (l5 l l.length) l.length
   (fun i hi=>.inl (v0I a hi fuel).1) (by simp[l0O]) l.length 0 fuel O' O'
  simp only[l5,List.nil_append,sub_zero]at this
  simp_all
def t0D {l:List C0}(hw:∀x∈l,P2 x)(hl:l.length*64<=140737488351232){fuel:Nat}(d:401<fuel)(a:l.length+1<fuel):a0U fuel l=some (M8 l):=by
 unfold a0U M8;rw[e02 l hl a];cases hR:L2 l with
 |false=>rfl
 |true=>
  obtain⟨t,b⟩:=a0N hw hR;have c:R2 1 (l.length:Int)=true:=by grind [R2]
  have:=H3 (step:=p0e fuel l) (fun i=>((i:Int),l5 l i++List.replicate (l.length-i) false)) (l5 l l.length) l.length
   (fun i hi=>.inl (v0I b hi fuel).2) (by simp[p0e]) l.length 0 fuel O' O'
  simp only[l5,List.nil_append,sub_zero]at this
  simp_all
def G2 (l:List C0):Nat->List Int
 |0=>[]
 |i+1=>if(gt l (i:Int)).Kind=2 then G2 l i++[(i:Int)]else G2 l i
theorem K9 (l:List C0):∀i,(G2 l i).length=N0 l i
 |0=>rfl
 |i+1=>by simp only[G2,N0];split<;>simp[K9 l i]
def b0k (l:List C0):List Int:=if L2 l then G2 l l.length else[]
def r0W {l:List C0}(hl:l.length<=400){i:Nat}(hi:i<l.length)(fuel:Nat):
  p0Y fuel l (G2 l i,(i:Int))=some (.next (G2 l (i+1),((i+1:Nat):Int)))/\q0u fuel l (G2 l i,(i:Int))=some (.next (G2 l (i+1),((i+1:Nat):Int))):=by
 have b:y0 l (i:Int)=true:=V0 O' O';have a:W ((i:Int)+1)=((i+1:Nat):Int):=X1 O'
 grind [d0H,G2,B4,K9,p0Y,q0u]
def l07 {l:List C0}(hw:∀x∈l,P2 x){fuel:Nat}(c:401<fuel):C7 fuel l=some (b0k l):=by
 unfold C7 b0k;rw[c0y l c];cases hR:L2 l with
 |false=>rfl
 |true=>
  obtain⟨t,a⟩:=a0N hw hR;have b:=a.le;have hlen:=a.len;have:=H3 (step:=p0Y fuel l) (fun i=>(G2 l i,(i:Int))) (G2 l l.length) l.length (fun i hi=>.inl (r0W O' hi fuel).1) (by simp[p0Y]) l.length 0 fuel O' O';simp only[G2]at this
  simp_all
def y0w {l:List C0}(hw:∀x∈l,P2 x)(hl:l.length*64<=140737488351232){fuel:Nat}(d:401<fuel)(a:l.length+1<fuel):b0P fuel l=some (b0k l):=by
 unfold b0P b0k;rw[e02 l hl a];cases hR:L2 l with
 |false=>rfl
 |true=>
  obtain⟨t,b⟩:=a0N hw hR;have c:=b.le;have hlen:=b.len;have:=H3 (step:=q0u fuel l) (fun i=>(G2 l i,(i:Int))) (G2 l l.length) l.length (fun i hi=>.inl (r0W O' hi fuel).2) (by simp[q0u]) l.length 0 fuel O' O';simp only[G2]at this
  simp_all
def j00 (l:List C0){i j:Nat}(h:i<=j):N0 l i<=N0 l j:=by
 induction j with
 |zero=>simp_all
 |succ j ih=>
  by_cases e:i=j+1
  ·simp_all
  grind [N0]
def e05 (l:List C0):∀(i p:Nat),p<N0 l i->∃q:Nat,q<i/\(G2 l i)[p]?=some (q:Int)/\(gt l (q:Int)).Kind=2/\N0 l q=p
 |0,p,h=>by grind [N0]
 |i+1,p,h=>by
  simp only[N0,G2]at h ⊢
  by_cases hk:(gt l (i:Int)).Kind=2
  ·simp only[hk,if_true]at h ⊢
   by_cases e:p=N0 l i
   ·grind [K9]
   ·obtain⟨q,h1,b,c,a⟩:=e05 l i p O'
    grind
  ·simp only[hk,if_false,Nat.add_zero]at h ⊢;obtain⟨q,h1,b,c,a⟩:=e05 l i p h
   grind
def B7 (l:List C0):Nat->List Int
 |0=>[]
 |i+1=>B7 l i++[if(gt l (i:Int)).Kind=2 then(N0 l i:Int)else -1]
theorem d0s (l:List C0):∀i,(B7 l i).length=i
 |0=>rfl
 |i+1=>by simp[B7,d0s]
def m0u (l:List C0):∀(i j:Nat),j<i->(B7 l i)[j]?=some (if(gt l (j:Int)).Kind=2 then(N0 l j:Int)else -1)
 |0,j,h=>O'
 |i+1,j,h=>by
  simp only[B7]
  by_cases e:j=i
  ·simp_all[d0s]
  ·rw[List.getElem?_append_left (by grind [d0s])];exact m0u l i j O'
def e0m (l:List C0):List Int:=if L2 l then B7 l l.length else[]
def b0p (l:List C0)(p:Nat):Nat->List Int
 |0=>[]
 |i+1=>b0p l p i++[if(gt l (i:Int)).Kind=2/\N0 l i<p then(N0 l i:Int)else -1]
theorem c0z (l:List C0)(p:Nat):∀i,(b0p l p i).length=i
 |0=>rfl
 |i+1=>by simp[b0p,c0z]
def k0h (l:List C0)(p:Nat):∀(i j:Nat),j<i->(b0p l p i)[j]?=some (if(gt l (j:Int)).Kind=2/\N0 l j<p then(N0 l j:Int)else -1)
 |0,j,h=>O'
 |i+1,j,h=>by
  simp only[b0p]
  by_cases e:j=i
  ·simp_all[c0z]
  ·rw[List.getElem?_append_left (by grind [c0z])];exact k0h l p i j O'
def C0s (l:List C0){i j:Nat}(hi:(gt l (i:Int)).Kind=2)(a:(gt l (j:Int)).Kind=2)(h:N0 l i=N0 l j):i=j:=by
 rcases Nat.lt_trichotomy i j with c|c|c
 ·have:=j00 l (show i+1<=j from c);simp only[N0,hi,if_true]at this;omega
 ·exact c
 ·have:=j00 l (show j+1<=i from c);simp only[N0,a,if_true]at this;omega
def H00 (l:List C0){p q n:Nat}(c:q<n)(hk:(gt l (q:Int)).Kind=2)(hp:N0 l q=p):(b0p l p n).set q (p:Int)=b0p l (p+1) n:=by
 apply List.ext_getElem?;intro j
 by_cases a:j<n
 ·rw[k0h l _ n j a,List.getElem?_set]
  by_cases e:q=j
  ·simp_all[c0z]
  ·rw[if_neg e,k0h l _ n j a]
   by_cases b:(gt l (j:Int)).Kind=2
   ·have:N0 l j≠p:=fun h=>e (C0s l hk b (hp.trans h.symm))
    grind
   simp_all
 simp_all[c0z]
def t08 (l:List C0):∀n,b0p l 0 n=List.replicate n (-1)
 |0=>rfl
 |n+1=>by simp[b0p,t08,List.replicate_succ']
def y07 (l:List C0)(n:Nat):b0p l (N0 l n) n=B7 l n:=by
 apply List.ext_getElem?;intro j
 by_cases a:j<n
 ·rw[k0h l _ n j a,m0u l n j a]
  by_cases b:(gt l (j:Int)).Kind=2
  ·have:=j00 l (show j+1<=n from a);simp only[N0,b,if_true]at this
   grind
  simp_all
 simp_all[c0z,d0s]
def F0k {l:List C0}(hw:∀x∈l,P2 x){fuel:Nat}(f:401<fuel):b05 fuel l=some (e0m l):=by
 unfold b05 e0m;rw[c0y l f,l07 hw f];cases hR:L2 l with
 |false=>rfl
 |true=>
  obtain⟨t,d⟩:=a0N hw hR;have e:=d.le;have hlen:=d.len;have b:R2 8 (l.length:Int)=true:=by grind [R2]
  have o:=H3 (step:=p0g fuel (l.length:Int)) (fun i=>((i:Int),List.replicate i (-1)++List.replicate (l.length-i) 0)) (List.replicate l.length (-1)) l.length
   (fun i hi=>.inl (by
    have h1:(i:Int)<(l.length:Int):=O'
    have c:y0 (List.replicate i (-1:Int)++List.replicate (l.length-i) 0) (i:Int)=true:=V0 O' (by grind);unfold p0g;simp only[Int.toNat_natCast,h1,decide_true,if_true,c,X1 (show i<9223372036854775807 from O')]
    simp_all[k0H,List.replicate_succ'])) (by simp[p0g]) l.length 0 fuel O' O'
  have a:b0k l=G2 l l.length:=by simp[b0k,hR]
  have hle:=d0H l l.length;have h:=H3 (step:=p0t fuel (G2 l l.length)) (fun p=>((p:Int),b0p l p l.length)) (B7 l l.length) (N0 l l.length)
   (fun p hp=>.inl (by
    obtain⟨q,h1,r,m,j⟩:=e05 l l.length p hp;have g:(p:Int)<((G2 l l.length).length:Int):=by rw[K9];omega
    have k:y0 (G2 l l.length) (p:Int)=true:=V0 O' g;have n:y0 (b0p l p l.length) (q:Int)=true:=V0 O' (by rw[c0z];omega);unfold p0t;simp only[g,decide_true,if_true,k,X2 r,n,Int.toNat_natCast,H00 l h1 m j,X1 (show p<9223372036854775807 from O')])) (by unfold p0t;simp[K9,y07]) (N0 l l.length) 0 fuel O' O'
  simp only[q0,b,Int.toNat_natCast,a,List.length_replicate];simp only[List.replicate_zero,List.nil_append,sub_zero]at o;rw[t08]at h
  simp_all
def C0Y {l:List C0}(hw:∀x∈l,P2 x)(hl:l.length*64<=140737488351232){fuel:Nat}(h:401<fuel)(b:l.length+1<fuel):b0S fuel l=some (e0m l):=by
 unfold b0S e0m;rw[e02 l hl b];cases hR:L2 l with
 |false=>rfl
 |true=>
  obtain⟨t,g⟩:=a0N hw hR;have e:R2 8 (l.length:Int)=true:=by grind [R2]
  have f:=H3 (step:=n0Z fuel l) (fun i=>((N0 l i:Int),(i:Int),B7 l i++List.replicate (l.length-i) 0)) (B7 l l.length) l.length
   (fun i hi=>.inl (by
    have h1:(i:Int)<(l.length:Int):=O'
    have d:y0 l (i:Int)=true:=V0 O' O';have hle:=d0H l i;have c:∀(y:Int) m,y0 (B7 l i++y :: m) (i:Int)=true:=fun y m=>V0 O' (by grind [d0s]);have a:∀(x y:Int) m,(B7 l i++x :: m).set i y=B7 l i++y :: m:=fun x y m=>l0M (d0s l i).symm;unfold n0Z;rw[k0H hi 0];simp only[h1,decide_true,if_true,c,d,Int.toNat_natCast,a,X1 (show i<9223372036854775807 from O'),X1 (show N0 l i<9223372036854775807 from O'),B7,N0]
    grind)) (by simp[n0Z]) l.length 0 fuel O' O'
  simp only[B7,N0,List.nil_append,sub_zero]at f
  simp_all
