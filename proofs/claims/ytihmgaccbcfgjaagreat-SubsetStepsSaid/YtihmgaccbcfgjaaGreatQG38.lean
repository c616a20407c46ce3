/- P. Its conditions: none. -/
import Derived.Test.YtihmgaccbcfgjaaGreatQG23
import Derived.Test.YtihmgaccbcfgjaaGreatQMd
import Derived.Test.YtihmgaccbcfgjaaGreatQG31
open Nat (le_refl add_assoc lt_or_ge le_of_lt sub_zero)
open Bool (and_eq_true false_eq_true)
open Int (toNat_natCast)
set_option linter.all false
theorem Go.V' {P:Prop}(h:P:=by unfold Tm.top;omega):P:=h
theorem Go.U' {P:Prop}(h:P:=by simp only[Tm.top,Tm.size];omega):P:=h
namespace Go.Proofs.YtihmgaccbcfgjaaGreat.Old
open Go.V Go.RowKit
def P2 (x:C0):Prop:=(L5 .i64) x.Kind/\(L5 .i64) x.A/\(L5 .i64) x.B/\(L5 .i64) x.N/\(x.Set.length=4/\∀y∈x.Set,L5 .u64 y)
def Z4:List Int:=[0,0,0,0]
inductive Tm where
 |eps|leaf (s:List Int)|cat (a b:Tm)|alt (a b:Tm)|star (a:Tm)|maybe (a:Tm)|group (n:Int) (a:Tm)|iter (a:Tm)
def Tm.size:Tm->Nat
 |.eps=>1|.leaf _=>1|.cat a b=>a.size+b.size+1|.alt a b=>a.size+b.size+1
 |.star a=>a.size+1|.maybe a=>a.size+1|.group _ a=>a.size+1|.iter a=>a.size+1
def Tm.size_pos (t:Tm):0<t.size:=by cases t<;>simp[Tm.size]
def Tm.top (t:Tm)(lo:Nat):Nat:=lo+t.size-1
def Tm.node (lo:Nat):Tm->C0
 |.eps=>⟨1,-1,-1,0,Z4⟩
 |.leaf s=>⟨2,-1,-1,0,s⟩
 |.cat a b=>⟨3,(a.top lo:Int),(b.top (lo+a.size):Int),0,Z4⟩
 |.alt a b=>⟨4,(a.top lo:Int),(b.top (lo+a.size):Int),0,Z4⟩
 |.star a=>⟨5,(a.top lo:Int),-1,0,Z4⟩
 |.maybe a=>⟨6,(a.top lo:Int),-1,0,Z4⟩
 |.group n a=>⟨7,(a.top lo:Int),-1,n,Z4⟩
 |.iter a=>⟨8,(a.top lo:Int),-1,0,Z4⟩
def Tm.flat (lo:Nat):Tm->List C0
 |.eps=>[Tm.node lo .eps]
 |.leaf s=>[Tm.node lo (.leaf s)]
 |.cat a b=>a.flat lo++b.flat (lo+a.size)++[Tm.node lo (.cat a b)]
 |.alt a b=>a.flat lo++b.flat (lo+a.size)++[Tm.node lo (.alt a b)]
 |.star a=>a.flat lo++[Tm.node lo (.star a)]
 |.maybe a=>a.flat lo++[Tm.node lo (.maybe a)]
 |.group n a=>a.flat lo++[Tm.node lo (.group n a)]
 |.iter a=>a.flat lo++[Tm.node lo (.iter a)]
theorem Tm.O5 (t:Tm):∀lo,(t.flat lo).length=t.size:=by
 induction t<;>intro lo<;>simp[Tm.flat,Tm.size, *]<;>omega
def D3 (l:List C0)(a:List Int)(i:Nat):Int:=
 let x:=gt l (i:Int)
 if x.Kind=1\/x.Kind=2 then(if x.A=-1/\x.B=-1 then(i:Int)else -1)
 else if x.Kind=3\/x.Kind=4 then(if x.B=(i:Int)-1/\0<=x.B/\0<=x.A/\x.A=gt a x.B-1 then gt a x.A else -1)
 else if x.Kind=5\/x.Kind=6\/x.Kind=7\/x.Kind=8 then(if x.B=-1/\0<=x.A/\x.A=(i:Int)-1 then gt a x.A else -1)
 else -1
def g0W (x:C0):Bool:=gt x.Set 0==0&&(gt x.Set 1==0&&(gt x.Set 2==0&&gt x.Set 3==0))
def R9 (x:C0):Bool:=(x.Kind==2||g0W x)&&(if x.Kind==7 then decide (1<=x.N)&&decide (x.N<=9)else x.N==0)
def b0L (x:C0)(R0:List C0):Bool:=x.Kind==7&&R0.any fun y=>y.Kind==7&&y.N==x.N
def V9 (l:List C0)(a i:Nat):List C0:=(l.drop a).take (i-a)
def Z6 (l:List C0)(a:List Int)(i:Nat):Bool:=decide (0<=D3 l a i)&&R9 (gt l (i:Int))&&!b0L (gt l (i:Int)) (V9 l (D3 l a i).toNat i)
def R4 (l:List C0):Nat->Option (List Int)
 |0=>some []
 |i+1=>match R4 l i with
  |none=>none
  |some a=>if Z6 l a i then some (a++[D3 l a i])else none
def N0 (l:List C0):Nat->Nat
 |0=>0
 |i+1=>N0 l i+if(gt l (i:Int)).Kind=2 then 1 else 0
def d0H (l:List C0):∀i,N0 l i<=i
 |0=>le_refl _
 |i+1=>by have:=d0H l i;simp only[N0];split<;>omega
def K4 (l:List C0):List Int:=
 match R4 l l.length with
 |none=>[]
 |some a=>if l.length=0\/400<l.length\/64<N0 l l.length\/gt a ((l.length:Int)-1)≠0 then[]else a
def L2 (l:List C0):Bool:=!(K4 l).isEmpty
structure f0D (a:List Int)(i:Nat):Prop where
 len:a.length=i
 rng:∀j:Nat,j<i->0<=gt a (j:Int)/\gt a (j:Int)<=j
def r0J {l:List C0}{a:List Int}{i:Nat}(h:f0D a i)(c:0<=D3 l a i):D3 l a i<=i:=by
 have b:∀z:Int,0<=z->z<i->gt a z<=z:=fun z h1 e=>by
  have:=(h.rng z.toNat O').2
  rwa [show((z.toNat:Nat):Int)=z from O']at this
 have d:∀z:Int,0<=z->z<i->0<=gt a z:=fun z h1 e=>by
  have:=(h.rng z.toNat O').1
  rwa [show((z.toNat:Nat):Int)=z from O']at this
 revert c
 unfold D3;simp only;generalize gt l (i:Int)=x
 repeat' split
 all_goals intro c
 all_goals first
  |omega
  |(rename_i h1;have f:=b x.A O' (by first|omega|(have:=b x.B O' O';omega));first|omega|(have:=b x.B O' O';omega))
def f0D.snoc {l:List C0}{a:List Int}{i:Nat}(h:f0D a i)(b:0<=D3 l a i):f0D (a++[D3 l a i]) (i+1):=by
 refine⟨by simp[h.len],fun j c=>?_⟩
 by_cases e:j=i
 ·subst e;rw[e0v h.len.symm];exact⟨b,r0J h b⟩
 ·rw[b0Y O' (by rw[h.len];omega)];exact h.rng j O'
def c07 {l:List C0}:∀{i:Nat} {a:List Int},R4 l i=some a->f0D a i
 |0,a,h=>by simp[R4]at h;subst h;exact⟨rfl,fun j d=>O'⟩
 |i+1,a,h=>by
  simp only[R4]at h;split at h
  ·cases h
  ·rename_i b c;split at h
   ·rename_i hg;cases h;simp only[Z6,and_eq_true,decide_eq_true_eq]at hg;exact(c07 c).snoc hg.1.1
   ·cases h
def x0Y {l:List C0}{a:List Int}{i:Nat}(fuel:Nat)(hi:i<l.length)(ha:f0D a i)(v:i<4611686018427387904):c0u fuel l a (i:Int)=some (D3 l a i):=by
 have t:y0 l (i:Int)=true:=V0 O' O';have u:W ((i:Int)-1)=(i:Int)-1:=E3 O' O';have p:∀z:Int,0<=z->z<i->gt a z<=z/\0<=gt a z:=fun z h1 o=>by
  have:=ha.rng z.toNat O'
  rwa [show((z.toNat:Nat):Int)=z from O',and_comm]at this
 have hl:=ha.len;unfold c0u D3;simp only[t,if_true,u];generalize gt l (i:Int)=x;have g:∀z:Int,0<=z->z<i->y0 a z=true:=fun z h1 o=>V0 h1 O';have m:0<=x.B->x.B<i->W (gt a x.B-1)=gt a x.B-1:=fun h1 o=>E3 (by have:=p x.B h1 o;omega) (by have:=p x.B h1 o;omega);obtain⟨k,A,B,N,S⟩:=x;simp only at m ⊢
 by_cases c1:k=1\/k=2
 ·have s:((if(k==1)=true then some (k==1)else some (k==2)):Option Bool)=some true:=by rcases c1 with rfl|rfl<;>rfl
  simp only[s,G0,if_true,c1]
  by_cases d:A=-1<;>by_cases b:B=-1<;>simp[d,b]
 ·have s:((if(k==1)=true then some (k==1)else some (k==2)):Option Bool)=some false:=by
   have:¬k=1:=fun h=>c1 (.inl h);have:¬k=2:=fun h=>c1 (.inr h);simp[*]
  simp only[q0,s,c1]
  by_cases c2:k=3\/k=4
  ·have q:((if(k==3)=true then some (k==3)else some (k==4)):Option Bool)=some true:=by rcases c2 with rfl|rfl<;>rfl
   simp only[q,G0,if_true,c2]
   by_cases b:0<=B
   ·by_cases f:B=(i:Int)-1
    ·have e:(1:Int)<=(i:Int):=O'
     have n:=g B b O';have hw:=m b O'
     by_cases d:0<=A
     ·by_cases c:A=gt a B-1
      ·have:=p B b O';have j:=g A d O';simp only[ge_iff_le,b,f,d,decide_true,if_true,beq_self_eq_true]at *;simp only[n,if_true,hw,G0,c,beq_self_eq_true];rw[<-c];simp only[j,if_true,G0];simp[e]
      ·simp only[ge_iff_le,b,f,d,decide_true,if_true,beq_self_eq_true]at *;simp[n,hw,c,e]
     ·simp only[q0,ge_iff_le,b,f,d,beq_self_eq_true]at *;simp[d,e]
    ·simp[b,f]
   ·simp[b]
  ·have q:((if(k==3)=true then some (k==3)else some (k==4)):Option Bool)=some false:=by
    have:¬k=3:=fun h=>c2 (.inl h);have:¬k=4:=fun h=>c2 (.inr h);simp[*]
   simp only[q0,q,c2]
   by_cases c3:k=5\/k=6\/k=7\/k=8
   ·have r:((if(k==5)=true then some (k==5)else if(k==6)=true then some (k==6)else if(k==7)=true then some (k==7)else some (k==8)):Option Bool)=some true:=by rcases c3 with rfl|rfl|rfl|rfl<;>rfl
    simp only[r,G0,if_true,c3]
    by_cases b:B=-1
    ·by_cases d:0<=A
     ·by_cases c:A=(i:Int)-1
      ·have j:=g A d O';have e:(1:Int)<=(i:Int):=O'
       simp only[ge_iff_le,b,d,c,decide_true,if_true,beq_self_eq_true]at *;simp[j,e]
      ·simp[b,d,c]
     ·simp[b,d]
    ·simp[b]
   ·have r:((if(k==5)=true then some (k==5)else if(k==6)=true then some (k==6)else if(k==7)=true then some (k==7)else some (k==8)):Option Bool)=some false:=by
     have:¬k=5:=fun h=>c3 (by simp[h]);have:¬k=6:=fun h=>c3 (by simp[h]);have:¬k=7:=fun h=>c3 (by simp[h]);have:¬k=8:=fun h=>c3 (by simp[h]);simp[*]
    simp only[q0,r,c3]
def I0C (fuel:Nat)(x:C0):c0v fuel x=some (R9 x):=by
 unfold c0v R9 g0W
 grind
def H0j (fuel:Nat)(x:C0)(R0:List C0)(e:R0.length<fuel)(hs:R0.length<4611686018427387904):c0b fuel x R0=some (b0L x R0):=by
 have key:∀k i,i+k=R0.length->iter (o0y fuel x R0) (k+1) (i:Int)=some (if(x.Kind==7&&(R0.drop i).any fun y=>y.Kind==7&&y.N==x.N)then .inl ()else .inr ()):=by
  intro k
  induction k with
  |zero=>
   intro i hi;unfold iter o0y;have:¬((i:Int)<(R0.length:Int)):=O'
   rw[List.drop_of_length_le O'];simp[this]
  |succ k d=>
   intro i hi;have a:i<R0.length:=O'
   have c:y0 R0 (i:Int)=true:=V0 O' O';have hg:gt R0 (i:Int)=R0[i]:=X2 (by simp[a]);have hd:R0.drop i=R0[i] :: R0.drop (i+1):=List.drop_eq_getElem_cons a;have b:(i:Int)<(R0.length:Int):=O'
   have d:=d (i+1) O';have hs:o0y fuel x R0 (i:Int)=some (if x.Kind==7&&(R0[i].Kind==7&&R0[i].N==x.N)then .done (.inl ())else .next ((i+1:Nat):Int)):=by
    unfold o0y;simp only[b,decide_true,if_true,c,hg,X1 (show i<9223372036854775807 from O')];cases x.Kind==7<;>cases R0[i].Kind==7<;>cases R0[i].N==x.N<;>rfl
   unfold iter;rw[hs,hd,List.any_cons];cases h1:x.Kind==7<;>cases f:(R0[i].Kind==7&&R0[i].N==x.N)<;>simp_all
 unfold c0b;rw[show(0:Int)=((0:Nat):Int)from rfl,q0S (key R0.length 0 O') O'];unfold b0L;rw[List.drop_zero];simp only[G0];split<;>simp_all
def r06 {l:List C0}{i:Nat}(h:R4 l i=none):∀k,R4 l (i+k)=none
 |0=>h
 |k+1=>by simp_all[add_assoc,R4,r06]
def d0L (l:List C0):Unit⊕(List Int×Int):=match R4 l l.length with|none=>.inl ()|some b=>.inr (b,(N0 l l.length:Int))
def w0a {l:List C0}{i:Nat}(h:R4 l i=none)(hi:i<=l.length):d0L l=.inl ():=by
 have:=r06 h (l.length-i);rw[show i+(l.length-i)=l.length from O']at this;simp[d0L,this]
def H0c {l:List C0}{a:Int}{i:Nat}(h:0<=a):G1 l a (i:Int)=V9 l a.toNat i:=by
 grind [G1,V9]
def x0v {l:List C0}{a i:Nat}:(V9 l a i).length<=i:=by grind [V9]
def G0V {l:List C0}{a:List Int}{i:Nat}{fuel:Nat}(h:R4 l i=some a)(hi:i<l.length)(hl:l.length<=400)(k:400<fuel):
  m00 fuel l (a,(N0 l i:Int),(i:Int))=if Z6 l a i then some (.next (a++[D3 l a i],(N0 l (i+1):Int),((i+1:Nat):Int)))else some (.done (.inl ())):=by
 have ok:=c07 h;have e:y0 l (i:Int)=true:=V0 O' O';have g:=d0H l i;have h1:(i:Int)<(l.length:Int):=O'
 have f:W ((N0 l i:Int)+1)=((N0 l i+1:Nat):Int):=X1 O';have b:W ((i:Int)+1)=((i+1:Nat):Int):=X1 O';have c:∀x:Int,K0 8 a [x]=true:=fun x=>B4 (by rw[ok.len];simp;omega);unfold m00;simp only[q0,h1,e,x0Y fuel hi ok O',I0C,f,b,c]
 by_cases hn:D3 l a i<0
 ·have hg:Z6 l a i=false:=by unfold Z6;simp;intro;omega
  simp[hn,hg]
 ·have j:=r0J (l:=l) ok O';have d:P3 l (D3 l a i) (i:Int)=true:=by simp[P3];omega
  simp only[q0,hn,d,H0c (show 0<=D3 l a i from O')];have hs:(V9 l (D3 l a i).toNat i).length<=i:=x0v;rw[H0j fuel _ _ O' O'];have hg:Z6 l a i=(R9 (gt l (i:Int))&&!b0L (gt l (i:Int)) (V9 l (D3 l a i).toNat i)):=by unfold Z6;simp[show 0<=D3 l a i from O']
  rw[hg];generalize b0L (gt l (i:Int)) (V9 l (D3 l a i).toNat i)=ag;generalize R9 (gt l (i:Int))=fb
  by_cases hk:(gt l (i:Int)).Kind=2
  ·cases fb<;>cases ag<;>simp[hk,N0]
  ·cases fb<;>cases ag<;>simp[hk,N0]
def u0V {l:List C0}{fuel:Nat}(hl:l.length<=400)(b:400<fuel):∀(k i:Nat) (a:List Int),R4 l i=some a->i+k=l.length->∀m,k<m->iter (m00 fuel l) m (a,(N0 l i:Int),(i:Int))=some (d0L l)
 |0,i,a,h,hi,m,hm=>by
  obtain⟨m,rfl⟩:∃q,m=q+1:=⟨m-1,O'⟩
  have:¬(i:Int)<(l.length:Int):=O'
  obtain rfl:i=l.length:=O'
  unfold iter m00;simp[d0L,h]
 |k+1,i,a,h,hi,m,hm=>by
  obtain⟨m,rfl⟩:∃q,m=q+1:=⟨m-1,O'⟩
  unfold iter;rw[G0V h O' hl b]
  by_cases hg:Z6 l a i=true
  ·rw[if_pos hg];exact u0V hl b k (i+1) _ (by simp only[R4,h,hg,if_true]) O' m O'
  ·rw[if_neg hg,w0a (i:=i+1) (by simp only[R4,h];simp[hg]) O']
def q08 (l:List C0){fuel:Nat}(h:401<fuel):I9 fuel l=some (K4 l):=by
 unfold I9 K4
 by_cases f:l.length=0
 ·grind
 ·by_cases i:400<l.length
  ·grind
  ·have a:¬(l.length:Int)>400:=O'
   have c:=u0V (l:=l) (fuel:=fuel) O' O' l.length 0 [] rfl O' fuel O';simp only[q0,beq_iff_eq,Int.natCast_eq_zero,f,a];rw[show(([]:List Int),(0:Int),(0:Int))=([],(N0 l 0:Int),((0:Nat):Int))from rfl,c];simp only[G0,d0L];cases g:R4 l l.length with
   |none=>rfl
   |some b=>
    have ok:=c07 g;have hw:W ((l.length:Int)-1)=(l.length:Int)-1:=E3 O' O';have d:y0 b ((l.length:Int)-1)=true:=V0 O' (by rw[ok.len];omega);have e:h08 b=true:=by
     have:=ok.len;cases b with
     |nil=>grind
     |cons x y=>rfl
    grind
def c0y (l:List C0){fuel:Nat}(a:401<fuel):l6 fuel l=some (L2 l):=by
 unfold l6 L2;rw[q08 l a];cases K4 l<;>simp
def C0i (fuel:Nat)(k:Int):c0t fuel k=some (decide (3<=k)&&decide (k<=8),k==3||k==4):=by
 grind [c0t]
def or_some {b c:Bool}:(if b=true then some true else some c)=some (b||c):=by cases b<;>rfl
def T0p {b c:Bool}:(if b=true then some c else some false)=some (b&&c):=by cases b<;>rfl
def q0R (l:List C0)(fuel:Nat){i:Nat}(hi:i<l.length)(g:i<4611686018427387904):∀(k a:Nat),a+k=i->∀m,k<m->
  iter (n0Y fuel l (i:Int)) m (a:Int)=some (if b0L (gt l (i:Int)) (V9 l a i)then .inl ()else .inr ())
 |0,a,ha,m,hm=>by
  obtain⟨m,rfl⟩:∃q,m=q+1:=⟨m-1,O'⟩
  obtain rfl:a=i:=O'
  unfold iter n0Y;simp[b0L,V9]
 |k+1,a,ha,m,hm=>by
  obtain⟨m,rfl⟩:∃q,m=q+1:=⟨m-1,O'⟩
  have c:a<l.length:=O'
  have e:y0 l (a:Int)=true:=V0 O' O';have d:(a:Int)<(i:Int):=O'
  have hg:gt l (a:Int)=l[a]:=X2 (by simp[c]);have b:V9 l a i=l[a] :: V9 l (a+1) i:=by
   unfold V9;rw[List.drop_eq_getElem_cons c,show i-a=(i-(a+1))+1 from O',List.take_succ_cons]
  have f:=q0R l fuel hi g k (a+1) O' m O';have step:n0Y fuel l (i:Int) (a:Int)=some (if((gt l (i:Int)).Kind==7&&(gt l (a:Int)).Kind==7)&&(gt l (a:Int)).N==(gt l (i:Int)).N then .done (.inl ())else .next ((a+1:Nat):Int)):=by
   unfold n0Y;simp only[q0,d,e,X1 (show a<9223372036854775807 from O'),T0p];split<;>rfl
  unfold iter;rw[step,b];unfold b0L at f ⊢;rw[List.any_cons,<-hg];cases h1:(gt l (i:Int)).Kind==7<;>cases j:(gt l (a:Int)).Kind==7<;>cases h:(gt l (a:Int)).N==(gt l (i:Int)).N<;>simp_all
def G0X (x:C0):
  ((((decide (x.Kind<1)||decide (x.Kind>8))||(x.Kind != 2&&!((gt x.Set 0==0)&&((gt x.Set 1==0)&&((gt x.Set 2==0)&&(gt x.Set 3==0))))))||(x.Kind != 7&&x.N != 0))||(x.Kind==7&&(decide (x.N<1)||decide (x.N>9))))
  = (decide (x.Kind<1)||decide (x.Kind>8)||!R9 x):=by
 unfold R9 g0W;obtain⟨k,A,B,N,S⟩:=x;simp only;generalize ((gt S 0==0)&&((gt S 1==0)&&((gt S 2==0)&&(gt S 3==0))))=z
 by_cases h1:k<1
 ·simp[h1]
 ·by_cases b:k>8
  ·simp[b]
  ·by_cases c:k=2
   ·subst c;by_cases hn:N=0<;>simp[hn,bne]
   ·by_cases a:k=7
    ·subst a;cases z<;>by_cases e:N<1<;>by_cases n9:N>9<;>simp[e,n9]<;>omega
    ·have d:(k==2)=false:=by simpa using c
     have f:(k==7)=false:=by simpa using a
     cases z<;>by_cases hn:N=0<;>simp[h1,b,d,f,hn,bne]
def B0u {l:List C0}{a:List Int}{i:Nat}(h:¬(1<=(gt l (i:Int)).Kind/\(gt l (i:Int)).Kind<=8)):Z6 l a i=false:=by
 have:D3 l a i=-1:=by
  unfold D3
  grind
 grind [Z6]
def s0q {l:List C0}{a:List Int}{i:Nat}{fuel:Nat}(h:R4 l i=some a)(hi:i<l.length)(hl:l.length<2199023255552)(hf:l.length<fuel):
  m0R fuel l ((N0 l i:Int),(i:Int),a++List.replicate (l.length-i) 0) =
   if Z6 l a i then some (.next ((N0 l (i+1):Int),((i+1:Nat):Int),a++[D3 l a i]++List.replicate (l.length-(i+1)) 0))else some (.done (.inl ())):=by
 have ok:=c07 h;have b4:y0 l (i:Int)=true:=V0 O' O';have b6:=d0H l i;have h1:(i:Int)<(l.length:Int):=O'
 have hW:W ((N0 l i:Int)+1)=((N0 l i+1:Nat):Int):=X1 O';have U:W ((i:Int)+1)=((i+1:Nat):Int):=X1 O';have b3:W ((i:Int)-1)=(i:Int)-1:=E3 O' O';have hlen:(a++List.replicate (l.length-i) (0:Int)).length=l.length:=by simp[ok.len];omega
 have s:y0 (a++List.replicate (l.length-i) (0:Int)) (i:Int)=true:=V0 O' (by rw[hlen];omega);have u:List.replicate (l.length-i) (0:Int)=0 :: List.replicate (l.length-(i+1)) 0:=k0H hi 0;have r:∀(x y:Int) (m:List Int),(a++x :: m).set i y=a++y :: m:=fun x y m=>l0M ok.len.symm;have k:∀(x:Int) (m:List Int),gt (a++x :: m) (i:Int)=x:=fun x m=>e0v ok.len.symm;have o:∀(z x:Int) (m:List Int),0<=z->z<i->gt (a++x :: m) z=gt a z:=fun z x m p C=>b0Y p (by rw[ok.len];omega);have g:∀(z x:Int) (m:List Int),0<=z->z<=i->y0 (a++x :: m) z=true:=fun z x m p C=>V0 p (by simp[ok.len];omega);have hr:∀z:Int,0<=z->z<i->gt a z<=z/\0<=gt a z:=fun z h1 C=>by
  have:=ok.rng z.toNat O'
  rwa [show((z.toNat:Nat):Int)=z from O',and_comm]at this
 have tail:∀v:Int,0<=v->v<=i->D3 l a i=v->R9 (gt l (i:Int))=true->
   (Option.bind (iter (n0Y fuel l (i:Int)) fuel v) fun z_=>match z_ with
    |.inl _=>(some (.done (.inl ())):Option (Q0 (Int×Int×List Int) (Unit⊕(Int×List Int))))
    |.inr _=>some (.next ((N0 l (i+1):Int),W ((i:Int)+1),a++v :: List.replicate (l.length-(i+1)) 0))) =
   if Z6 l a i then some (.next ((N0 l (i+1):Int),((i+1:Nat):Int),a++[v]++List.replicate (l.length-(i+1)) 0))else some (.done (.inl ())):=by
  intro v p C d f;obtain⟨q,rfl⟩:=Int.eq_ofNat_of_zero_le p;rw[q0R l fuel hi O' (i-q) q O' fuel O'];have hg:Z6 l a i=!b0L (gt l (i:Int)) (V9 l q i):=by unfold Z6;rw[d,f];simp
  rw[hg]
  by_cases hc:b0L (gt l (i:Int)) (V9 l q i)=true
  ·simp[hc]
  ·simp[hc,U]
 unfold m0R;simp only[q0,h1,b4,s,C0i,or_some,T0p,G0X];rw[u]
 by_cases hk:1<=(gt l (i:Int)).Kind/\(gt l (i:Int)).Kind<=8
 ·have a1:¬(gt l (i:Int)).Kind<1:=O'
  have I:¬(gt l (i:Int)).Kind>8:=O'
  simp only[a1,I,decide_false,Bool.false_or];cases f:R9 (gt l (i:Int))with
  |false=>
   have hg:Z6 l a i=false:=by simp[Z6,f]
   simp[hg]
  |true=>
   simp only[q0,Bool.false_and,Bool.true_and,Bool.or_false,Bool.false_or,Bool.or_true,toNat_natCast,r,k,b3];have J:((if((gt l (i:Int)).Kind==2)=true then some (W ((N0 l i:Int)+1))else some (N0 l i:Int)):Option Int)=some ((N0 l (i+1):Nat):Int):=by
    rw[hW]
    by_cases C:(gt l (i:Int)).Kind=2<;>simp[C,N0]
   simp only[J,G0];have bad:D3 l a i=-1->Z6 l a i=false:=fun b2=>by simp[Z6,b2]
   by_cases c1:(gt l (i:Int)).Kind=1\/(gt l (i:Int)).Kind=2
   ·have R:(decide (3<=(gt l (i:Int)).Kind)&&decide ((gt l (i:Int)).Kind<=8))=false:=by rcases c1 with h|h<;>simp[h]
    have w:((gt l (i:Int)).Kind==3||(gt l (i:Int)).Kind==4)=false:=by rcases c1 with h|h<;>simp[h]
    have d:D3 l a i=if(gt l (i:Int)).A=-1/\(gt l (i:Int)).B=-1 then(i:Int)else -1:=by unfold D3;simp only;rw[if_pos c1]
    simp only[q0,R,w,Bool.false_and,Bool.true_and,Bool.or_false,Bool.false_or,Bool.or_true]
    by_cases b:(gt l (i:Int)).A=-1
    ·by_cases e:(gt l (i:Int)).B=-1
     ·have c:D3 l a i=i:=by rw[d,if_pos ⟨b,e⟩]
      simp only[q0,b,e,bne_self_eq_false,Bool.false_and,Bool.true_and,Bool.or_false,Bool.false_or,Bool.or_true,g i i _ O' O',k];refine(tail i O' O' c f).trans ?_;rw[c]
     ·rw[bad (by rw[d,if_neg (fun h=>e h.2)])];simp[b,e]
    ·rw[bad (by rw[d,if_neg (fun h=>b h.1)])];simp[b]
   ·have R:(decide (3<=(gt l (i:Int)).Kind)&&decide ((gt l (i:Int)).Kind<=8))=true:=by simp;omega
    simp only[q0,R,Bool.false_and,Bool.true_and,Bool.or_false,Bool.false_or,Bool.or_true]
    by_cases c2:(gt l (i:Int)).Kind=3\/(gt l (i:Int)).Kind=4
    ·have w:((gt l (i:Int)).Kind==3||(gt l (i:Int)).Kind==4)=true:=by rcases c2 with h|h<;>simp[h]
     have d:D3 l a i=if(gt l (i:Int)).B=(i:Int)-1/\0<=(gt l (i:Int)).B/\0<=(gt l (i:Int)).A/\(gt l (i:Int)).A=gt a (gt l (i:Int)).B-1 then gt a (gt l (i:Int)).A else -1:=by unfold D3;simp only;rw[if_neg c1,if_pos c2]
     simp only[q0,w,Bool.false_and,Bool.true_and,Bool.or_false,Bool.false_or,Bool.or_true]
     by_cases e:(gt l (i:Int)).B=(i:Int)-1
     ·by_cases t:(i:Int)-1<0
      ·rw[bad (by rw[d,if_neg (fun h=>O')])];simp only[q0,e,bne_self_eq_false,Bool.false_and,Bool.true_and,Bool.or_false,Bool.false_or,Bool.or_true,t]
      ·have b5:=hr ((i:Int)-1) O' O';have b1:W (gt a ((i:Int)-1)-1)=gt a ((i:Int)-1)-1:=E3 O' O';simp only[q0,e,bne_self_eq_false,Bool.false_and,Bool.true_and,Bool.or_false,Bool.false_or,Bool.or_true,t,g _ _ _ (show 0<=(i:Int)-1 from O') O',o _ _ _ (show 0<=(i:Int)-1 from O') O',b1]
       by_cases b:(gt l (i:Int)).A=gt a ((i:Int)-1)-1
       ·by_cases j:gt a ((i:Int)-1)-1<0
        ·rw[bad (by rw[d,if_neg (fun h=>O')])];simp only[q0,b,bne_self_eq_false,Bool.false_and,Bool.true_and,Bool.or_false,Bool.false_or,Bool.or_true,j]
        ·have n:=hr (gt a ((i:Int)-1)-1) O' O';have c:D3 l a i=gt a (gt a ((i:Int)-1)-1):=by rw[d,e,if_pos ⟨rfl,O',O',b⟩,b]
         simp only[q0,b,bne_self_eq_false,Bool.false_and,Bool.true_and,Bool.or_false,Bool.false_or,Bool.or_true,j,g _ _ _ (show 0<=gt a ((i:Int)-1)-1 from O') O',g i _ _ O' O',o _ _ _ (show 0<=gt a ((i:Int)-1)-1 from O') O',k];refine(tail _ n.2 O' c f).trans ?_;rw[c]
       ·rw[bad (by rw[d,e,if_neg (fun h=>b h.2.2.2)])];simp[b]
     ·rw[bad (by rw[d,if_neg (fun h=>e h.1)])];simp[e]
    ·have c3:(gt l (i:Int)).Kind=5\/(gt l (i:Int)).Kind=6\/(gt l (i:Int)).Kind=7\/(gt l (i:Int)).Kind=8:=O'
     have w:((gt l (i:Int)).Kind==3||(gt l (i:Int)).Kind==4)=false:=by rcases c3 with h|h|h|h<;>simp[h]
     have d:D3 l a i=if(gt l (i:Int)).B=-1/\0<=(gt l (i:Int)).A/\(gt l (i:Int)).A=(i:Int)-1 then gt a (gt l (i:Int)).A else -1:=by unfold D3;simp only;rw[if_neg c1,if_neg c2,if_pos c3]
     simp only[q0,w,Bool.false_and,Bool.true_and,Bool.or_false,Bool.false_or,Bool.or_true]
     by_cases e:(gt l (i:Int)).B=-1
     ·simp only[q0,e,bne_self_eq_false,Bool.false_and,Bool.true_and,Bool.or_false,Bool.false_or,Bool.or_true]
      by_cases b:(gt l (i:Int)).A=(i:Int)-1
      ·by_cases j:(i:Int)-1<0
       ·rw[bad (by rw[d,if_neg (fun h=>O')])];simp only[q0,b,bne_self_eq_false,Bool.false_and,Bool.true_and,Bool.or_false,Bool.false_or,Bool.or_true,j]
       ·have n:=hr ((i:Int)-1) O' O';have c:D3 l a i=gt a ((i:Int)-1):=by rw[d,b,if_pos ⟨e,O',rfl⟩]
        simp only[q0,b,bne_self_eq_false,Bool.false_and,Bool.true_and,Bool.or_false,Bool.false_or,Bool.or_true,j,g _ _ _ (show 0<=(i:Int)-1 from O') O',g i _ _ O' O',o _ _ _ (show 0<=(i:Int)-1 from O') O',k];refine(tail _ n.2 O' c f).trans ?_;rw[c]
      ·rw[bad (by rw[d,if_neg (fun h=>b h.2.2)])];simp[b]
     ·rw[bad (by rw[d,if_neg (fun h=>e h.1)])];simp[e]
 ·rw[B0u hk];have:(decide ((gt l (i:Int)).Kind<1)||decide ((gt l (i:Int)).Kind>8)||!R9 (gt l (i:Int)))=true:=by
   by_cases h8:(gt l (i:Int)).Kind<1
   ·simp[h8]
   ·have:(gt l (i:Int)).Kind>8:=O'
    simp[this]
  simp[this]
def R0A (l:List C0):Unit⊕(Int×List Int):=match R4 l l.length with|none=>.inl ()|some b=>.inr ((N0 l l.length:Int),b)
def T03 {l:List C0}{i:Nat}(h:R4 l i=none)(hi:i<=l.length):R0A l=.inl ():=by
 have:=r06 h (l.length-i);rw[show i+(l.length-i)=l.length from O']at this;simp[R0A,this]
def s0i {l:List C0}{fuel:Nat}(hl:l.length<2199023255552)(b:l.length<fuel):∀(k i:Nat) (a:List Int),R4 l i=some a->i+k=l.length->∀m,k<m->
  iter (m0R fuel l) m ((N0 l i:Int),(i:Int),a++List.replicate (l.length-i) 0)=some (R0A l)
 |0,i,a,h,hi,m,hm=>by
  obtain⟨m,rfl⟩:∃q,m=q+1:=⟨m-1,O'⟩
  obtain rfl:i=l.length:=O'
  unfold iter m0R;simp[R0A,h]
 |k+1,i,a,h,hi,m,hm=>by
  obtain⟨m,rfl⟩:∃q,m=q+1:=⟨m-1,O'⟩
  unfold iter;rw[s0q h O' hl b]
  by_cases hg:Z6 l a i=true
  ·rw[if_pos hg];exact s0i hl b k (i+1) _ (by simp only[R4,h,hg,if_true]) O' m O'
  ·rw[if_neg hg,T03 (i:=i+1) (by simp only[R4,h];simp[hg]) O']
def u0g (l:List C0){fuel:Nat}(hl:l.length*64<=140737488351232)(o:l.length+1<fuel):b0G fuel l=some (if h08 (K4 l)then .inr (K4 l)else .inl ()):=by
 have n0:h08 ([]:List Int)=false:=rfl;unfold b0G K4;have h:R2 8 (l.length:Int)=true:=by simp[R2];omega
 have g:=s0i (l:=l) (fuel:=fuel) O' O' l.length 0 [] rfl O' fuel O';simp only[h,if_true,toNat_natCast];rw[show((0:Int),(0:Int),List.replicate l.length (0:Int))=((N0 l 0:Int),((0:Nat):Int),[]++List.replicate (l.length-0) 0)from by simp[N0],g];simp only[G0,R0A,or_some];cases n:R4 l l.length with
 |none=>rfl
 |some b=>
  have ok:=c07 n;have m:=d0H l l.length
  by_cases d:l.length=0
  ·simp[n0,d]
  ·by_cases e:400<l.length
   ·have a:(l.length:Int)>400:=O'
    simp[n0,d,e,a]
   ·have a:¬(l.length:Int)>400:=O'
    have hw:W ((l.length:Int)-1)=(l.length:Int)-1:=E3 O' O';have i:y0 b ((l.length:Int)-1)=true:=V0 O' (by rw[ok.len];omega);have f:h08 b=true:=by
     have:=ok.len;cases b with
     |nil=>simp at this;omega
     |cons x y=>rfl
    simp only[hw,i,if_true]
    by_cases j:64<N0 l l.length
    ·have c:(N0 l l.length:Int)>64:=O'
     simp[n0,d,e,a,j,c]
    ·have c:¬(N0 l l.length:Int)>64:=O'
     by_cases k:gt b ((l.length:Int)-1)=0
     ·simp[n0,d,e,a,j,c,k,f]
     ·simp[n0,d,e,a,j,c,k]
def e02 (l:List C0){fuel:Nat}(hl:l.length*64<=140737488351232)(a:l.length+1<fuel):U6 fuel l=some (L2 l):=by
 unfold U6 L2;rw[u0g l hl a];cases h:K4 l<;>rfl
def At (l:List C0)(lo:Nat)(t:Tm):Prop:=(l.drop lo).take t.size=t.flat lo
def At.len {l:List C0}{lo:Nat}{t:Tm}(h:At l lo t):lo+t.size<=l.length:=by
 have:=congrArg List.length h;rw[Tm.O5,List.length_take,List.length_drop]at this;have:=t.size_pos;omega
def At.get {l:List C0}{lo:Nat}{t:Tm}(h:At l lo t){j:Nat}(a:j<t.size):l[lo+j]?=(t.flat lo)[j]?:=by
 rw[<-h,List.getElem?_take_of_lt a,List.getElem?_drop]
theorem Tm.H08 (t:Tm)(lo:Nat):(t.flat lo)[t.size-1]?=some (t.node lo):=by
 cases t<;>simp[Tm.flat,Tm.size,Tm.O5]
theorem At.top {l:List C0}{lo:Nat}{t:Tm}(h:At l lo t):l[t.top lo]?=some (t.node lo):=by
 have hp:=t.size_pos;have:=h.get (j:=t.size-1) O'
 grind [Tm.H08,Tm.top]
def At.N3 {l:List C0}{lo:Nat}{t:Tm}(h:At l lo t):gt l (t.top lo:Int)=t.node lo:=X2 h.top
theorem At.of {l:List C0}{lo:Nat}{t:Tm}(hl:lo+t.size<=l.length)(h:∀j,j<t.size->l[lo+j]?=(t.flat lo)[j]?):At l lo t:=by
 apply List.ext_getElem?
 grind [Tm.O5]
def At.bin {l:List C0}{lo:Nat}{a b t:Tm}(hs:t.size=a.size+b.size+1)(d:t.flat lo=a.flat lo++b.flat (lo+a.size)++[t.node lo]):At l lo t↔At l lo a/\At l (lo+a.size) b/\l[lo+a.size+b.size]?=some (t.node lo):=by
 constructor
 ·intro h;have hl:=h.len;have e:=fun j c=>h.get (j:=j) c;rw[d]at e;refine⟨At.of O' fun j c=>?_,At.of O' fun j c=>?_,?_⟩
  ·grind [Tm.O5]
  ·rw[add_assoc,e (a.size+j) O',List.append_assoc,List.getElem?_append_right (by simp[Tm.O5]),Tm.O5,Nat.add_sub_cancel_left,List.getElem?_append_left (by grind [Tm.O5])]
  simp_all[add_assoc,Tm.O5]
 ·rintro⟨h1,g,i⟩
  have f:lo+a.size+b.size<l.length:=by
   grind
  refine At.of O' fun j c=>?_;rw[d];rcases lt_or_ge j a.size with ha|ha
  ·rw[List.append_assoc,List.getElem?_append_left (by grind [Tm.O5]),h1.get ha]
  ·rcases lt_or_ge j (a.size+b.size)with hb|hb
   ·rw[List.append_assoc,List.getElem?_append_right (by grind [Tm.O5]),Tm.O5,List.getElem?_append_left (by grind [Tm.O5]),<-g.get O']
    grind
   ·obtain rfl:j=a.size+b.size:=O'
    simp_all[Tm.O5,add_assoc]
def At.un {l:List C0}{lo:Nat}{a t:Tm}(hs:t.size=a.size+1)(c:t.flat lo=a.flat lo++[t.node lo]):At l lo t↔At l lo a/\l[lo+a.size]?=some (t.node lo):=by
 constructor
 ·intro h;have e:=fun j b=>h.get (j:=j) b
  grind [At.of,Tm.O5]
 ·rintro⟨h1,f⟩
  have d:lo+a.size<l.length:=by
   grind
  refine At.of O' fun j b=>?_;rw[c];rcases lt_or_ge j a.size with ha|ha
  ·rw[List.getElem?_append_left (by grind [Tm.O5]),h1.get ha]
  ·obtain rfl:j=a.size:=O'
   simp_all[Tm.O5]
def At.one {l:List C0}{lo:Nat}{t:Tm}(hs:t.size=1)(b:t.flat lo=[t.node lo]):At l lo t↔l[lo]?=some (t.node lo):=by
 constructor
 ·intro h;have:=h.get (j:=0) O'
  simp_all
 ·intro h;have hl:lo<l.length:=by
   grind
  refine At.of O' fun j a=>?_
  simp_all
def z00 (s:List Int):Prop:=s.length=4/\∀y∈s,L5 .u64 y
def Tm.ok:Tm->Prop
 |.eps=>True|.leaf s=>z00 s|.cat a b=>a.ok/\b.ok|.alt a b=>a.ok/\b.ok
 |.star a=>a.ok|.maybe a=>a.ok|.group n a=>1<=n/\n<=9/\a.ok|.iter a=>a.ok
def Tm.leaves:Tm->Nat
 |.eps=>0|.leaf _=>1|.cat a b=>a.leaves+b.leaves|.alt a b=>a.leaves+b.leaves
 |.star a=>a.leaves|.maybe a=>a.leaves|.group _ a=>a.leaves|.iter a=>a.leaves
def Tm.b0r (t:Tm):t.leaves<=t.size:=by induction t<;>simp[Tm.leaves,Tm.size]<;>omega
def St (l:List C0)(a:List Int):Nat->List Tm->Prop
 |i,[]=>i=0
 |i,t :: ts=>t.size<=i/\At l (i-t.size) t/\t.ok/\gt a ((i-1:Nat):Int)=((i-t.size:Nat):Int)/\N0 l i=N0 l (i-t.size)+t.leaves/\St l a (i-t.size) ts
def St.snoc {l:List C0}{a:List Int}{v:Int}:∀{ts:List Tm} {i:Nat},i<=a.length->St l a i ts->St l (a++[v]) i ts
 |[],_,_,h=>h
 |t :: ts,i,hi,⟨h1,h2,h3,h4,h5,h6⟩=>by
  have:=t.size_pos;exact⟨h1,h2,h3,by rw[b0Y O' O'];exact h4,h5,St.snoc O' h6⟩
def F0X {x:C0}(hw:P2 x)(h:g0W x=true):x.Set=Z4:=by
 have hl:=hw.2.2.2.2.1;simp only[g0W,and_eq_true,beq_iff_eq]at h;obtain⟨k,A,B,N,S⟩:=x;simp only at *
 match S,hl with
 |[s0,s1,s2,s3],_=>
  obtain⟨a,b,c,d⟩:=h;simp[gt]at a b c d;simp[Z4,a,b,c,d]
def r00 {l:List C0}(hw:∀x∈l,P2 x):∀{i:Nat} {a:List Int},R4 l i=some a->i<=l.length->∃ts,St l a i ts
 |0,a,_,_=>⟨[],rfl⟩
 |i+1,a,h,hi=>by
  simp only[R4]at h;split at h
  ·cases h
  ·rename_i b hb;split at h
   ·rename_i hg;cases h;obtain⟨ts,n⟩:=r00 hw hb O';have ok:=c07 hb;simp only[Z6,and_eq_true,decide_eq_true_eq]at hg;obtain⟨⟨h0,v⟩,_⟩:=hg;have d:l[i]?=some (gt l (i:Int)):=by
     have y:i<l.length:=O'
     rw[X2 (x:=l[i]) (by simp[y])];simp[y]
    have s:P2 (gt l (i:Int)):=hw _ (List.mem_of_getElem? d);have U:gt (b++[D3 l b i]) ((i:Nat):Int)=D3 l b i:=e0v ok.len.symm;have r:St l (b++[D3 l b i]) i ts:=n.snoc (by rw[ok.len];omega);have m:N0 l (i+1)=N0 l i+if(gt l (i:Int)).Kind=2 then 1 else 0:=rfl;have mk:∀(t:Tm) (us:List Tm),t.size<=i+1->At l (i+1-t.size) t->t.ok->D3 l b i=((i+1-t.size:Nat):Int)->N0 l (i+1)=N0 l (i+1-t.size)+t.leaves->St l (b++[D3 l b i]) (i+1-t.size) us->∃ts,St l (b++[D3 l b i]) (i+1) ts:=
     fun t us h1 h2 h3 h4 h5 h6=>⟨t :: us,h1,h2,h3,by rw[Nat.add_sub_cancel,U,h4],h5,h6⟩
    generalize hx:gt l (i:Int)=x at *;have q:x.Kind≠2->x.Set=Z4:=fun h2=>F0X s (by simp only[R9,and_eq_true,Bool.or_eq_true,beq_iff_eq]at v;exact v.1.resolve_left h2);have j:x.Kind≠7->x.N=0:=fun h7=>by simp only[R9,and_eq_true,Bool.or_eq_true,beq_iff_eq,h7,if_false]at v;exact v.2
    have g:D3 l b i=(if x.Kind=1\/x.Kind=2 then(if x.A=-1/\x.B=-1 then(i:Int)else -1)
      else if x.Kind=3\/x.Kind=4 then(if x.B=(i:Int)-1/\0<=x.B/\0<=x.A/\x.A=gt b x.B-1 then gt b x.A else -1)
      else if x.Kind=5\/x.Kind=6\/x.Kind=7\/x.Kind=8 then(if x.B=-1/\0<=x.A/\x.A=(i:Int)-1 then gt b x.A else -1)else -1):=by
     unfold D3;simp only[hx]
    by_cases c1:x.Kind=1\/x.Kind=2
    ·rw[if_pos c1]at g
     by_cases o:x.A=-1/\x.B=-1
     ·rw[if_pos o]at g;rcases c1 with c1|c1
      ·have e:x=Tm.node i .eps:=by
        have:=q O';have:=j O';obtain⟨k,A,B,N,S⟩:=x;simp only[Tm.node]at *;simp_all
       exact mk .eps ts (by simp[Tm.size]) ((At.one rfl rfl).2 (by show l[i]?=some (Tm.node i .eps);rw[d,e])) trivial (by rw[g];simp[Tm.size]) (by rw[m,c1];simp[Tm.size,Tm.leaves]) (by simpa[Tm.size]using r)
      ·have e:x=Tm.node i (.leaf x.Set):=by
        have:=j O';obtain⟨k,A,B,N,S⟩:=x;simp only[Tm.node]at *;simp_all
       exact mk (.leaf x.Set) ts (by simp[Tm.size]) ((At.one rfl rfl).2 (by show l[i]?=some (Tm.node i (.leaf x.Set));rw[d];exact congrArg some e)) ⟨s.2.2.2.2.1,s.2.2.2.2.2⟩ (by rw[g];simp[Tm.size]) (by rw[m,c1];simp[Tm.size,Tm.leaves]) (by simpa[Tm.size]using r)
     ·rw[if_neg o]at g;omega
    ·rw[if_neg c1]at g
     by_cases c2:x.Kind=3\/x.Kind=4
     ·rw[if_pos c2]at g
      by_cases o:x.B=(i:Int)-1/\0<=x.B/\0<=x.A/\x.A=gt b x.B-1
      ·rw[if_pos o]at g;obtain⟨w,b3,R,a1⟩:=o;cases ts with
       |nil=>have:i=0:=n;omega
       |cons tb ts=>
        obtain⟨p1,p2,p3,p4,p5,p6⟩:=n;have e1:gt b x.B=((i-tb.size:Nat):Int):=by rw[w,<-p4];congr 1;omega
        have I:x.A=((i-tb.size-1:Nat):Int):=O'
        cases ts with
        |nil=>have:i-tb.size=0:=p6;omega
        |cons ta ts=>
         obtain⟨q1,C,u,J,q5,q6⟩:=p6;have hp:=ta.size_pos;have b2:=tb.size_pos;have b1:D3 l b i=((i-tb.size-ta.size:Nat):Int):=by rw[g,I,J]
         have c:i+1-(ta.size+tb.size+1)=i-tb.size-ta.size:=O'
         have f:i-tb.size-ta.size+ta.size=i-tb.size:=O'
         have p:St l (b++[D3 l b i]) (i-tb.size-ta.size) ts:=St.snoc (by rw[ok.len];omega) q6;rcases c2 with c2|c2
         ·have e:x=Tm.node (i-tb.size-ta.size) (.cat ta tb):=by
           have:=q O';have:=j O';obtain⟨k,A,B,N,S⟩:=x;simp only[Tm.node,Tm.top]at *;simp only[C0.mk.injEq];refine⟨c2,O',O',by assumption,by assumption⟩
          refine mk (.cat ta tb) ts (by simp[Tm.size];omega) ?_ ⟨u,p3⟩ (by simp only[Tm.size];omega) (by simp only[Tm.size,Tm.leaves,c,m,c2];simp;omega) (by simp only[Tm.size,c];exact p);simp only[Tm.size,c];exact(At.bin rfl rfl).2 ⟨C,by rw[f];exact p2,by rw[f,show i-tb.size+tb.size=i from O',d,e]⟩
         ·have e:x=Tm.node (i-tb.size-ta.size) (.alt ta tb):=by
           have:=q O';have:=j O';obtain⟨k,A,B,N,S⟩:=x;simp only[Tm.node,Tm.top]at *;simp only[C0.mk.injEq];refine⟨c2,O',O',by assumption,by assumption⟩
          refine mk (.alt ta tb) ts (by simp[Tm.size];omega) ?_ ⟨u,p3⟩ (by simp only[Tm.size];omega) (by simp only[Tm.size,Tm.leaves,c,m,c2];simp;omega) (by simp only[Tm.size,c];exact p);simp only[Tm.size,c];exact(At.bin rfl rfl).2 ⟨C,by rw[f];exact p2,by rw[f,show i-tb.size+tb.size=i from O',d,e]⟩
      ·rw[if_neg o]at g;omega
     ·rw[if_neg c2]at g
      by_cases c3:x.Kind=5\/x.Kind=6\/x.Kind=7\/x.Kind=8
      ·rw[if_pos c3]at g
       by_cases o:x.B=-1/\0<=x.A/\x.A=(i:Int)-1
       ·rw[if_pos o]at g;obtain⟨w,R,a1⟩:=o;cases ts with
        |nil=>have:i=0:=n;omega
        |cons ta ts=>
         obtain⟨q1,C,u,J,q5,q6⟩:=n;have hp:=ta.size_pos;have I:x.A=((i-1:Nat):Int):=O'
         have b1:D3 l b i=((i-ta.size:Nat):Int):=by rw[g,I,J]
         have c:i+1-(ta.size+1)=i-ta.size:=O'
         have f:i-ta.size+ta.size=i:=O'
         have p:St l (b++[D3 l b i]) (i-ta.size) ts:=St.snoc (by rw[ok.len];omega) q6;have fin:∀t:Tm,t.size=ta.size+1->t.leaves=ta.leaves->t.flat (i-ta.size)=ta.flat (i-ta.size)++[t.node (i-ta.size)]->t.ok->x=t.node (i-ta.size)->∃ts,St l (b++[D3 l b i]) (i+1) ts:=fun t s1 s2 s3 s4 e=>by
          refine mk t ts O' ?_ s4 O' (by rw[s1,c,s2,m,if_neg O'];omega) (by rw[s1,c];exact p);rw[s1,c];exact(At.un s1 s3).2 ⟨C,by rw[f,d,e]⟩
         have z:=q O';rcases c3 with c3|c3|c3|c3
         ·refine fin (.star ta) rfl rfl rfl u ?_;have:=j O';obtain⟨k,A,B,N,S⟩:=x;simp only[Tm.node,Tm.top]at *;simp only[C0.mk.injEq];refine⟨c3,O',w,by assumption,z⟩
         ·refine fin (.maybe ta) rfl rfl rfl u ?_;have:=j O';obtain⟨k,A,B,N,S⟩:=x;simp only[Tm.node,Tm.top]at *;simp only[C0.mk.injEq];refine⟨c3,O',w,by assumption,z⟩
         ·have hn:1<=x.N/\x.N<=9:=by simp only[R9,c3,and_eq_true,beq_self_eq_true,if_true,decide_eq_true_eq]at v;exact v.2
          refine fin (.group x.N ta) rfl rfl rfl ⟨hn.1,hn.2,u⟩ ?_;obtain⟨k,A,B,N,S⟩:=x;simp only[Tm.node,Tm.top]at *;simp only[C0.mk.injEq];refine⟨c3,O',w,trivial,z⟩
         ·refine fin (.iter ta) rfl rfl rfl u ?_;have:=j O';obtain⟨k,A,B,N,S⟩:=x;simp only[Tm.node,Tm.top]at *;simp only[C0.mk.injEq];refine⟨c3,O',w,by assumption,z⟩
       ·rw[if_neg o]at g;omega
      ·rw[if_neg c3]at g;omega
   ·cases h
structure I4 (l:List C0)(t:Tm):Prop where
 eq:l=t.flat 0
 at0:At l 0 t
 ok:t.ok
 len:l.length=t.size
 le:t.size<=400
 lv:t.leaves<=64
def a0N {l:List C0}(hw:∀x∈l,P2 x)(h:L2 l=true):∃t,I4 l t:=by
 unfold L2 K4 at h;cases d:R4 l l.length with
 |none=>simp[d]at h
 |some a=>
  simp only[d]at h;split at h
  ·simp at h
  ·rename_i c;have ok:=c07 d;obtain⟨ts,b⟩:=r00 hw d (le_refl _);cases ts with
   |nil=>exact absurd (.inl b) c
   |cons t ts=>
    obtain⟨q,e,j,n,k,p⟩:=b;have i:gt a ((l.length:Int)-1)=0:=by
     rcases Int.decEq (gt a ((l.length:Int)-1)) 0 with h|h
     ·exact absurd (.inr (.inr (.inr h))) c
     ·exact h
    have o:l.length≠0:=fun h=>c (.inl h);rw[show((l.length-1:Nat):Int)=(l.length:Int)-1 from O',i]at n;have hs:t.size=l.length:=O'
    rw[hs,Nat.sub_self]at e;have f:l=t.flat 0:=by
     have:=e;unfold At at this
     rwa [List.drop_zero,hs,List.take_length]at this
    have g:¬400<l.length:=fun h=>c (.inr (.inl h));have m:¬64<N0 l l.length:=fun h=>c (.inr (.inr (.inl h)));rw[hs,Nat.sub_self]at k;have:N0 l 0=0:=rfl;exact⟨t,f,e,j,hs.symm,O',O'⟩
def At.s0D {l:List C0}:∀{s:Tm} {lo:Nat},At l lo s->∀i,lo<=i->i<lo+s.size->∃lo' d,At l lo' d/\d.top lo'=i/\lo<=lo'/\d.size<=s.size:=by
 intro s;have j:∀(t:Tm) (lo:Nat),t.size=1->At l lo t->∀i,lo<=i->i<lo+t.size->∃lo' d,At l lo' d/\d.top lo'=i/\lo<=lo'/\d.size<=t.size:=fun t lo o h i h1 g=>⟨lo,t,h,V',O',O'⟩
 induction s with
 |eps=>exact fun h=>j _ _ rfl h
 |leaf s=>exact fun h=>j _ _ rfl h
 |cat a b iha ihb=>
  intro lo h i h1 g;obtain⟨ha,m,_⟩:=(At.bin rfl rfl).1 h;simp only[Tm.size]at g ⊢;rcases lt_or_ge i (lo+a.size)with c|c
  ·obtain⟨lo',d,p1,e,f,k⟩:=iha ha i h1 c;exact⟨lo',d,p1,e,f,O'⟩
  ·rcases lt_or_ge i (lo+a.size+b.size)with c2|c2
   ·obtain⟨lo',d,p1,e,f,k⟩:=ihb m i c c2;exact⟨lo',d,p1,e,O',O'⟩
   ·exact⟨lo,.cat a b,h,U',O',by simp[Tm.size]⟩
 |alt a b iha ihb=>
  intro lo h i h1 g;obtain⟨ha,m,_⟩:=(At.bin rfl rfl).1 h;simp only[Tm.size]at g ⊢;rcases lt_or_ge i (lo+a.size)with c|c
  ·obtain⟨lo',d,p1,e,f,k⟩:=iha ha i h1 c;exact⟨lo',d,p1,e,f,O'⟩
  ·rcases lt_or_ge i (lo+a.size+b.size)with c2|c2
   ·obtain⟨lo',d,p1,e,f,k⟩:=ihb m i c c2;exact⟨lo',d,p1,e,O',O'⟩
   ·exact⟨lo,.alt a b,h,U',O',by simp[Tm.size]⟩
 |star a iha=>
  intro lo h i h1 g;obtain⟨ha,_⟩:=(At.un rfl rfl).1 h;simp only[Tm.size]at g ⊢;rcases lt_or_ge i (lo+a.size)with c|c
  ·obtain⟨lo',d,p1,e,f,k⟩:=iha ha i h1 c;exact⟨lo',d,p1,e,f,O'⟩
  ·exact⟨lo,.star a,h,U',O',by simp[Tm.size]⟩
 |maybe a iha=>
  intro lo h i h1 g;obtain⟨ha,_⟩:=(At.un rfl rfl).1 h;simp only[Tm.size]at g ⊢;rcases lt_or_ge i (lo+a.size)with c|c
  ·obtain⟨lo',d,p1,e,f,k⟩:=iha ha i h1 c;exact⟨lo',d,p1,e,f,O'⟩
  ·exact⟨lo,.maybe a,h,U',O',by simp[Tm.size]⟩
 |group n a iha=>
  intro lo h i h1 g;obtain⟨ha,_⟩:=(At.un rfl rfl).1 h;simp only[Tm.size]at g ⊢;rcases lt_or_ge i (lo+a.size)with c|c
  ·obtain⟨lo',d,p1,e,f,k⟩:=iha ha i h1 c;exact⟨lo',d,p1,e,f,O'⟩
  ·exact⟨lo,.group n a,h,U',O',by simp[Tm.size]⟩
 |iter a iha=>
  intro lo h i h1 g;obtain⟨ha,_⟩:=(At.un rfl rfl).1 h;simp only[Tm.size]at g ⊢;rcases lt_or_ge i (lo+a.size)with c|c
  ·obtain⟨lo',d,p1,e,f,k⟩:=iha ha i h1 c;exact⟨lo',d,p1,e,f,O'⟩
  ·exact⟨lo,.iter a,h,U',O',by simp[Tm.size]⟩
def I4.node {l:List C0}{t:Tm}(h:I4 l t){i:Nat}(hi:i<l.length):∃lo s,At l lo s/\s.top lo=i:=by
 obtain⟨lo,s,h1,a,_⟩:=h.at0.s0D i O' (by rw[h.len]at hi;omega);exact⟨lo,s,h1,a⟩
def Tm.can:Tm->Bool
 |.eps=>true|.leaf _=>false|.cat a b=>a.can&&b.can|.alt a b=>a.can||b.can
 |.star _=>true|.maybe _=>true|.group _ a=>a.can|.iter a=>a.can
def O7 (l:List C0)(c:List Bool)(i:Nat):Bool:=
 let x:=gt l (i:Int)
 if x.Kind=1\/x.Kind=5\/x.Kind=6 then true
 else if x.Kind=3 then gt c x.A&&gt c x.B else if x.Kind=4 then gt c x.A||gt c x.B else if x.Kind=7\/x.Kind=8 then gt c x.A else false
def l5 (l:List C0):Nat->List Bool
 |0=>[]
 |i+1=>l5 l i++[O7 l (l5 l i) i]
def f0k (l:List C0):∀i,(l5 l i).length=i
 |0=>rfl
 |i+1=>by simp[l5,f0k l i]
def d0W (l:List C0){i j:Nat}(h:j<i):gt (l5 l i) (j:Int)=O7 l (l5 l j) j:=by
 induction i with
 |zero=>omega
 |succ i ih=>
  simp only[l5]
  by_cases e:j=i
  ·subst e;rw[e0v (f0k l j).symm]
  ·rw[b0Y O' (by rw[f0k];omega)];exact ih O'
def I0T {l:List C0}:∀{s:Tm} {lo:Nat},At l lo s->∀i,s.top lo<i->gt (l5 l i) (s.top lo:Int)=s.can:=by
 intro s
 induction s with
 |eps=>intro lo h i hi;rw[d0W l hi];simp[O7,h.N3,Tm.node,Tm.can]
 |leaf s=>intro lo h i hi;rw[d0W l hi];simp[O7,h.N3,Tm.node,Tm.can]
 |cat a b c ihb=>
  intro lo h i hi;rw[d0W l hi];obtain⟨ha,d,_⟩:=(At.bin rfl rfl).1 h;have:=a.size_pos;have:=b.size_pos;simp only[O7,h.N3,Tm.node,Tm.can];simp[c ha _ (show a.top lo<Tm.top (.cat a b) lo from U'),ihb d _ (show b.top (lo+a.size)<Tm.top (.cat a b) lo from U')]
 |alt a b c ihb=>
  intro lo h i hi;rw[d0W l hi];obtain⟨ha,d,_⟩:=(At.bin rfl rfl).1 h;have:=a.size_pos;have:=b.size_pos;simp only[O7,h.N3,Tm.node,Tm.can];simp[c ha _ (show a.top lo<Tm.top (.alt a b) lo from U'),ihb d _ (show b.top (lo+a.size)<Tm.top (.alt a b) lo from U')]
 |star a c=>intro lo h i hi;rw[d0W l hi];simp[O7,h.N3,Tm.node,Tm.can]
 |maybe a c=>intro lo h i hi;rw[d0W l hi];simp[O7,h.N3,Tm.node,Tm.can]
 |group n a c=>
  intro lo h i hi;rw[d0W l hi];obtain⟨ha,_⟩:=(At.un rfl rfl).1 h;have:=a.size_pos;simp only[O7,h.N3,Tm.node,Tm.can];simp[c ha _ (show a.top lo<Tm.top (.group n a) lo from U')]
 |iter a c=>
  intro lo h i hi;rw[d0W l hi];obtain⟨ha,_⟩:=(At.un rfl rfl).1 h;have:=a.size_pos;simp only[O7,h.N3,Tm.node,Tm.can];simp[c ha _ (show a.top lo<Tm.top (.iter a) lo from U')]
def M8 (l:List C0):List Bool:=if L2 l then l5 l l.length else[]
def v0I {l:List C0}{t:Tm}(g:I4 l t){i:Nat}(hi:i<l.length)(fuel:Nat):
  l0O fuel l ((i:Int),l5 l i++List.replicate (l.length-i) false)=some (.next (((i+1:Nat):Int),l5 l (i+1)++List.replicate (l.length-(i+1)) false))/\
  p0e fuel l ((i:Int),l5 l i++List.replicate (l.length-i) false)=some (.next (((i+1:Nat):Int),l5 l (i+1)++List.replicate (l.length-(i+1)) false)):=by
 have q:=g.le;have hlen:=g.len;have h1:(i:Int)<(l.length:Int):=O'
 have o:y0 l (i:Int)=true:=V0 O' O';have k:W ((i:Int)+1)=((i+1:Nat):Int):=X1 O';rw[k0H hi false];generalize hm:List.replicate (l.length-(i+1)) false=m;have f:∀(y:Bool),(l5 l i++false :: m).set i y=l5 l i++y :: m:=fun y=>l0M (f0k l i).symm;have d:∀(z:Nat),z<i->gt (l5 l i++false :: m) (z:Int)=gt (l5 l i) (z:Int):=fun z h=>b0Y O' (by rw[f0k];omega);have c:∀(z:Nat),z<=i->y0 (l5 l i++false :: m) (z:Int)=true:=fun z h=>V0 O' (by simp[f0k];omega);have p:=c i O';have r:l5 l (i+1)++m=l5 l i++O7 l (l5 l i) i :: m:=by simp[l5]
 rw[r];unfold l0O p0e;simp only[h1,decide_true,if_true,o,p,k,toNat_natCast,f];obtain⟨lo,s,j,hs⟩:=g.node hi;have hg:=j.N3;rw[hs]at hg;cases s with
 |eps=>simp[hg,Tm.node,O7]
 |leaf s=>simp[hg,Tm.node,O7,f false]
 |cat a b=>
  have:=a.size_pos;have:=b.size_pos;have e:a.top lo<i:=by rw[<-hs];simp only[Tm.top,Tm.size];omega
  have pb:b.top (lo+a.size)<i:=by rw[<-hs];simp only[Tm.top,Tm.size];omega
  simp only[hg,Tm.node,O7,c _ (le_of_lt e),c _ (le_of_lt pb),d _ e,d _ pb];cases gt (l5 l i) (a.top lo:Int)<;>simp
 |alt a b=>
  have:=a.size_pos;have:=b.size_pos;have e:a.top lo<i:=by rw[<-hs];simp only[Tm.top,Tm.size];omega
  have pb:b.top (lo+a.size)<i:=by rw[<-hs];simp only[Tm.top,Tm.size];omega
  simp only[hg,Tm.node,O7,c _ (le_of_lt e),c _ (le_of_lt pb),d _ e,d _ pb];cases gt (l5 l i) (a.top lo:Int)<;>simp
 |star a=>simp[hg,Tm.node,O7]
 |maybe a=>simp[hg,Tm.node,O7]
 |group n a=>
  have:=a.size_pos;have e:a.top lo<i:=by rw[<-hs];simp only[Tm.top,Tm.size];omega
  simp[hg,Tm.node,O7,c _ (le_of_lt e),d _ e]
 |iter a=>
  have:=a.size_pos;have e:a.top lo<i:=by rw[<-hs];simp only[Tm.top,Tm.size];omega
  simp[hg,Tm.node,O7,c _ (le_of_lt e),d _ e]
def n0E {l:List C0}(hw:∀x∈l,P2 x){fuel:Nat}(d:401<fuel):a0v fuel l=some (M8 l):=by
 unfold a0v M8;rw[c0y l d];cases hR:L2 l with
 |false=>rfl
 |true=>
  obtain⟨t,b⟩:=a0N hw hR;have c:=b.le;have hlen:=b.len;have a:R2 1 (l.length:Int)=true:=by simp[R2];omega
  have:=H3 (step:=l0O fuel l) (fun i=>((i:Int),l5 l i++List.replicate (l.length-i) false)) (l5 l l.length) l.length
   (fun i hi=>.inl (v0I b hi fuel).1) (by unfold l0O;simp) l.length 0 fuel O' O'
  simp only[q0,a,toNat_natCast];simp only[l5,List.nil_append,sub_zero]at this;rw[show(0:Int)=((0:Nat):Int)from rfl,this];rfl
def t0D {l:List C0}(hw:∀x∈l,P2 x)(hl:l.length*64<=140737488351232){fuel:Nat}(e:401<fuel)(c:l.length+1<fuel):a0U fuel l=some (M8 l):=by
 unfold a0U M8;rw[e02 l hl c];cases hR:L2 l with
 |false=>rfl
 |true=>
  obtain⟨t,b⟩:=a0N hw hR;have d:=b.le;have hlen:=b.len;have a:R2 1 (l.length:Int)=true:=by simp[R2];omega
  have:=H3 (step:=p0e fuel l) (fun i=>((i:Int),l5 l i++List.replicate (l.length-i) false)) (l5 l l.length) l.length
   (fun i hi=>.inl (v0I b hi fuel).2) (by unfold p0e;simp) l.length 0 fuel O' O'
  simp only[q0,a,toNat_natCast];simp only[l5,List.nil_append,sub_zero]at this;rw[show(0:Int)=((0:Nat):Int)from rfl,this];rfl
def G2 (l:List C0):Nat->List Int
 |0=>[]
 |i+1=>if(gt l (i:Int)).Kind=2 then G2 l i++[(i:Int)]else G2 l i
theorem K9 (l:List C0):∀i,(G2 l i).length=N0 l i
 |0=>rfl
 |i+1=>by simp only[G2,N0];split<;>simp[K9 l i]
def b0k (l:List C0):List Int:=if L2 l then G2 l l.length else[]
def r0W {l:List C0}(hl:l.length<=400){i:Nat}(hi:i<l.length)(fuel:Nat):
  p0Y fuel l (G2 l i,(i:Int))=some (.next (G2 l (i+1),((i+1:Nat):Int)))/\q0u fuel l (G2 l i,(i:Int))=some (.next (G2 l (i+1),((i+1:Nat):Int))):=by
 have h1:(i:Int)<(l.length:Int):=O'
 have a:y0 l (i:Int)=true:=V0 O' O';have b:W ((i:Int)+1)=((i+1:Nat):Int):=X1 O';have hle:=d0H l i;have c:K0 8 (G2 l i) [(i:Int)]=true:=B4 (by rw[K9];simp;omega);unfold p0Y q0u
 by_cases hk:(gt l (i:Int)).Kind=2<;>simp[h1,a,b,c,hk,G2]
def l07 {l:List C0}(hw:∀x∈l,P2 x){fuel:Nat}(c:401<fuel):C7 fuel l=some (b0k l):=by
 unfold C7 b0k;rw[c0y l c];cases hR:L2 l with
 |false=>rfl
 |true=>
  obtain⟨t,a⟩:=a0N hw hR;have b:=a.le;have hlen:=a.len;have:=H3 (step:=p0Y fuel l) (fun i=>(G2 l i,(i:Int))) (G2 l l.length) l.length (fun i hi=>.inl (r0W O' hi fuel).1) (by unfold p0Y;simp) l.length 0 fuel O' O';simp only[q0];simp only[G2]at this;rw[show(0:Int)=((0:Nat):Int)from rfl,this];rfl
def y0w {l:List C0}(hw:∀x∈l,P2 x)(hl:l.length*64<=140737488351232){fuel:Nat}(d:401<fuel)(a:l.length+1<fuel):b0P fuel l=some (b0k l):=by
 unfold b0P b0k;rw[e02 l hl a];cases hR:L2 l with
 |false=>rfl
 |true=>
  obtain⟨t,b⟩:=a0N hw hR;have c:=b.le;have hlen:=b.len;have:=H3 (step:=q0u fuel l) (fun i=>(G2 l i,(i:Int))) (G2 l l.length) l.length (fun i hi=>.inl (r0W O' hi fuel).2) (by unfold q0u;simp) l.length 0 fuel O' O';simp only[q0];simp only[G2]at this;rw[show(0:Int)=((0:Nat):Int)from rfl,this];rfl
def j00 (l:List C0){i j:Nat}(h:i<=j):N0 l i<=N0 l j:=by
 induction j with
 |zero=>
      obtain rfl:i=0:=O'
      exact le_refl _
 |succ j ih=>
  by_cases e:i=j+1
  ·subst e;exact le_refl _
  ·have:=ih O';simp only[N0];omega
def e05 (l:List C0):∀(i p:Nat),p<N0 l i->∃q:Nat,q<i/\(G2 l i)[p]?=some (q:Int)/\(gt l (q:Int)).Kind=2/\N0 l q=p
 |0,p,h=>by simp[N0]at h
 |i+1,p,h=>by
  simp only[N0,G2]at h ⊢
  by_cases hk:(gt l (i:Int)).Kind=2
  ·simp only[hk,if_true]at h ⊢
   by_cases e:p=N0 l i
   ·exact⟨i,O',by rw[List.getElem?_append_right (by rw[K9];omega),K9];simp[e],hk,e.symm⟩
   ·obtain⟨q,h1,c,a,b⟩:=e05 l i p O';exact⟨q,O',by rw[List.getElem?_append_left (by rw[K9];omega)];exact c,a,b⟩
  ·simp only[hk,if_false,Nat.add_zero]at h ⊢;obtain⟨q,h1,c,a,b⟩:=e05 l i p h;exact⟨q,O',c,a,b⟩
def B7 (l:List C0):Nat->List Int
 |0=>[]
 |i+1=>B7 l i++[if(gt l (i:Int)).Kind=2 then(N0 l i:Int)else -1]
theorem d0s (l:List C0):∀i,(B7 l i).length=i
 |0=>rfl
 |i+1=>by simp[B7,d0s l i]
def m0u (l:List C0):∀(i j:Nat),j<i->(B7 l i)[j]?=some (if(gt l (j:Int)).Kind=2 then(N0 l j:Int)else -1)
 |0,j,h=>O'
 |i+1,j,h=>by
  simp only[B7]
  by_cases e:j=i
  ·subst e;rw[List.getElem?_append_right (by rw[d0s];omega),d0s];simp
  ·rw[List.getElem?_append_left (by rw[d0s];omega)];exact m0u l i j O'
def e0m (l:List C0):List Int:=if L2 l then B7 l l.length else[]
def b0p (l:List C0)(p:Nat):Nat->List Int
 |0=>[]
 |i+1=>b0p l p i++[if(gt l (i:Int)).Kind=2/\N0 l i<p then(N0 l i:Int)else -1]
def c0z (l:List C0)(p:Nat):∀i,(b0p l p i).length=i
 |0=>rfl
 |i+1=>by simp[b0p,c0z l p i]
def k0h (l:List C0)(p:Nat):∀(i j:Nat),j<i->(b0p l p i)[j]?=some (if(gt l (j:Int)).Kind=2/\N0 l j<p then(N0 l j:Int)else -1)
 |0,j,h=>O'
 |i+1,j,h=>by
  simp only[b0p]
  by_cases e:j=i
  ·subst e;rw[List.getElem?_append_right (by rw[c0z];omega),c0z];simp
  ·rw[List.getElem?_append_left (by rw[c0z];omega)];exact k0h l p i j O'
def C0s (l:List C0){i j:Nat}(hi:(gt l (i:Int)).Kind=2)(a:(gt l (j:Int)).Kind=2)(h:N0 l i=N0 l j):i=j:=by
 rcases Nat.lt_trichotomy i j with c|c|c
 ·have:=j00 l (show i+1<=j from c);simp only[N0,hi,if_true]at this;omega
 ·exact c
 ·have:=j00 l (show j+1<=i from c);simp only[N0,a,if_true]at this;omega
def H00 (l:List C0){p q n:Nat}(d:q<n)(hk:(gt l (q:Int)).Kind=2)(hp:N0 l q=p):(b0p l p n).set q (p:Int)=b0p l (p+1) n:=by
 apply List.ext_getElem?;intro j
 by_cases a:j<n
 ·rw[k0h l _ n j a,List.getElem?_set]
  by_cases e:q=j
  ·subst e;simp[c0z,a,hk,hp]
  ·rw[if_neg e,k0h l _ n j a]
   by_cases b:(gt l (j:Int)).Kind=2
   ·have:N0 l j≠p:=fun h=>e (C0s l hk b (hp.trans h.symm));simp only[b,true_and]
    by_cases c:N0 l j<p
    ·rw[if_pos c,if_pos O']
    ·rw[if_neg c,if_neg O']
   ·simp[b]
 ·rw[List.getElem?_eq_none (by simp[c0z];omega),List.getElem?_eq_none (by simp[c0z];omega)]
def t08 (l:List C0):∀n,b0p l 0 n=List.replicate n (-1)
 |0=>rfl
 |n+1=>by simp[b0p,t08 l n,List.replicate_succ']
def y07 (l:List C0)(n:Nat):b0p l (N0 l n) n=B7 l n:=by
 apply List.ext_getElem?;intro j
 by_cases a:j<n
 ·rw[k0h l _ n j a,m0u l n j a]
  by_cases b:(gt l (j:Int)).Kind=2
  ·have:=j00 l (show j+1<=n from a);simp only[N0,b,if_true]at this;simp[b];omega
  ·simp[b]
 ·rw[List.getElem?_eq_none (by simp[c0z];omega),List.getElem?_eq_none (by simp[d0s];omega)]
def F0k {l:List C0}(hw:∀x∈l,P2 x){fuel:Nat}(j:401<fuel):b05 fuel l=some (e0m l):=by
 unfold b05 e0m;rw[c0y l j,l07 hw j];cases hR:L2 l with
 |false=>rfl
 |true=>
  obtain⟨t,f⟩:=a0N hw hR;have g:=f.le;have hlen:=f.len;have b:R2 8 (l.length:Int)=true:=by simp[R2];omega
  have h:=H3 (step:=p0g fuel (l.length:Int)) (fun i=>((i:Int),List.replicate i (-1)++List.replicate (l.length-i) 0)) (List.replicate l.length (-1)) l.length
   (fun i hi=>.inl (by
    have h1:(i:Int)<(l.length:Int):=O'
    have c:y0 (List.replicate i (-1:Int)++List.replicate (l.length-i) 0) (i:Int)=true:=V0 O' Y';unfold p0g;simp only[toNat_natCast,h1,decide_true,if_true,c,X1 (show i<9223372036854775807 from O')];rw[k0H hi 0,l0M X',List.replicate_succ'];simp)) (by unfold p0g;simp) l.length 0 fuel O' O'
  have a:b0k l=G2 l l.length:=by simp[b0k,hR]
  have hle:=d0H l l.length;have d:=H3 (step:=p0t fuel (G2 l l.length)) (fun p=>((p:Int),b0p l p l.length)) (B7 l l.length) (N0 l l.length)
   (fun p hp=>.inl (by
    obtain⟨q,h1,r,o,k⟩:=e05 l l.length p hp;have e:(p:Int)<((G2 l l.length).length:Int):=by rw[K9];omega
    have m:y0 (G2 l l.length) (p:Int)=true:=V0 O' e;have n:y0 (b0p l p l.length) (q:Int)=true:=V0 O' (by rw[c0z];omega);unfold p0t;simp only[e,decide_true,if_true,m,X2 r,n,toNat_natCast,H00 l h1 o k,X1 (show p<9223372036854775807 from O')])) (by unfold p0t;simp[K9,y07]) (N0 l l.length) 0 fuel O' O'
  simp only[q0,b,toNat_natCast,a,List.length_replicate];simp only[List.replicate_zero,List.nil_append,sub_zero]at h;rw[show((0:Int),(List.replicate l.length (0:Int)))=(((0:Nat):Int),List.replicate l.length 0)from rfl,h,G0];rw[t08]at d;rw[show((0:Int),(List.replicate l.length (-1:Int)))=(((0:Nat):Int),List.replicate l.length (-1))from rfl,d];rfl
def C0Y {l:List C0}(hw:∀x∈l,P2 x)(hl:l.length*64<=140737488351232){fuel:Nat}(k:401<fuel)(b:l.length+1<fuel):b0S fuel l=some (e0m l):=by
 unfold b0S e0m;rw[e02 l hl b];cases hR:L2 l with
 |false=>rfl
 |true=>
  obtain⟨t,f⟩:=a0N hw hR;have g:=f.le;have hlen:=f.len;have c:R2 8 (l.length:Int)=true:=by simp[R2];omega
  have h:=H3 (step:=n0Z fuel l) (fun i=>((N0 l i:Int),(i:Int),B7 l i++List.replicate (l.length-i) 0)) (B7 l l.length) l.length
   (fun i hi=>.inl (by
    have h1:(i:Int)<(l.length:Int):=O'
    have d:y0 l (i:Int)=true:=V0 O' O';have hle:=d0H l i;have e:∀(y:Int) m,y0 (B7 l i++y :: m) (i:Int)=true:=fun y m=>V0 O' (by simp[d0s];omega);have a:∀(x y:Int) m,(B7 l i++x :: m).set i y=B7 l i++y :: m:=fun x y m=>l0M (d0s l i).symm;unfold n0Z;rw[k0H hi 0];simp only[h1,decide_true,if_true,e,d,toNat_natCast,a,X1 (show i<9223372036854775807 from O'),X1 (show N0 l i<9223372036854775807 from O'),B7,N0]
    by_cases j:(gt l (i:Int)).Kind=2<;>simp[j])) (by unfold n0Z;simp) l.length 0 fuel O' O'
  simp only[q0,c,toNat_natCast];simp only[B7,N0,List.nil_append,sub_zero]at h;rw[show((0:Int),(0:Int),(List.replicate l.length (0:Int)))=(((0:Nat):Int),((0:Nat):Int),List.replicate l.length 0)from rfl,h];rfl
