/- P. Its conditions: none. -/
import Derived.Test.YtihmgaccbcfgjaaGreatTG24
import Derived.Test.YtihmgaccbcfgjaaGreatTOm
open Bool (and_eq_true false_eq_true)
open List (any_cons append_assoc)
open Nat (add_assoc lt_or_ge)
set_option linter.all false
namespace Go.Proofs.YtihmgaccbcfgjaaGreat.Old
open Go.V Go.RowKit
def Z4:List Int:=[0,0,0,0]
inductive Tm where
 |eps|leaf (s:List Int)|cat (a b:Tm)|alt (a b:Tm)|star (a:Tm)|maybe (a:Tm)|group (n:Int) (a:Tm)|iter (a:Tm)
def Tm.size:Tm->Nat
 |.eps=>1|.leaf _=>1|.cat a b=>a.size+b.size+1|.alt a b=>a.size+b.size+1
 |.star a=>a.size+1|.maybe a=>a.size+1|.group _ a=>a.size+1|.iter a=>a.size+1
def Tm.size_pos (t:Tm):0<t.size:=by cases t<;>simp[Tm.size]
def Tm.top (t:Tm)(lo:Nat):Nat:=lo+t.size-1
def Tm.node (lo:Nat):Tm->C0
 |.eps=>⟨1,-1,-1,0,Z4⟩
 |.leaf s=>⟨2,-1,-1,0,s⟩
 |.cat a b=>⟨3,(a.top lo:Int),(b.top (lo+a.size):Int),0,Z4⟩
 |.alt a b=>⟨4,(a.top lo:Int),(b.top (lo+a.size):Int),0,Z4⟩
 |.star a=>⟨5,(a.top lo:Int),-1,0,Z4⟩
 |.maybe a=>⟨6,(a.top lo:Int),-1,0,Z4⟩
 |.group n a=>⟨7,(a.top lo:Int),-1,n,Z4⟩
 |.iter a=>⟨8,(a.top lo:Int),-1,0,Z4⟩
def Tm.flat (lo:Nat):Tm->List C0
 |.eps=>[Tm.node lo .eps]
 |.leaf s=>[Tm.node lo (.leaf s)]
 |.cat a b=>a.flat lo++b.flat (lo+a.size)++[Tm.node lo (.cat a b)]
 |.alt a b=>a.flat lo++b.flat (lo+a.size)++[Tm.node lo (.alt a b)]
 |.star a=>a.flat lo++[Tm.node lo (.star a)]
 |.maybe a=>a.flat lo++[Tm.node lo (.maybe a)]
 |.group n a=>a.flat lo++[Tm.node lo (.group n a)]
 |.iter a=>a.flat lo++[Tm.node lo (.iter a)]
def Tm.O5 (t:Tm):∀lo,(t.flat lo).length=t.size:=by
 induction t<;>intro lo<;>simp[Tm.flat,Tm.size, *]<;>omega
def D3 (l:List C0)(a:List Int)(i:Nat):Int:=
 let x:=gt l (i:Int)
 if x.Kind=1\/x.Kind=2 then(if x.A=-1/\x.B=-1 then(i:Int)else -1)
 else if x.Kind=3\/x.Kind=4 then(if x.B=(i:Int)-1/\0<=x.B/\0<=x.A/\x.A=gt a x.B-1 then gt a x.A else -1)
 else if x.Kind=5\/x.Kind=6\/x.Kind=7\/x.Kind=8 then(if x.B=-1/\0<=x.A/\x.A=(i:Int)-1 then gt a x.A else -1)
 else -1
def g0W (x:C0):Bool:=gt x.Set 0==0&&(gt x.Set 1==0&&(gt x.Set 2==0&&gt x.Set 3==0))
def R9 (x:C0):Bool:=(x.Kind==2||g0W x)&&(if x.Kind==7 then decide (1<=x.N)&&decide (x.N<=9)else x.N==0)
def b0L (x:C0)(R0:List C0):Bool:=x.Kind==7&&R0.any fun y=>y.Kind==7&&y.N==x.N
def V9 (l:List C0)(a i:Nat):List C0:=(l.drop a).take (i-a)
def Z6 (l:List C0)(a:List Int)(i:Nat):Bool:=decide (0<=D3 l a i)&&R9 (gt l (i:Int))&&!b0L (gt l (i:Int)) (V9 l (D3 l a i).toNat i)
def R4 (l:List C0):Nat->Option (List Int)
 |0=>some []
 |i+1=>match R4 l i with
  |none=>none
  |some a=>if Z6 l a i then some (a++[D3 l a i])else none
def N0 (l:List C0):Nat->Nat
 |0=>0
 |i+1=>N0 l i+if(gt l (i:Int)).Kind=2 then 1 else 0
def d0H (l:List C0):∀i,N0 l i<=i
 |0=>Nat.le_refl _
 |i+1=>by have:=d0H l i;simp only[N0];split<;>omega
def K4 (l:List C0):List Int:=
 match R4 l l.length with
 |none=>[]
 |some a=>if l.length=0\/400<l.length\/64<N0 l l.length\/gt a ((l.length:Int)-1)≠0 then[]else a
def L2 (l:List C0):Bool:=!(K4 l).isEmpty
structure f0D (a:List Int)(i:Nat):Prop where
 len:a.length=i
 rng:∀j:Nat,j<i->0<=gt a (j:Int)/\gt a (j:Int)<=j
def r0J {l:List C0}{a:List Int}{i:Nat}(h:f0D a i)(c:0<=D3 l a i):D3 l a i<=i:=by
 have b:∀z:Int,0<=z->z<i->gt a z<=z:=fun z h1 e=>by
  have:=(h.rng z.toNat O').2
  rwa [show((z.toNat:Nat):Int)=z from O']at this
 have d:∀z:Int,0<=z->z<i->0<=gt a z:=fun z h1 e=>by
  have:=(h.rng z.toNat O').1
  rwa [show((z.toNat:Nat):Int)=z from O']at this
 revert c
 unfold D3;simp only;generalize gt l (i:Int)=x
 repeat' split
 all_goals intro c
 all_goals first
  |omega
  |(rename_i h1;have f:=b x.A O' (by first|omega|(have:=b x.B O' O';omega));first|omega|(have:=b x.B O' O';omega))
def f0D.snoc {l:List C0}{a:List Int}{i:Nat}(h:f0D a i)(b:0<=D3 l a i):f0D (a++[D3 l a i]) (i+1):=by
 refine⟨by simp[h.len],fun j c=>?_⟩
 by_cases e:j=i
 ·subst e;rw[e0v h.len.symm];exact⟨b,r0J h b⟩
 ·rw[b0Y O' (by rw[h.len];omega)];exact h.rng j O'
def c07 {l:List C0}:∀{i:Nat} {a:List Int},R4 l i=some a->f0D a i
 |0,a,h=>by simp[R4]at h;subst h;exact⟨rfl,fun j d=>O'⟩
 |i+1,a,h=>by
  simp only[R4]at h;split at h
  ·cases h
  ·rename_i b c;split at h
   ·rename_i hg;cases h;simp only[Z6,and_eq_true,decide_eq_true_eq]at hg;exact(c07 c).snoc hg.1.1
   ·cases h
def x0Y {l:List C0}{a:List Int}{i:Nat}(fuel:Nat)(hi:i<l.length)(ha:f0D a i)(v:i<4611686018427387904):c0u fuel l a (i:Int)=some (D3 l a i):=by
 have p:y0 l (i:Int)=true:=V0 O' O';have u:W ((i:Int)-1)=(i:Int)-1:=E3 O' O';have q:∀z:Int,0<=z->z<i->gt a z<=z/\0<=gt a z:=fun z h1 o=>by
  have:=ha.rng z.toNat O'
  rwa [show((z.toNat:Nat):Int)=z from O',and_comm]at this
 have hl:=ha.len;unfold c0u D3;simp only[p,if_true,u];generalize gt l (i:Int)=x;have j:∀z:Int,0<=z->z<i->y0 a z=true:=fun z h1 o=>V0 h1 O';have n:0<=x.B->x.B<i->W (gt a x.B-1)=gt a x.B-1:=fun h1 o=>E3 (by have:=q x.B h1 o;omega) (by have:=q x.B h1 o;omega);obtain⟨k,A,B,N,S⟩:=x;simp only at n ⊢
 by_cases c1:k=1\/k=2
 ·have t:((if(k==1)=true then some (k==1)else some (k==2)):Option Bool)=some true:=by rcases c1 with rfl|rfl<;>rfl
  simp only[t,G0,if_true,c1]
  by_cases d:A=-1<;>by_cases b:B=-1<;>simp[d,b]
 ·have t:((if(k==1)=true then some (k==1)else some (k==2)):Option Bool)=some false:=by
   have:¬k=1:=fun h=>c1 (.inl h);have:¬k=2:=fun h=>c1 (.inr h);simp[*]
  simp only[q0,t,c1]
  by_cases c2:k=3\/k=4
  ·have r:((if(k==3)=true then some (k==3)else some (k==4)):Option Bool)=some true:=by rcases c2 with rfl|rfl<;>rfl
   simp only[r,G0,if_true,c2]
   by_cases b:0<=B
   ·by_cases e:B=(i:Int)-1
    ·have f:(1:Int)<=(i:Int):=O'
     have m:=j B b O';have hw:=n b O'
     by_cases d:0<=A
     ·by_cases c:A=gt a B-1
      ·have:=q B b O';have g:=j A d O';simp only[ge_iff_le,b,e,d,decide_true,if_true,beq_self_eq_true]at *;simp only[m,if_true,hw,G0,c,beq_self_eq_true];rw[<-c];simp only[g,if_true,G0];simp[f]
      ·simp only[ge_iff_le,b,e,d,decide_true,if_true,beq_self_eq_true]at *;simp[m,hw,c,f]
     ·simp only[q0,ge_iff_le,b,e,d,beq_self_eq_true]at *;simp[d]
    ·simp[b,e]
   ·simp[b]
  ·have r:((if(k==3)=true then some (k==3)else some (k==4)):Option Bool)=some false:=by
    have:¬k=3:=fun h=>c2 (.inl h);have:¬k=4:=fun h=>c2 (.inr h);simp[*]
   simp only[q0,r,c2]
   by_cases c3:k=5\/k=6\/k=7\/k=8
   ·have s:((if(k==5)=true then some (k==5)else if(k==6)=true then some (k==6)else if(k==7)=true then some (k==7)else some (k==8)):Option Bool)=some true:=by rcases c3 with rfl|rfl|rfl|rfl<;>rfl
    simp only[s,G0,if_true,c3]
    by_cases b:B=-1
    ·by_cases d:0<=A
     ·by_cases c:A=(i:Int)-1
      ·have g:=j A d O';have f:(1:Int)<=(i:Int):=O'
       simp only[ge_iff_le,b,d,c,decide_true,if_true,beq_self_eq_true]at *;simp[g,f]
      ·simp[b,d,c]
     ·simp[b,d]
    ·simp[b]
   ·have s:((if(k==5)=true then some (k==5)else if(k==6)=true then some (k==6)else if(k==7)=true then some (k==7)else some (k==8)):Option Bool)=some false:=by
     have:¬k=5:=fun h=>c3 (by simp[h]);have:¬k=6:=fun h=>c3 (by simp[h]);have:¬k=7:=fun h=>c3 (by simp[h]);have:¬k=8:=fun h=>c3 (by simp[h]);simp[*]
    simp only[q0,s,c3]
def I0C (fuel:Nat)(x:C0):c0v fuel x=some (R9 x):=by
 unfold c0v R9 g0W
 grind
def H0j (fuel:Nat)(x:C0)(R0:List C0)(f:R0.length<fuel)(hs:R0.length<4611686018427387904):c0b fuel x R0=some (b0L x R0):=by
 have key:∀k i,i+k=R0.length->∃t,iter (c0B fuel x R0) (k+1) (i:Int)=some t/\(match t with|.inl _=>some false|.inr r=>some r)=some (x.Kind==7&&(R0.drop i).any fun y=>y.Kind==7&&y.N==x.N):=by
  intro k
  induction k with
  |zero=>
   intro i hi;refine⟨.inl (),?_,?_⟩
   ·unfold iter c0B;have:¬((i:Int)<(R0.length:Int)):=O'
    simp[this]
   ·rw[List.drop_of_length_le O'];simp
  |succ k ih=>
   intro i hi;have b:i<R0.length:=O'
   have a:y0 R0 (i:Int)=true:=V0 O' O';have hg:gt R0 (i:Int)=R0[i]:=X2 (by simp[b]);have hd:R0.drop i=R0[i] :: R0.drop (i+1):=List.drop_eq_getElem_cons b;have c:(i:Int)<(R0.length:Int):=O'
   by_cases e:(x.Kind==7&&(R0[i].Kind==7&&R0[i].N==x.N))=true
   ·refine⟨.inr true,?_,?_⟩
    ·unfold iter c0B;simp only[c,decide_true,if_true,a,hg]
     grind
    ·rw[hd];simp only[any_cons];grind
   ·obtain⟨t,h1,d⟩:=ih (i+1) O';refine⟨t,?_,?_⟩
    ·unfold iter;have:c0B fuel x R0 (i:Int)=some (.next ((i+1:Nat):Int)):=by
      unfold c0B;simp only[c,decide_true,if_true,a,hg,X1 (show i<9223372036854775807 from O')]
      grind
     rw[this];exact h1
    ·rw[d,hd];simp only[any_cons];grind
 obtain⟨t,h1,d⟩:=key R0.length 0 O';have mono:iter (c0B fuel x R0) fuel ((0:Nat):Int)=some t:=q0S h1 O';unfold c0b;rw[show(0:Int)=((0:Nat):Int)from rfl,mono];rw[List.drop_zero]at d;cases t<;>simpa[b0L]using d
def r06 {l:List C0}{i:Nat}(h:R4 l i=none):∀k,R4 l (i+k)=none
 |0=>h
 |k+1=>by rw[<-add_assoc];simp only[R4,r06 h k]
def d0L (l:List C0):(List Int×Int)⊕List Int:=match R4 l l.length with|none=>.inr []|some b=>.inl (b,(N0 l l.length:Int))
def w0a {l:List C0}{i:Nat}(h:R4 l i=none)(hi:i<=l.length):d0L l=.inr []:=by
 have:=r06 h (l.length-i);rw[show i+(l.length-i)=l.length from O']at this;simp[d0L,this]
def H0c {l:List C0}{a:Int}{i:Nat}(h:0<=a):G1 l a (i:Int)=V9 l a.toNat i:=by
 unfold G1 V9;congr 1;omega
def x0v {l:List C0}{a i:Nat}:(V9 l a i).length<=i:=by simp[V9];omega
def G0V {l:List C0}{a:List Int}{i:Nat}{fuel:Nat}(h:R4 l i=some a)(hi:i<l.length)(hl:l.length<=400)(k:400<fuel):
  e0O fuel l (a,(N0 l i:Int),(i:Int))=if Z6 l a i then some (.next (a++[D3 l a i],(N0 l (i+1):Int),((i+1:Nat):Int)))else some (.done (.inr [])):=by
 have ok:=c07 h;have d:y0 l (i:Int)=true:=V0 O' O';have f:=d0H l i;have h1:(i:Int)<(l.length:Int):=O'
 have g:W ((N0 l i:Int)+1)=((N0 l i+1:Nat):Int):=X1 O';have e:W ((i:Int)+1)=((i+1:Nat):Int):=X1 O';have b:∀x:Int,K0 8 a [x]=true:=fun x=>B4 (by rw[ok.len];simp;omega);unfold e0O;simp only[q0,h1,d,x0Y fuel hi ok O',I0C,g,e,b]
 by_cases hn:D3 l a i<0
 ·have hg:Z6 l a i=false:=by unfold Z6;simp;intro;omega
  simp[hn,hg]
 ·have j:=r0J (l:=l) ok O';have c:P3 l (D3 l a i) (i:Int)=true:=by simp[P3];omega
  simp only[q0,hn,c,H0c (show 0<=D3 l a i from O')];have hs:(V9 l (D3 l a i).toNat i).length<=i:=x0v;rw[H0j fuel _ _ O' O'];have hg:Z6 l a i=(R9 (gt l (i:Int))&&!b0L (gt l (i:Int)) (V9 l (D3 l a i).toNat i)):=by unfold Z6;simp[show 0<=D3 l a i from O']
  rw[hg];generalize b0L (gt l (i:Int)) (V9 l (D3 l a i).toNat i)=ag;generalize R9 (gt l (i:Int))=fb
  by_cases hk:(gt l (i:Int)).Kind=2
  ·cases fb<;>cases ag<;>simp[hk,N0]
  ·cases fb<;>cases ag<;>simp[hk,N0]
def u0V {l:List C0}{fuel:Nat}(hl:l.length<=400)(b:400<fuel):∀(k i:Nat) (a:List Int),R4 l i=some a->i+k=l.length->∀m,k<m->iter (e0O fuel l) m (a,(N0 l i:Int),(i:Int))=some (d0L l)
 |0,i,a,h,hi,m,hm=>by
  obtain⟨m,rfl⟩:∃q,m=q+1:=⟨m-1,O'⟩
  have:¬(i:Int)<(l.length:Int):=O'
  obtain rfl:i=l.length:=O'
  unfold iter e0O;simp[d0L,h]
 |k+1,i,a,h,hi,m,hm=>by
  obtain⟨m,rfl⟩:∃q,m=q+1:=⟨m-1,O'⟩
  unfold iter;rw[G0V h O' hl b]
  by_cases hg:Z6 l a i=true
  ·rw[if_pos hg];exact u0V hl b k (i+1) _ (by simp only[R4,h,hg,if_true]) O' m O'
  ·rw[if_neg hg,w0a (i:=i+1) (by simp only[R4,h];simp[hg]) O']
def q08 (l:List C0){fuel:Nat}(m:401<fuel):I9 fuel l=some (K4 l):=by
 unfold I9 K4
 by_cases d:l.length=0
 ·have:=List.eq_nil_of_length_eq_zero d;subst this;rfl
 ·by_cases i:400<l.length
  ·have c:(l.length:Int)>400:=O'
   simp only[q0,beq_iff_eq,Int.natCast_eq_zero,d,c,i,true_or,or_true];cases R4 l l.length<;>rfl
  ·have c:¬(l.length:Int)>400:=O'
   have e:=u0V (l:=l) (fuel:=fuel) O' O' l.length 0 [] rfl O' fuel O';simp only[q0,beq_iff_eq,Int.natCast_eq_zero,d,c];rw[show(([]:List Int),(0:Int),(0:Int))=([],(N0 l 0:Int),((0:Nat):Int))from rfl,e];simp only[G0,d0L];cases k:R4 l l.length with
   |none=>rfl
   |some b=>
    have ok:=c07 k;have hw:W ((l.length:Int)-1)=(l.length:Int)-1:=E3 O' O';have g:y0 b ((l.length:Int)-1)=true:=V0 O' (by rw[ok.len];omega);have f:h08 b=true:=by
     have:=ok.len;cases b with
     |nil=>simp at this;omega
     |cons x y=>rfl
    simp only[hw,g,if_true]
    by_cases h:64<N0 l l.length
    ·have a:(N0 l l.length:Int)>64:=O'
     simp[h,a]
    ·have a:¬(N0 l l.length:Int)>64:=O'
     by_cases j:gt b ((l.length:Int)-1)=0
     ·simp[h,a,j,f,d,i]
     ·simp[h,a,j]
def c0y (l:List C0){fuel:Nat}(a:401<fuel):l6 fuel l=some (L2 l):=by
 unfold l6 L2;rw[q08 l a];simp only[G0];cases K4 l<;>simp
def C0i (fuel:Nat)(k:Int):c0t fuel k=some (decide (3<=k)&&decide (k<=8),k==3||k==4):=by
 unfold c0t
 by_cases h:k>=3<;>by_cases a:k=3<;>simp[h,a]
def q0R (l:List C0)(c:List Int)(g:Int)(fuel:Nat){i:Nat}(hi:i<l.length)(o:i<4611686018427387904):∀(k a:Nat),a+k=i->∀m,k<m->
  ∃t,iter (d0A fuel l c g (i:Int)) m (a:Int)=some t/\t=if b0L (gt l (i:Int)) (V9 l a i)then .inr []else .inl ()
 |0,a,ha,m,hm=>by
  obtain⟨m,rfl⟩:∃q,m=q+1:=⟨m-1,O'⟩
  obtain rfl:a=i:=O'
  refine⟨.inl (),?_,?_⟩
  ·unfold iter d0A;simp
  ·simp[b0L,V9]
 |k+1,a,ha,m,hm=>by
  obtain⟨m,rfl⟩:∃q,m=q+1:=⟨m-1,O'⟩
  have d:a<l.length:=O'
  have e:y0 l (a:Int)=true:=V0 O' O';have h:(a:Int)<(i:Int):=O'
  have hg:gt l (a:Int)=l[a]:=X2 (by simp[d]);have b:V9 l a i=l[a] :: V9 l (a+1) i:=by
   unfold V9;rw[List.drop_eq_getElem_cons d,show i-a=(i-(a+1))+1 from O',List.take_succ_cons]
  have step:d0A fuel l c g (i:Int) (a:Int)=if((gt l (i:Int)).Kind==7&&((gt l (a:Int)).Kind==7&&(gt l (a:Int)).N==(gt l (i:Int)).N))then some (.done (.inr []))else some (.next ((a+1:Nat):Int)):=by
   unfold d0A;simp only[h,decide_true,if_true,e,X1 (show a<9223372036854775807 from O')];generalize gt l (i:Int)=x;generalize gt l (a:Int)=y
   by_cases h1:x.Kind=7<;>by_cases f:y.Kind=7<;>by_cases n:y.N=x.N<;>simp[h1,f,n]
  unfold iter;rw[step]
  by_cases j:((gt l (i:Int)).Kind==7&&((gt l (a:Int)).Kind==7&&(gt l (a:Int)).N==(gt l (i:Int)).N))=true
  ·rw[if_pos j];refine⟨_,rfl,?_⟩;rw[b];simp only[b0L,any_cons,<-hg]
   grind
  ·rw[if_neg j];obtain⟨t,h1,f⟩:=q0R l c g fuel hi o k (a+1) O' m O';refine⟨t,h1,?_⟩;rw[f,b];simp only[b0L,any_cons,<-hg]
   grind
def G0X (x:C0):
  ((if(decide (x.Kind<1))=true then some true else if(decide (x.Kind>8))=true then some true else
   if(x.Kind != 2)=true then
    if(!((gt x.Set 0==0)&&((gt x.Set 1==0)&&((gt x.Set 2==0)&&(gt x.Set 3==0)))))=true then some true
    else if(x.Kind != 7)=true then if(x.N != 0)=true then some true else if(x.Kind==7)=true then if(decide (x.N<1))=true then some true else some (decide (x.N>9))else some false
     else if(x.Kind==7)=true then if(decide (x.N<1))=true then some true else some (decide (x.N>9))else some false
   else if(x.Kind != 7)=true then if(x.N != 0)=true then some true else if(x.Kind==7)=true then if(decide (x.N<1))=true then some true else some (decide (x.N>9))else some false
    else if(x.Kind==7)=true then if(decide (x.N<1))=true then some true else some (decide (x.N>9))else some false):Option Bool)
  = some (decide (x.Kind<1)||decide (x.Kind>8)||!R9 x):=by
 unfold R9 g0W;obtain⟨k,A,B,N,S⟩:=x;simp only;generalize ((gt S 0==0)&&((gt S 1==0)&&((gt S 2==0)&&(gt S 3==0))))=z
 by_cases h1:k<1
 ·simp[h1]
 ·by_cases c:k>8
  ·simp[c]
  ·by_cases b:k=2
   ·subst b;by_cases hn:N=0<;>simp[hn]
   ·by_cases a:k=7
    ·subst a;cases z<;>by_cases d:N<1<;>by_cases e:N>9<;>simp[d,e]<;>omega
    ·cases z<;>by_cases hn:N=0<;>simp[h1,c,b,a,hn]
def B0u {l:List C0}{a:List Int}{i:Nat}(h:¬(1<=(gt l (i:Int)).Kind/\(gt l (i:Int)).Kind<=8)):Z6 l a i=false:=by
 have:D3 l a i=-1:=by
  unfold D3;simp only;rw[if_neg O',if_neg O',if_neg O']
 simp[Z6,this]
def s0q {l:List C0}{a:List Int}{i:Nat}{fuel:Nat}(h:R4 l i=some a)(hi:i<l.length)(hl:l.length<2199023255552)(hf:l.length<fuel):
  e0h fuel l (a++List.replicate (l.length-i) 0,(N0 l i:Int),(i:Int)) =
   if Z6 l a i then some (.next (a++[D3 l a i]++List.replicate (l.length-(i+1)) 0,(N0 l (i+1):Int),((i+1:Nat):Int)))else some (.done (.inr [])):=by
 have ok:=c07 h;have b1:y0 l (i:Int)=true:=V0 O' O';have b6:=d0H l i;have h1:(i:Int)<(l.length:Int):=O'
 have hW:W ((N0 l i:Int)+1)=((N0 l i+1:Nat):Int):=X1 O';have b5:W ((i:Int)+1)=((i+1:Nat):Int):=X1 O';have R:W ((i:Int)-1)=(i:Int)-1:=E3 O' O';have hlen:(a++List.replicate (l.length-i) (0:Int)).length=l.length:=by simp[ok.len];omega
 have u:y0 (a++List.replicate (l.length-i) (0:Int)) (i:Int)=true:=V0 O' (by rw[hlen];omega);have w:List.replicate (l.length-i) (0:Int)=0 :: List.replicate (l.length-(i+1)) 0:=k0H hi 0;have r:∀(x y:Int) (m:List Int),(a++x :: m).set i y=a++y :: m:=fun x y m=>l0M ok.len.symm;have k:∀(x:Int) (m:List Int),gt (a++x :: m) (i:Int)=x:=fun x m=>e0v ok.len.symm;have n:∀(z x:Int) (m:List Int),0<=z->z<i->gt (a++x :: m) z=gt a z:=fun z x m I s=>b0Y I (by rw[ok.len];omega);have g:∀(z x:Int) (m:List Int),0<=z->z<=i->y0 (a++x :: m) z=true:=fun z x m I s=>V0 I (by simp[ok.len];omega);have hr:∀z:Int,0<=z->z<i->gt a z<=z/\0<=gt a z:=fun z h1 s=>by
  have:=ok.rng z.toNat O'
  rwa [show((z.toNat:Nat):Int)=z from O',and_comm]at this
 have tail:∀v:Int,0<=v->v<=i->D3 l a i=v->R9 (gt l (i:Int))=true->
   (Option.bind (iter (d0A fuel l (a++v :: List.replicate (l.length-(i+1)) 0) (N0 l (i+1):Int) (i:Int)) fuel v) fun t2=>match t2 with
    |.inl _=>(some (.next (a++v :: List.replicate (l.length-(i+1)) 0,(N0 l (i+1):Int),W ((i:Int)+1))):Option (Q0 (List Int×Int×Int) ((List Int×Int)⊕(List Int))))
    |.inr r1=>some (.done (.inr r1))) =
   if Z6 l a i then some (.next (a++[v]++List.replicate (l.length-(i+1)) 0,(N0 l (i+1):Int),((i+1:Nat):Int)))else some (.done (.inr [])):=by
  intro v I s e f;obtain⟨q,rfl⟩:=Int.eq_ofNat_of_zero_le I;obtain⟨t,ht,b4⟩:=q0R l (a++(q:Int) :: List.replicate (l.length-(i+1)) 0) (N0 l (i+1):Int) fuel hi O' (i-q) q O' fuel O';rw[ht,b4];have hg:Z6 l a i=!b0L (gt l (i:Int)) (V9 l q i):=by unfold Z6;rw[e,f];simp
  rw[hg]
  by_cases hc:b0L (gt l (i:Int)) (V9 l q i)=true
  ·simp[hc]
  ·simp[hc,b5]
 unfold e0h;simp only[q0,h1,b1,u,C0i,G0X];rw[w]
 by_cases hk:1<=(gt l (i:Int)).Kind/\(gt l (i:Int)).Kind<=8
 ·have b3:¬(gt l (i:Int)).Kind<1:=O'
  have U:¬(gt l (i:Int)).Kind>8:=O'
  simp only[b3,U,decide_false,Bool.false_or];cases f:R9 (gt l (i:Int))with
  |false=>
   have hg:Z6 l a i=false:=by simp[Z6,f]
   simp[hg]
  |true=>
   simp only[q0,Int.toNat_natCast,r,k,R];have a1:((if((gt l (i:Int)).Kind==2)=true then some (W ((N0 l i:Int)+1))else some (N0 l i:Int)):Option Int)=some ((N0 l (i+1):Nat):Int):=by
    rw[hW]
    by_cases s:(gt l (i:Int)).Kind=2<;>simp[s,N0]
   simp only[a1,G0];have bad:D3 l a i=-1->Z6 l a i=false:=fun b2=>by simp[Z6,b2]
   by_cases c1:(gt l (i:Int)).Kind=1\/(gt l (i:Int)).Kind=2
   ·have kA:(decide (3<=(gt l (i:Int)).Kind)&&decide ((gt l (i:Int)).Kind<=8))=false:=by rcases c1 with h|h<;>simp[h]
    have p:((gt l (i:Int)).Kind==3||(gt l (i:Int)).Kind==4)=false:=by rcases c1 with h|h<;>simp[h]
    have e:D3 l a i=if(gt l (i:Int)).A=-1/\(gt l (i:Int)).B=-1 then(i:Int)else -1:=by unfold D3;simp only;rw[if_pos c1]
    simp only[q0,kA,p]
    by_cases b:(gt l (i:Int)).A=-1
    ·by_cases d:(gt l (i:Int)).B=-1
     ·have c:D3 l a i=i:=by rw[e,if_pos ⟨b,d⟩]
      simp only[q0,b,d,bne_self_eq_false,g i i _ O' O',k];refine(tail i O' O' c f).trans ?_;rw[c]
     ·rw[bad (by rw[e,if_neg (fun h=>d h.2)])];simp[b,d]
    ·rw[bad (by rw[e,if_neg (fun h=>b h.1)])];simp[b]
   ·have kA:(decide (3<=(gt l (i:Int)).Kind)&&decide ((gt l (i:Int)).Kind<=8))=true:=by simp;omega
    simp only[q0,kA]
    by_cases c2:(gt l (i:Int)).Kind=3\/(gt l (i:Int)).Kind=4
    ·have p:((gt l (i:Int)).Kind==3||(gt l (i:Int)).Kind==4)=true:=by rcases c2 with h|h<;>simp[h]
     have e:D3 l a i=if(gt l (i:Int)).B=(i:Int)-1/\0<=(gt l (i:Int)).B/\0<=(gt l (i:Int)).A/\(gt l (i:Int)).A=gt a (gt l (i:Int)).B-1 then gt a (gt l (i:Int)).A else -1:=by unfold D3;simp only;rw[if_neg c1,if_pos c2]
     simp only[q0,p]
     by_cases d:(gt l (i:Int)).B=(i:Int)-1
     ·by_cases C:(i:Int)-1<0
      ·rw[bad (by rw[e,if_neg (fun h=>O')])];simp only[q0,d,bne_self_eq_false,C]
      ·have b7:=hr ((i:Int)-1) O' O';have J:W (gt a ((i:Int)-1)-1)=gt a ((i:Int)-1)-1:=E3 O' O';simp only[q0,d,bne_self_eq_false,C,g _ _ _ (show 0<=(i:Int)-1 from O') O',n _ _ _ (show 0<=(i:Int)-1 from O') O',J]
       by_cases b:(gt l (i:Int)).A=gt a ((i:Int)-1)-1
       ·by_cases j:gt a ((i:Int)-1)-1<0
        ·rw[bad (by rw[e,if_neg (fun h=>O')])];simp only[q0,b,bne_self_eq_false,j]
        ·have o:=hr (gt a ((i:Int)-1)-1) O' O';have c:D3 l a i=gt a (gt a ((i:Int)-1)-1):=by rw[e,d,if_pos ⟨rfl,O',O',b⟩,b]
         simp only[q0,b,bne_self_eq_false,j,g _ _ _ (show 0<=gt a ((i:Int)-1)-1 from O') O',g i _ _ O' O',n _ _ _ (show 0<=gt a ((i:Int)-1)-1 from O') O',k];refine(tail _ o.2 O' c f).trans ?_;rw[c]
       ·rw[bad (by rw[e,d,if_neg (fun h=>b h.2.2.2)])];simp[b]
     ·rw[bad (by rw[e,if_neg (fun h=>d h.1)])];simp[d]
    ·have c3:(gt l (i:Int)).Kind=5\/(gt l (i:Int)).Kind=6\/(gt l (i:Int)).Kind=7\/(gt l (i:Int)).Kind=8:=O'
     have p:((gt l (i:Int)).Kind==3||(gt l (i:Int)).Kind==4)=false:=by rcases c3 with h|h|h|h<;>simp[h]
     have e:D3 l a i=if(gt l (i:Int)).B=-1/\0<=(gt l (i:Int)).A/\(gt l (i:Int)).A=(i:Int)-1 then gt a (gt l (i:Int)).A else -1:=by unfold D3;simp only;rw[if_neg c1,if_neg c2,if_pos c3]
     simp only[q0,p]
     by_cases d:(gt l (i:Int)).B=-1
     ·simp only[q0,d,bne_self_eq_false]
      by_cases b:(gt l (i:Int)).A=(i:Int)-1
      ·by_cases j:(i:Int)-1<0
       ·rw[bad (by rw[e,if_neg (fun h=>O')])];simp only[q0,b,bne_self_eq_false,j]
       ·have o:=hr ((i:Int)-1) O' O';have c:D3 l a i=gt a ((i:Int)-1):=by rw[e,b,if_pos ⟨d,O',rfl⟩]
        simp only[q0,b,bne_self_eq_false,j,g _ _ _ (show 0<=(i:Int)-1 from O') O',g i _ _ O' O',n _ _ _ (show 0<=(i:Int)-1 from O') O',k];refine(tail _ o.2 O' c f).trans ?_;rw[c]
      ·rw[bad (by rw[e,if_neg (fun h=>b h.2.2)])];simp[b]
     ·rw[bad (by rw[e,if_neg (fun h=>d h.1)])];simp[d]
 ·rw[B0u hk];have:(decide ((gt l (i:Int)).Kind<1)||decide ((gt l (i:Int)).Kind>8)||!R9 (gt l (i:Int)))=true:=by
   by_cases h8:(gt l (i:Int)).Kind<1
   ·simp[h8]
   ·have:(gt l (i:Int)).Kind>8:=O'
    simp[this]
  simp[this]
def s0i {l:List C0}{fuel:Nat}(hl:l.length<2199023255552)(b:l.length<fuel):∀(k i:Nat) (a:List Int),R4 l i=some a->i+k=l.length->∀m,k<m->
  iter (e0h fuel l) m (a++List.replicate (l.length-i) 0,(N0 l i:Int),(i:Int))=some (d0L l)
 |0,i,a,h,hi,m,hm=>by
  obtain⟨m,rfl⟩:∃q,m=q+1:=⟨m-1,O'⟩
  obtain rfl:i=l.length:=O'
  unfold iter e0h;simp[d0L,h]
 |k+1,i,a,h,hi,m,hm=>by
  obtain⟨m,rfl⟩:∃q,m=q+1:=⟨m-1,O'⟩
  unfold iter;rw[s0q h O' hl b]
  by_cases hg:Z6 l a i=true
  ·rw[if_pos hg];exact s0i hl b k (i+1) _ (by simp only[R4,h,hg,if_true]) O' m O'
  ·rw[if_neg hg,w0a (i:=i+1) (by simp only[R4,h];simp[hg]) O']
def u0g (l:List C0){fuel:Nat}(hl:l.length*64<=140737488351232)(o:l.length+1<fuel):b0G fuel l=some (K4 l):=by
 unfold b0G K4;have j:R2 8 (l.length:Int)=true:=by simp[R2];omega
 have f:=s0i (l:=l) (fuel:=fuel) O' O' l.length 0 [] rfl O' fuel O';simp only[j,if_true,Int.toNat_natCast];rw[show(List.replicate l.length (0:Int),(0:Int),(0:Int))=([]++List.replicate (l.length-0) 0,(N0 l 0:Int),((0:Nat):Int))from by simp[N0],f];simp only[G0,d0L];cases n:R4 l l.length with
 |none=>rfl
 |some b=>
  have ok:=c07 n;have m:=d0H l l.length
  by_cases d:l.length=0
  ·simp[d]
  ·by_cases e:400<l.length
   ·have a:(l.length:Int)>400:=O'
    simp[d,e,a]
   ·have a:¬(l.length:Int)>400:=O'
    have hw:W ((l.length:Int)-1)=(l.length:Int)-1:=E3 O' O';have h:y0 b ((l.length:Int)-1)=true:=V0 O' (by rw[ok.len];omega);have g:h08 b=true:=by
     have:=ok.len;cases b with
     |nil=>simp at this;omega
     |cons x y=>rfl
    simp only[hw,h,if_true]
    by_cases i:64<N0 l l.length
    ·have c:(N0 l l.length:Int)>64:=O'
     simp[d,e,a,i,c]
    ·have c:¬(N0 l l.length:Int)>64:=O'
     by_cases k:gt b ((l.length:Int)-1)=0
     ·simp[d,e,a,i,c,k,g]
     ·simp[d,e,a,i,c,k]
def e02 (l:List C0){fuel:Nat}(hl:l.length*64<=140737488351232)(a:l.length+1<fuel):U6 fuel l=some (L2 l):=by
 unfold U6 L2;rw[u0g l hl a];rfl
def At (l:List C0)(lo:Nat)(t:Tm):Prop:=(l.drop lo).take t.size=t.flat lo
def At.len {l:List C0}{lo:Nat}{t:Tm}(h:At l lo t):lo+t.size<=l.length:=by
 have:=congrArg List.length h;rw[Tm.O5,List.length_take,List.length_drop]at this;have:=t.size_pos;omega
def At.get {l:List C0}{lo:Nat}{t:Tm}(h:At l lo t){j:Nat}(a:j<t.size):l[lo+j]?=(t.flat lo)[j]?:=by
 rw[<-h,List.getElem?_take_of_lt a,List.getElem?_drop]
def Tm.H08 (t:Tm)(lo:Nat):(t.flat lo)[t.size-1]?=some (t.node lo):=by
 cases t<;>simp[Tm.flat,Tm.size,Tm.O5]
 all_goals (rw[List.getElem?_append_right (by simp[Tm.O5])];simp[Tm.O5])
def At.top {l:List C0}{lo:Nat}{t:Tm}(h:At l lo t):l[t.top lo]?=some (t.node lo):=by
 have hp:=t.size_pos;have:=h.get (j:=t.size-1) O';rw[Tm.H08]at this
 rwa [Tm.top,show lo+t.size-1=lo+(t.size-1)from O']
def At.N3 {l:List C0}{lo:Nat}{t:Tm}(h:At l lo t):gt l (t.top lo:Int)=t.node lo:=X2 h.top
def At.of {l:List C0}{lo:Nat}{t:Tm}(hl:lo+t.size<=l.length)(h:∀j,j<t.size->l[lo+j]?=(t.flat lo)[j]?):At l lo t:=by
 unfold At;apply List.ext_getElem?;intro j
 by_cases a:j<t.size
 ·rw[List.getElem?_take_of_lt a,List.getElem?_drop,h j a]
 ·rw[List.getElem?_take_eq_none O',List.getElem?_eq_none (by rw[Tm.O5];omega)]
def At.bin {l:List C0}{lo:Nat}{a b t:Tm}(hs:t.size=a.size+b.size+1)(g:t.flat lo=a.flat lo++b.flat (lo+a.size)++[t.node lo]):At l lo t↔At l lo a/\At l (lo+a.size) b/\l[lo+a.size+b.size]?=some (t.node lo):=by
 constructor
 ·intro h;have hl:=h.len;have e:=fun j c=>h.get (j:=j) c;rw[g]at e;refine⟨At.of O' fun j c=>?_,At.of O' fun j c=>?_,?_⟩
  ·rw[e j O',append_assoc,List.getElem?_append_left (by rw[Tm.O5];omega)]
  ·rw[add_assoc,e (a.size+j) O',append_assoc,List.getElem?_append_right (by rw[Tm.O5];omega),Tm.O5,Nat.add_sub_cancel_left,List.getElem?_append_left (by rw[Tm.O5];omega)]
  ·rw[add_assoc,e (a.size+b.size) O',List.getElem?_append_right (by simp[Tm.O5])];simp[Tm.O5]
 ·rintro⟨h1,f,d⟩
  have hl:=f.len;have i:lo+a.size+b.size<l.length:=by
   rcases lt_or_ge (lo+a.size+b.size) l.length with h|h
   ·exact h
   ·rw[List.getElem?_eq_none h]at d;cases d
  refine At.of O' fun j c=>?_;rw[g];rcases lt_or_ge j a.size with ha|ha
  ·rw[append_assoc,List.getElem?_append_left (by rw[Tm.O5];omega),h1.get ha]
  ·rcases lt_or_ge j (a.size+b.size)with hb|hb
   ·rw[append_assoc,List.getElem?_append_right (by rw[Tm.O5];omega),Tm.O5,List.getElem?_append_left (by rw[Tm.O5];omega),<-f.get O'];congr 1;omega
   ·obtain rfl:j=a.size+b.size:=O'
    rw[List.getElem?_append_right (by simp[Tm.O5]),<-add_assoc,d];simp[Tm.O5]
def At.un {l:List C0}{lo:Nat}{a t:Tm}(hs:t.size=a.size+1)(d:t.flat lo=a.flat lo++[t.node lo]):At l lo t↔At l lo a/\l[lo+a.size]?=some (t.node lo):=by
 constructor
 ·intro h;have hl:=h.len;have e:=fun j c=>h.get (j:=j) c;rw[d]at e;refine⟨At.of O' fun j c=>?_,?_⟩
  ·rw[e j O',List.getElem?_append_left (by rw[Tm.O5];omega)]
  ·rw[e a.size O',List.getElem?_append_right (by simp[Tm.O5])];simp[Tm.O5]
 ·rintro⟨h1,b⟩
  have f:lo+a.size<l.length:=by
   rcases lt_or_ge (lo+a.size) l.length with h|h
   ·exact h
   ·rw[List.getElem?_eq_none h]at b;cases b
  refine At.of O' fun j c=>?_;rw[d];rcases lt_or_ge j a.size with ha|ha
  ·rw[List.getElem?_append_left (by rw[Tm.O5];omega),h1.get ha]
  ·obtain rfl:j=a.size:=O'
   rw[List.getElem?_append_right (by simp[Tm.O5]),b];simp[Tm.O5]
def At.one {l:List C0}{lo:Nat}{t:Tm}(hs:t.size=1)(a:t.flat lo=[t.node lo]):At l lo t↔l[lo]?=some (t.node lo):=by
 constructor
 ·intro h;have:=h.get (j:=0) O';rw[a]at this;simpa using this
 ·intro h;have hl:lo<l.length:=by
   rcases lt_or_ge lo l.length with h'|h'
   ·exact h'
   ·rw[List.getElem?_eq_none h']at h;cases h
  refine At.of O' fun j b=>?_;obtain rfl:j=0:=O'
  rw[a,Nat.add_zero,h];rfl
def z00 (s:List Int):Prop:=s.length=4/\∀y∈s,L5 .u64 y
def Tm.ok:Tm->Prop
 |.eps=>True|.leaf s=>z00 s|.cat a b=>a.ok/\b.ok|.alt a b=>a.ok/\b.ok
 |.star a=>a.ok|.maybe a=>a.ok|.group n a=>1<=n/\n<=9/\a.ok|.iter a=>a.ok
def Tm.leaves:Tm->Nat
 |.eps=>0|.leaf _=>1|.cat a b=>a.leaves+b.leaves|.alt a b=>a.leaves+b.leaves
 |.star a=>a.leaves|.maybe a=>a.leaves|.group _ a=>a.leaves|.iter a=>a.leaves
def Tm.b0r (t:Tm):t.leaves<=t.size:=by induction t<;>simp[Tm.leaves,Tm.size]<;>omega
def St (l:List C0)(a:List Int):Nat->List Tm->Prop
 |i,[]=>i=0
 |i,t :: ts=>t.size<=i/\At l (i-t.size) t/\t.ok/\gt a ((i-1:Nat):Int)=((i-t.size:Nat):Int)/\N0 l i=N0 l (i-t.size)+t.leaves/\St l a (i-t.size) ts
def St.snoc {l:List C0}{a:List Int}{v:Int}:∀{ts:List Tm} {i:Nat},i<=a.length->St l a i ts->St l (a++[v]) i ts
 |[],_,_,h=>h
 |t :: ts,i,hi,⟨h1,h2,h3,h4,h5,h6⟩=>by
  have:=t.size_pos;exact⟨h1,h2,h3,by rw[b0Y O' O'];exact h4,h5,St.snoc O' h6⟩
def F0X {x:C0}(hw:P2 x)(h:g0W x=true):x.Set=Z4:=by
 have hl:=hw.2.2.2.2.1;simp only[g0W,and_eq_true,beq_iff_eq]at h;obtain⟨k,A,B,N,S⟩:=x;simp only at *
 match S,hl with
 |[s0,s1,s2,s3],_=>
  obtain⟨a,b,c,d⟩:=h;simp[gt]at a b c d;simp[Z4,a,b,c,d]
def r00 {l:List C0}(hw:∀x∈l,P2 x):∀{i:Nat} {a:List Int},R4 l i=some a->i<=l.length->∃ts,St l a i ts
 |0,a,_,_=>⟨[],rfl⟩
 |i+1,a,h,hi=>by
  simp only[R4]at h;split at h
  ·cases h
  ·rename_i b hb;split at h
   ·rename_i hg;cases h;obtain⟨ts,n⟩:=r00 hw hb O';have ok:=c07 hb;simp only[Z6,and_eq_true,decide_eq_true_eq]at hg;obtain⟨⟨h0,w⟩,_⟩:=hg;have d:l[i]?=some (gt l (i:Int)):=by
     have y:i<l.length:=O'
     rw[X2 (x:=l[i]) (by simp[y])];simp[y]
    have s:P2 (gt l (i:Int)):=hw _ (List.mem_of_getElem? d);have U:gt (b++[D3 l b i]) ((i:Nat):Int)=D3 l b i:=e0v ok.len.symm;have r:St l (b++[D3 l b i]) i ts:=n.snoc (by rw[ok.len];omega);have m:N0 l (i+1)=N0 l i+if(gt l (i:Int)).Kind=2 then 1 else 0:=rfl;have mk:∀(t:Tm) (us:List Tm),t.size<=i+1->At l (i+1-t.size) t->t.ok->D3 l b i=((i+1-t.size:Nat):Int)->N0 l (i+1)=N0 l (i+1-t.size)+t.leaves->St l (b++[D3 l b i]) (i+1-t.size) us->∃ts,St l (b++[D3 l b i]) (i+1) ts:=
     fun t us h1 h2 h3 h4 h5 h6=>⟨t :: us,h1,h2,h3,by rw[Nat.add_sub_cancel,U,h4],h5,h6⟩
    generalize hx:gt l (i:Int)=x at *;have q:x.Kind≠2->x.Set=Z4:=fun h2=>F0X s (by simp only[R9,and_eq_true,Bool.or_eq_true,beq_iff_eq]at w;exact w.1.resolve_left h2);have j:x.Kind≠7->x.N=0:=fun h7=>by simp only[R9,and_eq_true,Bool.or_eq_true,beq_iff_eq,h7,if_false]at w;exact w.2
    have g:D3 l b i=(if x.Kind=1\/x.Kind=2 then(if x.A=-1/\x.B=-1 then(i:Int)else -1)
      else if x.Kind=3\/x.Kind=4 then(if x.B=(i:Int)-1/\0<=x.B/\0<=x.A/\x.A=gt b x.B-1 then gt b x.A else -1)
      else if x.Kind=5\/x.Kind=6\/x.Kind=7\/x.Kind=8 then(if x.B=-1/\0<=x.A/\x.A=(i:Int)-1 then gt b x.A else -1)else -1):=by
     unfold D3;simp only[hx]
    by_cases c1:x.Kind=1\/x.Kind=2
    ·rw[if_pos c1]at g
     by_cases o:x.A=-1/\x.B=-1
     ·rw[if_pos o]at g;rcases c1 with c1|c1
      ·have e:x=Tm.node i .eps:=by
        have:=q O';have:=j O';obtain⟨k,A,B,N,S⟩:=x;simp only[Tm.node]at *;simp_all
       exact mk .eps ts (by simp[Tm.size]) ((At.one rfl rfl).2 (by show l[i]?=some (Tm.node i .eps);rw[d,e])) trivial (by rw[g];simp[Tm.size]) (by rw[m,c1];simp[Tm.size,Tm.leaves]) (by simpa[Tm.size]using r)
      ·have e:x=Tm.node i (.leaf x.Set):=by
        have:=j O';obtain⟨k,A,B,N,S⟩:=x;simp only[Tm.node]at *;simp_all
       exact mk (.leaf x.Set) ts (by simp[Tm.size]) ((At.one rfl rfl).2 (by show l[i]?=some (Tm.node i (.leaf x.Set));rw[d];exact congrArg some e)) ⟨s.2.2.2.2.1,s.2.2.2.2.2⟩ (by rw[g];simp[Tm.size]) (by rw[m,c1];simp[Tm.size,Tm.leaves]) (by simpa[Tm.size]using r)
     ·rw[if_neg o]at g;omega
    ·rw[if_neg c1]at g
     by_cases c2:x.Kind=3\/x.Kind=4
     ·rw[if_pos c2]at g
      by_cases o:x.B=(i:Int)-1/\0<=x.B/\0<=x.A/\x.A=gt b x.B-1
      ·rw[if_pos o]at g;obtain⟨v,b2,I,a1⟩:=o;cases ts with
       |nil=>have:i=0:=n;omega
       |cons tb ts=>
        obtain⟨p1,p2,p3,p4,p5,p6⟩:=n;have e1:gt b x.B=((i-tb.size:Nat):Int):=by rw[v,<-p4];congr 1;omega
        have hA:x.A=((i-tb.size-1:Nat):Int):=O'
        cases ts with
        |nil=>have:i-tb.size=0:=p6;omega
        |cons ta ts=>
         obtain⟨q1,z,u,R,q5,J⟩:=p6;have hp:=ta.size_pos;have b3:=tb.size_pos;have b1:D3 l b i=((i-tb.size-ta.size:Nat):Int):=by rw[g,hA,R]
         have c:i+1-(ta.size+tb.size+1)=i-tb.size-ta.size:=O'
         have f:i-tb.size-ta.size+ta.size=i-tb.size:=O'
         have p:St l (b++[D3 l b i]) (i-tb.size-ta.size) ts:=St.snoc (by rw[ok.len];omega) J;rcases c2 with c2|c2
         ·have e:x=Tm.node (i-tb.size-ta.size) (.cat ta tb):=by
           have:=q O';have:=j O';obtain⟨k,A,B,N,S⟩:=x;simp only[Tm.node,Tm.top]at *;simp only[C0.mk.injEq];refine⟨c2,O',O',by assumption,by assumption⟩
          refine mk (.cat ta tb) ts (by simp[Tm.size];omega) ?_ ⟨u,p3⟩ (by simp only[Tm.size];omega) (by simp only[Tm.size,Tm.leaves,c,m,c2];simp;omega) (by simp only[Tm.size,c];exact p);simp only[Tm.size,c];exact(At.bin rfl rfl).2 ⟨z,by rw[f];exact p2,by rw[f,show i-tb.size+tb.size=i from O',d,e]⟩
         ·have e:x=Tm.node (i-tb.size-ta.size) (.alt ta tb):=by
           have:=q O';have:=j O';obtain⟨k,A,B,N,S⟩:=x;simp only[Tm.node,Tm.top]at *;simp only[C0.mk.injEq];refine⟨c2,O',O',by assumption,by assumption⟩
          refine mk (.alt ta tb) ts (by simp[Tm.size];omega) ?_ ⟨u,p3⟩ (by simp only[Tm.size];omega) (by simp only[Tm.size,Tm.leaves,c,m,c2];simp;omega) (by simp only[Tm.size,c];exact p);simp only[Tm.size,c];exact(At.bin rfl rfl).2 ⟨z,by rw[f];exact p2,by rw[f,show i-tb.size+tb.size=i from O',d,e]⟩
      ·rw[if_neg o]at g;omega
     ·rw[if_neg c2]at g
      by_cases c3:x.Kind=5\/x.Kind=6\/x.Kind=7\/x.Kind=8
      ·rw[if_pos c3]at g
       by_cases o:x.B=-1/\0<=x.A/\x.A=(i:Int)-1
       ·rw[if_pos o]at g;obtain⟨v,I,a1⟩:=o;cases ts with
        |nil=>have:i=0:=n;omega
        |cons ta ts=>
         obtain⟨q1,z,u,R,q5,J⟩:=n;have hp:=ta.size_pos;have hA:x.A=((i-1:Nat):Int):=O'
         have b1:D3 l b i=((i-ta.size:Nat):Int):=by rw[g,hA,R]
         have c:i+1-(ta.size+1)=i-ta.size:=O'
         have f:i-ta.size+ta.size=i:=O'
         have p:St l (b++[D3 l b i]) (i-ta.size) ts:=St.snoc (by rw[ok.len];omega) J;have fin:∀t:Tm,t.size=ta.size+1->t.leaves=ta.leaves->t.flat (i-ta.size)=ta.flat (i-ta.size)++[t.node (i-ta.size)]->t.ok->x=t.node (i-ta.size)->∃ts,St l (b++[D3 l b i]) (i+1) ts:=fun t s1 s2 s3 s4 e=>by
          refine mk t ts O' ?_ s4 O' (by rw[s1,c,s2,m,if_neg O'];omega) (by rw[s1,c];exact p);rw[s1,c];exact(At.un s1 s3).2 ⟨z,by rw[f,d,e]⟩
         have C:=q O';rcases c3 with c3|c3|c3|c3
         ·refine fin (.star ta) rfl rfl rfl u ?_;have:=j O';obtain⟨k,A,B,N,S⟩:=x;simp only[Tm.node,Tm.top]at *;simp only[C0.mk.injEq];refine⟨c3,O',v,by assumption,C⟩
         ·refine fin (.maybe ta) rfl rfl rfl u ?_;have:=j O';obtain⟨k,A,B,N,S⟩:=x;simp only[Tm.node,Tm.top]at *;simp only[C0.mk.injEq];refine⟨c3,O',v,by assumption,C⟩
         ·have hn:1<=x.N/\x.N<=9:=by simp only[R9,c3,and_eq_true,beq_self_eq_true,if_true,decide_eq_true_eq]at w;exact w.2
          refine fin (.group x.N ta) rfl rfl rfl ⟨hn.1,hn.2,u⟩ ?_;obtain⟨k,A,B,N,S⟩:=x;simp only[Tm.node,Tm.top]at *;simp only[C0.mk.injEq];refine⟨c3,O',v,trivial,C⟩
         ·refine fin (.iter ta) rfl rfl rfl u ?_;have:=j O';obtain⟨k,A,B,N,S⟩:=x;simp only[Tm.node,Tm.top]at *;simp only[C0.mk.injEq];refine⟨c3,O',v,by assumption,C⟩
       ·rw[if_neg o]at g;omega
      ·rw[if_neg c3]at g;omega
   ·cases h
structure I4 (l:List C0)(t:Tm):Prop where
 eq:l=t.flat 0
 at0:At l 0 t
 ok:t.ok
 len:l.length=t.size
 le:t.size<=400
 lv:t.leaves<=64
def a0N {l:List C0}(hw:∀x∈l,P2 x)(h:L2 l=true):∃t,I4 l t:=by
 unfold L2 K4 at h;cases d:R4 l l.length with
 |none=>simp[d]at h
 |some a=>
  simp only[d]at h;split at h
  ·simp at h
  ·rename_i c;have ok:=c07 d;obtain⟨ts,b⟩:=r00 hw d (Nat.le_refl _);cases ts with
   |nil=>exact absurd (.inl b) c
   |cons t ts=>
    obtain⟨p,e,j,m,n,o⟩:=b;have i:gt a ((l.length:Int)-1)=0:=by
     rcases Int.decEq (gt a ((l.length:Int)-1)) 0 with h|h
     ·exact absurd (.inr (.inr (.inr h))) c
     ·exact h
    have q:l.length≠0:=fun h=>c (.inl h);rw[show((l.length-1:Nat):Int)=(l.length:Int)-1 from O',i]at m;have hs:t.size=l.length:=O'
    rw[hs,Nat.sub_self]at e;have f:l=t.flat 0:=by
     have:=e;unfold At at this
     rwa [List.drop_zero,hs,List.take_length]at this
    have g:¬400<l.length:=fun h=>c (.inr (.inl h));have k:¬64<N0 l l.length:=fun h=>c (.inr (.inr (.inl h)));rw[hs,Nat.sub_self]at n;have:N0 l 0=0:=rfl;exact⟨t,f,e,j,hs.symm,O',O'⟩
