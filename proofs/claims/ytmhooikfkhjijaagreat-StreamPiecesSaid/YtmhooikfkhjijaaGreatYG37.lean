/- P. Its conditions: none. -/
import Derived.Test.YtmhooikfkhjijaaGreatYG24
import Derived.Test.YtmhooikfkhjijaaGreatYOm
open Bool (and_eq_true false_eq_true)
open List (any_cons append_assoc)
open Nat (add_assoc lt_or_ge)
set_option linter.all false
namespace Go.Proofs.YtmhooikfkhjijaaGreat.Old
open Go.V Go.RowKit
def Z4:List Int:=[0,0,0,0]
inductive Tm where
 |eps|leaf (s:List Int)|cat (a b:Tm)|alt (a b:Tm)|star (a:Tm)|maybe (a:Tm)|group (n:Int) (a:Tm)|iter (a:Tm)
def Tm.size:Tm->Nat
 |.eps=>1|.leaf _=>1|.cat a b=>a.size+b.size+1|.alt a b=>a.size+b.size+1
 |.star a=>a.size+1|.maybe a=>a.size+1|.group _ a=>a.size+1|.iter a=>a.size+1
def Tm.size_pos (t:Tm):0<t.size:=by cases t<;>simp[Tm.size]
def Tm.top (t:Tm)(lo:Nat):Nat:=lo+t.size-1
def Tm.node (lo:Nat):Tm->C0
 |.eps=>⟨1,-1,-1,0,Z4⟩
 |.leaf s=>⟨2,-1,-1,0,s⟩
 |.cat a b=>⟨3,(a.top lo:Int),(b.top (lo+a.size):Int),0,Z4⟩
 |.alt a b=>⟨4,(a.top lo:Int),(b.top (lo+a.size):Int),0,Z4⟩
 |.star a=>⟨5,(a.top lo:Int),-1,0,Z4⟩
 |.maybe a=>⟨6,(a.top lo:Int),-1,0,Z4⟩
 |.group n a=>⟨7,(a.top lo:Int),-1,n,Z4⟩
 |.iter a=>⟨8,(a.top lo:Int),-1,0,Z4⟩
def Tm.flat (lo:Nat):Tm->List C0
 |.eps=>[Tm.node lo .eps]
 |.leaf s=>[Tm.node lo (.leaf s)]
 |.cat a b=>a.flat lo++b.flat (lo+a.size)++[Tm.node lo (.cat a b)]
 |.alt a b=>a.flat lo++b.flat (lo+a.size)++[Tm.node lo (.alt a b)]
 |.star a=>a.flat lo++[Tm.node lo (.star a)]
 |.maybe a=>a.flat lo++[Tm.node lo (.maybe a)]
 |.group n a=>a.flat lo++[Tm.node lo (.group n a)]
 |.iter a=>a.flat lo++[Tm.node lo (.iter a)]
def Tm.o6 (t:Tm):∀lo,(t.flat lo).length=t.size:=by
 induction t<;>intro lo<;>simp[Tm.flat,Tm.size, *]<;>omega
def L3 (l:List C0)(a:List Int)(i:Nat):Int:=
 let x:=gt l (i:Int)
 if x.Kind=1\/x.Kind=2 then(if x.A=-1/\x.B=-1 then(i:Int)else -1)
 else if x.Kind=3\/x.Kind=4 then(if x.B=(i:Int)-1/\0<=x.B/\0<=x.A/\x.A=gt a x.B-1 then gt a x.A else -1)
 else if x.Kind=5\/x.Kind=6\/x.Kind=7\/x.Kind=8 then(if x.B=-1/\0<=x.A/\x.A=(i:Int)-1 then gt a x.A else -1)
 else -1
def g09 (x:C0):Bool:=gt x.Set 0==0&&(gt x.Set 1==0&&(gt x.Set 2==0&&gt x.Set 3==0))
def T8 (x:C0):Bool:=(x.Kind==2||g09 x)&&(if x.Kind==7 then decide (1<=x.N)&&decide (x.N<=9)else x.N==0)
def a0O (x:C0)(M0:List C0):Bool:=x.Kind==7&&M0.any fun y=>y.Kind==7&&y.N==x.N
def M8 (l:List C0)(a i:Nat):List C0:=(l.drop a).take (i-a)
def K6 (l:List C0)(a:List Int)(i:Nat):Bool:=decide (0<=L3 l a i)&&T8 (gt l (i:Int))&&!a0O (gt l (i:Int)) (M8 l (L3 l a i).toNat i)
def T4 (l:List C0):Nat->Option (List Int)
 |0=>some []
 |i+1=>match T4 l i with
  |none=>none
  |some a=>if K6 l a i then some (a++[L3 l a i])else none
def L0 (l:List C0):Nat->Nat
 |0=>0
 |i+1=>L0 l i+if(gt l (i:Int)).Kind=2 then 1 else 0
def c0Z (l:List C0):∀i,L0 l i<=i
 |0=>Nat.le_refl _
 |i+1=>by have:=c0Z l i;simp only[L0];split<;>omega
def P4 (l:List C0):List Int:=
 match T4 l l.length with
 |none=>[]
 |some a=>if l.length=0\/400<l.length\/64<L0 l l.length\/gt a ((l.length:Int)-1)≠0 then[]else a
def K1 (l:List C0):Bool:=!(P4 l).isEmpty
structure f0R (a:List Int)(i:Nat):Prop where
 len:a.length=i
 rng:∀j:Nat,j<i->0<=gt a (j:Int)/\gt a (j:Int)<=j
def q0k {l:List C0}{a:List Int}{i:Nat}(h:f0R a i)(c:0<=L3 l a i):L3 l a i<=i:=by
 have b:∀z:Int,0<=z->z<i->gt a z<=z:=fun z h1 d=>by
  have:=(h.rng z.toNat (by omega)).2
  rwa [show((z.toNat:Nat):Int)=z from by omega]at this
 have e:∀z:Int,0<=z->z<i->0<=gt a z:=fun z h1 d=>by
  have:=(h.rng z.toNat (by omega)).1
  rwa [show((z.toNat:Nat):Int)=z from by omega]at this
 revert c
 unfold L3;simp only;generalize gt l (i:Int)=x
 repeat' split
 all_goals intro c
 all_goals first
  |omega
  |(rename_i h1;have f:=b x.A (by omega) (by first|omega|(have:=b x.B (by omega) (by omega);omega));first|omega|(have:=b x.B (by omega) (by omega);omega))
def f0R.snoc {l:List C0}{a:List Int}{i:Nat}(h:f0R a i)(b:0<=L3 l a i):f0R (a++[L3 l a i]) (i+1):=by
 refine⟨by simp[h.len],fun j c=>?_⟩
 by_cases e:j=i
 ·subst e;rw[c08 h.len.symm];exact⟨b,q0k h b⟩
 ·rw[b0u (by omega) (by rw[h.len];omega)];exact h.rng j (by omega)
def b0U {l:List C0}:∀{i:Nat} {a:List Int},T4 l i=some a->f0R a i
 |0,a,h=>by simp[T4]at h;subst h;exact⟨rfl,fun j d=>by omega⟩
 |i+1,a,h=>by
  simp only[T4]at h;split at h
  ·cases h
  ·rename_i b c;split at h
   ·rename_i hg;cases h;simp only[K6,and_eq_true,decide_eq_true_eq]at hg;exact(b0U c).snoc hg.1.1
   ·cases h
def D0O {l:List C0}{a:List Int}{i:Nat}(fuel:Nat)(hi:i<l.length)(ha:f0R a i)(v:i<4611686018427387904):b0z fuel l a (i:Int)=some (L3 l a i):=by
 have q:B0 l (i:Int)=true:=R0 (by omega) (by omega);have u:W ((i:Int)-1)=(i:Int)-1:=n3 (by omega) (by omega);have s:∀z:Int,0<=z->z<i->gt a z<=z/\0<=gt a z:=fun z h1 o=>by
  have:=ha.rng z.toNat (by omega)
  rwa [show((z.toNat:Nat):Int)=z from by omega,and_comm]at this
 have hl:=ha.len;unfold b0z L3;simp only[q,if_true,u];generalize gt l (i:Int)=x;have g:∀z:Int,0<=z->z<i->B0 a z=true:=fun z h1 o=>R0 h1 (by omega);have n:0<=x.B->x.B<i->W (gt a x.B-1)=gt a x.B-1:=fun h1 o=>n3 (by have:=s x.B h1 o;omega) (by have:=s x.B h1 o;omega);obtain⟨k,A,B,N,S⟩:=x;simp only at n ⊢
 by_cases c1:k=1\/k=2
 ·have t:((if(k==1)=true then some (k==1)else some (k==2)):Option Bool)=some true:=by rcases c1 with rfl|rfl<;>rfl
  simp only[t,G0,if_true,c1]
  by_cases d:A=-1<;>by_cases b:B=-1<;>simp[d,b]
 ·have t:((if(k==1)=true then some (k==1)else some (k==2)):Option Bool)=some false:=by
   have:¬k=1:=fun h=>c1 (.inl h);have:¬k=2:=fun h=>c1 (.inr h);simp[*]
  simp only[q0,t,c1]
  by_cases c2:k=3\/k=4
  ·have r:((if(k==3)=true then some (k==3)else some (k==4)):Option Bool)=some true:=by rcases c2 with rfl|rfl<;>rfl
   simp only[r,G0,if_true,c2]
   by_cases b:0<=B
   ·by_cases f:B=(i:Int)-1
    ·have e:(1:Int)<=(i:Int):=by omega
     have m:=g B b (by omega);have hw:=n b (by omega)
     by_cases d:0<=A
     ·by_cases c:A=gt a B-1
      ·have:=s B b (by omega);have j:=g A d (by omega);simp only[ge_iff_le,b,f,d,decide_true,if_true,beq_self_eq_true]at *;simp only[m,if_true,hw,G0,c,beq_self_eq_true];rw[<-c];simp only[j,if_true,G0];simp[e]
      ·simp only[ge_iff_le,b,f,d,decide_true,if_true,beq_self_eq_true]at *;simp[m,hw,c,e]
     ·simp only[q0,ge_iff_le,b,f,d,beq_self_eq_true]at *;simp[d]
    ·simp[b,f]
   ·simp[b]
  ·have r:((if(k==3)=true then some (k==3)else some (k==4)):Option Bool)=some false:=by
    have:¬k=3:=fun h=>c2 (.inl h);have:¬k=4:=fun h=>c2 (.inr h);simp[*]
   simp only[q0,r,c2]
   by_cases c3:k=5\/k=6\/k=7\/k=8
   ·have p:((if(k==5)=true then some (k==5)else if(k==6)=true then some (k==6)else if(k==7)=true then some (k==7)else some (k==8)):Option Bool)=some true:=by rcases c3 with rfl|rfl|rfl|rfl<;>rfl
    simp only[p,G0,if_true,c3]
    by_cases b:B=-1
    ·by_cases d:0<=A
     ·by_cases c:A=(i:Int)-1
      ·have j:=g A d (by omega);have e:(1:Int)<=(i:Int):=by omega
       simp only[ge_iff_le,b,d,c,decide_true,if_true,beq_self_eq_true]at *;simp[j,e]
      ·simp[b,d,c]
     ·simp[b,d]
    ·simp[b]
   ·have p:((if(k==5)=true then some (k==5)else if(k==6)=true then some (k==6)else if(k==7)=true then some (k==7)else some (k==8)):Option Bool)=some false:=by
     have:¬k=5:=fun h=>c3 (by simp[h]);have:¬k=6:=fun h=>c3 (by simp[h]);have:¬k=7:=fun h=>c3 (by simp[h]);have:¬k=8:=fun h=>c3 (by simp[h]);simp[*]
    simp only[q0,p,c3]
def v0E (fuel:Nat)(x:C0):b0P fuel x=some (T8 x):=by
 unfold b0P T8 g09
 grind
def E0R (fuel:Nat)(x:C0)(M0:List C0)(f:M0.length<fuel)(e:M0.length<4611686018427387904):b09 fuel x M0=some (a0O x M0):=by
 have key:∀k i,i+k=M0.length->∃t,iter (c0u fuel x M0) (k+1) (i:Int)=some t/\(match t with|.inl _=>some false|.inr r=>some r)=some (x.Kind==7&&(M0.drop i).any fun y=>y.Kind==7&&y.N==x.N):=by
  intro k
  induction k with
  |zero=>
   intro i hi;refine⟨.inl (),?_,?_⟩
   ·unfold iter c0u;have:¬((i:Int)<(M0.length:Int)):=by omega
    simp[this]
   ·rw[List.drop_of_length_le (by omega)];simp
  |succ k ih=>
   intro i hi;have c:i<M0.length:=by omega
   have a:B0 M0 (i:Int)=true:=R0 (by omega) (by omega);have hg:gt M0 (i:Int)=M0[i]:=B4 (by simp[c]);have hd:M0.drop i=M0[i] :: M0.drop (i+1):=List.drop_eq_getElem_cons c;have b:(i:Int)<(M0.length:Int):=by omega
   by_cases g:(x.Kind==7&&(M0[i].Kind==7&&M0[i].N==x.N))=true
   ·refine⟨.inr true,?_,?_⟩
    ·unfold iter c0u;simp only[b,decide_true,if_true,a,hg]
     grind
    ·rw[hd];simp only[any_cons];grind
   ·obtain⟨t,h1,d⟩:=ih (i+1) (by omega);refine⟨t,?_,?_⟩
    ·unfold iter;have:c0u fuel x M0 (i:Int)=some (.next ((i+1:Nat):Int)):=by
      unfold c0u;simp only[b,decide_true,if_true,a,hg,G3 (show i<9223372036854775807 by omega)]
      grind
     rw[this];exact h1
    ·rw[d,hd];simp only[any_cons];grind
 obtain⟨t,h1,d⟩:=key M0.length 0 (by omega);have mono:iter (c0u fuel x M0) fuel ((0:Nat):Int)=some t:=q0c h1 (by omega);unfold b09;rw[show(0:Int)=((0:Nat):Int)from rfl,mono];rw[List.drop_zero]at d;cases t<;>simpa[a0O]using d
def p0Y {l:List C0}{i:Nat}(h:T4 l i=none):∀k,T4 l (i+k)=none
 |0=>h
 |k+1=>by rw[<-add_assoc];simp only[T4,p0Y h k]
def d0b (l:List C0):(List Int×Int)⊕List Int:=match T4 l l.length with|none=>.inr []|some b=>.inl (b,(L0 l l.length:Int))
def s0S {l:List C0}{i:Nat}(h:T4 l i=none)(hi:i<=l.length):d0b l=.inr []:=by
 have:=p0Y h (l.length-i);rw[show i+(l.length-i)=l.length from by omega]at this;simp[d0b,this]
def v09 {l:List C0}{a:Int}{i:Nat}(h:0<=a):I1 l a (i:Int)=M8 l a.toNat i:=by
 unfold I1 M8;congr 1;omega
def y0N {l:List C0}{a i:Nat}:(M8 l a i).length<=i:=by simp[M8];omega
def B0f {l:List C0}{a:List Int}{i:Nat}{fuel:Nat}(h:T4 l i=some a)(hi:i<l.length)(hl:l.length<=400)(m:400<fuel):
  d0Y fuel l (a,(L0 l i:Int),(i:Int))=if K6 l a i then some (.next (a++[L3 l a i],(L0 l (i+1):Int),((i+1:Nat):Int)))else some (.done (.inr [])):=by
 have ok:=b0U h;have c:B0 l (i:Int)=true:=R0 (by omega) (by omega);have f:=c0Z l i;have h1:(i:Int)<(l.length:Int):=by omega
 have g:W ((L0 l i:Int)+1)=((L0 l i+1:Nat):Int):=G3 (by omega);have b:W ((i:Int)+1)=((i+1:Nat):Int):=G3 (by omega);have d:∀x:Int,I0 8 a [x]=true:=fun x=>Y4 (by rw[ok.len];simp;omega);unfold d0Y;simp only[q0,h1,c,D0O fuel hi ok (by omega),v0E,g,b,d]
 by_cases hn:L3 l a i<0
 ·have hg:K6 l a i=false:=by unfold K6;simp;intro;omega
  simp[hn,hg]
 ·have k:=q0k (l:=l) ok (by omega);have e:I4 l (L3 l a i) (i:Int)=true:=by simp[I4];omega
  simp only[q0,hn,e,v09 (show 0<=L3 l a i by omega)];have j:(M8 l (L3 l a i).toNat i).length<=i:=y0N;rw[E0R fuel _ _ (by omega) (by omega)];have hg:K6 l a i=(T8 (gt l (i:Int))&&!a0O (gt l (i:Int)) (M8 l (L3 l a i).toNat i)):=by unfold K6;simp[show 0<=L3 l a i by omega]
  rw[hg];generalize a0O (gt l (i:Int)) (M8 l (L3 l a i).toNat i)=ag;generalize T8 (gt l (i:Int))=fb
  by_cases hk:(gt l (i:Int)).Kind=2
  ·cases fb<;>cases ag<;>simp[hk,L0]
  ·cases fb<;>cases ag<;>simp[hk,L0]
def q00 {l:List C0}{fuel:Nat}(hl:l.length<=400)(b:400<fuel):∀(k i:Nat) (a:List Int),T4 l i=some a->i+k=l.length->∀m,k<m->iter (d0Y fuel l) m (a,(L0 l i:Int),(i:Int))=some (d0b l)
 |0,i,a,h,hi,m,hm=>by
  obtain⟨m,rfl⟩:∃q,m=q+1:=⟨m-1,by omega⟩
  have:¬(i:Int)<(l.length:Int):=by omega
  obtain rfl:i=l.length:=by omega
  unfold iter d0Y;simp[d0b,h]
 |k+1,i,a,h,hi,m,hm=>by
  obtain⟨m,rfl⟩:∃q,m=q+1:=⟨m-1,by omega⟩
  unfold iter;rw[B0f h (by omega) hl b]
  by_cases hg:K6 l a i=true
  ·rw[if_pos hg];exact q00 hl b k (i+1) _ (by simp only[T4,h,hg,if_true]) (by omega) m (by omega)
  ·rw[if_neg hg,s0S (i:=i+1) (by simp only[T4,h];simp[hg]) (by omega)]
def s08 (l:List C0){fuel:Nat}(m:401<fuel):R8 fuel l=some (P4 l):=by
 unfold R8 P4
 by_cases d:l.length=0
 ·have:=List.eq_nil_of_length_eq_zero d;subst this;rfl
 ·by_cases i:400<l.length
  ·have c:(l.length:Int)>400:=by omega
   simp only[q0,beq_iff_eq,Int.natCast_eq_zero,d,c,i,true_or,or_true];cases T4 l l.length<;>rfl
  ·have c:¬(l.length:Int)>400:=by omega
   have h:=q00 (l:=l) (fuel:=fuel) (by omega) (by omega) l.length 0 [] rfl (by omega) fuel (by omega);simp only[q0,beq_iff_eq,Int.natCast_eq_zero,d,c];rw[show(([]:List Int),(0:Int),(0:Int))=([],(L0 l 0:Int),((0:Nat):Int))from rfl,h];simp only[G0,d0b];cases k:T4 l l.length with
   |none=>rfl
   |some b=>
    have ok:=b0U k;have hw:W ((l.length:Int)-1)=(l.length:Int)-1:=n3 (by omega) (by omega);have e:B0 b ((l.length:Int)-1)=true:=R0 (by omega) (by rw[ok.len];omega);have f:h0r b=true:=by
     have:=ok.len;cases b with
     |nil=>simp at this;omega
     |cons x y=>rfl
    simp only[hw,e,if_true]
    by_cases g:64<L0 l l.length
    ·have a:(L0 l l.length:Int)>64:=by omega
     simp[g,a]
    ·have a:¬(L0 l l.length:Int)>64:=by omega
     by_cases j:gt b ((l.length:Int)-1)=0
     ·simp[g,a,j,f,d,i]
     ·simp[g,a,j]
def c0Q (l:List C0){fuel:Nat}(a:401<fuel):c7 fuel l=some (K1 l):=by
 unfold c7 K1;rw[s08 l a];simp only[G0];cases P4 l<;>simp
def x01 (fuel:Nat)(k:Int):b04 fuel k=some (decide (3<=k)&&decide (k<=8),k==3||k==4):=by
 unfold b04
 by_cases h:k>=3<;>by_cases a:k=3<;>simp[h,a]
def u0B (l:List C0)(c:List Int)(g:Int)(fuel:Nat){i:Nat}(hi:i<l.length)(n:i<4611686018427387904):∀(k a:Nat),a+k=i->∀m,k<m->
  ∃t,iter (c0V fuel l c g (i:Int)) m (a:Int)=some t/\t=if a0O (gt l (i:Int)) (M8 l a i)then .inr []else .inl ()
 |0,a,ha,m,hm=>by
  obtain⟨m,rfl⟩:∃q,m=q+1:=⟨m-1,by omega⟩
  obtain rfl:a=i:=by omega
  refine⟨.inl (),?_,?_⟩
  ·unfold iter c0V;simp
  ·simp[a0O,M8]
 |k+1,a,ha,m,hm=>by
  obtain⟨m,rfl⟩:∃q,m=q+1:=⟨m-1,by omega⟩
  have d:a<l.length:=by omega
  have e:B0 l (a:Int)=true:=R0 (by omega) (by omega);have f:(a:Int)<(i:Int):=by omega
  have hg:gt l (a:Int)=l[a]:=B4 (by simp[d]);have b:M8 l a i=l[a] :: M8 l (a+1) i:=by
   unfold M8;rw[List.drop_eq_getElem_cons d,show i-a=(i-(a+1))+1 from by omega,List.take_succ_cons]
  have step:c0V fuel l c g (i:Int) (a:Int)=if((gt l (i:Int)).Kind==7&&((gt l (a:Int)).Kind==7&&(gt l (a:Int)).N==(gt l (i:Int)).N))then some (.done (.inr []))else some (.next ((a+1:Nat):Int)):=by
   unfold c0V;simp only[f,decide_true,if_true,e,G3 (show a<9223372036854775807 by omega)];generalize gt l (i:Int)=x;generalize gt l (a:Int)=y
   by_cases h1:x.Kind=7<;>by_cases h:y.Kind=7<;>by_cases o:y.N=x.N<;>simp[h1,h,o]
  unfold iter;rw[step]
  by_cases j:((gt l (i:Int)).Kind==7&&((gt l (a:Int)).Kind==7&&(gt l (a:Int)).N==(gt l (i:Int)).N))=true
  ·rw[if_pos j];refine⟨_,rfl,?_⟩;rw[b];simp only[a0O,any_cons,<-hg]
   grind
  ·rw[if_neg j];obtain⟨t,h1,h⟩:=u0B l c g fuel hi n k (a+1) (by omega) m (by omega);refine⟨t,h1,?_⟩;rw[h,b];simp only[a0O,any_cons,<-hg]
   grind
def w02 (x:C0):
  ((if(decide (x.Kind<1))=true then some true else if(decide (x.Kind>8))=true then some true else
   if(x.Kind != 2)=true then
    if(!((gt x.Set 0==0)&&((gt x.Set 1==0)&&((gt x.Set 2==0)&&(gt x.Set 3==0)))))=true then some true
    else if(x.Kind != 7)=true then if(x.N != 0)=true then some true else if(x.Kind==7)=true then if(decide (x.N<1))=true then some true else some (decide (x.N>9))else some false
     else if(x.Kind==7)=true then if(decide (x.N<1))=true then some true else some (decide (x.N>9))else some false
   else if(x.Kind != 7)=true then if(x.N != 0)=true then some true else if(x.Kind==7)=true then if(decide (x.N<1))=true then some true else some (decide (x.N>9))else some false
    else if(x.Kind==7)=true then if(decide (x.N<1))=true then some true else some (decide (x.N>9))else some false):Option Bool)
  = some (decide (x.Kind<1)||decide (x.Kind>8)||!T8 x):=by
 unfold T8 g09;obtain⟨k,A,B,N,S⟩:=x;simp only;generalize ((gt S 0==0)&&((gt S 1==0)&&((gt S 2==0)&&(gt S 3==0))))=z
 by_cases h1:k<1
 ·simp[h1]
 ·by_cases c:k>8
  ·simp[c]
  ·by_cases b:k=2
   ·subst b;by_cases hn:N=0<;>simp[hn]
   ·by_cases a:k=7
    ·subst a;cases z<;>by_cases e:N<1<;>by_cases d:N>9<;>simp[e,d]<;>omega
    ·cases z<;>by_cases hn:N=0<;>simp[h1,c,b,a,hn]
def v01 {l:List C0}{a:List Int}{i:Nat}(h:¬(1<=(gt l (i:Int)).Kind/\(gt l (i:Int)).Kind<=8)):K6 l a i=false:=by
 have:L3 l a i=-1:=by
  unfold L3;simp only;rw[if_neg (by omega),if_neg (by omega),if_neg (by omega)]
 simp[K6,this]
def r04 {l:List C0}{a:List Int}{i:Nat}{fuel:Nat}(h:T4 l i=some a)(hi:i<l.length)(hl:l.length<2199023255552)(hf:l.length<fuel):
  e0D fuel l (a++List.replicate (l.length-i) 0,(L0 l i:Int),(i:Int)) =
   if K6 l a i then some (.next (a++[L3 l a i]++List.replicate (l.length-(i+1)) 0,(L0 l (i+1):Int),((i+1:Nat):Int)))else some (.done (.inr [])):=by
 have ok:=b0U h;have U:B0 l (i:Int)=true:=R0 (by omega) (by omega);have c0:=c0Z l i;have h1:(i:Int)<(l.length:Int):=by omega
 have hW:W ((L0 l i:Int)+1)=((L0 l i+1:Nat):Int):=G3 (by omega);have b1:W ((i:Int)+1)=((i+1:Nat):Int):=G3 (by omega);have R:W ((i:Int)-1)=(i:Int)-1:=n3 (by omega) (by omega);have hlen:(a++List.replicate (l.length-i) (0:Int)).length=l.length:=by simp[ok.len];omega
 have u:B0 (a++List.replicate (l.length-i) (0:Int)) (i:Int)=true:=R0 (by omega) (by rw[hlen];omega);have s:List.replicate (l.length-i) (0:Int)=0 :: List.replicate (l.length-(i+1)) 0:=i06 hi 0;have I:∀(x y:Int) (m:List Int),(a++x :: m).set i y=a++y :: m:=fun x y m=>i08 ok.len.symm;have k:∀(x:Int) (m:List Int),gt (a++x :: m) (i:Int)=x:=fun x m=>c08 ok.len.symm;have o:∀(z x:Int) (m:List Int),0<=z->z<i->gt (a++x :: m) z=gt a z:=fun z x m C r=>b0u C (by rw[ok.len];omega);have f:∀(z x:Int) (m:List Int),0<=z->z<=i->B0 (a++x :: m) z=true:=fun z x m C r=>R0 C (by simp[ok.len];omega);have hr:∀z:Int,0<=z->z<i->gt a z<=z/\0<=gt a z:=fun z h1 r=>by
  have:=ok.rng z.toNat (by omega)
  rwa [show((z.toNat:Nat):Int)=z from by omega,and_comm]at this
 have tail:∀v:Int,0<=v->v<=i->L3 l a i=v->T8 (gt l (i:Int))=true->
   (Option.bind (iter (c0V fuel l (a++v :: List.replicate (l.length-(i+1)) 0) (L0 l (i+1):Int) (i:Int)) fuel v) fun t2=>match t2 with
    |.inl _=>(some (.next (a++v :: List.replicate (l.length-(i+1)) 0,(L0 l (i+1):Int),W ((i:Int)+1))):Option (V0 (List Int×Int×Int) ((List Int×Int)⊕(List Int))))
    |.inr r1=>some (.done (.inr r1))) =
   if K6 l a i then some (.next (a++[v]++List.replicate (l.length-(i+1)) 0,(L0 l (i+1):Int),((i+1:Nat):Int)))else some (.done (.inr [])):=by
  intro v C r e g;obtain⟨q,rfl⟩:=Int.eq_ofNat_of_zero_le C;obtain⟨t,ht,b5⟩:=u0B l (a++(q:Int) :: List.replicate (l.length-(i+1)) 0) (L0 l (i+1):Int) fuel hi (by omega) (i-q) q (by omega) fuel (by omega);rw[ht,b5];have hg:K6 l a i=!a0O (gt l (i:Int)) (M8 l q i):=by unfold K6;rw[e,g];simp
  rw[hg]
  by_cases hc:a0O (gt l (i:Int)) (M8 l q i)=true
  ·simp[hc]
  ·simp[hc,b1]
 unfold e0D;simp only[q0,h1,U,u,x01,w02];rw[s]
 by_cases hk:1<=(gt l (i:Int)).Kind/\(gt l (i:Int)).Kind<=8
 ·have J:¬(gt l (i:Int)).Kind<1:=by omega
  have b3:¬(gt l (i:Int)).Kind>8:=by omega
  simp only[J,b3,decide_false,Bool.false_or];cases g:T8 (gt l (i:Int))with
  |false=>
   have hg:K6 l a i=false:=by simp[K6,g]
   simp[hg]
  |true=>
   simp only[q0,Int.toNat_natCast,I,k,R];have b4:((if((gt l (i:Int)).Kind==2)=true then some (W ((L0 l i:Int)+1))else some (L0 l i:Int)):Option Int)=some ((L0 l (i+1):Nat):Int):=by
    rw[hW]
    by_cases r:(gt l (i:Int)).Kind=2<;>simp[r,L0]
   simp only[b4,G0];have bad:L3 l a i=-1->K6 l a i=false:=fun b2=>by simp[K6,b2]
   by_cases c1:(gt l (i:Int)).Kind=1\/(gt l (i:Int)).Kind=2
   ·have kA:(decide (3<=(gt l (i:Int)).Kind)&&decide ((gt l (i:Int)).Kind<=8))=false:=by rcases c1 with h|h<;>simp[h]
    have w:((gt l (i:Int)).Kind==3||(gt l (i:Int)).Kind==4)=false:=by rcases c1 with h|h<;>simp[h]
    have e:L3 l a i=if(gt l (i:Int)).A=-1/\(gt l (i:Int)).B=-1 then(i:Int)else -1:=by unfold L3;simp only;rw[if_pos c1]
    simp only[q0,kA,w]
    by_cases b:(gt l (i:Int)).A=-1
    ·by_cases d:(gt l (i:Int)).B=-1
     ·have c:L3 l a i=i:=by rw[e,if_pos ⟨b,d⟩]
      simp only[q0,b,d,bne_self_eq_false,f i i _ (by omega) (by omega),k];refine(tail i (by omega) (by omega) c g).trans ?_;rw[c]
     ·rw[bad (by rw[e,if_neg (fun h=>d h.2)])];simp[b,d]
    ·rw[bad (by rw[e,if_neg (fun h=>b h.1)])];simp[b]
   ·have kA:(decide (3<=(gt l (i:Int)).Kind)&&decide ((gt l (i:Int)).Kind<=8))=true:=by simp;omega
    simp only[q0,kA]
    by_cases c2:(gt l (i:Int)).Kind=3\/(gt l (i:Int)).Kind=4
    ·have w:((gt l (i:Int)).Kind==3||(gt l (i:Int)).Kind==4)=true:=by rcases c2 with h|h<;>simp[h]
     have e:L3 l a i=if(gt l (i:Int)).B=(i:Int)-1/\0<=(gt l (i:Int)).B/\0<=(gt l (i:Int)).A/\(gt l (i:Int)).A=gt a (gt l (i:Int)).B-1 then gt a (gt l (i:Int)).A else -1:=by unfold L3;simp only;rw[if_neg c1,if_pos c2]
     simp only[q0,w]
     by_cases d:(gt l (i:Int)).B=(i:Int)-1
     ·by_cases p:(i:Int)-1<0
      ·rw[bad (by rw[e,if_neg (fun h=>by omega)])];simp only[q0,d,bne_self_eq_false,p]
      ·have c4:=hr ((i:Int)-1) (by omega) (by omega);have a1:W (gt a ((i:Int)-1)-1)=gt a ((i:Int)-1)-1:=n3 (by omega) (by omega);simp only[q0,d,bne_self_eq_false,p,f _ _ _ (show 0<=(i:Int)-1 by omega) (by omega),o _ _ _ (show 0<=(i:Int)-1 by omega) (by omega),a1]
       by_cases b:(gt l (i:Int)).A=gt a ((i:Int)-1)-1
       ·by_cases j:gt a ((i:Int)-1)-1<0
        ·rw[bad (by rw[e,if_neg (fun h=>by omega)])];simp only[q0,b,bne_self_eq_false,j]
        ·have n:=hr (gt a ((i:Int)-1)-1) (by omega) (by omega);have c:L3 l a i=gt a (gt a ((i:Int)-1)-1):=by rw[e,d,if_pos ⟨rfl,by omega,by omega,b⟩,b]
         simp only[q0,b,bne_self_eq_false,j,f _ _ _ (show 0<=gt a ((i:Int)-1)-1 by omega) (by omega),f i _ _ (by omega) (by omega),o _ _ _ (show 0<=gt a ((i:Int)-1)-1 by omega) (by omega),k];refine(tail _ n.2 (by omega) c g).trans ?_;rw[c]
       ·rw[bad (by rw[e,d,if_neg (fun h=>b h.2.2.2)])];simp[b]
     ·rw[bad (by rw[e,if_neg (fun h=>d h.1)])];simp[d]
    ·have c3:(gt l (i:Int)).Kind=5\/(gt l (i:Int)).Kind=6\/(gt l (i:Int)).Kind=7\/(gt l (i:Int)).Kind=8:=by omega
     have w:((gt l (i:Int)).Kind==3||(gt l (i:Int)).Kind==4)=false:=by rcases c3 with h|h|h|h<;>simp[h]
     have e:L3 l a i=if(gt l (i:Int)).B=-1/\0<=(gt l (i:Int)).A/\(gt l (i:Int)).A=(i:Int)-1 then gt a (gt l (i:Int)).A else -1:=by unfold L3;simp only;rw[if_neg c1,if_neg c2,if_pos c3]
     simp only[q0,w]
     by_cases d:(gt l (i:Int)).B=-1
     ·simp only[q0,d,bne_self_eq_false]
      by_cases b:(gt l (i:Int)).A=(i:Int)-1
      ·by_cases j:(i:Int)-1<0
       ·rw[bad (by rw[e,if_neg (fun h=>by omega)])];simp only[q0,b,bne_self_eq_false,j]
       ·have n:=hr ((i:Int)-1) (by omega) (by omega);have c:L3 l a i=gt a ((i:Int)-1):=by rw[e,b,if_pos ⟨d,by omega,rfl⟩]
        simp only[q0,b,bne_self_eq_false,j,f _ _ _ (show 0<=(i:Int)-1 by omega) (by omega),f i _ _ (by omega) (by omega),o _ _ _ (show 0<=(i:Int)-1 by omega) (by omega),k];refine(tail _ n.2 (by omega) c g).trans ?_;rw[c]
      ·rw[bad (by rw[e,if_neg (fun h=>b h.2.2)])];simp[b]
     ·rw[bad (by rw[e,if_neg (fun h=>d h.1)])];simp[d]
 ·rw[v01 hk];have:(decide ((gt l (i:Int)).Kind<1)||decide ((gt l (i:Int)).Kind>8)||!T8 (gt l (i:Int)))=true:=by
   by_cases h8:(gt l (i:Int)).Kind<1
   ·simp[h8]
   ·have:(gt l (i:Int)).Kind>8:=by omega
    simp[this]
  simp[this]
def q0v {l:List C0}{fuel:Nat}(hl:l.length<2199023255552)(b:l.length<fuel):∀(k i:Nat) (a:List Int),T4 l i=some a->i+k=l.length->∀m,k<m->
  iter (e0D fuel l) m (a++List.replicate (l.length-i) 0,(L0 l i:Int),(i:Int))=some (d0b l)
 |0,i,a,h,hi,m,hm=>by
  obtain⟨m,rfl⟩:∃q,m=q+1:=⟨m-1,by omega⟩
  obtain rfl:i=l.length:=by omega
  unfold iter e0D;simp[d0b,h]
 |k+1,i,a,h,hi,m,hm=>by
  obtain⟨m,rfl⟩:∃q,m=q+1:=⟨m-1,by omega⟩
  unfold iter;rw[r04 h (by omega) hl b]
  by_cases hg:K6 l a i=true
  ·rw[if_pos hg];exact q0v hl b k (i+1) _ (by simp only[T4,h,hg,if_true]) (by omega) m (by omega)
  ·rw[if_neg hg,s0S (i:=i+1) (by simp only[T4,h];simp[hg]) (by omega)]
def u0n (l:List C0){fuel:Nat}(hl:l.length*64<=140737488351232)(o:l.length+1<fuel):b0c fuel l=some (P4 l):=by
 unfold b0c P4;have f:V2 8 (l.length:Int)=true:=by simp[V2];omega
 have j:=q0v (l:=l) (fuel:=fuel) (by omega) (by omega) l.length 0 [] rfl (by omega) fuel (by omega);simp only[f,if_true,Int.toNat_natCast];rw[show(List.replicate l.length (0:Int),(0:Int),(0:Int))=([]++List.replicate (l.length-0) 0,(L0 l 0:Int),((0:Nat):Int))from by simp[L0],j];simp only[G0,d0b];cases n:T4 l l.length with
 |none=>rfl
 |some b=>
  have ok:=b0U n;have m:=c0Z l l.length
  by_cases d:l.length=0
  ·simp[d]
  ·by_cases e:400<l.length
   ·have a:(l.length:Int)>400:=by omega
    simp[d,e,a]
   ·have a:¬(l.length:Int)>400:=by omega
    have hw:W ((l.length:Int)-1)=(l.length:Int)-1:=n3 (by omega) (by omega);have g:B0 b ((l.length:Int)-1)=true:=R0 (by omega) (by rw[ok.len];omega);have h:h0r b=true:=by
     have:=ok.len;cases b with
     |nil=>simp at this;omega
     |cons x y=>rfl
    simp only[hw,g,if_true]
    by_cases i:64<L0 l l.length
    ·have c:(L0 l l.length:Int)>64:=by omega
     simp[d,e,a,i,c]
    ·have c:¬(L0 l l.length:Int)>64:=by omega
     by_cases k:gt b ((l.length:Int)-1)=0
     ·simp[d,e,a,i,c,k,h]
     ·simp[d,e,a,i,c,k]
def e0f (l:List C0){fuel:Nat}(hl:l.length*64<=140737488351232)(a:l.length+1<fuel):B6 fuel l=some (K1 l):=by
 unfold B6 K1;rw[u0n l hl a];rfl
def At (l:List C0)(lo:Nat)(t:Tm):Prop:=(l.drop lo).take t.size=t.flat lo
def At.len {l:List C0}{lo:Nat}{t:Tm}(h:At l lo t):lo+t.size<=l.length:=by
 have:=congrArg List.length h;rw[Tm.o6,List.length_take,List.length_drop]at this;have:=t.size_pos;omega
def At.get {l:List C0}{lo:Nat}{t:Tm}(h:At l lo t){j:Nat}(a:j<t.size):l[lo+j]?=(t.flat lo)[j]?:=by
 rw[<-h,List.getElem?_take_of_lt a,List.getElem?_drop]
def Tm.B0r (t:Tm)(lo:Nat):(t.flat lo)[t.size-1]?=some (t.node lo):=by
 cases t<;>simp[Tm.flat,Tm.size,Tm.o6]
 all_goals (rw[List.getElem?_append_right (by simp[Tm.o6])];simp[Tm.o6])
def At.top {l:List C0}{lo:Nat}{t:Tm}(h:At l lo t):l[t.top lo]?=some (t.node lo):=by
 have hp:=t.size_pos;have:=h.get (j:=t.size-1) (by omega);rw[Tm.B0r]at this
 rwa [Tm.top,show lo+t.size-1=lo+(t.size-1)from by omega]
def At.D2 {l:List C0}{lo:Nat}{t:Tm}(h:At l lo t):gt l (t.top lo:Int)=t.node lo:=B4 h.top
def At.of {l:List C0}{lo:Nat}{t:Tm}(hl:lo+t.size<=l.length)(h:∀j,j<t.size->l[lo+j]?=(t.flat lo)[j]?):At l lo t:=by
 unfold At;apply List.ext_getElem?;intro j
 by_cases a:j<t.size
 ·rw[List.getElem?_take_of_lt a,List.getElem?_drop,h j a]
 ·rw[List.getElem?_take_eq_none (by omega),List.getElem?_eq_none (by rw[Tm.o6];omega)]
def At.bin {l:List C0}{lo:Nat}{a b t:Tm}(k:t.size=a.size+b.size+1)(f:t.flat lo=a.flat lo++b.flat (lo+a.size)++[t.node lo]):At l lo t↔At l lo a/\At l (lo+a.size) b/\l[lo+a.size+b.size]?=some (t.node lo):=by
 constructor
 ·intro h;have hl:=h.len;have e:=fun j c=>h.get (j:=j) c;rw[f]at e;refine⟨At.of (by omega) fun j c=>?_,At.of (by omega) fun j c=>?_,?_⟩
  ·rw[e j (by omega),append_assoc,List.getElem?_append_left (by rw[Tm.o6];omega)]
  ·rw[add_assoc,e (a.size+j) (by omega),append_assoc,List.getElem?_append_right (by rw[Tm.o6];omega),Tm.o6,Nat.add_sub_cancel_left,List.getElem?_append_left (by rw[Tm.o6];omega)]
  ·rw[add_assoc,e (a.size+b.size) (by omega),List.getElem?_append_right (by simp[Tm.o6])];simp[Tm.o6]
 ·rintro⟨h1,g,d⟩
  have hl:=g.len;have i:lo+a.size+b.size<l.length:=by
   rcases lt_or_ge (lo+a.size+b.size) l.length with h|h
   ·exact h
   ·rw[List.getElem?_eq_none h]at d;cases d
  refine At.of (by omega) fun j c=>?_;rw[f];rcases lt_or_ge j a.size with ha|ha
  ·rw[append_assoc,List.getElem?_append_left (by rw[Tm.o6];omega),h1.get ha]
  ·rcases lt_or_ge j (a.size+b.size)with hb|hb
   ·rw[append_assoc,List.getElem?_append_right (by rw[Tm.o6];omega),Tm.o6,List.getElem?_append_left (by rw[Tm.o6];omega),<-g.get (by omega)];congr 1;omega
   ·obtain rfl:j=a.size+b.size:=by omega
    rw[List.getElem?_append_right (by simp[Tm.o6]),<-add_assoc,d];simp[Tm.o6]
def At.un {l:List C0}{lo:Nat}{a t:Tm}(g:t.size=a.size+1)(d:t.flat lo=a.flat lo++[t.node lo]):At l lo t↔At l lo a/\l[lo+a.size]?=some (t.node lo):=by
 constructor
 ·intro h;have hl:=h.len;have e:=fun j c=>h.get (j:=j) c;rw[d]at e;refine⟨At.of (by omega) fun j c=>?_,?_⟩
  ·rw[e j (by omega),List.getElem?_append_left (by rw[Tm.o6];omega)]
  ·rw[e a.size (by omega),List.getElem?_append_right (by simp[Tm.o6])];simp[Tm.o6]
 ·rintro⟨h1,b⟩
  have f:lo+a.size<l.length:=by
   rcases lt_or_ge (lo+a.size) l.length with h|h
   ·exact h
   ·rw[List.getElem?_eq_none h]at b;cases b
  refine At.of (by omega) fun j c=>?_;rw[d];rcases lt_or_ge j a.size with ha|ha
  ·rw[List.getElem?_append_left (by rw[Tm.o6];omega),h1.get ha]
  ·obtain rfl:j=a.size:=by omega
   rw[List.getElem?_append_right (by simp[Tm.o6]),b];simp[Tm.o6]
def At.one {l:List C0}{lo:Nat}{t:Tm}(b:t.size=1)(a:t.flat lo=[t.node lo]):At l lo t↔l[lo]?=some (t.node lo):=by
 constructor
 ·intro h;have:=h.get (j:=0) (by omega);rw[a]at this;simpa using this
 ·intro h;have hl:lo<l.length:=by
   rcases lt_or_ge lo l.length with h'|h'
   ·exact h'
   ·rw[List.getElem?_eq_none h']at h;cases h
  refine At.of (by omega) fun j c=>?_;obtain rfl:j=0:=by omega
  rw[a,Nat.add_zero,h];rfl
def D06 (s:List Int):Prop:=s.length=4/\∀y∈s,Z5 .u64 y
def Tm.ok:Tm->Prop
 |.eps=>True|.leaf s=>D06 s|.cat a b=>a.ok/\b.ok|.alt a b=>a.ok/\b.ok
 |.star a=>a.ok|.maybe a=>a.ok|.group n a=>1<=n/\n<=9/\a.ok|.iter a=>a.ok
def Tm.leaves:Tm->Nat
 |.eps=>0|.leaf _=>1|.cat a b=>a.leaves+b.leaves|.alt a b=>a.leaves+b.leaves
 |.star a=>a.leaves|.maybe a=>a.leaves|.group _ a=>a.leaves|.iter a=>a.leaves
def Tm.a0D (t:Tm):t.leaves<=t.size:=by induction t<;>simp[Tm.leaves,Tm.size]<;>omega
def St (l:List C0)(a:List Int):Nat->List Tm->Prop
 |i,[]=>i=0
 |i,t :: ts=>t.size<=i/\At l (i-t.size) t/\t.ok/\gt a ((i-1:Nat):Int)=((i-t.size:Nat):Int)/\L0 l i=L0 l (i-t.size)+t.leaves/\St l a (i-t.size) ts
def St.snoc {l:List C0}{a:List Int}{v:Int}:∀{ts:List Tm} {i:Nat},i<=a.length->St l a i ts->St l (a++[v]) i ts
 |[],_,_,h=>h
 |t :: ts,i,hi,⟨h1,h2,h3,h4,h5,h6⟩=>by
  have:=t.size_pos;exact⟨h1,h2,h3,by rw[b0u (by omega) (by omega)];exact h4,h5,St.snoc (by omega) h6⟩
def v0x {x:C0}(hw:o3 x)(h:g09 x=true):x.Set=Z4:=by
 have hl:=hw.2.2.2.2.1;simp only[g09,and_eq_true,beq_iff_eq]at h;obtain⟨k,A,B,N,S⟩:=x;simp only at *
 match S,hl with
 |[s0,s1,s2,s3],_=>
  obtain⟨a,b,c,d⟩:=h;simp[gt]at a b c d;simp[Z4,a,b,c,d]
def u0I {l:List C0}(hw:∀x∈l,o3 x):∀{i:Nat} {a:List Int},T4 l i=some a->i<=l.length->∃ts,St l a i ts
 |0,a,_,_=>⟨[],rfl⟩
 |i+1,a,h,hi=>by
  simp only[T4]at h;split at h
  ·cases h
  ·rename_i b hb;split at h
   ·rename_i hg;cases h;obtain⟨ts,n⟩:=u0I hw hb (by omega);have ok:=b0U hb;simp only[K6,and_eq_true,decide_eq_true_eq]at hg;obtain⟨⟨h0,v⟩,_⟩:=hg;have d:l[i]?=some (gt l (i:Int)):=by
     have y:i<l.length:=by omega
     rw[B4 (x:=l[i]) (by simp[y])];simp[y]
    have s:o3 (gt l (i:Int)):=hw _ (List.mem_of_getElem? d);have b2:gt (b++[L3 l b i]) ((i:Nat):Int)=L3 l b i:=c08 ok.len.symm;have r:St l (b++[L3 l b i]) i ts:=n.snoc (by rw[ok.len];omega);have m:L0 l (i+1)=L0 l i+if(gt l (i:Int)).Kind=2 then 1 else 0:=rfl;have mk:∀(t:Tm) (us:List Tm),t.size<=i+1->At l (i+1-t.size) t->t.ok->L3 l b i=((i+1-t.size:Nat):Int)->L0 l (i+1)=L0 l (i+1-t.size)+t.leaves->St l (b++[L3 l b i]) (i+1-t.size) us->∃ts,St l (b++[L3 l b i]) (i+1) ts:=
     fun t us h1 h2 h3 h4 h5 h6=>⟨t :: us,h1,h2,h3,by rw[Nat.add_sub_cancel,b2,h4],h5,h6⟩
    generalize hx:gt l (i:Int)=x at *;have p:x.Kind≠2->x.Set=Z4:=fun h2=>v0x s (by simp only[T8,and_eq_true,Bool.or_eq_true,beq_iff_eq]at v;exact v.1.resolve_left h2);have j:x.Kind≠7->x.N=0:=fun h7=>by simp only[T8,and_eq_true,Bool.or_eq_true,beq_iff_eq,h7,if_false]at v;exact v.2
    have g:L3 l b i=(if x.Kind=1\/x.Kind=2 then(if x.A=-1/\x.B=-1 then(i:Int)else -1)
      else if x.Kind=3\/x.Kind=4 then(if x.B=(i:Int)-1/\0<=x.B/\0<=x.A/\x.A=gt b x.B-1 then gt b x.A else -1)
      else if x.Kind=5\/x.Kind=6\/x.Kind=7\/x.Kind=8 then(if x.B=-1/\0<=x.A/\x.A=(i:Int)-1 then gt b x.A else -1)else -1):=by
     unfold L3;simp only[hx]
    by_cases c1:x.Kind=1\/x.Kind=2
    ·rw[if_pos c1]at g
     by_cases o:x.A=-1/\x.B=-1
     ·rw[if_pos o]at g;rcases c1 with c1|c1
      ·have e:x=Tm.node i .eps:=by
        have:=p (by omega);have:=j (by omega);obtain⟨k,A,B,N,S⟩:=x;simp only[Tm.node]at *;simp_all
       exact mk .eps ts (by simp[Tm.size]) ((At.one rfl rfl).2 (by show l[i]?=some (Tm.node i .eps);rw[d,e])) trivial (by rw[g];simp[Tm.size]) (by rw[m,c1];simp[Tm.size,Tm.leaves]) (by simpa[Tm.size]using r)
      ·have e:x=Tm.node i (.leaf x.Set):=by
        have:=j (by omega);obtain⟨k,A,B,N,S⟩:=x;simp only[Tm.node]at *;simp_all
       exact mk (.leaf x.Set) ts (by simp[Tm.size]) ((At.one rfl rfl).2 (by show l[i]?=some (Tm.node i (.leaf x.Set));rw[d];exact congrArg some e)) ⟨s.2.2.2.2.1,s.2.2.2.2.2⟩ (by rw[g];simp[Tm.size]) (by rw[m,c1];simp[Tm.size,Tm.leaves]) (by simpa[Tm.size]using r)
     ·rw[if_neg o]at g;omega
    ·rw[if_neg c1]at g
     by_cases c2:x.Kind=3\/x.Kind=4
     ·rw[if_pos c2]at g
      by_cases o:x.B=(i:Int)-1/\0<=x.B/\0<=x.A/\x.A=gt b x.B-1
      ·rw[if_pos o]at g;obtain⟨w,b4,b1,I⟩:=o;cases ts with
       |nil=>have:i=0:=n;omega
       |cons tb ts=>
        obtain⟨p1,p2,p3,p4,p5,p6⟩:=n;have e1:gt b x.B=((i-tb.size:Nat):Int):=by rw[w,<-p4];congr 1;omega
        have R:x.A=((i-tb.size-1:Nat):Int):=by omega
        cases ts with
        |nil=>have:i-tb.size=0:=p6;omega
        |cons ta ts=>
         obtain⟨q1,z,u,U,q5,J⟩:=p6;have hp:=ta.size_pos;have b3:=tb.size_pos;have a1:L3 l b i=((i-tb.size-ta.size:Nat):Int):=by rw[g,R,U]
         have c:i+1-(ta.size+tb.size+1)=i-tb.size-ta.size:=by omega
         have f:i-tb.size-ta.size+ta.size=i-tb.size:=by omega
         have q:St l (b++[L3 l b i]) (i-tb.size-ta.size) ts:=St.snoc (by rw[ok.len];omega) J;rcases c2 with c2|c2
         ·have e:x=Tm.node (i-tb.size-ta.size) (.cat ta tb):=by
           have:=p (by omega);have:=j (by omega);obtain⟨k,A,B,N,S⟩:=x;simp only[Tm.node,Tm.top]at *;simp only[C0.mk.injEq];refine⟨c2,by omega,by omega,by assumption,by assumption⟩
          refine mk (.cat ta tb) ts (by simp[Tm.size];omega) ?_ ⟨u,p3⟩ (by simp only[Tm.size];omega) (by simp only[Tm.size,Tm.leaves,c,m,c2];simp;omega) (by simp only[Tm.size,c];exact q);simp only[Tm.size,c];exact(At.bin rfl rfl).2 ⟨z,by rw[f];exact p2,by rw[f,show i-tb.size+tb.size=i from by omega,d,e]⟩
         ·have e:x=Tm.node (i-tb.size-ta.size) (.alt ta tb):=by
           have:=p (by omega);have:=j (by omega);obtain⟨k,A,B,N,S⟩:=x;simp only[Tm.node,Tm.top]at *;simp only[C0.mk.injEq];refine⟨c2,by omega,by omega,by assumption,by assumption⟩
          refine mk (.alt ta tb) ts (by simp[Tm.size];omega) ?_ ⟨u,p3⟩ (by simp only[Tm.size];omega) (by simp only[Tm.size,Tm.leaves,c,m,c2];simp;omega) (by simp only[Tm.size,c];exact q);simp only[Tm.size,c];exact(At.bin rfl rfl).2 ⟨z,by rw[f];exact p2,by rw[f,show i-tb.size+tb.size=i from by omega,d,e]⟩
      ·rw[if_neg o]at g;omega
     ·rw[if_neg c2]at g
      by_cases c3:x.Kind=5\/x.Kind=6\/x.Kind=7\/x.Kind=8
      ·rw[if_pos c3]at g
       by_cases o:x.B=-1/\0<=x.A/\x.A=(i:Int)-1
       ·rw[if_pos o]at g;obtain⟨w,b1,I⟩:=o;cases ts with
        |nil=>have:i=0:=n;omega
        |cons ta ts=>
         obtain⟨q1,z,u,U,q5,J⟩:=n;have hp:=ta.size_pos;have R:x.A=((i-1:Nat):Int):=by omega
         have a1:L3 l b i=((i-ta.size:Nat):Int):=by rw[g,R,U]
         have c:i+1-(ta.size+1)=i-ta.size:=by omega
         have f:i-ta.size+ta.size=i:=by omega
         have q:St l (b++[L3 l b i]) (i-ta.size) ts:=St.snoc (by rw[ok.len];omega) J;have fin:∀t:Tm,t.size=ta.size+1->t.leaves=ta.leaves->t.flat (i-ta.size)=ta.flat (i-ta.size)++[t.node (i-ta.size)]->t.ok->x=t.node (i-ta.size)->∃ts,St l (b++[L3 l b i]) (i+1) ts:=fun t s1 s2 s3 s4 e=>by
          refine mk t ts (by omega) ?_ s4 (by omega) (by rw[s1,c,s2,m,if_neg (by omega)];omega) (by rw[s1,c];exact q);rw[s1,c];exact(At.un s1 s3).2 ⟨z,by rw[f,d,e]⟩
         have C:=p (by omega);rcases c3 with c3|c3|c3|c3
         ·refine fin (.star ta) rfl rfl rfl u ?_;have:=j (by omega);obtain⟨k,A,B,N,S⟩:=x;simp only[Tm.node,Tm.top]at *;simp only[C0.mk.injEq];refine⟨c3,by omega,w,by assumption,C⟩
         ·refine fin (.maybe ta) rfl rfl rfl u ?_;have:=j (by omega);obtain⟨k,A,B,N,S⟩:=x;simp only[Tm.node,Tm.top]at *;simp only[C0.mk.injEq];refine⟨c3,by omega,w,by assumption,C⟩
         ·have hn:1<=x.N/\x.N<=9:=by simp only[T8,c3,and_eq_true,beq_self_eq_true,if_true,decide_eq_true_eq]at v;exact v.2
          refine fin (.group x.N ta) rfl rfl rfl ⟨hn.1,hn.2,u⟩ ?_;obtain⟨k,A,B,N,S⟩:=x;simp only[Tm.node,Tm.top]at *;simp only[C0.mk.injEq];refine⟨c3,by omega,w,trivial,C⟩
         ·refine fin (.iter ta) rfl rfl rfl u ?_;have:=j (by omega);obtain⟨k,A,B,N,S⟩:=x;simp only[Tm.node,Tm.top]at *;simp only[C0.mk.injEq];refine⟨c3,by omega,w,by assumption,C⟩
       ·rw[if_neg o]at g;omega
      ·rw[if_neg c3]at g;omega
   ·cases h
structure O2 (l:List C0)(t:Tm):Prop where
 eq:l=t.flat 0
 at0:At l 0 t
 ok:t.ok
 len:l.length=t.size
 le:t.size<=400
 lv:t.leaves<=64
def a04 {l:List C0}(hw:∀x∈l,o3 x)(h:K1 l=true):∃t,O2 l t:=by
 unfold K1 P4 at h;cases e:T4 l l.length with
 |none=>simp[e]at h
 |some a=>
  simp only[e]at h;split at h
  ·simp at h
  ·rename_i b;have ok:=b0U e;obtain⟨ts,c⟩:=u0I hw e (Nat.le_refl _);cases ts with
   |nil=>exact absurd (.inl c) b
   |cons t ts=>
    obtain⟨p,f,o,j,m,q⟩:=c;have k:gt a ((l.length:Int)-1)=0:=by
     rcases Int.decEq (gt a ((l.length:Int)-1)) 0 with h|h
     ·exact absurd (.inr (.inr (.inr h))) b
     ·exact h
    have r:l.length≠0:=fun h=>b (.inl h);rw[show((l.length-1:Nat):Int)=(l.length:Int)-1 from by omega,k]at j;have d:t.size=l.length:=by omega
    rw[d,Nat.sub_self]at f;have g:l=t.flat 0:=by
     have:=f;unfold At at this
     rwa [List.drop_zero,d,List.take_length]at this
    have i:¬400<l.length:=fun h=>b (.inr (.inl h));have n:¬64<L0 l l.length:=fun h=>b (.inr (.inr (.inl h)));rw[d,Nat.sub_self]at m;have:L0 l 0=0:=rfl;exact⟨t,g,f,o,d.symm,by omega,by omega⟩
