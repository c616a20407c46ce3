/- P. Its conditions: none. -/
import Derived.Test.YtmhooikfkhjijaaGreatYG39
open Nat (add_assoc lt_or_ge le_of_lt)
open Bool (false_eq_true and_eq_true)
set_option linter.all false
namespace Go.Proofs.YtmhooikfkhjijaaGreat.Old
open Go.V Go.RowKit
def O0c {l:List U0}{i:Nat}(h:B0Q l i=none):∀k,B0Q l (i+k)=none
 |0=>h
 |k+1=>by rw[<-add_assoc];simp only[B0Q,O0c h k]
def E0x (l:List U0):(List Int×Int)⊕List Int:=match B0Q l l.length with|none=>.inr []|some b=>.inl (b,(u5 l l.length:Int))
def M08 {l:List U0}{i:Nat}(h:B0Q l i=none)(hi:i<=l.length):E0x l=.inr []:=by
 have:=O0c h (l.length-i);rw[show i+(l.length-i)=l.length from by omega]at this;simp[E0x,this]
def X0c {l:List U0}{a:Int}{i:Nat}(h:0<=a):L1 l a (i:Int)=D0g l a.toNat i:=by
 unfold L1 D0g;congr 1;omega
def T0V {l:List U0}{a i:Nat}:(D0g l a i).length<=i:=by simp[D0g];omega
def Q0s {l:List U0}{a:List Int}{i:Nat}{fuel:Nat}(h:B0Q l i=some a)(hi:i<l.length)(hl:l.length<=400)(hf:400<fuel):
  E06 fuel l (a,(u5 l i:Int),(i:Int))=if C0E l a i then some (.next (a++[z03 l a i],(u5 l (i+1):Int),((i+1:Nat):Int)))else some (.done (.inr [])):=by
 have ok:=E0m h;have hin:y0 l (i:Int)=true:=B4 (by omega) (by omega);have hlv:=D06 l i;have h1:(i:Int)<(l.length:Int):=by omega
 have hW:W ((u5 l i:Int)+1)=((u5 l i+1:Nat):Int):=R2 (by omega);have hWi:W ((i:Int)+1)=((i+1:Nat):Int):=R2 (by omega);have hap:∀x:Int,C1 8 a [x]=true:=fun x=>a7 (by rw[ok.len];simp;omega);unfold E06;simp only[q0,h1,hin,S0I fuel hi ok (by omega),Q07,hW,hWi,hap]
 by_cases hn:z03 l a i<0
 ·have hg:C0E l a i=false:=by unfold C0E;simp;intro;omega
  simp[hn,hg]
 ·have hr:=O0k (l:=l) ok (by omega);have hsl:C3 l (z03 l a i) (i:Int)=true:=by simp[C3];omega
  simp only[q0,hn,hsl,X0c (show 0<=z03 l a i by omega)];have hs:(D0g l (z03 l a i).toNat i).length<=i:=T0V;rw[P04 fuel _ _ (by omega) (by omega)];have hg:C0E l a i=(D0f (gt l (i:Int))&&!D0P (gt l (i:Int)) (D0g l (z03 l a i).toNat i)):=by unfold C0E;simp[show 0<=z03 l a i by omega]
  rw[hg];generalize D0P (gt l (i:Int)) (D0g l (z03 l a i).toNat i)=ag;generalize D0f (gt l (i:Int))=fb
  by_cases hk:(gt l (i:Int)).Kind=2
  ·cases fb<;>cases ag<;>simp[hk,u5]
  ·cases fb<;>cases ag<;>simp[hk,u5]
def N0P {l:List U0}{fuel:Nat}(hl:l.length<=400)(hf:400<fuel):∀(k i:Nat) (a:List Int),B0Q l i=some a->i+k=l.length->∀m,k<m->iter (E06 fuel l) m (a,(u5 l i:Int),(i:Int))=some (E0x l)
 |
  0,i,a,h,hi,m,hm=>by
  obtain⟨m,rfl⟩:∃q,m=q+1:=⟨m-1,by omega⟩
  have:¬(i:Int)<(l.length:Int):=by omega
  obtain rfl:i=l.length:=by omega
  unfold iter E06;simp[E0x,h]
 |
  k+1,i,a,h,hi,m,hm=>by
  obtain⟨m,rfl⟩:∃q,m=q+1:=⟨m-1,by omega⟩
  unfold iter;rw[Q0s h (by omega) hl hf]
  by_cases hg:C0E l a i=true
  ·rw[if_pos hg];exact N0P hl hf k (i+1) _ (by simp only[B0Q,h,hg,if_true]) (by omega) m (by omega)
  ·rw[if_neg hg,M08 (i:=i+1) (by simp only[B0Q,h];simp[hg]) (by omega)]
def N0Q (l:List U0){fuel:Nat}(hf:401<fuel):b0e fuel l=some (A0i l):=by
 unfold b0e A0i
 by_cases h0:l.length=0
 ·have:=List.eq_nil_of_length_eq_zero h0;subst this;rfl
 ·by_cases h4:400<l.length
  ·have h4':(l.length:Int)>400:=by omega
   simp only[q0,beq_iff_eq,Int.natCast_eq_zero,h0,h4',h4,true_or,or_true];cases B0Q l l.length<;>rfl
  ·have h4':¬(l.length:Int)>400:=by omega
   have hlp:=N0P (l:=l) (fuel:=fuel) (by omega) (by omega) l.length 0 [] rfl (by omega) fuel (by omega);simp only[q0,beq_iff_eq,Int.natCast_eq_zero,h0,h4'];rw[show(([]:List Int),(0:Int),(0:Int))=([],(u5 l 0:Int),((0:Nat):Int))from rfl,hlp];simp only[F1,E0x];cases hL:B0Q l l.length with
   |none=>rfl
   |
    some b=>
    have ok:=E0m hL;have hw:W ((l.length:Int)-1)=(l.length:Int)-1:=c0R (by omega) (by omega);have hin:y0 b ((l.length:Int)-1)=true:=B4 (by omega) (by rw[ok.len];omega);have hne:H0b b=true:=by
     have:=ok.len;cases b with
     |nil=>simp at this;omega
     |cons x y=>rfl
    simp only[hw,hin,if_true]
    by_cases h6:64<u5 l l.length
    ·have h6':(u5 l l.length:Int)>64:=by omega
     simp[h6,h6']
    ·have h6':¬(u5 l l.length:Int)>64:=by omega
     by_cases hz:gt b ((l.length:Int)-1)=0
     ·simp[h6,h6',hz,hne,h0,h4]
     ·simp[h6,h6',hz]
def E0b (l:List U0){fuel:Nat}(hf:401<fuel):R7 fuel l=some (e0M l):=by
 unfold R7 e0M;rw[N0Q l hf];simp only[F1];cases A0i l<;>simp
def V0i (fuel:Nat)(k:Int):D0T fuel k=some (decide (3<=k)&&decide (k<=8),k==3||k==4):=by
 unfold D0T
 by_cases h:k>=3<;>by_cases h3:k=3<;>simp[h,h3]
def M02 (l:List U0)(x10:List Int)(x7:Int)(fuel:Nat){i:Nat}(hi:i<l.length)(hb:i<4611686018427387904):∀(k a:Nat),a+k=i->∀m,k<m->
  ∃t,iter (E0E fuel l x10 x7 (i:Int)) m (a:Int)=some t/\t=if D0P (gt l (i:Int)) (D0g l a i)then .inr []else .inl ()
 |
  0,a,ha,m,hm=>by
  obtain⟨m,rfl⟩:∃q,m=q+1:=⟨m-1,by omega⟩
  obtain rfl:a=i:=by omega
  refine⟨.inl (),?_,?_⟩
  ·unfold iter E0E;simp
  ·simp[D0P,D0g]
 |
  k+1,a,ha,m,hm=>by
  obtain⟨m,rfl⟩:∃q,m=q+1:=⟨m-1,by omega⟩
  have hlt:a<l.length:=by omega
  have hin:y0 l (a:Int)=true:=B4 (by omega) (by omega);have hd1:(a:Int)<(i:Int):=by omega
  have hg:gt l (a:Int)=l[a]:=Y5 (by simp[hlt]);have hseg:D0g l a i=l[a] :: D0g l (a+1) i:=by
   unfold D0g;rw[List.drop_eq_getElem_cons hlt,show i-a=(i-(a+1))+1 from by omega,List.take_succ_cons]
  have step:E0E fuel l x10 x7 (i:Int) (a:Int)=if((gt l (i:Int)).Kind==7&&((gt l (a:Int)).Kind==7&&(gt l (a:Int)).N==(gt l (i:Int)).N))then some (.done (.inr []))else some (.next ((a+1:Nat):Int)):=by
   unfold E0E;simp only[hd1,decide_true,if_true,hin,R2 (show a<9223372036854775807 by omega)];generalize gt l (i:Int)=x;generalize gt l (a:Int)=y
   by_cases h1:x.Kind=7<;>by_cases h2:y.Kind=7<;>by_cases h3:y.N=x.N<;>simp[h1,h2,h3]
  unfold iter;rw[step]
  by_cases hc:((gt l (i:Int)).Kind==7&&((gt l (a:Int)).Kind==7&&(gt l (a:Int)).N==(gt l (i:Int)).N))=true
  ·rw[if_pos hc];refine⟨_,rfl,?_⟩;rw[hseg];simp only[D0P,List.any_cons,<-hg]
   grind
  ·rw[if_neg hc];obtain⟨t,h1,h2⟩:=M02 l x10 x7 fuel hi hb k (a+1) (by omega) m (by omega);refine⟨t,h1,?_⟩;rw[h2,hseg];simp only[D0P,List.any_cons,<-hg]
   grind
def U0I (x:U0):
  ((if(decide (x.Kind<1))=true then some true else if(decide (x.Kind>8))=true then some true else
   if(x.Kind != 2)=true then
    if(!((gt x.Set 0==0)&&((gt x.Set 1==0)&&((gt x.Set 2==0)&&(gt x.Set 3==0)))))=true then some true
    else if(x.Kind != 7)=true then if(x.N != 0)=true then some true else if(x.Kind==7)=true then if(decide (x.N<1))=true then some true else some (decide (x.N>9))else some false
     else if(x.Kind==7)=true then if(decide (x.N<1))=true then some true else some (decide (x.N>9))else some false
   else if(x.Kind != 7)=true then if(x.N != 0)=true then some true else if(x.Kind==7)=true then if(decide (x.N<1))=true then some true else some (decide (x.N>9))else some false
    else if(x.Kind==7)=true then if(decide (x.N<1))=true then some true else some (decide (x.N>9))else some false):Option Bool)
  = some (decide (x.Kind<1)||decide (x.Kind>8)||!D0f x):=by
 unfold D0f G0Y;obtain⟨k,A,B,N,S⟩:=x;simp only;generalize ((gt S 0==0)&&((gt S 1==0)&&((gt S 2==0)&&(gt S 3==0))))=z
 by_cases h1:k<1
 ·simp[h1]
 ·by_cases h8:k>8
  ·simp[h8]
  ·by_cases h2:k=2
   ·subst h2;by_cases hn:N=0<;>simp[hn]
   ·by_cases h7:k=7
    ·subst h7;cases z<;>by_cases n1:N<1<;>by_cases n9:N>9<;>simp[n1,n9]<;>omega
    ·cases z<;>by_cases hn:N=0<;>simp[h1,h8,h2,h7,hn]
def S0h {l:List U0}{a:List Int}{i:Nat}(h:¬(1<=(gt l (i:Int)).Kind/\(gt l (i:Int)).Kind<=8)):C0E l a i=false:=by
 have:z03 l a i=-1:=by
  unfold z03;simp only;rw[if_neg (by omega),if_neg (by omega),if_neg (by omega)]
 simp[C0E,this]
def L0d {l:List U0}{a:List Int}{i:Nat}{fuel:Nat}(h:B0Q l i=some a)(hi:i<l.length)(hl:l.length<2199023255552)(hf:l.length<fuel):
  F0j fuel l (a++List.replicate (l.length-i) 0,(u5 l i:Int),(i:Int)) =
   if C0E l a i then some (.next (a++[z03 l a i]++List.replicate (l.length-(i+1)) 0,(u5 l (i+1):Int),((i+1:Nat):Int)))else some (.done (.inr [])):=by
 have ok:=E0m h;have hin:y0 l (i:Int)=true:=B4 (by omega) (by omega);have hlv:=D06 l i;have h1:(i:Int)<(l.length:Int):=by omega
 have hW:W ((u5 l i:Int)+1)=((u5 l i+1:Nat):Int):=R2 (by omega);have hWi:W ((i:Int)+1)=((i+1:Nat):Int):=R2 (by omega);have hWm:W ((i:Int)-1)=(i:Int)-1:=c0R (by omega) (by omega);have hlen:(a++List.replicate (l.length-i) (0:Int)).length=l.length:=by simp[ok.len];omega
 have hinx:y0 (a++List.replicate (l.length-i) (0:Int)) (i:Int)=true:=B4 (by omega) (by rw[hlen];omega);have hrep:List.replicate (l.length-i) (0:Int)=0 :: List.replicate (l.length-(i+1)) 0:=G0O hi 0;have hset:∀(x y:Int) (m:List Int),(a++x :: m).set i y=a++y :: m:=fun x y m=>H0a ok.len.symm;have hgi:∀(x:Int) (m:List Int),gt (a++x :: m) (i:Int)=x:=fun x m=>F0L ok.len.symm;have hgl:∀(z x:Int) (m:List Int),0<=z->z<i->gt (a++x :: m) z=gt a z:=fun z x m h0 h2=>z0U h0 (by rw[ok.len];omega);have hib:∀(z x:Int) (m:List Int),0<=z->z<=i->y0 (a++x :: m) z=true:=fun z x m h0 h2=>B4 h0 (by simp[ok.len];omega);have hr:∀z:Int,0<=z->z<i->gt a z<=z/\0<=gt a z:=fun z h1 h2=>by
  have:=ok.rng z.toNat (by omega)
  rwa [show((z.toNat:Nat):Int)=z from by omega,and_comm]at this
 have tail:∀v:Int,0<=v->v<=i->z03 l a i=v->D0f (gt l (i:Int))=true->
   (Option.bind (iter (E0E fuel l (a++v :: List.replicate (l.length-(i+1)) 0) (u5 l (i+1):Int) (i:Int)) fuel v) fun t2=>match t2 with
    |.inl _=>(some (.next (a++v :: List.replicate (l.length-(i+1)) 0,(u5 l (i+1):Int),W ((i:Int)+1))):Option (T0 (List Int×Int×Int) ((List Int×Int)⊕(List Int))))
    |.inr r1=>some (.done (.inr r1))) =
   if C0E l a i then some (.next (a++[v]++List.replicate (l.length-(i+1)) 0,(u5 l (i+1):Int),((i+1:Nat):Int)))else some (.done (.inr [])):=by
  intro v h0 h2 hv hfb;obtain⟨q,rfl⟩:=Int.eq_ofNat_of_zero_le h0;obtain⟨t,ht,hte⟩:=M02 l (a++(q:Int) :: List.replicate (l.length-(i+1)) 0) (u5 l (i+1):Int) fuel hi (by omega) (i-q) q (by omega) fuel (by omega);rw[ht,hte];have hg:C0E l a i=!D0P (gt l (i:Int)) (D0g l q i):=by unfold C0E;rw[hv,hfb];simp
  rw[hg]
  by_cases hc:D0P (gt l (i:Int)) (D0g l q i)=true
  ·simp[hc]
  ·simp[hc,hWi]
 unfold F0j;simp only[q0,h1,hin,hinx,V0i,U0I];rw[hrep]
 by_cases hk:1<=(gt l (i:Int)).Kind/\(gt l (i:Int)).Kind<=8
 ·have hk1:¬(gt l (i:Int)).Kind<1:=by omega
  have hk8:¬(gt l (i:Int)).Kind>8:=by omega
  simp only[hk1,hk8,decide_false,Bool.false_or];cases hfb:D0f (gt l (i:Int))with
  |
   false=>
   have hg:C0E l a i=false:=by simp[C0E,hfb]
   simp[hg]
  |
   true=>
   simp only[q0,Int.toNat_natCast,hset,hgi,hWm];have hlf:((if((gt l (i:Int)).Kind==2)=true then some (W ((u5 l i:Int)+1))else some (u5 l i:Int)):Option Int)=some ((u5 l (i+1):Nat):Int):=by
    rw[hW]
    by_cases h2:(gt l (i:Int)).Kind=2<;>simp[h2,u5]
   simp only[hlf,F1];have bad:z03 l a i=-1->C0E l a i=false:=fun hl2=>by simp[C0E,hl2]
   by_cases c1:(gt l (i:Int)).Kind=1\/(gt l (i:Int)).Kind=2
   ·have kA:(decide (3<=(gt l (i:Int)).Kind)&&decide ((gt l (i:Int)).Kind<=8))=false:=by rcases c1 with h|h<;>simp[h]
    have kB:((gt l (i:Int)).Kind==3||(gt l (i:Int)).Kind==4)=false:=by rcases c1 with h|h<;>simp[h]
    have hv:z03 l a i=if(gt l (i:Int)).A=-1/\(gt l (i:Int)).B=-1 then(i:Int)else -1:=by unfold z03;simp only;rw[if_pos c1]
    simp only[q0,kA,kB]
    by_cases hA:(gt l (i:Int)).A=-1
    ·by_cases hB:(gt l (i:Int)).B=-1
     ·have hv':z03 l a i=i:=by rw[hv,if_pos ⟨hA,hB⟩]
      simp only[q0,hA,hB,bne_self_eq_false,hib i i _ (by omega) (by omega),hgi];refine(tail i (by omega) (by omega) hv' hfb).trans ?_;rw[hv']
     ·rw[bad (by rw[hv,if_neg (fun h=>hB h.2)])];simp[hA,hB]
    ·rw[bad (by rw[hv,if_neg (fun h=>hA h.1)])];simp[hA]
   ·have kA:(decide (3<=(gt l (i:Int)).Kind)&&decide ((gt l (i:Int)).Kind<=8))=true:=by simp;omega
    simp only[q0,kA]
    by_cases c2:(gt l (i:Int)).Kind=3\/(gt l (i:Int)).Kind=4
    ·have kB:((gt l (i:Int)).Kind==3||(gt l (i:Int)).Kind==4)=true:=by rcases c2 with h|h<;>simp[h]
     have hv:z03 l a i=if(gt l (i:Int)).B=(i:Int)-1/\0<=(gt l (i:Int)).B/\0<=(gt l (i:Int)).A/\(gt l (i:Int)).A=gt a (gt l (i:Int)).B-1 then gt a (gt l (i:Int)).A else -1:=by unfold z03;simp only;rw[if_neg c1,if_pos c2]
     simp only[q0,kB]
     by_cases hB:(gt l (i:Int)).B=(i:Int)-1
     ·by_cases hB0:(i:Int)-1<0
      ·rw[bad (by rw[hv,if_neg (fun h=>by omega)])];simp only[q0,hB,bne_self_eq_false,hB0]
      ·have hrB:=hr ((i:Int)-1) (by omega) (by omega);have hw2:W (gt a ((i:Int)-1)-1)=gt a ((i:Int)-1)-1:=c0R (by omega) (by omega);simp only[q0,hB,bne_self_eq_false,hB0,hib _ _ _ (show 0<=(i:Int)-1 by omega) (by omega),hgl _ _ _ (show 0<=(i:Int)-1 by omega) (by omega),hw2]
       by_cases hA:(gt l (i:Int)).A=gt a ((i:Int)-1)-1
       ·by_cases hA0:gt a ((i:Int)-1)-1<0
        ·rw[bad (by rw[hv,if_neg (fun h=>by omega)])];simp only[q0,hA,bne_self_eq_false,hA0]
        ·have hrA:=hr (gt a ((i:Int)-1)-1) (by omega) (by omega);have hv':z03 l a i=gt a (gt a ((i:Int)-1)-1):=by rw[hv,hB,if_pos ⟨rfl,by omega,by omega,hA⟩,hA]
         simp only[q0,hA,bne_self_eq_false,hA0,hib _ _ _ (show 0<=gt a ((i:Int)-1)-1 by omega) (by omega),hib i _ _ (by omega) (by omega),hgl _ _ _ (show 0<=gt a ((i:Int)-1)-1 by omega) (by omega),hgi];refine(tail _ hrA.2 (by omega) hv' hfb).trans ?_;rw[hv']
       ·rw[bad (by rw[hv,hB,if_neg (fun h=>hA h.2.2.2)])];simp[hA]
     ·rw[bad (by rw[hv,if_neg (fun h=>hB h.1)])];simp[hB]
    ·have c3:(gt l (i:Int)).Kind=5\/(gt l (i:Int)).Kind=6\/(gt l (i:Int)).Kind=7\/(gt l (i:Int)).Kind=8:=by omega
     have kB:((gt l (i:Int)).Kind==3||(gt l (i:Int)).Kind==4)=false:=by rcases c3 with h|h|h|h<;>simp[h]
     have hv:z03 l a i=if(gt l (i:Int)).B=-1/\0<=(gt l (i:Int)).A/\(gt l (i:Int)).A=(i:Int)-1 then gt a (gt l (i:Int)).A else -1:=by unfold z03;simp only;rw[if_neg c1,if_neg c2,if_pos c3]
     simp only[q0,kB]
     by_cases hB:(gt l (i:Int)).B=-1
     ·simp only[q0,hB,bne_self_eq_false]
      by_cases hA:(gt l (i:Int)).A=(i:Int)-1
      ·by_cases hA0:(i:Int)-1<0
       ·rw[bad (by rw[hv,if_neg (fun h=>by omega)])];simp only[q0,hA,bne_self_eq_false,hA0]
       ·have hrA:=hr ((i:Int)-1) (by omega) (by omega);have hv':z03 l a i=gt a ((i:Int)-1):=by rw[hv,hA,if_pos ⟨hB,by omega,rfl⟩]
        simp only[q0,hA,bne_self_eq_false,hA0,hib _ _ _ (show 0<=(i:Int)-1 by omega) (by omega),hib i _ _ (by omega) (by omega),hgl _ _ _ (show 0<=(i:Int)-1 by omega) (by omega),hgi];refine(tail _ hrA.2 (by omega) hv' hfb).trans ?_;rw[hv']
      ·rw[bad (by rw[hv,if_neg (fun h=>hA h.2.2)])];simp[hA]
     ·rw[bad (by rw[hv,if_neg (fun h=>hB h.1)])];simp[hB]
 ·rw[S0h hk];have:(decide ((gt l (i:Int)).Kind<1)||decide ((gt l (i:Int)).Kind>8)||!D0f (gt l (i:Int)))=true:=by
   by_cases h8:(gt l (i:Int)).Kind<1
   ·simp[h8]
   ·have:(gt l (i:Int)).Kind>8:=by omega
    simp[this]
  simp[this]
def N02 {l:List U0}{fuel:Nat}(hl:l.length<2199023255552)(hf:l.length<fuel):∀(k i:Nat) (a:List Int),B0Q l i=some a->i+k=l.length->∀m,k<m->
  iter (F0j fuel l) m (a++List.replicate (l.length-i) 0,(u5 l i:Int),(i:Int))=some (E0x l)
 |
  0,i,a,h,hi,m,hm=>by
  obtain⟨m,rfl⟩:∃q,m=q+1:=⟨m-1,by omega⟩
  obtain rfl:i=l.length:=by omega
  unfold iter F0j;simp[E0x,h]
 |
  k+1,i,a,h,hi,m,hm=>by
  obtain⟨m,rfl⟩:∃q,m=q+1:=⟨m-1,by omega⟩
  unfold iter;rw[L0d h (by omega) hl hf]
  by_cases hg:C0E l a i=true
  ·rw[if_pos hg];exact N02 hl hf k (i+1) _ (by simp only[B0Q,h,hg,if_true]) (by omega) m (by omega)
  ·rw[if_neg hg,M08 (i:=i+1) (by simp only[B0Q,h];simp[hg]) (by omega)]
def N0k (l:List U0){fuel:Nat}(hl:l.length*64<=140737488351232)(hf:l.length+1<fuel):D0H fuel l=some (A0i l):=by
 unfold D0H A0i;have hmk:S5 8 (l.length:Int)=true:=by simp[S5];omega
 have hlp:=N02 (l:=l) (fuel:=fuel) (by omega) (by omega) l.length 0 [] rfl (by omega) fuel (by omega);simp only[hmk,if_true,Int.toNat_natCast];rw[show(List.replicate l.length (0:Int),(0:Int),(0:Int))=([]++List.replicate (l.length-0) 0,(u5 l 0:Int),((0:Nat):Int))from by simp[u5],hlp];simp only[F1,E0x];cases hL:B0Q l l.length with
 |none=>rfl
 |
  some b=>
  have ok:=E0m hL;have hlv:=D06 l l.length
  by_cases h0:l.length=0
  ·simp[h0]
  ·by_cases h4:400<l.length
   ·have h4':(l.length:Int)>400:=by omega
    simp[h0,h4,h4']
   ·have h4':¬(l.length:Int)>400:=by omega
    have hw:W ((l.length:Int)-1)=(l.length:Int)-1:=c0R (by omega) (by omega);have hin:y0 b ((l.length:Int)-1)=true:=B4 (by omega) (by rw[ok.len];omega);have hne:H0b b=true:=by
     have:=ok.len;cases b with
     |nil=>simp at this;omega
     |cons x y=>rfl
    simp only[hw,hin,if_true]
    by_cases h6:64<u5 l l.length
    ·have h6':(u5 l l.length:Int)>64:=by omega
     simp[h0,h4,h4',h6,h6']
    ·have h6':¬(u5 l l.length:Int)>64:=by omega
     by_cases hz:gt b ((l.length:Int)-1)=0
     ·simp[h0,h4,h4',h6,h6',hz,hne]
     ·simp[h0,h4,h4',h6,h6',hz]
def D0v (l:List U0){fuel:Nat}(hl:l.length*64<=140737488351232)(hf:l.length+1<fuel):C0n fuel l=some (e0M l):=by
 unfold C0n e0M;rw[N0k l hl hf];rfl
def At (l:List U0)(lo:Nat)(t:Tm):Prop:=(l.drop lo).take t.size=t.flat lo
def At.len {l:List U0}{lo:Nat}{t:Tm}(h:At l lo t):lo+t.size<=l.length:=by
 have:=congrArg List.length h;rw[Tm.j0D,List.length_take,List.length_drop]at this;have:=t.size_pos;omega
def At.get {l:List U0}{lo:Nat}{t:Tm}(h:At l lo t){j:Nat}(hj:j<t.size):l[lo+j]?=(t.flat lo)[j]?:=by
 rw[<-h,List.getElem?_take_of_lt hj,List.getElem?_drop]
def Tm.R0k (t:Tm)(lo:Nat):(t.flat lo)[t.size-1]?=some (t.node lo):=by
 cases t<;>simp[Tm.flat,Tm.size,Tm.j0D]
 all_goals (rw[List.getElem?_append_right (by simp[Tm.j0D])];simp[Tm.j0D])
def At.top {l:List U0}{lo:Nat}{t:Tm}(h:At l lo t):l[t.top lo]?=some (t.node lo):=by
 have hp:=t.size_pos;have:=h.get (j:=t.size-1) (by omega);rw[Tm.R0k]at this
 rwa [Tm.top,show lo+t.size-1=lo+(t.size-1)from by omega]
def At.A0h {l:List U0}{lo:Nat}{t:Tm}(h:At l lo t):gt l (t.top lo:Int)=t.node lo:=Y5 h.top
def At.of {l:List U0}{lo:Nat}{t:Tm}(hl:lo+t.size<=l.length)(h:∀j,j<t.size->l[lo+j]?=(t.flat lo)[j]?):At l lo t:=by
 unfold At;apply List.ext_getElem?;intro j
 by_cases hj:j<t.size
 ·rw[List.getElem?_take_of_lt hj,List.getElem?_drop,h j hj]
 ·rw[List.getElem?_take_eq_none (by omega),List.getElem?_eq_none (by rw[Tm.j0D];omega)]
def At.bin {l:List U0}{lo:Nat}{a b t:Tm}(hs:t.size=a.size+b.size+1)(hf:t.flat lo=a.flat lo++b.flat (lo+a.size)++[t.node lo]):At l lo t↔At l lo a/\At l (lo+a.size) b/\l[lo+a.size+b.size]?=some (t.node lo):=by
 constructor
 ·intro h;have hl:=h.len;have e:=fun j hj=>h.get (j:=j) hj;rw[hf]at e;refine⟨At.of (by omega) fun j hj=>?_,At.of (by omega) fun j hj=>?_,?_⟩
  ·rw[e j (by omega),List.append_assoc,List.getElem?_append_left (by rw[Tm.j0D];omega)]
  ·rw[add_assoc,e (a.size+j) (by omega),List.append_assoc,List.getElem?_append_right (by rw[Tm.j0D];omega),Tm.j0D,Nat.add_sub_cancel_left,List.getElem?_append_left (by rw[Tm.j0D];omega)]
  ·rw[add_assoc,e (a.size+b.size) (by omega),List.getElem?_append_right (by simp[Tm.j0D])];simp[Tm.j0D]
 ·rintro⟨h1,h2,h3⟩
  have hl:=h2.len;have h3l:lo+a.size+b.size<l.length:=by
   rcases lt_or_ge (lo+a.size+b.size) l.length with h|h
   ·exact h
   ·rw[List.getElem?_eq_none h]at h3;cases h3
  refine At.of (by omega) fun j hj=>?_;rw[hf];rcases lt_or_ge j a.size with ha|ha
  ·rw[List.append_assoc,List.getElem?_append_left (by rw[Tm.j0D];omega),h1.get ha]
  ·rcases lt_or_ge j (a.size+b.size)with hb|hb
   ·rw[List.append_assoc,List.getElem?_append_right (by rw[Tm.j0D];omega),Tm.j0D,List.getElem?_append_left (by rw[Tm.j0D];omega),<-h2.get (by omega)];congr 1;omega
   ·obtain rfl:j=a.size+b.size:=by omega
    rw[List.getElem?_append_right (by simp[Tm.j0D]),<-add_assoc,h3];simp[Tm.j0D]
def At.un {l:List U0}{lo:Nat}{a t:Tm}(hs:t.size=a.size+1)(hf:t.flat lo=a.flat lo++[t.node lo]):At l lo t↔At l lo a/\l[lo+a.size]?=some (t.node lo):=by
 constructor
 ·intro h;have hl:=h.len;have e:=fun j hj=>h.get (j:=j) hj;rw[hf]at e;refine⟨At.of (by omega) fun j hj=>?_,?_⟩
  ·rw[e j (by omega),List.getElem?_append_left (by rw[Tm.j0D];omega)]
  ·rw[e a.size (by omega),List.getElem?_append_right (by simp[Tm.j0D])];simp[Tm.j0D]
 ·rintro⟨h1,h3⟩
  have h3l:lo+a.size<l.length:=by
   rcases lt_or_ge (lo+a.size) l.length with h|h
   ·exact h
   ·rw[List.getElem?_eq_none h]at h3;cases h3
  refine At.of (by omega) fun j hj=>?_;rw[hf];rcases lt_or_ge j a.size with ha|ha
  ·rw[List.getElem?_append_left (by rw[Tm.j0D];omega),h1.get ha]
  ·obtain rfl:j=a.size:=by omega
   rw[List.getElem?_append_right (by simp[Tm.j0D]),h3];simp[Tm.j0D]
def At.one {l:List U0}{lo:Nat}{t:Tm}(hs:t.size=1)(hf:t.flat lo=[t.node lo]):At l lo t↔l[lo]?=some (t.node lo):=by
 constructor
 ·intro h;have:=h.get (j:=0) (by omega);rw[hf]at this;simpa using this
 ·intro h;have hl:lo<l.length:=by
   rcases lt_or_ge lo l.length with h'|h'
   ·exact h'
   ·rw[List.getElem?_eq_none h']at h;cases h
  refine At.of (by omega) fun j hj=>?_;obtain rfl:j=0:=by omega
  rw[hf,Nat.add_zero,h];rfl
def W0h (s:List Int):Prop:=s.length=4/\∀y∈s,inK .u64 y
def Tm.ok:Tm->Prop
 |.eps=>True|.leaf s=>W0h s|.cat a b=>a.ok/\b.ok|.alt a b=>a.ok/\b.ok
 |.star a=>a.ok|.maybe a=>a.ok|.group n a=>1<=n/\n<=9/\a.ok|.iter a=>a.ok
def Tm.leaves:Tm->Nat
 |.eps=>0|.leaf _=>1|.cat a b=>a.leaves+b.leaves|.alt a b=>a.leaves+b.leaves
 |.star a=>a.leaves|.maybe a=>a.leaves|.group _ a=>a.leaves|.iter a=>a.leaves
def Tm.D0m (t:Tm):t.leaves<=t.size:=by induction t<;>simp[Tm.leaves,Tm.size]<;>omega
def St (l:List U0)(a:List Int):Nat->List Tm->Prop
 |i,[]=>i=0
 |i,t :: ts=>t.size<=i/\At l (i-t.size) t/\t.ok/\gt a ((i-1:Nat):Int)=((i-t.size:Nat):Int)/\u5 l i=u5 l (i-t.size)+t.leaves/\St l a (i-t.size) ts
def St.snoc {l:List U0}{a:List Int}{v:Int}:∀{ts:List Tm} {i:Nat},i<=a.length->St l a i ts->St l (a++[v]) i ts
 |[],_,_,h=>h
 |
  t :: ts,i,hi,⟨h1,h2,h3,h4,h5,h6⟩=>by
  have:=t.size_pos;exact⟨h1,h2,h3,by rw[z0U (by omega) (by omega)];exact h4,h5,St.snoc (by omega) h6⟩
def V0F {x:U0}(hw:l02 x)(h:G0Y x=true):x.Set=Z4:=by
 have hl:=hw.2.2.2.2.1;simp only[G0Y,and_eq_true,beq_iff_eq]at h;obtain⟨k,A,B,N,S⟩:=x;simp only at *
 match S,hl with
 |
  [s0,s1,s2,s3],_=>
  obtain⟨a,b,c,d⟩:=h;simp[gt]at a b c d;simp[Z4,a,b,c,d]
def O0G {l:List U0}(hw:∀x∈l,l02 x):∀{i:Nat} {a:List Int},B0Q l i=some a->i<=l.length->∃ts,St l a i ts
 |0,a,_,_=>⟨[],rfl⟩
 |
  i+1,a,h,hi=>by
  simp only[B0Q]at h;split at h
  ·cases h
  ·rename_i b hb;split at h
   ·rename_i hg;cases h;obtain⟨ts,hst⟩:=O0G hw hb (by omega);have ok:=E0m hb;simp only[C0E,and_eq_true,decide_eq_true_eq]at hg;obtain⟨⟨h0,hf⟩,_⟩:=hg;have hget:l[i]?=some (gt l (i:Int)):=by
     have hil:i<l.length:=by omega
     rw[Y5 (x:=l[i]) (by simp[hil])];simp[hil]
    have hwx:l02 (gt l (i:Int)):=hw _ (List.mem_of_getElem? hget);have hgv:gt (b++[z03 l b i]) ((i:Nat):Int)=z03 l b i:=F0L ok.len.symm;have hst':St l (b++[z03 l b i]) i ts:=hst.snoc (by rw[ok.len];omega);have hlv:u5 l (i+1)=u5 l i+if(gt l (i:Int)).Kind=2 then 1 else 0:=rfl;have mk:∀(t:Tm) (us:List Tm),t.size<=i+1->At l (i+1-t.size) t->t.ok->z03 l b i=((i+1-t.size:Nat):Int)->u5 l (i+1)=u5 l (i+1-t.size)+t.leaves->St l (b++[z03 l b i]) (i+1-t.size) us->∃ts,St l (b++[z03 l b i]) (i+1) ts:=
     fun t us h1 h2 h3 h4 h5 h6=>⟨t :: us,h1,h2,h3,by rw[Nat.add_sub_cancel,hgv,h4],h5,h6⟩
    generalize hx:gt l (i:Int)=x at *;have hxz:x.Kind≠2->x.Set=Z4:=fun h2=>V0F hwx (by simp only[D0f,and_eq_true,Bool.or_eq_true,beq_iff_eq]at hf;exact hf.1.resolve_left h2);have hxn:x.Kind≠7->x.N=0:=fun h7=>by simp only[D0f,and_eq_true,Bool.or_eq_true,beq_iff_eq,h7,if_false]at hf;exact hf.2
    have hv:z03 l b i=(if x.Kind=1\/x.Kind=2 then(if x.A=-1/\x.B=-1 then(i:Int)else -1)
      else if x.Kind=3\/x.Kind=4 then(if x.B=(i:Int)-1/\0<=x.B/\0<=x.A/\x.A=gt b x.B-1 then gt b x.A else -1)
      else if x.Kind=5\/x.Kind=6\/x.Kind=7\/x.Kind=8 then(if x.B=-1/\0<=x.A/\x.A=(i:Int)-1 then gt b x.A else -1)else -1):=by
     unfold z03;simp only[hx]
    by_cases c1:x.Kind=1\/x.Kind=2
    ·rw[if_pos c1]at hv
     by_cases cA:x.A=-1/\x.B=-1
     ·rw[if_pos cA]at hv;rcases c1 with c1|c1
      ·have e:x=Tm.node i .eps:=by
        have:=hxz (by omega);have:=hxn (by omega);obtain⟨k,A,B,N,S⟩:=x;simp only[Tm.node]at *;simp_all
       exact mk .eps ts (by simp[Tm.size]) ((At.one rfl rfl).2 (by show l[i]?=some (Tm.node i .eps);rw[hget,e])) trivial (by rw[hv];simp[Tm.size]) (by rw[hlv,c1];simp[Tm.size,Tm.leaves]) (by simpa[Tm.size]using hst')
      ·have e:x=Tm.node i (.leaf x.Set):=by
        have:=hxn (by omega);obtain⟨k,A,B,N,S⟩:=x;simp only[Tm.node]at *;simp_all
       exact mk (.leaf x.Set) ts (by simp[Tm.size]) ((At.one rfl rfl).2 (by show l[i]?=some (Tm.node i (.leaf x.Set));rw[hget];exact congrArg some e)) ⟨hwx.2.2.2.2.1,hwx.2.2.2.2.2⟩ (by rw[hv];simp[Tm.size]) (by rw[hlv,c1];simp[Tm.size,Tm.leaves]) (by simpa[Tm.size]using hst')
     ·rw[if_neg cA]at hv;omega
    ·rw[if_neg c1]at hv
     by_cases c2:x.Kind=3\/x.Kind=4
     ·rw[if_pos c2]at hv
      by_cases cA:x.B=(i:Int)-1/\0<=x.B/\0<=x.A/\x.A=gt b x.B-1
      ·rw[if_pos cA]at hv;obtain⟨cB,cB0,cA0,cA1⟩:=cA;cases ts with
       |nil=>have:i=0:=hst;omega
       |
        cons tb ts=>
        obtain⟨p1,p2,p3,p4,p5,p6⟩:=hst;have e1:gt b x.B=((i-tb.size:Nat):Int):=by rw[cB,<-p4];congr 1;omega
        have hA:x.A=((i-tb.size-1:Nat):Int):=by omega
        cases ts with
        |nil=>have:i-tb.size=0:=p6;omega
        |
         cons ta ts=>
         obtain⟨q1,q2,q3,q4,q5,q6⟩:=p6;have hp:=ta.size_pos;have hp2:=tb.size_pos;have hv2:z03 l b i=((i-tb.size-ta.size:Nat):Int):=by rw[hv,hA,q4]
         have hlo:i+1-(ta.size+tb.size+1)=i-tb.size-ta.size:=by omega
         have hlo2:i-tb.size-ta.size+ta.size=i-tb.size:=by omega
         have hq6:St l (b++[z03 l b i]) (i-tb.size-ta.size) ts:=St.snoc (by rw[ok.len];omega) q6;rcases c2 with c2|c2
         ·have e:x=Tm.node (i-tb.size-ta.size) (.cat ta tb):=by
           have:=hxz (by omega);have:=hxn (by omega);obtain⟨k,A,B,N,S⟩:=x;simp only[Tm.node,Tm.top]at *;simp only[U0.mk.injEq];refine⟨c2,by omega,by omega,by assumption,by assumption⟩
          refine mk (.cat ta tb) ts (by simp[Tm.size];omega) ?_ ⟨q3,p3⟩ (by simp only[Tm.size];omega) (by simp only[Tm.size,Tm.leaves,hlo,hlv,c2];simp;omega) (by simp only[Tm.size,hlo];exact hq6);simp only[Tm.size,hlo];exact(At.bin rfl rfl).2 ⟨q2,by rw[hlo2];exact p2,by rw[hlo2,show i-tb.size+tb.size=i from by omega,hget,e]⟩
         ·have e:x=Tm.node (i-tb.size-ta.size) (.alt ta tb):=by
           have:=hxz (by omega);have:=hxn (by omega);obtain⟨k,A,B,N,S⟩:=x;simp only[Tm.node,Tm.top]at *;simp only[U0.mk.injEq];refine⟨c2,by omega,by omega,by assumption,by assumption⟩
          refine mk (.alt ta tb) ts (by simp[Tm.size];omega) ?_ ⟨q3,p3⟩ (by simp only[Tm.size];omega) (by simp only[Tm.size,Tm.leaves,hlo,hlv,c2];simp;omega) (by simp only[Tm.size,hlo];exact hq6);simp only[Tm.size,hlo];exact(At.bin rfl rfl).2 ⟨q2,by rw[hlo2];exact p2,by rw[hlo2,show i-tb.size+tb.size=i from by omega,hget,e]⟩
      ·rw[if_neg cA]at hv;omega
     ·rw[if_neg c2]at hv
      by_cases c3:x.Kind=5\/x.Kind=6\/x.Kind=7\/x.Kind=8
      ·rw[if_pos c3]at hv
       by_cases cA:x.B=-1/\0<=x.A/\x.A=(i:Int)-1
       ·rw[if_pos cA]at hv;obtain⟨cB,cA0,cA1⟩:=cA;cases ts with
        |nil=>have:i=0:=hst;omega
        |
         cons ta ts=>
         obtain⟨q1,q2,q3,q4,q5,q6⟩:=hst;have hp:=ta.size_pos;have hA:x.A=((i-1:Nat):Int):=by omega
         have hv2:z03 l b i=((i-ta.size:Nat):Int):=by rw[hv,hA,q4]
         have hlo:i+1-(ta.size+1)=i-ta.size:=by omega
         have hlo2:i-ta.size+ta.size=i:=by omega
         have hq6:St l (b++[z03 l b i]) (i-ta.size) ts:=St.snoc (by rw[ok.len];omega) q6;have fin:∀t:Tm,t.size=ta.size+1->t.leaves=ta.leaves->t.flat (i-ta.size)=ta.flat (i-ta.size)++[t.node (i-ta.size)]->t.ok->x=t.node (i-ta.size)->∃ts,St l (b++[z03 l b i]) (i+1) ts:=fun t s1 s2 s3 s4 e=>by
          refine mk t ts (by omega) ?_ s4 (by omega) (by rw[s1,hlo,s2,hlv,if_neg (by omega)];omega) (by rw[s1,hlo];exact hq6);rw[s1,hlo];exact(At.un s1 s3).2 ⟨q2,by rw[hlo2,hget,e]⟩
         have hz:=hxz (by omega);rcases c3 with c3|c3|c3|c3
         ·refine fin (.star ta) rfl rfl rfl q3 ?_;have:=hxn (by omega);obtain⟨k,A,B,N,S⟩:=x;simp only[Tm.node,Tm.top]at *;simp only[U0.mk.injEq];refine⟨c3,by omega,cB,by assumption,hz⟩
         ·refine fin (.maybe ta) rfl rfl rfl q3 ?_;have:=hxn (by omega);obtain⟨k,A,B,N,S⟩:=x;simp only[Tm.node,Tm.top]at *;simp only[U0.mk.injEq];refine⟨c3,by omega,cB,by assumption,hz⟩
         ·have hn:1<=x.N/\x.N<=9:=by simp only[D0f,c3,and_eq_true,beq_self_eq_true,if_true,decide_eq_true_eq]at hf;exact hf.2
          refine fin (.group x.N ta) rfl rfl rfl ⟨hn.1,hn.2,q3⟩ ?_;obtain⟨k,A,B,N,S⟩:=x;simp only[Tm.node,Tm.top]at *;simp only[U0.mk.injEq];refine⟨c3,by omega,cB,trivial,hz⟩
         ·refine fin (.iter ta) rfl rfl rfl q3 ?_;have:=hxn (by omega);obtain⟨k,A,B,N,S⟩:=x;simp only[Tm.node,Tm.top]at *;simp only[U0.mk.injEq];refine⟨c3,by omega,cB,by assumption,hz⟩
       ·rw[if_neg cA]at hv;omega
      ·rw[if_neg c3]at hv;omega
   ·cases h
structure n4 (l:List U0)(t:Tm):Prop where
 eq:l=t.flat 0
 at0:At l 0 t
 ok:t.ok
 len:l.length=t.size
 le:t.size<=400
 lv:t.leaves<=64
def D0C {l:List U0}(hw:∀x∈l,l02 x)(h:e0M l=true):∃t,n4 l t:=by
 unfold e0M A0i at h;cases hL:B0Q l l.length with
 |none=>simp[hL]at h
 |
  some a=>
  simp only[hL]at h;split at h
  ·simp at h
  ·rename_i hc;have ok:=E0m hL;obtain⟨ts,hst⟩:=O0G hw hL (Nat.le_refl _);cases ts with
   |nil=>exact absurd (.inl hst) hc
   |
    cons t ts=>
    obtain⟨q1,q2,q3,q4,q5,q6⟩:=hst;have h4:gt a ((l.length:Int)-1)=0:=by
     rcases Int.decEq (gt a ((l.length:Int)-1)) 0 with h|h
     ·exact absurd (.inr (.inr (.inr h))) hc
     ·exact h
    have h0:l.length≠0:=fun h=>hc (.inl h);rw[show((l.length-1:Nat):Int)=(l.length:Int)-1 from by omega,h4]at q4;have hs:t.size=l.length:=by omega
    rw[hs,Nat.sub_self]at q2;have hfl:l=t.flat 0:=by
     have:=q2;unfold At at this
     rwa [List.drop_zero,hs,List.take_length]at this
    have h400:¬400<l.length:=fun h=>hc (.inr (.inl h));have h64:¬64<u5 l l.length:=fun h=>hc (.inr (.inr (.inl h)));rw[hs,Nat.sub_self]at q5;have:u5 l 0=0:=rfl;exact⟨t,hfl,q2,q3,hs.symm,by omega,by omega⟩
def At.O0J {l:List U0}:∀{s:Tm} {lo:Nat},At l lo s->∀i,lo<=i->i<lo+s.size->∃lo' s',At l lo' s'/\s'.top lo'=i/\lo<=lo'/\s'.size<=s.size:=by
 intro s;have leafc:∀(t:Tm) (lo:Nat),t.size=1->At l lo t->∀i,lo<=i->i<lo+t.size->∃lo' s',At l lo' s'/\s'.top lo'=i/\lo<=lo'/\s'.size<=t.size:=fun t lo ht h i h1 h2=>⟨lo,t,h,by unfold Tm.top;omega,by omega,by omega⟩
 induction s with
 |eps=>exact fun h=>leafc _ _ rfl h
 |leaf s=>exact fun h=>leafc _ _ rfl h
 |
  cat a b iha ihb=>
  intro lo h i h1 h2;obtain⟨ha,hb,_⟩:=(At.bin rfl rfl).1 h;simp only[Tm.size]at h2 ⊢;rcases lt_or_ge i (lo+a.size)with c|c
  ·obtain⟨lo',s',p1,p2,p3,p4⟩:=iha ha i h1 c;exact⟨lo',s',p1,p2,p3,by omega⟩
  ·rcases lt_or_ge i (lo+a.size+b.size)with c2|c2
   ·obtain⟨lo',s',p1,p2,p3,p4⟩:=ihb hb i c c2;exact⟨lo',s',p1,p2,by omega,by omega⟩
   ·exact⟨lo,.cat a b,h,by simp only[Tm.top,Tm.size];omega,by omega,by simp[Tm.size]⟩
 |
  alt a b iha ihb=>
  intro lo h i h1 h2;obtain⟨ha,hb,_⟩:=(At.bin rfl rfl).1 h;simp only[Tm.size]at h2 ⊢;rcases lt_or_ge i (lo+a.size)with c|c
  ·obtain⟨lo',s',p1,p2,p3,p4⟩:=iha ha i h1 c;exact⟨lo',s',p1,p2,p3,by omega⟩
  ·rcases lt_or_ge i (lo+a.size+b.size)with c2|c2
   ·obtain⟨lo',s',p1,p2,p3,p4⟩:=ihb hb i c c2;exact⟨lo',s',p1,p2,by omega,by omega⟩
   ·exact⟨lo,.alt a b,h,by simp only[Tm.top,Tm.size];omega,by omega,by simp[Tm.size]⟩
 |
  star a iha=>
  intro lo h i h1 h2;obtain⟨ha,_⟩:=(At.un rfl rfl).1 h;simp only[Tm.size]at h2 ⊢;rcases lt_or_ge i (lo+a.size)with c|c
  ·obtain⟨lo',s',p1,p2,p3,p4⟩:=iha ha i h1 c;exact⟨lo',s',p1,p2,p3,by omega⟩
  ·exact⟨lo,.star a,h,by simp only[Tm.top,Tm.size];omega,by omega,by simp[Tm.size]⟩
 |
  maybe a iha=>
  intro lo h i h1 h2;obtain⟨ha,_⟩:=(At.un rfl rfl).1 h;simp only[Tm.size]at h2 ⊢;rcases lt_or_ge i (lo+a.size)with c|c
  ·obtain⟨lo',s',p1,p2,p3,p4⟩:=iha ha i h1 c;exact⟨lo',s',p1,p2,p3,by omega⟩
  ·exact⟨lo,.maybe a,h,by simp only[Tm.top,Tm.size];omega,by omega,by simp[Tm.size]⟩
 |
  group n a iha=>
  intro lo h i h1 h2;obtain⟨ha,_⟩:=(At.un rfl rfl).1 h;simp only[Tm.size]at h2 ⊢;rcases lt_or_ge i (lo+a.size)with c|c
  ·obtain⟨lo',s',p1,p2,p3,p4⟩:=iha ha i h1 c;exact⟨lo',s',p1,p2,p3,by omega⟩
  ·exact⟨lo,.group n a,h,by simp only[Tm.top,Tm.size];omega,by omega,by simp[Tm.size]⟩
 |
  iter a iha=>
  intro lo h i h1 h2;obtain⟨ha,_⟩:=(At.un rfl rfl).1 h;simp only[Tm.size]at h2 ⊢;rcases lt_or_ge i (lo+a.size)with c|c
  ·obtain⟨lo',s',p1,p2,p3,p4⟩:=iha ha i h1 c;exact⟨lo',s',p1,p2,p3,by omega⟩
  ·exact⟨lo,.iter a,h,by simp only[Tm.top,Tm.size];omega,by omega,by simp[Tm.size]⟩
def n4.node {l:List U0}{t:Tm}(h:n4 l t){i:Nat}(hi:i<l.length):∃lo s,At l lo s/\s.top lo=i:=by
 obtain⟨lo,s,h1,h2,_⟩:=h.at0.O0J i (by omega) (by rw[h.len]at hi;omega);exact⟨lo,s,h1,h2⟩
def Tm.can:Tm->Bool
 |.eps=>true|.leaf _=>false|.cat a b=>a.can&&b.can|.alt a b=>a.can||b.can
 |.star _=>true|.maybe _=>true|.group _ a=>a.can|.iter a=>a.can
def C0N (l:List U0)(c:List Bool)(i:Nat):Bool:=
 let x:=gt l (i:Int)
 if x.Kind=1\/x.Kind=5\/x.Kind=6 then true
 else if x.Kind=3 then gt c x.A&&gt c x.B else if x.Kind=4 then gt c x.A||gt c x.B else if x.Kind=7\/x.Kind=8 then gt c x.A else false
def B03 (l:List U0):Nat->List Bool
 |0=>[]
 |i+1=>B03 l i++[C0N l (B03 l i) i]
def E09 (l:List U0):∀i,(B03 l i).length=i
 |0=>rfl
 |i+1=>by simp[B03,E09 l i]
def E0s (l:List U0){i j:Nat}(h:j<i):gt (B03 l i) (j:Int)=C0N l (B03 l j) j:=by
 induction i with
 |zero=>omega
 |
  succ i ih=>
  simp only[B03]
  by_cases e:j=i
  ·subst e;rw[F0L (E09 l j).symm]
  ·rw[z0U (by omega) (by rw[E09];omega)];exact ih (by omega)
def V0j {l:List U0}:∀{s:Tm} {lo:Nat},At l lo s->∀i,s.top lo<i->gt (B03 l i) (s.top lo:Int)=s.can:=by
 intro s
 induction s with
 |eps=>intro lo h i hi;rw[E0s l hi];simp[C0N,h.A0h,Tm.node,Tm.can]
 |leaf s=>intro lo h i hi;rw[E0s l hi];simp[C0N,h.A0h,Tm.node,Tm.can]
 |
  cat a b iha ihb=>
  intro lo h i hi;rw[E0s l hi];obtain⟨ha,hb,_⟩:=(At.bin rfl rfl).1 h;have:=a.size_pos;have:=b.size_pos;simp only[C0N,h.A0h,Tm.node,Tm.can];simp[iha ha _ (show a.top lo<Tm.top (.cat a b) lo by simp only[Tm.top,Tm.size];omega),ihb hb _ (show b.top (lo+a.size)<Tm.top (.cat a b) lo by simp only[Tm.top,Tm.size];omega)]
 |
  alt a b iha ihb=>
  intro lo h i hi;rw[E0s l hi];obtain⟨ha,hb,_⟩:=(At.bin rfl rfl).1 h;have:=a.size_pos;have:=b.size_pos;simp only[C0N,h.A0h,Tm.node,Tm.can];simp[iha ha _ (show a.top lo<Tm.top (.alt a b) lo by simp only[Tm.top,Tm.size];omega),ihb hb _ (show b.top (lo+a.size)<Tm.top (.alt a b) lo by simp only[Tm.top,Tm.size];omega)]
 |star a iha=>intro lo h i hi;rw[E0s l hi];simp[C0N,h.A0h,Tm.node,Tm.can]
 |maybe a iha=>intro lo h i hi;rw[E0s l hi];simp[C0N,h.A0h,Tm.node,Tm.can]
 |
  group n a iha=>
  intro lo h i hi;rw[E0s l hi];obtain⟨ha,_⟩:=(At.un rfl rfl).1 h;have:=a.size_pos;simp only[C0N,h.A0h,Tm.node,Tm.can];simp[iha ha _ (show a.top lo<Tm.top (.group n a) lo by simp only[Tm.top,Tm.size];omega)]
 |
  iter a iha=>
  intro lo h i hi;rw[E0s l hi];obtain⟨ha,_⟩:=(At.un rfl rfl).1 h;have:=a.size_pos;simp only[C0N,h.A0h,Tm.node,Tm.can];simp[iha ha _ (show a.top lo<Tm.top (.iter a) lo by simp only[Tm.top,Tm.size];omega)]
def C0c (l:List U0):List Bool:=if e0M l then B03 l l.length else[]
def N0y {l:List U0}{t:Tm}(ht:n4 l t){i:Nat}(hi:i<l.length)(fuel:Nat):
  E0X fuel l (B03 l i++List.replicate (l.length-i) false,(i:Int))=some (.next (B03 l (i+1)++List.replicate (l.length-(i+1)) false,((i+1:Nat):Int)))/\
  E0Q fuel l (B03 l i++List.replicate (l.length-i) false,(i:Int))=some (.next (B03 l (i+1)++List.replicate (l.length-(i+1)) false,((i+1:Nat):Int))):=by
 have h400:=ht.le;have hlen:=ht.len;have h1:(i:Int)<(l.length:Int):=by omega
 have hin:y0 l (i:Int)=true:=B4 (by omega) (by omega);have hWi:W ((i:Int)+1)=((i+1:Nat):Int):=R2 (by omega);rw[G0O hi false];generalize hm:List.replicate (l.length-(i+1)) false=m;have hset:∀(y:Bool),(B03 l i++false :: m).set i y=B03 l i++y :: m:=fun y=>H0a (E09 l i).symm;have hgl:∀(z:Nat),z<i->gt (B03 l i++false :: m) (z:Int)=gt (B03 l i) (z:Int):=fun z h=>z0U (by omega) (by rw[E09];omega);have hib:∀(z:Nat),z<=i->y0 (B03 l i++false :: m) (z:Int)=true:=fun z h=>B4 (by omega) (by simp[E09];omega);have hii:=hib i (by omega);have hr:B03 l (i+1)++m=B03 l i++C0N l (B03 l i) i :: m:=by simp[B03]
 rw[hr];unfold E0X E0Q;simp only[h1,decide_true,if_true,hin,hii,hWi,Int.toNat_natCast,hset];obtain⟨lo,s,hat,hs⟩:=ht.node hi;have hg:=hat.A0h;rw[hs]at hg;cases s with
 |eps=>simp[hg,Tm.node,C0N]
 |leaf s=>simp[hg,Tm.node,C0N,hset false]
 |
  cat a b=>
  have:=a.size_pos;have:=b.size_pos;have pa:a.top lo<i:=by rw[<-hs];simp only[Tm.top,Tm.size];omega
  have pb:b.top (lo+a.size)<i:=by rw[<-hs];simp only[Tm.top,Tm.size];omega
  simp only[hg,Tm.node,C0N,hib _ (le_of_lt pa),hib _ (le_of_lt pb),hgl _ pa,hgl _ pb];cases gt (B03 l i) (a.top lo:Int)<;>simp
 |
  alt a b=>
  have:=a.size_pos;have:=b.size_pos;have pa:a.top lo<i:=by rw[<-hs];simp only[Tm.top,Tm.size];omega
  have pb:b.top (lo+a.size)<i:=by rw[<-hs];simp only[Tm.top,Tm.size];omega
  simp only[hg,Tm.node,C0N,hib _ (le_of_lt pa),hib _ (le_of_lt pb),hgl _ pa,hgl _ pb];cases gt (B03 l i) (a.top lo:Int)<;>simp
 |star a=>simp[hg,Tm.node,C0N]
 |maybe a=>simp[hg,Tm.node,C0N]
 |
  group n a=>
  have:=a.size_pos;have pa:a.top lo<i:=by rw[<-hs];simp only[Tm.top,Tm.size];omega
  simp[hg,Tm.node,C0N,hib _ (le_of_lt pa),hgl _ pa]
 |
  iter a=>
  have:=a.size_pos;have pa:a.top lo<i:=by rw[<-hs];simp only[Tm.top,Tm.size];omega
  simp[hg,Tm.node,C0N,hib _ (le_of_lt pa),hgl _ pa]
def N0u {l:List U0}(hw:∀x∈l,l02 x){fuel:Nat}(hf:401<fuel):e0l fuel l=some (C0c l):=by
 unfold e0l C0c;rw[E0b l hf];cases hR:e0M l with
 |false=>rfl
 |
  true=>
  obtain⟨t,ht⟩:=D0C hw hR;have h400:=ht.le;have hlen:=ht.len;have hmk:S5 1 (l.length:Int)=true:=by simp[S5];omega
  have:=j0K (step:=E0X fuel l) (fun i=>(B03 l i++List.replicate (l.length-i) false,(i:Int))) (B03 l l.length) l.length
   (fun i hi=>.inl (N0y ht hi fuel).1) (by unfold E0X;simp) l.length 0 fuel (by omega) (by omega)
  simp only[q0,hmk,Int.toNat_natCast];simp only[B03,List.nil_append,Nat.sub_zero]at this;rw[show(0:Int)=((0:Nat):Int)from rfl,this];rfl
def L0c {l:List U0}(hw:∀x∈l,l02 x)(hl:l.length*64<=140737488351232){fuel:Nat}(hf:401<fuel)(hf2:l.length+1<fuel):D0k fuel l=some (C0c l):=by
 unfold D0k C0c;rw[D0v l hl hf2];cases hR:e0M l with
 |false=>rfl
 |
  true=>
  obtain⟨t,ht⟩:=D0C hw hR;have h400:=ht.le;have hlen:=ht.len;have hmk:S5 1 (l.length:Int)=true:=by simp[S5];omega
  have:=j0K (step:=E0Q fuel l) (fun i=>(B03 l i++List.replicate (l.length-i) false,(i:Int))) (B03 l l.length) l.length
   (fun i hi=>.inl (N0y ht hi fuel).2) (by unfold E0Q;simp) l.length 0 fuel (by omega) (by omega)
  simp only[q0,hmk,Int.toNat_natCast];simp only[B03,List.nil_append,Nat.sub_zero]at this;rw[show(0:Int)=((0:Nat):Int)from rfl,this];rfl
