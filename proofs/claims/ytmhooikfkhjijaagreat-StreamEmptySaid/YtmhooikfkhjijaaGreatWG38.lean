/- Loops over plain data; classes of bytes. Terms as trees, and what L0Z whether a list is one. Whether a list is a term, by the program and by the document: the same. Its conditions: none. -/
import Derived.Test.YtmhooikfkhjijaaGreatWMd
import Derived.Test.YtmhooikfkhjijaaGreatWG24
import Derived.Test.YtmhooikfkhjijaaGreatWOm
open Bool (false_eq_true)
open List (any_cons append_assoc)
open Nat (add_assoc lt_or_ge)
set_option linter.all false
namespace Go.Proofs.YtmhooikfkhjijaaGreat.Pr
open Go.V Go.RowKit Go.X
theorem K4 {α:Type} [Inhabited α] {l:List α} {i:Nat} (h:i<l.length):gt l (i:Int)∈l:=by
 rw [Y5 (x:=l[i]) (by simp [h])];exact List.getElem_mem h
theorem dec_lt {a b:Nat} (h:a<b):decide ((a:Int)<(b:Int))=true:=by simp;omega
variable {F:Nat}
theorem n0j {α:Type} [Inhabited α] {l:List α} {i:Nat} (h:i<l.length):l.drop i=gt l (i:Int) :: l.drop (i+1):=by
 rw [List.drop_eq_getElem_cons h,Y5 (x:=l[i]) (by simp [h])]
end Go.Proofs.YtmhooikfkhjijaaGreat.Pr
namespace Go.Proofs.YtmhooikfkhjijaaGreat.Old
open Go.V Go.RowKit
def Z4:List Int:=[0,0,0,0]
inductive Tm where
 |eps | leaf (s:List Int) | cat (a b:Tm) | alt (a b:Tm) | star (a:Tm) | maybe (a:Tm) | group (n:Int) (a:Tm) | iter (a:Tm)
def Tm.size:Tm->Nat
 |.eps=>1 | .leaf _=>1 | .cat a b=>a.size+b.size+1 | .alt a b=>a.size+b.size+1
 |.star a=>a.size+1 | .maybe a=>a.size+1 | .group _ a=>a.size+1 | .iter a=>a.size+1
theorem Tm.size_pos (t:Tm):0<t.size:=by cases t<;>simp [Tm.size]
def Tm.top (t:Tm) (lo:Nat):Nat:=lo+t.size-1
def Tm.node (lo:Nat):Tm->U0
 |.eps=>⟨1,-1,-1,0,Z4⟩
 |.leaf s=>⟨2,-1,-1,0,s⟩
 |.cat a b=>⟨3,(a.top lo:Int),(b.top (lo+a.size):Int),0,Z4⟩
 |.alt a b=>⟨4,(a.top lo:Int),(b.top (lo+a.size):Int),0,Z4⟩
 |.star a=>⟨5,(a.top lo:Int),-1,0,Z4⟩
 |.maybe a=>⟨6,(a.top lo:Int),-1,0,Z4⟩
 |.group n a=>⟨7,(a.top lo:Int),-1,n,Z4⟩
 |.iter a=>⟨8,(a.top lo:Int),-1,0,Z4⟩
def Tm.flat (lo:Nat):Tm->List U0
 |.eps=>[Tm.node lo .eps]
 |.leaf s=>[Tm.node lo (.leaf s)]
 |.cat a b=>a.flat lo++b.flat (lo+a.size)++[Tm.node lo (.cat a b)]
 |.alt a b=>a.flat lo++b.flat (lo+a.size)++[Tm.node lo (.alt a b)]
 |.star a=>a.flat lo++[Tm.node lo (.star a)]
 |.maybe a=>a.flat lo++[Tm.node lo (.maybe a)]
 |.group n a=>a.flat lo++[Tm.node lo (.group n a)]
 |.iter a=>a.flat lo++[Tm.node lo (.iter a)]
theorem Tm.j0D (t:Tm):∀ lo,(t.flat lo).length=t.size:=by
 induction t<;>intro lo<;>simp [Tm.flat,Tm.size, *]<;>omega
def z03 (l:List U0) (a:List Int) (i:Nat):Int:=
 let x:=gt l (i:Int)
 if x.Kind=1\/x.Kind=2 then (if x.A=-1/\x.B=-1 then (i:Int) else -1)
 else if x.Kind=3\/x.Kind=4 then (if x.B=(i:Int)-1/\0<=x.B/\0<=x.A/\x.A=gt a x.B-1 then gt a x.A else -1)
 else if x.Kind=5\/x.Kind=6\/x.Kind=7\/x.Kind=8 then (if x.B=-1/\0<=x.A/\x.A=(i:Int)-1 then gt a x.A else -1)
 else -1
def G0Y (x:U0):Bool:=gt x.Set 0==0&&(gt x.Set 1==0&&(gt x.Set 2==0&&gt x.Set 3==0))
def D0f (x:U0):Bool:=(x.Kind==2||G0Y x)&&(if x.Kind==7 then decide (1<=x.N)&&decide (x.N<=9) else x.N==0)
def D0P (x:U0) (Y2:List U0):Bool:=x.Kind==7&&Y2.any fun y=>y.Kind==7&&y.N==x.N
def D0g (l:List U0) (a i:Nat):List U0:=(l.drop a).take (i-a)
def C0E (l:List U0) (a:List Int) (i:Nat):Bool:=decide (0<=z03 l a i)&&D0f (gt l (i:Int))&&!D0P (gt l (i:Int)) (D0g l (z03 l a i).toNat i)
def B0Q (l:List U0):Nat->Option (List Int)
 |0=>some []
 |
  i+1=>match B0Q l i with
  |none=>none
  |some a=>if C0E l a i then some (a++[z03 l a i]) else none
def u5 (l:List U0):Nat->Nat
 |0=>0
 |i+1=>u5 l i+if (gt l (i:Int)).Kind=2 then 1 else 0
theorem D06 (l:List U0):∀ i,u5 l i<=i
 |0=>Nat.le_refl _
 |i+1=>by have:=D06 l i;simp only [u5];split<;>omega
def A0i (l:List U0):List Int:=
 match B0Q l l.length with
 |none=>[]
 |some a=>if l.length=0\/400<l.length\/64<u5 l l.length\/gt a ((l.length:Int)-1)≠0 then [] else a
def e0M (l:List U0):Bool:=!(A0i l).isEmpty
structure F0o (a:List Int) (i:Nat):Prop where
 len:a.length=i
 rng:∀ j:Nat,j<i->0<=gt a (j:Int)/\gt a (j:Int)<=j
theorem O0k {l:List U0} {a:List Int} {i:Nat} (h:F0o a i) (h0:0<=z03 l a i):z03 l a i<=i:=by
 have hr:∀ z:Int,0<=z->z<i->gt a z<=z:=fun z h1 h2=>by
  have:=(h.rng z.toNat (by omega)).2
  rwa [show ((z.toNat:Nat):Int)=z from by omega] at this
 have hr0:∀ z:Int,0<=z->z<i->0<=gt a z:=fun z h1 h2=>by
  have:=(h.rng z.toNat (by omega)).1
  rwa [show ((z.toNat:Nat):Int)=z from by omega] at this
 revert h0
 unfold z03;simp only;generalize gt l (i:Int)=x
 repeat' split
 all_goals intro h0
 all_goals first
  |omega
  |(rename_i h1;have a1:=hr x.A (by omega) (by first | omega | (have:=hr x.B (by omega) (by omega);omega));first | omega | (have:=hr x.B (by omega) (by omega);omega))
theorem F0o.snoc {l:List U0} {a:List Int} {i:Nat} (h:F0o a i) (h0:0<=z03 l a i):F0o (a++[z03 l a i]) (i+1):=by
 refine ⟨by simp [h.len],fun j hj=>?_⟩
 by_cases e:j=i
 ·subst e;rw [F0L h.len.symm];exact ⟨h0,O0k h h0⟩
 ·rw [z0U (by omega) (by rw [h.len];omega)];exact h.rng j (by omega)
theorem E0m {l:List U0}:∀ {i:Nat} {a:List Int},B0Q l i=some a->F0o a i
 |0,a,h=>by simp [B0Q] at h;subst h;exact ⟨rfl,fun j hj=>by omega⟩
 |
  i+1,a,h=>by
  simp only [B0Q] at h;split at h
  ·cases h
  ·rename_i b hb;split at h
   ·rename_i hg;cases h;simp only [C0E,Bool.and_eq_true,decide_eq_true_eq] at hg;exact (E0m hb).snoc hg.1.1
   ·cases h
theorem S0I {l:List U0} {a:List Int} {i:Nat} (fuel:Nat) (hi:i<l.length) (ha:F0o a i) (hb:i<4611686018427387904):p0i fuel l a (i:Int)=some (z03 l a i):=by
 have hin:y0 l (i:Int)=true:=B4 (by omega) (by omega);have hW:W ((i:Int)-1)=(i:Int)-1:=c0R (by omega) (by omega);have hr:∀ z:Int,0<=z->z<i->gt a z<=z/\0<=gt a z:=fun z h1 h2=>by
  have:=ha.rng z.toNat (by omega)
  rwa [show ((z.toNat:Nat):Int)=z from by omega,and_comm] at this
 have hl:=ha.len;unfold p0i z03;simp only [hin,if_true,hW];generalize gt l (i:Int)=x;have hia:∀ z:Int,0<=z->z<i->y0 a z=true:=fun z h1 h2=>B4 h1 (by omega);have hWA:0<=x.B->x.B<i->W (gt a x.B-1)=gt a x.B-1:=fun h1 h2=>c0R (by have:=hr x.B h1 h2;omega) (by have:=hr x.B h1 h2;omega);obtain ⟨k,A,B,N,S⟩:=x;simp only at hWA ⊢
 by_cases c1:k=1\/k=2
 ·have e1:((if (k==1)=true then some (k==1) else some (k==2)):Option Bool)=some true:=by rcases c1 with rfl | rfl<;>rfl
  simp only [e1,F1,if_true,c1]
  by_cases hA:A=-1<;>by_cases hB:B=-1<;>simp [hA,hB]
 ·have e1:((if (k==1)=true then some (k==1) else some (k==2)):Option Bool)=some false:=by
   have:¬ k=1:=fun h=>c1 (.inl h);have:¬ k=2:=fun h=>c1 (.inr h);simp [*]
  simp only [e1,F1,false_eq_true,if_false,c1]
  by_cases c2:k=3\/k=4
  ·have e2:((if (k==3)=true then some (k==3) else some (k==4)):Option Bool)=some true:=by rcases c2 with rfl | rfl<;>rfl
   simp only [e2,F1,if_true,c2]
   by_cases hB:0<=B
   ·by_cases hB2:B=(i:Int)-1
    ·have h1i:(1:Int)<=(i:Int):=by omega
     have hib:=hia B hB (by omega);have hw:=hWA hB (by omega)
     by_cases hA:0<=A
     ·by_cases hA2:A=gt a B-1
      ·have:=hr B hB (by omega);have hiA:=hia A hA (by omega);simp only [ge_iff_le,hB,hB2,hA,decide_true,if_true,beq_self_eq_true] at *;simp only [hib,if_true,hw,F1,hA2,beq_self_eq_true];rw [<-hA2];simp only [hiA,if_true,F1];simp [h1i]
      ·simp only [ge_iff_le,hB,hB2,hA,decide_true,if_true,beq_self_eq_true] at *;simp [hib,hw,hA2,h1i]
     ·simp only [ge_iff_le,hB,hB2,hA,decide_true,decide_false,if_true,beq_self_eq_true] at *;simp [hA]
    ·simp [hB,hB2]
   ·simp [hB]
  ·have e2:((if (k==3)=true then some (k==3) else some (k==4)):Option Bool)=some false:=by
    have:¬ k=3:=fun h=>c2 (.inl h);have:¬ k=4:=fun h=>c2 (.inr h);simp [*]
   simp only [e2,F1,false_eq_true,if_false,c2]
   by_cases c3:k=5\/k=6\/k=7\/k=8
   ·have e3:((if (k==5)=true then some (k==5) else if (k==6)=true then some (k==6) else if (k==7)=true then some (k==7) else some (k==8)):Option Bool)=some true:=by rcases c3 with rfl | rfl | rfl | rfl<;>rfl
    simp only [e3,F1,if_true,c3]
    by_cases hB:B=-1
    ·by_cases hA:0<=A
     ·by_cases hA2:A=(i:Int)-1
      ·have hiA:=hia A hA (by omega);have h1i:(1:Int)<=(i:Int):=by omega
       simp only [ge_iff_le,hB,hA,hA2,decide_true,if_true,beq_self_eq_true] at *;simp [hiA,h1i]
      ·simp [hB,hA,hA2]
     ·simp [hB,hA]
    ·simp [hB]
   ·have e3:((if (k==5)=true then some (k==5) else if (k==6)=true then some (k==6) else if (k==7)=true then some (k==7) else some (k==8)):Option Bool)=some false:=by
     have:¬ k=5:=fun h=>c3 (by simp [h]);have:¬ k=6:=fun h=>c3 (by simp [h]);have:¬ k=7:=fun h=>c3 (by simp [h]);have:¬ k=8:=fun h=>c3 (by simp [h]);simp [*]
    simp only [e3,F1,false_eq_true,if_false,c3]
theorem Q07 (fuel:Nat) (x:U0):m0O fuel x=some (D0f x):=by
 unfold m0O D0f G0Y
 grind
theorem P04 (fuel:Nat) (x:U0) (Y2:List U0) (hf:Y2.length<fuel) (hs:Y2.length<4611686018427387904):o01 fuel x Y2=some (D0P x Y2):=by
 have key:∀ k i,i+k=Y2.length->∃ t,iter (E0n fuel x Y2) (k+1) (i:Int)=some t/\(match t with | .inl _=>some false | .inr r=>some r)=some (x.Kind==7&&(Y2.drop i).any fun y=>y.Kind==7&&y.N==x.N):=by
  intro k
  induction k with
  |
   zero=>
   intro i hi;refine ⟨.inl (),?_,?_⟩
   ·unfold iter E0n;have:¬ ((i:Int)<(Y2.length:Int)):=by omega
    simp [this]
   ·rw [List.drop_of_length_le (by omega)];simp
  |
   succ k ih=>
   intro i hi;have hlt:i<Y2.length:=by omega
   have hin:y0 Y2 (i:Int)=true:=B4 (by omega) (by omega);have hg:gt Y2 (i:Int)=Y2[i]:=Y5 (by simp [hlt]);have hd:Y2.drop i=Y2[i] :: Y2.drop (i+1):=List.drop_eq_getElem_cons hlt;have hd1:(i:Int)<(Y2.length:Int):=by omega
   by_cases hx:(x.Kind==7&&(Y2[i].Kind==7&&Y2[i].N==x.N))=true
   ·refine ⟨.inr true,?_,?_⟩
    ·unfold iter E0n;simp only [hd1,decide_true,if_true,hin,hg]
     grind
    ·rw [hd];simp only [any_cons];grind
   ·obtain ⟨t,h1,h2⟩:=ih (i+1) (by omega);refine ⟨t,?_,?_⟩
    ·unfold iter;have:E0n fuel x Y2 (i:Int)=some (.next ((i+1:Nat):Int)):=by
      unfold E0n;simp only [hd1,decide_true,if_true,hin,hg,R2 (show i<9223372036854775807 by omega)]
      grind
     rw [this];exact h1
    ·rw [h2,hd];simp only [any_cons];grind
 obtain ⟨t,h1,h2⟩:=key Y2.length 0 (by omega);have mono:iter (E0n fuel x Y2) fuel ((0:Nat):Int)=some t:=M0T h1 (by omega);unfold o01;rw [show (0:Int)=((0:Nat):Int) from rfl,mono];rw [List.drop_zero] at h2;cases t<;>simpa [D0P] using h2
theorem O0c {l:List U0} {i:Nat} (h:B0Q l i=none):∀ k,B0Q l (i+k)=none
 |0=>h
 |k+1=>by rw [<-add_assoc];simp only [B0Q,O0c h k]
def E0x (l:List U0):(List Int×Int) ⊕ List Int:=match B0Q l l.length with | none=>.inr [] | some b=>.inl (b,(u5 l l.length:Int))
theorem M08 {l:List U0} {i:Nat} (h:B0Q l i=none) (hi:i<=l.length):E0x l=.inr []:=by
 have:=O0c h (l.length-i);rw [show i+(l.length-i)=l.length from by omega] at this;simp [E0x,this]
theorem X0c {l:List U0} {a:Int} {i:Nat} (h:0<=a):L1 l a (i:Int)=D0g l a.toNat i:=by
 unfold L1 D0g;congr 1;omega
theorem T0V {l:List U0} {a i:Nat}:(D0g l a i).length<=i:=by simp [D0g];omega
theorem Q0s {l:List U0} {a:List Int} {i:Nat} {fuel:Nat} (h:B0Q l i=some a) (hi:i<l.length) (hl:l.length<=400) (hf:400<fuel) :
  E06 fuel l (a,(u5 l i:Int),(i:Int))=if C0E l a i then some (.next (a++[z03 l a i],(u5 l (i+1):Int),((i+1:Nat):Int))) else some (.done (.inr [])):=by
 have ok:=E0m h;have hin:y0 l (i:Int)=true:=B4 (by omega) (by omega);have hlv:=D06 l i;have h1:(i:Int)<(l.length:Int):=by omega
 have hW:W ((u5 l i:Int)+1)=((u5 l i+1:Nat):Int):=R2 (by omega);have hWi:W ((i:Int)+1)=((i+1:Nat):Int):=R2 (by omega);have hap:∀ x:Int,C1 8 a [x]=true:=fun x=>a7 (by rw [ok.len];simp;omega);unfold E06;simp only [h1,decide_true,if_true,hin,S0I fuel hi ok (by omega),F1,Q07,hW,hWi,hap]
 by_cases hn:z03 l a i<0
 ·have hg:C0E l a i=false:=by unfold C0E;simp;intro;omega
  simp [hn,hg]
 ·have hr:=O0k (l:=l) ok (by omega);have hsl:C3 l (z03 l a i) (i:Int)=true:=by simp [C3];omega
  simp only [hn,decide_false,false_eq_true,if_false,hsl,if_true,X0c (show 0<=z03 l a i by omega)];have hs:(D0g l (z03 l a i).toNat i).length<=i:=T0V;rw [P04 fuel _ _ (by omega) (by omega)];have hg:C0E l a i=(D0f (gt l (i:Int))&&!D0P (gt l (i:Int)) (D0g l (z03 l a i).toNat i)):=by unfold C0E;simp [show 0<=z03 l a i by omega]
  rw [hg];generalize D0P (gt l (i:Int)) (D0g l (z03 l a i).toNat i)=ag;generalize D0f (gt l (i:Int))=fb
  by_cases hk:(gt l (i:Int)).Kind=2
  ·cases fb<;>cases ag<;>simp [hk,u5]
  ·cases fb<;>cases ag<;>simp [hk,u5]
theorem N0P {l:List U0} {fuel:Nat} (hl:l.length<=400) (hf:400<fuel):∀ (k i:Nat) (a:List Int),B0Q l i=some a->i+k=l.length->∀ m,k<m->iter (E06 fuel l) m (a,(u5 l i:Int),(i:Int))=some (E0x l)
 |
  0,i,a,h,hi,m,hm=>by
  obtain ⟨m,rfl⟩:∃ q,m=q+1:=⟨m-1,by omega⟩
  have:¬ (i:Int)<(l.length:Int):=by omega
  obtain rfl:i=l.length:=by omega
  unfold iter E06;simp [E0x,h]
 |
  k+1,i,a,h,hi,m,hm=>by
  obtain ⟨m,rfl⟩:∃ q,m=q+1:=⟨m-1,by omega⟩
  unfold iter;rw [Q0s h (by omega) hl hf]
  by_cases hg:C0E l a i=true
  ·rw [if_pos hg];exact N0P hl hf k (i+1) _ (by simp only [B0Q,h,hg,if_true]) (by omega) m (by omega)
  ·rw [if_neg hg,M08 (i:=i+1) (by simp only [B0Q,h];simp [hg]) (by omega)]
theorem N0Q (l:List U0) {fuel:Nat} (hf:401<fuel):b0e fuel l=some (A0i l):=by
 unfold b0e A0i
 by_cases h0:l.length=0
 ·have:=List.eq_nil_of_length_eq_zero h0;subst this;rfl
 ·by_cases h4:400<l.length
  ·have h4':(l.length:Int)>400:=by omega
   simp only [beq_iff_eq,Int.natCast_eq_zero,h0,if_false,h4',decide_true,F1,if_true,h4,true_or,or_true];cases B0Q l l.length<;>rfl
  ·have h4':¬ (l.length:Int)>400:=by omega
   have hlp:=N0P (l:=l) (fuel:=fuel) (by omega) (by omega) l.length 0 [] rfl (by omega) fuel (by omega);simp only [beq_iff_eq,Int.natCast_eq_zero,h0,if_false,h4',decide_false,F1,false_eq_true];rw [show (([]:List Int),(0:Int),(0:Int))=([],(u5 l 0:Int),((0:Nat):Int)) from rfl,hlp];simp only [F1,E0x];cases hL:B0Q l l.length with
   |none=>rfl
   |
    some b=>
    have ok:=E0m hL;have hw:W ((l.length:Int)-1)=(l.length:Int)-1:=c0R (by omega) (by omega);have hin:y0 b ((l.length:Int)-1)=true:=B4 (by omega) (by rw [ok.len];omega);have hne:H0b b=true:=by
     have:=ok.len;cases b with
     |nil=>simp at this;omega
     |cons x y=>rfl
    simp only [hw,hin,if_true]
    by_cases h6:64<u5 l l.length
    ·have h6':(u5 l l.length:Int)>64:=by omega
     simp [h6,h6']
    ·have h6':¬ (u5 l l.length:Int)>64:=by omega
     by_cases hz:gt b ((l.length:Int)-1)=0
     ·simp [h6,h6',hz,hne,h0,h4]
     ·simp [h6,h6',hz]
theorem E0b (l:List U0) {fuel:Nat} (hf:401<fuel):R7 fuel l=some (e0M l):=by
 unfold R7 e0M;rw [N0Q l hf];simp only [F1];cases A0i l<;>simp
theorem V0i (fuel:Nat) (k:Int):D0T fuel k=some (decide (3<=k)&&decide (k<=8),k==3||k==4):=by
 unfold D0T
 by_cases h:k>=3<;>by_cases h3:k=3<;>simp [h,h3]
theorem M02 (l:List U0) (x10:List Int) (x7:Int) (fuel:Nat) {i:Nat} (hi:i<l.length) (hb:i<4611686018427387904):∀ (k a:Nat),a+k=i->∀ m,k<m->
  ∃ t,iter (E0E fuel l x10 x7 (i:Int)) m (a:Int)=some t/\t=if D0P (gt l (i:Int)) (D0g l a i) then .inr [] else .inl ()
 |
  0,a,ha,m,hm=>by
  obtain ⟨m,rfl⟩:∃ q,m=q+1:=⟨m-1,by omega⟩
  obtain rfl:a=i:=by omega
  refine ⟨.inl (),?_,?_⟩
  ·unfold iter E0E;simp
  ·simp [D0P,D0g]
 |
  k+1,a,ha,m,hm=>by
  obtain ⟨m,rfl⟩:∃ q,m=q+1:=⟨m-1,by omega⟩
  have hlt:a<l.length:=by omega
  have hin:y0 l (a:Int)=true:=B4 (by omega) (by omega);have hd1:(a:Int)<(i:Int):=by omega
  have hg:gt l (a:Int)=l[a]:=Y5 (by simp [hlt]);have hseg:D0g l a i=l[a] :: D0g l (a+1) i:=by
   unfold D0g;rw [List.drop_eq_getElem_cons hlt,show i-a=(i-(a+1))+1 from by omega,List.take_succ_cons]
  have step:E0E fuel l x10 x7 (i:Int) (a:Int)=if ((gt l (i:Int)).Kind==7&&((gt l (a:Int)).Kind==7&&(gt l (a:Int)).N==(gt l (i:Int)).N)) then some (.done (.inr [])) else some (.next ((a+1:Nat):Int)):=by
   unfold E0E;simp only [hd1,decide_true,if_true,hin,R2 (show a<9223372036854775807 by omega)];generalize gt l (i:Int)=x;generalize gt l (a:Int)=y
   by_cases h1:x.Kind=7<;>by_cases h2:y.Kind=7<;>by_cases h3:y.N=x.N<;>simp [h1,h2,h3]
  unfold iter;rw [step]
  by_cases hc:((gt l (i:Int)).Kind==7&&((gt l (a:Int)).Kind==7&&(gt l (a:Int)).N==(gt l (i:Int)).N))=true
  ·rw [if_pos hc];refine ⟨_,rfl,?_⟩;rw [hseg];simp only [D0P,any_cons,<-hg]
   grind
  ·rw [if_neg hc];obtain ⟨t,h1,h2⟩:=M02 l x10 x7 fuel hi hb k (a+1) (by omega) m (by omega);refine ⟨t,h1,?_⟩;rw [h2,hseg];simp only [D0P,any_cons,<-hg]
   grind
theorem U0I (x:U0) :
  ((if (decide (x.Kind<1))=true then some true else if (decide (x.Kind>8))=true then some true else
   if (x.Kind != 2)=true then
    if (!((gt x.Set 0==0)&&((gt x.Set 1==0)&&((gt x.Set 2==0)&&(gt x.Set 3==0)))))=true then some true
    else if (x.Kind != 7)=true then if (x.N != 0)=true then some true else if (x.Kind==7)=true then if (decide (x.N<1))=true then some true else some (decide (x.N>9)) else some false
     else if (x.Kind==7)=true then if (decide (x.N<1))=true then some true else some (decide (x.N>9)) else some false
   else if (x.Kind != 7)=true then if (x.N != 0)=true then some true else if (x.Kind==7)=true then if (decide (x.N<1))=true then some true else some (decide (x.N>9)) else some false
    else if (x.Kind==7)=true then if (decide (x.N<1))=true then some true else some (decide (x.N>9)) else some false):Option Bool)
  = some (decide (x.Kind<1)||decide (x.Kind>8)||!D0f x):=by
 unfold D0f G0Y;obtain ⟨k,A,B,N,S⟩:=x;simp only;generalize ((gt S 0==0)&&((gt S 1==0)&&((gt S 2==0)&&(gt S 3==0))))=z
 by_cases h1:k<1
 ·simp [h1]
 ·by_cases h8:k>8
  ·simp [h8]
  ·by_cases h2:k=2
   ·subst h2;by_cases hn:N=0<;>simp [hn]
   ·by_cases h7:k=7
    ·subst h7;cases z<;>by_cases n1:N<1<;>by_cases n9:N>9<;>simp [n1,n9]<;>omega
    ·cases z<;>by_cases hn:N=0<;>simp [h1,h8,h2,h7,hn]
theorem S0h {l:List U0} {a:List Int} {i:Nat} (h:¬ (1<=(gt l (i:Int)).Kind/\(gt l (i:Int)).Kind<=8)):C0E l a i=false:=by
 have:z03 l a i=-1:=by
  unfold z03;simp only;rw [if_neg (by omega),if_neg (by omega),if_neg (by omega)]
 simp [C0E,this]
theorem L0d {l:List U0} {a:List Int} {i:Nat} {fuel:Nat} (h:B0Q l i=some a) (hi:i<l.length) (hl:l.length<2199023255552) (hf:l.length<fuel) :
  F0j fuel l (a++List.replicate (l.length-i) 0,(u5 l i:Int),(i:Int)) =
   if C0E l a i then some (.next (a++[z03 l a i]++List.replicate (l.length-(i+1)) 0,(u5 l (i+1):Int),((i+1:Nat):Int))) else some (.done (.inr [])):=by
 have ok:=E0m h;have hin:y0 l (i:Int)=true:=B4 (by omega) (by omega);have hlv:=D06 l i;have h1:(i:Int)<(l.length:Int):=by omega
 have hW:W ((u5 l i:Int)+1)=((u5 l i+1:Nat):Int):=R2 (by omega);have hWi:W ((i:Int)+1)=((i+1:Nat):Int):=R2 (by omega);have hWm:W ((i:Int)-1)=(i:Int)-1:=c0R (by omega) (by omega);have hlen:(a++List.replicate (l.length-i) (0:Int)).length=l.length:=by simp [ok.len];omega
 have hinx:y0 (a++List.replicate (l.length-i) (0:Int)) (i:Int)=true:=B4 (by omega) (by rw [hlen];omega);have hrep:List.replicate (l.length-i) (0:Int)=0 :: List.replicate (l.length-(i+1)) 0:=G0O hi 0;have hset:∀ (x y:Int) (m:List Int),(a++x :: m).set i y=a++y :: m:=fun x y m=>H0a ok.len.symm;have hgi:∀ (x:Int) (m:List Int),gt (a++x :: m) (i:Int)=x:=fun x m=>F0L ok.len.symm;have hgl:∀ (z x:Int) (m:List Int),0<=z->z<i->gt (a++x :: m) z=gt a z:=fun z x m h0 h2=>z0U h0 (by rw [ok.len];omega);have hib:∀ (z x:Int) (m:List Int),0<=z->z<=i->y0 (a++x :: m) z=true:=fun z x m h0 h2=>B4 h0 (by simp [ok.len];omega);have hr:∀ z:Int,0<=z->z<i->gt a z<=z/\0<=gt a z:=fun z h1 h2=>by
  have:=ok.rng z.toNat (by omega)
  rwa [show ((z.toNat:Nat):Int)=z from by omega,and_comm] at this
 have tail:∀ v:Int,0<=v->v<=i->z03 l a i=v->D0f (gt l (i:Int))=true->
   (Option.bind (iter (E0E fuel l (a++v :: List.replicate (l.length-(i+1)) 0) (u5 l (i+1):Int) (i:Int)) fuel v) fun t2=>match t2 with
    |.inl _=>(some (.next (a++v :: List.replicate (l.length-(i+1)) 0,(u5 l (i+1):Int),W ((i:Int)+1))):Option (T0 (List Int×Int×Int) ((List Int×Int) ⊕ (List Int))))
    |.inr r1=>some (.done (.inr r1))) =
   if C0E l a i then some (.next (a++[v]++List.replicate (l.length-(i+1)) 0,(u5 l (i+1):Int),((i+1:Nat):Int))) else some (.done (.inr [])):=by
  intro v h0 h2 hv hfb;obtain ⟨q,rfl⟩:=Int.eq_ofNat_of_zero_le h0;obtain ⟨t,ht,hte⟩:=M02 l (a++(q:Int) :: List.replicate (l.length-(i+1)) 0) (u5 l (i+1):Int) fuel hi (by omega) (i-q) q (by omega) fuel (by omega);rw [ht,hte];have hg:C0E l a i=!D0P (gt l (i:Int)) (D0g l q i):=by unfold C0E;rw [hv,hfb];simp
  rw [hg]
  by_cases hc:D0P (gt l (i:Int)) (D0g l q i)=true
  ·simp [hc]
  ·simp [hc,hWi]
 unfold F0j;simp only [h1,decide_true,if_true,hin,hinx,V0i,F1,U0I];rw [hrep]
 by_cases hk:1<=(gt l (i:Int)).Kind/\(gt l (i:Int)).Kind<=8
 ·have hk1:¬ (gt l (i:Int)).Kind<1:=by omega
  have hk8:¬ (gt l (i:Int)).Kind>8:=by omega
  simp only [hk1,hk8,decide_false,Bool.false_or];cases hfb:D0f (gt l (i:Int)) with
  |
   false=>
   have hg:C0E l a i=false:=by simp [C0E,hfb]
   simp [hg]
  |
   true=>
   simp only [Bool.not_true,false_eq_true,if_false,Int.toNat_natCast,hset,hgi,hWm];have hlf:((if ((gt l (i:Int)).Kind==2)=true then some (W ((u5 l i:Int)+1)) else some (u5 l i:Int)):Option Int)=some ((u5 l (i+1):Nat):Int):=by
    rw [hW]
    by_cases h2:(gt l (i:Int)).Kind=2<;>simp [h2,u5]
   simp only [hlf,F1];have bad:z03 l a i=-1->C0E l a i=false:=fun hl2=>by simp [C0E,hl2]
   by_cases c1:(gt l (i:Int)).Kind=1\/(gt l (i:Int)).Kind=2
   ·have kA:(decide (3<=(gt l (i:Int)).Kind)&&decide ((gt l (i:Int)).Kind<=8))=false:=by rcases c1 with h | h<;>simp [h]
    have kB:((gt l (i:Int)).Kind==3||(gt l (i:Int)).Kind==4)=false:=by rcases c1 with h | h<;>simp [h]
    have hv:z03 l a i=if (gt l (i:Int)).A=-1/\(gt l (i:Int)).B=-1 then (i:Int) else -1:=by unfold z03;simp only;rw [if_pos c1]
    simp only [kA,kB,Bool.not_false,if_true,false_eq_true,if_false]
    by_cases hA:(gt l (i:Int)).A=-1
    ·by_cases hB:(gt l (i:Int)).B=-1
     ·have hv':z03 l a i=i:=by rw [hv,if_pos ⟨hA,hB⟩]
      simp only [hA,hB,bne_self_eq_false,false_eq_true,if_false,F1,hib i i _ (by omega) (by omega),if_true,hgi];refine (tail i (by omega) (by omega) hv' hfb).trans ?_;rw [hv']
     ·rw [bad (by rw [hv,if_neg (fun h=>hB h.2)])];simp [hA,hB]
    ·rw [bad (by rw [hv,if_neg (fun h=>hA h.1)])];simp [hA]
   ·have kA:(decide (3<=(gt l (i:Int)).Kind)&&decide ((gt l (i:Int)).Kind<=8))=true:=by simp;omega
    simp only [kA,Bool.not_true,false_eq_true,if_false,if_true]
    by_cases c2:(gt l (i:Int)).Kind=3\/(gt l (i:Int)).Kind=4
    ·have kB:((gt l (i:Int)).Kind==3||(gt l (i:Int)).Kind==4)=true:=by rcases c2 with h | h<;>simp [h]
     have hv:z03 l a i=if (gt l (i:Int)).B=(i:Int)-1/\0<=(gt l (i:Int)).B/\0<=(gt l (i:Int)).A/\(gt l (i:Int)).A=gt a (gt l (i:Int)).B-1 then gt a (gt l (i:Int)).A else -1:=by unfold z03;simp only;rw [if_neg c1,if_pos c2]
     simp only [kB,Bool.not_true,false_eq_true,if_false,if_true,F1]
     by_cases hB:(gt l (i:Int)).B=(i:Int)-1
     ·by_cases hB0:(i:Int)-1<0
      ·rw [bad (by rw [hv,if_neg (fun h=>by omega)])];simp only [hB,bne_self_eq_false,false_eq_true,if_false,hB0,decide_true,F1,if_true]
      ·have hrB:=hr ((i:Int)-1) (by omega) (by omega);have hw2:W (gt a ((i:Int)-1)-1)=gt a ((i:Int)-1)-1:=c0R (by omega) (by omega);simp only [hB,bne_self_eq_false,false_eq_true,if_false,hB0,decide_false,F1,hib _ _ _ (show 0<=(i:Int)-1 by omega) (by omega),if_true,hgl _ _ _ (show 0<=(i:Int)-1 by omega) (by omega),hw2]
       by_cases hA:(gt l (i:Int)).A=gt a ((i:Int)-1)-1
       ·by_cases hA0:gt a ((i:Int)-1)-1<0
        ·rw [bad (by rw [hv,if_neg (fun h=>by omega)])];simp only [hA,bne_self_eq_false,false_eq_true,if_false,hA0,decide_true,F1,if_true]
        ·have hrA:=hr (gt a ((i:Int)-1)-1) (by omega) (by omega);have hv':z03 l a i=gt a (gt a ((i:Int)-1)-1):=by rw [hv,hB,if_pos ⟨rfl,by omega,by omega,hA⟩,hA]
         simp only [hA,bne_self_eq_false,false_eq_true,if_false,hA0,decide_false,F1,hib _ _ _ (show 0<=gt a ((i:Int)-1)-1 by omega) (by omega),hib i _ _ (by omega) (by omega),if_true,hgl _ _ _ (show 0<=gt a ((i:Int)-1)-1 by omega) (by omega),hgi];refine (tail _ hrA.2 (by omega) hv' hfb).trans ?_;rw [hv']
       ·rw [bad (by rw [hv,hB,if_neg (fun h=>hA h.2.2.2)])];simp [hA]
     ·rw [bad (by rw [hv,if_neg (fun h=>hB h.1)])];simp [hB]
    ·have c3:(gt l (i:Int)).Kind=5\/(gt l (i:Int)).Kind=6\/(gt l (i:Int)).Kind=7\/(gt l (i:Int)).Kind=8:=by omega
     have kB:((gt l (i:Int)).Kind==3||(gt l (i:Int)).Kind==4)=false:=by rcases c3 with h | h | h | h<;>simp [h]
     have hv:z03 l a i=if (gt l (i:Int)).B=-1/\0<=(gt l (i:Int)).A/\(gt l (i:Int)).A=(i:Int)-1 then gt a (gt l (i:Int)).A else -1:=by unfold z03;simp only;rw [if_neg c1,if_neg c2,if_pos c3]
     simp only [kB,Bool.not_false,if_true,false_eq_true,if_false]
     by_cases hB:(gt l (i:Int)).B=-1
     ·simp only [hB,bne_self_eq_false,false_eq_true,if_false,F1]
      by_cases hA:(gt l (i:Int)).A=(i:Int)-1
      ·by_cases hA0:(i:Int)-1<0
       ·rw [bad (by rw [hv,if_neg (fun h=>by omega)])];simp only [hA,bne_self_eq_false,false_eq_true,if_false,hA0,decide_true,F1,if_true]
       ·have hrA:=hr ((i:Int)-1) (by omega) (by omega);have hv':z03 l a i=gt a ((i:Int)-1):=by rw [hv,hA,if_pos ⟨hB,by omega,rfl⟩]
        simp only [hA,bne_self_eq_false,false_eq_true,if_false,hA0,decide_false,F1,hib _ _ _ (show 0<=(i:Int)-1 by omega) (by omega),hib i _ _ (by omega) (by omega),if_true,hgl _ _ _ (show 0<=(i:Int)-1 by omega) (by omega),hgi];refine (tail _ hrA.2 (by omega) hv' hfb).trans ?_;rw [hv']
      ·rw [bad (by rw [hv,if_neg (fun h=>hA h.2.2)])];simp [hA]
     ·rw [bad (by rw [hv,if_neg (fun h=>hB h.1)])];simp [hB]
 ·rw [S0h hk];have:(decide ((gt l (i:Int)).Kind<1)||decide ((gt l (i:Int)).Kind>8)||!D0f (gt l (i:Int)))=true:=by
   by_cases h8:(gt l (i:Int)).Kind<1
   ·simp [h8]
   ·have:(gt l (i:Int)).Kind>8:=by omega
    simp [this]
  simp [this]
theorem N02 {l:List U0} {fuel:Nat} (hl:l.length<2199023255552) (hf:l.length<fuel):∀ (k i:Nat) (a:List Int),B0Q l i=some a->i+k=l.length->∀ m,k<m->
  iter (F0j fuel l) m (a++List.replicate (l.length-i) 0,(u5 l i:Int),(i:Int))=some (E0x l)
 |
  0,i,a,h,hi,m,hm=>by
  obtain ⟨m,rfl⟩:∃ q,m=q+1:=⟨m-1,by omega⟩
  obtain rfl:i=l.length:=by omega
  unfold iter F0j;simp [E0x,h]
 |
  k+1,i,a,h,hi,m,hm=>by
  obtain ⟨m,rfl⟩:∃ q,m=q+1:=⟨m-1,by omega⟩
  unfold iter;rw [L0d h (by omega) hl hf]
  by_cases hg:C0E l a i=true
  ·rw [if_pos hg];exact N02 hl hf k (i+1) _ (by simp only [B0Q,h,hg,if_true]) (by omega) m (by omega)
  ·rw [if_neg hg,M08 (i:=i+1) (by simp only [B0Q,h];simp [hg]) (by omega)]
theorem N0k (l:List U0) {fuel:Nat} (hl:l.length*64<=140737488351232) (hf:l.length+1<fuel):D0H fuel l=some (A0i l):=by
 unfold D0H A0i;have hmk:S5 8 (l.length:Int)=true:=by simp [S5];omega
 have hlp:=N02 (l:=l) (fuel:=fuel) (by omega) (by omega) l.length 0 [] rfl (by omega) fuel (by omega);simp only [hmk,if_true,Int.toNat_natCast];rw [show (List.replicate l.length (0:Int),(0:Int),(0:Int))=([]++List.replicate (l.length-0) 0,(u5 l 0:Int),((0:Nat):Int)) from by simp [u5],hlp];simp only [F1,E0x];cases hL:B0Q l l.length with
 |none=>rfl
 |
  some b=>
  have ok:=E0m hL;have hlv:=D06 l l.length
  by_cases h0:l.length=0
  ·simp [h0]
  ·by_cases h4:400<l.length
   ·have h4':(l.length:Int)>400:=by omega
    simp [h0,h4,h4']
   ·have h4':¬ (l.length:Int)>400:=by omega
    have hw:W ((l.length:Int)-1)=(l.length:Int)-1:=c0R (by omega) (by omega);have hin:y0 b ((l.length:Int)-1)=true:=B4 (by omega) (by rw [ok.len];omega);have hne:H0b b=true:=by
     have:=ok.len;cases b with
     |nil=>simp at this;omega
     |cons x y=>rfl
    simp only [hw,hin,if_true]
    by_cases h6:64<u5 l l.length
    ·have h6':(u5 l l.length:Int)>64:=by omega
     simp [h0,h4,h4',h6,h6']
    ·have h6':¬ (u5 l l.length:Int)>64:=by omega
     by_cases hz:gt b ((l.length:Int)-1)=0
     ·simp [h0,h4,h4',h6,h6',hz,hne]
     ·simp [h0,h4,h4',h6,h6',hz]
theorem D0v (l:List U0) {fuel:Nat} (hl:l.length*64<=140737488351232) (hf:l.length+1<fuel):C0n fuel l=some (e0M l):=by
 unfold C0n e0M;rw [N0k l hl hf];rfl
def At (l:List U0) (lo:Nat) (t:Tm):Prop:=(l.drop lo).take t.size=t.flat lo
theorem At.len {l:List U0} {lo:Nat} {t:Tm} (h:At l lo t):lo+t.size<=l.length:=by
 have:=congrArg List.length h;rw [Tm.j0D,List.length_take,List.length_drop] at this;have:=t.size_pos;omega
theorem At.get {l:List U0} {lo:Nat} {t:Tm} (h:At l lo t) {j:Nat} (hj:j<t.size):l[lo+j]?=(t.flat lo)[j]?:=by
 rw [<-h,List.getElem?_take_of_lt hj,List.getElem?_drop]
theorem Tm.R0k (t:Tm) (lo:Nat):(t.flat lo)[t.size-1]?=some (t.node lo):=by
 cases t<;>simp [Tm.flat,Tm.size,Tm.j0D]
 all_goals (rw [List.getElem?_append_right (by simp [Tm.j0D])];simp [Tm.j0D])
theorem At.top {l:List U0} {lo:Nat} {t:Tm} (h:At l lo t):l[t.top lo]?=some (t.node lo):=by
 have hp:=t.size_pos;have:=h.get (j:=t.size-1) (by omega);rw [Tm.R0k] at this
 rwa [Tm.top,show lo+t.size-1=lo+(t.size-1) from by omega]
theorem At.A0h {l:List U0} {lo:Nat} {t:Tm} (h:At l lo t):gt l (t.top lo:Int)=t.node lo:=Y5 h.top
theorem At.of {l:List U0} {lo:Nat} {t:Tm} (hl:lo+t.size<=l.length) (h:∀ j,j<t.size->l[lo+j]?=(t.flat lo)[j]?):At l lo t:=by
 unfold At;apply List.ext_getElem?;intro j
 by_cases hj:j<t.size
 ·rw [List.getElem?_take_of_lt hj,List.getElem?_drop,h j hj]
 ·rw [List.getElem?_take_eq_none (by omega),List.getElem?_eq_none (by rw [Tm.j0D];omega)]
theorem At.bin {l:List U0} {lo:Nat} {a b t:Tm} (hs:t.size=a.size+b.size+1) (hf:t.flat lo=a.flat lo++b.flat (lo+a.size)++[t.node lo]):At l lo t↔At l lo a/\At l (lo+a.size) b/\l[lo+a.size+b.size]?=some (t.node lo):=by
 constructor
 ·intro h;have hl:=h.len;have e:=fun j hj=>h.get (j:=j) hj;rw [hf] at e;refine ⟨At.of (by omega) fun j hj=>?_,At.of (by omega) fun j hj=>?_,?_⟩
  ·rw [e j (by omega),append_assoc,List.getElem?_append_left (by rw [Tm.j0D];omega)]
  ·rw [add_assoc,e (a.size+j) (by omega),append_assoc,List.getElem?_append_right (by rw [Tm.j0D];omega),Tm.j0D,Nat.add_sub_cancel_left,List.getElem?_append_left (by rw [Tm.j0D];omega)]
  ·rw [add_assoc,e (a.size+b.size) (by omega),List.getElem?_append_right (by simp [Tm.j0D])];simp [Tm.j0D]
 ·rintro ⟨h1,h2,h3⟩
  have hl:=h2.len;have h3l:lo+a.size+b.size<l.length:=by
   rcases lt_or_ge (lo+a.size+b.size) l.length with h | h
   ·exact h
   ·rw [List.getElem?_eq_none h] at h3;cases h3
  refine At.of (by omega) fun j hj=>?_;rw [hf];rcases lt_or_ge j a.size with ha | ha
  ·rw [append_assoc,List.getElem?_append_left (by rw [Tm.j0D];omega),h1.get ha]
  ·rcases lt_or_ge j (a.size+b.size) with hb | hb
   ·rw [append_assoc,List.getElem?_append_right (by rw [Tm.j0D];omega),Tm.j0D,List.getElem?_append_left (by rw [Tm.j0D];omega),<-h2.get (by omega)];congr 1;omega
   ·obtain rfl:j=a.size+b.size:=by omega
    rw [List.getElem?_append_right (by simp [Tm.j0D]),<-add_assoc,h3];simp [Tm.j0D]
theorem At.un {l:List U0} {lo:Nat} {a t:Tm} (hs:t.size=a.size+1) (hf:t.flat lo=a.flat lo++[t.node lo]):At l lo t↔At l lo a/\l[lo+a.size]?=some (t.node lo):=by
 constructor
 ·intro h;have hl:=h.len;have e:=fun j hj=>h.get (j:=j) hj;rw [hf] at e;refine ⟨At.of (by omega) fun j hj=>?_,?_⟩
  ·rw [e j (by omega),List.getElem?_append_left (by rw [Tm.j0D];omega)]
  ·rw [e a.size (by omega),List.getElem?_append_right (by simp [Tm.j0D])];simp [Tm.j0D]
 ·rintro ⟨h1,h3⟩
  have h3l:lo+a.size<l.length:=by
   rcases lt_or_ge (lo+a.size) l.length with h | h
   ·exact h
   ·rw [List.getElem?_eq_none h] at h3;cases h3
  refine At.of (by omega) fun j hj=>?_;rw [hf];rcases lt_or_ge j a.size with ha | ha
  ·rw [List.getElem?_append_left (by rw [Tm.j0D];omega),h1.get ha]
  ·obtain rfl:j=a.size:=by omega
   rw [List.getElem?_append_right (by simp [Tm.j0D]),h3];simp [Tm.j0D]
theorem At.one {l:List U0} {lo:Nat} {t:Tm} (hs:t.size=1) (hf:t.flat lo=[t.node lo]):At l lo t↔l[lo]?=some (t.node lo):=by
 constructor
 ·intro h;have:=h.get (j:=0) (by omega);rw [hf] at this;simpa using this
 ·intro h;have hl:lo<l.length:=by
   rcases lt_or_ge lo l.length with h' | h'
   ·exact h'
   ·rw [List.getElem?_eq_none h'] at h;cases h
  refine At.of (by omega) fun j hj=>?_;obtain rfl:j=0:=by omega
  rw [hf,Nat.add_zero,h];rfl
