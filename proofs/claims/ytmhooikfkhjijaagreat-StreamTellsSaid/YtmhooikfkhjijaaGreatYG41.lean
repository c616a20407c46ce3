/- P. Its conditions: none. -/
import Derived.Test.YtmhooikfkhjijaaGreatYG40
open Bool (false_eq_true)
open Nat (le_refl sub_zero add_sub_cancel)
open Int (toNat_natCast)
set_option linter.all false
namespace Go.Proofs.YtmhooikfkhjijaaGreat.Old
open Go.V Go.RowKit
def e0L (l:List U0):Nat->List Int
 |0=>[]
 |i+1=>if(gt l (i:Int)).Kind=2 then e0L l i++[(i:Int)]else e0L l i
def C0e (l:List U0):∀i,(e0L l i).length=u5 l i
 |0=>rfl
 |i+1=>by simp only[e0L,u5];split<;>simp[C0e l i]
def C0J (l:List U0):List Int:=if e0M l then e0L l l.length else[]
def M0E {l:List U0}(hl:l.length<=400){i:Nat}(hi:i<l.length)(fuel:Nat):
  E0V fuel l (e0L l i,(i:Int))=some (.next (e0L l (i+1),((i+1:Nat):Int)))/\E0P fuel l (e0L l i,(i:Int))=some (.next (e0L l (i+1),((i+1:Nat):Int))):=by
 have h1:(i:Int)<(l.length:Int):=by omega
 have hin:y0 l (i:Int)=true:=B4 (by omega) (by omega);have hWi:W ((i:Int)+1)=((i+1:Nat):Int):=R2 (by omega);have hle:=D06 l i;have hap:C1 8 (e0L l i) [(i:Int)]=true:=a7 (by rw[C0e];simp;omega);unfold E0V E0P
 by_cases hk:(gt l (i:Int)).Kind=2<;>simp[h1,hin,hWi,hap,hk,e0L]
def I0x {l:List U0}(hw:∀x∈l,l02 x){fuel:Nat}(hf:401<fuel):a0I fuel l=some (C0J l):=by
 unfold a0I C0J;rw[E0b l hf];cases hR:e0M l with
 |false=>rfl
 |
  true=>
  obtain⟨t,ht⟩:=D0C hw hR;have h400:=ht.le;have hlen:=ht.len;have:=j0K (step:=E0V fuel l) (fun i=>(e0L l i,(i:Int))) (e0L l l.length) l.length (fun i hi=>.inl (M0E (by omega) hi fuel).1) (by unfold E0V;simp) l.length 0 fuel (by omega) (by omega);simp only[q0];simp only[e0L]at this;rw[show(0:Int)=((0:Nat):Int)from rfl,this];rfl
def F0v {l:List U0}(hw:∀x∈l,l02 x)(hl:l.length*64<=140737488351232){fuel:Nat}(hf:401<fuel)(hf2:l.length+1<fuel):C0z fuel l=some (C0J l):=by
 unfold C0z C0J;rw[D0v l hl hf2];cases hR:e0M l with
 |false=>rfl
 |
  true=>
  obtain⟨t,ht⟩:=D0C hw hR;have h400:=ht.le;have hlen:=ht.len;have:=j0K (step:=E0P fuel l) (fun i=>(e0L l i,(i:Int))) (e0L l l.length) l.length (fun i hi=>.inl (M0E (by omega) hi fuel).2) (by unfold E0P;simp) l.length 0 fuel (by omega) (by omega);simp only[q0];simp only[e0L]at this;rw[show(0:Int)=((0:Nat):Int)from rfl,this];rfl
def H09 (l:List U0){i j:Nat}(h:i<=j):u5 l i<=u5 l j:=by
 induction j with
 |zero=>
      obtain rfl:i=0:=by omega
      exact le_refl _
 |
  succ j ih=>
  by_cases e:i=j+1
  ·subst e;exact le_refl _
  ·have:=ih (by omega);simp only[u5];omega
def E0C (l:List U0):∀(i p:Nat),p<u5 l i->∃q:Nat,q<i/\(e0L l i)[p]?=some (q:Int)/\(gt l (q:Int)).Kind=2/\u5 l q=p
 |0,p,h=>by simp[u5]at h
 |
  i+1,p,h=>by
  simp only[u5,e0L]at h ⊢
  by_cases hk:(gt l (i:Int)).Kind=2
  ·simp only[hk,if_true]at h ⊢
   by_cases e:p=u5 l i
   ·exact⟨i,by omega,by rw[List.getElem?_append_right (by rw[C0e];omega),C0e];simp[e],hk,e.symm⟩
   ·obtain⟨q,h1,h2,h3,h4⟩:=E0C l i p (by omega);exact⟨q,by omega,by rw[List.getElem?_append_left (by rw[C0e];omega)];exact h2,h3,h4⟩
  ·simp only[hk,if_false,Nat.add_zero]at h ⊢;obtain⟨q,h1,h2,h3,h4⟩:=E0C l i p h;exact⟨q,by omega,h2,h3,h4⟩
def B00 (l:List U0):Nat->List Int
 |0=>[]
 |i+1=>B00 l i++[if(gt l (i:Int)).Kind=2 then(u5 l i:Int)else -1]
def E0H (l:List U0):∀i,(B00 l i).length=i
 |0=>rfl
 |i+1=>by simp[B00,E0H l i]
def J0Q (l:List U0):∀(i j:Nat),j<i->(B00 l i)[j]?=some (if(gt l (j:Int)).Kind=2 then(u5 l j:Int)else -1)
 |0,j,h=>by omega
 |
  i+1,j,h=>by
  simp only[B00]
  by_cases e:j=i
  ·subst e;rw[List.getElem?_append_right (by rw[E0H];omega),E0H];simp
  ·rw[List.getElem?_append_left (by rw[E0H];omega)];exact J0Q l i j (by omega)
def D09 (l:List U0):List Int:=if e0M l then B00 l l.length else[]
def D0z (l:List U0)(p:Nat):Nat->List Int
 |0=>[]
 |i+1=>D0z l p i++[if(gt l (i:Int)).Kind=2/\u5 l i<p then(u5 l i:Int)else -1]
def E0p (l:List U0)(p:Nat):∀i,(D0z l p i).length=i
 |0=>rfl
 |i+1=>by simp[D0z,E0p l p i]
def J0r (l:List U0)(p:Nat):∀(i j:Nat),j<i->(D0z l p i)[j]?=some (if(gt l (j:Int)).Kind=2/\u5 l j<p then(u5 l j:Int)else -1)
 |0,j,h=>by omega
 |
  i+1,j,h=>by
  simp only[D0z]
  by_cases e:j=i
  ·subst e;rw[List.getElem?_append_right (by rw[E0p];omega),E0p];simp
  ·rw[List.getElem?_append_left (by rw[E0p];omega)];exact J0r l p i j (by omega)
def Q01 (l:List U0){i j:Nat}(hi:(gt l (i:Int)).Kind=2)(hj:(gt l (j:Int)).Kind=2)(h:u5 l i=u5 l j):i=j:=by
 rcases Nat.lt_trichotomy i j with c|c|c
 ·have:=H09 l (show i+1<=j from c);simp only[u5,hi,if_true]at this;omega
 ·exact c
 ·have:=H09 l (show j+1<=i from c);simp only[u5,hj,if_true]at this;omega
def T0z (l:List U0){p q n:Nat}(hq:q<n)(hk:(gt l (q:Int)).Kind=2)(hp:u5 l q=p):(D0z l p n).set q (p:Int)=D0z l (p+1) n:=by
 apply List.ext_getElem?;intro j
 by_cases hj:j<n
 ·rw[J0r l _ n j hj,List.getElem?_set]
  by_cases e:q=j
  ·subst e;simp[E0p,hj,hk,hp]
  ·rw[if_neg e,J0r l _ n j hj]
   by_cases k2:(gt l (j:Int)).Kind=2
   ·have:u5 l j≠p:=fun h=>e (Q01 l hk k2 (hp.trans h.symm));simp only[k2,true_and]
    by_cases c:u5 l j<p
    ·rw[if_pos c,if_pos (by omega)]
    ·rw[if_neg c,if_neg (by omega)]
   ·simp[k2]
 ·rw[List.getElem?_eq_none (by simp[E0p];omega),List.getElem?_eq_none (by simp[E0p];omega)]
def O09 (l:List U0):∀n,D0z l 0 n=List.replicate n (-1)
 |0=>rfl
 |n+1=>by simp[D0z,O09 l n,List.replicate_succ']
def Q0b (l:List U0)(n:Nat):D0z l (u5 l n) n=B00 l n:=by
 apply List.ext_getElem?;intro j
 by_cases hj:j<n
 ·rw[J0r l _ n j hj,J0Q l n j hj]
  by_cases k2:(gt l (j:Int)).Kind=2
  ·have:=H09 l (show j+1<=n from hj);simp only[u5,k2,if_true]at this;simp[k2];omega
  ·simp[k2]
 ·rw[List.getElem?_eq_none (by simp[E0p];omega),List.getElem?_eq_none (by simp[E0H];omega)]
def S0f {l:List U0}(hw:∀x∈l,l02 x){fuel:Nat}(hf:401<fuel):l0A fuel l=some (D09 l):=by
 unfold l0A D09;rw[E0b l hf,I0x hw hf];cases hR:e0M l with
 |false=>rfl
 |
  true=>
  obtain⟨t,ht⟩:=D0C hw hR;have h400:=ht.le;have hlen:=ht.len;have hmk:S5 8 (l.length:Int)=true:=by simp[S5];omega
  have e1:=j0K (step:=F0Z fuel l) (fun i=>(List.replicate i (-1)++List.replicate (l.length-i) 0,(i:Int))) (List.replicate l.length (-1)) l.length
   (fun i hi=>.inl (by
    have h1:(i:Int)<(l.length:Int):=by omega
    have hii:y0 (List.replicate i (-1:Int)++List.replicate (l.length-i) 0) (i:Int)=true:=B4 (by omega) (by simp;omega);unfold F0Z;simp only[List.length_replicate,toNat_natCast,h1,decide_true,if_true,hii,R2 (show i<9223372036854775807 by omega)];rw[G0O hi 0,H0a (by simp),List.replicate_succ'];simp)) (by unfold F0Z;simp) l.length 0 fuel (by omega) (by omega)
  have hLF:C0J l=e0L l l.length:=by simp[C0J,hR]
  have hle:=D06 l l.length;have e2:=j0K (step:=F0F fuel (List.replicate l.length (-1)) (e0L l l.length)) (fun p=>(D0z l p l.length,(p:Int))) (B00 l l.length) (u5 l l.length)
   (fun p hp=>.inl (by
    obtain⟨q,h1,h2,h3,h4⟩:=E0C l l.length p hp;have h5:(p:Int)<((e0L l l.length).length:Int):=by rw[C0e];omega
    have h6:y0 (e0L l l.length) (p:Int)=true:=B4 (by omega) h5;have h7:y0 (D0z l p l.length) (q:Int)=true:=B4 (by omega) (by rw[E0p];omega);unfold F0F;simp only[h5,decide_true,if_true,h6,Y5 h2,h7,toNat_natCast,T0z l h1 h3 h4,R2 (show p<9223372036854775807 by omega)])) (by unfold F0F;simp[C0e,Q0b]) (u5 l l.length) 0 fuel (by omega) (by omega)
  simp only[q0,hmk,toNat_natCast,hLF];simp only[List.replicate_zero,List.nil_append,sub_zero]at e1;rw[show((List.replicate l.length (0:Int)),(0:Int))=(List.replicate l.length 0,((0:Nat):Int))from rfl,e1,F1];rw[O09]at e2;rw[show((List.replicate l.length (-1:Int)),(0:Int))=(List.replicate l.length (-1),((0:Nat):Int))from rfl,e2];rfl
def N06 {l:List U0}(hw:∀x∈l,l02 x)(hl:l.length*64<=140737488351232){fuel:Nat}(hf:401<fuel)(hf2:l.length+1<fuel):D0x fuel l=some (D09 l):=by
 unfold D0x D09;rw[D0v l hl hf2];cases hR:e0M l with
 |false=>rfl
 |
  true=>
  obtain⟨t,ht⟩:=D0C hw hR;have h400:=ht.le;have hlen:=ht.len;have hmk:S5 8 (l.length:Int)=true:=by simp[S5];omega
  have e1:=j0K (step:=F0D fuel l) (fun i=>(B00 l i++List.replicate (l.length-i) 0,(u5 l i:Int),(i:Int))) (B00 l l.length) l.length
   (fun i hi=>.inl (by
    have h1:(i:Int)<(l.length:Int):=by omega
    have hin:y0 l (i:Int)=true:=B4 (by omega) (by omega);have hle:=D06 l i;have hii:∀(y:Int) m,y0 (B00 l i++y :: m) (i:Int)=true:=fun y m=>B4 (by omega) (by simp[E0H];omega);have hset:∀(x y:Int) m,(B00 l i++x :: m).set i y=B00 l i++y :: m:=fun x y m=>H0a (E0H l i).symm;unfold F0D;rw[G0O hi 0];simp only[h1,decide_true,if_true,hii,hin,toNat_natCast,hset,R2 (show i<9223372036854775807 by omega),R2 (show u5 l i<9223372036854775807 by omega),B00,u5]
    by_cases k2:(gt l (i:Int)).Kind=2<;>simp[k2])) (by unfold F0D;simp) l.length 0 fuel (by omega) (by omega)
  simp only[q0,hmk,toNat_natCast];simp only[B00,u5,List.nil_append,sub_zero]at e1;rw[show((List.replicate l.length (0:Int)),(0:Int),(0:Int))=(List.replicate l.length 0,((0:Nat):Int),((0:Nat):Int))from rfl,e1];rfl
def C0X (u:List Int)(lo:Nat):Tm->Prop
 |.eps=>True
 |.leaf _=>True
 |.cat a b=>gt u (a.top lo:Int)=(Tm.top (.cat a b) lo:Int)/\gt u (b.top (lo+a.size):Int)=(Tm.top (.cat a b) lo:Int)/\C0X u lo a/\C0X u (lo+a.size) b
 |.alt a b=>gt u (a.top lo:Int)=(Tm.top (.alt a b) lo:Int)/\gt u (b.top (lo+a.size):Int)=(Tm.top (.alt a b) lo:Int)/\C0X u lo a/\C0X u (lo+a.size) b
 |.star a=>gt u (a.top lo:Int)=(Tm.top (.star a) lo:Int)/\C0X u lo a
 |.maybe a=>gt u (a.top lo:Int)=(Tm.top (.maybe a) lo:Int)/\C0X u lo a
 |.group n a=>gt u (a.top lo:Int)=(Tm.top (.group n a) lo:Int)/\C0X u lo a
 |.iter a=>gt u (a.top lo:Int)=(Tm.top (.iter a) lo:Int)/\C0X u lo a
def C0X.congr {u v:List Int}:∀{s:Tm} {lo:Nat},(∀j:Nat,lo<=j->j<s.top lo->gt v (j:Int)=gt u (j:Int))->C0X u lo s->C0X v lo s:=by
 intro s
 induction s with
 |eps=>intros;trivial
 |leaf s=>intros;trivial
 |
  cat a b iha ihb=>
  intro lo h hu;have:=a.size_pos;have:=b.size_pos;simp only[Tm.top,Tm.size]at h;obtain⟨h1,h2,h3,h4⟩:=hu;exact⟨by rw[h _ (by unfold Tm.top;omega) (by unfold Tm.top;omega)];exact h1,by rw[h _ (by unfold Tm.top;omega) (by unfold Tm.top;omega)];exact h2,
   iha (fun j j1 j2=>h j j1 (by unfold Tm.top at j2;omega)) h3,ihb (fun j j1 j2=>h j (by omega) (by unfold Tm.top at j2;omega)) h4⟩
 |
  alt a b iha ihb=>
  intro lo h hu;have:=a.size_pos;have:=b.size_pos;simp only[Tm.top,Tm.size]at h;obtain⟨h1,h2,h3,h4⟩:=hu;exact⟨by rw[h _ (by unfold Tm.top;omega) (by unfold Tm.top;omega)];exact h1,by rw[h _ (by unfold Tm.top;omega) (by unfold Tm.top;omega)];exact h2,
   iha (fun j j1 j2=>h j j1 (by unfold Tm.top at j2;omega)) h3,ihb (fun j j1 j2=>h j (by omega) (by unfold Tm.top at j2;omega)) h4⟩
 |
  star a iha|maybe a iha|group _ a iha|iter a iha=>
  intro lo h hu;have:=a.size_pos;simp only[Tm.top,Tm.size]at h;obtain⟨h1,h3⟩:=hu;exact⟨by rw[h _ (by unfold Tm.top;omega) (by unfold Tm.top;omega)];exact h1,iha (fun j j1 j2=>h j j1 (by unfold Tm.top at j2;omega)) h3⟩
def D0n (l:List U0)(o:List Int)(i:Nat):List Int:=
 let x:=gt l (i:Int)
 let o1:=if 0<=x.A then o.set x.A.toNat i else o
 if 0<=x.B then o1.set x.B.toNat i else o1
def upR (l:List U0)(lo:Nat):Nat->List Int->List Int
 |0,o=>o
 |k+1,o=>D0n l (upR l lo k o) (lo+k)
def S0W (l:List U0)(o:List Int)(i:Nat):(D0n l o i).length=o.length:=by
 unfold D0n;simp only;repeat' split
 all_goals simp
def E0o (l:List U0)(lo:Nat)(o:List Int):∀k,(upR l lo k o).length=o.length
 |0=>rfl
 |k+1=>by simp[upR,S0W,E0o l lo o k]
def O0p (l:List U0)(lo a:Nat)(o:List Int):∀b,upR l lo (a+b) o=upR l (lo+a) b (upR l lo a o)
 |0=>rfl
 |b+1=>by rw[<-Nat.add_assoc];simp only[upR,O0p l lo a o b,Nat.add_assoc]
def C06 {α:Type}[Inhabited α]{o:List α}{i j:Nat}{x:α}(h:i≠j):gt (o.set i x) (j:Int)=gt o (j:Int):=by
 unfold gt;rw[List.getD_eq_getElem?_getD,List.getD_eq_getElem?_getD,toNat_natCast,List.getElem?_set_ne h]
def E0c {α:Type}[Inhabited α]{o:List α}{i:Nat}{x:α}(h:i<o.length):gt (o.set i x) (i:Int)=x:=Y5 (by simp[h])
def O0I {l:List U0}:∀{s:Tm} {lo:Nat},At l lo s->∀o:List Int,lo+s.size<=o.length->
  (∀j:Nat,(j<lo\/s.top lo<=j)->gt (upR l lo s.size o) (j:Int)=gt o (j:Int))/\C0X (upR l lo s.size o) lo s:=by
 intro s
 induction s with
 |
  eps=>
  intro lo h o ho;refine⟨fun j hj=>?_,trivial⟩;have hg:=h.A0h;simp only[Tm.top,Tm.size,add_sub_cancel]at hg;simp[upR,Tm.size,D0n,hg,Tm.node]
 |
  leaf s=>
  intro lo h o ho;refine⟨fun j hj=>?_,trivial⟩;have hg:=h.A0h;simp only[Tm.top,Tm.size,add_sub_cancel]at hg;simp[upR,Tm.size,D0n,hg,Tm.node]
 |
  cat a b iha ihb|alt a b iha ihb=>
  intro lo h o ho;have hg:=h.A0h;obtain⟨ha,hb,_⟩:=(At.bin rfl rfl).1 h;have:=a.size_pos;have:=b.size_pos;simp only[Tm.size]at ho;obtain⟨a1,a2⟩:=iha ha o (by omega);obtain⟨b1,b2⟩:=ihb hb (upR l lo a.size o) (by rw[E0o];omega);have e:upR l lo (a.size+b.size+1) o=D0n l (upR l (lo+a.size) b.size (upR l lo a.size o)) (lo+(a.size+b.size)):=by simp only[upR,O0p]
  simp only[Tm.size,e];generalize hv:upR l (lo+a.size) b.size (upR l lo a.size o)=v at *;have hvl:v.length=o.length:=by rw[<-hv,E0o,E0o]
  have hi:lo+(a.size+b.size)=lo+(a.size+b.size+1)-1:=by omega
  have hs:D0n l v (lo+(a.size+b.size))=(v.set (a.top lo) ((lo+(a.size+b.size):Nat):Int)).set (b.top (lo+a.size)) ((lo+(a.size+b.size):Nat):Int):=by
   simp only[Tm.top,Tm.size]at hg;rw[<-hi]at hg;generalize lo+(a.size+b.size)=i at hg ⊢;unfold D0n;simp only[hg,Tm.node];simp
  rw[hs];have ta:a.top lo=lo+a.size-1:=rfl;have tb:b.top (lo+a.size)=lo+a.size+b.size-1:=rfl;refine⟨fun j hj=>?_,?_⟩
  ·simp only[Tm.top,Tm.size]at hj;rw[C06 (by omega),C06 (by omega),b1 j (by omega),a1 j (by omega)]
  ·have tt:lo+(a.size+b.size)=lo+(a.size+b.size+1)-1:=by omega
   refine⟨?_,?_,?_,?_⟩
   ·rw[C06 (by omega),E0c (by omega)];simp only[Tm.top,Tm.size,tt]
   ·rw[E0c (by simp;omega)];simp only[Tm.top,Tm.size,tt]
   ·exact a2.congr fun j j1 j2=>by rw[C06 (by omega),C06 (by omega),b1 j (by omega)]
   ·exact b2.congr fun j j1 j2=>by rw[C06 (by omega),C06 (by omega)]
 |
  star a iha|maybe a iha|group _ a iha|iter a iha=>
  intro lo h o ho;have hg:=h.A0h;obtain⟨ha,_⟩:=(At.un rfl rfl).1 h;have:=a.size_pos;simp only[Tm.size]at ho;obtain⟨a1,a2⟩:=iha ha o (by omega);simp only[Tm.size,upR];generalize hv:upR l lo a.size o=v at *;have hvl:v.length=o.length:=by rw[<-hv,E0o]
  have hs:D0n l v (lo+a.size)=v.set (a.top lo) ((lo+a.size:Nat):Int):=by
   simp only[Tm.top,Tm.size]at hg;rw[show lo+(a.size+1)-1=lo+a.size from by omega]at hg;generalize lo+a.size=i at hg ⊢;unfold D0n;simp only[hg,Tm.node];simp
  rw[hs];have ta:a.top lo=lo+a.size-1:=rfl;refine⟨fun j hj=>?_,?_⟩
  ·simp only[Tm.top,Tm.size]at hj;rw[C06 (by omega),a1 j (by omega)]
  ·have tt:lo+a.size=lo+(a.size+1)-1:=by omega
   refine⟨?_,?_⟩
   ·rw[E0c (by omega)];simp only[Tm.top,Tm.size,tt]
   ·exact a2.congr fun j j1 j2=>by rw[C06 (by omega)]
structure UpT (u:List Int)(t:Tm):Prop where
 len:u.length=t.size
 root:gt u (t.top 0:Int)=-1
 inner:C0X u 0 t
def M0K {l:List U0}{t:Tm}(ht:n4 l t){o:List Int}(ho:o.length=l.length){i:Nat}(hi:i<l.length)(fuel:Nat)(y:List Int):
  F0k fuel l (o,(i:Int))=some (.next (D0n l o i,((i+1:Nat):Int)))/\F0a fuel l y (o,(i:Int))=some (.next (D0n l o i,((i+1:Nat):Int))):=by
 have h400:=ht.le;have hlen:=ht.len;have h1:(i:Int)<(l.length:Int):=by omega
 have hin:y0 l (i:Int)=true:=B4 (by omega) (by omega);have hWi:W ((i:Int)+1)=((i+1:Nat):Int):=R2 (by omega);have hib:∀(o:List Int) (z:Nat),o.length=l.length->z<i->y0 o (z:Int)=true:=fun o z h h2=>B4 (by omega) (by omega);obtain⟨lo,s,hat,hs⟩:=ht.node hi;have hg:=hat.A0h;rw[hs]at hg;unfold F0k F0a D0n;cases s with
 |eps=>simp[h1,hin,hWi,hg,Tm.node]
 |leaf s=>simp[h1,hin,hWi,hg,Tm.node]
 |
  cat a b|alt a b=>
  have:=a.size_pos;have:=b.size_pos;have pa:a.top lo<i:=by rw[<-hs];simp only[Tm.top,Tm.size];omega
  have pb:b.top (lo+a.size)<i:=by rw[<-hs];simp only[Tm.top,Tm.size];omega
  simp[h1,hin,hWi,hg,Tm.node,hib o _ ho pa,hib (o.set (a.top lo) (i:Int)) _ (by simpa using ho) pb]
 |
  star a|maybe a|group _ a|iter a=>
  have:=a.size_pos;have pa:a.top lo<i:=by rw[<-hs];simp only[Tm.top,Tm.size];omega
  simp[h1,hin,hWi,hg,Tm.node,hib o _ ho pa]
def K0v {l:List U0}{t:Tm}(ht:n4 l t)(hR:e0M l=true){fuel:Nat}(hf:401<fuel):∃u,d0T fuel l=some u/\UpT u t:=by
 have h400:=ht.le;have hlen:=ht.len;have hp:=t.size_pos;have hmk:S5 8 (l.length:Int)=true:=by simp[S5];omega
 have hW:W ((l.length:Int)-1)=((l.length-1:Nat):Int):=by rw[c0R (by omega) (by omega)];omega
 let o:List Int:=(List.replicate l.length (0:Int)).set (l.length-1) (-1)
 have ho:o.length=l.length:=by simp[o]
 have e:=j0K (step:=F0k fuel l) (fun i=>(upR l 0 i o,(i:Int))) (upR l 0 l.length o) l.length
  (fun i hi=>.inl (by have:=(M0K ht (o:=upR l 0 i o) (by rw[E0o,ho]) hi fuel []).1;rw[this];simp[upR])) (by unfold F0k;simp) l.length 0 fuel (by omega) (by omega)
 refine⟨upR l 0 l.length o,?_,?_⟩
 ·unfold d0T;rw[E0b l hf,hR];have hin:y0 (List.replicate l.length (0:Int)) ((l.length-1:Nat):Int)=true:=B4 (by omega) (by simp;omega);simp only[q0,hmk,toNat_natCast,hW,hin];simp only[upR]at e;rw[show((List.replicate l.length (0:Int)).set (l.length-1) (-1),(0:Int))=(o,((0:Nat):Int))from rfl,e];rfl
 ·obtain⟨p1,p2⟩:=O0I ht.at0 o (by omega);rw[hlen];refine⟨by rw[E0o,ho,hlen],?_,p2⟩;rw[p1 _ (.inr (le_refl _)),show t.top 0=l.length-1 from by unfold Tm.top;omega];exact E0c (by simp;omega)
def N0R {l:List U0}{t:Tm}(ht:n4 l t)(hR:e0M l=true){fuel:Nat}(hf:401<fuel):∃u,D0E fuel l=some u/\UpT u t:=by
 have h400:=ht.le;have hlen:=ht.len;have hp:=t.size_pos;have hmk:S5 8 (l.length:Int)=true:=by simp[S5];omega
 let o:List Int:=List.replicate l.length (-1)
 have ho:o.length=l.length:=by simp[o]
 have e1:=j0K (step:=G0q fuel l) (fun i=>(List.replicate i (-1)++List.replicate (l.length-i) 0,(i:Int))) (List.replicate l.length (-1)) l.length
   (fun i hi=>.inl (by
    have h1:(i:Int)<(l.length:Int):=by omega
    have hii:y0 (List.replicate i (-1:Int)++List.replicate (l.length-i) 0) (i:Int)=true:=B4 (by omega) (by simp;omega);unfold G0q;simp only[toNat_natCast,h1,decide_true,if_true,hii,R2 (show i<9223372036854775807 by omega)];rw[G0O hi 0,H0a (by simp),List.replicate_succ'];simp)) (by unfold G0q;simp) l.length 0 fuel (by omega) (by omega)
 have e:=j0K (step:=F0a fuel l o) (fun i=>(upR l 0 i o,(i:Int))) (upR l 0 l.length o) l.length
  (fun i hi=>.inl (by have:=(M0K ht (o:=upR l 0 i o) (by rw[E0o,ho]) hi fuel o).2;rw[this];simp[upR])) (by unfold F0a;simp) l.length 0 fuel (by omega) (by omega)
 refine⟨upR l 0 l.length o,?_,?_⟩
 ·unfold D0E;rw[D0v l (fuel:=fuel) (by omega) (by omega),hR];simp only[q0,hmk,toNat_natCast];simp only[List.replicate_zero,List.nil_append,sub_zero]at e1;rw[show((List.replicate l.length (0:Int)),(0:Int))=(List.replicate l.length 0,((0:Nat):Int))from rfl,e1,F1];simp only[upR]at e;rw[show((List.replicate l.length (-1:Int)),(0:Int))=(o,((0:Nat):Int))from rfl,e];rfl
 ·obtain⟨p1,p2⟩:=O0I ht.at0 o (by omega);rw[hlen];refine⟨by rw[E0o,ho,hlen],?_,p2⟩;rw[p1 _ (.inr (le_refl _)),show t.top 0=l.length-1 from by unfold Tm.top;omega];have hl1:l.length-1<l.length:=by omega
  exact Y5 (by simp only[o,List.getElem?_replicate,hl1,if_true])
def C0U (d:List Int)(lo:Nat)(k:Nat):Tm->Prop
 |.eps=>gt d (lo:Int)=k
 |.leaf _=>gt d (lo:Int)=k
 |.cat a b=>gt d (Tm.top (.cat a b) lo:Int)=k/\C0U d lo (k+1) a/\C0U d (lo+a.size) (k+1) b
 |.alt a b=>gt d (Tm.top (.alt a b) lo:Int)=k/\C0U d lo (k+1) a/\C0U d (lo+a.size) (k+1) b
 |.star a=>gt d (Tm.top (.star a) lo:Int)=k/\C0U d lo (k+1) a
 |.maybe a=>gt d (Tm.top (.maybe a) lo:Int)=k/\C0U d lo (k+1) a
 |.group n a=>gt d (Tm.top (.group n a) lo:Int)=k/\C0U d lo (k+1) a
 |.iter a=>gt d (Tm.top (.iter a) lo:Int)=k/\C0U d lo (k+1) a
def C0U.top {d:List Int}{lo k:Nat}{s:Tm}(h:C0U d lo k s):gt d (s.top lo:Int)=k:=by
 cases s<;>first|exact h|exact h.1
def C0U.of {d u:List Int}:∀{s:Tm} {lo k:Nat},C0X u lo s->gt d (s.top lo:Int)=k->(∀j p:Nat,lo<=j->j<s.top lo->gt u (j:Int)=p->gt d (j:Int)=gt d (p:Int)+1)->C0U d lo k s:=by
 intro s
 induction s with
 |eps=>intro lo k _ h _;exact h
 |leaf s=>intro lo k _ h _;exact h
 |
  cat a b iha ihb|alt a b iha ihb=>
  intro lo k hu h hs;obtain⟨h1,h2,h3,h4⟩:=hu;have:=a.size_pos;have:=b.size_pos;simp only[Tm.top,Tm.size]at hs;have sa:=hs _ _ (show lo<=a.top lo by unfold Tm.top;omega) (by unfold Tm.top;omega) h1;have sb:=hs _ _ (show lo<=b.top (lo+a.size) by unfold Tm.top;omega) (by unfold Tm.top;omega) h2;refine⟨h,iha h3 (by rw[sa,h];rfl) fun j p j1 j2 j3=>hs j p j1 (by unfold Tm.top at j2;omega) j3,ihb h4 (by rw[sb,h];rfl) fun j p j1 j2 j3=>hs j p (by omega) (by unfold Tm.top at j2;omega) j3⟩
 |
  star a iha|maybe a iha|group _ a iha|iter a iha=>
  intro lo k hu h hs;obtain⟨h1,h3⟩:=hu;have:=a.size_pos;simp only[Tm.top,Tm.size]at hs;have sa:=hs _ _ (show lo<=a.top lo by unfold Tm.top;omega) (by unfold Tm.top;omega) h1;exact⟨h,iha h3 (by rw[sa,h];rfl) fun j p j1 j2 j3=>hs j p j1 (by unfold Tm.top at j2;omega) j3⟩
def C0X.behind {u:List Int}:∀{s:Tm} {lo:Nat},C0X u lo s->∀j:Nat,lo<=j->j<s.top lo->∃p:Nat,gt u (j:Int)=p/\j<p/\p<=s.top lo:=by
 intro s
 induction s with
 |eps=>intro lo _ j h1 h2;simp[Tm.top,Tm.size]at h2;omega
 |leaf s=>intro lo _ j h1 h2;simp[Tm.top,Tm.size]at h2;omega
 |
  cat a b iha ihb|alt a b iha ihb=>
  intro lo hu j j1 j2;obtain⟨h1,h2,h3,h4⟩:=hu;have:=a.size_pos;have:=b.size_pos;simp only[Tm.top,Tm.size]at j2 ⊢;rcases Nat.lt_trichotomy j (a.top lo)with c|c|c
  ·obtain⟨p,p1,p2,p3⟩:=iha h3 j j1 c;exact⟨p,p1,p2,by unfold Tm.top at p3;omega⟩
  ·subst c;exact⟨_,h1,by simp only[Tm.top,Tm.size];omega,by simp only[Tm.top,Tm.size];omega⟩
  ·rcases Nat.lt_or_ge j (b.top (lo+a.size))with c2|c2
   ·obtain⟨p,p1,p2,p3⟩:=ihb h4 j (by unfold Tm.top at c;omega) c2;exact⟨p,p1,p2,by unfold Tm.top at p3;omega⟩
   ·obtain rfl:j=b.top (lo+a.size):=by unfold Tm.top at *;omega
    exact⟨_,h2,by simp only[Tm.top,Tm.size];omega,by simp only[Tm.top,Tm.size];omega⟩
 |
  star a iha|maybe a iha|group _ a iha|iter a iha=>
  intro lo hu j j1 j2;obtain⟨h1,h3⟩:=hu;have:=a.size_pos;simp only[Tm.top,Tm.size]at j2 ⊢;rcases Nat.lt_or_ge j (a.top lo)with c|c
  ·obtain⟨p,p1,p2,p3⟩:=iha h3 j j1 c;exact⟨p,p1,p2,by unfold Tm.top at p3;omega⟩
  ·obtain rfl:j=a.top lo:=by unfold Tm.top at *;omega
   exact⟨_,h1,by simp only[Tm.top,Tm.size];omega,by simp only[Tm.top,Tm.size];omega⟩
def F0K (u o:List Int)(i:Nat):List Int:=if 0<=gt u (i:Int)then o.set i (gt o (gt u (i:Int))+1)else o.set i 1
structure D0y (d:List Int)(t:Tm):Prop where
 len:d.length=t.size
 deep:C0U d 0 1 t
def J01 {u:List Int}{t:Tm}(hu:UpT u t){step:List Int×Int->Option (T0 (List Int×Int) (List Int))}(hd:∀o:List Int,step (o,-1)=some (.done o))
  (hs:∀(o:List Int) (i:Nat),o.length=t.size->i<t.size->(∀p:Nat,gt u (i:Int)=p->i<p/\p<t.size/\1<=gt o (p:Int)/\gt o (p:Int)<=t.size)->(gt u (i:Int)<0\/∃p:Nat,gt u (i:Int)=p)->step (o,(i:Int))=some (.next (F0K u o i,(i:Int)-1))):
  ∀(k:Nat) (o:List Int),o.length=t.size->k<=t.size->(∀j:Nat,k<=j->j<t.size->1<=gt o (j:Int)/\gt o (j:Int)<=(t.size-j:Nat))->(k<t.size->gt o (t.top 0:Int)=1)->
   (∀j p:Nat,k<=j->j<t.top 0->gt u (j:Int)=p->gt o (j:Int)=gt o (p:Int)+1)->∀m,k<m->∃d,iter step m (o,(k:Int)-1)=some d/\D0y d t
 |
  0,o,h1,_,h3,h4,h5,m,hm=>by
  obtain⟨m,rfl⟩:∃q,m=q+1:=⟨m-1,by omega⟩
  have:=t.size_pos;refine⟨o,by unfold iter;rw[show((0:Nat):Int)-1=-1 from rfl,hd],h1,C0U.of hu.inner (h4 (by omega)) fun j p j1 j2 j3=>h5 j p j1 j2 j3⟩
 |
  k+1,o,h1,h2,h3,h4,h5,m,hm=>by
  obtain⟨m,rfl⟩:∃q,m=q+1:=⟨m-1,by omega⟩
  have hpos:=t.size_pos;have htop:t.top 0=t.size-1:=by unfold Tm.top;omega
  have hcase:(k=t.size-1/\gt u (k:Int)=-1)\/∃p:Nat,gt u (k:Int)=p/\k<p/\p<t.size/\k<t.top 0:=by
   by_cases e:k=t.size-1
   ·exact .inl ⟨e,by rw[e,<-htop];exact hu.root⟩
   ·obtain⟨p,p1,p2,p3⟩:=hu.inner.behind k (Nat.zero_le _) (by omega);exact .inr ⟨p,p1,p2,by omega,by omega⟩
  have hst:=hs o k h1 (by omega) (fun p hp=>by
   rcases hcase with⟨_,e⟩|⟨q,q1,q2,q3,_⟩
   ·omega
   ·obtain rfl:p=q:=by omega
    have:=h3 p (by omega) q3;exact⟨q2,q3,this.1,by omega⟩) (by rcases hcase with⟨_,e⟩|⟨q,q1,_⟩;exact .inl (by omega);exact .inr ⟨q,q1⟩)
  rw[show(((k+1:Nat):Int)-1)=(k:Int)from by omega];unfold iter;rw[hst];have hk1:(1:Int)<=((t.size-k:Nat):Int):=by omega
  have hv:∃v:Int,F0K u o k=o.set k v/\1<=v/\v<=(t.size-k:Nat)/\(k=t.top 0->v=1)/\∀p:Nat,gt u (k:Int)=p->v=gt o (p:Int)+1:=by
   rcases hcase with⟨e1,e⟩|⟨q,q1,q2,q3,q4⟩
   ·exact⟨1,by simp[F0K,e],Int.le_refl _,hk1,fun _=>rfl,fun p hp=>by rw[e]at hp;omega⟩
   ·have:=h3 q (by omega) q3;exact⟨gt o (q:Int)+1,by simp[F0K,q1],by omega,by omega,fun h=>by omega,fun p hp=>by rw[show p=q from by omega]⟩
  obtain⟨v,v1,v2,v3,v4,v5⟩:=hv;rw[v1];refine J01 hu hd hs k (o.set k v) (by simpa using h1) (by omega) (fun j j1 j2=>?_) (fun _=>?_) (fun j p j1 j2 j3=>?_) m (by omega)
  ·by_cases e:j=k
   ·subst e;rw[E0c (by omega)];exact⟨v2,v3⟩
   ·rw[C06 (by omega)];exact h3 j (by omega) j2
  ·by_cases e:k=t.top 0
   ·rw[<-e,E0c (by omega)];exact v4 e
   ·rw[C06 e];clear hcase v5;exact h4 (by omega)
  ·obtain⟨p',p1,p2,p3⟩:=hu.inner.behind j (Nat.zero_le _) j2;obtain rfl:p=p':=by omega
   by_cases e:j=k
   ·subst e;rw[E0c (by omega),C06 (by omega)];exact v5 p j3
   ·rw[C06 (by omega),C06 (by omega)];exact h5 j p (by omega) j2 j3
def I0G {l:List U0}{t:Tm}(ht:n4 l t)(hR:e0M l=true){fuel:Nat}(hf:401<fuel):∃d,i0V fuel l=some d/\D0y d t:=by
 obtain⟨u,e,hu⟩:=K0v ht hR hf;have h400:=ht.le;have hp:=t.size_pos;have hul:=hu.len;have hmk:S5 8 (u.length:Int)=true:=by simp[S5];omega
 have hW:W ((u.length:Int)-1)=(t.size:Int)-1:=by rw[c0R (by omega) (by omega)];omega
 unfold i0V;rw[e];simp only[F1,hmk,if_true,toNat_natCast,hW];obtain⟨d,h1,h2⟩:=J01 hu (step:=F0P fuel u) (fun o=>by unfold F0P;simp) (fun o i h1 h2 h3 h4=>by
  have hin:y0 o (i:Int)=true:=B4 (by omega) (by omega);have hiu:y0 u (i:Int)=true:=B4 (by omega) (by omega);have h0:(i:Int)>=0:=by omega
  have hWi:W ((i:Int)-1)=(i:Int)-1:=c0R (by omega) (by omega);unfold F0P F0K;rcases h4 with h4|⟨p,h4⟩
  ·have:¬gt u (i:Int)>=0:=by omega
   simp[hin,hiu,this,hWi]
  ·obtain⟨q1,q2,q3,q4⟩:=h3 p h4;have i1:y0 (o.set i 1) (p:Int)=true:=B4 (by omega) (by simp;omega);have i2:y0 (o.set i 1) (i:Int)=true:=B4 (by omega) (by simp;omega);have hW2:W (1+gt o (p:Int))=gt o (p:Int)+1:=by rw[c0R (by omega) (by omega)];omega
   simp[hin,hiu,h4,i1,i2,hWi,E0c (show i<o.length by omega),C06 (show i≠p by omega),hW2]) t.size (List.replicate u.length 0) (by simp[hul]) (le_refl _) (fun j j1 j2=>by omega) (fun h=>by omega) (fun j p j1 j2=>by unfold Tm.top at j2;omega) fuel (by omega)
 exact⟨d,by rw[h1];rfl,h2⟩
def N0p {l:List U0}{t:Tm}(ht:n4 l t)(hR:e0M l=true){fuel:Nat}(hf:401<fuel):∃d,D0D fuel l=some d/\D0y d t:=by
 obtain⟨u,e,hu⟩:=N0R ht hR hf;have h400:=ht.le;have hp:=t.size_pos;have hul:=hu.len;have hmk:S5 8 (u.length:Int)=true:=by simp[S5];omega
 have hW:W ((u.length:Int)-1)=(t.size:Int)-1:=by rw[c0R (by omega) (by omega)];omega
 unfold D0D;rw[e];simp only[F1,hmk,if_true,toNat_natCast,hW];obtain⟨d,h1,h2⟩:=J01 hu (step:=F0B fuel u) (fun o=>by unfold F0B;simp) (fun o i h1 h2 h3 h4=>by
  have hin:y0 o (i:Int)=true:=B4 (by omega) (by omega);have hiu:y0 u (i:Int)=true:=B4 (by omega) (by omega);have h0:(i:Int)>=0:=by omega
  have hWi:W ((i:Int)-1)=(i:Int)-1:=c0R (by omega) (by omega);unfold F0B F0K;rcases h4 with h4|⟨p,h4⟩
  ·have:¬gt u (i:Int)>=0:=by omega
   simp[hin,hiu,this,hWi]
  ·obtain⟨q1,q2,q3,q4⟩:=h3 p h4;have i1:y0 (o.set i 1) (p:Int)=true:=B4 (by omega) (by simp;omega);have i2:y0 (o.set i 1) (i:Int)=true:=B4 (by omega) (by simp;omega);have hW2:W (gt o (p:Int)+1)=gt o (p:Int)+1:=c0R (by omega) (by omega);simp[hin,hiu,h4,i1,i2,hWi,C06 (show i≠p by omega),hW2]) t.size (List.replicate u.length 0) (by simp[hul]) (le_refl _) (fun j j1 j2=>by omega) (fun h=>by omega) (fun j p j1 j2=>by unfold Tm.top at j2;omega) fuel (by omega)
 exact⟨d,by rw[h1];rfl,h2⟩
def n3 (q:Nat):Int:=2*(q:Int)
def cls (q:Nat):Int:=2*(q:Int)+1
def Tm.steps (lo:Nat):Tm->List Int
 |.eps=>[n3 lo,cls lo]
 |.leaf _=>[n3 lo,cls lo]
 |.cat a b=>[n3 (Tm.top (.cat a b) lo)]++(a.steps lo++b.steps (lo+a.size))++[cls (Tm.top (.cat a b) lo)]
 |.alt a b=>[n3 (Tm.top (.alt a b) lo)]++(if a.can then a.steps lo else b.steps (lo+a.size))++[cls (Tm.top (.alt a b) lo)]
 |.star a=>[n3 (Tm.top (.star a) lo),cls (Tm.top (.star a) lo)]
 |.maybe a=>[n3 (Tm.top (.maybe a) lo),cls (Tm.top (.maybe a) lo)]
 |.group n a=>[n3 (Tm.top (.group n a) lo)]++a.steps lo++[cls (Tm.top (.group n a) lo)]
 |.iter a=>[n3 (Tm.top (.iter a) lo)]++a.steps lo++[cls (Tm.top (.iter a) lo)]
def Tm.C0W (t:Tm):∀lo,(t.steps lo).length<=2*t.size:=by
 induction t with
 |eps=>intro lo;simp[Tm.steps,Tm.size]
 |leaf s=>intro lo;simp[Tm.steps,Tm.size]
 |cat a b iha ihb=>intro lo;have:=iha lo;have:=ihb (lo+a.size);simp[Tm.steps,Tm.size];omega
 |alt a b iha ihb=>intro lo;have:=iha lo;have:=ihb (lo+a.size);simp only[Tm.steps,Tm.size];split<;>simp<;>omega
 |star a iha|maybe a iha=>intro lo;have:=iha lo;simp[Tm.steps,Tm.size];omega
 |group n a iha=>intro lo;have:=iha lo;simp[Tm.steps,Tm.size];omega
 |iter a iha=>intro lo;have:=iha lo;simp[Tm.steps,Tm.size];omega
def C0A {q:Nat}(h:q<=1000000000):W (2*(q:Int))=n3 q:=c0R (by omega) (by omega)
def C09 {q:Nat}(h:q<=1000000000):W (n3 q+1)=cls q:=c0R (by unfold n3;omega) (by unfold n3;omega)
def At.C0a {l:List U0}{lo:Nat}{s:Tm}(h:At l lo s):s.top lo<l.length:=by have:=h.len;have:=s.size_pos;unfold Tm.top;omega
structure M0c (l:List U0)(c:List Bool):Prop where
 len:c.length=l.length
 top:∀(s:Tm) (lo:Nat),At l lo s->gt c (s.top lo:Int)=s.can
def G0b {l:List U0}(hR:e0M l=true):M0c l (C0c l):=by
 simp only[C0c,hR,if_true];exact⟨E09 _ _,fun s lo h=>V0j h _ (by have:=h.len;have:=s.size_pos;unfold Tm.top;omega)⟩
def Q0v {l:List U0}{c:List Bool}(hc:M0c l c)(hl:l.length<=400)(fuel:Nat):∀(s:Tm) (lo:Nat),At l lo s->∀(k:Nat) (out:List Int),s.size<=k->out.length+2*s.size<=1000000000->
  a08 fuel k l c (s.top lo:Int) out=some (out++s.steps lo):=by
 intro s
 induction s with
 |
  eps|leaf _=>
  intro lo h k out hk ho;obtain⟨k,rfl⟩:∃q,k=q+1:=⟨k-1,by simp[Tm.size]at hk;omega⟩
  have hlen:=h.len;have hg:=h.A0h;simp only[Tm.size]at hlen ho;have hin:y0 l (lo:Int)=true:=B4 (by omega) (by omega);have ap1:∀x:Int,C1 8 out [x]=true:=fun x=>a7 (by simp;omega);have ap2:∀x y:Int,C1 8 (out++[x]) [y]=true:=fun x y=>a7 (by simp;omega);simp only[Tm.top,Tm.size,add_sub_cancel]at hg ⊢;unfold a08;simp[C0A (show lo<=1000000000 by omega),C09 (show lo<=1000000000 by omega),ap1,ap2,hin,hg,Tm.node,Tm.steps]
 |
  cat a b iha ihb=>
  intro lo h k out hk ho;obtain⟨k,rfl⟩:∃q,k=q+1:=⟨k-1,by simp[Tm.size]at hk;omega⟩
  have hlen:=h.len;have hg:=h.A0h;obtain⟨ha,hb,_⟩:=(At.bin rfl rfl).1 h;have sa:=a.C0W lo;have sb:=b.C0W (lo+a.size);simp only[Tm.steps];simp only[Tm.size]at hlen ho hk;have htop:Tm.top (.cat a b) lo<l.length:=by simp only[Tm.top,Tm.size];omega
  generalize Tm.top (.cat a b) lo=r at *;have hin:y0 l (r:Int)=true:=B4 (by omega) (by omega);have ap1:C1 8 out [n3 r]=true:=a7 (by simp;omega);unfold a08;simp only[C0A (show r<=1000000000 by omega),ap1,if_true,hin,hg,Tm.node];have e1:=iha lo ha k (out++[n3 r]) (by omega) (by simp;omega);have e2:=ihb (lo+a.size) hb k (out++[n3 r]++a.steps lo) (by omega) (by simp;omega);have ap2:C1 8 (out++[n3 r]++a.steps lo++b.steps (lo+a.size)) [cls r]=true:=a7 (by simp;omega);simp only[beq_self_eq_true,if_true,e1,F1,e2,C09 (show r<=1000000000 by omega),ap2];simp
 |
  alt a b iha ihb=>
  intro lo h k out hk ho;obtain⟨k,rfl⟩:∃q,k=q+1:=⟨k-1,by simp[Tm.size]at hk;omega⟩
  have hlen:=h.len;have hg:=h.A0h;obtain⟨ha,hb,_⟩:=(At.bin rfl rfl).1 h;have sa:=a.C0W lo;have sb:=b.C0W (lo+a.size);simp only[Tm.steps];simp only[Tm.size]at hlen ho hk;have htop:Tm.top (.alt a b) lo<l.length:=by simp only[Tm.top,Tm.size];omega
  generalize Tm.top (.alt a b) lo=r at *;have hin:y0 l (r:Int)=true:=B4 (by omega) (by omega);have ap1:C1 8 out [n3 r]=true:=a7 (by simp;omega);have hia:y0 c (a.top lo:Int)=true:=B4 (by omega) (by rw[hc.len];unfold Tm.top;omega);unfold a08;simp only[C0A (show r<=1000000000 by omega),ap1,if_true,hin,hg,Tm.node,hia,hc.top a lo ha];have e1:=iha lo ha k (out++[n3 r]) (by omega) (by simp;omega);have e2:=ihb (lo+a.size) hb k (out++[n3 r]) (by omega) (by simp;omega);have ap2:C1 8 (out++[n3 r]++a.steps lo) [cls r]=true:=a7 (by simp;omega);have ap3:C1 8 (out++[n3 r]++b.steps (lo+a.size)) [cls r]=true:=a7 (by simp;omega);rw[show((4:Int)==3)=false from rfl,show((4:Int)==4)=true from rfl];cases a.can
  ·simp only[q0,e2,C09 (show r<=1000000000 by omega),ap3];simp
  ·simp only[q0,e1,C09 (show r<=1000000000 by omega),ap2];simp
 |
  star a iha|maybe a iha=>
  intro lo h k out hk ho;obtain⟨k,rfl⟩:∃q,k=q+1:=⟨k-1,by simp[Tm.size]at hk;omega⟩
  have hlen:=h.len;have hg:=h.A0h;simp only[Tm.steps];simp only[Tm.size]at hlen ho hk;have htop:=h.C0a;generalize Tm.top _ lo=r at *;have hin:y0 l (r:Int)=true:=B4 (by omega) (by omega);have ap1:∀x:Int,C1 8 out [x]=true:=fun x=>a7 (by simp;omega);have ap2:∀x y:Int,C1 8 (out++[x]) [y]=true:=fun x y=>a7 (by simp;omega);unfold a08;simp[C0A (show r<=1000000000 by omega),C09 (show r<=1000000000 by omega),ap1,ap2,hin,hg,Tm.node]
 |
  group n a iha|iter a iha=>
  intro lo h k out hk ho;obtain⟨k,rfl⟩:∃q,k=q+1:=⟨k-1,by simp[Tm.size]at hk;omega⟩
  have hlen:=h.len;have hg:=h.A0h;obtain⟨ha,_⟩:=(At.un rfl rfl).1 h;have sa:=a.C0W lo;simp only[Tm.steps];simp only[Tm.size]at hlen ho hk;have htop:=h.C0a;generalize Tm.top _ lo=r at *;have hin:y0 l (r:Int)=true:=B4 (by omega) (by omega);have ap1:C1 8 out [n3 r]=true:=a7 (by simp;omega);have e1:=iha lo ha k (out++[n3 r]) (by omega) (by simp;omega);have ap2:C1 8 (out++[n3 r]++a.steps lo) [cls r]=true:=a7 (by simp;omega);unfold a08;simp only[C0A (show r<=1000000000 by omega),ap1,if_true,hin,hg,Tm.node];simp[e1,C09 (show r<=1000000000 by omega)];simpa using ap2
def K0R {l:List U0}{c:List Bool}(hc:M0c l c)(hl:l.length<=400)(fuel:Nat):∀(s:Tm) (lo:Nat),At l lo s->∀(k:Nat),s.size<=k->
  B08 fuel k l c (s.top lo:Int)=some (s.steps lo):=by
 intro s
 induction s with
 |
  eps|leaf _=>
  intro lo h k hk;obtain⟨k,rfl⟩:∃q,k=q+1:=⟨k-1,by simp[Tm.size]at hk;omega⟩
  have hlen:=h.len;have hg:=h.A0h;simp only[Tm.size]at hlen;have hin:y0 l (lo:Int)=true:=B4 (by omega) (by omega);have ap2:∀x y:Int,C1 8 [x] [y]=true:=fun x y=>a7 (by simp);simp only[Tm.top,Tm.size,add_sub_cancel]at hg ⊢;unfold B08;simp[C0A (show lo<=1000000000 by omega),C09 (show lo<=1000000000 by omega),ap2,hin,hg,Tm.node,Tm.steps]
 |
  cat a b iha ihb=>
  intro lo h k hk;obtain⟨k,rfl⟩:∃q,k=q+1:=⟨k-1,by simp[Tm.size]at hk;omega⟩
  have hlen:=h.len;have hg:=h.A0h;obtain⟨ha,hb,_⟩:=(At.bin rfl rfl).1 h;have sa:=a.C0W lo;have sb:=b.C0W (lo+a.size);simp only[Tm.steps];simp only[Tm.size]at hlen hk;have htop:Tm.top (.cat a b) lo<l.length:=by simp only[Tm.top,Tm.size];omega
  generalize Tm.top (.cat a b) lo=r at *;have hin:y0 l (r:Int)=true:=B4 (by omega) (by omega);have e1:=iha lo ha k (by omega);have e2:=ihb (lo+a.size) hb k (by omega);have ap1:C1 8 [n3 r] (a.steps lo)=true:=a7 (by simp;omega);have ap2:C1 8 ([n3 r]++a.steps lo) (b.steps (lo+a.size))=true:=a7 (by simp;omega);have ap3:C1 8 (([n3 r]++a.steps lo)++b.steps (lo+a.size)) [cls r]=true:=a7 (by simp;omega);unfold B08;simp only[C0A (show r<=1000000000 by omega),if_true,hin,hg,Tm.node,beq_self_eq_true,e1,e2,F1,ap1,ap2,C09 (show r<=1000000000 by omega),ap3];simp
 |
  alt a b iha ihb=>
  intro lo h k hk;obtain⟨k,rfl⟩:∃q,k=q+1:=⟨k-1,by simp[Tm.size]at hk;omega⟩
  have hlen:=h.len;have hg:=h.A0h;obtain⟨ha,hb,_⟩:=(At.bin rfl rfl).1 h;have sa:=a.C0W lo;have sb:=b.C0W (lo+a.size);simp only[Tm.steps];simp only[Tm.size]at hlen hk;have htop:Tm.top (.alt a b) lo<l.length:=by simp only[Tm.top,Tm.size];omega
  generalize Tm.top (.alt a b) lo=r at *;have hin:y0 l (r:Int)=true:=B4 (by omega) (by omega);have hia:y0 c (a.top lo:Int)=true:=B4 (by omega) (by rw[hc.len];unfold Tm.top;omega);have e1:=iha lo ha k (by omega);have e2:=ihb (lo+a.size) hb k (by omega);have ap1:C1 8 [n3 r] (a.steps lo)=true:=a7 (by simp;omega);have ap1b:C1 8 [n3 r] (b.steps (lo+a.size))=true:=a7 (by simp;omega);have ap3:C1 8 ([n3 r]++a.steps lo) [cls r]=true:=a7 (by simp;omega);have ap4:C1 8 ([n3 r]++b.steps (lo+a.size)) [cls r]=true:=a7 (by simp;omega);unfold B08;simp only[C0A (show r<=1000000000 by omega),if_true,hin,hg,Tm.node,hia,hc.top a lo ha];rw[show((4:Int)==3)=false from rfl,show((4:Int)==4)=true from rfl];cases a.can
  ·simp only[q0,e2,ap1b,C09 (show r<=1000000000 by omega),ap4]
  ·simp only[q0,e1,ap1,C09 (show r<=1000000000 by omega),ap3]
 |
  star a iha|maybe a iha=>
  intro lo h k hk;obtain⟨k,rfl⟩:∃q,k=q+1:=⟨k-1,by simp[Tm.size]at hk;omega⟩
  have hlen:=h.len;have hg:=h.A0h;simp only[Tm.steps];simp only[Tm.size]at hlen hk;have htop:=h.C0a;generalize Tm.top _ lo=r at *;have hin:y0 l (r:Int)=true:=B4 (by omega) (by omega);have ap2:∀x y:Int,C1 8 [x] [y]=true:=fun x y=>a7 (by simp);unfold B08;simp[C0A (show r<=1000000000 by omega),C09 (show r<=1000000000 by omega),ap2,hin,hg,Tm.node]
 |
  group n a iha|iter a iha=>
  intro lo h k hk;obtain⟨k,rfl⟩:∃q,k=q+1:=⟨k-1,by simp[Tm.size]at hk;omega⟩
  have hlen:=h.len;have hg:=h.A0h;obtain⟨ha,_⟩:=(At.un rfl rfl).1 h;have sa:=a.C0W lo;simp only[Tm.steps];simp only[Tm.size]at hlen hk;have htop:=h.C0a;generalize Tm.top _ lo=r at *;have hin:y0 l (r:Int)=true:=B4 (by omega) (by omega);have e1:=iha lo ha k (by omega);have ap1:C1 8 [n3 r] (a.steps lo)=true:=a7 (by simp;omega);have ap2:C1 8 ([n3 r]++a.steps lo) [cls r]=true:=a7 (by simp;omega);unfold B08;simp only[C0A (show r<=1000000000 by omega),if_true,hin,hg,Tm.node];simp[e1,ap1,C09 (show r<=1000000000 by omega)];simpa using ap2
def K0S {l:List U0}(hw:∀x∈l,l02 x){t:Tm}(ht:n4 l t)(hR:e0M l=true){fuel:Nat}(hf:401<fuel){lo:Nat}{s:Tm}(h:At l lo s):
  g0H fuel l (s.top lo:Int)=some (if s.can then s.steps lo else[]):=by
 have h400:=ht.le;have hlen:=ht.len;have hsl:=h.len;have hp:=s.size_pos;have hc:=G0b hR;have htl:s.top lo<l.length:=by unfold Tm.top;omega
 have hn:¬((s.top lo:Int)>=((C0c l).length:Int)):=by rw[hc.len];omega
 have hn0:¬((s.top lo:Int)<0):=by omega
 have hin:y0 (C0c l) (s.top lo:Int)=true:=B4 (by omega) (by rw[hc.len];omega);unfold g0H;rw[N0u hw hf];simp only[q0,hn0,hn,hin,hc.top s lo h];cases s.can
 ·rfl
 ·rw[Q0v hc (by omega) fuel s lo h fuel [] (by omega) (by simp;omega)];rfl
def P0H {l:List U0}(hw:∀x∈l,l02 x){t:Tm}(ht:n4 l t)(hR:e0M l=true){fuel:Nat}(hf:401<fuel){lo:Nat}{s:Tm}(h:At l lo s):
  D0X fuel l (s.top lo:Int)=some (if s.can then s.steps lo else[]):=by
 have h400:=ht.le;have hlen:=ht.len;have hsl:=h.len;have hp:=s.size_pos;have hc:=G0b hR;have htl:s.top lo<l.length:=by unfold Tm.top;omega
 have hn:¬((s.top lo:Int)>=((C0c l).length:Int)):=by rw[hc.len];omega
 have hn0:¬((s.top lo:Int)<0):=by omega
 have hin:y0 (C0c l) (s.top lo:Int)=true:=B4 (by omega) (by rw[hc.len];omega);unfold D0X;rw[L0c hw (by omega) hf (by omega)];simp only[q0,hn0,hn,hin,hc.top s lo h];cases s.can
 ·rfl
 ·rw[K0R hc (by omega) fuel s lo h fuel (by omega)];rfl
