/- P. Its conditions: none. -/
import Derived.Test.YtihmgaccbcfgjaaGreatRG34
open Nat (add_assoc add_sub_cancel sub_zero)
open Bool (false_eq_true)
set_option linter.all false
theorem Go.J' {P:Prop}(h:P:=by unfold Tm.top;omega):P:=h
namespace Go.Proofs.YtihmgaccbcfgjaaGreat.Old
open Go.V Go.RowKit
def Q8 (u:List Int)(lo:Nat):Tm->Prop
 |.eps=>True
 |.leaf _=>True
 |.cat a b=>gt u (a.top lo:Int)=(Tm.top (.cat a b) lo:Int)/\gt u (b.top (lo+a.size):Int)=(Tm.top (.cat a b) lo:Int)/\Q8 u lo a/\Q8 u (lo+a.size) b
 |.alt a b=>gt u (a.top lo:Int)=(Tm.top (.alt a b) lo:Int)/\gt u (b.top (lo+a.size):Int)=(Tm.top (.alt a b) lo:Int)/\Q8 u lo a/\Q8 u (lo+a.size) b
 |.star a=>gt u (a.top lo:Int)=(Tm.top (.star a) lo:Int)/\Q8 u lo a
 |.maybe a=>gt u (a.top lo:Int)=(Tm.top (.maybe a) lo:Int)/\Q8 u lo a
 |.group n a=>gt u (a.top lo:Int)=(Tm.top (.group n a) lo:Int)/\Q8 u lo a
 |.iter a=>gt u (a.top lo:Int)=(Tm.top (.iter a) lo:Int)/\Q8 u lo a
def Q8.congr {u v:List Int}:∀{s:Tm} {lo:Nat},(∀j:Nat,lo<=j->j<s.top lo->gt v (j:Int)=gt u (j:Int))->Q8 u lo s->Q8 v lo s:=by
 intro s
 induction s with
 |eps=>intros;trivial
 |leaf s=>intros;trivial
 |cat a b c ihb=>
  intro lo h hu;have:=a.size_pos;have:=b.size_pos;simp only[Tm.top,Tm.size]at h;obtain⟨h1,i,f,g⟩:=hu;exact⟨by rw[h _ J' J'];exact h1,by rw[h _ J' J'];exact i,
   c (fun j e d=>h j e (by unfold Tm.top at d;omega)) f,ihb (fun j e d=>h j O' (by unfold Tm.top at d;omega)) g⟩
 |alt a b c ihb=>
  intro lo h hu;have:=a.size_pos;have:=b.size_pos;simp only[Tm.top,Tm.size]at h;obtain⟨h1,i,f,g⟩:=hu;exact⟨by rw[h _ J' J'];exact h1,by rw[h _ J' J'];exact i,
   c (fun j e d=>h j e (by unfold Tm.top at d;omega)) f,ihb (fun j e d=>h j O' (by unfold Tm.top at d;omega)) g⟩
 |star a c|maybe a c|group _ a c|iter a c=>
  intro lo h hu;have:=a.size_pos;simp only[Tm.top,Tm.size]at h;obtain⟨h1,f⟩:=hu;exact⟨by rw[h _ J' J'];exact h1,c (fun j e d=>h j e (by unfold Tm.top at d;omega)) f⟩
def a0w (l:List C0)(o:List Int)(i:Nat):List Int:=
 let x:=gt l (i:Int)
 let a:=if 0<=x.A then o.set x.A.toNat i else o
 if 0<=x.B then a.set x.B.toNat i else a
def W5 (l:List C0)(lo:Nat):Nat->List Int->List Int
 |0,o=>o
 |k+1,o=>a0w l (W5 l lo k o) (lo+k)
def F0G (l:List C0)(o:List Int)(i:Nat):(a0w l o i).length=o.length:=by
 unfold a0w;simp only;repeat' split
 all_goals simp
def e0g (l:List C0)(lo:Nat)(o:List Int):∀k,(W5 l lo k o).length=o.length
 |0=>rfl
 |k+1=>by simp[W5,F0G,e0g l lo o k]
def u0n (l:List C0)(lo a:Nat)(o:List Int):∀b,W5 l lo (a+b) o=W5 l (lo+a) b (W5 l lo a o)
 |0=>rfl
 |b+1=>by rw[<-add_assoc];simp only[W5,u0n l lo a o b,add_assoc]
theorem Y9 {α:Type}[Inhabited α]{o:List α}{i j:Nat}{x:α}(h:i≠j):gt (o.set i x) (j:Int)=gt o (j:Int):=by
 unfold gt;rw[List.getD_eq_getElem?_getD,List.getD_eq_getElem?_getD,Int.toNat_natCast,List.getElem?_set_ne h]
theorem d0x {α:Type}[Inhabited α]{o:List α}{i:Nat}{x:α}(h:i<o.length):gt (o.set i x) (i:Int)=x:=X2 (by simp[h])
def D0h {l:List C0}:∀{s:Tm} {lo:Nat},At l lo s->∀o:List Int,lo+s.size<=o.length->
  (∀j:Nat,(j<lo\/s.top lo<=j)->gt (W5 l lo s.size o) (j:Int)=gt o (j:Int))/\Q8 (W5 l lo s.size o) lo s:=by
 intro s
 induction s with
 |eps=>
  intro lo h o ho;refine⟨fun j d=>?_,trivial⟩;have hg:=h.N3;simp only[Tm.top,Tm.size,add_sub_cancel]at hg;simp[W5,Tm.size,a0w,hg,Tm.node]
 |leaf s=>
  intro lo h o ho;refine⟨fun j d=>?_,trivial⟩;have hg:=h.N3;simp only[Tm.top,Tm.size,add_sub_cancel]at hg;simp[W5,Tm.size,a0w,hg,Tm.node]
 |cat a b c f|alt a b c f=>
  intro lo h o ho;have hg:=h.N3;obtain⟨ha,t,_⟩:=(At.bin rfl rfl).1 h;have:=a.size_pos;have:=b.size_pos;simp only[Tm.size]at ho;obtain⟨k,a2⟩:=c ha o O';obtain⟨p,u⟩:=f t (W5 l lo a.size o) (by rw[e0g];omega);have e:W5 l lo (a.size+b.size+1) o=a0w l (W5 l (lo+a.size) b.size (W5 l lo a.size o)) (lo+(a.size+b.size)):=by simp only[W5,u0n]
  simp only[Tm.size,e];generalize m:W5 l (lo+a.size) b.size (W5 l lo a.size o)=v at *;have g:v.length=o.length:=by rw[<-m,e0g,e0g]
  have hi:lo+(a.size+b.size)=lo+(a.size+b.size+1)-1:=O'
  have hs:a0w l v (lo+(a.size+b.size))=(v.set (a.top lo) ((lo+(a.size+b.size):Nat):Int)).set (b.top (lo+a.size)) ((lo+(a.size+b.size):Nat):Int):=by
   simp only[Tm.top,Tm.size]at hg;rw[<-hi]at hg;generalize lo+(a.size+b.size)=i at hg ⊢;unfold a0w;simp only[hg,Tm.node];simp
  rw[hs];have r:a.top lo=lo+a.size-1:=rfl;have tb:b.top (lo+a.size)=lo+a.size+b.size-1:=rfl;refine⟨fun j d=>?_,?_⟩
  ·simp only[Tm.top,Tm.size]at d;rw[Y9 O',Y9 O',p j O',k j O']
  ·have tt:lo+(a.size+b.size)=lo+(a.size+b.size+1)-1:=O'
   refine⟨?_,?_,?_,?_⟩
   ·rw[Y9 O',d0x O'];simp only[Tm.top,Tm.size,tt]
   ·rw[d0x V'];simp only[Tm.top,Tm.size,tt]
   ·exact a2.congr fun j n q=>by rw[Y9 O',Y9 O',p j O']
   ·exact u.congr fun j n q=>by rw[Y9 O',Y9 O']
 |star a c|maybe a c|group _ a c|iter a c=>
  intro lo h o ho;have hg:=h.N3;obtain⟨ha,_⟩:=(At.un rfl rfl).1 h;have:=a.size_pos;simp only[Tm.size]at ho;obtain⟨k,a2⟩:=c ha o O';simp only[Tm.size,W5];generalize m:W5 l lo a.size o=v at *;have g:v.length=o.length:=by rw[<-m,e0g]
  have hs:a0w l v (lo+a.size)=v.set (a.top lo) ((lo+a.size:Nat):Int):=by
   simp only[Tm.top,Tm.size]at hg;rw[show lo+(a.size+1)-1=lo+a.size from O']at hg;generalize lo+a.size=i at hg ⊢;unfold a0w;simp only[hg,Tm.node];simp
  rw[hs];have r:a.top lo=lo+a.size-1:=rfl;refine⟨fun j d=>?_,?_⟩
  ·simp only[Tm.top,Tm.size]at d;rw[Y9 O',k j O']
  ·have tt:lo+a.size=lo+(a.size+1)-1:=O'
   refine⟨?_,?_⟩
   ·rw[d0x O'];simp only[Tm.top,Tm.size,tt]
   ·exact a2.congr fun j n q=>by rw[Y9 O']
structure UpT (u:List Int)(t:Tm):Prop where
 len:u.length=t.size
 root:gt u (t.top 0:Int)=-1
 inner:Q8 u 0 t
def G0h {l:List C0}{t:Tm}(f:I4 l t){o:List Int}(ho:o.length=l.length){i:Nat}(hi:i<l.length)(fuel:Nat):
  p0W fuel l ((i:Int),o)=some (.next (((i+1:Nat):Int),a0w l o i))/\p0F fuel l ((i:Int),o)=some (.next (((i+1:Nat):Int),a0w l o i)):=by
 have k:=f.le;have hlen:=f.len;have h1:(i:Int)<(l.length:Int):=O'
 have d:y0 l (i:Int)=true:=V0 O' O';have c:W ((i:Int)+1)=((i+1:Nat):Int):=X1 O';have e:∀(o:List Int) (z:Nat),o.length=l.length->z<i->y0 o (z:Int)=true:=fun o z h m=>V0 O' O';obtain⟨lo,s,j,hs⟩:=f.node hi;have hg:=j.N3;rw[hs]at hg;unfold p0W p0F a0w;cases s with
 |eps=>simp[h1,d,c,hg,Tm.node]
 |leaf s=>simp[h1,d,c,hg,Tm.node]
 |cat a b|alt a b=>
  have:=a.size_pos;have:=b.size_pos;have g:a.top lo<i:=by rw[<-hs];simp only[Tm.top,Tm.size];omega
  have pb:b.top (lo+a.size)<i:=by rw[<-hs];simp only[Tm.top,Tm.size];omega
  simp[h1,d,c,hg,Tm.node,e o _ ho g,e (o.set (a.top lo) (i:Int)) _ (by simpa using ho) pb]
 |star a|maybe a|group _ a|iter a=>
  have:=a.size_pos;have g:a.top lo<i:=by rw[<-hs];simp only[Tm.top,Tm.size];omega
  simp[h1,d,c,hg,Tm.node,e o _ ho g]
def p0m {l:List C0}{t:Tm}(a:I4 l t)(hR:L2 l=true){fuel:Nat}(g:401<fuel):∃u,a0l fuel l=some u/\UpT u t:=by
 have d:=a.le;have hlen:=a.len;have hp:=t.size_pos;have b:R2 8 (l.length:Int)=true:=by simp[R2];omega
 have f:W ((l.length:Int)-1)=((l.length-1:Nat):Int):=by rw[E3 O' O'];omega
 let o:List Int:=(List.replicate l.length (0:Int)).set (l.length-1) (-1)
 have ho:o.length=l.length:=by simp[o]
 have e:=H3 (step:=p0W fuel l) (fun i=>((i:Int),W5 l 0 i o)) (W5 l 0 l.length o) l.length
  (fun i hi=>.inl (by have:=(G0h a (o:=W5 l 0 i o) (by rw[e0g,ho]) hi fuel).1;rw[this];simp[W5])) (by unfold p0W;simp) l.length 0 fuel O' O'
 refine⟨W5 l 0 l.length o,?_,?_⟩
 ·unfold a0l;rw[c0y l g,hR];have c:y0 (List.replicate l.length (0:Int)) ((l.length-1:Nat):Int)=true:=V0 O' V';simp only[q0,b,Int.toNat_natCast,f,c];simp only[W5]at e;rw[show((0:Int),(List.replicate l.length (0:Int)).set (l.length-1) (-1))=(((0:Nat):Int),o)from rfl,e];rfl
 ·obtain⟨p1,h⟩:=D0h a.at0 o O';rw[hlen];refine⟨by rw[e0g,ho,hlen],?_,h⟩;rw[p1 _ (.inr (Nat.le_refl _)),show t.top 0=l.length-1 from J'];exact d0x V'
def B8 (d:List Int)(lo:Nat)(k:Nat):Tm->Prop
 |.eps=>gt d (lo:Int)=k
 |.leaf _=>gt d (lo:Int)=k
 |.cat a b=>gt d (Tm.top (.cat a b) lo:Int)=k/\B8 d lo (k+1) a/\B8 d (lo+a.size) (k+1) b
 |.alt a b=>gt d (Tm.top (.alt a b) lo:Int)=k/\B8 d lo (k+1) a/\B8 d (lo+a.size) (k+1) b
 |.star a=>gt d (Tm.top (.star a) lo:Int)=k/\B8 d lo (k+1) a
 |.maybe a=>gt d (Tm.top (.maybe a) lo:Int)=k/\B8 d lo (k+1) a
 |.group n a=>gt d (Tm.top (.group n a) lo:Int)=k/\B8 d lo (k+1) a
 |.iter a=>gt d (Tm.top (.iter a) lo:Int)=k/\B8 d lo (k+1) a
theorem B8.top {d:List Int}{lo k:Nat}{s:Tm}(h:B8 d lo k s):gt d (s.top lo:Int)=k:=by
 cases s<;>first|exact h|exact h.1
theorem B8.of {d u:List Int}:∀{s:Tm} {lo k:Nat},Q8 u lo s->gt d (s.top lo:Int)=k->(∀j p:Nat,lo<=j->j<s.top lo->gt u (j:Int)=p->gt d (j:Int)=gt d (p:Int)+1)->B8 d lo k s:=by
 intro s
 induction s with
 |eps=>intro lo k _ h _;exact h
 |leaf s=>intro lo k _ h _;exact h
 |cat a b c e|alt a b c e=>
  intro lo k hu h hs;obtain⟨h1,o,l,n⟩:=hu;have:=a.size_pos;have:=b.size_pos;simp only[Tm.top,Tm.size]at hs;have m:=hs _ _ (show lo<=a.top lo from J') J' h1;have q:=hs _ _ (show lo<=b.top (lo+a.size) from J') J' o;refine⟨h,c l (by rw[m,h];rfl) fun j p i g f=>hs j p i (by unfold Tm.top at g;omega) f,e n (by rw[q,h];rfl) fun j p i g f=>hs j p O' (by unfold Tm.top at g;omega) f⟩
 |star a c|maybe a c|group _ a c|iter a c=>
  intro lo k hu h hs;obtain⟨h1,l⟩:=hu;have:=a.size_pos;simp only[Tm.top,Tm.size]at hs;have m:=hs _ _ (show lo<=a.top lo from J') J' h1;exact⟨h,c l (by rw[m,h];rfl) fun j p i g f=>hs j p i (by unfold Tm.top at g;omega) f⟩
def Q8.behind {u:List Int}:∀{s:Tm} {lo:Nat},Q8 u lo s->∀j:Nat,lo<=j->j<s.top lo->∃p:Nat,gt u (j:Int)=p/\j<p/\p<=s.top lo:=by
 intro s
 induction s with
 |eps=>intro lo _ j h1 h;simp[Tm.top,Tm.size]at h;omega
 |leaf s=>intro lo _ j h1 h;simp[Tm.top,Tm.size]at h;omega
 |cat a b d f|alt a b d f=>
  intro lo hu j k l;obtain⟨h1,h,i,m⟩:=hu;have:=a.size_pos;have:=b.size_pos;simp only[Tm.top,Tm.size]at l ⊢;rcases Nat.lt_trichotomy j (a.top lo)with c|c|c
  ·obtain⟨p,p1,g,e⟩:=d i j k c;exact⟨p,p1,g,by unfold Tm.top at e;omega⟩
  ·subst c;exact⟨_,h1,N',N'⟩
  ·rcases Nat.lt_or_ge j (b.top (lo+a.size))with c2|c2
   ·obtain⟨p,p1,g,e⟩:=f m j (by unfold Tm.top at c;omega) c2;exact⟨p,p1,g,by unfold Tm.top at e;omega⟩
   ·obtain rfl:j=b.top (lo+a.size):=by unfold Tm.top at *;omega
    exact⟨_,h,N',N'⟩
 |star a d|maybe a d|group _ a d|iter a d=>
  intro lo hu j k l;obtain⟨h1,i⟩:=hu;have:=a.size_pos;simp only[Tm.top,Tm.size]at l ⊢;rcases Nat.lt_or_ge j (a.top lo)with c|c
  ·obtain⟨p,p1,g,e⟩:=d i j k c;exact⟨p,p1,g,by unfold Tm.top at e;omega⟩
  ·obtain rfl:j=a.top lo:=by unfold Tm.top at *;omega
   exact⟨_,h1,N',N'⟩
def h0a (u o:List Int)(i:Nat):List Int:=if 0<=gt u (i:Int)then o.set i (gt o (gt u (i:Int))+1)else o.set i 1
structure b02 (d:List Int)(t:Tm):Prop where
 len:d.length=t.size
 deep:B8 d 0 1 t
def v06 {u:List Int}{t:Tm}(hu:UpT u t){step:Int×List Int->Option (Q0 (Int×List Int) (List Int))}(hd:∀o:List Int,step (-1,o)=some (.done o))
  (hs:∀(o:List Int) (i:Nat),o.length=t.size->i<t.size->(∀p:Nat,gt u (i:Int)=p->i<p/\p<t.size/\1<=gt o (p:Int)/\gt o (p:Int)<=t.size)->(gt u (i:Int)<0\/∃p:Nat,gt u (i:Int)=p)->step ((i:Int),o)=some (.next ((i:Int)-1,h0a u o i))):
  ∀(k:Nat) (o:List Int),o.length=t.size->k<=t.size->(∀j:Nat,k<=j->j<t.size->1<=gt o (j:Int)/\gt o (j:Int)<=(t.size-j:Nat))->(k<t.size->gt o (t.top 0:Int)=1)->
   (∀j p:Nat,k<=j->j<t.top 0->gt u (j:Int)=p->gt o (j:Int)=gt o (p:Int)+1)->∀m,k<m->∃d,iter step m ((k:Int)-1,o)=some d/\b02 d t
 |0,o,h1,_,h3,h4,h5,m,hm=>by
  obtain⟨m,rfl⟩:∃q,m=q+1:=⟨m-1,O'⟩
  have:=t.size_pos;refine⟨o,by unfold iter;rw[show((0:Nat):Int)-1=-1 from rfl,hd],h1,B8.of hu.inner (h4 O') fun j p g b f=>h5 j p g b f⟩
 |k+1,o,h1,h2,h3,h4,h5,m,hm=>by
  obtain⟨m,rfl⟩:∃q,m=q+1:=⟨m-1,O'⟩
  have r:=t.size_pos;have c:t.top 0=t.size-1:=by unfold Tm.top;omega
  have a:(k=t.size-1/\gt u (k:Int)=-1)\/∃p:Nat,gt u (k:Int)=p/\k<p/\p<t.size/\k<t.top 0:=by
   by_cases e:k=t.size-1
   ·exact .inl ⟨e,by rw[e,<-c];exact hu.root⟩
   ·obtain⟨p,p1,s,w⟩:=hu.inner.behind k (Nat.zero_le _) O';exact .inr ⟨p,p1,s,O',O'⟩
  have l:=hs o k h1 O' (fun p hp=>by
   rcases a with⟨_,e⟩|⟨q,q1,q2,q3,_⟩
   ·omega
   ·obtain rfl:p=q:=O'
    have:=h3 p O' q3;exact⟨q2,q3,this.1,O'⟩) (by rcases a with⟨_,e⟩|⟨q,q1,_⟩;exact .inl O';exact .inr ⟨q,q1⟩)
  rw[show(((k+1:Nat):Int)-1)=(k:Int)from O'];unfold iter;rw[l];have n:(1:Int)<=((t.size-k:Nat):Int):=O'
  have x:∃v:Int,h0a u o k=o.set k v/\1<=v/\v<=(t.size-k:Nat)/\(k=t.top 0->v=1)/\∀p:Nat,gt u (k:Int)=p->v=gt o (p:Int)+1:=by
   rcases a with⟨y,e⟩|⟨q,q1,q2,q3,q4⟩
   ·exact⟨1,by simp[h0a,e],Int.le_refl _,n,fun _=>rfl,fun p hp=>by rw[e]at hp;omega⟩
   ·have:=h3 q O' q3;exact⟨gt o (q:Int)+1,by simp[h0a,q1],O',O',fun h=>O',fun p hp=>by rw[show p=q from O']⟩
  obtain⟨v,v1,v2,v3,v4,v5⟩:=x;rw[v1];refine v06 hu hd hs k (o.set k v) (by simpa using h1) O' (fun j g b=>?_) (fun _=>?_) (fun j p g b f=>?_) m O'
  ·by_cases e:j=k
   ·subst e;rw[d0x O'];exact⟨v2,v3⟩
   ·rw[Y9 O'];exact h3 j O' b
  ·by_cases e:k=t.top 0
   ·rw[<-e,d0x O'];exact v4 e
   ·rw[Y9 e];clear a v5;exact h4 O'
  ·obtain⟨p',p1,s,w⟩:=hu.inner.behind j (Nat.zero_le _) b;obtain rfl:p=p':=O'
   by_cases e:j=k
   ·subst e;rw[d0x O',Y9 O'];exact v5 p f
   ·rw[Y9 O',Y9 O'];exact h5 j p O' b f
def k0n {l:List C0}{t:Tm}(n:I4 l t)(hR:L2 l=true){fuel:Nat}(w:401<fuel):∃d,a0P fuel l=some d/\b02 d t:=by
 obtain⟨u,e,hu⟩:=p0m n hR w;have q:=n.le;have hp:=t.size_pos;have m:=hu.len;have k:R2 8 (u.length:Int)=true:=by simp[R2];omega
 have v:W ((u.length:Int)-1)=(t.size:Int)-1:=by rw[E3 O' O'];omega
 unfold a0P;rw[e];simp only[G0,k,if_true,Int.toNat_natCast,v];obtain⟨d,h1,r⟩:=v06 hu (step:=p0a fuel u) (fun o=>by unfold p0a;simp) (fun o i h1 r x a=>by
  have f:y0 o (i:Int)=true:=V0 O' O';have b:y0 u (i:Int)=true:=V0 O' O';have J:(i:Int)>=0:=O'
  have c:W ((i:Int)-1)=(i:Int)-1:=E3 O' O';unfold p0a h0a;rcases a with a|⟨p,a⟩
  ·have:¬gt u (i:Int)>=0:=O'
   simp[f,b,this,c]
  ·obtain⟨R,I,C,U⟩:=x p a;have z:y0 (o.set i 1) (p:Int)=true:=V0 O' V';have i2:y0 (o.set i 1) (i:Int)=true:=V0 O' V';have g:W (1+gt o (p:Int))=gt o (p:Int)+1:=by rw[E3 O' O'];omega
   simp[f,b,a,z,i2,c,d0x (show i<o.length from O'),Y9 (show i≠p from O'),g]) t.size (List.replicate u.length 0) (by simp[m]) (Nat.le_refl _) (fun j y s=>O') (fun h=>O') (fun j p y s=>by unfold Tm.top at s;omega) fuel O'
 exact⟨d,by rw[h1];rfl,r⟩
def E1 (q:Nat):Int:=2*(q:Int)
def cls (q:Nat):Int:=2*(q:Int)+1
def Tm.steps (lo:Nat):Tm->List Int
 |.eps=>[E1 lo,cls lo]
 |.leaf _=>[E1 lo,cls lo]
 |.cat a b=>[E1 (Tm.top (.cat a b) lo)]++(a.steps lo++b.steps (lo+a.size))++[cls (Tm.top (.cat a b) lo)]
 |.alt a b=>[E1 (Tm.top (.alt a b) lo)]++(if a.can then a.steps lo else b.steps (lo+a.size))++[cls (Tm.top (.alt a b) lo)]
 |.star a=>[E1 (Tm.top (.star a) lo),cls (Tm.top (.star a) lo)]
 |.maybe a=>[E1 (Tm.top (.maybe a) lo),cls (Tm.top (.maybe a) lo)]
 |.group n a=>[E1 (Tm.top (.group n a) lo)]++a.steps lo++[cls (Tm.top (.group n a) lo)]
 |.iter a=>[E1 (Tm.top (.iter a) lo)]++a.steps lo++[cls (Tm.top (.iter a) lo)]
def Tm.j9 (t:Tm):∀lo,(t.steps lo).length<=2*t.size:=by
 induction t with
 |eps=>simp[Tm.steps,Tm.size]
 |leaf s=>simp[Tm.steps,Tm.size]
 |cat a b c d=>grind [Tm.steps,Tm.size]
 |alt a b c d=>grind [Tm.steps,Tm.size]
 |star a c|maybe a c=>grind [Tm.steps,Tm.size]
 |group n a c=>grind [Tm.steps,Tm.size]
 |iter a c=>grind [Tm.steps,Tm.size]
def o7 {q:Nat}(h:q<=1000000000):W (2*(q:Int))=E1 q:=E3 O' O'
def a0h {q:Nat}(h:q<=1000000000):W (E1 q+1)=cls q:=E3 (by grind [E1]) (by grind [E1])
def At.V6 {l:List C0}{lo:Nat}{s:Tm}(h:At l lo s):s.top lo<l.length:=by have:=h.len;have:=s.size_pos;grind [Tm.top]
structure q0k (l:List C0)(c:List Bool):Prop where
 len:c.length=l.length
 top:∀(s:Tm) (lo:Nat),At l lo s->gt c (s.top lo:Int)=s.can
def f05 {l:List C0}(hR:L2 l=true):q0k l (M8 l):=by
 simp only[M8,hR,if_true];exact⟨f0k _ _,fun s lo h=>I0T h _ (by have:=h.len;have:=s.size_pos;grind [Tm.top])⟩
theorem D0p {l:List C0}{c:List Bool}(v:q0k l c)(hl:l.length<=400)(fuel:Nat):∀(s:Tm) (lo:Nat),At l lo s->∀(k:Nat) (out:List Int),s.size<=k->out.length+2*s.size<=1000000000->
  L6 fuel k l c (s.top lo:Int) out=some (out++s.steps lo):=by
 intro s
 induction s with
 |eps|leaf _=>
  intro lo h k out hk ho;obtain⟨k,rfl⟩:∃q,k=q+1:=⟨k-1,by simp_all[Tm.size]⟩
  have hlen:=h.len;have hg:=h.N3;simp only[Tm.size]at hlen ho;have f:y0 l (lo:Int)=true:=V0 O' O';have e:∀x:Int,K0 8 out [x]=true:=fun x=>B4 (by grind);have d:∀x y:Int,K0 8 (out++[x]) [y]=true:=fun x y=>B4 (by grind);simp only[Tm.top,Tm.size,add_sub_cancel]at hg ⊢;unfold L6;simp[o7 (show lo<=1000000000 from O'),a0h (show lo<=1000000000 from O'),e,d,f,hg,Tm.node,Tm.steps]
 |cat a b g ihb=>
  intro lo h k out hk ho;obtain⟨k,rfl⟩:∃q,k=q+1:=⟨k-1,by grind [Tm.size]⟩
  have hlen:=h.len;have hg:=h.N3;obtain⟨ha,p,_⟩:=(At.bin rfl rfl).1 h;have u:=a.j9 lo;have w:=b.j9 (lo+a.size);simp only[Tm.steps];simp only[Tm.size]at hlen ho hk;have i:Tm.top (.cat a b) lo<l.length:=by grind [Tm.top,Tm.size]
  generalize Tm.top (.cat a b) lo=r at *;have f:y0 l (r:Int)=true:=V0 O' O';have e:K0 8 out [E1 r]=true:=B4 (by grind);unfold L6;simp only[o7 (show r<=1000000000 from O'),e,if_true,f,hg,Tm.node];have j:=g lo ha k (out++[E1 r]) O' (by grind);have m:=ihb (lo+a.size) p k (out++[E1 r]++a.steps lo) O' (by grind);have d:K0 8 (out++[E1 r]++a.steps lo++b.steps (lo+a.size)) [cls r]=true:=B4 (by grind);simp only[beq_self_eq_true,if_true,j,G0,m,a0h (show r<=1000000000 from O'),d];simp
 |alt a b g ihb=>
  intro lo h k out hk ho;obtain⟨k,rfl⟩:∃q,k=q+1:=⟨k-1,by simp[Tm.size]at hk;omega⟩
  have hlen:=h.len;have hg:=h.N3;obtain⟨ha,p,_⟩:=(At.bin rfl rfl).1 h;have u:=a.j9 lo;have w:=b.j9 (lo+a.size);simp only[Tm.steps];simp only[Tm.size]at hlen ho hk;have i:Tm.top (.alt a b) lo<l.length:=by simp only[Tm.top,Tm.size];omega
  generalize Tm.top (.alt a b) lo=r at *;have f:y0 l (r:Int)=true:=V0 O' O';have e:K0 8 out [E1 r]=true:=B4 V';have t:y0 c (a.top lo:Int)=true:=V0 O' (by rw[v.len];unfold Tm.top;omega);unfold L6;simp only[o7 (show r<=1000000000 from O'),e,if_true,f,hg,Tm.node,t,v.top a lo ha];have j:=g lo ha k (out++[E1 r]) O' V';have m:=ihb (lo+a.size) p k (out++[E1 r]) O' V';have d:K0 8 (out++[E1 r]++a.steps lo) [cls r]=true:=B4 V';have o:K0 8 (out++[E1 r]++b.steps (lo+a.size)) [cls r]=true:=B4 V';rw[show((4:Int)==3)=false from rfl,show((4:Int)==4)=true from rfl];cases a.can
  ·simp only[q0,m,a0h (show r<=1000000000 from O'),o];simp
  ·simp only[q0,j,a0h (show r<=1000000000 from O'),d];simp
 |star a g|maybe a g=>
  intro lo h k out hk ho;obtain⟨k,rfl⟩:∃q,k=q+1:=⟨k-1,by simp[Tm.size]at hk;omega⟩
  have hlen:=h.len;have hg:=h.N3;simp only[Tm.steps];simp only[Tm.size]at hlen ho hk;have i:=h.V6;generalize Tm.top _ lo=r at *;have f:y0 l (r:Int)=true:=V0 O' O';have e:∀x:Int,K0 8 out [x]=true:=fun x=>B4 V';have d:∀x y:Int,K0 8 (out++[x]) [y]=true:=fun x y=>B4 V';unfold L6;simp[o7 (show r<=1000000000 from O'),a0h (show r<=1000000000 from O'),e,d,f,hg,Tm.node]
 |group n a g|iter a g=>
  intro lo h k out hk ho;obtain⟨k,rfl⟩:∃q,k=q+1:=⟨k-1,by simp[Tm.size]at hk;omega⟩
  have hlen:=h.len;have hg:=h.N3;obtain⟨ha,_⟩:=(At.un rfl rfl).1 h;have u:=a.j9 lo;simp only[Tm.steps];simp only[Tm.size]at hlen ho hk;have i:=h.V6;generalize Tm.top _ lo=r at *;have f:y0 l (r:Int)=true:=V0 O' O';have e:K0 8 out [E1 r]=true:=B4 V';have j:=g lo ha k (out++[E1 r]) O' V';have d:K0 8 (out++[E1 r]++a.steps lo) [cls r]=true:=B4 V';unfold L6;simp only[o7 (show r<=1000000000 from O'),e,if_true,f,hg,Tm.node];simp[j,a0h (show r<=1000000000 from O')];simpa using d
theorem s0X {l:List C0}{c:List Bool}(z:q0k l c)(hl:l.length<=400)(fuel:Nat):∀(s:Tm) (lo:Nat),At l lo s->∀(k:Nat),s.size<=k->
  R5 fuel k l c (s.top lo:Int)=some (s.steps lo):=by
 intro s
 induction s with
 |eps|leaf _=>
  intro lo h k hk;obtain⟨k,rfl⟩:∃q,k=q+1:=⟨k-1,by simp_all[Tm.size]⟩
  have hlen:=h.len;have hg:=h.N3;simp only[Tm.size]at hlen;have d:y0 l (lo:Int)=true:=V0 O' O';have f:∀x y:Int,K0 8 [x] [y]=true:=fun x y=>B4 Z';simp only[Tm.top,Tm.size,add_sub_cancel]at hg ⊢;unfold R5;simp[o7 (show lo<=1000000000 from O'),a0h (show lo<=1000000000 from O'),f,d,hg,Tm.node,Tm.steps]
 |cat a b e ihb=>
  intro lo h k hk;obtain⟨k,rfl⟩:∃q,k=q+1:=⟨k-1,by grind [Tm.size]⟩
  have hlen:=h.len;have hg:=h.N3;obtain⟨ha,u,_⟩:=(At.bin rfl rfl).1 h;have w:=a.j9 lo;have C:=b.j9 (lo+a.size);simp only[Tm.steps];simp only[Tm.size]at hlen hk;have g:Tm.top (.cat a b) lo<l.length:=by grind [Tm.top,Tm.size]
  generalize Tm.top (.cat a b) lo=r at *;have d:y0 l (r:Int)=true:=V0 O' O';have o:=e lo ha k O';have p:=ihb (lo+a.size) u k O';have i:K0 8 [E1 r] (a.steps lo)=true:=B4 (by grind);have f:K0 8 ([E1 r]++a.steps lo) (b.steps (lo+a.size))=true:=B4 (by grind);have j:K0 8 (([E1 r]++a.steps lo)++b.steps (lo+a.size)) [cls r]=true:=B4 (by grind);unfold R5;simp only[o7 (show r<=1000000000 from O'),if_true,d,hg,Tm.node,beq_self_eq_true,o,p,G0,i,f,a0h (show r<=1000000000 from O'),j];simp
 |alt a b e ihb=>
  intro lo h k hk;obtain⟨k,rfl⟩:∃q,k=q+1:=⟨k-1,by grind [Tm.size]⟩
  have hlen:=h.len;have hg:=h.N3;obtain⟨ha,u,_⟩:=(At.bin rfl rfl).1 h;have w:=a.j9 lo;have C:=b.j9 (lo+a.size);simp only[Tm.steps];simp only[Tm.size]at hlen hk;have g:Tm.top (.alt a b) lo<l.length:=by grind [Tm.top,Tm.size]
  generalize Tm.top (.alt a b) lo=r at *;have d:y0 l (r:Int)=true:=V0 O' O';have v:y0 c (a.top lo:Int)=true:=V0 O' (by rw[z.len];grind [Tm.top]);have o:=e lo ha k O';have p:=ihb (lo+a.size) u k O';have i:K0 8 [E1 r] (a.steps lo)=true:=B4 (by grind);have m:K0 8 [E1 r] (b.steps (lo+a.size))=true:=B4 (by grind);have j:K0 8 ([E1 r]++a.steps lo) [cls r]=true:=B4 (by grind);have t:K0 8 ([E1 r]++b.steps (lo+a.size)) [cls r]=true:=B4 V';unfold R5;simp only[o7 (show r<=1000000000 from O'),if_true,d,hg,Tm.node,v,z.top a lo ha];rw[show((4:Int)==3)=false from rfl,show((4:Int)==4)=true from rfl];cases a.can
  ·simp only[q0,p,m,a0h (show r<=1000000000 from O'),t]
  ·simp only[q0,o,i,a0h (show r<=1000000000 from O'),j]
 |star a e|maybe a e=>
  intro lo h k hk;obtain⟨k,rfl⟩:∃q,k=q+1:=⟨k-1,by simp[Tm.size]at hk;omega⟩
  have hlen:=h.len;have hg:=h.N3;simp only[Tm.steps];simp only[Tm.size]at hlen hk;have g:=h.V6;generalize Tm.top _ lo=r at *;have d:y0 l (r:Int)=true:=V0 O' O';have f:∀x y:Int,K0 8 [x] [y]=true:=fun x y=>B4 Z';unfold R5;simp[o7 (show r<=1000000000 from O'),a0h (show r<=1000000000 from O'),f,d,hg,Tm.node]
 |group n a e|iter a e=>
  intro lo h k hk;obtain⟨k,rfl⟩:∃q,k=q+1:=⟨k-1,by simp[Tm.size]at hk;omega⟩
  have hlen:=h.len;have hg:=h.N3;obtain⟨ha,_⟩:=(At.un rfl rfl).1 h;have w:=a.j9 lo;simp only[Tm.steps];simp only[Tm.size]at hlen hk;have g:=h.V6;generalize Tm.top _ lo=r at *;have d:y0 l (r:Int)=true:=V0 O' O';have o:=e lo ha k O';have i:K0 8 [E1 r] (a.steps lo)=true:=B4 V';have f:K0 8 ([E1 r]++a.steps lo) [cls r]=true:=B4 V';unfold R5;simp only[o7 (show r<=1000000000 from O'),if_true,d,hg,Tm.node];simp[o,i,a0h (show r<=1000000000 from O')];simpa using f
def p0O {l:List C0}(hw:∀x∈l,P2 x){t:Tm}(c:I4 l t)(hR:L2 l=true){fuel:Nat}(g:401<fuel){lo:Nat}{s:Tm}(h:At l lo s):
  a0e fuel l (s.top lo:Int)=some (if s.can then s.steps lo else[]):=by
 have d:=c.le;have hlen:=c.len;have f:=h.len;have hp:=s.size_pos;have e:=f05 hR;have i:s.top lo<l.length:=by grind [Tm.top]
 have hn:¬((s.top lo:Int)>=((M8 l).length:Int)):=by rw[e.len];omega
 have a:¬((s.top lo:Int)<0):=O'
 have b:y0 (M8 l) (s.top lo:Int)=true:=V0 O' O';unfold a0e;rw[n0E hw g];simp only[q0,a,hn,b,e.top s lo h]
 grind [D0p]
def H0F {l:List C0}(hw:∀x∈l,P2 x){t:Tm}(c:I4 l t)(hR:L2 l=true){fuel:Nat}(g:401<fuel){lo:Nat}{s:Tm}(h:At l lo s):
  c0Y fuel l (s.top lo:Int)=some (if s.can then s.steps lo else[]):=by
 have d:=c.le;have hlen:=c.len;have f:=h.len;have hp:=s.size_pos;have e:=f05 hR;have i:s.top lo<l.length:=by grind [Tm.top]
 have hn:¬((s.top lo:Int)>=((M8 l).length:Int)):=by rw[e.len];omega
 have a:¬((s.top lo:Int)<0):=O'
 have b:y0 (M8 l) (s.top lo:Int)=true:=V0 O' O';unfold c0Y;rw[t0D hw O' g O'];simp only[q0,a,hn,b,e.top s lo h]
 grind [s0X]
def Tm.Y0 (lo p:Nat)(ahead:List Int):Tm->List B0
 |.eps=>[]
 |.leaf _=>[⟨(p:Int),0,ahead++[E1 lo]⟩]
 |.cat a b=>a.Y0 lo p (ahead++[E1 (Tm.top (.cat a b) lo)])++(if a.can then b.Y0 (lo+a.size) (p+a.leaves) (ahead++[E1 (Tm.top (.cat a b) lo)]++a.steps lo)else[])
 |.alt a b=>a.Y0 lo p (ahead++[E1 (Tm.top (.alt a b) lo)])++b.Y0 (lo+a.size) (p+a.leaves) (ahead++[E1 (Tm.top (.alt a b) lo)])
 |.star a=>a.Y0 lo p (ahead++[E1 (Tm.top (.star a) lo)])
 |.maybe a=>a.Y0 lo p (ahead++[E1 (Tm.top (.maybe a) lo)])
 |.group n a=>a.Y0 lo p (ahead++[E1 (Tm.top (.group n a) lo)])
 |.iter a=>a.Y0 lo p (ahead++[E1 (Tm.top (.iter a) lo)])
def Tm.b0c (t:Tm):∀lo p ahead,(t.Y0 lo p ahead).length<=t.leaves:=by
 induction t with
 |eps=>simp[Tm.Y0]
 |leaf s=>simp[Tm.Y0,Tm.leaves]
 |cat a b c ihb=>
  grind [Tm.Y0,Tm.leaves]
 |alt a b c ihb=>
  grind [Tm.Y0,Tm.leaves]
 |star a c|maybe a c|group _ a c|iter a c=>intro lo p ahead;exact c _ _ _
def a0R {l:List C0}:∀{s:Tm} {lo:Nat},At l lo s->N0 l (lo+s.size)=N0 l lo+s.leaves:=by
 intro s
 induction s with
 |eps=>intro lo h;have hg:=h.N3;simp_all[Tm.top,Tm.size,N0,Tm.node,Tm.leaves]
 |leaf s=>intro lo h;have hg:=h.N3;simp_all[Tm.top,Tm.size,N0,Tm.node,Tm.leaves]
 |cat a b c d|alt a b c d=>
  intro lo h;have hg:=h.N3;obtain⟨ha,f,_⟩:=(At.bin rfl rfl).1 h;simp only[Tm.top,Tm.size]at hg;have e:lo+(a.size+b.size+1)-1=lo+a.size+b.size:=O'
  rw[e]at hg;simp only[Tm.size,<-add_assoc,N0,hg,Tm.node,Tm.leaves,d f,c ha];simp
 |star a c|maybe a c|group _ a c|iter a c=>
  intro lo h;have hg:=h.N3;obtain⟨ha,_⟩:=(At.un rfl rfl).1 h
  simp_all[Tm.top,Tm.size,N0,Tm.node,Tm.leaves]
def d0k {fuel:Nat}{a b:List Int}(h:(a.length+b.length)*8<=140737488355328):N8 fuel a b=some (a++b):=by
 simp_all[P3,G1,B4,N8]
def f0u {fuel:Nat}{a b:List Int}(h:(a.length+b.length)*8<=140737488355328):O9 fuel a b=some (a++b):=by
 grind [B4,O9]
structure h0E (c:L4)(l:List C0)(t:Tm):Prop where
 tl:c.l=l
 up:UpT c.up t
 deep:b02 c.deep t
 index:c.index=B7 l l.length
 can:c.can=M8 l
def t0i {l:List C0}{lo:Nat}{s:List Int}(h:At l lo (.leaf s)):y0 (B7 l l.length) (lo:Int)=true/\gt (B7 l l.length) (lo:Int)=(N0 l lo:Int):=by
 have hlen:=h.len;have hg:=h.N3;simp only[Tm.top,Tm.size,add_sub_cancel]at hg hlen;refine⟨V0 O' (by grind [d0s]),?_⟩;rw[X2 (m0u l l.length lo O'),hg];rfl
def p02 {l:List C0}(hw:∀x∈l,P2 x){t:Tm}(p:I4 l t)(hR:L2 l=true){c:L4}(y:h0E c l t){fuel:Nat}(U:401<fuel):
  ∀(s:Tm) (lo:Nat),At l lo s->∀(k:Nat) (ahead:List Int) (out:List B0),s.size<=k->ahead.length+1000*s.size<=1000000000->out.length+s.size<=1000000000->
   P5 fuel k c (s.top lo:Int) ahead out=some (out++s.Y0 lo (N0 l lo) ahead):=by
 have R:=p.le;have I:=p.len;have i:=y.tl;have u:=y.index;have v:=y.can;have j:=f05 hR;intro s
 induction s with
 |eps=>
  intro lo h k ahead out hk ho f;obtain⟨k,rfl⟩:∃q,k=q+1:=⟨k-1,by simp_all[Tm.size]⟩
  have e:=h.V6;have hg:=h.N3;generalize Tm.top _ lo=r at *;have d:y0 l (r:Int)=true:=V0 O' O';unfold P5;simp only[i,d,if_true,o7 (show r<=1000000000 from O'),d0k (fuel:=fuel) (a:=ahead) (b:=[E1 r]) (by grind),G0,hg,Tm.node];simp[Tm.Y0]
 |leaf s=>
  intro lo h k ahead out hk ho f;obtain⟨k,rfl⟩:∃q,k=q+1:=⟨k-1,by simp_all[Tm.size]⟩
  have e:=h.V6;have hg:=h.N3;obtain⟨i1,i2⟩:=t0i h;simp only[Tm.size]at ho f;simp only[Tm.top,Tm.size,add_sub_cancel]at hg e ⊢;have d:y0 l (lo:Int)=true:=V0 O' O';have w:∀x:B0,K0 40 out [x]=true:=fun x=>B4 (by grind);unfold P5;simp only[i,d,if_true,o7 (show lo<=1000000000 from O'),d0k (fuel:=fuel) (a:=ahead) (b:=[E1 lo]) (by grind),G0,hg,Tm.node,u,i1,i2,w];rfl
 |cat a b g ihb=>
  intro lo h k ahead out hk ho f;obtain⟨k,rfl⟩:∃q,k=q+1:=⟨k-1,by grind [Tm.size]⟩
  have e:=h.V6;have hlen:=h.len;have hg:=h.N3;obtain⟨ha,C,_⟩:=(At.bin rfl rfl).1 h;have sa:=a.j9 lo;have la:=a.b0c lo (N0 l lo) (ahead++[E1 (Tm.top (.cat a b) lo)]);have z:=a.b0r;simp only[Tm.Y0];simp only[Tm.size]at hlen ho f hk;generalize Tm.top (.cat a b) lo=r at *;have d:y0 l (r:Int)=true:=V0 O' O';have J:y0 (M8 l) (a.top lo:Int)=true:=V0 O' (by rw[j.len];have:=ha.V6;omega);have m:=g lo ha k (ahead++[E1 r]) out O' (by grind) O';have n:=ihb (lo+a.size) C k (ahead++[E1 r]++a.steps lo) (out++a.Y0 lo (N0 l lo) (ahead++[E1 r])) O' (by grind) (by grind);rw[a0R ha]at n;unfold P5;simp only[i,d,if_true,o7 (show r<=1000000000 from O'),d0k (fuel:=fuel) (a:=ahead) (b:=[E1 r]) (by grind),G0,hg,Tm.node,m,v,J,j.top a lo ha];rw[show((3:Int)==2)=false from rfl,show((3:Int)==3)=true from rfl];cases o:a.can
  ·simp
  ·simp only[false_eq_true,if_false,if_true,p0O hw p hR U ha,o,G0,d0k (fuel:=fuel) (a:=ahead++[E1 r]) (b:=a.steps lo) V',n];simp
 |alt a b g ihb=>
  intro lo h k ahead out hk ho f;obtain⟨k,rfl⟩:∃q,k=q+1:=⟨k-1,by simp[Tm.size]at hk;omega⟩
  have e:=h.V6;have hlen:=h.len;have hg:=h.N3;obtain⟨ha,C,_⟩:=(At.bin rfl rfl).1 h;have la:=a.b0c lo (N0 l lo) (ahead++[E1 (Tm.top (.alt a b) lo)]);have z:=a.b0r;simp only[Tm.Y0];simp only[Tm.size]at hlen ho f hk;generalize Tm.top (.alt a b) lo=r at *;have d:y0 l (r:Int)=true:=V0 O' O';have m:=g lo ha k (ahead++[E1 r]) out O' V' O';have n:=ihb (lo+a.size) C k (ahead++[E1 r]) (out++a.Y0 lo (N0 l lo) (ahead++[E1 r])) O' V' V';rw[a0R ha]at n;unfold P5;simp only[i,d,if_true,o7 (show r<=1000000000 from O'),d0k (fuel:=fuel) (a:=ahead) (b:=[E1 r]) V',G0,hg,Tm.node,m,n];simp
 |star a g|maybe a g|group _ a g|iter a g=>
  intro lo h k ahead out hk ho f;obtain⟨k,rfl⟩:∃q,k=q+1:=⟨k-1,by simp[Tm.size]at hk;omega⟩
  have e:=h.V6;have hlen:=h.len;have hg:=h.N3;obtain⟨ha,_⟩:=(At.un rfl rfl).1 h;simp only[Tm.Y0];simp only[Tm.size]at hlen ho f hk;generalize Tm.top _ lo=r at *;have d:y0 l (r:Int)=true:=V0 O' O';have m:=g lo ha k (ahead++[E1 r]) out O' V' O';unfold P5;simp only[i,d,if_true,o7 (show r<=1000000000 from O'),d0k (fuel:=fuel) (a:=ahead) (b:=[E1 r]) V',G0,hg,Tm.node,m];simp
def H0Z {l:List C0}{t:Tm}(v:I4 l t)(hR:L2 l=true){fuel:Nat}(I:401<fuel):
  ∀(s:Tm) (lo:Nat),At l lo s->∀(k:Nat) (ahead:List Int),s.size<=k->ahead.length+1000*s.size<=1000000000->
   D6 fuel k l (B7 l l.length) (M8 l) (s.top lo:Int) ahead=some (s.Y0 lo (N0 l lo) ahead):=by
 have w:=v.le;have p:=v.len;have f:=f05 hR;intro s
 induction s with
 |eps=>
  intro lo h k ahead hk ho;obtain⟨k,rfl⟩:∃q,k=q+1:=⟨k-1,by simp_all[Tm.size]⟩
  have d:=h.V6;have hg:=h.N3;generalize Tm.top _ lo=r at *;have c:y0 l (r:Int)=true:=V0 O' O';unfold D6;simp only[c,if_true,o7 (show r<=1000000000 from O'),f0u (fuel:=fuel) (a:=ahead) (b:=[E1 r]) (by grind),G0,hg,Tm.node];rfl
 |leaf s=>
  intro lo h k ahead hk ho;obtain⟨k,rfl⟩:∃q,k=q+1:=⟨k-1,by simp_all[Tm.size]⟩
  have d:=h.V6;have hg:=h.N3;obtain⟨y,i2⟩:=t0i h;simp only[Tm.size]at ho;simp only[Tm.top,Tm.size,add_sub_cancel]at hg d ⊢;have c:y0 l (lo:Int)=true:=V0 O' O';unfold D6;simp only[c,if_true,o7 (show lo<=1000000000 from O'),f0u (fuel:=fuel) (a:=ahead) (b:=[E1 lo]) (by grind),G0,hg,Tm.node,y,i2];rfl
 |cat a b e ihb=>
  intro lo h k ahead hk ho;obtain⟨k,rfl⟩:∃q,k=q+1:=⟨k-1,by grind [Tm.size]⟩
  have d:=h.V6;have hlen:=h.len;have hg:=h.N3;obtain⟨ha,o,_⟩:=(At.bin rfl rfl).1 h;have J:=a.j9 lo;have z:=a.b0c lo (N0 l lo) (ahead++[E1 (Tm.top (.cat a b) lo)]);have n:=a.b0r;have C:=b.b0c (lo+a.size) (N0 l lo+a.leaves) (ahead++[E1 (Tm.top (.cat a b) lo)]++a.steps lo);have m:=b.b0r;simp only[Tm.Y0];simp only[Tm.size]at hlen ho hk;generalize Tm.top (.cat a b) lo=r at *;have c:y0 l (r:Int)=true:=V0 O' O';have u:y0 (M8 l) (a.top lo:Int)=true:=V0 O' (by rw[f.len];have:=ha.V6;omega);have i:=e lo ha k (ahead++[E1 r]) O' (by grind);have j:=ihb (lo+a.size) o k (ahead++[E1 r]++a.steps lo) O' (by grind);rw[a0R ha]at j;unfold D6;simp only[c,if_true,o7 (show r<=1000000000 from O'),f0u (fuel:=fuel) (a:=ahead) (b:=[E1 r]) (by grind),G0,hg,Tm.node,i,u,f.top a lo ha];rw[show((3:Int)==2)=false from rfl,show((3:Int)==3)=true from rfl];cases x:a.can
  ·simp
  ·have g:K0 40 (a.Y0 lo (N0 l lo) (ahead++[E1 r])) (b.Y0 (lo+a.size) (N0 l lo+a.leaves) (ahead++[E1 r]++a.steps lo))=true:=B4 O';simp only[false_eq_true,if_false,if_true,s0X f O' fuel a lo ha fuel O',G0,f0u (fuel:=fuel) (a:=ahead++[E1 r]) (b:=a.steps lo) (by grind),j,g]
 |alt a b e ihb=>
  intro lo h k ahead hk ho;obtain⟨k,rfl⟩:∃q,k=q+1:=⟨k-1,by grind [Tm.size]⟩
  have d:=h.V6;have hlen:=h.len;have hg:=h.N3;obtain⟨ha,o,_⟩:=(At.bin rfl rfl).1 h;have z:=a.b0c lo (N0 l lo) (ahead++[E1 (Tm.top (.alt a b) lo)]);have n:=a.b0r;have C:=b.b0c (lo+a.size) (N0 l lo+a.leaves) (ahead++[E1 (Tm.top (.alt a b) lo)]);have m:=b.b0r;simp only[Tm.Y0];simp only[Tm.size]at hlen ho hk;generalize Tm.top (.alt a b) lo=r at *;have c:y0 l (r:Int)=true:=V0 O' O';have i:=e lo ha k (ahead++[E1 r]) O' (by grind);have j:=ihb (lo+a.size) o k (ahead++[E1 r]) O' (by grind);rw[a0R ha]at j;have g:K0 40 (a.Y0 lo (N0 l lo) (ahead++[E1 r])) (b.Y0 (lo+a.size) (N0 l lo+a.leaves) (ahead++[E1 r]))=true:=B4 O';unfold D6;simp only[c,if_true,o7 (show r<=1000000000 from O'),f0u (fuel:=fuel) (a:=ahead) (b:=[E1 r]) V',G0,hg,Tm.node,i,j,g];simp
 |star a e|maybe a e|group _ a e|iter a e=>
  intro lo h k ahead hk ho;obtain⟨k,rfl⟩:∃q,k=q+1:=⟨k-1,by simp[Tm.size]at hk;omega⟩
  have d:=h.V6;have hlen:=h.len;have hg:=h.N3;obtain⟨ha,_⟩:=(At.un rfl rfl).1 h;simp only[Tm.Y0];simp only[Tm.size]at hlen ho hk;generalize Tm.top _ lo=r at *;have c:y0 l (r:Int)=true:=V0 O' O';have i:=e lo ha k (ahead++[E1 r]) O' V';unfold D6;simp only[c,if_true,o7 (show r<=1000000000 from O'),f0u (fuel:=fuel) (a:=ahead) (b:=[E1 r]) V',G0,hg,Tm.node,i];simp
inductive Fr where
 |catL (b:Tm)|catR (a:Tm)|altL (b:Tm)|altR (a:Tm)|star|maybe|group (n:Int)|iter
def Fr.O2 (s:Tm):Fr->Tm
 |.catL b=>.cat s b|.catR a=>.cat a s|.altL b=>.alt s b|.altR a=>.alt a s
 |.star=>.star s|.maybe=>.maybe s|.group n=>.group n s|.iter=>.iter s
def Fr.off:Fr->Nat
 |.catR a=>a.size|.altR a=>a.size|_=>0
def Fr.W9:Fr->Nat
 |.catR a=>a.leaves|.altR a=>a.leaves|_=>0
def Ctx (t:Tm):Nat->Tm->List Fr->Prop
 |lo,s,[]=>lo=0/\s=t
 |lo,s,f :: fs=>f.off<=lo/\Ctx t (lo-f.off) (f.O2 s) fs
theorem Ctx.size {t:Tm}:∀{fs:List Fr} {lo:Nat} {s:Tm},Ctx t lo s fs->fs.length+s.size<=t.size
 |[],lo,s,⟨_,h⟩=>by simp_all
 |f :: fs,lo,s,⟨_,h⟩=>by
  have:=Ctx.size h;cases f<;>simp[Fr.O2,Tm.size]at this ⊢<;>omega
structure Part (l:List C0)(u d:List Int)(lo:Nat)(s:Tm)(k:Nat):Prop where
 at_:At l lo s
 up:Q8 u lo s
 deep:B8 d lo k s
def Ctx.part {l:List C0}{t:Tm}{u d:List Int}(i:I4 l t)(hu:UpT u t)(hd:b02 d t):∀{fs:List Fr} {lo:Nat} {s:Tm},Ctx t lo s fs->Part l u d lo s (fs.length+1)
 |[],lo,s,⟨h1,c⟩=>by subst h1;subst c;exact⟨i.at0,hu.inner,hd.deep⟩
 |f :: fs,lo,s,⟨ho,h⟩=>by
  obtain⟨h1,c,g⟩:=Ctx.part i hu hd h;cases f<;>simp only[Fr.O2,Fr.off,sub_zero]at h1 c g ho
  case catL b=>exact⟨((At.bin rfl rfl).1 h1).1,c.2.2.1,g.2.1⟩
  case altL b=>exact⟨((At.bin rfl rfl).1 h1).1,c.2.2.1,g.2.1⟩
  case catR a=>
   have e:lo-a.size+a.size=lo:=O'
   have:=((At.bin rfl rfl).1 h1).2.1;have g2:=c.2.2.2;have g3:=g.2.2;rw[e]at this g2 g3;exact⟨this,g2,g3⟩
  case altR a=>
   have e:lo-a.size+a.size=lo:=O'
   have:=((At.bin rfl rfl).1 h1).2.1;have g2:=c.2.2.2;have g3:=g.2.2;rw[e]at this g2 g3;exact⟨this,g2,g3⟩
  all_goals exact⟨((At.un rfl rfl).1 h1).1,c.2,g.2⟩
def Ctx.a0Z {l:List C0}{t:Tm}{u d:List Int}(c:I4 l t)(hu:UpT u t)(hd:b02 d t){f:Fr}{fs:List Fr}{lo:Nat}{s:Tm}(h:Ctx t lo s (f :: fs)):
  gt u (s.top lo:Int)=((f.O2 s).top (lo-f.off):Int):=by
 obtain⟨ho,h⟩:=h;obtain⟨h1,b,e⟩:=Ctx.part c hu hd h;cases f<;>simp only[Fr.O2,Fr.off,sub_zero]at h1 b e ho ⊢
 case catR a=>
  have:=b.2.1
  simp_all
 case altR a=>
  have:=b.2.1
  simp_all
 all_goals exact b.1
def Ctx.root {t:Tm}{u:List Int}(hu:UpT u t){lo:Nat}{s:Tm}(h:Ctx t lo s []):gt u (s.top lo:Int)=-1:=by
 obtain⟨rfl,rfl⟩:=h;exact hu.root
def Q7 (d:Int):List B0->List B0->List B0
 |out,[]=>out
 |out,h :: r=>Q7 d (if out.any (fun x=>x.To==h.To)then out else out++[⟨h.To,d,h.Steps⟩]) r
def f0U (d:Int):∀(r out:List B0),(Q7 d out r).length<=out.length+r.length
 |[],out=>by simp[Q7]
 |h :: r,out=>by
  simp only[Q7,List.length_cons];cases out.any (fun x=>x.To==h.To)with
  |true=>have:=f0U d r out;grind
  |false=>have:=f0U d r (out++[⟨h.To,d,h.Steps⟩]);grind
def V4 (lo p:Nat)(s:Tm)(st:List Int)(out:List B0):List Fr->List B0×List Int×Bool
 |[]=>(out,st,true)
 |.catL b :: fs=>
  if b.can then V4 lo p (.cat s b) (st++b.steps (lo+s.size)++[cls (Tm.top (.cat s b) lo)]) (Q7 (fs.length+1:Nat) out (b.Y0 (lo+s.size) (p+s.leaves) st)) fs
  else(Q7 (fs.length+1:Nat) out (b.Y0 (lo+s.size) (p+s.leaves) st),[],false)
 |.star :: fs=>V4 lo p (.star s) (st++[cls (Tm.top (.star s) lo)]) (Q7 (fs.length+1:Nat) out (s.Y0 lo p st)) fs
 |f :: fs=>V4 (lo-f.off) (p-f.W9) (f.O2 s) (st++[cls ((f.O2 s).top (lo-f.off))]) out fs
def E05 {l:List C0}{t:Tm}{u d:List Int}(b:I4 l t)(hu:UpT u t)(hd:b02 d t){f:Fr}{fs:List Fr}{lo:Nat}{s:Tm}(h:Ctx t lo s (f :: fs)):N0 l (lo-f.off)=N0 l lo-f.W9:=by
 obtain⟨ho,h⟩:=h;obtain⟨h1,e,c⟩:=Ctx.part b hu hd h;cases f<;>simp only[Fr.O2,Fr.off,Fr.W9,sub_zero]at h1 ho ⊢
 case catR a=>
  have:=a0R ((At.bin rfl rfl).1 h1).1
  simp_all
 case altR a=>
  have:=a0R ((At.bin rfl rfl).1 h1).1
  simp_all
def B0e (fuel:Nat)(Y0 out:List B0)(x:Int)(g:out.length<fuel)(hl:out.length<=1000000000):∃t,iter (l0P fuel Y0 out x) fuel 0=some t/\(match t with|.inr _=>out.any (fun y=>y.To==(gt Y0 x).To)=false|.inl r=>0<=r/\out.any (fun y=>y.To==(gt Y0 x).To)=true):=by
 have key:∀(k i:Nat),i+k=out.length->∀m,k<m->∃t,iter (l0P fuel Y0 out x) m (i:Int)=some t/\(match t with|.inr _=>(out.drop i).any (fun y=>y.To==(gt Y0 x).To)=false|.inl r=>0<=r/\(out.drop i).any (fun y=>y.To==(gt Y0 x).To)=true):=by
  intro k
  induction k with
  |zero=>
   intro i hi m hm;obtain⟨m,rfl⟩:∃q,m=q+1:=⟨m-1,O'⟩
   refine⟨.inr (),?_,?_⟩
   ·unfold iter l0P;have:¬((i:Int)<(out.length:Int)):=O'
    simp[this]
   ·rw[List.drop_of_length_le O'];rfl
  |succ k ih=>
   intro i hi m hm;obtain⟨m,rfl⟩:∃q,m=q+1:=⟨m-1,O'⟩
   have a:i<out.length:=O'
   have e:y0 out (i:Int)=true:=V0 O' O';have hg:gt out (i:Int)=out[i]:=X2 (by simp[a]);have hd:out.drop i=out[i] :: out.drop (i+1):=List.drop_eq_getElem_cons a;have b:(i:Int)<(out.length:Int):=O'
   have d:l0P fuel Y0 out x (i:Int)=if(out[i].To==(gt Y0 x).To)=true then some (.done (.inl (i:Int)))else some (.next ((i+1:Nat):Int)):=by
    unfold l0P;simp only[b,decide_true,if_true,e,hg,X1 (show i<9223372036854775807 from O')]
   unfold iter;rw[d]
   by_cases c:(out[i].To==(gt Y0 x).To)=true
   ·rw[if_pos c];exact⟨_,rfl,O',by rw[hd];simp only[List.any_cons,c,Bool.true_or]⟩
   ·rw[if_neg c];obtain⟨t,h1,f⟩:=ih (i+1) O' m O';refine⟨t,h1,?_⟩;rw[hd];have c':(out[i].To==(gt Y0 x).To)=false:=by simpa using c
    cases t with
    |inl _=>simp only[List.any_cons,c',Bool.false_or];exact f
    |inr r=>simp only[List.any_cons,c',Bool.false_or];exact f
 exact key out.length 0 O' fuel O'
def drop_cons {α:Type}[Inhabited α]{l:List α}{i:Nat}(h:i<l.length):l.drop i=gt l (i:Int) :: l.drop (i+1):=by
 rw[List.drop_eq_getElem_cons h,X2 (x:=l[i]) Z']
def t0q {fuel:Nat}{c:L4}{at_:Nat}{d:Int}{goal:Int}{st:List Int}{out hops:List B0}(a:P5 fuel fuel c goal st []=some hops)(hd:y0 c.deep (at_:Int)=true)(f:gt c.deep (at_:Int)=d)
  (p:out.length+hops.length<=1000000) (n:1000001<fuel):b0h fuel c (at_:Int) goal st out=some (Q7 d out hops):=by
 have key:∀(k i:Nat) (o:List B0),i+k=hops.length->o.length+k<=1000000->∀m,k<m->iter (q0C fuel c (at_:Int) hops) m (o,(i:Int))=some (Q7 d o (hops.drop i)):=by
  intro k
  induction k with
  |zero=>
   intro i o hi ho m hm;obtain⟨m,rfl⟩:∃q,m=q+1:=⟨m-1,O'⟩
   rw[List.drop_of_length_le O'];unfold iter q0C;have:¬((i:Int)<(hops.length:Int)):=O'
   simp[this,Q7]
  |succ k ih=>
   intro i o hi ho m hm;obtain⟨m,rfl⟩:∃q,m=q+1:=⟨m-1,O'⟩
   have h:i<hops.length:=O'
   have j:y0 hops (i:Int)=true:=V0 O' O';have b:(i:Int)<(hops.length:Int):=O'
   have g:∀x:B0,K0 40 o [x]=true:=fun x=>B4 V';have e:q0C fuel c (at_:Int) hops (o,(i:Int))=some (.next ((if o.any (fun x=>x.To==(gt hops (i:Int)).To)then o else o++[⟨(gt hops (i:Int)).To,d,(gt hops (i:Int)).Steps⟩]),((i+1:Nat):Int))):=by
    obtain⟨t,h1,l⟩:=B0e fuel hops o (i:Int) O' O';unfold q0C;simp only[q0,b,j,h1,hd,f,g,X1 (show i<9223372036854775807 from O')];cases t with
    |inl r=>rw[l.2];simp[l.1]
    |inr r=>rw[l];simp
   unfold iter;rw[e,drop_cons h];simp only[Q7];refine ih (i+1) _ O' ?_ m O';split
   ·omega
   ·simp only[List.length_append,List.length_cons,List.length_nil];omega
 unfold b0h;rw[a];simp only[G0];rw[show(0:Int)=((0:Nat):Int)from rfl,key hops.length 0 out O' O' fuel O'];simp
def E0E {l:List C0}(hw:∀x∈l,P2 x){t:Tm}(z:I4 l t)(hR:L2 l=true){c:L4}(k:h0E c l t){fuel:Nat}(hf:1000001<fuel):
  ∀(fs:List Fr) (lo:Nat) (s:Tm) (st:List Int) (out:List B0),Ctx t lo s fs->st.length+1000*fs.length<=500000->out.length+1000*fs.length<=500000->∀m,fs.length<m->
   ∃r,iter (l08 fuel c) m ((s.top lo:Int),st,out,gt c.up (s.top lo:Int))=some r/\
    (match r with|.inr (y1,y2)=>(y2,y1,true)|.inl z1=>(z1,[],false))=V4 lo (N0 l lo) s st out fs:=by
 have h3:=z.le;have c4:=z.len;have e5:=k.tl;have b5:=k.can;have U:=f05 hR;intro fs
 induction fs with
 |nil=>
  intro lo s st out y h1 h2 m hm;obtain⟨m,rfl⟩:∃q,m=q+1:=⟨m-1,O'⟩
  refine⟨.inr (st,out),?_,rfl⟩;rw[y.root k.up];unfold iter l08;simp
 |cons f fs ih=>
  intro lo s st out y h1 h2 m hm;obtain⟨m,rfl⟩:∃q,m=q+1:=⟨m-1,O'⟩
  have c5:=y.part z k.up k.deep;have g:=y.2.part z k.up k.deep;have R:=y.a0Z z k.up k.deep;have J:=y.2;have C:=E05 z k.up k.deep y;have e4:=y.size;simp only[List.length_cons]at h1 h2 hm e4;rw[R];have h0:=g.at_.V6;have hg:=g.at_.N3;have b2:=g.deep.top;generalize i:lo-f.off=lo' at *;generalize u:(f.O2 s).top lo'=r at *;have e6:y0 l (r:Int)=true:=V0 O' O';have b4:y0 c.up (r:Int)=true:=V0 O' (by rw[k.up.len];omega);have b3:y0 c.deep (r:Int)=true:=V0 O' (by rw[k.deep.len];omega);have c0:(r:Int)>=0:=O'
  have b1:W (W (2*(r:Int))+1)=cls r:=by rw[o7 O',a0h O']
  have next:∀(w:List Int) (v:List B0),w.length<=st.length+900->(Option.bind (N8 fuel w [W (W (2*(r:Int))+1)]) fun e3=>if y0 c.up (r:Int)=true then(some (.next ((r:Int),e3,v,gt c.up (r:Int))):Option (Q0 (Int×List Int×List B0×Int) ((List B0)⊕(List Int×List B0))))else none)=some (.next ((r:Int),w++[cls r],v,gt c.up (r:Int))):=fun w v hs=>by
   rw[b1,d0k (fuel:=fuel) (a:=w) (b:=[cls r]) V',b4];rfl
  have plain:∀(h6:List Fr),V4 lo (N0 l lo) s st out (f :: fs)=V4 lo' (N0 l lo') (f.O2 s) (st++[cls r]) out fs->l08 fuel c ((s.top lo:Int),st,out,(r:Int))=some (.next ((r:Int),st++[cls r],out,gt c.up (r:Int)))->
    ∃r',iter (l08 fuel c) (m+1) ((s.top lo:Int),st,out,(r:Int))=some r'/\(match r' with|.inr (y1,y2)=>(y2,y1,true)|.inl z1=>(z1,[],false))=V4 lo (N0 l lo) s st out (f :: fs):=fun _ e1 e2=>by
   unfold iter;rw[e1,e2];have:=ih lo' (f.O2 s) (st++[cls r]) out J V' O' m O';rw[u]at this;exact this
  have e:l08 fuel c ((s.top lo:Int),st,out,(r:Int))=l08 fuel c ((s.top lo:Int),st,out,(r:Int)):=rfl
  conv at e=>rhs;unfold l08
  simp only[c0,decide_true,if_true,e5,e6,hg]at e;cases f with
  |catL b=>
   simp only[Fr.O2,Fr.off,sub_zero]at i u hg g e;subst i;obtain⟨p,j,_⟩:=(At.bin rfl rfl).1 g.at_;have c6:=b.b0c (lo+s.size) (N0 l lo+s.leaves) st;have c8:=b.b0r;have h5:=b.j9 (lo+s.size);have e9:b.size<=400:=by have:=j.len;omega
   have h:=p02 hw z hR k (show 401<fuel from O') b (lo+s.size) j fuel st [] O' O' V';rw[a0R p,List.nil_append]at h;have o:=t0q (at_:=r) (d:=(fs.length+1:Nat)) (st:=st) (out:=out) h b3 b2 O' hf;have a1:y0 (M8 l) (b.top (lo+s.size):Int)=true:=V0 O' (by rw[U.len];have:=j.V6;omega);simp only[Tm.node,beq_self_eq_true,if_true,G0,o,b5,a1,U.top b _ j]at e;have c3:=f0U ((fs.length+1:Nat):Int) (b.Y0 (lo+s.size) (N0 l lo+s.leaves) st) out;simp only[V4];cases I:b.can with
   |false=>
    simp only[q0,I]at e;refine⟨_,by unfold iter;rw[e],?_⟩;simp
   |true=>
    simp only[q0,I,p0O hw z hR (show 401<fuel from O') j,d0k (fuel:=fuel) (a:=st) (b:=b.steps (lo+s.size)) O']at e;rw[next _ _ V']at e;unfold iter;rw[e];have:=ih lo (.cat s b) (st++b.steps (lo+s.size)++[cls r]) (Q7 ((fs.length+1:Nat):Int) out (b.Y0 (lo+s.size) (N0 l lo+s.leaves) st)) J V' O' m O';rw[u]at this;rw[if_pos rfl,u];exact this
  |star=>
   simp only[Fr.O2,Fr.off,sub_zero]at i u hg g e;subst i;obtain⟨p,_⟩:=(At.un rfl rfl).1 g.at_;have c6:=s.b0c lo (N0 l lo) st;have c8:=s.b0r;have e9:s.size<=400:=by have:=p.len;omega
   have h:=p02 hw z hR k (show 401<fuel from O') s lo p fuel st [] O' O' V';rw[List.nil_append]at h;have o:=t0q (at_:=r) (d:=(fs.length+1:Nat)) (st:=st) (out:=out) h b3 b2 O' hf;simp only[q0,Tm.node,show((5:Int)==3)=false from rfl,beq_self_eq_true,o]at e;rw[next _ _ O']at e;have c3:=f0U ((fs.length+1:Nat):Int) (s.Y0 lo (N0 l lo) st) out;simp only[V4];unfold iter;rw[e];have:=ih lo (.star s) (st++[cls r]) (Q7 ((fs.length+1:Nat):Int) out (s.Y0 lo (N0 l lo) st)) J V' O' m O';rw[u]at this;rw[u];exact this
  |catR a=>
   simp only[Fr.O2,Fr.off]at i u hg g e;have h4:=s.size_pos;have e7:((a.top lo':Int)==(s.top lo:Int))=false:=by
    have:=y.1;have:=a.size_pos;simp only[Fr.off]at *;have:a.top lo'≠s.top lo:=by unfold Tm.top;omega
    simp;omega
   refine plain fs (by simp only[V4,Fr.off,Fr.W9,i,C,Fr.O2,u]) ?_;rw[e];simp only[q0,Tm.node,e7,beq_self_eq_true];exact next st out O'
  |altR a=>
   simp only[Fr.O2,Fr.off]at i u hg g e;refine plain fs (by simp only[V4,Fr.off,Fr.W9,i,C,Fr.O2,u]) ?_;rw[e];simp only[Tm.node,G0];exact next st out O'
  |altL b|maybe|group n|iter=>
   simp only[Fr.O2,Fr.off,sub_zero]at i u hg g e;subst i;refine plain fs (by subst u;rfl) ?_;rw[e];simp only[Tm.node,G0];exact next st out O'
