/- P. Its conditions: none. -/
import Derived.Test.YtbccffnofdnpoaaGreatAG37
open Nat (lt_or_ge le_of_lt)
set_option linter.all false
theorem Go.U' {P:Prop}(h:P:=by unfold Tm.top;omega):P:=h
theorem Go.J' {P:Prop}(h:P:=by simp only[Tm.top,Tm.size];omega):P:=h
namespace Go.Proofs.YtbccffnofdnpoaaGreat.Old
open Go.V Go.RowKit
def At.x02 {l:List D0}:∀{s:Tm} {lo:Nat},At l lo s->∀i,lo<=i->i<lo+s.size->∃lo' d,At l lo' d/\d.top lo'=i/\lo<=lo'/\d.size<=s.size:=by
 intro s;have f:∀(t:Tm) (lo:Nat),t.size=1->At l lo t->∀i,lo<=i->i<lo+t.size->∃lo' d,At l lo' d/\d.top lo'=i/\lo<=lo'/\d.size<=t.size:=fun t lo o h i h1 e=>⟨lo,t,h,by grind [Tm.top],O',O'⟩
 induction s with
 |eps=>exact fun h=>f _ _ rfl h
 |leaf s=>exact fun h=>f _ _ rfl h
 |cat a b iha ihb=>
  intro lo h i h1 e;obtain⟨ha,m,_⟩:=(At.bin rfl rfl).1 h;simp only[Tm.size]at e ⊢;rcases lt_or_ge i (lo+a.size)with c|c
  ·grind
  ·rcases lt_or_ge i (lo+a.size+b.size)with c2|c2
   ·obtain⟨lo',d,p1,g,j,k⟩:=ihb m i c c2;exact⟨lo',d,p1,g,O',O'⟩
   ·exact⟨lo,.cat a b,h,by grind [Tm.top,Tm.size],O',by simp[Tm.size]⟩
 |alt a b iha ihb=>
  intro lo h i h1 e;obtain⟨ha,m,_⟩:=(At.bin rfl rfl).1 h;simp only[Tm.size]at e ⊢;rcases lt_or_ge i (lo+a.size)with c|c
  ·grind
  ·rcases lt_or_ge i (lo+a.size+b.size)with c2|c2
   ·obtain⟨lo',d,p1,g,j,k⟩:=ihb m i c c2;exact⟨lo',d,p1,g,O',O'⟩
   ·exact⟨lo,.alt a b,h,J',O',by simp[Tm.size]⟩
 |star a iha=>
  intro lo h i h1 e;obtain⟨ha,_⟩:=(At.un rfl rfl).1 h;simp only[Tm.size]at e ⊢;rcases lt_or_ge i (lo+a.size)with c|c
  ·obtain⟨lo',d,p1,g,j,k⟩:=iha ha i h1 c;exact⟨lo',d,p1,g,j,O'⟩
  ·exact⟨lo,.star a,h,J',O',by simp[Tm.size]⟩
 |maybe a iha=>
  intro lo h i h1 e;obtain⟨ha,_⟩:=(At.un rfl rfl).1 h;simp only[Tm.size]at e ⊢;rcases lt_or_ge i (lo+a.size)with c|c
  ·obtain⟨lo',d,p1,g,j,k⟩:=iha ha i h1 c;exact⟨lo',d,p1,g,j,O'⟩
  ·exact⟨lo,.maybe a,h,J',O',by simp[Tm.size]⟩
 |group n a iha=>
  intro lo h i h1 e;obtain⟨ha,_⟩:=(At.un rfl rfl).1 h;simp only[Tm.size]at e ⊢;rcases lt_or_ge i (lo+a.size)with c|c
  ·obtain⟨lo',d,p1,g,j,k⟩:=iha ha i h1 c;exact⟨lo',d,p1,g,j,O'⟩
  ·exact⟨lo,.group n a,h,J',O',by simp[Tm.size]⟩
 |iter a iha=>
  intro lo h i h1 e;obtain⟨ha,_⟩:=(At.un rfl rfl).1 h;simp only[Tm.size]at e ⊢;rcases lt_or_ge i (lo+a.size)with c|c
  ·obtain⟨lo',d,p1,g,j,k⟩:=iha ha i h1 c;exact⟨lo',d,p1,g,j,O'⟩
  ·exact⟨lo,.iter a,h,J',O',by simp[Tm.size]⟩
def K5.node {l:List D0}{t:Tm}(h:K5 l t){i:Nat}(hi:i<l.length):∃lo s,At l lo s/\s.top lo=i:=by
 obtain⟨lo,s,h1,a,_⟩:=h.at0.x02 i O' (by rw[h.len]at hi;omega)
 grind
def Tm.can:Tm->Bool
 |.eps=>true|.leaf _=>false|.cat a b=>a.can&&b.can|.alt a b=>a.can||b.can
 |.star _=>true|.maybe _=>true|.group _ a=>a.can|.iter a=>a.can
def A8 (l:List D0)(c:List Bool)(i:Nat):Bool:=
 let x:=gt l (i:Int)
 if x.Kind=1\/x.Kind=5\/x.Kind=6 then true
 else if x.Kind=3 then gt c x.A&&gt c x.B else if x.Kind=4 then gt c x.A||gt c x.B else if x.Kind=7\/x.Kind=8 then gt c x.A else false
def R6 (l:List D0):Nat->List Bool
 |0=>[]
 |i+1=>R6 l i++[A8 l (R6 l i) i]
theorem h0z (l:List D0):∀i,(R6 l i).length=i
 |0=>rfl
 |i+1=>by simp[R6,h0z]
def e0v (l:List D0){i j:Nat}(h:j<i):gt (R6 l i) (j:Int)=A8 l (R6 l j) j:=by
 induction i with
 |zero=>omega
 |succ i ih=>
  grind [R6,c0Z,h0z,b0l]
def N0b {l:List D0}:∀{s:Tm} {lo:Nat},At l lo s->∀i,s.top lo<i->gt (R6 l i) (s.top lo:Int)=s.can:=by
 intro s
 induction s with
 |eps=>intro lo h i hi;rw[e0v l hi];simp[A8,h.P5,Tm.node,Tm.can]
 |leaf s=>intro lo h i hi;rw[e0v l hi];simp[A8,h.P5,Tm.node,Tm.can]
 |cat a b c ihb=>
  intro lo h i hi;rw[e0v l hi];obtain⟨ha,d,_⟩:=(At.bin rfl rfl).1 h;have:=b.size_pos;simp only[A8,h.P5,Tm.node,Tm.can]
  grind [Tm.top,Tm.size]
 |alt a b c ihb=>
  intro lo h i hi;rw[e0v l hi];obtain⟨ha,d,_⟩:=(At.bin rfl rfl).1 h;have:=b.size_pos;simp only[A8,h.P5,Tm.node,Tm.can]
  grind [Tm.top,Tm.size]
 |star a c=>intro lo h i hi;rw[e0v l hi];simp[A8,h.P5,Tm.node,Tm.can]
 |maybe a c=>intro lo h i hi;rw[e0v l hi];simp[A8,h.P5,Tm.node,Tm.can]
 |group n a c=>
  intro lo h i hi;rw[e0v l hi];obtain⟨ha,_⟩:=(At.un rfl rfl).1 h;have:=a.size_pos;simp only[A8,h.P5,Tm.node,Tm.can]
  grind [Tm.top,Tm.size]
 |iter a c=>
  intro lo h i hi;rw[e0v l hi];obtain⟨ha,_⟩:=(At.un rfl rfl).1 h;have:=a.size_pos;simp only[A8,h.P5,Tm.node,Tm.can]
  grind [Tm.top,Tm.size]
def b0T (l:List D0):List Bool:=if N3 l then R6 l l.length else[]
def H0K {l:List D0}{t:Tm}(g:K5 l t){i:Nat}(hi:i<l.length)(fuel:Nat):
  j0d fuel l ((i:Int),R6 l i++List.replicate (l.length-i) false)=some (.next (((i+1:Nat):Int),R6 l (i+1)++List.replicate (l.length-(i+1)) false))/\True:=by
 have q:=g.le;have hlen:=g.len;have h1:(i:Int)<(l.length:Int):=O'
 have k:C0 l (i:Int)=true:=R0 O' O';have j:W ((i:Int)+1)=((i+1:Nat):Int):=K2 O';rw[p0b hi false];generalize hm:List.replicate (l.length-(i+1)) false=m;have f:∀(y:Bool),(R6 l i++false :: m).set i y=R6 l i++y :: m:=fun y=>y0l (h0z l i).symm;have d:∀(z:Nat),z<i->gt (R6 l i++false :: m) (z:Int)=gt (R6 l i) (z:Int):=fun z h=>b0l O' (by rw[h0z];omega);have c:∀(z:Nat),z<=i->C0 (R6 l i++false :: m) (z:Int)=true:=fun z h=>R0 O' (by simp[h0z];omega);have p:=c i O';have r:R6 l (i+1)++m=R6 l i++A8 l (R6 l i) i :: m:=by simp[R6]
 rw[r];unfold j0d;simp only[h1,decide_true,if_true,k,p,j,Int.toNat_natCast,f,and_true];obtain⟨lo,s,o,hs⟩:=g.node hi;have hg:=o.P5;rw[hs]at hg;cases s with
 |eps=>simp[hg,Tm.node,A8]
 |leaf s=>simp[hg,Tm.node,A8,f false]
 |cat a b=>
  have:=a.size_pos;have:=b.size_pos;have e:a.top lo<i:=by rw[<-hs];simp only[Tm.top,Tm.size];omega
  have pb:b.top (lo+a.size)<i:=by rw[<-hs];simp only[Tm.top,Tm.size];omega
  simp only[hg,Tm.node,A8,c _ (le_of_lt e),c _ (le_of_lt pb),d _ e,d _ pb];cases gt (R6 l i) (a.top lo:Int)<;>simp
 |alt a b=>
  have:=a.size_pos;have:=b.size_pos;have e:a.top lo<i:=by rw[<-hs];simp only[Tm.top,Tm.size];omega
  have pb:b.top (lo+a.size)<i:=by rw[<-hs];simp only[Tm.top,Tm.size];omega
  simp only[hg,Tm.node,A8,c _ (le_of_lt e),c _ (le_of_lt pb),d _ e,d _ pb];cases gt (R6 l i) (a.top lo:Int)<;>simp
 |star a=>simp[hg,Tm.node,A8]
 |maybe a=>simp[hg,Tm.node,A8]
 |group n a=>
  have:=a.size_pos;have e:a.top lo<i:=by rw[<-hs];simp only[Tm.top,Tm.size];omega
  simp[hg,Tm.node,A8,c _ (le_of_lt e),d _ e]
 |iter a=>
  have:=a.size_pos;have e:a.top lo<i:=by rw[<-hs];simp only[Tm.top,Tm.size];omega
  simp[hg,Tm.node,A8,c _ (le_of_lt e),d _ e]
def s0J {l:List D0}(hw:∀x∈l,V2 x){fuel:Nat}(c:401<fuel):f0a fuel l=some (b0T l):=by
 unfold f0a b0T;rw[d0t l c];cases hR:N3 l with
 |false=>rfl
 |true=>
  obtain⟨t,a⟩:=c0v hw hR;have b:=a.le;have hlen:=a.len;have d:F4 1 (l.length:Int)=true:=by grind [F4]
  have:=V3 (step:=j0d fuel l) (fun i=>((i:Int),R6 l i++List.replicate (l.length-i) false)) (R6 l l.length) l.length
   (fun i hi=>.inl (H0K a hi fuel).1) (by simp[j0d]) l.length 0 fuel O' O'
  simp only[R6,List.nil_append,Nat.sub_zero]at this
  simp_all
def C3 (l:List D0):Nat->List Int
 |0=>[]
 |i+1=>if(gt l (i:Int)).Kind=2 then C3 l i++[(i:Int)]else C3 l i
theorem Y9 (l:List D0):∀i,(C3 l i).length=Z0 l i
 |0=>rfl
 |i+1=>by simp only[C3,Z0];split<;>simp[Y9 l i]
def c0j (l:List D0):List Int:=if N3 l then C3 l l.length else[]
def O0L {l:List D0}(hl:l.length<=400){i:Nat}(hi:i<l.length)(fuel:Nat):
  h04 fuel l (C3 l i,(i:Int))=some (.next (C3 l (i+1),((i+1:Nat):Int)))/\True:=by
 have h1:(i:Int)<(l.length:Int):=O'
 have b:C0 l (i:Int)=true:=R0 O' O';have a:W ((i:Int)+1)=((i+1:Nat):Int):=K2 O';have hle:=e07 l i;have c:J0 8 (C3 l i) [(i:Int)]=true:=W4 (by rw[Y9];simp;omega);unfold h04
 by_cases hk:(gt l (i:Int)).Kind=2<;>simp[h1,b,a,c,hk,C3]
def p0G {l:List D0}(hw:∀x∈l,V2 x){fuel:Nat}(c:401<fuel):T9 fuel l=some (c0j l):=by
 unfold T9 c0j;rw[d0t l c];cases hR:N3 l with
 |false=>rfl
 |true=>
  obtain⟨t,b⟩:=c0v hw hR;have a:=b.le;have hlen:=b.len;have:=V3 (step:=h04 fuel l) (fun i=>(C3 l i,(i:Int))) (C3 l l.length) l.length (fun i hi=>.inl (O0L O' hi fuel).1) (by simp[h04]) l.length 0 fuel O' O';simp only[C3]at this
  simp_all
def m0F (l:List D0){i j:Nat}(h:i<=j):Z0 l i<=Z0 l j:=by
 induction j with
 |zero=>simp_all
 |succ j ih=>
  by_cases e:i=j+1
  ·simp_all
  grind [Z0]
def b0N (l:List D0):∀(i p:Nat),p<Z0 l i->∃q:Nat,q<i/\(C3 l i)[p]?=some (q:Int)/\(gt l (q:Int)).Kind=2/\Z0 l q=p
 |0,p,h=>by grind [Z0]
 |i+1,p,h=>by
  simp only[Z0,C3]at h ⊢
  by_cases hk:(gt l (i:Int)).Kind=2
  ·simp only[hk,if_true]at h ⊢
   by_cases e:p=Z0 l i
   ·grind [Y9]
   ·obtain⟨q,h1,b,a,c⟩:=b0N l i p O'
    grind
  ·simp only[hk,if_false,Nat.add_zero]at h ⊢;obtain⟨q,h1,b,a,c⟩:=b0N l i p h
   grind
def b0t (l:List D0):Nat->List Int
 |0=>[]
 |i+1=>b0t l i++[if(gt l (i:Int)).Kind=2 then(Z0 l i:Int)else -1]
theorem h06 (l:List D0):∀i,(b0t l i).length=i
 |0=>rfl
 |i+1=>by simp[b0t,h06]
def o0Q (l:List D0):∀(i j:Nat),j<i->(b0t l i)[j]?=some (if(gt l (j:Int)).Kind=2 then(Z0 l j:Int)else -1)
 |0,j,h=>O'
 |i+1,j,h=>by
  simp only[b0t]
  by_cases e:j=i
  ·simp_all[h06]
  ·rw[List.getElem?_append_left (by grind [h06])];exact o0Q l i j O'
def r0d (l:List D0):List Int:=if N3 l then b0t l l.length else[]
def b0D (l:List D0)(p:Nat):Nat->List Int
 |0=>[]
 |i+1=>b0D l p i++[if(gt l (i:Int)).Kind=2/\Z0 l i<p then(Z0 l i:Int)else -1]
theorem e0G (l:List D0)(p:Nat):∀i,(b0D l p i).length=i
 |0=>rfl
 |i+1=>by simp[b0D,e0G]
def o0E (l:List D0)(p:Nat):∀(i j:Nat),j<i->(b0D l p i)[j]?=some (if(gt l (j:Int)).Kind=2/\Z0 l j<p then(Z0 l j:Int)else -1)
 |0,j,h=>O'
 |i+1,j,h=>by
  simp only[b0D]
  by_cases e:j=i
  ·simp_all[e0G]
  ·rw[List.getElem?_append_left (by grind [e0G])];exact o0E l p i j O'
def M0U (l:List D0){i j:Nat}(hi:(gt l (i:Int)).Kind=2)(a:(gt l (j:Int)).Kind=2)(h:Z0 l i=Z0 l j):i=j:=by
 rcases Nat.lt_trichotomy i j with c|c|c
 ·have:=m0F l (show i+1<=j from c);simp only[Z0,hi,if_true]at this;omega
 ·exact c
 ·have:=m0F l (show j+1<=i from c);simp only[Z0,a,if_true]at this;omega
def K0K (l:List D0){p q n:Nat}(hq:q<n)(hk:(gt l (q:Int)).Kind=2)(hp:Z0 l q=p):(b0D l p n).set q (p:Int)=b0D l (p+1) n:=by
 apply List.ext_getElem?;intro j
 by_cases a:j<n
 ·rw[o0E l _ n j a,List.getElem?_set]
  by_cases e:q=j
  ·simp_all[e0G]
  ·rw[if_neg e,o0E l _ n j a]
   by_cases k2:(gt l (j:Int)).Kind=2
   ·have:Z0 l j≠p:=fun h=>e (M0U l hk k2 (hp.trans h.symm))
    grind
   simp_all
 simp_all[e0G]
def x0A (l:List D0):∀n,b0D l 0 n=List.replicate n (-1)
 |0=>rfl
 |n+1=>by simp[b0D,x0A,List.replicate_succ']
def D0C (l:List D0)(n:Nat):b0D l (Z0 l n) n=b0t l n:=by
 apply List.ext_getElem?;intro j
 by_cases a:j<n
 ·rw[o0E l _ n j a,o0Q l n j a]
  by_cases k2:(gt l (j:Int)).Kind=2
  ·have:=m0F l (show j+1<=n from a);simp only[Z0,k2,if_true]at this
   grind
  simp_all
 simp_all[e0G,h06]
def C0W {l:List D0}(hw:∀x∈l,V2 x){fuel:Nat}(d:401<fuel):l0b fuel l=some (r0d l):=by
 unfold l0b r0d;rw[d0t l d,p0G hw d];cases hR:N3 l with
 |false=>rfl
 |true=>
  obtain⟨t,f⟩:=c0v hw hR;have e:=f.le;have hlen:=f.len;have a:F4 8 (l.length:Int)=true:=by grind [F4]
  have k:=V3 (step:=m0U fuel (l.length:Int)) (fun i=>((i:Int),List.replicate i (-1)++List.replicate (l.length-i) 0)) (List.replicate l.length (-1)) l.length
   (fun i hi=>.inl (by
    have h1:(i:Int)<(l.length:Int):=O'
    have c:C0 (List.replicate i (-1:Int)++List.replicate (l.length-i) 0) (i:Int)=true:=R0 O' (by grind);unfold m0U;simp only[Int.toNat_natCast,h1,decide_true,if_true,c,K2 (show i<9223372036854775807 from O')]
    simp_all[p0b,List.replicate_succ'])) (by simp[m0U]) l.length 0 fuel O' O'
  have b:c0j l=C3 l l.length:=by simp[c0j,hR]
  have hle:=e07 l l.length;have j:=V3 (step:=k0y fuel (C3 l l.length)) (fun p=>((p:Int),b0D l p l.length)) (b0t l l.length) (Z0 l l.length)
   (fun p hp=>.inl (by
    obtain⟨q,h1,n,h,m⟩:=b0N l l.length p hp;have g:(p:Int)<((C3 l l.length).length:Int):=by rw[Y9];omega
    have o:C0 (C3 l l.length) (p:Int)=true:=R0 O' g;have r:C0 (b0D l p l.length) (q:Int)=true:=R0 O' (by rw[e0G];omega);unfold k0y;simp only[g,decide_true,if_true,o,P2 n,r,Int.toNat_natCast,K0K l h1 h m,K2 (show p<9223372036854775807 from O')])) (by unfold k0y;simp[Y9,D0C]) (Z0 l l.length) 0 fuel O' O'
  simp only[q0,a,Int.toNat_natCast,b,List.length_replicate];simp only[List.replicate_zero,List.nil_append,Nat.sub_zero]at k;rw[x0A]at j
  simp_all
def V8 (u:List Int)(lo:Nat):Tm->Prop
 |.eps=>True
 |.leaf _=>True
 |.cat a b=>gt u (a.top lo:Int)=(Tm.top (.cat a b) lo:Int)/\gt u (b.top (lo+a.size):Int)=(Tm.top (.cat a b) lo:Int)/\V8 u lo a/\V8 u (lo+a.size) b
 |.alt a b=>gt u (a.top lo:Int)=(Tm.top (.alt a b) lo:Int)/\gt u (b.top (lo+a.size):Int)=(Tm.top (.alt a b) lo:Int)/\V8 u lo a/\V8 u (lo+a.size) b
 |.star a=>gt u (a.top lo:Int)=(Tm.top (.star a) lo:Int)/\V8 u lo a
 |.maybe a=>gt u (a.top lo:Int)=(Tm.top (.maybe a) lo:Int)/\V8 u lo a
 |.group n a=>gt u (a.top lo:Int)=(Tm.top (.group n a) lo:Int)/\V8 u lo a
 |.iter a=>gt u (a.top lo:Int)=(Tm.top (.iter a) lo:Int)/\V8 u lo a
def V8.congr {u v:List Int}:∀{s:Tm} {lo:Nat},(∀j:Nat,lo<=j->j<s.top lo->gt v (j:Int)=gt u (j:Int))->V8 u lo s->V8 v lo s:=by
 intro s
 induction s with
 |eps=>intros;trivial
 |leaf s=>intros;trivial
 |cat a b c ihb=>
  intro lo h hu;have:=a.size_pos;have:=b.size_pos;simp only[Tm.top,Tm.size]at h;obtain⟨h1,i,f,g⟩:=hu;exact⟨by rw[h _ U' U'];exact h1,by rw[h _ U' U'];exact i,
   c (fun j e d=>h j e (by unfold Tm.top at d;omega)) f,ihb (fun j e d=>h j O' (by unfold Tm.top at d;omega)) g⟩
 |alt a b c ihb=>
  intro lo h hu;have:=a.size_pos;have:=b.size_pos;simp only[Tm.top,Tm.size]at h;obtain⟨h1,i,f,g⟩:=hu;exact⟨by rw[h _ U' U'];exact h1,by rw[h _ U' U'];exact i,
   c (fun j e d=>h j e (by unfold Tm.top at d;omega)) f,ihb (fun j e d=>h j O' (by unfold Tm.top at d;omega)) g⟩
 |star a c|maybe a c|group _ a c|iter a c=>
  intro lo h hu;have:=a.size_pos;simp only[Tm.top,Tm.size]at h;obtain⟨h1,f⟩:=hu;exact⟨by rw[h _ U' U'];exact h1,c (fun j e d=>h j e (by unfold Tm.top at d;omega)) f⟩
def b0r (l:List D0)(o:List Int)(i:Nat):List Int:=
 let x:=gt l (i:Int)
 let a:=if 0<=x.A then o.set x.A.toNat i else o
 if 0<=x.B then a.set x.B.toNat i else a
def L6 (l:List D0)(lo:Nat):Nat->List Int->List Int
 |0,o=>o
 |k+1,o=>b0r l (L6 l lo k o) (lo+k)
def H0m (l:List D0)(o:List Int)(i:Nat):(b0r l o i).length=o.length:=by
 unfold b0r;simp only;repeat' split
 all_goals simp
def f0g (l:List D0)(lo:Nat)(o:List Int):∀k,(L6 l lo k o).length=o.length
 |0=>rfl
 |k+1=>by simp[L6,H0m,f0g l lo o k]
def y0U (l:List D0)(lo a:Nat)(o:List Int):∀b,L6 l lo (a+b) o=L6 l (lo+a) b (L6 l lo a o)
 |0=>rfl
 |b+1=>by rw[<-Nat.add_assoc];simp only[L6,y0U l lo a o b,Nat.add_assoc]
def a0k {α:Type}[Inhabited α]{o:List α}{i j:Nat}{x:α}(h:i≠j):gt (o.set i x) (j:Int)=gt o (j:Int):=by
 unfold gt;rw[List.getD_eq_getElem?_getD,List.getD_eq_getElem?_getD,Int.toNat_natCast,List.getElem?_set_ne h]
def d0Z {α:Type}[Inhabited α]{o:List α}{i:Nat}{x:α}(h:i<o.length):gt (o.set i x) (i:Int)=x:=P2 (by simp[h])
def E0e {l:List D0}:∀{s:Tm} {lo:Nat},At l lo s->∀o:List Int,lo+s.size<=o.length->
  (∀j:Nat,(j<lo\/s.top lo<=j)->gt (L6 l lo s.size o) (j:Int)=gt o (j:Int))/\V8 (L6 l lo s.size o) lo s:=by
 intro s
 induction s with
 |eps=>
  intro lo h o d;refine⟨fun j g=>?_,trivial⟩;have hg:=h.P5;simp only[Tm.top,Tm.size,Nat.add_sub_cancel]at hg;simp[L6,Tm.size,b0r,hg,Tm.node]
 |leaf s=>
  intro lo h o d;refine⟨fun j g=>?_,trivial⟩;have hg:=h.P5;simp only[Tm.top,Tm.size,Nat.add_sub_cancel]at hg;simp[L6,Tm.size,b0r,hg,Tm.node]
 |cat a b c f|alt a b c f=>
  intro lo h o d;have hg:=h.P5;obtain⟨ha,x,_⟩:=(At.bin rfl rfl).1 h;have:=a.size_pos;have:=b.size_pos;simp only[Tm.size]at d;obtain⟨n,a2⟩:=c ha o O';obtain⟨q,w⟩:=f x (L6 l lo a.size o) (by rw[f0g];omega);have e:L6 l lo (a.size+b.size+1) o=b0r l (L6 l (lo+a.size) b.size (L6 l lo a.size o)) (lo+(a.size+b.size)):=by simp only[L6,y0U]
  simp only[Tm.size,e];generalize p:L6 l (lo+a.size) b.size (L6 l lo a.size o)=v at *;have m:v.length=o.length:=by rw[<-p,f0g,f0g]
  have hi:lo+(a.size+b.size)=lo+(a.size+b.size+1)-1:=O'
  have hs:b0r l v (lo+(a.size+b.size))=(v.set (a.top lo) ((lo+(a.size+b.size):Nat):Int)).set (b.top (lo+a.size)) ((lo+(a.size+b.size):Nat):Int):=by
   simp only[Tm.top,Tm.size]at hg;rw[<-hi]at hg;generalize lo+(a.size+b.size)=i at hg ⊢;unfold b0r;simp only[hg,Tm.node];simp
  rw[hs];have u:a.top lo=lo+a.size-1:=rfl;have tb:b.top (lo+a.size)=lo+a.size+b.size-1:=rfl;refine⟨fun j g=>?_,?_⟩
  ·simp only[Tm.top,Tm.size]at g;rw[a0k O',a0k O',q j O',n j O']
  ·have k:lo+(a.size+b.size)=lo+(a.size+b.size+1)-1:=O'
   refine⟨?_,?_,?_,?_⟩
   ·rw[a0k O',d0Z O'];simp only[Tm.top,Tm.size,k]
   ·rw[d0Z Z'];simp only[Tm.top,Tm.size,k]
   ·exact a2.congr fun j t r=>by rw[a0k O',a0k O',q j O']
   ·exact w.congr fun j t r=>by rw[a0k O',a0k O']
 |star a c|maybe a c|group _ a c|iter a c=>
  intro lo h o d;have hg:=h.P5;obtain⟨ha,_⟩:=(At.un rfl rfl).1 h;have:=a.size_pos;simp only[Tm.size]at d;obtain⟨n,a2⟩:=c ha o O';simp only[Tm.size,L6];generalize p:L6 l lo a.size o=v at *;have m:v.length=o.length:=by rw[<-p,f0g]
  have hs:b0r l v (lo+a.size)=v.set (a.top lo) ((lo+a.size:Nat):Int):=by
   simp only[Tm.top,Tm.size]at hg;rw[show lo+(a.size+1)-1=lo+a.size from O']at hg;generalize lo+a.size=i at hg ⊢;unfold b0r;simp only[hg,Tm.node];simp
  rw[hs];have u:a.top lo=lo+a.size-1:=rfl;refine⟨fun j g=>?_,?_⟩
  ·simp only[Tm.top,Tm.size]at g;rw[a0k O',n j O']
  ·have k:lo+a.size=lo+(a.size+1)-1:=O'
   refine⟨?_,?_⟩
   ·rw[d0Z O'];simp only[Tm.top,Tm.size,k]
   ·exact a2.congr fun j t r=>by rw[a0k O']
structure UpT (u:List Int)(t:Tm):Prop where
 len:u.length=t.size
 root:gt u (t.top 0:Int)=-1
 inner:V8 u 0 t
def M0J {l:List D0}{t:Tm}(f:K5 l t){o:List Int}(g:o.length=l.length){i:Nat}(hi:i<l.length)(fuel:Nat):
  i0a fuel l ((i:Int),o)=some (.next (((i+1:Nat):Int),b0r l o i))/\True:=by
 have m:=f.le;have hlen:=f.len;have h1:(i:Int)<(l.length:Int):=O'
 have d:C0 l (i:Int)=true:=R0 O' O';have c:W ((i:Int)+1)=((i+1:Nat):Int):=K2 O';have e:∀(o:List Int) (z:Nat),o.length=l.length->z<i->C0 o (z:Int)=true:=fun o z h n=>R0 O' O';obtain⟨lo,s,j,hs⟩:=f.node hi;have hg:=j.P5;rw[hs]at hg;unfold i0a b0r;cases s with
 |eps=>simp[h1,d,c,hg,Tm.node]
 |leaf s=>simp[h1,d,c,hg,Tm.node]
 |cat a b|alt a b=>
  have:=a.size_pos;have:=b.size_pos;have k:a.top lo<i:=by rw[<-hs];simp only[Tm.top,Tm.size];omega
  have pb:b.top (lo+a.size)<i:=by rw[<-hs];simp only[Tm.top,Tm.size];omega
  simp[h1,d,c,hg,Tm.node,e o _ g k,e (o.set (a.top lo) (i:Int)) _ (by simpa using g) pb]
 |star a|maybe a|group _ a|iter a=>
  have:=a.size_pos;have k:a.top lo<i:=by rw[<-hs];simp only[Tm.top,Tm.size];omega
  simp[h1,d,c,hg,Tm.node,e o _ g k]
def q0R {l:List D0}{t:Tm}(a:K5 l t)(hR:N3 l=true){fuel:Nat}(g:401<fuel):∃u,e0V fuel l=some u/\UpT u t:=by
 have d:=a.le;have hlen:=a.len;have hp:=t.size_pos;have b:F4 8 (l.length:Int)=true:=by simp[F4];omega
 have h:W ((l.length:Int)-1)=((l.length-1:Nat):Int):=by rw[J3 O' O'];omega
 let o:List Int:=(List.replicate l.length (0:Int)).set (l.length-1) (-1)
 have f:o.length=l.length:=by simp[o]
 have e:=V3 (step:=i0a fuel l) (fun i=>((i:Int),L6 l 0 i o)) (L6 l 0 l.length o) l.length
  (fun i hi=>.inl (by have:=(M0J a (o:=L6 l 0 i o) (by rw[f0g,f]) hi fuel).1;rw[this];simp[L6])) (by unfold i0a;simp) l.length 0 fuel O' O'
 refine⟨L6 l 0 l.length o,?_,?_⟩
 ·unfold e0V;rw[d0t l g,hR];have c:C0 (List.replicate l.length (0:Int)) ((l.length-1:Nat):Int)=true:=R0 O' Z';simp only[q0,b,Int.toNat_natCast,h,c];simp only[L6]at e;rw[show((0:Int),(List.replicate l.length (0:Int)).set (l.length-1) (-1))=(((0:Nat):Int),o)from rfl,e];rfl
 ·obtain⟨p1,j⟩:=E0e a.at0 o O';rw[hlen];refine⟨by rw[f0g,f,hlen],?_,j⟩;rw[p1 _ (.inr (Nat.le_refl _)),show t.top 0=l.length-1 from U'];exact d0Z Z'
def D8 (d:List Int)(lo:Nat)(k:Nat):Tm->Prop
 |.eps=>gt d (lo:Int)=k
 |.leaf _=>gt d (lo:Int)=k
 |.cat a b=>gt d (Tm.top (.cat a b) lo:Int)=k/\D8 d lo (k+1) a/\D8 d (lo+a.size) (k+1) b
 |.alt a b=>gt d (Tm.top (.alt a b) lo:Int)=k/\D8 d lo (k+1) a/\D8 d (lo+a.size) (k+1) b
 |.star a=>gt d (Tm.top (.star a) lo:Int)=k/\D8 d lo (k+1) a
 |.maybe a=>gt d (Tm.top (.maybe a) lo:Int)=k/\D8 d lo (k+1) a
 |.group n a=>gt d (Tm.top (.group n a) lo:Int)=k/\D8 d lo (k+1) a
 |.iter a=>gt d (Tm.top (.iter a) lo:Int)=k/\D8 d lo (k+1) a
theorem D8.top {d:List Int}{lo k:Nat}{s:Tm}(h:D8 d lo k s):gt d (s.top lo:Int)=k:=by
 cases s<;>first|exact h|exact h.1
theorem D8.of {d u:List Int}:∀{s:Tm} {lo k:Nat},V8 u lo s->gt d (s.top lo:Int)=k->(∀j p:Nat,lo<=j->j<s.top lo->gt u (j:Int)=p->gt d (j:Int)=gt d (p:Int)+1)->D8 d lo k s:=by
 intro s
 induction s with
 |eps=>intro lo k _ h _;exact h
 |leaf s=>intro lo k _ h _;exact h
 |cat a b c g|alt a b c g=>
  intro lo k hu h hs;obtain⟨h1,q,l,o⟩:=hu;have:=a.size_pos;have:=b.size_pos;simp only[Tm.top,Tm.size]at hs;have m:=hs _ _ (show lo<=a.top lo from U') U' h1;have n:=hs _ _ (show lo<=b.top (lo+a.size) from U') U' q;refine⟨h,c l (by rw[m,h];rfl) fun j p i f e=>hs j p i (by unfold Tm.top at f;omega) e,g o (by rw[n,h];rfl) fun j p i f e=>hs j p O' (by unfold Tm.top at f;omega) e⟩
 |star a c|maybe a c|group _ a c|iter a c=>
  intro lo k hu h hs;obtain⟨h1,l⟩:=hu;have:=a.size_pos;simp only[Tm.top,Tm.size]at hs;have m:=hs _ _ (show lo<=a.top lo from U') U' h1;exact⟨h,c l (by rw[m,h];rfl) fun j p i f e=>hs j p i (by unfold Tm.top at f;omega) e⟩
def V8.behind {u:List Int}:∀{s:Tm} {lo:Nat},V8 u lo s->∀j:Nat,lo<=j->j<s.top lo->∃p:Nat,gt u (j:Int)=p/\j<p/\p<=s.top lo:=by
 intro s
 induction s with
 |eps=>intro lo _ j h1 f;simp[Tm.top,Tm.size]at f;omega
 |leaf s=>intro lo _ j h1 f;simp[Tm.top,Tm.size]at f;omega
 |cat a b d g|alt a b d g=>
  intro lo hu j l k;obtain⟨h1,f,i,m⟩:=hu;have:=a.size_pos;have:=b.size_pos;simp only[Tm.top,Tm.size]at k ⊢;rcases Nat.lt_trichotomy j (a.top lo)with c|c|c
  ·obtain⟨p,p1,h,e⟩:=d i j l c;exact⟨p,p1,h,by unfold Tm.top at e;omega⟩
  ·subst c;exact⟨_,h1,J',J'⟩
  ·rcases lt_or_ge j (b.top (lo+a.size))with c2|c2
   ·obtain⟨p,p1,h,e⟩:=g m j (by unfold Tm.top at c;omega) c2;exact⟨p,p1,h,by unfold Tm.top at e;omega⟩
   ·obtain rfl:j=b.top (lo+a.size):=by unfold Tm.top at *;omega
    exact⟨_,f,J',J'⟩
 |star a d|maybe a d|group _ a d|iter a d=>
  intro lo hu j l k;obtain⟨h1,i⟩:=hu;have:=a.size_pos;simp only[Tm.top,Tm.size]at k ⊢;rcases lt_or_ge j (a.top lo)with c|c
  ·obtain⟨p,p1,h,e⟩:=d i j l c;exact⟨p,p1,h,by unfold Tm.top at e;omega⟩
  ·obtain rfl:j=a.top lo:=by unfold Tm.top at *;omega
   exact⟨_,h1,J',J'⟩
def i0R (u o:List Int)(i:Nat):List Int:=if 0<=gt u (i:Int)then o.set i (gt o (gt u (i:Int))+1)else o.set i 1
structure c0d (d:List Int)(t:Tm):Prop where
 len:d.length=t.size
 deep:D8 d 0 1 t
def x0V {u:List Int}{t:Tm}(hu:UpT u t){step:Int×List Int->Option (X0 (Int×List Int) (List Int))}(hd:∀o:List Int,step (-1,o)=some (.done o))
  (hs:∀(o:List Int) (i:Nat),o.length=t.size->i<t.size->(∀p:Nat,gt u (i:Int)=p->i<p/\p<t.size/\1<=gt o (p:Int)/\gt o (p:Int)<=t.size)->(gt u (i:Int)<0\/∃p:Nat,gt u (i:Int)=p)->step ((i:Int),o)=some (.next ((i:Int)-1,i0R u o i))):
  ∀(k:Nat) (o:List Int),o.length=t.size->k<=t.size->(∀j:Nat,k<=j->j<t.size->1<=gt o (j:Int)/\gt o (j:Int)<=(t.size-j:Nat))->(k<t.size->gt o (t.top 0:Int)=1)->
   (∀j p:Nat,k<=j->j<t.top 0->gt u (j:Int)=p->gt o (j:Int)=gt o (p:Int)+1)->∀m,k<m->∃d,iter step m ((k:Int)-1,o)=some d/\c0d d t
 |0,o,h1,_,h3,h4,h5,m,hm=>by
  obtain⟨m,rfl⟩:∃q,m=q+1:=⟨m-1,O'⟩
  have:=t.size_pos;refine⟨o,by unfold iter;rw[show((0:Nat):Int)-1=-1 from rfl,hd],h1,D8.of hu.inner (h4 O') fun j p g b f=>h5 j p g b f⟩
 |k+1,o,h1,h2,h3,h4,h5,m,hm=>by
  obtain⟨m,rfl⟩:∃q,m=q+1:=⟨m-1,O'⟩
  have r:=t.size_pos;have c:t.top 0=t.size-1:=by unfold Tm.top;omega
  have a:(k=t.size-1/\gt u (k:Int)=-1)\/∃p:Nat,gt u (k:Int)=p/\k<p/\p<t.size/\k<t.top 0:=by
   by_cases e:k=t.size-1
   ·exact .inl ⟨e,by rw[e,<-c];exact hu.root⟩
   ·obtain⟨p,p1,s,w⟩:=hu.inner.behind k (Nat.zero_le _) O';exact .inr ⟨p,p1,s,O',O'⟩
  have n:=hs o k h1 O' (fun p hp=>by
   rcases a with⟨_,e⟩|⟨q,q1,q2,q3,_⟩
   ·omega
   ·obtain rfl:p=q:=O'
    have:=h3 p O' q3;exact⟨q2,q3,this.1,O'⟩) (by rcases a with⟨_,e⟩|⟨q,q1,_⟩;exact .inl O';exact .inr ⟨q,q1⟩)
  rw[show(((k+1:Nat):Int)-1)=(k:Int)from O'];unfold iter;rw[n];have l:(1:Int)<=((t.size-k:Nat):Int):=O'
  have y:∃v:Int,i0R u o k=o.set k v/\1<=v/\v<=(t.size-k:Nat)/\(k=t.top 0->v=1)/\∀p:Nat,gt u (k:Int)=p->v=gt o (p:Int)+1:=by
   rcases a with⟨z,e⟩|⟨q,q1,q2,q3,q4⟩
   ·exact⟨1,by simp[i0R,e],Int.le_refl _,l,fun _=>rfl,fun p hp=>by rw[e]at hp;omega⟩
   ·have:=h3 q O' q3;exact⟨gt o (q:Int)+1,by simp[i0R,q1],O',O',fun h=>O',fun p hp=>by rw[show p=q from O']⟩
  obtain⟨v,v1,v2,v3,v4,v5⟩:=y;rw[v1];refine x0V hu hd hs k (o.set k v) (by simpa using h1) O' (fun j g b=>?_) (fun _=>?_) (fun j p g b f=>?_) m O'
  ·by_cases e:j=k
   ·subst e;rw[d0Z O'];exact⟨v2,v3⟩
   ·rw[a0k O'];exact h3 j O' b
  ·by_cases e:k=t.top 0
   ·rw[<-e,d0Z O'];exact v4 e
   ·rw[a0k e];clear a v5;exact h4 O'
  ·obtain⟨x,p1,s,w⟩:=hu.inner.behind j (Nat.zero_le _) b;obtain rfl:p=x:=O'
   by_cases e:j=k
   ·subst e;rw[d0Z O',a0k O'];exact v5 p f
   ·rw[a0k O',a0k O'];exact h5 j p O' b f
def n0z {l:List D0}{t:Tm}(r:K5 l t)(hR:N3 l=true){fuel:Nat}(v:401<fuel):∃d,e0E fuel l=some d/\c0d d t:=by
 obtain⟨u,e,hu⟩:=q0R r hR v;have n:=r.le;have hp:=t.size_pos;have k:=hu.len;have g:F4 8 (u.length:Int)=true:=by simp[F4];omega
 have y:W ((u.length:Int)-1)=(t.size:Int)-1:=by rw[J3 O' O'];omega
 unfold e0E;rw[e];simp only[F0,g,if_true,Int.toNat_natCast,y];obtain⟨d,h1,s⟩:=x0V hu (step:=n0i fuel u) (fun o=>by unfold n0i;simp) (fun o i h1 s w b=>by
  have f:C0 o (i:Int)=true:=R0 O' O';have a:C0 u (i:Int)=true:=R0 O' O';have C:(i:Int)>=0:=O'
  have c:W ((i:Int)-1)=(i:Int)-1:=J3 O' O';unfold n0i i0R;rcases b with b|⟨p,b⟩
  ·have:¬gt u (i:Int)>=0:=O'
   simp[f,a,this,c]
  ·obtain⟨R,U,I,J⟩:=w p b;have x:C0 (o.set i 1) (p:Int)=true:=R0 O' Z';have i2:C0 (o.set i 1) (i:Int)=true:=R0 O' Z';have m:W (1+gt o (p:Int))=gt o (p:Int)+1:=by rw[J3 O' O'];omega
   simp[f,a,b,x,i2,c,d0Z (show i<o.length from O'),a0k (show i≠p from O'),m]) t.size (List.replicate u.length 0) (by simp[k]) (Nat.le_refl _) (fun j z q=>O') (fun h=>O') (fun j p z q=>by unfold Tm.top at q;omega) fuel O'
 exact⟨d,by rw[h1];rfl,s⟩
def E3 (q:Nat):Int:=2*(q:Int)
def cls (q:Nat):Int:=2*(q:Int)+1
def Tm.steps (lo:Nat):Tm->List Int
 |.eps=>[E3 lo,cls lo]
 |.leaf _=>[E3 lo,cls lo]
 |.cat a b=>[E3 (Tm.top (.cat a b) lo)]++(a.steps lo++b.steps (lo+a.size))++[cls (Tm.top (.cat a b) lo)]
 |.alt a b=>[E3 (Tm.top (.alt a b) lo)]++(if a.can then a.steps lo else b.steps (lo+a.size))++[cls (Tm.top (.alt a b) lo)]
 |.star a=>[E3 (Tm.top (.star a) lo),cls (Tm.top (.star a) lo)]
 |.maybe a=>[E3 (Tm.top (.maybe a) lo),cls (Tm.top (.maybe a) lo)]
 |.group n a=>[E3 (Tm.top (.group n a) lo)]++a.steps lo++[cls (Tm.top (.group n a) lo)]
 |.iter a=>[E3 (Tm.top (.iter a) lo)]++a.steps lo++[cls (Tm.top (.iter a) lo)]
def Tm.c0l (t:Tm):∀lo,(t.steps lo).length<=2*t.size:=by
 induction t with
 |eps=>simp[Tm.steps,Tm.size]
 |leaf s=>simp[Tm.steps,Tm.size]
 |cat a b c d=>grind [Tm.steps,Tm.size]
 |alt a b c d=>grind [Tm.steps,Tm.size]
 |star a c|maybe a c=>grind [Tm.steps,Tm.size]
 |group n a c=>grind [Tm.steps,Tm.size]
 |iter a c=>grind [Tm.steps,Tm.size]
def b0q {q:Nat}(h:q<=1000000000):W (2*(q:Int))=E3 q:=J3 O' O'
def e0r {q:Nat}(h:q<=1000000000):W (E3 q+1)=cls q:=J3 (by grind [E3]) (by grind [E3])
def At.a0g {l:List D0}{lo:Nat}{s:Tm}(h:At l lo s):s.top lo<l.length:=by have:=h.len;have:=s.size_pos;grind [Tm.top]
structure u02 (l:List D0)(c:List Bool):Prop where
 len:c.length=l.length
 top:∀(s:Tm) (lo:Nat),At l lo s->gt c (s.top lo:Int)=s.can
def k0x {l:List D0}(hR:N3 l=true):u02 l (b0T l):=by
 simp only[b0T,hR,if_true];exact⟨h0z _ _,fun s lo h=>N0b h _ (by have:=h.len;have:=s.size_pos;grind [Tm.top])⟩
theorem A0V {l:List D0}{c:List Bool}(w:u02 l c)(hl:l.length<=400)(fuel:Nat):∀(s:Tm) (lo:Nat),At l lo s->∀(k:Nat) (out:List Int),s.size<=k->out.length+2*s.size<=1000000000->
  a06 fuel k l c (s.top lo:Int) out=some (out++s.steps lo):=by
 intro s
 induction s with
 |eps|leaf _=>
  intro lo h k out hk j;obtain⟨k,rfl⟩:∃q,k=q+1:=⟨k-1,by simp_all[Tm.size]⟩
  have hlen:=h.len;have hg:=h.P5;simp only[Tm.size]at hlen j;have d:C0 l (lo:Int)=true:=R0 O' O';have f:∀x:Int,J0 8 out [x]=true:=fun x=>W4 (by grind);have e:∀x y:Int,J0 8 (out++[x]) [y]=true:=fun x y=>W4 (by grind);simp only[Tm.top,Tm.size,Nat.add_sub_cancel]at hg ⊢;unfold a06;simp[b0q (show lo<=1000000000 from O'),e0r (show lo<=1000000000 from O'),f,e,d,hg,Tm.node,Tm.steps]
 |cat a b g ihb=>
  intro lo h k out hk j;obtain⟨k,rfl⟩:∃q,k=q+1:=⟨k-1,by grind [Tm.size]⟩
  have hlen:=h.len;have hg:=h.P5;obtain⟨ha,p,_⟩:=(At.bin rfl rfl).1 h;have v:=a.c0l lo;have z:=b.c0l (lo+a.size);simp only[Tm.steps];simp only[Tm.size]at hlen j hk;have i:Tm.top (.cat a b) lo<l.length:=by grind [Tm.top,Tm.size]
  generalize Tm.top (.cat a b) lo=r at *;have d:C0 l (r:Int)=true:=R0 O' O';have f:J0 8 out [E3 r]=true:=W4 (by grind);unfold a06;simp only[b0q (show r<=1000000000 from O'),f,if_true,d,hg,Tm.node];have m:=g lo ha k (out++[E3 r]) O' (by grind);have t:=ihb (lo+a.size) p k (out++[E3 r]++a.steps lo) O' (by grind);have e:J0 8 (out++[E3 r]++a.steps lo++b.steps (lo+a.size)) [cls r]=true:=W4 (by grind);simp only[beq_self_eq_true,if_true,m,F0,t,e0r (show r<=1000000000 from O'),e];simp
 |alt a b g ihb=>
  intro lo h k out hk j;obtain⟨k,rfl⟩:∃q,k=q+1:=⟨k-1,by simp[Tm.size]at hk;omega⟩
  have hlen:=h.len;have hg:=h.P5;obtain⟨ha,p,_⟩:=(At.bin rfl rfl).1 h;have v:=a.c0l lo;have z:=b.c0l (lo+a.size);simp only[Tm.steps];simp only[Tm.size]at hlen j hk;have i:Tm.top (.alt a b) lo<l.length:=by simp only[Tm.top,Tm.size];omega
  generalize Tm.top (.alt a b) lo=r at *;have d:C0 l (r:Int)=true:=R0 O' O';have f:J0 8 out [E3 r]=true:=W4 Z';have o:C0 c (a.top lo:Int)=true:=R0 O' (by rw[w.len];unfold Tm.top;omega);unfold a06;simp only[b0q (show r<=1000000000 from O'),f,if_true,d,hg,Tm.node,o,w.top a lo ha];have m:=g lo ha k (out++[E3 r]) O' Z';have t:=ihb (lo+a.size) p k (out++[E3 r]) O' Z';have e:J0 8 (out++[E3 r]++a.steps lo) [cls r]=true:=W4 Z';have u:J0 8 (out++[E3 r]++b.steps (lo+a.size)) [cls r]=true:=W4 Z';rw[show((4:Int)==3)=false from rfl,show((4:Int)==4)=true from rfl];cases a.can
  ·simp only[q0,t,e0r (show r<=1000000000 from O'),u];simp
  ·simp only[q0,m,e0r (show r<=1000000000 from O'),e];simp
 |star a g|maybe a g=>
  intro lo h k out hk j;obtain⟨k,rfl⟩:∃q,k=q+1:=⟨k-1,by simp[Tm.size]at hk;omega⟩
  have hlen:=h.len;have hg:=h.P5;simp only[Tm.steps];simp only[Tm.size]at hlen j hk;have i:=h.a0g;generalize Tm.top _ lo=r at *;have d:C0 l (r:Int)=true:=R0 O' O';have f:∀x:Int,J0 8 out [x]=true:=fun x=>W4 Z';have e:∀x y:Int,J0 8 (out++[x]) [y]=true:=fun x y=>W4 Z';unfold a06;simp[b0q (show r<=1000000000 from O'),e0r (show r<=1000000000 from O'),f,e,d,hg,Tm.node]
 |group n a g|iter a g=>
  intro lo h k out hk j;obtain⟨k,rfl⟩:∃q,k=q+1:=⟨k-1,by simp[Tm.size]at hk;omega⟩
  have hlen:=h.len;have hg:=h.P5;obtain⟨ha,_⟩:=(At.un rfl rfl).1 h;have v:=a.c0l lo;simp only[Tm.steps];simp only[Tm.size]at hlen j hk;have i:=h.a0g;generalize Tm.top _ lo=r at *;have d:C0 l (r:Int)=true:=R0 O' O';have f:J0 8 out [E3 r]=true:=W4 Z';have m:=g lo ha k (out++[E3 r]) O' Z';have e:J0 8 (out++[E3 r]++a.steps lo) [cls r]=true:=W4 Z';unfold a06;simp only[b0q (show r<=1000000000 from O'),f,if_true,d,hg,Tm.node];simp[m,e0r (show r<=1000000000 from O')];simpa using e
def s0T {l:List D0}(hw:∀x∈l,V2 x){t:Tm}(e:K5 l t)(hR:N3 l=true){fuel:Nat}(f:401<fuel){lo:Nat}{s:Tm}(h:At l lo s):
  h0B fuel l (s.top lo:Int)=some (if s.can then s.steps lo else[]):=by
 have c:=e.le;have hlen:=e.len;have g:=h.len;have hp:=s.size_pos;have d:=k0x hR;have i:s.top lo<l.length:=by grind [Tm.top]
 have hn:¬((s.top lo:Int)>=((b0T l).length:Int)):=by rw[d.len];omega
 have a:¬((s.top lo:Int)<0):=O'
 have b:C0 (b0T l) (s.top lo:Int)=true:=R0 O' O';unfold h0B;rw[s0J hw f];simp only[q0,a,hn,b,d.top s lo h]
 grind [A0V]
