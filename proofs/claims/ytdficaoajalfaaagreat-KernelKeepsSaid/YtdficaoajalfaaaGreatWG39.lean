/- What is known of the nodes of a term: whether they can be nothing, and how; by the program and by the document. What is known of the nodes of a term: leaves, their numbers, what a node is a part of, and how deep it lies. What a node is a part of, and how deep it lies; by the program and by the document. Its conditions: none. -/
import Derived.Test.YtdficaoajalfaaaGreatWG38
open Nat (lt_or_ge le_of_lt sub_zero le_refl)
open Int (toNat_natCast)
open Bool (false_eq_true)
set_option linter.all false
namespace Go.Proofs.YtdficaoajalfaaaGreat.Old
open Go.V Go.RowKit
theorem At.s0M {l:List D0}:∀ {s:Tm} {lo:Nat},At l lo s->∀ i,lo<=i->i<lo+s.size->∃ lo' s',At l lo' s'/\s'.top lo'=i/\lo<=lo'/\s'.size<=s.size:=by
 intro s;have leafc:∀ (t:Tm) (lo:Nat),t.size=1->At l lo t->∀ i,lo<=i->i<lo+t.size->∃ lo' s',At l lo' s'/\s'.top lo'=i/\lo<=lo'/\s'.size<=t.size:=fun t lo ht h i h1 h2=>⟨lo,t,h,by unfold Tm.top;omega,by omega,by omega⟩
 induction s with
 |eps=>exact fun h=>leafc _ _ rfl h
 |leaf s=>exact fun h=>leafc _ _ rfl h
 |
  cat a b iha ihb=>
  intro lo h i h1 h2;obtain ⟨ha,hb,_⟩:=(At.bin rfl rfl).1 h;simp only [Tm.size] at h2 ⊢;rcases lt_or_ge i (lo+a.size) with c | c
  ·obtain ⟨lo',s',p1,p2,p3,p4⟩:=iha ha i h1 c;exact ⟨lo',s',p1,p2,p3,by omega⟩
  ·rcases lt_or_ge i (lo+a.size+b.size) with c2 | c2
   ·obtain ⟨lo',s',p1,p2,p3,p4⟩:=ihb hb i c c2;exact ⟨lo',s',p1,p2,by omega,by omega⟩
   ·exact ⟨lo,.cat a b,h,by simp only [Tm.top,Tm.size];omega,by omega,by simp [Tm.size]⟩
 |
  alt a b iha ihb=>
  intro lo h i h1 h2;obtain ⟨ha,hb,_⟩:=(At.bin rfl rfl).1 h;simp only [Tm.size] at h2 ⊢;rcases lt_or_ge i (lo+a.size) with c | c
  ·obtain ⟨lo',s',p1,p2,p3,p4⟩:=iha ha i h1 c;exact ⟨lo',s',p1,p2,p3,by omega⟩
  ·rcases lt_or_ge i (lo+a.size+b.size) with c2 | c2
   ·obtain ⟨lo',s',p1,p2,p3,p4⟩:=ihb hb i c c2;exact ⟨lo',s',p1,p2,by omega,by omega⟩
   ·exact ⟨lo,.alt a b,h,by simp only [Tm.top,Tm.size];omega,by omega,by simp [Tm.size]⟩
 |
  star a iha=>
  intro lo h i h1 h2;obtain ⟨ha,_⟩:=(At.un rfl rfl).1 h;simp only [Tm.size] at h2 ⊢;rcases lt_or_ge i (lo+a.size) with c | c
  ·obtain ⟨lo',s',p1,p2,p3,p4⟩:=iha ha i h1 c;exact ⟨lo',s',p1,p2,p3,by omega⟩
  ·exact ⟨lo,.star a,h,by simp only [Tm.top,Tm.size];omega,by omega,by simp [Tm.size]⟩
 |
  maybe a iha=>
  intro lo h i h1 h2;obtain ⟨ha,_⟩:=(At.un rfl rfl).1 h;simp only [Tm.size] at h2 ⊢;rcases lt_or_ge i (lo+a.size) with c | c
  ·obtain ⟨lo',s',p1,p2,p3,p4⟩:=iha ha i h1 c;exact ⟨lo',s',p1,p2,p3,by omega⟩
  ·exact ⟨lo,.maybe a,h,by simp only [Tm.top,Tm.size];omega,by omega,by simp [Tm.size]⟩
 |
  group n a iha=>
  intro lo h i h1 h2;obtain ⟨ha,_⟩:=(At.un rfl rfl).1 h;simp only [Tm.size] at h2 ⊢;rcases lt_or_ge i (lo+a.size) with c | c
  ·obtain ⟨lo',s',p1,p2,p3,p4⟩:=iha ha i h1 c;exact ⟨lo',s',p1,p2,p3,by omega⟩
  ·exact ⟨lo,.group n a,h,by simp only [Tm.top,Tm.size];omega,by omega,by simp [Tm.size]⟩
 |
  iter a iha=>
  intro lo h i h1 h2;obtain ⟨ha,_⟩:=(At.un rfl rfl).1 h;simp only [Tm.size] at h2 ⊢;rcases lt_or_ge i (lo+a.size) with c | c
  ·obtain ⟨lo',s',p1,p2,p3,p4⟩:=iha ha i h1 c;exact ⟨lo',s',p1,p2,p3,by omega⟩
  ·exact ⟨lo,.iter a,h,by simp only [Tm.top,Tm.size];omega,by omega,by simp [Tm.size]⟩
theorem J4.node {l:List D0} {t:Tm} (h:J4 l t) {i:Nat} (hi:i<l.length):∃ lo s,At l lo s/\s.top lo=i:=by
 obtain ⟨lo,s,h1,h2,_⟩:=h.at0.s0M i (by omega) (by rw [h.len] at hi;omega);exact ⟨lo,s,h1,h2⟩
def Tm.can:Tm->Bool
 |.eps=>true | .leaf _=>false | .cat a b=>a.can&&b.can | .alt a b=>a.can||b.can
 |.star _=>true | .maybe _=>true | .group _ a=>a.can | .iter a=>a.can
def T7 (l:List D0) (c:List Bool) (i:Nat):Bool:=
 let x:=gt l (i:Int)
 if x.Kind=1\/x.Kind=5\/x.Kind=6 then true
 else if x.Kind=3 then gt c x.A&&gt c x.B else if x.Kind=4 then gt c x.A||gt c x.B else if x.Kind=7\/x.Kind=8 then gt c x.A else false
def J5 (l:List D0):Nat->List Bool
 |0=>[]
 |i+1=>J5 l i++[T7 l (J5 l i) i]
theorem d0U (l:List D0):∀ i,(J5 l i).length=i
 |0=>rfl
 |i+1=>by simp [J5,d0U l i]
theorem c03 (l:List D0) {i j:Nat} (h:j<i):gt (J5 l i) (j:Int)=T7 l (J5 l j) j:=by
 induction i with
 |zero=>omega
 |
  succ i ih=>
  simp only [J5]
  by_cases e:j=i
  ·subst e;rw [c0I (d0U l j).symm]
  ·rw [a0R (by omega) (by rw [d0U];omega)];exact ih (by omega)
theorem I0r {l:List D0}:∀ {s:Tm} {lo:Nat},At l lo s->∀ i,s.top lo<i->gt (J5 l i) (s.top lo:Int)=s.can:=by
 intro s
 induction s with
 |eps=>intro lo h i hi;rw [c03 l hi];simp [T7,h.Z3,Tm.node,Tm.can]
 |leaf s=>intro lo h i hi;rw [c03 l hi];simp [T7,h.Z3,Tm.node,Tm.can]
 |
  cat a b iha ihb=>
  intro lo h i hi;rw [c03 l hi];obtain ⟨ha,hb,_⟩:=(At.bin rfl rfl).1 h;have:=a.size_pos;have:=b.size_pos;simp only [T7,h.Z3,Tm.node,Tm.can];simp [iha ha _ (show a.top lo<Tm.top (.cat a b) lo by simp only [Tm.top,Tm.size];omega),ihb hb _ (show b.top (lo+a.size)<Tm.top (.cat a b) lo by simp only [Tm.top,Tm.size];omega)]
 |
  alt a b iha ihb=>
  intro lo h i hi;rw [c03 l hi];obtain ⟨ha,hb,_⟩:=(At.bin rfl rfl).1 h;have:=a.size_pos;have:=b.size_pos;simp only [T7,h.Z3,Tm.node,Tm.can];simp [iha ha _ (show a.top lo<Tm.top (.alt a b) lo by simp only [Tm.top,Tm.size];omega),ihb hb _ (show b.top (lo+a.size)<Tm.top (.alt a b) lo by simp only [Tm.top,Tm.size];omega)]
 |star a iha=>intro lo h i hi;rw [c03 l hi];simp [T7,h.Z3,Tm.node,Tm.can]
 |maybe a iha=>intro lo h i hi;rw [c03 l hi];simp [T7,h.Z3,Tm.node,Tm.can]
 |
  group n a iha=>
  intro lo h i hi;rw [c03 l hi];obtain ⟨ha,_⟩:=(At.un rfl rfl).1 h;have:=a.size_pos;simp only [T7,h.Z3,Tm.node,Tm.can];simp [iha ha _ (show a.top lo<Tm.top (.group n a) lo by simp only [Tm.top,Tm.size];omega)]
 |
  iter a iha=>
  intro lo h i hi;rw [c03 l hi];obtain ⟨ha,_⟩:=(At.un rfl rfl).1 h;have:=a.size_pos;simp only [T7,h.Z3,Tm.node,Tm.can];simp [iha ha _ (show a.top lo<Tm.top (.iter a) lo by simp only [Tm.top,Tm.size];omega)]
def i6 (l:List D0):List Bool:=if J2 l then J5 l l.length else []
theorem q0E {l:List D0} {t:Tm} (ht:J4 l t) {i:Nat} (hi:i<l.length) (fuel:Nat) :
  d0O fuel l (J5 l i++List.replicate (l.length-i) false,(i:Int))=some (.next (J5 l (i+1)++List.replicate (l.length-(i+1)) false,((i+1:Nat):Int)))/\
  e0N fuel l (J5 l i++List.replicate (l.length-i) false,(i:Int))=some (.next (J5 l (i+1)++List.replicate (l.length-(i+1)) false,((i+1:Nat):Int))):=by
 have h400:=ht.le;have hlen:=ht.len;have h1:(i:Int)<(l.length:Int):=by omega
 have hin:y0 l (i:Int)=true:=P0 (by omega) (by omega);have hWi:W ((i:Int)+1)=((i+1:Nat):Int):=E2 (by omega);rw [i0J hi false];generalize hm:List.replicate (l.length-(i+1)) false=m;have hset:∀ (y:Bool),(J5 l i++false :: m).set i y=J5 l i++y :: m:=fun y=>h0s (d0U l i).symm;have hgl:∀ (z:Nat),z<i->gt (J5 l i++false :: m) (z:Int)=gt (J5 l i) (z:Int):=fun z h=>a0R (by omega) (by rw [d0U];omega);have hib:∀ (z:Nat),z<=i->y0 (J5 l i++false :: m) (z:Int)=true:=fun z h=>P0 (by omega) (by simp [d0U];omega);have hii:=hib i (by omega);have hr:J5 l (i+1)++m=J5 l i++T7 l (J5 l i) i :: m:=by simp [J5]
 rw [hr];unfold d0O e0N;simp only [h1,decide_true,if_true,hin,hii,hWi,toNat_natCast,hset];obtain ⟨lo,s,hat,hs⟩:=ht.node hi;have hg:=hat.Z3;rw [hs] at hg;cases s with
 |eps=>simp [hg,Tm.node,T7]
 |leaf s=>simp [hg,Tm.node,T7,hset false]
 |
  cat a b=>
  have:=a.size_pos;have:=b.size_pos;have pa:a.top lo<i:=by rw [<-hs];simp only [Tm.top,Tm.size];omega
  have pb:b.top (lo+a.size)<i:=by rw [<-hs];simp only [Tm.top,Tm.size];omega
  simp only [hg,Tm.node,T7,hib _ (le_of_lt pa),hib _ (le_of_lt pb),hgl _ pa,hgl _ pb];cases gt (J5 l i) (a.top lo:Int)<;>simp
 |
  alt a b=>
  have:=a.size_pos;have:=b.size_pos;have pa:a.top lo<i:=by rw [<-hs];simp only [Tm.top,Tm.size];omega
  have pb:b.top (lo+a.size)<i:=by rw [<-hs];simp only [Tm.top,Tm.size];omega
  simp only [hg,Tm.node,T7,hib _ (le_of_lt pa),hib _ (le_of_lt pb),hgl _ pa,hgl _ pb];cases gt (J5 l i) (a.top lo:Int)<;>simp
 |star a=>simp [hg,Tm.node,T7]
 |maybe a=>simp [hg,Tm.node,T7]
 |
  group n a=>
  have:=a.size_pos;have pa:a.top lo<i:=by rw [<-hs];simp only [Tm.top,Tm.size];omega
  simp [hg,Tm.node,T7,hib _ (le_of_lt pa),hgl _ pa]
 |
  iter a=>
  have:=a.size_pos;have pa:a.top lo<i:=by rw [<-hs];simp only [Tm.top,Tm.size];omega
  simp [hg,Tm.node,T7,hib _ (le_of_lt pa),hgl _ pa]
theorem q0h {l:List D0} (hw:∀ x∈l,C3 x) {fuel:Nat} (hf:401<fuel):X9 fuel l=some (i6 l):=by
 unfold X9 i6;rw [c0N l hf];cases hR:J2 l with
 |false=>rfl
 |
  true=>
  obtain ⟨t,ht⟩:=a0u hw hR;have h400:=ht.le;have hlen:=ht.len;have hmk:B3 1 (l.length:Int)=true:=by simp [B3];omega
  have:=V2 (step:=d0O fuel l) (fun i=>(J5 l i++List.replicate (l.length-i) false,(i:Int))) (J5 l l.length) l.length
   (fun i hi=>.inl (q0E ht hi fuel).1) (by unfold d0O;simp) l.length 0 fuel (by omega) (by omega)
  simp only [E0,Bool.not_true,false_eq_true,if_false,hmk,if_true,toNat_natCast];simp only [J5,List.nil_append,sub_zero] at this;rw [show (0:Int)=((0:Nat):Int) from rfl,this];rfl
theorem p0l {l:List D0} (hw:∀ x∈l,C3 x) (hl:l.length*64<=140737488351232) {fuel:Nat} (hf:401<fuel) (hf2:l.length+1<fuel):Q9 fuel l=some (i6 l):=by
 unfold Q9 i6;rw [b0g l hl hf2];cases hR:J2 l with
 |false=>rfl
 |
  true=>
  obtain ⟨t,ht⟩:=a0u hw hR;have h400:=ht.le;have hlen:=ht.len;have hmk:B3 1 (l.length:Int)=true:=by simp [B3];omega
  have:=V2 (step:=e0N fuel l) (fun i=>(J5 l i++List.replicate (l.length-i) false,(i:Int))) (J5 l l.length) l.length
   (fun i hi=>.inl (q0E ht hi fuel).2) (by unfold e0N;simp) l.length 0 fuel (by omega) (by omega)
  simp only [E0,Bool.not_true,false_eq_true,if_false,hmk,if_true,toNat_natCast];simp only [J5,List.nil_append,sub_zero] at this;rw [show (0:Int)=((0:Nat):Int) from rfl,this];rfl
def Q1 (l:List D0):Nat->List Int
 |0=>[]
 |i+1=>if (gt l (i:Int)).Kind=2 then Q1 l i++[(i:Int)] else Q1 l i
theorem S6 (l:List D0):∀ i,(Q1 l i).length=N0 l i
 |0=>rfl
 |i+1=>by simp only [Q1,N0];split<;>simp [S6 l i]
def v8 (l:List D0):List Int:=if J2 l then Q1 l l.length else []
theorem r0V {l:List D0} (hl:l.length<=400) {i:Nat} (hi:i<l.length) (fuel:Nat) :
  e0a fuel l (Q1 l i,(i:Int))=some (.next (Q1 l (i+1),((i+1:Nat):Int)))/\e0u fuel l (Q1 l i,(i:Int))=some (.next (Q1 l (i+1),((i+1:Nat):Int))):=by
 have h1:(i:Int)<(l.length:Int):=by omega
 have hin:y0 l (i:Int)=true:=P0 (by omega) (by omega);have hWi:W ((i:Int)+1)=((i+1:Nat):Int):=E2 (by omega);have hle:=d0c l i;have hap:I0 8 (Q1 l i) [(i:Int)]=true:=o5 (by rw [S6];simp;omega);unfold e0a e0u
 by_cases hk:(gt l (i:Int)).Kind=2<;>simp [h1,hin,hWi,hap,hk,Q1]
theorem m0s {l:List D0} (hw:∀ x∈l,C3 x) {fuel:Nat} (hf:401<fuel):E7 fuel l=some (v8 l):=by
 unfold E7 v8;rw [c0N l hf];cases hR:J2 l with
 |false=>rfl
 |
  true=>
  obtain ⟨t,ht⟩:=a0u hw hR;have h400:=ht.le;have hlen:=ht.len;have:=V2 (step:=e0a fuel l) (fun i=>(Q1 l i,(i:Int))) (Q1 l l.length) l.length (fun i hi=>.inl (r0V (by omega) hi fuel).1) (by unfold e0a;simp) l.length 0 fuel (by omega) (by omega);simp only [E0,Bool.not_true,false_eq_true,if_false,if_true];simp only [Q1] at this;rw [show (0:Int)=((0:Nat):Int) from rfl,this];rfl
theorem g08 {l:List D0} (hw:∀ x∈l,C3 x) (hl:l.length*64<=140737488351232) {fuel:Nat} (hf:401<fuel) (hf2:l.length+1<fuel):u7 fuel l=some (v8 l):=by
 unfold u7 v8;rw [b0g l hl hf2];cases hR:J2 l with
 |false=>rfl
 |
  true=>
  obtain ⟨t,ht⟩:=a0u hw hR;have h400:=ht.le;have hlen:=ht.len;have:=V2 (step:=e0u fuel l) (fun i=>(Q1 l i,(i:Int))) (Q1 l l.length) l.length (fun i hi=>.inl (r0V (by omega) hi fuel).2) (by unfold e0u;simp) l.length 0 fuel (by omega) (by omega);simp only [E0,Bool.not_true,false_eq_true,if_false,if_true];simp only [Q1] at this;rw [show (0:Int)=((0:Nat):Int) from rfl,this];rfl
theorem l0p (l:List D0) {i j:Nat} (h:i<=j):N0 l i<=N0 l j:=by
 induction j with
 |zero=>
      obtain rfl:i=0:=by omega
      exact le_refl _
 |
  succ j ih=>
  by_cases e:i=j+1
  ·subst e;exact le_refl _
  ·have:=ih (by omega);simp only [N0];omega
theorem b07 (l:List D0):∀ (i p:Nat),p<N0 l i->∃ q:Nat,q<i/\(Q1 l i)[p]?=some (q:Int)/\(gt l (q:Int)).Kind=2/\N0 l q=p
 |0,p,h=>by simp [N0] at h
 |
  i+1,p,h=>by
  simp only [N0,Q1] at h ⊢
  by_cases hk:(gt l (i:Int)).Kind=2
  ·simp only [hk,if_true] at h ⊢
   by_cases e:p=N0 l i
   ·exact ⟨i,by omega,by rw [List.getElem?_append_right (by rw [S6];omega),S6];simp [e],hk,e.symm⟩
   ·obtain ⟨q,h1,h2,h3,h4⟩:=b07 l i p (by omega);exact ⟨q,by omega,by rw [List.getElem?_append_left (by rw [S6];omega)];exact h2,h3,h4⟩
  ·simp only [hk,if_false,Nat.add_zero] at h ⊢;obtain ⟨q,h1,h2,h3,h4⟩:=b07 l i p h;exact ⟨q,by omega,h2,h3,h4⟩
def E5 (l:List D0):Nat->List Int
 |0=>[]
 |i+1=>E5 l i++[if (gt l (i:Int)).Kind=2 then (N0 l i:Int) else -1]
theorem d0F (l:List D0):∀ i,(E5 l i).length=i
 |0=>rfl
 |i+1=>by simp [E5,d0F l i]
theorem p02 (l:List D0):∀ (i j:Nat),j<i->(E5 l i)[j]?=some (if (gt l (j:Int)).Kind=2 then (N0 l j:Int) else -1)
 |0,j,h=>by omega
 |
  i+1,j,h=>by
  simp only [E5]
  by_cases e:j=i
  ·subst e;rw [List.getElem?_append_right (by rw [d0F];omega),d0F];simp
  ·rw [List.getElem?_append_left (by rw [d0F];omega)];exact p02 l i j (by omega)
def c0E (l:List D0):List Int:=if J2 l then E5 l l.length else []
def a0H (l:List D0) (p:Nat):Nat->List Int
 |0=>[]
 |i+1=>a0H l p i++[if (gt l (i:Int)).Kind=2/\N0 l i<p then (N0 l i:Int) else -1]
theorem c0o (l:List D0) (p:Nat):∀ i,(a0H l p i).length=i
 |0=>rfl
 |i+1=>by simp [a0H,c0o l p i]
theorem k06 (l:List D0) (p:Nat):∀ (i j:Nat),j<i->(a0H l p i)[j]?=some (if (gt l (j:Int)).Kind=2/\N0 l j<p then (N0 l j:Int) else -1)
 |0,j,h=>by omega
 |
  i+1,j,h=>by
  simp only [a0H]
  by_cases e:j=i
  ·subst e;rw [List.getElem?_append_right (by rw [c0o];omega),c0o];simp
  ·rw [List.getElem?_append_left (by rw [c0o];omega)];exact k06 l p i j (by omega)
theorem x0r (l:List D0) {i j:Nat} (hi:(gt l (i:Int)).Kind=2) (hj:(gt l (j:Int)).Kind=2) (h:N0 l i=N0 l j):i=j:=by
 rcases Nat.lt_trichotomy i j with c | c | c
 ·have:=l0p l (show i+1<=j from c);simp only [N0,hi,if_true] at this;omega
 ·exact c
 ·have:=l0p l (show j+1<=i from c);simp only [N0,hj,if_true] at this;omega
theorem w0P (l:List D0) {p q n:Nat} (hq:q<n) (hk:(gt l (q:Int)).Kind=2) (hp:N0 l q=p):(a0H l p n).set q (p:Int)=a0H l (p+1) n:=by
 apply List.ext_getElem?;intro j
 by_cases hj:j<n
 ·rw [k06 l _ n j hj,List.getElem?_set]
  by_cases e:q=j
  ·subst e;simp [c0o,hj,hk,hp]
  ·rw [if_neg e,k06 l _ n j hj]
   by_cases k2:(gt l (j:Int)).Kind=2
   ·have:N0 l j≠p:=fun h=>e (x0r l hk k2 (hp.trans h.symm));simp only [k2,true_and]
    by_cases c:N0 l j<p
    ·rw [if_pos c,if_pos (by omega)]
    ·rw [if_neg c,if_neg (by omega)]
   ·simp [k2]
 ·rw [List.getElem?_eq_none (by simp [c0o];omega),List.getElem?_eq_none (by simp [c0o];omega)]
theorem r01 (l:List D0):∀ n,a0H l 0 n=List.replicate n (-1)
 |0=>rfl
 |n+1=>by simp [a0H,r01 l n,List.replicate_succ']
theorem H0m (l:List D0) (n:Nat):a0H l (N0 l n) n=E5 l n:=by
 apply List.ext_getElem?;intro j
 by_cases hj:j<n
 ·rw [k06 l _ n j hj,p02 l n j hj]
  by_cases k2:(gt l (j:Int)).Kind=2
  ·have:=l0p l (show j+1<=n from hj);simp only [N0,k2,if_true] at this;simp [k2];omega
  ·simp [k2]
 ·rw [List.getElem?_eq_none (by simp [c0o];omega),List.getElem?_eq_none (by simp [d0F];omega)]
theorem B0p {l:List D0} (hw:∀ x∈l,C3 x) {fuel:Nat} (hf:401<fuel):b0L fuel l=some (c0E l):=by
 unfold b0L c0E;rw [c0N l hf,m0s hw hf];cases hR:J2 l with
 |false=>rfl
 |
  true=>
  obtain ⟨t,ht⟩:=a0u hw hR;have h400:=ht.le;have hlen:=ht.len;have hmk:B3 8 (l.length:Int)=true:=by simp [B3];omega
  have e1:=V2 (step:=f0f fuel l) (fun i=>(List.replicate i (-1)++List.replicate (l.length-i) 0,(i:Int))) (List.replicate l.length (-1)) l.length
   (fun i hi=>.inl (by
    have h1:(i:Int)<(l.length:Int):=by omega
    have hii:y0 (List.replicate i (-1:Int)++List.replicate (l.length-i) 0) (i:Int)=true:=P0 (by omega) (by simp;omega);unfold f0f;simp only [List.length_replicate,toNat_natCast,h1,decide_true,if_true,hii,E2 (show i<9223372036854775807 by omega)];rw [i0J hi 0,h0s (by simp),List.replicate_succ'];simp)) (by unfold f0f;simp) l.length 0 fuel (by omega) (by omega)
  have hLF:v8 l=Q1 l l.length:=by simp [v8,hR]
  have hle:=d0c l l.length;have e2:=V2 (step:=f09 fuel (List.replicate l.length (-1)) (Q1 l l.length)) (fun p=>(a0H l p l.length,(p:Int))) (E5 l l.length) (N0 l l.length)
   (fun p hp=>.inl (by
    obtain ⟨q,h1,h2,h3,h4⟩:=b07 l l.length p hp;have h5:(p:Int)<((Q1 l l.length).length:Int):=by rw [S6];omega
    have h6:y0 (Q1 l l.length) (p:Int)=true:=P0 (by omega) h5;have h7:y0 (a0H l p l.length) (q:Int)=true:=P0 (by omega) (by rw [c0o];omega);unfold f09;simp only [h5,decide_true,if_true,h6,I3 h2,h7,toNat_natCast,w0P l h1 h3 h4,E2 (show p<9223372036854775807 by omega)])) (by unfold f09;simp [S6,H0m]) (N0 l l.length) 0 fuel (by omega) (by omega)
  simp only [E0,Bool.not_true,false_eq_true,if_false,if_true,hmk,toNat_natCast,hLF];simp only [List.replicate_zero,List.nil_append,sub_zero] at e1;rw [show ((List.replicate l.length (0:Int)),(0:Int))=(List.replicate l.length 0,((0:Nat):Int)) from rfl,e1,E0];rw [r01] at e2;rw [show ((List.replicate l.length (-1:Int)),(0:Int))=(List.replicate l.length (-1),((0:Nat):Int)) from rfl,e2];rfl
theorem v0E {l:List D0} (hw:∀ x∈l,C3 x) (hl:l.length*64<=140737488351232) {fuel:Nat} (hf:401<fuel) (hf2:l.length+1<fuel):a0Y fuel l=some (c0E l):=by
 unfold a0Y c0E;rw [b0g l hl hf2];cases hR:J2 l with
 |false=>rfl
 |
  true=>
  obtain ⟨t,ht⟩:=a0u hw hR;have h400:=ht.le;have hlen:=ht.len;have hmk:B3 8 (l.length:Int)=true:=by simp [B3];omega
  have e1:=V2 (step:=f02 fuel l) (fun i=>(E5 l i++List.replicate (l.length-i) 0,(N0 l i:Int),(i:Int))) (E5 l l.length) l.length
   (fun i hi=>.inl (by
    have h1:(i:Int)<(l.length:Int):=by omega
    have hin:y0 l (i:Int)=true:=P0 (by omega) (by omega);have hle:=d0c l i;have hii:∀ (y:Int) m,y0 (E5 l i++y :: m) (i:Int)=true:=fun y m=>P0 (by omega) (by simp [d0F];omega);have hset:∀ (x y:Int) m,(E5 l i++x :: m).set i y=E5 l i++y :: m:=fun x y m=>h0s (d0F l i).symm;unfold f02;rw [i0J hi 0];simp only [h1,decide_true,if_true,hii,hin,toNat_natCast,hset,E2 (show i<9223372036854775807 by omega),E2 (show N0 l i<9223372036854775807 by omega),E5,N0]
    by_cases k2:(gt l (i:Int)).Kind=2<;>simp [k2])) (by unfold f02;simp) l.length 0 fuel (by omega) (by omega)
  simp only [E0,Bool.not_true,false_eq_true,if_false,if_true,hmk,toNat_natCast];simp only [E5,N0,List.nil_append,sub_zero] at e1;rw [show ((List.replicate l.length (0:Int)),(0:Int),(0:Int))=(List.replicate l.length 0,((0:Nat):Int),((0:Nat):Int)) from rfl,e1];rfl
def O8 (u:List Int) (lo:Nat):Tm->Prop
 |.eps=>True
 |.leaf _=>True
 |.cat a b=>gt u (a.top lo:Int)=(Tm.top (.cat a b) lo:Int)/\gt u (b.top (lo+a.size):Int)=(Tm.top (.cat a b) lo:Int)/\O8 u lo a/\O8 u (lo+a.size) b
 |.alt a b=>gt u (a.top lo:Int)=(Tm.top (.alt a b) lo:Int)/\gt u (b.top (lo+a.size):Int)=(Tm.top (.alt a b) lo:Int)/\O8 u lo a/\O8 u (lo+a.size) b
 |.star a=>gt u (a.top lo:Int)=(Tm.top (.star a) lo:Int)/\O8 u lo a
 |.maybe a=>gt u (a.top lo:Int)=(Tm.top (.maybe a) lo:Int)/\O8 u lo a
 |.group n a=>gt u (a.top lo:Int)=(Tm.top (.group n a) lo:Int)/\O8 u lo a
 |.iter a=>gt u (a.top lo:Int)=(Tm.top (.iter a) lo:Int)/\O8 u lo a
theorem O8.congr {u v:List Int}:∀ {s:Tm} {lo:Nat},(∀ j:Nat,lo<=j->j<s.top lo->gt v (j:Int)=gt u (j:Int))->O8 u lo s->O8 v lo s:=by
 intro s
 induction s with
 |eps=>intros;trivial
 |leaf s=>intros;trivial
 |
  cat a b iha ihb=>
  intro lo h hu;have:=a.size_pos;have:=b.size_pos;simp only [Tm.top,Tm.size] at h;obtain ⟨h1,h2,h3,h4⟩:=hu;exact ⟨by rw [h _ (by unfold Tm.top;omega) (by unfold Tm.top;omega)];exact h1,by rw [h _ (by unfold Tm.top;omega) (by unfold Tm.top;omega)];exact h2,
   iha (fun j j1 j2=>h j j1 (by unfold Tm.top at j2;omega)) h3,ihb (fun j j1 j2=>h j (by omega) (by unfold Tm.top at j2;omega)) h4⟩
 |
  alt a b iha ihb=>
  intro lo h hu;have:=a.size_pos;have:=b.size_pos;simp only [Tm.top,Tm.size] at h;obtain ⟨h1,h2,h3,h4⟩:=hu;exact ⟨by rw [h _ (by unfold Tm.top;omega) (by unfold Tm.top;omega)];exact h1,by rw [h _ (by unfold Tm.top;omega) (by unfold Tm.top;omega)];exact h2,
   iha (fun j j1 j2=>h j j1 (by unfold Tm.top at j2;omega)) h3,ihb (fun j j1 j2=>h j (by omega) (by unfold Tm.top at j2;omega)) h4⟩
 |
  star a iha | maybe a iha | group _ a iha | iter a iha=>
  intro lo h hu;have:=a.size_pos;simp only [Tm.top,Tm.size] at h;obtain ⟨h1,h3⟩:=hu;exact ⟨by rw [h _ (by unfold Tm.top;omega) (by unfold Tm.top;omega)];exact h1,iha (fun j j1 j2=>h j j1 (by unfold Tm.top at j2;omega)) h3⟩
def a0p (l:List D0) (o:List Int) (i:Nat):List Int:=
 let x:=gt l (i:Int)
 let o1:=if 0<=x.A then o.set x.A.toNat i else o
 if 0<=x.B then o1.set x.B.toNat i else o1
def B5 (l:List D0) (lo:Nat):Nat->List Int->List Int
 |0,o=>o
 |k+1,o=>a0p l (B5 l lo k o) (lo+k)
theorem x0X (l:List D0) (o:List Int) (i:Nat):(a0p l o i).length=o.length:=by
 unfold a0p;simp only;repeat' split
 all_goals simp
theorem c0A (l:List D0) (lo:Nat) (o:List Int):∀ k,(B5 l lo k o).length=o.length
 |0=>rfl
 |k+1=>by simp [B5,x0X,c0A l lo o k]
theorem w0s (l:List D0) (lo a:Nat) (o:List Int):∀ b,B5 l lo (a+b) o=B5 l (lo+a) b (B5 l lo a o)
 |0=>rfl
 |b+1=>by rw [<-Nat.add_assoc];simp only [B5,w0s l lo a o b,Nat.add_assoc]
theorem p9 {α:Type} [Inhabited α] {o:List α} {i j:Nat} {x:α} (h:i≠j):gt (o.set i x) (j:Int)=gt o (j:Int):=by
 unfold gt;rw [List.getD_eq_getElem?_getD,List.getD_eq_getElem?_getD,toNat_natCast,List.getElem?_set_ne h]
theorem c0J {α:Type} [Inhabited α] {o:List α} {i:Nat} {x:α} (h:i<o.length):gt (o.set i x) (i:Int)=x:=I3 (by simp [h])
theorem t0n {l:List D0}:∀ {s:Tm} {lo:Nat},At l lo s->∀ o:List Int,lo+s.size<=o.length->
  (∀ j:Nat,(j<lo\/s.top lo<=j)->gt (B5 l lo s.size o) (j:Int)=gt o (j:Int))/\O8 (B5 l lo s.size o) lo s:=by
 intro s
 induction s with
 |
  eps=>
  intro lo h o ho;refine ⟨fun j hj=>?_,trivial⟩;have hg:=h.Z3;simp only [Tm.top,Tm.size,Nat.add_sub_cancel] at hg;simp [B5,Tm.size,a0p,hg,Tm.node]
 |
  leaf s=>
  intro lo h o ho;refine ⟨fun j hj=>?_,trivial⟩;have hg:=h.Z3;simp only [Tm.top,Tm.size,Nat.add_sub_cancel] at hg;simp [B5,Tm.size,a0p,hg,Tm.node]
 |
  cat a b iha ihb | alt a b iha ihb=>
  intro lo h o ho;have hg:=h.Z3;obtain ⟨ha,hb,_⟩:=(At.bin rfl rfl).1 h;have:=a.size_pos;have:=b.size_pos;simp only [Tm.size] at ho;obtain ⟨a1,a2⟩:=iha ha o (by omega);obtain ⟨b1,b2⟩:=ihb hb (B5 l lo a.size o) (by rw [c0A];omega);have e:B5 l lo (a.size+b.size+1) o=a0p l (B5 l (lo+a.size) b.size (B5 l lo a.size o)) (lo+(a.size+b.size)):=by simp only [B5,w0s]
  simp only [Tm.size,e];generalize hv:B5 l (lo+a.size) b.size (B5 l lo a.size o)=v at *;have hvl:v.length=o.length:=by rw [<-hv,c0A,c0A]
  have hi:lo+(a.size+b.size)=lo+(a.size+b.size+1)-1:=by omega
  have hs:a0p l v (lo+(a.size+b.size))=(v.set (a.top lo) ((lo+(a.size+b.size):Nat):Int)).set (b.top (lo+a.size)) ((lo+(a.size+b.size):Nat):Int):=by
   simp only [Tm.top,Tm.size] at hg;rw [<-hi] at hg;generalize lo+(a.size+b.size)=i at hg ⊢;unfold a0p;simp only [hg,Tm.node];simp
  rw [hs];have ta:a.top lo=lo+a.size-1:=rfl;have tb:b.top (lo+a.size)=lo+a.size+b.size-1:=rfl;refine ⟨fun j hj=>?_,?_⟩
  ·simp only [Tm.top,Tm.size] at hj;rw [p9 (by omega),p9 (by omega),b1 j (by omega),a1 j (by omega)]
  ·have tt:lo+(a.size+b.size)=lo+(a.size+b.size+1)-1:=by omega
   refine ⟨?_,?_,?_,?_⟩
   ·rw [p9 (by omega),c0J (by omega)];simp only [Tm.top,Tm.size,tt]
   ·rw [c0J (by simp;omega)];simp only [Tm.top,Tm.size,tt]
   ·exact a2.congr fun j j1 j2=>by rw [p9 (by omega),p9 (by omega),b1 j (by omega)]
   ·exact b2.congr fun j j1 j2=>by rw [p9 (by omega),p9 (by omega)]
 |
  star a iha | maybe a iha | group _ a iha | iter a iha=>
  intro lo h o ho;have hg:=h.Z3;obtain ⟨ha,_⟩:=(At.un rfl rfl).1 h;have:=a.size_pos;simp only [Tm.size] at ho;obtain ⟨a1,a2⟩:=iha ha o (by omega);simp only [Tm.size,B5];generalize hv:B5 l lo a.size o=v at *;have hvl:v.length=o.length:=by rw [<-hv,c0A]
  have hs:a0p l v (lo+a.size)=v.set (a.top lo) ((lo+a.size:Nat):Int):=by
   simp only [Tm.top,Tm.size] at hg;rw [show lo+(a.size+1)-1=lo+a.size from by omega] at hg;generalize lo+a.size=i at hg ⊢;unfold a0p;simp only [hg,Tm.node];simp
  rw [hs];have ta:a.top lo=lo+a.size-1:=rfl;refine ⟨fun j hj=>?_,?_⟩
  ·simp only [Tm.top,Tm.size] at hj;rw [p9 (by omega),a1 j (by omega)]
  ·have tt:lo+a.size=lo+(a.size+1)-1:=by omega
   refine ⟨?_,?_⟩
   ·rw [c0J (by omega)];simp only [Tm.top,Tm.size,tt]
   ·exact a2.congr fun j j1 j2=>by rw [p9 (by omega)]
structure UpT (u:List Int) (t:Tm):Prop where
 len:u.length=t.size
 root:gt u (t.top 0:Int)=-1
 inner:O8 u 0 t
theorem r03 {l:List D0} {t:Tm} (ht:J4 l t) {o:List Int} (ho:o.length=l.length) {i:Nat} (hi:i<l.length) (fuel:Nat) (y:List Int) :
  e0L fuel l (o,(i:Int))=some (.next (a0p l o i,((i+1:Nat):Int)))/\e0d fuel l y (o,(i:Int))=some (.next (a0p l o i,((i+1:Nat):Int))):=by
 have h400:=ht.le;have hlen:=ht.len;have h1:(i:Int)<(l.length:Int):=by omega
 have hin:y0 l (i:Int)=true:=P0 (by omega) (by omega);have hWi:W ((i:Int)+1)=((i+1:Nat):Int):=E2 (by omega);have hib:∀ (o:List Int) (z:Nat),o.length=l.length->z<i->y0 o (z:Int)=true:=fun o z h h2=>P0 (by omega) (by omega);obtain ⟨lo,s,hat,hs⟩:=ht.node hi;have hg:=hat.Z3;rw [hs] at hg;unfold e0L e0d a0p;cases s with
 |eps=>simp [h1,hin,hWi,hg,Tm.node]
 |leaf s=>simp [h1,hin,hWi,hg,Tm.node]
 |
  cat a b | alt a b=>
  have:=a.size_pos;have:=b.size_pos;have pa:a.top lo<i:=by rw [<-hs];simp only [Tm.top,Tm.size];omega
  have pb:b.top (lo+a.size)<i:=by rw [<-hs];simp only [Tm.top,Tm.size];omega
  simp [h1,hin,hWi,hg,Tm.node,hib o _ ho pa,hib (o.set (a.top lo) (i:Int)) _ (by simpa using ho) pb]
 |
  star a | maybe a | group _ a | iter a=>
  have:=a.size_pos;have pa:a.top lo<i:=by rw [<-hs];simp only [Tm.top,Tm.size];omega
  simp [h1,hin,hWi,hg,Tm.node,hib o _ ho pa]
theorem o0p {l:List D0} {t:Tm} (ht:J4 l t) (hR:J2 l=true) {fuel:Nat} (hf:401<fuel):∃ u,R9 fuel l=some u/\UpT u t:=by
 have h400:=ht.le;have hlen:=ht.len;have hp:=t.size_pos;have hmk:B3 8 (l.length:Int)=true:=by simp [B3];omega
 have hW:W ((l.length:Int)-1)=((l.length-1:Nat):Int):=by rw [Z2 (by omega) (by omega)];omega
 let o:List Int:=(List.replicate l.length (0:Int)).set (l.length-1) (-1)
 have ho:o.length=l.length:=by simp [o]
 have e:=V2 (step:=e0L fuel l) (fun i=>(B5 l 0 i o,(i:Int))) (B5 l 0 l.length o) l.length
  (fun i hi=>.inl (by have:=(r03 ht (o:=B5 l 0 i o) (by rw [c0A,ho]) hi fuel []).1;rw [this];simp [B5])) (by unfold e0L;simp) l.length 0 fuel (by omega) (by omega)
 refine ⟨B5 l 0 l.length o,?_,?_⟩
 ·unfold R9;rw [c0N l hf,hR];have hin:y0 (List.replicate l.length (0:Int)) ((l.length-1:Nat):Int)=true:=P0 (by omega) (by simp;omega);simp only [E0,Bool.not_true,false_eq_true,if_false,hmk,if_true,toNat_natCast,hW,hin];simp only [B5] at e;rw [show ((List.replicate l.length (0:Int)).set (l.length-1) (-1),(0:Int))=(o,((0:Nat):Int)) from rfl,e];rfl
 ·obtain ⟨p1,p2⟩:=t0n ht.at0 o (by omega);rw [hlen];refine ⟨by rw [c0A,ho,hlen],?_,p2⟩;rw [p1 _ (.inr (le_refl _)),show t.top 0=l.length-1 from by unfold Tm.top;omega];exact c0J (by simp;omega)
theorem s0j {l:List D0} {t:Tm} (ht:J4 l t) (hR:J2 l=true) {fuel:Nat} (hf:401<fuel):∃ u,a0Z fuel l=some u/\UpT u t:=by
 have h400:=ht.le;have hlen:=ht.len;have hp:=t.size_pos;have hmk:B3 8 (l.length:Int)=true:=by simp [B3];omega
 let o:List Int:=List.replicate l.length (-1)
 have ho:o.length=l.length:=by simp [o]
 have e1:=V2 (step:=f0D fuel l) (fun i=>(List.replicate i (-1)++List.replicate (l.length-i) 0,(i:Int))) (List.replicate l.length (-1)) l.length
   (fun i hi=>.inl (by
    have h1:(i:Int)<(l.length:Int):=by omega
    have hii:y0 (List.replicate i (-1:Int)++List.replicate (l.length-i) 0) (i:Int)=true:=P0 (by omega) (by simp;omega);unfold f0D;simp only [toNat_natCast,h1,decide_true,if_true,hii,E2 (show i<9223372036854775807 by omega)];rw [i0J hi 0,h0s (by simp),List.replicate_succ'];simp)) (by unfold f0D;simp) l.length 0 fuel (by omega) (by omega)
 have e:=V2 (step:=e0d fuel l o) (fun i=>(B5 l 0 i o,(i:Int))) (B5 l 0 l.length o) l.length
  (fun i hi=>.inl (by have:=(r03 ht (o:=B5 l 0 i o) (by rw [c0A,ho]) hi fuel o).2;rw [this];simp [B5])) (by unfold e0d;simp) l.length 0 fuel (by omega) (by omega)
 refine ⟨B5 l 0 l.length o,?_,?_⟩
 ·unfold a0Z;rw [b0g l (fuel:=fuel) (by omega) (by omega),hR];simp only [E0,Bool.not_true,false_eq_true,if_false,hmk,if_true,toNat_natCast];simp only [List.replicate_zero,List.nil_append,sub_zero] at e1;rw [show ((List.replicate l.length (0:Int)),(0:Int))=(List.replicate l.length 0,((0:Nat):Int)) from rfl,e1,E0];simp only [B5] at e;rw [show ((List.replicate l.length (-1:Int)),(0:Int))=(o,((0:Nat):Int)) from rfl,e];rfl
 ·obtain ⟨p1,p2⟩:=t0n ht.at0 o (by omega);rw [hlen];refine ⟨by rw [c0A,ho,hlen],?_,p2⟩;rw [p1 _ (.inr (le_refl _)),show t.top 0=l.length-1 from by unfold Tm.top;omega];have hl1:l.length-1<l.length:=by omega
  exact I3 (by simp only [o,List.getElem?_replicate,hl1,if_true])
def w8 (d:List Int) (lo:Nat) (k:Nat):Tm->Prop
 |.eps=>gt d (lo:Int)=k
 |.leaf _=>gt d (lo:Int)=k
 |.cat a b=>gt d (Tm.top (.cat a b) lo:Int)=k/\w8 d lo (k+1) a/\w8 d (lo+a.size) (k+1) b
 |.alt a b=>gt d (Tm.top (.alt a b) lo:Int)=k/\w8 d lo (k+1) a/\w8 d (lo+a.size) (k+1) b
 |.star a=>gt d (Tm.top (.star a) lo:Int)=k/\w8 d lo (k+1) a
 |.maybe a=>gt d (Tm.top (.maybe a) lo:Int)=k/\w8 d lo (k+1) a
 |.group n a=>gt d (Tm.top (.group n a) lo:Int)=k/\w8 d lo (k+1) a
 |.iter a=>gt d (Tm.top (.iter a) lo:Int)=k/\w8 d lo (k+1) a
theorem w8.top {d:List Int} {lo k:Nat} {s:Tm} (h:w8 d lo k s):gt d (s.top lo:Int)=k:=by
 cases s<;>first | exact h | exact h.1
theorem w8.of {d u:List Int}:∀ {s:Tm} {lo k:Nat},O8 u lo s->gt d (s.top lo:Int)=k->(∀ j p:Nat,lo<=j->j<s.top lo->gt u (j:Int)=p->gt d (j:Int)=gt d (p:Int)+1)->w8 d lo k s:=by
 intro s
 induction s with
 |eps=>intro lo k _ h _;exact h
 |leaf s=>intro lo k _ h _;exact h
 |
  cat a b iha ihb | alt a b iha ihb=>
  intro lo k hu h hs;obtain ⟨h1,h2,h3,h4⟩:=hu;have:=a.size_pos;have:=b.size_pos;simp only [Tm.top,Tm.size] at hs;have sa:=hs _ _ (show lo<=a.top lo by unfold Tm.top;omega) (by unfold Tm.top;omega) h1;have sb:=hs _ _ (show lo<=b.top (lo+a.size) by unfold Tm.top;omega) (by unfold Tm.top;omega) h2;refine ⟨h,iha h3 (by rw [sa,h];rfl) fun j p j1 j2 j3=>hs j p j1 (by unfold Tm.top at j2;omega) j3,ihb h4 (by rw [sb,h];rfl) fun j p j1 j2 j3=>hs j p (by omega) (by unfold Tm.top at j2;omega) j3⟩
 |
  star a iha | maybe a iha | group _ a iha | iter a iha=>
  intro lo k hu h hs;obtain ⟨h1,h3⟩:=hu;have:=a.size_pos;simp only [Tm.top,Tm.size] at hs;have sa:=hs _ _ (show lo<=a.top lo by unfold Tm.top;omega) (by unfold Tm.top;omega) h1;exact ⟨h,iha h3 (by rw [sa,h];rfl) fun j p j1 j2 j3=>hs j p j1 (by unfold Tm.top at j2;omega) j3⟩
theorem O8.behind {u:List Int}:∀ {s:Tm} {lo:Nat},O8 u lo s->∀ j:Nat,lo<=j->j<s.top lo->∃ p:Nat,gt u (j:Int)=p/\j<p/\p<=s.top lo:=by
 intro s
 induction s with
 |eps=>intro lo _ j h1 h2;simp [Tm.top,Tm.size] at h2;omega
 |leaf s=>intro lo _ j h1 h2;simp [Tm.top,Tm.size] at h2;omega
 |
  cat a b iha ihb | alt a b iha ihb=>
  intro lo hu j j1 j2;obtain ⟨h1,h2,h3,h4⟩:=hu;have:=a.size_pos;have:=b.size_pos;simp only [Tm.top,Tm.size] at j2 ⊢;rcases Nat.lt_trichotomy j (a.top lo) with c | c | c
  ·obtain ⟨p,p1,p2,p3⟩:=iha h3 j j1 c;exact ⟨p,p1,p2,by unfold Tm.top at p3;omega⟩
  ·subst c;exact ⟨_,h1,by simp only [Tm.top,Tm.size];omega,by simp only [Tm.top,Tm.size];omega⟩
  ·rcases lt_or_ge j (b.top (lo+a.size)) with c2 | c2
   ·obtain ⟨p,p1,p2,p3⟩:=ihb h4 j (by unfold Tm.top at c;omega) c2;exact ⟨p,p1,p2,by unfold Tm.top at p3;omega⟩
   ·obtain rfl:j=b.top (lo+a.size):=by unfold Tm.top at *;omega
    exact ⟨_,h2,by simp only [Tm.top,Tm.size];omega,by simp only [Tm.top,Tm.size];omega⟩
 |
  star a iha | maybe a iha | group _ a iha | iter a iha=>
  intro lo hu j j1 j2;obtain ⟨h1,h3⟩:=hu;have:=a.size_pos;simp only [Tm.top,Tm.size] at j2 ⊢;rcases lt_or_ge j (a.top lo) with c | c
  ·obtain ⟨p,p1,p2,p3⟩:=iha h3 j j1 c;exact ⟨p,p1,p2,by unfold Tm.top at p3;omega⟩
  ·obtain rfl:j=a.top lo:=by unfold Tm.top at *;omega
   exact ⟨_,h1,by simp only [Tm.top,Tm.size];omega,by simp only [Tm.top,Tm.size];omega⟩
def e07 (u o:List Int) (i:Nat):List Int:=if 0<=gt u (i:Int) then o.set i (gt o (gt u (i:Int))+1) else o.set i 1
structure a0A (d:List Int) (t:Tm):Prop where
 len:d.length=t.size
 deep:w8 d 0 1 t
theorem o04 {u:List Int} {t:Tm} (hu:UpT u t) {step:List Int×Int->Option (U0 (List Int×Int) (List Int))} (hd:∀ o:List Int,step (o,-1)=some (.done o))
  (hs:∀ (o:List Int) (i:Nat),o.length=t.size->i<t.size->(∀ p:Nat,gt u (i:Int)=p->i<p/\p<t.size/\1<=gt o (p:Int)/\gt o (p:Int)<=t.size)->(gt u (i:Int)<0\/∃ p:Nat,gt u (i:Int)=p)->step (o,(i:Int))=some (.next (e07 u o i,(i:Int)-1))) :
  ∀ (k:Nat) (o:List Int),o.length=t.size->k<=t.size->(∀ j:Nat,k<=j->j<t.size->1<=gt o (j:Int)/\gt o (j:Int)<=(t.size-j:Nat))->(k<t.size->gt o (t.top 0:Int)=1)->
   (∀ j p:Nat,k<=j->j<t.top 0->gt u (j:Int)=p->gt o (j:Int)=gt o (p:Int)+1)->∀ m,k<m->∃ d,iter step m (o,(k:Int)-1)=some d/\a0A d t
 |
  0,o,h1,_,h3,h4,h5,m,hm=>by
  obtain ⟨m,rfl⟩:∃ q,m=q+1:=⟨m-1,by omega⟩
  have:=t.size_pos;refine ⟨o,by unfold iter;rw [show ((0:Nat):Int)-1=-1 from rfl,hd],h1,w8.of hu.inner (h4 (by omega)) fun j p j1 j2 j3=>h5 j p j1 j2 j3⟩
 |
  k+1,o,h1,h2,h3,h4,h5,m,hm=>by
  obtain ⟨m,rfl⟩:∃ q,m=q+1:=⟨m-1,by omega⟩
  have hpos:=t.size_pos;have htop:t.top 0=t.size-1:=by unfold Tm.top;omega
  have hcase:(k=t.size-1/\gt u (k:Int)=-1)\/∃ p:Nat,gt u (k:Int)=p/\k<p/\p<t.size/\k<t.top 0:=by
   by_cases e:k=t.size-1
   ·exact .inl ⟨e,by rw [e,<-htop];exact hu.root⟩
   ·obtain ⟨p,p1,p2,p3⟩:=hu.inner.behind k (Nat.zero_le _) (by omega);exact .inr ⟨p,p1,p2,by omega,by omega⟩
  have hst:=hs o k h1 (by omega) (fun p hp=>by
   rcases hcase with ⟨_,e⟩ | ⟨q,q1,q2,q3,_⟩
   ·omega
   ·obtain rfl:p=q:=by omega
    have:=h3 p (by omega) q3;exact ⟨q2,q3,this.1,by omega⟩) (by rcases hcase with ⟨_,e⟩ | ⟨q,q1,_⟩;exact .inl (by omega);exact .inr ⟨q,q1⟩)
  rw [show (((k+1:Nat):Int)-1)=(k:Int) from by omega];unfold iter;rw [hst];have hk1:(1:Int)<=((t.size-k:Nat):Int):=by omega
  have hv:∃ v:Int,e07 u o k=o.set k v/\1<=v/\v<=(t.size-k:Nat)/\(k=t.top 0->v=1)/\∀ p:Nat,gt u (k:Int)=p->v=gt o (p:Int)+1:=by
   rcases hcase with ⟨e1,e⟩ | ⟨q,q1,q2,q3,q4⟩
   ·exact ⟨1,by simp [e07,e],Int.le_refl _,hk1,fun _=>rfl,fun p hp=>by rw [e] at hp;omega⟩
   ·have:=h3 q (by omega) q3;exact ⟨gt o (q:Int)+1,by simp [e07,q1],by omega,by omega,fun h=>by omega,fun p hp=>by rw [show p=q from by omega]⟩
  obtain ⟨v,v1,v2,v3,v4,v5⟩:=hv;rw [v1];refine o04 hu hd hs k (o.set k v) (by simpa using h1) (by omega) (fun j j1 j2=>?_) (fun _=>?_) (fun j p j1 j2 j3=>?_) m (by omega)
  ·by_cases e:j=k
   ·subst e;rw [c0J (by omega)];exact ⟨v2,v3⟩
   ·rw [p9 (by omega)];exact h3 j (by omega) j2
  ·by_cases e:k=t.top 0
   ·rw [<-e,c0J (by omega)];exact v4 e
   ·rw [p9 e];clear hcase v5;exact h4 (by omega)
  ·obtain ⟨p',p1,p2,p3⟩:=hu.inner.behind j (Nat.zero_le _) j2;obtain rfl:p=p':=by omega
   by_cases e:j=k
   ·subst e;rw [c0J (by omega),p9 (by omega)];exact v5 p j3
   ·rw [p9 (by omega),p9 (by omega)];exact h5 j p (by omega) j2 j3
theorem k0o {l:List D0} {t:Tm} (ht:J4 l t) (hR:J2 l=true) {fuel:Nat} (hf:401<fuel):∃ d,a0n fuel l=some d/\a0A d t:=by
 obtain ⟨u,e,hu⟩:=o0p ht hR hf;have h400:=ht.le;have hp:=t.size_pos;have hul:=hu.len;have hmk:B3 8 (u.length:Int)=true:=by simp [B3];omega
 have hW:W ((u.length:Int)-1)=(t.size:Int)-1:=by rw [Z2 (by omega) (by omega)];omega
 unfold a0n;rw [e];simp only [E0,hmk,if_true,toNat_natCast,hW];obtain ⟨d,h1,h2⟩:=o04 hu (step:=g0j fuel u) (fun o=>by unfold g0j;simp) (fun o i h1 h2 h3 h4=>by
  have hin:y0 o (i:Int)=true:=P0 (by omega) (by omega);have hiu:y0 u (i:Int)=true:=P0 (by omega) (by omega);have h0:(i:Int)>=0:=by omega
  have hWi:W ((i:Int)-1)=(i:Int)-1:=Z2 (by omega) (by omega);unfold g0j e07;rcases h4 with h4 | ⟨p,h4⟩
  ·have:¬ gt u (i:Int)>=0:=by omega
   simp [hin,hiu,this,hWi]
  ·obtain ⟨q1,q2,q3,q4⟩:=h3 p h4;have i1:y0 (o.set i 1) (p:Int)=true:=P0 (by omega) (by simp;omega);have i2:y0 (o.set i 1) (i:Int)=true:=P0 (by omega) (by simp;omega);have hW2:W (1+gt o (p:Int))=gt o (p:Int)+1:=by rw [Z2 (by omega) (by omega)];omega
   simp [hin,hiu,h4,i1,i2,hWi,c0J (show i<o.length by omega),p9 (show i≠p by omega),hW2]) t.size (List.replicate u.length 0) (by simp [hul]) (le_refl _) (fun j j1 j2=>by omega) (fun h=>by omega) (fun j p j1 j2=>by unfold Tm.top at j2;omega) fuel (by omega)
 exact ⟨d,by rw [h1];rfl,h2⟩
theorem s0N {l:List D0} {t:Tm} (ht:J4 l t) (hR:J2 l=true) {fuel:Nat} (hf:401<fuel):∃ d,a0V fuel l=some d/\a0A d t:=by
 obtain ⟨u,e,hu⟩:=s0j ht hR hf;have h400:=ht.le;have hp:=t.size_pos;have hul:=hu.len;have hmk:B3 8 (u.length:Int)=true:=by simp [B3];omega
 have hW:W ((u.length:Int)-1)=(t.size:Int)-1:=by rw [Z2 (by omega) (by omega)];omega
 unfold a0V;rw [e];simp only [E0,hmk,if_true,toNat_natCast,hW];obtain ⟨d,h1,h2⟩:=o04 hu (step:=f08 fuel u) (fun o=>by unfold f08;simp) (fun o i h1 h2 h3 h4=>by
  have hin:y0 o (i:Int)=true:=P0 (by omega) (by omega);have hiu:y0 u (i:Int)=true:=P0 (by omega) (by omega);have h0:(i:Int)>=0:=by omega
  have hWi:W ((i:Int)-1)=(i:Int)-1:=Z2 (by omega) (by omega);unfold f08 e07;rcases h4 with h4 | ⟨p,h4⟩
  ·have:¬ gt u (i:Int)>=0:=by omega
   simp [hin,hiu,this,hWi]
  ·obtain ⟨q1,q2,q3,q4⟩:=h3 p h4;have i1:y0 (o.set i 1) (p:Int)=true:=P0 (by omega) (by simp;omega);have i2:y0 (o.set i 1) (i:Int)=true:=P0 (by omega) (by simp;omega);have hW2:W (gt o (p:Int)+1)=gt o (p:Int)+1:=Z2 (by omega) (by omega);simp [hin,hiu,h4,i1,i2,hWi,p9 (show i≠p by omega),hW2]) t.size (List.replicate u.length 0) (by simp [hul]) (le_refl _) (fun j j1 j2=>by omega) (fun h=>by omega) (fun j p j1 j2=>by unfold Tm.top at j2;omega) fuel (by omega)
 exact ⟨d,by rw [h1];rfl,h2⟩
