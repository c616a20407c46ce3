/- P. Its conditions: none. -/
import Derived.Test.YtbccffnofdnpoaaGreatAG40
open Bool (false_eq_true)
open List (getElem_mem take_length range_succ filter_cons filter_nil mem_range mem_of_getElem? map_cons map_nil ext_getElem getElem_map length_map mem_map)
open Nat (zero_le lt_or_ge)
set_option linter.all false
namespace Go.Proofs.YtbccffnofdnpoaaGreat
open Go.V Go.RowKit Old
def Q0 (l:List Nat):List Int:=l.map fun n:Nat=>(n:Int)
@[simp] def c0Q (l:List Nat):(Q0 l).length=l.length:=by simp[Q0]
def f0h {l:List Nat}{i:Nat}(h:i<l.length):gt (Q0 l) (i:Int)=((l[i]:Nat):Int):=P2 (by simp[Q0,h])
def v7 {l:List Nat}{i:Nat}(h:i<l.length):C0 (Q0 l) (i:Int)=true:=R0 O' Z'
def E5 (fD:Nat->Nat->Int)(Q2:Int)(i:Nat):Int:=if Q2<0 then(i:Int)else if 0<fD i Q2.toNat then(i:Int)else Q2
def l7 (fD:Nat->Nat->Int)(of:List Nat):Int:=of.foldl (E5 fD) (-1)
def h0h {α:Type}{l:List α}{i:Nat}(h:i<l.length):l.take (i+1)=l.take i++[l[i]]:=by rw[List.take_succ,List.getElem?_eq_getElem h];rfl
def J0v (fD:Nat->Nat->Int)(l:List Nat)(i:Nat):l7 fD (l++[i])=E5 fD (l7 fD l) i:=by simp[l7]
def e0w {n:Nat}{fD:Nat->Nat->Int}(of:List Nat)(h:∀i∈of,i<n):l7 fD of=-1\/∃k:Nat,l7 fD of=k/\k<n:=by
 have:∀(of:List Nat) (b:Int),(b=-1\/∃k:Nat,b=k/\k<n)->(∀i∈of,i<n)->(of.foldl (E5 fD) b=-1\/∃k:Nat,of.foldl (E5 fD) b=k/\k<n):=by
  intro of
  induction of with
  |nil=>intro b c _;exact c
  |cons x r ih=>
   intro b c hi;refine ih _ ?_ (fun i h=>hi i (List.mem_cons_of_mem _ h));have d:=hi x V';unfold E5;split
   ·exact .inr ⟨x,rfl,d⟩
   ·split
    ·exact .inr ⟨x,rfl,d⟩
    ·exact c
 exact this of (-1) (.inl rfl) h
section
variable {F n:Nat}{fB fD:Nat->Nat->Int}
def y0R (hn:n<=1000)(o:2000<F)(h:b0b n fB fD)(of:List Nat)(q:of.length<=1000)(hi:∀i∈of,i<n):j0y F (R2 n fB fD) (Q0 of)=some (l7 fD of):=by
 unfold j0y;rw[n0U hn o h];simp only[q0,R9];have:=V3 (step:=m0c F (R2 n fB fD) (Q0 of)) (fun i=>(l7 fD (of.take i),(i:Int))) (l7 fD of) of.length (fun i c=>.inl ?_) ?_ of.length 0 F O' O'
 ·exact this
 ·unfold m0c f0v;have h1:(i:Int)<((Q0 of).length:Int):=by simp;omega
  have g:=hi of[i] (getElem_mem c);have m:((of[i]:Nat):Int)>=0:=O'
  have j:((of[i]:Nat):Int)<((R2 n fB fD).B.length:Int):=by simp[R2];omega
  simp only[q0,h1,v7 c,f0h c,m,j,R9,h0h c,J0v,K2 (i:=i) O'];have r:=e0w (fD:=fD) (of.take i) (n:=n) (fun i h=>hi i (List.mem_of_mem_take h));generalize l7 fD (of.take i)=b at *;rcases r with rfl|⟨k,rfl,hk⟩
  ·simp[E5,F0]
  ·have d:¬((k:Int)<0):=O'
   simp only[q0,R2,d,p9 _ g,R8 _ g,a0G _ hk,b06 _ hk,E5,Int.toNat_natCast]
   by_cases f:0<fD of[i] k
   ·have p:fD of[i] k>0:=f;simp[f,F0]
   ·simp[f,F0]
 ·unfold m0c;have h1:¬((of.length:Int)<((Q0 of).length:Int)):=V'
  simp only[q0,h1,take_length]
end
def j9 (b t:Int):Int:=if W (t+1)<b then W (t+1)else b
def agF (fB fD:Nat->Nat->Int)(a b:Nat)(p q:B0):Int:=
 if j9 (fB a b) p.Turn>j9 (fB b a) q.Turn then 1 else if j9 (fB a b) p.Turn<j9 (fB b a) q.Turn then -1 else fD a b
def h0i (fB fD:Nat->Nat->Int)(fr:List Nat)(hops:List B0)(Q2:Int)(i:Nat):Int:=
 if Q2<0 then(i:Int)else if 0<agF fB fD (fr.getD i 0) (fr.getD Q2.toNat 0) (gt hops (i:Int)) (gt hops Q2)then(i:Int)else Q2
def d0D (fB fD:Nat->Nat->Int)(fr:List Nat)(hops:List B0)(k:Nat):Int:=(List.range k).foldl (h0i fB fD fr hops) (-1)
def h0t (fB fD:Nat->Nat->Int)(fr:List Nat)(hops:List B0):Int:=d0D fB fD fr hops fr.length
def t0h (fB fD:Nat->Nat->Int)(fr:List Nat)(hops:List B0)(k:Nat):d0D fB fD fr hops (k+1)=h0i fB fD fr hops (d0D fB fD fr hops k) k:=by simp[d0D,range_succ]
def u0B (fB fD:Nat->Nat->Int)(fr:List Nat)(hops:List B0):∀k,d0D fB fD fr hops k=-1\/∃j:Nat,d0D fB fD fr hops k=j/\j<k:=by
 intro k
 induction k with
 |zero=>exact .inl rfl
 |succ k ih=>
  rw[t0h];unfold h0i;split
  ·exact .inr ⟨k,rfl,O'⟩
  ·split
   ·exact .inr ⟨k,rfl,O'⟩
   ·rcases ih with h|⟨j,h,hj⟩
    ·exact .inl h
    ·exact .inr ⟨j,h,O'⟩
section
variable {F n:Nat}{fB fD:Nat->Nat->Int}{fr:List Nat}{hops:List B0}
def L8 {l:List Nat}{i:Nat}(h:i<l.length):gt (Q0 l) (i:Int)=((l.getD i 0:Nat):Int):=by rw[f0h h];simp[List.getD,h]
def T7 (hi:∀i∈fr,i<n){i:Nat}(h:i<fr.length):fr.getD i 0<n:=by
 have:=hi fr[i] (getElem_mem h);simpa[List.getD,h]using this
def n04 (hlen:hops.length=fr.length)(hi:∀i∈fr,i<n){i k:Nat}(h1:i<fr.length)(c:k<fr.length):
  e0W F ⟨R2 n fB fD,Q0 fr,hops⟩ (i:Int) (k:Int)=some (j9 (fB (fr.getD i 0) (fr.getD k 0)) (gt hops (i:Int)).Turn):=by
 have d:=T7 hi h1;have f:=T7 hi c;unfold e0W j9;simp only[R2,v7 h1,v7 c,L8 h1,L8 c,p9 _ d,R8 _ d,a0G _ f,b06 _ f,if_true,R0 (l:=hops) (i:=(i:Int)) O' O']
def x0J (hlen:hops.length=fr.length)(hi:∀i∈fr,i<n){i k:Nat}(h1:i<fr.length)(c:k<fr.length):
  h0H F ⟨R2 n fB fD,Q0 fr,hops⟩ (i:Int) (k:Int)=some (agF fB fD (fr.getD i 0) (fr.getD k 0) (gt hops (i:Int)) (gt hops (k:Int))):=by
 have d:=T7 hi h1;have f:=T7 hi c;unfold h0H agF;rw[n04 hlen hi h1 c,n04 hlen hi c h1];simp only[F0,R2,v7 h1,v7 c,L8 h1,L8 c,p9 _ d,R8 _ d,a0G _ f,b06 _ f,if_true,decide_eq_true_eq];split
 ·rfl
 ·split<;>rfl
def t0i (hn:n<=1000)(m:2000<F)(h:b0b n fB fD)(hlen:hops.length=fr.length)(p:fr.length<=1000)(hi:∀i∈fr,i<n):e0u F (R2 n fB fD) (Q0 fr) hops=some (h0t fB fD fr hops):=by
 unfold e0u;rw[n0U hn m h];have g:(if(hops.length:Int)<((Q0 fr).length:Int)then(hops.length:Int)else((Q0 fr).length:Int))=(fr.length:Int):=by rw[c0Q,hlen];simp
 simp only[q0,R9,g];have:=V3 (step:=l0D F (R2 n fB fD) (Q0 fr) hops (fr.length:Int)) (fun i=>(d0D fB fD fr hops i,(i:Int))) (h0t fB fD fr hops) fr.length (fun i c=>.inl ?_) ?_ fr.length 0 F O' O'
 ·exact this
 ·unfold l0D f0v;have h1:(i:Int)<(fr.length:Int):=O'
  have s:=T7 hi c;have q:((fr.getD i 0:Nat):Int)>=0:=O'
  have o:((fr.getD i 0:Nat):Int)<((R2 n fB fD).B.length:Int):=by simp only[R2,M0O];omega
  simp only[q0,h1,v7 c,L8 c,q,o,R9,t0h,K2 (i:=i) O'];have r:=u0B fB fD fr hops i;generalize d0D fB fD fr hops i=b at *;rcases r with rfl|⟨k,rfl,hk⟩
  ·simp[h0i,F0]
  ·have j:¬((k:Int)<0):=O'
   simp only[q0,j,x0J hlen hi c (show k<fr.length from O'),h0i,Int.toNat_natCast]
   by_cases f:0<agF fB fD (fr.getD i 0) (fr.getD k 0) (gt hops (i:Int)) (gt hops (k:Int))
   ·have d:agF fB fD (fr.getD i 0) (fr.getD k 0) (gt hops (i:Int)) (gt hops (k:Int))>0:=f;simp only[q0,f,d]
   ·have d:¬agF fB fD (fr.getD i 0) (fr.getD k 0) (gt hops (i:Int)) (gt hops (k:Int))>0:=f;simp only[q0,f,d]
 ·unfold l0D;have h1:¬((fr.length:Int)<(fr.length:Int)):=O'
  simp only[q0,h1];rfl
end
def Y3 (now none_:Int)(tags:List Int)(marks:List R3):List Int:=marks.foldl (s5 now none_) tags
def J08 (now none_:Int)(o:List Int)(m:R3):(s5 now none_ o m).length=o.length:=by
 unfold s5;split
 ·rfl
 ·split
  ·simp
  ·split
   ·simp
   ·split
    ·simp
    ·rfl
def q9 (now none_:Int):∀(marks:List R3) (o:List Int),(Y3 now none_ o marks).length=o.length
 |[],o=>rfl
 |m :: r,o=>by
  have h:=q9 now none_ r (s5 now none_ o m);rw[J08]at h;exact h
section
variable {F:Nat}
theorem h0j {tags:List Int}{marks:List R3}{now none_:Int}(c:tags.length<=1000)(hm:marks.length<=1000000000):b01 F tags marks now none_=some (Y3 now none_ tags marks):=by
 unfold b01;rw[if_pos (by simp[J0];omega)];rfl
def u0t {n:Nat}{x:Int}(d:1<=n)(hn:n<=1000):j0D F (n:Int) x=some (List.replicate n x):=by
 unfold j0D g0u;have h1:¬(n:Int)<1:=O'
 have c:(decide ((0:Int)<=(n:Int))&&decide ((n:Int)<=1000))=true:=by simp;omega
 simp only[q0,h1,R9,Go.X.h0a,c,Int.toNat_natCast]
end
structure Y2 (l:List D0)(n:Nat)(a:List B0)(b:Nat->List B0)(e:Nat->B0×Bool)(z:B0×Bool)(F:Nat):Prop where
 hR:N3 l=true
 hl:l.length*64<=140737488351232
 hn:n=Z0 l l.length
 T:m0a l n a b e z
 f1:2000001<F
 f2:l.length+1<F
 f3:1000000000<F
 TF:m0v l n a b e z F
def a0A (l:List D0)(at_:Int):List Int:=(List.replicate (Z2 l).toNat (-1)).set 0 at_
def k7 (l:List D0):1<=Z2 l/\Z2 l<=19:=by have:=q0g l;unfold Z2;omega
def m0Z (l:List D0)(at_:Int):(a0A l at_).length=(Z2 l).toNat:=by simp[a0A]
section
variable {l:List D0}{n:Nat}{a:List B0}{b:Nat->List B0}{e:Nat->B0×Bool}{z:B0×Bool}{F:Nat}{at_ work:Int}{pl:List Nat}{vals:List (List Int)}{fB fD:Nat->Nat->Int}
def B6 (l:List D0)(n:Nat)(a:List B0)(b:Nat->List B0)(e:Nat->B0×Bool)(z:B0×Bool)(at_ work:Int)(pl:List Nat)(vals:List (List Int))(fB fD:Nat->Nat->Int):L2:=
 ⟨i7 l n a b e z,at_,work,Q0 pl,vals,R2 pl.length fB fD⟩
structure C4 (l:List D0)(n:Nat)(pl:List Nat)(vals:List (List Int))(fB fD:Nat->Nat->Int):Prop where
 len:vals.length=pl.length
 pln:∀p∈pl,p<n
 asc:pl.Pairwise fun a b=>a<b
 row:∀v∈vals,v.length=(Z2 l).toNat
 rk:b0b pl.length fB fD
def u08 {n:Nat}:∀{pl:List Nat} {lo:Nat},(∀p∈pl,lo<=p/\p<n)->pl.Pairwise (fun a b=>a<b)->pl.length+lo<=n\/pl=[]
 |[],_,_,_=>.inr rfl
 |x :: r,lo,h,hp=>by
  obtain⟨h1,c⟩:=List.pairwise_cons.1 hp;have d:=h x V';rcases u08 (pl:=r) (lo:=x+1) (fun p hp=>⟨h1 p hp,(h p (List.mem_cons_of_mem _ hp)).2⟩) c with h3|h3
  ·refine .inl ?_;simp only[List.length_cons];omega
  ·subst h3;refine .inl ?_;simp only[List.length_cons,List.length_nil];omega
def C4.le (h:C4 l n pl vals fB fD):pl.length<=n:=by
 rcases u08 (lo:=0) (fun p hp=>⟨zero_le _,h.pln p hp⟩) h.asc with h1|h1
 ·omega
 ·simp[h1]
def v0j (K:Y2 l n a b e z F)(c:L2)(d:c.chart=i7 l n a b e z):h0e F c=some (a0A l c.at_):=by
 have g:=k7 l;obtain⟨t,f⟩:∃t:Nat,Z2 l=t:=⟨(Z2 l).toNat,O'⟩
 unfold h0e a0A;rw[d,show(i7 l n a b e z).tags=Z2 l from rfl,f,u0t O' O'];simp only[F0,Int.toNat_natCast];rw[if_pos (R0 O' Z')];rfl
def a0v (l:List D0)(z:B0×Bool)(at_:Int):List Int×Bool:=if z.2 then(Y3 at_ (-1) (a0A l at_) (L5 l z.1.Steps),true)else([],false)
def G0Q (K:Y2 l n a b e z F):l0e F (B6 l n a b e z at_ work pl vals fB fD)=some (a0v l z at_):=by
 have f:=k7 l;unfold l0e a0v;rw[v0j K _ rfl];simp only[B6,i7]
 by_cases c:z.2=true
 rotate_left
 ·have c:z.2=false:=by simpa using c
  simp[c]
 ·simp only[q0,c];have d:=f0u l z.1.Steps;have g:=K.T.zl;rw[h0j (by rw[m0Z];omega) O'];rfl
def g0v {β:Type}[Inhabited β]{f:Nat->β}{p:Nat}(h:p<n):gt ((List.range n).map f) (p:Int)=f p:=P2 (by simp[h])
def g02 {β:Type}{f:Nat->β}{p:Nat}(h:p<n):C0 ((List.range n).map f) (p:Int)=true:=R0 O' Z'
def B5 (e:Nat->B0×Bool)(pl:List Nat)(k:Nat):List Nat:=(List.range k).filter fun i=>(e (pl.getD i 0)).2
def v0L (e:Nat->B0×Bool)(pl:List Nat)(k:Nat):B5 e pl (k+1)=if(e (pl.getD k 0)).2 then B5 e pl k++[k]else B5 e pl k:=by
 unfold B5;rw[range_succ,List.filter_append]
 by_cases h:(e (pl.getD k 0)).2=true
 ·simp only[h,if_true,filter_cons,filter_nil]
 ·have h:(e (pl.getD k 0)).2=false:=by simpa using h
  simp only[h,false_eq_true,if_false,filter_cons,filter_nil,List.append_nil]
def m02 (e:Nat->B0×Bool)(pl:List Nat)(k:Nat):(B5 e pl k).length<=k:=Nat.le_trans (List.length_filter_le _ _) V'
def c0c {k i:Nat}(h:i∈B5 e pl k):i<k:=mem_range.1 (List.mem_filter.1 h).1
def c0B (r:List Nat)(i:Nat):Q0 (r++[i])=Q0 r++[(i:Int)]:=by simp[Q0]
def d0C (l:List D0)(e:Nat->B0×Bool)(at_:Int)(pl:List Nat)(vals:List (List Int))(fD:Nat->Nat->Int):List Int×Bool:=
 if l7 fD (B5 e pl pl.length)<0 then([],false)else(Y3 at_ (-1) (gt vals (l7 fD (B5 e pl pl.length))) (L5 l (e (pl.getD (l7 fD (B5 e pl pl.length)).toNat 0)).1.Steps),true)
theorem A0q (C:C4 l n pl vals fB fD){k:Nat}(hk:k<pl.length):(gt vals (k:Int)).length<=1000:=by
 have c:=k7 l;have:=C.row _ (mem_of_getElem? (X4 (l:=vals) (i:=k) (by rw[C.len];exact hk)));omega
def K0u (K:Y2 l n a b e z F)(C:C4 l n pl vals fB fD):e0b F (B6 l n a b e z at_ work pl vals fB fD)=some (d0C l e at_ pl vals fD):=by
 have f1:=K.f1;have hm:=C.le;have hn:=K.T.n64;unfold e0b d0C;have:=V3 (step:=i05 F (B6 l n a b e z at_ work pl vals fB fD)) (fun i=>(Q0 (B5 e pl i),(i:Int))) (Q0 (B5 e pl pl.length)) pl.length (fun i hi=>.inl ?_) ?_ pl.length 0 F O' O'
 ·have c:iter (i05 F (B6 l n a b e z at_ work pl vals fB fD)) F ([],0)=_:=this;rw[c];simp only[F0,B6];rw[y0R O' O' C.rk _ (by have:=m02 e pl pl.length;omega) (fun i h=>c0c h)];rcases e0w (fD:=fD) (B5 e pl pl.length) (n:=pl.length) (fun i h=>c0c h)with hb|⟨k,hb,hk⟩
  ·rw[hb];rfl
  ·have hp:=T7 C.pln hk;have d:¬((k:Int)<0):=O'
   rw[hb];simp only[F0,d,decide_false,false_eq_true,if_false,R0 (l:=vals) (i:=(k:Int)) O' (by rw[C.len];omega),v7 hk,L8 hk,i7,g02 hp,g0v hp,if_true,H3,Int.toNat_natCast];have g:=f0u l (e (pl.getD k 0)).1.Steps;have j:=K.T.el _ hp;rw[h0j (A0q C hk) (by show(L5 l (e (pl.getD k 0)).1.Steps).length<=1000000000;omega)];rfl
 ·unfold i05;have h1:(i:Int)<((Q0 pl).length:Int):=by simp;omega
  have hp:=T7 C.pln hi;have f:J0 8 (Q0 (B5 e pl i)) [(i:Int)]=true:=by have:=m02 e pl i;simp[J0];omega
  simp only[B6,h1,decide_true,if_true,v7 hi,L8 hi,i7,g02 hp,g0v hp,f,K2 (i:=i) O',v0L]
  by_cases c:(e (pl.getD i 0)).2=true
  ·simp only[c,if_true,F0,c0B]
  ·have c:(e (pl.getD i 0)).2=false:=by simpa using c
   simp only[q0,c]
 ·unfold i05;have h1:¬((pl.length:Int)<((Q0 pl).length:Int)):=V'
  simp only[q0,B6,h1]
end
section
variable {F:Nat}
variable {l:List D0}{n:Nat}{a:List B0}{b:Nat->List B0}{e:Nat->B0×Bool}{z:B0×Bool}{at_ work:Int}{pl:List Nat}{vals:List (List Int)}{fB fD:Nat->Nat->Int}
def K0M:(a0v l z at_).1.length<=1000:=by
 have c:=k7 l;unfold a0v;split
 ·rw[q9,m0Z];omega
 ·simp
end
def U4 (vals:List (List Int))(from_:Int)(k:Nat):List Nat:=(List.range k).filter fun(i:Nat)=>decide (gt (gt vals (i:Int)) 0<=from_)
def I0s (vals:List (List Int))(from_:Int)(k:Nat):U4 vals from_ (k+1)=if decide (gt (gt vals (k:Int)) 0<=from_)=true then U4 vals from_ k++[k]else U4 vals from_ k:=by
 unfold U4;rw[range_succ,List.filter_append]
 by_cases h:decide (gt (gt vals (k:Int)) 0<=from_)=true
 ·rw[if_pos h];simp only[filter_cons,h,if_true,filter_nil]
 ·rw[if_neg h];simp only[filter_cons,h,if_false,filter_nil,List.append_nil,false_eq_true]
def z0I (vals:List (List Int))(from_:Int)(k:Nat):(U4 vals from_ k).length<=k:=Nat.le_trans (List.length_filter_le _ _) V'
def g05 {vals:List (List Int)}{from_:Int}{k i:Nat}(h:i∈U4 vals from_ k):i<k:=mem_range.1 (List.mem_filter.1 h).1
section
variable {F:Nat}
def y04 {x:List Int}{of:List Nat}(h:∀i∈of,i<x.length)(hl:of.length<=1000)(d:2000<F):f0r F x (Q0 of)=some (of.map fun i:Nat=>gt x (i:Int)):=by
 unfold f0r;rw[R9];have:=V3 (step:=o0o F x (Q0 of)) (fun i=>((of.take i).map fun i:Nat=>gt x (i:Int),(i:Int))) (of.map fun i:Nat=>gt x (i:Int)) of.length (fun i hi=>.inl ?_) ?_ of.length 0 F O' O'
 ·exact this
 ·unfold o0o;have h1:(i:Int)<((Q0 of).length:Int):=by simp;omega
  have f:=h of[i] (getElem_mem hi);have c:J0 8 ((of.take i).map fun i:Nat=>gt x (i:Int)) [gt x ((of[i]:Nat):Int)]=true:=by simp[J0];omega
  simp only[h1,decide_true,if_true,v7 hi,f0h hi,R0 (l:=x) (i:=((of[i]:Nat):Int)) O' O',c,h0h hi,List.map_append,map_cons,map_nil,K2 (i:=i) O']
 ·unfold o0o;have h1:¬((of.length:Int)<((Q0 of).length:Int)):=V'
  simp only[q0,h1,take_length]
def s0j {x:List (List Int)}{of:List Nat}(h:∀i∈of,i<x.length)(hl:of.length<=1000)(d:2000<F):g0q F x (Q0 of)=some (of.map fun i:Nat=>gt x (i:Int)):=by
 unfold g0q;rw[R9];have:=V3 (step:=n0q F x (Q0 of)) (fun i=>((of.take i).map fun i:Nat=>gt x (i:Int),(i:Int))) (of.map fun i:Nat=>gt x (i:Int)) of.length (fun i hi=>.inl ?_) ?_ of.length 0 F O' O'
 ·exact this
 ·unfold n0q;have h1:(i:Int)<((Q0 of).length:Int):=by simp;omega
  have f:=h of[i] (getElem_mem hi);have c:J0 24 ((of.take i).map fun i:Nat=>gt x (i:Int)) [gt x ((of[i]:Nat):Int)]=true:=by simp[J0];omega
  simp only[h1,decide_true,if_true,v7 hi,f0h hi,R0 (l:=x) (i:=((of[i]:Nat):Int)) O' O',c,h0h hi,List.map_append,map_cons,map_nil,K2 (i:=i) O']
 ·unfold n0q;have h1:¬((of.length:Int)<((Q0 of).length:Int)):=V'
  simp only[q0,h1,take_length]
def H0w {c:L2}{from_:Int}(g:∀v∈c.values,0<v.length)(hl:c.values.length<=1000)(h:2000<F):iter (i0E F c from_) F ([],0)=some (Q0 (U4 c.values from_ c.values.length)):=by
 have:=V3 (step:=i0E F c from_) (fun i=>(Q0 (U4 c.values from_ i),(i:Int))) (Q0 (U4 c.values from_ c.values.length)) c.values.length (fun i hi=>.inl ?_) ?_ c.values.length 0 F O' O'
 ·exact this
 ·unfold i0E;have h1:(i:Int)<(c.values.length:Int):=O'
  have j:=g _ (mem_of_getElem? (X4 hi));have f:J0 8 (Q0 (U4 c.values from_ i)) [(i:Int)]=true:=by have:=z0I c.values from_ i;simp[J0];omega
  simp only[h1,decide_true,if_true,R0 (l:=c.values) (i:=(i:Int)) O' h1,R0 (l:=gt c.values (i:Int)) (i:=0) O' O',f,I0s,K2 (i:=i) O']
  by_cases d:decide (gt (gt c.values (i:Int)) 0<=from_)=true
  ·simp only[d,if_true,F0,c0B]
  ·have d:decide (gt (gt c.values (i:Int)) 0<=from_)=false:=by simpa using d
   simp only[q0,d]
 ·unfold i0E;have h1:¬((c.values.length:Int)<(c.values.length:Int)):=O'
  simp only[q0,h1]
def w0O {β:Type}{n i:Nat}{f:Nat->β}{v:β}:((List.range n).map f).set i v=(List.range n).map fun j=>if j=i then v else f j:=by
 refine ext_getElem V' fun j h1 c=>?_;simp only[List.getElem_set,getElem_map,List.getElem_range]
 by_cases e:i=j
 ·simp[e]
 ·rw[if_neg e,if_neg (fun h=>e h.symm)]
def half (s m:Nat)(st:List Nat)(f:Nat->Nat->Int)(x i:Nat):List Int:=if i<x then L3 s (fun k=>f (st.getD i 0) (st.getD k 0))else L3 m (f (st.getD i 0))
def C0k {m:Nat}{st:List Nat}(h:∀i∈st,i<m)(f:Nat->Nat->Int):(st.map fun i:Nat=>gt (N2 m m f) (i:Int))=(List.range st.length).map (half st.length m st f 0):=by
 refine ext_getElem V' fun j h1 d=>?_;simp only[length_map]at h1;have c:=h st[j] (getElem_mem h1);simp only[getElem_map,List.getElem_range,half,Nat.not_lt_zero,if_false];rw[R8 f c];simp[List.getD,h1]
def L0n (s m:Nat)(st:List Nat)(f:Nat->Nat->Int){x:Nat}:(List.range s).map (fun j=>if j=x then L3 s (fun k=>f (st.getD x 0) (st.getD k 0))else half s m st f x j)=(List.range s).map (half s m st f (x+1)):=by
 refine List.map_congr_left fun j _=>?_;unfold half
 by_cases e:j=x
 ·subst e;simp
 ·rw[if_neg e]
  by_cases c:j<x
  ·rw[if_pos c,if_pos O']
  ·rw[if_neg c,if_neg O']
def O0s {m:Nat}{st:List Nat}(h:∀i∈st,i<m)(hl:st.length<=1000)(c:2000<F)(g:Nat->Int):f0r F (L3 m g) (Q0 st)=some (L3 st.length fun k=>g (st.getD k 0)):=by
 rw[y04 (by simpa using h) hl c];congr 1;refine ext_getElem V' fun j h1 f=>?_;simp only[length_map]at h1;have d:=h st[j] (getElem_mem h1);simp only[getElem_map,b06 g d];simp[L3,List.getD,h1]
def L0P {m:Nat}{st:List Nat}(h:∀i∈st,i<m)(hl:st.length<=1000)(d:2000<F)(fB fD:Nat->Nat->Int):
  iter (j06 F (Q0 st)) F (0,(List.range st.length).map (half st.length m st fB 0),(List.range st.length).map (half st.length m st fD 0)) =
   some (N2 st.length st.length (fun i k=>fB (st.getD i 0) (st.getD k 0)),N2 st.length st.length (fun i k=>fD (st.getD i 0) (st.getD k 0))):=by
 have:=V3 (step:=j06 F (Q0 st)) (fun x=>((x:Int),(List.range st.length).map (half st.length m st fB x),(List.range st.length).map (half st.length m st fD x)))
  (N2 st.length st.length (fun i k=>fB (st.getD i 0) (st.getD k 0)),N2 st.length st.length (fun i k=>fD (st.getD i 0) (st.getD k 0))) st.length (fun x c=>.inl ?_) ?_ st.length 0 F O' O'
 ·exact this
 ·unfold j06;have h1:(x:Int)<((Q0 st).length:Int):=by simp;omega
  have g:∀f:Nat->Nat->Int,half st.length m st f x x=L3 m (f (st.getD x 0)):=fun f=>by unfold half;rw[if_neg O']
  simp only[q0,h1,g02 c,g0v c,g,O0s h hl d,Int.toNat_natCast,w0O,L0n,K2 (i:=x) O']
 ·unfold j06;have h1:¬((st.length:Int)<((Q0 st).length:Int)):=V'
  simp only[q0,h1];have e:∀f:Nat->Nat->Int,(List.range st.length).map (half st.length m st f st.length)=N2 st.length st.length (fun i k=>f (st.getD i 0) (st.getD k 0)):=fun f=>List.map_congr_left fun i hi=>by
   unfold half;rw[if_pos (mem_range.1 hi)]
  rw[e,e]
variable {l:List D0}{n:Nat}{a:List B0}{b:Nat->List B0}{e:Nat->B0×Bool}{z:B0×Bool}{at_ work:Int}{pl:List Nat}{vals:List (List Int)}{fB fD:Nat->Nat->Int}
def K0x (K:Y2 l n a b e z F)(C:C4 l n pl vals fB fD)(from_:Int){st:List Nat}(g:st=U4 vals from_ vals.length):
  e01 F (B6 l n a b e z at_ work pl vals fB fD) from_=some (B6 l n a b e z at_ work (st.map fun i=>pl.getD i 0) (st.map fun i:Nat=>gt vals (i:Int)) (fun i k=>fB (st.getD i 0) (st.getD k 0)) (fun i k=>fD (st.getD i 0) (st.getD k 0))):=by
 have f1:=K.f1;have hm:=C.le;have hn:=K.T.n64;have o:=k7 l;have d:∀i∈st,i<pl.length:=fun i h=>by rw[g]at h;have:=g05 h;rw[C.len]at this;exact this
 have f:st.length<=1000:=by rw[g];have:=z0I vals from_ vals.length;have:=C.len;omega
 unfold e01;have hs:=H0w (F:=F) (c:=B6 l n a b e z at_ work pl vals fB fD) (from_:=from_) (fun v m=>by have:=C.row v m;omega) (by show vals.length<=1000;rw[C.len];omega) O';rw[hs,show U4 (B6 l n a b e z at_ work pl vals fB fD).values from_ (B6 l n a b e z at_ work pl vals fB fD).values.length=st from g.symm];simp only[F0,B6,R2,y04 (x:=Q0 pl) (of:=st) (F:=F) (by simpa using d) f O',s0j (x:=vals) (of:=st) (F:=F) (by rw[C.len];exact d) f O',s0j (x:=N2 pl.length pl.length fB) (of:=st) (F:=F) (by simpa using d) f O',s0j (x:=N2 pl.length pl.length fD) (of:=st) (F:=F) (by simpa using d) f O',C0k d,L0P d f (show 2000<F from O'),length_map];congr 2;refine ext_getElem V' fun j h1 p=>?_;simp only[length_map]at h1;simp only[Q0,getElem_map];exact L8 (d st[j] (getElem_mem h1))
end
section
variable {F:Nat}{l:List D0}{n:Nat}{a:List B0}{b:Nat->List B0}{e:Nat->B0×Bool}{z:B0×Bool}{at_ work:Int}{pl:List Nat}{vals:List (List Int)}{fB fD:Nat->Nat->Int}
def q09 (vals:List (List Int))(from_:Int)(k:Nat):(U4 vals from_ k).Pairwise fun a b=>a<b:=List.Pairwise.filter _ List.pairwise_lt_range
def s0W {st:List Nat}(h:st.Pairwise fun a b=>a<b){i k:Nat}(hk:k<st.length)(c:i<k):st.getD i 0<st.getD k 0:=by
 have:=List.pairwise_iff_getElem.1 h i k O' hk c;simpa[List.getD,hk,show i<st.length from O']using this
def o0X (C:C4 l n pl vals fB fD){st:List Nat}(hs:st.Pairwise fun a b=>a<b)(c:∀i∈st,i<pl.length):
  C4 l n (st.map fun i=>pl.getD i 0) (st.map fun i:Nat=>gt vals (i:Int)) (fun i k=>fB (st.getD i 0) (st.getD k 0)) (fun i k=>fD (st.getD i 0) (st.getD k 0)) where
 len:=V'
 pln p hp:=by
  obtain⟨i,hi,rfl⟩:=mem_map.1 hp;exact T7 C.pln (c i hi)
 asc:=by
  rw[List.pairwise_map];exact hs.imp_of_mem fun {x y} m f d=>s0W C.asc (c y f) d
 row v hv:=by
  obtain⟨i,hi,rfl⟩:=mem_map.1 hv;exact C.row _ (mem_of_getElem? (X4 (l:=vals) (i:=i) (by rw[C.len];exact c i hi)))
 rk:=by
  have g:∀i,i<(st.map fun i=>pl.getD i 0).length->i<st.length/\st.getD i 0<pl.length:=fun i hi=>by
   simp only[length_map]at hi;exact⟨hi,T7 c hi⟩
  refine⟨fun i k hi hk=>C.rk.b0 _ _ (g i hi).2 (g k hk).2,fun i hi=>C.rk.bd _ (g i hi).2,fun i hi=>C.rk.dd _ (g i hi).2,fun i k hi hk j=>C.rk.d1 _ _ (g i hi).2 (g k hk).2 ?_,fun i k hi hk=>C.rk.dn _ _ (g i hi).2 (g k hk).2⟩;rcases lt_or_ge i k with h|h
  ·have:=s0W hs (g k hk).1 h;omega
  ·have:=s0W hs (g i hi).1 (show k<i from O');omega
end
theorem o0B {l:List D0}:∀{n:Nat} {a:List Int},N5 l n=some a->∀j,j<n->∃b,N5 l j=some b/\b.length=j/\(∀i:Nat,i<j->gt a (i:Int)=gt b (i:Int))/\gt a (j:Int)=B4 l b j/\0<=B4 l b j
 |0,a,h,j,f=>O'
 |n+1,a,h,j,f=>by
  simp only[N5]at h;split at h
  ·cases h
  ·rename_i b d;split at h
   ·rename_i hg;cases h;have hl:=(d00 d).len;simp only[D7,Bool.and_eq_true,decide_eq_true_eq]at hg
    by_cases e:j=n
    ·simp_all[b0l,c0Z]
    ·obtain⟨c,h1,k,g,o,m⟩:=o0B d j O'
     grind [b0l]
   grind
def C0Q {c:Prop}[Decidable c]{v z:Int}(h:0<=if c then v else -1)(e:v=z):(if c then v else -1)=z:=by
 omega
theorem B0C {l:List D0}:∀{s:Tm} {lo n:Nat} {a:List Int},At l lo s->s.top lo<n->N5 l n=some a->gt a (s.top lo:Int)=lo:=by
 intro s
 induction s with
 |eps|leaf s=>
  intro lo n a h hn ha;obtain⟨b,h1,k,j,f,d⟩:=o0B ha _ hn;have hg:=h.P5
  simp_all[B4,Tm.node,Tm.top,Tm.size]
 |cat x y c i|alt x y c i=>
  intro lo n a h hn ha;obtain⟨b,h1,k,j,f,d⟩:=o0B ha _ hn;have hg:=h.P5;obtain⟨g,o,_⟩:=(At.bin rfl rfl).1 h;have:=y.size_pos;rw[f];have m:=c g (n:=Tm.top _ lo) (a:=b) (by grind [Tm.top,Tm.size]) h1;unfold B4 at d ⊢;rw[hg]at d ⊢
  simp_all[Tm.node,C0Q]
 |star x c|maybe x c|group _ x c|iter x c=>
  intro lo n a h hn ha;obtain⟨b,h1,k,j,f,d⟩:=o0B ha _ hn;have hg:=h.P5;obtain⟨g,_⟩:=(At.un rfl rfl).1 h;have:=x.size_pos;rw[f];have m:=c g (n:=Tm.top _ lo) (a:=b) (by grind [Tm.top,Tm.size]) h1;unfold B4 at d ⊢;rw[hg]at d ⊢;simp only[Tm.node]at d ⊢;omega
theorem g0J {l:List D0}(hR:N3 l=true){s:Tm}{lo:Nat}(h:At l lo s):gt (S5 l) (s.top lo:Int)=lo:=by
 have c:=h.a0g;unfold N3 at hR;unfold S5 at hR ⊢;cases e:N5 l l.length with
 |none=>simp_all
 |some a=>
  split
  ·grind
  grind [B0C]
theorem D0B {l:List D0}(hR:N3 l=true){s:Tm}{lo:Nat}(h:At l lo s){q:Nat}(h1:lo<=q)(c:q<lo+s.size):(lo:Int)<=gt (S5 l) (q:Int):=by
 obtain⟨lo',f,d,i,g,_⟩:=h.x02 q h1 c
 grind [g0J]
def I7 (l:List D0)(a b:Nat)(q:Nat):Bool:=decide (gt (S5 l) (q:Int)<=(a:Int))&&(decide (a<=q)&&(decide (gt (S5 l) (q:Int)<=(b:Int))&&decide (b<=q)))
theorem h0m {l:List D0}{a b q:Nat}:I7 l a b q=true↔gt (S5 l) (q:Int)<=(a:Int)/\a<=q/\gt (S5 l) (q:Int)<=(b:Int)/\b<=q:=by
 simp[I7]
def c0s (b:Nat):List Fr->Nat->Tm->Nat
 |[],lo,s=>s.top lo
 |f :: fs,lo,s=>if lo<=b/\b<=s.top lo then s.top lo else c0s b fs (lo-f.off) (f.M3 s)
theorem E0p {l:List D0}{t:Tm}(o:K5 l t)(hR:N3 l=true){a b:Nat}(U:b<l.length):∀(fs:List Fr) (lo:Nat) (s:Tm),Ctx t lo s fs->lo<=a->a<=s.top lo->(∀q,lo<=q->q<s.top lo->I7 l a b q=false)->
  I7 l a b (c0s b fs lo s)=true/\(∀q,q<c0s b fs lo s->I7 l a b q=false)/\c0s b fs lo s<l.length:=by
 intro fs
 induction fs with
 |nil=>
  intro lo s m h1 r u;obtain⟨rfl,rfl⟩:=m;have hlen:=o.len;have hl:=g0J hR o.at0;simp only[c0s];refine⟨h0m.2 ⟨O',r,O',by grind [Tm.top]⟩,fun q hq=>u q (zero_le _) hq,by grind [Tm.top]⟩
 |cons f fs ih=>
  intro lo s m h1 r u;have k:=m.at_ o;have w:=g0J hR k;have v:=k.a0g;simp only[c0s];split
  ·grind [I7]
  ·obtain⟨g,h⟩:=m;have d:=h.at_ o;have I:=s.size_pos;have C:∀q,lo<=q->q<=s.top lo->I7 l a b q=false:=fun q i p=>by
    grind [h0m]
   have R:∀q,q<lo->I7 l a b q=false:=fun q i=>by
    grind [h0m]
   have j:∀(y:Tm),At l (lo+s.size) y->∀q,lo+s.size<=q->q<lo+s.size+y.size->I7 l a b q=false:=fun y J q i p=>by
    have x:=D0B hR J i p
    grind [h0m,Tm.top]
   have all:∀q,lo-f.off<=q->q<(f.M3 s).top (lo-f.off)->I7 l a b q=false:=fun q i p=>by
    rcases lt_or_ge q lo with c|c
    ·simp_all
    ·rcases lt_or_ge (s.top lo) q with c2|c2
     ·cases f<;>simp only[Fr.M3,Fr.off,Nat.sub_zero,Tm.top,Tm.size]at i p c2 d g
      case catL y=>exact j y ((At.bin rfl rfl).1 d).2.1 q O' O'
      case altL y=>exact j y ((At.bin rfl rfl).1 d).2.1 q O' O'
      all_goals omega
     simp_all
   refine ih _ _ h O' ?_ all;cases f<;>simp only[Fr.M3,Fr.off,Nat.sub_zero,Tm.top,Tm.size]at r g ⊢<;>omega
def o8 (l:List D0)(a b:Nat):Nat:=((List.range l.length).find? (I7 l a b)).getD 0
def E0K {P:Nat->Bool}{n k:Nat}(hk:k<n)(h:P k=true)(c:∀q,q<k->P q=false):(List.range n).find? P=some k:=by
 simp_all
def O0w {l:List D0}{a b k:Nat}(hk:k<l.length)(h:I7 l a b k=true)(c:∀q,q<k->I7 l a b q=false):o8 l a b=k:=by
 unfold o8;rw[E0K hk h c];rfl
theorem y0m (l:List D0)(a b:Nat):o8 l a b=o8 l b a:=by
 have:I7 l a b=I7 l b a:=funext fun q=>by
  grind [I7]
 simp_all[o8]
def A03 {l:List D0}{t:Tm}(d:K5 l t){q:Nat}(hq:q<l.length):∃lo s fs,Ctx t lo s fs/\s.top lo=q:=by
 have c:Ctx t 0 t []:=⟨rfl,rfl⟩
 exact c.down q (zero_le _) (by have:=d.len;omega)
theorem t0C {l:List D0}(hw:∀x∈l,V2 x)(hR:N3 l=true){a b:Nat}(ha:a<l.length)(g:b<l.length):o8 l a b<l.length/\I7 l a b (o8 l a b)=true/\∀q,q<o8 l a b->I7 l a b q=false:=by
 obtain⟨t,f⟩:=c0v hw hR;have c:=f.at0;have hlen:=f.len;have hl:=g0J hR c;have d:I7 l a b (l.length-1)=true:=h0m.2 ⟨by simp_all[Tm.top],O',by simp_all[Tm.top],O'⟩;cases e:(List.range l.length).find? (I7 l a b)with
 |none=>
  grind
 |some k=>
  have:o8 l a b=k:=by grind [o8]
  simp_all
theorem z0Q {d p:List Int}:∀{s:Tm} {lo k:Nat},D8 d lo k s->D8 p lo k s->∀j:Nat,lo<=j->j<=s.top lo->gt d (j:Int)=gt p (j:Int)/\(k:Int)<=gt d (j:Int)/\gt d (j:Int)<k+s.size:=by
 intro s
 induction s with
 |eps|leaf s=>
  grind [Tm.top,Tm.size,D8]
 |cat a b f i|alt a b f i=>
  intro lo k h g j t m;obtain⟨p1,r,v⟩:=h;obtain⟨o,q,u⟩:=g;simp only[Tm.top,Tm.size]at p1 o m ⊢;rcases lt_or_ge j (lo+a.size)with c|c
  ·grind [Tm.top]
  grind [Tm.top]
 |star a f|maybe a f|group _ a f|iter a f=>
  intro lo k h g j t m;obtain⟨p1,r⟩:=h;obtain⟨o,q⟩:=g
  grind [Tm.top,Tm.size]
theorem G0P {d f:List Int}{t:Tm}(h:c0d d t)(c:c0d f t):d=f:=by
 refine ext_getElem (by rw[h.len,c.len]) fun j h1 g=>?_;have e:=(z0Q h.deep c.deep j (zero_le _) (by have:=h.len;grind [Tm.top])).1
 simp_all[P2]
def b0o (l:List D0):List Int:=(e0E 402 l).getD []
def v0q {l:List D0}{t:Tm}(c:K5 l t)(hR:N3 l=true):c0d (b0o l) t:=by
 obtain⟨d,h1,f⟩:=Old.n0z c hR (show 401<402 from O')
 simp_all[b0o]
theorem m0h {l:List D0}(hw:∀x∈l,V2 x)(hR:N3 l=true):(b0o l).length=l.length/\∀q:Nat,q<l.length->1<=gt (b0o l) (q:Int)/\gt (b0o l) (q:Int)<=400:=by
 obtain⟨t,c⟩:=c0v hw hR;have h:=v0q c hR;have d:=c.le;have hlen:=c.len;refine⟨by rw[h.len,hlen],fun q hq=>?_⟩;have:=(z0Q h.deep h.deep q (zero_le _) (by grind [Tm.top])).2;omega
def C0U {l:List D0}(hw:∀x∈l,V2 x)(hR:N3 l=true){F:Nat}(f:401<F):e0E F l=some (b0o l):=by
 obtain⟨t,c⟩:=c0v hw hR;obtain⟨d,h1,g⟩:=Old.n0z c hR f;rw[G0P g (v0q c hR)]at h1;exact h1
def a0E (l:List D0)(x y:B0):Int:=gt (b0o l) ((o8 l (gt (C3 l l.length) x.To).toNat (gt (C3 l l.length) y.To).toNat:Nat):Int)+1
def g0b (l:List D0)(x y:B0):Bool:=(gt l ((o8 l (gt (C3 l l.length) x.To).toNat (gt (C3 l l.length) y.To).toNat:Nat):Int)).Kind==3
def J8 (l:List D0)(x y:B0):Int×Int×Int:=
 if x.Turn>y.Turn then(x.Turn+1,y.Turn+1,1)else if x.Turn<y.Turn then(x.Turn+1,y.Turn+1,-1)else
 if x.To>y.To then(a0E l x y,if g0b l x y then a0E l x y+1 else a0E l x y,-1)else(if g0b l x y then a0E l x y+1 else a0E l x y,a0E l x y,1)
def K08 (l:List D0)(x y:B0):a0E l x y=a0E l y x:=by unfold a0E;rw[y0m]
def G0q (l:List D0)(x y:B0):g0b l x y=g0b l y x:=by unfold g0b;rw[y0m]
def p0f (l:List D0)(x y:B0)(h:x.To≠y.To):J8 l y x=((J8 l x y).2.1,(J8 l x y).1,- (J8 l x y).2.2):=by
 unfold J8;rw[K08 l y x,G0q l y x];rcases Int.lt_trichotomy x.Turn y.Turn with c|c|c
 ·rw[if_pos (show y.Turn>x.Turn from c),if_neg (show ¬x.Turn>y.Turn from O'),if_pos c];simp
 ·rw[if_neg (show ¬y.Turn>x.Turn from O'),if_neg (show ¬y.Turn<x.Turn from O'),if_neg (show ¬x.Turn>y.Turn from O'),if_neg (show ¬x.Turn<y.Turn from O')];rcases Int.lt_or_gt_of_ne h with c2|c2
  ·rw[if_pos (show y.To>x.To from c2),if_neg (show ¬x.To>y.To from O')]
  ·rw[if_neg (show ¬y.To>x.To from O'),if_pos (show x.To>y.To from c2)];simp
 ·rw[if_neg (show ¬y.Turn>x.Turn from O'),if_pos (show y.Turn<x.Turn from c),if_pos (show x.Turn>y.Turn from c)]
structure O8 (n:Nat)(h:B0):Prop where
 to0:0<=h.To
 to1:h.To<n
 t0:0<=h.Turn
 t1:h.Turn<=400
def z0B {l:List D0}(hw:∀x∈l,V2 x)(hR:N3 l=true){n:Nat}(hn:n=Z0 l l.length){x y:B0}(f:O8 n x)(g:O8 n y):0<=(J8 l x y).1/\0<=(J8 l x y).2.1/\((J8 l x y).2.2=1\/(J8 l x y).2.2=-1):=by
 have hq:1<=a0E l x y:=by
  obtain⟨h1,o,h,k⟩:=f;obtain⟨r,k2,m,s⟩:=g;obtain⟨p,hp,c,_⟩:=b0N l l.length x.To.toNat O';obtain⟨q,hq,d,_⟩:=b0N l l.length y.To.toNat O';have j:gt (C3 l l.length) x.To=(p:Int):=m0y c;have i:gt (C3 l l.length) y.To=(q:Int):=m0y d;have t:=(t0C hw hR (a:=p) (b:=q) hp hq).1;have:=((m0h hw hR).2 _ t).1;unfold a0E;rw[j,i];simp only[Int.toNat_natCast];omega
 obtain⟨h1,o,h,k⟩:=f;obtain⟨r,k2,m,s⟩:=g;unfold J8;split
 ·exact⟨by simp only;omega,by simp only;omega,.inl rfl⟩
 ·split
  ·exact⟨by simp only;omega,by simp only;omega,.inr rfl⟩
  ·split
   ·refine⟨by simp only;omega,?_,.inr rfl⟩;simp only;split<;>omega
   ·refine⟨?_,by simp only;omega,.inl rfl⟩;simp only;split<;>omega
section
variable (l:List D0)(fB fD:Nat->Nat->Int)(fr:List Nat)(hops:List B0)
def b6 (i k:Nat):Int:=if i=k then 0 else if fr.getD i 0=fr.getD k 0 then(J8 l (gt hops (i:Int)) (gt hops (k:Int))).1 else j9 (fB (fr.getD i 0) (fr.getD k 0)) (gt hops (i:Int)).Turn
def M6 (i k:Nat):Int:=if i=k then 0 else if fr.getD i 0=fr.getD k 0 then(J8 l (gt hops (i:Int)) (gt hops (k:Int))).2.2 else agF fB fD (fr.getD i 0) (fr.getD k 0) (gt hops (i:Int)) (gt hops (k:Int))
end
def L0F {fB fD:Nat->Nat->Int}{a b:Nat}{p q:B0}(h:fD b a=- fD a b):agF fB fD b a q p=- agF fB fD a b p q:=by
 unfold agF;rcases Int.lt_trichotomy (j9 (fB a b) p.Turn) (j9 (fB b a) q.Turn)with c|c|c
 ·rw[if_pos c,if_neg (show ¬j9 (fB a b) p.Turn>j9 (fB b a) q.Turn from O'),if_pos c];rfl
 ·rw[if_neg O',if_neg O',if_neg O',if_neg O',h]
 ·rw[if_neg O',if_pos c,if_pos c]
def E0D {b t:Int}(f:0<=b)(d:0<=t)(c:t<=400):0<=j9 b t:=by
 unfold j9;rw[J3 O' O'];split<;>omega
def D0a {fB fD:Nat->Nat->Int}{a b:Nat}{p q:B0}(h:fD a b=1\/fD a b=-1):agF fB fD a b p q=1\/agF fB fD a b p q=-1:=by
 unfold agF;split
 ·exact .inl rfl
 ·split
  ·exact .inr rfl
  ·exact h
def c0t {n:Nat}{hops:List B0}(h:∀x∈hops,O8 n x){i:Nat}(hi:i<hops.length):O8 n (gt hops (i:Int)):=h _ (mem_of_getElem? (X4 hi))
def v0K {hops:List B0}(h:hops.Pairwise fun a b=>a.To<b.To){i k:Nat}(hi:i<hops.length)(hk:k<hops.length)(d:i≠k):(gt hops (i:Int)).To≠(gt hops (k:Int)).To:=by
 have hp:=List.pairwise_iff_getElem.1 h;have g:gt hops (i:Int)=hops[i]:=P2 (by simp[hi]);have f:gt hops (k:Int)=hops[k]:=P2 (by simp[hk]);rw[g,f];rcases Nat.lt_or_gt_of_ne d with c|c
 ·have:=hp i k hi hk c;omega
 ·have:=hp k i hk hi c;omega
def u0R {l:List D0}(hw:∀x∈l,V2 x)(hR:N3 l=true){n:Nat}(hn:n=Z0 l l.length){m:Nat}{fB fD:Nat->Nat->Int}(h:b0b m fB fD){fr:List Nat}{hops:List B0}(hi:∀i∈fr,i<m)(hlen:hops.length=fr.length)(g:∀x∈hops,O8 n x)
  (c:hops.Pairwise fun a b=>a.To<b.To):b0b fr.length (b6 l fB fr hops) (M6 l fB fD fr hops) where
 b0 i k h1 h2:=by
  have d:=c0t g (i:=i) O';have j:=c0t g (i:=k) O';unfold b6;split
  ·exact Int.le_refl _
  ·split
   ·exact(z0B hw hR hn d j).1
   ·exact E0D (h.b0 _ _ (T7 hi h1) (T7 hi h2)) d.t0 d.t1
 bd i h1:=by unfold b6;rw[if_pos rfl]
 dd i h1:=by unfold M6;rw[if_pos rfl]
 d1 i k h1 h2 hne:=by
  have d:=c0t g (i:=i) O';have j:=c0t g (i:=k) O';unfold M6;rw[if_neg hne];split
  ·exact(z0B hw hR hn d j).2.2
  ·rename_i o;exact D0a (h.d1 _ _ (T7 hi h1) (T7 hi h2) o)
 dn i k h1 h2:=by
  unfold M6
  by_cases e:i=k
  ·subst e;rw[if_pos rfl];rfl
  ·rw[if_neg e,if_neg (fun h=>e h.symm)]
   by_cases f:fr.getD i 0=fr.getD k 0
   ·rw[if_pos f,if_pos f.symm,p0f l _ _ (v0K c O' O' e)]
   ·rw[if_neg f,if_neg (fun h=>f h.symm)];exact L0F (h.dn _ _ (T7 hi h1) (T7 hi h2))
