/- P. Its conditions: none. -/
import Derived.Test.YtmhooikfkhjijaaGreatYG41
open List (range_succ getElem_mem filter_cons filter_nil mem_range mem_of_getElem? map_cons map_nil ext_getElem getElem_map getElem_range length_map mem_map)
open Bool (false_eq_true)
open Nat (zero_le lt_or_ge)
set_option linter.all false
namespace Go.Proofs.YtmhooikfkhjijaaGreat
open Go.V Go.RowKit Old
def J4 (b t:Int):Int:=if W (t+1)<b then W (t+1)else b
def i7 (fB fD:Nat->Nat->Int)(a b:Nat)(p q:y0):Int:=
 if J4 (fB a b) p.Turn>J4 (fB b a) q.Turn then 1 else if J4 (fB a b) p.Turn<J4 (fB b a) q.Turn then -1 else fD a b
def e0A (fB fD:Nat->Nat->Int)(fr:List Nat)(hops:List y0)(K3:Int)(i:Nat):Int:=
 if K3<0 then(i:Int)else if 0<i7 fB fD (fr.getD i 0) (fr.getD K3.toNat 0) (gt hops (i:Int)) (gt hops K3)then(i:Int)else K3
def c0a (fB fD:Nat->Nat->Int)(fr:List Nat)(hops:List y0)(k:Nat):Int:=(List.range k).foldl (e0A fB fD fr hops) (-1)
def f0y (fB fD:Nat->Nat->Int)(fr:List Nat)(hops:List y0):Int:=c0a fB fD fr hops fr.length
def i0n (fB fD:Nat->Nat->Int)(fr:List Nat)(hops:List y0)(k:Nat):c0a fB fD fr hops (k+1)=e0A fB fD fr hops (c0a fB fD fr hops k) k:=by simp[c0a,range_succ]
def l0Q (fB fD:Nat->Nat->Int)(fr:List Nat)(hops:List y0):∀k,c0a fB fD fr hops k=-1\/∃j:Nat,c0a fB fD fr hops k=j/\j<k:=by
 intro k
 induction k with
 |zero=>exact .inl rfl
 |succ k ih=>
  rw[i0n];unfold e0A;split
  ·exact .inr ⟨k,rfl,by omega⟩
  ·split
   ·exact .inr ⟨k,rfl,by omega⟩
   ·rcases ih with h|⟨j,h,hj⟩
    ·exact .inl h
    ·exact .inr ⟨j,h,by omega⟩
section
variable {F n:Nat}{fB fD:Nat->Nat->Int}{fr:List Nat}{hops:List y0}
def a0G {l:List Nat}{i:Nat}(h:i<l.length):gt (J2 l) (i:Int)=((l.getD i 0:Nat):Int):=by rw[r0M h];simp[List.getD,h]
def E8 (hi:∀i∈fr,i<n){i:Nat}(h:i<fr.length):fr.getD i 0<n:=by
 have:=hi fr[i] (getElem_mem h);simpa[List.getD,h]using this
def j02 (hlen:hops.length=fr.length)(hi:∀i∈fr,i<n){i k:Nat}(h1:i<fr.length)(c:k<fr.length):
  e0M F ⟨D3 n fB fD,J2 fr,hops⟩ (i:Int) (k:Int)=some (J4 (fB (fr.getD i 0) (fr.getD k 0)) (gt hops (i:Int)).Turn):=by
 have f:=E8 hi h1;have d:=E8 hi c;unfold e0M J4;simp only[D3,a0h h1,a0h c,a0G h1,a0G c,U9 _ f,a0g _ f,a0P _ d,d0w _ d,if_true,R0 (l:=hops) (i:=(i:Int)) (by omega) (by omega)]
def p0R (hlen:hops.length=fr.length)(hi:∀i∈fr,i<n){i k:Nat}(h1:i<fr.length)(c:k<fr.length):
  h0v F ⟨D3 n fB fD,J2 fr,hops⟩ (i:Int) (k:Int)=some (i7 fB fD (fr.getD i 0) (fr.getD k 0) (gt hops (i:Int)) (gt hops (k:Int))):=by
 have f:=E8 hi h1;have d:=E8 hi c;unfold h0v i7;rw[j02 hlen hi h1 c,j02 hlen hi c h1];simp only[G0,D3,a0h h1,a0h c,a0G h1,a0G c,U9 _ f,a0g _ f,a0P _ d,d0w _ d,if_true,decide_eq_true_eq];split
 ·rfl
 ·split<;>rfl
def r0T (hn:n<=1000)(o:2000<F)(h:a0s n fB fD)(hlen:hops.length=fr.length)(r:fr.length<=1000)(hi:∀i∈fr,i<n):f0V F (D3 n fB fD) (J2 fr) hops=some (f0y fB fD fr hops):=by
 unfold f0V;rw[i0o hn o h];have g:(if(hops.length:Int)<((J2 fr).length:Int)then(hops.length:Int)else((J2 fr).length:Int))=(fr.length:Int):=by rw[i0f,hlen];simp
 simp only[q0,s9,g];have:=R4 (step:=j0q F (D3 n fB fD) (J2 fr) hops (fr.length:Int)) (fun i=>(c0a fB fD fr hops i,(i:Int))) (f0y fB fD fr hops) fr.length (fun i c=>.inl ?_) ?_ fr.length 0 F (by omega) (by omega)
 ·exact this
 ·unfold j0q e0p;have h1:(i:Int)<(fr.length:Int):=by omega
  have s:=E8 hi c;have q:((fr.getD i 0:Nat):Int)>=0:=by omega
  have p:((fr.getD i 0:Nat):Int)<((D3 n fB fD).B.length:Int):=by simp only[D3,q0M];omega
  simp only[q0,h1,a0h c,a0G c,q,p,s9,i0n,G3 (i:=i) (by omega)];have m:=l0Q fB fD fr hops i;generalize c0a fB fD fr hops i=b at *;rcases m with rfl|⟨k,rfl,hk⟩
  ·simp[e0A,G0]
  ·have j:¬((k:Int)<0):=by omega
   simp only[q0,j,p0R hlen hi c (show k<fr.length by omega),e0A,Int.toNat_natCast]
   by_cases f:0<i7 fB fD (fr.getD i 0) (fr.getD k 0) (gt hops (i:Int)) (gt hops (k:Int))
   ·have d:i7 fB fD (fr.getD i 0) (fr.getD k 0) (gt hops (i:Int)) (gt hops (k:Int))>0:=f;simp only[q0,f,d]
   ·have d:¬i7 fB fD (fr.getD i 0) (fr.getD k 0) (gt hops (i:Int)) (gt hops (k:Int))>0:=f;simp only[q0,f,d]
 ·unfold j0q;have h1:¬((fr.length:Int)<(fr.length:Int)):=by omega
  simp only[q0,h1];rfl
end
def S6 (now none_:Int)(tags:List Int)(marks:List G2):List Int:=marks.foldl (o5 now none_) tags
def m0K (now none_:Int)(o:List Int)(m:G2):(o5 now none_ o m).length=o.length:=by
 unfold o5;split
 ·rfl
 ·split
  ·simp
  ·split
   ·simp
   ·split
    ·simp
    ·rfl
def h0s (now none_:Int):∀(marks:List G2) (o:List Int),(S6 now none_ o marks).length=o.length
 |[],o=>rfl
 |m :: r,o=>by
  have h:=h0s now none_ r (o5 now none_ o m);rw[m0K]at h;exact h
section
variable {F:Nat}
def m04 {tags:List Int}{marks:List G2}{now none_:Int}(c:tags.length<=1000)(hm:marks.length<=1000000000):d0i F tags marks now none_=some (S6 now none_ tags marks):=by
 unfold d0i;rw[if_pos (by simp[I0];omega)];rfl
def v08 {n:Nat}{x:Int}(d:1<=n)(hn:n<=1000):j0Q F (n:Int) x=some (List.replicate n x):=by
 unfold j0Q o0d;have h1:¬(n:Int)<1:=by omega
 have c:(decide ((0:Int)<=(n:Int))&&decide ((n:Int)<=1000))=true:=by simp;omega
 simp only[q0,h1,s9,Go.X.g0I,c,Int.toNat_natCast]
end
structure H5 (l:List C0)(n:Nat)(a:List y0)(b:Nat->List y0)(e:Nat->y0×Bool)(z:y0×Bool)(F:Nat):Prop where
 hR:K1 l=true
 hl:l.length*64<=140737488351232
 hn:n=L0 l l.length
 T:j06 l n a b e z
 f1:2000001<F
 f2:l.length+1<F
 f3:1000000000<F
 TF:k0b l n a b e z F
def O7 (l:List C0)(at_:Int):List Int:=(List.replicate (l5 l).toNat (-1)).set 0 at_
def f0m (l:List C0):1<=l5 l/\l5 l<=19:=by have:=g0o l;unfold l5;omega
def k0w (l:List C0)(at_:Int):(O7 l at_).length=(l5 l).toNat:=by simp[O7]
section
variable {l:List C0}{n:Nat}{a:List y0}{b:Nat->List y0}{e:Nat->y0×Bool}{z:y0×Bool}{F:Nat}{at_ work:Int}{pl:List Nat}{vals:List (List Int)}{fB fD:Nat->Nat->Int}
def B7 (l:List C0)(n:Nat)(a:List y0)(b:Nat->List y0)(e:Nat->y0×Bool)(z:y0×Bool)(at_ work:Int)(pl:List Nat)(vals:List (List Int))(fB fD:Nat->Nat->Int):N3:=
 ⟨Y6 l n a b e z,at_,work,J2 pl,vals,D3 pl.length fB fD⟩
def R2 (l:List C0)(n:Nat)(a:List y0)(b:Nat->List y0)(e:Nat->y0×Bool)(at_ work:Int)(pl:List Nat)(vals:List (List Int))(fB fD:Nat->Nat->Int):c0b:=
 y0L l n a b e at_ work (J2 pl) vals (D3 pl.length fB fD)
structure F6 (l:List C0)(n:Nat)(pl:List Nat)(vals:List (List Int))(fB fD:Nat->Nat->Int):Prop where
 len:vals.length=pl.length
 pln:∀p∈pl,p<n
 asc:pl.Pairwise fun a b=>a<b
 row:∀v∈vals,v.length=(l5 l).toNat
 rk:a0s pl.length fB fD
def s0X {n:Nat}:∀{pl:List Nat} {lo:Nat},(∀p∈pl,lo<=p/\p<n)->pl.Pairwise (fun a b=>a<b)->pl.length+lo<=n\/pl=[]
 |[],_,_,_=>.inr rfl
 |x :: r,lo,h,hp=>by
  obtain⟨h1,c⟩:=List.pairwise_cons.1 hp;have d:=h x (by simp);rcases s0X (pl:=r) (lo:=x+1) (fun p hp=>⟨h1 p hp,(h p (List.mem_cons_of_mem _ hp)).2⟩) c with h3|h3
  ·refine .inl ?_;simp only[List.length_cons];omega
  ·subst h3;refine .inl ?_;simp only[List.length_cons,List.length_nil];omega
def F6.le (h:F6 l n pl vals fB fD):pl.length<=n:=by
 rcases s0X (lo:=0) (fun p hp=>⟨zero_le _,h.pln p hp⟩) h.asc with h1|h1
 ·omega
 ·simp[h1]
def q0J (K:H5 l n a b e z F)(c:N3)(d:c.chart=Y6 l n a b e z):f0t F c=some (O7 l c.at_):=by
 have g:=f0m l;obtain⟨t,f⟩:∃t:Nat,l5 l=t:=⟨(l5 l).toNat,by omega⟩
 unfold f0t O7;rw[d,show(Y6 l n a b e z).tags=l5 l from rfl,f,v08 (by omega) (by omega)];simp only[G0,Int.toNat_natCast];rw[if_pos (R0 (by omega) (by simp;omega))];rfl
def U8 (l:List C0)(z:y0×Bool)(at_:Int):List Int×Bool:=if z.2 then(S6 at_ (-1) (O7 l at_) (N4 l z.1.Steps),true)else([],false)
def x0K (K:H5 l n a b e z F):h0M F (B7 l n a b e z at_ work pl vals fB fD)=some (U8 l z at_):=by
 have f:=f0m l;unfold h0M U8;rw[q0J K _ rfl];simp only[B7,Y6]
 by_cases c:z.2=true
 rotate_left
 ·have c:z.2=false:=by simpa using c
  simp[c]
 ·simp only[q0,c];have d:=i0I l z.1.Steps;have g:=K.T.zl;rw[m04 (by rw[k0w];omega) (by omega)];rfl
def g0l {β:Type}[Inhabited β]{f:Nat->β}{p:Nat}(h:p<n):gt ((List.range n).map f) (p:Int)=f p:=B4 (by simp[h])
def g0n {β:Type}{f:Nat->β}{p:Nat}(h:p<n):B0 ((List.range n).map f) (p:Int)=true:=R0 (by omega) (by simp;omega)
def W7 (e:Nat->y0×Bool)(pl:List Nat)(k:Nat):List Nat:=(List.range k).filter fun i=>(e (pl.getD i 0)).2
def C03 (e:Nat->y0×Bool)(pl:List Nat)(k:Nat):W7 e pl (k+1)=if(e (pl.getD k 0)).2 then W7 e pl k++[k]else W7 e pl k:=by
 unfold W7;rw[range_succ,List.filter_append]
 by_cases h:(e (pl.getD k 0)).2=true
 ·simp only[h,if_true,filter_cons,filter_nil]
 ·have h:(e (pl.getD k 0)).2=false:=by simpa using h
  simp only[h,false_eq_true,if_false,filter_cons,filter_nil,List.append_nil]
def r0O (e:Nat->y0×Bool)(pl:List Nat)(k:Nat):(W7 e pl k).length<=k:=Nat.le_trans (List.length_filter_le _ _) (by simp)
def j0D {k i:Nat}(h:i∈W7 e pl k):i<k:=mem_range.1 (List.mem_filter.1 h).1
def o0h (r:List Nat)(i:Nat):J2 (r++[i])=J2 r++[(i:Int)]:=by simp[J2]
def e0c (l:List C0)(e:Nat->y0×Bool)(at_:Int)(pl:List Nat)(vals:List (List Int))(fD:Nat->Nat->Int):List Int×Bool:=
 if q9 fD (W7 e pl pl.length)<0 then([],false)else(S6 at_ (-1) (gt vals (q9 fD (W7 e pl pl.length))) (N4 l (e (pl.getD (q9 fD (W7 e pl pl.length)).toNat 0)).1.Steps),true)
def s0d (C:F6 l n pl vals fB fD){k:Nat}(hk:k<pl.length):(gt vals (k:Int)).length<=1000:=by
 have c:=f0m l;have:=C.row _ (mem_of_getElem? (u6 (l:=vals) (i:=k) (by rw[C.len];exact hk)));omega
def y0C (K:H5 l n a b e z F)(C:F6 l n pl vals fB fD):g0f F (B7 l n a b e z at_ work pl vals fB fD)=some (e0c l e at_ pl vals fD):=by
 have f1:=K.f1;have hm:=C.le;have hn:=K.T.n64;unfold g0f e0c;have:=R4 (step:=h00 F (B7 l n a b e z at_ work pl vals fB fD)) (fun i=>(J2 (W7 e pl i),(i:Int))) (J2 (W7 e pl pl.length)) pl.length (fun i hi=>.inl ?_) ?_ pl.length 0 F (by omega) (by omega)
 ·have c:iter (h00 F (B7 l n a b e z at_ work pl vals fB fD)) F ([],0)=_:=this;rw[c];simp only[G0,B7];rw[A0c (by omega) (by omega) C.rk _ (by have:=r0O e pl pl.length;omega) (fun i h=>j0D h)];rcases o0f (fD:=fD) (W7 e pl pl.length) (n:=pl.length) (fun i h=>j0D h)with hb|⟨k,hb,hk⟩
  ·rw[hb];rfl
  ·have hp:=E8 C.pln hk;have d:¬((k:Int)<0):=by omega
   rw[hb];simp only[G0,d,decide_false,false_eq_true,if_false,R0 (l:=vals) (i:=(k:Int)) (by omega) (by rw[C.len];omega),a0h hk,a0G hk,Y6,g0n hp,g0l hp,if_true,Q2,Int.toNat_natCast];have j:=i0I l (e (pl.getD k 0)).1.Steps;have g:=K.T.el _ hp;rw[m04 (s0d C hk) (by show(N4 l (e (pl.getD k 0)).1.Steps).length<=1000000000;omega)];rfl
 ·unfold h00;have h1:(i:Int)<((J2 pl).length:Int):=by simp;omega
  have hp:=E8 C.pln hi;have f:I0 8 (J2 (W7 e pl i)) [(i:Int)]=true:=by have:=r0O e pl i;simp[I0];omega
  simp only[B7,h1,decide_true,if_true,a0h hi,a0G hi,Y6,g0n hp,g0l hp,f,G3 (i:=i) (by omega),C03]
  by_cases c:(e (pl.getD i 0)).2=true
  ·simp only[c,if_true,G0,o0h]
  ·have c:(e (pl.getD i 0)).2=false:=by simpa using c
   simp only[q0,c]
 ·unfold h00;have h1:¬((pl.length:Int)<((J2 pl).length:Int)):=by simp
  simp only[q0,B7,h1]
end
section
variable {F:Nat}
variable {l:List C0}{n:Nat}{a:List y0}{b:Nat->List y0}{e:Nat->y0×Bool}{z:y0×Bool}{at_ work:Int}{pl:List Nat}{vals:List (List Int)}{fB fD:Nat->Nat->Int}
def B0Q:(U8 l z at_).1.length<=1000:=by
 have c:=f0m l;unfold U8;split
 ·rw[h0s,k0w];omega
 ·simp
end
def w0h (vals:List (List Int))(from_:Int)(k:Nat):List Nat:=(List.range k).filter fun(i:Nat)=>decide (gt (gt vals (i:Int)) 0<=from_)
def H0W (vals:List (List Int))(from_:Int)(k:Nat):w0h vals from_ (k+1)=if decide (gt (gt vals (k:Int)) 0<=from_)=true then w0h vals from_ k++[k]else w0h vals from_ k:=by
 unfold w0h;rw[range_succ,List.filter_append]
 by_cases h:decide (gt (gt vals (k:Int)) 0<=from_)=true
 ·rw[if_pos h];simp only[filter_cons,h,if_true,filter_nil]
 ·rw[if_neg h];simp only[filter_cons,h,if_false,filter_nil,List.append_nil,false_eq_true]
def F0U (vals:List (List Int))(from_:Int)(k:Nat):(w0h vals from_ k).length<=k:=Nat.le_trans (List.length_filter_le _ _) (by simp)
def F0X {vals:List (List Int)}{from_:Int}{k i:Nat}(h:i∈w0h vals from_ k):i<k:=mem_range.1 (List.mem_filter.1 h).1
section
variable {F:Nat}
def H07 {x:List Int}{of:List Nat}(h:∀i∈of,i<x.length)(hl:of.length<=1000)(d:2000<F):B0P F x (J2 of)=some (of.map fun i:Nat=>gt x (i:Int)):=by
 unfold B0P;rw[s9];have:=R4 (step:=M0E F x (J2 of)) (fun i=>((of.take i).map fun i:Nat=>gt x (i:Int),(i:Int))) (of.map fun i:Nat=>gt x (i:Int)) of.length (fun i hi=>.inl ?_) ?_ of.length 0 F (by omega) (by omega)
 ·exact this
 ·unfold M0E;have h1:(i:Int)<((J2 of).length:Int):=by simp;omega
  have f:=h of[i] (getElem_mem hi);have c:I0 8 ((of.take i).map fun i:Nat=>gt x (i:Int)) [gt x ((of[i]:Nat):Int)]=true:=by simp[I0];omega
  simp only[h1,decide_true,if_true,a0h hi,r0M hi,R0 (l:=x) (i:=((of[i]:Nat):Int)) (by omega) (by omega),c,p0m hi,List.map_append,map_cons,map_nil,G3 (i:=i) (by omega)]
 ·unfold M0E;have h1:¬((of.length:Int)<((J2 of).length:Int)):=by simp
  simp only[q0,h1,List.take_length]
def H0H {x:List (List Int)}{of:List Nat}(h:∀i∈of,i<x.length)(hl:of.length<=1000)(d:2000<F):H0S F x (J2 of)=some (of.map fun i:Nat=>gt x (i:Int)):=by
 unfold H0S;rw[s9];have:=R4 (step:=M0w F x (J2 of)) (fun i=>((of.take i).map fun i:Nat=>gt x (i:Int),(i:Int))) (of.map fun i:Nat=>gt x (i:Int)) of.length (fun i hi=>.inl ?_) ?_ of.length 0 F (by omega) (by omega)
 ·exact this
 ·unfold M0w;have h1:(i:Int)<((J2 of).length:Int):=by simp;omega
  have f:=h of[i] (getElem_mem hi);have c:I0 24 ((of.take i).map fun i:Nat=>gt x (i:Int)) [gt x ((of[i]:Nat):Int)]=true:=by simp[I0];omega
  simp only[h1,decide_true,if_true,a0h hi,r0M hi,R0 (l:=x) (i:=((of[i]:Nat):Int)) (by omega) (by omega),c,p0m hi,List.map_append,map_cons,map_nil,G3 (i:=i) (by omega)]
 ·unfold M0w;have h1:¬((of.length:Int)<((J2 of).length:Int)):=by simp
  simp only[q0,h1,List.take_length]
def J0O {c:N3}{from_:Int}(g:∀v∈c.values,0<v.length)(hl:c.values.length<=1000)(h:2000<F):iter (E09 F c from_) F ([],0)=some (J2 (w0h c.values from_ c.values.length)):=by
 have:=R4 (step:=E09 F c from_) (fun i=>(J2 (w0h c.values from_ i),(i:Int))) (J2 (w0h c.values from_ c.values.length)) c.values.length (fun i hi=>.inl ?_) ?_ c.values.length 0 F (by omega) (by omega)
 ·exact this
 ·unfold E09;have h1:(i:Int)<(c.values.length:Int):=by omega
  have j:=g _ (mem_of_getElem? (u6 hi));have f:I0 8 (J2 (w0h c.values from_ i)) [(i:Int)]=true:=by have:=F0U c.values from_ i;simp[I0];omega
  simp only[h1,decide_true,if_true,R0 (l:=c.values) (i:=(i:Int)) (by omega) h1,R0 (l:=gt c.values (i:Int)) (i:=0) (by omega) (by omega),f,H0W,G3 (i:=i) (by omega)]
  by_cases d:decide (gt (gt c.values (i:Int)) 0<=from_)=true
  ·simp only[d,if_true,G0,o0h]
  ·have d:decide (gt (gt c.values (i:Int)) 0<=from_)=false:=by simpa using d
   simp only[q0,d]
 ·unfold E09;have h1:¬((c.values.length:Int)<(c.values.length:Int)):=by omega
  simp only[q0,h1]
def v0W {β:Type}{n i:Nat}{f:Nat->β}{v:β}:((List.range n).map f).set i v=(List.range n).map fun j=>if j=i then v else f j:=by
 refine ext_getElem (by simp) fun j h1 c=>?_;simp only[List.getElem_set,getElem_map,getElem_range]
 by_cases e:i=j
 ·simp[e]
 ·rw[if_neg e,if_neg (fun h=>e h.symm)]
def half (s m:Nat)(st:List Nat)(f:Nat->Nat->Int)(x i:Nat):List Int:=if i<x then V3 s (fun k=>f (st.getD i 0) (st.getD k 0))else V3 m (f (st.getD i 0))
def M0f {m:Nat}{st:List Nat}(h:∀i∈st,i<m)(f:Nat->Nat->Int):(st.map fun i:Nat=>gt (I2 m m f) (i:Int))=(List.range st.length).map (half st.length m st f 0):=by
 refine ext_getElem (by simp) fun j h1 d=>?_;simp only[length_map]at h1;have c:=h st[j] (getElem_mem h1);simp only[getElem_map,getElem_range,half,Nat.not_lt_zero,if_false];rw[a0g f c];simp[List.getD,h1]
def L0N (s m:Nat)(st:List Nat)(f:Nat->Nat->Int){x:Nat}:(List.range s).map (fun j=>if j=x then V3 s (fun k=>f (st.getD x 0) (st.getD k 0))else half s m st f x j)=(List.range s).map (half s m st f (x+1)):=by
 refine List.map_congr_left fun j _=>?_;unfold half
 by_cases e:j=x
 ·subst e;simp
 ·rw[if_neg e]
  by_cases c:j<x
  ·rw[if_pos c,if_pos (by omega)]
  ·rw[if_neg c,if_neg (by omega)]
def K0p {m:Nat}{st:List Nat}(h:∀i∈st,i<m)(hl:st.length<=1000)(c:2000<F)(g:Nat->Int):B0P F (V3 m g) (J2 st)=some (V3 st.length fun k=>g (st.getD k 0)):=by
 rw[H07 (by simpa using h) hl c];congr 1;refine ext_getElem (by simp) fun j h1 f=>?_;simp only[length_map]at h1;have d:=h st[j] (getElem_mem h1);simp only[getElem_map,d0w g d];simp[V3,List.getD,h1]
def K0t {m:Nat}{st:List Nat}(h:∀i∈st,i<m)(hl:st.length<=1000)(d:2000<F)(fB fD:Nat->Nat->Int):
  iter (F0G F (J2 st)) F (0,(List.range st.length).map (half st.length m st fB 0),(List.range st.length).map (half st.length m st fD 0)) =
   some (I2 st.length st.length (fun i k=>fB (st.getD i 0) (st.getD k 0)),I2 st.length st.length (fun i k=>fD (st.getD i 0) (st.getD k 0))):=by
 have:=R4 (step:=F0G F (J2 st)) (fun x=>((x:Int),(List.range st.length).map (half st.length m st fB x),(List.range st.length).map (half st.length m st fD x)))
  (I2 st.length st.length (fun i k=>fB (st.getD i 0) (st.getD k 0)),I2 st.length st.length (fun i k=>fD (st.getD i 0) (st.getD k 0))) st.length (fun x c=>.inl ?_) ?_ st.length 0 F (by omega) (by omega)
 ·exact this
 ·unfold F0G;have h1:(x:Int)<((J2 st).length:Int):=by simp;omega
  have g:∀f:Nat->Nat->Int,half st.length m st f x x=V3 m (f (st.getD x 0)):=fun f=>by unfold half;rw[if_neg (by omega)]
  simp only[q0,h1,g0n c,g0l c,g,K0p h hl d,Int.toNat_natCast,v0W,L0N,G3 (i:=x) (by omega)]
 ·unfold F0G;have h1:¬((st.length:Int)<((J2 st).length:Int)):=by simp
  simp only[q0,h1];have e:∀f:Nat->Nat->Int,(List.range st.length).map (half st.length m st f st.length)=I2 st.length st.length (fun i k=>f (st.getD i 0) (st.getD k 0)):=fun f=>List.map_congr_left fun i hi=>by
   unfold half;rw[if_pos (mem_range.1 hi)]
  rw[e,e]
variable {l:List C0}{n:Nat}{a:List y0}{b:Nat->List y0}{e:Nat->y0×Bool}{z:y0×Bool}{at_ work:Int}{pl:List Nat}{vals:List (List Int)}{fB fD:Nat->Nat->Int}
def J0o (K:H5 l n a b e z F)(C:F6 l n pl vals fB fD)(from_:Int){st:List Nat}(g:st=w0h vals from_ vals.length):
  h0l F (B7 l n a b e z at_ work pl vals fB fD) from_=some (B7 l n a b e z at_ work (st.map fun i=>pl.getD i 0) (st.map fun i:Nat=>gt vals (i:Int)) (fun i k=>fB (st.getD i 0) (st.getD k 0)) (fun i k=>fD (st.getD i 0) (st.getD k 0))):=by
 have f1:=K.f1;have hm:=C.le;have hn:=K.T.n64;have p:=f0m l;have d:∀i∈st,i<pl.length:=fun i h=>by rw[g]at h;have:=F0X h;rw[C.len]at this;exact this
 have f:st.length<=1000:=by rw[g];have:=F0U vals from_ vals.length;have:=C.len;omega
 unfold h0l;have m:=J0O (F:=F) (c:=B7 l n a b e z at_ work pl vals fB fD) (from_:=from_) (fun v o=>by have:=C.row v o;omega) (by show vals.length<=1000;rw[C.len];omega) (by omega);rw[m,show w0h (B7 l n a b e z at_ work pl vals fB fD).values from_ (B7 l n a b e z at_ work pl vals fB fD).values.length=st from g.symm];simp only[G0,B7,D3,H07 (x:=J2 pl) (of:=st) (F:=F) (by simpa using d) f (by omega),H0H (x:=vals) (of:=st) (F:=F) (by rw[C.len];exact d) f (by omega),H0H (x:=I2 pl.length pl.length fB) (of:=st) (F:=F) (by simpa using d) f (by omega),H0H (x:=I2 pl.length pl.length fD) (of:=st) (F:=F) (by simpa using d) f (by omega),M0f d,K0t d f (show 2000<F by omega),length_map];congr 2;refine ext_getElem (by simp) fun j h1 q=>?_;simp only[length_map]at h1;simp only[J2,getElem_map];exact a0G (d st[j] (getElem_mem h1))
end
section
variable {F:Nat}{l:List C0}{n:Nat}{a:List y0}{b:Nat->List y0}{e:Nat->y0×Bool}{z:y0×Bool}{at_ work:Int}{pl:List Nat}{vals:List (List Int)}{fB fD:Nat->Nat->Int}
def I0b (vals:List (List Int))(from_:Int)(k:Nat):(w0h vals from_ k).Pairwise fun a b=>a<b:=List.Pairwise.filter _ List.pairwise_lt_range
def n0n {st:List Nat}(h:st.Pairwise fun a b=>a<b){i k:Nat}(hk:k<st.length)(c:i<k):st.getD i 0<st.getD k 0:=by
 have:=List.pairwise_iff_getElem.1 h i k (by omega) hk c;simpa[List.getD,hk,show i<st.length by omega]using this
def F0s (C:F6 l n pl vals fB fD){st:List Nat}(d:st.Pairwise fun a b=>a<b)(c:∀i∈st,i<pl.length):
  F6 l n (st.map fun i=>pl.getD i 0) (st.map fun i:Nat=>gt vals (i:Int)) (fun i k=>fB (st.getD i 0) (st.getD k 0)) (fun i k=>fD (st.getD i 0) (st.getD k 0)) where
 len:=by simp
 pln p hp:=by
  obtain⟨i,hi,rfl⟩:=mem_map.1 hp;exact E8 C.pln (c i hi)
 asc:=by
  rw[List.pairwise_map];exact d.imp_of_mem fun {x y} o m f=>n0n C.asc (c y m) f
 row v hv:=by
  obtain⟨i,hi,rfl⟩:=mem_map.1 hv;exact C.row _ (mem_of_getElem? (u6 (l:=vals) (i:=i) (by rw[C.len];exact c i hi)))
 rk:=by
  have g:∀i,i<(st.map fun i=>pl.getD i 0).length->i<st.length/\st.getD i 0<pl.length:=fun i hi=>by
   simp only[length_map]at hi;exact⟨hi,E8 c hi⟩
  refine⟨fun i k hi hk=>C.rk.b0 _ _ (g i hi).2 (g k hk).2,fun i hi=>C.rk.bd _ (g i hi).2,fun i hi=>C.rk.dd _ (g i hi).2,fun i k hi hk j=>C.rk.d1 _ _ (g i hi).2 (g k hk).2 ?_,fun i k hi hk=>C.rk.dn _ _ (g i hi).2 (g k hk).2⟩;rcases lt_or_ge i k with h|h
  ·have:=n0n d (g k hk).1 h;omega
  ·have:=n0n d (g i hi).1 (show k<i by omega);omega
end
def k0v {l:List C0}:∀{n:Nat} {a:List Int},T4 l n=some a->∀j,j<n->∃b,T4 l j=some b/\b.length=j/\(∀i:Nat,i<j->gt a (i:Int)=gt b (i:Int))/\gt a (j:Int)=L3 l b j/\0<=L3 l b j
 |0,a,h,j,m=>by omega
 |n+1,a,h,j,m=>by
  simp only[T4]at h;split at h
  ·cases h
  ·rename_i b d;split at h
   ·rename_i hg;cases h;have hl:=(b0U d).len;simp only[K6,Bool.and_eq_true,decide_eq_true_eq]at hg
    by_cases e:j=n
    ·subst e;exact⟨b,d,hl,fun i hi=>b0u (by omega) (by omega),c08 hl.symm,hg.1.1⟩
    ·obtain⟨c,h1,o,k,g,f⟩:=k0v d j (by omega);exact⟨c,h1,o,fun i hi=>by rw[b0u (by omega) (by omega)];exact k i hi,by rw[b0u (by omega) (by omega)];exact g,f⟩
   ·cases h
def n0C {c:Prop}[Decidable c]{v z:Int}(h:0<=if c then v else -1)(e:v=z):(if c then v else -1)=z:=by
 by_cases d:c
 ·rw[if_pos d];exact e
 ·rw[if_neg d]at h;omega
def r0r {c d:Prop}[Decidable c][Decidable d]{v z:Int}(h:0<=if c then(if d then v else -1)else -1)(e:v=z):(if c then(if d then v else -1)else -1)=z:=by
 by_cases f:c
 ·rw[if_pos f]at h ⊢;exact n0C h e
 ·rw[if_neg f]at h;omega
def F0t {l:List C0}:∀{s:Tm} {lo n:Nat} {a:List Int},At l lo s->s.top lo<n->T4 l n=some a->gt a (s.top lo:Int)=lo:=by
 intro s
 induction s with
 |eps|leaf s=>
  intro lo n a h hn ha;obtain⟨b,h1,m,k,g,c⟩:=k0v ha _ hn;rw[g];have hg:=h.D2;unfold L3;rw[hg];simp[Tm.node,Tm.top,Tm.size]
 |cat x y d i|alt x y d i=>
  intro lo n a h hn ha;obtain⟨b,h1,m,k,g,c⟩:=k0v ha _ hn;have hg:=h.D2;obtain⟨j,o,_⟩:=(At.bin rfl rfl).1 h;have:=x.size_pos;have:=y.size_pos;rw[g];have f:=d j (n:=Tm.top _ lo) (a:=b) (by simp only[Tm.top,Tm.size];omega) h1;unfold L3 at c ⊢;rw[hg]at c ⊢;simp only[Tm.node]at c ⊢
  revert c
  simp only[show ¬((3:Int)=1\/(3:Int)=2)from by omega,show ¬((4:Int)=1\/(4:Int)=2)from by omega,if_false,show((3:Int)=3\/(3:Int)=4)from .inl rfl,show((4:Int)=3\/(4:Int)=4)from .inr rfl,if_true];intro c
  first|exact n0C c f|exact r0r c f
 |star x d|maybe x d|group _ x d|iter x d=>
  intro lo n a h hn ha;obtain⟨b,h1,m,k,g,c⟩:=k0v ha _ hn;have hg:=h.D2;obtain⟨j,_⟩:=(At.un rfl rfl).1 h;have:=x.size_pos;rw[g];have f:=d j (n:=Tm.top _ lo) (a:=b) (by simp only[Tm.top,Tm.size];omega) h1;unfold L3 at c ⊢;rw[hg]at c ⊢;simp only[Tm.node]at c ⊢
  revert c
  simp;intro c
  first|exact n0C c f|exact r0r c f
def c0P {l:List C0}(hR:K1 l=true){s:Tm}{lo:Nat}(h:At l lo s):gt (P4 l) (s.top lo:Int)=lo:=by
 have d:=h.j5;unfold K1 at hR;unfold P4 at hR ⊢;cases e:T4 l l.length with
 |none=>rw[e]at hR;simp at hR
 |some a=>
  rw[e]at hR;dsimp only at hR ⊢;split
  ·rename_i c;rw[if_pos c]at hR;simp at hR
  ·exact F0t h d e
def o0i {l:List C0}(hR:K1 l=true){s:Tm}{lo:Nat}(h:At l lo s){q:Nat}(h1:lo<=q)(d:q<lo+s.size):(lo:Int)<=gt (P4 l) (q:Int):=by
 obtain⟨lo',i,c,f,g,_⟩:=h.q0l q h1 d;have:=c0P hR c;rw[f]at this;rw[this];omega
def l6 (l:List C0)(a b:Nat)(q:Nat):Bool:=decide (gt (P4 l) (q:Int)<=(a:Int))&&(decide (a<=q)&&(decide (gt (P4 l) (q:Int)<=(b:Int))&&decide (b<=q)))
def b0L {l:List C0}{a b q:Nat}:l6 l a b q=true↔gt (P4 l) (q:Int)<=(a:Int)/\a<=q/\gt (P4 l) (q:Int)<=(b:Int)/\b<=q:=by
 simp[l6]
def b06 (b:Nat):List Fr->Nat->Tm->Nat
 |[],lo,s=>s.top lo
 |f :: fs,lo,s=>if lo<=b/\b<=s.top lo then s.top lo else b06 b fs (lo-f.off) (f.E2 s)
def z0R {l:List C0}{t:Tm}(C:O2 l t)(hR:K1 l=true){a b:Nat}(hb:b<l.length):∀(fs:List Fr) (lo:Nat) (s:Tm),Ctx t lo s fs->lo<=a->a<=s.top lo->(∀q,lo<=q->q<s.top lo->l6 l a b q=false)->
  l6 l a b (b06 b fs lo s)=true/\(∀q,q<b06 b fs lo s->l6 l a b q=false)/\b06 b fs lo s<l.length:=by
 intro fs
 induction fs with
 |nil=>
  intro lo s x h1 o h3;obtain⟨rfl,rfl⟩:=x;have hlen:=C.len;have hp:=s.size_pos;have hl:=c0P hR C.at0;simp only[b06];refine⟨b0L.2 ⟨by rw[hl];omega,o,by rw[hl];omega,by unfold Tm.top;omega⟩,fun q R=>h3 q (zero_le _) R,by unfold Tm.top;omega⟩
 |cons f fs ih=>
  intro lo s x h1 o h3;have j:=x.at_ C;have m:=c0P hR j;have r:=j.j5;simp only[b06];split
  ·rename_i I;refine⟨b0L.2 ⟨by rw[m];omega,o,by rw[m];omega,I.2⟩,fun q R=>?_,r⟩
   by_cases h:lo<=q
   ·exact h3 q h R
   ·have:¬l6 l a b q=true:=fun i=>by have:=(b0L.1 i).2.1;omega
    simpa using this
  ·rename_i v;obtain⟨g,p⟩:=x;have d:=p.at_ C;have b1:=s.size_pos;have U:∀q,lo<=q->q<=s.top lo->l6 l a b q=false:=fun q k u=>by
    have a1:=o0i hR j k (by unfold Tm.top at u;omega);have:¬l6 l a b q=true:=fun i=>by
     obtain⟨_,_,p3,p4⟩:=b0L.1 i;exact v ⟨by omega,by omega⟩
    simpa using this
   have J:∀q,q<lo->l6 l a b q=false:=fun q k=>by
    have:¬l6 l a b q=true:=fun i=>by have:=(b0L.1 i).2.1;omega
    simpa using this
   have w:∀(y:Tm),At l (lo+s.size) y->∀q,lo+s.size<=q->q<lo+s.size+y.size->l6 l a b q=false:=fun y hy q k u=>by
    have a1:=o0i hR hy k u;have:¬l6 l a b q=true:=fun i=>by
     have:=(b0L.1 i).1;unfold Tm.top at o;omega
    simpa using this
   have all:∀q,lo-f.off<=q->q<(f.E2 s).top (lo-f.off)->l6 l a b q=false:=fun q k u=>by
    rcases lt_or_ge q lo with c|c
    ·exact J q c
    ·rcases lt_or_ge (s.top lo) q with c2|c2
     ·cases f<;>simp only[Fr.E2,Fr.off,Nat.sub_zero,Tm.top,Tm.size]at k u c2 d g
      case catL y=>exact w y ((At.bin rfl rfl).1 d).2.1 q (by omega) (by omega)
      case altL y=>exact w y ((At.bin rfl rfl).1 d).2.1 q (by omega) (by omega)
      all_goals omega
     ·exact U q c c2
   refine ih _ _ p (by omega) ?_ all;cases f<;>simp only[Fr.E2,Fr.off,Nat.sub_zero,Tm.top,Tm.size]at o g ⊢<;>omega
def b8 (l:List C0)(a b:Nat):Nat:=((List.range l.length).find? (l6 l a b)).getD 0
def C04 {P:Nat->Bool}{n k:Nat}(hk:k<n)(h:P k=true)(d:∀q,q<k->P q=false):(List.range n).find? P=some k:=by
 rw[List.find?_eq_some_iff_append];refine⟨h,List.range k,(List.range (n-k-1)).map (k+1+·),?_,fun q f=>by simp[d q (mem_range.1 f)]⟩;refine ext_getElem (by simp;omega) fun i h1 g=>?_;simp only[List.length_range]at h1;simp only[getElem_range];rcases Nat.lt_trichotomy i k with c|c|c
 ·rw[List.getElem_append_left (by simpa using c)];simp
 ·subst c;rw[List.getElem_append_right (by simp)];simp
 ·rw[List.getElem_append_right (by simp;omega)];simp only[List.length_range];rw[List.getElem_cons];rw[dif_neg (by omega)];simp;omega
def q05 {l:List C0}{a b k:Nat}(hk:k<l.length)(h:l6 l a b k=true)(c:∀q,q<k->l6 l a b q=false):b8 l a b=k:=by
 unfold b8;rw[C04 hk h c];rfl
def p0I (l:List C0)(a b:Nat):b8 l a b=b8 l b a:=by
 have:l6 l a b=l6 l b a:=funext fun q=>by
  unfold l6;cases decide (gt (P4 l) (q:Int)<=(a:Int))<;>cases decide (a<=q)<;>cases decide (gt (P4 l) (q:Int)<=(b:Int))<;>cases decide (b<=q)<;>rfl
 unfold b8;rw[this]
def u0v {l:List C0}{t:Tm}(c:O2 l t){q:Nat}(f:q<l.length):∃lo s fs,Ctx t lo s fs/\s.top lo=q:=by
 have d:Ctx t 0 t []:=⟨rfl,rfl⟩
 exact d.down q (zero_le _) (by have:=c.len;omega)
def p0G {l:List C0}(hw:∀x∈l,o3 x)(hR:K1 l=true){a b:Nat}(ha:a<l.length)(y:b<l.length):b8 l a b<l.length/\l6 l a b (b8 l a b)=true/\∀q,q<b8 l a b->l6 l a b q=false:=by
 obtain⟨t,g⟩:=a04 hw hR;obtain⟨lo,s,fs,v,w⟩:=u0v g ha;have f:=g.at0;have hlen:=g.len;have hp:=t.size_pos;have hl:=c0P hR f;have d:l6 l a b (l.length-1)=true:=b0L.2 ⟨by rw[show l.length-1=t.top 0 from by unfold Tm.top;omega,hl];omega,by omega,by rw[show l.length-1=t.top 0 from by unfold Tm.top;omega,hl];omega,by omega⟩;cases e:(List.range l.length).find? (l6 l a b)with
 |none=>
  rw[List.find?_eq_none]at e;exact absurd d (e _ (by simp;omega))
 |some k=>
  have hk:=mem_range.1 (List.mem_of_find?_eq_some e);have h1:=List.find?_some e;have:b8 l a b=k:=by unfold b8;rw[e];rfl
  rw[this];refine⟨hk,h1,fun q u=>?_⟩;rw[List.find?_eq_some_iff_append]at e;obtain⟨_,c,m,i,p⟩:=e;have h:q<c.length:=by
   have j:(List.range l.length)[c.length]?=some k:=by rw[i];simp
   have o:c.length<l.length:=by
    have:=congrArg List.length i;simp at this;omega
   rw[List.getElem?_range o]at j;cases j;exact u
  have r:c[q]?=some q:=by
   have:(List.range l.length)[q]?=some q:=List.getElem?_range (by omega);rw[i,List.getElem?_append_left h]at this;exact this
  have:=p q (mem_of_getElem? r);simpa using this
def q0R {d t:List Int}:∀{s:Tm} {lo k:Nat},G7 d lo k s->G7 t lo k s->∀j:Nat,lo<=j->j<=s.top lo->gt d (j:Int)=gt t (j:Int)/\(k:Int)<=gt d (j:Int)/\gt d (j:Int)<k+s.size:=by
 intro s
 induction s with
 |eps|leaf s=>
  intro lo k h m j o g;have:j=lo:=by simp only[Tm.top,Tm.size]at g;omega
  subst this;simp only[G7]at h m;simp only[Tm.size];omega
 |cat a b f i|alt a b f i=>
  intro lo k h m j o g;obtain⟨p1,q,u⟩:=h;obtain⟨r,p,v⟩:=m;have:=a.size_pos;have:=b.size_pos;simp only[Tm.top,Tm.size]at p1 r g ⊢;rcases lt_or_ge j (lo+a.size)with c|c
  ·have:=f q p j o (by unfold Tm.top;omega);omega
  ·rcases lt_or_ge j (lo+a.size+b.size)with c2|c2
   ·have:=i u v j c (by unfold Tm.top;omega);omega
   ·have:j=lo+(a.size+b.size+1)-1:=by omega
    subst this;omega
 |star a f|maybe a f|group _ a f|iter a f=>
  intro lo k h m j o g;obtain⟨p1,q⟩:=h;obtain⟨r,p⟩:=m;have:=a.size_pos;simp only[Tm.top,Tm.size]at p1 r g ⊢;rcases lt_or_ge j (lo+a.size)with c|c
  ·have:=f q p j o (by unfold Tm.top;omega);omega
  ·have:j=lo+(a.size+1)-1:=by omega
   subst this;omega
def C0x {d c:List Int}{t:Tm}(h:b00 d t)(f:b00 c t):d=c:=by
 have hp:=t.size_pos;refine ext_getElem (by rw[h.len,f.len]) fun j h1 g=>?_;have e:=(q0R h.deep f.deep j (zero_le _) (by have:=h.len;unfold Tm.top;omega)).1
 rwa [B4 (x:=d[j]) (by simp[h1]),B4 (x:=c[j]) (by simp[g])]at e
def a0n (l:List C0):List Int:=(Old.a0w 402 l).getD []
def k0W {l:List C0}{t:Tm}(f:O2 l t)(hR:K1 l=true):b00 (a0n l) t:=by
 obtain⟨d,h1,c⟩:=Old.i0j f hR (show 401<402 by omega);unfold a0n;rw[h1];exact c
def o0H {l:List C0}(hw:∀x∈l,o3 x)(hR:K1 l=true):(a0n l).length=l.length/\∀q:Nat,q<l.length->1<=gt (a0n l) (q:Int)/\gt (a0n l) (q:Int)<=400:=by
 obtain⟨t,c⟩:=a04 hw hR;have h:=k0W c hR;have d:=c.le;have hlen:=c.len;have hp:=t.size_pos;refine⟨by rw[h.len,hlen],fun q f=>?_⟩;have:=(q0R h.deep h.deep q (zero_le _) (by unfold Tm.top;omega)).2;omega
def D0X {l:List C0}(hw:∀x∈l,o3 x)(hR:K1 l=true){F:Nat}(f:401<F):a0w F l=some (a0n l):=by
 obtain⟨t,c⟩:=a04 hw hR;obtain⟨d,h1,g⟩:=Old.i0j c hR f;rw[C0x g (k0W c hR)]at h1;exact B8 u0T h1
def M9 (l:List C0)(x y:y0):Int:=gt (a0n l) ((b8 l (gt (L2 l l.length) x.To).toNat (gt (L2 l l.length) y.To).toNat:Nat):Int)+1
def f09 (l:List C0)(x y:y0):Bool:=(gt l ((b8 l (gt (L2 l l.length) x.To).toNat (gt (L2 l l.length) y.To).toNat:Nat):Int)).Kind==3
def u7 (l:List C0)(x y:y0):Int×Int×Int:=
 if x.Turn>y.Turn then(x.Turn+1,y.Turn+1,1)else if x.Turn<y.Turn then(x.Turn+1,y.Turn+1,-1)else
 if x.To>y.To then(M9 l x y,if f09 l x y then M9 l x y+1 else M9 l x y,-1)else(if f09 l x y then M9 l x y+1 else M9 l x y,M9 l x y,1)
def B0F (l:List C0)(x y:y0):M9 l x y=M9 l y x:=by unfold M9;rw[p0I]
def C02 (l:List C0)(x y:y0):f09 l x y=f09 l y x:=by unfold f09;rw[p0I]
def j0v (l:List C0)(x y:y0)(h:x.To≠y.To):u7 l y x=((u7 l x y).2.1,(u7 l x y).1,- (u7 l x y).2.2):=by
 unfold u7;rw[B0F l y x,C02 l y x];rcases Int.lt_trichotomy x.Turn y.Turn with c|c|c
 ·rw[if_pos (show y.Turn>x.Turn from c),if_neg (show ¬x.Turn>y.Turn by omega),if_pos c];simp
 ·rw[if_neg (show ¬y.Turn>x.Turn by omega),if_neg (show ¬y.Turn<x.Turn by omega),if_neg (show ¬x.Turn>y.Turn by omega),if_neg (show ¬x.Turn<y.Turn by omega)];rcases Int.lt_or_gt_of_ne h with c2|c2
  ·rw[if_pos (show y.To>x.To from c2),if_neg (show ¬x.To>y.To by omega)]
  ·rw[if_neg (show ¬y.To>x.To by omega),if_pos (show x.To>y.To from c2)];simp
 ·rw[if_neg (show ¬y.Turn>x.Turn by omega),if_pos (show y.Turn<x.Turn from c),if_pos (show x.Turn>y.Turn from c)]
structure a0L (n:Nat)(h:y0):Prop where
 to0:0<=h.To
 to1:h.To<n
 t0:0<=h.Turn
 t1:h.Turn<=400
def s0N {l:List C0}(hw:∀x∈l,o3 x)(hR:K1 l=true){n:Nat}(hn:n=L0 l l.length){x y:y0}(g:a0L n x)(h:a0L n y):0<=(u7 l x y).1/\0<=(u7 l x y).2.1/\((u7 l x y).2.2=1\/(u7 l x y).2.2=-1):=by
 have f:1<=M9 l x y:=by
  obtain⟨h1,t,m,k⟩:=g;obtain⟨j,i,v,u⟩:=h;obtain⟨p,hp,c,_⟩:=c0J l l.length x.To.toNat (by omega);obtain⟨q,f,d,_⟩:=c0J l l.length y.To.toNat (by omega);have r:gt (L2 l l.length) x.To=(p:Int):=o0O c;have o:gt (L2 l l.length) y.To=(q:Int):=o0O d;have s:=(p0G hw hR (a:=p) (b:=q) hp f).1;have:=((o0H hw hR).2 _ s).1;unfold M9;rw[r,o];simp only[Int.toNat_natCast];omega
 obtain⟨h1,t,m,k⟩:=g;obtain⟨j,i,v,u⟩:=h;unfold u7;split
 ·exact⟨by simp only;omega,by simp only;omega,.inl rfl⟩
 ·split
  ·exact⟨by simp only;omega,by simp only;omega,.inr rfl⟩
  ·split
   ·refine⟨by simp only;omega,?_,.inr rfl⟩;simp only;split<;>omega
   ·refine⟨?_,by simp only;omega,.inl rfl⟩;simp only;split<;>omega
section
variable (l:List C0)(fB fD:Nat->Nat->Int)(fr:List Nat)(hops:List y0)
def P5 (i k:Nat):Int:=if i=k then 0 else if fr.getD i 0=fr.getD k 0 then(u7 l (gt hops (i:Int)) (gt hops (k:Int))).1 else J4 (fB (fr.getD i 0) (fr.getD k 0)) (gt hops (i:Int)).Turn
def N6 (i k:Nat):Int:=if i=k then 0 else if fr.getD i 0=fr.getD k 0 then(u7 l (gt hops (i:Int)) (gt hops (k:Int))).2.2 else i7 fB fD (fr.getD i 0) (fr.getD k 0) (gt hops (i:Int)) (gt hops (k:Int))
end
def t0B {fB fD:Nat->Nat->Int}{a b:Nat}{p q:y0}(h:fD b a=- fD a b):i7 fB fD b a q p=- i7 fB fD a b p q:=by
 unfold i7;rcases Int.lt_trichotomy (J4 (fB a b) p.Turn) (J4 (fB b a) q.Turn)with c|c|c
 ·rw[if_pos c,if_neg (show ¬J4 (fB a b) p.Turn>J4 (fB b a) q.Turn by omega),if_pos c];rfl
 ·rw[if_neg (by omega),if_neg (by omega),if_neg (by omega),if_neg (by omega),h]
 ·rw[if_neg (by omega),if_pos c,if_pos c]
def w0L {b t:Int}(d:0<=b)(f:0<=t)(c:t<=400):0<=J4 b t:=by
 unfold J4;rw[n3 (by omega) (by omega)];split<;>omega
def p0F {fB fD:Nat->Nat->Int}{a b:Nat}{p q:y0}(h:fD a b=1\/fD a b=-1):i7 fB fD a b p q=1\/i7 fB fD a b p q=-1:=by
 unfold i7;split
 ·exact .inl rfl
 ·split
  ·exact .inr rfl
  ·exact h
def e08 {n:Nat}{hops:List y0}(h:∀x∈hops,a0L n x){i:Nat}(hi:i<hops.length):a0L n (gt hops (i:Int)):=h _ (mem_of_getElem? (u6 hi))
def p0X {hops:List y0}(h:hops.Pairwise fun a b=>a.To<b.To){i k:Nat}(hi:i<hops.length)(hk:k<hops.length)(d:i≠k):(gt hops (i:Int)).To≠(gt hops (k:Int)).To:=by
 have hp:=List.pairwise_iff_getElem.1 h;have g:gt hops (i:Int)=hops[i]:=B4 (by simp[hi]);have f:gt hops (k:Int)=hops[k]:=B4 (by simp[hk]);rw[g,f];rcases Nat.lt_or_gt_of_ne d with c|c
 ·have:=hp i k hi hk c;omega
 ·have:=hp k i hk hi c;omega
def p0k {l:List C0}(hw:∀x∈l,o3 x)(hR:K1 l=true){n:Nat}(hn:n=L0 l l.length){m:Nat}{fB fD:Nat->Nat->Int}(h:a0s m fB fD){fr:List Nat}{hops:List y0}(hi:∀i∈fr,i<m)(hlen:hops.length=fr.length)(f:∀x∈hops,a0L n x)
  (c:hops.Pairwise fun a b=>a.To<b.To):a0s fr.length (P5 l fB fr hops) (N6 l fB fD fr hops) where
 b0 i k h1 h2:=by
  have d:=e08 f (i:=i) (by omega);have j:=e08 f (i:=k) (by omega);unfold P5;split
  ·exact Int.le_refl _
  ·split
   ·exact(s0N hw hR hn d j).1
   ·exact w0L (h.b0 _ _ (E8 hi h1) (E8 hi h2)) d.t0 d.t1
 bd i h1:=by unfold P5;rw[if_pos rfl]
 dd i h1:=by unfold N6;rw[if_pos rfl]
 d1 i k h1 h2 hne:=by
  have d:=e08 f (i:=i) (by omega);have j:=e08 f (i:=k) (by omega);unfold N6;rw[if_neg hne];split
  ·exact(s0N hw hR hn d j).2.2
  ·rename_i o;exact p0F (h.d1 _ _ (E8 hi h1) (E8 hi h2) o)
 dn i k h1 h2:=by
  unfold N6
  by_cases e:i=k
  ·subst e;rw[if_pos rfl];rfl
  ·rw[if_neg e,if_neg (fun h=>e h.symm)]
   by_cases g:fr.getD i 0=fr.getD k 0
   ·rw[if_pos g,if_pos g.symm,j0v l _ _ (p0X c (by omega) (by omega) e)]
   ·rw[if_neg g,if_neg (fun h=>g h.symm)];exact t0B (h.dn _ _ (E8 hi h1) (E8 hi h2))
