/- P. Its conditions: none. -/
import Derived.Test.YtihmgaccbcfgjaaGreatRG36
open List (take_succ getElem_mem range_succ filter_append filter_cons filter_nil mem_range mem_filter mem_of_getElem? mem_map)
open Bool (false_eq_true)
open Int (toNat_natCast)
open Nat (zero_le le_trans lt_or_ge)
set_option linter.all false
namespace Go.Proofs.YtihmgaccbcfgjaaGreat
open Go.V Go.RowKit Old
def D1 (l:List Nat):List Int:=l.map fun n:Nat=>(n:Int)
@[simp] def e0b (l:List Nat):(D1 l).length=l.length:=by simp[D1]
def h0N {l:List Nat}{i:Nat}(h:i<l.length):gt (D1 l) (i:Int)=((l[i]:Nat):Int):=X2 (by simp[D1,h])
def q9 {l:List Nat}{i:Nat}(h:i<l.length):y0 (D1 l) (i:Int)=true:=V0 O' V'
def e09 (fD:Nat->Nat->Int)(P6:Int)(i:Nat):Int:=if P6<0 then(i:Int)else if 0<fD i P6.toNat then(i:Int)else P6
def D8 (fD:Nat->Nat->Int)(of:List Nat):Int:=of.foldl (e09 fD) (-1)
def m0z {α:Type}{l:List α}{i:Nat}(h:i<l.length):l.take (i+1)=l.take i++[l[i]]:=by rw[take_succ,List.getElem?_eq_getElem h];rfl
def y0Q (fD:Nat->Nat->Int)(l:List Nat)(i:Nat):D8 fD (l++[i])=e09 fD (D8 fD l) i:=by simp[D8]
def j07 {n:Nat}{fD:Nat->Nat->Int}(of:List Nat)(h:∀i∈of,i<n):D8 fD of=-1\/∃k:Nat,D8 fD of=k/\k<n:=by
 have:∀(of:List Nat) (b:Int),(b=-1\/∃k:Nat,b=k/\k<n)->(∀i∈of,i<n)->(of.foldl (e09 fD) b=-1\/∃k:Nat,of.foldl (e09 fD) b=k/\k<n):=by
  intro of
  induction of with
  |nil=>intro b c _;exact c
  |cons x r ih=>
   intro b c hi;refine ih _ ?_ (fun i h=>hi i (List.mem_cons_of_mem _ h));have d:=hi x Z';unfold e09;split
   ·exact .inr ⟨x,rfl,d⟩
   ·split
    ·exact .inr ⟨x,rfl,d⟩
    ·exact c
 exact this of (-1) (.inl rfl) h
section
variable {F n:Nat}{fB fD:Nat->Nat->Int}
def z0o (hn:n<=1000)(q:2000<F)(h:a0y n fB fD)(of:List Nat)(j:of.length<=1000)(hi:∀i∈of,i<n):j0N F (U2 n fB fD) (D1 of)=some (D8 fD of):=by
 unfold j0N;rw[j0W hn q h];simp only[q0,I8];have:=H3 (step:=k09 F (U2 n fB fD) (D1 of)) (fun i=>(D8 fD (of.take i),(i:Int))) (D8 fD of) of.length (fun i c=>.inl ?_) ?_ of.length 0 F O' O'
 ·exact this
 ·unfold k09 e0F;have h1:(i:Int)<((D1 of).length:Int):=by simp;omega
  have g:=hi of[i] (getElem_mem c);have t:((of[i]:Nat):Int)>=0:=O'
  have s:((of[i]:Nat):Int)<((U2 n fB fD).B.length:Int):=by simp[U2];omega
  simp only[q0,h1,q9 c,h0N c,t,s,I8,m0z c,y0Q,X1 (i:=i) O'];have o:=j07 (fD:=fD) (of.take i) (n:=n) (fun i h=>hi i (List.mem_of_mem_take h));generalize D8 fD (of.take i)=b at *;rcases o with rfl|⟨k,rfl,hk⟩
  ·simp[e09,G0]
  ·have f:¬((k:Int)<0):=O'
   simp only[q0,U2,f,H9 _ g,R8 _ g,a0k _ hk,b0y _ hk,e09,toNat_natCast]
   by_cases d:0<fD of[i] k
   ·have p:fD of[i] k>0:=d;simp[d,G0]
   ·simp[d,G0]
 ·unfold k09;have h1:¬((of.length:Int)<((D1 of).length:Int)):=Z'
  simp only[q0,h1,List.take_length]
end
def a0B (b t:Int):Int:=if W (t+1)<b then W (t+1)else b
def n9 (fB fD:Nat->Nat->Int)(a b:Nat)(p q:B0):Int:=
 if a0B (fB a b) p.Turn>a0B (fB b a) q.Turn then 1 else if a0B (fB a b) p.Turn<a0B (fB b a) q.Turn then -1 else fD a b
def f0E (fB fD:Nat->Nat->Int)(fr:List Nat)(hops:List B0)(P6:Int)(i:Nat):Int:=
 if P6<0 then(i:Int)else if 0<n9 fB fD (fr.getD i 0) (fr.getD P6.toNat 0) (gt hops (i:Int)) (gt hops P6)then(i:Int)else P6
def c00 (fB fD:Nat->Nat->Int)(fr:List Nat)(hops:List B0)(k:Nat):Int:=(List.range k).foldl (f0E fB fD fr hops) (-1)
def f0I (fB fD:Nat->Nat->Int)(fr:List Nat)(hops:List B0):Int:=c00 fB fD fr hops fr.length
def n0n (fB fD:Nat->Nat->Int)(fr:List Nat)(hops:List B0)(k:Nat):c00 fB fD fr hops (k+1)=f0E fB fD fr hops (c00 fB fD fr hops k) k:=by simp[c00,range_succ]
def v03 (fB fD:Nat->Nat->Int)(fr:List Nat)(hops:List B0):∀k,c00 fB fD fr hops k=-1\/∃j:Nat,c00 fB fD fr hops k=j/\j<k:=by
 intro k
 induction k with
 |zero=>exact .inl rfl
 |succ k ih=>
  rw[n0n];unfold f0E;split
  ·exact .inr ⟨k,rfl,O'⟩
  ·split
   ·exact .inr ⟨k,rfl,O'⟩
   ·rcases ih with h|⟨j,h,hj⟩
    ·exact .inl h
    ·exact .inr ⟨j,h,O'⟩
section
variable {F n:Nat}{fB fD:Nat->Nat->Int}{fr:List Nat}{hops:List B0}
def a0T {l:List Nat}{i:Nat}(h:i<l.length):gt (D1 l) (i:Int)=((l.getD i 0:Nat):Int):=by rw[h0N h];simp[List.getD,h]
def P8 (hi:∀i∈fr,i<n){i:Nat}(h:i<fr.length):fr.getD i 0<n:=by
 have:=hi fr[i] (getElem_mem h);simpa[List.getD,h]using this
def l0i (hlen:hops.length=fr.length)(hi:∀i∈fr,i<n){i k:Nat}(h1:i<fr.length)(c:k<fr.length):
  f0n F ⟨U2 n fB fD,D1 fr,hops⟩ (i:Int) (k:Int)=some (a0B (fB (fr.getD i 0) (fr.getD k 0)) (gt hops (i:Int)).Turn):=by
 have f:=P8 hi h1;have d:=P8 hi c;unfold f0n a0B;simp only[U2,q9 h1,q9 c,a0T h1,a0T c,H9 _ f,R8 _ f,a0k _ d,b0y _ d,if_true,V0 (l:=hops) (i:=(i:Int)) O' O']
def t0w (hlen:hops.length=fr.length)(hi:∀i∈fr,i<n){i k:Nat}(h1:i<fr.length)(c:k<fr.length):
  g0U F ⟨U2 n fB fD,D1 fr,hops⟩ (i:Int) (k:Int)=some (n9 fB fD (fr.getD i 0) (fr.getD k 0) (gt hops (i:Int)) (gt hops (k:Int))):=by
 have f:=P8 hi h1;have d:=P8 hi c;unfold g0U n9;rw[l0i hlen hi h1 c,l0i hlen hi c h1];simp only[G0,U2,q9 h1,q9 c,a0T h1,a0T c,H9 _ f,R8 _ f,a0k _ d,b0y _ d,if_true,decide_eq_true_eq];split
 ·rfl
 ·split<;>rfl
def z0O (hn:n<=1000)(o:2000<F)(h:a0y n fB fD)(hlen:hops.length=fr.length)(s:fr.length<=1000)(hi:∀i∈fr,i<n):h0B F (U2 n fB fD) (D1 fr) hops=some (f0I fB fD fr hops):=by
 unfold h0B;rw[j0W hn o h];have j:(if(hops.length:Int)<((D1 fr).length:Int)then(hops.length:Int)else((D1 fr).length:Int))=(fr.length:Int):=by rw[e0b,hlen];simp
 simp only[q0,I8,j];have:=H3 (step:=l0L F (U2 n fB fD) (D1 fr) hops (fr.length:Int)) (fun i=>(c00 fB fD fr hops i,(i:Int))) (f0I fB fD fr hops) fr.length (fun i c=>.inl ?_) ?_ fr.length 0 F O' O'
 ·exact this
 ·unfold l0L e0F;have h1:(i:Int)<(fr.length:Int):=O'
  have u:=P8 hi c;have p:((fr.getD i 0:Nat):Int)>=0:=O'
  have q:((fr.getD i 0:Nat):Int)<((U2 n fB fD).B.length:Int):=by simp only[U2,v0W];omega
  simp only[q0,h1,q9 c,a0T c,p,q,I8,n0n,X1 (i:=i) O'];have t:=v03 fB fD fr hops i;generalize c00 fB fD fr hops i=b at *;rcases t with rfl|⟨k,rfl,hk⟩
  ·simp[f0E,G0]
  ·have g:¬((k:Int)<0):=O'
   simp only[q0,g,t0w hlen hi c (show k<fr.length from O'),f0E,toNat_natCast]
   by_cases f:0<n9 fB fD (fr.getD i 0) (fr.getD k 0) (gt hops (i:Int)) (gt hops (k:Int))
   ·have d:n9 fB fD (fr.getD i 0) (fr.getD k 0) (gt hops (i:Int)) (gt hops (k:Int))>0:=f;simp only[q0,f,d]
   ·have d:¬n9 fB fD (fr.getD i 0) (fr.getD k 0) (gt hops (i:Int)) (gt hops (k:Int))>0:=f;simp only[q0,f,d]
 ·unfold l0L;have h1:¬((fr.length:Int)<(fr.length:Int)):=O'
  simp only[q0,h1];rfl
end
def Z9 (now none_:Int)(tags:List Int)(marks:List J2):List Int:=marks.foldl (T4 now none_) tags
theorem A0z (now none_:Int)(o:List Int)(m:J2):(T4 now none_ o m).length=o.length:=by
 unfold T4;split
 ·rfl
 ·split
  ·simp
  ·split
   ·simp
   ·split
    ·simp
    ·rfl
def e0V (now none_:Int):∀(marks:List J2) (o:List Int),(Z9 now none_ o marks).length=o.length
 |[],o=>rfl
 |m :: r,o=>by
  have h:=e0V now none_ r (T4 now none_ o m);rw[A0z]at h;exact h
section
variable {F:Nat}
theorem o0k {tags:List Int}{marks:List J2}{now none_:Int}(c:tags.length<=1000)(hm:marks.length<=1000000000):d0G F tags marks now none_=some (Z9 now none_ tags marks):=by
 unfold d0G;rw[if_pos (by simp[K0];omega)];rfl
def F0o {n:Nat}{x:Int}(d:1<=n)(hn:n<=1000):j0a F (n:Int) x=some (List.replicate n x):=by
 unfold j0a m0v;have h1:¬(n:Int)<1:=O'
 have c:(decide ((0:Int)<=(n:Int))&&decide ((n:Int)<=1000))=true:=by simp;omega
 simp only[q0,h1,I8,Go.X.i0q,c,toNat_natCast]
end
structure U3 (l:List C0)(n:Nat)(a:List B0)(b:Nat->List B0)(e:Nat->B0×Bool)(z:B0×Bool)(F:Nat):Prop where
 hR:L2 l=true
 hl:l.length*64<=140737488351232
 hn:n=N0 l l.length
 T:r0T l n a b e z
 f1:2000001<F
 f2:l.length+1<F
 f3:1000000000<F
 TF:v0h l n a b e z F
def k0o (l:List C0)(at_:Int):List Int:=(List.replicate (C4 l).toNat (-1)).set 0 at_
def a07 (l:List C0):1<=C4 l/\C4 l<=19:=by have:=n0H l;unfold C4;omega
theorem B0S (l:List C0)(at_:Int):(k0o l at_).length=(C4 l).toNat:=by simp[k0o]
section
variable {l:List C0}{n:Nat}{a:List B0}{b:Nat->List B0}{e:Nat->B0×Bool}{z:B0×Bool}{F:Nat}{at_ work:Int}{pl:List Nat}{vals:List (List Int)}{fB fD:Nat->Nat->Int}
structure R3 (l:List C0)(n:Nat)(pl:List Nat)(vals:List (List Int))(fB fD:Nat->Nat->Int):Prop where
 len:vals.length=pl.length
 pln:∀p∈pl,p<n
 asc:pl.Pairwise fun a b=>a<b
 row:∀v∈vals,v.length=(C4 l).toNat
 rk:a0y pl.length fB fD
def u0W {n:Nat}:∀{pl:List Nat} {lo:Nat},(∀p∈pl,lo<=p/\p<n)->pl.Pairwise (fun a b=>a<b)->pl.length+lo<=n\/pl=[]
 |[],_,_,_=>.inr rfl
 |x :: r,lo,h,hp=>by
  obtain⟨h1,c⟩:=List.pairwise_cons.1 hp;have d:=h x Z';rcases u0W (pl:=r) (lo:=x+1) (fun p hp=>⟨h1 p hp,(h p (List.mem_cons_of_mem _ hp)).2⟩) c with h3|h3
  ·refine .inl ?_;simp only[List.length_cons];omega
  ·subst h3;refine .inl ?_;simp only[List.length_cons,List.length_nil];omega
def R3.le (h:R3 l n pl vals fB fD):pl.length<=n:=by
 rcases u0W (lo:=0) (fun p hp=>⟨zero_le _,h.pln p hp⟩) h.asc with h1|h1
 ·omega
 ·simp[h1]
def s0N (l:List C0)(z:B0×Bool)(at_:Int):List Int×Bool:=if z.2 then(Z9 at_ (-1) (k0o l at_) (a7 l z.1.Steps),true)else([],false)
def E7 (e:Nat->B0×Bool)(pl:List Nat)(k:Nat):List Nat:=(List.range k).filter fun i=>(e (pl.getD i 0)).2
def F0K (e:Nat->B0×Bool)(pl:List Nat)(k:Nat):E7 e pl (k+1)=if(e (pl.getD k 0)).2 then E7 e pl k++[k]else E7 e pl k:=by
 unfold E7;rw[range_succ,filter_append]
 by_cases h:(e (pl.getD k 0)).2=true
 ·simp only[h,if_true,filter_cons,filter_nil]
 ·have h:(e (pl.getD k 0)).2=false:=by simpa using h
  simp only[h,false_eq_true,if_false,filter_cons,filter_nil,List.append_nil]
def w0M (e:Nat->B0×Bool)(pl:List Nat)(k:Nat):(E7 e pl k).length<=k:=le_trans (List.length_filter_le _ _) Z'
def j0P {k i:Nat}(h:i∈E7 e pl k):i<k:=mem_range.1 (mem_filter.1 h).1
def g0m (r:List Nat)(i:Nat):D1 (r++[i])=D1 r++[(i:Int)]:=by simp[D1]
def B0o (l:List C0)(e:Nat->B0×Bool)(at_:Int)(pl:List Nat)(vals:List (List Int))(fD:Nat->Nat->Int):List Int×Bool:=
 if D8 fD (E7 e pl pl.length)<0 then([],false)else(Z9 at_ (-1) (gt vals (D8 fD (E7 e pl pl.length))) (a7 l (e (pl.getD (D8 fD (E7 e pl pl.length)).toNat 0)).1.Steps),true)
theorem I0B (C:R3 l n pl vals fB fD){k:Nat}(hk:k<pl.length):(gt vals (k:Int)).length<=1000:=by
 have c:=a07 l;have:=C.row _ (mem_of_getElem? (P4 (l:=vals) (i:=k) (by rw[C.len];exact hk)));omega
end
section
variable {F:Nat}
variable {l:List C0}{n:Nat}{a:List B0}{b:Nat->List B0}{e:Nat->B0×Bool}{z:B0×Bool}{at_ work:Int}{pl:List Nat}{vals:List (List Int)}{fB fD:Nat->Nat->Int}
def V0x:(s0N l z at_).1.length<=1000:=by
 have c:=a07 l;unfold s0N;split
 ·rw[e0V,B0S];omega
 ·simp
end
def A0v (vals:List (List Int))(from_:Int)(k:Nat):List Nat:=(List.range k).filter fun(i:Nat)=>decide (gt (gt vals (i:Int)) 0<=from_)
def Q0X {vals:List (List Int)}{from_:Int}{k i:Nat}(h:i∈A0v vals from_ k):i<k:=mem_range.1 (mem_filter.1 h).1
section
variable {F:Nat}
variable {l:List C0}{n:Nat}{a:List B0}{b:Nat->List B0}{e:Nat->B0×Bool}{z:B0×Bool}{at_ work:Int}{pl:List Nat}{vals:List (List Int)}{fB fD:Nat->Nat->Int}
end
section
variable {F:Nat}{l:List C0}{n:Nat}{a:List B0}{b:Nat->List B0}{e:Nat->B0×Bool}{z:B0×Bool}{at_ work:Int}{pl:List Nat}{vals:List (List Int)}{fB fD:Nat->Nat->Int}
def T0i (vals:List (List Int))(from_:Int)(k:Nat):(A0v vals from_ k).Pairwise fun a b=>a<b:=List.Pairwise.filter _ List.pairwise_lt_range
def o0q {st:List Nat}(h:st.Pairwise fun a b=>a<b){i k:Nat}(hk:k<st.length)(c:i<k):st.getD i 0<st.getD k 0:=by
 have:=List.pairwise_iff_getElem.1 h i k O' hk c;simpa[List.getD,hk,show i<st.length from O']using this
def x0y (C:R3 l n pl vals fB fD){st:List Nat}(hs:st.Pairwise fun a b=>a<b)(c:∀i∈st,i<pl.length):
  R3 l n (st.map fun i=>pl.getD i 0) (st.map fun i:Nat=>gt vals (i:Int)) (fun i k=>fB (st.getD i 0) (st.getD k 0)) (fun i k=>fD (st.getD i 0) (st.getD k 0)) where
 len:=Z'
 pln p hp:=by
  obtain⟨i,hi,rfl⟩:=mem_map.1 hp;exact P8 C.pln (c i hi)
 asc:=by
  rw[List.pairwise_map];exact hs.imp_of_mem fun {x y} o j d=>o0q C.asc (c y j) d
 row v hv:=by
  obtain⟨i,hi,rfl⟩:=mem_map.1 hv;exact C.row _ (mem_of_getElem? (P4 (l:=vals) (i:=i) (by rw[C.len];exact c i hi)))
 rk:=by
  have g:∀i,i<(st.map fun i=>pl.getD i 0).length->i<st.length/\st.getD i 0<pl.length:=fun i hi=>by
   simp only[List.length_map]at hi;exact⟨hi,P8 c hi⟩
  refine⟨fun i k hi hk=>C.rk.b0 _ _ (g i hi).2 (g k hk).2,fun i hi=>C.rk.bd _ (g i hi).2,fun i hi=>C.rk.dd _ (g i hi).2,fun i k hi hk f=>C.rk.d1 _ _ (g i hi).2 (g k hk).2 ?_,fun i k hi hk=>C.rk.dn _ _ (g i hi).2 (g k hk).2⟩;rcases lt_or_ge i k with h|h
  ·have:=o0q hs (g k hk).1 h;omega
  ·have:=o0q hs (g i hi).1 (show k<i from O');omega
end
theorem j0Q {l:List C0}:∀{n:Nat} {a:List Int},R4 l n=some a->∀j,j<n->∃b,R4 l j=some b/\b.length=j/\(∀i:Nat,i<j->gt a (i:Int)=gt b (i:Int))/\gt a (j:Int)=D3 l b j/\0<=D3 l b j
 |0,a,h,j,f=>O'
 |n+1,a,h,j,f=>by
  simp only[R4]at h;split at h
  ·cases h
  ·rename_i b d;split at h
   ·rename_i hg;cases h;have hl:=(c07 d).len;simp only[Z6,Bool.and_eq_true,decide_eq_true_eq]at hg
    by_cases e:j=n
    ·simp_all[b0Y,e0v]
    ·obtain⟨c,h1,k,o,g,p⟩:=j0Q d j O'
     grind [b0Y]
   grind
def o0d {c:Prop}[Decidable c]{v z:Int}(h:0<=if c then v else -1)(e:v=z):(if c then v else -1)=z:=by
 omega
theorem y0H {l:List C0}:∀{s:Tm} {lo n:Nat} {a:List Int},At l lo s->s.top lo<n->R4 l n=some a->gt a (s.top lo:Int)=lo:=by
 intro s
 induction s with
 |eps|leaf s=>
  intro lo n a h hn ha;obtain⟨b,h1,j,k,f,d⟩:=j0Q ha _ hn;have hg:=h.N3
  simp_all[D3,Tm.node,Tm.top,Tm.size]
 |cat x y c g|alt x y c g=>
  intro lo n a h hn ha;obtain⟨b,h1,j,k,f,d⟩:=j0Q ha _ hn;have hg:=h.N3;obtain⟨i,p,_⟩:=(At.bin rfl rfl).1 h;have:=y.size_pos;rw[f];have o:=c i (n:=Tm.top _ lo) (a:=b) (by grind [Tm.top,Tm.size]) h1;unfold D3 at d ⊢;rw[hg]at d ⊢
  simp_all[Tm.node,o0d]
 |star x c|maybe x c|group _ x c|iter x c=>
  intro lo n a h hn ha;obtain⟨b,h1,j,k,f,d⟩:=j0Q ha _ hn;have hg:=h.N3;obtain⟨i,_⟩:=(At.un rfl rfl).1 h;have:=x.size_pos;rw[f];have o:=c i (n:=Tm.top _ lo) (a:=b) (by grind [Tm.top,Tm.size]) h1;unfold D3 at d ⊢;rw[hg]at d ⊢;simp only[Tm.node]at d ⊢;omega
theorem g0v {l:List C0}(hR:L2 l=true){s:Tm}{lo:Nat}(h:At l lo s):gt (K4 l) (s.top lo:Int)=lo:=by
 have c:=h.V6;unfold L2 at hR;unfold K4 at hR ⊢;cases e:R4 l l.length with
 |none=>simp_all
 |some a=>
  split
  ·grind
  grind [y0H]
theorem t0P {l:List C0}(hR:L2 l=true){s:Tm}{lo:Nat}(h:At l lo s){q:Nat}(h1:lo<=q)(c:q<lo+s.size):(lo:Int)<=gt (K4 l) (q:Int):=by
 obtain⟨lo',g,f,d,i,_⟩:=h.s0D q h1 c
 grind [g0v]
def J6 (l:List C0)(a b:Nat)(q:Nat):Bool:=decide (gt (K4 l) (q:Int)<=(a:Int))&&(decide (a<=q)&&(decide (gt (K4 l) (q:Int)<=(b:Int))&&decide (b<=q)))
theorem d0o {l:List C0}{a b q:Nat}:J6 l a b q=true↔gt (K4 l) (q:Int)<=(a:Int)/\a<=q/\gt (K4 l) (q:Int)<=(b:Int)/\b<=q:=by
 simp[J6]
def c0q (b:Nat):List Fr->Nat->Tm->Nat
 |[],lo,s=>s.top lo
 |f :: fs,lo,s=>if lo<=b/\b<=s.top lo then s.top lo else c0q b fs (lo-f.off) (f.O2 s)
theorem z0P {l:List C0}{t:Tm}(o:I4 l t)(hR:L2 l=true){a b:Nat}(hb:b<l.length):∀(fs:List Fr) (lo:Nat) (s:Tm),Ctx t lo s fs->lo<=a->a<=s.top lo->(∀q,lo<=q->q<s.top lo->J6 l a b q=false)->
  J6 l a b (c0q b fs lo s)=true/\(∀q,q<c0q b fs lo s->J6 l a b q=false)/\c0q b fs lo s<l.length:=by
 intro fs
 induction fs with
 |nil=>
  intro lo s p h1 v x;obtain⟨rfl,rfl⟩:=p;have hlen:=o.len;have hl:=g0v hR o.at0;simp only[c0q];refine⟨d0o.2 ⟨O',v,O',by grind [Tm.top]⟩,fun q C=>x q (zero_le _) C,by grind [Tm.top]⟩
 |cons f fs ih=>
  intro lo s p h1 v x;have i:=p.at_ o;have J:=g0v hR i;have w:=i.V6;simp only[c0q];split
  ·grind [J6]
  ·obtain⟨g,h⟩:=p;have d:=h.at_ o;have U:=s.size_pos;have I:∀q,lo<=q->q<=s.top lo->J6 l a b q=false:=fun q k u=>by
    grind [d0o]
   have a1:∀q,q<lo->J6 l a b q=false:=fun q k=>by
    grind [d0o]
   have j:∀(y:Tm),At l (lo+s.size) y->∀q,lo+s.size<=q->q<lo+s.size+y.size->J6 l a b q=false:=fun y R q k u=>by
    have b1:=t0P hR R k u
    grind [d0o,Tm.top]
   have all:∀q,lo-f.off<=q->q<(f.O2 s).top (lo-f.off)->J6 l a b q=false:=fun q k u=>by
    rcases lt_or_ge q lo with c|c
    ·simp_all
    ·rcases lt_or_ge (s.top lo) q with c2|c2
     ·cases f<;>simp only[Fr.O2,Fr.off,Nat.sub_zero,Tm.top,Tm.size]at k u c2 d g
      case catL y=>exact j y ((At.bin rfl rfl).1 d).2.1 q O' O'
      case altL y=>exact j y ((At.bin rfl rfl).1 d).2.1 q O' O'
      all_goals omega
     simp_all
   refine ih _ _ h O' ?_ all;cases f<;>simp only[Fr.O2,Fr.off,Nat.sub_zero,Tm.top,Tm.size]at v g ⊢<;>omega
def T7 (l:List C0)(a b:Nat):Nat:=((List.range l.length).find? (J6 l a b)).getD 0
def E0h {P:Nat->Bool}{n k:Nat}(hk:k<n)(h:P k=true)(c:∀q,q<k->P q=false):(List.range n).find? P=some k:=by
 simp_all
theorem z0c {l:List C0}{a b k:Nat}(hk:k<l.length)(h:J6 l a b k=true)(c:∀q,q<k->J6 l a b q=false):T7 l a b=k:=by
 unfold T7;rw[E0h hk h c];rfl
theorem u0b (l:List C0)(a b:Nat):T7 l a b=T7 l b a:=by
 have:J6 l a b=J6 l b a:=funext fun q=>by
  grind [J6]
 simp_all[T7]
def t0g {l:List C0}{t:Tm}(c:I4 l t){q:Nat}(f:q<l.length):∃lo s fs,Ctx t lo s fs/\s.top lo=q:=by
 have d:Ctx t 0 t []:=⟨rfl,rfl⟩
 exact d.down q (zero_le _) (by have:=c.len;omega)
theorem r0Z {l:List C0}(hw:∀x∈l,P2 x)(hR:L2 l=true){a b:Nat}(ha:a<l.length)(g:b<l.length):T7 l a b<l.length/\J6 l a b (T7 l a b)=true/\∀q,q<T7 l a b->J6 l a b q=false:=by
 obtain⟨t,f⟩:=a0N hw hR;have c:=f.at0;have hlen:=f.len;have hl:=g0v hR c;have d:J6 l a b (l.length-1)=true:=d0o.2 ⟨by simp_all[Tm.top],O',by simp_all[Tm.top],O'⟩;cases e:(List.range l.length).find? (J6 l a b)with
 |none=>
  grind
 |some k=>
  have:T7 l a b=k:=by grind [T7]
  simp_all
theorem t06 {d o:List Int}:∀{s:Tm} {lo k:Nat},B8 d lo k s->B8 o lo k s->∀j:Nat,lo<=j->j<=s.top lo->gt d (j:Int)=gt o (j:Int)/\(k:Int)<=gt d (j:Int)/\gt d (j:Int)<k+s.size:=by
 intro s
 induction s with
 |eps|leaf s=>
  grind [Tm.top,Tm.size,B8]
 |cat a b f i|alt a b f i=>
  intro lo k h g j t q;obtain⟨p1,u,x⟩:=h;obtain⟨p,v,w⟩:=g;simp only[Tm.top,Tm.size]at p1 p q ⊢;rcases lt_or_ge j (lo+a.size)with c|c
  ·grind [Tm.top]
  grind [Tm.top]
 |star a f|maybe a f|group _ a f|iter a f=>
  intro lo k h g j t q;obtain⟨p1,u⟩:=h;obtain⟨p,v⟩:=g
  grind [Tm.top,Tm.size]
theorem E0O {d f:List Int}{t:Tm}(h:b02 d t)(c:b02 f t):d=f:=by
 refine List.ext_getElem (by rw[h.len,c.len]) fun j h1 g=>?_;have e:=(t06 h.deep c.deep j (zero_le _) (by have:=h.len;grind [Tm.top])).1
 simp_all[X2]
def a0Y (l:List C0):List Int:=(a0P 402 l).getD []
def u0T {l:List C0}{t:Tm}(c:I4 l t)(hR:L2 l=true):b02 (a0Y l) t:=by
 obtain⟨d,h1,f⟩:=Old.k0n c hR (show 401<402 from O')
 simp_all[a0Y]
theorem n0v {l:List C0}(hw:∀x∈l,P2 x)(hR:L2 l=true):(a0Y l).length=l.length/\∀q:Nat,q<l.length->1<=gt (a0Y l) (q:Int)/\gt (a0Y l) (q:Int)<=400:=by
 obtain⟨t,c⟩:=a0N hw hR;have h:=u0T c hR;have d:=c.le;have hlen:=c.len;refine⟨by rw[h.len,hlen],fun q f=>?_⟩;have:=(t06 h.deep h.deep q (zero_le _) (by grind [Tm.top])).2;omega
def x0K {l:List C0}(hw:∀x∈l,P2 x)(hR:L2 l=true){F:Nat}(f:401<F):a0P F l=some (a0Y l):=by
 obtain⟨t,c⟩:=a0N hw hR;obtain⟨d,h1,g⟩:=Old.k0n c hR f;rw[E0O g (u0T c hR)]at h1;exact h1
def b0s (l:List C0)(x y:B0):Int:=gt (a0Y l) ((T7 l (gt (G2 l l.length) x.To).toNat (gt (G2 l l.length) y.To).toNat:Nat):Int)+1
def g0I (l:List C0)(x y:B0):Bool:=(gt l ((T7 l (gt (G2 l l.length) x.To).toNat (gt (G2 l l.length) y.To).toNat:Nat):Int)).Kind==3
def X8 (l:List C0)(x y:B0):Int×Int×Int:=
 if x.Turn>y.Turn then(x.Turn+1,y.Turn+1,1)else if x.Turn<y.Turn then(x.Turn+1,y.Turn+1,-1)else
 if x.To>y.To then(b0s l x y,if g0I l x y then b0s l x y+1 else b0s l x y,-1)else(if g0I l x y then b0s l x y+1 else b0s l x y,b0s l x y,1)
def x0C (l:List C0)(x y:B0):b0s l x y=b0s l y x:=by unfold b0s;rw[u0b]
def B0E (l:List C0)(x y:B0):g0I l x y=g0I l y x:=by unfold g0I;rw[u0b]
def p0I (l:List C0)(x y:B0)(h:x.To≠y.To):X8 l y x=((X8 l x y).2.1,(X8 l x y).1,- (X8 l x y).2.2):=by
 unfold X8;rw[x0C l y x,B0E l y x];rcases Int.lt_trichotomy x.Turn y.Turn with c|c|c
 ·rw[if_pos (show y.Turn>x.Turn from c),if_neg (show ¬x.Turn>y.Turn from O'),if_pos c];simp
 ·rw[if_neg (show ¬y.Turn>x.Turn from O'),if_neg (show ¬y.Turn<x.Turn from O'),if_neg (show ¬x.Turn>y.Turn from O'),if_neg (show ¬x.Turn<y.Turn from O')];rcases Int.lt_or_gt_of_ne h with c2|c2
  ·rw[if_pos (show y.To>x.To from c2),if_neg (show ¬x.To>y.To from O')]
  ·rw[if_neg (show ¬y.To>x.To from O'),if_pos (show x.To>y.To from c2)];simp
 ·rw[if_neg (show ¬y.Turn>x.Turn from O'),if_pos (show y.Turn<x.Turn from c),if_pos (show x.Turn>y.Turn from c)]
structure b0j (n:Nat)(h:B0):Prop where
 to0:0<=h.To
 to1:h.To<n
 t0:0<=h.Turn
 t1:h.Turn<=400
def r0p {l:List C0}(hw:∀x∈l,P2 x)(hR:L2 l=true){n:Nat}(hn:n=N0 l l.length){x y:B0}(g:b0j n x)(h:b0j n y):0<=(X8 l x y).1/\0<=(X8 l x y).2.1/\((X8 l x y).2.2=1\/(X8 l x y).2.2=-1):=by
 have f:1<=b0s l x y:=by
  obtain⟨h1,C,t,o⟩:=g;obtain⟨w,j,u,k⟩:=h;obtain⟨p,hp,d,_⟩:=e05 l l.length x.To.toNat O';obtain⟨q,f,c,_⟩:=e05 l l.length y.To.toNat O';have v:gt (G2 l l.length) x.To=(p:Int):=m0k d;have i:gt (G2 l l.length) y.To=(q:Int):=m0k c;have s:=(r0Z hw hR (a:=p) (b:=q) hp f).1;have:=((n0v hw hR).2 _ s).1;unfold b0s;rw[v,i];simp only[toNat_natCast];omega
 obtain⟨h1,C,t,o⟩:=g;obtain⟨w,j,u,k⟩:=h;unfold X8;split
 ·exact⟨by simp only;omega,by simp only;omega,.inl rfl⟩
 ·split
  ·exact⟨by simp only;omega,by simp only;omega,.inr rfl⟩
  ·split
   ·refine⟨by simp only;omega,?_,.inr rfl⟩;simp only;split<;>omega
   ·refine⟨?_,by simp only;omega,.inl rfl⟩;simp only;split<;>omega
section
variable (l:List C0)(fB fD:Nat->Nat->Int)(fr:List Nat)(hops:List B0)
def u6 (i k:Nat):Int:=if i=k then 0 else if fr.getD i 0=fr.getD k 0 then(X8 l (gt hops (i:Int)) (gt hops (k:Int))).1 else a0B (fB (fr.getD i 0) (fr.getD k 0)) (gt hops (i:Int)).Turn
def Q6 (i k:Nat):Int:=if i=k then 0 else if fr.getD i 0=fr.getD k 0 then(X8 l (gt hops (i:Int)) (gt hops (k:Int))).2.2 else n9 fB fD (fr.getD i 0) (fr.getD k 0) (gt hops (i:Int)) (gt hops (k:Int))
end
def B0P {fB fD:Nat->Nat->Int}{a b:Nat}{p q:B0}(h:fD b a=- fD a b):n9 fB fD b a q p=- n9 fB fD a b p q:=by
 unfold n9;rcases Int.lt_trichotomy (a0B (fB a b) p.Turn) (a0B (fB b a) q.Turn)with c|c|c
 ·rw[if_pos c,if_neg (show ¬a0B (fB a b) p.Turn>a0B (fB b a) q.Turn from O'),if_pos c];rfl
 ·rw[if_neg O',if_neg O',if_neg O',if_neg O',h]
 ·rw[if_neg O',if_pos c,if_pos c]
def z0X {b t:Int}(f:0<=b)(d:0<=t)(c:t<=400):0<=a0B b t:=by
 unfold a0B;rw[E3 O' O'];split<;>omega
def F0E {fB fD:Nat->Nat->Int}{a b:Nat}{p q:B0}(h:fD a b=1\/fD a b=-1):n9 fB fD a b p q=1\/n9 fB fD a b p q=-1:=by
 unfold n9;split
 ·exact .inl rfl
 ·split
  ·exact .inr rfl
  ·exact h
def g0q {n:Nat}{hops:List B0}(h:∀x∈hops,b0j n x){i:Nat}(hi:i<hops.length):b0j n (gt hops (i:Int)):=h _ (mem_of_getElem? (P4 hi))
def r0A {hops:List B0}(h:hops.Pairwise fun a b=>a.To<b.To){i k:Nat}(hi:i<hops.length)(hk:k<hops.length)(d:i≠k):(gt hops (i:Int)).To≠(gt hops (k:Int)).To:=by
 have hp:=List.pairwise_iff_getElem.1 h;have f:gt hops (i:Int)=hops[i]:=X2 (by simp[hi]);have g:gt hops (k:Int)=hops[k]:=X2 (by simp[hk]);rw[f,g];rcases Nat.lt_or_gt_of_ne d with c|c
 ·have:=hp i k hi hk c;omega
 ·have:=hp k i hk hi c;omega
def t07 {l:List C0}(hw:∀x∈l,P2 x)(hR:L2 l=true){n:Nat}(hn:n=N0 l l.length){m:Nat}{fB fD:Nat->Nat->Int}(h:a0y m fB fD){fr:List Nat}{hops:List B0}(hi:∀i∈fr,i<m)(hlen:hops.length=fr.length)(g:∀x∈hops,b0j n x)
  (c:hops.Pairwise fun a b=>a.To<b.To):a0y fr.length (u6 l fB fr hops) (Q6 l fB fD fr hops) where
 b0 i k h1 h2:=by
  have d:=g0q g (i:=i) O';have j:=g0q g (i:=k) O';unfold u6;split
  ·exact Int.le_refl _
  ·split
   ·exact(r0p hw hR hn d j).1
   ·exact z0X (h.b0 _ _ (P8 hi h1) (P8 hi h2)) d.t0 d.t1
 bd i h1:=by unfold u6;rw[if_pos rfl]
 dd i h1:=by unfold Q6;rw[if_pos rfl]
 d1 i k h1 h2 hne:=by
  have d:=g0q g (i:=i) O';have j:=g0q g (i:=k) O';unfold Q6;rw[if_neg hne];split
  ·exact(r0p hw hR hn d j).2.2
  ·rename_i o;exact F0E (h.d1 _ _ (P8 hi h1) (P8 hi h2) o)
 dn i k h1 h2:=by
  unfold Q6
  by_cases e:i=k
  ·subst e;rw[if_pos rfl];rfl
  ·rw[if_neg e,if_neg (fun h=>e h.symm)]
   by_cases f:fr.getD i 0=fr.getD k 0
   ·rw[if_pos f,if_pos f.symm,p0I l _ _ (r0A c O' O' e)]
   ·rw[if_neg f,if_neg (fun h=>f h.symm)];exact B0P (h.dn _ _ (P8 hi h1) (P8 hi h2))
def n0D {σ τ:Type}{step:σ->Option (Q0 σ τ)}{s c:σ}{k:Nat}(h:step s=some (.next c)):iter step (k+1) s=iter step k c:=by
 rw[show iter step (k+1) s=match step s with|none=>none|some (.next c)=>iter step k c|some (.done t)=>some t from rfl,h]
def u0x {σ τ:Type}{step:σ->Option (Q0 σ τ)}{s:σ}{t:τ}{k:Nat}(h:step s=some (.done t)):iter step (k+1) s=some t:=by
 rw[show iter step (k+1) s=match step s with|none=>none|some (.next c)=>iter step k c|some (.done t)=>some t from rfl,h]
section
variable {F:Nat}{l:List C0}
theorem G09 {t:Tm}(j:I4 l t)(hR:L2 l=true){u d:List Int}(hu:UpT u t)(hd:b02 d t){b:Nat}(C:b<l.length):∀(fs:List Fr) (lo:Nat) (s:Tm),Ctx t lo s fs->∀k,fs.length<k->iter (a0E u (K4 l) (b:Int)) k (s.top lo:Int)=some ((c0q b fs lo s:Nat):Int):=by
 have v:=e06 hR;have hlen:=j.len;intro fs
 induction fs with
 |nil=>
  intro lo s g k hk;obtain⟨k,rfl⟩:∃q,k=q+1:=⟨k-1,O'⟩
  have c:=g.at_ j;have o:=g0v hR c;have i:=c.V6;obtain⟨rfl,rfl⟩:=g;have p:y0 (K4 l) (s.top 0:Int)=true:=V0 O' (by rw[v.len];omega);have y:(b:Int)<=(s.top 0:Int):=by grind [Tm.top]
  simp_all[u0x,a0E,c0q]
 |cons f fs ih=>
  intro lo s g k hk;obtain⟨k,rfl⟩:∃q,k=q+1:=⟨k-1,O'⟩
  have c:=g.at_ j;have o:=g0v hR c;have i:=c.V6;have w:=g.a0Z j hu hd;have p:y0 (K4 l) (s.top lo:Int)=true:=V0 O' (by rw[v.len];omega);have x:y0 u (s.top lo:Int)=true:=V0 O' (by rw[hu.len];omega);have hn:=ih _ _ g.2 k (by simp_all)
  by_cases h:lo<=b/\b<=s.top lo
  ·simp_all[u0x,a0E,c0q]
  ·have hs:a0E u (K4 l) (b:Int) (s.top lo:Int)=some (.next ((Fr.O2 s f).top (lo-f.off):Int)):=by
    simp_all[a0E]
   rw[n0D hs,c0q,if_neg h,hn]
def y0E (hw:∀x∈l,P2 x)(hR:L2 l=true)(y:1000<F){a b:Nat}(ha:a<l.length)(j:b<l.length):g0D F l (a:Int) (b:Int)=some ((T7 l a b:Nat):Int):=by
 obtain⟨t,c⟩:=a0N hw hR;obtain⟨u,h1,k⟩:=Old.p0m c hR (show 401<F from O');obtain⟨d,_,p⟩:=Old.k0n c hR (show 401<F from O');obtain⟨lo,s,fs,h,hs⟩:=t0g c ha;have w:=k.len;have hlen:=c.len;have i:=c.le;have v:=h.size;have g:=z0P c hR (a:=a) j fs lo s h (by have:=s.size_pos;unfold Tm.top at hs;omega) O' (fun q C I=>by
  have:¬J6 l a b q=true:=fun o=>by have:=(d0o.1 o).2.1;omega
  simpa using this)
 have f:=G09 c hR k p j fs lo s h F O';rw[hs]at f;unfold g0D;rw[h1];have c1:(decide ((a:Int)<0)||(decide ((b:Int)<0)||(decide ((a:Int)>=(u.length:Int))||decide ((b:Int)>=(u.length:Int)))))=false:=by
  simp only[Bool.or_eq_false_iff,decide_eq_false_iff_not];omega
 simp only[q0,c1,r0n (show 401<F from O'),f];rw[z0c g.2.2 g.1 g.2.1]
theorem l0e (l:List C0){n:Nat}(hn:n=N0 l l.length){x:Int}(c:0<=x)(h1:x<n):∃q:Nat,q<l.length/\gt (G2 l l.length) x=(q:Int)/\y0 (G2 l l.length) x=true:=by
 obtain⟨q,d,f,_⟩:=e05 l l.length x.toNat O'
 grind [m0k,V0]
theorem r0U (hw:∀x∈l,P2 x)(hR:L2 l=true){n:Nat}(hn:n=N0 l l.length)(i:1000<F)(j:C7 F l=some (G2 l l.length)){x y:B0}(g:b0j n x)(o:b0j n y)(v:x.To≠y.To)(k:Nat)(hle:x.Turn≠y.Turn\/x.To<y.To):
  e00 F (k+1) l x y=some (X8 l x y):=by
 obtain⟨d,a2,a3,a4⟩:=g;obtain⟨f,u,U,b4⟩:=o;have I:=K9 l l.length;unfold e00;rw[j];have c1:x.To>=0:=d;have c2:x.To<((G2 l l.length).length:Int):=O'
 have c3:y.To>=0:=f;have c4:y.To<((G2 l l.length).length:Int):=O'
 have c5:(x.To==y.To)=false:=by simp_all
 have w1:W (x.Turn+1)=x.Turn+1:=E3 O' O';have J:W (y.Turn+1)=y.Turn+1:=E3 O' O';simp only[q0,c1,c2,c3,c4,c5,w1,J,decide_eq_true_eq];unfold X8
 by_cases h1:x.Turn>y.Turn
 ·simp_all
 ·rw[if_neg h1,if_neg h1]
  by_cases h2:x.Turn<y.Turn
  ·simp_all
  ·have R:¬x.To>y.To:=O'
   obtain⟨p,hp,s,t⟩:=l0e l hn d a2;obtain⟨q,c,w,i2⟩:=l0e l hn f u;have h:=(r0Z hw hR hp c).1;have hd:=(n0v hw hR).1;have C:=(n0v hw hR).2 _ h;unfold b0s g0I;rw[t,i2,s,w];simp only[if_true,y0E hw hR i hp c,x0K hw hR (show 401<F from O'),G0,toNat_natCast];have i3:y0 (a0Y l) ((T7 l p q:Nat):Int)=true:=V0 O' O';have i4:y0 l ((T7 l p q:Nat):Int)=true:=V0 O' O';have w3:W (gt (a0Y l) ((T7 l p q:Nat):Int)+1)=gt (a0Y l) ((T7 l p q:Nat):Int)+1:=E3 O' O';have w4:W (gt (a0Y l) ((T7 l p q:Nat):Int)+1+1)=gt (a0Y l) ((T7 l p q:Nat):Int)+1+1:=E3 O' O'
   grind
def C04 (hw:∀x∈l,P2 x)(hR:L2 l=true){n:Nat}(hn:n=N0 l l.length)(o:1000<F)(f:C7 F l=some (G2 l l.length)){x y:B0}(d:b0j n x)(g:b0j n y)(c:x.To≠y.To):
  e00 F F l x y=some (X8 l x y):=by
 obtain⟨k,rfl⟩:∃k,F=k+2:=⟨F-2,O'⟩
 by_cases hle:x.Turn≠y.Turn\/x.To<y.To
 ·simp_all[r0U]
 ·have h:=r0U hw hR hn o f g d (fun h=>c h.symm) k (.inr O');have q:=p0I l x y c;obtain⟨j,a2,a3,a4⟩:=d;obtain⟨s,w,v,u⟩:=g;have i:=K9 l l.length;unfold e00;rw[f];have c1:x.To>=0:=j;have c2:x.To<((G2 l l.length).length:Int):=O'
  have c3:y.To>=0:=s;have c4:y.To<((G2 l l.length).length:Int):=O'
  have c5:(x.To==y.To)=false:=by simp_all
  have h1:¬x.Turn>y.Turn:=O'
  have t:¬x.Turn<y.Turn:=O'
  have p:x.To>y.To:=O'
  simp only[q0,c1,c2,c3,c4,c5,h1,t,p,h,q]
  simp_all[X8]
end
def N4 (i k:Nat)(f:Nat->Nat->Int)(a b:Nat):Int:=if(a<i/\b<i)\/(a=i/\b<k)\/(b=i/\a<k)then f a b else 0
def y0u {m i k:Nat}(hk:k<i)(f:Nat->Nat->Int):
  U1 m m (fun a=>if a=k then(fun j=>if j=i then f k i else(if k=i then(fun j=>if j=k then f i k else N4 i k f i j)else N4 i k f k) j)else(if a=i then(fun j=>if j=k then f i k else N4 i k f i j)else N4 i k f a))=U1 m m (N4 i (k+1) f):=by
 refine d0F fun a b _ _=>?_;have h:¬k=i:=O'
 by_cases g:a=k
 ·by_cases c:b=i
  ·simp_all[N4]
  simp_all[N4]
 ·rw[if_neg g]
  by_cases c:a=i
  ·rw[if_pos c]
   by_cases d:b=k
   ·simp_all[N4]
   ·rw[if_neg d,c];unfold N4;omega
  ·rw[if_neg c];unfold N4;omega
theorem s0v {m i:Nat}(f:Nat->Nat->Int)(h:f i i=0):U1 m m (N4 i i f)=U1 m m (N4 (i+1) 0 f):=by
 unfold N4
 grind
theorem C0J {fr:List Nat}{i k:Nat}:(((fr.getD i 0:Nat):Int)==((fr.getD k 0:Nat):Int))=decide (fr.getD i 0=fr.getD k 0):=by
 grind
section
variable {F:Nat}{l:List C0}{n m:Nat}{fB fD:Nat->Nat->Int}{fr:List Nat}{hops:List B0}
structure q0J (l:List C0)(n m:Nat)(fr:List Nat)(hops:List B0):Prop where
 lt:∀i∈fr,i<m
 len:hops.length=fr.length
 le:fr.length<=500
 hop:∀x∈hops,b0j n x
 asc:hops.Pairwise fun a b=>a.To<b.To
def J0c {d:Int}(h:d=1\/d=-1):W (0-d)=- d:=by rcases h with h|h<;>rw[h]<;>rfl
def I0X (hw:∀x∈l,P2 x)(hR:L2 l=true)(hn:n=N0 l l.length)(R:2000<F)(y:C7 F l=some (G2 l l.length))(h:a0y m fB fD)(g:q0J l n m fr hops){i:Nat}(hi:i<fr.length):
  iter (h0P F l (U2 m fB fD) (D1 fr) hops (i:Int)) F (0,U1 fr.length fr.length (N4 i 0 (u6 l fB fr hops)),U1 fr.length fr.length (N4 i 0 (Q6 l fB fD fr hops)))=some (U1 fr.length fr.length (N4 (i+1) 0 (u6 l fB fr hops)),U1 fr.length fr.length (N4 (i+1) 0 (Q6 l fB fD fr hops))):=by
 have hle:=g.le;have ok:=t07 hw hR hn h g.lt g.len g.hop g.asc;rw[<-s0v _ (ok.bd i hi),<-s0v _ (ok.dd i hi)];have:=H3 (step:=h0P F l (U2 m fB fD) (D1 fr) hops (i:Int)) (fun k=>((k:Int),U1 fr.length fr.length (N4 i k (u6 l fB fr hops)),U1 fr.length fr.length (N4 i k (Q6 l fB fD fr hops)))) (U1 fr.length fr.length (N4 i i (u6 l fB fr hops)),U1 fr.length fr.length (N4 i i (Q6 l fB fD fr hops))) i (fun k hk=>.inl ?_) ?_ i 0 F O' O'
 ·omega
 ·have c:k<fr.length:=O'
  have h1:(k:Int)<(i:Int):=O'
  have s:y0 hops (i:Int)=true:=V0 O' (by rw[g.len];omega);have v:y0 hops (k:Int)=true:=V0 O' (by rw[g.len];omega);have I:=g0q g.hop (i:=i) (by rw[g.len];exact hi);have J:=g0q g.hop (i:=k) (by rw[g.len];omega);have f:=r0A g.asc (i:=i) (k:=k) (by rw[g.len];exact hi) (by rw[g.len];omega) O';have u:¬i=k:=O'
  have d:¬k=i:=O'
  have w:=ok.dn i k hi c;have o:=ok.d1 i k hi c u;have t:W (0-Q6 l fB fD fr hops i k)=Q6 l fB fD fr hops k i:=by rw[w];exact J0c o
  have key:∀p q r:Int,p=u6 l fB fr hops i k->q=u6 l fB fr hops k i->r=Q6 l fB fD fr hops i k->
    (Option.bind (some (U1 fr.length fr.length (fun a=>if a=k then(fun j=>if j=i then q else(if k=i then(fun j=>if j=k then p else N4 i k (u6 l fB fr hops) i j)else N4 i k (u6 l fB fr hops) k) j)else(if a=i then(fun j=>if j=k then p else N4 i k (u6 l fB fr hops) i j)else N4 i k (u6 l fB fr hops) a)),
     U1 fr.length fr.length (fun a=>if a=i then(fun j=>if j=k then r else N4 i k (Q6 l fB fD fr hops) i j)else N4 i k (Q6 l fB fD fr hops) a))) fun(C,y6)=>
    (if y0 y6 (k:Int)then
     if y0 y6 (i:Int)then
      if y0 (gt y6 (i:Int)) (k:Int)then
       if y0 (gt y6 (k:Int)) (i:Int)then
        let t5:=y6.set (k:Int).toNat ((gt y6 (k:Int)).set (i:Int).toNat (W (0-(gt (gt y6 (i:Int)) (k:Int)))))
        some (.next (W ((k:Int)+1),C,t5))
       else none
      else none
     else none
    else none:Option (Q0 (Int×(List (List Int))×(List (List Int))) ((List (List Int))×(List (List Int))))))=some (.next (((k+1:Nat):Int),U1 fr.length fr.length (N4 i (k+1) (u6 l fB fr hops)),U1 fr.length fr.length (N4 i (k+1) (Q6 l fB fD fr hops)))):=by
   rintro p q r rfl rfl rfl
   simp only[G0,H9 _ hi,H9 _ c,R8 _ hi,R8 _ c,a0k _ hi,a0k _ c,if_true,b0y _ c,toNat_natCast,o0c,m0L,y0u hk,t,X1 (i:=k) O']
  unfold h0P;simp only[h1,decide_true,if_true,q9 hi,q9 c,a0T hi,a0T c,C0J,decide_eq_true_eq,H9 _ hi,H9 _ c,s,v,C04 hw hR hn (show 1000<F from O') y I J f,R8 _ hi,R8 _ c,a0k _ hi,a0k _ c,l0i g.len g.lt hi c,l0i g.len g.lt c hi,t0w g.len g.lt hi c,toNat_natCast,o0c,m0L]
  by_cases he:fr.getD i 0=fr.getD k 0
  ·rw[if_pos he];refine key _ _ _ ?_ ?_ ?_
   ·unfold u6;omega
   ·unfold u6;rw[if_neg d,if_pos he.symm,p0I l _ _ f]
   ·unfold Q6;simp_all
  ·rw[if_neg he];refine key _ _ _ ?_ ?_ ?_
   ·unfold u6;omega
   ·unfold u6;omega
   ·unfold Q6;omega
 simp[h0P]
def A0k (hw:∀x∈l,P2 x)(hR:L2 l=true)(hn:n=N0 l l.length)(c:2000<F)(k:C7 F l=some (G2 l l.length))(hm:m<=1000)(h:a0y m fB fD)(g:q0J l n m fr hops):
  j03 F l (U2 m fB fD) (D1 fr) hops=some (U2 fr.length (u6 l fB fr hops) (Q6 l fB fD fr hops)):=by
 have hle:=g.le;unfold j03;rw[j0W hm c h];have hlen:(((D1 fr).length:Int) != (hops.length:Int))=false:=by rw[e0b,g.len];simp
 have t1:=H3 (step:=g0V F (U2 m fB fD) (D1 fr)) (fun i=>(i:Int)) (.inr ()) fr.length (fun i hi=>.inl ?_) ?_ fr.length 0 F O' O'
 ·have o:iter (g0V F (U2 m fB fD) (D1 fr)) F 0=_:=t1;have t2:=H3 (step:=g0X F l (U2 m fB fD) (D1 fr) hops) (fun i=>((i:Int),U1 fr.length fr.length (N4 i 0 (u6 l fB fr hops)),U1 fr.length fr.length (N4 i 0 (Q6 l fB fD fr hops)))) (U1 fr.length fr.length (u6 l fB fr hops),U1 fr.length fr.length (Q6 l fB fD fr hops)) fr.length (fun i hi=>.inl ?_) ?_ fr.length 0 F O' O'
  ·have z:∀f,U1 fr.length fr.length (N4 0 0 f)=U1 fr.length fr.length fun _ _=>0:=fun f=>d0F fun a b _ _=>by simp[N4]
   rw[z,z]at t2;have d:iter (g0X F l (U2 m fB fD) (D1 fr) hops) F (0,U1 fr.length fr.length (fun _ _=>0),U1 fr.length fr.length fun _ _=>0)=_:=t2;simp only[q0,hlen,o,show decide ((-1:Int)>=0)=false from rfl];rw[e0b,u0f O' c];simp only[G0,d];rfl
  ·unfold g0X;have h1:(i:Int)<((D1 fr).length:Int):=by simp;omega
   simp only[q0,h1,I0X hw hR hn c k h g hi,X1 (i:=i) O']
  ·unfold g0X;have z:∀f,U1 fr.length fr.length (N4 fr.length 0 f)=U1 fr.length fr.length f:=fun f=>d0F fun a b _ _=>by simp_all[N4]
   simp_all
 ·unfold g0V e0F;have h1:(i:Int)<((D1 fr).length:Int):=by simp;omega
  have q:=P8 g.lt hi;have p:((fr.getD i 0:Nat):Int)>=0:=O'
  have j:((fr.getD i 0:Nat):Int)<((U2 m fB fD).B.length:Int):=by simp_all[U2]
  simp only[q0,h1,q9 hi,a0T hi,p,j,X1 (i:=i) O']
 simp[g0V]
end
def wrap_u64 {n:Nat}(h:n<18446744073709551616):IntKind.wrap .u64 (n:Int)=n:=by
 simp[IntKind.wrap,IntKind.bits,IntKind.signed];omega
def w0U (x y:BitVec 64):Q2 .u64 (x.toNat:Int) (y.toNat:Int)=((x&&& y).toNat:Int):=by
 unfold Q2;simp only[IntKind.bits,BitVec.ofInt_natCast,BitVec.ofNat_toNat,BitVec.setWidth_eq];exact wrap_u64 (x&&& y).isLt
def G0K {k:Nat}(h:k<64):shl .u64 1 (k:Int)=((BitVec.twoPow 64 k).toNat:Int):=by
 have h1:min k 64=k:=O'
 have c:2 ^ k<18446744073709551616:=Nat.pow_lt_pow_right (a:=2) O' (show k<64 from h);unfold shl;rw[show(IntKind.u64).bits=64 from rfl,toNat_natCast,h1,Int.one_mul,BitVec.toNat_twoPow,Nat.mod_eq_of_lt c];rw[show((2:Int) ^ k)=((2 ^ k:Nat):Int) from Z'];exact wrap_u64 c
def D00 (x:BitVec 64){k:Nat}(h:k<64):shr .u64 (x.toNat:Int) (k:Int)=((x >>> k).toNat:Int):=by
 have h1:min k 64=k:=O'
 unfold shr;rw[show(IntKind.u64).bits=64 from rfl,toNat_natCast,h1,BitVec.toNat_ushiftRight,Nat.shiftRight_eq_div_pow,show((2:Int) ^ k)=((2 ^ k:Nat):Int) from Z',Int.fdiv_eq_ediv_of_nonneg _ (Int.natCast_nonneg _),Int.natCast_ediv]
def D0A {v:Int}(d:0<=v)(h1:v<18446744073709551616){k:Nat}(hk:k<64):(Q2 .u64 v (shl .u64 1 (k:Int)) != 0)=(Q2 .u64 (shr .u64 v (k:Int)) 1==1):=by
 obtain⟨x,rfl⟩:∃x:BitVec 64,v=(x.toNat:Int):=⟨BitVec.ofNat 64 v.toNat,by rw[BitVec.toNat_ofNat,Nat.mod_eq_of_lt O'];omega⟩
 rw[G0K hk,D00 x hk,w0U,show(1:Int)=((BitVec.twoPow 64 0).toNat:Int)from rfl,w0U,BitVec.and_twoPow,BitVec.and_twoPow];have c:(x >>> k).getLsbD 0=x.getLsbD k:=Z'
 rw[c];have hp:(BitVec.twoPow 64 k).toNat≠0:=by
  rw[BitVec.toNat_twoPow,Nat.mod_eq_of_lt (Nat.pow_lt_pow_right (a:=2) O' (show k<64 from hk))];exact Nat.ne_of_gt (Nat.two_pow_pos k)
 cases x.getLsbD k with
 |false=>simp
 |true=>
  have:((BitVec.twoPow 64 k).toNat:Int)≠0:=O'
  simp only[if_true,bne_iff_ne,ne_eq,this,not_false_eq_true,beq_self_eq_true,bne,beq_eq_false_iff_ne.2 this,Bool.not_false]
def hasB (s:List Int)(b:Int):Bool:=Q2 .u64 (gt s (Int.tdiv b 64)) (shl .u64 1 (Int.tmod b 64)) != 0
def t0N (fuel:Nat){s:List Int}(hs:s.length=4/\∀y∈s,L5 .u64 y){b:Int}(j:L5 .u8 b):e0H fuel s b=some (hasB s b)/\w0t fuel s (W b)=some (hasB s b):=by
 have o:0<=b/\b<256:=⟨j.1,by have:=j.2;rw[show IntKind.u8.max=255 from rfl]at this;omega⟩
 obtain⟨n,rfl⟩:∃n:Nat,b=n:=⟨b.toNat,O'⟩
 have hn:n<256:=O'
 have hd:Int.tdiv (n:Int) 64=((n / 64:Nat):Int):=by rw[Int.tdiv_eq_ediv_of_nonneg O'];simp
 have hm:Int.tmod (n:Int) 64=((n % 64:Nat):Int):=by rw[Int.tmod_eq_emod_of_nonneg O'];simp
 have g:IntKind.wrap .u8 ((n / 64:Nat):Int)=((n / 64:Nat):Int):=by simp[IntKind.wrap,IntKind.bits,IntKind.signed];omega
 have d:W (n:Int)=n:=r0d O';have f:W ((n / 64:Nat):Int)=((n / 64:Nat):Int):=r0d O';have v:v0w 4 ((n / 64:Nat):Int)=true:=by simp[v0w];omega
 have c:=hs.2 _ (mem_of_getElem? (P4 (l:=s) (i:=n / 64) O'));have h:0<=gt s ((n / 64:Nat):Int)/\gt s ((n / 64:Nat):Int)<18446744073709551616:=⟨c.1,by have:=c.2;rw[show IntKind.u64.max=18446744073709551615 from rfl]at this;omega⟩
 have w:(0:Int)<=((n % 64:Nat):Int):=O'
 unfold e0H w0t hasB;have q:(0:Int)<=((n / 64:Nat):Int):=O'
 have u:((n / 64:Nat):Int)<4:=O'
 have k:¬((n % 64:Nat):Int)<0:=O'
 have t:(n:Int)>=0:=O'
 have p:(n:Int)<256:=O'
 simp only[q0,d,hd,hm,g,f,q,u,k,t,p,Bool.and_self,D0A h.1 h.2 (show n % 64<64 from O'),and_self]
def F8 (ws:List B0)(r:Nat):Option B0:=ws.find? fun h=>h.To==(r:Int)
def c02 (ws:List B0)(r:Nat):B0:=(F8 ws r).getD ⟨0,0,[]⟩
def T3 (Ws:List (List B0))(r k:Nat):List Nat:=(List.range k).filter fun i=>(F8 (Ws.getD i []) r).isSome
def l7 (Ws:List (List B0))(r k:Nat):List B0:=(T3 Ws r k).map fun i=>c02 (Ws.getD i []) r
def t04 (Ws:List (List B0))(r k:Nat):T3 Ws r (k+1)=T3 Ws r k++if(F8 (Ws.getD k []) r).isSome then[k]else[]:=by
 unfold T3;rw[range_succ,filter_append];congr 1;cases h:(F8 (Ws.getD k []) r).isSome
 ·simp only[filter_cons,h,false_eq_true,if_false,filter_nil]
 ·simp only[filter_cons,h,if_true,filter_nil]
def y0S (Ws:List (List B0))(r k:Nat):l7 Ws r (k+1)=l7 Ws r k++if(F8 (Ws.getD k []) r).isSome then[c02 (Ws.getD k []) r]else[]:=by
 unfold l7;rw[t04,List.map_append];congr 1;split<;>rfl
def w0x {Ws:List (List B0)}{r k i:Nat}(h:i∈T3 Ws r k):i<k:=mem_range.1 (mem_filter.1 h).1
def s0Q (Ws:List (List B0))(r k:Nat):(T3 Ws r k).length<=k:=le_trans (List.length_filter_le _ _) Z'
def s06 (Ws:List (List B0))(r k:Nat):(l7 Ws r k).length=(T3 Ws r k).length:=by simp[l7]
def H0K {ws:List B0}{r:Nat}(h:(F8 ws r).isSome=true):c02 ws r∈ws/\(c02 ws r).To=r:=by
 unfold c02;cases e:F8 ws r with
 |none=>rw[e]at h;simp at h
 |some x=>
  have:=List.find?_some e;exact⟨List.mem_of_find?_eq_some e,by simpa using this⟩
def b0T (fB fD:Nat->Nat->Int)(Ws:List (List B0))(r:Nat):Nat:=(f0I fB fD (T3 Ws r Ws.length) (l7 Ws r Ws.length)).toNat
def e0Z (fB fD:Nat->Nat->Int)(Ws:List (List B0))(r:Nat):Nat:=(T3 Ws r Ws.length).getD (b0T fB fD Ws r) 0
def i0b (fB fD:Nat->Nat->Int)(Ws:List (List B0))(r:Nat):B0:=c02 (Ws.getD (e0Z fB fD Ws r) []) r
def H6 (hs:Nat->Bool)(Ws:List (List B0))(k:Nat):List Nat:=(List.range k).filter fun r=>hs r&&!(T3 Ws r Ws.length).isEmpty
def A0A (hs:Nat->Bool)(Ws:List (List B0))(k:Nat):H6 hs Ws (k+1)=H6 hs Ws k++if hs k&&!(T3 Ws k Ws.length).isEmpty then[k]else[]:=by
 unfold H6;rw[range_succ,filter_append];congr 1;cases h:(hs k&&!(T3 Ws k Ws.length).isEmpty)<;>simp[h]
def w09 {hs:Nat->Bool}{Ws:List (List B0)}{k i:Nat}(h:i∈H6 hs Ws k):i<k:=mem_range.1 (mem_filter.1 h).1
def w0W (hs:Nat->Bool)(Ws:List (List B0))(k:Nat):(H6 hs Ws k).length<=k:=le_trans (List.length_filter_le _ _) Z'
def r0g (hs:Nat->Bool)(Ws:List (List B0))(k:Nat):(H6 hs Ws k).Pairwise fun a b=>a<b:=List.Pairwise.filter _ List.pairwise_lt_range
def D0w {hs:Nat->Bool}{Ws:List (List B0)}{k r:Nat}(h:r∈H6 hs Ws k):hs r=true/\T3 Ws r Ws.length≠[]:=by
 have:=(mem_filter.1 h).2;simpa using this
def D03 {fB fD:Nat->Nat->Int}{fr:List Nat}{hops:List B0}:∀k,0<k->∃j:Nat,c00 fB fD fr hops k=j/\j<k:=by
 intro k
 induction k with
 |zero=>intro h;omega
 |succ k ih=>
  intro _;rw[n0n];unfold f0E;split
  ·exact⟨k,rfl,O'⟩
  ·split
   ·exact⟨k,rfl,O'⟩
   ·rcases v03 fB fD fr hops k with h|⟨j,h,hj⟩
    ·rename_i c _;rw[h]at c;exact absurd (show(-1:Int)<0 from O') c
    ·exact⟨j,h,O'⟩
def y0K {fB fD:Nat->Nat->Int}{fr:List Nat}{hops:List B0}(h:fr≠[]):∃j:Nat,f0I fB fD fr hops=j/\j<fr.length:=D03 _ (List.length_pos_iff.2 h)
theorem A0s {fB fD:Nat->Nat->Int}{hops:List B0}:f0I fB fD [] hops=-1:=rfl
section
variable {fB fD:Nat->Nat->Int}{Ws:List (List B0)}{r:Nat}
def l0V (h:T3 Ws r Ws.length≠[]):f0I fB fD (T3 Ws r Ws.length) (l7 Ws r Ws.length)=(b0T fB fD Ws r:Int)/\b0T fB fD Ws r<(T3 Ws r Ws.length).length:=by
 obtain⟨j,h1,c⟩:=y0K (fB:=fB) (fD:=fD) (hops:=l7 Ws r Ws.length) h;unfold b0T;rw[h1];exact⟨rfl,c⟩
def v0c (h:T3 Ws r Ws.length≠[]):e0Z fB fD Ws r∈T3 Ws r Ws.length:=by
 have:=(l0V (fB:=fB) (fD:=fD) h).2;unfold e0Z;rw[show(T3 Ws r Ws.length).getD (b0T fB fD Ws r) 0=(T3 Ws r Ws.length)[b0T fB fD Ws r]from by simp[List.getD,this]];exact getElem_mem this
def e0o (h:T3 Ws r Ws.length≠[]):e0Z fB fD Ws r<Ws.length:=w0x (v0c h)
def H0C (h:T3 Ws r Ws.length≠[]):gt (l7 Ws r Ws.length) (b0T fB fD Ws r:Int)=i0b fB fD Ws r:=by
 have:=(l0V (fB:=fB) (fD:=fD) h).2;refine X2 ?_;unfold i0b e0Z l7;simp[List.getD,this]
def i0V (h:T3 Ws r Ws.length≠[]):i0b fB fD Ws r∈Ws.getD (e0Z fB fD Ws r) []/\(i0b fB fD Ws r).To=r:=H0K (mem_filter.1 (v0c h)).2
end
def t0V (hs:Nat->Bool)(Ws:List (List B0)):Nat->Nat
 |0=>0
 |r+1=>t0V hs Ws r+if hs r then(T3 Ws r Ws.length).length else 0
def U07 (hs:Nat->Bool)(Ws:List (List B0)):∀k,t0V hs Ws k<=k*Ws.length
 |0=>by simp[t0V]
 |k+1=>by
  have h1:=U07 hs Ws k;have c:=s0Q Ws k Ws.length;simp only[t0V,Nat.succ_mul];split<;>omega
end Go.Proofs.YtihmgaccbcfgjaaGreat
namespace Go.Proofs.YtihmgaccbcfgjaaGreat
open Go.V Go.RowKit Old Go.X
section
variable {F:Nat}{l:List C0}{n:Nat}
def x0Z {ws:List B0}{j r:Nat}(c:j<ws.length)(h:(gt ws (j:Int)).To≠(r:Int)):F8 (ws.take (j+1)) r=F8 (ws.take j) r:=by
 unfold F8;rw[take_succ,P4 c,List.find?_append];simp[List.find?_cons,h]
def y0t {n:Nat}{ws:List B0}(hw:K8 n ws){j r:Nat}(d:j<ws.length)(h:(gt ws (j:Int)).To=(r:Int)):F8 (ws.take (j+1)) r=some (gt ws (j:Int))/\F8 (ws.take j) r=none:=by
 have c:F8 (ws.take j) r=none:=by
  unfold F8;rw[List.find?_eq_none];intro x g;obtain⟨i,hi,he⟩:=List.mem_iff_getElem.1 g;simp only[List.length_take]at hi;have hd:=List.pairwise_iff_getElem.1 hw.dist i j O' d O';rw[List.getElem_take]at he;rw[<-he];have f:gt ws (j:Int)=ws[j]:=X2 (by simp[d]);rw[f]at h;simp only[beq_iff_eq];omega
 refine⟨?_,c⟩;unfold F8 at c ⊢;rw[take_succ,P4 d,List.find?_append,c];simp[h]
def setOf (l:List C0){n:Nat}(hn:n=N0 l l.length)(hw:∀x∈l,P2 x){r:Nat}(f:r<n):y0 ((G2 l l.length).map fun q=>(gt l q).Set) (r:Int)=true/\gtZ 4 ((G2 l l.length).map fun q=>(gt l q).Set) (r:Int)=(gt l (gt (G2 l l.length) (r:Int))).Set/\
  ((gt l (gt (G2 l l.length) (r:Int))).Set.length=4/\∀y∈(gt l (gt (G2 l l.length) (r:Int))).Set,L5 .u64 y):=by
 obtain⟨q,c,d,g⟩:=l0e l hn (x:=(r:Int)) O' O';have hlen:=K9 l l.length;refine⟨V0 O' V',?_,?_⟩
 ·unfold gtZ;have:(G2 l l.length)[r]?=some (gt (G2 l l.length) (r:Int)):=P4 O';exact @X2 _ ⟨List.replicate 4 0⟩ _ _ _ (by rw[List.getElem?_map,this];rfl)
 ·rw[d];have:=hw _ (mem_of_getElem? (P4 (l:=l) (i:=q) c));exact this.2.2.2.2
def s7 (l:List C0)(b_:Int)(r:Nat):Bool:=hasB (gt l (gt (G2 l l.length) (r:Int))).Set b_
end
def Z1 (a:List B0)(b:Nat->List B0)(pl:List Nat)(E0:Bool):List (List B0):=pl.map b++if E0 then[a]else[]
def goV (l:List C0)(at_:Int)(vals:List (List Int))(E0:Bool):List (List Int):=vals++if E0 then[k0o l at_]else[]
def C5 (pl:List Nat)(E0:Bool):Nat:=if E0 then pl.length+1 else pl.length
def F5 (pl:List Nat)(E0:Bool)(fB:Nat->Nat->Int):Nat->Nat->Int:=if E0 then g0x pl.length fB else fB
def a6 (pl:List Nat)(E0:Bool)(fD:Nat->Nat->Int):Nat->Nat->Int:=if E0 then e0R pl.length fD else fD
def d0B (a:List B0)(b:Nat->List B0)(pl:List Nat)(E0:Bool):(Z1 a b pl E0).length=C5 pl E0:=by unfold Z1 C5;cases E0<;>simp
section
variable {F:Nat}{l:List C0}{n:Nat}{a:List B0}{b:Nat->List B0}{e:Nat->B0×Bool}{z:B0×Bool}{at_ work:Int}{pl:List Nat}{vals:List (List Int)}{fB fD:Nat->Nat->Int}
def B0I (C:R3 l n pl vals fB fD)(E0:Bool):(goV l at_ vals E0).length=C5 pl E0:=by unfold goV C5;cases E0<;>simp[C.len]
def l0W (C:R3 l n pl vals fB fD)(E0:Bool):a0y (C5 pl E0) (F5 pl E0 fB) (a6 pl E0 fD):=by
 unfold C5 F5 a6;cases E0 with
 |false=>exact C.rk
 |true=>exact H0m C.rk
def z0G (C:R3 l n pl vals fB fD)(E0:Bool):∀v∈goV l at_ vals E0,v.length=(C4 l).toNat:=by
 intro v c;unfold goV at c;rcases List.mem_append.1 c with h|h
 ·exact C.row v h
 ·cases E0 with
  |false=>simp at h
  |true=>simp at h;subst h;exact B0S l at_
def l0d (K:U3 l n a b e z F)(C:R3 l n pl vals fB fD)(E0:Bool):∀i,i<(Z1 a b pl E0).length->K8 n ((Z1 a b pl E0).getD i [])/\((Z1 a b pl E0).getD i []).length<=500000/\(∀h∈(Z1 a b pl E0).getD i [],b0j n h)/\p9 800 ((Z1 a b pl E0).getD i []):=by
 intro i hi;have hm:(Z1 a b pl E0).getD i []∈Z1 a b pl E0:=by
  rw[show(Z1 a b pl E0).getD i []=(Z1 a b pl E0)[i]from by simp[List.getD,hi]];exact getElem_mem hi
 have hop:∀{ws:List B0},K8 n ws->a0L ws->∀h∈ws,b0j n h:=fun hw d h c=>⟨(hw.ok h c).1,(hw.ok h c).2.1,(d h c).1,(d h c).2⟩
 generalize (Z1 a b pl E0).getD i []=ws at *;unfold Z1 at hm;rcases List.mem_append.1 hm with h|h
 ·obtain⟨p,hp,rfl⟩:=mem_map.1 h;have:=C.pln p hp;exact⟨K.T.bw p this,K.T.bl p this,hop (K.T.bw p this) (K.T.bT p this),K.T.bb p this⟩
 ·cases E0 with
  |false=>simp at h
  |true=>simp at h;subst h;exact⟨K.T.aw,K.T.al,hop K.T.aw K.T.aT,K.T.ab⟩
def Z3 (l:List C0)(n:Nat)(a:List B0)(b:Nat->List B0)(pl:List Nat)(b_:Int)(E0:Bool):List Nat:=H6 (s7 l b_) (Z1 a b pl E0) n
def T5 (a:List B0)(b:Nat->List B0)(pl:List Nat)(fB fD:Nat->Nat->Int)(E0:Bool)(r:Nat):Nat:=e0Z (F5 pl E0 fB) (a6 pl E0 fD) (Z1 a b pl E0) r
def V5 (a:List B0)(b:Nat->List B0)(pl:List Nat)(fB fD:Nat->Nat->Int)(E0:Bool)(r:Nat):B0:=i0b (F5 pl E0 fB) (a6 pl E0 fD) (Z1 a b pl E0) r
def stV (l:List C0)(a:List B0)(b:Nat->List B0)(at_:Int)(pl:List Nat)(vals:List (List Int))(fB fD:Nat->Nat->Int)(E0:Bool)(r:Nat):List Int:=
 Z9 at_ (-1) (gt (goV l at_ vals E0) (T5 a b pl fB fD E0 r:Int)) (a7 l (V5 a b pl fB fD E0 r).Steps)
def stW (l:List C0)(n:Nat)(a:List B0)(b:Nat->List B0)(pl:List Nat)(b_:Int)(E0:Bool):Int:=
 (t0V (s7 l b_) (Z1 a b pl E0) n:Int)+(((Z3 l n a b pl b_ E0).length:Int)*C4 l+((Z3 l n a b pl b_ E0).length:Int)*((Z3 l n a b pl b_ E0).length:Int))
def c09 {b_:Int}{E0:Bool}{r:Nat}(h:r∈Z3 l n a b pl b_ E0):r<n/\T3 (Z1 a b pl E0) r (Z1 a b pl E0).length≠[]:=⟨w09 h,(D0w h).2⟩
def I0Y {b_:Int}{E0:Bool}:(Z3 l n a b pl b_ E0).length<=n:=w0W _ _ _
def w0s (K:U3 l n a b e z F)(C:R3 l n pl vals fB fD)(b_:Int)(E0:Bool):q0J l n (C5 pl E0) ((Z3 l n a b pl b_ E0).map (T5 a b pl fB fD E0)) ((Z3 l n a b pl b_ E0).map (V5 a b pl fB fD E0)) where
 lt i hi:=by
  obtain⟨r,c,rfl⟩:=mem_map.1 hi;rw[<-d0B a b];exact e0o (c09 c).2
 len:=Z'
 le:=by have:=I0Y (l:=l) (n:=n) (a:=a) (b:=b) (pl:=pl) (b_:=b_) (E0:=E0);have:=K.T.n64;simp;omega
 hop x d:=by
  obtain⟨r,c,rfl⟩:=mem_map.1 d;have hm:=i0V (fB:=F5 pl E0 fB) (fD:=a6 pl E0 fD) (c09 c).2;exact(l0d K C E0 _ (e0o (c09 c).2)).2.2.1 _ hm.1
 asc:=by
  rw[List.pairwise_map];refine(r0g _ _ _).imp_of_mem fun {x y} d f g=>?_;have h1:=(i0V (fB:=F5 pl E0 fB) (fD:=a6 pl E0 fD) (c09 d).2).2;have h:=(i0V (fB:=F5 pl E0 fB) (fD:=a6 pl E0 fD) (c09 f).2).2;unfold V5;rw[h1,h];omega
def m07 {V:List (List Int)}{m:Nat}(h:∀v∈V,v.length=(C4 l).toNat)(hl:V.length=m){k:Nat}(hk:k<m):(gt V (k:Int)).length=(C4 l).toNat/\y0 V (k:Int)=true:=
 ⟨h _ (mem_of_getElem? (P4 O')),V0 O' O'⟩
def C0W (K:U3 l n a b e z F)(C:R3 l n pl vals fB fD)(hw:∀x∈l,P2 x)(b_:Int)(E0:Bool):
  R3 l n (Z3 l n a b pl b_ E0) ((Z3 l n a b pl b_ E0).map (stV l a b at_ pl vals fB fD E0)) (u6 l (F5 pl E0 fB) ((Z3 l n a b pl b_ E0).map (T5 a b pl fB fD E0)) ((Z3 l n a b pl b_ E0).map (V5 a b pl fB fD E0))) (Q6 l (F5 pl E0 fB) (a6 pl E0 fD) ((Z3 l n a b pl b_ E0).map (T5 a b pl fB fD E0)) ((Z3 l n a b pl b_ E0).map (V5 a b pl fB fD E0))) where
 len:=Z'
 pln r c:=(c09 c).1
 asc:=r0g _ _ _
 row v hv:=by
  obtain⟨r,c,rfl⟩:=mem_map.1 hv;unfold stV;rw[e0V];exact(m07 (z0G C E0) (B0I C E0) (by rw[<-d0B a b];exact e0o (c09 c).2)).1
 rk:=by
  have g:=w0s K C b_ E0;have:=t07 hw K.hR K.hn (l0W C E0) g.lt g.len g.hop g.asc;simpa using this
def W0w (K:U3 l n a b e z F)(C:R3 l n pl vals fB fD)(b_:Int)(E0:Bool):0<=stW l n a b pl b_ E0/\stW l n a b pl b_ E0<=1000000/\(t0V (s7 l b_) (Z1 a b pl E0) n:Int)<=200000/\0<=((Z3 l n a b pl b_ E0).length:Int)*C4 l/\((Z3 l n a b pl b_ E0).length:Int)*C4 l<=10000/\0<=((Z3 l n a b pl b_ E0).length:Int)*((Z3 l n a b pl b_ E0).length:Int)/\((Z3 l n a b pl b_ E0).length:Int)*((Z3 l n a b pl b_ E0).length:Int)<=160000:=by
 have hm:=C.le;have hn:=K.T.n64;have h1:=U07 (s7 l b_) (Z1 a b pl E0) n;have d:(Z1 a b pl E0).length<=401:=by rw[d0B];unfold C5;split<;>omega
 have i:n*(Z1 a b pl E0).length<=400*401:=Nat.mul_le_mul hn d;have g:=I0Y (l:=l) (n:=n) (a:=a) (b:=b) (pl:=pl) (b_:=b_) (E0:=E0);have c:=a07 l;unfold stW;generalize (Z3 l n a b pl b_ E0).length=p at *;have j:(p:Int)*C4 l<=400*19:=Int.mul_le_mul O' c.2 O' O';have h:(p:Int)*(p:Int)<=400*400:=Int.mul_le_mul O' O' O' O';have f:0<=(p:Int)*C4 l:=Int.mul_nonneg O' O';have k:0<=(p:Int)*(p:Int):=Int.mul_nonneg O' O';generalize (p:Int)*C4 l=x at *;generalize (p:Int)*(p:Int)=y at *;refine⟨O',O',O',O',O',O',O'⟩
end
