/- P. Its conditions: none. -/
import Derived.Test.YtihmgaccbcfgjaaGreatTG44
open Nat (zero_le lt_or_ge)
open Bool (false_eq_true)
set_option linter.all false
namespace Go.Proofs.YtihmgaccbcfgjaaGreat
open Go.V Go.RowKit Old
structure U3 (l:List C0)(n:Nat)(a:List B0)(b:Nat->List B0)(e:Nat->B0×Bool)(z:B0×Bool)(F:Nat):Prop where
 hR:L2 l=true
 hl:l.length*64<=140737488351232
 hn:n=N0 l l.length
 T:r0T l n a b e z
 f1:2000001<F
 f2:l.length+1<F
 f3:1000000000<F
 TF:v0h l n a b e z F
def k0o (l:List C0)(at_:Int):List Int:=(List.replicate (C4 l).toNat (-1)).set 0 at_
def a07 (l:List C0):1<=C4 l/\C4 l<=19:=by have:=n0H l;unfold C4;omega
def B0S (l:List C0)(at_:Int):(k0o l at_).length=(C4 l).toNat:=by simp[k0o]
section
variable {l:List C0}{n:Nat}{a:List B0}{b:Nat->List B0}{e:Nat->B0×Bool}{z:B0×Bool}{F:Nat}{at_ work:Int}{pl:List Nat}{vals:List (List Int)}{fB fD:Nat->Nat->Int}
structure R3 (l:List C0)(n:Nat)(pl:List Nat)(vals:List (List Int))(fB fD:Nat->Nat->Int):Prop where
 len:vals.length=pl.length
 pln:∀p∈pl,p<n
 asc:pl.Pairwise fun a b=>a<b
 row:∀v∈vals,v.length=(C4 l).toNat
 rk:a0y pl.length fB fD
def u0W {n:Nat}:∀{pl:List Nat} {lo:Nat},(∀p∈pl,lo<=p/\p<n)->pl.Pairwise (fun a b=>a<b)->pl.length+lo<=n\/pl=[]
 |[],_,_,_=>.inr rfl
 |x :: r,lo,h,hp=>by
  obtain⟨h1,c⟩:=List.pairwise_cons.1 hp;have d:=h x X';rcases u0W (pl:=r) (lo:=x+1) (fun p hp=>⟨h1 p hp,(h p (List.mem_cons_of_mem _ hp)).2⟩) c with h3|h3
  ·refine .inl ?_;simp only[List.length_cons];omega
  ·subst h3;refine .inl ?_;simp only[List.length_cons,List.length_nil];omega
def R3.le (h:R3 l n pl vals fB fD):pl.length<=n:=by
 rcases u0W (lo:=0) (fun p hp=>⟨zero_le _,h.pln p hp⟩) h.asc with h1|h1
 ·omega
 ·simp[h1]
def s0N (l:List C0)(z:B0×Bool)(at_:Int):List Int×Bool:=if z.2 then(Z9 at_ (-1) (k0o l at_) (a7 l z.1.Steps),true)else([],false)
def E7 (e:Nat->B0×Bool)(pl:List Nat)(k:Nat):List Nat:=(List.range k).filter fun i=>(e (pl.getD i 0)).2
def F0K (e:Nat->B0×Bool)(pl:List Nat)(k:Nat):E7 e pl (k+1)=if(e (pl.getD k 0)).2 then E7 e pl k++[k]else E7 e pl k:=by
 unfold E7;rw[List.range_succ,List.filter_append]
 by_cases h:(e (pl.getD k 0)).2=true
 ·simp only[h,if_true,List.filter_cons,List.filter_nil]
 ·have h:(e (pl.getD k 0)).2=false:=by simpa using h
  simp only[h,false_eq_true,if_false,List.filter_cons,List.filter_nil,List.append_nil]
def w0M (e:Nat->B0×Bool)(pl:List Nat)(k:Nat):(E7 e pl k).length<=k:=Nat.le_trans (List.length_filter_le _ _) X'
def j0P {k i:Nat}(h:i∈E7 e pl k):i<k:=List.mem_range.1 (List.mem_filter.1 h).1
def g0m (r:List Nat)(i:Nat):D1 (r++[i])=D1 r++[(i:Int)]:=by simp[D1]
def B0o (l:List C0)(e:Nat->B0×Bool)(at_:Int)(pl:List Nat)(vals:List (List Int))(fD:Nat->Nat->Int):List Int×Bool:=
 if D8 fD (E7 e pl pl.length)<0 then([],false)else(Z9 at_ (-1) (gt vals (D8 fD (E7 e pl pl.length))) (a7 l (e (pl.getD (D8 fD (E7 e pl pl.length)).toNat 0)).1.Steps),true)
def I0B (C:R3 l n pl vals fB fD){k:Nat}(hk:k<pl.length):(gt vals (k:Int)).length<=1000:=by
 have c:=a07 l;have:=C.row _ (List.mem_of_getElem? (P4 (l:=vals) (i:=k) (by rw[C.len];exact hk)));omega
end
section
variable {F:Nat}
variable {l:List C0}{n:Nat}{a:List B0}{b:Nat->List B0}{e:Nat->B0×Bool}{z:B0×Bool}{at_ work:Int}{pl:List Nat}{vals:List (List Int)}{fB fD:Nat->Nat->Int}
end
def A0v (vals:List (List Int))(from_:Int)(k:Nat):List Nat:=(List.range k).filter fun(i:Nat)=>decide (gt (gt vals (i:Int)) 0<=from_)
section
variable {F:Nat}
variable {l:List C0}{n:Nat}{a:List B0}{b:Nat->List B0}{e:Nat->B0×Bool}{z:B0×Bool}{at_ work:Int}{pl:List Nat}{vals:List (List Int)}{fB fD:Nat->Nat->Int}
end
section
variable {F:Nat}{l:List C0}{n:Nat}{a:List B0}{b:Nat->List B0}{e:Nat->B0×Bool}{z:B0×Bool}{at_ work:Int}{pl:List Nat}{vals:List (List Int)}{fB fD:Nat->Nat->Int}
def o0q {st:List Nat}(h:st.Pairwise fun a b=>a<b){i k:Nat}(hk:k<st.length)(c:i<k):st.getD i 0<st.getD k 0:=by
 have:=List.pairwise_iff_getElem.1 h i k O' hk c;simpa[List.getD,hk,show i<st.length from O']using this
def x0y (C:R3 l n pl vals fB fD){st:List Nat}(hs:st.Pairwise fun a b=>a<b)(c:∀i∈st,i<pl.length):
  R3 l n (st.map fun i=>pl.getD i 0) (st.map fun i:Nat=>gt vals (i:Int)) (fun i k=>fB (st.getD i 0) (st.getD k 0)) (fun i k=>fD (st.getD i 0) (st.getD k 0)) where
 len:=X'
 pln p hp:=by
  obtain⟨i,hi,rfl⟩:=List.mem_map.1 hp;exact P8 C.pln (c i hi)
 asc:=by
  rw[List.pairwise_map];exact hs.imp_of_mem fun {x y} o j d=>o0q C.asc (c y j) d
 row v hv:=by
  obtain⟨i,hi,rfl⟩:=List.mem_map.1 hv;exact C.row _ (List.mem_of_getElem? (P4 (l:=vals) (i:=i) (by rw[C.len];exact c i hi)))
 rk:=by
  have g:∀i,i<(st.map fun i=>pl.getD i 0).length->i<st.length/\st.getD i 0<pl.length:=fun i hi=>by
   simp only[List.length_map]at hi;exact⟨hi,P8 c hi⟩
  refine⟨fun i k hi hk=>C.rk.b0 _ _ (g i hi).2 (g k hk).2,fun i hi=>C.rk.bd _ (g i hi).2,fun i hi=>C.rk.dd _ (g i hi).2,fun i k hi hk f=>C.rk.d1 _ _ (g i hi).2 (g k hk).2 ?_,fun i k hi hk=>C.rk.dn _ _ (g i hi).2 (g k hk).2⟩;rcases lt_or_ge i k with h|h
  ·have:=o0q hs (g k hk).1 h;omega
  ·have:=o0q hs (g i hi).1 (show k<i from O');omega
end
def j0Q {l:List C0}:∀{n:Nat} {a:List Int},R4 l n=some a->∀j,j<n->∃b,R4 l j=some b/\b.length=j/\(∀i:Nat,i<j->gt a (i:Int)=gt b (i:Int))/\gt a (j:Int)=D3 l b j/\0<=D3 l b j
 |0,a,h,j,g=>O'
 |n+1,a,h,j,g=>by
  simp only[R4]at h;split at h
  ·cases h
  ·rename_i b d;split at h
   ·rename_i hg;cases h;have hl:=(c07 d).len;simp only[Z6,Bool.and_eq_true,decide_eq_true_eq]at hg
    by_cases e:j=n
    ·subst e;exact⟨b,d,hl,fun i hi=>b0Y O' O',e0v hl.symm,hg.1.1⟩
    ·obtain⟨c,h1,p,o,f,k⟩:=j0Q d j O';exact⟨c,h1,p,fun i hi=>by rw[b0Y O' O'];exact o i hi,by rw[b0Y O' O'];exact f,k⟩
   ·cases h
def o0d {c:Prop}[Decidable c]{v z:Int}(h:0<=if c then v else -1)(e:v=z):(if c then v else -1)=z:=by
 by_cases d:c
 ·rw[if_pos d];exact e
 ·rw[if_neg d]at h;omega
def u0d {c d:Prop}[Decidable c][Decidable d]{v z:Int}(h:0<=if c then(if d then v else -1)else -1)(e:v=z):(if c then(if d then v else -1)else -1)=z:=by
 by_cases f:c
 ·rw[if_pos f]at h ⊢;exact o0d h e
 ·rw[if_neg f]at h;omega
def y0H {l:List C0}:∀{s:Tm} {lo n:Nat} {a:List Int},At l lo s->s.top lo<n->R4 l n=some a->gt a (s.top lo:Int)=lo:=by
 intro s
 induction s with
 |eps|leaf s=>
  intro lo n a h hn ha;obtain⟨b,h1,o,k,f,c⟩:=j0Q ha _ hn;rw[f];have hg:=h.N3;unfold D3;rw[hg];simp[Tm.node,Tm.top,Tm.size]
 |cat x y d i|alt x y d i=>
  intro lo n a h hn ha;obtain⟨b,h1,o,k,f,c⟩:=j0Q ha _ hn;have hg:=h.N3;obtain⟨j,p,_⟩:=(At.bin rfl rfl).1 h;have:=x.size_pos;have:=y.size_pos;rw[f];have g:=d j (n:=Tm.top _ lo) (a:=b) U' h1;unfold D3 at c ⊢;rw[hg]at c ⊢;simp only[Tm.node]at c ⊢
  revert c
  simp only[show ¬((3:Int)=1\/(3:Int)=2)from O',show ¬((4:Int)=1\/(4:Int)=2)from O',if_false,show((3:Int)=3\/(3:Int)=4)from .inl rfl,show((4:Int)=3\/(4:Int)=4)from .inr rfl,if_true];intro c
  first|exact o0d c g|exact u0d c g
 |star x d|maybe x d|group _ x d|iter x d=>
  intro lo n a h hn ha;obtain⟨b,h1,o,k,f,c⟩:=j0Q ha _ hn;have hg:=h.N3;obtain⟨j,_⟩:=(At.un rfl rfl).1 h;have:=x.size_pos;rw[f];have g:=d j (n:=Tm.top _ lo) (a:=b) U' h1;unfold D3 at c ⊢;rw[hg]at c ⊢;simp only[Tm.node]at c ⊢
  revert c
  simp;intro c
  first|exact o0d c g|exact u0d c g
def g0v {l:List C0}(hR:L2 l=true){s:Tm}{lo:Nat}(h:At l lo s):gt (K4 l) (s.top lo:Int)=lo:=by
 have d:=h.V6;unfold L2 at hR;unfold K4 at hR ⊢;cases e:R4 l l.length with
 |none=>rw[e]at hR;simp at hR
 |some a=>
  rw[e]at hR;dsimp only at hR ⊢;split
  ·rename_i c;rw[if_pos c]at hR;simp at hR
  ·exact y0H h d e
def t0P {l:List C0}(hR:L2 l=true){s:Tm}{lo:Nat}(h:At l lo s){q:Nat}(h1:lo<=q)(f:q<lo+s.size):(lo:Int)<=gt (K4 l) (q:Int):=by
 obtain⟨lo',g,c,d,i,_⟩:=h.s0D q h1 f;have:=g0v hR c;rw[d]at this;rw[this];omega
def J6 (l:List C0)(a b:Nat)(q:Nat):Bool:=decide (gt (K4 l) (q:Int)<=(a:Int))&&(decide (a<=q)&&(decide (gt (K4 l) (q:Int)<=(b:Int))&&decide (b<=q)))
def d0o {l:List C0}{a b q:Nat}:J6 l a b q=true↔gt (K4 l) (q:Int)<=(a:Int)/\a<=q/\gt (K4 l) (q:Int)<=(b:Int)/\b<=q:=by
 simp[J6]
def c0q (b:Nat):List Fr->Nat->Tm->Nat
 |[],lo,s=>s.top lo
 |f :: fs,lo,s=>if lo<=b/\b<=s.top lo then s.top lo else c0q b fs (lo-f.off) (f.O2 s)
def z0P {l:List C0}{t:Tm}(I:I4 l t)(hR:L2 l=true){a b:Nat}(hb:b<l.length):∀(fs:List Fr) (lo:Nat) (s:Tm),Ctx t lo s fs->lo<=a->a<=s.top lo->(∀q,lo<=q->q<s.top lo->J6 l a b q=false)->
  J6 l a b (c0q b fs lo s)=true/\(∀q,q<c0q b fs lo s->J6 l a b q=false)/\c0q b fs lo s<l.length:=by
 intro fs
 induction fs with
 |nil=>
  intro lo s C h1 r R;obtain⟨rfl,rfl⟩:=C;have hlen:=I.len;have hp:=s.size_pos;have hl:=g0v hR I.at0;simp only[c0q];refine⟨d0o.2 ⟨by rw[hl];omega,r,by rw[hl];omega,V'⟩,fun q hq=>R q (zero_le _) hq,V'⟩
 |cons f fs ih=>
  intro lo s C h1 r R;have j:=C.at_ I;have v:=g0v hR j;have x:=j.V6;simp only[c0q];split
  ·rename_i U;refine⟨d0o.2 ⟨by rw[v];omega,r,by rw[v];omega,U.2⟩,fun q hq=>?_,x⟩
   by_cases h:lo<=q
   ·exact R q h hq
   ·have:¬J6 l a b q=true:=fun i=>by have:=(d0o.1 i).2.1;omega
    simpa using this
  ·rename_i p;obtain⟨g,u⟩:=C;have d:=u.at_ I;have b2:=s.size_pos;have J:∀q,lo<=q->q<=s.top lo->J6 l a b q=false:=fun q k o=>by
    have a1:=t0P hR j k (by unfold Tm.top at o;omega);have:¬J6 l a b q=true:=fun i=>by
     obtain⟨_,_,p3,p4⟩:=d0o.1 i;exact p ⟨O',O'⟩
    simpa using this
   have b1:∀q,q<lo->J6 l a b q=false:=fun q k=>by
    have:¬J6 l a b q=true:=fun i=>by have:=(d0o.1 i).2.1;omega
    simpa using this
   have w:∀(y:Tm),At l (lo+s.size) y->∀q,lo+s.size<=q->q<lo+s.size+y.size->J6 l a b q=false:=fun y hy q k o=>by
    have a1:=t0P hR hy k o;have:¬J6 l a b q=true:=fun i=>by
     have:=(d0o.1 i).1;unfold Tm.top at r;omega
    simpa using this
   have all:∀q,lo-f.off<=q->q<(f.O2 s).top (lo-f.off)->J6 l a b q=false:=fun q k o=>by
    rcases lt_or_ge q lo with c|c
    ·exact b1 q c
    ·rcases lt_or_ge (s.top lo) q with c2|c2
     ·cases f<;>simp only[Fr.O2,Fr.off,Nat.sub_zero,Tm.top,Tm.size]at k o c2 d g
      case catL y=>exact w y ((At.bin rfl rfl).1 d).2.1 q O' O'
      case altL y=>exact w y ((At.bin rfl rfl).1 d).2.1 q O' O'
      all_goals omega
     ·exact J q c c2
   refine ih _ _ u O' ?_ all;cases f<;>simp only[Fr.O2,Fr.off,Nat.sub_zero,Tm.top,Tm.size]at r g ⊢<;>omega
def T7 (l:List C0)(a b:Nat):Nat:=((List.range l.length).find? (J6 l a b)).getD 0
def E0h {P:Nat->Bool}{n k:Nat}(hk:k<n)(h:P k=true)(f:∀q,q<k->P q=false):(List.range n).find? P=some k:=by
 rw[List.find?_eq_some_iff_append];refine⟨h,List.range k,(List.range (n-k-1)).map (k+1+·),?_,fun q d=>by simp[f q (List.mem_range.1 d)]⟩;refine List.ext_getElem Z' fun i h1 g=>?_;simp only[List.length_range]at h1;simp only[List.getElem_range];rcases Nat.lt_trichotomy i k with c|c|c
 ·rw[List.getElem_append_left (by simpa using c)];simp
 ·subst c;rw[List.getElem_append_right X'];simp
 ·rw[List.getElem_append_right Z'];simp only[List.length_range];rw[List.getElem_cons];rw[dif_neg O'];simp;omega
def z0c {l:List C0}{a b k:Nat}(hk:k<l.length)(h:J6 l a b k=true)(c:∀q,q<k->J6 l a b q=false):T7 l a b=k:=by
 unfold T7;rw[E0h hk h c];rfl
def u0b (l:List C0)(a b:Nat):T7 l a b=T7 l b a:=by
 have:J6 l a b=J6 l b a:=funext fun q=>by
  unfold J6;cases decide (gt (K4 l) (q:Int)<=(a:Int))<;>cases decide (a<=q)<;>cases decide (gt (K4 l) (q:Int)<=(b:Int))<;>cases decide (b<=q)<;>rfl
 unfold T7;rw[this]
def t0g {l:List C0}{t:Tm}(d:I4 l t){q:Nat}(f:q<l.length):∃lo s fs,Ctx t lo s fs/\s.top lo=q:=by
 have c:Ctx t 0 t []:=⟨rfl,rfl⟩
 exact c.down q (zero_le _) (by have:=d.len;omega)
def r0Z {l:List C0}(hw:∀x∈l,P2 x)(hR:L2 l=true){a b:Nat}(ha:a<l.length)(y:b<l.length):T7 l a b<l.length/\J6 l a b (T7 l a b)=true/\∀q,q<T7 l a b->J6 l a b q=false:=by
 obtain⟨t,g⟩:=a0N hw hR;obtain⟨lo,s,fs,w,hs⟩:=t0g g ha;have f:=g.at0;have hlen:=g.len;have hp:=t.size_pos;have hl:=g0v hR f;have d:J6 l a b (l.length-1)=true:=d0o.2 ⟨by rw[show l.length-1=t.top 0 from V',hl];omega,O',by rw[show l.length-1=t.top 0 from V',hl];omega,O'⟩;cases e:(List.range l.length).find? (J6 l a b)with
 |none=>
  rw[List.find?_eq_none]at e;exact absurd d (e _ Z')
 |some k=>
  have hk:=List.mem_range.1 (List.mem_of_find?_eq_some e);have h1:=List.find?_some e;have:T7 l a b=k:=by unfold T7;rw[e];rfl
  rw[this];refine⟨hk,h1,fun q u=>?_⟩;rw[List.find?_eq_some_iff_append]at e;obtain⟨_,c,r,h,o⟩:=e;have i:q<c.length:=by
   have j:(List.range l.length)[c.length]?=some k:=by rw[h];simp
   have v:c.length<l.length:=by
    have:=congrArg List.length h;simp at this;omega
   rw[List.getElem?_range v]at j;cases j;exact u
  have p:c[q]?=some q:=by
   have:(List.range l.length)[q]?=some q:=List.getElem?_range O';rw[h,List.getElem?_append_left i]at this;exact this
  have:=o q (List.mem_of_getElem? p);simpa using this
def t06 {d u:List Int}:∀{s:Tm} {lo k:Nat},B8 d lo k s->B8 u lo k s->∀j:Nat,lo<=j->j<=s.top lo->gt d (j:Int)=gt u (j:Int)/\(k:Int)<=gt d (j:Int)/\gt d (j:Int)<k+s.size:=by
 intro s
 induction s with
 |eps|leaf s=>
  intro lo k h i j p g;have:j=lo:=by simp only[Tm.top,Tm.size]at g;omega
  subst this;simp only[B8]at h i;simp only[Tm.size];omega
 |cat a b f o|alt a b f o=>
  intro lo k h i j p g;obtain⟨p1,r,w⟩:=h;obtain⟨t,q,v⟩:=i;have:=a.size_pos;have:=b.size_pos;simp only[Tm.top,Tm.size]at p1 t g ⊢;rcases lt_or_ge j (lo+a.size)with c|c
  ·have:=f r q j p V';omega
  ·rcases lt_or_ge j (lo+a.size+b.size)with c2|c2
   ·have:=o w v j c V';omega
   ·have:j=lo+(a.size+b.size+1)-1:=O'
    subst this;omega
 |star a f|maybe a f|group _ a f|iter a f=>
  intro lo k h i j p g;obtain⟨p1,r⟩:=h;obtain⟨t,q⟩:=i;have:=a.size_pos;simp only[Tm.top,Tm.size]at p1 t g ⊢;rcases lt_or_ge j (lo+a.size)with c|c
  ·have:=f r q j p V';omega
  ·have:j=lo+(a.size+1)-1:=O'
   subst this;omega
def E0O {d c:List Int}{t:Tm}(h:b02 d t)(f:b02 c t):d=c:=by
 have hp:=t.size_pos;refine List.ext_getElem (by rw[h.len,f.len]) fun j h1 g=>?_;have e:=(t06 h.deep f.deep j (zero_le _) (by have:=h.len;unfold Tm.top;omega)).1
 rwa [X2 (x:=d[j]) (by simp[h1]),X2 (x:=c[j]) (by simp[g])]at e
def a0Y (l:List C0):List Int:=(Old.a0P 402 l).getD []
def u0T {l:List C0}{t:Tm}(c:I4 l t)(hR:L2 l=true):b02 (a0Y l) t:=by
 obtain⟨d,h1,f⟩:=Old.k0n c hR (show 401<402 from O');unfold a0Y;rw[h1];exact f
def n0v {l:List C0}(hw:∀x∈l,P2 x)(hR:L2 l=true):(a0Y l).length=l.length/\∀q:Nat,q<l.length->1<=gt (a0Y l) (q:Int)/\gt (a0Y l) (q:Int)<=400:=by
 obtain⟨t,c⟩:=a0N hw hR;have h:=u0T c hR;have d:=c.le;have hlen:=c.len;have hp:=t.size_pos;refine⟨by rw[h.len,hlen],fun q f=>?_⟩;have:=(t06 h.deep h.deep q (zero_le _) V').2;omega
def x0K {l:List C0}(hw:∀x∈l,P2 x)(hR:L2 l=true){F:Nat}(g:401<F):a0P F l=some (a0Y l):=by
 obtain⟨t,c⟩:=a0N hw hR;obtain⟨d,h1,f⟩:=Old.k0n c hR g;rw[E0O f (u0T c hR)]at h1;exact s9 u0Y h1
def b0s (l:List C0)(x y:B0):Int:=gt (a0Y l) ((T7 l (gt (G2 l l.length) x.To).toNat (gt (G2 l l.length) y.To).toNat:Nat):Int)+1
def g0I (l:List C0)(x y:B0):Bool:=(gt l ((T7 l (gt (G2 l l.length) x.To).toNat (gt (G2 l l.length) y.To).toNat:Nat):Int)).Kind==3
def X8 (l:List C0)(x y:B0):Int×Int×Int:=
 if x.Turn>y.Turn then(x.Turn+1,y.Turn+1,1)else if x.Turn<y.Turn then(x.Turn+1,y.Turn+1,-1)else
 if x.To>y.To then(b0s l x y,if g0I l x y then b0s l x y+1 else b0s l x y,-1)else(if g0I l x y then b0s l x y+1 else b0s l x y,b0s l x y,1)
def x0C (l:List C0)(x y:B0):b0s l x y=b0s l y x:=by unfold b0s;rw[u0b]
def B0E (l:List C0)(x y:B0):g0I l x y=g0I l y x:=by unfold g0I;rw[u0b]
def p0I (l:List C0)(x y:B0)(h:x.To≠y.To):X8 l y x=((X8 l x y).2.1,(X8 l x y).1,- (X8 l x y).2.2):=by
 unfold X8;rw[x0C l y x,B0E l y x];rcases Int.lt_trichotomy x.Turn y.Turn with c|c|c
 ·rw[if_pos (show y.Turn>x.Turn from c),if_neg (show ¬x.Turn>y.Turn from O'),if_pos c];simp
 ·rw[if_neg (show ¬y.Turn>x.Turn from O'),if_neg (show ¬y.Turn<x.Turn from O'),if_neg (show ¬x.Turn>y.Turn from O'),if_neg (show ¬x.Turn<y.Turn from O')];rcases Int.lt_or_gt_of_ne h with c2|c2
  ·rw[if_pos (show y.To>x.To from c2),if_neg (show ¬x.To>y.To from O')]
  ·rw[if_neg (show ¬y.To>x.To from O'),if_pos (show x.To>y.To from c2)];simp
 ·rw[if_neg (show ¬y.Turn>x.Turn from O'),if_pos (show y.Turn<x.Turn from c),if_pos (show x.Turn>y.Turn from c)]
structure b0j (n:Nat)(h:B0):Prop where
 to0:0<=h.To
 to1:h.To<n
 t0:0<=h.Turn
 t1:h.Turn<=400
def r0p {l:List C0}(hw:∀x∈l,P2 x)(hR:L2 l=true){n:Nat}(hn:n=N0 l l.length){x y:B0}(f:b0j n x)(g:b0j n y):0<=(X8 l x y).1/\0<=(X8 l x y).2.1/\((X8 l x y).2.2=1\/(X8 l x y).2.2=-1):=by
 have h:1<=b0s l x y:=by
  obtain⟨h1,t,s,j⟩:=f;obtain⟨v,u,w,o⟩:=g;obtain⟨p,hp,c,_⟩:=e05 l l.length x.To.toNat O';obtain⟨q,h,d,_⟩:=e05 l l.length y.To.toNat O';have r:gt (G2 l l.length) x.To=(p:Int):=m0k c;have i:gt (G2 l l.length) y.To=(q:Int):=m0k d;have k:=(r0Z hw hR (a:=p) (b:=q) hp h).1;have:=((n0v hw hR).2 _ k).1;unfold b0s;rw[r,i];simp only[Int.toNat_natCast];omega
 obtain⟨h1,t,s,j⟩:=f;obtain⟨v,u,w,o⟩:=g;unfold X8;split
 ·exact⟨by simp only;omega,by simp only;omega,.inl rfl⟩
 ·split
  ·exact⟨by simp only;omega,by simp only;omega,.inr rfl⟩
  ·split
   ·refine⟨by simp only;omega,?_,.inr rfl⟩;simp only;split<;>omega
   ·refine⟨?_,by simp only;omega,.inl rfl⟩;simp only;split<;>omega
section
variable (l:List C0)(fB fD:Nat->Nat->Int)(fr:List Nat)(hops:List B0)
def u6 (i k:Nat):Int:=if i=k then 0 else if fr.getD i 0=fr.getD k 0 then(X8 l (gt hops (i:Int)) (gt hops (k:Int))).1 else a0B (fB (fr.getD i 0) (fr.getD k 0)) (gt hops (i:Int)).Turn
def Q6 (i k:Nat):Int:=if i=k then 0 else if fr.getD i 0=fr.getD k 0 then(X8 l (gt hops (i:Int)) (gt hops (k:Int))).2.2 else agF fB fD (fr.getD i 0) (fr.getD k 0) (gt hops (i:Int)) (gt hops (k:Int))
end
def B0P {fB fD:Nat->Nat->Int}{a b:Nat}{p q:B0}(h:fD b a=- fD a b):agF fB fD b a q p=- agF fB fD a b p q:=by
 unfold agF;rcases Int.lt_trichotomy (a0B (fB a b) p.Turn) (a0B (fB b a) q.Turn)with c|c|c
 ·rw[if_pos c,if_neg (show ¬a0B (fB a b) p.Turn>a0B (fB b a) q.Turn from O'),if_pos c];rfl
 ·rw[if_neg O',if_neg O',if_neg O',if_neg O',h]
 ·rw[if_neg O',if_pos c,if_pos c]
def z0X {b t:Int}(f:0<=b)(d:0<=t)(c:t<=400):0<=a0B b t:=by
 unfold a0B;rw[E3 O' O'];split<;>omega
def F0E {fB fD:Nat->Nat->Int}{a b:Nat}{p q:B0}(h:fD a b=1\/fD a b=-1):agF fB fD a b p q=1\/agF fB fD a b p q=-1:=by
 unfold agF;split
 ·exact .inl rfl
 ·split
  ·exact .inr rfl
  ·exact h
def g0q {n:Nat}{hops:List B0}(h:∀x∈hops,b0j n x){i:Nat}(hi:i<hops.length):b0j n (gt hops (i:Int)):=h _ (List.mem_of_getElem? (P4 hi))
def r0A {hops:List B0}(h:hops.Pairwise fun a b=>a.To<b.To){i k:Nat}(hi:i<hops.length)(hk:k<hops.length)(d:i≠k):(gt hops (i:Int)).To≠(gt hops (k:Int)).To:=by
 have hp:=List.pairwise_iff_getElem.1 h;have f:gt hops (i:Int)=hops[i]:=X2 (by simp[hi]);have g:gt hops (k:Int)=hops[k]:=X2 (by simp[hk]);rw[f,g];rcases Nat.lt_or_gt_of_ne d with c|c
 ·have:=hp i k hi hk c;omega
 ·have:=hp k i hk hi c;omega
def t07 {l:List C0}(hw:∀x∈l,P2 x)(hR:L2 l=true){n:Nat}(hn:n=N0 l l.length){m:Nat}{fB fD:Nat->Nat->Int}(h:a0y m fB fD){fr:List Nat}{hops:List B0}(hi:∀i∈fr,i<m)(hlen:hops.length=fr.length)(g:∀x∈hops,b0j n x)
  (c:hops.Pairwise fun a b=>a.To<b.To):a0y fr.length (u6 l fB fr hops) (Q6 l fB fD fr hops) where
 b0 i k h1 h2:=by
  have d:=g0q g (i:=i) O';have j:=g0q g (i:=k) O';unfold u6;split
  ·exact Int.le_refl _
  ·split
   ·exact(r0p hw hR hn d j).1
   ·exact z0X (h.b0 _ _ (P8 hi h1) (P8 hi h2)) d.t0 d.t1
 bd i h1:=by unfold u6;rw[if_pos rfl]
 dd i h1:=by unfold Q6;rw[if_pos rfl]
 d1 i k h1 h2 hne:=by
  have d:=g0q g (i:=i) O';have j:=g0q g (i:=k) O';unfold Q6;rw[if_neg hne];split
  ·exact(r0p hw hR hn d j).2.2
  ·rename_i o;exact F0E (h.d1 _ _ (P8 hi h1) (P8 hi h2) o)
 dn i k h1 h2:=by
  unfold Q6
  by_cases e:i=k
  ·subst e;rw[if_pos rfl];rfl
  ·rw[if_neg e,if_neg (fun h=>e h.symm)]
   by_cases f:fr.getD i 0=fr.getD k 0
   ·rw[if_pos f,if_pos f.symm,p0I l _ _ (r0A c O' O' e)]
   ·rw[if_neg f,if_neg (fun h=>f h.symm)];exact B0P (h.dn _ _ (P8 hi h1) (P8 hi h2))
def n0D {σ τ:Type}{step:σ->Option (Q0 σ τ)}{s c:σ}{k:Nat}(h:step s=some (.next c)):iter step (k+1) s=iter step k c:=by
 rw[show iter step (k+1) s=match step s with|none=>none|some (.next c)=>iter step k c|some (.done t)=>some t from rfl,h]
def u0x {σ τ:Type}{step:σ->Option (Q0 σ τ)}{s:σ}{t:τ}{k:Nat}(h:step s=some (.done t)):iter step (k+1) s=some t:=by
 rw[show iter step (k+1) s=match step s with|none=>none|some (.next c)=>iter step k c|some (.done t)=>some t from rfl,h]
section
variable {F:Nat}{l:List C0}
def G09 {t:Tm}(w:I4 l t)(hR:L2 l=true){u d:List Int}(hu:UpT u t)(hd:b02 d t){b:Nat}(C:b<l.length):∀(fs:List Fr) (lo:Nat) (s:Tm),Ctx t lo s fs->∀k,fs.length<k->iter (a0E u (K4 l) (b:Int)) k (s.top lo:Int)=some ((c0q b fs lo s:Nat):Int):=by
 have x:=e06 hR;have hlen:=w.len;intro fs
 induction fs with
 |nil=>
  intro lo s j k hk;obtain⟨k,rfl⟩:∃q,k=q+1:=⟨k-1,by simp at hk;omega⟩
  have c:=j.at_ w;have g:=g0v hR c;have p:=c.V6;obtain⟨rfl,rfl⟩:=j;have i:y0 (K4 l) (s.top 0:Int)=true:=V0 O' (by rw[x.len];omega);have h1:(s.top 0:Int)>=0:=O'
  have r:gt (K4 l) (s.top 0:Int)<=(b:Int):=by rw[g];omega
  have y:(b:Int)<=(s.top 0:Int):=by unfold Tm.top;omega
  refine u0x ?_;unfold a0E;simp only[Int.natCast_nonneg,decide_true,if_true,i,r,y,Bool.and_self,c0q]
 |cons f fs ih=>
  intro lo s j k hk;obtain⟨k,rfl⟩:∃q,k=q+1:=⟨k-1,by simp at hk;omega⟩
  have c:=j.at_ w;have g:=g0v hR c;have p:=c.V6;have o:=j.a0Z w hu hd;have i:y0 (K4 l) (s.top lo:Int)=true:=V0 O' (by rw[x.len];omega);have v:y0 u (s.top lo:Int)=true:=V0 O' (by rw[hu.len];omega);have hn:=ih _ _ j.2 k (by simp at hk;omega)
  by_cases h:lo<=b/\b<=s.top lo
  ·refine u0x ?_;unfold a0E;simp only[Int.natCast_nonneg,decide_true,if_true,i,v,g,Bool.true_and,c0q,o];have h1:(lo:Int)<=(b:Int):=O'
   have r:(b:Int)<=(s.top lo:Int):=O'
   simp only[h,h1,r,decide_true,Bool.and_self,if_true,and_self]
  ·have r:(decide ((lo:Int)<=(b:Int))&&decide ((b:Int)<=(s.top lo:Int)))=false:=by
    simp only[Bool.and_eq_false_iff,decide_eq_false_iff_not];omega
   have hs:a0E u (K4 l) (b:Int) (s.top lo:Int)=some (.next ((Fr.O2 s f).top (lo-f.off):Int)):=by
    unfold a0E;simp only[q0,Int.natCast_nonneg,i,v,g,Bool.true_and,o,r]
   rw[n0D hs,c0q,if_neg h,hn]
def y0E (hw:∀x∈l,P2 x)(hR:L2 l=true)(C:1000<F){a b:Nat}(ha:a<l.length)(k:b<l.length):g0D F l (a:Int) (b:Int)=some ((T7 l a b:Nat):Int):=by
 obtain⟨t,c⟩:=a0N hw hR;obtain⟨u,h1,i⟩:=Old.p0m c hR (show 401<F from O');obtain⟨d,_,p⟩:=Old.k0n c hR (show 401<F from O');obtain⟨lo,s,fs,h,hs⟩:=t0g c ha;have r:=i.len;have hlen:=c.len;have j:=c.le;have o:=h.size;have g:=z0P c hR (a:=a) k fs lo s h (by have:=s.size_pos;unfold Tm.top at hs;omega) O' (fun q y w=>by
  have:¬J6 l a b q=true:=fun v=>by have:=(d0o.1 v).2.1;omega
  simpa using this)
 have f:=G09 c hR i p k fs lo s h F O';rw[hs]at f;unfold g0D;rw[s9 t0c h1];have c1:(decide ((a:Int)<0)||(decide ((b:Int)<0)||(decide ((a:Int)>=(u.length:Int))||decide ((b:Int)>=(u.length:Int)))))=false:=by
  simp only[Bool.or_eq_false_iff,decide_eq_false_iff_not];omega
 simp only[q0,c1,r0n (show 401<F from O'),f];rw[z0c g.2.2 g.1 g.2.1]
def l0e (l:List C0){n:Nat}(hn:n=N0 l l.length){x:Int}(f:0<=x)(h1:x<n):∃q:Nat,q<l.length/\gt (G2 l l.length) x=(q:Int)/\y0 (G2 l l.length) x=true:=by
 obtain⟨q,d,c,_⟩:=e05 l l.length x.toNat O';refine⟨q,d,m0k c,V0 f ?_⟩;rw[K9];omega
def r0U (hw:∀x∈l,P2 x)(hR:L2 l=true){n:Nat}(hn:n=N0 l l.length)(v:1000<F)(hL:C7 F l=some (G2 l l.length)){x y:B0}(J:b0j n x)(u:b0j n y)(d:x.To≠y.To)(k:Nat)(hle:x.Turn≠y.Turn\/x.To<y.To):
  e00 F (k+1) l x y=some (X8 l x y):=by
 obtain⟨h,a2,a3,a4⟩:=J;obtain⟨f,s,b3,b4⟩:=u;have C:=K9 l l.length;unfold e00;rw[hL];have c1:x.To>=0:=h;have c2:x.To<((G2 l l.length).length:Int):=O'
 have c3:y.To>=0:=f;have c4:y.To<((G2 l l.length).length:Int):=O'
 have c5:(x.To==y.To)=false:=by simpa using d
 have w1:W (x.Turn+1)=x.Turn+1:=E3 O' O';have R:W (y.Turn+1)=y.Turn+1:=E3 O' O';simp only[q0,c1,c2,c3,c4,c5,w1,R,decide_eq_true_eq];unfold X8
 by_cases h1:x.Turn>y.Turn
 ·rw[if_pos h1,if_pos h1]
 ·rw[if_neg h1,if_neg h1]
  by_cases c:x.Turn<y.Turn
  ·rw[if_pos c,if_pos c]
  ·have g:¬x.To>y.To:=O'
   rw[if_neg c,if_neg c,if_neg g,if_neg g];obtain⟨p,hp,U,t⟩:=l0e l hn h a2;obtain⟨q,i,w,i2⟩:=l0e l hn f s;have r:=(r0Z hw hR hp i).1;have hd:=(n0v hw hR).1;have I:=(n0v hw hR).2 _ r;unfold b0s g0I;rw[t,i2,U,w];simp only[if_true,y0E hw hR v hp i,x0K hw hR (show 401<F from O'),G0,Int.toNat_natCast];have i3:y0 (a0Y l) ((T7 l p q:Nat):Int)=true:=V0 O' O';have i4:y0 l ((T7 l p q:Nat):Int)=true:=V0 O' O';have j:W (gt (a0Y l) ((T7 l p q:Nat):Int)+1)=gt (a0Y l) ((T7 l p q:Nat):Int)+1:=E3 O' O';have o:W (gt (a0Y l) ((T7 l p q:Nat):Int)+1+1)=gt (a0Y l) ((T7 l p q:Nat):Int)+1+1:=E3 O' O';rw[i3,i4];simp only[if_true,j,o];split<;>rfl
def C04 (hw:∀x∈l,P2 x)(hR:L2 l=true){n:Nat}(hn:n=N0 l l.length)(o:1000<F)(g:C7 F l=some (G2 l l.length)){x y:B0}(d:b0j n x)(f:b0j n y)(c:x.To≠y.To):
  e00 F F l x y=some (X8 l x y):=by
 obtain⟨k,rfl⟩:∃k,F=k+2:=⟨F-2,O'⟩
 by_cases hle:x.Turn≠y.Turn\/x.To<y.To
 ·exact r0U hw hR hn o g d f c _ hle
 ·have e:x.Turn=y.Turn:=O'
  have h:=r0U hw hR hn o g f d (fun h=>c h.symm) k (.inr O');have q:=p0I l x y c;obtain⟨s,a2,a3,a4⟩:=d;obtain⟨r,t,u,v⟩:=f;have p:=K9 l l.length;unfold e00;rw[g];have c1:x.To>=0:=s;have c2:x.To<((G2 l l.length).length:Int):=O'
  have c3:y.To>=0:=r;have c4:y.To<((G2 l l.length).length:Int):=O'
  have c5:(x.To==y.To)=false:=by simpa using c
  have h1:¬x.Turn>y.Turn:=O'
  have j:¬x.Turn<y.Turn:=O'
  have i:x.To>y.To:=O'
  simp only[q0,c1,c2,c3,c4,c5,h1,j,i,h,q];have:(X8 l x y).2.2=-1:=by unfold X8;rw[if_neg h1,if_neg j,if_pos i]
  rw[<-this]
end
def N4 (i k:Nat)(f:Nat->Nat->Int)(a b:Nat):Int:=if(a<i/\b<i)\/(a=i/\b<k)\/(b=i/\a<k)then f a b else 0
def y0u {m i k:Nat}(hk:k<i)(f:Nat->Nat->Int):
  U1 m m (fun a=>if a=k then(fun j=>if j=i then f k i else(if k=i then(fun j=>if j=k then f i k else N4 i k f i j)else N4 i k f k) j)else(if a=i then(fun j=>if j=k then f i k else N4 i k f i j)else N4 i k f a))=U1 m m (N4 i (k+1) f):=by
 refine d0F fun a b _ _=>?_;have h:¬k=i:=O'
 by_cases g:a=k
 ·rw[if_pos g]
  by_cases c:b=i
  ·rw[if_pos c];unfold N4;rw[if_pos O',g,c]
  ·rw[if_neg c,if_neg h,g];unfold N4
   by_cases d:b<i
   ·rw[if_pos O',if_pos O']
   ·rw[if_neg O',if_neg O']
 ·rw[if_neg g]
  by_cases c:a=i
  ·rw[if_pos c]
   by_cases d:b=k
   ·rw[if_pos d];unfold N4;rw[if_pos O',c,d]
   ·rw[if_neg d,c];unfold N4
    by_cases o:b<k
    ·rw[if_pos O',if_pos O']
    ·rw[if_neg O',if_neg O']
  ·rw[if_neg c];unfold N4
   by_cases o:(a<i/\b<i)\/(a=i/\b<k)\/(b=i/\a<k)
   ·rw[if_pos o,if_pos O']
   ·rw[if_neg o,if_neg O']
def s0v {m i:Nat}(f:Nat->Nat->Int)(h:f i i=0):U1 m m (N4 i i f)=U1 m m (N4 (i+1) 0 f):=by
 refine d0F fun a b _ _=>?_;unfold N4
 by_cases e:a=i/\b=i
 ·rw[if_neg O',if_pos O',e.1,e.2,h]
 ·by_cases c:(a<i/\b<i)\/(a=i/\b<i)\/(b=i/\a<i)
  ·rw[if_pos c,if_pos O']
  ·rw[if_neg c,if_neg O']
def C0J {fr:List Nat}{i k:Nat}:(((fr.getD i 0:Nat):Int)==((fr.getD k 0:Nat):Int))=decide (fr.getD i 0=fr.getD k 0):=by
 by_cases h:fr.getD i 0=fr.getD k 0
 ·rw[h];simp
 ·have:¬((fr.getD i 0:Nat):Int)=((fr.getD k 0:Nat):Int):=O'
  simp only[h,decide_false,beq_eq_false_iff_ne,ne_eq,this,not_false_eq_true]
section
variable {F:Nat}{l:List C0}{n m:Nat}{fB fD:Nat->Nat->Int}{fr:List Nat}{hops:List B0}
structure q0J (l:List C0)(n m:Nat)(fr:List Nat)(hops:List B0):Prop where
 lt:∀i∈fr,i<m
 len:hops.length=fr.length
 le:fr.length<=500
 hop:∀x∈hops,b0j n x
 asc:hops.Pairwise fun a b=>a.To<b.To
def J0c {d:Int}(h:d=1\/d=-1):W (0-d)=- d:=by rcases h with h|h<;>rw[h]<;>rfl
def I0X (hw:∀x∈l,P2 x)(hR:L2 l=true)(hn:n=N0 l l.length)(R:2000<F)(J:C7 F l=some (G2 l l.length))(h:a0y m fB fD)(g:q0J l n m fr hops){i:Nat}(hi:i<fr.length):
  iter (h0P F l (U2 m fB fD) (D1 fr) hops (i:Int)) F (0,U1 fr.length fr.length (N4 i 0 (u6 l fB fr hops)),U1 fr.length fr.length (N4 i 0 (Q6 l fB fD fr hops)))=some (U1 fr.length fr.length (N4 (i+1) 0 (u6 l fB fr hops)),U1 fr.length fr.length (N4 (i+1) 0 (Q6 l fB fD fr hops))):=by
 have hle:=g.le;have ok:=t07 hw hR hn h g.lt g.len g.hop g.asc;rw[<-s0v _ (ok.bd i hi),<-s0v _ (ok.dd i hi)];have:=H3 (step:=h0P F l (U2 m fB fD) (D1 fr) hops (i:Int)) (fun k=>((k:Int),U1 fr.length fr.length (N4 i k (u6 l fB fr hops)),U1 fr.length fr.length (N4 i k (Q6 l fB fD fr hops)))) (U1 fr.length fr.length (N4 i i (u6 l fB fr hops)),U1 fr.length fr.length (N4 i i (Q6 l fB fD fr hops))) i (fun k hk=>.inl ?_) ?_ i 0 F O' O'
 ·exact this
 ·have c:k<fr.length:=O'
  have h1:(k:Int)<(i:Int):=O'
  have s:y0 hops (i:Int)=true:=V0 O' (by rw[g.len];omega);have w:y0 hops (k:Int)=true:=V0 O' (by rw[g.len];omega);have y:=g0q g.hop (i:=i) (by rw[g.len];exact hi);have C:=g0q g.hop (i:=k) (by rw[g.len];exact c);have o:=r0A g.asc (i:=i) (k:=k) (by rw[g.len];exact hi) (by rw[g.len];exact c) O';have d:¬i=k:=O'
  have f:¬k=i:=O'
  have u:=ok.dn i k hi c;have t:=ok.d1 i k hi c d;have v:W (0-Q6 l fB fD fr hops i k)=Q6 l fB fD fr hops k i:=by rw[u];exact J0c t
  have key:∀p q r:Int,p=u6 l fB fr hops i k->q=u6 l fB fr hops k i->r=Q6 l fB fD fr hops i k->
    (Option.bind (some (U1 fr.length fr.length (fun a=>if a=k then(fun j=>if j=i then q else(if k=i then(fun j=>if j=k then p else N4 i k (u6 l fB fr hops) i j)else N4 i k (u6 l fB fr hops) k) j)else(if a=i then(fun j=>if j=k then p else N4 i k (u6 l fB fr hops) i j)else N4 i k (u6 l fB fr hops) a)),
     U1 fr.length fr.length (fun a=>if a=i then(fun j=>if j=k then r else N4 i k (Q6 l fB fD fr hops) i j)else N4 i k (Q6 l fB fD fr hops) a))) fun(I,y6)=>
    (if y0 y6 (k:Int)then
     if y0 y6 (i:Int)then
      if y0 (gt y6 (i:Int)) (k:Int)then
       if y0 (gt y6 (k:Int)) (i:Int)then
        let t5:=y6.set (k:Int).toNat ((gt y6 (k:Int)).set (i:Int).toNat (W (0-(gt (gt y6 (i:Int)) (k:Int)))))
        some (.next (W ((k:Int)+1),I,t5))
       else none
      else none
     else none
    else none:Option (Q0 (Int×(List (List Int))×(List (List Int))) ((List (List Int))×(List (List Int))))))=some (.next (((k+1:Nat):Int),U1 fr.length fr.length (N4 i (k+1) (u6 l fB fr hops)),U1 fr.length fr.length (N4 i (k+1) (Q6 l fB fD fr hops)))):=by
   rintro p q r rfl rfl rfl
   simp only[G0,H9 _ hi,H9 _ c,R8 _ hi,R8 _ c,a0k _ hi,a0k _ c,if_true,b0y _ hi,b0y _ c,Int.toNat_natCast,o0c,m0L,y0u hk,v,X1 (i:=k) O']
  unfold h0P;simp only[h1,decide_true,if_true,q9 hi,q9 c,a0T hi,a0T c,C0J,decide_eq_true_eq,H9 _ hi,H9 _ c,s,w,C04 hw hR hn (show 1000<F from O') J y C o,R8 _ hi,R8 _ c,a0k _ hi,a0k _ c,l0i g.len g.lt hi c,l0i g.len g.lt c hi,t0w g.len g.lt hi c,Int.toNat_natCast,o0c,m0L]
  by_cases he:fr.getD i 0=fr.getD k 0
  ·rw[if_pos he];refine key _ _ _ ?_ ?_ ?_
   ·unfold u6;rw[if_neg d,if_pos he]
   ·unfold u6;rw[if_neg f,if_pos he.symm,p0I l _ _ o]
   ·unfold Q6;rw[if_neg d,if_pos he]
  ·rw[if_neg he];refine key _ _ _ ?_ ?_ ?_
   ·unfold u6;rw[if_neg d,if_neg he]
   ·unfold u6;rw[if_neg f,if_neg (fun e=>he e.symm)]
   ·unfold Q6;rw[if_neg d,if_neg he]
 ·unfold h0P;have h1:¬((i:Int)<(i:Int)):=O'
  simp only[q0,h1]
def A0k (hw:∀x∈l,P2 x)(hR:L2 l=true)(hn:n=N0 l l.length)(c:2000<F)(p:C7 F l=some (G2 l l.length))(hm:m<=1000)(h:a0y m fB fD)(g:q0J l n m fr hops):
  j03 F l (U2 m fB fD) (D1 fr) hops=some (U2 fr.length (u6 l fB fr hops) (Q6 l fB fD fr hops)):=by
 have hle:=g.le;unfold j03;rw[j0W hm c h];have hlen:(((D1 fr).length:Int) != (hops.length:Int))=false:=by rw[e0b,g.len];simp
 have t1:=H3 (step:=g0V F (U2 m fB fD) (D1 fr)) (fun i=>(i:Int)) (.inr ()) fr.length (fun i hi=>.inl ?_) ?_ fr.length 0 F O' O'
 ·have j:iter (g0V F (U2 m fB fD) (D1 fr)) F 0=_:=t1;have t2:=H3 (step:=g0X F l (U2 m fB fD) (D1 fr) hops) (fun i=>((i:Int),U1 fr.length fr.length (N4 i 0 (u6 l fB fr hops)),U1 fr.length fr.length (N4 i 0 (Q6 l fB fD fr hops)))) (U1 fr.length fr.length (u6 l fB fr hops),U1 fr.length fr.length (Q6 l fB fD fr hops)) fr.length (fun i hi=>.inl ?_) ?_ fr.length 0 F O' O'
  ·have z:∀f,U1 fr.length fr.length (N4 0 0 f)=U1 fr.length fr.length fun _ _=>0:=fun f=>d0F fun a b _ _=>by unfold N4;rw[if_neg O']
   rw[z,z]at t2;have d:iter (g0X F l (U2 m fB fD) (D1 fr) hops) F (0,U1 fr.length fr.length (fun _ _=>0),U1 fr.length fr.length fun _ _=>0)=_:=t2;simp only[q0,hlen,j,show decide ((-1:Int)>=0)=false from rfl];rw[e0b,u0f O' c];simp only[G0,d];rfl
  ·unfold g0X;have h1:(i:Int)<((D1 fr).length:Int):=by simp;omega
   simp only[q0,h1,I0X hw hR hn c p h g hi,X1 (i:=i) O']
  ·unfold g0X;have h1:¬((fr.length:Int)<((D1 fr).length:Int)):=X'
   have z:∀f,U1 fr.length fr.length (N4 fr.length 0 f)=U1 fr.length fr.length f:=fun f=>d0F fun a b _ _=>by unfold N4;rw[if_pos O']
   simp only[q0,h1,z]
 ·unfold g0V e0F;have h1:(i:Int)<((D1 fr).length:Int):=by simp;omega
  have q:=P8 g.lt hi;have o:((fr.getD i 0:Nat):Int)>=0:=O'
  have k:((fr.getD i 0:Nat):Int)<((U2 m fB fD).B.length:Int):=by simp only[U2,v0W];omega
  simp only[q0,h1,q9 hi,a0T hi,o,k,X1 (i:=i) O']
 ·unfold g0V;have h1:¬((fr.length:Int)<((D1 fr).length:Int)):=X'
  simp only[q0,h1]
end
