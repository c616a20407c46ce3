/- P. Its conditions: none. -/
import Derived.Test.YtdficaoajalfaaaGreatCG42
open Nat (zero_le lt_or_ge)
open Bool (false_eq_true)
open List (filter_cons filter_nil mem_range mem_of_getElem? getElem_mem map_append map_cons map_nil ext_getElem getElem_map getElem_range length_map mem_map)
set_option linter.all false
namespace Go.Proofs.YtdficaoajalfaaaGreat
open Go.V Go.RowKit Old
structure H5 (l:List C0)(n:Nat)(a:List y0)(b:Nat->List y0)(e:Nat->y0×Bool)(z:y0×Bool)(F:Nat):Prop where
 hR:K1 l=true
 hl:l.length*64<=140737488351232
 hn:n=L0 l l.length
 T:j06 l n a b e z
 f1:2000001<F
 f2:l.length+1<F
 f3:1000000000<F
 TF:k0b l n a b e z F
def O7 (l:List C0)(at_:Int):List Int:=(List.replicate (l5 l).toNat (-1)).set 0 at_
def f0m (l:List C0):1<=l5 l/\l5 l<=19:=by have:=g0o l;unfold l5;omega
def k0w (l:List C0)(at_:Int):(O7 l at_).length=(l5 l).toNat:=by simp[O7]
section
variable {l:List C0}{n:Nat}{a:List y0}{b:Nat->List y0}{e:Nat->y0×Bool}{z:y0×Bool}{F:Nat}{at_ work:Int}{pl:List Nat}{vals:List (List Int)}{fB fD:Nat->Nat->Int}
def B7 (l:List C0)(n:Nat)(a:List y0)(b:Nat->List y0)(e:Nat->y0×Bool)(z:y0×Bool)(at_ work:Int)(pl:List Nat)(vals:List (List Int))(fB fD:Nat->Nat->Int):N3:=
 ⟨Y6 l n a b e z,at_,work,J2 pl,vals,D3 pl.length fB fD⟩
def R2 (l:List C0)(n:Nat)(a:List y0)(b:Nat->List y0)(e:Nat->y0×Bool)(at_ work:Int)(pl:List Nat)(vals:List (List Int))(fB fD:Nat->Nat->Int):c0b:=
 y0L l n a b e at_ work (J2 pl) vals (D3 pl.length fB fD)
structure F6 (l:List C0)(n:Nat)(pl:List Nat)(vals:List (List Int))(fB fD:Nat->Nat->Int):Prop where
 len:vals.length=pl.length
 pln:∀p∈pl,p<n
 asc:pl.Pairwise fun a b=>a<b
 row:∀v∈vals,v.length=(l5 l).toNat
 rk:a0s pl.length fB fD
def s0X {n:Nat}:∀{pl:List Nat} {lo:Nat},(∀p∈pl,lo<=p/\p<n)->pl.Pairwise (fun a b=>a<b)->pl.length+lo<=n\/pl=[]
 |[],_,_,_=>.inr rfl
 |x :: r,lo,h,hp=>by
  obtain⟨h1,c⟩:=List.pairwise_cons.1 hp;have d:=h x Z9;rcases s0X (pl:=r) (lo:=x+1) (fun p hp=>⟨h1 p hp,(h p (List.mem_cons_of_mem _ hp)).2⟩) c with h3|h3
  ·refine .inl ?_;simp only[List.length_cons];omega
  ·subst h3;refine .inl ?_;simp only[List.length_cons,List.length_nil];omega
def F6.le (h:F6 l n pl vals fB fD):pl.length<=n:=by
 rcases s0X (lo:=0) (fun p hp=>⟨zero_le _,h.pln p hp⟩) h.asc with h1|h1
 ·omega
 ·simp[h1]
def q0J (K:H5 l n a b e z F)(c:N3)(d:c.chart=Y6 l n a b e z):f0t F c=some (O7 l c.at_):=by
 have g:=f0m l;obtain⟨t,f⟩:∃t:Nat,l5 l=t:=⟨(l5 l).toNat,O'⟩
 unfold f0t O7;rw[d,show(Y6 l n a b e z).tags=l5 l from rfl,f,v08 O' O'];simp only[G0,Int.toNat_natCast];rw[if_pos (R0 O' Z')];rfl
def H0Z (K:H5 l n a b e z F)(c:c0b)(d:c.L=l):o0G F c=some (O7 l c.At):=by
 have g:=f0m l;have f1:=K.f1;obtain⟨t,f⟩:∃t:Nat,l5 l=t:=⟨(l5 l).toNat,O'⟩
 unfold o0G O7;rw[d,I0h K.hR K.hl O' K.f2,f];simp only[G0,I06 (F:=F) (n:=t) (x:=-1) O' O',Int.toNat_natCast];rw[if_pos (R0 O' Z')];rfl
def U8 (l:List C0)(z:y0×Bool)(at_:Int):List Int×Bool:=if z.2 then(S6 at_ (-1) (O7 l at_) (N4 l z.1.Steps),true)else([],false)
def x0K (K:H5 l n a b e z F):h0M F (B7 l n a b e z at_ work pl vals fB fD)=some (U8 l z at_):=by
 have f:=f0m l;unfold h0M U8;rw[q0J K _ rfl];simp only[B7,Y6]
 by_cases c:z.2=true
 rotate_left
 ·have c:z.2=false:=by simpa using c
  simp[c]
 ·simp only[q0,c];have d:=i0I l z.1.Steps;have g:=K.T.zl;rw[m04 (by rw[k0w];omega) O'];rfl
def K0U (K:H5 l n a b e z F):G0i F (R2 l n a b e at_ work pl vals fB fD)=some (U8 l z at_):=by
 have d:=f0m l;have f1:=K.f1;have f3:=K.f3;have f:=K.T.zl;have c:=i0I l z.1.Steps;unfold G0i U8;rw[H0Z K _ rfl];simp only[R2,y0L,K.TF.rZ,G0];cases z.2
 ·simp
 ·simp only[q0,H0k K.hR K.hl (show z.1.Steps.length<=2000000 from O') K.f1 K.f2 (P2.sok K.T.zb)];rw[H0e (by rw[k0w];omega) O' O'];rfl
def g0l {β:Type}[Inhabited β]{f:Nat->β}{p:Nat}(h:p<n):gt ((List.range n).map f) (p:Int)=f p:=B4 (by simp[h])
def g0n {β:Type}{f:Nat->β}{p:Nat}(h:p<n):B0 ((List.range n).map f) (p:Int)=true:=R0 O' Z'
def W7 (e:Nat->y0×Bool)(pl:List Nat)(k:Nat):List Nat:=(List.range k).filter fun i=>(e (pl.getD i 0)).2
def C03 (e:Nat->y0×Bool)(pl:List Nat)(k:Nat):W7 e pl (k+1)=if(e (pl.getD k 0)).2 then W7 e pl k++[k]else W7 e pl k:=by
 unfold W7;rw[List.range_succ,List.filter_append]
 by_cases h:(e (pl.getD k 0)).2=true
 ·simp only[h,if_true,filter_cons,filter_nil]
 ·have h:(e (pl.getD k 0)).2=false:=by simpa using h
  simp only[h,false_eq_true,if_false,filter_cons,filter_nil,List.append_nil]
def r0O (e:Nat->y0×Bool)(pl:List Nat)(k:Nat):(W7 e pl k).length<=k:=Nat.le_trans (List.length_filter_le _ _) Z9
def j0D {k i:Nat}(h:i∈W7 e pl k):i<k:=mem_range.1 (List.mem_filter.1 h).1
def o0h (r:List Nat)(i:Nat):J2 (r++[i])=J2 r++[(i:Int)]:=by simp[J2]
def e0c (l:List C0)(e:Nat->y0×Bool)(at_:Int)(pl:List Nat)(vals:List (List Int))(fD:Nat->Nat->Int):List Int×Bool:=
 if q9 fD (W7 e pl pl.length)<0 then([],false)else(S6 at_ (-1) (gt vals (q9 fD (W7 e pl pl.length))) (N4 l (e (pl.getD (q9 fD (W7 e pl pl.length)).toNat 0)).1.Steps),true)
def s0d (C:F6 l n pl vals fB fD){k:Nat}(hk:k<pl.length):(gt vals (k:Int)).length<=1000:=by
 have c:=f0m l;have:=C.row _ (mem_of_getElem? (u6 (l:=vals) (i:=k) (by rw[C.len];exact hk)));omega
def y0C (K:H5 l n a b e z F)(C:F6 l n pl vals fB fD):g0f F (B7 l n a b e z at_ work pl vals fB fD)=some (e0c l e at_ pl vals fD):=by
 have f1:=K.f1;have hm:=C.le;have hn:=K.T.n64;unfold g0f e0c;have:=R4 (step:=h00 F (B7 l n a b e z at_ work pl vals fB fD)) (fun i=>(J2 (W7 e pl i),(i:Int))) (J2 (W7 e pl pl.length)) pl.length (fun i hi=>.inl ?_) ?_ pl.length 0 F O' O'
 ·have c:iter (h00 F (B7 l n a b e z at_ work pl vals fB fD)) F ([],0)=_:=this;rw[c];simp only[G0,B7];rw[A0c O' O' C.rk _ (by have:=r0O e pl pl.length;omega) (fun i h=>j0D h)];rcases o0f (fD:=fD) (W7 e pl pl.length) (n:=pl.length) (fun i h=>j0D h)with hb|⟨k,hb,hk⟩
  ·rw[hb];rfl
  ·have hp:=E8 C.pln hk;have f:¬((k:Int)<0):=O'
   rw[hb];simp only[G0,f,decide_false,false_eq_true,if_false,R0 (l:=vals) (i:=(k:Int)) O' (by rw[C.len];omega),a0h hk,a0G hk,Y6,g0n hp,g0l hp,if_true,Q2,Int.toNat_natCast];have g:=i0I l (e (pl.getD k 0)).1.Steps;have j:=K.T.el _ hp;rw[m04 (s0d C hk) (by show(N4 l (e (pl.getD k 0)).1.Steps).length<=1000000000;omega)];rfl
 ·unfold h00;have h1:(i:Int)<((J2 pl).length:Int):=by simp;omega
  have hp:=E8 C.pln hi;have d:I0 8 (J2 (W7 e pl i)) [(i:Int)]=true:=by have:=r0O e pl i;simp[I0];omega
  simp only[B7,h1,decide_true,if_true,a0h hi,a0G hi,Y6,g0n hp,g0l hp,d,G3 (i:=i) O',C03]
  by_cases c:(e (pl.getD i 0)).2=true
  ·simp only[c,if_true,G0,o0h]
  ·have c:(e (pl.getD i 0)).2=false:=by simpa using c
   simp only[q0,c]
 ·unfold h00;have h1:¬((pl.length:Int)<((J2 pl).length:Int)):=Z9
  simp only[q0,B7,h1]
def J0Y (K:H5 l n a b e z F)(C:F6 l n pl vals fB fD):f0l F (R2 l n a b e at_ work pl vals fB fD)=some (e0c l e at_ pl vals fD):=by
 have f1:=K.f1;have f3:=K.f3;have hm:=C.le;have hn:=K.T.n64;unfold f0l e0c;have:=R4 (step:=F07 F (R2 l n a b e at_ work pl vals fB fD)) (fun i=>(J2 (W7 e pl i),(i:Int))) (J2 (W7 e pl pl.length)) pl.length (fun i hi=>.inl ?_) ?_ pl.length 0 F O' O'
 ·have c:iter (F07 F (R2 l n a b e at_ work pl vals fB fD)) F ([],0)=_:=this;rw[c];simp only[G0,R2,y0L];rw[J0z O' O' C.rk _ (by have:=r0O e pl pl.length;omega) (fun i h=>j0D h)];rcases o0f (fD:=fD) (W7 e pl pl.length) (n:=pl.length) (fun i h=>j0D h)with hb|⟨k,hb,hk⟩
  ·rw[hb];rfl
  ·have hp:=E8 C.pln hk;have f:¬((k:Int)<0):=O'
   have j:=K.T.el _ hp;have g:=i0I l (e (pl.getD k 0)).1.Steps;rw[hb];simp only[G0,f,decide_false,false_eq_true,if_false,R0 (l:=vals) (i:=(k:Int)) O' (by rw[C.len];omega),a0h hk,a0G hk,g0n hp,g0l hp,if_true,Int.toNat_natCast];rw[H0k K.hR K.hl O' K.f1 K.f2 (P2.sok (K.T.eb _ hp)),G0,H0e (s0d C hk) O' O'];rfl
 ·unfold F07;have h1:(i:Int)<((J2 pl).length:Int):=by simp;omega
  have hp:=E8 C.pln hi;have d:I0 8 (J2 (W7 e pl i)) [(i:Int)]=true:=by have:=r0O e pl i;simp[I0];omega
  have he:decide (((e (pl.getD i 0)).1.Steps.length:Int)>0)=(e (pl.getD i 0)).2:=by
   rw[K.T.e0 _ hp];cases(e (pl.getD i 0)).1.Steps with
   |nil=>simp
   |cons x r=>simp
  simp only[R2,y0L,h1,decide_true,if_true,a0h hi,a0G hi,g0n hp,g0l hp,d,G3 (i:=i) O',C03,he]
  by_cases c:(e (pl.getD i 0)).2=true
  ·simp only[c,if_true,G0,o0h]
  ·have c:(e (pl.getD i 0)).2=false:=by simpa using c
   simp only[q0,c]
 ·unfold F07;have h1:¬((pl.length:Int)<((J2 pl).length:Int)):=Z9
  simp only[q0,R2,y0L,h1]
end
section
variable {F:Nat}
variable {l:List C0}{n:Nat}{a:List y0}{b:Nat->List y0}{e:Nat->y0×Bool}{z:y0×Bool}{at_ work:Int}{pl:List Nat}{vals:List (List Int)}{fB fD:Nat->Nat->Int}
def B0Q:(U8 l z at_).1.length<=1000:=by
 have c:=f0m l;unfold U8;split
 ·rw[h0s,k0w];omega
 ·simp
end
def w0h (vals:List (List Int))(from_:Int)(k:Nat):List Nat:=(List.range k).filter fun(i:Nat)=>decide (gt (gt vals (i:Int)) 0<=from_)
def H0W (vals:List (List Int))(from_:Int)(k:Nat):w0h vals from_ (k+1)=if decide (gt (gt vals (k:Int)) 0<=from_)=true then w0h vals from_ k++[k]else w0h vals from_ k:=by
 unfold w0h;rw[List.range_succ,List.filter_append]
 by_cases h:decide (gt (gt vals (k:Int)) 0<=from_)=true
 ·rw[if_pos h];simp only[filter_cons,h,if_true,filter_nil]
 ·rw[if_neg h];simp only[filter_cons,h,if_false,filter_nil,List.append_nil,false_eq_true]
def F0U (vals:List (List Int))(from_:Int)(k:Nat):(w0h vals from_ k).length<=k:=Nat.le_trans (List.length_filter_le _ _) Z9
def F0X {vals:List (List Int)}{from_:Int}{k i:Nat}(h:i∈w0h vals from_ k):i<k:=mem_range.1 (List.mem_filter.1 h).1
section
variable {F:Nat}
def H07 {x:List Int}{of:List Nat}(h:∀i∈of,i<x.length)(hl:of.length<=1000)(f:2000<F):h0n F x (J2 of)=some (of.map fun i:Nat=>gt x (i:Int)):=by
 unfold h0n;rw[s9];have:=R4 (step:=G0D F x (J2 of)) (fun i=>((of.take i).map fun i:Nat=>gt x (i:Int),(i:Int))) (of.map fun i:Nat=>gt x (i:Int)) of.length (fun i hi=>.inl ?_) ?_ of.length 0 F O' O'
 ·exact this
 ·unfold G0D;have h1:(i:Int)<((J2 of).length:Int):=by simp;omega
  have d:=h of[i] (getElem_mem hi);have c:I0 8 ((of.take i).map fun i:Nat=>gt x (i:Int)) [gt x ((of[i]:Nat):Int)]=true:=by simp[I0];omega
  simp only[h1,decide_true,if_true,a0h hi,r0M hi,R0 (l:=x) (i:=((of[i]:Nat):Int)) O' O',c,p0m hi,map_append,map_cons,map_nil,G3 (i:=i) O']
 ·unfold G0D;have h1:¬((of.length:Int)<((J2 of).length:Int)):=Z9
  simp only[q0,h1,List.take_length]
def H0H {x:List (List Int)}{of:List Nat}(h:∀i∈of,i<x.length)(hl:of.length<=1000)(f:2000<F):k0f F x (J2 of)=some (of.map fun i:Nat=>gt x (i:Int)):=by
 unfold k0f;rw[s9];have:=R4 (step:=G0H F x (J2 of)) (fun i=>((of.take i).map fun i:Nat=>gt x (i:Int),(i:Int))) (of.map fun i:Nat=>gt x (i:Int)) of.length (fun i hi=>.inl ?_) ?_ of.length 0 F O' O'
 ·exact this
 ·unfold G0H;have h1:(i:Int)<((J2 of).length:Int):=by simp;omega
  have d:=h of[i] (getElem_mem hi);have c:I0 24 ((of.take i).map fun i:Nat=>gt x (i:Int)) [gt x ((of[i]:Nat):Int)]=true:=by simp[I0];omega
  simp only[h1,decide_true,if_true,a0h hi,r0M hi,R0 (l:=x) (i:=((of[i]:Nat):Int)) O' O',c,p0m hi,map_append,map_cons,map_nil,G3 (i:=i) O']
 ·unfold G0H;have h1:¬((of.length:Int)<((J2 of).length:Int)):=Z9
  simp only[q0,h1,List.take_length]
def J0O {c:N3}{from_:Int}(g:∀v∈c.values,0<v.length)(hl:c.values.length<=1000)(j:2000<F):iter (E09 F c from_) F ([],0)=some (J2 (w0h c.values from_ c.values.length)):=by
 have:=R4 (step:=E09 F c from_) (fun i=>(J2 (w0h c.values from_ i),(i:Int))) (J2 (w0h c.values from_ c.values.length)) c.values.length (fun i hi=>.inl ?_) ?_ c.values.length 0 F O' O'
 ·exact this
 ·unfold E09;have h1:(i:Int)<(c.values.length:Int):=O'
  have h:=g _ (mem_of_getElem? (u6 hi));have f:I0 8 (J2 (w0h c.values from_ i)) [(i:Int)]=true:=by have:=F0U c.values from_ i;simp[I0];omega
  simp only[h1,decide_true,if_true,R0 (l:=c.values) (i:=(i:Int)) O' h1,R0 (l:=gt c.values (i:Int)) (i:=0) O' O',f,H0W,G3 (i:=i) O']
  by_cases d:decide (gt (gt c.values (i:Int)) 0<=from_)=true
  ·simp only[d,if_true,G0,o0h]
  ·have d:decide (gt (gt c.values (i:Int)) 0<=from_)=false:=by simpa using d
   simp only[q0,d]
 ·unfold E09;have h1:¬((c.values.length:Int)<(c.values.length:Int)):=O'
  simp only[q0,h1]
def v0W {β:Type}{n i:Nat}{f:Nat->β}{v:β}:((List.range n).map f).set i v=(List.range n).map fun j=>if j=i then v else f j:=by
 refine ext_getElem Z9 fun j h1 c=>?_;simp only[List.getElem_set,getElem_map,getElem_range]
 by_cases e:i=j
 ·simp[e]
 ·rw[if_neg e,if_neg (fun h=>e h.symm)]
def half (s m:Nat)(st:List Nat)(f:Nat->Nat->Int)(x i:Nat):List Int:=if i<x then V3 s (fun k=>f (st.getD i 0) (st.getD k 0))else V3 m (f (st.getD i 0))
def M0f {m:Nat}{st:List Nat}(h:∀i∈st,i<m)(f:Nat->Nat->Int):(st.map fun i:Nat=>gt (I2 m m f) (i:Int))=(List.range st.length).map (half st.length m st f 0):=by
 refine ext_getElem Z9 fun j h1 d=>?_;simp only[length_map]at h1;have c:=h st[j] (getElem_mem h1);simp only[getElem_map,getElem_range,half,Nat.not_lt_zero,if_false];rw[a0g f c];simp[List.getD,h1]
def L0N (s m:Nat)(st:List Nat)(f:Nat->Nat->Int){x:Nat}:(List.range s).map (fun j=>if j=x then V3 s (fun k=>f (st.getD x 0) (st.getD k 0))else half s m st f x j)=(List.range s).map (half s m st f (x+1)):=by
 refine List.map_congr_left fun j _=>?_;unfold half
 by_cases e:j=x
 ·subst e;simp
 ·rw[if_neg e]
  by_cases c:j<x
  ·rw[if_pos c,if_pos O']
  ·rw[if_neg c,if_neg O']
def K0p {m:Nat}{st:List Nat}(h:∀i∈st,i<m)(hl:st.length<=1000)(d:2000<F)(g:Nat->Int):h0n F (V3 m g) (J2 st)=some (V3 st.length fun k=>g (st.getD k 0)):=by
 rw[H07 (by simpa using h) hl d];congr 1;refine ext_getElem Z9 fun j h1 f=>?_;simp only[length_map]at h1;have c:=h st[j] (getElem_mem h1);simp only[getElem_map,d0w g c];simp[V3,List.getD,h1]
def K0t {m:Nat}{st:List Nat}(h:∀i∈st,i<m)(hl:st.length<=1000)(g:2000<F)(fB fD:Nat->Nat->Int):
  iter (F0G F (J2 st)) F (0,(List.range st.length).map (half st.length m st fB 0),(List.range st.length).map (half st.length m st fD 0)) =
   some (I2 st.length st.length (fun i k=>fB (st.getD i 0) (st.getD k 0)),I2 st.length st.length (fun i k=>fD (st.getD i 0) (st.getD k 0))):=by
 have:=R4 (step:=F0G F (J2 st)) (fun x=>((x:Int),(List.range st.length).map (half st.length m st fB x),(List.range st.length).map (half st.length m st fD x)))
  (I2 st.length st.length (fun i k=>fB (st.getD i 0) (st.getD k 0)),I2 st.length st.length (fun i k=>fD (st.getD i 0) (st.getD k 0))) st.length (fun x c=>.inl ?_) ?_ st.length 0 F O' O'
 ·exact this
 ·unfold F0G;have h1:(x:Int)<((J2 st).length:Int):=by simp;omega
  have d:∀f:Nat->Nat->Int,half st.length m st f x x=V3 m (f (st.getD x 0)):=fun f=>by unfold half;rw[if_neg O']
  simp only[q0,h1,g0n c,g0l c,d,K0p h hl g,Int.toNat_natCast,v0W,L0N,G3 (i:=x) O']
 ·unfold F0G;have h1:¬((st.length:Int)<((J2 st).length:Int)):=Z9
  simp only[q0,h1];have e:∀f:Nat->Nat->Int,(List.range st.length).map (half st.length m st f st.length)=I2 st.length st.length (fun i k=>f (st.getD i 0) (st.getD k 0)):=fun f=>List.map_congr_left fun i hi=>by
   unfold half;rw[if_pos (mem_range.1 hi)]
  rw[e,e]
variable {l:List C0}{n:Nat}{a:List y0}{b:Nat->List y0}{e:Nat->y0×Bool}{z:y0×Bool}{at_ work:Int}{pl:List Nat}{vals:List (List Int)}{fB fD:Nat->Nat->Int}
def J0o (K:H5 l n a b e z F)(C:F6 l n pl vals fB fD)(from_:Int){st:List Nat}(g:st=w0h vals from_ vals.length):
  h0l F (B7 l n a b e z at_ work pl vals fB fD) from_=some (B7 l n a b e z at_ work (st.map fun i=>pl.getD i 0) (st.map fun i:Nat=>gt vals (i:Int)) (fun i k=>fB (st.getD i 0) (st.getD k 0)) (fun i k=>fD (st.getD i 0) (st.getD k 0))):=by
 have f1:=K.f1;have hm:=C.le;have hn:=K.T.n64;have q:=f0m l;have d:∀i∈st,i<pl.length:=fun i h=>by rw[g]at h;have:=F0X h;rw[C.len]at this;exact this
 have f:st.length<=1000:=by rw[g];have:=F0U vals from_ vals.length;have:=C.len;omega
 unfold h0l;have m:=J0O (F:=F) (c:=B7 l n a b e z at_ work pl vals fB fD) (from_:=from_) (fun v o=>by have:=C.row v o;omega) (by show vals.length<=1000;rw[C.len];omega) O';rw[m,show w0h (B7 l n a b e z at_ work pl vals fB fD).values from_ (B7 l n a b e z at_ work pl vals fB fD).values.length=st from g.symm];simp only[G0,B7,D3,H07 (x:=J2 pl) (of:=st) (F:=F) (by simpa using d) f O',H0H (x:=vals) (of:=st) (F:=F) (by rw[C.len];exact d) f O',H0H (x:=I2 pl.length pl.length fB) (of:=st) (F:=F) (by simpa using d) f O',H0H (x:=I2 pl.length pl.length fD) (of:=st) (F:=F) (by simpa using d) f O',M0f d,K0t d f (show 2000<F from O'),length_map];congr 2;refine ext_getElem Z9 fun j h1 p=>?_;simp only[length_map]at h1;simp only[J2,getElem_map];exact a0G (d st[j] (getElem_mem h1))
end
def nst (vals:List (List Int))(from_:Int){β:Type}(g:Nat->β)(k:Nat):(w0h vals from_ (k+1)).map g=if decide (gt (gt vals (k:Int)) 0<=from_)=true then(w0h vals from_ k).map g++[g k]else(w0h vals from_ k).map g:=by
 rw[H0W]
 by_cases h:decide (gt (gt vals (k:Int)) 0<=from_)=true
 ·rw[if_pos h,if_pos h,map_append];rfl
 ·rw[if_neg h,if_neg h]
section
variable {F:Nat}{l:List C0}{n:Nat}{a:List y0}{b:Nat->List y0}{e:Nat->y0×Bool}{z:y0×Bool}{at_ work:Int}{pl:List Nat}{vals:List (List Int)}{fB fD:Nat->Nat->Int}
def K0k (K:H5 l n a b e z F)(C:F6 l n pl vals fB fD)(from_:Int){i:Nat}(hi:i<pl.length):
  iter (F08 F (R2 l n a b e at_ work pl vals fB fD) from_ (i:Int)) F ([],[],0)=some ((w0h vals from_ pl.length).map (fB i),(w0h vals from_ pl.length).map (fD i)):=by
 have f1:=K.f1;have hm:=C.le;have hn:=K.T.n64;have o:=f0m l;have h:=C.len;have:=R4 (step:=F08 F (R2 l n a b e at_ work pl vals fB fD) from_ (i:Int)) (fun k=>((w0h vals from_ k).map (fB i),(w0h vals from_ k).map (fD i),(k:Int))) ((w0h vals from_ pl.length).map (fB i),(w0h vals from_ pl.length).map (fD i)) pl.length (fun k hk=>.inl ?_) ?_ pl.length 0 F O' O'
 ·exact this
 ·unfold F08;have h1:(k:Int)<((J2 pl).length:Int):=by simp;omega
  have m:=C.row _ (mem_of_getElem? (u6 (l:=vals) (i:=k) O'));have j:=F0U vals from_ k;have c:I0 8 ((w0h vals from_ k).map (fB i)) [fB i k]=true:=by simp[I0];omega
  have d:I0 8 ((w0h vals from_ k).map (fD i)) [fD i k]=true:=by simp[I0];omega
  simp only[R2,y0L,D3,h1,decide_true,if_true,R0 (l:=vals) (i:=(k:Int)) O' O',R0 (l:=gt vals (k:Int)) (i:=0) O' O',U9 _ hi,a0g _ hi,a0P _ hk,d0w _ hk,c,d,nst,G3 (i:=k) O'];split
  ·rename_i f;have g:decide (gt (gt vals (k:Int)) 0<=from_)=true:=f;simp only[g,if_true];rfl
  ·rename_i f;have g:¬decide (gt (gt vals (k:Int)) 0<=from_)=true:=f;simp only[g,if_false];rfl
 ·unfold F08;have h1:¬((pl.length:Int)<((J2 pl).length:Int)):=Z9
  simp only[q0,R2,y0L,h1]
def L0W (K:H5 l n a b e z F)(C:F6 l n pl vals fB fD)(from_:Int){st:List Nat}(r:st=w0h vals from_ pl.length):
  t0p F (R2 l n a b e at_ work pl vals fB fD) from_=some (R2 l n a b e at_ work (st.map fun i=>pl.getD i 0) (st.map fun i:Nat=>gt vals (i:Int)) (fun i k=>fB (st.getD i 0) (st.getD k 0)) (fun i k=>fD (st.getD i 0) (st.getD k 0))):=by
 have f1:=K.f1;have hm:=C.le;have hn:=K.T.n64;have w:=f0m l;have s:=C.len;have t:=F0U vals from_ pl.length;unfold t0p;have:=R4 (step:=F0N F (R2 l n a b e at_ work pl vals fB fD) from_) (fun i=>((i:Int),(l,L2 l l.length,a,(List.range n).map b,(List.range n).map (fun p=>(e p).1.Steps),at_,work,(w0h vals from_ i).map (fun j=>((pl.getD j 0:Nat):Int)),(w0h vals from_ i).map (fun j:Nat=>gt vals (j:Int)),((w0h vals from_ i).map (fun j=>(w0h vals from_ pl.length).map (fB j)),(w0h vals from_ i).map (fun j=>(w0h vals from_ pl.length).map (fD j))))))
  (l,L2 l l.length,a,(List.range n).map b,(List.range n).map (fun p=>(e p).1.Steps),at_,work,(w0h vals from_ pl.length).map (fun j=>((pl.getD j 0:Nat):Int)),(w0h vals from_ pl.length).map (fun j:Nat=>gt vals (j:Int)),((w0h vals from_ pl.length).map (fun j=>(w0h vals from_ pl.length).map (fB j)),(w0h vals from_ pl.length).map (fun j=>(w0h vals from_ pl.length).map (fD j)))) pl.length (fun i hi=>.inl ?_) ?_ pl.length 0 F O' O'
 ·have c:iter (F0N F (R2 l n a b e at_ work pl vals fB fD) from_) F (0,((R2 l n a b e at_ work pl vals fB fD).L,(R2 l n a b e at_ work pl vals fB fD).Leaves,(R2 l n a b e at_ work pl vals fB fD).First,(R2 l n a b e at_ work pl vals fB fD).Hops,(R2 l n a b e at_ work pl vals fB fD).Ends,(R2 l n a b e at_ work pl vals fB fD).At,(R2 l n a b e at_ work pl vals fB fD).Work,[],[],([],[])))=_:=this;rw[c];have em:∀f:Nat->Nat->Int,(st.map fun j=>st.map (f j))=I2 st.length st.length (fun i k=>f (st.getD i 0) (st.getD k 0)):=fun f=>by
   refine ext_getElem Z9 fun j h1 c=>?_;simp only[length_map]at h1;simp only[I2,getElem_map,getElem_range];refine ext_getElem Z9 fun k d x=>?_;simp only[length_map]at d;simp[V3,List.getD,h1,d]
  rw[<-r,em,em];simp only[G0,R2,y0L,D3,length_map,J2,List.map_map];rfl
 ·unfold F0N;have h1:(i:Int)<((J2 pl).length:Int):=by simp;omega
  have v:=C.row _ (mem_of_getElem? (u6 (l:=vals) (i:=i) O'));have u:=F0U vals from_ i;have hk:=K0k (at_:=at_) (work:=work) K C from_ hi;have g:I0 8 ((w0h vals from_ i).map (fun j=>((pl.getD j 0:Nat):Int))) [((pl.getD i 0:Nat):Int)]=true:=by simp[I0];omega
  have m:I0 24 ((w0h vals from_ i).map (fun j:Nat=>gt vals (j:Int))) [gt vals (i:Int)]=true:=by simp[I0];omega
  have o:I0 24 ((w0h vals from_ i).map (fun j=>(w0h vals from_ pl.length).map (fB j))) [(w0h vals from_ pl.length).map (fB i)]=true:=by simp[I0];omega
  have q:I0 24 ((w0h vals from_ i).map (fun j=>(w0h vals from_ pl.length).map (fD j))) [(w0h vals from_ pl.length).map (fD i)]=true:=by simp[I0];omega
  simp only[hk,nst];simp only[q0,R2,y0L,h1,R0 (l:=vals) (i:=(i:Int)) O' O',R0 (l:=gt vals (i:Int)) (i:=0) O' O',a0h hi,a0G hi,g,m,o,q,G3 (i:=i) O'];split
  ·rename_i c;have d:¬decide (gt (gt vals (i:Int)) 0<=from_)=true:=by have:gt (gt vals (i:Int)) 0>from_:=of_decide_eq_true c;simp;omega
   simp only[d,if_false];rfl
  ·rename_i c;have d:decide (gt (gt vals (i:Int)) 0<=from_)=true:=by
    have:¬gt (gt vals (i:Int)) 0>from_:=fun h=>c (decide_eq_true h);simp;omega
   simp only[d,if_true];rfl
 ·unfold F0N;have h1:¬((pl.length:Int)<((J2 pl).length:Int)):=Z9
  simp only[q0,R2,y0L,h1]
def I0b (vals:List (List Int))(from_:Int)(k:Nat):(w0h vals from_ k).Pairwise fun a b=>a<b:=List.Pairwise.filter _ List.pairwise_lt_range
def n0n {st:List Nat}(h:st.Pairwise fun a b=>a<b){i k:Nat}(hk:k<st.length)(c:i<k):st.getD i 0<st.getD k 0:=by
 have:=List.pairwise_iff_getElem.1 h i k O' hk c;simpa[List.getD,hk,show i<st.length from O']using this
def F0s (C:F6 l n pl vals fB fD){st:List Nat}(d:st.Pairwise fun a b=>a<b)(c:∀i∈st,i<pl.length):
  F6 l n (st.map fun i=>pl.getD i 0) (st.map fun i:Nat=>gt vals (i:Int)) (fun i k=>fB (st.getD i 0) (st.getD k 0)) (fun i k=>fD (st.getD i 0) (st.getD k 0)) where
 len:=Z9
 pln p hp:=by
  obtain⟨i,hi,rfl⟩:=mem_map.1 hp;exact E8 C.pln (c i hi)
 asc:=by
  rw[List.pairwise_map];exact d.imp_of_mem fun {x y} o j f=>n0n C.asc (c y j) f
 row v hv:=by
  obtain⟨i,hi,rfl⟩:=mem_map.1 hv;exact C.row _ (mem_of_getElem? (u6 (l:=vals) (i:=i) (by rw[C.len];exact c i hi)))
 rk:=by
  have g:∀i,i<(st.map fun i=>pl.getD i 0).length->i<st.length/\st.getD i 0<pl.length:=fun i hi=>by
   simp only[length_map]at hi;exact⟨hi,E8 c hi⟩
  refine⟨fun i k hi hk=>C.rk.b0 _ _ (g i hi).2 (g k hk).2,fun i hi=>C.rk.bd _ (g i hi).2,fun i hi=>C.rk.dd _ (g i hi).2,fun i k hi hk m=>C.rk.d1 _ _ (g i hi).2 (g k hk).2 ?_,fun i k hi hk=>C.rk.dn _ _ (g i hi).2 (g k hk).2⟩;rcases lt_or_ge i k with h|h
  ·have:=n0n d (g k hk).1 h;omega
  ·have:=n0n d (g i hi).1 (show k<i from O');omega
end
def k0v {l:List C0}:∀{n:Nat} {a:List Int},T4 l n=some a->∀j,j<n->∃b,T4 l j=some b/\b.length=j/\(∀i:Nat,i<j->gt a (i:Int)=gt b (i:Int))/\gt a (j:Int)=L3 l b j/\0<=L3 l b j
 |0,a,h,j,o=>O'
 |n+1,a,h,j,o=>by
  simp only[T4]at h;split at h
  ·cases h
  ·rename_i b d;split at h
   ·rename_i hg;cases h;have hl:=(b0U d).len;simp only[K6,Bool.and_eq_true,decide_eq_true_eq]at hg
    by_cases e:j=n
    ·subst e;exact⟨b,d,hl,fun i hi=>b0u O' O',c08 hl.symm,hg.1.1⟩
    ·obtain⟨c,h1,f,m,k,g⟩:=k0v d j O';exact⟨c,h1,f,fun i hi=>by rw[b0u O' O'];exact m i hi,by rw[b0u O' O'];exact k,g⟩
   ·cases h
def n0C {c:Prop}[Decidable c]{v z:Int}(h:0<=if c then v else -1)(e:v=z):(if c then v else -1)=z:=by
 by_cases d:c
 ·rw[if_pos d];exact e
 ·rw[if_neg d]at h;omega
def r0r {c d:Prop}[Decidable c][Decidable d]{v z:Int}(h:0<=if c then(if d then v else -1)else -1)(e:v=z):(if c then(if d then v else -1)else -1)=z:=by
 by_cases f:c
 ·rw[if_pos f]at h ⊢;exact n0C h e
 ·rw[if_neg f]at h;omega
def F0t {l:List C0}:∀{s:Tm} {lo n:Nat} {a:List Int},At l lo s->s.top lo<n->T4 l n=some a->gt a (s.top lo:Int)=lo:=by
 intro s
 induction s with
 |eps|leaf s=>
  intro lo n a h hn ha;obtain⟨b,h1,k,m,f,c⟩:=k0v ha _ hn;rw[f];have hg:=h.D2;unfold L3;rw[hg];simp[Tm.node,Tm.top,Tm.size]
 |cat x y d j|alt x y d j=>
  intro lo n a h hn ha;obtain⟨b,h1,k,m,f,c⟩:=k0v ha _ hn;have hg:=h.D2;obtain⟨i,o,_⟩:=(At.bin rfl rfl).1 h;have:=x.size_pos;have:=y.size_pos;rw[f];have g:=d i (n:=Tm.top _ lo) (a:=b) J' h1;unfold L3 at c ⊢;rw[hg]at c ⊢;simp only[Tm.node]at c ⊢
  revert c
  simp only[show ¬((3:Int)=1\/(3:Int)=2)from O',show ¬((4:Int)=1\/(4:Int)=2)from O',if_false,show((3:Int)=3\/(3:Int)=4)from .inl rfl,show((4:Int)=3\/(4:Int)=4)from .inr rfl,if_true];intro c
  first|exact n0C c g|exact r0r c g
 |star x d|maybe x d|group _ x d|iter x d=>
  intro lo n a h hn ha;obtain⟨b,h1,k,m,f,c⟩:=k0v ha _ hn;have hg:=h.D2;obtain⟨i,_⟩:=(At.un rfl rfl).1 h;have:=x.size_pos;rw[f];have g:=d i (n:=Tm.top _ lo) (a:=b) J' h1;unfold L3 at c ⊢;rw[hg]at c ⊢;simp only[Tm.node]at c ⊢
  revert c
  simp;intro c
  first|exact n0C c g|exact r0r c g
def c0P {l:List C0}(hR:K1 l=true){s:Tm}{lo:Nat}(h:At l lo s):gt (P4 l) (s.top lo:Int)=lo:=by
 have d:=h.j5;unfold K1 at hR;unfold P4 at hR ⊢;cases e:T4 l l.length with
 |none=>rw[e]at hR;simp at hR
 |some a=>
  rw[e]at hR;dsimp only at hR ⊢;split
  ·rename_i c;rw[if_pos c]at hR;simp at hR
  ·exact F0t h d e
def o0i {l:List C0}(hR:K1 l=true){s:Tm}{lo:Nat}(h:At l lo s){q:Nat}(h1:lo<=q)(d:q<lo+s.size):(lo:Int)<=gt (P4 l) (q:Int):=by
 obtain⟨lo',g,c,f,i,_⟩:=h.q0l q h1 d;have:=c0P hR c;rw[f]at this;rw[this];omega
def l6 (l:List C0)(a b:Nat)(q:Nat):Bool:=decide (gt (P4 l) (q:Int)<=(a:Int))&&(decide (a<=q)&&(decide (gt (P4 l) (q:Int)<=(b:Int))&&decide (b<=q)))
def b0L {l:List C0}{a b q:Nat}:l6 l a b q=true↔gt (P4 l) (q:Int)<=(a:Int)/\a<=q/\gt (P4 l) (q:Int)<=(b:Int)/\b<=q:=by
 simp[l6]
def b06 (b:Nat):List Fr->Nat->Tm->Nat
 |[],lo,s=>s.top lo
 |f :: fs,lo,s=>if lo<=b/\b<=s.top lo then s.top lo else b06 b fs (lo-f.off) (f.E2 s)
def z0R {l:List C0}{t:Tm}(x:O2 l t)(hR:K1 l=true){a b:Nat}(hb:b<l.length):∀(fs:List Fr) (lo:Nat) (s:Tm),Ctx t lo s fs->lo<=a->a<=s.top lo->(∀q,lo<=q->q<s.top lo->l6 l a b q=false)->
  l6 l a b (b06 b fs lo s)=true/\(∀q,q<b06 b fs lo s->l6 l a b q=false)/\b06 b fs lo s<l.length:=by
 intro fs
 induction fs with
 |nil=>
  intro lo s C h1 r h3;obtain⟨rfl,rfl⟩:=C;have hlen:=x.len;have hp:=s.size_pos;have hl:=c0P hR x.at0;simp only[b06];refine⟨b0L.2 ⟨by rw[hl];omega,r,by rw[hl];omega,U'⟩,fun q R=>h3 q (zero_le _) R,U'⟩
 |cons f fs ih=>
  intro lo s C h1 r h3;have i:=C.at_ x;have w:=c0P hR i;have m:=i.j5;simp only[b06];split
  ·rename_i U;refine⟨b0L.2 ⟨by rw[w];omega,r,by rw[w];omega,U.2⟩,fun q R=>?_,m⟩
   by_cases h:lo<=q
   ·exact h3 q h R
   ·have:¬l6 l a b q=true:=fun j=>by have:=(b0L.1 j).2.1;omega
    simpa using this
  ·rename_i v;obtain⟨g,o⟩:=C;have d:=o.at_ x;have b1:=s.size_pos;have a1:∀q,lo<=q->q<=s.top lo->l6 l a b q=false:=fun q k u=>by
    have I:=o0i hR i k (by unfold Tm.top at u;omega);have:¬l6 l a b q=true:=fun j=>by
     obtain⟨_,_,p3,p4⟩:=b0L.1 j;exact v ⟨O',O'⟩
    simpa using this
   have J:∀q,q<lo->l6 l a b q=false:=fun q k=>by
    have:¬l6 l a b q=true:=fun j=>by have:=(b0L.1 j).2.1;omega
    simpa using this
   have p:∀(y:Tm),At l (lo+s.size) y->∀q,lo+s.size<=q->q<lo+s.size+y.size->l6 l a b q=false:=fun y hy q k u=>by
    have I:=o0i hR hy k u;have:¬l6 l a b q=true:=fun j=>by
     have:=(b0L.1 j).1;unfold Tm.top at r;omega
    simpa using this
   have all:∀q,lo-f.off<=q->q<(f.E2 s).top (lo-f.off)->l6 l a b q=false:=fun q k u=>by
    rcases lt_or_ge q lo with c|c
    ·exact J q c
    ·rcases lt_or_ge (s.top lo) q with c2|c2
     ·cases f<;>simp only[Fr.E2,Fr.off,Nat.sub_zero,Tm.top,Tm.size]at k u c2 d g
      case catL y=>exact p y ((At.bin rfl rfl).1 d).2.1 q O' O'
      case altL y=>exact p y ((At.bin rfl rfl).1 d).2.1 q O' O'
      all_goals omega
     ·exact a1 q c c2
   refine ih _ _ o O' ?_ all;cases f<;>simp only[Fr.E2,Fr.off,Nat.sub_zero,Tm.top,Tm.size]at r g ⊢<;>omega
def b8 (l:List C0)(a b:Nat):Nat:=((List.range l.length).find? (l6 l a b)).getD 0
def C04 {P:Nat->Bool}{n k:Nat}(hk:k<n)(h:P k=true)(f:∀q,q<k->P q=false):(List.range n).find? P=some k:=by
 rw[List.find?_eq_some_iff_append];refine⟨h,List.range k,(List.range (n-k-1)).map (k+1+·),?_,fun q d=>by simp[f q (mem_range.1 d)]⟩;refine ext_getElem Z' fun i h1 g=>?_;simp only[List.length_range]at h1;simp only[getElem_range];rcases Nat.lt_trichotomy i k with c|c|c
 ·rw[List.getElem_append_left (by simpa using c)];simp
 ·subst c;rw[List.getElem_append_right Z9];simp
 ·rw[List.getElem_append_right Z'];simp only[List.length_range];rw[List.getElem_cons];rw[dif_neg O'];simp;omega
def q05 {l:List C0}{a b k:Nat}(hk:k<l.length)(h:l6 l a b k=true)(c:∀q,q<k->l6 l a b q=false):b8 l a b=k:=by
 unfold b8;rw[C04 hk h c];rfl
def p0I (l:List C0)(a b:Nat):b8 l a b=b8 l b a:=by
 have:l6 l a b=l6 l b a:=funext fun q=>by
  unfold l6;cases decide (gt (P4 l) (q:Int)<=(a:Int))<;>cases decide (a<=q)<;>cases decide (gt (P4 l) (q:Int)<=(b:Int))<;>cases decide (b<=q)<;>rfl
 unfold b8;rw[this]
def u0v {l:List C0}{t:Tm}(d:O2 l t){q:Nat}(f:q<l.length):∃lo s fs,Ctx t lo s fs/\s.top lo=q:=by
 have c:Ctx t 0 t []:=⟨rfl,rfl⟩
 exact c.down q (zero_le _) (by have:=d.len;omega)
def p0G {l:List C0}(hw:∀x∈l,o3 x)(hR:K1 l=true){a b:Nat}(ha:a<l.length)(w:b<l.length):b8 l a b<l.length/\l6 l a b (b8 l a b)=true/\∀q,q<b8 l a b->l6 l a b q=false:=by
 obtain⟨t,g⟩:=a04 hw hR;obtain⟨lo,s,fs,y,v⟩:=u0v g ha;have f:=g.at0;have hlen:=g.len;have hp:=t.size_pos;have hl:=c0P hR f;have d:l6 l a b (l.length-1)=true:=b0L.2 ⟨by rw[show l.length-1=t.top 0 from U',hl];omega,O',by rw[show l.length-1=t.top 0 from U',hl];omega,O'⟩;cases e:(List.range l.length).find? (l6 l a b)with
 |none=>
  rw[List.find?_eq_none]at e;exact absurd d (e _ Z')
 |some k=>
  have hk:=mem_range.1 (List.mem_of_find?_eq_some e);have h1:=List.find?_some e;have:b8 l a b=k:=by unfold b8;rw[e];rfl
  rw[this];refine⟨hk,h1,fun q u=>?_⟩;rw[List.find?_eq_some_iff_append]at e;obtain⟨_,c,r,i,m⟩:=e;have h:q<c.length:=by
   have j:(List.range l.length)[c.length]?=some k:=by rw[i];simp
   have o:c.length<l.length:=by
    have:=congrArg List.length i;simp at this;omega
   rw[List.getElem?_range o]at j;cases j;exact u
  have p:c[q]?=some q:=by
   have:(List.range l.length)[q]?=some q:=List.getElem?_range O';rw[i,List.getElem?_append_left h]at this;exact this
  have:=m q (mem_of_getElem? p);simpa using this
def q0R {d t:List Int}:∀{s:Tm} {lo k:Nat},G7 d lo k s->G7 t lo k s->∀j:Nat,lo<=j->j<=s.top lo->gt d (j:Int)=gt t (j:Int)/\(k:Int)<=gt d (j:Int)/\gt d (j:Int)<k+s.size:=by
 intro s
 induction s with
 |eps|leaf s=>
  intro lo k h i j o m;have:j=lo:=by simp only[Tm.top,Tm.size]at m;omega
  subst this;simp only[G7]at h i;simp only[Tm.size];omega
 |cat a b f g|alt a b f g=>
  intro lo k h i j o m;obtain⟨p1,p,u⟩:=h;obtain⟨r,q,v⟩:=i;have:=a.size_pos;have:=b.size_pos;simp only[Tm.top,Tm.size]at p1 r m ⊢;rcases lt_or_ge j (lo+a.size)with c|c
  ·have:=f p q j o U';omega
  ·rcases lt_or_ge j (lo+a.size+b.size)with c2|c2
   ·have:=g u v j c U';omega
   ·have:j=lo+(a.size+b.size+1)-1:=O'
    subst this;omega
 |star a f|maybe a f|group _ a f|iter a f=>
  intro lo k h i j o m;obtain⟨p1,p⟩:=h;obtain⟨r,q⟩:=i;have:=a.size_pos;simp only[Tm.top,Tm.size]at p1 r m ⊢;rcases lt_or_ge j (lo+a.size)with c|c
  ·have:=f p q j o U';omega
  ·have:j=lo+(a.size+1)-1:=O'
   subst this;omega
def C0x {d c:List Int}{t:Tm}(h:b00 d t)(f:b00 c t):d=c:=by
 have hp:=t.size_pos;refine ext_getElem (by rw[h.len,f.len]) fun j h1 g=>?_;have e:=(q0R h.deep f.deep j (zero_le _) (by have:=h.len;unfold Tm.top;omega)).1
 rwa [B4 (x:=d[j]) (by simp[h1]),B4 (x:=c[j]) (by simp[g])]at e
def a0n (l:List C0):List Int:=(Old.a0w 402 l).getD []
def k0W {l:List C0}{t:Tm}(c:O2 l t)(hR:K1 l=true):b00 (a0n l) t:=by
 obtain⟨d,h1,f⟩:=Old.i0j c hR (show 401<402 from O');unfold a0n;rw[h1];exact f
def o0H {l:List C0}(hw:∀x∈l,o3 x)(hR:K1 l=true):(a0n l).length=l.length/\∀q:Nat,q<l.length->1<=gt (a0n l) (q:Int)/\gt (a0n l) (q:Int)<=400:=by
 obtain⟨t,c⟩:=a04 hw hR;have h:=k0W c hR;have d:=c.le;have hlen:=c.len;have hp:=t.size_pos;refine⟨by rw[h.len,hlen],fun q f=>?_⟩;have:=(q0R h.deep h.deep q (zero_le _) U').2;omega
def D0X {l:List C0}(hw:∀x∈l,o3 x)(hR:K1 l=true){F:Nat}(g:401<F):a0w F l=some (a0n l):=by
 obtain⟨t,c⟩:=a04 hw hR;obtain⟨d,h1,f⟩:=Old.i0j c hR g;rw[C0x f (k0W c hR)]at h1;exact B8 u0T h1
def L0J {l:List C0}(hw:∀x∈l,o3 x)(hR:K1 l=true){F:Nat}(g:401<F):e0N F l=some (a0n l):=by
 obtain⟨t,c⟩:=a04 hw hR;obtain⟨d,h1,f⟩:=Old.I0s c hR g;rw[C0x f (k0W c hR)]at h1;exact B8 w0f h1
