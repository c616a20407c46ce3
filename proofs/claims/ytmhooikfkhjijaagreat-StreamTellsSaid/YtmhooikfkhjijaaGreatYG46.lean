/- P. Its conditions: none. -/
import Derived.Test.YtmhooikfkhjijaaGreatYG45
open Nat (zero_le lt_or_ge)
open Bool (false_eq_true)
open List (filter_cons filter_nil mem_range mem_of_getElem? getElem_mem map_append map_cons map_nil ext_getElem getElem_map getElem_range length_map mem_map)
set_option linter.all false
namespace Go.Proofs.YtmhooikfkhjijaaGreat
open Go.V Go.RowKit Old
structure B0H (l:List U0)(n:Nat)(a:List E1)(b:Nat->List E1)(e:Nat->E1×Bool)(z:E1×Bool)(F:Nat):Prop where
 hR:e0M l=true
 hl:l.length*64<=140737488351232
 hn:n=u5 l l.length
 T:G0z l n a b e z
 f1:2000001<F
 f2:l.length+1<F
 f3:1000000000<F
 TF:H0G l n a b e z F
def D0b (l:List U0)(at_:Int):List Int:=(List.replicate (f0n l).toNat (-1)).set 0 at_
def C0D (l:List U0):1<=f0n l/\f0n l<=19:=by have:=J04 l;unfold f0n;omega
def G0M (l:List U0)(at_:Int):(D0b l at_).length=(f0n l).toNat:=by simp[D0b]
section
variable {l:List U0}{n:Nat}{a:List E1}{b:Nat->List E1}{e:Nat->E1×Bool}{z:E1×Bool}{F:Nat}{at_ work:Int}{pl:List Nat}{vals:List (List Int)}{fB fD:Nat->Nat->Int}
def mkC (l:List U0)(n:Nat)(a:List E1)(b:Nat->List E1)(e:Nat->E1×Bool)(z:E1×Bool)(at_ work:Int)(pl:List Nat)(vals:List (List Int))(fB fD:Nat->Nat->Int):h0r:=
 ⟨C0y l n a b e z,at_,work,a0B pl,vals,b0U pl.length fB fD⟩
def mkX (l:List U0)(n:Nat)(a:List E1)(b:Nat->List E1)(e:Nat->E1×Bool)(at_ work:Int)(pl:List Nat)(vals:List (List Int))(fB fD:Nat->Nat->Int):B07:=
 C0V l n a b e at_ work (a0B pl) vals (b0U pl.length fB fD)
structure B02 (l:List U0)(n:Nat)(pl:List Nat)(vals:List (List Int))(fB fD:Nat->Nat->Int):Prop where
 len:vals.length=pl.length
 pln:∀p∈pl,p<n
 asc:pl.Pairwise fun a b=>a<b
 row:∀v∈vals,v.length=(f0n l).toNat
 rk:C0Q pl.length fB fD
def O0n {n:Nat}:∀{pl:List Nat} {lo:Nat},(∀p∈pl,lo<=p/\p<n)->pl.Pairwise (fun a b=>a<b)->pl.length+lo<=n\/pl=[]
 |[],_,_,_=>.inr rfl
 |
  x :: r,lo,h,hp=>by
  obtain⟨h1,h2⟩:=List.pairwise_cons.1 hp;have hx:=h x (by simp);rcases O0n (pl:=r) (lo:=x+1) (fun p hp=>⟨h1 p hp,(h p (List.mem_cons_of_mem _ hp)).2⟩) h2 with h3|h3
  ·refine .inl ?_;simp only[List.length_cons];omega
  ·subst h3;refine .inl ?_;simp only[List.length_cons,List.length_nil];omega
def B02.le (h:B02 l n pl vals fB fD):pl.length<=n:=by
 rcases O0n (lo:=0) (fun p hp=>⟨zero_le _,h.pln p hp⟩) h.asc with h1|h1
 ·omega
 ·simp[h1]
def O0U (K:B0H l n a b e z F)(c:h0r)(hc:c.chart=C0y l n a b e z):F0t F c=some (D0b l c.at_):=by
 have ht:=C0D l;obtain⟨t,hT⟩:∃t:Nat,f0n l=t:=⟨(f0n l).toNat,by omega⟩
 unfold F0t D0b;rw[hc,show(C0y l n a b e z).tags=f0n l from rfl,hT,P0w (by omega) (by omega)];simp only[F1,Int.toNat_natCast];rw[if_pos (B4 (by omega) (by simp;omega))];rfl
def N07 (K:B0H l n a b e z F)(c:B07)(hc:c.L=l):F0V F c=some (D0b l c.At):=by
 have ht:=C0D l;have f1:=K.f1;obtain⟨t,hT⟩:∃t:Nat,f0n l=t:=⟨(f0n l).toNat,by omega⟩
 unfold F0V D0b;rw[hc,J0o K.hR K.hl (by omega) K.f2,hT];simp only[F1,P0g (F:=F) (n:=t) (x:=-1) (by omega) (by omega),Int.toNat_natCast];rw[if_pos (B4 (by omega) (by simp;omega))];rfl
def D0r (l:List U0)(z:E1×Bool)(at_:Int):List Int×Bool:=if z.2 then(A0G at_ (-1) (D0b l at_) (OfF l z.1.Steps),true)else([],false)
def R0h (K:B0H l n a b e z F):H07 F (mkC l n a b e z at_ work pl vals fB fD)=some (D0r l z at_):=by
 have ht:=C0D l;unfold H07 D0r;rw[O0U K _ rfl];simp only[mkC,C0y]
 by_cases h2:z.2=true
 rotate_left
 ·have h2:z.2=false:=by simpa using h2
  simp[h2]
 ·simp only[q0,h2];have hol:=E0y l z.1.Steps;have hz:=K.T.zl;rw[K0X (by rw[G0M];omega) (by omega)];rfl
def U02 (K:B0H l n a b e z F):I0w F (mkX l n a b e at_ work pl vals fB fD)=some (D0r l z at_):=by
 have ht:=C0D l;have f1:=K.f1;have f3:=K.f3;have hz:=K.T.zl;have hol:=E0y l z.1.Steps;unfold I0w D0r;rw[N07 K _ rfl];simp only[mkX,C0V,K.TF.rZ,F1];cases z.2
 ·simp
 ·simp only[q0,M0a K.hR K.hl (show z.1.Steps.length<=2000000 by omega) K.f1 K.f2 (l4.sok K.T.zb)];rw[K00 (by rw[G0M];omega) (by omega) (by omega)];rfl
def E0g {β:Type}[Inhabited β]{f:Nat->β}{p:Nat}(h:p<n):gt ((List.range n).map f) (p:Int)=f p:=Y5 (by simp[h])
def E0d {β:Type}{f:Nat->β}{p:Nat}(h:p<n):y0 ((List.range n).map f) (p:Int)=true:=B4 (by omega) (by simp;omega)
def C0O (e:Nat->E1×Bool)(pl:List Nat)(k:Nat):List Nat:=(List.range k).filter fun i=>(e (pl.getD i 0)).2
def N0D (e:Nat->E1×Bool)(pl:List Nat)(k:Nat):C0O e pl (k+1)=if(e (pl.getD k 0)).2 then C0O e pl k++[k]else C0O e pl k:=by
 unfold C0O;rw[List.range_succ,List.filter_append]
 by_cases h:(e (pl.getD k 0)).2=true
 ·simp only[h,if_true,filter_cons,filter_nil]
 ·have h:(e (pl.getD k 0)).2=false:=by simpa using h
  simp only[h,false_eq_true,if_false,filter_cons,filter_nil,List.append_nil]
def I0I (e:Nat->E1×Bool)(pl:List Nat)(k:Nat):(C0O e pl k).length<=k:=Nat.le_trans (List.length_filter_le _ _) (by simp)
def H0q {k i:Nat}(h:i∈C0O e pl k):i<k:=mem_range.1 (List.mem_filter.1 h).1
def F0d (r:List Nat)(i:Nat):a0B (r++[i])=a0B r++[(i:Int)]:=by simp[a0B]
def E0l (l:List U0)(e:Nat->E1×Bool)(at_:Int)(pl:List Nat)(vals:List (List Int))(fD:Nat->Nat->Int):List Int×Bool:=
 if C0Y fD (C0O e pl pl.length)<0 then([],false)else(A0G at_ (-1) (gt vals (C0Y fD (C0O e pl pl.length))) (OfF l (e (pl.getD (C0Y fD (C0O e pl pl.length)).toNat 0)).1.Steps),true)
def O0l (C:B02 l n pl vals fB fD){k:Nat}(hk:k<pl.length):(gt vals (k:Int)).length<=1000:=by
 have ht:=C0D l;have:=C.row _ (mem_of_getElem? (B01 (l:=vals) (i:=k) (by rw[C.len];exact hk)));omega
def V02 (K:B0H l n a b e z F)(C:B02 l n pl vals fB fD):E0L F (mkC l n a b e z at_ work pl vals fB fD)=some (E0l l e at_ pl vals fD):=by
 have f1:=K.f1;have hm:=C.le;have hn:=K.T.n64;unfold E0L E0l;have:=j0K (step:=G0w F (mkC l n a b e z at_ work pl vals fB fD)) (fun i=>(a0B (C0O e pl i),(i:Int))) (a0B (C0O e pl pl.length)) pl.length (fun i hi=>.inl ?_) ?_ pl.length 0 F (by omega) (by omega)
 ·have h2:iter (G0w F (mkC l n a b e z at_ work pl vals fB fD)) F ([],0)=_:=this;rw[h2];simp only[F1,mkC];rw[V0G (by omega) (by omega) C.rk _ (by have:=I0I e pl pl.length;omega) (fun i h=>H0q h)];rcases H0J (fD:=fD) (C0O e pl pl.length) (n:=pl.length) (fun i h=>H0q h)with hb|⟨k,hb,hk⟩
  ·rw[hb];rfl
  ·have hp:=C0t C.pln hk;have hk0:¬((k:Int)<0):=by omega
   rw[hb];simp only[F1,hk0,decide_false,false_eq_true,if_false,B4 (l:=vals) (i:=(k:Int)) (by omega) (by rw[C.len];omega),C0f hk,C0B hk,C0y,E0d hp,E0g hp,if_true,j04,Int.toNat_natCast];have hol:=E0y l (e (pl.getD k 0)).1.Steps;have hel:=K.T.el _ hp;rw[K0X (O0l C hk) (by show(OfF l (e (pl.getD k 0)).1.Steps).length<=1000000000;omega)];rfl
 ·unfold G0w;have h1:(i:Int)<((a0B pl).length:Int):=by simp;omega
  have hp:=C0t C.pln hi;have hap:C1 8 (a0B (C0O e pl i)) [(i:Int)]=true:=by have:=I0I e pl i;simp[C1];omega
  simp only[mkC,h1,decide_true,if_true,C0f hi,C0B hi,C0y,E0d hp,E0g hp,hap,R2 (i:=i) (by omega),N0D]
  by_cases h2:(e (pl.getD i 0)).2=true
  ·simp only[h2,if_true,F1,F0d]
  ·have h2:(e (pl.getD i 0)).2=false:=by simpa using h2
   simp only[q0,h2]
 ·unfold G0w;have h1:¬((pl.length:Int)<((a0B pl).length:Int)):=by simp
  simp only[q0,mkC,h1]
def P0d (K:B0H l n a b e z F)(C:B02 l n pl vals fB fD):E02 F (mkX l n a b e at_ work pl vals fB fD)=some (E0l l e at_ pl vals fD):=by
 have f1:=K.f1;have f3:=K.f3;have hm:=C.le;have hn:=K.T.n64;unfold E02 E0l;have:=j0K (step:=H0R F (mkX l n a b e at_ work pl vals fB fD)) (fun i=>(a0B (C0O e pl i),(i:Int))) (a0B (C0O e pl pl.length)) pl.length (fun i hi=>.inl ?_) ?_ pl.length 0 F (by omega) (by omega)
 ·have h2:iter (H0R F (mkX l n a b e at_ work pl vals fB fD)) F ([],0)=_:=this;rw[h2];simp only[F1,mkX,C0V];rw[Q0E (by omega) (by omega) C.rk _ (by have:=I0I e pl pl.length;omega) (fun i h=>H0q h)];rcases H0J (fD:=fD) (C0O e pl pl.length) (n:=pl.length) (fun i h=>H0q h)with hb|⟨k,hb,hk⟩
  ·rw[hb];rfl
  ·have hp:=C0t C.pln hk;have hk0:¬((k:Int)<0):=by omega
   have hel:=K.T.el _ hp;have hol:=E0y l (e (pl.getD k 0)).1.Steps;rw[hb];simp only[F1,hk0,decide_false,false_eq_true,if_false,B4 (l:=vals) (i:=(k:Int)) (by omega) (by rw[C.len];omega),C0f hk,C0B hk,E0d hp,E0g hp,if_true,Int.toNat_natCast];rw[M0a K.hR K.hl (by omega) K.f1 K.f2 (l4.sok (K.T.eb _ hp)),F1,K00 (O0l C hk) (by omega) (by omega)];rfl
 ·unfold H0R;have h1:(i:Int)<((a0B pl).length:Int):=by simp;omega
  have hp:=C0t C.pln hi;have hap:C1 8 (a0B (C0O e pl i)) [(i:Int)]=true:=by have:=I0I e pl i;simp[C1];omega
  have he:decide (((e (pl.getD i 0)).1.Steps.length:Int)>0)=(e (pl.getD i 0)).2:=by
   rw[K.T.e0 _ hp];cases(e (pl.getD i 0)).1.Steps with
   |nil=>simp
   |cons x r=>simp
  simp only[mkX,C0V,h1,decide_true,if_true,C0f hi,C0B hi,E0d hp,E0g hp,hap,R2 (i:=i) (by omega),N0D,he]
  by_cases h2:(e (pl.getD i 0)).2=true
  ·simp only[h2,if_true,F1,F0d]
  ·have h2:(e (pl.getD i 0)).2=false:=by simpa using h2
   simp only[q0,h2]
 ·unfold H0R;have h1:¬((pl.length:Int)<((a0B pl).length:Int)):=by simp
  simp only[q0,mkX,C0V,h1]
end
section
variable {F:Nat}
variable {l:List U0}{n:Nat}{a:List E1}{b:Nat->List E1}{e:Nat->E1×Bool}{z:E1×Bool}{at_ work:Int}{pl:List Nat}{vals:List (List Int)}{fB fD:Nat->Nat->Int}
def U0Z:(D0r l z at_).1.length<=1000:=by
 have ht:=C0D l;unfold D0r;split
 ·rw[D0F,G0M];omega
 ·simp
end
def z06 (vals:List (List Int))(from_:Int)(k:Nat):List Nat:=(List.range k).filter fun(i:Nat)=>decide (gt (gt vals (i:Int)) 0<=from_)
def N0A (vals:List (List Int))(from_:Int)(k:Nat):z06 vals from_ (k+1)=if decide (gt (gt vals (k:Int)) 0<=from_)=true then z06 vals from_ k++[k]else z06 vals from_ k:=by
 unfold z06;rw[List.range_succ,List.filter_append]
 by_cases h:decide (gt (gt vals (k:Int)) 0<=from_)=true
 ·rw[if_pos h];simp only[filter_cons,h,if_true,filter_nil]
 ·rw[if_neg h];simp only[filter_cons,h,if_false,filter_nil,List.append_nil,false_eq_true]
def G0y (vals:List (List Int))(from_:Int)(k:Nat):(z06 vals from_ k).length<=k:=Nat.le_trans (List.length_filter_le _ _) (by simp)
def K0n {vals:List (List Int)}{from_:Int}{k i:Nat}(h:i∈z06 vals from_ k):i<k:=mem_range.1 (List.mem_filter.1 h).1
section
variable {F:Nat}
def N0z {x:List Int}{of:List Nat}(h:∀i∈of,i<x.length)(hl:of.length<=1000)(hf:2000<F):E05 F x (a0B of)=some (of.map fun i:Nat=>gt x (i:Int)):=by
 unfold E05;rw[C0k];have:=j0K (step:=I0X F x (a0B of)) (fun i=>((of.take i).map fun i:Nat=>gt x (i:Int),(i:Int))) (of.map fun i:Nat=>gt x (i:Int)) of.length (fun i hi=>.inl ?_) ?_ of.length 0 F (by omega) (by omega)
 ·exact this
 ·unfold I0X;have h1:(i:Int)<((a0B of).length:Int):=by simp;omega
  have hx:=h of[i] (getElem_mem hi);have hap:C1 8 ((of.take i).map fun i:Nat=>gt x (i:Int)) [gt x ((of[i]:Nat):Int)]=true:=by simp[C1];omega
  simp only[h1,decide_true,if_true,C0f hi,H0O hi,B4 (l:=x) (i:=((of[i]:Nat):Int)) (by omega) (by omega),hap,G0i hi,map_append,map_cons,map_nil,R2 (i:=i) (by omega)]
 ·unfold I0X;have h1:¬((of.length:Int)<((a0B of).length:Int)):=by simp
  simp only[q0,h1,List.take_length]
def L0M {x:List (List Int)}{of:List Nat}(h:∀i∈of,i<x.length)(hl:of.length<=1000)(hf:2000<F):G0e F x (a0B of)=some (of.map fun i:Nat=>gt x (i:Int)):=by
 unfold G0e;rw[C0k];have:=j0K (step:=I0r F x (a0B of)) (fun i=>((of.take i).map fun i:Nat=>gt x (i:Int),(i:Int))) (of.map fun i:Nat=>gt x (i:Int)) of.length (fun i hi=>.inl ?_) ?_ of.length 0 F (by omega) (by omega)
 ·exact this
 ·unfold I0r;have h1:(i:Int)<((a0B of).length:Int):=by simp;omega
  have hx:=h of[i] (getElem_mem hi);have hap:C1 24 ((of.take i).map fun i:Nat=>gt x (i:Int)) [gt x ((of[i]:Nat):Int)]=true:=by simp[C1];omega
  simp only[h1,decide_true,if_true,C0f hi,H0O hi,B4 (l:=x) (i:=((of[i]:Nat):Int)) (by omega) (by omega),hap,G0i hi,map_append,map_cons,map_nil,R2 (i:=i) (by omega)]
 ·unfold I0r;have h1:¬((of.length:Int)<((a0B of).length:Int)):=by simp
  simp only[q0,h1,List.take_length]
def W0i {c:h0r}{from_:Int}(hr:∀v∈c.values,0<v.length)(hl:c.values.length<=1000)(hf:2000<F):iter (H0g F c from_) F ([],0)=some (a0B (z06 c.values from_ c.values.length)):=by
 have:=j0K (step:=H0g F c from_) (fun i=>(a0B (z06 c.values from_ i),(i:Int))) (a0B (z06 c.values from_ c.values.length)) c.values.length (fun i hi=>.inl ?_) ?_ c.values.length 0 F (by omega) (by omega)
 ·exact this
 ·unfold H0g;have h1:(i:Int)<(c.values.length:Int):=by omega
  have hv:=hr _ (mem_of_getElem? (B01 hi));have hap:C1 8 (a0B (z06 c.values from_ i)) [(i:Int)]=true:=by have:=G0y c.values from_ i;simp[C1];omega
  simp only[h1,decide_true,if_true,B4 (l:=c.values) (i:=(i:Int)) (by omega) h1,B4 (l:=gt c.values (i:Int)) (i:=0) (by omega) (by omega),hap,N0A,R2 (i:=i) (by omega)]
  by_cases h2:decide (gt (gt c.values (i:Int)) 0<=from_)=true
  ·simp only[h2,if_true,F1,F0d]
  ·have h2:decide (gt (gt c.values (i:Int)) 0<=from_)=false:=by simpa using h2
   simp only[q0,h2]
 ·unfold H0g;have h1:¬((c.values.length:Int)<(c.values.length:Int)):=by omega
  simp only[q0,h1]
def N0Y {β:Type}{n i:Nat}{f:Nat->β}{v:β}:((List.range n).map f).set i v=(List.range n).map fun j=>if j=i then v else f j:=by
 refine ext_getElem (by simp) fun j h1 h2=>?_;simp only[List.getElem_set,getElem_map,getElem_range]
 by_cases e:i=j
 ·simp[e]
 ·rw[if_neg e,if_neg (fun h=>e h.symm)]
def half (s m:Nat)(st:List Nat)(f:Nat->Nat->Int)(x i:Nat):List Int:=if i<x then s5 s (fun k=>f (st.getD i 0) (st.getD k 0))else s5 m (f (st.getD i 0))
def T0G {m:Nat}{st:List Nat}(h:∀i∈st,i<m)(f:Nat->Nat->Int):(st.map fun i:Nat=>gt (e7 m m f) (i:Int))=(List.range st.length).map (half st.length m st f 0):=by
 refine ext_getElem (by simp) fun j h1 h2=>?_;simp only[length_map]at h1;have hj:=h st[j] (getElem_mem h1);simp only[getElem_map,getElem_range,half,Nat.not_lt_zero,if_false];rw[B06 f hj];simp[List.getD,h1]
def U0L (s m:Nat)(st:List Nat)(f:Nat->Nat->Int){x:Nat}:(List.range s).map (fun j=>if j=x then s5 s (fun k=>f (st.getD x 0) (st.getD k 0))else half s m st f x j)=(List.range s).map (half s m st f (x+1)):=by
 refine List.map_congr_left fun j _=>?_;unfold half
 by_cases e:j=x
 ·subst e;simp
 ·rw[if_neg e]
  by_cases e2:j<x
  ·rw[if_pos e2,if_pos (by omega)]
  ·rw[if_neg e2,if_neg (by omega)]
def R09 {m:Nat}{st:List Nat}(h:∀i∈st,i<m)(hl:st.length<=1000)(hf:2000<F)(g:Nat->Int):E05 F (s5 m g) (a0B st)=some (s5 st.length fun k=>g (st.getD k 0)):=by
 rw[N0z (by simpa using h) hl hf];congr 1;refine ext_getElem (by simp) fun j h1 h2=>?_;simp only[length_map]at h1;have hj:=h st[j] (getElem_mem h1);simp only[getElem_map,C00 g hj];simp[s5,List.getD,h1]
def Q0P {m:Nat}{st:List Nat}(h:∀i∈st,i<m)(hl:st.length<=1000)(hf:2000<F)(fB fD:Nat->Nat->Int):
  iter (H0p F (a0B st)) F (0,(List.range st.length).map (half st.length m st fB 0),(List.range st.length).map (half st.length m st fD 0)) =
   some (e7 st.length st.length (fun i k=>fB (st.getD i 0) (st.getD k 0)),e7 st.length st.length (fun i k=>fD (st.getD i 0) (st.getD k 0))):=by
 have:=j0K (step:=H0p F (a0B st)) (fun x=>((x:Int),(List.range st.length).map (half st.length m st fB x),(List.range st.length).map (half st.length m st fD x)))
  (e7 st.length st.length (fun i k=>fB (st.getD i 0) (st.getD k 0)),e7 st.length st.length (fun i k=>fD (st.getD i 0) (st.getD k 0))) st.length (fun x hx=>.inl ?_) ?_ st.length 0 F (by omega) (by omega)
 ·exact this
 ·unfold H0p;have h1:(x:Int)<((a0B st).length:Int):=by simp;omega
  have hh:∀f:Nat->Nat->Int,half st.length m st f x x=s5 m (f (st.getD x 0)):=fun f=>by unfold half;rw[if_neg (by omega)]
  simp only[q0,h1,E0d hx,E0g hx,hh,R09 h hl hf,Int.toNat_natCast,N0Y,U0L,R2 (i:=x) (by omega)]
 ·unfold H0p;have h1:¬((st.length:Int)<((a0B st).length:Int)):=by simp
  simp only[q0,h1];have e:∀f:Nat->Nat->Int,(List.range st.length).map (half st.length m st f st.length)=e7 st.length st.length (fun i k=>f (st.getD i 0) (st.getD k 0)):=fun f=>List.map_congr_left fun i hi=>by
   unfold half;rw[if_pos (mem_range.1 hi)]
  rw[e,e]
variable {l:List U0}{n:Nat}{a:List E1}{b:Nat->List E1}{e:Nat->E1×Bool}{z:E1×Bool}{at_ work:Int}{pl:List Nat}{vals:List (List Int)}{fB fD:Nat->Nat->Int}
def S0l (K:B0H l n a b e z F)(C:B02 l n pl vals fB fD)(from_:Int){st:List Nat}(hst:st=z06 vals from_ vals.length):
  E0Y F (mkC l n a b e z at_ work pl vals fB fD) from_=some (mkC l n a b e z at_ work (st.map fun i=>pl.getD i 0) (st.map fun i:Nat=>gt vals (i:Int)) (fun i k=>fB (st.getD i 0) (st.getD k 0)) (fun i k=>fD (st.getD i 0) (st.getD k 0))):=by
 have f1:=K.f1;have hm:=C.le;have hn:=K.T.n64;have ht:=C0D l;have hlt:∀i∈st,i<pl.length:=fun i h=>by rw[hst]at h;have:=K0n h;rw[C.len]at this;exact this
 have hsl:st.length<=1000:=by rw[hst];have:=G0y vals from_ vals.length;have:=C.len;omega
 unfold E0Y;have hs:=W0i (F:=F) (c:=mkC l n a b e z at_ work pl vals fB fD) (from_:=from_) (fun v hv=>by have:=C.row v hv;omega) (by show vals.length<=1000;rw[C.len];omega) (by omega);rw[hs,show z06 (mkC l n a b e z at_ work pl vals fB fD).values from_ (mkC l n a b e z at_ work pl vals fB fD).values.length=st from hst.symm];simp only[F1,mkC,b0U,N0z (x:=a0B pl) (of:=st) (F:=F) (by simpa using hlt) hsl (by omega),L0M (x:=vals) (of:=st) (F:=F) (by rw[C.len];exact hlt) hsl (by omega),L0M (x:=e7 pl.length pl.length fB) (of:=st) (F:=F) (by simpa using hlt) hsl (by omega),L0M (x:=e7 pl.length pl.length fD) (of:=st) (F:=F) (by simpa using hlt) hsl (by omega),T0G hlt,Q0P hlt hsl (show 2000<F by omega),length_map];congr 2;refine ext_getElem (by simp) fun j h1 h2=>?_;simp only[length_map]at h1;simp only[a0B,getElem_map];exact C0B (hlt st[j] (getElem_mem h1))
end
def nst (vals:List (List Int))(from_:Int){β:Type}(g:Nat->β)(k:Nat):(z06 vals from_ (k+1)).map g=if decide (gt (gt vals (k:Int)) 0<=from_)=true then(z06 vals from_ k).map g++[g k]else(z06 vals from_ k).map g:=by
 rw[N0A]
 by_cases h:decide (gt (gt vals (k:Int)) 0<=from_)=true
 ·rw[if_pos h,if_pos h,map_append];rfl
 ·rw[if_neg h,if_neg h]
section
variable {F:Nat}{l:List U0}{n:Nat}{a:List E1}{b:Nat->List E1}{e:Nat->E1×Bool}{z:E1×Bool}{at_ work:Int}{pl:List Nat}{vals:List (List Int)}{fB fD:Nat->Nat->Int}
def V0S (K:B0H l n a b e z F)(C:B02 l n pl vals fB fD)(from_:Int){i:Nat}(hi:i<pl.length):
  iter (G0X F (mkX l n a b e at_ work pl vals fB fD) from_ (i:Int)) F ([],[],0)=some ((z06 vals from_ pl.length).map (fB i),(z06 vals from_ pl.length).map (fD i)):=by
 have f1:=K.f1;have hm:=C.le;have hn:=K.T.n64;have ht:=C0D l;have hvl:=C.len;have:=j0K (step:=G0X F (mkX l n a b e at_ work pl vals fB fD) from_ (i:Int)) (fun k=>((z06 vals from_ k).map (fB i),(z06 vals from_ k).map (fD i),(k:Int))) ((z06 vals from_ pl.length).map (fB i),(z06 vals from_ pl.length).map (fD i)) pl.length (fun k hk=>.inl ?_) ?_ pl.length 0 F (by omega) (by omega)
 ·exact this
 ·unfold G0X;have h1:(k:Int)<((a0B pl).length:Int):=by simp;omega
  have hv:=C.row _ (mem_of_getElem? (B01 (l:=vals) (i:=k) (by omega)));have hsl:=G0y vals from_ k;have hap1:C1 8 ((z06 vals from_ k).map (fB i)) [fB i k]=true:=by simp[C1];omega
  have hap2:C1 8 ((z06 vals from_ k).map (fD i)) [fD i k]=true:=by simp[C1];omega
  simp only[mkX,C0V,b0U,h1,decide_true,if_true,B4 (l:=vals) (i:=(k:Int)) (by omega) (by omega),B4 (l:=gt vals (k:Int)) (i:=0) (by omega) (by omega),B09 _ hi,B06 _ hi,C0u _ hk,C00 _ hk,hap1,hap2,nst,R2 (i:=k) (by omega)];split
  ·rename_i h2;have h3:decide (gt (gt vals (k:Int)) 0<=from_)=true:=h2;simp only[h3,if_true];rfl
  ·rename_i h2;have h3:¬decide (gt (gt vals (k:Int)) 0<=from_)=true:=h2;simp only[h3,if_false];rfl
 ·unfold G0X;have h1:¬((pl.length:Int)<((a0B pl).length:Int)):=by simp
  simp only[q0,mkX,C0V,h1]
def U0K (K:B0H l n a b e z F)(C:B02 l n pl vals fB fD)(from_:Int){st:List Nat}(hst:st=z06 vals from_ pl.length):
  F03 F (mkX l n a b e at_ work pl vals fB fD) from_=some (mkX l n a b e at_ work (st.map fun i=>pl.getD i 0) (st.map fun i:Nat=>gt vals (i:Int)) (fun i k=>fB (st.getD i 0) (st.getD k 0)) (fun i k=>fD (st.getD i 0) (st.getD k 0))):=by
 have f1:=K.f1;have hm:=C.le;have hn:=K.T.n64;have ht:=C0D l;have hvl:=C.len;have hsl:=G0y vals from_ pl.length;unfold F03;have:=j0K (step:=H0P F (mkX l n a b e at_ work pl vals fB fD) from_) (fun i=>((i:Int),(l,e0L l l.length,a,(List.range n).map b,(List.range n).map (fun p=>(e p).1.Steps),at_,work,(z06 vals from_ i).map (fun j=>((pl.getD j 0:Nat):Int)),(z06 vals from_ i).map (fun j:Nat=>gt vals (j:Int)),((z06 vals from_ i).map (fun j=>(z06 vals from_ pl.length).map (fB j)),(z06 vals from_ i).map (fun j=>(z06 vals from_ pl.length).map (fD j))))))
  (l,e0L l l.length,a,(List.range n).map b,(List.range n).map (fun p=>(e p).1.Steps),at_,work,(z06 vals from_ pl.length).map (fun j=>((pl.getD j 0:Nat):Int)),(z06 vals from_ pl.length).map (fun j:Nat=>gt vals (j:Int)),((z06 vals from_ pl.length).map (fun j=>(z06 vals from_ pl.length).map (fB j)),(z06 vals from_ pl.length).map (fun j=>(z06 vals from_ pl.length).map (fD j)))) pl.length (fun i hi=>.inl ?_) ?_ pl.length 0 F (by omega) (by omega)
 ·have h2:iter (H0P F (mkX l n a b e at_ work pl vals fB fD) from_) F (0,((mkX l n a b e at_ work pl vals fB fD).L,(mkX l n a b e at_ work pl vals fB fD).Leaves,(mkX l n a b e at_ work pl vals fB fD).First,(mkX l n a b e at_ work pl vals fB fD).Hops,(mkX l n a b e at_ work pl vals fB fD).Ends,(mkX l n a b e at_ work pl vals fB fD).At,(mkX l n a b e at_ work pl vals fB fD).Work,[],[],([],[])))=_:=this;rw[h2];have em:∀f:Nat->Nat->Int,(st.map fun j=>st.map (f j))=e7 st.length st.length (fun i k=>f (st.getD i 0) (st.getD k 0)):=fun f=>by
   refine ext_getElem (by simp) fun j h1 h2=>?_;simp only[length_map]at h1;simp only[e7,getElem_map,getElem_range];refine ext_getElem (by simp) fun k h3 h4=>?_;simp only[length_map]at h3;simp[s5,List.getD,h1,h3]
  rw[<-hst,em,em];simp only[F1,mkX,C0V,b0U,length_map,a0B,List.map_map];rfl
 ·unfold H0P;have h1:(i:Int)<((a0B pl).length:Int):=by simp;omega
  have hv:=C.row _ (mem_of_getElem? (B01 (l:=vals) (i:=i) (by omega)));have hl2:=G0y vals from_ i;have hk:=V0S (at_:=at_) (work:=work) K C from_ hi;have hap1:C1 8 ((z06 vals from_ i).map (fun j=>((pl.getD j 0:Nat):Int))) [((pl.getD i 0:Nat):Int)]=true:=by simp[C1];omega
  have hap2:C1 24 ((z06 vals from_ i).map (fun j:Nat=>gt vals (j:Int))) [gt vals (i:Int)]=true:=by simp[C1];omega
  have hap3:C1 24 ((z06 vals from_ i).map (fun j=>(z06 vals from_ pl.length).map (fB j))) [(z06 vals from_ pl.length).map (fB i)]=true:=by simp[C1];omega
  have hap4:C1 24 ((z06 vals from_ i).map (fun j=>(z06 vals from_ pl.length).map (fD j))) [(z06 vals from_ pl.length).map (fD i)]=true:=by simp[C1];omega
  simp only[hk,nst];simp only[q0,mkX,C0V,h1,B4 (l:=vals) (i:=(i:Int)) (by omega) (by omega),B4 (l:=gt vals (i:Int)) (i:=0) (by omega) (by omega),C0f hi,C0B hi,hap1,hap2,hap3,hap4,R2 (i:=i) (by omega)];split
  ·rename_i h2;have h3:¬decide (gt (gt vals (i:Int)) 0<=from_)=true:=by have:gt (gt vals (i:Int)) 0>from_:=of_decide_eq_true h2;simp;omega
   simp only[h3,if_false];rfl
  ·rename_i h2;have h3:decide (gt (gt vals (i:Int)) 0<=from_)=true:=by
    have:¬gt (gt vals (i:Int)) 0>from_:=fun h=>h2 (decide_eq_true h);simp;omega
   simp only[h3,if_true];rfl
 ·unfold H0P;have h1:¬((pl.length:Int)<((a0B pl).length:Int)):=by simp
  simp only[q0,mkX,C0V,h1]
def S0A (vals:List (List Int))(from_:Int)(k:Nat):(z06 vals from_ k).Pairwise fun a b=>a<b:=List.Pairwise.filter _ List.pairwise_lt_range
def L0U {st:List Nat}(h:st.Pairwise fun a b=>a<b){i k:Nat}(hk:k<st.length)(hik:i<k):st.getD i 0<st.getD k 0:=by
 have:=List.pairwise_iff_getElem.1 h i k (by omega) hk hik;simpa[List.getD,hk,show i<st.length by omega]using this
def U0j (C:B02 l n pl vals fB fD){st:List Nat}(hs:st.Pairwise fun a b=>a<b)(hlt:∀i∈st,i<pl.length):
  B02 l n (st.map fun i=>pl.getD i 0) (st.map fun i:Nat=>gt vals (i:Int)) (fun i k=>fB (st.getD i 0) (st.getD k 0)) (fun i k=>fD (st.getD i 0) (st.getD k 0)) where
 len:=by simp
 pln p hp:=by
  obtain⟨i,hi,rfl⟩:=mem_map.1 hp;exact C0t C.pln (hlt i hi)
 asc:=by
  rw[List.pairwise_map];exact hs.imp_of_mem fun {x y} hx hy hxy=>L0U C.asc (hlt y hy) hxy
 row v hv:=by
  obtain⟨i,hi,rfl⟩:=mem_map.1 hv;exact C.row _ (mem_of_getElem? (B01 (l:=vals) (i:=i) (by rw[C.len];exact hlt i hi)))
 rk:=by
  have g:∀i,i<(st.map fun i=>pl.getD i 0).length->i<st.length/\st.getD i 0<pl.length:=fun i hi=>by
   simp only[length_map]at hi;exact⟨hi,C0t hlt hi⟩
  refine⟨fun i k hi hk=>C.rk.b0 _ _ (g i hi).2 (g k hk).2,fun i hi=>C.rk.bd _ (g i hi).2,fun i hi=>C.rk.dd _ (g i hi).2,fun i k hi hk hne=>C.rk.d1 _ _ (g i hi).2 (g k hk).2 ?_,fun i k hi hk=>C.rk.dn _ _ (g i hi).2 (g k hk).2⟩;rcases lt_or_ge i k with h|h
  ·have:=L0U hs (g k hk).1 h;omega
  ·have:=L0U hs (g i hi).1 (show k<i by omega);omega
end
def I0i {l:List U0}:∀{n:Nat} {a:List Int},B0Q l n=some a->∀j,j<n->∃b,B0Q l j=some b/\b.length=j/\(∀i:Nat,i<j->gt a (i:Int)=gt b (i:Int))/\gt a (j:Int)=z03 l b j/\0<=z03 l b j
 |0,a,h,j,hj=>by omega
 |
  n+1,a,h,j,hj=>by
  simp only[B0Q]at h;split at h
  ·cases h
  ·rename_i b hb;split at h
   ·rename_i hg;cases h;have hl:=(E0m hb).len;simp only[C0E,Bool.and_eq_true,decide_eq_true_eq]at hg
    by_cases e:j=n
    ·subst e;exact⟨b,hb,hl,fun i hi=>z0U (by omega) (by omega),F0L hl.symm,hg.1.1⟩
    ·obtain⟨c,h1,h2,h3,h4,h5⟩:=I0i hb j (by omega);exact⟨c,h1,h2,fun i hi=>by rw[z0U (by omega) (by omega)];exact h3 i hi,by rw[z0U (by omega) (by omega)];exact h4,h5⟩
   ·cases h
def K0z {c:Prop}[Decidable c]{v z:Int}(h:0<=if c then v else -1)(e:v=z):(if c then v else -1)=z:=by
 by_cases hc:c
 ·rw[if_pos hc];exact e
 ·rw[if_neg hc]at h;omega
def N0x {c d:Prop}[Decidable c][Decidable d]{v z:Int}(h:0<=if c then(if d then v else -1)else -1)(e:v=z):(if c then(if d then v else -1)else -1)=z:=by
 by_cases hc:c
 ·rw[if_pos hc]at h ⊢;exact K0z h e
 ·rw[if_neg hc]at h;omega
def W0c {l:List U0}:∀{s:Tm} {lo n:Nat} {a:List Int},At l lo s->s.top lo<n->B0Q l n=some a->gt a (s.top lo:Int)=lo:=by
 intro s
 induction s with
 |
  eps|leaf s=>
  intro lo n a h hn ha;obtain⟨b,h1,h2,h3,h4,h5⟩:=I0i ha _ hn;rw[h4];have hg:=h.A0h;unfold z03;rw[hg];simp[Tm.node,Tm.top,Tm.size]
 |
  cat x y ihx ihy|alt x y ihx ihy=>
  intro lo n a h hn ha;obtain⟨b,h1,h2,h3,h4,h5⟩:=I0i ha _ hn;have hg:=h.A0h;obtain⟨hx,hy,_⟩:=(At.bin rfl rfl).1 h;have:=x.size_pos;have:=y.size_pos;rw[h4];have i1:=ihx hx (n:=Tm.top _ lo) (a:=b) (by simp only[Tm.top,Tm.size];omega) h1;unfold z03 at h5 ⊢;rw[hg]at h5 ⊢;simp only[Tm.node]at h5 ⊢
  revert h5
  simp only[show ¬((3:Int)=1\/(3:Int)=2)from by omega,show ¬((4:Int)=1\/(4:Int)=2)from by omega,if_false,show((3:Int)=3\/(3:Int)=4)from .inl rfl,show((4:Int)=3\/(4:Int)=4)from .inr rfl,if_true];intro h5
  first|exact K0z h5 i1|exact N0x h5 i1
 |
  star x ihx|maybe x ihx|group _ x ihx|iter x ihx=>
  intro lo n a h hn ha;obtain⟨b,h1,h2,h3,h4,h5⟩:=I0i ha _ hn;have hg:=h.A0h;obtain⟨hx,_⟩:=(At.un rfl rfl).1 h;have:=x.size_pos;rw[h4];have i1:=ihx hx (n:=Tm.top _ lo) (a:=b) (by simp only[Tm.top,Tm.size];omega) h1;unfold z03 at h5 ⊢;rw[hg]at h5 ⊢;simp only[Tm.node]at h5 ⊢
  revert h5
  simp;intro h5
  first|exact K0z h5 i1|exact N0x h5 i1
def G0n {l:List U0}(hR:e0M l=true){s:Tm}{lo:Nat}(h:At l lo s):gt (A0i l) (s.top lo:Int)=lo:=by
 have ht:=h.C0a;unfold e0M at hR;unfold A0i at hR ⊢;cases e:B0Q l l.length with
 |none=>rw[e]at hR;simp at hR
 |
  some a=>
  rw[e]at hR;dsimp only at hR ⊢;split
  ·rename_i hc;rw[if_pos hc]at hR;simp at hR
  ·exact W0c h ht e
def M0R {l:List U0}(hR:e0M l=true){s:Tm}{lo:Nat}(h:At l lo s){q:Nat}(h1:lo<=q)(h2:q<lo+s.size):(lo:Int)<=gt (A0i l) (q:Int):=by
 obtain⟨lo',s',h3,h4,h5,_⟩:=h.O0J q h1 h2;have:=G0n hR h3;rw[h4]at this;rw[this];omega
def C0r (l:List U0)(a b:Nat)(q:Nat):Bool:=decide (gt (A0i l) (q:Int)<=(a:Int))&&(decide (a<=q)&&(decide (gt (A0i l) (q:Int)<=(b:Int))&&decide (b<=q)))
def E0h {l:List U0}{a b q:Nat}:C0r l a b q=true↔gt (A0i l) (q:Int)<=(a:Int)/\a<=q/\gt (A0i l) (q:Int)<=(b:Int)/\b<=q:=by
 simp[C0r]
def D05 (b:Nat):List Fr->Nat->Tm->Nat
 |[],lo,s=>s.top lo
 |f :: fs,lo,s=>if lo<=b/\b<=s.top lo then s.top lo else D05 b fs (lo-f.off) (f.e09 s)
def Q0C {l:List U0}{t:Tm}(ht:n4 l t)(hR:e0M l=true){a b:Nat}(hb:b<l.length):∀(fs:List Fr) (lo:Nat) (s:Tm),Ctx t lo s fs->lo<=a->a<=s.top lo->(∀q,lo<=q->q<s.top lo->C0r l a b q=false)->
  C0r l a b (D05 b fs lo s)=true/\(∀q,q<D05 b fs lo s->C0r l a b q=false)/\D05 b fs lo s<l.length:=by
 intro fs
 induction fs with
 |
  nil=>
  intro lo s hc h1 h2 h3;obtain⟨rfl,rfl⟩:=hc;have hlen:=ht.len;have hp:=s.size_pos;have hl:=G0n hR ht.at0;simp only[D05];refine⟨E0h.2 ⟨by rw[hl];omega,h2,by rw[hl];omega,by unfold Tm.top;omega⟩,fun q hq=>h3 q (zero_le _) hq,by unfold Tm.top;omega⟩
 |
  cons f fs ih=>
  intro lo s hc h1 h2 h3;have hat:=hc.at_ ht;have hlo:=G0n hR hat;have htop:=hat.C0a;simp only[D05];split
  ·rename_i hin;refine⟨E0h.2 ⟨by rw[hlo];omega,h2,by rw[hlo];omega,hin.2⟩,fun q hq=>?_,htop⟩
   by_cases h:lo<=q
   ·exact h3 q h hq
   ·have:¬C0r l a b q=true:=fun h'=>by have:=(E0h.1 h').2.1;omega
    simpa using this
  ·rename_i hout;obtain⟨hoff,hc2⟩:=hc;have hat2:=hc2.at_ ht;have hsp:=s.size_pos;have inS:∀q,lo<=q->q<=s.top lo->C0r l a b q=false:=fun q q1 q2=>by
    have hge:=M0R hR hat q1 (by unfold Tm.top at q2;omega);have:¬C0r l a b q=true:=fun h'=>by
     obtain⟨_,_,p3,p4⟩:=E0h.1 h';exact hout ⟨by omega,by omega⟩
    simpa using this
   have hlt:∀q,q<lo->C0r l a b q=false:=fun q q1=>by
    have:¬C0r l a b q=true:=fun h'=>by have:=(E0h.1 h').2.1;omega
    simpa using this
   have hgt:∀(y:Tm),At l (lo+s.size) y->∀q,lo+s.size<=q->q<lo+s.size+y.size->C0r l a b q=false:=fun y hy q q1 q2=>by
    have hge:=M0R hR hy q1 q2;have:¬C0r l a b q=true:=fun h'=>by
     have:=(E0h.1 h').1;unfold Tm.top at h2;omega
    simpa using this
   have all:∀q,lo-f.off<=q->q<(f.e09 s).top (lo-f.off)->C0r l a b q=false:=fun q q1 q2=>by
    rcases lt_or_ge q lo with c|c
    ·exact hlt q c
    ·rcases lt_or_ge (s.top lo) q with c2|c2
     ·cases f<;>simp only[Fr.e09,Fr.off,Nat.sub_zero,Tm.top,Tm.size]at q1 q2 c2 hat2 hoff
      case catL y=>exact hgt y ((At.bin rfl rfl).1 hat2).2.1 q (by omega) (by omega)
      case altL y=>exact hgt y ((At.bin rfl rfl).1 hat2).2.1 q (by omega) (by omega)
      all_goals omega
     ·exact inS q c c2
   refine ih _ _ hc2 (by omega) ?_ all;cases f<;>simp only[Fr.e09,Fr.off,Nat.sub_zero,Tm.top,Tm.size]at h2 hoff ⊢<;>omega
def A0q (l:List U0)(a b:Nat):Nat:=((List.range l.length).find? (C0r l a b)).getD 0
def R0j {P:Nat->Bool}{n k:Nat}(hk:k<n)(h:P k=true)(hf:∀q,q<k->P q=false):(List.range n).find? P=some k:=by
 rw[List.find?_eq_some_iff_append];refine⟨h,List.range k,(List.range (n-k-1)).map (k+1+·),?_,fun q hq=>by simp[hf q (mem_range.1 hq)]⟩;refine ext_getElem (by simp;omega) fun i h1 h2=>?_;simp only[List.length_range]at h1;simp only[getElem_range];rcases Nat.lt_trichotomy i k with c|c|c
 ·rw[List.getElem_append_left (by simpa using c)];simp
 ·subst c;rw[List.getElem_append_right (by simp)];simp
 ·rw[List.getElem_append_right (by simp;omega)];simp only[List.length_range];rw[List.getElem_cons];rw[dif_neg (by omega)];simp;omega
def Q09 {l:List U0}{a b k:Nat}(hk:k<l.length)(h:C0r l a b k=true)(hf:∀q,q<k->C0r l a b q=false):A0q l a b=k:=by
 unfold A0q;rw[R0j hk h hf];rfl
def M0Z (l:List U0)(a b:Nat):A0q l a b=A0q l b a:=by
 have:C0r l a b=C0r l b a:=funext fun q=>by
  unfold C0r;cases decide (gt (A0i l) (q:Int)<=(a:Int))<;>cases decide (a<=q)<;>cases decide (gt (A0i l) (q:Int)<=(b:Int))<;>cases decide (b<=q)<;>rfl
 unfold A0q;rw[this]
def N05 {l:List U0}{t:Tm}(ht:n4 l t){q:Nat}(hq:q<l.length):∃lo s fs,Ctx t lo s fs/\s.top lo=q:=by
 have h0:Ctx t 0 t []:=⟨rfl,rfl⟩
 exact h0.down q (zero_le _) (by have:=ht.len;omega)
def J0n {l:List U0}(hw:∀x∈l,l02 x)(hR:e0M l=true){a b:Nat}(ha:a<l.length)(hb:b<l.length):A0q l a b<l.length/\C0r l a b (A0q l a b)=true/\∀q,q<A0q l a b->C0r l a b q=false:=by
 obtain⟨t,ht⟩:=D0C hw hR;obtain⟨lo,s,fs,hc,hs⟩:=N05 ht ha;have hat0:=ht.at0;have hlen:=ht.len;have hp:=t.size_pos;have hl:=G0n hR hat0;have hroot:C0r l a b (l.length-1)=true:=E0h.2 ⟨by rw[show l.length-1=t.top 0 from by unfold Tm.top;omega,hl];omega,by omega,by rw[show l.length-1=t.top 0 from by unfold Tm.top;omega,hl];omega,by omega⟩;cases e:(List.range l.length).find? (C0r l a b)with
 |
  none=>
  rw[List.find?_eq_none]at e;exact absurd hroot (e _ (by simp;omega))
 |
  some k=>
  have hk:=mem_range.1 (List.mem_of_find?_eq_some e);have h1:=List.find?_some e;have:A0q l a b=k:=by unfold A0q;rw[e];rfl
  rw[this];refine⟨hk,h1,fun q hq=>?_⟩;rw[List.find?_eq_some_iff_append]at e;obtain⟨_,as_,bs_,e1,e2⟩:=e;have hql:q<as_.length:=by
   have e3:(List.range l.length)[as_.length]?=some k:=by rw[e1];simp
   have e4:as_.length<l.length:=by
    have:=congrArg List.length e1;simp at this;omega
   rw[List.getElem?_range e4]at e3;cases e3;exact hq
  have e5:as_[q]?=some q:=by
   have:(List.range l.length)[q]?=some q:=List.getElem?_range (by omega);rw[e1,List.getElem?_append_left hql]at this;exact this
  have:=e2 q (mem_of_getElem? e5);simpa using this
def O0S {d d':List Int}:∀{s:Tm} {lo k:Nat},C0U d lo k s->C0U d' lo k s->∀j:Nat,lo<=j->j<=s.top lo->gt d (j:Int)=gt d' (j:Int)/\(k:Int)<=gt d (j:Int)/\gt d (j:Int)<k+s.size:=by
 intro s
 induction s with
 |
  eps|leaf s=>
  intro lo k h h' j j1 j2;have:j=lo:=by simp only[Tm.top,Tm.size]at j2;omega
  subst this;simp only[C0U]at h h';simp only[Tm.size];omega
 |
  cat a b iha ihb|alt a b iha ihb=>
  intro lo k h h' j j1 j2;obtain⟨p1,p2,p3⟩:=h;obtain⟨q1,q2,q3⟩:=h';have:=a.size_pos;have:=b.size_pos;simp only[Tm.top,Tm.size]at p1 q1 j2 ⊢;rcases lt_or_ge j (lo+a.size)with c|c
  ·have:=iha p2 q2 j j1 (by unfold Tm.top;omega);omega
  ·rcases lt_or_ge j (lo+a.size+b.size)with c2|c2
   ·have:=ihb p3 q3 j c (by unfold Tm.top;omega);omega
   ·have:j=lo+(a.size+b.size+1)-1:=by omega
    subst this;omega
 |
  star a iha|maybe a iha|group _ a iha|iter a iha=>
  intro lo k h h' j j1 j2;obtain⟨p1,p2⟩:=h;obtain⟨q1,q2⟩:=h';have:=a.size_pos;simp only[Tm.top,Tm.size]at p1 q1 j2 ⊢;rcases lt_or_ge j (lo+a.size)with c|c
  ·have:=iha p2 q2 j j1 (by unfold Tm.top;omega);omega
  ·have:j=lo+(a.size+1)-1:=by omega
   subst this;omega
def O0P {d d':List Int}{t:Tm}(h:D0y d t)(h':D0y d' t):d=d':=by
 have hp:=t.size_pos;refine ext_getElem (by rw[h.len,h'.len]) fun j h1 h2=>?_;have e:=(O0S h.deep h'.deep j (zero_le _) (by have:=h.len;unfold Tm.top;omega)).1
 rwa [Y5 (x:=d[j]) (by simp[h1]),Y5 (x:=d'[j]) (by simp[h2])]at e
def C0S (l:List U0):List Int:=(Old.i0V 402 l).getD []
def L04 {l:List U0}{t:Tm}(ht:n4 l t)(hR:e0M l=true):D0y (C0S l) t:=by
 obtain⟨d,h1,h2⟩:=Old.I0G ht hR (show 401<402 by omega);unfold C0S;rw[h1];exact h2
def G09 {l:List U0}(hw:∀x∈l,l02 x)(hR:e0M l=true):(C0S l).length=l.length/\∀q:Nat,q<l.length->1<=gt (C0S l) (q:Int)/\gt (C0S l) (q:Int)<=400:=by
 obtain⟨t,ht⟩:=D0C hw hR;have h:=L04 ht hR;have h400:=ht.le;have hlen:=ht.len;have hp:=t.size_pos;refine⟨by rw[h.len,hlen],fun q hq=>?_⟩;have:=(O0S h.deep h.deep q (zero_le _) (by unfold Tm.top;omega)).2;omega
def S0U {l:List U0}(hw:∀x∈l,l02 x)(hR:e0M l=true){F:Nat}(hf:401<F):i0V F l=some (C0S l):=by
 obtain⟨t,ht⟩:=D0C hw hR;obtain⟨d,h1,h2⟩:=Old.I0G ht hR hf;rw[O0P h2 (L04 ht hR)]at h1;exact C0p N0T h1
def T0O {l:List U0}(hw:∀x∈l,l02 x)(hR:e0M l=true){F:Nat}(hf:401<F):D0D F l=some (C0S l):=by
 obtain⟨t,ht⟩:=D0C hw hR;obtain⟨d,h1,h2⟩:=Old.N0p ht hR hf;rw[O0P h2 (L04 ht hR)]at h1;exact C0p M0U h1
