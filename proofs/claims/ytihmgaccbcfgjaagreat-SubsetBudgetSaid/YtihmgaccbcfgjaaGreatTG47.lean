/- P. Its conditions: none. -/
import Derived.Test.YtihmgaccbcfgjaaGreatTG46
open List (append_nil getElem_mem map_append map_cons map_nil take_length length_map length_cons mem_cons take_succ set_set length_append length_nil)
open Bool (false_eq_true)
set_option linter.all false
namespace Go.Proofs.YtihmgaccbcfgjaaGreat
open Go.V Go.RowKit Old Go.X
def j0e (fB fD:Nat->Nat->Int)(c x:Nat):Bool:=x==c||(decide (fB x c>0)||decide (fD c x<0))
def a0d (fB fD:Nat->Nat->Int)(c k:Nat):List Nat:=(List.range k).filter (j0e fB fD c)
def F0A (fB fD:Nat->Nat->Int)(c k:Nat):a0d fB fD c (k+1)=if j0e fB fD c k=true then a0d fB fD c k++[k]else a0d fB fD c k:=by
 unfold a0d;rw[List.range_succ,List.filter_append]
 by_cases h:j0e fB fD c k=true
 ·rw[if_pos h];simp only[List.filter_cons,h,if_true,List.filter_nil]
 ·rw[if_neg h];simp only[List.filter_cons,h,if_false,List.filter_nil,append_nil,false_eq_true]
def r0i (fB fD:Nat->Nat->Int)(c k:Nat):(a0d fB fD c k).length<=k:=Nat.le_trans (List.length_filter_le _ _) X'
def n01 {fB fD:Nat->Nat->Int}{c k i:Nat}(h:i∈a0d fB fD c k):i<k:=List.mem_range.1 (List.mem_filter.1 h).1
def t0y (fB fD:Nat->Nat->Int)(c k:Nat):(a0d fB fD c k).Pairwise fun a b=>a<b:=List.Pairwise.filter _ List.pairwise_lt_range
section
variable {F:Nat}
def r0O {x:List Int}{of:List Nat}(h:∀i∈of,i<x.length)(hl:of.length<=1000)(f:2000<F):f00 F x (D1 of)=some (of.map fun i:Nat=>gt x (i:Int)):=by
 unfold f00;rw[I8];have:=H3 (step:=k0C F x (D1 of)) (fun i=>((of.take i).map fun i:Nat=>gt x (i:Int),(i:Int))) (of.map fun i:Nat=>gt x (i:Int)) of.length (fun i hi=>.inl ?_) ?_ of.length 0 F O' O'
 ·exact this
 ·unfold k0C;have h1:(i:Int)<((D1 of).length:Int):=by simp;omega
  have d:=h of[i] (getElem_mem hi);have c:K0 8 ((of.take i).map fun i:Nat=>gt x (i:Int)) [gt x ((of[i]:Nat):Int)]=true:=by simp[K0];omega
  simp only[h1,decide_true,if_true,q9 hi,h0N hi,V0 (l:=x) (i:=((of[i]:Nat):Int)) O' O',c,m0z hi,map_append,map_cons,map_nil,X1 (i:=i) O']
 ·unfold k0C;have h1:¬((of.length:Int)<((D1 of).length:Int)):=X'
  simp only[q0,h1,take_length]
def x0t {x:List (List Int)}{of:List Nat}(h:∀i∈of,i<x.length)(hl:of.length<=1000)(f:2000<F):l0o F x (D1 of)=some (of.map fun i:Nat=>gt x (i:Int)):=by
 unfold l0o;rw[I8];have:=H3 (step:=k0t F x (D1 of)) (fun i=>((of.take i).map fun i:Nat=>gt x (i:Int),(i:Int))) (of.map fun i:Nat=>gt x (i:Int)) of.length (fun i hi=>.inl ?_) ?_ of.length 0 F O' O'
 ·exact this
 ·unfold k0t;have h1:(i:Int)<((D1 of).length:Int):=by simp;omega
  have d:=h of[i] (getElem_mem hi);have c:K0 24 ((of.take i).map fun i:Nat=>gt x (i:Int)) [gt x ((of[i]:Nat):Int)]=true:=by simp[K0];omega
  simp only[h1,decide_true,if_true,q9 hi,h0N hi,V0 (l:=x) (i:=((of[i]:Nat):Int)) O' O',c,m0z hi,map_append,map_cons,map_nil,X1 (i:=i) O']
 ·unfold k0t;have h1:¬((of.length:Int)<((D1 of).length:Int)):=X'
  simp only[q0,h1,take_length]
def F0I {x:List (List Int)}{of:List Nat}(h:∀i∈of,i<x.length)(hl:of.length<=1000)(ha:of.Pairwise fun a b=>a<b):f06 F x (D1 of)=some (of.map fun i:Nat=>gt x (i:Int)):=by
 unfold f06;have h1:d0y (fun i=>i) (D1 of)=true:=by
  rw[h04];unfold D1;rw[List.pairwise_map];exact ha.imp fun c=>O'
 have g:(D1 of).all (fun i=>y0 x i)=true:=by
  rw[List.all_eq_true];intro i hi;obtain⟨k,hk,rfl⟩:=List.mem_map.1 hi;exact V0 O' (by have:=h k hk;omega)
 have d:((D1 of).map fun i=>gt x i)=of.map fun i:Nat=>gt x (i:Int):=by simp[D1]
 have f:K0 24 ([]:List (List Int)) (of.map fun i:Nat=>gt x (i:Int))=true:=by simp[K0];omega
 simp only[h1,g,d,f,Bool.and_self,if_true]
def C0I {m:Nat}{st:List Nat}(h:∀i∈st,i<m)(hl:st.length<=1000)(d:2000<F)(g:Nat->Int):f00 F (V2 m g) (D1 st)=some (V2 st.length fun k=>g (st.getD k 0)):=by
 rw[r0O (by simpa using h) hl d];congr 1;refine List.ext_getElem X' fun j h1 f=>?_;simp only[length_map]at h1;have c:=h st[j] (getElem_mem h1);simp only[List.getElem_map,b0y g c];simp[V2,List.getD,h1]
def F0U {m:Nat}{st:List Nat}(h:∀i∈st,i<m)(hl:st.length<=1000)(g:2000<F)(f:Nat->Nat->Int):i0r F (U1 m m f) (D1 st)=some (U1 st.length st.length (fun i k=>f (st.getD i 0) (st.getD k 0))):=by
 unfold i0r;rw[x0t (by simpa using h) hl g];simp only[G0,I8];have hg:∀i,i<st.length->gt (st.map fun i:Nat=>gt (U1 m m f) (i:Int)) (i:Int)=V2 m (f (st.getD i 0)):=fun i hi=>by
  have j:=h st[i] (getElem_mem hi);rw[X2 (x:=gt (U1 m m f) ((st[i]:Nat):Int)) (by simp[hi]),R8 f j];simp[List.getD,hi]
 have:=H3 (step:=l0z F (D1 st) (st.map fun i:Nat=>gt (U1 m m f) (i:Int))) (fun i=>((List.range i).map (fun i=>V2 st.length fun k=>f (st.getD i 0) (st.getD k 0)),(i:Int))) (U1 st.length st.length (fun i k=>f (st.getD i 0) (st.getD k 0))) st.length (fun i hi=>.inl ?_) ?_ st.length 0 F O' O'
 ·exact this
 ·unfold l0z;have h1:(i:Int)<((st.map fun i:Nat=>gt (U1 m m f) (i:Int)).length:Int):=by simp;omega
  have c:y0 (st.map fun i:Nat=>gt (U1 m m f) (i:Int)) (i:Int)=true:=V0 O' h1;have d:K0 24 ((List.range i).map (fun i=>V2 st.length fun k=>f (st.getD i 0) (st.getD k 0))) [V2 st.length fun k=>f (st.getD i 0) (st.getD k 0)]=true:=by simp[K0];omega
  simp only[q0,h1,c,hg i hi,C0I h hl g,d,List.range_succ,map_append,map_cons,map_nil,X1 (i:=i) O']
 ·unfold l0z;have h1:¬((st.length:Int)<((st.map fun i:Nat=>gt (U1 m m f) (i:Int)).length:Int)):=X'
  simp only[q0,h1];rfl
end
section
variable {F:Nat}{l:List C0}{n:Nat}{a:List B0}{b:Nat->List B0}{e:Nat->B0×Bool}{z:B0×Bool}{pl:List Nat}{maps:List (List Int)}{fB fD:Nat->Nat->Int}{flag:Int}
def s0W (K:U3 l n a b e z F)(C:R3 l n pl maps fB fD):f0G F l (z8 flag pl maps fB fD)=some (D8 fD (E7 e pl pl.length)):=by
 have f1:=K.f1;have hm:=C.le;have hn:=K.T.n64;unfold f0G;have:=H3 (step:=g06 F l (z8 flag pl maps fB fD)) (fun i=>(D1 (E7 e pl i),(i:Int))) (D1 (E7 e pl pl.length)) pl.length (fun i hi=>.inl ?_) ?_ pl.length 0 F O' O'
 ·have c:iter (g06 F l (z8 flag pl maps fB fD)) F ([],0)=_:=this;rw[c];simp only[G0,z8];rw[z0o O' O' C.rk _ (by have:=w0M e pl pl.length;omega) (fun i h=>j0P h)];rfl
 ·unfold g06;have h1:(i:Int)<((D1 pl).length:Int):=by simp;omega
  have hp:=P8 C.pln hi;have d:K0 8 (D1 (E7 e pl i)) [(i:Int)]=true:=by have:=w0M e pl i;simp[K0];omega
  simp only[q0,z8,h1,q9 hi,a0T hi,K.TF.mE _ hp,d,X1 (i:=i) O',F0K]
  by_cases c:(e (pl.getD i 0)).2=true
  ·simp only[c,if_true,G0,g0m]
  ·have c:(e (pl.getD i 0)).2=false:=by simpa using c
   simp only[q0,c]
 ·unfold g06;have h1:¬((pl.length:Int)<((D1 pl).length:Int)):=X'
  simp only[q0,z8,h1]
structure Kd where
 flag:Int
 pl:List Nat
 maps:List (List Int)
 fB:Nat->Nat->Int
 fD:Nat->Nat->Int
def Kd.K (k:Kd):F1:=z8 k.flag k.pl k.maps k.fB k.fD
def Kd.T (k:Kd):Int×List Int×List (List Int)×D2:=(k.flag,D1 k.pl,k.maps,U2 k.pl.length k.fB k.fD)
def Kd.of (k:Kd)(fl:Int)(st:List Nat):Kd:=⟨fl,st.map fun i=>k.pl.getD i 0,st.map fun i:Nat=>gt k.maps (i:Int),fun i j=>k.fB (st.getD i 0) (st.getD j 0),fun i j=>k.fD (st.getD i 0) (st.getD j 0)⟩
def Kd.cut (e:Nat->B0×Bool)(k:Kd):Kd:=
 if D8 k.fD (E7 e k.pl k.pl.length)<0 then k else k.of 0 (a0d k.fB k.fD (D8 k.fD (E7 e k.pl k.pl.length)).toNat k.pl.length)
def F0Q (K:U3 l n a b e z F){k:Kd}(C:R3 l n k.pl k.maps k.fB k.fD):j0p F l k.T=some (k.cut e).T:=by
 have f1:=K.f1;have hm:=C.le;have hn:=K.T.n64;unfold j0p Kd.T;have m:=s0W (flag:=k.flag) K C;unfold z8 at m;simp only[m,G0];unfold Kd.cut;rcases j07 (fD:=k.fD) (E7 e k.pl k.pl.length) (n:=k.pl.length) (fun i h=>j0P h)with hb|⟨q,hb,hq⟩
 ·rw[hb];rfl
 ·have p:¬((q:Int)<0):=O'
  rw[hb];simp only[q0,p,Int.toNat_natCast];have c:∀i∈a0d k.fB k.fD q k.pl.length,i<k.pl.length:=fun i h=>n01 h;have d:(a0d k.fB k.fD q k.pl.length).length<=1000:=by have:=r0i k.fB k.fD q k.pl.length;omega
  have g:=t0y k.fB k.fD q k.pl.length;have f:iter (h0H F (D1 k.pl) (U2 k.pl.length k.fB k.fD) (q:Int)) F ([],0)=some (D1 (a0d k.fB k.fD q k.pl.length)):=by
   have:=H3 (step:=h0H F (D1 k.pl) (U2 k.pl.length k.fB k.fD) (q:Int)) (fun i=>(D1 (a0d k.fB k.fD q i),(i:Int))) (D1 (a0d k.fB k.fD q k.pl.length)) k.pl.length (fun i hi=>.inl ?_) ?_ k.pl.length 0 F O' O'
   ·exact this
   ·unfold h0H;have h1:(i:Int)<((D1 k.pl).length:Int):=by simp;omega
    have o:K0 8 (D1 (a0d k.fB k.fD q i)) [(i:Int)]=true:=by have:=r0i k.fB k.fD q i;simp[K0];omega
    have heq:((i:Int)==(q:Int))=(i==q):=by rw[Bool.eq_iff_iff];simp only[beq_iff_eq];omega
    simp only[h1,decide_true,if_true,U2,H9 _ hi,H9 _ hq,R8 _ hi,R8 _ hq,a0k _ hi,a0k _ hq,b0y _ hi,b0y _ hq,heq,o,F0A,X1 (i:=i) O'];unfold j0e;cases c1:i==q
    ·cases c2:decide (k.fB i q>0)
     ·cases c3:decide (k.fD q i<0)
      ·simp only[q0,Bool.or_self]
      ·simp only[q0,Bool.or_true,g0m]
     ·simp only[q0,Bool.true_or,Bool.or_true,g0m]
    ·simp only[if_true,G0,Bool.true_or,g0m]
   ·unfold h0H;have h1:¬((k.pl.length:Int)<((D1 k.pl).length:Int)):=X'
    simp only[q0,h1]
  rw[f];generalize a0d k.fB k.fD q k.pl.length=st at *;simp only[G0,r0O (x:=D1 k.pl) (of:=st) (F:=F) (by simpa using c) d O',F0I (F:=F) (x:=k.maps) (of:=st) (by rw[C.len];exact c) d g,U2,F0U c d (show 2000<F from O')];unfold Kd.of;have he:(st.map fun i:Nat=>gt (D1 k.pl) (i:Int))=D1 (st.map fun i=>k.pl.getD i 0):=by
   refine List.ext_getElem X' fun j h1 r=>?_;simp only[length_map]at h1;have:=a0T (c st[j] (getElem_mem h1));simp only[D1,List.getElem_map]at this ⊢;exact this
  simp only[length_map,he]
def d0N {k:Kd}(C:R3 l n k.pl k.maps k.fB k.fD):R3 l n (k.cut e).pl (k.cut e).maps (k.cut e).fB (k.cut e).fD:=by
 unfold Kd.cut;split
 ·exact C
 ·exact x0y C (t0y _ _ _ _) (fun i h=>n01 h)
end
def v8:Nat->List Int->List (Int×Int)
 |_,[]=>[]
 |k,v :: r=>(v,(k:Int)) :: v8 (k+1) r
def u0v (v:Int):∀(s:List Int) (k:Nat),v8 k (s++[v])=v8 k s++[(v,((k+s.length:Nat):Int))]
 |[],k=>rfl
 |x :: r,k=>by
  simp only[List.cons_append,v8,u0v v r (k+1),length_cons];rw[show k+1+r.length=k+(r.length+1) from O']
def p0Q (v:Int):∀(s:List Int) (k:Nat),J7 (v8 k s) v=decide (v∈s)
 |[],k=>by simp[v8,J7]
 |x :: r,k=>by
  simp only[v8,J7,p0Q v r (k+1),mem_cons]
  by_cases h:x=v
  ·subst h;simp
  ·have:¬v=x:=fun e=>h e.symm;simp[h,this]
def s0m (v:Int):∀(s:List Int) (k:Nat),v∈s->U7 (v8 k s) v=((k+s.idxOf v:Nat):Int)
 |x :: r,k,h=>by
  simp only[v8,U7,List.idxOf_cons]
  by_cases e:x=v
  ·subst e;simp
  ·have c:v∈r:=by
    rcases mem_cons.1 h with h|h
    ·exact absurd h.symm e
    ·exact h
   have eb:(x==v)=false:=by simpa using e
   simp only[eb,false_eq_true,if_false,s0m v r (k+1) c,cond_false];congr 1;omega
def u0j (v n:Int):∀m:List (Int×Int),J7 m v=false->b0f m v n=m++[(v,n)]
 |[],_=>rfl
 |(a,b) :: r,h=>by
  simp only[J7,Bool.or_eq_false_iff]at h;simp only[b0f,h.1,false_eq_true,if_false,u0j v n r h.2,List.cons_append]
def M6 (s:List Int)(v:Int):List Int:=if v=-2\/v∈s then s else s++[v]
def Z2 (s r:List Int):List Int:=r.foldl M6 s
def O3 (s:List Int)(v:Int):Int:=if v=-2 then -2 else(s.idxOf v:Int)
def v04 (s:List Int)(v:Int):s <+: M6 s v:=by
 unfold M6;split
 ·exact List.prefix_refl _
 ·exact⟨[v],rfl⟩
def k0W:∀(r s:List Int),s <+: Z2 s r
 |[],s=>List.prefix_refl _
 |v :: r,s=>(v04 s v).trans (k0W r (M6 s v))
def h0F (s r t:List Int):Z2 s (r++t)=Z2 (Z2 s r) t:=by unfold Z2;rw[List.foldl_append]
def A0x (s:List Int)(v:Int):(M6 s v).length<=s.length+1:=by unfold M6;split<;>simp
def l0c:∀(r s:List Int),(Z2 s r).length<=s.length+r.length
 |[],s=>by simp[Z2]
 |v :: r,s=>by
  have h1:=l0c r (M6 s v);have c:=A0x s v;show(Z2 (M6 s v) r).length<=_;simp only[length_cons];omega
def t0z {x:Int}:∀(r s:List Int),x∈Z2 s r->x∈s\/(x∈r/\x≠-2)
 |[],s,h=>.inl h
 |v :: r,s,h=>by
  rcases t0z r (M6 s v) h with h1|⟨h1,h2⟩
  ·unfold M6 at h1;split at h1
   ·exact .inl h1
   ·rename_i hn;rcases List.mem_append.1 h1 with h1|h1
    ·exact .inl h1
    ·simp at h1;subst h1;exact .inr ⟨X',fun e=>hn (.inl e)⟩
  ·exact .inr ⟨List.mem_cons_of_mem _ h1,h2⟩
def v0F {s t:List Int}{v:Int}(h:s <+: t)(c:v∈s):t.idxOf v=s.idxOf v:=by
 obtain⟨u,rfl⟩:=h;rw[List.idxOf_append,if_pos c]
def y0U {s:List Int}{v:Int}(c:v∉s):(s++[v]).idxOf v=s.length:=by
 rw[List.idxOf_append,if_neg c];simp
def m0b {s t:List Int}{v:Int}(h:M6 s v <+: t):(v=-2/\O3 t v=-2/\M6 s v=s)\/(v≠-2/\v∈s/\M6 s v=s/\O3 t v=(s.idxOf v:Int)/\s.idxOf v<s.length)\/(v≠-2/\v∉s/\M6 s v=s++[v]/\O3 t v=(s.length:Int)):=by
 by_cases c:v=-2
 ·exact .inl ⟨c,by unfold O3;rw[if_pos c],by unfold M6;rw[if_pos (.inl c)]⟩
 ·by_cases hm:v∈s
  ·have e:M6 s v=s:=by unfold M6;rw[if_pos (.inr hm)]
   rw[e]at h;exact .inr (.inl ⟨c,hm,e,by unfold O3;rw[if_neg c,v0F h hm],List.idxOf_lt_length_of_mem hm⟩)
  ·have e:M6 s v=s++[v]:=by unfold M6;rw[if_neg (by rintro(h|h);exact c h;exact hm h)]
   rw[e]at h;exact .inr (.inr ⟨c,hm,e,by unfold O3;rw[if_neg c,v0F h X',y0U hm]⟩)
section
variable {F:Nat}
def E0H {row:List Int}{f:Int->Int}{j:Nat}(c:j<row.length):((row.take j).map f++row.drop j).set j (f (gt row (j:Int)))=(row.take (j+1)).map f++row.drop (j+1):=by
 have hg:row[j]?=some (gt row (j:Int)):=P4 c;have g:row.take (j+1)=row.take j++[gt row (j:Int)]:=by rw[take_succ,hg];rfl
 have d:j-((row.take j).map f).length=0:=by simp;omega
 rw[List.set_append_right _ _ Z',g,map_append,List.append_assoc,d,List.drop_eq_getElem_cons c,List.set_cons_zero];rfl
def i0Q {row s:List Int}{j:Nat}(c:j<row.length):Z2 s (row.take (j+1))=M6 (Z2 s (row.take j)) (gt row (j:Int)):=by
 have hg:row[j]?=some (gt row (j:Int)):=P4 c;rw[take_succ,hg,h0F];rfl
def C0N {src t:List Int}{y:List (List Int)}{x:Nat}(J:x<y.length){row:List Int}(d:gt y (x:Int)=row)(o:Z2 src row <+: t)(hlen:t.length<=1000000)(U:row.length<=1000)(hf:2000<F):
  iter (h05 F (x:Int) y) F (src,0,y,v8 0 src)=some (Z2 src row,y.set x (row.map (O3 t)),v8 0 (Z2 src row)):=by
 have:=H3 (step:=h05 F (x:Int) y) (fun j=>(Z2 src (row.take j),(j:Int),y.set x ((row.take j).map (O3 t)++row.drop j),v8 0 (Z2 src (row.take j)))) (Z2 src row,y.set x (row.map (O3 t)),v8 0 (Z2 src row)) row.length (fun j C=>.inl ?_) ?_ row.length 0 F O' O'
 ·have e0:y.set x ((row.take 0).map (O3 t)++row.drop 0)=y:=by
   simp only[List.take_zero,map_nil,List.drop_zero,List.nil_append];rw[<-d];refine List.ext_getElem? fun i=>?_
   by_cases e:x=i
   ·subst e;rw[List.getElem?_set_self J,P4 J]
   ·rw[List.getElem?_set_ne e]
  rw[<-this];simp only[e0];rfl
 ·have k:(j:Int)<((gt y (x:Int)).length:Int):=by rw[d];omega
  have h:gt (y.set x ((row.take j).map (O3 t)++row.drop j)) (x:Int)=(row.take j).map (O3 t)++row.drop j:=X2 (List.getElem?_set_self J);have a1:((row.take j).map (O3 t)++row.drop j).length=row.length:=by simp;omega
  have g:y0 ((row.take j).map (O3 t)++row.drop j) (j:Int)=true:=V0 O' O';have p:gt ((row.take j).map (O3 t)++row.drop j) (j:Int)=gt row (j:Int):=by
   refine X2 ?_;rw[List.getElem?_append_right Z'];simp[Nat.min_eq_left (Nat.le_of_lt C),P4 C]
  have u:=i0Q (s:=src) C;have hp:M6 (Z2 src (row.take j)) (gt row (j:Int)) <+: t:=by
   rw[<-u];refine List.IsPrefix.trans ?_ o;have:Z2 src row=Z2 (Z2 src (row.take (j+1))) (row.drop (j+1)):=by rw[<-h0F,List.take_append_drop]
   rw[this];exact k0W _ _
  have c:=E0H (f:=O3 t) C;unfold h05;simp only[k,decide_true,if_true,h,g,p,u,X1 (i:=j) O'];have q:=hp.length_le;generalize Z2 src (row.take j)=s at *;generalize gt row (j:Int)=v at *;rcases m0b hp with⟨h1,m,r⟩|⟨h1,m,r,h4,h5⟩|⟨h1,m,r,h4⟩
  ·have w:(v==-2)=true:=by simpa using h1
   rw[r];simp only[w,if_true,G0];rw[m]at c;have:((row.take j).map (O3 t)++row.drop j).set j (-2)=(row.take j).map (O3 t)++row.drop j:=by
    refine List.ext_getElem? fun i=>?_
    by_cases e:j=i
    ·subst e;rw[List.getElem?_set_self O',P4 O',p,h1]
    ·rw[List.getElem?_set_ne e]
   rw[this]at c;rw[c]
  ·have w:(v==-2)=false:=by simpa using h1
   have hm:J7 (v8 0 s) v=true:=by rw[p0Q];simpa using m
   have hg:=s0m v s 0 m;rw[Nat.zero_add]at hg;rw[r];simp only[q0,w,hm,h,g,hg,Int.toNat_natCast,set_set];rw[h4]at c;rw[c]
  ·have w:(v==-2)=false:=by simpa using h1
   have hm:J7 (v8 0 s) v=false:=by rw[p0Q];simpa using m
   rw[r]at q ⊢;simp only[length_append,length_cons,length_nil]at q;have I:K0 8 s [v]=true:=by simp[K0];omega
   have R:b0f (v8 0 s) v (s.length:Int)=v8 0 (s++[v]):=by rw[u0j _ _ _ hm,u0v,Nat.zero_add]
   simp only[q0,w,hm,I,h,g,R,Int.toNat_natCast,set_set];rw[h4]at c;rw[c]
 ·have k:¬(row.length:Int)<((gt y (x:Int)).length:Int):=by rw[d];omega
  unfold h05;simp only[q0,k,take_length,List.drop_length,append_nil]
def j0f:∀(maps:List (List Int)) (m:Nat),(∀r∈maps,r.length<=m)->maps.flatten.length<=maps.length*m
 |[],m,_=>X'
 |r :: t,m,h=>by
  have h1:=j0f t m (fun x c=>h x (List.mem_cons_of_mem _ c));have d:=h r X';simp only[List.flatten_cons,length_append,length_cons,Nat.succ_mul];omega
def M4 (maps:List (List Int)):List Int:=Z2 [] maps.flatten
def X5 (maps:List (List Int)):List (List Int):=maps.map fun r=>r.map (O3 (M4 maps))
def h0A {maps:List (List Int)}{i:Nat}(hi:i<maps.length):Z2 (Z2 [] (maps.take i).flatten) (gt maps (i:Int))=Z2 [] (maps.take (i+1)).flatten:=by
 rw[<-h0F,take_succ,P4 hi];simp
def w0R (maps:List (List Int))(i:Nat):Z2 [] (maps.take i).flatten <+: M4 maps:=by
 have:M4 maps=Z2 (Z2 [] (maps.take i).flatten) (maps.drop i).flatten:=by
  unfold M4;rw[<-h0F,<-List.flatten_append,List.take_append_drop]
 rw[this];exact k0W _ _
def B0a {fl:Int}{N7:List Int}{maps:List (List Int)}{rk:D2}(k:∀r∈maps,r.length<=1000)(hm:maps.length<=1000)(s:2000<F):
  g0N F (fl,N7,maps,rk)=some (⟨fl,N7,X5 maps,rk⟩,M4 maps):=by
 have p:=j0f maps 1000 k;have c:(M4 maps).length<=1000000:=by
  have:=l0c maps.flatten [];have m:maps.length*1000<=1000*1000:=Nat.mul_le_mul_right _ hm;simp only[length_nil]at this;unfold M4;omega
 unfold g0N;have:=H3 (step:=i0a F maps) (fun i=>(Z2 [] (maps.take i).flatten,(i:Int),(maps.take i).map (fun r=>r.map (O3 (M4 maps)))++maps.drop i,v8 0 (Z2 [] (maps.take i).flatten))) (M4 maps,X5 maps) maps.length (fun i hi=>.inl ?_) ?_ maps.length 0 F O' O'
 ·have m:iter (i0a F maps) F ([],0,maps,[])=some (M4 maps,X5 maps):=this;simp only[m,G0]
 ·have h1:(i:Int)<(maps.length:Int):=O'
  have u:((maps.take i).map (fun r=>r.map (O3 (M4 maps)))++maps.drop i).length=maps.length:=by simp;omega
  have h:y0 ((maps.take i).map (fun r=>r.map (O3 (M4 maps)))++maps.drop i) (i:Int)=true:=V0 O' O';have j:gt ((maps.take i).map (fun r=>r.map (O3 (M4 maps)))++maps.drop i) (i:Int)=gt maps (i:Int):=by
   refine X2 ?_;rw[List.getElem?_append_right Z'];simp[Nat.min_eq_left (Nat.le_of_lt hi),P4 hi]
  have g:=k _ (List.mem_of_getElem? (P4 hi));have d:=C0N (F:=F) (src:=Z2 [] (maps.take i).flatten) (t:=M4 maps) (y:=(maps.take i).map (fun r=>r.map (O3 (M4 maps)))++maps.drop i) (x:=i) O' j (by rw[h0A hi];exact w0R maps (i+1)) c g s;have f:((maps.take i).map (fun r=>r.map (O3 (M4 maps)))++maps.drop i).set i ((gt maps (i:Int)).map (O3 (M4 maps)))=(maps.take (i+1)).map (fun r=>r.map (O3 (M4 maps)))++maps.drop (i+1):=by
   have o:maps.take (i+1)=maps.take i++[gt maps (i:Int)]:=by rw[take_succ,P4 hi];rfl
   have q:i-((maps.take i).map (fun r=>r.map (O3 (M4 maps)))).length=0:=by simp;omega
   rw[List.set_append_right _ _ Z',o,map_append,List.append_assoc,q,List.drop_eq_getElem_cons hi,List.set_cons_zero];rfl
  unfold i0a;simp only[q0,h1,h,d,h0A hi,f,X1 (i:=i) O']
 ·have h1:¬(maps.length:Int)<(maps.length:Int):=O'
  unfold i0a;simp only[q0,h1,take_length,List.drop_length,append_nil];rfl
def D0L {src t:List Int}{y:List (List Int)}{x:Nat}{row:List Int}(d:gt y (x:Int)=row.map (O3 t))(r:Z2 src row <+: t)(hlen:t.length<=1000000)(I:row.length<=1000)(U:2000<F):
  iter (h0x F y (x:Int)) F ((src.length:Int),0)=some (.inr ((Z2 src row).length:Int))/\∀k:F1,iter (g0Q F ⟨k.Flag,k.Places,y,k.Rank⟩ (x:Int)) F ((src.length:Int),0)=some ((Z2 src row).length:Int):=by
 have hp:∀j,j<row.length->M6 (Z2 src (row.take j)) (gt row (j:Int)) <+: t:=fun j m=>by
  rw[<-i0Q m];refine List.IsPrefix.trans ?_ r;have:Z2 src row=Z2 (Z2 src (row.take (j+1))) (row.drop (j+1)):=by rw[<-h0F,List.take_append_drop]
  rw[this];exact k0W _ _
 have J:(row.map (O3 t)).length=row.length:=X'
 have u:∀j,j<row.length->gt (row.map (O3 t)) (j:Int)=O3 t (gt row (j:Int)):=fun j m=>X2 (by rw[List.getElem?_map,P4 m];rfl);refine⟨?_,fun k=>?_⟩
 ·have:=H3 (step:=h0x F y (x:Int)) (fun j=>(((Z2 src (row.take j)).length:Int),(j:Int))) (.inr ((Z2 src row).length:Int)) row.length (fun j m=>.inl ?_) ?_ row.length 0 F O' O'
  ·exact this
  ·have c:(j:Int)<((row.map (O3 t)).length:Int):=O'
   have p:y0 (row.map (O3 t)) (j:Int)=true:=V0 O' c;have h:=hp j m;have g:=h.length_le;unfold h0x;simp only[d,c,decide_true,if_true,p,u j m,i0Q (s:=src) m,X1 (i:=j) O'];generalize Z2 src (row.take j)=s at *;generalize gt row (j:Int)=v at *;rcases m0b h with⟨h1,q,f⟩|⟨h1,q,f,h4,h5⟩|⟨h1,q,f,h4⟩
   ·rw[q,f];rfl
   ·have o:(((s.idxOf v:Nat):Int)==-2)=false:=by rw[beq_eq_false_iff_ne];omega
    have w:¬((s.idxOf v:Nat):Int)<0:=O'
    have C:¬((s.idxOf v:Nat):Int)>(s.length:Int):=O'
    have R:(((s.idxOf v:Nat):Int)==(s.length:Int))=false:=by rw[beq_eq_false_iff_ne];omega
    rw[h4,f];simp only[q0,o,w,C,R]
   ·have o:(((s.length:Nat):Int)==-2)=false:=by rw[beq_eq_false_iff_ne];omega
    have w:¬((s.length:Nat):Int)<0:=O'
    have C:¬((s.length:Nat):Int)>(s.length:Int):=O'
    rw[f]at g;simp only[length_append,length_cons,length_nil]at g;rw[h4,f];simp only[q0,o,w,C,beq_self_eq_true,X1 (i:=s.length) O',length_append,length_cons,length_nil]
  ·have c:¬(row.length:Int)<((row.map (O3 t)).length:Int):=O'
   unfold h0x;simp only[q0,d,c,take_length]
 ·have:=H3 (step:=g0Q F ⟨k.Flag,k.Places,y,k.Rank⟩ (x:Int)) (fun j=>(((Z2 src (row.take j)).length:Int),(j:Int))) ((Z2 src row).length:Int) row.length (fun j m=>.inl ?_) ?_ row.length 0 F O' O'
  ·exact this
  ·have c:(j:Int)<((row.map (O3 t)).length:Int):=O'
   have p:y0 (row.map (O3 t)) (j:Int)=true:=V0 O' c;have h:=hp j m;have g:=h.length_le;unfold g0Q;simp only[d,c,decide_true,if_true,p,u j m,i0Q (s:=src) m,X1 (i:=j) O'];generalize Z2 src (row.take j)=s at *;generalize gt row (j:Int)=v at *;rcases m0b h with⟨h1,q,f⟩|⟨h1,q,f,h4,h5⟩|⟨h1,q,f,h4⟩
   ·have o:¬(W (-2+1)>(s.length:Int)):=by rw[E3 O' O'];omega
    rw[q,f,if_neg o]
   ·rw[f]at g;have o:¬(W (((s.idxOf v:Nat):Int)+1)>(s.length:Int)):=by rw[E3 O' O'];omega
    rw[h4,f,if_neg o]
   ·rw[f]at g;simp only[length_append,length_cons,length_nil]at g;have o:(W (((s.length:Nat):Int)+1)>(s.length:Int)):=by rw[E3 O' O'];omega
    rw[h4,f,if_pos o,X1 (i:=s.length) O'];simp
  ·have c:¬(row.length:Int)<((row.map (O3 t)).length:Int):=O'
   unfold g0Q;simp only[q0,d,c,take_length]
def A07 {maps:List (List Int)}{tags:Nat}(p:∀r∈maps,r.length=tags)(v:tags<=1000)(hm:maps.length<=1000)(u:2000<F)(k:F1):
  g07 F (X5 maps) (tags:Int)=some true/\c0k F ⟨k.Flag,k.Places,X5 maps,k.Rank⟩=some ((M4 maps).length:Int):=by
 have s:=j0f maps 1000 (fun r h=>by have:=p r h;omega);have f:(M4 maps).length<=1000000:=by
  have:=l0c maps.flatten [];have m:maps.length*1000<=1000*1000:=Nat.mul_le_mul_right _ hm;simp only[length_nil]at this;unfold M4;omega
 have q:(X5 maps).length=maps.length:=by simp[X5]
 have j:∀i,i<maps.length->gt (X5 maps) (i:Int)=(gt maps (i:Int)).map (O3 (M4 maps)):=fun i hi=>X2 (by unfold X5;rw[List.getElem?_map,P4 hi];rfl);have c:∀i,i<maps.length->_:=fun i hi=>D0L (F:=F) (src:=Z2 [] (maps.take i).flatten) (t:=M4 maps) (y:=X5 maps) (x:=i) (j i hi) (by rw[h0A hi];exact w0R maps (i+1)) f (by have:=p _ (List.mem_of_getElem? (P4 hi));omega) u;have g:Z2 [] (maps.take maps.length).flatten=M4 maps:=by rw[take_length];rfl
 constructor
 ·unfold g07;have:=H3 (step:=i0p F (X5 maps) (tags:Int)) (fun i=>(((Z2 [] (maps.take i).flatten).length:Int),(i:Int))) (.inr ()) maps.length (fun i hi=>.inl ?_) ?_ maps.length 0 F O' O'
  ·have m:iter (i0p F (X5 maps) (tags:Int)) F (0,0)=some (.inr ()):=this;rw[m];rfl
  ·have h1:(i:Int)<((X5 maps).length:Int):=O'
   have d:y0 (X5 maps) (i:Int)=true:=V0 O' h1;have hl:=p _ (List.mem_of_getElem? (P4 hi));have o:(((gt (X5 maps) (i:Int)).length:Int) != (tags:Int))=false:=by rw[j i hi];simp[hl]
   unfold i0p;simp only[q0,h1,d,o,(c i hi).1,h0A hi,X1 (i:=i) O']
  ·have h1:¬(maps.length:Int)<((X5 maps).length:Int):=O'
   unfold i0p;simp only[q0,h1]
 ·unfold c0k;have:=H3 (step:=h0f F ⟨k.Flag,k.Places,X5 maps,k.Rank⟩) (fun i=>(((Z2 [] (maps.take i).flatten).length:Int),(i:Int))) ((M4 maps).length:Int) maps.length (fun i hi=>.inl ?_) ?_ maps.length 0 F O' O'
  ·have m:iter (h0f F ⟨k.Flag,k.Places,X5 maps,k.Rank⟩) F (0,0)=some ((M4 maps).length:Int):=this;rw[m];rfl
  ·have h1:(i:Int)<((X5 maps).length:Int):=O'
   have d:y0 (X5 maps) (i:Int)=true:=V0 O' h1;unfold h0f;simp only[q0,h1,d,(c i hi).2 k,h0A hi,X1 (i:=i) O']
  ·have h1:¬(maps.length:Int)<((X5 maps).length:Int):=O'
   unfold h0f;simp only[q0,h1,g]
end
structure Cs where
 at_:Int
 work:Int
 pl:List Nat
 vals:List (List Int)
 fB:Nat->Nat->Int
 fD:Nat->Nat->Int
def Cs.zero:Cs:=⟨0,0,[],[],fun _ _=>0,fun _ _=>0⟩
def Cs.step (l:List C0)(n:Nat)(a:List B0)(b:Nat->List B0)(s:Cs)(b_:Int)(E0:Bool):Cs:=
 ⟨s.at_+1,s.work+stW l n a b s.pl b_ E0,Z3 l n a b s.pl b_ E0,(Z3 l n a b s.pl b_ E0).map (stV l a b s.at_ s.pl s.vals s.fB s.fD E0),
  u6 l (F5 s.pl E0 s.fB) ((Z3 l n a b s.pl b_ E0).map (T5 a b s.pl s.fB s.fD E0)) ((Z3 l n a b s.pl b_ E0).map (V5 a b s.pl s.fB s.fD E0)),
  Q6 l (F5 s.pl E0 s.fB) (a6 s.pl E0 s.fD) ((Z3 l n a b s.pl b_ E0).map (T5 a b s.pl s.fB s.fD E0)) ((Z3 l n a b s.pl b_ E0).map (V5 a b s.pl s.fB s.fD E0))⟩
def Cs.L0 (s:Cs)(from_:Int):Cs:=
 let st:=A0v s.vals from_ s.pl.length
 ⟨s.at_,s.work,st.map fun i=>s.pl.getD i 0,st.map fun i:Nat=>gt s.vals (i:Int),fun i k=>s.fB (st.getD i 0) (st.getD k 0),fun i k=>s.fD (st.getD i 0) (st.getD k 0)⟩
section
variable (l:List C0)(n:Nat)(a:List B0)(b:Nat->List B0)(e:Nat->B0×Bool)(z:B0×Bool)
def Cs.P6 (s:Cs):List Int×Bool:=B0o l e s.at_ s.pl s.vals s.fD
end
structure w04 (l:List C0)(n:Nat)(s:Cs)(i:Nat):Prop where
 ok:R3 l n s.pl s.vals s.fB s.fD
 a0:s.at_=i
 w0:0<=s.work
 w1:s.work<=1000000*i
section
variable {F:Nat}{l:List C0}{n:Nat}{a:List B0}{b:Nat->List B0}{e:Nat->B0×Bool}{z:B0×Bool}
end
section
variable {F:Nat}{l:List C0}{n:Nat}{a:List B0}{b:Nat->List B0}{e:Nat->B0×Bool}{z:B0×Bool}
end
structure Hs where
 c:Cs
 tags:List Int
 to:Int
 is:Bool
section
variable (l:List C0)(n:Nat)(a:List B0)(b:Nat->List B0)(e:Nat->B0×Bool)(z:B0×Bool)
def Hs.zero:Hs:=⟨Cs.zero,(s0N l z 0).1,0,(s0N l z 0).2⟩
def Hs.j0o (h:Hs)(b_:Int):Cs:=h.c.step l n a b b_ (h.c.at_==0||!h.is)
end
def Hs.over (h:Hs):Bool:=h.is&&(h.c.pl.length==0&&decide (h.c.at_>0))
structure B0U (l:List C0)(n:Nat)(h:Hs)(i:Nat):Prop where
 c:w04 l n h.c i
 t0:0<=h.to
 len:h.tags.length<=1000
 pos:∀v∈h.c.vals,0<=gt v 0
 is:h.is=true->h.tags.length=(C4 l).toNat/\0<=gt h.tags 0/\∀v∈h.c.vals,gt v 0<=gt h.tags 0
section
variable {F:Nat}{l:List C0}{n:Nat}{a:List B0}{b:Nat->List B0}{e:Nat->B0×Bool}{z:B0×Bool}
def B0i (p:List Nat):(((p.length:Int))==0)=(p.length==0):=by rw[Bool.eq_iff_iff];simp
end
def l0H {o:List Int}{j m:Nat}{x:Int}:gt (o.set j x) (m:Int)=gt o (m:Int)\/gt (o.set j x) (m:Int)=x:=by
 unfold gt;rw[List.getD_eq_getElem?_getD,List.getD_eq_getElem?_getD];simp only[Int.toNat_natCast]
 by_cases e:j=m
 ·subst e
  by_cases h:j<o.length
  ·right;rw[List.getElem?_set_self h];rfl
  ·left;rw[List.set_eq_of_length_le O']
 ·left;rw[List.getElem?_set_ne e]
def E0m (now none_:Int)(o:List Int)(k:J2)(m:Nat):gt (T4 now none_ o k) (m:Int)=gt o (m:Int)\/gt (T4 now none_ o k) (m:Int)=now\/gt (T4 now none_ o k) (m:Int)=none_:=by
 unfold T4;split
 ·exact .inl rfl
 ·split
  ·rcases l0H (o:=o) (j:=(2*k.Group-1).toNat) (m:=m) (x:=now)with h|h
   ·exact .inl h
   ·exact .inr (.inl h)
  ·split
   ·rcases l0H (o:=o) (j:=(2*k.Group).toNat) (m:=m) (x:=now)with h|h
    ·exact .inl h
    ·exact .inr (.inl h)
   ·split
    ·rcases l0H (o:=o.set (2*k.Group-1).toNat none_) (j:=(2*k.Group).toNat) (m:=m) (x:=none_)with h|h
     ·rw[h];rcases l0H (o:=o) (j:=(2*k.Group-1).toNat) (m:=m) (x:=none_)with h|h
      ·exact .inl h
      ·exact .inr (.inr h)
     ·exact .inr (.inr h)
    ·exact .inl rfl
def q0e (now none_:Int)(m:Nat):∀(marks:List J2) (o:List Int),gt (Z9 now none_ o marks) (m:Int)=gt o (m:Int)\/gt (Z9 now none_ o marks) (m:Int)=now\/gt (Z9 now none_ o marks) (m:Int)=none_
 |[],o=>.inl rfl
 |k :: r,o=>by
  have h:=q0e now none_ m r (T4 now none_ o k);have e:Z9 now none_ o (k :: r)=Z9 now none_ (T4 now none_ o k) r:=rfl;rw[e];rcases h with h|h
  ·rw[h];exact E0m now none_ o k m
  ·exact .inr h
structure Inv (l:List C0)(may:Nat->Bool)(i:Nat)(vals:List (List Int))(fB fD:Nat->Nat->Int):Prop where
 first:∀v∈vals,∃j:Nat,j<i/\gt v 0=(j:Int)/\may j=true
 rest:∀v∈vals,∀m:Nat,1<=m->m<(C4 l).toNat->gt v (m:Int)=-1\/(gt v 0<=gt v (m:Int)/\gt v (m:Int)<(i:Int))
 ahead:∀k m:Nat,k<vals.length->m<vals.length->gt (gt vals (k:Int)) 0≠gt (gt vals (m:Int)) 0->fB k m=0/\(0<fD k m↔gt (gt vals (k:Int)) 0<gt (gt vals (m:Int)) 0)
section
variable {F:Nat}{l:List C0}{n:Nat}{a:List B0}{b:Nat->List B0}{e:Nat->B0×Bool}{z:B0×Bool}
end
abbrev q0O (vals:List (List Int))(x:Nat):Int:=gt (gt vals (x:Int)) 0
def E0Y (vals:List (List Int))(fB:Nat->Nat->Int):Prop:=∀k m:Nat,k<vals.length->m<vals.length->k≠m->q0O vals k=q0O vals m->0<fB k m
section
variable {F:Nat}{l:List C0}{n:Nat}{a:List B0}{b:Nat->List B0}{e:Nat->B0×Bool}{z:B0×Bool}
end
section
variable {vals:List (List Int)}{fD:Nat->Nat->Int}
end
