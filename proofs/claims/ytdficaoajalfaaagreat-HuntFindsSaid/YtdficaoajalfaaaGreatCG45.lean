/- P. Its conditions: none. -/
import Derived.Test.YtdficaoajalfaaaGreatCG44
open Bool (false_eq_true)
open List (append_nil mem_map map_append map_cons map_nil)
set_option linter.all false
namespace Go.Proofs.YtdficaoajalfaaaGreat
open Go.V Go.RowKit Old Go.X
section
variable {F:Nat}{l:List C0}{n:Nat}
def A6 (l:List C0)(d:Nat->Bool)(c:List (List y0))(i j r:Nat):E7:=
 if d r then⟨J2 (N1 c r i++if(J5 ((c.getD i []).take j) r).isSome then[i]else[]),(n5 c r i++if(J5 ((c.getD i []).take j) r).isSome then[l7 ((c.getD i []).take j) r]else[]).map (Q2 l),n5 c r i++if(J5 ((c.getD i []).take j) r).isSome then[l7 ((c.getD i []).take j) r]else[]⟩else⟨[],[],[]⟩
def D0K {ws:List y0}{j r:Nat}(c:j<ws.length)(h:(gt ws (j:Int)).To≠(r:Int)):J5 (ws.take (j+1)) r=J5 (ws.take j) r:=by
 unfold J5;rw[List.take_succ,u6 c,List.find?_append];simp[List.find?_cons,h]
def E0C {n:Nat}{ws:List y0}(hw:j8 n ws){j r:Nat}(d:j<ws.length)(h:(gt ws (j:Int)).To=(r:Int)):J5 (ws.take (j+1)) r=some (gt ws (j:Int))/\J5 (ws.take j) r=none:=by
 have c:J5 (ws.take j) r=none:=by
  unfold J5;rw[List.find?_eq_none];intro x f;obtain⟨i,hi,he⟩:=List.mem_iff_getElem.1 f;simp only[List.length_take]at hi;have hd:=List.pairwise_iff_getElem.1 hw.dist i j O' d O';rw[List.getElem_take]at he;rw[<-he];have g:gt ws (j:Int)=ws[j]:=B4 (by simp[d]);rw[g]at h;simp only[beq_iff_eq];omega
 refine⟨?_,c⟩;unfold J5 at c ⊢;rw[List.take_succ,u6 d,List.find?_append,c];simp[h]
def l0t {β:Type}{n:Nat}{f g:Nat->β}(h:∀r,r<n->f r=g r):(List.range n).map f=(List.range n).map g:=List.map_congr_left fun r c=>h r (List.mem_range.1 c)
def p0g (l:List C0)(d:Nat->Bool)(c:List (List y0))(i r:Nat):A6 l d c i 0 r=if d r then⟨J2 (N1 c r i),(n5 c r i).map (Q2 l),n5 c r i⟩else⟨[],[],[]⟩:=by
 unfold A6;have:J5 ((c.getD i []).take 0) r=none:=rfl;simp only[this,Option.isSome_none,false_eq_true,if_false,append_nil]
def B0J (l:List C0)(d:Nat->Bool)(c:List (List y0))(i r:Nat):A6 l d c i (c.getD i []).length r=A6 l d c (i+1) 0 r:=by
 rw[p0g];unfold A6;rw[List.take_length,t00,E0o]
def setOf (l:List C0){n:Nat}(hn:n=L0 l l.length)(hw:∀x∈l,o3 x){r:Nat}(g:r<n):B0 ((L2 l l.length).map fun q=>(gt l q).Set) (r:Int)=true/\gtZ 4 ((L2 l l.length).map fun q=>(gt l q).Set) (r:Int)=(gt l (gt (L2 l l.length) (r:Int))).Set/\
  ((gt l (gt (L2 l l.length) (r:Int))).Set.length=4/\∀y∈(gt l (gt (L2 l l.length) (r:Int))).Set,Z5 .u64 y):=by
 obtain⟨q,d,c,f⟩:=n0J l hn (x:=(r:Int)) O' O';have hlen:=I9 l l.length;refine⟨R0 O' Z',?_,?_⟩
 ·unfold gtZ;have:(L2 l l.length)[r]?=some (gt (L2 l l.length) (r:Int)):=u6 O';exact @B4 _ ⟨List.replicate 4 0⟩ _ _ _ (by rw[List.getElem?_map,this];rfl)
 ·rw[c];have:=hw _ (List.mem_of_getElem? (u6 (l:=l) (i:=q) d));exact this.2.2.2.2
def Z2 (l:List C0)(b_:Int)(r:Nat):Bool:=hasB (gt l (gt (L2 l l.length) (r:Int))).Set b_
def z0G {a:List y0}{b:Nat->List y0}{e:Nat->y0×Bool}{z:y0×Bool}(hw:∀x∈l,o3 x)(hn:n=L0 l l.length)(b1:n<=400)(hf:2000001<F){c:N3}(hc:c.chart=Y6 l n a b e z){g:W8}{b_:Int}(hb:Z5 .u8 b_)
  {d:List (List y0)} (hW:∀i,i<d.length->j8 n (d.getD i [])/\(d.getD i []).length<=500000) (hM:d.length<=1000) (hg:g.roads=d.map fun w=>w.map (Q2 l)) {i:Nat} (hi:i<d.length):
  iter (h0K F c g b_ (i:Int)) F (0,(List.range n).map (A6 l (Z2 l b_) d i 0))=some ((List.range n).map (A6 l (Z2 l b_) d (i+1) 0)):=by
 obtain⟨o,hlen⟩:=hW i hi;have m:gt g.roads (i:Int)=(d.getD i []).map (Q2 l):=by
  rw[hg];refine B4 ?_;rw[List.getElem?_map,show d.getD i []=d[i]from by simp[List.getD,hi],List.getElem?_eq_getElem hi];rfl
 generalize f:d.getD i []=ws at *;have:=R4 (step:=h0K F c g b_ (i:Int)) (fun j=>((j:Int),(List.range n).map (A6 l (Z2 l b_) d i j))) ((List.range n).map (A6 l (Z2 l b_) d (i+1) 0)) ws.length (fun j v=>.inl ?_) ?_ ws.length 0 F O' O'
 ·exact this
 ·have hk:=o.ok _ (List.mem_of_getElem? (u6 v));obtain⟨r,y⟩:∃r:Nat,(gt ws (j:Int)).To=r:=⟨(gt ws (j:Int)).To.toNat,by have:=hk.1;omega⟩
  have k:r<n:=by have:=hk.2.1;omega
  obtain⟨s1,s2,s3⟩:=setOf l hn hw k;obtain⟨t1,t2⟩:=E0C o v y;have u:∀q,q≠r->A6 l (Z2 l b_) d i (j+1) q=A6 l (Z2 l b_) d i j q:=fun q h=>by
   have e:=D0K (ws:=ws) (j:=j) (r:=q) v (by rw[y];omega);unfold A6 l7;rw[f,e]
  have p:(j:Int)<((ws.map (Q2 l)).length:Int):=by simp;omega
  have I:gt (ws.map (Q2 l)) (j:Int)=Q2 l (gt ws (j:Int)):=B4 (by rw[List.getElem?_map,u6 v];rfl);have U:B0 (ws.map (Q2 l)) (j:Int)=true:=R0 O' p;have s:(Q2 l (gt ws (j:Int))).Hop.To=(r:Int):=y;unfold h0K;simp only[q0,m,p,U,I,s,hc,Y6,s1,s2,(p0t F s3 hb).1,G3 (i:=j) O'];have hH:hasB (gt l (gt (L2 l l.length) (r:Int))).Set b_=Z2 l b_ r:=rfl;rw[hH];cases J:Z2 l b_ r with
  |false=>
   simp only[q0];congr 1;congr 1;congr 1;refine l0t fun q _=>?_
   by_cases h:q=r
   ·subst h;unfold A6;rw[J];rfl
   ·exact(u q h).symm
  |true=>
   have b2:=n0s d r i;have b3:=n0a d r i;have t:A6 l (Z2 l b_) d i j r=⟨J2 (N1 d r i),(n5 d r i).map (Q2 l),n5 d r i⟩:=by
    unfold A6;rw[J,f,t2];simp
   have R:I0 8 (J2 (N1 d r i)) [(i:Int)]=true:=by simp[I0];omega
   have C:I0 64 ((n5 d r i).map (Q2 l)) [Q2 l (gt ws (j:Int))]=true:=by simp[I0];omega
   have a1:I0 40 (n5 d r i) [(Q2 l (gt ws (j:Int))).Hop]=true:=by simp[I0];omega
   simp only[q0,g0n k,g0l k,t,R,v0W,Int.toNat_natCast,C,a1];congr 1;congr 1;congr 1;refine l0t fun q _=>?_
   by_cases h:q=r
   ·subst h;simp only[if_true];unfold A6;rw[J,f,t1,l7,t1];simp[o0h,Q2]
   ·simp only[h,if_false];exact(u q h).symm
 ·unfold h0K;have h1:¬((ws.length:Int)<((ws.map (Q2 l)).length:Int)):=Z9
  simp only[q0,m,h1];congr 1;congr 1;refine l0t fun q _=>?_;rw[<-f,B0J]
def D0M {a:List y0}{b:Nat->List y0}{e:Nat->y0×Bool}{z:y0×Bool}(hw:∀x∈l,o3 x)(hn:n=L0 l l.length)(h:n<=400)(s:2000001<F){c:N3}(o:c.chart=Y6 l n a b e z){g:W8}{b_:Int}(p:Z5 .u8 b_)
  {d:List (List y0)} (t:∀i,i<d.length->j8 n (d.getD i [])/\(d.getD i []).length<=500000) (q:d.length<=1000) (hg:g.roads=d.map fun w=>w.map (Q2 l)):
  g0D F c g b_=some ((List.range n).map (A6 l (Z2 l b_) d d.length 0),c):=by
 have f:(c.chart.sets.length:Int)=(n:Int):=by rw[o];simp only[Y6,List.length_map,I9];omega
 have k:V2 72 (n:Int)=true:=by simp[V2];omega
 have j:List.replicate n (⟨[],[],[]⟩:E7)=(List.range n).map (A6 l (Z2 l b_) d 0 0):=by
  refine List.ext_getElem Z9 fun r h1 m=>?_;simp only[List.getElem_replicate,List.getElem_map,List.getElem_range,p0g];split
  ·rfl
  ·rfl
 unfold g0D;rw[f,k];simp only[if_true,Int.toNat_natCast];have:=R4 (step:=h0b F c g b_) (fun i=>((i:Int),(List.range n).map (A6 l (Z2 l b_) d i 0))) ((List.range n).map (A6 l (Z2 l b_) d d.length 0)) d.length (fun i hi=>.inl ?_) ?_ d.length 0 F O' O'
 ·have m:iter (h0b F c g b_) F (0,(List.range n).map (A6 l (Z2 l b_) d 0 0))=_:=this;rw[j,m];rfl
 ·unfold h0b;have h1:(i:Int)<(g.roads.length:Int):=by rw[hg];simp;omega
  simp only[q0,h1,R0 (l:=g.roads) (i:=(i:Int)) O' h1,z0G hw hn h s o p t q hg hi,G3 (i:=i) O']
 ·unfold h0b;have h1:¬((d.length:Int)<(g.roads.length:Int)):=by rw[hg];simp
  simp only[q0,h1]
end
def F0 (a:List y0)(b:Nat->List y0)(pl:List Nat)(beg:Bool):List (List y0):=pl.map b++if beg then[a]else[]
def E9 (l:List C0)(at_:Int)(vals:List (List Int))(beg:Bool):List (List Int):=vals++if beg then[O7 l at_]else[]
def A5 (pl:List Nat)(beg:Bool):Nat:=if beg then pl.length+1 else pl.length
def Y2 (pl:List Nat)(beg:Bool)(fB:Nat->Nat->Int):Nat->Nat->Int:=if beg then c06 pl.length fB else fB
def j4 (pl:List Nat)(beg:Bool)(fD:Nat->Nat->Int):Nat->Nat->Int:=if beg then c0E pl.length fD else fD
def b0b (a:List y0)(b:Nat->List y0)(pl:List Nat)(beg:Bool):(F0 a b pl beg).length=A5 pl beg:=by unfold F0 A5;cases beg<;>simp
section
variable {F:Nat}{l:List C0}{n:Nat}{a:List y0}{b:Nat->List y0}{e:Nat->y0×Bool}{z:y0×Bool}{at_ work:Int}{pl:List Nat}{vals:List (List Int)}{fB fD:Nat->Nat->Int}
def r0P (C:F6 l n pl vals fB fD)(beg:Bool):(E9 l at_ vals beg).length=A5 pl beg:=by unfold E9 A5;cases beg<;>simp[C.len]
def g03 (C:F6 l n pl vals fB fD)(beg:Bool):a0s (A5 pl beg) (Y2 pl beg fB) (j4 pl beg fD):=by
 unfold A5 Y2 j4;cases beg with
 |false=>exact C.rk
 |true=>exact A0t C.rk
def u0H (C:F6 l n pl vals fB fD)(beg:Bool):∀v∈E9 l at_ vals beg,v.length=(l5 l).toNat:=by
 intro v c;unfold E9 at c;rcases List.mem_append.1 c with h|h
 ·exact C.row v h
 ·cases beg with
  |false=>simp at h
  |true=>simp at h;subst h;exact k0w l at_
def g0i (K:H5 l n a b e z F)(C:F6 l n pl vals fB fD)(beg:Bool):∀i,i<(F0 a b pl beg).length->j8 n ((F0 a b pl beg).getD i [])/\((F0 a b pl beg).getD i []).length<=500000/\(∀h∈(F0 a b pl beg).getD i [],a0L n h)/\N8 800 ((F0 a b pl beg).getD i []):=by
 intro i hi;have hm:(F0 a b pl beg).getD i []∈F0 a b pl beg:=by
  rw[show(F0 a b pl beg).getD i []=(F0 a b pl beg)[i]from by simp[List.getD,hi]];exact List.getElem_mem hi
 have hop:∀{ws:List y0},j8 n ws->a0m ws->∀h∈ws,a0L n h:=fun hw d h c=>⟨(hw.ok h c).1,(hw.ok h c).2.1,(d h c).1,(d h c).2⟩
 generalize (F0 a b pl beg).getD i []=ws at *;unfold F0 at hm;rcases List.mem_append.1 hm with h|h
 ·obtain⟨p,hp,rfl⟩:=mem_map.1 h;have:=C.pln p hp;exact⟨K.T.bw p this,K.T.bl p this,hop (K.T.bw p this) (K.T.bT p this),K.T.bb p this⟩
 ·cases beg with
  |false=>simp at h
  |true=>simp at h;subst h;exact⟨K.T.aw,K.T.al,hop K.T.aw K.T.aT,K.T.ab⟩
def y0e (K:H5 l n a b e z F)(C:F6 l n pl vals fB fD)(beg:Bool):f0s F (B7 l n a b e z at_ work pl vals fB fD) beg =
  some (⟨E9 l at_ vals beg,(F0 a b pl beg).map (fun w=>w.map (Q2 l)),D3 (A5 pl beg) (Y2 pl beg fB) (j4 pl beg fD)⟩,B7 l n a b e z at_ work pl vals fB fD):=by
 have f1:=K.f1;have hm:=C.le;have hn:=K.T.n64;have h:=C.len;unfold f0s h0D;have c:I0 24 ([]:List (List Int)) vals=true:=by simp[I0];omega
 rw[c0y];simp only[B7,c,if_true,G0];have:=R4 (step:=f0x F (B7 l n a b e z at_ work pl vals fB fD)) (fun i=>((i:Int),(vals,(pl.take i).map (fun p=>(b p).map (Q2 l)),D3 pl.length fB fD))) (vals,pl.map (fun p=>(b p).map (Q2 l)),D3 pl.length fB fD) pl.length (fun i hi=>.inl ?_) ?_ pl.length 0 F O' O'
 ·have j:iter (f0x F ⟨Y6 l n a b e z,at_,work,J2 pl,vals,D3 pl.length fB fD⟩) F (0,(vals,[],D3 pl.length fB fD))=_:=this;rw[j];simp only[G0];unfold E9 F0 A5 Y2 j4;cases beg with
  |false=>simp
  |true=>
   have g:I0 24 vals [O7 l at_]=true:=by simp[I0];omega
   have f:I0 24 (pl.map fun p=>(b p).map (Q2 l)) [a.map (Q2 l)]=true:=by simp[I0];omega
   have k:=q0J K ⟨Y6 l n a b e z,at_,work,J2 pl,vals,D3 pl.length fB fD⟩ rfl;have d:(Y6 l n a b e z).begin=a.map (Q2 l):=rfl;simp only[if_true,k,G0,g,d,f,x0d (show pl.length<=900 from O') (show 2000<F from O') C.rk,map_append,List.map_map,map_cons,map_nil,Function.comp_def]
 ·unfold f0x;have h1:(i:Int)<((J2 pl).length:Int):=by simp;omega
  have hp:=E8 C.pln hi;have c:I0 24 ((pl.take i).map (fun p=>(b p).map (Q2 l))) [(b (pl.getD i 0)).map (Q2 l)]=true:=by simp[I0];omega
  have m:pl.take (i+1)=pl.take i++[pl.getD i 0]:=by rw[p0m hi];simp[List.getD,hi]
  simp only[B7,h1,decide_true,if_true,a0h hi,a0G hi,Y6,g0n hp,g0l hp,c,m,map_append,map_cons,map_nil,G3 (i:=i) O']
 ·unfold f0x;have h1:¬((pl.length:Int)<((J2 pl).length:Int)):=Z9
  simp only[q0,B7,h1,List.take_length]
def F1 (l:List C0)(n:Nat)(a:List y0)(b:Nat->List y0)(pl:List Nat)(b_:Int)(beg:Bool):List Nat:=X5 (Z2 l b_) (F0 a b pl beg) n
def F4 (a:List y0)(b:Nat->List y0)(pl:List Nat)(fB fD:Nat->Nat->Int)(beg:Bool)(r:Nat):Nat:=d0W (Y2 pl beg fB) (j4 pl beg fD) (F0 a b pl beg) r
def K4 (a:List y0)(b:Nat->List y0)(pl:List Nat)(fB fD:Nat->Nat->Int)(beg:Bool)(r:Nat):y0:=g01 (Y2 pl beg fB) (j4 pl beg fD) (F0 a b pl beg) r
def stV (l:List C0)(a:List y0)(b:Nat->List y0)(at_:Int)(pl:List Nat)(vals:List (List Int))(fB fD:Nat->Nat->Int)(beg:Bool)(r:Nat):List Int:=
 S6 at_ (-1) (gt (E9 l at_ vals beg) (F4 a b pl fB fD beg r:Int)) (N4 l (K4 a b pl fB fD beg r).Steps)
def stW (l:List C0)(n:Nat)(a:List y0)(b:Nat->List y0)(pl:List Nat)(b_:Int)(beg:Bool):Int:=
 (Q7 (Z2 l b_) (F0 a b pl beg) n:Int)+(((F1 l n a b pl b_ beg).length:Int)*l5 l+((F1 l n a b pl b_ beg).length:Int)*((F1 l n a b pl b_ beg).length:Int))
def d0n {b_:Int}{beg:Bool}{r:Nat}(h:r∈F1 l n a b pl b_ beg):r<n/\N1 (F0 a b pl beg) r (F0 a b pl beg).length≠[]:=⟨w0c h,(u0u h).2⟩
def r0Q {b_:Int}{beg:Bool}:(F1 l n a b pl b_ beg).length<=n:=t0k _ _ _
def u0q (K:H5 l n a b e z F)(C:F6 l n pl vals fB fD)(b_:Int)(beg:Bool):k0X l n (A5 pl beg) ((F1 l n a b pl b_ beg).map (F4 a b pl fB fD beg)) ((F1 l n a b pl b_ beg).map (K4 a b pl fB fD beg)) where
 lt i hi:=by
  obtain⟨r,c,rfl⟩:=mem_map.1 hi;rw[<-b0b a b];exact g0V (d0n c).2
 len:=Z9
 le:=by have:=r0Q (l:=l) (n:=n) (a:=a) (b:=b) (pl:=pl) (b_:=b_) (beg:=beg);have:=K.T.n64;simp;omega
 hop x d:=by
  obtain⟨r,c,rfl⟩:=mem_map.1 d;have hm:=j08 (fB:=Y2 pl beg fB) (fD:=j4 pl beg fD) (d0n c).2;exact(g0i K C beg _ (g0V (d0n c).2)).2.2.1 _ hm.1
 asc:=by
  rw[List.pairwise_map];refine(n0W _ _ _).imp_of_mem fun {x y} d h g=>?_;have h1:=(j08 (fB:=Y2 pl beg fB) (fD:=j4 pl beg fD) (d0n d).2).2;have f:=(j08 (fB:=Y2 pl beg fB) (fD:=j4 pl beg fD) (d0n h).2).2;unfold K4;rw[h1,f];omega
def r0W {V:List (List Int)}{m:Nat}(h:∀v∈V,v.length=(l5 l).toNat)(hl:V.length=m){k:Nat}(hk:k<m):(gt V (k:Int)).length=(l5 l).toNat/\B0 V (k:Int)=true:=
 ⟨h _ (List.mem_of_getElem? (u6 O')),R0 O' O'⟩
def p0i (K:H5 l n a b e z F)(C:F6 l n pl vals fB fD)(hw:∀x∈l,o3 x)(b_:Int)(beg:Bool):
  F6 l n (F1 l n a b pl b_ beg) ((F1 l n a b pl b_ beg).map (stV l a b at_ pl vals fB fD beg)) (P5 l (Y2 pl beg fB) ((F1 l n a b pl b_ beg).map (F4 a b pl fB fD beg)) ((F1 l n a b pl b_ beg).map (K4 a b pl fB fD beg))) (N6 l (Y2 pl beg fB) (j4 pl beg fD) ((F1 l n a b pl b_ beg).map (F4 a b pl fB fD beg)) ((F1 l n a b pl b_ beg).map (K4 a b pl fB fD beg))) where
 len:=Z9
 pln r c:=(d0n c).1
 asc:=n0W _ _ _
 row v hv:=by
  obtain⟨r,c,rfl⟩:=mem_map.1 hv;unfold stV;rw[h0s];exact(r0W (u0H C beg) (r0P C beg) (by rw[<-b0b a b];exact g0V (d0n c).2)).1
 rk:=by
  have g:=u0q K C b_ beg;have:=p0k hw K.hR K.hn (g03 C beg) g.lt g.len g.hop g.asc;simpa using this
def t09 (K:H5 l n a b e z F)(C:F6 l n pl vals fB fD)(b_:Int)(beg:Bool):0<=stW l n a b pl b_ beg/\stW l n a b pl b_ beg<=1000000/\(Q7 (Z2 l b_) (F0 a b pl beg) n:Int)<=200000/\0<=((F1 l n a b pl b_ beg).length:Int)*l5 l/\((F1 l n a b pl b_ beg).length:Int)*l5 l<=10000/\0<=((F1 l n a b pl b_ beg).length:Int)*((F1 l n a b pl b_ beg).length:Int)/\((F1 l n a b pl b_ beg).length:Int)*((F1 l n a b pl b_ beg).length:Int)<=160000:=by
 have hm:=C.le;have hn:=K.T.n64;have h1:=n0M (Z2 l b_) (F0 a b pl beg) n;have c:(F0 a b pl beg).length<=401:=by rw[b0b];unfold A5;split<;>omega
 have f:n*(F0 a b pl beg).length<=400*401:=Nat.mul_le_mul hn c;have k:=r0Q (l:=l) (n:=n) (a:=a) (b:=b) (pl:=pl) (b_:=b_) (beg:=beg);have d:=f0m l;unfold stW;generalize (F1 l n a b pl b_ beg).length=p at *;have j:(p:Int)*l5 l<=400*19:=Int.mul_le_mul O' d.2 O' O';have h:(p:Int)*(p:Int)<=400*400:=Int.mul_le_mul O' O' O' O';have i:0<=(p:Int)*l5 l:=Int.mul_nonneg O' O';have g:0<=(p:Int)*(p:Int):=Int.mul_nonneg O' O';generalize (p:Int)*l5 l=x at *;generalize (p:Int)*(p:Int)=y at *;refine⟨O',O',O',O',O',O',O'⟩
end
section
variable {F:Nat}{l:List C0}{n:Nat}{a:List y0}{b:Nat->List y0}{e:Nat->y0×Bool}{z:y0×Bool}{at_ work:Int}{pl:List Nat}{vals:List (List Int)}{fB fD:Nat->Nat->Int}
def D0R (K:H5 l n a b e z F)(C:F6 l n pl vals fB fD)(beg:Bool)(r:Nat):(N1 (F0 a b pl beg) r (F0 a b pl beg).length).length<=500/\∀i∈N1 (F0 a b pl beg) r (F0 a b pl beg).length,i<A5 pl beg:=by
 have hm:=C.le;have hn:=K.T.n64;have h1:=n0s (F0 a b pl beg) r (F0 a b pl beg).length;rw[b0b]at h1;refine⟨by
       have:A5 pl beg<=pl.length+1:=by unfold A5;split<;>omega
       rw[b0b];omega,fun i hi=>?_⟩
 rw[<-b0b a b];exact l0Y hi
def t0m (K:H5 l n a b e z F)(C:F6 l n pl vals fB fD)(beg:Bool):A5 pl beg<=401:=by
 have hm:=C.le;have hn:=K.T.n64;unfold A5;split<;>omega
def F0r (K:H5 l n a b e z F)(C:F6 l n pl vals fB fD){b_:Int}{beg:Bool}{r:Nat}(h:N1 (F0 a b pl beg) r (F0 a b pl beg).length≠[]):(K4 a b pl fB fD beg r).Steps.length<=2000000/\P2 800 (K4 a b pl fB fD beg r).Steps:=by
 have hm:=j08 (fB:=Y2 pl beg fB) (fD:=j4 pl beg fD) h;have hw:=g0i K C beg _ (g0V (fB:=Y2 pl beg fB) (fD:=j4 pl beg fD) h);exact⟨(hw.1.ok _ hm.1).2.2,hw.2.2.2 _ hm.1⟩
set_option maxHeartbeats 2000000 in
def w0C (K:H5 l n a b e z F)(C:F6 l n pl vals fB fD)(b_:Int)(beg:Bool)(b3:0<=work)(b4:work<=1000000000000){r:Nat}(U:r<n):
  d0R F ⟨E9 l at_ vals beg,(F0 a b pl beg).map (fun w=>w.map (Q2 l)),D3 (A5 pl beg) (Y2 pl beg fB) (j4 pl beg fD)⟩ ((List.range n).map (A6 l (Z2 l b_) (F0 a b pl beg) (F0 a b pl beg).length 0))
   (J2 (X5 (Z2 l b_) (F0 a b pl beg) r),(X5 (Z2 l b_) (F0 a b pl beg) r).map (stV l a b at_ pl vals fB fD beg),(r:Int),⟨Y6 l n a b e z,at_,work+(Q7 (Z2 l b_) (F0 a b pl beg) r:Int),J2 pl,vals,D3 pl.length fB fD⟩,
    (J2 ((X5 (Z2 l b_) (F0 a b pl beg) r).map (F4 a b pl fB fD beg)),(X5 (Z2 l b_) (F0 a b pl beg) r).map (fun r=>Q2 l (K4 a b pl fB fD beg r)),(X5 (Z2 l b_) (F0 a b pl beg) r).map (K4 a b pl fB fD beg))) =
  some (.next (J2 (X5 (Z2 l b_) (F0 a b pl beg) (r+1)),(X5 (Z2 l b_) (F0 a b pl beg) (r+1)).map (stV l a b at_ pl vals fB fD beg),((r+1:Nat):Int),⟨Y6 l n a b e z,at_,work+(Q7 (Z2 l b_) (F0 a b pl beg) (r+1):Int),J2 pl,vals,D3 pl.length fB fD⟩,
    (J2 ((X5 (Z2 l b_) (F0 a b pl beg) (r+1)).map (F4 a b pl fB fD beg)),(X5 (Z2 l b_) (F0 a b pl beg) (r+1)).map (fun r=>Q2 l (K4 a b pl fB fD beg r)),(X5 (Z2 l b_) (F0 a b pl beg) (r+1)).map (K4 a b pl fB fD beg)))):=by
 have f1:=K.f1;have hn:=K.T.n64;have hM:=t0m K C beg;have q:=b0b a b pl beg;obtain⟨b2,t⟩:=D0R K C beg r;have v:=n0a (F0 a b pl beg) r (F0 a b pl beg).length;have b5:=t0k (Z2 l b_) (F0 a b pl beg) r;have b1:=n0M (Z2 l b_) (F0 a b pl beg) r;have a1:r*(F0 a b pl beg).length<=400*401:=Nat.mul_le_mul O' O';have ht:=f0m l;have hx:(r:Int)<(((List.range n).map (A6 l (Z2 l b_) (F0 a b pl beg) (F0 a b pl beg).length 0)).length:Int):=by simp;omega
 have k:=g03 C beg;unfold d0R;simp only[hx,decide_true,if_true,g0n U,g0l U,p0g,B0k,Q7,G3 (i:=r) O'];cases hP:Z2 l b_ r with
 |false=>
  have d:=r0T (F:=F) (n:=A5 pl beg) (fB:=Y2 pl beg fB) (fD:=j4 pl beg fD) (fr:=[]) (hops:=[]) O' O' k rfl Z9 Z9;have c:f0V F (D3 (A5 pl beg) (Y2 pl beg fB) (j4 pl beg fD)) [] []=some (-1):=by rw[<-s0j (fB:=Y2 pl beg fB) (fD:=j4 pl beg fD) (hops:=[])];exact d
  have f:W (work+(Q7 (Z2 l b_) (F0 a b pl beg) r:Int)+((([]:List Int).length:Nat):Int))=work+(Q7 (Z2 l b_) (F0 a b pl beg) r:Int):=by rw[n3 Z' Z'];simp
  simp only[q0,c,show decide ((-1:Int)<0)=true from rfl,f,Bool.false_and,append_nil,Nat.add_zero]
 |true=>
  simp only[if_true,Bool.true_and];have f:W (work+(Q7 (Z2 l b_) (F0 a b pl beg) r:Int)+(((J2 (N1 (F0 a b pl beg) r (F0 a b pl beg).length)).length:Nat):Int))=work+((Q7 (Z2 l b_) (F0 a b pl beg) r+(N1 (F0 a b pl beg) r (F0 a b pl beg).length).length:Nat):Int):=by rw[n3 Z' Z'];simp;omega
  simp only[f];have d:=r0T (F:=F) (n:=A5 pl beg) (fB:=Y2 pl beg fB) (fD:=j4 pl beg fD) (fr:=N1 (F0 a b pl beg) r (F0 a b pl beg).length) (hops:=n5 (F0 a b pl beg) r (F0 a b pl beg).length) O' O' k v O' t
  by_cases g:N1 (F0 a b pl beg) r (F0 a b pl beg).length=[]
  ·have c:f0V F (D3 (A5 pl beg) (Y2 pl beg fB) (j4 pl beg fD)) (J2 (N1 (F0 a b pl beg) r (F0 a b pl beg).length)) (n5 (F0 a b pl beg) r (F0 a b pl beg).length)=some (-1):=by
    rw[d,g,s0j]
   simp only[c,G0,show decide ((-1:Int)<0)=true from rfl,if_true];simp only[q0,g,List.isEmpty_nil,append_nil]
  ·obtain⟨k1,k2⟩:=i09 (fB:=Y2 pl beg fB) (fD:=j4 pl beg fD) g;have R:(N1 (F0 a b pl beg) r (F0 a b pl beg).length).isEmpty=false:=by simpa using g
   rw[k1]at d;have k3:¬((a0K (Y2 pl beg fB) (j4 pl beg fD) (F0 a b pl beg) r:Nat):Int)<0:=O'
   have u:F4 a b pl fB fD beg r<A5 pl beg:=by rw[<-q];exact g0V g
   obtain⟨v1,v2⟩:=r0W (u0H (at_:=at_) C beg) (r0P C beg) u;have o:(((N1 (F0 a b pl beg) r (F0 a b pl beg).length).getD (a0K (Y2 pl beg fB) (j4 pl beg fD) (F0 a b pl beg) r) 0:Nat):Int)=(F4 a b pl fB fD beg r:Int):=rfl;have h:gt ((n5 (F0 a b pl beg) r (F0 a b pl beg).length).map (Q2 l)) ((a0K (Y2 pl beg fB) (j4 pl beg fD) (F0 a b pl beg) r:Nat):Int)=Q2 l (K4 a b pl fB fD beg r):=by
    refine B4 ?_;rw[List.getElem?_map,u6 (show a0K (Y2 pl beg fB) (j4 pl beg fD) (F0 a b pl beg) r<(n5 (F0 a b pl beg) r (F0 a b pl beg).length).length from O'),A0B g];rfl
   have m:B0 ((n5 (F0 a b pl beg) r (F0 a b pl beg).length).map (Q2 l)) ((a0K (Y2 pl beg fB) (j4 pl beg fD) (F0 a b pl beg) r:Nat):Int)=true:=R0 O' Z';have x:I0 8 (J2 (X5 (Z2 l b_) (F0 a b pl beg) r)) [(r:Int)]=true:=by simp[I0];omega
   have p:I0 24 ((X5 (Z2 l b_) (F0 a b pl beg) r).map (stV l a b at_ pl vals fB fD beg)) [stV l a b at_ pl vals fB fD beg r]=true:=by simp[I0];omega
   have y:I0 8 (J2 ((X5 (Z2 l b_) (F0 a b pl beg) r).map (F4 a b pl fB fD beg))) [(F4 a b pl fB fD beg r:Int)]=true:=by simp[I0];omega
   have I:I0 64 ((X5 (Z2 l b_) (F0 a b pl beg) r).map (fun r=>Q2 l (K4 a b pl fB fD beg r))) [Q2 l (K4 a b pl fB fD beg r)]=true:=by simp[I0];omega
   have J:I0 40 ((X5 (Z2 l b_) (F0 a b pl beg) r).map (K4 a b pl fB fD beg)) [(Q2 l (K4 a b pl fB fD beg r)).Hop]=true:=by simp[I0];omega
   have j:=m04 (F:=F) (marks:=(Q2 l (K4 a b pl fB fD beg r)).marks) (now:=at_) (none_:=-1) (show(gt (E9 l at_ vals beg) (F4 a b pl fB fD beg r:Int)).length<=1000 from O') (show(N4 l (K4 a b pl fB fD beg r).Steps).length<=1000000000 by have:=(F0r K C (b_:=b_) (beg:=beg) g).1;have:=i0I l (K4 a b pl fB fD beg r).Steps;omega);have s:S6 at_ (-1) (gt (E9 l at_ vals beg) (F4 a b pl fB fD beg r:Int)) (Q2 l (K4 a b pl fB fD beg r)).marks=stV l a b at_ pl vals fB fD beg r:=rfl;rw[s]at j;simp only[q0,d,k3,x,a0h k2,a0G k2,o,v2,m,h,j,p,y,I,J,R,o0h,map_append,map_cons,map_nil];rfl
set_option maxHeartbeats 2000000 in
def y0b (K:H5 l n a b e z F)(C:F6 l n pl vals fB fD)(hw:∀x∈l,o3 x){b_:Int}(q:Z5 .u8 b_)(beg:Bool)(y:0<=at_)(s:at_<=1000000)(o:0<=work)(p:work<=1000000000000):
  e0e F (B7 l n a b e z at_ work pl vals fB fD) b_ beg=some (B7 l n a b e z (at_+1) (work+stW l n a b pl b_ beg) (F1 l n a b pl b_ beg) ((F1 l n a b pl b_ beg).map (stV l a b at_ pl vals fB fD beg))
   (P5 l (Y2 pl beg fB) ((F1 l n a b pl b_ beg).map (F4 a b pl fB fD beg)) ((F1 l n a b pl b_ beg).map (K4 a b pl fB fD beg))) (N6 l (Y2 pl beg fB) (j4 pl beg fD) ((F1 l n a b pl b_ beg).map (F4 a b pl fB fD beg)) ((F1 l n a b pl b_ beg).map (K4 a b pl fB fD beg)))):=by
 have f1:=K.f1;have hn:=K.T.n64;have R:=t0m K C beg;have v:=b0b a b pl beg;have f:=t09 K C b_ beg;have h:=D0M (F:=F) (c:=B7 l n a b e z at_ work pl vals fB fD) (g:=⟨E9 l at_ vals beg,(F0 a b pl beg).map (fun w=>w.map (Q2 l)),D3 (A5 pl beg) (Y2 pl beg fB) (j4 pl beg fD)⟩) hw K.hn hn f1 rfl q (fun i hi=>⟨(g0i K C beg i hi).1,(g0i K C beg i hi).2.1⟩) O' rfl;have d:=R4 (step:=d0R F ⟨E9 l at_ vals beg,(F0 a b pl beg).map (fun w=>w.map (Q2 l)),D3 (A5 pl beg) (Y2 pl beg fB) (j4 pl beg fD)⟩ ((List.range n).map (A6 l (Z2 l b_) (F0 a b pl beg) (F0 a b pl beg).length 0)))
  (fun r=>(J2 (X5 (Z2 l b_) (F0 a b pl beg) r),(X5 (Z2 l b_) (F0 a b pl beg) r).map (stV l a b at_ pl vals fB fD beg),(r:Int),⟨Y6 l n a b e z,at_,work+(Q7 (Z2 l b_) (F0 a b pl beg) r:Int),J2 pl,vals,D3 pl.length fB fD⟩,
    (J2 ((X5 (Z2 l b_) (F0 a b pl beg) r).map (F4 a b pl fB fD beg)),(X5 (Z2 l b_) (F0 a b pl beg) r).map (fun r=>Q2 l (K4 a b pl fB fD beg r)),(X5 (Z2 l b_) (F0 a b pl beg) r).map (K4 a b pl fB fD beg))))
  (J2 (F1 l n a b pl b_ beg),(F1 l n a b pl b_ beg).map (stV l a b at_ pl vals fB fD beg),⟨Y6 l n a b e z,at_,work+(Q7 (Z2 l b_) (F0 a b pl beg) n:Int),J2 pl,vals,D3 pl.length fB fD⟩,
    (J2 ((F1 l n a b pl b_ beg).map (F4 a b pl fB fD beg)),(F1 l n a b pl b_ beg).map (fun r=>Q2 l (K4 a b pl fB fD beg r)),(F1 l n a b pl b_ beg).map (K4 a b pl fB fD beg))) n
  (fun r t=>.inl (w0C K C b_ beg o p t)) ?_ n 0 F O' O'
 ·have u:work+(Q7 (Z2 l b_) (F0 a b pl beg) 0:Int)=work:=by simp[Q7]
  rw[u]at d;have I:iter (d0R F ⟨E9 l at_ vals beg,(F0 a b pl beg).map (fun w=>w.map (Q2 l)),D3 (A5 pl beg) (Y2 pl beg fB) (j4 pl beg fD)⟩ ((List.range n).map (A6 l (Z2 l b_) (F0 a b pl beg) (F0 a b pl beg).length 0))) F ([],[],0,B7 l n a b e z at_ work pl vals fB fD,([],[],[]))=_:=d;unfold e0e;rw[y0e K C beg];simp only[G0,h,I];have hl:(Y6 l n a b e z).l=l:=rfl;have j:=v0I (F:=F) hw K.hR K.hn (show 2000<F from O') K.TF.mL (show A5 pl beg<=1000 from O') (g03 C beg) (u0q K C b_ beg);simp only[hl,j,G0,List.length_map,i0f];have m:(Y6 l n a b e z).tags=l5 l:=rfl;obtain⟨q1,q2,U,q4,q5,q6,J⟩:=f;rw[m,n3 (n:=at_+1) O' O',n3 (n:=((F1 l n a b pl b_ beg).length:Int)*l5 l) O' O',n3 (n:=((F1 l n a b pl b_ beg).length:Int)*((F1 l n a b pl b_ beg).length:Int)) O' O',n3 (n:=((F1 l n a b pl b_ beg).length:Int)*l5 l+((F1 l n a b pl b_ beg).length:Int)*((F1 l n a b pl b_ beg).length:Int)) O' O'];rw[n3 (n:=work+(Q7 (Z2 l b_) (F0 a b pl beg) n:Int)+(((F1 l n a b pl b_ beg).length:Int)*l5 l+((F1 l n a b pl b_ beg).length:Int)*((F1 l n a b pl b_ beg).length:Int))) O' O'];have k:work+(Q7 (Z2 l b_) (F0 a b pl beg) n:Int)+(((F1 l n a b pl b_ beg).length:Int)*l5 l+((F1 l n a b pl b_ beg).length:Int)*((F1 l n a b pl b_ beg).length:Int))=work+stW l n a b pl b_ beg:=by unfold stW;omega
  rw[k];rfl
 ·unfold d0R;have h1:¬((n:Int)<(((List.range n).map (A6 l (Z2 l b_) (F0 a b pl beg) (F0 a b pl beg).length 0)).length:Int)):=Z9
  simp only[q0,h1];rfl
end
