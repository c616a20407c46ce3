/- P. Its conditions: none. -/
import Derived.Test.YtmhooikfkhjijaaGreatYG47
open Bool (false_eq_true)
open List (append_nil mem_map map_append map_cons map_nil)
set_option linter.all false
namespace Go.Proofs.YtmhooikfkhjijaaGreat
open Go.V Go.RowKit Old Go.X
section
variable {F:Nat}{l:List U0}{n:Nat}
def C0j (l:List U0)(hs:Nat->Bool)(Ws:List (List E1))(i j r:Nat):C0G:=
 if hs r then⟨a0B (z0X Ws r i++if(C0l ((Ws.getD i []).take j) r).isSome then[i]else[]),(B0X Ws r i++if(C0l ((Ws.getD i []).take j) r).isSome then[D0u ((Ws.getD i []).take j) r]else[]).map (j04 l),B0X Ws r i++if(C0l ((Ws.getD i []).take j) r).isSome then[D0u ((Ws.getD i []).take j) r]else[]⟩else⟨[],[],[]⟩
def R0a {ws:List E1}{j r:Nat}(hj:j<ws.length)(h:(gt ws (j:Int)).To≠(r:Int)):C0l (ws.take (j+1)) r=C0l (ws.take j) r:=by
 unfold C0l;rw[List.take_succ,B01 hj,List.find?_append];simp[List.find?_cons,h]
def W04 {n:Nat}{ws:List E1}(hw:c0s n ws){j r:Nat}(hj:j<ws.length)(h:(gt ws (j:Int)).To=(r:Int)):C0l (ws.take (j+1)) r=some (gt ws (j:Int))/\C0l (ws.take j) r=none:=by
 have hnone:C0l (ws.take j) r=none:=by
  unfold C0l;rw[List.find?_eq_none];intro x hx;obtain⟨i,hi,he⟩:=List.mem_iff_getElem.1 hx;simp only[List.length_take]at hi;have hd:=List.pairwise_iff_getElem.1 hw.dist i j (by omega) hj (by omega);rw[List.getElem_take]at he;rw[<-he];have e2:gt ws (j:Int)=ws[j]:=Y5 (by simp[hj]);rw[e2]at h;simp only[beq_iff_eq];omega
 refine⟨?_,hnone⟩;unfold C0l at hnone ⊢;rw[List.take_succ,B01 hj,List.find?_append,hnone];simp[h]
def L0T {β:Type}{n:Nat}{f g:Nat->β}(h:∀r,r<n->f r=g r):(List.range n).map f=(List.range n).map g:=List.map_congr_left fun r hr=>h r (List.mem_range.1 hr)
def J02 (l:List U0)(hs:Nat->Bool)(Ws:List (List E1))(i r:Nat):C0j l hs Ws i 0 r=if hs r then⟨a0B (z0X Ws r i),(B0X Ws r i).map (j04 l),B0X Ws r i⟩else⟨[],[],[]⟩:=by
 unfold C0j;have:C0l ((Ws.getD i []).take 0) r=none:=rfl;simp only[this,Option.isSome_none,false_eq_true,if_false,append_nil]
def Q04 (l:List U0)(hs:Nat->Bool)(Ws:List (List E1))(i r:Nat):C0j l hs Ws i (Ws.getD i []).length r=C0j l hs Ws (i+1) 0 r:=by
 rw[J02];unfold C0j;rw[List.take_length,J0M,O01]
def setOf (l:List U0){n:Nat}(hn:n=u5 l l.length)(hw:∀x∈l,l02 x){r:Nat}(hr:r<n):y0 ((e0L l l.length).map fun q=>(gt l q).Set) (r:Int)=true/\gtZ 4 ((e0L l l.length).map fun q=>(gt l q).Set) (r:Int)=(gt l (gt (e0L l l.length) (r:Int))).Set/\
  ((gt l (gt (e0L l l.length) (r:Int))).Set.length=4/\∀y∈(gt l (gt (e0L l l.length) (r:Int))).Set,inK .u64 y):=by
 obtain⟨q,h2,h3,h4⟩:=F0C l hn (x:=(r:Int)) (by omega) (by omega);have hlen:=C0e l l.length;refine⟨B4 (by omega) (by simp;omega),?_,?_⟩
 ·unfold gtZ;have:(e0L l l.length)[r]?=some (gt (e0L l l.length) (r:Int)):=B01 (by omega);exact @Y5 _ ⟨List.replicate 4 0⟩ _ _ _ (by rw[List.getElem?_map,this];rfl)
 ·rw[h3];have:=hw _ (List.mem_of_getElem? (B01 (l:=l) (i:=q) h2));exact this.2.2.2.2
def d0e (l:List U0)(b_:Int)(r:Nat):Bool:=hasB (gt l (gt (e0L l l.length) (r:Int))).Set b_
def W0Q {a:List E1}{b:Nat->List E1}{e:Nat->E1×Bool}{z:E1×Bool}(hw:∀x∈l,l02 x)(hn:n=u5 l l.length)(hn64:n<=400)(hf:2000001<F){c:h0r}(hc:c.chart=C0y l n a b e z){g:C08}{b_:Int}(hb:inK .u8 b_)
  {Ws:List (List E1)} (hW:∀i,i<Ws.length->c0s n (Ws.getD i [])/\(Ws.getD i []).length<=500000) (hM:Ws.length<=1000) (hg:g.roads=Ws.map fun w=>w.map (j04 l)) {i:Nat} (hi:i<Ws.length):
  iter (G0G F c g b_ (i:Int)) F (0,(List.range n).map (C0j l (d0e l b_) Ws i 0))=some ((List.range n).map (C0j l (d0e l b_) Ws (i+1) 0)):=by
 obtain⟨hWi,hlen⟩:=hW i hi;have hgi:gt g.roads (i:Int)=(Ws.getD i []).map (j04 l):=by
  rw[hg];refine Y5 ?_;rw[List.getElem?_map,show Ws.getD i []=Ws[i]from by simp[List.getD,hi],List.getElem?_eq_getElem hi];rfl
 generalize hws:Ws.getD i []=ws at *;have:=j0K (step:=G0G F c g b_ (i:Int)) (fun j=>((j:Int),(List.range n).map (C0j l (d0e l b_) Ws i j))) ((List.range n).map (C0j l (d0e l b_) Ws (i+1) 0)) ws.length (fun j hj=>.inl ?_) ?_ ws.length 0 F (by omega) (by omega)
 ·exact this
 ·have hk:=hWi.ok _ (List.mem_of_getElem? (B01 hj));obtain⟨r,hr⟩:∃r:Nat,(gt ws (j:Int)).To=r:=⟨(gt ws (j:Int)).To.toNat,by have:=hk.1;omega⟩
  have hrn:r<n:=by have:=hk.2.1;omega
  obtain⟨s1,s2,s3⟩:=setOf l hn hw hrn;obtain⟨t1,t2⟩:=W04 hWi hj hr;have hne:∀q,q≠r->C0j l (d0e l b_) Ws i (j+1) q=C0j l (d0e l b_) Ws i j q:=fun q hq=>by
   have e:=R0a (ws:=ws) (j:=j) (r:=q) hj (by rw[hr];omega);unfold C0j D0u;rw[hws,e]
  have hj1:(j:Int)<((ws.map (j04 l)).length:Int):=by simp;omega
  have hgj:gt (ws.map (j04 l)) (j:Int)=j04 l (gt ws (j:Int)):=Y5 (by rw[List.getElem?_map,B01 hj];rfl);have hin:y0 (ws.map (j04 l)) (j:Int)=true:=B4 (by omega) hj1;have hhop:(j04 l (gt ws (j:Int))).Hop.To=(r:Int):=hr;unfold G0G;simp only[q0,hgi,hj1,hin,hgj,hhop,hc,C0y,s1,s2,(N0r F s3 hb).1,R2 (i:=j) (by omega)];have hH:hasB (gt l (gt (e0L l l.length) (r:Int))).Set b_=d0e l b_ r:=rfl;rw[hH];cases hP:d0e l b_ r with
  |
   false=>
   simp only[q0];congr 1;congr 1;congr 1;refine L0T fun q _=>?_
   by_cases hq:q=r
   ·subst hq;unfold C0j;rw[hP];rfl
   ·exact(hne q hq).symm
  |
   true=>
   have hl1:=J0u Ws r i;have hl2:=I0D Ws r i;have hcom:C0j l (d0e l b_) Ws i j r=⟨a0B (z0X Ws r i),(B0X Ws r i).map (j04 l),B0X Ws r i⟩:=by
    unfold C0j;rw[hP,hws,t2];simp
   have ap1:C1 8 (a0B (z0X Ws r i)) [(i:Int)]=true:=by simp[C1];omega
   have ap2:C1 64 ((B0X Ws r i).map (j04 l)) [j04 l (gt ws (j:Int))]=true:=by simp[C1];omega
   have ap3:C1 40 (B0X Ws r i) [(j04 l (gt ws (j:Int))).Hop]=true:=by simp[C1];omega
   simp only[q0,E0d hrn,E0g hrn,hcom,ap1,N0Y,Int.toNat_natCast,ap2,ap3];congr 1;congr 1;congr 1;refine L0T fun q _=>?_
   by_cases hq:q=r
   ·subst hq;simp only[if_true];unfold C0j;rw[hP,hws,t1,D0u,t1];simp[F0d,j04]
   ·simp only[hq,if_false];exact(hne q hq).symm
 ·unfold G0G;have h1:¬((ws.length:Int)<((ws.map (j04 l)).length:Int)):=by simp
  simp only[q0,hgi,h1];congr 1;congr 1;refine L0T fun q _=>?_;rw[<-hws,Q04]
def W09 {a:List E1}{b:Nat->List E1}{e:Nat->E1×Bool}{z:E1×Bool}(hw:∀x∈l,l02 x)(hn:n=u5 l l.length)(hn64:n<=400)(hf:2000001<F){c:h0r}(hc:c.chart=C0y l n a b e z){g:C08}{b_:Int}(hb:inK .u8 b_)
  {Ws:List (List E1)} (hW:∀i,i<Ws.length->c0s n (Ws.getD i [])/\(Ws.getD i []).length<=500000) (hM:Ws.length<=1000) (hg:g.roads=Ws.map fun w=>w.map (j04 l)):
  G0R F c g b_=some ((List.range n).map (C0j l (d0e l b_) Ws Ws.length 0),c):=by
 have hsets:(c.chart.sets.length:Int)=(n:Int):=by rw[hc];simp only[C0y,List.length_map,C0e];omega
 have hmk:S5 72 (n:Int)=true:=by simp[S5];omega
 have hrep:List.replicate n (⟨[],[],[]⟩:C0G)=(List.range n).map (C0j l (d0e l b_) Ws 0 0):=by
  refine List.ext_getElem (by simp) fun r h1 h2=>?_;simp only[List.getElem_replicate,List.getElem_map,List.getElem_range,J02];split
  ·rfl
  ·rfl
 unfold G0R;rw[hsets,hmk];simp only[if_true,Int.toNat_natCast];have:=j0K (step:=H0F F c g b_) (fun i=>((i:Int),(List.range n).map (C0j l (d0e l b_) Ws i 0))) ((List.range n).map (C0j l (d0e l b_) Ws Ws.length 0)) Ws.length (fun i hi=>.inl ?_) ?_ Ws.length 0 F (by omega) (by omega)
 ·have h2:iter (H0F F c g b_) F (0,(List.range n).map (C0j l (d0e l b_) Ws 0 0))=_:=this;rw[hrep,h2];rfl
 ·unfold H0F;have h1:(i:Int)<(g.roads.length:Int):=by rw[hg];simp;omega
  simp only[q0,h1,B4 (l:=g.roads) (i:=(i:Int)) (by omega) h1,W0Q hw hn hn64 hf hc hb hW hM hg hi,R2 (i:=i) (by omega)]
 ·unfold H0F;have h1:¬((Ws.length:Int)<(g.roads.length:Int)):=by rw[hg];simp
  simp only[q0,h1]
end
def e6 (a:List E1)(b:Nat->List E1)(pl:List Nat)(beg:Bool):List (List E1):=pl.map b++if beg then[a]else[]
def goV (l:List U0)(at_:Int)(vals:List (List Int))(beg:Bool):List (List Int):=vals++if beg then[D0b l at_]else[]
def goM (pl:List Nat)(beg:Bool):Nat:=if beg then pl.length+1 else pl.length
def goB (pl:List Nat)(beg:Bool)(fB:Nat->Nat->Int):Nat->Nat->Int:=if beg then E0v pl.length fB else fB
def goD (pl:List Nat)(beg:Bool)(fD:Nat->Nat->Int):Nat->Nat->Int:=if beg then E0q pl.length fD else fD
def D0B (a:List E1)(b:Nat->List E1)(pl:List Nat)(beg:Bool):(e6 a b pl beg).length=goM pl beg:=by unfold e6 goM;cases beg<;>simp
section
variable {F:Nat}{l:List U0}{n:Nat}{a:List E1}{b:Nat->List E1}{e:Nat->E1×Bool}{z:E1×Bool}{at_ work:Int}{pl:List Nat}{vals:List (List Int)}{fB fD:Nat->Nat->Int}
def K0t (C:B02 l n pl vals fB fD)(beg:Bool):(goV l at_ vals beg).length=goM pl beg:=by unfold goV goM;cases beg<;>simp[C.len]
def G0x (C:B02 l n pl vals fB fD)(beg:Bool):C0Q (goM pl beg) (goB pl beg fB) (goD pl beg fD):=by
 unfold goM goB goD;cases beg with
 |false=>exact C.rk
 |true=>exact T00 C.rk
def K0C (C:B02 l n pl vals fB fD)(beg:Bool):∀v∈goV l at_ vals beg,v.length=(f0n l).toNat:=by
 intro v hv;unfold goV at hv;rcases List.mem_append.1 hv with h|h
 ·exact C.row v h
 ·cases beg with
  |false=>simp at h
  |true=>simp at h;subst h;exact G0M l at_
def H0i (K:B0H l n a b e z F)(C:B02 l n pl vals fB fD)(beg:Bool):∀i,i<(e6 a b pl beg).length->c0s n ((e6 a b pl beg).getD i [])/\((e6 a b pl beg).getD i []).length<=500000/\(∀h∈(e6 a b pl beg).getD i [],D0j n h)/\C04 800 ((e6 a b pl beg).getD i []):=by
 intro i hi;have hm:(e6 a b pl beg).getD i []∈e6 a b pl beg:=by
  rw[show(e6 a b pl beg).getD i []=(e6 a b pl beg)[i]from by simp[List.getD,hi]];exact List.getElem_mem hi
 have hop:∀{ws:List E1},c0s n ws->D0p ws->∀h∈ws,D0j n h:=fun hw ht h hh=>⟨(hw.ok h hh).1,(hw.ok h hh).2.1,(ht h hh).1,(ht h hh).2⟩
 generalize (e6 a b pl beg).getD i []=ws at *;unfold e6 at hm;rcases List.mem_append.1 hm with h|h
 ·obtain⟨p,hp,rfl⟩:=mem_map.1 h;have:=C.pln p hp;exact⟨K.T.bw p this,K.T.bl p this,hop (K.T.bw p this) (K.T.bT p this),K.T.bb p this⟩
 ·cases beg with
  |false=>simp at h
  |true=>simp at h;subst h;exact⟨K.T.aw,K.T.al,hop K.T.aw K.T.aT,K.T.ab⟩
def T0s (K:B0H l n a b e z F)(C:B02 l n pl vals fB fD)(beg:Bool):F0p F (mkC l n a b e z at_ work pl vals fB fD) beg =
  some (⟨goV l at_ vals beg,(e6 a b pl beg).map (fun w=>w.map (j04 l)),b0U (goM pl beg) (goB pl beg fB) (goD pl beg fD)⟩,mkC l n a b e z at_ work pl vals fB fD):=by
 have f1:=K.f1;have hm:=C.le;have hn:=K.T.n64;have hvl:=C.len;unfold F0p H0o;have hap:C1 24 ([]:List (List Int)) vals=true:=by simp[C1];omega
 rw[s6];simp only[mkC,hap,if_true,F1];have:=j0K (step:=G0l F (mkC l n a b e z at_ work pl vals fB fD)) (fun i=>((i:Int),(vals,(pl.take i).map (fun p=>(b p).map (j04 l)),b0U pl.length fB fD))) (vals,pl.map (fun p=>(b p).map (j04 l)),b0U pl.length fB fD) pl.length (fun i hi=>.inl ?_) ?_ pl.length 0 F (by omega) (by omega)
 ·have h2:iter (G0l F ⟨C0y l n a b e z,at_,work,a0B pl,vals,b0U pl.length fB fD⟩) F (0,(vals,[],b0U pl.length fB fD))=_:=this;rw[h2];simp only[F1];unfold goV e6 goM goB goD;cases beg with
  |false=>simp
  |
   true=>
   have ap1:C1 24 vals [D0b l at_]=true:=by simp[C1];omega
   have ap2:C1 24 (pl.map fun p=>(b p).map (j04 l)) [a.map (j04 l)]=true:=by simp[C1];omega
   have hb:=O0U K ⟨C0y l n a b e z,at_,work,a0B pl,vals,b0U pl.length fB fD⟩ rfl;have hcb:(C0y l n a b e z).begin=a.map (j04 l):=rfl;simp only[if_true,hb,F1,ap1,hcb,ap2,U0D (show pl.length<=900 by omega) (show 2000<F by omega) C.rk,map_append,List.map_map,map_cons,map_nil,Function.comp_def]
 ·unfold G0l;have h1:(i:Int)<((a0B pl).length:Int):=by simp;omega
  have hp:=C0t C.pln hi;have hap:C1 24 ((pl.take i).map (fun p=>(b p).map (j04 l))) [(b (pl.getD i 0)).map (j04 l)]=true:=by simp[C1];omega
  have ht:pl.take (i+1)=pl.take i++[pl.getD i 0]:=by rw[G0i hi];simp[List.getD,hi]
  simp only[mkC,h1,decide_true,if_true,C0f hi,C0B hi,C0y,E0d hp,E0g hp,hap,ht,map_append,map_cons,map_nil,R2 (i:=i) (by omega)]
 ·unfold G0l;have h1:¬((pl.length:Int)<((a0B pl).length:Int)):=by simp
  simp only[q0,mkC,h1,List.take_length]
def stP (l:List U0)(n:Nat)(a:List E1)(b:Nat->List E1)(pl:List Nat)(b_:Int)(beg:Bool):List Nat:=A0k (d0e l b_) (e6 a b pl beg) n
def stS (a:List E1)(b:Nat->List E1)(pl:List Nat)(fB fD:Nat->Nat->Int)(beg:Bool)(r:Nat):Nat:=F0i (goB pl beg fB) (goD pl beg fD) (e6 a b pl beg) r
def stH (a:List E1)(b:Nat->List E1)(pl:List Nat)(fB fD:Nat->Nat->Int)(beg:Bool)(r:Nat):E1:=H0E (goB pl beg fB) (goD pl beg fD) (e6 a b pl beg) r
def stV (l:List U0)(a:List E1)(b:Nat->List E1)(at_:Int)(pl:List Nat)(vals:List (List Int))(fB fD:Nat->Nat->Int)(beg:Bool)(r:Nat):List Int:=
 A0G at_ (-1) (gt (goV l at_ vals beg) (stS a b pl fB fD beg r:Int)) (OfF l (stH a b pl fB fD beg r).Steps)
def stW (l:List U0)(n:Nat)(a:List E1)(b:Nat->List E1)(pl:List Nat)(b_:Int)(beg:Bool):Int:=
 (B0W (d0e l b_) (e6 a b pl beg) n:Int)+(((stP l n a b pl b_ beg).length:Int)*f0n l+((stP l n a b pl b_ beg).length:Int)*((stP l n a b pl b_ beg).length:Int))
def E0G {b_:Int}{beg:Bool}{r:Nat}(h:r∈stP l n a b pl b_ beg):r<n/\z0X (e6 a b pl beg) r (e6 a b pl beg).length≠[]:=⟨R0i h,(S09 h).2⟩
def L0i {b_:Int}{beg:Bool}:(stP l n a b pl b_ beg).length<=n:=K03 _ _ _
def K0r (K:B0H l n a b e z F)(C:B02 l n pl vals fB fD)(b_:Int)(beg:Bool):H0w l n (goM pl beg) ((stP l n a b pl b_ beg).map (stS a b pl fB fD beg)) ((stP l n a b pl b_ beg).map (stH a b pl fB fD beg)) where
 lt i hi:=by
  obtain⟨r,hr,rfl⟩:=mem_map.1 hi;rw[<-D0B a b];exact F0g (E0G hr).2
 len:=by simp
 le:=by have:=L0i (l:=l) (n:=n) (a:=a) (b:=b) (pl:=pl) (b_:=b_) (beg:=beg);have:=K.T.n64;simp;omega
 hop x hx:=by
  obtain⟨r,hr,rfl⟩:=mem_map.1 hx;have hm:=I07 (fB:=goB pl beg fB) (fD:=goD pl beg fD) (E0G hr).2;exact(H0i K C beg _ (F0g (E0G hr).2)).2.2.1 _ hm.1
 asc:=by
  rw[List.pairwise_map];refine(N0i _ _ _).imp_of_mem fun {x y} hx hy hxy=>?_;have h1:=(I07 (fB:=goB pl beg fB) (fD:=goD pl beg fD) (E0G hx).2).2;have h2:=(I07 (fB:=goB pl beg fB) (fD:=goD pl beg fD) (E0G hy).2).2;unfold stH;rw[h1,h2];omega
def L0w {V:List (List Int)}{m:Nat}(h:∀v∈V,v.length=(f0n l).toNat)(hl:V.length=m){k:Nat}(hk:k<m):(gt V (k:Int)).length=(f0n l).toNat/\y0 V (k:Int)=true:=
 ⟨h _ (List.mem_of_getElem? (B01 (by omega))),B4 (by omega) (by omega)⟩
def V0I (K:B0H l n a b e z F)(C:B02 l n pl vals fB fD)(hw:∀x∈l,l02 x)(b_:Int)(beg:Bool):
  B02 l n (stP l n a b pl b_ beg) ((stP l n a b pl b_ beg).map (stV l a b at_ pl vals fB fD beg)) (A0Q l (goB pl beg fB) ((stP l n a b pl b_ beg).map (stS a b pl fB fD beg)) ((stP l n a b pl b_ beg).map (stH a b pl fB fD beg))) (A0R l (goB pl beg fB) (goD pl beg fD) ((stP l n a b pl b_ beg).map (stS a b pl fB fD beg)) ((stP l n a b pl b_ beg).map (stH a b pl fB fD beg))) where
 len:=by simp
 pln r hr:=(E0G hr).1
 asc:=N0i _ _ _
 row v hv:=by
  obtain⟨r,hr,rfl⟩:=mem_map.1 hv;unfold stV;rw[D0F];exact(L0w (K0C C beg) (K0t C beg) (by rw[<-D0B a b];exact F0g (E0G hr).2)).1
 rk:=by
  have g:=K0r K C b_ beg;have:=K0Z hw K.hR K.hn (G0x C beg) g.lt g.len g.hop g.asc;simpa using this
def J0U (K:B0H l n a b e z F)(C:B02 l n pl vals fB fD)(b_:Int)(beg:Bool):0<=stW l n a b pl b_ beg/\stW l n a b pl b_ beg<=1000000/\(B0W (d0e l b_) (e6 a b pl beg) n:Int)<=200000/\0<=((stP l n a b pl b_ beg).length:Int)*f0n l/\((stP l n a b pl b_ beg).length:Int)*f0n l<=10000/\0<=((stP l n a b pl b_ beg).length:Int)*((stP l n a b pl b_ beg).length:Int)/\((stP l n a b pl b_ beg).length:Int)*((stP l n a b pl b_ beg).length:Int)<=160000:=by
 have hm:=C.le;have hn:=K.T.n64;have h1:=H0A (d0e l b_) (e6 a b pl beg) n;have h2:(e6 a b pl beg).length<=401:=by rw[D0B];unfold goM;split<;>omega
 have h3:n*(e6 a b pl beg).length<=400*401:=Nat.mul_le_mul hn h2;have h4:=L0i (l:=l) (n:=n) (a:=a) (b:=b) (pl:=pl) (b_:=b_) (beg:=beg);have ht:=C0D l;unfold stW;generalize (stP l n a b pl b_ beg).length=p at *;have h5:(p:Int)*f0n l<=400*19:=Int.mul_le_mul (by omega) ht.2 (by omega) (by omega);have h6:(p:Int)*(p:Int)<=400*400:=Int.mul_le_mul (by omega) (by omega) (by omega) (by omega);have h7:0<=(p:Int)*f0n l:=Int.mul_nonneg (by omega) (by omega);have h8:0<=(p:Int)*(p:Int):=Int.mul_nonneg (by omega) (by omega);generalize (p:Int)*f0n l=x at *;generalize (p:Int)*(p:Int)=y at *;refine⟨by omega,by omega,by omega,by omega,by omega,by omega,by omega⟩
end
section
variable {F:Nat}{l:List U0}{n:Nat}{a:List E1}{b:Nat->List E1}{e:Nat->E1×Bool}{z:E1×Bool}{at_ work:Int}{pl:List Nat}{vals:List (List Int)}{fB fD:Nat->Nat->Int}
def M0F (K:B0H l n a b e z F)(C:B02 l n pl vals fB fD)(beg:Bool)(r:Nat):(z0X (e6 a b pl beg) r (e6 a b pl beg).length).length<=500/\∀i∈z0X (e6 a b pl beg) r (e6 a b pl beg).length,i<goM pl beg:=by
 have hm:=C.le;have hn:=K.T.n64;have h1:=J0u (e6 a b pl beg) r (e6 a b pl beg).length;rw[D0B]at h1;refine⟨by
       have:goM pl beg<=pl.length+1:=by unfold goM;split<;>omega
       rw[D0B];omega,fun i hi=>?_⟩
 rw[<-D0B a b];exact O0o hi
def J0z (K:B0H l n a b e z F)(C:B02 l n pl vals fB fD)(beg:Bool):goM pl beg<=401:=by
 have hm:=C.le;have hn:=K.T.n64;unfold goM;split<;>omega
def N0C (K:B0H l n a b e z F)(C:B02 l n pl vals fB fD){b_:Int}{beg:Bool}{r:Nat}(h:z0X (e6 a b pl beg) r (e6 a b pl beg).length≠[]):(stH a b pl fB fD beg r).Steps.length<=2000000/\l4 800 (stH a b pl fB fD beg r).Steps:=by
 have hm:=I07 (fB:=goB pl beg fB) (fD:=goD pl beg fD) h;have hw:=H0i K C beg _ (F0g (fB:=goB pl beg fB) (fD:=goD pl beg fD) h);exact⟨(hw.1.ok _ hm.1).2.2,hw.2.2.2 _ hm.1⟩
set_option maxHeartbeats 2000000 in
def X0l (K:B0H l n a b e z F)(C:B02 l n pl vals fB fD)(b_:Int)(beg:Bool)(hw0:0<=work)(hw1:work<=1000000000000){r:Nat}(hr:r<n):
  E00 F ⟨goV l at_ vals beg,(e6 a b pl beg).map (fun w=>w.map (j04 l)),b0U (goM pl beg) (goB pl beg fB) (goD pl beg fD)⟩ ((List.range n).map (C0j l (d0e l b_) (e6 a b pl beg) (e6 a b pl beg).length 0))
   (a0B (A0k (d0e l b_) (e6 a b pl beg) r),(A0k (d0e l b_) (e6 a b pl beg) r).map (stV l a b at_ pl vals fB fD beg),(r:Int),⟨C0y l n a b e z,at_,work+(B0W (d0e l b_) (e6 a b pl beg) r:Int),a0B pl,vals,b0U pl.length fB fD⟩,
    (a0B ((A0k (d0e l b_) (e6 a b pl beg) r).map (stS a b pl fB fD beg)),(A0k (d0e l b_) (e6 a b pl beg) r).map (fun r=>j04 l (stH a b pl fB fD beg r)),(A0k (d0e l b_) (e6 a b pl beg) r).map (stH a b pl fB fD beg))) =
  some (.next (a0B (A0k (d0e l b_) (e6 a b pl beg) (r+1)),(A0k (d0e l b_) (e6 a b pl beg) (r+1)).map (stV l a b at_ pl vals fB fD beg),((r+1:Nat):Int),⟨C0y l n a b e z,at_,work+(B0W (d0e l b_) (e6 a b pl beg) (r+1):Int),a0B pl,vals,b0U pl.length fB fD⟩,
    (a0B ((A0k (d0e l b_) (e6 a b pl beg) (r+1)).map (stS a b pl fB fD beg)),(A0k (d0e l b_) (e6 a b pl beg) (r+1)).map (fun r=>j04 l (stH a b pl fB fD beg r)),(A0k (d0e l b_) (e6 a b pl beg) (r+1)).map (stH a b pl fB fD beg)))):=by
 have f1:=K.f1;have hn:=K.T.n64;have hM:=J0z K C beg;have hWl:=D0B a b pl beg;obtain⟨hc1,hc2⟩:=M0F K C beg r;have hch:=I0D (e6 a b pl beg) r (e6 a b pl beg).length;have hPl:=K03 (d0e l b_) (e6 a b pl beg) r;have hwn:=H0A (d0e l b_) (e6 a b pl beg) r;have hwn2:r*(e6 a b pl beg).length<=400*401:=Nat.mul_le_mul (by omega) (by omega);have ht:=C0D l;have hx:(r:Int)<(((List.range n).map (C0j l (d0e l b_) (e6 a b pl beg) (e6 a b pl beg).length 0)).length:Int):=by simp;omega
 have hgr:=G0x C beg;unfold E00;simp only[hx,decide_true,if_true,E0d hr,E0g hr,J02,M05,B0W,R2 (i:=r) (by omega)];cases hP:d0e l b_ r with
 |
  false=>
  have hpk:=O04 (F:=F) (n:=goM pl beg) (fB:=goB pl beg fB) (fD:=goD pl beg fD) (fr:=[]) (hops:=[]) (by omega) (by omega) hgr rfl (by simp) (by simp);have hpk2:l0s F (b0U (goM pl beg) (goB pl beg fB) (goD pl beg fD)) [] []=some (-1):=by rw[<-L0l (fB:=goB pl beg fB) (fD:=goD pl beg fD) (hops:=[])];exact hpk
  have hW0:W (work+(B0W (d0e l b_) (e6 a b pl beg) r:Int)+((([]:List Int).length:Nat):Int))=work+(B0W (d0e l b_) (e6 a b pl beg) r:Int):=by rw[c0R (by simp;omega) (by simp;omega)];simp
  simp only[q0,hpk2,show decide ((-1:Int)<0)=true from rfl,hW0,Bool.false_and,append_nil,Nat.add_zero]
 |
  true=>
  simp only[if_true,Bool.true_and];have hW0:W (work+(B0W (d0e l b_) (e6 a b pl beg) r:Int)+(((a0B (z0X (e6 a b pl beg) r (e6 a b pl beg).length)).length:Nat):Int))=work+((B0W (d0e l b_) (e6 a b pl beg) r+(z0X (e6 a b pl beg) r (e6 a b pl beg).length).length:Nat):Int):=by rw[c0R (by simp;omega) (by simp;omega)];simp;omega
  simp only[hW0];have hpk:=O04 (F:=F) (n:=goM pl beg) (fB:=goB pl beg fB) (fD:=goD pl beg fD) (fr:=z0X (e6 a b pl beg) r (e6 a b pl beg).length) (hops:=B0X (e6 a b pl beg) r (e6 a b pl beg).length) (by omega) (by omega) hgr hch (by omega) hc2
  by_cases h0:z0X (e6 a b pl beg) r (e6 a b pl beg).length=[]
  ·have hpk2:l0s F (b0U (goM pl beg) (goB pl beg fB) (goD pl beg fD)) (a0B (z0X (e6 a b pl beg) r (e6 a b pl beg).length)) (B0X (e6 a b pl beg) r (e6 a b pl beg).length)=some (-1):=by
    rw[hpk,h0,L0l]
   simp only[hpk2,F1,show decide ((-1:Int)<0)=true from rfl,if_true];simp only[q0,h0,List.isEmpty_nil,append_nil]
  ·obtain⟨k1,k2⟩:=J0q (fB:=goB pl beg fB) (fD:=goD pl beg fD) h0;have hne:(z0X (e6 a b pl beg) r (e6 a b pl beg).length).isEmpty=false:=by simpa using h0
   rw[k1]at hpk;have k3:¬((C07 (goB pl beg fB) (goD pl beg fD) (e6 a b pl beg) r:Nat):Int)<0:=by omega
   have hsl:stS a b pl fB fD beg r<goM pl beg:=by rw[<-hWl];exact F0g h0
   obtain⟨v1,v2⟩:=L0w (K0C (at_:=at_) C beg) (K0t C beg) hsl;have hsrc:(((z0X (e6 a b pl beg) r (e6 a b pl beg).length).getD (C07 (goB pl beg fB) (goD pl beg fD) (e6 a b pl beg) r) 0:Nat):Int)=(stS a b pl fB fD beg r:Int):=rfl;have hroad:gt ((B0X (e6 a b pl beg) r (e6 a b pl beg).length).map (j04 l)) ((C07 (goB pl beg fB) (goD pl beg fD) (e6 a b pl beg) r:Nat):Int)=j04 l (stH a b pl fB fD beg r):=by
    refine Y5 ?_;rw[List.getElem?_map,B01 (show C07 (goB pl beg fB) (goD pl beg fD) (e6 a b pl beg) r<(B0X (e6 a b pl beg) r (e6 a b pl beg).length).length by omega),M03 h0];rfl
   have hrin:y0 ((B0X (e6 a b pl beg) r (e6 a b pl beg).length).map (j04 l)) ((C07 (goB pl beg fB) (goD pl beg fD) (e6 a b pl beg) r:Nat):Int)=true:=B4 (by omega) (by simp;omega);have ap1:C1 8 (a0B (A0k (d0e l b_) (e6 a b pl beg) r)) [(r:Int)]=true:=by simp[C1];omega
   have ap2:C1 24 ((A0k (d0e l b_) (e6 a b pl beg) r).map (stV l a b at_ pl vals fB fD beg)) [stV l a b at_ pl vals fB fD beg r]=true:=by simp[C1];omega
   have ap3:C1 8 (a0B ((A0k (d0e l b_) (e6 a b pl beg) r).map (stS a b pl fB fD beg))) [(stS a b pl fB fD beg r:Int)]=true:=by simp[C1];omega
   have ap4:C1 64 ((A0k (d0e l b_) (e6 a b pl beg) r).map (fun r=>j04 l (stH a b pl fB fD beg r))) [j04 l (stH a b pl fB fD beg r)]=true:=by simp[C1];omega
   have ap5:C1 40 ((A0k (d0e l b_) (e6 a b pl beg) r).map (stH a b pl fB fD beg)) [(j04 l (stH a b pl fB fD beg r)).Hop]=true:=by simp[C1];omega
   have hap:=K0X (F:=F) (marks:=(j04 l (stH a b pl fB fD beg r)).marks) (now:=at_) (none_:=-1) (show(gt (goV l at_ vals beg) (stS a b pl fB fD beg r:Int)).length<=1000 by omega) (show(OfF l (stH a b pl fB fD beg r).Steps).length<=1000000000 by have:=(N0C K C (b_:=b_) (beg:=beg) h0).1;have:=E0y l (stH a b pl fB fD beg r).Steps;omega);have hav:A0G at_ (-1) (gt (goV l at_ vals beg) (stS a b pl fB fD beg r:Int)) (j04 l (stH a b pl fB fD beg r)).marks=stV l a b at_ pl vals fB fD beg r:=rfl;rw[hav]at hap;simp only[q0,hpk,k3,ap1,C0f k2,C0B k2,hsrc,v2,hrin,hroad,hap,ap2,ap3,ap4,ap5,hne,F0d,map_append,map_cons,map_nil];rfl
set_option maxHeartbeats 2000000 in
def S0k (K:B0H l n a b e z F)(C:B02 l n pl vals fB fD)(hw:∀x∈l,l02 x){b_:Int}(hb:inK .u8 b_)(beg:Bool)(ha0:0<=at_)(ha1:at_<=1000000)(hw0:0<=work)(hw1:work<=1000000000000):
  E0Z F (mkC l n a b e z at_ work pl vals fB fD) b_ beg=some (mkC l n a b e z (at_+1) (work+stW l n a b pl b_ beg) (stP l n a b pl b_ beg) ((stP l n a b pl b_ beg).map (stV l a b at_ pl vals fB fD beg))
   (A0Q l (goB pl beg fB) ((stP l n a b pl b_ beg).map (stS a b pl fB fD beg)) ((stP l n a b pl b_ beg).map (stH a b pl fB fD beg))) (A0R l (goB pl beg fB) (goD pl beg fD) ((stP l n a b pl b_ beg).map (stS a b pl fB fD beg)) ((stP l n a b pl b_ beg).map (stH a b pl fB fD beg)))):=by
 have f1:=K.f1;have hn:=K.T.n64;have hM:=J0z K C beg;have hWl:=D0B a b pl beg;have hrng:=J0U K C b_ beg;have hto:=W09 (F:=F) (c:=mkC l n a b e z at_ work pl vals fB fD) (g:=⟨goV l at_ vals beg,(e6 a b pl beg).map (fun w=>w.map (j04 l)),b0U (goM pl beg) (goB pl beg fB) (goD pl beg fD)⟩) hw K.hn hn f1 rfl hb (fun i hi=>⟨(H0i K C beg i hi).1,(H0i K C beg i hi).2.1⟩) (by omega) rfl;have hloop:=j0K (step:=E00 F ⟨goV l at_ vals beg,(e6 a b pl beg).map (fun w=>w.map (j04 l)),b0U (goM pl beg) (goB pl beg fB) (goD pl beg fD)⟩ ((List.range n).map (C0j l (d0e l b_) (e6 a b pl beg) (e6 a b pl beg).length 0)))
  (fun r=>(a0B (A0k (d0e l b_) (e6 a b pl beg) r),(A0k (d0e l b_) (e6 a b pl beg) r).map (stV l a b at_ pl vals fB fD beg),(r:Int),⟨C0y l n a b e z,at_,work+(B0W (d0e l b_) (e6 a b pl beg) r:Int),a0B pl,vals,b0U pl.length fB fD⟩,
    (a0B ((A0k (d0e l b_) (e6 a b pl beg) r).map (stS a b pl fB fD beg)),(A0k (d0e l b_) (e6 a b pl beg) r).map (fun r=>j04 l (stH a b pl fB fD beg r)),(A0k (d0e l b_) (e6 a b pl beg) r).map (stH a b pl fB fD beg))))
  (a0B (stP l n a b pl b_ beg),(stP l n a b pl b_ beg).map (stV l a b at_ pl vals fB fD beg),⟨C0y l n a b e z,at_,work+(B0W (d0e l b_) (e6 a b pl beg) n:Int),a0B pl,vals,b0U pl.length fB fD⟩,
    (a0B ((stP l n a b pl b_ beg).map (stS a b pl fB fD beg)),(stP l n a b pl b_ beg).map (fun r=>j04 l (stH a b pl fB fD beg r)),(stP l n a b pl b_ beg).map (stH a b pl fB fD beg))) n
  (fun r hr=>.inl (X0l K C b_ beg hw0 hw1 hr)) ?_ n 0 F (by omega) (by omega)
 ·have hz:work+(B0W (d0e l b_) (e6 a b pl beg) 0:Int)=work:=by simp[B0W]
  rw[hz]at hloop;have h2:iter (E00 F ⟨goV l at_ vals beg,(e6 a b pl beg).map (fun w=>w.map (j04 l)),b0U (goM pl beg) (goB pl beg fB) (goD pl beg fD)⟩ ((List.range n).map (C0j l (d0e l b_) (e6 a b pl beg) (e6 a b pl beg).length 0))) F ([],[],0,mkC l n a b e z at_ work pl vals fB fD,([],[],[]))=_:=hloop;unfold E0Z;rw[T0s K C beg];simp only[F1,hto,h2];have hl:(C0y l n a b e z).l=l:=rfl;have hnx:=Q0H (F:=F) hw K.hR K.hn (show 2000<F by omega) K.TF.mL (show goM pl beg<=1000 by omega) (G0x C beg) (K0r K C b_ beg);simp only[hl,hnx,F1,List.length_map,E0u];have htg:(C0y l n a b e z).tags=f0n l:=rfl;obtain⟨q1,q2,q3,q4,q5,q6,q7⟩:=hrng;rw[htg,c0R (n:=at_+1) (by omega) (by omega),c0R (n:=((stP l n a b pl b_ beg).length:Int)*f0n l) (by omega) (by omega),c0R (n:=((stP l n a b pl b_ beg).length:Int)*((stP l n a b pl b_ beg).length:Int)) (by omega) (by omega),c0R (n:=((stP l n a b pl b_ beg).length:Int)*f0n l+((stP l n a b pl b_ beg).length:Int)*((stP l n a b pl b_ beg).length:Int)) (by omega) (by omega)];rw[c0R (n:=work+(B0W (d0e l b_) (e6 a b pl beg) n:Int)+(((stP l n a b pl b_ beg).length:Int)*f0n l+((stP l n a b pl b_ beg).length:Int)*((stP l n a b pl b_ beg).length:Int))) (by omega) (by omega)];have hww:work+(B0W (d0e l b_) (e6 a b pl beg) n:Int)+(((stP l n a b pl b_ beg).length:Int)*f0n l+((stP l n a b pl b_ beg).length:Int)*((stP l n a b pl b_ beg).length:Int))=work+stW l n a b pl b_ beg:=by unfold stW;omega
  rw[hww];rfl
 ·unfold E00;have h1:¬((n:Int)<(((List.range n).map (C0j l (d0e l b_) (e6 a b pl beg) (e6 a b pl beg).length 0)).length:Int)):=by simp
  simp only[q0,h1];rfl
end
