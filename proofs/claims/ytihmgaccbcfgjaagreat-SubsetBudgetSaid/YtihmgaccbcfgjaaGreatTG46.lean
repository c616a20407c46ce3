/- P. Its conditions: none. -/
import Derived.Test.YtihmgaccbcfgjaaGreatTG45
import Derived.Test.YtihmgaccbcfgjaaGreatTX15
open List (mem_of_getElem? range_succ map_append mem_filter mem_append mem_map map_cons map_nil append_nil)
open Bool (false_eq_true)
set_option linter.all false
namespace Go.Proofs.YtihmgaccbcfgjaaGreat
open Go.V Go.RowKit Old
def wrap_u64 {n:Nat}(h:n<18446744073709551616):IntKind.wrap .u64 (n:Int)=n:=by
 simp[IntKind.wrap,IntKind.bits,IntKind.signed];omega
def w0U (x y:BitVec 64):Q2 .u64 (x.toNat:Int) (y.toNat:Int)=((x&&& y).toNat:Int):=by
 unfold Q2;simp only[IntKind.bits,BitVec.ofInt_natCast,BitVec.ofNat_toNat,BitVec.setWidth_eq];exact wrap_u64 (x&&& y).isLt
def G0K {k:Nat}(h:k<64):shl .u64 1 (k:Int)=((BitVec.twoPow 64 k).toNat:Int):=by
 have h1:min k 64=k:=O'
 have c:2 ^ k<18446744073709551616:=Nat.pow_lt_pow_right (a:=2) O' (show k<64 from h);unfold shl;rw[show(IntKind.u64).bits=64 from rfl,Int.toNat_natCast,h1,Int.one_mul,BitVec.toNat_twoPow,Nat.mod_eq_of_lt c];rw[show((2:Int) ^ k)=((2 ^ k:Nat):Int) from X'];exact wrap_u64 c
def D00 (x:BitVec 64){k:Nat}(h:k<64):shr .u64 (x.toNat:Int) (k:Int)=((x >>> k).toNat:Int):=by
 have h1:min k 64=k:=O'
 unfold shr;rw[show(IntKind.u64).bits=64 from rfl,Int.toNat_natCast,h1,BitVec.toNat_ushiftRight,Nat.shiftRight_eq_div_pow,show((2:Int) ^ k)=((2 ^ k:Nat):Int) from X',Int.fdiv_eq_ediv_of_nonneg _ (Int.natCast_nonneg _),Int.natCast_ediv]
def D0A {v:Int}(d:0<=v)(h1:v<18446744073709551616){k:Nat}(hk:k<64):(Q2 .u64 v (shl .u64 1 (k:Int)) != 0)=(Q2 .u64 (shr .u64 v (k:Int)) 1==1):=by
 obtain⟨x,rfl⟩:∃x:BitVec 64,v=(x.toNat:Int):=⟨BitVec.ofNat 64 v.toNat,by rw[BitVec.toNat_ofNat,Nat.mod_eq_of_lt O'];omega⟩
 rw[G0K hk,D00 x hk,w0U,show(1:Int)=((BitVec.twoPow 64 0).toNat:Int)from rfl,w0U,BitVec.and_twoPow,BitVec.and_twoPow];have c:(x >>> k).getLsbD 0=x.getLsbD k:=X'
 rw[c];have hp:(BitVec.twoPow 64 k).toNat≠0:=by
  rw[BitVec.toNat_twoPow,Nat.mod_eq_of_lt (Nat.pow_lt_pow_right (a:=2) O' (show k<64 from hk))];exact Nat.ne_of_gt (Nat.two_pow_pos k)
 cases x.getLsbD k with
 |false=>simp
 |true=>
  have:((BitVec.twoPow 64 k).toNat:Int)≠0:=O'
  simp only[if_true,bne_iff_ne,ne_eq,this,not_false_eq_true,beq_self_eq_true,bne,beq_eq_false_iff_ne.2 this,Bool.not_false]
def hasB (s:List Int)(b:Int):Bool:=Q2 .u64 (gt s (Int.tdiv b 64)) (shl .u64 1 (Int.tmod b 64)) != 0
def t0N (fuel:Nat){s:List Int}(hs:s.length=4/\∀y∈s,L5 .u64 y){b:Int}(j:L5 .u8 b):e0H fuel s b=some (hasB s b)/\w0t fuel s (W b)=some (hasB s b):=by
 have m:0<=b/\b<256:=⟨j.1,by have:=j.2;rw[show IntKind.u8.max=255 from rfl]at this;omega⟩
 obtain⟨n,rfl⟩:∃n:Nat,b=n:=⟨b.toNat,O'⟩
 have hn:n<256:=O'
 have hd:Int.tdiv (n:Int) 64=((n / 64:Nat):Int):=by rw[Int.tdiv_eq_ediv_of_nonneg O'];simp
 have hm:Int.tmod (n:Int) 64=((n % 64:Nat):Int):=by rw[Int.tmod_eq_emod_of_nonneg O'];simp
 have f:IntKind.wrap .u8 ((n / 64:Nat):Int)=((n / 64:Nat):Int):=by simp[IntKind.wrap,IntKind.bits,IntKind.signed];omega
 have g:W (n:Int)=n:=r0d O';have d:W ((n / 64:Nat):Int)=((n / 64:Nat):Int):=r0d O';have q:v0w 4 ((n / 64:Nat):Int)=true:=by simp[v0w];omega
 have c:=hs.2 _ (mem_of_getElem? (P4 (l:=s) (i:=n / 64) O'));have h:0<=gt s ((n / 64:Nat):Int)/\gt s ((n / 64:Nat):Int)<18446744073709551616:=⟨c.1,by have:=c.2;rw[show IntKind.u64.max=18446744073709551615 from rfl]at this;omega⟩
 have v:(0:Int)<=((n % 64:Nat):Int):=O'
 unfold e0H w0t hasB;have t:(0:Int)<=((n / 64:Nat):Int):=O'
 have k:((n / 64:Nat):Int)<4:=O'
 have o:¬((n % 64:Nat):Int)<0:=O'
 have p:(n:Int)>=0:=O'
 have u:(n:Int)<256:=O'
 simp only[q0,g,hd,hm,f,d,t,k,o,p,u,Bool.and_self,D0A h.1 h.2 (show n % 64<64 from O'),and_self]
def F8 (ws:List B0)(r:Nat):Option B0:=ws.find? fun h=>h.To==(r:Int)
def c02 (ws:List B0)(r:Nat):B0:=(F8 ws r).getD ⟨0,0,[]⟩
def T3 (Ws:List (List B0))(r k:Nat):List Nat:=(List.range k).filter fun i=>(F8 (Ws.getD i []) r).isSome
def l7 (Ws:List (List B0))(r k:Nat):List B0:=(T3 Ws r k).map fun i=>c02 (Ws.getD i []) r
def t04 (Ws:List (List B0))(r k:Nat):T3 Ws r (k+1)=T3 Ws r k++if(F8 (Ws.getD k []) r).isSome then[k]else[]:=by
 unfold T3;rw[range_succ,List.filter_append];congr 1;cases h:(F8 (Ws.getD k []) r).isSome
 ·simp only[List.filter_cons,h,false_eq_true,if_false,List.filter_nil]
 ·simp only[List.filter_cons,h,if_true,List.filter_nil]
def y0S (Ws:List (List B0))(r k:Nat):l7 Ws r (k+1)=l7 Ws r k++if(F8 (Ws.getD k []) r).isSome then[c02 (Ws.getD k []) r]else[]:=by
 unfold l7;rw[t04,map_append];congr 1;split<;>rfl
def w0x {Ws:List (List B0)}{r k i:Nat}(h:i∈T3 Ws r k):i<k:=List.mem_range.1 (mem_filter.1 h).1
def s0Q (Ws:List (List B0))(r k:Nat):(T3 Ws r k).length<=k:=Nat.le_trans (List.length_filter_le _ _) X'
def s06 (Ws:List (List B0))(r k:Nat):(l7 Ws r k).length=(T3 Ws r k).length:=by simp[l7]
def H0K {ws:List B0}{r:Nat}(h:(F8 ws r).isSome=true):c02 ws r∈ws/\(c02 ws r).To=r:=by
 unfold c02;cases e:F8 ws r with
 |none=>rw[e]at h;simp at h
 |some x=>
  have:=List.find?_some e;exact⟨List.mem_of_find?_eq_some e,by simpa using this⟩
def b0T (fB fD:Nat->Nat->Int)(Ws:List (List B0))(r:Nat):Nat:=(f0I fB fD (T3 Ws r Ws.length) (l7 Ws r Ws.length)).toNat
def e0Z (fB fD:Nat->Nat->Int)(Ws:List (List B0))(r:Nat):Nat:=(T3 Ws r Ws.length).getD (b0T fB fD Ws r) 0
def i0b (fB fD:Nat->Nat->Int)(Ws:List (List B0))(r:Nat):B0:=c02 (Ws.getD (e0Z fB fD Ws r) []) r
def H6 (hs:Nat->Bool)(Ws:List (List B0))(k:Nat):List Nat:=(List.range k).filter fun r=>hs r&&!(T3 Ws r Ws.length).isEmpty
def A0A (hs:Nat->Bool)(Ws:List (List B0))(k:Nat):H6 hs Ws (k+1)=H6 hs Ws k++if hs k&&!(T3 Ws k Ws.length).isEmpty then[k]else[]:=by
 unfold H6;rw[range_succ,List.filter_append];congr 1;cases h:(hs k&&!(T3 Ws k Ws.length).isEmpty)<;>simp[h]
def w09 {hs:Nat->Bool}{Ws:List (List B0)}{k i:Nat}(h:i∈H6 hs Ws k):i<k:=List.mem_range.1 (mem_filter.1 h).1
def w0W (hs:Nat->Bool)(Ws:List (List B0))(k:Nat):(H6 hs Ws k).length<=k:=Nat.le_trans (List.length_filter_le _ _) X'
def r0g (hs:Nat->Bool)(Ws:List (List B0))(k:Nat):(H6 hs Ws k).Pairwise fun a b=>a<b:=List.Pairwise.filter _ List.pairwise_lt_range
def D0w {hs:Nat->Bool}{Ws:List (List B0)}{k r:Nat}(h:r∈H6 hs Ws k):hs r=true/\T3 Ws r Ws.length≠[]:=by
 have:=(mem_filter.1 h).2;simpa using this
def D03 {fB fD:Nat->Nat->Int}{fr:List Nat}{hops:List B0}:∀k,0<k->∃j:Nat,c00 fB fD fr hops k=j/\j<k:=by
 intro k
 induction k with
 |zero=>intro h;omega
 |succ k ih=>
  intro _;rw[n0n];unfold f0E;split
  ·exact⟨k,rfl,O'⟩
  ·split
   ·exact⟨k,rfl,O'⟩
   ·rcases v03 fB fD fr hops k with h|⟨j,h,hj⟩
    ·rename_i c _;rw[h]at c;exact absurd (show(-1:Int)<0 from O') c
    ·exact⟨j,h,O'⟩
def y0K {fB fD:Nat->Nat->Int}{fr:List Nat}{hops:List B0}(h:fr≠[]):∃j:Nat,f0I fB fD fr hops=j/\j<fr.length:=D03 _ (List.length_pos_iff.2 h)
def A0s {fB fD:Nat->Nat->Int}{hops:List B0}:f0I fB fD [] hops=-1:=rfl
section
variable {fB fD:Nat->Nat->Int}{Ws:List (List B0)}{r:Nat}
def l0V (h:T3 Ws r Ws.length≠[]):f0I fB fD (T3 Ws r Ws.length) (l7 Ws r Ws.length)=(b0T fB fD Ws r:Int)/\b0T fB fD Ws r<(T3 Ws r Ws.length).length:=by
 obtain⟨j,h1,c⟩:=y0K (fB:=fB) (fD:=fD) (hops:=l7 Ws r Ws.length) h;unfold b0T;rw[h1];exact⟨rfl,c⟩
def v0c (h:T3 Ws r Ws.length≠[]):e0Z fB fD Ws r∈T3 Ws r Ws.length:=by
 have:=(l0V (fB:=fB) (fD:=fD) h).2;unfold e0Z;rw[show(T3 Ws r Ws.length).getD (b0T fB fD Ws r) 0=(T3 Ws r Ws.length)[b0T fB fD Ws r]from by simp[List.getD,this]];exact List.getElem_mem this
def e0o (h:T3 Ws r Ws.length≠[]):e0Z fB fD Ws r<Ws.length:=w0x (v0c h)
def H0C (h:T3 Ws r Ws.length≠[]):gt (l7 Ws r Ws.length) (b0T fB fD Ws r:Int)=i0b fB fD Ws r:=by
 have:=(l0V (fB:=fB) (fD:=fD) h).2;refine X2 ?_;unfold i0b e0Z l7;simp[List.getD,this]
def i0V (h:T3 Ws r Ws.length≠[]):i0b fB fD Ws r∈Ws.getD (e0Z fB fD Ws r) []/\(i0b fB fD Ws r).To=r:=H0K (mem_filter.1 (v0c h)).2
end
def t0V (hs:Nat->Bool)(Ws:List (List B0)):Nat->Nat
 |0=>0
 |r+1=>t0V hs Ws r+if hs r then(T3 Ws r Ws.length).length else 0
end Go.Proofs.YtihmgaccbcfgjaaGreat
namespace Go.Proofs.YtihmgaccbcfgjaaGreat
open Go.V Go.RowKit Old Go.X
section
variable {F:Nat}{l:List C0}{n:Nat}
def x0Z {ws:List B0}{j r:Nat}(c:j<ws.length)(h:(gt ws (j:Int)).To≠(r:Int)):F8 (ws.take (j+1)) r=F8 (ws.take j) r:=by
 unfold F8;rw[List.take_succ,P4 c,List.find?_append];simp[List.find?_cons,h]
def y0t {n:Nat}{ws:List B0}(hw:K8 n ws){j r:Nat}(d:j<ws.length)(h:(gt ws (j:Int)).To=(r:Int)):F8 (ws.take (j+1)) r=some (gt ws (j:Int))/\F8 (ws.take j) r=none:=by
 have c:F8 (ws.take j) r=none:=by
  unfold F8;rw[List.find?_eq_none];intro x g;obtain⟨i,hi,he⟩:=List.mem_iff_getElem.1 g;simp only[List.length_take]at hi;have hd:=List.pairwise_iff_getElem.1 hw.dist i j O' d O';rw[List.getElem_take]at he;rw[<-he];have f:gt ws (j:Int)=ws[j]:=X2 (by simp[d]);rw[f]at h;simp only[beq_iff_eq];omega
 refine⟨?_,c⟩;unfold F8 at c ⊢;rw[List.take_succ,P4 d,List.find?_append,c];simp[h]
def setOf (l:List C0){n:Nat}(hn:n=N0 l l.length)(hw:∀x∈l,P2 x){r:Nat}(g:r<n):y0 ((G2 l l.length).map fun q=>(gt l q).Set) (r:Int)=true/\gtZ 4 ((G2 l l.length).map fun q=>(gt l q).Set) (r:Int)=(gt l (gt (G2 l l.length) (r:Int))).Set/\
  ((gt l (gt (G2 l l.length) (r:Int))).Set.length=4/\∀y∈(gt l (gt (G2 l l.length) (r:Int))).Set,L5 .u64 y):=by
 obtain⟨q,d,c,f⟩:=l0e l hn (x:=(r:Int)) O' O';have hlen:=K9 l l.length;refine⟨V0 O' Z',?_,?_⟩
 ·unfold gtZ;have:(G2 l l.length)[r]?=some (gt (G2 l l.length) (r:Int)):=P4 O';exact @X2 _ ⟨List.replicate 4 0⟩ _ _ _ (by rw[List.getElem?_map,this];rfl)
 ·rw[c];have:=hw _ (mem_of_getElem? (P4 (l:=l) (i:=q) d));exact this.2.2.2.2
def s7 (l:List C0)(b_:Int)(r:Nat):Bool:=hasB (gt l (gt (G2 l l.length) (r:Int))).Set b_
end
def Z1 (a:List B0)(b:Nat->List B0)(pl:List Nat)(E0:Bool):List (List B0):=pl.map b++if E0 then[a]else[]
def goV (l:List C0)(at_:Int)(vals:List (List Int))(E0:Bool):List (List Int):=vals++if E0 then[k0o l at_]else[]
def C5 (pl:List Nat)(E0:Bool):Nat:=if E0 then pl.length+1 else pl.length
def F5 (pl:List Nat)(E0:Bool)(fB:Nat->Nat->Int):Nat->Nat->Int:=if E0 then g0x pl.length fB else fB
def a6 (pl:List Nat)(E0:Bool)(fD:Nat->Nat->Int):Nat->Nat->Int:=if E0 then e0R pl.length fD else fD
def d0B (a:List B0)(b:Nat->List B0)(pl:List Nat)(E0:Bool):(Z1 a b pl E0).length=C5 pl E0:=by unfold Z1 C5;cases E0<;>simp
section
variable {F:Nat}{l:List C0}{n:Nat}{a:List B0}{b:Nat->List B0}{e:Nat->B0×Bool}{z:B0×Bool}{at_ work:Int}{pl:List Nat}{vals:List (List Int)}{fB fD:Nat->Nat->Int}
def B0I (C:R3 l n pl vals fB fD)(E0:Bool):(goV l at_ vals E0).length=C5 pl E0:=by unfold goV C5;cases E0<;>simp[C.len]
def l0W (C:R3 l n pl vals fB fD)(E0:Bool):a0y (C5 pl E0) (F5 pl E0 fB) (a6 pl E0 fD):=by
 unfold C5 F5 a6;cases E0 with
 |false=>exact C.rk
 |true=>exact H0m C.rk
def z0G (C:R3 l n pl vals fB fD)(E0:Bool):∀v∈goV l at_ vals E0,v.length=(C4 l).toNat:=by
 intro v c;unfold goV at c;rcases mem_append.1 c with h|h
 ·exact C.row v h
 ·cases E0 with
  |false=>simp at h
  |true=>simp at h;subst h;exact B0S l at_
def l0d (K:U3 l n a b e z F)(C:R3 l n pl vals fB fD)(E0:Bool):∀i,i<(Z1 a b pl E0).length->K8 n ((Z1 a b pl E0).getD i [])/\((Z1 a b pl E0).getD i []).length<=500000/\(∀h∈(Z1 a b pl E0).getD i [],b0j n h)/\p9 800 ((Z1 a b pl E0).getD i []):=by
 intro i hi;have hm:(Z1 a b pl E0).getD i []∈Z1 a b pl E0:=by
  rw[show(Z1 a b pl E0).getD i []=(Z1 a b pl E0)[i]from by simp[List.getD,hi]];exact List.getElem_mem hi
 have hop:∀{ws:List B0},K8 n ws->a0L ws->∀h∈ws,b0j n h:=fun hw d h c=>⟨(hw.ok h c).1,(hw.ok h c).2.1,(d h c).1,(d h c).2⟩
 generalize (Z1 a b pl E0).getD i []=ws at *;unfold Z1 at hm;rcases mem_append.1 hm with h|h
 ·obtain⟨p,hp,rfl⟩:=mem_map.1 h;have:=C.pln p hp;exact⟨K.T.bw p this,K.T.bl p this,hop (K.T.bw p this) (K.T.bT p this),K.T.bb p this⟩
 ·cases E0 with
  |false=>simp at h
  |true=>simp at h;subst h;exact⟨K.T.aw,K.T.al,hop K.T.aw K.T.aT,K.T.ab⟩
def Z3 (l:List C0)(n:Nat)(a:List B0)(b:Nat->List B0)(pl:List Nat)(b_:Int)(E0:Bool):List Nat:=H6 (s7 l b_) (Z1 a b pl E0) n
def T5 (a:List B0)(b:Nat->List B0)(pl:List Nat)(fB fD:Nat->Nat->Int)(E0:Bool)(r:Nat):Nat:=e0Z (F5 pl E0 fB) (a6 pl E0 fD) (Z1 a b pl E0) r
def V5 (a:List B0)(b:Nat->List B0)(pl:List Nat)(fB fD:Nat->Nat->Int)(E0:Bool)(r:Nat):B0:=i0b (F5 pl E0 fB) (a6 pl E0 fD) (Z1 a b pl E0) r
def stV (l:List C0)(a:List B0)(b:Nat->List B0)(at_:Int)(pl:List Nat)(vals:List (List Int))(fB fD:Nat->Nat->Int)(E0:Bool)(r:Nat):List Int:=
 Z9 at_ (-1) (gt (goV l at_ vals E0) (T5 a b pl fB fD E0 r:Int)) (a7 l (V5 a b pl fB fD E0 r).Steps)
def stW (l:List C0)(n:Nat)(a:List B0)(b:Nat->List B0)(pl:List Nat)(b_:Int)(E0:Bool):Int:=
 (t0V (s7 l b_) (Z1 a b pl E0) n:Int)+(((Z3 l n a b pl b_ E0).length:Int)*C4 l+((Z3 l n a b pl b_ E0).length:Int)*((Z3 l n a b pl b_ E0).length:Int))
def c09 {b_:Int}{E0:Bool}{r:Nat}(h:r∈Z3 l n a b pl b_ E0):r<n/\T3 (Z1 a b pl E0) r (Z1 a b pl E0).length≠[]:=⟨w09 h,(D0w h).2⟩
def I0Y {b_:Int}{E0:Bool}:(Z3 l n a b pl b_ E0).length<=n:=w0W _ _ _
def w0s (K:U3 l n a b e z F)(C:R3 l n pl vals fB fD)(b_:Int)(E0:Bool):q0J l n (C5 pl E0) ((Z3 l n a b pl b_ E0).map (T5 a b pl fB fD E0)) ((Z3 l n a b pl b_ E0).map (V5 a b pl fB fD E0)) where
 lt i hi:=by
  obtain⟨r,c,rfl⟩:=mem_map.1 hi;rw[<-d0B a b];exact e0o (c09 c).2
 len:=X'
 le:=by have:=I0Y (l:=l) (n:=n) (a:=a) (b:=b) (pl:=pl) (b_:=b_) (E0:=E0);have:=K.T.n64;simp;omega
 hop x d:=by
  obtain⟨r,c,rfl⟩:=mem_map.1 d;have hm:=i0V (fB:=F5 pl E0 fB) (fD:=a6 pl E0 fD) (c09 c).2;exact(l0d K C E0 _ (e0o (c09 c).2)).2.2.1 _ hm.1
 asc:=by
  rw[List.pairwise_map];refine(r0g _ _ _).imp_of_mem fun {x y} d f g=>?_;have h1:=(i0V (fB:=F5 pl E0 fB) (fD:=a6 pl E0 fD) (c09 d).2).2;have h:=(i0V (fB:=F5 pl E0 fB) (fD:=a6 pl E0 fD) (c09 f).2).2;unfold V5;rw[h1,h];omega
def m07 {V:List (List Int)}{m:Nat}(h:∀v∈V,v.length=(C4 l).toNat)(hl:V.length=m){k:Nat}(hk:k<m):(gt V (k:Int)).length=(C4 l).toNat/\y0 V (k:Int)=true:=
 ⟨h _ (mem_of_getElem? (P4 O')),V0 O' O'⟩
def C0W (K:U3 l n a b e z F)(C:R3 l n pl vals fB fD)(hw:∀x∈l,P2 x)(b_:Int)(E0:Bool):
  R3 l n (Z3 l n a b pl b_ E0) ((Z3 l n a b pl b_ E0).map (stV l a b at_ pl vals fB fD E0)) (u6 l (F5 pl E0 fB) ((Z3 l n a b pl b_ E0).map (T5 a b pl fB fD E0)) ((Z3 l n a b pl b_ E0).map (V5 a b pl fB fD E0))) (Q6 l (F5 pl E0 fB) (a6 pl E0 fD) ((Z3 l n a b pl b_ E0).map (T5 a b pl fB fD E0)) ((Z3 l n a b pl b_ E0).map (V5 a b pl fB fD E0))) where
 len:=X'
 pln r c:=(c09 c).1
 asc:=r0g _ _ _
 row v hv:=by
  obtain⟨r,c,rfl⟩:=mem_map.1 hv;unfold stV;rw[e0V];exact(m07 (z0G C E0) (B0I C E0) (by rw[<-d0B a b];exact e0o (c09 c).2)).1
 rk:=by
  have g:=w0s K C b_ E0;have:=t07 hw K.hR K.hn (l0W C E0) g.lt g.len g.hop g.asc;simpa using this
end
section
variable {F:Nat}{l:List C0}{n:Nat}{a:List B0}{b:Nat->List B0}{e:Nat->B0×Bool}{z:B0×Bool}{at_ work:Int}{pl:List Nat}{vals:List (List Int)}{fB fD:Nat->Nat->Int}
def A0d (K:U3 l n a b e z F)(C:R3 l n pl vals fB fD)(E0:Bool)(r:Nat):(T3 (Z1 a b pl E0) r (Z1 a b pl E0).length).length<=500/\∀i∈T3 (Z1 a b pl E0) r (Z1 a b pl E0).length,i<C5 pl E0:=by
 have hm:=C.le;have hn:=K.T.n64;have h1:=s0Q (Z1 a b pl E0) r (Z1 a b pl E0).length;rw[d0B]at h1;refine⟨by
       have:C5 pl E0<=pl.length+1:=by unfold C5;split<;>omega
       rw[d0B];omega,fun i hi=>?_⟩
 rw[<-d0B a b];exact w0x hi
def t0H (K:U3 l n a b e z F)(C:R3 l n pl vals fB fD)(E0:Bool):C5 pl E0<=401:=by
 have hm:=C.le;have hn:=K.T.n64;unfold C5;split<;>omega
def H0f (K:U3 l n a b e z F)(C:R3 l n pl vals fB fD){b_:Int}{E0:Bool}{r:Nat}(h:T3 (Z1 a b pl E0) r (Z1 a b pl E0).length≠[]):(V5 a b pl fB fD E0 r).Steps.length<=2000000/\N2 800 (V5 a b pl fB fD E0 r).Steps:=by
 have hm:=i0V (fB:=F5 pl E0 fB) (fD:=a6 pl E0 fD) h;have hw:=l0d K C E0 _ (e0o (fB:=F5 pl E0 fB) (fD:=a6 pl E0 fD) h);exact⟨(hw.1.ok _ hm.1).2.2,hw.2.2.2 _ hm.1⟩
set_option maxHeartbeats 2000000 in
set_option maxHeartbeats 2000000 in
end
section
variable {F:Nat}{l:List C0}{n:Nat}{a:List B0}{b:Nat->List B0}{e:Nat->B0×Bool}{z:B0×Bool}{at_ work:Int}{pl:List Nat}{vals:List (List Int)}{fB fD:Nat->Nat->Int}
abbrev xT (l:List C0)(n:Nat)(a:List B0)(b:Nat->List B0)(e:Nat->B0×Bool)(at_ work:Int)(places:List Int)(tags:List (List Int))(c:D2):(List C0)×(List Int)×(List B0)×(List (List B0))×(List (List Int))×Int×Int×(List Int)×(List (List Int))×D2:=
 (l,G2 l l.length,a,(List.range n).map b,(List.range n).map fun p=>(e p).1.Steps,at_,work,places,tags,c)
set_option maxHeartbeats 2000000 in
set_option maxHeartbeats 2000000 in
end
abbrev Fb:Nat:=10000000000000
def E02 {p:List C0}(h:wfD en 20 (.list (.st 3)) p):∀x∈p,P2 x:=fun x j=>by
 obtain⟨h1,g,c,d,⟨i,f⟩,_⟩:=h x j;exact⟨h1,g,c,d,i,f⟩
def gtm {α:Type}[Inhabited α]{l:List α}{i:Nat}(h:i<l.length):gt l (i:Int)∈l:=mem_of_getElem? (P4 h)
section
variable {l:List C0}
def y05 (hR:L2 l=false)(hl:l.length*64<=140737488351232)(c:l.length<=1000):l6 Fb l=some false/\U6 Fb l=some false:=by
 refine⟨s9 i0m (by rw[Old.c0y l (show 401<Fb by unfold Fb;omega),hR]),s9 o01 (by rw[Old.e02 l hl (show l.length+1<Fb by unfold Fb;omega),hR])⟩
def known (hw:∀x∈l,P2 x)(hR:L2 l=true)(hl:l.length*64<=140737488351232)(c:l.length<=1000):∃a b e z,U3 l (N0 l l.length) a b e z Fb:=by
 obtain⟨a,b,e,z,T,TF⟩:=q0E hw hl hR;exact⟨a,b,e,z,hR,hl,rfl,T,by unfold Fb;omega,by unfold Fb;omega,by unfold Fb;omega,TF Fb (by unfold Fb;omega) (by unfold Fb;omega)⟩
def B0r (l:List C0)(n:Nat):R3 l n [] [] (fun _ _=>0) (fun _ _=>0) where
 len:=rfl
 pln:=by intro p h;cases h
 asc:=List.Pairwise.nil
 row:=by intro v h;cases h
 rk:=⟨fun i k h=>by simp at h,fun i h=>rfl,fun i h=>rfl,fun i k h=>by simp at h,fun i k h=>by simp at h⟩
end
def b0I (l:List C0):List Int:=(List.replicate (C4 l).toNat (-2)).set 0 (-1)
def a0F (l:List C0)(maps:List (List Int))(E0:Bool):List (List Int):=maps++if E0 then[b0I l]else[]
def goG (l:List C0)(a:List B0)(b:Nat->List B0)(pl:List Nat)(maps:List (List Int))(E0:Bool):List G5:=((List.range pl.length).map fun(i:Nat)=>(⟨gt maps (i:Int),b (pl.getD i 0)⟩:G5))++if E0 then[⟨b0I l,a⟩]else[]
def z8 (flag:Int)(pl:List Nat)(maps:List (List Int))(fB fD:Nat->Nat->Int):F1:=⟨flag,D1 pl,maps,U2 pl.length fB fD⟩
def stM (l:List C0)(a:List B0)(b:Nat->List B0)(pl:List Nat)(maps:List (List Int))(fB fD:Nat->Nat->Int)(E0:Bool)(r:Nat):List Int:=
 Z9 (-1) (-2) (gt (a0F l maps E0) (T5 a b pl fB fD E0 r:Int)) (a7 l (V5 a b pl fB fD E0 r).Steps)
def q0p (l:List C0):(b0I l).length=(C4 l).toNat:=by simp[b0I]
section
variable {F:Nat}{l:List C0}{n:Nat}{a:List B0}{b:Nat->List B0}{e:Nat->B0×Bool}{z:B0×Bool}{pl:List Nat}{maps:List (List Int)}{fB fD:Nat->Nat->Int}{flag:Int}
def s0j (C:R3 l n pl maps fB fD)(E0:Bool):(a0F l maps E0).length=C5 pl E0:=by unfold a0F C5;cases E0<;>simp[C.len]
def w0K (C:R3 l n pl maps fB fD)(E0:Bool):∀v∈a0F l maps E0,v.length=(C4 l).toNat:=by
 intro v c;unfold a0F at c;rcases mem_append.1 c with h|h
 ·exact C.row v h
 ·cases E0 with
  |false=>simp at h
  |true=>simp at h;subst h;exact q0p l
def s02 (E0:Bool):(goG l a b pl maps E0).length=C5 pl E0:=by unfold goG C5;cases E0<;>simp
def t0v (C:R3 l n pl maps fB fD){E0:Bool}{i:Nat}(hi:i<C5 pl E0):gt (goG l a b pl maps E0) (i:Int)=⟨gt (a0F l maps E0) (i:Int),(Z1 a b pl E0).getD i []⟩:=by
 have c:=C.len;refine X2 ?_;unfold goG a0F Z1;unfold C5 at hi
 by_cases h:i<pl.length
 ·have e:(pl.map b++if E0 then[a]else[]).getD i []=b (pl.getD i 0):=by
   rw[List.getD_eq_getElem?_getD,List.getElem?_append_left (by simp[h])];simp[List.getD,h]
  rw[List.getElem?_append_left (by simp[h]),b0Y O' O',e];simp[h]
 ·cases E0 with
  |false=>simp at hi;omega
  |true=>
   simp only[if_true]at hi;have e:i=pl.length:=O'
   subst e;rw[List.getElem?_append_right X'];simp only[if_true];rw[e0v c.symm];simp[List.getD]
def t0l (K:U3 l n a b e z F):g0P F l=some (b0I l):=by
 have f1:=K.f1;have d:=a07 l;obtain⟨t,c⟩:∃t:Nat,C4 l=t:=⟨(C4 l).toNat,O'⟩
 unfold g0P b0I;rw[o0r K.hR O',c];simp only[G0,F0o (F:=F) (n:=t) (x:=-2) O' O',Int.toNat_natCast];rw[if_pos (V0 O' Z')];rfl
def y0j (K:U3 l n a b e z F)(C:R3 l n pl maps fB fD){E0:Bool}(c:(flag==0)=!E0):i0L F l (z8 flag pl maps fB fD) =
  some (goG l a b pl maps E0,U2 (C5 pl E0) (F5 pl E0 fB) (a6 pl E0 fD)):=by
 have f1:=K.f1;have hm:=C.le;have hn:=K.T.n64;have h:=C.len;have hl:=K.hl;unfold i0L;have:=H3 (step:=i0M F l (z8 flag pl maps fB fD)) (fun i=>((List.range i).map (fun(i:Nat)=>(⟨gt maps (i:Int),b (pl.getD i 0)⟩:G5)),(i:Int))) ((List.range pl.length).map (fun(i:Nat)=>(⟨gt maps (i:Int),b (pl.getD i 0)⟩:G5))) pl.length (fun i hi=>.inl ?_) ?_ pl.length 0 F O' O'
 ·have j:iter (i0M F l (z8 flag pl maps fB fD)) F ([],0)=_:=this;rw[j];simp only[G0,z8,c];unfold goG C5 F5 a6;cases E0 with
  |false=>simp
  |true=>
   have f:K0 48 ((List.range pl.length).map (fun(i:Nat)=>(⟨gt maps (i:Int),b (pl.getD i 0)⟩:G5))) [(⟨b0I l,a⟩:G5)]=true:=by simp[K0];omega
   have k:W ((l.length:Int)-1)=(l.length:Int)-1:=E3 O' O';simp only[q0,t0l K,k,K.TF.mA,f,B0O (show pl.length<=900 from O') (show 2000<F from O') C.rk]
 ·unfold i0M;have h1:(i:Int)<((D1 pl).length:Int):=by simp;omega
  have hp:=P8 C.pln hi;have g:y0 maps (i:Int)=true:=V0 O' O';have d:K0 48 ((List.range i).map (fun(i:Nat)=>(⟨gt maps (i:Int),b (pl.getD i 0)⟩:G5))) [(⟨gt maps (i:Int),b (pl.getD i 0)⟩:G5)]=true:=by simp[K0];omega
  simp only[q0,z8,h1,q9 hi,a0T hi,g,K.TF.mB _ hp,d,range_succ,map_append,map_cons,map_nil,X1 (i:=i) O']
 ·unfold i0M;have h1:¬((pl.length:Int)<((D1 pl).length:Int)):=X'
  simp only[q0,z8,h1]
def I0p {Ws:List (List B0)}{all:List G5}(hl:all.length=Ws.length)(hg:∀i:Nat,i<Ws.length->(gt all (i:Int)).ways=Ws.getD i [])(x:∀i,i<Ws.length->K8 n (Ws.getD i [])/\(Ws.getD i []).length<=500000)(y:Ws.length<=1000)(C:2000001<F)(r:Nat):
  j0n F all (r:Int)=some (D1 (T3 Ws r Ws.length),l7 Ws r Ws.length):=by
 unfold j0n;have:=H3 (step:=i0t F all (r:Int)) (fun i=>(D1 (T3 Ws r i),l7 Ws r i,(i:Int))) (D1 (T3 Ws r Ws.length),l7 Ws r Ws.length) Ws.length (fun i hi=>.inl ?_) ?_ Ws.length 0 F O' O'
 ·have t:iter (i0t F all (r:Int)) F ([],[],0)=_:=this;rw[t];rfl
 ·have h1:(i:Int)<(all.length:Int):=O'
  have k:y0 all (i:Int)=true:=V0 O' h1;obtain⟨p,hlen⟩:=x i hi;have c:=hg i hi;have v:=s0Q Ws r i;have w:=s06 Ws r i;have inner:=H3 (step:=h0g F all (r:Int) (i:Int)) (fun j=>(D1 (T3 Ws r i++if(F8 ((Ws.getD i []).take j) r).isSome then[i]else[]),l7 Ws r i++(if(F8 ((Ws.getD i []).take j) r).isSome then[c02 ((Ws.getD i []).take j) r]else[]),(j:Int)))
   (D1 (T3 Ws r (i+1)),l7 Ws r (i+1)) (Ws.getD i []).length (fun j q=>.inl ?_) ?_ (Ws.getD i []).length 0 F O' O'
  ·have u:F8 ((Ws.getD i []).take 0) r=none:=rfl;have e0:iter (h0g F all (r:Int) (i:Int)) F (D1 (T3 Ws r i),l7 Ws r i,0)=some (D1 (T3 Ws r (i+1)),l7 Ws r (i+1)):=by
    rw[<-inner];simp only[u,Option.isSome_none,false_eq_true,if_false,append_nil];rfl
   unfold i0t;simp only[q0,h1,k,e0,X1 (i:=i) O']
  ·unfold h0g;have f:(j:Int)<(((Ws.getD i []).length:Nat):Int):=O'
   have d:y0 (Ws.getD i []) (j:Int)=true:=V0 O' f;simp only[c,f,decide_true,if_true,d]
   by_cases g:(gt (Ws.getD i []) (j:Int)).To=(r:Int)
   ·obtain⟨t1,t2⟩:=y0t p q g;have o:((gt (Ws.getD i []) (j:Int)).To==(r:Int))=true:=beq_iff_eq.2 g;have h:K0 8 (D1 (T3 Ws r i)) [(i:Int)]=true:=by simp[K0];omega
    have m:K0 40 (l7 Ws r i) [gt (Ws.getD i []) (j:Int)]=true:=by simp[K0];omega
    simp only[q0,o,t1,t2,Option.isSome_none,append_nil,Option.isSome_some,h,m,X1 (i:=j) O',g0m];congr 4;unfold c02;rw[t1];rfl
   ·have t1:=x0Z q g;have o:((gt (Ws.getD i []) (j:Int)).To==(r:Int))=false:=beq_eq_false_iff_ne.2 g;simp only[q0,o,t1,X1 (i:=j) O'];congr 4;unfold c02;rw[t1]
  ·unfold h0g;have s:¬(((Ws.getD i []).length:Nat):Int)<(((Ws.getD i []).length:Nat):Int):=O'
   simp only[q0,c,s];rw[List.take_length,t04,y0S]
 ·unfold i0t;have h1:¬(Ws.length:Int)<(all.length:Int):=O'
  simp only[q0,h1]
set_option maxHeartbeats 2000000 in
def E07 (K:U3 l n a b e z F)(C:R3 l n pl maps fB fD)(hw:∀x∈l,P2 x){b_:Int}(hb:L5 .u8 b_)(E0:Bool){fl:Int}{rk:D2}{r:Nat}(hr:r<n):
  f01 F l b_ (U2 (C5 pl E0) (F5 pl E0 fB) (a6 pl E0 fD)) (G2 l l.length)
   (goG l a b pl maps E0,D1 ((H6 (s7 l b_) (Z1 a b pl E0) r).map (T5 a b pl fB fD E0)),(H6 (s7 l b_) (Z1 a b pl E0) r).map (V5 a b pl fB fD E0),(r:Int),(fl,D1 (H6 (s7 l b_) (Z1 a b pl E0) r),(H6 (s7 l b_) (Z1 a b pl E0) r).map (stM l a b pl maps fB fD E0),rk)) =
  some (.next (goG l a b pl maps E0,D1 ((H6 (s7 l b_) (Z1 a b pl E0) (r+1)).map (T5 a b pl fB fD E0)),(H6 (s7 l b_) (Z1 a b pl E0) (r+1)).map (V5 a b pl fB fD E0),((r+1:Nat):Int),(fl,D1 (H6 (s7 l b_) (Z1 a b pl E0) (r+1)),(H6 (s7 l b_) (Z1 a b pl E0) (r+1)).map (stM l a b pl maps fB fD E0),rk))):=by
 have f1:=K.f1;have hn:=K.T.n64;have hM:=t0H K C E0;have f:=d0B a b pl E0;obtain⟨b2,R⟩:=A0d K C E0 r;have b1:=s06 (Z1 a b pl E0) r (Z1 a b pl E0).length;have b5:=w0W (s7 l b_) (Z1 a b pl E0) r;have ht:=a07 l;have b4:=K9 l l.length;have b3:=K.hn;have hx:(r:Int)<((G2 l l.length).length:Int):=O'
 obtain⟨q,q1,q2,q3⟩:=l0e l K.hn (x:=(r:Int)) O' O';obtain⟨_,_,s3⟩:=setOf l K.hn hw hr;have hH:hasB (gt l (gt (G2 l l.length) (r:Int))).Set b_=s7 l b_ r:=rfl;have a1:=l0W C E0;have w:=I0p (F:=F) (n:=n) (Ws:=Z1 a b pl E0) (all:=goG l a b pl maps E0) (by rw[s02,f]) (fun i hi=>by rw[t0v C (by rw[<-f];exact hi)]) (fun i hi=>⟨(l0d K C E0 i hi).1,(l0d K C E0 i hi).2.1⟩) O' f1 r;unfold f01;simp only[q0,hx,q3,V0 (l:=l) (i:=gt (G2 l l.length) (r:Int)) O' O',(t0N F s3 hb).1,hH,A0A,X1 (i:=r) O',w];cases hP:s7 l b_ r with
 |false=>simp only[q0,Bool.false_and,append_nil]
 |true=>
  simp only[q0,Bool.true_and];have c:=z0O (F:=F) (n:=C5 pl E0) (fB:=F5 pl E0 fB) (fD:=a6 pl E0 fD) (fr:=T3 (Z1 a b pl E0) r (Z1 a b pl E0).length) (hops:=l7 (Z1 a b pl E0) r (Z1 a b pl E0).length) O' O' a1 b1 O' R
  by_cases d:T3 (Z1 a b pl E0) r (Z1 a b pl E0).length=[]
  ·have s:h0B F (U2 (C5 pl E0) (F5 pl E0 fB) (a6 pl E0 fD)) (D1 (T3 (Z1 a b pl E0) r (Z1 a b pl E0).length)) (l7 (Z1 a b pl E0) r (Z1 a b pl E0).length)=some (-1):=by
    rw[c,d,A0s]
   simp only[s,G0,show decide ((-1:Int)<0)=true from rfl,if_true];simp only[q0,d,List.isEmpty_nil,append_nil]
  ·obtain⟨k1,k2⟩:=l0V (fB:=F5 pl E0 fB) (fD:=a6 pl E0 fD) d;have U:(T3 (Z1 a b pl E0) r (Z1 a b pl E0).length).isEmpty=false:=by simpa using d
   rw[k1]at c;have k3:¬((b0T (F5 pl E0 fB) (a6 pl E0 fD) (Z1 a b pl E0) r:Nat):Int)<0:=O'
   have h:T5 a b pl fB fD E0 r<C5 pl E0:=by rw[<-f];exact e0o d
   obtain⟨v1,v2⟩:=m07 (w0K C E0) (s0j C E0) h;obtain⟨p1,p2⟩:=H0f K C (b_:=b_) (E0:=E0) d;have m:(((T3 (Z1 a b pl E0) r (Z1 a b pl E0).length).getD (b0T (F5 pl E0 fB) (a6 pl E0 fD) (Z1 a b pl E0) r) 0:Nat):Int)=(T5 a b pl fB fD E0 r:Int):=rfl;have o:y0 (goG l a b pl maps E0) (T5 a b pl fB fD E0 r:Int)=true:=V0 O' (by rw[s02];omega);have j:(gt (goG l a b pl maps E0) (T5 a b pl fB fD E0 r:Int)).tags=gt (a0F l maps E0) (T5 a b pl fB fD E0 r:Int):=by rw[t0v C h]
   have g:gt (l7 (Z1 a b pl E0) r (Z1 a b pl E0).length) ((b0T (F5 pl E0 fB) (a6 pl E0 fD) (Z1 a b pl E0) r:Nat):Int)=V5 a b pl fB fD E0 r:=H0C d;have k:y0 (l7 (Z1 a b pl E0) r (Z1 a b pl E0).length) ((b0T (F5 pl E0 fB) (a6 pl E0 fD) (Z1 a b pl E0) r:Nat):Int)=true:=V0 O' O';have v:K0 8 (D1 (H6 (s7 l b_) (Z1 a b pl E0) r)) [(r:Int)]=true:=by simp[K0];omega
   have I:K0 24 ((H6 (s7 l b_) (Z1 a b pl E0) r).map (stM l a b pl maps fB fD E0)) [stM l a b pl maps fB fD E0 r]=true:=by simp[K0];omega
   have J:K0 8 (D1 ((H6 (s7 l b_) (Z1 a b pl E0) r).map (T5 a b pl fB fD E0))) [(T5 a b pl fB fD E0 r:Int)]=true:=by simp[K0];omega
   have t:K0 40 ((H6 (s7 l b_) (Z1 a b pl E0) r).map (V5 a b pl fB fD E0)) [V5 a b pl fB fD E0 r]=true:=by simp[K0];omega
   have b6:=j0K l (V5 a b pl fB fD E0 r).Steps;have y:=p07 K.hR p1 K.f1 (N2.sok p2);have p:=o0k (F:=F) (marks:=a7 l (V5 a b pl fB fD E0 r).Steps) (now:=-1) (none_:=-2) (show(gt (a0F l maps E0) (T5 a b pl fB fD E0 r:Int)).length<=1000 from O') O';have u:Z9 (-1) (-2) (gt (a0F l maps E0) (T5 a b pl fB fD E0 r:Int)) (a7 l (V5 a b pl fB fD E0 r).Steps)=stM l a b pl maps fB fD E0 r:=rfl;rw[u]at p;simp only[q0,c,k3,v,q9 k2,a0T k2,m,o,j,k,g,y,p,I,J,t,U,g0m,map_append,map_cons,map_nil]
def H0h (K:U3 l n a b e z F)(C:R3 l n pl maps fB fD)(hw:∀x∈l,P2 x){b_:Int}(g:L5 .u8 b_)(E0:Bool)(fl:Int)(rk:D2):
  iter (f01 F l b_ (U2 (C5 pl E0) (F5 pl E0 fB) (a6 pl E0 fD)) (G2 l l.length)) F (goG l a b pl maps E0,[],[],0,(fl,[],[],rk)) =
   some (D1 ((Z3 l n a b pl b_ E0).map (T5 a b pl fB fD E0)),(Z3 l n a b pl b_ E0).map (V5 a b pl fB fD E0),(fl,D1 (Z3 l n a b pl b_ E0),(Z3 l n a b pl b_ E0).map (stM l a b pl maps fB fD E0),rk)):=by
 have f1:=K.f1;have hn:=K.T.n64;have d:=K9 l l.length;have c:=K.hn;have:=H3 (step:=f01 F l b_ (U2 (C5 pl E0) (F5 pl E0 fB) (a6 pl E0 fD)) (G2 l l.length))
  (fun r=>(goG l a b pl maps E0,D1 ((H6 (s7 l b_) (Z1 a b pl E0) r).map (T5 a b pl fB fD E0)),(H6 (s7 l b_) (Z1 a b pl E0) r).map (V5 a b pl fB fD E0),(r:Int),(fl,D1 (H6 (s7 l b_) (Z1 a b pl E0) r),(H6 (s7 l b_) (Z1 a b pl E0) r).map (stM l a b pl maps fB fD E0),rk)))
  (D1 ((Z3 l n a b pl b_ E0).map (T5 a b pl fB fD E0)),(Z3 l n a b pl b_ E0).map (V5 a b pl fB fD E0),(fl,D1 (Z3 l n a b pl b_ E0),(Z3 l n a b pl b_ E0).map (stM l a b pl maps fB fD E0),rk)) n
  (fun r f=>.inl (E07 K C hw g E0 f)) ?_ n 0 F O' O'
 ·exact this
 ·unfold f01;have h1:¬((n:Int)<((G2 l l.length).length:Int)):=O'
  simp only[q0,h1];rfl
end
