/- Which byte is in a set: the program and the document tell the same. All that come to places: the program's lists. One byte more: the program and the document tell the same. One byte more: the steps themselves. Its conditions: none. -/
import Derived.Test.YtdficaoajalfaaaGreatTG48
open List (mem_of_getElem? map_append mem_range mem_filter append_nil mem_map map_cons map_nil)
open Bool (false_eq_true)
set_option linter.all false
namespace Go.Proofs.YtdficaoajalfaaaGreat
open Go.V Go.RowKit Old
theorem wrap_u64 {n:Nat} (h:n<18446744073709551616):IntKind.wrap .u64 (n:Int)=n:=by
 simp [IntKind.wrap,IntKind.bits,IntKind.signed];omega
theorem a_98 (x y:BitVec 64):g_9 .u64 (x.toNat:Int) (y.toNat:Int)=((x&&& y).toNat:Int):=by
 unfold g_9
 simp only [IntKind.bits,BitVec.ofInt_natCast,BitVec.ofNat_toNat,BitVec.setWidth_eq]
 exact wrap_u64 (x&&& y).isLt
theorem b_o4 {k:Nat} (h:k<64):shl .u64 1 (k:Int)=((BitVec.twoPow 64 k).toNat:Int):=by
 have h1:min k 64=k:=by omega
 have h2:2 ^ k<18446744073709551616:=Nat.pow_lt_pow_right (a:=2) (by omega) (show k<64 from h)
 unfold shl
 rw [show (IntKind.u64).bits=64 from rfl,Int.toNat_natCast,h1,Int.one_mul,BitVec.toNat_twoPow,Nat.mod_eq_of_lt h2]
 rw [show ((2:Int) ^ k)=((2 ^ k:Nat):Int) by simp]
 exact wrap_u64 h2
theorem b_pu (x:BitVec 64) {k:Nat} (h:k<64):shr .u64 (x.toNat:Int) (k:Int)=((x >>> k).toNat:Int):=by
 have h1:min k 64=k:=by omega
 unfold shr
 rw [show (IntKind.u64).bits=64 from rfl,Int.toNat_natCast,h1,BitVec.toNat_ushiftRight,Nat.shiftRight_eq_div_pow,show ((2:Int) ^ k)=((2 ^ k:Nat):Int) by simp,Int.fdiv_eq_ediv_of_nonneg _ (Int.natCast_nonneg _),Int.natCast_ediv]
theorem b_jq {v:Int} (h0:0<=v) (h1:v<18446744073709551616) {k:Nat} (hk:k<64):(g_9 .u64 v (shl .u64 1 (k:Int)) != 0)=(g_9 .u64 (shr .u64 v (k:Int)) 1==1):=by
 obtain ⟨x,rfl⟩:∃ x:BitVec 64,v=(x.toNat:Int):=⟨BitVec.ofNat 64 v.toNat,by rw [BitVec.toNat_ofNat,Nat.mod_eq_of_lt (by omega)];omega⟩
 rw [b_o4 hk,b_pu x hk,a_98,show (1:Int)=((BitVec.twoPow 64 0).toNat:Int) from rfl,a_98,BitVec.and_twoPow,BitVec.and_twoPow]
 have hb:(x >>> k).getLsbD 0=x.getLsbD k:=by simp
 rw [hb]
 have hp:(BitVec.twoPow 64 k).toNat≠0:=by
  rw [BitVec.toNat_twoPow,Nat.mod_eq_of_lt (Nat.pow_lt_pow_right (a:=2) (by omega) (show k<64 from hk))]
  exact Nat.ne_of_gt (Nat.two_pow_pos k)
 cases x.getLsbD k with
 |false=>simp
 |
  true=>
  have:((BitVec.twoPow 64 k).toNat:Int)≠0:=by omega
  simp only [if_true,bne_iff_ne,ne_eq,this,not_false_eq_true,beq_self_eq_true,bne,beq_eq_false_iff_ne.2 this,Bool.not_false]
def hasB (s:List Int) (b:Int):Bool:=g_9 .u64 (gt s (Int.tdiv b 64)) (shl .u64 1 (Int.tmod b 64)) != 0
theorem b_im (fuel:Nat) {s:List Int} (hs:s.length=4/\∀ y∈s,inK .u64 y) {b:Int} (hb:inK .u8 b):a_mv fuel s b=some (hasB s b)/\a_kz fuel s (W b)=some (hasB s b):=by
 have hb':0<=b/\b<256:=⟨hb.1,by have:=hb.2;rw [show IntKind.u8.max=255 from rfl] at this;omega⟩
 obtain ⟨n,rfl⟩:∃ n:Nat,b=n:=⟨b.toNat,by omega⟩
 have hn:n<256:=by omega
 have hd:Int.tdiv (n:Int) 64=((n / 64:Nat):Int):=by rw [Int.tdiv_eq_ediv_of_nonneg (by omega)];simp
 have hm:Int.tmod (n:Int) 64=((n % 64:Nat):Int):=by rw [Int.tmod_eq_emod_of_nonneg (by omega)];simp
 have hw8:IntKind.wrap .u8 ((n / 64:Nat):Int)=((n / 64:Nat):Int):=by simp [IntKind.wrap,IntKind.bits,IntKind.signed];omega
 have hWn:W (n:Int)=n:=b_mg (by omega)
 have hWd:W ((n / 64:Nat):Int)=((n / 64:Nat):Int):=b_mg (by omega)
 have hin:inbN 4 ((n / 64:Nat):Int)=true:=by simp [inbN];omega
 have hmem:=hs.2 _ (mem_of_getElem? (n_3 (l:=s) (i:=n / 64) (by omega)))
 have hv:0<=gt s ((n / 64:Nat):Int)/\gt s ((n / 64:Nat):Int)<18446744073709551616:=⟨hmem.1,by have:=hmem.2;rw [show IntKind.u64.max=18446744073709551615 from rfl] at this;omega⟩
 have h0:(0:Int)<=((n % 64:Nat):Int):=by omega
 unfold a_mv a_kz hasB
 have q1:(0:Int)<=((n / 64:Nat):Int):=by omega
 have q2:((n / 64:Nat):Int)<4:=by omega
 have q3:¬ ((n % 64:Nat):Int)<0:=by omega
 have q4:(n:Int)>=0:=by omega
 have q5:(n:Int)<256:=by omega
 simp only [hWn,hd,hm,hw8,hWd,q1,q2,q3,q4,q5,decide_true,decide_false,Bool.not_false,Bool.and_self,if_true,a_0,b_jq hv.1 hv.2 (show n % 64<64 by omega),and_self]
def w_8 (ws:List a_1) (r:Nat):Option a_1:=ws.find? fun h=>h.To==(r:Int)
def wayD (ws:List a_1) (r:Nat):a_1:=(w_8 ws r).getD ⟨0,0,[]⟩
def g_0 (Ws:List (List a_1)) (r k:Nat):List Nat:=(List.range k).filter fun i=>(w_8 (Ws.getD i []) r).isSome
def k_9 (Ws:List (List a_1)) (r k:Nat):List a_1:=(g_0 Ws r k).map fun i=>wayD (Ws.getD i []) r
theorem a_rz (Ws:List (List a_1)) (r k:Nat):g_0 Ws r (k+1)=g_0 Ws r k++if (w_8 (Ws.getD k []) r).isSome then [k] else []:=by
 unfold g_0
 rw [List.range_succ,List.filter_append]
 congr 1
 cases h:(w_8 (Ws.getD k []) r).isSome
 ·simp only [List.filter_cons,h,false_eq_true,if_false,List.filter_nil]
 ·simp only [List.filter_cons,h,if_true,List.filter_nil]
theorem a_1a (Ws:List (List a_1)) (r k:Nat):k_9 Ws r (k+1)=k_9 Ws r k++if (w_8 (Ws.getD k []) r).isSome then [wayD (Ws.getD k []) r] else []:=by
 unfold k_9
 rw [a_rz,map_append]
 congr 1
 split<;>rfl
theorem a_87 {Ws:List (List a_1)} {r k i:Nat} (h:i∈g_0 Ws r k):i<k:=mem_range.1 (mem_filter.1 h).1
theorem a_pp (Ws:List (List a_1)) (r k:Nat):(g_0 Ws r k).length<=k:=Nat.le_trans (List.length_filter_le _ _) (by simp)
theorem a_po (Ws:List (List a_1)) (r k:Nat):(k_9 Ws r k).length=(g_0 Ws r k).length:=by simp [k_9]
theorem b_lz {ws:List a_1} {r:Nat} (h:(w_8 ws r).isSome=true):wayD ws r∈ws/\(wayD ws r).To=r:=by
 unfold wayD
 cases e:w_8 ws r with
 |none=>rw [e] at h;simp at h
 |
  some x=>
  have:=List.find?_some e
  exact ⟨List.mem_of_find?_eq_some e,by simpa using this⟩
def a_cj (fB fD:Nat->Nat->Int) (Ws:List (List a_1)) (r:Nat):Nat:=(a_pr fB fD (g_0 Ws r Ws.length) (k_9 Ws r Ws.length)).toNat
def srcK (fB fD:Nat->Nat->Int) (Ws:List (List a_1)) (r:Nat):Nat:=(g_0 Ws r Ws.length).getD (a_cj fB fD Ws r) 0
def hopK (fB fD:Nat->Nat->Int) (Ws:List (List a_1)) (r:Nat):a_1:=wayD (Ws.getD (srcK fB fD Ws r) []) r
def j_5 (hs:Nat->Bool) (Ws:List (List a_1)) (k:Nat):List Nat:=(List.range k).filter fun r=>hs r&&!(g_0 Ws r Ws.length).isEmpty
theorem a_3r (hs:Nat->Bool) (Ws:List (List a_1)) (k:Nat):j_5 hs Ws (k+1)=j_5 hs Ws k++if hs k&&!(g_0 Ws k Ws.length).isEmpty then [k] else []:=by
 unfold j_5
 rw [List.range_succ,List.filter_append]
 congr 1
 cases h:(hs k&&!(g_0 Ws k Ws.length).isEmpty)<;>simp [h]
theorem b_n2 {hs:Nat->Bool} {Ws:List (List a_1)} {k i:Nat} (h:i∈j_5 hs Ws k):i<k:=mem_range.1 (mem_filter.1 h).1
theorem a_zl (hs:Nat->Bool) (Ws:List (List a_1)) (k:Nat):(j_5 hs Ws k).length<=k:=Nat.le_trans (List.length_filter_le _ _) (by simp)
theorem a_8j (hs:Nat->Bool) (Ws:List (List a_1)) (k:Nat):(j_5 hs Ws k).Pairwise fun a b=>a<b:=List.Pairwise.filter _ List.pairwise_lt_range
theorem b_ld {hs:Nat->Bool} {Ws:List (List a_1)} {k r:Nat} (h:r∈j_5 hs Ws k):hs r=true/\g_0 Ws r Ws.length≠[]:=by
 have:=(mem_filter.1 h).2
 simpa using this
theorem b_i2 {fB fD:Nat->Nat->Int} {fr:List Nat} {hops:List a_1}:∀ k,0<k->∃ j:Nat,a_i8 fB fD fr hops k=j/\j<k:=by
 intro k
 induction k with
 |zero=>intro h;omega
 |
  succ k ih=>
  intro _
  rw [a_mt]
  unfold a_pj
  split
  ·exact ⟨k,rfl,by omega⟩
  ·split
   ·exact ⟨k,rfl,by omega⟩
   ·rcases a_tr fB fD fr hops k with h | ⟨j,h,hj⟩
    ·rename_i hneg _;rw [h] at hneg;exact absurd (show (-1:Int)<0 by omega) hneg
    ·exact ⟨j,h,by omega⟩
theorem b_hh {fB fD:Nat->Nat->Int} {fr:List Nat} {hops:List a_1} (h:fr≠[]):∃ j:Nat,a_pr fB fD fr hops=j/\j<fr.length:=b_i2 _ (List.length_pos_iff.2 h)
theorem a_vv {fB fD:Nat->Nat->Int} {hops:List a_1}:a_pr fB fD [] hops=-1:=rfl
section
variable {fB fD:Nat->Nat->Int} {Ws:List (List a_1)} {r:Nat}
theorem a_ro (h:g_0 Ws r Ws.length≠[]):a_pr fB fD (g_0 Ws r Ws.length) (k_9 Ws r Ws.length)=(a_cj fB fD Ws r:Int)/\a_cj fB fD Ws r<(g_0 Ws r Ws.length).length:=by
 obtain ⟨j,h1,h2⟩:=b_hh (fB:=fB) (fD:=fD) (hops:=k_9 Ws r Ws.length) h
 unfold a_cj
 rw [h1]
 exact ⟨rfl,h2⟩
theorem a_81 (h:g_0 Ws r Ws.length≠[]):srcK fB fD Ws r∈g_0 Ws r Ws.length:=by
 have:=(a_ro (fB:=fB) (fD:=fD) h).2
 unfold srcK
 rw [show (g_0 Ws r Ws.length).getD (a_cj fB fD Ws r) 0=(g_0 Ws r Ws.length)[a_cj fB fD Ws r] from by simp [List.getD,this]]
 exact List.getElem_mem this
theorem a_j9 (h:g_0 Ws r Ws.length≠[]):srcK fB fD Ws r<Ws.length:=a_87 (a_81 h)
theorem b_cy (h:g_0 Ws r Ws.length≠[]):gt (k_9 Ws r Ws.length) (a_cj fB fD Ws r:Int)=hopK fB fD Ws r:=by
 have:=(a_ro (fB:=fB) (fD:=fD) h).2
 refine d_4 ?_
 unfold hopK srcK k_9
 simp [List.getD,this]
theorem a_r6 (h:g_0 Ws r Ws.length≠[]):hopK fB fD Ws r∈Ws.getD (srcK fB fD Ws r) []/\(hopK fB fD Ws r).To=r:=b_lz (mem_filter.1 (a_81 h)).2
end
def l_6 (hs:Nat->Bool) (Ws:List (List a_1)):Nat->Nat
 |0=>0
 |r+1=>l_6 hs Ws r+if hs r then (g_0 Ws r Ws.length).length else 0
theorem a_sb (hs:Nat->Bool) (Ws:List (List a_1)):∀ k,l_6 hs Ws k<=k*Ws.length
 |0=>by simp [l_6]
 |
  k+1=>by
  have h1:=a_sb hs Ws k
  have h2:=a_pp Ws k Ws.length
  simp only [l_6,Nat.succ_mul]
  split<;>omega
end Go.Proofs.YtdficaoajalfaaaGreat
namespace Go.Proofs.YtdficaoajalfaaaGreat
open Go.V Go.RowKit Old Go.X
section
variable {F:Nat} {l:List a_2} {n:Nat}
def x_0 (l:List a_2) (hs:Nat->Bool) (Ws:List (List a_1)) (i j r:Nat):g_6:=
 if hs r then ⟨b_7 (g_0 Ws r i++if (w_8 ((Ws.getD i []).take j) r).isSome then [i] else []),(k_9 Ws r i++if (w_8 ((Ws.getD i []).take j) r).isSome then [wayD ((Ws.getD i []).take j) r] else []).map (e_7 l),k_9 Ws r i++if (w_8 ((Ws.getD i []).take j) r).isSome then [wayD ((Ws.getD i []).take j) r] else []⟩ else ⟨[],[],[]⟩
theorem a_9n {ws:List a_1} {j r:Nat} (hj:j<ws.length) (h:(gt ws (j:Int)).To≠(r:Int)):w_8 (ws.take (j+1)) r=w_8 (ws.take j) r:=by
 unfold w_8
 rw [List.take_succ,n_3 hj,List.find?_append]
 simp [List.find?_cons,h]
theorem b_al {n:Nat} {ws:List a_1} (hw:Ways n ws) {j r:Nat} (hj:j<ws.length) (h:(gt ws (j:Int)).To=(r:Int)):w_8 (ws.take (j+1)) r=some (gt ws (j:Int))/\w_8 (ws.take j) r=none:=by
 have hnone:w_8 (ws.take j) r=none:=by
  unfold w_8
  rw [List.find?_eq_none]
  intro x hx
  obtain ⟨i,hi,he⟩:=List.mem_iff_getElem.1 hx
  simp only [List.length_take] at hi
  have hd:=List.pairwise_iff_getElem.1 hw.dist i j (by omega) hj (by omega)
  rw [List.getElem_take] at he
  rw [<-he]
  have e2:gt ws (j:Int)=ws[j]:=d_4 (by simp [hj])
  rw [e2] at h
  simp only [beq_iff_eq]
  omega
 refine ⟨?_,hnone⟩
 unfold w_8 at hnone ⊢
 rw [List.take_succ,n_3 hj,List.find?_append,hnone]
 simp [h]
theorem a_il {β:Type} {n:Nat} {f g:Nat->β} (h:∀ r,r<n->f r=g r):(List.range n).map f=(List.range n).map g:=List.map_congr_left fun r hr=>h r (mem_range.1 hr)
theorem a_ut (l:List a_2) (hs:Nat->Bool) (Ws:List (List a_1)) (i r:Nat):x_0 l hs Ws i 0 r=if hs r then ⟨b_7 (g_0 Ws r i),(k_9 Ws r i).map (e_7 l),k_9 Ws r i⟩ else ⟨[],[],[]⟩:=by
 unfold x_0
 have:w_8 ((Ws.getD i []).take 0) r=none:=rfl
 simp only [this,Option.isSome_none,false_eq_true,if_false,append_nil]
theorem b_ji (l:List a_2) (hs:Nat->Bool) (Ws:List (List a_1)) (i r:Nat):x_0 l hs Ws i (Ws.getD i []).length r=x_0 l hs Ws (i+1) 0 r:=by
 rw [a_ut]
 unfold x_0
 rw [List.take_length,a_rz,a_1a]
theorem setOf (l:List a_2) {n:Nat} (hn:n=a_3 l l.length) (hw:∀ x∈l,d_6 x) {r:Nat} (hr:r<n):inb ((b_3 l l.length).map fun q=>(gt l q).Set) (r:Int)=true/\gtZ 4 ((b_3 l l.length).map fun q=>(gt l q).Set) (r:Int)=(gt l (gt (b_3 l l.length) (r:Int))).Set/\
  ((gt l (gt (b_3 l l.length) (r:Int))).Set.length=4/\∀ y∈(gt l (gt (b_3 l l.length) (r:Int))).Set,inK .u64 y):=by
 obtain ⟨q,h2,h3,h4⟩:=a_ng l hn (x:=(r:Int)) (by omega) (by omega)
 have hlen:=f_8 l l.length
 refine ⟨a_7 (by omega) (by simp;omega),?_,?_⟩
 ·unfold gtZ
  have:(b_3 l l.length)[r]?=some (gt (b_3 l l.length) (r:Int)):=n_3 (by omega)
  exact @d_4 _ ⟨List.replicate 4 0⟩ _ _ _ (by rw [List.getElem?_map,this];rfl)
 ·rw [h3]
  have:=hw _ (mem_of_getElem? (n_3 (l:=l) (i:=q) h2))
  exact this.2.2.2.2
def d_7 (l:List a_2) (b_:Int) (r:Nat):Bool:=hasB (gt l (gt (b_3 l l.length) (r:Int))).Set b_
theorem b_rv {a:List a_1} {b:Nat->List a_1} {e:Nat->a_1×Bool} {z:a_1×Bool} (hw:∀ x∈l,d_6 x) (hn:n=a_3 l l.length) (hn64:n<=400) (hf:2000001<F) {c:b_1} (hc:c.chart=m_0 l n a b e z) {g:k_4} {b_:Int} (hb:inK .u8 b_)
  {Ws:List (List a_1)} (hW:∀ i,i<Ws.length->Ways n (Ws.getD i [])/\(Ws.getD i []).length<=500000) (hM:Ws.length<=1000) (hg:g.roads=Ws.map fun w=>w.map (e_7 l)) {i:Nat} (hi:i<Ws.length) :
  iter (w_7 F c g b_ (i:Int)) F (0,(List.range n).map (x_0 l (d_7 l b_) Ws i 0))=some ((List.range n).map (x_0 l (d_7 l b_) Ws (i+1) 0)):=by
 obtain ⟨hWi,hlen⟩:=hW i hi
 have hgi:gt g.roads (i:Int)=(Ws.getD i []).map (e_7 l):=by
  rw [hg];refine d_4 ?_
  rw [List.getElem?_map,show Ws.getD i []=Ws[i] from by simp [List.getD,hi],List.getElem?_eq_getElem hi];rfl
 generalize hws:Ws.getD i []=ws at *
 have:=c_2 (step:=w_7 F c g b_ (i:Int)) (fun j=>((j:Int),(List.range n).map (x_0 l (d_7 l b_) Ws i j))) ((List.range n).map (x_0 l (d_7 l b_) Ws (i+1) 0)) ws.length (fun j hj=>.inl ?_) ?_ ws.length 0 F (by omega) (by omega)
 ·exact this
 ·have hk:=hWi.ok _ (mem_of_getElem? (n_3 hj))
  obtain ⟨r,hr⟩:∃ r:Nat,(gt ws (j:Int)).To=r:=⟨(gt ws (j:Int)).To.toNat,by have:=hk.1;omega⟩
  have hrn:r<n:=by have:=hk.2.1;omega
  obtain ⟨s1,s2,s3⟩:=setOf l hn hw hrn
  obtain ⟨t1,t2⟩:=b_al hWi hj hr
  have hne:∀ q,q≠r->x_0 l (d_7 l b_) Ws i (j+1) q=x_0 l (d_7 l b_) Ws i j q:=fun q hq=>by
   have e:=a_9n (ws:=ws) (j:=j) (r:=q) hj (by rw [hr];omega)
   unfold x_0 wayD
   rw [hws,e]
  have hj1:(j:Int)<((ws.map (e_7 l)).length:Int):=by simp;omega
  have hgj:gt (ws.map (e_7 l)) (j:Int)=e_7 l (gt ws (j:Int)):=d_4 (by rw [List.getElem?_map,n_3 hj];rfl)
  have hin:inb (ws.map (e_7 l)) (j:Int)=true:=a_7 (by omega) hj1
  have hhop:(e_7 l (gt ws (j:Int))).Hop.To=(r:Int):=hr
  unfold w_7
  simp only [hgi,hj1,decide_true,if_true,hin,hgj,hhop,hc,m_0,s1,s2,(b_im F s3 hb).1,a_0,c_3 (i:=j) (by omega)]
  have hH:hasB (gt l (gt (b_3 l l.length) (r:Int))).Set b_=d_7 l b_ r:=rfl
  rw [hH]
  cases hP:d_7 l b_ r with
  |
   false=>
   simp only [false_eq_true,if_false,a_0]
   congr 1;congr 1;congr 1
   refine a_il fun q _=>?_
   by_cases hq:q=r
   ·subst hq;unfold x_0;rw [hP];rfl
   ·exact (hne q hq).symm
  |
   true=>
   have hl1:=a_pp Ws r i
   have hl2:=a_po Ws r i
   have hcom:x_0 l (d_7 l b_) Ws i j r=⟨b_7 (g_0 Ws r i),(k_9 Ws r i).map (e_7 l),k_9 Ws r i⟩:=by
    unfold x_0
    rw [hP,hws,t2]
    simp
   have ap1:a_8 8 (b_7 (g_0 Ws r i)) [(i:Int)]=true:=by simp [a_8];omega
   have ap2:a_8 64 ((k_9 Ws r i).map (e_7 l)) [e_7 l (gt ws (j:Int))]=true:=by simp [a_8];omega
   have ap3:a_8 40 (k_9 Ws r i) [(e_7 l (gt ws (j:Int))).Hop]=true:=by simp [a_8];omega
   simp only [if_true,a_jk hrn,a_m8 hrn,hcom,ap1,decide_true,b_ix,Int.toNat_natCast,ap2,ap3,a_0]
   congr 1;congr 1;congr 1
   refine a_il fun q _=>?_
   by_cases hq:q=r
   ·subst hq
    simp only [if_true]
    unfold x_0
    rw [hP,hws,t1,wayD,t1]
    simp [a_er,e_7]
   ·simp only [hq,if_false]
    exact (hne q hq).symm
 ·unfold w_7
  have h1:¬ ((ws.length:Int)<((ws.map (e_7 l)).length:Int)):=by simp
  simp only [hgi,h1,decide_false,if_false,false_eq_true]
  congr 1;congr 1
  refine a_il fun q _=>?_
  rw [<-hws,b_ji]
theorem n_to {a:List a_1} {b:Nat->List a_1} {e:Nat->a_1×Bool} {z:a_1×Bool} (hw:∀ x∈l,d_6 x) (hn:n=a_3 l l.length) (hn64:n<=400) (hf:2000001<F) {c:b_1} (hc:c.chart=m_0 l n a b e z) {g:k_4} {b_:Int} (hb:inK .u8 b_)
  {Ws:List (List a_1)} (hW:∀ i,i<Ws.length->Ways n (Ws.getD i [])/\(Ws.getD i []).length<=500000) (hM:Ws.length<=1000) (hg:g.roads=Ws.map fun w=>w.map (e_7 l)) :
  a_bs F c g b_=some ((List.range n).map (x_0 l (d_7 l b_) Ws Ws.length 0),c):=by
 have hsets:(c.chart.sets.length:Int)=(n:Int):=by rw [hc];simp only [m_0,List.length_map,f_8];omega
 have hmk:g_3 72 (n:Int)=true:=by simp [g_3];omega
 have hrep:List.replicate n (⟨[],[],[]⟩:g_6)=(List.range n).map (x_0 l (d_7 l b_) Ws 0 0):=by
  refine List.ext_getElem (by simp) fun r h1 h2=>?_
  simp only [List.getElem_replicate,List.getElem_map,List.getElem_range,a_ut]
  split
  ·rfl
  ·rfl
 unfold a_bs
 rw [hsets,hmk]
 simp only [if_true,Int.toNat_natCast]
 have:=c_2 (step:=w_1 F c g b_) (fun i=>((i:Int),(List.range n).map (x_0 l (d_7 l b_) Ws i 0))) ((List.range n).map (x_0 l (d_7 l b_) Ws Ws.length 0)) Ws.length (fun i hi=>.inl ?_) ?_ Ws.length 0 F (by omega) (by omega)
 ·have h2:iter (w_1 F c g b_) F (0,(List.range n).map (x_0 l (d_7 l b_) Ws 0 0))=_:=this
  rw [hrep,h2];rfl
 ·unfold w_1
  have h1:(i:Int)<(g.roads.length:Int):=by rw [hg];simp;omega
  simp only [h1,decide_true,if_true,a_7 (l:=g.roads) (i:=(i:Int)) (by omega) h1,b_rv hw hn hn64 hf hc hb hW hM hg hi,a_0,c_3 (i:=i) (by omega)]
 ·unfold w_1
  have h1:¬ ((Ws.length:Int)<(g.roads.length:Int)):=by rw [hg];simp
  simp only [h1,decide_false,if_false,false_eq_true]
end
def goW (a:List a_1) (b:Nat->List a_1) (pl:List Nat) (beg:Bool):List (List a_1):=pl.map b++if beg then [a] else []
def goV (l:List a_2) (at_:Int) (vals:List (List Int)) (beg:Bool):List (List Int):=vals++if beg then [a_au l at_] else []
def goM (pl:List Nat) (beg:Bool):Nat:=if beg then pl.length+1 else pl.length
def goB (pl:List Nat) (beg:Bool) (fB:Nat->Nat->Int):Nat->Nat->Int:=if beg then a_pi pl.length fB else fB
def goD (pl:List Nat) (beg:Bool) (fD:Nat->Nat->Int):Nat->Nat->Int:=if beg then a_mr pl.length fD else fD
theorem a_c2 (a:List a_1) (b:Nat->List a_1) (pl:List Nat) (beg:Bool):(goW a b pl beg).length=goM pl beg:=by unfold goW goM;cases beg<;>simp
section
variable {F:Nat} {l:List a_2} {n:Nat} {a:List a_1} {b:Nat->List a_1} {e:Nat->a_1×Bool} {z:a_1×Bool} {at_ work:Int} {pl:List Nat} {vals:List (List Int)} {fB fD:Nat->Nat->Int}
theorem a_3a (C:p_7 l n pl vals fB fD) (beg:Bool):(goV l at_ vals beg).length=goM pl beg:=by unfold goV goM;cases beg<;>simp [C.len]
theorem a_qk (C:p_7 l n pl vals fB fD) (beg:Bool):t_4 (goM pl beg) (goB pl beg fB) (goD pl beg fD):=by
 unfold goM goB goD
 cases beg with
 |false=>exact C.rk
 |true=>exact b_n6 C.rk
theorem a_8z (C:p_7 l n pl vals fB fD) (beg:Bool):∀ v∈goV l at_ vals beg,v.length=(h_2 l).toNat:=by
 intro v hv
 unfold goV at hv
 rcases List.mem_append.1 hv with h | h
 ·exact C.row v h
 ·cases beg with
  |false=>simp at h
  |true=>simp at h;subst h;exact a_ix l at_
theorem a_qz (K:l_1 l n a b e z F) (C:p_7 l n pl vals fB fD) (beg:Bool):∀ i,i<(goW a b pl beg).length->Ways n ((goW a b pl beg).getD i [])/\((goW a b pl beg).getD i []).length<=500000/\(∀ h∈(goW a b pl beg).getD i [],a_en n h)/\BndH 800 ((goW a b pl beg).getD i []):=by
 intro i hi
 have hm:(goW a b pl beg).getD i []∈goW a b pl beg:=by
  rw [show (goW a b pl beg).getD i []=(goW a b pl beg)[i] from by simp [List.getD,hi]];exact List.getElem_mem hi
 have hop:∀ {ws:List a_1},Ways n ws->TrnH ws->∀ h∈ws,a_en n h:=fun hw ht h hh=>⟨(hw.ok h hh).1,(hw.ok h hh).2.1,(ht h hh).1,(ht h hh).2⟩
 generalize (goW a b pl beg).getD i []=ws at *
 unfold goW at hm
 rcases List.mem_append.1 hm with h | h
 ·obtain ⟨p,hp,rfl⟩:=mem_map.1 h
  have:=C.pln p hp
  exact ⟨K.T.bw p this,K.T.bl p this,hop (K.T.bw p this) (K.T.bT p this),K.T.bb p this⟩
 ·cases beg with
  |false=>simp at h
  |true=>simp at h;subst h;exact ⟨K.T.aw,K.T.al,hop K.T.aw K.T.aT,K.T.ab⟩
theorem b_pc (K:l_1 l n a b e z F) (C:p_7 l n pl vals fB fD) (beg:Bool):r_8 F (mkC l n a b e z at_ work pl vals fB fD) beg =
  some (⟨goV l at_ vals beg,(goW a b pl beg).map (fun w=>w.map (e_7 l)),b_6 (goM pl beg) (goB pl beg fB) (goD pl beg fD)⟩,mkC l n a b e z at_ work pl vals fB fD):=by
 have f1:=K.f1
 have hm:=C.le
 have hn:=K.T.n64
 have hvl:=C.len
 unfold r_8 w_3
 have hap:a_8 24 ([]:List (List Int)) vals=true:=by simp [a_8];omega
 rw [a_aa]
 simp only [mkC,hap,if_true,a_0]
 have:=c_2 (step:=n_4 F (mkC l n a b e z at_ work pl vals fB fD)) (fun i=>((i:Int),(vals,(pl.take i).map (fun p=>(b p).map (e_7 l)),b_6 pl.length fB fD))) (vals,pl.map (fun p=>(b p).map (e_7 l)),b_6 pl.length fB fD) pl.length (fun i hi=>.inl ?_) ?_ pl.length 0 F (by omega) (by omega)
 ·have h2:iter (n_4 F ⟨m_0 l n a b e z,at_,work,b_7 pl,vals,b_6 pl.length fB fD⟩) F (0,(vals,[],b_6 pl.length fB fD))=_:=this
  rw [h2]
  simp only [a_0]
  unfold goV goW goM goB goD
  cases beg with
  |false=>simp
  |
   true=>
   have ap1:a_8 24 vals [a_au l at_]=true:=by simp [a_8];omega
   have ap2:a_8 24 (pl.map fun p=>(b p).map (e_7 l)) [a.map (e_7 l)]=true:=by simp [a_8];omega
   have hb:=b_df K ⟨m_0 l n a b e z,at_,work,b_7 pl,vals,b_6 pl.length fB fD⟩ rfl
   have hcb:(m_0 l n a b e z).begin=a.map (e_7 l):=rfl
   simp only [if_true,hb,a_0,ap1,hcb,ap2,b_pq (show pl.length<=900 by omega) (show 2000<F by omega) C.rk,map_append,List.map_map,map_cons,map_nil,Function.comp_def]
 ·unfold n_4
  have h1:(i:Int)<((b_7 pl).length:Int):=by simp;omega
  have hp:=j_2 C.pln hi
  have hap:a_8 24 ((pl.take i).map (fun p=>(b p).map (e_7 l))) [(b (pl.getD i 0)).map (e_7 l)]=true:=by simp [a_8];omega
  have ht:pl.take (i+1)=pl.take i++[pl.getD i 0]:=by rw [a_hx hi];simp [List.getD,hi]
  simp only [mkC,h1,decide_true,if_true,h_4 hi,i_5 hi,m_0,a_jk hp,a_m8 hp,hap,ht,map_append,map_cons,map_nil,c_3 (i:=i) (by omega)]
 ·unfold n_4
  have h1:¬ ((pl.length:Int)<((b_7 pl).length:Int)):=by simp
  simp only [mkC,h1,decide_false,if_false,false_eq_true,List.take_length]
def stP (l:List a_2) (n:Nat) (a:List a_1) (b:Nat->List a_1) (pl:List Nat) (b_:Int) (beg:Bool):List Nat:=j_5 (d_7 l b_) (goW a b pl beg) n
def stS (a:List a_1) (b:Nat->List a_1) (pl:List Nat) (fB fD:Nat->Nat->Int) (beg:Bool) (r:Nat):Nat:=srcK (goB pl beg fB) (goD pl beg fD) (goW a b pl beg) r
def stH (a:List a_1) (b:Nat->List a_1) (pl:List Nat) (fB fD:Nat->Nat->Int) (beg:Bool) (r:Nat):a_1:=hopK (goB pl beg fB) (goD pl beg fD) (goW a b pl beg) r
def stV (l:List a_2) (a:List a_1) (b:Nat->List a_1) (at_:Int) (pl:List Nat) (vals:List (List Int)) (fB fD:Nat->Nat->Int) (beg:Bool) (r:Nat):List Int:=
 a_d5 at_ (-1) (gt (goV l at_ vals beg) (stS a b pl fB fD beg r:Int)) (OfF l (stH a b pl fB fD beg r).Steps)
def stW (l:List a_2) (n:Nat) (a:List a_1) (b:Nat->List a_1) (pl:List Nat) (b_:Int) (beg:Bool):Int:=
 (l_6 (d_7 l b_) (goW a b pl beg) n:Int)+(((stP l n a b pl b_ beg).length:Int)*h_2 l+((stP l n a b pl b_ beg).length:Int)*((stP l n a b pl b_ beg).length:Int))
theorem a_h1 {b_:Int} {beg:Bool} {r:Nat} (h:r∈stP l n a b pl b_ beg):r<n/\g_0 (goW a b pl beg) r (goW a b pl beg).length≠[]:=⟨b_n2 h,(b_ld h).2⟩
theorem b_de {b_:Int} {beg:Bool}:(stP l n a b pl b_ beg).length<=n:=a_zl _ _ _
theorem b_fy (K:l_1 l n a b e z F) (C:p_7 l n pl vals fB fD) (b_:Int) (beg:Bool):GoOn l n (goM pl beg) ((stP l n a b pl b_ beg).map (stS a b pl fB fD beg)) ((stP l n a b pl b_ beg).map (stH a b pl fB fD beg)) where
 lt i hi:=by
  obtain ⟨r,hr,rfl⟩:=mem_map.1 hi
  rw [<-a_c2 a b]
  exact a_j9 (a_h1 hr).2
 len:=by simp
 le:=by have:=b_de (l:=l) (n:=n) (a:=a) (b:=b) (pl:=pl) (b_:=b_) (beg:=beg);have:=K.T.n64;simp;omega
 hop x hx:=by
  obtain ⟨r,hr,rfl⟩:=mem_map.1 hx
  have hm:=a_r6 (fB:=goB pl beg fB) (fD:=goD pl beg fD) (a_h1 hr).2
  exact (a_qz K C beg _ (a_j9 (a_h1 hr).2)).2.2.1 _ hm.1
 asc:=by
  rw [List.pairwise_map]
  refine (a_8j _ _ _).imp_of_mem fun {x y} hx hy hxy=>?_
  have h1:=(a_r6 (fB:=goB pl beg fB) (fD:=goD pl beg fD) (a_h1 hx).2).2
  have h2:=(a_r6 (fB:=goB pl beg fB) (fD:=goD pl beg fD) (a_h1 hy).2).2
  unfold stH
  rw [h1,h2];omega
theorem a_8w {V:List (List Int)} {m:Nat} (h:∀ v∈V,v.length=(h_2 l).toNat) (hl:V.length=m) {k:Nat} (hk:k<m):(gt V (k:Int)).length=(h_2 l).toNat/\inb V (k:Int)=true:=
 ⟨h _ (mem_of_getElem? (n_3 (by omega))),a_7 (by omega) (by omega)⟩
theorem b_m2 (K:l_1 l n a b e z F) (C:p_7 l n pl vals fB fD) (hw:∀ x∈l,d_6 x) (b_:Int) (beg:Bool) :
  p_7 l n (stP l n a b pl b_ beg) ((stP l n a b pl b_ beg).map (stV l a b at_ pl vals fB fD beg)) (i_6 l (goB pl beg fB) ((stP l n a b pl b_ beg).map (stS a b pl fB fD beg)) ((stP l n a b pl b_ beg).map (stH a b pl fB fD beg))) (j_4 l (goB pl beg fB) (goD pl beg fD) ((stP l n a b pl b_ beg).map (stS a b pl fB fD beg)) ((stP l n a b pl b_ beg).map (stH a b pl fB fD beg))) where
 len:=by simp
 pln r hr:=(a_h1 hr).1
 asc:=a_8j _ _ _
 row v hv:=by
  obtain ⟨r,hr,rfl⟩:=mem_map.1 hv
  unfold stV
  rw [a_do]
  exact (a_8w (a_8z C beg) (a_3a C beg) (by rw [<-a_c2 a b];exact a_j9 (a_h1 hr).2)).1
 rk:=by
  have g:=b_fy K C b_ beg
  have:=a_2k hw K.hR K.hn (a_qk C beg) g.lt g.len g.hop g.asc
  simpa using this
theorem a_wq (K:l_1 l n a b e z F) (C:p_7 l n pl vals fB fD) (b_:Int) (beg:Bool):0<=stW l n a b pl b_ beg/\stW l n a b pl b_ beg<=1000000/\(l_6 (d_7 l b_) (goW a b pl beg) n:Int)<=200000/\0<=((stP l n a b pl b_ beg).length:Int)*h_2 l/\((stP l n a b pl b_ beg).length:Int)*h_2 l<=10000/\0<=((stP l n a b pl b_ beg).length:Int)*((stP l n a b pl b_ beg).length:Int)/\((stP l n a b pl b_ beg).length:Int)*((stP l n a b pl b_ beg).length:Int)<=160000:=by
 have hm:=C.le
 have hn:=K.T.n64
 have h1:=a_sb (d_7 l b_) (goW a b pl beg) n
 have h2:(goW a b pl beg).length<=401:=by rw [a_c2];unfold goM;split<;>omega
 have h3:n*(goW a b pl beg).length<=400*401:=Nat.mul_le_mul hn h2
 have h4:=b_de (l:=l) (n:=n) (a:=a) (b:=b) (pl:=pl) (b_:=b_) (beg:=beg)
 have ht:=p_6 l
 unfold stW
 generalize (stP l n a b pl b_ beg).length=p at *
 have h5:(p:Int)*h_2 l<=400*19:=Int.mul_le_mul (by omega) ht.2 (by omega) (by omega)
 have h6:(p:Int)*(p:Int)<=400*400:=Int.mul_le_mul (by omega) (by omega) (by omega) (by omega)
 have h7:0<=(p:Int)*h_2 l:=Int.mul_nonneg (by omega) (by omega)
 have h8:0<=(p:Int)*(p:Int):=Int.mul_nonneg (by omega) (by omega)
 generalize (p:Int)*h_2 l=x at *
 generalize (p:Int)*(p:Int)=y at *
 refine ⟨by omega,by omega,by omega,by omega,by omega,by omega,by omega⟩
end
section
variable {F:Nat} {l:List a_2} {n:Nat} {a:List a_1} {b:Nat->List a_1} {e:Nat->a_1×Bool} {z:a_1×Bool} {at_ work:Int} {pl:List Nat} {vals:List (List Int)} {fB fD:Nat->Nat->Int}
theorem b_da (K:l_1 l n a b e z F) (C:p_7 l n pl vals fB fD) (beg:Bool) (r:Nat):(g_0 (goW a b pl beg) r (goW a b pl beg).length).length<=500/\∀ i∈g_0 (goW a b pl beg) r (goW a b pl beg).length,i<goM pl beg:=by
 have hm:=C.le
 have hn:=K.T.n64
 have h1:=a_pp (goW a b pl beg) r (goW a b pl beg).length
 rw [a_c2] at h1
 refine ⟨by
       have:goM pl beg<=pl.length+1:=by unfold goM;split<;>omega
       rw [a_c2];omega,fun i hi=>?_⟩
 rw [<-a_c2 a b];exact a_87 hi
theorem a_0t (K:l_1 l n a b e z F) (C:p_7 l n pl vals fB fD) (beg:Bool):goM pl beg<=401:=by
 have hm:=C.le
 have hn:=K.T.n64
 unfold goM;split<;>omega
theorem a_6t (K:l_1 l n a b e z F) (C:p_7 l n pl vals fB fD) {b_:Int} {beg:Bool} {r:Nat} (h:g_0 (goW a b pl beg) r (goW a b pl beg).length≠[]):(stH a b pl fB fD beg r).Steps.length<=2000000/\Bnd 800 (stH a b pl fB fD beg r).Steps:=by
 have hm:=a_r6 (fB:=goB pl beg fB) (fD:=goD pl beg fD) h
 have hw:=a_qz K C beg _ (a_j9 (fB:=goB pl beg fB) (fD:=goD pl beg fD) h)
 exact ⟨(hw.1.ok _ hm.1).2.2,hw.2.2.2 _ hm.1⟩
set_option maxHeartbeats 2000000 in
theorem b_og (K:l_1 l n a b e z F) (C:p_7 l n pl vals fB fD) (b_:Int) (beg:Bool) (hw0:0<=work) (hw1:work<=1000000000000) {r:Nat} (hr:r<n) :
  l_5 F ⟨goV l at_ vals beg,(goW a b pl beg).map (fun w=>w.map (e_7 l)),b_6 (goM pl beg) (goB pl beg fB) (goD pl beg fD)⟩ ((List.range n).map (x_0 l (d_7 l b_) (goW a b pl beg) (goW a b pl beg).length 0))
   (b_7 (j_5 (d_7 l b_) (goW a b pl beg) r),(j_5 (d_7 l b_) (goW a b pl beg) r).map (stV l a b at_ pl vals fB fD beg),(r:Int),⟨m_0 l n a b e z,at_,work+(l_6 (d_7 l b_) (goW a b pl beg) r:Int),b_7 pl,vals,b_6 pl.length fB fD⟩,
    (b_7 ((j_5 (d_7 l b_) (goW a b pl beg) r).map (stS a b pl fB fD beg)),(j_5 (d_7 l b_) (goW a b pl beg) r).map (fun r=>e_7 l (stH a b pl fB fD beg r)),(j_5 (d_7 l b_) (goW a b pl beg) r).map (stH a b pl fB fD beg))) =
  some (.next (b_7 (j_5 (d_7 l b_) (goW a b pl beg) (r+1)),(j_5 (d_7 l b_) (goW a b pl beg) (r+1)).map (stV l a b at_ pl vals fB fD beg),((r+1:Nat):Int),⟨m_0 l n a b e z,at_,work+(l_6 (d_7 l b_) (goW a b pl beg) (r+1):Int),b_7 pl,vals,b_6 pl.length fB fD⟩,
    (b_7 ((j_5 (d_7 l b_) (goW a b pl beg) (r+1)).map (stS a b pl fB fD beg)),(j_5 (d_7 l b_) (goW a b pl beg) (r+1)).map (fun r=>e_7 l (stH a b pl fB fD beg r)),(j_5 (d_7 l b_) (goW a b pl beg) (r+1)).map (stH a b pl fB fD beg)))):=by
 have f1:=K.f1
 have hn:=K.T.n64
 have hM:=a_0t K C beg
 have hWl:=a_c2 a b pl beg
 obtain ⟨hc1,hc2⟩:=b_da K C beg r
 have hch:=a_po (goW a b pl beg) r (goW a b pl beg).length
 have hPl:=a_zl (d_7 l b_) (goW a b pl beg) r
 have hwn:=a_sb (d_7 l b_) (goW a b pl beg) r
 have hwn2:r*(goW a b pl beg).length<=400*401:=Nat.mul_le_mul (by omega) (by omega)
 have ht:=p_6 l
 have hx:(r:Int)<(((List.range n).map (x_0 l (d_7 l b_) (goW a b pl beg) (goW a b pl beg).length 0)).length:Int):=by simp;omega
 have hgr:=a_qk C beg
 unfold l_5
 simp only [hx,decide_true,if_true,a_jk hr,a_m8 hr,a_ut,a_3r,l_6,c_3 (i:=r) (by omega)]
 cases hP:d_7 l b_ r with
 |
  false=>
  have hpk:=b_ij (F:=F) (n:=goM pl beg) (fB:=goB pl beg fB) (fD:=goD pl beg fD) (fr:=[]) (hops:=[]) (by omega) (by omega) hgr rfl (by simp) (by simp)
  have hpk2:a_d9 F (b_6 (goM pl beg) (goB pl beg fB) (goD pl beg fD)) [] []=some (-1):=by rw [<-a_vv (fB:=goB pl beg fB) (fD:=goD pl beg fD) (hops:=[])];exact hpk
  have hW0:W (work+(l_6 (d_7 l b_) (goW a b pl beg) r:Int)+((([]:List Int).length:Nat):Int))=work+(l_6 (d_7 l b_) (goW a b pl beg) r:Int):=by rw [f_2 (by simp;omega) (by simp;omega)];simp
  simp only [false_eq_true,if_false,hpk2,a_0,show decide ((-1:Int)<0)=true from rfl,if_true,hW0,Bool.false_and,append_nil,Nat.add_zero]
 |
  true=>
  simp only [if_true,Bool.true_and]
  have hW0:W (work+(l_6 (d_7 l b_) (goW a b pl beg) r:Int)+(((b_7 (g_0 (goW a b pl beg) r (goW a b pl beg).length)).length:Nat):Int))=work+((l_6 (d_7 l b_) (goW a b pl beg) r+(g_0 (goW a b pl beg) r (goW a b pl beg).length).length:Nat):Int):=by rw [f_2 (by simp;omega) (by simp;omega)];simp;omega
  simp only [hW0]
  have hpk:=b_ij (F:=F) (n:=goM pl beg) (fB:=goB pl beg fB) (fD:=goD pl beg fD) (fr:=g_0 (goW a b pl beg) r (goW a b pl beg).length) (hops:=k_9 (goW a b pl beg) r (goW a b pl beg).length) (by omega) (by omega) hgr hch (by omega) hc2
  by_cases h0:g_0 (goW a b pl beg) r (goW a b pl beg).length=[]
  ·have hpk2:a_d9 F (b_6 (goM pl beg) (goB pl beg fB) (goD pl beg fD)) (b_7 (g_0 (goW a b pl beg) r (goW a b pl beg).length)) (k_9 (goW a b pl beg) r (goW a b pl beg).length)=some (-1):=by
    rw [hpk,h0,a_vv]
   simp only [hpk2,a_0,show decide ((-1:Int)<0)=true from rfl,if_true]
   simp only [h0,List.isEmpty_nil,Bool.not_true,false_eq_true,if_false,append_nil]
  ·obtain ⟨k1,k2⟩:=a_ro (fB:=goB pl beg fB) (fD:=goD pl beg fD) h0
   have hne:(g_0 (goW a b pl beg) r (goW a b pl beg).length).isEmpty=false:=by simpa using h0
   rw [k1] at hpk
   have k3:¬ ((a_cj (goB pl beg fB) (goD pl beg fD) (goW a b pl beg) r:Nat):Int)<0:=by omega
   have hsl:stS a b pl fB fD beg r<goM pl beg:=by rw [<-hWl];exact a_j9 h0
   obtain ⟨v1,v2⟩:=a_8w (a_8z (at_:=at_) C beg) (a_3a C beg) hsl
   have hsrc:(((g_0 (goW a b pl beg) r (goW a b pl beg).length).getD (a_cj (goB pl beg fB) (goD pl beg fD) (goW a b pl beg) r) 0:Nat):Int)=(stS a b pl fB fD beg r:Int):=rfl
   have hroad:gt ((k_9 (goW a b pl beg) r (goW a b pl beg).length).map (e_7 l)) ((a_cj (goB pl beg fB) (goD pl beg fD) (goW a b pl beg) r:Nat):Int)=e_7 l (stH a b pl fB fD beg r):=by
    refine d_4 ?_
    rw [List.getElem?_map,n_3 (show a_cj (goB pl beg fB) (goD pl beg fD) (goW a b pl beg) r<(k_9 (goW a b pl beg) r (goW a b pl beg).length).length by omega),b_cy h0];rfl
   have hrin:inb ((k_9 (goW a b pl beg) r (goW a b pl beg).length).map (e_7 l)) ((a_cj (goB pl beg fB) (goD pl beg fD) (goW a b pl beg) r:Nat):Int)=true:=a_7 (by omega) (by simp;omega)
   have ap1:a_8 8 (b_7 (j_5 (d_7 l b_) (goW a b pl beg) r)) [(r:Int)]=true:=by simp [a_8];omega
   have ap2:a_8 24 ((j_5 (d_7 l b_) (goW a b pl beg) r).map (stV l a b at_ pl vals fB fD beg)) [stV l a b at_ pl vals fB fD beg r]=true:=by simp [a_8];omega
   have ap3:a_8 8 (b_7 ((j_5 (d_7 l b_) (goW a b pl beg) r).map (stS a b pl fB fD beg))) [(stS a b pl fB fD beg r:Int)]=true:=by simp [a_8];omega
   have ap4:a_8 64 ((j_5 (d_7 l b_) (goW a b pl beg) r).map (fun r=>e_7 l (stH a b pl fB fD beg r))) [e_7 l (stH a b pl fB fD beg r)]=true:=by simp [a_8];omega
   have ap5:a_8 40 ((j_5 (d_7 l b_) (goW a b pl beg) r).map (stH a b pl fB fD beg)) [(e_7 l (stH a b pl fB fD beg r)).Hop]=true:=by simp [a_8];omega
   have hap:=a_1v (F:=F) (marks:=(e_7 l (stH a b pl fB fD beg r)).marks) (now:=at_) (none_:=-1) (show (gt (goV l at_ vals beg) (stS a b pl fB fD beg r:Int)).length<=1000 by omega) (show (OfF l (stH a b pl fB fD beg r).Steps).length<=1000000000 by have:=(a_6t K C (b_:=b_) (beg:=beg) h0).1;have:=a_h4 l (stH a b pl fB fD beg r).Steps;omega)
   have hav:a_d5 at_ (-1) (gt (goV l at_ vals beg) (stS a b pl fB fD beg r:Int)) (e_7 l (stH a b pl fB fD beg r)).marks=stV l a b at_ pl vals fB fD beg r:=rfl
   rw [hav] at hap
   simp only [hpk,a_0,k3,decide_false,false_eq_true,if_false,ap1,h_4 k2,i_5 k2,hsrc,v2,hrin,hroad,hap,ap2,ap3,ap4,ap5,if_true,hne,Bool.not_false,a_er,map_append,map_cons,map_nil]
   rfl
set_option maxHeartbeats 2000000 in
theorem b_hp (K:l_1 l n a b e z F) (C:p_7 l n pl vals fB fD) (hw:∀ x∈l,d_6 x) {b_:Int} (hb:inK .u8 b_) (beg:Bool) (ha0:0<=at_) (ha1:at_<=1000000) (hw0:0<=work) (hw1:work<=1000000000000) :
  m_7 F (mkC l n a b e z at_ work pl vals fB fD) b_ beg=some (mkC l n a b e z (at_+1) (work+stW l n a b pl b_ beg) (stP l n a b pl b_ beg) ((stP l n a b pl b_ beg).map (stV l a b at_ pl vals fB fD beg))
   (i_6 l (goB pl beg fB) ((stP l n a b pl b_ beg).map (stS a b pl fB fD beg)) ((stP l n a b pl b_ beg).map (stH a b pl fB fD beg))) (j_4 l (goB pl beg fB) (goD pl beg fD) ((stP l n a b pl b_ beg).map (stS a b pl fB fD beg)) ((stP l n a b pl b_ beg).map (stH a b pl fB fD beg)))):=by
 have f1:=K.f1
 have hn:=K.T.n64
 have hM:=a_0t K C beg
 have hWl:=a_c2 a b pl beg
 have hrng:=a_wq K C b_ beg
 have hto:=n_to (F:=F) (c:=mkC l n a b e z at_ work pl vals fB fD) (g:=⟨goV l at_ vals beg,(goW a b pl beg).map (fun w=>w.map (e_7 l)),b_6 (goM pl beg) (goB pl beg fB) (goD pl beg fD)⟩) hw K.hn hn f1 rfl hb (fun i hi=>⟨(a_qz K C beg i hi).1,(a_qz K C beg i hi).2.1⟩) (by omega) rfl
 have hloop:=c_2 (step:=l_5 F ⟨goV l at_ vals beg,(goW a b pl beg).map (fun w=>w.map (e_7 l)),b_6 (goM pl beg) (goB pl beg fB) (goD pl beg fD)⟩ ((List.range n).map (x_0 l (d_7 l b_) (goW a b pl beg) (goW a b pl beg).length 0)))
  (fun r=>(b_7 (j_5 (d_7 l b_) (goW a b pl beg) r),(j_5 (d_7 l b_) (goW a b pl beg) r).map (stV l a b at_ pl vals fB fD beg),(r:Int),⟨m_0 l n a b e z,at_,work+(l_6 (d_7 l b_) (goW a b pl beg) r:Int),b_7 pl,vals,b_6 pl.length fB fD⟩,
    (b_7 ((j_5 (d_7 l b_) (goW a b pl beg) r).map (stS a b pl fB fD beg)),(j_5 (d_7 l b_) (goW a b pl beg) r).map (fun r=>e_7 l (stH a b pl fB fD beg r)),(j_5 (d_7 l b_) (goW a b pl beg) r).map (stH a b pl fB fD beg))))
  (b_7 (stP l n a b pl b_ beg),(stP l n a b pl b_ beg).map (stV l a b at_ pl vals fB fD beg),⟨m_0 l n a b e z,at_,work+(l_6 (d_7 l b_) (goW a b pl beg) n:Int),b_7 pl,vals,b_6 pl.length fB fD⟩,
    (b_7 ((stP l n a b pl b_ beg).map (stS a b pl fB fD beg)),(stP l n a b pl b_ beg).map (fun r=>e_7 l (stH a b pl fB fD beg r)),(stP l n a b pl b_ beg).map (stH a b pl fB fD beg))) n
  (fun r hr=>.inl (b_og K C b_ beg hw0 hw1 hr)) ?_ n 0 F (by omega) (by omega)
 ·have hz:work+(l_6 (d_7 l b_) (goW a b pl beg) 0:Int)=work:=by simp [l_6]
  rw [hz] at hloop
  have h2:iter (l_5 F ⟨goV l at_ vals beg,(goW a b pl beg).map (fun w=>w.map (e_7 l)),b_6 (goM pl beg) (goB pl beg fB) (goD pl beg fD)⟩ ((List.range n).map (x_0 l (d_7 l b_) (goW a b pl beg) (goW a b pl beg).length 0))) F ([],[],0,mkC l n a b e z at_ work pl vals fB fD,([],[],[]))=_:=hloop
  unfold m_7
  rw [b_pc K C beg]
  simp only [a_0,hto,h2]
  have hl:(m_0 l n a b e z).l=l:=rfl
  have hnx:=b_qh (F:=F) hw K.hR K.hn (show 2000<F by omega) K.TF.mL (show goM pl beg<=1000 by omega) (a_qk C beg) (b_fy K C b_ beg)
  simp only [hl,hnx,a_0,List.length_map,a_hm]
  have htg:(m_0 l n a b e z).tags=h_2 l:=rfl
  obtain ⟨q1,q2,q3,q4,q5,q6,q7⟩:=hrng
  rw [htg,f_2 (n:=at_+1) (by omega) (by omega),f_2 (n:=((stP l n a b pl b_ beg).length:Int)*h_2 l) (by omega) (by omega),f_2 (n:=((stP l n a b pl b_ beg).length:Int)*((stP l n a b pl b_ beg).length:Int)) (by omega) (by omega),f_2 (n:=((stP l n a b pl b_ beg).length:Int)*h_2 l+((stP l n a b pl b_ beg).length:Int)*((stP l n a b pl b_ beg).length:Int)) (by omega) (by omega)]
  rw [f_2 (n:=work+(l_6 (d_7 l b_) (goW a b pl beg) n:Int)+(((stP l n a b pl b_ beg).length:Int)*h_2 l+((stP l n a b pl b_ beg).length:Int)*((stP l n a b pl b_ beg).length:Int))) (by omega) (by omega)]
  have hww:work+(l_6 (d_7 l b_) (goW a b pl beg) n:Int)+(((stP l n a b pl b_ beg).length:Int)*h_2 l+((stP l n a b pl b_ beg).length:Int)*((stP l n a b pl b_ beg).length:Int))=work+stW l n a b pl b_ beg:=by unfold stW;omega
  rw [hww]
  rfl
 ·unfold l_5
  have h1:¬ ((n:Int)<(((List.range n).map (x_0 l (d_7 l b_) (goW a b pl beg) (goW a b pl beg).length 0)).length:Int)):=by simp
  simp only [h1,decide_false,if_false,false_eq_true]
  rfl
end
