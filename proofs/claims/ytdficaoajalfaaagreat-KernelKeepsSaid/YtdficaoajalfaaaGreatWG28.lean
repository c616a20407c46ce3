/- Some rows of a table, moved: as a contract. Apply, as a contract. From what a row reads to what the walks take: numbers, slices, structs; and back: the frame of a law. Its conditions: none. -/
import Derived.Test.YtdficaoajalfaaaGreatWG26
import Derived.Test.YtdficaoajalfaaaGreatWX16
import Derived.Test.YtdficaoajalfaaaGreatWAp
import Derived.Test.YtdficaoajalfaaaGreatWG02
import Derived.ProofKit
import Derived.SizedLaws
import Derived.Carry
import Derived.OpenShut
open Nat (mul_one lt_or_ge)
open List (mem_of_getElem? mem_map)
set_option linter.all false
set_option maxRecDepth 100000
namespace Go.Proofs.YtdficaoajalfaaaGreat
open Go.RowKit Go.Proofs
open Go.V hiding Row
open Go.X
theorem H0c {H:L0} {S:F0} {c:List Value} {of:List Int} (h:(K0 en (.list (.int .i64))).R H S c of):∃ B d,c=[.slice B of.length d]/\(of≠[]->∃ b o,B=some ⟨b,o,none⟩/\b<H.size/\∀ k:Nat,k<of.length->Y2 H b (o+k)=some (.int .i64 (gt of (k:Int)))):=by
 obtain ⟨A,cc,rfl,hsl⟩:=(show (H3 (K0 en (.int .i64))).R H S c of from h)
 refine ⟨A,cc,rfl,fun hne=>?_⟩;obtain ⟨b,o,rfl,hb,_⟩:=hsl.2.1 hne;refine ⟨b,o,rfl,hb,fun k hk=>?_⟩;have hg:of[k]?=some (gt of (k:Int)):=by rw [I3 (x:=of[k]) (by simp [hk])];simp [hk]
 obtain ⟨b',o',cs,e,hR,hcell⟩:=hsl.2.2 k (show Int from gt of (k:Int)) hg;cases e;have hR:cs=[.int .i64 (gt of (k:Int))]:=hR;subst hR;have:=hcell 0 _ rfl;rw [show (K0 en (.int .i64)).sz=1 from rfl,mul_one] at this;exact this
theorem E04 {w:World} {S:F0} {us pl:List Value} {x:W4 en.D [.V0 47 [3] (.list (.int .i64)),.d (.list (.int .i64))]} (hsr:G3 en w.heap S [.V0 47 [3] (.list (.int .i64)),.d (.list (.int .i64))] x us pl) :
  ∃ v cs c2,pl=[v]/\us=[hd v,n4 false c2]/\(hd v).oneCell'=true/\F7 en w.heap S 47 [3] (.list (.int .i64)) (show List (List Int) from x.1) none v cs/\(K0 en (.list (.int .i64))).R w.heap S c2 x.2:=by
 unfold G3 at hsr;obtain ⟨c,u,us1,p1,p2,rfl,rfl,e1,h1,h2⟩:=hsr;unfold G3 at h2;obtain ⟨c2,u2,us2,p3,p4,rfl,rfl,e2,h3,h4⟩:=h2;obtain ⟨rfl,rfl⟩:=c06 h4;unfold SR at h1 h3;obtain ⟨v,cs,rfl,rfl,h5,h6⟩:=h1;obtain ⟨rfl,h3⟩:=h3;have e1:u=hd v:=e1;have e2:u2=n4 false c2:=e2;subst e1;subst e2;exact ⟨v,cs,c2,rfl,rfl,h5,h6,h3⟩
theorem I0v (F:Nat) (w:World) (S:F0) (v:Value) (cs c2:List Value) (l:List (List Int)) (of:List Int) (y:List (List Int)) (hm:g0l F l of=some y)
  (ht:F7 en w.heap S 47 [3] (.list (.int .i64)) (show List (List Int) from l) none v cs) (h2:(K0 en (.list (.int .i64))).R w.heap S c2 of) (hS:∀ b,S b->b<w.heap.size) (hbk:∀ k,Bk v k->S k) :
  Calls Tryz.prog 164 #[hd v,n4 false c2] w fun e w1=>∃ v1 cs1,e=.returned (hd v1)/\Below w.heap.size w w1/\F7 en w1.heap (fun k=>S k\/J1 (hd v1)=some k) 47 [3] (.list (.int .i64)) (show List (List Int) from y) none v1 cs1/\
   (hd v1).oneCell'=true/\(∀ k,J1 (hd v1)=some k->w.heap.size<=k/\k<w1.heap.size)/\∀ k,Bk v1 k->Bk v k\/J1 (hd v1)=some k:=by
 obtain ⟨B,d,rfl,hB⟩:=H0c h2;unfold g0l at hm;split at hm
 rotate_left
 ·cases hm
 rename_i hap;cases hm;simp only [Bool.and_eq_true,List.all_eq_true] at hap;obtain ⟨hdist,hin,hap⟩:=hap;have hlen:of.length<=5864062014805:=by simp [I0] at hap;omega
 have hin2:∀ i∈of,0<=i/\i<(l.length:Int):=fun i hi=>a08 (hin i hi);have hrow:Row w.heap 47 1 (hd v) l.length cs:=ht.row;have hcl:cs.length=l.length:=by have:=hrow.1;omega
 have htl:tl v=cs:=ht.tl;have hrr:L7 en w.heap S [3] (.list (.int .i64)) l cs:=⟨ht.sz,fun i x f u ys e' h1 h2 h3=>ht.rows i x f u ys e' h1 h2 h3 (by simp),ht.one⟩
 have hlive:=hrr.live ht.ok;obtain ⟨A,cc,hv⟩:=hrow.form;have hrow1:∀ k:Nat,k<l.length->∃ r,cs[k]?=some r/\K5 en w.heap S 3 (.int .i64) (gt l (k:Int)) r:=fun k hk=>by
  have hg:l[k]?=some (gt l (k:Int)):=by rw [I3 (x:=l[k]) (by simp [hk])];simp [hk]
  obtain ⟨r,h3,h4⟩:=hrr.rows k (show List Int from gt l (k:Int)) 0 (.int .i64) (show List Int from gt l (k:Int)) 3 hg rfl rfl;refine ⟨r,?_,h4⟩;have:Go.X.rowAt [3] k 0=k:=by simp [Go.X.rowAt]
  rw [this] at h3;exact h3
 have h1c:∀ u∈cs,∃ a m c,u=.slice a m c:=fun u hu=>by
  obtain ⟨p,hp⟩:=List.getElem?_of_mem hu;have hlt:p<l.length:=by rw [<-hcl];exact (List.getElem?_eq_some_iff.1 hp).1
  obtain ⟨r,h3,cs',h4,_⟩:=hrow1 p hlt;rw [hp] at h3;cases h3;obtain ⟨a,c,h5⟩:=h4.form;exact ⟨a,_,c,h5⟩
 have hA:cs≠[]->∃ b,A=some ⟨b,0,none⟩/\b<w.heap.size/\∀ k:Nat,k<cs.length->Y2 w.heap b k=some (cs.getD k (.int .i64 0)):=fun hne=>by
  rcases hrow.2 with ⟨h0,_⟩ | ⟨g,cap,cur,h3,hp,hg,hn,_,hz,htk⟩
  ·exact absurd (List.eq_nil_of_length_eq_zero (by omega)) hne
  ·rw [hv] at h3;cases h3;refine ⟨g,rfl,getElem?_lt hg,fun k hk=>?_⟩;unfold Y2;rw [hg];have h4:(cur.toList.take (l.length*1))[k]?=cs[k]?:=by rw [htk]
   rw [mul_one,List.getElem?_take_of_lt (by omega)] at h4;simp only [<-Array.getElem?_toList,h4,List.getD_eq_getElem?_getD,List.getElem?_eq_getElem hk];rfl
 have hcall:=G0t cs of A B cc d w h1c hA hB (fun i hi=>by have:=hin2 i hi;omega) hlen;rw [hcl] at hcall;rw [hv];refine hcall.mono ?_
 rintro e w1 ⟨v',rfl,hown,hb⟩
 have hrow':Row w1.heap 47 1 v' of.length (of.map (rowOf cs)):=Row.of hown;have hnew:∀ k,J1 v'=some k->w.heap.size<=k/\k<w1.heap.size:=fun k hk=>by
  refine ⟨?_,hrow'.live k hk⟩;rcases hown.2 with ⟨rfl,_⟩ | ⟨g,cap,cur,rfl,h3,_⟩
  ·cases hk
  ·obtain ⟨_,rfl⟩:=c0C hk;exact h3
 have kp:B1 w.heap S w1.heap (fun k=>S k\/J1 v'=some k):=⟨hb.size,fun b hb' hn=>⟨fun h=>h.elim hn (fun h=>by have:=(hnew b h).1;omega),hb.block b hb'⟩⟩
 have hat:∀ (i:Nat) (q:Int),of[i]?=some q->(of.map (rowOf cs))[i]?=some (rowOf cs q)/\cs[q.toNat]?=some (rowOf cs q)/\q.toNat<l.length:=fun i q hq=>by
  obtain ⟨q0,q1⟩:=hin2 q (mem_of_getElem? hq);have hlt:q.toNat<cs.length:=by omega
  refine ⟨by rw [List.getElem?_map,hq];rfl,?_,by omega⟩;rw [List.getElem?_eq_getElem hlt];simp [rowOf,List.getElem?_eq_getElem hlt]
 have hrr':L7 en w1.heap (fun k=>S k\/J1 v'=some k) [3] (.list (.int .i64)) (show List (List Int) from of.map fun i=>gt l i) (of.map (rowOf cs)):=by
  refine ⟨?_,fun i x f u ys e' h3 h4 h5=>?_,fun u hu=>?_⟩
  ·show (of.map (rowOf cs)).length=(of.map fun i=>gt l i).length*1;simp
  ·have h3:(of.map fun i=>gt l i)[i]?=some (show List Int from x):=h3;rw [List.getElem?_map] at h3;cases hq:of[i]? with
   |none=>rw [hq] at h3;cases h3
   |
    some q=>
    rw [hq] at h3;cases h3;obtain ⟨g1,g2,g3⟩:=hat i q hq;obtain ⟨q0,q1⟩:=hin2 q (mem_of_getElem? hq);have hf:f=0:=by
     cases f with
     |zero=>rfl
     |succ f=>simp at h5
    subst hf;have hg:l[q.toNat]?=some (gt l q):=by
     obtain ⟨m,rfl⟩:∃ m:Nat,q=m:=⟨q.toNat,by omega⟩
     have hm:m<l.length:=by omega
     rw [I3 (x:=l[m]) (by simp [hm])];simp [hm]
    obtain ⟨r,r1,r2⟩:=hrr.rows q.toNat _ 0 u ys e' hg h4 h5;rw [show Go.X.rowAt [3] q.toNat 0=q.toNat from by simp [Go.X.rowAt],g2] at r1;cases r1;refine ⟨_,by rw [show Go.X.rowAt [3] i 0=i from by simp [Go.X.rowAt]];exact g1,r2.mono kp fun b hb'=>hb.block b ?_⟩;exact hlive _ (mem_of_getElem? g2) b hb'
  ·obtain ⟨q,hq,rfl⟩:=mem_map.1 hu;obtain ⟨i,hi⟩:=List.getElem?_of_mem hq;exact ht.one _ (mem_of_getElem? (hat i q hi).2.1)
 have hmem:∀ u∈of.map (rowOf cs),u∈cs:=fun u hu=>by
  obtain ⟨q,hq,rfl⟩:=mem_map.1 hu;obtain ⟨i,hi⟩:=List.getElem?_of_mem hq;exact mem_of_getElem? (hat i q hi).2.1
 have hne:∀ (i j:Nat) (p q:Int),i≠j->of[i]?=some p->of[j]?=some q->p≠q:=by
  have hp:=(f0B (fun i:Int=>i) of).1 hdist;have key:∀ (i j:Nat) (p q:Int),i<j->of[i]?=some p->of[j]?=some q->p≠q:=fun i j p q hij h3 h4=>by
   obtain ⟨i1,rfl⟩:=List.getElem?_eq_some_iff.1 h3;obtain ⟨j1,rfl⟩:=List.getElem?_eq_some_iff.1 h4;exact List.pairwise_iff_getElem.1 hp i j i1 j1 hij
  intro i j p q hij h3 h4;rcases Nat.lt_or_gt_of_ne hij with h | h
  ·exact key i j p q h h3 h4
  ·exact (key j i q p h h4 h3).symm
 have hap':e0B (v' :: of.map (rowOf cs)):=by
  intro i j x x' hij h3 h4 k hk hk';have hcell:∀ (i:Nat) (x:Value),(v' :: of.map (rowOf cs))[i+1]?=some x->∃ p,of[i]?=some p/\cs[p.toNat]?=some x/\p.toNat<l.length/\0<=p:=fun i x h=>by
   rw [List.getElem?_cons_succ,List.getElem?_map] at h;cases hq:of[i]? with
   |none=>rw [hq] at h;cases h
   |
    some q=>
    rw [hq] at h;cases h;exact ⟨q,rfl,(hat i q hq).2.1,(hat i q hq).2.2,(hin2 q (mem_of_getElem? hq)).1⟩
  match i,j with
  |0,0=>exact hij rfl
  |
   0,j+1=>
   obtain ⟨p,_,p2,_⟩:=hcell j x' h4;cases h3;have:=hlive _ (mem_of_getElem? p2) k hk';have:=(hnew k hk).1;omega
  |
   i+1,0=>
   obtain ⟨p,_,p2,_⟩:=hcell i x h3;cases h4;have:=hlive _ (mem_of_getElem? p2) k hk;have:=(hnew k hk').1;omega
  |
   i+1,j+1=>
   obtain ⟨p,p1,p2,_,p4⟩:=hcell i x h3;obtain ⟨q,q1,q2,_,q4⟩:=hcell j x' h4;have:=hne i j p q (by omega) p1 q1;refine ht.ap (p.toNat+1) (q.toNat+1) x x' (by omega) ?_ ?_ k hk hk'
   ·rw [htl];exact p2
   ·rw [htl];exact q2
 refine ⟨.tuple (v' :: of.map (rowOf cs)).toArray,of.map (rowOf cs),rfl,hb,F7.of ?_ ht.ok hrr' hap',?_,hnew,?_⟩
 ·show Row w1.heap 47 1 v' (of.map fun i=>gt l i).length _;rw [List.length_map];exact hrow'
 ·obtain ⟨a,c,h3⟩:=hrow'.form;show v'.oneCell'=true;rw [h3];rfl
 ·rintro k ⟨u,hu,hk⟩
  have hu:u∈v' :: of.map (rowOf cs):=hu;rcases List.mem_cons.1 hu with rfl | hu
  ·exact .inr hk
  ·exact .inl (Bk.tl (by rw [htl];exact hmem u hu) hk)
theorem x0B (F:Nat):T0 en (o0N F):=by
 intro w S us pl x y hm hsr hS hpl hap;obtain ⟨v,cs,c2,rfl,rfl,h1,ht,h2⟩:=E04 hsr;have hbk:∀ k,Bk v k->S k:=fun k hk=>hpl k ⟨v,by simp,hk⟩;refine (I0v F w S v cs c2 x.1 x.2 y hm ht h2 hS hbk).mono ?_
 rintro e w1 ⟨v1,cs1,rfl,hb,ht1,hone,hnew,hbk1⟩
 refine ⟨hd v1,fun k=>S k\/J1 (hd v1)=some k,[v1],rfl,?_,⟨hb.os,hb.tape,hb.output,hb.size,fun k hk _=>hb.block k hk⟩,⟨hb.size,fun b hb' hn=>⟨fun h=>h.elim hn (fun h=>by have:=(hnew b h).1;omega),hb.block b hb'⟩⟩,fun b h _=>.inl h,fun b h=>?_,?_,?_⟩
 ·refine c04 (x:=.V0 47 [3] (.list (.int .i64))) (r:=[]) ⟨[hd v1],hd v1,[],[v1],[],rfl,rfl,rfl,?_,c0T⟩;unfold SR;exact ⟨v1,cs1,rfl,rfl,hone,ht1⟩
 ·rcases h with h | h
  ·exact Nat.lt_of_lt_of_le (hS b h) hb.size
  ·exact (hnew b h).2
 ·intro i j v1 v2 hne h1 h2;have e:∀ {q:Nat} {z:Value} {s:Value},[s][q]?=some z->q=0:=fun {q z s} h=>by
   cases q with
   |zero=>rfl
   |succ q=>simp at h
  exact absurd ((e h1).trans (e h2).symm) hne
 ·rintro b ⟨u,hu,hb1⟩
  simp only [List.mem_singleton] at hu;subst hu;rcases hbk1 b hb1 with h | h
  ·exact ⟨.inl (hbk b h),.inl ⟨v,by simp,h⟩⟩
  ·exact ⟨.inr h,.inr (hnew b h).1⟩
theorem F0V {E:Env} {H:L0} {S:F0} {cs:List Value} {y:List Int} (he:Z1 (K0 E (.int .i64)) H S cs y) {i:Nat} (hi:i<y.length):cs[i]?=some (.int .i64 (y.getD i 0)):=by
 have h1:=he.2 i (y.getD i 0) (by rw [show y.getD i 0=y[i] from by simp [List.getD,hi]];exact List.getElem?_eq_getElem hi);have h1:(cs.drop (i*1)).take 1=[.int .i64 (y.getD i 0)]:=h1;rw [mul_one] at h1;have:=congrArg (fun l=>l[0]?) h1;simpa using this
theorem x0b {E:Env} {H:L0} {S:F0} {cs:List Value} {y:List Int} (hl:cs.length=y.length) (h:∀ i,i<y.length->cs[i]?=some (.int .i64 (y.getD i 0))):Z1 (K0 E (.int .i64)) H S cs y:=by
 refine ⟨by rw [hl];exact (mul_one _).symm,fun i (x:Int) hx=>?_⟩;have hi:i<y.length:=(List.getElem?_eq_some_iff.1 hx).1;have hx2:y.getD i 0=x:=by
  have hx':@Eq (Option Int) y[i]? (some x):=hx;rw [List.getD_eq_getElem?_getD,hx'];rfl
 have h2:=h i hi;rw [hx2] at h2;show (cs.drop (i*1)).take 1=[.int .i64 x];rw [mul_one];have hic:i<cs.length:=by omega
 rw [List.drop_eq_getElem_cons hic];rw [List.getElem?_eq_getElem hic] at h2;rw [Option.some.inj h2];rfl
theorem F0j {F:Nat} (h:T0 en (j0G F)) {w:World} {S:F0} {l y:List Int} {c:List Value} (hm:k0h F l=some y) (hl:(K0 en (.list (.int .i64))).R w.heap S c l) (hS:∀ b,S b->b<w.heap.size) :
  Calls en.P 75 #[n4 false c] w fun e w1=>∃ v,e=.returned v/\(∃ ao cap,v=.slice ao y.length cap)/\X7 w v y w1/\(∀ k,J1 v=some k->w.heap.size<=k)/\∀ k,k<w.heap.size->w1.heap[k]?=w.heap[k]?:=by
 have hsr0:G3 en w.heap S [.d (.list (.int .i64))] l [n4 false c] []:=by
  refine c04 (x:=.d (.list (.int .i64))) (r:=[]) ⟨c,n4 false c,[],[],[],rfl,rfl,rfl,?_,c0T⟩;unfold SR;exact ⟨rfl,hl⟩
 refine (h w S [n4 false c] [] l y hm hsr0 hS (by rintro b ⟨v,hv,_⟩;simp at hv) (by intro i j v v' _ hv;simp at hv)).mono ?_
 rintro e w1 ⟨v,S1,pl1,rfl,hsr,hb,hk,hs1,hs2,hap,hbl⟩
 have hsr:G3 en w1.heap S1 [.own 3 (.int .i64)] y [v] pl1:=hsr;unfold G3 at hsr;obtain ⟨c1,u,us',p1,p2,e0,rfl,e1,h1,h2⟩:=hsr;cases e0;obtain ⟨_,rfl⟩:=c06 h2;unfold SR at h1;obtain ⟨v1,cs,rfl,rfl,h5,hrow,hels⟩:=h1;have e1:v=v1:=e1;subst e1;have hblock:∀ k,k<w.heap.size->w1.heap[k]?=w.heap[k]?:=fun k hk=>hb.block k hk (by rintro ⟨v,hv,_⟩;simp at hv);have hge:∀ k,J1 v=some k->w.heap.size<=k:=fun k hk=>by
  have hbk:Bk v k:=by
   obtain ⟨A,cc,hfo⟩:=Row.form hrow;rw [hfo] at hk ⊢;exact hk
  rcases (hbl k ⟨v,by simp,hbk⟩).2 with ⟨v2,hv2,_⟩ | h
  ·simp at hv2
  ·exact h
 refine ⟨v,rfl,Row.form hrow,⟨hb.os,hb.tape,hb.output,hb.size,fun k hk _=>hblock k hk,?_⟩,hge,hblock⟩;obtain ⟨h0,⟨h1,a,rfl⟩ | ⟨g,cap,cur,rfl,hc,hg,hn,hmx,hz,ht⟩⟩:=hrow
 ·exact .inl ⟨List.eq_nil_of_length_eq_zero h1,a,rfl⟩
 ·obtain ⟨cap',rfl⟩:∃ q,cap=q+1:=⟨cap-1,by omega⟩
  refine .inr ⟨g,cap',cur,rfl,hg,?_,hn,hmx,fun i hi=>?_⟩
  ·have hz:cur.size=(cap'+1)*1:=hz;omega
  ·have h2:=F0V hels hi;have hl:(cur.toList.take (y.length*1))=cs:=ht;rw [mul_one] at hl;have h2:cs[i]?=some (.int .i64 (y.getD i 0)):=h2;rw [<-hl,List.getElem?_take_of_lt hi] at h2;rw [<-h2];simp
theorem w03 {H:L0} {S:F0} {c:List Value} {marks:List P2} (h:(K0 en (.list (.st 4))).R H S c marks):∃ A cc,c=[.slice A marks.length cc]/\(marks≠[]->∃ b o,A=some ⟨b,o,none⟩/\b<H.size/\∀ k:Nat,k<marks.length->Y2 H b (o+k*2)=some (.int .i64 (gt marks (k:Int)).Kind)/\Y2 H b (o+k*2+1)=some (.int .i64 (gt marks (k:Int)).Group)):=by
 obtain ⟨A,cc,rfl,hsl⟩:=(show (H3 (K0 en (.st 4))).R H S c marks from h)
 refine ⟨A,cc,rfl,fun hne=>?_⟩;obtain ⟨b,o,rfl,hb,_⟩:=hsl.2.1 hne;refine ⟨b,o,rfl,hb,fun k hk=>?_⟩;have hg:marks[k]?=some (gt marks (k:Int)):=by rw [I3 (x:=marks[k]) (by simp [hk])];simp [hk]
 obtain ⟨b',o',cs,e,hR,hcell⟩:=hsl.2.2 k (show P2 from gt marks (k:Int)) hg;cases e;have hR2:cs=[.int .i64 (gt marks (k:Int)).Kind,.int .i64 (gt marks (k:Int)).Group]:=by
  have h3:=(n0I 4 H S cs (show P2 from gt marks (k:Int))).1 hR;obtain ⟨c1,c2,rfl,h5,c3,c4,rfl,h6,h7⟩:=h3;have h5:c1=[.int .i64 (gt marks (k:Int)).Kind]:=h5;have h6:c3=[.int .i64 (gt marks (k:Int)).Group]:=h6;have h7:c4=[]:=h7;rw [h5,h6,h7];rfl
 subst hR2;exact ⟨hcell 0 _ rfl,hcell 1 _ rfl⟩
theorem x0c {w:World} {S:F0} {us pl:List Value} {x:W4 en.D [.d (.list (.int .i64)),.d (.list (.st 4)),.d (.int .i64),.d (.int .i64)]} (hsr:G3 en w.heap S [.d (.list (.int .i64)),.d (.list (.st 4)),.d (.int .i64),.d (.int .i64)] x us pl) :
  pl=[]/\∃ c c2,us=[n4 false c,n4 false c2,.int .i64 (show Int from x.2.2.1),.int .i64 (show Int from x.2.2.2)]/\(K0 en (.list (.int .i64))).R w.heap S c x.1/\(K0 en (.list (.st 4))).R w.heap S c2 x.2.1:=by
 skip
 unfold G3 at hsr;obtain ⟨c,u,us1,p1,p2,rfl,rfl,e1,h1,h2⟩:=hsr;unfold G3 at h2;obtain ⟨c2,u2,us2,p3,p4,rfl,rfl,e2,h3,h4⟩:=h2;unfold G3 at h4;obtain ⟨c3,u3,us3,p5,p6,rfl,rfl,e3,h5,h6⟩:=h4;unfold G3 at h6;obtain ⟨c4,u4,us4,p7,p8,rfl,rfl,e4,h7,h8⟩:=h6;obtain ⟨rfl,rfl⟩:=c06 h8;unfold SR at h1 h3 h5 h7;obtain ⟨rfl,h1⟩:=h1;obtain ⟨rfl,h3⟩:=h3;obtain ⟨rfl,h5⟩:=h5;obtain ⟨rfl,h7⟩:=h7;have h5:c3=[.int .i64 (show Int from x.2.2.1)]:=h5;have h7:c4=[.int .i64 (show Int from x.2.2.2)]:=h7;subst h5;subst h7;have e1:u=n4 false c:=e1;have e2:u2=n4 false c2:=e2;have e3:u3=.int .i64 (show Int from x.2.2.1):=e3;have e4:u4=.int .i64 (show Int from x.2.2.2):=e4;subst e1;subst e2;subst e3;subst e4;exact ⟨rfl,c,c2,rfl,h1,h3⟩
theorem z0w (F:Nat) (hcl:T0 en (j0G F)) (w:World) (S:F0) (c c2:List Value) (tags:List Int) (marks:List P2) (now nn:Int) (y:List Int) (hm:c01 F tags marks now nn=some y)
  (h1:(K0 en (.list (.int .i64))).R w.heap S c tags) (h2:(K0 en (.list (.st 4))).R w.heap S c2 marks) (hS:∀ b,S b->b<w.heap.size) :
  Calls Tryz.prog 72 #[n4 false c,n4 false c2,.int .i64 now,.int .i64 nn] w fun e w1=>∃ v,e=.returned v/\X7 w v y w1/\(∀ k,J1 v=some k->w.heap.size<=k)/\∀ k,k<w.heap.size->w1.heap[k]?=w.heap[k]?:=by
 obtain ⟨A,cc,rfl,hmk⟩:=w03 h2;unfold c01 at hm;split at hm
 rotate_left
 ·cases hm
 rename_i hap8;cases hm;simp only [Bool.and_eq_true,decide_eq_true_eq] at hap8;obtain ⟨hap,hml⟩:=hap8;have htl:tags.length<=20000000000000:=by simp [I0] at hap;omega
 have hc:k0h F tags=some tags:=by unfold k0h;rw [if_pos hap]
 exact H0z (n4 false c) tags marks now nn A cc w (F0j hcl hc h1 hS) hmk (by omega) htl
theorem B09 {w W:World} {v:Value} {o:List Int} (h:X7 w v o W) {E:Env} {S:F0}:∃ cs,Row W.heap 3 1 v o.length cs/\Z1 (K0 E (.int .i64)) W.heap S cs o/\∃ a c,v=.slice a o.length c:=by
 rcases h.own with ⟨rfl,a,rfl⟩ | ⟨g,cap,cur,rfl,hg,hs,hn,hm,hc⟩
 ·exact ⟨[],⟨rfl,.inl ⟨rfl,a,rfl⟩⟩,Z1.nil,a,0,rfl⟩
 ·refine ⟨cur.toList.take o.length,⟨by simp;omega,.inr ⟨g,cap+1,cur,rfl,by omega,hg,hn,hm,by omega,by rw [mul_one]⟩⟩,x0b (by simp;omega) (fun i hi=>?_),_,_,rfl⟩;rw [List.getElem?_take_of_lt hi];simpa using hc i hi
theorem A0t (F:Nat) (hcl:T0 en (j0G F)):T0 en (j0W F):=by
 intro w S us pl x y hm hsr hS hpl hap;obtain ⟨rfl,c,c2,rfl,h1,h2⟩:=x0c hsr;refine (z0w F hcl w S c c2 x.1 x.2.1 x.2.2.1 x.2.2.2 y hm h1 h2 hS).mono ?_
 rintro e w1 ⟨v,rfl,hI,hge,hbl⟩
 obtain ⟨cs,hrow,hels,a,cc,hv⟩:=B09 (E:=en) (S:=fun k=>S k\/J1 v=some k) hI;have hbk:∀ k,Bk v k->J1 v=some k:=fun k hk=>by rw [hv] at hk ⊢;exact hk
 have hone:v.oneCell'=true:=by rw [hv];rfl
 refine ⟨v,fun k=>S k\/J1 v=some k,[v],rfl,?_,⟨hI.os,hI.tape,hI.output,hI.size,fun k hk _=>hbl k hk⟩,⟨hI.size,fun b hb' hn=>⟨fun h=>h.elim hn (fun h=>by have:=hge b h;omega),hbl b hb'⟩⟩,fun b h _=>.inl h,fun b h=>?_,?_,?_⟩
 ·refine c04 (x:=.own 3 (.int .i64)) (r:=[]) ⟨[v],v,[],[v],[],rfl,rfl,rfl,?_,c0T⟩;unfold SR;exact ⟨v,cs,rfl,rfl,hone,hrow,hels⟩
 ·rcases h with h | h
  ·exact Nat.lt_of_lt_of_le (hS b h) hI.size
  ·exact hrow.live b h
 ·intro i j v1 v2 hne h1 h2;have e:∀ {q:Nat} {z:Value},[v][q]?=some z->q=0:=fun {q z} h=>by
   cases q with
   |zero=>rfl
   |succ q=>simp at h
  exact absurd ((e h1).trans (e h2).symm) hne
 ·rintro b ⟨v1,hv1,hb1⟩
  simp only [List.mem_singleton] at hv1;subst hv1;exact ⟨.inr (hbk b hb1),.inr (hge b (hbk b hb1))⟩
end Go.Proofs.YtdficaoajalfaaaGreat
namespace Go.V
open Go.RowKit Go.ChangeShapes Go.WideShapes Go.ChangeAt
def C7 (k:IntKind) (x:Int):Prop:=k.min<=x/\x<=k.max
structure Rd (P:Program) (t:TypeId) {α:Type} (T:Ty α) (wf:α->Prop):Prop where
 get:∀ {H:Type} {enc:TypeId×Value->H} {W:World} {sp:Nat->Bool} {held:Bool} {fuel:Nat} {cs:List Value} {d:DataW H} {ps:List MemPlace},
  DataW.trod enc P W 0 sp held fuel t cs=some (d,ps)->(∀ p∈ps,p.block<W.heap.size)->∃ x,T.R W.heap X5 cs x/\wf x
section
variable {P:Program} {t e:TypeId}
theorem Rd.int {k:IntKind} (ht:P.underlying t=some (.int k)):Rd P t (X2 k) (C7 k):=⟨by
 intro H enc W sp held fuel cs d ps h _;cases fuel with
 |zero=>simp [DataW.trod] at h
 |
  succ f=>
  simp only [DataW.trod,ht] at h;split at h<;>simp_all
  obtain ⟨⟨rfl,hw⟩,_⟩:=h;simp only [Lit.wf,Bool.and_eq_true,decide_eq_true_eq] at hw;exact ⟨_,rfl,hw⟩⟩
theorem Rd.bool (ht:P.underlying t=some .bool):Rd P t b0V (fun _=>True):=⟨fun h _=>by
 obtain ⟨b,rfl,_⟩:=DataW.trod_bool ht h;exact ⟨b,rfl,trivial⟩⟩
theorem u0W {α β:Type} {f:α->Option β}:∀ {l:List α} {r:List β},l.mapM f=some r->l.length=r.length/\∀ (i:Nat) (x:α),l[i]?=some x->∃ y,r[i]?=some y/\f x=some y
 |[],r,h=>by simp at h;subst h;simp
 |
  x :: xs,r,h=>by
  rw [List.mapM_cons] at h;cases hx:f x with
  |none=>simp [hx] at h
  |
   some y=>
   cases hxs:xs.mapM f with
   |none=>simp [hx,hxs] at h
   |
    some ys=>
    simp [hx,hxs] at h;subst h;obtain ⟨h1,h2⟩:=u0W hxs;refine ⟨by simp [h1],fun i z hz=>?_⟩;cases i with
    |zero=>simp at hz;subst hz;exact ⟨y,rfl,hx⟩
    |succ i=>simpa using h2 i z (by simpa using hz)
theorem cells?_get {W:World} {base:Nat} {a:Addr} {n:Nat} {cs:List Value} (h:W.cells? base a n=some cs):cs.length=n/\∀ (j:Nat) (v:Value),cs[j]?=some v->W.cell? (a.add j)=some v:=by
 unfold World.cells? at h;split at h
 ·obtain ⟨h1,h2⟩:=u0W h;simp at h1;refine ⟨h1.symm,fun j v hj=>?_⟩;have hl:j<n:=by
   rcases lt_or_ge j n with h | h
   ·exact h
   ·rw [List.getElem?_eq_none (by omega)] at hj;cases hj
  obtain ⟨y,hy,hc⟩:=h2 j j (by simp [hl]);rw [hy] at hj;cases hj;exact hc
 ·cases h
theorem m0C {α:Type} {Q:Nat->α->Prop}:∀ (n:Nat),(∀ i,i<n->∃ x,Q i x)->∃ xs:List α,xs.length=n/\∀ (i:Nat) (x:α),xs[i]?=some x->Q i x
 |0,_=>⟨[],rfl,fun i x h=>by simp at h⟩
 |
  n+1,h=>by
  obtain ⟨xs,hl,hx⟩:=m0C n (fun i hi=>h i (by omega));obtain ⟨y,hy⟩:=h n (by omega);refine ⟨xs++[y],by simp [hl],fun i x hi=>?_⟩;rcases lt_or_ge i xs.length with h1 | h1
  ·rw [List.getElem?_append_left h1] at hi;exact hx i x hi
  ·rw [List.getElem?_append_right h1] at hi;have:i-xs.length=0:=by
    rcases Nat.eq_zero_or_pos (i-xs.length) with h | h
    ·exact h
    ·rw [List.getElem?_eq_none (by simp;omega)] at hi;cases hi
   rw [this] at hi;simp at hi;subst hi;have:i=n:=by omega
   subst this;exact hy
theorem Rd.slice {α:Type} {T:Ty α} {wf:α->Prop} (ht:P.underlying t=some (.slice e)) (hE:P.cellsOf e=T.sz) (hsz:0<T.sz) (R:Rd P e T wf):Rd P t (H3 T) (fun l=>∀ x∈l,wf x):=⟨by
 intro H enc W sp held fuel cs d ps h hp;rcases DataW.trod_slice ht h with ⟨rfl,_⟩ | ⟨a,len,cap,elems,rest,f,rfl,rfl,hx,_,hle,_,hel,hget,_,_⟩
 ·exact ⟨[],⟨none,0,rfl,Sl.nil⟩,by simp⟩
 ·cases hx;have hrow:∀ j,j<len*P.cellsOf e->MemPlace.cell a.block (a.off+j)∈MemPlace.row a ((elems.length+rest.length)*P.cellsOf e):=fun j hj=>MemPlace.mem_row.2 ⟨j,Nat.lt_of_lt_of_le hj (Nat.mul_le_mul_right _ (by omega)),rfl⟩;have key:∀ i,i<len->∃ x,(∃ cs,T.R W.heap X5 cs x/\∀ j v,cs[j]?=some v->W.cell? ((a.add (i*P.cellsOf e)).add j)=some v)/\wf x:=fun i hi=>by
   have hf:=hget i hi;rw [List.getElem?_eq_getElem (by omega)] at hf;simp only [Option.bind_eq_some_iff] at hf;obtain ⟨cs,hcs,htr⟩:=hf;obtain ⟨x,hx,hw⟩:=R.get htr (fun p hp'=>hp p (by
    simp only [List.mem_append,List.mem_flatMap];exact .inr ⟨_,.inl (List.getElem_mem _),hp'⟩))
   exact ⟨x,⟨cs,hx,(cells?_get hcs).2⟩,hw⟩
  obtain ⟨xs,hxl,hxs⟩:=m0C len key;have hspot:xs≠[]->∃ b o,a=⟨b,o,none⟩/\b<W.heap.size:=fun hne=>by
   have h0:0<len:=by
    rcases Nat.eq_zero_or_pos len with h | h
    ·exact absurd (List.eq_nil_of_length_eq_zero (hxl.trans h)) hne
    ·exact h
   obtain ⟨x,⟨⟨cs,hR,hc⟩,_⟩⟩:=key 0 h0;have hcl:=T.len hR;have h1:=hc 0 cs[0] (by simp [hcl,hsz]);obtain ⟨b,o,spot⟩:=a;have:spot=none:=by
    have:=World.cell?_spot h1;simpa [Addr.add] using this
   subst this;refine ⟨b,o,rfl,?_⟩;have:=hp (.cell b (o+0)) (by
    simp only [List.mem_append];exact .inl (hrow 0 (Nat.mul_pos h0 (by omega))))
   exact this
  subst hxl;refine ⟨xs,⟨some a,cap,rfl,hle,fun hne=>?_,fun i x hx=>?_⟩,fun x hx=>?_⟩
  ·obtain ⟨b,o,rfl,hb⟩:=hspot hne;exact ⟨b,o,rfl,hb,fun h=>h⟩
  ·have hne:xs≠[]:=by rintro rfl;simp at hx
   obtain ⟨b,o,rfl,hb⟩:=hspot hne;obtain ⟨⟨cs,hR,hc⟩,_⟩:=hxs i x hx;refine ⟨b,o,cs,rfl,hR,fun j v hj=>?_⟩;have:=hc j v hj;rw [y09,hE] at this;exact this
  ·obtain ⟨i,hi⟩:=List.getElem?_of_mem hx;exact (hxs i x hi).2⟩
theorem x05 {H:Type} {enc:TypeId×Value->H} {W:World} {sp:Nat->Bool} {held:Bool} {fuel:Nat} {cs:List Value} {d:DataW H} {ps:List MemPlace} {fs:Array Field} (ht:P.underlying t=some (.struct fs))
  (h:DataW.trod enc P W 0 sp held fuel t cs=some (d,ps)) (hp:∀ p∈ps,p.block<W.heap.size) :
  cs.length=P.cellsOf t/\∀ (i:Nat) (f:Field),fs[i]?=some f->∃ n d' ps',DataW.trod enc P W 0 sp held n f.type ((cs.drop f.offset).take (P.cellsOf f.type))=some (d',ps')/\∀ p∈ps',p.block<W.heap.size:=by
 obtain ⟨xs,n,rfl,hx,hl,hxl,hget⟩:=DataW.trod_struct ht h;cases hx;refine ⟨hl,fun i f hf=>?_⟩;have hi:i<fs.size:=by
  rcases lt_or_ge i fs.size with h | h
  ·exact h
  ·rw [Array.getElem?_eq_none h] at hf;cases hf
 have:=hget i f hf;rw [List.getElem?_eq_getElem (by omega)] at this;exact ⟨n,_,_,this,fun p hp'=>hp p (List.mem_flatMap.2 ⟨_,List.getElem_mem _,hp'⟩)⟩
theorem Rd.field {α:Type} {T:Ty α} {wf:α->Prop} {f:Field} {H:Type} {enc:TypeId×Value->H} {W:World} {sp:Nat->Bool} {held:Bool} {cs:List Value} (R:Rd P f.type T wf)
  (h:∃ n d' ps',DataW.trod enc P W 0 sp held n f.type ((cs.drop f.offset).take (P.cellsOf f.type))=some (d',ps')/\∀ p∈ps',p.block<W.heap.size) :
  ∃ x,T.R W.heap X5 ((cs.drop f.offset).take (P.cellsOf f.type)) x/\wf x:=by
 obtain ⟨n,d',ps',h1,h2⟩:=h;exact R.get h1 h2
theorem s0X {H:Type} {enc:TypeId×Value->H} (hl:laidOutB P=true) {W W':World} (hb:Below W.heap.size W W'):∀ {ts:List TypeId} {vs:List Value} {ds:List (DataW H)} {ps:List MemPlace},
  (ts.all fun t=>P.readableRec t&&decide (t<P.types.size))=true->DataW.TrodAll enc P W 0 (fun _=>true) true ts vs ds ps->(∀ x∈ps,x.block<W.heap.size)->DataW.TrodAll enc P W' 0 (fun b=>decide (b<W.heap.size)) true ts vs ds ps
 |[],[],[],_,_,h,_=>h
 |[],[],_ :: _,_,_,h,_=>h.elim
 |[],_ :: _,_,_,_,h,_=>h.elim
 |_ :: _,[],_,_,_,h,_=>h.elim
 |_ :: _,_ :: _,[],_,_,h,_=>h.elim
 |
  t :: ts,v :: vs,d :: ds,ps,hr,⟨p,q,h1,h2,e⟩,hp=>by
  simp only [List.all_cons,Bool.and_eq_true,decide_eq_true_eq] at hr;subst e;exact ⟨p,q,Below.trod hl hr.1.1 hr.1.2 h1 hb (fun x hx=>hp x (List.mem_append_left _ hx)),s0X hl hb hr.2 h2 (fun x hx=>hp x (List.mem_append_right _ hx)),rfl⟩
theorem E0M {C:Checked} {os:Os} {f:FuncId} {fn:Func} {s:ChangeSpec} {tb:TypeId} {H:Type} {enc:TypeId×Value->H} (own:ownKnob C.prog.godebug=none) (started:os.Started) (noInit:C.prog.inits.idxOf? f=none) (hfn:C.prog.funcs[f]?=some fn) (hl:laidOutB C.prog=true)
  (hres:fn.resultTypes=#[tb]) (htb:C.prog.underlying tb=some .bool) (hsv:s.vars=[]) (hread:(fn.params.toList.all fun t=>C.prog.readableRec t&&decide (t<C.prog.types.size))=true)
  (witness:∃ (w:World) (tape:Tape) (i:Input),w.os=os/\(w.forCall tape i).Shaped C.prog/\i.vars=[]/\Input.okWide C.prog (w.forCall tape i) .any w.heap.size f i/\
   s.pre6 enc C.prog fn [] false (w.forCall tape i).memory i.args/\({}:Assume).holds C.prog (lone (Frame.enter C.prog f i.args .normal) [] (w.forCall tape i)))
  (hspec:∀ (W:World) (args:Array Value) (ds:List (DataW H)) (p:List MemPlace),DataW.TrodAll enc C.prog W 0 (fun _=>true) true fn.params.toList args.toList ds p->(s.fn H (ds++[])).results=[.lit (.bool true)]/\(s.fn H (ds++[])).args=ds/\(s.fn H (ds++[])).vars=[])
  (body:∀ (W:World) (base:Nat) (args:Array Value) (ds:List (DataW H)) (p:List MemPlace),(∀ (j:Nat) t v,fn.params[j]?=some t->args[j]?=some v->Value.okWide C.prog W .any base t v)->
   DataW.TrodAll enc C.prog W 0 (fun _=>true) true fn.params.toList args.toList ds p->(∀ x∈p,x.block<W.heap.size)->(DataW.weightsEach C.prog fn.params.toList ds).all (·<=reachBytes)=true->
   Calls C.prog f args W fun e W'=>e=.returned (.bool true)/\Below W.heap.size W W') :
  ReturnsInHanded {} C os f .any (s.pre6 enc C.prog fn [] false) (s.post enc C.prog fn false true false false):=by
 refine returnsInHanded_of_change_sized own started noInit hfn witness ?_;intro W base args ds gs before hval hW _ hsz _;have hW':=hW;obtain ⟨p,q,hA,hV,rfl,_,_⟩:=hW;rw [hsv] at hV;obtain ⟨rfl,rfl⟩:=trodVars_none hV;have hlt:∀ x∈p,x.block<W.heap.size:=fun x hx=>by simpa using hW'.lt x (List.mem_append_left _ hx)
 have hvt:s.plain.varTypes C.prog=[]:=by unfold ChangeSpec.plain;simp [DataSpec.varTypes,hsv]
 rw [hvt,List.append_nil,List.append_nil] at hsz;refine (body W base args ds p hval hA hlt hsz).mono fun e W' ⟨he,hb⟩=>?_;subst he;obtain ⟨s1,s2,s3⟩:=hspec W args ds p hA;refine ⟨_,rfl,ds,[],p++[],[],p,[],hW',?_,?_,?_,hb.frame _,fun h=>by cases h⟩
 ·rw [s1,hres];exact trodAll_cons_mk (shut_bool htb _) trodAll_mk0
 ·rw [s2];exact s0X hl hb hread hA hlt
 ·rw [s3,hsv];rfl
theorem B03 {H:Type} {enc:TypeId×Value->H} {W:World} {fuel n c:Nat} {A:Option Addr} {d:DataW H} {ps:List MemPlace} {ts:List TypeId} {ds:List (DataW H)} {j:Nat} (ht:P.underlying t=some (.slice e))
  (h:DataW.trod enc P W 0 (fun _=>true) true fuel t (Value.slice A n c).cells.toList=some (d,ps)) (hsz:(DataW.weightsEach P ts ds).all (·<=reachBytes)=true) (hj:ts[j]?=some t) (hd:ds[j]?=some d):n*P.bytesOf e<=140737488351232:=by
 rcases DataW.trod_slice ht h with ⟨he,_⟩ | ⟨a,len,cap,elems,rest,f,rfl,he,hx,_,hle,_,hel,hget,_,_⟩
 ·simp [Value.cells] at he;rw [he.2.1];omega
 ·cases hx;simp [Value.cells] at he;have:=sized_slice hsz hj hd ht;simp only [List.length_map,hel] at this;have h2:n*P.bytesOf e<=(len+rest.length)*P.bytesOf e:=Nat.mul_le_mul_right _ (by omega);have h3:reachBytes=140737488351232:=rfl;omega
end
