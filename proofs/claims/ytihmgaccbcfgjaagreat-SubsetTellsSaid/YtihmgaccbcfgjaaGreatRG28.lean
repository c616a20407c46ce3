/- Some rows of a table, moved: as a contract. Apply, as a contract. DERIVED: THE SHELF's CONTRACTS AT THIS DUMP,IN PLAIN WORDS (tools/lay-plain.mjs out of 'TryzShelf.lean',which tools/lay-shelf.mjs wrote): THE SAME DECLARATIONS UNDER THE SAME NAMES: 'import','namespace','open','def','theorem' AND NOTHING ELSE: no command of the shelf's: FOR A HAND-IN. Each laying: the table of numbers ('.._ren') and one theorem,a field a fact of the dump's own or the kernel's comparison;each contract: ONE APPLICATION. The builder of strings, and the key of a byte. Its conditions: none. -/
import Derived.Test.YtihmgaccbcfgjaaGreatRG26
import Derived.Test.YtihmgaccbcfgjaaGreatRX16
import Derived.Test.YtihmgaccbcfgjaaGreatRAp
import Derived.Shelf.Strings.Builder1
import Derived.Test.YtihmgaccbcfgjaaGreatProg
import Derived.WalkKit
import Derived.Handy
import Derived.Test.YtihmgaccbcfgjaaGreatRMd
import Derived.Test.YtihmgaccbcfgjaaGreatRG24
import Derived.Test.YtihmgaccbcfgjaaGreatRX17
open Nat (mul_one)
open List (mem_of_getElem? mem_map)
set_option linter.all false
set_option maxRecDepth 100000
namespace Go.Proofs.YtihmgaccbcfgjaaGreat
open Go.RowKit Go.Proofs
open Go.V hiding Row
open Go.X
theorem q0z {H:F0} {S:B0} {c:List Value} {of:List Int} (h:(D0 en (.list (.int .i64))).R H S c of):∃ B d,c=[.slice B of.length d]/\(of≠[]->∃ b o,B=some ⟨b,o,none⟩/\b<H.size/\∀ k:Nat,k<of.length->Z0 H b (o+k)=some (.int .i64 (gt of (k:Int)))):=by
 obtain ⟨A,cc,rfl,hsl⟩:=(show (Q2 (D0 en (.int .i64))).R H S c of from h)
 refine ⟨A,cc,rfl,fun hne=>?_⟩;obtain ⟨b,o,rfl,hb,_⟩:=hsl.2.1 hne;refine ⟨b,o,rfl,hb,fun k hk=>?_⟩;have hg:of[k]?=some (gt of (k:Int)):=by rw [Y5 (x:=of[k]) (by simp [hk])];simp [hk]
 obtain ⟨b',o',cs,e,hR,hcell⟩:=hsl.2.2 k (show Int from gt of (k:Int)) hg;cases e;have hR:cs=[.int .i64 (gt of (k:Int))]:=hR;subst hR;have:=hcell 0 _ rfl;rw [show (D0 en (.int .i64)).sz=1 from rfl,mul_one] at this;exact this
theorem v0c {w:World} {S:B0} {us pl:List Value} {x:O2 en.D [.M0 22 [3] (.list (.int .i64)),.d (.list (.int .i64))]} (hsr:N1 en w.heap S [.M0 22 [3] (.list (.int .i64)),.d (.list (.int .i64))] x us pl) :
  ∃ v cs c2,pl=[v]/\us=[hd v,B2 false c2]/\(hd v).oneCell'=true/\R4 en w.heap S 22 [3] (.list (.int .i64)) (show List (List Int) from x.1) none v cs/\(D0 en (.list (.int .i64))).R w.heap S c2 x.2:=by
 unfold N1 at hsr;obtain ⟨c,u,us1,p1,p2,rfl,rfl,e1,h1,h2⟩:=hsr;unfold N1 at h2;obtain ⟨c2,u2,us2,p3,p4,rfl,rfl,e2,h3,h4⟩:=h2;obtain ⟨rfl,rfl⟩:=n9 h4;unfold SR at h1 h3;obtain ⟨v,cs,rfl,rfl,h5,h6⟩:=h1;obtain ⟨rfl,h3⟩:=h3;have e1:u=hd v:=e1;have e2:u2=B2 false c2:=e2;subst e1;subst e2;exact ⟨v,cs,c2,rfl,rfl,h5,h6,h3⟩
theorem v03 (F:Nat) (w:World) (S:B0) (v:Value) (cs c2:List Value) (l:List (List Int)) (of:List Int) (y:List (List Int)) (hm:e0A F l of=some y)
  (ht:R4 en w.heap S 22 [3] (.list (.int .i64)) (show List (List Int) from l) none v cs) (h2:(D0 en (.list (.int .i64))).R w.heap S c2 of) (hS:∀ b,S b->b<w.heap.size) (hbk:∀ k,Bk v k->S k) :
  Calls Tryz.prog 207 #[hd v,B2 false c2] w fun e w1=>∃ v1 cs1,e=.returned (hd v1)/\Below w.heap.size w w1/\R4 en w1.heap (fun k=>S k\/Q0 (hd v1)=some k) 22 [3] (.list (.int .i64)) (show List (List Int) from y) none v1 cs1/\
   (hd v1).oneCell'=true/\(∀ k,Q0 (hd v1)=some k->w.heap.size<=k/\k<w1.heap.size)/\∀ k,Bk v1 k->Bk v k\/Q0 (hd v1)=some k:=by
 obtain ⟨B,d,rfl,hB⟩:=q0z h2;unfold e0A at hm;split at hm
 rotate_left
 ·cases hm
 rename_i hap;cases hm;simp only [Bool.and_eq_true,List.all_eq_true] at hap;obtain ⟨hdist,hin,hap⟩:=hap;have hlen:of.length<=5864062014805:=by simp [C1] at hap;omega
 have hin2:∀ i∈of,0<=i/\i<(l.length:Int):=fun i hi=>b8 (hin i hi);have hrow:Row w.heap 22 1 (hd v) l.length cs:=ht.row;have hcl:cs.length=l.length:=by have:=hrow.1;omega
 have htl:tl v=cs:=ht.tl;have hrr:Y4 en w.heap S [3] (.list (.int .i64)) l cs:=⟨ht.sz,fun i x f u ys e' h1 h2 h3=>ht.rows i x f u ys e' h1 h2 h3 (by simp),ht.one⟩
 have hlive:=hrr.live ht.ok;obtain ⟨A,cc,hv⟩:=hrow.form;have hrow1:∀ k:Nat,k<l.length->∃ r,cs[k]?=some r/\G3 en w.heap S 3 (.int .i64) (gt l (k:Int)) r:=fun k hk=>by
  have hg:l[k]?=some (gt l (k:Int)):=by rw [Y5 (x:=l[k]) (by simp [hk])];simp [hk]
  obtain ⟨r,h3,h4⟩:=hrr.rows k (show List Int from gt l (k:Int)) 0 (.int .i64) (show List Int from gt l (k:Int)) 3 hg rfl rfl;refine ⟨r,?_,h4⟩;have:Go.X.rowAt [3] k 0=k:=by simp [Go.X.rowAt]
  rw [this] at h3;exact h3
 have h1c:∀ u∈cs,∃ a m c,u=.slice a m c:=fun u hu=>by
  obtain ⟨p,hp⟩:=List.getElem?_of_mem hu;have hlt:p<l.length:=by rw [<-hcl];exact (List.getElem?_eq_some_iff.1 hp).1
  obtain ⟨r,h3,cs',h4,_⟩:=hrow1 p hlt;rw [hp] at h3;cases h3;obtain ⟨a,c,h5⟩:=h4.form;exact ⟨a,_,c,h5⟩
 have hA:cs≠[]->∃ b,A=some ⟨b,0,none⟩/\b<w.heap.size/\∀ k:Nat,k<cs.length->Z0 w.heap b k=some (cs.getD k (.int .i64 0)):=fun hne=>by
  rcases hrow.2 with ⟨h0,_⟩ | ⟨g,cap,cur,h3,hp,hg,hn,_,hz,htk⟩
  ·exact absurd (List.eq_nil_of_length_eq_zero (by omega)) hne
  ·rw [hv] at h3;cases h3;refine ⟨g,rfl,getElem?_lt hg,fun k hk=>?_⟩;unfold Z0;rw [hg];have h4:(cur.toList.take (l.length*1))[k]?=cs[k]?:=by rw [htk]
   rw [mul_one,List.getElem?_take_of_lt (by omega)] at h4;simp only [<-Array.getElem?_toList,h4,List.getD_eq_getElem?_getD,List.getElem?_eq_getElem hk];rfl
 have hcall:=y0I cs of A B cc d w h1c hA hB (fun i hi=>by have:=hin2 i hi;omega) hlen;rw [hcl] at hcall;rw [hv];refine hcall.mono ?_
 rintro e w1 ⟨v',rfl,hown,hb⟩
 have hrow':Row w1.heap 22 1 v' of.length (of.map (rowOf cs)):=Row.of hown;have hnew:∀ k,Q0 v'=some k->w.heap.size<=k/\k<w1.heap.size:=fun k hk=>by
  refine ⟨?_,hrow'.live k hk⟩;rcases hown.2 with ⟨rfl,_⟩ | ⟨g,cap,cur,rfl,h3,_⟩
  ·cases hk
  ·obtain ⟨_,rfl⟩:=a0m hk;exact h3
 have kp:J0 w.heap S w1.heap (fun k=>S k\/Q0 v'=some k):=⟨hb.size,fun b hb' hn=>⟨fun h=>h.elim hn (fun h=>by have:=(hnew b h).1;omega),hb.block b hb'⟩⟩
 have hat:∀ (i:Nat) (q:Int),of[i]?=some q->(of.map (rowOf cs))[i]?=some (rowOf cs q)/\cs[q.toNat]?=some (rowOf cs q)/\q.toNat<l.length:=fun i q hq=>by
  obtain ⟨q0,q1⟩:=hin2 q (mem_of_getElem? hq);have hlt:q.toNat<cs.length:=by omega
  refine ⟨by rw [List.getElem?_map,hq];rfl,?_,by omega⟩;rw [List.getElem?_eq_getElem hlt];simp [rowOf,List.getElem?_eq_getElem hlt]
 have hrr':Y4 en w1.heap (fun k=>S k\/Q0 v'=some k) [3] (.list (.int .i64)) (show List (List Int) from of.map fun i=>gt l i) (of.map (rowOf cs)):=by
  refine ⟨?_,fun i x f u ys e' h3 h4 h5=>?_,fun u hu=>?_⟩
  ·show (of.map (rowOf cs)).length=(of.map fun i=>gt l i).length*1;simp
  ·have h3:(of.map fun i=>gt l i)[i]?=some (show List Int from x):=h3;rw [List.getElem?_map] at h3;cases hq:of[i]? with
   |none=>rw [hq] at h3;cases h3
   |
    some q=>
    rw [hq] at h3;cases h3;obtain ⟨g1,g2,g3⟩:=hat i q hq;obtain ⟨q0,q1⟩:=hin2 q (mem_of_getElem? hq);have hf:f=0:=by
     cases f with
     |zero=>rfl
     |succ f=>simp at h5
    subst hf;have hg:l[q.toNat]?=some (gt l q):=by
     obtain ⟨m,rfl⟩:∃ m:Nat,q=m:=⟨q.toNat,by omega⟩
     have hm:m<l.length:=by omega
     rw [Y5 (x:=l[m]) (by simp [hm])];simp [hm]
    obtain ⟨r,r1,r2⟩:=hrr.rows q.toNat _ 0 u ys e' hg h4 h5;rw [show Go.X.rowAt [3] q.toNat 0=q.toNat from by simp [Go.X.rowAt],g2] at r1;cases r1;refine ⟨_,by rw [show Go.X.rowAt [3] i 0=i from by simp [Go.X.rowAt]];exact g1,r2.mono kp fun b hb'=>hb.block b ?_⟩;exact hlive _ (mem_of_getElem? g2) b hb'
  ·obtain ⟨q,hq,rfl⟩:=mem_map.1 hu;obtain ⟨i,hi⟩:=List.getElem?_of_mem hq;exact ht.one _ (mem_of_getElem? (hat i q hi).2.1)
 have hmem:∀ u∈of.map (rowOf cs),u∈cs:=fun u hu=>by
  obtain ⟨q,hq,rfl⟩:=mem_map.1 hu;obtain ⟨i,hi⟩:=List.getElem?_of_mem hq;exact mem_of_getElem? (hat i q hi).2.1
 have hne:∀ (i j:Nat) (p q:Int),i≠j->of[i]?=some p->of[j]?=some q->p≠q:=by
  have hp:=(i0l (fun i:Int=>i) of).1 hdist;have key:∀ (i j:Nat) (p q:Int),i<j->of[i]?=some p->of[j]?=some q->p≠q:=fun i j p q hij h3 h4=>by
   obtain ⟨i1,rfl⟩:=List.getElem?_eq_some_iff.1 h3;obtain ⟨j1,rfl⟩:=List.getElem?_eq_some_iff.1 h4;exact List.pairwise_iff_getElem.1 hp i j i1 j1 hij
  intro i j p q hij h3 h4;rcases Nat.lt_or_gt_of_ne hij with h | h
  ·exact key i j p q h h3 h4
  ·exact (key j i q p h h4 h3).symm
 have hap':a0U (v' :: of.map (rowOf cs)):=by
  intro i j x x' hij h3 h4 k hk hk';have hcell:∀ (i:Nat) (x:Value),(v' :: of.map (rowOf cs))[i+1]?=some x->∃ p,of[i]?=some p/\cs[p.toNat]?=some x/\p.toNat<l.length/\0<=p:=fun i x h=>by
   rw [List.getElem?_cons_succ,List.getElem?_map] at h;cases hq:of[i]? with
   |none=>rw [hq] at h;cases h
   |
    some q=>
    rw [hq] at h;cases h;exact ⟨q,rfl,(hat i q hq).2.1,(hat i q hq).2.2,(hin2 q (mem_of_getElem? hq)).1⟩
  match i,j with
  |0,0=>exact hij rfl
  |
   0,j+1=>
   obtain ⟨p,_,p2,_⟩:=hcell j x' h4;cases h3;have:=hlive _ (mem_of_getElem? p2) k hk';have:=(hnew k hk).1;omega
  |
   i+1,0=>
   obtain ⟨p,_,p2,_⟩:=hcell i x h3;cases h4;have:=hlive _ (mem_of_getElem? p2) k hk;have:=(hnew k hk').1;omega
  |
   i+1,j+1=>
   obtain ⟨p,p1,p2,_,p4⟩:=hcell i x h3;obtain ⟨q,q1,q2,_,q4⟩:=hcell j x' h4;have:=hne i j p q (by omega) p1 q1;refine ht.ap (p.toNat+1) (q.toNat+1) x x' (by omega) ?_ ?_ k hk hk'
   ·rw [htl];exact p2
   ·rw [htl];exact q2
 refine ⟨.tuple (v' :: of.map (rowOf cs)).toArray,of.map (rowOf cs),rfl,hb,R4.of ?_ ht.ok hrr' hap',?_,hnew,?_⟩
 ·show Row w1.heap 22 1 v' (of.map fun i=>gt l i).length _;rw [List.length_map];exact hrow'
 ·obtain ⟨a,c,h3⟩:=hrow'.form;show v'.oneCell'=true;rw [h3];rfl
 ·rintro k ⟨u,hu,hk⟩
  have hu:u∈v' :: of.map (rowOf cs):=hu;rcases List.mem_cons.1 hu with rfl | hu
  ·exact .inr hk
  ·exact .inl (Bk.tl (by rw [htl];exact hmem u hu) hk)
theorem w0Y (F:Nat):G0 en (i0K F):=by
 intro w S us pl x y hm hsr hS hpl hap;obtain ⟨v,cs,c2,rfl,rfl,h1,ht,h2⟩:=v0c hsr;have hbk:∀ k,Bk v k->S k:=fun k hk=>hpl k ⟨v,by simp,hk⟩;refine (v03 F w S v cs c2 x.1 x.2 y hm ht h2 hS hbk).mono ?_
 rintro e w1 ⟨v1,cs1,rfl,hb,ht1,hone,hnew,hbk1⟩
 refine ⟨hd v1,fun k=>S k\/Q0 (hd v1)=some k,[v1],rfl,?_,⟨hb.os,hb.tape,hb.output,hb.size,fun k hk _=>hb.block k hk⟩,⟨hb.size,fun b hb' hn=>⟨fun h=>h.elim hn (fun h=>by have:=(hnew b h).1;omega),hb.block b hb'⟩⟩,fun b h _=>.inl h,fun b h=>?_,?_,?_⟩
 ·refine W6 (x:=.M0 22 [3] (.list (.int .i64))) (r:=[]) ⟨[hd v1],hd v1,[],[v1],[],rfl,rfl,rfl,?_,N7⟩;unfold SR;exact ⟨v1,cs1,rfl,rfl,hone,ht1⟩
 ·rcases h with h | h
  ·exact Nat.lt_of_lt_of_le (hS b h) hb.size
  ·exact (hnew b h).2
 ·intro i j v1 v2 hne h1 h2;have e:∀ {q:Nat} {z:Value} {s:Value},[s][q]?=some z->q=0:=fun {q z s} h=>by
   cases q with
   |zero=>rfl
   |succ q=>simp at h
  exact absurd ((e h1).trans (e h2).symm) hne
 ·rintro b ⟨u,hu,hb1⟩
  simp only [List.mem_singleton] at hu;subst hu;rcases hbk1 b hb1 with h | h
  ·exact ⟨.inl (hbk b h),.inl ⟨v,by simp,h⟩⟩
  ·exact ⟨.inr h,.inr (hnew b h).1⟩
theorem s0y {E:Env} {H:F0} {S:B0} {cs:List Value} {y:List Int} (he:D1 (D0 E (.int .i64)) H S cs y) {i:Nat} (hi:i<y.length):cs[i]?=some (.int .i64 (y.getD i 0)):=by
 have h1:=he.2 i (y.getD i 0) (by rw [show y.getD i 0=y[i] from by simp [List.getD,hi]];exact List.getElem?_eq_getElem hi);have h1:(cs.drop (i*1)).take 1=[.int .i64 (y.getD i 0)]:=h1;rw [mul_one] at h1;have:=congrArg (fun l=>l[0]?) h1;simpa using this
theorem x09 {E:Env} {H:F0} {S:B0} {cs:List Value} {y:List Int} (hl:cs.length=y.length) (h:∀ i,i<y.length->cs[i]?=some (.int .i64 (y.getD i 0))):D1 (D0 E (.int .i64)) H S cs y:=by
 refine ⟨by rw [hl];exact (mul_one _).symm,fun i (x:Int) hx=>?_⟩;have hi:i<y.length:=(List.getElem?_eq_some_iff.1 hx).1;have hx2:y.getD i 0=x:=by
  have hx':@Eq (Option Int) y[i]? (some x):=hx;rw [List.getD_eq_getElem?_getD,hx'];rfl
 have h2:=h i hi;rw [hx2] at h2;show (cs.drop (i*1)).take 1=[.int .i64 x];rw [mul_one];have hic:i<cs.length:=by omega
 rw [List.drop_eq_getElem_cons hic];rw [List.getElem?_eq_getElem hic] at h2;rw [Option.some.inj h2];rfl
theorem y0y {F:Nat} (h:G0 en (b0O F)) {w:World} {S:B0} {l y:List Int} {c:List Value} (hm:K6 F l=some y) (hl:(D0 en (.list (.int .i64))).R w.heap S c l) (hS:∀ b,S b->b<w.heap.size) :
  Calls en.P 99 #[B2 false c] w fun e w1=>∃ v,e=.returned v/\(∃ ao cap,v=.slice ao y.length cap)/\l5 w v y w1/\(∀ k,Q0 v=some k->w.heap.size<=k)/\∀ k,k<w.heap.size->w1.heap[k]?=w.heap[k]?:=by
 have hsr0:N1 en w.heap S [.d (.list (.int .i64))] l [B2 false c] []:=by
  refine W6 (x:=.d (.list (.int .i64))) (r:=[]) ⟨c,B2 false c,[],[],[],rfl,rfl,rfl,?_,N7⟩;unfold SR;exact ⟨rfl,hl⟩
 refine (h w S [B2 false c] [] l y hm hsr0 hS (by rintro b ⟨v,hv,_⟩;simp at hv) (by intro i j v v' _ hv;simp at hv)).mono ?_
 rintro e w1 ⟨v,S1,pl1,rfl,hsr,hb,hk,hs1,hs2,hap,hbl⟩
 have hsr:N1 en w1.heap S1 [.own 3 (.int .i64)] y [v] pl1:=hsr;unfold N1 at hsr;obtain ⟨c1,u,us',p1,p2,e0,rfl,e1,h1,h2⟩:=hsr;cases e0;obtain ⟨_,rfl⟩:=n9 h2;unfold SR at h1;obtain ⟨v1,cs,rfl,rfl,h5,hrow,hels⟩:=h1;have e1:v=v1:=e1;subst e1;have hblock:∀ k,k<w.heap.size->w1.heap[k]?=w.heap[k]?:=fun k hk=>hb.block k hk (by rintro ⟨v,hv,_⟩;simp at hv);have hge:∀ k,Q0 v=some k->w.heap.size<=k:=fun k hk=>by
  have hbk:Bk v k:=by
   obtain ⟨A,cc,hfo⟩:=Row.form hrow;rw [hfo] at hk ⊢;exact hk
  rcases (hbl k ⟨v,by simp,hbk⟩).2 with ⟨v2,hv2,_⟩ | h
  ·simp at hv2
  ·exact h
 refine ⟨v,rfl,Row.form hrow,⟨hb.os,hb.tape,hb.output,hb.size,fun k hk _=>hblock k hk,?_⟩,hge,hblock⟩;obtain ⟨h0,⟨h1,a,rfl⟩ | ⟨g,cap,cur,rfl,hc,hg,hn,hmx,hz,ht⟩⟩:=hrow
 ·exact .inl ⟨List.eq_nil_of_length_eq_zero h1,a,rfl⟩
 ·obtain ⟨cap',rfl⟩:∃ q,cap=q+1:=⟨cap-1,by omega⟩
  refine .inr ⟨g,cap',cur,rfl,hg,?_,hn,hmx,fun i hi=>?_⟩
  ·have hz:cur.size=(cap'+1)*1:=hz;omega
  ·have h2:=s0y hels hi;have hl:(cur.toList.take (y.length*1))=cs:=ht;rw [mul_one] at hl;have h2:cs[i]?=some (.int .i64 (y.getD i 0)):=h2;rw [<-hl,List.getElem?_take_of_lt hi] at h2;rw [<-h2];simp
theorem y0v {H:F0} {S:B0} {c:List Value} {marks:List Z2} (h:(D0 en (.list (.st 12))).R H S c marks):∃ A cc,c=[.slice A marks.length cc]/\(marks≠[]->∃ b o,A=some ⟨b,o,none⟩/\b<H.size/\∀ k:Nat,k<marks.length->Z0 H b (o+k*2)=some (.int .i64 (gt marks (k:Int)).Kind)/\Z0 H b (o+k*2+1)=some (.int .i64 (gt marks (k:Int)).Group)):=by
 obtain ⟨A,cc,rfl,hsl⟩:=(show (Q2 (D0 en (.st 12))).R H S c marks from h)
 refine ⟨A,cc,rfl,fun hne=>?_⟩;obtain ⟨b,o,rfl,hb,_⟩:=hsl.2.1 hne;refine ⟨b,o,rfl,hb,fun k hk=>?_⟩;have hg:marks[k]?=some (gt marks (k:Int)):=by rw [Y5 (x:=marks[k]) (by simp [hk])];simp [hk]
 obtain ⟨b',o',cs,e,hR,hcell⟩:=hsl.2.2 k (show Z2 from gt marks (k:Int)) hg;cases e;have hR2:cs=[.int .i64 (gt marks (k:Int)).Kind,.int .i64 (gt marks (k:Int)).Group]:=by
  have h3:=(j0M 12 H S cs (show Z2 from gt marks (k:Int))).1 hR;obtain ⟨c1,c2,rfl,h5,c3,c4,rfl,h6,h7⟩:=h3;have h5:c1=[.int .i64 (gt marks (k:Int)).Kind]:=h5;have h6:c3=[.int .i64 (gt marks (k:Int)).Group]:=h6;have h7:c4=[]:=h7;rw [h5,h6,h7];rfl
 subst hR2;exact ⟨hcell 0 _ rfl,hcell 1 _ rfl⟩
theorem w00 {w:World} {S:B0} {us pl:List Value} {x:O2 en.D [.d (.list (.int .i64)),.d (.list (.st 12)),.d (.int .i64),.d (.int .i64)]} (hsr:N1 en w.heap S [.d (.list (.int .i64)),.d (.list (.st 12)),.d (.int .i64),.d (.int .i64)] x us pl) :
  pl=[]/\∃ c c2,us=[B2 false c,B2 false c2,.int .i64 (show Int from x.2.2.1),.int .i64 (show Int from x.2.2.2)]/\(D0 en (.list (.int .i64))).R w.heap S c x.1/\(D0 en (.list (.st 12))).R w.heap S c2 x.2.1:=by
 skip
 unfold N1 at hsr;obtain ⟨c,u,us1,p1,p2,rfl,rfl,e1,h1,h2⟩:=hsr;unfold N1 at h2;obtain ⟨c2,u2,us2,p3,p4,rfl,rfl,e2,h3,h4⟩:=h2;unfold N1 at h4;obtain ⟨c3,u3,us3,p5,p6,rfl,rfl,e3,h5,h6⟩:=h4;unfold N1 at h6;obtain ⟨c4,u4,us4,p7,p8,rfl,rfl,e4,h7,h8⟩:=h6;obtain ⟨rfl,rfl⟩:=n9 h8;unfold SR at h1 h3 h5 h7;obtain ⟨rfl,h1⟩:=h1;obtain ⟨rfl,h3⟩:=h3;obtain ⟨rfl,h5⟩:=h5;obtain ⟨rfl,h7⟩:=h7;have h5:c3=[.int .i64 (show Int from x.2.2.1)]:=h5;have h7:c4=[.int .i64 (show Int from x.2.2.2)]:=h7;subst h5;subst h7;have e1:u=B2 false c:=e1;have e2:u2=B2 false c2:=e2;have e3:u3=.int .i64 (show Int from x.2.2.1):=e3;have e4:u4=.int .i64 (show Int from x.2.2.2):=e4;subst e1;subst e2;subst e3;subst e4;exact ⟨rfl,c,c2,rfl,h1,h3⟩
theorem r0h (F:Nat) (hcl:G0 en (b0O F)) (w:World) (S:B0) (c c2:List Value) (tags:List Int) (marks:List Z2) (now nn:Int) (y:List Int) (hm:b0A F tags marks now nn=some y)
  (h1:(D0 en (.list (.int .i64))).R w.heap S c tags) (h2:(D0 en (.list (.st 12))).R w.heap S c2 marks) (hS:∀ b,S b->b<w.heap.size) :
  Calls Tryz.prog 153 #[B2 false c,B2 false c2,.int .i64 now,.int .i64 nn] w fun e w1=>∃ v,e=.returned v/\l5 w v y w1/\(∀ k,Q0 v=some k->w.heap.size<=k)/\∀ k,k<w.heap.size->w1.heap[k]?=w.heap[k]?:=by
 obtain ⟨A,cc,rfl,hmk⟩:=y0v h2;unfold b0A at hm;split at hm
 rotate_left
 ·cases hm
 rename_i hap8;cases hm;simp only [Bool.and_eq_true,decide_eq_true_eq] at hap8;obtain ⟨hap,hml⟩:=hap8;have htl:tags.length<=20000000000000:=by simp [C1] at hap;omega
 have hc:K6 F tags=some tags:=by unfold K6;rw [if_pos hap]
 exact t0Q (B2 false c) tags marks now nn A cc w (y0y hcl hc h1 hS) hmk (by omega) htl
theorem v0K {w W:World} {v:Value} {o:List Int} (h:l5 w v o W) {E:Env} {S:B0}:∃ cs,Row W.heap 3 1 v o.length cs/\D1 (D0 E (.int .i64)) W.heap S cs o/\∃ a c,v=.slice a o.length c:=by
 rcases h.own with ⟨rfl,a,rfl⟩ | ⟨g,cap,cur,rfl,hg,hs,hn,hm,hc⟩
 ·exact ⟨[],⟨rfl,.inl ⟨rfl,a,rfl⟩⟩,D1.nil,a,0,rfl⟩
 ·refine ⟨cur.toList.take o.length,⟨by simp;omega,.inr ⟨g,cap+1,cur,rfl,by omega,hg,hn,hm,by omega,by rw [mul_one]⟩⟩,x09 (by simp;omega) (fun i hi=>?_),_,_,rfl⟩;rw [List.getElem?_take_of_lt hi];simpa using hc i hi
theorem y05 (F:Nat) (hcl:G0 en (b0O F)):G0 en (e0k F):=by
 intro w S us pl x y hm hsr hS hpl hap;obtain ⟨rfl,c,c2,rfl,h1,h2⟩:=w00 hsr;refine (r0h F hcl w S c c2 x.1 x.2.1 x.2.2.1 x.2.2.2 y hm h1 h2 hS).mono ?_
 rintro e w1 ⟨v,rfl,hI,hge,hbl⟩
 obtain ⟨cs,hrow,hels,a,cc,hv⟩:=v0K (E:=en) (S:=fun k=>S k\/Q0 v=some k) hI;have hbk:∀ k,Bk v k->Q0 v=some k:=fun k hk=>by rw [hv] at hk ⊢;exact hk
 have hone:v.oneCell'=true:=by rw [hv];rfl
 refine ⟨v,fun k=>S k\/Q0 v=some k,[v],rfl,?_,⟨hI.os,hI.tape,hI.output,hI.size,fun k hk _=>hbl k hk⟩,⟨hI.size,fun b hb' hn=>⟨fun h=>h.elim hn (fun h=>by have:=hge b h;omega),hbl b hb'⟩⟩,fun b h _=>.inl h,fun b h=>?_,?_,?_⟩
 ·refine W6 (x:=.own 3 (.int .i64)) (r:=[]) ⟨[v],v,[],[v],[],rfl,rfl,rfl,?_,N7⟩;unfold SR;exact ⟨v,cs,rfl,rfl,hone,hrow,hels⟩
 ·rcases h with h | h
  ·exact Nat.lt_of_lt_of_le (hS b h) hI.size
  ·exact hrow.live b h
 ·intro i j v1 v2 hne h1 h2;have e:∀ {q:Nat} {z:Value},[v][q]?=some z->q=0:=fun {q z} h=>by
   cases q with
   |zero=>rfl
   |succ q=>simp at h
  exact absurd ((e h1).trans (e h2).symm) hne
 ·rintro b ⟨v1,hv1,hb1⟩
  simp only [List.mem_singleton] at hv1;subst hv1;exact ⟨.inr (hbk b hb1),.inr (hge b (hbk b hb1))⟩
end Go.Proofs.YtihmgaccbcfgjaaGreat
namespace Go.Proofs
open Go.Shelf
def Tryz.m0C:Go.Shelf.Ren:=⟨fun | 169=>170 | n=>n,fun | 70=>211 | 9=>9 | 0=>0 | 72=>213 | 37=>43 | 127=>240 | 3=>3 | 5=>5 | n=>n,fun | n=>n⟩
theorem Tryz.p0V:Go.Proofs.Lays.n169 Tryz.prog Tryz.m0C:={
 mixed:=by kernel_rfl
 f169:=Tryz.func170.trans (congrArg some (by kernel_rfl))
 t0:=Tryz.underlying0
 a0:=Tryz.isAgg0
 z0:=Tryz.sizeOf0
 v0:=Tryz.zeroValue0
 t3:=Tryz.underlying3
 a3:=Tryz.isAgg3
 z3:=Tryz.sizeOf3
 v3:=Tryz.zeroValue3
 t9:=Tryz.underlying9
 a9:=Tryz.isAgg9
 z9:=Tryz.sizeOf9
 v9:=Tryz.zeroValue9
 t37:=Tryz.underlying43
 a37:=Tryz.isAgg43
 z37:=Tryz.sizeOf43
 v37:=Tryz.zeroValue43
 t70:=Tryz.underlying211
 a70:=Tryz.isAgg211
 z70:=Tryz.sizeOf211
 v70:=Tryz.zeroValue211
 t72:=Tryz.underlying213
 a72:=Tryz.isAgg213
 z72:=Tryz.sizeOf213
 v72:=Tryz.zeroValue213
 t127:=Tryz.underlying240
 a127:=Tryz.isAgg240
 z127:=Tryz.sizeOf240
 v127:=Tryz.zeroValue240 }
theorem Tryz.v02:Builder.Extra Tryz.prog Tryz.m0C:={
 sizeBuilder:=by kernel_rfl
 liesBuilder:=by kernel_rfl
 t5:=Tryz.underlying5
 a5:=Tryz.isAgg5
 z5:=Tryz.sizeOf5
 v5:=Tryz.zeroValue5
 infoByte:=by kernel_rfl
 cellsByte:=by kernel_rfl
 sizeByte:=by kernel_rfl
 neB5:=by decide }
open Go.RowKit in
theorem Tryz.Builder_String_any (B b:Nat) (l:List UInt8) (w:World) (h:Lib.IsBuilder 213 5 B b (Lib.byteCells l) w) (hBw:B<=w.heap.size) :
  Calls Tryz.prog 170 #[.pointer (some ⟨b,0,none⟩)] w fun e w'=>e=.returned (.string ⟨l.toArray⟩)/\Below B w w':=Any.Builder_String_any Tryz.p0V Tryz.v02 B b l w h hBw
end Go.Proofs
set_option maxRecDepth 100000
namespace Go.Proofs.YtihmgaccbcfgjaaGreat
open Go.RowKit Go.Proofs
theorem sizeBuilder:(Tryz.prog.info? 213).map (·.size)=some 2:=by kernel_rfl
theorem infoByte:(Tryz.prog.info? 5).map (fun i=>(i.zero,i.size,i.bytes))=some (some (.int .u8 0),1,1):=by kernel_rfl
set_option maxHeartbeats 1000000 in
theorem u0n (b:Nat) (w:World) (h0:w.cell? ⟨b,0,none⟩=some (.pointer (some ⟨b,0,none⟩))) :
  Calls Tryz.prog 188 #[.pointer (some ⟨b,0,none⟩)] w fun e w'=>e=.returned (.tuple #[])/\w'=w:=by
 obtain ⟨j,hj,_⟩:=Option.map_eq_some_iff.1 sizeBuilder
 go_enter Tryz.func188,Tryz.ntmps188
 go_wp2
 rw [Lib.run_neq_ptr_same w _ Tryz.underlying211 hj]
 go_wp2
 go_end0
 exact ⟨rfl,rfl⟩
set_option maxHeartbeats 1000000 in
theorem q05 (b:Nat) (w:World) (h0:w.cell? ⟨b,0,none⟩=some (.pointer none)) (hsh:w.shape? b=some (213,2)) (hfz:w.frozen? ⟨b,0,none⟩=false) :
  Calls Tryz.prog 188 #[.pointer (some ⟨b,0,none⟩)] w fun e w'=>e=.returned (.tuple #[])/\w'=w.setCell ⟨b,0,none⟩ (.pointer (some ⟨b,0,none⟩)):=by
 obtain ⟨j,hj,hjs⟩:=Option.map_eq_some_iff.1 sizeBuilder
 go_enter Tryz.func188,Tryz.ntmps188
 go_wp2
 rw [Lib.run_to_unsafe w ⟨b,0,none⟩ Tryz.underlying211 Tryz.underlying261 hj (by rw [hjs];decide) hsh (Nat.zero_lt_succ 1)];simp only [Result.andThen];rw [Oper.upon_value]
 go_wp2
 rw [run_callFunc_extern Tryz.func209 (by kernel_rfl) (by kernel_rfl) (by kernel_rfl) (e:=Extern.AbiNoEscape.same) (by kernel_rfl)];rw [Lib.run_noEscape];simp only [Result.andThen];rw [Oper.upon_value]
 go_wp2
 rw [Lib.run_from_unsafe w ⟨b,0,none⟩ Tryz.underlying261 Tryz.underlying211 hj hsh (by kernel_rfl)];simp only [Result.andThen];rw [Oper.upon_value]
 go_wp2
 go_end0
 exact ⟨rfl,rfl⟩
theorem z0j (B b:Nat) (bs:List Value) (w:World) (h:Lib.IsBuilder 213 5 B b bs w) :
  Calls Tryz.prog 188 #[.pointer (some ⟨b,0,none⟩)] w fun e w'=>e=.returned (.tuple #[])/\(Lib.BuilderAt 213 5 B b (.pointer (some ⟨b,0,none⟩)) bs w'/\Below B w w'):=by
 rcases h with h | h
 ·refine (q05 b w h.cell0 h.shape h.frozen0).mono ?_
  rintro e w' ⟨rfl,rfl⟩
  exact ⟨rfl,h.used _,(Below.refl B w).setCell (p:=⟨b,0,none⟩) h.1 _⟩
 ·refine (u0n b w h.cell0).mono ?_
  rintro e w' ⟨rfl,rfl⟩
  exact ⟨rfl,h,Below.refl B _⟩
set_option maxHeartbeats 2000000 in
theorem k0L (B b:Nat) (bs:List Value) (c:Int) (w:World) (h:Lib.IsBuilder 213 5 B b bs w) (hlen:bs.length+1<=140737488355328) (hBw:B<=w.heap.size) :
  Calls Tryz.prog 169 #[.pointer (some ⟨b,0,none⟩),.int .u8 c] w fun e w'=>e=.returned .nilIface/\(Lib.BuilderAt 213 5 B b (.pointer (some ⟨b,0,none⟩)) (bs++[.int .u8 c]) w'/\Below B w w'):=by
 obtain ⟨i0,hi,hz0,hz1,hz2⟩:=info_parts infoByte
 go_enter Tryz.func169,Tryz.ntmps169
 go_wp2_with (go_at_call 188;refine (z0j B b bs _ h).mono ?_)
 rintro e w1 ⟨rfl,h1,hb1⟩
 obtain ⟨hB,v,hbk,hown,hne⟩:=h1;have c0:w1.cell? ⟨b,0,none⟩=some (.pointer (some ⟨b,0,none⟩)):=by rw [Lib.cell_of_heap hbk];rfl
 have c1:w1.cell? ⟨b,1,none⟩=some v:=by rw [Lib.cell_of_heap hbk];rfl
 go_wp2_with (at_builtin;refine wpList_append_own _ rfl _ _ 43 rfl B 5 i0 (.int .u8 0) 1 1 Tryz.underlying43 hi hz0 hz1 hz2 rfl (by decide) _ _ _ rfl (hown.alloc _) ⟨w1.heap.size,0,none⟩ 1 1 [.int .u8 c] rfl rfl ?c1 ?c2 ?c3 ?c4 ?c5 ?_)
 case c1=>
  intro j u hj
  match j,hj with
  |0,hj=>simp at hj;subst hj;simp [Addr.add]
 case c2=>intro u hu;simp at hu;subst hu;rfl
 case c3=>unfold maxLen;omega
 case c4=>omega
 case c5=>have:=hb1.size;simp;omega
 intro v' w2 hown' hgrow _;have hlt:b<w1.heap.size:=by
  rcases Nat.lt_or_ge b w1.heap.size with h' | h'
  ·exact h'
  ·simp [Array.getElem?_eq_none h'] at hbk
 have hb2:w2.heap[b]?=some (.cells #[.pointer (some ⟨b,0,none⟩),v] 213 (0,0)):=by
  rw [hgrow.block b (by simp;omega) (fun e=>hne e.symm),Lib.alloc_old w1 _ b hlt];exact hbk
 have d0:w2.cell? ⟨b,0,none⟩=some (.pointer (some ⟨b,0,none⟩)):=by rw [Lib.cell_of_heap hb2];rfl
 have d1:w2.cell? ⟨b,1,none⟩=some v:=by rw [Lib.cell_of_heap hb2];rfl
 have f1:w2.frozen? ⟨b,1,none⟩=false:=Lib.frozen_of_heap hb2 1;obtain ⟨g,cap,rfl⟩:∃ g cap,v'=.slice (some ⟨g,0,none⟩) (bs.length+1) cap:=by
  rcases hown'.2 with ⟨_,h0⟩ | ⟨g,cap,cur,hv,_⟩
  ·omega
  ·exact ⟨g,cap,hv⟩
 go_wp2
 go_ret
 refine ⟨rfl,?_,?_⟩
 ·exact Lib.BuilderAt.put (T:=213) (e:=5) hB hb2 (bs':=bs++[.int .u8 c]) (by simpa using hown') (by decide)
 ·exact ((hb1.alloc (by have:=hb1.size;omega) _).grown hgrow (by have:=hb1.size;simp;omega) (fun k hk=>(hown.lt k hk).1)).setCell (p:=⟨b,1,none⟩) hB _
