/- Some rows of a table, moved: as a contract. Apply, as a contract. From what a row reads to what the walks take: numbers, slices, structs; and back: the frame of a law. Its conditions: none. -/
import Derived.Test.YtdficaoajalfaaaGreatAG26
import Derived.Test.YtdficaoajalfaaaGreatAX16
import Derived.Test.YtdficaoajalfaaaGreatAAp
import Derived.Test.YtdficaoajalfaaaGreatAG02
import Derived.ProofKit
import Derived.SizedLaws
import Derived.Carry
import Derived.OpenShut
set_option linter.all false
set_option maxRecDepth 100000
namespace Go.Proofs.YtdficaoajalfaaaGreat
open Go.RowKit Go.Proofs
open Go.V hiding Row
open Go.X
theorem v06 {E:Env} {H:K0} {S:D0} {cs:List Value} {y:List Int} (he:U1 (J0 E (.int .i64)) H S cs y) {i:Nat} (hi:i<y.length):cs[i]?=some (.int .i64 (y.getD i 0)):=by
 have h1:=he.2 i (y.getD i 0) (by rw [show y.getD i 0=y[i] from by simp [List.getD,hi]];exact List.getElem?_eq_getElem hi);have h1:(cs.drop (i*1)).take 1=[.int .i64 (y.getD i 0)]:=h1;rw [Nat.mul_one] at h1;have:=congrArg (fun l=>l[0]?) h1;simpa using this
theorem w0m {E:Env} {H:K0} {S:D0} {cs:List Value} {y:List Int} (hl:cs.length=y.length) (h:∀ i,i<y.length->cs[i]?=some (.int .i64 (y.getD i 0))):U1 (J0 E (.int .i64)) H S cs y:=by
 refine ⟨by rw [hl];exact (Nat.mul_one _).symm,fun i (x:Int) hx=>?_⟩;have hi:i<y.length:=(List.getElem?_eq_some_iff.1 hx).1;have hx2:y.getD i 0=x:=by
  have hx':@Eq (Option Int) y[i]? (some x):=hx;rw [List.getD_eq_getElem?_getD,hx'];rfl
 have h2:=h i hi;rw [hx2] at h2;show (cs.drop (i*1)).take 1=[.int .i64 x];rw [Nat.mul_one];have hic:i<cs.length:=by omega
 rw [List.drop_eq_getElem_cons hic];rw [List.getElem?_eq_getElem hic] at h2;rw [Option.some.inj h2];rfl
theorem x02 {F:Nat} (h:C1 en (i0D F)) {w:World} {S:D0} {l y:List Int} {c:List Value} (hm:i0V F l=some y) (hl:(J0 en (.list (.int .i64))).R w.heap S c l) (hS:∀ b,S b->b<w.heap.size) :
  Calls en.P 75 #[H4 false c] w fun e w1=>∃ v,e=.returned v/\(∃ ao cap,v=.slice ao y.length cap)/\l8 w v y w1/\(∀ k,D1 v=some k->w.heap.size<=k)/\∀ k,k<w.heap.size->w1.heap[k]?=w.heap[k]?:=by
 have hsr0:I3 en w.heap S [.d (.list (.int .i64))] l [H4 false c] []:=by
  refine e0i (x:=.d (.list (.int .i64))) (r:=[]) ⟨c,H4 false c,[],[],[],rfl,rfl,rfl,?_,d0N⟩;unfold SR;exact ⟨rfl,hl⟩
 refine (h w S [H4 false c] [] l y hm hsr0 hS (by rintro b ⟨v,hv,_⟩;simp at hv) (by intro i j v v' _ hv;simp at hv)).mono ?_
 rintro e w1 ⟨v,S1,pl1,rfl,hsr,hb,hk,hs1,hs2,hap,hbl⟩
 have hsr:I3 en w1.heap S1 [.own 3 (.int .i64)] y [v] pl1:=hsr;unfold I3 at hsr;obtain ⟨c1,u,us',p1,p2,e0,rfl,e1,h1,h2⟩:=hsr;cases e0;obtain ⟨_,rfl⟩:=d04 h2;unfold SR at h1;obtain ⟨v1,cs,rfl,rfl,h5,hrow,hels⟩:=h1;have e1:v=v1:=e1;subst e1;have hblock:∀ k,k<w.heap.size->w1.heap[k]?=w.heap[k]?:=fun k hk=>hb.block k hk (by rintro ⟨v,hv,_⟩;simp at hv);have hge:∀ k,D1 v=some k->w.heap.size<=k:=fun k hk=>by
  have hbk:Bk v k:=by
   obtain ⟨A,cc,hfo⟩:=Row.form hrow;rw [hfo] at hk ⊢;exact hk
  rcases (hbl k ⟨v,by simp,hbk⟩).2 with ⟨v2,hv2,_⟩ | h
  ·simp at hv2
  ·exact h
 refine ⟨v,rfl,Row.form hrow,⟨hb.os,hb.tape,hb.output,hb.size,fun k hk _=>hblock k hk,?_⟩,hge,hblock⟩;obtain ⟨h0,⟨h1,a,rfl⟩ | ⟨g,cap,cur,rfl,hc,hg,hn,hmx,hz,ht⟩⟩:=hrow
 ·exact .inl ⟨List.eq_nil_of_length_eq_zero h1,a,rfl⟩
 ·obtain ⟨cap',rfl⟩:∃ q,cap=q+1:=⟨cap-1,by omega⟩
  refine .inr ⟨g,cap',cur,rfl,hg,?_,hn,hmx,fun i hi=>?_⟩
  ·have hz:cur.size=(cap'+1)*1:=hz;omega
  ·have h2:=v06 hels hi;have hl:(cur.toList.take (y.length*1))=cs:=ht;rw [Nat.mul_one] at hl;have h2:cs[i]?=some (.int .i64 (y.getD i 0)):=h2;rw [<-hl,List.getElem?_take_of_lt hi] at h2;rw [<-h2];simp
theorem x06 {H:K0} {S:D0} {c:List Value} {marks:List G2} (h:(J0 en (.list (.st 4))).R H S c marks):∃ A cc,c=[.slice A marks.length cc]/\(marks≠[]->∃ b o,A=some ⟨b,o,none⟩/\b<H.size/\∀ k:Nat,k<marks.length->U2 H b (o+k*2)=some (.int .i64 (gt marks (k:Int)).Kind)/\U2 H b (o+k*2+1)=some (.int .i64 (gt marks (k:Int)).Group)):=by
 obtain ⟨A,cc,rfl,hsl⟩:=(show (E3 (J0 en (.st 4))).R H S c marks from h)
 refine ⟨A,cc,rfl,fun hne=>?_⟩;obtain ⟨b,o,rfl,hb,_⟩:=hsl.2.1 hne;refine ⟨b,o,rfl,hb,fun k hk=>?_⟩;have hg:marks[k]?=some (gt marks (k:Int)):=by rw [B4 (x:=marks[k]) (by simp [hk])];simp [hk]
 obtain ⟨b',o',cs,e,hR,hcell⟩:=hsl.2.2 k (show G2 from gt marks (k:Int)) hg;cases e;have hR2:cs=[.int .i64 (gt marks (k:Int)).Kind,.int .i64 (gt marks (k:Int)).Group]:=by
  have h3:=(o0j 4 H S cs (show G2 from gt marks (k:Int))).1 hR;obtain ⟨c1,c2,rfl,h5,c3,c4,rfl,h6,h7⟩:=h3;have h5:c1=[.int .i64 (gt marks (k:Int)).Kind]:=h5;have h6:c3=[.int .i64 (gt marks (k:Int)).Group]:=h6;have h7:c4=[]:=h7;rw [h5,h6,h7];rfl
 subst hR2;exact ⟨hcell 0 _ rfl,hcell 1 _ rfl⟩
theorem x0z {w:World} {S:D0} {us pl:List Value} {x:S4 en.D [.d (.list (.int .i64)),.d (.list (.st 4)),.d (.int .i64),.d (.int .i64)]} (hsr:I3 en w.heap S [.d (.list (.int .i64)),.d (.list (.st 4)),.d (.int .i64),.d (.int .i64)] x us pl) :
  pl=[]/\∃ c c2,us=[H4 false c,H4 false c2,.int .i64 (show Int from x.2.2.1),.int .i64 (show Int from x.2.2.2)]/\(J0 en (.list (.int .i64))).R w.heap S c x.1/\(J0 en (.list (.st 4))).R w.heap S c2 x.2.1:=by
 skip
 unfold I3 at hsr;obtain ⟨c,u,us1,p1,p2,rfl,rfl,e1,h1,h2⟩:=hsr;unfold I3 at h2;obtain ⟨c2,u2,us2,p3,p4,rfl,rfl,e2,h3,h4⟩:=h2;unfold I3 at h4;obtain ⟨c3,u3,us3,p5,p6,rfl,rfl,e3,h5,h6⟩:=h4;unfold I3 at h6;obtain ⟨c4,u4,us4,p7,p8,rfl,rfl,e4,h7,h8⟩:=h6;obtain ⟨rfl,rfl⟩:=d04 h8;unfold SR at h1 h3 h5 h7;obtain ⟨rfl,h1⟩:=h1;obtain ⟨rfl,h3⟩:=h3;obtain ⟨rfl,h5⟩:=h5;obtain ⟨rfl,h7⟩:=h7;have h5:c3=[.int .i64 (show Int from x.2.2.1)]:=h5;have h7:c4=[.int .i64 (show Int from x.2.2.2)]:=h7;subst h5;subst h7;have e1:u=H4 false c:=e1;have e2:u2=H4 false c2:=e2;have e3:u3=.int .i64 (show Int from x.2.2.1):=e3;have e4:u4=.int .i64 (show Int from x.2.2.2):=e4;subst e1;subst e2;subst e3;subst e4;exact ⟨rfl,c,c2,rfl,h1,h3⟩
theorem A0M (F:Nat) (hcl:C1 en (i0D F)) (w:World) (S:D0) (c c2:List Value) (tags:List Int) (marks:List G2) (now nn:Int) (y:List Int) (hm:d0i F tags marks now nn=some y)
  (h1:(J0 en (.list (.int .i64))).R w.heap S c tags) (h2:(J0 en (.list (.st 4))).R w.heap S c2 marks) (hS:∀ b,S b->b<w.heap.size) :
  Calls Tryz.prog 72 #[H4 false c,H4 false c2,.int .i64 now,.int .i64 nn] w fun e w1=>∃ v,e=.returned v/\l8 w v y w1/\(∀ k,D1 v=some k->w.heap.size<=k)/\∀ k,k<w.heap.size->w1.heap[k]?=w.heap[k]?:=by
 obtain ⟨A,cc,rfl,hmk⟩:=x06 h2;unfold d0i at hm;split at hm
 rotate_left
 ·cases hm
 rename_i hap8;cases hm;simp only [Bool.and_eq_true,decide_eq_true_eq] at hap8;obtain ⟨hap,hml⟩:=hap8;have htl:tags.length<=20000000000000:=by simp [I0] at hap;omega
 have hc:i0V F tags=some tags:=by unfold i0V;rw [if_pos hap]
 exact w0i (H4 false c) tags marks now nn A cc w (x02 hcl hc h1 hS) hmk (by omega) htl
theorem x0a {w W:World} {v:Value} {o:List Int} (h:l8 w v o W) {E:Env} {S:D0}:∃ cs,Row W.heap 3 1 v o.length cs/\U1 (J0 E (.int .i64)) W.heap S cs o/\∃ a c,v=.slice a o.length c:=by
 rcases h.own with ⟨rfl,a,rfl⟩ | ⟨g,cap,cur,rfl,hg,hs,hn,hm,hc⟩
 ·exact ⟨[],⟨rfl,.inl ⟨rfl,a,rfl⟩⟩,U1.nil,a,0,rfl⟩
 ·refine ⟨cur.toList.take o.length,⟨by simp;omega,.inr ⟨g,cap+1,cur,rfl,by omega,hg,hn,hm,by omega,by rw [Nat.mul_one]⟩⟩,w0m (by simp;omega) (fun i hi=>?_),_,_,rfl⟩;rw [List.getElem?_take_of_lt hi];simpa using hc i hi
theorem C0D (F:Nat) (hcl:C1 en (i0D F)):C1 en (g0T F):=by
 intro w S us pl x y hm hsr hS hpl hap;obtain ⟨rfl,c,c2,rfl,h1,h2⟩:=x0z hsr;refine (A0M F hcl w S c c2 x.1 x.2.1 x.2.2.1 x.2.2.2 y hm h1 h2 hS).mono ?_
 rintro e w1 ⟨v,rfl,hI,hge,hbl⟩
 obtain ⟨cs,hrow,hels,a,cc,hv⟩:=x0a (E:=en) (S:=fun k=>S k\/D1 v=some k) hI;have hbk:∀ k,Bk v k->D1 v=some k:=fun k hk=>by rw [hv] at hk ⊢;exact hk
 have hone:v.oneCell'=true:=by rw [hv];rfl
 refine ⟨v,fun k=>S k\/D1 v=some k,[v],rfl,?_,⟨hI.os,hI.tape,hI.output,hI.size,fun k hk _=>hbl k hk⟩,⟨hI.size,fun b hb' hn=>⟨fun h=>h.elim hn (fun h=>by have:=hge b h;omega),hbl b hb'⟩⟩,fun b h _=>.inl h,fun b h=>?_,?_,?_⟩
 ·refine e0i (x:=.own 3 (.int .i64)) (r:=[]) ⟨[v],v,[],[v],[],rfl,rfl,rfl,?_,d0N⟩;unfold SR;exact ⟨v,cs,rfl,rfl,hone,hrow,hels⟩
 ·rcases h with h | h
  ·exact Nat.lt_of_lt_of_le (hS b h) hI.size
  ·exact hrow.live b h
 ·intro i j v1 v2 hne h1 h2;have e:∀ {q:Nat} {z:Value},[v][q]?=some z->q=0:=fun {q z} h=>by
   cases q with
   |zero=>rfl
   |succ q=>simp at h
  exact absurd ((e h1).trans (e h2).symm) hne
 ·rintro b ⟨v1,hv1,hb1⟩
  simp only [List.mem_singleton] at hv1;subst hv1;exact ⟨.inr (hbk b hb1),.inr (hge b (hbk b hb1))⟩
end Go.Proofs.YtdficaoajalfaaaGreat
namespace Go.V
open Go.RowKit Go.ChangeShapes Go.WideShapes Go.ChangeAt
def Z5 (k:IntKind) (x:Int):Prop:=k.min<=x/\x<=k.max
structure Rd (P:Program) (t:TypeId) {α:Type} (T:Ty α) (wf:α->Prop):Prop where
 get:∀ {H:Type} {enc:TypeId×Value->H} {W:World} {sp:Nat->Bool} {held:Bool} {fuel:Nat} {cs:List Value} {d:DataW H} {ps:List MemPlace},
  DataW.trod enc P W 0 sp held fuel t cs=some (d,ps)->(∀ p∈ps,p.block<W.heap.size)->∃ x,T.R W.heap Q5 cs x/\wf x
section
variable {P:Program} {t e:TypeId}
theorem Rd.int {k:IntKind} (ht:P.underlying t=some (.int k)):Rd P t (C2 k) (Z5 k):=⟨by
 intro H enc W sp held fuel cs d ps h _;cases fuel with
 |zero=>simp [DataW.trod] at h
 |
  succ f=>
  simp only [DataW.trod,ht] at h;split at h<;>simp_all
  obtain ⟨⟨rfl,hw⟩,_⟩:=h;simp only [Lit.wf,Bool.and_eq_true,decide_eq_true_eq] at hw;exact ⟨_,rfl,hw⟩⟩
theorem Rd.bool (ht:P.underlying t=some .bool):Rd P t b0E (fun _=>True):=⟨fun h _=>by
 obtain ⟨b,rfl,_⟩:=DataW.trod_bool ht h;exact ⟨b,rfl,trivial⟩⟩
theorem s0W {α β:Type} {f:α->Option β}:∀ {l:List α} {r:List β},l.mapM f=some r->l.length=r.length/\∀ (i:Nat) (x:α),l[i]?=some x->∃ y,r[i]?=some y/\f x=some y
 |[],r,h=>by simp at h;subst h;simp
 |
  x :: xs,r,h=>by
  rw [List.mapM_cons] at h;cases hx:f x with
  |none=>simp [hx] at h
  |
   some y=>
   cases hxs:xs.mapM f with
   |none=>simp [hx,hxs] at h
   |
    some ys=>
    simp [hx,hxs] at h;subst h;obtain ⟨h1,h2⟩:=s0W hxs;refine ⟨by simp [h1],fun i z hz=>?_⟩;cases i with
    |zero=>simp at hz;subst hz;exact ⟨y,rfl,hx⟩
    |succ i=>simpa using h2 i z (by simpa using hz)
theorem cells?_get {W:World} {base:Nat} {a:Addr} {n:Nat} {cs:List Value} (h:W.cells? base a n=some cs):cs.length=n/\∀ (j:Nat) (v:Value),cs[j]?=some v->W.cell? (a.add j)=some v:=by
 unfold World.cells? at h;split at h
 ·obtain ⟨h1,h2⟩:=s0W h;simp at h1;refine ⟨h1.symm,fun j v hj=>?_⟩;have hl:j<n:=by
   rcases Nat.lt_or_ge j n with h | h
   ·exact h
   ·rw [List.getElem?_eq_none (by omega)] at hj;cases hj
  obtain ⟨y,hy,hc⟩:=h2 j j (by simp [hl]);rw [hy] at hj;cases hj;exact hc
 ·cases h
theorem o0b {α:Type} {Q:Nat->α->Prop}:∀ (n:Nat),(∀ i,i<n->∃ x,Q i x)->∃ xs:List α,xs.length=n/\∀ (i:Nat) (x:α),xs[i]?=some x->Q i x
 |0,_=>⟨[],rfl,fun i x h=>by simp at h⟩
 |
  n+1,h=>by
  obtain ⟨xs,hl,hx⟩:=o0b n (fun i hi=>h i (by omega));obtain ⟨y,hy⟩:=h n (by omega);refine ⟨xs++[y],by simp [hl],fun i x hi=>?_⟩;rcases Nat.lt_or_ge i xs.length with h1 | h1
  ·rw [List.getElem?_append_left h1] at hi;exact hx i x hi
  ·rw [List.getElem?_append_right h1] at hi;have:i-xs.length=0:=by
    rcases Nat.eq_zero_or_pos (i-xs.length) with h | h
    ·exact h
    ·rw [List.getElem?_eq_none (by simp;omega)] at hi;cases hi
   rw [this] at hi;simp at hi;subst hi;have:i=n:=by omega
   subst this;exact hy
theorem Rd.slice {α:Type} {T:Ty α} {wf:α->Prop} (ht:P.underlying t=some (.slice e)) (hE:P.cellsOf e=T.sz) (hsz:0<T.sz) (R:Rd P e T wf):Rd P t (E3 T) (fun l=>∀ x∈l,wf x):=⟨by
 intro H enc W sp held fuel cs d ps h hp;rcases DataW.trod_slice ht h with ⟨rfl,_⟩ | ⟨a,len,cap,elems,rest,f,rfl,rfl,hx,_,hle,_,hel,hget,_,_⟩
 ·exact ⟨[],⟨none,0,rfl,Sl.nil⟩,by simp⟩
 ·cases hx;have hrow:∀ j,j<len*P.cellsOf e->MemPlace.cell a.block (a.off+j)∈MemPlace.row a ((elems.length+rest.length)*P.cellsOf e):=fun j hj=>MemPlace.mem_row.2 ⟨j,Nat.lt_of_lt_of_le hj (Nat.mul_le_mul_right _ (by omega)),rfl⟩;have key:∀ i,i<len->∃ x,(∃ cs,T.R W.heap Q5 cs x/\∀ j v,cs[j]?=some v->W.cell? ((a.add (i*P.cellsOf e)).add j)=some v)/\wf x:=fun i hi=>by
   have hf:=hget i hi;rw [List.getElem?_eq_getElem (by omega)] at hf;simp only [Option.bind_eq_some_iff] at hf;obtain ⟨cs,hcs,htr⟩:=hf;obtain ⟨x,hx,hw⟩:=R.get htr (fun p hp'=>hp p (by
    simp only [List.mem_append,List.mem_flatMap];exact .inr ⟨_,.inl (List.getElem_mem _),hp'⟩))
   exact ⟨x,⟨cs,hx,(cells?_get hcs).2⟩,hw⟩
  obtain ⟨xs,hxl,hxs⟩:=o0b len key;have hspot:xs≠[]->∃ b o,a=⟨b,o,none⟩/\b<W.heap.size:=fun hne=>by
   have h0:0<len:=by
    rcases Nat.eq_zero_or_pos len with h | h
    ·exact absurd (List.eq_nil_of_length_eq_zero (hxl.trans h)) hne
    ·exact h
   obtain ⟨x,⟨⟨cs,hR,hc⟩,_⟩⟩:=key 0 h0;have hcl:=T.len hR;have h1:=hc 0 cs[0] (by simp [hcl,hsz]);obtain ⟨b,o,spot⟩:=a;have:spot=none:=by
    have:=World.cell?_spot h1;simpa [Addr.add] using this
   subst this;refine ⟨b,o,rfl,?_⟩;have:=hp (.cell b (o+0)) (by
    simp only [List.mem_append];exact .inl (hrow 0 (Nat.mul_pos h0 (by omega))))
   exact this
  subst hxl;refine ⟨xs,⟨some a,cap,rfl,hle,fun hne=>?_,fun i x hx=>?_⟩,fun x hx=>?_⟩
  ·obtain ⟨b,o,rfl,hb⟩:=hspot hne;exact ⟨b,o,rfl,hb,fun h=>h⟩
  ·have hne:xs≠[]:=by rintro rfl;simp at hx
   obtain ⟨b,o,rfl,hb⟩:=hspot hne;obtain ⟨⟨cs,hR,hc⟩,_⟩:=hxs i x hx;refine ⟨b,o,cs,rfl,hR,fun j v hj=>?_⟩;have:=hc j v hj;rw [D0A,hE] at this;exact this
  ·obtain ⟨i,hi⟩:=List.getElem?_of_mem hx;exact (hxs i x hi).2⟩
theorem v0g {H:Type} {enc:TypeId×Value->H} {W:World} {sp:Nat->Bool} {held:Bool} {fuel:Nat} {cs:List Value} {d:DataW H} {ps:List MemPlace} {fs:Array Field} (ht:P.underlying t=some (.struct fs))
  (h:DataW.trod enc P W 0 sp held fuel t cs=some (d,ps)) (hp:∀ p∈ps,p.block<W.heap.size) :
  cs.length=P.cellsOf t/\∀ (i:Nat) (f:Field),fs[i]?=some f->∃ n d' ps',DataW.trod enc P W 0 sp held n f.type ((cs.drop f.offset).take (P.cellsOf f.type))=some (d',ps')/\∀ p∈ps',p.block<W.heap.size:=by
 obtain ⟨xs,n,rfl,hx,hl,hxl,hget⟩:=DataW.trod_struct ht h;cases hx;refine ⟨hl,fun i f hf=>?_⟩;have hi:i<fs.size:=by
  rcases Nat.lt_or_ge i fs.size with h | h
  ·exact h
  ·rw [Array.getElem?_eq_none h] at hf;cases hf
 have:=hget i f hf;rw [List.getElem?_eq_getElem (by omega)] at this;exact ⟨n,_,_,this,fun p hp'=>hp p (List.mem_flatMap.2 ⟨_,List.getElem_mem _,hp'⟩)⟩
theorem Rd.field {α:Type} {T:Ty α} {wf:α->Prop} {f:Field} {H:Type} {enc:TypeId×Value->H} {W:World} {sp:Nat->Bool} {held:Bool} {cs:List Value} (R:Rd P f.type T wf)
  (h:∃ n d' ps',DataW.trod enc P W 0 sp held n f.type ((cs.drop f.offset).take (P.cellsOf f.type))=some (d',ps')/\∀ p∈ps',p.block<W.heap.size) :
  ∃ x,T.R W.heap Q5 ((cs.drop f.offset).take (P.cellsOf f.type)) x/\wf x:=by
 obtain ⟨n,d',ps',h1,h2⟩:=h;exact R.get h1 h2
theorem s0b {H:Type} {enc:TypeId×Value->H} (hl:laidOutB P=true) {W W':World} (hb:Below W.heap.size W W'):∀ {ts:List TypeId} {vs:List Value} {ds:List (DataW H)} {ps:List MemPlace},
  (ts.all fun t=>P.readableRec t&&decide (t<P.types.size))=true->DataW.TrodAll enc P W 0 (fun _=>true) true ts vs ds ps->(∀ x∈ps,x.block<W.heap.size)->DataW.TrodAll enc P W' 0 (fun b=>decide (b<W.heap.size)) true ts vs ds ps
 |[],[],[],_,_,h,_=>h
 |[],[],_ :: _,_,_,h,_=>h.elim
 |[],_ :: _,_,_,_,h,_=>h.elim
 |_ :: _,[],_,_,_,h,_=>h.elim
 |_ :: _,_ :: _,[],_,_,h,_=>h.elim
 |
  t :: ts,v :: vs,d :: ds,ps,hr,⟨p,q,h1,h2,e⟩,hp=>by
  simp only [List.all_cons,Bool.and_eq_true,decide_eq_true_eq] at hr;subst e;exact ⟨p,q,Below.trod hl hr.1.1 hr.1.2 h1 hb (fun x hx=>hp x (List.mem_append_left _ hx)),s0b hl hb hr.2 h2 (fun x hx=>hp x (List.mem_append_right _ hx)),rfl⟩
theorem C0X {C:Checked} {os:Os} {f:FuncId} {fn:Func} {s:ChangeSpec} {tb:TypeId} {H:Type} {enc:TypeId×Value->H} (own:ownKnob C.prog.godebug=none) (started:os.Started) (noInit:C.prog.inits.idxOf? f=none) (hfn:C.prog.funcs[f]?=some fn) (hl:laidOutB C.prog=true)
  (hres:fn.resultTypes=#[tb]) (htb:C.prog.underlying tb=some .bool) (hsv:s.vars=[]) (hread:(fn.params.toList.all fun t=>C.prog.readableRec t&&decide (t<C.prog.types.size))=true)
  (witness:∃ (w:World) (tape:Tape) (i:Input),w.os=os/\(w.forCall tape i).Shaped C.prog/\i.vars=[]/\Input.okWide C.prog (w.forCall tape i) .any w.heap.size f i/\
   s.pre6 enc C.prog fn [] false (w.forCall tape i).memory i.args/\({}:Assume).holds C.prog (lone (Frame.enter C.prog f i.args .normal) [] (w.forCall tape i)))
  (hspec:∀ (W:World) (args:Array Value) (ds:List (DataW H)) (p:List MemPlace),DataW.TrodAll enc C.prog W 0 (fun _=>true) true fn.params.toList args.toList ds p->(s.fn H (ds++[])).results=[.lit (.bool true)]/\(s.fn H (ds++[])).args=ds/\(s.fn H (ds++[])).vars=[])
  (body:∀ (W:World) (base:Nat) (args:Array Value) (ds:List (DataW H)) (p:List MemPlace),(∀ (j:Nat) t v,fn.params[j]?=some t->args[j]?=some v->Value.okWide C.prog W .any base t v)->
   DataW.TrodAll enc C.prog W 0 (fun _=>true) true fn.params.toList args.toList ds p->(∀ x∈p,x.block<W.heap.size)->(DataW.weightsEach C.prog fn.params.toList ds).all (·<=reachBytes)=true->
   Calls C.prog f args W fun e W'=>e=.returned (.bool true)/\Below W.heap.size W W') :
  ReturnsInHanded {} C os f .any (s.pre6 enc C.prog fn [] false) (s.post enc C.prog fn false true false false):=by
 refine returnsInHanded_of_change_sized own started noInit hfn witness ?_;intro W base args ds gs before hval hW _ hsz _;have hW':=hW;obtain ⟨p,q,hA,hV,rfl,_,_⟩:=hW;rw [hsv] at hV;obtain ⟨rfl,rfl⟩:=trodVars_none hV;have hlt:∀ x∈p,x.block<W.heap.size:=fun x hx=>by simpa using hW'.lt x (List.mem_append_left _ hx)
 have hvt:s.plain.varTypes C.prog=[]:=by unfold ChangeSpec.plain;simp [DataSpec.varTypes,hsv]
 rw [hvt,List.append_nil,List.append_nil] at hsz;refine (body W base args ds p hval hA hlt hsz).mono fun e W' ⟨he,hb⟩=>?_;subst he;obtain ⟨s1,s2,s3⟩:=hspec W args ds p hA;refine ⟨_,rfl,ds,[],p++[],[],p,[],hW',?_,?_,?_,hb.frame _,fun h=>by cases h⟩
 ·rw [s1,hres];exact trodAll_cons_mk (shut_bool htb _) trodAll_mk0
 ·rw [s2];exact s0b hl hb hread hA hlt
 ·rw [s3,hsv];rfl
theorem E0a {H:Type} {enc:TypeId×Value->H} {W:World} {fuel n c:Nat} {A:Option Addr} {d:DataW H} {ps:List MemPlace} {ts:List TypeId} {ds:List (DataW H)} {j:Nat} (ht:P.underlying t=some (.slice e))
  (h:DataW.trod enc P W 0 (fun _=>true) true fuel t (Value.slice A n c).cells.toList=some (d,ps)) (hsz:(DataW.weightsEach P ts ds).all (·<=reachBytes)=true) (hj:ts[j]?=some t) (hd:ds[j]?=some d):n*P.bytesOf e<=140737488351232:=by
 rcases DataW.trod_slice ht h with ⟨he,_⟩ | ⟨a,len,cap,elems,rest,f,rfl,he,hx,_,hle,_,hel,hget,_,_⟩
 ·simp [Value.cells] at he;rw [he.2.1];omega
 ·cases hx;simp [Value.cells] at he;have:=sized_slice hsz hj hd ht;simp only [List.length_map,hel] at this;have h2:n*P.bytesOf e<=(len+rest.length)*P.bytesOf e:=Nat.mul_le_mul_right _ (by omega);have h3:reachBytes=140737488351232:=rfl;omega
end
