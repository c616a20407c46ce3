/- P. Its conditions: none. -/
import Derived.Test.YtihmgaccbcfgjaaGreatTG26
import Derived.Test.YtihmgaccbcfgjaaGreatTX16
import Derived.Test.YtihmgaccbcfgjaaGreatTAp
import Derived.Shelf.Strings.Builder1
import Derived.Test.YtihmgaccbcfgjaaGreatProg
import Derived.WalkKit
import Derived.Handy
import Derived.Test.YtihmgaccbcfgjaaGreatTMd
import Derived.Test.YtihmgaccbcfgjaaGreatTG24
import Derived.Test.YtihmgaccbcfgjaaGreatTX17
import Derived.Test.YtihmgaccbcfgjaaGreatTG02
import Derived.ProofKit
import Derived.SizedLaws
import Derived.Carry
import Derived.OpenShut
open Nat (mul_one lt_or_ge)
open List (mem_of_getElem? mem_map)
set_option linter.all false
set_option maxRecDepth 100000
namespace Go.Proofs.YtihmgaccbcfgjaaGreat
open Go.RowKit Go.Proofs
open Go.V hiding Row
open Go.X
def A0m {H:I0}{S:D0}{c:List Value}{of:List Int}(h:(J0 en (.list (.int .i64))).R H S c of):∃B d,c=[.slice B of.length d]/\(of≠[]->∃b o,B=some ⟨b,o,none⟩/\b<H.size/\∀k:Nat,k<of.length->O1 H b (o+k)=some (.int .i64 (gt of (k:Int)))):=by
 obtain⟨A,i,rfl,f⟩:=(show(O4 (J0 en (.int .i64))).R H S c of from h)
 refine⟨A,i,rfl,fun g=>?_⟩;obtain⟨b,o,rfl,j,_⟩:=f.2.1 g;refine⟨b,o,rfl,j,fun k hk=>?_⟩;have hg:of[k]?=some (gt of (k:Int)):=by rw[X2 (x:=of[k]) (by simp[hk])];simp[hk]
 obtain⟨b',l,cs,e,hR,a⟩:=f.2.2 k (show Int from gt of (k:Int)) hg;cases e;have hR:cs=[.int .i64 (gt of (k:Int))]:=hR;subst hR;have:=a 0 _ rfl;rw[show(J0 en (.int .i64)).sz=1 from rfl,mul_one]at this;exact this
def H0W {w:World}{S:D0}{us pl:List Value}{x:J4 en.D [.X0 22 [3] (.list (.int .i64)),.d (.list (.int .i64))]}(a:E2 en w.heap S [.X0 22 [3] (.list (.int .i64)),.d (.list (.int .i64))] x us pl):
  ∃v cs c2,pl=[v]/\us=[hd v,M3 false c2]/\(hd v).oneCell'=true/\v7 en w.heap S 22 [3] (.list (.int .i64)) (show List (List Int)from x.1) none v cs/\(J0 en (.list (.int .i64))).R w.heap S c2 x.2:=by
 unfold E2 at a;obtain⟨c,u,j,p1,p,rfl,rfl,g,h1,h⟩:=a;unfold E2 at h;obtain⟨c2,m,k,q,o,rfl,rfl,f,b,i⟩:=h;obtain⟨rfl,rfl⟩:=c0e i;unfold SR at h1 b;obtain⟨v,cs,rfl,rfl,l,n⟩:=h1;obtain⟨rfl,b⟩:=b;have g:u=hd v:=g;have f:m=M3 false c2:=f;subst g;subst f;exact⟨v,cs,c2,rfl,rfl,l,n,b⟩
def C0G (F:Nat)(w:World)(S:D0)(v:Value)(cs c2:List Value)(l:List (List Int))(of:List Int)(y:List (List Int))(hm:f06 F l of=some y)
  (ht:v7 en w.heap S 22 [3] (.list (.int .i64)) (show List (List Int)from l) none v cs) (h2:(J0 en (.list (.int .i64))).R w.heap S c2 of) (hS:∀b,S b->b<w.heap.size) (e3:∀k,Bk v k->S k):
  Calls Tryz.prog 207 #[hd v,M3 false c2] w fun e w1=>∃v1 c9,e=.returned (hd v1)/\Below w.heap.size w w1/\v7 en w1.heap (fun k=>S k\/B1 (hd v1)=some k) 22 [3] (.list (.int .i64)) (show List (List Int)from y) none v1 c9/\
   (hd v1).oneCell'=true/\(∀k,B1 (hd v1)=some k->w.heap.size<=k/\k<w1.heap.size)/\∀k,Bk v1 k->Bk v k\/B1 (hd v1)=some k:=by
 obtain⟨B,d,rfl,hB⟩:=A0m h2;unfold f06 at hm;split at hm
 rotate_left
 ·cases hm
 rename_i b4;cases hm;simp only[Bool.and_eq_true,List.all_eq_true]at b4;obtain⟨b8,e2,b4⟩:=b4;have hlen:of.length<=5864062014805:=by simp[K0]at b4;omega
 have J:∀i∈of,0<=i/\i<(l.length:Int):=fun i hi=>a0o (e2 i hi);have b2:Row w.heap 22 1 (hd v) l.length cs:=ht.row;have c6:cs.length=l.length:=by have:=b2.1;omega
 have b6:tl v=cs:=ht.tl;have c3:M7 en w.heap S [3] (.list (.int .i64)) l cs:=⟨ht.sz,fun i x f u ys e' h1 h2 n=>ht.rows i x f u ys e' h1 h2 n X',ht.one⟩
 have I:=c3.live ht.ok;obtain⟨A,cc,hv⟩:=b2.form;have b7:∀k:Nat,k<l.length->∃r,cs[k]?=some r/\E5 en w.heap S 3 (.int .i64) (gt l (k:Int)) r:=fun k hk=>by
  have hg:l[k]?=some (gt l (k:Int)):=by rw[X2 (x:=l[k]) (by simp[hk])];simp[hk]
  obtain⟨r,n,s⟩:=c3.rows k (show List Int from gt l (k:Int)) 0 (.int .i64) (show List Int from gt l (k:Int)) 3 hg rfl rfl;refine⟨r,?_,s⟩;have:Go.X.rowAt [3] k 0=k:=by simp[Go.X.rowAt]
  rw[this]at n;exact n
 have e1:∀u∈cs,∃a m c,u=.slice a m c:=fun u hu=>by
  obtain⟨p,hp⟩:=List.getElem?_of_mem hu;have b5:p<l.length:=by rw[<-c6];exact(List.getElem?_eq_some_iff.1 hp).1
  obtain⟨r,n,e4,s,_⟩:=b7 p b5;rw[hp]at n;cases n;obtain⟨a,c,h5⟩:=s.form;exact⟨a,_,c,h5⟩
 have hA:cs≠[]->∃b,A=some ⟨b,0,none⟩/\b<w.heap.size/\∀k:Nat,k<cs.length->O1 w.heap b k=some (cs.getD k (.int .i64 0)):=fun c4=>by
  rcases b2.2 with⟨h0,_⟩|⟨g,cap,cur,n,hp,hg,hn,_,hz,htk⟩
  ·exact absurd (List.eq_nil_of_length_eq_zero O') c4
  ·rw[hv]at n;cases n;refine⟨g,rfl,getElem?_lt hg,fun k hk=>?_⟩;unfold O1;rw[hg];have s:(cur.toList.take (l.length*1))[k]?=cs[k]?:=by rw[htk]
   rw[mul_one,List.getElem?_take_of_lt O']at s;simp only[<-Array.getElem?_toList,s,List.getD_eq_getElem?_getD,List.getElem?_eq_getElem hk];rfl
 have b1:=E00 cs of A B cc d w e1 hA hB (fun i hi=>by have:=J i hi;omega) hlen;rw[c6]at b1;rw[hv];refine b1.mono ?_
 rintro e w1 ⟨v',rfl,hown,hb⟩
 have C:Row w1.heap 22 1 v' of.length (of.map (rowOf cs)):=Row.of hown;have U:∀k,B1 v'=some k->w.heap.size<=k/\k<w1.heap.size:=fun k hk=>by
  refine⟨?_,C.live k hk⟩;rcases hown.2 with⟨rfl,_⟩|⟨g,cap,cur,rfl,n,_⟩
  ·cases hk
  ·obtain⟨_,rfl⟩:=d0S hk;exact n
 have kp:P0 w.heap S w1.heap (fun k=>S k\/B1 v'=some k):=⟨hb.size,fun b b9 hn=>⟨fun h=>h.elim hn (fun h=>by have:=(U b h).1;omega),hb.block b b9⟩⟩
 have b3:∀(i:Nat) (q:Int),of[i]?=some q->(of.map (rowOf cs))[i]?=some (rowOf cs q)/\cs[q.toNat]?=some (rowOf cs q)/\q.toNat<l.length:=fun i q z=>by
  obtain⟨q0,q1⟩:=J q (mem_of_getElem? z);have b5:q.toNat<cs.length:=O'
  refine⟨by rw[List.getElem?_map,z];rfl,?_,O'⟩;rw[List.getElem?_eq_getElem b5];simp[rowOf,List.getElem?_eq_getElem b5]
 have c5:M7 en w1.heap (fun k=>S k\/B1 v'=some k) [3] (.list (.int .i64)) (show List (List Int)from of.map fun i=>gt l i) (of.map (rowOf cs)):=by
  refine⟨?_,fun i x f u ys e' n s h5=>?_,fun u hu=>?_⟩
  ·show(of.map (rowOf cs)).length=(of.map fun i=>gt l i).length*1;simp
  ·have n:(of.map fun i=>gt l i)[i]?=some (show List Int from x):=n;rw[List.getElem?_map]at n;cases z:of[i]? with
   |none=>rw[z]at n;cases n
   |some q=>
    rw[z]at n;cases n;obtain⟨g1,g2,g3⟩:=b3 i q z;obtain⟨q0,q1⟩:=J q (mem_of_getElem? z);have hf:f=0:=by
     cases f with
     |zero=>rfl
     |succ f=>simp at h5
    subst hf;have hg:l[q.toNat]?=some (gt l q):=by
     obtain⟨m,rfl⟩:∃m:Nat,q=m:=⟨q.toNat,O'⟩
     have hm:m<l.length:=O'
     rw[X2 (x:=l[m]) (by simp[hm])];simp[hm]
    obtain⟨r,r1,r2⟩:=c3.rows q.toNat _ 0 u ys e' hg s h5;rw[show Go.X.rowAt [3] q.toNat 0=q.toNat from by simp[Go.X.rowAt],g2]at r1;cases r1;refine⟨_,by rw[show Go.X.rowAt [3] i 0=i from by simp[Go.X.rowAt]];exact g1,r2.mono kp fun b b9=>hb.block b ?_⟩;exact I _ (mem_of_getElem? g2) b b9
  ·obtain⟨q,z,rfl⟩:=mem_map.1 hu;obtain⟨i,hi⟩:=List.getElem?_of_mem z;exact ht.one _ (mem_of_getElem? (b3 i q hi).2.1)
 have c8:∀u∈of.map (rowOf cs),u∈cs:=fun u hu=>by
  obtain⟨q,z,rfl⟩:=mem_map.1 hu;obtain⟨i,hi⟩:=List.getElem?_of_mem z;exact mem_of_getElem? (b3 i q hi).2.1
 have c4:∀(i j:Nat) (p q:Int),i≠j->of[i]?=some p->of[j]?=some q->p≠q:=by
  have hp:=(h04 (fun i:Int=>i) of).1 b8;have key:∀(i j:Nat) (p q:Int),i<j->of[i]?=some p->of[j]?=some q->p≠q:=fun i j p q a1 n s=>by
   obtain⟨i1,rfl⟩:=List.getElem?_eq_some_iff.1 n;obtain⟨j1,rfl⟩:=List.getElem?_eq_some_iff.1 s;exact List.pairwise_iff_getElem.1 hp i j i1 j1 a1
  intro i j p q a1 n s;rcases Nat.lt_or_gt_of_ne a1 with h|h
  ·exact key i j p q h n s
  ·exact(key j i q p h s n).symm
 have c7:d07 (v' :: of.map (rowOf cs)):=by
  intro i j x x' a1 n s k hk c0;have o:∀(i:Nat) (x:Value),(v' :: of.map (rowOf cs))[i+1]?=some x->∃p,of[i]?=some p/\cs[p.toNat]?=some x/\p.toNat<l.length/\0<=p:=fun i x h=>by
   rw[List.getElem?_cons_succ,List.getElem?_map]at h;cases z:of[i]? with
   |none=>rw[z]at h;cases h
   |some q=>
    rw[z]at h;cases h;exact⟨q,rfl,(b3 i q z).2.1,(b3 i q z).2.2,(J q (mem_of_getElem? z)).1⟩
  match i,j with
  |0,0=>exact a1 rfl
  |0,j+1=>
   obtain⟨p,_,p2,_⟩:=o j x' s;cases n;have:=I _ (mem_of_getElem? p2) k c0;have:=(U k hk).1;omega
  |i+1,0=>
   obtain⟨p,_,p2,_⟩:=o i x n;cases s;have:=I _ (mem_of_getElem? p2) k hk;have:=(U k c0).1;omega
  |i+1,j+1=>
   obtain⟨p,p1,p2,_,p4⟩:=o i x n;obtain⟨q,q1,q2,_,q4⟩:=o j x' s;have:=c4 i j p q O' p1 q1;refine ht.ap (p.toNat+1) (q.toNat+1) x x' O' ?_ ?_ k hk c0
   ·rw[b6];exact p2
   ·rw[b6];exact q2
 refine⟨.tuple (v' :: of.map (rowOf cs)).toArray,of.map (rowOf cs),rfl,hb,v7.of ?_ ht.ok c5 c7,?_,U,?_⟩
 ·show Row w1.heap 22 1 v' (of.map fun i=>gt l i).length _;rw[List.length_map];exact C
 ·obtain⟨a,c,n⟩:=C.form;show v'.oneCell'=true;rw[n];rfl
 ·rintro k ⟨u,hu,hk⟩
  have hu:u∈v' :: of.map (rowOf cs):=hu;rcases List.mem_cons.1 hu with rfl|hu
  ·exact .inr hk
  ·exact .inl (Bk.tl (by rw[b6];exact c8 u hu) hk)
def z0j (F:Nat):U0 en (n0s F):=by
 intro w S us pl x y hm g m f n;obtain⟨v,cs,c2,rfl,rfl,h1,o,d⟩:=H0W g;have a:∀k,Bk v k->S k:=fun k hk=>f k ⟨v,X',hk⟩;refine(C0G F w S v cs c2 x.1 x.2 y hm o d m a).mono ?_
 rintro e w1 ⟨v1,cs1,rfl,hb,ht1,hone,hnew,hbk1⟩
 refine⟨hd v1,fun k=>S k\/B1 (hd v1)=some k,[v1],rfl,?_,⟨hb.os,hb.tape,hb.output,hb.size,fun k hk _=>hb.block k hk⟩,⟨hb.size,fun b c hn=>⟨fun h=>h.elim hn (fun h=>by have:=(hnew b h).1;omega),hb.block b c⟩⟩,fun b h _=>.inl h,fun b h=>?_,?_,?_⟩
 ·refine U9 (x:=.X0 22 [3] (.list (.int .i64))) (r:=[]) ⟨[hd v1],hd v1,[],[v1],[],rfl,rfl,rfl,?_,a0M⟩;unfold SR;exact⟨v1,cs1,rfl,rfl,hone,ht1⟩
 ·rcases h with h|h
  ·exact Nat.lt_of_lt_of_le (m b h) hb.size
  ·exact(hnew b h).2
 ·intro i j v1 v2 l h1 d;have e:∀{q:Nat} {z:Value} {s:Value},[s][q]?=some z->q=0:=fun {q z s} h=>by
   cases q with
   |zero=>rfl
   |succ q=>simp at h
  exact absurd ((e h1).trans (e d).symm) l
 ·rintro b ⟨u,hu,hb1⟩
  simp only[List.mem_singleton]at hu;subst hu;rcases hbk1 b hb1 with h|h
  ·exact⟨.inl (a b h),.inl ⟨v,X',h⟩⟩
  ·exact⟨.inr h,.inr (hnew b h).1⟩
def A0h {E:Env}{H:I0}{S:D0}{cs:List Value}{y:List Int}(he:R1 (J0 E (.int .i64)) H S cs y){i:Nat}(hi:i<y.length):cs[i]?=some (.int .i64 (y.getD i 0)):=by
 have h1:=he.2 i (y.getD i 0) (by rw[show y.getD i 0=y[i]from by simp[List.getD,hi]];exact List.getElem?_eq_getElem hi);have h1:(cs.drop (i*1)).take 1=[.int .i64 (y.getD i 0)]:=h1;rw[mul_one]at h1;have:=congrArg (fun l=>l[0]?) h1;simpa using this
def x01 {E:Env}{H:I0}{S:D0}{cs:List Value}{y:List Int}(hl:cs.length=y.length)(h:∀i,i<y.length->cs[i]?=some (.int .i64 (y.getD i 0))):R1 (J0 E (.int .i64)) H S cs y:=by
 refine⟨by rw[hl];exact(mul_one _).symm,fun i (x:Int) hx=>?_⟩;have hi:i<y.length:=(List.getElem?_eq_some_iff.1 hx).1;have d:y.getD i 0=x:=by
  have b:@Eq (Option Int) y[i]? (some x):=hx;rw[List.getD_eq_getElem?_getD,b];rfl
 have c:=h i hi;rw[d]at c;show(cs.drop (i*1)).take 1=[.int .i64 x];rw[mul_one];have a:i<cs.length:=O'
 rw[List.drop_eq_getElem_cons a];rw[List.getElem?_eq_getElem a]at c;rw[Option.some.inj c];rfl
def x05 {F:Nat}(h:U0 en (i0Z F)){w:World}{S:D0}{l y:List Int}{c:List Value}(hm:j0u F l=some y)(hl:(J0 en (.list (.int .i64))).R w.heap S c l)(hS:∀b,S b->b<w.heap.size):
  Calls en.P 99 #[M3 false c] w fun e w1=>∃v,e=.returned v/\(∃ao cap,v=.slice ao y.length cap)/\X7 w v y w1/\(∀k,B1 v=some k->w.heap.size<=k)/\∀k,k<w.heap.size->w1.heap[k]?=w.heap[k]?:=by
 have s:E2 en w.heap S [.d (.list (.int .i64))] l [M3 false c] []:=by
  refine U9 (x:=.d (.list (.int .i64))) (r:=[]) ⟨c,M3 false c,[],[],[],rfl,rfl,rfl,?_,a0M⟩;unfold SR;exact⟨rfl,hl⟩
 refine(h w S [M3 false c] [] l y hm s hS (by rintro b ⟨v,z,_⟩;simp at z) (by intro i j v v' _ z;simp at z)).mono ?_
 rintro e w1 ⟨v,S1,pl1,rfl,n,hb,hk,hs1,hs2,hap,hbl⟩
 have n:E2 en w1.heap S1 [.own 3 (.int .i64)] y [v] pl1:=n;unfold E2 at n;obtain⟨c1,u,b2,p1,p2,e0,rfl,e1,h1,p⟩:=n;cases e0;obtain⟨_,rfl⟩:=c0e p;unfold SR at h1;obtain⟨v1,cs,rfl,rfl,h5,m,C⟩:=h1;have e1:v=v1:=e1;subst e1;have f:∀k,k<w.heap.size->w1.heap[k]?=w.heap[k]?:=fun k hk=>hb.block k hk (by rintro⟨v,z,_⟩;simp at z);have a1:∀k,B1 v=some k->w.heap.size<=k:=fun k hk=>by
  have U:Bk v k:=by
   obtain⟨A,cc,I⟩:=Row.form m;rw[I]at hk ⊢;exact hk
  rcases(hbl k ⟨v,X',U⟩).2 with⟨v2,b1,_⟩|h
  ·simp at b1
  ·exact h
 refine⟨v,rfl,Row.form m,⟨hb.os,hb.tape,hb.output,hb.size,fun k hk _=>f k hk,?_⟩,a1,f⟩;obtain⟨h0,⟨h1,a,rfl⟩|⟨g,cap,cur,rfl,hc,hg,hn,J,hz,ht⟩⟩:=m
 ·exact .inl ⟨List.eq_nil_of_length_eq_zero h1,a,rfl⟩
 ·obtain⟨o,rfl⟩:∃q,cap=q+1:=⟨cap-1,O'⟩
  refine .inr ⟨g,o,cur,rfl,hg,?_,hn,J,fun i hi=>?_⟩
  ·have hz:cur.size=(o+1)*1:=hz;omega
  ·have p:=A0h C hi;have hl:(cur.toList.take (y.length*1))=cs:=ht;rw[mul_one]at hl;have p:cs[i]?=some (.int .i64 (y.getD i 0)):=p;rw[<-hl,List.getElem?_take_of_lt hi]at p;rw[<-p];simp
def H0r {H:I0}{S:D0}{c:List Value}{marks:List J2}(h:(J0 en (.list (.st 12))).R H S c marks):∃A l,c=[.slice A marks.length l]/\(marks≠[]->∃b o,A=some ⟨b,o,none⟩/\b<H.size/\∀k:Nat,k<marks.length->O1 H b (o+k*2)=some (.int .i64 (gt marks (k:Int)).Kind)/\O1 H b (o+k*2+1)=some (.int .i64 (gt marks (k:Int)).Group)):=by
 obtain⟨A,l,rfl,d⟩:=(show(O4 (J0 en (.st 12))).R H S c marks from h)
 refine⟨A,l,rfl,fun i=>?_⟩;obtain⟨b,o,rfl,p,_⟩:=d.2.1 i;refine⟨b,o,rfl,p,fun k hk=>?_⟩;have hg:marks[k]?=some (gt marks (k:Int)):=by rw[X2 (x:=marks[k]) (by simp[hk])];simp[hk]
 obtain⟨b',q,cs,e,hR,a⟩:=d.2.2 k (show J2 from gt marks (k:Int)) hg;cases e;have m:cs=[.int .i64 (gt marks (k:Int)).Kind,.int .i64 (gt marks (k:Int)).Group]:=by
  have n:=(f0Q 12 H S cs (show J2 from gt marks (k:Int))).1 hR;obtain⟨c1,c2,rfl,g,c3,c4,rfl,j,f⟩:=n;have g:c1=[.int .i64 (gt marks (k:Int)).Kind]:=g;have j:c3=[.int .i64 (gt marks (k:Int)).Group]:=j;have f:c4=[]:=f;rw[g,j,f];rfl
 subst m;exact⟨a 0 _ rfl,a 1 _ rfl⟩
def D0P {w:World}{S:D0}{us pl:List Value}{x:J4 en.D [.d (.list (.int .i64)),.d (.list (.st 12)),.d (.int .i64),.d (.int .i64)]}(f:E2 en w.heap S [.d (.list (.int .i64)),.d (.list (.st 12)),.d (.int .i64),.d (.int .i64)] x us pl):
  pl=[]/\∃c c2,us=[M3 false c,M3 false c2,.int .i64 (show Int from x.2.2.1),.int .i64 (show Int from x.2.2.2)]/\(J0 en (.list (.int .i64))).R w.heap S c x.1/\(J0 en (.list (.st 12))).R w.heap S c2 x.2.1:=by
 skip
 unfold E2 at f;obtain⟨c,u,z,p1,C,rfl,rfl,k,h1,m⟩:=f;unfold E2 at m;obtain⟨c2,r,p,J,p4,rfl,rfl,i,g,n⟩:=m;unfold E2 at n;obtain⟨c3,y,s,p5,I,rfl,rfl,j,a,l⟩:=n;unfold E2 at l;obtain⟨c4,o,v,p7,U,rfl,rfl,h,b,q⟩:=l;obtain⟨rfl,rfl⟩:=c0e q;unfold SR at h1 g a b;obtain⟨rfl,h1⟩:=h1;obtain⟨rfl,g⟩:=g;obtain⟨rfl,a⟩:=a;obtain⟨rfl,b⟩:=b;have a:c3=[.int .i64 (show Int from x.2.2.1)]:=a;have b:c4=[.int .i64 (show Int from x.2.2.2)]:=b;subst a;subst b;have k:u=M3 false c:=k;have i:r=M3 false c2:=i;have j:y=.int .i64 (show Int from x.2.2.1):=j;have h:o=.int .i64 (show Int from x.2.2.2):=h;subst k;subst i;subst j;subst h;exact⟨rfl,c,c2,rfl,h1,g⟩
def z0F (F:Nat)(h:U0 en (i0Z F))(w:World)(S:D0)(c c2:List Value)(tags:List Int)(marks:List J2)(now nn:Int)(y:List Int)(hm:d0G F tags marks now nn=some y)
  (h1:(J0 en (.list (.int .i64))).R w.heap S c tags) (n:(J0 en (.list (.st 12))).R w.heap S c2 marks) (i:∀b,S b->b<w.heap.size):
  Calls Tryz.prog 153 #[M3 false c,M3 false c2,.int .i64 now,.int .i64 nn] w fun e w1=>∃v,e=.returned v/\X7 w v y w1/\(∀k,B1 v=some k->w.heap.size<=k)/\∀k,k<w.heap.size->w1.heap[k]?=w.heap[k]?:=by
 obtain⟨A,m,rfl,g⟩:=H0r n;unfold d0G at hm;split at hm
 rotate_left
 ·cases hm
 rename_i a;cases hm;simp only[Bool.and_eq_true,decide_eq_true_eq]at a;obtain⟨d,l⟩:=a;have f:tags.length<=20000000000000:=by simp[K0]at d;omega
 have j:j0u F tags=some tags:=by unfold j0u;rw[if_pos d]
 exact I0F (M3 false c) tags marks now nn A m w (x05 h j h1 i) g O' f
def x0i {w W:World}{v:Value}{o:List Int}(h:X7 w v o W){E:Env}{S:D0}:∃cs,Row W.heap 3 1 v o.length cs/\R1 (J0 E (.int .i64)) W.heap S cs o/\∃a c,v=.slice a o.length c:=by
 rcases h.own with⟨rfl,a,rfl⟩|⟨g,cap,cur,rfl,hg,hs,hn,hm,hc⟩
 ·exact⟨[],⟨rfl,.inl ⟨rfl,a,rfl⟩⟩,R1.nil,a,0,rfl⟩
 ·refine⟨cur.toList.take o.length,⟨Z',.inr ⟨g,cap+1,cur,rfl,O',hg,hn,hm,O',by rw[mul_one]⟩⟩,x01 Z' (fun i hi=>?_),_,_,rfl⟩;rw[List.getElem?_take_of_lt hi];simpa using hc i hi
def H0U (F:Nat)(o:U0 en (i0Z F)):U0 en (k0G F):=by
 intro w S us pl x y hm p C J I;obtain⟨rfl,c,c2,rfl,h1,n⟩:=D0P p;refine(z0F F o w S c c2 x.1 x.2.1 x.2.2.1 x.2.2.2 y hm h1 n C).mono ?_
 rintro e w1 ⟨v,rfl,hI,hge,hbl⟩
 obtain⟨cs,d,f,a,R,u⟩:=x0i (E:=en) (S:=fun k=>S k\/B1 v=some k) hI;have g:∀k,Bk v k->B1 v=some k:=fun k hk=>by rw[u]at hk ⊢;exact hk
 have l:v.oneCell'=true:=by rw[u];rfl
 refine⟨v,fun k=>S k\/B1 v=some k,[v],rfl,?_,⟨hI.os,hI.tape,hI.output,hI.size,fun k hk _=>hbl k hk⟩,⟨hI.size,fun b m hn=>⟨fun h=>h.elim hn (fun h=>by have:=hge b h;omega),hbl b m⟩⟩,fun b h _=>.inl h,fun b h=>?_,?_,?_⟩
 ·refine U9 (x:=.own 3 (.int .i64)) (r:=[]) ⟨[v],v,[],[v],[],rfl,rfl,rfl,?_,a0M⟩;unfold SR;exact⟨v,cs,rfl,rfl,l,d,f⟩
 ·rcases h with h|h
  ·exact Nat.lt_of_lt_of_le (C b h) hI.size
  ·exact d.live b h
 ·intro i j v1 v2 s h1 n;have e:∀{q:Nat} {z:Value},[v][q]?=some z->q=0:=fun {q z} h=>by
   cases q with
   |zero=>rfl
   |succ q=>simp at h
  exact absurd ((e h1).trans (e n).symm) s
 ·rintro b ⟨v1,hv1,hb1⟩
  simp only[List.mem_singleton]at hv1;subst hv1;exact⟨.inr (g b hb1),.inr (hge b (g b hb1))⟩
end Go.Proofs.YtihmgaccbcfgjaaGreat
namespace Go.Proofs
open Go.Shelf
def Tryz.v0T:Go.Shelf.Ren:=⟨fun|169=>170|n=>n,fun|70=>211|9=>9|0=>0|72=>213|37=>43|127=>240|3=>3|5=>5|n=>n,fun|n=>n⟩
def Tryz.G0O:Go.Proofs.Lays.n169 Tryz.prog Tryz.v0T:={
 mixed:=Y'
 f169:=Tryz.func170.trans (congrArg some Y')
 t0:=Tryz.underlying0
 a0:=Tryz.isAgg0
 z0:=Tryz.sizeOf0
 v0:=Tryz.zeroValue0
 t3:=Tryz.underlying3
 a3:=Tryz.isAgg3
 z3:=Tryz.sizeOf3
 v3:=Tryz.zeroValue3
 t9:=Tryz.underlying9
 a9:=Tryz.isAgg9
 z9:=Tryz.sizeOf9
 v9:=Tryz.zeroValue9
 t37:=Tryz.underlying43
 a37:=Tryz.isAgg43
 z37:=Tryz.sizeOf43
 v37:=Tryz.zeroValue43
 t70:=Tryz.underlying211
 a70:=Tryz.isAgg211
 z70:=Tryz.sizeOf211
 v70:=Tryz.zeroValue211
 t72:=Tryz.underlying213
 a72:=Tryz.isAgg213
 z72:=Tryz.sizeOf213
 v72:=Tryz.zeroValue213
 t127:=Tryz.underlying240
 a127:=Tryz.isAgg240
 z127:=Tryz.sizeOf240
 v127:=Tryz.zeroValue240 }
def Tryz.H0T:Builder.Extra Tryz.prog Tryz.v0T:={
 sizeBuilder:=Y'
 liesBuilder:=Y'
 t5:=Tryz.underlying5
 a5:=Tryz.isAgg5
 z5:=Tryz.sizeOf5
 v5:=Tryz.zeroValue5
 infoByte:=Y'
 cellsByte:=Y'
 sizeByte:=Y'
 neB5:=by decide }
open Go.RowKit in
def Tryz.Builder_String_any (B b:Nat)(l:List UInt8)(w:World)(h:Lib.IsBuilder 213 5 B b (Lib.byteCells l) w)(a:B<=w.heap.size):
 Calls Tryz.prog 170 #[.pointer (some ⟨b,0,none⟩)] w fun e w'=>e=.returned (.string ⟨l.toArray⟩)/\Below B w w':=Any.Builder_String_any Tryz.G0O Tryz.H0T B b l w h a
end Go.Proofs
set_option maxRecDepth 100000
namespace Go.Proofs.YtihmgaccbcfgjaaGreat
open Go.RowKit Go.Proofs
def sizeBuilder:(Tryz.prog.info? 213).map (·.size)=some 2:=Y'
def infoByte:(Tryz.prog.info? 5).map (fun i=>(i.zero,i.size,i.bytes))=some (some (.int .u8 0),1,1):=Y'
set_option maxHeartbeats 1000000 in
def H01 (b:Nat)(w:World)(c:w.cell? ⟨b,0,none⟩=some (.pointer (some ⟨b,0,none⟩))):
  Calls Tryz.prog 188 #[.pointer (some ⟨b,0,none⟩)] w fun e w'=>e=.returned (.tuple #[])/\w'=w:=by
 obtain⟨j,a,_⟩:=Option.map_eq_some_iff.1 sizeBuilder
 go_enter Tryz.func188,Tryz.ntmps188
 go_wp2
 rw[Lib.run_neq_ptr_same w _ Tryz.underlying211 a]
 go_wp2
 go_end0
 exact⟨rfl,rfl⟩
set_option maxHeartbeats 1000000 in
def y0T (b:Nat)(w:World)(g:w.cell? ⟨b,0,none⟩=some (.pointer none))(a:w.shape? b=some (213,2))(f:w.frozen? ⟨b,0,none⟩=false):
  Calls Tryz.prog 188 #[.pointer (some ⟨b,0,none⟩)] w fun e w'=>e=.returned (.tuple #[])/\w'=w.setCell ⟨b,0,none⟩ (.pointer (some ⟨b,0,none⟩)):=by
 obtain⟨j,d,c⟩:=Option.map_eq_some_iff.1 sizeBuilder
 go_enter Tryz.func188,Tryz.ntmps188
 go_wp2
 rw[Lib.run_to_unsafe w ⟨b,0,none⟩ Tryz.underlying211 Tryz.underlying261 d (by rw[c];decide) a (Nat.zero_lt_succ 1)];simp only[Result.andThen];rw[Oper.upon_value]
 go_wp2
 rw[run_callFunc_extern Tryz.func209 Y' Y' Y' (e:=Extern.AbiNoEscape.same) Y'];rw[Lib.run_noEscape];simp only[Result.andThen];rw[Oper.upon_value]
 go_wp2
 rw[Lib.run_from_unsafe w ⟨b,0,none⟩ Tryz.underlying261 Tryz.underlying211 d a Y'];simp only[Result.andThen];rw[Oper.upon_value]
 go_wp2
 go_end0
 exact⟨rfl,rfl⟩
def F0Z (B b:Nat)(a:List Value)(w:World)(h:Lib.IsBuilder 213 5 B b a w):
  Calls Tryz.prog 188 #[.pointer (some ⟨b,0,none⟩)] w fun e w'=>e=.returned (.tuple #[])/\(Lib.BuilderAt 213 5 B b (.pointer (some ⟨b,0,none⟩)) a w'/\Below B w w'):=by
 rcases h with h|h
 ·refine(y0T b w h.cell0 h.shape h.frozen0).mono ?_
  rintro e w' ⟨rfl,rfl⟩
  exact⟨rfl,h.used _,(Below.refl B w).setCell (p:=⟨b,0,none⟩) h.1 _⟩
 ·refine(H01 b w h.cell0).mono ?_
  rintro e w' ⟨rfl,rfl⟩
  exact⟨rfl,h,Below.refl B _⟩
set_option maxHeartbeats 2000000 in
def v0Z (B b:Nat)(m:List Value)(c:Int)(w:World)(h:Lib.IsBuilder 213 5 B b m w)(hlen:m.length+1<=140737488355328)(I:B<=w.heap.size):
  Calls Tryz.prog 169 #[.pointer (some ⟨b,0,none⟩),.int .u8 c] w fun e w'=>e=.returned .nilIface/\(Lib.BuilderAt 213 5 B b (.pointer (some ⟨b,0,none⟩)) (m++[.int .u8 c]) w'/\Below B w w'):=by
 obtain⟨i0,hi,r,q,x⟩:=info_parts infoByte
 go_enter Tryz.func169,Tryz.ntmps169
 go_wp2_with (go_at_call 188;refine(F0Z B b m _ h).mono ?_)
 rintro e w1 ⟨rfl,h1,hb1⟩
 obtain⟨z,v,f,l,s⟩:=h1;have R:w1.cell? ⟨b,0,none⟩=some (.pointer (some ⟨b,0,none⟩)):=by rw[Lib.cell_of_heap f];rfl
 have c1:w1.cell? ⟨b,1,none⟩=some v:=by rw[Lib.cell_of_heap f];rfl
 go_wp2_with (at_builtin;refine wpList_append_own _ rfl _ _ 43 rfl B 5 i0 (.int .u8 0) 1 1 Tryz.underlying43 hi r q x rfl (by decide) _ _ _ rfl (l.alloc _) ⟨w1.heap.size,0,none⟩ 1 1 [.int .u8 c] rfl rfl ?c1 ?c2 ?c3 ?c4 ?c5 ?_)
 case c1=>
  intro j u n
  match j,n with
  |0,n=>simp at n;subst n;simp[Addr.add]
 case c2=>intro u hu;simp at hu;subst hu;rfl
 case c3=>unfold maxLen;omega
 case c4=>omega
 case c5=>have:=hb1.size;simp;omega
 intro C o d a _;have y:b<w1.heap.size:=by
  rcases lt_or_ge b w1.heap.size with h'|h'
  ·exact h'
  ·simp[Array.getElem?_eq_none h']at f
 have i:o.heap[b]?=some (.cells #[.pointer (some ⟨b,0,none⟩),v] 213 (0,0)):=by
  rw[a.block b Z' (fun e=>s e.symm),Lib.alloc_old w1 _ b y];exact f
 have d0:o.cell? ⟨b,0,none⟩=some (.pointer (some ⟨b,0,none⟩)):=by rw[Lib.cell_of_heap i];rfl
 have d1:o.cell? ⟨b,1,none⟩=some v:=by rw[Lib.cell_of_heap i];rfl
 have f1:o.frozen? ⟨b,1,none⟩=false:=Lib.frozen_of_heap i 1;obtain⟨g,cap,rfl⟩:∃g cap,C=.slice (some ⟨g,0,none⟩) (m.length+1) cap:=by
  rcases d.2 with⟨_,J⟩|⟨g,cap,cur,hv,_⟩
  ·omega
  ·exact⟨g,cap,hv⟩
 go_wp2
 go_ret
 refine⟨rfl,?_,?_⟩
 ·exact Lib.BuilderAt.put (T:=213) (e:=5) z i (bs':=m++[.int .u8 c]) (by simpa using d) (by decide)
 ·exact((hb1.alloc (by have:=hb1.size;omega) _).grown a (by have:=hb1.size;simp;omega) (fun k hk=>(l.lt k hk).1)).setCell (p:=⟨b,1,none⟩) z _
end Go.Proofs.YtihmgaccbcfgjaaGreat
namespace Go.V
open Go.RowKit Go.ChangeShapes Go.WideShapes Go.ChangeAt
def L5 (k:IntKind)(x:Int):Prop:=k.min<=x/\x<=k.max
structure Rd (P:Program)(t:TypeId){α:Type}(T:Ty α)(wf:α->Prop):Prop where
 get:∀{H:Type} {enc:TypeId×Value->H} {W:World} {sp:Nat->Bool} {held:Bool} {fuel:Nat} {cs:List Value} {d:DataW H} {ps:List MemPlace},
  DataW.trod enc P W 0 sp held fuel t cs=some (d,ps)->(∀p∈ps,p.block<W.heap.size)->∃x,T.R W.heap C3 cs x/\wf x
section
variable {P:Program}{t e:TypeId}
def Rd.int {k:IntKind}(a:P.underlying t=some (.int k)):Rd P t (P1 k) (L5 k):=⟨by
 intro H enc W sp held fuel cs d ps h _;cases fuel with
 |zero=>simp[DataW.trod]at h
 |succ f=>
  simp only[DataW.trod,a]at h;split at h<;>simp_all
  obtain⟨⟨rfl,hw⟩,_⟩:=h;simp only[Lit.wf,Bool.and_eq_true,decide_eq_true_eq]at hw;exact⟨_,rfl,hw⟩⟩
def Rd.bool (a:P.underlying t=some .bool):Rd P t l8 (fun _=>True):=⟨fun h _=>by
 obtain⟨b,rfl,_⟩:=DataW.trod_bool a h;exact⟨b,rfl,trivial⟩⟩
def u0m {α β:Type}{f:α->Option β}:∀{l:List α} {r:List β},l.mapM f=some r->l.length=r.length/\∀(i:Nat) (x:α),l[i]?=some x->∃y,r[i]?=some y/\f x=some y
 |[],r,h=>by simp at h;subst h;simp
 |x :: xs,r,h=>by
  rw[List.mapM_cons]at h;cases b:f x with
  |none=>simp[b]at h
  |some y=>
   cases a:xs.mapM f with
   |none=>simp[b,a]at h
   |some ys=>
    simp[b,a]at h;subst h;obtain⟨h1,d⟩:=u0m a;refine⟨by simp[h1],fun i z c=>?_⟩;cases i with
    |zero=>simp at c;subst c;exact⟨y,rfl,b⟩
    |succ i=>simpa using d i z (by simpa using c)
def cells?_get {W:World}{base:Nat}{a:Addr}{n:Nat}{cs:List Value}(h:W.cells? base a n=some cs):cs.length=n/\∀(j:Nat) (v:Value),cs[j]?=some v->W.cell? (a.add j)=some v:=by
 unfold World.cells? at h;split at h
 ·obtain⟨h1,d⟩:=u0m h;simp at h1;refine⟨h1.symm,fun j v b=>?_⟩;have hl:j<n:=by
   rcases lt_or_ge j n with h|h
   ·exact h
   ·rw[List.getElem?_eq_none O']at b;cases b
  obtain⟨y,c,f⟩:=d j j (by simp[hl]);rw[c]at b;cases b;exact f
 ·cases h
def m0M {α:Type}{Q:Nat->α->Prop}:∀(n:Nat),(∀i,i<n->∃x,Q i x)->∃xs:List α,xs.length=n/\∀(i:Nat) (x:α),xs[i]?=some x->Q i x
 |0,_=>⟨[],rfl,fun i x h=>by simp at h⟩
 |n+1,h=>by
  obtain⟨xs,hl,b⟩:=m0M n (fun i hi=>h i O');obtain⟨y,a⟩:=h n O';refine⟨xs++[y],by simp[hl],fun i x hi=>?_⟩;rcases lt_or_ge i xs.length with h1|h1
  ·rw[List.getElem?_append_left h1]at hi;exact b i x hi
  ·rw[List.getElem?_append_right h1]at hi;have:i-xs.length=0:=by
    rcases Nat.eq_zero_or_pos (i-xs.length)with h|h
    ·exact h
    ·rw[List.getElem?_eq_none Z']at hi;cases hi
   rw[this]at hi;simp at hi;subst hi;have:i=n:=O'
   subst this;exact a
def Rd.slice {α:Type}{T:Ty α}{wf:α->Prop}(ht:P.underlying t=some (.slice e))(hE:P.cellsOf e=T.sz)(r:0<T.sz)(R:Rd P e T wf):Rd P t (O4 T) (fun l=>∀x∈l,wf x):=⟨by
 intro H enc W sp held fuel cs d ps h hp;rcases DataW.trod_slice ht h with⟨rfl,_⟩|⟨a,len,cap,elems,rest,f,rfl,rfl,k,_,hle,_,hel,hget,_,_⟩
 ·exact⟨[],⟨none,0,rfl,Sl.nil⟩,X'⟩
 ·cases k;have q:∀j,j<len*P.cellsOf e->MemPlace.cell a.block (a.off+j)∈MemPlace.row a ((elems.length+rest.length)*P.cellsOf e):=fun j s=>MemPlace.mem_row.2 ⟨j,Nat.lt_of_lt_of_le s (Nat.mul_le_mul_right _ O'),rfl⟩;have key:∀i,i<len->∃x,(∃cs,T.R W.heap C3 cs x/\∀j v,cs[j]?=some v->W.cell? ((a.add (i*P.cellsOf e)).add j)=some v)/\wf x:=fun i hi=>by
   have w:=hget i hi;rw[List.getElem?_eq_getElem O']at w;simp only[Option.bind_eq_some_iff]at w;obtain⟨cs,C,I⟩:=w;obtain⟨x,k,hw⟩:=R.get I (fun p z=>hp p (by
    simp only[List.mem_append,List.mem_flatMap];exact .inr ⟨_,.inl (List.getElem_mem _),z⟩))
   exact⟨x,⟨cs,k,(cells?_get C).2⟩,hw⟩
  obtain⟨xs,m,n⟩:=m0M len key;have c:xs≠[]->∃b o,a=⟨b,o,none⟩/\b<W.heap.size:=fun g=>by
   have U:0<len:=by
    rcases Nat.eq_zero_or_pos len with h|h
    ·exact absurd (List.eq_nil_of_length_eq_zero (m.trans h)) g
    ·exact h
   obtain⟨x,⟨⟨cs,hR,u⟩,_⟩⟩:=key 0 U;have y:=T.len hR;have h1:=u 0 cs[0] (by simp[y,r]);obtain⟨b,o,spot⟩:=a;have:spot=none:=by
    have:=World.cell?_spot h1;simpa[Addr.add]using this
   subst this;refine⟨b,o,rfl,?_⟩;have:=hp (.cell b (o+0)) (by
    simp only[List.mem_append];exact .inl (q 0 (Nat.mul_pos U O')))
   exact this
  subst m;refine⟨xs,⟨some a,cap,rfl,hle,fun g=>?_,fun i x k=>?_⟩,fun x k=>?_⟩
  ·obtain⟨b,o,rfl,J⟩:=c g;exact⟨b,o,rfl,J,fun h=>h⟩
  ·have g:xs≠[]:=by rintro rfl;simp at k
   obtain⟨b,o,rfl,J⟩:=c g;obtain⟨⟨cs,hR,u⟩,_⟩:=n i x k;refine⟨b,o,cs,rfl,hR,fun j v s=>?_⟩;have:=u j v s;rw[n0g,hE]at this;exact this
  ·obtain⟨i,hi⟩:=List.getElem?_of_mem k;exact(n i x hi).2⟩
def D0J {H:Type}{enc:TypeId×Value->H}{W:World}{sp:Nat->Bool}{held:Bool}{fuel:Nat}{cs:List Value}{d:DataW H}{ps:List MemPlace}{fs:Array Field}(l:P.underlying t=some (.struct fs))
  (h:DataW.trod enc P W 0 sp held fuel t cs=some (d,ps)) (hp:∀p∈ps,p.block<W.heap.size):
  cs.length=P.cellsOf t/\∀(i:Nat) (f:Field),fs[i]?=some f->∃n j a,DataW.trod enc P W 0 sp held n f.type ((cs.drop f.offset).take (P.cellsOf f.type))=some (j,a)/\∀p∈a,p.block<W.heap.size:=by
 obtain⟨xs,n,rfl,m,hl,k,b⟩:=DataW.trod_struct l h;cases m;refine⟨hl,fun i f c=>?_⟩;have hi:i<fs.size:=by
  rcases lt_or_ge i fs.size with h|h
  ·exact h
  ·rw[Array.getElem?_eq_none h]at c;cases c
 have:=b i f c;rw[List.getElem?_eq_getElem O']at this;exact⟨n,_,_,this,fun p g=>hp p (List.mem_flatMap.2 ⟨_,List.getElem_mem _,g⟩)⟩
def Rd.field {α:Type}{T:Ty α}{wf:α->Prop}{f:Field}{H:Type}{enc:TypeId×Value->H}{W:World}{sp:Nat->Bool}{held:Bool}{cs:List Value}(R:Rd P f.type T wf)
  (h:∃n b a,DataW.trod enc P W 0 sp held n f.type ((cs.drop f.offset).take (P.cellsOf f.type))=some (b,a)/\∀p∈a,p.block<W.heap.size):
  ∃x,T.R W.heap C3 ((cs.drop f.offset).take (P.cellsOf f.type)) x/\wf x:=by
 obtain⟨n,b,a,h1,c⟩:=h;exact R.get h1 c
def s05 {H:Type}{enc:TypeId×Value->H}(hl:laidOutB P=true){W f:World}(g:Below W.heap.size W f):∀{ts:List TypeId} {vs:List Value} {a:List (DataW H)} {ps:List MemPlace},
  (ts.all fun t=>P.readableRec t&&decide (t<P.types.size))=true->DataW.TrodAll enc P W 0 (fun _=>true) true ts vs a ps->(∀x∈ps,x.block<W.heap.size)->DataW.TrodAll enc P f 0 (fun b=>decide (b<W.heap.size)) true ts vs a ps
 |[],[],[],_,_,h,_=>h
 |[],[],_ :: _,_,_,h,_=>h.elim
 |[],_ :: _,_,_,_,h,_=>h.elim
 |_ :: _,[],_,_,_,h,_=>h.elim
 |_ :: _,_ :: _,[],_,_,h,_=>h.elim
 |t :: ts,v :: vs,d :: a,ps,hr,⟨p,q,h1,h2,e⟩,hp=>by
  simp only[List.all_cons,Bool.and_eq_true,decide_eq_true_eq]at hr;subst e;exact⟨p,q,Below.trod hl hr.1.1 hr.1.2 h1 g (fun x c=>hp x (List.mem_append_left _ c)),s05 hl g hr.2 h2 (fun x c=>hp x (List.mem_append_right _ c)),rfl⟩
def A0X {C:Checked}{os:Os}{f:FuncId}{fn:Func}{s:ChangeSpec}{tb:TypeId}{H:Type}{enc:TypeId×Value->H}(own:ownKnob C.prog.godebug=none)(started:os.Started)(b:C.prog.inits.idxOf? f=none)(r:C.prog.funcs[f]?=some fn)(hl:laidOutB C.prog=true)
  (l:fn.resultTypes=#[tb]) (y:C.prog.underlying tb=some .bool) (d:s.vars=[]) (g:(fn.params.toList.all fun t=>C.prog.readableRec t&&decide (t<C.prog.types.size))=true)
  (witness:∃(w:World) (tape:Tape) (i:Input),w.os=os/\(w.forCall tape i).Shaped C.prog/\i.vars=[]/\Input.okWide C.prog (w.forCall tape i) .any w.heap.size f i/\
   s.pre6 enc C.prog fn [] false (w.forCall tape i).memory i.args/\({}:Assume).holds C.prog (lone (Frame.enter C.prog f i.args .normal) [] (w.forCall tape i)))
  (c:∀(W:World) (args:Array Value) (a:List (DataW H)) (p:List MemPlace),DataW.TrodAll enc C.prog W 0 (fun _=>true) true fn.params.toList args.toList a p->(s.fn H (a++[])).results=[.lit (.bool true)]/\(s.fn H (a++[])).args=a/\(s.fn H (a++[])).vars=[])
  (body:∀(W:World) (base:Nat) (args:Array Value) (a:List (DataW H)) (p:List MemPlace),(∀(j:Nat) t v,fn.params[j]?=some t->args[j]?=some v->Value.okWide C.prog W .any base t v)->
   DataW.TrodAll enc C.prog W 0 (fun _=>true) true fn.params.toList args.toList a p->(∀x∈p,x.block<W.heap.size)->(DataW.weightsEach C.prog fn.params.toList a).all (·<=reachBytes)=true->
   Calls C.prog f args W fun e J=>e=.returned (.bool true)/\Below W.heap.size W J):
  ReturnsInHanded {} C os f .any (s.pre6 enc C.prog fn [] false) (s.post enc C.prog fn false true false false):=by
 refine returnsInHanded_of_change_sized own started b r witness ?_;intro W base args a gs before m R _ k _;have n:=R;obtain⟨p,q,u,I,rfl,_,_⟩:=R;rw[d]at I;obtain⟨rfl,rfl⟩:=trodVars_none I;have o:∀x∈p,x.block<W.heap.size:=fun x hx=>by simpa using n.lt x (List.mem_append_left _ hx)
 have z:s.plain.varTypes C.prog=[]:=by unfold ChangeSpec.plain;simp[DataSpec.varTypes,d]
 rw[z,List.append_nil,List.append_nil]at k;refine(body W base args a p m u o k).mono fun e J ⟨he,hb⟩=>?_;subst he;obtain⟨s1,s2,U⟩:=c W args a p u;refine⟨_,rfl,a,[],p++[],[],p,[],n,?_,?_,?_,hb.frame _,fun h=>by cases h⟩
 ·rw[s1,l];exact trodAll_cons_mk (shut_bool y _) trodAll_mk0
 ·rw[s2];exact s05 hl hb g u o
 ·rw[U,d];rfl
def B0L {H:Type}{enc:TypeId×Value->H}{W:World}{fuel n c:Nat}{A:Option Addr}{d:DataW H}{ps:List MemPlace}{ts:List TypeId}{i:List (DataW H)}{j:Nat}(g:P.underlying t=some (.slice e))
  (h:DataW.trod enc P W 0 (fun _=>true) true fuel t (Value.slice A n c).cells.toList=some (d,ps)) (b:(DataW.weightsEach P ts i).all (·<=reachBytes)=true) (k:ts[j]?=some t) (hd:i[j]?=some d):n*P.bytesOf e<=140737488351232:=by
 rcases DataW.trod_slice g h with⟨he,_⟩|⟨a,len,cap,elems,rest,f,rfl,he,hx,_,hle,_,hel,hget,_,_⟩
 ·simp[Value.cells]at he;rw[he.2.1];omega
 ·cases hx;simp[Value.cells]at he;have:=sized_slice b k hd g;simp only[List.length_map,hel]at this;have m:n*P.bytesOf e<=(len+rest.length)*P.bytesOf e:=Nat.mul_le_mul_right _ O';have l:reachBytes=140737488351232:=rfl;omega
end
