/- P. Its conditions: none. -/
import Derived.Test.YtihmgaccbcfgjaaGreatRG25
import Derived.Test.YtihmgaccbcfgjaaGreatRX16
import Derived.Test.YtihmgaccbcfgjaaGreatRAp
import Derived.Shelf.Strings.Builder1
import Derived.Test.YtihmgaccbcfgjaaGreatProg
import Derived.WalkKit
import Derived.Handy
import Derived.Test.YtihmgaccbcfgjaaGreatRMd
import Derived.Test.YtihmgaccbcfgjaaGreatRG23
import Derived.Test.YtihmgaccbcfgjaaGreatRX17
open Nat (mul_one)
open List (mem_of_getElem? mem_map)
set_option linter.all false
set_option maxRecDepth 100000
namespace Go.Proofs.YtihmgaccbcfgjaaGreat
open Go.RowKit Go.Proofs
open Go.V hiding Row
open Go.X
def A0m {H:I0}{S:D0}{c:List Value}{of:List Int}(h:(J0 en (.list (.int .i64))).R H S c of):∃B d,c=[.slice B of.length d]/\(of≠[]->∃b o,B=some ⟨b,o,none⟩/\b<H.size/\∀k:Nat,k<of.length->O1 H b (o+k)=some (.int .i64 (gt of (k:Int)))):=by
 obtain⟨A,cc,rfl,f⟩:=(show(O4 (J0 en (.int .i64))).R H S c of from h)
 refine⟨A,cc,rfl,fun g=>?_⟩;obtain⟨b,o,rfl,i,_⟩:=f.2.1 g;refine⟨b,o,rfl,i,fun k hk=>?_⟩;have hg:of[k]?=some (gt of (k:Int)):=by rw[X2 (x:=of[k]) (by simp[hk])];simp[hk]
 obtain⟨b',j,cs,e,hR,a⟩:=f.2.2 k (show Int from gt of (k:Int)) hg;cases e;have hR:cs=[.int .i64 (gt of (k:Int))]:=hR;subst hR;have:=a 0 _ rfl;rw[show(J0 en (.int .i64)).sz=1 from rfl,mul_one]at this;exact this
def H0W {w:World}{S:D0}{us pl:List Value}{x:J4 en.D [.X0 22 [3] (.list (.int .i64)),.d (.list (.int .i64))]}(a:E2 en w.heap S [.X0 22 [3] (.list (.int .i64)),.d (.list (.int .i64))] x us pl):
  ∃v cs c2,pl=[v]/\us=[hd v,M3 false c2]/\(hd v).oneCell'=true/\v7 en w.heap S 22 [3] (.list (.int .i64)) (show List (List Int)from x.1) none v cs/\(J0 en (.list (.int .i64))).R w.heap S c2 x.2:=by
 unfold E2 at a;obtain⟨c,u,i,p1,o,rfl,rfl,f,h1,g⟩:=a;unfold E2 at g;obtain⟨c2,l,m,n,p,rfl,rfl,e,b,h⟩:=g;obtain⟨rfl,rfl⟩:=c0e h;unfold SR at h1 b;obtain⟨v,cs,rfl,rfl,k,j⟩:=h1;obtain⟨rfl,b⟩:=b;have f:u=hd v:=f;have e:l=M3 false c2:=e;subst f;subst e;exact⟨v,cs,c2,rfl,rfl,k,j,b⟩
def C0G (F:Nat)(w:World)(S:D0)(v:Value)(cs c2:List Value)(l:List (List Int))(of:List Int)(y:List (List Int))(hm:f06 F l of=some y)
  (ht:v7 en w.heap S 22 [3] (.list (.int .i64)) (show List (List Int)from l) none v cs) (h2:(J0 en (.list (.int .i64))).R w.heap S c2 of) (hS:∀b,S b->b<w.heap.size) (e9:∀k,Bk v k->S k):
  Calls Tryz.prog 207 #[hd v,M3 false c2] w fun e w1=>∃v1 e7,e=.returned (hd v1)/\Below w.heap.size w w1/\v7 en w1.heap (fun k=>S k\/B1 (hd v1)=some k) 22 [3] (.list (.int .i64)) (show List (List Int)from y) none v1 e7/\
   (hd v1).oneCell'=true/\(∀k,B1 (hd v1)=some k->w.heap.size<=k/\k<w1.heap.size)/\∀k,Bk v1 k->Bk v k\/B1 (hd v1)=some k:=by
 obtain⟨B,d,rfl,hB⟩:=A0m h2;unfold f06 at hm;split at hm
 rotate_left
 ·cases hm
 rename_i b3;cases hm;simp only[Bool.and_eq_true,List.all_eq_true]at b3;obtain⟨c0,e6,b3⟩:=b3;have hlen:of.length<=5864062014805:=by simp[K0]at b3;omega
 have I:∀i∈of,0<=i/\i<(l.length:Int):=fun i hi=>a0o (e6 i hi);have b1:Row w.heap 22 1 (hd v) l.length cs:=ht.row;have e2:cs.length=l.length:=by have:=b1.1;omega
 have c3:tl v=cs:=ht.tl;have c5:M7 en w.heap S [3] (.list (.int .i64)) l cs:=⟨ht.sz,fun i x f u ys e' h1 h2 n=>ht.rows i x f u ys e' h1 h2 n Z',ht.one⟩
 have z:=c5.live ht.ok;obtain⟨A,cc,hv⟩:=b1.form;have c8:∀k:Nat,k<l.length->∃r,cs[k]?=some r/\E5 en w.heap S 3 (.int .i64) (gt l (k:Int)) r:=fun k hk=>by
  have hg:l[k]?=some (gt l (k:Int)):=by rw[X2 (x:=l[k]) (by simp[hk])];simp[hk]
  obtain⟨r,n,t⟩:=c5.rows k (show List Int from gt l (k:Int)) 0 (.int .i64) (show List Int from gt l (k:Int)) 3 hg rfl rfl;refine⟨r,?_,t⟩;have:Go.X.rowAt [3] k 0=k:=by simp[Go.X.rowAt]
  rw[this]at n;exact n
 have e5:∀u∈cs,∃a m c,u=.slice a m c:=fun u hu=>by
  obtain⟨p,hp⟩:=List.getElem?_of_mem hu;have b4:p<l.length:=by rw[<-e2];exact(List.getElem?_eq_some_iff.1 hp).1
  obtain⟨r,n,h6,t,_⟩:=c8 p b4;rw[hp]at n;cases n;obtain⟨a,c,h5⟩:=t.form;exact⟨a,_,c,h5⟩
 have hA:cs≠[]->∃b,A=some ⟨b,0,none⟩/\b<w.heap.size/\∀k:Nat,k<cs.length->O1 w.heap b k=some (cs.getD k (.int .i64 0)):=fun c6=>by
  rcases b1.2 with⟨h0,_⟩|⟨g,cap,cur,n,hp,hg,hn,_,hz,htk⟩
  ·exact absurd (List.eq_nil_of_length_eq_zero O') c6
  ·rw[hv]at n;cases n;refine⟨g,rfl,getElem?_lt hg,fun k hk=>?_⟩;unfold O1;rw[hg];have t:(cur.toList.take (l.length*1))[k]?=cs[k]?:=by rw[htk]
   rw[mul_one,List.getElem?_take_of_lt O']at t;simp only[<-Array.getElem?_toList,t,List.getD_eq_getElem?_getD,List.getElem?_eq_getElem hk];rfl
 have U:=E00 cs of A B cc d w e5 hA hB (fun i hi=>by have:=I i hi;omega) hlen;rw[e2]at U;rw[hv];refine U.mono ?_
 rintro e w1 ⟨v',rfl,hown,hb⟩
 have C:Row w1.heap 22 1 v' of.length (of.map (rowOf cs)):=Row.of hown;have J:∀k,B1 v'=some k->w.heap.size<=k/\k<w1.heap.size:=fun k hk=>by
  refine⟨?_,C.live k hk⟩;rcases hown.2 with⟨rfl,_⟩|⟨g,cap,cur,rfl,n,_⟩
  ·cases hk
  ·obtain⟨_,rfl⟩:=d0S hk;exact n
 have kp:P0 w.heap S w1.heap (fun k=>S k\/B1 v'=some k):=⟨hb.size,fun b b5 hn=>⟨fun h=>h.elim hn (fun h=>by have:=(J b h).1;omega),hb.block b b5⟩⟩
 have b2:∀(i:Nat) (q:Int),of[i]?=some q->(of.map (rowOf cs))[i]?=some (rowOf cs q)/\cs[q.toNat]?=some (rowOf cs q)/\q.toNat<l.length:=fun i q s=>by
  obtain⟨q0,q1⟩:=I q (mem_of_getElem? s);have b4:q.toNat<cs.length:=O'
  refine⟨by rw[List.getElem?_map,s];rfl,?_,O'⟩;rw[List.getElem?_eq_getElem b4];simp[rowOf,List.getElem?_eq_getElem b4]
 have e1:M7 en w1.heap (fun k=>S k\/B1 v'=some k) [3] (.list (.int .i64)) (show List (List Int)from of.map fun i=>gt l i) (of.map (rowOf cs)):=by
  refine⟨?_,fun i x f u ys e' n t h5=>?_,fun u hu=>?_⟩
  ·show(of.map (rowOf cs)).length=(of.map fun i=>gt l i).length*1;simp
  ·have n:(of.map fun i=>gt l i)[i]?=some (show List Int from x):=n;rw[List.getElem?_map]at n;cases s:of[i]? with
   |none=>rw[s]at n;cases n
   |some q=>
    rw[s]at n;cases n;obtain⟨g1,g2,g3⟩:=b2 i q s;obtain⟨q0,q1⟩:=I q (mem_of_getElem? s);have hf:f=0:=by
     cases f with
     |zero=>rfl
     |succ f=>simp at h5
    subst hf;have hg:l[q.toNat]?=some (gt l q):=by
     obtain⟨m,rfl⟩:∃m:Nat,q=m:=⟨q.toNat,O'⟩
     have hm:m<l.length:=O'
     rw[X2 (x:=l[m]) (by simp[hm])];simp[hm]
    obtain⟨r,r1,r2⟩:=c5.rows q.toNat _ 0 u ys e' hg t h5;rw[show Go.X.rowAt [3] q.toNat 0=q.toNat from by simp[Go.X.rowAt],g2]at r1;cases r1;refine⟨_,by rw[show Go.X.rowAt [3] i 0=i from by simp[Go.X.rowAt]];exact g1,r2.mono kp fun b b5=>hb.block b ?_⟩;exact z _ (mem_of_getElem? g2) b b5
  ·obtain⟨q,s,rfl⟩:=mem_map.1 hu;obtain⟨i,hi⟩:=List.getElem?_of_mem s;exact ht.one _ (mem_of_getElem? (b2 i q hi).2.1)
 have e4:∀u∈of.map (rowOf cs),u∈cs:=fun u hu=>by
  obtain⟨q,s,rfl⟩:=mem_map.1 hu;obtain⟨i,hi⟩:=List.getElem?_of_mem s;exact mem_of_getElem? (b2 i q hi).2.1
 have c6:∀(i j:Nat) (p q:Int),i≠j->of[i]?=some p->of[j]?=some q->p≠q:=by
  have hp:=(h04 (fun i:Int=>i) of).1 c0;have key:∀(i j:Nat) (p q:Int),i<j->of[i]?=some p->of[j]?=some q->p≠q:=fun i j p q a1 n t=>by
   obtain⟨i1,rfl⟩:=List.getElem?_eq_some_iff.1 n;obtain⟨j1,rfl⟩:=List.getElem?_eq_some_iff.1 t;exact List.pairwise_iff_getElem.1 hp i j i1 j1 a1
  intro i j p q a1 n t;rcases Nat.lt_or_gt_of_ne a1 with h|h
  ·exact key i j p q h n t
  ·exact(key j i q p h t n).symm
 have e3:d07 (v' :: of.map (rowOf cs)):=by
  intro i j x x' a1 n t k hk c4;have o:∀(i:Nat) (x:Value),(v' :: of.map (rowOf cs))[i+1]?=some x->∃p,of[i]?=some p/\cs[p.toNat]?=some x/\p.toNat<l.length/\0<=p:=fun i x h=>by
   rw[List.getElem?_cons_succ,List.getElem?_map]at h;cases s:of[i]? with
   |none=>rw[s]at h;cases h
   |some q=>
    rw[s]at h;cases h;exact⟨q,rfl,(b2 i q s).2.1,(b2 i q s).2.2,(I q (mem_of_getElem? s)).1⟩
  match i,j with
  |0,0=>exact a1 rfl
  |0,j+1=>
   obtain⟨p,_,p2,_⟩:=o j x' t;cases n;have:=z _ (mem_of_getElem? p2) k c4;have:=(J k hk).1;omega
  |i+1,0=>
   obtain⟨p,_,p2,_⟩:=o i x n;cases t;have:=z _ (mem_of_getElem? p2) k hk;have:=(J k c4).1;omega
  |i+1,j+1=>
   obtain⟨p,p1,p2,_,p4⟩:=o i x n;obtain⟨q,q1,q2,_,q4⟩:=o j x' t;have:=c6 i j p q O' p1 q1;refine ht.ap (p.toNat+1) (q.toNat+1) x x' O' ?_ ?_ k hk c4
   ·rw[c3];exact p2
   ·rw[c3];exact q2
 refine⟨.tuple (v' :: of.map (rowOf cs)).toArray,of.map (rowOf cs),rfl,hb,v7.of ?_ ht.ok e1 e3,?_,J,?_⟩
 ·show Row w1.heap 22 1 v' (of.map fun i=>gt l i).length _;rw[List.length_map];exact C
 ·obtain⟨a,c,n⟩:=C.form;show v'.oneCell'=true;rw[n];rfl
 ·rintro k ⟨u,hu,hk⟩
  have hu:u∈v' :: of.map (rowOf cs):=hu;rcases List.mem_cons.1 hu with rfl|hu
  ·exact .inr hk
  ·exact .inl (Bk.tl (by rw[c3];exact e4 u hu) hk)
def z0j (F:Nat):U0 en (n0s F):=by
 intro w S us pl x y hm d m l o;obtain⟨v,cs,c2,rfl,rfl,h1,n,f⟩:=H0W d;have a:∀k,Bk v k->S k:=fun k hk=>l k ⟨v,Z',hk⟩;refine(C0G F w S v cs c2 x.1 x.2 y hm n f m a).mono ?_
 rintro e w1 ⟨v1,cs1,rfl,hb,ht1,hone,hnew,hbk1⟩
 refine⟨hd v1,fun k=>S k\/B1 (hd v1)=some k,[v1],rfl,?_,⟨hb.os,hb.tape,hb.output,hb.size,fun k hk _=>hb.block k hk⟩,⟨hb.size,fun b c hn=>⟨fun h=>h.elim hn (fun h=>by have:=(hnew b h).1;omega),hb.block b c⟩⟩,fun b h _=>.inl h,fun b h=>?_,?_,?_⟩
 ·refine U9 (x:=.X0 22 [3] (.list (.int .i64))) (r:=[]) ⟨[hd v1],hd v1,[],[v1],[],rfl,rfl,rfl,?_,a0M⟩;unfold SR;exact⟨v1,cs1,rfl,rfl,hone,ht1⟩
 ·rcases h with h|h
  ·exact Nat.lt_of_lt_of_le (m b h) hb.size
  ·exact(hnew b h).2
 ·intro i j v1 v2 g h1 f;have e:∀{q:Nat} {z:Value} {s:Value},[s][q]?=some z->q=0:=fun {q z s} h=>by
   cases q with
   |zero=>rfl
   |succ q=>simp at h
  exact absurd ((e h1).trans (e f).symm) g
 ·rintro b ⟨u,hu,hb1⟩
  simp only[List.mem_singleton]at hu;subst hu;rcases hbk1 b hb1 with h|h
  ·exact⟨.inl (a b h),.inl ⟨v,Z',h⟩⟩
  ·exact⟨.inr h,.inr (hnew b h).1⟩
def A0h {E:Env}{H:I0}{S:D0}{cs:List Value}{y:List Int}(he:R1 (J0 E (.int .i64)) H S cs y){i:Nat}(hi:i<y.length):cs[i]?=some (.int .i64 (y.getD i 0)):=by
 have h1:=he.2 i (y.getD i 0) (by rw[show y.getD i 0=y[i]from by simp[List.getD,hi]];exact List.getElem?_eq_getElem hi);have h1:(cs.drop (i*1)).take 1=[.int .i64 (y.getD i 0)]:=h1;rw[mul_one]at h1;have:=congrArg (fun l=>l[0]?) h1;simpa using this
def x01 {E:Env}{H:I0}{S:D0}{cs:List Value}{y:List Int}(hl:cs.length=y.length)(h:∀i,i<y.length->cs[i]?=some (.int .i64 (y.getD i 0))):R1 (J0 E (.int .i64)) H S cs y:=by
 refine⟨by rw[hl];exact(mul_one _).symm,fun i (x:Int) hx=>?_⟩;have hi:i<y.length:=(List.getElem?_eq_some_iff.1 hx).1;have b:y.getD i 0=x:=by
  have c:@Eq (Option Int) y[i]? (some x):=hx;rw[List.getD_eq_getElem?_getD,c];rfl
 have d:=h i hi;rw[b]at d;show(cs.drop (i*1)).take 1=[.int .i64 x];rw[mul_one];have a:i<cs.length:=O'
 rw[List.drop_eq_getElem_cons a];rw[List.getElem?_eq_getElem a]at d;rw[Option.some.inj d];rfl
def x05 {F:Nat}(h:U0 en (i0Z F)){w:World}{S:D0}{l y:List Int}{c:List Value}(hm:j0u F l=some y)(hl:(J0 en (.list (.int .i64))).R w.heap S c l)(hS:∀b,S b->b<w.heap.size):
  Calls en.P 99 #[M3 false c] w fun e w1=>∃v,e=.returned v/\(∃ao cap,v=.slice ao y.length cap)/\X7 w v y w1/\(∀k,B1 v=some k->w.heap.size<=k)/\∀k,k<w.heap.size->w1.heap[k]?=w.heap[k]?:=by
 have t:E2 en w.heap S [.d (.list (.int .i64))] l [M3 false c] []:=by
  refine U9 (x:=.d (.list (.int .i64))) (r:=[]) ⟨c,M3 false c,[],[],[],rfl,rfl,rfl,?_,a0M⟩;unfold SR;exact⟨rfl,hl⟩
 refine(h w S [M3 false c] [] l y hm t hS (by rintro b ⟨v,s,_⟩;simp at s) (by intro i j v v' _ s;simp at s)).mono ?_
 rintro e w1 ⟨v,S1,pl1,rfl,n,hb,hk,hs1,hs2,hap,hbl⟩
 have n:E2 en w1.heap S1 [.own 3 (.int .i64)] y [v] pl1:=n;unfold E2 at n;obtain⟨c1,u,b2,p1,p2,e0,rfl,C,h1,p⟩:=n;cases e0;obtain⟨_,rfl⟩:=c0e p;unfold SR at h1;obtain⟨v1,cs,rfl,rfl,h5,m,z⟩:=h1;have C:v=v1:=C;subst C;have f:∀k,k<w.heap.size->w1.heap[k]?=w.heap[k]?:=fun k hk=>hb.block k hk (by rintro⟨v,s,_⟩;simp at s);have I:∀k,B1 v=some k->w.heap.size<=k:=fun k hk=>by
  have a1:Bk v k:=by
   obtain⟨A,cc,J⟩:=Row.form m;rw[J]at hk ⊢;exact hk
  rcases(hbl k ⟨v,Z',a1⟩).2 with⟨v2,b1,_⟩|h
  ·simp at b1
  ·exact h
 refine⟨v,rfl,Row.form m,⟨hb.os,hb.tape,hb.output,hb.size,fun k hk _=>f k hk,?_⟩,I,f⟩;obtain⟨h0,⟨h1,a,rfl⟩|⟨g,cap,cur,rfl,hc,hg,hn,U,hz,ht⟩⟩:=m
 ·exact .inl ⟨List.eq_nil_of_length_eq_zero h1,a,rfl⟩
 ·obtain⟨o,rfl⟩:∃q,cap=q+1:=⟨cap-1,O'⟩
  refine .inr ⟨g,o,cur,rfl,hg,?_,hn,U,fun i hi=>?_⟩
  ·have hz:cur.size=(o+1)*1:=hz;omega
  ·have p:=A0h z hi;have hl:(cur.toList.take (y.length*1))=cs:=ht;rw[mul_one]at hl;have p:cs[i]?=some (.int .i64 (y.getD i 0)):=p;rw[<-hl,List.getElem?_take_of_lt hi]at p;rw[<-p];simp
def H0r {H:I0}{S:D0}{c:List Value}{marks:List J2}(h:(J0 en (.list (.st 12))).R H S c marks):∃A cc,c=[.slice A marks.length cc]/\(marks≠[]->∃b o,A=some ⟨b,o,none⟩/\b<H.size/\∀k:Nat,k<marks.length->O1 H b (o+k*2)=some (.int .i64 (gt marks (k:Int)).Kind)/\O1 H b (o+k*2+1)=some (.int .i64 (gt marks (k:Int)).Group)):=by
 obtain⟨A,cc,rfl,d⟩:=(show(O4 (J0 en (.st 12))).R H S c marks from h)
 refine⟨A,cc,rfl,fun f=>?_⟩;obtain⟨b,o,rfl,n,_⟩:=d.2.1 f;refine⟨b,o,rfl,n,fun k hk=>?_⟩;have hg:marks[k]?=some (gt marks (k:Int)):=by rw[X2 (x:=marks[k]) (by simp[hk])];simp[hk]
 obtain⟨b',p,cs,e,hR,a⟩:=d.2.2 k (show J2 from gt marks (k:Int)) hg;cases e;have l:cs=[.int .i64 (gt marks (k:Int)).Kind,.int .i64 (gt marks (k:Int)).Group]:=by
  have m:=(f0Q 12 H S cs (show J2 from gt marks (k:Int))).1 hR;obtain⟨c1,c2,rfl,i,c3,c4,rfl,g,j⟩:=m;have i:c1=[.int .i64 (gt marks (k:Int)).Kind]:=i;have g:c3=[.int .i64 (gt marks (k:Int)).Group]:=g;have j:c4=[]:=j;rw[i,g,j];rfl
 subst l;exact⟨a 0 _ rfl,a 1 _ rfl⟩
def D0P {w:World}{S:D0}{us pl:List Value}{x:J4 en.D [.d (.list (.int .i64)),.d (.list (.st 12)),.d (.int .i64),.d (.int .i64)]}(e:E2 en w.heap S [.d (.list (.int .i64)),.d (.list (.st 12)),.d (.int .i64),.d (.int .i64)] x us pl):
  pl=[]/\∃c c2,us=[M3 false c,M3 false c2,.int .i64 (show Int from x.2.2.1),.int .i64 (show Int from x.2.2.2)]/\(J0 en (.list (.int .i64))).R w.heap S c x.1/\(J0 en (.list (.st 12))).R w.heap S c2 x.2.1:=by
 skip
 unfold E2 at e;obtain⟨c,u,s,p1,U,rfl,rfl,g,h1,m⟩:=e;unfold E2 at m;obtain⟨c2,v,p,y,p4,rfl,rfl,i,f,k⟩:=m;unfold E2 at k;obtain⟨c3,o,n,J,I,rfl,rfl,j,b,l⟩:=k;unfold E2 at l;obtain⟨c4,r,q,z,C,rfl,rfl,h,a,t⟩:=l;obtain⟨rfl,rfl⟩:=c0e t;unfold SR at h1 f b a;obtain⟨rfl,h1⟩:=h1;obtain⟨rfl,f⟩:=f;obtain⟨rfl,b⟩:=b;obtain⟨rfl,a⟩:=a;have b:c3=[.int .i64 (show Int from x.2.2.1)]:=b;have a:c4=[.int .i64 (show Int from x.2.2.2)]:=a;subst b;subst a;have g:u=M3 false c:=g;have i:v=M3 false c2:=i;have j:o=.int .i64 (show Int from x.2.2.1):=j;have h:r=.int .i64 (show Int from x.2.2.2):=h;subst g;subst i;subst j;subst h;exact⟨rfl,c,c2,rfl,h1,f⟩
def z0F (F:Nat)(h:U0 en (i0Z F))(w:World)(S:D0)(c c2:List Value)(tags:List Int)(marks:List J2)(now nn:Int)(y:List Int)(hm:d0G F tags marks now nn=some y)
  (h1:(J0 en (.list (.int .i64))).R w.heap S c tags) (l:(J0 en (.list (.st 12))).R w.heap S c2 marks) (i:∀b,S b->b<w.heap.size):
  Calls Tryz.prog 153 #[M3 false c,M3 false c2,.int .i64 now,.int .i64 nn] w fun e w1=>∃v,e=.returned v/\X7 w v y w1/\(∀k,B1 v=some k->w.heap.size<=k)/\∀k,k<w.heap.size->w1.heap[k]?=w.heap[k]?:=by
 obtain⟨A,cc,rfl,f⟩:=H0r l;unfold d0G at hm;split at hm
 rotate_left
 ·cases hm
 rename_i a;cases hm;simp only[Bool.and_eq_true,decide_eq_true_eq]at a;obtain⟨d,m⟩:=a;have g:tags.length<=20000000000000:=by simp[K0]at d;omega
 have j:j0u F tags=some tags:=by unfold j0u;rw[if_pos d]
 exact I0F (M3 false c) tags marks now nn A cc w (x05 h j h1 i) f O' g
def x0i {w W:World}{v:Value}{o:List Int}(h:X7 w v o W){E:Env}{S:D0}:∃cs,Row W.heap 3 1 v o.length cs/\R1 (J0 E (.int .i64)) W.heap S cs o/\∃a c,v=.slice a o.length c:=by
 rcases h.own with⟨rfl,a,rfl⟩|⟨g,cap,cur,rfl,hg,hs,hn,hm,hc⟩
 ·exact⟨[],⟨rfl,.inl ⟨rfl,a,rfl⟩⟩,R1.nil,a,0,rfl⟩
 ·refine⟨cur.toList.take o.length,⟨V',.inr ⟨g,cap+1,cur,rfl,O',hg,hn,hm,O',by rw[mul_one]⟩⟩,x01 V' (fun i hi=>?_),_,_,rfl⟩;rw[List.getElem?_take_of_lt hi];simpa using hc i hi
def H0U (F:Nat)(o:U0 en (i0Z F)):U0 en (k0G F):=by
 intro w S us pl x y hm n u I C;obtain⟨rfl,c,c2,rfl,h1,p⟩:=D0P n;refine(z0F F o w S c c2 x.1 x.2.1 x.2.2.1 x.2.2.2 y hm h1 p u).mono ?_
 rintro e w1 ⟨v,rfl,hI,hge,hbl⟩
 obtain⟨cs,d,l,a,cc,t⟩:=x0i (E:=en) (S:=fun k=>S k\/B1 v=some k) hI;have g:∀k,Bk v k->B1 v=some k:=fun k hk=>by rw[t]at hk ⊢;exact hk
 have f:v.oneCell'=true:=by rw[t];rfl
 refine⟨v,fun k=>S k\/B1 v=some k,[v],rfl,?_,⟨hI.os,hI.tape,hI.output,hI.size,fun k hk _=>hbl k hk⟩,⟨hI.size,fun b m hn=>⟨fun h=>h.elim hn (fun h=>by have:=hge b h;omega),hbl b m⟩⟩,fun b h _=>.inl h,fun b h=>?_,?_,?_⟩
 ·refine U9 (x:=.own 3 (.int .i64)) (r:=[]) ⟨[v],v,[],[v],[],rfl,rfl,rfl,?_,a0M⟩;unfold SR;exact⟨v,cs,rfl,rfl,f,d,l⟩
 ·rcases h with h|h
  ·exact Nat.lt_of_lt_of_le (u b h) hI.size
  ·exact d.live b h
 ·intro i j v1 v2 s h1 p;have e:∀{q:Nat} {z:Value},[v][q]?=some z->q=0:=fun {q z} h=>by
   cases q with
   |zero=>rfl
   |succ q=>simp at h
  exact absurd ((e h1).trans (e p).symm) s
 ·rintro b ⟨v1,hv1,hb1⟩
  simp only[List.mem_singleton]at hv1;subst hv1;exact⟨.inr (g b hb1),.inr (hge b (g b hb1))⟩
end Go.Proofs.YtihmgaccbcfgjaaGreat
namespace Go.Proofs
open Go.Shelf
def Tryz.v0T:Go.Shelf.Ren:=⟨fun|169=>170|n=>n,fun|70=>211|9=>9|0=>0|72=>213|37=>43|127=>240|3=>3|5=>5|n=>n,fun|n=>n⟩
def Tryz.G0O:Go.Proofs.Lays.n169 Tryz.prog Tryz.v0T:={
 mixed:=X'
 f169:=Tryz.func170.trans (congrArg some X')
 t0:=Tryz.underlying0
 a0:=Tryz.isAgg0
 z0:=Tryz.sizeOf0
 v0:=Tryz.zeroValue0
 t3:=Tryz.underlying3
 a3:=Tryz.isAgg3
 z3:=Tryz.sizeOf3
 v3:=Tryz.zeroValue3
 t9:=Tryz.underlying9
 a9:=Tryz.isAgg9
 z9:=Tryz.sizeOf9
 v9:=Tryz.zeroValue9
 t37:=Tryz.underlying43
 a37:=Tryz.isAgg43
 z37:=Tryz.sizeOf43
 v37:=Tryz.zeroValue43
 t70:=Tryz.underlying211
 a70:=Tryz.isAgg211
 z70:=Tryz.sizeOf211
 v70:=Tryz.zeroValue211
 t72:=Tryz.underlying213
 a72:=Tryz.isAgg213
 z72:=Tryz.sizeOf213
 v72:=Tryz.zeroValue213
 t127:=Tryz.underlying240
 a127:=Tryz.isAgg240
 z127:=Tryz.sizeOf240
 v127:=Tryz.zeroValue240 }
def Tryz.H0T:Builder.Extra Tryz.prog Tryz.v0T:={
 sizeBuilder:=X'
 liesBuilder:=X'
 t5:=Tryz.underlying5
 a5:=Tryz.isAgg5
 z5:=Tryz.sizeOf5
 v5:=Tryz.zeroValue5
 infoByte:=X'
 cellsByte:=X'
 sizeByte:=X'
 neB5:=by decide }
open Go.RowKit in
def Tryz.Builder_String_any (B b:Nat)(l:List UInt8)(w:World)(h:Lib.IsBuilder 213 5 B b (Lib.byteCells l) w)(a:B<=w.heap.size):
 Calls Tryz.prog 170 #[.pointer (some ⟨b,0,none⟩)] w fun e w'=>e=.returned (.string ⟨l.toArray⟩)/\Below B w w':=Any.Builder_String_any Tryz.G0O Tryz.H0T B b l w h a
end Go.Proofs
set_option maxRecDepth 100000
namespace Go.Proofs.YtihmgaccbcfgjaaGreat
open Go.RowKit Go.Proofs
def sizeBuilder:(Tryz.prog.info? 213).map (·.size)=some 2:=X'
def infoByte:(Tryz.prog.info? 5).map (fun i=>(i.zero,i.size,i.bytes))=some (some (.int .u8 0),1,1):=X'
set_option maxHeartbeats 1000000 in
def H01 (b:Nat)(w:World)(c:w.cell? ⟨b,0,none⟩=some (.pointer (some ⟨b,0,none⟩))):
  Calls Tryz.prog 188 #[.pointer (some ⟨b,0,none⟩)] w fun e w'=>e=.returned (.tuple #[])/\w'=w:=by
 obtain⟨j,a,_⟩:=Option.map_eq_some_iff.1 sizeBuilder
 go_enter Tryz.func188,Tryz.ntmps188
 go_wp2
 rw[Lib.run_neq_ptr_same w _ Tryz.underlying211 a]
 go_wp2
 go_end0
 exact⟨rfl,rfl⟩
set_option maxHeartbeats 1000000 in
def y0T (b:Nat)(w:World)(g:w.cell? ⟨b,0,none⟩=some (.pointer none))(a:w.shape? b=some (213,2))(f:w.frozen? ⟨b,0,none⟩=false):
  Calls Tryz.prog 188 #[.pointer (some ⟨b,0,none⟩)] w fun e w'=>e=.returned (.tuple #[])/\w'=w.setCell ⟨b,0,none⟩ (.pointer (some ⟨b,0,none⟩)):=by
 obtain⟨j,d,c⟩:=Option.map_eq_some_iff.1 sizeBuilder
 go_enter Tryz.func188,Tryz.ntmps188
 go_wp2
 rw[Lib.run_to_unsafe w ⟨b,0,none⟩ Tryz.underlying211 Tryz.underlying261 d (by rw[c];decide) a (Nat.zero_lt_succ 1)];simp only[Result.andThen];rw[Oper.upon_value]
 go_wp2
 rw[run_callFunc_extern Tryz.func209 X' X' X' (e:=Extern.AbiNoEscape.same) X'];rw[Lib.run_noEscape];simp only[Result.andThen];rw[Oper.upon_value]
 go_wp2
 rw[Lib.run_from_unsafe w ⟨b,0,none⟩ Tryz.underlying261 Tryz.underlying211 d a X'];simp only[Result.andThen];rw[Oper.upon_value]
 go_wp2
 go_end0
 exact⟨rfl,rfl⟩
def F0Z (B b:Nat)(a:List Value)(w:World)(h:Lib.IsBuilder 213 5 B b a w):
  Calls Tryz.prog 188 #[.pointer (some ⟨b,0,none⟩)] w fun e w'=>e=.returned (.tuple #[])/\(Lib.BuilderAt 213 5 B b (.pointer (some ⟨b,0,none⟩)) a w'/\Below B w w'):=by
 rcases h with h|h
 ·refine(y0T b w h.cell0 h.shape h.frozen0).mono ?_
  rintro e w' ⟨rfl,rfl⟩
  exact⟨rfl,h.used _,(Below.refl B w).setCell (p:=⟨b,0,none⟩) h.1 _⟩
 ·refine(H01 b w h.cell0).mono ?_
  rintro e w' ⟨rfl,rfl⟩
  exact⟨rfl,h,Below.refl B _⟩
set_option maxHeartbeats 2000000 in
def v0Z (B b:Nat)(m:List Value)(c:Int)(w:World)(h:Lib.IsBuilder 213 5 B b m w)(hlen:m.length+1<=140737488355328)(z:B<=w.heap.size):
  Calls Tryz.prog 169 #[.pointer (some ⟨b,0,none⟩),.int .u8 c] w fun e w'=>e=.returned .nilIface/\(Lib.BuilderAt 213 5 B b (.pointer (some ⟨b,0,none⟩)) (m++[.int .u8 c]) w'/\Below B w w'):=by
 obtain⟨i0,hi,x,q,t⟩:=info_parts infoByte
 go_enter Tryz.func169,Tryz.ntmps169
 go_wp2_with (go_at_call 188;refine(F0Z B b m _ h).mono ?_)
 rintro e w1 ⟨rfl,h1,hb1⟩
 obtain⟨y,v,i,l,s⟩:=h1;have J:w1.cell? ⟨b,0,none⟩=some (.pointer (some ⟨b,0,none⟩)):=by rw[Lib.cell_of_heap i];rfl
 have c1:w1.cell? ⟨b,1,none⟩=some v:=by rw[Lib.cell_of_heap i];rfl
 go_wp2_with (at_builtin;refine wpList_append_own _ rfl _ _ 43 rfl B 5 i0 (.int .u8 0) 1 1 Tryz.underlying43 hi x q t rfl (by decide) _ _ _ rfl (l.alloc _) ⟨w1.heap.size,0,none⟩ 1 1 [.int .u8 c] rfl rfl ?c1 ?c2 ?c3 ?c4 ?c5 ?_)
 case c1=>
  intro j u n
  match j,n with
  |0,n=>simp at n;subst n;simp[Addr.add]
 case c2=>intro u hu;simp at hu;subst hu;rfl
 case c3=>unfold maxLen;omega
 case c4=>omega
 case c5=>have:=hb1.size;simp;omega
 intro C o d a _;have r:b<w1.heap.size:=by
  rcases Nat.lt_or_ge b w1.heap.size with h'|h'
  ·exact h'
  ·simp[Array.getElem?_eq_none h']at i
 have f:o.heap[b]?=some (.cells #[.pointer (some ⟨b,0,none⟩),v] 213 (0,0)):=by
  rw[a.block b V' (fun e=>s e.symm),Lib.alloc_old w1 _ b r];exact i
 have d0:o.cell? ⟨b,0,none⟩=some (.pointer (some ⟨b,0,none⟩)):=by rw[Lib.cell_of_heap f];rfl
 have d1:o.cell? ⟨b,1,none⟩=some v:=by rw[Lib.cell_of_heap f];rfl
 have f1:o.frozen? ⟨b,1,none⟩=false:=Lib.frozen_of_heap f 1;obtain⟨g,cap,rfl⟩:∃g cap,C=.slice (some ⟨g,0,none⟩) (m.length+1) cap:=by
  rcases d.2 with⟨_,I⟩|⟨g,cap,cur,hv,_⟩
  ·omega
  ·exact⟨g,cap,hv⟩
 go_wp2
 go_ret
 refine⟨rfl,?_,?_⟩
 ·exact Lib.BuilderAt.put (T:=213) (e:=5) y f (bs':=m++[.int .u8 c]) (by simpa using d) (by decide)
 ·exact((hb1.alloc (by have:=hb1.size;omega) _).grown a (by have:=hb1.size;simp;omega) (fun k hk=>(l.lt k hk).1)).setCell (p:=⟨b,1,none⟩) y _
