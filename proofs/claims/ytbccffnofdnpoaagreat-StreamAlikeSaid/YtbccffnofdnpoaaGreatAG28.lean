/- P. Its conditions: none. -/
import Derived.Test.YtbccffnofdnpoaaGreatAG26
import Derived.Test.YtbccffnofdnpoaaGreatAX16
import Derived.Test.YtbccffnofdnpoaaGreatAAp
import Derived.Shelf.Strings.Builder1
import Derived.Test.YtbccffnofdnpoaaGreatProg
import Derived.WalkKit
import Derived.Handy
import Derived.Test.YtbccffnofdnpoaaGreatAMd
import Derived.Test.YtbccffnofdnpoaaGreatAG24
import Derived.Test.YtbccffnofdnpoaaGreatAX17
open Nat (mul_one)
open List (mem_of_getElem? mem_map)
set_option linter.all false
set_option maxRecDepth 100000
namespace Go.Proofs.YtbccffnofdnpoaaGreat
open Go.RowKit Go.Proofs
open Go.V hiding Row
open Go.X
def A0I {H:M0}{S:E0}{c:List Value}{of:List Int}(h:(L0 en (.list (.int .i64))).R H S c of):∃B d,c=[.slice B of.length d]/\(of≠[]->∃b o,B=some ⟨b,o,none⟩/\b<H.size/\∀k:Nat,k<of.length->D2 H b (o+k)=some (.int .i64 (gt of (k:Int)))):=by
 obtain⟨A,i,rfl,f⟩:=(show(I3 (L0 en (.int .i64))).R H S c of from h)
 refine⟨A,i,rfl,fun g=>?_⟩;obtain⟨b,o,rfl,j,_⟩:=f.2.1 g;refine⟨b,o,rfl,j,fun k hk=>?_⟩;have hg:of[k]?=some (gt of (k:Int)):=by rw[P2 (x:=of[k]) (by simp[hk])];simp[hk]
 obtain⟨b',l,cs,e,hR,a⟩:=f.2.2 k (show Int from gt of (k:Int)) hg;cases e;have hR:cs=[.int .i64 (gt of (k:Int))]:=hR;subst hR;have:=a 0 _ rfl;rw[show(L0 en (.int .i64)).sz=1 from rfl,mul_one]at this;exact this
def C0B {w:World}{S:E0}{us pl:List Value}{x:F5 en.D [.G1 27 [3] (.list (.int .i64)),.d (.list (.int .i64))]}(a:G3 en w.heap S [.G1 27 [3] (.list (.int .i64)),.d (.list (.int .i64))] x us pl):
  ∃v cs c2,pl=[v]/\us=[hd v,O4 false c2]/\(hd v).oneCell'=true/\N7 en w.heap S 27 [3] (.list (.int .i64)) (show List (List Int)from x.1) none v cs/\(L0 en (.list (.int .i64))).R w.heap S c2 x.2:=by
 unfold G3 at a;obtain⟨c,u,m,p1,p,rfl,rfl,f,h1,g⟩:=a;unfold G3 at g;obtain⟨c2,h,j,n,o,rfl,rfl,e,b,i⟩:=g;obtain⟨rfl,rfl⟩:=c0y i;unfold SR at h1 b;obtain⟨v,cs,rfl,rfl,k,l⟩:=h1;obtain⟨rfl,b⟩:=b;have f:u=hd v:=f;have e:h=O4 false c2:=e;subst f;subst e;exact⟨v,cs,c2,rfl,rfl,k,l,b⟩
def O0U (F:Nat)(w:World)(S:E0)(v:Value)(cs c2:List Value)(l:List (List Int))(of:List Int)(y:List (List Int))(hm:g0S F l of=some y)
  (ht:N7 en w.heap S 27 [3] (.list (.int .i64)) (show List (List Int)from l) none v cs) (h2:(L0 en (.list (.int .i64))).R w.heap S c2 of) (hS:∀b,S b->b<w.heap.size) (h6:∀k,Bk v k->S k):
  Calls Tryz.prog 141 #[hd v,O4 false c2] w fun e w1=>∃v1 e7,e=.returned (hd v1)/\Below w.heap.size w w1/\N7 en w1.heap (fun k=>S k\/D1 (hd v1)=some k) 27 [3] (.list (.int .i64)) (show List (List Int)from y) none v1 e7/\
   (hd v1).oneCell'=true/\(∀k,D1 (hd v1)=some k->w.heap.size<=k/\k<w1.heap.size)/\∀k,Bk v1 k->Bk v k\/D1 (hd v1)=some k:=by
 obtain⟨B,d,rfl,hB⟩:=A0I h2;unfold g0S at hm;split at hm
 rotate_left
 ·cases hm
 rename_i b3;cases hm;simp only[Bool.and_eq_true,List.all_eq_true]at b3;obtain⟨c5,e9,b3⟩:=b3;have hlen:of.length<=5864062014805:=by simp[J0]at b3;omega
 have C:∀i∈of,0<=i/\i<(l.length:Int):=fun i hi=>b0O (e9 i hi);have J:Row w.heap 27 1 (hd v) l.length cs:=ht.row;have e4:cs.length=l.length:=by have:=J.1;omega
 have c3:tl v=cs:=ht.tl;have b4:R7 en w.heap S [3] (.list (.int .i64)) l cs:=⟨ht.sz,fun i x f u ys e' h1 h2 n=>ht.rows i x f u ys e' h1 h2 n V',ht.one⟩
 have t:=b4.live ht.ok;obtain⟨A,cc,hv⟩:=J.form;have c6:∀k:Nat,k<l.length->∃r,cs[k]?=some r/\U5 en w.heap S 3 (.int .i64) (gt l (k:Int)) r:=fun k hk=>by
  have hg:l[k]?=some (gt l (k:Int)):=by rw[P2 (x:=l[k]) (by simp[hk])];simp[hk]
  obtain⟨r,n,s⟩:=b4.rows k (show List Int from gt l (k:Int)) 0 (.int .i64) (show List Int from gt l (k:Int)) 3 hg rfl rfl;refine⟨r,?_,s⟩;have:Go.X.rowAt [3] k 0=k:=by simp[Go.X.rowAt]
  rw[this]at n;exact n
 have e6:∀u∈cs,∃a m c,u=.slice a m c:=fun u hu=>by
  obtain⟨p,hp⟩:=List.getElem?_of_mem hu;have b2:p<l.length:=by rw[<-e4];exact(List.getElem?_eq_some_iff.1 hp).1
  obtain⟨r,n,h7,s,_⟩:=c6 p b2;rw[hp]at n;cases n;obtain⟨a,c,h5⟩:=s.form;exact⟨a,_,c,h5⟩
 have hA:cs≠[]->∃b,A=some ⟨b,0,none⟩/\b<w.heap.size/\∀k:Nat,k<cs.length->D2 w.heap b k=some (cs.getD k (.int .i64 0)):=fun c4=>by
  rcases J.inv.2 with⟨h0,_⟩|⟨g,cap,cur,n,hp,hg,hn,_,hz,htk⟩
  ·exact absurd (List.eq_nil_of_length_eq_zero O') c4
  ·rw[hv]at n;cases n;refine⟨g,rfl,getElem?_lt hg,fun k hk=>?_⟩;unfold D2;rw[hg];have s:(cur.toList.take (l.length*1))[k]?=cs[k]?:=by rw[htk]
   rw[mul_one,List.getElem?_take_of_lt O']at s;simp only[<-Array.getElem?_toList,s,List.getD_eq_getElem?_getD,List.getElem?_eq_getElem hk];rfl
 have b1:=F0m cs of A B cc d w e6 hA hB (fun i hi=>by have:=C i hi;omega) hlen;rw[e4]at b1;rw[hv];refine b1.mono ?_
 rintro e w1 ⟨v',rfl,hown,hb⟩
 have z:Row w1.heap 27 1 v' of.length (of.map (rowOf cs)):=Go.X.Row.of (show 27<Go.X.Qe by unfold Go.X.Qe;omega) hown;have I:∀k,D1 v'=some k->w.heap.size<=k/\k<w1.heap.size:=fun k hk=>by
  refine⟨?_,z.live k hk⟩;rcases hown.2 with⟨rfl,_⟩|⟨g,cap,cur,rfl,n,_⟩
  ·cases hk
  ·obtain⟨_,rfl⟩:=a07 hk;exact n
 have kp:Y0 w.heap S w1.heap (fun k=>S k\/D1 v'=some k):=⟨hb.size,fun b e1 hn=>⟨fun h=>h.elim hn (fun h=>by have:=(I b h).1;omega),hb.block b e1⟩⟩
 have a1:∀(i:Nat) (q:Int),of[i]?=some q->(of.map (rowOf cs))[i]?=some (rowOf cs q)/\cs[q.toNat]?=some (rowOf cs q)/\q.toNat<l.length:=fun i q hq=>by
  obtain⟨q0,q1⟩:=C q (mem_of_getElem? hq);have b2:q.toNat<cs.length:=O'
  refine⟨by rw[List.getElem?_map,hq];rfl,?_,O'⟩;rw[List.getElem?_eq_getElem b2];simp[rowOf,List.getElem?_eq_getElem b2]
 have e3:R7 en w1.heap (fun k=>S k\/D1 v'=some k) [3] (.list (.int .i64)) (show List (List Int)from of.map fun i=>gt l i) (of.map (rowOf cs)):=by
  refine⟨?_,fun i x f u ys e' n s h5=>?_,fun u hu=>?_⟩
  ·show(of.map (rowOf cs)).length=(of.map fun i=>gt l i).length*1;simp
  ·have n:(of.map fun i=>gt l i)[i]?=some (show List Int from x):=n;rw[List.getElem?_map]at n;cases hq:of[i]? with
   |none=>rw[hq]at n;cases n
   |some q=>
    rw[hq]at n;cases n;obtain⟨g1,g2,g3⟩:=a1 i q hq;obtain⟨q0,q1⟩:=C q (mem_of_getElem? hq);have hf:f=0:=by
     cases f with
     |zero=>rfl
     |succ f=>simp at h5
    subst hf;have hg:l[q.toNat]?=some (gt l q):=by
     obtain⟨m,rfl⟩:∃m:Nat,q=m:=⟨q.toNat,O'⟩
     have hm:m<l.length:=O'
     rw[P2 (x:=l[m]) (by simp[hm])];simp[hm]
    obtain⟨r,r1,r2⟩:=b4.rows q.toNat _ 0 u ys e' hg s h5;rw[show Go.X.rowAt [3] q.toNat 0=q.toNat from by simp[Go.X.rowAt],g2]at r1;cases r1;refine⟨_,by rw[show Go.X.rowAt [3] i 0=i from by simp[Go.X.rowAt]];exact g1,r2.mono kp fun b e1=>hb.block b ?_⟩;exact t _ (mem_of_getElem? g2) b e1
  ·obtain⟨q,hq,rfl⟩:=mem_map.1 hu;obtain⟨i,hi⟩:=List.getElem?_of_mem hq;exact ht.one _ (mem_of_getElem? (a1 i q hi).2.1)
 have e2:∀u∈of.map (rowOf cs),u∈cs:=fun u hu=>by
  obtain⟨q,hq,rfl⟩:=mem_map.1 hu;obtain⟨i,hi⟩:=List.getElem?_of_mem hq;exact mem_of_getElem? (a1 i q hi).2.1
 have c4:∀(i j:Nat) (p q:Int),i≠j->of[i]?=some p->of[j]?=some q->p≠q:=by
  have hp:=(g0f (fun i:Int=>i) of).1 c5;have key:∀(i j:Nat) (p q:Int),i<j->of[i]?=some p->of[j]?=some q->p≠q:=fun i j p q U n s=>by
   obtain⟨i1,rfl⟩:=List.getElem?_eq_some_iff.1 n;obtain⟨j1,rfl⟩:=List.getElem?_eq_some_iff.1 s;exact List.pairwise_iff_getElem.1 hp i j i1 j1 U
  intro i j p q U n s;rcases Nat.lt_or_gt_of_ne U with h|h
  ·exact key i j p q h n s
  ·exact(key j i q p h s n).symm
 have e5:d0h (v' :: of.map (rowOf cs)):=by
  intro i j x x' U n s k hk c8;have o:∀(i:Nat) (x:Value),(v' :: of.map (rowOf cs))[i+1]?=some x->∃p,of[i]?=some p/\cs[p.toNat]?=some x/\p.toNat<l.length/\0<=p:=fun i x h=>by
   rw[List.getElem?_cons_succ,List.getElem?_map]at h;cases hq:of[i]? with
   |none=>rw[hq]at h;cases h
   |some q=>
    rw[hq]at h;cases h;exact⟨q,rfl,(a1 i q hq).2.1,(a1 i q hq).2.2,(C q (mem_of_getElem? hq)).1⟩
  match i,j with
  |0,0=>exact U rfl
  |0,j+1=>
   obtain⟨p,_,p2,_⟩:=o j x' s;cases n;have:=t _ (mem_of_getElem? p2) k c8;have:=(I k hk).1;omega
  |i+1,0=>
   obtain⟨p,_,p2,_⟩:=o i x n;cases s;have:=t _ (mem_of_getElem? p2) k hk;have:=(I k c8).1;omega
  |i+1,j+1=>
   obtain⟨p,p1,p2,_,p4⟩:=o i x n;obtain⟨q,q1,q2,_,q4⟩:=o j x' s;have:=c4 i j p q O' p1 q1;refine ht.ap (p.toNat+1) (q.toNat+1) x x' O' ?_ ?_ k hk c8
   ·rw[c3];exact p2
   ·rw[c3];exact q2
 refine⟨.tuple (v' :: of.map (rowOf cs)).toArray,of.map (rowOf cs),rfl,hb,N7.of ?_ ht.ok e3 e5,?_,I,?_⟩
 ·show Row w1.heap 27 1 v' (of.map fun i=>gt l i).length _;rw[List.length_map];exact z
 ·obtain⟨a,c,n⟩:=z.form;show v'.oneCell'=true;rw[n];rfl
 ·rintro k ⟨u,hu,hk⟩
  have hu:u∈v' :: of.map (rowOf cs):=hu;rcases List.mem_cons.1 hu with rfl|hu
  ·exact .inr hk
  ·exact .inl (Bk.tl (by rw[c3];exact e2 u hu) hk)
def I0p (F:Nat):N0 en (r03 F):=by
 intro w S us pl x y hm f m d n;obtain⟨v,cs,c2,rfl,rfl,h1,o,g⟩:=C0B f;have a:∀k,Bk v k->S k:=fun k hk=>d k ⟨v,V',hk⟩;refine(O0U F w S v cs c2 x.1 x.2 y hm o g m a).mono ?_
 rintro e w1 ⟨v1,cs1,rfl,hb,ht1,hone,hnew,hbk1⟩
 refine⟨hd v1,fun k=>S k\/D1 (hd v1)=some k,[v1],rfl,?_,⟨hb.os,hb.tape,hb.output,hb.size,fun k hk _=>hb.block k hk⟩,⟨hb.size,fun b c hn=>⟨fun h=>h.elim hn (fun h=>by have:=(hnew b h).1;omega),hb.block b c⟩⟩,fun b h _=>.inl h,fun b h=>?_,?_,?_⟩
 ·refine a0f (x:=.G1 27 [3] (.list (.int .i64))) (r:=[]) ⟨[hd v1],hd v1,[],[v1],[],rfl,rfl,rfl,?_,a04⟩;unfold SR;exact⟨v1,cs1,rfl,rfl,hone,ht1⟩
 ·rcases h with h|h
  ·exact Nat.lt_of_lt_of_le (m b h) hb.size
  ·exact(hnew b h).2
 ·intro i j v1 v2 l h1 g;have e:∀{q:Nat} {z:Value} {s:Value},[s][q]?=some z->q=0:=fun {q z s} h=>by
   cases q with
   |zero=>rfl
   |succ q=>simp at h
  exact absurd ((e h1).trans (e g).symm) l
 ·rintro b ⟨u,hu,hb1⟩
  simp only[List.mem_singleton]at hu;subst hu;rcases hbk1 b hb1 with h|h
  ·exact⟨.inl (a b h),.inl ⟨v,V',h⟩⟩
  ·exact⟨.inr h,.inr (hnew b h).1⟩
def C0K {E:Env}{H:M0}{S:E0}{cs:List Value}{y:List Int}(he:V1 (L0 E (.int .i64)) H S cs y){i:Nat}(hi:i<y.length):cs[i]?=some (.int .i64 (y.getD i 0)):=by
 have h1:=he.2 i (y.getD i 0) (by rw[show y.getD i 0=y[i]from by simp[List.getD,hi]];exact List.getElem?_eq_getElem hi);have h1:(cs.drop (i*1)).take 1=[.int .i64 (y.getD i 0)]:=h1;rw[mul_one]at h1;have:=congrArg (fun l=>l[0]?) h1;simpa using this
def K0i {E:Env}{H:M0}{S:E0}{cs:List Value}{y:List Int}(hl:cs.length=y.length)(h:∀i,i<y.length->cs[i]?=some (.int .i64 (y.getD i 0))):V1 (L0 E (.int .i64)) H S cs y:=by
 refine⟨by rw[hl];exact(mul_one _).symm,fun i (x:Int) hx=>?_⟩;have hi:i<y.length:=(List.getElem?_eq_some_iff.1 hx).1;have c:y.getD i 0=x:=by
  have d:@Eq (Option Int) y[i]? (some x):=hx;rw[List.getD_eq_getElem?_getD,d];rfl
 have b:=h i hi;rw[c]at b;show(cs.drop (i*1)).take 1=[.int .i64 x];rw[mul_one];have a:i<cs.length:=O'
 rw[List.drop_eq_getElem_cons a];rw[List.getElem?_eq_getElem a]at b;rw[Option.some.inj b];rfl
def E0Z {F:Nat}(h:N0 en (f0t F)){w:World}{S:E0}{l y:List Int}{c:List Value}(hm:K9 F l=some y)(hl:(L0 en (.list (.int .i64))).R w.heap S c l)(hS:∀b,S b->b<w.heap.size):
  Calls en.P 27 #[O4 false c] w fun e w1=>∃v,e=.returned v/\(∃ao cap,v=.slice ao y.length cap)/\Y7 w v y w1/\(∀k,D1 v=some k->w.heap.size<=k)/\∀k,k<w.heap.size->w1.heap[k]?=w.heap[k]?:=by
 have z:G3 en w.heap S [.d (.list (.int .i64))] l [O4 false c] []:=by
  refine a0f (x:=.d (.list (.int .i64))) (r:=[]) ⟨c,O4 false c,[],[],[],rfl,rfl,rfl,?_,a04⟩;unfold SR;exact⟨rfl,hl⟩
 refine(h w S [O4 false c] [] l y hm z hS (by rintro b ⟨v,t,_⟩;simp at t) (by intro i j v v' _ t;simp at t)).mono ?_
 rintro e w1 ⟨v,S1,pl1,rfl,n,hb,hk,hs1,hs2,hap,hbl⟩
 have n:G3 en w1.heap S1 [.own 3 (.int .i64)] y [v] pl1:=n;unfold G3 at n;obtain⟨c1,u,b2,p1,p2,e0,rfl,C,h1,p⟩:=n;cases e0;obtain⟨_,rfl⟩:=c0y p;unfold SR at h1;obtain⟨v1,cs,rfl,rfl,h5,m,s⟩:=h1;have C:v=v1:=C;subst C;have f:∀k,k<w.heap.size->w1.heap[k]?=w.heap[k]?:=fun k hk=>hb.block k hk (by rintro⟨v,t,_⟩;simp at t);have J:∀k,D1 v=some k->w.heap.size<=k:=fun k hk=>by
  have a1:Bk v k:=by
   obtain⟨A,cc,I⟩:=Row.form m;rw[I]at hk ⊢;exact hk
  rcases(hbl k ⟨v,V',a1⟩).2 with⟨v2,b1,_⟩|h
  ·simp at b1
  ·exact h
 refine⟨v,rfl,Row.form m,⟨hb.os,hb.tape,hb.output,hb.size,fun k hk _=>f k hk,?_⟩,J,f⟩;obtain⟨h0,⟨h1,a,rfl⟩|⟨g,cap,cur,rfl,hc,hg,hn,U,hz,ht⟩⟩:=m.inv
 ·exact .inl ⟨List.eq_nil_of_length_eq_zero h1,a,rfl⟩
 ·obtain⟨o,rfl⟩:∃q,cap=q+1:=⟨cap-1,O'⟩
  refine .inr ⟨g,o,cur,rfl,hg,?_,hn,U,fun i hi=>?_⟩
  ·have hz:cur.size=(o+1)*1:=hz;omega
  ·have p:=C0K s hi;have hl:(cur.toList.take (y.length*1))=cs:=ht;rw[mul_one]at hl;have p:cs[i]?=some (.int .i64 (y.getD i 0)):=p;rw[<-hl,List.getElem?_take_of_lt hi]at p;rw[<-p];simp
def C0A {H:M0}{S:E0}{c:List Value}{marks:List R3}(h:(L0 en (.list (.st 16))).R H S c marks):∃A i,c=[.slice A marks.length i]/\(marks≠[]->∃b o,A=some ⟨b,o,none⟩/\b<H.size/\∀k:Nat,k<marks.length->D2 H b (o+k*2)=some (.int .i64 (gt marks (k:Int)).Kind)/\D2 H b (o+k*2+1)=some (.int .i64 (gt marks (k:Int)).Group)):=by
 obtain⟨A,i,rfl,d⟩:=(show(I3 (L0 en (.st 16))).R H S c marks from h)
 refine⟨A,i,rfl,fun j=>?_⟩;obtain⟨b,o,rfl,p,_⟩:=d.2.1 j;refine⟨b,o,rfl,p,fun k hk=>?_⟩;have hg:marks[k]?=some (gt marks (k:Int)):=by rw[P2 (x:=marks[k]) (by simp[hk])];simp[hk]
 obtain⟨b',q,cs,e,hR,a⟩:=d.2.2 k (show R3 from gt marks (k:Int)) hg;cases e;have f:cs=[.int .i64 (gt marks (k:Int)).Kind,.int .i64 (gt marks (k:Int)).Group]:=by
  have n:=(r0J 16 H S cs (show R3 from gt marks (k:Int))).1 hR;obtain⟨c1,c2,rfl,g,c3,c4,rfl,l,m⟩:=n;have g:c1=[.int .i64 (gt marks (k:Int)).Kind]:=g;have l:c3=[.int .i64 (gt marks (k:Int)).Group]:=l;have m:c4=[]:=m;rw[g,l,m];rfl
 subst f;exact⟨a 0 _ rfl,a 1 _ rfl⟩
def D0A {w:World}{S:E0}{us pl:List Value}{x:F5 en.D [.d (.list (.int .i64)),.d (.list (.st 16)),.d (.int .i64),.d (.int .i64)]}(e:G3 en w.heap S [.d (.list (.int .i64)),.d (.list (.st 16)),.d (.int .i64),.d (.int .i64)] x us pl):
  pl=[]/\∃c c2,us=[O4 false c,O4 false c2,.int .i64 (show Int from x.2.2.1),.int .i64 (show Int from x.2.2.2)]/\(L0 en (.list (.int .i64))).R w.heap S c x.1/\(L0 en (.list (.st 16))).R w.heap S c2 x.2.1:=by
 skip
 unfold G3 at e;obtain⟨c,u,t,p1,J,rfl,rfl,g,h1,m⟩:=e;unfold G3 at m;obtain⟨c2,r,v,z,C,rfl,rfl,h,f,k⟩:=m;unfold G3 at k;obtain⟨c3,n,p,y,U,rfl,rfl,j,b,l⟩:=k;unfold G3 at l;obtain⟨c4,q,o,p7,I,rfl,rfl,i,a,s⟩:=l;obtain⟨rfl,rfl⟩:=c0y s;unfold SR at h1 f b a;obtain⟨rfl,h1⟩:=h1;obtain⟨rfl,f⟩:=f;obtain⟨rfl,b⟩:=b;obtain⟨rfl,a⟩:=a;have b:c3=[.int .i64 (show Int from x.2.2.1)]:=b;have a:c4=[.int .i64 (show Int from x.2.2.2)]:=a;subst b;subst a;have g:u=O4 false c:=g;have h:r=O4 false c2:=h;have j:n=.int .i64 (show Int from x.2.2.1):=j;have i:q=.int .i64 (show Int from x.2.2.2):=i;subst g;subst h;subst j;subst i;exact⟨rfl,c,c2,rfl,h1,f⟩
def J0s (F:Nat)(g:N0 en (f0t F))(w:World)(S:E0)(c c2:List Value)(tags:List Int)(marks:List R3)(now nn:Int)(y:List Int)(hm:b01 F tags marks now nn=some y)
  (h1:(L0 en (.list (.int .i64))).R w.heap S c tags) (m:(L0 en (.list (.st 16))).R w.heap S c2 marks) (i:∀b,S b->b<w.heap.size):
  Calls Tryz.prog 66 #[O4 false c,O4 false c2,.int .i64 now,.int .i64 nn] w fun e w1=>∃v,e=.returned v/\Y7 w v y w1/\(∀k,D1 v=some k->w.heap.size<=k)/\∀k,k<w.heap.size->w1.heap[k]?=w.heap[k]?:=by
 obtain⟨A,n,rfl,f⟩:=C0A m;unfold b01 at hm;split at hm
 rotate_left
 ·cases hm
 rename_i a;cases hm;simp only[Bool.and_eq_true,decide_eq_true_eq]at a;obtain⟨d,j⟩:=a;have h:tags.length<=20000000000000:=by simp[J0]at d;omega
 have l:K9 F tags=some tags:=by unfold K9;rw[if_pos d]
 exact F0C (O4 false c) tags marks now nn A n w (E0Z g l h1 i) f O' h
def L0S {w W:World}{v:Value}{o:List Int}(h:Y7 w v o W){E:Env}{S:E0}:∃cs,Row W.heap 3 1 v o.length cs/\V1 (L0 E (.int .i64)) W.heap S cs o/\∃a c,v=.slice a o.length c:=by
 rcases h.own with⟨rfl,a,rfl⟩|⟨g,cap,cur,rfl,hg,hs,hn,hm,hc⟩
 ·exact⟨[],⟨rfl,.inl ⟨rfl,a,rfl⟩⟩,V1.nil,a,0,rfl⟩
 ·refine⟨cur.toList.take o.length,Go.X.Row.ofV (by unfold Go.X.Qe;omega) ⟨Z',.inr ⟨g,cap+1,cur,rfl,hg,hn,hm,O',by rw[mul_one]⟩⟩,K0i Z' (fun i hi=>?_),_,_,rfl⟩;rw[List.getElem?_take_of_lt hi];simpa using hc i hi
def J0p (F:Nat)(o:N0 en (f0t F)):N0 en (e08 F):=by
 intro w S us pl x y hm n u C I;obtain⟨rfl,c,c2,rfl,h1,p⟩:=D0A n;refine(J0s F o w S c c2 x.1 x.2.1 x.2.2.1 x.2.2.2 y hm h1 p u).mono ?_
 rintro e w1 ⟨v,rfl,hI,hge,hbl⟩
 obtain⟨cs,d,f,a,J,t⟩:=L0S (E:=en) (S:=fun k=>S k\/D1 v=some k) hI;have g:∀k,Bk v k->D1 v=some k:=fun k hk=>by rw[t]at hk ⊢;exact hk
 have l:v.oneCell'=true:=by rw[t];rfl
 refine⟨v,fun k=>S k\/D1 v=some k,[v],rfl,?_,⟨hI.os,hI.tape,hI.output,hI.size,fun k hk _=>hbl k hk⟩,⟨hI.size,fun b m hn=>⟨fun h=>h.elim hn (fun h=>by have:=hge b h;omega),hbl b m⟩⟩,fun b h _=>.inl h,fun b h=>?_,?_,?_⟩
 ·refine a0f (x:=.own 3 (.int .i64)) (r:=[]) ⟨[v],v,[],[v],[],rfl,rfl,rfl,?_,a04⟩;unfold SR;exact⟨v,cs,rfl,rfl,l,d,f⟩
 ·rcases h with h|h
  ·exact Nat.lt_of_lt_of_le (u b h) hI.size
  ·exact d.live b h
 ·intro i j v1 v2 s h1 p;have e:∀{q:Nat} {z:Value},[v][q]?=some z->q=0:=fun {q z} h=>by
   cases q with
   |zero=>rfl
   |succ q=>simp at h
  exact absurd ((e h1).trans (e p).symm) s
 ·rintro b ⟨v1,hv1,hb1⟩
  simp only[List.mem_singleton]at hv1;subst hv1;exact⟨.inr (g b hb1),.inr (hge b (g b hb1))⟩
end Go.Proofs.YtbccffnofdnpoaaGreat
namespace Go.Proofs
open Go.Shelf
def Tryz.x0r:Go.Shelf.Ren:=⟨fun|169=>91|n=>n,fun|70=>208|9=>9|0=>0|72=>210|37=>48|127=>265|3=>3|5=>5|n=>n,fun|n=>n⟩
def Tryz.J0d:Go.Proofs.Lays.n169 Tryz.prog Tryz.x0r:={
 mixed:=Y'
 f169:=Tryz.func91.trans (congrArg some Y')
 t0:=Tryz.underlying0
 a0:=Tryz.isAgg0
 z0:=Tryz.sizeOf0
 v0:=Tryz.zeroValue0
 t3:=Tryz.underlying3
 a3:=Tryz.isAgg3
 z3:=Tryz.sizeOf3
 v3:=Tryz.zeroValue3
 t9:=Tryz.underlying9
 a9:=Tryz.isAgg9
 z9:=Tryz.sizeOf9
 v9:=Tryz.zeroValue9
 t37:=Tryz.underlying48
 a37:=Tryz.isAgg48
 z37:=Tryz.sizeOf48
 v37:=Tryz.zeroValue48
 t70:=Tryz.underlying208
 a70:=Tryz.isAgg208
 z70:=Tryz.sizeOf208
 v70:=Tryz.zeroValue208
 t72:=Tryz.underlying210
 a72:=Tryz.isAgg210
 z72:=Tryz.sizeOf210
 v72:=Tryz.zeroValue210
 t127:=Tryz.underlying265
 a127:=Tryz.isAgg265
 z127:=Tryz.sizeOf265
 v127:=Tryz.zeroValue265 }
def Tryz.M0A:Builder.Extra Tryz.prog Tryz.x0r:={
 sizeBuilder:=Y'
 liesBuilder:=Y'
 t5:=Tryz.underlying5
 a5:=Tryz.isAgg5
 z5:=Tryz.sizeOf5
 v5:=Tryz.zeroValue5
 infoByte:=Y'
 cellsByte:=Y'
 sizeByte:=Y'
 neB5:=by decide }
open Go.RowKit in
def Tryz.Builder_String_any (B b:Nat)(l:List UInt8)(w:World)(h:Lib.IsBuilder 210 5 B b (Lib.byteCells l) w)(a:B<=w.heap.size):
 Calls Tryz.prog 91 #[.pointer (some ⟨b,0,none⟩)] w fun e w'=>e=.returned (.string ⟨l.toArray⟩)/\Below B w w':=Any.Builder_String_any Tryz.J0d Tryz.M0A B b l w h a
end Go.Proofs
set_option maxRecDepth 100000
namespace Go.Proofs.YtbccffnofdnpoaaGreat
open Go.RowKit Go.Proofs
def sizeBuilder:(Tryz.prog.info? 210).map (·.size)=some 2:=Y'
def infoByte:(Tryz.prog.info? 5).map (fun i=>(i.zero,i.size,i.bytes))=some (some (.int .u8 0),1,1):=Y'
set_option maxHeartbeats 1000000 in
def H0z (b:Nat)(w:World)(c:w.cell? ⟨b,0,none⟩=some (.pointer (some ⟨b,0,none⟩))):
  Calls Tryz.prog 125 #[.pointer (some ⟨b,0,none⟩)] w fun e w'=>e=.returned (.tuple #[])/\w'=w:=by
 obtain⟨j,a,_⟩:=Option.map_eq_some_iff.1 sizeBuilder
 go_enter Tryz.func125,Tryz.ntmps125
 go_wp2
 rw[Lib.run_neq_ptr_same w _ Tryz.underlying208 a]
 go_wp2
 go_end0
 exact⟨rfl,rfl⟩
set_option maxHeartbeats 1000000 in
def F0L (b:Nat)(w:World)(g:w.cell? ⟨b,0,none⟩=some (.pointer none))(a:w.shape? b=some (210,2))(f:w.frozen? ⟨b,0,none⟩=false):
  Calls Tryz.prog 125 #[.pointer (some ⟨b,0,none⟩)] w fun e w'=>e=.returned (.tuple #[])/\w'=w.setCell ⟨b,0,none⟩ (.pointer (some ⟨b,0,none⟩)):=by
 obtain⟨j,d,c⟩:=Option.map_eq_some_iff.1 sizeBuilder
 go_enter Tryz.func125,Tryz.ntmps125
 go_wp2
 rw[Lib.run_to_unsafe w ⟨b,0,none⟩ Tryz.underlying208 Tryz.underlying299 d (by rw[c];decide) a (Nat.zero_lt_succ 1)];simp only[Result.andThen];rw[Oper.upon_value]
 go_wp2
 rw[run_callFunc_extern Tryz.func153 Y' Y' Y' (e:=Extern.AbiNoEscape.same) Y'];rw[Lib.run_noEscape];simp only[Result.andThen];rw[Oper.upon_value]
 go_wp2
 rw[Lib.run_from_unsafe w ⟨b,0,none⟩ Tryz.underlying299 Tryz.underlying208 d a Y'];simp only[Result.andThen];rw[Oper.upon_value]
 go_wp2
 go_end0
 exact⟨rfl,rfl⟩
def J0K (B b:Nat)(a:List Value)(w:World)(h:Lib.IsBuilder 210 5 B b a w):
  Calls Tryz.prog 125 #[.pointer (some ⟨b,0,none⟩)] w fun e w'=>e=.returned (.tuple #[])/\(Lib.BuilderAt 210 5 B b (.pointer (some ⟨b,0,none⟩)) a w'/\Below B w w'):=by
 rcases h with h|h
 ·refine(F0L b w h.cell0 h.shape h.frozen0).mono ?_
  rintro e w' ⟨rfl,rfl⟩
  exact⟨rfl,h.used _,(Below.refl B w).setCell (p:=⟨b,0,none⟩) h.1 _⟩
 ·refine(H0z b w h.cell0).mono ?_
  rintro e w' ⟨rfl,rfl⟩
  exact⟨rfl,h,Below.refl B _⟩
set_option maxHeartbeats 2000000 in
def v04 (B b:Nat)(m:List Value)(c:Int)(w:World)(h:Lib.IsBuilder 210 5 B b m w)(hlen:m.length+1<=140737488355328)(C:B<=w.heap.size):
  Calls Tryz.prog 90 #[.pointer (some ⟨b,0,none⟩),.int .u8 c] w fun e w'=>e=.returned .nilIface/\(Lib.BuilderAt 210 5 B b (.pointer (some ⟨b,0,none⟩)) (m++[.int .u8 c]) w'/\Below B w w'):=by
 obtain⟨i0,hi,t,r,q⟩:=info_parts infoByte
 go_enter Tryz.func90,Tryz.ntmps90
 go_wp2_with (go_at_call 125;refine(J0K B b m _ h).mono ?_)
 rintro e w1 ⟨rfl,h1,hb1⟩
 obtain⟨y,v,f,l,x⟩:=h1;have c0:w1.cell? ⟨b,0,none⟩=some (.pointer (some ⟨b,0,none⟩)):=by rw[Lib.cell_of_heap f];rfl
 have c1:w1.cell? ⟨b,1,none⟩=some v:=by rw[Lib.cell_of_heap f];rfl
 go_wp2_with (at_builtin;refine wpList_append_own _ rfl _ _ 48 rfl B 5 i0 (.int .u8 0) 1 1 Tryz.underlying48 hi t r q rfl (by decide) _ _ _ rfl (l.alloc _) ⟨w1.heap.size,0,none⟩ 1 1 [.int .u8 c] rfl rfl ?c1 ?c2 ?c3 ?c4 ?c5 ?_)
 case c1=>
  intro j u n
  match j,n with
  |0,n=>simp at n;subst n;simp[Addr.add]
 case c2=>intro u hu;simp at hu;subst hu;rfl
 case c3=>unfold maxLen;omega
 case c4=>omega
 case c5=>have:=hb1.size;simp;omega
 intro z o a d _;have s:b<w1.heap.size:=by
  rcases Nat.lt_or_ge b w1.heap.size with h'|h'
  ·exact h'
  ·simp[Array.getElem?_eq_none h']at f
 have i:o.heap[b]?=some (.cells #[.pointer (some ⟨b,0,none⟩),v] 210 (0,0)):=by
  rw[d.block b Z' (fun e=>x e.symm),Lib.alloc_old w1 _ b s];exact f
 have d0:o.cell? ⟨b,0,none⟩=some (.pointer (some ⟨b,0,none⟩)):=by rw[Lib.cell_of_heap i];rfl
 have d1:o.cell? ⟨b,1,none⟩=some v:=by rw[Lib.cell_of_heap i];rfl
 have f1:o.frozen? ⟨b,1,none⟩=false:=Lib.frozen_of_heap i 1;obtain⟨g,cap,rfl⟩:∃g cap,z=.slice (some ⟨g,0,none⟩) (m.length+1) cap:=by
  rcases a.2 with⟨_,I⟩|⟨g,cap,cur,hv,_⟩
  ·omega
  ·exact⟨g,cap,hv⟩
 go_wp2
 go_ret
 refine⟨rfl,?_,?_⟩
 ·exact Lib.BuilderAt.put (T:=210) (e:=5) y i (bs':=m++[.int .u8 c]) (by simpa using a) (by decide)
 ·exact((hb1.alloc (by have:=hb1.size;omega) _).grown d (by have:=hb1.size;simp;omega) (fun k hk=>(l.lt k hk).1)).setCell (p:=⟨b,1,none⟩) y _
