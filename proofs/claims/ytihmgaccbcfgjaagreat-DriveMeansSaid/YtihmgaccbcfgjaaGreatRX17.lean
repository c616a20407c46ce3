/- P. Its conditions: none. -/
import Derived.Test.YtihmgaccbcfgjaaGreatRX13
import Derived.Test.YtihmgaccbcfgjaaGreatRVShort
set_option linter.all false
namespace Go.X
open Go.V Go.RowKit
def i0q (s:List Int)(n:Int):Option (List Int):=match s with
 |[v]=>if decide (0<=n)&&decide (n<=1000)then some (List.replicate n.toNat v)else none
 |_=>none
def a0M {E:Env}{H:I0}{S:D0}{x:J4 E.D []}:E2 E H S [] x [] []:=by simp[E2]
def U9 {E:Env}{H:I0}{S:D0}{x:Sh}{r:List Sh}{a:J4 E.D (x :: r)}{us pl:List Value}(h:∃c u b p1 d,us=u :: b/\pl=p1++d/\u=M3 (AG E x (c0G (Z5 x) (J5 r) (b0W E x) a)) c/\SR E H S x (c0G (Z5 x) (J5 r) (b0W E x) a) c p1/\E2 E H S r (e0t (Z5 x) (J5 r) (c0M E r) a) b d):E2 E H S (x :: r) a us pl:=by
 unfold E2;exact h
def c0e {E:Env}{H:I0}{S:D0}{x:J4 E.D []}{us pl:List Value}(h:E2 E H S [] x us pl):us=[]/\pl=[]:=by simpa[E2]using h
def x02 {E:Env}{f e:Nat}(ok:∀(w:World) (S:D0),(∀b,S b->b<w.heap.size)->∀(A:Option Addr) (c:Nat) (v:Int) (k:Nat),k<=1000->Sl (P1 .i64) w.heap S A c [v]->
   Calls E.P f #[.slice A 1 c,.int .i64 (k:Int)] w (RR (pO (P1 .i64) e) w S (List.replicate k v))):
  U0 E ⟨f,[.d (.list (.int .i64)),.d (.int .i64)],.own e (.int .i64),[],fun x=>i0q x.1 x.2⟩:=by
 intro w S us pl (x:List Int×Int) (y:List Int) hm g hS hpl hap;obtain⟨s,n⟩:=x;change i0q s n=some y at hm;unfold i0q at hm;split at hm<;>try cases hm
 rename_i v;split at hm<;>try cases hm
 rename_i hn;rw[Bool.and_eq_true,decide_eq_true_eq,decide_eq_true_eq]at hn;have g:E2 E w.heap S [.d (.list (.int .i64)),.d (.int .i64)] ([v],n) us pl:=g;unfold E2 at g;obtain⟨c,u,b4,p1,p2,rfl,rfl,e1,h1,I⟩:=g;unfold E2 at I;obtain⟨c',u',b3,p3,p4,rfl,rfl,e2,l,h4⟩:=I;obtain⟨rfl,rfl⟩:=c0e h4;unfold SR at h1 l;obtain⟨rfl,h1⟩:=h1;obtain⟨rfl,l⟩:=l;obtain⟨A,cc,rfl,U⟩:=(show(O4 (P1 .i64)).R w.heap S c [v]from h1)
 have l:c'=[.int .i64 n]:=l;subst l;have e1:u=.slice A 1 cc:=e1;have e2:u'=.int .i64 n:=e2;subst e1;subst e2;have J:n=((n.toNat:Nat):Int):=(Int.toNat_of_nonneg hn.1).symm;have hk:n.toNat<=1000:=O'
 have:=ok w S hS A cc v n.toNat hk U;rw[<-J]at this;refine this.mono ?_
 rintro ee w1 ⟨z,rfl,a,A',c2,rfl,how⟩
 have o:=how;obtain⟨b2,cs,m,C⟩:=o;have t:∀k,Bk (Value.slice A' (List.replicate n.toNat v).length c2) k->(Value.slice A' (List.replicate n.toNat v).length c2).ownBlock=some k:=fun k hk=>t0F hk;have p:∀k,(Value.slice A' (List.replicate n.toNat v).length c2).ownBlock=some k->w.heap.size<=k:=fun k hk=>((b2 k hk).2).elim (fun h=>h.elim) id;have kp:P0 w.heap S w1.heap (inV (Value.slice A' (List.replicate n.toNat v).length c2) S):=⟨a.size,fun b a1 hn=>⟨fun hi=>hi.elim (fun hi=>by have:=p b hi;omega) hn,a.block b a1⟩⟩
 refine⟨_,inV (Value.slice A' (List.replicate n.toNat v).length c2) S,[Value.slice A' (List.replicate n.toNat v).length c2],rfl,?_,⟨a.os,a.tape,a.output,a.size,fun k hk _=>a.block k hk⟩,kp,fun b a _=>.inr a,fun b hs=>?_,?_,?_⟩
 ·exact U9 (x:=.own e (.int .i64)) (r:=[]) ⟨[_],_,[],[_],[],rfl,rfl,rfl,by unfold SR;exact⟨_,cs,rfl,rfl,rfl,Row.ofV m,C⟩,a0M⟩
 ·rcases hs with hs|hs
  ·exact how.lt b hs
  ·exact Nat.lt_of_lt_of_le (hS b hs) a.size
 ·intro i j v1 v2 b1 h1 I;have e:∀{q:Nat} {z:Value},[Value.slice A' (List.replicate n.toNat v).length c2][q]?=some z->q=0:=fun {q z} h=>by
   cases q with
   |zero=>rfl
   |succ q=>simp at h
  exact absurd ((e h1).trans (e I).symm) b1
 ·rintro b ⟨v1,hv1,hb1⟩
  simp only[List.mem_singleton]at hv1;subst hv1;exact⟨.inl (t b hb1),.inr (p b (t b hb1))⟩
