/- P. Its conditions: none. -/
import Derived.Test.YtbccffnofdnpoaaGreatAX13
import Derived.Test.YtbccffnofdnpoaaGreatAVShort
set_option linter.all false
namespace Go.X
open Go.V Go.RowKit
def h0a (s:List Int)(n:Int):Option (List Int):=match s with
 |[v]=>if decide (0<=n)&&decide (n<=1000)then some (List.replicate n.toNat v)else none
 |_=>none
def a04 {E:Env}{H:M0}{S:E0}{x:F5 E.D []}:G3 E H S [] x [] []:=by simp[G3]
def a0f {E:Env}{H:M0}{S:E0}{x:Sh}{r:List Sh}{a:F5 E.D (x :: r)}{us pl:List Value}(h:∃c u b p1 d,us=u :: b/\pl=p1++d/\u=O4 (AG E x (d0y (Z6 x) (A6 r) (b05 E x) a)) c/\SR E H S x (d0y (Z6 x) (A6 r) (b05 E x) a) c p1/\G3 E H S r (e03 (Z6 x) (A6 r) (d0m E r) a) b d):G3 E H S (x :: r) a us pl:=by
 unfold G3;exact h
def c0y {E:Env}{H:M0}{S:E0}{x:F5 E.D []}{us pl:List Value}(h:G3 E H S [] x us pl):us=[]/\pl=[]:=by simpa[G3]using h
def J0q {E:Env}{f e:Nat}(ok:∀(w:World) (S:E0),(∀b,S b->b<w.heap.size)->∀(A:Option Addr) (c:Nat) (v:Int) (k:Nat),k<=1000->Sl (Z1 .i64) w.heap S A c [v]->
   Calls E.P f #[.slice A 1 c,.int .i64 (k:Int)] w (RR (pO (Z1 .i64) e) w S (List.replicate k v))) (he:e<Qe:=by unfold Qe;omega):
  N0 E ⟨f,[.d (.list (.int .i64)),.d (.int .i64)],.own e (.int .i64),[],fun x=>h0a x.1 x.2⟩:=by
 intro w S us pl (x:List Int×Int) (y:List Int) hm g hS hpl hap;obtain⟨s,n⟩:=x;change h0a s n=some y at hm;unfold h0a at hm;split at hm<;>try cases hm
 rename_i v;split at hm<;>try cases hm
 rename_i hn;rw[Bool.and_eq_true,decide_eq_true_eq,decide_eq_true_eq]at hn;have g:G3 E w.heap S [.d (.list (.int .i64)),.d (.int .i64)] ([v],n) us pl:=g;unfold G3 at g;obtain⟨c,u,b4,p1,p2,rfl,rfl,e1,h1,I⟩:=g;unfold G3 at I;obtain⟨c',u',b3,p3,p4,rfl,rfl,e2,l,h4⟩:=I;obtain⟨rfl,rfl⟩:=c0y h4;unfold SR at h1 l;obtain⟨rfl,h1⟩:=h1;obtain⟨rfl,l⟩:=l;obtain⟨A,cc,rfl,b2⟩:=(show(I3 (Z1 .i64)).R w.heap S c [v]from h1)
 have l:c'=[.int .i64 n]:=l;subst l;have e1:u=.slice A 1 cc:=e1;have e2:u'=.int .i64 n:=e2;subst e1;subst e2;have J:n=((n.toNat:Nat):Int):=(Int.toNat_of_nonneg hn.1).symm;have hk:n.toNat<=1000:=O'
 have:=ok w S hS A cc v n.toNat hk b2;rw[<-J]at this;refine this.mono ?_
 rintro ee w1 ⟨z,rfl,a,A',c2,rfl,how⟩
 have o:=how;obtain⟨U,cs,C,m⟩:=o;have t:∀k,Bk (Value.slice A' (List.replicate n.toNat v).length c2) k->(Value.slice A' (List.replicate n.toNat v).length c2).ownBlock=some k:=fun k hk=>x0E hk;have p:∀k,(Value.slice A' (List.replicate n.toNat v).length c2).ownBlock=some k->w.heap.size<=k:=fun k hk=>((U k hk).2).elim (fun h=>h.elim) id;have kp:Y0 w.heap S w1.heap (inV (Value.slice A' (List.replicate n.toNat v).length c2) S):=⟨a.size,fun b a1 hn=>⟨fun hi=>hi.elim (fun hi=>by have:=p b hi;omega) hn,a.block b a1⟩⟩
 refine⟨_,inV (Value.slice A' (List.replicate n.toNat v).length c2) S,[Value.slice A' (List.replicate n.toNat v).length c2],rfl,?_,⟨a.os,a.tape,a.output,a.size,fun k hk _=>a.block k hk⟩,kp,fun b a _=>.inr a,fun b hs=>?_,?_,?_⟩
 ·exact a0f (x:=.own e (.int .i64)) (r:=[]) ⟨[_],_,[],[_],[],rfl,rfl,rfl,by unfold SR;exact⟨_,cs,rfl,rfl,rfl,Row.ofV he C,m⟩,a04⟩
 ·rcases hs with hs|hs
  ·exact how.lt b hs
  ·exact Nat.lt_of_lt_of_le (hS b hs) a.size
 ·intro i j v1 v2 b1 h1 I;have e:∀{q:Nat} {z:Value},[Value.slice A' (List.replicate n.toNat v).length c2][q]?=some z->q=0:=fun {q z} h=>by
   cases q with
   |zero=>rfl
   |succ q=>simp at h
  exact absurd ((e h1).trans (e I).symm) b1
 ·rintro b ⟨v1,hv1,hb1⟩
  simp only[List.mem_singleton]at hv1;subst hv1;exact⟨.inl (t b hb1),.inr (p b (t b hb1))⟩
