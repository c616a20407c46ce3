/- P. Its conditions: none. -/
import Derived.Test.YtmhooikfkhjijaaGreatYX13
import Derived.Test.YtmhooikfkhjijaaGreatYVShort
set_option linter.all false
namespace Go.X
open Go.V Go.RowKit
def g0I (s:List Int)(n:Int):Option (List Int):=match s with
 |[v]=>if decide (0<=n)&&decide (n<=1000)then some (List.replicate n.toNat v)else none
 |_=>none
def d0N {E:Env}{H:K0}{S:D0}{x:S4 E.D []}:I3 E H S [] x [] []:=by simp[I3]
def e0i {E:Env}{H:K0}{S:D0}{x:Sh}{r:List Sh}{a:S4 E.D (x :: r)}{us pl:List Value}(h:∃c u b p1 d,us=u :: b/\pl=p1++d/\u=H4 (AG E x (c0R (J6 x) (U5 r) (b0f E x) a)) c/\SR E H S x (c0R (J6 x) (U5 r) (b0f E x) a) c p1/\I3 E H S r (d0E (J6 x) (U5 r) (c0s E r) a) b d):I3 E H S (x :: r) a us pl:=by
 unfold I3;exact h
def d04 {E:Env}{H:K0}{S:D0}{x:S4 E.D []}{us pl:List Value}(h:I3 E H S [] x us pl):us=[]/\pl=[]:=by simpa[I3]using h
def B0s {E:Env}{f e:Nat}(ok:∀(w:World) (S:D0),(∀b,S b->b<w.heap.size)->∀(A:Option Addr) (c:Nat) (v:Int) (k:Nat),k<=1000->Sl (C2 .i64) w.heap S A c [v]->
   Calls E.P f #[.slice A 1 c,.int .i64 (k:Int)] w (RR (pO (C2 .i64) e) w S (List.replicate k v))):
  C1 E ⟨f,[.d (.list (.int .i64)),.d (.int .i64)],.own e (.int .i64),[],fun x=>g0I x.1 x.2⟩:=by
 intro w S us pl (x:List Int×Int) (y:List Int) hm g hS hpl hap;obtain⟨s,n⟩:=x;change g0I s n=some y at hm;unfold g0I at hm;split at hm<;>try cases hm
 rename_i v;split at hm<;>try cases hm
 rename_i hn;rw[Bool.and_eq_true,decide_eq_true_eq,decide_eq_true_eq]at hn;have g:I3 E w.heap S [.d (.list (.int .i64)),.d (.int .i64)] ([v],n) us pl:=g;unfold I3 at g;obtain⟨c,u,b5,p1,p2,rfl,rfl,e1,h1,J⟩:=g;unfold I3 at J;obtain⟨c',u',b4,p3,p4,rfl,rfl,e2,l,h4⟩:=J;obtain⟨rfl,rfl⟩:=d04 h4;unfold SR at h1 l;obtain⟨rfl,h1⟩:=h1;obtain⟨rfl,l⟩:=l;obtain⟨A,cc,rfl,b1⟩:=(show(E3 (C2 .i64)).R w.heap S c [v]from h1)
 have l:c'=[.int .i64 n]:=l;subst l;have e1:u=.slice A 1 cc:=e1;have e2:u'=.int .i64 n:=e2;subst e1;subst e2;have b3:n=((n.toNat:Nat):Int):=(Int.toNat_of_nonneg hn.1).symm;have hk:n.toNat<=1000:=by omega
 have:=ok w S hS A cc v n.toNat hk b1;rw[<-b3]at this;refine this.mono ?_
 rintro ee w1 ⟨z,rfl,a,A',c2,rfl,how⟩
 have p:=how;obtain⟨b2,cs,o,t⟩:=p;have I:∀k,Bk (Value.slice A' (List.replicate n.toNat v).length c2) k->(Value.slice A' (List.replicate n.toNat v).length c2).ownBlock=some k:=fun k hk=>t0G hk;have C:∀k,(Value.slice A' (List.replicate n.toNat v).length c2).ownBlock=some k->w.heap.size<=k:=fun k hk=>((b2 k hk).2).elim (fun h=>h.elim) id;have kp:U0 w.heap S w1.heap (inV (Value.slice A' (List.replicate n.toNat v).length c2) S):=⟨a.size,fun b a1 hn=>⟨fun hi=>hi.elim (fun hi=>by have:=C b hi;omega) hn,a.block b a1⟩⟩
 refine⟨_,inV (Value.slice A' (List.replicate n.toNat v).length c2) S,[Value.slice A' (List.replicate n.toNat v).length c2],rfl,?_,⟨a.os,a.tape,a.output,a.size,fun k hk _=>a.block k hk⟩,kp,fun b a _=>.inr a,fun b m=>?_,?_,?_⟩
 ·exact e0i (x:=.own e (.int .i64)) (r:=[]) ⟨[_],_,[],[_],[],rfl,rfl,rfl,by unfold SR;exact⟨_,cs,rfl,rfl,rfl,Row.ofV o,t⟩,d0N⟩
 ·rcases m with m|m
  ·exact how.lt b m
  ·exact Nat.lt_of_lt_of_le (hS b m) a.size
 ·intro i j v1 v2 U h1 J;have e:∀{q:Nat} {z:Value},[Value.slice A' (List.replicate n.toNat v).length c2][q]?=some z->q=0:=fun {q z} h=>by
   cases q with
   |zero=>rfl
   |succ q=>simp at h
  exact absurd ((e h1).trans (e J).symm) U
 ·rintro b ⟨v1,hv1,hb1⟩
  simp only[List.mem_singleton]at hv1;subst hv1;exact⟨.inl (I b hb1),.inr (C b (I b hb1))⟩
