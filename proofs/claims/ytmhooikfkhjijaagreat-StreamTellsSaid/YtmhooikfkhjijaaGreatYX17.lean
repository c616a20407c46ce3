/- P. Its conditions: none. -/
import Derived.Test.YtmhooikfkhjijaaGreatYX13
import Derived.Test.YtmhooikfkhjijaaGreatYVShort
set_option linter.all false
namespace Go.X
open Go.V Go.RowKit
def e0w (s:List Int)(n:Int):Option (List Int):=match s with
 |[v]=>if decide (0<=n)&&decide (n<=1000)then some (List.replicate n.toNat v)else none
 |_=>none
def N7 {E:Env}{H:F0}{S:B0}{x:O2 E.D []}:N1 E H S [] x [] []:=by simp[N1]
def W6 {E:Env}{H:F0}{S:B0}{x:Sh}{r:List Sh}{a:O2 E.D (x :: r)}{us pl:List Value}(h:∃c u us' p1 p2,us=u :: us'/\pl=p1++p2/\u=B2 (AG E x (D9 (j4 x) (K3 r) (K7 E x) a)) c/\SR E H S x (D9 (j4 x) (K3 r) (K7 E x) a) c p1/\N1 E H S r (a0W (j4 x) (K3 r) (k9 E r) a) us' p2):N1 E H S (x :: r) a us pl:=by
 unfold N1;exact h
def n9 {E:Env}{H:F0}{S:B0}{x:O2 E.D []}{us pl:List Value}(h:N1 E H S [] x us pl):us=[]/\pl=[]:=by simpa[N1]using h
def r0e {E:Env}{f e:Nat}(ok:∀(w:World) (S:B0),(∀b,S b->b<w.heap.size)->∀(A:Option Addr) (c:Nat) (v:Int) (k:Nat),k<=1000->Sl (J1 .i64) w.heap S A c [v]->
   Calls E.P f #[.slice A 1 c,.int .i64 (k:Int)] w (RR (pO (J1 .i64) e) w S (List.replicate k v))):
  G0 E ⟨f,[.d (.list (.int .i64)),.d (.int .i64)],.own e (.int .i64),[],fun x=>e0w x.1 x.2⟩:=by
 intro w S us pl (x:List Int×Int) (y:List Int) hm hsr hS hpl hap;obtain⟨s,n⟩:=x;change e0w s n=some y at hm;unfold e0w at hm;split at hm<;>try cases hm
 rename_i v;split at hm<;>try cases hm
 rename_i hn;rw[Bool.and_eq_true,decide_eq_true_eq,decide_eq_true_eq]at hn;have hsr:N1 E w.heap S [.d (.list (.int .i64)),.d (.int .i64)] ([v],n) us pl:=hsr;unfold N1 at hsr;obtain⟨c,u,us',p1,p2,rfl,rfl,e1,h1,h2⟩:=hsr;unfold N1 at h2;obtain⟨c',u',us'',p3,p4,rfl,rfl,e2,h3,h4⟩:=h2;obtain⟨rfl,rfl⟩:=n9 h4;unfold SR at h1 h3;obtain⟨rfl,h1⟩:=h1;obtain⟨rfl,h3⟩:=h3;obtain⟨A,cc,rfl,hsl⟩:=(show(Q2 (J1 .i64)).R w.heap S c [v]from h1)
 have h3:c'=[.int .i64 n]:=h3;subst h3;have e1:u=.slice A 1 cc:=e1;have e2:u'=.int .i64 n:=e2;subst e1;subst e2;have hnn:n=((n.toNat:Nat):Int):=(Int.toNat_of_nonneg hn.1).symm;have hk:n.toNat<=1000:=by omega
 have:=ok w S hS A cc v n.toNat hk hsl;rw[<-hnn]at this;refine this.mono ?_
 rintro ee w1 ⟨z,rfl,hb,A',c2,rfl,how⟩
 have how2:=how;obtain⟨hob,cs,hrow,hels⟩:=how2;have hbk:∀k,Bk (Value.slice A' (List.replicate n.toNat v).length c2) k->(Value.slice A' (List.replicate n.toNat v).length c2).ownBlock=some k:=fun k hk=>k0O hk;have hge:∀k,(Value.slice A' (List.replicate n.toNat v).length c2).ownBlock=some k->w.heap.size<=k:=fun k hk=>((hob k hk).2).elim (fun h=>h.elim) id;have kp:J0 w.heap S w1.heap (inV (Value.slice A' (List.replicate n.toNat v).length c2) S):=⟨hb.size,fun b hbl hn=>⟨fun hi=>hi.elim (fun hi=>by have:=hge b hi;omega) hn,hb.block b hbl⟩⟩
 refine⟨_,inV (Value.slice A' (List.replicate n.toNat v).length c2) S,[Value.slice A' (List.replicate n.toNat v).length c2],rfl,?_,⟨hb.os,hb.tape,hb.output,hb.size,fun k hk _=>hb.block k hk⟩,kp,fun b hb _=>.inr hb,fun b hs=>?_,?_,?_⟩
 ·exact W6 (x:=.own e (.int .i64)) (r:=[]) ⟨[_],_,[],[_],[],rfl,rfl,rfl,by unfold SR;exact⟨_,cs,rfl,rfl,rfl,Row.ofV hrow,hels⟩,N7⟩
 ·rcases hs with hs|hs
  ·exact how.lt b hs
  ·exact Nat.lt_of_lt_of_le (hS b hs) hb.size
 ·intro i j v1 v2 hne h1 h2;have e:∀{q:Nat} {z:Value},[Value.slice A' (List.replicate n.toNat v).length c2][q]?=some z->q=0:=fun {q z} h=>by
   cases q with
   |zero=>rfl
   |succ q=>simp at h
  exact absurd ((e h1).trans (e h2).symm) hne
 ·rintro b ⟨v1,hv1,hb1⟩
  simp only[List.mem_singleton]at hv1;subst hv1;exact⟨.inl (hbk b hb1),.inr (hge b (hbk b hb1))⟩
