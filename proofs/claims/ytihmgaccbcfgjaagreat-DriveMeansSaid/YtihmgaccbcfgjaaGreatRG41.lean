/- P. Its conditions: none. -/
import Derived.Test.YtihmgaccbcfgjaaGreatRG40
open Int (toNat_natCast)
open List (mem_map getElem_mem mem_range any_eq_true length_append length_cons)
open Nat (le_refl mul_le_mul add_mul one_mul)
open Bool (false_eq_true and_eq_true or_eq_true)
set_option linter.all false
namespace Go.Proofs.YtihmgaccbcfgjaaGreat
open Go.V Go.RowKit Old Go.X
def l0H {o:List Int}{j m:Nat}{x:Int}:gt (o.set j x) (m:Int)=gt o (m:Int)\/gt (o.set j x) (m:Int)=x:=by
 unfold gt;rw[List.getD_eq_getElem?_getD,List.getD_eq_getElem?_getD];simp only[toNat_natCast]
 by_cases e:j=m
 ·subst e
  by_cases h:j<o.length
  ·right;rw[List.getElem?_set_self h];rfl
  ·left;rw[List.set_eq_of_length_le O']
 ·left;rw[List.getElem?_set_ne e]
def E0m (now none_:Int)(o:List Int)(k:J2)(m:Nat):gt (T4 now none_ o k) (m:Int)=gt o (m:Int)\/gt (T4 now none_ o k) (m:Int)=now\/gt (T4 now none_ o k) (m:Int)=none_:=by
 unfold T4;split
 ·exact .inl rfl
 ·split
  ·rcases l0H (o:=o) (j:=(2*k.Group-1).toNat) (m:=m) (x:=now)with h|h
   ·exact .inl h
   ·exact .inr (.inl h)
  ·split
   ·rcases l0H (o:=o) (j:=(2*k.Group).toNat) (m:=m) (x:=now)with h|h
    ·exact .inl h
    ·exact .inr (.inl h)
   ·split
    ·rcases l0H (o:=o.set (2*k.Group-1).toNat none_) (j:=(2*k.Group).toNat) (m:=m) (x:=none_)with h|h
     ·rw[h];rcases l0H (o:=o) (j:=(2*k.Group-1).toNat) (m:=m) (x:=none_)with h|h
      ·exact .inl h
      ·exact .inr (.inr h)
     ·exact .inr (.inr h)
    ·exact .inl rfl
def q0e (now none_:Int)(m:Nat):∀(marks:List J2) (o:List Int),gt (Z9 now none_ o marks) (m:Int)=gt o (m:Int)\/gt (Z9 now none_ o marks) (m:Int)=now\/gt (Z9 now none_ o marks) (m:Int)=none_
 |[],o=>.inl rfl
 |k :: r,o=>by
  have h:=q0e now none_ m r (T4 now none_ o k);have e:Z9 now none_ o (k :: r)=Z9 now none_ (T4 now none_ o k) r:=rfl;rw[e];rcases h with h|h
  ·rw[h];exact E0m now none_ o k m
  ·exact .inr h
def V0C (l:List C0)(at_:Int)(m:Nat)(h:1<=m)(hm:m<(C4 l).toNat):gt (k0o l at_) (m:Int)=-1:=by
 unfold k0o gt;rw[List.getD_eq_getElem?_getD,toNat_natCast,List.getElem?_set_ne O',List.getElem?_replicate,if_pos hm];rfl
structure Inv (l:List C0)(may:Nat->Bool)(i:Nat)(vals:List (List Int))(fB fD:Nat->Nat->Int):Prop where
 first:∀v∈vals,∃j:Nat,j<i/\gt v 0=(j:Int)/\may j=true
 rest:∀v∈vals,∀m:Nat,1<=m->m<(C4 l).toNat->gt v (m:Int)=-1\/(gt v 0<=gt v (m:Int)/\gt v (m:Int)<(i:Int))
 ahead:∀k m:Nat,k<vals.length->m<vals.length->gt (gt vals (k:Int)) 0≠gt (gt vals (m:Int)) 0->fB k m=0/\(0<fD k m↔gt (gt vals (k:Int)) 0<gt (gt vals (m:Int)) 0)
section
variable {F:Nat}{l:List C0}{n:Nat}{a:List B0}{b:Nat->List B0}{e:Nat->B0×Bool}{z:B0×Bool}
def T0R {t:Int}(c:0<=t)(h1:t<=400):a0B 0 t=0:=by
 unfold a0B;rw[E3 O' O',if_neg O']
def X0K (K:U3 l n a b e z F){s:Cs}{i:Nat}(h:w04 l n s i){may:Nat->Bool}(J:Inv l may i s.vals s.fB s.fD)(b_:Int)(E0:Bool)(R:E0=true->may i=true):
  Inv l may (i+1) (s.step l n a b b_ E0).vals (s.step l n a b b_ E0).fB (s.step l n a b b_ E0).fD:=by
 have x:=h.a0;have b3:=h.ok.len;have src:∀r∈Z3 l n a b s.pl b_ E0,(∃j:Nat,j<i+1/\gt (gt (goV l s.at_ s.vals E0) (T5 a b s.pl s.fB s.fD E0 r:Int)) 0=(j:Int)/\may j=true)/\
   (∀m:Nat,1<=m->m<(C4 l).toNat->gt (gt (goV l s.at_ s.vals E0) (T5 a b s.pl s.fB s.fD E0 r:Int)) (m:Int)=-1\/(gt (gt (goV l s.at_ s.vals E0) (T5 a b s.pl s.fB s.fD E0 r:Int)) 0<=gt (gt (goV l s.at_ s.vals E0) (T5 a b s.pl s.fB s.fD E0 r:Int)) (m:Int)/\gt (gt (goV l s.at_ s.vals E0) (T5 a b s.pl s.fB s.fD E0 r:Int)) (m:Int)<(i:Int))):=by
  intro r hr;rcases R01 (at_:=s.at_) h.ok hr with⟨h1,o⟩|⟨h1,_,o⟩
  ·rw[o];have hm:=b8 (l:=s.vals) (i:=T5 a b s.pl s.fB s.fD E0 r) O';obtain⟨j,j1,I,j3⟩:=J.first _ hm
   exact⟨⟨j,O',I,j3⟩,J.rest _ hm⟩
  ·rw[o,Q0w];exact⟨⟨i,O',x,R h1⟩,fun m m1 m2=>.inl (V0C l _ m m1 m2)⟩
 have d:∀r,gt (stV l a b s.at_ s.pl s.vals s.fB s.fD E0 r) 0=gt (gt (goV l s.at_ s.vals E0) (T5 a b s.pl s.fB s.fD E0 r:Int)) 0:=fun r=>by unfold stV;rw[Q0E]
 refine⟨fun v C=>?_,fun v C m m1 m2=>?_,fun k m hk hm c=>?_⟩
 ·obtain⟨r,hr,rfl⟩:=mem_map.1 C;rw[d];exact(src r hr).1
 ·obtain⟨r,hr,rfl⟩:=mem_map.1 C;obtain⟨⟨j,j1,I,_⟩,s2⟩:=src r hr;rw[d];unfold stV;rcases q0e s.at_ (-1) m (a7 l (V5 a b s.pl s.fB s.fD E0 r).Steps) (gt (goV l s.at_ s.vals E0) (T5 a b s.pl s.fB s.fD E0 r:Int))with h1|h1|h1
  ·rw[h1];rcases s2 m m1 m2 with o|⟨o,u⟩
   ·exact .inl o
   ·exact .inr ⟨o,O'⟩
  ·rw[h1,I];exact .inr ⟨O',O'⟩
  ·exact .inl h1
 ·have hlen:(s.step l n a b b_ E0).vals.length=(Z3 l n a b s.pl b_ E0).length:=by simp[Cs.step]
  rw[hlen]at hk hm;have b2:=getElem_mem hk;have b1:=getElem_mem hm;have gv:∀q (hq:q<(Z3 l n a b s.pl b_ E0).length),gt (s.step l n a b b_ E0).vals (q:Int)=stV l a b s.at_ s.pl s.vals s.fB s.fD E0 (Z3 l n a b s.pl b_ E0)[q]:=fun q hq=>X2 (by simp[Cs.step,hq]);rw[gv k hk,gv m hm,d,d]at c ⊢;generalize a1:(Z3 l n a b s.pl b_ E0)[k]=rk at *;generalize y:(Z3 l n a b s.pl b_ E0)[m]=rm at *;have g:=w0s K h.ok b_ E0;have i0b:b0j n (gt ((Z3 l n a b s.pl b_ E0).map (V5 a b s.pl s.fB s.fD E0)) (k:Int)):=g0q g.hop (by simpa using hk);have p:b0j n (gt ((Z3 l n a b s.pl b_ E0).map (V5 a b s.pl s.fB s.fD E0)) (m:Int)):=g0q g.hop (by simpa using hm);have fk:((Z3 l n a b s.pl b_ E0).map (T5 a b s.pl s.fB s.fD E0)).getD k 0=T5 a b s.pl s.fB s.fD E0 rk:=by simp[List.getD,hk,a1]
  have fm:((Z3 l n a b s.pl b_ E0).map (T5 a b s.pl s.fB s.fD E0)).getD m 0=T5 a b s.pl s.fB s.fD E0 rm:=by simp[List.getD,hm,y]
  have f:T5 a b s.pl s.fB s.fD E0 rk≠T5 a b s.pl s.fB s.fD E0 rm:=fun e=>c (by rw[e]);have U:k≠m:=fun e=>by subst e;rw[a1]at y;exact f (by rw[y])
  have key:F5 s.pl E0 s.fB (T5 a b s.pl s.fB s.fD E0 rk) (T5 a b s.pl s.fB s.fD E0 rm)=0/\F5 s.pl E0 s.fB (T5 a b s.pl s.fB s.fD E0 rm) (T5 a b s.pl s.fB s.fD E0 rk)=0/\
    (0<a6 s.pl E0 s.fD (T5 a b s.pl s.fB s.fD E0 rk) (T5 a b s.pl s.fB s.fD E0 rm)↔gt (gt (goV l s.at_ s.vals E0) (T5 a b s.pl s.fB s.fD E0 rk:Int)) 0<gt (gt (goV l s.at_ s.vals E0) (T5 a b s.pl s.fB s.fD E0 rm:Int)) 0):=by
   rcases R01 (at_:=s.at_) h.ok b2 with⟨h1,o⟩|⟨h1,h1',o⟩<;>rcases R01 (at_:=s.at_) h.ok b1 with⟨u,h4⟩|⟨u,h3',h4⟩
   ·rw[o,h4]at c ⊢;obtain⟨p1,p2⟩:=J.ahead _ _ O' O' c;obtain⟨p3,_⟩:=J.ahead _ _ O' O' (fun e=>c e.symm);unfold F5 a6 g0x e0R;cases E0 with
    |false=>exact⟨p1,p3,p2⟩
    |true=>simp only[if_true];rw[if_pos ⟨h1,u⟩,if_pos ⟨u,h1⟩,if_pos ⟨h1,u⟩];exact⟨p1,p3,p2⟩
   ·rw[o,h4,Q0w]at c ⊢;obtain⟨j,j1,I,_⟩:=J.first _ (b8 (l:=s.vals) (i:=T5 a b s.pl s.fB s.fD E0 rk) O')
    subst u;unfold F5 a6 g0x e0R;simp only[if_true];rw[if_neg O',if_neg O',if_neg O',if_pos ⟨h1,h3'⟩,I,x];exact⟨rfl,rfl,O'⟩
   ·rw[o,h4,Q0w]at c ⊢;obtain⟨j,j1,I,_⟩:=J.first _ (b8 (l:=s.vals) (i:=T5 a b s.pl s.fB s.fD E0 rm) O')
    subst h1;unfold F5 a6 g0x e0R;simp only[if_true];rw[if_neg O',if_neg O',if_neg O',if_neg O',if_pos ⟨h1',u⟩,I,x];exact⟨rfl,rfl,O'⟩
   ·exact absurd O' f
  obtain⟨k1,k2,k3⟩:=key;show u6 l _ _ _ k m=0/\(0<Q6 l _ _ _ _ k m↔_);unfold u6 Q6;rw[if_neg U,if_neg U,fk,fm,if_neg f,if_neg f,k1,T0R i0b.t0 i0b.t1];refine⟨rfl,?_⟩;unfold n9;rw[k1,k2,T0R i0b.t0 i0b.t1,T0R p.t0 p.t1,if_neg O',if_neg O'];exact k3
end
theorem V0F {l:List C0}(hw:∀x∈l,P2 x)(hR:L2 l=true){n:Nat}(hn:n=N0 l l.length){x y:B0}(c:b0j n x)(i:b0j n y):0<(X8 l x y).1:=by
 have d:1<=b0s l x y:=by
  obtain⟨h1,k,h,g⟩:=c;obtain⟨s,o,r,m⟩:=i;obtain⟨p,hp,j,_⟩:=e05 l l.length x.To.toNat O';obtain⟨q,d,f,_⟩:=e05 l l.length y.To.toNat O'
  grind [m0k,r0Z,n0v,b0s,toNat_natCast]
 obtain⟨h1,k,h,g⟩:=c
 grind [X8]
theorem X0n {b t:Int}(c:0<b)(d:0<=t)(h1:t<=400):0<a0B b t:=by
 grind [a0B,E3]
abbrev q0O (vals:List (List Int))(x:Nat):Int:=gt (gt vals (x:Int)) 0
def E0Y (vals:List (List Int))(fB:Nat->Nat->Int):Prop:=∀k m:Nat,k<vals.length->m<vals.length->k≠m->q0O vals k=q0O vals m->0<fB k m
section
variable {F:Nat}{l:List C0}{n:Nat}{a:List B0}{b:Nat->List B0}{e:Nat->B0×Bool}{z:B0×Bool}
theorem W0F (K:U3 l n a b e z F)(hw:∀x∈l,P2 x){s:Cs}{i:Nat}(h:w04 l n s i){may:Nat->Bool}(I:Inv l may i s.vals s.fB s.fD)(hs:E0Y s.vals s.fB)(b_:Int)(E0:Bool):
  E0Y (s.step l n a b b_ E0).vals (s.step l n a b b_ E0).fB:=by
 have a1:=h.a0;have b2:=h.ok.len;have c:∀r,gt (stV l a b s.at_ s.pl s.vals s.fB s.fD E0 r) 0=gt (gt (goV l s.at_ s.vals E0) (T5 a b s.pl s.fB s.fD E0 r:Int)) 0:=fun r=>by simp[stV,Q0E]
 intro k m hk hm u heq;have hlen:(s.step l n a b b_ E0).vals.length=(Z3 l n a b s.pl b_ E0).length:=by simp[Cs.step]
 rw[hlen]at hk hm;have y:=getElem_mem hk;have v:=getElem_mem hm;have J:∀q (C:q<(Z3 l n a b s.pl b_ E0).length),gt (s.step l n a b b_ E0).vals (q:Int)=stV l a b s.at_ s.pl s.vals s.fB s.fD E0 (Z3 l n a b s.pl b_ E0)[q]:=fun q C=>X2 (by simp[Cs.step,C]);unfold q0O at heq;rw[J k hk,J m hm,c,c]at heq;generalize b3:(Z3 l n a b s.pl b_ E0)[k]=rk at *;generalize b1:(Z3 l n a b s.pl b_ E0)[m]=rm at *;have g:=w0s K h.ok b_ E0;have i0b:b0j n (gt ((Z3 l n a b s.pl b_ E0).map (V5 a b s.pl s.fB s.fD E0)) (k:Int)):=g0q g.hop (by simp_all);have f:b0j n (gt ((Z3 l n a b s.pl b_ E0).map (V5 a b s.pl s.fB s.fD E0)) (m:Int)):=g0q g.hop (by simp_all);have R:((Z3 l n a b s.pl b_ E0).map (T5 a b s.pl s.fB s.fD E0)).getD k 0=T5 a b s.pl s.fB s.fD E0 rk:=by simp_all
 have fm:((Z3 l n a b s.pl b_ E0).map (T5 a b s.pl s.fB s.fD E0)).getD m 0=T5 a b s.pl s.fB s.fD E0 rm:=by simp_all
 show 0<u6 l _ _ _ k m;unfold u6;rw[if_neg u,R,fm]
 by_cases d:T5 a b s.pl s.fB s.fD E0 rk=T5 a b s.pl s.fB s.fD E0 rm
 ·rw[if_pos d];exact V0F hw K.hR K.hn i0b f
 ·rw[if_neg d];refine X0n ?_ i0b.t0 i0b.t1;rcases R01 (at_:=s.at_) h.ok y with⟨h1,p⟩|⟨h1,h1',p⟩<;>rcases R01 (at_:=s.at_) h.ok v with⟨U,o⟩|⟨U,h3',o⟩
  ·rw[p,o]at heq;have:=hs _ _ O' O' d heq;unfold F5 g0x;cases E0 with
   |false=>grind
   |true=>simp_all
  ·rw[p,o,Q0w]at heq;obtain⟨j,j1,j2,_⟩:=I.first _ (b8 (l:=s.vals) (i:=T5 a b s.pl s.fB s.fD E0 rk) O')
   omega
  ·rw[p,o,Q0w]at heq;obtain⟨j,j1,j2,_⟩:=I.first _ (b8 (l:=s.vals) (i:=T5 a b s.pl s.fB s.fD E0 rm) O')
   omega
  omega
def S0M {vals:List (List Int)}{st:List Nat}(h:∀i∈st,i<vals.length){k:Nat}(hk:k<st.length):gt (st.map fun i:Nat=>gt vals (i:Int)) (k:Int)=gt vals (st.getD k 0:Int)/\st.getD k 0<vals.length:=by
 simp_all[X2]
theorem W0t {s:Cs}{i:Nat}(h:w04 l n s i){may:Nat->Bool}(j:Inv l may i s.vals s.fB s.fD)(hs:E0Y s.vals s.fB)(from_:Int):Inv l may i (s.L0 from_).vals (s.L0 from_).fB (s.L0 from_).fD/\E0Y (s.L0 from_).vals (s.L0 from_).fB:=by
 have q:∀i∈A0v s.vals from_ s.pl.length,i<s.vals.length:=fun i hi=>by rw[h.ok.len];exact Q0X hi
 have u:=T0i s.vals from_ s.pl.length;have x:(s.L0 from_).vals.length=(A0v s.vals from_ s.pl.length).length:=by simp[Cs.L0]
 have d:∀v∈(s.L0 from_).vals,v∈s.vals:=fun v j=>(V0d h.ok.len v j).1;have c:∀k,k<(s.L0 from_).vals.length->gt (s.L0 from_).vals (k:Int)=gt s.vals ((A0v s.vals from_ s.pl.length).getD k 0:Int)/\(A0v s.vals from_ s.pl.length).getD k 0<s.vals.length:=fun k hk=>S0M q O';refine⟨⟨fun v f=>j.first v (d v f),fun v f=>j.rest v (d v f),fun k m hk hm g=>?_⟩,fun k m hk hm p heq=>?_⟩
 ·obtain⟨r,o⟩:=c k hk;obtain⟨m1,m2⟩:=c m hm;rw[r,m1]at g ⊢;exact j.ahead _ _ o m2 g
 ·obtain⟨r,o⟩:=c k hk;obtain⟨m1,m2⟩:=c m hm;unfold q0O at heq;rw[r,m1]at heq;refine hs _ _ o m2 (fun e=>p ?_) heq
  grind [List.pairwise_iff_getElem]
theorem V06 {s:Cs}{i:Nat}(h:w04 l n s i){may:Nat->Bool}(f:Inv l may i s.vals s.fB s.fD)(hs:E0Y s.vals s.fB){q:Nat}(g:q<s.pl.length):a0d s.fB s.fD q s.pl.length=A0v s.vals (q0O s.vals q) s.pl.length:=by
 have j:=h.ok.len;refine List.filter_congr fun x c=>?_;have c:x<s.pl.length:=mem_range.1 c;unfold j0e
 by_cases e:x=q
 ·simp_all
 ·have k:(x==q)=false:=by simp_all
  by_cases d:q0O s.vals x=q0O s.vals q
  ·have:=hs x q O' O' e d
   simp_all
  ·obtain⟨p1,m⟩:=f.ahead x q O' O' d;have hd:=h.ok.rk.dn x q c g
   grind
end
section
variable {vals:List (List Int)}{fD:Nat->Nat->Int}
def T0S (vals:List (List Int))(fD:Nat->Nat->Int):Prop:=∀k m:Nat,k<vals.length->m<vals.length->q0O vals k≠q0O vals m->(0<fD k m↔q0O vals k<q0O vals m)
theorem T0Z (i:T0S vals fD):∀(C:List Nat) (b:Nat),(∀x∈C,x<vals.length)->b<vals.length->∃q:Nat,C.foldl (e09 fD) (b:Int)=q/\q<vals.length/\q0O vals q<=q0O vals b/\∀x∈C,q0O vals q<=q0O vals x
 |[],b,_,d=>⟨b,rfl,d,Int.le_refl _,fun _ h=>by cases h⟩
 |x :: r,b,hC,d=>by
  have f:=hC x Z';have c:∃b':Nat,e09 fD (b:Int) x=b'/\b'<vals.length/\q0O vals b'<=q0O vals b/\q0O vals b'<=q0O vals x:=by
   unfold e09;rw[if_neg O',toNat_natCast]
   by_cases hd:0<fD x b
   ·rw[if_pos hd];refine⟨x,rfl,f,?_,Int.le_refl _⟩
    by_cases g:q0O vals x=q0O vals b
    ·omega
    ·have:=(i x b f d g).1 hd;omega
   ·rw[if_neg hd];refine⟨b,rfl,d,Int.le_refl _,?_⟩
    by_cases g:q0O vals x=q0O vals b
    ·omega
    ·have:¬q0O vals x<q0O vals b:=fun h=>hd ((i x b f d g).2 h);omega
  obtain⟨b',u,h1,o,p⟩:=c;obtain⟨q,k,v,m,s⟩:=T0Z i r b' (fun y j=>hC y (List.mem_cons_of_mem _ j)) h1
  grind
def x0G (vals:List (List Int))(T:Int)(b:Int):Int:=if 0<=b/\q0O vals b.toNat<=T then b else -1
theorem U0A (s:T0S vals fD)(T:Int):∀(C:List Nat) (b:Int),(∀x∈C,x<vals.length/\T<=q0O vals x)->(0<=b->b.toNat<vals.length/\T<=q0O vals b.toNat)->
  x0G vals T (C.foldl (e09 fD) b)=(C.filter fun x=>decide (q0O vals x<=T)).foldl (e09 fD) (x0G vals T b)
 |[],b,_,_=>rfl
 |x :: r,b,hC,hb=>by
  obtain⟨u,U⟩:=hC x Z';have o:0<=e09 fD b x->(e09 fD b x).toNat<vals.length/\T<=q0O vals (e09 fD b x).toNat:=fun k=>by
   unfold e09 at k ⊢
   grind
  have I:=U0A s T r (e09 fD b x) (fun y R=>hC y (List.mem_cons_of_mem _ R)) o;rw[List.foldl_cons,I,List.filter_cons];have f:∀c:Int,c<0->e09 fD c x=x:=fun c h=>by unfold e09;omega
  have i:∀c:Int,0<=c->0<fD x c.toNat->e09 fD c x=x:=fun c h v=>by simp_all[e09]
  have g:∀c:Int,0<=c->¬0<fD x c.toNat->e09 fD c x=c:=fun c h v=>by simp_all[e09,if_neg]
  have j:∀c:Int,c<0->x0G vals T c=-1:=fun c h=>by unfold x0G;omega
  have d:∀c:Int,T<q0O vals c.toNat->x0G vals T c=-1:=fun c h=>by simp_all[x0G,if_neg]
  have m:∀c:Int,0<=c->q0O vals c.toNat<=T->x0G vals T c=c:=fun c h v=>by simp_all[x0G]
  have xT:(x:Int).toNat=x:=toNat_natCast x
  by_cases J:q0O vals x<=T
  ·rw[if_pos (by simp_all),List.foldl_cons];have rx:x0G vals T (x:Int)=x:=m _ O' (by simp_all)
   by_cases k:b<0
   ·rw[f b k,j b k,rx,f (-1) O']
   ·obtain⟨q,b2⟩:=hb O'
    by_cases p:q0O vals x=q0O vals b.toNat
    ·rw[m b O' O']
     by_cases hd:0<fD x b.toNat
     ·rw[i b O' hd,rx]
     ·rw[g b O' hd,m b O' O']
    ·have hd:0<fD x b.toNat:=(s x _ u q p).2 O';rw[i b O' hd,rx,d b O',f (-1) O']
  ·rw[if_neg (by simpa using J)];congr 1;have rx:x0G vals T (x:Int)=-1:=d _ (by rw[xT];omega)
   by_cases k:b<0
   ·rw[f b k,j b k,rx]
   ·obtain⟨q,b2⟩:=hb O'
    by_cases hd:0<fD x b.toNat
    ·rw[i b O' hd,rx]
     by_cases p:q0O vals x=q0O vals b.toNat
     ·rw[d b O']
     ·have:=(s x _ u q p).1 hd;rw[d b O']
    ·rw[g b O' hd]
theorem W0j (f:T0S vals fD){C:List Nat}(d:∀x∈C,x<vals.length){q:Nat}(j:D8 fD C=q):D8 fD (C.filter fun x=>decide (q0O vals x<=q0O vals q))=q:=by
 cases C with
 |nil=>simp_all
 |cons x r=>
  have h1:D8 fD (x :: r)=r.foldl (e09 fD) (x:Int):=by
   rfl
  obtain⟨i,m,p,o,k⟩:=T0Z f r x (fun y c=>d y (List.mem_cons_of_mem _ c)) (d x Z');have e:q=i:=O'
  have:=U0A f (q0O vals q) (x :: r) (-1) (fun y c=>⟨d y c,by
   grind⟩) (fun h=>O')
  have g:(x :: r).foldl (e09 fD) (-1)=(q:Int):=j;rw[g]at this;unfold x0G at this;rw[if_pos ⟨O',Z'⟩,if_neg O']at this;exact this.symm
end
theorem U0D (fD:Nat->Nat->Int)(st:List Nat):∀(C:List Nat) (b:Int),(0<=b->True)->∀b':Int,((b<0/\b'<0)\/(0<=b/\b'=(st.getD b.toNat 0:Nat)))->
  (C.foldl (e09 fun i j=>fD (st.getD i 0) (st.getD j 0)) b<0/\(C.map fun j=>st.getD j 0).foldl (e09 fD) b'<0)\/(0<=C.foldl (e09 fun i j=>fD (st.getD i 0) (st.getD j 0)) b/\(C.map fun j=>st.getD j 0).foldl (e09 fD) b'=(st.getD (C.foldl (e09 fun i j=>fD (st.getD i 0) (st.getD j 0)) b).toNat 0:Nat))
 |[],b,_,b',h=>h
 |x :: r,b,_,b',h=>by
  refine U0D fD st r _ (fun _=>trivial) _ ?_;rcases h with⟨h1,c⟩|⟨h1,c⟩
  ·simp_all[e09]
  ·have d:e09 (fun i j=>fD (st.getD i 0) (st.getD j 0)) b x=if 0<fD (st.getD x 0) (st.getD b.toNat 0)then(x:Int)else b:=by simp_all[e09,if_neg]
   have f:e09 fD b' (st.getD x 0)=if 0<fD (st.getD x 0) (st.getD b.toNat 0)then((st.getD x 0:Nat):Int)else b':=by simp_all[e09,if_neg]
   grind
theorem V0N (e:Nat->B0×Bool)(pl st:List Nat)(c:∀i∈st,i<pl.length):(E7 e (st.map fun i=>pl.getD i 0) (st.map fun i=>pl.getD i 0).length).map (fun j=>st.getD j 0)=st.filter fun i=>(e (pl.getD i 0)).2:=by
 unfold E7;have h1:(List.range (st.map fun i=>pl.getD i 0).length).map (fun j=>st.getD j 0)=st:=by
  refine List.ext_getElem Z' fun j h1 d=>?_
  simp_all
 grind [List.filter_congr]
def G06 (t:Old.Tm)(lo:Nat):t.steps lo≠[]:=by cases t<;>simp[Old.Tm.steps]
section
variable {F:Nat}{l:List C0}{n:Nat}{a:List B0}{b:Nat->List B0}{e:Nat->B0×Bool}{z:B0×Bool}
def E0U (K:U3 l n a b e z F)(hw:∀x∈l,P2 x):∃can,a0v F l=some can/\y0 can (W ((l.length:Int)-1))=true/\gt can (W ((l.length:Int)-1))=z.2:=by
 have f1:=K.f1;obtain⟨t,c⟩:=Old.a0N hw K.hR;have g:=c.le;have i:=c.len;have hp:=t.size_pos;have f:=Old.f05 K.hR;have d:W ((l.length:Int)-1)=(t.top 0:Int):=by rw[E3 O' O'];unfold Old.Tm.top;omega
 have j:t.top 0<l.length:=by unfold Old.Tm.top;omega
 refine⟨Old.M8 l,(Old.n0E hw (show 401<F from O')),V0 (by rw[d];omega) (by rw[d,f.len];omega),?_⟩;rw[d,f.top t 0 c.at0];have h1:=K.TF.mZ;have h:=(Old.u0E hw c K.hR (show 1000001<F from O')).1;rw[h1]at h;have k:=Option.some.inj h;rw[k];have hs:=G06 t 0;cases t.can
 ·rfl
 ·simp only[if_true,o0h];unfold Z8;rw[if_neg (by simpa using hs)];simpa using hs
def x06 (K:U3 l n a b e z F)(hw:∀x∈l,P2 x):d0z F l 0=some (z8 (if z.2 then 2 else 1) [] [] (fun _ _=>0) (fun _ _=>0),0):=by
 obtain⟨can,h1,c,d⟩:=E0U K hw;unfold d0z f0d;rw[K.TF.mR];simp only[q0,beq_self_eq_true,show((0:Int)==1)=false from rfl,h1,c,d];cases z.2<;>rfl
theorem H0s {pl:List Nat}(hp:∀p∈pl,p<n)(ha:pl.Pairwise fun a b=>a<b)(hl:pl.length<=1000)(j:2000<F):i0v F (D1 pl) (n:Int)=some true:=by
 unfold i0v;have:=H3 (step:=h0V F (D1 pl) (n:Int)) (fun i=>(if i=0 then -1 else((pl.getD (i-1) 0:Nat):Int),(i:Int))) (.inr ()) pl.length (fun i hi=>.inl ?_) ?_ pl.length 0 F O' O'
 ·simp_all
 ·unfold h0V;have h1:(i:Int)<((D1 pl).length:Int):=by simp;omega
  have h:=hp _ (getElem_mem hi);have f:¬((pl[i]:Nat):Int)<=(if i=0 then -1 else((pl.getD (i-1) 0:Nat):Int)):=by
   by_cases c:i=0
   ·omega
   ·grind [List.pairwise_iff_getElem]
  have g:¬((pl[i]:Nat):Int)>=(n:Int):=O'
  have d:(if i+1=0 then(-1:Int)else((pl.getD (i+1-1) 0:Nat):Int))=((pl[i]:Nat):Int):=by
   simp_all
  simp only[q0,h1,q9 hi,h0N hi,f,g,X1 (i:=i) O',d]
 simp[h0V]
theorem E0R (K:U3 l n a b e z F){k:Kd}(C:R3 l n k.pl k.maps k.fB k.fD)(h:0<=k.flag)(i:k.flag<=2)(c:g07 F k.maps (C4 l)=some true):c0P F l k.K=some true:=by
 have f1:=K.f1;have hm:=C.le;have hn:=K.T.n64;have g:=C.len;have d:=K9 l l.length;have f:=K.hn;unfold c0P Kd.K z8;have c1:¬k.flag<0:=O'
 have c2:¬k.flag>2:=O'
 have c3:((k.maps.length:Int) != (k.pl.length:Int))=false:=by grind
 have c4:i0v F (D1 k.pl) ((G2 l l.length).length:Int)=some true:=by
  have:=H0s (F:=F) (n:=n) C.pln C.asc O' O'
  simp_all
 simp only[q0,K.TF.mR,c1,c2,c3,K.TF.mL,c4,o0r K.hR (show 401<F from O'),c,e0b,t01 (show k.pl.length<=1000 from O') (show 2000<F from O') C.rk]
def Kd.step (l:List C0)(n:Nat)(a:List B0)(b:Nat->List B0)(k:Kd)(b_:Int):Kd:=
 ⟨if k.flag==1 then 1 else 0,Z3 l n a b k.pl b_ (!(k.flag==0)),(Z3 l n a b k.pl b_ (!(k.flag==0))).map (stM l a b k.pl k.maps k.fB k.fD (!(k.flag==0))),
  u6 l (F5 k.pl (!(k.flag==0)) k.fB) ((Z3 l n a b k.pl b_ (!(k.flag==0))).map (T5 a b k.pl k.fB k.fD (!(k.flag==0)))) ((Z3 l n a b k.pl b_ (!(k.flag==0))).map (V5 a b k.pl k.fB k.fD (!(k.flag==0)))),
  Q6 l (F5 k.pl (!(k.flag==0)) k.fB) (a6 k.pl (!(k.flag==0)) k.fD) ((Z3 l n a b k.pl b_ (!(k.flag==0))).map (T5 a b k.pl k.fB k.fD (!(k.flag==0)))) ((Z3 l n a b k.pl b_ (!(k.flag==0))).map (V5 a b k.pl k.fB k.fD (!(k.flag==0))))⟩
def Kd.K7 (e:Nat->B0×Bool)(mode:Int)(k:Kd):Kd:=if mode==0 then k.cut e else k
def Kd.num (k:Kd):Kd:=⟨k.flag,k.pl,X5 k.maps,k.fB,k.fD⟩
def o0m (K:U3 l n a b e z F)(hw:∀x∈l,P2 x){k:Kd}(C:R3 l n k.pl k.maps k.fB k.fD)(b_:Int):R3 l n (k.step l n a b b_).pl (k.step l n a b b_).maps (k.step l n a b b_).fB (k.step l n a b b_).fD:=by
 have h:=C0W (at_:=0) K C hw b_ (!(k.flag==0));refine⟨by simp[Kd.step],h.pln,h.asc,fun v c=>?_,h.rk⟩;obtain⟨r,d,rfl⟩:=mem_map.1 c;unfold stM;rw[e0V];exact(m07 (w0K C _) (s0j C _) (by rw[<-d0B a b];exact e0o (c09 d).2)).1
theorem t0R {k:Kd}(mode:Int)(C:R3 l n k.pl k.maps k.fB k.fD):R3 l n (k.K7 e mode).pl (k.K7 e mode).maps (k.K7 e mode).fB (k.K7 e mode).fD:=by
 grind [Kd.K7,d0N]
def v0n {k:Kd}(C:R3 l n k.pl k.maps k.fB k.fD):R3 l n k.num.pl k.num.maps k.num.fB k.num.fD:=by
 refine⟨by simp[Kd.num,X5,C.len],C.pln,C.asc,fun v c=>?_,C.rk⟩;obtain⟨r,d,rfl⟩:=mem_map.1 c;rw[List.length_map];exact C.row r d
def w0O (K:U3 l n a b e z F){k:Kd}(C:R3 l n k.pl k.maps k.fB k.fD)(d:0<=k.flag)(f:k.flag<=2):c0P F l k.num.K=some true/\c0k F k.num.K=some ((M4 k.maps).length:Int):=by
 have f1:=K.f1;have hm:=C.le;have hn:=K.T.n64;have c:=C.len;have g:=a07 l;have hk:=A07 (F:=F) (maps:=k.maps) (tags:=(C4 l).toNat) C.row O' O' O' k.num.K;have e:(((C4 l).toNat:Nat):Int)=C4 l:=O'
 rw[e]at hk;exact⟨E0R K (v0n C) d f hk.1,hk.2⟩
theorem F0p (K:U3 l n a b e z F)(hw:∀x∈l,P2 x){k:Kd}(C:R3 l n k.pl k.maps k.fB k.fD)(hR:c0P F l k.K=some true){mode:Int}(c:mode=0\/mode=1){b_:Int}(y:L5 .u8 b_):
  c0Q F l mode k.K b_=some (((k.step l n a b b_).K7 e mode).num.K,M4 ((k.step l n a b b_).K7 e mode).maps):=by
 have f1:=K.f1;have hn:=K.T.n64;have I:=a07 l;have m:=o0m K hw C b_;have s:=t0R (e:=e) mode m;have J:=t0H K C (!(k.flag==0));have u:f0d F mode=some true:=by
  unfold f0d
  grind
 have hg:=y0j (flag:=k.flag) K C (E0:=!(k.flag==0)) Z';have h:(if k.flag==1 then some ((1,[],[],(⟨[],[]⟩:D2)):Int×List Int×List (List Int)×D2)else some (0,[],[],(⟨[],[]⟩:D2)))=some ((k.step l n a b b_).flag,[],[],(⟨[],[]⟩:D2)):=by
  grind [Kd.step]
 have f:=H0h K C hw y (!(k.flag==0)) (k.step l n a b b_).flag (⟨[],[]⟩:D2);have g:=A0k (F:=F) hw K.hR K.hn (show 2000<F from O') K.TF.mL (show C5 k.pl (!(k.flag==0))<=1000 from O') (l0W C (!(k.flag==0))) (w0s K C b_ (!(k.flag==0)));have R:(k.step l n a b b_).T=((k.step l n a b b_).flag,D1 (Z3 l n a b k.pl b_ (!(k.flag==0))),(Z3 l n a b k.pl b_ (!(k.flag==0))).map (stM l a b k.pl k.maps k.fB k.fD (!(k.flag==0))),U2 (Z3 l n a b k.pl b_ (!(k.flag==0))).length (u6 l (F5 k.pl (!(k.flag==0)) k.fB) ((Z3 l n a b k.pl b_ (!(k.flag==0))).map (T5 a b k.pl k.fB k.fD (!(k.flag==0)))) ((Z3 l n a b k.pl b_ (!(k.flag==0))).map (V5 a b k.pl k.fB k.fD (!(k.flag==0))))) (Q6 l (F5 k.pl (!(k.flag==0)) k.fB) (a6 k.pl (!(k.flag==0)) k.fD) ((Z3 l n a b k.pl b_ (!(k.flag==0))).map (T5 a b k.pl k.fB k.fD (!(k.flag==0)))) ((Z3 l n a b k.pl b_ (!(k.flag==0))).map (V5 a b k.pl k.fB k.fD (!(k.flag==0)))))):=rfl;have o:=F0Q K m;have i:k.K.Flag=k.flag:=rfl;have d:∀q:Kd,R3 l n q.pl q.maps q.fB q.fD->Option.bind (g0N F q.T) (fun x=>some (x.1,x.2))=some (q.num.K,M4 q.maps):=fun q j=>by
  unfold Kd.T;rw[B0a (F:=F) (fun r v=>by have:=j.row r v;omega) (by have:=j.len;have:=j.le;omega) O'];rfl
 unfold c0Q;rw[show i0L F l k.K=_ from hg];simp only[G0,i,h,K.TF.mL,f,g,List.length_map];rcases c with rfl|rfl
 ·simp_all[Kd.K7]
 ·have p:=d _ s;unfold Kd.K7 at p ⊢
  simp_all
def a06 (l:List C0)(e:Nat->B0×Bool)(z:B0×Bool)(k:Kd):List Int:=
 if D8 k.fD (E7 e k.pl k.pl.length)<0 then(if z.2&&(k.flag==2&&k.pl.length==0)then Z9 (-1) (-2) (b0I l) (a7 l z.1.Steps)else[])
 else Z9 (-1) (-2) (gt k.maps (D8 k.fD (E7 e k.pl k.pl.length))) (a7 l (e (k.pl.getD (D8 k.fD (E7 e k.pl k.pl.length)).toNat 0)).1.Steps)
theorem E0B (K:U3 l n a b e z F){k:Kd}(C:R3 l n k.pl k.maps k.fB k.fD)(hR:c0P F l k.K=some true):c0s F l k.K=some (a06 l e z k):=by
 have p:=a07 l;unfold c0s a06;rw[hR,show f0G F l k.K=_ from s0W (flag:=k.flag) K C];rcases j07 (fD:=k.fD) (E7 e k.pl k.pl.length) (n:=k.pl.length) (fun i h=>j0P h)with hb|⟨q,hb,hq⟩
 ·have c:=j0K l z.1.Steps;have j:=K.T.zl;have d:((k.K.Places.length:Int)==0)=(k.pl.length==0):=by simp[B0i,Kd.K,z8]
  have g:k.K.Flag=k.flag:=rfl;have h1:¬(-1:Int)>=0:=O'
  simp only[h1,decide_false,false_eq_true,if_false,K.TF.mZ,G0,show((-1:Int)<0)=True from Z',if_true,d,g,t0l K,p07 K.hR (show z.1.Steps.length<=2000000 from O') K.f1 (N2.sok K.T.zb),o0k (F:=F) (tags:=b0I l) (marks:=a7 l z.1.Steps) (now:=-1) (none_:=-2) (by grind [q0p]) O']
  grind
 ·have hp:=P8 C.pln hq;have c:=j0K l (e (k.pl.getD q 0)).1.Steps;have m:=K.T.el _ hp;have h1:(q:Int)>=0:=O'
  have o:¬(q:Int)<0:=O'
  have f:y0 k.maps (q:Int)=true:=V0 O' (by rw[C.len];omega);rw[hb];simp only[q0,h1,o,Kd.K,z8,q9 hq,a0T hq,K.TF.mE _ hp,f,p07 K.hR (show(e (k.pl.getD q 0)).1.Steps.length<=2000000 from O') K.f1 (N2.sok (K.T.eb _ hp)),toNat_natCast]
  grind [o0k,I0B]
end
def T0z {σ τ:Type}{step:σ->Option (Q0 σ τ)}(I:Nat->σ->Prop)(P:τ->Prop){n:Nat}(hs:∀i s,i<n->I i s->(∃d,step s=some (.next d)/\I (i+1) d)\/∃r,step s=some (.done r)/\P r)(hd:∀s,I n s->∃r,step s=some (.done r)/\P r):
  ∀(k i:Nat) (s:σ) (fu:Nat),i+k=n->I i s->k<fu->∃r,iter step fu s=some r/\P r:=by
 intro k
 induction k with
 |zero=>
  intro i s fu hi f g;obtain⟨fu,rfl⟩:∃m,fu=m+1:=⟨fu-1,O'⟩
  obtain⟨r,h1,c⟩:=hd s (by rw[<-show i=n from O'];exact f);exact⟨r,u0x h1,c⟩
 |succ k ih=>
  intro i s fu hi f g;obtain⟨fu,rfl⟩:∃m,fu=m+1:=⟨fu-1,O'⟩
  rcases hs i s O' f with⟨d,h1,c⟩|⟨r,h1,c⟩
  ·rw[n0D h1];exact ih (i+1) d fu O' c O'
  ·exact⟨r,u0x h1,c⟩
section
variable {F:Nat}
end
theorem V0S {N i j d c:Nat}(g:j<=N)(f:c<=N)(h:c9 N i j=c9 N d c):i=d/\j=c:=by
 unfold c9 at h;have h1:(i*(N+1)+j) / (N+1)=i:=by rw[Nat.mul_comm,Nat.mul_add_div O',Nat.div_eq_of_lt O',Nat.add_zero]
 have k:(d*(N+1)+c) / (N+1)=d:=by rw[Nat.mul_comm,Nat.mul_add_div O',Nat.div_eq_of_lt O',Nat.add_zero]
 simp_all
def U0b {α:Type}[Inhabited α]{o:List α}{j m:Nat}{x:α}(h:j≠m):gt (o.set j x) (m:Int)=gt o (m:Int):=by
 simp_all[gt]
structure h0l (l:List C0)(w:List Int)(Can:List (List Bool))(q:Nat)(ok:Nat->Nat->Prop):Prop where
 len:Can.length=q+1
 old:∀lo s,Old.At l lo s->s.top lo<q->K00 Can w.length (s.top lo) (den w s)
 row:(gt Can (q:Int)).length=(w.length+1)*(w.length+1)
 new:∀lo s,Old.At l lo s->s.top lo=q->∀i j:Nat,i<=j->j<=w.length->ok i j->gt (gt Can (q:Int)) (c9 w.length i j:Int)=den w s i j
def h0l.mono {l:List C0}{w:List Int}{Can:List (List Bool)}{q:Nat}{ok c:Nat->Nat->Prop}(h:h0l l w Can q ok)(hk:∀i j,i<=j->j<=w.length->c i j->ok i j):h0l l w Can q c:=⟨h.len,h.old,h.row,fun lo s h1 k i j f d g=>h.new lo s h1 k i j f d (hk i j f d g)⟩
section
variable {F:Nat}
theorem W0v {l:List C0}{w:List Int}{t:Old.Tm}(ht:Old.I4 l t)(hw:∀x∈l,P2 x)(hb:∀x∈w,L5 .u8 x)(hN:w.length<=64)(hf:2000<F){q:Nat}(hq:q<l.length){i:Nat}(hi:i<=w.length){y:List (List Bool)}(hy:h0l l w y q fun c _=>i<c):
  ∃y',iter (S0b F l w (q:Int) (w.length:Int) (i:Int)) F ((i:Int),y)=some y'/\h0l l w y' q fun c _=>i<=c:=by
 refine T0z (step:=S0b F l w (q:Int) (w.length:Int) (i:Int)) (fun j s=>s.1=(j:Int)/\i<=j/\h0l l w s.2 q fun c g=>i<c\/(c=i/\g<j)) (fun y'=>h0l l w y' q fun c _=>i<=c) (n:=w.length+1) (fun j s hj J=>?_) (fun s J=>?_) (w.length+1-i) i ((i:Int),y) F O' ⟨rfl,le_refl _,hy.mono fun c g h1 o C=>O'⟩ O'
 ·obtain⟨s1,Can⟩:=s;obtain⟨r,R,T⟩:=J;simp only at r T;subst r;have c1:(j:Int)<=(w.length:Int):=O'
  have hlen:=T.len;have u:y0 Can (q:Int)=true:=V0 O' O'
  ·have h:∀lo s,Old.At l lo s->s.top lo=q->S0c F l w ⟨(w.length:Int),Can⟩ (q:Int) (i:Int) (j:Int)=some (den w s i j):=fun lo s f d=>by
    have:=one_den (F:=F) hw hb hN hf (Can:=Can) f O' (fun lo' m h1 o=>T.old lo' m h1 O') R O' (by rw[d];exact⟨T.row,fun k k1 k2=>T.new lo s f d k j k2 O' (.inl k1)⟩)
    simp_all
   obtain⟨lo,s,f,d⟩:=ht.node hq;have hv:=h lo s f d;have hc:=U0s hi (show j<=w.length from O');refine .inl ⟨(((j+1:Nat):Int),Can.set q ((gt Can (q:Int)).set (c9 w.length i j) (den w s i j))),?_,rfl,O',⟨by grind,fun lo' m h1 o=>?_,?_,fun lo' m h1 o c g C h4 h5=>?_⟩⟩
   ·have v:y0 (gt Can (q:Int)) (c9 w.length i j:Int)=true:=V0 O' (by rw[T.row];omega);unfold S0b;simp only[q0,c1,u,hv,U01 hN hi (show j<=w.length from O'),v,toNat_natCast,X1 (i:=j) O']
   ·have C:=T.old lo' m h1 o;have e:gt (Can.set q ((gt Can (q:Int)).set (c9 w.length i j) (den w s i j))) (m.top lo':Int)=gt Can (m.top lo':Int):=U0b O'
    simp_all[K00]
   ·have e:gt (Can.set q ((gt Can (q:Int)).set (c9 w.length i j) (den w s i j))) (q:Int)=(gt Can (q:Int)).set (c9 w.length i j) (den w s i j):=X2 (List.getElem?_set_self O');rw[e,List.length_set];exact T.row
   ·have e:gt (Can.set q ((gt Can (q:Int)).set (c9 w.length i j) (den w s i j))) (q:Int)=(gt Can (q:Int)).set (c9 w.length i j) (den w s i j):=X2 (List.getElem?_set_self O');rw[e]
    by_cases p:c=i/\g=j
    ·obtain⟨rfl,rfl⟩:=p;have U:=h lo' m h1 o;rw[hv]at U;rw[<-Option.some.inj U];exact X2 (List.getElem?_set_self (by rw[T.row];exact hc))
    ·have I:c9 w.length i j≠c9 w.length c g:=fun hh=>by
      grind [V0S]
     have e2:gt ((gt Can (q:Int)).set (c9 w.length i j) (den w s i j)) (c9 w.length c g:Int)=gt (gt Can (q:Int)) (c9 w.length c g:Int):=U0b I;rw[e2];refine T.new lo' m h1 o c g C h4 ?_;omega
 ·obtain⟨s1,Can⟩:=s;obtain⟨r,_,T⟩:=J;simp only at r T;subst r;have c1:¬((w.length+1:Nat):Int)<=(w.length:Int):=O'
  unfold S0b;simp only[q0,c1];exact⟨_,rfl,T.mono fun c g h1 o C=>O'⟩
theorem V0r {l:List C0}{w:List Int}{t:Old.Tm}(m:Old.I4 l t)(hw:∀x∈l,P2 x)(v:∀x∈w,L5 .u8 x)(u:w.length<=64)(p:2000<F){q:Nat}(o:q<l.length){y:List (List Bool)}(r:h0l l w y q fun c _=>w.length<c):
  ∃y',iter (S0f F l w (q:Int) (w.length:Int)) F ((w.length:Int),y)=some y'/\h0l l w y' q fun _ _=>True:=by
 refine T0z (step:=S0f F l w (q:Int) (w.length:Int)) (fun d s=>s.1=(w.length:Int)-(d:Int)/\h0l l w s.2 q fun c _=>(w.length:Int)-(d:Int)<(c:Int)) (fun y'=>h0l l w y' q fun _ _=>True) (n:=w.length+1) (fun d s hd h=>?_) (fun s h=>?_) (w.length+1) 0 ((w.length:Int),y) F O' ⟨Z',r.mono fun c f h1 j g=>O'⟩ O'
 ·obtain⟨s1,Can⟩:=s;obtain⟨k,T⟩:=h;obtain⟨i,hi⟩:∃i:Nat,(w.length:Int)-(d:Int)=i:=⟨w.length-d,O'⟩
  obtain⟨y',g1,g2⟩:=W0v (F:=F) m hw v u p o (i:=i) O' (T.mono fun c f h1 j g=>O');refine .inl ⟨((w.length:Int)-((d+1:Nat):Int),y'),?_,rfl,g2.mono fun c f h1 j g=>O'⟩;have C:W ((i:Int)-1)=(w.length:Int)-((d+1:Nat):Int):=by grind [E3]
  simp_all[S0f]
 ·obtain⟨s1,Can⟩:=s;obtain⟨k,T⟩:=h;subst k;have c1:¬(w.length:Int)-((w.length+1:Nat):Int)>=0:=O'
  unfold S0f;simp only[q0,c1];exact⟨_,rfl,T.mono fun c f h1 j g=>O'⟩
theorem U00 {l:List C0}{w:List Int}{t:Old.Tm}(g:Old.I4 l t)(hw:∀x∈l,P2 x)(hb:∀x∈w,L5 .u8 x)(hN:w.length<=64)(U:2000<F):
  ∃Can,R0I F l w=some ⟨(w.length:Int),Can⟩/\Can.length=l.length/\∀lo s,Old.At l lo s->K00 Can w.length (s.top lo) (den w s):=by
 have C:=g.le;have a1:=g.len;have hp:=T0z (step:=S0W F l w) (fun q s=>s.1=(q:Int)/\s.2.1=(w.length:Int)/\s.2.2.length=q/\∀lo d,Old.At l lo d->d.top lo<q->K00 s.2.2 w.length (d.top lo) (den w d))
  (fun r=>r.1=(w.length:Int)/\r.2.length=l.length/\∀lo d,Old.At l lo d->d.top lo<l.length->K00 r.2 w.length (d.top lo) (den w d)) (n:=l.length) (fun q s J p=>?_) (fun s p=>?_) l.length 0 (0,((w.length:Int),[])) F O' ⟨rfl,rfl,rfl,fun lo d _ h=>O'⟩ O'
 ·obtain⟨⟨N2,Can⟩,g1,g2,g3,g4⟩:=hp;refine⟨Can,?_,g3,fun lo s c=>g4 lo s c ?_⟩
  ·simp_all[R0I]
  ·have:=c.len;have:=s.size_pos
   grind [Old.Tm.top]
 ·obtain⟨s1,s2,Can⟩:=s;obtain⟨f,h1,y,v⟩:=p;subst f;subst h1;have c1:(q:Int)<(l.length:Int):=O'
  have hm:(w.length+1)*(w.length+1)<=65*65:=mul_le_mul O' O';have R:W ((W ((w.length:Int)+1))*(W ((w.length:Int)+1)))=(((w.length+1)*(w.length+1):Nat):Int):=by
   grind [E3]
  have o:R2 1 (((w.length+1)*(w.length+1):Nat):Int)=true:=by
   grind [R2]
  have k:K0 24 Can [List.replicate ((w.length+1)*(w.length+1)) false]=true:=by grind [K0]
  have T0:h0l l w (Can++[List.replicate ((w.length+1)*(w.length+1)) false]) q fun i' _=>w.length<i':=by
   refine⟨by grind,fun lo s c m=>?_,?_,fun lo s _ _ i j u I h6=>O'⟩
   ·simp_all[K00,b0Y]
   simp_all[e0v]
  obtain⟨y',g1,g2⟩:=V0r (F:=F) g hw hb hN U J T0;refine .inl ⟨(((q+1:Nat):Int),((w.length:Int),y')),?_,rfl,rfl,g2.len,fun lo s c m=>?_⟩
  ·unfold S0W;simp only[q0,c1,R,o,toNat_natCast,k,g1,X1 (i:=q) O']
  ·by_cases e:s.top lo=q
   ·rw[e];exact⟨g2.row,fun i j u I=>g2.new lo s c e i j u I trivial⟩
   ·exact g2.old lo s c O'
 ·obtain⟨s1,s2,Can⟩:=s;obtain⟨f,h1,y,v⟩:=p;simp only at f h1 y v;subst f;subst h1;have c1:¬(l.length:Int)<(l.length:Int):=O'
  unfold S0W
  simp_all
end
def A8 (c:Nat->Bool):Nat->Nat
 |0=>0
 |k+1=>if c (k+1)then k+1 else A8 c k
def S0w {c:Nat->Bool}:∀{j k:Nat},k<=j->c k=true->c (A8 c j)=true/\k<=A8 c j/\A8 c j<=j
 |0,k,h,hc=>by
  have:k=0:=O'
  subst this;exact⟨hc,le_refl _,le_refl _⟩
 |j+1,k,h,hc=>by
  unfold A8;cases e:c (j+1)with
  |true=>rw[if_pos rfl];exact⟨e,h,le_refl _⟩
  |false=>
   rw[if_neg Z'];have hk:k<=j:=by
    rcases Nat.lt_or_ge j k with d|d
    ·have:k=j+1:=O'
     subst this;rw[e]at hc;cases hc
    ·exact d
   obtain⟨h1,d,f⟩:=S0w (j:=j) hk hc;exact⟨h1,d,O'⟩
def S05 {step:Int->Option (Q0 Int Int)}(c:Nat->Bool){lo:Nat}(d:c lo=true):∀(j:Nat),lo<=j->(∀k,lo<=k->k<=j->step (k:Int)=some (if c k then .done (k:Int)else .next ((k:Int)-1)))->∀fu,j<fu->iter step fu (j:Int)=some (A8 c j:Int)
 |0,h,hs,fu,hfu=>by
  obtain⟨fu,rfl⟩:∃m,fu=m+1:=⟨fu-1,O'⟩
  have i:lo=0:=O'
  subst i;have:=hs 0 (le_refl _) (le_refl _);rw[d]at this;exact u0x this
 |j+1,h,hs,fu,hfu=>by
  obtain⟨fu,rfl⟩:∃m,fu=m+1:=⟨fu-1,O'⟩
  have h1:=hs (j+1) h (le_refl _);unfold A8;cases e:c (j+1)with
  |true=>
   rw[e]at h1;rw[u0x h1];rfl
  |false=>
   rw[e]at h1;have f:lo≠j+1:=fun p=>by rw[p]at d;rw[e]at d;cases d
   have g:((j+1:Nat):Int)-1=(j:Int):=O'
   rw[n0D h1,g,S05 c d j O' (fun k o q=>hs k o O') fu O'];simp
def m0i (g:Nat->Nat->List g0A)(f:Nat->Nat->Bool):Nat->Nat->Nat->List g0A
 |0,_,_=>[]
 |n+1,i,j=>if i<j then g i (A8 (fun k=>f i k&&w8 f k j) j)++m0i g f n (A8 (fun k=>f i k&&w8 f k j) j) j else[]
def A5 (w:List Int):Old.Tm->Nat->Nat->Nat->Nat->List g0A
 |.eps,lo,deep,i,j=>[⟨(deep:Int),(Old.Tm.top .eps lo:Int),(i:Int),(j:Int)⟩]
 |.leaf s,lo,deep,i,j=>[⟨(deep:Int),(Old.Tm.top (.leaf s) lo:Int),(i:Int),(j:Int)⟩]
 |.cat a b,lo,deep,i,j=>(⟨(deep:Int),(Old.Tm.top (.cat a b) lo:Int),(i:Int),(j:Int)⟩:g0A) :: (A5 w a lo (deep+1) i (A8 (fun k=>den w a i k&&den w b k j) j)++A5 w b (lo+a.size) (deep+1) (A8 (fun k=>den w a i k&&den w b k j) j) j)
 |.alt a b,lo,deep,i,j=>(⟨(deep:Int),(Old.Tm.top (.alt a b) lo:Int),(i:Int),(j:Int)⟩:g0A) :: if den w a i j then A5 w a lo (deep+1) i j else A5 w b (lo+a.size) (deep+1) i j
 |.star a,lo,deep,i,j=>(⟨(deep:Int),(Old.Tm.top (.star a) lo:Int),(i:Int),(j:Int)⟩:g0A) :: m0i (fun i k=>A5 w a lo (deep+1) i k) (den w a) (j-i) i j
 |.maybe a,lo,deep,i,j=>(⟨(deep:Int),(Old.Tm.top (.maybe a) lo:Int),(i:Int),(j:Int)⟩:g0A) :: if i<j then A5 w a lo (deep+1) i j else[]
 |.group m a,lo,deep,i,j=>(⟨(deep:Int),(Old.Tm.top (.group m a) lo:Int),(i:Int),(j:Int)⟩:g0A) :: A5 w a lo (deep+1) i j
 |.iter a,lo,deep,i,j=>(⟨(deep:Int),(Old.Tm.top (.iter a) lo:Int),(i:Int),(j:Int)⟩:g0A) :: A5 w a lo (deep+1) i j
def L0Z (w:List Int):∀(s:Old.Tm) (i j:Nat),den w s i j=true->i<=j
 |.eps,i,j,h=>by
            have:i=j:=by simpa[den]using h
            omega
 |.leaf st,i,j,h=>by
  simp only[den,and_eq_true,beq_iff_eq]at h;omega
 |.cat a b,i,j,h=>by
  simp only[den,any_eq_true,mem_range,and_eq_true,decide_eq_true_eq]at h;obtain⟨k,h1,c,_⟩:=h;omega
 |.alt a b,i,j,h=>by
  simp only[den,or_eq_true]at h;rcases h with h|h
  ·exact L0Z w a i j h
  ·exact L0Z w b i j h
 |.star a,i,j,h=>by
  simp only[den]at h;rw[R0q]at h;simp only[or_eq_true,beq_iff_eq,any_eq_true,mem_range,and_eq_true,decide_eq_true_eq]at h;rcases h with h|⟨k,h1,c,_⟩<;>omega
 |.maybe a,i,j,h=>by
  simp only[den,or_eq_true,beq_iff_eq]at h;rcases h with h|h
  ·omega
  ·exact L0Z w a i j h
 |.group _ a,i,j,h=>L0Z w a i j h
 |.iter a,i,j,h=>L0Z w a i j h
def U0P {f:Nat->Nat->Bool}{i j:Nat}(h:w8 f i j=true)(m:i<j):(f i (A8 (fun k=>f i k&&w8 f k j) j)=true/\w8 f (A8 (fun k=>f i k&&w8 f k j) j) j=true)/\i<A8 (fun k=>f i k&&w8 f k j) j/\A8 (fun k=>f i k&&w8 f k j) j<=j:=by
 rw[R0q]at h;have d:(i==j)=false:=by rw[beq_eq_false_iff_ne];omega
 rw[d,Bool.false_or,any_eq_true]at h;obtain⟨k,h1,g⟩:=h;simp only[and_eq_true,decide_eq_true_eq]at g;have h1:=mem_range.1 h1;obtain⟨g1,g2,g3⟩:=S0w (c:=fun k=>f i k&&w8 f k j) (j:=j) (k:=k) O' (by simp[g.2.1,g.2.2]);simp only[and_eq_true]at g1;exact⟨g1,O',g3⟩
def U0r {g:Nat->Nat->List g0A}{f:Nat->Nat->Bool}{m:Nat}(hg:∀i k,f i k=true->i<k->(g i k).length<=m*(k-i)):∀(n i j:Nat),w8 f i j=true->(m0i g f n i j).length<=m*(j-i)
 |0,i,j,_=>by simp[m0i]
 |n+1,i,j,h=>by
  unfold m0i
  by_cases c:i<j
  ·rw[if_pos c];obtain⟨⟨g1,g2⟩,g3,g4⟩:=U0P h c;generalize A8 (fun k=>f i k&&w8 f k j) j=k at *;have h1:=hg i k g1 g3;have d:=U0r hg n k j g2;have e:m*(k-i)+m*(j-k)=m*(j-i):=by rw[<-Nat.mul_add];congr 1;omega
   rw[length_append];omega
  ·rw[if_neg c];simp
def U0i {w:List Int}{a b:Old.Tm}{i j:Nat}(h:den w (.cat a b) i j=true):(den w a i (A8 (fun k=>den w a i k&&den w b k j) j)=true/\den w b (A8 (fun k=>den w a i k&&den w b k j) j) j=true)/\i<=A8 (fun k=>den w a i k&&den w b k j) j/\A8 (fun k=>den w a i k&&den w b k j) j<=j:=by
 simp only[den,any_eq_true,mem_range,and_eq_true,decide_eq_true_eq]at h;obtain⟨k,h1,g,f,d⟩:=h;obtain⟨g1,g2,g3⟩:=S0w (c:=fun k=>den w a i k&&den w b k j) (j:=j) (k:=k) O' (by simp[f,d]);simp only[and_eq_true]at g1;exact⟨g1,O',g3⟩
def J0k (w:List Int):∀(s:Old.Tm) (lo deep i j:Nat),den w s i j=true->(A5 w s lo deep i j).length<=s.size*max (j-i) 1
 |.eps,lo,deep,i,j,h=>by simp[A5,Old.Tm.size];omega
 |.leaf s,lo,deep,i,j,h=>by simp[A5,Old.Tm.size];omega
 |.cat a b,lo,deep,i,j,h=>by
  obtain⟨⟨g1,g2⟩,g3,g4⟩:=U0i h;unfold A5;generalize A8 (fun k=>den w a i k&&den w b k j) j=k at *;have h1:=J0k w a lo (deep+1) i k g1;have d:=J0k w b (lo+a.size) (deep+1) k j g2;have q:a.size*max (k-i) 1<=a.size*max (j-i) 1:=Nat.mul_le_mul_left _ O';have p:b.size*max (j-k) 1<=b.size*max (j-i) 1:=Nat.mul_le_mul_left _ O';simp only[length_cons,length_append,Old.Tm.size,add_mul,one_mul];omega
 |.alt a b,lo,deep,i,j,h=>by
  unfold A5;simp only[length_cons,Old.Tm.size,add_mul,one_mul];cases c:den w a i j with
  |true=>
   have h1:=J0k w a lo (deep+1) i j c;rw[if_pos rfl];omega
  |false=>
   have o:den w b i j=true:=by
    simp only[den,c,Bool.false_or]at h;exact h
   have h1:=J0k w b (lo+a.size) (deep+1) i j o;rw[if_neg Z'];omega
 |.star a,lo,deep,i,j,h=>by
  unfold A5;have h1:=U0r (g:=fun i k=>A5 w a lo (deep+1) i k) (f:=den w a) (m:=a.size) (fun i k h1 d=>by
   have:=J0k w a lo (deep+1) i k h1;rw[show max (k-i) 1=k-i from O']at this;exact this) (j-i) i j h
  have d:a.size*(j-i)<=a.size*max (j-i) 1:=Nat.mul_le_mul_left _ O';simp only[length_cons,Old.Tm.size,add_mul,one_mul];omega
 |.maybe a,lo,deep,i,j,h=>by
  unfold A5;simp only[length_cons,Old.Tm.size,add_mul,one_mul]
  by_cases c:i<j
  ·rw[if_pos c];have ha:den w a i j=true:=by
    simp only[den]at h;have:(i==j)=false:=by rw[beq_eq_false_iff_ne];omega
    rw[this,Bool.false_or]at h;exact h
   have h1:=J0k w a lo (deep+1) i j ha;omega
  ·rw[if_neg c];simp;omega
 |.group _ a,lo,deep,i,j,h=>by
  have h1:=J0k w a lo (deep+1) i j h;unfold A5;simp only[length_cons,Old.Tm.size,add_mul,one_mul];omega
 |.iter a,lo,deep,i,j,h=>by
  have h1:=J0k w a lo (deep+1) i j h;unfold A5;simp only[length_cons,Old.Tm.size,add_mul,one_mul];omega
section
variable {F:Nat}{l:List C0}{w:List Int}{Can:List (List Bool)}
def V0Z {r:List C0->f0r->Int->Int->Int->Int->Option (List g0A)}{a:Old.Tm}{lo deep:Nat}{j:Nat}{q:Int}(hd:deep<=100000)(I:j<=64)(J:2000<F)
  (x:∀i k:Nat,i<=k->k<=j->A9 F ⟨(w.length:Int),Can⟩ ((gt l q).A) (i:Int) (k:Int)=some (den w a i k)) (y:∀k:Nat,k<=j->A9 F ⟨(w.length:Int),Can⟩ q (k:Int) (j:Int)=some (w8 (den w a) k j))
  (C:∀i k:Nat,den w a i k=true->i<=k->k<=j->r l ⟨(w.length:Int),Can⟩ ((gt l q).A) (((deep+1:Nat)):Int) (i:Int) (k:Int)=some (A5 w a lo (deep+1) i k)):
  ∀(d i:Nat) (out:List g0A) (fu:Nat),j-i<=d->w8 (den w a) i j=true->out.length+a.size*(j-i)<=100000->d<fu->iter (S0g F r l ⟨(w.length:Int),Can⟩ q (deep:Int) (j:Int)) fu ((i:Int),out)=some (out++m0i (fun i k=>A5 w a lo (deep+1) i k) (den w a) d i j):=by
 intro d
 induction d with
 |zero=>
  intro i out fu h1 p v s;obtain⟨fu,rfl⟩:∃m,fu=m+1:=⟨fu-1,O'⟩
  have c1:¬(i:Int)<(j:Int):=O'
  have e0:m0i (fun i k=>A5 w a lo (deep+1) i k) (den w a) 0 i j=[]:=rfl;rw[e0,List.append_nil];refine u0x ?_;unfold S0g;simp only[q0,c1]
 |succ d ih=>
  intro i out fu h1 p v s;obtain⟨fu,rfl⟩:∃m,fu=m+1:=⟨fu-1,O'⟩
  unfold m0i
  by_cases c:i<j
  ·have c1:(i:Int)<(j:Int):=O'
   rw[if_pos c];obtain⟨⟨g1,g2⟩,g3,g4⟩:=U0P p c;have h:=S05 (step:=T0E F l ⟨(w.length:Int),Can⟩ q (j:Int) (i:Int)) (fun k=>den w a i k&&w8 (den w a) k j) (lo:=A8 (fun k=>den w a i k&&w8 (den w a) k j) j) (by simp[g1,g2]) j g4 (fun k R o=>by
    unfold T0E;have u:W ((k:Int)-1)=(k:Int)-1:=E3 O' O';simp only[x i k O' o,y k o,G0,u];cases den w a i k
    ·rfl
    ·cases w8 (den w a) k j<;>rfl) F O'
   generalize A8 (fun k=>den w a i k&&w8 (den w a) k j) j=k at *;have hlen:=J0k w a lo (deep+1) i k g1;rw[show max (k-i) 1=k-i from O']at hlen;have e:a.size*(k-i)+a.size*(j-k)=a.size*(j-i):=by rw[<-Nat.mul_add];congr 1;omega
   have g:K0 32 out (A5 w a lo (deep+1) i k)=true:=by simp[K0];omega
   have f:=ih k (out++A5 w a lo (deep+1) i k) fu O' g2 (by rw[length_append];omega) O';rw[List.append_assoc]at f;rw[<-f];refine n0D ?_;unfold S0g;simp only[q0,c1,h,X1 (i:=deep) O',C i k g1 O' g4,g]
  ·have c1:¬(i:Int)<(j:Int):=O'
   rw[if_neg c];rw[List.append_nil];refine u0x ?_;unfold S0g;simp only[q0,c1]
end
section
variable {F:Nat}{l:List C0}{w:List Int}{Can:List (List Bool)}
theorem U0h (hN:w.length<=64)(hf:2000<F)(hlen:Can.length=l.length)(X0:∀lo s,Old.At l lo s->K00 Can w.length (s.top lo) (den w s)):
  ∀(s:Old.Tm) (lo n deep i j:Nat),Old.At l lo s->s.size<=n->s.size<=400->deep+s.size<=1000->den w s i j=true->j<=w.length->a0O F n l ⟨(w.length:Int),Can⟩ (s.top lo:Int) (deep:Int) (i:Int) (j:Int)=some (A5 w s lo deep i j):=by
 have v:∀{s:Old.Tm} {lo i j:Nat},Old.At l lo s->i<=j->j<=w.length->A9 F ⟨(w.length:Int),Can⟩ (s.top lo:Int) (i:Int) (j:Int)=some (den w s i j):=fun {s lo i j} d h1 R=>by
  have:=d.len;have:=s.size_pos
  grind [J0i,Old.Tm.top]
 have ap:∀{x y:List g0A},x.length<=100000->y.length<=100000->K0 32 x y=true:=fun {x y} h1 R=>by grind [K0]
 have C:∀{s:Old.Tm} {lo deep i j:Nat},s.size<=400->den w s i j=true->j<=w.length->(A5 w s lo deep i j).length<=30000:=fun {s lo deep i j} h1 R h3=>by
  have p:=J0k w s lo deep i j R;have h5:s.size*max (j-i) 1<=400*64:=mul_le_mul h1 O';omega
 intro s
 induction s with
 |eps=>
  intro lo n deep i j d hn p hd f h;obtain⟨n,rfl⟩:∃m,n=m+1:=⟨n-1,by simp_all[Old.Tm.size]⟩
  have hl:=d.len;have g:y0 l (Old.Tm.top .eps lo:Int)=true:=V0 O' (by grind [Old.Tm.top,Old.Tm.size]);unfold a0O;rw[d.N3];simp only[g,if_true,Old.Tm.node];rfl
 |leaf st=>
  intro lo n deep i j d hn p hd f h;obtain⟨n,rfl⟩:∃m,n=m+1:=⟨n-1,by simp_all[Old.Tm.size]⟩
  have hl:=d.len;have g:y0 l (Old.Tm.top (.leaf st) lo:Int)=true:=V0 O' (by grind [Old.Tm.top,Old.Tm.size]);unfold a0O;rw[d.N3];simp only[g,if_true,Old.Tm.node];rfl
 |cat a b iha ihb=>
  intro lo n deep i j d hn p hd f h;obtain⟨n,rfl⟩:∃m,n=m+1:=⟨n-1,by simp only[Old.Tm.size]at hn;omega⟩
  have hl:=d.len;simp only[Old.Tm.size]at hn p hd hl;have g:y0 l (Old.Tm.top (.cat a b) lo:Int)=true:=V0 O' U';obtain⟨ha,hb,_⟩:=(Old.At.bin (a:=a) (b:=b) rfl rfl).1 d;obtain⟨⟨g1,g2⟩,g3,g4⟩:=U0i f;have b2:=S05 (step:=S03 F l ⟨(w.length:Int),Can⟩ (Old.Tm.top (.cat a b) lo:Int) (i:Int) (j:Int)) (fun k=>den w a i k&&den w b k j) (lo:=A8 (fun k=>den w a i k&&den w b k j) j) (by simp[g1,g2]) j g4 (fun k k1 k2=>by
   unfold S03;have hW:W ((k:Int)-1)=(k:Int)-1:=E3 O' O';rw[d.N3];simp only[Old.Tm.node,v ha (show i<=k from O') (show k<=w.length from O'),v hb k2 h,G0,hW];cases den w a i k
   ·rfl
   ·cases den w b k j<;>rfl) F O'
  unfold A5;generalize A8 (fun k=>den w a i k&&den w b k j) j=k at *;have u:=iha lo n (deep+1) i k ha O' O' O' g1 O';have e2:=ihb (lo+a.size) n (deep+1) k j hb O' O' O' g2 h;have l1:=C (lo:=lo) (deep:=deep+1) (show a.size<=400 from O') g1 (show k<=w.length from O');have l2:=C (lo:=lo+a.size) (deep:=deep+1) (show b.size<=400 from O') g2 h;unfold a0O;rw[d.N3];have I:K0 32 [(⟨(deep:Int),(Old.Tm.top (.cat a b) lo:Int),(i:Int),(j:Int)⟩:g0A)] (A5 w a lo (deep+1) i k)=true:=ap Z' O';have J:K0 32 ([(⟨(deep:Int),(Old.Tm.top (.cat a b) lo:Int),(i:Int),(j:Int)⟩:g0A)]++A5 w a lo (deep+1) i k) (A5 w b (lo+a.size) (deep+1) k j)=true:=ap V' O';simp only[g,if_true,Old.Tm.node,beq_self_eq_true,b2,G0,X1 (i:=deep) O',u,I,e2,J];simp
 |alt a b iha ihb=>
  intro lo n deep i j d hn p hd f h;obtain⟨n,rfl⟩:∃m,n=m+1:=⟨n-1,by simp only[Old.Tm.size]at hn;omega⟩
  have hl:=d.len;simp only[Old.Tm.size]at hn p hd hl;have g:y0 l (Old.Tm.top (.alt a b) lo:Int)=true:=V0 O' U';obtain⟨ha,hb,_⟩:=(Old.At.bin (a:=a) (b:=b) rfl rfl).1 d;have a1:=L0Z w _ i j f;unfold A5 a0O;rw[d.N3];simp only[q0,g,Old.Tm.node,show((4:Int)==3)=false from rfl,beq_self_eq_true,v ha a1 h,X1 (i:=deep) O'];cases c:den w a i j with
  |true=>
   have u:=iha lo n (deep+1) i j ha O' O' O' c h;have o:K0 32 [(⟨(deep:Int),(Old.Tm.top (.alt a b) lo:Int),(i:Int),(j:Int)⟩:g0A)] (A5 w a lo (deep+1) i j)=true:=ap Z' (by have:=C (lo:=lo) (deep:=deep+1) (show a.size<=400 from O') c h;omega);simp only[if_true,u,G0,o];rfl
  |false=>
   have U:den w b i j=true:=by simp only[den,c,Bool.false_or]at f;exact f
   have u:=ihb (lo+a.size) n (deep+1) i j hb O' O' O' U h;have o:K0 32 [(⟨(deep:Int),(Old.Tm.top (.alt a b) lo:Int),(i:Int),(j:Int)⟩:g0A)] (A5 w b (lo+a.size) (deep+1) i j)=true:=ap Z' (by have:=C (lo:=lo+a.size) (deep:=deep+1) (show b.size<=400 from O') U h;omega);simp only[q0,u,o];rfl
 |star a iha=>
  intro lo n deep i j d hn p hd f h;obtain⟨n,rfl⟩:∃m,n=m+1:=⟨n-1,by simp only[Old.Tm.size]at hn;omega⟩
  have hl:=d.len;simp only[Old.Tm.size]at hn p hd hl;have g:y0 l (Old.Tm.top (.star a) lo:Int)=true:=V0 O' U';obtain⟨ha,_⟩:=(Old.At.un (a:=a) rfl rfl).1 d;have hA:(gt l (Old.Tm.top (.star a) lo:Int)).A=(a.top lo:Int):=by rw[d.N3];rfl
  have b1:=V0Z (F:=F) (l:=l) (w:=w) (Can:=Can) (r:=a0O F n) (a:=a) (lo:=lo) (deep:=deep) (j:=j) (q:=(Old.Tm.top (.star a) lo:Int)) O' O' hf
   (fun i k h1 R=>by rw[hA];exact v ha h1 O') (fun k h1=>v d h1 h) (fun i k h1 R h3=>by rw[hA];exact iha lo n (deep+1) i k ha O' O' O' h1 O')
   (j-i) i [(⟨(deep:Int),(Old.Tm.top (.star a) lo:Int),(i:Int),(j:Int)⟩:g0A)] F (le_refl _) f (by
    have:a.size*(j-i)<=400*64:=mul_le_mul O' O';simp;omega) O'
  unfold A5 a0O;rw[d.N3];simp only[q0,g,Old.Tm.node,show((5:Int)==3)=false from rfl,show((5:Int)==4)=false from rfl,beq_self_eq_true,b1];rfl
 |maybe a iha=>
  intro lo n deep i j d hn p hd f h;obtain⟨n,rfl⟩:∃m,n=m+1:=⟨n-1,by simp only[Old.Tm.size]at hn;omega⟩
  have hl:=d.len;simp only[Old.Tm.size]at hn p hd hl;have g:y0 l (Old.Tm.top (.maybe a) lo:Int)=true:=V0 O' U';obtain⟨ha,_⟩:=(Old.At.un (a:=a) rfl rfl).1 d;have a1:=L0Z w _ i j f;unfold A5 a0O;rw[d.N3];simp only[q0,g,Old.Tm.node,show((6:Int)==3)=false from rfl,show((6:Int)==4)=false from rfl,show((6:Int)==5)=false from rfl,beq_self_eq_true,X1 (i:=deep) O']
  by_cases c:i<j
  ·have c1:(i:Int)<(j:Int):=O'
   have hda:den w a i j=true:=by
    simp only[den]at f;have:(i==j)=false:=by rw[beq_eq_false_iff_ne];omega
    rw[this,Bool.false_or]at f;exact f
   have u:=iha lo n (deep+1) i j ha O' O' O' hda h;have o:K0 32 [(⟨(deep:Int),(Old.Tm.top (.maybe a) lo:Int),(i:Int),(j:Int)⟩:g0A)] (A5 w a lo (deep+1) i j)=true:=ap Z' (by have:=C (lo:=lo) (deep:=deep+1) (show a.size<=400 from O') hda h;omega);simp only[q0,c,c1,u,o];rfl
  ·have c1:¬(i:Int)<(j:Int):=O'
   simp only[q0,c,c1]
 |group m a iha=>
  intro lo n deep i j d hn p hd f h;obtain⟨n,rfl⟩:∃m,n=m+1:=⟨n-1,by simp only[Old.Tm.size]at hn;omega⟩
  have hl:=d.len;simp only[Old.Tm.size]at hn p hd hl;have g:y0 l (Old.Tm.top (.group m a) lo:Int)=true:=V0 O' U';obtain⟨ha,_⟩:=(Old.At.un (a:=a) rfl rfl).1 d;have hda:den w a i j=true:=f;have u:=iha lo n (deep+1) i j ha O' O' O' hda h;have o:K0 32 [(⟨(deep:Int),(Old.Tm.top (.group m a) lo:Int),(i:Int),(j:Int)⟩:g0A)] (A5 w a lo (deep+1) i j)=true:=ap Z' (by have:=C (lo:=lo) (deep:=deep+1) (show a.size<=400 from O') hda h;omega);unfold A5 a0O;rw[d.N3];simp only[q0,g,Old.Tm.node,show((7:Int)==3)=false from rfl,show((7:Int)==4)=false from rfl,show((7:Int)==5)=false from rfl,show((7:Int)==6)=false from rfl,beq_self_eq_true,X1 (i:=deep) O',u,o];rfl
 |iter a iha=>
  intro lo n deep i j d hn p hd f h;obtain⟨n,rfl⟩:∃m,n=m+1:=⟨n-1,by simp only[Old.Tm.size]at hn;omega⟩
  have hl:=d.len;simp only[Old.Tm.size]at hn p hd hl;have g:y0 l (Old.Tm.top (.iter a) lo:Int)=true:=V0 O' U';obtain⟨ha,_⟩:=(Old.At.un (a:=a) rfl rfl).1 d;have hda:den w a i j=true:=f;have u:=iha lo n (deep+1) i j ha O' O' O' hda h;have o:K0 32 [(⟨(deep:Int),(Old.Tm.top (.iter a) lo:Int),(i:Int),(j:Int)⟩:g0A)] (A5 w a lo (deep+1) i j)=true:=ap Z' (by have:=C (lo:=lo) (deep:=deep+1) (show a.size<=400 from O') hda h;omega);unfold A5 a0O;rw[d.N3];simp only[q0,g,Old.Tm.node,show((8:Int)==3)=false from rfl,show((8:Int)==4)=false from rfl,show((8:Int)==5)=false from rfl,show((8:Int)==6)=false from rfl,show((8:Int)==7)=false from rfl,beq_self_eq_true,X1 (i:=deep) O',u,o];rfl
end
section
variable {F:Nat}{l:List C0}{w:List Int}{t:Old.Tm}
def V0l (d:Old.I4 l t)(hw:∀x∈l,P2 x)(q:∀x∈w,L5 .u8 x)(j:w.length<=64)(m:2000<F)(hR:U6 F l=some true):
  S0t F l w=some (if den w t 0 w.length then(A5 w t 0 1 0 w.length,0)else([],7)):=by
 have k:=d.le;have o:=d.len;have hp:=t.size_pos;obtain⟨Can,c1,c2,c3⟩:=U00 (F:=F) d hw q j m;have p:W ((l.length:Int)-1)=(t.top 0:Int):=by rw[E3 O' O'];unfold Old.Tm.top;omega
 have f:¬(w.length:Int)>64:=O'
 have h:=J0i (F:=F) (c3 0 t d.at0) (show t.top 0<Can.length by rw[c2];unfold Old.Tm.top;omega) j (Nat.zero_le w.length) (le_refl _);have g:A9 F ⟨(w.length:Int),Can⟩ (t.top 0:Int) 0 (w.length:Int)=some (den w t 0 w.length):=h;unfold S0t Q08;simp only[q0,hR,f,bne_self_eq_false,c1,p,g];cases c:den w t 0 w.length with
 |false=>simp only[q0]
 |true=>
  have hg:=U0h (F:=F) (l:=l) j m c2 c3 t 0 F 1 0 w.length d.at0 O' O' O' c (le_refl _);have i:a0O F F l ⟨(w.length:Int),Can⟩ (t.top 0:Int) 1 0 (w.length:Int)=some (A5 w t 0 1 0 w.length):=hg;simp only[q0,i]
end
