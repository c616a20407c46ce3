/- P. Its conditions: none. -/
import Derived.Test.YtmhooikfkhjijaaGreatYX8
open Nat (lt_of_lt_of_le le_refl beq_eq lt_or_ge le_add_right)
open List (mem_cons all_eq_true nodup_cons mem_of_getElem? mem_filterMap map_cons)
set_option linter.all false
namespace Go.X
open Go.V Go.RowKit
section
variable {E:Env}
section
variable {ρ0 ρ ρ1:Nat->Value}{n0 n N:Nat}{H0 H:F0}{S0 S:B0}
mutual
def VC.cut (hρ:∀i,i<n0->hd (ρ1 i)=hd (ρ i))(hn:n0<=N):∀(v:V E.D) (c0 c:List Value),VC E ρ0 n0 H0 S0 v c0->VC E ρ n H S v c->VC E ρ1 N H S v c
 |.undef,_,_,_,h=>h
 |.kb _,_,_,_,h=>h
 |.ki _ _,_,_,_,h=>h
 |.d _ _,_,_,_,h=>h
 |.nil,_,_,_,h=>h
 |.nilp,_,_,_,h=>h
 |.nilif,_,_,_,h=>h
 |.nilfn,_,_,_,h=>h
 |.sl id,c0,c,⟨h0,_⟩,⟨_,h1,h2⟩=>⟨lt_of_lt_of_le h0 hn,by rw[hρ id h0];exact h1,by rw[hρ id h0];exact h2⟩
 |.pb id off p,c0,c,⟨h0,_⟩,⟨_,h1,b,h2,h3⟩=>⟨lt_of_lt_of_le h0 hn,h1,b,(hρ id h0).trans h2,h3⟩
 |.pe id i z p,c0,c,⟨h0,_⟩,⟨_,h1,b,o,m,cc,h2,h3⟩=>⟨lt_of_lt_of_le h0 hn,h1,b,o,m,cc,(hρ id h0).trans h2,h3⟩
 |.pd _ _,_,_,_,h=>h
 |.df _ _,_,_,_,h=>h
 |.mp id,c0,c,⟨h0,_⟩,⟨_,h1,h2⟩=>⟨lt_of_lt_of_le h0 hn,by rw[hρ id h0];exact h1,by rw[hρ id h0];exact h2⟩
 |.agg l,c0,c,h0,h=>I0.cut hρ hn l c0 c h0 h
 |.tup l,c0,c,⟨u0,_,h0⟩,⟨u,h1,h⟩=>⟨u,h1,VT.cut hρ hn l u0 u h0 h⟩
 |.fn f l,c0,c,⟨u0,_,h0⟩,⟨u,h1,h⟩=>⟨u,h1,VT.cut hρ hn l u0 u h0 h⟩
 |.ifc T v,c0,c,⟨d0,h0,_⟩,⟨d,h,h1⟩=>⟨d,VC.cut hρ hn v d0 d h0 h,h1⟩
def I0.cut (hρ:∀i,i<n0->hd (ρ1 i)=hd (ρ i))(hn:n0<=N):∀(l:List (V E.D)) (c0 c:List Value),I0 E ρ0 n0 H0 S0 l c0->I0 E ρ n H S l c->I0 E ρ1 N H S l c
 |[],_,_,_,h=>h
 |v :: l,_,_,⟨a1,a2,_,h1,h2⟩,⟨b1,b2,e,k1,k2⟩=>⟨b1,b2,e,VC.cut hρ hn v a1 b1 h1 k1,I0.cut hρ hn l a2 b2 h2 k2⟩
def VT.cut (hρ:∀i,i<n0->hd (ρ1 i)=hd (ρ i))(hn:n0<=N):∀(l:List (V E.D)) (c0 c:List Value),VT E ρ0 n0 H0 S0 l c0->VT E ρ n H S l c->VT E ρ1 N H S l c
 |[],_,_,_,h=>h
 |v :: l,_,_,⟨a1,a2,h1,_,h2⟩,⟨b1,b2,k1,e,k2⟩=>⟨b1,b2,VC.cut hρ hn v a1 b1 h1 k1,e,VT.cut hρ hn l a2 b2 h2 k2⟩
end -- mutual
def VS.cut (hρ:∀i,i<n0->hd (ρ1 i)=hd (ρ i))(hn:n0<=N){v:V E.D}{u0 u:Value}:VS E ρ0 n0 H0 S0 v u0->VS E ρ n H S v u->VS E ρ1 N H S v u:=by
 rintro⟨c0,h0,_⟩ ⟨c,h,e⟩
 exact⟨c,VC.cut hρ hn v c0 c h0 h,e⟩
def Y1.cut (hρ:∀i,i<n0->hd (ρ1 i)=hd (ρ i))(hn:n0<=N){x:Th E.D}{v0 v:Value}(h0:Y1 E ρ0 n0 H0 S0 x v0)(h:Y1 E ρ n H S x v):Y1 E ρ1 N H S x v:=by
 cases x with
 |gone=>trivial
 |
  box T l=>
  obtain⟨_,c0,_,_,k0,_⟩:=h0;obtain⟨b,cs,rfl,h1,h2,h3⟩:=h;exact⟨b,cs,rfl,h1,I0.cut hρ hn l c0 cs k0 h2,h3⟩
 |
  fzb T l=>
  obtain⟨_,c0,_,_,k0,_⟩:=h0;obtain⟨b,cs,rfl,h1,h2,h3⟩:=h;exact⟨b,cs,rfl,h1,I0.cut hρ hn l c0 cs k0 h2,h3⟩
 |lst e t xs=>exact h
 |fz t xs=>exact h
 |map m=>exact h
 |M0 e F t xs o=>exact h
 |rof q i f=>exact⟨lt_of_lt_of_le h0.1 hn,h.2⟩
def a8.cut (hρ:∀i,i<n0->hd (ρ1 i)=hd (ρ i))(hn:n0<=N){m0 m:Nat}{fr:Fr E.D}{a0 a:Act}(h0:a8 E ρ0 n0 H0 S0 m0 fr a0)(h:a8 E ρ n H S m fr a):a8 E ρ1 N H S m fr a:=
 ⟨h.size,h.defers,fun t v ht=>VS.cut hρ hn (h0.slot t v ht) (h.slot t v ht)⟩
def M6.cut (hρ:∀i,i<n0->hd (ρ1 i)=hd (ρ i))(hn:n0<=N):∀{l:List (Nat×Fr E.D)} {as0 as:List Act},M6 E ρ0 n0 H0 S0 l as0->M6 E ρ n H S l as->M6 E ρ1 N H S l as
 |[],[],[],_,h=>h
 |[],[],_ :: _,_,h=>h.elim
 |[],_ :: _,_,h0,_=>h0.elim
 |_ :: _,[],_,h0,_=>h0.elim
 |_ :: _,_ :: _,[],_,h=>h.elim
 |p :: l,a0 :: as0,a :: as,⟨h0,k0⟩,⟨h,k⟩=>⟨a8.cut hρ hn h0 h,M6.cut hρ hn k0 k⟩
end
section
variable {A:K2}{s0 s s1:St E.D}{ρ0 ρ:Nat->Value}{S0 S:B0}{a0 a:Act}{as0 as:List Act}{w0 w:World}
structure Tp (E:Env)(A:K2)(s:St E.D)(ρ:Nat->Value)(S:B0)(w:World):Prop where
 cx:Cx A.w0 A.W0 A.S0 w S
 th:∀id,Y1 E ρ s.nid w.heap S (C0 s id) (ρ id)
 ow:∀id,o1 (C0 s id)=true->∀k,Bk (ρ id) k->S k/\¬A.S0 k/\Wr A.W0 A.w0 k
 dj:∀i j,i≠j->o1 (C0 s i)=true->o1 (C0 s j)=true->∀k,Bk (ρ i) k->¬Bk (ρ j) k
 lt:∀id,s.nid<=id->C0 s id=.gone
 rf:∀r q i f,C0 s r=.rof q i f->∀e F t xs,C0 s q=.M0 e F t xs none->B8 w.heap (hd (ρ q)) F.length i f (ρ r)
 kp:∀H1 S1,A.j8 H1 S1->J0 H1 S1 w.heap S
 hp:∀i u,A.hda i u->i<s.nid/\hd (ρ i)=u
def Rp.tp (h:Rp E A s ρ S a as w):Tp E A s ρ S w:=⟨h.cx,h.th,h.ow,h.dj,h.lt,h.rf,h.kp,h.hp⟩
def d0b {D:Nat->Type}:∀(l:List Nat) (s:St D),(P0 s l).nid=s.nid/\(P0 s l).fr=s.fr/\(P0 s l).n=s.n/\(P0 s l).stk=s.stk/\∃t,(P0 s l).th=t++s.th
 |[],s=>⟨rfl,rfl,rfl,rfl,[],rfl⟩
 |
  i :: l,s=>by
  obtain⟨h1,h2,h3,h4,t,h5⟩:=d0b l (s.at i .gone);exact⟨h1,h2,h3,h4,t++[(i,.gone)],by show(P0 (s.at i .gone) l).th=_;rw[h5];simp[St.at]⟩
def d0p:∀(l:List Nat) (s:St E.D) (j:Nat),(j∈l->C0 (P0 s l) j=.gone)/\(C0 (P0 s l) j=C0 s j\/C0 (P0 s l) j=.gone)
 |[],s,j=>⟨(fun h=>by cases h),.inl rfl⟩
 |
  i :: l,s,j=>by
  obtain⟨h1,h2⟩:=d0p l (s.at i .gone) j;have hl:=H5 s i j .gone;refine⟨fun h=>?_,?_⟩
  ·rcases mem_cons.1 h with rfl|h
   ·show C0 (P0 (s.at j .gone) l) j=.gone;rcases h2 with h2|h2
    ·rw[h2,hl,if_pos rfl]
    ·exact h2
   ·exact h1 h
  ·show C0 (P0 (s.at i .gone) l) j=_\/C0 (P0 (s.at i .gone) l) j=_;rcases h2 with h2|h2
   ·rw[h2,hl];split
    ·exact .inr rfl
    ·exact .inl rfl
   ·exact .inr h2
def Tp.gone (h:Tp E A s ρ S w)(id:Nat):Tp E A (s.at id .gone) ρ S w:=by
 have hl:∀j,C0 (s.at id .gone) j=if id=j then .gone else C0 s j:=fun j=>H5 s id j .gone;refine⟨h.cx,fun j=>?_,fun j hj=>?_,fun i j hij hi hj=>?_,fun j hj=>?_,fun r q i f hr e F t xs hq=>?_,h.kp,h.hp⟩
 ·rw[hl];split
  ·trivial
  ·exact h.th j
 ·rw[hl]at hj;split at hj
  ·cases hj
  ·exact h.ow j hj
 ·rw[hl]at hi hj;split at hi
  ·cases hi
  ·split at hj
   ·cases hj
   ·exact h.dj i j hij hi hj
 ·rw[hl];split
  ·rfl
  ·exact h.lt j hj
 ·rw[hl]at hr hq;split at hr
  ·cases hr
  ·split at hq
   ·cases hq
   ·exact h.rf r q i f hr e F t xs hq
def Tp.o0p:∀(l:List Nat) {s:St E.D},Tp E A s ρ S w->Tp E A (P0 s l) ρ S w
 |[],_,h=>h
 |i :: l,s,h=>Tp.o0p l (s:=s.at i .gone) (h.gone i)
def k0g {D:Nat->Type}{s:St D}{q r q' f:Nat}{i:Int}(h:C0 (X4 s q) r=.rof q' i f):C0 s r=.rof q' i f/\q'≠q:=by
 unfold X4 at h;rw[N9]at h;split at h
 ·cases h
 ·rename_i hn;refine⟨h,?_⟩
  rintro rfl
  exact hn (e0m h)
def Tp.rename (h:Tp E A s ρ S w){s1:St E.D}{G:List Nat}{x:Th E.D}{id j:Nat}(hs1:s1=Go.X.P0 s G)(hid:id<s.nid)(hx:x=C0 s j)(hnr:p0d x=false)(e:hd (ρ id)=hd (ρ j))
  (hrf:∀r i f,C0 s1 r=.rof id i f->∀e F t xs,x=.M0 e F t xs none->B8 w.heap (hd (ρ id)) F.length i f (ρ r)):Tp E A ((s1.at id x).at j .gone) (s4 ρ id (ρ j)) S w:=by
 subst hs1;have hl:∀i,C0 (((Go.X.P0 s G).at id x).at j .gone) i=if j=i then .gone else if id=i then x else if i∈G then .gone else C0 s i:=fun i=>by
  rw[H5,H5,N9]
 have hn:(((Go.X.P0 s G).at id x).at j .gone).nid=s.nid:=(O6 G s).1;have hhd:∀i,hd (s4 ρ id (ρ j) i)=hd (ρ i):=fun i=>by
  by_cases h1:i=id
  ·subst h1;rw[X2];exact e.symm
  ·rw[B3 h1]
 have hnrx:∀q i f,x≠.rof q i f:=fun q i f e=>by rw[e]at hnr;cases hnr
 have hmono:∀(y:Th E.D) (v:Value),Y1 E ρ s.nid w.heap S y v->Y1 E (s4 ρ id (ρ j)) s.nid w.heap S y v:=fun y v hy=>hy.mono (fun i _=>hhd i) (le_refl _) (J0.refl _ _) (fun _ _ _=>rfl);refine⟨h.cx,fun i=>?_,fun i ho k hk=>?_,fun i i' hne ho ho' k hk hk'=>?_,fun i hi=>?_,fun r q i f hr e2 F t xs hq=>?_,h.kp,fun i u ha=>⟨by rw[hn];exact(h.hp i u ha).1,(hhd i).trans (h.hp i u ha).2⟩⟩
 ·rw[hl,hn];split
  ·trivial
  ·split
   ·rename_i h1;subst h1;rw[X2,hx];exact hmono _ _ (h.th j)
   ·rename_i h1;split
    ·trivial
    ·rw[B3 (Ne.symm h1)];exact hmono _ _ (h.th i)
 ·rw[hl]at ho;split at ho
  ·cases ho
  ·split at ho
   ·rename_i h1;subst h1;rw[X2]at hk;rw[hx]at ho;exact h.ow j ho k hk
   ·rename_i h1;rw[B3 (Ne.symm h1)]at hk;split at ho
    ·cases ho
    ·exact h.ow i ho k hk
 ·rw[hl]at ho ho';split at ho
  ·cases ho
  ·split at ho'
   ·cases ho'
   ·rename_i h1 h2;split at ho
    ·rename_i h3;subst h3;rw[if_neg hne]at ho';rw[X2]at hk;rw[B3 (Ne.symm hne)]at hk';rw[hx]at ho;split at ho'
     ·cases ho'
     ·exact h.dj j i' h2 ho ho' k hk hk'
    ·rename_i h3;rw[B3 (Ne.symm h3)]at hk;split at ho
     ·cases ho
     ·split at ho'
      ·rename_i h4;subst h4;rw[X2]at hk';rw[hx]at ho';exact h.dj i j (fun e2=>h1 e2.symm) ho ho' k hk hk'
      ·rename_i h4;rw[B3 (Ne.symm h4)]at hk';split at ho'
       ·cases ho'
       ·exact h.dj i i' hne ho ho' k hk hk'
 ·rw[hn]at hi;rw[hl];split
  ·rfl
  ·split
   ·rename_i h1;subst h1;omega
   ·split
    ·rfl
    ·exact h.lt i hi
 ·rw[hl]at hr hq;split at hr
  ·cases hr
  ·split at hr
   ·exact absurd hr (hnrx q i f)
   ·rename_i h1;split at hr
    ·cases hr
    ·rename_i hg;rw[hhd,B3 (Ne.symm h1)];split at hq
     ·cases hq
     ·split at hq
      ·rename_i h2;subst h2;exact hrf r i f (by rw[N9,if_neg hg];exact hr) e2 F t xs hq
      ·split at hq
       ·cases hq
       ·exact h.rf r q i f hr e2 F t xs hq
def r0R {D:Nat->Type}(s:St D)(id:Nat)(sh:Sh)(v:V D):(u7 s id sh v).nid=s.nid/\(u7 s id sh v).fr=s.fr/\(u7 s id sh v).n=s.n/\(u7 s id sh v).stk=s.stk/\∃t,(u7 s id sh v).th=t++s.th:=by
 have mv:∀j,(v7 s id j sh).nid=s.nid/\(v7 s id j sh).fr=s.fr/\(v7 s id j sh).n=s.n/\(v7 s id j sh).stk=s.stk/\∃t,(v7 s id j sh).th=t++s.th:=fun j=>by
  unfold v7;split
  ·exact⟨rfl,rfl,rfl,rfl,[(_,_)],rfl⟩
  ·split
   ·exact⟨rfl,rfl,rfl,rfl,[(_,_),(_,_)],rfl⟩
   ·obtain⟨h1,h2,h3,h4,t,h5⟩:=O6 (o6 id s.th) s;exact⟨h1,h2,h3,h4,(j,.gone) :: (id,C0 s j) :: t,by show _ :: _ :: (X4 s id).th=_;unfold X4;rw[h5];rfl⟩
 unfold u7;split<;>first|exact mv _|exact⟨rfl,rfl,rfl,rfl,[(_,_)],rfl⟩
def y0V (E:Env)(s:St E.D)(ρ:Nat->Value)(w:World)(th:List (Nat×Sh)):Prop:=∀p∈th,∀e F t,p.2=.M0 e F t->∀r i f,C0 s r=.rof p.1 i f->B8 w.heap (hd (ρ p.1)) F.length i f (ρ r)
def Tp.move (h:Tp E A s ρ S w){id:Nat}{sh:Sh}(hid:id<s.nid){v:V E.D}{H:F0}{N:Nat}{S1:B0}(hv:VS E ρ N H S1 v (hd (ρ id)))(hrf:∀e F t,sh=.M0 e F t->∀r i f,C0 s r=.rof id i f->B8 w.heap (hd (ρ id)) F.length i f (ρ r)):
  ∃ ρ1,Tp E A (u7 s id sh v) ρ1 S w/\(∀i,hd (ρ1 i)=hd (ρ i))/\∀r q i f,C0 (u7 s id sh v) r=.rof q i f->C0 s r=.rof q i f/\ρ1 r=ρ r:=by
 have gn:∃ ρ1,Tp E A (s.at id .gone) ρ1 S w/\(∀i,hd (ρ1 i)=hd (ρ i))/\∀r q i f,C0 (s.at id .gone) r=.rof q i f->C0 s r=.rof q i f/\ρ1 r=ρ r:=by
  refine⟨ρ,h.gone id,fun _=>rfl,fun r q i f hr=>?_⟩;rw[H5]at hr;split at hr
  ·cases hr
  ·exact⟨hr,rfl⟩
 have mv:∀j,hd (ρ id)=hd (ρ j)->∃ ρ1,Tp E A (v7 s id j sh) ρ1 S w/\(∀i,hd (ρ1 i)=hd (ρ i))/\∀r q i f,C0 (v7 s id j sh) r=.rof q i f->C0 s r=.rof q i f/\ρ1 r=ρ r:=by
  intro j e;unfold v7;split
  ·exact gn
  ·rename_i hnr;have hhd:∀i,hd (s4 ρ id (ρ j) i)=hd (ρ i):=fun i=>by
    by_cases h1:i=id
    ·subst h1;rw[X2];exact e.symm
    ·rw[B3 h1]
   have hnrx:∀q i f,C0 s j≠.rof q i f:=fun q i f e=>by rw[e]at hnr;cases hnr
   split
   ·rename_i hk;refine⟨s4 ρ id (ρ j),h.rename (G:=[]) rfl hid rfl hnr e (fun r i f hr e2 F t xs hx=>?_),hhd,fun r q i f hr=>?_⟩
    ·unfold p0w at hk;split at hk
     ·rename_i e3 F3 t3;rw[hx]at hk;simp only at hk;rw[beq_eq]at hk;rw[<-hk];exact hrf _ _ _ rfl r i f hr
     ·cases hk
    ·rw[H5,H5]at hr;split at hr
     ·cases hr
     ·split at hr
      ·exact absurd hr (hnrx q i f)
      ·rename_i h1;exact⟨hr,B3 (Ne.symm h1)⟩
   ·refine⟨s4 ρ id (ρ j),h.rename (G:=o6 id s.th) rfl hid rfl hnr e (fun r i f hr=>?_),hhd,fun r q i f hr=>?_⟩
    ·exact absurd rfl (k0g hr).2
    ·rw[H5,H5]at hr;split at hr
     ·cases hr
     ·split at hr
      ·exact absurd hr (hnrx q i f)
      ·rename_i h1;exact⟨(k0g hr).1,B3 (Ne.symm h1)⟩
 unfold u7;split
 ·obtain⟨_,e⟩:=hv.J6;exact mv _ e
 ·obtain⟨_,_,b,h1,h2⟩:=hv.M7;exact mv _ (by rw[h1,h2];simp[I2])
 ·obtain⟨_,e⟩:=hv.f0u;exact mv _ e
 ·exact gn
section
variable {A:K2}{s0 s s1:St E.D}{ρ0 ρ:Nat->Value}{S0 S:B0}{a0 a:Act}{as0 as:List Act}{w0 w:World}
def o0N {α β:Type}{now was:List (Nat×α)}{c:List (Nat×β)}(h:c0F now was c=true)(he:∃l,now=l++was){k:Nat}(hk:J2 c k=none){v:α}(hv:J2 was k=some v):J2 now k=some v:=by
 obtain⟨l,rfl⟩:=he;have ht:(l++was).take ((l++was).length-was.length)=l:=by simp
 unfold c0F at h;rw[ht,all_eq_true]at h;rw[i0n,d05 l k,hv];intro p hp e;have:=h p hp;rw[e]at this;simp[hv,hk]at this
def m06 {α:Type}:∀{l:List (Nat×α)} {k:Nat},k∉l.map Prod.fst->J2 l k=none:=fun {l k} h=>d05 l k fun p hp e=>h (List.mem_map.2 ⟨p,hp,e⟩)
def h0p:∀{l:List Nat},o9 l=true->l.Nodup
 |[],_=>List.nodup_nil
 |
  x :: l,h=>by
  simp only[o9,Bool.and_eq_true,Bool.not_eq_true',List.any_eq_false]at h;refine nodup_cons.2 ⟨fun hx=>?_,h0p h.2⟩;have:=h.1 x hx;simp at this
def J5 (ρ:Nat->Value)(n0:Nat)(pl:List Value):Nat->Value:=fun i=>if i<n0 then ρ i else(pl[i-n0]?).getD undef
def J4 {n0 i:Nat}{pl:List Value}(h:i<n0):J5 ρ n0 pl i=ρ i:=if_pos h
def e0X {n0 i:Nat}{pl:List Value}{v:Value}(h:pl[i]?=some v):J5 ρ n0 pl (n0+i)=v:=by
 unfold J5;rw[if_neg (by omega),Nat.add_sub_cancel_left,h];rfl
def Tp.pack {A0:K2}(hH:∀i u,A.hda i u->i<s0.nid)(h0:Rp E A0 s0 ρ0 S0 a0 as0 w0)(h:Rp E A s1 ρ S a as w)(he:Ext s0 s1){cth:List (Nat×Sh)}(hk:c0F s1.th s0.th cth=true){ids:List (Option Nat)}(ho:N3 s1 ids)(ht:i07 s0.nid cth (ids.filterMap fun x=>x)=true)
  {tl:List (Nat×Th E.D)} (hn:U3 E (J5 ρ s0.nid (ids.map (place ρ))) (s0.nid+ids.length) w.heap S (P0 s0 (cth.map Prod.fst)) tl (ids.map (place ρ))):
  Tp E A ((P0 s0 (cth.map Prod.fst)).more tl (ids.map (place ρ)).length) (J5 ρ s0.nid (ids.map (place ρ))) S w/\
   ∀r q i f,C0 ((P0 s0 (cth.map Prod.fst)).more tl (ids.map (place ρ)).length) r=.rof q i f->r<s0.nid/\q<s0.nid/\C0 s1 r=.rof q i f:=by
 obtain⟨g1,g2,g3,g4,g5,g6⟩:=d0b (cth.map Prod.fst) s0;have hlen:(ids.map (place ρ)).length=ids.length:=by simp
 have hnid:((P0 s0 (cth.map Prod.fst)).more tl (ids.map (place ρ)).length).nid=s0.nid+ids.length:=by show _+_=_;rw[g1,hlen]
 simp only[i07,Bool.and_eq_true,all_eq_true]at ht;obtain⟨hnd,hge⟩:=ht;have hnd:=h0p hnd;have low:∀j,j<s0.nid->C0 ((P0 s0 (cth.map Prod.fst)).more tl (ids.map (place ρ)).length) j=.gone\/
   (C0 ((P0 s0 (cth.map Prod.fst)).more tl (ids.map (place ρ)).length) j=C0 s0 j/\C0 s0 j=C0 s1 j/\J2 cth j=none):=by
  intro j hj;rw[b0G _ _ _ _ (fun p hp=>by have:=hn.keys p hp;rw[g1]at this;omega)];obtain⟨k1,k2⟩:=d0p (cth.map Prod.fst) s0 j;cases hc:J2 cth j with
  |
   some x=>
   refine .inl (k1 ?_)
   by_cases hm:j∈cth.map Prod.fst
   ·exact hm
   ·rw[m06 hm]at hc;cases hc
  |
   none=>
   rcases k2 with k2|k2
   ·cases hw:J2 s0.th j with
    |
     none=>
     refine .inl (k2.trans ?_);unfold C0;rw[hw]
    |
     some x=>
     refine .inr ⟨k2,?_,rfl⟩;unfold C0;rw[hw,o0N hk he.th hc hw]
   ·exact .inl k2
 have high:∀i,s0.nid+ids.length<=i->C0 ((P0 s0 (cth.map Prod.fst)).more tl (ids.map (place ρ)).length) i=.gone:=by
  intro i hi;rw[b0G _ _ _ _ (fun p hp=>by have:=hn.keys p hp;rw[g1,hlen]at this;omega)];obtain⟨k1,k2⟩:=d0p (cth.map Prod.fst) s0 i;rcases k2 with k2|k2
  ·rw[k2];exact h0.lt i (by omega)
  ·exact k2
 have new:∀i,s0.nid<=i->i<s0.nid+ids.length->∃x,ids[i-s0.nid]?=some x/\J5 ρ s0.nid (ids.map (place ρ)) i=place ρ x:=by
  intro i h1 h2;have hlt:i-s0.nid<ids.length:=by omega
  refine⟨ids[i-s0.nid],by simp[hlt],?_⟩;have:=e0X (ρ:=ρ) (n0:=s0.nid) (pl:=ids.map (place ρ)) (i:=i-s0.nid) (v:=place ρ ids[i-s0.nid]) (by simp[hlt]);rw[show s0.nid+(i-s0.nid)=i from by omega]at this;exact this
 have who:∀i,o1 (C0 ((P0 s0 (cth.map Prod.fst)).more tl (ids.map (place ρ)).length) i)=true->∀k,Bk (J5 ρ s0.nid (ids.map (place ρ)) i) k->
   ∃j,o1 (C0 s1 j)=true/\Bk (ρ j) k/\((i<s0.nid/\j=i/\J2 cth j=none)\/(s0.nid<=i/\ids[i-s0.nid]?=some (some j))):=by
  intro i hoi k hk2;rcases lt_or_ge i s0.nid with hlt|hge2
  ·rcases low i hlt with e|⟨e1,e2,e3⟩
   ·rw[e]at hoi;cases hoi
   ·rw[e1,e2]at hoi;rw[J4 hlt]at hk2;exact⟨i,hoi,hk2,.inl ⟨hlt,rfl,e3⟩⟩
  ·rcases lt_or_ge i (s0.nid+ids.length)with hlt2|hge3
   ·obtain⟨x,hx,hp⟩:=new i hge2 hlt2;rw[hp]at hk2;cases x with
    |none=>cases hk2
    |some j=>exact⟨j,ho j (mem_of_getElem? hx),hk2,.inr ⟨hge2,hx⟩⟩
   ·rw[high i hge3]at hoi;cases hoi
 have inj:∀(i i':Nat) (j:Nat),i≠i'->ids[i]?=some (some j)->ids[i']?=some (some j)->False:=by
  intro i i' j hne h1 h2;have:∀(l:List (Option Nat)) (p q:Nat),(l.filterMap fun x=>x).Nodup->p<q->l[p]?=some (some j)->l[q]?=some (some j)->False:=by
   intro l
   induction l with
   |nil=>intro p q _ _ hp;simp at hp
   |
    cons y l ih=>
    intro p q hl hpq hp hq;cases p with
    |
     zero=>
     simp at hp;subst hp;obtain⟨q',rfl⟩:∃q',q=q'+1:=⟨q-1,by omega⟩
     simp only[List.getElem?_cons_succ]at hq;simp only[List.filterMap_cons,nodup_cons]at hl;exact hl.1 (mem_filterMap.2 ⟨some j,mem_of_getElem? hq,rfl⟩)
    |
     succ p=>
     obtain⟨q',rfl⟩:∃q',q=q'+1:=⟨q-1,by omega⟩
     simp only[List.getElem?_cons_succ]at hp hq;refine ih p q' ?_ (by omega) hp hq;cases y with
     |none=>simpa using hl
     |some z=>simp only[List.filterMap_cons,nodup_cons]at hl;exact hl.2
  rcases Nat.lt_or_gt_of_ne hne with hlt|hgt
  ·exact this ids i i' hnd hlt h1 h2
  ·exact this ids i' i hnd hgt h2 h1
 have rofs:∀r q i f,C0 ((P0 s0 (cth.map Prod.fst)).more tl (ids.map (place ρ)).length) r=.rof q i f->r<s0.nid/\q<s0.nid/\C0 s1 r=.rof q i f:=by
  intro r q i f hr;rcases lt_or_ge r s0.nid with hlt|hge2
  ·rcases low r hlt with e|⟨e1,e2,_⟩
   ·rw[e]at hr;cases hr
   ·exact⟨hlt,h0.P8 (by rw[<-e1];exact hr),by rw[<-e2,<-e1];exact hr⟩
  ·rcases lt_or_ge r (s0.nid+ids.length)with hlt2|hge3
   ·obtain⟨x,hx,hp⟩:=new r hge2 hlt2;have:=(hn.th (r-s0.nid) (place ρ x) (by rw[List.getElem?_map,hx];rfl)).2;rw[g1,show s0.nid+(r-s0.nid)=r from by omega,hr]at this;cases this
   ·rw[high r hge3]at hr;cases hr
 refine⟨⟨h.cx,fun id=>?_,fun i hoi k hk2=>?_,fun i i' hne hoi hoi' k hk2 hk3=>?_,fun i hi=>high i (by rw[<-hnid];exact hi),fun r q i f hr e F t xs hq=>?_,h.kp,fun i u ha=>⟨by rw[hnid];have:=hH i u ha;omega,by rw[J4 (hH i u ha)];exact(h.hp i u ha).2⟩⟩,rofs⟩
 ·rw[hnid];rcases lt_or_ge id s0.nid with hlt|hge2
  ·rcases low id hlt with e|⟨e1,e2,e3⟩
   ·rw[e];trivial
   ·rw[e1,J4 hlt];have h1:=h.th id;rw[<-e2]at h1;exact Y1.cut (fun i hi=>by rw[J4 hi]) (le_add_right _ _) (h0.th id) h1
  ·rcases lt_or_ge id (s0.nid+ids.length)with hlt2|hge3
   ·obtain⟨x,hx,hp⟩:=new id hge2 hlt2;have:=(hn.th (id-s0.nid) (place ρ x) (by rw[List.getElem?_map,hx];rfl)).1;rw[g1,show s0.nid+(id-s0.nid)=id from by omega]at this;rw[hp];exact this
   ·rw[high id hge3];trivial
 ·obtain⟨j,h1,h2,_⟩:=who i hoi k hk2;exact h.ow j h1 k h2
 ·obtain⟨j,h1,h2,h3⟩:=who i hoi k hk2;obtain⟨j',h1',h2',h3'⟩:=who i' hoi' k hk3
  by_cases hjj:j=j'
  ·subst hjj;rcases h3 with⟨h3,rfl,h5⟩|⟨h3,h5⟩
   ·rcases h3' with⟨h3',h4',_⟩|⟨h3',h5'⟩
    ·exact hne h4'
    ·have:=hge j (mem_filterMap.2 ⟨some j,mem_of_getElem? h5',rfl⟩);rw[h5]at this;simp at this;omega
   ·rcases h3' with⟨h3',rfl,h5'⟩|⟨h3',h5'⟩
    ·have:=hge j (mem_filterMap.2 ⟨some j,mem_of_getElem? h5,rfl⟩);rw[h5']at this;simp at this;omega
    ·exact inj _ _ j (by omega) h5 h5'
  ·exact h.dj j j' hjj h1 h1' k h2 h2'
 ·obtain⟨h1,hq0,h3⟩:=rofs r q i f hr;rcases low q hq0 with e'|⟨e1,e2,_⟩
  ·rw[e']at hq;cases hq
  ·rw[J4 hq0,J4 h1];exact h.rf r q i f h3 e F t xs (by rw[<-e2,<-e1];exact hq)
section
variable {A:K2}{s0 s s1:St E.D}{ρ0 ρ:Nat->Value}{S0 S:B0}{a0 a:Act}{as0 as:List Act}{w0 w:World}
def VT.app {n:Nat}{H:F0}:∀{l l':List (V E.D)} {us us':List Value},VT E ρ n H S l us->VT E ρ n H S l' us'->VT E ρ n H S (l++l') (us++us')
 |[],l',us,us',h,h'=>by unfold VT at h;subst h;exact h'
 |
  v :: l,l',us,us',h,h'=>by
  unfold VT at h;obtain⟨c,u,h1,rfl,h2⟩:=h;rw[List.cons_append];unfold VT;exact⟨c,u++us',h1,rfl,VT.app h2 h'⟩
def VT.map {n:Nat}{H:F0}{α:Type}{f:α->V E.D}{g:α->Value}:∀{l:List α},(∀p∈l,VS E ρ n H S (f p) (g p))->VT E ρ n H S (l.map f) (l.map g)
 |[],_=>by unfold List.map VT;rfl
 |
  p :: l,h=>by
  obtain⟨c,h1,h2⟩:=h p (by simp);rw[map_cons,map_cons];unfold VT;exact⟨c,_,h1,by rw[h2],VT.map fun q hq=>h q (by simp[hq])⟩
def VT.e0r {n:Nat}{H:F0}:∀{us us':List Value} {l:List (V E.D)},VT E ρ n H S l (us++us')->∃l1 l2,l=l1++l2/\l1.length=us.length/\VT E ρ n H S l1 us/\VT E ρ n H S l2 us'
 |[],us',l,h=>⟨[],l,rfl,rfl,by unfold VT;rfl,h⟩
 |u :: us,us',[],h=>by unfold VT at h;simp at h
 |
  u :: us,us',v :: l,h=>by
  unfold VT at h;obtain⟨c,q,h1,h2,h3⟩:=h;simp only[List.cons_append,List.cons.injEq]at h2;obtain⟨rfl,rfl⟩:=h2;obtain⟨l1,l2,rfl,h4,h5,h6⟩:=VT.e0r h3;exact⟨v :: l1,l2,rfl,by simp[h4],by unfold VT;exact⟨c,us,h1,rfl,h5⟩,h6⟩
def Rp.J8 (h:Rp E A s ρ S a as w)(t:Nat):VS E ρ s.nid w.heap S (J8 s t) (a.tmps.getD t undef):=by
 unfold Go.X.J8;cases ht:J2 s.fr t with
 |some v=>exact h.get ht
 |none=>exact VS.undef _
def Rp.R6 (h:Rp E A s ρ S a as w)(id:Nat):VS E ρ s.nid w.heap S (R6 s id) (hd (ρ id)):=by
 have ht:=h.th id;have hid:C0 s id≠.gone->id<s.nid:=h.L4;unfold Go.X.R6;cases hl:C0 s id with
 |gone=>exact VS.undef _
 |
  box T l=>
  rw[hl]at ht hid;obtain⟨b,cs,hr,_⟩:=ht;have:=VS.pb (E:=E) (ρ:=ρ) (b:=b) (S:=S) (H:=w.heap) (off:=0) (p:=[]) (hid (by simp)) trivial (by rw[hr];rfl);rw[hr];simpa[I2,Go.X.hd]using this
 |
  fzb T l=>
  rw[hl]at ht hid;obtain⟨b,cs,hr,_⟩:=ht;have:=VS.pb (E:=E) (ρ:=ρ) (b:=b) (S:=S) (H:=w.heap) (off:=0) (p:=[]) (hid (by simp)) trivial (by rw[hr];rfl);rw[hr];simpa[I2,Go.X.hd]using this
 |
  lst e t xs=>
  rw[hl]at ht hid;obtain⟨A',c,hv⟩:=G3.form ht;exact VS.of rfl (by unfold VC;exact⟨hid (by simp),by rw[hv];rfl,rfl⟩)
 |
  fz t xs=>
  rw[hl]at ht hid;obtain⟨A',c,hv,_⟩:=ht;exact VS.of rfl (by unfold VC;exact⟨hid (by simp),by rw[hv];rfl,rfl⟩)
 |
  map m=>
  rw[hl]at ht hid;obtain⟨r,es,cl,hv,_⟩:=ht;exact VS.of rfl (by unfold VC;exact⟨hid (by simp),by rw[hv];rfl,rfl⟩)
 |
  M0 e F t xs o=>
  rw[hl]at ht hid;obtain⟨cs,ht⟩:=ht;obtain⟨A',c,hv⟩:=Row.form ht.row;exact VS.of rfl (by unfold VC;exact⟨hid (by simp),by rw[hv];rfl,rfl⟩)
 |
  rof q i f=>
  rw[hl]at ht hid;exact VS.of rfl (by unfold VC;exact⟨hid (by simp),by rw[ht.2.2];exact ht.2.1,rfl⟩)
def n0a {n:Nat}{H:F0}{t:Nat->Value}:∀(sl:List (Nat×Sh)) (l:List (V E.D)) (u:St E.D),VT E ρ n H S l (sl.map fun p=>t p.1)->(∀k v,k∉sl.map Prod.fst->J2 u.fr k=some v->VS E ρ n H S v (t k))->
  (∀k v,J2 (C5 u sl l).fr k=some v->VS E ρ n H S v (t k))/\(C5 u sl l).th=u.th/\(C5 u sl l).nid=u.nid/\(C5 u sl l).n=u.n/\(C5 u sl l).stk=u.stk/\∃q,(C5 u sl l).fr=q++u.fr
 |[],l,u,_,hu=>⟨fun k v h=>hu k v (by simp) (by cases l<;>exact h),by cases l<;>rfl,by cases l<;>rfl,by cases l<;>rfl,by cases l<;>rfl,[],by cases l<;>rfl⟩
 |(i,sh) :: sl,[],u,hl,_=>by unfold VT at hl;simp at hl
 |
  (i,sh) :: sl,v :: l,u,hl,hu=>by
  rw[map_cons]at hl;unfold VT at hl;obtain⟨c,us,h1,h2,h3⟩:=hl;simp only[List.cons.injEq]at h2;obtain⟨h2,rfl⟩:=h2;obtain⟨k1,k2,k3,k4,k5,q,k6⟩:=n0a sl l (u.put (some i) v) h3 (fun k w hk hw=>by
   simp only[St.put,V6]at hw;split at hw
   ·rename_i e;simp only[Option.some.injEq]at hw;subst e;subst hw;exact⟨c,h1,h2⟩
   ·rename_i e;exact hu k w (by rw[map_cons,mem_cons];rintro(e2|e2);exact e e2.symm;exact hk e2) hw)
  exact⟨k1,k2,k3,k4,k5,q++[(i,v)],by show(C5 (u.put (some i) v) sl l).fr=_;rw[k6];simp[St.put]⟩
def h0O {N:Nat}{H:F0}{S1:B0}:∀(th:List (Nat×Sh)) (l:List (V E.D)) (u:St E.D) (ρ:Nat->Value),Tp E A u ρ S w->(∀p∈th,p.1<u.nid)->y0V E u ρ w th->VT E ρ N H S1 l (th.map fun p=>hd (ρ p.1))->
  ∃ ρ1,Tp E A (Z6 u th l) ρ1 S w/\(∀i,hd (ρ1 i)=hd (ρ i))/\(Z6 u th l).fr=u.fr/\(Z6 u th l).nid=u.nid/\(Z6 u th l).n=u.n/\(Z6 u th l).stk=u.stk/\∃q,(Z6 u th l).th=q++u.th
 |[],l,u,ρ,h,_,_,_=>⟨ρ,by cases l<;>exact h,fun _=>rfl,by cases l<;>rfl,by cases l<;>rfl,by cases l<;>rfl,by cases l<;>rfl,[],by cases l<;>rfl⟩
 |(i,sh) :: th,[],u,ρ,_,_,_,hl=>by unfold VT at hl;simp at hl
 |
  (i,sh) :: th,v :: l,u,ρ,h,hi,hrf,hl=>by
  rw[map_cons]at hl;unfold VT at hl;obtain⟨c,us,h1,h2,h3⟩:=hl;simp only[List.cons.injEq]at h2;obtain⟨h2,rfl⟩:=h2;obtain⟨m1,m2,m3,m4,q,m5⟩:=r0R u i sh v;obtain⟨ρ1,g1,g2,g3⟩:=h.move (hi (i,sh) (by simp)) (sh:=sh) ⟨c,h1,h2⟩ (hrf (i,sh) (by simp));have h3':VT E ρ1 N H S1 l (th.map fun p=>hd (ρ1 p.1)):=by
   have e:(th.map fun p=>hd (ρ1 p.1))=th.map fun p=>hd (ρ p.1):=List.map_congr_left fun p _=>g2 p.1;rw[e];exact h3.mono (fun i _=>g2 i) (le_refl _) (J0.refl _ _)
  obtain⟨ρ2,k1,k0,k2,k3,k4,k5,q',k6⟩:=h0O th l (u7 u i sh v) ρ1 g1 (fun p hp=>by rw[m1];exact hi p (by simp[hp])) (fun p hp e F t hsh r i' f hr=>by
   obtain⟨e1,e2⟩:=g3 r p.1 i' f hr;rw[g2,e2];exact hrf p (by simp[hp]) e F t hsh r i' f e1) h3'
  exact⟨ρ2,k1,fun i=>(k0 i).trans (g2 i),k2.trans m2,k3.trans m1,k4.trans m3,k5.trans m4,q'++q,by show(Z6 (u7 u i sh v) th l).th=_;rw[k6,m5];simp⟩
def l0Q {s:St E.D}{e:Nat}{F:List Nat}{t:U}:∀(cs:List Sh) (l:List (V E.D)) (pk:Pk (O2 E.D cs)),o5 E s cs l=some pk->∀(i:Nat) (v:V E.D),cs[i]?=some (.M0 e F t)->l[i]?=some v->∃pk',a0p E s e F t v=some pk'
 |[],_,_,_,i,_,hi,_=>by simp at hi
 |
  x :: r,l,pk,h,i,v,hi,hv=>by
  unfold o5 at h;split at h<;>try cases h
  rename_i v' l';split at h<;>try cases h
  rename_i i1 a j b hr1 hr2;cases i with
  |
   zero=>
   obtain rfl:x=.M0 e F t:=Option.some.inj hi;obtain rfl:v'=v:=Option.some.inj hv;unfold rd at hr1;exact⟨_,hr1⟩
  |succ i=>exact l0Q r l' _ hr2 i v (by simpa using hi) (by simpa using hv)
def x0c {s s1:St E.D}{id e:Nat}{F:List Nat}{t:U}{pk:Pk (List (Den E.D t))}(h:a0p E s1 e F t (R6 s id)=some pk):∃xs,C0 s1 id=.M0 e F t xs none:=by
 unfold R6 at h;split at h<;>simp only[a0p]at h<;>first|(cases h;done)|skip
 all_goals
  split at h<;>try cases h
  rename_i hl;split at h<;>try cases h
  rename_i he hc;rw[Bool.and_eq_true,beq_eq,beq_iff_eq]at he;obtain⟨rfl,rfl⟩:=he;obtain⟨e2,hc⟩:=G6 hc;subst e2;exact⟨_,hl⟩
def b0y (hE:B1 E){A0:K2}(hH:∀i u,A.hda i u->i<s0.nid)(h0:Rp E A0 s0 ρ0 S0 a0 as0 w0)(h:Rp E A s ρ S a as w)(he:Ext s0 s){c:Cut}{x:c0d E.D c}(hp:H7 E s0 s c=some x){R:Type}{r:R}{k:St E.D->Option R}(hu:j9 E s0 c x k=some r):
  ∃u ρ1 S1,k u=some r/\Rp E A u ρ1 S1 a as w/\Ext s0 u/\∀k,S1 k->S k:=by
 unfold H7 at hp;simp only at hp;split at hp<;>try cases hp
 rename_i s1 hf;split at hp<;>try cases hp
 rename_i ids x' hrd;split at hp<;>try cases hp
 rename_i hok;simp only[Bool.and_eq_true]at hok;obtain⟨⟨⟨⟨⟨hk1,hk2⟩,hto⟩,hlt⟩,hnd⟩,hsl⟩:=hok;obtain⟨S1,hs1,hr1,he1,hf1,hn1⟩:=F6 hE _ s _ s1 hf S h;have he2:=he.trans he1;have hvt:VT E ρ s1.nid w.heap S1 (c.sl.map (fun p=>J8 s p.1)++c.th.map (fun p=>R6 s p.1)) (c.sl.map (fun p=>a.tmps.getD p.1 undef)++c.th.map (fun p=>hd (ρ p.1))):=by
  rw[hn1];exact(VT.map fun p _=>(h.J8 p.1).G9 hs1).app (VT.map fun p _=>(h.R6 p.1).G9 hs1)
 obtain⟨hsr,hown⟩:=c0o hE hr1.th c.G7 _ ⟨ids,x⟩ _ hrd hvt;obtain⟨g1,g2,g3,g4,g5,g6⟩:=d0b (c.th.map Prod.fst) s0;unfold j9 at hu;have hlen:(ids.map (place ρ)).length=ids.length:=by simp
 obtain⟨vs2,tl,hk',hvt2,hnt⟩:=b00 (ρ:=J5 ρ s0.nid (ids.map (place ρ))) (N:=s0.nid+ids.length) c.G7 x _ _ (P0 s0 (c.th.map Prod.fst)) _ hsr hu (fun i v hi=>by rw[g1];exact e0X hi) (by rw[g1,hlen];exact le_refl _);obtain⟨htp,hrofs⟩:=Tp.pack hH h0 hr1 he2 hk2 hown hto hnt;obtain⟨l1,l2,rfl,hl1,hv1,hv2⟩:=hvt2.e0r;have hd:(l1++l2).drop c.sl.length=l2:=by
  have:l1.length=c.sl.length:=by simpa using hl1
  rw[<-this];simp
 have hnidU:((P0 s0 (c.th.map Prod.fst)).more tl (ids.map (place ρ)).length).nid=s0.nid+ids.length:=by show _+_=_;rw[g1,hlen]
 have hput:C5 ((P0 s0 (c.th.map Prod.fst)).more tl (ids.map (place ρ)).length) c.sl (l1++l2)=C5 ((P0 s0 (c.th.map Prod.fst)).more tl (ids.map (place ρ)).length) c.sl l1:=by
  have:∀(sl:List (Nat×Sh)) (l l':List (V E.D)) (u:St E.D),l.length=sl.length->C5 u sl (l++l')=C5 u sl l:=by
   intro sl
   induction sl with
   |
    nil=>
    intro l l' u hl;have:l=[]:=List.eq_nil_of_length_eq_zero hl;subst this;cases l'<;>rfl
   |
    cons p sl ih=>
    intro l l' u hl;cases l with
    |nil=>simp at hl
    |
     cons v l=>
     obtain⟨i,sh⟩:=p;show C5 (u.put (some i) v) sl (l++l')=C5 (u.put (some i) v) sl l;exact ih l l' _ (by simpa using hl)
  exact this _ _ _ _ (by simpa using hl1)
 rw[hd,hput]at hk';have hfr0:((P0 s0 (c.th.map Prod.fst)).more tl (ids.map (place ρ)).length).fr=s0.fr:=g2;obtain⟨q1,q2,q3,q4,q5,q6,q7⟩:=n0a (t:=fun k=>a.tmps.getD k undef) c.sl l1 ((P0 s0 (c.th.map Prod.fst)).more tl (ids.map (place ρ)).length) hv1 (fun k v hk hv=>by
  rw[hfr0]at hv;have h2:=o0N hk1 he2.fr (m06 hk) hv;exact VS.cut (fun i hi=>by rw[J4 hi]) (le_add_right _ _) (h0.get hv) (hr1.get h2))
 have htp2:Tp E A (C5 ((P0 s0 (c.th.map Prod.fst)).more tl (ids.map (place ρ)).length) c.sl l1) (J5 ρ s0.nid (ids.map (place ρ))) S1 w:=by
  have hlk:∀i,C0 (C5 ((P0 s0 (c.th.map Prod.fst)).more tl (ids.map (place ρ)).length) c.sl l1) i=C0 ((P0 s0 (c.th.map Prod.fst)).more tl (ids.map (place ρ)).length) i:=fun i=>by unfold C0;rw[q2]
  refine⟨htp.cx,fun i=>?_,fun i hi=>?_,fun i j hij hi hj=>?_,fun i hi=>?_,fun r q i f hr e F t xs hq=>?_,htp.kp,fun i u ha=>⟨by rw[q3];exact(htp.hp i u ha).1,(htp.hp i u ha).2⟩⟩
  ·rw[hlk,q3];exact htp.th i
  ·rw[hlk]at hi;exact htp.ow i hi
  ·rw[hlk]at hi hj;exact htp.dj i j hij hi hj
  ·rw[hlk];rw[q3]at hi;exact htp.lt i hi
  ·rw[hlk]at hr hq;exact htp.rf r q i f hr e F t xs hq
 have hltp:∀p∈c.th,p.1<s0.nid:=fun p hp=>by
  have:=all_eq_true.1 hlt p hp
  rwa [Nat.blt_eq]at this
 obtain⟨ρ2,m1,m0,m2,m3,m4,m5,m6,m7⟩:=h0O (N:=s0.nid+ids.length) (H:=w.heap) (S1:=S1) c.th l2 _ _ htp2 (fun p hp=>by rw[q3,hnidU];have:=hltp p hp;omega) (fun p hp e F t hsh r i f hr=>by
  have hlk:C0 (C5 ((P0 s0 (c.th.map Prod.fst)).more tl (ids.map (place ρ)).length) c.sl l1) r=C0 ((P0 s0 (c.th.map Prod.fst)).more tl (ids.map (place ρ)).length) r:=by unfold C0;rw[q2]
  rw[hlk]at hr;obtain⟨z1,z2,z3⟩:=hrofs r p.1 i f hr;rw[J4 z1,J4 z2];obtain⟨kk,hkk⟩:=List.getElem?_of_mem hp;obtain⟨pk',hpk⟩:=l0Q (e:=e) (F:=F) (t:=t) c.G7 _ _ hrd (c.sl.length+kk) (R6 s p.1) (by unfold Cut.G7;rw[List.getElem?_append_right (by simp)];simp[hkk,hsh]) (by rw[List.getElem?_append_right (by simp)];simp[hkk]);obtain⟨xs,hxs⟩:=x0c hpk;exact hr1.rf r p.1 i f z3 e F t xs hxs) (by
  have:c.th.map (fun p=>Go.X.hd (J5 ρ s0.nid (ids.map (place ρ)) p.1))=c.th.map (fun p=>Go.X.hd (ρ p.1)):=List.map_congr_left fun p hp=>by rw[J4 (hltp p hp)]
  rw[this];exact hv2)
 have hnidF:=m3.trans (q3.trans hnidU);refine⟨_,_,S1,hk',⟨m1.cx,⟨?_,h.fr.defers,fun t v ht=>?_⟩,?_,m1.th,m1.ow,m1.dj,m1.lt,m1.rf,m1.kp,m1.hp⟩,⟨?_,?_,?_,?_,?_⟩,hs1⟩
 ·rw[m4,q4];show a.tmps.size=(P0 s0 (c.th.map Prod.fst)).n;rw[g3,h.fr.size,he.n]
 ·rw[hnidF];rw[m2]at ht;exact(q1 t v ht).mono (fun i _=>m0 i) (le_refl _) (J0.refl _ _)
 ·rw[hnidF,m5,q5];show M6 E _ _ _ _ (P0 s0 (c.th.map Prod.fst)).stk as;rw[g4];have:=hr1.stk;rw[he2.stk]at this;exact M6.cut (fun i hi=>by rw[m0,J4 hi]) (le_add_right _ _) h0.stk this
 ·rw[m4,q4];exact g3
 ·rw[m2,q7];exact⟨q6,by rw[hfr0]⟩
 ·rw[m7,q2];exact⟨m6++(tl++g5),by show _=_ ;simp[St.more,g6]⟩
 ·rw[m5,q5];exact g4
 ·rw[hnidF];exact le_add_right _ _
section
variable {A:K2}{s0 s:St E.D}{ρ0 ρ:Nat->Value}{S0 S:B0}{a0 a:Act}{as0 as:List Act}{w0 w:World}
def Ex.f0V:∀{e f:Ex},Ex.eq e f=true->e=f
 |.nrm,.nrm,_=>rfl
 |.ex i,.ex j,h=>by have h:Nat.beq i j=true:=h;rw[beq_eq]at h;rw[h]
 |.ret,.ret,_=>rfl
 |.nrm,.ex _,h=>by cases h
 |.nrm,.ret,h=>by cases h
 |.ex _,.nrm,h=>by cases h
 |.ex _,.ret,h=>by cases h
 |.ret,.nrm,h=>by cases h
 |.ret,.ex _,h=>by cases h
def j00 (hE:B1 E){A0:K2}(hH:∀i u,A.hda i u->i<s0.nid)(h0:Rp E A0 s0 ρ0 S0 a0 as0 w0)(h:Rp E A s ρ S a as w)(he:Ext s0 s){e:Ex}{R:Type}{r:R}{k:Ex->St E.D->Option R}:∀(xs:List (Ex×Cut)) (d:c0H E.D xs),W8 E s0 e s xs=some d->resume E s0 k xs d=some r->
  ∃u ρ1 S1,k e u=some r/\Rp E A u ρ1 S1 a as w/\Ext s0 u
 |[],d,hp,_=>by cases d
 |
  [x],d,hp,hr=>by
  unfold W8 at hp;split at hp<;>try cases hp
  rename_i he2;have e2:=Ex.f0V he2;unfold resume at hr;obtain⟨u,ρ1,S1,h1,h2,h3,_⟩:=b0y hE hH h0 h he hp hr;exact⟨u,ρ1,S1,by rw[<-e2];exact h1,h2,h3⟩
 |
  x :: y :: xs,d,hp,hr=>by
  unfold W8 at hp;split at hp
  ·rename_i he2;have e2:=Ex.f0V he2;split at hp<;>try cases hp
   rename_i b hb;obtain⟨u,ρ1,S1,h1,h2,h3,_⟩:=b0y hE hH h0 h he hb (show j9 E s0 x.2 b (k x.1)=some r from hr);exact⟨u,ρ1,S1,by rw[<-e2];exact h1,h2,h3⟩
  ·split at hp<;>try cases hp
   rename_i b hb;exact j00 hE hH h0 h he (y :: xs) b hb hr
end
end
end
end
end
