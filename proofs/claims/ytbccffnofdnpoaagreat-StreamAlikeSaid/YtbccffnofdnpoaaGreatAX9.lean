/- P. Its conditions: none. -/
import Derived.Test.YtbccffnofdnpoaaGreatAX8
open Nat (lt_of_lt_of_le le_refl lt_or_ge)
set_option linter.all false
namespace Go.X
open Go.V Go.RowKit
section
variable {E:Env}
section
variable {ρ0 ρ ρ1:Nat->Value}{n0 n N:Nat}{H0 H:M0}{S0 S:E0}
mutual
def VC.cut (hρ:∀i,i<n0->hd (ρ1 i)=hd (ρ i))(hn:n0<=N):∀(v:V E.D) (c0 c:List Value),VC E ρ0 n0 H0 S0 v c0->VC E ρ n H S v c->VC E ρ1 N H S v c
 |.undef,_,_,_,h=>h
 |.kb _,_,_,_,h=>h
 |.ki _ _,_,_,_,h=>h
 |.d _ _,_,_,_,h=>h
 |.nil,_,_,_,h=>h
 |.nilp,_,_,_,h=>h
 |.nilif,_,_,_,h=>h
 |.nilfn,_,_,_,h=>h
 |.sl id,c0,c,⟨e,_⟩,⟨_,h1,g⟩=>⟨lt_of_lt_of_le e hn,by simp_all,by simp_all⟩
 |.pb id off p,c0,c,⟨e,_⟩,⟨_,h1,b,g,j⟩=>⟨lt_of_lt_of_le e hn,h1,b,(hρ id e).trans g,j⟩
 |.pe id i z p,c0,c,⟨e,_⟩,⟨_,h1,b,o,m,q,g,j⟩=>⟨lt_of_lt_of_le e hn,h1,b,o,m,q,(hρ id e).trans g,j⟩
 |.pd _ _,_,_,_,h=>h
 |.df _ _,_,_,_,h=>h
 |.mp id,c0,c,⟨e,_⟩,⟨_,h1,g⟩=>⟨lt_of_lt_of_le e hn,by simp_all,by simp_all⟩
 |.agg l,c0,c,e,h=>F1.cut hρ hn l c0 c e h
 |.tup l,c0,c,⟨k,_,e⟩,⟨u,h1,h⟩=>⟨u,h1,VT.cut hρ hn l k u e h⟩
 |.fn f l,c0,c,⟨k,_,e⟩,⟨u,h1,h⟩=>⟨u,h1,VT.cut hρ hn l k u e h⟩
 |.ifc T v,c0,c,⟨d0,e,_⟩,⟨d,h,h1⟩=>⟨d,VC.cut hρ hn v d0 d e h,h1⟩
def F1.cut (hρ:∀i,i<n0->hd (ρ1 i)=hd (ρ i))(hn:n0<=N):∀(l:List (V E.D)) (c0 c:List Value),F1 E ρ0 n0 H0 S0 l c0->F1 E ρ n H S l c->F1 E ρ1 N H S l c
 |[],_,_,_,h=>h
 |v :: l,_,_,⟨f,a2,_,h1,g⟩,⟨b,d,e,j,k2⟩=>⟨b,d,e,VC.cut hρ hn v f b h1 j,F1.cut hρ hn l a2 d g k2⟩
def VT.cut (hρ:∀i,i<n0->hd (ρ1 i)=hd (ρ i))(hn:n0<=N):∀(l:List (V E.D)) (c0 c:List Value),VT E ρ0 n0 H0 S0 l c0->VT E ρ n H S l c->VT E ρ1 N H S l c
 |[],_,_,_,h=>h
 |v :: l,_,_,⟨f,a2,h1,_,g⟩,⟨b,d,j,e,k2⟩=>⟨b,d,VC.cut hρ hn v f b h1 j,e,VT.cut hρ hn l a2 d g k2⟩
end -- mutual
def VS.cut (hρ:∀i,i<n0->hd (ρ1 i)=hd (ρ i))(hn:n0<=N){v:V E.D}{d u:Value}:VS E ρ0 n0 H0 S0 v d->VS E ρ n H S v u->VS E ρ1 N H S v u:=by
 rintro⟨c0,b,_⟩ ⟨c,h,e⟩
 exact⟨c,VC.cut hρ hn v c0 c b h,e⟩
def M4.cut (hρ:∀i,i<n0->hd (ρ1 i)=hd (ρ i))(hn:n0<=N){x:Th E.D}{v0 v:Value}(c:M4 E ρ0 n0 H0 S0 x v0)(h:M4 E ρ n H S x v):M4 E ρ1 N H S x v:=by
 cases x with
 |gone=>trivial
 |box T l=>
  obtain⟨_,c0,_,_,j,_⟩:=c;obtain⟨b,cs,rfl,h1,g,d⟩:=h;exact⟨b,cs,rfl,h1,F1.cut hρ hn l c0 cs j g,d⟩
 |fzb T l=>
  obtain⟨_,c0,_,_,j,_⟩:=c;obtain⟨b,cs,rfl,h1,g,d⟩:=h;exact⟨b,cs,rfl,h1,F1.cut hρ hn l c0 cs j g,d⟩
 |lst e t xs=>exact h
 |fz t xs=>exact h
 |map m=>exact h
 |G1 e F t xs o=>exact h
 |rof q i f=>exact⟨lt_of_lt_of_le c.1 hn,h.2⟩
def b0H.cut (hρ:∀i,i<n0->hd (ρ1 i)=hd (ρ i))(hn:n0<=N){m0 m:Nat}{fr:Fr E.D}{a0 a:Act}(c:b0H E ρ0 n0 H0 S0 m0 fr a0)(h:b0H E ρ n H S m fr a):b0H E ρ1 N H S m fr a:=
 ⟨h.size,h.defers,fun t v b=>VS.cut hρ hn (c.slot t v b) (h.slot t v b)⟩
def a0F.cut (hρ:∀i,i<n0->hd (ρ1 i)=hd (ρ i))(hn:n0<=N):∀{l:List (Nat×Fr E.D)} {as0 as:List Act},a0F E ρ0 n0 H0 S0 l as0->a0F E ρ n H S l as->a0F E ρ1 N H S l as
 |[],[],[],_,h=>h
 |[],[],_ :: _,_,h=>h.elim
 |[],_ :: _,_,b,_=>b.elim
 |_ :: _,[],_,b,_=>b.elim
 |_ :: _,_ :: _,[],_,h=>h.elim
 |p :: l,a0 :: as0,a :: as,⟨b,c⟩,⟨h,k⟩=>⟨b0H.cut hρ hn b h,a0F.cut hρ hn c k⟩
end
section
variable {A:A5}{s0 s s1:St E.D}{ρ0 ρ:Nat->Value}{S0 S:E0}{a0 a:Act}{as0 as:List Act}{w0 w:World}
structure Tp (E:Env)(A:A5)(s:St E.D)(ρ:Nat->Value)(S:E0)(w:World):Prop where
 cx:Cx A.w0 A.W0 A.S0 w S
 th:∀id,M4 E ρ s.nid w.heap S (G0 s id) (ρ id)
 ow:∀id,E2 (G0 s id)=true->∀k,Bk (ρ id) k->S k/\¬A.S0 k/\Wr A.W0 A.w0 k
 dj:∀i j,i≠j->E2 (G0 s i)=true->E2 (G0 s j)=true->∀k,Bk (ρ i) k->¬Bk (ρ j) k
 lt:∀id,s.nid<=id->G0 s id=.gone
 rf:∀r q i f,G0 s r=.rof q i f->∀e F t xs,G0 s q=.G1 e F t xs none->c0D w.heap (hd (ρ q)) F.length i f (ρ r)
 kp:∀H1 S1,A.anc H1 S1->Y0 H1 S1 w.heap S
 hp:∀i u,A.hda i u->i<s.nid/\hd (ρ i)=u
def Rp.tp (h:Rp E A s ρ S a as w):Tp E A s ρ S w:=⟨h.cx,h.th,h.ow,h.dj,h.lt,h.rf,h.kp,h.hp⟩
def i0J {D:Nat->Type}:∀(l:List Nat) (s:St D),(L1 s l).nid=s.nid/\(L1 s l).fr=s.fr/\(L1 s l).n=s.n/\(L1 s l).stk=s.stk/\∃t,(L1 s l).th=t++s.th
 |[],s=>⟨rfl,rfl,rfl,rfl,[],rfl⟩
 |i :: l,s=>by
  obtain⟨h1,c,b,d,t,e⟩:=i0J l (s.at i .gone);exact⟨h1,c,b,d,t++[(i,.gone)],by simp_all[L1,St.at]⟩
theorem j0e:∀(l:List Nat) (s:St E.D) (j:Nat),(j∈l->G0 (L1 s l) j=.gone)/\(G0 (L1 s l) j=G0 s j\/G0 (L1 s l) j=.gone)
 |[],s,j=>⟨(fun h=>by cases h),.inl rfl⟩
 |i :: l,s,j=>by
  obtain⟨h1,b⟩:=j0e l (s.at i .gone) j;have hl:=M9 s i j .gone;refine⟨fun h=>?_,?_⟩
  ·rcases List.mem_cons.1 h with rfl|h
   ·show G0 (L1 (s.at j .gone) l) j=.gone
    simp_all
   ·exact h1 h
  ·show G0 (L1 (s.at i .gone) l) j=_\/G0 (L1 (s.at i .gone) l) j=_
   grind
def Tp.gone (h:Tp E A s ρ S w)(id:Nat):Tp E A (s.at id .gone) ρ S w:=by
 have hl:∀j,G0 (s.at id .gone) j=if id=j then .gone else G0 s j:=fun j=>M9 s id j .gone;refine⟨h.cx,fun j=>?_,fun j b=>?_,fun i j d hi b=>?_,fun j b=>?_,fun r q i f c e F t xs hq=>?_,h.kp,h.hp⟩
 ·rw[hl];split
  ·trivial
  ·exact h.th j
 ·rw[hl]at b;split at b
  ·cases b
  ·exact h.ow j b
 ·rw[hl]at hi b;split at hi
  ·cases hi
  ·split at b
   ·cases b
   ·exact h.dj i j d hi b
 ·rw[hl];split
  ·rfl
  ·exact h.lt j b
 ·rw[hl]at c hq;split at c
  ·cases c
  ·split at hq
   ·cases hq
   ·exact h.rf r q i f c e F t xs hq
def Tp.v0D:∀(l:List Nat) {s:St E.D},Tp E A s ρ S w->Tp E A (L1 s l) ρ S w
 |[],_,h=>h
 |i :: l,s,h=>Tp.v0D l (s:=s.at i .gone) (h.gone i)
theorem t0q {D:Nat->Type}{s:St D}{q r b f:Nat}{i:Int}(h:G0 (S7 s q) r=.rof b i f):G0 s r=.rof b i f/\b≠q:=by
 unfold S7 at h;rw[e0m]at h;split at h
 ·cases h
 ·refine⟨h,?_⟩
  grind [n0W]
theorem Tp.rename (h:Tp E A s ρ S w){s1:St E.D}{G:List Nat}{x:Th E.D}{id j:Nat}(R:s1=Go.X.L1 s G)(b1:id<s.nid)(C:x=G0 s j)(p:y0j x=false)(e:hd (ρ id)=hd (ρ j))
  (U:∀r i f,G0 s1 r=.rof id i f->∀e F t xs,x=.G1 e F t xs none->c0D w.heap (hd (ρ id)) F.length i f (ρ r)):Tp E A ((s1.at id x).at j .gone) (Q6 ρ id (ρ j)) S w:=by
 subst R;have hl:∀i,G0 (((Go.X.L1 s G).at id x).at j .gone) i=if j=i then .gone else if id=i then x else if i∈G then .gone else G0 s i:=fun i=>by
  simp[M9,e0m]
 have hn:(((Go.X.L1 s G).at id x).at j .gone).nid=s.nid:=(a0D G s).1;have l:∀i,hd (Q6 ρ id (ρ j) i)=hd (ρ i):=fun i=>by
  grind [H5,j6]
 have a1:∀q i f,x≠.rof q i f:=fun q i f e=>by rw[e]at p;cases p
 have g:∀(y:Th E.D) (v:Value),M4 E ρ s.nid w.heap S y v->M4 E (Q6 ρ id (ρ j)) s.nid w.heap S y v:=fun y v hy=>hy.mono (fun i _=>l i) (le_refl _) (Y0.refl _ _) (fun _ _ _=>rfl);refine⟨h.cx,fun i=>?_,fun i c k hk=>?_,fun i i' m c b k hk d=>?_,fun i hi=>?_,fun r q i f o z F t xs hq=>?_,h.kp,fun i u ha=>⟨by rw[hn];exact(h.hp i u ha).1,(l i).trans (h.hp i u ha).2⟩⟩
 ·rw[hl,hn];split
  ·trivial
  ·split
   ·rename_i h1;subst h1;rw[H5,C];exact g _ _ (h.th j)
   ·rename_i h1;split
    ·trivial
    ·rw[j6 (Ne.symm h1)];exact g _ _ (h.th i)
 ·rw[hl]at c;split at c
  ·cases c
  ·split at c
   ·rename_i h1;subst h1;rw[H5]at hk;rw[C]at c;exact h.ow j c k hk
   ·rename_i h1;rw[j6 (Ne.symm h1)]at hk;split at c
    ·cases c
    ·exact h.ow i c k hk
 ·rw[hl]at c b;split at c
  ·cases c
  ·split at b
   ·cases b
   ·rename_i h1 h2;split at c
    ·rename_i I;subst I;rw[if_neg m]at b;rw[H5]at hk;rw[j6 (Ne.symm m)]at d;rw[C]at c;split at b
     ·cases b
     ·exact h.dj j i' h2 c b k hk d
    ·rename_i I;rw[j6 (Ne.symm I)]at hk;split at c
     ·cases c
     ·split at b
      ·rename_i J;subst J;rw[H5]at d;rw[C]at b;exact h.dj i j (fun z=>h1 z.symm) c b k hk d
      ·rename_i J;rw[j6 (Ne.symm J)]at d;split at b
       ·cases b
       ·exact h.dj i i' m c b k hk d
 ·rw[hn]at hi;rw[hl];split
  ·rfl
  ·split
   ·omega
   ·split
    ·rfl
    ·exact h.lt i hi
 ·rw[hl]at o hq;split at o
  ·cases o
  ·split at o
   ·grind
   ·rename_i h1;split at o
    ·cases o
    ·rename_i hg;rw[l,j6 (Ne.symm h1)];split at hq
     ·cases hq
     ·split at hq
      ·rename_i h2;subst h2;exact U r i f (by simp_all[e0m]) z F t xs hq
      ·split at hq
       ·cases hq
       ·exact h.rf r q i f o z F t xs hq
def N03 {D:Nat->Type}(s:St D)(id:Nat)(sh:Sh)(v:V D):(b0P s id sh v).nid=s.nid/\(b0P s id sh v).fr=s.fr/\(b0P s id sh v).n=s.n/\(b0P s id sh v).stk=s.stk/\∃t,(b0P s id sh v).th=t++s.th:=by
 have mv:∀j,(mvT s id j sh).nid=s.nid/\(mvT s id j sh).fr=s.fr/\(mvT s id j sh).n=s.n/\(mvT s id j sh).stk=s.stk/\∃t,(mvT s id j sh).th=t++s.th:=fun j=>by
  unfold mvT;split
  ·exact⟨rfl,rfl,rfl,rfl,[(_,_)],rfl⟩
  ·split
   ·exact⟨rfl,rfl,rfl,rfl,[(_,_),(_,_)],rfl⟩
   ·obtain⟨h1,c,b,d,t,e⟩:=a0D (a0z id s.th) s;exact⟨h1,c,b,d,(j,.gone) :: (id,G0 s j) :: t,by show _ :: _ :: (S7 s id).th=_;simp_all[S7]⟩
 unfold b0P;split<;>first|exact mv _|exact⟨rfl,rfl,rfl,rfl,[(_,_)],rfl⟩
def D0W (E:Env)(s:St E.D)(ρ:Nat->Value)(w:World)(th:List (Nat×Sh)):Prop:=∀p∈th,∀e F t,p.2=.G1 e F t->∀r i f,G0 s r=.rof p.1 i f->c0D w.heap (hd (ρ p.1)) F.length i f (ρ r)
theorem Tp.move (h:Tp E A s ρ S w){id:Nat}{sh:Sh}(k:id<s.nid){v:V E.D}{H:M0}{N:Nat}{S1:E0}(l:VS E ρ N H S1 v (hd (ρ id)))(p:∀e F t,sh=.G1 e F t->∀r i f,G0 s r=.rof id i f->c0D w.heap (hd (ρ id)) F.length i f (ρ r)):
  ∃ ρ1,Tp E A (b0P s id sh v) ρ1 S w/\(∀i,hd (ρ1 i)=hd (ρ i))/\∀r q i f,G0 (b0P s id sh v) r=.rof q i f->G0 s r=.rof q i f/\ρ1 r=ρ r:=by
 have o:∃ ρ1,Tp E A (s.at id .gone) ρ1 S w/\(∀i,hd (ρ1 i)=hd (ρ i))/\∀r q i f,G0 (s.at id .gone) r=.rof q i f->G0 s r=.rof q i f/\ρ1 r=ρ r:=by
  refine⟨ρ,h.gone id,fun _=>rfl,fun r q i f c=>?_⟩;rw[M9]at c
  grind
 have mv:∀j,hd (ρ id)=hd (ρ j)->∃ ρ1,Tp E A (mvT s id j sh) ρ1 S w/\(∀i,hd (ρ1 i)=hd (ρ i))/\∀r q i f,G0 (mvT s id j sh) r=.rof q i f->G0 s r=.rof q i f/\ρ1 r=ρ r:=by
  intro j e;unfold mvT;split
  ·exact o
  ·rename_i d;have g:∀i,hd (Q6 ρ id (ρ j) i)=hd (ρ i):=fun i=>by
    grind [H5,j6]
   have m:∀q i f,G0 s j≠.rof q i f:=fun q i f e=>by rw[e]at d;cases d
   split
   ·rename_i hk;refine⟨Q6 ρ id (ρ j),h.rename (G:=[]) rfl k rfl d e (fun r i f c x F t xs u=>?_),g,fun r q i f c=>?_⟩
    ·unfold w0D at hk;split at hk
     ·simp_all
     grind
    ·rw[M9,M9]at c;split at c
     ·cases c
     ·split at c
      ·simp_all
      simp_all[j6,Ne.symm]
   ·refine⟨Q6 ρ id (ρ j),h.rename (G:=a0z id s.th) rfl k rfl d e (fun r i f c=>?_),g,fun r q i f c=>?_⟩
    ·exact absurd rfl (t0q c).2
    ·rw[M9,M9]at c;split at c
     ·cases c
     ·split at c
      ·simp_all
      ·rename_i h1;exact⟨(t0q c).1,j6 (Ne.symm h1)⟩
 unfold b0P;split
 ·obtain⟨_,e⟩:=l.Y8
  simp_all
 ·obtain⟨_,_,b,h1,y⟩:=l.b04
  simp_all[Q5]
 ·obtain⟨_,e⟩:=l.h0W
  simp_all
 omega
section
variable {A:A5}{s0 s s1:St E.D}{ρ0 ρ:Nat->Value}{S0 S:E0}{a0 a:Act}{as0 as:List Act}{w0 w:World}
theorem u0Y {α β:Type}{now b:List (Nat×α)}{c:List (Nat×β)}(h:j0x now b c=true)(he:∃l,now=l++b){k:Nat}(hk:C5 c k=none){v:α}(d:C5 b k=some v):C5 now k=some v:=by
 obtain⟨l,rfl⟩:=he;have e:(l++b).take ((l++b).length-b.length)=l:=V'
 grind [j0x,o0P,l00]
def y0p {α:Type}:∀{l:List (Nat×α)} {k:Nat},k∉l.map Prod.fst->C5 l k=none:=fun {l k} h=>l00 l k fun p hp e=>h (List.mem_map.2 ⟨p,hp,e⟩)
def p04:∀{l:List Nat},d0n l=true->l.Nodup
 |[],_=>List.nodup_nil
 |x :: l,h=>by
  simp only[d0n,Bool.and_eq_true,Bool.not_eq_true',List.any_eq_false]at h;refine List.nodup_cons.2 ⟨fun b=>?_,p04 h.2⟩;have:=h.1 x b
  simp_all
def V7 (ρ:Nat->Value)(n0:Nat)(pl:List Value):Nat->Value:=fun i=>if i<n0 then ρ i else(pl[i-n0]?).getD undef
def o7 {n0 i:Nat}{pl:List Value}(h:i<n0):V7 ρ n0 pl i=ρ i:=if_pos h
def o0D {n0 i:Nat}{pl:List Value}{v:Value}(h:pl[i]?=some v):V7 ρ n0 pl (n0+i)=v:=by
 simp_all[V7,if_neg]
theorem Tp.pack {A0:A5}(hH:∀i u,A.hda i u->i<s0.nid)(h0:Rp E A0 s0 ρ0 S0 a0 as0 w0)(h:Rp E A s1 ρ S a as w)(he:Ext s0 s1){b:List (Nat×Sh)}(hk:j0x s1.th s0.th b=true){ids:List (Option Nat)}(ho:G6 s1 ids)(ht:o0S s0.nid b (ids.filterMap fun x=>x)=true)
  {tl:List (Nat×Th E.D)} (hn:X6 E (V7 ρ s0.nid (ids.map (place ρ))) (s0.nid+ids.length) w.heap S (L1 s0 (b.map Prod.fst)) tl (ids.map (place ρ))):
  Tp E A ((L1 s0 (b.map Prod.fst)).more tl (ids.map (place ρ)).length) (V7 ρ s0.nid (ids.map (place ρ))) S w/\
   ∀r q i f,G0 ((L1 s0 (b.map Prod.fst)).more tl (ids.map (place ρ)).length) r=.rof q i f->r<s0.nid/\q<s0.nid/\G0 s1 r=.rof q i f:=by
 obtain⟨g1,g2,g3,g4,g5,g6⟩:=i0J (b.map Prod.fst) s0;have hlen:(ids.map (place ρ)).length=ids.length:=V'
 have C:((L1 s0 (b.map Prod.fst)).more tl (ids.map (place ρ)).length).nid=s0.nid+ids.length:=by show _+_=_;omega
 simp only[o0S,Bool.and_eq_true,List.all_eq_true]at ht;obtain⟨R,b2⟩:=ht;have R:=p04 R;have low:∀j,j<s0.nid->G0 ((L1 s0 (b.map Prod.fst)).more tl (ids.map (place ρ)).length) j=.gone\/
   (G0 ((L1 s0 (b.map Prod.fst)).more tl (ids.map (place ρ)).length) j=G0 s0 j/\G0 s0 j=G0 s1 j/\C5 b j=none):=by
  intro j hj;rw[f0T _ _ _ _ (fun p hp=>by have:=hn.keys p hp;omega)];obtain⟨k1,k2⟩:=j0e (b.map Prod.fst) s0 j;cases hc:C5 b j with
  |some x=>
   refine .inl (k1 ?_)
   by_cases hm:j∈b.map Prod.fst
   ·exact hm
   simp_all[y0p]
  |none=>
   rcases k2 with k2|k2
   ·cases hw:C5 s0.th j with
    |none=>
     simp_all[G0]
    |some x=>
     refine .inr ⟨k2,?_,rfl⟩;unfold G0;rw[hw,u0Y hk he.th hc hw]
   simp_all
 have high:∀i,s0.nid+ids.length<=i->G0 ((L1 s0 (b.map Prod.fst)).more tl (ids.map (place ρ)).length) i=.gone:=by
  intro i hi;rw[f0T _ _ _ _ (fun p hp=>by have:=hn.keys p hp;omega)];obtain⟨k1,k2⟩:=j0e (b.map Prod.fst) s0 i;rcases k2 with k2|k2
  ·rw[k2];exact h0.lt i O'
  omega
 have new:∀i,s0.nid<=i->i<s0.nid+ids.length->∃x,ids[i-s0.nid]?=some x/\V7 ρ s0.nid (ids.map (place ρ)) i=place ρ x:=by
  intro i h1 h2;have c:i-s0.nid<ids.length:=O'
  refine⟨ids[i-s0.nid],V',?_⟩;have:=o0D (ρ:=ρ) (n0:=s0.nid) (pl:=ids.map (place ρ)) (i:=i-s0.nid) (v:=place ρ ids[i-s0.nid]) (by grind)
  simp_all
 have I:∀i,E2 (G0 ((L1 s0 (b.map Prod.fst)).more tl (ids.map (place ρ)).length) i)=true->∀k,Bk (V7 ρ s0.nid (ids.map (place ρ)) i) k->
   ∃j,E2 (G0 s1 j)=true/\Bk (ρ j) k/\((i<s0.nid/\j=i/\C5 b j=none)\/(s0.nid<=i/\ids[i-s0.nid]?=some (some j))):=by
  intro i d k g;rcases lt_or_ge i s0.nid with c|hge2
  ·rcases low i c with e|⟨e1,e2,e3⟩
   ·rw[e]at d;cases d
   ·rw[e1,e2]at d;rw[o7 c]at g
    grind
  ·rcases lt_or_ge i (s0.nid+ids.length)with hlt2|hge3
   ·obtain⟨x,U,hp⟩:=new i hge2 hlt2;rw[hp]at g;cases x with
    |none=>cases g
    |some j=>exact⟨j,ho j (List.mem_of_getElem? U),g,.inr ⟨hge2,U⟩⟩
   ·rw[high i hge3]at d;cases d
 have inj:∀(i J:Nat) (j:Nat),i≠J->ids[i]?=some (some j)->ids[J]?=some (some j)->False:=by
  intro i J j a1 h1 h2;have:∀(l:List (Option Nat)) (p q:Nat),(l.filterMap fun x=>x).Nodup->p<q->l[p]?=some (some j)->l[q]?=some (some j)->False:=by
   intro l
   induction l with
   |nil=>simp
   |cons y l ih=>
    grind
  grind
 have z:∀r q i f,G0 ((L1 s0 (b.map Prod.fst)).more tl (ids.map (place ρ)).length) r=.rof q i f->r<s0.nid/\q<s0.nid/\G0 s1 r=.rof q i f:=by
  intro r q i f hr;rcases lt_or_ge r s0.nid with c|hge2
  ·rcases low r c with e|⟨e1,e2,_⟩
   ·simp_all
   ·exact⟨c,h0.c0C (by rw[<-e1];exact hr),by simp_all⟩
  ·rcases lt_or_ge r (s0.nid+ids.length)with hlt2|hge3
   ·obtain⟨x,U,hp⟩:=new r hge2 hlt2;have:=(hn.th (r-s0.nid) (place ρ x) (by simp_all)).2;rw[g1,show s0.nid+(r-s0.nid)=r from O',hr]at this;cases this
   simp_all
 refine⟨⟨h.cx,fun id=>?_,fun i d k g=>?_,fun i J a1 d b3 k g c6=>?_,fun i hi=>high i O',fun r q i f hr e F t xs hq=>?_,h.kp,fun i u ha=>⟨by rw[C];have:=hH i u ha;omega,by rw[o7 (hH i u ha)];exact(h.hp i u ha).2⟩⟩,z⟩
 ·rw[C];rcases lt_or_ge id s0.nid with c|hge2
  ·rcases low id c with e|⟨e1,e2,e3⟩
   ·rw[e];trivial
   ·rw[e1,o7 c];have h1:=h.th id;rw[<-e2]at h1;exact M4.cut (fun i hi=>by rw[o7 hi]) (Nat.le_add_right _ _) (h0.th id) h1
  ·rcases lt_or_ge id (s0.nid+ids.length)with hlt2|hge3
   ·obtain⟨x,U,hp⟩:=new id hge2 hlt2;have:=(hn.th (id-s0.nid) (place ρ x) (by rw[List.getElem?_map,U];rfl)).1;rw[g1,show s0.nid+(id-s0.nid)=id from O']at this;rw[hp];exact this
   ·rw[high id hge3];trivial
 ·obtain⟨j,h1,h2,_⟩:=I i d k g;exact h.ow j h1 k h2
 ·obtain⟨j,h1,h2,h3⟩:=I i d k g;obtain⟨j',c4,c5,m⟩:=I J b3 k c6
  by_cases b4:j=j'
  ·subst b4;rcases h3 with⟨h3,rfl,h5⟩|⟨h3,h5⟩
   ·rcases m with⟨m,c3,_⟩|⟨m,o⟩
    ·exact a1 c3
    ·have:=b2 j (List.mem_filterMap.2 ⟨some j,List.mem_of_getElem? o,rfl⟩);rw[h5]at this;simp at this;omega
   ·rcases m with⟨m,rfl,o⟩|⟨m,o⟩
    ·have:=b2 j (List.mem_filterMap.2 ⟨some j,List.mem_of_getElem? h5,rfl⟩);rw[o]at this;simp at this;omega
    ·exact inj _ _ j O' h5 o
  ·exact h.dj j j' b4 h1 c4 k h2 c5
 ·obtain⟨h1,b1,h3⟩:=z r q i f hr;rcases low q b1 with e'|⟨e1,e2,_⟩
  ·rw[e']at hq;cases hq
  ·rw[o7 b1,o7 h1];exact h.rf r q i f h3 e F t xs (by rw[<-e2,<-e1];exact hq)
section
variable {A:A5}{s0 s s1:St E.D}{ρ0 ρ:Nat->Value}{S0 S:E0}{a0 a:Act}{as0 as:List Act}{w0 w:World}
def VT.app {n:Nat}{H:M0}:∀{l l':List (V E.D)} {us b:List Value},VT E ρ n H S l us->VT E ρ n H S l' b->VT E ρ n H S (l++l') (us++b)
 |[],l',us,b,h,d=>by simp_all[VT]
 |v :: l,l',us,b,h,d=>by
  obtain⟨c,u,h1,rfl,e⟩:=h;exact⟨c,u++b,h1,rfl,VT.app e d⟩
theorem VT.map {n:Nat}{H:M0}{α:Type}{f:α->V E.D}{g:α->Value}:∀{l:List α},(∀p∈l,VS E ρ n H S (f p) (g p))->VT E ρ n H S (l.map f) (l.map g)
 |[],_=>by rfl
 |p :: l,h=>by
  obtain⟨c,h1,b⟩:=h p V';rw[List.map_cons,List.map_cons];exact⟨c,_,h1,by rw[b],VT.map fun q hq=>h q (by grind)⟩
theorem VT.k0O {n:Nat}{H:M0}:∀{us b:List Value} {l:List (V E.D)},VT E ρ n H S l (us++b)->∃l1 l2,l=l1++l2/\l1.length=us.length/\VT E ρ n H S l1 us/\VT E ρ n H S l2 b
 |[],b,l,h=>⟨[],l,rfl,rfl,by rfl,h⟩
 |u :: us,b,[],h=>by simp_all[VT]
 |u :: us,b,v :: l,h=>by
  obtain⟨c,q,h1,e,d⟩:=h;obtain⟨rfl,rfl⟩:=e;obtain⟨l1,l2,rfl,g,i,f⟩:=VT.k0O d;exact⟨v :: l1,l2,rfl,by grind,by unfold VT;grind,f⟩
def Rp.c0n (h:Rp E A s ρ S a as w)(t:Nat):VS E ρ s.nid w.heap S (c0n s t) (a.tmps.getD t undef):=by
 unfold Go.X.c0n;cases b:C5 s.fr t with
 |some v=>exact h.get b
 |none=>exact VS.undef _
def Rp.thV (h:Rp E A s ρ S a as w)(id:Nat):VS E ρ s.nid w.heap S (thV s id) (hd (ρ id)):=by
 have g:=h.th id;have d:G0 s id≠.gone->id<s.nid:=h.F7;unfold Go.X.thV;cases hl:G0 s id with
 |gone=>exact VS.undef _
 |box T l=>
  rw[hl]at g d;obtain⟨b,cs,k,_⟩:=g;have:=VS.pb (E:=E) (ρ:=ρ) (b:=b) (S:=S) (H:=w.heap) (off:=0) (p:=[]) (d V') trivial (by rw[k];rfl)
  simp_all[Q5,Go.X.hd]
 |fzb T l=>
  rw[hl]at g d;obtain⟨b,cs,k,_⟩:=g;have:=VS.pb (E:=E) (ρ:=ρ) (b:=b) (S:=S) (H:=w.heap) (off:=0) (p:=[]) (d V') trivial (by rw[k];rfl)
  simp_all[Q5,Go.X.hd]
 |lst e t xs=>
  rw[hl]at g d;obtain⟨u,c,j⟩:=U5.form g;exact VS.of rfl (by exact⟨d V',by rw[j];rfl,rfl⟩)
 |fz t xs=>
  rw[hl]at g d;obtain⟨u,c,j,_⟩:=g;exact VS.of rfl (by exact⟨d V',by rw[j];rfl,rfl⟩)
 |map m=>
  rw[hl]at g d;obtain⟨r,es,cl,j,_⟩:=g;exact VS.of rfl (by exact⟨d V',by rw[j];rfl,rfl⟩)
 |G1 e F t xs o=>
  rw[hl]at g d;obtain⟨cs,g⟩:=g;obtain⟨u,c,j⟩:=Row.form g.row;exact VS.of rfl (by exact⟨d V',by rw[j];rfl,rfl⟩)
 |rof q i f=>
  rw[hl]at g d;exact VS.of rfl (by exact⟨d V',by rw[g.2.2];exact g.2.1,rfl⟩)
theorem t0J {n:Nat}{H:M0}{t:Nat->Value}:∀(sl:List (Nat×Sh)) (l:List (V E.D)) (u:St E.D),VT E ρ n H S l (sl.map fun p=>t p.1)->(∀k v,k∉sl.map Prod.fst->C5 u.fr k=some v->VS E ρ n H S v (t k))->
  (∀k v,C5 (Z8 u sl l).fr k=some v->VS E ρ n H S v (t k))/\(Z8 u sl l).th=u.th/\(Z8 u sl l).nid=u.nid/\(Z8 u sl l).n=u.n/\(Z8 u sl l).stk=u.stk/\∃q,(Z8 u sl l).fr=q++u.fr
 |[],l,u,_,hu=>⟨fun k v h=>hu k v V' (by cases l<;>exact h),by rfl,by rfl,by rfl,by rfl,[],by rfl⟩
 |(i,sh) :: sl,[],u,hl,_=>by simp_all[VT]
 |(i,sh) :: sl,v :: l,u,hl,hu=>by
  rw[List.map_cons]at hl;obtain⟨c,us,h1,b,d⟩:=hl;simp only[List.cons.injEq]at b;obtain⟨b,rfl⟩:=b;obtain⟨g,k2,f,m,j,q,o⟩:=t0J sl l (u.put (some i) v) d (fun k w hk hw=>by
   simp only[St.put,a0R]at hw;split at hw
   ·rename_i e;simp only[Option.some.injEq]at hw;subst e;subst hw;exact⟨c,h1,b⟩
   grind)
  exact⟨g,k2,f,m,j,q++[(i,v)],by simp_all[Z8,St.put]⟩
theorem p0r {N:Nat}{H:M0}{S1:E0}:∀(th:List (Nat×Sh)) (l:List (V E.D)) (u:St E.D) (ρ:Nat->Value),Tp E A u ρ S w->(∀p∈th,p.1<u.nid)->D0W E u ρ w th->VT E ρ N H S1 l (th.map fun p=>hd (ρ p.1))->
  ∃ ρ1,Tp E A (a00 u th l) ρ1 S w/\(∀i,hd (ρ1 i)=hd (ρ i))/\(a00 u th l).fr=u.fr/\(a00 u th l).nid=u.nid/\(a00 u th l).n=u.n/\(a00 u th l).stk=u.stk/\∃q,(a00 u th l).th=q++u.th
 |[],l,u,ρ,h,_,_,_=>⟨ρ,by cases l<;>exact h,fun _=>rfl,by rfl,by rfl,by rfl,by rfl,[],by rfl⟩
 |(i,sh) :: th,[],u,ρ,_,_,_,hl=>by simp_all[VT]
 |(i,sh) :: th,v :: l,u,ρ,h,hi,hrf,hl=>by
  rw[List.map_cons]at hl;obtain⟨c,us,h1,b,k⟩:=hl;simp only[List.cons.injEq]at b;obtain⟨b,rfl⟩:=b;obtain⟨m1,m2,m3,m4,q,m5⟩:=N03 u i sh v;obtain⟨ρ1,g1,g2,g3⟩:=h.move (hi (i,sh) V') (sh:=sh) ⟨c,h1,b⟩ (hrf (i,sh) V');have g:VT E ρ1 N H S1 l (th.map fun p=>hd (ρ1 p.1)):=by
   have e:(th.map fun p=>hd (ρ1 p.1))=th.map fun p=>hd (ρ p.1):=List.map_congr_left fun p _=>g2 p.1;rw[e];exact k.mono (fun i _=>g2 i) (le_refl _) (Y0.refl _ _)
  obtain⟨ρ2,R,I,k2,J,y,U,z,C⟩:=p0r th l (b0P u i sh v) ρ1 g1 (fun p hp=>by grind) (fun p hp e F t d r j f m=>by
   obtain⟨o,x⟩:=g3 r p.1 j f m;rw[g2,x];exact hrf p (by grind) e F t d r j f o) g
  grind [a00]
theorem y0s {s:St E.D}{e:Nat}{F:List Nat}{t:U}:∀(cs:List Sh) (l:List (V E.D)) (g:Pk (F5 E.D cs)),l8 E s cs l=some g->∀(i:Nat) (v:V E.D),cs[i]?=some (.G1 e F t)->l[i]?=some v->∃f,d09 E s e F t v=some f
 |[],_,_,_,i,_,hi,_=>by grind
 |x :: r,l,g,h,i,v,hi,hv=>by
  unfold l8 at h;split at h<;>try cases h
  rename_i k l';split at h<;>try cases h
  rename_i m a j b d c;cases i with
  |zero=>
   obtain rfl:x=.G1 e F t:=Option.some.inj hi;obtain rfl:k=v:=Option.some.inj hv;exact⟨_,d⟩
  |succ i=>exact y0s r l' _ c i v (by simp_all) (by simp_all)
theorem E0i {s s1:St E.D}{id e:Nat}{F:List Nat}{t:U}{b:Pk (List (Den E.D t))}(h:d09 E s1 e F t (thV s id)=some b):∃xs,G0 s1 id=.G1 e F t xs none:=by
 unfold thV at h;split at h<;>simp only[d09]at h<;>first|simp_all|skip
 all_goals
  split at h<;>try cases h
  split at h<;>try cases h
  rename_i he c;rw[Bool.and_eq_true,Nat.beq_eq,beq_iff_eq]at he
  grind [W9]
theorem d0T (hE:G2 E){A0:A5}(hH:∀i u,A.hda i u->i<s0.nid)(h0:Rp E A0 s0 ρ0 S0 a0 as0 w0)(h:Rp E A s ρ S a as w)(he:Ext s0 s){c:Cut}{x:f0V E.D c}(hp:b0I E s0 s c=some x){R:Type}{r:R}{k:St E.D->Option R}(hu:d0U E s0 c x k=some r):
  ∃u ρ1 S1,k u=some r/\Rp E A u ρ1 S1 a as w/\Ext s0 u/\∀k,S1 k->S k:=by
 unfold b0I at hp;simp only at hp;split at hp<;>try cases hp
 rename_i s1 hf;split at hp<;>try cases hp
 rename_i ids x' U;split at hp<;>try cases hp
 rename_i b3;simp only[Bool.and_eq_true]at b3;obtain⟨⟨⟨⟨⟨e6,h6⟩,c8⟩,e3⟩,h7⟩,j1⟩:=b3;obtain⟨S1,C,m,e9,j0,e2⟩:=a0w hE _ s _ s1 hf S h;have I:=he.trans e9;have h4:VT E ρ s1.nid w.heap S1 (c.sl.map (fun p=>c0n s p.1)++c.th.map (fun p=>thV s p.1)) (c.sl.map (fun p=>a.tmps.getD p.1 undef)++c.th.map (fun p=>hd (ρ p.1))):=by
  rw[e2];exact(VT.map fun p _=>(h.c0n p.1).d0S C).app (VT.map fun p _=>(h.thV p.1).d0S C)
 obtain⟨e5,b2⟩:=h0A hE m.th c.shs _ ⟨ids,x⟩ _ U h4;obtain⟨g1,g2,g3,g4,g5,g6⟩:=i0J (c.th.map Prod.fst) s0;have hlen:(ids.map (place ρ)).length=ids.length:=V'
 obtain⟨i1,tl,b1,b4,e1⟩:=g0I (ρ:=V7 ρ s0.nid (ids.map (place ρ))) (N:=s0.nid+ids.length) c.shs x _ _ (L1 s0 (c.th.map Prod.fst)) _ e5 hu (fun i v hi=>by rw[g1];exact o0D hi) (by simp_all);obtain⟨b,J⟩:=Tp.pack hH h0 m I h6 b2 c8 e1;obtain⟨l1,l2,rfl,h8,h3,c5⟩:=b4.k0O;have hd:(l1++l2).drop c.sl.length=l2:=by
  simp_all
 have g:((L1 s0 (c.th.map Prod.fst)).more tl (ids.map (place ρ)).length).nid=s0.nid+ids.length:=by show _+_=_;omega
 have c4:Z8 ((L1 s0 (c.th.map Prod.fst)).more tl (ids.map (place ρ)).length) c.sl (l1++l2)=Z8 ((L1 s0 (c.th.map Prod.fst)).more tl (ids.map (place ρ)).length) c.sl l1:=by
  have:∀(sl:List (Nat×Sh)) (l l':List (V E.D)) (u:St E.D),l.length=sl.length->Z8 u sl (l++l')=Z8 u sl l:=by
   intro sl
   induction sl with
   |nil=>
    intro l l' u hl;rfl
   |cons p sl ih=>
    intro l l' u hl;cases l with
    |nil=>grind
    |cons v l=>
     simp_all[Z8]
  simp_all
 rw[hd,c4]at b1;have y:((L1 s0 (c.th.map Prod.fst)).more tl (ids.map (place ρ)).length).fr=s0.fr:=g2;obtain⟨q1,q2,q3,q4,q5,q6,q7⟩:=t0J (t:=fun k=>a.tmps.getD k undef) c.sl l1 ((L1 s0 (c.th.map Prod.fst)).more tl (ids.map (place ρ)).length) h3 (fun k v hk hv=>by
  rw[y]at hv;have h2:=u0Y e6 I.fr (y0p hk) hv;exact VS.cut (fun i hi=>by rw[o7 hi]) (Nat.le_add_right _ _) (h0.get hv) (m.get h2))
 have c3:Tp E A (Z8 ((L1 s0 (c.th.map Prod.fst)).more tl (ids.map (place ρ)).length) c.sl l1) (V7 ρ s0.nid (ids.map (place ρ))) S1 w:=by
  have d:∀i,G0 (Z8 ((L1 s0 (c.th.map Prod.fst)).more tl (ids.map (place ρ)).length) c.sl l1) i=G0 ((L1 s0 (c.th.map Prod.fst)).more tl (ids.map (place ρ)).length) i:=fun i=>by simp_all[G0]
  refine⟨b.cx,fun i=>?_,fun i hi=>?_,fun i j c6 hi hj=>?_,fun i hi=>?_,fun r q i f hr e F t xs hq=>?_,b.kp,fun i u ha=>⟨by grind,(b.hp i u ha).2⟩⟩
  ·rw[d,q3];exact b.th i
  ·rw[d]at hi;exact b.ow i hi
  ·rw[d]at hi hj;exact b.dj i j c6 hi hj
  ·rw[d];rw[q3]at hi;exact b.lt i hi
  ·rw[d]at hr hq;exact b.rf r q i f hr e F t xs hq
 have z:∀p∈c.th,p.1<s0.nid:=fun p hp=>by
  have:=List.all_eq_true.1 e3 p hp
  rwa [Nat.blt_eq]at this
 obtain⟨ρ2,m1,m0,m2,m3,m4,m5,m6,m7⟩:=p0r (N:=s0.nid+ids.length) (H:=w.heap) (S1:=S1) c.th l2 _ _ c3 (fun p hp=>by rw[q3,g];have:=z p hp;omega) (fun p hp e F t e7 r i f hr=>by
  have d:G0 (Z8 ((L1 s0 (c.th.map Prod.fst)).more tl (ids.map (place ρ)).length) c.sl l1) r=G0 ((L1 s0 (c.th.map Prod.fst)).more tl (ids.map (place ρ)).length) r:=by unfold G0;rw[q2]
  rw[d]at hr;obtain⟨z1,z2,z3⟩:=J r p.1 i f hr;rw[o7 z1,o7 z2];obtain⟨kk,a1⟩:=List.getElem?_of_mem hp;obtain⟨h9,e4⟩:=y0s (e:=e) (F:=F) (t:=t) c.shs _ _ U (c.sl.length+kk) (thV s p.1) (by unfold Cut.shs;rw[List.getElem?_append_right V'];simp[a1,e7]) (by rw[List.getElem?_append_right V'];simp[a1]);obtain⟨xs,h5⟩:=E0i e4;exact m.rf r p.1 i f z3 e F t xs h5) (by
  have:c.th.map (fun p=>Go.X.hd (V7 ρ s0.nid (ids.map (place ρ)) p.1))=c.th.map (fun p=>Go.X.hd (ρ p.1)):=List.map_congr_left fun p hp=>by rw[o7 (z p hp)]
  rw[this];exact c5)
 have o:=m3.trans (q3.trans g);refine⟨_,_,S1,b1,⟨m1.cx,⟨?_,h.fr.defers,fun t v ht=>?_⟩,?_,m1.th,m1.ow,m1.dj,m1.lt,m1.rf,m1.kp,m1.hp⟩,⟨?_,?_,?_,?_,?_⟩,C⟩
 ·rw[m4,q4];show a.tmps.size=(L1 s0 (c.th.map Prod.fst)).n;rw[g3,h.fr.size,he.n]
 ·rw[o];rw[m2]at ht;exact(q1 t v ht).mono (fun i _=>m0 i) (le_refl _) (Y0.refl _ _)
 ·rw[o,m5,q5];show a0F E _ _ _ _ (L1 s0 (c.th.map Prod.fst)).stk as;rw[g4];have:=m.stk;rw[I.stk]at this;exact a0F.cut (fun i hi=>by rw[m0,o7 hi]) (Nat.le_add_right _ _) h0.stk this
 ·rw[m4,q4];exact g3
 ·rw[m2,q7];exact⟨q6,by rw[y]⟩
 ·rw[m7,q2];exact⟨m6++(tl++g5),by show _=_ ;simp[St.more,g6]⟩
 ·rw[m5,q5];exact g4
 omega
section
variable {A:A5}{s0 s:St E.D}{ρ0 ρ:Nat->Value}{S0 S:E0}{a0 a:Act}{as0 as:List Act}{w0 w:World}
def Ex.n0S:∀{e f:Ex},Ex.eq e f=true->e=f
 |.nrm,.nrm,_=>rfl
 |.ex i,.ex j,h=>by have h:Nat.beq i j=true:=h;simp_all
 |.ret,.ret,_=>rfl
 |.nrm,.ex _,h=>by cases h
 |.nrm,.ret,h=>by cases h
 |.ex _,.nrm,h=>by cases h
 |.ex _,.ret,h=>by cases h
 |.ret,.nrm,h=>by cases h
 |.ret,.ex _,h=>by cases h
theorem t0B (g:G2 E){o:A5}(hH:∀i u,A.hda i u->i<s0.nid)(f:Rp E o s0 ρ0 S0 a0 as0 w0)(h:Rp E A s ρ S a as w)(he:Ext s0 s){e:Ex}{R:Type}{r:R}{k:Ex->St E.D->Option R}:∀(xs:List (Ex×Cut)) (d:h0O E.D xs),d0z E s0 e s xs=some d->resume E s0 k xs d=some r->
  ∃u ρ1 S1,k e u=some r/\Rp E A u ρ1 S1 a as w/\Ext s0 u
 |[],d,hp,_=>by cases d
 |[x],d,hp,hr=>by
  unfold d0z at hp;split at hp<;>try cases hp
  rename_i c;have m:=Ex.n0S c;unfold resume at hr;obtain⟨u,ρ1,S1,h1,p,l,_⟩:=d0T g hH f h he hp hr
  grind
 |x :: y :: xs,d,hp,hr=>by
  unfold d0z at hp;split at hp
  ·rename_i c;have m:=Ex.n0S c;split at hp<;>try cases hp
   rename_i b j;obtain⟨u,ρ1,S1,h1,p,l,_⟩:=d0T g hH f h he j (show d0U E s0 x.2 b (k x.1)=some r from hr)
   grind
  ·split at hp<;>try cases hp
   rename_i b j;exact t0B g hH f h he (y :: xs) b j hr
end
end
end
end
end
