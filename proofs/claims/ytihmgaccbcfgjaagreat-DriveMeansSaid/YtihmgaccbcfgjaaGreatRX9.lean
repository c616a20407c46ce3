/- P. Its conditions: none. -/
import Derived.Test.YtihmgaccbcfgjaaGreatRX8
open Nat (lt_of_lt_of_le le_refl lt_or_ge)
set_option linter.all false
namespace Go.X
open Go.V Go.RowKit
section
variable {E:Env}
section
variable {ρ0 ρ ρ1:Nat->Value}{n0 n N:Nat}{H0 H:I0}{S0 S:D0}
mutual
def VC.cut (hρ:∀i,i<n0->hd (ρ1 i)=hd (ρ i))(hn:n0<=N):∀(v:V E.D) (g c:List Value),VC E ρ0 n0 H0 S0 v g->VC E ρ n H S v c->VC E ρ1 N H S v c
 |.undef,_,_,_,h=>h
 |.kb _,_,_,_,h=>h
 |.ki _ _,_,_,_,h=>h
 |.d _ _,_,_,_,h=>h
 |.nil,_,_,_,h=>h
 |.nilp,_,_,_,h=>h
 |.nilif,_,_,_,h=>h
 |.nilfn,_,_,_,h=>h
 |.sl id,g,c,⟨e,_⟩,⟨_,h1,j⟩=>⟨lt_of_lt_of_le e hn,by simp_all,by simp_all⟩
 |.pb id off p,g,c,⟨e,_⟩,⟨_,h1,b,j,k⟩=>⟨lt_of_lt_of_le e hn,h1,b,(hρ id e).trans j,k⟩
 |.pe id i z p,g,c,⟨e,_⟩,⟨_,h1,b,o,m,cc,j,k⟩=>⟨lt_of_lt_of_le e hn,h1,b,o,m,cc,(hρ id e).trans j,k⟩
 |.pd _ _,_,_,_,h=>h
 |.df _ _,_,_,_,h=>h
 |.mp id,g,c,⟨e,_⟩,⟨_,h1,j⟩=>⟨lt_of_lt_of_le e hn,by simp_all,by simp_all⟩
 |.agg l,g,c,e,h=>T0.cut hρ hn l g c e h
 |.tup l,g,c,⟨q,_,e⟩,⟨u,h1,h⟩=>⟨u,h1,VT.cut hρ hn l q u e h⟩
 |.fn f l,g,c,⟨q,_,e⟩,⟨u,h1,h⟩=>⟨u,h1,VT.cut hρ hn l q u e h⟩
 |.ifc T v,g,c,⟨d0,e,_⟩,⟨d,h,h1⟩=>⟨d,VC.cut hρ hn v d0 d e h,h1⟩
def T0.cut (hρ:∀i,i<n0->hd (ρ1 i)=hd (ρ i))(hn:n0<=N):∀(l:List (V E.D)) (f c:List Value),T0 E ρ0 n0 H0 S0 l f->T0 E ρ n H S l c->T0 E ρ1 N H S l c
 |[],_,_,_,h=>h
 |v :: l,_,_,⟨j,a2,_,h1,k⟩,⟨b,d,e,m,g⟩=>⟨b,d,e,VC.cut hρ hn v j b h1 m,T0.cut hρ hn l a2 d k g⟩
def VT.cut (hρ:∀i,i<n0->hd (ρ1 i)=hd (ρ i))(hn:n0<=N):∀(l:List (V E.D)) (f c:List Value),VT E ρ0 n0 H0 S0 l f->VT E ρ n H S l c->VT E ρ1 N H S l c
 |[],_,_,_,h=>h
 |v :: l,_,_,⟨j,a2,h1,_,k⟩,⟨b,d,m,e,g⟩=>⟨b,d,VC.cut hρ hn v j b h1 m,e,VT.cut hρ hn l a2 d k g⟩
end -- mutual
def VS.cut (hρ:∀i,i<n0->hd (ρ1 i)=hd (ρ i))(hn:n0<=N){v:V E.D}{b u:Value}:VS E ρ0 n0 H0 S0 v b->VS E ρ n H S v u->VS E ρ1 N H S v u:=by
 rintro⟨d,f,_⟩ ⟨c,h,e⟩
 exact⟨c,VC.cut hρ hn v d c f h,e⟩
def K3.cut (hρ:∀i,i<n0->hd (ρ1 i)=hd (ρ i))(hn:n0<=N){x:Th E.D}{v0 v:Value}(k:K3 E ρ0 n0 H0 S0 x v0)(h:K3 E ρ n H S x v):K3 E ρ1 N H S x v:=by
 cases x with
 |gone=>trivial
 |box T l=>
  obtain⟨_,d,_,_,c,_⟩:=k;obtain⟨b,cs,rfl,h1,g,j⟩:=h;exact⟨b,cs,rfl,h1,T0.cut hρ hn l d cs c g,j⟩
 |fzb T l=>
  obtain⟨_,d,_,_,c,_⟩:=k;obtain⟨b,cs,rfl,h1,g,j⟩:=h;exact⟨b,cs,rfl,h1,T0.cut hρ hn l d cs c g,j⟩
 |lst e t xs=>exact h
 |fz t xs=>exact h
 |map m=>exact h
 |X0 e F t xs o=>exact h
 |rof q i f=>exact⟨lt_of_lt_of_le k.1 hn,h.2⟩
def b0C.cut (hρ:∀i,i<n0->hd (ρ1 i)=hd (ρ i))(hn:n0<=N){m0 m:Nat}{fr:Fr E.D}{a0 a:Act}(c:b0C E ρ0 n0 H0 S0 m0 fr a0)(h:b0C E ρ n H S m fr a):b0C E ρ1 N H S m fr a:=
 ⟨h.size,h.defers,fun t v b=>VS.cut hρ hn (c.slot t v b) (h.slot t v b)⟩
def a0t.cut (hρ:∀i,i<n0->hd (ρ1 i)=hd (ρ i))(hn:n0<=N):∀{l:List (Nat×Fr E.D)} {as0 as:List Act},a0t E ρ0 n0 H0 S0 l as0->a0t E ρ n H S l as->a0t E ρ1 N H S l as
 |[],[],[],_,h=>h
 |[],[],_ :: _,_,h=>h.elim
 |[],_ :: _,_,b,_=>b.elim
 |_ :: _,[],_,b,_=>b.elim
 |_ :: _,_ :: _,[],_,h=>h.elim
 |p :: l,a0 :: as0,a :: as,⟨b,c⟩,⟨h,k⟩=>⟨b0C.cut hρ hn b h,a0t.cut hρ hn c k⟩
end
section
variable {A:E4}{s0 s s1:St E.D}{ρ0 ρ:Nat->Value}{S0 S:D0}{a0 a:Act}{as0 as:List Act}{w0 w:World}
structure Tp (E:Env)(A:E4)(s:St E.D)(ρ:Nat->Value)(S:D0)(w:World):Prop where
 cx:Cx A.w0 A.W0 A.S0 w S
 th:∀id,K3 E ρ s.nid w.heap S (F0 s id) (ρ id)
 ow:∀id,Q1 (F0 s id)=true->∀k,Bk (ρ id) k->S k/\¬A.S0 k/\Wr A.W0 A.w0 k
 dj:∀i j,i≠j->Q1 (F0 s i)=true->Q1 (F0 s j)=true->∀k,Bk (ρ i) k->¬Bk (ρ j) k
 lt:∀id,s.nid<=id->F0 s id=.gone
 rf:∀r q i f,F0 s r=.rof q i f->∀e F t xs,F0 s q=.X0 e F t xs none->b06 w.heap (hd (ρ q)) F.length i f (ρ r)
 kp:∀H1 S1,A.anc H1 S1->P0 H1 S1 w.heap S
 hp:∀i u,A.hda i u->i<s.nid/\hd (ρ i)=u
def Rp.tp (h:Rp E A s ρ S a as w):Tp E A s ρ S w:=⟨h.cx,h.th,h.ow,h.dj,h.lt,h.rf,h.kp,h.hp⟩
def h01 {D:Nat->Type}:∀(l:List Nat) (s:St D),(Z0 s l).nid=s.nid/\(Z0 s l).fr=s.fr/\(Z0 s l).n=s.n/\(Z0 s l).stk=s.stk/\∃t,(Z0 s l).th=t++s.th
 |[],s=>⟨rfl,rfl,rfl,rfl,[],rfl⟩
 |i :: l,s=>by
  obtain⟨h1,c,d,b,t,e⟩:=h01 l (s.at i .gone);exact⟨h1,c,d,b,t++[(i,.gone)],by simp_all[Z0,St.at]⟩
theorem g0K:∀(l:List Nat) (s:St E.D) (j:Nat),(j∈l->F0 (Z0 s l) j=.gone)/\(F0 (Z0 s l) j=F0 s j\/F0 (Z0 s l) j=.gone)
 |[],s,j=>⟨(fun h=>by cases h),.inl rfl⟩
 |i :: l,s,j=>by
  obtain⟨h1,b⟩:=g0K l (s.at i .gone) j;have hl:=T8 s i j .gone;refine⟨fun h=>?_,?_⟩
  ·rcases List.mem_cons.1 h with rfl|h
   ·show F0 (Z0 (s.at j .gone) l) j=.gone
    simp_all
   ·exact h1 h
  ·show F0 (Z0 (s.at i .gone) l) j=_\/F0 (Z0 (s.at i .gone) l) j=_
   grind
def Tp.gone (h:Tp E A s ρ S w)(id:Nat):Tp E A (s.at id .gone) ρ S w:=by
 have hl:∀j,F0 (s.at id .gone) j=if id=j then .gone else F0 s j:=fun j=>T8 s id j .gone;refine⟨h.cx,fun j=>?_,fun j b=>?_,fun i j g hi b=>?_,fun j b=>?_,fun r q i f c e F t xs d=>?_,h.kp,h.hp⟩
 ·rw[hl];split
  ·trivial
  ·exact h.th j
 ·rw[hl]at b;split at b
  ·cases b
  ·exact h.ow j b
 ·rw[hl]at hi b;split at hi
  ·cases hi
  ·split at b
   ·cases b
   ·exact h.dj i j g hi b
 ·rw[hl];split
  ·rfl
  ·exact h.lt j b
 ·rw[hl]at c d;split at c
  ·cases c
  ·split at d
   ·cases d
   ·exact h.rf r q i f c e F t xs d
def Tp.t0Q:∀(l:List Nat) {s:St E.D},Tp E A s ρ S w->Tp E A (Z0 s l) ρ S w
 |[],_,h=>h
 |i :: l,s,h=>Tp.t0Q l (s:=s.at i .gone) (h.gone i)
theorem l0T {D:Nat->Type}{s:St D}{q r b f:Nat}{i:Int}(h:F0 (H7 s q) r=.rof b i f):F0 s r=.rof b i f/\b≠q:=by
 unfold H7 at h;rw[d0K]at h;split at h
 ·cases h
 ·refine⟨h,?_⟩
  grind [j0H]
theorem Tp.rename (h:Tp E A s ρ S w){s1:St E.D}{G:List Nat}{x:Th E.D}{id j:Nat}(I:s1=Go.X.Z0 s G)(b2:id<s.nid)(z:x=F0 s j)(p:u08 x=false)(e:hd (ρ id)=hd (ρ j))
  (a1:∀r i f,F0 s1 r=.rof id i f->∀e F t xs,x=.X0 e F t xs none->b06 w.heap (hd (ρ id)) F.length i f (ρ r)):Tp E A ((s1.at id x).at j .gone) (C6 ρ id (ρ j)) S w:=by
 subst I;have hl:∀i,F0 (((Go.X.Z0 s G).at id x).at j .gone) i=if j=i then .gone else if id=i then x else if i∈G then .gone else F0 s i:=fun i=>by
  simp[T8,d0K]
 have hn:(((Go.X.Z0 s G).at id x).at j .gone).nid=s.nid:=(a0q G s).1;have l:∀i,hd (C6 ρ id (ρ j) i)=hd (ρ i):=fun i=>by
  grind [W4,n5]
 have b1:∀q i f,x≠.rof q i f:=fun q i f e=>by rw[e]at p;cases p
 have d:∀(y:Th E.D) (v:Value),K3 E ρ s.nid w.heap S y v->K3 E (C6 ρ id (ρ j)) s.nid w.heap S y v:=fun y v hy=>hy.mono (fun i _=>l i) (le_refl _) (P0.refl _ _) (fun _ _ _=>rfl);refine⟨h.cx,fun i=>?_,fun i ho k hk=>?_,fun i i' m ho b k hk c=>?_,fun i hi=>?_,fun r q i f o C F t xs g=>?_,h.kp,fun i u ha=>⟨by rw[hn];exact(h.hp i u ha).1,(l i).trans (h.hp i u ha).2⟩⟩
 ·rw[hl,hn];split
  ·trivial
  ·split
   ·rename_i h1;subst h1;rw[W4,z];exact d _ _ (h.th j)
   ·rename_i h1;split
    ·trivial
    ·rw[n5 (Ne.symm h1)];exact d _ _ (h.th i)
 ·rw[hl]at ho;split at ho
  ·cases ho
  ·split at ho
   ·rename_i h1;subst h1;rw[W4]at hk;rw[z]at ho;exact h.ow j ho k hk
   ·rename_i h1;rw[n5 (Ne.symm h1)]at hk;split at ho
    ·cases ho
    ·exact h.ow i ho k hk
 ·rw[hl]at ho b;split at ho
  ·cases ho
  ·split at b
   ·cases b
   ·rename_i h1 U;split at ho
    ·rename_i R;subst R;rw[if_neg m]at b;rw[W4]at hk;rw[n5 (Ne.symm m)]at c;rw[z]at ho;split at b
     ·cases b
     ·exact h.dj j i' U ho b k hk c
    ·rename_i R;rw[n5 (Ne.symm R)]at hk;split at ho
     ·cases ho
     ·split at b
      ·rename_i J;subst J;rw[W4]at c;rw[z]at b;exact h.dj i j (fun C=>h1 C.symm) ho b k hk c
      ·rename_i J;rw[n5 (Ne.symm J)]at c;split at b
       ·cases b
       ·exact h.dj i i' m ho b k hk c
 ·rw[hn]at hi;rw[hl];split
  ·rfl
  ·split
   ·omega
   ·split
    ·rfl
    ·exact h.lt i hi
 ·rw[hl]at o g;split at o
  ·cases o
  ·split at o
   ·grind
   ·rename_i h1;split at o
    ·cases o
    ·rename_i hg;rw[l,n5 (Ne.symm h1)];split at g
     ·cases g
     ·split at g
      ·rename_i U;subst U;exact a1 r i f (by simp_all[d0K]) C F t xs g
      ·split at g
       ·cases g
       ·exact h.rf r q i f o C F t xs g
def H04 {D:Nat->Type}(s:St D)(id:Nat)(sh:Sh)(v:V D):(b0e s id sh v).nid=s.nid/\(b0e s id sh v).fr=s.fr/\(b0e s id sh v).n=s.n/\(b0e s id sh v).stk=s.stk/\∃t,(b0e s id sh v).th=t++s.th:=by
 have b:∀j,(mvT s id j sh).nid=s.nid/\(mvT s id j sh).fr=s.fr/\(mvT s id j sh).n=s.n/\(mvT s id j sh).stk=s.stk/\∃t,(mvT s id j sh).th=t++s.th:=fun j=>by
  unfold mvT;split
  ·exact⟨rfl,rfl,rfl,rfl,[(_,_)],rfl⟩
  ·split
   ·exact⟨rfl,rfl,rfl,rfl,[(_,_),(_,_)],rfl⟩
   ·obtain⟨h1,d,e,c,t,f⟩:=a0q (X9 id s.th) s;exact⟨h1,d,e,c,(j,.gone) :: (id,F0 s j) :: t,by show _ :: _ :: (H7 s id).th=_;simp_all[H7]⟩
 unfold b0e;split<;>first|exact b _|exact⟨rfl,rfl,rfl,rfl,[(_,_)],rfl⟩
def G0q (E:Env)(s:St E.D)(ρ:Nat->Value)(w:World)(th:List (Nat×Sh)):Prop:=∀p∈th,∀e F t,p.2=.X0 e F t->∀r i f,F0 s r=.rof p.1 i f->b06 w.heap (hd (ρ p.1)) F.length i f (ρ r)
theorem Tp.move (h:Tp E A s ρ S w){id:Nat}{sh:Sh}(k:id<s.nid){v:V E.D}{H:I0}{N:Nat}{S1:D0}(l:VS E ρ N H S1 v (hd (ρ id)))(p:∀e F t,sh=.X0 e F t->∀r i f,F0 s r=.rof id i f->b06 w.heap (hd (ρ id)) F.length i f (ρ r)):
  ∃ ρ1,Tp E A (b0e s id sh v) ρ1 S w/\(∀i,hd (ρ1 i)=hd (ρ i))/\∀r q i f,F0 (b0e s id sh v) r=.rof q i f->F0 s r=.rof q i f/\ρ1 r=ρ r:=by
 have o:∃ ρ1,Tp E A (s.at id .gone) ρ1 S w/\(∀i,hd (ρ1 i)=hd (ρ i))/\∀r q i f,F0 (s.at id .gone) r=.rof q i f->F0 s r=.rof q i f/\ρ1 r=ρ r:=by
  refine⟨ρ,h.gone id,fun _=>rfl,fun r q i f c=>?_⟩;rw[T8]at c
  grind
 have x:∀j,hd (ρ id)=hd (ρ j)->∃ ρ1,Tp E A (mvT s id j sh) ρ1 S w/\(∀i,hd (ρ1 i)=hd (ρ i))/\∀r q i f,F0 (mvT s id j sh) r=.rof q i f->F0 s r=.rof q i f/\ρ1 r=ρ r:=by
  intro j e;unfold mvT;split
  ·exact o
  ·rename_i d;have g:∀i,hd (C6 ρ id (ρ j) i)=hd (ρ i):=fun i=>by
    grind [W4,n5]
   have m:∀q i f,F0 s j≠.rof q i f:=fun q i f e=>by rw[e]at d;cases d
   split
   ·rename_i hk;refine⟨C6 ρ id (ρ j),h.rename (G:=[]) rfl k rfl d e (fun r i f c u F t xs y=>?_),g,fun r q i f c=>?_⟩
    ·unfold u0e at hk;split at hk
     ·simp_all
     grind
    ·rw[T8,T8]at c;split at c
     ·cases c
     ·split at c
      ·simp_all
      simp_all[n5,Ne.symm]
   ·refine⟨C6 ρ id (ρ j),h.rename (G:=X9 id s.th) rfl k rfl d e (fun r i f c=>?_),g,fun r q i f c=>?_⟩
    ·exact absurd rfl (l0T c).2
    ·rw[T8,T8]at c;split at c
     ·cases c
     ·split at c
      ·simp_all
      ·rename_i h1;exact⟨(l0T c).1,n5 (Ne.symm h1)⟩
 unfold b0e;split
 ·obtain⟨_,e⟩:=l.a0m
  simp_all
 ·obtain⟨_,_,b,h1,z⟩:=l.b0O
  simp_all[D4]
 ·obtain⟨_,e⟩:=l.l0w
  simp_all
 omega
section
variable {A:E4}{s0 s s1:St E.D}{ρ0 ρ:Nat->Value}{S0 S:D0}{a0 a:Act}{as0 as:List Act}{w0 w:World}
theorem w0z {α β:Type}{now b:List (Nat×α)}{c:List (Nat×β)}(h:h0c now b c=true)(he:∃l,now=l++b){k:Nat}(hk:F4 c k=none){v:α}(d:F4 b k=some v):F4 now k=some v:=by
 obtain⟨l,rfl⟩:=he;have e:(l++b).take ((l++b).length-b.length)=l:=Z'
 grind [h0c,m0B,j0s]
def t0X {α:Type}:∀{l:List (Nat×α)} {k:Nat},k∉l.map Prod.fst->F4 l k=none:=fun {l k} h=>j0s l k fun p hp e=>h (List.mem_map.2 ⟨p,hp,e⟩)
def p0X:∀{l:List Nat},c0I l=true->l.Nodup
 |[],_=>List.nodup_nil
 |x :: l,h=>by
  simp only[c0I,Bool.and_eq_true,Bool.not_eq_true',List.any_eq_false]at h;refine List.nodup_cons.2 ⟨fun b=>?_,p0X h.2⟩;have:=h.1 x b
  simp_all
def N7 (ρ:Nat->Value)(n0:Nat)(pl:List Value):Nat->Value:=fun i=>if i<n0 then ρ i else(pl[i-n0]?).getD undef
def Y6 {n0 i:Nat}{pl:List Value}(h:i<n0):N7 ρ n0 pl i=ρ i:=if_pos h
def j0V {n0 i:Nat}{pl:List Value}{v:Value}(h:pl[i]?=some v):N7 ρ n0 pl (n0+i)=v:=by
 simp_all[N7,if_neg]
theorem Tp.pack {A0:E4}(hH:∀i u,A.hda i u->i<s0.nid)(h0:Rp E A0 s0 ρ0 S0 a0 as0 w0)(h:Rp E A s1 ρ S a as w)(he:Ext s0 s1){b:List (Nat×Sh)}(hk:h0c s1.th s0.th b=true){ids:List (Option Nat)}(ho:M5 s1 ids)(ht:p0s s0.nid b (ids.filterMap fun x=>x)=true)
  {tl:List (Nat×Th E.D)} (hn:Y5 E (N7 ρ s0.nid (ids.map (place ρ))) (s0.nid+ids.length) w.heap S (Z0 s0 (b.map Prod.fst)) tl (ids.map (place ρ))):
  Tp E A ((Z0 s0 (b.map Prod.fst)).more tl (ids.map (place ρ)).length) (N7 ρ s0.nid (ids.map (place ρ))) S w/\
   ∀r q i f,F0 ((Z0 s0 (b.map Prod.fst)).more tl (ids.map (place ρ)).length) r=.rof q i f->r<s0.nid/\q<s0.nid/\F0 s1 r=.rof q i f:=by
 obtain⟨g1,g2,g3,g4,g5,g6⟩:=h01 (b.map Prod.fst) s0;have hlen:(ids.map (place ρ)).length=ids.length:=Z'
 have I:((Z0 s0 (b.map Prod.fst)).more tl (ids.map (place ρ)).length).nid=s0.nid+ids.length:=by show _+_=_;omega
 simp only[p0s,Bool.and_eq_true,List.all_eq_true]at ht;obtain⟨b4,a1⟩:=ht;have b4:=p0X b4;have low:∀j,j<s0.nid->F0 ((Z0 s0 (b.map Prod.fst)).more tl (ids.map (place ρ)).length) j=.gone\/
   (F0 ((Z0 s0 (b.map Prod.fst)).more tl (ids.map (place ρ)).length) j=F0 s0 j/\F0 s0 j=F0 s1 j/\F4 b j=none):=by
  intro j hj;rw[g0g _ _ _ _ (fun p hp=>by have:=hn.keys p hp;omega)];obtain⟨k1,z⟩:=g0K (b.map Prod.fst) s0 j;cases hc:F4 b j with
  |some x=>
   refine .inl (k1 ?_)
   by_cases hm:j∈b.map Prod.fst
   ·exact hm
   simp_all[t0X]
  |none=>
   rcases z with z|z
   ·cases hw:F4 s0.th j with
    |none=>
     simp_all[F0]
    |some x=>
     refine .inr ⟨z,?_,rfl⟩;unfold F0;rw[hw,w0z hk he.th hc hw]
   simp_all
 have high:∀i,s0.nid+ids.length<=i->F0 ((Z0 s0 (b.map Prod.fst)).more tl (ids.map (place ρ)).length) i=.gone:=by
  intro i hi;rw[g0g _ _ _ _ (fun p hp=>by have:=hn.keys p hp;omega)];obtain⟨k1,z⟩:=g0K (b.map Prod.fst) s0 i;rcases z with z|z
  ·rw[z];exact h0.lt i O'
  omega
 have new:∀i,s0.nid<=i->i<s0.nid+ids.length->∃x,ids[i-s0.nid]?=some x/\N7 ρ s0.nid (ids.map (place ρ)) i=place ρ x:=by
  intro i h1 h2;have c:i-s0.nid<ids.length:=O'
  refine⟨ids[i-s0.nid],Z',?_⟩;have:=j0V (ρ:=ρ) (n0:=s0.nid) (pl:=ids.map (place ρ)) (i:=i-s0.nid) (v:=place ρ ids[i-s0.nid]) (by grind)
  simp_all
 have J:∀i,Q1 (F0 ((Z0 s0 (b.map Prod.fst)).more tl (ids.map (place ρ)).length) i)=true->∀k,Bk (N7 ρ s0.nid (ids.map (place ρ)) i) k->
   ∃j,Q1 (F0 s1 j)=true/\Bk (ρ j) k/\((i<s0.nid/\j=i/\F4 b j=none)\/(s0.nid<=i/\ids[i-s0.nid]?=some (some j))):=by
  intro i d k g;rcases lt_or_ge i s0.nid with c|hge2
  ·rcases low i c with e|⟨e1,e2,e3⟩
   ·rw[e]at d;cases d
   ·rw[e1,e2]at d;rw[Y6 c]at g
    grind
  ·rcases lt_or_ge i (s0.nid+ids.length)with hlt2|hge3
   ·obtain⟨x,R,hp⟩:=new i hge2 hlt2;rw[hp]at g;cases x with
    |none=>cases g
    |some j=>exact⟨j,ho j (List.mem_of_getElem? R),g,.inr ⟨hge2,R⟩⟩
   ·rw[high i hge3]at d;cases d
 have inj:∀(i i':Nat) (j:Nat),i≠i'->ids[i]?=some (some j)->ids[i']?=some (some j)->False:=by
  intro i i' j b2 h1 h2;have:∀(l:List (Option Nat)) (p q:Nat),(l.filterMap fun x=>x).Nodup->p<q->l[p]?=some (some j)->l[q]?=some (some j)->False:=by
   intro l
   induction l with
   |nil=>simp
   |cons y l ih=>
    grind
  grind
 have C:∀r q i f,F0 ((Z0 s0 (b.map Prod.fst)).more tl (ids.map (place ρ)).length) r=.rof q i f->r<s0.nid/\q<s0.nid/\F0 s1 r=.rof q i f:=by
  intro r q i f hr;rcases lt_or_ge r s0.nid with c|hge2
  ·rcases low r c with e|⟨e1,e2,_⟩
   ·simp_all
   ·exact⟨c,h0.c0a (by rw[<-e1];exact hr),by simp_all⟩
  ·rcases lt_or_ge r (s0.nid+ids.length)with hlt2|hge3
   ·obtain⟨x,R,hp⟩:=new r hge2 hlt2;have:=(hn.th (r-s0.nid) (place ρ x) (by simp_all)).2;rw[g1,show s0.nid+(r-s0.nid)=r from O',hr]at this;cases this
   simp_all
 refine⟨⟨h.cx,fun id=>?_,fun i d k g=>?_,fun i i' b2 d b3 k g c5=>?_,fun i hi=>high i O',fun r q i f hr e F t xs hq=>?_,h.kp,fun i u ha=>⟨by rw[I];have:=hH i u ha;omega,by rw[Y6 (hH i u ha)];exact(h.hp i u ha).2⟩⟩,C⟩
 ·rw[I];rcases lt_or_ge id s0.nid with c|hge2
  ·rcases low id c with e|⟨e1,e2,e3⟩
   ·rw[e];trivial
   ·rw[e1,Y6 c];have h1:=h.th id;rw[<-e2]at h1;exact K3.cut (fun i hi=>by rw[Y6 hi]) (Nat.le_add_right _ _) (h0.th id) h1
  ·rcases lt_or_ge id (s0.nid+ids.length)with hlt2|hge3
   ·obtain⟨x,R,hp⟩:=new id hge2 hlt2;have:=(hn.th (id-s0.nid) (place ρ x) (by rw[List.getElem?_map,R];rfl)).1;rw[g1,show s0.nid+(id-s0.nid)=id from O']at this;rw[hp];exact this
   ·rw[high id hge3];trivial
 ·obtain⟨j,h1,h2,_⟩:=J i d k g;exact h.ow j h1 k h2
 ·obtain⟨j,h1,h2,U⟩:=J i d k g;obtain⟨j',c3,c0,m⟩:=J i' b3 k c5
  by_cases b5:j=j'
  ·subst b5;rcases U with⟨U,rfl,h5⟩|⟨U,h5⟩
   ·rcases m with⟨m,c4,_⟩|⟨m,o⟩
    ·exact b2 c4
    ·have:=a1 j (List.mem_filterMap.2 ⟨some j,List.mem_of_getElem? o,rfl⟩);rw[h5]at this;simp at this;omega
   ·rcases m with⟨m,rfl,o⟩|⟨m,o⟩
    ·have:=a1 j (List.mem_filterMap.2 ⟨some j,List.mem_of_getElem? h5,rfl⟩);rw[o]at this;simp at this;omega
    ·exact inj _ _ j O' h5 o
  ·exact h.dj j j' b5 h1 c3 k h2 c0
 ·obtain⟨h1,b1,U⟩:=C r q i f hr;rcases low q b1 with e'|⟨e1,e2,_⟩
  ·rw[e']at hq;cases hq
  ·rw[Y6 b1,Y6 h1];exact h.rf r q i f U e F t xs (by rw[<-e2,<-e1];exact hq)
section
variable {A:E4}{s0 s s1:St E.D}{ρ0 ρ:Nat->Value}{S0 S:D0}{a0 a:Act}{as0 as:List Act}{w0 w:World}
def VT.app {n:Nat}{H:I0}:∀{l l':List (V E.D)} {us b:List Value},VT E ρ n H S l us->VT E ρ n H S l' b->VT E ρ n H S (l++l') (us++b)
 |[],l',us,b,h,d=>by simp_all[VT]
 |v :: l,l',us,b,h,d=>by
  obtain⟨c,u,h1,rfl,e⟩:=h;exact⟨c,u++b,h1,rfl,VT.app e d⟩
theorem VT.map {n:Nat}{H:I0}{α:Type}{f:α->V E.D}{g:α->Value}:∀{l:List α},(∀p∈l,VS E ρ n H S (f p) (g p))->VT E ρ n H S (l.map f) (l.map g)
 |[],_=>by rfl
 |p :: l,h=>by
  obtain⟨c,h1,b⟩:=h p Z';rw[List.map_cons,List.map_cons];exact⟨c,_,h1,by rw[b],VT.map fun q d=>h q (by grind)⟩
theorem VT.k0c {n:Nat}{H:I0}:∀{us b:List Value} {l:List (V E.D)},VT E ρ n H S l (us++b)->∃d e,l=d++e/\d.length=us.length/\VT E ρ n H S d us/\VT E ρ n H S e b
 |[],b,l,h=>⟨[],l,rfl,rfl,by rfl,h⟩
 |u :: us,b,[],h=>by simp_all[VT]
 |u :: us,b,v :: l,h=>by
  obtain⟨c,q,h1,i,f⟩:=h;obtain⟨rfl,rfl⟩:=i;obtain⟨d,e,rfl,j,k,g⟩:=VT.k0c f;exact⟨v :: d,e,rfl,by grind,by unfold VT;grind,g⟩
def Rp.b08 (h:Rp E A s ρ S a as w)(t:Nat):VS E ρ s.nid w.heap S (b08 s t) (a.tmps.getD t undef):=by
 unfold Go.X.b08;cases b:F4 s.fr t with
 |some v=>exact h.get b
 |none=>exact VS.undef _
def Rp.thV (h:Rp E A s ρ S a as w)(id:Nat):VS E ρ s.nid w.heap S (thV s id) (hd (ρ id)):=by
 have g:=h.th id;have d:F0 s id≠.gone->id<s.nid:=h.i7;unfold Go.X.thV;cases hl:F0 s id with
 |gone=>exact VS.undef _
 |box T l=>
  rw[hl]at g d;obtain⟨b,cs,k,_⟩:=g;have:=VS.pb (E:=E) (ρ:=ρ) (b:=b) (S:=S) (H:=w.heap) (off:=0) (p:=[]) (d Z') trivial (by rw[k];rfl)
  simp_all[D4,Go.X.hd]
 |fzb T l=>
  rw[hl]at g d;obtain⟨b,cs,k,_⟩:=g;have:=VS.pb (E:=E) (ρ:=ρ) (b:=b) (S:=S) (H:=w.heap) (off:=0) (p:=[]) (d Z') trivial (by rw[k];rfl)
  simp_all[D4,Go.X.hd]
 |lst e t xs=>
  rw[hl]at g d;obtain⟨A',c,j⟩:=E5.form g;exact VS.of rfl (by exact⟨d Z',by rw[j];rfl,rfl⟩)
 |fz t xs=>
  rw[hl]at g d;obtain⟨A',c,j,_⟩:=g;exact VS.of rfl (by exact⟨d Z',by rw[j];rfl,rfl⟩)
 |map m=>
  rw[hl]at g d;obtain⟨r,es,cl,j,_⟩:=g;exact VS.of rfl (by exact⟨d Z',by rw[j];rfl,rfl⟩)
 |X0 e F t xs o=>
  rw[hl]at g d;obtain⟨cs,g⟩:=g;obtain⟨A',c,j⟩:=Row.form g.row;exact VS.of rfl (by exact⟨d Z',by rw[j];rfl,rfl⟩)
 |rof q i f=>
  rw[hl]at g d;exact VS.of rfl (by exact⟨d Z',by rw[g.2.2];exact g.2.1,rfl⟩)
theorem q0X {n:Nat}{H:I0}{t:Nat->Value}:∀(sl:List (Nat×Sh)) (l:List (V E.D)) (u:St E.D),VT E ρ n H S l (sl.map fun p=>t p.1)->(∀k v,k∉sl.map Prod.fst->F4 u.fr k=some v->VS E ρ n H S v (t k))->
  (∀k v,F4 (e8 u sl l).fr k=some v->VS E ρ n H S v (t k))/\(e8 u sl l).th=u.th/\(e8 u sl l).nid=u.nid/\(e8 u sl l).n=u.n/\(e8 u sl l).stk=u.stk/\∃q,(e8 u sl l).fr=q++u.fr
 |[],l,u,_,hu=>⟨fun k v h=>hu k v Z' (by cases l<;>exact h),by rfl,by rfl,by rfl,by rfl,[],by rfl⟩
 |(i,sh) :: sl,[],u,hl,_=>by simp_all[VT]
 |(i,sh) :: sl,v :: l,u,hl,hu=>by
  rw[List.map_cons]at hl;obtain⟨c,us,h1,b,g⟩:=hl;simp only[List.cons.injEq]at b;obtain⟨b,rfl⟩:=b;obtain⟨o,j,m,f,d,q,r⟩:=q0X sl l (u.put (some i) v) g (fun k w hk hw=>by
   simp only[St.put,a0X]at hw;split at hw
   ·rename_i e;simp only[Option.some.injEq]at hw;subst e;subst hw;exact⟨c,h1,b⟩
   grind)
  exact⟨o,j,m,f,d,q++[(i,v)],by simp_all[e8,St.put]⟩
theorem m0K {N:Nat}{H:I0}{S1:D0}:∀(th:List (Nat×Sh)) (l:List (V E.D)) (u:St E.D) (ρ:Nat->Value),Tp E A u ρ S w->(∀p∈th,p.1<u.nid)->G0q E u ρ w th->VT E ρ N H S1 l (th.map fun p=>hd (ρ p.1))->
  ∃ ρ1,Tp E A (a0I u th l) ρ1 S w/\(∀i,hd (ρ1 i)=hd (ρ i))/\(a0I u th l).fr=u.fr/\(a0I u th l).nid=u.nid/\(a0I u th l).n=u.n/\(a0I u th l).stk=u.stk/\∃q,(a0I u th l).th=q++u.th
 |[],l,u,ρ,h,_,_,_=>⟨ρ,by cases l<;>exact h,fun _=>rfl,by rfl,by rfl,by rfl,by rfl,[],by rfl⟩
 |(i,sh) :: th,[],u,ρ,_,_,_,hl=>by simp_all[VT]
 |(i,sh) :: th,v :: l,u,ρ,h,hi,hrf,hl=>by
  rw[List.map_cons]at hl;obtain⟨c,us,h1,b,k⟩:=hl;simp only[List.cons.injEq]at b;obtain⟨b,rfl⟩:=b;obtain⟨m1,m2,m3,m4,q,m5⟩:=H04 u i sh v;obtain⟨ρ1,g1,g2,g3⟩:=h.move (hi (i,sh) Z') (sh:=sh) ⟨c,h1,b⟩ (hrf (i,sh) Z');have d:VT E ρ1 N H S1 l (th.map fun p=>hd (ρ1 p.1)):=by
   have e:(th.map fun p=>hd (ρ1 p.1))=th.map fun p=>hd (ρ p.1):=List.map_congr_left fun p _=>g2 p.1;rw[e];exact k.mono (fun i _=>g2 i) (le_refl _) (P0.refl _ _)
  obtain⟨ρ2,k1,y,C,U,z,R,J,I⟩:=m0K th l (b0e u i sh v) ρ1 g1 (fun p hp=>by grind) (fun p hp e F t g r j f x=>by
   obtain⟨m,o⟩:=g3 r p.1 j f x;rw[g2,o];exact hrf p (by grind) e F t g r j f m) d
  grind [a0I]
theorem s0e {s:St E.D}{e:Nat}{F:List Nat}{t:U}:∀(cs:List Sh) (l:List (V E.D)) (g:Pk (J4 E.D cs)),W7 E s cs l=some g->∀(i:Nat) (v:V E.D),cs[i]?=some (.X0 e F t)->l[i]?=some v->∃d,d0M E s e F t v=some d
 |[],_,_,_,i,_,hi,_=>by grind
 |x :: r,l,g,h,i,v,hi,hv=>by
  unfold W7 at h;split at h<;>try cases h
  rename_i k l';split at h<;>try cases h
  rename_i m a j b c f;cases i with
  |zero=>
   obtain rfl:x=.X0 e F t:=Option.some.inj hi;obtain rfl:k=v:=Option.some.inj hv;exact⟨_,c⟩
  |succ i=>exact s0e r l' _ f i v (by simp_all) (by simp_all)
theorem C0r {s s1:St E.D}{id e:Nat}{F:List Nat}{t:U}{b:Pk (List (Den E.D t))}(h:d0M E s1 e F t (thV s id)=some b):∃xs,F0 s1 id=.X0 e F t xs none:=by
 unfold thV at h;split at h<;>simp only[d0M]at h<;>first|simp_all|skip
 all_goals
  split at h<;>try cases h
  split at h<;>try cases h
  rename_i he c;rw[Bool.and_eq_true,Nat.beq_eq,beq_iff_eq]at he
  grind [a0u]
theorem d0N (hE:T1 E){A0:E4}(hH:∀i u,A.hda i u->i<s0.nid)(h0:Rp E A0 s0 ρ0 S0 a0 as0 w0)(h:Rp E A s ρ S a as w)(he:Ext s0 s){c:Cut}{x:g0F E.D c}(hp:b0E E s0 s c=some x){R:Type}{r:R}{k:St E.D->Option R}(hu:c0A E s0 c x k=some r):
  ∃u ρ1 S1,k u=some r/\Rp E A u ρ1 S1 a as w/\Ext s0 u/\∀k,S1 k->S k:=by
 unfold b0E at hp;simp only at hp;split at hp<;>try cases hp
 rename_i s1 hf;split at hp<;>try cases hp
 rename_i ids x' c3;split at hp<;>try cases hp
 rename_i b2;simp only[Bool.and_eq_true]at b2;obtain⟨⟨⟨⟨⟨e2,e7⟩,c8⟩,e5⟩,i1⟩,h9⟩:=b2;obtain⟨S1,J,o,e6,h7,h3⟩:=a0g hE _ s _ s1 hf S h;have U:=he.trans e6;have e1:VT E ρ s1.nid w.heap S1 (c.sl.map (fun p=>b08 s p.1)++c.th.map (fun p=>thV s p.1)) (c.sl.map (fun p=>a.tmps.getD p.1 undef)++c.th.map (fun p=>hd (ρ p.1))):=by
  rw[h3];exact(VT.map fun p _=>(h.b08 p.1).d0h J).app (VT.map fun p _=>(h.thV p.1).d0h J)
 obtain⟨c4,a1⟩:=f0A hE o.th c.shs _ ⟨ids,x⟩ _ c3 e1;obtain⟨g1,g2,g3,g4,g5,g6⟩:=h01 (c.th.map Prod.fst) s0;have hlen:(ids.map (place ρ)).length=ids.length:=Z'
 obtain⟨h8,tl,b4,b1,c5⟩:=g0k (ρ:=N7 ρ s0.nid (ids.map (place ρ))) (N:=s0.nid+ids.length) c.shs x _ _ (Z0 s0 (c.th.map Prod.fst)) _ c4 hu (fun i v hi=>by rw[g1];exact j0V hi) (by simp_all);obtain⟨b,I⟩:=Tp.pack hH h0 o U e7 a1 c8 c5;obtain⟨C,l2,rfl,h6,h5,e4⟩:=b1.k0c;have hd:(C++l2).drop c.sl.length=l2:=by
  simp_all
 have m:((Z0 s0 (c.th.map Prod.fst)).more tl (ids.map (place ρ)).length).nid=s0.nid+ids.length:=by show _+_=_;omega
 have b3:e8 ((Z0 s0 (c.th.map Prod.fst)).more tl (ids.map (place ρ)).length) c.sl (C++l2)=e8 ((Z0 s0 (c.th.map Prod.fst)).more tl (ids.map (place ρ)).length) c.sl C:=by
  have:∀(sl:List (Nat×Sh)) (l l':List (V E.D)) (u:St E.D),l.length=sl.length->e8 u sl (l++l')=e8 u sl l:=by
   intro sl
   induction sl with
   |nil=>
    intro l l' u hl;rfl
   |cons p sl ih=>
    intro l l' u hl;cases l with
    |nil=>grind
    |cons v l=>
     simp_all[e8]
  simp_all
 rw[hd,b3]at b4;have y:((Z0 s0 (c.th.map Prod.fst)).more tl (ids.map (place ρ)).length).fr=s0.fr:=g2;obtain⟨q1,q2,q3,q4,q5,q6,q7⟩:=q0X (t:=fun k=>a.tmps.getD k undef) c.sl C ((Z0 s0 (c.th.map Prod.fst)).more tl (ids.map (place ρ)).length) h5 (fun k v hk hv=>by
  rw[y]at hv;have h2:=w0z e2 U.fr (t0X hk) hv;exact VS.cut (fun i hi=>by rw[Y6 hi]) (Nat.le_add_right _ _) (h0.get hv) (o.get h2))
 have c0:Tp E A (e8 ((Z0 s0 (c.th.map Prod.fst)).more tl (ids.map (place ρ)).length) c.sl C) (N7 ρ s0.nid (ids.map (place ρ))) S1 w:=by
  have d:∀i,F0 (e8 ((Z0 s0 (c.th.map Prod.fst)).more tl (ids.map (place ρ)).length) c.sl C) i=F0 ((Z0 s0 (c.th.map Prod.fst)).more tl (ids.map (place ρ)).length) i:=fun i=>by simp_all[F0]
  refine⟨b.cx,fun i=>?_,fun i hi=>?_,fun i j e3 hi hj=>?_,fun i hi=>?_,fun r q i f hr e F t xs hq=>?_,b.kp,fun i u ha=>⟨by grind,(b.hp i u ha).2⟩⟩
  ·rw[d,q3];exact b.th i
  ·rw[d]at hi;exact b.ow i hi
  ·rw[d]at hi hj;exact b.dj i j e3 hi hj
  ·rw[d];rw[q3]at hi;exact b.lt i hi
  ·rw[d]at hr hq;exact b.rf r q i f hr e F t xs hq
 have z:∀p∈c.th,p.1<s0.nid:=fun p hp=>by
  have:=List.all_eq_true.1 e5 p hp
  rwa [Nat.blt_eq]at this
 obtain⟨ρ2,m1,m0,m2,m3,m4,m5,m6,m7⟩:=m0K (N:=s0.nid+ids.length) (H:=w.heap) (S1:=S1) c.th l2 _ _ c0 (fun p hp=>by rw[q3,m];have:=z p hp;omega) (fun p hp e F t h4 r i f hr=>by
  have d:F0 (e8 ((Z0 s0 (c.th.map Prod.fst)).more tl (ids.map (place ρ)).length) c.sl C) r=F0 ((Z0 s0 (c.th.map Prod.fst)).more tl (ids.map (place ρ)).length) r:=by unfold F0;rw[q2]
  rw[d]at hr;obtain⟨z1,z2,z3⟩:=I r p.1 i f hr;rw[Y6 z1,Y6 z2];obtain⟨kk,b5⟩:=List.getElem?_of_mem hp;obtain⟨j0,e9⟩:=s0e (e:=e) (F:=F) (t:=t) c.shs _ _ c3 (c.sl.length+kk) (thV s p.1) (by unfold Cut.shs;rw[List.getElem?_append_right Z'];simp[b5,h4]) (by rw[List.getElem?_append_right Z'];simp[b5]);obtain⟨xs,c6⟩:=C0r e9;exact o.rf r p.1 i f z3 e F t xs c6) (by
  have:c.th.map (fun p=>Go.X.hd (N7 ρ s0.nid (ids.map (place ρ)) p.1))=c.th.map (fun p=>Go.X.hd (ρ p.1)):=List.map_congr_left fun p hp=>by rw[Y6 (z p hp)]
  rw[this];exact e4)
 have g:=m3.trans (q3.trans m);refine⟨_,_,S1,b4,⟨m1.cx,⟨?_,h.fr.defers,fun t v ht=>?_⟩,?_,m1.th,m1.ow,m1.dj,m1.lt,m1.rf,m1.kp,m1.hp⟩,⟨?_,?_,?_,?_,?_⟩,J⟩
 ·rw[m4,q4];show a.tmps.size=(Z0 s0 (c.th.map Prod.fst)).n;rw[g3,h.fr.size,he.n]
 ·rw[g];rw[m2]at ht;exact(q1 t v ht).mono (fun i _=>m0 i) (le_refl _) (P0.refl _ _)
 ·rw[g,m5,q5];show a0t E _ _ _ _ (Z0 s0 (c.th.map Prod.fst)).stk as;rw[g4];have:=o.stk;rw[U.stk]at this;exact a0t.cut (fun i hi=>by rw[m0,Y6 hi]) (Nat.le_add_right _ _) h0.stk this
 ·rw[m4,q4];exact g3
 ·rw[m2,q7];exact⟨q6,by rw[y]⟩
 ·rw[m7,q2];exact⟨m6++(tl++g5),by show _=_ ;simp[St.more,g6]⟩
 ·rw[m5,q5];exact g4
 omega
section
variable {A:E4}{s0 s:St E.D}{ρ0 ρ:Nat->Value}{S0 S:D0}{a0 a:Act}{as0 as:List Act}{w0 w:World}
def Ex.k0F:∀{e f:Ex},Ex.eq e f=true->e=f
 |.nrm,.nrm,_=>rfl
 |.ex i,.ex j,h=>by have h:Nat.beq i j=true:=h;simp_all
 |.ret,.ret,_=>rfl
 |.nrm,.ex _,h=>by cases h
 |.nrm,.ret,h=>by cases h
 |.ex _,.nrm,h=>by cases h
 |.ex _,.ret,h=>by cases h
 |.ret,.nrm,h=>by cases h
 |.ret,.ex _,h=>by cases h
theorem p0T (j:T1 E){p:E4}(hH:∀i u,A.hda i u->i<s0.nid)(g:Rp E p s0 ρ0 S0 a0 as0 w0)(h:Rp E A s ρ S a as w)(he:Ext s0 s){e:Ex}{R:Type}{r:R}{k:Ex->St E.D->Option R}:∀(xs:List (Ex×Cut)) (d:h0p E.D xs),c0Z E s0 e s xs=some d->resume E s0 k xs d=some r->
  ∃u ρ1 S1,k e u=some r/\Rp E A u ρ1 S1 a as w/\Ext s0 u
 |[],d,hp,_=>by cases d
 |[x],d,hp,hr=>by
  unfold c0Z at hp;split at hp<;>try cases hp
  rename_i c;have l:=Ex.k0F c;unfold resume at hr;obtain⟨u,ρ1,S1,h1,m,o,_⟩:=d0N j hH g h he hp hr
  grind
 |x :: y :: xs,d,hp,hr=>by
  unfold c0Z at hp;split at hp
  ·rename_i c;have l:=Ex.k0F c;split at hp<;>try cases hp
   rename_i b f;obtain⟨u,ρ1,S1,h1,m,o,_⟩:=d0N j hH g h he f (show c0A E s0 x.2 b (k x.1)=some r from hr)
   grind
  ·split at hp<;>try cases hp
   rename_i b f;exact p0T j hH g h he (y :: xs) b f hr
end
end
end
end
end
