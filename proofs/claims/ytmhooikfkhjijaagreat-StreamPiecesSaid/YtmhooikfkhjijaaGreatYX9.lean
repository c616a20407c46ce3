/- P. Its conditions: none. -/
import Derived.Test.YtmhooikfkhjijaaGreatYX8
open Nat (lt_of_lt_of_le le_refl beq_eq lt_or_ge le_add_right)
open List (mem_cons all_eq_true nodup_cons mem_of_getElem? mem_filterMap map_cons)
set_option linter.all false
namespace Go.X
open Go.V Go.RowKit
section
variable {E:Env}
section
variable {ρ0 ρ ρ1:Nat->Value}{n0 n N:Nat}{H0 H:K0}{S0 S:D0}
mutual
def VC.cut (hρ:∀i,i<n0->hd (ρ1 i)=hd (ρ i))(hn:n0<=N):∀(v:V E.D) (g c:List Value),VC E ρ0 n0 H0 S0 v g->VC E ρ n H S v c->VC E ρ1 N H S v c
 |.undef,_,_,_,h=>h
 |.kb _,_,_,_,h=>h
 |.ki _ _,_,_,_,h=>h
 |.d _ _,_,_,_,h=>h
 |.nil,_,_,_,h=>h
 |.nilp,_,_,_,h=>h
 |.nilif,_,_,_,h=>h
 |.nilfn,_,_,_,h=>h
 |.sl id,g,c,⟨e,_⟩,⟨_,h1,j⟩=>⟨lt_of_lt_of_le e hn,by rw[hρ id e];exact h1,by rw[hρ id e];exact j⟩
 |.pb id off p,g,c,⟨e,_⟩,⟨_,h1,b,j,k⟩=>⟨lt_of_lt_of_le e hn,h1,b,(hρ id e).trans j,k⟩
 |.pe id i z p,g,c,⟨e,_⟩,⟨_,h1,b,o,m,cc,j,k⟩=>⟨lt_of_lt_of_le e hn,h1,b,o,m,cc,(hρ id e).trans j,k⟩
 |.pd _ _,_,_,_,h=>h
 |.df _ _,_,_,_,h=>h
 |.mp id,g,c,⟨e,_⟩,⟨_,h1,j⟩=>⟨lt_of_lt_of_le e hn,by rw[hρ id e];exact h1,by rw[hρ id e];exact j⟩
 |.agg l,g,c,e,h=>N0.cut hρ hn l g c e h
 |.tup l,g,c,⟨q,_,e⟩,⟨u,h1,h⟩=>⟨u,h1,VT.cut hρ hn l q u e h⟩
 |.fn f l,g,c,⟨q,_,e⟩,⟨u,h1,h⟩=>⟨u,h1,VT.cut hρ hn l q u e h⟩
 |.ifc T v,g,c,⟨d0,e,_⟩,⟨d,h,h1⟩=>⟨d,VC.cut hρ hn v d0 d e h,h1⟩
def N0.cut (hρ:∀i,i<n0->hd (ρ1 i)=hd (ρ i))(hn:n0<=N):∀(l:List (V E.D)) (j c:List Value),N0 E ρ0 n0 H0 S0 l j->N0 E ρ n H S l c->N0 E ρ1 N H S l c
 |[],_,_,_,h=>h
 |v :: l,_,_,⟨k,a2,_,h1,m⟩,⟨d,b,e,g,f⟩=>⟨d,b,e,VC.cut hρ hn v k d h1 g,N0.cut hρ hn l a2 b m f⟩
def VT.cut (hρ:∀i,i<n0->hd (ρ1 i)=hd (ρ i))(hn:n0<=N):∀(l:List (V E.D)) (j c:List Value),VT E ρ0 n0 H0 S0 l j->VT E ρ n H S l c->VT E ρ1 N H S l c
 |[],_,_,_,h=>h
 |v :: l,_,_,⟨k,a2,h1,_,m⟩,⟨d,b,g,e,f⟩=>⟨d,b,VC.cut hρ hn v k d h1 g,e,VT.cut hρ hn l a2 b m f⟩
end -- mutual
def VS.cut (hρ:∀i,i<n0->hd (ρ1 i)=hd (ρ i))(hn:n0<=N){v:V E.D}{d u:Value}:VS E ρ0 n0 H0 S0 v d->VS E ρ n H S v u->VS E ρ1 N H S v u:=by
 rintro⟨b,f,_⟩ ⟨c,h,e⟩
 exact⟨c,VC.cut hρ hn v b c f h,e⟩
def X3.cut (hρ:∀i,i<n0->hd (ρ1 i)=hd (ρ i))(hn:n0<=N){x:Th E.D}{v0 v:Value}(k:X3 E ρ0 n0 H0 S0 x v0)(h:X3 E ρ n H S x v):X3 E ρ1 N H S x v:=by
 cases x with
 |gone=>trivial
 |box T l=>
  obtain⟨_,c,_,_,d,_⟩:=k;obtain⟨b,cs,rfl,h1,j,g⟩:=h;exact⟨b,cs,rfl,h1,N0.cut hρ hn l c cs d j,g⟩
 |fzb T l=>
  obtain⟨_,c,_,_,d,_⟩:=k;obtain⟨b,cs,rfl,h1,j,g⟩:=h;exact⟨b,cs,rfl,h1,N0.cut hρ hn l c cs d j,g⟩
 |lst e t xs=>exact h
 |fz t xs=>exact h
 |map m=>exact h
 |B1 e F t xs o=>exact h
 |rof q i f=>exact⟨lt_of_lt_of_le k.1 hn,h.2⟩
def b0x.cut (hρ:∀i,i<n0->hd (ρ1 i)=hd (ρ i))(hn:n0<=N){m0 m:Nat}{fr:Fr E.D}{a0 a:Act}(c:b0x E ρ0 n0 H0 S0 m0 fr a0)(h:b0x E ρ n H S m fr a):b0x E ρ1 N H S m fr a:=
 ⟨h.size,h.defers,fun t v b=>VS.cut hρ hn (c.slot t v b) (h.slot t v b)⟩
def O9.cut (hρ:∀i,i<n0->hd (ρ1 i)=hd (ρ i))(hn:n0<=N):∀{l:List (Nat×Fr E.D)} {as0 as:List Act},O9 E ρ0 n0 H0 S0 l as0->O9 E ρ n H S l as->O9 E ρ1 N H S l as
 |[],[],[],_,h=>h
 |[],[],_ :: _,_,h=>h.elim
 |[],_ :: _,_,b,_=>b.elim
 |_ :: _,[],_,b,_=>b.elim
 |_ :: _,_ :: _,[],_,h=>h.elim
 |p :: l,a0 :: as0,a :: as,⟨b,c⟩,⟨h,k⟩=>⟨b0x.cut hρ hn b h,O9.cut hρ hn c k⟩
end
section
variable {A:O4}{s0 s s1:St E.D}{ρ0 ρ:Nat->Value}{S0 S:D0}{a0 a:Act}{as0 as:List Act}{w0 w:World}
structure Tp (E:Env)(A:O4)(s:St E.D)(ρ:Nat->Value)(S:D0)(w:World):Prop where
 cx:Cx A.w0 A.W0 A.S0 w S
 th:∀id,X3 E ρ s.nid w.heap S (E0 s id) (ρ id)
 ow:∀id,P1 (E0 s id)=true->∀k,Bk (ρ id) k->S k/\¬A.S0 k/\Wr A.W0 A.w0 k
 dj:∀i j,i≠j->P1 (E0 s i)=true->P1 (E0 s j)=true->∀k,Bk (ρ i) k->¬Bk (ρ j) k
 lt:∀id,s.nid<=id->E0 s id=.gone
 rf:∀r q i f,E0 s r=.rof q i f->∀e F t xs,E0 s q=.B1 e F t xs none->b0W w.heap (hd (ρ q)) F.length i f (ρ r)
 kp:∀H1 S1,A.anc H1 S1->U0 H1 S1 w.heap S
 hp:∀i u,A.hda i u->i<s.nid/\hd (ρ i)=u
def Rp.tp (h:Rp E A s ρ S a as w):Tp E A s ρ S w:=⟨h.cx,h.th,h.ow,h.dj,h.lt,h.rf,h.kp,h.hp⟩
def h0i {D:Nat->Type}:∀(l:List Nat) (s:St D),(X0 s l).nid=s.nid/\(X0 s l).fr=s.fr/\(X0 s l).n=s.n/\(X0 s l).stk=s.stk/\∃t,(X0 s l).th=t++s.th
 |[],s=>⟨rfl,rfl,rfl,rfl,[],rfl⟩
 |i :: l,s=>by
  obtain⟨h1,d,c,e,t,b⟩:=h0i l (s.at i .gone);exact⟨h1,d,c,e,t++[(i,.gone)],by show(X0 (s.at i .gone) l).th=_;rw[b];simp[St.at]⟩
def h0A:∀(l:List Nat) (s:St E.D) (j:Nat),(j∈l->E0 (X0 s l) j=.gone)/\(E0 (X0 s l) j=E0 s j\/E0 (X0 s l) j=.gone)
 |[],s,j=>⟨(fun h=>by cases h),.inl rfl⟩
 |i :: l,s,j=>by
  obtain⟨h1,b⟩:=h0A l (s.at i .gone) j;have hl:=G8 s i j .gone;refine⟨fun h=>?_,?_⟩
  ·rcases mem_cons.1 h with rfl|h
   ·show E0 (X0 (s.at j .gone) l) j=.gone;rcases b with b|b
    ·rw[b,hl,if_pos rfl]
    ·exact b
   ·exact h1 h
  ·show E0 (X0 (s.at i .gone) l) j=_\/E0 (X0 (s.at i .gone) l) j=_;rcases b with b|b
   ·rw[b,hl];split
    ·exact .inr rfl
    ·exact .inl rfl
   ·exact .inr b
def Tp.gone (h:Tp E A s ρ S w)(id:Nat):Tp E A (s.at id .gone) ρ S w:=by
 have hl:∀j,E0 (s.at id .gone) j=if id=j then .gone else E0 s j:=fun j=>G8 s id j .gone;refine⟨h.cx,fun j=>?_,fun j b=>?_,fun i j g hi b=>?_,fun j b=>?_,fun r q i f c e F t xs d=>?_,h.kp,h.hp⟩
 ·rw[hl];split
  ·trivial
  ·exact h.th j
 ·rw[hl]at b;split at b
  ·cases b
  ·exact h.ow j b
 ·rw[hl]at hi b;split at hi
  ·cases hi
  ·split at b
   ·cases b
   ·exact h.dj i j g hi b
 ·rw[hl];split
  ·rfl
  ·exact h.lt j b
 ·rw[hl]at c d;split at c
  ·cases c
  ·split at d
   ·cases d
   ·exact h.rf r q i f c e F t xs d
def Tp.p0N:∀(l:List Nat) {s:St E.D},Tp E A s ρ S w->Tp E A (X0 s l) ρ S w
 |[],_,h=>h
 |i :: l,s,h=>Tp.p0N l (s:=s.at i .gone) (h.gone i)
def m0S {D:Nat->Type}{s:St D}{q r b f:Nat}{i:Int}(h:E0 (N7 s q) r=.rof b i f):E0 s r=.rof b i f/\b≠q:=by
 unfold N7 at h;rw[d0p]at h;split at h
 ·cases h
 ·rename_i hn;refine⟨h,?_⟩
  rintro rfl
  exact hn (i0K h)
def Tp.rename (h:Tp E A s ρ S w){s1:St E.D}{G:List Nat}{x:Th E.D}{id j:Nat}(a1:s1=Go.X.X0 s G)(b1:id<s.nid)(I:x=E0 s j)(C:u0r x=false)(e:hd (ρ id)=hd (ρ j))
  (R:∀r i f,E0 s1 r=.rof id i f->∀e F t xs,x=.B1 e F t xs none->b0W w.heap (hd (ρ id)) F.length i f (ρ r)):Tp E A ((s1.at id x).at j .gone) (M6 ρ id (ρ j)) S w:=by
 subst a1;have hl:∀i,E0 (((Go.X.X0 s G).at id x).at j .gone) i=if j=i then .gone else if id=i then x else if i∈G then .gone else E0 s i:=fun i=>by
  rw[G8,G8,d0p]
 have hn:(((Go.X.X0 s G).at id x).at j .gone).nid=s.nid:=(a0d G s).1;have o:∀i,hd (M6 ρ id (ρ j) i)=hd (ρ i):=fun i=>by
  by_cases h1:i=id
  ·subst h1;rw[I5];exact e.symm
  ·rw[G5 h1]
 have z:∀q i f,x≠.rof q i f:=fun q i f e=>by rw[e]at C;cases C
 have g:∀(y:Th E.D) (v:Value),X3 E ρ s.nid w.heap S y v->X3 E (M6 ρ id (ρ j)) s.nid w.heap S y v:=fun y v hy=>hy.mono (fun i _=>o i) (le_refl _) (U0.refl _ _) (fun _ _ _=>rfl);refine⟨h.cx,fun i=>?_,fun i c k hk=>?_,fun i i' p c b k hk d=>?_,fun i hi=>?_,fun r q i f l J F t xs m=>?_,h.kp,fun i u ha=>⟨by rw[hn];exact(h.hp i u ha).1,(o i).trans (h.hp i u ha).2⟩⟩
 ·rw[hl,hn];split
  ·trivial
  ·split
   ·rename_i h1;subst h1;rw[I5,I];exact g _ _ (h.th j)
   ·rename_i h1;split
    ·trivial
    ·rw[G5 (Ne.symm h1)];exact g _ _ (h.th i)
 ·rw[hl]at c;split at c
  ·cases c
  ·split at c
   ·rename_i h1;subst h1;rw[I5]at hk;rw[I]at c;exact h.ow j c k hk
   ·rename_i h1;rw[G5 (Ne.symm h1)]at hk;split at c
    ·cases c
    ·exact h.ow i c k hk
 ·rw[hl]at c b;split at c
  ·cases c
  ·split at b
   ·cases b
   ·rename_i h1 U;split at c
    ·rename_i h3;subst h3;rw[if_neg p]at b;rw[I5]at hk;rw[G5 (Ne.symm p)]at d;rw[I]at c;split at b
     ·cases b
     ·exact h.dj j i' U c b k hk d
    ·rename_i h3;rw[G5 (Ne.symm h3)]at hk;split at c
     ·cases c
     ·split at b
      ·rename_i h4;subst h4;rw[I5]at d;rw[I]at b;exact h.dj i j (fun J=>h1 J.symm) c b k hk d
      ·rename_i h4;rw[G5 (Ne.symm h4)]at d;split at b
       ·cases b
       ·exact h.dj i i' p c b k hk d
 ·rw[hn]at hi;rw[hl];split
  ·rfl
  ·split
   ·rename_i h1;subst h1;omega
   ·split
    ·rfl
    ·exact h.lt i hi
 ·rw[hl]at l m;split at l
  ·cases l
  ·split at l
   ·exact absurd l (z q i f)
   ·rename_i h1;split at l
    ·cases l
    ·rename_i hg;rw[o,G5 (Ne.symm h1)];split at m
     ·cases m
     ·split at m
      ·rename_i U;subst U;exact R r i f (by rw[d0p,if_neg hg];exact l) J F t xs m
      ·split at m
       ·cases m
       ·exact h.rf r q i f l J F t xs m
def D0T {D:Nat->Type}(s:St D)(id:Nat)(sh:Sh)(v:V D):(a0F s id sh v).nid=s.nid/\(a0F s id sh v).fr=s.fr/\(a0F s id sh v).n=s.n/\(a0F s id sh v).stk=s.stk/\∃t,(a0F s id sh v).th=t++s.th:=by
 have d:∀j,(mvT s id j sh).nid=s.nid/\(mvT s id j sh).fr=s.fr/\(mvT s id j sh).n=s.n/\(mvT s id j sh).stk=s.stk/\∃t,(mvT s id j sh).th=t++s.th:=fun j=>by
  unfold mvT;split
  ·exact⟨rfl,rfl,rfl,rfl,[(_,_)],rfl⟩
  ·split
   ·exact⟨rfl,rfl,rfl,rfl,[(_,_),(_,_)],rfl⟩
   ·obtain⟨h1,e,c,f,t,b⟩:=a0d (C9 id s.th) s;exact⟨h1,e,c,f,(j,.gone) :: (id,E0 s j) :: t,by show _ :: _ :: (N7 s id).th=_;unfold N7;rw[b];rfl⟩
 unfold a0F;split<;>first|exact d _|exact⟨rfl,rfl,rfl,rfl,[(_,_)],rfl⟩
def A0b (E:Env)(s:St E.D)(ρ:Nat->Value)(w:World)(th:List (Nat×Sh)):Prop:=∀p∈th,∀e F t,p.2=.B1 e F t->∀r i f,E0 s r=.rof p.1 i f->b0W w.heap (hd (ρ p.1)) F.length i f (ρ r)
def Tp.move (h:Tp E A s ρ S w){id:Nat}{sh:Sh}(k:id<s.nid){v:V E.D}{H:K0}{N:Nat}{S1:D0}(m:VS E ρ N H S1 v (hd (ρ id)))(o:∀e F t,sh=.B1 e F t->∀r i f,E0 s r=.rof id i f->b0W w.heap (hd (ρ id)) F.length i f (ρ r)):
  ∃ ρ1,Tp E A (a0F s id sh v) ρ1 S w/\(∀i,hd (ρ1 i)=hd (ρ i))/\∀r q i f,E0 (a0F s id sh v) r=.rof q i f->E0 s r=.rof q i f/\ρ1 r=ρ r:=by
 have u:∃ ρ1,Tp E A (s.at id .gone) ρ1 S w/\(∀i,hd (ρ1 i)=hd (ρ i))/\∀r q i f,E0 (s.at id .gone) r=.rof q i f->E0 s r=.rof q i f/\ρ1 r=ρ r:=by
  refine⟨ρ,h.gone id,fun _=>rfl,fun r q i f c=>?_⟩;rw[G8]at c;split at c
  ·cases c
  ·exact⟨c,rfl⟩
 have p:∀j,hd (ρ id)=hd (ρ j)->∃ ρ1,Tp E A (mvT s id j sh) ρ1 S w/\(∀i,hd (ρ1 i)=hd (ρ i))/\∀r q i f,E0 (mvT s id j sh) r=.rof q i f->E0 s r=.rof q i f/\ρ1 r=ρ r:=by
  intro j e;unfold mvT;split
  ·exact u
  ·rename_i d;have l:∀i,hd (M6 ρ id (ρ j) i)=hd (ρ i):=fun i=>by
    by_cases h1:i=id
    ·subst h1;rw[I5];exact e.symm
    ·rw[G5 h1]
   have g:∀q i f,E0 s j≠.rof q i f:=fun q i f e=>by rw[e]at d;cases d
   split
   ·rename_i hk;refine⟨M6 ρ id (ρ j),h.rename (G:=[]) rfl k rfl d e (fun r i f c I F t xs x=>?_),l,fun r q i f c=>?_⟩
    ·unfold t0E at hk;split at hk
     ·rename_i z C t3;rw[x]at hk;simp only at hk;rw[beq_eq]at hk;rw[<-hk];exact o _ _ _ rfl r i f c
     ·cases hk
    ·rw[G8,G8]at c;split at c
     ·cases c
     ·split at c
      ·exact absurd c (g q i f)
      ·rename_i h1;exact⟨c,G5 (Ne.symm h1)⟩
   ·refine⟨M6 ρ id (ρ j),h.rename (G:=C9 id s.th) rfl k rfl d e (fun r i f c=>?_),l,fun r q i f c=>?_⟩
    ·exact absurd rfl (m0S c).2
    ·rw[G8,G8]at c;split at c
     ·cases c
     ·split at c
      ·exact absurd c (g q i f)
      ·rename_i h1;exact⟨(m0S c).1,G5 (Ne.symm h1)⟩
 unfold a0F;split
 ·obtain⟨_,e⟩:=m.X9;exact p _ e
 ·obtain⟨_,_,b,h1,y⟩:=m.b0l;exact p _ (by rw[h1,y];simp[M4])
 ·obtain⟨_,e⟩:=m.p0x;exact p _ e
 ·exact u
section
variable {A:O4}{s0 s s1:St E.D}{ρ0 ρ:Nat->Value}{S0 S:D0}{a0 a:Act}{as0 as:List Act}{w0 w:World}
def t0Y {α β:Type}{now b:List (Nat×α)}{c:List (Nat×β)}(h:g0s now b c=true)(he:∃l,now=l++b){k:Nat}(hk:Q4 c k=none){v:α}(d:Q4 b k=some v):Q4 now k=some v:=by
 obtain⟨l,rfl⟩:=he;have f:(l++b).take ((l++b).length-b.length)=l:=by simp
 unfold g0s at h;rw[f,all_eq_true]at h;rw[m0V,j04 l k,d];intro p hp e;have:=h p hp;rw[e]at this;simp[d,hk]at this
def p0q {α:Type}:∀{l:List (Nat×α)} {k:Nat},k∉l.map Prod.fst->Q4 l k=none:=fun {l k} h=>j04 l k fun p hp e=>h (List.mem_map.2 ⟨p,hp,e⟩)
def p0h:∀{l:List Nat},c0j l=true->l.Nodup
 |[],_=>List.nodup_nil
 |x :: l,h=>by
  simp only[c0j,Bool.and_eq_true,Bool.not_eq_true',List.any_eq_false]at h;refine nodup_cons.2 ⟨fun b=>?_,p0h h.2⟩;have:=h.1 x b;simp at this
def D8 (ρ:Nat->Value)(n0:Nat)(pl:List Value):Nat->Value:=fun i=>if i<n0 then ρ i else(pl[i-n0]?).getD undef
def e7 {n0 i:Nat}{pl:List Value}(h:i<n0):D8 ρ n0 pl i=ρ i:=if_pos h
def j0B {n0 i:Nat}{pl:List Value}{v:Value}(h:pl[i]?=some v):D8 ρ n0 pl (n0+i)=v:=by
 unfold D8;rw[if_neg (by omega),Nat.add_sub_cancel_left,h];rfl
def Tp.pack {A0:O4}(hH:∀i u,A.hda i u->i<s0.nid)(h0:Rp E A0 s0 ρ0 S0 a0 as0 w0)(h:Rp E A s1 ρ S a as w)(he:Ext s0 s1){b:List (Nat×Sh)}(hk:g0s s1.th s0.th b=true){ids:List (Option Nat)}(ho:W5 s1 ids)(ht:m0i s0.nid b (ids.filterMap fun x=>x)=true)
  {tl:List (Nat×Th E.D)} (hn:L6 E (D8 ρ s0.nid (ids.map (place ρ))) (s0.nid+ids.length) w.heap S (X0 s0 (b.map Prod.fst)) tl (ids.map (place ρ))):
  Tp E A ((X0 s0 (b.map Prod.fst)).more tl (ids.map (place ρ)).length) (D8 ρ s0.nid (ids.map (place ρ))) S w/\
   ∀r q i f,E0 ((X0 s0 (b.map Prod.fst)).more tl (ids.map (place ρ)).length) r=.rof q i f->r<s0.nid/\q<s0.nid/\E0 s1 r=.rof q i f:=by
 obtain⟨g1,g2,g3,g4,g5,g6⟩:=h0i (b.map Prod.fst) s0;have hlen:(ids.map (place ρ)).length=ids.length:=by simp
 have I:((X0 s0 (b.map Prod.fst)).more tl (ids.map (place ρ)).length).nid=s0.nid+ids.length:=by show _+_=_;rw[g1,hlen]
 simp only[m0i,Bool.and_eq_true,all_eq_true]at ht;obtain⟨J,c0⟩:=ht;have J:=p0h J;have low:∀j,j<s0.nid->E0 ((X0 s0 (b.map Prod.fst)).more tl (ids.map (place ρ)).length) j=.gone\/
   (E0 ((X0 s0 (b.map Prod.fst)).more tl (ids.map (place ρ)).length) j=E0 s0 j/\E0 s0 j=E0 s1 j/\Q4 b j=none):=by
  intro j hj;rw[f0J _ _ _ _ (fun p hp=>by have:=hn.keys p hp;rw[g1]at this;omega)];obtain⟨k1,o⟩:=h0A (b.map Prod.fst) s0 j;cases hc:Q4 b j with
  |some x=>
   refine .inl (k1 ?_)
   by_cases hm:j∈b.map Prod.fst
   ·exact hm
   ·rw[p0q hm]at hc;cases hc
  |none=>
   rcases o with o|o
   ·cases hw:Q4 s0.th j with
    |none=>
     refine .inl (o.trans ?_);unfold E0;rw[hw]
    |some x=>
     refine .inr ⟨o,?_,rfl⟩;unfold E0;rw[hw,t0Y hk he.th hc hw]
   ·exact .inl o
 have high:∀i,s0.nid+ids.length<=i->E0 ((X0 s0 (b.map Prod.fst)).more tl (ids.map (place ρ)).length) i=.gone:=by
  intro i hi;rw[f0J _ _ _ _ (fun p hp=>by have:=hn.keys p hp;rw[g1,hlen]at this;omega)];obtain⟨k1,o⟩:=h0A (b.map Prod.fst) s0 i;rcases o with o|o
  ·rw[o];exact h0.lt i (by omega)
  ·exact o
 have new:∀i,s0.nid<=i->i<s0.nid+ids.length->∃x,ids[i-s0.nid]?=some x/\D8 ρ s0.nid (ids.map (place ρ)) i=place ρ x:=by
  intro i h1 h2;have c:i-s0.nid<ids.length:=by omega
  refine⟨ids[i-s0.nid],by simp[c],?_⟩;have:=j0B (ρ:=ρ) (n0:=s0.nid) (pl:=ids.map (place ρ)) (i:=i-s0.nid) (v:=place ρ ids[i-s0.nid]) (by simp[c]);rw[show s0.nid+(i-s0.nid)=i from by omega]at this;exact this
 have b1:∀i,P1 (E0 ((X0 s0 (b.map Prod.fst)).more tl (ids.map (place ρ)).length) i)=true->∀k,Bk (D8 ρ s0.nid (ids.map (place ρ)) i) k->
   ∃j,P1 (E0 s1 j)=true/\Bk (ρ j) k/\((i<s0.nid/\j=i/\Q4 b j=none)\/(s0.nid<=i/\ids[i-s0.nid]?=some (some j))):=by
  intro i d k g;rcases lt_or_ge i s0.nid with c|hge2
  ·rcases low i c with e|⟨e1,e2,e3⟩
   ·rw[e]at d;cases d
   ·rw[e1,e2]at d;rw[e7 c]at g;exact⟨i,d,g,.inl ⟨c,rfl,e3⟩⟩
  ·rcases lt_or_ge i (s0.nid+ids.length)with hlt2|hge3
   ·obtain⟨x,hx,hp⟩:=new i hge2 hlt2;rw[hp]at g;cases x with
    |none=>cases g
    |some j=>exact⟨j,ho j (mem_of_getElem? hx),g,.inr ⟨hge2,hx⟩⟩
   ·rw[high i hge3]at d;cases d
 have inj:∀(i i':Nat) (j:Nat),i≠i'->ids[i]?=some (some j)->ids[i']?=some (some j)->False:=by
  intro i i' j b2 h1 h2;have:∀(l:List (Option Nat)) (p q:Nat),(l.filterMap fun x=>x).Nodup->p<q->l[p]?=some (some j)->l[q]?=some (some j)->False:=by
   intro l
   induction l with
   |nil=>intro p q _ _ hp;simp at hp
   |cons y l ih=>
    intro p q hl c8 hp U;cases p with
    |zero=>
     simp at hp;subst hp;obtain⟨q',rfl⟩:∃q',q=q'+1:=⟨q-1,by omega⟩
     simp only[List.getElem?_cons_succ]at U;simp only[List.filterMap_cons,nodup_cons]at hl;exact hl.1 (mem_filterMap.2 ⟨some j,mem_of_getElem? U,rfl⟩)
    |succ p=>
     obtain⟨q',rfl⟩:∃q',q=q'+1:=⟨q-1,by omega⟩
     simp only[List.getElem?_cons_succ]at hp U;refine ih p q' ?_ (by omega) hp U;cases y with
     |none=>simpa using hl
     |some z=>simp only[List.filterMap_cons,nodup_cons]at hl;exact hl.2
  rcases Nat.lt_or_gt_of_ne b2 with c|hgt
  ·exact this ids i i' J c h1 h2
  ·exact this ids i' i J hgt h2 h1
 have a1:∀r q i f,E0 ((X0 s0 (b.map Prod.fst)).more tl (ids.map (place ρ)).length) r=.rof q i f->r<s0.nid/\q<s0.nid/\E0 s1 r=.rof q i f:=by
  intro r q i f R;rcases lt_or_ge r s0.nid with c|hge2
  ·rcases low r c with e|⟨e1,e2,_⟩
   ·rw[e]at R;cases R
   ·exact⟨c,h0.b0T (by rw[<-e1];exact R),by rw[<-e2,<-e1];exact R⟩
  ·rcases lt_or_ge r (s0.nid+ids.length)with hlt2|hge3
   ·obtain⟨x,hx,hp⟩:=new r hge2 hlt2;have:=(hn.th (r-s0.nid) (place ρ x) (by rw[List.getElem?_map,hx];rfl)).2;rw[g1,show s0.nid+(r-s0.nid)=r from by omega,R]at this;cases this
   ·rw[high r hge3]at R;cases R
 refine⟨⟨h.cx,fun id=>?_,fun i d k g=>?_,fun i i' b2 d b5 k g c5=>?_,fun i hi=>high i (by rw[<-I];exact hi),fun r q i f R e F t xs U=>?_,h.kp,fun i u ha=>⟨by rw[I];have:=hH i u ha;omega,by rw[e7 (hH i u ha)];exact(h.hp i u ha).2⟩⟩,a1⟩
 ·rw[I];rcases lt_or_ge id s0.nid with c|hge2
  ·rcases low id c with e|⟨e1,e2,e3⟩
   ·rw[e];trivial
   ·rw[e1,e7 c];have h1:=h.th id;rw[<-e2]at h1;exact X3.cut (fun i hi=>by rw[e7 hi]) (le_add_right _ _) (h0.th id) h1
  ·rcases lt_or_ge id (s0.nid+ids.length)with hlt2|hge3
   ·obtain⟨x,hx,hp⟩:=new id hge2 hlt2;have:=(hn.th (id-s0.nid) (place ρ x) (by rw[List.getElem?_map,hx];rfl)).1;rw[g1,show s0.nid+(id-s0.nid)=id from by omega]at this;rw[hp];exact this
   ·rw[high id hge3];trivial
 ·obtain⟨j,h1,h2,_⟩:=b1 i d k g;exact h.ow j h1 k h2
 ·obtain⟨j,h1,h2,h3⟩:=b1 i d k g;obtain⟨j',c4,c3,m⟩:=b1 i' b5 k c5
  by_cases b4:j=j'
  ·subst b4;rcases h3 with⟨h3,rfl,h5⟩|⟨h3,h5⟩
   ·rcases m with⟨m,c6,_⟩|⟨m,C⟩
    ·exact b2 c6
    ·have:=c0 j (mem_filterMap.2 ⟨some j,mem_of_getElem? C,rfl⟩);rw[h5]at this;simp at this;omega
   ·rcases m with⟨m,rfl,C⟩|⟨m,C⟩
    ·have:=c0 j (mem_filterMap.2 ⟨some j,mem_of_getElem? h5,rfl⟩);rw[C]at this;simp at this;omega
    ·exact inj _ _ j (by omega) h5 C
  ·exact h.dj j j' b4 h1 c4 k h2 c3
 ·obtain⟨h1,b3,h3⟩:=a1 r q i f R;rcases low q b3 with e'|⟨e1,e2,_⟩
  ·rw[e']at U;cases U
  ·rw[e7 b3,e7 h1];exact h.rf r q i f h3 e F t xs (by rw[<-e2,<-e1];exact U)
section
variable {A:O4}{s0 s s1:St E.D}{ρ0 ρ:Nat->Value}{S0 S:D0}{a0 a:Act}{as0 as:List Act}{w0 w:World}
def VT.app {n:Nat}{H:K0}:∀{l l':List (V E.D)} {us b:List Value},VT E ρ n H S l us->VT E ρ n H S l' b->VT E ρ n H S (l++l') (us++b)
 |[],l',us,b,h,d=>by unfold VT at h;subst h;exact d
 |v :: l,l',us,b,h,d=>by
  unfold VT at h;obtain⟨c,u,h1,rfl,e⟩:=h;rw[List.cons_append];unfold VT;exact⟨c,u++b,h1,rfl,VT.app e d⟩
def VT.map {n:Nat}{H:K0}{α:Type}{f:α->V E.D}{g:α->Value}:∀{l:List α},(∀p∈l,VS E ρ n H S (f p) (g p))->VT E ρ n H S (l.map f) (l.map g)
 |[],_=>by unfold List.map VT;rfl
 |p :: l,h=>by
  obtain⟨c,h1,d⟩:=h p (by simp);rw[map_cons,map_cons];unfold VT;exact⟨c,_,h1,by rw[d],VT.map fun q b=>h q (by simp[b])⟩
def VT.j01 {n:Nat}{H:K0}:∀{us b:List Value} {l:List (V E.D)},VT E ρ n H S l (us++b)->∃d e,l=d++e/\d.length=us.length/\VT E ρ n H S d us/\VT E ρ n H S e b
 |[],b,l,h=>⟨[],l,rfl,rfl,by unfold VT;rfl,h⟩
 |u :: us,b,[],h=>by unfold VT at h;simp at h
 |u :: us,b,v :: l,h=>by
  unfold VT at h;obtain⟨c,q,h1,f,j⟩:=h;simp only[List.cons_append,List.cons.injEq]at f;obtain⟨rfl,rfl⟩:=f;obtain⟨d,e,rfl,i,g,k⟩:=VT.j01 j;exact⟨v :: d,e,rfl,by simp[i],by unfold VT;exact⟨c,us,h1,rfl,g⟩,k⟩
def Rp.b0R (h:Rp E A s ρ S a as w)(t:Nat):VS E ρ s.nid w.heap S (b0R s t) (a.tmps.getD t undef):=by
 unfold Go.X.b0R;cases b:Q4 s.fr t with
 |some v=>exact h.get b
 |none=>exact VS.undef _
def Rp.thV (h:Rp E A s ρ S a as w)(id:Nat):VS E ρ s.nid w.heap S (thV s id) (hd (ρ id)):=by
 have g:=h.th id;have d:E0 s id≠.gone->id<s.nid:=h.F7;unfold Go.X.thV;cases hl:E0 s id with
 |gone=>exact VS.undef _
 |box T l=>
  rw[hl]at g d;obtain⟨b,cs,k,_⟩:=g;have:=VS.pb (E:=E) (ρ:=ρ) (b:=b) (S:=S) (H:=w.heap) (off:=0) (p:=[]) (d (by simp)) trivial (by rw[k];rfl);rw[k];simpa[M4,Go.X.hd]using this
 |fzb T l=>
  rw[hl]at g d;obtain⟨b,cs,k,_⟩:=g;have:=VS.pb (E:=E) (ρ:=ρ) (b:=b) (S:=S) (H:=w.heap) (off:=0) (p:=[]) (d (by simp)) trivial (by rw[k];rfl);rw[k];simpa[M4,Go.X.hd]using this
 |lst e t xs=>
  rw[hl]at g d;obtain⟨A',c,j⟩:=S5.form g;exact VS.of rfl (by unfold VC;exact⟨d (by simp),by rw[j];rfl,rfl⟩)
 |fz t xs=>
  rw[hl]at g d;obtain⟨A',c,j,_⟩:=g;exact VS.of rfl (by unfold VC;exact⟨d (by simp),by rw[j];rfl,rfl⟩)
 |map m=>
  rw[hl]at g d;obtain⟨r,es,cl,j,_⟩:=g;exact VS.of rfl (by unfold VC;exact⟨d (by simp),by rw[j];rfl,rfl⟩)
 |B1 e F t xs o=>
  rw[hl]at g d;obtain⟨cs,g⟩:=g;obtain⟨A',c,j⟩:=Row.form g.row;exact VS.of rfl (by unfold VC;exact⟨d (by simp),by rw[j];rfl,rfl⟩)
 |rof q i f=>
  rw[hl]at g d;exact VS.of rfl (by unfold VC;exact⟨d (by simp),by rw[g.2.2];exact g.2.1,rfl⟩)
def s0L {n:Nat}{H:K0}{t:Nat->Value}:∀(sl:List (Nat×Sh)) (l:List (V E.D)) (u:St E.D),VT E ρ n H S l (sl.map fun p=>t p.1)->(∀k v,k∉sl.map Prod.fst->Q4 u.fr k=some v->VS E ρ n H S v (t k))->
  (∀k v,Q4 (z8 u sl l).fr k=some v->VS E ρ n H S v (t k))/\(z8 u sl l).th=u.th/\(z8 u sl l).nid=u.nid/\(z8 u sl l).n=u.n/\(z8 u sl l).stk=u.stk/\∃q,(z8 u sl l).fr=q++u.fr
 |[],l,u,_,hu=>⟨fun k v h=>hu k v (by simp) (by cases l<;>exact h),by cases l<;>rfl,by cases l<;>rfl,by cases l<;>rfl,by cases l<;>rfl,[],by cases l<;>rfl⟩
 |(i,sh) :: sl,[],u,hl,_=>by unfold VT at hl;simp at hl
 |(i,sh) :: sl,v :: l,u,hl,hu=>by
  rw[map_cons]at hl;unfold VT at hl;obtain⟨c,us,h1,b,m⟩:=hl;simp only[List.cons.injEq]at b;obtain⟨b,rfl⟩:=b;obtain⟨j,g,f,r,o,q,x⟩:=s0L sl l (u.put (some i) v) m (fun k w hk hw=>by
   simp only[St.put,a0q]at hw;split at hw
   ·rename_i e;simp only[Option.some.injEq]at hw;subst e;subst hw;exact⟨c,h1,b⟩
   ·rename_i e;exact hu k w (by rw[map_cons,mem_cons];rintro(d|d);exact e d.symm;exact hk d) hw)
  exact⟨j,g,f,r,o,q++[(i,v)],by show(z8 (u.put (some i) v) sl l).fr=_;rw[x];simp[St.put]⟩
def o09 {N:Nat}{H:K0}{S1:D0}:∀(th:List (Nat×Sh)) (l:List (V E.D)) (u:St E.D) (ρ:Nat->Value),Tp E A u ρ S w->(∀p∈th,p.1<u.nid)->A0b E u ρ w th->VT E ρ N H S1 l (th.map fun p=>hd (ρ p.1))->
  ∃ ρ1,Tp E A (a0y u th l) ρ1 S w/\(∀i,hd (ρ1 i)=hd (ρ i))/\(a0y u th l).fr=u.fr/\(a0y u th l).nid=u.nid/\(a0y u th l).n=u.n/\(a0y u th l).stk=u.stk/\∃q,(a0y u th l).th=q++u.th
 |[],l,u,ρ,h,_,_,_=>⟨ρ,by cases l<;>exact h,fun _=>rfl,by cases l<;>rfl,by cases l<;>rfl,by cases l<;>rfl,by cases l<;>rfl,[],by cases l<;>rfl⟩
 |(i,sh) :: th,[],u,ρ,_,_,_,hl=>by unfold VT at hl;simp at hl
 |(i,sh) :: th,v :: l,u,ρ,h,hi,hrf,hl=>by
  rw[map_cons]at hl;unfold VT at hl;obtain⟨c,us,h1,b,J⟩:=hl;simp only[List.cons.injEq]at b;obtain⟨b,rfl⟩:=b;obtain⟨m1,m2,m3,m4,q,m5⟩:=D0T u i sh v;obtain⟨ρ1,g1,g2,g3⟩:=h.move (hi (i,sh) (by simp)) (sh:=sh) ⟨c,h1,b⟩ (hrf (i,sh) (by simp));have d:VT E ρ1 N H S1 l (th.map fun p=>hd (ρ1 p.1)):=by
   have e:(th.map fun p=>hd (ρ1 p.1))=th.map fun p=>hd (ρ p.1):=List.map_congr_left fun p _=>g2 p.1;rw[e];exact J.mono (fun i _=>g2 i) (le_refl _) (U0.refl _ _)
  obtain⟨ρ2,I,m,k,U,y,o,q',z⟩:=o09 th l (a0F u i sh v) ρ1 g1 (fun p hp=>by rw[m1];exact hi p (by simp[hp])) (fun p hp e F t g r j f C=>by
   obtain⟨R,x⟩:=g3 r p.1 j f C;rw[g2,x];exact hrf p (by simp[hp]) e F t g r j f R) d
  exact⟨ρ2,I,fun i=>(m i).trans (g2 i),k.trans m2,U.trans m1,y.trans m3,o.trans m4,q'++q,by show(a0y (a0F u i sh v) th l).th=_;rw[z,m5];simp⟩
def t0N {s:St E.D}{e:Nat}{F:List Nat}{t:U}:∀(cs:List Sh) (l:List (V E.D)) (g:Pk (S4 E.D cs)),U7 E s cs l=some g->∀(i:Nat) (v:V E.D),cs[i]?=some (.B1 e F t)->l[i]?=some v->∃d,d0s E s e F t v=some d
 |[],_,_,_,i,_,hi,_=>by simp at hi
 |x :: r,l,g,h,i,v,hi,hv=>by
  unfold U7 at h;split at h<;>try cases h
  rename_i k l';split at h<;>try cases h
  rename_i m a j b c f;cases i with
  |zero=>
   obtain rfl:x=.B1 e F t:=Option.some.inj hi;obtain rfl:k=v:=Option.some.inj hv;unfold rd at c;exact⟨_,c⟩
  |succ i=>exact t0N r l' _ f i v (by simpa using hi) (by simpa using hv)
def x0X {s s1:St E.D}{id e:Nat}{F:List Nat}{t:U}{c:Pk (List (Den E.D t))}(h:d0s E s1 e F t (thV s id)=some c):∃xs,E0 s1 id=.B1 e F t xs none:=by
 unfold thV at h;split at h<;>simp only[d0s]at h<;>first|(cases h;done)|skip
 all_goals
  split at h<;>try cases h
  rename_i hl;split at h<;>try cases h
  rename_i he b;rw[Bool.and_eq_true,beq_eq,beq_iff_eq]at he;obtain⟨rfl,rfl⟩:=he;obtain⟨d,b⟩:=L9 b;subst d;exact⟨_,hl⟩
def e0t (hE:Q1 E){A0:O4}(hH:∀i u,A.hda i u->i<s0.nid)(h0:Rp E A0 s0 ρ0 S0 a0 as0 w0)(h:Rp E A s ρ S a as w)(he:Ext s0 s){c:Cut}{x:f02 E.D c}(hp:b0w E s0 s c=some x){R:Type}{r:R}{k:St E.D->Option R}(hu:c0B E s0 c x k=some r):
  ∃u ρ1 S1,k u=some r/\Rp E A u ρ1 S1 a as w/\Ext s0 u/\∀k,S1 k->S k:=by
 unfold b0w at hp;simp only at hp;split at hp<;>try cases hp
 rename_i s1 hf;split at hp<;>try cases hp
 rename_i ids x' c3;split at hp<;>try cases hp
 rename_i b1;simp only[Bool.and_eq_true]at b1;obtain⟨⟨⟨⟨⟨c5,h4⟩,e5⟩,h7⟩,h9⟩,j1⟩:=b1;obtain⟨S1,J,m,h3,i1,h8⟩:=a0a hE _ s _ s1 hf S h;have I:=he.trans h3;have e9:VT E ρ s1.nid w.heap S1 (c.sl.map (fun p=>b0R s p.1)++c.th.map (fun p=>thV s p.1)) (c.sl.map (fun p=>a.tmps.getD p.1 undef)++c.th.map (fun p=>hd (ρ p.1))):=by
  rw[h8];exact(VT.map fun p _=>(h.b0R p.1).c02 J).app (VT.map fun p _=>(h.thV p.1).c02 J)
 obtain⟨h5,c4⟩:=f00 hE m.th c.shs _ ⟨ids,x⟩ _ c3 e9;obtain⟨g1,g2,g3,g4,g5,g6⟩:=h0i (c.th.map Prod.fst) s0;unfold c0B at hu;have hlen:(ids.map (place ρ)).length=ids.length:=by simp
 obtain⟨j2,tl,c0,b2,e1⟩:=f0j (ρ:=D8 ρ s0.nid (ids.map (place ρ))) (N:=s0.nid+ids.length) c.shs x _ _ (X0 s0 (c.th.map Prod.fst)) _ h5 hu (fun i v hi=>by rw[g1];exact j0B hi) (by rw[g1,hlen];exact le_refl _);obtain⟨b,U⟩:=Tp.pack hH h0 m I h4 c4 e5 e1;obtain⟨z,l2,rfl,b3,c6,e4⟩:=b2.j01;have hd:(z++l2).drop c.sl.length=l2:=by
  have:z.length=c.sl.length:=by simpa using b3
  rw[<-this];simp
 have o:((X0 s0 (c.th.map Prod.fst)).more tl (ids.map (place ρ)).length).nid=s0.nid+ids.length:=by show _+_=_;rw[g1,hlen]
 have a1:z8 ((X0 s0 (c.th.map Prod.fst)).more tl (ids.map (place ρ)).length) c.sl (z++l2)=z8 ((X0 s0 (c.th.map Prod.fst)).more tl (ids.map (place ρ)).length) c.sl z:=by
  have:∀(sl:List (Nat×Sh)) (l l':List (V E.D)) (u:St E.D),l.length=sl.length->z8 u sl (l++l')=z8 u sl l:=by
   intro sl
   induction sl with
   |nil=>
    intro l l' u hl;have:l=[]:=List.eq_nil_of_length_eq_zero hl;subst this;cases l'<;>rfl
   |cons p sl ih=>
    intro l l' u hl;cases l with
    |nil=>simp at hl
    |cons v l=>
     obtain⟨i,sh⟩:=p;show z8 (u.put (some i) v) sl (l++l')=z8 (u.put (some i) v) sl l;exact ih l l' _ (by simpa using hl)
  exact this _ _ _ _ (by simpa using b3)
 rw[hd,a1]at c0;have C:((X0 s0 (c.th.map Prod.fst)).more tl (ids.map (place ρ)).length).fr=s0.fr:=g2;obtain⟨q1,q2,q3,q4,q5,q6,q7⟩:=s0L (t:=fun k=>a.tmps.getD k undef) c.sl z ((X0 s0 (c.th.map Prod.fst)).more tl (ids.map (place ρ)).length) c6 (fun k v hk hv=>by
  rw[C]at hv;have h2:=t0Y c5 I.fr (p0q hk) hv;exact VS.cut (fun i hi=>by rw[e7 hi]) (le_add_right _ _) (h0.get hv) (m.get h2))
 have b4:Tp E A (z8 ((X0 s0 (c.th.map Prod.fst)).more tl (ids.map (place ρ)).length) c.sl z) (D8 ρ s0.nid (ids.map (place ρ))) S1 w:=by
  have d:∀i,E0 (z8 ((X0 s0 (c.th.map Prod.fst)).more tl (ids.map (place ρ)).length) c.sl z) i=E0 ((X0 s0 (c.th.map Prod.fst)).more tl (ids.map (place ρ)).length) i:=fun i=>by unfold E0;rw[q2]
  refine⟨b.cx,fun i=>?_,fun i hi=>?_,fun i j c8 hi hj=>?_,fun i hi=>?_,fun r q i f hr e F t xs hq=>?_,b.kp,fun i u ha=>⟨by rw[q3];exact(b.hp i u ha).1,(b.hp i u ha).2⟩⟩
  ·rw[d,q3];exact b.th i
  ·rw[d]at hi;exact b.ow i hi
  ·rw[d]at hi hj;exact b.dj i j c8 hi hj
  ·rw[d];rw[q3]at hi;exact b.lt i hi
  ·rw[d]at hr hq;exact b.rf r q i f hr e F t xs hq
 have y:∀p∈c.th,p.1<s0.nid:=fun p hp=>by
  have:=all_eq_true.1 h7 p hp
  rwa [Nat.blt_eq]at this
 obtain⟨ρ2,m1,m0,m2,m3,m4,m5,m6,m7⟩:=o09 (N:=s0.nid+ids.length) (H:=w.heap) (S1:=S1) c.th l2 _ _ b4 (fun p hp=>by rw[q3,o];have:=y p hp;omega) (fun p hp e F t e2 r i f hr=>by
  have d:E0 (z8 ((X0 s0 (c.th.map Prod.fst)).more tl (ids.map (place ρ)).length) c.sl z) r=E0 ((X0 s0 (c.th.map Prod.fst)).more tl (ids.map (place ρ)).length) r:=by unfold E0;rw[q2]
  rw[d]at hr;obtain⟨z1,z2,z3⟩:=U r p.1 i f hr;rw[e7 z1,e7 z2];obtain⟨kk,b5⟩:=List.getElem?_of_mem hp;obtain⟨j0,h6⟩:=t0N (e:=e) (F:=F) (t:=t) c.shs _ _ c3 (c.sl.length+kk) (thV s p.1) (by unfold Cut.shs;rw[List.getElem?_append_right (by simp)];simp[b5,e2]) (by rw[List.getElem?_append_right (by simp)];simp[b5]);obtain⟨xs,e3⟩:=x0X h6;exact m.rf r p.1 i f z3 e F t xs e3) (by
  have:c.th.map (fun p=>Go.X.hd (D8 ρ s0.nid (ids.map (place ρ)) p.1))=c.th.map (fun p=>Go.X.hd (ρ p.1)):=List.map_congr_left fun p hp=>by rw[e7 (y p hp)]
  rw[this];exact e4)
 have g:=m3.trans (q3.trans o);refine⟨_,_,S1,c0,⟨m1.cx,⟨?_,h.fr.defers,fun t v ht=>?_⟩,?_,m1.th,m1.ow,m1.dj,m1.lt,m1.rf,m1.kp,m1.hp⟩,⟨?_,?_,?_,?_,?_⟩,J⟩
 ·rw[m4,q4];show a.tmps.size=(X0 s0 (c.th.map Prod.fst)).n;rw[g3,h.fr.size,he.n]
 ·rw[g];rw[m2]at ht;exact(q1 t v ht).mono (fun i _=>m0 i) (le_refl _) (U0.refl _ _)
 ·rw[g,m5,q5];show O9 E _ _ _ _ (X0 s0 (c.th.map Prod.fst)).stk as;rw[g4];have:=m.stk;rw[I.stk]at this;exact O9.cut (fun i hi=>by rw[m0,e7 hi]) (le_add_right _ _) h0.stk this
 ·rw[m4,q4];exact g3
 ·rw[m2,q7];exact⟨q6,by rw[C]⟩
 ·rw[m7,q2];exact⟨m6++(tl++g5),by show _=_ ;simp[St.more,g6]⟩
 ·rw[m5,q5];exact g4
 ·rw[g];exact le_add_right _ _
section
variable {A:O4}{s0 s:St E.D}{ρ0 ρ:Nat->Value}{S0 S:D0}{a0 a:Act}{as0 as:List Act}{w0 w:World}
def Ex.h06:∀{e f:Ex},Ex.eq e f=true->e=f
 |.nrm,.nrm,_=>rfl
 |.ex i,.ex j,h=>by have h:Nat.beq i j=true:=h;rw[beq_eq]at h;rw[h]
 |.ret,.ret,_=>rfl
 |.nrm,.ex _,h=>by cases h
 |.nrm,.ret,h=>by cases h
 |.ex _,.nrm,h=>by cases h
 |.ex _,.ret,h=>by cases h
 |.ret,.nrm,h=>by cases h
 |.ret,.ex _,h=>by cases h
def o0U (m:Q1 E){p:O4}(hH:∀i u,A.hda i u->i<s0.nid)(o:Rp E p s0 ρ0 S0 a0 as0 w0)(h:Rp E A s ρ S a as w)(he:Ext s0 s){e:Ex}{R:Type}{r:R}{k:Ex->St E.D->Option R}:∀(xs:List (Ex×Cut)) (d:g07 E.D xs),c0G E s0 e s xs=some d->resume E s0 k xs d=some r->
  ∃u ρ1 S1,k e u=some r/\Rp E A u ρ1 S1 a as w/\Ext s0 u
 |[],d,hp,_=>by cases d
 |[x],d,hp,hr=>by
  unfold c0G at hp;split at hp<;>try cases hp
  rename_i c;have j:=Ex.h06 c;unfold resume at hr;obtain⟨u,ρ1,S1,h1,l,g,_⟩:=e0t m hH o h he hp hr;exact⟨u,ρ1,S1,by rw[<-j];exact h1,l,g⟩
 |x :: y :: xs,d,hp,hr=>by
  unfold c0G at hp;split at hp
  ·rename_i c;have j:=Ex.h06 c;split at hp<;>try cases hp
   rename_i b f;obtain⟨u,ρ1,S1,h1,l,g,_⟩:=e0t m hH o h he f (show c0B E s0 x.2 b (k x.1)=some r from hr);exact⟨u,ρ1,S1,by rw[<-j];exact h1,l,g⟩
  ·split at hp<;>try cases hp
   rename_i b f;exact o0U m hH o h he (y :: xs) b f hr
end
end
end
end
end
