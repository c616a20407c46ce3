/- P. Its conditions: none. -/
import Derived.Test.YtihmgaccbcfgjaaGreatTX8
open Nat (lt_of_lt_of_le le_refl beq_eq lt_or_ge le_add_right)
open List (mem_cons all_eq_true nodup_cons mem_of_getElem? mem_filterMap map_cons)
set_option linter.all false
namespace Go.X
open Go.V Go.RowKit
section
variable {E:Env}
section
variable {ρ0 ρ ρ1:Nat->Value}{n0 n N:Nat}{H0 H:I0}{S0 S:D0}
mutual
def VC.cut (hρ:∀i,i<n0->hd (ρ1 i)=hd (ρ i))(hn:n0<=N):∀(v:V E.D) (g c:List Value),VC E ρ0 n0 H0 S0 v g->VC E ρ n H S v c->VC E ρ1 N H S v c
 |.undef,_,_,_,h=>h
 |.kb _,_,_,_,h=>h
 |.ki _ _,_,_,_,h=>h
 |.d _ _,_,_,_,h=>h
 |.nil,_,_,_,h=>h
 |.nilp,_,_,_,h=>h
 |.nilif,_,_,_,h=>h
 |.nilfn,_,_,_,h=>h
 |.sl id,g,c,⟨e,_⟩,⟨_,h1,j⟩=>⟨lt_of_lt_of_le e hn,by rw[hρ id e];exact h1,by rw[hρ id e];exact j⟩
 |.pb id off p,g,c,⟨e,_⟩,⟨_,h1,b,j,q⟩=>⟨lt_of_lt_of_le e hn,h1,b,(hρ id e).trans j,q⟩
 |.pe id i z p,g,c,⟨e,_⟩,⟨_,h1,b,o,m,r,j,q⟩=>⟨lt_of_lt_of_le e hn,h1,b,o,m,r,(hρ id e).trans j,q⟩
 |.pd _ _,_,_,_,h=>h
 |.df _ _,_,_,_,h=>h
 |.mp id,g,c,⟨e,_⟩,⟨_,h1,j⟩=>⟨lt_of_lt_of_le e hn,by rw[hρ id e];exact h1,by rw[hρ id e];exact j⟩
 |.agg l,g,c,e,h=>T0.cut hρ hn l g c e h
 |.tup l,g,c,⟨k,_,e⟩,⟨u,h1,h⟩=>⟨u,h1,VT.cut hρ hn l k u e h⟩
 |.fn f l,g,c,⟨k,_,e⟩,⟨u,h1,h⟩=>⟨u,h1,VT.cut hρ hn l k u e h⟩
 |.ifc T v,g,c,⟨d0,e,_⟩,⟨d,h,h1⟩=>⟨d,VC.cut hρ hn v d0 d e h,h1⟩
def T0.cut (hρ:∀i,i<n0->hd (ρ1 i)=hd (ρ i))(hn:n0<=N):∀(l:List (V E.D)) (k c:List Value),T0 E ρ0 n0 H0 S0 l k->T0 E ρ n H S l c->T0 E ρ1 N H S l c
 |[],_,_,_,h=>h
 |v :: l,_,_,⟨f,a2,_,h1,g⟩,⟨d,b,e,m,j⟩=>⟨d,b,e,VC.cut hρ hn v f d h1 m,T0.cut hρ hn l a2 b g j⟩
def VT.cut (hρ:∀i,i<n0->hd (ρ1 i)=hd (ρ i))(hn:n0<=N):∀(l:List (V E.D)) (k c:List Value),VT E ρ0 n0 H0 S0 l k->VT E ρ n H S l c->VT E ρ1 N H S l c
 |[],_,_,_,h=>h
 |v :: l,_,_,⟨f,a2,h1,_,g⟩,⟨d,b,m,e,j⟩=>⟨d,b,VC.cut hρ hn v f d h1 m,e,VT.cut hρ hn l a2 b g j⟩
end -- mutual
def VS.cut (hρ:∀i,i<n0->hd (ρ1 i)=hd (ρ i))(hn:n0<=N){v:V E.D}{f u:Value}:VS E ρ0 n0 H0 S0 v f->VS E ρ n H S v u->VS E ρ1 N H S v u:=by
 rintro⟨d,b,_⟩ ⟨c,h,e⟩
 exact⟨c,VC.cut hρ hn v d c b h,e⟩
def K3.cut (hρ:∀i,i<n0->hd (ρ1 i)=hd (ρ i))(hn:n0<=N){x:Th E.D}{v0 v:Value}(j:K3 E ρ0 n0 H0 S0 x v0)(h:K3 E ρ n H S x v):K3 E ρ1 N H S x v:=by
 cases x with
 |gone=>trivial
 |box T l=>
  obtain⟨_,k,_,_,c,_⟩:=j;obtain⟨b,cs,rfl,h1,g,d⟩:=h;exact⟨b,cs,rfl,h1,T0.cut hρ hn l k cs c g,d⟩
 |fzb T l=>
  obtain⟨_,k,_,_,c,_⟩:=j;obtain⟨b,cs,rfl,h1,g,d⟩:=h;exact⟨b,cs,rfl,h1,T0.cut hρ hn l k cs c g,d⟩
 |lst e t xs=>exact h
 |fz t xs=>exact h
 |map m=>exact h
 |X0 e F t xs o=>exact h
 |rof q i f=>exact⟨lt_of_lt_of_le j.1 hn,h.2⟩
def b0C.cut (hρ:∀i,i<n0->hd (ρ1 i)=hd (ρ i))(hn:n0<=N){m0 m:Nat}{fr:Fr E.D}{a0 a:Act}(c:b0C E ρ0 n0 H0 S0 m0 fr a0)(h:b0C E ρ n H S m fr a):b0C E ρ1 N H S m fr a:=
 ⟨h.size,h.defers,fun t v b=>VS.cut hρ hn (c.slot t v b) (h.slot t v b)⟩
def a0t.cut (hρ:∀i,i<n0->hd (ρ1 i)=hd (ρ i))(hn:n0<=N):∀{l:List (Nat×Fr E.D)} {as0 as:List Act},a0t E ρ0 n0 H0 S0 l as0->a0t E ρ n H S l as->a0t E ρ1 N H S l as
 |[],[],[],_,h=>h
 |[],[],_ :: _,_,h=>h.elim
 |[],_ :: _,_,b,_=>b.elim
 |_ :: _,[],_,b,_=>b.elim
 |_ :: _,_ :: _,[],_,h=>h.elim
 |p :: l,a0 :: as0,a :: as,⟨b,c⟩,⟨h,k⟩=>⟨b0C.cut hρ hn b h,a0t.cut hρ hn c k⟩
end
section
variable {A:E4}{s0 s s1:St E.D}{ρ0 ρ:Nat->Value}{S0 S:D0}{a0 a:Act}{as0 as:List Act}{w0 w:World}
structure Tp (E:Env)(A:E4)(s:St E.D)(ρ:Nat->Value)(S:D0)(w:World):Prop where
 cx:Cx A.w0 A.W0 A.S0 w S
 th:∀id,K3 E ρ s.nid w.heap S (F0 s id) (ρ id)
 ow:∀id,Q1 (F0 s id)=true->∀k,Bk (ρ id) k->S k/\¬A.S0 k/\Wr A.W0 A.w0 k
 dj:∀i j,i≠j->Q1 (F0 s i)=true->Q1 (F0 s j)=true->∀k,Bk (ρ i) k->¬Bk (ρ j) k
 lt:∀id,s.nid<=id->F0 s id=.gone
 rf:∀r q i f,F0 s r=.rof q i f->∀e F t xs,F0 s q=.X0 e F t xs none->b06 w.heap (hd (ρ q)) F.length i f (ρ r)
 kp:∀H1 S1,A.anc H1 S1->P0 H1 S1 w.heap S
 hp:∀i u,A.hda i u->i<s.nid/\hd (ρ i)=u
def Rp.tp (h:Rp E A s ρ S a as w):Tp E A s ρ S w:=⟨h.cx,h.th,h.ow,h.dj,h.lt,h.rf,h.kp,h.hp⟩
def h01 {D:Nat->Type}:∀(l:List Nat) (s:St D),(Z0 s l).nid=s.nid/\(Z0 s l).fr=s.fr/\(Z0 s l).n=s.n/\(Z0 s l).stk=s.stk/\∃t,(Z0 s l).th=t++s.th
 |[],s=>⟨rfl,rfl,rfl,rfl,[],rfl⟩
 |i :: l,s=>by
  obtain⟨h1,d,b,c,t,e⟩:=h01 l (s.at i .gone);exact⟨h1,d,b,c,t++[(i,.gone)],by show(Z0 (s.at i .gone) l).th=_;rw[e];simp[St.at]⟩
def g0K:∀(l:List Nat) (s:St E.D) (j:Nat),(j∈l->F0 (Z0 s l) j=.gone)/\(F0 (Z0 s l) j=F0 s j\/F0 (Z0 s l) j=.gone)
 |[],s,j=>⟨(fun h=>by cases h),.inl rfl⟩
 |i :: l,s,j=>by
  obtain⟨h1,b⟩:=g0K l (s.at i .gone) j;have hl:=T8 s i j .gone;refine⟨fun h=>?_,?_⟩
  ·rcases mem_cons.1 h with rfl|h
   ·show F0 (Z0 (s.at j .gone) l) j=.gone;rcases b with b|b
    ·rw[b,hl,if_pos rfl]
    ·exact b
   ·exact h1 h
  ·show F0 (Z0 (s.at i .gone) l) j=_\/F0 (Z0 (s.at i .gone) l) j=_;rcases b with b|b
   ·rw[b,hl];split
    ·exact .inr rfl
    ·exact .inl rfl
   ·exact .inr b
def Tp.gone (h:Tp E A s ρ S w)(id:Nat):Tp E A (s.at id .gone) ρ S w:=by
 have hl:∀j,F0 (s.at id .gone) j=if id=j then .gone else F0 s j:=fun j=>T8 s id j .gone;refine⟨h.cx,fun j=>?_,fun j b=>?_,fun i j g hi b=>?_,fun j b=>?_,fun r q i f d e F t xs c=>?_,h.kp,h.hp⟩
 ·rw[hl];split
  ·trivial
  ·exact h.th j
 ·rw[hl]at b;split at b
  ·cases b
  ·exact h.ow j b
 ·rw[hl]at hi b;split at hi
  ·cases hi
  ·split at b
   ·cases b
   ·exact h.dj i j g hi b
 ·rw[hl];split
  ·rfl
  ·exact h.lt j b
 ·rw[hl]at d c;split at d
  ·cases d
  ·split at c
   ·cases c
   ·exact h.rf r q i f d e F t xs c
def Tp.t0Q:∀(l:List Nat) {s:St E.D},Tp E A s ρ S w->Tp E A (Z0 s l) ρ S w
 |[],_,h=>h
 |i :: l,s,h=>Tp.t0Q l (s:=s.at i .gone) (h.gone i)
def l0T {D:Nat->Type}{s:St D}{q r b f:Nat}{i:Int}(h:F0 (H7 s q) r=.rof b i f):F0 s r=.rof b i f/\b≠q:=by
 unfold H7 at h;rw[d0K]at h;split at h
 ·cases h
 ·rename_i hn;refine⟨h,?_⟩
  rintro rfl
  exact hn (j0H h)
def Tp.rename (h:Tp E A s ρ S w){s1:St E.D}{G:List Nat}{x:Th E.D}{id j:Nat}(b1:s1=Go.X.Z0 s G)(b2:id<s.nid)(J:x=F0 s j)(C:u08 x=false)(e:hd (ρ id)=hd (ρ j))
  (a1:∀r i f,F0 s1 r=.rof id i f->∀e F t xs,x=.X0 e F t xs none->b06 w.heap (hd (ρ id)) F.length i f (ρ r)):Tp E A ((s1.at id x).at j .gone) (C6 ρ id (ρ j)) S w:=by
 subst b1;have hl:∀i,F0 (((Go.X.Z0 s G).at id x).at j .gone) i=if j=i then .gone else if id=i then x else if i∈G then .gone else F0 s i:=fun i=>by
  rw[T8,T8,d0K]
 have hn:(((Go.X.Z0 s G).at id x).at j .gone).nid=s.nid:=(a0q G s).1;have o:∀i,hd (C6 ρ id (ρ j) i)=hd (ρ i):=fun i=>by
  by_cases h1:i=id
  ·subst h1;rw[W4];exact e.symm
  ·rw[n5 h1]
 have z:∀q i f,x≠.rof q i f:=fun q i f e=>by rw[e]at C;cases C
 have g:∀(y:Th E.D) (v:Value),K3 E ρ s.nid w.heap S y v->K3 E (C6 ρ id (ρ j)) s.nid w.heap S y v:=fun y v hy=>hy.mono (fun i _=>o i) (le_refl _) (P0.refl _ _) (fun _ _ _=>rfl);refine⟨h.cx,fun i=>?_,fun i c k hk=>?_,fun i i' p c b k hk d=>?_,fun i hi=>?_,fun r q i f l I F t xs m=>?_,h.kp,fun i u ha=>⟨by rw[hn];exact(h.hp i u ha).1,(o i).trans (h.hp i u ha).2⟩⟩
 ·rw[hl,hn];split
  ·trivial
  ·split
   ·rename_i h1;subst h1;rw[W4,J];exact g _ _ (h.th j)
   ·rename_i h1;split
    ·trivial
    ·rw[n5 (Ne.symm h1)];exact g _ _ (h.th i)
 ·rw[hl]at c;split at c
  ·cases c
  ·split at c
   ·rename_i h1;subst h1;rw[W4]at hk;rw[J]at c;exact h.ow j c k hk
   ·rename_i h1;rw[n5 (Ne.symm h1)]at hk;split at c
    ·cases c
    ·exact h.ow i c k hk
 ·rw[hl]at c b;split at c
  ·cases c
  ·split at b
   ·cases b
   ·rename_i h1 U;split at c
    ·rename_i R;subst R;rw[if_neg p]at b;rw[W4]at hk;rw[n5 (Ne.symm p)]at d;rw[J]at c;split at b
     ·cases b
     ·exact h.dj j i' U c b k hk d
    ·rename_i R;rw[n5 (Ne.symm R)]at hk;split at c
     ·cases c
     ·split at b
      ·rename_i h4;subst h4;rw[W4]at d;rw[J]at b;exact h.dj i j (fun I=>h1 I.symm) c b k hk d
      ·rename_i h4;rw[n5 (Ne.symm h4)]at d;split at b
       ·cases b
       ·exact h.dj i i' p c b k hk d
 ·rw[hn]at hi;rw[hl];split
  ·rfl
  ·split
   ·rename_i h1;subst h1;omega
   ·split
    ·rfl
    ·exact h.lt i hi
 ·rw[hl]at l m;split at l
  ·cases l
  ·split at l
   ·exact absurd l (z q i f)
   ·rename_i h1;split at l
    ·cases l
    ·rename_i hg;rw[o,n5 (Ne.symm h1)];split at m
     ·cases m
     ·split at m
      ·rename_i U;subst U;exact a1 r i f (by rw[d0K,if_neg hg];exact l) I F t xs m
      ·split at m
       ·cases m
       ·exact h.rf r q i f l I F t xs m
def H04 {D:Nat->Type}(s:St D)(id:Nat)(sh:Sh)(v:V D):(b0e s id sh v).nid=s.nid/\(b0e s id sh v).fr=s.fr/\(b0e s id sh v).n=s.n/\(b0e s id sh v).stk=s.stk/\∃t,(b0e s id sh v).th=t++s.th:=by
 have f:∀j,(mvT s id j sh).nid=s.nid/\(mvT s id j sh).fr=s.fr/\(mvT s id j sh).n=s.n/\(mvT s id j sh).stk=s.stk/\∃t,(mvT s id j sh).th=t++s.th:=fun j=>by
  unfold mvT;split
  ·exact⟨rfl,rfl,rfl,rfl,[(_,_)],rfl⟩
  ·split
   ·exact⟨rfl,rfl,rfl,rfl,[(_,_),(_,_)],rfl⟩
   ·obtain⟨h1,d,b,c,t,e⟩:=a0q (X9 id s.th) s;exact⟨h1,d,b,c,(j,.gone) :: (id,F0 s j) :: t,by show _ :: _ :: (H7 s id).th=_;unfold H7;rw[e];rfl⟩
 unfold b0e;split<;>first|exact f _|exact⟨rfl,rfl,rfl,rfl,[(_,_)],rfl⟩
def G0q (E:Env)(s:St E.D)(ρ:Nat->Value)(w:World)(th:List (Nat×Sh)):Prop:=∀p∈th,∀e F t,p.2=.X0 e F t->∀r i f,F0 s r=.rof p.1 i f->b06 w.heap (hd (ρ p.1)) F.length i f (ρ r)
def Tp.move (h:Tp E A s ρ S w){id:Nat}{sh:Sh}(k:id<s.nid){v:V E.D}{H:I0}{N:Nat}{S1:D0}(p:VS E ρ N H S1 v (hd (ρ id)))(m:∀e F t,sh=.X0 e F t->∀r i f,F0 s r=.rof id i f->b06 w.heap (hd (ρ id)) F.length i f (ρ r)):
  ∃ ρ1,Tp E A (b0e s id sh v) ρ1 S w/\(∀i,hd (ρ1 i)=hd (ρ i))/\∀r q i f,F0 (b0e s id sh v) r=.rof q i f->F0 s r=.rof q i f/\ρ1 r=ρ r:=by
 have u:∃ ρ1,Tp E A (s.at id .gone) ρ1 S w/\(∀i,hd (ρ1 i)=hd (ρ i))/\∀r q i f,F0 (s.at id .gone) r=.rof q i f->F0 s r=.rof q i f/\ρ1 r=ρ r:=by
  refine⟨ρ,h.gone id,fun _=>rfl,fun r q i f c=>?_⟩;rw[T8]at c;split at c
  ·cases c
  ·exact⟨c,rfl⟩
 have o:∀j,hd (ρ id)=hd (ρ j)->∃ ρ1,Tp E A (mvT s id j sh) ρ1 S w/\(∀i,hd (ρ1 i)=hd (ρ i))/\∀r q i f,F0 (mvT s id j sh) r=.rof q i f->F0 s r=.rof q i f/\ρ1 r=ρ r:=by
  intro j e;unfold mvT;split
  ·exact u
  ·rename_i d;have l:∀i,hd (C6 ρ id (ρ j) i)=hd (ρ i):=fun i=>by
    by_cases h1:i=id
    ·subst h1;rw[W4];exact e.symm
    ·rw[n5 h1]
   have g:∀q i f,F0 s j≠.rof q i f:=fun q i f e=>by rw[e]at d;cases d
   split
   ·rename_i hk;refine⟨C6 ρ id (ρ j),h.rename (G:=[]) rfl k rfl d e (fun r i f c C F t xs x=>?_),l,fun r q i f c=>?_⟩
    ·unfold u0e at hk;split at hk
     ·rename_i I z t3;rw[x]at hk;simp only at hk;rw[beq_eq]at hk;rw[<-hk];exact m _ _ _ rfl r i f c
     ·cases hk
    ·rw[T8,T8]at c;split at c
     ·cases c
     ·split at c
      ·exact absurd c (g q i f)
      ·rename_i h1;exact⟨c,n5 (Ne.symm h1)⟩
   ·refine⟨C6 ρ id (ρ j),h.rename (G:=X9 id s.th) rfl k rfl d e (fun r i f c=>?_),l,fun r q i f c=>?_⟩
    ·exact absurd rfl (l0T c).2
    ·rw[T8,T8]at c;split at c
     ·cases c
     ·split at c
      ·exact absurd c (g q i f)
      ·rename_i h1;exact⟨(l0T c).1,n5 (Ne.symm h1)⟩
 unfold b0e;split
 ·obtain⟨_,e⟩:=p.a0m;exact o _ e
 ·obtain⟨_,_,b,h1,y⟩:=p.b0O;exact o _ (by rw[h1,y];simp[D4])
 ·obtain⟨_,e⟩:=p.l0w;exact o _ e
 ·exact u
section
variable {A:E4}{s0 s s1:St E.D}{ρ0 ρ:Nat->Value}{S0 S:D0}{a0 a:Act}{as0 as:List Act}{w0 w:World}
def w0z {α β:Type}{now b:List (Nat×α)}{c:List (Nat×β)}(h:h0c now b c=true)(he:∃l,now=l++b){k:Nat}(hk:F4 c k=none){v:α}(d:F4 b k=some v):F4 now k=some v:=by
 obtain⟨l,rfl⟩:=he;have f:(l++b).take ((l++b).length-b.length)=l:=X'
 unfold h0c at h;rw[f,all_eq_true]at h;rw[m0B,j0s l k,d];intro p hp e;have:=h p hp;rw[e]at this;simp[d,hk]at this
def t0X {α:Type}:∀{l:List (Nat×α)} {k:Nat},k∉l.map Prod.fst->F4 l k=none:=fun {l k} h=>j0s l k fun p hp e=>h (List.mem_map.2 ⟨p,hp,e⟩)
def p0X:∀{l:List Nat},c0I l=true->l.Nodup
 |[],_=>List.nodup_nil
 |x :: l,h=>by
  simp only[c0I,Bool.and_eq_true,Bool.not_eq_true',List.any_eq_false]at h;refine nodup_cons.2 ⟨fun b=>?_,p0X h.2⟩;have:=h.1 x b;simp at this
def N7 (ρ:Nat->Value)(n0:Nat)(pl:List Value):Nat->Value:=fun i=>if i<n0 then ρ i else(pl[i-n0]?).getD undef
def Y6 {n0 i:Nat}{pl:List Value}(h:i<n0):N7 ρ n0 pl i=ρ i:=if_pos h
def j0V {n0 i:Nat}{pl:List Value}{v:Value}(h:pl[i]?=some v):N7 ρ n0 pl (n0+i)=v:=by
 unfold N7;rw[if_neg O',Nat.add_sub_cancel_left,h];rfl
def Tp.pack {A0:E4}(hH:∀i u,A.hda i u->i<s0.nid)(h0:Rp E A0 s0 ρ0 S0 a0 as0 w0)(h:Rp E A s1 ρ S a as w)(he:Ext s0 s1){b:List (Nat×Sh)}(hk:h0c s1.th s0.th b=true){ids:List (Option Nat)}(ho:M5 s1 ids)(ht:p0s s0.nid b (ids.filterMap fun x=>x)=true)
  {tl:List (Nat×Th E.D)} (hn:Y5 E (N7 ρ s0.nid (ids.map (place ρ))) (s0.nid+ids.length) w.heap S (Z0 s0 (b.map Prod.fst)) tl (ids.map (place ρ))):
  Tp E A ((Z0 s0 (b.map Prod.fst)).more tl (ids.map (place ρ)).length) (N7 ρ s0.nid (ids.map (place ρ))) S w/\
   ∀r q i f,F0 ((Z0 s0 (b.map Prod.fst)).more tl (ids.map (place ρ)).length) r=.rof q i f->r<s0.nid/\q<s0.nid/\F0 s1 r=.rof q i f:=by
 obtain⟨g1,g2,g3,g4,g5,g6⟩:=h01 (b.map Prod.fst) s0;have hlen:(ids.map (place ρ)).length=ids.length:=X'
 have I:((Z0 s0 (b.map Prod.fst)).more tl (ids.map (place ρ)).length).nid=s0.nid+ids.length:=by show _+_=_;rw[g1,hlen]
 simp only[p0s,Bool.and_eq_true,all_eq_true]at ht;obtain⟨R,b4⟩:=ht;have R:=p0X R;have low:∀j,j<s0.nid->F0 ((Z0 s0 (b.map Prod.fst)).more tl (ids.map (place ρ)).length) j=.gone\/
   (F0 ((Z0 s0 (b.map Prod.fst)).more tl (ids.map (place ρ)).length) j=F0 s0 j/\F0 s0 j=F0 s1 j/\F4 b j=none):=by
  intro j hj;rw[g0g _ _ _ _ (fun p hp=>by have:=hn.keys p hp;rw[g1]at this;omega)];obtain⟨k1,o⟩:=g0K (b.map Prod.fst) s0 j;cases hc:F4 b j with
  |some x=>
   refine .inl (k1 ?_)
   by_cases hm:j∈b.map Prod.fst
   ·exact hm
   ·rw[t0X hm]at hc;cases hc
  |none=>
   rcases o with o|o
   ·cases hw:F4 s0.th j with
    |none=>
     refine .inl (o.trans ?_);unfold F0;rw[hw]
    |some x=>
     refine .inr ⟨o,?_,rfl⟩;unfold F0;rw[hw,w0z hk he.th hc hw]
   ·exact .inl o
 have high:∀i,s0.nid+ids.length<=i->F0 ((Z0 s0 (b.map Prod.fst)).more tl (ids.map (place ρ)).length) i=.gone:=by
  intro i hi;rw[g0g _ _ _ _ (fun p hp=>by have:=hn.keys p hp;rw[g1,hlen]at this;omega)];obtain⟨k1,o⟩:=g0K (b.map Prod.fst) s0 i;rcases o with o|o
  ·rw[o];exact h0.lt i O'
  ·exact o
 have new:∀i,s0.nid<=i->i<s0.nid+ids.length->∃x,ids[i-s0.nid]?=some x/\N7 ρ s0.nid (ids.map (place ρ)) i=place ρ x:=by
  intro i h1 h2;have c:i-s0.nid<ids.length:=O'
  refine⟨ids[i-s0.nid],by simp[c],?_⟩;have:=j0V (ρ:=ρ) (n0:=s0.nid) (pl:=ids.map (place ρ)) (i:=i-s0.nid) (v:=place ρ ids[i-s0.nid]) (by simp[c]);rw[show s0.nid+(i-s0.nid)=i from O']at this;exact this
 have a1:∀i,Q1 (F0 ((Z0 s0 (b.map Prod.fst)).more tl (ids.map (place ρ)).length) i)=true->∀k,Bk (N7 ρ s0.nid (ids.map (place ρ)) i) k->
   ∃j,Q1 (F0 s1 j)=true/\Bk (ρ j) k/\((i<s0.nid/\j=i/\F4 b j=none)\/(s0.nid<=i/\ids[i-s0.nid]?=some (some j))):=by
  intro i d k g;rcases lt_or_ge i s0.nid with c|hge2
  ·rcases low i c with e|⟨e1,e2,e3⟩
   ·rw[e]at d;cases d
   ·rw[e1,e2]at d;rw[Y6 c]at g;exact⟨i,d,g,.inl ⟨c,rfl,e3⟩⟩
  ·rcases lt_or_ge i (s0.nid+ids.length)with hlt2|hge3
   ·obtain⟨x,hx,hp⟩:=new i hge2 hlt2;rw[hp]at g;cases x with
    |none=>cases g
    |some j=>exact⟨j,ho j (mem_of_getElem? hx),g,.inr ⟨hge2,hx⟩⟩
   ·rw[high i hge3]at d;cases d
 have inj:∀(i i':Nat) (j:Nat),i≠i'->ids[i]?=some (some j)->ids[i']?=some (some j)->False:=by
  intro i i' j b1 h1 h2;have:∀(l:List (Option Nat)) (p q:Nat),(l.filterMap fun x=>x).Nodup->p<q->l[p]?=some (some j)->l[q]?=some (some j)->False:=by
   intro l
   induction l with
   |nil=>intro p q _ _ hp;simp at hp
   |cons y l ih=>
    intro p q hl c0 hp hq;cases p with
    |zero=>
     simp at hp;subst hp;obtain⟨q',rfl⟩:∃q',q=q'+1:=⟨q-1,O'⟩
     simp only[List.getElem?_cons_succ]at hq;simp only[List.filterMap_cons,nodup_cons]at hl;exact hl.1 (mem_filterMap.2 ⟨some j,mem_of_getElem? hq,rfl⟩)
    |succ p=>
     obtain⟨q',rfl⟩:∃q',q=q'+1:=⟨q-1,O'⟩
     simp only[List.getElem?_cons_succ]at hp hq;refine ih p q' ?_ O' hp hq;cases y with
     |none=>simpa using hl
     |some z=>simp only[List.filterMap_cons,nodup_cons]at hl;exact hl.2
  rcases Nat.lt_or_gt_of_ne b1 with c|hgt
  ·exact this ids i i' R c h1 h2
  ·exact this ids i' i R hgt h2 h1
 have U:∀r q i f,F0 ((Z0 s0 (b.map Prod.fst)).more tl (ids.map (place ρ)).length) r=.rof q i f->r<s0.nid/\q<s0.nid/\F0 s1 r=.rof q i f:=by
  intro r q i f J;rcases lt_or_ge r s0.nid with c|hge2
  ·rcases low r c with e|⟨e1,e2,_⟩
   ·rw[e]at J;cases J
   ·exact⟨c,h0.c0a (by rw[<-e1];exact J),by rw[<-e2,<-e1];exact J⟩
  ·rcases lt_or_ge r (s0.nid+ids.length)with hlt2|hge3
   ·obtain⟨x,hx,hp⟩:=new r hge2 hlt2;have:=(hn.th (r-s0.nid) (place ρ x) (by rw[List.getElem?_map,hx];rfl)).2;rw[g1,show s0.nid+(r-s0.nid)=r from O',J]at this;cases this
   ·rw[high r hge3]at J;cases J
 refine⟨⟨h.cx,fun id=>?_,fun i d k g=>?_,fun i i' b1 d b2 k g b9=>?_,fun i hi=>high i (by rw[<-I];exact hi),fun r q i f J e F t xs hq=>?_,h.kp,fun i u ha=>⟨by rw[I];have:=hH i u ha;omega,by rw[Y6 (hH i u ha)];exact(h.hp i u ha).2⟩⟩,U⟩
 ·rw[I];rcases lt_or_ge id s0.nid with c|hge2
  ·rcases low id c with e|⟨e1,e2,e3⟩
   ·rw[e];trivial
   ·rw[e1,Y6 c];have h1:=h.th id;rw[<-e2]at h1;exact K3.cut (fun i hi=>by rw[Y6 hi]) (le_add_right _ _) (h0.th id) h1
  ·rcases lt_or_ge id (s0.nid+ids.length)with hlt2|hge3
   ·obtain⟨x,hx,hp⟩:=new id hge2 hlt2;have:=(hn.th (id-s0.nid) (place ρ x) (by rw[List.getElem?_map,hx];rfl)).1;rw[g1,show s0.nid+(id-s0.nid)=id from O']at this;rw[hp];exact this
   ·rw[high id hge3];trivial
 ·obtain⟨j,h1,h2,_⟩:=a1 i d k g;exact h.ow j h1 k h2
 ·obtain⟨j,h1,h2,h3⟩:=a1 i d k g;obtain⟨j',b7,b8,m⟩:=a1 i' b2 k b9
  by_cases b3:j=j'
  ·subst b3;rcases h3 with⟨h3,rfl,h5⟩|⟨h3,h5⟩
   ·rcases m with⟨m,b6,_⟩|⟨m,C⟩
    ·exact b1 b6
    ·have:=b4 j (mem_filterMap.2 ⟨some j,mem_of_getElem? C,rfl⟩);rw[h5]at this;simp at this;omega
   ·rcases m with⟨m,rfl,C⟩|⟨m,C⟩
    ·have:=b4 j (mem_filterMap.2 ⟨some j,mem_of_getElem? h5,rfl⟩);rw[C]at this;simp at this;omega
    ·exact inj _ _ j O' h5 C
  ·exact h.dj j j' b3 h1 b7 k h2 b8
 ·obtain⟨h1,b5,h3⟩:=U r q i f J;rcases low q b5 with e'|⟨e1,e2,_⟩
  ·rw[e']at hq;cases hq
  ·rw[Y6 b5,Y6 h1];exact h.rf r q i f h3 e F t xs (by rw[<-e2,<-e1];exact hq)
section
variable {A:E4}{s0 s s1:St E.D}{ρ0 ρ:Nat->Value}{S0 S:D0}{a0 a:Act}{as0 as:List Act}{w0 w:World}
def VT.app {n:Nat}{H:I0}:∀{l l':List (V E.D)} {us b:List Value},VT E ρ n H S l us->VT E ρ n H S l' b->VT E ρ n H S (l++l') (us++b)
 |[],l',us,b,h,d=>by unfold VT at h;subst h;exact d
 |v :: l,l',us,b,h,d=>by
  unfold VT at h;obtain⟨c,u,h1,rfl,e⟩:=h;rw[List.cons_append];unfold VT;exact⟨c,u++b,h1,rfl,VT.app e d⟩
def VT.map {n:Nat}{H:I0}{α:Type}{f:α->V E.D}{g:α->Value}:∀{l:List α},(∀p∈l,VS E ρ n H S (f p) (g p))->VT E ρ n H S (l.map f) (l.map g)
 |[],_=>by unfold List.map VT;rfl
 |p :: l,h=>by
  obtain⟨c,h1,d⟩:=h p X';rw[map_cons,map_cons];unfold VT;exact⟨c,_,h1,by rw[d],VT.map fun q b=>h q (by simp[b])⟩
def VT.k0c {n:Nat}{H:I0}:∀{us b:List Value} {l:List (V E.D)},VT E ρ n H S l (us++b)->∃d e,l=d++e/\d.length=us.length/\VT E ρ n H S d us/\VT E ρ n H S e b
 |[],b,l,h=>⟨[],l,rfl,rfl,by unfold VT;rfl,h⟩
 |u :: us,b,[],h=>by unfold VT at h;simp at h
 |u :: us,b,v :: l,h=>by
  unfold VT at h;obtain⟨c,q,h1,f,j⟩:=h;simp only[List.cons_append,List.cons.injEq]at f;obtain⟨rfl,rfl⟩:=f;obtain⟨d,e,rfl,g,i,k⟩:=VT.k0c j;exact⟨v :: d,e,rfl,by simp[g],by unfold VT;exact⟨c,us,h1,rfl,i⟩,k⟩
def Rp.b08 (h:Rp E A s ρ S a as w)(t:Nat):VS E ρ s.nid w.heap S (b08 s t) (a.tmps.getD t undef):=by
 unfold Go.X.b08;cases b:F4 s.fr t with
 |some v=>exact h.get b
 |none=>exact VS.undef _
def Rp.thV (h:Rp E A s ρ S a as w)(id:Nat):VS E ρ s.nid w.heap S (thV s id) (hd (ρ id)):=by
 have g:=h.th id;have d:F0 s id≠.gone->id<s.nid:=h.i7;unfold Go.X.thV;cases hl:F0 s id with
 |gone=>exact VS.undef _
 |box T l=>
  rw[hl]at g d;obtain⟨b,cs,k,_⟩:=g;have:=VS.pb (E:=E) (ρ:=ρ) (b:=b) (S:=S) (H:=w.heap) (off:=0) (p:=[]) (d X') trivial (by rw[k];rfl);rw[k];simpa[D4,Go.X.hd]using this
 |fzb T l=>
  rw[hl]at g d;obtain⟨b,cs,k,_⟩:=g;have:=VS.pb (E:=E) (ρ:=ρ) (b:=b) (S:=S) (H:=w.heap) (off:=0) (p:=[]) (d X') trivial (by rw[k];rfl);rw[k];simpa[D4,Go.X.hd]using this
 |lst e t xs=>
  rw[hl]at g d;obtain⟨u,c,j⟩:=E5.form g;exact VS.of rfl (by unfold VC;exact⟨d X',by rw[j];rfl,rfl⟩)
 |fz t xs=>
  rw[hl]at g d;obtain⟨u,c,j,_⟩:=g;exact VS.of rfl (by unfold VC;exact⟨d X',by rw[j];rfl,rfl⟩)
 |map m=>
  rw[hl]at g d;obtain⟨r,es,cl,j,_⟩:=g;exact VS.of rfl (by unfold VC;exact⟨d X',by rw[j];rfl,rfl⟩)
 |X0 e F t xs o=>
  rw[hl]at g d;obtain⟨cs,g⟩:=g;obtain⟨u,c,j⟩:=Row.form g.row;exact VS.of rfl (by unfold VC;exact⟨d X',by rw[j];rfl,rfl⟩)
 |rof q i f=>
  rw[hl]at g d;exact VS.of rfl (by unfold VC;exact⟨d X',by rw[g.2.2];exact g.2.1,rfl⟩)
def q0X {n:Nat}{H:I0}{t:Nat->Value}:∀(sl:List (Nat×Sh)) (l:List (V E.D)) (u:St E.D),VT E ρ n H S l (sl.map fun p=>t p.1)->(∀k v,k∉sl.map Prod.fst->F4 u.fr k=some v->VS E ρ n H S v (t k))->
  (∀k v,F4 (e8 u sl l).fr k=some v->VS E ρ n H S v (t k))/\(e8 u sl l).th=u.th/\(e8 u sl l).nid=u.nid/\(e8 u sl l).n=u.n/\(e8 u sl l).stk=u.stk/\∃q,(e8 u sl l).fr=q++u.fr
 |[],l,u,_,hu=>⟨fun k v h=>hu k v X' (by cases l<;>exact h),by cases l<;>rfl,by cases l<;>rfl,by cases l<;>rfl,by cases l<;>rfl,[],by cases l<;>rfl⟩
 |(i,sh) :: sl,[],u,hl,_=>by unfold VT at hl;simp at hl
 |(i,sh) :: sl,v :: l,u,hl,hu=>by
  rw[map_cons]at hl;unfold VT at hl;obtain⟨c,us,h1,b,g⟩:=hl;simp only[List.cons.injEq]at b;obtain⟨b,rfl⟩:=b;obtain⟨r,o,x,f,m,q,j⟩:=q0X sl l (u.put (some i) v) g (fun k w hk hw=>by
   simp only[St.put,a0X]at hw;split at hw
   ·rename_i e;simp only[Option.some.injEq]at hw;subst e;subst hw;exact⟨c,h1,b⟩
   ·rename_i e;exact hu k w (by rw[map_cons,mem_cons];rintro(d|d);exact e d.symm;exact hk d) hw)
  exact⟨r,o,x,f,m,q++[(i,v)],by show(e8 (u.put (some i) v) sl l).fr=_;rw[j];simp[St.put]⟩
def m0K {N:Nat}{H:I0}{S1:D0}:∀(th:List (Nat×Sh)) (l:List (V E.D)) (u:St E.D) (ρ:Nat->Value),Tp E A u ρ S w->(∀p∈th,p.1<u.nid)->G0q E u ρ w th->VT E ρ N H S1 l (th.map fun p=>hd (ρ p.1))->
  ∃ ρ1,Tp E A (a0I u th l) ρ1 S w/\(∀i,hd (ρ1 i)=hd (ρ i))/\(a0I u th l).fr=u.fr/\(a0I u th l).nid=u.nid/\(a0I u th l).n=u.n/\(a0I u th l).stk=u.stk/\∃q,(a0I u th l).th=q++u.th
 |[],l,u,ρ,h,_,_,_=>⟨ρ,by cases l<;>exact h,fun _=>rfl,by cases l<;>rfl,by cases l<;>rfl,by cases l<;>rfl,by cases l<;>rfl,[],by cases l<;>rfl⟩
 |(i,sh) :: th,[],u,ρ,_,_,_,hl=>by unfold VT at hl;simp at hl
 |(i,sh) :: th,v :: l,u,ρ,h,hi,hrf,hl=>by
  rw[map_cons]at hl;unfold VT at hl;obtain⟨c,us,h1,b,m⟩:=hl;simp only[List.cons.injEq]at b;obtain⟨b,rfl⟩:=b;obtain⟨m1,m2,m3,m4,q,m5⟩:=H04 u i sh v;obtain⟨ρ1,g1,g2,g3⟩:=h.move (hi (i,sh) X') (sh:=sh) ⟨c,h1,b⟩ (hrf (i,sh) X');have g:VT E ρ1 N H S1 l (th.map fun p=>hd (ρ1 p.1)):=by
   have e:(th.map fun p=>hd (ρ1 p.1))=th.map fun p=>hd (ρ p.1):=List.map_congr_left fun p _=>g2 p.1;rw[e];exact m.mono (fun i _=>g2 i) (le_refl _) (P0.refl _ _)
  obtain⟨ρ2,y,J,x,z,k,C,U,R⟩:=m0K th l (b0e u i sh v) ρ1 g1 (fun p hp=>by rw[m1];exact hi p (by simp[hp])) (fun p hp e F t d r j f o=>by
   obtain⟨e1,I⟩:=g3 r p.1 j f o;rw[g2,I];exact hrf p (by simp[hp]) e F t d r j f e1) g
  exact⟨ρ2,y,fun i=>(J i).trans (g2 i),x.trans m2,z.trans m1,k.trans m3,C.trans m4,U++q,by show(a0I (b0e u i sh v) th l).th=_;rw[R,m5];simp⟩
def s0e {s:St E.D}{e:Nat}{F:List Nat}{t:U}:∀(cs:List Sh) (l:List (V E.D)) (g:Pk (J4 E.D cs)),W7 E s cs l=some g->∀(i:Nat) (v:V E.D),cs[i]?=some (.X0 e F t)->l[i]?=some v->∃d,d0M E s e F t v=some d
 |[],_,_,_,i,_,hi,_=>by simp at hi
 |x :: r,l,g,h,i,v,hi,hv=>by
  unfold W7 at h;split at h<;>try cases h
  rename_i k l';split at h<;>try cases h
  rename_i m a j b c f;cases i with
  |zero=>
   obtain rfl:x=.X0 e F t:=Option.some.inj hi;obtain rfl:k=v:=Option.some.inj hv;unfold rd at c;exact⟨_,c⟩
  |succ i=>exact s0e r l' _ f i v (by simpa using hi) (by simpa using hv)
def C0r {s s1:St E.D}{id e:Nat}{F:List Nat}{t:U}{d:Pk (List (Den E.D t))}(h:d0M E s1 e F t (thV s id)=some d):∃xs,F0 s1 id=.X0 e F t xs none:=by
 unfold thV at h;split at h<;>simp only[d0M]at h<;>first|(cases h;done)|skip
 all_goals
  split at h<;>try cases h
  rename_i hl;split at h<;>try cases h
  rename_i he b;rw[Bool.and_eq_true,beq_eq,beq_iff_eq]at he;obtain⟨rfl,rfl⟩:=he;obtain⟨c,b⟩:=a0u b;subst c;exact⟨_,hl⟩
def d0N (hE:T1 E){A0:E4}(hH:∀i u,A.hda i u->i<s0.nid)(h0:Rp E A0 s0 ρ0 S0 a0 as0 w0)(h:Rp E A s ρ S a as w)(he:Ext s0 s){c:Cut}{x:g0F E.D c}(hp:b0E E s0 s c=some x){R:Type}{r:R}{k:St E.D->Option R}(hu:c0A E s0 c x k=some r):
  ∃u ρ1 S1,k u=some r/\Rp E A u ρ1 S1 a as w/\Ext s0 u/\∀k,S1 k->S k:=by
 unfold b0E at hp;simp only at hp;split at hp<;>try cases hp
 rename_i s1 hf;split at hp<;>try cases hp
 rename_i ids x' b2;split at hp<;>try cases hp
 rename_i b6;simp only[Bool.and_eq_true]at b6;obtain⟨⟨⟨⟨⟨e2,c8⟩,c9⟩,e5⟩,h4⟩,e9⟩:=b6;obtain⟨S1,U,m,b9,e7,e6⟩:=a0g hE _ s _ s1 hf S h;have I:=he.trans b9;have c7:VT E ρ s1.nid w.heap S1 (c.sl.map (fun p=>b08 s p.1)++c.th.map (fun p=>thV s p.1)) (c.sl.map (fun p=>a.tmps.getD p.1 undef)++c.th.map (fun p=>hd (ρ p.1))):=by
  rw[e6];exact(VT.map fun p _=>(h.b08 p.1).d0h U).app (VT.map fun p _=>(h.thV p.1).d0h U)
 obtain⟨c6,b4⟩:=f0A hE m.th c.shs _ ⟨ids,x⟩ _ b2 c7;obtain⟨g1,g2,g3,g4,g5,g6⟩:=h01 (c.th.map Prod.fst) s0;unfold c0A at hu;have hlen:(ids.map (place ρ)).length=ids.length:=X'
 obtain⟨h5,tl,b7,b1,c4⟩:=g0k (ρ:=N7 ρ s0.nid (ids.map (place ρ))) (N:=s0.nid+ids.length) c.shs x _ _ (Z0 s0 (c.th.map Prod.fst)) _ c6 hu (fun i v hi=>by rw[g1];exact j0V hi) (by rw[g1,hlen];exact le_refl _);obtain⟨b,J⟩:=Tp.pack hH h0 m I c8 b4 c9 c4;obtain⟨z,l2,rfl,b8,c0,e3⟩:=b1.k0c;have hd:(z++l2).drop c.sl.length=l2:=by
  have:z.length=c.sl.length:=by simpa using b8
  rw[<-this];simp
 have o:((Z0 s0 (c.th.map Prod.fst)).more tl (ids.map (place ρ)).length).nid=s0.nid+ids.length:=by show _+_=_;rw[g1,hlen]
 have b3:e8 ((Z0 s0 (c.th.map Prod.fst)).more tl (ids.map (place ρ)).length) c.sl (z++l2)=e8 ((Z0 s0 (c.th.map Prod.fst)).more tl (ids.map (place ρ)).length) c.sl z:=by
  have:∀(sl:List (Nat×Sh)) (l l':List (V E.D)) (u:St E.D),l.length=sl.length->e8 u sl (l++l')=e8 u sl l:=by
   intro sl
   induction sl with
   |nil=>
    intro l l' u hl;have:l=[]:=List.eq_nil_of_length_eq_zero hl;subst this;cases l'<;>rfl
   |cons p sl ih=>
    intro l l' u hl;cases l with
    |nil=>simp at hl
    |cons v l=>
     obtain⟨i,sh⟩:=p;show e8 (u.put (some i) v) sl (l++l')=e8 (u.put (some i) v) sl l;exact ih l l' _ (by simpa using hl)
  exact this _ _ _ _ (by simpa using b8)
 rw[hd,b3]at b7;have y:((Z0 s0 (c.th.map Prod.fst)).more tl (ids.map (place ρ)).length).fr=s0.fr:=g2;obtain⟨q1,q2,q3,q4,q5,q6,q7⟩:=q0X (t:=fun k=>a.tmps.getD k undef) c.sl z ((Z0 s0 (c.th.map Prod.fst)).more tl (ids.map (place ρ)).length) c0 (fun k v hk hv=>by
  rw[y]at hv;have h2:=w0z e2 I.fr (t0X hk) hv;exact VS.cut (fun i hi=>by rw[Y6 hi]) (le_add_right _ _) (h0.get hv) (m.get h2))
 have a1:Tp E A (e8 ((Z0 s0 (c.th.map Prod.fst)).more tl (ids.map (place ρ)).length) c.sl z) (N7 ρ s0.nid (ids.map (place ρ))) S1 w:=by
  have d:∀i,F0 (e8 ((Z0 s0 (c.th.map Prod.fst)).more tl (ids.map (place ρ)).length) c.sl z) i=F0 ((Z0 s0 (c.th.map Prod.fst)).more tl (ids.map (place ρ)).length) i:=fun i=>by unfold F0;rw[q2]
  refine⟨b.cx,fun i=>?_,fun i hi=>?_,fun i j c3 hi hj=>?_,fun i hi=>?_,fun r q i f hr e F t xs hq=>?_,b.kp,fun i u ha=>⟨by rw[q3];exact(b.hp i u ha).1,(b.hp i u ha).2⟩⟩
  ·rw[d,q3];exact b.th i
  ·rw[d]at hi;exact b.ow i hi
  ·rw[d]at hi hj;exact b.dj i j c3 hi hj
  ·rw[d];rw[q3]at hi;exact b.lt i hi
  ·rw[d]at hr hq;exact b.rf r q i f hr e F t xs hq
 have C:∀p∈c.th,p.1<s0.nid:=fun p hp=>by
  have:=all_eq_true.1 e5 p hp
  rwa [Nat.blt_eq]at this
 obtain⟨ρ2,m1,m0,m2,m3,m4,m5,m6,m7⟩:=m0K (N:=s0.nid+ids.length) (H:=w.heap) (S1:=S1) c.th l2 _ _ a1 (fun p hp=>by rw[q3,o];have:=C p hp;omega) (fun p hp e F t c5 r i f hr=>by
  have d:F0 (e8 ((Z0 s0 (c.th.map Prod.fst)).more tl (ids.map (place ρ)).length) c.sl z) r=F0 ((Z0 s0 (c.th.map Prod.fst)).more tl (ids.map (place ρ)).length) r:=by unfold F0;rw[q2]
  rw[d]at hr;obtain⟨z1,z2,z3⟩:=J r p.1 i f hr;rw[Y6 z1,Y6 z2];obtain⟨kk,b5⟩:=List.getElem?_of_mem hp;obtain⟨h3,e4⟩:=s0e (e:=e) (F:=F) (t:=t) c.shs _ _ b2 (c.sl.length+kk) (thV s p.1) (by unfold Cut.shs;rw[List.getElem?_append_right X'];simp[b5,c5]) (by rw[List.getElem?_append_right X'];simp[b5]);obtain⟨xs,e1⟩:=C0r e4;exact m.rf r p.1 i f z3 e F t xs e1) (by
  have:c.th.map (fun p=>Go.X.hd (N7 ρ s0.nid (ids.map (place ρ)) p.1))=c.th.map (fun p=>Go.X.hd (ρ p.1)):=List.map_congr_left fun p hp=>by rw[Y6 (C p hp)]
  rw[this];exact e3)
 have g:=m3.trans (q3.trans o);refine⟨_,_,S1,b7,⟨m1.cx,⟨?_,h.fr.defers,fun t v ht=>?_⟩,?_,m1.th,m1.ow,m1.dj,m1.lt,m1.rf,m1.kp,m1.hp⟩,⟨?_,?_,?_,?_,?_⟩,U⟩
 ·rw[m4,q4];show a.tmps.size=(Z0 s0 (c.th.map Prod.fst)).n;rw[g3,h.fr.size,he.n]
 ·rw[g];rw[m2]at ht;exact(q1 t v ht).mono (fun i _=>m0 i) (le_refl _) (P0.refl _ _)
 ·rw[g,m5,q5];show a0t E _ _ _ _ (Z0 s0 (c.th.map Prod.fst)).stk as;rw[g4];have:=m.stk;rw[I.stk]at this;exact a0t.cut (fun i hi=>by rw[m0,Y6 hi]) (le_add_right _ _) h0.stk this
 ·rw[m4,q4];exact g3
 ·rw[m2,q7];exact⟨q6,by rw[y]⟩
 ·rw[m7,q2];exact⟨m6++(tl++g5),by show _=_ ;simp[St.more,g6]⟩
 ·rw[m5,q5];exact g4
 ·rw[g];exact le_add_right _ _
section
variable {A:E4}{s0 s:St E.D}{ρ0 ρ:Nat->Value}{S0 S:D0}{a0 a:Act}{as0 as:List Act}{w0 w:World}
def Ex.k0F:∀{e f:Ex},Ex.eq e f=true->e=f
 |.nrm,.nrm,_=>rfl
 |.ex i,.ex j,h=>by have h:Nat.beq i j=true:=h;rw[beq_eq]at h;rw[h]
 |.ret,.ret,_=>rfl
 |.nrm,.ex _,h=>by cases h
 |.nrm,.ret,h=>by cases h
 |.ex _,.nrm,h=>by cases h
 |.ex _,.ret,h=>by cases h
 |.ret,.nrm,h=>by cases h
 |.ret,.ex _,h=>by cases h
def p0T (j:T1 E){p:E4}(hH:∀i u,A.hda i u->i<s0.nid)(m:Rp E p s0 ρ0 S0 a0 as0 w0)(h:Rp E A s ρ S a as w)(he:Ext s0 s){e:Ex}{R:Type}{r:R}{k:Ex->St E.D->Option R}:∀(xs:List (Ex×Cut)) (d:h0p E.D xs),c0Z E s0 e s xs=some d->resume E s0 k xs d=some r->
  ∃u ρ1 S1,k e u=some r/\Rp E A u ρ1 S1 a as w/\Ext s0 u
 |[],d,hp,_=>by cases d
 |[x],d,hp,hr=>by
  unfold c0Z at hp;split at hp<;>try cases hp
  rename_i c;have f:=Ex.k0F c;unfold resume at hr;obtain⟨u,ρ1,S1,h1,l,g,_⟩:=d0N j hH m h he hp hr;exact⟨u,ρ1,S1,by rw[<-f];exact h1,l,g⟩
 |x :: y :: xs,d,hp,hr=>by
  unfold c0Z at hp;split at hp
  ·rename_i c;have f:=Ex.k0F c;split at hp<;>try cases hp
   rename_i b o;obtain⟨u,ρ1,S1,h1,l,g,_⟩:=d0N j hH m h he o (show c0A E s0 x.2 b (k x.1)=some r from hr);exact⟨u,ρ1,S1,by rw[<-f];exact h1,l,g⟩
  ·split at hp<;>try cases hp
   rename_i b o;exact p0T j hH m h he (y :: xs) b o hr
end
end
end
end
end
