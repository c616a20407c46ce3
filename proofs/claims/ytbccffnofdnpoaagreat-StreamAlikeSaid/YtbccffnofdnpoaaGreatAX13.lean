/- P. Its conditions: none. -/
import Derived.Test.YtbccffnofdnpoaaGreatAX12
open Nat (lt_or_ge le_refl beq_eq)
set_option linter.all false
theorem Go.Y' {P:Prop}(h:P:=by kernel_rfl):P:=h
namespace Go.X
open Go.V Go.RowKit
def n0O (pl:List Value):Prop:=∀(i j:Nat) (v b:Value),i≠j->pl[i]?=some v->pl[j]?=some b->∀k,Bk v k->¬Bk b k
def U8 (pl:List Value):E0:=fun k=>∃v∈pl,Bk v k
def N0 (E:Env)(c:Sm E.D):Prop:=∀(w:World) (S:E0) (us pl:List Value) (x:F5 E.D c.ins) (y:F5 E.D (c.res :: c.back.map Prod.snd)),c.m x=some y->G3 E w.heap S c.ins x us pl->
 (∀b,S b->b<w.heap.size)->(∀b,U8 pl b->S b)->n0O pl->Calls E.P c.f us.toArray w fun e w1=>∃v S1 d,e=.returned v/\G3 E w1.heap S1 (c.res :: c.back.map Prod.snd) y (v :: c.back.map fun p=>us.getD p.1 undef) d/\
  E9 (U8 pl) w w1/\Y0 w.heap S w1.heap S1/\(∀b,S b->¬U8 pl b->S1 b)/\(∀b,S1 b->b<w1.heap.size)/\n0O d/\∀b,U8 d b->S1 b/\(U8 pl b\/w.heap.size<=b)
section
variable {E:Env}{A:A5}{s:St E.D}{ρ:Nat->Value}{S:E0}{a:Act}{as:List Act}{w:World}
theorem w0w {j:Nat}:∀(l:List (Option Nat)) (p q:Nat),(l.filterMap fun x=>x).Nodup->p<q->l[p]?=some (some j)->l[q]?=some (some j)->False:=by
 intro l
 induction l with
 |nil=>simp
 |cons y l ih=>
  grind
theorem A0h (h:Rp E A s ρ S a as w){ids:List (Option Nat)}(g:G6 s ids)(c:d0n (ids.filterMap fun x=>x)=true):n0O (ids.map (place ρ)):=by
 have c:=p04 c;intro i j v o e hi l k hk b;rw[List.getElem?_map]at hi l;obtain⟨x,m,rfl⟩:=Option.map_eq_some_iff.1 hi;obtain⟨n,f,rfl⟩:=Option.map_eq_some_iff.1 l;cases x with
 |none=>cases hk
 |some p=>
  cases n with
  |none=>cases b
  |some q=>
   by_cases d:p=q
   ·rcases Nat.lt_or_gt_of_ne e with h1|h1
    ·grind [w0w]
    grind [w0w]
   ·exact h.dj p q d (g p (List.mem_of_getElem? m)) (g q (List.mem_of_getElem? f)) k hk b
def i0r {ids:List (Option Nat)}{k:Nat}(h:U8 (ids.map (place ρ)) k):∃id,id∈(ids.filterMap fun x=>x)/\some id∈ids/\Bk (ρ id) k:=by
 obtain⟨v,c,hk⟩:=h;obtain⟨x,b,rfl⟩:=List.mem_map.1 c;cases x with
 |none=>cases hk
 |some id=>exact⟨id,List.mem_filterMap.2 ⟨some id,b,rfl⟩,b,hk⟩
theorem Rp.after (h:Rp E A s ρ S a as w){ids:List (Option Nat)}(ho:G6 s ids){w1:World}{S2:E0}{d:List Value}(hb:E9 (U8 (ids.map (place ρ))) w w1)(hk:Y0 w.heap S w1.heap S2)(hs:∀b,S b->¬U8 (ids.map (place ρ)) b->S2 b)
  (b3:∀b,S2 b->b<w1.heap.size) (c8:n0O d) (c4:∀b,U8 d b->S2 b/\(U8 (ids.map (place ρ)) b\/w.heap.size<=b)) {tl:List (Nat×Th E.D)}
  (hn:X6 E (V7 ρ s.nid d) (s.nid+d.length) w1.heap S2 (L1 s (ids.filterMap fun x=>x)) tl d):Rp E A ((L1 s (ids.filterMap fun x=>x)).more tl d.length) (V7 ρ s.nid d) S2 a as w1:=by
 obtain⟨g1,g2,g3,g4,g5,g6⟩:=i0J (ids.filterMap fun x=>x) s;have R:((L1 s (ids.filterMap fun x=>x)).more tl d.length).nid=s.nid+d.length:=by show _+_=_;rw[g1]
 have hw:∀k,U8 (ids.map (place ρ)) k->S k/\¬A.S0 k/\Wr A.W0 A.w0 k:=fun k hk=>by
  obtain⟨id,_,h2,h3⟩:=i0r hk;exact h.ow id (ho id h2) k h3
 have low:∀j,j<s.nid->G0 ((L1 s (ids.filterMap fun x=>x)).more tl d.length) j=.gone\/(G0 ((L1 s (ids.filterMap fun x=>x)).more tl d.length) j=G0 s j/\(E2 (G0 s j)=true->j∉ids.filterMap fun x=>x)):=by
  intro j hj;rw[f0T _ _ _ _ (fun p hp=>by have:=hn.keys p hp;omega)]
  grind [j0e]
 have high:∀i,s.nid+d.length<=i->G0 ((L1 s (ids.filterMap fun x=>x)).more tl d.length) i=.gone:=by
  intro i hi;rw[f0T _ _ _ _ (fun p hp=>by have:=hn.keys p hp;omega)];obtain⟨k1,k2⟩:=j0e (ids.filterMap fun x=>x) s i;rcases k2 with k2|k2
  ·rw[k2];exact h.lt i O'
  omega
 have U:∀j,E2 (G0 s j)=true->(j∉ids.filterMap fun x=>x)->∀k,Bk (ρ j) k->¬U8 (ids.map (place ρ)) k:=by
  intro j hj hm k hk hB;obtain⟨id,h1,h2,h3⟩:=i0r hB;have:id≠j:=by grind
  exact h.dj id j this (ho id h2) hj k h3 hk
 have live:∀j,E2 (G0 s j)=true->∀k,Bk (ρ j) k->k<w.heap.size:=fun j hj k hk=>(h.th j).live hj k hk;have new:∀i,s.nid<=i->i<s.nid+d.length->∃v,d[i-s.nid]?=some v/\V7 ρ s.nid d i=v:=by
  intro i h1 h2;have b3:i-s.nid<d.length:=O'
  refine⟨d[i-s.nid],V',?_⟩;have:=o0D (ρ:=ρ) (n0:=s.nid) (pl:=d) (i:=i-s.nid) (v:=d[i-s.nid]) V'
  simp_all
 refine⟨⟨⟨hb.os.trans h.cx.bel.os,hb.tape.trans h.cx.bel.tape,hb.output.trans h.cx.bel.output,Nat.le_trans h.cx.bel.size hb.size,fun k h1 h2=>?_⟩,fun b c3=>hs b (h.cx.sub b c3) fun hB=>(hw b hB).2.1 c3,b3,h.cx.lt0⟩,?_,?_,fun id=>?_,fun i l k z=>?_,fun i I e3 l y k z J=>?_,fun i hi=>high i O',fun r q i f hr e F t xs hq=>?_,fun H1 S1 ha=>(h.kp H1 S1 ha).trans hk,fun i u ha=>⟨by rw[R];have:=(h.hp i u ha).1;omega,by rw[o7 (h.hp i u ha).1];exact(h.hp i u ha).2⟩⟩
 ·rw[hb.block k (Nat.lt_of_lt_of_le h1 h.cx.bel.size) (fun hB=>?_),h.cx.bel.block k h1 h2];rcases(hw k hB).2.2 with h3|h3
  ·grind
  ·omega
 ·rw[R];show b0H E _ _ _ _ (L1 s (ids.filterMap fun x=>x)).n (L1 s (ids.filterMap fun x=>x)).fr a;rw[g2,g3];exact h.fr.mono (fun i hi=>by rw[o7 hi]) (Nat.le_add_right _ _) hk
 ·rw[R];show a0F E _ _ _ _ (L1 s (ids.filterMap fun x=>x)).stk as;rw[g4];exact h.stk.mono (fun i hi=>by rw[o7 hi]) (Nat.le_add_right _ _) hk
 ·rw[R];rcases lt_or_ge id s.nid with g|C
  ·rcases low id g with e|⟨e1,e2⟩
   ·rw[e];trivial
   ·rw[e1,o7 g];exact M4.mono (fun i hi=>by rw[o7 hi]) (Nat.le_add_right _ _) hk (fun l b b2=>hb.block b (live id l b b2) (U id l (e2 l) b b2)) (h.th id)
  ·rcases lt_or_ge id (s.nid+d.length)with g|hge3
   ·obtain⟨v,hv,hp⟩:=new id C g;have:=(hn.th (id-s.nid) v hv).1
    simp_all
   ·rw[high id hge3];trivial
 ·rcases lt_or_ge i s.nid with g|C
  ·rcases low i g with e|⟨e1,e2⟩
   ·rw[e]at l;cases l
   ·rw[e1]at l;rw[o7 g]at z;obtain⟨k1,k2,k3⟩:=h.ow i l k z
    grind
  ·rcases lt_or_ge i (s.nid+d.length)with g|hge3
   ·obtain⟨v,hv,hp⟩:=new i C g;rw[hp]at z;obtain⟨k1,k2⟩:=c4 k ⟨v,List.mem_of_getElem? hv,z⟩;rcases k2 with k2|k2
    ·simp_all
    ·refine⟨k1,fun h0=>?_,.inr (Nat.le_trans h.cx.bel.size k2)⟩;have:=h.cx.lt k (h.cx.sub k h0);omega
   ·rw[high i hge3]at l;cases l
 ·have mix:∀i I,i<s.nid->s.nid<=I->E2 (G0 ((L1 s (ids.filterMap fun x=>x)).more tl d.length) i)=true->E2 (G0 ((L1 s (ids.filterMap fun x=>x)).more tl d.length) I)=true->
    Bk (V7 ρ s.nid d i) k->Bk (V7 ρ s.nid d I) k->False:=by
   intro i I g C l y z J;rcases low i g with e|⟨e1,e2⟩
   ·rw[e]at l;cases l
   ·rw[e1]at l;rw[o7 g]at z;rcases lt_or_ge I (s.nid+d.length)with hlt3|hge3
    ·obtain⟨v,hv,hp⟩:=new I C hlt3;rw[hp]at J;obtain⟨k1,k4⟩:=c4 k ⟨v,List.mem_of_getElem? hv,J⟩
     grind
    ·rw[high I hge3]at y;cases y
  rcases lt_or_ge i s.nid with hl|hl
  ·rcases lt_or_ge I s.nid with hl'|hl'
   ·rcases low i hl with e|⟨e1,e2⟩
    ·rw[e]at l;cases l
    ·rcases low I hl' with e'|⟨e1',e2'⟩
     ·rw[e']at y;cases y
     ·rw[e1]at l;rw[e1']at y;rw[o7 hl]at z;rw[o7 hl']at J;exact h.dj i I e3 l y k z J
   grind
  ·rcases lt_or_ge I s.nid with hl'|hl'
   ·exact mix I i hl' hl y l J z
   ·rcases lt_or_ge i (s.nid+d.length)with g|hge3
    ·rcases lt_or_ge I (s.nid+d.length)with hlt2'|hge3'
     ·obtain⟨v,hv,hp⟩:=new i hl g;obtain⟨v',c6,c5⟩:=new I hl' hlt2';rw[hp]at z;rw[c5]at J;exact c8 (i-s.nid) (I-s.nid) v v' O' hv c6 k z J
     ·rw[high I hge3']at y;cases y
    ·rw[high i hge3]at l;cases l
 ·have e4:r<s.nid/\G0 s r=.rof q i f:=by
   rcases lt_or_ge r s.nid with g|C
   ·rcases low r g with e'|⟨e1,_⟩
    ·rw[e']at hr;cases hr
    ·exact⟨g,by rw[<-e1];exact hr⟩
   ·rcases lt_or_ge r (s.nid+d.length)with g|hge3
    ·obtain⟨v,hv,hp⟩:=new r C g;have:=(hn.th (r-s.nid) v hv).2;rw[g1,show s.nid+(r-s.nid)=r from O',hr]at this;cases this
    ·rw[high r hge3]at hr;cases hr
  obtain⟨h1,h2⟩:=e4;have b4:=h.c0C h2;rcases low q b4 with e'|⟨e1,e2⟩
  ·rw[e']at hq;cases hq
  ·rw[e1]at hq;have a1:E2 (G0 s q)=true:=by rw[hq];rfl
   rw[o7 b4,o7 h1];obtain⟨b,o,m,c,k1,k2,k3,k4⟩:=h.rf r q i f h2 e F t xs hq;refine⟨b,o,m,c,k1,k2,k3,?_⟩;have b1:Bk (ρ q) b:=Bk.hd (by
    have ht:=h.th q;rw[hq]at ht;obtain⟨cs,ht⟩:=ht;have:=ht.row;rw[k1]at this ⊢;exact this.j0J O')
   rw[<-k4];unfold D2;rw[hb.block b (live q a1 b b1) (U q a1 (e2 a1) b b1)]
section
variable {E:Env}{A:A5}{s:St E.D}{ρ:Nat->Value}{S:E0}{a:Act}{as:List Act}{w:World}
theorem v08 {H:M0}{S g:E0}:∀{sh:Sh} {x:H6 E.D sh} {c pl:List Value},g06 sh=true->SR E H S sh x c pl->SR E H g sh x c pl:=by
 intro sh x c pl h f;cases sh with
 |any=>simp_all[SR]
 |d t=>cases t<;>first|(cases h;done)|(exact f)
 |own e t=>cases t<;>first|(cases h;done)|(exact f)
 |nil=>simp_all[SR]
 |nilp=>simp_all[SR]
 |kb b=>simp_all[SR]
 |_=>cases h
theorem o0O {H:M0}{S e:E0}:∀{l:List Sh} {x:F5 E.D l} {us pl:List Value},l.all g06=true->G3 E H S l x us pl->G3 E H e l x us pl
 |[],x,us,pl,_,h=>by simp_all[G3]
 |sh :: l,x,us,pl,hs,h=>by
  rw[List.all_cons,Bool.and_eq_true]at hs;obtain⟨c,u,b,p1,j,h1,g,d,f,i⟩:=h;exact⟨c,u,b,p1,j,h1,g,d,v08 hs.1 f,o0O hs.2 i⟩
theorem H0c {H:M0}{S b:E0}{sh:Sh}{x:H6 E.D sh}{c pl:List Value}(hs:o0g sh=true)(h:SR E H S sh x c pl):SR E H b sh x c pl:=by
 unfold o0g at hs
 grind [SR,o0O,v08]
theorem u0E {n:Nat}{H:M0}{v:V E.D}{i:Nat}(h:f0Y v=some i){u:Value}(e:VS E ρ n H S v u):u=hd (ρ i)/\i<n:=by
 obtain⟨c,d,rfl⟩:=e;unfold f0Y at h;split at h
 ·cases h;obtain⟨h1,_,rfl⟩:=d;exact⟨rfl,h1⟩
 ·obtain⟨h1,_,b,f,rfl⟩:=d
  simp_all[Q5,vl,O4,T4]
 ·cases h;obtain⟨h1,_,rfl⟩:=d;exact⟨rfl,h1⟩
 grind
theorem VT.at {n:Nat}{H:M0}:∀{l:List (V E.D)} {us:List Value},VT E ρ n H S l us->∀{j:Nat} {v:V E.D},l[j]?=some v->VS E ρ n H S v (us.getD j undef)
 |[],us,_,j,v,b=>by grind
 |x :: l,us,h,j,v,b=>by
  obtain⟨c,u,h1,rfl,d⟩:=h;cases j with
  |zero=>simp at b;subst b;exact⟨c,h1,rfl⟩
  |succ j=>simpa using VT.at d b
theorem u0o {D:Nat->Type}{args:List (V D)}:∀(l:List (Nat×Sh)),(i6 args l).length<=l.length
 |[]=>le_refl _
 |(j,sh) :: l=>by
  have:=u0o (args:=args) l
  grind [i6]
theorem q0Y {D:Nat->Type}{args:List (V D)}:∀(l:List (Nat×Sh)),(i6 args l).length=l.length->∀{f:Nat->Value} {us:List Value},(∀(j:Nat) v i,args[j]?=some v->f0Y v=some i->us.getD j undef=f i)->(i6 args l).map (fun p=>f p.1)=l.map fun p=>us.getD p.1 undef
 |[],_,f,us,_=>rfl
 |(j,sh) :: l,h,f,us,hf=>by
  have hl:=u0o (args:=args) l;unfold i6 at h ⊢;split at h
  ·rename_i v b;split at h
   ·rename_i i hi;rw[List.map_cons,List.map_cons,q0Y l (by simp_all) hf,hf j v i b hi]
   grind
  grind
theorem m07 {D:Nat->Type}{args:List (V D)}{n:Nat}:∀(l:List (Nat×Sh)),(∀(j:Nat) v i,args[j]?=some v->f0Y v=some i->i<n)->∀p∈i6 args l,p.1<n
 |[],_,p,hp=>by cases hp
 |(j,sh) :: l,h,p,hp=>by
  unfold i6 at hp;split at hp
  ·split at hp
   ·rcases List.mem_cons.1 hp with rfl|hp
    ·grind
    ·exact m07 l h p hp
   ·exact m07 l h p hp
  ·exact m07 l h p hp
def A0r {D:Nat->Type}:∀(l:List Nat) (s:St D),∃t,(L1 s l).th=t++s.th/\∀i∈l,∃p∈t,p.1=i
 |[],s=>⟨[],rfl,V'⟩
 |i :: l,s=>by
  obtain⟨t,h1,c⟩:=A0r l (s.at i .gone);refine⟨t++[(i,.gone)],by simp_all[L1,St.at],fun j b=>?_⟩;rcases List.mem_cons.1 b with rfl|b
  ·simp
  simp_all
theorem w0K {D:Nat->Type}:∀(l:List Nat) (s:St D),(a0M s l).nid=s.nid/\(a0M s l).fr=s.fr/\(a0M s l).n=s.n/\(a0M s l).stk=s.stk/\∃t,(a0M s l).th=t++s.th
 |[],s=>⟨rfl,rfl,rfl,rfl,[],rfl⟩
 |q :: l,s=>by
  obtain⟨h1,c,b,e,t,d⟩:=w0K l (S7 s q)
  grind [a0D,a0M,S7]
def Tp.u0d:∀(l:List Nat) {s:St E.D},Tp E A s ρ S w->Tp E A (a0M s l) ρ S w
 |[],_,h=>h
 |q :: l,s,h=>Tp.u0d l (s:=S7 s q) (h.v0D _)
theorem y0S {D:Nat->Type}{r q f:Nat}{i:Int}:∀{l:List Nat} {s:St D},G0 (a0M s l) r=.rof q i f->G0 s r=.rof q i f/\q∉l
 |[],s,h=>⟨h,V'⟩
 |q' :: l,s,h=>by
  obtain⟨h1,b⟩:=y0S (l:=l) (s:=S7 s q') h
  grind [t0q]
theorem L0u (hE:G2 E){c:Sm E.D}(hc:N0 E c){R:Type}{args:List (V E.D)}{k:K E R}{r:R}(hk:l0C E s c args k=some r)(h:Rp E A s ρ S a as w){us:List Value}(hv:VT E ρ s.nid w.heap S args us):Calls E.P c.f us.toArray w (p0F E A s ρ a as w k r):=by
 unfold l0C at hk;split at hk<;>try cases hk
 rename_i s1 hf;split at hk<;>try cases hk
 rename_i ids x e5;split at hk<;>try cases hk
 rename_i e1;rw[Bool.and_eq_true,beq_eq]at e1;obtain⟨e7,j4⟩:=e1;obtain⟨y,hy,hk⟩:=c0p hk;obtain⟨S1,a1,I,j3,k3,b2⟩:=a0w hE _ s _ s1 hf S h;have k4:VT E ρ s1.nid w.heap S1 args us:=by rw[b2];exact hv.mono (fun _ _=>rfl) (le_refl _) (Y0.less a1)
 obtain⟨h0,g⟩:=h0A hE I.th c.ins args ⟨ids,x⟩ us e5 k4;have o:G6 s ids:=fun id hi=>by rw[b0f _ s _ s1 hf id (g id hi)];exact g id hi
 refine(hc w S1 us (ids.map (place ρ)) x y hy h0 I.cx.lt (fun b m=>?_) (A0h I g e7)).mono ?_
 ·obtain⟨id,_,d,h3⟩:=i0r m;exact(I.ow id (g id d) b h3).1
 rintro e w1 ⟨v,S2,pl1,rfl,q1,q2,q3,q4,q5,q6,q7⟩
 have main:∀(sB:St E.D) (SB J:E0),Rp E A sB ρ SB a as w->Ext s sB->sB.fr=s.fr->sB.nid=s.nid->G6 sB ids->G3 E w1.heap J (c.res :: c.back.map Prod.snd) y (v :: c.back.map fun p=>us.getD p.1 undef) pl1->Y0 w.heap SB w1.heap J->(∀b,SB b->¬U8 (ids.map (place ρ)) b->J b)->
   (∀b,J b->b<w1.heap.size)->(∀b,S2 b->J b)->G9 E (L1 sB (ids.filterMap fun x=>x)) (c.res :: c.back.map Prod.snd) y (fun s2 l=>match l with
      |v :: l'=>k (a00 (a0M s2 ((i6 args c.back).map Prod.fst)) (i6 args c.back) l') v
      |[]=>none)=some r->p0F E A s ρ a as w k r (.returned v) w1:=by
  intro sB SB J hB U b1 k5 e3 p1 p2 p3 p4 p5 hk;obtain⟨g1,g2,g3,g4,g5,g6⟩:=i0J (ids.filterMap fun x=>x) sB;obtain⟨C,tl,j0,e2,e4⟩:=g0I (ρ:=V7 ρ sB.nid pl1) (N:=sB.nid+pl1.length) _ y _ _ (L1 sB (ids.filterMap fun x=>x)) _ p1 hk (fun i v hi=>by simp_all[o0D]) O';have hR:=Rp.after hB e3 q2 p2 p3 p4 q6 (fun b m=>⟨p5 b (q7 b m).1,(q7 b m).2⟩) e4;cases C with
  |nil=>simp_all
  |cons V C=>
   obtain⟨c0,k6,h1,d,h3⟩:=e2;simp only[List.cons.injEq]at d;obtain⟨d,rfl⟩:=d;have z:((L1 sB (ids.filterMap fun x=>x)).more tl pl1.length).nid=sB.nid+pl1.length:=by show _+_=_;rw[g1]
   have c6:∀(j:Nat) v i,args[j]?=some v->f0Y v=some i->us.getD j undef=hd (ρ i)/\i<s.nid:=fun j v i h1 d=>u0E d (hv.at h1);have e6:=q0Y (args:=args) c.back j4 (f:=fun i=>hd (ρ i)) (us:=us) fun j v i h1 d=>(c6 j v i h1 d).1;have b3:=m07 (args:=args) (n:=s.nid) c.back fun j v i h1 d=>(c6 j v i h1 d).2;have j1:k (a00 (a0M ((L1 sB (ids.filterMap fun x=>x)).more tl pl1.length) ((i6 args c.back).map Prod.fst)) (i6 args c.back) C) V=some r:=j0;obtain⟨c1,c2,c3,c4,ct,c5⟩:=w0K ((i6 args c.back).map Prod.fst) ((L1 sB (ids.filterMap fun x=>x)).more tl pl1.length);obtain⟨ρ2,m1,m0,m2,m3,m4,m5,m6,m7⟩:=p0r (N:=sB.nid+pl1.length) (H:=w1.heap) (S1:=J) (i6 args c.back) C _ _ (Tp.u0d ((i6 args c.back).map Prod.fst) hR.tp) (fun p hp=>by have:=b3 p hp;omega) (fun p hp e F t _ r i f hr=>absurd (List.mem_map.2 ⟨p,hp,rfl⟩) (y0S hr).2) (by
    have e:(i6 args c.back).map (fun p=>hd (V7 ρ sB.nid pl1 p.1))=(i6 args c.back).map (fun p=>hd (ρ p.1)):=List.map_congr_left fun p hp=>by rw[o7 (by have:=b3 p hp;omega)]
    rw[e,e6];exact h3)
   obtain⟨gt,e9,h6⟩:=A0r (ids.filterMap fun x=>x) sB;obtain⟨bt,h7⟩:=U.th;have b4:(a00 (a0M ((L1 sB (ids.filterMap fun x=>x)).more tl pl1.length) ((i6 args c.back).map Prod.fst)) (i6 args c.back) C).th=(m6++(ct++(tl++(gt++bt))))++s.th:=by
    rw[m7,c5];show m6++(ct++(tl++(L1 sB (ids.filterMap fun x=>x)).th))=_;rw[e9,h7];simp
   have j2:=hR.fr.mono (ρ1:=ρ2) (fun i _=>m0 i) (le_refl _) (Y0.refl _ _);have h8:=hR.stk.mono (ρ1:=ρ2) (fun i _=>m0 i) (le_refl _) (Y0.refl _ _);refine⟨v,rfl,_,V,ρ2,J,j1,⟨m1.cx,?_,?_,m1.th,m1.ow,m1.dj,m1.lt,m1.rf,m1.kp,m1.hp⟩,?_,⟨?_,?_,⟨_,b4⟩,?_,?_⟩,?_,fun b m hm=>?_⟩
   ·rw[m2,m3,m4,c1,c2,c3];exact j2
   ·rw[m3,m5,c1,c4];exact h8
   ·rw[m3,c1,z];exact VS.mono (fun i _=>m0 i) (le_refl _) (Y0.refl _ _) ⟨c0,h1,d⟩
   ·rw[m4,c3];show(L1 sB _).n=_;rw[g3,U.n]
   ·rw[m2,c2];show ∃l,(L1 sB _).fr=l++s.fr;rw[g2,b1];exact⟨[],rfl⟩
   ·rw[m5,c4];show(L1 sB _).stk=_;rw[g4,U.stk]
   ·rw[m3,c1,z];omega
   ·rw[m2,c2];show(L1 sB _).fr=_;rw[g2,b1]
   ·refine q2.block b m fun hB=>?_;obtain⟨id,i1,i2,i3⟩:=i0r hB;obtain⟨p,hp,e⟩:=h6 id i1;have c8:id<s.nid:=by
     rcases lt_or_ge id s.nid with h9|h9
     ·exact h9
     ·have:=o id i2;rw[h.lt id h9]at this;cases this
    exact hm id c8 (o id i2) (by rw[<-e];exact j0v b4 (by simp[hp])) i3
 cases q:(o0g c.res&&c.back.all fun p=>g06 p.2)with
 |false=>
  rw[q]at hk;exact main s1 S1 S2 I j3 k3 b2 g q1 q3 q4 q5 (fun _ h=>h) hk
 |true=>
  rw[q]at hk;rw[Bool.and_eq_true]at q;refine main s S (fun b=>S2 b\/(S b/\¬U8 (ids.map (place ρ)) b)) h (Ext.refl s) rfl rfl o ?_ ⟨q3.size,fun b m hS=>?_⟩ (fun b h1 d=>.inr ⟨h1,d⟩) (fun b m=>?_) (fun b m=>.inl m) hk
  ·unfold G3 at q1 ⊢;obtain⟨c0,u,k0,p1,p2,h1,d,h3,h4,h5⟩:=q1;refine⟨c0,u,k0,p1,p2,h1,d,h3,H0c q.1 h4,o0O ?_ h5⟩;rw[List.all_map];exact q.2
  ·obtain⟨k1,k2⟩:=q3.blk b m (fun h1=>hS (a1 b h1));exact⟨fun h1=>h1.elim k1 fun d=>hS d.1,k2⟩
  ·rcases m with m|m
   ·exact q5 b m
   ·exact Nat.lt_of_lt_of_le (h.cx.lt b m.1) q3.size
theorem i0i (b:G2 E){C:P3 E}(h:∀c∈C.sm,N0 E c):e0q E C:=by
 intro g args s c hl R k r hk A ρ S a as w us e d;have:∀l:List (Sm E.D),e0C E s args l g=some c->c∈l/\c.f=g:=by
  intro l
  induction l with
  |nil=>intro h;cases h
  |cons x l ih=>
   grind [e0C,beq_eq]
 grind [L0u]
section
variable (E:Env)
def x0k (b:St E.D)(c:List (Nat×Sh))(shs:List Sh)(v:V E.D):Option (F5 E.D shs):=
 let vs:=v :: c.map fun p=>thV b p.1
 match s7 E M8 b (c0V E b shs vs)with
 |some s1=>match l8 E s1 shs vs with
  |some ⟨ids,y⟩=>match d0n (ids.filterMap fun x=>x)with|true=>some y|false=>none
  |none=>none
 |none=>none
noncomputable def z0c (C:P3 E)(f:Nat):Inl E:=fun g args s k=>match e06 E g with
   |none=>none
   |some (fn,body)=>match Nat.ble args.length fn.ntmps with
    |false=>none
    |true=>mod E C f body (C.ann g) { s with n:=fn.ntmps,fr:=V9 args 0,stk:=(s.n,s.fr) :: s.stk } fun e s'=>match e with
     |.ex _=>none
     |.nrm=>leave E k fn s'
     |.ret=>leave E k fn s'
noncomputable def T0 (C:P3 E)(f:Nat)(ins:List Sh)(res:Sh)(back:List (Nat×Sh))(x:F5 E.D ins):Option (F5 E.D (res :: back.map Prod.snd)):=
 G9 E { n:=0,fr:=[],th:=[],nid:=0,stk:=[] } ins x fun s args=>match Nat.beq (i6 args back).length back.length with
  |true=>z0c E C M8 f args { s with n:=args.length,fr:=V9 args 0 } fun s' v=>x0k E s' (i6 args back) (res :: back.map Prod.snd) v
  |false=>none
end
section
variable {E:Env}
theorem z0u {D:Nat->Type}:∀(l:List (V D)) (i j:Nat) (v:V D),l[j]?=some v->C5 (V9 l i) (i+j)=some v
 |[],i,j,v,h=>by grind
 |x :: l,i,j,v,h=>by
  unfold V9;rw[a0R];cases j with
  |zero=>simp_all
  |succ j=>
   rw[if_neg O',show i+(j+1)=i+1+j from O']
   simp_all[z0u]
theorem h0U (J:G2 E){C:P3 E}(hs:e0q E C){c:Sm E.D}(hm:∀x y,c.m x=some y->T0 E C c.f c.ins c.res c.back x=some y):N0 E c:=by
 intro w S us pl x y hy e4 hS e7 e3;have U:=hm x y hy
 let ρ0:Nat->Value:=fun i=>(pl[i]?).getD undef
 obtain⟨args,tl,hk,z,o⟩:=g0I (ρ:=ρ0) (N:=0+pl.length) _ x us pl _ _ e4 U (fun i v hi=>by grind) (le_refl _);split at hk<;>try cases hk
 rename_i b4;rw[beq_eq]at b4;have b3:e0J E (z0c E C M8):=u0i J (u0F J hs (fun An=>M0o J (C:=P3.at E C An) hs) M8)
 let A:A5:={ w0:=w,W0:=U8 pl,S0:=fun b=>S b/\¬U8 pl b,anc:=fun H1 S1=>H1=w.heap/\S1=S }
 have g:∀id,(id<pl.length/\∃v,pl[id]?=some v/\ρ0 id=v/\M4 E ρ0 (0+pl.length) w.heap S (G0 ((({ n:=0,fr:=[],th:=[],nid:=0,stk:=[] }:St E.D)).more tl pl.length) id) v)\/G0 ((({ n:=0,fr:=[],th:=[],nid:=0,stk:=[] }:St E.D)).more tl pl.length) id=.gone:=by
  intro id;rcases lt_or_ge id pl.length with h1|h1
  ·have:=(o.th id pl[id] V').1
   grind
  ·refine .inr ?_;rw[f0T _ _ _ _ (fun p hp=>by have:=o.keys p hp;grind)];rfl
 have hlen:=z.length;have hR:Rp E A { (({ n:=0,fr:=[],th:=[],nid:=0,stk:=[] }:St E.D)).more tl pl.length with n:=args.length,fr:=V9 args 0 } ρ0 S { tmps:=us.toArray,defers:=[] } [] w:=by
  refine⟨⟨⟨rfl,rfl,rfl,le_refl _,fun _ _ _=>rfl⟩,fun b h=>h.1,hS,fun b h=>hS b h.1⟩,⟨O',rfl,fun t v ht=>?_⟩,trivial,fun id=>?_,fun id ho k hk=>?_,fun i j c4 hi hj k hk b2=>?_,fun id a1=>?_,fun r q i f hr=>?_,?_,fun _ _ h=>h.elim⟩
  ·obtain⟨u,h1,_,h3⟩:=r0v z 0 t v ht;have:us.toArray.getD t undef=u:=by
    simp_all
   rw[show({ tmps:=us.toArray,defers:=[] }:Act).tmps=us.toArray from rfl,this];exact h3
  ·show M4 E ρ0 (0+pl.length) w.heap S (G0 ((({ n:=0,fr:=[],th:=[],nid:=0,stk:=[] }:St E.D)).more tl pl.length) id) (ρ0 id);rcases g id with⟨_,v,_,I,h3⟩|h
   ·simp_all
   ·rw[h];trivial
  ·have ho:E2 (G0 ((({ n:=0,fr:=[],th:=[],nid:=0,stk:=[] }:St E.D)).more tl pl.length) id)=true:=ho;rcases g id with⟨_,v,h1,I,_⟩|h
   ·have hB:U8 pl k:=⟨v,List.mem_of_getElem? h1,by simp_all⟩
    exact⟨e7 k hB,fun h=>h.2 hB,.inl hB⟩
   ·rw[h]at ho;cases ho
  ·have hi:E2 (G0 ((({ n:=0,fr:=[],th:=[],nid:=0,stk:=[] }:St E.D)).more tl pl.length) i)=true:=hi;have hj:E2 (G0 ((({ n:=0,fr:=[],th:=[],nid:=0,stk:=[] }:St E.D)).more tl pl.length) j)=true:=hj;rcases g i with⟨_,v,h1,I,_⟩|h
   ·rcases g j with⟨_,v',e5,e6,_⟩|h'
    ·rw[I]at hk;rw[e6]at b2;exact e3 i j v v' c4 h1 e5 k hk b2
    ·rw[h']at hj;cases hj
   ·rw[h]at hi;cases hi
  ·have a1:0+pl.length<=id:=a1;rcases g id with⟨h1,_⟩|h
   ·omega
   ·exact h
  ·exfalso;have hr:G0 ((({ n:=0,fr:=[],th:=[],nid:=0,stk:=[] }:St E.D)).more tl pl.length) r=.rof q i f:=hr;rcases lt_or_ge r pl.length with h1|h1
   ·have:=(o.th r pl[r] V').2;rw[show({ n:=0,fr:=[],th:=[],nid:=0,stk:=[] }:St E.D).nid+r=r from Nat.zero_add r,hr]at this;cases this
   grind
  ·rintro H1 S1 ⟨rfl,rfl⟩
   exact Y0.refl _ _
 refine(b3 _ c.f args _ _ y hk A ρ0 S _ [] w us hR z).mono ?_
 rintro e w1 ⟨v,rfl,s1,V,ρ1,S1,h1,I,h3,h4,h5⟩
 unfold x0k at h1;simp only at h1;split at h1<;>try cases h1
 rename_i s2 hf;split at h1<;>try cases h1
 rename_i ids y' c5;split at h1<;>try cases h1
 rename_i c8;obtain⟨S2,b1,d,h6,h7,e9⟩:=a0w J _ s1 _ s2 hf S1 I;have c6:=q0Y (args:=args) c.back b4 (f:=fun i=>hd (ρ1 i)) (us:=us) fun j v i e1 e2=>by
  have h0:=I.fr.slot j v (by rw[h5];have:=z0u args 0 j v e1;simp_all);have:=(u0E e2 h0).1
  simp_all
 have c3:VT E ρ1 s2.nid w1.heap S2 (V :: (i6 args c.back).map fun p=>thV s1 p.1) (v :: c.back.map fun p=>us.getD p.1 undef):=by
  rw[e9,<-c6];obtain⟨c0,k1,k2⟩:=h3.d0S b1;unfold VT;exact⟨c0,_,k1,by grind,VT.map fun p _=>(I.thV p.1).d0S b1⟩
 obtain⟨R,l⟩:=h0A J d.th _ _ ⟨ids,y⟩ _ c5 c3;refine⟨v,S2,ids.map (place ρ1),rfl,R,d.cx.bel,d.kp _ _ ⟨rfl,rfl⟩,fun b k1 k2=>d.cx.sub b ⟨k1,k2⟩,d.cx.lt,A0h d l c8,fun b hb=>?_⟩;obtain⟨id,_,i2,i3⟩:=i0r hb;obtain⟨k1,_,k3⟩:=d.ow id (l id i2) b i3;exact⟨k1,k3⟩
end
end
end
