/- P. Its conditions: none. -/
import Derived.Test.YtihmgaccbcfgjaaGreatRX12
open Nat (lt_or_ge le_refl beq_eq)
set_option linter.all false
theorem Go.X' {P:Prop}(h:P:=by kernel_rfl):P:=h
namespace Go.X
open Go.V Go.RowKit
def j0T (pl:List Value):Prop:=∀(i j:Nat) (v b:Value),i≠j->pl[i]?=some v->pl[j]?=some b->∀k,Bk v k->¬Bk b k
def W8 (pl:List Value):D0:=fun k=>∃v∈pl,Bk v k
def U0 (E:Env)(c:Sm E.D):Prop:=∀(w:World) (S:D0) (us pl:List Value) (x:J4 E.D c.ins) (y:J4 E.D (c.res :: c.back.map Prod.snd)),c.m x=some y->E2 E w.heap S c.ins x us pl->
 (∀b,S b->b<w.heap.size)->(∀b,W8 pl b->S b)->j0T pl->Calls E.P c.f us.toArray w fun e w1=>∃v S1 d,e=.returned v/\E2 E w1.heap S1 (c.res :: c.back.map Prod.snd) y (v :: c.back.map fun p=>us.getD p.1 undef) d/\
  D9 (W8 pl) w w1/\P0 w.heap S w1.heap S1/\(∀b,S b->¬W8 pl b->S1 b)/\(∀b,S1 b->b<w1.heap.size)/\j0T d/\∀b,W8 d b->S1 b/\(W8 pl b\/w.heap.size<=b)
section
variable {E:Env}{A:E4}{s:St E.D}{ρ:Nat->Value}{S:D0}{a:Act}{as:List Act}{w:World}
theorem r0j {j:Nat}:∀(l:List (Option Nat)) (p q:Nat),(l.filterMap fun x=>x).Nodup->p<q->l[p]?=some (some j)->l[q]?=some (some j)->False:=by
 intro l
 induction l with
 |nil=>simp
 |cons y l ih=>
  grind
theorem s0U (h:Rp E A s ρ S a as w){ids:List (Option Nat)}(ho:M5 s ids)(b:c0I (ids.filterMap fun x=>x)=true):j0T (ids.map (place ρ)):=by
 have b:=p0X b;intro i j v m f hi g k hk c;rw[List.getElem?_map]at hi g;obtain⟨x,l,rfl⟩:=Option.map_eq_some_iff.1 hi;obtain⟨x',e,rfl⟩:=Option.map_eq_some_iff.1 g;cases x with
 |none=>cases hk
 |some p=>
  cases x' with
  |none=>cases c
  |some q=>
   by_cases d:p=q
   ·rcases Nat.lt_or_gt_of_ne f with h1|h1
    ·grind [r0j]
    grind [r0j]
   ·exact h.dj p q d (ho p (List.mem_of_getElem? l)) (ho q (List.mem_of_getElem? e)) k hk c
def i0F {ids:List (Option Nat)}{k:Nat}(h:W8 (ids.map (place ρ)) k):∃id,id∈(ids.filterMap fun x=>x)/\some id∈ids/\Bk (ρ id) k:=by
 obtain⟨v,c,hk⟩:=h;obtain⟨x,b,rfl⟩:=List.mem_map.1 c;cases x with
 |none=>cases hk
 |some id=>exact⟨id,List.mem_filterMap.2 ⟨some id,b,rfl⟩,b,hk⟩
theorem Rp.after (h:Rp E A s ρ S a as w){ids:List (Option Nat)}(ho:M5 s ids){w1:World}{S2:D0}{d:List Value}(hb:D9 (W8 (ids.map (place ρ))) w w1)(hk:P0 w.heap S w1.heap S2)(hs:∀b,S b->¬W8 (ids.map (place ρ)) b->S2 b)
  (c0:∀b,S2 b->b<w1.heap.size) (c4:j0T d) (b5:∀b,W8 d b->S2 b/\(W8 (ids.map (place ρ)) b\/w.heap.size<=b)) {tl:List (Nat×Th E.D)}
  (hn:Y5 E (N7 ρ s.nid d) (s.nid+d.length) w1.heap S2 (Z0 s (ids.filterMap fun x=>x)) tl d):Rp E A ((Z0 s (ids.filterMap fun x=>x)).more tl d.length) (N7 ρ s.nid d) S2 a as w1:=by
 obtain⟨g1,g2,g3,g4,g5,g6⟩:=h01 (ids.filterMap fun x=>x) s;have R:((Z0 s (ids.filterMap fun x=>x)).more tl d.length).nid=s.nid+d.length:=by show _+_=_;rw[g1]
 have hw:∀k,W8 (ids.map (place ρ)) k->S k/\¬A.S0 k/\Wr A.W0 A.w0 k:=fun k hk=>by
  obtain⟨id,_,h2,h3⟩:=i0F hk;exact h.ow id (ho id h2) k h3
 have low:∀j,j<s.nid->F0 ((Z0 s (ids.filterMap fun x=>x)).more tl d.length) j=.gone\/(F0 ((Z0 s (ids.filterMap fun x=>x)).more tl d.length) j=F0 s j/\(Q1 (F0 s j)=true->j∉ids.filterMap fun x=>x)):=by
  intro j hj;rw[g0g _ _ _ _ (fun p hp=>by have:=hn.keys p hp;omega)]
  grind [g0K]
 have high:∀i,s.nid+d.length<=i->F0 ((Z0 s (ids.filterMap fun x=>x)).more tl d.length) i=.gone:=by
  intro i hi;rw[g0g _ _ _ _ (fun p hp=>by have:=hn.keys p hp;omega)];obtain⟨k1,U⟩:=g0K (ids.filterMap fun x=>x) s i;rcases U with U|U
  ·rw[U];exact h.lt i O'
  omega
 have a1:∀j,Q1 (F0 s j)=true->(j∉ids.filterMap fun x=>x)->∀k,Bk (ρ j) k->¬W8 (ids.map (place ρ)) k:=by
  intro j hj hm k hk hB;obtain⟨id,h1,h2,h3⟩:=i0F hB;have:id≠j:=by grind
  exact h.dj id j this (ho id h2) hj k h3 hk
 have live:∀j,Q1 (F0 s j)=true->∀k,Bk (ρ j) k->k<w.heap.size:=fun j hj k hk=>(h.th j).live hj k hk;have new:∀i,s.nid<=i->i<s.nid+d.length->∃v,d[i-s.nid]?=some v/\N7 ρ s.nid d i=v:=by
  intro i h1 h2;have c0:i-s.nid<d.length:=O'
  refine⟨d[i-s.nid],Z',?_⟩;have:=j0V (ρ:=ρ) (n0:=s.nid) (pl:=d) (i:=i-s.nid) (v:=d[i-s.nid]) Z'
  simp_all
 refine⟨⟨⟨hb.os.trans h.cx.bel.os,hb.tape.trans h.cx.bel.tape,hb.output.trans h.cx.bel.output,Nat.le_trans h.cx.bel.size hb.size,fun k h1 h2=>?_⟩,fun b b4=>hs b (h.cx.sub b b4) fun hB=>(hw b hB).2.1 b4,c0,h.cx.lt0⟩,?_,?_,fun id=>?_,fun i l k z=>?_,fun i J e3 l y k z I=>?_,fun i hi=>high i O',fun r q i f hr e F t xs hq=>?_,fun H1 S1 ha=>(h.kp H1 S1 ha).trans hk,fun i u ha=>⟨by rw[R];have:=(h.hp i u ha).1;omega,by rw[Y6 (h.hp i u ha).1];exact(h.hp i u ha).2⟩⟩
 ·rw[hb.block k (Nat.lt_of_lt_of_le h1 h.cx.bel.size) (fun hB=>?_),h.cx.bel.block k h1 h2];rcases(hw k hB).2.2 with h3|h3
  ·grind
  ·omega
 ·rw[R];show b0C E _ _ _ _ (Z0 s (ids.filterMap fun x=>x)).n (Z0 s (ids.filterMap fun x=>x)).fr a;rw[g2,g3];exact h.fr.mono (fun i hi=>by rw[Y6 hi]) (Nat.le_add_right _ _) hk
 ·rw[R];show a0t E _ _ _ _ (Z0 s (ids.filterMap fun x=>x)).stk as;rw[g4];exact h.stk.mono (fun i hi=>by rw[Y6 hi]) (Nat.le_add_right _ _) hk
 ·rw[R];rcases lt_or_ge id s.nid with g|C
  ·rcases low id g with e|⟨e1,e2⟩
   ·rw[e];trivial
   ·rw[e1,Y6 g];exact K3.mono (fun i hi=>by rw[Y6 hi]) (Nat.le_add_right _ _) hk (fun l b b3=>hb.block b (live id l b b3) (a1 id l (e2 l) b b3)) (h.th id)
  ·rcases lt_or_ge id (s.nid+d.length)with g|hge3
   ·obtain⟨v,hv,hp⟩:=new id C g;have:=(hn.th (id-s.nid) v hv).1
    simp_all
   ·rw[high id hge3];trivial
 ·rcases lt_or_ge i s.nid with g|C
  ·rcases low i g with e|⟨e1,e2⟩
   ·rw[e]at l;cases l
   ·rw[e1]at l;rw[Y6 g]at z;obtain⟨k1,U,k3⟩:=h.ow i l k z
    grind
  ·rcases lt_or_ge i (s.nid+d.length)with g|hge3
   ·obtain⟨v,hv,hp⟩:=new i C g;rw[hp]at z;obtain⟨k1,U⟩:=b5 k ⟨v,List.mem_of_getElem? hv,z⟩;rcases U with U|U
    ·simp_all
    ·refine⟨k1,fun h0=>?_,.inr (Nat.le_trans h.cx.bel.size U)⟩;have:=h.cx.lt k (h.cx.sub k h0);omega
   ·rw[high i hge3]at l;cases l
 ·have mix:∀i J,i<s.nid->s.nid<=J->Q1 (F0 ((Z0 s (ids.filterMap fun x=>x)).more tl d.length) i)=true->Q1 (F0 ((Z0 s (ids.filterMap fun x=>x)).more tl d.length) J)=true->
    Bk (N7 ρ s.nid d i) k->Bk (N7 ρ s.nid d J) k->False:=by
   intro i J g C l y z I;rcases low i g with e|⟨e1,e2⟩
   ·rw[e]at l;cases l
   ·rw[e1]at l;rw[Y6 g]at z;rcases lt_or_ge J (s.nid+d.length)with hlt3|hge3
    ·obtain⟨v,hv,hp⟩:=new J C hlt3;rw[hp]at I;obtain⟨k1,k4⟩:=b5 k ⟨v,List.mem_of_getElem? hv,I⟩
     grind
    ·rw[high J hge3]at y;cases y
  rcases lt_or_ge i s.nid with hl|hl
  ·rcases lt_or_ge J s.nid with hl'|hl'
   ·rcases low i hl with e|⟨e1,e2⟩
    ·rw[e]at l;cases l
    ·rcases low J hl' with e'|⟨e1',e2'⟩
     ·rw[e']at y;cases y
     ·rw[e1]at l;rw[e1']at y;rw[Y6 hl]at z;rw[Y6 hl']at I;exact h.dj i J e3 l y k z I
   grind
  ·rcases lt_or_ge J s.nid with hl'|hl'
   ·exact mix J i hl' hl y l I z
   ·rcases lt_or_ge i (s.nid+d.length)with g|hge3
    ·rcases lt_or_ge J (s.nid+d.length)with hlt2'|hge3'
     ·obtain⟨v,hv,hp⟩:=new i hl g;obtain⟨v',c5,c6⟩:=new J hl' hlt2';rw[hp]at z;rw[c6]at I;exact c4 (i-s.nid) (J-s.nid) v v' O' hv c5 k z I
     ·rw[high J hge3']at y;cases y
    ·rw[high i hge3]at l;cases l
 ·have c8:r<s.nid/\F0 s r=.rof q i f:=by
   rcases lt_or_ge r s.nid with g|C
   ·rcases low r g with e'|⟨e1,_⟩
    ·rw[e']at hr;cases hr
    ·exact⟨g,by rw[<-e1];exact hr⟩
   ·rcases lt_or_ge r (s.nid+d.length)with g|hge3
    ·obtain⟨v,hv,hp⟩:=new r C g;have:=(hn.th (r-s.nid) v hv).2;rw[g1,show s.nid+(r-s.nid)=r from O',hr]at this;cases this
    ·rw[high r hge3]at hr;cases hr
  obtain⟨h1,h2⟩:=c8;have c3:=h.c0a h2;rcases low q c3 with e'|⟨e1,e2⟩
  ·rw[e']at hq;cases hq
  ·rw[e1]at hq;have b1:Q1 (F0 s q)=true:=by rw[hq];rfl
   rw[Y6 c3,Y6 h1];obtain⟨b,o,m,c,k1,U,k3,k4⟩:=h.rf r q i f h2 e F t xs hq;refine⟨b,o,m,c,k1,U,k3,?_⟩;have b2:Bk (ρ q) b:=Bk.hd (by
    have ht:=h.th q;rw[hq]at ht;obtain⟨cs,ht⟩:=ht;have:=ht.row;rw[k1]at this ⊢;exact this.i0n O')
   rw[<-k4];unfold O1;rw[hb.block b (live q b1 b b2) (a1 q b1 (e2 b1) b b2)]
section
variable {E:Env}{A:E4}{s:St E.D}{ρ:Nat->Value}{S:D0}{a:Act}{as:List Act}{w:World}
theorem s0x {H:I0}{S g:D0}:∀{sh:Sh} {x:Q5 E.D sh} {c pl:List Value},f0B sh=true->SR E H S sh x c pl->SR E H g sh x c pl:=by
 intro sh x c pl h f;cases sh with
 |any=>simp_all[SR]
 |d t=>cases t<;>first|(cases h;done)|(exact f)
 |own e t=>cases t<;>first|(cases h;done)|(exact f)
 |nil=>simp_all[SR]
 |nilp=>simp_all[SR]
 |kb b=>simp_all[SR]
 |_=>cases h
theorem n0b {H:I0}{S j:D0}:∀{l:List Sh} {x:J4 E.D l} {us pl:List Value},l.all f0B=true->E2 E H S l x us pl->E2 E H j l x us pl
 |[],x,us,pl,_,h=>by simp_all[E2]
 |sh :: l,x,us,pl,hs,h=>by
  rw[List.all_cons,Bool.and_eq_true]at hs;obtain⟨c,u,b,p1,i,h1,e,f,d,g⟩:=h;exact⟨c,u,b,p1,i,h1,e,f,s0x hs.1 d,n0b hs.2 g⟩
theorem y0X {H:I0}{S b:D0}{sh:Sh}{x:Q5 E.D sh}{c pl:List Value}(hs:k0j sh=true)(h:SR E H S sh x c pl):SR E H b sh x c pl:=by
 unfold k0j at hs
 grind [SR,n0b,s0x]
theorem u0o {n:Nat}{H:I0}{v:V E.D}{i:Nat}(h:g0b v=some i){u:Value}(e:VS E ρ n H S v u):u=hd (ρ i)/\i<n:=by
 obtain⟨c,d,rfl⟩:=e;unfold g0b at h;split at h
 ·cases h;obtain⟨h1,_,rfl⟩:=d;exact⟨rfl,h1⟩
 ·obtain⟨h1,_,b,f,rfl⟩:=d
  simp_all[D4,vl,M3,V3]
 ·cases h;obtain⟨h1,_,rfl⟩:=d;exact⟨rfl,h1⟩
 grind
theorem VT.at {n:Nat}{H:I0}:∀{l:List (V E.D)} {us:List Value},VT E ρ n H S l us->∀{j:Nat} {v:V E.D},l[j]?=some v->VS E ρ n H S v (us.getD j undef)
 |[],us,_,j,v,b=>by grind
 |x :: l,us,h,j,v,b=>by
  obtain⟨c,u,h1,rfl,d⟩:=h;cases j with
  |zero=>simp at b;subst b;exact⟨c,h1,rfl⟩
  |succ j=>simpa using VT.at d b
theorem u0D {D:Nat->Type}{args:List (V D)}:∀(l:List (Nat×Sh)),(D5 args l).length<=l.length
 |[]=>le_refl _
 |(j,sh) :: l=>by
  have:=u0D (args:=args) l
  grind [D5]
theorem n09 {D:Nat->Type}{args:List (V D)}:∀(l:List (Nat×Sh)),(D5 args l).length=l.length->∀{f:Nat->Value} {us:List Value},(∀(j:Nat) v i,args[j]?=some v->g0b v=some i->us.getD j undef=f i)->(D5 args l).map (fun p=>f p.1)=l.map fun p=>us.getD p.1 undef
 |[],_,f,us,_=>rfl
 |(j,sh) :: l,h,f,us,hf=>by
  have hl:=u0D (args:=args) l;unfold D5 at h ⊢;split at h
  ·rename_i v b;split at h
   ·rename_i i hi;rw[List.map_cons,List.map_cons,n09 l (by simp_all) hf,hf j v i b hi]
   grind
  grind
theorem k0l {D:Nat->Type}{args:List (V D)}{n:Nat}:∀(l:List (Nat×Sh)),(∀(j:Nat) v i,args[j]?=some v->g0b v=some i->i<n)->∀p∈D5 args l,p.1<n
 |[],_,p,hp=>by cases hp
 |(j,sh) :: l,h,p,hp=>by
  unfold D5 at hp;split at hp
  ·split at hp
   ·rcases List.mem_cons.1 hp with rfl|hp
    ·grind
    ·exact k0l l h p hp
   ·exact k0l l h p hp
  ·exact k0l l h p hp
def w0d {D:Nat->Type}:∀(l:List Nat) (s:St D),∃t,(Z0 s l).th=t++s.th/\∀i∈l,∃p∈t,p.1=i
 |[],s=>⟨[],rfl,Z'⟩
 |i :: l,s=>by
  obtain⟨t,h1,c⟩:=w0d l (s.at i .gone);refine⟨t++[(i,.gone)],by simp_all[Z0,St.at],fun j b=>?_⟩;rcases List.mem_cons.1 b with rfl|b
  ·simp
  simp_all
theorem t0T {D:Nat->Type}:∀(l:List Nat) (s:St D),(a0D s l).nid=s.nid/\(a0D s l).fr=s.fr/\(a0D s l).n=s.n/\(a0D s l).stk=s.stk/\∃t,(a0D s l).th=t++s.th
 |[],s=>⟨rfl,rfl,rfl,rfl,[],rfl⟩
 |q :: l,s=>by
  obtain⟨h1,c,d,b,t,e⟩:=t0T l (H7 s q)
  grind [a0q,a0D,H7]
def Tp.t0x:∀(l:List Nat) {s:St E.D},Tp E A s ρ S w->Tp E A (a0D s l) ρ S w
 |[],_,h=>h
 |q :: l,s,h=>Tp.t0x l (s:=H7 s q) (h.t0Q _)
theorem v01 {D:Nat->Type}{r q f:Nat}{i:Int}:∀{l:List Nat} {s:St D},F0 (a0D s l) r=.rof q i f->F0 s r=.rof q i f/\q∉l
 |[],s,h=>⟨h,Z'⟩
 |q' :: l,s,h=>by
  obtain⟨h1,b⟩:=v01 (l:=l) (s:=H7 s q') h
  grind [l0T]
theorem H0M (hE:T1 E){c:Sm E.D}(hc:U0 E c){R:Type}{args:List (V E.D)}{k:K E R}{r:R}(hk:j0X E s c args k=some r)(h:Rp E A s ρ S a as w){us:List Value}(hv:VT E ρ s.nid w.heap S args us):Calls E.P c.f us.toArray w (p0P E A s ρ a as w k r):=by
 unfold j0X at hk;split at hk<;>try cases hk
 rename_i s1 hf;split at hk<;>try cases hk
 rename_i ids x j2;split at hk<;>try cases hk
 rename_i b1;rw[Bool.and_eq_true,beq_eq]at b1;obtain⟨k3,h8⟩:=b1;obtain⟨y,hy,hk⟩:=a0c hk;obtain⟨S1,b5,I,j0,e4,e1⟩:=a0g hE _ s _ s1 hf S h;have h0:VT E ρ s1.nid w.heap S1 args us:=by rw[e1];exact hv.mono (fun _ _=>rfl) (le_refl _) (P0.less b5)
 obtain⟨e2,g⟩:=f0A hE I.th c.ins args ⟨ids,x⟩ us j2 h0;have o:M5 s ids:=fun id hi=>by rw[b0g _ s _ s1 hf id (g id hi)];exact g id hi
 refine(hc w S1 us (ids.map (place ρ)) x y hy e2 I.cx.lt (fun b m=>?_) (s0U I g k3)).mono ?_
 ·obtain⟨id,_,d,h3⟩:=i0F m;exact(I.ow id (g id d) b h3).1
 rintro e w1 ⟨v,S2,pl1,rfl,q1,q2,q3,q4,q5,q6,q7⟩
 have main:∀(sB:St E.D) (SB J:D0),Rp E A sB ρ SB a as w->Ext s sB->sB.fr=s.fr->sB.nid=s.nid->M5 sB ids->E2 E w1.heap J (c.res :: c.back.map Prod.snd) y (v :: c.back.map fun p=>us.getD p.1 undef) pl1->P0 w.heap SB w1.heap J->(∀b,SB b->¬W8 (ids.map (place ρ)) b->J b)->
   (∀b,J b->b<w1.heap.size)->(∀b,S2 b->J b)->J9 E (Z0 sB (ids.filterMap fun x=>x)) (c.res :: c.back.map Prod.snd) y (fun s2 l=>match l with
      |v :: l'=>k (a0I (a0D s2 ((D5 args c.back).map Prod.fst)) (D5 args c.back) l') v
      |[]=>none)=some r->p0P E A s ρ a as w k r (.returned v) w1:=by
  intro sB SB J hB U b2 k6 e7 p1 p2 p3 p4 p5 hk;obtain⟨g1,g2,g3,g4,g5,g6⟩:=h01 (ids.filterMap fun x=>x) sB;obtain⟨q,tl,j1,a1,e3⟩:=g0k (ρ:=N7 ρ sB.nid pl1) (N:=sB.nid+pl1.length) _ y _ _ (Z0 sB (ids.filterMap fun x=>x)) _ p1 hk (fun i v hi=>by simp_all[j0V]) O';have hR:=Rp.after hB e7 q2 p2 p3 p4 q6 (fun b m=>⟨p5 b (q7 b m).1,(q7 b m).2⟩) e3;cases q with
  |nil=>simp_all
  |cons V q=>
   obtain⟨c0,k5,h1,d,h3⟩:=a1;simp only[List.cons.injEq]at d;obtain⟨d,rfl⟩:=d;have C:((Z0 sB (ids.filterMap fun x=>x)).more tl pl1.length).nid=sB.nid+pl1.length:=by show _+_=_;rw[g1]
   have b4:∀(j:Nat) v i,args[j]?=some v->g0b v=some i->us.getD j undef=hd (ρ i)/\i<s.nid:=fun j v i h1 d=>u0o d (hv.at h1);have e6:=n09 (args:=args) c.back h8 (f:=fun i=>hd (ρ i)) (us:=us) fun j v i h1 d=>(b4 j v i h1 d).1;have c6:=k0l (args:=args) (n:=s.nid) c.back fun j v i h1 d=>(b4 j v i h1 d).2;have k0:k (a0I (a0D ((Z0 sB (ids.filterMap fun x=>x)).more tl pl1.length) ((D5 args c.back).map Prod.fst)) (D5 args c.back) q) V=some r:=j1;obtain⟨c1,c2,c3,c4,ct,c5⟩:=t0T ((D5 args c.back).map Prod.fst) ((Z0 sB (ids.filterMap fun x=>x)).more tl pl1.length);obtain⟨ρ2,m1,m0,m2,m3,m4,m5,m6,m7⟩:=m0K (N:=sB.nid+pl1.length) (H:=w1.heap) (S1:=J) (D5 args c.back) q _ _ (Tp.t0x ((D5 args c.back).map Prod.fst) hR.tp) (fun p hp=>by have:=c6 p hp;omega) (fun p hp e F t _ r i f hr=>absurd (List.mem_map.2 ⟨p,hp,rfl⟩) (v01 hr).2) (by
    have e:(D5 args c.back).map (fun p=>hd (N7 ρ sB.nid pl1 p.1))=(D5 args c.back).map (fun p=>hd (ρ p.1)):=List.map_congr_left fun p hp=>by rw[Y6 (by have:=c6 p hp;omega)]
    rw[e,e6];exact h3)
   obtain⟨gt,h6,j3⟩:=w0d (ids.filterMap fun x=>x) sB;obtain⟨bt,e5⟩:=U.th;have c8:(a0I (a0D ((Z0 sB (ids.filterMap fun x=>x)).more tl pl1.length) ((D5 args c.back).map Prod.fst)) (D5 args c.back) q).th=(m6++(ct++(tl++(gt++bt))))++s.th:=by
    rw[m7,c5];show m6++(ct++(tl++(Z0 sB (ids.filterMap fun x=>x)).th))=_;rw[h6,e5];simp
   have k4:=hR.fr.mono (ρ1:=ρ2) (fun i _=>m0 i) (le_refl _) (P0.refl _ _);have e9:=hR.stk.mono (ρ1:=ρ2) (fun i _=>m0 i) (le_refl _) (P0.refl _ _);refine⟨v,rfl,_,V,ρ2,J,k0,⟨m1.cx,?_,?_,m1.th,m1.ow,m1.dj,m1.lt,m1.rf,m1.kp,m1.hp⟩,?_,⟨?_,?_,⟨_,c8⟩,?_,?_⟩,?_,fun b m hm=>?_⟩
   ·rw[m2,m3,m4,c1,c2,c3];exact k4
   ·rw[m3,m5,c1,c4];exact e9
   ·rw[m3,c1,C];exact VS.mono (fun i _=>m0 i) (le_refl _) (P0.refl _ _) ⟨c0,h1,d⟩
   ·rw[m4,c3];show(Z0 sB _).n=_;rw[g3,U.n]
   ·rw[m2,c2];show ∃l,(Z0 sB _).fr=l++s.fr;rw[g2,b2];exact⟨[],rfl⟩
   ·rw[m5,c4];show(Z0 sB _).stk=_;rw[g4,U.stk]
   ·rw[m3,c1,C];omega
   ·rw[m2,c2];show(Z0 sB _).fr=_;rw[g2,b2]
   ·refine q2.block b m fun hB=>?_;obtain⟨id,i1,i2,i3⟩:=i0F hB;obtain⟨p,hp,e⟩:=j3 id i1;have b3:id<s.nid:=by
     rcases lt_or_ge id s.nid with h9|h9
     ·exact h9
     ·have:=o id i2;rw[h.lt id h9]at this;cases this
    exact hm id b3 (o id i2) (by rw[<-e];exact h0J c8 (by simp[hp])) i3
 cases z:(k0j c.res&&c.back.all fun p=>f0B p.2)with
 |false=>
  rw[z]at hk;exact main s1 S1 S2 I j0 e4 e1 g q1 q3 q4 q5 (fun _ h=>h) hk
 |true=>
  rw[z]at hk;rw[Bool.and_eq_true]at z;refine main s S (fun b=>S2 b\/(S b/\¬W8 (ids.map (place ρ)) b)) h (Ext.refl s) rfl rfl o ?_ ⟨q3.size,fun b m hS=>?_⟩ (fun b h1 d=>.inr ⟨h1,d⟩) (fun b m=>?_) (fun b m=>.inl m) hk
  ·unfold E2 at q1 ⊢;obtain⟨c0,u,h7,p1,p2,h1,d,h3,h4,h5⟩:=q1;refine⟨c0,u,h7,p1,p2,h1,d,h3,y0X z.1 h4,n0b ?_ h5⟩;rw[List.all_map];exact z.2
  ·obtain⟨k1,k2⟩:=q3.blk b m (fun h1=>hS (b5 b h1));exact⟨fun h1=>h1.elim k1 fun d=>hS d.1,k2⟩
  ·rcases m with m|m
   ·exact q5 b m
   ·exact Nat.lt_of_lt_of_le (h.cx.lt b m.1) q3.size
theorem j0h (e:T1 E){C:J3 E}(h:∀c∈C.sm,U0 E c):d0j E C:=by
 intro g args s c hl R k r hk A ρ S a as w us d b;have:∀l:List (Sm E.D),e0U E s args l g=some c->c∈l/\c.f=g:=by
  intro l
  induction l with
  |nil=>intro h;cases h
  |cons x l ih=>
   grind [e0U,beq_eq]
 grind [H0M]
section
variable (E:Env)
def w0e (b:St E.D)(c:List (Nat×Sh))(shs:List Sh)(v:V E.D):Option (J4 E.D shs):=
 let vs:=v :: c.map fun p=>thV b p.1
 match T6 E C8 b (c0F E b shs vs)with
 |some s1=>match W7 E s1 shs vs with
  |some ⟨ids,y⟩=>match c0I (ids.filterMap fun x=>x)with|true=>some y|false=>none
  |none=>none
 |none=>none
noncomputable def s04 (C:J3 E)(f:Nat):Inl E:=fun g args s k=>match e0x E g with
   |none=>none
   |some (fn,body)=>match Nat.ble args.length fn.ntmps with
    |false=>none
    |true=>mod E C f body (C.ann g) { s with n:=fn.ntmps,fr:=P9 args 0,stk:=(s.n,s.fr) :: s.stk } fun e s'=>match e with
     |.ex _=>none
     |.nrm=>leave E k fn s'
     |.ret=>leave E k fn s'
noncomputable def I1 (C:J3 E)(f:Nat)(ins:List Sh)(res:Sh)(back:List (Nat×Sh))(x:J4 E.D ins):Option (J4 E.D (res :: back.map Prod.snd)):=
 J9 E { n:=0,fr:=[],th:=[],nid:=0,stk:=[] } ins x fun s args=>match Nat.beq (D5 args back).length back.length with
  |true=>s04 E C C8 f args { s with n:=args.length,fr:=P9 args 0 } fun s' v=>w0e E s' (D5 args back) (res :: back.map Prod.snd) v
  |false=>none
end
section
variable {E:Env}
theorem t0h {D:Nat->Type}:∀(l:List (V D)) (i j:Nat) (v:V D),l[j]?=some v->F4 (P9 l i) (i+j)=some v
 |[],i,j,v,h=>by grind
 |x :: l,i,j,v,h=>by
  unfold P9;rw[a0X];cases j with
  |zero=>simp_all
  |succ j=>
   rw[if_neg O',show i+(j+1)=i+1+j from O']
   simp_all[t0h]
theorem k05 (J:T1 E){C:J3 E}(hs:d0j E C){c:Sm E.D}(hm:∀x y,c.m x=some y->I1 E C c.f c.ins c.res c.back x=some y):U0 E c:=by
 intro w S us pl x y hy c4 hS c6 c5;have b2:=hm x y hy
 let ρ0:Nat->Value:=fun i=>(pl[i]?).getD undef
 obtain⟨args,tl,hk,I,o⟩:=g0k (ρ:=ρ0) (N:=0+pl.length) _ x us pl _ _ c4 b2 (fun i v hi=>by grind) (le_refl _);split at hk<;>try cases hk
 rename_i b3;rw[beq_eq]at b3;have U:e0G E (s04 E C C8):=q00 J (s0S J hs (fun An=>y0F J (C:=J3.at E C An) hs) C8)
 let A:E4:={ w0:=w,W0:=W8 pl,S0:=fun b=>S b/\¬W8 pl b,anc:=fun H1 S1=>H1=w.heap/\S1=S }
 have g:∀id,(id<pl.length/\∃v,pl[id]?=some v/\ρ0 id=v/\K3 E ρ0 (0+pl.length) w.heap S (F0 ((({ n:=0,fr:=[],th:=[],nid:=0,stk:=[] }:St E.D)).more tl pl.length) id) v)\/F0 ((({ n:=0,fr:=[],th:=[],nid:=0,stk:=[] }:St E.D)).more tl pl.length) id=.gone:=by
  intro id;rcases lt_or_ge id pl.length with h1|h1
  ·have:=(o.th id pl[id] Z').1
   grind
  ·refine .inr ?_;rw[g0g _ _ _ _ (fun p hp=>by have:=o.keys p hp;grind)];rfl
 have hlen:=I.length;have hR:Rp E A { (({ n:=0,fr:=[],th:=[],nid:=0,stk:=[] }:St E.D)).more tl pl.length with n:=args.length,fr:=P9 args 0 } ρ0 S { tmps:=us.toArray,defers:=[] } [] w:=by
  refine⟨⟨⟨rfl,rfl,rfl,le_refl _,fun _ _ _=>rfl⟩,fun b h=>h.1,hS,fun b h=>hS b h.1⟩,⟨O',rfl,fun t v ht=>?_⟩,trivial,fun id=>?_,fun id ho k hk=>?_,fun i j e3 hi hj k hk b1=>?_,fun id a1=>?_,fun r q i f hr=>?_,?_,fun _ _ h=>h.elim⟩
  ·obtain⟨u,h1,_,h3⟩:=l0U I 0 t v ht;have:us.toArray.getD t undef=u:=by
    simp_all
   rw[show({ tmps:=us.toArray,defers:=[] }:Act).tmps=us.toArray from rfl,this];exact h3
  ·show K3 E ρ0 (0+pl.length) w.heap S (F0 ((({ n:=0,fr:=[],th:=[],nid:=0,stk:=[] }:St E.D)).more tl pl.length) id) (ρ0 id);rcases g id with⟨_,v,_,z,h3⟩|h
   ·simp_all
   ·rw[h];trivial
  ·have ho:Q1 (F0 ((({ n:=0,fr:=[],th:=[],nid:=0,stk:=[] }:St E.D)).more tl pl.length) id)=true:=ho;rcases g id with⟨_,v,h1,z,_⟩|h
   ·have hB:W8 pl k:=⟨v,List.mem_of_getElem? h1,by simp_all⟩
    exact⟨c6 k hB,fun h=>h.2 hB,.inl hB⟩
   ·rw[h]at ho;cases ho
  ·have hi:Q1 (F0 ((({ n:=0,fr:=[],th:=[],nid:=0,stk:=[] }:St E.D)).more tl pl.length) i)=true:=hi;have hj:Q1 (F0 ((({ n:=0,fr:=[],th:=[],nid:=0,stk:=[] }:St E.D)).more tl pl.length) j)=true:=hj;rcases g i with⟨_,v,h1,z,_⟩|h
   ·rcases g j with⟨_,v',e4,c3,_⟩|h'
    ·rw[z]at hk;rw[c3]at b1;exact c5 i j v v' e3 h1 e4 k hk b1
    ·rw[h']at hj;cases hj
   ·rw[h]at hi;cases hi
  ·have a1:0+pl.length<=id:=a1;rcases g id with⟨h1,_⟩|h
   ·omega
   ·exact h
  ·exfalso;have hr:F0 ((({ n:=0,fr:=[],th:=[],nid:=0,stk:=[] }:St E.D)).more tl pl.length) r=.rof q i f:=hr;rcases lt_or_ge r pl.length with h1|h1
   ·have:=(o.th r pl[r] Z').2;rw[show({ n:=0,fr:=[],th:=[],nid:=0,stk:=[] }:St E.D).nid+r=r from Nat.zero_add r,hr]at this;cases this
   grind
  ·rintro H1 S1 ⟨rfl,rfl⟩
   exact P0.refl _ _
 refine(U _ c.f args _ _ y hk A ρ0 S _ [] w us hR I).mono ?_
 rintro e w1 ⟨v,rfl,s1,V,ρ1,S1,h1,z,h3,h4,h5⟩
 unfold w0e at h1;simp only at h1;split at h1<;>try cases h1
 rename_i s2 hf;split at h1<;>try cases h1
 rename_i ids y' e6;split at h1<;>try cases h1
 rename_i e7;obtain⟨S2,b4,d,h6,h0,e9⟩:=a0g J _ s1 _ s2 hf S1 z;have c8:=n09 (args:=args) c.back b3 (f:=fun i=>hd (ρ1 i)) (us:=us) fun j v i e1 e2=>by
  have e5:=z.fr.slot j v (by rw[h5];have:=t0h args 0 j v e1;simp_all);have:=(u0o e2 e5).1
  simp_all
 have R:VT E ρ1 s2.nid w1.heap S2 (V :: (D5 args c.back).map fun p=>thV s1 p.1) (v :: c.back.map fun p=>us.getD p.1 undef):=by
  rw[e9,<-c8];obtain⟨c0,k1,k2⟩:=h3.d0h b4;unfold VT;exact⟨c0,_,k1,by grind,VT.map fun p _=>(z.thV p.1).d0h b4⟩
 obtain⟨b5,l⟩:=f0A J d.th _ _ ⟨ids,y⟩ _ e6 R;refine⟨v,S2,ids.map (place ρ1),rfl,b5,d.cx.bel,d.kp _ _ ⟨rfl,rfl⟩,fun b k1 k2=>d.cx.sub b ⟨k1,k2⟩,d.cx.lt,s0U d l e7,fun b hb=>?_⟩;obtain⟨id,_,i2,i3⟩:=i0F hb;obtain⟨k1,_,k3⟩:=d.ow id (l id i2) b i3;exact⟨k1,k3⟩
end
end
end
