/- P. Its conditions: none. -/
import Derived.Test.YtihmgaccbcfgjaaGreatTX12
open List (mem_of_getElem? mem_map map_cons mem_cons)
open Nat (lt_or_ge le_refl beq_eq zero_add)
set_option linter.all false
theorem Go.Y' {P:Prop}(h:P:=by kernel_rfl):P:=h
namespace Go.X
open Go.V Go.RowKit
def j0T (pl:List Value):Prop:=∀(i j:Nat) (v b:Value),i≠j->pl[i]?=some v->pl[j]?=some b->∀k,Bk v k->¬Bk b k
def W8 (pl:List Value):D0:=fun k=>∃v∈pl,Bk v k
def U0 (E:Env)(c:Sm E.D):Prop:=∀(w:World) (S:D0) (us pl:List Value) (x:J4 E.D c.ins) (y:J4 E.D (c.res :: c.back.map Prod.snd)),c.m x=some y->E2 E w.heap S c.ins x us pl->
 (∀b,S b->b<w.heap.size)->(∀b,W8 pl b->S b)->j0T pl->Calls E.P c.f us.toArray w fun e w1=>∃v S1 d,e=.returned v/\E2 E w1.heap S1 (c.res :: c.back.map Prod.snd) y (v :: c.back.map fun p=>us.getD p.1 undef) d/\
  D9 (W8 pl) w w1/\P0 w.heap S w1.heap S1/\(∀b,S b->¬W8 pl b->S1 b)/\(∀b,S1 b->b<w1.heap.size)/\j0T d/\∀b,W8 d b->S1 b/\(W8 pl b\/w.heap.size<=b)
section
variable {E:Env}{A:E4}{s:St E.D}{ρ:Nat->Value}{S:D0}{a:Act}{as:List Act}{w:World}
def r0j {j:Nat}:∀(l:List (Option Nat)) (p q:Nat),(l.filterMap fun x=>x).Nodup->p<q->l[p]?=some (some j)->l[q]?=some (some j)->False:=by
 intro l
 induction l with
 |nil=>intro p q _ _ hp;simp at hp
 |cons y l ih=>
  intro p q hl d hp c;cases p with
  |zero=>
   simp at hp;subst hp;obtain⟨b,rfl⟩:∃b,q=b+1:=⟨q-1,O'⟩
   simp only[List.getElem?_cons_succ]at c;simp only[List.filterMap_cons,List.nodup_cons]at hl;exact hl.1 (List.mem_filterMap.2 ⟨some j,mem_of_getElem? c,rfl⟩)
  |succ p=>
   obtain⟨b,rfl⟩:∃b,q=b+1:=⟨q-1,O'⟩
   simp only[List.getElem?_cons_succ]at hp c;refine ih p b ?_ O' hp c;cases y with
   |none=>simpa using hl
   |some z=>simp only[List.filterMap_cons,List.nodup_cons]at hl;exact hl.2
def s0U (h:Rp E A s ρ S a as w){ids:List (Option Nat)}(m:M5 s ids)(b:c0I (ids.filterMap fun x=>x)=true):j0T (ids.map (place ρ)):=by
 have b:=p0X b;intro i j v n g hi l k hk e;rw[List.getElem?_map]at hi l;obtain⟨x,f,rfl⟩:=Option.map_eq_some_iff.1 hi;obtain⟨x',c,rfl⟩:=Option.map_eq_some_iff.1 l;cases x with
 |none=>cases hk
 |some p=>
  cases x' with
  |none=>cases e
  |some q=>
   by_cases d:p=q
   ·subst d;rcases Nat.lt_or_gt_of_ne g with h1|h1
    ·exact r0j ids i j b h1 f c
    ·exact r0j ids j i b h1 c f
   ·exact h.dj p q d (m p (mem_of_getElem? f)) (m q (mem_of_getElem? c)) k hk e
def i0F {ids:List (Option Nat)}{k:Nat}(h:W8 (ids.map (place ρ)) k):∃id,id∈(ids.filterMap fun x=>x)/\some id∈ids/\Bk (ρ id) k:=by
 obtain⟨v,c,hk⟩:=h;obtain⟨x,b,rfl⟩:=mem_map.1 c;cases x with
 |none=>cases hk
 |some id=>exact⟨id,List.mem_filterMap.2 ⟨some id,b,rfl⟩,b,hk⟩
def Rp.after (h:Rp E A s ρ S a as w){ids:List (Option Nat)}(ho:M5 s ids){w1:World}{S2:D0}{d:List Value}(hb:D9 (W8 (ids.map (place ρ))) w w1)(hk:P0 w.heap S w1.heap S2)(hs:∀b,S b->¬W8 (ids.map (place ρ)) b->S2 b)
  (b1:∀b,S2 b->b<w1.heap.size) (c0:j0T d) (b5:∀b,W8 d b->S2 b/\(W8 (ids.map (place ρ)) b\/w.heap.size<=b)) {tl:List (Nat×Th E.D)}
  (hn:Y5 E (N7 ρ s.nid d) (s.nid+d.length) w1.heap S2 (Z0 s (ids.filterMap fun x=>x)) tl d):Rp E A ((Z0 s (ids.filterMap fun x=>x)).more tl d.length) (N7 ρ s.nid d) S2 a as w1:=by
 obtain⟨g1,g2,g3,g4,g5,g6⟩:=h01 (ids.filterMap fun x=>x) s;have a1:((Z0 s (ids.filterMap fun x=>x)).more tl d.length).nid=s.nid+d.length:=by show _+_=_;rw[g1]
 have hw:∀k,W8 (ids.map (place ρ)) k->S k/\¬A.S0 k/\Wr A.W0 A.w0 k:=fun k hk=>by
  obtain⟨id,_,h2,h3⟩:=i0F hk;exact h.ow id (ho id h2) k h3
 have low:∀j,j<s.nid->F0 ((Z0 s (ids.filterMap fun x=>x)).more tl d.length) j=.gone\/(F0 ((Z0 s (ids.filterMap fun x=>x)).more tl d.length) j=F0 s j/\(Q1 (F0 s j)=true->j∉ids.filterMap fun x=>x)):=by
  intro j hj;rw[g0g _ _ _ _ (fun p hp=>by have:=hn.keys p hp;rw[g1]at this;omega)];obtain⟨k1,I⟩:=g0K (ids.filterMap fun x=>x) s j
  by_cases hm:j∈ids.filterMap fun x=>x
  ·exact .inl (k1 hm)
  ·rcases I with I|I
   ·exact .inr ⟨I,fun _=>hm⟩
   ·exact .inl I
 have high:∀i,s.nid+d.length<=i->F0 ((Z0 s (ids.filterMap fun x=>x)).more tl d.length) i=.gone:=by
  intro i hi;rw[g0g _ _ _ _ (fun p hp=>by have:=hn.keys p hp;rw[g1]at this;omega)];obtain⟨k1,I⟩:=g0K (ids.filterMap fun x=>x) s i;rcases I with I|I
  ·rw[I];exact h.lt i O'
  ·exact I
 have J:∀j,Q1 (F0 s j)=true->(j∉ids.filterMap fun x=>x)->∀k,Bk (ρ j) k->¬W8 (ids.map (place ρ)) k:=by
  intro j hj hm k hk hB;obtain⟨id,h1,h2,h3⟩:=i0F hB;have:id≠j:=by rintro rfl;exact hm h1
  exact h.dj id j this (ho id h2) hj k h3 hk
 have live:∀j,Q1 (F0 s j)=true->∀k,Bk (ρ j) k->k<w.heap.size:=fun j hj k hk=>(h.th j).live hj k hk;have new:∀i,s.nid<=i->i<s.nid+d.length->∃v,d[i-s.nid]?=some v/\N7 ρ s.nid d i=v:=by
  intro i h1 h2;have b1:i-s.nid<d.length:=O'
  refine⟨d[i-s.nid],by simp[b1],?_⟩;have:=j0V (ρ:=ρ) (n0:=s.nid) (pl:=d) (i:=i-s.nid) (v:=d[i-s.nid]) (by simp[b1]);rw[show s.nid+(i-s.nid)=i from O']at this;exact this
 refine⟨⟨⟨hb.os.trans h.cx.bel.os,hb.tape.trans h.cx.bel.tape,hb.output.trans h.cx.bel.output,Nat.le_trans h.cx.bel.size hb.size,fun k h1 h2=>?_⟩,fun b b4=>hs b (h.cx.sub b b4) fun hB=>(hw b hB).2.1 b4,b1,h.cx.lt0⟩,?_,?_,fun id=>?_,fun i l k z=>?_,fun i U c4 l y k z R=>?_,fun i hi=>high i (by rw[<-a1];exact hi),fun r q i f hr e F t xs hq=>?_,fun H1 S1 ha=>(h.kp H1 S1 ha).trans hk,fun i u ha=>⟨by rw[a1];have:=(h.hp i u ha).1;omega,by rw[Y6 (h.hp i u ha).1];exact(h.hp i u ha).2⟩⟩
 ·rw[hb.block k (Nat.lt_of_lt_of_le h1 h.cx.bel.size) (fun hB=>?_),h.cx.bel.block k h1 h2];rcases(hw k hB).2.2 with h3|h3
  ·exact h2 h3
  ·omega
 ·rw[a1];show b0C E _ _ _ _ (Z0 s (ids.filterMap fun x=>x)).n (Z0 s (ids.filterMap fun x=>x)).fr a;rw[g2,g3];exact h.fr.mono (fun i hi=>by rw[Y6 hi]) (Nat.le_add_right _ _) hk
 ·rw[a1];show a0t E _ _ _ _ (Z0 s (ids.filterMap fun x=>x)).stk as;rw[g4];exact h.stk.mono (fun i hi=>by rw[Y6 hi]) (Nat.le_add_right _ _) hk
 ·rw[a1];rcases lt_or_ge id s.nid with g|C
  ·rcases low id g with e|⟨e1,e2⟩
   ·rw[e];trivial
   ·rw[e1,Y6 g];exact K3.mono (fun i hi=>by rw[Y6 hi]) (Nat.le_add_right _ _) hk (fun l b b7=>hb.block b (live id l b b7) (J id l (e2 l) b b7)) (h.th id)
  ·rcases lt_or_ge id (s.nid+d.length)with g|hge3
   ·obtain⟨v,hv,hp⟩:=new id C g;have:=(hn.th (id-s.nid) v hv).1;rw[g1,show s.nid+(id-s.nid)=id from O']at this;rw[hp];exact this
   ·rw[high id hge3];trivial
 ·rcases lt_or_ge i s.nid with g|C
  ·rcases low i g with e|⟨e1,e2⟩
   ·rw[e]at l;cases l
   ·rw[e1]at l;rw[Y6 g]at z;obtain⟨k1,I,k3⟩:=h.ow i l k z;exact⟨hs k k1 (J i l (e2 l) k z),I,k3⟩
  ·rcases lt_or_ge i (s.nid+d.length)with g|hge3
   ·obtain⟨v,hv,hp⟩:=new i C g;rw[hp]at z;obtain⟨k1,I⟩:=b5 k ⟨v,mem_of_getElem? hv,z⟩;rcases I with I|I
    ·exact⟨k1,(hw k I).2⟩
    ·refine⟨k1,fun h0=>?_,.inr (Nat.le_trans h.cx.bel.size I)⟩;have:=h.cx.lt k (h.cx.sub k h0);omega
   ·rw[high i hge3]at l;cases l
 ·have mix:∀i U,i<s.nid->s.nid<=U->Q1 (F0 ((Z0 s (ids.filterMap fun x=>x)).more tl d.length) i)=true->Q1 (F0 ((Z0 s (ids.filterMap fun x=>x)).more tl d.length) U)=true->
    Bk (N7 ρ s.nid d i) k->Bk (N7 ρ s.nid d U) k->False:=by
   intro i U g C l y z R;rcases low i g with e|⟨e1,e2⟩
   ·rw[e]at l;cases l
   ·rw[e1]at l;rw[Y6 g]at z;rcases lt_or_ge U (s.nid+d.length)with hlt3|hge3
    ·obtain⟨v,hv,hp⟩:=new U C hlt3;rw[hp]at R;obtain⟨k1,k4⟩:=b5 k ⟨v,mem_of_getElem? hv,R⟩;rcases k4 with k4|k4
     ·exact J i l (e2 l) k z k4
     ·have:=live i l k z;omega
    ·rw[high U hge3]at y;cases y
  rcases lt_or_ge i s.nid with hl|hl
  ·rcases lt_or_ge U s.nid with hl'|hl'
   ·rcases low i hl with e|⟨e1,e2⟩
    ·rw[e]at l;cases l
    ·rcases low U hl' with e'|⟨e1',e2'⟩
     ·rw[e']at y;cases y
     ·rw[e1]at l;rw[e1']at y;rw[Y6 hl]at z;rw[Y6 hl']at R;exact h.dj i U c4 l y k z R
   ·exact mix i U hl hl' l y z R
  ·rcases lt_or_ge U s.nid with hl'|hl'
   ·exact mix U i hl' hl y l R z
   ·rcases lt_or_ge i (s.nid+d.length)with g|hge3
    ·rcases lt_or_ge U (s.nid+d.length)with hlt2'|hge3'
     ·obtain⟨v,hv,hp⟩:=new i hl g;obtain⟨v',b8,b9⟩:=new U hl' hlt2';rw[hp]at z;rw[b9]at R;exact c0 (i-s.nid) (U-s.nid) v v' O' hv b8 k z R
     ·rw[high U hge3']at y;cases y
    ·rw[high i hge3]at l;cases l
 ·have c3:r<s.nid/\F0 s r=.rof q i f:=by
   rcases lt_or_ge r s.nid with g|C
   ·rcases low r g with e'|⟨e1,_⟩
    ·rw[e']at hr;cases hr
    ·exact⟨g,by rw[<-e1];exact hr⟩
   ·rcases lt_or_ge r (s.nid+d.length)with g|hge3
    ·obtain⟨v,hv,hp⟩:=new r C g;have:=(hn.th (r-s.nid) v hv).2;rw[g1,show s.nid+(r-s.nid)=r from O',hr]at this;cases this
    ·rw[high r hge3]at hr;cases hr
  obtain⟨h1,h2⟩:=c3;have b6:=h.c0a h2;rcases low q b6 with e'|⟨e1,e2⟩
  ·rw[e']at hq;cases hq
  ·rw[e1]at hq;have b2:Q1 (F0 s q)=true:=by rw[hq];rfl
   rw[Y6 b6,Y6 h1];obtain⟨b,o,m,c,k1,I,k3,k4⟩:=h.rf r q i f h2 e F t xs hq;refine⟨b,o,m,c,k1,I,k3,?_⟩;have b3:Bk (ρ q) b:=Bk.hd (by
    have ht:=h.th q;rw[hq]at ht;obtain⟨cs,ht⟩:=ht;have:=ht.row;rw[k1]at this ⊢;exact this.i0n O')
   rw[<-k4];unfold O1;rw[hb.block b (live q b2 b b3) (J q b2 (e2 b2) b b3)]
section
variable {E:Env}{A:E4}{s:St E.D}{ρ:Nat->Value}{S:D0}{a:Act}{as:List Act}{w:World}
def s0x {H:I0}{S g:D0}:∀{sh:Sh} {x:Q5 E.D sh} {c pl:List Value},f0B sh=true->SR E H S sh x c pl->SR E H g sh x c pl:=by
 intro sh x c pl h f;cases sh with
 |any=>unfold SR at f ⊢;exact f
 |d t=>cases t<;>first|(cases h;done)|(unfold SR at f ⊢;exact f)
 |own e t=>cases t<;>first|(cases h;done)|(unfold SR at f ⊢;exact f)
 |nil=>unfold SR at f ⊢;exact f
 |nilp=>unfold SR at f ⊢;exact f
 |kb b=>unfold SR at f ⊢;exact f
 |_=>cases h
def n0b {H:I0}{S i:D0}:∀{l:List Sh} {x:J4 E.D l} {us pl:List Value},l.all f0B=true->E2 E H S l x us pl->E2 E H i l x us pl
 |[],x,us,pl,_,h=>by unfold E2 at h ⊢;exact h
 |sh :: l,x,us,pl,hs,h=>by
  rw[List.all_cons,Bool.and_eq_true]at hs;unfold E2 at h ⊢;obtain⟨c,u,b,p1,e,h1,j,g,d,f⟩:=h;exact⟨c,u,b,p1,e,h1,j,g,s0x hs.1 d,n0b hs.2 f⟩
def y0X {H:I0}{S b:D0}{sh:Sh}{x:Q5 E.D sh}{c pl:List Value}(hs:k0j sh=true)(h:SR E H S sh x c pl):SR E H b sh x c pl:=by
 unfold k0j at hs;split at hs
 ·unfold SR at h ⊢;obtain⟨us,h1,d⟩:=h;exact⟨us,h1,n0b hs d⟩
 ·exact s0x hs h
def u0o {n:Nat}{H:I0}{v:V E.D}{i:Nat}(h:g0b v=some i){u:Value}(e:VS E ρ n H S v u):u=hd (ρ i)/\i<n:=by
 obtain⟨c,d,rfl⟩:=e;unfold g0b at h;split at h
 ·cases h;unfold VC at d;obtain⟨h1,_,rfl⟩:=d;exact⟨rfl,h1⟩
 ·cases h;unfold VC at d;obtain⟨h1,_,b,f,rfl⟩:=d;exact⟨by rw[f];simp[D4,vl,M3,V3],h1⟩
 ·cases h;unfold VC at d;obtain⟨h1,_,rfl⟩:=d;exact⟨rfl,h1⟩
 ·cases h
def VT.at {n:Nat}{H:I0}:∀{l:List (V E.D)} {us:List Value},VT E ρ n H S l us->∀{j:Nat} {v:V E.D},l[j]?=some v->VS E ρ n H S v (us.getD j undef)
 |[],us,_,j,v,b=>by simp at b
 |x :: l,us,h,j,v,b=>by
  unfold VT at h;obtain⟨c,u,h1,rfl,d⟩:=h;cases j with
  |zero=>simp at b;subst b;exact⟨c,h1,rfl⟩
  |succ j=>simp at b;simpa using VT.at d b
def u0D {D:Nat->Type}{args:List (V D)}:∀(l:List (Nat×Sh)),(D5 args l).length<=l.length
 |[]=>le_refl _
 |(j,sh) :: l=>by
  have:=u0D (args:=args) l;unfold D5;split
  ·split
   ·simpa using this
   ·simp;omega
  ·simp;omega
def n09 {D:Nat->Type}{args:List (V D)}:∀(l:List (Nat×Sh)),(D5 args l).length=l.length->∀{f:Nat->Value} {us:List Value},(∀(j:Nat) v i,args[j]?=some v->g0b v=some i->us.getD j undef=f i)->(D5 args l).map (fun p=>f p.1)=l.map fun p=>us.getD p.1 undef
 |[],_,f,us,_=>rfl
 |(j,sh) :: l,h,f,us,hf=>by
  have hl:=u0D (args:=args) l;unfold D5 at h ⊢;split at h
  ·rename_i v b;split at h
   ·rename_i i hi;rw[map_cons,map_cons,n09 l (by simpa using h) hf,hf j v i b hi]
   ·simp at h;omega
  ·simp at h;omega
def k0l {D:Nat->Type}{args:List (V D)}{n:Nat}:∀(l:List (Nat×Sh)),(∀(j:Nat) v i,args[j]?=some v->g0b v=some i->i<n)->∀p∈D5 args l,p.1<n
 |[],_,p,hp=>by cases hp
 |(j,sh) :: l,h,p,hp=>by
  unfold D5 at hp;split at hp
  ·rename_i v b;split at hp
   ·rename_i i hi;rcases mem_cons.1 hp with rfl|hp
    ·exact h j v i b hi
    ·exact k0l l h p hp
   ·exact k0l l h p hp
  ·exact k0l l h p hp
def w0d {D:Nat->Type}:∀(l:List Nat) (s:St D),∃t,(Z0 s l).th=t++s.th/\∀i∈l,∃p∈t,p.1=i
 |[],s=>⟨[],rfl,X'⟩
 |i :: l,s=>by
  obtain⟨t,h1,c⟩:=w0d l (s.at i .gone);refine⟨t++[(i,.gone)],by show(Z0 (s.at i .gone) l).th=_;rw[h1];simp[St.at],fun j b=>?_⟩;rcases mem_cons.1 b with rfl|b
  ·exact⟨(j,.gone),X',rfl⟩
  ·obtain⟨p,hp,e⟩:=c j b;exact⟨p,by simp[hp],e⟩
def t0T {D:Nat->Type}:∀(l:List Nat) (s:St D),(a0D s l).nid=s.nid/\(a0D s l).fr=s.fr/\(a0D s l).n=s.n/\(a0D s l).stk=s.stk/\∃t,(a0D s l).th=t++s.th
 |[],s=>⟨rfl,rfl,rfl,rfl,[],rfl⟩
 |q :: l,s=>by
  obtain⟨h1,f,b,c,t,k⟩:=t0T l (H7 s q);obtain⟨h,g,j,i,e,d⟩:=a0q (X9 q s.th) s;exact⟨h1.trans h,f.trans g,b.trans j,c.trans i,t++e,by show(a0D (H7 s q) l).th=_;rw[k];show t++(Z0 s _).th=_;rw[d];simp⟩
def Tp.t0x:∀(l:List Nat) {s:St E.D},Tp E A s ρ S w->Tp E A (a0D s l) ρ S w
 |[],_,h=>h
 |q :: l,s,h=>Tp.t0x l (s:=H7 s q) (h.t0Q _)
def v01 {D:Nat->Type}{r q f:Nat}{i:Int}:∀{l:List Nat} {s:St D},F0 (a0D s l) r=.rof q i f->F0 s r=.rof q i f/\q∉l
 |[],s,h=>⟨h,X'⟩
 |q' :: l,s,h=>by
  obtain⟨h1,d⟩:=v01 (l:=l) (s:=H7 s q') h;obtain⟨b,c⟩:=l0T h1;exact⟨b,by simp[c,d]⟩
def H0M (hE:T1 E){c:Sm E.D}(hc:U0 E c){R:Type}{args:List (V E.D)}{k:K E R}{r:R}(hk:j0X E s c args k=some r)(h:Rp E A s ρ S a as w){us:List Value}(hv:VT E ρ s.nid w.heap S args us):Calls E.P c.f us.toArray w (p0P E A s ρ a as w k r):=by
 unfold j0X at hk;split at hk<;>try cases hk
 rename_i s1 hf;split at hk<;>try cases hk
 rename_i ids x e2;split at hk<;>try cases hk
 rename_i b5;rw[Bool.and_eq_true,beq_eq]at b5;obtain⟨c9,h8⟩:=b5;obtain⟨y,hy,hk⟩:=a0c hk;obtain⟨S1,b8,C,c6,c7,b9⟩:=a0g hE _ s _ s1 hf S h;have e5:VT E ρ s1.nid w.heap S1 args us:=by rw[b9];exact hv.mono (fun _ _=>rfl) (le_refl _) (P0.less b8)
 obtain⟨a1,d⟩:=f0A hE C.th c.ins args ⟨ids,x⟩ us e2 e5;have a1:E2 E w.heap S1 c.ins x us (ids.map (place ρ)):=a1;have d:M5 s1 ids:=d;have o:M5 s ids:=fun id hi=>by rw[b0g _ s _ s1 hf id (d id hi)];exact d id hi
 refine(hc w S1 us (ids.map (place ρ)) x y hy a1 C.cx.lt (fun b m=>?_) (s0U C d c9)).mono ?_
 ·obtain⟨id,_,g,h3⟩:=i0F m;exact(C.ow id (d id g) b h3).1
 rintro e w1 ⟨v,S2,pl1,rfl,q1,q2,q3,q4,q5,q6,q7⟩
 have main:∀(sB:St E.D) (SB U:D0),Rp E A sB ρ SB a as w->Ext s sB->sB.fr=s.fr->sB.nid=s.nid->M5 sB ids->E2 E w1.heap U (c.res :: c.back.map Prod.snd) y (v :: c.back.map fun p=>us.getD p.1 undef) pl1->P0 w.heap SB w1.heap U->(∀b,SB b->¬W8 (ids.map (place ρ)) b->U b)->
   (∀b,U b->b<w1.heap.size)->(∀b,S2 b->U b)->J9 E (Z0 sB (ids.filterMap fun x=>x)) (c.res :: c.back.map Prod.snd) y (fun s2 l=>match l with
      |v :: l'=>k (a0I (a0D s2 ((D5 args c.back).map Prod.fst)) (D5 args c.back) l') v
      |[]=>none)=some r->p0P E A s ρ a as w k r (.returned v) w1:=by
  intro sB SB U hB b1 b3 j2 e3 p1 p2 p3 p4 p5 hk;obtain⟨g1,g2,g3,g4,g5,g6⟩:=h01 (ids.filterMap fun x=>x) sB;obtain⟨I,tl,e9,z,c8⟩:=g0k (ρ:=N7 ρ sB.nid pl1) (N:=sB.nid+pl1.length) _ y _ _ (Z0 sB (ids.filterMap fun x=>x)) _ p1 hk (fun i v hi=>by rw[g1];exact j0V hi) (by rw[g1];exact le_refl _);have hR:=Rp.after hB e3 q2 p2 p3 p4 q6 (fun b m=>⟨p5 b (q7 b m).1,(q7 b m).2⟩) c8;cases I with
  |nil=>unfold VT at z;cases z
  |cons V I=>
   unfold VT at z;obtain⟨c0,j1,h1,g,h3⟩:=z;simp only[List.cons.injEq]at g;obtain⟨g,rfl⟩:=g;have q:((Z0 sB (ids.filterMap fun x=>x)).more tl pl1.length).nid=sB.nid+pl1.length:=by show _+_=_;rw[g1]
   have b6:∀(j:Nat) v i,args[j]?=some v->g0b v=some i->us.getD j undef=hd (ρ i)/\i<s.nid:=fun j v i h1 g=>u0o g (hv.at h1);have h6:=n09 (args:=args) c.back h8 (f:=fun i=>hd (ρ i)) (us:=us) fun j v i h1 g=>(b6 j v i h1 g).1;have b7:=k0l (args:=args) (n:=s.nid) c.back fun j v i h1 g=>(b6 j v i h1 g).2;have e4:k (a0I (a0D ((Z0 sB (ids.filterMap fun x=>x)).more tl pl1.length) ((D5 args c.back).map Prod.fst)) (D5 args c.back) I) V=some r:=e9;obtain⟨c1,c2,c3,c4,ct,c5⟩:=t0T ((D5 args c.back).map Prod.fst) ((Z0 sB (ids.filterMap fun x=>x)).more tl pl1.length);obtain⟨ρ2,m1,m0,m2,m3,m4,m5,m6,m7⟩:=m0K (N:=sB.nid+pl1.length) (H:=w1.heap) (S1:=U) (D5 args c.back) I _ _ (Tp.t0x ((D5 args c.back).map Prod.fst) hR.tp) (fun p hp=>by rw[c1,q];have:=b7 p hp;omega) (fun p hp e F t _ r i f hr=>absurd (mem_map.2 ⟨p,hp,rfl⟩) (v01 hr).2) (by
    have e:(D5 args c.back).map (fun p=>hd (N7 ρ sB.nid pl1 p.1))=(D5 args c.back).map (fun p=>hd (ρ p.1)):=List.map_congr_left fun p hp=>by rw[Y6 (by have:=b7 p hp;omega)]
    rw[e,h6];exact h3)
   obtain⟨gt,h0,j0⟩:=w0d (ids.filterMap fun x=>x) sB;obtain⟨bt,h7⟩:=b1.th;have b4:(a0I (a0D ((Z0 sB (ids.filterMap fun x=>x)).more tl pl1.length) ((D5 args c.back).map Prod.fst)) (D5 args c.back) I).th=(m6++(ct++(tl++(gt++bt))))++s.th:=by
    rw[m7,c5];show m6++(ct++(tl++(Z0 sB (ids.filterMap fun x=>x)).th))=_;rw[h0,h7];simp
   have e7:=hR.fr.mono (ρ1:=ρ2) (fun i _=>m0 i) (le_refl _) (P0.refl _ _);have e6:=hR.stk.mono (ρ1:=ρ2) (fun i _=>m0 i) (le_refl _) (P0.refl _ _);refine⟨v,rfl,_,V,ρ2,U,e4,⟨m1.cx,?_,?_,m1.th,m1.ow,m1.dj,m1.lt,m1.rf,m1.kp,m1.hp⟩,?_,⟨?_,?_,⟨_,b4⟩,?_,?_⟩,?_,fun b m hm=>?_⟩
   ·rw[m2,m3,m4,c1,c2,c3];exact e7
   ·rw[m3,m5,c1,c4];exact e6
   ·rw[m3,c1,q];exact VS.mono (fun i _=>m0 i) (le_refl _) (P0.refl _ _) ⟨c0,h1,g⟩
   ·rw[m4,c3];show(Z0 sB _).n=_;rw[g3,b1.n]
   ·rw[m2,c2];show ∃l,(Z0 sB _).fr=l++s.fr;rw[g2,b3];exact⟨[],rfl⟩
   ·rw[m5,c4];show(Z0 sB _).stk=_;rw[g4,b1.stk]
   ·rw[m3,c1,q];omega
   ·rw[m2,c2];show(Z0 sB _).fr=_;rw[g2,b3]
   ·refine q2.block b m fun hB=>?_;obtain⟨id,i1,i2,i3⟩:=i0F hB;obtain⟨p,hp,e⟩:=j0 id i1;have b2:id<s.nid:=by
     rcases lt_or_ge id s.nid with h9|h9
     ·exact h9
     ·have:=o id i2;rw[h.lt id h9]at this;cases this
    exact hm id b2 (o id i2) (by rw[<-e];exact h0J b4 (by simp[hp])) i3
 cases J:(k0j c.res&&c.back.all fun p=>f0B p.2)with
 |false=>
  rw[J]at hk;exact main s1 S1 S2 C c6 c7 b9 d q1 q3 q4 q5 (fun _ h=>h) hk
 |true=>
  rw[J]at hk;rw[Bool.and_eq_true]at J;refine main s S (fun b=>S2 b\/(S b/\¬W8 (ids.map (place ρ)) b)) h (Ext.refl s) rfl rfl o ?_ ⟨q3.size,fun b m hS=>?_⟩ (fun b h1 g=>.inr ⟨h1,g⟩) (fun b m=>?_) (fun b m=>.inl m) hk
  ·unfold E2 at q1 ⊢;obtain⟨c0,u,e1,p1,p2,h1,g,h3,h4,h5⟩:=q1;refine⟨c0,u,e1,p1,p2,h1,g,h3,y0X J.1 h4,n0b ?_ h5⟩;rw[List.all_map];exact J.2
  ·obtain⟨k1,k2⟩:=q3.blk b m (fun h1=>hS (b8 b h1));exact⟨fun h1=>h1.elim k1 fun g=>hS g.1,k2⟩
  ·rcases m with m|m
   ·exact q5 b m
   ·exact Nat.lt_of_lt_of_le (h.cx.lt b m.1) q3.size
def j0h (i:T1 E){C:J3 E}(h:∀c∈C.sm,U0 E c):d0j E C:=by
 intro g args s c hl R k r hk A ρ S a as w us j e;have:∀l:List (Sm E.D),e0U E s args l g=some c->c∈l/\c.f=g:=by
  intro l
  induction l with
  |nil=>intro h;cases h
  |cons x l ih=>
   intro h;unfold e0U at h;split at h
   ·rename_i d;rw[beq_eq]at d;split at h
    ·cases h;exact⟨List.mem_cons_self,d⟩
    ·obtain⟨h1,b⟩:=ih h;exact⟨List.mem_cons_of_mem _ h1,b⟩
   ·obtain⟨h1,b⟩:=ih h;exact⟨List.mem_cons_of_mem _ h1,b⟩
 obtain⟨h1,rfl⟩:=this C.sm hl;exact H0M i (h c h1) hk j e
section
variable (E:Env)
def w0e (b:St E.D)(c:List (Nat×Sh))(shs:List Sh)(v:V E.D):Option (J4 E.D shs):=
 let vs:=v :: c.map fun p=>thV b p.1
 match T6 E C8 b (c0F E b shs vs)with
 |some s1=>match W7 E s1 shs vs with
  |some ⟨ids,y⟩=>match c0I (ids.filterMap fun x=>x)with|true=>some y|false=>none
  |none=>none
 |none=>none
noncomputable def s04 (C:J3 E)(f:Nat):Inl E:=fun g args s k=>match e0x E g with
   |none=>none
   |some (fn,body)=>match Nat.ble args.length fn.ntmps with
    |false=>none
    |true=>mod E C f body (C.ann g) { s with n:=fn.ntmps,fr:=P9 args 0,stk:=(s.n,s.fr) :: s.stk } fun e s'=>match e with
     |.ex _=>none
     |.nrm=>leave E k fn s'
     |.ret=>leave E k fn s'
noncomputable def I1 (C:J3 E)(f:Nat)(ins:List Sh)(res:Sh)(back:List (Nat×Sh))(x:J4 E.D ins):Option (J4 E.D (res :: back.map Prod.snd)):=
 J9 E { n:=0,fr:=[],th:=[],nid:=0,stk:=[] } ins x fun s args=>match Nat.beq (D5 args back).length back.length with
  |true=>s04 E C C8 f args { s with n:=args.length,fr:=P9 args 0 } fun s' v=>w0e E s' (D5 args back) (res :: back.map Prod.snd) v
  |false=>none
end
section
variable {E:Env}
def t0h {D:Nat->Type}:∀(l:List (V D)) (i j:Nat) (v:V D),l[j]?=some v->F4 (P9 l i) (i+j)=some v
 |[],i,j,v,h=>by simp at h
 |x :: l,i,j,v,h=>by
  unfold P9;rw[a0X];cases j with
  |zero=>simp at h;simp[h]
  |succ j=>
   rw[if_neg O',show i+(j+1)=i+1+j from O'];exact t0h l (i+1) j v (by simpa using h)
def k05 (hE:T1 E){C:J3 E}(hs:d0j E C){c:Sm E.D}(hm:∀x y,c.m x=some y->I1 E C c.f c.ins c.res c.back x=some y):U0 E c:=by
 intro w S us pl x y hy c4 hS c3 c9;have o:=hm x y hy;unfold I1 at o
 let ρ0:Nat->Value:=fun i=>(pl[i]?).getD undef
 obtain⟨args,tl,hk,J,I⟩:=g0k (ρ:=ρ0) (N:=0+pl.length) _ x us pl _ _ c4 o (fun i v hi=>by show(pl[0+i]?).getD undef=v;rw[zero_add,hi];rfl) (le_refl _);split at hk<;>try cases hk
 rename_i b4;rw[beq_eq]at b4;have b2:e0G E (s04 E C C8):=q00 hE (s0S hE hs (fun An=>y0F hE (C:=J3.at E C An) hs) C8)
 let A:E4:={ w0:=w,W0:=W8 pl,S0:=fun b=>S b/\¬W8 pl b,anc:=fun H1 S1=>H1=w.heap/\S1=S }
 have g:∀id,(id<pl.length/\∃v,pl[id]?=some v/\ρ0 id=v/\K3 E ρ0 (0+pl.length) w.heap S (F0 ((({ n:=0,fr:=[],th:=[],nid:=0,stk:=[] }:St E.D)).more tl pl.length) id) v)\/F0 ((({ n:=0,fr:=[],th:=[],nid:=0,stk:=[] }:St E.D)).more tl pl.length) id=.gone:=by
  intro id;rcases lt_or_ge id pl.length with h1|h1
  ·have:=(I.th id pl[id] (by simp[h1])).1;rw[show({ n:=0,fr:=[],th:=[],nid:=0,stk:=[] }:St E.D).nid+id=id from zero_add id]at this;exact .inl ⟨h1,pl[id],by simp[h1],by show(pl[id]?).getD undef=_;simp[h1],this⟩
  ·refine .inr ?_;rw[g0g _ _ _ _ (fun p hp=>by have:=I.keys p hp;simp only[zero_add]at this;omega)];rfl
 have hlen:=J.length;have hR:Rp E A { (({ n:=0,fr:=[],th:=[],nid:=0,stk:=[] }:St E.D)).more tl pl.length with n:=args.length,fr:=P9 args 0 } ρ0 S { tmps:=us.toArray,defers:=[] } [] w:=by
  refine⟨⟨⟨rfl,rfl,rfl,le_refl _,fun _ _ _=>rfl⟩,fun b h=>h.1,hS,fun b h=>hS b h.1⟩,⟨by simpa using hlen,rfl,fun t v ht=>?_⟩,trivial,fun id=>?_,fun id ho k hk=>?_,fun i j b7 hi hj k hk b1=>?_,fun id a1=>?_,fun r q i f hr=>?_,?_,fun _ _ h=>h.elim⟩
  ·obtain⟨u,h1,_,h3⟩:=l0U J 0 t v ht;rw[Nat.sub_zero]at h1;have:us.toArray.getD t undef=u:=by
    rw[Array.getD_eq_getD_getElem?];simp[h1]
   rw[show({ tmps:=us.toArray,defers:=[] }:Act).tmps=us.toArray from rfl,this];exact h3
  ·show K3 E ρ0 (0+pl.length) w.heap S (F0 ((({ n:=0,fr:=[],th:=[],nid:=0,stk:=[] }:St E.D)).more tl pl.length) id) (ρ0 id);rcases g id with⟨_,v,_,l,h3⟩|h
   ·rw[l];exact h3
   ·rw[h];trivial
  ·have ho:Q1 (F0 ((({ n:=0,fr:=[],th:=[],nid:=0,stk:=[] }:St E.D)).more tl pl.length) id)=true:=ho;rcases g id with⟨_,v,h1,l,_⟩|h
   ·have hB:W8 pl k:=⟨v,mem_of_getElem? h1,by rw[<-l];exact hk⟩
    exact⟨c3 k hB,fun h=>h.2 hB,.inl hB⟩
   ·rw[h]at ho;cases ho
  ·have hi:Q1 (F0 ((({ n:=0,fr:=[],th:=[],nid:=0,stk:=[] }:St E.D)).more tl pl.length) i)=true:=hi;have hj:Q1 (F0 ((({ n:=0,fr:=[],th:=[],nid:=0,stk:=[] }:St E.D)).more tl pl.length) j)=true:=hj;rcases g i with⟨_,v,h1,l,_⟩|h
   ·rcases g j with⟨_,v',c6,c7,_⟩|h'
    ·rw[l]at hk;rw[c7]at b1;exact c9 i j v v' b7 h1 c6 k hk b1
    ·rw[h']at hj;cases hj
   ·rw[h]at hi;cases hi
  ·have a1:0+pl.length<=id:=a1;rcases g id with⟨h1,_⟩|h
   ·omega
   ·exact h
  ·exfalso;have hr:F0 ((({ n:=0,fr:=[],th:=[],nid:=0,stk:=[] }:St E.D)).more tl pl.length) r=.rof q i f:=hr;rcases lt_or_ge r pl.length with h1|h1
   ·have:=(I.th r pl[r] (by simp[h1])).2;rw[show({ n:=0,fr:=[],th:=[],nid:=0,stk:=[] }:St E.D).nid+r=r from zero_add r,hr]at this;cases this
   ·rcases g r with⟨l,_⟩|l
    ·omega
    ·rw[hr]at l;cases l
  ·rintro H1 S1 ⟨rfl,rfl⟩
   exact P0.refl _ _
 refine(b2 _ c.f args _ _ y hk A ρ0 S _ [] w us hR J).mono ?_
 rintro e w1 ⟨v,rfl,s1,V,ρ1,S1,h1,l,h3,h4,h5⟩
 unfold w0e at h1;simp only at h1;split at h1<;>try cases h1
 rename_i s2 hf;split at h1<;>try cases h1
 rename_i ids y' b9;split at h1<;>try cases h1
 rename_i b8;obtain⟨S2,b3,d,e4,e3,c5⟩:=a0g hE _ s1 _ s2 hf S1 l;have c8:=n09 (args:=args) c.back b4 (f:=fun i=>hd (ρ1 i)) (us:=us) fun j v i e1 e2=>by
  have b6:=l.fr.slot j v (by rw[h5];have:=t0h args 0 j v e1;rwa [zero_add]at this);have:=(u0o e2 b6).1;rw[<-this];show us.getD j undef=us.toArray.getD j undef;simp[Array.getD_eq_getD_getElem?]
 have R:VT E ρ1 s2.nid w1.heap S2 (V :: (D5 args c.back).map fun p=>thV s1 p.1) (v :: c.back.map fun p=>us.getD p.1 undef):=by
  rw[c5,<-c8];obtain⟨c0,U,k2⟩:=h3.d0h b3;unfold VT;exact⟨c0,_,U,by rw[<-k2],VT.map fun p _=>(l.thV p.1).d0h b3⟩
 obtain⟨b5,z⟩:=f0A hE d.th _ _ ⟨ids,y⟩ _ b9 R;refine⟨v,S2,ids.map (place ρ1),rfl,b5,d.cx.bel,d.kp _ _ ⟨rfl,rfl⟩,fun b U k2=>d.cx.sub b ⟨U,k2⟩,d.cx.lt,s0U d z b8,fun b hb=>?_⟩;obtain⟨id,_,i2,i3⟩:=i0F hb;obtain⟨U,_,k3⟩:=d.ow id (z id i2) b i3;exact⟨U,k3⟩
end
end
end
