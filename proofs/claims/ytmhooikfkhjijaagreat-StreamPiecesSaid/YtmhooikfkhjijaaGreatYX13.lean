/- P. Its conditions: none. -/
import Derived.Test.YtmhooikfkhjijaaGreatYX12
open List (mem_of_getElem? mem_map map_cons mem_cons)
open Nat (lt_or_ge le_refl beq_eq zero_add)
set_option linter.all false
namespace Go.X
open Go.V Go.RowKit
def i0Q (pl:List Value):Prop:=∀(i j:Nat) (v b:Value),i≠j->pl[i]?=some v->pl[j]?=some b->∀k,Bk v k->¬Bk b k
def L8 (pl:List Value):D0:=fun k=>∃v∈pl,Bk v k
def C1 (E:Env)(c:Sm E.D):Prop:=∀(w:World) (S:D0) (us pl:List Value) (x:S4 E.D c.ins) (y:S4 E.D (c.res :: c.back.map Prod.snd)),c.m x=some y->I3 E w.heap S c.ins x us pl->
 (∀b,S b->b<w.heap.size)->(∀b,L8 pl b->S b)->i0Q pl->Calls E.P c.f us.toArray w fun e w1=>∃v S1 d,e=.returned v/\I3 E w1.heap S1 (c.res :: c.back.map Prod.snd) y (v :: c.back.map fun p=>us.getD p.1 undef) d/\
  Q8 (L8 pl) w w1/\U0 w.heap S w1.heap S1/\(∀b,S b->¬L8 pl b->S1 b)/\(∀b,S1 b->b<w1.heap.size)/\i0Q d/\∀b,L8 d b->S1 b/\(L8 pl b\/w.heap.size<=b)
section
variable {E:Env}{A:O4}{s:St E.D}{ρ:Nat->Value}{S:D0}{a:Act}{as:List Act}{w:World}
def r0w {j:Nat}:∀(l:List (Option Nat)) (p q:Nat),(l.filterMap fun x=>x).Nodup->p<q->l[p]?=some (some j)->l[q]?=some (some j)->False:=by
 intro l
 induction l with
 |nil=>intro p q _ _ hp;simp at hp
 |cons y l ih=>
  intro p q hl d hp c;cases p with
  |zero=>
   simp at hp;subst hp;obtain⟨b,rfl⟩:∃b,q=b+1:=⟨q-1,by omega⟩
   simp only[List.getElem?_cons_succ]at c;simp only[List.filterMap_cons,List.nodup_cons]at hl;exact hl.1 (List.mem_filterMap.2 ⟨some j,mem_of_getElem? c,rfl⟩)
  |succ p=>
   obtain⟨b,rfl⟩:∃b,q=b+1:=⟨q-1,by omega⟩
   simp only[List.getElem?_cons_succ]at hp c;refine ih p b ?_ (by omega) hp c;cases y with
   |none=>simpa using hl
   |some z=>simp only[List.filterMap_cons,List.nodup_cons]at hl;exact hl.2
def t0L (h:Rp E A s ρ S a as w){ids:List (Option Nat)}(l:W5 s ids)(b:c0j (ids.filterMap fun x=>x)=true):i0Q (ids.map (place ρ)):=by
 have b:=p0h b;intro i j v n f hi m k hk e;rw[List.getElem?_map]at hi m;obtain⟨x,g,rfl⟩:=Option.map_eq_some_iff.1 hi;obtain⟨x',c,rfl⟩:=Option.map_eq_some_iff.1 m;cases x with
 |none=>cases hk
 |some p=>
  cases x' with
  |none=>cases e
  |some q=>
   by_cases d:p=q
   ·subst d;rcases Nat.lt_or_gt_of_ne f with h1|h1
    ·exact r0w ids i j b h1 g c
    ·exact r0w ids j i b h1 c g
   ·exact h.dj p q d (l p (mem_of_getElem? g)) (l q (mem_of_getElem? c)) k hk e
def h0k {ids:List (Option Nat)}{k:Nat}(h:L8 (ids.map (place ρ)) k):∃id,id∈(ids.filterMap fun x=>x)/\some id∈ids/\Bk (ρ id) k:=by
 obtain⟨v,c,hk⟩:=h;obtain⟨x,b,rfl⟩:=mem_map.1 c;cases x with
 |none=>cases hk
 |some id=>exact⟨id,List.mem_filterMap.2 ⟨some id,b,rfl⟩,b,hk⟩
def Rp.after (h:Rp E A s ρ S a as w){ids:List (Option Nat)}(ho:W5 s ids){w1:World}{S2:D0}{d:List Value}(hb:Q8 (L8 (ids.map (place ρ))) w w1)(hk:U0 w.heap S w1.heap S2)(hs:∀b,S b->¬L8 (ids.map (place ρ)) b->S2 b)
  (b1:∀b,S2 b->b<w1.heap.size) (c5:i0Q d) (c0:∀b,L8 d b->S2 b/\(L8 (ids.map (place ρ)) b\/w.heap.size<=b)) {tl:List (Nat×Th E.D)}
  (hn:L6 E (D8 ρ s.nid d) (s.nid+d.length) w1.heap S2 (X0 s (ids.filterMap fun x=>x)) tl d):Rp E A ((X0 s (ids.filterMap fun x=>x)).more tl d.length) (D8 ρ s.nid d) S2 a as w1:=by
 obtain⟨g1,g2,g3,g4,g5,g6⟩:=h0i (ids.filterMap fun x=>x) s;have a1:((X0 s (ids.filterMap fun x=>x)).more tl d.length).nid=s.nid+d.length:=by show _+_=_;rw[g1]
 have hw:∀k,L8 (ids.map (place ρ)) k->S k/\¬A.S0 k/\Wr A.W0 A.w0 k:=fun k hk=>by
  obtain⟨id,_,h2,h3⟩:=h0k hk;exact h.ow id (ho id h2) k h3
 have low:∀j,j<s.nid->E0 ((X0 s (ids.filterMap fun x=>x)).more tl d.length) j=.gone\/(E0 ((X0 s (ids.filterMap fun x=>x)).more tl d.length) j=E0 s j/\(P1 (E0 s j)=true->j∉ids.filterMap fun x=>x)):=by
  intro j hj;rw[f0J _ _ _ _ (fun p hp=>by have:=hn.keys p hp;rw[g1]at this;omega)];obtain⟨k1,I⟩:=h0A (ids.filterMap fun x=>x) s j
  by_cases hm:j∈ids.filterMap fun x=>x
  ·exact .inl (k1 hm)
  ·rcases I with I|I
   ·exact .inr ⟨I,fun _=>hm⟩
   ·exact .inl I
 have high:∀i,s.nid+d.length<=i->E0 ((X0 s (ids.filterMap fun x=>x)).more tl d.length) i=.gone:=by
  intro i hi;rw[f0J _ _ _ _ (fun p hp=>by have:=hn.keys p hp;rw[g1]at this;omega)];obtain⟨k1,I⟩:=h0A (ids.filterMap fun x=>x) s i;rcases I with I|I
  ·rw[I];exact h.lt i (by omega)
  ·exact I
 have R:∀j,P1 (E0 s j)=true->(j∉ids.filterMap fun x=>x)->∀k,Bk (ρ j) k->¬L8 (ids.map (place ρ)) k:=by
  intro j hj hm k hk hB;obtain⟨id,h1,h2,h3⟩:=h0k hB;have:id≠j:=by rintro rfl;exact hm h1
  exact h.dj id j this (ho id h2) hj k h3 hk
 have live:∀j,P1 (E0 s j)=true->∀k,Bk (ρ j) k->k<w.heap.size:=fun j hj k hk=>(h.th j).live hj k hk;have new:∀i,s.nid<=i->i<s.nid+d.length->∃v,d[i-s.nid]?=some v/\D8 ρ s.nid d i=v:=by
  intro i h1 h2;have b1:i-s.nid<d.length:=by omega
  refine⟨d[i-s.nid],by simp[b1],?_⟩;have:=j0B (ρ:=ρ) (n0:=s.nid) (pl:=d) (i:=i-s.nid) (v:=d[i-s.nid]) (by simp[b1]);rw[show s.nid+(i-s.nid)=i from by omega]at this;exact this
 refine⟨⟨⟨hb.os.trans h.cx.bel.os,hb.tape.trans h.cx.bel.tape,hb.output.trans h.cx.bel.output,Nat.le_trans h.cx.bel.size hb.size,fun k h1 h2=>?_⟩,fun b b3=>hs b (h.cx.sub b b3) fun hB=>(hw b hB).2.1 b3,b1,h.cx.lt0⟩,?_,?_,fun id=>?_,fun i l k z=>?_,fun i U c8 l y k z J=>?_,fun i hi=>high i (by rw[<-a1];exact hi),fun r q i f hr e F t xs hq=>?_,fun H1 S1 ha=>(h.kp H1 S1 ha).trans hk,fun i u ha=>⟨by rw[a1];have:=(h.hp i u ha).1;omega,by rw[e7 (h.hp i u ha).1];exact(h.hp i u ha).2⟩⟩
 ·rw[hb.block k (Nat.lt_of_lt_of_le h1 h.cx.bel.size) (fun hB=>?_),h.cx.bel.block k h1 h2];rcases(hw k hB).2.2 with h3|h3
  ·exact h2 h3
  ·omega
 ·rw[a1];show b0x E _ _ _ _ (X0 s (ids.filterMap fun x=>x)).n (X0 s (ids.filterMap fun x=>x)).fr a;rw[g2,g3];exact h.fr.mono (fun i hi=>by rw[e7 hi]) (Nat.le_add_right _ _) hk
 ·rw[a1];show O9 E _ _ _ _ (X0 s (ids.filterMap fun x=>x)).stk as;rw[g4];exact h.stk.mono (fun i hi=>by rw[e7 hi]) (Nat.le_add_right _ _) hk
 ·rw[a1];rcases lt_or_ge id s.nid with g|C
  ·rcases low id g with e|⟨e1,e2⟩
   ·rw[e];trivial
   ·rw[e1,e7 g];exact X3.mono (fun i hi=>by rw[e7 hi]) (Nat.le_add_right _ _) hk (fun l b b4=>hb.block b (live id l b b4) (R id l (e2 l) b b4)) (h.th id)
  ·rcases lt_or_ge id (s.nid+d.length)with g|hge3
   ·obtain⟨v,hv,hp⟩:=new id C g;have:=(hn.th (id-s.nid) v hv).1;rw[g1,show s.nid+(id-s.nid)=id from by omega]at this;rw[hp];exact this
   ·rw[high id hge3];trivial
 ·rcases lt_or_ge i s.nid with g|C
  ·rcases low i g with e|⟨e1,e2⟩
   ·rw[e]at l;cases l
   ·rw[e1]at l;rw[e7 g]at z;obtain⟨k1,I,k3⟩:=h.ow i l k z;exact⟨hs k k1 (R i l (e2 l) k z),I,k3⟩
  ·rcases lt_or_ge i (s.nid+d.length)with g|hge3
   ·obtain⟨v,hv,hp⟩:=new i C g;rw[hp]at z;obtain⟨k1,I⟩:=c0 k ⟨v,mem_of_getElem? hv,z⟩;rcases I with I|I
    ·exact⟨k1,(hw k I).2⟩
    ·refine⟨k1,fun h0=>?_,.inr (Nat.le_trans h.cx.bel.size I)⟩;have:=h.cx.lt k (h.cx.sub k h0);omega
   ·rw[high i hge3]at l;cases l
 ·have mix:∀i U,i<s.nid->s.nid<=U->P1 (E0 ((X0 s (ids.filterMap fun x=>x)).more tl d.length) i)=true->P1 (E0 ((X0 s (ids.filterMap fun x=>x)).more tl d.length) U)=true->
    Bk (D8 ρ s.nid d i) k->Bk (D8 ρ s.nid d U) k->False:=by
   intro i U g C l y z J;rcases low i g with e|⟨e1,e2⟩
   ·rw[e]at l;cases l
   ·rw[e1]at l;rw[e7 g]at z;rcases lt_or_ge U (s.nid+d.length)with hlt3|hge3
    ·obtain⟨v,hv,hp⟩:=new U C hlt3;rw[hp]at J;obtain⟨k1,k4⟩:=c0 k ⟨v,mem_of_getElem? hv,J⟩;rcases k4 with k4|k4
     ·exact R i l (e2 l) k z k4
     ·have:=live i l k z;omega
    ·rw[high U hge3]at y;cases y
  rcases lt_or_ge i s.nid with hl|hl
  ·rcases lt_or_ge U s.nid with hl'|hl'
   ·rcases low i hl with e|⟨e1,e2⟩
    ·rw[e]at l;cases l
    ·rcases low U hl' with e'|⟨e1',e2'⟩
     ·rw[e']at y;cases y
     ·rw[e1]at l;rw[e1']at y;rw[e7 hl]at z;rw[e7 hl']at J;exact h.dj i U c8 l y k z J
   ·exact mix i U hl hl' l y z J
  ·rcases lt_or_ge U s.nid with hl'|hl'
   ·exact mix U i hl' hl y l J z
   ·rcases lt_or_ge i (s.nid+d.length)with g|hge3
    ·rcases lt_or_ge U (s.nid+d.length)with hlt2'|hge3'
     ·obtain⟨v,hv,hp⟩:=new i hl g;obtain⟨v',c6,e3⟩:=new U hl' hlt2';rw[hp]at z;rw[e3]at J;exact c5 (i-s.nid) (U-s.nid) v v' (by omega) hv c6 k z J
     ·rw[high U hge3']at y;cases y
    ·rw[high i hge3]at l;cases l
 ·have c4:r<s.nid/\E0 s r=.rof q i f:=by
   rcases lt_or_ge r s.nid with g|C
   ·rcases low r g with e'|⟨e1,_⟩
    ·rw[e']at hr;cases hr
    ·exact⟨g,by rw[<-e1];exact hr⟩
   ·rcases lt_or_ge r (s.nid+d.length)with g|hge3
    ·obtain⟨v,hv,hp⟩:=new r C g;have:=(hn.th (r-s.nid) v hv).2;rw[g1,show s.nid+(r-s.nid)=r from by omega,hr]at this;cases this
    ·rw[high r hge3]at hr;cases hr
  obtain⟨h1,h2⟩:=c4;have b5:=h.b0T h2;rcases low q b5 with e'|⟨e1,e2⟩
  ·rw[e']at hq;cases hq
  ·rw[e1]at hq;have b2:P1 (E0 s q)=true:=by rw[hq];rfl
   rw[e7 b5,e7 h1];obtain⟨b,o,m,c,k1,I,k3,k4⟩:=h.rf r q i f h2 e F t xs hq;refine⟨b,o,m,c,k1,I,k3,?_⟩;have c3:Bk (ρ q) b:=Bk.hd (by
    have ht:=h.th q;rw[hq]at ht;obtain⟨cs,ht⟩:=ht;have:=ht.row;rw[k1]at this ⊢;exact this.g0C (by omega))
   rw[<-k4];unfold U2;rw[hb.block b (live q b2 b c3) (R q b2 (e2 b2) b c3)]
section
variable {E:Env}{A:O4}{s:St E.D}{ρ:Nat->Value}{S:D0}{a:Act}{as:List Act}{w:World}
def s09 {H:K0}{S g:D0}:∀{sh:Sh} {x:D6 E.D sh} {c pl:List Value},f0u sh=true->SR E H S sh x c pl->SR E H g sh x c pl:=by
 intro sh x c pl h f;cases sh with
 |any=>unfold SR at f ⊢;exact f
 |d t=>cases t<;>first|(cases h;done)|(unfold SR at f ⊢;exact f)
 |own e t=>cases t<;>first|(cases h;done)|(unfold SR at f ⊢;exact f)
 |nil=>unfold SR at f ⊢;exact f
 |nilp=>unfold SR at f ⊢;exact f
 |kb b=>unfold SR at f ⊢;exact f
 |_=>cases h
def l0P {H:K0}{S j:D0}:∀{l:List Sh} {x:S4 E.D l} {us pl:List Value},l.all f0u=true->I3 E H S l x us pl->I3 E H j l x us pl
 |[],x,us,pl,_,h=>by unfold I3 at h ⊢;exact h
 |sh :: l,x,us,pl,hs,h=>by
  rw[List.all_cons,Bool.and_eq_true]at hs;unfold I3 at h ⊢;obtain⟨c,u,b,p1,e,h1,i,g,f,d⟩:=h;exact⟨c,u,b,p1,e,h1,i,g,s09 hs.1 f,l0P hs.2 d⟩
def F0z {H:K0}{S e:D0}{sh:Sh}{x:D6 E.D sh}{c pl:List Value}(b:k0l sh=true)(h:SR E H S sh x c pl):SR E H e sh x c pl:=by
 unfold k0l at b;split at b
 ·unfold SR at h ⊢;obtain⟨us,h1,d⟩:=h;exact⟨us,h1,l0P b d⟩
 ·exact s09 b h
def u0P {n:Nat}{H:K0}{v:V E.D}{i:Nat}(h:f0Z v=some i){u:Value}(e:VS E ρ n H S v u):u=hd (ρ i)/\i<n:=by
 obtain⟨c,d,rfl⟩:=e;unfold f0Z at h;split at h
 ·cases h;unfold VC at d;obtain⟨h1,_,rfl⟩:=d;exact⟨rfl,h1⟩
 ·cases h;unfold VC at d;obtain⟨h1,_,b,f,rfl⟩:=d;exact⟨by rw[f];simp[M4,vl,H4,C4],h1⟩
 ·cases h;unfold VC at d;obtain⟨h1,_,rfl⟩:=d;exact⟨rfl,h1⟩
 ·cases h
def VT.at {n:Nat}{H:K0}:∀{l:List (V E.D)} {us:List Value},VT E ρ n H S l us->∀{j:Nat} {v:V E.D},l[j]?=some v->VS E ρ n H S v (us.getD j undef)
 |[],us,_,j,v,b=>by simp at b
 |x :: l,us,h,j,v,b=>by
  unfold VT at h;obtain⟨c,u,h1,rfl,d⟩:=h;cases j with
  |zero=>simp at b;subst b;exact⟨c,h1,rfl⟩
  |succ j=>simp at b;simpa using VT.at d b
def s06 {D:Nat->Type}{args:List (V D)}:∀(l:List (Nat×Sh)),(M5 args l).length<=l.length
 |[]=>le_refl _
 |(j,sh) :: l=>by
  have:=s06 (args:=args) l;unfold M5;split
  ·split
   ·simpa using this
   ·simp;omega
  ·simp;omega
def m0d {D:Nat->Type}{args:List (V D)}:∀(l:List (Nat×Sh)),(M5 args l).length=l.length->∀{f:Nat->Value} {us:List Value},(∀(j:Nat) v i,args[j]?=some v->f0Z v=some i->us.getD j undef=f i)->(M5 args l).map (fun p=>f p.1)=l.map fun p=>us.getD p.1 undef
 |[],_,f,us,_=>rfl
 |(j,sh) :: l,h,f,us,hf=>by
  have hl:=s06 (args:=args) l;unfold M5 at h ⊢;split at h
  ·rename_i v b;split at h
   ·rename_i i hi;rw[map_cons,map_cons,m0d l (by simpa using h) hf,hf j v i b hi]
   ·simp at h;omega
  ·simp at h;omega
def i0a {D:Nat->Type}{args:List (V D)}{n:Nat}:∀(l:List (Nat×Sh)),(∀(j:Nat) v i,args[j]?=some v->f0Z v=some i->i<n)->∀p∈M5 args l,p.1<n
 |[],_,p,hp=>by cases hp
 |(j,sh) :: l,h,p,hp=>by
  unfold M5 at hp;split at hp
  ·rename_i v b;split at hp
   ·rename_i i hi;rcases mem_cons.1 hp with rfl|hp
    ·exact h j v i b hi
    ·exact i0a l h p hp
   ·exact i0a l h p hp
  ·exact i0a l h p hp
def u0s {D:Nat->Type}:∀(l:List Nat) (s:St D),∃t,(X0 s l).th=t++s.th/\∀i∈l,∃p∈t,p.1=i
 |[],s=>⟨[],rfl,by simp⟩
 |i :: l,s=>by
  obtain⟨t,h1,c⟩:=u0s l (s.at i .gone);refine⟨t++[(i,.gone)],by show(X0 (s.at i .gone) l).th=_;rw[h1];simp[St.at],fun j b=>?_⟩;rcases mem_cons.1 b with rfl|b
  ·exact⟨(j,.gone),by simp,rfl⟩
  ·obtain⟨p,hp,e⟩:=c j b;exact⟨p,by simp[hp],e⟩
def q0D {D:Nat->Type}:∀(l:List Nat) (s:St D),(a0k s l).nid=s.nid/\(a0k s l).fr=s.fr/\(a0k s l).n=s.n/\(a0k s l).stk=s.stk/\∃t,(a0k s l).th=t++s.th
 |[],s=>⟨rfl,rfl,rfl,rfl,[],rfl⟩
 |q :: l,s=>by
  obtain⟨h1,h,d,j,t,c⟩:=q0D l (N7 s q);obtain⟨g,e,b,i,k,f⟩:=a0d (C9 q s.th) s;exact⟨h1.trans g,h.trans e,d.trans b,j.trans i,t++k,by show(a0k (N7 s q) l).th=_;rw[c];show t++(X0 s _).th=_;rw[f];simp⟩
def Tp.u0S:∀(l:List Nat) {s:St E.D},Tp E A s ρ S w->Tp E A (a0k s l) ρ S w
 |[],_,h=>h
 |q :: l,s,h=>Tp.u0S l (s:=N7 s q) (h.p0N _)
def u0y {D:Nat->Type}{r q f:Nat}{i:Int}:∀{l:List Nat} {s:St D},E0 (a0k s l) r=.rof q i f->E0 s r=.rof q i f/\q∉l
 |[],s,h=>⟨h,by simp⟩
 |q' :: l,s,h=>by
  obtain⟨h1,d⟩:=u0y (l:=l) (s:=N7 s q') h;obtain⟨b,c⟩:=m0S h1;exact⟨b,by simp[c,d]⟩
def z0d (hE:Q1 E){c:Sm E.D}(hc:C1 E c){R:Type}{args:List (V E.D)}{k:K E R}{r:R}(hk:j0r E s c args k=some r)(h:Rp E A s ρ S a as w){us:List Value}(hv:VT E ρ s.nid w.heap S args us):Calls E.P c.f us.toArray w (k0K E A s ρ a as w k r):=by
 unfold j0r at hk;split at hk<;>try cases hk
 rename_i s1 hf;split at hk<;>try cases hk
 rename_i ids x k0;split at hk<;>try cases hk
 rename_i b3;rw[Bool.and_eq_true,beq_eq]at b3;obtain⟨e4,e9⟩:=b3;obtain⟨y,hy,hk⟩:=b0Z hk;obtain⟨S1,e1,I,j0,h6,e2⟩:=a0a hE _ s _ s1 hf S h;have h8:VT E ρ s1.nid w.heap S1 args us:=by rw[e2];exact hv.mono (fun _ _=>rfl) (le_refl _) (U0.less e1)
 obtain⟨b1,d⟩:=f00 hE I.th c.ins args ⟨ids,x⟩ us k0 h8;have b1:I3 E w.heap S1 c.ins x us (ids.map (place ρ)):=b1;have d:W5 s1 ids:=d;have q:W5 s ids:=fun id hi=>by rw[a0R _ s _ s1 hf id (d id hi)];exact d id hi
 refine(hc w S1 us (ids.map (place ρ)) x y hy b1 I.cx.lt (fun b m=>?_) (t0L I d e4)).mono ?_
 ·obtain⟨id,_,g,h3⟩:=h0k m;exact(I.ow id (d id g) b h3).1
 rintro e w1 ⟨v,S2,pl1,rfl,q1,q2,q3,q4,q5,q6,q7⟩
 have main:∀(sB:St E.D) (SB U:D0),Rp E A sB ρ SB a as w->Ext s sB->sB.fr=s.fr->sB.nid=s.nid->W5 sB ids->I3 E w1.heap U (c.res :: c.back.map Prod.snd) y (v :: c.back.map fun p=>us.getD p.1 undef) pl1->U0 w.heap SB w1.heap U->(∀b,SB b->¬L8 (ids.map (place ρ)) b->U b)->
   (∀b,U b->b<w1.heap.size)->(∀b,S2 b->U b)->c9 E (X0 sB (ids.filterMap fun x=>x)) (c.res :: c.back.map Prod.snd) y (fun s2 l=>match l with
      |v :: l'=>k (a0y (a0k s2 ((M5 args c.back).map Prod.fst)) (M5 args c.back) l') v
      |[]=>none)=some r->k0K E A s ρ a as w k r (.returned v) w1:=by
  intro sB SB U hB a1 b5 l0 e3 p1 p2 p3 p4 p5 hk;obtain⟨g1,g2,g3,g4,g5,g6⟩:=h0i (ids.filterMap fun x=>x) sB;obtain⟨J,tl,j2,z,e5⟩:=f0j (ρ:=D8 ρ sB.nid pl1) (N:=sB.nid+pl1.length) _ y _ _ (X0 sB (ids.filterMap fun x=>x)) _ p1 hk (fun i v hi=>by rw[g1];exact j0B hi) (by rw[g1];exact le_refl _);have hR:=Rp.after hB e3 q2 p2 p3 p4 q6 (fun b m=>⟨p5 b (q7 b m).1,(q7 b m).2⟩) e5;cases J with
  |nil=>unfold VT at z;cases z
  |cons V J=>
   unfold VT at z;obtain⟨c0,k8,h1,g,h3⟩:=z;simp only[List.cons.injEq]at g;obtain⟨g,rfl⟩:=g;have o:((X0 sB (ids.filterMap fun x=>x)).more tl pl1.length).nid=sB.nid+pl1.length:=by show _+_=_;rw[g1]
   have b2:∀(j:Nat) v i,args[j]?=some v->f0Z v=some i->us.getD j undef=hd (ρ i)/\i<s.nid:=fun j v i h1 g=>u0P g (hv.at h1);have k5:=m0d (args:=args) c.back e9 (f:=fun i=>hd (ρ i)) (us:=us) fun j v i h1 g=>(b2 j v i h1 g).1;have c8:=i0a (args:=args) (n:=s.nid) c.back fun j v i h1 g=>(b2 j v i h1 g).2;have j3:k (a0y (a0k ((X0 sB (ids.filterMap fun x=>x)).more tl pl1.length) ((M5 args c.back).map Prod.fst)) (M5 args c.back) J) V=some r:=j2;obtain⟨c1,c2,c3,c4,ct,c5⟩:=q0D ((M5 args c.back).map Prod.fst) ((X0 sB (ids.filterMap fun x=>x)).more tl pl1.length);obtain⟨ρ2,m1,m0,m2,m3,m4,m5,m6,m7⟩:=o09 (N:=sB.nid+pl1.length) (H:=w1.heap) (S1:=U) (M5 args c.back) J _ _ (Tp.u0S ((M5 args c.back).map Prod.fst) hR.tp) (fun p hp=>by rw[c1,o];have:=c8 p hp;omega) (fun p hp e F t _ r i f hr=>absurd (mem_map.2 ⟨p,hp,rfl⟩) (u0y hr).2) (by
    have e:(M5 args c.back).map (fun p=>hd (D8 ρ sB.nid pl1 p.1))=(M5 args c.back).map (fun p=>hd (ρ p.1)):=List.map_congr_left fun p hp=>by rw[e7 (by have:=c8 p hp;omega)]
    rw[e,k5];exact h3)
   obtain⟨gt,h7,k4⟩:=u0s (ids.filterMap fun x=>x) sB;obtain⟨bt,j1⟩:=a1.th;have c6:(a0y (a0k ((X0 sB (ids.filterMap fun x=>x)).more tl pl1.length) ((M5 args c.back).map Prod.fst)) (M5 args c.back) J).th=(m6++(ct++(tl++(gt++bt))))++s.th:=by
    rw[m7,c5];show m6++(ct++(tl++(X0 sB (ids.filterMap fun x=>x)).th))=_;rw[h7,j1];simp
   have k6:=hR.fr.mono (ρ1:=ρ2) (fun i _=>m0 i) (le_refl _) (U0.refl _ _);have h0:=hR.stk.mono (ρ1:=ρ2) (fun i _=>m0 i) (le_refl _) (U0.refl _ _);refine⟨v,rfl,_,V,ρ2,U,j3,⟨m1.cx,?_,?_,m1.th,m1.ow,m1.dj,m1.lt,m1.rf,m1.kp,m1.hp⟩,?_,⟨?_,?_,⟨_,c6⟩,?_,?_⟩,?_,fun b m hm=>?_⟩
   ·rw[m2,m3,m4,c1,c2,c3];exact k6
   ·rw[m3,m5,c1,c4];exact h0
   ·rw[m3,c1,o];exact VS.mono (fun i _=>m0 i) (le_refl _) (U0.refl _ _) ⟨c0,h1,g⟩
   ·rw[m4,c3];show(X0 sB _).n=_;rw[g3,a1.n]
   ·rw[m2,c2];show ∃l,(X0 sB _).fr=l++s.fr;rw[g2,b5];exact⟨[],rfl⟩
   ·rw[m5,c4];show(X0 sB _).stk=_;rw[g4,a1.stk]
   ·rw[m3,c1,o];omega
   ·rw[m2,c2];show(X0 sB _).fr=_;rw[g2,b5]
   ·refine q2.block b m fun hB=>?_;obtain⟨id,i1,i2,i3⟩:=h0k hB;obtain⟨p,hp,e⟩:=k4 id i1;have b4:id<s.nid:=by
     rcases lt_or_ge id s.nid with h9|h9
     ·exact h9
     ·have:=q id i2;rw[h.lt id h9]at this;cases this
    exact hm id b4 (q id i2) (by rw[<-e];exact g0j c6 (by simp[hp])) i3
 cases C:(k0l c.res&&c.back.all fun p=>f0u p.2)with
 |false=>
  rw[C]at hk;exact main s1 S1 S2 I j0 h6 e2 d q1 q3 q4 q5 (fun _ h=>h) hk
 |true=>
  rw[C]at hk;rw[Bool.and_eq_true]at C;refine main s S (fun b=>S2 b\/(S b/\¬L8 (ids.map (place ρ)) b)) h (Ext.refl s) rfl rfl q ?_ ⟨q3.size,fun b m hS=>?_⟩ (fun b h1 g=>.inr ⟨h1,g⟩) (fun b m=>?_) (fun b m=>.inl m) hk
  ·unfold I3 at q1 ⊢;obtain⟨c0,u,k3,p1,p2,h1,g,h3,h4,h5⟩:=q1;refine⟨c0,u,k3,p1,p2,h1,g,h3,F0z C.1 h4,l0P ?_ h5⟩;rw[List.all_map];exact C.2
  ·obtain⟨k1,k2⟩:=q3.blk b m (fun h1=>hS (e1 b h1));exact⟨fun h1=>h1.elim k1 fun g=>hS g.1,k2⟩
  ·rcases m with m|m
   ·exact q5 b m
   ·exact Nat.lt_of_lt_of_le (h.cx.lt b m.1) q3.size
def h04 (j:Q1 E){C:D4 E}(h:∀c∈C.sm,C1 E c):d0x E C:=by
 intro g args s c hl R k r hk A ρ S a as w us i e;have:∀l:List (Sm E.D),e0G E s args l g=some c->c∈l/\c.f=g:=by
  intro l
  induction l with
  |nil=>intro h;cases h
  |cons x l ih=>
   intro h;unfold e0G at h;split at h
   ·rename_i d;rw[beq_eq]at d;split at h
    ·cases h;exact⟨List.mem_cons_self,d⟩
    ·obtain⟨h1,b⟩:=ih h;exact⟨List.mem_cons_of_mem _ h1,b⟩
   ·obtain⟨h1,b⟩:=ih h;exact⟨List.mem_cons_of_mem _ h1,b⟩
 obtain⟨h1,rfl⟩:=this C.sm hl;exact z0d j (h c h1) hk i e
section
variable (E:Env)
def p01 (b:St E.D)(c:List (Nat×Sh))(shs:List Sh)(v:V E.D):Option (S4 E.D shs):=
 let vs:=v :: c.map fun p=>thV b p.1
 match b7 E C8 b (c0D E b shs vs)with
 |some s1=>match U7 E s1 shs vs with
  |some ⟨ids,y⟩=>match c0j (ids.filterMap fun x=>x)with|true=>some y|false=>none
  |none=>none
 |none=>none
noncomputable def q0G (C:D4 E)(f:Nat):Inl E:=fun g args s k=>match e0P E g with
   |none=>none
   |some (fn,body)=>match Nat.ble args.length fn.ntmps with
    |false=>none
    |true=>mod E C f body (C.ann g) { s with n:=fn.ntmps,fr:=G9 args 0,stk:=(s.n,s.fr) :: s.stk } fun e s'=>match e with
     |.ex _=>none
     |.nrm=>leave E k fn s'
     |.ret=>leave E k fn s'
noncomputable def O1 (C:D4 E)(f:Nat)(ins:List Sh)(res:Sh)(back:List (Nat×Sh))(x:S4 E.D ins):Option (S4 E.D (res :: back.map Prod.snd)):=
 c9 E { n:=0,fr:=[],th:=[],nid:=0,stk:=[] } ins x fun s args=>match Nat.beq (M5 args back).length back.length with
  |true=>q0G E C C8 f args { s with n:=args.length,fr:=G9 args 0 } fun s' v=>p01 E s' (M5 args back) (res :: back.map Prod.snd) v
  |false=>none
end
section
variable {E:Env}
def u00 {D:Nat->Type}:∀(l:List (V D)) (i j:Nat) (v:V D),l[j]?=some v->Q4 (G9 l i) (i+j)=some v
 |[],i,j,v,h=>by simp at h
 |x :: l,i,j,v,h=>by
  unfold G9;rw[a0q];cases j with
  |zero=>simp at h;simp[h]
  |succ j=>
   rw[if_neg (by omega),show i+(j+1)=i+1+j from by omega];exact u00 l (i+1) j v (by simpa using h)
def j0P (hE:Q1 E){C:D4 E}(hs:d0x E C){c:Sm E.D}(hm:∀x y,c.m x=some y->O1 E C c.f c.ins c.res c.back x=some y):C1 E c:=by
 intro w S us pl x y hy e4 hS e5 c5;have o:=hm x y hy;unfold O1 at o
 let ρ0:Nat->Value:=fun i=>(pl[i]?).getD undef
 obtain⟨args,tl,hk,J,I⟩:=f0j (ρ:=ρ0) (N:=0+pl.length) _ x us pl _ _ e4 o (fun i v hi=>by show(pl[0+i]?).getD undef=v;rw[zero_add,hi];rfl) (le_refl _);split at hk<;>try cases hk
 rename_i a1;rw[beq_eq]at a1;have b2:e0v E (q0G E C C8):=r01 hE (p0T hE hs (fun An=>w0d hE (C:=D4.at E C An) hs) C8)
 let A:O4:={ w0:=w,W0:=L8 pl,S0:=fun b=>S b/\¬L8 pl b,anc:=fun H1 S1=>H1=w.heap/\S1=S }
 have l:∀id,(id<pl.length/\∃v,pl[id]?=some v/\ρ0 id=v/\X3 E ρ0 (0+pl.length) w.heap S (E0 ((({ n:=0,fr:=[],th:=[],nid:=0,stk:=[] }:St E.D)).more tl pl.length) id) v)\/E0 ((({ n:=0,fr:=[],th:=[],nid:=0,stk:=[] }:St E.D)).more tl pl.length) id=.gone:=by
  intro id;rcases lt_or_ge id pl.length with h1|h1
  ·have:=(I.th id pl[id] (by simp[h1])).1;rw[show({ n:=0,fr:=[],th:=[],nid:=0,stk:=[] }:St E.D).nid+id=id from zero_add id]at this;exact .inl ⟨h1,pl[id],by simp[h1],by show(pl[id]?).getD undef=_;simp[h1],this⟩
  ·refine .inr ?_;rw[f0J _ _ _ _ (fun p hp=>by have:=I.keys p hp;simp only[zero_add]at this;omega)];rfl
 have hlen:=J.length;have hR:Rp E A { (({ n:=0,fr:=[],th:=[],nid:=0,stk:=[] }:St E.D)).more tl pl.length with n:=args.length,fr:=G9 args 0 } ρ0 S { tmps:=us.toArray,defers:=[] } [] w:=by
  refine⟨⟨⟨rfl,rfl,rfl,le_refl _,fun _ _ _=>rfl⟩,fun b h=>h.1,hS,fun b h=>hS b h.1⟩,⟨by simpa using hlen,rfl,fun t v ht=>?_⟩,trivial,fun id=>?_,fun id ho k hk=>?_,fun i j c3 hi hj k hk b4=>?_,fun id R=>?_,fun r q i f hr=>?_,?_,fun _ _ h=>h.elim⟩
  ·obtain⟨u,h1,_,h3⟩:=n0p J 0 t v ht;rw[Nat.sub_zero]at h1;have:us.toArray.getD t undef=u:=by
    rw[Array.getD_eq_getD_getElem?];simp[h1]
   rw[show({ tmps:=us.toArray,defers:=[] }:Act).tmps=us.toArray from rfl,this];exact h3
  ·show X3 E ρ0 (0+pl.length) w.heap S (E0 ((({ n:=0,fr:=[],th:=[],nid:=0,stk:=[] }:St E.D)).more tl pl.length) id) (ρ0 id);rcases l id with⟨_,v,_,g,h3⟩|h
   ·rw[g];exact h3
   ·rw[h];trivial
  ·have ho:P1 (E0 ((({ n:=0,fr:=[],th:=[],nid:=0,stk:=[] }:St E.D)).more tl pl.length) id)=true:=ho;rcases l id with⟨_,v,h1,g,_⟩|h
   ·have hB:L8 pl k:=⟨v,mem_of_getElem? h1,by rw[<-g];exact hk⟩
    exact⟨e5 k hB,fun h=>h.2 hB,.inl hB⟩
   ·rw[h]at ho;cases ho
  ·have hi:P1 (E0 ((({ n:=0,fr:=[],th:=[],nid:=0,stk:=[] }:St E.D)).more tl pl.length) i)=true:=hi;have hj:P1 (E0 ((({ n:=0,fr:=[],th:=[],nid:=0,stk:=[] }:St E.D)).more tl pl.length) j)=true:=hj;rcases l i with⟨_,v,h1,g,_⟩|h
   ·rcases l j with⟨_,v',c6,c4,_⟩|h'
    ·rw[g]at hk;rw[c4]at b4;exact c5 i j v v' c3 h1 c6 k hk b4
    ·rw[h']at hj;cases hj
   ·rw[h]at hi;cases hi
  ·have R:0+pl.length<=id:=R;rcases l id with⟨h1,_⟩|h
   ·omega
   ·exact h
  ·exfalso;have hr:E0 ((({ n:=0,fr:=[],th:=[],nid:=0,stk:=[] }:St E.D)).more tl pl.length) r=.rof q i f:=hr;rcases lt_or_ge r pl.length with h1|h1
   ·have:=(I.th r pl[r] (by simp[h1])).2;rw[show({ n:=0,fr:=[],th:=[],nid:=0,stk:=[] }:St E.D).nid+r=r from zero_add r,hr]at this;cases this
   ·rcases l r with⟨g,_⟩|g
    ·omega
    ·rw[hr]at g;cases g
  ·rintro H1 S1 ⟨rfl,rfl⟩
   exact U0.refl _ _
 refine(b2 _ c.f args _ _ y hk A ρ0 S _ [] w us hR J).mono ?_
 rintro e w1 ⟨v,rfl,s1,V,ρ1,S1,h1,g,h3,h4,h5⟩
 unfold p01 at h1;simp only at h1;split at h1<;>try cases h1
 rename_i s2 hf;split at h1<;>try cases h1
 rename_i ids y' h0;split at h1<;>try cases h1
 rename_i b5;obtain⟨S2,U,d,h7,h6,c8⟩:=a0a hE _ s1 _ s2 hf S1 g;have e9:=m0d (args:=args) c.back a1 (f:=fun i=>hd (ρ1 i)) (us:=us) fun j v i e1 e2=>by
  have e3:=g.fr.slot j v (by rw[h5];have:=u00 args 0 j v e1;rwa [zero_add]at this);have:=(u0P e2 e3).1;rw[<-this];show us.getD j undef=us.toArray.getD j undef;simp[Array.getD_eq_getD_getElem?]
 have b1:VT E ρ1 s2.nid w1.heap S2 (V :: (M5 args c.back).map fun p=>thV s1 p.1) (v :: c.back.map fun p=>us.getD p.1 undef):=by
  rw[c8,<-e9];obtain⟨c0,k1,k2⟩:=h3.c02 U;unfold VT;exact⟨c0,_,k1,by rw[<-k2],VT.map fun p _=>(g.thV p.1).c02 U⟩
 obtain⟨b3,z⟩:=f00 hE d.th _ _ ⟨ids,y⟩ _ h0 b1;refine⟨v,S2,ids.map (place ρ1),rfl,b3,d.cx.bel,d.kp _ _ ⟨rfl,rfl⟩,fun b k1 k2=>d.cx.sub b ⟨k1,k2⟩,d.cx.lt,t0L d z b5,fun b hb=>?_⟩;obtain⟨id,_,i2,i3⟩:=h0k hb;obtain⟨k1,_,k3⟩:=d.ow id (z id i2) b i3;exact⟨k1,k3⟩
end
end
end
