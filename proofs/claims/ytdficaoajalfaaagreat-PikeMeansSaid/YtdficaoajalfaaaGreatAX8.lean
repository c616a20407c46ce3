/- What shapes stand for; packing and unpacking: sound. Its conditions: none. -/
import Derived.Test.YtdficaoajalfaaaGreatAX7
open Nat (add_zero beq_eq)
set_option linter.all false
namespace Go.X
open Go.V Go.RowKit
section
variable (E:Env)
mutual
def AG:(sh:Sh)->D6 E.D sh->Bool
 |.d t,_=>Y8 t
 |.agg _,_=>true
 |
  .alt a b,x=>match (show D6 E.D a ⊕ D6 E.D b from x) with
  |.inl y=>AG a y
  |.inr y=>AG b y
 |_,_=>false
end -- mutual
def p0Z (H:K0) (v:Value) (m:List (Int×Int)):Prop:=∃ r es cl,v=.map (some r)/\H[r]?=some (.map es cl)/\es.toList.map (fun e=>(e.key,e.val))=m.map (fun p=>(Value.int .i64 p.1,Value.int .i64 p.2))
section
variable (H:K0) (S:D0)
mutual
def SR:(sh:Sh)->D6 E.D sh->List Value->List Value->Prop
 |.any,_,c,pl=>pl=[]/\c.length=1
 |.d t,x,c,pl=>pl=[]/\(J0 E t).R H S c x
 |.own e t,x,c,pl=>∃ v cs,c=[v]/\pl=[v]/\v.oneCell'=true/\Row H e (J0 E t).sz v (show List (Den E.D t) from x).length cs/\U1 (J0 E t) H S cs x
 |.B1 e F t,x,c,pl=>∃ v cs,c=[hd v]/\pl=[v]/\(hd v).oneCell'=true/\H8 E H S e F t (show List (Den E.D t) from x) none v cs
 |.box T l,x,c,pl=>∃ b cs p,c=[.pointer (some ⟨b,0,none⟩)]/\H[b]?=some (.cells cs.toArray T (0,0))/\(∀ u∈cs,u.oneCell'=true)/\SRs l x cs p/\pl=p++[.pointer (some ⟨b,0,none⟩)]
 |.agg l,x,c,pl=>SRs l x c pl
 |.tup l,x,c,pl=>∃ us,c=[.tuple us.toArray]/\I3 l x us pl
 |.fn f l,x,c,pl=>∃ us,c=[.func (.func f) #[] us.toArray]/\I3 l x us pl
 |.ifc T sh,x,c,pl=>∃ c',SR sh x c' pl/\c=[.iface T (H4 (AG E sh x) c')]
 |
  .alt a b,x,c,pl=>match (show D6 E.D a ⊕ D6 E.D b from x) with
  |.inl y=>SR a y c pl
  |.inr y=>SR b y c pl
 |.map,x,c,pl=>∃ v,c=[v]/\pl=[v]/\v.oneCell'=true/\p0Z H v x
 |.nil,_,c,pl=>pl=[]/\c=[.slice none 0 0]
 |.nilp,_,c,pl=>pl=[]/\c=[.pointer none]
 |.nilif,_,c,pl=>pl=[]/\c=[.nilIface]
 |.kb b,_,c,pl=>pl=[]/\c=[.bool b]
def SRs:(l:List Sh)->S4 E.D l->List Value->List Value->Prop
 |[],_,c,pl=>c=[]/\pl=[]
 |x :: r,a,c,pl=>∃ c1 c2 p1 p2,c=c1++c2/\pl=p1++p2/\SR x (c0R (J6 x) (U5 r) (b0f E x) a) c1 p1/\SRs r (d0E (J6 x) (U5 r) (c0s E r) a) c2 p2
def I3:(l:List Sh)->S4 E.D l->List Value->List Value->Prop
 |[],_,us,pl=>us=[]/\pl=[]
 |x :: r,a,us,pl=>∃ c u us' p1 p2,us=u :: us'/\pl=p1++p2/\u=H4 (AG E x (c0R (J6 x) (U5 r) (b0f E x) a)) c/\SR x (c0R (J6 x) (U5 r) (b0f E x) a) c p1/\I3 r (d0E (J6 x) (U5 r) (c0s E r) a) us' p2
end -- mutual
end
end
section
variable {E:Env} {ρ:Nat->Value} {n N:Nat} {H:K0} {S:D0}
def St.more {D:Nat->Type} (u:St D) (tl:List (Nat×Th D)) (m:Nat):St D:={ u with th:=tl++u.th,nid:=u.nid+m }
theorem m0V {α:Type}:∀ (l l':List (Nat×α)) (k:Nat),Q4 (l++l') k=match Q4 l k with | some v=>some v | none=>Q4 l' k
 |[],l',k=>rfl
 |
  (j,v) :: l,l',k=>by
  rw [List.cons_append,a0q,a0q];split
  ·rfl
  ·exact m0V l l' k
theorem j04 {α:Type}:∀ (l:List (Nat×α)) (k:Nat),(∀ p∈l,p.1≠k)->Q4 l k=none
 |[],k,_=>rfl
 |
  (j,v) :: l,k,h=>by
  rw [a0q,if_neg (h (j,v) (by simp))];exact j04 l k fun p hp=>h p (by simp [hp])
theorem f0J {D:Nat->Type} (u:St D) (tl:List (Nat×Th D)) (m j:Nat) (h:∀ p∈tl,p.1≠j):E0 (u.more tl m) j=E0 u j:=by
 unfold E0 St.more;simp only;rw [m0V,j04 tl j h]
structure L6 (E:Env) (ρ:Nat->Value) (N:Nat) (H:K0) (S:D0) (u:St E.D) (tl:List (Nat×Th E.D)) (pl:List Value):Prop where
 keys:∀ p∈tl,u.nid<=p.1/\p.1<u.nid+pl.length
 th:∀ i v,pl[i]?=some v->X3 E ρ N H S (E0 (u.more tl pl.length) (u.nid+i)) v/\P1 (E0 (u.more tl pl.length) (u.nid+i))=true
theorem L6.nil {u:St E.D}:L6 E ρ N H S u [] []:=⟨(fun p hp=>by cases hp),(fun i v h=>by simp at h)⟩
theorem L6.one {u:St E.D} {x:Th E.D} {v:Value} (h:X3 E ρ N H S x v) (ho:P1 x=true):L6 E ρ N H S u [(u.nid,x)] [v]:=by
 refine ⟨fun p hp=>by simp at hp;subst hp;simp,fun i w hi=>?_⟩;cases i with
 |
  zero=>
  simp at hi;subst hi;have:E0 (u.more [(u.nid,x)] [v].length) (u.nid+0)=x:=by
   unfold E0 St.more;simp [a0q]
  rw [this];exact ⟨h,ho⟩
 |succ i=>simp at hi
theorem k0n {D:Nat->Type} (u:St D) (t1 t2:List (Nat×Th D)) (m1 m2:Nat):(u.more t1 m1).more t2 m2=u.more (t2++t1) (m1+m2):=by
 unfold St.more;simp [Nat.add_assoc]
theorem L6.app {u:St E.D} {t1 t2:List (Nat×Th E.D)} {p1 p2:List Value} (h1:L6 E ρ N H S u t1 p1) (h2:L6 E ρ N H S (u.more t1 p1.length) t2 p2):L6 E ρ N H S u (t2++t1) (p1++p2):=by
 have hnid:(u.more t1 p1.length).nid=u.nid+p1.length:=rfl;refine ⟨fun p hp=>?_,fun i v hi=>?_⟩
 ·rw [List.length_append];rcases List.mem_append.1 hp with hp | hp
  ·have:=h2.keys p hp;rw [hnid] at this;omega
  ·have:=h1.keys p hp;omega
 ·rw [List.length_append,<-k0n];rcases Nat.lt_or_ge i p1.length with hlt | hge
  ·rw [List.getElem?_append_left hlt] at hi;rw [f0J _ _ _ _ (fun p hp=>by have:=h2.keys p hp;rw [hnid] at this;omega)];exact h1.th i v hi
  ·rw [List.getElem?_append_right hge] at hi;have:=h2.th _ v hi;rw [hnid,show u.nid+p1.length+(i-p1.length)=u.nid+i from by omega] at this;exact this
theorem N0.flat {l:List (V E.D)}:∀ {c:List Value},N0 E ρ n H S l c->N0 E ρ n H S (l.flatMap H6) c:=by
 induction l with
 |nil=>intro c h;exact h
 |
  cons v l ih=>
  intro c h;unfold N0 at h;obtain ⟨c1,c2,rfl,h1,h2⟩:=h;rw [List.flatMap_cons];refine N0.app ?_ (ih h2);cases v<;>first | exact N0.one h1 | (unfold VC at h1;exact h1)
theorem k0s {D:Nat->Type} (u:St D) (x:Th D):u.new x=u.more [(u.nid,x)] 1:=rfl
variable {R:Type} {r:R}
mutual
theorem h0F:∀ (sh:Sh) (x:D6 E.D sh) (c pl:List Value) (u:St E.D) (k:St E.D->V E.D->Option R),SR E H S sh x c pl->Z7 E u sh x k=some r->(∀ i v,pl[i]?=some v->ρ (u.nid+i)=v)->u.nid+pl.length<=N->
  ∃ v tl,k (u.more tl pl.length) v=some r/\VC E ρ N H S v c/\C4 v=AG E sh x/\L6 E ρ N H S u tl pl
 |
  .any,x,c,pl,u,k,h,hk,_,_=>by
  unfold SR at h;obtain ⟨rfl,hl⟩:=h;unfold Z7 at hk
  match c,hl with
  |[z],_=>exact ⟨.undef,[],hk,by unfold VC;exact ⟨z,rfl⟩,by unfold AG;rfl,L6.nil⟩
 |
  .d t,x,c,pl,u,k,h,hk,_,_=>by
  unfold SR at h;obtain ⟨rfl,hl⟩:=h;unfold Z7 at hk;refine ⟨ofD t x,[],hk,?_,?_,L6.nil⟩
  ·exact j0J (show VC E ρ N H S (.d t x) c by unfold VC;exact hl)
  ·unfold AG;exact k0o
 |
  .own e t,x,c,pl,u,k,h,hk,hp,hn=>by
  unfold SR at h;obtain ⟨v,cs,rfl,rfl,ho,hrow,hels⟩:=h;unfold Z7 at hk;rw [k0s] at hk;have hv:=hp 0 v rfl;refine ⟨.sl u.nid,_,hk,?_,by unfold AG;rfl,L6.one ?_ rfl⟩
  ·unfold VC;rw [add_zero] at hv;rw [hv,(d0T ho).1];simp at hn;exact ⟨by omega,ho,rfl⟩
  ·exact ⟨cs,hrow,hels⟩
 |
  .B1 e F t,x,c,pl,u,k,h,hk,hp,hn=>by
  unfold SR at h;obtain ⟨v,cs,rfl,rfl,ho,htab⟩:=h;unfold Z7 at hk;rw [k0s] at hk;have hv:=hp 0 v rfl;refine ⟨.sl u.nid,_,hk,?_,by unfold AG;rfl,L6.one ?_ rfl⟩
  ·unfold VC;rw [add_zero] at hv;rw [hv];simp at hn;exact ⟨by omega,ho,rfl⟩
  ·exact ⟨cs,htab⟩
 |
  .box T l,x,c,pl,u,k,h,hk,hp,hn=>by
  unfold SR at h;obtain ⟨b,cs,p,rfl,hb,h1,hs,rfl⟩:=h;unfold Z7 at hk;rw [List.length_append] at hn ⊢;obtain ⟨l',tl,hk',hvs,hnt⟩:=m0q l x cs p u _ hs hk (fun i v hi=>hp i v (by rw [List.getElem?_append_left (List.getElem?_eq_some_iff.1 hi).1];exact hi)) (by omega);have hv:=hp p.length (.pointer (some ⟨b,0,none⟩)) (by simp);refine ⟨.pb (u.nid+p.length) 0 [],((u.more tl p.length).nid,.box T l') :: tl,?_,?_,by unfold AG;rfl,?_⟩
  ·rw [k0s,k0n] at hk';exact hk'
  ·unfold VC;simp at hn;exact ⟨by omega,trivial,b,by rw [hv];rfl,by simp [M4]⟩
  ·exact hnt.app (t2:=[((u.more tl p.length).nid,Th.box T l')]) (L6.one ⟨b,cs,rfl,hb,hvs,h1⟩ rfl)
 |
  .agg l,x,c,pl,u,k,h,hk,hp,hn=>by
  unfold SR at h;unfold Z7 at hk;obtain ⟨l',tl,hk',hvs,hnt⟩:=m0q l x c pl u _ h hk hp hn;exact ⟨_,tl,hk',by unfold VC;exact hvs.flat,by unfold AG;rfl,hnt⟩
 |
  .tup l,x,c,pl,u,k,h,hk,hp,hn=>by
  unfold SR at h;obtain ⟨us,rfl,h⟩:=h;unfold Z7 at hk;obtain ⟨l',tl,hk',hvs,hnt⟩:=f0j l x us pl u _ h hk hp hn;exact ⟨_,tl,hk',by unfold VC;exact ⟨us,rfl,hvs⟩,by unfold AG;rfl,hnt⟩
 |
  .fn f l,x,c,pl,u,k,h,hk,hp,hn=>by
  unfold SR at h;obtain ⟨us,rfl,h⟩:=h;unfold Z7 at hk;obtain ⟨l',tl,hk',hvs,hnt⟩:=f0j l x us pl u _ h hk hp hn;exact ⟨_,tl,hk',by unfold VC;exact ⟨us,rfl,hvs⟩,by unfold AG;rfl,hnt⟩
 |
  .ifc T sh,x,c,pl,u,k,h,hk,hp,hn=>by
  unfold SR at h;obtain ⟨c',h,rfl⟩:=h;unfold Z7 at hk;obtain ⟨v',tl,hk',hvs,ha,hnt⟩:=h0F sh x c' pl u _ h hk hp hn;exact ⟨_,tl,hk',by unfold VC;exact ⟨c',hvs,by unfold vl;rw [ha]⟩,by unfold AG;rfl,hnt⟩
 |
  .alt a b,.inl y,c,pl,u,k,h,hk,hp,hn=>by
  obtain ⟨v',tl,hk',hvs,ha,hnt⟩:=h0F a y c pl u k h hk hp hn;exact ⟨v',tl,hk',hvs,ha,hnt⟩
 |
  .alt a b,.inr y,c,pl,u,k,h,hk,hp,hn=>by
  obtain ⟨v',tl,hk',hvs,ha,hnt⟩:=h0F b y c pl u k h hk hp hn;exact ⟨v',tl,hk',hvs,ha,hnt⟩
 |
  .map,x,c,pl,u,k,h,hk,hp,hn=>by
  unfold SR at h;obtain ⟨v,rfl,rfl,ho,hm⟩:=h;unfold Z7 at hk;rw [k0s] at hk;have hv:=hp 0 v rfl;refine ⟨.mp u.nid,_,hk,?_,by unfold AG;rfl,L6.one ?_ rfl⟩
  ·unfold VC;rw [add_zero] at hv;rw [hv,(d0T ho).1];simp at hn;exact ⟨by omega,ho,rfl⟩
  ·exact hm
 |
  .nil,x,c,pl,u,k,h,hk,_,_=>by
  unfold SR at h;obtain ⟨rfl,rfl⟩:=h;unfold Z7 at hk;exact ⟨.nil,[],hk,by unfold VC;rfl,by unfold AG;rfl,L6.nil⟩
 |
  .nilp,x,c,pl,u,k,h,hk,_,_=>by
  unfold SR at h;obtain ⟨rfl,rfl⟩:=h;unfold Z7 at hk;exact ⟨.nilp,[],hk,by unfold VC;rfl,by unfold AG;rfl,L6.nil⟩
 |
  .nilif,x,c,pl,u,k,h,hk,_,_=>by
  unfold SR at h;obtain ⟨rfl,rfl⟩:=h;unfold Z7 at hk;exact ⟨.nilif,[],hk,by unfold VC;rfl,by unfold AG;rfl,L6.nil⟩
 |
  .kb b,x,c,pl,u,k,h,hk,_,_=>by
  unfold SR at h;obtain ⟨rfl,rfl⟩:=h;unfold Z7 at hk;exact ⟨.kb b,[],hk,by unfold VC;rfl,by unfold AG;rfl,L6.nil⟩
theorem m0q:∀ (l:List Sh) (x:S4 E.D l) (c pl:List Value) (u:St E.D) (k:St E.D->List (V E.D)->Option R),SRs E H S l x c pl->c9 E u l x k=some r->(∀ i v,pl[i]?=some v->ρ (u.nid+i)=v)->u.nid+pl.length<=N->
  ∃ vs tl,k (u.more tl pl.length) vs=some r/\N0 E ρ N H S vs c/\L6 E ρ N H S u tl pl
 |
  [],x,c,pl,u,k,h,hk,_,_=>by
  unfold SRs at h;obtain ⟨rfl,rfl⟩:=h;unfold c9 at hk;exact ⟨[],[],hk,N0.nil,L6.nil⟩
 |
  sh :: l,x,c,pl,u,k,h,hk,hp,hn=>by
  unfold SRs at h;obtain ⟨c1,c2,p1,p2,rfl,rfl,h1,h2⟩:=h;unfold c9 at hk;rw [List.length_append] at hn ⊢;obtain ⟨v,t1,hk1,hv,_,hn1⟩:=h0F sh _ c1 p1 u _ h1 hk (fun i v hi=>hp i v (by rw [List.getElem?_append_left (List.getElem?_eq_some_iff.1 hi).1];exact hi)) (by omega);obtain ⟨vs,t2,hk2,hvs,hn2⟩:=m0q l _ c2 p2 (u.more t1 p1.length) _ h2 hk1 (fun i v hi=>by
   have:=hp (p1.length+i) v (by rw [List.getElem?_append_right (by omega),Nat.add_sub_cancel_left];exact hi);rw [<-this];show ρ (u.nid+p1.length+i)=_;congr 1;omega) (by show u.nid+p1.length+p2.length<=N;omega)
  refine ⟨v :: vs,t2++t1,?_,?_,hn1.app hn2⟩
  ·rw [k0n] at hk2;exact hk2
  ·unfold N0;exact ⟨c1,c2,rfl,hv,hvs⟩
theorem f0j:∀ (l:List Sh) (x:S4 E.D l) (us pl:List Value) (u:St E.D) (k:St E.D->List (V E.D)->Option R),I3 E H S l x us pl->c9 E u l x k=some r->(∀ i v,pl[i]?=some v->ρ (u.nid+i)=v)->u.nid+pl.length<=N->
  ∃ vs tl,k (u.more tl pl.length) vs=some r/\VT E ρ N H S vs us/\L6 E ρ N H S u tl pl
 |
  [],x,c,pl,u,k,h,hk,_,_=>by
  unfold I3 at h;obtain ⟨rfl,rfl⟩:=h;unfold c9 at hk;exact ⟨[],[],hk,by unfold VT;rfl,L6.nil⟩
 |
  sh :: l,x,us,pl,u,k,h,hk,hp,hn=>by
  unfold I3 at h;obtain ⟨c,z,us',p1,p2,rfl,rfl,hz,h1,h2⟩:=h;unfold c9 at hk;rw [List.length_append] at hn ⊢;obtain ⟨v,t1,hk1,hv,ha,hn1⟩:=h0F sh _ c p1 u _ h1 hk (fun i v hi=>hp i v (by rw [List.getElem?_append_left (List.getElem?_eq_some_iff.1 hi).1];exact hi)) (by omega);obtain ⟨vs,t2,hk2,hvs,hn2⟩:=f0j l _ us' p2 (u.more t1 p1.length) _ h2 hk1 (fun i v hi=>by
   have:=hp (p1.length+i) v (by rw [List.getElem?_append_right (by omega),Nat.add_sub_cancel_left];exact hi);rw [<-this];show ρ (u.nid+p1.length+i)=_;congr 1;omega) (by show u.nid+p1.length+p2.length<=N;omega)
  refine ⟨v :: vs,t2++t1,?_,?_,hn1.app hn2⟩
  ·rw [k0n] at hk2;exact hk2
  ·unfold VT;exact ⟨c,us',hv,by rw [hz];unfold vl;rw [ha],hvs⟩
end -- mutual
section
variable {s:St E.D}
def place (ρ:Nat->Value):Option Nat->Value
 |none=>.slice none 0 0
 |some id=>ρ id
def W5 (s:St E.D) (ids:List (Option Nat)):Prop:=∀ id,some id∈ids->P1 (E0 s id)=true
theorem B0m {ik:IntKind} {v:V E.D} {x:Int} (h:e0l ik v=some x):C4 v=false:=by
 unfold e0l at h;split at h<;>try cases h
 rename_i hy;cases v<;>first | rfl | skip
 ·rename_i t z;cases t<;>simp [L5] at hy<;>rfl
 ·simp [L5] at hy
theorem C0K {v:V E.D} {x:Bool} (h:V6 v=some x):C4 v=false:=by
 cases v<;>first | rfl | skip
 ·rename_i t z;cases t<;>simp [V6] at h<;>rfl
 ·simp [V6] at h
theorem y0y {v:V E.D} {x:ByteArray} (h:d0J v=some x):C4 v=false:=by
 unfold d0J at h;split at h
 ·rfl
 ·cases h
theorem x0o {t:U} {v:V E.D} {x:List (Den E.D t)} (h:d0O E s t v=some x):C4 v=false:=by
 unfold d0O at h;split at h<;>first | rfl | cases h
theorem w0D {q:TD E} {i:Nat} {v:V E.D} {x:E.D i} (h:e0y E q i v=some x):C4 v=true:=by
 unfold e0y at h;split at h
 ·rename_i hd;obtain rfl:=f0z hd;obtain ⟨e,h⟩:=c0q h;subst e;rfl
 ·split at h<;>try cases h
  rename_i l hl;obtain rfl:=j0u hl;rfl
theorem w0b {q:TD E} {m:Nat} {t:U} {v:V E.D} {x:List (Den E.D t)} (h:d0P E q m t v=some x):C4 v=true:=by
 unfold d0P at h;split at h
 ·rename_i hd;obtain rfl:=f0z hd;obtain ⟨e,h⟩:=c0q h;subst e;rfl
 ·split at h<;>try cases h
  rename_i l hl;obtain rfl:=j0u hl;rfl
theorem p0V {q:TD E} {t:U} {v:V E.D} {x:Den E.D t} (h:d0a E s q t v=some x):C4 v=false:=by
 unfold d0a at h;split at h<;>first | rfl | cases h
theorem z0o {q:TD E} {t:U} {v:V E.D} {x:Option (Den E.D t)} (h:d0C E s q t v=some x):C4 v=false:=by
 unfold d0C at h;split at h
 ·rename_i hn;obtain rfl:=q0r hn;rfl
 ·split at h
  ·rename_i hd;obtain rfl:=f0z hd;obtain ⟨e,h⟩:=c0q h;subst e;rfl
  ·split at h
   ·rename_i y hy;exact p0V hy
   ·cases h
theorem A04 {q:TD E}:∀ {t:U} {v:V E.D} {x:Den E.D t},k0x E s q t v=some x->C4 v=Y8 t
 |.int ik,v,x,h=>B0m (show e0l ik v=some x from h)
 |.bool,v,x,h=>C0K (show V6 v=some x from h)
 |.str,v,x,h=>y0y (show d0J v=some x from h)
 |.list t,v,x,h=>x0o (show d0O E s t v=some x from h)
 |.st i,v,x,h=>w0D (show e0y E q i v=some x from h)
 |.arr n t,v,x,h=>w0b (show d0P E q n t v=some x from h)
 |.ptr t,v,x,h=>p0V (show d0a E s q t v=some x from h)
 |.opt t,v,x,h=>z0o (show d0C E s q t v=some x from h)
theorem D0F {k:Nat} {t:U} {v:V E.D} {x:Den E.D t} (h:toD E s k t v=some x):C4 v=Y8 t:=by
 cases k with
 |zero=>cases h
 |succ k=>exact A04 (show k0x E s (td E s k) t v=some x from h)
def k01 {D:Nat->Type} (cs:List Sh) (l:List (V D)):Prop:=∀ (i:Nat),cs[i]?=some Sh.any->∀ v:V D,l[i]?=some v->C4 v=false
theorem n0x (hE:Q1 E):∀ {cs:List Sh} {l l':List (V E.D)} {c:List Value},c0w E cs l=some l'->N0 E ρ n H S l c->N0 E ρ n H S l' c/\k01 cs l'
 |
  [],[],l',c,h,hc=>by
  simp [c0w] at h;subst h;exact ⟨hc,fun i hi=>by simp at hi⟩
 |[],_ :: _,l',c,h,hc=>by simp [c0w] at h
 |
  x :: r,l,l',c,h,hc=>by
  simp only [c0w] at h;split at h<;>try cases h
  rename_i m l2 hct;split at h<;>try cases h
  rename_i v vs ha hp;obtain ⟨c1,c2,rfl,_,hm,h2⟩:=b0g hE _ _ _ _ _ hct c hc;obtain ⟨h3,h4⟩:=n0x hE hp h2;obtain ⟨h5,h6⟩:=f0Y hE ha hm;refine ⟨by unfold N0;exact ⟨c1,c2,rfl,h5,h3⟩,fun i hi w hw=>?_⟩;cases i with
  |
   zero=>
   simp at hi hw;subst hi;subst hw;exact h6
  |succ i=>exact h4 i (by simpa using hi) w (by simpa using hw)
theorem m0x (a b:List (Option Nat)):(a++b).map (place ρ)=a.map (place ρ)++b.map (place ρ):=List.map_append
theorem W5.app {a b:List (Option Nat)} (h1:W5 s a) (h2:W5 s b):W5 s (a++b):=fun id h=>by
 rcases List.mem_append.1 h with h | h
 ·exact h1 id h
 ·exact h2 id h
theorem W5.nil:W5 s []:=fun id h=>by cases h
theorem SR.own {e:Nat} {t:U} {x:D6 E.D (.own e t)} {c pl:List Value} (h:∃ v cs,c=[v]/\pl=[v]/\v.oneCell'=true/\Row H e (J0 E t).sz v (show List (Den E.D t) from x).length cs/\U1 (J0 E t) H S cs x):SR E H S (.own e t) x c pl:=by unfold SR;exact h
theorem SR.map {x:D6 E.D .map} {c pl:List Value} (h:∃ v,c=[v]/\pl=[v]/\v.oneCell'=true/\p0Z H v x):SR E H S .map x c pl:=by unfold SR;exact h
theorem A0w (ht:∀ id,X3 E ρ n H S (E0 s id) (ρ id)) {e:Nat} {t:U} {v:V E.D} {pk:Pk (List (Den E.D t))} {c:List Value} (h:l05 E s e t v=some pk) (hv:VC E ρ n H S v c) :
  SR E H S (.own e t) pk.dat c (pk.ids.map (place ρ))/\C4 v=false/\W5 s pk.ids:=by
 unfold l05 at h;split at h
 ·simp only [Option.some.injEq] at h;subst h;unfold VC at hv;subst hv;refine ⟨?_,rfl,fun id h=>by simp at h⟩;exact SR.own ⟨_,[],rfl,rfl,rfl,⟨by simp,.inl ⟨rfl,none,rfl⟩⟩,U1.nil⟩
 ·rename_i id;split at h<;>try cases h
  rename_i e' t' xs hl;split at h<;>try cases h
  rename_i ys he hc;rw [beq_eq] at he;subst he;obtain ⟨e2,hc⟩:=L9 hc;subst e2;subst hc;unfold VC at hv;obtain ⟨_,ho,rfl⟩:=hv;have:=ht id;rw [hl] at this;have hfo:∃ A' c,ρ id=.slice A' xs.length c:=S5.form this;obtain ⟨A',c',hfo⟩:=hfo;have hhd:hd (ρ id)=ρ id:=by rw [hfo];rfl
  obtain ⟨cs,hrow,hels⟩:=this;refine ⟨?_,rfl,fun j h=>?_⟩
  ·rw [hhd] at ho ⊢;exact SR.own ⟨_,cs,rfl,rfl,ho,hrow,hels⟩
  ·simp at h;subst h;rw [hl];rfl
 ·cases h
theorem SR.B1 {e:Nat} {F:List Nat} {t:U} {x:D6 E.D (.B1 e F t)} {c pl:List Value} (h:∃ v cs,c=[hd v]/\pl=[v]/\(hd v).oneCell'=true/\H8 E H S e F t (show List (Den E.D t) from x) none v cs):SR E H S (.B1 e F t) x c pl:=by unfold SR;exact h
theorem w0y (ht:∀ id,X3 E ρ n H S (E0 s id) (ρ id)) {e:Nat} {F:List Nat} {t:U} {v:V E.D} {pk:Pk (List (Den E.D t))} {c:List Value} (h:d0s E s e F t v=some pk) (hv:VC E ρ n H S v c) :
  SR E H S (.B1 e F t) pk.dat c (pk.ids.map (place ρ))/\C4 v=false/\W5 s pk.ids:=by
 cases v with
 |
  nil=>
  simp only [d0s] at h;split at h<;>try cases h
  rename_i hok;unfold VC at hv;subst hv;refine ⟨?_,rfl,fun id h=>by simp at h⟩;refine SR.B1 ⟨D7,[],rfl,rfl,rfl,⟨by simp,.inl ⟨rfl,none,rfl⟩⟩,rfl,hok,(fun _ _ h=>by cases h),fun i x f u ys e' h1=>by simp at h1,by simp,fun i j v v' _ hv _ k hk=>?_⟩;have:=List.mem_of_getElem? hv;have htl:Go.X.tl D7=[]:=rfl;rw [htl] at this;simp at this;subst this;cases hk
 |
  sl id=>
  simp only [d0s] at h;split at h<;>try cases h
  rename_i e' F' t' xs hl;split at h<;>try cases h
  rename_i he hc;rw [Bool.and_eq_true,beq_eq,beq_iff_eq] at he;obtain ⟨rfl,rfl⟩:=he;obtain ⟨e2,hc⟩:=L9 hc;subst e2;subst hc;unfold VC at hv;obtain ⟨_,ho,rfl⟩:=hv;have:=ht id;rw [hl] at this;obtain ⟨cs,this⟩:=this;refine ⟨SR.B1 ⟨ρ id,cs,rfl,rfl,ho,this⟩,rfl,fun j h=>?_⟩;simp at h;subst h;rw [hl];rfl
 |_=>simp [d0s] at h
theorem E0O (ht:∀ id,X3 E ρ n H S (E0 s id) (ρ id)) {v:V E.D} {pk:Pk (List (Int×Int))} {c:List Value} (h:l0O E s v=some pk) (hv:VC E ρ n H S v c) :
  SR E H S .map pk.dat c (pk.ids.map (place ρ))/\C4 v=false/\W5 s pk.ids:=by
 unfold l0O at h;split at h<;>try cases h
 rename_i id;split at h<;>try cases h
 rename_i m hl;unfold VC at hv;obtain ⟨_,ho,rfl⟩:=hv;have:=ht id;rw [hl] at this;have hhd:hd (ρ id)=ρ id:=by obtain ⟨r,es,cl,hv,_⟩:=this;rw [hv];rfl
 refine ⟨?_,rfl,fun j h=>?_⟩
 ·rw [hhd] at ho ⊢;exact SR.map ⟨_,rfl,rfl,ho,this⟩
 ·simp at h;subst h;rw [hl];rfl
theorem C0A (hE:Q1 E) (ht:∀ id,X3 E ρ n H S (E0 s id) (ρ id)) {T id:Nat} {cs:List Sh} {v:V E.D} {l:List (V E.D)} {c:List Value} (h:o0l E s T cs v=some (id,l)) (hv:VC E ρ n H S v c) :
  C4 v=false/\P1 (E0 s id)=true/\∃ b cc,ρ id=.pointer (some ⟨b,0,none⟩)/\c=[.pointer (some ⟨b,0,none⟩)]/\H[b]?=some (.cells cc.toArray T (0,0))/\(∀ u∈cc,u.oneCell'=true)/\N0 E ρ n H S l cc/\k01 cs l:=by
 unfold o0l at h;split at h<;>try cases h
 rename_i id';split at h<;>try cases h
 rename_i T' l0 hl;split at h<;>try cases h
 rename_i hT hp;rw [beq_eq] at hT;subst hT;unfold VC at hv;obtain ⟨_,_,b,hr,rfl⟩:=hv;have:=ht id;rw [hl] at this;obtain ⟨b',cc,hr',hb,hcs,h1⟩:=this;obtain rfl:b=b':=by rw [hr'] at hr;simpa [hd,eq_comm] using hr
 obtain ⟨h2,h3⟩:=n0x hE hp hcs;exact ⟨rfl,by rw [hl];rfl,b,cc,hr',by simp [M4],hb,h1,h2,h3⟩
theorem j0n {sh:Sh} {v:V E.D} (h:isC sh v=true):(sh=.nil/\v=.nil)\/(sh=.nilp/\v=.nilp)\/(sh=.nilif/\v=.nilif)\/(∃ b,sh=.kb b/\v=.kb b):=by
 unfold isC at h;split at h
 ·exact .inl ⟨rfl,rfl⟩
 ·exact .inr (.inl ⟨rfl,rfl⟩)
 ·exact .inr (.inr (.inl ⟨rfl,rfl⟩))
 ·rename_i b b';have:=beq_iff_eq.1 h;subst this;exact .inr (.inr (.inr ⟨_,rfl,rfl⟩))
 ·cases h
theorem C0T {p q:Bool} {A B:Type} (hp:p=true) (h:∀ a b:B,a=b):∀ a b:DC p q A B,a=b:=by subst hp;exact h
mutual
theorem r09:∀ (sh:Sh),J6 sh=true->∀ a b:D6 E.D sh,a=b
 |.any,_=>fun _ _=>rfl
 |.d _,h=>by cases h
 |.own _ _,h=>by cases h
 |.B1 _ _ _,h=>by cases h
 |.box _ l,h=>e0X l h
 |.agg l,h=>e0X l h
 |.tup l,h=>e0X l h
 |.fn _ l,h=>e0X l h
 |.ifc _ x,h=>r09 x h
 |.alt _ _,h=>by cases h
 |.map,h=>by cases h
 |.nil,_=>fun _ _=>rfl
 |.nilp,_=>fun _ _=>rfl
 |.nilif,_=>fun _ _=>rfl
 |.kb _,_=>fun _ _=>rfl
theorem e0X:∀ (l:List Sh),U5 l=true->∀ a b:S4 E.D l,a=b
 |[],_=>fun _ _=>rfl
 |
  x :: r,h=>by
  have h:(J6 x&&U5 r)=true:=h;rw [Bool.and_eq_true] at h;exact C0T h.1 (e0X r h.2)
end -- mutual
theorem fst_mk {x:Sh} {r:List Sh} {a:D6 E.D x} {b:S4 E.D r}:c0R (J6 x) (U5 r) (b0f E x) (e0E (J6 x) (U5 r) a b)=a:=by
 cases hx:J6 x
 ·cases hr:U5 r<;>rfl
 ·exact r09 x hx _ _
theorem snd_mk {x:Sh} {r:List Sh} {a:D6 E.D x} {b:S4 E.D r}:d0E (J6 x) (U5 r) (c0s E r) (e0E (J6 x) (U5 r) a b)=b:=by
 cases hx:J6 x
 ·cases hr:U5 r
  ·rfl
  ·exact e0X r hr _ _
 ·rfl
mutual
theorem g0Y (hE:Q1 E) (ht:∀ id,X3 E ρ n H S (E0 s id) (ρ id)):∀ (sh:Sh) (v:V E.D) (pk:Pk (D6 E.D sh)) (c:List Value),rd E s sh v=some pk->VC E ρ n H S v c->(sh=.any->c.length=1)->
  SR E H S sh pk.dat c (pk.ids.map (place ρ))/\(sh≠.any->C4 v=AG E sh pk.dat)/\W5 s pk.ids
 |
  .any,v,pk,c,h,hv,hl=>by
  unfold rd at h;obtain rfl:=Option.some.inj h;exact ⟨by unfold SR;exact ⟨rfl,hl rfl⟩,fun h=>absurd rfl h,W5.nil⟩
 |
  .d t,v,pk,c,h,hv,hl=>by
  unfold rd at h;split at h<;>try cases h
  rename_i x hx;exact ⟨by unfold SR;exact ⟨rfl,h0c hE ht hx hv⟩,fun _=>by unfold AG;exact D0F hx,W5.nil⟩
 |
  .own e t,v,pk,c,h,hv,hl=>by
  unfold rd at h;obtain ⟨h1,h2,h3⟩:=A0w ht h hv;exact ⟨h1,fun _=>by unfold AG;exact h2,h3⟩
 |
  .B1 e F t,v,pk,c,h,hv,hl=>by
  unfold rd at h;obtain ⟨h1,h2,h3⟩:=w0y ht h hv;exact ⟨h1,fun _=>by unfold AG;exact h2,h3⟩
 |
  .box T cs,v,pk,c,h,hv,hl=>by
  unfold rd at h;split at h<;>try cases h
  rename_i id l hb;split at h<;>try cases h
  rename_i ids x hr;obtain ⟨h1,h2,b,cc,h3,rfl,h4,h5,h6,h7⟩:=C0A hE ht hb hv;obtain ⟨h8,h9⟩:=l0H hE ht cs l ⟨ids,x⟩ cc hr h6 h7;refine ⟨?_,fun _=>by unfold AG;exact h1,h9.app fun j hj=>by simp at hj;subst hj;exact h2⟩;unfold SR;exact ⟨b,cc,_,rfl,h4,h5,h8,by rw [m0x];simp [place,h3]⟩
 |
  .agg cs,v,pk,c,h,hv,hl=>by
  unfold rd at h;split at h<;>try cases h
  rename_i ha;split at h<;>try cases h
  rename_i l hp;obtain ⟨c',hf,hA,_,hVC⟩:=(show VS E ρ n H S v (vl v c) from ⟨c,hv,rfl⟩).flat;have hfl:N0 E ρ n H S (H6 v) c:=by
   cases v<;>first | exact N0.one hv | (unfold VC at hv;exact hv)
  obtain ⟨h6,h7⟩:=n0x hE hp hfl;obtain ⟨h8,h9⟩:=l0H hE ht cs l pk c h h6 h7;exact ⟨by unfold SR;exact h8,fun _=>by unfold AG;exact ha,h9⟩
 |
  .tup cs,v,pk,c,h,hv,hl=>by
  unfold rd at h;split at h<;>try cases h
  rename_i l hu;have hvv:v=.tup l:=by cases v<;>simp [t0J] at hu;subst hu;rfl
  subst hvv;unfold VC at hv;obtain ⟨us,rfl,hvt⟩:=hv;obtain ⟨h8,h9⟩:=f00 hE ht cs l pk us h hvt;exact ⟨by unfold SR;exact ⟨us,rfl,h8⟩,fun _=>by unfold AG;rfl,h9⟩
 |
  .fn f cs,v,pk,c,h,hv,hl=>by
  unfold rd at h;split at h<;>try cases h
  rename_i l hu;have hvv:v=.fn f l:=by
   cases v<;>simp only [r0J] at hu<;>try cases hu
   split at hu<;>try cases hu
   rename_i hb;rw [beq_eq] at hb;subst hb;rfl
  subst hvv;unfold VC at hv;obtain ⟨us,rfl,hvt⟩:=hv;obtain ⟨h8,h9⟩:=f00 hE ht cs l pk us h hvt;exact ⟨by unfold SR;exact ⟨us,rfl,h8⟩,fun _=>by unfold AG;rfl,h9⟩
 |
  .ifc T sh,v,pk,c,h,hv,hl=>by
  unfold rd at h;split at h<;>try cases h
  rename_i hna;split at h<;>try cases h
  rename_i u hu;have hvv:v=.ifc T u:=by
   cases v<;>simp only [s00] at hu<;>try cases hu
   split at hu<;>try cases hu
   rename_i hb;rw [beq_eq] at hb;subst hb;rfl
  subst hvv;unfold VC at hv;obtain ⟨c',hv',rfl⟩:=hv;have hne:sh≠.any:=by
   rintro rfl;cases hna
  obtain ⟨h8,h10,h9⟩:=g0Y hE ht sh u pk c' h hv' (fun e=>absurd e hne);exact ⟨by unfold SR;exact ⟨c',h8,by unfold vl;rw [h10 hne]⟩,fun _=>by unfold AG;rfl,h9⟩
 |
  .alt a b,v,pk,c,h,hv,hl=>by
  unfold rd at h;split at h<;>try cases h
  rename_i hna;rw [Bool.and_eq_true] at hna;split at h
  ·split at h<;>try cases h
   rename_i ids y hr;have hne:a≠.any:=by rintro rfl;cases hna.1
   obtain ⟨h8,h10,h9⟩:=g0Y hE ht a v ⟨ids,y⟩ c hr hv (fun e=>absurd e hne);exact ⟨h8,fun _=>h10 hne,h9⟩
  ·split at h<;>try cases h
   rename_i ids y hr;have hne:b≠.any:=by rintro rfl;cases hna.2
   obtain ⟨h8,h10,h9⟩:=g0Y hE ht b v ⟨ids,y⟩ c hr hv (fun e=>absurd e hne);exact ⟨h8,fun _=>h10 hne,h9⟩
 |
  .map,v,pk,c,h,hv,hl=>by
  unfold rd at h;obtain ⟨h1,h2,h3⟩:=E0O ht h hv;exact ⟨h1,fun _=>by unfold AG;exact h2,h3⟩
 |
  .nil,v,pk,c,h,hv,hl=>by
  unfold rd pk0 at h;split at h<;>try cases h
  rename_i hc;rcases j0n hc with ⟨h1,rfl⟩ | ⟨h1,rfl⟩ | ⟨h1,rfl⟩ | ⟨b,h1,rfl⟩<;>cases h1
  unfold VC at hv;subst hv;exact ⟨by unfold SR;exact ⟨rfl,rfl⟩,fun _=>by unfold AG;rfl,W5.nil⟩
 |
  .nilp,v,pk,c,h,hv,hl=>by
  unfold rd pk0 at h;split at h<;>try cases h
  rename_i hc;rcases j0n hc with ⟨h1,rfl⟩ | ⟨h1,rfl⟩ | ⟨h1,rfl⟩ | ⟨b,h1,rfl⟩<;>cases h1
  unfold VC at hv;subst hv;exact ⟨by unfold SR;exact ⟨rfl,rfl⟩,fun _=>by unfold AG;rfl,W5.nil⟩
 |
  .nilif,v,pk,c,h,hv,hl=>by
  unfold rd pk0 at h;split at h<;>try cases h
  rename_i hc;rcases j0n hc with ⟨h1,rfl⟩ | ⟨h1,rfl⟩ | ⟨h1,rfl⟩ | ⟨b,h1,rfl⟩<;>cases h1
  unfold VC at hv;subst hv;exact ⟨by unfold SR;exact ⟨rfl,rfl⟩,fun _=>by unfold AG;rfl,W5.nil⟩
 |
  .kb b,v,pk,c,h,hv,hl=>by
  unfold rd pk0 at h;split at h<;>try cases h
  rename_i hc;rcases j0n hc with ⟨h1,rfl⟩ | ⟨h1,rfl⟩ | ⟨h1,rfl⟩ | ⟨b,h1,rfl⟩<;>cases h1
  unfold VC at hv;subst hv;exact ⟨by unfold SR;exact ⟨rfl,rfl⟩,fun _=>by unfold AG;rfl,W5.nil⟩
theorem l0H (hE:Q1 E) (ht:∀ id,X3 E ρ n H S (E0 s id) (ρ id)):∀ (cs:List Sh) (l:List (V E.D)) (pk:Pk (S4 E.D cs)) (c:List Value),U7 E s cs l=some pk->N0 E ρ n H S l c->(k01 cs l)->
  SRs E H S cs pk.dat c (pk.ids.map (place ρ))/\W5 s pk.ids
 |
  [],[],pk,c,h,hl,_=>by
  unfold U7 at h;obtain rfl:=Option.some.inj h;unfold N0 at hl;subst hl;exact ⟨by unfold SRs;exact ⟨rfl,rfl⟩,W5.nil⟩
 |
  [],_ :: _,pk,c,h,hl,_=>by
  unfold U7 at h;cases h
 |
  x :: r,l,pk,c,h,hl,hany=>by
  unfold U7 at h;split at h<;>try cases h
  rename_i v l';split at h<;>try cases h
  rename_i i a j b hr1 hr2;unfold N0 at hl;obtain ⟨c1,c2,rfl,h1,h2⟩:=hl;obtain ⟨h3,_,h4⟩:=g0Y hE ht x v ⟨i,a⟩ c1 hr1 h1 (fun e=>h1.k0I hE (hany 0 (by rw [e];rfl) v rfl));obtain ⟨h5,h6⟩:=l0H hE ht r l' ⟨j,b⟩ c2 hr2 h2 (fun q hq w hw=>hany (q+1) (by simpa using hq) w (by simpa using hw));refine ⟨?_,h4.app h6⟩;unfold SRs;refine ⟨c1,c2,_,_,rfl,m0x _ _,?_,?_⟩
  ·rw [fst_mk];exact h3
  ·rw [snd_mk];exact h5
theorem f00 (hE:Q1 E) (ht:∀ id,X3 E ρ n H S (E0 s id) (ρ id)):∀ (cs:List Sh) (l:List (V E.D)) (pk:Pk (S4 E.D cs)) (us:List Value),U7 E s cs l=some pk->VT E ρ n H S l us->
  I3 E H S cs pk.dat us (pk.ids.map (place ρ))/\W5 s pk.ids
 |
  [],[],pk,c,h,hl=>by
  unfold U7 at h;obtain rfl:=Option.some.inj h;unfold VT at hl;subst hl;exact ⟨by unfold I3;exact ⟨rfl,rfl⟩,W5.nil⟩
 |
  [],_ :: _,pk,c,h,hl=>by
  unfold U7 at h;cases h
 |
  x :: r,l,pk,us,h,hl=>by
  unfold U7 at h;split at h<;>try cases h
  rename_i v l';split at h<;>try cases h
  rename_i i a j b hr1 hr2;unfold VT at hl;obtain ⟨c,us',h1,rfl,h2⟩:=hl;obtain ⟨h5,h6⟩:=f00 hE ht r l' ⟨j,b⟩ us' hr2 h2;have key:∃ c0,SR E H S x a c0 (i.map (place ρ))/\vl v c=H4 (AG E x a) c0/\W5 s i:=by
   by_cases hx:x=.any
   ·subst hx;unfold rd at hr1;obtain rfl:=congrArg Pk.ids (Option.some.inj hr1);exact ⟨[vl v c],by unfold SR;exact ⟨rfl,rfl⟩,by unfold AG;rfl,W5.nil⟩
   ·obtain ⟨h3,h7,h4⟩:=g0Y hE ht x v ⟨i,a⟩ c hr1 h1 (fun e=>absurd e hx);exact ⟨c,h3,by unfold vl;rw [h7 hx],h4⟩
  obtain ⟨c0,h3,h7,h4⟩:=key;refine ⟨?_,h4.app h6⟩;unfold I3;refine ⟨c0,_,us',_,_,rfl,m0x _ _,?_,?_,?_⟩
  ·rw [fst_mk];exact h7
  ·rw [fst_mk];exact h3
  ·rw [snd_mk];exact h5
end -- mutual
end
end
