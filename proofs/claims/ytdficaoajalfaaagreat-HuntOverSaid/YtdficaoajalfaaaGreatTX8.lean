/- What shapes stand for; packing and unpacking: sound. Its conditions: none. -/
import Derived.Test.YtdficaoajalfaaaGreatTX7
open Nat (add_zero beq_eq)
set_option linter.all false
namespace Go.X
open Go.V Go.RowKit
section
variable (E:Env)
mutual
def AG:(sh:Sh)->Dat E.D sh->Bool
 |.d t,_=>aggU t
 |.agg _,_=>true
 |
  .alt a b,x=>match (show Dat E.D a ⊕ Dat E.D b from x) with
  |.inl y=>AG a y
  |.inr y=>AG b y
 |_,_=>false
end -- mutual
def MapR (H:a_9) (v:Value) (m:List (Int×Int)):Prop:=∃ r es cl,v=.map (some r)/\H[r]?=some (.map es cl)/\es.toList.map (fun e=>(e.key,e.val))=m.map (fun p=>(Value.int .i64 p.1,Value.int .i64 p.2))
section
variable (H:a_9) (S:Off)
mutual
def SR:(sh:Sh)->Dat E.D sh->List Value->List Value->Prop
 |.any,_,c,pl=>pl=[]/\c.length=1
 |.d t,x,c,pl=>pl=[]/\(tyU E t).R H S c x
 |.own e t,x,c,pl=>∃ v cs,c=[v]/\pl=[v]/\v.oneCell'=true/\Row H e (tyU E t).sz v (show List (Den E.D t) from x).length cs/\Els (tyU E t) H S cs x
 |.tab e F t,x,c,pl=>∃ v cs,c=[hd v]/\pl=[v]/\(hd v).oneCell'=true/\Tab E H S e F t (show List (Den E.D t) from x) none v cs
 |.box T l,x,c,pl=>∃ b cs p,c=[.pointer (some ⟨b,0,none⟩)]/\H[b]?=some (.cells cs.toArray T (0,0))/\(∀ u∈cs,u.oneCell'=true)/\SRs l x cs p/\pl=p++[.pointer (some ⟨b,0,none⟩)]
 |.agg l,x,c,pl=>SRs l x c pl
 |.tup l,x,c,pl=>∃ us,c=[.tuple us.toArray]/\SRT l x us pl
 |.fn f l,x,c,pl=>∃ us,c=[.func (.func f) #[] us.toArray]/\SRT l x us pl
 |.ifc T sh,x,c,pl=>∃ c',SR sh x c' pl/\c=[.iface T (vlb (AG E sh x) c')]
 |
  .alt a b,x,c,pl=>match (show Dat E.D a ⊕ Dat E.D b from x) with
  |.inl y=>SR a y c pl
  |.inr y=>SR b y c pl
 |.map,x,c,pl=>∃ v,c=[v]/\pl=[v]/\v.oneCell'=true/\MapR H v x
 |.nil,_,c,pl=>pl=[]/\c=[.slice none 0 0]
 |.nilp,_,c,pl=>pl=[]/\c=[.pointer none]
 |.nilif,_,c,pl=>pl=[]/\c=[.nilIface]
 |.kb b,_,c,pl=>pl=[]/\c=[.bool b]
def SRs:(l:List Sh)->n_2 E.D l->List Value->List Value->Prop
 |[],_,c,pl=>c=[]/\pl=[]
 |x :: r,a,c,pl=>∃ c1 c2 p1 p2,c=c1++c2/\pl=p1++p2/\SR x (a_mw (y_2 x) (n_6 r) (dDat E x) a) c1 p1/\SRs r (a_rl (y_2 x) (n_6 r) (a_mx E r) a) c2 p2
def SRT:(l:List Sh)->n_2 E.D l->List Value->List Value->Prop
 |[],_,us,pl=>us=[]/\pl=[]
 |x :: r,a,us,pl=>∃ c u us' p1 p2,us=u :: us'/\pl=p1++p2/\u=vlb (AG E x (a_mw (y_2 x) (n_6 r) (dDat E x) a)) c/\SR x (a_mw (y_2 x) (n_6 r) (dDat E x) a) c p1/\SRT r (a_rl (y_2 x) (n_6 r) (a_mx E r) a) us' p2
end -- mutual
end
end
section
variable {E:Env} {ρ:Nat->Value} {n N:Nat} {H:a_9} {S:Off}
def St.more {D:Nat->Type} (u:St D) (tl:List (Nat×Th D)) (m:Nat):St D:={ u with th:=tl++u.th,nid:=u.nid+m }
theorem a_2v {α:Type}:∀ (l l':List (Nat×α)) (k:Nat),lkp (l++l') k=match lkp l k with | some v=>some v | none=>lkp l' k
 |[],l',k=>rfl
 |
  (j,v) :: l,l',k=>by
  rw [List.cons_append,v_1,v_1]
  split
  ·rfl
  ·exact a_2v l l' k
theorem a_sg {α:Type}:∀ (l:List (Nat×α)) (k:Nat),(∀ p∈l,p.1≠k)->lkp l k=none
 |[],k,_=>rfl
 |
  (j,v) :: l,k,h=>by
  rw [v_1,if_neg (h (j,v) (by simp))]
  exact a_sg l k fun p hp=>h p (by simp [hp])
theorem a_fp {D:Nat->Type} (u:St D) (tl:List (Nat×Th D)) (m j:Nat) (h:∀ p∈tl,p.1≠j):a_5 (u.more tl m) j=a_5 u j:=by
 unfold a_5 St.more
 simp only
 rw [a_2v,a_sg tl j h]
structure y_4 (E:Env) (ρ:Nat->Value) (N:Nat) (H:a_9) (S:Off) (u:St E.D) (tl:List (Nat×Th E.D)) (pl:List Value):Prop where
 keys:∀ p∈tl,u.nid<=p.1/\p.1<u.nid+pl.length
 th:∀ i v,pl[i]?=some v->ThR E ρ N H S (a_5 (u.more tl pl.length) (u.nid+i)) v/\e_3 (a_5 (u.more tl pl.length) (u.nid+i))=true
theorem y_4.nil {u:St E.D}:y_4 E ρ N H S u [] []:=⟨(fun p hp=>by cases hp),(fun i v h=>by simp at h)⟩
theorem y_4.one {u:St E.D} {x:Th E.D} {v:Value} (h:ThR E ρ N H S x v) (ho:e_3 x=true):y_4 E ρ N H S u [(u.nid,x)] [v]:=by
 refine ⟨fun p hp=>by simp at hp;subst hp;simp,fun i w hi=>?_⟩
 cases i with
 |
  zero=>
  simp at hi;subst hi
  have:a_5 (u.more [(u.nid,x)] [v].length) (u.nid+0)=x:=by
   unfold a_5 St.more
   simp [v_1]
  rw [this];exact ⟨h,ho⟩
 |succ i=>simp at hi
theorem a_pg {D:Nat->Type} (u:St D) (t1 t2:List (Nat×Th D)) (m1 m2:Nat):(u.more t1 m1).more t2 m2=u.more (t2++t1) (m1+m2):=by
 unfold St.more;simp [Nat.add_assoc]
theorem y_4.app {u:St E.D} {t1 t2:List (Nat×Th E.D)} {p1 p2:List Value} (h1:y_4 E ρ N H S u t1 p1) (h2:y_4 E ρ N H S (u.more t1 p1.length) t2 p2):y_4 E ρ N H S u (t2++t1) (p1++p2):=by
 have hnid:(u.more t1 p1.length).nid=u.nid+p1.length:=rfl
 refine ⟨fun p hp=>?_,fun i v hi=>?_⟩
 ·rw [List.length_append]
  rcases List.mem_append.1 hp with hp | hp
  ·have:=h2.keys p hp;rw [hnid] at this;omega
  ·have:=h1.keys p hp;omega
 ·rw [List.length_append,<-a_pg]
  rcases Nat.lt_or_ge i p1.length with hlt | hge
  ·rw [List.getElem?_append_left hlt] at hi
   rw [a_fp _ _ _ _ (fun p hp=>by have:=h2.keys p hp;rw [hnid] at this;omega)]
   exact h1.th i v hi
  ·rw [List.getElem?_append_right hge] at hi
   have:=h2.th _ v hi
   rw [hnid,show u.nid+p1.length+(i-p1.length)=u.nid+i from by omega] at this
   exact this
theorem VCs.flat {l:List (V E.D)}:∀ {c:List Value},VCs E ρ n H S l c->VCs E ρ n H S (l.flatMap r_1) c:=by
 induction l with
 |nil=>intro c h;exact h
 |
  cons v l ih=>
  intro c h
  unfold VCs at h
  obtain ⟨c1,c2,rfl,h1,h2⟩:=h
  rw [List.flatMap_cons]
  refine VCs.app ?_ (ih h2)
  cases v<;>first | exact VCs.one h1 | (unfold VC at h1;exact h1)
theorem a_56 {D:Nat->Type} (u:St D) (x:Th D):u.new x=u.more [(u.nid,x)] 1:=rfl
variable {R:Type} {r:R}
mutual
theorem a_vq:∀ (sh:Sh) (x:Dat E.D sh) (c pl:List Value) (u:St E.D) (k:St E.D->V E.D->Option R),SR E H S sh x c pl->mkV E u sh x k=some r->(∀ i v,pl[i]?=some v->ρ (u.nid+i)=v)->u.nid+pl.length<=N->
  ∃ v tl,k (u.more tl pl.length) v=some r/\VC E ρ N H S v c/\isA v=AG E sh x/\y_4 E ρ N H S u tl pl
 |
  .any,x,c,pl,u,k,h,hk,_,_=>by
  unfold SR at h
  obtain ⟨rfl,hl⟩:=h
  unfold mkV at hk
  match c,hl with
  |[z],_=>exact ⟨.undef,[],hk,by unfold VC;exact ⟨z,rfl⟩,by unfold AG;rfl,y_4.nil⟩
 |
  .d t,x,c,pl,u,k,h,hk,_,_=>by
  unfold SR at h
  obtain ⟨rfl,hl⟩:=h
  unfold mkV at hk
  refine ⟨ofD t x,[],hk,?_,?_,y_4.nil⟩
  ·exact a_0p (show VC E ρ N H S (.d t x) c by unfold VC;exact hl)
  ·unfold AG;exact a_wm
 |
  .own e t,x,c,pl,u,k,h,hk,hp,hn=>by
  unfold SR at h
  obtain ⟨v,cs,rfl,rfl,ho,hrow,hels⟩:=h
  unfold mkV at hk
  rw [a_56] at hk
  have hv:=hp 0 v rfl
  refine ⟨.sl u.nid,_,hk,?_,by unfold AG;rfl,y_4.one ?_ rfl⟩
  ·unfold VC;rw [add_zero] at hv;rw [hv,(a_ns ho).1];simp at hn;exact ⟨by omega,ho,rfl⟩
  ·exact ⟨cs,hrow,hels⟩
 |
  .tab e F t,x,c,pl,u,k,h,hk,hp,hn=>by
  unfold SR at h
  obtain ⟨v,cs,rfl,rfl,ho,htab⟩:=h
  unfold mkV at hk
  rw [a_56] at hk
  have hv:=hp 0 v rfl
  refine ⟨.sl u.nid,_,hk,?_,by unfold AG;rfl,y_4.one ?_ rfl⟩
  ·unfold VC;rw [add_zero] at hv;rw [hv];simp at hn;exact ⟨by omega,ho,rfl⟩
  ·exact ⟨cs,htab⟩
 |
  .box T l,x,c,pl,u,k,h,hk,hp,hn=>by
  unfold SR at h
  obtain ⟨b,cs,p,rfl,hb,h1,hs,rfl⟩:=h
  unfold mkV at hk
  rw [List.length_append] at hn ⊢
  obtain ⟨l',tl,hk',hvs,hnt⟩:=a_76 l x cs p u _ hs hk (fun i v hi=>hp i v (by rw [List.getElem?_append_left (List.getElem?_eq_some_iff.1 hi).1];exact hi)) (by omega)
  have hv:=hp p.length (.pointer (some ⟨b,0,none⟩)) (by simp)
  refine ⟨.pb (u.nid+p.length) 0 [],((u.more tl p.length).nid,.box T l') :: tl,?_,?_,by unfold AG;rfl,?_⟩
  ·rw [a_56,a_pg] at hk'
   exact hk'
  ·unfold VC
   simp at hn
   exact ⟨by omega,trivial,b,by rw [hv];rfl,by simp [l_4]⟩
  ·exact hnt.app (t2:=[((u.more tl p.length).nid,Th.box T l')]) (y_4.one ⟨b,cs,rfl,hb,hvs,h1⟩ rfl)
 |
  .agg l,x,c,pl,u,k,h,hk,hp,hn=>by
  unfold SR at h
  unfold mkV at hk
  obtain ⟨l',tl,hk',hvs,hnt⟩:=a_76 l x c pl u _ h hk hp hn
  exact ⟨_,tl,hk',by unfold VC;exact hvs.flat,by unfold AG;rfl,hnt⟩
 |
  .tup l,x,c,pl,u,k,h,hk,hp,hn=>by
  unfold SR at h
  obtain ⟨us,rfl,h⟩:=h
  unfold mkV at hk
  obtain ⟨l',tl,hk',hvs,hnt⟩:=a_q1 l x us pl u _ h hk hp hn
  exact ⟨_,tl,hk',by unfold VC;exact ⟨us,rfl,hvs⟩,by unfold AG;rfl,hnt⟩
 |
  .fn f l,x,c,pl,u,k,h,hk,hp,hn=>by
  unfold SR at h
  obtain ⟨us,rfl,h⟩:=h
  unfold mkV at hk
  obtain ⟨l',tl,hk',hvs,hnt⟩:=a_q1 l x us pl u _ h hk hp hn
  exact ⟨_,tl,hk',by unfold VC;exact ⟨us,rfl,hvs⟩,by unfold AG;rfl,hnt⟩
 |
  .ifc T sh,x,c,pl,u,k,h,hk,hp,hn=>by
  unfold SR at h
  obtain ⟨c',h,rfl⟩:=h
  unfold mkV at hk
  obtain ⟨v',tl,hk',hvs,ha,hnt⟩:=a_vq sh x c' pl u _ h hk hp hn
  exact ⟨_,tl,hk',by unfold VC;exact ⟨c',hvs,by unfold vl;rw [ha]⟩,by unfold AG;rfl,hnt⟩
 |
  .alt a b,.inl y,c,pl,u,k,h,hk,hp,hn=>by
  obtain ⟨v',tl,hk',hvs,ha,hnt⟩:=a_vq a y c pl u k h hk hp hn
  exact ⟨v',tl,hk',hvs,ha,hnt⟩
 |
  .alt a b,.inr y,c,pl,u,k,h,hk,hp,hn=>by
  obtain ⟨v',tl,hk',hvs,ha,hnt⟩:=a_vq b y c pl u k h hk hp hn
  exact ⟨v',tl,hk',hvs,ha,hnt⟩
 |
  .map,x,c,pl,u,k,h,hk,hp,hn=>by
  unfold SR at h
  obtain ⟨v,rfl,rfl,ho,hm⟩:=h
  unfold mkV at hk
  rw [a_56] at hk
  have hv:=hp 0 v rfl
  refine ⟨.mp u.nid,_,hk,?_,by unfold AG;rfl,y_4.one ?_ rfl⟩
  ·unfold VC;rw [add_zero] at hv;rw [hv,(a_ns ho).1];simp at hn;exact ⟨by omega,ho,rfl⟩
  ·exact hm
 |
  .nil,x,c,pl,u,k,h,hk,_,_=>by
  unfold SR at h
  obtain ⟨rfl,rfl⟩:=h
  unfold mkV at hk
  exact ⟨.nil,[],hk,by unfold VC;rfl,by unfold AG;rfl,y_4.nil⟩
 |
  .nilp,x,c,pl,u,k,h,hk,_,_=>by
  unfold SR at h
  obtain ⟨rfl,rfl⟩:=h
  unfold mkV at hk
  exact ⟨.nilp,[],hk,by unfold VC;rfl,by unfold AG;rfl,y_4.nil⟩
 |
  .nilif,x,c,pl,u,k,h,hk,_,_=>by
  unfold SR at h
  obtain ⟨rfl,rfl⟩:=h
  unfold mkV at hk
  exact ⟨.nilif,[],hk,by unfold VC;rfl,by unfold AG;rfl,y_4.nil⟩
 |
  .kb b,x,c,pl,u,k,h,hk,_,_=>by
  unfold SR at h
  obtain ⟨rfl,rfl⟩:=h
  unfold mkV at hk
  exact ⟨.kb b,[],hk,by unfold VC;rfl,by unfold AG;rfl,y_4.nil⟩
theorem a_76:∀ (l:List Sh) (x:n_2 E.D l) (c pl:List Value) (u:St E.D) (k:St E.D->List (V E.D)->Option R),SRs E H S l x c pl->mkL E u l x k=some r->(∀ i v,pl[i]?=some v->ρ (u.nid+i)=v)->u.nid+pl.length<=N->
  ∃ vs tl,k (u.more tl pl.length) vs=some r/\VCs E ρ N H S vs c/\y_4 E ρ N H S u tl pl
 |
  [],x,c,pl,u,k,h,hk,_,_=>by
  unfold SRs at h
  obtain ⟨rfl,rfl⟩:=h
  unfold mkL at hk
  exact ⟨[],[],hk,VCs.nil,y_4.nil⟩
 |
  sh :: l,x,c,pl,u,k,h,hk,hp,hn=>by
  unfold SRs at h
  obtain ⟨c1,c2,p1,p2,rfl,rfl,h1,h2⟩:=h
  unfold mkL at hk
  rw [List.length_append] at hn ⊢
  obtain ⟨v,t1,hk1,hv,_,hn1⟩:=a_vq sh _ c1 p1 u _ h1 hk (fun i v hi=>hp i v (by rw [List.getElem?_append_left (List.getElem?_eq_some_iff.1 hi).1];exact hi)) (by omega)
  obtain ⟨vs,t2,hk2,hvs,hn2⟩:=a_76 l _ c2 p2 (u.more t1 p1.length) _ h2 hk1 (fun i v hi=>by
   have:=hp (p1.length+i) v (by rw [List.getElem?_append_right (by omega),Nat.add_sub_cancel_left];exact hi)
   rw [<-this];show ρ (u.nid+p1.length+i)=_;congr 1;omega) (by show u.nid+p1.length+p2.length<=N;omega)
  refine ⟨v :: vs,t2++t1,?_,?_,hn1.app hn2⟩
  ·rw [a_pg] at hk2;exact hk2
  ·unfold VCs;exact ⟨c1,c2,rfl,hv,hvs⟩
theorem a_q1:∀ (l:List Sh) (x:n_2 E.D l) (us pl:List Value) (u:St E.D) (k:St E.D->List (V E.D)->Option R),SRT E H S l x us pl->mkL E u l x k=some r->(∀ i v,pl[i]?=some v->ρ (u.nid+i)=v)->u.nid+pl.length<=N->
  ∃ vs tl,k (u.more tl pl.length) vs=some r/\VT E ρ N H S vs us/\y_4 E ρ N H S u tl pl
 |
  [],x,c,pl,u,k,h,hk,_,_=>by
  unfold SRT at h
  obtain ⟨rfl,rfl⟩:=h
  unfold mkL at hk
  exact ⟨[],[],hk,by unfold VT;rfl,y_4.nil⟩
 |
  sh :: l,x,us,pl,u,k,h,hk,hp,hn=>by
  unfold SRT at h
  obtain ⟨c,z,us',p1,p2,rfl,rfl,hz,h1,h2⟩:=h
  unfold mkL at hk
  rw [List.length_append] at hn ⊢
  obtain ⟨v,t1,hk1,hv,ha,hn1⟩:=a_vq sh _ c p1 u _ h1 hk (fun i v hi=>hp i v (by rw [List.getElem?_append_left (List.getElem?_eq_some_iff.1 hi).1];exact hi)) (by omega)
  obtain ⟨vs,t2,hk2,hvs,hn2⟩:=a_q1 l _ us' p2 (u.more t1 p1.length) _ h2 hk1 (fun i v hi=>by
   have:=hp (p1.length+i) v (by rw [List.getElem?_append_right (by omega),Nat.add_sub_cancel_left];exact hi)
   rw [<-this];show ρ (u.nid+p1.length+i)=_;congr 1;omega) (by show u.nid+p1.length+p2.length<=N;omega)
  refine ⟨v :: vs,t2++t1,?_,?_,hn1.app hn2⟩
  ·rw [a_pg] at hk2;exact hk2
  ·unfold VT;exact ⟨c,us',hv,by rw [hz];unfold vl;rw [ha],hvs⟩
end -- mutual
section
variable {s:St E.D}
def place (ρ:Nat->Value):Option Nat->Value
 |none=>.slice none 0 0
 |some id=>ρ id
def k_2 (s:St E.D) (ids:List (Option Nat)):Prop:=∀ id,some id∈ids->e_3 (a_5 s id)=true
theorem b_fl {ik:IntKind} {v:V E.D} {x:Int} (h:a_o0 ik v=some x):isA v=false:=by
 unfold a_o0 at h
 split at h<;>try cases h
 rename_i hy
 cases v<;>first | rfl | skip
 ·rename_i t z
  cases t<;>simp [asI] at hy<;>rfl
 ·simp [asI] at hy
theorem b_pa {v:V E.D} {x:Bool} (h:asB v=some x):isA v=false:=by
 cases v<;>first | rfl | skip
 ·rename_i t z
  cases t<;>simp [asB] at h<;>rfl
 ·simp [asB] at h
theorem b_fq {v:V E.D} {x:ByteArray} (h:a_nw v=some x):isA v=false:=by
 unfold a_nw at h
 split at h
 ·rfl
 ·cases h
theorem b_b0 {t:U} {v:V E.D} {x:List (Den E.D t)} (h:a_j1 E s t v=some x):isA v=false:=by
 unfold a_j1 at h
 split at h<;>first | rfl | cases h
theorem b_il {q:TD E} {i:Nat} {v:V E.D} {x:E.D i} (h:a_sf E q i v=some x):isA v=true:=by
 unfold a_sf at h
 split at h
 ·rename_i hd
  obtain rfl:=a_qr hd
  obtain ⟨e,h⟩:=a_dm h
  subst e;rfl
 ·split at h<;>try cases h
  rename_i l hl
  obtain rfl:=a_r0 hl
  rfl
theorem b_gh {q:TD E} {m:Nat} {t:U} {v:V E.D} {x:List (Den E.D t)} (h:a_n7 E q m t v=some x):isA v=true:=by
 unfold a_n7 at h
 split at h
 ·rename_i hd
  obtain rfl:=a_qr hd
  obtain ⟨e,h⟩:=a_dm h
  subst e;rfl
 ·split at h<;>try cases h
  rename_i l hl
  obtain rfl:=a_r0 hl
  rfl
theorem a_0z {q:TD E} {t:U} {v:V E.D} {x:Den E.D t} (h:a_k4 E s q t v=some x):isA v=false:=by
 unfold a_k4 at h
 split at h<;>first | rfl | cases h
theorem b_d4 {q:TD E} {t:U} {v:V E.D} {x:Option (Den E.D t)} (h:a_oi E s q t v=some x):isA v=false:=by
 unfold a_oi at h
 split at h
 ·rename_i hn
  obtain rfl:=a_3u hn
  rfl
 ·split at h
  ·rename_i hd
   obtain rfl:=a_qr hd
   obtain ⟨e,h⟩:=a_dm h
   subst e;rfl
  ·split at h
   ·rename_i y hy
    exact a_0z hy
   ·cases h
theorem b_ja {q:TD E}:∀ {t:U} {v:V E.D} {x:Den E.D t},toDF E s q t v=some x->isA v=aggU t
 |.int ik,v,x,h=>b_fl (show a_o0 ik v=some x from h)
 |.bool,v,x,h=>b_pa (show asB v=some x from h)
 |.str,v,x,h=>b_fq (show a_nw v=some x from h)
 |.list t,v,x,h=>b_b0 (show a_j1 E s t v=some x from h)
 |.st i,v,x,h=>b_il (show a_sf E q i v=some x from h)
 |.arr n t,v,x,h=>b_gh (show a_n7 E q n t v=some x from h)
 |.ptr t,v,x,h=>a_0z (show a_k4 E s q t v=some x from h)
 |.opt t,v,x,h=>b_d4 (show a_oi E s q t v=some x from h)
theorem b_n5 {k:Nat} {t:U} {v:V E.D} {x:Den E.D t} (h:toD E s k t v=some x):isA v=aggU t:=by
 cases k with
 |zero=>cases h
 |succ k=>exact b_ja (show toDF E s (td E s k) t v=some x from h)
def b_ef {D:Nat->Type} (cs:List Sh) (l:List (V D)):Prop:=∀ (i:Nat),cs[i]?=some Sh.any->∀ v:V D,l[i]?=some v->isA v=false
theorem a_y3 (hE:c_9 E):∀ {cs:List Sh} {l l':List (V E.D)} {c:List Value},a_m9 E cs l=some l'->VCs E ρ n H S l c->VCs E ρ n H S l' c/\b_ef cs l'
 |
  [],[],l',c,h,hc=>by
  simp [a_m9] at h;subst h
  exact ⟨hc,fun i hi=>by simp at hi⟩
 |[],_ :: _,l',c,h,hc=>by simp [a_m9] at h
 |
  x :: r,l,l',c,h,hc=>by
  simp only [a_m9] at h
  split at h<;>try cases h
  rename_i m l2 hct
  split at h<;>try cases h
  rename_i v vs ha hp
  obtain ⟨c1,c2,rfl,_,hm,h2⟩:=a_cs hE _ _ _ _ _ hct c hc
  obtain ⟨h3,h4⟩:=a_y3 hE hp h2
  obtain ⟨h5,h6⟩:=a_qw hE ha hm
  refine ⟨by unfold VCs;exact ⟨c1,c2,rfl,h5,h3⟩,fun i hi w hw=>?_⟩
  cases i with
  |
   zero=>
   simp at hi hw
   subst hi;subst hw
   exact h6
  |succ i=>exact h4 i (by simpa using hi) w (by simpa using hw)
theorem a_26 (a b:List (Option Nat)):(a++b).map (place ρ)=a.map (place ρ)++b.map (place ρ):=List.map_append
theorem k_2.app {a b:List (Option Nat)} (h1:k_2 s a) (h2:k_2 s b):k_2 s (a++b):=fun id h=>by
 rcases List.mem_append.1 h with h | h
 ·exact h1 id h
 ·exact h2 id h
theorem k_2.nil:k_2 s []:=fun id h=>by cases h
theorem SR.own {e:Nat} {t:U} {x:Dat E.D (.own e t)} {c pl:List Value} (h:∃ v cs,c=[v]/\pl=[v]/\v.oneCell'=true/\Row H e (tyU E t).sz v (show List (Den E.D t) from x).length cs/\Els (tyU E t) H S cs x):SR E H S (.own e t) x c pl:=by unfold SR;exact h
theorem SR.map {x:Dat E.D .map} {c pl:List Value} (h:∃ v,c=[v]/\pl=[v]/\v.oneCell'=true/\MapR H v x):SR E H S .map x c pl:=by unfold SR;exact h
theorem b_k5 (ht:∀ id,ThR E ρ n H S (a_5 s id) (ρ id)) {e:Nat} {t:U} {v:V E.D} {pk:Pk (List (Den E.D t))} {c:List Value} (h:b_ga E s e t v=some pk) (hv:VC E ρ n H S v c) :
  SR E H S (.own e t) pk.dat c (pk.ids.map (place ρ))/\isA v=false/\k_2 s pk.ids:=by
 unfold b_ga at h
 split at h
 ·simp only [Option.some.injEq] at h
  subst h
  unfold VC at hv;subst hv
  refine ⟨?_,rfl,fun id h=>by simp at h⟩
  exact SR.own ⟨_,[],rfl,rfl,rfl,⟨by simp,.inl ⟨rfl,none,rfl⟩⟩,Els.nil⟩
 ·rename_i id
  split at h<;>try cases h
  rename_i e' t' xs hl
  split at h<;>try cases h
  rename_i ys he hc
  rw [beq_eq] at he
  subst he
  obtain ⟨e2,hc⟩:=s_6 hc
  subst e2;subst hc
  unfold VC at hv
  obtain ⟨_,ho,rfl⟩:=hv
  have:=ht id
  rw [hl] at this
  have hfo:∃ A' c,ρ id=.slice A' xs.length c:=u_1.form this
  obtain ⟨A',c',hfo⟩:=hfo
  have hhd:hd (ρ id)=ρ id:=by rw [hfo];rfl
  obtain ⟨cs,hrow,hels⟩:=this
  refine ⟨?_,rfl,fun j h=>?_⟩
  ·rw [hhd] at ho ⊢
   exact SR.own ⟨_,cs,rfl,rfl,ho,hrow,hels⟩
  ·simp at h;subst h;rw [hl];rfl
 ·cases h
theorem SR.tab {e:Nat} {F:List Nat} {t:U} {x:Dat E.D (.tab e F t)} {c pl:List Value} (h:∃ v cs,c=[hd v]/\pl=[v]/\(hd v).oneCell'=true/\Tab E H S e F t (show List (Den E.D t) from x) none v cs):SR E H S (.tab e F t) x c pl:=by unfold SR;exact h
theorem b_jj (ht:∀ id,ThR E ρ n H S (a_5 s id) (ρ id)) {e:Nat} {F:List Nat} {t:U} {v:V E.D} {pk:Pk (List (Den E.D t))} {c:List Value} (h:a_pl E s e F t v=some pk) (hv:VC E ρ n H S v c) :
  SR E H S (.tab e F t) pk.dat c (pk.ids.map (place ρ))/\isA v=false/\k_2 s pk.ids:=by
 cases v with
 |
  nil=>
  simp only [a_pl] at h
  split at h<;>try cases h
  rename_i hok
  unfold VC at hv;subst hv
  refine ⟨?_,rfl,fun id h=>by simp at h⟩
  refine SR.tab ⟨nilS,[],rfl,rfl,rfl,⟨by simp,.inl ⟨rfl,none,rfl⟩⟩,rfl,hok,(fun _ _ h=>by cases h),fun i x f u ys e' h1=>by simp at h1,by simp,fun i j v v' _ hv _ k hk=>?_⟩
  have:=List.mem_of_getElem? hv
  have htl:Go.X.tl nilS=[]:=rfl
  rw [htl] at this
  simp at this;subst this;cases hk
 |
  sl id=>
  simp only [a_pl] at h
  split at h<;>try cases h
  rename_i e' F' t' xs hl
  split at h<;>try cases h
  rename_i he hc
  rw [Bool.and_eq_true,beq_eq,beq_iff_eq] at he
  obtain ⟨rfl,rfl⟩:=he
  obtain ⟨e2,hc⟩:=s_6 hc
  subst e2;subst hc
  unfold VC at hv
  obtain ⟨_,ho,rfl⟩:=hv
  have:=ht id
  rw [hl] at this
  obtain ⟨cs,this⟩:=this
  refine ⟨SR.tab ⟨ρ id,cs,rfl,rfl,ho,this⟩,rfl,fun j h=>?_⟩
  simp at h;subst h;rw [hl];rfl
 |_=>simp [a_pl] at h
theorem b_j5 (ht:∀ id,ThR E ρ n H S (a_5 s id) (ρ id)) {v:V E.D} {pk:Pk (List (Int×Int))} {c:List Value} (h:b_fx E s v=some pk) (hv:VC E ρ n H S v c) :
  SR E H S .map pk.dat c (pk.ids.map (place ρ))/\isA v=false/\k_2 s pk.ids:=by
 unfold b_fx at h
 split at h<;>try cases h
 rename_i id
 split at h<;>try cases h
 rename_i m hl
 unfold VC at hv
 obtain ⟨_,ho,rfl⟩:=hv
 have:=ht id
 rw [hl] at this
 have hhd:hd (ρ id)=ρ id:=by obtain ⟨r,es,cl,hv,_⟩:=this;rw [hv];rfl
 refine ⟨?_,rfl,fun j h=>?_⟩
 ·rw [hhd] at ho ⊢
  exact SR.map ⟨_,rfl,rfl,ho,this⟩
 ·simp at h;subst h;rw [hl];rfl
theorem b_jo (hE:c_9 E) (ht:∀ id,ThR E ρ n H S (a_5 s id) (ρ id)) {T id:Nat} {cs:List Sh} {v:V E.D} {l:List (V E.D)} {c:List Value} (h:b_es E s T cs v=some (id,l)) (hv:VC E ρ n H S v c) :
  isA v=false/\e_3 (a_5 s id)=true/\∃ b cc,ρ id=.pointer (some ⟨b,0,none⟩)/\c=[.pointer (some ⟨b,0,none⟩)]/\H[b]?=some (.cells cc.toArray T (0,0))/\(∀ u∈cc,u.oneCell'=true)/\VCs E ρ n H S l cc/\b_ef cs l:=by
 unfold b_es at h
 split at h<;>try cases h
 rename_i id'
 split at h<;>try cases h
 rename_i T' l0 hl
 split at h<;>try cases h
 rename_i hT hp
 rw [beq_eq] at hT
 subst hT
 unfold VC at hv
 obtain ⟨_,_,b,hr,rfl⟩:=hv
 have:=ht id
 rw [hl] at this
 obtain ⟨b',cc,hr',hb,hcs,h1⟩:=this
 obtain rfl:b=b':=by rw [hr'] at hr;simpa [hd,eq_comm] using hr
 obtain ⟨h2,h3⟩:=a_y3 hE hp hcs
 exact ⟨rfl,by rw [hl];rfl,b,cc,hr',by simp [l_4],hb,h1,h2,h3⟩
theorem a_z1 {sh:Sh} {v:V E.D} (h:isC sh v=true):(sh=.nil/\v=.nil)\/(sh=.nilp/\v=.nilp)\/(sh=.nilif/\v=.nilif)\/(∃ b,sh=.kb b/\v=.kb b):=by
 unfold isC at h
 split at h
 ·exact .inl ⟨rfl,rfl⟩
 ·exact .inr (.inl ⟨rfl,rfl⟩)
 ·exact .inr (.inr (.inl ⟨rfl,rfl⟩))
 ·rename_i b b'
  have:=beq_iff_eq.1 h
  subst this
  exact .inr (.inr (.inr ⟨_,rfl,rfl⟩))
 ·cases h
theorem b_rg {p q:Bool} {A B:Type} (hp:p=true) (h:∀ a b:B,a=b):∀ a b:DC p q A B,a=b:=by subst hp;exact h
mutual
theorem a_9x:∀ (sh:Sh),y_2 sh=true->∀ a b:Dat E.D sh,a=b
 |.any,_=>fun _ _=>rfl
 |.d _,h=>by cases h
 |.own _ _,h=>by cases h
 |.tab _ _ _,h=>by cases h
 |.box _ l,h=>a_hz l h
 |.agg l,h=>a_hz l h
 |.tup l,h=>a_hz l h
 |.fn _ l,h=>a_hz l h
 |.ifc _ x,h=>a_9x x h
 |.alt _ _,h=>by cases h
 |.map,h=>by cases h
 |.nil,_=>fun _ _=>rfl
 |.nilp,_=>fun _ _=>rfl
 |.nilif,_=>fun _ _=>rfl
 |.kb _,_=>fun _ _=>rfl
theorem a_hz:∀ (l:List Sh),n_6 l=true->∀ a b:n_2 E.D l,a=b
 |[],_=>fun _ _=>rfl
 |
  x :: r,h=>by
  have h:(y_2 x&&n_6 r)=true:=h
  rw [Bool.and_eq_true] at h
  exact b_rg h.1 (a_hz r h.2)
end -- mutual
theorem fst_mk {x:Sh} {r:List Sh} {a:Dat E.D x} {b:n_2 E.D r}:a_mw (y_2 x) (n_6 r) (dDat E x) (mkDC (y_2 x) (n_6 r) a b)=a:=by
 cases hx:y_2 x
 ·cases hr:n_6 r<;>rfl
 ·exact a_9x x hx _ _
theorem snd_mk {x:Sh} {r:List Sh} {a:Dat E.D x} {b:n_2 E.D r}:a_rl (y_2 x) (n_6 r) (a_mx E r) (mkDC (y_2 x) (n_6 r) a b)=b:=by
 cases hx:y_2 x
 ·cases hr:n_6 r
  ·rfl
  ·exact a_hz r hr _ _
 ·rfl
mutual
theorem a_1t (hE:c_9 E) (ht:∀ id,ThR E ρ n H S (a_5 s id) (ρ id)):∀ (sh:Sh) (v:V E.D) (pk:Pk (Dat E.D sh)) (c:List Value),rd E s sh v=some pk->VC E ρ n H S v c->(sh=.any->c.length=1)->
  SR E H S sh pk.dat c (pk.ids.map (place ρ))/\(sh≠.any->isA v=AG E sh pk.dat)/\k_2 s pk.ids
 |
  .any,v,pk,c,h,hv,hl=>by
  unfold rd at h
  obtain rfl:=Option.some.inj h
  exact ⟨by unfold SR;exact ⟨rfl,hl rfl⟩,fun h=>absurd rfl h,k_2.nil⟩
 |
  .d t,v,pk,c,h,hv,hl=>by
  unfold rd at h
  split at h<;>try cases h
  rename_i x hx
  exact ⟨by unfold SR;exact ⟨rfl,a_ts hE ht hx hv⟩,fun _=>by unfold AG;exact b_n5 hx,k_2.nil⟩
 |
  .own e t,v,pk,c,h,hv,hl=>by
  unfold rd at h
  obtain ⟨h1,h2,h3⟩:=b_k5 ht h hv
  exact ⟨h1,fun _=>by unfold AG;exact h2,h3⟩
 |
  .tab e F t,v,pk,c,h,hv,hl=>by
  unfold rd at h
  obtain ⟨h1,h2,h3⟩:=b_jj ht h hv
  exact ⟨h1,fun _=>by unfold AG;exact h2,h3⟩
 |
  .box T cs,v,pk,c,h,hv,hl=>by
  unfold rd at h
  split at h<;>try cases h
  rename_i id l hb
  split at h<;>try cases h
  rename_i ids x hr
  obtain ⟨h1,h2,b,cc,h3,rfl,h4,h5,h6,h7⟩:=b_jo hE ht hb hv
  obtain ⟨h8,h9⟩:=a_7q hE ht cs l ⟨ids,x⟩ cc hr h6 h7
  refine ⟨?_,fun _=>by unfold AG;exact h1,h9.app fun j hj=>by simp at hj;subst hj;exact h2⟩
  unfold SR
  exact ⟨b,cc,_,rfl,h4,h5,h8,by rw [a_26];simp [place,h3]⟩
 |
  .agg cs,v,pk,c,h,hv,hl=>by
  unfold rd at h
  split at h<;>try cases h
  rename_i ha
  split at h<;>try cases h
  rename_i l hp
  obtain ⟨c',hf,hA,_,hVC⟩:=(show VS E ρ n H S v (vl v c) from ⟨c,hv,rfl⟩).flat
  have hfl:VCs E ρ n H S (r_1 v) c:=by
   cases v<;>first | exact VCs.one hv | (unfold VC at hv;exact hv)
  obtain ⟨h6,h7⟩:=a_y3 hE hp hfl
  obtain ⟨h8,h9⟩:=a_7q hE ht cs l pk c h h6 h7
  exact ⟨by unfold SR;exact h8,fun _=>by unfold AG;exact ha,h9⟩
 |
  .tup cs,v,pk,c,h,hv,hl=>by
  unfold rd at h
  split at h<;>try cases h
  rename_i l hu
  have hvv:v=.tup l:=by cases v<;>simp [b_m7] at hu;subst hu;rfl
  subst hvv
  unfold VC at hv
  obtain ⟨us,rfl,hvt⟩:=hv
  obtain ⟨h8,h9⟩:=a_q3 hE ht cs l pk us h hvt
  exact ⟨by unfold SR;exact ⟨us,rfl,h8⟩,fun _=>by unfold AG;rfl,h9⟩
 |
  .fn f cs,v,pk,c,h,hv,hl=>by
  unfold rd at h
  split at h<;>try cases h
  rename_i l hu
  have hvv:v=.fn f l:=by
   cases v<;>simp only [unFn] at hu<;>try cases hu
   split at hu<;>try cases hu
   rename_i hb
   rw [beq_eq] at hb;subst hb;rfl
  subst hvv
  unfold VC at hv
  obtain ⟨us,rfl,hvt⟩:=hv
  obtain ⟨h8,h9⟩:=a_q3 hE ht cs l pk us h hvt
  exact ⟨by unfold SR;exact ⟨us,rfl,h8⟩,fun _=>by unfold AG;rfl,h9⟩
 |
  .ifc T sh,v,pk,c,h,hv,hl=>by
  unfold rd at h
  split at h<;>try cases h
  rename_i hna
  split at h<;>try cases h
  rename_i u hu
  have hvv:v=.ifc T u:=by
   cases v<;>simp only [b_mv] at hu<;>try cases hu
   split at hu<;>try cases hu
   rename_i hb
   rw [beq_eq] at hb;subst hb;rfl
  subst hvv
  unfold VC at hv
  obtain ⟨c',hv',rfl⟩:=hv
  have hne:sh≠.any:=by
   rintro rfl;cases hna
  obtain ⟨h8,h10,h9⟩:=a_1t hE ht sh u pk c' h hv' (fun e=>absurd e hne)
  exact ⟨by unfold SR;exact ⟨c',h8,by unfold vl;rw [h10 hne]⟩,fun _=>by unfold AG;rfl,h9⟩
 |
  .alt a b,v,pk,c,h,hv,hl=>by
  unfold rd at h
  split at h<;>try cases h
  rename_i hna
  rw [Bool.and_eq_true] at hna
  split at h
  ·split at h<;>try cases h
   rename_i ids y hr
   have hne:a≠.any:=by rintro rfl;cases hna.1
   obtain ⟨h8,h10,h9⟩:=a_1t hE ht a v ⟨ids,y⟩ c hr hv (fun e=>absurd e hne)
   exact ⟨h8,fun _=>h10 hne,h9⟩
  ·split at h<;>try cases h
   rename_i ids y hr
   have hne:b≠.any:=by rintro rfl;cases hna.2
   obtain ⟨h8,h10,h9⟩:=a_1t hE ht b v ⟨ids,y⟩ c hr hv (fun e=>absurd e hne)
   exact ⟨h8,fun _=>h10 hne,h9⟩
 |
  .map,v,pk,c,h,hv,hl=>by
  unfold rd at h
  obtain ⟨h1,h2,h3⟩:=b_j5 ht h hv
  exact ⟨h1,fun _=>by unfold AG;exact h2,h3⟩
 |
  .nil,v,pk,c,h,hv,hl=>by
  unfold rd pk0 at h
  split at h<;>try cases h
  rename_i hc
  rcases a_z1 hc with ⟨h1,rfl⟩ | ⟨h1,rfl⟩ | ⟨h1,rfl⟩ | ⟨b,h1,rfl⟩<;>cases h1
  unfold VC at hv;subst hv
  exact ⟨by unfold SR;exact ⟨rfl,rfl⟩,fun _=>by unfold AG;rfl,k_2.nil⟩
 |
  .nilp,v,pk,c,h,hv,hl=>by
  unfold rd pk0 at h
  split at h<;>try cases h
  rename_i hc
  rcases a_z1 hc with ⟨h1,rfl⟩ | ⟨h1,rfl⟩ | ⟨h1,rfl⟩ | ⟨b,h1,rfl⟩<;>cases h1
  unfold VC at hv;subst hv
  exact ⟨by unfold SR;exact ⟨rfl,rfl⟩,fun _=>by unfold AG;rfl,k_2.nil⟩
 |
  .nilif,v,pk,c,h,hv,hl=>by
  unfold rd pk0 at h
  split at h<;>try cases h
  rename_i hc
  rcases a_z1 hc with ⟨h1,rfl⟩ | ⟨h1,rfl⟩ | ⟨h1,rfl⟩ | ⟨b,h1,rfl⟩<;>cases h1
  unfold VC at hv;subst hv
  exact ⟨by unfold SR;exact ⟨rfl,rfl⟩,fun _=>by unfold AG;rfl,k_2.nil⟩
 |
  .kb b,v,pk,c,h,hv,hl=>by
  unfold rd pk0 at h
  split at h<;>try cases h
  rename_i hc
  rcases a_z1 hc with ⟨h1,rfl⟩ | ⟨h1,rfl⟩ | ⟨h1,rfl⟩ | ⟨b,h1,rfl⟩<;>cases h1
  unfold VC at hv;subst hv
  exact ⟨by unfold SR;exact ⟨rfl,rfl⟩,fun _=>by unfold AG;rfl,k_2.nil⟩
theorem a_7q (hE:c_9 E) (ht:∀ id,ThR E ρ n H S (a_5 s id) (ρ id)):∀ (cs:List Sh) (l:List (V E.D)) (pk:Pk (n_2 E.D cs)) (c:List Value),rdL E s cs l=some pk->VCs E ρ n H S l c->(b_ef cs l)->
  SRs E H S cs pk.dat c (pk.ids.map (place ρ))/\k_2 s pk.ids
 |
  [],[],pk,c,h,hl,_=>by
  unfold rdL at h
  obtain rfl:=Option.some.inj h
  unfold VCs at hl;subst hl
  exact ⟨by unfold SRs;exact ⟨rfl,rfl⟩,k_2.nil⟩
 |
  [],_ :: _,pk,c,h,hl,_=>by
  unfold rdL at h
  cases h
 |
  x :: r,l,pk,c,h,hl,hany=>by
  unfold rdL at h
  split at h<;>try cases h
  rename_i v l'
  split at h<;>try cases h
  rename_i i a j b hr1 hr2
  unfold VCs at hl
  obtain ⟨c1,c2,rfl,h1,h2⟩:=hl
  obtain ⟨h3,_,h4⟩:=a_1t hE ht x v ⟨i,a⟩ c1 hr1 h1 (fun e=>h1.len1 hE (hany 0 (by rw [e];rfl) v rfl))
  obtain ⟨h5,h6⟩:=a_7q hE ht r l' ⟨j,b⟩ c2 hr2 h2 (fun q hq w hw=>hany (q+1) (by simpa using hq) w (by simpa using hw))
  refine ⟨?_,h4.app h6⟩
  unfold SRs
  refine ⟨c1,c2,_,_,rfl,a_26 _ _,?_,?_⟩
  ·rw [fst_mk];exact h3
  ·rw [snd_mk];exact h5
theorem a_q3 (hE:c_9 E) (ht:∀ id,ThR E ρ n H S (a_5 s id) (ρ id)):∀ (cs:List Sh) (l:List (V E.D)) (pk:Pk (n_2 E.D cs)) (us:List Value),rdL E s cs l=some pk->VT E ρ n H S l us->
  SRT E H S cs pk.dat us (pk.ids.map (place ρ))/\k_2 s pk.ids
 |
  [],[],pk,c,h,hl=>by
  unfold rdL at h
  obtain rfl:=Option.some.inj h
  unfold VT at hl;subst hl
  exact ⟨by unfold SRT;exact ⟨rfl,rfl⟩,k_2.nil⟩
 |
  [],_ :: _,pk,c,h,hl=>by
  unfold rdL at h
  cases h
 |
  x :: r,l,pk,us,h,hl=>by
  unfold rdL at h
  split at h<;>try cases h
  rename_i v l'
  split at h<;>try cases h
  rename_i i a j b hr1 hr2
  unfold VT at hl
  obtain ⟨c,us',h1,rfl,h2⟩:=hl
  obtain ⟨h5,h6⟩:=a_q3 hE ht r l' ⟨j,b⟩ us' hr2 h2
  have key:∃ c0,SR E H S x a c0 (i.map (place ρ))/\vl v c=vlb (AG E x a) c0/\k_2 s i:=by
   by_cases hx:x=.any
   ·subst hx
    unfold rd at hr1
    obtain rfl:=congrArg Pk.ids (Option.some.inj hr1)
    exact ⟨[vl v c],by unfold SR;exact ⟨rfl,rfl⟩,by unfold AG;rfl,k_2.nil⟩
   ·obtain ⟨h3,h7,h4⟩:=a_1t hE ht x v ⟨i,a⟩ c hr1 h1 (fun e=>absurd e hx)
    exact ⟨c,h3,by unfold vl;rw [h7 hx],h4⟩
  obtain ⟨c0,h3,h7,h4⟩:=key
  refine ⟨?_,h4.app h6⟩
  unfold SRT
  refine ⟨c0,_,us',_,_,rfl,a_26 _ _,?_,?_,?_⟩
  ·rw [fst_mk];exact h7
  ·rw [fst_mk];exact h3
  ·rw [snd_mk];exact h5
end -- mutual
end
end
