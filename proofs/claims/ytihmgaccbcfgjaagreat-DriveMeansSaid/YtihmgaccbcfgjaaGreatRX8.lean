/- P. Its conditions: none. -/
import Derived.Test.YtihmgaccbcfgjaaGreatRX7
set_option linter.all false
namespace Go.X
open Go.V Go.RowKit
section
variable (E:Env)
mutual
def AG:(sh:Sh)->Q5 E.D sh->Bool
 |.d t,_=>L8 t
 |.agg _,_=>true
 |.alt a b,x=>match(show Q5 E.D a⊕Q5 E.D b from x)with
  |.inl y=>AG a y
  |.inr y=>AG b y
 |_,_=>false
end -- mutual
def v07 (H:I0)(v:Value)(m:List (Int×Int)):Prop:=∃r es cl,v=.map (some r)/\H[r]?=some (.map es cl)/\es.toList.map (fun e=>(e.key,e.val))=m.map (fun p=>(Value.int .i64 p.1,Value.int .i64 p.2))
section
variable (H:I0)(S:D0)
mutual
def SR:(sh:Sh)->Q5 E.D sh->List Value->List Value->Prop
 |.any,_,c,pl=>pl=[]/\c.length=1
 |.d t,x,c,pl=>pl=[]/\(J0 E t).R H S c x
 |.own e t,x,c,pl=>∃v cs,c=[v]/\pl=[v]/\v.oneCell'=true/\Row H e (J0 E t).sz v (show List (Den E.D t)from x).length cs/\R1 (J0 E t) H S cs x
 |.X0 e F t,x,c,pl=>∃v cs,c=[hd v]/\pl=[v]/\(hd v).oneCell'=true/\v7 E H S e F t (show List (Den E.D t)from x) none v cs
 |.box T l,x,c,pl=>∃b cs p,c=[.pointer (some ⟨b,0,none⟩)]/\H[b]?=some (.cells cs.toArray T (0,0))/\(∀u∈cs,u.oneCell'=true)/\SRs l x cs p/\pl=p++[.pointer (some ⟨b,0,none⟩)]
 |.agg l,x,c,pl=>SRs l x c pl
 |.tup l,x,c,pl=>∃us,c=[.tuple us.toArray]/\E2 l x us pl
 |.fn f l,x,c,pl=>∃us,c=[.func (.func f) #[] us.toArray]/\E2 l x us pl
 |.ifc T sh,x,c,pl=>∃c',SR sh x c' pl/\c=[.iface T (M3 (AG E sh x) c')]
 |.alt a b,x,c,pl=>match(show Q5 E.D a⊕Q5 E.D b from x)with
  |.inl y=>SR a y c pl
  |.inr y=>SR b y c pl
 |.map,x,c,pl=>∃v,c=[v]/\pl=[v]/\v.oneCell'=true/\v07 H v x
 |.nil,_,c,pl=>pl=[]/\c=[.slice none 0 0]
 |.nilp,_,c,pl=>pl=[]/\c=[.pointer none]
 |.nilif,_,c,pl=>pl=[]/\c=[.nilIface]
 |.kb b,_,c,pl=>pl=[]/\c=[.bool b]
def SRs:(l:List Sh)->J4 E.D l->List Value->List Value->Prop
 |[],_,c,pl=>c=[]/\pl=[]
 |x :: r,a,c,pl=>∃c1 c2 p1 b,c=c1++c2/\pl=p1++b/\SR x (c0G (Z5 x) (J5 r) (b0W E x) a) c1 p1/\SRs r (e0t (Z5 x) (J5 r) (c0M E r) a) c2 b
def E2:(l:List Sh)->J4 E.D l->List Value->List Value->Prop
 |[],_,us,pl=>us=[]/\pl=[]
 |x :: r,a,us,pl=>∃c u b p1 d,us=u :: b/\pl=p1++d/\u=M3 (AG E x (c0G (Z5 x) (J5 r) (b0W E x) a)) c/\SR x (c0G (Z5 x) (J5 r) (b0W E x) a) c p1/\E2 r (e0t (Z5 x) (J5 r) (c0M E r) a) b d
end -- mutual
end
end
section
variable {E:Env}{ρ:Nat->Value}{n N:Nat}{H:I0}{S:D0}
def St.more {D:Nat->Type}(u:St D)(tl:List (Nat×Th D))(m:Nat):St D:={ u with th:=tl++u.th,nid:=u.nid+m }
theorem m0B {α:Type}:∀(l l':List (Nat×α)) (k:Nat),F4 (l++l') k=match F4 l k with|some v=>some v|none=>F4 l' k
 |[],l',k=>rfl
 |(j,v) :: l,l',k=>by
  rw[List.cons_append,a0X,a0X];split
  ·rfl
  simp[m0B]
theorem j0s {α:Type}:∀(l:List (Nat×α)) (k:Nat),(∀p∈l,p.1≠k)->F4 l k=none
 |[],k,_=>rfl
 |(j,v) :: l,k,h=>by
  rw[a0X,if_neg (h (j,v) Z')];exact j0s l k fun p hp=>h p (by grind)
theorem g0g {D:Nat->Type}(u:St D)(tl:List (Nat×Th D))(m j:Nat)(h:∀p∈tl,p.1≠j):F0 (u.more tl m) j=F0 u j:=by
 grind [F0,St.more,m0B,j0s]
structure Y5 (E:Env)(ρ:Nat->Value)(N:Nat)(H:I0)(S:D0)(u:St E.D)(tl:List (Nat×Th E.D))(pl:List Value):Prop where
 keys:∀p∈tl,u.nid<=p.1/\p.1<u.nid+pl.length
 th:∀i v,pl[i]?=some v->K3 E ρ N H S (F0 (u.more tl pl.length) (u.nid+i)) v/\Q1 (F0 (u.more tl pl.length) (u.nid+i))=true
theorem Y5.nil {u:St E.D}:Y5 E ρ N H S u [] []:=⟨(fun p hp=>by cases hp),(fun i v h=>by grind)⟩
theorem Y5.one {u:St E.D}{x:Th E.D}{v:Value}(h:K3 E ρ N H S x v)(ho:Q1 x=true):Y5 E ρ N H S u [(u.nid,x)] [v]:=by
 refine⟨fun p hp=>by simp_all,fun i w hi=>?_⟩
 grind [F0,St.more,a0X]
def l0j {D:Nat->Type}(u:St D)(t1 t2:List (Nat×Th D))(m1 m2:Nat):(u.more t1 m1).more t2 m2=u.more (t2++t1) (m1+m2):=by
 simp[St.more,Nat.add_assoc]
theorem Y5.app {u:St E.D}{t1 t2:List (Nat×Th E.D)}{p1 b:List Value}(h1:Y5 E ρ N H S u t1 p1)(a:Y5 E ρ N H S (u.more t1 p1.length) t2 b):Y5 E ρ N H S u (t2++t1) (p1++b):=by
 have c:(u.more t1 p1.length).nid=u.nid+p1.length:=rfl;refine⟨fun p hp=>?_,fun i v hi=>?_⟩
 ·rw[List.length_append];rcases List.mem_append.1 hp with hp|hp
  ·have:=a.keys p hp;omega
  ·have:=h1.keys p hp;omega
 ·rw[List.length_append,<-l0j];rcases Nat.lt_or_ge i p1.length with hlt|hge
  ·rw[List.getElem?_append_left hlt]at hi;rw[g0g _ _ _ _ (fun p hp=>by have:=a.keys p hp;omega)];exact h1.th i v hi
  ·rw[List.getElem?_append_right hge]at hi;have:=a.th _ v hi
   grind
def T0.flat {l:List (V E.D)}:∀{c:List Value},T0 E ρ n H S l c->T0 E ρ n H S (l.flatMap j6) c:=by
 induction l with
 |nil=>simp
 |cons v l ih=>
  intro c h;obtain⟨c1,c2,rfl,h1,a⟩:=h;refine T0.app ?_ (ih a);cases v<;>first|exact T0.one h1|(exact h1)
def k01 {D:Nat->Type}(u:St D)(x:Th D):u.new x=u.more [(u.nid,x)] 1:=rfl
variable {R:Type}{r:R}
mutual
theorem h0M:∀(sh:Sh) (x:Q5 E.D sh) (c pl:List Value) (u:St E.D) (k:St E.D->V E.D->Option R),SR E H S sh x c pl->R7 E u sh x k=some r->(∀i v,pl[i]?=some v->ρ (u.nid+i)=v)->u.nid+pl.length<=N->
  ∃v tl,k (u.more tl pl.length) v=some r/\VC E ρ N H S v c/\V3 v=AG E sh x/\Y5 E ρ N H S u tl pl
 |.any,x,c,pl,u,k,h,hk,_,_=>by
  unfold SR at h;obtain⟨rfl,hl⟩:=h;unfold R7 at hk
  match c,hl with
  |[z],_=>exact⟨.undef,[],hk,by unfold VC;simp,by rfl,Y5.nil⟩
 |.d t,x,c,pl,u,k,h,hk,_,_=>by
  obtain⟨rfl,hl⟩:=h;refine⟨ofD t x,[],hk,?_,?_,Y5.nil⟩
  ·grind [k07,VC]
  grind [AG,i0Y]
 |.own e t,x,c,pl,u,k,h,hk,hp,hn=>by
  obtain⟨v,cs,rfl,rfl,ho,q,w⟩:=h;unfold R7 at hk;rw[k01]at hk;have o:=hp 0 v rfl;refine⟨.sl u.nid,_,hk,?_,by rfl,Y5.one ?_ rfl⟩
  ·unfold VC;rw[Nat.add_zero]at o;rw[o,(e04 ho).1];grind
  ·exact⟨cs,q,w⟩
 |.X0 e F t,x,c,pl,u,k,h,hk,hp,hn=>by
  unfold SR at h;obtain⟨v,cs,rfl,rfl,ho,C⟩:=h;unfold R7 at hk;rw[k01]at hk;have o:=hp 0 v rfl;refine⟨.sl u.nid,_,hk,?_,by rfl,Y5.one ?_ rfl⟩
  ·unfold VC;grind
  ·exact⟨cs,C⟩
 |.box T l,x,c,pl,u,k,h,hk,hp,hn=>by
  unfold SR at h;obtain⟨b,cs,p,rfl,J,h1,hs,rfl⟩:=h;unfold R7 at hk;rw[List.length_append]at hn ⊢;obtain⟨l',tl,g,m,j⟩:=n0m l x cs p u _ hs hk (fun i v hi=>hp i v (by grind)) O';have o:=hp p.length (.pointer (some ⟨b,0,none⟩)) Z';refine⟨.pb (u.nid+p.length) 0 [],((u.more tl p.length).nid,.box T l') :: tl,?_,?_,by rfl,?_⟩
  ·rw[k01,l0j]at g;exact g
  ·unfold VC;simp at hn;exact⟨O',trivial,b,by rw[o];rfl,by rfl⟩
  ·exact j.app (t2:=[((u.more tl p.length).nid,Th.box T l')]) (Y5.one ⟨b,cs,rfl,J,m,h1⟩ rfl)
 |.agg l,x,c,pl,u,k,h,hk,hp,hn=>by
  unfold SR at h;unfold R7 at hk;obtain⟨l',tl,g,m,j⟩:=n0m l x c pl u _ h hk hp hn;exact⟨_,tl,g,by unfold VC;exact m.flat,by rfl,j⟩
 |.tup l,x,c,pl,u,k,h,hk,hp,hn=>by
  unfold SR at h;obtain⟨us,rfl,h⟩:=h;unfold R7 at hk;obtain⟨l',tl,g,m,j⟩:=g0k l x us pl u _ h hk hp hn;exact⟨_,tl,g,by unfold VC;simp_all,by rfl,j⟩
 |.fn f l,x,c,pl,u,k,h,hk,hp,hn=>by
  unfold SR at h;obtain⟨us,rfl,h⟩:=h;unfold R7 at hk;obtain⟨l',tl,g,m,j⟩:=g0k l x us pl u _ h hk hp hn;exact⟨_,tl,g,by unfold VC;simp_all,by rfl,j⟩
 |.ifc T sh,x,c,pl,u,k,h,hk,hp,hn=>by
  unfold SR at h;obtain⟨c',h,rfl⟩:=h;unfold R7 at hk;obtain⟨I,tl,g,m,ha,j⟩:=h0M sh x c' pl u _ h hk hp hn;exact⟨_,tl,g,by grind [VC,vl],by rfl,j⟩
 |.alt a b,.inl y,c,pl,u,k,h,hk,hp,hn=>by
  obtain⟨I,tl,g,m,ha,j⟩:=h0M a y c pl u k h hk hp hn;exact⟨I,tl,g,m,ha,j⟩
 |.alt a b,.inr y,c,pl,u,k,h,hk,hp,hn=>by
  obtain⟨I,tl,g,m,ha,j⟩:=h0M b y c pl u k h hk hp hn;exact⟨I,tl,g,m,ha,j⟩
 |.map,x,c,pl,u,k,h,hk,hp,hn=>by
  unfold SR at h;obtain⟨v,rfl,rfl,ho,hm⟩:=h;unfold R7 at hk;rw[k01]at hk;have o:=hp 0 v rfl;refine⟨.mp u.nid,_,hk,?_,by rfl,Y5.one ?_ rfl⟩
  ·unfold VC;rw[Nat.add_zero]at o;rw[o,(e04 ho).1];grind
  ·exact hm
 |.nil,x,c,pl,u,k,h,hk,_,_=>by
  unfold SR at h;obtain⟨rfl,rfl⟩:=h;unfold R7 at hk;exact⟨.nil,[],hk,by rfl,by rfl,Y5.nil⟩
 |.nilp,x,c,pl,u,k,h,hk,_,_=>by
  unfold SR at h;obtain⟨rfl,rfl⟩:=h;unfold R7 at hk;exact⟨.nilp,[],hk,by rfl,by rfl,Y5.nil⟩
 |.nilif,x,c,pl,u,k,h,hk,_,_=>by
  unfold SR at h;obtain⟨rfl,rfl⟩:=h;unfold R7 at hk;exact⟨.nilif,[],hk,by unfold VC;rfl,by unfold AG;rfl,Y5.nil⟩
 |.kb b,x,c,pl,u,k,h,hk,_,_=>by
  unfold SR at h;obtain⟨rfl,rfl⟩:=h;unfold R7 at hk;exact⟨.kb b,[],hk,by unfold VC;rfl,by unfold AG;rfl,Y5.nil⟩
theorem n0m:∀(l:List Sh) (x:J4 E.D l) (c pl:List Value) (u:St E.D) (k:St E.D->List (V E.D)->Option R),SRs E H S l x c pl->J9 E u l x k=some r->(∀i v,pl[i]?=some v->ρ (u.nid+i)=v)->u.nid+pl.length<=N->
  ∃vs tl,k (u.more tl pl.length) vs=some r/\T0 E ρ N H S vs c/\Y5 E ρ N H S u tl pl
 |[],x,c,pl,u,k,h,hk,_,_=>by
  unfold SRs at h;obtain⟨rfl,rfl⟩:=h;unfold J9 at hk;exact⟨[],[],hk,T0.nil,Y5.nil⟩
 |sh :: l,x,c,pl,u,k,h,hk,hp,hn=>by
  unfold SRs at h;obtain⟨c1,c2,p1,g,rfl,rfl,h1,m⟩:=h;unfold J9 at hk;rw[List.length_append]at hn ⊢;obtain⟨v,t1,e,j,_,b⟩:=h0M sh _ c1 p1 u _ h1 hk (fun i v hi=>hp i v (by rw[List.getElem?_append_left (List.getElem?_eq_some_iff.1 hi).1];exact hi)) O';obtain⟨vs,t2,a,f,d⟩:=n0m l _ c2 g (u.more t1 p1.length) _ m e (fun i v hi=>by
   have:=hp (p1.length+i) v (by rw[List.getElem?_append_right O',Nat.add_sub_cancel_left];exact hi);rw[<-this];show ρ (u.nid+p1.length+i)=_;congr 1;omega) (by show u.nid+p1.length+g.length<=N;omega)
  refine⟨v :: vs,t2++t1,?_,?_,b.app d⟩
  ·rw[l0j]at a;exact a
  ·unfold T0;exact⟨c1,c2,rfl,j,f⟩
theorem g0k:∀(l:List Sh) (x:J4 E.D l) (us pl:List Value) (u:St E.D) (k:St E.D->List (V E.D)->Option R),E2 E H S l x us pl->J9 E u l x k=some r->(∀i v,pl[i]?=some v->ρ (u.nid+i)=v)->u.nid+pl.length<=N->
  ∃vs tl,k (u.more tl pl.length) vs=some r/\VT E ρ N H S vs us/\Y5 E ρ N H S u tl pl
 |[],x,c,pl,u,k,h,hk,_,_=>by
  unfold E2 at h;obtain⟨rfl,rfl⟩:=h;unfold J9 at hk;exact⟨[],[],hk,by unfold VT;rfl,Y5.nil⟩
 |sh :: l,x,us,pl,u,k,h,hk,hp,hn=>by
  unfold E2 at h;obtain⟨c,z,a,p1,j,rfl,rfl,m,h1,p⟩:=h;unfold J9 at hk;rw[List.length_append]at hn ⊢;obtain⟨v,t1,f,o,ha,d⟩:=h0M sh _ c p1 u _ h1 hk (fun i v hi=>hp i v (by rw[List.getElem?_append_left (List.getElem?_eq_some_iff.1 hi).1];exact hi)) O';obtain⟨vs,t2,b,g,e⟩:=g0k l _ a j (u.more t1 p1.length) _ p f (fun i v hi=>by
   have:=hp (p1.length+i) v (by rw[List.getElem?_append_right O',Nat.add_sub_cancel_left];exact hi);rw[<-this];show ρ (u.nid+p1.length+i)=_;congr 1;omega) (by show u.nid+p1.length+j.length<=N;omega)
  refine⟨v :: vs,t2++t1,?_,?_,d.app e⟩
  ·rw[l0j]at b;exact b
  ·unfold VT;exact⟨c,a,o,by rw[m];unfold vl;rw[ha],g⟩
end -- mutual
section
variable {s:St E.D}
def place (ρ:Nat->Value):Option Nat->Value
 |none=>.slice none 0 0
 |some id=>ρ id
def M5 (s:St E.D)(ids:List (Option Nat)):Prop:=∀id,some id∈ids->Q1 (F0 s id)=true
def I0o {b:IntKind}{v:V E.D}{x:Int}(h:d04 b v=some x):V3 v=false:=by
 unfold d04 at h;split at h<;>try cases h
 rename_i a;cases v<;>first|rfl|skip
 ·rename_i t z;cases t<;>simp[B5]at a<;>rfl
 simp_all[B5]
def x0z {v:V E.D}{x:Bool}(h:G6 v=some x):V3 v=false:=by
 cases v<;>first|rfl|skip
 ·rename_i t z;cases t<;>simp[G6]at h<;>rfl
 simp_all[G6]
theorem y06 {v:V E.D}{x:ByteArray}(h:f0a v=some x):V3 v=false:=by
 unfold f0a at h;split at h
 ·rfl
 grind
def G0w {t:U}{v:V E.D}{x:List (Den E.D t)}(h:e0J E s t v=some x):V3 v=false:=by
 unfold e0J at h;split at h<;>first|rfl|cases h
def x0n {q:TD E}{i:Nat}{v:V E.D}{x:E.D i}(h:e01 E q i v=some x):V3 v=true:=by
 unfold e01 at h;split at h
 ·rename_i hd;obtain rfl:=f0N hd;obtain⟨e,h⟩:=c0D h;subst e;rfl
 ·split at h<;>try cases h
  rename_i l hl;obtain rfl:=k0r hl;rfl
def F0O {q:TD E}{m:Nat}{t:U}{v:V E.D}{x:List (Den E.D t)}(h:e0C E q m t v=some x):V3 v=true:=by
 unfold e0C at h;split at h
 ·rename_i hd;obtain rfl:=f0N hd;obtain⟨e,h⟩:=c0D h;subst e;rfl
 ·split at h<;>try cases h
  rename_i l hl;obtain rfl:=k0r hl;rfl
theorem v0H {q:TD E}{t:U}{v:V E.D}{x:Den E.D t}(h:d0I E s q t v=some x):V3 v=false:=by
 unfold d0I at h;split at h<;>first|rfl|cases h
theorem F0C {q:TD E}{t:U}{v:V E.D}{x:Option (Den E.D t)}(h:e0N E s q t v=some x):V3 v=false:=by
 unfold e0N at h;split at h
 ·rename_i hn;obtain rfl:=v0g hn;rfl
 ·split at h
  ·rename_i hd;obtain rfl:=f0N hd;obtain⟨e,h⟩:=c0D h;subst e;rfl
  grind [v0H]
def I0m {q:TD E}:∀{t:U} {v:V E.D} {x:Den E.D t},k0e E s q t v=some x->V3 v=L8 t
 |.int a,v,x,h=>I0o (show d04 a v=some x from h)
 |.bool,v,x,h=>x0z (show G6 v=some x from h)
 |.str,v,x,h=>y06 (show f0a v=some x from h)
 |.list t,v,x,h=>G0w (show e0J E s t v=some x from h)
 |.st i,v,x,h=>x0n (show e01 E q i v=some x from h)
 |.arr n t,v,x,h=>F0O (show e0C E q n t v=some x from h)
 |.ptr t,v,x,h=>v0H (show d0I E s q t v=some x from h)
 |.opt t,v,x,h=>F0C (show e0N E s q t v=some x from h)
theorem H0a {k:Nat}{t:U}{v:V E.D}{x:Den E.D t}(h:toD E s k t v=some x):V3 v=L8 t:=by
 cases k with
 |zero=>cases h
 |succ k=>exact I0m (show k0e E s (td E s k) t v=some x from h)
def q0o {D:Nat->Type}(cs:List Sh)(l:List (V D)):Prop:=∀(i:Nat),cs[i]?=some Sh.any->∀v:V D,l[i]?=some v->V3 v=false
theorem p01 (d:T1 E):∀{cs:List Sh} {l l':List (V E.D)} {c:List Value},c0S E cs l=some l'->T0 E ρ n H S l c->T0 E ρ n H S l' c/\q0o cs l'
 |[],[],l',c,h,a=>by
  simp[c0S]at h;subst h;exact⟨a,fun i hi=>Z'⟩
 |[],_ :: _,l',c,h,a=>by grind [c0S]
 |x :: r,l,l',c,h,a=>by
  simp only[c0S]at h;split at h<;>try cases h
  rename_i m g b;split at h<;>try cases h
  rename_i v vs ha hp;obtain⟨c1,c2,rfl,_,hm,f⟩:=b0z d _ _ _ _ _ b c a;obtain⟨j,e⟩:=p01 d hp f;obtain⟨o,k⟩:=f0x d ha hm;refine⟨by unfold T0;grind,fun i hi w hw=>?_⟩;cases i with
  |zero=>
   simp_all
  |succ i=>exact e i (by simp_all) w (by simp_all)
def p0l (a b:List (Option Nat)):(a++b).map (place ρ)=a.map (place ρ)++b.map (place ρ):=List.map_append
def M5.app {a b:List (Option Nat)}(h1:M5 s a)(c:M5 s b):M5 s (a++b):=fun id h=>by
 rcases List.mem_append.1 h with h|h
 ·exact h1 id h
 ·exact c id h
def M5.nil:M5 s []:=fun id h=>by cases h
def SR.own {e:Nat}{t:U}{x:Q5 E.D (.own e t)}{c pl:List Value}(h:∃v cs,c=[v]/\pl=[v]/\v.oneCell'=true/\Row H e (J0 E t).sz v (show List (Den E.D t)from x).length cs/\R1 (J0 E t) H S cs x):SR E H S (.own e t) x c pl:=by simp_all[SR]
def SR.map {x:Q5 E.D .map}{c pl:List Value}(h:∃v,c=[v]/\pl=[v]/\v.oneCell'=true/\v07 H v x):SR E H S .map x c pl:=by simp_all[SR]
theorem E0L (m:∀id,K3 E ρ n H S (F0 s id) (ρ id)){e:Nat}{t:U}{v:V E.D}{f:Pk (List (Den E.D t))}{c:List Value}(h:m0S E s e t v=some f)(k:VC E ρ n H S v c):
  SR E H S (.own e t) f.dat c (f.ids.map (place ρ))/\V3 v=false/\M5 s f.ids:=by
 unfold m0S at h;split at h
 ·simp only[Option.some.injEq]at h;subst h;subst k;refine⟨?_,rfl,fun id h=>by grind⟩;exact SR.own ⟨_,[],rfl,rfl,rfl,⟨Z',.inl ⟨rfl,none,rfl⟩⟩,R1.nil⟩
 ·rename_i id;split at h<;>try cases h
  rename_i e' o xs hl;split at h<;>try cases h
  rename_i ys he i;rw[Nat.beq_eq]at he;subst he;obtain⟨l,i⟩:=a0u i;subst l;subst i;obtain⟨_,ho,rfl⟩:=k;have:=m id;rw[hl]at this;have a:∃A' c,ρ id=.slice A' xs.length c:=E5.form this;obtain⟨A',c',a⟩:=a;have g:hd (ρ id)=ρ id:=by rw[a];rfl
  obtain⟨cs,b,d⟩:=this;refine⟨?_,rfl,fun j h=>?_⟩
  ·rw[g]at ho ⊢;exact SR.own ⟨_,cs,rfl,rfl,ho,b,d⟩
  ·simp at h;subst h;rw[hl];rfl
 grind
def SR.X0 {e:Nat}{F:List Nat}{t:U}{x:Q5 E.D (.X0 e F t)}{c pl:List Value}(h:∃v cs,c=[hd v]/\pl=[v]/\(hd v).oneCell'=true/\v7 E H S e F t (show List (Den E.D t)from x) none v cs):SR E H S (.X0 e F t) x c pl:=by simp_all[SR]
theorem y0B (m:∀id,K3 E ρ n H S (F0 s id) (ρ id)){e:Nat}{F:List Nat}{t:U}{v:V E.D}{a:Pk (List (Den E.D t))}{c:List Value}(h:d0M E s e F t v=some a)(b:VC E ρ n H S v c):
  SR E H S (.X0 e F t) a.dat c (a.ids.map (place ρ))/\V3 v=false/\M5 s a.ids:=by
 cases v with
 |nil=>
  simp only[d0M]at h;split at h<;>try cases h
  rename_i g;subst b;refine⟨?_,rfl,fun id h=>by grind⟩;refine SR.X0 ⟨z7,[],rfl,rfl,rfl,⟨Z',.inl ⟨rfl,none,rfl⟩⟩,rfl,g,(fun _ _ h=>by cases h),fun i x f u ys e' h1=>by grind,Z',fun i j v w _ b _ k hk=>?_⟩;have o:Go.X.tl z7=[]:=rfl
  grind
 |sl id=>
  simp only[d0M]at h;split at h<;>try cases h
  rename_i e' p q xs hl;split at h<;>try cases h
  rename_i he d;rw[Bool.and_eq_true,Nat.beq_eq,beq_iff_eq]at he;obtain⟨rfl,rfl⟩:=he;obtain⟨l,d⟩:=a0u d;subst l;subst d;obtain⟨_,ho,rfl⟩:=b;have:=m id;rw[hl]at this;obtain⟨cs,this⟩:=this;refine⟨SR.X0 ⟨ρ id,cs,rfl,rfl,ho,this⟩,rfl,fun j h=>?_⟩;simp at h;subst h;rw[hl];rfl
 |_=>grind [d0M]
def D05 (e:∀id,K3 E ρ n H S (F0 s id) (ρ id)){v:V E.D}{a:Pk (List (Int×Int))}{c:List Value}(h:m0P E s v=some a)(d:VC E ρ n H S v c):
  SR E H S .map a.dat c (a.ids.map (place ρ))/\V3 v=false/\M5 s a.ids:=by
 unfold m0P at h;split at h<;>try cases h
 rename_i id;split at h<;>try cases h
 rename_i m hl;obtain⟨_,ho,rfl⟩:=d;have:=e id;rw[hl]at this;have b:hd (ρ id)=ρ id:=by obtain⟨r,es,cl,d,_⟩:=this;rw[d];rfl
 refine⟨?_,rfl,fun j h=>?_⟩
 ·rw[b]at ho ⊢;exact SR.map ⟨_,rfl,rfl,ho,this⟩
 ·simp at h;subst h;rw[hl];rfl
def B0G (o:T1 E)(g:∀id,K3 E ρ n H S (F0 s id) (ρ id)){T id:Nat}{cs:List Sh}{v:V E.D}{l:List (V E.D)}{c:List Value}(h:n0L E s T cs v=some (id,l))(k:VC E ρ n H S v c):
  V3 v=false/\Q1 (F0 s id)=true/\∃b cc,ρ id=.pointer (some ⟨b,0,none⟩)/\c=[.pointer (some ⟨b,0,none⟩)]/\H[b]?=some (.cells cc.toArray T (0,0))/\(∀u∈cc,u.oneCell'=true)/\T0 E ρ n H S l cc/\q0o cs l:=by
 unfold n0L at h;split at h<;>try cases h
 split at h<;>try cases h
 rename_i p q hl;split at h<;>try cases h
 rename_i f hp;rw[Nat.beq_eq]at f;subst f;obtain⟨_,_,b,e,rfl⟩:=k;have:=g id;rw[hl]at this;obtain⟨b',cc,a,m,d,h1⟩:=this;obtain rfl:b=b':=by rw[a]at e;simpa[hd,eq_comm]using e
 obtain⟨i,j⟩:=p01 o hp d;exact⟨rfl,by rw[hl];rfl,b,cc,a,by rfl,m,h1,i,j⟩
theorem k0s {sh:Sh}{v:V E.D}(h:isC sh v=true):(sh=.nil/\v=.nil)\/(sh=.nilp/\v=.nilp)\/(sh=.nilif/\v=.nilif)\/(∃b,sh=.kb b/\v=.kb b):=by
 unfold isC at h
 grind
def D09 {p q:Bool}{A B:Type}(hp:p=true)(h:∀a b:B,a=b):∀a b:DC p q A B,a=b:=by subst hp;exact h
mutual
def v0p:∀(sh:Sh),Z5 sh=true->∀a b:Q5 E.D sh,a=b
 |.any,_=>fun _ _=>rfl
 |.d _,h=>by cases h
 |.own _ _,h=>by cases h
 |.X0 _ _ _,h=>by cases h
 |.box _ l,h=>f0J l h
 |.agg l,h=>f0J l h
 |.tup l,h=>f0J l h
 |.fn _ l,h=>f0J l h
 |.ifc _ x,h=>v0p x h
 |.alt _ _,h=>by cases h
 |.map,h=>by cases h
 |.nil,_=>fun _ _=>rfl
 |.nilp,_=>fun _ _=>rfl
 |.nilif,_=>fun _ _=>rfl
 |.kb _,_=>fun _ _=>rfl
def f0J:∀(l:List Sh),J5 l=true->∀a b:J4 E.D l,a=b
 |[],_=>fun _ _=>rfl
 |x :: r,h=>by
  have h:(Z5 x&&J5 r)=true:=h;rw[Bool.and_eq_true]at h;exact D09 h.1 (f0J r h.2)
end -- mutual
def fst_mk {x:Sh}{r:List Sh}{a:Q5 E.D x}{b:J4 E.D r}:c0G (Z5 x) (J5 r) (b0W E x) (e0q (Z5 x) (J5 r) a b)=a:=by
 cases c:Z5 x
 ·cases d:J5 r<;>rfl
 ·exact v0p x c _ _
def snd_mk {x:Sh}{r:List Sh}{a:Q5 E.D x}{b:J4 E.D r}:e0t (Z5 x) (J5 r) (c0M E r) (e0q (Z5 x) (J5 r) a b)=b:=by
 cases d:Z5 x
 ·cases c:J5 r
  ·rfl
  ·exact f0J r c _ _
 ·rfl
mutual
theorem h0w (q:T1 E)(k:∀id,K3 E ρ n H S (F0 s id) (ρ id)):∀(sh:Sh) (v:V E.D) (g:Pk (Q5 E.D sh)) (c:List Value),rd E s sh v=some g->VC E ρ n H S v c->(sh=.any->c.length=1)->
  SR E H S sh g.dat c (g.ids.map (place ρ))/\(sh≠.any->V3 v=AG E sh g.dat)/\M5 s g.ids
 |.any,v,g,c,h,hv,hl=>by
  obtain rfl:=Option.some.inj h;exact⟨by unfold SR;simp_all,fun h=>absurd rfl h,M5.nil⟩
 |.d t,v,g,c,h,hv,hl=>by
  unfold rd at h;split at h<;>try cases h
  rename_i x hx;exact⟨by exact⟨rfl,g0J q k hx hv⟩,fun _=>by grind [AG,H0a],M5.nil⟩
 |.own e t,v,g,c,h,hv,hl=>by
  obtain⟨h1,h2,U⟩:=E0L k h hv
  simp_all[AG]
 |.X0 e F t,v,g,c,h,hv,hl=>by
  obtain⟨h1,h2,U⟩:=y0B k h hv
  simp_all[AG]
 |.box T cs,v,g,c,h,hv,hl=>by
  unfold rd at h;split at h<;>try cases h
  rename_i id l hb;split at h<;>try cases h
  rename_i ids x J;obtain⟨h1,h2,b,cc,U,rfl,h4,h5,h6,h7⟩:=B0G q k hb hv;obtain⟨w,m⟩:=o0g q k cs l ⟨ids,x⟩ cc J h6 h7;refine⟨?_,fun _=>by simp_all[AG],m.app fun j hj=>by simp_all⟩;unfold SR;exact⟨b,cc,_,rfl,h4,h5,w,by simp_all[place]⟩
 |.agg cs,v,g,c,h,hv,hl=>by
  unfold rd at h;split at h<;>try cases h
  rename_i ha;split at h<;>try cases h
  rename_i l hp;obtain⟨c',hf,hA,_,b2⟩:=(show VS E ρ n H S v (vl v c)from⟨c,hv,rfl⟩).flat;have a1:T0 E ρ n H S (j6 v) c:=by
   cases v<;>first|exact T0.one hv|(unfold VC at hv;exact hv)
  obtain⟨h6,h7⟩:=p01 q hp a1;obtain⟨w,m⟩:=o0g q k cs l g c h h6 h7
  simp_all[SR,AG]
 |.tup cs,v,g,c,h,hv,hl=>by
  unfold rd at h;split at h<;>try cases h
  rename_i l hu;have p:v=.tup l:=by cases v<;>simp[r08]at hu;simp_all
  subst p;unfold VC at hv;obtain⟨us,rfl,C⟩:=hv;obtain⟨w,m⟩:=f0A q k cs l g us h C;exact⟨by unfold SR;simp_all,fun _=>by rfl,m⟩
 |.fn f cs,v,g,c,h,hv,hl=>by
  unfold rd at h;split at h<;>try cases h
  rename_i l hu;have p:v=.fn f l:=by
   cases v<;>simp only[s0p]at hu<;>try cases hu
   grind [Nat.beq_eq]
  subst p;unfold VC at hv;obtain⟨us,rfl,C⟩:=hv;obtain⟨w,m⟩:=f0A q k cs l g us h C;exact⟨by unfold SR;simp_all,fun _=>by rfl,m⟩
 |.ifc T sh,v,g,c,h,hv,hl=>by
  unfold rd at h;split at h<;>try cases h
  rename_i o;split at h<;>try cases h
  rename_i u hu;have p:v=.ifc T u:=by
   cases v<;>simp only[q0M]at hu<;>try cases hu
   grind [Nat.beq_eq]
  subst p;unfold VC at hv;obtain⟨c',b1,rfl⟩:=hv;have i:sh≠.any:=by
   rintro rfl;cases o
  obtain⟨w,z,m⟩:=h0w q k sh u g c' h b1 (fun e=>absurd e i);exact⟨by unfold SR;exact⟨c',w,by simp_all[vl]⟩,fun _=>by rfl,m⟩
 |.alt a b,v,g,c,h,hv,hl=>by
  unfold rd at h;split at h<;>try cases h
  rename_i o;rw[Bool.and_eq_true]at o;split at h
  ·split at h<;>try cases h
   rename_i ids y J;have i:a≠.any:=by rintro rfl;cases o.1
   obtain⟨w,z,m⟩:=h0w q k a v ⟨ids,y⟩ c J hv (fun e=>absurd e i);exact⟨w,fun _=>z i,m⟩
  ·split at h<;>try cases h
   rename_i ids y J;have i:b≠.any:=by rintro rfl;cases o.2
   obtain⟨w,z,m⟩:=h0w q k b v ⟨ids,y⟩ c J hv (fun e=>absurd e i);exact⟨w,fun _=>z i,m⟩
 |.map,v,g,c,h,hv,hl=>by
  unfold rd at h;obtain⟨h1,h2,U⟩:=D05 k h hv
  simp_all[AG]
 |.nil,v,g,c,h,hv,hl=>by
  unfold rd pk0 at h;split at h<;>try cases h
  rename_i I;rcases k0s I with⟨h1,rfl⟩|⟨h1,rfl⟩|⟨h1,rfl⟩|⟨b,h1,rfl⟩<;>cases h1
  unfold VC at hv;subst hv;exact⟨by unfold SR;simp,fun _=>by rfl,M5.nil⟩
 |.nilp,v,g,c,h,hv,hl=>by
  unfold rd pk0 at h;split at h<;>try cases h
  rename_i I;rcases k0s I with⟨h1,rfl⟩|⟨h1,rfl⟩|⟨h1,rfl⟩|⟨b,h1,rfl⟩<;>cases h1
  unfold VC at hv;subst hv;exact⟨by unfold SR;simp,fun _=>by rfl,M5.nil⟩
 |.nilif,v,g,c,h,hv,hl=>by
  unfold rd pk0 at h;split at h<;>try cases h
  rename_i I;rcases k0s I with⟨h1,rfl⟩|⟨h1,rfl⟩|⟨h1,rfl⟩|⟨b,h1,rfl⟩<;>cases h1
  unfold VC at hv;subst hv;exact⟨by unfold SR;simp,fun _=>by rfl,M5.nil⟩
 |.kb b,v,g,c,h,hv,hl=>by
  unfold rd pk0 at h;split at h<;>try cases h
  rename_i I;rcases k0s I with⟨h1,rfl⟩|⟨h1,rfl⟩|⟨h1,rfl⟩|⟨b,h1,rfl⟩<;>cases h1
  unfold VC at hv;subst hv;exact⟨by unfold SR;exact⟨rfl,rfl⟩,fun _=>by unfold AG;rfl,M5.nil⟩
theorem o0g (g:T1 E)(m:∀id,K3 E ρ n H S (F0 s id) (ρ id)):∀(cs:List Sh) (l:List (V E.D)) (d:Pk (J4 E.D cs)) (c:List Value),W7 E s cs l=some d->T0 E ρ n H S l c->(q0o cs l)->
  SRs E H S cs d.dat c (d.ids.map (place ρ))/\M5 s d.ids
 |[],[],d,c,h,hl,_=>by
  unfold W7 at h;obtain rfl:=Option.some.inj h;unfold T0 at hl;subst hl;exact⟨by unfold SRs;exact⟨rfl,rfl⟩,M5.nil⟩
 |[],_ :: _,d,c,h,hl,_=>by
  unfold W7 at h;cases h
 |x :: r,l,d,c,h,hl,hany=>by
  unfold W7 at h;split at h<;>try cases h
  rename_i v l';split at h<;>try cases h
  rename_i i a j b f k;unfold T0 at hl;obtain⟨c1,c2,rfl,h1,z⟩:=hl;obtain⟨t,_,p⟩:=h0w g m x v ⟨i,a⟩ c1 f h1 (fun e=>h1.k0y g (hany 0 (by rw[e];rfl) v rfl));obtain⟨y,u⟩:=o0g g m r l' ⟨j,b⟩ c2 k z (fun q o w hw=>hany (q+1) (by simpa using o) w (by simpa using hw));refine⟨?_,p.app u⟩;unfold SRs;refine⟨c1,c2,_,_,rfl,p0l _ _,?_,?_⟩
  ·rw[fst_mk];exact t
  ·rw[snd_mk];exact y
theorem f0A (w:T1 E)(u:∀id,K3 E ρ n H S (F0 s id) (ρ id)):∀(cs:List Sh) (l:List (V E.D)) (f:Pk (J4 E.D cs)) (us:List Value),W7 E s cs l=some f->VT E ρ n H S l us->
  E2 E H S cs f.dat us (f.ids.map (place ρ))/\M5 s f.ids
 |[],[],f,c,h,hl=>by
  unfold W7 at h;obtain rfl:=Option.some.inj h;unfold VT at hl;subst hl;exact⟨by unfold E2;exact⟨rfl,rfl⟩,M5.nil⟩
 |[],_ :: _,f,c,h,hl=>by
  unfold W7 at h;cases h
 |x :: r,l,f,us,h,hl=>by
  unfold W7 at h;split at h<;>try cases h
  rename_i v l';split at h<;>try cases h
  rename_i i a j b d t;unfold VT at hl;obtain⟨c,g,h1,rfl,C⟩:=hl;obtain⟨z,y⟩:=f0A w u r l' ⟨j,b⟩ g t C;have key:∃k,SR E H S x a k (i.map (place ρ))/\vl v c=M3 (AG E x a) k/\M5 s i:=by
   by_cases o:x=.any
   ·subst o;unfold rd at d;obtain rfl:=congrArg Pk.ids (Option.some.inj d);exact⟨[vl v c],by unfold SR;exact⟨rfl,rfl⟩,by unfold AG;rfl,M5.nil⟩
   ·obtain⟨p,q,m⟩:=h0w w u x v ⟨i,a⟩ c d h1 (fun e=>absurd e o);exact⟨c,p,by unfold vl;rw[q o],m⟩
  obtain⟨k,p,q,m⟩:=key;refine⟨?_,m.app y⟩;unfold E2;refine⟨k,_,g,_,_,rfl,p0l _ _,?_,?_,?_⟩
  ·rw[fst_mk];exact q
  ·rw[fst_mk];exact p
  ·rw[snd_mk];exact z
end -- mutual
end
end
