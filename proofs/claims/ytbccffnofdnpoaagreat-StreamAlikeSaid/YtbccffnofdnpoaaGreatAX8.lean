/- P. Its conditions: none. -/
import Derived.Test.YtbccffnofdnpoaaGreatAX7
set_option linter.all false
namespace Go.X
open Go.V Go.RowKit
section
variable (E:Env)
mutual
def AG:(sh:Sh)->H6 E.D sh->Bool
 |.d t,_=>c9 t
 |.agg _,_=>true
 |.alt a b,x=>match(show H6 E.D a⊕H6 E.D b from x)with
  |.inl y=>AG a y
  |.inr y=>AG b y
 |_,_=>false
end -- mutual
def x05 (H:M0)(v:Value)(m:List (Int×Int)):Prop:=∃r es cl,v=.map (some r)/\H[r]?=some (.map es cl)/\es.toList.map (fun e=>(e.key,e.val))=m.map (fun p=>(Value.int .i64 p.1,Value.int .i64 p.2))
section
variable (H:M0)(S:E0)
mutual
def SR:(sh:Sh)->H6 E.D sh->List Value->List Value->Prop
 |.any,_,c,pl=>pl=[]/\c.length=1
 |.d t,x,c,pl=>pl=[]/\(L0 E t).R H S c x
 |.own e t,x,c,pl=>∃v cs,c=[v]/\pl=[v]/\v.oneCell'=true/\Row H e (L0 E t).sz v (show List (Den E.D t)from x).length cs/\V1 (L0 E t) H S cs x
 |.G1 e F t,x,c,pl=>∃v cs,c=[hd v]/\pl=[v]/\(hd v).oneCell'=true/\N7 E H S e F t (show List (Den E.D t)from x) none v cs
 |.box T l,x,c,pl=>∃b cs p,c=[.pointer (some ⟨b,0,none⟩)]/\H[b]?=some (.cells cs.toArray T (0,0))/\(∀u∈cs,u.oneCell'=true)/\SRs l x cs p/\pl=p++[.pointer (some ⟨b,0,none⟩)]
 |.agg l,x,c,pl=>SRs l x c pl
 |.tup l,x,c,pl=>∃us,c=[.tuple us.toArray]/\G3 l x us pl
 |.fn f l,x,c,pl=>∃us,c=[.func (.func f) #[] us.toArray]/\G3 l x us pl
 |.ifc T sh,x,c,pl=>∃c',SR sh x c' pl/\c=[.iface T (O4 (AG E sh x) c')]
 |.alt a b,x,c,pl=>match(show H6 E.D a⊕H6 E.D b from x)with
  |.inl y=>SR a y c pl
  |.inr y=>SR b y c pl
 |.map,x,c,pl=>∃v,c=[v]/\pl=[v]/\v.oneCell'=true/\x05 H v x
 |.nil,_,c,pl=>pl=[]/\c=[.slice none 0 0]
 |.nilp,_,c,pl=>pl=[]/\c=[.pointer none]
 |.nilif,_,c,pl=>pl=[]/\c=[.nilIface]
 |.kb b,_,c,pl=>pl=[]/\c=[.bool b]
def SRs:(l:List Sh)->F5 E.D l->List Value->List Value->Prop
 |[],_,c,pl=>c=[]/\pl=[]
 |x :: r,a,c,pl=>∃c1 c2 p1 b,c=c1++c2/\pl=p1++b/\SR x (d0y (Z6 x) (A6 r) (b05 E x) a) c1 p1/\SRs r (e03 (Z6 x) (A6 r) (d0m E r) a) c2 b
def G3:(l:List Sh)->F5 E.D l->List Value->List Value->Prop
 |[],_,us,pl=>us=[]/\pl=[]
 |x :: r,a,us,pl=>∃c u b p1 d,us=u :: b/\pl=p1++d/\u=O4 (AG E x (d0y (Z6 x) (A6 r) (b05 E x) a)) c/\SR x (d0y (Z6 x) (A6 r) (b05 E x) a) c p1/\G3 r (e03 (Z6 x) (A6 r) (d0m E r) a) b d
end -- mutual
end
end
section
variable {E:Env}{ρ:Nat->Value}{n N:Nat}{H:M0}{S:E0}
def St.more {D:Nat->Type}(u:St D)(tl:List (Nat×Th D))(m:Nat):St D:={ u with th:=tl++u.th,nid:=u.nid+m }
theorem o0P {α:Type}:∀(l l':List (Nat×α)) (k:Nat),C5 (l++l') k=match C5 l k with|some v=>some v|none=>C5 l' k
 |[],l',k=>rfl
 |(j,v) :: l,l',k=>by
  rw[List.cons_append,a0R,a0R];split
  ·rfl
  simp[o0P]
theorem l00 {α:Type}:∀(l:List (Nat×α)) (k:Nat),(∀p∈l,p.1≠k)->C5 l k=none
 |[],k,_=>rfl
 |(j,v) :: l,k,h=>by
  rw[a0R,if_neg (h (j,v) V')];exact l00 l k fun p hp=>h p (by grind)
theorem f0T {D:Nat->Type}(u:St D)(tl:List (Nat×Th D))(m j:Nat)(h:∀p∈tl,p.1≠j):G0 (u.more tl m) j=G0 u j:=by
 grind [G0,St.more,o0P,l00]
structure X6 (E:Env)(ρ:Nat->Value)(N:Nat)(H:M0)(S:E0)(u:St E.D)(tl:List (Nat×Th E.D))(pl:List Value):Prop where
 keys:∀p∈tl,u.nid<=p.1/\p.1<u.nid+pl.length
 th:∀i v,pl[i]?=some v->M4 E ρ N H S (G0 (u.more tl pl.length) (u.nid+i)) v/\E2 (G0 (u.more tl pl.length) (u.nid+i))=true
theorem X6.nil {u:St E.D}:X6 E ρ N H S u [] []:=⟨(fun p hp=>by cases hp),(fun i v h=>by grind)⟩
theorem X6.one {u:St E.D}{x:Th E.D}{v:Value}(h:M4 E ρ N H S x v)(a:E2 x=true):X6 E ρ N H S u [(u.nid,x)] [v]:=by
 refine⟨fun p hp=>by simp_all,fun i w hi=>?_⟩
 grind [G0,St.more,a0R]
def o0d {D:Nat->Type}(u:St D)(t1 t2:List (Nat×Th D))(m1 m2:Nat):(u.more t1 m1).more t2 m2=u.more (t2++t1) (m1+m2):=by
 simp[St.more,Nat.add_assoc]
theorem X6.app {u:St E.D}{t1 t2:List (Nat×Th E.D)}{p1 c:List Value}(h1:X6 E ρ N H S u t1 p1)(a:X6 E ρ N H S (u.more t1 p1.length) t2 c):X6 E ρ N H S u (t2++t1) (p1++c):=by
 have b:(u.more t1 p1.length).nid=u.nid+p1.length:=rfl;refine⟨fun p hp=>?_,fun i v hi=>?_⟩
 ·rw[List.length_append];rcases List.mem_append.1 hp with hp|hp
  ·have:=a.keys p hp;omega
  ·have:=h1.keys p hp;omega
 ·rw[List.length_append,<-o0d];rcases Nat.lt_or_ge i p1.length with hlt|hge
  ·rw[List.getElem?_append_left hlt]at hi;rw[f0T _ _ _ _ (fun p hp=>by have:=a.keys p hp;omega)];exact h1.th i v hi
  ·rw[List.getElem?_append_right hge]at hi;have:=a.th _ v hi
   grind
def F1.flat {l:List (V E.D)}:∀{c:List Value},F1 E ρ n H S l c->F1 E ρ n H S (l.flatMap b7) c:=by
 induction l with
 |nil=>simp
 |cons v l ih=>
  intro c h;obtain⟨c1,c2,rfl,h1,a⟩:=h;refine F1.app ?_ (ih a);cases v<;>first|exact F1.one h1|(exact h1)
def m0M {D:Nat->Type}(u:St D)(x:Th D):u.new x=u.more [(u.nid,x)] 1:=rfl
variable {R:Type}{r:R}
mutual
theorem j0Y:∀(sh:Sh) (x:H6 E.D sh) (c pl:List Value) (u:St E.D) (k:St E.D->V E.D->Option R),SR E H S sh x c pl->P8 E u sh x k=some r->(∀i v,pl[i]?=some v->ρ (u.nid+i)=v)->u.nid+pl.length<=N->
  ∃v tl,k (u.more tl pl.length) v=some r/\VC E ρ N H S v c/\T4 v=AG E sh x/\X6 E ρ N H S u tl pl
 |.any,x,c,pl,u,k,h,hk,_,_=>by
  unfold SR at h;obtain⟨rfl,hl⟩:=h;unfold P8 at hk
  match c,hl with
  |[z],_=>exact⟨.undef,[],hk,by unfold VC;simp,by rfl,X6.nil⟩
 |.d t,x,c,pl,u,k,h,hk,_,_=>by
  obtain⟨rfl,hl⟩:=h;refine⟨ofD t x,[],hk,?_,?_,X6.nil⟩
  ·grind [n0J,VC]
  grind [AG,k0Z]
 |.own e t,x,c,pl,u,k,h,hk,hp,hn=>by
  obtain⟨v,cs,rfl,rfl,J,w,q⟩:=h;unfold P8 at hk;rw[m0M]at hk;have o:=hp 0 v rfl;refine⟨.sl u.nid,_,hk,?_,by rfl,X6.one ?_ rfl⟩
  ·unfold VC;rw[Nat.add_zero]at o;rw[o,(f0b J).1];grind
  ·exact⟨cs,w,q⟩
 |.G1 e F t,x,c,pl,u,k,h,hk,hp,hn=>by
  unfold SR at h;obtain⟨v,cs,rfl,rfl,J,C⟩:=h;unfold P8 at hk;rw[m0M]at hk;have o:=hp 0 v rfl;refine⟨.sl u.nid,_,hk,?_,by rfl,X6.one ?_ rfl⟩
  ·unfold VC;grind
  ·exact⟨cs,C⟩
 |.box T l,x,c,pl,u,k,h,hk,hp,hn=>by
  unfold SR at h;obtain⟨b,cs,p,rfl,U,h1,hs,rfl⟩:=h;unfold P8 at hk;rw[List.length_append]at hn ⊢;obtain⟨l',tl,g,m,j⟩:=s0a l x cs p u _ hs hk (fun i v hi=>hp i v (by grind)) O';have o:=hp p.length (.pointer (some ⟨b,0,none⟩)) V';refine⟨.pb (u.nid+p.length) 0 [],((u.more tl p.length).nid,.box T l') :: tl,?_,?_,by rfl,?_⟩
  ·rw[m0M,o0d]at g;exact g
  ·unfold VC;simp at hn;exact⟨O',trivial,b,by rw[o];rfl,by rfl⟩
  ·exact j.app (t2:=[((u.more tl p.length).nid,Th.box T l')]) (X6.one ⟨b,cs,rfl,U,m,h1⟩ rfl)
 |.agg l,x,c,pl,u,k,h,hk,hp,hn=>by
  unfold SR at h;unfold P8 at hk;obtain⟨l',tl,g,m,j⟩:=s0a l x c pl u _ h hk hp hn;exact⟨_,tl,g,by unfold VC;exact m.flat,by rfl,j⟩
 |.tup l,x,c,pl,u,k,h,hk,hp,hn=>by
  unfold SR at h;obtain⟨us,rfl,h⟩:=h;unfold P8 at hk;obtain⟨l',tl,g,m,j⟩:=g0I l x us pl u _ h hk hp hn;exact⟨_,tl,g,by unfold VC;simp_all,by rfl,j⟩
 |.fn f l,x,c,pl,u,k,h,hk,hp,hn=>by
  unfold SR at h;obtain⟨us,rfl,h⟩:=h;unfold P8 at hk;obtain⟨l',tl,g,m,j⟩:=g0I l x us pl u _ h hk hp hn;exact⟨_,tl,g,by unfold VC;simp_all,by rfl,j⟩
 |.ifc T sh,x,c,pl,u,k,h,hk,hp,hn=>by
  unfold SR at h;obtain⟨c',h,rfl⟩:=h;unfold P8 at hk;obtain⟨I,tl,g,m,ha,j⟩:=j0Y sh x c' pl u _ h hk hp hn;exact⟨_,tl,g,by grind [VC,vl],by rfl,j⟩
 |.alt a b,.inl y,c,pl,u,k,h,hk,hp,hn=>by
  obtain⟨I,tl,g,m,ha,j⟩:=j0Y a y c pl u k h hk hp hn;exact⟨I,tl,g,m,ha,j⟩
 |.alt a b,.inr y,c,pl,u,k,h,hk,hp,hn=>by
  obtain⟨I,tl,g,m,ha,j⟩:=j0Y b y c pl u k h hk hp hn;exact⟨I,tl,g,m,ha,j⟩
 |.map,x,c,pl,u,k,h,hk,hp,hn=>by
  unfold SR at h;obtain⟨v,rfl,rfl,J,hm⟩:=h;unfold P8 at hk;rw[m0M]at hk;have o:=hp 0 v rfl;refine⟨.mp u.nid,_,hk,?_,by rfl,X6.one ?_ rfl⟩
  ·unfold VC;rw[Nat.add_zero]at o;rw[o,(f0b J).1];grind
  ·exact hm
 |.nil,x,c,pl,u,k,h,hk,_,_=>by
  unfold SR at h;obtain⟨rfl,rfl⟩:=h;unfold P8 at hk;exact⟨.nil,[],hk,by rfl,by rfl,X6.nil⟩
 |.nilp,x,c,pl,u,k,h,hk,_,_=>by
  unfold SR at h;obtain⟨rfl,rfl⟩:=h;unfold P8 at hk;exact⟨.nilp,[],hk,by rfl,by rfl,X6.nil⟩
 |.nilif,x,c,pl,u,k,h,hk,_,_=>by
  unfold SR at h;obtain⟨rfl,rfl⟩:=h;unfold P8 at hk;exact⟨.nilif,[],hk,by unfold VC;rfl,by unfold AG;rfl,X6.nil⟩
 |.kb b,x,c,pl,u,k,h,hk,_,_=>by
  unfold SR at h;obtain⟨rfl,rfl⟩:=h;unfold P8 at hk;exact⟨.kb b,[],hk,by unfold VC;rfl,by unfold AG;rfl,X6.nil⟩
theorem s0a:∀(l:List Sh) (x:F5 E.D l) (c pl:List Value) (u:St E.D) (k:St E.D->List (V E.D)->Option R),SRs E H S l x c pl->G9 E u l x k=some r->(∀i v,pl[i]?=some v->ρ (u.nid+i)=v)->u.nid+pl.length<=N->
  ∃vs tl,k (u.more tl pl.length) vs=some r/\F1 E ρ N H S vs c/\X6 E ρ N H S u tl pl
 |[],x,c,pl,u,k,h,hk,_,_=>by
  unfold SRs at h;obtain⟨rfl,rfl⟩:=h;unfold G9 at hk;exact⟨[],[],hk,F1.nil,X6.nil⟩
 |sh :: l,x,c,pl,u,k,h,hk,hp,hn=>by
  unfold SRs at h;obtain⟨c1,c2,p1,g,rfl,rfl,h1,j⟩:=h;unfold G9 at hk;rw[List.length_append]at hn ⊢;obtain⟨v,t1,e,m,_,f⟩:=j0Y sh _ c1 p1 u _ h1 hk (fun i v hi=>hp i v (by rw[List.getElem?_append_left (List.getElem?_eq_some_iff.1 hi).1];exact hi)) O';obtain⟨vs,t2,a,b,d⟩:=s0a l _ c2 g (u.more t1 p1.length) _ j e (fun i v hi=>by
   have:=hp (p1.length+i) v (by rw[List.getElem?_append_right O',Nat.add_sub_cancel_left];exact hi);rw[<-this];show ρ (u.nid+p1.length+i)=_;congr 1;omega) (by show u.nid+p1.length+g.length<=N;omega)
  refine⟨v :: vs,t2++t1,?_,?_,f.app d⟩
  ·rw[o0d]at a;exact a
  ·unfold F1;exact⟨c1,c2,rfl,m,b⟩
theorem g0I:∀(l:List Sh) (x:F5 E.D l) (us pl:List Value) (u:St E.D) (k:St E.D->List (V E.D)->Option R),G3 E H S l x us pl->G9 E u l x k=some r->(∀i v,pl[i]?=some v->ρ (u.nid+i)=v)->u.nid+pl.length<=N->
  ∃vs tl,k (u.more tl pl.length) vs=some r/\VT E ρ N H S vs us/\X6 E ρ N H S u tl pl
 |[],x,c,pl,u,k,h,hk,_,_=>by
  unfold G3 at h;obtain⟨rfl,rfl⟩:=h;unfold G9 at hk;exact⟨[],[],hk,by unfold VT;rfl,X6.nil⟩
 |sh :: l,x,us,pl,u,k,h,hk,hp,hn=>by
  unfold G3 at h;obtain⟨c,z,a,p1,j,rfl,rfl,m,h1,o⟩:=h;unfold G9 at hk;rw[List.length_append]at hn ⊢;obtain⟨v,t1,f,p,ha,g⟩:=j0Y sh _ c p1 u _ h1 hk (fun i v hi=>hp i v (by rw[List.getElem?_append_left (List.getElem?_eq_some_iff.1 hi).1];exact hi)) O';obtain⟨vs,t2,b,d,e⟩:=g0I l _ a j (u.more t1 p1.length) _ o f (fun i v hi=>by
   have:=hp (p1.length+i) v (by rw[List.getElem?_append_right O',Nat.add_sub_cancel_left];exact hi);rw[<-this];show ρ (u.nid+p1.length+i)=_;congr 1;omega) (by show u.nid+p1.length+j.length<=N;omega)
  refine⟨v :: vs,t2++t1,?_,?_,g.app e⟩
  ·rw[o0d]at b;exact b
  ·unfold VT;exact⟨c,a,p,by rw[m];unfold vl;rw[ha],d⟩
end -- mutual
section
variable {s:St E.D}
def place (ρ:Nat->Value):Option Nat->Value
 |none=>.slice none 0 0
 |some id=>ρ id
def G6 (s:St E.D)(ids:List (Option Nat)):Prop:=∀id,some id∈ids->E2 (G0 s id)=true
def M0n {a:IntKind}{v:V E.D}{x:Int}(h:e0R a v=some x):T4 v=false:=by
 unfold e0R at h;split at h<;>try cases h
 rename_i b;cases v<;>first|rfl|skip
 ·rename_i t z;cases t<;>simp[o6]at b<;>rfl
 simp_all[o6]
def B0P {v:V E.D}{x:Bool}(h:M7 v=some x):T4 v=false:=by
 cases v<;>first|rfl|skip
 ·rename_i t z;cases t<;>simp[M7]at h<;>rfl
 simp_all[M7]
theorem B07 {v:V E.D}{x:ByteArray}(h:f0q v=some x):T4 v=false:=by
 unfold f0q at h;split at h
 ·rfl
 grind
def M0M {t:U}{v:V E.D}{x:List (Den E.D t)}(h:e00 E s t v=some x):T4 v=false:=by
 unfold e00 at h;split at h<;>first|rfl|cases h
def H0u {q:TD E}{i:Nat}{v:V E.D}{x:E.D i}(h:e0H E q i v=some x):T4 v=true:=by
 unfold e0H at h;split at h
 ·rename_i hd;obtain rfl:=g0c hd;obtain⟨e,h⟩:=d0H h;subst e;rfl
 ·split at h<;>try cases h
  rename_i l hl;obtain rfl:=m0I hl;rfl
def H0f {q:TD E}{m:Nat}{t:U}{v:V E.D}{x:List (Den E.D t)}(h:f0B E q m t v=some x):T4 v=true:=by
 unfold f0B at h;split at h
 ·rename_i hd;obtain rfl:=g0c hd;obtain⟨e,h⟩:=d0H h;subst e;rfl
 ·split at h<;>try cases h
  rename_i l hl;obtain rfl:=m0I hl;rfl
theorem w0T {q:TD E}{t:U}{v:V E.D}{x:Den E.D t}(h:d0M E s q t v=some x):T4 v=false:=by
 unfold d0M at h;split at h<;>first|rfl|cases h
theorem K0L {q:TD E}{t:U}{v:V E.D}{x:Option (Den E.D t)}(h:f0x E s q t v=some x):T4 v=false:=by
 unfold f0x at h;split at h
 ·rename_i hn;obtain rfl:=w0F hn;rfl
 ·split at h
  ·rename_i hd;obtain rfl:=g0c hd;obtain⟨e,h⟩:=d0H h;subst e;rfl
  grind [w0T]
def H0V {q:TD E}:∀{t:U} {v:V E.D} {x:Den E.D t},l0m E s q t v=some x->T4 v=c9 t
 |.int a,v,x,h=>M0n (show e0R a v=some x from h)
 |.bool,v,x,h=>B0P (show M7 v=some x from h)
 |.str,v,x,h=>B07 (show f0q v=some x from h)
 |.list t,v,x,h=>M0M (show e00 E s t v=some x from h)
 |.st i,v,x,h=>H0u (show e0H E q i v=some x from h)
 |.arr n t,v,x,h=>H0f (show f0B E q n t v=some x from h)
 |.ptr t,v,x,h=>w0T (show d0M E s q t v=some x from h)
 |.opt t,v,x,h=>K0L (show f0x E s q t v=some x from h)
theorem F0Y {k:Nat}{t:U}{v:V E.D}{x:Den E.D t}(h:toD E s k t v=some x):T4 v=c9 t:=by
 cases k with
 |zero=>cases h
 |succ k=>exact H0V (show l0m E s (td E s k) t v=some x from h)
def r0E {D:Nat->Type}(cs:List Sh)(l:List (V D)):Prop:=∀(i:Nat),cs[i]?=some Sh.any->∀v:V D,l[i]?=some v->T4 v=false
theorem q0T (b:G2 E):∀{cs:List Sh} {l l':List (V E.D)} {c:List Value},d0g E cs l=some l'->F1 E ρ n H S l c->F1 E ρ n H S l' c/\r0E cs l'
 |[],[],l',c,h,a=>by
  simp[d0g]at h;subst h;exact⟨a,fun i hi=>V'⟩
 |[],_ :: _,l',c,h,a=>by grind [d0g]
 |x :: r,l,l',c,h,a=>by
  simp only[d0g]at h;split at h<;>try cases h
  rename_i m l2 d;split at h<;>try cases h
  rename_i v vs ha hp;obtain⟨c1,c2,rfl,_,hm,f⟩:=b00 b _ _ _ _ _ d c a;obtain⟨g,e⟩:=q0T b hp f;obtain⟨j,k⟩:=g0t b ha hm;refine⟨by unfold F1;grind,fun i hi w hw=>?_⟩;cases i with
  |zero=>
   simp_all
  |succ i=>exact e i (by simp_all) w (by simp_all)
def x0f (a b:List (Option Nat)):(a++b).map (place ρ)=a.map (place ρ)++b.map (place ρ):=List.map_append
def G6.app {a b:List (Option Nat)}(h1:G6 s a)(c:G6 s b):G6 s (a++b):=fun id h=>by
 rcases List.mem_append.1 h with h|h
 ·exact h1 id h
 ·exact c id h
def G6.nil:G6 s []:=fun id h=>by cases h
def SR.own {e:Nat}{t:U}{x:H6 E.D (.own e t)}{c pl:List Value}(h:∃v cs,c=[v]/\pl=[v]/\v.oneCell'=true/\Row H e (L0 E t).sz v (show List (Den E.D t)from x).length cs/\V1 (L0 E t) H S cs x):SR E H S (.own e t) x c pl:=by simp_all[SR]
def SR.map {x:H6 E.D .map}{c pl:List Value}(h:∃v,c=[v]/\pl=[v]/\v.oneCell'=true/\x05 H v x):SR E H S .map x c pl:=by simp_all[SR]
theorem D0Y (p:∀id,M4 E ρ n H S (G0 s id) (ρ id)){e:Nat}{t:U}{v:V E.D}{f:Pk (List (Den E.D t))}{c:List Value}(h:p0V E s e t v=some f)(m:VC E ρ n H S v c):
  SR E H S (.own e t) f.dat c (f.ids.map (place ρ))/\T4 v=false/\G6 s f.ids:=by
 unfold p0V at h;split at h
 ·simp only[Option.some.injEq]at h;subst h;subst m;refine⟨?_,rfl,fun id h=>by grind⟩;exact SR.own ⟨_,[],rfl,rfl,rfl,⟨V',.inl ⟨rfl,none,rfl⟩⟩,V1.nil⟩
 ·rename_i id;split at h<;>try cases h
  rename_i e' q xs hl;split at h<;>try cases h
  rename_i ys he i;rw[Nat.beq_eq]at he;subst he;obtain⟨o,i⟩:=W9 i;subst o;subst i;obtain⟨_,l,rfl⟩:=m;have:=p id;rw[hl]at this;have a:∃k c,ρ id=.slice k xs.length c:=U5.form this;obtain⟨k,c',a⟩:=a;have g:hd (ρ id)=ρ id:=by rw[a];rfl
  obtain⟨cs,d,b⟩:=this;refine⟨?_,rfl,fun j h=>?_⟩
  ·rw[g]at l ⊢;exact SR.own ⟨_,cs,rfl,rfl,l,d,b⟩
  ·simp at h;subst h;rw[hl];rfl
 grind
def SR.G1 {e:Nat}{F:List Nat}{t:U}{x:H6 E.D (.G1 e F t)}{c pl:List Value}(h:∃v cs,c=[hd v]/\pl=[v]/\(hd v).oneCell'=true/\N7 E H S e F t (show List (Den E.D t)from x) none v cs):SR E H S (.G1 e F t) x c pl:=by simp_all[SR]
theorem J01 (m:∀id,M4 E ρ n H S (G0 s id) (ρ id)){e:Nat}{F:List Nat}{t:U}{v:V E.D}{a:Pk (List (Den E.D t))}{c:List Value}(h:d09 E s e F t v=some a)(g:VC E ρ n H S v c):
  SR E H S (.G1 e F t) a.dat c (a.ids.map (place ρ))/\T4 v=false/\G6 s a.ids:=by
 cases v with
 |nil=>
  simp only[d09]at h;split at h<;>try cases h
  rename_i d;subst g;refine⟨?_,rfl,fun id h=>by grind⟩;refine SR.G1 ⟨H7,[],rfl,rfl,rfl,⟨V',.inl ⟨rfl,none,rfl⟩⟩,rfl,d,(fun _ _ h=>by cases h),fun i x f u ys e' h1=>by grind,V',fun i j v w _ g _ k hk=>?_⟩;have p:Go.X.tl H7=[]:=rfl
  grind
 |sl id=>
  simp only[d09]at h;split at h<;>try cases h
  rename_i e' y q xs hl;split at h<;>try cases h
  rename_i he b;rw[Bool.and_eq_true,Nat.beq_eq,beq_iff_eq]at he;obtain⟨rfl,rfl⟩:=he;obtain⟨l,b⟩:=W9 b;subst l;subst b;obtain⟨_,o,rfl⟩:=g;have:=m id;rw[hl]at this;obtain⟨cs,this⟩:=this;refine⟨SR.G1 ⟨ρ id,cs,rfl,rfl,o,this⟩,rfl,fun j h=>?_⟩;simp at h;subst h;rw[hl];rfl
 |_=>grind [d09]
def D0U (f:∀id,M4 E ρ n H S (G0 s id) (ρ id)){v:V E.D}{a:Pk (List (Int×Int))}{c:List Value}(h:s0h E s v=some a)(d:VC E ρ n H S v c):
  SR E H S .map a.dat c (a.ids.map (place ρ))/\T4 v=false/\G6 s a.ids:=by
 unfold s0h at h;split at h<;>try cases h
 rename_i id;split at h<;>try cases h
 rename_i m hl;obtain⟨_,e,rfl⟩:=d;have:=f id;rw[hl]at this;have b:hd (ρ id)=ρ id:=by obtain⟨r,es,cl,d,_⟩:=this;rw[d];rfl
 refine⟨?_,rfl,fun j h=>?_⟩
 ·rw[b]at e ⊢;exact SR.map ⟨_,rfl,rfl,e,this⟩
 ·simp at h;subst h;rw[hl];rfl
def K0f (i:G2 E)(k:∀id,M4 E ρ n H S (G0 s id) (ρ id)){T id:Nat}{cs:List Sh}{v:V E.D}{l:List (V E.D)}{c:List Value}(h:q0l E s T cs v=some (id,l))(o:VC E ρ n H S v c):
  T4 v=false/\E2 (G0 s id)=true/\∃b d,ρ id=.pointer (some ⟨b,0,none⟩)/\c=[.pointer (some ⟨b,0,none⟩)]/\H[b]?=some (.cells d.toArray T (0,0))/\(∀u∈d,u.oneCell'=true)/\F1 E ρ n H S l d/\r0E cs l:=by
 unfold q0l at h;split at h<;>try cases h
 split at h<;>try cases h
 rename_i t q hl;split at h<;>try cases h
 rename_i g hp;rw[Nat.beq_eq]at g;subst g;obtain⟨_,_,b,f,rfl⟩:=o;have:=k id;rw[hl]at this;obtain⟨b',d,a,p,e,h1⟩:=this;obtain rfl:b=b':=by rw[a]at f;simpa[hd,eq_comm]using f
 obtain⟨m,j⟩:=q0T i hp e;exact⟨rfl,by rw[hl];rfl,b,d,a,by rfl,p,h1,m,j⟩
theorem n0D {sh:Sh}{v:V E.D}(h:isC sh v=true):(sh=.nil/\v=.nil)\/(sh=.nilp/\v=.nilp)\/(sh=.nilif/\v=.nilif)\/(∃b,sh=.kb b/\v=.kb b):=by
 unfold isC at h
 grind
def J0R {p q:Bool}{A B:Type}(hp:p=true)(h:∀a b:B,a=b):∀a b:DC p q A B,a=b:=by subst hp;exact h
mutual
def y0K:∀(sh:Sh),Z6 sh=true->∀a b:H6 E.D sh,a=b
 |.any,_=>fun _ _=>rfl
 |.d _,h=>by cases h
 |.own _ _,h=>by cases h
 |.G1 _ _ _,h=>by cases h
 |.box _ l,h=>g01 l h
 |.agg l,h=>g01 l h
 |.tup l,h=>g01 l h
 |.fn _ l,h=>g01 l h
 |.ifc _ x,h=>y0K x h
 |.alt _ _,h=>by cases h
 |.map,h=>by cases h
 |.nil,_=>fun _ _=>rfl
 |.nilp,_=>fun _ _=>rfl
 |.nilif,_=>fun _ _=>rfl
 |.kb _,_=>fun _ _=>rfl
def g01:∀(l:List Sh),A6 l=true->∀a b:F5 E.D l,a=b
 |[],_=>fun _ _=>rfl
 |x :: r,h=>by
  have h:(Z6 x&&A6 r)=true:=h;rw[Bool.and_eq_true]at h;exact J0R h.1 (g01 r h.2)
end -- mutual
def fst_mk {x:Sh}{r:List Sh}{a:H6 E.D x}{b:F5 E.D r}:d0y (Z6 x) (A6 r) (b05 E x) (e0N (Z6 x) (A6 r) a b)=a:=by
 cases c:Z6 x
 ·cases d:A6 r<;>rfl
 ·exact y0K x c _ _
def snd_mk {x:Sh}{r:List Sh}{a:H6 E.D x}{b:F5 E.D r}:e03 (Z6 x) (A6 r) (d0m E r) (e0N (Z6 x) (A6 r) a b)=b:=by
 cases d:Z6 x
 ·cases c:A6 r
  ·rfl
  ·exact g01 r c _ _
 ·rfl
mutual
theorem h0V (q:G2 E)(m:∀id,M4 E ρ n H S (G0 s id) (ρ id)):∀(sh:Sh) (v:V E.D) (g:Pk (H6 E.D sh)) (c:List Value),rd E s sh v=some g->VC E ρ n H S v c->(sh=.any->c.length=1)->
  SR E H S sh g.dat c (g.ids.map (place ρ))/\(sh≠.any->T4 v=AG E sh g.dat)/\G6 s g.ids
 |.any,v,g,c,h,hv,hl=>by
  obtain rfl:=Option.some.inj h;exact⟨by unfold SR;simp_all,fun h=>absurd rfl h,G6.nil⟩
 |.d t,v,g,c,h,hv,hl=>by
  unfold rd at h;split at h<;>try cases h
  rename_i x hx;exact⟨by exact⟨rfl,i0s q m hx hv⟩,fun _=>by grind [AG,F0Y],G6.nil⟩
 |.own e t,v,g,c,h,hv,hl=>by
  obtain⟨h1,h2,U⟩:=D0Y m h hv
  simp_all[AG]
 |.G1 e F t,v,g,c,h,hv,hl=>by
  obtain⟨h1,h2,U⟩:=J01 m h hv
  simp_all[AG]
 |.box T cs,v,g,c,h,hv,hl=>by
  unfold rd at h;split at h<;>try cases h
  rename_i id l hb;split at h<;>try cases h
  rename_i ids x J;obtain⟨h1,h2,b,cc,U,rfl,h4,h5,h6,h7⟩:=K0f q m hb hv;obtain⟨w,k⟩:=s0B q m cs l ⟨ids,x⟩ cc J h6 h7;refine⟨?_,fun _=>by simp_all[AG],k.app fun j hj=>by simp_all⟩;unfold SR;exact⟨b,cc,_,rfl,h4,h5,w,by simp_all[place]⟩
 |.agg cs,v,g,c,h,hv,hl=>by
  unfold rd at h;split at h<;>try cases h
  rename_i ha;split at h<;>try cases h
  rename_i l hp;obtain⟨c',hf,hA,_,b2⟩:=(show VS E ρ n H S v (vl v c)from⟨c,hv,rfl⟩).flat;have a1:F1 E ρ n H S (b7 v) c:=by
   cases v<;>first|exact F1.one hv|(unfold VC at hv;exact hv)
  obtain⟨h6,h7⟩:=q0T q hp a1;obtain⟨w,k⟩:=s0B q m cs l g c h h6 h7
  simp_all[SR,AG]
 |.tup cs,v,g,c,h,hv,hl=>by
  unfold rd at h;split at h<;>try cases h
  rename_i l hu;have p:v=.tup l:=by cases v<;>simp[x0a]at hu;simp_all
  subst p;unfold VC at hv;obtain⟨us,rfl,I⟩:=hv;obtain⟨w,k⟩:=h0A q m cs l g us h I;exact⟨by unfold SR;simp_all,fun _=>by rfl,k⟩
 |.fn f cs,v,g,c,h,hv,hl=>by
  unfold rd at h;split at h<;>try cases h
  rename_i l hu;have p:v=.fn f l:=by
   cases v<;>simp only[y0E]at hu<;>try cases hu
   grind [Nat.beq_eq]
  subst p;unfold VC at hv;obtain⟨us,rfl,I⟩:=hv;obtain⟨w,k⟩:=h0A q m cs l g us h I;exact⟨by unfold SR;simp_all,fun _=>by rfl,k⟩
 |.ifc T sh,v,g,c,h,hv,hl=>by
  unfold rd at h;split at h<;>try cases h
  rename_i o;split at h<;>try cases h
  rename_i u hu;have p:v=.ifc T u:=by
   cases v<;>simp only[A0e]at hu<;>try cases hu
   grind [Nat.beq_eq]
  subst p;unfold VC at hv;obtain⟨c',b1,rfl⟩:=hv;have i:sh≠.any:=by
   rintro rfl;cases o
  obtain⟨w,z,k⟩:=h0V q m sh u g c' h b1 (fun e=>absurd e i);exact⟨by unfold SR;exact⟨c',w,by simp_all[vl]⟩,fun _=>by rfl,k⟩
 |.alt a b,v,g,c,h,hv,hl=>by
  unfold rd at h;split at h<;>try cases h
  rename_i o;rw[Bool.and_eq_true]at o;split at h
  ·split at h<;>try cases h
   rename_i ids y J;have i:a≠.any:=by rintro rfl;cases o.1
   obtain⟨w,z,k⟩:=h0V q m a v ⟨ids,y⟩ c J hv (fun e=>absurd e i);exact⟨w,fun _=>z i,k⟩
  ·split at h<;>try cases h
   rename_i ids y J;have i:b≠.any:=by rintro rfl;cases o.2
   obtain⟨w,z,k⟩:=h0V q m b v ⟨ids,y⟩ c J hv (fun e=>absurd e i);exact⟨w,fun _=>z i,k⟩
 |.map,v,g,c,h,hv,hl=>by
  unfold rd at h;obtain⟨h1,h2,U⟩:=D0U m h hv
  simp_all[AG]
 |.nil,v,g,c,h,hv,hl=>by
  unfold rd pk0 at h;split at h<;>try cases h
  rename_i C;rcases n0D C with⟨h1,rfl⟩|⟨h1,rfl⟩|⟨h1,rfl⟩|⟨b,h1,rfl⟩<;>cases h1
  unfold VC at hv;subst hv;exact⟨by unfold SR;simp,fun _=>by rfl,G6.nil⟩
 |.nilp,v,g,c,h,hv,hl=>by
  unfold rd pk0 at h;split at h<;>try cases h
  rename_i C;rcases n0D C with⟨h1,rfl⟩|⟨h1,rfl⟩|⟨h1,rfl⟩|⟨b,h1,rfl⟩<;>cases h1
  unfold VC at hv;subst hv;exact⟨by unfold SR;simp,fun _=>by rfl,G6.nil⟩
 |.nilif,v,g,c,h,hv,hl=>by
  unfold rd pk0 at h;split at h<;>try cases h
  rename_i C;rcases n0D C with⟨h1,rfl⟩|⟨h1,rfl⟩|⟨h1,rfl⟩|⟨b,h1,rfl⟩<;>cases h1
  unfold VC at hv;subst hv;exact⟨by unfold SR;simp,fun _=>by rfl,G6.nil⟩
 |.kb b,v,g,c,h,hv,hl=>by
  unfold rd pk0 at h;split at h<;>try cases h
  rename_i C;rcases n0D C with⟨h1,rfl⟩|⟨h1,rfl⟩|⟨h1,rfl⟩|⟨b,h1,rfl⟩<;>cases h1
  unfold VC at hv;subst hv;exact⟨by unfold SR;exact⟨rfl,rfl⟩,fun _=>by unfold AG;rfl,G6.nil⟩
theorem s0B (f:G2 E)(m:∀id,M4 E ρ n H S (G0 s id) (ρ id)):∀(cs:List Sh) (l:List (V E.D)) (d:Pk (F5 E.D cs)) (c:List Value),l8 E s cs l=some d->F1 E ρ n H S l c->(r0E cs l)->
  SRs E H S cs d.dat c (d.ids.map (place ρ))/\G6 s d.ids
 |[],[],d,c,h,hl,_=>by
  unfold l8 at h;obtain rfl:=Option.some.inj h;unfold F1 at hl;subst hl;exact⟨by unfold SRs;exact⟨rfl,rfl⟩,G6.nil⟩
 |[],_ :: _,d,c,h,hl,_=>by
  unfold l8 at h;cases h
 |x :: r,l,d,c,h,hl,hany=>by
  unfold l8 at h;split at h<;>try cases h
  rename_i v l';split at h<;>try cases h
  rename_i i a j b k g;unfold F1 at hl;obtain⟨c1,c2,rfl,h1,t⟩:=hl;obtain⟨o,_,p⟩:=h0V f m x v ⟨i,a⟩ c1 k h1 (fun e=>h1.o0a f (hany 0 (by rw[e];rfl) v rfl));obtain⟨u,y⟩:=s0B f m r l' ⟨j,b⟩ c2 g t (fun q hq w hw=>hany (q+1) (by simpa using hq) w (by simpa using hw));refine⟨?_,p.app y⟩;unfold SRs;refine⟨c1,c2,_,_,rfl,x0f _ _,?_,?_⟩
  ·rw[fst_mk];exact o
  ·rw[snd_mk];exact u
theorem h0A (t:G2 E)(u:∀id,M4 E ρ n H S (G0 s id) (ρ id)):∀(cs:List Sh) (l:List (V E.D)) (d:Pk (F5 E.D cs)) (us:List Value),l8 E s cs l=some d->VT E ρ n H S l us->
  G3 E H S cs d.dat us (d.ids.map (place ρ))/\G6 s d.ids
 |[],[],d,c,h,hl=>by
  unfold l8 at h;obtain rfl:=Option.some.inj h;unfold VT at hl;subst hl;exact⟨by unfold G3;exact⟨rfl,rfl⟩,G6.nil⟩
 |[],_ :: _,d,c,h,hl=>by
  unfold l8 at h;cases h
 |x :: r,l,d,us,h,hl=>by
  unfold l8 at h;split at h<;>try cases h
  rename_i v l';split at h<;>try cases h
  rename_i i a j b f p;unfold VT at hl;obtain⟨c,g,h1,rfl,w⟩:=hl;obtain⟨y,z⟩:=h0A t u r l' ⟨j,b⟩ g p w;have key:∃c0,SR E H S x a c0 (i.map (place ρ))/\vl v c=O4 (AG E x a) c0/\G6 s i:=by
   by_cases o:x=.any
   ·subst o;unfold rd at f;obtain rfl:=congrArg Pk.ids (Option.some.inj f);exact⟨[vl v c],by unfold SR;exact⟨rfl,rfl⟩,by unfold AG;rfl,G6.nil⟩
   ·obtain⟨k,m,q⟩:=h0V t u x v ⟨i,a⟩ c f h1 (fun e=>absurd e o);exact⟨c,k,by unfold vl;rw[m o],q⟩
  obtain⟨c0,k,m,q⟩:=key;refine⟨?_,q.app z⟩;unfold G3;refine⟨c0,_,g,_,_,rfl,x0f _ _,?_,?_,?_⟩
  ·rw[fst_mk];exact m
  ·rw[fst_mk];exact k
  ·rw[snd_mk];exact y
end -- mutual
end
end
