/- P. Its conditions: none. -/
import Derived.Test.YtmhooikfkhjijaaGreatYX7
open Nat (add_zero beq_eq)
set_option linter.all false
namespace Go.X
open Go.V Go.RowKit
section
variable (E:Env)
mutual
def AG:(sh:Sh)->Q3 E.D sh->Bool
 |.d t,_=>j6 t
 |.agg _,_=>true
 |
  .alt a b,x=>match(show Q3 E.D a⊕Q3 E.D b from x)with
  |.inl y=>AG a y
  |.inr y=>AG b y
 |_,_=>false
end -- mutual
def o05 (H:F0)(v:Value)(m:List (Int×Int)):Prop:=∃r es cl,v=.map (some r)/\H[r]?=some (.map es cl)/\es.toList.map (fun e=>(e.key,e.val))=m.map (fun p=>(Value.int .i64 p.1,Value.int .i64 p.2))
section
variable (H:F0)(S:B0)
mutual
def SR:(sh:Sh)->Q3 E.D sh->List Value->List Value->Prop
 |.any,_,c,pl=>pl=[]/\c.length=1
 |.d t,x,c,pl=>pl=[]/\(D0 E t).R H S c x
 |.own e t,x,c,pl=>∃v cs,c=[v]/\pl=[v]/\v.oneCell'=true/\Row H e (D0 E t).sz v (show List (Den E.D t)from x).length cs/\D1 (D0 E t) H S cs x
 |.M0 e F t,x,c,pl=>∃v cs,c=[hd v]/\pl=[v]/\(hd v).oneCell'=true/\R4 E H S e F t (show List (Den E.D t)from x) none v cs
 |.box T l,x,c,pl=>∃b cs p,c=[.pointer (some ⟨b,0,none⟩)]/\H[b]?=some (.cells cs.toArray T (0,0))/\(∀u∈cs,u.oneCell'=true)/\s9 l x cs p/\pl=p++[.pointer (some ⟨b,0,none⟩)]
 |.agg l,x,c,pl=>s9 l x c pl
 |.tup l,x,c,pl=>∃us,c=[.tuple us.toArray]/\N1 l x us pl
 |.fn f l,x,c,pl=>∃us,c=[.func (.func f) #[] us.toArray]/\N1 l x us pl
 |.ifc T sh,x,c,pl=>∃c',SR sh x c' pl/\c=[.iface T (B2 (AG E sh x) c')]
 |
  .alt a b,x,c,pl=>match(show Q3 E.D a⊕Q3 E.D b from x)with
  |.inl y=>SR a y c pl
  |.inr y=>SR b y c pl
 |.map,x,c,pl=>∃v,c=[v]/\pl=[v]/\v.oneCell'=true/\o05 H v x
 |.nil,_,c,pl=>pl=[]/\c=[.slice none 0 0]
 |.nilp,_,c,pl=>pl=[]/\c=[.pointer none]
 |.nilif,_,c,pl=>pl=[]/\c=[.nilIface]
 |.kb b,_,c,pl=>pl=[]/\c=[.bool b]
def s9:(l:List Sh)->O2 E.D l->List Value->List Value->Prop
 |[],_,c,pl=>c=[]/\pl=[]
 |x :: r,a,c,pl=>∃c1 c2 p1 p2,c=c1++c2/\pl=p1++p2/\SR x (D9 (j4 x) (K3 r) (K7 E x) a) c1 p1/\s9 r (a0W (j4 x) (K3 r) (k9 E r) a) c2 p2
def N1:(l:List Sh)->O2 E.D l->List Value->List Value->Prop
 |[],_,us,pl=>us=[]/\pl=[]
 |x :: r,a,us,pl=>∃c u us' p1 p2,us=u :: us'/\pl=p1++p2/\u=B2 (AG E x (D9 (j4 x) (K3 r) (K7 E x) a)) c/\SR x (D9 (j4 x) (K3 r) (K7 E x) a) c p1/\N1 r (a0W (j4 x) (K3 r) (k9 E r) a) us' p2
end -- mutual
end
end
section
variable {E:Env}{ρ:Nat->Value}{n N:Nat}{H:F0}{S:B0}
def St.more {D:Nat->Type}(u:St D)(tl:List (Nat×Th D))(m:Nat):St D:={ u with th:=tl++u.th,nid:=u.nid+m }
def i0n {α:Type}:∀(l l':List (Nat×α)) (k:Nat),J2 (l++l') k=match J2 l k with|some v=>some v|none=>J2 l' k
 |[],l',k=>rfl
 |
  (j,v) :: l,l',k=>by
  rw[List.cons_append,V6,V6];split
  ·rfl
  ·exact i0n l l' k
def d05 {α:Type}:∀(l:List (Nat×α)) (k:Nat),(∀p∈l,p.1≠k)->J2 l k=none
 |[],k,_=>rfl
 |
  (j,v) :: l,k,h=>by
  rw[V6,if_neg (h (j,v) (by simp))];exact d05 l k fun p hp=>h p (by simp[hp])
def b0G {D:Nat->Type}(u:St D)(tl:List (Nat×Th D))(m j:Nat)(h:∀p∈tl,p.1≠j):C0 (u.more tl m) j=C0 u j:=by
 unfold C0 St.more;simp only;rw[i0n,d05 tl j h]
structure U3 (E:Env)(ρ:Nat->Value)(N:Nat)(H:F0)(S:B0)(u:St E.D)(tl:List (Nat×Th E.D))(pl:List Value):Prop where
 keys:∀p∈tl,u.nid<=p.1/\p.1<u.nid+pl.length
 th:∀i v,pl[i]?=some v->Y1 E ρ N H S (C0 (u.more tl pl.length) (u.nid+i)) v/\o1 (C0 (u.more tl pl.length) (u.nid+i))=true
def U3.nil {u:St E.D}:U3 E ρ N H S u [] []:=⟨(fun p hp=>by cases hp),(fun i v h=>by simp at h)⟩
def U3.one {u:St E.D}{x:Th E.D}{v:Value}(h:Y1 E ρ N H S x v)(ho:o1 x=true):U3 E ρ N H S u [(u.nid,x)] [v]:=by
 refine⟨fun p hp=>by simp at hp;subst hp;simp,fun i w hi=>?_⟩;cases i with
 |
  zero=>
  simp at hi;subst hi;have:C0 (u.more [(u.nid,x)] [v].length) (u.nid+0)=x:=by
   unfold C0 St.more;simp[V6]
  rw[this];exact⟨h,ho⟩
 |succ i=>simp at hi
def e0p {D:Nat->Type}(u:St D)(t1 t2:List (Nat×Th D))(m1 m2:Nat):(u.more t1 m1).more t2 m2=u.more (t2++t1) (m1+m2):=by
 unfold St.more;simp[Nat.add_assoc]
def U3.app {u:St E.D}{t1 t2:List (Nat×Th E.D)}{p1 p2:List Value}(h1:U3 E ρ N H S u t1 p1)(h2:U3 E ρ N H S (u.more t1 p1.length) t2 p2):U3 E ρ N H S u (t2++t1) (p1++p2):=by
 have hnid:(u.more t1 p1.length).nid=u.nid+p1.length:=rfl;refine⟨fun p hp=>?_,fun i v hi=>?_⟩
 ·rw[List.length_append];rcases List.mem_append.1 hp with hp|hp
  ·have:=h2.keys p hp;rw[hnid]at this;omega
  ·have:=h1.keys p hp;omega
 ·rw[List.length_append,<-e0p];rcases Nat.lt_or_ge i p1.length with hlt|hge
  ·rw[List.getElem?_append_left hlt]at hi;rw[b0G _ _ _ _ (fun p hp=>by have:=h2.keys p hp;rw[hnid]at this;omega)];exact h1.th i v hi
  ·rw[List.getElem?_append_right hge]at hi;have:=h2.th _ v hi;rw[hnid,show u.nid+p1.length+(i-p1.length)=u.nid+i from by omega]at this;exact this
def I0.flat {l:List (V E.D)}:∀{c:List Value},I0 E ρ n H S l c->I0 E ρ n H S (l.flatMap Z3) c:=by
 induction l with
 |nil=>intro c h;exact h
 |
  cons v l ih=>
  intro c h;unfold I0 at h;obtain⟨c1,c2,rfl,h1,h2⟩:=h;rw[List.flatMap_cons];refine I0.app ?_ (ih h2);cases v<;>first|exact I0.one h1|(unfold VC at h1;exact h1)
def d03 {D:Nat->Type}(u:St D)(x:Th D):u.new x=u.more [(u.nid,x)] 1:=rfl
variable {R:Type}{r:R}
mutual
def d0E:∀(sh:Sh) (x:Q3 E.D sh) (c pl:List Value) (u:St E.D) (k:St E.D->V E.D->Option R),SR E H S sh x c pl->b5 E u sh x k=some r->(∀i v,pl[i]?=some v->ρ (u.nid+i)=v)->u.nid+pl.length<=N->
  ∃v tl,k (u.more tl pl.length) v=some r/\VC E ρ N H S v c/\G2 v=AG E sh x/\U3 E ρ N H S u tl pl
 |
  .any,x,c,pl,u,k,h,hk,_,_=>by
  unfold SR at h;obtain⟨rfl,hl⟩:=h;unfold b5 at hk
  match c,hl with
  |[z],_=>exact⟨.undef,[],hk,by unfold VC;exact⟨z,rfl⟩,by unfold AG;rfl,U3.nil⟩
 |
  .d t,x,c,pl,u,k,h,hk,_,_=>by
  unfold SR at h;obtain⟨rfl,hl⟩:=h;unfold b5 at hk;refine⟨v8 t x,[],hk,?_,?_,U3.nil⟩
  ·exact f0s (show VC E ρ N H S (.d t x) c by unfold VC;exact hl)
  ·unfold AG;exact d06
 |
  .own e t,x,c,pl,u,k,h,hk,hp,hn=>by
  unfold SR at h;obtain⟨v,cs,rfl,rfl,ho,hrow,hels⟩:=h;unfold b5 at hk;rw[d03]at hk;have hv:=hp 0 v rfl;refine⟨.sl u.nid,_,hk,?_,by unfold AG;rfl,U3.one ?_ rfl⟩
  ·unfold VC;rw[add_zero]at hv;rw[hv,(a0z ho).1];simp at hn;exact⟨by omega,ho,rfl⟩
  ·exact⟨cs,hrow,hels⟩
 |
  .M0 e F t,x,c,pl,u,k,h,hk,hp,hn=>by
  unfold SR at h;obtain⟨v,cs,rfl,rfl,ho,htab⟩:=h;unfold b5 at hk;rw[d03]at hk;have hv:=hp 0 v rfl;refine⟨.sl u.nid,_,hk,?_,by unfold AG;rfl,U3.one ?_ rfl⟩
  ·unfold VC;rw[add_zero]at hv;rw[hv];simp at hn;exact⟨by omega,ho,rfl⟩
  ·exact⟨cs,htab⟩
 |
  .box T l,x,c,pl,u,k,h,hk,hp,hn=>by
  unfold SR at h;obtain⟨b,cs,p,rfl,hb,h1,hs,rfl⟩:=h;unfold b5 at hk;rw[List.length_append]at hn ⊢;obtain⟨l',tl,hk',hvs,hnt⟩:=k0e l x cs p u _ hs hk (fun i v hi=>hp i v (by rw[List.getElem?_append_left (List.getElem?_eq_some_iff.1 hi).1];exact hi)) (by omega);have hv:=hp p.length (.pointer (some ⟨b,0,none⟩)) (by simp);refine⟨.pb (u.nid+p.length) 0 [],((u.more tl p.length).nid,.box T l') :: tl,?_,?_,by unfold AG;rfl,?_⟩
  ·rw[d03,e0p]at hk';exact hk'
  ·unfold VC;simp at hn;exact⟨by omega,trivial,b,by rw[hv];rfl,by simp[I2]⟩
  ·exact hnt.app (t2:=[((u.more tl p.length).nid,Th.box T l')]) (U3.one ⟨b,cs,rfl,hb,hvs,h1⟩ rfl)
 |
  .agg l,x,c,pl,u,k,h,hk,hp,hn=>by
  unfold SR at h;unfold b5 at hk;obtain⟨l',tl,hk',hvs,hnt⟩:=k0e l x c pl u _ h hk hp hn;exact⟨_,tl,hk',by unfold VC;exact hvs.flat,by unfold AG;rfl,hnt⟩
 |
  .tup l,x,c,pl,u,k,h,hk,hp,hn=>by
  unfold SR at h;obtain⟨us,rfl,h⟩:=h;unfold b5 at hk;obtain⟨l',tl,hk',hvs,hnt⟩:=b00 l x us pl u _ h hk hp hn;exact⟨_,tl,hk',by unfold VC;exact⟨us,rfl,hvs⟩,by unfold AG;rfl,hnt⟩
 |
  .fn f l,x,c,pl,u,k,h,hk,hp,hn=>by
  unfold SR at h;obtain⟨us,rfl,h⟩:=h;unfold b5 at hk;obtain⟨l',tl,hk',hvs,hnt⟩:=b00 l x us pl u _ h hk hp hn;exact⟨_,tl,hk',by unfold VC;exact⟨us,rfl,hvs⟩,by unfold AG;rfl,hnt⟩
 |
  .ifc T sh,x,c,pl,u,k,h,hk,hp,hn=>by
  unfold SR at h;obtain⟨c',h,rfl⟩:=h;unfold b5 at hk;obtain⟨v',tl,hk',hvs,ha,hnt⟩:=d0E sh x c' pl u _ h hk hp hn;exact⟨_,tl,hk',by unfold VC;exact⟨c',hvs,by unfold vl;rw[ha]⟩,by unfold AG;rfl,hnt⟩
 |
  .alt a b,.inl y,c,pl,u,k,h,hk,hp,hn=>by
  obtain⟨v',tl,hk',hvs,ha,hnt⟩:=d0E a y c pl u k h hk hp hn;exact⟨v',tl,hk',hvs,ha,hnt⟩
 |
  .alt a b,.inr y,c,pl,u,k,h,hk,hp,hn=>by
  obtain⟨v',tl,hk',hvs,ha,hnt⟩:=d0E b y c pl u k h hk hp hn;exact⟨v',tl,hk',hvs,ha,hnt⟩
 |
  .map,x,c,pl,u,k,h,hk,hp,hn=>by
  unfold SR at h;obtain⟨v,rfl,rfl,ho,hm⟩:=h;unfold b5 at hk;rw[d03]at hk;have hv:=hp 0 v rfl;refine⟨.mp u.nid,_,hk,?_,by unfold AG;rfl,U3.one ?_ rfl⟩
  ·unfold VC;rw[add_zero]at hv;rw[hv,(a0z ho).1];simp at hn;exact⟨by omega,ho,rfl⟩
  ·exact hm
 |
  .nil,x,c,pl,u,k,h,hk,_,_=>by
  unfold SR at h;obtain⟨rfl,rfl⟩:=h;unfold b5 at hk;exact⟨.nil,[],hk,by unfold VC;rfl,by unfold AG;rfl,U3.nil⟩
 |
  .nilp,x,c,pl,u,k,h,hk,_,_=>by
  unfold SR at h;obtain⟨rfl,rfl⟩:=h;unfold b5 at hk;exact⟨.nilp,[],hk,by unfold VC;rfl,by unfold AG;rfl,U3.nil⟩
 |
  .nilif,x,c,pl,u,k,h,hk,_,_=>by
  unfold SR at h;obtain⟨rfl,rfl⟩:=h;unfold b5 at hk;exact⟨.nilif,[],hk,by unfold VC;rfl,by unfold AG;rfl,U3.nil⟩
 |
  .kb b,x,c,pl,u,k,h,hk,_,_=>by
  unfold SR at h;obtain⟨rfl,rfl⟩:=h;unfold b5 at hk;exact⟨.kb b,[],hk,by unfold VC;rfl,by unfold AG;rfl,U3.nil⟩
def k0e:∀(l:List Sh) (x:O2 E.D l) (c pl:List Value) (u:St E.D) (k:St E.D->List (V E.D)->Option R),s9 E H S l x c pl->X5 E u l x k=some r->(∀i v,pl[i]?=some v->ρ (u.nid+i)=v)->u.nid+pl.length<=N->
  ∃vs tl,k (u.more tl pl.length) vs=some r/\I0 E ρ N H S vs c/\U3 E ρ N H S u tl pl
 |
  [],x,c,pl,u,k,h,hk,_,_=>by
  unfold s9 at h;obtain⟨rfl,rfl⟩:=h;unfold X5 at hk;exact⟨[],[],hk,I0.nil,U3.nil⟩
 |
  sh :: l,x,c,pl,u,k,h,hk,hp,hn=>by
  unfold s9 at h;obtain⟨c1,c2,p1,p2,rfl,rfl,h1,h2⟩:=h;unfold X5 at hk;rw[List.length_append]at hn ⊢;obtain⟨v,t1,hk1,hv,_,hn1⟩:=d0E sh _ c1 p1 u _ h1 hk (fun i v hi=>hp i v (by rw[List.getElem?_append_left (List.getElem?_eq_some_iff.1 hi).1];exact hi)) (by omega);obtain⟨vs,t2,hk2,hvs,hn2⟩:=k0e l _ c2 p2 (u.more t1 p1.length) _ h2 hk1 (fun i v hi=>by
   have:=hp (p1.length+i) v (by rw[List.getElem?_append_right (by omega),Nat.add_sub_cancel_left];exact hi);rw[<-this];show ρ (u.nid+p1.length+i)=_;congr 1;omega) (by show u.nid+p1.length+p2.length<=N;omega)
  refine⟨v :: vs,t2++t1,?_,?_,hn1.app hn2⟩
  ·rw[e0p]at hk2;exact hk2
  ·unfold I0;exact⟨c1,c2,rfl,hv,hvs⟩
def b00:∀(l:List Sh) (x:O2 E.D l) (us pl:List Value) (u:St E.D) (k:St E.D->List (V E.D)->Option R),N1 E H S l x us pl->X5 E u l x k=some r->(∀i v,pl[i]?=some v->ρ (u.nid+i)=v)->u.nid+pl.length<=N->
  ∃vs tl,k (u.more tl pl.length) vs=some r/\VT E ρ N H S vs us/\U3 E ρ N H S u tl pl
 |
  [],x,c,pl,u,k,h,hk,_,_=>by
  unfold N1 at h;obtain⟨rfl,rfl⟩:=h;unfold X5 at hk;exact⟨[],[],hk,by unfold VT;rfl,U3.nil⟩
 |
  sh :: l,x,us,pl,u,k,h,hk,hp,hn=>by
  unfold N1 at h;obtain⟨c,z,us',p1,p2,rfl,rfl,hz,h1,h2⟩:=h;unfold X5 at hk;rw[List.length_append]at hn ⊢;obtain⟨v,t1,hk1,hv,ha,hn1⟩:=d0E sh _ c p1 u _ h1 hk (fun i v hi=>hp i v (by rw[List.getElem?_append_left (List.getElem?_eq_some_iff.1 hi).1];exact hi)) (by omega);obtain⟨vs,t2,hk2,hvs,hn2⟩:=b00 l _ us' p2 (u.more t1 p1.length) _ h2 hk1 (fun i v hi=>by
   have:=hp (p1.length+i) v (by rw[List.getElem?_append_right (by omega),Nat.add_sub_cancel_left];exact hi);rw[<-this];show ρ (u.nid+p1.length+i)=_;congr 1;omega) (by show u.nid+p1.length+p2.length<=N;omega)
  refine⟨v :: vs,t2++t1,?_,?_,hn1.app hn2⟩
  ·rw[e0p]at hk2;exact hk2
  ·unfold VT;exact⟨c,us',hv,by rw[hz];unfold vl;rw[ha],hvs⟩
end -- mutual
section
variable {s:St E.D}
def place (ρ:Nat->Value):Option Nat->Value
 |none=>.slice none 0 0
 |some id=>ρ id
def N3 (s:St E.D)(ids:List (Option Nat)):Prop:=∀id,some id∈ids->o1 (C0 s id)=true
def q0m {ik:IntKind}{v:V E.D}{x:Int}(h:a0T ik v=some x):G2 v=false:=by
 unfold a0T at h;split at h<;>try cases h
 rename_i hy;cases v<;>first|rfl|skip
 ·rename_i t z;cases t<;>simp[o3]at hy<;>rfl
 ·simp[o3]at hy
def w0P {v:V E.D}{x:Bool}(h:D4 v=some x):G2 v=false:=by
 cases v<;>first|rfl|skip
 ·rename_i t z;cases t<;>simp[D4]at h<;>rfl
 ·simp[D4]at h
def w08 {v:V E.D}{x:ByteArray}(h:a0K v=some x):G2 v=false:=by
 unfold a0K at h;split at h
 ·rfl
 ·cases h
def w0T {t:U}{v:V E.D}{x:List (Den E.D t)}(h:a0R E s t v=some x):G2 v=false:=by
 unfold a0R at h;split at h<;>first|rfl|cases h
def w06 {q:TD E}{i:Nat}{v:V E.D}{x:E.D i}(h:a0S E q i v=some x):G2 v=true:=by
 unfold a0S at h;split at h
 ·rename_i hd;obtain rfl:=b04 hd;obtain⟨e,h⟩:=Y8 h;subst e;rfl
 ·split at h<;>try cases h
  rename_i l hl;obtain rfl:=e0I hl;rfl
def z0b {q:TD E}{m:Nat}{t:U}{v:V E.D}{x:List (Den E.D t)}(h:a0V E q m t v=some x):G2 v=true:=by
 unfold a0V at h;split at h
 ·rename_i hd;obtain rfl:=b04 hd;obtain⟨e,h⟩:=Y8 h;subst e;rfl
 ·split at h<;>try cases h
  rename_i l hl;obtain rfl:=e0I hl;rfl
def m0d {q:TD E}{t:U}{v:V E.D}{x:Den E.D t}(h:a0f E s q t v=some x):G2 v=false:=by
 unfold a0f at h;split at h<;>first|rfl|cases h
def u07 {q:TD E}{t:U}{v:V E.D}{x:Option (Den E.D t)}(h:a0L E s q t v=some x):G2 v=false:=by
 unfold a0L at h;split at h
 ·rename_i hn;obtain rfl:=l0y hn;rfl
 ·split at h
  ·rename_i hd;obtain rfl:=b04 hd;obtain⟨e,h⟩:=Y8 h;subst e;rfl
  ·split at h
   ·rename_i y hy;exact m0d hy
   ·cases h
def t0i {q:TD E}:∀{t:U} {v:V E.D} {x:Den E.D t},e0U E s q t v=some x->G2 v=j6 t
 |.int ik,v,x,h=>q0m (show a0T ik v=some x from h)
 |.bool,v,x,h=>w0P (show D4 v=some x from h)
 |.str,v,x,h=>w08 (show a0K v=some x from h)
 |.list t,v,x,h=>w0T (show a0R E s t v=some x from h)
 |.st i,v,x,h=>w06 (show a0S E q i v=some x from h)
 |.arr n t,v,x,h=>z0b (show a0V E q n t v=some x from h)
 |.ptr t,v,x,h=>m0d (show a0f E s q t v=some x from h)
 |.opt t,v,x,h=>u07 (show a0L E s q t v=some x from h)
def y0J {k:Nat}{t:U}{v:V E.D}{x:Den E.D t}(h:toD E s k t v=some x):G2 v=j6 t:=by
 cases k with
 |zero=>cases h
 |succ k=>exact t0i (show e0U E s (td E s k) t v=some x from h)
def j0z {D:Nat->Type}(cs:List Sh)(l:List (V D)):Prop:=∀(i:Nat),cs[i]?=some Sh.any->∀v:V D,l[i]?=some v->G2 v=false
def i0e (hE:B1 E):∀{cs:List Sh} {l l':List (V E.D)} {c:List Value},Q8 E cs l=some l'->I0 E ρ n H S l c->I0 E ρ n H S l' c/\j0z cs l'
 |
  [],[],l',c,h,hc=>by
  simp[Q8]at h;subst h;exact⟨hc,fun i hi=>by simp at hi⟩
 |[],_ :: _,l',c,h,hc=>by simp[Q8]at h
 |
  x :: r,l,l',c,h,hc=>by
  simp only[Q8]at h;split at h<;>try cases h
  rename_i m l2 hct;split at h<;>try cases h
  rename_i v vs ha hp;obtain⟨c1,c2,rfl,_,hm,h2⟩:=L7 hE _ _ _ _ _ hct c hc;obtain⟨h3,h4⟩:=i0e hE hp h2;obtain⟨h5,h6⟩:=c0j hE ha hm;refine⟨by unfold I0;exact⟨c1,c2,rfl,h5,h3⟩,fun i hi w hw=>?_⟩;cases i with
  |
   zero=>
   simp at hi hw;subst hi;subst hw;exact h6
  |succ i=>exact h4 i (by simpa using hi) w (by simpa using hw)
def j0w (a b:List (Option Nat)):(a++b).map (place ρ)=a.map (place ρ)++b.map (place ρ):=List.map_append
def N3.app {a b:List (Option Nat)}(h1:N3 s a)(h2:N3 s b):N3 s (a++b):=fun id h=>by
 rcases List.mem_append.1 h with h|h
 ·exact h1 id h
 ·exact h2 id h
def N3.nil:N3 s []:=fun id h=>by cases h
def SR.own {e:Nat}{t:U}{x:Q3 E.D (.own e t)}{c pl:List Value}(h:∃v cs,c=[v]/\pl=[v]/\v.oneCell'=true/\Row H e (D0 E t).sz v (show List (Den E.D t)from x).length cs/\D1 (D0 E t) H S cs x):SR E H S (.own e t) x c pl:=by unfold SR;exact h
def SR.map {x:Q3 E.D .map}{c pl:List Value}(h:∃v,c=[v]/\pl=[v]/\v.oneCell'=true/\o05 H v x):SR E H S .map x c pl:=by unfold SR;exact h
def t0t (ht:∀id,Y1 E ρ n H S (C0 s id) (ρ id)){e:Nat}{t:U}{v:V E.D}{pk:Pk (List (Den E.D t))}{c:List Value}(h:j0o E s e t v=some pk)(hv:VC E ρ n H S v c):
  SR E H S (.own e t) pk.dat c (pk.ids.map (place ρ))/\G2 v=false/\N3 s pk.ids:=by
 unfold j0o at h;split at h
 ·simp only[Option.some.injEq]at h;subst h;unfold VC at hv;subst hv;refine⟨?_,rfl,fun id h=>by simp at h⟩;exact SR.own ⟨_,[],rfl,rfl,rfl,⟨by simp,.inl ⟨rfl,none,rfl⟩⟩,D1.nil⟩
 ·rename_i id;split at h<;>try cases h
  rename_i e' t' xs hl;split at h<;>try cases h
  rename_i ys he hc;rw[beq_eq]at he;subst he;obtain⟨e2,hc⟩:=G6 hc;subst e2;subst hc;unfold VC at hv;obtain⟨_,ho,rfl⟩:=hv;have:=ht id;rw[hl]at this;have hfo:∃A' c,ρ id=.slice A' xs.length c:=G3.form this;obtain⟨A',c',hfo⟩:=hfo;have hhd:hd (ρ id)=ρ id:=by rw[hfo];rfl
  obtain⟨cs,hrow,hels⟩:=this;refine⟨?_,rfl,fun j h=>?_⟩
  ·rw[hhd]at ho ⊢;exact SR.own ⟨_,cs,rfl,rfl,ho,hrow,hels⟩
  ·simp at h;subst h;rw[hl];rfl
 ·cases h
def SR.M0 {e:Nat}{F:List Nat}{t:U}{x:Q3 E.D (.M0 e F t)}{c pl:List Value}(h:∃v cs,c=[hd v]/\pl=[v]/\(hd v).oneCell'=true/\R4 E H S e F t (show List (Den E.D t)from x) none v cs):SR E H S (.M0 e F t) x c pl:=by unfold SR;exact h
def r0A (ht:∀id,Y1 E ρ n H S (C0 s id) (ρ id)){e:Nat}{F:List Nat}{t:U}{v:V E.D}{pk:Pk (List (Den E.D t))}{c:List Value}(h:a0p E s e F t v=some pk)(hv:VC E ρ n H S v c):
  SR E H S (.M0 e F t) pk.dat c (pk.ids.map (place ρ))/\G2 v=false/\N3 s pk.ids:=by
 cases v with
 |
  nil=>
  simp only[a0p]at h;split at h<;>try cases h
  rename_i hok;unfold VC at hv;subst hv;refine⟨?_,rfl,fun id h=>by simp at h⟩;refine SR.M0 ⟨P4,[],rfl,rfl,rfl,⟨by simp,.inl ⟨rfl,none,rfl⟩⟩,rfl,hok,(fun _ _ h=>by cases h),fun i x f u ys e' h1=>by simp at h1,by simp,fun i j v v' _ hv _ k hk=>?_⟩;have:=List.mem_of_getElem? hv;have htl:Go.X.tl P4=[]:=rfl;rw[htl]at this;simp at this;subst this;cases hk
 |
  sl id=>
  simp only[a0p]at h;split at h<;>try cases h
  rename_i e' F' t' xs hl;split at h<;>try cases h
  rename_i he hc;rw[Bool.and_eq_true,beq_eq,beq_iff_eq]at he;obtain⟨rfl,rfl⟩:=he;obtain⟨e2,hc⟩:=G6 hc;subst e2;subst hc;unfold VC at hv;obtain⟨_,ho,rfl⟩:=hv;have:=ht id;rw[hl]at this;obtain⟨cs,this⟩:=this;refine⟨SR.M0 ⟨ρ id,cs,rfl,rfl,ho,this⟩,rfl,fun j h=>?_⟩;simp at h;subst h;rw[hl];rfl
 |_=>simp[a0p]at h
def p0M (ht:∀id,Y1 E ρ n H S (C0 s id) (ρ id)){v:V E.D}{pk:Pk (List (Int×Int))}{c:List Value}(h:k0m E s v=some pk)(hv:VC E ρ n H S v c):
  SR E H S .map pk.dat c (pk.ids.map (place ρ))/\G2 v=false/\N3 s pk.ids:=by
 unfold k0m at h;split at h<;>try cases h
 rename_i id;split at h<;>try cases h
 rename_i m hl;unfold VC at hv;obtain⟨_,ho,rfl⟩:=hv;have:=ht id;rw[hl]at this;have hhd:hd (ρ id)=ρ id:=by obtain⟨r,es,cl,hv,_⟩:=this;rw[hv];rfl
 refine⟨?_,rfl,fun j h=>?_⟩
 ·rw[hhd]at ho ⊢;exact SR.map ⟨_,rfl,rfl,ho,this⟩
 ·simp at h;subst h;rw[hl];rfl
def q0l (hE:B1 E)(ht:∀id,Y1 E ρ n H S (C0 s id) (ρ id)){T id:Nat}{cs:List Sh}{v:V E.D}{l:List (V E.D)}{c:List Value}(h:i0J E s T cs v=some (id,l))(hv:VC E ρ n H S v c):
  G2 v=false/\o1 (C0 s id)=true/\∃b cc,ρ id=.pointer (some ⟨b,0,none⟩)/\c=[.pointer (some ⟨b,0,none⟩)]/\H[b]?=some (.cells cc.toArray T (0,0))/\(∀u∈cc,u.oneCell'=true)/\I0 E ρ n H S l cc/\j0z cs l:=by
 unfold i0J at h;split at h<;>try cases h
 rename_i id';split at h<;>try cases h
 rename_i T' l0 hl;split at h<;>try cases h
 rename_i hT hp;rw[beq_eq]at hT;subst hT;unfold VC at hv;obtain⟨_,_,b,hr,rfl⟩:=hv;have:=ht id;rw[hl]at this;obtain⟨b',cc,hr',hb,hcs,h1⟩:=this;obtain rfl:b=b':=by rw[hr']at hr;simpa[hd,eq_comm]using hr
 obtain⟨h2,h3⟩:=i0e hE hp hcs;exact⟨rfl,by rw[hl];rfl,b,cc,hr',by simp[I2],hb,h1,h2,h3⟩
def f05 {sh:Sh}{v:V E.D}(h:isC sh v=true):(sh=.nil/\v=.nil)\/(sh=.nilp/\v=.nilp)\/(sh=.nilif/\v=.nilif)\/(∃b,sh=.kb b/\v=.kb b):=by
 unfold isC at h;split at h
 ·exact .inl ⟨rfl,rfl⟩
 ·exact .inr (.inl ⟨rfl,rfl⟩)
 ·exact .inr (.inr (.inl ⟨rfl,rfl⟩))
 ·rename_i b b';have:=beq_iff_eq.1 h;subst this;exact .inr (.inr (.inr ⟨_,rfl,rfl⟩))
 ·cases h
def u05 {p q:Bool}{A B:Type}(hp:p=true)(h:∀a b:B,a=b):∀a b:DC p q A B,a=b:=by subst hp;exact h
mutual
def k0V:∀(sh:Sh),j4 sh=true->∀a b:Q3 E.D sh,a=b
 |.any,_=>fun _ _=>rfl
 |.d _,h=>by cases h
 |.own _ _,h=>by cases h
 |.M0 _ _ _,h=>by cases h
 |.box _ l,h=>b0R l h
 |.agg l,h=>b0R l h
 |.tup l,h=>b0R l h
 |.fn _ l,h=>b0R l h
 |.ifc _ x,h=>k0V x h
 |.alt _ _,h=>by cases h
 |.map,h=>by cases h
 |.nil,_=>fun _ _=>rfl
 |.nilp,_=>fun _ _=>rfl
 |.nilif,_=>fun _ _=>rfl
 |.kb _,_=>fun _ _=>rfl
def b0R:∀(l:List Sh),K3 l=true->∀a b:O2 E.D l,a=b
 |[],_=>fun _ _=>rfl
 |
  x :: r,h=>by
  have h:(j4 x&&K3 r)=true:=h;rw[Bool.and_eq_true]at h;exact u05 h.1 (b0R r h.2)
end -- mutual
def fst_mk {x:Sh}{r:List Sh}{a:Q3 E.D x}{b:O2 E.D r}:D9 (j4 x) (K3 r) (K7 E x) (a0N (j4 x) (K3 r) a b)=a:=by
 cases hx:j4 x
 ·cases hr:K3 r<;>rfl
 ·exact k0V x hx _ _
def snd_mk {x:Sh}{r:List Sh}{a:Q3 E.D x}{b:O2 E.D r}:a0W (j4 x) (K3 r) (k9 E r) (a0N (j4 x) (K3 r) a b)=b:=by
 cases hx:j4 x
 ·cases hr:K3 r
  ·rfl
  ·exact b0R r hr _ _
 ·rfl
mutual
def c0P (hE:B1 E)(ht:∀id,Y1 E ρ n H S (C0 s id) (ρ id)):∀(sh:Sh) (v:V E.D) (pk:Pk (Q3 E.D sh)) (c:List Value),rd E s sh v=some pk->VC E ρ n H S v c->(sh=.any->c.length=1)->
  SR E H S sh pk.dat c (pk.ids.map (place ρ))/\(sh≠.any->G2 v=AG E sh pk.dat)/\N3 s pk.ids
 |
  .any,v,pk,c,h,hv,hl=>by
  unfold rd at h;obtain rfl:=Option.some.inj h;exact⟨by unfold SR;exact⟨rfl,hl rfl⟩,fun h=>absurd rfl h,N3.nil⟩
 |
  .d t,v,pk,c,h,hv,hl=>by
  unfold rd at h;split at h<;>try cases h
  rename_i x hx;exact⟨by unfold SR;exact⟨rfl,d0t hE ht hx hv⟩,fun _=>by unfold AG;exact y0J hx,N3.nil⟩
 |
  .own e t,v,pk,c,h,hv,hl=>by
  unfold rd at h;obtain⟨h1,h2,h3⟩:=t0t ht h hv;exact⟨h1,fun _=>by unfold AG;exact h2,h3⟩
 |
  .M0 e F t,v,pk,c,h,hv,hl=>by
  unfold rd at h;obtain⟨h1,h2,h3⟩:=r0A ht h hv;exact⟨h1,fun _=>by unfold AG;exact h2,h3⟩
 |
  .box T cs,v,pk,c,h,hv,hl=>by
  unfold rd at h;split at h<;>try cases h
  rename_i id l hb;split at h<;>try cases h
  rename_i ids x hr;obtain⟨h1,h2,b,cc,h3,rfl,h4,h5,h6,h7⟩:=q0l hE ht hb hv;obtain⟨h8,h9⟩:=j0Q hE ht cs l ⟨ids,x⟩ cc hr h6 h7;refine⟨?_,fun _=>by unfold AG;exact h1,h9.app fun j hj=>by simp at hj;subst hj;exact h2⟩;unfold SR;exact⟨b,cc,_,rfl,h4,h5,h8,by rw[j0w];simp[place,h3]⟩
 |
  .agg cs,v,pk,c,h,hv,hl=>by
  unfold rd at h;split at h<;>try cases h
  rename_i ha;split at h<;>try cases h
  rename_i l hp;obtain⟨c',hf,hA,_,hVC⟩:=(show VS E ρ n H S v (vl v c)from⟨c,hv,rfl⟩).flat;have hfl:I0 E ρ n H S (Z3 v) c:=by
   cases v<;>first|exact I0.one hv|(unfold VC at hv;exact hv)
  obtain⟨h6,h7⟩:=i0e hE hp hfl;obtain⟨h8,h9⟩:=j0Q hE ht cs l pk c h h6 h7;exact⟨by unfold SR;exact h8,fun _=>by unfold AG;exact ha,h9⟩
 |
  .tup cs,v,pk,c,h,hv,hl=>by
  unfold rd at h;split at h<;>try cases h
  rename_i l hu;have hvv:v=.tup l:=by cases v<;>simp[k0R]at hu;subst hu;rfl
  subst hvv;unfold VC at hv;obtain⟨us,rfl,hvt⟩:=hv;obtain⟨h8,h9⟩:=c0o hE ht cs l pk us h hvt;exact⟨by unfold SR;exact⟨us,rfl,h8⟩,fun _=>by unfold AG;rfl,h9⟩
 |
  .fn f cs,v,pk,c,h,hv,hl=>by
  unfold rd at h;split at h<;>try cases h
  rename_i l hu;have hvv:v=.fn f l:=by
   cases v<;>simp only[n0k]at hu<;>try cases hu
   split at hu<;>try cases hu
   rename_i hb;rw[beq_eq]at hb;subst hb;rfl
  subst hvv;unfold VC at hv;obtain⟨us,rfl,hvt⟩:=hv;obtain⟨h8,h9⟩:=c0o hE ht cs l pk us h hvt;exact⟨by unfold SR;exact⟨us,rfl,h8⟩,fun _=>by unfold AG;rfl,h9⟩
 |
  .ifc T sh,v,pk,c,h,hv,hl=>by
  unfold rd at h;split at h<;>try cases h
  rename_i hna;split at h<;>try cases h
  rename_i u hu;have hvv:v=.ifc T u:=by
   cases v<;>simp only[o0E]at hu<;>try cases hu
   split at hu<;>try cases hu
   rename_i hb;rw[beq_eq]at hb;subst hb;rfl
  subst hvv;unfold VC at hv;obtain⟨c',hv',rfl⟩:=hv;have hne:sh≠.any:=by
   rintro rfl;cases hna
  obtain⟨h8,h10,h9⟩:=c0P hE ht sh u pk c' h hv' (fun e=>absurd e hne);exact⟨by unfold SR;exact⟨c',h8,by unfold vl;rw[h10 hne]⟩,fun _=>by unfold AG;rfl,h9⟩
 |
  .alt a b,v,pk,c,h,hv,hl=>by
  unfold rd at h;split at h<;>try cases h
  rename_i hna;rw[Bool.and_eq_true]at hna;split at h
  ·split at h<;>try cases h
   rename_i ids y hr;have hne:a≠.any:=by rintro rfl;cases hna.1
   obtain⟨h8,h10,h9⟩:=c0P hE ht a v ⟨ids,y⟩ c hr hv (fun e=>absurd e hne);exact⟨h8,fun _=>h10 hne,h9⟩
  ·split at h<;>try cases h
   rename_i ids y hr;have hne:b≠.any:=by rintro rfl;cases hna.2
   obtain⟨h8,h10,h9⟩:=c0P hE ht b v ⟨ids,y⟩ c hr hv (fun e=>absurd e hne);exact⟨h8,fun _=>h10 hne,h9⟩
 |
  .map,v,pk,c,h,hv,hl=>by
  unfold rd at h;obtain⟨h1,h2,h3⟩:=p0M ht h hv;exact⟨h1,fun _=>by unfold AG;exact h2,h3⟩
 |
  .nil,v,pk,c,h,hv,hl=>by
  unfold rd r8 at h;split at h<;>try cases h
  rename_i hc;rcases f05 hc with⟨h1,rfl⟩|⟨h1,rfl⟩|⟨h1,rfl⟩|⟨b,h1,rfl⟩<;>cases h1
  unfold VC at hv;subst hv;exact⟨by unfold SR;exact⟨rfl,rfl⟩,fun _=>by unfold AG;rfl,N3.nil⟩
 |
  .nilp,v,pk,c,h,hv,hl=>by
  unfold rd r8 at h;split at h<;>try cases h
  rename_i hc;rcases f05 hc with⟨h1,rfl⟩|⟨h1,rfl⟩|⟨h1,rfl⟩|⟨b,h1,rfl⟩<;>cases h1
  unfold VC at hv;subst hv;exact⟨by unfold SR;exact⟨rfl,rfl⟩,fun _=>by unfold AG;rfl,N3.nil⟩
 |
  .nilif,v,pk,c,h,hv,hl=>by
  unfold rd r8 at h;split at h<;>try cases h
  rename_i hc;rcases f05 hc with⟨h1,rfl⟩|⟨h1,rfl⟩|⟨h1,rfl⟩|⟨b,h1,rfl⟩<;>cases h1
  unfold VC at hv;subst hv;exact⟨by unfold SR;exact⟨rfl,rfl⟩,fun _=>by unfold AG;rfl,N3.nil⟩
 |
  .kb b,v,pk,c,h,hv,hl=>by
  unfold rd r8 at h;split at h<;>try cases h
  rename_i hc;rcases f05 hc with⟨h1,rfl⟩|⟨h1,rfl⟩|⟨h1,rfl⟩|⟨b,h1,rfl⟩<;>cases h1
  unfold VC at hv;subst hv;exact⟨by unfold SR;exact⟨rfl,rfl⟩,fun _=>by unfold AG;rfl,N3.nil⟩
def j0Q (hE:B1 E)(ht:∀id,Y1 E ρ n H S (C0 s id) (ρ id)):∀(cs:List Sh) (l:List (V E.D)) (pk:Pk (O2 E.D cs)) (c:List Value),o5 E s cs l=some pk->I0 E ρ n H S l c->(j0z cs l)->
  s9 E H S cs pk.dat c (pk.ids.map (place ρ))/\N3 s pk.ids
 |
  [],[],pk,c,h,hl,_=>by
  unfold o5 at h;obtain rfl:=Option.some.inj h;unfold I0 at hl;subst hl;exact⟨by unfold s9;exact⟨rfl,rfl⟩,N3.nil⟩
 |
  [],_ :: _,pk,c,h,hl,_=>by
  unfold o5 at h;cases h
 |
  x :: r,l,pk,c,h,hl,hany=>by
  unfold o5 at h;split at h<;>try cases h
  rename_i v l';split at h<;>try cases h
  rename_i i a j b hr1 hr2;unfold I0 at hl;obtain⟨c1,c2,rfl,h1,h2⟩:=hl;obtain⟨h3,_,h4⟩:=c0P hE ht x v ⟨i,a⟩ c1 hr1 h1 (fun e=>h1.f0E hE (hany 0 (by rw[e];rfl) v rfl));obtain⟨h5,h6⟩:=j0Q hE ht r l' ⟨j,b⟩ c2 hr2 h2 (fun q hq w hw=>hany (q+1) (by simpa using hq) w (by simpa using hw));refine⟨?_,h4.app h6⟩;unfold s9;refine⟨c1,c2,_,_,rfl,j0w _ _,?_,?_⟩
  ·rw[fst_mk];exact h3
  ·rw[snd_mk];exact h5
def c0o (hE:B1 E)(ht:∀id,Y1 E ρ n H S (C0 s id) (ρ id)):∀(cs:List Sh) (l:List (V E.D)) (pk:Pk (O2 E.D cs)) (us:List Value),o5 E s cs l=some pk->VT E ρ n H S l us->
  N1 E H S cs pk.dat us (pk.ids.map (place ρ))/\N3 s pk.ids
 |
  [],[],pk,c,h,hl=>by
  unfold o5 at h;obtain rfl:=Option.some.inj h;unfold VT at hl;subst hl;exact⟨by unfold N1;exact⟨rfl,rfl⟩,N3.nil⟩
 |
  [],_ :: _,pk,c,h,hl=>by
  unfold o5 at h;cases h
 |
  x :: r,l,pk,us,h,hl=>by
  unfold o5 at h;split at h<;>try cases h
  rename_i v l';split at h<;>try cases h
  rename_i i a j b hr1 hr2;unfold VT at hl;obtain⟨c,us',h1,rfl,h2⟩:=hl;obtain⟨h5,h6⟩:=c0o hE ht r l' ⟨j,b⟩ us' hr2 h2;have key:∃c0,SR E H S x a c0 (i.map (place ρ))/\vl v c=B2 (AG E x a) c0/\N3 s i:=by
   by_cases hx:x=.any
   ·subst hx;unfold rd at hr1;obtain rfl:=congrArg Pk.ids (Option.some.inj hr1);exact⟨[vl v c],by unfold SR;exact⟨rfl,rfl⟩,by unfold AG;rfl,N3.nil⟩
   ·obtain⟨h3,h7,h4⟩:=c0P hE ht x v ⟨i,a⟩ c hr1 h1 (fun e=>absurd e hx);exact⟨c,h3,by unfold vl;rw[h7 hx],h4⟩
  obtain⟨c0,h3,h7,h4⟩:=key;refine⟨?_,h4.app h6⟩;unfold N1;refine⟨c0,_,us',_,_,rfl,j0w _ _,?_,?_,?_⟩
  ·rw[fst_mk];exact h7
  ·rw[fst_mk];exact h3
  ·rw[snd_mk];exact h5
end -- mutual
end
end
