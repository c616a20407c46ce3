/- P. Its conditions: none. -/
import Derived.Test.YtmhooikfkhjijaaGreatYX7
open Nat (add_zero beq_eq)
set_option linter.all false
namespace Go.X
open Go.V Go.RowKit
section
variable (E:Env)
mutual
def AG:(sh:Sh)->D6 E.D sh->Bool
 |.d t,_=>Y8 t
 |.agg _,_=>true
 |.alt a b,x=>match(show D6 E.D a⊕D6 E.D b from x)with
  |.inl y=>AG a y
  |.inr y=>AG b y
 |_,_=>false
end -- mutual
def p0Z (H:K0)(v:Value)(m:List (Int×Int)):Prop:=∃r es cl,v=.map (some r)/\H[r]?=some (.map es cl)/\es.toList.map (fun e=>(e.key,e.val))=m.map (fun p=>(Value.int .i64 p.1,Value.int .i64 p.2))
section
variable (H:K0)(S:D0)
mutual
def SR:(sh:Sh)->D6 E.D sh->List Value->List Value->Prop
 |.any,_,c,pl=>pl=[]/\c.length=1
 |.d t,x,c,pl=>pl=[]/\(J0 E t).R H S c x
 |.own e t,x,c,pl=>∃v cs,c=[v]/\pl=[v]/\v.oneCell'=true/\Row H e (J0 E t).sz v (show List (Den E.D t)from x).length cs/\U1 (J0 E t) H S cs x
 |.B1 e F t,x,c,pl=>∃v cs,c=[hd v]/\pl=[v]/\(hd v).oneCell'=true/\H8 E H S e F t (show List (Den E.D t)from x) none v cs
 |.box T l,x,c,pl=>∃b cs p,c=[.pointer (some ⟨b,0,none⟩)]/\H[b]?=some (.cells cs.toArray T (0,0))/\(∀u∈cs,u.oneCell'=true)/\SRs l x cs p/\pl=p++[.pointer (some ⟨b,0,none⟩)]
 |.agg l,x,c,pl=>SRs l x c pl
 |.tup l,x,c,pl=>∃us,c=[.tuple us.toArray]/\I3 l x us pl
 |.fn f l,x,c,pl=>∃us,c=[.func (.func f) #[] us.toArray]/\I3 l x us pl
 |.ifc T sh,x,c,pl=>∃c',SR sh x c' pl/\c=[.iface T (H4 (AG E sh x) c')]
 |.alt a b,x,c,pl=>match(show D6 E.D a⊕D6 E.D b from x)with
  |.inl y=>SR a y c pl
  |.inr y=>SR b y c pl
 |.map,x,c,pl=>∃v,c=[v]/\pl=[v]/\v.oneCell'=true/\p0Z H v x
 |.nil,_,c,pl=>pl=[]/\c=[.slice none 0 0]
 |.nilp,_,c,pl=>pl=[]/\c=[.pointer none]
 |.nilif,_,c,pl=>pl=[]/\c=[.nilIface]
 |.kb b,_,c,pl=>pl=[]/\c=[.bool b]
def SRs:(l:List Sh)->S4 E.D l->List Value->List Value->Prop
 |[],_,c,pl=>c=[]/\pl=[]
 |x :: r,a,c,pl=>∃c1 c2 p1 b,c=c1++c2/\pl=p1++b/\SR x (c0R (J6 x) (U5 r) (b0f E x) a) c1 p1/\SRs r (d0E (J6 x) (U5 r) (c0s E r) a) c2 b
def I3:(l:List Sh)->S4 E.D l->List Value->List Value->Prop
 |[],_,us,pl=>us=[]/\pl=[]
 |x :: r,a,us,pl=>∃c u b p1 d,us=u :: b/\pl=p1++d/\u=H4 (AG E x (c0R (J6 x) (U5 r) (b0f E x) a)) c/\SR x (c0R (J6 x) (U5 r) (b0f E x) a) c p1/\I3 r (d0E (J6 x) (U5 r) (c0s E r) a) b d
end -- mutual
end
end
section
variable {E:Env}{ρ:Nat->Value}{n N:Nat}{H:K0}{S:D0}
def St.more {D:Nat->Type}(u:St D)(tl:List (Nat×Th D))(m:Nat):St D:={ u with th:=tl++u.th,nid:=u.nid+m }
def m0V {α:Type}:∀(l l':List (Nat×α)) (k:Nat),Q4 (l++l') k=match Q4 l k with|some v=>some v|none=>Q4 l' k
 |[],l',k=>rfl
 |(j,v) :: l,l',k=>by
  rw[List.cons_append,a0q,a0q];split
  ·rfl
  ·exact m0V l l' k
def j04 {α:Type}:∀(l:List (Nat×α)) (k:Nat),(∀p∈l,p.1≠k)->Q4 l k=none
 |[],k,_=>rfl
 |(j,v) :: l,k,h=>by
  rw[a0q,if_neg (h (j,v) (by simp))];exact j04 l k fun p hp=>h p (by simp[hp])
def f0J {D:Nat->Type}(u:St D)(tl:List (Nat×Th D))(m j:Nat)(h:∀p∈tl,p.1≠j):E0 (u.more tl m) j=E0 u j:=by
 unfold E0 St.more;simp only;rw[m0V,j04 tl j h]
structure L6 (E:Env)(ρ:Nat->Value)(N:Nat)(H:K0)(S:D0)(u:St E.D)(tl:List (Nat×Th E.D))(pl:List Value):Prop where
 keys:∀p∈tl,u.nid<=p.1/\p.1<u.nid+pl.length
 th:∀i v,pl[i]?=some v->X3 E ρ N H S (E0 (u.more tl pl.length) (u.nid+i)) v/\P1 (E0 (u.more tl pl.length) (u.nid+i))=true
def L6.nil {u:St E.D}:L6 E ρ N H S u [] []:=⟨(fun p hp=>by cases hp),(fun i v h=>by simp at h)⟩
def L6.one {u:St E.D}{x:Th E.D}{v:Value}(h:X3 E ρ N H S x v)(a:P1 x=true):L6 E ρ N H S u [(u.nid,x)] [v]:=by
 refine⟨fun p hp=>by simp at hp;subst hp;simp,fun i w hi=>?_⟩;cases i with
 |zero=>
  simp at hi;subst hi;have:E0 (u.more [(u.nid,x)] [v].length) (u.nid+0)=x:=by
   unfold E0 St.more;simp[a0q]
  rw[this];exact⟨h,a⟩
 |succ i=>simp at hi
def k0n {D:Nat->Type}(u:St D)(t1 t2:List (Nat×Th D))(m1 m2:Nat):(u.more t1 m1).more t2 m2=u.more (t2++t1) (m1+m2):=by
 unfold St.more;simp[Nat.add_assoc]
def L6.app {u:St E.D}{t1 t2:List (Nat×Th E.D)}{p1 c:List Value}(h1:L6 E ρ N H S u t1 p1)(b:L6 E ρ N H S (u.more t1 p1.length) t2 c):L6 E ρ N H S u (t2++t1) (p1++c):=by
 have a:(u.more t1 p1.length).nid=u.nid+p1.length:=rfl;refine⟨fun p hp=>?_,fun i v hi=>?_⟩
 ·rw[List.length_append];rcases List.mem_append.1 hp with hp|hp
  ·have:=b.keys p hp;rw[a]at this;omega
  ·have:=h1.keys p hp;omega
 ·rw[List.length_append,<-k0n];rcases Nat.lt_or_ge i p1.length with hlt|hge
  ·rw[List.getElem?_append_left hlt]at hi;rw[f0J _ _ _ _ (fun p hp=>by have:=b.keys p hp;rw[a]at this;omega)];exact h1.th i v hi
  ·rw[List.getElem?_append_right hge]at hi;have:=b.th _ v hi;rw[a,show u.nid+p1.length+(i-p1.length)=u.nid+i from by omega]at this;exact this
def N0.flat {l:List (V E.D)}:∀{c:List Value},N0 E ρ n H S l c->N0 E ρ n H S (l.flatMap H6) c:=by
 induction l with
 |nil=>intro c h;exact h
 |cons v l ih=>
  intro c h;unfold N0 at h;obtain⟨c1,c2,rfl,h1,a⟩:=h;rw[List.flatMap_cons];refine N0.app ?_ (ih a);cases v<;>first|exact N0.one h1|(unfold VC at h1;exact h1)
def k0s {D:Nat->Type}(u:St D)(x:Th D):u.new x=u.more [(u.nid,x)] 1:=rfl
variable {R:Type}{r:R}
mutual
def h0F:∀(sh:Sh) (x:D6 E.D sh) (c pl:List Value) (u:St E.D) (k:St E.D->V E.D->Option R),SR E H S sh x c pl->Z7 E u sh x k=some r->(∀i v,pl[i]?=some v->ρ (u.nid+i)=v)->u.nid+pl.length<=N->
  ∃v tl,k (u.more tl pl.length) v=some r/\VC E ρ N H S v c/\C4 v=AG E sh x/\L6 E ρ N H S u tl pl
 |.any,x,c,pl,u,k,h,hk,_,_=>by
  unfold SR at h;obtain⟨rfl,hl⟩:=h;unfold Z7 at hk
  match c,hl with
  |[z],_=>exact⟨.undef,[],hk,by unfold VC;exact⟨z,rfl⟩,by unfold AG;rfl,L6.nil⟩
 |.d t,x,c,pl,u,k,h,hk,_,_=>by
  unfold SR at h;obtain⟨rfl,hl⟩:=h;unfold Z7 at hk;refine⟨ofD t x,[],hk,?_,?_,L6.nil⟩
  ·exact j0J (show VC E ρ N H S (.d t x) c by unfold VC;exact hl)
  ·unfold AG;exact k0o
 |.own e t,x,c,pl,u,k,h,hk,hp,hn=>by
  unfold SR at h;obtain⟨v,cs,rfl,rfl,q,w,C⟩:=h;unfold Z7 at hk;rw[k0s]at hk;have o:=hp 0 v rfl;refine⟨.sl u.nid,_,hk,?_,by unfold AG;rfl,L6.one ?_ rfl⟩
  ·unfold VC;rw[add_zero]at o;rw[o,(d0T q).1];simp at hn;exact⟨by omega,q,rfl⟩
  ·exact⟨cs,w,C⟩
 |.B1 e F t,x,c,pl,u,k,h,hk,hp,hn=>by
  unfold SR at h;obtain⟨v,cs,rfl,rfl,q,I⟩:=h;unfold Z7 at hk;rw[k0s]at hk;have o:=hp 0 v rfl;refine⟨.sl u.nid,_,hk,?_,by unfold AG;rfl,L6.one ?_ rfl⟩
  ·unfold VC;rw[add_zero]at o;rw[o];simp at hn;exact⟨by omega,q,rfl⟩
  ·exact⟨cs,I⟩
 |.box T l,x,c,pl,u,k,h,hk,hp,hn=>by
  unfold SR at h;obtain⟨b,cs,p,rfl,hb,h1,U,rfl⟩:=h;unfold Z7 at hk;rw[List.length_append]at hn ⊢;obtain⟨l',tl,g,m,j⟩:=m0q l x cs p u _ U hk (fun i v hi=>hp i v (by rw[List.getElem?_append_left (List.getElem?_eq_some_iff.1 hi).1];exact hi)) (by omega);have o:=hp p.length (.pointer (some ⟨b,0,none⟩)) (by simp);refine⟨.pb (u.nid+p.length) 0 [],((u.more tl p.length).nid,.box T l') :: tl,?_,?_,by unfold AG;rfl,?_⟩
  ·rw[k0s,k0n]at g;exact g
  ·unfold VC;simp at hn;exact⟨by omega,trivial,b,by rw[o];rfl,by simp[M4]⟩
  ·exact j.app (t2:=[((u.more tl p.length).nid,Th.box T l')]) (L6.one ⟨b,cs,rfl,hb,m,h1⟩ rfl)
 |.agg l,x,c,pl,u,k,h,hk,hp,hn=>by
  unfold SR at h;unfold Z7 at hk;obtain⟨l',tl,g,m,j⟩:=m0q l x c pl u _ h hk hp hn;exact⟨_,tl,g,by unfold VC;exact m.flat,by unfold AG;rfl,j⟩
 |.tup l,x,c,pl,u,k,h,hk,hp,hn=>by
  unfold SR at h;obtain⟨us,rfl,h⟩:=h;unfold Z7 at hk;obtain⟨l',tl,g,m,j⟩:=f0j l x us pl u _ h hk hp hn;exact⟨_,tl,g,by unfold VC;exact⟨us,rfl,m⟩,by unfold AG;rfl,j⟩
 |.fn f l,x,c,pl,u,k,h,hk,hp,hn=>by
  unfold SR at h;obtain⟨us,rfl,h⟩:=h;unfold Z7 at hk;obtain⟨l',tl,g,m,j⟩:=f0j l x us pl u _ h hk hp hn;exact⟨_,tl,g,by unfold VC;exact⟨us,rfl,m⟩,by unfold AG;rfl,j⟩
 |.ifc T sh,x,c,pl,u,k,h,hk,hp,hn=>by
  unfold SR at h;obtain⟨c',h,rfl⟩:=h;unfold Z7 at hk;obtain⟨J,tl,g,m,ha,j⟩:=h0F sh x c' pl u _ h hk hp hn;exact⟨_,tl,g,by unfold VC;exact⟨c',m,by unfold vl;rw[ha]⟩,by unfold AG;rfl,j⟩
 |.alt a b,.inl y,c,pl,u,k,h,hk,hp,hn=>by
  obtain⟨J,tl,g,m,ha,j⟩:=h0F a y c pl u k h hk hp hn;exact⟨J,tl,g,m,ha,j⟩
 |.alt a b,.inr y,c,pl,u,k,h,hk,hp,hn=>by
  obtain⟨J,tl,g,m,ha,j⟩:=h0F b y c pl u k h hk hp hn;exact⟨J,tl,g,m,ha,j⟩
 |.map,x,c,pl,u,k,h,hk,hp,hn=>by
  unfold SR at h;obtain⟨v,rfl,rfl,q,hm⟩:=h;unfold Z7 at hk;rw[k0s]at hk;have o:=hp 0 v rfl;refine⟨.mp u.nid,_,hk,?_,by unfold AG;rfl,L6.one ?_ rfl⟩
  ·unfold VC;rw[add_zero]at o;rw[o,(d0T q).1];simp at hn;exact⟨by omega,q,rfl⟩
  ·exact hm
 |.nil,x,c,pl,u,k,h,hk,_,_=>by
  unfold SR at h;obtain⟨rfl,rfl⟩:=h;unfold Z7 at hk;exact⟨.nil,[],hk,by unfold VC;rfl,by unfold AG;rfl,L6.nil⟩
 |.nilp,x,c,pl,u,k,h,hk,_,_=>by
  unfold SR at h;obtain⟨rfl,rfl⟩:=h;unfold Z7 at hk;exact⟨.nilp,[],hk,by unfold VC;rfl,by unfold AG;rfl,L6.nil⟩
 |.nilif,x,c,pl,u,k,h,hk,_,_=>by
  unfold SR at h;obtain⟨rfl,rfl⟩:=h;unfold Z7 at hk;exact⟨.nilif,[],hk,by unfold VC;rfl,by unfold AG;rfl,L6.nil⟩
 |.kb b,x,c,pl,u,k,h,hk,_,_=>by
  unfold SR at h;obtain⟨rfl,rfl⟩:=h;unfold Z7 at hk;exact⟨.kb b,[],hk,by unfold VC;rfl,by unfold AG;rfl,L6.nil⟩
def m0q:∀(l:List Sh) (x:S4 E.D l) (c pl:List Value) (u:St E.D) (k:St E.D->List (V E.D)->Option R),SRs E H S l x c pl->c9 E u l x k=some r->(∀i v,pl[i]?=some v->ρ (u.nid+i)=v)->u.nid+pl.length<=N->
  ∃vs tl,k (u.more tl pl.length) vs=some r/\N0 E ρ N H S vs c/\L6 E ρ N H S u tl pl
 |[],x,c,pl,u,k,h,hk,_,_=>by
  unfold SRs at h;obtain⟨rfl,rfl⟩:=h;unfold c9 at hk;exact⟨[],[],hk,N0.nil,L6.nil⟩
 |sh :: l,x,c,pl,u,k,h,hk,hp,hn=>by
  unfold SRs at h;obtain⟨c1,c2,p1,g,rfl,rfl,h1,m⟩:=h;unfold c9 at hk;rw[List.length_append]at hn ⊢;obtain⟨v,t1,b,j,_,d⟩:=h0F sh _ c1 p1 u _ h1 hk (fun i v hi=>hp i v (by rw[List.getElem?_append_left (List.getElem?_eq_some_iff.1 hi).1];exact hi)) (by omega);obtain⟨vs,t2,a,e,f⟩:=m0q l _ c2 g (u.more t1 p1.length) _ m b (fun i v hi=>by
   have:=hp (p1.length+i) v (by rw[List.getElem?_append_right (by omega),Nat.add_sub_cancel_left];exact hi);rw[<-this];show ρ (u.nid+p1.length+i)=_;congr 1;omega) (by show u.nid+p1.length+g.length<=N;omega)
  refine⟨v :: vs,t2++t1,?_,?_,d.app f⟩
  ·rw[k0n]at a;exact a
  ·unfold N0;exact⟨c1,c2,rfl,j,e⟩
def f0j:∀(l:List Sh) (x:S4 E.D l) (us pl:List Value) (u:St E.D) (k:St E.D->List (V E.D)->Option R),I3 E H S l x us pl->c9 E u l x k=some r->(∀i v,pl[i]?=some v->ρ (u.nid+i)=v)->u.nid+pl.length<=N->
  ∃vs tl,k (u.more tl pl.length) vs=some r/\VT E ρ N H S vs us/\L6 E ρ N H S u tl pl
 |[],x,c,pl,u,k,h,hk,_,_=>by
  unfold I3 at h;obtain⟨rfl,rfl⟩:=h;unfold c9 at hk;exact⟨[],[],hk,by unfold VT;rfl,L6.nil⟩
 |sh :: l,x,us,pl,u,k,h,hk,hp,hn=>by
  unfold I3 at h;obtain⟨c,z,a,p1,j,rfl,rfl,o,h1,p⟩:=h;unfold c9 at hk;rw[List.length_append]at hn ⊢;obtain⟨v,t1,d,m,ha,e⟩:=h0F sh _ c p1 u _ h1 hk (fun i v hi=>hp i v (by rw[List.getElem?_append_left (List.getElem?_eq_some_iff.1 hi).1];exact hi)) (by omega);obtain⟨vs,t2,b,f,g⟩:=f0j l _ a j (u.more t1 p1.length) _ p d (fun i v hi=>by
   have:=hp (p1.length+i) v (by rw[List.getElem?_append_right (by omega),Nat.add_sub_cancel_left];exact hi);rw[<-this];show ρ (u.nid+p1.length+i)=_;congr 1;omega) (by show u.nid+p1.length+j.length<=N;omega)
  refine⟨v :: vs,t2++t1,?_,?_,e.app g⟩
  ·rw[k0n]at b;exact b
  ·unfold VT;exact⟨c,a,m,by rw[o];unfold vl;rw[ha],f⟩
end -- mutual
section
variable {s:St E.D}
def place (ρ:Nat->Value):Option Nat->Value
 |none=>.slice none 0 0
 |some id=>ρ id
def W5 (s:St E.D)(ids:List (Option Nat)):Prop:=∀id,some id∈ids->P1 (E0 s id)=true
def B0m {b:IntKind}{v:V E.D}{x:Int}(h:e0l b v=some x):C4 v=false:=by
 unfold e0l at h;split at h<;>try cases h
 rename_i a;cases v<;>first|rfl|skip
 ·rename_i t z;cases t<;>simp[L5]at a<;>rfl
 ·simp[L5]at a
def C0K {v:V E.D}{x:Bool}(h:V6 v=some x):C4 v=false:=by
 cases v<;>first|rfl|skip
 ·rename_i t z;cases t<;>simp[V6]at h<;>rfl
 ·simp[V6]at h
def y0y {v:V E.D}{x:ByteArray}(h:d0J v=some x):C4 v=false:=by
 unfold d0J at h;split at h
 ·rfl
 ·cases h
def x0o {t:U}{v:V E.D}{x:List (Den E.D t)}(h:d0O E s t v=some x):C4 v=false:=by
 unfold d0O at h;split at h<;>first|rfl|cases h
def w0D {q:TD E}{i:Nat}{v:V E.D}{x:E.D i}(h:e0y E q i v=some x):C4 v=true:=by
 unfold e0y at h;split at h
 ·rename_i hd;obtain rfl:=f0z hd;obtain⟨e,h⟩:=c0q h;subst e;rfl
 ·split at h<;>try cases h
  rename_i l hl;obtain rfl:=j0u hl;rfl
def w0b {q:TD E}{m:Nat}{t:U}{v:V E.D}{x:List (Den E.D t)}(h:d0P E q m t v=some x):C4 v=true:=by
 unfold d0P at h;split at h
 ·rename_i hd;obtain rfl:=f0z hd;obtain⟨e,h⟩:=c0q h;subst e;rfl
 ·split at h<;>try cases h
  rename_i l hl;obtain rfl:=j0u hl;rfl
def p0V {q:TD E}{t:U}{v:V E.D}{x:Den E.D t}(h:d0a E s q t v=some x):C4 v=false:=by
 unfold d0a at h;split at h<;>first|rfl|cases h
def z0o {q:TD E}{t:U}{v:V E.D}{x:Option (Den E.D t)}(h:d0C E s q t v=some x):C4 v=false:=by
 unfold d0C at h;split at h
 ·rename_i hn;obtain rfl:=q0r hn;rfl
 ·split at h
  ·rename_i hd;obtain rfl:=f0z hd;obtain⟨e,h⟩:=c0q h;subst e;rfl
  ·split at h
   ·rename_i y a;exact p0V a
   ·cases h
def A04 {q:TD E}:∀{t:U} {v:V E.D} {x:Den E.D t},k0x E s q t v=some x->C4 v=Y8 t
 |.int a,v,x,h=>B0m (show e0l a v=some x from h)
 |.bool,v,x,h=>C0K (show V6 v=some x from h)
 |.str,v,x,h=>y0y (show d0J v=some x from h)
 |.list t,v,x,h=>x0o (show d0O E s t v=some x from h)
 |.st i,v,x,h=>w0D (show e0y E q i v=some x from h)
 |.arr n t,v,x,h=>w0b (show d0P E q n t v=some x from h)
 |.ptr t,v,x,h=>p0V (show d0a E s q t v=some x from h)
 |.opt t,v,x,h=>z0o (show d0C E s q t v=some x from h)
def D0F {k:Nat}{t:U}{v:V E.D}{x:Den E.D t}(h:toD E s k t v=some x):C4 v=Y8 t:=by
 cases k with
 |zero=>cases h
 |succ k=>exact A04 (show k0x E s (td E s k) t v=some x from h)
def k01 {D:Nat->Type}(cs:List Sh)(l:List (V D)):Prop:=∀(i:Nat),cs[i]?=some Sh.any->∀v:V D,l[i]?=some v->C4 v=false
def n0x (d:Q1 E):∀{cs:List Sh} {l l':List (V E.D)} {c:List Value},c0w E cs l=some l'->N0 E ρ n H S l c->N0 E ρ n H S l' c/\k01 cs l'
 |[],[],l',c,h,a=>by
  simp[c0w]at h;subst h;exact⟨a,fun i hi=>by simp at hi⟩
 |[],_ :: _,l',c,h,a=>by simp[c0w]at h
 |x :: r,l,l',c,h,a=>by
  simp only[c0w]at h;split at h<;>try cases h
  rename_i m o b;split at h<;>try cases h
  rename_i v vs ha hp;obtain⟨c1,c2,rfl,_,hm,k⟩:=b0g d _ _ _ _ _ b c a;obtain⟨g,f⟩:=n0x d hp k;obtain⟨e,j⟩:=f0Y d ha hm;refine⟨by unfold N0;exact⟨c1,c2,rfl,e,g⟩,fun i hi w hw=>?_⟩;cases i with
  |zero=>
   simp at hi hw;subst hi;subst hw;exact j
  |succ i=>exact f i (by simpa using hi) w (by simpa using hw)
def m0x (a b:List (Option Nat)):(a++b).map (place ρ)=a.map (place ρ)++b.map (place ρ):=List.map_append
def W5.app {a b:List (Option Nat)}(h1:W5 s a)(c:W5 s b):W5 s (a++b):=fun id h=>by
 rcases List.mem_append.1 h with h|h
 ·exact h1 id h
 ·exact c id h
def W5.nil:W5 s []:=fun id h=>by cases h
def SR.own {e:Nat}{t:U}{x:D6 E.D (.own e t)}{c pl:List Value}(h:∃v cs,c=[v]/\pl=[v]/\v.oneCell'=true/\Row H e (J0 E t).sz v (show List (Den E.D t)from x).length cs/\U1 (J0 E t) H S cs x):SR E H S (.own e t) x c pl:=by unfold SR;exact h
def SR.map {x:D6 E.D .map}{c pl:List Value}(h:∃v,c=[v]/\pl=[v]/\v.oneCell'=true/\p0Z H v x):SR E H S .map x c pl:=by unfold SR;exact h
def A0w (m:∀id,X3 E ρ n H S (E0 s id) (ρ id)){e:Nat}{t:U}{v:V E.D}{f:Pk (List (Den E.D t))}{c:List Value}(h:l05 E s e t v=some f)(g:VC E ρ n H S v c):
  SR E H S (.own e t) f.dat c (f.ids.map (place ρ))/\C4 v=false/\W5 s f.ids:=by
 unfold l05 at h;split at h
 ·simp only[Option.some.injEq]at h;subst h;unfold VC at g;subst g;refine⟨?_,rfl,fun id h=>by simp at h⟩;exact SR.own ⟨_,[],rfl,rfl,rfl,⟨by simp,.inl ⟨rfl,none,rfl⟩⟩,U1.nil⟩
 ·rename_i id;split at h<;>try cases h
  rename_i e' p xs hl;split at h<;>try cases h
  rename_i ys he i;rw[beq_eq]at he;subst he;obtain⟨o,i⟩:=L9 i;subst o;subst i;unfold VC at g;obtain⟨_,l,rfl⟩:=g;have:=m id;rw[hl]at this;have a:∃A' c,ρ id=.slice A' xs.length c:=S5.form this;obtain⟨A',c',a⟩:=a;have k:hd (ρ id)=ρ id:=by rw[a];rfl
  obtain⟨cs,b,d⟩:=this;refine⟨?_,rfl,fun j h=>?_⟩
  ·rw[k]at l ⊢;exact SR.own ⟨_,cs,rfl,rfl,l,b,d⟩
  ·simp at h;subst h;rw[hl];rfl
 ·cases h
def SR.B1 {e:Nat}{F:List Nat}{t:U}{x:D6 E.D (.B1 e F t)}{c pl:List Value}(h:∃v cs,c=[hd v]/\pl=[v]/\(hd v).oneCell'=true/\H8 E H S e F t (show List (Den E.D t)from x) none v cs):SR E H S (.B1 e F t) x c pl:=by unfold SR;exact h
def w0y (m:∀id,X3 E ρ n H S (E0 s id) (ρ id)){e:Nat}{F:List Nat}{t:U}{v:V E.D}{b:Pk (List (Den E.D t))}{c:List Value}(h:d0s E s e F t v=some b)(a:VC E ρ n H S v c):
  SR E H S (.B1 e F t) b.dat c (b.ids.map (place ρ))/\C4 v=false/\W5 s b.ids:=by
 cases v with
 |nil=>
  simp only[d0s]at h;split at h<;>try cases h
  rename_i l;unfold VC at a;subst a;refine⟨?_,rfl,fun id h=>by simp at h⟩;refine SR.B1 ⟨D7,[],rfl,rfl,rfl,⟨by simp,.inl ⟨rfl,none,rfl⟩⟩,rfl,l,(fun _ _ h=>by cases h),fun i x f u ys e' h1=>by simp at h1,by simp,fun i j v y _ a _ k hk=>?_⟩;have:=List.mem_of_getElem? a;have g:Go.X.tl D7=[]:=rfl;rw[g]at this;simp at this;subst this;cases hk
 |sl id=>
  simp only[d0s]at h;split at h<;>try cases h
  rename_i e' q w xs hl;split at h<;>try cases h
  rename_i he d;rw[Bool.and_eq_true,beq_eq,beq_iff_eq]at he;obtain⟨rfl,rfl⟩:=he;obtain⟨p,d⟩:=L9 d;subst p;subst d;unfold VC at a;obtain⟨_,o,rfl⟩:=a;have:=m id;rw[hl]at this;obtain⟨cs,this⟩:=this;refine⟨SR.B1 ⟨ρ id,cs,rfl,rfl,o,this⟩,rfl,fun j h=>?_⟩;simp at h;subst h;rw[hl];rfl
 |_=>simp[d0s]at h
def E0O (f:∀id,X3 E ρ n H S (E0 s id) (ρ id)){v:V E.D}{a:Pk (List (Int×Int))}{c:List Value}(h:l0O E s v=some a)(b:VC E ρ n H S v c):
  SR E H S .map a.dat c (a.ids.map (place ρ))/\C4 v=false/\W5 s a.ids:=by
 unfold l0O at h;split at h<;>try cases h
 rename_i id;split at h<;>try cases h
 rename_i m hl;unfold VC at b;obtain⟨_,e,rfl⟩:=b;have:=f id;rw[hl]at this;have d:hd (ρ id)=ρ id:=by obtain⟨r,es,cl,b,_⟩:=this;rw[b];rfl
 refine⟨?_,rfl,fun j h=>?_⟩
 ·rw[d]at e ⊢;exact SR.map ⟨_,rfl,rfl,e,this⟩
 ·simp at h;subst h;rw[hl];rfl
def C0A (p:Q1 E)(i:∀id,X3 E ρ n H S (E0 s id) (ρ id)){T id:Nat}{cs:List Sh}{v:V E.D}{l:List (V E.D)}{c:List Value}(h:o0l E s T cs v=some (id,l))(e:VC E ρ n H S v c):
  C4 v=false/\P1 (E0 s id)=true/\∃b cc,ρ id=.pointer (some ⟨b,0,none⟩)/\c=[.pointer (some ⟨b,0,none⟩)]/\H[b]?=some (.cells cc.toArray T (0,0))/\(∀u∈cc,u.oneCell'=true)/\N0 E ρ n H S l cc/\k01 cs l:=by
 unfold o0l at h;split at h<;>try cases h
 rename_i o;split at h<;>try cases h
 rename_i q t hl;split at h<;>try cases h
 rename_i g hp;rw[beq_eq]at g;subst g;unfold VC at e;obtain⟨_,_,b,f,rfl⟩:=e;have:=i id;rw[hl]at this;obtain⟨b',cc,a,j,d,h1⟩:=this;obtain rfl:b=b':=by rw[a]at f;simpa[hd,eq_comm]using f
 obtain⟨m,k⟩:=n0x p hp d;exact⟨rfl,by rw[hl];rfl,b,cc,a,by simp[M4],j,h1,m,k⟩
def j0n {sh:Sh}{v:V E.D}(h:isC sh v=true):(sh=.nil/\v=.nil)\/(sh=.nilp/\v=.nilp)\/(sh=.nilif/\v=.nilif)\/(∃b,sh=.kb b/\v=.kb b):=by
 unfold isC at h;split at h
 ·exact .inl ⟨rfl,rfl⟩
 ·exact .inr (.inl ⟨rfl,rfl⟩)
 ·exact .inr (.inr (.inl ⟨rfl,rfl⟩))
 ·rename_i b b';have:=beq_iff_eq.1 h;subst this;exact .inr (.inr (.inr ⟨_,rfl,rfl⟩))
 ·cases h
def C0T {p q:Bool}{A B:Type}(hp:p=true)(h:∀a b:B,a=b):∀a b:DC p q A B,a=b:=by subst hp;exact h
mutual
def r09:∀(sh:Sh),J6 sh=true->∀a b:D6 E.D sh,a=b
 |.any,_=>fun _ _=>rfl
 |.d _,h=>by cases h
 |.own _ _,h=>by cases h
 |.B1 _ _ _,h=>by cases h
 |.box _ l,h=>e0X l h
 |.agg l,h=>e0X l h
 |.tup l,h=>e0X l h
 |.fn _ l,h=>e0X l h
 |.ifc _ x,h=>r09 x h
 |.alt _ _,h=>by cases h
 |.map,h=>by cases h
 |.nil,_=>fun _ _=>rfl
 |.nilp,_=>fun _ _=>rfl
 |.nilif,_=>fun _ _=>rfl
 |.kb _,_=>fun _ _=>rfl
def e0X:∀(l:List Sh),U5 l=true->∀a b:S4 E.D l,a=b
 |[],_=>fun _ _=>rfl
 |x :: r,h=>by
  have h:(J6 x&&U5 r)=true:=h;rw[Bool.and_eq_true]at h;exact C0T h.1 (e0X r h.2)
end -- mutual
def fst_mk {x:Sh}{r:List Sh}{a:D6 E.D x}{b:S4 E.D r}:c0R (J6 x) (U5 r) (b0f E x) (e0E (J6 x) (U5 r) a b)=a:=by
 cases c:J6 x
 ·cases d:U5 r<;>rfl
 ·exact r09 x c _ _
def snd_mk {x:Sh}{r:List Sh}{a:D6 E.D x}{b:S4 E.D r}:d0E (J6 x) (U5 r) (c0s E r) (e0E (J6 x) (U5 r) a b)=b:=by
 cases d:J6 x
 ·cases c:U5 r
  ·rfl
  ·exact e0X r c _ _
 ·rfl
mutual
def g0Y (z:Q1 E)(o:∀id,X3 E ρ n H S (E0 s id) (ρ id)):∀(sh:Sh) (v:V E.D) (g:Pk (D6 E.D sh)) (c:List Value),rd E s sh v=some g->VC E ρ n H S v c->(sh=.any->c.length=1)->
  SR E H S sh g.dat c (g.ids.map (place ρ))/\(sh≠.any->C4 v=AG E sh g.dat)/\W5 s g.ids
 |.any,v,g,c,h,hv,hl=>by
  unfold rd at h;obtain rfl:=Option.some.inj h;exact⟨by unfold SR;exact⟨rfl,hl rfl⟩,fun h=>absurd rfl h,W5.nil⟩
 |.d t,v,g,c,h,hv,hl=>by
  unfold rd at h;split at h<;>try cases h
  rename_i x hx;exact⟨by unfold SR;exact⟨rfl,h0c z o hx hv⟩,fun _=>by unfold AG;exact D0F hx,W5.nil⟩
 |.own e t,v,g,c,h,hv,hl=>by
  unfold rd at h;obtain⟨h1,J,h3⟩:=A0w o h hv;exact⟨h1,fun _=>by unfold AG;exact J,h3⟩
 |.B1 e F t,v,g,c,h,hv,hl=>by
  unfold rd at h;obtain⟨h1,J,h3⟩:=w0y o h hv;exact⟨h1,fun _=>by unfold AG;exact J,h3⟩
 |.box T cs,v,g,c,h,hv,hl=>by
  unfold rd at h;split at h<;>try cases h
  rename_i id l U;split at h<;>try cases h
  rename_i ids x hr;obtain⟨h1,J,b,cc,h3,rfl,h4,h5,h6,h7⟩:=C0A z o U hv;obtain⟨m,k⟩:=l0H z o cs l ⟨ids,x⟩ cc hr h6 h7;refine⟨?_,fun _=>by unfold AG;exact h1,k.app fun j hj=>by simp at hj;subst hj;exact J⟩;unfold SR;exact⟨b,cc,_,rfl,h4,h5,m,by rw[m0x];simp[place,h3]⟩
 |.agg cs,v,g,c,h,hv,hl=>by
  unfold rd at h;split at h<;>try cases h
  rename_i ha;split at h<;>try cases h
  rename_i l hp;obtain⟨c',hf,hA,_,b2⟩:=(show VS E ρ n H S v (vl v c)from⟨c,hv,rfl⟩).flat;have a1:N0 E ρ n H S (H6 v) c:=by
   cases v<;>first|exact N0.one hv|(unfold VC at hv;exact hv)
  obtain⟨h6,h7⟩:=n0x z hp a1;obtain⟨m,k⟩:=l0H z o cs l g c h h6 h7;exact⟨by unfold SR;exact m,fun _=>by unfold AG;exact ha,k⟩
 |.tup cs,v,g,c,h,hv,hl=>by
  unfold rd at h;split at h<;>try cases h
  rename_i l hu;have p:v=.tup l:=by cases v<;>simp[t0J]at hu;subst hu;rfl
  subst p;unfold VC at hv;obtain⟨us,rfl,I⟩:=hv;obtain⟨m,k⟩:=f00 z o cs l g us h I;exact⟨by unfold SR;exact⟨us,rfl,m⟩,fun _=>by unfold AG;rfl,k⟩
 |.fn f cs,v,g,c,h,hv,hl=>by
  unfold rd at h;split at h<;>try cases h
  rename_i l hu;have p:v=.fn f l:=by
   cases v<;>simp only[r0J]at hu<;>try cases hu
   split at hu<;>try cases hu
   rename_i U;rw[beq_eq]at U;subst U;rfl
  subst p;unfold VC at hv;obtain⟨us,rfl,I⟩:=hv;obtain⟨m,k⟩:=f00 z o cs l g us h I;exact⟨by unfold SR;exact⟨us,rfl,m⟩,fun _=>by unfold AG;rfl,k⟩
 |.ifc T sh,v,g,c,h,hv,hl=>by
  unfold rd at h;split at h<;>try cases h
  rename_i q;split at h<;>try cases h
  rename_i u hu;have p:v=.ifc T u:=by
   cases v<;>simp only[s00]at hu<;>try cases hu
   split at hu<;>try cases hu
   rename_i U;rw[beq_eq]at U;subst U;rfl
  subst p;unfold VC at hv;obtain⟨c',b1,rfl⟩:=hv;have i:sh≠.any:=by
   rintro rfl;cases q
  obtain⟨m,w,k⟩:=g0Y z o sh u g c' h b1 (fun e=>absurd e i);exact⟨by unfold SR;exact⟨c',m,by unfold vl;rw[w i]⟩,fun _=>by unfold AG;rfl,k⟩
 |.alt a b,v,g,c,h,hv,hl=>by
  unfold rd at h;split at h<;>try cases h
  rename_i q;rw[Bool.and_eq_true]at q;split at h
  ·split at h<;>try cases h
   rename_i ids y hr;have i:a≠.any:=by rintro rfl;cases q.1
   obtain⟨m,w,k⟩:=g0Y z o a v ⟨ids,y⟩ c hr hv (fun e=>absurd e i);exact⟨m,fun _=>w i,k⟩
  ·split at h<;>try cases h
   rename_i ids y hr;have i:b≠.any:=by rintro rfl;cases q.2
   obtain⟨m,w,k⟩:=g0Y z o b v ⟨ids,y⟩ c hr hv (fun e=>absurd e i);exact⟨m,fun _=>w i,k⟩
 |.map,v,g,c,h,hv,hl=>by
  unfold rd at h;obtain⟨h1,J,h3⟩:=E0O o h hv;exact⟨h1,fun _=>by unfold AG;exact J,h3⟩
 |.nil,v,g,c,h,hv,hl=>by
  unfold rd pk0 at h;split at h<;>try cases h
  rename_i C;rcases j0n C with⟨h1,rfl⟩|⟨h1,rfl⟩|⟨h1,rfl⟩|⟨b,h1,rfl⟩<;>cases h1
  unfold VC at hv;subst hv;exact⟨by unfold SR;exact⟨rfl,rfl⟩,fun _=>by unfold AG;rfl,W5.nil⟩
 |.nilp,v,g,c,h,hv,hl=>by
  unfold rd pk0 at h;split at h<;>try cases h
  rename_i C;rcases j0n C with⟨h1,rfl⟩|⟨h1,rfl⟩|⟨h1,rfl⟩|⟨b,h1,rfl⟩<;>cases h1
  unfold VC at hv;subst hv;exact⟨by unfold SR;exact⟨rfl,rfl⟩,fun _=>by unfold AG;rfl,W5.nil⟩
 |.nilif,v,g,c,h,hv,hl=>by
  unfold rd pk0 at h;split at h<;>try cases h
  rename_i C;rcases j0n C with⟨h1,rfl⟩|⟨h1,rfl⟩|⟨h1,rfl⟩|⟨b,h1,rfl⟩<;>cases h1
  unfold VC at hv;subst hv;exact⟨by unfold SR;exact⟨rfl,rfl⟩,fun _=>by unfold AG;rfl,W5.nil⟩
 |.kb b,v,g,c,h,hv,hl=>by
  unfold rd pk0 at h;split at h<;>try cases h
  rename_i C;rcases j0n C with⟨h1,rfl⟩|⟨h1,rfl⟩|⟨h1,rfl⟩|⟨b,h1,rfl⟩<;>cases h1
  unfold VC at hv;subst hv;exact⟨by unfold SR;exact⟨rfl,rfl⟩,fun _=>by unfold AG;rfl,W5.nil⟩
def l0H (k:Q1 E)(m:∀id,X3 E ρ n H S (E0 s id) (ρ id)):∀(cs:List Sh) (l:List (V E.D)) (d:Pk (S4 E.D cs)) (c:List Value),U7 E s cs l=some d->N0 E ρ n H S l c->(k01 cs l)->
  SRs E H S cs d.dat c (d.ids.map (place ρ))/\W5 s d.ids
 |[],[],d,c,h,hl,_=>by
  unfold U7 at h;obtain rfl:=Option.some.inj h;unfold N0 at hl;subst hl;exact⟨by unfold SRs;exact⟨rfl,rfl⟩,W5.nil⟩
 |[],_ :: _,d,c,h,hl,_=>by
  unfold U7 at h;cases h
 |x :: r,l,d,c,h,hl,hany=>by
  unfold U7 at h;split at h<;>try cases h
  rename_i v l';split at h<;>try cases h
  rename_i i a j b f g;unfold N0 at hl;obtain⟨c1,c2,rfl,h1,z⟩:=hl;obtain⟨u,_,p⟩:=g0Y k m x v ⟨i,a⟩ c1 f h1 (fun e=>h1.k0I k (hany 0 (by rw[e];rfl) v rfl));obtain⟨o,y⟩:=l0H k m r l' ⟨j,b⟩ c2 g z (fun q t w hw=>hany (q+1) (by simpa using t) w (by simpa using hw));refine⟨?_,p.app y⟩;unfold SRs;refine⟨c1,c2,_,_,rfl,m0x _ _,?_,?_⟩
  ·rw[fst_mk];exact u
  ·rw[snd_mk];exact o
def f00 (w:Q1 E)(u:∀id,X3 E ρ n H S (E0 s id) (ρ id)):∀(cs:List Sh) (l:List (V E.D)) (d:Pk (S4 E.D cs)) (us:List Value),U7 E s cs l=some d->VT E ρ n H S l us->
  I3 E H S cs d.dat us (d.ids.map (place ρ))/\W5 s d.ids
 |[],[],d,c,h,hl=>by
  unfold U7 at h;obtain rfl:=Option.some.inj h;unfold VT at hl;subst hl;exact⟨by unfold I3;exact⟨rfl,rfl⟩,W5.nil⟩
 |[],_ :: _,d,c,h,hl=>by
  unfold U7 at h;cases h
 |x :: r,l,d,us,h,hl=>by
  unfold U7 at h;split at h<;>try cases h
  rename_i v l';split at h<;>try cases h
  rename_i i a j b f t;unfold VT at hl;obtain⟨c,g,h1,rfl,C⟩:=hl;obtain⟨y,z⟩:=f00 w u r l' ⟨j,b⟩ g t C;have key:∃k,SR E H S x a k (i.map (place ρ))/\vl v c=H4 (AG E x a) k/\W5 s i:=by
   by_cases q:x=.any
   ·subst q;unfold rd at f;obtain rfl:=congrArg Pk.ids (Option.some.inj f);exact⟨[vl v c],by unfold SR;exact⟨rfl,rfl⟩,by unfold AG;rfl,W5.nil⟩
   ·obtain⟨p,m,o⟩:=g0Y w u x v ⟨i,a⟩ c f h1 (fun e=>absurd e q);exact⟨c,p,by unfold vl;rw[m q],o⟩
  obtain⟨k,p,m,o⟩:=key;refine⟨?_,o.app z⟩;unfold I3;refine⟨k,_,g,_,_,rfl,m0x _ _,?_,?_,?_⟩
  ·rw[fst_mk];exact m
  ·rw[fst_mk];exact p
  ·rw[snd_mk];exact y
end -- mutual
end
end
