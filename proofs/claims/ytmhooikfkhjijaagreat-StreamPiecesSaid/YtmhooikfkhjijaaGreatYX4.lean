/- P. Its conditions: none. -/
import Derived.Test.YtmhooikfkhjijaaGreatYX3
set_option linter.all false
namespace Go.X
open Go.V Go.RowKit
section
variable (E:Env)
def a0r:(ts:List U)->Ty (HL E.D ts)
 |[]=>G6
 |t :: ts=>J1 (J0 E t) (a0r ts)
structure Q1:Prop where
 st:∀i H S cs x,(E.ty i).R H S cs x↔(a0r E (E.fs i)).R H S cs (E.un i x)
 sz:∀i,(E.ty i).sz=(a0r E (E.fs i)).sz
 unmk:∀i h,E.un i (E.mkS i h)=h
 mix:E.P.follows .mixedOrders=true
def hd (v:Value):Value:=match v with
 |.tuple a=>a.toList.headD undef
 |v=>v
def tl (v:Value):List Value:=match v with
 |.tuple a=>a.toList.tail
 |_=>[]
def M4:List P6->Nat
 |[]=>0
 |.inl (_,o) :: p=>o+M4 p
 |.inr (i,z,_) :: p=>i.toNat*z+M4 p
def e8:List P6->Prop
 |[]=>True
 |.inl _ :: p=>e8 p
 |.inr (i,_,m) :: p=>(0<=i/\i<m)/\e8 p
def H4:Bool->List Value->Value
 |true,cs=>.agg cs.toArray
 |false,cs=>cs.headD undef
def vl {D:Nat->Type}(v:V D)(cs:List Value):Value:=H4 (C4 v) cs
section
variable (ρ:Nat->Value)(n:Nat)(H:K0)(S:D0)
mutual
def VC:V E.D->List Value->Prop
 |.undef,cs=>∃v,cs=[v]
 |.kb b,cs=>cs=[.bool b]
 |.ki k m,cs=>cs=[.int k m]
 |.d t x,cs=>(J0 E t).R H S cs x
 |.nil,cs=>cs=[.slice none 0 0]
 |.nilp,cs=>cs=[.pointer none]
 |.nilif,cs=>cs=[.nilIface]
 |.nilfn,cs=>cs=[.nilFunc]
 |.sl id,cs=>id<n/\(hd (ρ id)).oneCell'=true/\cs=[hd (ρ id)]
 |.pb id off p,cs=>id<n/\e8 p/\∃b,hd (ρ id)=.pointer (some ⟨b,0,none⟩)/\cs=[.pointer (some ⟨b,off+M4 p,none⟩)]
 |.pe id i z p,cs=>id<n/\e8 p/\∃b o m c,hd (ρ id)=.slice (some ⟨b,o,none⟩) m c/\(0<=i/\i<m)/\cs=[.pointer (some ⟨b,o+i.toNat*z+M4 p,none⟩)]
 |.pd t x,cs=>∃v,cs=[v]/\PtR (J0 E t) H S v x
 |.df t xs,cs=>∃A,cs=[.slice A xs.length xs.length]/\Sl (J0 E t) H S A xs.length xs
 |.mp id,cs=>id<n/\(hd (ρ id)).oneCell'=true/\cs=[hd (ρ id)]
 |.agg l,cs=>N0 l cs
 |.tup l,cs=>∃us,cs=[.tuple us.toArray]/\VT l us
 |.fn f l,cs=>∃us,cs=[.func (.func f) #[] us.toArray]/\VT l us
 |.ifc T v,cs=>∃c,VC v c/\cs=[.iface T (vl v c)]
def N0:List (V E.D)->List Value->Prop
 |[],cs=>cs=[]
 |v :: l,cs=>∃c1 c2,cs=c1++c2/\VC v c1/\N0 l c2
def VT:List (V E.D)->List Value->Prop
 |[],us=>us=[]
 |v :: l,us=>∃c b,VC v c/\us=vl v c :: b/\VT l b
end
def VS (v:V E.D)(u:Value):Prop:=∃c,VC E ρ n H S v c/\u=vl v c
end
variable {E}
section
variable {ρ ρ':Nat->Value}{n n':Nat}{H H':K0}{S S':D0}
mutual
def VC.mono (hρ:∀i,i<n->hd (ρ' i)=hd (ρ i))(hn:n<=n')(k:U0 H S H' S'):∀(v:V E.D) (cs:List Value),VC E ρ n H S v cs->VC E ρ' n' H' S' v cs
 |.undef,cs,h=>h
 |.kb b,cs,h=>h
 |.ki _ m,cs,h=>h
 |.d t x,cs,h=>(J0 E t).L1 k h
 |.nil,cs,h=>h
 |.nilp,cs,h=>h
 |.nilif,cs,h=>h
 |.nilfn,cs,h=>h
 |.sl id,cs,⟨h1,g,e⟩=>⟨Nat.lt_of_lt_of_le h1 hn,by rw[hρ id h1];exact g,by rw[hρ id h1];exact e⟩
 |.pb id off p,cs,⟨h1,g,b,e,j⟩=>⟨Nat.lt_of_lt_of_le h1 hn,g,b,(hρ id h1).trans e,j⟩
 |.pe id i z p,cs,⟨h1,g,b,o,m,c,e,j⟩=>⟨Nat.lt_of_lt_of_le h1 hn,g,b,o,m,c,(hρ id h1).trans e,j⟩
 |.pd t x,cs,⟨v,h1,e⟩=>⟨v,h1,e.L1 k⟩
 |.df t xs,cs,⟨A,h1,e⟩=>⟨A,h1,e.L1 k⟩
 |.mp id,cs,⟨h1,g,e⟩=>⟨Nat.lt_of_lt_of_le h1 hn,by rw[hρ id h1];exact g,by rw[hρ id h1];exact e⟩
 |.agg l,cs,h=>N0.mono hρ hn k l cs h
 |.tup l,cs,⟨us,h1,e⟩=>⟨us,h1,VT.mono hρ hn k l us e⟩
 |.fn f l,cs,⟨us,h1,e⟩=>⟨us,h1,VT.mono hρ hn k l us e⟩
 |.ifc T v,cs,⟨c,h1,e⟩=>⟨c,VC.mono hρ hn k v c h1,e⟩
def N0.mono (hρ:∀i,i<n->hd (ρ' i)=hd (ρ i))(hn:n<=n')(k:U0 H S H' S'):∀(l:List (V E.D)) (cs:List Value),N0 E ρ n H S l cs->N0 E ρ' n' H' S' l cs
 |[],cs,h=>h
 |v :: l,cs,⟨c1,c2,h,h1,b⟩=>⟨c1,c2,h,VC.mono hρ hn k v c1 h1,N0.mono hρ hn k l c2 b⟩
def VT.mono (hρ:∀i,i<n->hd (ρ' i)=hd (ρ i))(hn:n<=n')(k:U0 H S H' S'):∀(l:List (V E.D)) (cs:List Value),VT E ρ n H S l cs->VT E ρ' n' H' S' l cs
 |[],cs,h=>h
 |v :: l,cs,⟨c,u,h,h1,b⟩=>⟨c,u,VC.mono hρ hn k v c h,h1,VT.mono hρ hn k l u b⟩
end
def VS.mono (hρ:∀i,i<n->hd (ρ' i)=hd (ρ i))(hn:n<=n')(k:U0 H S H' S'){v:V E.D}{u:Value}(h:VS E ρ n H S v u):VS E ρ' n' H' S' v u:=by
 obtain⟨c,h1,b⟩:=h;exact⟨c,h1.mono hρ hn k,b⟩
def VC.len (h:Q1 E):∀{v:V E.D} {cs:List Value},VC E ρ n H S v cs->(∀l,v≠.agg l)->cs.length=sz1 E v:=by
 intro v cs c hl;cases v with
 |d t x=>exact(J0 E t).len c
 |agg l=>exact absurd rfl (hl l)
 |undef=>obtain⟨v,rfl⟩:=c;rfl
 |kb b=>unfold VC at c;subst c;rfl
 |ki k m=>unfold VC at c;subst c;rfl
 |nil=>unfold VC at c;subst c;rfl
 |nilp=>unfold VC at c;subst c;rfl
 |nilif=>unfold VC at c;subst c;rfl
 |nilfn=>unfold VC at c;subst c;rfl
 |sl id=>unfold VC at c;obtain⟨_,_,rfl⟩:=c;rfl
 |pb=>unfold VC at c;obtain⟨_,_,_,_,rfl⟩:=c;rfl
 |pe=>unfold VC at c;obtain⟨_,_,_,_,_,_,_,_,rfl⟩:=c;rfl
 |pd=>unfold VC at c;obtain⟨_,rfl,_⟩:=c;rfl
 |df=>unfold VC at c;obtain⟨_,rfl,_⟩:=c;rfl
 |mp=>unfold VC at c;obtain⟨_,_,rfl⟩:=c;rfl
 |tup=>unfold VC at c;obtain⟨_,rfl,_⟩:=c;rfl
 |fn=>unfold VC at c;obtain⟨_,rfl,_⟩:=c;rfl
 |ifc=>unfold VC at c;obtain⟨_,_,rfl⟩:=c;rfl
def N0.nil:N0 E ρ n H S [] ([]:List Value):=by unfold N0;rfl
def N0.one {v:V E.D}{cs:List Value}(h:VC E ρ n H S v cs):N0 E ρ n H S [v] cs:=by
 unfold N0;exact⟨cs,[],by simp,h,N0.nil⟩
def N0.a0p {v:V E.D}{cs:List Value}(h:N0 E ρ n H S [v] cs):VC E ρ n H S v cs:=by
 unfold N0 at h;obtain⟨c1,c2,rfl,h1,b⟩:=h;unfold N0 at b;subst b;simpa using h1
def N0.app:∀{l l':List (V E.D)} {c c':List Value},N0 E ρ n H S l c->N0 E ρ n H S l' c'->N0 E ρ n H S (l++l') (c++c')
 |[],l',c,c',h,b=>by unfold N0 at h;subst h;simpa using b
 |v :: l,l',c,c',h,b=>by
  unfold N0 at h;obtain⟨c1,c2,rfl,h1,d⟩:=h;rw[List.cons_append];unfold N0;exact⟨c1,c2++c',by simp,h1,N0.app d b⟩
def N0.j01:∀{l l':List (V E.D)} {c:List Value},N0 E ρ n H S (l++l') c->∃c1 c2,c=c1++c2/\N0 E ρ n H S l c1/\N0 E ρ n H S l' c2
 |[],l',c,h=>⟨[],c,rfl,N0.nil,h⟩
 |v :: l,l',c,h=>by
  rw[List.cons_append]at h;unfold N0 at h;obtain⟨c1,c2,rfl,h1,d⟩:=h;obtain⟨d1,d2,rfl,b,e⟩:=N0.j01 d;refine⟨c1++d1,d2,by simp,?_,e⟩;unfold N0;exact⟨c1,d1,rfl,h1,b⟩
def q0s:∀(ts:List U) (h:HL E.D ts) (cs:List Value),(a0r E ts).R H S cs h->N0 E ρ n H S (g0w ts h) cs
 |[],_,cs,h=>by unfold g0w N0;exact h
 |t :: ts,h,cs,hr=>by
  obtain⟨c1,c2,rfl,h1,b⟩:=hr;unfold g0w N0;exact⟨c1,c2,rfl,h1,q0s ts h.2 c2 b⟩
def z0H {α:Type}(d:α)(xs:List α)(j:Nat)(h:j<xs.length):@gt α ⟨d⟩ xs (j:Int)=xs[j]:=by
 simp[gt,h]
def s04 (t:U)(xs:List (Den E.D t)):∀(m j:Nat) (cs:List Value),j+m=xs.length->cs.length=m*(J0 E t).sz->
  (∀i,i<m->∀x,xs[j+i]?=some x->(J0 E t).R H S ((cs.drop (i*(J0 E t).sz)).take (J0 E t).sz) x)->N0 E ρ n H S (elts E t xs m j) cs
 |0,j,cs,_,hl,_=>by
  unfold elts;simp at hl;subst hl;exact N0.nil
 |m+1,j,cs,hj,hl,hr=>by
  unfold elts N0;have b:j<xs.length:=by omega
  have c:=hr 0 (by omega) xs[j] (by simp[b]);simp only[Nat.zero_mul,List.drop_zero]at c;refine⟨cs.take (J0 E t).sz,cs.drop (J0 E t).sz,(List.take_append_drop _ _).symm,?_,?_⟩
  ·unfold VC U6;rw[z0H _ _ _ b];exact c
  ·refine s04 t xs m (j+1) _ (by omega) (by rw[List.length_drop,hl,Nat.succ_mul];omega) fun i hi x d=>?_;have:=hr (i+1) (by omega) x (by rw[<-d];congr 1;omega);rw[List.drop_drop];rw[Nat.succ_mul,Nat.add_comm]at this;exact this
def k0Z (e:Q1 E){v:V E.D}{l:List (V E.D)}(h:g0g E v=some l){cs:List Value}(b:VC E ρ n H S v cs):N0 E ρ n H S l cs:=by
 cases v<;>simp only[g0g]at h<;>try cases h
 rename_i t x;cases t<;>simp only[g0g]at h<;>try cases h
 ·rename_i i;exact q0s _ _ _ ((e.st i H S cs x).1 b)
 ·rename_i m t;obtain⟨h1,d⟩:=b;refine s04 t x m 0 cs (by omega) (by rw[d.1,h1]) fun i hi y c=>?_;rw[Nat.zero_add]at c;exact d.2 i y c
def b0g (d:Q1 E):∀(k off:Nat) (l a b:List (V E.D)),F8 E k off l=some (a,b)->∀cs,N0 E ρ n H S l cs->∃c1 c2,cs=c1++c2/\c1.length=off/\N0 E ρ n H S a c1/\N0 E ρ n H S b c2
 |0,_,_,_,_,h=>by simp[F8]at h
 |k+1,0,l,a,b,h=>by
  intro cs c;simp only[F8,Option.some.injEq,Prod.mk.injEq]at h;obtain⟨rfl,rfl⟩:=h;exact⟨[],cs,rfl,rfl,N0.nil,c⟩
 |k+1,off+1,[],a,b,h=>by simp[F8]at h
 |k+1,off+1,v :: r,a,b,h=>by
  intro cs c;unfold N0 at c;obtain⟨c1,c2,rfl,h1,f⟩:=c;simp only[F8]at h;split at h
  ·rename_i l hl;have e:v=.agg l:=by cases v<;>simp[e0W]at hl;subst hl;rfl
   subst e;unfold VC at h1;exact b0g d k _ _ a b h _ (h1.app f)
  ·rename_i hl;have e:∀l,v≠.agg l:=by rintro l rfl;simp[e0W]at hl
   have hlen:=h1.len d e;split at h
   ·rename_i hle;rw[Nat.ble_eq]at hle;split at h
    ·rename_i j b' g;simp only[Option.some.injEq,Prod.mk.injEq]at h;obtain⟨rfl,rfl⟩:=h;obtain⟨d1,d2,rfl,hd,ha,i⟩:=b0g d k _ r j b' g c2 f;refine⟨c1++d1,d2,by simp,by rw[List.length_append];omega,?_,i⟩;unfold N0;exact⟨c1,d1,rfl,h1,ha⟩
    ·cases h
   ·split at h
    ·rename_i l he;exact b0g d k _ _ a b h _ ((k0Z d he h1).app f)
    ·cases h
def g0e (g:Q1 E){off m:Nat}{l a b c:List (V E.D)}(h:Q9 E off m l=some (a,b,c)){cs:List Value}(e:N0 E ρ n H S l cs):
  ∃c1 c2 c3,cs=c1++(c2++c3)/\c1.length=off/\c2.length=m/\N0 E ρ n H S a c1/\N0 E ρ n H S b c2/\N0 E ρ n H S c c3:=by
 unfold Q9 at h;split at h
 ·rename_i p b' h1;split at h
  ·rename_i o c' k;simp only[Option.some.injEq,Prod.mk.injEq]at h;obtain⟨rfl,rfl,rfl⟩:=h;obtain⟨c1,d,rfl,hl,ha,hd⟩:=b0g g _ _ _ _ _ h1 cs e;obtain⟨c2,c3,rfl,f,j,i⟩:=b0g g _ _ _ _ _ k d hd;exact⟨c1,c2,c3,rfl,hl,f,ha,j,i⟩
  ·cases h
 ·cases h
def f0Y (c:Q1 E){ag:Bool}{m:List (V E.D)}{v:V E.D}(h:asV E ag m=some v){cs:List Value}(b:N0 E ρ n H S m cs):VC E ρ n H S v cs/\C4 v=ag:=by
 unfold asV at h;split at h
 ·split at h
  ·rename_i u;split at h
   ·rename_i ha;simp only[Option.some.injEq]at h;subst h;exact⟨b.a0p,ha⟩
   ·simp only[Option.some.injEq]at h;subst h;unfold VC;exact⟨b,rfl⟩
  ·simp only[Option.some.injEq]at h;subst h;unfold VC;exact⟨b,rfl⟩
 ·split at h
  ·rename_i u;split at h
   ·rename_i ha;simp only[Option.some.injEq]at h;subst h;exact⟨b.a0p,ha⟩
   ·split at h
    ·rename_i w he;split at h
     ·rename_i ha;simp only[Option.some.injEq]at h;subst h;exact⟨(k0Z c he b.a0p).a0p,ha⟩
     ·cases h
    ·cases h
  ·cases h
end
def D1:Value->Option Nat
 |.pointer (some a)=>some a.block
 |.slice (some a) _ (_+1)=>some a.block
 |.map r=>r
 |_=>none
def Bk (v:Value)(k:Nat):Prop:=match v with
 |.tuple a=>∃u∈a.toList,D1 u=some k
 |v=>D1 v=some k
def D7:Value:=.slice none 0 0
def e0I {a:Addr}{m c:Nat}(h:0<c):D1 (.slice (some a) m c)=some a.block:=by
 cases c with
 |zero=>exact absurd h (by simp)
 |succ c=>rfl
def d0M {a:Addr}{m c k:Nat}(h:D1 (.slice (some a) m c)=some k):0<c/\a.block=k:=by
 cases c with
 |zero=>cases h
 |succ c=>cases h;exact⟨Nat.succ_pos _,rfl⟩
def Row (H:K0)(e:TypeId)(sz:Nat)(v:Value)(n:Nat)(cs:List Value):Prop:=
 cs.length=n*sz/\((n=0/\∃a,v=.slice a 0 0)\/
  ∃g cap cur,v=.slice (some ⟨g,0,none⟩) n cap/\0<cap/\H[g]?=some (.cells cur e (0,0))/\n<=cap/\cap<=maxLen/\cur.size=cap*sz/\cur.toList.take (n*sz)=cs)
def Row.ofV {H:K0}{e sz n:Nat}{v:Value}{cs:List Value}(h:Go.V.Row H e sz v n cs):Row H e sz v n cs:=by
 obtain⟨b,⟨h1,f⟩|⟨g,cap,cur,d,r⟩⟩:=h
 ·exact⟨b,.inl ⟨f,none,h1⟩⟩
 ·cases cap with
  |zero=>
   have hn:n=0:=by have:=r.2.1;omega
   subst hn;exact⟨b,.inl ⟨rfl,_,d⟩⟩
  |succ c=>exact⟨b,.inr ⟨g,_,cur,d,Nat.succ_pos _,r⟩⟩
def Row.of {w:World}{B:Nat}{e:TypeId}{sz:Nat}{v:Value}{n:Nat}{cs:List Value}(h:w.ownsRow B e sz v n cs):Row w.heap e sz v n cs:=Row.ofV (Go.V.Row.of h)
def S5 (E:Env)(H:K0)(S:D0)(e:Nat)(u:U)(xs:List (Den E.D u))(v:Value):Prop:=∃cs,Row H e (J0 E u).sz v xs.length cs/\U1 (J0 E u) H S cs xs
def f0H (pl:List Value):Prop:=∀(i j:Nat) (v b:Value),i≠j->pl[i]?=some v->pl[j]?=some b->∀k,D1 v=some k->D1 b≠some k
def rowAt (F:List Nat)(i:Nat)(f:Nat):Nat:=i*F.length+f
def d0A (F:List Nat)(o:Option (Int×Nat))(cs:List Value):List Value:=match o with
 |none=>cs
 |some (i,f)=>cs.set (rowAt F i.toNat f) D7
structure H8 (E:Env)(H:K0)(S:D0)(e:Nat)(F:List Nat)(t:U)(xs:List (Den E.D t))(o:Option (Int×Nat))(v:Value)(cs:List Value):Prop where
 row:Row H e (J0 E t).sz (hd v) xs.length cs
 tl:tl v=d0A F o cs
 ok:l9 E t F=true
 bd:∀j g,o=some (j,g)->0<=j/\g<F.length
 rows:∀(i:Nat) (x:Den E.D t) (f:Nat) (u:U) (ys:List (Den E.D u)) (e':Nat),xs[i]?=some x->V3 E t x f=some ⟨u,ys⟩->F[f]?=some e'->o≠some ((i:Int),f)->∃r,cs[rowAt F i f]?=some r/\S5 E H S e' u ys r
 one:∀u∈cs,u.oneCell'=true
 ap:f0H (hd v :: Go.X.tl v)
def X3 (E:Env)(ρ:Nat->Value)(n:Nat)(H:K0)(S:D0)(x:Th E.D)(v:Value):Prop:=match x with
 |.gone=>True
 |.box T l=>∃b cs,v=.pointer (some ⟨b,0,none⟩)/\H[b]?=some (.cells cs.toArray T (0,0))/\N0 E ρ n H S l cs/\∀u∈cs,u.oneCell'=true
 |.fzb T l=>∃b cs,v=.pointer (some ⟨b,0,none⟩)/\H[b]?=some (.cells cs.toArray T (0,0))/\N0 E ρ n H S l cs/\(∀u∈cs,u.oneCell'=true)/\¬S b
 |.lst e t xs=>∃cs,Row H e (J0 E t).sz v xs.length cs/\U1 (J0 E t) H S cs xs
 |.fz t xs=>∃A c,hd v=.slice A xs.length c/\Sl (J0 E t) H S A c xs
 |.map m=>∃r es cl,v=.map (some r)/\H[r]?=some (.map es cl)/\es.toList.map (fun e=>(e.key,e.val))=m.map (fun p=>(Value.int .i64 p.1,Value.int .i64 p.2))
 |.B1 e F t xs o=>∃cs,H8 E H S e F t xs o v cs
 |.rof q _ _=>q<n/\v.oneCell'=true/\hd v=v
def b0W (H:K0)(v:Value)(n:Nat)(i:Int)(f:Nat)(r:Value):Prop:=∃b o m c,v=.slice (some ⟨b,o,none⟩) m c/\(0<=i/\i<m)/\f<n/\U2 H b (o+(i.toNat*n+f))=some r
structure O4 where
 w0:World
 W0:D0
 S0:D0
 anc:K0->D0->Prop:=fun _ _=>False
 hda:Nat->Value->Prop:=fun _ _=>False
structure b0x (E:Env)(ρ:Nat->Value)(m:Nat)(H:K0)(S:D0)(n:Nat)(fr:Fr E.D)(a:Act):Prop where
 size:a.tmps.size=n
 defers:a.defers=[]
 slot:∀t v,Q4 fr t=some v->VS E ρ m H S v (a.tmps.getD t undef)
def O9 (E:Env)(ρ:Nat->Value)(m:Nat)(H:K0)(S:D0):List (Nat×Fr E.D)->List Act->Prop
 |[],[]=>True
 |p :: l,a :: as=>b0x E ρ m H S p.1 p.2 a/\O9 E ρ m H S l as
 |_,_=>False
structure Rp (E:Env)(A:O4)(s:St E.D)(ρ:Nat->Value)(S:D0)(a:Act)(as:List Act)(w:World):Prop where
 cx:Cx A.w0 A.W0 A.S0 w S
 fr:b0x E ρ s.nid w.heap S s.n s.fr a
 stk:O9 E ρ s.nid w.heap S s.stk as
 th:∀id,X3 E ρ s.nid w.heap S (E0 s id) (ρ id)
 ow:∀id,P1 (E0 s id)=true->∀k,Bk (ρ id) k->S k/\¬A.S0 k/\Wr A.W0 A.w0 k
 dj:∀i j,i≠j->P1 (E0 s i)=true->P1 (E0 s j)=true->∀k,Bk (ρ i) k->¬Bk (ρ j) k
 lt:∀id,s.nid<=id->E0 s id=.gone
 rf:∀r q i f,E0 s r=.rof q i f->∀e F t xs,E0 s q=.B1 e F t xs none->b0W w.heap (hd (ρ q)) F.length i f (ρ r)
 kp:∀H1 S1,A.anc H1 S1->U0 H1 S1 w.heap S
 hp:∀i u,A.hda i u->i<s.nid/\hd (ρ i)=u
section
variable {A:O4}{s s1:St E.D}{ρ ρ1:Nat->Value}{S S1:D0}{a:Act}{as:List Act}{w w1:World}
def b0x.mono {m b:Nat}{H H':K0}{n:Nat}{fr:Fr E.D}(hρ:∀i,i<m->hd (ρ1 i)=hd (ρ i))(hn:m<=b)(k:U0 H S H' S1)(h:b0x E ρ m H S n fr a):b0x E ρ1 b H' S1 n fr a:=
 ⟨h.size,h.defers,fun t v c=>(h.slot t v c).mono hρ hn k⟩
def O9.mono {m b:Nat}{H H':K0}(hρ:∀i,i<m->hd (ρ1 i)=hd (ρ i))(hn:m<=b)(k:U0 H S H' S1):∀{l:List (Nat×Fr E.D)} {as:List Act},O9 E ρ m H S l as->O9 E ρ1 b H' S1 l as
 |[],[],h=>h
 |[],_ :: _,h=>h
 |_ :: _,[],h=>h
 |p :: l,a :: as,⟨h1,c⟩=>⟨h1.mono hρ hn k,O9.mono hρ hn k c⟩
def S5.mono {H H':K0}{e:Nat}{u:U}{xs:List (Den E.D u)}{v:Value}(k:U0 H S H' S1)(d:∀b,D1 v=some b->H'[b]?=H[b]?)(h:S5 E H S e u xs v):S5 E H' S1 e u xs v:=by
 obtain⟨cs,⟨f,h1⟩,c⟩:=h;refine⟨cs,⟨f,?_⟩,c.L1 k⟩;rcases h1 with h1|⟨g,cap,cur,rfl,hp,hg,r⟩
 ·exact .inl h1
 ·exact .inr ⟨g,cap,cur,rfl,hp,(d g (e0I hp)).trans hg,r⟩
def Row.mono {H H':K0}{e n m:Nat}{v:Value}{cs:List Value}(c:∀b,D1 v=some b->H'[b]?=H[b]?)(h:Row H e n v m cs):Row H' e n v m cs:=by
 obtain⟨d,h1⟩:=h;refine⟨d,?_⟩;rcases h1 with h1|⟨g,cap,cur,rfl,hp,hg,r⟩
 ·exact .inl h1
 ·exact .inr ⟨g,cap,cur,rfl,hp,(c g (e0I hp)).trans hg,r⟩
def Row.form {H:K0}{e n m:Nat}{v:Value}{cs:List Value}(h:Row H e n v m cs):∃a c,v=.slice a m c:=by
 rcases h.2 with⟨rfl,a,rfl⟩|⟨g,cap,cur,rfl,_⟩<;>exact⟨_,_,rfl⟩
def Row.live {H:K0}{e n m:Nat}{v:Value}{cs:List Value}(h:Row H e n v m cs):∀b,D1 v=some b->b<H.size:=by
 intro k hk;rcases h.2 with⟨rfl,a,rfl⟩|⟨g,cap,cur,rfl,hp,hg,r⟩
 ·cases a<;>cases hk
 ·obtain⟨_,rfl⟩:=d0M hk;exact getElem?_lt hg
def Row.cap {H:K0}{e n m c:Nat}{a:Option Addr}{k:Nat}{cs:List Value}(h:Row H e n (.slice a m c) k cs):m=k/\k<=c:=by
 rcases h.2 with⟨rfl,a,h1⟩|⟨g,cap,cur,h1,hp,hg,r,_⟩
 ·cases h1;exact⟨rfl,Nat.le_refl _⟩
 ·cases h1;exact⟨rfl,r⟩
def Row.g0C {H:K0}{e n m c:Nat}{a:Addr}{k:Nat}{cs:List Value}(h:Row H e n (.slice (some a) m c) k cs)(hm:0<m):D1 (.slice (some a) m c)=some a.block:=e0I (by have:=h.cap;omega)
def c0Y {v:Value}{k:Nat}:Bk v k↔D1 (hd v)=some k\/∃u∈tl v,D1 u=some k:=by
 cases v with
 |tuple a=>
  obtain⟨l⟩:=a;cases l with
  |nil=>
       constructor
       ·rintro⟨u,hu,_⟩;cases hu
       ·rintro(h|⟨u,hu,_⟩)
        ·cases h
        ·cases hu
  |cons x l=>
   show(∃u∈x :: l,D1 u=some k)↔D1 x=some k\/∃u∈l,D1 u=some k;simp
 |_=>exact⟨.inl,fun h=>h.elim id fun⟨_,h,_⟩=>by cases h⟩
def Bk.hd {v:Value}{k:Nat}(h:D1 (Go.X.hd v)=some k):Bk v k:=c0Y.2 (.inl h)
def Bk.tl {v u:Value}{k:Nat}(hu:u∈Go.X.tl v)(h:D1 u=some k):Bk v k:=c0Y.2 (.inr ⟨u,hu,h⟩)
def d0I {F:List Nat}{o:Option (Int×Nat)}{cs:List Value}{i:Nat}{f:Nat}{r:Value}(b:f<F.length)(c:∀j g,o=some (j,g)->0<=j/\g<F.length)(h:cs[rowAt F i f]?=some r)(hn:o≠some ((i:Int),f)):(d0A F o cs)[rowAt F i f]?=some r:=by
 unfold d0A;split
 ·exact h
 ·rename_i j g;obtain⟨k,hg⟩:=c j g rfl;rw[List.getElem?_set_ne]
  ·exact h
  ·intro e;unfold rowAt at e;have h1:j.toNat=i/\g=f:=by
    have hp:0<F.length:=by omega
    have d:=congrArg (· / F.length) e;have a2:=congrArg (· % F.length) e;simp only[Nat.mul_comm _ F.length,Nat.mul_add_div hp,Nat.mul_add_mod,Nat.div_eq_of_lt hg,Nat.div_eq_of_lt b,Nat.mod_eq_of_lt hg,Nat.mod_eq_of_lt b]at d a2;omega
   exact hn (by
          rw[<-h1.2];have:((i:Nat):Int)=j:=by omega
          rw[this])
def X3.mono {m C:Nat}{H H':K0}{x:Th E.D}{v:Value}(hρ:∀i,i<m->hd (ρ1 i)=hd (ρ i))(hn:m<=C)(k:U0 H S H' S1)(p:P1 x=true->∀b,Bk v b->H'[b]?=H[b]?)(h:X3 E ρ m H S x v):X3 E ρ1 C H' S1 x v:=by
 cases x with
 |gone=>trivial
 |box T l=>
  obtain⟨b,cs,rfl,h1,g,j⟩:=h;exact⟨b,cs,rfl,(p rfl b rfl).trans h1,g.mono hρ hn k,j⟩
 |fzb T l=>
  obtain⟨b,cs,rfl,h1,g,j,y⟩:=h;obtain⟨U,J⟩:=k.blk b (getElem?_lt h1) y;exact⟨b,cs,rfl,J.trans h1,g.mono hρ hn k,j,U⟩
 |lst e t xs=>
  obtain⟨cs,h1,g⟩:=h;obtain⟨_,_,rfl⟩:=Row.form h1;exact⟨cs,Row.mono (fun b d=>p rfl b d) h1,g.L1 k⟩
 |fz t xs=>
  obtain⟨A,c,e,h⟩:=h;exact⟨A,c,e,h.L1 k⟩
 |map m=>
  obtain⟨r,es,cl,rfl,h1,g⟩:=h;exact⟨r,es,cl,rfl,(p rfl r rfl).trans h1,g⟩
 |B1 e F t xs o=>
  obtain⟨cs,h⟩:=h;refine⟨cs,Row.mono (fun b d=>p rfl b (Bk.hd d)) h.row,h.tl,h.ok,h.bd,fun i x f u ys e' h1 g j y=>?_,h.one,h.ap⟩;obtain⟨r,z,R⟩:=h.rows i x f u ys e' h1 g j y;refine⟨r,z,R.mono k fun b d=>p rfl b ?_⟩;have I:=d0I (List.getElem?_eq_some_iff.1 j).1 h.bd z y;rw[<-h.tl]at I;exact Bk.tl (List.mem_of_getElem? I) d
 |rof q i f=>exact⟨Nat.lt_of_lt_of_le h.1 hn,h.2⟩
def q02 {D:Nat->Type}:∀{l:List U} (h:HL D l) {f:Nat},b0v l=true->f<l.length->∃u y,N5 l h f=some ⟨.list u,y⟩
 |[],_,f,_,b=>by simp at b
 |t :: l,h,0,hb,_=>by
  simp only[b0v,Bool.and_eq_true]at hb;cases t<;>first|(exact⟨_,_,rfl⟩)|(exact absurd hb.1 (by simp[g02]))
 |t :: l,h,f+1,hb,b=>by
  simp only[b0v,Bool.and_eq_true]at hb;exact q02 (l:=l) h.2 hb.2 (by simpa using b)
def d0v {t:U}{F:List Nat}(h:l9 E t F=true):(J0 E t).sz=F.length/\∀(x:Den E.D t) f,f<F.length->∃u ys,V3 E t x f=some ⟨u,ys⟩:=by
 simp only[l9,Bool.and_eq_true,Nat.beq_eq]at h;obtain⟨⟨h1,d⟩,c⟩:=h;refine⟨h1,fun x f b=>?_⟩;cases t<;>simp only at c<;>try cases c
 ·rw[d]at b;have:f=0:=by simp[l0d]at b;exact b
  subst this;exact⟨_,_,rfl⟩
 ·rename_i k;rw[d]at b;obtain⟨u,y,e⟩:=q02 (E.un k x) c b;exact⟨u,y,show c0v _=_ by rw[e];rfl⟩
def H8.sz {H:K0}{e:Nat}{F:List Nat}{t:U}{xs:List (Den E.D t)}{o:Option (Int×Nat)}{v:Value}{cs:List Value}(h:H8 E H S e F t xs o v cs):cs.length=xs.length*F.length:=by
 rw[h.row.1,(d0v h.ok).1]
def H8.at {H:K0}{e:Nat}{F:List Nat}{t:U}{xs:List (Den E.D t)}{o:Option (Int×Nat)}{v:Value}{cs:List Value}(h:H8 E H S e F t xs o v cs){p:Nat}{u:Value}(hp:(Go.X.tl v)[p]?=some u):u=D7\/∃i f x w ys e',p=rowAt F i f/\f<F.length/\xs[i]?=some x/\V3 E t x f=some ⟨w,ys⟩/\F[f]?=some e'/\o≠some ((i:Int),f)/\cs[p]?=some u/\S5 E H S e' w ys u:=by
 rw[h.tl]at hp;have hlen:(d0A F o cs).length=cs.length:=by unfold d0A;split<;>simp
 have b:p<xs.length*F.length:=by rw[<-h.sz,<-hlen];exact(List.getElem?_eq_some_iff.1 hp).1
 have hn:0<F.length:=by
  rcases Nat.eq_zero_or_pos F.length with e|e
  ·rw[e]at b;omega
  ·exact e
 have hi:p / F.length<xs.length:=(Nat.div_lt_iff_lt_mul hn).2 b;have d:=Nat.mod_lt p hn;have c:p=rowAt F (p / F.length) (p % F.length):=by
  unfold rowAt;rw[Nat.mul_comm];exact(Nat.div_add_mod p F.length).symm
 by_cases g:o=some (((p / F.length:Nat):Int),p % F.length)
 ·left;subst g;simp only[d0A,Int.toNat_natCast]at hp;rw[<-c]at hp;rw[List.getElem?_set_self (by rw[h.sz];exact b)]at hp;exact(Option.some.inj hp).symm
 ·right;have l:p<cs.length:=by rw[h.sz];exact b
  obtain⟨w,ys,k⟩:=(d0v h.ok).2 xs[p / F.length] _ d;obtain⟨r,h1,m⟩:=h.rows (p / F.length) _ (p % F.length) w ys _ (List.getElem?_eq_getElem hi) k (List.getElem?_eq_getElem d) g;have j:=d0I d h.bd h1 g;rw[<-c]at h1 j;rw[hp]at j;obtain rfl:=Option.some.inj j;exact⟨_,_,_,w,ys,_,c,d,List.getElem?_eq_getElem hi,k,List.getElem?_eq_getElem d,g,h1,m⟩
def H8.live {H:K0}{e:Nat}{F:List Nat}{t:U}{xs:List (Den E.D t)}{o:Option (Int×Nat)}{v:Value}{cs:List Value}(h:H8 E H S e F t xs o v cs):∀b,Bk v b->b<H.size:=by
 intro b c;rcases c0Y.1 c with c|⟨u,hu,c⟩
 ·exact Row.live h.row b c
 ·obtain⟨p,hp⟩:=List.getElem?_of_mem hu;rcases h.at hp with rfl|⟨_,_,_,_,_,_,_,_,_,_,_,_,_,cs',h2,_⟩
  ·cases c
  ·exact Row.live h2 b c
def X3.live {m:Nat}{H:K0}{x:Th E.D}{v:Value}(h:X3 E ρ m H S x v)(c:P1 x=true):∀b,Bk v b->b<H.size:=by
 cases x with
 |gone=>cases c
 |box T l=>obtain⟨b,cs,rfl,h1,_⟩:=h;intro k hk;cases hk;exact getElem?_lt h1
 |fzb T l=>cases c
 |lst e t xs=>
  obtain⟨cs,h1,d⟩:=h;intro k hk;obtain⟨_,_,rfl⟩:=Row.form h1;exact Row.live h1 k hk
 |fz t xs=>cases c
 |map m=>obtain⟨r,es,cl,rfl,h1,d⟩:=h;intro k hk;cases hk;exact getElem?_lt h1
 |B1 e F t xs o=>
  obtain⟨cs,h⟩:=h;exact h.live
 |rof q i f=>cases c
def a0q {α:Type}(k t:Nat)(v:α)(l:List (Nat×α)):Q4 ((k,v) :: l) t=if k=t then some v else Q4 l t:=by
 simp only[Q4]
 by_cases h:k=t
 ·subst h;simp
 ·rw[if_neg h];have:Nat.beq k t=false:=by rw[<-Bool.not_eq_true,Nat.beq_eq];exact h
  rw[this]
def G8 (s:St E.D)(id j:Nat)(x:Th E.D):E0 (s.at id x) j=if id=j then x else E0 s j:=by
 unfold E0 St.at;simp only[a0q]
 by_cases h:id=j<;>simp[h]
def k0c (s:St E.D)(j:Nat)(x:Th E.D):E0 (s.new x) j=if s.nid=j then x else E0 s j:=by
 unfold E0 St.new;simp only[a0q]
 by_cases h:s.nid=j<;>simp[h]
structure z0z (A:O4)(s:St E.D)(ρ ρ1:Nat->Value)(S S1:D0)(w w1:World)(nid1:Nat):Prop where
 cx:Cx A.w0 A.W0 A.S0 w1 S1
 kp:U0 w.heap S w1.heap S1
 hρ:∀i,i<s.nid->hd (ρ1 i)=hd (ρ i)
 hn:s.nid<=nid1
def b0o (s s1:St E.D)(ρ ρ1:Nat->Value)(S1:D0)(w w1:World)(id:Nat):Prop:=
 E0 s1 id=E0 s id/\id<s.nid/\ρ1 id=ρ id/\(P1 (E0 s id)=true->∀k,Bk (ρ id) k->w1.heap[k]?=w.heap[k]?/\S1 k)
def Rp.step (h:Rp E A s ρ S a as w){nid1:Nat}{th1:List (Nat×Th E.D)}(p:z0z A s ρ ρ1 S S1 w w1 nid1)
  (d:∀id,b0o s { s with th:=th1,nid:=nid1 } ρ ρ1 S1 w w1 id\/
   (X3 E ρ1 nid1 w1.heap S1 (E0 { s with th:=th1,nid:=nid1 } id) (ρ1 id)/\(P1 (E0 { s with th:=th1,nid:=nid1 } id)=true->∀k,Bk (ρ1 id) k->(S1 k/\¬A.S0 k/\Wr A.W0 A.w0 k)/\
    ∀j,j≠id->P1 (E0 { s with th:=th1,nid:=nid1 } j)=true->¬Bk (ρ1 j) k)/\(nid1<=id->E0 { s with th:=th1,nid:=nid1 } id=.gone)))
  (a1:∀r q i f,E0 { s with th:=th1,nid:=nid1 } r=.rof q i f->∀e F t xs,E0 { s with th:=th1,nid:=nid1 } q=.B1 e F t xs none->
   (b0o s { s with th:=th1,nid:=nid1 } ρ ρ1 S1 w w1 r/\b0o s { s with th:=th1,nid:=nid1 } ρ ρ1 S1 w w1 q)\/b0W w1.heap (hd (ρ1 q)) F.length i f (ρ1 r)):
  Rp E A { s with th:=th1,nid:=nid1 } ρ1 S1 a as w1:=by
 refine⟨p.cx,h.fr.mono p.hρ p.hn p.kp,h.stk.mono p.hρ p.hn p.kp,fun id=>?_,fun id y k hk=>?_,fun i j v hi U k hk g=>?_,fun id l=>?_,fun r q i f hr e F t xs I=>?_,fun H1 S1 ha=>(h.kp H1 S1 ha).trans p.kp,fun i u ha=>⟨Nat.lt_of_lt_of_le (h.hp i u ha).1 p.hn,(p.hρ i (h.hp i u ha).1).trans (h.hp i u ha).2⟩⟩
 ·rcases d id with⟨e,x,z,J⟩|⟨h1,_⟩
  ·rw[e,z];exact(h.th id).mono p.hρ p.hn p.kp (fun y b b1=>(J y b b1).1)
  ·exact h1
 ·rcases d id with⟨e,x,z,J⟩|⟨_,C,_⟩
  ·rw[e]at y;rw[z]at hk;exact⟨(J y k hk).2,(h.ow id y k hk).2⟩
  ·exact(C y k hk).1
 ·rcases d i with⟨e,x,z,J⟩|⟨_,C,_⟩
  ·rcases d j with⟨e',b3,b2,b4⟩|⟨_,h2',_⟩
   ·rw[e]at hi;rw[e']at U;rw[z]at hk;rw[b2]at g;exact h.dj i j v hi U k hk g
   ·exact(h2' U k g).2 i v hi hk
  ·exact(C hi k hk).2 j (Ne.symm v) U g
 ·rcases d id with⟨e,x,_,J⟩|⟨_,_,h3⟩
  ·have:=p.hn;have l:nid1<=id:=l;omega
  ·exact h3 l
 ·rcases a1 r q i f hr e F t xs I with⟨⟨r1,_,r2,_⟩,⟨q1,_,q2,q3⟩⟩|h1
  ·rw[r1]at hr;rw[q1]at I;obtain⟨b,o,m,c,h1,C,h3,h4⟩:=h.rf r q i f hr e F t xs I;refine⟨b,o,m,c,by rw[q2];exact h1,C,h3,?_⟩;have:=(q3 (by rw[I];rfl) b (Bk.hd (by
    have R:=h.th q;rw[I]at R;obtain⟨cs,R⟩:=R;have:=R.row;rw[h1]at this ⊢;exact this.g0C (by omega)))).1
   rw[r2,<-h4];unfold U2;rw[this]
  ·exact h1
theorem Rp.put (h:Rp E A s ρ S a as w) {d:Option Nat} {v:V E.D} {u:Value} (hd:b0M s.n ⟨d,.alloc 0,0,"",#[],none⟩=true) (hv:VS E ρ s.nid w.heap S v u):Rp E A (s.put d v) ρ S (a.put d u) as w:=by
 cases d with
 |none=>exact h
 |some t=>
  have ht:t<s.n:=by simpa[b0M,Nat.blt_eq]using hd
  refine⟨h.cx,⟨by simp[Act.put,h.fr.size,St.put],by simp[Act.put,h.fr.defers],fun t' v' hl=>?_⟩,h.stk,h.th,h.ow,h.dj,h.lt,h.rf,h.kp,h.hp⟩;simp only[St.put,a0q]at hl;simp only[Act.put]
  by_cases e:t=t'
  ·subst e;simp only[if_true,Option.some.injEq]at hl;subst hl;have:(a.tmps.setIfInBounds t u).getD t undef=u:=by
    have hs:=h.fr.size;have hlt:t<a.tmps.size:=by omega
    simp[Array.getD,hlt]
   rw[this];exact hv
  ·rw[if_neg e]at hl;have:(a.tmps.setIfInBounds t u).getD t' undef=a.tmps.getD t' undef:=by
    simp only[Array.getD_eq_getD_getElem?];rw[Array.getElem?_setIfInBounds_ne e]
   rw[this];exact h.fr.slot t' v' hl
def Rp.get (h:Rp E A s ρ S a as w){t:Nat}{v:V E.D}(b:Q4 s.fr t=some v):VS E ρ s.nid w.heap S v (a.tmps.getD t undef):=h.fr.slot t v b
def VS.undef {m:Nat}{H:K0}(u:Value):VS E ρ m H S .undef u:=⟨[u],by unfold VC;exact⟨u,rfl⟩,rfl⟩
def Rp.val (h:Rp E A s ρ S a as w)(x:Operand):VS E ρ s.nid w.heap S (T1 E s x) (a.eval x):=by
 cases x with
 |tmp t=>
  show VS E ρ s.nid w.heap S (match Q4 s.fr t with|some v=>v|none=>.undef) (a.tmps.getD t Go.undef);cases b:Q4 s.fr t with
  |some v=>exact h.get b
  |none=>exact VS.undef _
 |const v=>
  show VS E ρ s.nid w.heap S (a8 v) v;unfold a8;split<;>first|exact⟨[_],by unfold VC;rfl,rfl⟩|exact VS.undef _
 |global g=>exact VS.undef _
 |func f=>exact⟨[.func (.func f) #[] #[]],by unfold T1 VC VT;exact⟨[],rfl,rfl⟩,rfl⟩
def M6 (ρ:Nat->Value)(i:Nat)(v:Value):Nat->Value:=fun j=>if j=i then v else ρ j
def I5 {i:Nat}{v:Value}:M6 ρ i v i=v:=by simp[M6]
def G5 {i j:Nat}{v:Value}(h:j≠i):M6 ρ i v j=ρ j:=by simp[M6,h]
def Rp.F7 (h:Rp E A s ρ S a as w){id:Nat}(hn:E0 s id≠.gone):id<s.nid:=by
 rcases Nat.lt_or_ge id s.nid with h1|h1
 ·exact h1
 ·exact absurd (h.lt id h1) hn
def Rp.b0T (h:Rp E A s ρ S a as w){r q f:Nat}{i:Int}(b:E0 s r=.rof q i f):q<s.nid:=by
 have:=h.th r;rw[b]at this;exact this.1
def Rp.new (h:Rp E A s ρ S a as w){x:Th E.D}{v:Value}(u:Below w.heap.size w w1)(hv:∀k,Bk v k->w.heap.size<=k/\k<w1.heap.size)
  (hx:∀S1,U0 w.heap S w1.heap S1->(∀k,Bk v k->P1 x=true->S1 k)->(∀k,S1 k->(P1 x=true/\Bk v k)\/S k)->X3 E (M6 ρ s.nid v) (s.nid+1) w1.heap S1 x v) (R:∀q i f,x≠.rof q i f:=by intros;simp):
  ∃S1,U0 w.heap S w1.heap S1/\Rp E A (s.new x) (M6 ρ s.nid v) S1 a as w1:=by
 have hk:U0 w.heap S w1.heap (fun k=>(P1 x=true/\Bk v k)\/S k):=⟨u.size,fun b z hn=>⟨fun hh=>hh.elim (fun C=>by have:=(hv b C.2).1;omega) hn,u.block b z⟩⟩
 have p:=h.cx.ext u;have hl:∀j,E0 { s with th:=(s.nid,x) :: s.th,nid:=s.nid+1 } j=if s.nid=j then x else E0 s j:=fun j=>k0c s j x;have d:∀j,j<s.nid->b0o s { s with th:=(s.nid,x) :: s.th,nid:=s.nid+1 } ρ (M6 ρ s.nid v) (fun k=>(P1 x=true/\Bk v k)\/S k) w w1 j:=fun j y=>
  ⟨by rw[hl,if_neg (by omega)],y,G5 (by omega),fun g k c=>⟨u.block k ((h.th j).live g k c),.inr (h.ow j g k c).1⟩⟩
 refine⟨_,hk,h.step (nid1:=s.nid+1) (th1:=(s.nid,x) :: s.th) ⟨p.more (fun _ h=>.inr h) (fun b J=>J.elim (fun C=>(hv b C.2).2) (p.lt b)),hk,fun i hi=>by rw[G5 (by omega)],by omega⟩ (fun id=>?_) fun r q i f o e F t xs hq=>.inl ?_⟩
 ·by_cases e:s.nid=id
  ·subst e;refine .inr ⟨?_,fun g k c=>?_,fun hle=>by omega⟩
   ·rw[hl,if_pos rfl,I5];exact hx _ hk (fun k c g=>.inl ⟨g,c⟩) (fun k c=>c)
   ·rw[hl,if_pos rfl]at g;rw[I5]at c;have a1:=hv k c;refine⟨⟨.inl ⟨g,c⟩,fun h0=>by have:=h.cx.lt0 k h0;have:=h.cx.size;omega,.inr (by have:=h.cx.size;omega)⟩,fun j y l m=>?_⟩;rw[hl,if_neg (fun e=>y e.symm)]at l;rw[G5 y]at m;have:=(h.th j).live l k m;omega
  ·by_cases U:id<s.nid
   ·exact .inl (d id U)
   ·rw[hl,if_neg e];refine .inr ⟨?_,fun g=>?_,fun _=>h.lt id (by omega)⟩
    ·rw[h.lt id (by omega)];trivial
    ·rw[h.lt id (by omega)]at g;cases g
 ·rw[hl]at o;split at o
  ·exact absurd o (R q i f)
  ·have I:=h.b0T o;exact⟨d r (h.F7 (by rw[o];simp)),d q I⟩
def Rp.turn (h:Rp E A s ρ S a as w){id:Nat}{x:Th E.D}{v:Value}(R:id<s.nid)(J:P1 (E0 s id)=true)(cx:Cx A.w0 A.W0 A.S0 w1 S1)(kp:U0 w.heap S w1.heap S1)(U:∀k,S k->S1 k)
  (hb:∀k,k<w.heap.size->¬Bk (ρ id) k->w1.heap[k]?=w.heap[k]?) (hv:v=ρ id)
  (hS:∀k,Bk v k->S1 k) (hx:X3 E ρ s.nid w1.heap S1 x v) (C:∀q i f,x≠.rof q i f:=by intros;simp) (o:∀e F t xs,x=.B1 e F t xs none->∀r i f,E0 s r=.rof id i f->b0W w1.heap (hd (ρ id)) F.length i f (ρ r):=by intro _ _ _ _ h;cases h):Rp E A (s.at id x) ρ S1 a as w1:=by
 subst hv;have hl:∀j,E0 { s with th:=(id,x) :: s.th,nid:=s.nid } j=if id=j then x else E0 s j:=fun j=>G8 s id j x;have c:∀j,j≠id->j<s.nid->b0o s { s with th:=(id,x) :: s.th,nid:=s.nid } ρ ρ S1 w w1 j:=fun j m d=>
  ⟨by rw[hl,if_neg (Ne.symm m)],d,rfl,fun b k hk=>⟨hb k ((h.th j).live b k hk) (fun y=>h.dj id j (Ne.symm m) J b k y hk),U k (h.ow j b k hk).1⟩⟩
 refine h.step (nid1:=s.nid) (th1:=(id,x) :: s.th) ⟨cx,kp,fun _ _=>rfl,Nat.le_refl _⟩ (fun j=>?_) fun r q i f g e F t xs I=>?_
 ·by_cases e:id=j
  ·subst e;refine .inr ⟨by rw[hl,if_pos rfl];exact hx,fun _ k hk=>?_,fun hle=>by omega⟩;obtain⟨h1,h2⟩:=h.ow id J k hk;refine⟨⟨hS k hk,h2⟩,fun j m b p=>?_⟩;rw[hl,if_neg (fun e=>m e.symm)]at b;exact h.dj id j (fun e=>m e.symm) J b k hk p
  ·by_cases d:j<s.nid
   ·exact .inl (c j (fun h=>e h.symm) d)
   ·rw[hl,if_neg e];refine .inr ⟨?_,fun b=>?_,fun _=>h.lt j (by omega)⟩
    ·rw[h.lt j (by omega)];trivial
    ·rw[h.lt j (by omega)]at b;cases b
 ·rw[hl]at g;split at g
  ·exact absurd g (C q i f)
  ·rename_i u;have z:=h.b0T g;rw[hl]at I;split at I
   ·rename_i y;subst y;exact .inr (o e F t xs I r i f g)
   ·rename_i l;exact .inl ⟨c r (Ne.symm u) (h.F7 (by rw[g];simp)),c q (Ne.symm l) z⟩
def Rp.gone (h:Rp E A s ρ S a as w)(id:Nat):Rp E A (s.at id .gone) ρ S a as w:=by
 have hl:∀j,E0 (s.at id .gone) j=if id=j then .gone else E0 s j:=fun j=>G8 s id j .gone;refine⟨h.cx,h.fr,h.stk,fun j=>?_,fun j b=>?_,fun i j g hi b=>?_,fun j b=>?_,fun r q i f c e F t xs d=>?_,h.kp,h.hp⟩
 ·rw[hl];split
  ·trivial
  ·exact h.th j
 ·rw[hl]at b;split at b
  ·cases b
  ·exact h.ow j b
 ·rw[hl]at hi b;split at hi
  ·cases hi
  ·split at b
   ·cases b
   ·exact h.dj i j g hi b
 ·rw[hl];split
  ·rfl
  ·exact h.lt j b
 ·rw[hl]at c d;split at c
  ·cases c
  ·split at d
   ·cases d
   ·exact h.rf r q i f c e F t xs d
def Rp.ext (h:Rp E A s ρ S a as w)(g:Below w.heap.size w w1):Rp E A s ρ S a as w1:=
 have b:∀j,j<s.nid->b0o s { s with th:=s.th,nid:=s.nid } ρ ρ S w w1 j:=fun j m=>⟨rfl,m,rfl,fun c k hk=>⟨g.block k ((h.th j).live c k hk),(h.ow j c k hk).1⟩⟩
 h.step (nid1:=s.nid) (th1:=s.th) ⟨h.cx.ext g,U0.ext S g,fun _ _=>rfl,Nat.le_refl _⟩ (fun id=>by
  by_cases l:id<s.nid
  ·exact .inl (b id l)
  ·have:E0 { s with th:=s.th,nid:=s.nid } id=.gone:=h.lt id (by omega);rw[this];exact .inr ⟨trivial,(fun c=>by cases c),fun _=>rfl⟩) fun r q i f d e F t xs _=>.inl ⟨b r (h.F7 (by have d:E0 s r=_:=d;rw[d];simp)),b q (h.b0T d)⟩
end
end
