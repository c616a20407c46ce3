/- P. Its conditions: none. -/
import Derived.Test.YtihmgaccbcfgjaaGreatRX3
set_option linter.all false
namespace Go.X
open Go.V Go.RowKit
section
variable (E:Env)
def a0S:(ts:List U)->Ty (HL E.D ts)
 |[]=>R6
 |t :: ts=>I2 (J0 E t) (a0S ts)
structure T1:Prop where
 st:∀i H S cs x,(E.ty i).R H S cs x↔(a0S E (E.fs i)).R H S cs (E.un i x)
 sz:∀i,(E.ty i).sz=(a0S E (E.fs i)).sz
 unmk:∀i h,E.un i (E.mkS i h)=h
 mix:E.P.follows .mixedOrders=true
def hd (v:Value):Value:=match v with
 |.tuple a=>a.toList.headD undef
 |v=>v
def tl (v:Value):List Value:=match v with
 |.tuple a=>a.toList.tail
 |_=>[]
def D4:List B6->Nat
 |[]=>0
 |.inl (_,o) :: p=>o+D4 p
 |.inr (i,z,_) :: p=>i.toNat*z+D4 p
def a8:List B6->Prop
 |[]=>True
 |.inl _ :: p=>a8 p
 |.inr (i,_,m) :: p=>(0<=i/\i<m)/\a8 p
def M3:Bool->List Value->Value
 |true,cs=>.agg cs.toArray
 |false,cs=>cs.headD undef
def vl {D:Nat->Type}(v:V D)(cs:List Value):Value:=M3 (V3 v) cs
section
variable (ρ:Nat->Value)(n:Nat)(H:I0)(S:D0)
mutual
def VC:V E.D->List Value->Prop
 |.undef,cs=>∃v,cs=[v]
 |.kb b,cs=>cs=[.bool b]
 |.ki k m,cs=>cs=[.int k m]
 |.d t x,cs=>(J0 E t).R H S cs x
 |.nil,cs=>cs=[.slice none 0 0]
 |.nilp,cs=>cs=[.pointer none]
 |.nilif,cs=>cs=[.nilIface]
 |.nilfn,cs=>cs=[.nilFunc]
 |.sl id,cs=>id<n/\(hd (ρ id)).oneCell'=true/\cs=[hd (ρ id)]
 |.pb id off p,cs=>id<n/\a8 p/\∃b,hd (ρ id)=.pointer (some ⟨b,0,none⟩)/\cs=[.pointer (some ⟨b,off+D4 p,none⟩)]
 |.pe id i z p,cs=>id<n/\a8 p/\∃b o m c,hd (ρ id)=.slice (some ⟨b,o,none⟩) m c/\(0<=i/\i<m)/\cs=[.pointer (some ⟨b,o+i.toNat*z+D4 p,none⟩)]
 |.pd t x,cs=>∃v,cs=[v]/\PtR (J0 E t) H S v x
 |.df t xs,cs=>∃A,cs=[.slice A xs.length xs.length]/\Sl (J0 E t) H S A xs.length xs
 |.mp id,cs=>id<n/\(hd (ρ id)).oneCell'=true/\cs=[hd (ρ id)]
 |.agg l,cs=>T0 l cs
 |.tup l,cs=>∃us,cs=[.tuple us.toArray]/\VT l us
 |.fn f l,cs=>∃us,cs=[.func (.func f) #[] us.toArray]/\VT l us
 |.ifc T v,cs=>∃c,VC v c/\cs=[.iface T (vl v c)]
def T0:List (V E.D)->List Value->Prop
 |[],cs=>cs=[]
 |v :: l,cs=>∃c1 c2,cs=c1++c2/\VC v c1/\T0 l c2
def VT:List (V E.D)->List Value->Prop
 |[],us=>us=[]
 |v :: l,us=>∃c b,VC v c/\us=vl v c :: b/\VT l b
end
def VS (v:V E.D)(u:Value):Prop:=∃c,VC E ρ n H S v c/\u=vl v c
end
variable {E}
section
variable {ρ ρ':Nat->Value}{n n':Nat}{H H':I0}{S S':D0}
mutual
def VC.mono (hρ:∀i,i<n->hd (ρ' i)=hd (ρ i))(hn:n<=n')(k:P0 H S H' S'):∀(v:V E.D) (cs:List Value),VC E ρ n H S v cs->VC E ρ' n' H' S' v cs
 |.undef,cs,h=>h
 |.kb b,cs,h=>h
 |.ki _ m,cs,h=>h
 |.d t x,cs,h=>(J0 E t).L0 k h
 |.nil,cs,h=>h
 |.nilp,cs,h=>h
 |.nilif,cs,h=>h
 |.nilfn,cs,h=>h
 |.sl id,cs,⟨h1,g,e⟩=>⟨Nat.lt_of_lt_of_le h1 hn,by simp_all,by simp_all⟩
 |.pb id off p,cs,⟨h1,g,b,e,j⟩=>⟨Nat.lt_of_lt_of_le h1 hn,g,b,(hρ id h1).trans e,j⟩
 |.pe id i z p,cs,⟨h1,g,b,o,m,c,e,j⟩=>⟨Nat.lt_of_lt_of_le h1 hn,g,b,o,m,c,(hρ id h1).trans e,j⟩
 |.pd t x,cs,⟨v,h1,e⟩=>⟨v,h1,e.L0 k⟩
 |.df t xs,cs,⟨A,h1,e⟩=>⟨A,h1,e.L0 k⟩
 |.mp id,cs,⟨h1,g,e⟩=>⟨Nat.lt_of_lt_of_le h1 hn,by simp_all,by simp_all⟩
 |.agg l,cs,h=>T0.mono hρ hn k l cs h
 |.tup l,cs,⟨us,h1,e⟩=>⟨us,h1,VT.mono hρ hn k l us e⟩
 |.fn f l,cs,⟨us,h1,e⟩=>⟨us,h1,VT.mono hρ hn k l us e⟩
 |.ifc T v,cs,⟨c,h1,e⟩=>⟨c,VC.mono hρ hn k v c h1,e⟩
def T0.mono (hρ:∀i,i<n->hd (ρ' i)=hd (ρ i))(hn:n<=n')(k:P0 H S H' S'):∀(l:List (V E.D)) (cs:List Value),T0 E ρ n H S l cs->T0 E ρ' n' H' S' l cs
 |[],cs,h=>h
 |v :: l,cs,⟨c1,c2,h,h1,b⟩=>⟨c1,c2,h,VC.mono hρ hn k v c1 h1,T0.mono hρ hn k l c2 b⟩
def VT.mono (hρ:∀i,i<n->hd (ρ' i)=hd (ρ i))(hn:n<=n')(k:P0 H S H' S'):∀(l:List (V E.D)) (cs:List Value),VT E ρ n H S l cs->VT E ρ' n' H' S' l cs
 |[],cs,h=>h
 |v :: l,cs,⟨c,u,h,h1,b⟩=>⟨c,u,VC.mono hρ hn k v c h,h1,VT.mono hρ hn k l u b⟩
end
def VS.mono (hρ:∀i,i<n->hd (ρ' i)=hd (ρ i))(hn:n<=n')(k:P0 H S H' S'){v:V E.D}{u:Value}(h:VS E ρ n H S v u):VS E ρ' n' H' S' v u:=by
 obtain⟨c,h1,b⟩:=h;exact⟨c,h1.mono hρ hn k,b⟩
def VC.len (h:T1 E):∀{v:V E.D} {cs:List Value},VC E ρ n H S v cs->(∀l,v≠.agg l)->cs.length=sz1 E v:=by
 intro v cs c hl;cases v with
 |d t x=>exact(J0 E t).len c
 |agg l=>simp_all
 |undef=>obtain⟨v,rfl⟩:=c;rfl
 |kb b=>subst c;rfl
 |ki k m=>subst c;rfl
 |nil=>subst c;rfl
 |nilp=>subst c;rfl
 |nilif=>subst c;rfl
 |nilfn=>subst c;rfl
 |sl id=>obtain⟨_,_,rfl⟩:=c;rfl
 |pb=>obtain⟨_,_,_,_,rfl⟩:=c;rfl
 |pe=>obtain⟨_,_,_,_,_,_,_,_,rfl⟩:=c;rfl
 |pd=>obtain⟨_,rfl,_⟩:=c;rfl
 |df=>obtain⟨_,rfl,_⟩:=c;rfl
 |mp=>obtain⟨_,_,rfl⟩:=c;rfl
 |tup=>obtain⟨_,rfl,_⟩:=c;rfl
 |fn=>obtain⟨_,rfl,_⟩:=c;rfl
 |ifc=>unfold VC at c;obtain⟨_,_,rfl⟩:=c;rfl
def T0.nil:T0 E ρ n H S [] ([]:List Value):=by simp[T0]
def T0.one {v:V E.D}{cs:List Value}(h:VC E ρ n H S v cs):T0 E ρ n H S [v] cs:=by
 simp_all[T0]
def T0.a0Q {v:V E.D}{cs:List Value}(h:T0 E ρ n H S [v] cs):VC E ρ n H S v cs:=by
 simp_all[T0]
def T0.app:∀{l l':List (V E.D)} {c c':List Value},T0 E ρ n H S l c->T0 E ρ n H S l' c'->T0 E ρ n H S (l++l') (c++c')
 |[],l',c,c',h,b=>by simp_all[T0]
 |v :: l,l',c,c',h,b=>by
  obtain⟨c1,c2,rfl,h1,d⟩:=h;exact⟨c1,c2++c',Z',h1,T0.app d b⟩
theorem T0.k0c:∀{l l':List (V E.D)} {c:List Value},T0 E ρ n H S (l++l') c->∃c1 c2,c=c1++c2/\T0 E ρ n H S l c1/\T0 E ρ n H S l' c2
 |[],l',c,h=>⟨[],c,rfl,T0.nil,h⟩
 |v :: l,l',c,h=>by
  obtain⟨c1,c2,rfl,h1,d⟩:=h;obtain⟨d1,d2,rfl,e,b⟩:=T0.k0c d;refine⟨c1++d1,d2,Z',?_,b⟩;unfold T0
  grind
def s0g:∀(ts:List U) (h:HL E.D ts) (cs:List Value),(a0S E ts).R H S cs h->T0 E ρ n H S (g04 ts h) cs
 |[],_,cs,h=>by exact h
 |t :: ts,h,cs,hr=>by
  obtain⟨c1,c2,rfl,h1,b⟩:=hr;unfold g04 T0;exact⟨c1,c2,rfl,h1,s0g ts h.2 c2 b⟩
def E03 {α:Type}(d:α)(xs:List α)(j:Nat)(h:j<xs.length):@gt α ⟨d⟩ xs (j:Int)=xs[j]:=by
 simp[gt,h]
theorem s0b (t:U)(xs:List (Den E.D t)):∀(m j:Nat) (cs:List Value),j+m=xs.length->cs.length=m*(J0 E t).sz->
  (∀i,i<m->∀x,xs[j+i]?=some x->(J0 E t).R H S ((cs.drop (i*(J0 E t).sz)).take (J0 E t).sz) x)->T0 E ρ n H S (elts E t xs m j) cs
 |0,j,cs,_,hl,_=>by
  simp_all[elts,T0.nil]
 |m+1,j,cs,hj,hl,hr=>by
  have b:j<xs.length:=O'
  have c:=hr 0 O' xs[j] Z';refine⟨cs.take (J0 E t).sz,cs.drop (J0 E t).sz,(List.take_append_drop _ _).symm,?_,?_⟩
  ·simp_all[VC,E6,E03]
  ·refine s0b t xs m (j+1) _ O' (by grind) fun i hi x d=>?_
   grind [List.drop_drop]
def m0g (e:T1 E){v:V E.D}{l:List (V E.D)}(h:g0G E v=some l){cs:List Value}(c:VC E ρ n H S v cs):T0 E ρ n H S l cs:=by
 cases v<;>simp only[g0G]at h<;>try cases h
 rename_i t x;cases t<;>simp only[]at h<;>try cases h
 ·rename_i i;exact s0g _ _ _ ((e.st i H S cs x).1 c)
 ·rename_i m t;obtain⟨h1,d⟩:=c;refine s0b t x m 0 cs O' (by rw[d.1,h1]) fun i hi y b=>?_;rw[Nat.zero_add]at b;exact d.2 i y b
theorem b0z (d:T1 E):∀(k off:Nat) (l a b:List (V E.D)),G8 E k off l=some (a,b)->∀cs,T0 E ρ n H S l cs->∃c1 c2,cs=c1++c2/\c1.length=off/\T0 E ρ n H S a c1/\T0 E ρ n H S b c2
 |0,_,_,_,_,h=>by grind [G8]
 |k+1,0,l,a,b,h=>by
  intro cs c;obtain⟨rfl,rfl⟩:=h;exact⟨[],cs,rfl,rfl,T0.nil,c⟩
 |k+1,off+1,[],a,b,h=>by grind [G8]
 |k+1,off+1,v :: r,a,b,h=>by
  intro cs c;obtain⟨c1,c2,rfl,h1,e⟩:=c;simp only[G8]at h;split at h
  ·rename_i l hl;have f:v=.agg l:=by cases v<;>simp[d0X]at hl;simp_all
   subst f;exact b0z d k _ _ a b h _ (h1.app e)
  ·have f:∀l,v≠.agg l:=by grind [d0X]
   have hlen:=h1.len d f;split at h
   ·rename_i hle;split at h
    ·rename_i g b' i;simp only[Option.some.injEq,Prod.mk.injEq]at h;obtain⟨rfl,rfl⟩:=h;obtain⟨d1,d2,rfl,hd,ha,j⟩:=b0z d k _ r g b' i c2 e;refine⟨c1++d1,d2,Z',by simp_all,?_,j⟩;unfold T0
     grind
    grind
   ·split at h
    ·rename_i l he;exact b0z d k _ _ a b h _ ((m0g d he h1).app e)
    grind
theorem f0W (f:T1 E){off m:Nat}{l a b c:List (V E.D)}(h:a0i E off m l=some (a,b,c)){cs:List Value}(e:T0 E ρ n H S l cs):
  ∃c1 c2 c3,cs=c1++(c2++c3)/\c1.length=off/\c2.length=m/\T0 E ρ n H S a c1/\T0 E ρ n H S b c2/\T0 E ρ n H S c c3:=by
 unfold a0i at h;split at h
 ·rename_i k b' h1;split at h
  ·rename_i j c' i;obtain⟨c1,d,rfl,hl,ha,hd⟩:=b0z f _ _ _ _ _ h1 cs e;obtain⟨c2,c3,rfl,g,p,o⟩:=b0z f _ _ _ _ _ i d hd
   grind
  grind
 grind
theorem f0x (c:T1 E){ag:Bool}{m:List (V E.D)}{v:V E.D}(h:asV E ag m=some v){cs:List Value}(b:T0 E ρ n H S m cs):VC E ρ n H S v cs/\V3 v=ag:=by
 unfold asV at h;split at h
 ·split at h
  ·split at h
   ·rename_i ha;simp only[Option.some.injEq]at h;subst h;exact⟨b.a0Q,ha⟩
   ·simp only[Option.some.injEq]at h;subst h;exact⟨b,rfl⟩
  ·simp only[Option.some.injEq]at h;subst h;exact⟨b,rfl⟩
 ·split at h
  ·split at h
   ·rename_i ha;simp only[Option.some.injEq]at h;subst h;exact⟨b.a0Q,ha⟩
   ·split at h
    ·rename_i w he;split at h
     ·rename_i ha;simp only[Option.some.injEq]at h;subst h;exact⟨(m0g c he b.a0Q).a0Q,ha⟩
     grind
    grind
  grind
end
def B1:Value->Option Nat
 |.pointer (some a)=>some a.block
 |.slice (some a) _ (_+1)=>some a.block
 |.map r=>r
 |_=>none
def Bk (v:Value)(k:Nat):Prop:=match v with
 |.tuple a=>∃u∈a.toList,B1 u=some k
 |v=>B1 v=some k
def z7:Value:=.slice none 0 0
def e0S {a:Addr}{m c:Nat}(h:0<c):B1 (.slice (some a) m c)=some a.block:=by
 cases c with
 |zero=>omega
 |succ c=>rfl
def d0S {a:Addr}{m c k:Nat}(h:B1 (.slice (some a) m c)=some k):0<c/\a.block=k:=by
 cases c with
 |zero=>cases h
 |succ c=>cases h;omega
def Row (H:I0)(e:TypeId)(sz:Nat)(v:Value)(n:Nat)(cs:List Value):Prop:=
 cs.length=n*sz/\((n=0/\∃a,v=.slice a 0 0)\/
  ∃g cap cur,v=.slice (some ⟨g,0,none⟩) n cap/\0<cap/\H[g]?=some (.cells cur e (0,0))/\n<=cap/\cap<=maxLen/\cur.size=cap*sz/\cur.toList.take (n*sz)=cs)
def Row.ofV {H:I0}{e sz n:Nat}{v:Value}{cs:List Value}(h:Go.V.Row H e sz v n cs):Row H e sz v n cs:=by
 obtain⟨b,⟨h1,f⟩|⟨g,cap,cur,d,r⟩⟩:=h
 ·exact⟨b,.inl ⟨f,none,h1⟩⟩
 ·cases cap with
  |zero=>
   have hn:n=0:=O'
   subst hn;exact⟨b,.inl ⟨rfl,_,d⟩⟩
  |succ c=>exact⟨b,.inr ⟨g,_,cur,d,Nat.succ_pos _,r⟩⟩
theorem Row.of {w:World}{B:Nat}{e:TypeId}{sz:Nat}{v:Value}{n:Nat}{cs:List Value}(h:w.ownsRow B e sz v n cs):Row w.heap e sz v n cs:=Row.ofV (Go.V.Row.of h)
def E5 (E:Env)(H:I0)(S:D0)(e:Nat)(u:U)(xs:List (Den E.D u))(v:Value):Prop:=∃cs,Row H e (J0 E u).sz v xs.length cs/\R1 (J0 E u) H S cs xs
def d07 (pl:List Value):Prop:=∀(i j:Nat) (v b:Value),i≠j->pl[i]?=some v->pl[j]?=some b->∀k,B1 v=some k->B1 b≠some k
def rowAt (F:List Nat)(i:Nat)(f:Nat):Nat:=i*F.length+f
def d0v (F:List Nat)(o:Option (Int×Nat))(cs:List Value):List Value:=match o with
 |none=>cs
 |some (i,f)=>cs.set (rowAt F i.toNat f) z7
structure v7 (E:Env)(H:I0)(S:D0)(e:Nat)(F:List Nat)(t:U)(xs:List (Den E.D t))(o:Option (Int×Nat))(v:Value)(cs:List Value):Prop where
 row:Row H e (J0 E t).sz (hd v) xs.length cs
 tl:tl v=d0v F o cs
 ok:C9 E t F=true
 bd:∀j g,o=some (j,g)->0<=j/\g<F.length
 rows:∀(i:Nat) (x:Den E.D t) (f:Nat) (u:U) (ys:List (Den E.D u)) (e':Nat),xs[i]?=some x->V2 E t x f=some ⟨u,ys⟩->F[f]?=some e'->o≠some ((i:Int),f)->∃r,cs[rowAt F i f]?=some r/\E5 E H S e' u ys r
 one:∀u∈cs,u.oneCell'=true
 ap:d07 (hd v :: Go.X.tl v)
def K3 (E:Env)(ρ:Nat->Value)(n:Nat)(H:I0)(S:D0)(x:Th E.D)(v:Value):Prop:=match x with
 |.gone=>True
 |.box T l=>∃b cs,v=.pointer (some ⟨b,0,none⟩)/\H[b]?=some (.cells cs.toArray T (0,0))/\T0 E ρ n H S l cs/\∀u∈cs,u.oneCell'=true
 |.fzb T l=>∃b cs,v=.pointer (some ⟨b,0,none⟩)/\H[b]?=some (.cells cs.toArray T (0,0))/\T0 E ρ n H S l cs/\(∀u∈cs,u.oneCell'=true)/\¬S b
 |.lst e t xs=>∃cs,Row H e (J0 E t).sz v xs.length cs/\R1 (J0 E t) H S cs xs
 |.fz t xs=>∃A c,hd v=.slice A xs.length c/\Sl (J0 E t) H S A c xs
 |.map m=>∃r es cl,v=.map (some r)/\H[r]?=some (.map es cl)/\es.toList.map (fun e=>(e.key,e.val))=m.map (fun p=>(Value.int .i64 p.1,Value.int .i64 p.2))
 |.X0 e F t xs o=>∃cs,v7 E H S e F t xs o v cs
 |.rof q _ _=>q<n/\v.oneCell'=true/\hd v=v
def b06 (H:I0)(v:Value)(n:Nat)(i:Int)(f:Nat)(r:Value):Prop:=∃b o m c,v=.slice (some ⟨b,o,none⟩) m c/\(0<=i/\i<m)/\f<n/\O1 H b (o+(i.toNat*n+f))=some r
structure E4 where
 w0:World
 W0:D0
 S0:D0
 anc:I0->D0->Prop:=fun _ _=>False
 hda:Nat->Value->Prop:=fun _ _=>False
structure b0C (E:Env)(ρ:Nat->Value)(m:Nat)(H:I0)(S:D0)(n:Nat)(fr:Fr E.D)(a:Act):Prop where
 size:a.tmps.size=n
 defers:a.defers=[]
 slot:∀t v,F4 fr t=some v->VS E ρ m H S v (a.tmps.getD t undef)
def a0t (E:Env)(ρ:Nat->Value)(m:Nat)(H:I0)(S:D0):List (Nat×Fr E.D)->List Act->Prop
 |[],[]=>True
 |p :: l,a :: as=>b0C E ρ m H S p.1 p.2 a/\a0t E ρ m H S l as
 |_,_=>False
structure Rp (E:Env)(A:E4)(s:St E.D)(ρ:Nat->Value)(S:D0)(a:Act)(as:List Act)(w:World):Prop where
 cx:Cx A.w0 A.W0 A.S0 w S
 fr:b0C E ρ s.nid w.heap S s.n s.fr a
 stk:a0t E ρ s.nid w.heap S s.stk as
 th:∀id,K3 E ρ s.nid w.heap S (F0 s id) (ρ id)
 ow:∀id,Q1 (F0 s id)=true->∀k,Bk (ρ id) k->S k/\¬A.S0 k/\Wr A.W0 A.w0 k
 dj:∀i j,i≠j->Q1 (F0 s i)=true->Q1 (F0 s j)=true->∀k,Bk (ρ i) k->¬Bk (ρ j) k
 lt:∀id,s.nid<=id->F0 s id=.gone
 rf:∀r q i f,F0 s r=.rof q i f->∀e F t xs,F0 s q=.X0 e F t xs none->b06 w.heap (hd (ρ q)) F.length i f (ρ r)
 kp:∀H1 S1,A.anc H1 S1->P0 H1 S1 w.heap S
 hp:∀i u,A.hda i u->i<s.nid/\hd (ρ i)=u
section
variable {A:E4}{s s1:St E.D}{ρ ρ1:Nat->Value}{S S1:D0}{a:Act}{as:List Act}{w w1:World}
def b0C.mono {m b:Nat}{H H':I0}{n:Nat}{fr:Fr E.D}(hρ:∀i,i<m->hd (ρ1 i)=hd (ρ i))(hn:m<=b)(k:P0 H S H' S1)(h:b0C E ρ m H S n fr a):b0C E ρ1 b H' S1 n fr a:=
 ⟨h.size,h.defers,fun t v c=>(h.slot t v c).mono hρ hn k⟩
def a0t.mono {m b:Nat}{H H':I0}(hρ:∀i,i<m->hd (ρ1 i)=hd (ρ i))(hn:m<=b)(k:P0 H S H' S1):∀{l:List (Nat×Fr E.D)} {as:List Act},a0t E ρ m H S l as->a0t E ρ1 b H' S1 l as
 |[],[],h=>h
 |[],_ :: _,h=>h
 |_ :: _,[],h=>h
 |p :: l,a :: as,⟨h1,c⟩=>⟨h1.mono hρ hn k,a0t.mono hρ hn k c⟩
def E5.mono {H H':I0}{e:Nat}{u:U}{xs:List (Den E.D u)}{v:Value}(k:P0 H S H' S1)(c:∀b,B1 v=some b->H'[b]?=H[b]?)(h:E5 E H S e u xs v):E5 E H' S1 e u xs v:=by
 obtain⟨cs,⟨d,h1⟩,f⟩:=h;refine⟨cs,⟨d,?_⟩,f.L0 k⟩;rcases h1 with h1|⟨g,cap,cur,rfl,hp,hg,r⟩
 ·simp_all
 ·exact .inr ⟨g,cap,cur,rfl,hp,(c g (e0S hp)).trans hg,r⟩
def Row.mono {H H':I0}{e n m:Nat}{v:Value}{cs:List Value}(c:∀b,B1 v=some b->H'[b]?=H[b]?)(h:Row H e n v m cs):Row H' e n v m cs:=by
 obtain⟨d,h1⟩:=h;refine⟨d,?_⟩;rcases h1 with h1|⟨g,cap,cur,rfl,hp,hg,r⟩
 ·simp_all
 ·exact .inr ⟨g,cap,cur,rfl,hp,(c g (e0S hp)).trans hg,r⟩
def Row.form {H:I0}{e n m:Nat}{v:Value}{cs:List Value}(h:Row H e n v m cs):∃a c,v=.slice a m c:=by
 rcases h.2 with⟨rfl,a,rfl⟩|⟨g,cap,cur,rfl,_⟩<;>exact⟨_,_,rfl⟩
theorem Row.live {H:I0}{e n m:Nat}{v:Value}{cs:List Value}(h:Row H e n v m cs):∀b,B1 v=some b->b<H.size:=by
 intro k hk;rcases h.2 with⟨rfl,a,rfl⟩|⟨g,cap,cur,rfl,hp,hg,r⟩
 ·cases a<;>cases hk
 ·obtain⟨_,rfl⟩:=d0S hk;grind
def Row.cap {H:I0}{e n m c:Nat}{a:Option Addr}{k:Nat}{cs:List Value}(h:Row H e n (.slice a m c) k cs):m=k/\k<=c:=by
 rcases h.2 with⟨rfl,a,h1⟩|⟨g,cap,cur,h1,hp,hg,r,_⟩
 ·simp_all
 simp_all
def Row.i0n {H:I0}{e n m c:Nat}{a:Addr}{k:Nat}{cs:List Value}(h:Row H e n (.slice (some a) m c) k cs)(hm:0<m):B1 (.slice (some a) m c)=some a.block:=e0S (by have:=h.cap;omega)
def d0T {v:Value}{k:Nat}:Bk v k↔B1 (hd v)=some k\/∃u∈tl v,B1 u=some k:=by
 cases v with
 |tuple a=>
  obtain⟨l⟩:=a;cases l with
  |nil=>
       constructor
       ·rintro⟨u,hu,_⟩;cases hu
       ·rintro(h|⟨u,hu,_⟩)
        ·cases h
        ·cases hu
  |cons x l=>
   show(∃u∈x :: l,B1 u=some k)↔B1 x=some k\/∃u∈l,B1 u=some k;simp
 |_=>exact⟨.inl,fun h=>h.elim id fun⟨_,h,_⟩=>by cases h⟩
def Bk.hd {v:Value}{k:Nat}(h:B1 (Go.X.hd v)=some k):Bk v k:=d0T.2 (.inl h)
theorem Bk.tl {v u:Value}{k:Nat}(hu:u∈Go.X.tl v)(h:B1 u=some k):Bk v k:=d0T.2 (.inr ⟨u,hu,h⟩)
theorem e0P {F:List Nat}{o:Option (Int×Nat)}{cs:List Value}{i:Nat}{f:Nat}{r:Value}(b:f<F.length)(ho:∀j g,o=some (j,g)->0<=j/\g<F.length)(h:cs[rowAt F i f]?=some r)(hn:o≠some ((i:Int),f)):(d0v F o cs)[rowAt F i f]?=some r:=by
 unfold d0v;split
 ·exact h
 ·rename_i j g;rw[List.getElem?_set_ne]
  ·exact h
  ·intro e;unfold rowAt at e;have h1:j.toNat=i/\g=f:=by
    grind [Nat.mul_comm,Nat.mul_add_div,Nat.div_eq_of_lt]
   grind
def K3.mono {m I:Nat}{H H':I0}{x:Th E.D}{v:Value}(hρ:∀i,i<m->hd (ρ1 i)=hd (ρ i))(hn:m<=I)(k:P0 H S H' S1)(p:Q1 x=true->∀b,Bk v b->H'[b]?=H[b]?)(h:K3 E ρ m H S x v):K3 E ρ1 I H' S1 x v:=by
 cases x with
 |gone=>trivial
 |box T l=>
  obtain⟨b,cs,rfl,h1,g,j⟩:=h;exact⟨b,cs,rfl,(p rfl b rfl).trans h1,g.mono hρ hn k,j⟩
 |fzb T l=>
  obtain⟨b,cs,rfl,h1,g,j,y⟩:=h;obtain⟨U,J⟩:=k.blk b (getElem?_lt h1) y;exact⟨b,cs,rfl,J.trans h1,g.mono hρ hn k,j,U⟩
 |lst e t xs=>
  obtain⟨cs,h1,g⟩:=h;obtain⟨_,_,rfl⟩:=Row.form h1;exact⟨cs,Row.mono (fun b d=>p rfl b d) h1,g.L0 k⟩
 |fz t xs=>
  obtain⟨A,c,e,h⟩:=h;exact⟨A,c,e,h.L0 k⟩
 |map m=>
  obtain⟨r,es,cl,rfl,h1,g⟩:=h;exact⟨r,es,cl,rfl,(p rfl r rfl).trans h1,g⟩
 |X0 e F t xs o=>
  obtain⟨cs,h⟩:=h;refine⟨cs,Row.mono (fun b d=>p rfl b (Bk.hd d)) h.row,h.tl,h.ok,h.bd,fun i x f u ys e' h1 g j y=>?_,h.one,h.ap⟩;obtain⟨r,C,R⟩:=h.rows i x f u ys e' h1 g j y;refine⟨r,C,R.mono k fun b d=>p rfl b ?_⟩;have z:=e0P (List.getElem?_eq_some_iff.1 j).1 h.bd C y;rw[<-h.tl]at z;exact Bk.tl (List.mem_of_getElem? z) d
 |rof q i f=>exact⟨Nat.lt_of_lt_of_le h.1 hn,h.2⟩
theorem u0G {D:Nat->Type}:∀{l:List U} (h:HL D l) {f:Nat},b0B l=true->f<l.length->∃u y,I5 l h f=some ⟨.list u,y⟩
 |[],_,f,_,b=>by grind
 |t :: l,h,0,hb,_=>by
  simp only[b0B,Bool.and_eq_true]at hb;cases t<;>first|(exact⟨_,_,rfl⟩)|simp_all[i0f]
 |t :: l,h,f+1,hb,b=>by
  simp only[b0B,Bool.and_eq_true]at hb;exact u0G (l:=l) h.2 hb.2 (by simp_all)
def d0C {t:U}{F:List Nat}(h:C9 E t F=true):(J0 E t).sz=F.length/\∀(x:Den E.D t) f,f<F.length->∃u ys,V2 E t x f=some ⟨u,ys⟩:=by
 simp only[C9,Bool.and_eq_true,Nat.beq_eq]at h;obtain⟨⟨h1,d⟩,b⟩:=h;refine⟨h1,fun x f c=>?_⟩;cases t<;>simp only at b<;>try cases b
 ·have:f=0:=by simp_all[n05]
  subst this;exact⟨_,_,rfl⟩
 ·rename_i k;rw[d]at c;obtain⟨u,y,e⟩:=u0G (E.un k x) b c;exact⟨u,y,show c0N _=_ by rw[e];rfl⟩
def v7.sz {H:I0}{e:Nat}{F:List Nat}{t:U}{xs:List (Den E.D t)}{o:Option (Int×Nat)}{v:Value}{cs:List Value}(h:v7 E H S e F t xs o v cs):cs.length=xs.length*F.length:=by
 rw[h.row.1,(d0C h.ok).1]
theorem v7.at {H:I0}{e:Nat}{F:List Nat}{t:U}{xs:List (Den E.D t)}{o:Option (Int×Nat)}{v:Value}{cs:List Value}(h:v7 E H S e F t xs o v cs){p:Nat}{u:Value}(hp:(Go.X.tl v)[p]?=some u):u=z7\/∃i f x w ys e',p=rowAt F i f/\f<F.length/\xs[i]?=some x/\V2 E t x f=some ⟨w,ys⟩/\F[f]?=some e'/\o≠some ((i:Int),f)/\cs[p]?=some u/\E5 E H S e' w ys u:=by
 rw[h.tl]at hp;have hlen:(d0v F o cs).length=cs.length:=by unfold d0v;grind
 have g:p<xs.length*F.length:=by rw[<-h.sz,<-hlen];grind
 have hn:0<F.length:=by
  grind
 have hi:p / F.length<xs.length:=(Nat.div_lt_iff_lt_mul hn).2 g;have b:=Nat.mod_lt p hn;have c:p=rowAt F (p / F.length) (p % F.length):=by
  simp[rowAt,Nat.mul_comm,Nat.div_add_mod]
 by_cases ho:o=some (((p / F.length:Nat):Int),p % F.length)
 ·grind [d0v]
 ·right;obtain⟨w,ys,j⟩:=(d0C h.ok).2 xs[p / F.length] _ b;obtain⟨r,h1,k⟩:=h.rows (p / F.length) _ (p % F.length) w ys _ (List.getElem?_eq_getElem hi) j (List.getElem?_eq_getElem b) ho;have d:=e0P b h.bd h1 ho;rw[<-c]at h1 d;rw[hp]at d;obtain rfl:=Option.some.inj d;exact⟨_,_,_,w,ys,_,c,b,List.getElem?_eq_getElem hi,j,List.getElem?_eq_getElem b,ho,h1,k⟩
theorem v7.live {H:I0}{e:Nat}{F:List Nat}{t:U}{xs:List (Den E.D t)}{o:Option (Int×Nat)}{v:Value}{cs:List Value}(h:v7 E H S e F t xs o v cs):∀b,Bk v b->b<H.size:=by
 intro b c;rcases d0T.1 c with c|⟨u,hu,c⟩
 ·exact Row.live h.row b c
 ·obtain⟨p,hp⟩:=List.getElem?_of_mem hu;rcases h.at hp with rfl|⟨_,_,_,_,_,_,_,_,_,_,_,_,_,cs',h2,_⟩
  ·cases c
  ·exact Row.live h2 b c
theorem K3.live {m:Nat}{H:I0}{x:Th E.D}{v:Value}(h:K3 E ρ m H S x v)(ho:Q1 x=true):∀b,Bk v b->b<H.size:=by
 cases x with
 |gone=>cases ho
 |box T l=>obtain⟨b,cs,rfl,h1,_⟩:=h;intro k hk;cases hk;grind
 |fzb T l=>cases ho
 |lst e t xs=>
  obtain⟨cs,h1,c⟩:=h;intro k hk;obtain⟨_,_,rfl⟩:=Row.form h1;exact Row.live h1 k hk
 |fz t xs=>cases ho
 |map m=>obtain⟨r,es,cl,rfl,h1,c⟩:=h;intro k hk;cases hk;grind
 |X0 e F t xs o=>
  obtain⟨cs,h⟩:=h;exact h.live
 |rof q i f=>cases ho
theorem a0X {α:Type}(k t:Nat)(v:α)(l:List (Nat×α)):F4 ((k,v) :: l) t=if k=t then some v else F4 l t:=by
 simp only[F4]
 by_cases h:k=t
 ·simp_all
 ·have:Nat.beq k t=false:=by rw[<-Bool.not_eq_true,Nat.beq_eq];exact h
  grind
theorem T8 (s:St E.D)(id j:Nat)(x:Th E.D):F0 (s.at id x) j=if id=j then x else F0 s j:=by
 grind [F0,St.at,a0X]
theorem l0N (s:St E.D)(j:Nat)(x:Th E.D):F0 (s.new x) j=if s.nid=j then x else F0 s j:=by
 grind [F0,St.new,a0X]
structure y0W (A:E4)(s:St E.D)(ρ ρ1:Nat->Value)(S S1:D0)(w w1:World)(nid1:Nat):Prop where
 cx:Cx A.w0 A.W0 A.S0 w1 S1
 kp:P0 w.heap S w1.heap S1
 hρ:∀i,i<s.nid->hd (ρ1 i)=hd (ρ i)
 hn:s.nid<=nid1
def b0V (s s1:St E.D)(ρ ρ1:Nat->Value)(S1:D0)(w w1:World)(id:Nat):Prop:=
 F0 s1 id=F0 s id/\id<s.nid/\ρ1 id=ρ id/\(Q1 (F0 s id)=true->∀k,Bk (ρ id) k->w1.heap[k]?=w.heap[k]?/\S1 k)
theorem Rp.step (h:Rp E A s ρ S a as w){nid1:Nat}{th1:List (Nat×Th E.D)}(p:y0W A s ρ ρ1 S S1 w w1 nid1)
  (d:∀id,b0V s { s with th:=th1,nid:=nid1 } ρ ρ1 S1 w w1 id\/
   (K3 E ρ1 nid1 w1.heap S1 (F0 { s with th:=th1,nid:=nid1 } id) (ρ1 id)/\(Q1 (F0 { s with th:=th1,nid:=nid1 } id)=true->∀k,Bk (ρ1 id) k->(S1 k/\¬A.S0 k/\Wr A.W0 A.w0 k)/\
    ∀j,j≠id->Q1 (F0 { s with th:=th1,nid:=nid1 } j)=true->¬Bk (ρ1 j) k)/\(nid1<=id->F0 { s with th:=th1,nid:=nid1 } id=.gone)))
  (R:∀r q i f,F0 { s with th:=th1,nid:=nid1 } r=.rof q i f->∀e F t xs,F0 { s with th:=th1,nid:=nid1 } q=.X0 e F t xs none->
   (b0V s { s with th:=th1,nid:=nid1 } ρ ρ1 S1 w w1 r/\b0V s { s with th:=th1,nid:=nid1 } ρ ρ1 S1 w w1 q)\/b06 w1.heap (hd (ρ1 q)) F.length i f (ρ1 r)):
  Rp E A { s with th:=th1,nid:=nid1 } ρ1 S1 a as w1:=by
 refine⟨p.cx,h.fr.mono p.hρ p.hn p.kp,h.stk.mono p.hρ p.hn p.kp,fun id=>?_,fun id ho k hk=>?_,fun i j U hi hj k hk v=>?_,fun id b2=>?_,fun r q i f hr e F t xs l=>?_,fun H1 S1 ha=>(h.kp H1 S1 ha).trans p.kp,fun i u ha=>⟨Nat.lt_of_lt_of_le (h.hp i u ha).1 p.hn,(p.hρ i (h.hp i u ha).1).trans (h.hp i u ha).2⟩⟩
 ·rcases d id with⟨e,g,x,y⟩|⟨h1,_⟩
  ·rw[e,x];exact(h.th id).mono p.hρ p.hn p.kp (fun ho b I=>(y ho b I).1)
  omega
 ·rcases d id with⟨e,g,x,y⟩|⟨_,C,_⟩
  ·rw[e]at ho;rw[x]at hk;exact⟨(y ho k hk).2,(h.ow id ho k hk).2⟩
  simp_all
 ·rcases d i with⟨e,g,x,y⟩|⟨_,C,_⟩
  ·rcases d j with⟨e',a1,J,b1⟩|⟨_,h2',_⟩
   ·rw[e]at hi;rw[e']at hj;rw[x]at hk;rw[J]at v;exact h.dj i j U hi hj k hk v
   grind
  grind
 ·rcases d id with⟨e,g,_,y⟩|⟨_,_,h3⟩
  ·have:=p.hn;grind
  simp_all
 ·rcases R r q i f hr e F t xs l with⟨⟨r1,_,r2,_⟩,⟨q1,_,q2,q3⟩⟩|h1
  ·rw[r1]at hr;rw[q1]at l;obtain⟨b,o,m,c,h1,C,h3,h4⟩:=h.rf r q i f hr e F t xs l;refine⟨b,o,m,c,by simp_all,C,h3,?_⟩;have:=(q3 (by rw[l];rfl) b (Bk.hd (by
    have z:=h.th q;rw[l]at z;obtain⟨cs,z⟩:=z;have:=z.row;rw[h1]at this ⊢;exact this.i0n O'))).1
   simp_all[O1]
  omega
theorem Rp.put (h:Rp E A s ρ S a as w) {d:Option Nat} {v:V E.D} {u:Value} (hd:b03 s.n ⟨d,.alloc 0,0,"",#[],none⟩=true) (hv:VS E ρ s.nid w.heap S v u):Rp E A (s.put d v) ρ S (a.put d u) as w:=by
 cases d with
 |none=>exact h
 |some t=>
  have ht:t<s.n:=by grind [b03,Nat.blt_eq]
  refine⟨h.cx,⟨by simp[Act.put,h.fr.size,St.put],by simp[Act.put,h.fr.defers],fun t' v' hl=>?_⟩,h.stk,h.th,h.ow,h.dj,h.lt,h.rf,h.kp,h.hp⟩;simp only[St.put,a0X]at hl;simp only[Act.put]
  by_cases e:t=t'
  ·subst e;simp only[if_true,Option.some.injEq]at hl;subst hl;have:(a.tmps.setIfInBounds t u).getD t undef=u:=by
    have hs:=h.fr.size
    simp_all
   rw[this];exact hv
  ·rw[if_neg e]at hl;have:(a.tmps.setIfInBounds t u).getD t' undef=a.tmps.getD t' undef:=by
    simp_all
   rw[this];exact h.fr.slot t' v' hl
def Rp.get (h:Rp E A s ρ S a as w){t:Nat}{v:V E.D}(b:F4 s.fr t=some v):VS E ρ s.nid w.heap S v (a.tmps.getD t undef):=h.fr.slot t v b
theorem VS.undef {m:Nat}{H:I0}(u:Value):VS E ρ m H S .undef u:=⟨[u],by unfold VC;simp,rfl⟩
def Rp.val (h:Rp E A s ρ S a as w)(x:Operand):VS E ρ s.nid w.heap S (N1 E s x) (a.eval x):=by
 cases x with
 |tmp t=>
  show VS E ρ s.nid w.heap S (match F4 s.fr t with|some v=>v|none=>.undef) (a.tmps.getD t Go.undef);cases b:F4 s.fr t with
  |some v=>exact h.get b
  |none=>exact VS.undef _
 |const v=>
  show VS E ρ s.nid w.heap S (V7 v) v;unfold V7;split<;>first|exact⟨[_],by rfl,rfl⟩|exact VS.undef _
 |global g=>exact VS.undef _
 |func f=>exact⟨[.func (.func f) #[] #[]],by unfold N1 VC VT;simp,rfl⟩
def C6 (ρ:Nat->Value)(i:Nat)(v:Value):Nat->Value:=fun j=>if j=i then v else ρ j
theorem W4 {i:Nat}{v:Value}:C6 ρ i v i=v:=by simp[C6]
theorem n5 {i j:Nat}{v:Value}(h:j≠i):C6 ρ i v j=ρ j:=by simp[C6,h]
def Rp.i7 (h:Rp E A s ρ S a as w){id:Nat}(hn:F0 s id≠.gone):id<s.nid:=by
 rcases Nat.lt_or_ge id s.nid with h1|h1
 ·exact h1
 ·exact absurd (h.lt id h1) hn
def Rp.c0a (h:Rp E A s ρ S a as w){r q f:Nat}{i:Int}(b:F0 s r=.rof q i f):q<s.nid:=by
 have:=h.th r;rw[b]at this;exact this.1
theorem Rp.new (h:Rp E A s ρ S a as w){x:Th E.D}{v:Value}(p:Below w.heap.size w w1)(I:∀k,Bk v k->w.heap.size<=k/\k<w1.heap.size)
  (hx:∀S1,P0 w.heap S w1.heap S1->(∀k,Bk v k->Q1 x=true->S1 k)->(∀k,S1 k->(Q1 x=true/\Bk v k)\/S k)->K3 E (C6 ρ s.nid v) (s.nid+1) w1.heap S1 x v) (b1:∀q i f,x≠.rof q i f:=by intros;simp):
  ∃S1,P0 w.heap S w1.heap S1/\Rp E A (s.new x) (C6 ρ s.nid v) S1 a as w1:=by
 have hk:P0 w.heap S w1.heap (fun k=>(Q1 x=true/\Bk v k)\/S k):=⟨p.size,fun b y hn=>⟨fun hh=>hh.elim (fun J=>by grind) hn,p.block b y⟩⟩
 have g:=h.cx.ext p;have hl:∀j,F0 { s with th:=(s.nid,x) :: s.th,nid:=s.nid+1 } j=if s.nid=j then x else F0 s j:=fun j=>l0N s j x;have d:∀j,j<s.nid->b0V s { s with th:=(s.nid,x) :: s.th,nid:=s.nid+1 } ρ (C6 ρ s.nid v) (fun k=>(Q1 x=true/\Bk v k)\/S k) w w1 j:=fun j o=>
  ⟨by grind,o,n5 O',fun ho k c=>⟨p.block k ((h.th j).live ho k c),.inr (h.ow j ho k c).1⟩⟩
 refine⟨_,hk,h.step (nid1:=s.nid+1) (th1:=(s.nid,x) :: s.th) ⟨g.more (fun _ h=>.inr h) (fun b z=>z.elim (fun J=>(I b J.2).2) (g.lt b)),hk,fun i hi=>by grind [n5],O'⟩ (fun id=>?_) fun r q i f C e F t xs hq=>.inl ?_⟩
 ·by_cases e:s.nid=id
  ·subst e;refine .inr ⟨?_,fun ho k c=>?_,fun hle=>O'⟩
   ·rw[hl,if_pos rfl,W4]
    simp_all
   ·rw[hl,if_pos rfl]at ho;rw[W4]at c;have a1:=I k c;refine⟨⟨.inl ⟨ho,c⟩,fun U=>by have:=h.cx.lt0 k U;have:=h.cx.size;omega,.inr (by have:=h.cx.size;omega)⟩,fun j o m l=>?_⟩;rw[hl,if_neg (fun e=>o e.symm)]at m;rw[n5 o]at l;have:=(h.th j).live m k l;omega
  ·by_cases R:id<s.nid
   ·simp_all
   ·rw[hl,if_neg e];refine .inr ⟨?_,fun ho=>?_,fun _=>h.lt id O'⟩
    ·rw[h.lt id O'];trivial
    ·rw[h.lt id O']at ho;cases ho
 ·rw[hl]at C;split at C
  ·simp_all
  ·have u:=h.c0a C;exact⟨d r (h.i7 (by simp_all)),d q u⟩
theorem Rp.turn (h:Rp E A s ρ S a as w){id:Nat}{x:Th E.D}{v:Value}(I:id<s.nid)(ho:Q1 (F0 s id)=true)(cx:Cx A.w0 A.W0 A.S0 w1 S1)(kp:P0 w.heap S w1.heap S1)(hs:∀k,S k->S1 k)
  (hb:∀k,k<w.heap.size->¬Bk (ρ id) k->w1.heap[k]?=w.heap[k]?) (C:v=ρ id)
  (hS:∀k,Bk v k->S1 k) (hx:K3 E ρ s.nid w1.heap S1 x v) (U:∀q i f,x≠.rof q i f:=by intros;simp) (z:∀e F t xs,x=.X0 e F t xs none->∀r i f,F0 s r=.rof id i f->b06 w1.heap (hd (ρ id)) F.length i f (ρ r):=by intro _ _ _ _ h;cases h):Rp E A (s.at id x) ρ S1 a as w1:=by
 subst C;have hl:∀j,F0 { s with th:=(id,x) :: s.th,nid:=s.nid } j=if id=j then x else F0 s j:=fun j=>T8 s id j x;have c:∀j,j≠id->j<s.nid->b0V s { s with th:=(id,x) :: s.th,nid:=s.nid } ρ ρ S1 w w1 j:=fun j l d=>
  ⟨by grind,d,rfl,fun b k hk=>⟨hb k ((h.th j).live b k hk) (fun R=>h.dj id j (Ne.symm l) ho b k R hk),hs k (h.ow j b k hk).1⟩⟩
 refine h.step (nid1:=s.nid) (th1:=(id,x) :: s.th) ⟨cx,kp,fun _ _=>rfl,Nat.le_refl _⟩ (fun j=>?_) fun r q i f u e F t xs y=>?_
 ·by_cases e:id=j
  ·subst e;refine .inr ⟨by simp_all,fun _ k hk=>?_,fun hle=>O'⟩;obtain⟨h1,J⟩:=h.ow id ho k hk;refine⟨⟨hS k hk,J⟩,fun j l b o=>?_⟩;rw[hl,if_neg (fun e=>l e.symm)]at b;exact h.dj id j (fun e=>l e.symm) ho b k hk o
  ·by_cases d:j<s.nid
   ·grind
   ·rw[hl,if_neg e];refine .inr ⟨?_,fun b=>?_,fun _=>h.lt j O'⟩
    ·rw[h.lt j O'];trivial
    ·rw[h.lt j O']at b;cases b
 ·rw[hl]at u;split at u
  ·simp_all
  ·rename_i p;have m:=h.c0a u;rw[hl]at y;split at y
   ·simp_all
   ·rename_i g;exact .inl ⟨c r (Ne.symm p) (h.i7 (by simp_all)),c q (Ne.symm g) m⟩
def Rp.gone (h:Rp E A s ρ S a as w)(id:Nat):Rp E A (s.at id .gone) ρ S a as w:=by
 have hl:∀j,F0 (s.at id .gone) j=if id=j then .gone else F0 s j:=fun j=>T8 s id j .gone;refine⟨h.cx,h.fr,h.stk,fun j=>?_,fun j b=>?_,fun i j g hi b=>?_,fun j b=>?_,fun r q i f c e F t xs d=>?_,h.kp,h.hp⟩
 ·rw[hl];split
  ·trivial
  ·exact h.th j
 ·rw[hl]at b;split at b
  ·cases b
  ·exact h.ow j b
 ·rw[hl]at hi b;split at hi
  ·cases hi
  ·split at b
   ·cases b
   ·exact h.dj i j g hi b
 ·rw[hl];split
  ·rfl
  ·exact h.lt j b
 ·rw[hl]at c d;split at c
  ·cases c
  ·split at d
   ·cases d
   ·exact h.rf r q i f c e F t xs d
def Rp.ext (h:Rp E A s ρ S a as w)(c:Below w.heap.size w w1):Rp E A s ρ S a as w1:=
 have b:∀j,j<s.nid->b0V s { s with th:=s.th,nid:=s.nid } ρ ρ S w w1 j:=fun j d=>⟨rfl,d,rfl,fun ho k hk=>⟨c.block k ((h.th j).live ho k hk),(h.ow j ho k hk).1⟩⟩
 h.step (nid1:=s.nid) (th1:=s.th) ⟨h.cx.ext c,P0.ext S c,fun _ _=>rfl,Nat.le_refl _⟩ (fun id=>by
  by_cases g:id<s.nid
  ·simp_all
  ·have:F0 { s with th:=s.th,nid:=s.nid } id=.gone:=h.lt id O';rw[this];exact .inr ⟨trivial,(fun ho=>by cases ho),fun _=>rfl⟩) fun r q i f l e F t xs _=>.inl ⟨b r (h.i7 (by simp_all)),b q (h.c0a l)⟩
end
end
