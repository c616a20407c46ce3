/- P. Its conditions: none. -/
import Derived.Test.YtbccffnofdnpoaaGreatAX3
set_option linter.all false
namespace Go.X
open Go.V Go.RowKit
section
variable (E:Env)
def a0O:(ts:List U)->Ty (HL E.D ts)
 |[]=>G5
 |t :: ts=>O1 (L0 E t) (a0O ts)
structure G2:Prop where
 st:∀i H S cs x,(E.ty i).R H S cs x↔(a0O E (E.fs i)).R H S cs (E.un i x)
 sz:∀i,(E.ty i).sz=(a0O E (E.fs i)).sz
 unmk:∀i h,E.un i (E.mkS i h)=h
 mix:E.P.follows .mixedOrders=true
def hd (v:Value):Value:=match v with
 |.tuple a=>a.toList.headD undef
 |v=>v
def tl (v:Value):List Value:=match v with
 |.tuple a=>a.toList.tail
 |_=>[]
def Q5:List Y6->Nat
 |[]=>0
 |.inl (_,o) :: p=>o+Q5 p
 |.inr (i,z,_) :: p=>i.toNat*z+Q5 p
def C8:List Y6->Prop
 |[]=>True
 |.inl _ :: p=>C8 p
 |.inr (i,_,m) :: p=>(0<=i/\i<m)/\C8 p
def O4:Bool->List Value->Value
 |true,cs=>.agg cs.toArray
 |false,cs=>cs.headD undef
def vl {D:Nat->Type}(v:V D)(cs:List Value):Value:=O4 (T4 v) cs
section
variable (ρ:Nat->Value)(n:Nat)(H:M0)(S:E0)
mutual
def VC:V E.D->List Value->Prop
 |.undef,cs=>∃v,cs=[v]
 |.kb b,cs=>cs=[.bool b]
 |.ki k m,cs=>cs=[.int k m]
 |.d t x,cs=>(L0 E t).R H S cs x
 |.nil,cs=>cs=[.slice none 0 0]
 |.nilp,cs=>cs=[.pointer none]
 |.nilif,cs=>cs=[.nilIface]
 |.nilfn,cs=>cs=[.nilFunc]
 |.sl id,cs=>id<n/\(hd (ρ id)).oneCell'=true/\cs=[hd (ρ id)]
 |.pb id off p,cs=>id<n/\C8 p/\∃b,hd (ρ id)=.pointer (some ⟨b,0,none⟩)/\cs=[.pointer (some ⟨b,off+Q5 p,none⟩)]
 |.pe id i z p,cs=>id<n/\C8 p/\∃b o m c,hd (ρ id)=.slice (some ⟨b,o,none⟩) m c/\(0<=i/\i<m)/\cs=[.pointer (some ⟨b,o+i.toNat*z+Q5 p,none⟩)]
 |.pd t x,cs=>∃v,cs=[v]/\PtR (L0 E t) H S v x
 |.df t xs,cs=>∃A,cs=[.slice A xs.length xs.length]/\Sl (L0 E t) H S A xs.length xs
 |.mp id,cs=>id<n/\(hd (ρ id)).oneCell'=true/\cs=[hd (ρ id)]
 |.agg l,cs=>F1 l cs
 |.tup l,cs=>∃us,cs=[.tuple us.toArray]/\VT l us
 |.fn f l,cs=>∃us,cs=[.func (.func f) #[] us.toArray]/\VT l us
 |.ifc T v,cs=>∃c,VC v c/\cs=[.iface T (vl v c)]
def F1:List (V E.D)->List Value->Prop
 |[],cs=>cs=[]
 |v :: l,cs=>∃c1 c2,cs=c1++c2/\VC v c1/\F1 l c2
def VT:List (V E.D)->List Value->Prop
 |[],us=>us=[]
 |v :: l,us=>∃c b,VC v c/\us=vl v c :: b/\VT l b
end
def VS (v:V E.D)(u:Value):Prop:=∃c,VC E ρ n H S v c/\u=vl v c
end
variable {E}
section
variable {ρ ρ':Nat->Value}{n n':Nat}{H H':M0}{S S':E0}
mutual
def VC.mono (hρ:∀i,i<n->hd (ρ' i)=hd (ρ i))(hn:n<=n')(k:Y0 H S H' S'):∀(v:V E.D) (cs:List Value),VC E ρ n H S v cs->VC E ρ' n' H' S' v cs
 |.undef,cs,h=>h
 |.kb b,cs,h=>h
 |.ki _ m,cs,h=>h
 |.d t x,cs,h=>(L0 E t).J1 k h
 |.nil,cs,h=>h
 |.nilp,cs,h=>h
 |.nilif,cs,h=>h
 |.nilfn,cs,h=>h
 |.sl id,cs,⟨h1,g,e⟩=>⟨Nat.lt_of_lt_of_le h1 hn,by simp_all,by simp_all⟩
 |.pb id off p,cs,⟨h1,g,b,e,j⟩=>⟨Nat.lt_of_lt_of_le h1 hn,g,b,(hρ id h1).trans e,j⟩
 |.pe id i z p,cs,⟨h1,g,b,o,m,c,e,j⟩=>⟨Nat.lt_of_lt_of_le h1 hn,g,b,o,m,c,(hρ id h1).trans e,j⟩
 |.pd t x,cs,⟨v,h1,e⟩=>⟨v,h1,e.J1 k⟩
 |.df t xs,cs,⟨A,h1,e⟩=>⟨A,h1,e.J1 k⟩
 |.mp id,cs,⟨h1,g,e⟩=>⟨Nat.lt_of_lt_of_le h1 hn,by simp_all,by simp_all⟩
 |.agg l,cs,h=>F1.mono hρ hn k l cs h
 |.tup l,cs,⟨us,h1,e⟩=>⟨us,h1,VT.mono hρ hn k l us e⟩
 |.fn f l,cs,⟨us,h1,e⟩=>⟨us,h1,VT.mono hρ hn k l us e⟩
 |.ifc T v,cs,⟨c,h1,e⟩=>⟨c,VC.mono hρ hn k v c h1,e⟩
def F1.mono (hρ:∀i,i<n->hd (ρ' i)=hd (ρ i))(hn:n<=n')(k:Y0 H S H' S'):∀(l:List (V E.D)) (cs:List Value),F1 E ρ n H S l cs->F1 E ρ' n' H' S' l cs
 |[],cs,h=>h
 |v :: l,cs,⟨c1,c2,h,h1,b⟩=>⟨c1,c2,h,VC.mono hρ hn k v c1 h1,F1.mono hρ hn k l c2 b⟩
def VT.mono (hρ:∀i,i<n->hd (ρ' i)=hd (ρ i))(hn:n<=n')(k:Y0 H S H' S'):∀(l:List (V E.D)) (cs:List Value),VT E ρ n H S l cs->VT E ρ' n' H' S' l cs
 |[],cs,h=>h
 |v :: l,cs,⟨c,u,h,h1,b⟩=>⟨c,u,VC.mono hρ hn k v c h,h1,VT.mono hρ hn k l u b⟩
end
def VS.mono (hρ:∀i,i<n->hd (ρ' i)=hd (ρ i))(hn:n<=n')(k:Y0 H S H' S'){v:V E.D}{u:Value}(h:VS E ρ n H S v u):VS E ρ' n' H' S' v u:=by
 obtain⟨c,h1,b⟩:=h;exact⟨c,h1.mono hρ hn k,b⟩
def VC.len (h:G2 E):∀{v:V E.D} {cs:List Value},VC E ρ n H S v cs->(∀l,v≠.agg l)->cs.length=sz1 E v:=by
 intro v cs c hl;cases v with
 |d t x=>exact(L0 E t).len c
 |agg l=>simp_all
 |undef=>obtain⟨v,rfl⟩:=c;rfl
 |kb b=>subst c;rfl
 |ki k m=>subst c;rfl
 |nil=>subst c;rfl
 |nilp=>subst c;rfl
 |nilif=>subst c;rfl
 |nilfn=>subst c;rfl
 |sl id=>obtain⟨_,_,rfl⟩:=c;rfl
 |pb=>obtain⟨_,_,_,_,rfl⟩:=c;rfl
 |pe=>obtain⟨_,_,_,_,_,_,_,_,rfl⟩:=c;rfl
 |pd=>obtain⟨_,rfl,_⟩:=c;rfl
 |df=>obtain⟨_,rfl,_⟩:=c;rfl
 |mp=>obtain⟨_,_,rfl⟩:=c;rfl
 |tup=>obtain⟨_,rfl,_⟩:=c;rfl
 |fn=>obtain⟨_,rfl,_⟩:=c;rfl
 |ifc=>unfold VC at c;obtain⟨_,_,rfl⟩:=c;rfl
def F1.nil:F1 E ρ n H S [] ([]:List Value):=by simp[F1]
def F1.one {v:V E.D}{cs:List Value}(h:VC E ρ n H S v cs):F1 E ρ n H S [v] cs:=by
 simp_all[F1]
def F1.a0X {v:V E.D}{cs:List Value}(h:F1 E ρ n H S [v] cs):VC E ρ n H S v cs:=by
 simp_all[F1]
def F1.app:∀{l l':List (V E.D)} {c c':List Value},F1 E ρ n H S l c->F1 E ρ n H S l' c'->F1 E ρ n H S (l++l') (c++c')
 |[],l',c,c',h,b=>by simp_all[F1]
 |v :: l,l',c,c',h,b=>by
  obtain⟨c1,c2,rfl,h1,d⟩:=h;exact⟨c1,c2++c',V',h1,F1.app d b⟩
theorem F1.k0O:∀{l l':List (V E.D)} {c:List Value},F1 E ρ n H S (l++l') c->∃c1 c2,c=c1++c2/\F1 E ρ n H S l c1/\F1 E ρ n H S l' c2
 |[],l',c,h=>⟨[],c,rfl,F1.nil,h⟩
 |v :: l,l',c,h=>by
  obtain⟨c1,c2,rfl,h1,b⟩:=h;obtain⟨d1,d2,rfl,e,d⟩:=F1.k0O b;refine⟨c1++d1,d2,V',?_,d⟩;unfold F1
  grind
def z0A:∀(ts:List U) (h:HL E.D ts) (cs:List Value),(a0O E ts).R H S cs h->F1 E ρ n H S (o0r ts h) cs
 |[],_,cs,h=>by exact h
 |t :: ts,h,cs,hr=>by
  obtain⟨c1,c2,rfl,h1,b⟩:=hr;unfold o0r F1;exact⟨c1,c2,rfl,h1,z0A ts h.2 c2 b⟩
def G0t {α:Type}(d:α)(xs:List α)(j:Nat)(h:j<xs.length):@gt α ⟨d⟩ xs (j:Int)=xs[j]:=by
 simp[gt,h]
theorem A0f (t:U)(xs:List (Den E.D t)):∀(m j:Nat) (cs:List Value),j+m=xs.length->cs.length=m*(L0 E t).sz->
  (∀i,i<m->∀x,xs[j+i]?=some x->(L0 E t).R H S ((cs.drop (i*(L0 E t).sz)).take (L0 E t).sz) x)->F1 E ρ n H S (elts E t xs m j) cs
 |0,j,cs,_,hl,_=>by
  simp_all[elts,F1.nil]
 |m+1,j,cs,hj,hl,hr=>by
  have b:j<xs.length:=O'
  have c:=hr 0 O' xs[j] V';refine⟨cs.take (L0 E t).sz,cs.drop (L0 E t).sz,(List.take_append_drop _ _).symm,?_,?_⟩
  ·simp_all[VC,r7,G0t]
  ·refine A0f t xs m (j+1) _ O' (by grind) fun i hi x d=>?_
   grind [List.drop_drop]
def p0X (e:G2 E){v:V E.D}{l:List (V E.D)}(h:i04 E v=some l){cs:List Value}(d:VC E ρ n H S v cs):F1 E ρ n H S l cs:=by
 cases v<;>simp only[i04]at h<;>try cases h
 rename_i t x;cases t<;>simp only[]at h<;>try cases h
 ·rename_i i;exact z0A _ _ _ ((e.st i H S cs x).1 d)
 ·rename_i m t;obtain⟨h1,b⟩:=d;refine A0f t x m 0 cs O' (by rw[b.1,h1]) fun i hi y c=>?_;rw[Nat.zero_add]at c;exact b.2 i y c
theorem b00 (d:G2 E):∀(k off:Nat) (l a b:List (V E.D)),w9 E k off l=some (a,b)->∀cs,F1 E ρ n H S l cs->∃c1 c2,cs=c1++c2/\c1.length=off/\F1 E ρ n H S a c1/\F1 E ρ n H S b c2
 |0,_,_,_,_,h=>by grind [w9]
 |k+1,0,l,a,b,h=>by
  intro cs c;obtain⟨rfl,rfl⟩:=h;exact⟨[],cs,rfl,rfl,F1.nil,c⟩
 |k+1,off+1,[],a,b,h=>by grind [w9]
 |k+1,off+1,v :: r,a,b,h=>by
  intro cs c;obtain⟨c1,c2,rfl,h1,e⟩:=c;simp only[w9]at h;split at h
  ·rename_i l hl;have f:v=.agg l:=by cases v<;>simp[f0K]at hl;simp_all
   subst f;exact b00 d k _ _ a b h _ (h1.app e)
  ·have f:∀l,v≠.agg l:=by grind [f0K]
   have hlen:=h1.len d f;split at h
   ·rename_i hle;split at h
    ·rename_i g b' i;simp only[Option.some.injEq,Prod.mk.injEq]at h;obtain⟨rfl,rfl⟩:=h;obtain⟨d1,d2,rfl,hd,ha,j⟩:=b00 d k _ r g b' i c2 e;refine⟨c1++d1,d2,V',by simp_all,?_,j⟩;unfold F1
     grind
    grind
   ·split at h
    ·rename_i l he;exact b00 d k _ _ a b h _ ((p0X d he h1).app e)
    grind
theorem h0d (f:G2 E){off m:Nat}{l a b c:List (V E.D)}(h:a0K E off m l=some (a,b,c)){cs:List Value}(e:F1 E ρ n H S l cs):
  ∃c1 c2 c3,cs=c1++(c2++c3)/\c1.length=off/\c2.length=m/\F1 E ρ n H S a c1/\F1 E ρ n H S b c2/\F1 E ρ n H S c c3:=by
 unfold a0K at h;split at h
 ·rename_i j b' h1;split at h
  ·rename_i o c' g;obtain⟨c1,d,rfl,hl,ha,hd⟩:=b00 f _ _ _ _ _ h1 cs e;obtain⟨c2,c3,rfl,i,p,k⟩:=b00 f _ _ _ _ _ g d hd
   grind
  grind
 grind
theorem g0t (d:G2 E){c:Bool}{m:List (V E.D)}{v:V E.D}(h:asV E c m=some v){cs:List Value}(b:F1 E ρ n H S m cs):VC E ρ n H S v cs/\T4 v=c:=by
 unfold asV at h;split at h
 ·split at h
  ·split at h
   ·rename_i ha;simp only[Option.some.injEq]at h;subst h;exact⟨b.a0X,ha⟩
   ·simp only[Option.some.injEq]at h;subst h;exact⟨b,rfl⟩
  ·simp only[Option.some.injEq]at h;subst h;exact⟨b,rfl⟩
 ·split at h
  ·split at h
   ·rename_i ha;simp only[Option.some.injEq]at h;subst h;exact⟨b.a0X,ha⟩
   ·split at h
    ·rename_i w he;split at h
     ·rename_i ha;simp only[Option.some.injEq]at h;subst h;exact⟨(p0X d he b.a0X).a0X,ha⟩
     grind
    grind
  grind
end
def D1:Value->Option Nat
 |.pointer (some a)=>some a.block
 |.slice (some a) _ (_+1)=>some a.block
 |.map r=>r
 |_=>none
def Bk (v:Value)(k:Nat):Prop:=match v with
 |.tuple a=>∃u∈a.toList,D1 u=some k
 |v=>D1 v=some k
def H7:Value:=.slice none 0 0
def c0m {a:Addr}{m c:Nat}(h:0<c):D1 (.slice (some a) m c)=some a.block:=by
 cases c with
 |zero=>omega
 |succ c=>rfl
def a07 {a:Addr}{m c k:Nat}(h:D1 (.slice (some a) m c)=some k):0<c/\a.block=k:=by
 cases c with
 |zero=>cases h
 |succ c=>cases h;omega
def Row (H:M0)(e:TypeId)(sz:Nat)(v:Value)(n:Nat)(cs:List Value):Prop:=
 cs.length=n*sz/\((n=0/\∃a,v=.slice a 0 0)\/
  ∃g o cap cur,v=.slice (some ⟨g,o*sz,none⟩) n cap/\0<cap/\H[g]?=some (.cells cur (if e<Qe then e else e-Qe) (0,0))/\n<=cap/\o+cap<=maxLen/\cur.size=(o+cap)*sz/\(cur.toList.drop (o*sz)).take (n*sz)=cs/\(e<Qe->o=0))
def Row.ofV {H:M0}{e sz n:Nat}{v:Value}{cs:List Value}(he:e<Qe)(h:Go.V.Row H e sz v n cs):Row H e sz v n cs:=by
 obtain⟨b,⟨h1,f⟩|⟨g,cap,cur,d,r⟩⟩:=h
 ·exact⟨b,.inl ⟨f,none,h1⟩⟩
 ·cases cap with
  |zero=>
   have hn:n=0:=by have:=r.2.1;omega
   subst hn;exact⟨b,.inl ⟨rfl,_,d⟩⟩
  |succ c=>exact⟨b,.inr ⟨g,0,_,cur,by rw[Nat.zero_mul];exact d,Nat.succ_pos _,by rw[if_pos he];exact r.1,r.2.1,by have:=r.2.2.1;omega,by rw[Nat.zero_add];exact r.2.2.2.1,by rw[Nat.zero_mul,List.drop_zero];exact r.2.2.2.2,fun _=>rfl⟩⟩
theorem Row.of {w:World}{B:Nat}{e:TypeId}{sz:Nat}{v:Value}{n:Nat}{cs:List Value}(he:e<Qe)(h:w.ownsRow B e sz v n cs):Row w.heap e sz v n cs:=Row.ofV he (Go.V.Row.of h)
def Row.toQ {H:M0}{e sz n:Nat}{v:Value}{cs:List Value}(he:e<Qe)(h:Row H e sz v n cs):Row H (Qe+e) sz v n cs:=by
 obtain⟨b,h1|⟨g,o,cap,cur,j,hp,hg,f,c,d,i,k⟩⟩:=h
 ·exact⟨b,.inl h1⟩
 ·rw[if_pos he]at hg;exact⟨b,.inr ⟨g,o,cap,cur,j,hp,by rw[if_neg (show ¬Qe+e<Qe from O'),Nat.add_sub_cancel_left];exact hg,f,c,d,i,fun h=>absurd h (show ¬Qe+e<Qe from O')⟩⟩
def U5 (E:Env)(H:M0)(S:E0)(e:Nat)(u:U)(xs:List (Den E.D u))(v:Value):Prop:=∃cs,Row H e (L0 E u).sz v xs.length cs/\V1 (L0 E u) H S cs xs
def d0h (pl:List Value):Prop:=∀(i j:Nat) (v b:Value),i≠j->pl[i]?=some v->pl[j]?=some b->∀k,D1 v=some k->D1 b≠some k
def rowAt (F:List Nat)(i:Nat)(f:Nat):Nat:=i*F.length+f
def e0z (F:List Nat)(o:Option (Int×Nat))(cs:List Value):List Value:=match o with
 |none=>cs
 |some (i,f)=>cs.set (rowAt F i.toNat f) H7
structure N7 (E:Env)(H:M0)(S:E0)(e:Nat)(F:List Nat)(t:U)(xs:List (Den E.D t))(o:Option (Int×Nat))(v:Value)(cs:List Value):Prop where
 row:Row H e (L0 E t).sz (hd v) xs.length cs
 tl:tl v=e0z F o cs
 ok:A9 E t F=true
 bd:∀j g,o=some (j,g)->0<=j/\g<F.length
 rows:∀(i:Nat) (x:Den E.D t) (f:Nat) (u:U) (ys:List (Den E.D u)) (e':Nat),xs[i]?=some x->L3 E t x f=some ⟨u,ys⟩->F[f]?=some e'->o≠some ((i:Int),f)->∃r,cs[rowAt F i f]?=some r/\U5 E H S e' u ys r
 one:∀u∈cs,u.oneCell'=true
 ap:d0h (hd v :: Go.X.tl v)
def M4 (E:Env)(ρ:Nat->Value)(n:Nat)(H:M0)(S:E0)(x:Th E.D)(v:Value):Prop:=match x with
 |.gone=>True
 |.box T l=>∃b cs,v=.pointer (some ⟨b,0,none⟩)/\H[b]?=some (.cells cs.toArray T (0,0))/\F1 E ρ n H S l cs/\∀u∈cs,u.oneCell'=true
 |.fzb T l=>∃b cs,v=.pointer (some ⟨b,0,none⟩)/\H[b]?=some (.cells cs.toArray T (0,0))/\F1 E ρ n H S l cs/\(∀u∈cs,u.oneCell'=true)/\¬S b
 |.lst e t xs=>∃cs,Row H e (L0 E t).sz v xs.length cs/\V1 (L0 E t) H S cs xs
 |.fz t xs=>∃A c,hd v=.slice A xs.length c/\Sl (L0 E t) H S A c xs
 |.map m=>∃r es cl,v=.map (some r)/\H[r]?=some (.map es cl)/\es.toList.map (fun e=>(e.key,e.val))=m.map (fun p=>(Value.int .i64 p.1,Value.int .i64 p.2))
 |.G1 e F t xs o=>∃cs,N7 E H S e F t xs o v cs
 |.rof q _ _=>q<n/\v.oneCell'=true/\hd v=v
def c0D (H:M0)(v:Value)(n:Nat)(i:Int)(f:Nat)(r:Value):Prop:=∃b o m c,v=.slice (some ⟨b,o,none⟩) m c/\(0<=i/\i<m)/\f<n/\D2 H b (o+(i.toNat*n+f))=some r
structure A5 where
 w0:World
 W0:E0
 S0:E0
 anc:M0->E0->Prop:=fun _ _=>False
 hda:Nat->Value->Prop:=fun _ _=>False
structure b0H (E:Env)(ρ:Nat->Value)(m:Nat)(H:M0)(S:E0)(n:Nat)(fr:Fr E.D)(a:Act):Prop where
 size:a.tmps.size=n
 defers:a.defers=[]
 slot:∀t v,C5 fr t=some v->VS E ρ m H S v (a.tmps.getD t undef)
def a0F (E:Env)(ρ:Nat->Value)(m:Nat)(H:M0)(S:E0):List (Nat×Fr E.D)->List Act->Prop
 |[],[]=>True
 |p :: l,a :: as=>b0H E ρ m H S p.1 p.2 a/\a0F E ρ m H S l as
 |_,_=>False
structure Rp (E:Env)(A:A5)(s:St E.D)(ρ:Nat->Value)(S:E0)(a:Act)(as:List Act)(w:World):Prop where
 cx:Cx A.w0 A.W0 A.S0 w S
 fr:b0H E ρ s.nid w.heap S s.n s.fr a
 stk:a0F E ρ s.nid w.heap S s.stk as
 th:∀id,M4 E ρ s.nid w.heap S (G0 s id) (ρ id)
 ow:∀id,E2 (G0 s id)=true->∀k,Bk (ρ id) k->S k/\¬A.S0 k/\Wr A.W0 A.w0 k
 dj:∀i j,i≠j->E2 (G0 s i)=true->E2 (G0 s j)=true->∀k,Bk (ρ i) k->¬Bk (ρ j) k
 lt:∀id,s.nid<=id->G0 s id=.gone
 rf:∀r q i f,G0 s r=.rof q i f->∀e F t xs,G0 s q=.G1 e F t xs none->c0D w.heap (hd (ρ q)) F.length i f (ρ r)
 kp:∀H1 S1,A.anc H1 S1->Y0 H1 S1 w.heap S
 hp:∀i u,A.hda i u->i<s.nid/\hd (ρ i)=u
section
variable {A:A5}{s s1:St E.D}{ρ ρ1:Nat->Value}{S S1:E0}{a:Act}{as:List Act}{w w1:World}
def b0H.mono {m b:Nat}{H H':M0}{n:Nat}{fr:Fr E.D}(hρ:∀i,i<m->hd (ρ1 i)=hd (ρ i))(hn:m<=b)(k:Y0 H S H' S1)(h:b0H E ρ m H S n fr a):b0H E ρ1 b H' S1 n fr a:=
 ⟨h.size,h.defers,fun t v c=>(h.slot t v c).mono hρ hn k⟩
def a0F.mono {m b:Nat}{H H':M0}(hρ:∀i,i<m->hd (ρ1 i)=hd (ρ i))(hn:m<=b)(k:Y0 H S H' S1):∀{l:List (Nat×Fr E.D)} {as:List Act},a0F E ρ m H S l as->a0F E ρ1 b H' S1 l as
 |[],[],h=>h
 |[],_ :: _,h=>h
 |_ :: _,[],h=>h
 |p :: l,a :: as,⟨h1,c⟩=>⟨h1.mono hρ hn k,a0F.mono hρ hn k c⟩
def U5.mono {H H':M0}{e:Nat}{u:U}{xs:List (Den E.D u)}{v:Value}(k:Y0 H S H' S1)(f:∀b,D1 v=some b->H'[b]?=H[b]?)(h:U5 E H S e u xs v):U5 E H' S1 e u xs v:=by
 obtain⟨cs,⟨c,h1⟩,d⟩:=h;refine⟨cs,⟨c,?_⟩,d.J1 k⟩;rcases h1 with h1|⟨g,o,cap,cur,rfl,hp,hg,r⟩
 ·exact .inl h1
 ·exact .inr ⟨g,o,cap,cur,rfl,hp,(f g (c0m hp)).trans hg,r⟩
def Row.mono {H H':M0}{e n m:Nat}{v:Value}{cs:List Value}(d:∀b,D1 v=some b->H'[b]?=H[b]?)(h:Row H e n v m cs):Row H' e n v m cs:=by
 obtain⟨c,h1⟩:=h;refine⟨c,?_⟩;rcases h1 with h1|⟨g,o,cap,cur,rfl,hp,hg,r⟩
 ·exact .inl h1
 ·exact .inr ⟨g,o,cap,cur,rfl,hp,(d g (c0m hp)).trans hg,r⟩
def Row.form {H:M0}{e n m:Nat}{v:Value}{cs:List Value}(h:Row H e n v m cs):∃a c,v=.slice a m c:=by
 rcases h.2 with⟨rfl,a,rfl⟩|⟨g,o,cap,cur,rfl,_⟩<;>exact⟨_,_,rfl⟩
theorem Row.live {H:M0}{e n m:Nat}{v:Value}{cs:List Value}(h:Row H e n v m cs):∀b,D1 v=some b->b<H.size:=by
 intro k hk;rcases h.2 with⟨rfl,a,rfl⟩|⟨g,o,cap,cur,rfl,hp,hg,r⟩
 ·cases a<;>cases hk
 ·obtain⟨_,rfl⟩:=a07 hk;exact getElem?_lt hg
def Row.cap {H:M0}{e n m c:Nat}{a:Option Addr}{k:Nat}{cs:List Value}(h:Row H e n (.slice a m c) k cs):m=k/\k<=c:=by
 rcases h.2 with⟨rfl,a,h1⟩|⟨g,o,cap,cur,h1,hp,hg,r,_⟩
 ·cases h1;exact⟨rfl,Nat.le_refl _⟩
 ·cases h1;exact⟨rfl,r⟩
def Row.j0J {H:M0}{e n m c:Nat}{a:Addr}{k:Nat}{cs:List Value}(h:Row H e n (.slice (some a) m c) k cs)(hm:0<m):D1 (.slice (some a) m c)=some a.block:=c0m (by have:=h.cap;omega)
def e0p {v:Value}{k:Nat}:Bk v k↔D1 (hd v)=some k\/∃u∈tl v,D1 u=some k:=by
 cases v with
 |tuple a=>
  obtain⟨l⟩:=a;cases l with
  |nil=>
       constructor
       ·rintro⟨u,hu,_⟩;cases hu
       ·rintro(h|⟨u,hu,_⟩)
        ·cases h
        ·cases hu
  |cons x l=>
   show(∃u∈x :: l,D1 u=some k)↔D1 x=some k\/∃u∈l,D1 u=some k;simp
 |_=>exact⟨.inl,fun h=>h.elim id fun⟨_,h,_⟩=>by cases h⟩
def Bk.hd {v:Value}{k:Nat}(h:D1 (Go.X.hd v)=some k):Bk v k:=e0p.2 (.inl h)
theorem Bk.tl {v u:Value}{k:Nat}(hu:u∈Go.X.tl v)(h:D1 u=some k):Bk v k:=e0p.2 (.inr ⟨u,hu,h⟩)
theorem f0Q {F:List Nat}{o:Option (Int×Nat)}{cs:List Value}{i:Nat}{f:Nat}{r:Value}(b:f<F.length)(c:∀j g,o=some (j,g)->0<=j/\g<F.length)(h:cs[rowAt F i f]?=some r)(hn:o≠some ((i:Int),f)):(e0z F o cs)[rowAt F i f]?=some r:=by
 unfold e0z;split
 ·exact h
 ·rename_i j g;rw[List.getElem?_set_ne]
  ·exact h
  ·intro e;unfold rowAt at e;have h1:j.toNat=i/\g=f:=by
    grind [Nat.mul_comm,Nat.mul_add_div,Nat.div_eq_of_lt]
   grind
def M4.mono {m C:Nat}{H H':M0}{x:Th E.D}{v:Value}(hρ:∀i,i<m->hd (ρ1 i)=hd (ρ i))(hn:m<=C)(k:Y0 H S H' S1)(p:E2 x=true->∀b,Bk v b->H'[b]?=H[b]?)(h:M4 E ρ m H S x v):M4 E ρ1 C H' S1 x v:=by
 cases x with
 |gone=>trivial
 |box T l=>
  obtain⟨b,cs,rfl,h1,g,j⟩:=h;exact⟨b,cs,rfl,(p rfl b rfl).trans h1,g.mono hρ hn k,j⟩
 |fzb T l=>
  obtain⟨b,cs,rfl,h1,g,j,y⟩:=h;obtain⟨R,k2⟩:=k.blk b (getElem?_lt h1) y;exact⟨b,cs,rfl,k2.trans h1,g.mono hρ hn k,j,R⟩
 |lst e t xs=>
  obtain⟨cs,h1,g⟩:=h;obtain⟨_,_,rfl⟩:=Row.form h1;exact⟨cs,Row.mono (fun b d=>p rfl b d) h1,g.J1 k⟩
 |fz t xs=>
  obtain⟨A,c,e,h⟩:=h;exact⟨A,c,e,h.J1 k⟩
 |map m=>
  obtain⟨r,es,cl,rfl,h1,g⟩:=h;exact⟨r,es,cl,rfl,(p rfl r rfl).trans h1,g⟩
 |G1 e F t xs o=>
  obtain⟨cs,h⟩:=h;refine⟨cs,Row.mono (fun b d=>p rfl b (Bk.hd d)) h.row,h.tl,h.ok,h.bd,fun i x f u ys e' h1 g j y=>?_,h.one,h.ap⟩;obtain⟨r,z,J⟩:=h.rows i x f u ys e' h1 g j y;refine⟨r,z,J.mono k fun b d=>p rfl b ?_⟩;have I:=f0Q (List.getElem?_eq_some_iff.1 j).1 h.bd z y;rw[<-h.tl]at I;exact Bk.tl (List.mem_of_getElem? I) d
 |rof q i f=>exact⟨Nat.lt_of_lt_of_le h.1 hn,h.2⟩
theorem u0C {D:Nat->Type}:∀{l:List U} (h:HL D l) {f:Nat},b07 l=true->f<l.length->∃u y,F6 l h f=some ⟨.list u,y⟩
 |[],_,f,_,b=>by grind
 |t :: l,h,0,hb,_=>by
  simp only[b07,Bool.and_eq_true]at hb;cases t<;>first|(exact⟨_,_,rfl⟩)|simp_all[i0t]
 |t :: l,h,f+1,hb,b=>by
  simp only[b07,Bool.and_eq_true]at hb;exact u0C (l:=l) h.2 hb.2 (by simp_all)
def d01 {t:U}{F:List Nat}(h:A9 E t F=true):(L0 E t).sz=F.length/\∀(x:Den E.D t) f,f<F.length->∃u ys,L3 E t x f=some ⟨u,ys⟩:=by
 simp only[A9,Bool.and_eq_true,Nat.beq_eq]at h;obtain⟨⟨h1,d⟩,b⟩:=h;refine⟨h1,fun x f c=>?_⟩;cases t<;>simp only at b<;>try cases b
 ·have:f=0:=by simp_all[r0k]
  subst this;exact⟨_,_,rfl⟩
 ·rename_i k;rw[d]at c;obtain⟨u,y,e⟩:=u0C (E.un k x) b c;exact⟨u,y,show d0x _=_ by rw[e];rfl⟩
def N7.sz {H:M0}{e:Nat}{F:List Nat}{t:U}{xs:List (Den E.D t)}{o:Option (Int×Nat)}{v:Value}{cs:List Value}(h:N7 E H S e F t xs o v cs):cs.length=xs.length*F.length:=by
 rw[h.row.1,(d01 h.ok).1]
theorem N7.at {H:M0}{e:Nat}{F:List Nat}{t:U}{xs:List (Den E.D t)}{o:Option (Int×Nat)}{v:Value}{cs:List Value}(h:N7 E H S e F t xs o v cs){p:Nat}{u:Value}(hp:(Go.X.tl v)[p]?=some u):u=H7\/∃i f x w ys e',p=rowAt F i f/\f<F.length/\xs[i]?=some x/\L3 E t x f=some ⟨w,ys⟩/\F[f]?=some e'/\o≠some ((i:Int),f)/\cs[p]?=some u/\U5 E H S e' w ys u:=by
 rw[h.tl]at hp;have hlen:(e0z F o cs).length=cs.length:=by unfold e0z;grind
 have j:p<xs.length*F.length:=by rw[<-h.sz,<-hlen];grind
 have hn:0<F.length:=by
  grind
 have hi:p / F.length<xs.length:=(Nat.div_lt_iff_lt_mul hn).2 j;have b:=Nat.mod_lt p hn;have c:p=rowAt F (p / F.length) (p % F.length):=by
  simp[rowAt,Nat.mul_comm,Nat.div_add_mod]
 by_cases g:o=some (((p / F.length:Nat):Int),p % F.length)
 ·grind [e0z]
 ·right;obtain⟨w,ys,k⟩:=(d01 h.ok).2 xs[p / F.length] _ b;obtain⟨r,h1,l⟩:=h.rows (p / F.length) _ (p % F.length) w ys _ (List.getElem?_eq_getElem hi) k (List.getElem?_eq_getElem b) g;have d:=f0Q b h.bd h1 g;rw[<-c]at h1 d;rw[hp]at d;obtain rfl:=Option.some.inj d;exact⟨_,_,_,w,ys,_,c,b,List.getElem?_eq_getElem hi,k,List.getElem?_eq_getElem b,g,h1,l⟩
theorem N7.live {H:M0}{e:Nat}{F:List Nat}{t:U}{xs:List (Den E.D t)}{o:Option (Int×Nat)}{v:Value}{cs:List Value}(h:N7 E H S e F t xs o v cs):∀b,Bk v b->b<H.size:=by
 intro b c;rcases e0p.1 c with c|⟨u,hu,c⟩
 ·exact Row.live h.row b c
 ·obtain⟨p,hp⟩:=List.getElem?_of_mem hu;rcases h.at hp with rfl|⟨_,_,_,_,_,_,_,_,_,_,_,_,_,cs',h2,_⟩
  ·cases c
  ·exact Row.live h2 b c
theorem M4.live {m:Nat}{H:M0}{x:Th E.D}{v:Value}(h:M4 E ρ m H S x v)(c:E2 x=true):∀b,Bk v b->b<H.size:=by
 cases x with
 |gone=>cases c
 |box T l=>obtain⟨b,cs,rfl,h1,_⟩:=h;intro k hk;cases hk;grind
 |fzb T l=>cases c
 |lst e t xs=>
  obtain⟨cs,h1,d⟩:=h;intro k hk;obtain⟨_,_,rfl⟩:=Row.form h1;exact Row.live h1 k hk
 |fz t xs=>cases c
 |map m=>obtain⟨r,es,cl,rfl,h1,d⟩:=h;intro k hk;cases hk;grind
 |G1 e F t xs o=>
  obtain⟨cs,h⟩:=h;exact h.live
 |rof q i f=>cases c
theorem a0R {α:Type}(k t:Nat)(v:α)(l:List (Nat×α)):C5 ((k,v) :: l) t=if k=t then some v else C5 l t:=by
 simp only[C5]
 by_cases h:k=t
 ·simp_all
 ·have:Nat.beq k t=false:=by rw[<-Bool.not_eq_true,Nat.beq_eq];exact h
  grind
theorem M9 (s:St E.D)(id j:Nat)(x:Th E.D):G0 (s.at id x) j=if id=j then x else G0 s j:=by
 grind [G0,St.at,a0R]
theorem o0b (s:St E.D)(j:Nat)(x:Th E.D):G0 (s.new x) j=if s.nid=j then x else G0 s j:=by
 grind [G0,St.new,a0R]
structure F0U (A:A5)(s:St E.D)(ρ ρ1:Nat->Value)(S S1:E0)(w w1:World)(nid1:Nat):Prop where
 cx:Cx A.w0 A.W0 A.S0 w1 S1
 kp:Y0 w.heap S w1.heap S1
 hρ:∀i,i<s.nid->hd (ρ1 i)=hd (ρ i)
 hn:s.nid<=nid1
def b0M (s s1:St E.D)(ρ ρ1:Nat->Value)(S1:E0)(w w1:World)(id:Nat):Prop:=
 G0 s1 id=G0 s id/\id<s.nid/\ρ1 id=ρ id/\(E2 (G0 s id)=true->∀k,Bk (ρ id) k->w1.heap[k]?=w.heap[k]?/\S1 k)
theorem Rp.step (h:Rp E A s ρ S a as w){nid1:Nat}{th1:List (Nat×Th E.D)}(p:F0U A s ρ ρ1 S S1 w w1 nid1)
  (d:∀id,b0M s { s with th:=th1,nid:=nid1 } ρ ρ1 S1 w w1 id\/
   (M4 E ρ1 nid1 w1.heap S1 (G0 { s with th:=th1,nid:=nid1 } id) (ρ1 id)/\(E2 (G0 { s with th:=th1,nid:=nid1 } id)=true->∀k,Bk (ρ1 id) k->(S1 k/\¬A.S0 k/\Wr A.W0 A.w0 k)/\
    ∀j,j≠id->E2 (G0 { s with th:=th1,nid:=nid1 } j)=true->¬Bk (ρ1 j) k)/\(nid1<=id->G0 { s with th:=th1,nid:=nid1 } id=.gone)))
  (R:∀r q i f,G0 { s with th:=th1,nid:=nid1 } r=.rof q i f->∀e F t xs,G0 { s with th:=th1,nid:=nid1 } q=.G1 e F t xs none->
   (b0M s { s with th:=th1,nid:=nid1 } ρ ρ1 S1 w w1 r/\b0M s { s with th:=th1,nid:=nid1 } ρ ρ1 S1 w w1 q)\/c0D w1.heap (hd (ρ1 q)) F.length i f (ρ1 r)):
  Rp E A { s with th:=th1,nid:=nid1 } ρ1 S1 a as w1:=by
 refine⟨p.cx,h.fr.mono p.hρ p.hn p.kp,h.stk.mono p.hρ p.hn p.kp,fun id=>?_,fun id x k hk=>?_,fun i j I hi hj k hk y=>?_,fun id b2=>?_,fun r q i f hr e F t xs hq=>?_,fun H1 S1 ha=>(h.kp H1 S1 ha).trans p.kp,fun i u ha=>⟨Nat.lt_of_lt_of_le (h.hp i u ha).1 p.hn,(p.hρ i (h.hp i u ha).1).trans (h.hp i u ha).2⟩⟩
 ·rcases d id with⟨e,g,v,l⟩|⟨h1,_⟩
  ·rw[e,v];exact(h.th id).mono p.hρ p.hn p.kp (fun x b J=>(l x b J).1)
  omega
 ·rcases d id with⟨e,g,v,l⟩|⟨_,U,_⟩
  ·rw[e]at x;rw[v]at hk;exact⟨(l x k hk).2,(h.ow id x k hk).2⟩
  simp_all
 ·rcases d i with⟨e,g,v,l⟩|⟨_,U,_⟩
  ·rcases d j with⟨e',a1,C,b1⟩|⟨_,h2',_⟩
   ·rw[e]at hi;rw[e']at hj;rw[v]at hk;rw[C]at y;exact h.dj i j I hi hj k hk y
   grind
  grind
 ·rcases d id with⟨e,g,_,l⟩|⟨_,_,h3⟩
  ·have:=p.hn;grind
  simp_all
 ·rcases R r q i f hr e F t xs hq with⟨⟨r1,_,r2,_⟩,⟨q1,_,q2,q3⟩⟩|h1
  ·rw[r1]at hr;rw[q1]at hq;obtain⟨b,o,m,c,h1,U,h3,h4⟩:=h.rf r q i f hr e F t xs hq;refine⟨b,o,m,c,by simp_all,U,h3,?_⟩;have:=(q3 (by rw[hq];rfl) b (Bk.hd (by
    have z:=h.th q;rw[hq]at z;obtain⟨cs,z⟩:=z;have:=z.row;rw[h1]at this ⊢;exact this.j0J O'))).1
   simp_all[D2]
  omega
theorem Rp.put (h:Rp E A s ρ S a as w) {d:Option Nat} {v:V E.D} {u:Value} (hd:c0H s.n ⟨d,.alloc 0,0,"",#[],none⟩=true) (hv:VS E ρ s.nid w.heap S v u):Rp E A (s.put d v) ρ S (a.put d u) as w:=by
 cases d with
 |none=>exact h
 |some t=>
  have ht:t<s.n:=by grind [c0H,Nat.blt_eq]
  refine⟨h.cx,⟨by simp[Act.put,h.fr.size,St.put],by simp[Act.put,h.fr.defers],fun t' v' hl=>?_⟩,h.stk,h.th,h.ow,h.dj,h.lt,h.rf,h.kp,h.hp⟩;simp only[St.put,a0R]at hl;simp only[Act.put]
  by_cases e:t=t'
  ·subst e;simp only[if_true,Option.some.injEq]at hl;subst hl;have:(a.tmps.setIfInBounds t u).getD t undef=u:=by
    have hs:=h.fr.size
    simp_all
   rw[this];exact hv
  ·rw[if_neg e]at hl;have:(a.tmps.setIfInBounds t u).getD t' undef=a.tmps.getD t' undef:=by
    simp_all
   rw[this];exact h.fr.slot t' v' hl
def Rp.get (h:Rp E A s ρ S a as w){t:Nat}{v:V E.D}(b:C5 s.fr t=some v):VS E ρ s.nid w.heap S v (a.tmps.getD t undef):=h.fr.slot t v b
theorem VS.undef {m:Nat}{H:M0}(u:Value):VS E ρ m H S .undef u:=⟨[u],by unfold VC;simp,rfl⟩
def Rp.val (h:Rp E A s ρ S a as w)(x:Operand):VS E ρ s.nid w.heap S (T1 E s x) (a.eval x):=by
 cases x with
 |tmp t=>
  show VS E ρ s.nid w.heap S (match C5 s.fr t with|some v=>v|none=>.undef) (a.tmps.getD t Go.undef);cases b:C5 s.fr t with
  |some v=>exact h.get b
  |none=>exact VS.undef _
 |const v=>
  show VS E ρ s.nid w.heap S (j8 v) v;unfold j8;split<;>first|exact⟨[_],by rfl,rfl⟩|exact VS.undef _
 |global g=>exact VS.undef _
 |func f=>exact⟨[.func (.func f) #[] #[]],by unfold T1 VC VT;simp,rfl⟩
def Q6 (ρ:Nat->Value)(i:Nat)(v:Value):Nat->Value:=fun j=>if j=i then v else ρ j
theorem H5 {i:Nat}{v:Value}:Q6 ρ i v i=v:=by simp[Q6]
theorem j6 {i j:Nat}{v:Value}(h:j≠i):Q6 ρ i v j=ρ j:=by simp[Q6,h]
def Rp.F7 (h:Rp E A s ρ S a as w){id:Nat}(hn:G0 s id≠.gone):id<s.nid:=by
 rcases Nat.lt_or_ge id s.nid with h1|h1
 ·exact h1
 ·exact absurd (h.lt id h1) hn
def Rp.c0C (h:Rp E A s ρ S a as w){r q f:Nat}{i:Int}(b:G0 s r=.rof q i f):q<s.nid:=by
 have:=h.th r;rw[b]at this;exact this.1
theorem Rp.new (h:Rp E A s ρ S a as w){x:Th E.D}{v:Value}(p:Below w.heap.size w w1)(J:∀k,Bk v k->w.heap.size<=k/\k<w1.heap.size)
  (hx:∀S1,Y0 w.heap S w1.heap S1->(∀k,Bk v k->E2 x=true->S1 k)->(∀k,S1 k->(E2 x=true/\Bk v k)\/S k)->M4 E (Q6 ρ s.nid v) (s.nid+1) w1.heap S1 x v) (b1:∀q i f,x≠.rof q i f:=by intros;simp):
  ∃S1,Y0 w.heap S w1.heap S1/\Rp E A (s.new x) (Q6 ρ s.nid v) S1 a as w1:=by
 have hk:Y0 w.heap S w1.heap (fun k=>(E2 x=true/\Bk v k)\/S k):=⟨p.size,fun b I hn=>⟨fun hh=>hh.elim (fun R=>by grind) hn,p.block b I⟩⟩
 have l:=h.cx.ext p;have hl:∀j,G0 { s with th:=(s.nid,x) :: s.th,nid:=s.nid+1 } j=if s.nid=j then x else G0 s j:=fun j=>o0b s j x;have d:∀j,j<s.nid->b0M s { s with th:=(s.nid,x) :: s.th,nid:=s.nid+1 } ρ (Q6 ρ s.nid v) (fun k=>(E2 x=true/\Bk v k)\/S k) w w1 j:=fun j u=>
  ⟨by grind,u,j6 O',fun g k c=>⟨p.block k ((h.th j).live g k c),.inr (h.ow j g k c).1⟩⟩
 refine⟨_,hk,h.step (nid1:=s.nid+1) (th1:=(s.nid,x) :: s.th) ⟨l.more (fun _ h=>.inr h) (fun b C=>C.elim (fun R=>(J b R.2).2) (l.lt b)),hk,fun i hi=>by grind [j6],O'⟩ (fun id=>?_) fun r q i f y e F t xs hq=>.inl ?_⟩
 ·by_cases e:s.nid=id
  ·subst e;refine .inr ⟨?_,fun g k c=>?_,fun hle=>O'⟩
   ·rw[hl,if_pos rfl,H5]
    simp_all
   ·rw[hl,if_pos rfl]at g;rw[H5]at c;have U:=J k c;refine⟨⟨.inl ⟨g,c⟩,fun h0=>by have:=h.cx.lt0 k h0;have:=h.cx.size;omega,.inr (by have:=h.cx.size;omega)⟩,fun j u o m=>?_⟩;rw[hl,if_neg (fun e=>u e.symm)]at o;rw[j6 u]at m;have:=(h.th j).live o k m;omega
  ·by_cases a1:id<s.nid
   ·simp_all
   ·rw[hl,if_neg e];refine .inr ⟨?_,fun g=>?_,fun _=>h.lt id O'⟩
    ·rw[h.lt id O'];trivial
    ·rw[h.lt id O']at g;cases g
 ·rw[hl]at y;split at y
  ·simp_all
  ·have z:=h.c0C y;exact⟨d r (h.F7 (by simp_all)),d q z⟩
theorem Rp.turn (h:Rp E A s ρ S a as w){id:Nat}{x:Th E.D}{v:Value}(b1:id<s.nid)(o:E2 (G0 s id)=true)(cx:Cx A.w0 A.W0 A.S0 w1 S1)(kp:Y0 w.heap S w1.heap S1)(hs:∀k,S k->S1 k)
  (C:∀k,k<w.heap.size->¬Bk (ρ id) k->w1.heap[k]?=w.heap[k]?) (I:v=ρ id)
  (J:∀k,Bk v k->S1 k) (hx:M4 E ρ s.nid w1.heap S1 x v) (a1:∀q i f,x≠.rof q i f:=by intros;simp) (z:∀e F t xs,x=.G1 e F t xs none->∀r i f,G0 s r=.rof id i f->c0D w1.heap (hd (ρ id)) F.length i f (ρ r):=by intro _ _ _ _ h;cases h):Rp E A (s.at id x) ρ S1 a as w1:=by
 subst I;have hl:∀j,G0 { s with th:=(id,x) :: s.th,nid:=s.nid } j=if id=j then x else G0 s j:=fun j=>M9 s id j x;have c:∀j,j≠id->j<s.nid->b0M s { s with th:=(id,x) :: s.th,nid:=s.nid } ρ ρ S1 w w1 j:=fun j l d=>
  ⟨by grind,d,rfl,fun b k hk=>⟨C k ((h.th j).live b k hk) (fun R=>h.dj id j (Ne.symm l) o b k R hk),hs k (h.ow j b k hk).1⟩⟩
 refine h.step (nid1:=s.nid) (th1:=(id,x) :: s.th) ⟨cx,kp,fun _ _=>rfl,Nat.le_refl _⟩ (fun j=>?_) fun r q i f y e F t xs hq=>?_
 ·by_cases e:id=j
  ·subst e;refine .inr ⟨by simp_all,fun _ k hk=>?_,fun hle=>O'⟩;obtain⟨h1,U⟩:=h.ow id o k hk;refine⟨⟨J k hk,U⟩,fun j l b u=>?_⟩;rw[hl,if_neg (fun e=>l e.symm)]at b;exact h.dj id j (fun e=>l e.symm) o b k hk u
  ·by_cases d:j<s.nid
   ·grind
   ·rw[hl,if_neg e];refine .inr ⟨?_,fun b=>?_,fun _=>h.lt j O'⟩
    ·rw[h.lt j O'];trivial
    ·rw[h.lt j O']at b;cases b
 ·rw[hl]at y;split at y
  ·simp_all
  ·rename_i p;have m:=h.c0C y;rw[hl]at hq;split at hq
   ·simp_all
   ·rename_i g;exact .inl ⟨c r (Ne.symm p) (h.F7 (by simp_all)),c q (Ne.symm g) m⟩
def Rp.gone (h:Rp E A s ρ S a as w)(id:Nat):Rp E A (s.at id .gone) ρ S a as w:=by
 have hl:∀j,G0 (s.at id .gone) j=if id=j then .gone else G0 s j:=fun j=>M9 s id j .gone;refine⟨h.cx,h.fr,h.stk,fun j=>?_,fun j b=>?_,fun i j d hi b=>?_,fun j b=>?_,fun r q i f c e F t xs hq=>?_,h.kp,h.hp⟩
 ·rw[hl];split
  ·trivial
  ·exact h.th j
 ·rw[hl]at b;split at b
  ·cases b
  ·exact h.ow j b
 ·rw[hl]at hi b;split at hi
  ·cases hi
  ·split at b
   ·cases b
   ·exact h.dj i j d hi b
 ·rw[hl];split
  ·rfl
  ·exact h.lt j b
 ·rw[hl]at c hq;split at c
  ·cases c
  ·split at hq
   ·cases hq
   ·exact h.rf r q i f c e F t xs hq
def Rp.ext (h:Rp E A s ρ S a as w)(d:Below w.heap.size w w1):Rp E A s ρ S a as w1:=
 have b:∀j,j<s.nid->b0M s { s with th:=s.th,nid:=s.nid } ρ ρ S w w1 j:=fun j l=>⟨rfl,l,rfl,fun c k hk=>⟨d.block k ((h.th j).live c k hk),(h.ow j c k hk).1⟩⟩
 h.step (nid1:=s.nid) (th1:=s.th) ⟨h.cx.ext d,Y0.ext S d,fun _ _=>rfl,Nat.le_refl _⟩ (fun id=>by
  by_cases g:id<s.nid
  ·simp_all
  ·have:G0 { s with th:=s.th,nid:=s.nid } id=.gone:=h.lt id O';rw[this];exact .inr ⟨trivial,(fun c=>by cases c),fun _=>rfl⟩) fun r q i f m e F t xs _=>.inl ⟨b r (h.F7 (by simp_all)),b q (h.c0C m)⟩
end
end
