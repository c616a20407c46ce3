/- P. Its conditions: none. -/
import Derived.Test.YtmhooikfkhjijaaGreatYX3
set_option linter.all false
namespace Go.X
open Go.V Go.RowKit
section
variable (E:Env)
def S6:(ts:List U)->Ty (HL E.D ts)
 |[]=>H4
 |t :: ts=>K1 (D0 E t) (S6 ts)
structure B1:Prop where
 st:∀i H S cs x,(E.ty i).R H S cs x↔(S6 E (E.fs i)).R H S cs (E.un i x)
 sz:∀i,(E.ty i).sz=(S6 E (E.fs i)).sz
 unmk:∀i h,E.un i (E.mkS i h)=h
 mix:E.P.follows .mixedOrders=true
def hd (v:Value):Value:=match v with
 |.tuple a=>a.toList.headD undef
 |v=>v
def tl (v:Value):List Value:=match v with
 |.tuple a=>a.toList.tail
 |_=>[]
def I2:List o4->Nat
 |[]=>0
 |.inl (_,o) :: p=>o+I2 p
 |.inr (i,z,_) :: p=>i.toNat*z+I2 p
def n5:List o4->Prop
 |[]=>True
 |.inl _ :: p=>n5 p
 |.inr (i,_,m) :: p=>(0<=i/\i<m)/\n5 p
def B2:Bool->List Value->Value
 |true,cs=>.agg cs.toArray
 |false,cs=>cs.headD undef
def vl {D:Nat->Type}(v:V D)(cs:List Value):Value:=B2 (G2 v) cs
section
variable (ρ:Nat->Value)(n:Nat)(H:F0)(S:B0)
mutual
def VC:V E.D->List Value->Prop
 |.undef,cs=>∃v,cs=[v]
 |.kb b,cs=>cs=[.bool b]
 |.ki k m,cs=>cs=[.int k m]
 |.d t x,cs=>(D0 E t).R H S cs x
 |.nil,cs=>cs=[.slice none 0 0]
 |.nilp,cs=>cs=[.pointer none]
 |.nilif,cs=>cs=[.nilIface]
 |.nilfn,cs=>cs=[.nilFunc]
 |.sl id,cs=>id<n/\(hd (ρ id)).oneCell'=true/\cs=[hd (ρ id)]
 |.pb id off p,cs=>id<n/\n5 p/\∃b,hd (ρ id)=.pointer (some ⟨b,0,none⟩)/\cs=[.pointer (some ⟨b,off+I2 p,none⟩)]
 |.pe id i z p,cs=>id<n/\n5 p/\∃b o m c,hd (ρ id)=.slice (some ⟨b,o,none⟩) m c/\(0<=i/\i<m)/\cs=[.pointer (some ⟨b,o+i.toNat*z+I2 p,none⟩)]
 |.pd t x,cs=>∃v,cs=[v]/\O7 (D0 E t) H S v x
 |.df t xs,cs=>∃A,cs=[.slice A xs.length xs.length]/\Sl (D0 E t) H S A xs.length xs
 |.mp id,cs=>id<n/\(hd (ρ id)).oneCell'=true/\cs=[hd (ρ id)]
 |.agg l,cs=>I0 l cs
 |.tup l,cs=>∃us,cs=[.tuple us.toArray]/\VT l us
 |.fn f l,cs=>∃us,cs=[.func (.func f) #[] us.toArray]/\VT l us
 |.ifc T v,cs=>∃c,VC v c/\cs=[.iface T (vl v c)]
def I0:List (V E.D)->List Value->Prop
 |[],cs=>cs=[]
 |v :: l,cs=>∃c1 c2,cs=c1++c2/\VC v c1/\I0 l c2
def VT:List (V E.D)->List Value->Prop
 |[],us=>us=[]
 |v :: l,us=>∃c u',VC v c/\us=vl v c :: u'/\VT l u'
end
def VS (v:V E.D)(u:Value):Prop:=∃c,VC E ρ n H S v c/\u=vl v c
end
variable {E}
section
variable {ρ ρ':Nat->Value}{n n':Nat}{H H':F0}{S S':B0}
mutual
def VC.mono (hρ:∀i,i<n->hd (ρ' i)=hd (ρ i))(hn:n<=n')(k:J0 H S H' S'):∀(v:V E.D) (cs:List Value),VC E ρ n H S v cs->VC E ρ' n' H' S' v cs
 |.undef,cs,h=>h
 |.kb b,cs,h=>h
 |.ki _ m,cs,h=>h
 |.d t x,cs,h=>(D0 E t).Y0 k h
 |.nil,cs,h=>h
 |.nilp,cs,h=>h
 |.nilif,cs,h=>h
 |.nilfn,cs,h=>h
 |.sl id,cs,⟨h1,h0,h2⟩=>⟨Nat.lt_of_lt_of_le h1 hn,by rw[hρ id h1];exact h0,by rw[hρ id h1];exact h2⟩
 |.pb id off p,cs,⟨h1,h0,b,h2,h3⟩=>⟨Nat.lt_of_lt_of_le h1 hn,h0,b,(hρ id h1).trans h2,h3⟩
 |.pe id i z p,cs,⟨h1,h0,b,o,m,c,h2,h3⟩=>⟨Nat.lt_of_lt_of_le h1 hn,h0,b,o,m,c,(hρ id h1).trans h2,h3⟩
 |.pd t x,cs,⟨v,h1,h2⟩=>⟨v,h1,h2.Y0 k⟩
 |.df t xs,cs,⟨A,h1,h2⟩=>⟨A,h1,h2.Y0 k⟩
 |.mp id,cs,⟨h1,h0,h2⟩=>⟨Nat.lt_of_lt_of_le h1 hn,by rw[hρ id h1];exact h0,by rw[hρ id h1];exact h2⟩
 |.agg l,cs,h=>I0.mono hρ hn k l cs h
 |.tup l,cs,⟨us,h1,h2⟩=>⟨us,h1,VT.mono hρ hn k l us h2⟩
 |.fn f l,cs,⟨us,h1,h2⟩=>⟨us,h1,VT.mono hρ hn k l us h2⟩
 |.ifc T v,cs,⟨c,h1,h2⟩=>⟨c,VC.mono hρ hn k v c h1,h2⟩
def I0.mono (hρ:∀i,i<n->hd (ρ' i)=hd (ρ i))(hn:n<=n')(k:J0 H S H' S'):∀(l:List (V E.D)) (cs:List Value),I0 E ρ n H S l cs->I0 E ρ' n' H' S' l cs
 |[],cs,h=>h
 |v :: l,cs,⟨c1,c2,h,h1,h2⟩=>⟨c1,c2,h,VC.mono hρ hn k v c1 h1,I0.mono hρ hn k l c2 h2⟩
def VT.mono (hρ:∀i,i<n->hd (ρ' i)=hd (ρ i))(hn:n<=n')(k:J0 H S H' S'):∀(l:List (V E.D)) (cs:List Value),VT E ρ n H S l cs->VT E ρ' n' H' S' l cs
 |[],cs,h=>h
 |v :: l,cs,⟨c,u,h,h1,h2⟩=>⟨c,u,VC.mono hρ hn k v c h,h1,VT.mono hρ hn k l u h2⟩
end
def VS.mono (hρ:∀i,i<n->hd (ρ' i)=hd (ρ i))(hn:n<=n')(k:J0 H S H' S'){v:V E.D}{u:Value}(h:VS E ρ n H S v u):VS E ρ' n' H' S' v u:=by
 obtain⟨c,h1,h2⟩:=h;exact⟨c,h1.mono hρ hn k,h2⟩
def VC.len (h:B1 E):∀{v:V E.D} {cs:List Value},VC E ρ n H S v cs->(∀l,v≠.agg l)->cs.length=sz1 E v:=by
 intro v cs hv hl;cases v with
 |d t x=>exact(D0 E t).len hv
 |agg l=>exact absurd rfl (hl l)
 |undef=>obtain⟨v,rfl⟩:=hv;rfl
 |kb b=>unfold VC at hv;subst hv;rfl
 |ki k m=>unfold VC at hv;subst hv;rfl
 |nil=>unfold VC at hv;subst hv;rfl
 |nilp=>unfold VC at hv;subst hv;rfl
 |nilif=>unfold VC at hv;subst hv;rfl
 |nilfn=>unfold VC at hv;subst hv;rfl
 |sl id=>unfold VC at hv;obtain⟨_,_,rfl⟩:=hv;rfl
 |pb=>unfold VC at hv;obtain⟨_,_,_,_,rfl⟩:=hv;rfl
 |pe=>unfold VC at hv;obtain⟨_,_,_,_,_,_,_,_,rfl⟩:=hv;rfl
 |pd=>unfold VC at hv;obtain⟨_,rfl,_⟩:=hv;rfl
 |df=>unfold VC at hv;obtain⟨_,rfl,_⟩:=hv;rfl
 |mp=>unfold VC at hv;obtain⟨_,_,rfl⟩:=hv;rfl
 |tup=>unfold VC at hv;obtain⟨_,rfl,_⟩:=hv;rfl
 |fn=>unfold VC at hv;obtain⟨_,rfl,_⟩:=hv;rfl
 |ifc=>unfold VC at hv;obtain⟨_,_,rfl⟩:=hv;rfl
def I0.nil:I0 E ρ n H S [] ([]:List Value):=by unfold I0;rfl
def I0.one {v:V E.D}{cs:List Value}(h:VC E ρ n H S v cs):I0 E ρ n H S [v] cs:=by
 unfold I0;exact⟨cs,[],by simp,h,I0.nil⟩
def I0.U6 {v:V E.D}{cs:List Value}(h:I0 E ρ n H S [v] cs):VC E ρ n H S v cs:=by
 unfold I0 at h;obtain⟨c1,c2,rfl,h1,h2⟩:=h;unfold I0 at h2;subst h2;simpa using h1
def I0.app:∀{l l':List (V E.D)} {c c':List Value},I0 E ρ n H S l c->I0 E ρ n H S l' c'->I0 E ρ n H S (l++l') (c++c')
 |[],l',c,c',h,h'=>by unfold I0 at h;subst h;simpa using h'
 |
  v :: l,l',c,c',h,h'=>by
  unfold I0 at h;obtain⟨c1,c2,rfl,h1,h2⟩:=h;rw[List.cons_append];unfold I0;exact⟨c1,c2++c',by simp,h1,I0.app h2 h'⟩
def I0.e0r:∀{l l':List (V E.D)} {c:List Value},I0 E ρ n H S (l++l') c->∃c1 c2,c=c1++c2/\I0 E ρ n H S l c1/\I0 E ρ n H S l' c2
 |[],l',c,h=>⟨[],c,rfl,I0.nil,h⟩
 |
  v :: l,l',c,h=>by
  rw[List.cons_append]at h;unfold I0 at h;obtain⟨c1,c2,rfl,h1,h2⟩:=h;obtain⟨d1,d2,rfl,h3,h4⟩:=I0.e0r h2;refine⟨c1++d1,d2,by simp,?_,h4⟩;unfold I0;exact⟨c1,d1,rfl,h1,h3⟩
def l0M:∀(ts:List U) (h:HL E.D ts) (cs:List Value),(S6 E ts).R H S cs h->I0 E ρ n H S (c0Z ts h) cs
 |[],_,cs,h=>by unfold c0Z I0;exact h
 |
  t :: ts,h,cs,hr=>by
  obtain⟨c1,c2,rfl,h1,h2⟩:=hr;unfold c0Z I0;exact⟨c1,c2,rfl,h1,l0M ts h.2 c2 h2⟩
def v0b {α:Type}(d:α)(xs:List α)(j:Nat)(h:j<xs.length):@gt α ⟨d⟩ xs (j:Int)=xs[j]:=by
 simp[gt,h]
def p0z (t:U)(xs:List (Den E.D t)):∀(m j:Nat) (cs:List Value),j+m=xs.length->cs.length=m*(D0 E t).sz->
  (∀i,i<m->∀x,xs[j+i]?=some x->(D0 E t).R H S ((cs.drop (i*(D0 E t).sz)).take (D0 E t).sz) x)->I0 E ρ n H S (elts E t xs m j) cs
 |
  0,j,cs,_,hl,_=>by
  unfold elts;simp at hl;subst hl;exact I0.nil
 |
  m+1,j,cs,hj,hl,hr=>by
  unfold elts I0;have hlt:j<xs.length:=by omega
  have h0:=hr 0 (by omega) xs[j] (by simp[hlt]);simp only[Nat.zero_mul,List.drop_zero]at h0;refine⟨cs.take (D0 E t).sz,cs.drop (D0 E t).sz,(List.take_append_drop _ _).symm,?_,?_⟩
  ·unfold VC E4;rw[v0b _ _ _ hlt];exact h0
  ·refine p0z t xs m (j+1) _ (by omega) (by rw[List.length_drop,hl,Nat.succ_mul];omega) fun i hi x hx=>?_;have:=hr (i+1) (by omega) x (by rw[<-hx];congr 1;omega);rw[List.drop_drop];rw[Nat.succ_mul,Nat.add_comm]at this;exact this
def h0f (hE:B1 E){v:V E.D}{l:List (V E.D)}(h:c0k E v=some l){cs:List Value}(hv:VC E ρ n H S v cs):I0 E ρ n H S l cs:=by
 cases v<;>simp only[c0k]at h<;>try cases h
 rename_i t x;cases t<;>simp only[c0k]at h<;>try cases h
 ·rename_i i;exact l0M _ _ _ ((hE.st i H S cs x).1 hv)
 ·rename_i m t;obtain⟨h1,h2⟩:=hv;refine p0z t x m 0 cs (by omega) (by rw[h2.1,h1]) fun i hi y hy=>?_;rw[Nat.zero_add]at hy;exact h2.2 i y hy
def L7 (hE:B1 E):∀(k off:Nat) (l a b:List (V E.D)),N5 E k off l=some (a,b)->∀cs,I0 E ρ n H S l cs->∃c1 c2,cs=c1++c2/\c1.length=off/\I0 E ρ n H S a c1/\I0 E ρ n H S b c2
 |0,_,_,_,_,h=>by simp[N5]at h
 |
  k+1,0,l,a,b,h=>by
  intro cs hcs;simp only[N5,Option.some.injEq,Prod.mk.injEq]at h;obtain⟨rfl,rfl⟩:=h;exact⟨[],cs,rfl,rfl,I0.nil,hcs⟩
 |k+1,off+1,[],a,b,h=>by simp[N5]at h
 |
  k+1,off+1,v :: r,a,b,h=>by
  intro cs hcs;unfold I0 at hcs;obtain⟨c1,c2,rfl,h1,h2⟩:=hcs;simp only[N5]at h;split at h
  ·rename_i l hl;have hv:v=.agg l:=by cases v<;>simp[b0b]at hl;subst hl;rfl
   subst hv;unfold VC at h1;exact L7 hE k _ _ a b h _ (h1.app h2)
  ·rename_i hl;have hv:∀l,v≠.agg l:=by rintro l rfl;simp[b0b]at hl
   have hlen:=h1.len hE hv;split at h
   ·rename_i hle;rw[Nat.ble_eq]at hle;split at h
    ·rename_i a' b' hc;simp only[Option.some.injEq,Prod.mk.injEq]at h;obtain⟨rfl,rfl⟩:=h;obtain⟨d1,d2,rfl,hd,ha,hb⟩:=L7 hE k _ r a' b' hc c2 h2;refine⟨c1++d1,d2,by simp,by rw[List.length_append];omega,?_,hb⟩;unfold I0;exact⟨c1,d1,rfl,h1,ha⟩
    ·cases h
   ·split at h
    ·rename_i l he;exact L7 hE k _ _ a b h _ ((h0f hE he h1).app h2)
    ·cases h
def b01 (hE:B1 E){off m:Nat}{l a b c:List (V E.D)}(h:E6 E off m l=some (a,b,c)){cs:List Value}(hcs:I0 E ρ n H S l cs):
  ∃c1 c2 c3,cs=c1++(c2++c3)/\c1.length=off/\c2.length=m/\I0 E ρ n H S a c1/\I0 E ρ n H S b c2/\I0 E ρ n H S c c3:=by
 unfold E6 at h;split at h
 ·rename_i a' b' h1;split at h
  ·rename_i m' c' h2;simp only[Option.some.injEq,Prod.mk.injEq]at h;obtain⟨rfl,rfl,rfl⟩:=h;obtain⟨c1,d,rfl,hl,ha,hd⟩:=L7 hE _ _ _ _ _ h1 cs hcs;obtain⟨c2,c3,rfl,hl2,hb,hc⟩:=L7 hE _ _ _ _ _ h2 d hd;exact⟨c1,c2,c3,rfl,hl,hl2,ha,hb,hc⟩
  ·cases h
 ·cases h
def c0j (hE:B1 E){ag:Bool}{m:List (V E.D)}{v:V E.D}(h:asV E ag m=some v){cs:List Value}(hcs:I0 E ρ n H S m cs):VC E ρ n H S v cs/\G2 v=ag:=by
 unfold asV at h;split at h
 ·split at h
  ·rename_i u;split at h
   ·rename_i ha;simp only[Option.some.injEq]at h;subst h;exact⟨hcs.U6,ha⟩
   ·simp only[Option.some.injEq]at h;subst h;unfold VC;exact⟨hcs,rfl⟩
  ·simp only[Option.some.injEq]at h;subst h;unfold VC;exact⟨hcs,rfl⟩
 ·split at h
  ·rename_i u;split at h
   ·rename_i ha;simp only[Option.some.injEq]at h;subst h;exact⟨hcs.U6,ha⟩
   ·split at h
    ·rename_i w he;split at h
     ·rename_i ha;simp only[Option.some.injEq]at h;subst h;exact⟨(h0f hE he hcs.U6).U6,ha⟩
     ·cases h
    ·cases h
  ·cases h
end
def Q0:Value->Option Nat
 |.pointer (some a)=>some a.block
 |.slice (some a) _ (_+1)=>some a.block
 |.map r=>r
 |_=>none
def Bk (v:Value)(k:Nat):Prop:=match v with
 |.tuple a=>∃u∈a.toList,Q0 u=some k
 |v=>Q0 v=some k
def P4:Value:=.slice none 0 0
def a0t {a:Addr}{m c:Nat}(h:0<c):Q0 (.slice (some a) m c)=some a.block:=by
 cases c with
 |zero=>exact absurd h (by simp)
 |succ c=>rfl
def a0m {a:Addr}{m c k:Nat}(h:Q0 (.slice (some a) m c)=some k):0<c/\a.block=k:=by
 cases c with
 |zero=>cases h
 |succ c=>cases h;exact⟨Nat.succ_pos _,rfl⟩
def Row (H:F0)(e:TypeId)(sz:Nat)(v:Value)(n:Nat)(cs:List Value):Prop:=
 cs.length=n*sz/\((n=0/\∃a,v=.slice a 0 0)\/
  ∃g cap cur,v=.slice (some ⟨g,0,none⟩) n cap/\0<cap/\H[g]?=some (.cells cur e (0,0))/\n<=cap/\cap<=maxLen/\cur.size=cap*sz/\cur.toList.take (n*sz)=cs)
def Row.ofV {H:F0}{e sz n:Nat}{v:Value}{cs:List Value}(h:Go.V.Row H e sz v n cs):Row H e sz v n cs:=by
 obtain⟨h0,⟨h1,h2⟩|⟨g,cap,cur,hv,r⟩⟩:=h
 ·exact⟨h0,.inl ⟨h2,none,h1⟩⟩
 ·cases cap with
  |
   zero=>
   have hn:n=0:=by have:=r.2.1;omega
   subst hn;exact⟨h0,.inl ⟨rfl,_,hv⟩⟩
  |succ c=>exact⟨h0,.inr ⟨g,_,cur,hv,Nat.succ_pos _,r⟩⟩
def Row.of {w:World}{B:Nat}{e:TypeId}{sz:Nat}{v:Value}{n:Nat}{cs:List Value}(h:w.ownsRow B e sz v n cs):Row w.heap e sz v n cs:=Row.ofV (Go.V.Row.of h)
def G3 (E:Env)(H:F0)(S:B0)(e:Nat)(u:U)(xs:List (Den E.D u))(v:Value):Prop:=∃cs,Row H e (D0 E u).sz v xs.length cs/\D1 (D0 E u) H S cs xs
def a0U (pl:List Value):Prop:=∀(i j:Nat) (v v':Value),i≠j->pl[i]?=some v->pl[j]?=some v'->∀k,Q0 v=some k->Q0 v'≠some k
def rowAt (F:List Nat)(i:Nat)(f:Nat):Nat:=i*F.length+f
def a0q (F:List Nat)(o:Option (Int×Nat))(cs:List Value):List Value:=match o with
 |none=>cs
 |some (i,f)=>cs.set (rowAt F i.toNat f) P4
structure R4 (E:Env)(H:F0)(S:B0)(e:Nat)(F:List Nat)(t:U)(xs:List (Den E.D t))(o:Option (Int×Nat))(v:Value)(cs:List Value):Prop where
 row:Row H e (D0 E t).sz (hd v) xs.length cs
 tl:tl v=a0q F o cs
 ok:W5 E t F=true
 bd:∀j g,o=some (j,g)->0<=j/\g<F.length
 rows:∀(i:Nat) (x:Den E.D t) (f:Nat) (u:U) (ys:List (Den E.D u)) (e':Nat),xs[i]?=some x->s5 E t x f=some ⟨u,ys⟩->F[f]?=some e'->o≠some ((i:Int),f)->∃r,cs[rowAt F i f]?=some r/\G3 E H S e' u ys r
 one:∀u∈cs,u.oneCell'=true
 ap:a0U (hd v :: Go.X.tl v)
def Y1 (E:Env)(ρ:Nat->Value)(n:Nat)(H:F0)(S:B0)(x:Th E.D)(v:Value):Prop:=match x with
 |.gone=>True
 |.box T l=>∃b cs,v=.pointer (some ⟨b,0,none⟩)/\H[b]?=some (.cells cs.toArray T (0,0))/\I0 E ρ n H S l cs/\∀u∈cs,u.oneCell'=true
 |.fzb T l=>∃b cs,v=.pointer (some ⟨b,0,none⟩)/\H[b]?=some (.cells cs.toArray T (0,0))/\I0 E ρ n H S l cs/\(∀u∈cs,u.oneCell'=true)/\¬S b
 |.lst e t xs=>∃cs,Row H e (D0 E t).sz v xs.length cs/\D1 (D0 E t) H S cs xs
 |.fz t xs=>∃A c,hd v=.slice A xs.length c/\Sl (D0 E t) H S A c xs
 |.map m=>∃r es cl,v=.map (some r)/\H[r]?=some (.map es cl)/\es.toList.map (fun e=>(e.key,e.val))=m.map (fun p=>(Value.int .i64 p.1,Value.int .i64 p.2))
 |.M0 e F t xs o=>∃cs,R4 E H S e F t xs o v cs
 |.rof q _ _=>q<n/\v.oneCell'=true/\hd v=v
def B8 (H:F0)(v:Value)(n:Nat)(i:Int)(f:Nat)(r:Value):Prop:=∃b o m c,v=.slice (some ⟨b,o,none⟩) m c/\(0<=i/\i<m)/\f<n/\Z0 H b (o+(i.toNat*n+f))=some r
structure K2 where
 w0:World
 W0:B0
 S0:B0
 j8:F0->B0->Prop:=fun _ _=>False
 hda:Nat->Value->Prop:=fun _ _=>False
structure a8 (E:Env)(ρ:Nat->Value)(m:Nat)(H:F0)(S:B0)(n:Nat)(fr:Fr E.D)(a:Act):Prop where
 size:a.tmps.size=n
 defers:a.defers=[]
 slot:∀t v,J2 fr t=some v->VS E ρ m H S v (a.tmps.getD t undef)
def M6 (E:Env)(ρ:Nat->Value)(m:Nat)(H:F0)(S:B0):List (Nat×Fr E.D)->List Act->Prop
 |[],[]=>True
 |p :: l,a :: as=>a8 E ρ m H S p.1 p.2 a/\M6 E ρ m H S l as
 |_,_=>False
structure Rp (E:Env)(A:K2)(s:St E.D)(ρ:Nat->Value)(S:B0)(a:Act)(as:List Act)(w:World):Prop where
 cx:Cx A.w0 A.W0 A.S0 w S
 fr:a8 E ρ s.nid w.heap S s.n s.fr a
 stk:M6 E ρ s.nid w.heap S s.stk as
 th:∀id,Y1 E ρ s.nid w.heap S (C0 s id) (ρ id)
 ow:∀id,o1 (C0 s id)=true->∀k,Bk (ρ id) k->S k/\¬A.S0 k/\Wr A.W0 A.w0 k
 dj:∀i j,i≠j->o1 (C0 s i)=true->o1 (C0 s j)=true->∀k,Bk (ρ i) k->¬Bk (ρ j) k
 lt:∀id,s.nid<=id->C0 s id=.gone
 rf:∀r q i f,C0 s r=.rof q i f->∀e F t xs,C0 s q=.M0 e F t xs none->B8 w.heap (hd (ρ q)) F.length i f (ρ r)
 kp:∀H1 S1,A.j8 H1 S1->J0 H1 S1 w.heap S
 hp:∀i u,A.hda i u->i<s.nid/\hd (ρ i)=u
section
variable {A:K2}{s s1:St E.D}{ρ ρ1:Nat->Value}{S S1:B0}{a:Act}{as:List Act}{w w1:World}
def a8.mono {m m':Nat}{H H':F0}{n:Nat}{fr:Fr E.D}(hρ:∀i,i<m->hd (ρ1 i)=hd (ρ i))(hn:m<=m')(k:J0 H S H' S1)(h:a8 E ρ m H S n fr a):a8 E ρ1 m' H' S1 n fr a:=
 ⟨h.size,h.defers,fun t v ht=>(h.slot t v ht).mono hρ hn k⟩
def M6.mono {m m':Nat}{H H':F0}(hρ:∀i,i<m->hd (ρ1 i)=hd (ρ i))(hn:m<=m')(k:J0 H S H' S1):∀{l:List (Nat×Fr E.D)} {as:List Act},M6 E ρ m H S l as->M6 E ρ1 m' H' S1 l as
 |[],[],h=>h
 |[],_ :: _,h=>h
 |_ :: _,[],h=>h
 |p :: l,a :: as,⟨h1,h2⟩=>⟨h1.mono hρ hn k,M6.mono hρ hn k h2⟩
def G3.mono {H H':F0}{e:Nat}{u:U}{xs:List (Den E.D u)}{v:Value}(k:J0 H S H' S1)(hb:∀b,Q0 v=some b->H'[b]?=H[b]?)(h:G3 E H S e u xs v):G3 E H' S1 e u xs v:=by
 obtain⟨cs,⟨h0,h1⟩,h2⟩:=h;refine⟨cs,⟨h0,?_⟩,h2.Y0 k⟩;rcases h1 with h1|⟨g,cap,cur,rfl,hp,hg,r⟩
 ·exact .inl h1
 ·exact .inr ⟨g,cap,cur,rfl,hp,(hb g (a0t hp)).trans hg,r⟩
def Row.mono {H H':F0}{e n m:Nat}{v:Value}{cs:List Value}(hb:∀b,Q0 v=some b->H'[b]?=H[b]?)(h:Row H e n v m cs):Row H' e n v m cs:=by
 obtain⟨h0,h1⟩:=h;refine⟨h0,?_⟩;rcases h1 with h1|⟨g,cap,cur,rfl,hp,hg,r⟩
 ·exact .inl h1
 ·exact .inr ⟨g,cap,cur,rfl,hp,(hb g (a0t hp)).trans hg,r⟩
def Row.form {H:F0}{e n m:Nat}{v:Value}{cs:List Value}(h:Row H e n v m cs):∃a c,v=.slice a m c:=by
 rcases h.2 with⟨rfl,a,rfl⟩|⟨g,cap,cur,rfl,_⟩<;>exact⟨_,_,rfl⟩
def Row.live {H:F0}{e n m:Nat}{v:Value}{cs:List Value}(h:Row H e n v m cs):∀b,Q0 v=some b->b<H.size:=by
 intro k hk;rcases h.2 with⟨rfl,a,rfl⟩|⟨g,cap,cur,rfl,hp,hg,r⟩
 ·cases a<;>cases hk
 ·obtain⟨_,rfl⟩:=a0m hk;exact getElem?_lt hg
def Row.cap {H:F0}{e n m c:Nat}{a:Option Addr}{k:Nat}{cs:List Value}(h:Row H e n (.slice a m c) k cs):m=k/\k<=c:=by
 rcases h.2 with⟨rfl,a,h1⟩|⟨g,cap,cur,h1,hp,hg,r,_⟩
 ·cases h1;exact⟨rfl,Nat.le_refl _⟩
 ·cases h1;exact⟨rfl,r⟩
def Row.c04 {H:F0}{e n m c:Nat}{a:Addr}{k:Nat}{cs:List Value}(h:Row H e n (.slice (some a) m c) k cs)(hm:0<m):Q0 (.slice (some a) m c)=some a.block:=a0t (by have:=h.cap;omega)
def Y9 {v:Value}{k:Nat}:Bk v k↔Q0 (hd v)=some k\/∃u∈tl v,Q0 u=some k:=by
 cases v with
 |
  tuple a=>
  obtain⟨l⟩:=a;cases l with
  |nil=>
       constructor
       ·rintro⟨u,hu,_⟩;cases hu
       ·rintro(h|⟨u,hu,_⟩)
        ·cases h
        ·cases hu
  |
   cons x l=>
   show(∃u∈x :: l,Q0 u=some k)↔Q0 x=some k\/∃u∈l,Q0 u=some k;simp
 |_=>exact⟨.inl,fun h=>h.elim id fun⟨_,h,_⟩=>by cases h⟩
def Bk.hd {v:Value}{k:Nat}(h:Q0 (Go.X.hd v)=some k):Bk v k:=Y9.2 (.inl h)
def Bk.tl {v u:Value}{k:Nat}(hu:u∈Go.X.tl v)(h:Q0 u=some k):Bk v k:=Y9.2 (.inr ⟨u,hu,h⟩)
def a0r {F:List Nat}{o:Option (Int×Nat)}{cs:List Value}{i:Nat}{f:Nat}{r:Value}(hf:f<F.length)(ho:∀j g,o=some (j,g)->0<=j/\g<F.length)(h:cs[rowAt F i f]?=some r)(hn:o≠some ((i:Int),f)):(a0q F o cs)[rowAt F i f]?=some r:=by
 unfold a0q;split
 ·exact h
 ·rename_i j g;obtain⟨h0,hg⟩:=ho j g rfl;rw[List.getElem?_set_ne]
  ·exact h
  ·intro e;unfold rowAt at e;have h1:j.toNat=i/\g=f:=by
    have hp:0<F.length:=by omega
    have a1:=congrArg (· / F.length) e;have a2:=congrArg (· % F.length) e;simp only[Nat.mul_comm _ F.length,Nat.mul_add_div hp,Nat.mul_add_mod,Nat.div_eq_of_lt hg,Nat.div_eq_of_lt hf,Nat.mod_eq_of_lt hg,Nat.mod_eq_of_lt hf]at a1 a2;omega
   exact hn (by
          rw[<-h1.2];have:((i:Nat):Int)=j:=by omega
          rw[this])
def Y1.mono {m m':Nat}{H H':F0}{x:Th E.D}{v:Value}(hρ:∀i,i<m->hd (ρ1 i)=hd (ρ i))(hn:m<=m')(k:J0 H S H' S1)(hb:o1 x=true->∀b,Bk v b->H'[b]?=H[b]?)(h:Y1 E ρ m H S x v):Y1 E ρ1 m' H' S1 x v:=by
 cases x with
 |gone=>trivial
 |
  box T l=>
  obtain⟨b,cs,rfl,h1,h2,h3⟩:=h;exact⟨b,cs,rfl,(hb rfl b rfl).trans h1,h2.mono hρ hn k,h3⟩
 |
  fzb T l=>
  obtain⟨b,cs,rfl,h1,h2,h3,h4⟩:=h;obtain⟨k1,k2⟩:=k.blk b (getElem?_lt h1) h4;exact⟨b,cs,rfl,k2.trans h1,h2.mono hρ hn k,h3,k1⟩
 |
  lst e t xs=>
  obtain⟨cs,h1,h2⟩:=h;obtain⟨_,_,rfl⟩:=Row.form h1;exact⟨cs,Row.mono (fun b hb2=>hb rfl b hb2) h1,h2.Y0 k⟩
 |
  fz t xs=>
  obtain⟨A,c,e,h⟩:=h;exact⟨A,c,e,h.Y0 k⟩
 |
  map m=>
  obtain⟨r,es,cl,rfl,h1,h2⟩:=h;exact⟨r,es,cl,rfl,(hb rfl r rfl).trans h1,h2⟩
 |
  M0 e F t xs o=>
  obtain⟨cs,h⟩:=h;refine⟨cs,Row.mono (fun b hb2=>hb rfl b (Bk.hd hb2)) h.row,h.tl,h.ok,h.bd,fun i x f u ys e' h1 h2 h3 h4=>?_,h.one,h.ap⟩;obtain⟨r,h5,h6⟩:=h.rows i x f u ys e' h1 h2 h3 h4;refine⟨r,h5,h6.mono k fun b hb2=>hb rfl b ?_⟩;have h7:=a0r (List.getElem?_eq_some_iff.1 h3).1 h.bd h5 h4;rw[<-h.tl]at h7;exact Bk.tl (List.mem_of_getElem? h7) hb2
 |rof q i f=>exact⟨Nat.lt_of_lt_of_le h.1 hn,h.2⟩
def o02 {D:Nat->Type}:∀{l:List U} (h:HL D l) {f:Nat},T7 l=true->f<l.length->∃u y,I3 l h f=some ⟨.list u,y⟩
 |[],_,f,_,hf=>by simp at hf
 |
  t :: l,h,0,hb,_=>by
  simp only[T7,Bool.and_eq_true]at hb;cases t<;>first|(exact⟨_,_,rfl⟩)|(exact absurd hb.1 (by simp[d0S]))
 |
  t :: l,h,f+1,hb,hf=>by
  simp only[T7,Bool.and_eq_true]at hb;exact o02 (l:=l) h.2 hb.2 (by simpa using hf)
def P9 {t:U}{F:List Nat}(h:W5 E t F=true):(D0 E t).sz=F.length/\∀(x:Den E.D t) f,f<F.length->∃u ys,s5 E t x f=some ⟨u,ys⟩:=by
 simp only[W5,Bool.and_eq_true,Nat.beq_eq]at h;obtain⟨⟨h1,h2⟩,h3⟩:=h;refine⟨h1,fun x f hf=>?_⟩;cases t<;>simp only at h3<;>try cases h3
 ·rw[h2]at hf;have:f=0:=by simp[g08]at hf;exact hf
  subst this;exact⟨_,_,rfl⟩
 ·rename_i k;rw[h2]at hf;obtain⟨u,y,e⟩:=o02 (E.un k x) h3 hf;exact⟨u,y,show r9 _=_ by rw[e];rfl⟩
def R4.sz {H:F0}{e:Nat}{F:List Nat}{t:U}{xs:List (Den E.D t)}{o:Option (Int×Nat)}{v:Value}{cs:List Value}(h:R4 E H S e F t xs o v cs):cs.length=xs.length*F.length:=by
 rw[h.row.1,(P9 h.ok).1]
def R4.at {H:F0}{e:Nat}{F:List Nat}{t:U}{xs:List (Den E.D t)}{o:Option (Int×Nat)}{v:Value}{cs:List Value}(h:R4 E H S e F t xs o v cs){p:Nat}{u:Value}(hp:(Go.X.tl v)[p]?=some u):u=P4\/∃i f x w ys e',p=rowAt F i f/\f<F.length/\xs[i]?=some x/\s5 E t x f=some ⟨w,ys⟩/\F[f]?=some e'/\o≠some ((i:Int),f)/\cs[p]?=some u/\G3 E H S e' w ys u:=by
 rw[h.tl]at hp;have hlen:(a0q F o cs).length=cs.length:=by unfold a0q;split<;>simp
 have hlt:p<xs.length*F.length:=by rw[<-h.sz,<-hlen];exact(List.getElem?_eq_some_iff.1 hp).1
 have hn:0<F.length:=by
  rcases Nat.eq_zero_or_pos F.length with e|e
  ·rw[e]at hlt;omega
  ·exact e
 have hi:p / F.length<xs.length:=(Nat.div_lt_iff_lt_mul hn).2 hlt;have hf:=Nat.mod_lt p hn;have hpe:p=rowAt F (p / F.length) (p % F.length):=by
  unfold rowAt;rw[Nat.mul_comm];exact(Nat.div_add_mod p F.length).symm
 by_cases ho:o=some (((p / F.length:Nat):Int),p % F.length)
 ·left;subst ho;simp only[a0q,Int.toNat_natCast]at hp;rw[<-hpe]at hp;rw[List.getElem?_set_self (by rw[h.sz];exact hlt)]at hp;exact(Option.some.inj hp).symm
 ·right;have hpc:p<cs.length:=by rw[h.sz];exact hlt
  obtain⟨w,ys,hr⟩:=(P9 h.ok).2 xs[p / F.length] _ hf;obtain⟨r,h1,h2⟩:=h.rows (p / F.length) _ (p % F.length) w ys _ (List.getElem?_eq_getElem hi) hr (List.getElem?_eq_getElem hf) ho;have h3:=a0r hf h.bd h1 ho;rw[<-hpe]at h1 h3;rw[hp]at h3;obtain rfl:=Option.some.inj h3;exact⟨_,_,_,w,ys,_,hpe,hf,List.getElem?_eq_getElem hi,hr,List.getElem?_eq_getElem hf,ho,h1,h2⟩
def R4.live {H:F0}{e:Nat}{F:List Nat}{t:U}{xs:List (Den E.D t)}{o:Option (Int×Nat)}{v:Value}{cs:List Value}(h:R4 E H S e F t xs o v cs):∀b,Bk v b->b<H.size:=by
 intro b hb;rcases Y9.1 hb with hb|⟨u,hu,hb⟩
 ·exact Row.live h.row b hb
 ·obtain⟨p,hp⟩:=List.getElem?_of_mem hu;rcases h.at hp with rfl|⟨_,_,_,_,_,_,_,_,_,_,_,_,_,cs',h2,_⟩
  ·cases hb
  ·exact Row.live h2 b hb
def Y1.live {m:Nat}{H:F0}{x:Th E.D}{v:Value}(h:Y1 E ρ m H S x v)(ho:o1 x=true):∀b,Bk v b->b<H.size:=by
 cases x with
 |gone=>cases ho
 |box T l=>obtain⟨b,cs,rfl,h1,_⟩:=h;intro k hk;cases hk;exact getElem?_lt h1
 |fzb T l=>cases ho
 |
  lst e t xs=>
  obtain⟨cs,h1,h2⟩:=h;intro k hk;obtain⟨_,_,rfl⟩:=Row.form h1;exact Row.live h1 k hk
 |fz t xs=>cases ho
 |map m=>obtain⟨r,es,cl,rfl,h1,h2⟩:=h;intro k hk;cases hk;exact getElem?_lt h1
 |
  M0 e F t xs o=>
  obtain⟨cs,h⟩:=h;exact h.live
 |rof q i f=>cases ho
def V6 {α:Type}(k t:Nat)(v:α)(l:List (Nat×α)):J2 ((k,v) :: l) t=if k=t then some v else J2 l t:=by
 simp only[J2]
 by_cases h:k=t
 ·subst h;simp
 ·rw[if_neg h];have:Nat.beq k t=false:=by rw[<-Bool.not_eq_true,Nat.beq_eq];exact h
  rw[this]
def H5 (s:St E.D)(id j:Nat)(x:Th E.D):C0 (s.at id x) j=if id=j then x else C0 s j:=by
 unfold C0 St.at;simp only[V6]
 by_cases h:id=j<;>simp[h]
def g0l (s:St E.D)(j:Nat)(x:Th E.D):C0 (s.new x) j=if s.nid=j then x else C0 s j:=by
 unfold C0 St.new;simp only[V6]
 by_cases h:s.nid=j<;>simp[h]
structure z0M (A:K2)(s:St E.D)(ρ ρ1:Nat->Value)(S S1:B0)(w w1:World)(nid1:Nat):Prop where
 cx:Cx A.w0 A.W0 A.S0 w1 S1
 kp:J0 w.heap S w1.heap S1
 hρ:∀i,i<s.nid->hd (ρ1 i)=hd (ρ i)
 hn:s.nid<=nid1
def X7 (s s1:St E.D)(ρ ρ1:Nat->Value)(S1:B0)(w w1:World)(id:Nat):Prop:=
 C0 s1 id=C0 s id/\id<s.nid/\ρ1 id=ρ id/\(o1 (C0 s id)=true->∀k,Bk (ρ id) k->w1.heap[k]?=w.heap[k]?/\S1 k)
def Rp.step (h:Rp E A s ρ S a as w){nid1:Nat}{th1:List (Nat×Th E.D)}(p:z0M A s ρ ρ1 S S1 w w1 nid1)
  (hst:∀id,X7 s { s with th:=th1,nid:=nid1 } ρ ρ1 S1 w w1 id\/
   (Y1 E ρ1 nid1 w1.heap S1 (C0 { s with th:=th1,nid:=nid1 } id) (ρ1 id)/\(o1 (C0 { s with th:=th1,nid:=nid1 } id)=true->∀k,Bk (ρ1 id) k->(S1 k/\¬A.S0 k/\Wr A.W0 A.w0 k)/\
    ∀j,j≠id->o1 (C0 { s with th:=th1,nid:=nid1 } j)=true->¬Bk (ρ1 j) k)/\(nid1<=id->C0 { s with th:=th1,nid:=nid1 } id=.gone)))
  (hrf:∀r q i f,C0 { s with th:=th1,nid:=nid1 } r=.rof q i f->∀e F t xs,C0 { s with th:=th1,nid:=nid1 } q=.M0 e F t xs none->
   (X7 s { s with th:=th1,nid:=nid1 } ρ ρ1 S1 w w1 r/\X7 s { s with th:=th1,nid:=nid1 } ρ ρ1 S1 w w1 q)\/B8 w1.heap (hd (ρ1 q)) F.length i f (ρ1 r)):
  Rp E A { s with th:=th1,nid:=nid1 } ρ1 S1 a as w1:=by
 refine⟨p.cx,h.fr.mono p.hρ p.hn p.kp,h.stk.mono p.hρ p.hn p.kp,fun id=>?_,fun id ho k hk=>?_,fun i j hij hi hj k hk hk2=>?_,fun id hid=>?_,fun r q i f hr e F t xs hq=>?_,fun H1 S1 ha=>(h.kp H1 S1 ha).trans p.kp,fun i u ha=>⟨Nat.lt_of_lt_of_le (h.hp i u ha).1 p.hn,(p.hρ i (h.hp i u ha).1).trans (h.hp i u ha).2⟩⟩
 ·rcases hst id with⟨e,hlt,e2,hb⟩|⟨h1,_⟩
  ·rw[e,e2];exact(h.th id).mono p.hρ p.hn p.kp (fun ho b hb2=>(hb ho b hb2).1)
  ·exact h1
 ·rcases hst id with⟨e,hlt,e2,hb⟩|⟨_,h2,_⟩
  ·rw[e]at ho;rw[e2]at hk;exact⟨(hb ho k hk).2,(h.ow id ho k hk).2⟩
  ·exact(h2 ho k hk).1
 ·rcases hst i with⟨e,hlt,e2,hb⟩|⟨_,h2,_⟩
  ·rcases hst j with⟨e',hlt',e2',hb'⟩|⟨_,h2',_⟩
   ·rw[e]at hi;rw[e']at hj;rw[e2]at hk;rw[e2']at hk2;exact h.dj i j hij hi hj k hk hk2
   ·exact(h2' hj k hk2).2 i hij hi hk
  ·exact(h2 hi k hk).2 j (Ne.symm hij) hj hk2
 ·rcases hst id with⟨e,hlt,_,hb⟩|⟨_,_,h3⟩
  ·have:=p.hn;have hid:nid1<=id:=hid;omega
  ·exact h3 hid
 ·rcases hrf r q i f hr e F t xs hq with⟨⟨r1,_,r2,_⟩,⟨q1,_,q2,q3⟩⟩|h1
  ·rw[r1]at hr;rw[q1]at hq;obtain⟨b,o,m,c,h1,h2,h3,h4⟩:=h.rf r q i f hr e F t xs hq;refine⟨b,o,m,c,by rw[q2];exact h1,h2,h3,?_⟩;have:=(q3 (by rw[hq];rfl) b (Bk.hd (by
    have ht:=h.th q;rw[hq]at ht;obtain⟨cs,ht⟩:=ht;have:=ht.row;rw[h1]at this ⊢;exact this.c04 (by omega)))).1
   rw[r2,<-h4];unfold Z0;rw[this]
  ·exact h1
theorem Rp.put (h:Rp E A s ρ S a as w) {d:Option Nat} {v:V E.D} {u:Value} (hd:I8 s.n ⟨d,.alloc 0,0,"",#[],none⟩=true) (hv:VS E ρ s.nid w.heap S v u):Rp E A (s.put d v) ρ S (a.put d u) as w:=by
 cases d with
 |none=>exact h
 |
  some t=>
  have ht:t<s.n:=by simpa[I8,Nat.blt_eq]using hd
  refine⟨h.cx,⟨by simp[Act.put,h.fr.size,St.put],by simp[Act.put,h.fr.defers],fun t' v' hl=>?_⟩,h.stk,h.th,h.ow,h.dj,h.lt,h.rf,h.kp,h.hp⟩;simp only[St.put,V6]at hl;simp only[Act.put]
  by_cases e:t=t'
  ·subst e;simp only[if_true,Option.some.injEq]at hl;subst hl;have:(a.tmps.setIfInBounds t u).getD t undef=u:=by
    have hs:=h.fr.size;have hlt:t<a.tmps.size:=by omega
    simp[Array.getD,hlt]
   rw[this];exact hv
  ·rw[if_neg e]at hl;have:(a.tmps.setIfInBounds t u).getD t' undef=a.tmps.getD t' undef:=by
    simp only[Array.getD_eq_getD_getElem?];rw[Array.getElem?_setIfInBounds_ne e]
   rw[this];exact h.fr.slot t' v' hl
def Rp.get (h:Rp E A s ρ S a as w){t:Nat}{v:V E.D}(ht:J2 s.fr t=some v):VS E ρ s.nid w.heap S v (a.tmps.getD t undef):=h.fr.slot t v ht
def VS.undef {m:Nat}{H:F0}(u:Value):VS E ρ m H S .undef u:=⟨[u],by unfold VC;exact⟨u,rfl⟩,rfl⟩
def Rp.val (h:Rp E A s ρ S a as w)(x:Operand):VS E ρ s.nid w.heap S (V0 E s x) (a.eval x):=by
 cases x with
 |
  tmp t=>
  show VS E ρ s.nid w.heap S (match J2 s.fr t with|some v=>v|none=>.undef) (a.tmps.getD t Go.undef);cases ht:J2 s.fr t with
  |some v=>exact h.get ht
  |none=>exact VS.undef _
 |
  const v=>
  show VS E ρ s.nid w.heap S (Z4 v) v;unfold Z4;split<;>first|exact⟨[_],by unfold VC;rfl,rfl⟩|exact VS.undef _
 |global g=>exact VS.undef _
 |func f=>exact⟨[.func (.func f) #[] #[]],by unfold V0 VC VT;exact⟨[],rfl,rfl⟩,rfl⟩
def s4 (ρ:Nat->Value)(i:Nat)(v:Value):Nat->Value:=fun j=>if j=i then v else ρ j
def X2 {i:Nat}{v:Value}:s4 ρ i v i=v:=by simp[s4]
def B3 {i j:Nat}{v:Value}(h:j≠i):s4 ρ i v j=ρ j:=by simp[s4,h]
def Rp.L4 (h:Rp E A s ρ S a as w){id:Nat}(hn:C0 s id≠.gone):id<s.nid:=by
 rcases Nat.lt_or_ge id s.nid with h1|h1
 ·exact h1
 ·exact absurd (h.lt id h1) hn
def Rp.P8 (h:Rp E A s ρ S a as w){r q f:Nat}{i:Int}(hr:C0 s r=.rof q i f):q<s.nid:=by
 have:=h.th r;rw[hr]at this;exact this.1
def Rp.new (h:Rp E A s ρ S a as w){x:Th E.D}{v:Value}(hb:Below w.heap.size w w1)(hv:∀k,Bk v k->w.heap.size<=k/\k<w1.heap.size)
  (hx:∀S1,J0 w.heap S w1.heap S1->(∀k,Bk v k->o1 x=true->S1 k)->(∀k,S1 k->(o1 x=true/\Bk v k)\/S k)->Y1 E (s4 ρ s.nid v) (s.nid+1) w1.heap S1 x v) (hnr:∀q i f,x≠.rof q i f:=by intros;simp):
  ∃S1,J0 w.heap S w1.heap S1/\Rp E A (s.new x) (s4 ρ s.nid v) S1 a as w1:=by
 have hk:J0 w.heap S w1.heap (fun k=>(o1 x=true/\Bk v k)\/S k):=⟨hb.size,fun b hbl hn=>⟨fun hh=>hh.elim (fun h2=>by have:=(hv b h2.2).1;omega) hn,hb.block b hbl⟩⟩
 have hcx:=h.cx.ext hb;have hl:∀j,C0 { s with th:=(s.nid,x) :: s.th,nid:=s.nid+1 } j=if s.nid=j then x else C0 s j:=fun j=>g0l s j x;have hsame:∀j,j<s.nid->X7 s { s with th:=(s.nid,x) :: s.th,nid:=s.nid+1 } ρ (s4 ρ s.nid v) (fun k=>(o1 x=true/\Bk v k)\/S k) w w1 j:=fun j hj=>
  ⟨by rw[hl,if_neg (by omega)],hj,B3 (by omega),fun ho k hk2=>⟨hb.block k ((h.th j).live ho k hk2),.inr (h.ow j ho k hk2).1⟩⟩
 refine⟨_,hk,h.step (nid1:=s.nid+1) (th1:=(s.nid,x) :: s.th) ⟨hcx.more (fun _ h=>.inr h) (fun b hb2=>hb2.elim (fun h2=>(hv b h2.2).2) (hcx.lt b)),hk,fun i hi=>by rw[B3 (by omega)],by omega⟩ (fun id=>?_) fun r q i f hr e F t xs hq=>.inl ?_⟩
 ·by_cases e:s.nid=id
  ·subst e;refine .inr ⟨?_,fun ho k hk2=>?_,fun hle=>by omega⟩
   ·rw[hl,if_pos rfl,X2];exact hx _ hk (fun k hk2 ho=>.inl ⟨ho,hk2⟩) (fun k hk2=>hk2)
   ·rw[hl,if_pos rfl]at ho;rw[X2]at hk2;have hge:=hv k hk2;refine⟨⟨.inl ⟨ho,hk2⟩,fun h0=>by have:=h.cx.lt0 k h0;have:=h.cx.size;omega,.inr (by have:=h.cx.size;omega)⟩,fun j hj hoj hk3=>?_⟩;rw[hl,if_neg (fun e=>hj e.symm)]at hoj;rw[B3 hj]at hk3;have:=(h.th j).live hoj k hk3;omega
  ·by_cases hlt:id<s.nid
   ·exact .inl (hsame id hlt)
   ·rw[hl,if_neg e];refine .inr ⟨?_,fun ho=>?_,fun _=>h.lt id (by omega)⟩
    ·rw[h.lt id (by omega)];trivial
    ·rw[h.lt id (by omega)]at ho;cases ho
 ·rw[hl]at hr;split at hr
  ·exact absurd hr (hnr q i f)
  ·have hq2:=h.P8 hr;exact⟨hsame r (h.L4 (by rw[hr];simp)),hsame q hq2⟩
def Rp.turn (h:Rp E A s ρ S a as w){id:Nat}{x:Th E.D}{v:Value}(hid:id<s.nid)(ho:o1 (C0 s id)=true)(cx:Cx A.w0 A.W0 A.S0 w1 S1)(kp:J0 w.heap S w1.heap S1)(hs:∀k,S k->S1 k)
  (hb:∀k,k<w.heap.size->¬Bk (ρ id) k->w1.heap[k]?=w.heap[k]?) (hv:v=ρ id)
  (hS:∀k,Bk v k->S1 k) (hx:Y1 E ρ s.nid w1.heap S1 x v) (hnr:∀q i f,x≠.rof q i f:=by intros;simp) (hnt:∀e F t xs,x=.M0 e F t xs none->∀r i f,C0 s r=.rof id i f->B8 w1.heap (hd (ρ id)) F.length i f (ρ r):=by intro _ _ _ _ h;cases h):Rp E A (s.at id x) ρ S1 a as w1:=by
 subst hv;have hl:∀j,C0 { s with th:=(id,x) :: s.th,nid:=s.nid } j=if id=j then x else C0 s j:=fun j=>H5 s id j x;have hsame:∀j,j≠id->j<s.nid->X7 s { s with th:=(id,x) :: s.th,nid:=s.nid } ρ ρ S1 w w1 j:=fun j hj hlt=>
  ⟨by rw[hl,if_neg (Ne.symm hj)],hlt,rfl,fun hoj k hk=>⟨hb k ((h.th j).live hoj k hk) (fun e2=>h.dj id j (Ne.symm hj) ho hoj k e2 hk),hs k (h.ow j hoj k hk).1⟩⟩
 refine h.step (nid1:=s.nid) (th1:=(id,x) :: s.th) ⟨cx,kp,fun _ _=>rfl,Nat.le_refl _⟩ (fun j=>?_) fun r q i f hr e F t xs hq=>?_
 ·by_cases e:id=j
  ·subst e;refine .inr ⟨by rw[hl,if_pos rfl];exact hx,fun _ k hk=>?_,fun hle=>by omega⟩;obtain⟨h1,h2⟩:=h.ow id ho k hk;refine⟨⟨hS k hk,h2⟩,fun j hj hoj hk2=>?_⟩;rw[hl,if_neg (fun e=>hj e.symm)]at hoj;exact h.dj id j (fun e=>hj e.symm) ho hoj k hk hk2
  ·by_cases hlt:j<s.nid
   ·exact .inl (hsame j (fun h=>e h.symm) hlt)
   ·rw[hl,if_neg e];refine .inr ⟨?_,fun hoj=>?_,fun _=>h.lt j (by omega)⟩
    ·rw[h.lt j (by omega)];trivial
    ·rw[h.lt j (by omega)]at hoj;cases hoj
 ·rw[hl]at hr;split at hr
  ·exact absurd hr (hnr q i f)
  ·rename_i hne;have hq2:=h.P8 hr;rw[hl]at hq;split at hq
   ·rename_i e2;subst e2;exact .inr (hnt e F t xs hq r i f hr)
   ·rename_i hne2;exact .inl ⟨hsame r (Ne.symm hne) (h.L4 (by rw[hr];simp)),hsame q (Ne.symm hne2) hq2⟩
def Rp.gone (h:Rp E A s ρ S a as w)(id:Nat):Rp E A (s.at id .gone) ρ S a as w:=by
 have hl:∀j,C0 (s.at id .gone) j=if id=j then .gone else C0 s j:=fun j=>H5 s id j .gone;refine⟨h.cx,h.fr,h.stk,fun j=>?_,fun j hj=>?_,fun i j hij hi hj=>?_,fun j hj=>?_,fun r q i f hr e F t xs hq=>?_,h.kp,h.hp⟩
 ·rw[hl];split
  ·trivial
  ·exact h.th j
 ·rw[hl]at hj;split at hj
  ·cases hj
  ·exact h.ow j hj
 ·rw[hl]at hi hj;split at hi
  ·cases hi
  ·split at hj
   ·cases hj
   ·exact h.dj i j hij hi hj
 ·rw[hl];split
  ·rfl
  ·exact h.lt j hj
 ·rw[hl]at hr hq;split at hr
  ·cases hr
  ·split at hq
   ·cases hq
   ·exact h.rf r q i f hr e F t xs hq
def Rp.ext (h:Rp E A s ρ S a as w)(hb:Below w.heap.size w w1):Rp E A s ρ S a as w1:=
 have hsame:∀j,j<s.nid->X7 s { s with th:=s.th,nid:=s.nid } ρ ρ S w w1 j:=fun j hj=>⟨rfl,hj,rfl,fun ho k hk=>⟨hb.block k ((h.th j).live ho k hk),(h.ow j ho k hk).1⟩⟩
 h.step (nid1:=s.nid) (th1:=s.th) ⟨h.cx.ext hb,J0.ext S hb,fun _ _=>rfl,Nat.le_refl _⟩ (fun id=>by
  by_cases hlt:id<s.nid
  ·exact .inl (hsame id hlt)
  ·have:C0 { s with th:=s.th,nid:=s.nid } id=.gone:=h.lt id (by omega);rw[this];exact .inr ⟨trivial,(fun ho=>by cases ho),fun _=>rfl⟩) fun r q i f hr e F t xs _=>.inl ⟨hsame r (h.L4 (by have hr:C0 s r=_:=hr;rw[hr];simp)),hsame q (h.P8 hr)⟩
end
end
