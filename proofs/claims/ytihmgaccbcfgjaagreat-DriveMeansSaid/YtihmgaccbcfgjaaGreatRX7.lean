/- P. Its conditions: none. -/
import Derived.Test.YtihmgaccbcfgjaaGreatRX6
import Derived.Great.BuildSlice
open Nat (le_succ lt_succ_self le_refl le_trans succ_mul mul_le_mul_right beq_eq zero_add lt_or_ge mul_one)
open List (all_eq_true eq_nil_of_length_eq_zero length_append append_assoc nil_append drop_drop take_append_drop length_take length_set any_eq_true mem_cons mem_of_getElem? mem_append map_cons)
open Bool (and_eq_true)
set_option linter.all false
namespace Go.X
open Go.V Go.RowKit
section
variable {E:Env}{A:E4}{s:St E.D}{ρ:Nat->Value}{S:D0}{a:Act}{as:List Act}{w:World}
theorem e04 {v:Value}(h:v.oneCell'=true):hd v=v/\∀k,Bk v k↔B1 v=some k:=by
 cases v<;>first|exact⟨rfl,fun _=>Iff.rfl⟩|grind [Value.oneCell']
structure K5 (E:Env)(A:E4)(s:St E.D)(ρ:Nat->Value)(S:D0)(a:Act)(as:List Act)(w:World)(s1:St E.D)(v:V E.D)(u:Value)(w1:World):Prop where
 rp:∃ ρ1 S1,Rp E A s1 ρ1 S1 a as w1/\VS E ρ1 s1.nid w1.heap S1 v u/\P0 w.heap S w1.heap S1
 ext:Ext s s1
 fr:s1.fr=s.fr
 old:∀k,k<w.heap.size->(∀q,q<s.nid->Q1 (F0 s q)=true->W6 s s1 q=true->¬Bk (ρ q) k)->w1.heap[k]?=w.heap[k]?
def f0g (s:St E.D){id:Nat}{x:Th E.D}:W6 s (s.at id x) id=true:=by
 simp[W6,St.at]
theorem Rp.q0Q (h:Rp E A s ρ S a as w){l:List (V E.D)}{cs:List Value}(hl:T0 E ρ s.nid w.heap S l cs)(h1:∀u∈cs,u.oneCell'=true)(T:Nat):
  K5 E A s ρ S a as w (s.new (.box T l)) (.pb s.nid 0 []) (.pointer (some ⟨w.heap.size,0,none⟩)) (w.alloc (.cells cs.toArray T)):=by
 have b:=Below.new w (.cells cs.toArray T);obtain⟨S1,hk,c⟩:=h.new (x:=.box T l) (v:=.pointer (some ⟨w.heap.size,0,none⟩)) (w1:=w.alloc (.cells cs.toArray T)) b
  (fun k hk=>by simp_all[Bk,B1]) (fun S1 hk hs hn=>⟨w.heap.size,cs,rfl,heap_alloc_new w _,hl.mono (fun i hi=>by grind [n5]) (le_succ _) hk,h1⟩)
 refine⟨⟨_,S1,c,?_,hk⟩,Ext.new s _,rfl,fun k hk _=>b.block k hk⟩;have:=VS.pb (E:=E) (S:=S1) (H:=(w.alloc (.cells cs.toArray T)).heap) (ρ:=C6 ρ s.nid (.pointer (some ⟨w.heap.size,0,none⟩))) (n:=s.nid+1) (id:=s.nid) (off:=0) (p:=[]) (lt_succ_self _) trivial (by rw[W4];rfl);exact this
def B07 (h:Rp E A s ρ S a as w){R:Type}{k:K E R}{r:R}{T:Nat}(hk:n0c E s T k=some r):
  ∃s1 v u w1,k s1 v=some r/\K5 E A s ρ S a as w s1 v u w1/\(Instr.alloc T true (.tuple #[])).run E.P w=.ok u w1:=by
 unfold n0c at hk;split at hk<;>try cases hk
 rename_i z b;split at hk<;>try cases hk
 rename_i h1;unfold s0s at b;split at b<;>try cases b
 refine⟨_,_,_,_,hk,h.q0Q (l0f z) (all_eq_true.1 h1) T,?_⟩
 simp_all[Instr.alloc,zeroValue,typeInfo,newVar,newRow]
def B09 (g:T1 E)(h:Rp E A s ρ S a as w){R:Type}{k:K E R}{r:R}{T:Nat}{v:V E.D}{b:Value}(f:VS E ρ s.nid w.heap S v b)(hk:p0V E s T v k=some r):
  ∃s1 v u w1,k s1 v=some r/\K5 E A s ρ S a as w s1 v u w1/\(Instr.box T b).run E.P w=.ok u w1:=by
 unfold p0V at hk;split at hk<;>try cases hk
 rename_i hs;obtain⟨c,h1,d,e,_⟩:=f.cells g hs;refine⟨_,_,_,_,hk,h.q0Q h1 e T,?_⟩;simp[Instr.box,newVar,newRow,d]
theorem v0R {P:Program}(b t:Nat):∀(vs:List Value) (i off:Nat) (w:World) (d1 d2 d3:List Value),w.heap[b]?=some (.cells (d1++(d2++d3)).toArray t (0,0))->d1.length=off+i->d2.length=vs.length->(∀v∈vs,v.oneCell'=true)->
  ∃w1,(storeCells ⟨b,off,none⟩ vs i).run P w=.ok () w1/\j5 b w w1/\w1.heap.size=w.heap.size/\w1.heap[b]?=some (.cells (d1++(vs++d3)).toArray t (0,0))
 |[],i,off,w,d1,d2,d3,f,_,g,_=>by
  have:d2=[]:=eq_nil_of_length_eq_zero O';subst this;exact⟨w,by rfl,⟨rfl,rfl,rfl,le_refl _,fun _ _ _=>rfl⟩,rfl,f⟩
 |v :: vs,i,off,w,d1,[],d3,f,_,g,_=>by grind
 |v :: vs,i,off,w,d1,x :: d2,d3,f,h1,g,hone=>by
  have m:w.cell? ⟨b,off+i,none⟩=some x:=by
   simp_all[e0W,O1]
  have h:w.frozen? ⟨b,off+i,none⟩=false:=by simp[World.frozen?,f]
  have j:=n0p (P:=P) (w:=w) (ad:=(⟨b,off,none⟩:Addr).add i) (l0t b off i) (hone v Z') m h;have c:=v05 (w:=w) (off:=off+i) (v:=v) f;have e:(d1++(x :: d2++d3)).set (off+i) v=(d1++[v])++(d2++d3):=by simp_all
  rw[e]at c;obtain⟨w1,n,ho,hs,l⟩:=v0R (P:=P) b t vs (i+1) off (w.setCell ⟨b,off+i,none⟩ v) (d1++[v]) d2 d3 c (by grind) (by simp_all) (fun u hu=>hone u (by grind));have d:=j5.cell w b (off+i) v;refine⟨w1,by simp_all[storeCells],⟨ho.os.trans d.os,ho.tape.trans d.tape,ho.output.trans d.output,le_trans d.size ho.size,fun k hk hn=>(ho.block k (Nat.lt_of_lt_of_le hk d.size) hn).trans (d.block k hk hn)⟩,hs.trans Z',?_⟩
  simp_all
def o0Q {T n b off t:Nat}(g:H5 E T=some n){u:Value}{vs:List Value}(hu:u.cells=vs.toArray)(hl:vs.length=n)(h1:∀v∈vs,v.oneCell'=true){d1 d2 d3:List Value}{w:World}(f:w.heap[b]?=some (.cells (d1++(d2++d3)).toArray t (0,0)))(d:d1.length=off)(c:d2.length=n):
  ∃w1,(Instr.storeAt T (.pointer (some ⟨b,off,none⟩)) u).run E.P w=.ok () w1/\j5 b w w1/\w1.heap[b]?=some (.cells (d1++(vs++d3)).toArray t (0,0)):=by
 obtain⟨w1,h,ho,_,e⟩:=v0R (P:=E.P) b t vs 0 off w d1 d2 d3 f O' O' h1
 simp_all[Instr.storeAt,Instr.sureAddr,storeVar,d0R]
def VS.unit {n:Nat}{H:I0}:VS E ρ n H S (.tup []:V E.D) Go.undef:=VS.of rfl (by exact⟨[],rfl,by rfl⟩)
theorem u0O {id T:Nat}{l:List (V E.D)}(h:h0T s id=some (T,l)):F0 s id=.box T l:=by
 unfold h0T at h
 grind
theorem j0O {id e:Nat}{t:U}{xs:List (Den E.D t)}(h:e0I E s id=some (e,⟨t,xs⟩)):F0 s id=.lst e t xs:=by
 unfold e0I at h
 grind
def Rp.r02 (h:Rp E A s ρ S a as w){id T:Nat}{l l':List (V E.D)}{d:List Value}{b:Nat}{w1:World}(hl:F0 s id=.box T l)(f:ρ id=.pointer (some ⟨b,0,none⟩))(ho:j5 b w w1)(n:w1.heap[b]?=some (.cells d.toArray T (0,0)))
  (m:T0 E ρ s.nid w.heap S l' d) (h1:∀u∈d,u.oneCell'=true):Rp E A (s.at id (.box T l')) ρ S a as w1/\P0 w.heap S w1.heap S:=by
 have c:Q1 (F0 s id)=true:=by rw[hl];rfl
 have g:=h.i7 (id:=id) (by simp_all);obtain⟨i,o,j⟩:=h.ow id c b (by rw[f];rfl);have kp:=ho.L0 i;refine⟨h.turn g c (ho.cx h.cx j) kp (fun _ h=>h) (fun k hk hn=>ho.block k hk (fun e=>hn (by rw[f,e];rfl))) rfl (fun k hk=>(h.ow id c k hk).1) ?_,kp⟩;exact⟨b,d,f,n,m.mono (fun _ _=>rfl) (le_refl _) kp,h1⟩
section
variable {H:I0}
def t0m {f:(t:U)->Den E.D t->Option (Den E.D t)}:∀(ts:List U) (h b:HL E.D ts) (j:Nat) (cs:List Value),a00 ts h j f=some b->(a0S E ts).R H S cs h->
  ∃c1 c2 c3,cs=c1++(c2++c3)/\c1.length=c0g E ts j/\∃t x x',(J0 E t).R H S c2 x/\f t x=some x'/\∀c,(J0 E t).R H S c x'->(a0S E ts).R H S (c1++(c++c3)) b
 |[],_,_,_,_,h=>by simp_all[a00]
 |t :: ts,hh,b,0,cs,h=>by
  intro k;simp only[a00]at h;split at h<;>try cases h
  rename_i y g;obtain⟨c1,c2,rfl,h1,e⟩:=k;exact⟨[],c1,c2,Z',rfl,t,_,_,h1,g,fun c i=>⟨c,c2,Z',i,e⟩⟩
 |t :: ts,hh,b,j+1,cs,h=>by
  intro k;simp only[a00]at h;split at h<;>try cases h
  rename_i d g;obtain⟨c1,c2,rfl,h1,e⟩:=k;obtain⟨d1,d2,d3,rfl,hl,n,x,x',l,m,hk⟩:=t0m ts hh.2 d j c2 g e;refine⟨c1++d1,d2,d3,Z',by rw[length_append,(J0 E t).len h1,hl];rfl,n,x,x',l,m,fun c i=>?_⟩;rw[append_assoc];exact⟨c1,_,rfl,h1,hk c i⟩
theorem s0Y {α:Type}{T:Ty α}{xs:List α}{cs cn:List Value}{q:α}(b:R1 T H S cs xs){i:Nat}(hi:i<xs.length)(c:T.R H S cn q):
  R1 T H S (cs.take (i*T.sz)++(cn++(cs.drop (i*T.sz)).drop T.sz)) (xs.set i q):=by
 have g:cs.length=xs.length*T.sz:=b.1;have f:=T.len c;have hle:i*T.sz+T.sz<=xs.length*T.sz:=by rw[<-succ_mul];exact mul_le_mul_right _ hi
 have h:(cs.take (i*T.sz)).length=i*T.sz:=by grind
 refine⟨?_,fun j v d=>?_⟩
 ·grind
 ·rcases Nat.lt_trichotomy j i with hlt|heq|hgt
  ·rw[List.getElem?_set_ne O']at d;have:=b.2 j v d;have e:j*T.sz+T.sz<=i*T.sz:=by rw[<-succ_mul];exact mul_le_mul_right _ hlt
   grind [List.drop_take]
  ·simp_all
  ·rw[List.getElem?_set_ne O']at d;have:=b.2 j v d;have e:i*T.sz+T.sz<=j*T.sz:=by rw[<-succ_mul];exact mul_le_mul_right _ hgt
   have k:((cs.take (i*T.sz)++(cn++(cs.drop (i*T.sz)).drop T.sz)).drop (j*T.sz))=cs.drop (j*T.sz):=by
    rw[<-append_assoc,List.drop_append,List.drop_of_length_le (by simp_all),nil_append,length_append,h,f,drop_drop,drop_drop]
    grind
   simp_all
theorem k0b (r:T1 E){u:U}{y:Den E.D u}:∀(p:List B6) (t:U) (x x':Den E.D t) (cs:List Value),b07 E u y p t x=some x'->a8 p->(J0 E t).R H S cs x->
  ∃c1 c2 c3,cs=c1++(c2++c3)/\c1.length=D4 p/\c2.length=K2 E u/\∀c,(J0 E u).R H S c y->(J0 E t).R H S (c1++(c++c3)) x'
 |[],t,x,x',cs,h,_=>by
  intro J;obtain⟨e,h⟩:=c0D h;subst e;exact⟨[],cs,[],Z',rfl,(J0 E u).len J,fun c hc=>by simp_all⟩
 |.inl (j,o) :: p,t,x,x',cs,h,hp=>by
  intro J;cases t<;>simp only[b07]at h<;>try cases h
  rename_i i;split at h<;>try cases h
  rename_i ho;rw[beq_eq]at ho;split at h<;>try cases h
  rename_i hh hf;obtain⟨c1,c2,c3,rfl,hl,k,z,z',g,a1,hk⟩:=t0m _ _ _ _ _ hf ((r.st i H S cs x).1 J);obtain⟨d1,d2,d3,rfl,f,d,C⟩:=k0b r p k z z' c2 a1 hp g;refine⟨c1++d1,d2,d3++c3,Z',by rw[length_append,hl,ho,f];rfl,d,fun c hc=>?_⟩;refine(r.st i H S _ _).2 ?_;rw[r.unmk]
  grind
 |.inr (i,z,m) :: p,t,x,x',cs,h,hp=>by
  intro J;cases t<;>simp only[b07]at h<;>try cases h
  rename_i m' k;split at h<;>try cases h
  rename_i g;rw[and_eq_true,beq_eq,beq_eq]at g;obtain⟨g,rfl⟩:=g;split at h<;>try cases h
  rename_i q hq;obtain⟨hi,hp⟩:=hp;obtain⟨hlen,b⟩:=J;have v:(J0 E k).sz=z:=g;have l:=a0r (E:=E) (t:=k) (xs:=x) hi.1 O';have hy:=b.2 i.toNat _ l;obtain⟨d1,d2,d3,hd,f,d,C⟩:=k0b r p k _ q _ hq hp hy;have b2:cs.length=m'*z:=by rw[b.1,hlen,v]
  have n:i.toNat<m':=O'
  have hle:i.toNat*z+z<=m'*z:=by rw[<-succ_mul];exact mul_le_mul_right _ n
  have e1:cs=cs.take (i.toNat*z)++((cs.drop (i.toNat*z)).take z++(cs.drop (i.toNat*z)).drop z):=by grind [take_append_drop]
  refine⟨cs.take (i.toNat*z)++d1,d2,d3++(cs.drop (i.toNat*z)).drop z,?_,?_,d,fun c hc=>?_⟩
  ·grind
  ·rw[length_append,length_take,f,Nat.min_eq_left O'];rfl
  ·have I:=C c hc;have key:=s0Y (T:=J0 E k) (xs:=x) (cs:=cs) (cn:=d1++(c++d3)) (q:=q) b (i:=i.toNat) (by rw[hlen];exact n) I;rw[v]at key;have b1:cs.take (i.toNat*z)++d1++(c++(d3++(cs.drop (i.toNat*z)).drop z))=cs.take (i.toNat*z)++((d1++(c++d3))++(cs.drop (i.toNat*z)).drop z):=Z'
   rw[b1];exact⟨(length_set ..).trans hlen,key⟩
theorem h0J {s1:St E.D}{t:List (Nat×Th E.D)}(h1:s1.th=t++s.th){p:Nat×Th E.D}(hp:p∈t):W6 s s1 p.1=true:=by
 unfold W6;rw[h1,length_append,Nat.add_sub_cancel,List.take_left']
 ·exact any_eq_true.2 ⟨p,hp,Z'⟩
 ·rfl
def i0c {s1:St E.D}(he:Ext s s1){id:Nat}{x:Th E.D}:W6 s (s1.at id x) id=true:=by
 obtain⟨l,hl⟩:=he.th;exact h0J (t:=(id,x) :: l) (p:=(id,x)) (by simp[St.at,hl]) Z'
theorem g0S {s1 s2:St E.D}{q:Nat}(h:W6 s s1 q=true)(he:Ext s s1)(k:Ext s1 s2):W6 s s2 q=true:=by
 obtain⟨t,d⟩:=he.th;obtain⟨c,b⟩:=k.th;unfold W6 at h;obtain⟨p,hp,e⟩:=any_eq_true.1 h
 grind [beq_eq,h0J]
def VC.d0h {n:Nat}{H:I0}{S1:D0}(hs:∀k,S1 k->S k){v:V E.D}{c:List Value}(h:VC E ρ n H S v c):VC E ρ n H S1 v c:=h.mono (fun _ _=>rfl) (le_refl _) (P0.less hs)
def T0.d0h {n:Nat}{H:I0}{S1:D0}(hs:∀k,S1 k->S k){v:List (V E.D)}{c:List Value}(h:T0 E ρ n H S v c):T0 E ρ n H S1 v c:=h.mono (fun _ _=>rfl) (le_refl _) (P0.less hs)
def VS.d0h {n:Nat}{H:I0}{S1:D0}(hs:∀k,S1 k->S k){v:V E.D}{u:Value}(h:VS E ρ n H S v u):VS E ρ n H S1 v u:=h.mono (fun _ _=>rfl) (le_refl _) (P0.less hs)
def n0q (g:T1 E)(h:Rp E A s ρ S a as w){u:U}{v:V E.D}{s1:St E.D}{y:Den E.D u}(b:rdD E s u v=some (s1,y)):
  ∃S1,(∀k,S1 k->S k)/\Rp E A s1 ρ S1 a as w/\Ext s s1/\s1.fr=s.fr/\s1.nid=s.nid/\∀c,VC E ρ s.nid w.heap S v c->(J0 E u).R w.heap S1 c y:=by
 unfold rdD at b;split at b<;>try cases b
 rename_i s2 l;split at b<;>try cases b
 rename_i x j;obtain⟨S1,h1,d,m,i,e⟩:=a0g g _ s [v] s1 l S h;refine⟨S1,h1,d,m,i,e,fun c f=>?_⟩;rw[<-e]at f;exact g0J g d.th j (f.d0h h1)
def y0R {n:Nat}{u:U}(h:Nat.beq (K2 E u) n=true):K2 E u=n:=by simp_all
theorem s0L {u:U}{v:V E.D}{s1:St E.D}{y:Den E.D u}(b:rdD E s u v=some (s1,y)){id:Nat}(ho:Q1 (F0 s1 id)=true):Q1 (F0 s id)=true:=by
 grind [rdD,b0g]
theorem y0r {l r:List (V E.D)}{t:U}{x:Den E.D t}(h:k0I E l=some (⟨t,x⟩,r)):l=.d t x :: r:=by
 unfold k0I at h
 grind
theorem K5.of {s1:St E.D}{v:V E.D}{u:Value}{w1:World}{S1 b:D0}(hs:∀k,S1 k->S k)(d:Rp E A s1 ρ b a as w1)(c:VS E ρ s1.nid w1.heap b v u)(hk:P0 w.heap S1 w1.heap b)(he:Ext s s1)(e:s1.fr=s.fr)(hm:∀k,k<w.heap.size->(∀q,q<s.nid->Q1 (F0 s q)=true->W6 s s1 q=true->¬Bk (ρ q) k)->w1.heap[k]?=w.heap[k]?):K5 E A s ρ S a as w s1 v u w1:=
 ⟨⟨ρ,b,d,c,(P0.less hs).trans hk⟩,he,e,hm⟩
theorem w0w {e sz b o m cap N off n T:Nat}{cs d1 d2 d3 c:List Value}{w:World}{u:Value}(z:0<m)(d:Row w.heap e sz (.slice (some ⟨b,o,none⟩) m cap) N cs)(a1:cs=d1++(d2++d3))(k:d1.length=off)(q:d2.length=n)
  (p:H5 E T=some n) (f:u.cells=c.toArray) (hlen:c.length=n) (j:∀v∈c,v.oneCell'=true):
  ∃w1,(Instr.storeAt T (.pointer (some ⟨b,o+off,none⟩)) u).run E.P w=.ok () w1/\j5 b w w1/\Row w1.heap e sz (.slice (some ⟨b,o,none⟩) m cap) N (d1++(c++d3)):=by
 obtain⟨I,d⟩:=d;rcases d with⟨_,_,h⟩|⟨g,cap',cur,h,hp0,hg,hnc,hmx,hcz,htk⟩
 ·simp_all
 ·simp at h;obtain⟨⟨y,J⟩,U,C⟩:=h;subst y;subst J;subst U;subst C;have x:cur.toList=cs++cur.toList.drop (m*sz):=by grind [take_append_drop]
  have i:w.heap[b]?=some (.cells (d1++(d2++(d3++cur.toList.drop (m*sz)))).toArray e (0,0)):=by
   rw[hg];have R:cur.toList=d1++(d2++(d3++cur.toList.drop (m*sz))):=by
    grind
   rw[<-R]
  obtain⟨w1,t,ho,r⟩:=o0Q p f hlen j i k q;have l:(d1++(c++d3)).length=m*sz:=by grind
  refine⟨w1,by grind,ho,l,.inr ⟨b,cap,_,rfl,hp0,r,hnc,hmx,?_,?_⟩⟩
  ·grind
  grind
theorem E5.store (hE:T1 E){e b o m cap n T:Nat}{d u:U}{xs:List (Den E.D d)}{q:List B6}{y:Den E.D u}{x:Den E.D d}{c:List Value}{w:World}{uv:Value}{i:Int}(z:E5 E w.heap S e d xs (.slice (some ⟨b,o,none⟩) m cap))(h0:0<=i)(hm:i<m)
  (r:b07 E u y q d (E6 E d xs i)=some x) (J:a8 q) (hy:(J0 E u).R w.heap S c y) (c0:K2 E u=n) (C:H5 E T=some n) (g:uv.cells=c.toArray) (hlen:c.length=n) (l:∀v∈c,v.oneCell'=true) (hS:S b):
  ∃w1,(Instr.storeAt T (.pointer (some ⟨b,o+i.toNat*K2 E d+D4 q,none⟩)) uv).run E.P w=.ok () w1/\j5 b w w1/\P0 w.heap S w1.heap S/\E5 E w1.heap S e d (xs.set i.toNat x) (.slice (some ⟨b,o,none⟩) m cap):=by
 obtain⟨cs,f,h⟩:=z;obtain⟨rfl,_,_⟩:=Row.cell f O';have hi:i.toNat<xs.length:=O'
 have k:=a0r (E:=E) (t:=d) (xs:=xs) h0 hm;obtain⟨e1,e2,e3,b5,hle,b3,p⟩:=k0b hE q d _ x _ r J (h.2 _ _ k);have I:=f.1;have b4:i.toNat*(J0 E d).sz+(J0 E d).sz<=xs.length*(J0 E d).sz:=by rw[<-succ_mul];exact mul_le_mul_right _ hi
 have b1:cs=(cs.take (i.toNat*(J0 E d).sz)++e1)++(e2++(e3++(cs.drop (i.toNat*(J0 E d).sz)).drop (J0 E d).sz)):=by
  grind [take_append_drop]
 have z:(cs.take (i.toNat*(J0 E d).sz)).length=i.toNat*(J0 E d).sz:=by rw[length_take,I];omega
 obtain⟨w1,b2,ho,a1⟩:=w0w (off:=i.toNat*K2 E d+D4 q) O' f b1 (by rw[length_append,z,hle];rfl) O' C g hlen l;have kp:=ho.L0 hS;have j:=s0Y (i:=i.toNat) (h.L0 kp) hi ((J0 E d).L0 kp (p c hy));refine⟨w1,by grind,ho,kp,_,?_,j⟩
 grind
theorem w0j:∀{ts:List U} {h c:HL E.D ts} {j:Nat} {f:(t:U)->Den E.D t->Option (Den E.D t)},a00 ts h j f=some c->∃t y y',I5 ts h j=some ⟨t,y⟩/\f t y=some y'/\I5 ts c j=some ⟨t,y'⟩/\∀b,b≠j->I5 ts c b=I5 ts h b
 |[],_,_,_,_,hs=>by grind [a00]
 |t :: ts,hh,c,0,f,hs=>by
  simp only[a00]at hs;split at hs<;>try cases hs
  rename_i y d;refine⟨t,hh.1,y,rfl,d,rfl,fun b i=>?_⟩;cases b with
  |zero=>omega
  |succ b=>rfl
 |t :: ts,hh,c,j+1,f,hs=>by
  simp only[a00]at hs;split at hs<;>try cases hs
  rename_i n d;obtain⟨k,y,y',m,g,l,e⟩:=w0j d;refine⟨k,y,y',m,g,l,fun b i=>?_⟩;cases b with
  |zero=>rfl
  |succ b=>exact e b O'
def q0a (j:T1 E){t:U}{x x':Den E.D t}{f:Nat}{g:(u:U)->List (Den E.D u)->Option (List (Den E.D u))}(h:setRow E t x f g=some x'):
  ∃u ys c,V2 E t x f=some ⟨u,ys⟩/\g u ys=some c/\V2 E t x' f=some ⟨u,c⟩/\∀b,b≠f->V2 E t x' b=V2 E t x b:=by
 cases t with
 |list u=>
  have h:o0b g u x f=some x':=h;unfold o0b at h;split at h<;>try cases h
  refine⟨u,x,x',rfl,h,rfl,fun b e=>?_⟩;cases b with
  |zero=>omega
  |succ b=>rfl
 |st k=>
  have h:n0K E k (a00 (E.fs k) (E.un k x) f (r07 g))=some x':=h;unfold n0K at h;split at h<;>try cases h
  rename_i i hs;obtain⟨m,y,y',o,d,n,l⟩:=w0j hs;cases m with
  |list u=>
   exact⟨u,y,y',(show c0N (I5 (E.fs k) (E.un k x) f)=_ by rw[o];rfl),d,(show c0N (I5 (E.fs k) (E.un k (E.mkS k i)) f)=_ by rw[j.unmk,n];rfl),fun b e=>(show c0N (I5 (E.fs k) (E.un k (E.mkS k i)) b)=c0N (I5 (E.fs k) (E.un k x) b) by rw[j.unmk,l b e])⟩
  |_=>exact absurd (show none=some y' from d) Z'
 |_=>exact absurd (show none=some x' from h) Z'
theorem w0H {F:List Nat}{i f c b:Nat}(e:f<F.length)(d:b<F.length)(h:rowAt F i f=rowAt F c b):i=c/\f=b:=by
 unfold rowAt at h
 grind [Nat.mul_comm,Nat.mul_add_div,Nat.div_eq_of_lt]
theorem r0L {D:Nat->Type}{q r f:Nat}{i:Int}:∀{l:List (Nat×Th D)},(r,Th.rof q i f)∈l->r∈X9 q l
 |[],h=>by cases h
 |(r',x) :: l,h=>by
  rcases mem_cons.1 h with h|h
  ·cases h;simp[X9]
  ·have b:=r0L h;cases x with
   |rof q' i' f'=>
    grind [X9]
   |_=>exact b
theorem v0v {α:Type}:∀{l:List (Nat×α)} {k:Nat} {v:α},F4 l k=some v->(k,v)∈l
 |[],k,v,h=>by grind [F4]
 |(j,x) :: l,k,v,h=>by
  rw[a0X]at h;split at h
  ·simp_all
  ·exact List.mem_cons_of_mem _ (v0v h)
theorem j0H {D:Nat->Type}{s:St D}{r q f:Nat}{i:Int}(h:F0 s r=.rof q i f):r∈X9 q s.th:=by
 grind [F0,r0L,v0v]
theorem d0K {D:Nat->Type}:∀(l:List Nat) (s:St D) (j:Nat),F0 (Z0 s l) j=if j∈l then .gone else F0 s j
 |[],s,j=>by simp[Z0]
 |i :: l,s,j=>by
  have b:=d0K l (s.at i .gone) j;rw[show Z0 s (i :: l)=Z0 (s.at i .gone) l from rfl,b]
  grind [F0,St.at,a0X]
theorem a0q {D:Nat->Type}:∀(l:List Nat) (s:St D),(Z0 s l).nid=s.nid/\(Z0 s l).fr=s.fr/\(Z0 s l).n=s.n/\(Z0 s l).stk=s.stk/\∃t,(Z0 s l).th=t++s.th
 |[],s=>⟨rfl,rfl,rfl,rfl,[],rfl⟩
 |i :: l,s=>by
  obtain⟨h1,c,d,b,t,e⟩:=a0q l (s.at i .gone);exact⟨h1,c,d,b,t++[(i,.gone)],by simp_all[Z0,St.at]⟩
def Ext.Z0 {D:Nat->Type}(s:St D)(l:List Nat):Ext s (Z0 s l):=by
 obtain⟨h1,e,c,b,t,d⟩:=a0q l s;exact⟨c,⟨[],by simp_all⟩,⟨t,d⟩,b,O'⟩
theorem Rp.r01 (h:Rp E A s ρ S a as w){id:Nat}{x:Th E.D}{v:Value}{G:List Nat}{S1:D0}{w1:World}(c:Q1 (F0 s id)=true)(U:hd v=hd (ρ id))(cx:Cx A.w0 A.W0 A.S0 w1 S1)(kp:P0 w.heap S w1.heap S1)(hs:∀k,S k->S1 k)
  (hb:∀k,k<w.heap.size->¬Bk (ρ id) k->w1.heap[k]?=w.heap[k]?) (hB:∀k,Bk v k->Bk (ρ id) k\/∃r∈G,Q1 (F0 s r)=true/\Bk (ρ r) k)
  (R:K3 E (C6 ρ id v) s.nid w1.heap S1 x v) (b2:∀r i f,F0 s r=.rof id i f->r∈G) (b1:∀q i f,x≠.rof q i f):Rp E A ((Z0 s G).at id x) (C6 ρ id v) S1 a as w1:=by
 obtain⟨g1,g2,g3,g4,t,g5⟩:=a0q G s;have a1:=h.i7 (id:=id) (by rintro e;rw[e]at c;cases c);have e0:(Z0 s G).at id x={ s with th:=(id,x) :: (t++s.th),nid:=s.nid }:=by
  simp_all[St.at]
 have hl:∀j,F0 ((Z0 s G).at id x) j=if id=j then x else if j∈G then .gone else F0 s j:=fun j=>by rw[T8,d0K]
 rw[e0]at hl ⊢;have d:∀j,j≠id->j∉G->j<s.nid->b0V s { s with th:=(id,x) :: (t++s.th),nid:=s.nid } ρ (C6 ρ id v) S1 w w1 j:=fun j g hg l=>
  ⟨by grind,l,n5 g,fun b k hk=>⟨hb k ((h.th j).live b k hk) (fun e2=>h.dj id j (Ne.symm g) c b k e2 hk),hs k (h.ow j b k hk).1⟩⟩
 refine h.step (nid1:=s.nid) ⟨cx,kp,fun i _=>?_,le_refl _⟩ (fun j=>?_) fun r q i f n e F t xs u=>?_
 ·grind [W4,n5]
 ·by_cases e:id=j
  ·subst e;refine .inr ⟨by rw[hl,if_pos rfl,W4];exact R,fun _ k hk=>?_,fun hle=>O'⟩;rw[W4]at hk;have key:∃p,Q1 (F0 s p)=true/\Bk (ρ p) k/\(p=id\/p∈G):=by
    grind
   obtain⟨p,h1,J,h3⟩:=key;have I:=h.ow p h1 k J;refine⟨⟨hs k I.1,I.2⟩,fun j g b m=>?_⟩;rw[hl,if_neg (fun e=>g e.symm)]at b;split at b
   ·cases b
   ·rw[n5 g]at m;refine h.dj p j ?_ h1 b k J m
    grind
  ·by_cases l:j<s.nid
   ·by_cases hg:j∈G
    ·rw[hl,if_neg e,if_pos hg];exact .inr ⟨trivial,(fun ho=>by cases ho),fun _=>rfl⟩
    grind
   ·rw[hl,if_neg e];have:(if j∈G then Th.gone else F0 s j)=.gone:=by
     split
     ·rfl
     ·exact h.lt j O'
    rw[this];exact .inr ⟨trivial,(fun ho=>by cases ho),fun _=>rfl⟩
 ·rw[hl]at n;split at n
  ·simp_all
  ·rename_i C;split at n
   ·cases n
   ·rename_i hg;have z:=h.c0a n;rw[hl]at u;split at u
    ·grind
    ·rename_i o;split at u
     ·cases u
     ·rename_i y;exact .inl ⟨d r (Ne.symm C) hg (h.i7 (by simp_all)),d q (Ne.symm o) y z⟩
theorem Rp.take (h:Rp E A s ρ S a as w){x:Th E.D}{v:Value}{G:List Nat}{S1:D0}{w1:World}(cx:Cx A.w0 A.W0 A.S0 w1 S1)(kp:P0 w.heap S w1.heap S1)(hs:∀k,S k->S1 k)
  (hb:∀k,k<w.heap.size->(∀j∈G,Q1 (F0 s j)=true->¬Bk (ρ j) k)->w1.heap[k]?=w.heap[k]?) (hB:∀k,Bk v k->Q1 x=true->S1 k/\((∃j∈G,Q1 (F0 s j)=true/\Bk (ρ j) k)\/w.heap.size<=k))
  (U:K3 E (C6 ρ s.nid v) (s.nid+1) w1.heap S1 x v) (a1:∀q i f,x≠.rof q i f):Rp E A ((Z0 s G).new x) (C6 ρ s.nid v) S1 a as w1:=by
 obtain⟨g1,g2,g3,g4,t,g5⟩:=a0q G s;have e0:(Z0 s G).new x={ s with th:=(s.nid,x) :: (t++s.th),nid:=s.nid+1 }:=by
  simp_all[St.new]
 have hl:∀j,F0 ((Z0 s G).new x) j=if s.nid=j then x else if j∈G then .gone else F0 s j:=fun j=>by rw[l0N,d0K,g1]
 rw[e0]at hl ⊢;have c:∀j,j∉G->j<s.nid->b0V s { s with th:=(s.nid,x) :: (t++s.th),nid:=s.nid+1 } ρ (C6 ρ s.nid v) S1 w w1 j:=fun j hg g=>
  ⟨by grind,g,n5 O',fun b k hk=>⟨hb k ((h.th j).live b k hk) (fun z y C J=>h.dj z j (fun e=>hg (e▸y)) C b k J hk),hs k (h.ow j b k hk).1⟩⟩
 refine h.step (nid1:=s.nid+1) ⟨cx,kp,fun i hi=>by grind [n5],le_succ _⟩ (fun j=>?_) fun r q i f l e F t xs u=>?_
 ·by_cases e:s.nid=j
  ·subst e;refine .inr ⟨by rw[hl,if_pos rfl,W4];exact U,fun ho k hk=>?_,fun hle=>O'⟩;rw[hl,if_pos rfl]at ho;rw[W4]at hk;obtain⟨k1,m⟩:=hB k hk ho;refine⟨⟨k1,?_⟩,fun j R b d=>?_⟩
   ·rcases m with⟨j,_,I,o⟩|m
    ·exact(h.ow j I k o).2
    ·exact⟨fun h0=>by have:=h.cx.lt0 k h0;have:=h.cx.size;omega,.inr (by have:=h.cx.size;omega)⟩
   ·rw[hl,if_neg (fun e=>R e.symm)]at b;split at b
    ·cases b
    ·rename_i hg;rw[n5 R]at d;rcases m with⟨z,I,o,k5⟩|m
     ·exact h.dj z j (fun e=>hg (e▸I)) o b k k5 d
     ·have:=(h.th j).live b k d;omega
  ·by_cases g:j<s.nid
   ·by_cases hg:j∈G
    ·rw[hl,if_neg e,if_pos hg];exact .inr ⟨trivial,(fun ho=>by cases ho),fun _=>rfl⟩
    simp_all
   ·rw[hl,if_neg e];have:(if j∈G then Th.gone else F0 s j)=.gone:=by
     split
     ·rfl
     ·exact h.lt j O'
    rw[this];exact .inr ⟨trivial,(fun ho=>by cases ho),fun _=>rfl⟩
 ·rw[hl]at l;split at l
  ·simp_all
  ·split at l
   ·cases l
   ·rename_i hg;have p:=h.c0a l;rw[hl,if_neg O']at u;split at u
    ·cases u
    ·rename_i n;exact .inl ⟨c r hg (h.i7 (by simp_all)),c q n p⟩
theorem G03 {s1 s2:St E.D}{q:Nat}(h:W6 s1 s2 q=true)(he:Ext s s1)(k:Ext s1 s2):W6 s s2 q=true:=by
 obtain⟨t,d⟩:=he.th;obtain⟨c,b⟩:=k.th;unfold W6 at h;obtain⟨p,hp,e⟩:=any_eq_true.1 h
 grind [beq_eq,h0J]
def B05 {G:List Nat}{j:Nat}(c:j∈G):∀s:St E.D,W6 s (Z0 s G) j=true:=by
 induction G with
 |nil=>cases c
 |cons i r ih=>
  intro s;rcases mem_cons.1 c with rfl|h
  ·exact g0S (s1:=s.at j .gone) (f0g s) (Ext.at s j _) (Ext.Z0 _ r)
  ·obtain⟨t,e⟩:=(Ext.Z0 (s.at i .gone) r).th;have b:=ih h (s.at i .gone);unfold W6 at b;rw[e,length_append,Nat.add_sub_cancel,List.take_left' rfl]at b;obtain⟨p,hp,d⟩:=any_eq_true.1 b;rw[beq_eq]at d;subst d;exact h0J (t:=t++[(i,.gone)]) (by simp_all[Z0,St.at]) (List.mem_append_left _ hp)
theorem F0V {G:List Nat}{j:Nat}{x:Th E.D}(b:j∈G):W6 s ((Z0 s G).new x) j=true:=g0S (B05 b s) (Ext.Z0 s G) (Ext.new _ _)
theorem Rp.t03 (h:Rp E A s ρ S a as w){x:Th E.D}{v:Value}(u:∀k,Bk v k->Q1 x=true->(S k/\¬A.S0 k/\Wr A.W0 A.w0 k)/\∀j,Q1 (F0 s j)=true->¬Bk (ρ j) k)
  (n:K3 E (C6 ρ s.nid v) (s.nid+1) w.heap S x v) (m:∀q i f,x=.rof q i f->q<s.nid/\∀e F t xs,F0 s q=.X0 e F t xs none->b06 w.heap (hd (ρ q)) F.length i f v):Rp E A (s.new x) (C6 ρ s.nid v) S a as w:=by
 have hl:∀j,F0 { s with th:=(s.nid,x) :: s.th,nid:=s.nid+1 } j=if s.nid=j then x else F0 s j:=fun j=>l0N s j x;have b:∀j,j<s.nid->b0V s { s with th:=(s.nid,x) :: s.th,nid:=s.nid+1 } ρ (C6 ρ s.nid v) S w w j:=fun j d=>
  ⟨by grind,d,n5 O',fun c k hk=>⟨rfl,(h.ow j c k hk).1⟩⟩
 refine h.step (nid1:=s.nid+1) ⟨h.cx,P0.refl _ _,fun i hi=>by grind [n5],le_succ _⟩ (fun j=>?_) fun r q i f g e F t xs I=>?_
 ·by_cases e:s.nid=j
  ·subst e;refine .inr ⟨by rw[hl,if_pos rfl,W4];exact n,fun ho k hk=>?_,fun hle=>O'⟩;rw[hl,if_pos rfl]at ho;rw[W4]at hk;obtain⟨p,C⟩:=u k hk ho;refine⟨p,fun j o c y=>?_⟩;rw[hl,if_neg (fun e=>o e.symm)]at c
   simp_all[n5]
  ·by_cases d:j<s.nid
   ·simp_all
   ·rw[hl,if_neg e,h.lt j O'];exact .inr ⟨trivial,(fun ho=>by cases ho),fun _=>rfl⟩
 ·rw[hl]at g;split at g
  ·rename_i z;obtain⟨h1,J⟩:=m q i f g
   grind [n5,W4]
  ·have l:=h.c0a g;exact .inl ⟨b r (h.i7 (by simp_all)),b q l⟩
theorem e0u {id e:Nat}{F:List Nat}{o:Option (Int×Nat)}{t:U}{xs:List (Den E.D t)}(h:c0X E s id=some (e,F,o,⟨t,xs⟩)):F0 s id=.X0 e F t xs o:=by
 unfold c0X at h
 grind
theorem t0Z:∀{l:List U} {f:Nat},b0B l=true->f<l.length->c0g E l f=f
 |[],f,_,d=>by grind
 |t :: l,0,_,_=>rfl
 |t :: l,f+1,hb,d=>by
  simp only[b0B,and_eq_true]at hb;obtain⟨b,c⟩:=hb;cases t<;>simp only[i0f,Bool.false_eq_true]at b
  simp only[c0g];rw[t0Z c (by simp_all)];exact Nat.add_comm 1 f
theorem r0f {D:Nat->Type}:∀{l:List U} {h:HL D l} {f:Nat} {t:U} {y:Den D t},I5 l h f=some ⟨t,y⟩->j0F l f=some t/\f<l.length
 |[],_,f,_,_,h=>by grind [I5]
 |t :: l,h,0,_,_,hg=>by
  obtain⟨rfl,_⟩:=hg;exact⟨rfl,Z'⟩
 |t :: l,h,f+1,_,_,hg=>by
  obtain⟨h1,b⟩:=r0f (l:=l) hg;exact⟨h1,by simp_all⟩
def w01 {t u w':U}{x:Den E.D t}{f:Nat}{ys:List (Den E.D w')}(h:q0H E t f=some u)(b:V2 E t x f=some ⟨w',ys⟩):w'=u:=by
 cases t<;>simp only[q0H]at h<;>try cases h
 ·cases f<;>simp only at h<;>try cases h
  exact(congrArg Sigma.fst (Option.some.inj (show some _=some _ from b))).symm
 ·rename_i k;split at h<;>try cases h
  rename_i c;have b:c0N (I5 (E.fs k) (E.un k x) f)=some ⟨w',ys⟩:=b;cases hg:I5 (E.fs k) (E.un k x) f with
  |none=>rw[hg]at b;cases b
  |some p=>
   obtain⟨d,y⟩:=p;rw[hg]at b;have:=(r0f hg).1;rw[c]at this;cases this;exact(congrArg Sigma.fst (Option.some.inj b)).symm
def u0C {t:U}{F:List Nat}{q:List B6}{f:Nat}(ho:C9 E t F=true)(h:i02 E t q=some f)(b:f<F.length):D4 q=f:=by
 simp only[C9,and_eq_true,beq_eq]at ho;unfold i02 at h;split at h<;>try cases h
 ·rfl
 ·split at h<;>try cases h
  simp_all[n05,t0Z,D4]
theorem r0D (h:Rp E A s ρ S a as w){e:Nat}{u:U}{v:V E.D}{d:Value}(n:VS E ρ s.nid w.heap S v d){g:Option Nat}{ys:List (Den E.D u)}(c:g0u E s e u v=some (g,ys)):
  E5 E w.heap S e u ys d/\d.oneCell'=true/\(match g with|none=>d=z7|some j=>ρ j=d/\∃l b,F0 s j=.lst e l b):=by
 cases v with
 |nil=>
  obtain⟨rfl,rfl⟩:=c;obtain rfl:=n.b0q;exact⟨⟨[],⟨Z',.inl ⟨rfl,none,rfl⟩⟩,R1.nil⟩,rfl,rfl⟩
 |sl j=>
  simp only[g0u]at c;split at c<;>try cases c
  rename_i e' l b hl;split at c<;>try cases c
  rename_i k m;rw[beq_eq]at k;subst k;obtain⟨o,m⟩:=a0u m;subst o;subst m;have hl:=j0O hl;have f:=h.th j;rw[hl]at f;obtain⟨_,rfl⟩:=n.a0m;have f:E5 E w.heap S e l b (ρ j):=f;obtain⟨A',c',i⟩:=f.form;have p:hd (ρ j)=ρ j:=by rw[i];rfl
  rw[p];exact⟨f,by rw[i];rfl,rfl,l,b,hl⟩
 |_=>grind [g0u]
theorem Rp.m0m (h:Rp E A s ρ S a as w){r0 e f:Nat}{j:Int}{F:List Nat}{t0:U}{xs:List (Den E.D t0)}{g:Value}(p:F0 s r0=.X0 e F t0 xs none)(k:b06 w.heap (hd (ρ r0)) F.length j f g):
  ∃cs,v7 E w.heap S e F t0 xs none (ρ r0) cs/\(0<=j/\j<xs.length)/\f<F.length/\cs[rowAt F j.toNat f]?=some g/\(Go.X.tl (ρ r0))[rowAt F j.toNat f]?=some g:=by
 obtain⟨v,t,m2,c2,u,x,r,i⟩:=k;have c:=h.th r0;rw[p]at c;obtain⟨cs,c⟩:=c;have d:=c.row;rw[u]at d;obtain⟨rfl,_,_,b⟩:=Row.cell d O';have l:j.toNat<xs.length:=O'
 have m:rowAt F j.toNat f<xs.length*(J0 E t0).sz:=by
  rw[(d0C c.ok).1];unfold rowAt;have:j.toNat*F.length+F.length<=xs.length*F.length:=by rw[<-succ_mul];exact mul_le_mul_right _ l
  omega
 have n:=b w.heap rfl _ m;have i:O1 w.heap v (t+rowAt F j.toNat f)=some g:=i;rw[i]at n;have q:=e0P (o:=none) r Z' n.symm Z';rw[<-c.tl]at q
 grind
theorem Rp.w0u (h:Rp E A s ρ S a as w){w1:World}{r0 e f e':Nat}{j:Int}{F:List Nat}{t0 u:U}{xs:List (Den E.D t0)}{x:Den E.D t0}{r:List (Den E.D u)}{n:Value}(C:F0 s r0=.X0 e F t0 xs none)(b4:b06 w.heap (hd (ρ r0)) F.length j f n)
  (R:V2 E t0 x f=some ⟨u,r⟩) (c3:∀d,d≠f->V2 E t0 x d=V2 E t0 (E6 E t0 xs j) d) (c6:F[f]?=some e') (hb:∀k,k<w.heap.size->B1 n≠some k->w1.heap[k]?=w.heap[k]?) (cx:Cx A.w0 A.W0 A.S0 w1 S) (kp:P0 w.heap S w1.heap S) (hL:E5 E w1.heap S e' u r n):
  Rp E A (s.at r0 (.X0 e F t0 (xs.set j.toNat x) none)) ρ S a as w1:=by
 obtain⟨cs,c,k2,k3,h5,h8⟩:=h.m0m C b4;have i:Q1 (F0 s r0)=true:=by rw[C];rfl
 have c0:=a0r (E:=E) (t:=t0) (xs:=xs) k2.1 k2.2;have b1:∀(p:Nat) (r':Value),(Go.X.tl (ρ r0))[p]?=some r'->p≠rowAt F j.toNat f->∀b,B1 r'=some b->B1 n≠some b:=fun p r' hp c5 b a1 b3=>
  c.ap (p+1) (rowAt F j.toNat f+1) r' n O' (by simp_all) (by simp_all) b a1 b3
 have l:∀b',B1 (hd (ρ r0))=some b'->w1.heap[b']?=w.heap[b']?:=fun b' g=>hb b' (Row.live c.row b' g) (fun hk=>c.ap 0 (rowAt F j.toNat f+1) (hd (ρ r0)) n O' rfl (by simp_all) b' g hk);refine h.turn (w1:=w1) (S1:=S) (id:=r0) (v:=ρ r0) (x:=.X0 e F t0 (xs.set j.toNat x) none) (h.i7 (by simp_all)) i cx kp (fun _ h=>h) (fun k' J hn=>hb k' J (fun e=>hn (Bk.tl (mem_of_getElem? h8) e))) rfl (fun k hk=>(h.ow r0 i k hk).1) ?_ Z' ?_
 ·refine⟨cs,by rw[length_set];exact Row.mono l c.row,c.tl,c.ok,c.bd,fun q x' d u' m z g1 g2 g3 g4=>?_,c.one,c.ap⟩;have b2:d<F.length:=(List.getElem?_eq_some_iff.1 g3).1;have old:∀x0,xs[q]?=some x0->V2 E t0 x0 d=some ⟨u',m⟩->(q≠j.toNat\/d≠f)->∃r',cs[rowAt F q d]?=some r'/\E5 E w1.heap S z u' m r':=by
   intro x0 q1 q2 q3;obtain⟨r',p1,y⟩:=c.rows q _ d u' m z q1 q2 g3 Z';have p8:=e0P (o:=none) b2 Z' p1 Z';rw[<-c.tl]at p8;refine⟨r',p1,y.mono kp fun b' g=>hb b' (by obtain⟨_,b5,_⟩:=y;grind [Row.live]) (b1 _ r' p8 (fun e=>?_) b' g)⟩
   grind [w0H]
  grind
 ·intro e' F' t' c4 z r' q d I;obtain⟨_,rfl,_,_,_⟩:=z;obtain⟨b',o',m',c',p1,y,p3,p4⟩:=h.rf r' r0 q d I e F t0 xs C;refine⟨b',o',m',c',p1,y,p3,?_⟩;rw[<-p4];unfold O1;rw[l b' (by have:=c.row;rw[p1]at this ⊢;exact this.i0n O')]
theorem z0A (I:T1 E)(h:Rp E A s ρ S a as w){R:Type}{k:K E R}{r:R}{T n id r0 f z:Nat}{j i:Int}{q:List B6}{v:V E.D}{up uv:Value}(c5:F0 s id=.rof r0 j f)(hp:VS E ρ s.nid w.heap S (.pe id i z q) up)(hv:VS E ρ s.nid w.heap S v uv)(h3:H5 E T=some n)(hn:vsz E v=n)(a1:c0O v=true)(hk:l03 E s n r0 j f i z q v k=some r):
  ∃s1 v w1,k s1 v=some r/\K5 E A s ρ S a as w s1 v Go.undef w1/\(Instr.storeAt T up uv).run E.P w=.ok () w1:=by
 obtain⟨c,hc,g,b5,c0⟩:=hv.cells I a1;have hlen:c.length=n:=(i01 I c0 a1).trans hn;obtain⟨j3,e4,b,o,m,j0,hr,⟨h0,hm⟩,hu⟩:=hp.d0e;unfold l03 at hk;split at hk<;>try cases hk
 split at hk<;>try cases hk
 split at hk<;>try cases hk
 rename_i s1 y e3;split at hk<;>try cases hk
 rename_i e F t0 xs b3;split at hk<;>try cases hk
 rename_i x U;obtain⟨S1,e7,J,he,hf,c6,e9⟩:=n0q I h e3;have hq:=e0u b3;have h9:∀d,Q1 (F0 s1 d)=true->F0 s d=F0 s1 d:=fun d ho=>by
  grind [rdD,b0g]
 have h7:F0 s r0=.X0 e F t0 xs none:=by rw[h9 r0 (by rw[hq];rfl),hq]
 obtain⟨u,ys,k0,b4,hg,p,c3⟩:=q0a I U;split at hg<;>try cases hg
 rename_i x2 b2 l;rw[and_eq_true,beq_eq,beq_eq]at b2;obtain⟨rfl,e5⟩:=b2;have c8:b0A E s r0 j f=some ⟨u,ys⟩:=by simp_all[b0A]
 obtain⟨_,e1,_,_⟩:=h.i0w c5 c8;have c4:=h.rf id r0 j f c5 e F t0 xs h7;obtain⟨cs,ht,k2,k3,h5,h8⟩:=J.m0m hq c4;rw[e1]at hr;obtain⟨e',e2⟩:∃e',F[f]?=some e':=⟨_,List.getElem?_eq_getElem k3⟩
 obtain⟨j2,h6,hL⟩:=ht.rows j.toNat _ f u ys e' (a0r k2.1 k2.2) b4 e2 Z';rw[h5]at h6;obtain rfl:=Option.some.inj h6;have e6:B1 (ρ id)=some b:=by obtain⟨_,C,_⟩:=hL;rw[hr]at C ⊢;exact C.i0n O'
 have t:Q1 (F0 s1 r0)=true:=by simp_all
 obtain⟨hS,j1,hW⟩:=J.ow r0 t b (Bk.tl (mem_of_getElem? h8) e6);rw[hr]at hL;obtain⟨w1,i1,ho,kp,b1⟩:=hL.store I h0 hm l e4 (e9 c c0) e5 h3 g hlen b5 hS;rw[<-hr]at b1;exact⟨_,_,w1,hk,K5.of e7 (J.w0u hq c4 p c3 e2 (fun k hk hn=>ho.block k hk (fun e=>hn (by grind))) (ho.cx J.cx hW) kp b1) VS.unit kp (he.trans (Ext.at s1 r0 _)) hf (fun k hk h4=>ho.block k hk (fun e=>h4 r0 (by rw[<-c6];exact J.i7 (by simp_all)) O' (i0c he) (Bk.tl (mem_of_getElem? h8) (by grind)))),by simp_all⟩
theorem H0t (hE:T1 E)(h:Rp E A s ρ S a as w){R:Type}{k:K E R}{r:R}{T id z:Nat}{i:Int}{q:List B6}{v:V E.D}{up n:Value}(hp:VS E ρ s.nid w.heap S (.pe id i z q) up)(hv:VS E ρ s.nid w.heap S v n)(p8:H5 E T=some 1)(hk:m05 E s id i z q v k=some r):
  ∃s1 v w1,k s1 v=some r/\K5 E A s ρ S a as w s1 v Go.undef w1/\(Instr.storeAt T up n).run E.P w=.ok () w1:=by
 obtain⟨n2,r1,b,o0,m,q5,hr,⟨h0,hm⟩,hu⟩:=hp.d0e;unfold m05 at hk;split at hk<;>try cases hk
 rename_i e F o t xs j2;split at hk<;>try cases hk
 rename_i f hz n3;split at hk<;>try cases hk
 rename_i u e' n0 k2;split at hk<;>try cases hk
 rename_i g ys p5;split at hk<;>try cases hk
 rename_i x j1;rw[beq_eq]at hz;subst hz;have hl:=e0u j2;have ht:=h.th id;rw[hl]at ht;obtain⟨cs,ht⟩:=ht;have hf:f<F.length:=(List.getElem?_eq_some_iff.1 k2).1;have k0:K2 E t=F.length:=(d0C ht.ok).1;have l4:=u0C ht.ok n3 hf;obtain⟨l0,b1,hg⟩:=r0D h hv p5;obtain⟨u',q8,p4,j3,J,h5,l2⟩:=q0a hE j1;obtain rfl:=w01 n0 j3;obtain⟨ec,J⟩:=a0u J;obtain rfl:p4=ys:=J.symm;have j0:=ht.row;rw[hr]at j0;obtain⟨rfl,r2,C,_⟩:=Row.cell j0 O';have k6:i.toNat<xs.length:=O'
 have c6:∀j g',o=some (j,g')->j=i/\g'=f:=by
  intro j g' ho;subst ho;unfold t0K at hk;simp only at hk;split at hk<;>rename_i a1
  ·split at a1<;>cases a1
  ·split at hk<;>rename_i k3
   ·split at a1
    ·rename_i k4;rw[beq_eq]at k4;simp only[Option.some.injEq]at a1;subst a1;exact⟨of_decide_eq_true k3,k4.symm⟩
    ·simp only[Option.some.injEq]at a1;subst a1;cases k3
   ·cases hk
 have b2:k ((H7 (d0c s g) id).at id (.X0 e F t (xs.set i.toNat x) none)) (.tup [])=some r:=by
  split at hk
  ·exact hk
  ·split at hk
   ·exact hk
   ·cases hk
 have h6:rowAt F i.toNat f<cs.length:=by
  rw[ht.sz];unfold rowAt;have:i.toNat*F.length+F.length<=xs.length*F.length:=by rw[<-succ_mul];exact mul_le_mul_right _ k6
  omega
 generalize c4:rowAt F i.toNat f=p at h6;have hT:∀p',p'≠p->(Go.X.tl (ρ id))[p']?=cs[p']?:=by
  intro p' y;rw[ht.tl];unfold d0v;split
  ·rfl
  ·rename_i j g' _;obtain⟨rfl,rfl⟩:=c6 _ _ rfl;rw[List.getElem?_set_ne (by rw[c4];exact Ne.symm y)]
 have n1:cs=cs.take p++([cs[p]]++cs.drop (p+1)):=by
  rw[List.singleton_append,List.getElem_cons_drop,take_append_drop]
 obtain⟨w1,k8,ho,b4⟩:=w0w (off:=p) (c:=[n]) O' j0 n1 (by rw[length_take];omega) rfl p8 (by rw[cells_one b1]) rfl (by simpa using b1);have l3:cs.take p++([n]++cs.drop (p+1))=cs.set p n:=by
  rw[List.singleton_append,List.set_eq_take_append_cons_drop,if_pos h6]
 rw[l3]at b4;have b5:Q1 (F0 s id)=true:=by rw[hl];rfl
 obtain⟨hS,q6,hW⟩:=h.ow id b5 b (Bk.hd (by rw[hr];exact C));have kp:=ho.L0 hS;have hblk:∀I,B1 n=some I->¬Bk (ρ id) I/\∃j,g=some j/\Q1 (F0 s j)=true/\Bk (ρ j) I:=by
  intro I d;cases g with
  |none=>
   have hg:n=z7:=hg;subst hg;cases d
  |some j=>
   obtain⟨o2,u9,y9,h8⟩:=hg;have k5:Q1 (F0 s j)=true:=by rw[h8];rfl
   have l1:Bk (ρ j) I:=Bk.hd (by rw[o2,(e04 b1).1];exact d);refine⟨h.dj j id ?_ k5 b5 I l1,j,rfl,k5,l1⟩
   rintro rfl
   rw[hl]at h8;cases h8
 have hG:∃G:List Nat,H7 (d0c s g) id=Z0 s G/\(∀r' i' f',F0 s r'=.rof id i' f'->r'∈G)/\∀j,g=some j->j∈G:=by
  cases g with
  |none=>exact⟨X9 id s.th,rfl,fun r' i' f' e6=>j0H e6,fun j hj=>by cases hj⟩
  |some j=>exact⟨j :: X9 id s.th,rfl,fun r' i' f' e6=>List.mem_cons_of_mem _ (j0H e6),fun j' hj=>by cases hj;simp⟩
 obtain⟨G,n4,p0,o1⟩:=hG;rw[n4]at b2;have c8:hd (Value.tuple (hd (ρ id) :: cs.set p n).toArray)=hd (ρ id):=rfl;have h3:Go.X.tl (Value.tuple (hd (ρ id) :: cs.set p n).toArray)=cs.set p n:=rfl;have hold:∀p' u',p'≠p->(cs.set p n)[p']?=some u'->(Go.X.tl (ρ id))[p']?=some u':=fun p' u' y U=>by
  rw[List.getElem?_set_ne (Ne.symm y)]at U;rw[hT p' y];exact U
 have b3:(cs.set p n)[p]?=some n:=List.getElem?_set_self h6;have c5:Ext s (Z0 s G):=Ext.Z0 s G;refine⟨_,_,w1,b2,⟨⟨_,S,h.r01 b5 c8 (ho.cx h.cx hW) kp (fun _ h=>h) (fun I d hn=>ho.block I d (fun e=>hn (by rw[e];exact Bk.hd (by rw[hr];exact C)))) (fun I d=>?_) ?_ p0 (by intros;simp),VS.unit,kp⟩,c5.trans (Ext.at _ id _),(a0q G s).2.1,fun e9=>?_⟩,?_⟩
 ·rcases d0T.1 d with d|⟨u',U,d⟩
  ·exact .inl (Bk.hd d)
  ·rw[h3]at U;obtain⟨p',e5⟩:=List.getElem?_of_mem U
   by_cases y:p'=p
   ·subst y;rw[b3]at e5;obtain rfl:=Option.some.inj e5;obtain⟨_,j,e1,e2,e3⟩:=hblk I d;exact .inr ⟨j,o1 j e1,e2,e3⟩
   ·exact .inl (Bk.tl (mem_of_getElem? (hold p' u' y e5)) d)
 ·refine⟨cs.set p n,by rw[c8,length_set,hr];exact b4,by rw[h3];rfl,ht.ok,(fun _ _ h=>by cases h),fun i' x' f' u2 h7 e2 g1 g2 g3 _=>?_,fun u' U=>?_,fun i1 i2 v1 v2 y l h2 I e7 b2=>?_⟩
  ·have q4:f'<F.length:=(List.getElem?_eq_some_iff.1 g3).1;have q7:i'<xs.length:=by have:=(List.getElem?_eq_some_iff.1 g1).1;rwa [length_set]at this
   have main:∀x0,xs[i']?=some x0->V2 E t x0 f'=some ⟨u2,h7⟩->(i'≠i.toNat\/f'≠f)->∃r',(cs.set p n)[rowAt F i' f']?=some r'/\E5 E w1.heap S e2 u2 h7 r':=by
    intro x0 q1 q2 q3;have k1:rowAt F i' f'≠p:=by
     rw[<-c4];intro e;obtain⟨e3,e4⟩:=w0H q4 hf e;rcases q3 with q3|q3
     ·exact q3 e3
     ·exact q3 e4
    obtain⟨r',p1,p2⟩:=ht.rows i' _ f' u2 h7 e2 q1 q2 g3 (by
     intro ho;obtain⟨e3,e4⟩:=c6 _ _ ho;rcases q3 with q3|q3
     ·exact q3 O'
     ·exact q3 e4)
    have p3:(cs.set p n)[rowAt F i' f']?=some r':=by rw[List.getElem?_set_ne (Ne.symm k1)];exact p1
    refine⟨r',p3,p2.mono kp fun b' c0=>ho.block b' (by obtain⟨_,c3,_⟩:=p2;exact Row.live c3 b' c0) ?_⟩
    rintro rfl
    exact ht.ap 0 (rowAt F i' f'+1) (hd (ρ id)) r' O' rfl (by simpa using hold _ _ k1 p3) b' (by rw[hr];exact C) c0
   by_cases hi:i'=i.toNat
   ·subst hi;rw[List.getElem?_set_self k6]at g1;obtain rfl:=Option.some.inj g1
    by_cases h4:f'=f
    ·subst h4;rw[h5]at g2;obtain⟨rfl,g2⟩:=Sigma.mk.inj (Option.some.inj g2);have g2:=eq_of_heq g2;subst g2;rw[k2]at g3;obtain rfl:=Option.some.inj g3;refine⟨n,by rw[c4];exact b3,l0.mono kp fun b' c0=>ho.block b' (by obtain⟨_,c3,_⟩:=l0;exact Row.live c3 b' c0) ?_⟩
     rintro rfl
     exact(hblk b' c0).1 (Bk.hd (by rw[hr];exact C))
    ·rw[l2 f' h4]at g2;exact main _ (a0r h0 hm) g2 (.inr h4)
   ·rw[List.getElem?_set_ne (Ne.symm hi)]at g1;exact main _ g1 g2 (.inl hi)
  ·rcases List.mem_or_eq_of_mem_set U with h9|rfl
   ·exact ht.one _ h9
   ·exact b1
  ·rw[c8,h3]at l h2;have key:∀(i1:Nat) (v1:Value),(hd (ρ id) :: cs.set p n)[i1]?=some v1->(i1=p+1/\v1=n)\/(i1≠p+1/\(hd (ρ id) :: Go.X.tl (ρ id))[i1]?=some v1):=by
    intro i1 v1 l;cases i1 with
    |zero=>exact .inr ⟨O',l⟩
    |succ i1=>
     simp only[List.getElem?_cons_succ]at l
     by_cases e1:i1=p
     ·subst e1;rw[b3]at l;exact .inl ⟨rfl,(Option.some.inj l).symm⟩
     ·exact .inr ⟨O',by simpa using hold i1 v1 e1 l⟩
   have F3:∀(i1:Nat) (v1:Value),(hd (ρ id) :: Go.X.tl (ρ id))[i1]?=some v1->B1 v1=some I->Bk (ρ id) I:=by
    intro i1 v1 l hk;have:=mem_of_getElem? l;rcases mem_cons.1 this with rfl|h9
    ·exact Bk.hd hk
    ·exact Bk.tl h9 hk
   rcases key i1 v1 l with⟨e1,rfl⟩|⟨e1,q1⟩
   ·rcases key i2 v2 h2 with⟨e2,rfl⟩|⟨e2,q2⟩
    ·omega
    ·exact(hblk I e7).1 (F3 _ _ q2 b2)
   ·rcases key i2 v2 h2 with⟨e2,rfl⟩|⟨e2,q2⟩
    ·exact(hblk I b2).1 (F3 _ _ q1 e7)
    ·exact ht.ap i1 i2 v1 v2 y q1 q2 I e7 b2
 ·intro p6 p7;exact ho.block e9 p6 (fun e=>p7 id n2 (by first|assumption|(rw[hl];rfl)) (i0c c5) (Bk.hd (by rw[hr,e];exact C)))
 ·rw[hu,k0,l4];have:o0+i.toNat*F.length+f=o0+p:=by rw[<-c4];unfold rowAt;omega
  rw[this];exact k8
theorem B0v (hE:T1 E)(h:Rp E A s ρ S a as w){R:Type}{k:K E R}{r:R}{T:Nat}{p v:V E.D}{up uv:Value}(hp:VS E ρ s.nid w.heap S p up)(hv:VS E ρ s.nid w.heap S v uv)(hk:k0Y E s T p v k=some r):
  ∃s1 v w1,k s1 v=some r/\K5 E A s ρ S a as w s1 v Go.undef w1/\(Instr.storeAt T up uv).run E.P w=.ok () w1:=by
 unfold k0Y at hk;split at hk<;>try cases hk
 rename_i n e6;split at hk<;>try cases hk
 rename_i U;rw[and_eq_true,beq_eq]at U;obtain⟨hn,U⟩:=U;obtain⟨c,hc,j,b1,e5⟩:=hv.cells hE U;have hlen:c.length=n:=(i01 hE e5 U).trans hn;split at hk
 ·rename_i id off;obtain⟨u,_,b,hr,hu⟩:=hp.b0O;split at hk<;>try cases hk
  rename_i T' cs hb;have hl:=u0O hb;split at hk<;>try cases hk
  rename_i x1 x2 x3 k0;have ht:=h.th id;rw[hl]at ht;obtain⟨b',cc,g,c4,h4,h1⟩:=ht;obtain rfl:b=b':=by rw[g]at hr;simpa[hd,eq_comm]using hr
  obtain⟨c1,c2,c3,e,b4,j3,ha,_,hd⟩:=f0W hE k0 h4;rw[e]at c4;obtain⟨w1,t,ho,c5⟩:=o0Q e6 j hlen b1 c4 b4 j3;rw[hu];obtain⟨b5,h5⟩:=h.r02 hl g ho c5 (l':=x1++j6 v++x3) (by rw[append_assoc];exact ha.app (hc.app hd)) (by
   grind)
  exact⟨_,_,w1,hk,K5.of (fun _ h=>h) b5 VS.unit h5 (Ext.at s id _) rfl (fun k hk hq=>ho.block k hk (fun e=>hq id u (by rw[hl];rfl) (f0g s) (by rw[e,g];rfl))),t⟩
 ·rename_i id off q _;obtain⟨u,c0,b,hr,hu⟩:=hp.b0O;split at hk<;>try cases hk
  rename_i s1 T' l f;unfold k0Y.rdP at f;split at f<;>try cases f
  split at f<;>try cases f
  split at f<;>try cases f
  split at f<;>try cases f
  rename_i u2 _;split at f<;>try cases f
  rename_i s2 y hz I;split at f<;>try cases f
  rename_i T2 k5 hb;split at f<;>try cases f
  rename_i a1 m' i1;split at f<;>try cases f
  rename_i t' x' cr j0;split at f<;>try cases f
  rename_i z J;have hm:=y0r j0;subst hm;have c6:=y0R hz;obtain⟨S1,c8,h2,he,hf,b3,e4⟩:=n0q hE h I;have hl:=u0O hb;have ht:=h2.th id;rw[hl]at ht;obtain⟨b',cc,g,c4,h4,h1⟩:=ht;obtain rfl:b=b':=by rw[g]at hr;simpa[hd,eq_comm]using hr
  obtain⟨c1,c2,e,b4,ha,h8⟩:=b0z hE _ _ _ _ _ i1 cc h4;unfold T0 at h8;obtain⟨d1,d2,rfl,hd,e7⟩:=h8;obtain⟨e1,e2,e3,k2,hle,k1,h9⟩:=k0b hE q t' x' z d1 J c0 hd;have h6:w.heap[b]?=some (.cells ((c1++e1)++(e2++(e3++d2))).toArray T' (0,0)):=by simp_all
  obtain⟨w1,t,ho,c5⟩:=o0Q e6 j hlen b1 h6 (by rw[length_append,b4,hle]) O';rw[hu];have hS:=h2.ow id (by rw[hl];rfl) b (by rw[g];rfl);have kp:=ho.L0 hS.1;have k4:(J0 E t').R w.heap S1 (e1++(c++e3)) z:=h9 c (e4 c e5);obtain⟨b5,h5⟩:=h2.r02 hl g ho c5 (l':=a1++.d t' z :: cr) (by
   have:(c1++e1)++(c++(e3++d2))=c1++((e1++(c++e3))++d2):=Z'
   rw[this];refine ha.app ?_;unfold T0;exact⟨_,d2,rfl,by simp_all[VC],e7⟩) (by
   grind)
  exact⟨_,_,w1,hk,K5.of c8 b5 VS.unit h5 (he.trans (Ext.at s1 id _)) hf (fun k hk hq=>ho.block k hk (fun e=>hq id u (s0L I (by rw[hl];rfl)) (i0c he) (by rw[e,g];rfl))),t⟩
 ·rename_i id i z q;obtain⟨u,c0,b,o,m,b2,hr,⟨h0,hm⟩,hu⟩:=hp.d0e;split at hk
  ·grind [beq_eq,H0t]
  ·grind [z0A]
  ·split at hk<;>try cases hk
   split at hk<;>try cases hk
   rename_i u2 _ _;split at hk<;>try cases hk
   rename_i s1 y I;split at hk<;>try cases hk
   rename_i e t' xs hb;split at hk<;>try cases hk
   rename_i x c6 J;rw[and_eq_true,beq_eq,beq_eq]at c6;obtain⟨rfl,j1⟩:=c6;obtain⟨S1,c8,h2,he,hf,b3,e4⟩:=n0q hE h I;have hl:=j0O hb;have ht:=h2.th id;rw[hl]at ht;have e9:∃A' c',ρ id=.slice A' xs.length c':=E5.form ht;obtain⟨A',c',e9⟩:=e9;have g:ρ id=.slice (some ⟨b,o,none⟩) m b2:=by rw[<-hr,e9];rfl
   have C:Q1 (F0 s1 id)=true:=by rw[hl];rfl
   have h3:Bk (ρ id) b:=by
    obtain⟨_,h7,_⟩:=ht;rw[g]at h7 ⊢;exact h7.i0n O'
   obtain⟨hS,k3,hW⟩:=h2.ow id C b h3;have hL:E5 E w.heap S1 e t' xs (.slice (some ⟨b,o,none⟩) m b2):=by rw[<-g];exact ht
   obtain⟨w1,t,ho,kp,j2⟩:=hL.store hE h0 hm J c0 (e4 c e5) j1 e6 j hlen b1 hS;refine⟨_,_,w1,hk,K5.of c8 (h2.turn (w1:=w1) (S1:=S1) (id:=id) (v:=ρ id) (x:=.lst e t' (xs.set i.toNat x)) (by rw[b3];exact u) C (ho.cx h2.cx hW) kp (fun _ h=>h) (fun k hk hn=>ho.block k hk (fun e=>hn (by rw[e];exact h3))) rfl (fun k hk=>(h2.ow id C k hk).1) ?_) VS.unit kp (he.trans (Ext.at s1 id _)) hf (fun k hk hq=>ho.block k hk (fun e=>hq id u (s0L I (by rw[hl];rfl)) (i0c he) (by rw[e];exact h3))),by rw[hu];exact t⟩;rw[g];exact j2
 grind
def d0p {t:U}{z:Value}{sz bytes:Nat}(h:c0r E t z sz bytes=true):sz=(J0 E t).sz/\z.cells.size=(J0 E t).sz/\0<(J0 E t).sz/\0<bytes:=by
 simp only[c0r,and_eq_true,beq_eq,Nat.blt_eq]at h;obtain⟨⟨⟨h1,c⟩,d⟩,b⟩:=h;subst h1;exact⟨rfl,c,d,b⟩
theorem d0U {e:Nat}{z:Value}{sz bytes:Nat}(h:c0f E e=some (z,sz,bytes)):∃i,E.P.info? e=some i/\i.zero=some z/\i.size=sz/\i.bytes=bytes:=by
 unfold c0f at h
 grind
theorem d0V {T e:Nat}(h:b0J E T=some e):E.P.underlying T=some (.slice e):=by
 grind [b0J]
def Rp.j0k (h:Rp E A s ρ S a as w){e:Nat}{t:U}{xs:List (Den E.D t)}{v:Value}{w1:World}(f:Below w.heap.size w w1)(i:∀k,B1 v=some k->w.heap.size<=k/\k<w1.heap.size)(ho:v.oneCell'=true)
  (g:∀S1,P0 w.heap S w1.heap S1->(∀k,B1 v=some k->S1 k)->∃cs,Row w1.heap e (J0 E t).sz v xs.length cs/\R1 (J0 E t) w1.heap S1 cs xs):
  K5 E A s ρ S a as w (s.new (.lst e t xs)) (.sl s.nid) v w1:=by
 obtain⟨c,b⟩:=e04 ho;obtain⟨S1,hk,j⟩:=h.new (x:=.lst e t xs) (v:=v) (w1:=w1) f (fun k hk=>i k ((b k).1 hk)) (fun S1 hk hs _=>g S1 hk fun k d=>hs k ((b k).2 d) rfl);refine⟨⟨_,S1,j,?_,hk⟩,Ext.new s _,rfl,fun k hk _=>f.block k hk⟩;exact VS.of rfl (by exact⟨lt_succ_self _,by simp_all[W4],by rw[W4,c]⟩)
def t0r {n:Nat}{H:I0}(z:Value):VC E ρ n H S (ofZ E z) z.cells.toList:=by
 have h:=l0f (E:=E) (ρ:=ρ) (S:=S) (n:=n) (H:=H) z;unfold ofZ at h ⊢;split at h
 ·exact h
 ·rw[q01]at h;exact h.a0Q
theorem A0c (hE:T1 E)(h:Rp E A s ρ S a as w){R:Type}{k:K E R}{r:R}{T:Nat}{n m:Operand}(hk:q0z E s T n m k=some r):
  ∃s1 v u w1,k s1 v=some r/\K5 E A s ρ S a as w s1 v u w1/\(Instr.makeSlice T (a.eval n) (a.eval m)).run E.P w=.ok u w1:=by
 unfold q0z at hk;split at hk<;>try cases hk
 rename_i e I x he hx hop;have l:n=m:=by
  unfold j0Y at hop;split at hop
  ·simp_all
  ·simp_all
  simp_all
 subst l;split at hk<;>try cases hk
 rename_i t z sz bytes ht p;split at hk<;>try cases hk
 rename_i zx j U;obtain⟨rfl,h1,h2,h3⟩:=d0p j;obtain⟨i,hi,C,o,b1⟩:=d0U p;split at hk<;>try cases hk
 rename_i c;have hT:=d0V he;have y:=E9 hx (h.val n);rw[y];simp only[R2,and_eq_true,decide_eq_true_eq]at c;obtain⟨q,rfl⟩:=Int.eq_ofNat_of_zero_le c.1;have J:q<=q*bytes:=Nat.le_mul_of_pos_right _ h3;obtain⟨w1,d,b,hg⟩:=run_make_full (P:=E.P) w w.heap.size T e i z (J0 E t).sz hT hi C o I I q (by grind) (by grind [maxLen]) (le_refl _);have hB:Below w.heap.size w w1:=⟨hg.os,hg.tape,hg.output,hg.size,fun k hk=>hg.block k hk Z'⟩
 have hm:=n0t z.cells q;rw[h1]at hm;have b:=Row.of b;have f:∀S1,(J0 E t).R w1.heap S1 z.cells.toList zx:=by
  intro S1;refine g0J (ρ:=ρ) (n:=0) hE (fun id=>?_) U (t0r z)
  trivial
 refine⟨_,_,_,w1,hk,h.j0k hB (fun k hk=>?_) rfl fun S1 hk _=>⟨_,by simp_all,l0r (f S1) q⟩,d⟩;obtain⟨a1,rfl⟩:=d0S hk;rcases b.2 with⟨_,a,hv⟩|⟨g,cap,cur,hv,_,hgg,_⟩
 ·omega
 grind
def Row.m0j {H:I0}{e sz n:Nat}{v:Value}{cs:List Value}(h:Row H e sz v n cs):(Go.V.Row H e sz v n cs/\v.ownBlock=B1 v)\/(n=0/\cs=[]/\B1 v=none/\∃a,v=.slice (some a) 0 0):=by
 obtain⟨c,⟨h1,a,d⟩|⟨g,cap,cur,b,hp,r⟩⟩:=h
 ·subst h1;subst d;cases a with
  |none=>exact .inl ⟨⟨c,.inl ⟨rfl,rfl⟩⟩,rfl⟩
  |some a=>exact .inr ⟨rfl,by simp_all,rfl,a,rfl⟩
 ·refine .inl ⟨⟨c,.inr ⟨g,cap,cur,b,r⟩⟩,?_⟩;subst b;exact(e0S (a:=⟨g,0,none⟩) (m:=n) hp).symm
def inX (v:Value)(S:D0):D0:=fun k=>B1 v=some k\/S k
structure GrX (w w1:World)(v:Value):Prop where
 os:w1.os=w.os
 tape:w1.tape=w.tape
 output:w1.output=w.output
 size:w.heap.size<=w1.heap.size
 block:∀k,k<w.heap.size->B1 v≠some k->w1.heap[k]?=w.heap[k]?
def t0F {a:Option Addr}{m c k:Nat}(h:B1 (.slice a m c)=some k):(Value.slice a m c).ownBlock=some k:=by
 cases a with
 |none=>cases h
 |some a=>obtain⟨_,rfl⟩:=d0S h;rfl
theorem j0Z {α:Type}{T:Ty α}{t ty e:TypeId}{bytes:Nat}{z:Value}{v:Value}{xs ys:List α}{cs:List Value}{A:Option Addr}{c:Nat}(P:Program)(ht:P.underlying t=some (.slice e))(hE:(P.info? e).map (fun i=>(i.zero,i.size,i.bytes))=some (some z,T.sz,bytes))(f:(decide (z.cells.size=T.sz)&&decide (0<T.sz)&&decide (0<bytes))=true)
  (b5:Row w.heap e T.sz v xs.length cs) (b3:R1 T w.heap S cs xs) (hS:∀k,B1 v=some k->S k) (I:Q4 T w.heap S A ys) (l:K0 bytes xs ys=true):
  ∃d w1,(Builtin.append_ #[t,t] ty #[v,.slice A ys.length c]).run P w=.ok d w1/\GrX w w1 v/\(∀k,B1 d=some k->(B1 v=some k\/w.heap.size<=k)/\k<w1.heap.size)/\(∃A1 c1,d=.slice A1 (xs++ys).length c1)/\
   ∀S1,P0 w.heap S w1.heap S1->∃n,Row w1.heap e T.sz d (xs++ys).length n/\R1 T w1.heap S1 n (xs++ys):=by
 rcases b5.m0j with⟨hV,e4⟩|⟨h0,hc0,hnone,a,J⟩
 ·have U:Ow T e (fun _=>True) w.heap S v xs:=⟨fun k hk=>⟨hS k (by simp_all),trivial⟩,cs,hV,b3⟩
  obtain⟨d,w1,m,hg,e5,q⟩:=z0l (P:=P) (w:=w) t ty e bytes z ht hE f U I (c:=c) l;have fin:∀S1,P0 w.heap S w1.heap S1->Ow T e (fun _=>True) w1.heap (fun k=>d.ownBlock=some k\/S1 k) d (xs++ys):=fun S1 hk=>by
   refine q (fun k=>d.ownBlock=some k\/S1 k) ⟨hk.size,fun b hb hn=>⟨fun hi=>?_,(hk.blk b hb hn).2⟩⟩ (fun _=>True) (fun k hk=>⟨.inl hk,trivial⟩);rcases hi with hi|hi
   ·grind
   ·exact(hk.blk b hb hn).1 hi
  have c3:P0 w.heap S w1.heap (fun k=>d.ownBlock=some k\/S k):=⟨hg.size,fun b hb hn=>⟨fun hi=>by
    grind,hg.block b hb (fun e1=>hn (hS b (by simp_all)))⟩⟩
  have a1:=fin _ c3;obtain⟨A1,c1,C⟩:=a1.form;refine⟨d,w1,m,⟨hg.os,hg.tape,hg.output,hg.size,fun k hk hn=>hg.block k hk (fun e1=>hn (by simp_all))⟩,fun k hk=>?_,⟨A1,c1,C⟩,fun S1 hk=>?_⟩
  ·have c8:d.ownBlock=some k:=by simp_all[t0F]
   refine⟨?_,a1.lt k c8⟩
   grind
  ·obtain⟨_,n,h1,R⟩:=fin S1 hk;exact⟨n,Row.ofV h1,R.L0 (P0.less fun _ h=>.inr h)⟩
 ·subst J;subst hc0;have c0:xs=[]:=eq_nil_of_length_eq_zero h0;subst c0;obtain⟨i,hi,b2⟩:=Option.map_eq_some_iff.1 hE;simp only[Prod.mk.injEq]at b2;obtain⟨hz,c6,e2⟩:=b2;simp only[and_eq_true,decide_eq_true_eq]at f;simp only[K0,decide_eq_true_eq,List.length_nil,zero_add]at l;have e3:ys.length<=maxLen:=by
   have:ys.length<=ys.length*bytes:=Nat.le_mul_of_pos_right _ f.2
   grind [maxLen]
  rcases Nat.eq_zero_or_pos ys.length with h0|hpos
  ·have h0:ys=[]:=eq_nil_of_length_eq_zero h0;subst h0;have g1:GrX w w (.slice (some a) 0 0):=⟨rfl,rfl,rfl,le_refl _,fun _ _ _=>rfl⟩
   have g2:Row w.heap e T.sz (.slice (some a) 0 0) ([]++[]:List α).length []:=⟨Z',.inl ⟨rfl,_,rfl⟩⟩
   have g3:∀k,B1 (.slice (some a) 0 0)=some k->(B1 (.slice (some a) 0 0)=some k\/w.heap.size<=k)/\k<w.heap.size:=fun k hk=>by cases hk
   refine⟨.slice (some a) 0 0,w,?_,g1,g3,⟨some a,0,rfl⟩,fun S1 hk=>⟨[],g2,R1.nil⟩⟩;cases A<;>simp[Builtin.append_,run_underlying ht,sizeOf,typeInfo,hi,Builtin.lenOf,Builtin.firstCells,loadCells,loadCellsFrom,storeCells]
  ·obtain⟨b,off,_,hA,_⟩:=I 0 ys[0] (by simp[hpos]);subst hA;have rd:∀{A:Option Addr} {xs:List α},Q4 T w.heap S A xs->∃news,R1 T w.heap S news xs/\∀b o,A=some ⟨b,o,none⟩->∀j u,news[j]?=some u->O1 w.heap b (o+0*T.sz+j)=some u:=fun hr=>Q4.news (w:=w) (k:=0) (fun i x hx=>by
    obtain⟨b,o,cs,h1,R,r⟩:=hr i x hx;exact⟨b,o,cs,h1,R,fun j v hj=>by rw[zero_add];exact r j v hj⟩)
   obtain⟨news,b1,p⟩:=rd I;have y:∀j u,news[j]?=some u->w.cell? ((⟨b,off,none⟩:Addr).add j)=some u:=by
    intro j u hj;rw[k7];have:=p b off rfl j u hj;simpa using this
   obtain⟨d,w',m,R,r⟩:=run_append_arg_grows (P:=P) w t ty e i z T.sz bytes ht hi hz c6 e2 f.1.1 f.1.2 a 0 0 [] Z' (fun j u hj=>by simp at hj) ⟨b,off,none⟩ ys.length c news b1.1 y O' O' (by simpa using l);have hV:=R;obtain⟨hl,J|⟨g,cap,cur,J,c4,hg,e6,hm,e7,c5⟩⟩:=hV
   ·exact absurd J.2 O'
   ·have b4:=Row.of R;rw[zero_add,nil_append]at b4;refine⟨d,w',m,⟨r.os,r.tape,r.output,r.size,fun k hk _=>r.block k hk Z'⟩,fun k hk=>?_,⟨_,_,by rw[J];simp;exact⟨rfl,rfl⟩⟩,fun S1 hk=>⟨news,by simpa using b4,by simpa using b1.L0 hk⟩⟩;rw[J]at hk;obtain⟨_,rfl⟩:=d0S hk;exact⟨.inr c4,getElem?_lt hg⟩
theorem h0y (h:Rp E A s ρ S a as w){t:U}{y:V E.D}{q:Value}(n:VS E ρ s.nid w.heap S y q){ys:List (Den E.D t)}(hs:e0p E s t y=some ys):
  ∃A' c,q=.slice A' ys.length c/\Q4 (J0 E t) w.heap S A' ys:=by
 unfold e0p at hs;split at hs
 ·simp only[Option.some.injEq]at hs;subst hs;obtain rfl:=n.b0q;exact⟨none,0,rfl,fun i x m=>by grind⟩
 ·split at hs<;>try cases hs
  rename_i u o hl;obtain⟨e,hs⟩:=a0u hs;subst e;subst hs;have p:=hl;unfold c0o at hl;split at hl
  ·cases hl;obtain⟨A',c,rfl,l⟩:=n.f0Z;exact⟨A',c,rfl,l.2.2⟩
  ·obtain⟨a1,rfl⟩:=n.a0m;rcases h.m0d p with⟨e,h1,_⟩|⟨A',c,h1,f⟩
   ·obtain⟨A',c,f⟩:=h1.form;rw[f]at h1;refine⟨A',c,f,fun i x m=>?_⟩;have hi:i<o.length:=(List.getElem?_eq_some_iff.1 m).1;cases A' with
    |none=>
     obtain⟨cs,d,_⟩:=h1;rcases d.2 with⟨I,_⟩|⟨g,cap,cur,hv,_⟩
     ·omega
     grind
    |some ad=>
     have k:=h1;obtain⟨J,b,_⟩:=k;rcases b.2 with⟨I,_⟩|⟨g,cap,cur,hv,_⟩
     ·omega
     ·obtain⟨rfl,_⟩:=hv;obtain⟨_,R⟩:=h1.el;obtain⟨_,cs,r,C⟩:=R i O' O';have:E6 E u o i=x:=by
       have:=a0r (E:=E) (t:=u) (xs:=o) (i:=i) O' O';rw[Int.toNat_natCast,m]at this;exact(Option.some.inj this).symm
      rw[this]at r;exact⟨g,0,cs,rfl,r,fun j v z=>C w.heap rfl j v z⟩
   ·exact⟨A',c,h1,f.2.2⟩
  grind
theorem s0w (hE:T1 E)(h:Rp E A s ρ S a as w){R:Type}{k:K E R}{r:R}{T:Nat}{x y:V E.D}{ux uy:Value}(hx:VS E ρ s.nid w.heap S x ux)(hy:VS E ρ s.nid w.heap S y uy)(ty:Nat)(hk:i08 E s T x y k=some r):
  ∃s1 v u w1,k s1 v=some r/\K5 E A s ρ S a as w s1 v u w1/\(Builtin.append_ #[T,T] ty #[ux,uy]).run E.P w=.ok u w1:=by
 unfold i08 at hk;split at hk<;>try cases hk
 rename_i e he;split at hk<;>try cases hk
 rename_i t z sz bytes ht h0;split at hk<;>try cases hk
 rename_i ys g xs c8 c3 d;split at hk<;>try cases hk
 rename_i p;obtain⟨rfl,h1,h2,h3⟩:=d0p c8;obtain⟨i,hi,h8,h4,h7⟩:=d0U h0;have hT:=d0V he;obtain⟨A',c,rfl,c5⟩:=h0y h hy c3;have c6:(E.P.info? e).map (fun i=>(i.zero,i.size,i.bytes))=some (some z,(J0 E t).sz,bytes):=by simp_all
 have b1:(decide (z.cells.size=(J0 E t).sz)&&decide (0<(J0 E t).sz)&&decide (0<bytes))=true:=by simp_all
 unfold v0q at d;split at d
 ·obtain⟨rfl,rfl⟩:=d;obtain rfl:=hx.b0q;obtain⟨v',w1,n,hg,J,⟨A1,c1,l⟩,j⟩:=j0Z (S:=S) (w:=w) (ty:=ty) (v:=.slice none 0 0) (xs:=([]:List (Den E.D t))) (cs:=[]) (c:=c) E.P hT c6 b1 ⟨Z',.inl ⟨rfl,none,rfl⟩⟩ R1.nil (fun k hk=>by cases hk) c5 p;have hB:Below w.heap.size w w1:=⟨hg.os,hg.tape,hg.output,hg.size,fun k hk=>hg.block k hk (by simp[B1])⟩
  subst l;refine⟨_,_,_,w1,hk,h.j0k hB (fun k hk=>?_) rfl fun S1 hk hs=>j S1 hk,n⟩;obtain⟨h5,h6⟩:=J k hk;rcases h5 with h5|h5
  ·cases h5
  omega
 ·rename_i id;split at d<;>try cases d
  rename_i e' t' zs hl;split at d<;>try cases d
  rename_i b3 U;rw[beq_eq]at b3;subst b3;obtain⟨e2,U⟩:=a0u U;subst e2;subst U;obtain⟨e5,rfl⟩:=hx.a0m;have hl:=j0O hl;have f:Q1 (F0 s id)=true:=by rw[hl];rfl
  have a1:=h.th id;rw[hl]at a1;obtain⟨A0,c0,c4⟩:=E5.form a1;have b5:hd (ρ id)=ρ id:=by rw[c4];rfl
  have o:∀k,Bk (ρ id) k↔B1 (ρ id)=some k:=fun k=>by rw[c4];rfl
  rw[b5];obtain⟨cs,b4,b2⟩:=a1;have hS:=fun k hk=>(h.ow id f k ((o k).2 hk))
  obtain⟨v',w1,n,hg,J,⟨A1,c1,l⟩,j⟩:=j0Z (S:=S) (w:=w) (ty:=ty) (c:=c) E.P hT c6 b1 b4 b2 (fun k hk=>(hS k hk).1) c5 p;subst l;have m:P0 w.heap S w1.heap (inX (Value.slice A1 (zs++ys).length c1) S):=⟨hg.size,fun b q hn=>⟨fun hi=>by
    rcases hi with hi|hi
    ·grind
    simp_all,hg.block b q (fun e=>hn (hS b e).1)⟩⟩
  obtain⟨e3,I,C⟩:=j _ m;have e4:Cx A.w0 A.W0 A.S0 w1 (inX (Value.slice A1 (zs++ys).length c1) S):=by
   have cx:=h.cx;refine⟨⟨hg.os.trans cx.bel.os,hg.tape.trans cx.bel.tape,hg.output.trans cx.bel.output,le_trans cx.bel.size hg.size,fun k hk hn=>(hg.block k (by have:=cx.size;omega) (fun e=>?_)).trans (cx.bel.block k hk hn)⟩,fun b q=>.inr (cx.sub b q),fun b q=>?_,cx.lt0⟩
   ·rcases(hS k e).2.2 with h2|h2
    ·grind
    ·omega
   ·rcases q with q|q
    ·simp_all
    ·exact Nat.lt_of_lt_of_le (cx.lt b q) hg.size
  have e1:Rp E A ((Z0 s [id]).new (Th.lst e t' (zs++ys))) (C6 ρ s.nid (Value.slice A1 (zs++ys).length c1)) (inX (Value.slice A1 (zs++ys).length c1) S) a as w1:=
   h.take e4 m (fun k hk=>.inr hk) (fun k hk hn=>hg.block k hk (fun e=>hn id Z' f ((o k).2 e))) (fun k hk _=>⟨.inl hk,((J k hk).1).imp (fun h5=>⟨id,Z',f,(o k).2 h5⟩) (fun h5=>O')⟩) ⟨e3,I,C⟩ Z'
  refine⟨_,_,_,w1,hk,⟨⟨_,_,e1,?_,m⟩,(Ext.at s id .gone).trans (Ext.new _ _),rfl,fun e9=>?_⟩,n⟩
  ·exact VS.of rfl (by unfold VC;exact⟨lt_succ_self _,by rw[W4];rfl,by rw[W4];rfl⟩)
  ·intro e6 e7;exact hg.block e9 e6 (fun e=>e7 id e5 f (g0S (f0g s) (Ext.at s id .gone) (Ext.new _ _)) ((o e9).2 e))
 simp_all
theorem y0s (_hE:T1 E)(h:Rp E A s ρ S a as w){id r0 f:Nat}{j:Int}{s1:St E.D}(hl:F0 s id=.rof r0 j f)(ho:n0h E s r0 j f=some s1):
  ∃ ρ1,Rp E A s1 ρ1 S a as w/\(∀i,i<s.nid->hd (ρ1 i)=hd (ρ i))/\VS E ρ1 s1.nid w.heap S (.sl s.nid) (hd (ρ id))/\Ext s s1/\s1.fr=s.fr/\(∀q,q<s.nid->Q1 (F0 s1 q)=true->Q1 (F0 s q)=true)/\(∃r',r'<s.nid/\Q1 (F0 s r')=true/\W6 s s1 r'=true/\∀q k,q<s1.nid->Bk (ρ1 q) k->(q<s.nid/\Bk (ρ q) k)\/Bk (ρ r') k)/\s.nid<=s1.nid:=by
 unfold n0h at ho;split at ho<;>try cases ho
 rename_i e F t xs c4;split at ho<;>try cases ho
 rename_i u zs e' j0 h3;have hq:=e0u c4;have m:Q1 (F0 s r0)=true:=by rw[hq];rfl
 have e7:=h.i7 (id:=r0) (by simp_all);obtain⟨b2,o2,m2,c2,k1,k2,k3,k4⟩:=h.rf id r0 j f hl e F t xs hq;have z:=h.th r0;rw[hq]at z;obtain⟨cs,z⟩:=z;have b3:=z.row;rw[k1]at b3;obtain⟨rfl,_,_,b1⟩:=Row.cell b3 O';have c6:V2 E t (E6 E t xs j) f=some ⟨u,zs⟩:=by simp_all[b0A]
 have c5:=a0r (E:=E) (t:=t) (xs:=xs) k2.1 k2.2;obtain⟨h7,h5,hL⟩:=z.rows j.toNat _ f u zs _ c5 c6 h3 Z';have c8:rowAt F j.toNat f<cs.length:=(List.getElem?_eq_some_iff.1 h5).1;have h6:=b1 w.heap rfl _ (by rw[<-z.row.1];omega);rw[h5]at h6;have k4:O1 w.heap b2 (o2+rowAt F j.toNat f)=some (ρ id):=k4;rw[k4]at h6;obtain rfl:=Option.some.inj h6;have h8:=e0P (o:=none) k3 Z' h5 Z';rw[<-z.tl]at h8;have h4:Go.X.tl (ρ r0)=cs:=z.tl;generalize e9:rowAt F j.toNat f=p at c8 h5 h8;have J:hd (Value.tuple (hd (ρ r0) :: cs.set p z7).toArray)=hd (ρ r0):=rfl;have c3:Go.X.tl (Value.tuple (hd (ρ r0) :: cs.set p z7).toArray)=cs.set p z7:=rfl;have key:∀(g:Nat) (v1:Value) d,(hd (ρ r0) :: cs.set p z7)[g]?=some v1->B1 v1=some d->g≠p+1/\(hd (ρ r0) :: Go.X.tl (ρ r0))[g]?=some v1:=by
  intro g v1 d n hk;cases g with
  |zero=>simp_all
  |succ g=>
   simp only[List.getElem?_cons_succ]at n ⊢
   by_cases e1:g=p
   ·subst e1;rw[List.getElem?_set_self c8]at n;obtain rfl:=Option.some.inj n;cases hk
   grind
 have F3:∀(g:Nat) (v1:Value) d,(hd (ρ r0) :: Go.X.tl (ρ r0))[g]?=some v1->B1 v1=some d->Bk (ρ r0) d:=by
  intro g v1 d n hk;rcases mem_cons.1 (mem_of_getElem? n)with rfl|h9
  ·exact Bk.hd hk
  grind [Bk.tl]
 have a1:∀d,Bk (Value.tuple (hd (ρ r0) :: cs.set p z7).toArray) d->∃g v1,g≠p+1/\(hd (ρ r0) :: Go.X.tl (ρ r0))[g]?=some v1/\B1 v1=some d:=by
  intro d b;have:∃u'∈hd (ρ r0) :: cs.set p z7,B1 u'=some d:=by
   rcases d0T.1 b with b|⟨u',R,b⟩
   ·exact⟨_,List.mem_cons_self,b⟩
   ·exact⟨u',List.mem_cons_of_mem _ R,b⟩
  obtain⟨u',R,l⟩:=this;obtain⟨g,e6⟩:=List.getElem?_of_mem R;obtain⟨q1,U⟩:=key g u' d e6 l;exact⟨g,u',q1,U,l⟩
 have e4:=h.r01 (id:=r0) (x:=.X0 e F t xs (some (j,f))) (v:=Value.tuple (hd (ρ r0) :: cs.set p z7).toArray) (G:=X9 r0 s.th) m J h.cx (P0.refl _ _) (fun _ h=>h) (fun _ _ _=>rfl) (fun d b=>by
   obtain⟨g,v1,_,U,q3⟩:=a1 d b;exact .inl (F3 g v1 d U q3)) (by
   refine⟨cs,z.row,by rw[c3];unfold d0v;simp only[e9],z.ok,fun j' g' r=>?_,fun i' x' f' u2 h2 r g1 g2 g3 g4=>?_,z.one,fun g i2 v1 v2 h0 n b5 d b4 l=>?_⟩
   ·cases r;exact⟨k2.1,k3⟩
   ·exact z.rows i' x' f' u2 h2 r g1 g2 g3 Z'
   ·rw[J,c3]at n b5;exact z.ap g i2 v1 v2 h0 (key g v1 d n b4).2 (key i2 v2 d b5 l).2 d b4 l) (fun r' i' f' e5=>j0H e5) (by intros;simp)
 have c:((Z0 s (X9 r0 s.th)).at r0 (Th.X0 e F t xs (some (j,f)))).nid=s.nid:=(a0q _ s).1;have y:=E5.form hL;obtain⟨A0,c0,y⟩:=y;have I:=e4.t03 (x:=.lst e' u zs) (v:=ρ id) (fun d b _=>by
   rw[y]at b;have b:B1 (ρ id)=some d:=by rw[y];exact b
   refine⟨h.ow r0 m d (Bk.tl (mem_of_getElem? h8) b),fun j' C l=>?_⟩
   by_cases r:j'=r0
   ·subst r;rw[W4]at l;obtain⟨g,v1,q1,U,q3⟩:=a1 d l;exact z.ap g (p+1) v1 (ρ id) q1 U (by simpa using h8) d q3 b
   ·rw[n5 r]at l;rw[T8,if_neg (Ne.symm r),d0K]at C;split at C
    ·cases C
    ·exact h.dj r0 j' (Ne.symm r) m C d (Bk.tl (mem_of_getElem? h8) b) l) hL (fun _ _ _ e=>by cases e)
 rw[c]at I;refine⟨_,I,fun i hi=>?_,?_,((Ext.Z0 s _).trans (Ext.at _ r0 _)).trans (Ext.new _ _),(a0q _ s).2.1,fun q hq ho=>?_,?_,?_⟩
 ·rw[n5 O']
  by_cases r:i=r0
  ·subst r;rw[W4];exact J
  ·rw[n5 r]
 ·refine VS.of rfl ?_;unfold VC;rw[W4];have c:((H7 s r0).at r0 (Th.X0 e F t xs (some (j,f)))).nid=s.nid:=c;refine⟨by show s.nid<_+1;rw[c];omega,by rw[y];rfl,rfl⟩
 ·have c:((H7 s r0).at r0 (Th.X0 e F t xs (some (j,f)))).nid=s.nid:=c;rw[l0N,if_neg (by rw[c];omega),T8]at ho;split at ho
  ·rename_i r;subst r;exact m
  ·unfold H7 at ho;rw[d0K]at ho;split at ho
   ·cases ho
   ·exact ho
 ·refine⟨r0,e7,m,g0S (i0c (Ext.Z0 s _)) ((Ext.Z0 s _).trans (Ext.at _ r0 _)) (Ext.new _ _),fun q d e3 b=>?_⟩;have c:((H7 s r0).at r0 (Th.X0 e F t xs (some (j,f)))).nid=s.nid:=c;have e3:q<s.nid+1:=by rw[<-c];exact e3
  by_cases e1:q=s.nid
  ·subst e1;rw[W4]at b;rw[y]at b;exact .inr (Bk.tl (mem_of_getElem? h8) (by rw[y];exact b))
  ·rw[n5 e1]at b
   by_cases r:q=r0
   ·subst r;rw[W4]at b;obtain⟨g,v1,_,U,q3⟩:=a1 d b;exact .inr (F3 g v1 d U q3)
   ·rw[n5 r]at b;exact .inl ⟨O',b⟩
 ·have c:((H7 s r0).at r0 (Th.X0 e F t xs (some (j,f)))).nid=s.nid:=c;show s.nid<=_+1;rw[c];omega
def b01 (n:Nat):Ty (List Value) where
 sz:=n
 R:=fun _ _ cs x=>cs=x/\x.length=n/\∀v∈x,v.oneCell'=true
 len:=by simp_all
 one:=by simp
 L0:=fun _ h=>h
theorem t0a {n:Nat}{H:I0}{S:D0}:∀(b:List (List Value)) (cs:List Value),R1 (b01 n) H S cs b->cs=b.flatten
 |[],cs,h=>by
  have:=h.1
  simp_all
 |z :: b,cs,h=>by
  have c:=h.2 0 z rfl;simp only[Nat.zero_mul,List.drop_zero]at c;obtain⟨h1,e,_⟩:=c;have hl:cs.length=(b.length+1)*n:=h.1;have f:=t0a (H:=H) (S:=S) b (cs.drop n) ⟨by show(cs.drop n).length=b.length*n;grind,fun i x d=>by
   have:=h.2 (i+1) x d;show(((cs.drop n).drop (i*n)).take n)=x/\_;rw[drop_drop,show n+i*n=(i+1)*n from by grind];exact this⟩
  grind [take_append_drop]
theorem n0U {n:Nat}{H:I0}{S:D0}:∀(m:Nat) (cs:List Value),cs.length=m*n->(∀v∈cs,v.oneCell'=true)->∃b:List (List Value),b.length=m/\b.flatten=cs/\R1 (b01 n) H S cs b
 |0,cs,h,_=>by
  have:cs=[]:=eq_nil_of_length_eq_zero O';subst this;exact⟨[],rfl,rfl,R1.nil⟩
 |m+1,cs,h,h1=>by
  rw[succ_mul]at h;obtain⟨b,g,f,d⟩:=n0U (n:=n) (H:=H) (S:=S) m (cs.drop n) (by simp_all) (fun v c=>h1 v (List.mem_of_mem_drop c));have e:(b01 n).R H S (cs.take n) (cs.take n):=⟨rfl,by simp_all,fun v c=>h1 v (List.mem_of_mem_take c)⟩
  refine⟨cs.take n :: b,by grind,by simp_all,?_⟩;have:=(R1.one e).append d
  simp_all
structure M7 (E:Env)(H:I0)(S:D0)(F:List Nat)(t:U)(xs:List (Den E.D t))(cs:List Value):Prop where
 len:cs.length=xs.length*F.length
 rows:∀(i:Nat) (x:Den E.D t) (f:Nat) (u:U) (ys:List (Den E.D u)) (e':Nat),xs[i]?=some x->V2 E t x f=some ⟨u,ys⟩->F[f]?=some e'->∃r,cs[rowAt F i f]?=some r/\E5 E H S e' u ys r
 one:∀u∈cs,u.oneCell'=true
theorem M7.app {H:I0}{F:List Nat}{t:U}{xs ys:List (Den E.D t)}{cs e:List Value}(h:M7 E H S F t xs cs)(k:M7 E H S F t ys e):M7 E H S F t (xs++ys) (cs++e):=by
 refine⟨by rw[length_append,length_append,h.len,k.len,Nat.add_mul],fun i x f u b e' h1 c d=>?_,fun u hu=>?_⟩
 ·rcases lt_or_ge i xs.length with hi|hi
  ·rw[List.getElem?_append_left hi]at h1;obtain⟨r,g,j⟩:=h.rows i x f u b e' h1 c d
   grind
  ·rw[List.getElem?_append_right hi]at h1;obtain⟨r,g,j⟩:=k.rows _ x f u b e' h1 c d;have:rowAt F i f=cs.length+rowAt F (i-xs.length) f:=by
    unfold rowAt;rw[h.len];have:i*F.length=xs.length*F.length+(i-xs.length)*F.length:=by rw[<-Nat.add_mul];simp_all
    omega
   grind
 ·rcases mem_append.1 hu with h1|h1
  ·exact h.one u h1
  ·exact k.one u h1
def M7.mono {H c:I0}{S1:D0}{F:List Nat}{t:U}{xs:List (Den E.D t)}{cs:List Value}(kp:P0 H S c S1)(j:∀u∈cs,∀b,B1 u=some b->c[b]?=H[b]?)(h:M7 E H S F t xs cs):M7 E c S1 F t xs cs:=
 ⟨h.len,fun i x f u ys e' h1 k e=>by
  obtain⟨r,d,g⟩:=h.rows i x f u ys e' h1 k e;exact⟨r,d,g.mono kp (j r (mem_of_getElem? d))⟩,h.one⟩
theorem M7.live {H:I0}{F:List Nat}{t:U}{xs:List (Den E.D t)}{cs:List Value}(ho:C9 E t F=true)(h:M7 E H S F t xs cs):∀u∈cs,∀b,B1 u=some b->b<H.size:=by
 intro u hu b i;obtain⟨p,hp⟩:=List.getElem?_of_mem hu;have d:p<xs.length*F.length:=by rw[<-h.len];grind
 have hn:0<F.length:=by
  grind
 have hi:p / F.length<xs.length:=(Nat.div_lt_iff_lt_mul hn).2 d;have e:=Nat.mod_lt p hn;have c:p=rowAt F (p / F.length) (p % F.length):=by
  simp[rowAt,Nat.mul_comm,Nat.div_add_mod]
 obtain⟨w',ys,g⟩:=(d0C ho).2 xs[p / F.length] _ e;obtain⟨r,h1,_,f,_⟩:=h.rows (p / F.length) _ (p % F.length) w' ys _ (List.getElem?_eq_getElem hi) g (List.getElem?_eq_getElem e);rw[<-c,hp]at h1;obtain rfl:=Option.some.inj h1;exact Row.live f b i
theorem D0D (h:Rp E A s ρ S a as w){e:Nat}{F:List Nat}{t:U}{x:V E.D}{m:Value}(p:VS E ρ s.nid w.heap S x m){g:Option Nat}{xs:List (Den E.D t)}(hd:g0Z E s e F t x=some (g,xs)):
  ∃cs,Row w.heap e (J0 E t).sz m xs.length cs/\(C9 E t F=true->M7 E w.heap S F t xs cs)/\d07 (m :: cs)/\∀u∈m :: cs,∀k,B1 u=some k->∃j,g=some j/\j<s.nid/\Q1 (F0 s j)=true/\Bk (ρ j) k:=by
 cases x with
 |nil=>
  obtain⟨rfl,rfl⟩:=hd;obtain rfl:=p.b0q;refine⟨[],⟨Z',.inl ⟨rfl,none,rfl⟩⟩,fun _=>⟨Z',fun i x f u ys e' h1=>by grind,Z'⟩,fun i j v R _ J _ k hk=>?_,fun u hu k hk=>?_⟩
  ·grind
  ·simp at hu;subst hu;cases hk
 |sl id=>
  simp only[g0Z]at hd;split at hd<;>try cases hd
  rename_i e' C I r l;split at hd<;>try cases hd
  rename_i d n;rw[and_eq_true,beq_eq,beq_iff_eq]at d;obtain⟨rfl,rfl⟩:=d;obtain⟨z,n⟩:=a0u n;subst z;subst n;obtain⟨o,rfl⟩:=p.a0m;have hl:=e0u l;have b:=h.th id;rw[hl]at b;obtain⟨cs,b⟩:=b;have c:Go.X.tl (ρ id)=cs:=b.tl;refine⟨cs,b.row,fun _=>⟨b.sz,fun i x f u ys e' h1 y q=>b.rows i x f u ys e' h1 y q Z',b.one⟩,by rw[<-c];exact b.ap,fun u hu k hk=>⟨id,rfl,o,by rw[hl];rfl,?_⟩⟩;rcases mem_cons.1 hu with rfl|hu
  ·exact Bk.hd hk
  grind [Bk.tl]
 |_=>simp[g0Z]at hd
theorem v7.of {H:I0}{e:Nat}{F:List Nat}{t:U}{xs:List (Den E.D t)}{v0:Value}{cs:List Value}(b:Row H e (J0 E t).sz v0 xs.length cs)(d:C9 E t F=true)(g:M7 E H S F t xs cs)(c:d07 (v0 :: cs)):v7 E H S e F t xs none (.tuple (v0 :: cs).toArray) cs:=
 ⟨b,rfl,d,(fun _ _ h=>by cases h),fun i x f u ys e' h1 k j _=>g.rows i x f u ys e' h1 k j,g.one,c⟩
theorem A00 (hE:T1 E)(h:Rp E A s ρ S a as w){R:Type}{k:K E R}{r:R}{T J:Nat}{x:V E.D}{I:Value}(hx:VS E ρ s.nid w.heap S x I)(ty:Nat)(hk:o0t E s T x J k=some r):
  ∃s1 v u w1,k s1 v=some r/\K5 E A s ρ S a as w s1 v u w1/\(Builtin.append_ #[T,T] ty #[I,hd (ρ J)]).run E.P w=.ok u w1:=by
 unfold o0t at hk;split at hk<;>try cases hk
 rename_i e he;split at hk<;>try cases hk
 rename_i t z sz bytes e2 F U b2 ht p8 l4;split at hk<;>try cases hk
 rename_i ys g xs e5 a1 l0;split at hk<;>try cases hk
 rename_i q4;split at hk<;>try cases hk
 rename_i h6;simp only[and_eq_true,beq_eq]at e5;obtain⟨⟨e5,rfl⟩,c0⟩:=e5;obtain⟨ec,a1⟩:=a0u a1;subst ec;subst a1;obtain⟨rfl,h1,h2,h3⟩:=d0p e5;obtain⟨i,hi,q8,r2,r3⟩:=d0U p8;have hT:=d0V he;have n2:=e0u l4;have e4:Q1 (F0 s J)=true:=by rw[n2];rfl
 have q7:=h.i7 (id:=J) (by simp_all);obtain⟨cs,h4,m,n1,c4⟩:=D0D h hx l0;have m:=m c0;have d:=h.th J;rw[n2]at d;obtain⟨ds,d⟩:=d;have h5:Go.X.tl (ρ J)=ds:=d.tl;have q6:(E.P.info? e).map (fun i=>(i.zero,i.size,i.bytes))=some (some z,(b01 (J0 E U).sz).sz,bytes):=by simp_all[b01]
 have p6:(decide (z.cells.size=(b01 (J0 E U).sz).sz)&&decide (0<(b01 (J0 E U).sz).sz)&&decide (0<bytes))=true:=by grind
 obtain⟨zx,k8,p2,p4⟩:=n0U (n:=(J0 E U).sz) (H:=w.heap) (S:=S) xs.length cs h4.1 m.one;obtain⟨zy,k1,q3,p1⟩:=n0U (n:=(J0 E U).sz) (H:=w.heap) (S:=S) b2.length ds d.row.1 d.one;obtain⟨A',c,n3⟩:=Row.form d.row;have b5:=d.row;rw[n3]at b5;have q5:Q4 (b01 (J0 E U).sz) w.heap S A' zy:=by
  intro p q hq;have hp:p<b2.length:=by grind
  cases A' with
  |none=>
   rcases b5.2 with⟨h0,_⟩|⟨g,cap,cur,hv,_⟩
   ·omega
   grind
  |some ad=>
   obtain⟨b,o,fl⟩:=ad;have o2:fl=none:=by
    rcases b5.2 with⟨h0,_⟩|⟨g,cap,cur,hv,_⟩
    ·omega
    grind
   subst o2;obtain⟨_,_,_,hc⟩:=Row.cell b5 O';have hR:=p1.2 p q hq;refine⟨b,o,_,rfl,hR,fun j v hj=>?_⟩;have p0:j<(J0 E U).sz:=by
    grind
   have hj:((ds.drop (p*(J0 E U).sz)).take (J0 E U).sz)[j]?=some v:=hj;rw[List.getElem?_take_of_lt p0,List.getElem?_drop]at hj;have hle:p*(J0 E U).sz+(J0 E U).sz<=b2.length*(J0 E U).sz:=by rw[<-succ_mul];exact mul_le_mul_right _ hp
   grind
 have k5:∀u∈I :: cs,∀k,B1 u=some k->S k:=fun u hu k hk=>by
  obtain⟨j,_,_,C,l⟩:=c4 u hu k hk;exact(h.ow j C k l).1
 have k3:K0 bytes zx zy=true:=by unfold K0 at h6 ⊢;rw[k8,k1];exact h6
 obtain⟨v',w1,h7,hg,k4,_,h8⟩:=j0Z (T:=b01 (J0 E U).sz) (S:=S) (w:=w) (ty:=ty) (c:=c) E.P hT q6 p6 (by rw[k8];exact h4) p4 (fun k hk=>k5 I Z' k hk) q5 k3;rw[k1]at h7;have c8:∀k,k<w.heap.size->B1 I≠some k->w1.heap[k]?=w.heap[k]?:=fun k hk hn=>hg.block k hk hn;have y:P0 w.heap S w1.heap (inX v' S):=⟨hg.size,fun b hb hn=>⟨fun hi=>by
   rcases hi with hi|hi
   ·rcases(k4 b hi).1 with e|e
    ·exact hn (k5 I Z' b e)
    ·omega
   ·exact hn hi,c8 b hb (fun e=>hn (k5 I Z' b e))⟩⟩
 have l2:∀k,B1 v'=some k->k<w1.heap.size:=fun k hk=>(k4 k hk).2;obtain⟨r1,b1,k0⟩:=h8 _ y;have c6:=t0a _ _ k0;rw[List.flatten_append,p2,q3]at c6;subst c6;rw[length_append,k8,k1,<-length_append]at b1;have k2:∀k,B1 v'=some k->B1 I=some k\/w.heap.size<=k:=fun k hk=>(k4 k hk).1;have e3:∃A1 c1,v'=.slice A1 (xs++b2).length c1:=Row.form b1;obtain⟨A1,c1,e3⟩:=e3;have c5:∀u∈ds,∀k,B1 u=some k->Bk (ρ J) k:=fun u hu k hk=>Bk.tl (by rw[h5];exact hu) hk;have e6:∀u∈I :: cs,∀k,B1 u=some k->¬Bk (ρ J) k:=fun u hu k hk=>by
  obtain⟨j,hj,_,C,l⟩:=c4 u hu k hk;subst hj;refine h.dj j J ?_ C e4 k l
  rintro rfl
  simp at q4
 have c3:M7 E w.heap S F U b2 ds:=⟨d.sz,fun i x f u ys e' h1 h2 h3=>d.rows i x f u ys e' h1 h2 h3 Z',d.one⟩
 have b3:=m.live c0;have b4:=c3.live c0;have o0:∀u∈cs,∀k,B1 u=some k->B1 I≠some k:=fun u hu k hk e1=>by
  obtain⟨p,hp⟩:=List.getElem?_of_mem hu;exact n1 0 (p+1) I u O' rfl (by simpa using hp) k e1 hk
 have e7:M7 E w1.heap (inX v' S) F U (xs++b2) (cs++ds):=
  (m.mono y fun u hu b hb=>c8 b (b3 u hu b hb) (o0 u hu b hb)).app (c3.mono y fun u hu b hb=>c8 b (b4 u hu b hb) (fun e=>e6 I Z' b e (c5 u hu b hb)))
 have l1:d07 (v' :: (cs++ds)):=by
  have key:∀(i:Nat) (u:Value),(v' :: (cs++ds))[i]?=some u->∀k,B1 u=some k->(i=0/\u=v')\/(0<i/\i<=cs.length/\(I :: cs)[i]?=some u/\u∈cs)\/(cs.length<i/\(hd (ρ J) :: Go.X.tl (ρ J))[i-cs.length]?=some u/\u∈ds):=by
   intro i u hi k hk;cases i with
   |zero=>exact .inl ⟨rfl,(Option.some.inj hi).symm⟩
   |succ i=>
    simp only[List.getElem?_cons_succ]at hi;rcases lt_or_ge i cs.length with h9|h9
    ·rw[List.getElem?_append_left h9]at hi;exact .inr (.inl ⟨O',O',by simpa using hi,mem_of_getElem? hi⟩)
    ·rw[List.getElem?_append_right h9]at hi;exact .inr (.inr ⟨O',by rw[h5,show i+1-cs.length=(i-cs.length)+1 from O'];simpa using hi,mem_of_getElem? hi⟩)
  intro i j v1 v2 l3 hi hj k C l;have n4:∀u∈cs,B1 u=some k->B1 v'≠some k:=fun u hu hk e1=>by
   rcases k2 k e1 with h9|h9
   ·exact o0 u hu k hk h9
   ·have:=b3 u hu k hk;omega
  have n0:∀u∈ds,B1 u=some k->B1 v'≠some k:=fun u hu hk e1=>by
   rcases k2 k e1 with h9|h9
   ·exact e6 I Z' k h9 (c5 u hu k hk)
   ·have:=b4 u hu k hk;omega
  rcases key i v1 hi k C with⟨i0,rfl⟩|⟨i0,i1,i2,i3⟩|⟨i0,i1,i2⟩
  ·rcases key j v2 hj k l with⟨j0,rfl⟩|⟨j0,j1,j2,j3⟩|⟨j0,j1,j2⟩
   ·omega
   ·exact n4 v2 j3 l C
   ·exact n0 v2 j2 l C
  ·rcases key j v2 hj k l with⟨j0,rfl⟩|⟨j0,j1,j2,j3⟩|⟨j0,j1,j2⟩
   ·exact n4 v1 i3 C l
   ·exact n1 i j v1 v2 l3 i2 j2 k C l
   ·exact e6 v1 (by simp[i3]) k C (c5 v2 j2 k l)
  ·rcases key j v2 hj k l with⟨j0,rfl⟩|⟨j0,j1,j2,j3⟩|⟨j0,j1,j2⟩
   ·exact n0 v1 i2 C l
   ·exact e6 v2 (by simp[j3]) k l (c5 v1 i2 k C)
   ·exact d.ap _ _ v1 v2 O' i1 j1 k C l
 have p5:Cx A.w0 A.W0 A.S0 w1 (inX v' S):=by
  have cx:=h.cx;refine⟨⟨hg.os.trans cx.bel.os,hg.tape.trans cx.bel.tape,hg.output.trans cx.bel.output,le_trans cx.bel.size hg.size,fun k hk hn=>(c8 k (by have:=cx.size;omega) (fun e=>?_)).trans (cx.bel.block k hk hn)⟩,fun b hb=>.inr (cx.sub b hb),fun b hb=>?_,cx.lt0⟩
  ·obtain⟨j,_,_,C,l⟩:=c4 I Z' k e;rcases(h.ow j C k l).2.2 with h2|h2
   ·exact hn h2
   ·omega
  ·rcases hb with hb|hb
   ·exact l2 b hb
   ·exact Nat.lt_of_lt_of_le (cx.lt b hb) hg.size
 have hG:∃G:List Nat,(d0c s g).at J .gone=Z0 s G/\J∈G/\∀j,g=some j->j∈G:=by
  cases g with
  |none=>exact⟨[J],rfl,Z',fun j hj=>by cases hj⟩
  |some j=>exact⟨[j,J],rfl,Z',fun j' hj=>by cases hj;simp⟩
 obtain⟨G,p3,p7,k6⟩:=hG;rw[p3]at hk;have o1:=h.take (x:=.X0 e F U (xs++b2) none) (v:=.tuple (v' :: (cs++ds)).toArray) (G:=G) p5 y (fun k hk=>.inr hk) (fun k hk hn=>c8 k hk fun e=>by
   obtain⟨j,q0,_,C,l⟩:=c4 I Z' k e;exact hn j (k6 j q0) C l) (fun k hk _=>by
   rcases d0T.1 hk with hk|⟨u,hu,hk⟩
   ·have hk:B1 v'=some k:=hk;refine⟨.inl hk,?_⟩;rcases k2 k hk with h9|h9
    ·obtain⟨j,q0,_,C,l⟩:=c4 I Z' k h9;exact .inl ⟨j,k6 j q0,C,l⟩
    ·exact .inr O'
   ·have hu:u∈cs++ds:=hu;rcases mem_append.1 hu with hu|hu
    ·obtain⟨j,q0,_,C,l⟩:=c4 u (by simp[hu]) k hk;exact⟨.inr (h.ow j C k l).1,.inl ⟨j,k6 j q0,C,l⟩⟩
    ·exact⟨.inr (h.ow J e4 k (c5 u hu k hk)).1,.inl ⟨J,p7,e4,c5 u hu k hk⟩⟩) ⟨_,v7.of b1 c0 e7 l1⟩ (by intros;simp)
 refine⟨_,_,v',w1,hk,⟨⟨_,_,o1,?_,y⟩,(Ext.Z0 s G).trans (Ext.new _ _),(a0q G s).2.1,fun e9=>?_⟩,by rw[n3];exact h7⟩
 ·refine VS.of rfl ?_;unfold VC;rw[W4];refine⟨?_,by show v'.oneCell'=true;rw[e3];rfl,rfl⟩;show s.nid<(Z0 s G).nid+1;rw[(a0q G s).1];omega
 grind [F0V]
theorem A06 {α:Type}{T:Ty α}{t ty e:TypeId}{bytes:Nat}{z:Value}{xs ys:List α}{A B:Option Addr}{c d:Nat}(P:Program)(ht:P.underlying t=some (.slice e))(hE:(P.info? e).map (fun i=>(i.zero,i.size,i.bytes))=some (some z,T.sz,bytes))(m:(decide (z.cells.size=T.sz)&&decide (0<T.sz)&&decide (0<bytes))=true)
  (r:Sl T w.heap S B d xs) (hd:d<=xs.length) (b3:Q4 T w.heap S A ys) (q:K0 bytes xs ys=true) (c8:∀b,S b->b<w.heap.size):
  ∃w1 A1 c1,(Builtin.append_ #[t,t] ty #[.slice B xs.length d,.slice A ys.length c]).run P w=.ok (.slice A1 (xs++ys).length c1) w1/\Below w.heap.size w w1/\Sl T w1.heap S A1 c1 (xs++ys):=by
 obtain⟨i,hi,b1⟩:=Option.map_eq_some_iff.1 hE;simp only[Prod.mk.injEq]at b1;obtain⟨hz,b5,c0⟩:=b1;simp only[and_eq_true,decide_eq_true_eq]at m;simp only[K0,decide_eq_true_eq]at q;have c4:=r.1;have e4:d=xs.length:=O'
 have R:xs.length+ys.length<=maxLen:=by
  have:xs.length+ys.length<=(xs.length+ys.length)*bytes:=Nat.le_mul_of_pos_right _ m.2
  grind [maxLen]
 rcases Nat.eq_zero_or_pos ys.length with h0|hpos
 ·have h0:ys=[]:=eq_nil_of_length_eq_zero h0;subst h0;refine⟨w,B,d,?_,Below.refl _ w,by simp_all⟩;rw[List.append_nil];cases A<;>cases B<;>simp[Builtin.append_,run_underlying ht,sizeOf,typeInfo,hi,Builtin.lenOf,Builtin.firstCells,loadCells,loadCellsFrom,c4,storeCells]
 ·obtain⟨b,off,_,hA,_⟩:=b3 0 ys[0] Z';subst hA;have rd:∀{A:Option Addr} {xs:List α},Q4 T w.heap S A xs->∃news,R1 T w.heap S news xs/\∀b o,A=some ⟨b,o,none⟩->∀j u,news[j]?=some u->O1 w.heap b (o+0*T.sz+j)=some u:=fun hr=>Q4.news (w:=w) (k:=0) (fun i x hx=>by
   obtain⟨b,o,cs,h1,h2,n⟩:=hr i x hx
   grind)
  obtain⟨news,v,C⟩:=rd b3;obtain⟨f,J,I⟩:=rd r.O8;have p:∀j u,news[j]?=some u->w.cell? ((⟨b,off,none⟩:Addr).add j)=some u:=by
   intro j u hj;rw[k7];have:=C b off rfl j u hj;simpa using this
  have key:∃v' w1,(Builtin.append_ #[t,t] ty #[.slice B xs.length d,.slice (some ⟨b,off,none⟩) ys.length c]).run P w=.ok v' w1/\w1.ownsRow w.heap.size e T.sz v' (xs.length+ys.length) (f++news)/\Below w.heap.size w w1:=by
   cases B with
   |none=>
    have c5:xs=[]:=by
     cases xs with
     |nil=>rfl
     |cons y ys=>obtain⟨b,o,cs,h,_⟩:=r.O8 0 y Z';cases h
    subst c5;have e3:d=0:=e4;subst e3;have e1:f=[]:=eq_nil_of_length_eq_zero (by have:=J.1;simpa using this);subst e1;obtain⟨v',w',l,h2,n,_,_⟩:=run_append_own_at (P:=P) w w.heap.size t ty e i z T.sz bytes ht hi hz b5 c0 m.1.1 m.1.2 (.slice none 0 0) 0 [] ⟨Z',.inl ⟨rfl,rfl⟩⟩ ⟨b,off,none⟩ ys.length c news v.1 p v.e0w (by simpa using R) (by simpa using q) (le_refl _);exact⟨v',w',l,by simpa using h2,n.os,n.tape,n.output,n.size,fun k hk=>n.block k hk (by simp[Value.ownBlock])⟩
   |some ad=>
    obtain⟨v',w',l,h2,n⟩:=run_append_arg_grows (P:=P) w t ty e i z T.sz bytes ht hi hz b5 c0 m.1.1 m.1.2 ad xs.length d f J.1 (fun j u hj=>by
     have e7:j<f.length:=by
      rcases lt_or_ge j f.length with h|h
      ·exact h
      ·rw[List.getElem?_eq_none h]at hj;cases hj
     have e5:xs≠[]:=by rintro rfl;have:=J.1;simp only[List.length_nil,Nat.zero_mul]at this;omega
     obtain⟨b2,o2,a1,_⟩:=r.2.1 e5;have a1:=Option.some.inj a1;subst a1;rw[k7];have:=I b2 o2 rfl j u hj;simpa using this) ⟨b,off,none⟩ ys.length c news v.1 p O' R q
    exact⟨v',w',l,h2,n.os,n.tape,n.output,n.size,fun k hk=>n.block k hk Z'⟩
  obtain⟨v',w1,l,b4,hb⟩:=key;have hk:P0 w.heap S w1.heap S:=P0.ext S hb;obtain⟨hl,hv|⟨g,cap,cur,hv,c6,hg,e2,hm,e6,U⟩⟩:=b4
  ·exact absurd hv.2 O'
  ·have c3:Ow T e (fun k=>w.heap.size<=k) w1.heap (fun k=>k=g\/S k) (.slice (some ⟨g,0,none⟩) (xs++ys).length cap) (xs++ys):=by
    refine⟨fun k hk=>?_,f++news,⟨by simpa using hl,.inr ⟨g,cap,cur,rfl,hg,by simpa using e2,hm,e6,by simpa using U⟩⟩,?_⟩
    ·simp[Value.ownBlock]at hk;subst hk;exact⟨.inl rfl,c6⟩
    ·have k2:P0 w.heap S w1.heap (fun k=>k=g\/S k):=⟨hk.size,fun b hb hn=>⟨fun hi=>hi.elim (fun e=>O') hn,(hk.blk b hb hn).2⟩⟩
     exact(J.L0 k2).append (v.L0 k2)
   refine⟨w1,some ⟨g,0,none⟩,cap,by rw[l,hv];simp,hb,c3.freeze (fun _ h=>.inr h) (fun b hb hs=>?_)⟩;simp[Value.ownBlock]at hb;subst hb;have:=c8 _ hs;omega
def E06 (hE:T1 E)(h:Rp E A s ρ S a as w){R:Type}{k:K E R}{r:R}{T:Nat}{x y:V E.D}{ux uy:Value}(hx:VS E ρ s.nid w.heap S x ux)(hy:VS E ρ s.nid w.heap S y uy)(ty:Nat)(hk:q0L E s T x y k=some r):
  ∃s1 v u w1,k s1 v=some r/\K5 E A s ρ S a as w s1 v u w1/\(Builtin.append_ #[T,T] ty #[ux,uy]).run E.P w=.ok u w1:=by
 unfold q0L at hk;split at hk
 ·rename_i m p g;have J:x=.df m p:=by
   cases x<;>simp only[k0J]at g<;>try cases g
   rfl
  subst J;unfold w0Q at hk;split at hk<;>try cases hk
  rename_i e he;split at hk<;>try cases hk
  rename_i t z sz bytes ht q;split at hk<;>try cases hk
  rename_i ys xs n d hc;split at hk<;>try cases hk
  rename_i j;obtain⟨ec,hc⟩:=a0u hc;subst ec;subst hc;obtain⟨rfl,h1,h2,h3⟩:=d0p n;obtain⟨i,hi,b2,a1,b1⟩:=d0U q;have hT:=d0V he;obtain⟨A',c,rfl,I⟩:=h0y h hy d;obtain⟨c0,f,rfl⟩:=hx;unfold VC at f;obtain⟨B,rfl,o⟩:=f;have U:(E.P.info? e).map (fun i=>(i.zero,i.size,i.bytes))=some (some z,(J0 E m).sz,bytes):=by simp_all
  have C:(decide (z.cells.size=(J0 E m).sz)&&decide (0<(J0 E m).sz)&&decide (0<bytes))=true:=by simp_all
  obtain⟨w1,A1,c1,b,hb,l⟩:=A06 (c:=c) (ty:=ty) E.P hT U C o (le_refl _) I j h.cx.lt;refine⟨_,_,_,w1,hk,⟨⟨ρ,S,h.ext hb,VS.of rfl (by unfold VC;exact⟨A1,c1,rfl,l⟩),P0.ext S hb⟩,Ext.refl s,rfl,fun k hk _=>hb.block k hk⟩,b⟩
 ·exact s0w hE h hx hy ty hk
theorem G0i (g:T1 E)(h:Rp E A s ρ S a as w){R:Type}{k:K E R}{r:R}{T:Nat}{x y:V E.D}{t o:Value}(l:VS E ρ s.nid w.heap S x t)(m:VS E ρ s.nid w.heap S y o)(ty:Nat)(hk:o04 E s T x y k=some r):
  ∃s1 v u w1,k s1 v=some r/\K5 E A s ρ S a as w s1 v u w1/\(Builtin.append_ #[T,T] ty #[t,o]).run E.P w=.ok u w1:=by
 unfold o04 at hk;split at hk
 ·rename_i r0 j f c;split at hk<;>try cases hk
  rename_i s1 ho;cases x<;>simp only[q09]at c<;>try grind
  split at c<;>try cases c
  rename_i hl;obtain⟨_,rfl⟩:=l.a0m;obtain⟨ρ1,h1,h2,C,i,h5,n,z,I⟩:=y0s g h hl ho;obtain⟨s2,v,u,w1,U,d,q3⟩:=s0w g h1 C (m.mono h2 I (P0.refl _ _)) ty hk;exact⟨s2,v,u,w1,U,⟨d.rp,i.trans d.ext,d.fr.trans h5,fun k hk p=>d.old k hk (fun q J e0 e2 e3=>by
   obtain⟨r',g1,g0,g2,g3⟩:=z;rcases g3 q k J e3 with⟨e,e5⟩|e
   ·exact p q e (n q e e0) (G03 e2 i d.ext) e5
   ·exact p r' g1 g0 (g0S g2 i d.ext) e)⟩,q3⟩
 ·split at hk
  ·rename_i iy b;cases y<;>simp only[v0X]at b<;>try grind
   split at b<;>try cases b
   obtain⟨_,rfl⟩:=m.a0m;exact A00 g h l ty hk
  ·exact E06 g h l m ty hk
def k04:Nat->List (Nat×Value)->Prop
 |_,[]=>True
 |j,p :: r=>p.1=j/\k04 (j+1) r
theorem u0I (z:Nat):∀(l:List (Nat×Value)) (j:Nat) (cells:Array Value) (d1 d2:List Value),cells.toList=d1++d2->d1.length=j*z->d2.length=l.length*z->k04 j l->(∀p∈l,p.2.cells.size=z)->
  ∃c',Instr.fill (fun i=>some (i*z,z)) cells l=some c'/\c'.toList=d1++l.flatMap (fun p=>p.2.cells.toList)
 |[],j,cells,d1,d2,h,_,h2,_,_=>by
  have:d2=[]:=eq_nil_of_length_eq_zero (by simp_all);exact⟨cells,rfl,by simp_all⟩
 |(i,u) :: l,j,cells,d1,d2,h,h1,h2,ho,hs=>by
  have b:i=j:=ho.1;subst b;have ho:k04 (i+1) l:=ho.2;have hu:u.cells.size=z:=hs (i,u) Z';have f:d2=d2.take z++d2.drop z:=(take_append_drop z d2).symm;simp only[List.length_cons,succ_mul]at h2;have c:u.cells.toList.length=z:=O'
  generalize k:u.cells.toList=cl at c;have m:u.cells=cl.toArray:=by grind
  have d:=n0M cl 0 (i*z) cells d1 (d2.take z) (d2.drop z) (by grind) O' (by grind);have e:(u.cells.zipIdx.foldl (fun cs (p:Value×Nat)=>cs.setIfInBounds (i*z+p.2) p.1) cells).toList=(d1++cl)++d2.drop z:=by
   grind
  obtain⟨c',o,g⟩:=u0I z l (i+1) _ (d1++cl) (d2.drop z) e (by grind) (by grind) ho (fun p hp=>hs p (by grind));refine⟨c',?_,by grind⟩;have n:cells.size=d1.length+d2.length:=by have:=congrArg List.length h;grind
  simp only[Instr.fill]
  grind
def u0w (f:Operand->Value):∀(l:List (Nat×Operand)) (j:Nat),l0h j l=true->k04 j (l.map fun p=>(p.1,f p.2))
 |[],_,_=>trivial
 |(i,x) :: l,j,h=>by
  simp only[l0h,and_eq_true,beq_eq]at h;exact⟨h.1,u0w f l (j+1) h.2⟩
theorem r0N (i:T1 E){s1:St E.D}{n:Nat}{H:I0}{S1:D0}(k:∀id,K3 E ρ n H S1 (F0 s1 id) (ρ id)){t:U}(f:Operand->V E.D)(g:Operand->Value)(m:∀x,∀c,VC E ρ n H S (f x) c->VC E ρ n H S1 (f x) c)(hg:∀x,VS E ρ n H S (f x) (g x)):
  ∀(l:List (Nat×Operand)) (xs:List (Den E.D t)),(l.all fun p=>c0O (f p.2))=true->i0K E s1 t (l.map fun p=>f p.2)=some xs->xs.length=l.length/\R1 (J0 E t) H S1 ((l.map fun p=>(p.1,g p.2)).flatMap (fun p=>p.2.cells.toList)) xs/\∀p∈(l.map fun p=>(p.1,g p.2)),∀u∈p.2.cells.toList,u.oneCell'=true
 |[],xs,_,h=>by
  simp[i0K]at h;subst h;exact⟨rfl,R1.nil,fun p hp=>by grind⟩
 |p :: l,xs,hs,h=>by
  simp only[map_cons,i0K]at h;split at h<;>try cases h
  rename_i x j r b;simp only[List.all_cons,and_eq_true]at hs;obtain⟨h1,v,z⟩:=r0N i k f g m hg l j hs.2 b;obtain⟨c,C,d,o,e⟩:=(hg p.2).cells i hs.1;have hR:=g0J i k r (m _ _ e);refine⟨by grind,?_,fun q y u hu=>?_⟩
  ·rw[map_cons,List.flatMap_cons];have:(g p.2).cells.toList=c:=by rw[d]
   simp only[this];exact(R1.one hR).append v
  grind
theorem C0k (hE:T1 E)(h:Rp E A s ρ S a as w){R:Type}{k:K E R}{r:R}{T n:Nat}{parts:Array (Nat×Operand)}(hk:bsV E s T n parts.toList k=some r):
  ∃s1 v u w1,k s1 v=some r/\K5 E A s ρ S a as w s1 v u w1/\(Instr.buildSlice T n (parts.map fun p=>(p.1,a.eval p.2))).run E.P w=.ok u w1:=by
 unfold bsV at hk;split at hk<;>try cases hk
 rename_i e he;split at hk<;>try cases hk
 rename_i t z sz bytes ht c4;split at hk<;>try cases hk
 rename_i s1 m b4;split at hk<;>try cases hk
 rename_i xs b5;simp only[and_eq_true,beq_eq,Nat.ble_eq,all_eq_true]at m;obtain⟨⟨⟨⟨⟨b1,hn⟩,J⟩,c6⟩,o⟩,d⟩:=m;obtain⟨rfl,h1,h2,h3⟩:=d0p b1;obtain⟨i,hi,e7,c3,e6⟩:=d0U c4;have hT:=d0V he;obtain⟨S1,y,j,l,e1,U⟩:=a0g hE _ s _ s1 b4 S h;have I:=j.th;rw[U]at I;obtain⟨hl,b,e3⟩:=r0N hE I (N1 E s) a.eval (fun x c hc=>hc.d0h y) h.val parts.toList xs (all_eq_true.2 fun p hp=>(d p hp).1) b5;have g:∀p∈parts.toList.map (fun p=>(p.1,a.eval p.2)),p.2.cells.size=(J0 E t).sz:=by
  intro p hp;obtain⟨q,hq,rfl⟩:=List.mem_map.1 hp;obtain⟨c,hc,e4,_,e5⟩:=(h.val q.2).cells hE (d q hq).1
  grind [i01]
 have hm:n*i.size=n*(J0 E t).sz:=by rw[c3]
 obtain⟨c',hf,f⟩:=u0I (J0 E t).sz (parts.toList.map fun p=>(p.1,a.eval p.2)) 0 ((Array.range (n*i.size)).map (z.cells[· % z.cells.size]!)) [] _ rfl Z' (by
  simp_all) (u0w a.eval _ 0 J) g
 simp only[nil_append]at f;have C:(Instr.buildSlice T n (parts.map fun p=>(p.1,a.eval p.2))).run E.P w=.ok (.slice (some ⟨w.heap.size,0,none⟩) n n) (w.alloc (.cells c' e)):=by
  have e2:¬n*i.size>2 ^ 24:=by
   have:n*(J0 E t).sz<=10000*1000:=Nat.mul_le_mul c6 o;omega
  by_cases h0:n*i.size=0
  ·have a1:n=0:=by
    grind [Nat.mul_eq_zero]
   subst a1;have c0:parts=#[]:=by
    grind
   subst c0;have b2:c'=#[]:=by
    grind
   subst b2;have e0:Array.range 0=#[]:=rfl;simp[Instr.buildSlice,run_underlying hT,sizeOf,typeInfo,hi,newRow,Instr.fill,e0]
  simp_all[run_buildSlice]
 have hB:=Below.new w (.cells c' e);have c8:c'.toList.length=n*(J0 E t).sz:=by rw[f,b.1,hl,hn]
 have res:=j.j0k (e:=e) (t:=t) (xs:=xs) (v:=.slice (some ⟨w.heap.size,0,none⟩) n n) hB (fun k hk=>by obtain⟨_,rfl⟩:=d0S hk;simp) rfl (fun S2 c5 _=>by
  have b3:xs.length=n:=O'
  refine⟨c'.toList,Row.ofV ⟨by simp_all,.inr ⟨w.heap.size,n,c',by rw[b3],heap_alloc_new w _,O',by grind [maxLen],O',?_⟩⟩,?_⟩
  ·grind
  ·rw[f];exact b.L0 c5)
 obtain⟨⟨ρ1,S2,r1,r2,r3⟩,r4,r5,r6⟩:=res;exact⟨_,_,_,_,hk,⟨⟨ρ1,S2,r1,r2,(P0.less y).trans r3⟩,l.trans r4,r5.trans e1,fun k hk _=>hB.block k hk⟩,C⟩
theorem u0N:∀(l:List U) (h:HL E.D l) (R0:List Value) {H:I0} {S:D0},b0B l=true->(a0S E l).R H S R0 h->∀f u (y:List (Den E.D u)),I5 l h f=some ⟨.list u,y⟩->∃A' c,R0[f]?=some (.slice A' y.length c)
 |[],_,_,_,_,_,_,f,_,_,hg=>by grind [I5]
 |t :: l,h,R0,H,S,hb,hr,f,u,y,hg=>by
  simp only[b0B,and_eq_true]at hb;obtain⟨d,b⟩:=hb;cases t<;>simp only[i0f,Bool.false_eq_true]at d
  rename_i k;obtain⟨c1,c2,rfl,⟨A',c,h1,_⟩,e⟩:=hr;subst h1;cases f with
  |zero=>
   cases hg;simp
  |succ f=>
   obtain⟨i,g,j⟩:=u0N l h.2 c2 b e f u y hg
   simp_all
theorem E0b (g:T1 E){H:I0}{S:D0}{t:U}{F:List Nat}{x:Den E.D t}{R0:List Value}(ho:C9 E t F=true)(d:(J0 E t).R H S R0 x){f:Nat}{u:U}{ys:List (Den E.D u)}(b:V2 E t x f=some ⟨u,ys⟩):∃A' c,R0[f]?=some (.slice A' ys.length c):=by
 simp only[C9,and_eq_true,beq_eq]at ho;obtain⟨⟨_,_⟩,hk⟩:=ho;cases t with
 |list u0=>
  obtain⟨A',c,h1,_⟩:=d;subst h1;cases f with
  |zero=>
   cases b;simp
  |succ f=>exact absurd (show none=some _ from b) Z'
 |st k=>
  have b:c0N (I5 (E.fs k) (E.un k x) f)=some ⟨u,ys⟩:=b;cases hg:I5 (E.fs k) (E.un k x) f with
  |none=>rw[hg]at b;cases b
  |some p=>
   obtain⟨e,y⟩:=p;rw[hg]at b;cases e with
   |list u1=>
    cases b;exact u0N _ _ _ hk ((g.st k H S R0 x).1 d) f _ _ hg
   |_=>exact absurd (show none=some _ from b) Z'
 |_=>grind
theorem M7.F0q (q:T1 E){H:I0}{S:D0}{t:U}{F:List Nat}{z:List Value}{x:Den E.D t}(ho:C9 E t F=true)(j:(J0 E t).R H S z x)(hn:∀v∈z,v=z7)(m:Nat):M7 E H S F t (List.replicate m x) (List.replicate m z).flatten:=by
 have b:=l0r j m;have e:=(d0C ho).1;have d:∀v∈(List.replicate m z).flatten,v=z7:=by
  grind [List.mem_flatten]
 refine⟨by rw[<-e];exact b.1,fun i x' f u ys e' h1 l n=>?_,fun v p=>by rw[d v p];rfl⟩;have k:f<F.length:=(List.getElem?_eq_some_iff.1 n).1;obtain⟨A',c,g⟩:=E0b q ho (b.2 i x' h1) l;rw[e,List.getElem?_take_of_lt k,List.getElem?_drop]at g;have h:=d _ (mem_of_getElem? g);unfold z7 at h;simp only[Value.slice.injEq]at h;have o:ys=[]:=eq_nil_of_length_eq_zero h.2.1;subst o;refine⟨_,g,[],⟨Z',.inl ⟨rfl,none,?_⟩⟩,R1.nil⟩
 simp_all
theorem y0v {D:Nat->Type}{v:V D}(h:isNil v=true):v=.nil:=by
 grind [isNil]
def t0J {n:Nat}{H:I0}:∀{l:List (V E.D)} {c:List Value},T0 E ρ n H S l c->l.all isNil=true->∀v∈c,v=z7
 |[],c,h,_,v,b=>by simp_all[T0]
 |x :: l,c,h,hl,v,b=>by
  obtain⟨c1,c2,rfl,h1,d⟩:=h;rw[List.all_cons,and_eq_true]at hl;obtain rfl:=y0v hl.1;subst h1;rcases mem_append.1 b with b|b
  ·simp_all[z7]
  ·exact t0J d hl.2 v b
theorem F06 (hE:T1 E)(h:Rp E A s ρ S a as w){R:Type}{k:K E R}{r:R}{T:Nat}{n m:Operand}(hk:n0d E s T n m k=some r):
  ∃s1 v u w1,k s1 v=some r/\K5 E A s ρ S a as w s1 v u w1/\(Instr.makeSlice T (a.eval n) (a.eval m)).run E.P w=.ok u w1:=by
 unfold n0d at hk;split at hk<;>try cases hk
 rename_i e k0 x he hx hop;have U:n=m:=by
  unfold j0Y at hop;split at hop
  ·simp_all
  ·simp_all
  simp_all
 subst U;split at hk<;>try cases hk
 rename_i t z sz bytes F ht b2 hF;split at hk<;>try cases hk
 rename_i zx c hz;simp only[and_eq_true]at c;obtain⟨⟨c,f⟩,C⟩:=c;obtain⟨rfl,h1,h2,h3⟩:=d0p c;obtain⟨i,hi,c3,b1,e1⟩:=d0U b2;split at hk<;>try cases hk
 rename_i o;have hT:=d0V he;have c0:=E9 hx (h.val n);rw[c0];simp only[R2,and_eq_true,decide_eq_true_eq]at o;obtain⟨q,rfl⟩:=Int.eq_ofNat_of_zero_le o.1;have c4:q<=q*bytes:=Nat.le_mul_of_pos_right _ h3;obtain⟨w1,y,d,hg⟩:=run_make_full (P:=E.P) w w.heap.size T e i z (J0 E t).sz hT hi c3 b1 k0 k0 q (by grind) (by grind [maxLen]) (le_refl _);have hB:Below w.heap.size w w1:=⟨hg.os,hg.tape,hg.output,hg.size,fun k hk=>hg.block k hk Z'⟩
 have hm:=n0t z.cells q;rw[h1]at hm;have d:=Row.of d;have J:∀S1,(J0 E t).R w1.heap S1 z.cells.toList zx:=by
  intro S1;refine g0J (ρ:=ρ) (n:=0) hE (fun id=>?_) hz (t0r z)
  trivial
 have b3:∀v∈z.cells.toList,v=z7:=t0J (ρ:=ρ) (S:=S) (n:=0) (H:=w.heap) (l0f z) C;have p:∀S1,M7 E w1.heap S1 F t (List.replicate q zx) (List.replicate q z.cells.toList).flatten:=fun S1=>M7.F0q hE f (J S1) b3 q;have b:Row w1.heap e (J0 E t).sz (.slice (some ⟨w.heap.size,0,none⟩) q q) (List.replicate q zx).length (List.replicate q z.cells.toList).flatten:=by simp_all
 have l:∀v∈(List.replicate q z.cells.toList).flatten,v=z7:=by
  grind [List.mem_flatten]
 have a1:d07 (.slice (some ⟨w.heap.size,0,none⟩) q q :: (List.replicate q z.cells.toList).flatten):=by
  intro i j v v' c8 hi hj k hk c5;have key:∀(i:Nat) (v:Value),(Value.slice (some ⟨w.heap.size,0,none⟩) q q :: (List.replicate q z.cells.toList).flatten)[i]?=some v->B1 v=some k->i=0:=by
   intro i v hi hk;cases i with
   |zero=>rfl
   |succ i=>
    rw[l v (mem_of_getElem? hi)]at hk;cases hk
  grind
 obtain⟨S1,b5,b4⟩:=h.new (x:=.X0 e F t (List.replicate q zx) none) (v:=.tuple (.slice (some ⟨w.heap.size,0,none⟩) q q :: (List.replicate q z.cells.toList).flatten).toArray) (w1:=w1) hB (fun k hk=>by
   rcases d0T.1 hk with hk|⟨u,hu,hk⟩
   ·have hk:B1 (.slice (some ⟨w.heap.size,0,none⟩) q q)=some k:=hk;obtain⟨c6,rfl⟩:=d0S hk;refine⟨le_refl _,?_⟩;rcases b.2 with⟨_,a,I⟩|⟨g,cap,cur,I,_,hgg,_⟩
    ·simp at I;omega
    ·simp at I;obtain⟨rfl,_⟩:=I;exact getElem?_lt hgg
   ·rw[l u hu]at hk;cases hk) (fun S1 _ _ _=>⟨_,v7.of b f (p S1) a1⟩)
 refine⟨_,_,_,w1,hk,⟨⟨_,S1,b4,?_,b5⟩,Ext.new s _,rfl,fun k hk _=>hB.block k hk⟩,y⟩;exact VS.of rfl (by unfold VC;rw[W4];exact⟨lt_succ_self _,rfl,rfl⟩)
theorem y0e (h:Rp E A s ρ S a as w){R:Type}{k:K E R}{r:R}{T n:Nat}{parts:Array (Nat×Operand)}(hk:bsT E s T n parts.toList k=some r):
  ∃s1 v u w1,k s1 v=some r/\K5 E A s ρ S a as w s1 v u w1/\(Instr.buildSlice T n (parts.map fun p=>(p.1,a.eval p.2))).run E.P w=.ok u w1:=by
 unfold bsT at hk;split at hk<;>try cases hk
 rename_i e x he d;have d:parts=#[(0,x)]:=by grind
 subst d;split at hk<;>try cases hk
 rename_i u z sz bytes e' ht e3 hF;split at hk<;>try cases hk
 rename_i g ys l c8;rw[and_eq_true]at l;obtain⟨l,b3⟩:=l;obtain⟨rfl,h1,h2,h3⟩:=d0p l;obtain⟨i,hi,e5,e1,e9⟩:=d0U e3;have hT:=d0V he;obtain⟨b2,b1,hg⟩:=r0D h (h.val x) c8;have I:(J0 E (.list u)).sz=1:=rfl;have J:(Instr.buildSlice T 1 (#[(0,x)].map fun p=>(p.1,a.eval p.2))).run E.P w=.ok (.slice (some ⟨w.heap.size,0,none⟩) 1 1) (w.alloc (.cells #[a.eval x] e)):=by
  have:=run_buildSlice w T e 1 (#[(0,x)].map fun p=>(p.1,a.eval p.2)) #[a.eval x] i z hT hi e5 O' O' (by
   rw[e1,I];simp[Instr.fill,cells_one b1,Array.range];rfl)
  omega
 have t:=Below.new w (.cells #[a.eval x] e);have c:P0 w.heap S (w.alloc (.cells #[a.eval x] e)).heap (fun k=>k=w.heap.size\/S k):=⟨t.size,fun b hb hn=>⟨fun hh=>hh.elim O' hn,t.block b hb⟩⟩
 have c4:=(h.cx.ext t).more (S1:=fun k=>k=w.heap.size\/S k) (fun _ h=>.inr h) (fun b hb=>hb.elim (fun e=>by simp_all) ((h.cx.ext t).lt b));have hblk:∀o,B1 (a.eval x)=some o->∃j,g=some j/\j<s.nid/\Q1 (F0 s j)=true/\Bk (ρ j) o:=by
  intro o m;cases g with
  |none=>
   have hg:a.eval x=z7:=hg;rw[hg]at m;cases m
  |some j=>
   obtain⟨e6,u9,y9,b4⟩:=hg;exact⟨j,rfl,h.i7 (by simp_all),by rw[b4];rfl,Bk.hd (by simp_all[e04])⟩
 have q:∀o,B1 (a.eval x)=some o->o<w.heap.size:=fun o m=>by
  obtain⟨_,b5,_⟩:=b2;exact Row.live b5 o m
 have hG:∃G:List Nat,d0c s g=Z0 s G/\∀j,g=some j->j∈G:=by
  cases g with
  |none=>exact⟨[],rfl,fun j hj=>by cases hj⟩
  |some j=>exact⟨[j],rfl,fun j' hj=>by simp_all⟩
 obtain⟨G,e4,c5⟩:=hG;rw[e4]at hk;have a1:Row (w.alloc (.cells #[a.eval x] e)).heap e (J0 E (.list u)).sz (.slice (some ⟨w.heap.size,0,none⟩) 1 1) [ys].length [a.eval x]:=⟨rfl,.inr ⟨w.heap.size,1,#[a.eval x],rfl,Z',heap_alloc_new w _,Z',by simp[maxLen],rfl,rfl⟩⟩
 have C:M7 E (w.alloc (.cells #[a.eval x] e)).heap (fun k=>k=w.heap.size\/S k) [e'] (.list u) [ys] [a.eval x]:=by
  refine⟨rfl,fun i y f u' c6 e2 g1 g2 g3=>?_,by simp_all⟩;cases i with
  |succ i=>cases g1
  |zero=>
   obtain rfl:ys=y:=Option.some.inj g1;cases f with
   |succ f=>cases g3
   |zero=>
    obtain rfl:e'=e2:=Option.some.inj g3;have g2:(⟨u,ys⟩:(u:U)×List (Den E.D u))=⟨u',c6⟩:=Option.some.inj g2;cases g2;exact⟨a.eval x,rfl,b2.mono c fun b hb=>t.block b (q b hb)⟩
 have c3:d07 (.slice (some ⟨w.heap.size,0,none⟩) 1 1 :: [a.eval x]):=by
  intro i j v v' e7 hi hj k q1 q2;have key:∀(i:Nat) (v:Value),(Value.slice (some ⟨w.heap.size,0,none⟩) 1 1 :: [a.eval x])[i]?=some v->B1 v=some k->(i=0/\k=w.heap.size)\/(i=1/\k<w.heap.size):=by
   intro i v hi hk;cases i with
   |zero=>simp at hi;subst hi;cases hk;simp
   |succ i=>
    grind
  grind
 have c0:=h.take (x:=.X0 e [e'] (.list u) [ys] none) (v:=.tuple (.slice (some ⟨w.heap.size,0,none⟩) 1 1 :: [a.eval x]).toArray) (G:=G) c4 c (fun k hk=>.inr hk) (fun k hk _=>t.block k hk) (fun k hk _=>by
   rcases d0T.1 hk with hk|⟨u',hu,hk⟩
   ·have hk:B1 (.slice (some ⟨w.heap.size,0,none⟩) 1 1)=some k:=hk;cases hk;simp
   ·have hu:u'∈[a.eval x]:=hu;simp at hu;subst hu;obtain⟨j,q0,_,q1,q2⟩:=hblk k hk;exact⟨.inr (h.ow j q1 k q2).1,.inl ⟨j,c5 j q0,q1,q2⟩⟩) ⟨_,v7.of a1 b3 C c3⟩ Z'
 refine⟨_,_,_,_,hk,⟨⟨_,_,c0,?_,c⟩,(Ext.Z0 s G).trans (Ext.new _ _),(a0q G s).2.1,fun k hk _=>t.block k hk⟩,J⟩;refine VS.of rfl ?_;unfold VC;rw[W4];refine⟨?_,rfl,rfl⟩;show s.nid<(Z0 s G).nid+1;simp[a0q]
theorem Rp.x0j (h:Rp E A s ρ S a as w){w1:World}{id:Nat}{x:Th E.D}(ho:Q1 (F0 s id)=true)(I:Q1 x=false)(cx:Cx A.w0 A.W0 A.S0 w1 S)(l:∀k,k<w.heap.size->¬Bk (ρ id) k->w1.heap[k]?=w.heap[k]?)(v:w.heap.size<=w1.heap.size)
  (U:K3 E ρ s.nid w1.heap (fun k=>S k/\¬Bk (ρ id) k) x (ρ id)) (a1:∀q i f,x≠.rof q i f:=by intros;simp):
  Rp E A (s.at id x) ρ (fun k=>S k/\¬Bk (ρ id) k) a as w1/\P0 w.heap S w1.heap (fun k=>S k/\¬Bk (ρ id) k):=by
 have R:id<s.nid:=h.i7 (by rintro e;rw[e]at ho;cases ho);have hk:P0 w.heap S w1.heap (fun k=>S k/\¬Bk (ρ id) k):=⟨v,fun b u hn=>⟨fun h=>hn h.1,l b u (fun e=>hn (h.ow id ho b e).1)⟩⟩
 have hl:∀j,F0 { s with th:=(id,x) :: s.th,nid:=s.nid } j=if id=j then x else F0 s j:=fun j=>T8 s id j x;have c:∀j,j≠id->j<s.nid->b0V s { s with th:=(id,x) :: s.th,nid:=s.nid } ρ ρ (fun k=>S k/\¬Bk (ρ id) k) w w1 j:=fun j J m=>
  ⟨by grind,m,rfl,fun g k d=>⟨l k ((h.th j).live g k d) (fun z=>h.dj id j (Ne.symm J) ho g k z d),(h.ow j g k d).1,fun z=>h.dj id j (Ne.symm J) ho g k z d⟩⟩
 refine⟨h.step (nid1:=s.nid) (th1:=(id,x) :: s.th) ⟨⟨cx.bel,fun b l=>⟨cx.sub b l,fun e=>(h.ow id ho b e).2.1 l⟩,fun b l=>cx.lt b l.1,cx.lt0⟩,hk,fun _ _=>rfl,le_refl _⟩ (fun j=>?_) fun r q i f C e F t xs p=>?_,hk⟩
 ·by_cases e:id=j
  ·grind
  ·by_cases m:j<s.nid
   ·grind
   ·rw[hl,if_neg e,h.lt j O'];exact .inr ⟨trivial,(fun ho=>by cases ho),fun _=>rfl⟩
 ·rw[hl]at C;split at C
  ·simp_all
  ·rename_i y;have o:=h.c0a C;rw[hl]at p;split at p
   ·rw[p]at I;cases I
   ·rename_i n;exact .inl ⟨c r (Ne.symm y) (h.i7 (by simp_all)),c q (Ne.symm n) o⟩
theorem y0N (h:Rp E A s ρ S a as w){R:Type}{k:K E R}{r:R}{T T':Nat}{x:V E.D}{ux:Value}(hx:VS E ρ s.nid w.heap S x ux)(hk:n0T E s T T' x k=some r):
  ∃s1 v u w1,k s1 v=some r/\K5 E A s ρ S a as w s1 v u w1/\(convert T T' ux).run E.P w=.ok u w1:=by
 unfold n0T at hk;split at hk<;>try cases hk
 rename_i id;split at hk<;>try cases hk
 rename_i e e' xs m hT hl;rw[beq_eq]at m;subst m;split at hk<;>try cases hk
 rename_i he;split at hk<;>try cases hk
 have hl:=j0O hl;obtain⟨o,rfl⟩:=hx.a0m;have U:=h.th id;rw[hl]at U;obtain⟨cs,⟨t,l⟩,n⟩:=U;rcases l with⟨h0,_⟩|⟨b,cap,cur,hfo,hp0,hg,hnc,hm,hcs,htake⟩
 ·simp_all
 ·have c:Q1 (F0 s id)=true:=by rw[hl];rfl
  have g:Bk (ρ id) b:=by rw[hfo];exact e0S hp0
  have a1:∀k,Bk (ρ id) k->k=b:=fun k hk=>by rw[hfo]at hk;exact(d0S hk).2.symm
  obtain⟨hS,b1,hW⟩:=h.ow id c b g;have f:hd (ρ id)=ρ id:=by rw[hfo];rfl
  have z:w.shape? b=some (e',cur.size):=by simp_all[World.shape?]
  have C:(w.freeze ⟨b,cur.size,none⟩ 1).heap[b]?=some (.cells cur e' (cur.size,cur.size+1)):=by
   simp_all[World.freeze,Array.getElem?_modify]
  have d:j5 b w (w.freeze ⟨b,cur.size,none⟩ 1):=by
   unfold World.freeze;rw[if_neg (by decide)];exact⟨rfl,rfl,rfl,Z',fun k _ hk=>by grind⟩
  have p:K3 E ρ s.nid (w.freeze ⟨b,cur.size,none⟩ 1).heap (fun k=>S k/\¬Bk (ρ id) k) (.fz (.int .u8) xs) (ρ id):=by
   obtain⟨A1,c1,h1,h2⟩:=k0f (S:=fun _=>False) ⟨t,.inr ⟨b,cap,cur,hfo,hp0,hg,hnc,hm,hcs,htake⟩⟩ (n.L0 (P0.less fun _ h=>h.elim)) (fun _ _ h=>h);rw[hfo]at h1;simp at h1;obtain⟨rfl,rfl⟩:=h1;refine⟨some ⟨b,0,none⟩,cap,by simp_all,hnc,fun _=>⟨b,0,rfl,getElem?_lt C,fun h=>h.2 g⟩,fun i y hy=>?_⟩;obtain⟨b',o',I,hA,hR,hc⟩:=h2.2.2 i y hy;simp at hA;obtain⟨rfl,rfl⟩:=hA;refine⟨b,0,I,rfl,hR,fun j v hj=>?_⟩
   simp_all[O1]
  obtain⟨q,J⟩:=h.x0j (w1:=w.freeze ⟨b,cur.size,none⟩ 1) (x:=.fz (.int .u8) xs) c rfl (d.cx h.cx hW) (fun k hk hn=>d.block k hk (fun e=>hn (by simp_all))) d.size p;refine⟨_,_,ρ id,_,hk,⟨⟨ρ,_,q,VS.of rfl (by unfold VC;exact⟨o,by rw[f,hfo];rfl,by rw[f]⟩),J⟩,Ext.at s id _,rfl,fun k hk hq=>d.block k hk (fun e=>hq id o c (f0g s) (by rw[e];exact g))⟩,?_⟩;rw[f,hfo];simp[convert,run_underlying hT,run_underlying he,markStringish,z]
theorem C0P {id:Nat}{x:V E.D}{m:List (Int×Int)}(h:m02 E s x=some (id,m)):x=.mp id/\F0 s id=.map m:=by
 unfold m02 at h
 grind
def Rp.y02 (h:Rp E A s ρ S a as w){id:Nat}{m d:List (Int×Int)}(hl:F0 s id=.map m){r:Nat}(c:ρ id=.map (some r)){es:Array MapEntry}{cl:Nat}(hm:H8 es.toList d)(hg:∃f,w.heap[r]?=some f):
  Rp E A (s.at id (.map d)) ρ S a as (b0D w r (.map es cl))/\P0 w.heap S (b0D w r (.map es cl)).heap S:=by
 have b:Q1 (F0 s id)=true:=by rw[hl];rfl
 obtain⟨f,hg⟩:=hg;obtain⟨g,j,i⟩:=h.ow id b r (by rw[c];rfl);have ho:=q0d w r (.map es cl);have kp:=ho.L0 g;refine⟨h.turn (x:=.map d) (v:=ρ id) (h.i7 (by simp_all)) b (ho.cx h.cx i) kp (fun _ h=>h) (fun k hk hn=>ho.block k hk (fun e=>hn (by rw[c,e];rfl))) rfl (fun k hk=>(h.ow id b k hk).1) ⟨r,es,cl,c,u0p hg,hm⟩,kp⟩
def z04 (h:Rp E A s ρ S a as w){R:Type}{k:K E R}{r:R}{T:Nat}{x i y:V E.D}{I J z:Value}(U:VS E ρ s.nid w.heap S x I)(hi:VS E ρ s.nid w.heap S i J)(hy:VS E ρ s.nid w.heap S y z)(hk:p0k E s T x i y k=some r):
  ∃s1 v w1,k s1 v=some r/\K5 E A s ρ S a as w s1 v Go.undef w1/\(Instr.mapUpdate T I J z).run E.P w=.ok () w1:=by
 unfold p0k at hk;split at hk<;>try cases hk
 rename_i id m p q hm hp j hT;obtain⟨rfl,hl⟩:=C0P hm;obtain rfl:=q0K hp hi;obtain rfl:=q0K j hy;obtain⟨u,rfl⟩:=U.l0w;obtain⟨kt,et,h1,h2,h3⟩:=v0s hT;have C:=h.th id;rw[hl]at C;obtain⟨b,es,cl,c,hg,l⟩:=C;obtain⟨n,g,d,f⟩:=B06 (P:=E.P) (k:=p) (v:=q) h1 h2 hg l;obtain⟨o,t⟩:=h.y02 (cl:=g) hl c f ⟨_,hg⟩;refine⟨_,_,_,hk,⟨⟨ρ,S,o,VS.unit,t⟩,Ext.at s id _,rfl,fun k hk j=>(q0d w _ (.map n g)).block k hk (fun e=>j id u (by rw[hl];rfl) (f0g s) (by rw[c,e];rfl))⟩,?_⟩;rw[c];exact d
theorem B0s (h:Rp E A s ρ S a as w){T:Nat}:
  K5 E A s ρ S a as w (s.new (.map [])) (.mp s.nid) (.map (some w.heap.size)) { w with heap:=w.heap.push (.map #[] 0) }/\(Instr.makeMap T none).run E.P w=.ok (.map (some w.heap.size)) { w with heap:=w.heap.push (.map #[] 0) }:=by
 have d:Below w.heap.size w { w with heap:=w.heap.push (.map #[] 0) }:=⟨rfl,rfl,rfl,Z',fun k hk=>by grind⟩
 obtain⟨S1,c,b⟩:=h.new (x:=.map []) (v:=.map (some w.heap.size)) (w1:={ w with heap:=w.heap.push (.map #[] 0) }) d (fun k hk=>by cases hk;simp) (fun S1 _ _ _=>⟨w.heap.size,#[],0,rfl,Z',rfl⟩);refine⟨⟨⟨_,S1,b,VS.of rfl (by unfold VC;rw[W4];exact⟨lt_succ_self _,rfl,rfl⟩),c⟩,Ext.new s _,rfl,fun k hk _=>d.block k hk⟩,?_⟩;rfl
theorem D07 {α:Type}{T:Ty α}{S:D0}{t ty e u:TypeId}{A B:Option Addr}{c d:Nat}{xs ys:List α}(P:Program)(U:P.underlying t=some (.slice e))(hE:(P.info? e).map (·.size)=some 1)(z:T.sz=1)
  (l:Ow T u (fun _=>True) w.heap S (.slice A xs.length c) xs) (q:Q4 T w.heap S B ys):
  ∃w1,(Builtin.copy_ #[t,t] ty #[.slice A xs.length c,.slice B ys.length d]).run P w=.ok (.int .i64 ((Nat.min ys.length xs.length:Nat):Int)) w1/\(w1=w\/∃g,A=some ⟨g,0,none⟩/\j5 g w w1)/\Ow T u (fun _=>True) w1.heap S (.slice A xs.length c) (j4 xs ys):=by
 by_cases h0:Nat.min ys.length xs.length=0
 ·refine⟨w,by rw[run_copy_none w t t ty e A B xs.length c ys.length d U hE h0,h0];rfl,.inl rfl,?_⟩;have:j4 xs ys=xs:=by
   rcases Nat.eq_zero_or_pos xs.length with hz|hz
   ·simp_all[j4]
   ·have b2:ys.length=0:=by
     grind
    simp_all[j4]
  simp_all
 ·have b1:0<xs.length:=by
   grind
  have hyp:0<ys.length:=by
   grind
  obtain⟨b,off,_,hB,_⟩:=q 0 ys[0] Z';subst hB;obtain⟨news,h,C⟩:=Q4.news (w:=w) (xs:=ys) (k:=0) (A:=some ⟨b,off,none⟩) (T:=T) (S:=S) (fun i x hx=>by
   obtain⟨b,o,cs,h1,R,h3⟩:=q i x hx
   grind)
  obtain⟨p,cs,⟨J,m⟩,n⟩:=l;rcases m with⟨y,hz⟩|⟨g,cap,cur,y,hg,hnc,hm,hcs,htake⟩
  ·omega
  ·obtain⟨rfl,rfl⟩:=y;have a1:news.length=ys.length:=by rw[h.1,z,mul_one]
   have f:(news.take xs.length).length=Nat.min ys.length xs.length:=by grind
   have hr:=run_copy_row (P:=P) w t t ty e g 0 xs.length c ⟨b,off,none⟩ ys.length d cur u (news.take xs.length) U hE hg f (fun j v hj=>by
    rw[k7]
    grind) (by grind) (fun v y=>h.e0w v (List.mem_of_mem_take y))
   simp only[List.take_zero,nil_append,zero_add]at hr;have I:=p g (by rfl);have r:j5 g w (w.setRow g (news.take xs.length++cur.toList.drop (news.take xs.length).length).toArray):=⟨rfl,rfl,rfl,Z',fun k _ hk=>by simp[World.setRow,Array.getElem?_modify,Ne.symm hk]⟩
   have hk:=r.L0 I.1;refine⟨_,by rw[hr,f];rfl,.inr ⟨g,rfl,r⟩,p,news.take xs.length++cs.drop ys.length,⟨?_,.inr ⟨g,c,(news.take xs.length++cur.toList.drop (news.take xs.length).length).toArray,by rw[b04],setRow_heap w g cur _ u _ hg,by simp_all[b04],hm,?_,?_⟩⟩,?_⟩
   ·rw[b04,z,mul_one,length_append,f,List.length_drop,J]
    grind
   ·grind
   ·rw[b04,z,mul_one];show List.take xs.length (news.take xs.length++cur.toList.drop (news.take xs.length).length)=_;rw[List.take_append,List.take_take,Nat.min_self,<-htake];congr 1;rw[List.drop_take];rcases Nat.le_total ys.length xs.length with hle|hle
    ·simp_all
    simp_all
   ·have h1:=(h.L0 hk).cut xs.length;have R:=(n.L0 hk).tail ys.length;rw[z,mul_one]at h1 R;exact h1.append R
def w0F {α:Type}{T:Ty α}{S:D0}{t ty e l:TypeId}{v:Value}{A B:Option Addr}{c d:Nat}{xs ys:List α}{cs:List Value}(P:Program)(q:P.underlying t=some (.slice e))(r:(P.info? e).map (·.size)=some 1)(x:T.sz=1)
  (f:v=.slice A xs.length c) (h:Row w.heap l T.sz v xs.length cs) (i:R1 T w.heap S cs xs) (I:∀k,B1 v=some k->S k) (p:Q4 T w.heap S B ys):
  ∃w1,(Builtin.copy_ #[t,t] ty #[v,.slice B ys.length d]).run P w=.ok (.int .i64 ((Nat.min ys.length xs.length:Nat):Int)) w1/\(w1=w\/∃g,B1 v=some g/\j5 g w w1)/\∃b,Row w1.heap l T.sz v (j4 xs ys).length b/\R1 T w1.heap S b (j4 xs ys):=by
 rcases h.m0j with⟨y,o⟩|⟨h0,hc0,hnone,a0,hv⟩
 ·have n:Ow T l (fun _=>True) w.heap S (.slice A xs.length c) xs:=by
   rw[<-f];exact⟨fun k hk=>⟨I k (by simp_all),trivial⟩,cs,y,i⟩
  obtain⟨w1,h1,z,_,b,J,u⟩:=D07 (d:=d) (ty:=ty) P q r x n p;refine⟨w1,by simp_all,z.imp id (fun⟨g,m,C⟩=>⟨g,by rw[<-o,f,m];rfl,C⟩),b,by simp_all[Row.ofV],u⟩
 ·have j:xs=[]:=eq_nil_of_length_eq_zero h0;subst j;rw[hv]at f;subst hv;have m:Nat.min ys.length ([]:List α).length=0:=by simp[]
  refine⟨w,by rw[m];exact run_copy_none w t t ty e (some a0) B 0 0 ys.length d q r O',.inl rfl,[],⟨by simp[j4],.inl ⟨by simp[j4],_,rfl⟩⟩,by simp[j4,R1.nil]⟩
theorem D0C (hE:T1 E)(h:Rp E A s ρ S a as w){R:Type}{k:K E R}{r:R}{T ty:Nat}{x y:V E.D}{ux uy:Value}(hx:VS E ρ s.nid w.heap S x ux)(hy:VS E ρ s.nid w.heap S y uy)(hk:copyV E s T x y k=some r):
  ∃s1 v u w1,k s1 v=some r/\K5 E A s ρ S a as w s1 v u w1/\(Builtin.copy_ #[T,T] ty #[ux,uy]).run E.P w=.ok u w1:=by
 unfold copyV at hk;split at hk<;>try cases hk
 rename_i e id hT;split at hk<;>try cases hk
 have c3:(E.P.info? e).map (·.size)=some 1:=by
  grind [H5]
 obtain⟨c6,rfl⟩:=hx.a0m;split at hk<;>try cases hk
 ·rename_i e' t xs hl;split at hk<;>try cases hk
  rename_i ys hz p;rw[beq_eq]at hz;obtain⟨A',c,rfl,b3⟩:=h0y h hy p;have ht:=h.th id;rw[hl]at ht;have ht:E5 E w.heap S e' t xs (ρ id):=ht;obtain⟨A0,c0,q⟩:=ht.form;have h4:hd (ρ id)=ρ id:=by rw[q];rfl
  have b:Q1 (F0 s id)=true:=by rw[hl];rfl
  have e4:∀k,Bk (ρ id) k↔B1 (ρ id)=some k:=fun k=>by rw[q];rfl
  obtain⟨cs,n,c5⟩:=ht;obtain⟨w1,e2,b5,I,m,l⟩:=w0F (d:=c) (ty:=ty) (S:=S) E.P hT c3 hz q n c5 (fun k hk=>(h.ow id b k ((e4 k).2 hk)).1) b3;have b1:Cx A.w0 A.W0 A.S0 w1 S/\P0 w.heap S w1.heap S/\∀k,k<w.heap.size->¬Bk (ρ id) k->w1.heap[k]?=w.heap[k]?:=by
   rcases b5 with rfl|⟨g,hg1,ho⟩
   ·exact⟨h.cx,P0.refl _ _,fun _ _ _=>rfl⟩
   ·have hb:Bk (ρ id) g:=(e4 g).2 hg1;obtain⟨hS,_,hW⟩:=h.ow id b g hb;exact⟨ho.cx h.cx hW,ho.L0 hS,fun k hk hn=>ho.block k hk (fun e=>hn (by simp_all))⟩
  obtain⟨J,z,o⟩:=b1;refine⟨_,_,_,w1,hk,⟨⟨ρ,S,h.turn (x:=.lst e' t (j4 xs ys)) (v:=ρ id) c6 b J z (fun _ h=>h) o rfl (fun k hk=>(h.ow id b k hk).1) ⟨I,m,l⟩,VS.dI,z⟩,Ext.at s id _,rfl,fun k hk C=>o k hk (C id c6 b (f0g s))⟩,?_⟩
  simp_all
 ·rename_i r0 j f hl;split at hk<;>try cases hk
  rename_i e0 F t0 h0 t xs c8 e3;split at hk<;>try cases hk
  rename_i ys hz p;split at hk<;>try cases hk
  rename_i x c4;rw[beq_eq]at hz;obtain⟨A',c,rfl,b3⟩:=h0y h hy p;have C:=e0u c8;obtain⟨u,h3,h9,n,hg,b2,e5⟩:=q0a hE c4;have i:=e3;unfold b0A at i;rw[C]at i;have i:V2 E t0 (E6 E t0 h0 j) f=some ⟨t,xs⟩:=i;rw[n]at i;obtain⟨rfl,e9⟩:=Sigma.mk.inj (Option.some.inj i);have e9:=eq_of_heq e9;subst e9;split at hg<;>try cases hg
  rename_i ws U;obtain⟨ec,U⟩:=a0u U;obtain rfl:ys=ws:=U;obtain⟨_,e1,_,hblk⟩:=h.i0w hl e3;have e7:=h.rf id r0 j f hl e0 F t0 h0 C;obtain⟨cs,ht,k2,k3,h5,h8⟩:=h.m0m C e7;obtain⟨e',h2⟩:∃e',F[f]?=some e':=⟨_,List.getElem?_eq_getElem k3⟩
  obtain⟨h7,h6,hL⟩:=ht.rows j.toNat _ f u h3 e' (a0r k2.1 k2.2) n h2 Z';rw[h5]at h6;obtain rfl:=Option.some.inj h6;have b:Q1 (F0 s r0)=true:=O'
  have e6:=h.i7 (id:=r0) (by simp_all);obtain⟨A0,c0,q⟩:=hL.form;obtain⟨i1,b4,a1⟩:=hL;obtain⟨w1,e2,b5,I,m,l⟩:=w0F (d:=c) (ty:=ty) (S:=S) E.P hT c3 hz q b4 a1 (fun k hk=>(h.ow r0 b k (Bk.tl (mem_of_getElem? h8) hk)).1) b3;have b1:Cx A.w0 A.W0 A.S0 w1 S/\P0 w.heap S w1.heap S/\∀k,k<w.heap.size->B1 (ρ id)≠some k->w1.heap[k]?=w.heap[k]?:=by
   rcases b5 with rfl|⟨g,hob,ho⟩
   ·exact⟨h.cx,P0.refl _ _,fun _ _ _=>rfl⟩
   ·obtain⟨hS,_,hW⟩:=h.ow r0 b g (Bk.tl (mem_of_getElem? h8) hob);exact⟨ho.cx h.cx hW,ho.L0 hS,fun k hk hn=>ho.block k hk (fun e=>hn (by simp_all))⟩
  obtain⟨J,z,o⟩:=b1;refine⟨_,_,_,w1,hk,⟨⟨ρ,S,h.w0u C e7 b2 e5 h2 o J z ⟨I,m,l⟩,VS.dI,z⟩,Ext.at s r0 _,rfl,fun k hk C=>o k hk (fun e=>C r0 e6 b (f0g s) (Bk.tl (mem_of_getElem? h8) e))⟩,?_⟩
  simp_all
def x0I (hE:T1 E)(h:Rp E A s ρ S a as w){R:Type}{k:K E R}{r:R}{T:Nat}{f:U}{l:List (Den E.D f)}{y:V E.D}{ux uy:Value}(hx:VS E ρ s.nid w.heap S (.df f l) ux)(hy:VS E ρ s.nid w.heap S y uy)(ty:Nat)(hk:p0G E s T f l y k=some r):
  ∃s1 v u w1,k s1 v=some r/\K5 E A s ρ S a as w s1 v u w1/\(Builtin.append_ #[T,T] ty #[ux,uy]).run E.P w=.ok u w1:=by
 unfold p0G at hk;split at hk<;>try cases hk
 rename_i e he;split at hk<;>try cases hk
 rename_i t z sz bytes ht C;split at hk<;>try cases hk
 rename_i ys xs p m hc;split at hk<;>try cases hk
 rename_i b;rw[and_eq_true,List.isEmpty_iff]at b;obtain⟨q,b⟩:=b;obtain⟨ec,hc⟩:=a0u hc;subst ec;subst hc;obtain⟨rfl,h1,h2,h3⟩:=d0p p;obtain⟨i,hi,b4,b2,b3⟩:=d0U C;have hT:=d0V he;obtain⟨A',c,rfl,J⟩:=h0y h hy m;obtain⟨c0,n,rfl⟩:=hx;unfold VC at n;obtain⟨B,rfl,b1⟩:=n;subst q;have a1:(E.P.info? e).map (fun i=>(i.zero,i.size,i.bytes))=some (some z,(J0 E f).sz,bytes):=by simp_all
 have I:(decide (z.cells.size=(J0 E f).sz)&&decide (0<(J0 E f).sz)&&decide (0<bytes))=true:=by simp_all
 obtain⟨v',w1,j,hg,x,⟨A1,c1,g⟩,d⟩:=j0Z (S:=S) (w:=w) (ty:=ty) (v:=.slice B 0 0) (xs:=([]:List (Den E.D f))) (cs:=[]) (c:=c) E.P hT a1 I ⟨Z',.inl ⟨rfl,B,rfl⟩⟩ R1.nil (fun k hk=>by cases B<;>cases hk) J b;have hB:Below w.heap.size w w1:=⟨hg.os,hg.tape,hg.output,hg.size,fun k hk=>hg.block k hk (by simp[B1])⟩
 subst g;refine⟨_,_,_,w1,hk,h.j0k hB (fun k hk=>?_) rfl fun S1 hk hs=>d S1 hk,j⟩;obtain⟨o,h6⟩:=x k hk;refine⟨?_,h6⟩;rcases o with o|o
 ·cases B<;>cases o
 omega
def y0l (l:T1 E)(h:Rp E A s ρ S a as w){R:Type}{k:K E R}{r:R}{b:Bool}{T:Nat}{x y:V E.D}{g f:Value}(i:VS E ρ s.nid w.heap S x g)(j:VS E ρ s.nid w.heap S y f)(ty:Nat)(hk:q0b E b s T x y k=some r):
  ∃s1 v u w1,k s1 v=some r/\K5 E A s ρ S a as w s1 v u w1/\(Builtin.append_ #[T,T] ty #[g,f]).run E.P w=.ok u w1:=by
 unfold q0b at hk;split at hk
 ·rename_i m e c;have d:x=.df m e:=by
   cases x<;>simp only[k0J]at c<;>try cases c
   rfl
  subst d;exact x0I l h i j ty hk
 ·exact G0i l h i j ty hk
def H0g (j:T1 E)(h:Rp E A s ρ S a as w){R:Type}{k:K E R}{r:R}{tb:List Nat}{o:Oper}(hk:evE E tb s o k=some r):
  ∃s1 v u w1,k s1 v=some r/\K5 E A s ρ S a as w s1 v u w1/\((execOp a.eval o).run E.P w=.ok (.value u) w1\/(u=undef/\(execOp a.eval o).run E.P w=.ok .skip w1)):=by
 unfold evE at hk;split at hk
 ·rename_i T ho;obtain⟨s1,v,u,w1,h1,d,b⟩:=B07 h hk;exact⟨s1,v,u,w1,h1,d,.inl (by simp[execOp,ho,b])⟩
 ·rename_i T x ho;obtain⟨s1,v,u,w1,h1,d,b⟩:=B09 j h (h.val x) hk;exact⟨s1,v,u,w1,h1,d,.inl (by simp[execOp,ho,b])⟩
 ·rename_i T p x ho;obtain⟨s1,v,w1,h1,d,b⟩:=B0v j h (h.val p) (h.val x) hk;exact⟨s1,v,_,w1,h1,d,.inr ⟨rfl,by simp[execOp,ho,b]⟩⟩
 ·rename_i T n parts ho;split at hk
  ·obtain⟨s1,v,u,w1,h1,d,b⟩:=y0e h hk;exact⟨s1,v,u,w1,h1,d,.inl (by simp[execOp,ho,b])⟩
  ·obtain⟨s1,v,u,w1,h1,d,b⟩:=C0k j h hk;exact⟨s1,v,u,w1,h1,d,.inl (by simp[execOp,ho,b])⟩
 ·rename_i T n m ho;split at hk
  ·obtain⟨s1,v,u,w1,h1,d,b⟩:=F06 j h hk;exact⟨s1,v,u,w1,h1,d,.inl (by simp[execOp,ho,b])⟩
  ·obtain⟨s1,v,u,w1,h1,d,b⟩:=A0c j h hk;exact⟨s1,v,u,w1,h1,d,.inl (by simp[execOp,ho,b])⟩
 ·rename_i c ho;split at hk<;>try cases hk
  ·rename_i x y T z q l t;split at hk<;>try cases hk
   rename_i f;rw[beq_eq]at f;subst f;have e:c.args=#[x,y]:=by have:=congrArg List.toArray l;simpa using this
   have g:c.argTypes=#[T,T]:=by have:=congrArg List.toArray t;simpa using this
   obtain⟨s1,v,u,w1,h1,d,b⟩:=y0l j h (h.val x) (h.val y) o.type hk;exact⟨s1,v,u,w1,h1,d,.inl (by simp[execOp,ho,resolve,q,e,g,invoke,builtin,b])⟩
  ·rename_i x y T z q l t;split at hk<;>try cases hk
   rename_i f;rw[beq_eq]at f;subst f;have e:c.args=#[x,y]:=by have:=congrArg List.toArray l;simpa using this
   have g:c.argTypes=#[T,T]:=by have:=congrArg List.toArray t;simpa using this
   obtain⟨s1,v,u,w1,h1,d,b⟩:=D0C (ty:=o.type) j h (h.val x) (h.val y) hk;exact⟨s1,v,u,w1,h1,d,.inl (by simp[execOp,ho,resolve,q,e,g,invoke,builtin,b])⟩
 ·rename_i T z x ho;obtain⟨s1,v,u,w1,h1,d,b⟩:=y0N h (h.val x) hk;exact⟨s1,v,u,w1,h1,d,.inl (by simp[execOp,ho,b])⟩
 ·rename_i T ho;obtain⟨d,b⟩:=B0s (T:=T) h;exact⟨_,_,_,_,hk,d,.inl (by simp[execOp,ho,b])⟩
 ·rename_i T m i x ho;obtain⟨s1,v,w1,h1,d,b⟩:=z04 h (h.val m) (h.val i) (h.val x) hk;exact⟨s1,v,_,w1,h1,d,.inr ⟨rfl,by simp[execOp,ho,b]⟩⟩
 ·cases hk
end
end
