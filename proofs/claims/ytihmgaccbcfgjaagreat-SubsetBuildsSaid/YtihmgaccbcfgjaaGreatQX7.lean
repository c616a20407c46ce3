/- P. Its conditions: none. -/
import Derived.Test.YtihmgaccbcfgjaaGreatQX6
import Derived.Great.BuildSlice
open Nat (le_succ lt_succ_self le_refl le_trans succ_mul mul_le_mul_right beq_eq zero_add lt_or_ge mul_one)
open List (all_eq_true eq_nil_of_length_eq_zero length_append append_assoc nil_append drop_drop take_append_drop length_take length_set any_eq_true mem_cons mem_of_getElem? mem_append map_cons)
open Bool (and_eq_true)
set_option linter.all false
namespace Go.X
open Go.V Go.RowKit
section
variable {E:Env}{A:E4}{s:St E.D}{ρ:Nat->Value}{S:D0}{a:Act}{as:List Act}{w:World}
def e04 {v:Value}(h:v.oneCell'=true):hd v=v/\∀k,Bk v k↔B1 v=some k:=by
 cases v<;>first|exact⟨rfl,fun _=>Iff.rfl⟩|grind [Value.oneCell']
structure K5 (E:Env)(A:E4)(s:St E.D)(ρ:Nat->Value)(S:D0)(a:Act)(as:List Act)(w:World)(s1:St E.D)(v:V E.D)(u:Value)(w1:World):Prop where
 rp:∃ ρ1 S1,Rp E A s1 ρ1 S1 a as w1/\VS E ρ1 s1.nid w1.heap S1 v u/\P0 w.heap S w1.heap S1
 ext:Ext s s1
 fr:s1.fr=s.fr
 old:∀k,k<w.heap.size->(∀q,q<s.nid->Q1 (F0 s q)=true->W6 s s1 q=true->¬Bk (ρ q) k)->w1.heap[k]?=w.heap[k]?
def f0g (s:St E.D){id:Nat}{x:Th E.D}:W6 s (s.at id x) id=true:=by
 simp[W6,St.at]
def Rp.q0Q (h:Rp E A s ρ S a as w){l:List (V E.D)}{cs:List Value}(hl:T0 E ρ s.nid w.heap S l cs)(h1:∀u∈cs,u.oneCell'=true)(T:Nat):
  K5 E A s ρ S a as w (s.new (.box T l)) (.pb s.nid 0 []) (.pointer (some ⟨w.heap.size,0,none⟩)) (w.alloc (.cells cs.toArray T)):=by
 have b:=Below.new w (.cells cs.toArray T);obtain⟨S1,hk,c⟩:=h.new (x:=.box T l) (v:=.pointer (some ⟨w.heap.size,0,none⟩)) (w1:=w.alloc (.cells cs.toArray T)) b
  (fun k hk=>by simp_all[Bk,B1]) (fun S1 hk hs hn=>⟨w.heap.size,cs,rfl,heap_alloc_new w _,hl.mono (fun i hi=>by grind [n5]) (le_succ _) hk,h1⟩)
 refine⟨⟨_,S1,c,?_,hk⟩,Ext.new s _,rfl,fun k hk _=>b.block k hk⟩;have:=VS.pb (E:=E) (S:=S1) (H:=(w.alloc (.cells cs.toArray T)).heap) (ρ:=C6 ρ s.nid (.pointer (some ⟨w.heap.size,0,none⟩))) (n:=s.nid+1) (id:=s.nid) (off:=0) (p:=[]) (lt_succ_self _) trivial (by rw[W4];rfl);exact this
def B07 (h:Rp E A s ρ S a as w){R:Type}{k:K E R}{r:R}{T:Nat}(hk:n0c E s T k=some r):
  ∃s1 v u w1,k s1 v=some r/\K5 E A s ρ S a as w s1 v u w1/\(Instr.alloc T true (.tuple #[])).run E.P w=.ok u w1:=by
 unfold n0c at hk;split at hk<;>try cases hk
 rename_i z b;split at hk<;>try cases hk
 rename_i h1;unfold s0s at b;split at b<;>try cases b
 refine⟨_,_,_,_,hk,h.q0Q (l0f z) (all_eq_true.1 h1) T,?_⟩
 simp_all[Instr.alloc,zeroValue,typeInfo,newVar,newRow]
def B09 (e:T1 E)(h:Rp E A s ρ S a as w){R:Type}{k:K E R}{r:R}{T:Nat}{v:V E.D}{b:Value}(d:VS E ρ s.nid w.heap S v b)(hk:p0V E s T v k=some r):
  ∃s1 v u w1,k s1 v=some r/\K5 E A s ρ S a as w s1 v u w1/\(Instr.box T b).run E.P w=.ok u w1:=by
 unfold p0V at hk;split at hk<;>try cases hk
 rename_i hs;obtain⟨c,h1,g,f,_⟩:=d.cells e hs;refine⟨_,_,_,_,hk,h.q0Q h1 f T,?_⟩;simp[Instr.box,newVar,newRow,g]
def v0R {P:Program}(b t:Nat):∀(vs:List Value) (i off:Nat) (w:World) (d1 d2 d3:List Value),w.heap[b]?=some (.cells (d1++(d2++d3)).toArray t (0,0))->d1.length=off+i->d2.length=vs.length->(∀v∈vs,v.oneCell'=true)->
  ∃w1,(storeCells ⟨b,off,none⟩ vs i).run P w=.ok () w1/\j5 b w w1/\w1.heap.size=w.heap.size/\w1.heap[b]?=some (.cells (d1++(vs++d3)).toArray t (0,0))
 |[],i,off,w,d1,d2,d3,g,_,h,_=>by
  have:d2=[]:=eq_nil_of_length_eq_zero O';subst this;exact⟨w,by rfl,⟨rfl,rfl,rfl,le_refl _,fun _ _ _=>rfl⟩,rfl,g⟩
 |v :: vs,i,off,w,d1,[],d3,g,_,h,_=>by grind
 |v :: vs,i,off,w,d1,x :: d2,d3,g,h1,h,hone=>by
  have n:w.cell? ⟨b,off+i,none⟩=some x:=by
   simp_all[e0W,O1]
  have m:w.frozen? ⟨b,off+i,none⟩=false:=by simp[World.frozen?,g]
  have l:=n0p (P:=P) (w:=w) (ad:=(⟨b,off,none⟩:Addr).add i) (l0t b off i) (hone v X') n m;have c:=v05 (w:=w) (off:=off+i) (v:=v) g;have e:(d1++(x :: d2++d3)).set (off+i) v=(d1++[v])++(d2++d3):=by simp_all
  rw[e]at c;obtain⟨w1,o,f,hs,j⟩:=v0R (P:=P) b t vs (i+1) off (w.setCell ⟨b,off+i,none⟩ v) (d1++[v]) d2 d3 c (by grind) (by simp_all) (fun u hu=>hone u (by grind));have d:=j5.cell w b (off+i) v;refine⟨w1,by simp_all[storeCells],⟨f.os.trans d.os,f.tape.trans d.tape,f.output.trans d.output,le_trans d.size f.size,fun k hk hn=>(f.block k (Nat.lt_of_lt_of_le hk d.size) hn).trans (d.block k hk hn)⟩,hs.trans X',?_⟩
  simp_all
def o0Q {T n b off t:Nat}(d:H5 E T=some n){u:Value}{vs:List Value}(hu:u.cells=vs.toArray)(hl:vs.length=n)(h1:∀v∈vs,v.oneCell'=true){d1 d2 d3:List Value}{w:World}(f:w.heap[b]?=some (.cells (d1++(d2++d3)).toArray t (0,0)))(c:d1.length=off)(g:d2.length=n):
  ∃w1,(Instr.storeAt T (.pointer (some ⟨b,off,none⟩)) u).run E.P w=.ok () w1/\j5 b w w1/\w1.heap[b]?=some (.cells (d1++(vs++d3)).toArray t (0,0)):=by
 obtain⟨w1,h,i,_,e⟩:=v0R (P:=E.P) b t vs 0 off w d1 d2 d3 f O' O' h1
 simp_all[Instr.storeAt,Instr.sureAddr,storeVar,d0R]
def VS.unit {n:Nat}{H:I0}:VS E ρ n H S (.tup []:V E.D) Go.undef:=VS.of rfl (by exact⟨[],rfl,by rfl⟩)
def u0O {id T:Nat}{l:List (V E.D)}(h:h0T s id=some (T,l)):F0 s id=.box T l:=by
 unfold h0T at h
 grind
def j0O {id e:Nat}{t:U}{xs:List (Den E.D t)}(h:e0I E s id=some (e,⟨t,xs⟩)):F0 s id=.lst e t xs:=by
 unfold e0I at h
 grind
def Rp.r02 (h:Rp E A s ρ S a as w){id T:Nat}{l l':List (V E.D)}{d:List Value}{b:Nat}{w1:World}(hl:F0 s id=.box T l)(f:ρ id=.pointer (some ⟨b,0,none⟩))(g:j5 b w w1)(o:w1.heap[b]?=some (.cells d.toArray T (0,0)))
  (j:T0 E ρ s.nid w.heap S l' d) (h1:∀u∈d,u.oneCell'=true):Rp E A (s.at id (.box T l')) ρ S a as w1/\P0 w.heap S w1.heap S:=by
 have c:Q1 (F0 s id)=true:=by rw[hl];rfl
 have i:=h.i7 (id:=id) (by simp_all);obtain⟨n,p,m⟩:=h.ow id c b (by rw[f];rfl);have kp:=g.L0 n;refine⟨h.turn i c (g.cx h.cx m) kp (fun _ h=>h) (fun k hk hn=>g.block k hk (fun e=>hn (by rw[f,e];rfl))) rfl (fun k hk=>(h.ow id c k hk).1) ?_,kp⟩;exact⟨b,d,f,o,j.mono (fun _ _=>rfl) (le_refl _) kp,h1⟩
section
variable {H:I0}
def t0m {f:(t:U)->Den E.D t->Option (Den E.D t)}:∀(ts:List U) (h b:HL E.D ts) (j:Nat) (cs:List Value),a00 ts h j f=some b->(a0S E ts).R H S cs h->
  ∃c1 c2 c3,cs=c1++(c2++c3)/\c1.length=c0g E ts j/\∃t x x',(J0 E t).R H S c2 x/\f t x=some x'/\∀c,(J0 E t).R H S c x'->(a0S E ts).R H S (c1++(c++c3)) b
 |[],_,_,_,_,h=>by simp_all[a00]
 |t :: ts,hh,b,0,cs,h=>by
  intro e;simp only[a00]at h;split at h<;>try cases h
  rename_i y d;obtain⟨c1,c2,rfl,h1,k⟩:=e;exact⟨[],c1,c2,X',rfl,t,_,_,h1,d,fun c i=>⟨c,c2,X',i,k⟩⟩
 |t :: ts,hh,b,j+1,cs,h=>by
  intro e;simp only[a00]at h;split at h<;>try cases h
  rename_i g d;obtain⟨c1,c2,rfl,h1,k⟩:=e;obtain⟨d1,d2,d3,rfl,hl,n,x,x',l,m,hk⟩:=t0m ts hh.2 g j c2 d k;refine⟨c1++d1,d2,d3,X',by rw[length_append,(J0 E t).len h1,hl];rfl,n,x,x',l,m,fun c i=>?_⟩;rw[append_assoc];exact⟨c1,_,rfl,h1,hk c i⟩
def s0Y {α:Type}{T:Ty α}{xs:List α}{cs cn:List Value}{q:α}(b:R1 T H S cs xs){i:Nat}(hi:i<xs.length)(c:T.R H S cn q):
  R1 T H S (cs.take (i*T.sz)++(cn++(cs.drop (i*T.sz)).drop T.sz)) (xs.set i q):=by
 have g:cs.length=xs.length*T.sz:=b.1;have e:=T.len c;have hle:i*T.sz+T.sz<=xs.length*T.sz:=by rw[<-succ_mul];exact mul_le_mul_right _ hi
 have h:(cs.take (i*T.sz)).length=i*T.sz:=by grind
 refine⟨?_,fun j v d=>?_⟩
 ·grind
 ·rcases Nat.lt_trichotomy j i with hlt|heq|hgt
  ·rw[List.getElem?_set_ne O']at d;have:=b.2 j v d;have f:j*T.sz+T.sz<=i*T.sz:=by rw[<-succ_mul];exact mul_le_mul_right _ hlt
   grind [List.drop_take]
  ·simp_all
  ·rw[List.getElem?_set_ne O']at d;have:=b.2 j v d;have f:i*T.sz+T.sz<=j*T.sz:=by rw[<-succ_mul];exact mul_le_mul_right _ hgt
   have k:((cs.take (i*T.sz)++(cn++(cs.drop (i*T.sz)).drop T.sz)).drop (j*T.sz))=cs.drop (j*T.sz):=by
    rw[<-append_assoc,List.drop_append,List.drop_of_length_le (by simp_all),nil_append,length_append,h,e,drop_drop,drop_drop]
    grind
   simp_all
def k0b (r:T1 E){u:U}{y:Den E.D u}:∀(p:List B6) (t:U) (x x':Den E.D t) (cs:List Value),b07 E u y p t x=some x'->a8 p->(J0 E t).R H S cs x->
  ∃c1 c2 c3,cs=c1++(c2++c3)/\c1.length=D4 p/\c2.length=K2 E u/\∀c,(J0 E u).R H S c y->(J0 E t).R H S (c1++(c++c3)) x'
 |[],t,x,x',cs,h,_=>by
  intro C;obtain⟨e,h⟩:=c0D h;subst e;exact⟨[],cs,[],X',rfl,(J0 E u).len C,fun c hc=>by simp_all⟩
 |.inl (j,o) :: p,t,x,x',cs,h,hp=>by
  intro C;cases t<;>simp only[b07]at h<;>try cases h
  rename_i i;split at h<;>try cases h
  rename_i ho;rw[beq_eq]at ho;split at h<;>try cases h
  rename_i hh hf;obtain⟨c1,c2,c3,rfl,hl,k,z,z',g,a1,hk⟩:=t0m _ _ _ _ _ hf ((r.st i H S cs x).1 C);obtain⟨d1,d2,d3,rfl,f,d,J⟩:=k0b r p k z z' c2 a1 hp g;refine⟨c1++d1,d2,d3++c3,X',by rw[length_append,hl,ho,f];rfl,d,fun c hc=>?_⟩;refine(r.st i H S _ _).2 ?_;rw[r.unmk]
  grind
 |.inr (i,z,m) :: p,t,x,x',cs,h,hp=>by
  intro C;cases t<;>simp only[b07]at h<;>try cases h
  rename_i m' k;split at h<;>try cases h
  rename_i g;rw[and_eq_true,beq_eq,beq_eq]at g;obtain⟨g,rfl⟩:=g;split at h<;>try cases h
  rename_i q hq;obtain⟨hi,hp⟩:=hp;obtain⟨hlen,b⟩:=C;have l:(J0 E k).sz=z:=g;have v:=a0r (E:=E) (t:=k) (xs:=x) hi.1 O';have hy:=b.2 i.toNat _ v;obtain⟨d1,d2,d3,hd,f,d,J⟩:=k0b r p k _ q _ hq hp hy;have b2:cs.length=m'*z:=by rw[b.1,hlen,l]
  have n:i.toNat<m':=O'
  have hle:i.toNat*z+z<=m'*z:=by rw[<-succ_mul];exact mul_le_mul_right _ n
  have e1:cs=cs.take (i.toNat*z)++((cs.drop (i.toNat*z)).take z++(cs.drop (i.toNat*z)).drop z):=by grind [take_append_drop]
  refine⟨cs.take (i.toNat*z)++d1,d2,d3++(cs.drop (i.toNat*z)).drop z,?_,?_,d,fun c hc=>?_⟩
  ·grind
  ·rw[length_append,length_take,f,Nat.min_eq_left O'];rfl
  ·have I:=J c hc;have key:=s0Y (T:=J0 E k) (xs:=x) (cs:=cs) (cn:=d1++(c++d3)) (q:=q) b (i:=i.toNat) (by rw[hlen];exact n) I;rw[l]at key;have b1:cs.take (i.toNat*z)++d1++(c++(d3++(cs.drop (i.toNat*z)).drop z))=cs.take (i.toNat*z)++((d1++(c++d3))++(cs.drop (i.toNat*z)).drop z):=X'
   rw[b1];exact⟨(length_set ..).trans hlen,key⟩
theorem h0J {s1:St E.D}{t:List (Nat×Th E.D)}(h1:s1.th=t++s.th){p:Nat×Th E.D}(hp:p∈t):W6 s s1 p.1=true:=by
 unfold W6;rw[h1,length_append,Nat.add_sub_cancel,List.take_left']
 ·exact any_eq_true.2 ⟨p,hp,X'⟩
 ·rfl
def i0c {s1:St E.D}(he:Ext s s1){id:Nat}{x:Th E.D}:W6 s (s1.at id x) id=true:=by
 obtain⟨l,hl⟩:=he.th;exact h0J (t:=(id,x) :: l) (p:=(id,x)) (by simp[St.at,hl]) X'
def g0S {s1 s2:St E.D}{q:Nat}(h:W6 s s1 q=true)(he:Ext s s1)(k:Ext s1 s2):W6 s s2 q=true:=by
 obtain⟨t,c⟩:=he.th;obtain⟨d,b⟩:=k.th;unfold W6 at h;obtain⟨p,hp,e⟩:=any_eq_true.1 h
 grind [beq_eq,h0J]
def VC.d0h {n:Nat}{H:I0}{S1:D0}(hs:∀k,S1 k->S k){v:V E.D}{c:List Value}(h:VC E ρ n H S v c):VC E ρ n H S1 v c:=h.mono (fun _ _=>rfl) (le_refl _) (P0.less hs)
def T0.d0h {n:Nat}{H:I0}{S1:D0}(hs:∀k,S1 k->S k){v:List (V E.D)}{c:List Value}(h:T0 E ρ n H S v c):T0 E ρ n H S1 v c:=h.mono (fun _ _=>rfl) (le_refl _) (P0.less hs)
def VS.d0h {n:Nat}{H:I0}{S1:D0}(hs:∀k,S1 k->S k){v:V E.D}{u:Value}(h:VS E ρ n H S v u):VS E ρ n H S1 v u:=h.mono (fun _ _=>rfl) (le_refl _) (P0.less hs)
def n0q (e:T1 E)(h:Rp E A s ρ S a as w){u:U}{v:V E.D}{s1:St E.D}{y:Den E.D u}(b:rdD E s u v=some (s1,y)):
  ∃S1,(∀k,S1 k->S k)/\Rp E A s1 ρ S1 a as w/\Ext s s1/\s1.fr=s.fr/\s1.nid=s.nid/\∀c,VC E ρ s.nid w.heap S v c->(J0 E u).R w.heap S1 c y:=by
 unfold rdD at b;split at b<;>try cases b
 rename_i s2 l;split at b<;>try cases b
 rename_i x i;obtain⟨S1,h1,g,m,j,d⟩:=a0g e _ s [v] s1 l S h;refine⟨S1,h1,g,m,j,d,fun c f=>?_⟩;rw[<-d]at f;exact g0J e g.th i (f.d0h h1)
def y0R {n:Nat}{u:U}(h:Nat.beq (K2 E u) n=true):K2 E u=n:=by simp_all
def s0L {u:U}{v:V E.D}{s1:St E.D}{y:Den E.D u}(c:rdD E s u v=some (s1,y)){id:Nat}(b:Q1 (F0 s1 id)=true):Q1 (F0 s id)=true:=by
 grind [rdD,b0g]
def y0r {l r:List (V E.D)}{t:U}{x:Den E.D t}(h:k0I E l=some (⟨t,x⟩,r)):l=.d t x :: r:=by
 unfold k0I at h
 grind
theorem K5.of {s1:St E.D}{v:V E.D}{u:Value}{w1:World}{S1 b:D0}(hs:∀k,S1 k->S k)(d:Rp E A s1 ρ b a as w1)(c:VS E ρ s1.nid w1.heap b v u)(hk:P0 w.heap S1 w1.heap b)(he:Ext s s1)(e:s1.fr=s.fr)(hm:∀k,k<w.heap.size->(∀q,q<s.nid->Q1 (F0 s q)=true->W6 s s1 q=true->¬Bk (ρ q) k)->w1.heap[k]?=w.heap[k]?):K5 E A s ρ S a as w s1 v u w1:=
 ⟨⟨ρ,b,d,c,(P0.less hs).trans hk⟩,he,e,hm⟩
def w0w {e sz b o m cap N off n T:Nat}{cs d1 d2 d3 c:List Value}{w:World}{t:Value}(y:0<m)(d:Row w.heap e sz (.slice (some ⟨b,o,none⟩) m cap) N cs)(a1:cs=d1++(d2++d3))(k:d1.length=off)(r:d2.length=n)
  (l:H5 E T=some n) (f:t.cells=c.toArray) (hlen:c.length=n) (i:∀v∈c,v.oneCell'=true):
  ∃w1,(Instr.storeAt T (.pointer (some ⟨b,o+off,none⟩)) t).run E.P w=.ok () w1/\j5 b w w1/\Row w1.heap e sz (.slice (some ⟨b,o,none⟩) m cap) N (d1++(c++d3)):=by
 obtain⟨C,d⟩:=d;rcases d with⟨_,_,h⟩|⟨g,cap',cur,h,hp0,hg,hnc,hmx,hcz,htk⟩
 ·simp_all
 ·simp at h;obtain⟨⟨U,I⟩,R,e4⟩:=h;subst U;subst I;subst R;subst e4;have x:cur.toList=cs++cur.toList.drop (m*sz):=by grind [take_append_drop]
  have j:w.heap[b]?=some (.cells (d1++(d2++(d3++cur.toList.drop (m*sz)))).toArray e (0,0)):=by
   rw[hg];have J:cur.toList=d1++(d2++(d3++cur.toList.drop (m*sz))):=by
    grind
   rw[<-J]
  obtain⟨w1,u,z,p⟩:=o0Q l f hlen i j k r;have q:(d1++(c++d3)).length=m*sz:=by grind
  refine⟨w1,by grind,z,q,.inr ⟨b,cap,_,rfl,hp0,p,hnc,hmx,?_,?_⟩⟩
  ·grind
  grind
def E5.store (hE:T1 E){e b o m cap n T:Nat}{d u:U}{xs:List (Den E.D d)}{q:List B6}{y:Den E.D u}{x:Den E.D d}{c:List Value}{w:World}{uv:Value}{i:Int}(C:E5 E w.heap S e d xs (.slice (some ⟨b,o,none⟩) m cap))(h0:0<=i)(hm:i<m)
  (l:b07 E u y q d (E6 E d xs i)=some x) (a1:a8 q) (hy:(J0 E u).R w.heap S c y) (b6:K2 E u=n) (z:H5 E T=some n) (g:uv.cells=c.toArray) (hlen:c.length=n) (k:∀v∈c,v.oneCell'=true) (hS:S b):
  ∃w1,(Instr.storeAt T (.pointer (some ⟨b,o+i.toNat*K2 E d+D4 q,none⟩)) uv).run E.P w=.ok () w1/\j5 b w w1/\P0 w.heap S w1.heap S/\E5 E w1.heap S e d (xs.set i.toNat x) (.slice (some ⟨b,o,none⟩) m cap):=by
 obtain⟨cs,f,h⟩:=C;obtain⟨rfl,_,_⟩:=Row.cell f O';have hi:i.toNat<xs.length:=O'
 have p:=a0r (E:=E) (t:=d) (xs:=xs) h0 hm;obtain⟨e1,e2,e3,b5,hle,b3,r⟩:=k0b hE q d _ x _ l a1 (h.2 _ _ p);have J:=f.1;have b2:i.toNat*(J0 E d).sz+(J0 E d).sz<=xs.length*(J0 E d).sz:=by rw[<-succ_mul];exact mul_le_mul_right _ hi
 have I:cs=(cs.take (i.toNat*(J0 E d).sz)++e1)++(e2++(e3++(cs.drop (i.toNat*(J0 E d).sz)).drop (J0 E d).sz)):=by
  grind [take_append_drop]
 have C:(cs.take (i.toNat*(J0 E d).sz)).length=i.toNat*(J0 E d).sz:=by rw[length_take,J];omega
 obtain⟨w1,b4,ho,b1⟩:=w0w (off:=i.toNat*K2 E d+D4 q) O' f I (by rw[length_append,C,hle];rfl) O' z g hlen k;have kp:=ho.L0 hS;have j:=s0Y (i:=i.toNat) (h.L0 kp) hi ((J0 E d).L0 kp (r c hy));refine⟨w1,by grind,ho,kp,_,?_,j⟩
 grind
def w0j:∀{ts:List U} {h c:HL E.D ts} {j:Nat} {f:(t:U)->Den E.D t->Option (Den E.D t)},a00 ts h j f=some c->∃t y d,I5 ts h j=some ⟨t,y⟩/\f t y=some d/\I5 ts c j=some ⟨t,d⟩/\∀b,b≠j->I5 ts c b=I5 ts h b
 |[],_,_,_,_,hs=>by grind [a00]
 |t :: ts,hh,c,0,f,hs=>by
  simp only[a00]at hs;split at hs<;>try cases hs
  rename_i y e;refine⟨t,hh.1,y,rfl,e,rfl,fun b m=>?_⟩;cases b with
  |zero=>omega
  |succ b=>rfl
 |t :: ts,hh,c,j+1,f,hs=>by
  simp only[a00]at hs;split at hs<;>try cases hs
  rename_i o e;obtain⟨g,y,d,i,n,k,l⟩:=w0j e;refine⟨g,y,d,i,n,k,fun b m=>?_⟩;cases b with
  |zero=>rfl
  |succ b=>exact l b O'
def q0a (d:T1 E){t:U}{x x':Den E.D t}{f:Nat}{g:(u:U)->List (Den E.D u)->Option (List (Den E.D u))}(h:setRow E t x f g=some x'):
  ∃u ys c,V2 E t x f=some ⟨u,ys⟩/\g u ys=some c/\V2 E t x' f=some ⟨u,c⟩/\∀b,b≠f->V2 E t x' b=V2 E t x b:=by
 cases t with
 |list u=>
  have h:o0b g u x f=some x':=h;unfold o0b at h;split at h<;>try cases h
  refine⟨u,x,x',rfl,h,rfl,fun b l=>?_⟩;cases b with
  |zero=>omega
  |succ b=>rfl
 |st k=>
  have h:n0K E k (a00 (E.fs k) (E.un k x) f (r07 g))=some x':=h;unfold n0K at h;split at h<;>try cases h
  rename_i e hs;obtain⟨m,y,i,n,j,o,p⟩:=w0j hs;cases m with
  |list u=>
   exact⟨u,y,i,(show c0N (I5 (E.fs k) (E.un k x) f)=_ by rw[n];rfl),j,(show c0N (I5 (E.fs k) (E.un k (E.mkS k e)) f)=_ by rw[d.unmk,o];rfl),fun b l=>(show c0N (I5 (E.fs k) (E.un k (E.mkS k e)) b)=c0N (I5 (E.fs k) (E.un k x) b) by rw[d.unmk,p b l])⟩
  |_=>exact absurd (show none=some i from j) X'
 |_=>exact absurd (show none=some x' from h) X'
theorem w0H {F:List Nat}{i f c b:Nat}(e:f<F.length)(d:b<F.length)(h:rowAt F i f=rowAt F c b):i=c/\f=b:=by
 unfold rowAt at h
 grind [Nat.mul_comm,Nat.mul_add_div,Nat.div_eq_of_lt]
theorem r0L {D:Nat->Type}{q r f:Nat}{i:Int}:∀{l:List (Nat×Th D)},(r,Th.rof q i f)∈l->r∈X9 q l
 |[],h=>by cases h
 |(r',x) :: l,h=>by
  rcases mem_cons.1 h with h|h
  ·cases h;simp[X9]
  ·have b:=r0L h;cases x with
   |rof q' i' f'=>
    grind [X9]
   |_=>exact b
theorem v0v {α:Type}:∀{l:List (Nat×α)} {k:Nat} {v:α},F4 l k=some v->(k,v)∈l
 |[],k,v,h=>by grind [F4]
 |(j,x) :: l,k,v,h=>by
  rw[a0X]at h;split at h
  ·simp_all
  ·exact List.mem_cons_of_mem _ (v0v h)
theorem j0H {D:Nat->Type}{s:St D}{r q f:Nat}{i:Int}(h:F0 s r=.rof q i f):r∈X9 q s.th:=by
 grind [F0,r0L,v0v]
def d0K {D:Nat->Type}:∀(l:List Nat) (s:St D) (j:Nat),F0 (Z0 s l) j=if j∈l then .gone else F0 s j
 |[],s,j=>by simp[Z0]
 |i :: l,s,j=>by
  have b:=d0K l (s.at i .gone) j;rw[show Z0 s (i :: l)=Z0 (s.at i .gone) l from rfl,b]
  grind [F0,St.at,a0X]
theorem a0q {D:Nat->Type}:∀(l:List Nat) (s:St D),(Z0 s l).nid=s.nid/\(Z0 s l).fr=s.fr/\(Z0 s l).n=s.n/\(Z0 s l).stk=s.stk/\∃t,(Z0 s l).th=t++s.th
 |[],s=>⟨rfl,rfl,rfl,rfl,[],rfl⟩
 |i :: l,s=>by
  obtain⟨h1,d,c,b,t,e⟩:=a0q l (s.at i .gone);exact⟨h1,d,c,b,t++[(i,.gone)],by simp_all[Z0,St.at]⟩
def Ext.Z0 {D:Nat->Type}(s:St D)(l:List Nat):Ext s (Z0 s l):=by
 obtain⟨h1,e,d,c,t,b⟩:=a0q l s;exact⟨d,⟨[],by simp_all⟩,⟨t,b⟩,c,O'⟩
def Rp.r01 (h:Rp E A s ρ S a as w){id:Nat}{x:Th E.D}{v:Value}{G:List Nat}{S1:D0}{w1:World}(c:Q1 (F0 s id)=true)(b1:hd v=hd (ρ id))(cx:Cx A.w0 A.W0 A.S0 w1 S1)(kp:P0 w.heap S w1.heap S1)(hs:∀k,S k->S1 k)
  (U:∀k,k<w.heap.size->¬Bk (ρ id) k->w1.heap[k]?=w.heap[k]?) (hB:∀k,Bk v k->Bk (ρ id) k\/∃r∈G,Q1 (F0 s r)=true/\Bk (ρ r) k)
  (hx:K3 E (C6 ρ id v) s.nid w1.heap S1 x v) (b2:∀r i f,F0 s r=.rof id i f->r∈G) (b3:∀q i f,x≠.rof q i f):Rp E A ((Z0 s G).at id x) (C6 ρ id v) S1 a as w1:=by
 obtain⟨g1,g2,g3,g4,t,g5⟩:=a0q G s;have a1:=h.i7 (id:=id) (by rintro e;rw[e]at c;cases c);have e0:(Z0 s G).at id x={ s with th:=(id,x) :: (t++s.th),nid:=s.nid }:=by
  simp_all[St.at]
 have hl:∀j,F0 ((Z0 s G).at id x) j=if id=j then x else if j∈G then .gone else F0 s j:=fun j=>by rw[T8,d0K]
 rw[e0]at hl ⊢;have d:∀j,j≠id->j∉G->j<s.nid->b0V s { s with th:=(id,x) :: (t++s.th),nid:=s.nid } ρ (C6 ρ id v) S1 w w1 j:=fun j n hg g=>
  ⟨by grind,g,n5 n,fun b k hk=>⟨U k ((h.th j).live b k hk) (fun e2=>h.dj id j (Ne.symm n) c b k e2 hk),hs k (h.ow j b k hk).1⟩⟩
 refine h.step (nid1:=s.nid) ⟨cx,kp,fun i _=>?_,le_refl _⟩ (fun j=>?_) fun r q i f l e F t xs u=>?_
 ·grind [W4,n5]
 ·by_cases e:id=j
  ·subst e;refine .inr ⟨by rw[hl,if_pos rfl,W4];exact hx,fun _ k hk=>?_,fun hle=>O'⟩;rw[W4]at hk;have key:∃p,Q1 (F0 s p)=true/\Bk (ρ p) k/\(p=id\/p∈G):=by
    grind
   obtain⟨p,h1,R,h3⟩:=key;have J:=h.ow p h1 k R;refine⟨⟨hs k J.1,J.2⟩,fun j n b o=>?_⟩;rw[hl,if_neg (fun e=>n e.symm)]at b;split at b
   ·cases b
   ·rw[n5 n]at o;refine h.dj p j ?_ h1 b k R o
    grind
  ·by_cases g:j<s.nid
   ·by_cases hg:j∈G
    ·rw[hl,if_neg e,if_pos hg];exact .inr ⟨trivial,(fun z=>by cases z),fun _=>rfl⟩
    grind
   ·rw[hl,if_neg e];have:(if j∈G then Th.gone else F0 s j)=.gone:=by
     split
     ·rfl
     ·exact h.lt j O'
    rw[this];exact .inr ⟨trivial,(fun z=>by cases z),fun _=>rfl⟩
 ·rw[hl]at l;split at l
  ·simp_all
  ·rename_i y;split at l
   ·cases l
   ·rename_i hg;have C:=h.c0a l;rw[hl]at u;split at u
    ·grind
    ·rename_i m;split at u
     ·cases u
     ·rename_i I;exact .inl ⟨d r (Ne.symm y) hg (h.i7 (by simp_all)),d q (Ne.symm m) I C⟩
def Rp.take (h:Rp E A s ρ S a as w){x:Th E.D}{v:Value}{G:List Nat}{S1:D0}{w1:World}(cx:Cx A.w0 A.W0 A.S0 w1 S1)(kp:P0 w.heap S w1.heap S1)(hs:∀k,S k->S1 k)
  (hb:∀k,k<w.heap.size->(∀j∈G,Q1 (F0 s j)=true->¬Bk (ρ j) k)->w1.heap[k]?=w.heap[k]?) (hB:∀k,Bk v k->Q1 x=true->S1 k/\((∃j∈G,Q1 (F0 s j)=true/\Bk (ρ j) k)\/w.heap.size<=k))
  (hx:K3 E (C6 ρ s.nid v) (s.nid+1) w1.heap S1 x v) (a1:∀q i f,x≠.rof q i f):Rp E A ((Z0 s G).new x) (C6 ρ s.nid v) S1 a as w1:=by
 obtain⟨g1,g2,g3,g4,t,g5⟩:=a0q G s;have e0:(Z0 s G).new x={ s with th:=(s.nid,x) :: (t++s.th),nid:=s.nid+1 }:=by
  simp_all[St.new]
 have hl:∀j,F0 ((Z0 s G).new x) j=if s.nid=j then x else if j∈G then .gone else F0 s j:=fun j=>by rw[l0N,d0K,g1]
 rw[e0]at hl ⊢;have c:∀j,j∉G->j<s.nid->b0V s { s with th:=(s.nid,x) :: (t++s.th),nid:=s.nid+1 } ρ (C6 ρ s.nid v) S1 w w1 j:=fun j hg l=>
  ⟨by grind,l,n5 O',fun b k hk=>⟨hb k ((h.th j).live b k hk) (fun z o p y=>h.dj z j (fun e=>hg (e▸o)) p b k y hk),hs k (h.ow j b k hk).1⟩⟩
 refine h.step (nid1:=s.nid+1) ⟨cx,kp,fun i hi=>by grind [n5],le_succ _⟩ (fun j=>?_) fun r q i f m e F t xs u=>?_
 ·by_cases e:s.nid=j
  ·subst e;refine .inr ⟨by rw[hl,if_pos rfl,W4];exact hx,fun g k hk=>?_,fun hle=>O'⟩;rw[hl,if_pos rfl]at g;rw[W4]at hk;obtain⟨k1,n⟩:=hB k hk g;refine⟨⟨k1,?_⟩,fun j U b d=>?_⟩
   ·rcases n with⟨j,_,I,C⟩|n
    ·exact(h.ow j I k C).2
    ·exact⟨fun h0=>by have:=h.cx.lt0 k h0;have:=h.cx.size;omega,.inr (by have:=h.cx.size;omega)⟩
   ·rw[hl,if_neg (fun e=>U e.symm)]at b;split at b
    ·cases b
    ·rename_i hg;rw[n5 U]at d;rcases n with⟨z,I,C,k5⟩|n
     ·exact h.dj z j (fun e=>hg (e▸I)) C b k k5 d
     ·have:=(h.th j).live b k d;omega
  ·by_cases l:j<s.nid
   ·by_cases hg:j∈G
    ·rw[hl,if_neg e,if_pos hg];exact .inr ⟨trivial,(fun g=>by cases g),fun _=>rfl⟩
    simp_all
   ·rw[hl,if_neg e];have:(if j∈G then Th.gone else F0 s j)=.gone:=by
     split
     ·rfl
     ·exact h.lt j O'
    rw[this];exact .inr ⟨trivial,(fun g=>by cases g),fun _=>rfl⟩
 ·rw[hl]at m;split at m
  ·simp_all
  ·split at m
   ·cases m
   ·rename_i hg;have J:=h.c0a m;rw[hl,if_neg O']at u;split at u
    ·cases u
    ·rename_i R;exact .inl ⟨c r hg (h.i7 (by simp_all)),c q R J⟩
def G03 {s1 s2:St E.D}{q:Nat}(h:W6 s1 s2 q=true)(he:Ext s s1)(k:Ext s1 s2):W6 s s2 q=true:=by
 obtain⟨t,c⟩:=he.th;obtain⟨d,b⟩:=k.th;unfold W6 at h;obtain⟨p,hp,e⟩:=any_eq_true.1 h
 grind [beq_eq,h0J]
def B05 {G:List Nat}{j:Nat}(c:j∈G):∀s:St E.D,W6 s (Z0 s G) j=true:=by
 induction G with
 |nil=>cases c
 |cons i r ih=>
  intro s;rcases mem_cons.1 c with rfl|h
  ·exact g0S (s1:=s.at j .gone) (f0g s) (Ext.at s j _) (Ext.Z0 _ r)
  ·obtain⟨t,e⟩:=(Ext.Z0 (s.at i .gone) r).th;have b:=ih h (s.at i .gone);unfold W6 at b;rw[e,length_append,Nat.add_sub_cancel,List.take_left' rfl]at b;obtain⟨p,hp,d⟩:=any_eq_true.1 b;rw[beq_eq]at d;subst d;exact h0J (t:=t++[(i,.gone)]) (by simp_all[Z0,St.at]) (List.mem_append_left _ hp)
theorem F0V {G:List Nat}{j:Nat}{x:Th E.D}(b:j∈G):W6 s ((Z0 s G).new x) j=true:=g0S (B05 b s) (Ext.Z0 s G) (Ext.new _ _)
def Rp.t03 (h:Rp E A s ρ S a as w){x:Th E.D}{v:Value}(z:∀k,Bk v k->Q1 x=true->(S k/\¬A.S0 k/\Wr A.W0 A.w0 k)/\∀j,Q1 (F0 s j)=true->¬Bk (ρ j) k)
  (p:K3 E (C6 ρ s.nid v) (s.nid+1) w.heap S x v) (m:∀q i f,x=.rof q i f->q<s.nid/\∀e F t xs,F0 s q=.X0 e F t xs none->b06 w.heap (hd (ρ q)) F.length i f v):Rp E A (s.new x) (C6 ρ s.nid v) S a as w:=by
 have hl:∀j,F0 { s with th:=(s.nid,x) :: s.th,nid:=s.nid+1 } j=if s.nid=j then x else F0 s j:=fun j=>l0N s j x;have b:∀j,j<s.nid->b0V s { s with th:=(s.nid,x) :: s.th,nid:=s.nid+1 } ρ (C6 ρ s.nid v) S w w j:=fun j d=>
  ⟨by grind,d,n5 O',fun c k hk=>⟨rfl,(h.ow j c k hk).1⟩⟩
 refine h.step (nid1:=s.nid+1) ⟨h.cx,P0.refl _ _,fun i hi=>by grind [n5],le_succ _⟩ (fun j=>?_) fun r q i f g e F t xs I=>?_
 ·by_cases e:s.nid=j
  ·subst e;refine .inr ⟨by rw[hl,if_pos rfl,W4];exact p,fun l k hk=>?_,fun hle=>O'⟩;rw[hl,if_pos rfl]at l;rw[W4]at hk;obtain⟨o,J⟩:=z k hk l;refine⟨o,fun j u c y=>?_⟩;rw[hl,if_neg (fun e=>u e.symm)]at c
   simp_all[n5]
  ·by_cases d:j<s.nid
   ·simp_all
   ·rw[hl,if_neg e,h.lt j O'];exact .inr ⟨trivial,(fun l=>by cases l),fun _=>rfl⟩
 ·rw[hl]at g;split at g
  ·rename_i C;obtain⟨h1,R⟩:=m q i f g
   grind [n5,W4]
  ·have n:=h.c0a g;exact .inl ⟨b r (h.i7 (by simp_all)),b q n⟩
def e0u {id e:Nat}{F:List Nat}{o:Option (Int×Nat)}{t:U}{xs:List (Den E.D t)}(h:c0X E s id=some (e,F,o,⟨t,xs⟩)):F0 s id=.X0 e F t xs o:=by
 unfold c0X at h
 grind
def t0Z:∀{l:List U} {f:Nat},b0B l=true->f<l.length->c0g E l f=f
 |[],f,_,d=>by grind
 |t :: l,0,_,_=>rfl
 |t :: l,f+1,hb,d=>by
  simp only[b0B,and_eq_true]at hb;obtain⟨c,b⟩:=hb;cases t<;>simp only[i0f,Bool.false_eq_true]at c
  simp only[c0g];rw[t0Z b (by simp_all)];exact Nat.add_comm 1 f
def r0f {D:Nat->Type}:∀{l:List U} {h:HL D l} {f:Nat} {t:U} {y:Den D t},I5 l h f=some ⟨t,y⟩->j0F l f=some t/\f<l.length
 |[],_,f,_,_,h=>by grind [I5]
 |t :: l,h,0,_,_,hg=>by
  obtain⟨rfl,_⟩:=hg;exact⟨rfl,X'⟩
 |t :: l,h,f+1,_,_,hg=>by
  obtain⟨h1,b⟩:=r0f (l:=l) hg;exact⟨h1,by simp_all⟩
def w01 {t u w':U}{x:Den E.D t}{f:Nat}{ys:List (Den E.D w')}(h:q0H E t f=some u)(b:V2 E t x f=some ⟨w',ys⟩):w'=u:=by
 cases t<;>simp only[q0H]at h<;>try cases h
 ·cases f<;>simp only at h<;>try cases h
  exact(congrArg Sigma.fst (Option.some.inj (show some _=some _ from b))).symm
 ·rename_i k;split at h<;>try cases h
  rename_i c;have b:c0N (I5 (E.fs k) (E.un k x) f)=some ⟨w',ys⟩:=b;cases hg:I5 (E.fs k) (E.un k x) f with
  |none=>rw[hg]at b;cases b
  |some p=>
   obtain⟨d,y⟩:=p;rw[hg]at b;have:=(r0f hg).1;rw[c]at this;cases this;exact(congrArg Sigma.fst (Option.some.inj b)).symm
def u0C {t:U}{F:List Nat}{q:List B6}{f:Nat}(b:C9 E t F=true)(h:i02 E t q=some f)(c:f<F.length):D4 q=f:=by
 simp only[C9,and_eq_true,beq_eq]at b;unfold i02 at h;split at h<;>try cases h
 ·rfl
 ·split at h<;>try cases h
  simp_all[n05,t0Z,D4]
def r0D (h:Rp E A s ρ S a as w){e:Nat}{u:U}{v:V E.D}{i:Value}(n:VS E ρ s.nid w.heap S v i){g:Option Nat}{ys:List (Den E.D u)}(c:g0u E s e u v=some (g,ys)):
  E5 E w.heap S e u ys i/\i.oneCell'=true/\(match g with|none=>i=z7|some j=>ρ j=i/\∃l b,F0 s j=.lst e l b):=by
 cases v with
 |nil=>
  obtain⟨rfl,rfl⟩:=c;obtain rfl:=n.b0q;exact⟨⟨[],⟨X',.inl ⟨rfl,none,rfl⟩⟩,R1.nil⟩,rfl,rfl⟩
 |sl j=>
  simp only[g0u]at c;split at c<;>try cases c
  rename_i e' l b hl;split at c<;>try cases c
  rename_i f m;rw[beq_eq]at f;subst f;obtain⟨o,m⟩:=a0u m;subst o;subst m;have hl:=j0O hl;have d:=h.th j;rw[hl]at d;obtain⟨_,rfl⟩:=n.a0m;have d:E5 E w.heap S e l b (ρ j):=d;obtain⟨q,c',k⟩:=d.form;have p:hd (ρ j)=ρ j:=by rw[k];rfl
  rw[p];exact⟨d,by rw[k];rfl,rfl,l,b,hl⟩
 |_=>grind [g0u]
def Rp.m0m (h:Rp E A s ρ S a as w){r0 e f:Nat}{j:Int}{F:List Nat}{t0:U}{xs:List (Den E.D t0)}{g:Value}(q:F0 s r0=.X0 e F t0 xs none)(i:b06 w.heap (hd (ρ r0)) F.length j f g):
  ∃cs,v7 E w.heap S e F t0 xs none (ρ r0) cs/\(0<=j/\j<xs.length)/\f<F.length/\cs[rowAt F j.toNat f]?=some g/\(Go.X.tl (ρ r0))[rowAt F j.toNat f]?=some g:=by
 obtain⟨t,u,m2,c2,p,x,v,l⟩:=i;have c:=h.th r0;rw[q]at c;obtain⟨cs,c⟩:=c;have d:=c.row;rw[p]at d;obtain⟨rfl,_,_,b⟩:=Row.cell d O';have m:j.toNat<xs.length:=O'
 have k:rowAt F j.toNat f<xs.length*(J0 E t0).sz:=by
  rw[(d0C c.ok).1];unfold rowAt;have:j.toNat*F.length+F.length<=xs.length*F.length:=by rw[<-succ_mul];exact mul_le_mul_right _ m
  omega
 have n:=b w.heap rfl _ k;have l:O1 w.heap t (u+rowAt F j.toNat f)=some g:=l;rw[l]at n;have r:=e0P (o:=none) v X' n.symm X';rw[<-c.tl]at r
 grind
def Rp.w0u (h:Rp E A s ρ S a as w){w1:World}{r0 e f e':Nat}{j:Int}{F:List Nat}{t0 u:U}{xs:List (Den E.D t0)}{x:Den E.D t0}{r:List (Den E.D u)}{q:Value}(hq:F0 s r0=.X0 e F t0 xs none)(J:b06 w.heap (hd (ρ r0)) F.length j f q)
  (I:V2 E t0 x f=some ⟨u,r⟩) (b6:∀d,d≠f->V2 E t0 x d=V2 E t0 (E6 E t0 xs j) d) (c0:F[f]?=some e') (hb:∀k,k<w.heap.size->B1 q≠some k->w1.heap[k]?=w.heap[k]?) (cx:Cx A.w0 A.W0 A.S0 w1 S) (kp:P0 w.heap S w1.heap S) (hL:E5 E w1.heap S e' u r q):
  Rp E A (s.at r0 (.X0 e F t0 (xs.set j.toNat x) none)) ρ S a as w1:=by
 obtain⟨cs,c,k2,k3,h5,h8⟩:=h.m0m hq J;have l:Q1 (F0 s r0)=true:=by rw[hq];rfl
 have b5:=a0r (E:=E) (t:=t0) (xs:=xs) k2.1 k2.2;have C:∀(p:Nat) (r':Value),(Go.X.tl (ρ r0))[p]?=some r'->p≠rowAt F j.toNat f->∀b,B1 r'=some b->B1 q≠some b:=fun p r' hp b7 b b3 R=>
  c.ap (p+1) (rowAt F j.toNat f+1) r' q O' (by simp_all) (by simp_all) b b3 R
 have i:∀b',B1 (hd (ρ r0))=some b'->w1.heap[b']?=w.heap[b']?:=fun b' g=>hb b' (Row.live c.row b' g) (fun hk=>c.ap 0 (rowAt F j.toNat f+1) (hd (ρ r0)) q O' rfl (by simp_all) b' g hk);refine h.turn (w1:=w1) (S1:=S) (id:=r0) (v:=ρ r0) (x:=.X0 e F t0 (xs.set j.toNat x) none) (h.i7 (by simp_all)) l cx kp (fun _ h=>h) (fun k' b2 hn=>hb k' b2 (fun e=>hn (Bk.tl (mem_of_getElem? h8) e))) rfl (fun k hk=>(h.ow r0 l k hk).1) ?_ X' ?_
 ·refine⟨cs,by rw[length_set];exact Row.mono i c.row,c.tl,c.ok,c.bd,fun n x' d u' m z g1 g2 g3 g4=>?_,c.one,c.ap⟩;have a1:d<F.length:=(List.getElem?_eq_some_iff.1 g3).1;have old:∀x0,xs[n]?=some x0->V2 E t0 x0 d=some ⟨u',m⟩->(n≠j.toNat\/d≠f)->∃r',cs[rowAt F n d]?=some r'/\E5 E w1.heap S z u' m r':=by
   intro x0 q1 q2 q3;obtain⟨r',p1,y⟩:=c.rows n _ d u' m z q1 q2 g3 X';have p8:=e0P (o:=none) a1 X' p1 X';rw[<-c.tl]at p8;refine⟨r',p1,y.mono kp fun b' g=>hb b' (by obtain⟨_,b4,_⟩:=y;grind [Row.live]) (C _ r' p8 (fun e=>?_) b' g)⟩
   grind [w0H]
  grind
 ·intro e' F' t' b9 z r' n d b1;obtain⟨_,rfl,_,_,_⟩:=z;obtain⟨b',o',m',c',p1,y,p3,p4⟩:=h.rf r' r0 n d b1 e F t0 xs hq;refine⟨b',o',m',c',p1,y,p3,?_⟩;rw[<-p4];unfold O1;rw[i b' (by have:=c.row;rw[p1]at this ⊢;exact this.i0n O')]
theorem z0A (C:T1 E)(h:Rp E A s ρ S a as w){R:Type}{k:K E R}{r:R}{T n id r0 f z:Nat}{j i:Int}{q:List B6}{v:V E.D}{up uv:Value}(b2:F0 s id=.rof r0 j f)(hp:VS E ρ s.nid w.heap S (.pe id i z q) up)(hv:VS E ρ s.nid w.heap S v uv)(c5:H5 E T=some n)(hn:vsz E v=n)(c0:c0O v=true)(hk:l03 E s n r0 j f i z q v k=some r):
  ∃s1 v w1,k s1 v=some r/\K5 E A s ρ S a as w s1 v Go.undef w1/\(Instr.storeAt T up uv).run E.P w=.ok () w1:=by
 obtain⟨c,hc,d,b4,J⟩:=hv.cells C c0;have hlen:c.length=n:=(i01 C J c0).trans hn;obtain⟨h3,c6,b,o,m,e7,hr,⟨h0,hm⟩,hu⟩:=hp.d0e;unfold l03 at hk;split at hk<;>try cases hk
 split at hk<;>try cases hk
 split at hk<;>try cases hk
 rename_i s1 y c9;split at hk<;>try cases hk
 rename_i e F t0 xs c4;split at hk<;>try cases hk
 rename_i x I;obtain⟨S1,e5,h2,he,hf,b1,e2⟩:=n0q C h c9;have hq:=e0u c4;have e6:∀g,Q1 (F0 s1 g)=true->F0 s g=F0 s1 g:=fun g ho=>by
  grind [rdD,b0g]
 have e3:F0 s r0=.X0 e F t0 xs none:=by rw[e6 r0 (by rw[hq];rfl),hq]
 obtain⟨u,ys,h9,c3,hg,l,b7⟩:=q0a C I;split at hg<;>try cases hg
 rename_i x2 b5 p;rw[and_eq_true,beq_eq,beq_eq]at b5;obtain⟨rfl,c7⟩:=b5;have b3:b0A E s r0 j f=some ⟨u,ys⟩:=by simp_all[b0A]
 obtain⟨_,e1,_,_⟩:=h.i0w b2 b3;have a1:=h.rf id r0 j f b2 e F t0 xs e3;obtain⟨cs,ht,k2,k3,h5,h8⟩:=h2.m0m hq a1;rw[e1]at hr;obtain⟨e',b9⟩:∃e',F[f]?=some e':=⟨_,List.getElem?_eq_getElem k3⟩
 obtain⟨h4,h6,hL⟩:=ht.rows j.toNat _ f u ys e' (a0r k2.1 k2.2) c3 b9 X';rw[h5]at h6;obtain rfl:=Option.some.inj h6;have c8:B1 (ρ id)=some b:=by obtain⟨_,t,_⟩:=hL;rw[hr]at t ⊢;exact t.i0n O'
 have b6:Q1 (F0 s1 r0)=true:=by simp_all
 obtain⟨hS,h7,hW⟩:=h2.ow r0 b6 b (Bk.tl (mem_of_getElem? h8) c8);rw[hr]at hL;obtain⟨w1,e9,ho,kp,U⟩:=hL.store C h0 hm p c6 (e2 c J) c7 c5 d hlen b4 hS;rw[<-hr]at U;exact⟨_,_,w1,hk,K5.of e5 (h2.w0u hq a1 l b7 b9 (fun k hk hn=>ho.block k hk (fun e=>hn (by grind))) (ho.cx h2.cx hW) kp U) VS.unit kp (he.trans (Ext.at s1 r0 _)) hf (fun k hk e4=>ho.block k hk (fun e=>e4 r0 (by rw[<-b1];exact h2.i7 (by simp_all)) O' (i0c he) (Bk.tl (mem_of_getElem? h8) (by grind)))),by simp_all⟩
theorem H0t (hE:T1 E)(h:Rp E A s ρ S a as w){R:Type}{k:K E R}{r:R}{T id z:Nat}{i:Int}{q:List B6}{v:V E.D}{up y:Value}(hp:VS E ρ s.nid w.heap S (.pe id i z q) up)(hv:VS E ρ s.nid w.heap S v y)(o2:H5 E T=some 1)(hk:m05 E s id i z q v k=some r):
  ∃s1 v w1,k s1 v=some r/\K5 E A s ρ S a as w s1 v Go.undef w1/\(Instr.storeAt T up y).run E.P w=.ok () w1:=by
 obtain⟨l2,p5,b,o0,m,o6,hr,⟨h0,hm⟩,hu⟩:=hp.d0e;unfold m05 at hk;split at hk<;>try cases hk
 rename_i e F o t xs l0;split at hk<;>try cases hk
 rename_i f hz n1;split at hk<;>try cases hk
 rename_i u e' n0 j0;split at hk<;>try cases hk
 rename_i g ys o3;split at hk<;>try cases hk
 rename_i x k4;rw[beq_eq]at hz;subst hz;have hl:=e0u l0;have ht:=h.th id;rw[hl]at ht;obtain⟨cs,ht⟩:=ht;have hf:f<F.length:=(List.getElem?_eq_some_iff.1 j0).1;have j3:K2 E t=F.length:=(d0C ht.ok).1;have k3:=u0C ht.ok n1 hf;obtain⟨k1,b2,hg⟩:=r0D h hv o3;obtain⟨u',p6,o5,j1,a1,c5,k6⟩:=q0a hE k4;obtain rfl:=w01 n0 j1;obtain⟨ec,a1⟩:=a0u a1;obtain rfl:o5=ys:=a1.symm;have e5:=ht.row;rw[hr]at e5;obtain⟨rfl,p7,C,_⟩:=Row.cell e5 O';have h6:i.toNat<xs.length:=O'
 have c4:∀j g',o=some (j,g')->j=i/\g'=f:=by
  intro j g' ho;subst ho;unfold t0K at hk;simp only at hk;split at hk<;>rename_i b1
  ·split at b1<;>cases b1
  ·split at hk<;>rename_i k0
   ·split at b1
    ·rename_i k5;rw[beq_eq]at k5;simp only[Option.some.injEq]at b1;subst b1;exact⟨of_decide_eq_true k0,k5.symm⟩
    ·simp only[Option.some.injEq]at b1;subst b1;cases k0
   ·cases hk
 have b3:k ((H7 (d0c s g) id).at id (.X0 e F t (xs.set i.toNat x) none)) (.tup [])=some r:=by
  split at hk
  ·exact hk
  ·split at hk
   ·exact hk
   ·cases hk
 have h3:rowAt F i.toNat f<cs.length:=by
  rw[ht.sz];unfold rowAt;have:i.toNat*F.length+F.length<=xs.length*F.length:=by rw[<-succ_mul];exact mul_le_mul_right _ h6
  omega
 generalize c0:rowAt F i.toNat f=p at h3;have hT:∀p',p'≠p->(Go.X.tl (ρ id))[p']?=cs[p']?:=by
  intro p' n;rw[ht.tl];unfold d0v;split
  ·rfl
  ·rename_i j g' _;obtain⟨rfl,rfl⟩:=c4 _ _ rfl;rw[List.getElem?_set_ne (by rw[c0];exact Ne.symm n)]
 have n4:cs=cs.take p++([cs[p]]++cs.drop (p+1)):=by
  rw[List.singleton_append,List.getElem_cons_drop,take_append_drop]
 obtain⟨w1,h7,ho,b9⟩:=w0w (off:=p) (c:=[y]) O' e5 n4 (by rw[length_take];omega) rfl o2 (by rw[cells_one b2]) rfl (by simpa using b2);have k8:cs.take p++([y]++cs.drop (p+1))=cs.set p y:=by
  rw[List.singleton_append,List.set_eq_take_append_cons_drop,if_pos h3]
 rw[k8]at b9;have b5:Q1 (F0 s id)=true:=by rw[hl];rfl
 obtain⟨hS,p4,hW⟩:=h.ow id b5 b (Bk.hd (by rw[hr];exact C));have kp:=ho.L0 hS;have hblk:∀I,B1 y=some I->¬Bk (ρ id) I/\∃j,g=some j/\Q1 (F0 s j)=true/\Bk (ρ j) I:=by
  intro I d;cases g with
  |none=>
   have hg:y=z7:=hg;subst hg;cases d
  |some j=>
   obtain⟨o1,u9,y9,c7⟩:=hg;have k2:Q1 (F0 s j)=true:=by rw[c7];rfl
   have h8:Bk (ρ j) I:=Bk.hd (by rw[o1,(e04 b2).1];exact d);refine⟨h.dj j id ?_ k2 b5 I h8,j,rfl,k2,h8⟩
   rintro rfl
   rw[hl]at c7;cases c7
 have hG:∃G:List Nat,H7 (d0c s g) id=Z0 s G/\(∀r' i' f',F0 s r'=.rof id i' f'->r'∈G)/\∀j,g=some j->j∈G:=by
  cases g with
  |none=>exact⟨X9 id s.th,rfl,fun r' i' f' c8=>j0H c8,fun j hj=>by cases hj⟩
  |some j=>exact⟨j :: X9 id s.th,rfl,fun r' i' f' c8=>List.mem_cons_of_mem _ (j0H c8),fun j' hj=>by cases hj;simp⟩
 obtain⟨G,n2,l3,n3⟩:=hG;rw[n2]at b3;have h2:hd (Value.tuple (hd (ρ id) :: cs.set p y).toArray)=hd (ρ id):=rfl;have h4:Go.X.tl (Value.tuple (hd (ρ id) :: cs.set p y).toArray)=cs.set p y:=rfl;have hold:∀p' u',p'≠p->(cs.set p y)[p']?=some u'->(Go.X.tl (ρ id))[p']?=some u':=fun p' u' n J=>by
  rw[List.getElem?_set_ne (Ne.symm n)]at J;rw[hT p' n];exact J
 have b6:(cs.set p y)[p]?=some y:=List.getElem?_set_self h3;have c3:Ext s (Z0 s G):=Ext.Z0 s G;refine⟨_,_,w1,b3,⟨⟨_,S,h.r01 b5 h2 (ho.cx h.cx hW) kp (fun _ h=>h) (fun I d hn=>ho.block I d (fun e=>hn (by rw[e];exact Bk.hd (by rw[hr];exact C)))) (fun I d=>?_) ?_ l3 (by intros;simp),VS.unit,kp⟩,c3.trans (Ext.at _ id _),(a0q G s).2.1,fun e9=>?_⟩,?_⟩
 ·rcases d0T.1 d with d|⟨u',J,d⟩
  ·exact .inl (Bk.hd d)
  ·rw[h4]at J;obtain⟨p',c9⟩:=List.getElem?_of_mem J
   by_cases n:p'=p
   ·subst n;rw[b6]at c9;obtain rfl:=Option.some.inj c9;obtain⟨_,j,e1,e2,e3⟩:=hblk I d;exact .inr ⟨j,n3 j e1,e2,e3⟩
   ·exact .inl (Bk.tl (mem_of_getElem? (hold p' u' n c9)) d)
 ·refine⟨cs.set p y,by rw[h2,length_set,hr];exact b9,by rw[h4];rfl,ht.ok,(fun _ _ h=>by cases h),fun i' x' f' u2 c6 e2 g1 g2 g3 _=>?_,fun u' J=>?_,fun U i2 v1 v2 n l h5 I e6 b3=>?_⟩
  ·have l4:f'<F.length:=(List.getElem?_eq_some_iff.1 g3).1;have p0:i'<xs.length:=by have:=(List.getElem?_eq_some_iff.1 g1).1;rwa [length_set]at this
   have main:∀x0,xs[i']?=some x0->V2 E t x0 f'=some ⟨u2,c6⟩->(i'≠i.toNat\/f'≠f)->∃r',(cs.set p y)[rowAt F i' f']?=some r'/\E5 E w1.heap S e2 u2 c6 r':=by
    intro x0 q1 q2 q3;have j2:rowAt F i' f'≠p:=by
     rw[<-c0];intro e;obtain⟨e3,e4⟩:=w0H l4 hf e;rcases q3 with q3|q3
     ·exact q3 e3
     ·exact q3 e4
    obtain⟨r',p1,p2⟩:=ht.rows i' _ f' u2 c6 e2 q1 q2 g3 (by
     intro ho;obtain⟨e3,e4⟩:=c4 _ _ ho;rcases q3 with q3|q3
     ·exact q3 O'
     ·exact q3 e4)
    have p3:(cs.set p y)[rowAt F i' f']?=some r':=by rw[List.getElem?_set_ne (Ne.symm j2)];exact p1
    refine⟨r',p3,p2.mono kp fun b' b7=>ho.block b' (by obtain⟨_,b4,_⟩:=p2;exact Row.live b4 b' b7) ?_⟩
    rintro rfl
    exact ht.ap 0 (rowAt F i' f'+1) (hd (ρ id)) r' O' rfl (by simpa using hold _ _ j2 p3) b' (by rw[hr];exact C) b7
   by_cases hi:i'=i.toNat
   ·subst hi;rw[List.getElem?_set_self h6]at g1;obtain rfl:=Option.some.inj g1
    by_cases e7:f'=f
    ·subst e7;rw[c5]at g2;obtain⟨rfl,g2⟩:=Sigma.mk.inj (Option.some.inj g2);have g2:=eq_of_heq g2;subst g2;rw[j0]at g3;obtain rfl:=Option.some.inj g3;refine⟨y,by rw[c0];exact b6,k1.mono kp fun b' b7=>ho.block b' (by obtain⟨_,b4,_⟩:=k1;exact Row.live b4 b' b7) ?_⟩
     rintro rfl
     exact(hblk b' b7).1 (Bk.hd (by rw[hr];exact C))
    ·rw[k6 f' e7]at g2;exact main _ (a0r h0 hm) g2 (.inr e7)
   ·rw[List.getElem?_set_ne (Ne.symm hi)]at g1;exact main _ g1 g2 (.inl hi)
  ·rcases List.mem_or_eq_of_mem_set J with h9|rfl
   ·exact ht.one _ h9
   ·exact b2
  ·rw[h2,h4]at l h5;have key:∀(U:Nat) (v1:Value),(hd (ρ id) :: cs.set p y)[U]?=some v1->(U=p+1/\v1=y)\/(U≠p+1/\(hd (ρ id) :: Go.X.tl (ρ id))[U]?=some v1):=by
    intro U v1 l;cases U with
    |zero=>exact .inr ⟨O',l⟩
    |succ U=>
     simp only[List.getElem?_cons_succ]at l
     by_cases e1:U=p
     ·subst e1;rw[b6]at l;exact .inl ⟨rfl,(Option.some.inj l).symm⟩
     ·exact .inr ⟨O',by simpa using hold U v1 e1 l⟩
   have F3:∀(U:Nat) (v1:Value),(hd (ρ id) :: Go.X.tl (ρ id))[U]?=some v1->B1 v1=some I->Bk (ρ id) I:=by
    intro U v1 l hk;have:=mem_of_getElem? l;rcases mem_cons.1 this with rfl|h9
    ·exact Bk.hd hk
    ·exact Bk.tl h9 hk
   rcases key U v1 l with⟨e1,rfl⟩|⟨e1,q1⟩
   ·rcases key i2 v2 h5 with⟨e2,rfl⟩|⟨e2,q2⟩
    ·omega
    ·exact(hblk I e6).1 (F3 _ _ q2 b3)
   ·rcases key i2 v2 h5 with⟨e2,rfl⟩|⟨e2,q2⟩
    ·exact(hblk I b3).1 (F3 _ _ q1 e6)
    ·exact ht.ap U i2 v1 v2 n q1 q2 I e6 b3
 ·intro o4 l1;exact ho.block e9 o4 (fun e=>l1 id l2 (by first|assumption|(rw[hl];rfl)) (i0c c3) (Bk.hd (by rw[hr,e];exact C)))
 ·rw[hu,j3,k3];have:o0+i.toNat*F.length+f=o0+p:=by rw[<-c0];unfold rowAt;omega
  rw[this];exact h7
def B0v (hE:T1 E)(h:Rp E A s ρ S a as w){R:Type}{k:K E R}{r:R}{T:Nat}{p v:V E.D}{up uv:Value}(hp:VS E ρ s.nid w.heap S p up)(hv:VS E ρ s.nid w.heap S v uv)(hk:k0Y E s T p v k=some r):
  ∃s1 v w1,k s1 v=some r/\K5 E A s ρ S a as w s1 v Go.undef w1/\(Instr.storeAt T up uv).run E.P w=.ok () w1:=by
 unfold k0Y at hk;split at hk<;>try cases hk
 rename_i n b4;split at hk<;>try cases hk
 rename_i b1;rw[and_eq_true,beq_eq]at b1;obtain⟨hn,b1⟩:=b1;obtain⟨c,hc,j,J,b9⟩:=hv.cells hE b1;have hlen:c.length=n:=(i01 hE b9 b1).trans hn;split at hk
 ·rename_i id off;obtain⟨u,_,b,hr,hu⟩:=hp.b0O;split at hk<;>try cases hk
  rename_i T' cs hb;have hl:=u0O hb;split at hk<;>try cases hk
  rename_i x1 x2 x3 h5;have ht:=h.th id;rw[hl]at ht;obtain⟨b',cc,g,e5,c6,h1⟩:=ht;obtain rfl:b=b':=by rw[g]at hr;simpa[hd,eq_comm]using hr
  obtain⟨c1,c2,c3,e,e6,h9,ha,_,hd⟩:=f0W hE h5 c6;rw[e]at e5;obtain⟨w1,t,ho,b5⟩:=o0Q b4 j hlen J e5 e6 h9;rw[hu];obtain⟨b6,c9⟩:=h.r02 hl g ho b5 (l':=x1++j6 v++x3) (by rw[append_assoc];exact ha.app (hc.app hd)) (by
   grind)
  exact⟨_,_,w1,hk,K5.of (fun _ h=>h) b6 VS.unit c9 (Ext.at s id _) rfl (fun k hk hq=>ho.block k hk (fun e=>hq id u (by rw[hl];rfl) (f0g s) (by rw[e,g];rfl))),t⟩
 ·rename_i id off q _;obtain⟨u,c0,b,hr,hu⟩:=hp.b0O;split at hk<;>try cases hk
  rename_i s1 T' l f;unfold k0Y.rdP at f;split at f<;>try cases f
  split at f<;>try cases f
  split at f<;>try cases f
  split at f<;>try cases f
  rename_i u2 _;split at f<;>try cases f
  rename_i s2 y hz I;split at f<;>try cases f
  rename_i T2 j3 hb;split at f<;>try cases f
  rename_i a1 m' h6;split at f<;>try cases f
  rename_i t' x' cr i1;split at f<;>try cases f
  rename_i z C;have hm:=y0r i1;subst hm;have c8:=y0R hz;obtain⟨S1,e4,h2,he,hf,b2,c5⟩:=n0q hE h I;have hl:=u0O hb;have ht:=h2.th id;rw[hl]at ht;obtain⟨b',cc,g,e5,c6,h1⟩:=ht;obtain rfl:b=b':=by rw[g]at hr;simpa[hd,eq_comm]using hr
  obtain⟨c1,c2,e,e6,ha,h4⟩:=b0z hE _ _ _ _ _ h6 cc c6;unfold T0 at h4;obtain⟨d1,d2,rfl,hd,b7⟩:=h4;obtain⟨e1,e2,e3,j1,hle,j0,e9⟩:=k0b hE q t' x' z d1 C c0 hd;have h3:w.heap[b]?=some (.cells ((c1++e1)++(e2++(e3++d2))).toArray T' (0,0)):=by simp_all
  obtain⟨w1,t,ho,b5⟩:=o0Q b4 j hlen J h3 (by rw[length_append,e6,hle]) O';rw[hu];have hS:=h2.ow id (by rw[hl];rfl) b (by rw[g];rfl);have kp:=ho.L0 hS.1;have j2:(J0 E t').R w.heap S1 (e1++(c++e3)) z:=e9 c (c5 c b9);obtain⟨b6,c9⟩:=h2.r02 hl g ho b5 (l':=a1++.d t' z :: cr) (by
   have:(c1++e1)++(c++(e3++d2))=c1++((e1++(c++e3))++d2):=X'
   rw[this];refine ha.app ?_;unfold T0;exact⟨_,d2,rfl,by simp_all[VC],b7⟩) (by
   grind)
  exact⟨_,_,w1,hk,K5.of e4 b6 VS.unit c9 (he.trans (Ext.at s1 id _)) hf (fun k hk hq=>ho.block k hk (fun e=>hq id u (s0L I (by rw[hl];rfl)) (i0c he) (by rw[e,g];rfl))),t⟩
 ·rename_i id i z q;obtain⟨u,c0,b,o,m,b3,hr,⟨h0,hm⟩,hu⟩:=hp.d0e;split at hk
  ·grind [beq_eq,H0t]
  ·grind [z0A]
  ·split at hk<;>try cases hk
   split at hk<;>try cases hk
   rename_i u2 _ _;split at hk<;>try cases hk
   rename_i s1 y I;split at hk<;>try cases hk
   rename_i e t' xs hb;split at hk<;>try cases hk
   rename_i x c8 C;rw[and_eq_true,beq_eq,beq_eq]at c8;obtain⟨rfl,h8⟩:=c8;obtain⟨S1,e4,h2,he,hf,b2,c5⟩:=n0q hE h I;have hl:=j0O hb;have ht:=h2.th id;rw[hl]at ht;have c4:∃A' c',ρ id=.slice A' xs.length c':=E5.form ht;obtain⟨A',c',c4⟩:=c4;have g:ρ id=.slice (some ⟨b,o,none⟩) m b3:=by rw[<-hr,c4];rfl
   have U:Q1 (F0 s1 id)=true:=by rw[hl];rfl
   have c7:Bk (ρ id) b:=by
    obtain⟨_,e7,_⟩:=ht;rw[g]at e7 ⊢;exact e7.i0n O'
   obtain⟨hS,k0,hW⟩:=h2.ow id U b c7;have hL:E5 E w.heap S1 e t' xs (.slice (some ⟨b,o,none⟩) m b3):=by rw[<-g];exact ht
   obtain⟨w1,t,ho,kp,h7⟩:=hL.store hE h0 hm C c0 (c5 c b9) h8 b4 j hlen J hS;refine⟨_,_,w1,hk,K5.of e4 (h2.turn (w1:=w1) (S1:=S1) (id:=id) (v:=ρ id) (x:=.lst e t' (xs.set i.toNat x)) (by rw[b2];exact u) U (ho.cx h2.cx hW) kp (fun _ h=>h) (fun k hk hn=>ho.block k hk (fun e=>hn (by rw[e];exact c7))) rfl (fun k hk=>(h2.ow id U k hk).1) ?_) VS.unit kp (he.trans (Ext.at s1 id _)) hf (fun k hk hq=>ho.block k hk (fun e=>hq id u (s0L I (by rw[hl];rfl)) (i0c he) (by rw[e];exact c7))),by rw[hu];exact t⟩;rw[g];exact h7
 grind
def d0p {t:U}{z:Value}{sz bytes:Nat}(h:c0r E t z sz bytes=true):sz=(J0 E t).sz/\z.cells.size=(J0 E t).sz/\0<(J0 E t).sz/\0<bytes:=by
 simp only[c0r,and_eq_true,beq_eq,Nat.blt_eq]at h;obtain⟨⟨⟨h1,d⟩,c⟩,b⟩:=h;subst h1;exact⟨rfl,d,c,b⟩
def d0U {e:Nat}{z:Value}{sz bytes:Nat}(h:c0f E e=some (z,sz,bytes)):∃i,E.P.info? e=some i/\i.zero=some z/\i.size=sz/\i.bytes=bytes:=by
 unfold c0f at h
 grind
def d0V {T e:Nat}(h:b0J E T=some e):E.P.underlying T=some (.slice e):=by
 grind [b0J]
def Rp.j0k (h:Rp E A s ρ S a as w){e:Nat}{t:U}{xs:List (Den E.D t)}{v:Value}{w1:World}(f:Below w.heap.size w w1)(g:∀k,B1 v=some k->w.heap.size<=k/\k<w1.heap.size)(l:v.oneCell'=true)
  (j:∀S1,P0 w.heap S w1.heap S1->(∀k,B1 v=some k->S1 k)->∃cs,Row w1.heap e (J0 E t).sz v xs.length cs/\R1 (J0 E t) w1.heap S1 cs xs):
  K5 E A s ρ S a as w (s.new (.lst e t xs)) (.sl s.nid) v w1:=by
 obtain⟨c,b⟩:=e04 l;obtain⟨S1,hk,i⟩:=h.new (x:=.lst e t xs) (v:=v) (w1:=w1) f (fun k hk=>g k ((b k).1 hk)) (fun S1 hk hs _=>j S1 hk fun k d=>hs k ((b k).2 d) rfl);refine⟨⟨_,S1,i,?_,hk⟩,Ext.new s _,rfl,fun k hk _=>f.block k hk⟩;exact VS.of rfl (by exact⟨lt_succ_self _,by simp_all[W4],by rw[W4,c]⟩)
def t0r {n:Nat}{H:I0}(z:Value):VC E ρ n H S (ofZ E z) z.cells.toList:=by
 have h:=l0f (E:=E) (ρ:=ρ) (S:=S) (n:=n) (H:=H) z;unfold ofZ at h ⊢;split at h
 ·exact h
 ·rw[q01]at h;exact h.a0Q
def A0c (hE:T1 E)(h:Rp E A s ρ S a as w){R:Type}{k:K E R}{r:R}{T:Nat}{n m:Operand}(hk:q0z E s T n m k=some r):
  ∃s1 v u w1,k s1 v=some r/\K5 E A s ρ S a as w s1 v u w1/\(Instr.makeSlice T (a.eval n) (a.eval m)).run E.P w=.ok u w1:=by
 unfold q0z at hk;split at hk<;>try cases hk
 rename_i e I x he hx hop;have p:n=m:=by
  unfold j0Y at hop;split at hop
  ·simp_all
  ·simp_all
  simp_all
 subst p;split at hk<;>try cases hk
 rename_i t z sz bytes ht y;split at hk<;>try cases hk
 rename_i zx C hz;obtain⟨rfl,h1,h2,h3⟩:=d0p C;obtain⟨i,hi,o,f,U⟩:=d0U y;split at hk<;>try cases hk
 rename_i c;have hT:=d0V he;have l:=E9 hx (h.val n);rw[l];simp only[R2,and_eq_true,decide_eq_true_eq]at c;obtain⟨q,rfl⟩:=Int.eq_ofNat_of_zero_le c.1;have b1:q<=q*bytes:=Nat.le_mul_of_pos_right _ h3;obtain⟨w1,d,b,hg⟩:=run_make_full (P:=E.P) w w.heap.size T e i z (J0 E t).sz hT hi o f I I q (by grind) (by grind [maxLen]) (le_refl _);have hB:Below w.heap.size w w1:=⟨hg.os,hg.tape,hg.output,hg.size,fun k hk=>hg.block k hk X'⟩
 have hm:=n0t z.cells q;rw[h1]at hm;have b:=Row.of b;have j:∀S1,(J0 E t).R w1.heap S1 z.cells.toList zx:=by
  intro S1;refine g0J (ρ:=ρ) (n:=0) hE (fun id=>?_) hz (t0r z)
  trivial
 refine⟨_,_,_,w1,hk,h.j0k hB (fun k hk=>?_) rfl fun S1 hk _=>⟨_,by simp_all,l0r (j S1) q⟩,d⟩;obtain⟨a1,rfl⟩:=d0S hk;rcases b.2 with⟨_,a,J⟩|⟨g,cap,cur,J,_,hgg,_⟩
 ·omega
 grind
def Row.m0j {H:I0}{e sz n:Nat}{v:Value}{cs:List Value}(h:Row H e sz v n cs):(Go.V.Row H e sz v n cs/\v.ownBlock=B1 v)\/(n=0/\cs=[]/\B1 v=none/\∃a,v=.slice (some a) 0 0):=by
 obtain⟨c,⟨h1,a,d⟩|⟨g,cap,cur,b,hp,r⟩⟩:=h
 ·subst h1;subst d;cases a with
  |none=>exact .inl ⟨⟨c,.inl ⟨rfl,rfl⟩⟩,rfl⟩
  |some a=>exact .inr ⟨rfl,by simp_all,rfl,a,rfl⟩
 ·refine .inl ⟨⟨c,.inr ⟨g,cap,cur,b,r⟩⟩,?_⟩;subst b;exact(e0S (a:=⟨g,0,none⟩) (m:=n) hp).symm
def inX (v:Value)(S:D0):D0:=fun k=>B1 v=some k\/S k
structure GrX (w w1:World)(v:Value):Prop where
 os:w1.os=w.os
 tape:w1.tape=w.tape
 output:w1.output=w.output
 size:w.heap.size<=w1.heap.size
 block:∀k,k<w.heap.size->B1 v≠some k->w1.heap[k]?=w.heap[k]?
def t0F {a:Option Addr}{m c k:Nat}(h:B1 (.slice a m c)=some k):(Value.slice a m c).ownBlock=some k:=by
 cases a with
 |none=>cases h
 |some a=>obtain⟨_,rfl⟩:=d0S h;rfl
def j0Z {α:Type}{T:Ty α}{t ty e:TypeId}{bytes:Nat}{z:Value}{v:Value}{xs ys:List α}{cs:List Value}{A:Option Addr}{c:Nat}(P:Program)(ht:P.underlying t=some (.slice e))(hE:(P.info? e).map (fun i=>(i.zero,i.size,i.bytes))=some (some z,T.sz,bytes))(l:(decide (z.cells.size=T.sz)&&decide (0<T.sz)&&decide (0<bytes))=true)
  (b5:Row w.heap e T.sz v xs.length cs) (b3:R1 T w.heap S cs xs) (hS:∀k,B1 v=some k->S k) (q:Q4 T w.heap S A ys) (f:K0 bytes xs ys=true):
  ∃d w1,(Builtin.append_ #[t,t] ty #[v,.slice A ys.length c]).run P w=.ok d w1/\GrX w w1 v/\(∀k,B1 d=some k->(B1 v=some k\/w.heap.size<=k)/\k<w1.heap.size)/\(∃A1 c1,d=.slice A1 (xs++ys).length c1)/\
   ∀S1,P0 w.heap S w1.heap S1->∃n,Row w1.heap e T.sz d (xs++ys).length n/\R1 T w1.heap S1 n (xs++ys):=by
 rcases b5.m0j with⟨hV,c8⟩|⟨h0,hc0,hnone,a,J⟩
 ·have b2:Ow T e (fun _=>True) w.heap S v xs:=⟨fun k hk=>⟨hS k (by simp_all),trivial⟩,cs,hV,b3⟩
  obtain⟨d,w1,m,hg,e2,r⟩:=z0l (P:=P) (w:=w) t ty e bytes z ht hE l b2 q (c:=c) f;have fin:∀S1,P0 w.heap S w1.heap S1->Ow T e (fun _=>True) w1.heap (fun k=>d.ownBlock=some k\/S1 k) d (xs++ys):=fun S1 hk=>by
   refine r (fun k=>d.ownBlock=some k\/S1 k) ⟨hk.size,fun b hb hn=>⟨fun hi=>?_,(hk.blk b hb hn).2⟩⟩ (fun _=>True) (fun k hk=>⟨.inl hk,trivial⟩);rcases hi with hi|hi
   ·grind
   ·exact(hk.blk b hb hn).1 hi
  have c3:P0 w.heap S w1.heap (fun k=>d.ownBlock=some k\/S k):=⟨hg.size,fun b hb hn=>⟨fun hi=>by
    grind,hg.block b hb (fun e1=>hn (hS b (by simp_all)))⟩⟩
  have b1:=fin _ c3;obtain⟨A1,c1,C⟩:=b1.form;refine⟨d,w1,m,⟨hg.os,hg.tape,hg.output,hg.size,fun k hk hn=>hg.block k hk (fun e1=>hn (by simp_all))⟩,fun k hk=>?_,⟨A1,c1,C⟩,fun S1 hk=>?_⟩
  ·have c4:d.ownBlock=some k:=by simp_all[t0F]
   refine⟨?_,b1.lt k c4⟩
   grind
  ·obtain⟨_,n,h1,R⟩:=fin S1 hk;exact⟨n,Row.ofV h1,R.L0 (P0.less fun _ h=>.inr h)⟩
 ·subst J;subst hc0;have b7:xs=[]:=eq_nil_of_length_eq_zero h0;subst b7;obtain⟨i,hi,U⟩:=Option.map_eq_some_iff.1 hE;simp only[Prod.mk.injEq]at U;obtain⟨hz,b6,c5⟩:=U;simp only[and_eq_true,decide_eq_true_eq]at l;simp only[K0,decide_eq_true_eq,List.length_nil,zero_add]at f;have c6:ys.length<=maxLen:=by
   have:ys.length<=ys.length*bytes:=Nat.le_mul_of_pos_right _ l.2
   grind [maxLen]
  rcases Nat.eq_zero_or_pos ys.length with h0|hpos
  ·have h0:ys=[]:=eq_nil_of_length_eq_zero h0;subst h0;have g1:GrX w w (.slice (some a) 0 0):=⟨rfl,rfl,rfl,le_refl _,fun _ _ _=>rfl⟩
   have g2:Row w.heap e T.sz (.slice (some a) 0 0) ([]++[]:List α).length []:=⟨X',.inl ⟨rfl,_,rfl⟩⟩
   have g3:∀k,B1 (.slice (some a) 0 0)=some k->(B1 (.slice (some a) 0 0)=some k\/w.heap.size<=k)/\k<w.heap.size:=fun k hk=>by cases hk
   refine⟨.slice (some a) 0 0,w,?_,g1,g3,⟨some a,0,rfl⟩,fun S1 hk=>⟨[],g2,R1.nil⟩⟩;cases A<;>simp[Builtin.append_,run_underlying ht,sizeOf,typeInfo,hi,Builtin.lenOf,Builtin.firstCells,loadCells,loadCellsFrom,storeCells]
  ·obtain⟨b,off,_,hA,_⟩:=q 0 ys[0] (by simp[hpos]);subst hA;have rd:∀{A:Option Addr} {xs:List α},Q4 T w.heap S A xs->∃news,R1 T w.heap S news xs/\∀b o,A=some ⟨b,o,none⟩->∀j u,news[j]?=some u->O1 w.heap b (o+0*T.sz+j)=some u:=fun hr=>Q4.news (w:=w) (k:=0) (fun i x hx=>by
    obtain⟨b,o,cs,h1,R,I⟩:=hr i x hx;exact⟨b,o,cs,h1,R,fun j v hj=>by rw[zero_add];exact I j v hj⟩)
   obtain⟨news,b4,p⟩:=rd q;have y:∀j u,news[j]?=some u->w.cell? ((⟨b,off,none⟩:Addr).add j)=some u:=by
    intro j u hj;rw[k7];have:=p b off rfl j u hj;simpa using this
   obtain⟨d,w',m,R,I⟩:=run_append_arg_grows (P:=P) w t ty e i z T.sz bytes ht hi hz b6 c5 l.1.1 l.1.2 a 0 0 [] X' (fun j u hj=>by simp at hj) ⟨b,off,none⟩ ys.length c news b4.1 y O' O' (by simpa using f);have hV:=R;obtain⟨hl,J|⟨g,cap,cur,J,c0,hg,c7,hm,c9,b9⟩⟩:=hV
   ·exact absurd J.2 O'
   ·have a1:=Row.of R;rw[zero_add,nil_append]at a1;refine⟨d,w',m,⟨I.os,I.tape,I.output,I.size,fun k hk _=>I.block k hk X'⟩,fun k hk=>?_,⟨_,_,by rw[J];simp;exact⟨rfl,rfl⟩⟩,fun S1 hk=>⟨news,by simpa using a1,by simpa using b4.L0 hk⟩⟩;rw[J]at hk;obtain⟨_,rfl⟩:=d0S hk;exact⟨.inr c0,getElem?_lt hg⟩
def h0y (h:Rp E A s ρ S a as w){t:U}{y:V E.D}{z:Value}(m:VS E ρ s.nid w.heap S y z){ys:List (Den E.D t)}(hs:e0p E s t y=some ys):
  ∃b c,z=.slice b ys.length c/\Q4 (J0 E t) w.heap S b ys:=by
 unfold e0p at hs;split at hs
 ·simp only[Option.some.injEq]at hs;subst hs;obtain rfl:=m.b0q;exact⟨none,0,rfl,fun i x n=>by grind⟩
 ·split at hs<;>try cases hs
  rename_i u p hl;obtain⟨e,hs⟩:=a0u hs;subst e;subst hs;have q:=hl;unfold c0o at hl;split at hl
  ·cases hl;obtain⟨b,c,rfl,o⟩:=m.f0Z;exact⟨b,c,rfl,o.2.2⟩
  ·obtain⟨I,rfl⟩:=m.a0m;rcases h.m0d q with⟨e,h1,_⟩|⟨b,c,h1,k⟩
   ·obtain⟨b,c,k⟩:=h1.form;rw[k]at h1;refine⟨b,c,k,fun i x n=>?_⟩;have hi:i<p.length:=(List.getElem?_eq_some_iff.1 n).1;cases b with
    |none=>
     obtain⟨cs,f,_⟩:=h1;rcases f.2 with⟨C,_⟩|⟨g,cap,cur,hv,_⟩
     ·omega
     grind
    |some ad=>
     have l:=h1;obtain⟨a1,d,_⟩:=l;rcases d.2 with⟨C,_⟩|⟨g,cap,cur,hv,_⟩
     ·omega
     ·obtain⟨rfl,_⟩:=hv;obtain⟨_,R⟩:=h1.el;obtain⟨_,cs,r,J⟩:=R i O' O';have:E6 E u p i=x:=by
       have:=a0r (E:=E) (t:=u) (xs:=p) (i:=i) O' O';rw[Int.toNat_natCast,n]at this;exact(Option.some.inj this).symm
      rw[this]at r;exact⟨g,0,cs,rfl,r,fun j v hj=>J w.heap rfl j v hj⟩
   ·exact⟨b,c,h1,k.2.2⟩
  grind
def s0w (hE:T1 E)(h:Rp E A s ρ S a as w){R:Type}{k:K E R}{r:R}{T:Nat}{x y:V E.D}{ux uy:Value}(hx:VS E ρ s.nid w.heap S x ux)(hy:VS E ρ s.nid w.heap S y uy)(ty:Nat)(hk:i08 E s T x y k=some r):
  ∃s1 v u w1,k s1 v=some r/\K5 E A s ρ S a as w s1 v u w1/\(Builtin.append_ #[T,T] ty #[ux,uy]).run E.P w=.ok u w1:=by
 unfold i08 at hk;split at hk<;>try cases hk
 rename_i e he;split at hk<;>try cases hk
 rename_i t z sz bytes ht e3;split at hk<;>try cases hk
 rename_i ys g xs c9 b2 d;split at hk<;>try cases hk
 rename_i p;obtain⟨rfl,h1,h2,h3⟩:=d0p c9;obtain⟨i,hi,e6,e5,e7⟩:=d0U e3;have hT:=d0V he;obtain⟨A',c,rfl,b4⟩:=h0y h hy b2;have b5:(E.P.info? e).map (fun i=>(i.zero,i.size,i.bytes))=some (some z,(J0 E t).sz,bytes):=by simp_all
 have c3:(decide (z.cells.size=(J0 E t).sz)&&decide (0<(J0 E t).sz)&&decide (0<bytes))=true:=by simp_all
 unfold v0q at d;split at d
 ·obtain⟨rfl,rfl⟩:=d;obtain rfl:=hx.b0q;obtain⟨v',w1,n,hg,U,⟨A1,c1,m⟩,l⟩:=j0Z (S:=S) (w:=w) (ty:=ty) (v:=.slice none 0 0) (xs:=([]:List (Den E.D t))) (cs:=[]) (c:=c) E.P hT b5 c3 ⟨X',.inl ⟨rfl,none,rfl⟩⟩ R1.nil (fun k hk=>by cases hk) b4 p;have hB:Below w.heap.size w w1:=⟨hg.os,hg.tape,hg.output,hg.size,fun k hk=>hg.block k hk (by simp[B1])⟩
  subst m;refine⟨_,_,_,w1,hk,h.j0k hB (fun k hk=>?_) rfl fun S1 hk hs=>l S1 hk,n⟩;obtain⟨I,h6⟩:=U k hk;rcases I with I|I
  ·cases I
  omega
 ·rename_i id;split at d<;>try cases d
  rename_i e' t' zs hl;split at d<;>try cases d
  rename_i b6 C;rw[beq_eq]at b6;subst b6;obtain⟨e2,C⟩:=a0u C;subst e2;subst C;obtain⟨c7,rfl⟩:=hx.a0m;have hl:=j0O hl;have f:Q1 (F0 s id)=true:=by rw[hl];rfl
  have b1:=h.th id;rw[hl]at b1;obtain⟨A0,c0,b7⟩:=E5.form b1;have b3:hd (ρ id)=ρ id:=by rw[b7];rfl
  have o:∀k,Bk (ρ id) k↔B1 (ρ id)=some k:=fun k=>by rw[b7];rfl
  rw[b3];obtain⟨cs,c4,b9⟩:=b1;have hS:=fun k hk=>(h.ow id f k ((o k).2 hk))
  obtain⟨v',w1,n,hg,U,⟨A1,c1,m⟩,l⟩:=j0Z (S:=S) (w:=w) (ty:=ty) (c:=c) E.P hT b5 c3 c4 b9 (fun k hk=>(hS k hk).1) b4 p;subst m;have j:P0 w.heap S w1.heap (inX (Value.slice A1 (zs++ys).length c1) S):=⟨hg.size,fun b q hn=>⟨fun hi=>by
    rcases hi with hi|hi
    ·grind
    simp_all,hg.block b q (fun e=>hn (hS b e).1)⟩⟩
  obtain⟨e1,a1,J⟩:=l _ j;have e4:Cx A.w0 A.W0 A.S0 w1 (inX (Value.slice A1 (zs++ys).length c1) S):=by
   have cx:=h.cx;refine⟨⟨hg.os.trans cx.bel.os,hg.tape.trans cx.bel.tape,hg.output.trans cx.bel.output,le_trans cx.bel.size hg.size,fun k hk hn=>(hg.block k (by have:=cx.size;omega) (fun e=>?_)).trans (cx.bel.block k hk hn)⟩,fun b q=>.inr (cx.sub b q),fun b q=>?_,cx.lt0⟩
   ·rcases(hS k e).2.2 with h2|h2
    ·grind
    ·omega
   ·rcases q with q|q
    ·simp_all
    ·exact Nat.lt_of_lt_of_le (cx.lt b q) hg.size
  have c6:Rp E A ((Z0 s [id]).new (Th.lst e t' (zs++ys))) (C6 ρ s.nid (Value.slice A1 (zs++ys).length c1)) (inX (Value.slice A1 (zs++ys).length c1) S) a as w1:=
   h.take e4 j (fun k hk=>.inr hk) (fun k hk hn=>hg.block k hk (fun e=>hn id X' f ((o k).2 e))) (fun k hk _=>⟨.inl hk,((U k hk).1).imp (fun I=>⟨id,X',f,(o k).2 I⟩) (fun I=>O')⟩) ⟨e1,a1,J⟩ X'
  refine⟨_,_,_,w1,hk,⟨⟨_,_,c6,?_,j⟩,(Ext.at s id .gone).trans (Ext.new _ _),rfl,fun e9=>?_⟩,n⟩
  ·exact VS.of rfl (by unfold VC;exact⟨lt_succ_self _,by rw[W4];rfl,by rw[W4];rfl⟩)
  ·intro c8 c5;exact hg.block e9 c8 (fun e=>c5 id c7 f (g0S (f0g s) (Ext.at s id .gone) (Ext.new _ _)) ((o e9).2 e))
 simp_all
def y0s (_hE:T1 E)(h:Rp E A s ρ S a as w){id r0 f:Nat}{j:Int}{s1:St E.D}(hl:F0 s id=.rof r0 j f)(C:n0h E s r0 j f=some s1):
  ∃ ρ1,Rp E A s1 ρ1 S a as w/\(∀i,i<s.nid->hd (ρ1 i)=hd (ρ i))/\VS E ρ1 s1.nid w.heap S (.sl s.nid) (hd (ρ id))/\Ext s s1/\s1.fr=s.fr/\(∀q,q<s.nid->Q1 (F0 s1 q)=true->Q1 (F0 s q)=true)/\(∃r',r'<s.nid/\Q1 (F0 s r')=true/\W6 s s1 r'=true/\∀q k,q<s1.nid->Bk (ρ1 q) k->(q<s.nid/\Bk (ρ q) k)\/Bk (ρ r') k)/\s.nid<=s1.nid:=by
 unfold n0h at C;split at C<;>try cases C
 rename_i e F t xs c6;split at C<;>try cases C
 rename_i u zs e' h0 e7;have hq:=e0u c6;have n:Q1 (F0 s r0)=true:=by rw[hq];rfl
 have c8:=h.i7 (id:=r0) (by simp_all);obtain⟨b2,o2,m2,c2,k1,k2,k3,k4⟩:=h.rf id r0 j f hl e F t xs hq;have z:=h.th r0;rw[hq]at z;obtain⟨cs,z⟩:=z;have b4:=z.row;rw[k1]at b4;obtain⟨rfl,_,_,R⟩:=Row.cell b4 O';have c4:V2 E t (E6 E t xs j) f=some ⟨u,zs⟩:=by simp_all[b0A]
 have b9:=a0r (E:=E) (t:=t) (xs:=xs) k2.1 k2.2;obtain⟨h2,h5,hL⟩:=z.rows j.toNat _ f u zs _ b9 c4 e7 X';have b7:rowAt F j.toNat f<cs.length:=(List.getElem?_eq_some_iff.1 h5).1;have h6:=R w.heap rfl _ (by rw[<-z.row.1];omega);rw[h5]at h6;have k4:O1 w.heap b2 (o2+rowAt F j.toNat f)=some (ρ id):=k4;rw[k4]at h6;obtain rfl:=Option.some.inj h6;have h8:=e0P (o:=none) k3 X' h5 X';rw[<-z.tl]at h8;have e9:Go.X.tl (ρ r0)=cs:=z.tl;generalize e6:rowAt F j.toNat f=p at b7 h5 h8;have b1:hd (Value.tuple (hd (ρ r0) :: cs.set p z7).toArray)=hd (ρ r0):=rfl;have c3:Go.X.tl (Value.tuple (hd (ρ r0) :: cs.set p z7).toArray)=cs.set p z7:=rfl;have key:∀(g:Nat) (v1:Value) d,(hd (ρ r0) :: cs.set p z7)[g]?=some v1->B1 v1=some d->g≠p+1/\(hd (ρ r0) :: Go.X.tl (ρ r0))[g]?=some v1:=by
  intro g v1 d m hk;cases g with
  |zero=>simp_all
  |succ g=>
   simp only[List.getElem?_cons_succ]at m ⊢
   by_cases e1:g=p
   ·subst e1;rw[List.getElem?_set_self b7]at m;obtain rfl:=Option.some.inj m;cases hk
   grind
 have F3:∀(g:Nat) (v1:Value) d,(hd (ρ r0) :: Go.X.tl (ρ r0))[g]?=some v1->B1 v1=some d->Bk (ρ r0) d:=by
  intro g v1 d m hk;rcases mem_cons.1 (mem_of_getElem? m)with rfl|h9
  ·exact Bk.hd hk
  grind [Bk.tl]
 have a1:∀d,Bk (Value.tuple (hd (ρ r0) :: cs.set p z7).toArray) d->∃g v1,g≠p+1/\(hd (ρ r0) :: Go.X.tl (ρ r0))[g]?=some v1/\B1 v1=some d:=by
  intro d b;have:∃u'∈hd (ρ r0) :: cs.set p z7,B1 u'=some d:=by
   rcases d0T.1 b with b|⟨u',b3,b⟩
   ·exact⟨_,List.mem_cons_self,b⟩
   ·exact⟨u',List.mem_cons_of_mem _ b3,b⟩
  obtain⟨u',b3,l⟩:=this;obtain⟨g,e3⟩:=List.getElem?_of_mem b3;obtain⟨q1,U⟩:=key g u' d e3 l;exact⟨g,u',q1,U,l⟩
 have c9:=h.r01 (id:=r0) (x:=.X0 e F t xs (some (j,f))) (v:=Value.tuple (hd (ρ r0) :: cs.set p z7).toArray) (G:=X9 r0 s.th) n b1 h.cx (P0.refl _ _) (fun _ h=>h) (fun _ _ _=>rfl) (fun d b=>by
   obtain⟨g,v1,_,U,q3⟩:=a1 d b;exact .inl (F3 g v1 d U q3)) (by
   refine⟨cs,z.row,by rw[c3];unfold d0v;simp only[e6],z.ok,fun j' g' r=>?_,fun i' x' f' u2 e4 r g1 g2 g3 g4=>?_,z.one,fun g i2 v1 v2 c7 m c5 d b6 l=>?_⟩
   ·cases r;exact⟨k2.1,k3⟩
   ·exact z.rows i' x' f' u2 e4 r g1 g2 g3 X'
   ·rw[b1,c3]at m c5;exact z.ap g i2 v1 v2 c7 (key g v1 d m b6).2 (key i2 v2 d c5 l).2 d b6 l) (fun r' i' f' e5=>j0H e5) (by intros;simp)
 have c:((Z0 s (X9 r0 s.th)).at r0 (Th.X0 e F t xs (some (j,f)))).nid=s.nid:=(a0q _ s).1;have y:=E5.form hL;obtain⟨A0,c0,y⟩:=y;have J:=c9.t03 (x:=.lst e' u zs) (v:=ρ id) (fun d b _=>by
   rw[y]at b;have b:B1 (ρ id)=some d:=by rw[y];exact b
   refine⟨h.ow r0 n d (Bk.tl (mem_of_getElem? h8) b),fun j' I l=>?_⟩
   by_cases r:j'=r0
   ·subst r;rw[W4]at l;obtain⟨g,v1,q1,U,q3⟩:=a1 d l;exact z.ap g (p+1) v1 (ρ id) q1 U (by simpa using h8) d q3 b
   ·rw[n5 r]at l;rw[T8,if_neg (Ne.symm r),d0K]at I;split at I
    ·cases I
    ·exact h.dj r0 j' (Ne.symm r) n I d (Bk.tl (mem_of_getElem? h8) b) l) hL (fun _ _ _ e=>by cases e)
 rw[c]at J;refine⟨_,J,fun i hi=>?_,?_,((Ext.Z0 s _).trans (Ext.at _ r0 _)).trans (Ext.new _ _),(a0q _ s).2.1,fun q hq C=>?_,?_,?_⟩
 ·rw[n5 O']
  by_cases r:i=r0
  ·subst r;rw[W4];exact b1
  ·rw[n5 r]
 ·refine VS.of rfl ?_;unfold VC;rw[W4];have c:((H7 s r0).at r0 (Th.X0 e F t xs (some (j,f)))).nid=s.nid:=c;refine⟨by show s.nid<_+1;rw[c];omega,by rw[y];rfl,rfl⟩
 ·have c:((H7 s r0).at r0 (Th.X0 e F t xs (some (j,f)))).nid=s.nid:=c;rw[l0N,if_neg (by rw[c];omega),T8]at C;split at C
  ·rename_i r;subst r;exact n
  ·unfold H7 at C;rw[d0K]at C;split at C
   ·cases C
   ·exact C
 ·refine⟨r0,c8,n,g0S (i0c (Ext.Z0 s _)) ((Ext.Z0 s _).trans (Ext.at _ r0 _)) (Ext.new _ _),fun q d b5 b=>?_⟩;have c:((H7 s r0).at r0 (Th.X0 e F t xs (some (j,f)))).nid=s.nid:=c;have b5:q<s.nid+1:=by rw[<-c];exact b5
  by_cases e1:q=s.nid
  ·subst e1;rw[W4]at b;rw[y]at b;exact .inr (Bk.tl (mem_of_getElem? h8) (by rw[y];exact b))
  ·rw[n5 e1]at b
   by_cases r:q=r0
   ·subst r;rw[W4]at b;obtain⟨g,v1,_,U,q3⟩:=a1 d b;exact .inr (F3 g v1 d U q3)
   ·rw[n5 r]at b;exact .inl ⟨O',b⟩
 ·have c:((H7 s r0).at r0 (Th.X0 e F t xs (some (j,f)))).nid=s.nid:=c;show s.nid<=_+1;rw[c];omega
def b01 (n:Nat):Ty (List Value) where
 sz:=n
 R:=fun _ _ cs x=>cs=x/\x.length=n/\∀v∈x,v.oneCell'=true
 len:=by simp_all
 one:=by simp
 L0:=fun _ h=>h
def t0a {n:Nat}{H:I0}{S:D0}:∀(b:List (List Value)) (cs:List Value),R1 (b01 n) H S cs b->cs=b.flatten
 |[],cs,h=>by
  have:=h.1
  simp_all
 |z :: b,cs,h=>by
  have c:=h.2 0 z rfl;simp only[Nat.zero_mul,List.drop_zero]at c;obtain⟨h1,f,_⟩:=c;have hl:cs.length=(b.length+1)*n:=h.1;have e:=t0a (H:=H) (S:=S) b (cs.drop n) ⟨by show(cs.drop n).length=b.length*n;grind,fun i x d=>by
   have:=h.2 (i+1) x d;show(((cs.drop n).drop (i*n)).take n)=x/\_;rw[drop_drop,show n+i*n=(i+1)*n from by grind];exact this⟩
  grind [take_append_drop]
def n0U {n:Nat}{H:I0}{S:D0}:∀(m:Nat) (cs:List Value),cs.length=m*n->(∀v∈cs,v.oneCell'=true)->∃b:List (List Value),b.length=m/\b.flatten=cs/\R1 (b01 n) H S cs b
 |0,cs,h,_=>by
  have:cs=[]:=eq_nil_of_length_eq_zero O';subst this;exact⟨[],rfl,rfl,R1.nil⟩
 |m+1,cs,h,h1=>by
  rw[succ_mul]at h;obtain⟨b,f,g,e⟩:=n0U (n:=n) (H:=H) (S:=S) m (cs.drop n) (by simp_all) (fun v c=>h1 v (List.mem_of_mem_drop c));have d:(b01 n).R H S (cs.take n) (cs.take n):=⟨rfl,by simp_all,fun v c=>h1 v (List.mem_of_mem_take c)⟩
  refine⟨cs.take n :: b,by grind,by simp_all,?_⟩;have:=(R1.one d).append e
  simp_all
structure M7 (E:Env)(H:I0)(S:D0)(F:List Nat)(t:U)(xs:List (Den E.D t))(cs:List Value):Prop where
 len:cs.length=xs.length*F.length
 rows:∀(i:Nat) (x:Den E.D t) (f:Nat) (u:U) (ys:List (Den E.D u)) (e':Nat),xs[i]?=some x->V2 E t x f=some ⟨u,ys⟩->F[f]?=some e'->∃r,cs[rowAt F i f]?=some r/\E5 E H S e' u ys r
 one:∀u∈cs,u.oneCell'=true
def M7.app {H:I0}{F:List Nat}{t:U}{xs ys:List (Den E.D t)}{cs c:List Value}(h:M7 E H S F t xs cs)(k:M7 E H S F t ys c):M7 E H S F t (xs++ys) (cs++c):=by
 refine⟨by rw[length_append,length_append,h.len,k.len,Nat.add_mul],fun i x f u b e' h1 e d=>?_,fun u hu=>?_⟩
 ·rcases lt_or_ge i xs.length with hi|hi
  ·rw[List.getElem?_append_left hi]at h1;obtain⟨r,j,g⟩:=h.rows i x f u b e' h1 e d
   grind
  ·rw[List.getElem?_append_right hi]at h1;obtain⟨r,j,g⟩:=k.rows _ x f u b e' h1 e d;have:rowAt F i f=cs.length+rowAt F (i-xs.length) f:=by
    unfold rowAt;rw[h.len];have:i*F.length=xs.length*F.length+(i-xs.length)*F.length:=by rw[<-Nat.add_mul];simp_all
    omega
   grind
 ·rcases mem_append.1 hu with h1|h1
  ·exact h.one u h1
  ·exact k.one u h1
def M7.mono {H c:I0}{S1:D0}{F:List Nat}{t:U}{xs:List (Den E.D t)}{cs:List Value}(kp:P0 H S c S1)(g:∀u∈cs,∀b,B1 u=some b->c[b]?=H[b]?)(h:M7 E H S F t xs cs):M7 E c S1 F t xs cs:=
 ⟨h.len,fun i x f u ys e' h1 k j=>by
  obtain⟨r,d,e⟩:=h.rows i x f u ys e' h1 k j;exact⟨r,d,e.mono kp (g r (mem_of_getElem? d))⟩,h.one⟩
theorem M7.live {H:I0}{F:List Nat}{t:U}{xs:List (Den E.D t)}{cs:List Value}(g:C9 E t F=true)(h:M7 E H S F t xs cs):∀u∈cs,∀b,B1 u=some b->b<H.size:=by
 intro u hu b i;obtain⟨p,hp⟩:=List.getElem?_of_mem hu;have c:p<xs.length*F.length:=by rw[<-h.len];grind
 have hn:0<F.length:=by
  grind
 have hi:p / F.length<xs.length:=(Nat.div_lt_iff_lt_mul hn).2 c;have e:=Nat.mod_lt p hn;have d:p=rowAt F (p / F.length) (p % F.length):=by
  simp[rowAt,Nat.mul_comm,Nat.div_add_mod]
 obtain⟨w',ys,f⟩:=(d0C g).2 xs[p / F.length] _ e;obtain⟨r,h1,_,j,_⟩:=h.rows (p / F.length) _ (p % F.length) w' ys _ (List.getElem?_eq_getElem hi) f (List.getElem?_eq_getElem e);rw[<-d,hp]at h1;obtain rfl:=Option.some.inj h1;exact Row.live j b i
def D0D (h:Rp E A s ρ S a as w){e:Nat}{F:List Nat}{t:U}{x:V E.D}{m:Value}(p:VS E ρ s.nid w.heap S x m){g:Option Nat}{xs:List (Den E.D t)}(hd:g0Z E s e F t x=some (g,xs)):
  ∃cs,Row w.heap e (J0 E t).sz m xs.length cs/\(C9 E t F=true->M7 E w.heap S F t xs cs)/\d07 (m :: cs)/\∀u∈m :: cs,∀k,B1 u=some k->∃j,g=some j/\j<s.nid/\Q1 (F0 s j)=true/\Bk (ρ j) k:=by
 cases x with
 |nil=>
  obtain⟨rfl,rfl⟩:=hd;obtain rfl:=p.b0q;refine⟨[],⟨X',.inl ⟨rfl,none,rfl⟩⟩,fun _=>⟨X',fun i x f u ys e' h1=>by grind,X'⟩,fun i j v I _ C _ k hk=>?_,fun u hu k hk=>?_⟩
  ·grind
  ·simp at hu;subst hu;cases hk
 |sl id=>
  simp only[g0Z]at hd;split at hd<;>try cases hd
  rename_i e' J R r l;split at hd<;>try cases hd
  rename_i d o;rw[and_eq_true,beq_eq,beq_iff_eq]at d;obtain⟨rfl,rfl⟩:=d;obtain⟨q,o⟩:=a0u o;subst q;subst o;obtain⟨n,rfl⟩:=p.a0m;have hl:=e0u l;have b:=h.th id;rw[hl]at b;obtain⟨cs,b⟩:=b;have c:Go.X.tl (ρ id)=cs:=b.tl;refine⟨cs,b.row,fun _=>⟨b.sz,fun i x f u ys e' h1 z y=>b.rows i x f u ys e' h1 z y X',b.one⟩,by rw[<-c];exact b.ap,fun u hu k hk=>⟨id,rfl,n,by rw[hl];rfl,?_⟩⟩;rcases mem_cons.1 hu with rfl|hu
  ·exact Bk.hd hk
  grind [Bk.tl]
 |_=>simp[g0Z]at hd
theorem v7.of {H:I0}{e:Nat}{F:List Nat}{t:U}{xs:List (Den E.D t)}{v0:Value}{cs:List Value}(b:Row H e (J0 E t).sz v0 xs.length cs)(c:C9 E t F=true)(g:M7 E H S F t xs cs)(d:d07 (v0 :: cs)):v7 E H S e F t xs none (.tuple (v0 :: cs).toArray) cs:=
 ⟨b,rfl,c,(fun _ _ h=>by cases h),fun i x f u ys e' h1 k j _=>g.rows i x f u ys e' h1 k j,g.one,d⟩
def A00 (hE:T1 E)(h:Rp E A s ρ S a as w){R:Type}{k:K E R}{r:R}{T J:Nat}{x:V E.D}{I:Value}(hx:VS E ρ s.nid w.heap S x I)(ty:Nat)(hk:o0t E s T x J k=some r):
  ∃s1 v u w1,k s1 v=some r/\K5 E A s ρ S a as w s1 v u w1/\(Builtin.append_ #[T,T] ty #[I,hd (ρ J)]).run E.P w=.ok u w1:=by
 unfold o0t at hk;split at hk<;>try cases hk
 rename_i e he;split at hk<;>try cases hk
 rename_i t z sz bytes e2 F U b2 ht p2 n0;split at hk<;>try cases hk
 rename_i ys g xs c8 b1 k4;split at hk<;>try cases hk
 rename_i n1;split at hk<;>try cases hk
 rename_i e3;simp only[and_eq_true,beq_eq]at c8;obtain⟨⟨c8,rfl⟩,b3⟩:=c8;obtain⟨ec,b1⟩:=a0u b1;subst ec;subst b1;obtain⟨rfl,h1,h2,h3⟩:=d0p c8;obtain⟨i,hi,p5,p7,p6⟩:=d0U p2;have hT:=d0V he;have k3:=e0u n0;have c4:Q1 (F0 s J)=true:=by rw[k3];rfl
 have p4:=h.i7 (id:=J) (by simp_all);obtain⟨cs,e6,y,l1,b9⟩:=D0D h hx k4;have y:=y b3;have d:=h.th J;rw[k3]at d;obtain⟨ds,d⟩:=d;have e4:Go.X.tl (ρ J)=ds:=d.tl;have o3:(E.P.info? e).map (fun i=>(i.zero,i.size,i.bytes))=some (some z,(b01 (J0 E U).sz).sz,bytes):=by simp_all[b01]
 have o6:(decide (z.cells.size=(b01 (J0 E U).sz).sz)&&decide (0<(b01 (J0 E U).sz).sz)&&decide (0<bytes))=true:=by grind
 obtain⟨zx,h5,o5,p3⟩:=n0U (n:=(J0 E U).sz) (H:=w.heap) (S:=S) xs.length cs e6.1 y.one;obtain⟨zy,h8,o1,p1⟩:=n0U (n:=(J0 E U).sz) (H:=w.heap) (S:=S) b2.length ds d.row.1 d.one;obtain⟨A',c,l4⟩:=Row.form d.row;have b7:=d.row;rw[l4]at b7;have o2:Q4 (b01 (J0 E U).sz) w.heap S A' zy:=by
  intro p q hq;have hp:p<b2.length:=by grind
  cases A' with
  |none=>
   rcases b7.2 with⟨h0,_⟩|⟨g,cap,cur,hv,_⟩
   ·omega
   grind
  |some ad=>
   obtain⟨b,o,fl⟩:=ad;have p0:fl=none:=by
    rcases b7.2 with⟨h0,_⟩|⟨g,cap,cur,hv,_⟩
    ·omega
    grind
   subst p0;obtain⟨_,_,_,hc⟩:=Row.cell b7 O';have hR:=p1.2 p q hq;refine⟨b,o,_,rfl,hR,fun j v hj=>?_⟩;have o4:j<(J0 E U).sz:=by
    grind
   have hj:((ds.drop (p*(J0 E U).sz)).take (J0 E U).sz)[j]?=some v:=hj;rw[List.getElem?_take_of_lt o4,List.getElem?_drop]at hj;have hle:p*(J0 E U).sz+(J0 E U).sz<=b2.length*(J0 E U).sz:=by rw[<-succ_mul];exact mul_le_mul_right _ hp
   grind
 have k1:∀u∈I :: cs,∀k,B1 u=some k->S k:=fun u hu k hk=>by
  obtain⟨j,_,_,C,l⟩:=b9 u hu k hk;exact(h.ow j C k l).1
 have e7:K0 bytes zx zy=true:=by unfold K0 at e3 ⊢;rw[h5,h8];exact e3
 obtain⟨v',w1,e5,hg,h7,_,h4⟩:=j0Z (T:=b01 (J0 E U).sz) (S:=S) (w:=w) (ty:=ty) (c:=c) E.P hT o3 o6 (by rw[h5];exact e6) p3 (fun k hk=>k1 I X' k hk) o2 e7;rw[h8]at e5;have c3:∀k,k<w.heap.size->B1 I≠some k->w1.heap[k]?=w.heap[k]?:=fun k hk hn=>hg.block k hk hn;have m:P0 w.heap S w1.heap (inX v' S):=⟨hg.size,fun b hb hn=>⟨fun hi=>by
   rcases hi with hi|hi
   ·rcases(h7 b hi).1 with e|e
    ·exact hn (k1 I X' b e)
    ·omega
   ·exact hn hi,c3 b hb (fun e=>hn (k1 I X' b e))⟩⟩
 have k6:∀k,B1 v'=some k->k<w1.heap.size:=fun k hk=>(h7 k hk).2;obtain⟨p8,a1,k2⟩:=h4 _ m;have c5:=t0a _ _ k2;rw[List.flatten_append,o5,o1]at c5;subst c5;rw[length_append,h5,h8,<-length_append]at a1;have k0:∀k,B1 v'=some k->B1 I=some k\/w.heap.size<=k:=fun k hk=>(h7 k hk).1;have c6:∃A1 c1,v'=.slice A1 (xs++b2).length c1:=Row.form a1;obtain⟨A1,c1,c6⟩:=c6;have c0:∀u∈ds,∀k,B1 u=some k->Bk (ρ J) k:=fun u hu k hk=>Bk.tl (by rw[e4];exact hu) hk;have c9:∀u∈I :: cs,∀k,B1 u=some k->¬Bk (ρ J) k:=fun u hu k hk=>by
  obtain⟨j,hj,_,C,l⟩:=b9 u hu k hk;subst hj;refine h.dj j J ?_ C c4 k l
  rintro rfl
  simp at n1
 have b6:M7 E w.heap S F U b2 ds:=⟨d.sz,fun i x f u ys e' h1 h2 h3=>d.rows i x f u ys e' h1 h2 h3 X',d.one⟩
 have b4:=y.live b3;have b5:=b6.live b3;have l2:∀u∈cs,∀k,B1 u=some k->B1 I≠some k:=fun u hu k hk c7=>by
  obtain⟨p,hp⟩:=List.getElem?_of_mem hu;exact l1 0 (p+1) I u O' rfl (by simpa using hp) k c7 hk
 have e1:M7 E w1.heap (inX v' S) F U (xs++b2) (cs++ds):=
  (y.mono m fun u hu b hb=>c3 b (b4 u hu b hb) (l2 u hu b hb)).app (b6.mono m fun u hu b hb=>c3 b (b5 u hu b hb) (fun e=>c9 I X' b e (c0 u hu b hb)))
 have l0:d07 (v' :: (cs++ds)):=by
  have key:∀(i:Nat) (u:Value),(v' :: (cs++ds))[i]?=some u->∀k,B1 u=some k->(i=0/\u=v')\/(0<i/\i<=cs.length/\(I :: cs)[i]?=some u/\u∈cs)\/(cs.length<i/\(hd (ρ J) :: Go.X.tl (ρ J))[i-cs.length]?=some u/\u∈ds):=by
   intro i u hi k hk;cases i with
   |zero=>exact .inl ⟨rfl,(Option.some.inj hi).symm⟩
   |succ i=>
    simp only[List.getElem?_cons_succ]at hi;rcases lt_or_ge i cs.length with h9|h9
    ·rw[List.getElem?_append_left h9]at hi;exact .inr (.inl ⟨O',O',by simpa using hi,mem_of_getElem? hi⟩)
    ·rw[List.getElem?_append_right h9]at hi;exact .inr (.inr ⟨O',by rw[e4,show i+1-cs.length=(i-cs.length)+1 from O'];simpa using hi,mem_of_getElem? hi⟩)
  intro i j v1 v2 k5 hi hj k C l;have k8:∀u∈cs,B1 u=some k->B1 v'≠some k:=fun u hu hk c7=>by
   rcases k0 k c7 with h9|h9
   ·exact l2 u hu k hk h9
   ·have:=b4 u hu k hk;omega
  have l3:∀u∈ds,B1 u=some k->B1 v'≠some k:=fun u hu hk c7=>by
   rcases k0 k c7 with h9|h9
   ·exact c9 I X' k h9 (c0 u hu k hk)
   ·have:=b5 u hu k hk;omega
  rcases key i v1 hi k C with⟨i0,rfl⟩|⟨i0,i1,i2,i3⟩|⟨i0,i1,i2⟩
  ·rcases key j v2 hj k l with⟨j0,rfl⟩|⟨j0,j1,j2,j3⟩|⟨j0,j1,j2⟩
   ·omega
   ·exact k8 v2 j3 l C
   ·exact l3 v2 j2 l C
  ·rcases key j v2 hj k l with⟨j0,rfl⟩|⟨j0,j1,j2,j3⟩|⟨j0,j1,j2⟩
   ·exact k8 v1 i3 C l
   ·exact l1 i j v1 v2 k5 i2 j2 k C l
   ·exact c9 v1 (by simp[i3]) k C (c0 v2 j2 k l)
  ·rcases key j v2 hj k l with⟨j0,rfl⟩|⟨j0,j1,j2,j3⟩|⟨j0,j1,j2⟩
   ·exact l3 v1 i2 C l
   ·exact c9 v2 (by simp[j3]) k l (c0 v1 i2 k C)
   ·exact d.ap _ _ v1 v2 O' i1 j1 k C l
 have n4:Cx A.w0 A.W0 A.S0 w1 (inX v' S):=by
  have cx:=h.cx;refine⟨⟨hg.os.trans cx.bel.os,hg.tape.trans cx.bel.tape,hg.output.trans cx.bel.output,le_trans cx.bel.size hg.size,fun k hk hn=>(c3 k (by have:=cx.size;omega) (fun e=>?_)).trans (cx.bel.block k hk hn)⟩,fun b hb=>.inr (cx.sub b hb),fun b hb=>?_,cx.lt0⟩
  ·obtain⟨j,_,_,C,l⟩:=b9 I X' k e;rcases(h.ow j C k l).2.2 with h2|h2
   ·exact hn h2
   ·omega
  ·rcases hb with hb|hb
   ·exact k6 b hb
   ·exact Nat.lt_of_lt_of_le (cx.lt b hb) hg.size
 have hG:∃G:List Nat,(d0c s g).at J .gone=Z0 s G/\J∈G/\∀j,g=some j->j∈G:=by
  cases g with
  |none=>exact⟨[J],rfl,X',fun j hj=>by cases hj⟩
  |some j=>exact⟨[j,J],rfl,X',fun j' hj=>by cases hj;simp⟩
 obtain⟨G,n3,n2,h6⟩:=hG;rw[n3]at hk;have o0:=h.take (x:=.X0 e F U (xs++b2) none) (v:=.tuple (v' :: (cs++ds)).toArray) (G:=G) n4 m (fun k hk=>.inr hk) (fun k hk hn=>c3 k hk fun e=>by
   obtain⟨j,q0,_,C,l⟩:=b9 I X' k e;exact hn j (h6 j q0) C l) (fun k hk _=>by
   rcases d0T.1 hk with hk|⟨u,hu,hk⟩
   ·have hk:B1 v'=some k:=hk;refine⟨.inl hk,?_⟩;rcases k0 k hk with h9|h9
    ·obtain⟨j,q0,_,C,l⟩:=b9 I X' k h9;exact .inl ⟨j,h6 j q0,C,l⟩
    ·exact .inr O'
   ·have hu:u∈cs++ds:=hu;rcases mem_append.1 hu with hu|hu
    ·obtain⟨j,q0,_,C,l⟩:=b9 u (by simp[hu]) k hk;exact⟨.inr (h.ow j C k l).1,.inl ⟨j,h6 j q0,C,l⟩⟩
    ·exact⟨.inr (h.ow J c4 k (c0 u hu k hk)).1,.inl ⟨J,n2,c4,c0 u hu k hk⟩⟩) ⟨_,v7.of a1 b3 e1 l0⟩ (by intros;simp)
 refine⟨_,_,v',w1,hk,⟨⟨_,_,o0,?_,m⟩,(Ext.Z0 s G).trans (Ext.new _ _),(a0q G s).2.1,fun e9=>?_⟩,by rw[l4];exact e5⟩
 ·refine VS.of rfl ?_;unfold VC;rw[W4];refine⟨?_,by show v'.oneCell'=true;rw[c6];rfl,rfl⟩;show s.nid<(Z0 s G).nid+1;rw[(a0q G s).1];omega
 grind [F0V]
def A06 {α:Type}{T:Ty α}{t ty e:TypeId}{bytes:Nat}{z:Value}{xs ys:List α}{A B:Option Addr}{c d:Nat}(P:Program)(ht:P.underlying t=some (.slice e))(hE:(P.info? e).map (fun i=>(i.zero,i.size,i.bytes))=some (some z,T.sz,bytes))(m:(decide (z.cells.size=T.sz)&&decide (0<T.sz)&&decide (0<bytes))=true)
  (I:Sl T w.heap S B d xs) (hd:d<=xs.length) (b4:Q4 T w.heap S A ys) (p:K0 bytes xs ys=true) (c0:∀b,S b->b<w.heap.size):
  ∃w1 A1 c1,(Builtin.append_ #[t,t] ty #[.slice B xs.length d,.slice A ys.length c]).run P w=.ok (.slice A1 (xs++ys).length c1) w1/\Below w.heap.size w w1/\Sl T w1.heap S A1 c1 (xs++ys):=by
 obtain⟨i,hi,b3⟩:=Option.map_eq_some_iff.1 hE;simp only[Prod.mk.injEq]at b3;obtain⟨hz,b1,b6⟩:=b3;simp only[and_eq_true,decide_eq_true_eq]at m;simp only[K0,decide_eq_true_eq]at p;have e1:=I.1;have c5:d=xs.length:=O'
 have R:xs.length+ys.length<=maxLen:=by
  have:xs.length+ys.length<=(xs.length+ys.length)*bytes:=Nat.le_mul_of_pos_right _ m.2
  grind [maxLen]
 rcases Nat.eq_zero_or_pos ys.length with h0|hpos
 ·have h0:ys=[]:=eq_nil_of_length_eq_zero h0;subst h0;refine⟨w,B,d,?_,Below.refl _ w,by simp_all⟩;rw[List.append_nil];cases A<;>cases B<;>simp[Builtin.append_,run_underlying ht,sizeOf,typeInfo,hi,Builtin.lenOf,Builtin.firstCells,loadCells,loadCellsFrom,e1,storeCells]
 ·obtain⟨b,off,_,hA,_⟩:=b4 0 ys[0] X';subst hA;have rd:∀{A:Option Addr} {xs:List α},Q4 T w.heap S A xs->∃news,R1 T w.heap S news xs/\∀b o,A=some ⟨b,o,none⟩->∀j u,news[j]?=some u->O1 w.heap b (o+0*T.sz+j)=some u:=fun hr=>Q4.news (w:=w) (k:=0) (fun i x hx=>by
   obtain⟨b,o,cs,h1,h2,n⟩:=hr i x hx
   grind)
  obtain⟨news,J,C⟩:=rd b4;obtain⟨f,r,v⟩:=rd I.O8;have q:∀j u,news[j]?=some u->w.cell? ((⟨b,off,none⟩:Addr).add j)=some u:=by
   intro j u hj;rw[k7];have:=C b off rfl j u hj;simpa using this
  have key:∃v' w1,(Builtin.append_ #[t,t] ty #[.slice B xs.length d,.slice (some ⟨b,off,none⟩) ys.length c]).run P w=.ok v' w1/\w1.ownsRow w.heap.size e T.sz v' (xs.length+ys.length) (f++news)/\Below w.heap.size w w1:=by
   cases B with
   |none=>
    have c7:xs=[]:=by
     cases xs with
     |nil=>rfl
     |cons y ys=>obtain⟨b,o,cs,h,_⟩:=I.O8 0 y X';cases h
    subst c7;have b7:d=0:=c5;subst b7;have c4:f=[]:=eq_nil_of_length_eq_zero (by have:=r.1;simpa using this);subst c4;obtain⟨v',w',l,h2,n,_,_⟩:=run_append_own_at (P:=P) w w.heap.size t ty e i z T.sz bytes ht hi hz b1 b6 m.1.1 m.1.2 (.slice none 0 0) 0 [] ⟨X',.inl ⟨rfl,rfl⟩⟩ ⟨b,off,none⟩ ys.length c news J.1 q J.e0w (by simpa using R) (by simpa using p) (le_refl _);exact⟨v',w',l,by simpa using h2,n.os,n.tape,n.output,n.size,fun k hk=>n.block k hk (by simp[Value.ownBlock])⟩
   |some ad=>
    obtain⟨v',w',l,h2,n⟩:=run_append_arg_grows (P:=P) w t ty e i z T.sz bytes ht hi hz b1 b6 m.1.1 m.1.2 ad xs.length d f r.1 (fun j u hj=>by
     have e2:j<f.length:=by
      rcases lt_or_ge j f.length with h|h
      ·exact h
      ·rw[List.getElem?_eq_none h]at hj;cases hj
     have b9:xs≠[]:=by rintro rfl;have:=r.1;simp only[List.length_nil,Nat.zero_mul]at this;omega
     obtain⟨b2,o2,U,_⟩:=I.2.1 b9;have U:=Option.some.inj U;subst U;rw[k7];have:=v b2 o2 rfl j u hj;simpa using this) ⟨b,off,none⟩ ys.length c news J.1 q O' R p
    exact⟨v',w',l,h2,n.os,n.tape,n.output,n.size,fun k hk=>n.block k hk X'⟩
  obtain⟨v',w1,l,b5,hb⟩:=key;have hk:P0 w.heap S w1.heap S:=P0.ext S hb;obtain⟨hl,hv|⟨g,cap,cur,hv,c9,hg,c3,hm,c6,a1⟩⟩:=b5
  ·exact absurd hv.2 O'
  ·have c8:Ow T e (fun k=>w.heap.size<=k) w1.heap (fun k=>k=g\/S k) (.slice (some ⟨g,0,none⟩) (xs++ys).length cap) (xs++ys):=by
    refine⟨fun k hk=>?_,f++news,⟨by simpa using hl,.inr ⟨g,cap,cur,rfl,hg,by simpa using c3,hm,c6,by simpa using a1⟩⟩,?_⟩
    ·simp[Value.ownBlock]at hk;subst hk;exact⟨.inl rfl,c9⟩
    ·have k2:P0 w.heap S w1.heap (fun k=>k=g\/S k):=⟨hk.size,fun b hb hn=>⟨fun hi=>hi.elim (fun e=>O') hn,(hk.blk b hb hn).2⟩⟩
     exact(r.L0 k2).append (J.L0 k2)
   refine⟨w1,some ⟨g,0,none⟩,cap,by rw[l,hv];simp,hb,c8.freeze (fun _ h=>.inr h) (fun b hb hs=>?_)⟩;simp[Value.ownBlock]at hb;subst hb;have:=c0 _ hs;omega
def E06 (hE:T1 E)(h:Rp E A s ρ S a as w){R:Type}{k:K E R}{r:R}{T:Nat}{x y:V E.D}{ux uy:Value}(hx:VS E ρ s.nid w.heap S x ux)(hy:VS E ρ s.nid w.heap S y uy)(ty:Nat)(hk:q0L E s T x y k=some r):
  ∃s1 v u w1,k s1 v=some r/\K5 E A s ρ S a as w s1 v u w1/\(Builtin.append_ #[T,T] ty #[ux,uy]).run E.P w=.ok u w1:=by
 unfold q0L at hk;split at hk
 ·rename_i m C g;have q:x=.df m C:=by
   cases x<;>simp only[k0J]at g<;>try cases g
   rfl
  subst q;unfold w0Q at hk;split at hk<;>try cases hk
  rename_i e he;split at hk<;>try cases hk
  rename_i t z sz bytes ht a1;split at hk<;>try cases hk
  rename_i ys xs b1 f o;split at hk<;>try cases hk
  rename_i d;obtain⟨ec,o⟩:=a0u o;subst ec;subst o;obtain⟨rfl,h1,h2,h3⟩:=d0p b1;obtain⟨i,hi,b4,b2,b3⟩:=d0U a1;have hT:=d0V he;obtain⟨A',c,rfl,I⟩:=h0y h hy f;obtain⟨c0,j,rfl⟩:=hx;unfold VC at j;obtain⟨B,rfl,U⟩:=j;have J:(E.P.info? e).map (fun i=>(i.zero,i.size,i.bytes))=some (some z,(J0 E m).sz,bytes):=by simp_all
  have p:(decide (z.cells.size=(J0 E m).sz)&&decide (0<(J0 E m).sz)&&decide (0<bytes))=true:=by simp_all
  obtain⟨w1,A1,c1,b,n,l⟩:=A06 (c:=c) (ty:=ty) E.P hT J p U (le_refl _) I d h.cx.lt;refine⟨_,_,_,w1,hk,⟨⟨ρ,S,h.ext n,VS.of rfl (by unfold VC;exact⟨A1,c1,rfl,l⟩),P0.ext S n⟩,Ext.refl s,rfl,fun k hk _=>n.block k hk⟩,b⟩
 ·exact s0w hE h hx hy ty hk
def G0i (e:T1 E)(h:Rp E A s ρ S a as w){R:Type}{k:K E R}{r:R}{T:Nat}{x y:V E.D}{p t:Value}(n:VS E ρ s.nid w.heap S x p)(l:VS E ρ s.nid w.heap S y t)(ty:Nat)(hk:o04 E s T x y k=some r):
  ∃s1 v u w1,k s1 v=some r/\K5 E A s ρ S a as w s1 v u w1/\(Builtin.append_ #[T,T] ty #[p,t]).run E.P w=.ok u w1:=by
 unfold o04 at hk;split at hk
 ·rename_i r0 j f c;split at hk<;>try cases hk
  rename_i s1 z;cases x<;>simp only[q09]at c<;>try grind
  split at c<;>try cases c
  rename_i hl;obtain⟨_,rfl⟩:=n.a0m;obtain⟨ρ1,h1,h2,U,i,h5,m,I,J⟩:=y0s e h hl z;obtain⟨s2,v,u,w1,q1,d,C⟩:=s0w e h1 U (l.mono h2 J (P0.refl _ _)) ty hk;exact⟨s2,v,u,w1,q1,⟨d.rp,i.trans d.ext,d.fr.trans h5,fun k hk o=>d.old k hk (fun q e1 e0 e2 e3=>by
   obtain⟨r',g1,g0,g2,g3⟩:=I;rcases g3 q k e1 e3 with⟨g,e5⟩|g
   ·exact o q g (m q g e0) (G03 e2 i d.ext) e5
   ·exact o r' g1 g0 (g0S g2 i d.ext) g)⟩,C⟩
 ·split at hk
  ·rename_i iy b;cases y<;>simp only[v0X]at b<;>try grind
   split at b<;>try cases b
   obtain⟨_,rfl⟩:=l.a0m;exact A00 e h n ty hk
  ·exact E06 e h n l ty hk
def k04:Nat->List (Nat×Value)->Prop
 |_,[]=>True
 |j,p :: r=>p.1=j/\k04 (j+1) r
def u0I (z:Nat):∀(l:List (Nat×Value)) (j:Nat) (cells:Array Value) (d1 d2:List Value),cells.toList=d1++d2->d1.length=j*z->d2.length=l.length*z->k04 j l->(∀p∈l,p.2.cells.size=z)->
  ∃c',Instr.fill (fun i=>some (i*z,z)) cells l=some c'/\c'.toList=d1++l.flatMap (fun p=>p.2.cells.toList)
 |[],j,cells,d1,d2,h,_,h2,_,_=>by
  have:d2=[]:=eq_nil_of_length_eq_zero (by simp_all);exact⟨cells,rfl,by simp_all⟩
 |(i,u) :: l,j,cells,d1,d2,h,h1,h2,b,hs=>by
  have f:i=j:=b.1;subst f;have b:k04 (i+1) l:=b.2;have hu:u.cells.size=z:=hs (i,u) X';have n:d2=d2.take z++d2.drop z:=(take_append_drop z d2).symm;simp only[List.length_cons,succ_mul]at h2;have d:u.cells.toList.length=z:=O'
  generalize g:u.cells.toList=cl at d;have o:u.cells=cl.toArray:=by grind
  have c:=n0M cl 0 (i*z) cells d1 (d2.take z) (d2.drop z) (by grind) O' (by grind);have e:(u.cells.zipIdx.foldl (fun cs (p:Value×Nat)=>cs.setIfInBounds (i*z+p.2) p.1) cells).toList=(d1++cl)++d2.drop z:=by
   grind
  obtain⟨c',q,m⟩:=u0I z l (i+1) _ (d1++cl) (d2.drop z) e (by grind) (by grind) b (fun p hp=>hs p (by grind));refine⟨c',?_,by grind⟩;have k:cells.size=d1.length+d2.length:=by have:=congrArg List.length h;grind
  simp only[Instr.fill]
  grind
def u0w (f:Operand->Value):∀(l:List (Nat×Operand)) (j:Nat),l0h j l=true->k04 j (l.map fun p=>(p.1,f p.2))
 |[],_,_=>trivial
 |(i,x) :: l,j,h=>by
  simp only[l0h,and_eq_true,beq_eq]at h;exact⟨h.1,u0w f l (j+1) h.2⟩
def r0N (e:T1 E){s1:St E.D}{n:Nat}{H:I0}{S1:D0}(m:∀id,K3 E ρ n H S1 (F0 s1 id) (ρ id)){t:U}(f:Operand->V E.D)(g:Operand->Value)(o:∀x,∀c,VC E ρ n H S (f x) c->VC E ρ n H S1 (f x) c)(hg:∀x,VS E ρ n H S (f x) (g x)):
  ∀(l:List (Nat×Operand)) (xs:List (Den E.D t)),(l.all fun p=>c0O (f p.2))=true->i0K E s1 t (l.map fun p=>f p.2)=some xs->xs.length=l.length/\R1 (J0 E t) H S1 ((l.map fun p=>(p.1,g p.2)).flatMap (fun p=>p.2.cells.toList)) xs/\∀p∈(l.map fun p=>(p.1,g p.2)),∀u∈p.2.cells.toList,u.oneCell'=true
 |[],xs,_,h=>by
  simp[i0K]at h;subst h;exact⟨rfl,R1.nil,fun p hp=>by grind⟩
 |p :: l,xs,hs,h=>by
  simp only[map_cons,i0K]at h;split at h<;>try cases h
  rename_i x i r j;simp only[List.all_cons,and_eq_true]at hs;obtain⟨h1,v,C⟩:=r0N e m f g o hg l i hs.2 j;obtain⟨c,z,d,k,b⟩:=(hg p.2).cells e hs.1;have hR:=g0J e m r (o _ _ b);refine⟨by grind,?_,fun q y u hu=>?_⟩
  ·rw[map_cons,List.flatMap_cons];have:(g p.2).cells.toList=c:=by rw[d]
   simp only[this];exact(R1.one hR).append v
  grind
def C0k (hE:T1 E)(h:Rp E A s ρ S a as w){R:Type}{k:K E R}{r:R}{T n:Nat}{parts:Array (Nat×Operand)}(hk:bsV E s T n parts.toList k=some r):
  ∃s1 v u w1,k s1 v=some r/\K5 E A s ρ S a as w s1 v u w1/\(Instr.buildSlice T n (parts.map fun p=>(p.1,a.eval p.2))).run E.P w=.ok u w1:=by
 unfold bsV at hk;split at hk<;>try cases hk
 rename_i e he;split at hk<;>try cases hk
 rename_i t z sz bytes ht c3;split at hk<;>try cases hk
 rename_i s1 l b6;split at hk<;>try cases hk
 rename_i xs b7;simp only[and_eq_true,beq_eq,Nat.ble_eq,all_eq_true]at l;obtain⟨⟨⟨⟨⟨b5,hn⟩,J⟩,c5⟩,o⟩,b⟩:=l;obtain⟨rfl,h1,h2,h3⟩:=d0p b5;obtain⟨i,hi,e1,a1,e2⟩:=d0U c3;have hT:=d0V he;obtain⟨S1,y,j,C,b2,m⟩:=a0g hE _ s _ s1 b6 S h;have U:=j.th;rw[m]at U;obtain⟨hl,d,c7⟩:=r0N hE U (N1 E s) a.eval (fun x c hc=>hc.d0h y) h.val parts.toList xs (all_eq_true.2 fun p hp=>(b p hp).1) b7;have f:∀p∈parts.toList.map (fun p=>(p.1,a.eval p.2)),p.2.cells.size=(J0 E t).sz:=by
  intro p hp;obtain⟨q,hq,rfl⟩:=List.mem_map.1 hp;obtain⟨c,hc,c9,_,c8⟩:=(h.val q.2).cells hE (b q hq).1
  grind [i01]
 have hm:n*i.size=n*(J0 E t).sz:=by rw[a1]
 obtain⟨c',hf,g⟩:=u0I (J0 E t).sz (parts.toList.map fun p=>(p.1,a.eval p.2)) 0 ((Array.range (n*i.size)).map (z.cells[· % z.cells.size]!)) [] _ rfl X' (by
  simp_all) (u0w a.eval _ 0 J) f
 simp only[nil_append]at g;have I:(Instr.buildSlice T n (parts.map fun p=>(p.1,a.eval p.2))).run E.P w=.ok (.slice (some ⟨w.heap.size,0,none⟩) n n) (w.alloc (.cells c' e)):=by
  have c6:¬n*i.size>2 ^ 24:=by
   have:n*(J0 E t).sz<=10000*1000:=Nat.mul_le_mul c5 o;omega
  by_cases h0:n*i.size=0
  ·have b3:n=0:=by
    grind [Nat.mul_eq_zero]
   subst b3;have b9:parts=#[]:=by
    grind
   subst b9;have b1:c'=#[]:=by
    grind
   subst b1;have e0:Array.range 0=#[]:=rfl;simp[Instr.buildSlice,run_underlying hT,sizeOf,typeInfo,hi,newRow,Instr.fill,e0]
  simp_all[run_buildSlice]
 have hB:=Below.new w (.cells c' e);have b4:c'.toList.length=n*(J0 E t).sz:=by rw[g,d.1,hl,hn]
 have res:=j.j0k (e:=e) (t:=t) (xs:=xs) (v:=.slice (some ⟨w.heap.size,0,none⟩) n n) hB (fun k hk=>by obtain⟨_,rfl⟩:=d0S hk;simp) rfl (fun S2 c4 _=>by
  have c0:xs.length=n:=O'
  refine⟨c'.toList,Row.ofV ⟨by simp_all,.inr ⟨w.heap.size,n,c',by rw[c0],heap_alloc_new w _,O',by grind [maxLen],O',?_⟩⟩,?_⟩
  ·grind
  ·rw[g];exact d.L0 c4)
 obtain⟨⟨ρ1,S2,r1,r2,r3⟩,r4,r5,r6⟩:=res;exact⟨_,_,_,_,hk,⟨⟨ρ1,S2,r1,r2,(P0.less y).trans r3⟩,C.trans r4,r5.trans b2,fun k hk _=>hB.block k hk⟩,I⟩
def u0N:∀(l:List U) (h:HL E.D l) (R0:List Value) {H:I0} {S:D0},b0B l=true->(a0S E l).R H S R0 h->∀f u (y:List (Den E.D u)),I5 l h f=some ⟨.list u,y⟩->∃e c,R0[f]?=some (.slice e y.length c)
 |[],_,_,_,_,_,_,f,_,_,hg=>by grind [I5]
 |t :: l,h,R0,H,S,hb,hr,f,u,y,hg=>by
  simp only[b0B,and_eq_true]at hb;obtain⟨b,d⟩:=hb;cases t<;>simp only[i0f,Bool.false_eq_true]at b
  rename_i k;obtain⟨c1,c2,rfl,⟨e,c,h1,_⟩,g⟩:=hr;subst h1;cases f with
  |zero=>
   cases hg;simp
  |succ f=>
   obtain⟨i,j,m⟩:=u0N l h.2 c2 d g f u y hg
   simp_all
def E0b (i:T1 E){H:I0}{S:D0}{t:U}{F:List Nat}{x:Den E.D t}{R0:List Value}(g:C9 E t F=true)(e:(J0 E t).R H S R0 x){f:Nat}{u:U}{ys:List (Den E.D u)}(b:V2 E t x f=some ⟨u,ys⟩):∃d c,R0[f]?=some (.slice d ys.length c):=by
 simp only[C9,and_eq_true,beq_eq]at g;obtain⟨⟨_,_⟩,hk⟩:=g;cases t with
 |list u0=>
  obtain⟨d,c,h1,_⟩:=e;subst h1;cases f with
  |zero=>
   cases b;simp
  |succ f=>exact absurd (show none=some _ from b) X'
 |st k=>
  have b:c0N (I5 (E.fs k) (E.un k x) f)=some ⟨u,ys⟩:=b;cases hg:I5 (E.fs k) (E.un k x) f with
  |none=>rw[hg]at b;cases b
  |some p=>
   obtain⟨h,y⟩:=p;rw[hg]at b;cases h with
   |list u1=>
    cases b;exact u0N _ _ _ hk ((i.st k H S R0 x).1 e) f _ _ hg
   |_=>exact absurd (show none=some _ from b) X'
 |_=>grind
def M7.F0q (n:T1 E){H:I0}{S:D0}{t:U}{F:List Nat}{z:List Value}{x:Den E.D t}(j:C9 E t F=true)(o:(J0 E t).R H S z x)(hn:∀v∈z,v=z7)(m:Nat):M7 E H S F t (List.replicate m x) (List.replicate m z).flatten:=by
 have d:=l0r o m;have e:=(d0C j).1;have b:∀v∈(List.replicate m z).flatten,v=z7:=by
  grind [List.mem_flatten]
 refine⟨by rw[<-e];exact d.1,fun i x' f u ys e' h1 r q=>?_,fun v k=>by rw[b v k];rfl⟩;have p:f<F.length:=(List.getElem?_eq_some_iff.1 q).1;obtain⟨y,c,h⟩:=E0b n j (d.2 i x' h1) r;rw[e,List.getElem?_take_of_lt p,List.getElem?_drop]at h;have g:=b _ (mem_of_getElem? h);unfold z7 at g;simp only[Value.slice.injEq]at g;have l:ys=[]:=eq_nil_of_length_eq_zero g.2.1;subst l;refine⟨_,h,[],⟨X',.inl ⟨rfl,none,?_⟩⟩,R1.nil⟩
 simp_all
def y0v {D:Nat->Type}{v:V D}(h:isNil v=true):v=.nil:=by
 grind [isNil]
def t0J {n:Nat}{H:I0}:∀{l:List (V E.D)} {c:List Value},T0 E ρ n H S l c->l.all isNil=true->∀v∈c,v=z7
 |[],c,h,_,v,b=>by simp_all[T0]
 |x :: l,c,h,hl,v,b=>by
  obtain⟨c1,c2,rfl,h1,d⟩:=h;rw[List.all_cons,and_eq_true]at hl;obtain rfl:=y0v hl.1;subst h1;rcases mem_append.1 b with b|b
  ·simp_all[z7]
  ·exact t0J d hl.2 v b
def F06 (hE:T1 E)(h:Rp E A s ρ S a as w){R:Type}{k:K E R}{r:R}{T:Nat}{n m:Operand}(hk:n0d E s T n m k=some r):
  ∃s1 v u w1,k s1 v=some r/\K5 E A s ρ S a as w s1 v u w1/\(Instr.makeSlice T (a.eval n) (a.eval m)).run E.P w=.ok u w1:=by
 unfold n0d at hk;split at hk<;>try cases hk
 rename_i e k0 x he hx hop;have b5:n=m:=by
  unfold j0Y at hop;split at hop
  ·simp_all
  ·simp_all
  simp_all
 subst b5;split at hk<;>try cases hk
 rename_i t z sz bytes F ht b7 hF;split at hk<;>try cases hk
 rename_i zx c hz;simp only[and_eq_true]at c;obtain⟨⟨c,d⟩,C⟩:=c;obtain⟨rfl,h1,h2,h3⟩:=d0p c;obtain⟨i,hi,b3,J,c0⟩:=d0U b7;split at hk<;>try cases hk
 rename_i f;have hT:=d0V he;have a1:=E9 hx (h.val n);rw[a1];simp only[R2,and_eq_true,decide_eq_true_eq]at f;obtain⟨q,rfl⟩:=Int.eq_ofNat_of_zero_le f.1;have c5:q<=q*bytes:=Nat.le_mul_of_pos_right _ h3;obtain⟨w1,y,o,hg⟩:=run_make_full (P:=E.P) w w.heap.size T e i z (J0 E t).sz hT hi b3 J k0 k0 q (by grind) (by grind [maxLen]) (le_refl _);have hB:Below w.heap.size w w1:=⟨hg.os,hg.tape,hg.output,hg.size,fun k hk=>hg.block k hk X'⟩
 have hm:=n0t z.cells q;rw[h1]at hm;have o:=Row.of o;have U:∀S1,(J0 E t).R w1.heap S1 z.cells.toList zx:=by
  intro S1;refine g0J (ρ:=ρ) (n:=0) hE (fun id=>?_) hz (t0r z)
  trivial
 have b2:∀v∈z.cells.toList,v=z7:=t0J (ρ:=ρ) (S:=S) (n:=0) (H:=w.heap) (l0f z) C;have p:∀S1,M7 E w1.heap S1 F t (List.replicate q zx) (List.replicate q z.cells.toList).flatten:=fun S1=>M7.F0q hE d (U S1) b2 q;have b:Row w1.heap e (J0 E t).sz (.slice (some ⟨w.heap.size,0,none⟩) q q) (List.replicate q zx).length (List.replicate q z.cells.toList).flatten:=by simp_all
 have l:∀v∈(List.replicate q z.cells.toList).flatten,v=z7:=by
  grind [List.mem_flatten]
 have b1:d07 (.slice (some ⟨w.heap.size,0,none⟩) q q :: (List.replicate q z.cells.toList).flatten):=by
  intro i j v v' b9 hi hj k hk c4;have key:∀(i:Nat) (v:Value),(Value.slice (some ⟨w.heap.size,0,none⟩) q q :: (List.replicate q z.cells.toList).flatten)[i]?=some v->B1 v=some k->i=0:=by
   intro i v hi hk;cases i with
   |zero=>rfl
   |succ i=>
    rw[l v (mem_of_getElem? hi)]at hk;cases hk
  grind
 obtain⟨S1,b4,b6⟩:=h.new (x:=.X0 e F t (List.replicate q zx) none) (v:=.tuple (.slice (some ⟨w.heap.size,0,none⟩) q q :: (List.replicate q z.cells.toList).flatten).toArray) (w1:=w1) hB (fun k hk=>by
   rcases d0T.1 hk with hk|⟨u,hu,hk⟩
   ·have hk:B1 (.slice (some ⟨w.heap.size,0,none⟩) q q)=some k:=hk;obtain⟨c3,rfl⟩:=d0S hk;refine⟨le_refl _,?_⟩;rcases b.2 with⟨_,a,I⟩|⟨g,cap,cur,I,_,hgg,_⟩
    ·simp at I;omega
    ·simp at I;obtain⟨rfl,_⟩:=I;exact getElem?_lt hgg
   ·rw[l u hu]at hk;cases hk) (fun S1 _ _ _=>⟨_,v7.of b d (p S1) b1⟩)
 refine⟨_,_,_,w1,hk,⟨⟨_,S1,b6,?_,b4⟩,Ext.new s _,rfl,fun k hk _=>hB.block k hk⟩,y⟩;exact VS.of rfl (by unfold VC;rw[W4];exact⟨lt_succ_self _,rfl,rfl⟩)
def y0e (h:Rp E A s ρ S a as w){R:Type}{k:K E R}{r:R}{T n:Nat}{parts:Array (Nat×Operand)}(hk:bsT E s T n parts.toList k=some r):
  ∃s1 v u w1,k s1 v=some r/\K5 E A s ρ S a as w s1 v u w1/\(Instr.buildSlice T n (parts.map fun p=>(p.1,a.eval p.2))).run E.P w=.ok u w1:=by
 unfold bsT at hk;split at hk<;>try cases hk
 rename_i e x he d;have d:parts=#[(0,x)]:=by grind
 subst d;split at hk<;>try cases hk
 rename_i u z sz bytes e' ht c7 hF;split at hk<;>try cases hk
 rename_i g ys l b9;rw[and_eq_true]at l;obtain⟨l,b1⟩:=l;obtain⟨rfl,h1,h2,h3⟩:=d0p l;obtain⟨i,hi,c5,b4,e1⟩:=d0U c7;have hT:=d0V he;obtain⟨I,a1,hg⟩:=r0D h (h.val x) b9;have J:(J0 E (.list u)).sz=1:=rfl;have b2:(Instr.buildSlice T 1 (#[(0,x)].map fun p=>(p.1,a.eval p.2))).run E.P w=.ok (.slice (some ⟨w.heap.size,0,none⟩) 1 1) (w.alloc (.cells #[a.eval x] e)):=by
  have:=run_buildSlice w T e 1 (#[(0,x)].map fun p=>(p.1,a.eval p.2)) #[a.eval x] i z hT hi c5 O' O' (by
   rw[b4,J];simp[Instr.fill,cells_one a1,Array.range];rfl)
  omega
 have C:=Below.new w (.cells #[a.eval x] e);have c:P0 w.heap S (w.alloc (.cells #[a.eval x] e)).heap (fun k=>k=w.heap.size\/S k):=⟨C.size,fun b hb hn=>⟨fun hh=>hh.elim O' hn,C.block b hb⟩⟩
 have c8:=(h.cx.ext C).more (S1:=fun k=>k=w.heap.size\/S k) (fun _ h=>.inr h) (fun b hb=>hb.elim (fun e=>by simp_all) ((h.cx.ext C).lt b));have hblk:∀o,B1 (a.eval x)=some o->∃j,g=some j/\j<s.nid/\Q1 (F0 s j)=true/\Bk (ρ j) o:=by
  intro o m;cases g with
  |none=>
   have hg:a.eval x=z7:=hg;rw[hg]at m;cases m
  |some j=>
   obtain⟨e3,u9,y9,c3⟩:=hg;exact⟨j,rfl,h.i7 (by simp_all),by rw[c3];rfl,Bk.hd (by simp_all[e04])⟩
 have q:∀o,B1 (a.eval x)=some o->o<w.heap.size:=fun o m=>by
  obtain⟨_,b5,_⟩:=I;exact Row.live b5 o m
 have hG:∃G:List Nat,d0c s g=Z0 s G/\∀j,g=some j->j∈G:=by
  cases g with
  |none=>exact⟨[],rfl,fun j hj=>by cases hj⟩
  |some j=>exact⟨[j],rfl,fun j' hj=>by simp_all⟩
 obtain⟨G,c4,c0⟩:=hG;rw[c4]at hk;have b3:Row (w.alloc (.cells #[a.eval x] e)).heap e (J0 E (.list u)).sz (.slice (some ⟨w.heap.size,0,none⟩) 1 1) [ys].length [a.eval x]:=⟨rfl,.inr ⟨w.heap.size,1,#[a.eval x],rfl,X',heap_alloc_new w _,X',by simp[maxLen],rfl,rfl⟩⟩
 have t:M7 E (w.alloc (.cells #[a.eval x] e)).heap (fun k=>k=w.heap.size\/S k) [e'] (.list u) [ys] [a.eval x]:=by
  refine⟨rfl,fun i y f u' c6 e2 g1 g2 g3=>?_,by simp_all⟩;cases i with
  |succ i=>cases g1
  |zero=>
   obtain rfl:ys=y:=Option.some.inj g1;cases f with
   |succ f=>cases g3
   |zero=>
    obtain rfl:e'=e2:=Option.some.inj g3;have g2:(⟨u,ys⟩:(u:U)×List (Den E.D u))=⟨u',c6⟩:=Option.some.inj g2;cases g2;exact⟨a.eval x,rfl,I.mono c fun b hb=>C.block b (q b hb)⟩
 have b6:d07 (.slice (some ⟨w.heap.size,0,none⟩) 1 1 :: [a.eval x]):=by
  intro i j v v' c9 hi hj k q1 q2;have key:∀(i:Nat) (v:Value),(Value.slice (some ⟨w.heap.size,0,none⟩) 1 1 :: [a.eval x])[i]?=some v->B1 v=some k->(i=0/\k=w.heap.size)\/(i=1/\k<w.heap.size):=by
   intro i v hi hk;cases i with
   |zero=>simp at hi;subst hi;cases hk;simp
   |succ i=>
    grind
  grind
 have b7:=h.take (x:=.X0 e [e'] (.list u) [ys] none) (v:=.tuple (.slice (some ⟨w.heap.size,0,none⟩) 1 1 :: [a.eval x]).toArray) (G:=G) c8 c (fun k hk=>.inr hk) (fun k hk _=>C.block k hk) (fun k hk _=>by
   rcases d0T.1 hk with hk|⟨u',hu,hk⟩
   ·have hk:B1 (.slice (some ⟨w.heap.size,0,none⟩) 1 1)=some k:=hk;cases hk;simp
   ·have hu:u'∈[a.eval x]:=hu;simp at hu;subst hu;obtain⟨j,q0,_,q1,q2⟩:=hblk k hk;exact⟨.inr (h.ow j q1 k q2).1,.inl ⟨j,c0 j q0,q1,q2⟩⟩) ⟨_,v7.of b3 b1 t b6⟩ X'
 refine⟨_,_,_,_,hk,⟨⟨_,_,b7,?_,c⟩,(Ext.Z0 s G).trans (Ext.new _ _),(a0q G s).2.1,fun k hk _=>C.block k hk⟩,b2⟩;refine VS.of rfl ?_;unfold VC;rw[W4];refine⟨?_,rfl,rfl⟩;show s.nid<(Z0 s G).nid+1;simp[a0q]
def Rp.x0j (h:Rp E A s ρ S a as w){w1:World}{id:Nat}{x:Th E.D}(l:Q1 (F0 s id)=true)(J:Q1 x=false)(cx:Cx A.w0 A.W0 A.S0 w1 S)(m:∀k,k<w.heap.size->¬Bk (ρ id) k->w1.heap[k]?=w.heap[k]?)(p:w.heap.size<=w1.heap.size)
  (b1:K3 E ρ s.nid w1.heap (fun k=>S k/\¬Bk (ρ id) k) x (ρ id)) (a1:∀q i f,x≠.rof q i f:=by intros;simp):
  Rp E A (s.at id x) ρ (fun k=>S k/\¬Bk (ρ id) k) a as w1/\P0 w.heap S w1.heap (fun k=>S k/\¬Bk (ρ id) k):=by
 have U:id<s.nid:=h.i7 (by rintro e;rw[e]at l;cases l);have hk:P0 w.heap S w1.heap (fun k=>S k/\¬Bk (ρ id) k):=⟨p,fun b C hn=>⟨fun h=>hn h.1,m b C (fun e=>hn (h.ow id l b e).1)⟩⟩
 have hl:∀j,F0 { s with th:=(id,x) :: s.th,nid:=s.nid } j=if id=j then x else F0 s j:=fun j=>T8 s id j x;have c:∀j,j≠id->j<s.nid->b0V s { s with th:=(id,x) :: s.th,nid:=s.nid } ρ ρ (fun k=>S k/\¬Bk (ρ id) k) w w1 j:=fun j R n=>
  ⟨by grind,n,rfl,fun d k g=>⟨m k ((h.th j).live d k g) (fun z=>h.dj id j (Ne.symm R) l d k z g),(h.ow j d k g).1,fun z=>h.dj id j (Ne.symm R) l d k z g⟩⟩
 refine⟨h.step (nid1:=s.nid) (th1:=(id,x) :: s.th) ⟨⟨cx.bel,fun b m=>⟨cx.sub b m,fun e=>(h.ow id l b e).2.1 m⟩,fun b m=>cx.lt b m.1,cx.lt0⟩,hk,fun _ _=>rfl,le_refl _⟩ (fun j=>?_) fun r q i f y e F t xs v=>?_,hk⟩
 ·by_cases e:id=j
  ·grind
  ·by_cases n:j<s.nid
   ·grind
   ·rw[hl,if_neg e,h.lt j O'];exact .inr ⟨trivial,(fun l=>by cases l),fun _=>rfl⟩
 ·rw[hl]at y;split at y
  ·simp_all
  ·rename_i u;have I:=h.c0a y;rw[hl]at v;split at v
   ·rw[v]at J;cases J
   ·rename_i o;exact .inl ⟨c r (Ne.symm u) (h.i7 (by simp_all)),c q (Ne.symm o) I⟩
def y0N (h:Rp E A s ρ S a as w){R:Type}{k:K E R}{r:R}{T T':Nat}{x:V E.D}{ux:Value}(hx:VS E ρ s.nid w.heap S x ux)(hk:n0T E s T T' x k=some r):
  ∃s1 v u w1,k s1 v=some r/\K5 E A s ρ S a as w s1 v u w1/\(convert T T' ux).run E.P w=.ok u w1:=by
 unfold n0T at hk;split at hk<;>try cases hk
 rename_i id;split at hk<;>try cases hk
 rename_i e e' xs o hT hl;rw[beq_eq]at o;subst o;split at hk<;>try cases hk
 rename_i he;split at hk<;>try cases hk
 have hl:=j0O hl;obtain⟨l,rfl⟩:=hx.a0m;have U:=h.th id;rw[hl]at U;obtain⟨cs,⟨z,n⟩,m⟩:=U;rcases n with⟨h0,_⟩|⟨b,cap,cur,hfo,hp0,hg,hnc,hm,hcs,htake⟩
 ·simp_all
 ·have c:Q1 (F0 s id)=true:=by rw[hl];rfl
  have f:Bk (ρ id) b:=by rw[hfo];exact e0S hp0
  have a1:∀k,Bk (ρ id) k->k=b:=fun k hk=>by rw[hfo]at hk;exact(d0S hk).2.symm
  obtain⟨hS,b1,hW⟩:=h.ow id c b f;have g:hd (ρ id)=ρ id:=by rw[hfo];rfl
  have q:w.shape? b=some (e',cur.size):=by simp_all[World.shape?]
  have J:(w.freeze ⟨b,cur.size,none⟩ 1).heap[b]?=some (.cells cur e' (cur.size,cur.size+1)):=by
   simp_all[World.freeze,Array.getElem?_modify]
  have d:j5 b w (w.freeze ⟨b,cur.size,none⟩ 1):=by
   unfold World.freeze;rw[if_neg (by decide)];exact⟨rfl,rfl,rfl,X',fun k _ hk=>by grind⟩
  have I:K3 E ρ s.nid (w.freeze ⟨b,cur.size,none⟩ 1).heap (fun k=>S k/\¬Bk (ρ id) k) (.fz (.int .u8) xs) (ρ id):=by
   obtain⟨A1,c1,h1,h2⟩:=k0f (S:=fun _=>False) ⟨z,.inr ⟨b,cap,cur,hfo,hp0,hg,hnc,hm,hcs,htake⟩⟩ (m.L0 (P0.less fun _ h=>h.elim)) (fun _ _ h=>h);rw[hfo]at h1;simp at h1;obtain⟨rfl,rfl⟩:=h1;refine⟨some ⟨b,0,none⟩,cap,by simp_all,hnc,fun _=>⟨b,0,rfl,getElem?_lt J,fun h=>h.2 f⟩,fun i y hy=>?_⟩;obtain⟨b',o',C,hA,hR,hc⟩:=h2.2.2 i y hy;simp at hA;obtain⟨rfl,rfl⟩:=hA;refine⟨b,0,C,rfl,hR,fun j v hj=>?_⟩
   simp_all[O1]
  obtain⟨p,t⟩:=h.x0j (w1:=w.freeze ⟨b,cur.size,none⟩ 1) (x:=.fz (.int .u8) xs) c rfl (d.cx h.cx hW) (fun k hk hn=>d.block k hk (fun e=>hn (by simp_all))) d.size I;refine⟨_,_,ρ id,_,hk,⟨⟨ρ,_,p,VS.of rfl (by unfold VC;exact⟨l,by rw[g,hfo];rfl,by rw[g]⟩),t⟩,Ext.at s id _,rfl,fun k hk hq=>d.block k hk (fun e=>hq id l c (f0g s) (by rw[e];exact f))⟩,?_⟩;rw[g,hfo];simp[convert,run_underlying hT,run_underlying he,markStringish,q]
def C0P {id:Nat}{x:V E.D}{m:List (Int×Int)}(h:m02 E s x=some (id,m)):x=.mp id/\F0 s id=.map m:=by
 unfold m02 at h
 grind
def Rp.y02 (h:Rp E A s ρ S a as w){id:Nat}{m d:List (Int×Int)}(hl:F0 s id=.map m){r:Nat}(c:ρ id=.map (some r)){es:Array MapEntry}{cl:Nat}(hm:H8 es.toList d)(hg:∃g,w.heap[r]?=some g):
  Rp E A (s.at id (.map d)) ρ S a as (b0D w r (.map es cl))/\P0 w.heap S (b0D w r (.map es cl)).heap S:=by
 have b:Q1 (F0 s id)=true:=by rw[hl];rfl
 obtain⟨g,hg⟩:=hg;obtain⟨j,l,i⟩:=h.ow id b r (by rw[c];rfl);have f:=q0d w r (.map es cl);have kp:=f.L0 j;refine⟨h.turn (x:=.map d) (v:=ρ id) (h.i7 (by simp_all)) b (f.cx h.cx i) kp (fun _ h=>h) (fun k hk hn=>f.block k hk (fun e=>hn (by rw[c,e];rfl))) rfl (fun k hk=>(h.ow id b k hk).1) ⟨r,es,cl,c,u0p hg,hm⟩,kp⟩
def z04 (h:Rp E A s ρ S a as w){R:Type}{k:K E R}{r:R}{T:Nat}{x i y:V E.D}{I C J:Value}(hx:VS E ρ s.nid w.heap S x I)(hi:VS E ρ s.nid w.heap S i C)(U:VS E ρ s.nid w.heap S y J)(hk:p0k E s T x i y k=some r):
  ∃s1 v w1,k s1 v=some r/\K5 E A s ρ S a as w s1 v Go.undef w1/\(Instr.mapUpdate T I C J).run E.P w=.ok () w1:=by
 unfold p0k at hk;split at hk<;>try cases hk
 rename_i id m p q hm hp j hT;obtain⟨rfl,hl⟩:=C0P hm;obtain rfl:=q0K hp hi;obtain rfl:=q0K j U;obtain⟨n,rfl⟩:=hx.l0w;obtain⟨kt,et,h1,h2,h3⟩:=v0s hT;have z:=h.th id;rw[hl]at z;obtain⟨b,es,cl,c,hg,t⟩:=z;obtain⟨u,d,g,f⟩:=B06 (P:=E.P) (k:=p) (v:=q) h1 h2 hg t;obtain⟨l,o⟩:=h.y02 (cl:=d) hl c f ⟨_,hg⟩;refine⟨_,_,_,hk,⟨⟨ρ,S,l,VS.unit,o⟩,Ext.at s id _,rfl,fun k hk j=>(q0d w _ (.map u d)).block k hk (fun e=>j id n (by rw[hl];rfl) (f0g s) (by rw[c,e];rfl))⟩,?_⟩;rw[c];exact g
def B0s (h:Rp E A s ρ S a as w){T:Nat}:
  K5 E A s ρ S a as w (s.new (.map [])) (.mp s.nid) (.map (some w.heap.size)) { w with heap:=w.heap.push (.map #[] 0) }/\(Instr.makeMap T none).run E.P w=.ok (.map (some w.heap.size)) { w with heap:=w.heap.push (.map #[] 0) }:=by
 have d:Below w.heap.size w { w with heap:=w.heap.push (.map #[] 0) }:=⟨rfl,rfl,rfl,X',fun k hk=>by grind⟩
 obtain⟨S1,b,c⟩:=h.new (x:=.map []) (v:=.map (some w.heap.size)) (w1:={ w with heap:=w.heap.push (.map #[] 0) }) d (fun k hk=>by cases hk;simp) (fun S1 _ _ _=>⟨w.heap.size,#[],0,rfl,X',rfl⟩);refine⟨⟨⟨_,S1,c,VS.of rfl (by unfold VC;rw[W4];exact⟨lt_succ_self _,rfl,rfl⟩),b⟩,Ext.new s _,rfl,fun k hk _=>d.block k hk⟩,?_⟩;rfl
def D07 {α:Type}{T:Ty α}{S:D0}{t ty e z:TypeId}{A B:Option Addr}{c d:Nat}{xs ys:List α}(P:Program)(U:P.underlying t=some (.slice e))(hE:(P.info? e).map (·.size)=some 1)(C:T.sz=1)
  (m:Ow T z (fun _=>True) w.heap S (.slice A xs.length c) xs) (q:Q4 T w.heap S B ys):
  ∃w1,(Builtin.copy_ #[t,t] ty #[.slice A xs.length c,.slice B ys.length d]).run P w=.ok (.int .i64 ((Nat.min ys.length xs.length:Nat):Int)) w1/\(w1=w\/∃g,A=some ⟨g,0,none⟩/\j5 g w w1)/\Ow T z (fun _=>True) w1.heap S (.slice A xs.length c) (j4 xs ys):=by
 by_cases h0:Nat.min ys.length xs.length=0
 ·refine⟨w,by rw[run_copy_none w t t ty e A B xs.length c ys.length d U hE h0,h0];rfl,.inl rfl,?_⟩;have:j4 xs ys=xs:=by
   rcases Nat.eq_zero_or_pos xs.length with hz|hz
   ·simp_all[j4]
   ·have b1:ys.length=0:=by
     grind
    simp_all[j4]
  simp_all
 ·have b2:0<xs.length:=by
   grind
  have hyp:0<ys.length:=by
   grind
  obtain⟨b,off,_,hB,_⟩:=q 0 ys[0] X';subst hB;obtain⟨news,f,y⟩:=Q4.news (w:=w) (xs:=ys) (k:=0) (A:=some ⟨b,off,none⟩) (T:=T) (S:=S) (fun i x hx=>by
   obtain⟨b,o,cs,h1,R,h3⟩:=q i x hx
   grind)
  obtain⟨n,cs,⟨I,r⟩,p⟩:=m;rcases r with⟨u,hz⟩|⟨g,cap,cur,u,hg,hnc,hm,hcs,htake⟩
  ·omega
  ·obtain⟨rfl,rfl⟩:=u;have a1:news.length=ys.length:=by rw[f.1,C,mul_one]
   have h:(news.take xs.length).length=Nat.min ys.length xs.length:=by grind
   have hr:=run_copy_row (P:=P) w t t ty e g 0 xs.length c ⟨b,off,none⟩ ys.length d cur z (news.take xs.length) U hE hg h (fun j v hj=>by
    rw[k7]
    grind) (by grind) (fun v u=>f.e0w v (List.mem_of_mem_take u))
   simp only[List.take_zero,nil_append,zero_add]at hr;have J:=n g (by rfl);have l:j5 g w (w.setRow g (news.take xs.length++cur.toList.drop (news.take xs.length).length).toArray):=⟨rfl,rfl,rfl,X',fun k _ hk=>by simp[World.setRow,Array.getElem?_modify,Ne.symm hk]⟩
   have hk:=l.L0 J.1;refine⟨_,by rw[hr,h];rfl,.inr ⟨g,rfl,l⟩,n,news.take xs.length++cs.drop ys.length,⟨?_,.inr ⟨g,c,(news.take xs.length++cur.toList.drop (news.take xs.length).length).toArray,by rw[b04],setRow_heap w g cur _ z _ hg,by simp_all[b04],hm,?_,?_⟩⟩,?_⟩
   ·rw[b04,C,mul_one,length_append,h,List.length_drop,I]
    grind
   ·grind
   ·rw[b04,C,mul_one];show List.take xs.length (news.take xs.length++cur.toList.drop (news.take xs.length).length)=_;rw[List.take_append,List.take_take,Nat.min_self,<-htake];congr 1;rw[List.drop_take];rcases Nat.le_total ys.length xs.length with hle|hle
    ·simp_all
    simp_all
   ·have h1:=(f.L0 hk).cut xs.length;have R:=(p.L0 hk).tail ys.length;rw[C,mul_one]at h1 R;exact h1.append R
def w0F {α:Type}{T:Ty α}{S:D0}{t ty e m:TypeId}{v:Value}{A B:Option Addr}{c d:Nat}{xs ys:List α}{cs:List Value}(P:Program)(q:P.underlying t=some (.slice e))(r:(P.info? e).map (·.size)=some 1)(C:T.sz=1)
  (f:v=.slice A xs.length c) (i:Row w.heap m T.sz v xs.length cs) (h:R1 T w.heap S cs xs) (z:∀k,B1 v=some k->S k) (n:Q4 T w.heap S B ys):
  ∃w1,(Builtin.copy_ #[t,t] ty #[v,.slice B ys.length d]).run P w=.ok (.int .i64 ((Nat.min ys.length xs.length:Nat):Int)) w1/\(w1=w\/∃g,B1 v=some g/\j5 g w w1)/\∃b,Row w1.heap m T.sz v (j4 xs ys).length b/\R1 T w1.heap S b (j4 xs ys):=by
 rcases i.m0j with⟨x,p⟩|⟨h0,hc0,hnone,a0,hv⟩
 ·have l:Ow T m (fun _=>True) w.heap S (.slice A xs.length c) xs:=by
   rw[<-f];exact⟨fun k hk=>⟨z k (by simp_all),trivial⟩,cs,x,h⟩
  obtain⟨w1,h1,I,_,b,J,u⟩:=D07 (d:=d) (ty:=ty) P q r C l n;refine⟨w1,by simp_all,I.imp id (fun⟨g,o,y⟩=>⟨g,by rw[<-p,f,o];rfl,y⟩),b,by simp_all[Row.ofV],u⟩
 ·have j:xs=[]:=eq_nil_of_length_eq_zero h0;subst j;rw[hv]at f;subst hv;have o:Nat.min ys.length ([]:List α).length=0:=by simp[]
  refine⟨w,by rw[o];exact run_copy_none w t t ty e (some a0) B 0 0 ys.length d q r O',.inl rfl,[],⟨by simp[j4],.inl ⟨by simp[j4],_,rfl⟩⟩,by simp[j4,R1.nil]⟩
def D0C (hE:T1 E)(h:Rp E A s ρ S a as w){R:Type}{k:K E R}{r:R}{T ty:Nat}{x y:V E.D}{ux uy:Value}(hx:VS E ρ s.nid w.heap S x ux)(hy:VS E ρ s.nid w.heap S y uy)(hk:copyV E s T x y k=some r):
  ∃s1 v u w1,k s1 v=some r/\K5 E A s ρ S a as w s1 v u w1/\(Builtin.copy_ #[T,T] ty #[ux,uy]).run E.P w=.ok u w1:=by
 unfold copyV at hk;split at hk<;>try cases hk
 rename_i e id hT;split at hk<;>try cases hk
 have c6:(E.P.info? e).map (·.size)=some 1:=by
  grind [H5]
 obtain⟨c3,rfl⟩:=hx.a0m;split at hk<;>try cases hk
 ·rename_i e' t xs hl;split at hk<;>try cases hk
  rename_i ys hz o;rw[beq_eq]at hz;obtain⟨A',c,rfl,U⟩:=h0y h hy o;have ht:=h.th id;rw[hl]at ht;have ht:E5 E w.heap S e' t xs (ρ id):=ht;obtain⟨A0,c0,p⟩:=ht.form;have h0:hd (ρ id)=ρ id:=by rw[p];rfl
  have b:Q1 (F0 s id)=true:=by rw[hl];rfl
  have c7:∀k,Bk (ρ id) k↔B1 (ρ id)=some k:=fun k=>by rw[p];rfl
  obtain⟨cs,n,c8⟩:=ht;obtain⟨w1,e2,b3,b1,m,l⟩:=w0F (d:=c) (ty:=ty) (S:=S) E.P hT c6 hz p n c8 (fun k hk=>(h.ow id b k ((c7 k).2 hk)).1) U;have I:Cx A.w0 A.W0 A.S0 w1 S/\P0 w.heap S w1.heap S/\∀k,k<w.heap.size->¬Bk (ρ id) k->w1.heap[k]?=w.heap[k]?:=by
   rcases b3 with rfl|⟨g,hg1,ho⟩
   ·exact⟨h.cx,P0.refl _ _,fun _ _ _=>rfl⟩
   ·have hb:Bk (ρ id) g:=(c7 g).2 hg1;obtain⟨hS,_,hW⟩:=h.ow id b g hb;exact⟨ho.cx h.cx hW,ho.L0 hS,fun k hk hn=>ho.block k hk (fun e=>hn (by simp_all))⟩
  obtain⟨b5,q,z⟩:=I;refine⟨_,_,_,w1,hk,⟨⟨ρ,S,h.turn (x:=.lst e' t (j4 xs ys)) (v:=ρ id) c3 b b5 q (fun _ h=>h) z rfl (fun k hk=>(h.ow id b k hk).1) ⟨b1,m,l⟩,VS.dI,q⟩,Ext.at s id _,rfl,fun k hk C=>z k hk (C id c3 b (f0g s))⟩,?_⟩
  simp_all
 ·rename_i r0 j f hl;split at hk<;>try cases hk
  rename_i e0 F t0 b9 t xs e4 b7;split at hk<;>try cases hk
  rename_i ys hz o;split at hk<;>try cases hk
  rename_i x c4;rw[beq_eq]at hz;obtain⟨A',c,rfl,U⟩:=h0y h hy o;have C:=e0u e4;obtain⟨u,e5,h2,n,hg,J,c9⟩:=q0a hE c4;have i:=b7;unfold b0A at i;rw[C]at i;have i:V2 E t0 (E6 E t0 b9 j) f=some ⟨t,xs⟩:=i;rw[n]at i;obtain⟨rfl,e9⟩:=Sigma.mk.inj (Option.some.inj i);have e9:=eq_of_heq e9;subst e9;split at hg<;>try cases hg
  rename_i ws b2;obtain⟨ec,b2⟩:=a0u b2;obtain rfl:ys=ws:=b2;obtain⟨_,e1,_,hblk⟩:=h.i0w hl b7;have c5:=h.rf id r0 j f hl e0 F t0 b9 C;obtain⟨cs,ht,k2,k3,h5,h8⟩:=h.m0m C c5;obtain⟨e',e3⟩:∃e',F[f]?=some e':=⟨_,List.getElem?_eq_getElem k3⟩
  obtain⟨e7,h6,hL⟩:=ht.rows j.toNat _ f u e5 e' (a0r k2.1 k2.2) n e3 X';rw[h5]at h6;obtain rfl:=Option.some.inj h6;have b:Q1 (F0 s r0)=true:=O'
  have b6:=h.i7 (id:=r0) (by simp_all);obtain⟨A0,c0,p⟩:=hL.form;obtain⟨e6,b4,a1⟩:=hL;obtain⟨w1,e2,b3,b1,m,l⟩:=w0F (d:=c) (ty:=ty) (S:=S) E.P hT c6 hz p b4 a1 (fun k hk=>(h.ow r0 b k (Bk.tl (mem_of_getElem? h8) hk)).1) U;have I:Cx A.w0 A.W0 A.S0 w1 S/\P0 w.heap S w1.heap S/\∀k,k<w.heap.size->B1 (ρ id)≠some k->w1.heap[k]?=w.heap[k]?:=by
   rcases b3 with rfl|⟨g,hob,ho⟩
   ·exact⟨h.cx,P0.refl _ _,fun _ _ _=>rfl⟩
   ·obtain⟨hS,_,hW⟩:=h.ow r0 b g (Bk.tl (mem_of_getElem? h8) hob);exact⟨ho.cx h.cx hW,ho.L0 hS,fun k hk hn=>ho.block k hk (fun e=>hn (by simp_all))⟩
  obtain⟨b5,q,z⟩:=I;refine⟨_,_,_,w1,hk,⟨⟨ρ,S,h.w0u C c5 J c9 e3 z b5 q ⟨b1,m,l⟩,VS.dI,q⟩,Ext.at s r0 _,rfl,fun k hk C=>z k hk (fun e=>C r0 b6 b (f0g s) (Bk.tl (mem_of_getElem? h8) e))⟩,?_⟩
  simp_all
def x0I (hE:T1 E)(h:Rp E A s ρ S a as w){R:Type}{k:K E R}{r:R}{T:Nat}{g:U}{m:List (Den E.D g)}{y:V E.D}{ux uy:Value}(hx:VS E ρ s.nid w.heap S (.df g m) ux)(hy:VS E ρ s.nid w.heap S y uy)(ty:Nat)(hk:p0G E s T g m y k=some r):
  ∃s1 v u w1,k s1 v=some r/\K5 E A s ρ S a as w s1 v u w1/\(Builtin.append_ #[T,T] ty #[ux,uy]).run E.P w=.ok u w1:=by
 unfold p0G at hk;split at hk<;>try cases hk
 rename_i e he;split at hk<;>try cases hk
 rename_i t z sz bytes ht a1;split at hk<;>try cases hk
 rename_i ys xs b1 l q;split at hk<;>try cases hk
 rename_i b;rw[and_eq_true,List.isEmpty_iff]at b;obtain⟨p,b⟩:=b;obtain⟨ec,q⟩:=a0u q;subst ec;subst q;obtain⟨rfl,h1,h2,h3⟩:=d0p b1;obtain⟨i,hi,b4,b2,b3⟩:=d0U a1;have hT:=d0V he;obtain⟨A',c,rfl,I⟩:=h0y h hy l;obtain⟨c0,n,rfl⟩:=hx;unfold VC at n;obtain⟨B,rfl,b5⟩:=n;subst p;have J:(E.P.info? e).map (fun i=>(i.zero,i.size,i.bytes))=some (some z,(J0 E g).sz,bytes):=by simp_all
 have x:(decide (z.cells.size=(J0 E g).sz)&&decide (0<(J0 E g).sz)&&decide (0<bytes))=true:=by simp_all
 obtain⟨v',w1,j,hg,C,⟨A1,c1,f⟩,d⟩:=j0Z (S:=S) (w:=w) (ty:=ty) (v:=.slice B 0 0) (xs:=([]:List (Den E.D g))) (cs:=[]) (c:=c) E.P hT J x ⟨X',.inl ⟨rfl,B,rfl⟩⟩ R1.nil (fun k hk=>by cases B<;>cases hk) I b;have hB:Below w.heap.size w w1:=⟨hg.os,hg.tape,hg.output,hg.size,fun k hk=>hg.block k hk (by simp[B1])⟩
 subst f;refine⟨_,_,_,w1,hk,h.j0k hB (fun k hk=>?_) rfl fun S1 hk hs=>d S1 hk,j⟩;obtain⟨o,h6⟩:=C k hk;refine⟨?_,h6⟩;rcases o with o|o
 ·cases B<;>cases o
 omega
def y0l (i:T1 E)(h:Rp E A s ρ S a as w){R:Type}{k:K E R}{r:R}{b:Bool}{T:Nat}{x y:V E.D}{j l:Value}(g:VS E ρ s.nid w.heap S x j)(f:VS E ρ s.nid w.heap S y l)(ty:Nat)(hk:q0b E b s T x y k=some r):
  ∃s1 v u w1,k s1 v=some r/\K5 E A s ρ S a as w s1 v u w1/\(Builtin.append_ #[T,T] ty #[j,l]).run E.P w=.ok u w1:=by
 unfold q0b at hk;split at hk
 ·rename_i m e c;have d:x=.df m e:=by
   cases x<;>simp only[k0J]at c<;>try cases c
   rfl
  subst d;exact x0I i h g f ty hk
 ·exact G0i i h g f ty hk
def H0g (j:T1 E)(h:Rp E A s ρ S a as w){R:Type}{k:K E R}{r:R}{tb:List Nat}{o:Oper}(hk:evE E tb s o k=some r):
  ∃s1 v u w1,k s1 v=some r/\K5 E A s ρ S a as w s1 v u w1/\((execOp a.eval o).run E.P w=.ok (.value u) w1\/(u=undef/\(execOp a.eval o).run E.P w=.ok .skip w1)):=by
 unfold evE at hk;split at hk
 ·rename_i T e;obtain⟨s1,v,u,w1,h1,d,b⟩:=B07 h hk;exact⟨s1,v,u,w1,h1,d,.inl (by simp[execOp,e,b])⟩
 ·rename_i T x e;obtain⟨s1,v,u,w1,h1,d,b⟩:=B09 j h (h.val x) hk;exact⟨s1,v,u,w1,h1,d,.inl (by simp[execOp,e,b])⟩
 ·rename_i T p x e;obtain⟨s1,v,w1,h1,d,b⟩:=B0v j h (h.val p) (h.val x) hk;exact⟨s1,v,_,w1,h1,d,.inr ⟨rfl,by simp[execOp,e,b]⟩⟩
 ·rename_i T n parts e;split at hk
  ·obtain⟨s1,v,u,w1,h1,d,b⟩:=y0e h hk;exact⟨s1,v,u,w1,h1,d,.inl (by simp[execOp,e,b])⟩
  ·obtain⟨s1,v,u,w1,h1,d,b⟩:=C0k j h hk;exact⟨s1,v,u,w1,h1,d,.inl (by simp[execOp,e,b])⟩
 ·rename_i T n m e;split at hk
  ·obtain⟨s1,v,u,w1,h1,d,b⟩:=F06 j h hk;exact⟨s1,v,u,w1,h1,d,.inl (by simp[execOp,e,b])⟩
  ·obtain⟨s1,v,u,w1,h1,d,b⟩:=A0c j h hk;exact⟨s1,v,u,w1,h1,d,.inl (by simp[execOp,e,b])⟩
 ·rename_i c e;split at hk<;>try cases hk
  ·rename_i x y T T' q t z;split at hk<;>try cases hk
   rename_i g;rw[beq_eq]at g;subst g;have f:c.args=#[x,y]:=by have:=congrArg List.toArray t;simpa using this
   have l:c.argTypes=#[T,T]:=by have:=congrArg List.toArray z;simpa using this
   obtain⟨s1,v,u,w1,h1,d,b⟩:=y0l j h (h.val x) (h.val y) o.type hk;exact⟨s1,v,u,w1,h1,d,.inl (by simp[execOp,e,resolve,q,f,l,invoke,builtin,b])⟩
  ·rename_i x y T T' q t z;split at hk<;>try cases hk
   rename_i g;rw[beq_eq]at g;subst g;have f:c.args=#[x,y]:=by have:=congrArg List.toArray t;simpa using this
   have l:c.argTypes=#[T,T]:=by have:=congrArg List.toArray z;simpa using this
   obtain⟨s1,v,u,w1,h1,d,b⟩:=D0C (ty:=o.type) j h (h.val x) (h.val y) hk;exact⟨s1,v,u,w1,h1,d,.inl (by simp[execOp,e,resolve,q,f,l,invoke,builtin,b])⟩
 ·rename_i T T' x e;obtain⟨s1,v,u,w1,h1,d,b⟩:=y0N h (h.val x) hk;exact⟨s1,v,u,w1,h1,d,.inl (by simp[execOp,e,b])⟩
 ·rename_i T e;obtain⟨d,b⟩:=B0s (T:=T) h;exact⟨_,_,_,_,hk,d,.inl (by simp[execOp,e,b])⟩
 ·rename_i T m i x e;obtain⟨s1,v,w1,h1,d,b⟩:=z04 h (h.val m) (h.val i) (h.val x) hk;exact⟨s1,v,_,w1,h1,d,.inr ⟨rfl,by simp[execOp,e,b]⟩⟩
 ·cases hk
end
end
