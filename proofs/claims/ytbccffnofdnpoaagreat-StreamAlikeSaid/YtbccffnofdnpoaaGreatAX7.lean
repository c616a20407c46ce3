/- P. Its conditions: none. -/
import Derived.Test.YtbccffnofdnpoaaGreatAX6
import Derived.Great.BuildSlice
open Nat (le_succ lt_succ_self le_refl le_trans lt_of_lt_of_le succ_mul mul_le_mul_right beq_eq add_mul mul_comm blt_eq zero_mul zero_add lt_or_ge mul_one)
open List (all_eq_true eq_nil_of_length_eq_zero length_append append_assoc drop_take nil_append drop_drop take_append_drop length_take length_set any_eq_true take_of_length_le mem_cons mem_of_getElem? length_drop mem_append map_cons)
open Bool (and_eq_true)
set_option linter.all false
namespace Go.X
open Go.V Go.RowKit
section
variable {E:Env}{A:A5}{s:St E.D}{ρ:Nat->Value}{S:E0}{a:Act}{as:List Act}{w:World}
theorem f0b {v:Value}(h:v.oneCell'=true):hd v=v/\∀k,Bk v k↔D1 v=some k:=by
 cases v<;>first|exact⟨rfl,fun _=>Iff.rfl⟩|grind [Value.oneCell']
structure X5 (E:Env)(A:A5)(s:St E.D)(ρ:Nat->Value)(S:E0)(a:Act)(as:List Act)(w:World)(s1:St E.D)(v:V E.D)(u:Value)(w1:World):Prop where
 rp:∃ ρ1 S1,Rp E A s1 ρ1 S1 a as w1/\VS E ρ1 s1.nid w1.heap S1 v u/\Y0 w.heap S w1.heap S1
 ext:Ext s s1
 fr:s1.fr=s.fr
 old:∀k,k<w.heap.size->(∀q,q<s.nid->E2 (G0 s q)=true->c7 s s1 q=true->¬Bk (ρ q) k)->w1.heap[k]?=w.heap[k]?
def c0W (s:St E.D){id:Nat}{x:Th E.D}:c7 s (s.at id x) id=true:=by
 simp[c7,St.at]
theorem Rp.A0m (h:Rp E A s ρ S a as w){l:List (V E.D)}{cs:List Value}(hl:F1 E ρ s.nid w.heap S l cs)(h1:∀u∈cs,u.oneCell'=true)(T:Nat):
  X5 E A s ρ S a as w (s.new (.box T l)) (.pb s.nid 0 []) (.pointer (some ⟨w.heap.size,0,none⟩)) (w.alloc (.cells cs.toArray T)):=by
 have b:=Below.new w (.cells cs.toArray T);obtain⟨S1,hk,c⟩:=h.new (x:=.box T l) (v:=.pointer (some ⟨w.heap.size,0,none⟩)) (w1:=w.alloc (.cells cs.toArray T)) b
  (fun k hk=>by simp_all[Bk,D1]) (fun S1 hk hs hn=>⟨w.heap.size,cs,rfl,heap_alloc_new w _,hl.mono (fun i hi=>by grind [j6]) (le_succ _) hk,h1⟩)
 refine⟨⟨_,S1,c,?_,hk⟩,Ext.new s _,rfl,fun k hk _=>b.block k hk⟩;have:=VS.pb (E:=E) (S:=S1) (H:=(w.alloc (.cells cs.toArray T)).heap) (ρ:=Q6 ρ s.nid (.pointer (some ⟨w.heap.size,0,none⟩))) (n:=s.nid+1) (id:=s.nid) (off:=0) (p:=[]) (lt_succ_self _) trivial (by rw[H5];rfl);exact this
def O06 (h:Rp E A s ρ S a as w){R:Type}{k:K E R}{r:R}{T:Nat}(hk:r0l E s T k=some r):
  ∃s1 v u w1,k s1 v=some r/\X5 E A s ρ S a as w s1 v u w1/\(Instr.alloc T true (.tuple #[])).run E.P w=.ok u w1:=by
 unfold r0l at hk;split at hk<;>try cases hk
 rename_i z b;split at hk<;>try cases hk
 rename_i h1;unfold t01 at b;split at b<;>try cases b
 refine⟨_,_,_,_,hk,h.A0m (o0x z) (all_eq_true.1 h1) T,?_⟩
 simp_all[Instr.alloc,zeroValue,typeInfo,newVar,newRow]
def K0I (d:G2 E)(h:Rp E A s ρ S a as w){R:Type}{k:K E R}{r:R}{T:Nat}{v:V E.D}{b:Value}(g:VS E ρ s.nid w.heap S v b)(hk:q0I E s T v k=some r):
  ∃s1 v u w1,k s1 v=some r/\X5 E A s ρ S a as w s1 v u w1/\(Instr.box T b).run E.P w=.ok u w1:=by
 unfold q0I at hk;split at hk<;>try cases hk
 rename_i hs;obtain⟨c,h1,f,e,_⟩:=g.cells d hs;refine⟨_,_,_,_,hk,h.A0m h1 e T,?_⟩;simp[Instr.box,newVar,newRow,f]
theorem y0r {P:Program}(b t:Nat):∀(vs:List Value) (i off:Nat) (w:World) (d1 d2 d3:List Value),w.heap[b]?=some (.cells (d1++(d2++d3)).toArray t (0,0))->d1.length=off+i->d2.length=vs.length->(∀v∈vs,v.oneCell'=true)->
  ∃w1,(storeCells ⟨b,off,none⟩ vs i).run P w=.ok () w1/\T6 b w w1/\w1.heap.size=w.heap.size/\w1.heap[b]?=some (.cells (d1++(vs++d3)).toArray t (0,0))
 |[],i,off,w,d1,d2,d3,g,_,h,_=>by
  have:d2=[]:=eq_nil_of_length_eq_zero O';subst this;exact⟨w,by rfl,⟨rfl,rfl,rfl,le_refl _,fun _ _ _=>rfl⟩,rfl,g⟩
 |v :: vs,i,off,w,d1,[],d3,g,_,h,_=>by grind
 |v :: vs,i,off,w,d1,x :: d2,d3,g,h1,h,hone=>by
  have l:w.cell? ⟨b,off+i,none⟩=some x:=by
   simp_all[g0Y,D2]
  have j:w.frozen? ⟨b,off+i,none⟩=false:=by simp[World.frozen?,g]
  have m:=I06 (P:=P) (w:=w) (ad:=(⟨b,off,none⟩:Addr).add i) (l0p b off i) (hone v V') l j;have c:=E0U (w:=w) (off:=off+i) (v:=v) g;have e:(d1++(x :: d2++d3)).set (off+i) v=(d1++[v])++(d2++d3):=by simp_all
  rw[e]at c;obtain⟨w1,o,f,hs,n⟩:=y0r (P:=P) b t vs (i+1) off (w.setCell ⟨b,off+i,none⟩ v) (d1++[v]) d2 d3 c (by grind) (by simp_all) (fun u hu=>hone u (by grind));have d:=T6.cell w b (off+i) v;refine⟨w1,by simp_all[storeCells],⟨f.os.trans d.os,f.tape.trans d.tape,f.output.trans d.output,le_trans d.size f.size,fun k hk hn=>(f.block k (lt_of_lt_of_le hk d.size) hn).trans (d.block k hk hn)⟩,hs.trans V',?_⟩
  simp_all
def s0r {T n b off t:Nat}(d:D6 E T=some n){u:Value}{vs:List Value}(hu:u.cells=vs.toArray)(hl:vs.length=n)(h1:∀v∈vs,v.oneCell'=true){d1 d2 d3:List Value}{w:World}(g:w.heap[b]?=some (.cells (d1++(d2++d3)).toArray t (0,0)))(f:d1.length=off)(c:d2.length=n):
  ∃w1,(Instr.storeAt T (.pointer (some ⟨b,off,none⟩)) u).run E.P w=.ok () w1/\T6 b w w1/\w1.heap[b]?=some (.cells (d1++(vs++d3)).toArray t (0,0)):=by
 obtain⟨w1,h,i,_,e⟩:=y0r (P:=E.P) b t vs 0 off w d1 d2 d3 g O' O' h1
 simp_all[Instr.storeAt,Instr.sureAddr,storeVar,d0Y]
def VS.unit {n:Nat}{H:M0}:VS E ρ n H S (.tup []:V E.D) Go.undef:=VS.of rfl (by exact⟨[],rfl,by rfl⟩)
theorem t04 {id T:Nat}{l:List (V E.D)}(h:j02 s id=some (T,l)):G0 s id=.box T l:=by
 unfold j02 at h
 grind
theorem e0F {id e:Nat}{t:U}{xs:List (Den E.D t)}(h:c0u E s id=some (e,⟨t,xs⟩)):G0 s id=.lst e t xs:=by
 unfold c0u at h
 grind
def Rp.x0s (h:Rp E A s ρ S a as w){id T:Nat}{l l':List (V E.D)}{d:List Value}{b:Nat}{w1:World}(hl:G0 s id=.box T l)(f:ρ id=.pointer (some ⟨b,0,none⟩))(g:T6 b w w1)(n:w1.heap[b]?=some (.cells d.toArray T (0,0)))
  (o:F1 E ρ s.nid w.heap S l' d) (h1:∀u∈d,u.oneCell'=true):Rp E A (s.at id (.box T l')) ρ S a as w1/\Y0 w.heap S w1.heap S:=by
 have c:E2 (G0 s id)=true:=by rw[hl];rfl
 have i:=h.F7 (id:=id) (by simp_all);obtain⟨j,p,m⟩:=h.ow id c b (by rw[f];rfl);have kp:=g.J1 j;refine⟨h.turn i c (g.cx h.cx m) kp (fun _ h=>h) (fun k hk hn=>g.block k hk (fun e=>hn (by rw[f,e];rfl))) rfl (fun k hk=>(h.ow id c k hk).1) ?_,kp⟩;exact⟨b,d,f,n,o.mono (fun _ _=>rfl) (le_refl _) kp,h1⟩
section
variable {H:M0}
def z0O {f:(t:U)->Den E.D t->Option (Den E.D t)}:∀(ts:List U) (h d:HL E.D ts) (j:Nat) (cs:List Value),b0A ts h j f=some d->(a0O E ts).R H S cs h->
  ∃c1 c2 c3,cs=c1++(c2++c3)/\c1.length=c0T E ts j/\∃t x b,(L0 E t).R H S c2 x/\f t x=some b/\∀c,(L0 E t).R H S c b->(a0O E ts).R H S (c1++(c++c3)) d
 |[],_,_,_,_,h=>by simp_all[b0A]
 |t :: ts,hh,d,0,cs,h=>by
  intro l;simp only[b0A]at h;split at h<;>try cases h
  rename_i y k;obtain⟨c1,c2,rfl,h1,g⟩:=l;exact⟨[],c1,c2,V',rfl,t,_,_,h1,k,fun c e=>⟨c,c2,V',e,g⟩⟩
 |t :: ts,hh,d,j+1,cs,h=>by
  intro l;simp only[b0A]at h;split at h<;>try cases h
  rename_i i k;obtain⟨c1,c2,rfl,h1,g⟩:=l;obtain⟨d1,d2,d3,rfl,hl,n,x,b,o,m,hk⟩:=z0O ts hh.2 i j c2 k g;refine⟨c1++d1,d2,d3,V',by rw[length_append,(L0 E t).len h1,hl];rfl,n,x,b,o,m,fun c e=>?_⟩;rw[append_assoc];exact⟨c1,_,rfl,h1,hk c e⟩
theorem z0R {α:Type}{T:Ty α}{xs:List α}{cs cn:List Value}{q:α}(b:V1 T H S cs xs){i:Nat}(hi:i<xs.length)(c:T.R H S cn q):
  V1 T H S (cs.take (i*T.sz)++(cn++(cs.drop (i*T.sz)).drop T.sz)) (xs.set i q):=by
 have h:cs.length=xs.length*T.sz:=b.1;have f:=T.len c;have hle:i*T.sz+T.sz<=xs.length*T.sz:=by rw[<-succ_mul];exact mul_le_mul_right _ hi
 have g:(cs.take (i*T.sz)).length=i*T.sz:=by grind
 refine⟨?_,fun j v d=>?_⟩
 ·grind
 ·rcases Nat.lt_trichotomy j i with hlt|heq|hgt
  ·rw[List.getElem?_set_ne O']at d;have:=b.2 j v d;have e:j*T.sz+T.sz<=i*T.sz:=by rw[<-succ_mul];exact mul_le_mul_right _ hlt
   grind [drop_take]
  ·simp_all
  ·rw[List.getElem?_set_ne O']at d;have:=b.2 j v d;have e:i*T.sz+T.sz<=j*T.sz:=by rw[<-succ_mul];exact mul_le_mul_right _ hgt
   have k:((cs.take (i*T.sz)++(cn++(cs.drop (i*T.sz)).drop T.sz)).drop (j*T.sz))=cs.drop (j*T.sz):=by
    rw[<-append_assoc,List.drop_append,List.drop_of_length_le (by simp_all),nil_append,length_append,g,f,drop_drop,drop_drop]
    grind
   simp_all
theorem l03 (l:G2 E){u:U}{y:Den E.D u}:∀(p:List Y6) (t:U) (x C:Den E.D t) (cs:List Value),d0f E u y p t x=some C->C8 p->(L0 E t).R H S cs x->
  ∃c1 c2 c3,cs=c1++(c2++c3)/\c1.length=Q5 p/\c2.length=K3 E u/\∀c,(L0 E u).R H S c y->(L0 E t).R H S (c1++(c++c3)) C
 |[],t,x,C,cs,h,_=>by
  intro hr;obtain⟨e,h⟩:=d0H h;subst e;exact⟨[],cs,[],V',rfl,(L0 E u).len hr,fun c hc=>by simp_all⟩
 |.inl (j,o) :: p,t,x,C,cs,h,hp=>by
  intro hr;cases t<;>simp only[d0f]at h<;>try cases h
  rename_i i;split at h<;>try cases h
  rename_i ho;rw[beq_eq]at ho;split at h<;>try cases h
  rename_i hh hf;obtain⟨c1,c2,c3,rfl,hl,g,z,z',k,b1,hk⟩:=z0O _ _ _ _ _ hf ((l.st i H S cs x).1 hr);obtain⟨d1,d2,d3,rfl,f,d,n⟩:=l03 l p g z z' c2 b1 hp k;refine⟨c1++d1,d2,d3++c3,V',by rw[length_append,hl,ho,f];rfl,d,fun c hc=>?_⟩;refine(l.st i H S _ _).2 ?_;rw[l.unmk]
  grind
 |.inr (i,z,m) :: p,t,x,C,cs,h,hp=>by
  intro hr;cases t<;>simp only[d0f]at h<;>try cases h
  rename_i m' g;split at h<;>try cases h
  rename_i k;rw[and_eq_true,beq_eq,beq_eq]at k;obtain⟨k,rfl⟩:=k;split at h<;>try cases h
  rename_i q hq;obtain⟨hi,hp⟩:=hp;obtain⟨hlen,b⟩:=hr;have v:(L0 E g).sz=z:=k;have r:=a0y (E:=E) (t:=g) (xs:=x) hi.1 O';have hy:=b.2 i.toNat _ r;obtain⟨d1,d2,d3,hd,f,d,n⟩:=l03 l p g _ q _ hq hp hy;have b2:cs.length=m'*z:=by rw[b.1,hlen,v]
  have I:i.toNat<m':=O'
  have hle:i.toNat*z+z<=m'*z:=by rw[<-succ_mul];exact mul_le_mul_right _ I
  have e1:cs=cs.take (i.toNat*z)++((cs.drop (i.toNat*z)).take z++(cs.drop (i.toNat*z)).drop z):=by grind [take_append_drop]
  refine⟨cs.take (i.toNat*z)++d1,d2,d3++(cs.drop (i.toNat*z)).drop z,?_,?_,d,fun c hc=>?_⟩
  ·grind
  ·rw[length_append,length_take,f,Nat.min_eq_left O'];rfl
  ·have J:=n c hc;have key:=z0R (T:=L0 E g) (xs:=x) (cs:=cs) (cn:=d1++(c++d3)) (q:=q) b (i:=i.toNat) (by rw[hlen];exact I) J;rw[v]at key;have a1:cs.take (i.toNat*z)++d1++(c++(d3++(cs.drop (i.toNat*z)).drop z))=cs.take (i.toNat*z)++((d1++(c++d3))++(cs.drop (i.toNat*z)).drop z):=V'
   rw[a1];exact⟨(length_set ..).trans hlen,key⟩
theorem j0v {s1:St E.D}{t:List (Nat×Th E.D)}(h1:s1.th=t++s.th){p:Nat×Th E.D}(hp:p∈t):c7 s s1 p.1=true:=by
 unfold c7;rw[h1,length_append,Nat.add_sub_cancel,List.take_left']
 ·exact any_eq_true.2 ⟨p,hp,V'⟩
 ·rfl
def j0Z {s1:St E.D}(he:Ext s s1){id:Nat}{x:Th E.D}:c7 s (s1.at id x) id=true:=by
 obtain⟨l,hl⟩:=he.th;exact j0v (t:=(id,x) :: l) (p:=(id,x)) (by simp[St.at,hl]) V'
theorem h0v {s1 s2:St E.D}{q:Nat}(h:c7 s s1 q=true)(he:Ext s s1)(k:Ext s1 s2):c7 s s2 q=true:=by
 obtain⟨t,e⟩:=he.th;obtain⟨d,b⟩:=k.th;unfold c7 at h;obtain⟨p,hp,c⟩:=any_eq_true.1 h
 grind [beq_eq,j0v]
def VC.d0S {n:Nat}{H:M0}{S1:E0}(hs:∀k,S1 k->S k){v:V E.D}{c:List Value}(h:VC E ρ n H S v c):VC E ρ n H S1 v c:=h.mono (fun _ _=>rfl) (le_refl _) (Y0.less hs)
def F1.d0S {n:Nat}{H:M0}{S1:E0}(hs:∀k,S1 k->S k){v:List (V E.D)}{c:List Value}(h:F1 E ρ n H S v c):F1 E ρ n H S1 v c:=h.mono (fun _ _=>rfl) (le_refl _) (Y0.less hs)
def VS.d0S {n:Nat}{H:M0}{S1:E0}(hs:∀k,S1 k->S k){v:V E.D}{u:Value}(h:VS E ρ n H S v u):VS E ρ n H S1 v u:=h.mono (fun _ _=>rfl) (le_refl _) (Y0.less hs)
def p0L (d:G2 E)(h:Rp E A s ρ S a as w){u:U}{v:V E.D}{s1:St E.D}{y:Den E.D u}(b:rdD E s u v=some (s1,y)):
  ∃S1,(∀k,S1 k->S k)/\Rp E A s1 ρ S1 a as w/\Ext s s1/\s1.fr=s.fr/\s1.nid=s.nid/\∀c,VC E ρ s.nid w.heap S v c->(L0 E u).R w.heap S1 c y:=by
 unfold rdD at b;split at b<;>try cases b
 rename_i s2 i;split at b<;>try cases b
 rename_i x l;obtain⟨S1,h1,f,j,m,g⟩:=a0w d _ s [v] s1 i S h;refine⟨S1,h1,f,j,m,g,fun c e=>?_⟩;rw[<-g]at e;exact i0s d f.th l (e.d0S h1)
def O0B {n:Nat}{u:U}(h:Nat.beq (K3 E u) n=true):K3 E u=n:=by simp_all
theorem t0V {u:U}{v:V E.D}{s1:St E.D}{y:Den E.D u}(c:rdD E s u v=some (s1,y)){id:Nat}(b:E2 (G0 s1 id)=true):E2 (G0 s id)=true:=by
 grind [rdD,b0f]
theorem G0f {l r:List (V E.D)}{t:U}{x:Den E.D t}(h:l0G E l=some (⟨t,x⟩,r)):l=.d t x :: r:=by
 unfold l0G at h
 grind
theorem X5.of {s1:St E.D}{v:V E.D}{u:Value}{w1:World}{S1 b:E0}(hs:∀k,S1 k->S k)(e:Rp E A s1 ρ b a as w1)(d:VS E ρ s1.nid w1.heap b v u)(hk:Y0 w.heap S1 w1.heap b)(he:Ext s s1)(c:s1.fr=s.fr)(hm:∀k,k<w.heap.size->(∀q,q<s.nid->E2 (G0 s q)=true->c7 s s1 q=true->¬Bk (ρ q) k)->w1.heap[k]?=w.heap[k]?):X5 E A s ρ S a as w s1 v u w1:=
 ⟨⟨ρ,b,e,d,(Y0.less hs).trans hk⟩,he,c,hm⟩
def v0d {e sz b o m cap N off n T:Nat}{cs d1 d2 d3 c:List Value}{w:World}{I:Value}(a1:0<m)(f:Row w.heap e sz (.slice (some ⟨b,o,none⟩) m cap) N cs)(k:cs=d1++(d2++d3))(C:d1.length=off)(x:d2.length=n)
  (y:D6 E T=some n) (j:I.cells=c.toArray) (hlen:c.length=n) (t:∀v∈c,v.oneCell'=true):
  ∃w1,(Instr.storeAt T (.pointer (some ⟨b,o+off,none⟩)) I).run E.P w=.ok () w1/\T6 b w w1/\Row w1.heap e sz (.slice (some ⟨b,o,none⟩) m cap) N (d1++(c++d3)):=by
 obtain⟨u,f⟩:=f;rcases f with⟨_,_,h⟩|⟨g,o',cap',cur,h,hp0,hg,hnc,hmx,hcz,htk,h0⟩
 ·simp at h;omega
 ·simp at h;obtain⟨⟨J,U⟩,e3,e4⟩:=h;subst J;subst U;subst e3;subst e4;have d:cur.toList=cur.toList.take (o'*sz)++(cs++(cur.toList.drop (o'*sz)).drop (m*sz)):=by rw[<-htk,take_append_drop,take_append_drop]
  have i:(cur.toList.take (o'*sz)).length=o'*sz:=by
   rw[length_take,Array.length_toList,hcz,add_mul];exact Nat.min_eq_left (Nat.le_add_right _ _)
  generalize cur.toList.take (o'*sz)=p at d i;generalize (cur.toList.drop (o'*sz)).drop (m*sz)=q1 at d;have l:w.heap[b]?=some (.cells ((p++d1)++(d2++(d3++q1))).toArray (if e<Qe then e else e-Qe) (0,0)):=by
   rw[hg];have R:cur.toList=(p++d1)++(d2++(d3++q1)):=by
    refine d.trans ?_;rw[k];simp
   rw[<-R]
  obtain⟨w1,q,ho,z⟩:=s0r y j hlen t l (by rw[length_append,i,C]) x;have r:(d1++(c++d3)).length=m*sz:=by rw[<-u,k];simp;omega
  refine⟨w1,q,ho,r,.inr ⟨b,o',cap,_,rfl,hp0,z,hnc,hmx,?_,?_,h0⟩⟩
  ·have e5:=congrArg List.length d;simp only[length_append,Array.length_toList,hcz,u,i]at e5;simp only[length_append]at r;simp only[List.size_toArray,length_append,i];omega
  ·rw[List.toList_toArray];have:(p++d1)++(c++(d3++q1))=p++((d1++(c++d3))++q1):=V'
   rw[this,List.drop_append_of_le_length O',List.drop_of_length_le O',nil_append,List.take_append_of_le_length O',take_of_length_le O']
theorem U5.store (hE:G2 E){e b o m cap n T:Nat}{d u:U}{xs:List (Den E.D d)}{q:List Y6}{y:Den E.D u}{x:Den E.D d}{c:List Value}{w:World}{uv:Value}{i:Int}(I:U5 E w.heap S e d xs (.slice (some ⟨b,o,none⟩) m cap))(h0:0<=i)(hm:i<m)
  (p:d0f E u y q d (r7 E d xs i)=some x) (b1:C8 q) (hy:(L0 E u).R w.heap S c y) (c3:K3 E u=n) (J:D6 E T=some n) (g:uv.cells=c.toArray) (hlen:c.length=n) (l:∀v∈c,v.oneCell'=true) (hS:S b):
  ∃w1,(Instr.storeAt T (.pointer (some ⟨b,o+i.toNat*K3 E d+Q5 q,none⟩)) uv).run E.P w=.ok () w1/\T6 b w w1/\Y0 w.heap S w1.heap S/\U5 E w1.heap S e d (xs.set i.toNat x) (.slice (some ⟨b,o,none⟩) m cap):=by
 obtain⟨cs,f,h⟩:=I;obtain⟨rfl,_,_⟩:=Row.cell f O';have hi:i.toNat<xs.length:=O'
 have k:=a0y (E:=E) (t:=d) (xs:=xs) h0 hm;obtain⟨e1,e2,e3,c4,hle,b4,r⟩:=l03 hE q d _ x _ p b1 (h.2 _ _ k);have a1:=f.1;have b2:i.toNat*(L0 E d).sz+(L0 E d).sz<=xs.length*(L0 E d).sz:=by rw[<-succ_mul];exact mul_le_mul_right _ hi
 have C:cs=(cs.take (i.toNat*(L0 E d).sz)++e1)++(e2++(e3++(cs.drop (i.toNat*(L0 E d).sz)).drop (L0 E d).sz)):=by
  grind [take_append_drop]
 have I:(cs.take (i.toNat*(L0 E d).sz)).length=i.toNat*(L0 E d).sz:=by rw[length_take,a1];omega
 obtain⟨w1,b3,ho,z⟩:=v0d (off:=i.toNat*K3 E d+Q5 q) O' f C (by rw[length_append,I,hle];rfl) O' J g hlen l;have kp:=ho.J1 hS;have j:=z0R (i:=i.toNat) (h.J1 kp) hi ((L0 E d).J1 kp (r c hy));refine⟨w1,by grind,ho,kp,_,?_,j⟩
 grind
theorem t08:∀{ts:List U} {h c:HL E.D ts} {j:Nat} {f:(t:U)->Den E.D t->Option (Den E.D t)},b0A ts h j f=some c->∃t y d,F6 ts h j=some ⟨t,y⟩/\f t y=some d/\F6 ts c j=some ⟨t,d⟩/\∀b,b≠j->F6 ts c b=F6 ts h b
 |[],_,_,_,_,hs=>by grind [b0A]
 |t :: ts,hh,c,0,f,hs=>by
  simp only[b0A]at hs;split at hs<;>try cases hs
  rename_i y e;refine⟨t,hh.1,y,rfl,e,rfl,fun b m=>?_⟩;cases b with
  |zero=>omega
  |succ b=>rfl
 |t :: ts,hh,c,j+1,f,hs=>by
  simp only[b0A]at hs;split at hs<;>try cases hs
  rename_i n e;obtain⟨g,y,d,k,k2,i,l⟩:=t08 e;refine⟨g,y,d,k,k2,i,fun b m=>?_⟩;cases b with
  |zero=>rfl
  |succ b=>exact l b O'
def r0h (i:G2 E){t:U}{x c:Den E.D t}{f:Nat}{g:(u:U)->List (Den E.D u)->Option (List (Den E.D u))}(h:setRow E t x f g=some c):
  ∃u ys d,L3 E t x f=some ⟨u,ys⟩/\g u ys=some d/\L3 E t c f=some ⟨u,d⟩/\∀b,b≠f->L3 E t c b=L3 E t x b:=by
 cases t with
 |list u=>
  have h:q02 g u x f=some c:=h;unfold q02 at h;split at h<;>try cases h
  refine⟨u,x,c,rfl,h,rfl,fun b e=>?_⟩;cases b with
  |zero=>omega
  |succ b=>rfl
 |st k=>
  have h:r0N E k (b0A (E.fs k) (E.un k x) f (x0K g))=some c:=h;unfold r0N at h;split at h<;>try cases h
  rename_i l hs;obtain⟨m,y,j,o,k2,n,p⟩:=t08 hs;cases m with
  |list u=>
   exact⟨u,y,j,(show d0x (F6 (E.fs k) (E.un k x) f)=_ by rw[o];rfl),k2,(show d0x (F6 (E.fs k) (E.un k (E.mkS k l)) f)=_ by rw[i.unmk,n];rfl),fun b e=>(show d0x (F6 (E.fs k) (E.un k (E.mkS k l)) b)=d0x (F6 (E.fs k) (E.un k x) b) by rw[i.unmk,p b e])⟩
  |_=>exact absurd (show none=some j from k2) V'
 |_=>exact absurd (show none=some c from h) V'
theorem v0s {F:List Nat}{i f c b:Nat}(e:f<F.length)(d:b<F.length)(h:rowAt F i f=rowAt F c b):i=c/\f=b:=by
 unfold rowAt at h
 grind [mul_comm,Nat.mul_add_div,Nat.div_eq_of_lt]
theorem u07 {D:Nat->Type}{q r f:Nat}{i:Int}:∀{l:List (Nat×Th D)},(r,Th.rof q i f)∈l->r∈a0z q l
 |[],h=>by cases h
 |(r',x) :: l,h=>by
  rcases mem_cons.1 h with h|h
  ·cases h;simp[a0z]
  ·have b:=u07 h;cases x with
   |rof q' i' f'=>
    grind [a0z]
   |_=>exact b
theorem y05 {α:Type}:∀{l:List (Nat×α)} {k:Nat} {v:α},C5 l k=some v->(k,v)∈l
 |[],k,v,h=>by grind [C5]
 |(j,x) :: l,k,v,h=>by
  rw[a0R]at h;split at h
  ·simp_all
  ·exact List.mem_cons_of_mem _ (y05 h)
theorem n0W {D:Nat->Type}{s:St D}{r q f:Nat}{i:Int}(h:G0 s r=.rof q i f):r∈a0z q s.th:=by
 grind [G0,u07,y05]
theorem e0m {D:Nat->Type}:∀(l:List Nat) (s:St D) (j:Nat),G0 (L1 s l) j=if j∈l then .gone else G0 s j
 |[],s,j=>by simp[L1]
 |i :: l,s,j=>by
  have b:=e0m l (s.at i .gone) j;rw[show L1 s (i :: l)=L1 (s.at i .gone) l from rfl,b]
  grind [G0,St.at,a0R]
theorem a0D {D:Nat->Type}:∀(l:List Nat) (s:St D),(L1 s l).nid=s.nid/\(L1 s l).fr=s.fr/\(L1 s l).n=s.n/\(L1 s l).stk=s.stk/\∃t,(L1 s l).th=t++s.th
 |[],s=>⟨rfl,rfl,rfl,rfl,[],rfl⟩
 |i :: l,s=>by
  obtain⟨h1,c,b,d,t,e⟩:=a0D l (s.at i .gone);exact⟨h1,c,b,d,t++[(i,.gone)],by simp_all[L1,St.at]⟩
def Ext.L1 {D:Nat->Type}(s:St D)(l:List Nat):Ext s (L1 s l):=by
 obtain⟨h1,e,b,d,t,c⟩:=a0D l s;exact⟨b,⟨[],by simp_all⟩,⟨t,c⟩,d,O'⟩
theorem Rp.y0c (h:Rp E A s ρ S a as w){id:Nat}{x:Th E.D}{v:Value}{G:List Nat}{S1:E0}{w1:World}(d:E2 (G0 s id)=true)(R:hd v=hd (ρ id))(cx:Cx A.w0 A.W0 A.S0 w1 S1)(kp:Y0 w.heap S w1.heap S1)(hs:∀k,S k->S1 k)
  (U:∀k,k<w.heap.size->¬Bk (ρ id) k->w1.heap[k]?=w.heap[k]?) (hB:∀k,Bk v k->Bk (ρ id) k\/∃r∈G,E2 (G0 s r)=true/\Bk (ρ r) k)
  (hx:M4 E (Q6 ρ id v) s.nid w1.heap S1 x v) (a1:∀r i f,G0 s r=.rof id i f->r∈G) (b1:∀q i f,x≠.rof q i f):Rp E A ((L1 s G).at id x) (Q6 ρ id v) S1 a as w1:=by
 obtain⟨g1,g2,g3,g4,t,g5⟩:=a0D G s;have b2:=h.F7 (id:=id) (by rintro e;rw[e]at d;cases d);have e0:(L1 s G).at id x={ s with th:=(id,x) :: (t++s.th),nid:=s.nid }:=by
  simp_all[St.at]
 have hl:∀j,G0 ((L1 s G).at id x) j=if id=j then x else if j∈G then .gone else G0 s j:=fun j=>by rw[M9,e0m]
 rw[e0]at hl ⊢;have c:∀j,j≠id->j∉G->j<s.nid->b0M s { s with th:=(id,x) :: (t++s.th),nid:=s.nid } ρ (Q6 ρ id v) S1 w w1 j:=fun j l hg g=>
  ⟨by grind,g,j6 l,fun b k hk=>⟨U k ((h.th j).live b k hk) (fun e2=>h.dj id j (Ne.symm l) d b k e2 hk),hs k (h.ow j b k hk).1⟩⟩
 refine h.step (nid1:=s.nid) ⟨cx,kp,fun i _=>?_,le_refl _⟩ (fun j=>?_) fun r q i f o e F t xs hq=>?_
 ·grind [H5,j6]
 ·by_cases e:id=j
  ·subst e;refine .inr ⟨by rw[hl,if_pos rfl,H5];exact hx,fun _ k hk=>?_,fun hle=>O'⟩;rw[H5]at hk;have key:∃p,E2 (G0 s p)=true/\Bk (ρ p) k/\(p=id\/p∈G):=by
    grind
   obtain⟨p,h1,J,h3⟩:=key;have I:=h.ow p h1 k J;refine⟨⟨hs k I.1,I.2⟩,fun j l b n=>?_⟩;rw[hl,if_neg (fun e=>l e.symm)]at b;split at b
   ·cases b
   ·rw[j6 l]at n;refine h.dj p j ?_ h1 b k J n
    grind
  ·by_cases g:j<s.nid
   ·by_cases hg:j∈G
    ·rw[hl,if_neg e,if_pos hg];exact .inr ⟨trivial,(fun z=>by cases z),fun _=>rfl⟩
    grind
   ·rw[hl,if_neg e];have:(if j∈G then Th.gone else G0 s j)=.gone:=by
     split
     ·rfl
     ·exact h.lt j O'
    rw[this];exact .inr ⟨trivial,(fun z=>by cases z),fun _=>rfl⟩
 ·rw[hl]at o;split at o
  ·simp_all
  ·rename_i C;split at o
   ·cases o
   ·rename_i hg;have u:=h.c0C o;rw[hl]at hq;split at hq
    ·grind
    ·rename_i m;split at hq
     ·cases hq
     ·rename_i y;exact .inl ⟨c r (Ne.symm C) hg (h.F7 (by simp_all)),c q (Ne.symm m) y u⟩
theorem Rp.take (h:Rp E A s ρ S a as w){x:Th E.D}{v:Value}{G:List Nat}{S1:E0}{w1:World}(cx:Cx A.w0 A.W0 A.S0 w1 S1)(kp:Y0 w.heap S w1.heap S1)(hs:∀k,S k->S1 k)
  (R:∀k,k<w.heap.size->(∀j∈G,E2 (G0 s j)=true->¬Bk (ρ j) k)->w1.heap[k]?=w.heap[k]?) (hB:∀k,Bk v k->E2 x=true->S1 k/\((∃j∈G,E2 (G0 s j)=true/\Bk (ρ j) k)\/w.heap.size<=k))
  (hx:M4 E (Q6 ρ s.nid v) (s.nid+1) w1.heap S1 x v) (a1:∀q i f,x≠.rof q i f):Rp E A ((L1 s G).new x) (Q6 ρ s.nid v) S1 a as w1:=by
 obtain⟨g1,g2,g3,g4,t,g5⟩:=a0D G s;have e0:(L1 s G).new x={ s with th:=(s.nid,x) :: (t++s.th),nid:=s.nid+1 }:=by
  simp_all[St.new]
 have hl:∀j,G0 ((L1 s G).new x) j=if s.nid=j then x else if j∈G then .gone else G0 s j:=fun j=>by rw[o0b,e0m,g1]
 rw[e0]at hl ⊢;have c:∀j,j∉G->j<s.nid->b0M s { s with th:=(s.nid,x) :: (t++s.th),nid:=s.nid+1 } ρ (Q6 ρ s.nid v) S1 w w1 j:=fun j hg l=>
  ⟨by grind,l,j6 O',fun b k hk=>⟨R k ((h.th j).live b k hk) (fun y C I n=>h.dj y j (fun e=>hg (e▸C)) I b k n hk),hs k (h.ow j b k hk).1⟩⟩
 refine h.step (nid1:=s.nid+1) ⟨cx,kp,fun i hi=>by grind [j6],le_succ _⟩ (fun j=>?_) fun r q i f m e F t xs hq=>?_
 ·by_cases e:s.nid=j
  ·subst e;refine .inr ⟨by rw[hl,if_pos rfl,H5];exact hx,fun g k hk=>?_,fun hle=>O'⟩;rw[hl,if_pos rfl]at g;rw[H5]at hk;obtain⟨k1,k2⟩:=hB k hk g;refine⟨⟨k1,?_⟩,fun j J b d=>?_⟩
   ·rcases k2 with⟨j,_,z,u⟩|k2
    ·exact(h.ow j z k u).2
    ·exact⟨fun U=>by have:=h.cx.lt0 k U;have:=h.cx.size;omega,.inr (by have:=h.cx.size;omega)⟩
   ·rw[hl,if_neg (fun e=>J e.symm)]at b;split at b
    ·cases b
    ·rename_i hg;rw[j6 J]at d;rcases k2 with⟨y,z,u,k5⟩|k2
     ·exact h.dj y j (fun e=>hg (e▸z)) u b k k5 d
     ·have:=(h.th j).live b k d;omega
  ·by_cases l:j<s.nid
   ·by_cases hg:j∈G
    ·rw[hl,if_neg e,if_pos hg];exact .inr ⟨trivial,(fun g=>by cases g),fun _=>rfl⟩
    simp_all
   ·rw[hl,if_neg e];have:(if j∈G then Th.gone else G0 s j)=.gone:=by
     split
     ·rfl
     ·exact h.lt j O'
    rw[this];exact .inr ⟨trivial,(fun g=>by cases g),fun _=>rfl⟩
 ·rw[hl]at m;split at m
  ·simp_all
  ·split at m
   ·cases m
   ·rename_i hg;have o:=h.c0C m;rw[hl,if_neg O']at hq;split at hq
    ·cases hq
    ·rename_i p;exact .inl ⟨c r hg (h.F7 (by simp_all)),c q p o⟩
theorem O0f {s1 s2:St E.D}{q:Nat}(h:c7 s1 s2 q=true)(he:Ext s s1)(k:Ext s1 s2):c7 s s2 q=true:=by
 obtain⟨t,e⟩:=he.th;obtain⟨d,b⟩:=k.th;unfold c7 at h;obtain⟨p,hp,c⟩:=any_eq_true.1 h
 grind [beq_eq,j0v]
def J0Q {G:List Nat}{j:Nat}(d:j∈G):∀s:St E.D,c7 s (L1 s G) j=true:=by
 induction G with
 |nil=>cases d
 |cons i r ih=>
  intro s;rcases mem_cons.1 d with rfl|h
  ·exact h0v (s1:=s.at j .gone) (c0W s) (Ext.at s j _) (Ext.L1 _ r)
  ·obtain⟨t,e⟩:=(Ext.L1 (s.at i .gone) r).th;have b:=ih h (s.at i .gone);unfold c7 at b;rw[e,length_append,Nat.add_sub_cancel,List.take_left' rfl]at b;obtain⟨p,hp,c⟩:=any_eq_true.1 b;rw[beq_eq]at c;subst c;exact j0v (t:=t++[(i,.gone)]) (by simp_all[L1,St.at]) (List.mem_append_left _ hp)
def F00 {G:List Nat}{j:Nat}{x:Th E.D}(b:j∈G):c7 s ((L1 s G).new x) j=true:=h0v (J0Q b s) (Ext.L1 s G) (Ext.new _ _)
theorem Rp.z0e (h:Rp E A s ρ S a as w){x:Th E.D}{v:Value}(p:∀k,Bk v k->E2 x=true->(S k/\¬A.S0 k/\Wr A.W0 A.w0 k)/\∀j,E2 (G0 s j)=true->¬Bk (ρ j) k)
  (o:M4 E (Q6 ρ s.nid v) (s.nid+1) w.heap S x v) (n:∀q i f,x=.rof q i f->q<s.nid/\∀e F t xs,G0 s q=.G1 e F t xs none->c0D w.heap (hd (ρ q)) F.length i f v):Rp E A (s.new x) (Q6 ρ s.nid v) S a as w:=by
 have hl:∀j,G0 { s with th:=(s.nid,x) :: s.th,nid:=s.nid+1 } j=if s.nid=j then x else G0 s j:=fun j=>o0b s j x;have b:∀j,j<s.nid->b0M s { s with th:=(s.nid,x) :: s.th,nid:=s.nid+1 } ρ (Q6 ρ s.nid v) S w w j:=fun j d=>
  ⟨by grind,d,j6 O',fun c k hk=>⟨rfl,(h.ow j c k hk).1⟩⟩
 refine h.step (nid1:=s.nid+1) ⟨h.cx,Y0.refl _ _,fun i hi=>by grind [j6],le_succ _⟩ (fun j=>?_) fun r q i f g e F t xs hq=>?_
 ·by_cases e:s.nid=j
  ·subst e;refine .inr ⟨by rw[hl,if_pos rfl,H5];exact o,fun l k hk=>?_,fun hle=>O'⟩;rw[hl,if_pos rfl]at l;rw[H5]at hk;obtain⟨u,k2⟩:=p k hk l;refine⟨u,fun j z c y=>?_⟩;rw[hl,if_neg (fun e=>z e.symm)]at c
   simp_all[j6]
  ·by_cases d:j<s.nid
   ·simp_all
   ·rw[hl,if_neg e,h.lt j O'];exact .inr ⟨trivial,(fun l=>by cases l),fun _=>rfl⟩
 ·rw[hl]at g;split at g
  ·rename_i C;obtain⟨h1,I⟩:=n q i f g
   grind [j6,H5]
  ·have m:=h.c0C g;exact .inl ⟨b r (h.F7 (by simp_all)),b q m⟩
theorem e02 {id e:Nat}{F:List Nat}{o:Option (Int×Nat)}{t:U}{xs:List (Den E.D t)}(h:d0o E s id=some (e,F,o,⟨t,xs⟩)):G0 s id=.G1 e F t xs o:=by
 unfold d0o at h
 grind
theorem u0y:∀{l:List U} {f:Nat},b07 l=true->f<l.length->c0T E l f=f
 |[],f,_,d=>by grind
 |t :: l,0,_,_=>rfl
 |t :: l,f+1,hb,d=>by
  simp only[b07,and_eq_true]at hb;obtain⟨c,b⟩:=hb;cases t<;>simp only[i0t,Bool.false_eq_true]at c
  simp only[c0T];rw[u0y b (by simp_all)];exact Nat.add_comm 1 f
theorem z0S {D:Nat->Type}:∀{l:List U} {h:HL D l} {f:Nat} {t:U} {y:Den D t},F6 l h f=some ⟨t,y⟩->n0p l f=some t/\f<l.length
 |[],_,f,_,_,h=>by grind [F6]
 |t :: l,h,0,_,_,hg=>by
  obtain⟨rfl,_⟩:=hg;exact⟨rfl,V'⟩
 |t :: l,h,f+1,_,_,hg=>by
  obtain⟨h1,b⟩:=z0S (l:=l) hg;exact⟨h1,by simp_all⟩
def D0l {t u w':U}{x:Den E.D t}{f:Nat}{ys:List (Den E.D w')}(h:t0p E t f=some u)(b:L3 E t x f=some ⟨w',ys⟩):w'=u:=by
 cases t<;>simp only[t0p]at h<;>try cases h
 ·cases f<;>simp only at h<;>try cases h
  exact(congrArg Sigma.fst (Option.some.inj (show some _=some _ from b))).symm
 ·rename_i k;split at h<;>try cases h
  rename_i c;have b:d0x (F6 (E.fs k) (E.un k x) f)=some ⟨w',ys⟩:=b;cases hg:F6 (E.fs k) (E.un k x) f with
  |none=>rw[hg]at b;cases b
  |some p=>
   obtain⟨d,y⟩:=p;rw[hg]at b;have:=(z0S hg).1;rw[c]at this;cases this;exact(congrArg Sigma.fst (Option.some.inj b)).symm
def y01 {t:U}{F:List Nat}{q:List Y6}{f:Nat}(b:A9 E t F=true)(h:l0K E t q=some f)(c:f<F.length):Q5 q=f:=by
 simp only[A9,and_eq_true,beq_eq]at b;unfold l0K at h;split at h<;>try cases h
 ·rfl
 ·split at h<;>try cases h
  simp_all[r0k,u0y,Q5]
theorem y0P (h:Rp E A s ρ S a as w){e:Nat}{u:U}{v:V E.D}{k:Value}(n:VS E ρ s.nid w.heap S v k){g:Option Nat}{ys:List (Den E.D u)}(c:i0S E s e u v=some (g,ys)):
  U5 E w.heap S e u ys k/\k.oneCell'=true/\(match g with|none=>k=H7|some j=>ρ j=k/\∃l b,G0 s j=.lst e l b):=by
 cases v with
 |nil=>
  obtain⟨rfl,rfl⟩:=c;obtain rfl:=n.b0m;exact⟨⟨[],⟨V',.inl ⟨rfl,none,rfl⟩⟩,V1.nil⟩,rfl,rfl⟩
 |sl j=>
  simp only[i0S]at c;split at c<;>try cases c
  rename_i e' l b hl;split at c<;>try cases c
  rename_i i m;rw[beq_eq]at i;subst i;obtain⟨o,m⟩:=W9 m;subst o;subst m;have hl:=e0F hl;have f:=h.th j;rw[hl]at f;obtain⟨_,rfl⟩:=n.Y8;have f:U5 E w.heap S e l b (ρ j):=f;obtain⟨q,c',d⟩:=f.form;have p:hd (ρ j)=ρ j:=by rw[d];rfl
  rw[p];exact⟨f,by rw[d];rfl,rfl,l,b,hl⟩
 |_=>grind [i0S]
theorem Rp.q0o (h:Rp E A s ρ S a as w){r0 e f:Nat}{j:Int}{F:List Nat}{t0:U}{xs:List (Den E.D t0)}{g:Value}(hq:G0 s r0=.G1 e F t0 xs none)(i:c0D w.heap (hd (ρ r0)) F.length j f g):
  ∃cs,N7 E w.heap S e F t0 xs none (ρ r0) cs/\(0<=j/\j<xs.length)/\f<F.length/\cs[rowAt F j.toNat f]?=some g/\(Go.X.tl (ρ r0))[rowAt F j.toNat f]?=some g:=by
 obtain⟨t,u,m2,c2,r,k2,p,k⟩:=i;have c:=h.th r0;rw[hq]at c;obtain⟨cs,c⟩:=c;have d:=c.row;rw[r]at d;obtain⟨rfl,_,_,b⟩:=Row.cell d O';have l:j.toNat<xs.length:=O'
 have m:rowAt F j.toNat f<xs.length*(L0 E t0).sz:=by
  rw[(d01 c.ok).1];unfold rowAt;have:j.toNat*F.length+F.length<=xs.length*F.length:=by rw[<-succ_mul];exact mul_le_mul_right _ l
  omega
 have n:=b w.heap rfl _ m;have k:D2 w.heap t (u+rowAt F j.toNat f)=some g:=k;rw[k]at n;have q:=f0Q (o:=none) p V' n.symm V';rw[<-c.tl]at q
 grind
theorem Rp.z0J (h:Rp E A s ρ S a as w){w1:World}{r0 e f e':Nat}{j:Int}{F:List Nat}{t0 u:U}{xs:List (Den E.D t0)}{x:Den E.D t0}{r:List (Den E.D u)}{q:Value}(hq:G0 s r0=.G1 e F t0 xs none)(J:c0D w.heap (hd (ρ r0)) F.length j f q)
  (a1:L3 E t0 x f=some ⟨u,r⟩) (c5:∀d,d≠f->L3 E t0 x d=L3 E t0 (r7 E t0 xs j) d) (c6:F[f]?=some e') (hb:∀k,k<w.heap.size->D1 q≠some k->w1.heap[k]?=w.heap[k]?) (cx:Cx A.w0 A.W0 A.S0 w1 S) (kp:Y0 w.heap S w1.heap S) (hL:U5 E w1.heap S e' u r q):
  Rp E A (s.at r0 (.G1 e F t0 (xs.set j.toNat x) none)) ρ S a as w1:=by
 obtain⟨cs,c,k2,k3,h5,h8⟩:=h.q0o hq J;have l:E2 (G0 s r0)=true:=by rw[hq];rfl
 have c3:=a0y (E:=E) (t:=t0) (xs:=xs) k2.1 k2.2;have R:∀(p:Nat) (r':Value),(Go.X.tl (ρ r0))[p]?=some r'->p≠rowAt F j.toNat f->∀b,D1 r'=some b->D1 q≠some b:=fun p r' hp c8 b b4 b2=>
  c.ap (p+1) (rowAt F j.toNat f+1) r' q O' (by simp_all) (by simp_all) b b4 b2
 have i:∀b',D1 (hd (ρ r0))=some b'->w1.heap[b']?=w.heap[b']?:=fun b' g=>hb b' (Row.live c.row b' g) (fun hk=>c.ap 0 (rowAt F j.toNat f+1) (hd (ρ r0)) q O' rfl (by simp_all) b' g hk);refine h.turn (w1:=w1) (S1:=S) (id:=r0) (v:=ρ r0) (x:=.G1 e F t0 (xs.set j.toNat x) none) (h.F7 (by simp_all)) l cx kp (fun _ h=>h) (fun k' b1 hn=>hb k' b1 (fun e=>hn (Bk.tl (mem_of_getElem? h8) e))) rfl (fun k hk=>(h.ow r0 l k hk).1) ?_ V' ?_
 ·refine⟨cs,by rw[length_set];exact Row.mono i c.row,c.tl,c.ok,c.bd,fun n x' d C m z g1 g2 g3 g4=>?_,c.one,c.ap⟩;have b3:d<F.length:=(List.getElem?_eq_some_iff.1 g3).1;have old:∀x0,xs[n]?=some x0->L3 E t0 x0 d=some ⟨C,m⟩->(n≠j.toNat\/d≠f)->∃r',cs[rowAt F n d]?=some r'/\U5 E w1.heap S z C m r':=by
   intro x0 q1 q2 q3;obtain⟨r',p1,y⟩:=c.rows n _ d C m z q1 q2 g3 V';have p8:=f0Q (o:=none) b3 V' p1 V';rw[<-c.tl]at p8;refine⟨r',p1,y.mono kp fun b' g=>hb b' (by obtain⟨_,c4,_⟩:=y;grind [Row.live]) (R _ r' p8 (fun e=>?_) b' g)⟩
   grind [v0s]
  grind
 ·intro e' F' t' e1 z r' n d I;obtain⟨_,rfl,_,_,_⟩:=z;obtain⟨b',o',m',c',p1,y,p3,p4⟩:=h.rf r' r0 n d I e F t0 xs hq;refine⟨b',o',m',c',p1,y,p3,?_⟩;rw[<-p4];unfold D2;rw[i b' (by have:=c.row;rw[p1]at this ⊢;exact this.j0J O')]
theorem M0w (t:G2 E)(h:Rp E A s ρ S a as w){R:Type}{k:K E R}{r:R}{T n id r0 f z:Nat}{j i:Int}{q:List Y6}{v:V E.D}{up uv:Value}(a1:G0 s id=.rof r0 j f)(hp:VS E ρ s.nid w.heap S (.pe id i z q) up)(hv:VS E ρ s.nid w.heap S v uv)(e9:D6 E T=some n)(hn:vsz E v=n)(b3:c05 v=true)(hk:q0k E s n r0 j f i z q v k=some r):
  ∃s1 v w1,k s1 v=some r/\X5 E A s ρ S a as w s1 v Go.undef w1/\(Instr.storeAt T up uv).run E.P w=.ok () w1:=by
 obtain⟨c,hc,g,c4,e3⟩:=hv.cells t b3;have hlen:c.length=n:=(k0N t e3 b3).trans hn;obtain⟨j3,i1,b,o,m,j1,hr,⟨h0,hm⟩,hu⟩:=hp.e0A;unfold q0k at hk;split at hk<;>try cases hk
 split at hk<;>try cases hk
 split at hk<;>try cases hk
 rename_i s1 y h4;split at hk<;>try cases hk
 rename_i e F t0 xs c3;split at hk<;>try cases hk
 rename_i x c6;obtain⟨S1,e5,h2,he,hf,b1,e6⟩:=p0L t h h4;have hq:=e02 c3;have h3:∀d,E2 (G0 s1 d)=true->G0 s d=G0 s1 d:=fun d ho=>by
  grind [rdD,b0f]
 have h7:G0 s r0=.G1 e F t0 xs none:=by rw[h3 r0 (by rw[hq];rfl),hq]
 obtain⟨u,ys,j2,J,hg,p,c8⟩:=r0h t c6;split at hg<;>try cases hg
 rename_i x2 e2 l;rw[and_eq_true,beq_eq,beq_eq]at e2;obtain⟨rfl,h9⟩:=e2;have I:b03 E s r0 j f=some ⟨u,ys⟩:=by simp_all[b03]
 obtain⟨_,e1,_,_⟩:=h.o0e a1 I;have b2:=h.rf id r0 j f a1 e F t0 xs h7;obtain⟨cs,ht,k2,k3,h5,h8⟩:=h2.q0o hq b2;rw[e1]at hr;obtain⟨e',C⟩:∃e',F[f]?=some e':=⟨_,List.getElem?_eq_getElem k3⟩
 obtain⟨j4,h6,hL⟩:=ht.rows j.toNat _ f u ys e' (a0y k2.1 k2.2) J C V';rw[h5]at h6;obtain rfl:=Option.some.inj h6;have e4:D1 (ρ id)=some b:=by obtain⟨_,b4,_⟩:=hL;rw[hr]at b4 ⊢;exact b4.j0J O'
 have c5:E2 (G0 s1 r0)=true:=by simp_all
 obtain⟨hS,k0,hW⟩:=h2.ow r0 c5 b (Bk.tl (mem_of_getElem? h8) e4);rw[hr]at hL;obtain⟨w1,j0,ho,kp,U⟩:=hL.store t h0 hm l i1 (e6 c e3) h9 e9 g hlen c4 hS;rw[<-hr]at U;exact⟨_,_,w1,hk,X5.of e5 (h2.z0J hq b2 p c8 C (fun k hk hn=>ho.block k hk (fun e=>hn (by grind))) (ho.cx h2.cx hW) kp U) VS.unit kp (he.trans (Ext.at s1 r0 _)) hf (fun k hk e7=>ho.block k hk (fun e=>e7 r0 (by rw[<-b1];exact h2.F7 (by simp_all)) O' (j0Z he) (Bk.tl (mem_of_getElem? h8) (by grind)))),by simp_all⟩
theorem B0m (hE:G2 E)(h:Rp E A s ρ S a as w){R:Type}{k:K E R}{r:R}{T id z:Nat}{i:Int}{q:List Y6}{v:V E.D}{up y:Value}(hp:VS E ρ s.nid w.heap S (.pe id i z q) up)(hv:VS E ρ s.nid w.heap S v y)(o4:D6 E T=some 1)(hk:r0a E s id i z q v k=some r):
  ∃s1 v w1,k s1 v=some r/\X5 E A s ρ S a as w s1 v Go.undef w1/\(Instr.storeAt T up y).run E.P w=.ok () w1:=by
 obtain⟨n9,r1,b,o0,m,q5,hr,⟨h0,hm⟩,hu⟩:=hp.e0A;unfold r0a at hk;split at hk<;>try cases hk
 rename_i e F o t xs k5;split at hk<;>try cases hk
 rename_i f hz q4;split at hk<;>try cases hk
 rename_i u e' p7 k6;split at hk<;>try cases hk
 rename_i g ys o2;split at hk<;>try cases hk
 rename_i x k4;rw[beq_eq]at hz;subst hz;have hl:=e02 k5;have ht:=h.th id;rw[hl]at ht;obtain⟨cs,ht⟩:=ht;have hf:f<F.length:=(List.getElem?_eq_some_iff.1 k6).1;have n0:K3 E t=F.length:=(d01 ht.ok).1;have k2:=y01 ht.ok q4 hf;obtain⟨k0,b1,hg⟩:=y0P h hv o2;obtain⟨u',q6,n3,j3,a1,j2,n2⟩:=r0h hE k4;obtain rfl:=D0l p7 j3;obtain⟨ec,a1⟩:=W9 a1;obtain rfl:n3=ys:=a1.symm;have j0:=ht.row;rw[hr]at j0;obtain⟨rfl,q8,C,_⟩:=Row.cell j0 O';have n1:i.toNat<xs.length:=O'
 have e5:∀j g',o=some (j,g')->j=i/\g'=f:=by
  intro j g' ho;subst ho;unfold y0d at hk;simp only at hk;split at hk<;>rename_i J
  ·split at J<;>cases J
  ·split at hk<;>rename_i l4
   ·split at J
    ·rename_i l0;rw[beq_eq]at l0;simp only[Option.some.injEq]at J;subst J;exact⟨of_decide_eq_true l4,l0.symm⟩
    ·simp only[Option.some.injEq]at J;subst J;cases l4
   ·cases hk
 have b2:k ((S7 (d0G s g) id).at id (.G1 e F t (xs.set i.toNat x) none)) (.tup [])=some r:=by
  split at hk
  ·exact hk
  ·split at hk
   ·exact hk
   ·cases hk
 have h4:rowAt F i.toNat f<cs.length:=by
  rw[ht.sz];unfold rowAt;have:i.toNat*F.length+F.length<=xs.length*F.length:=by rw[<-succ_mul];exact mul_le_mul_right _ n1
  omega
 generalize c6:rowAt F i.toNat f=p at h4;have hT:∀p',p'≠p->(Go.X.tl (ρ id))[p']?=cs[p']?:=by
  intro p' n;rw[ht.tl];unfold e0z;split
  ·rfl
  ·rename_i j g' _;obtain⟨rfl,rfl⟩:=e5 _ _ rfl;rw[List.getElem?_set_ne (by rw[c6];exact Ne.symm n)]
 have o1:cs=cs.take p++([cs[p]]++cs.drop (p+1)):=by
  rw[List.singleton_append,List.getElem_cons_drop,take_append_drop]
 obtain⟨w1,j4,ho,b4⟩:=v0d (off:=p) (c:=[y]) O' j0 o1 (by rw[length_take];omega) rfl o4 (by rw[cells_one b1]) rfl (by simpa using b1);have k8:cs.take p++([y]++cs.drop (p+1))=cs.set p y:=by
  rw[List.singleton_append,List.set_eq_take_append_cons_drop,if_pos h4]
 rw[k8]at b4;have c4:E2 (G0 s id)=true:=by rw[hl];rfl
 obtain⟨hS,r2,hW⟩:=h.ow id c4 b (Bk.hd (by rw[hr];exact C));have kp:=ho.J1 hS;have hblk:∀I,D1 y=some I->¬Bk (ρ id) I/\∃j,g=some j/\E2 (G0 s j)=true/\Bk (ρ j) I:=by
  intro I d;cases g with
  |none=>
   have hg:y=H7:=hg;subst hg;cases d
  |some j=>
   obtain⟨n4,u9,y9,e7⟩:=hg;have k1:E2 (G0 s j)=true:=by rw[e7];rfl
   have k3:Bk (ρ j) I:=Bk.hd (by rw[n4,(f0b b1).1];exact d);refine⟨h.dj j id ?_ k1 c4 I k3,j,rfl,k1,k3⟩
   rintro rfl
   rw[hl]at e7;cases e7
 have hG:∃G:List Nat,S7 (d0G s g) id=L1 s G/\(∀r' i' f',G0 s r'=.rof id i' f'->r'∈G)/\∀j,g=some j->j∈G:=by
  cases g with
  |none=>exact⟨a0z id s.th,rfl,fun r' i' f' h6=>n0W h6,fun j hj=>by cases hj⟩
  |some j=>exact⟨j :: a0z id s.th,rfl,fun r' i' f' h6=>List.mem_cons_of_mem _ (n0W h6),fun j' hj=>by cases hj;simp⟩
 obtain⟨G,p5,p4,p8⟩:=hG;rw[p5]at b2;have j1:hd (Value.tuple (hd (ρ id) :: cs.set p y).toArray)=hd (ρ id):=rfl;have h7:Go.X.tl (Value.tuple (hd (ρ id) :: cs.set p y).toArray)=cs.set p y:=rfl;have hold:∀p' u',p'≠p->(cs.set p y)[p']?=some u'->(Go.X.tl (ρ id))[p']?=some u':=fun p' u' n U=>by
  rw[List.getElem?_set_ne (Ne.symm n)]at U;rw[hT p' n];exact U
 have c3:(cs.set p y)[p]?=some y:=List.getElem?_set_self h4;have c8:Ext s (L1 s G):=Ext.L1 s G;refine⟨_,_,w1,b2,⟨⟨_,S,h.y0c c4 j1 (ho.cx h.cx hW) kp (fun _ h=>h) (fun I d hn=>ho.block I d (fun e=>hn (by rw[e];exact Bk.hd (by rw[hr];exact C)))) (fun I d=>?_) ?_ p4 (by intros;simp),VS.unit,kp⟩,c8.trans (Ext.at _ id _),(a0D G s).2.1,fun e9=>?_⟩,?_⟩
 ·rcases e0p.1 d with d|⟨u',U,d⟩
  ·exact .inl (Bk.hd d)
  ·rw[h7]at U;obtain⟨p',h5⟩:=List.getElem?_of_mem U
   by_cases n:p'=p
   ·subst n;rw[c3]at h5;obtain rfl:=Option.some.inj h5;obtain⟨_,j,e1,e2,e3⟩:=hblk I d;exact .inr ⟨j,p8 j e1,e2,e3⟩
   ·exact .inl (Bk.tl (mem_of_getElem? (hold p' u' n h5)) d)
 ·refine⟨cs.set p y,by rw[j1,length_set,hr];exact b4,by rw[h7];rfl,ht.ok,(fun _ _ h=>by cases h),fun i' x' f' u2 h8 e2 g1 g2 g3 _=>?_,fun u' U=>?_,fun i1 i2 v1 v2 n l e6 I h2 b2=>?_⟩
  ·have p6:f'<F.length:=(List.getElem?_eq_some_iff.1 g3).1;have q7:i'<xs.length:=by have:=(List.getElem?_eq_some_iff.1 g1).1;rwa [length_set]at this
   have main:∀x0,xs[i']?=some x0->L3 E t x0 f'=some ⟨u2,h8⟩->(i'≠i.toNat\/f'≠f)->∃r',(cs.set p y)[rowAt F i' f']?=some r'/\U5 E w1.heap S e2 u2 h8 r':=by
    intro x0 q1 q2 q3;have l3:rowAt F i' f'≠p:=by
     rw[<-c6];intro e;obtain⟨e3,e4⟩:=v0s p6 hf e;rcases q3 with q3|q3
     ·exact q3 e3
     ·exact q3 e4
    obtain⟨r',p1,p2⟩:=ht.rows i' _ f' u2 h8 e2 q1 q2 g3 (by
     intro ho;obtain⟨e3,e4⟩:=e5 _ _ ho;rcases q3 with q3|q3
     ·exact q3 O'
     ·exact q3 e4)
    have p3:(cs.set p y)[rowAt F i' f']?=some r':=by rw[List.getElem?_set_ne (Ne.symm l3)];exact p1
    refine⟨r',p3,p2.mono kp fun b' c5=>ho.block b' (by obtain⟨_,b3,_⟩:=p2;exact Row.live b3 b' c5) ?_⟩
    rintro rfl
    exact ht.ap 0 (rowAt F i' f'+1) (hd (ρ id)) r' O' rfl (by simpa using hold _ _ l3 p3) b' (by rw[hr];exact C) c5
   by_cases hi:i'=i.toNat
   ·subst hi;rw[List.getElem?_set_self n1]at g1;obtain rfl:=Option.some.inj g1
    by_cases h3:f'=f
    ·subst h3;rw[j2]at g2;obtain⟨rfl,g2⟩:=Sigma.mk.inj (Option.some.inj g2);have g2:=eq_of_heq g2;subst g2;rw[k6]at g3;obtain rfl:=Option.some.inj g3;refine⟨y,by rw[c6];exact c3,k0.mono kp fun b' c5=>ho.block b' (by obtain⟨_,b3,_⟩:=k0;exact Row.live b3 b' c5) ?_⟩
     rintro rfl
     exact(hblk b' c5).1 (Bk.hd (by rw[hr];exact C))
    ·rw[n2 f' h3]at g2;exact main _ (a0y h0 hm) g2 (.inr h3)
   ·rw[List.getElem?_set_ne (Ne.symm hi)]at g1;exact main _ g1 g2 (.inl hi)
  ·rcases List.mem_or_eq_of_mem_set U with h9|rfl
   ·exact ht.one _ h9
   ·exact b1
  ·rw[j1,h7]at l e6;have key:∀(i1:Nat) (v1:Value),(hd (ρ id) :: cs.set p y)[i1]?=some v1->(i1=p+1/\v1=y)\/(i1≠p+1/\(hd (ρ id) :: Go.X.tl (ρ id))[i1]?=some v1):=by
    intro i1 v1 l;cases i1 with
    |zero=>exact .inr ⟨O',l⟩
    |succ i1=>
     simp only[List.getElem?_cons_succ]at l
     by_cases e1:i1=p
     ·subst e1;rw[c3]at l;exact .inl ⟨rfl,(Option.some.inj l).symm⟩
     ·exact .inr ⟨O',by simpa using hold i1 v1 e1 l⟩
   have inB:∀(i1:Nat) (v1:Value),(hd (ρ id) :: Go.X.tl (ρ id))[i1]?=some v1->D1 v1=some I->Bk (ρ id) I:=by
    intro i1 v1 l hk;have:=mem_of_getElem? l;rcases mem_cons.1 this with rfl|h9
    ·exact Bk.hd hk
    ·exact Bk.tl h9 hk
   rcases key i1 v1 l with⟨e1,rfl⟩|⟨e1,q1⟩
   ·rcases key i2 v2 e6 with⟨e2,rfl⟩|⟨e2,q2⟩
    ·omega
    ·exact(hblk I h2).1 (inB _ _ q2 b2)
   ·rcases key i2 v2 e6 with⟨e2,rfl⟩|⟨e2,q2⟩
    ·exact(hblk I b2).1 (inB _ _ q1 h2)
    ·exact ht.ap i1 i2 v1 v2 n q1 q2 I h2 b2
 ·intro o3 p0;exact ho.block e9 o3 (fun e=>p0 id n9 (by first|assumption|(rw[hl];rfl)) (j0Z c8) (Bk.hd (by rw[hr,e];exact C)))
 ·rw[hu,n0,k2];have:o0+i.toNat*F.length+f=o0+p:=by rw[<-c6];unfold rowAt;omega
  rw[this];exact j4
theorem D0j (hE:G2 E)(h:Rp E A s ρ S a as w){R:Type}{k:K E R}{r:R}{T:Nat}{p v:V E.D}{up uv:Value}(hp:VS E ρ s.nid w.heap S p up)(hv:VS E ρ s.nid w.heap S v uv)(hk:m0B E s T p v k=some r):
  ∃s1 v w1,k s1 v=some r/\X5 E A s ρ S a as w s1 v Go.undef w1/\(Instr.storeAt T up uv).run E.P w=.ok () w1:=by
 unfold m0B at hk;split at hk<;>try cases hk
 rename_i n e4;split at hk<;>try cases hk
 rename_i I;rw[and_eq_true,beq_eq]at I;obtain⟨hn,I⟩:=I;obtain⟨c,hc,j,J,h7⟩:=hv.cells hE I;have hlen:c.length=n:=(k0N hE h7 I).trans hn;split at hk
 ·rename_i id off;obtain⟨u,_,b,hr,hu⟩:=hp.b04;split at hk<;>try cases hk
  rename_i T' cs hb;have hl:=t04 hb;split at hk<;>try cases hk
  rename_i x1 x2 x3 j4;have ht:=h.th id;rw[hl]at ht;obtain⟨b',cc,g,c5,e7,h1⟩:=ht;obtain rfl:b=b':=by rw[g]at hr;simpa[hd,eq_comm]using hr
  obtain⟨c1,c2,c3,e,e5,j2,ha,_,hd⟩:=h0d hE j4 e7;rw[e]at c5;obtain⟨w1,t,ho,h6⟩:=s0r e4 j hlen J c5 e5 j2;rw[hu];obtain⟨e9,h3⟩:=h.x0s hl g ho h6 (l':=x1++b7 v++x3) (by rw[append_assoc];exact ha.app (hc.app hd)) (by
   grind)
  exact⟨_,_,w1,hk,X5.of (fun _ h=>h) e9 VS.unit h3 (Ext.at s id _) rfl (fun k hk hq=>ho.block k hk (fun e=>hq id u (by rw[hl];rfl) (c0W s) (by rw[e,g];rfl))),t⟩
 ·rename_i id off q _;obtain⟨u,h4,b,hr,hu⟩:=hp.b04;split at hk<;>try cases hk
  rename_i s1 T' l f;unfold m0B.rdP at f;split at f<;>try cases f
  split at f<;>try cases f
  split at f<;>try cases f
  split at f<;>try cases f
  rename_i u2 _;split at f<;>try cases f
  rename_i s2 y hz C;split at f<;>try cases f
  rename_i T2 k4 hb;split at f<;>try cases f
  rename_i a1 m' k1;split at f<;>try cases f
  rename_i t' x' cr j3;split at f<;>try cases f
  rename_i z b1;have hm:=G0f j3;subst hm;have h5:=O0B hz;obtain⟨S1,c6,h2,he,hf,b2,c8⟩:=p0L hE h C;have hl:=t04 hb;have ht:=h2.th id;rw[hl]at ht;obtain⟨b',cc,g,c5,e7,h1⟩:=ht;obtain rfl:b=b':=by rw[g]at hr;simpa[hd,eq_comm]using hr
  obtain⟨c1,c2,e,e5,ha,h9⟩:=b00 hE _ _ _ _ _ k1 cc e7;unfold F1 at h9;obtain⟨d1,d2,rfl,hd,b4⟩:=h9;obtain⟨e1,e2,e3,k6,hle,k2,j0⟩:=l03 hE q t' x' z d1 b1 h4 hd;have h8:w.heap[b]?=some (.cells ((c1++e1)++(e2++(e3++d2))).toArray T' (0,0)):=by simp_all
  obtain⟨w1,t,ho,h6⟩:=s0r e4 j hlen J h8 (by rw[length_append,e5,hle]) O';rw[hu];have hS:=h2.ow id (by rw[hl];rfl) b (by rw[g];rfl);have kp:=ho.J1 hS.1;have k3:(L0 E t').R w.heap S1 (e1++(c++e3)) z:=j0 c (c8 c h7);obtain⟨e9,h3⟩:=h2.x0s hl g ho h6 (l':=a1++.d t' z :: cr) (by
   have:(c1++e1)++(c++(e3++d2))=c1++((e1++(c++e3))++d2):=V'
   rw[this];refine ha.app ?_;unfold F1;exact⟨_,d2,rfl,by simp_all[VC],b4⟩) (by
   grind)
  exact⟨_,_,w1,hk,X5.of c6 e9 VS.unit h3 (he.trans (Ext.at s1 id _)) hf (fun k hk hq=>ho.block k hk (fun e=>hq id u (t0V C (by rw[hl];rfl)) (j0Z he) (by rw[e,g];rfl))),t⟩
 ·rename_i id i z q;obtain⟨u,h4,b,o,m,b3,hr,⟨h0,hm⟩,hu⟩:=hp.e0A;split at hk
  ·grind [beq_eq,B0m]
  ·grind [M0w]
  ·split at hk<;>try cases hk
   split at hk<;>try cases hk
   rename_i u2 _ _;split at hk<;>try cases hk
   rename_i s1 y C;split at hk<;>try cases hk
   rename_i e t' xs hb;split at hk<;>try cases hk
   rename_i x h5 b1;rw[and_eq_true,beq_eq,beq_eq]at h5;obtain⟨rfl,k0⟩:=h5;obtain⟨S1,c6,h2,he,hf,b2,c8⟩:=p0L hE h C;have hl:=e0F hb;have ht:=h2.th id;rw[hl]at ht;have e6:∃A' c',ρ id=.slice A' xs.length c':=U5.form ht;obtain⟨A',c',e6⟩:=e6;have g:ρ id=.slice (some ⟨b,o,none⟩) m b3:=by rw[<-hr,e6];rfl
   have U:E2 (G0 s1 id)=true:=by rw[hl];rfl
   have c4:Bk (ρ id) b:=by
    obtain⟨_,i1,_⟩:=ht;rw[g]at i1 ⊢;exact i1.j0J O'
   obtain⟨hS,k5,hW⟩:=h2.ow id U b c4;have hL:U5 E w.heap S1 e t' xs (.slice (some ⟨b,o,none⟩) m b3):=by rw[<-g];exact ht
   obtain⟨w1,t,ho,kp,j1⟩:=hL.store hE h0 hm b1 h4 (c8 c h7) k0 e4 j hlen J hS;refine⟨_,_,w1,hk,X5.of c6 (h2.turn (w1:=w1) (S1:=S1) (id:=id) (v:=ρ id) (x:=.lst e t' (xs.set i.toNat x)) (by rw[b2];exact u) U (ho.cx h2.cx hW) kp (fun _ h=>h) (fun k hk hn=>ho.block k hk (fun e=>hn (by rw[e];exact c4))) rfl (fun k hk=>(h2.ow id U k hk).1) ?_) VS.unit kp (he.trans (Ext.at s1 id _)) hf (fun k hk hq=>ho.block k hk (fun e=>hq id u (t0V C (by rw[hl];rfl)) (j0Z he) (by rw[e];exact c4))),by rw[hu];exact t⟩;rw[g];exact j1
 grind
def c0Y {t:U}{z:Value}{sz bytes:Nat}(h:b0U E t z sz bytes=true):sz=(L0 E t).sz/\z.cells.size=(L0 E t).sz/\0<(L0 E t).sz/\0<bytes:=by
 simp only[b0U,and_eq_true,beq_eq,blt_eq]at h;obtain⟨⟨⟨h1,c⟩,b⟩,d⟩:=h;subst h1;exact⟨rfl,c,b,d⟩
theorem d0q {e:Nat}{z:Value}{sz bytes:Nat}(h:b0X E e=some (z,sz,bytes)):∃i,E.P.info? e=some i/\i.zero=some z/\i.size=sz/\i.bytes=bytes:=by
 unfold b0X at h
 grind
def d0e {T e:Nat}(h:a0o E T=some e):E.P.underlying T=some (.slice e):=by
 unfold a0o at h;split at h
 ·rename_i b;split at h<;>cases h;exact b
 ·cases h
def c0x {T e:Nat}(h:a0o E T=some e):e<Qe:=by
 unfold a0o at h;split at h
 ·split at h
  ·rename_i b;cases h;exact blt_eq.mp b
  ·cases h
 ·cases h
def Rp.k0Y (h:Rp E A s ρ S a as w){e:Nat}{t:U}{xs:List (Den E.D t)}{v:Value}{w1:World}(f:Below w.heap.size w w1)(l:∀k,D1 v=some k->w.heap.size<=k/\k<w1.heap.size)(j:v.oneCell'=true)
  (i:∀S1,Y0 w.heap S w1.heap S1->(∀k,D1 v=some k->S1 k)->∃cs,Row w1.heap e (L0 E t).sz v xs.length cs/\V1 (L0 E t) w1.heap S1 cs xs):
  X5 E A s ρ S a as w (s.new (.lst e t xs)) (.sl s.nid) v w1:=by
 obtain⟨c,b⟩:=f0b j;obtain⟨S1,hk,g⟩:=h.new (x:=.lst e t xs) (v:=v) (w1:=w1) f (fun k hk=>l k ((b k).1 hk)) (fun S1 hk hs _=>i S1 hk fun k d=>hs k ((b k).2 d) rfl);refine⟨⟨_,S1,g,?_,hk⟩,Ext.new s _,rfl,fun k hk _=>f.block k hk⟩;exact VS.of rfl (by exact⟨lt_succ_self _,by simp_all[H5],by rw[H5,c]⟩)
def w0b {n:Nat}{H:M0}(z:Value):VC E ρ n H S (ofZ E z) z.cells.toList:=by
 have h:=o0x (E:=E) (ρ:=ρ) (S:=S) (n:=n) (H:=H) z;unfold ofZ at h ⊢;split at h
 ·exact h
 ·rw[v0k]at h;exact h.a0X
def M0k (hE:G2 E)(h:Rp E A s ρ S a as w){R:Type}{k:K E R}{r:R}{T:Nat}{n m:Operand}(hk:p03 E s T n m k=some r):
  ∃s1 v u w1,k s1 v=some r/\X5 E A s ρ S a as w s1 v u w1/\(Instr.makeSlice T (a.eval n) (a.eval m)).run E.P w=.ok u w1:=by
 unfold p03 at hk;split at hk<;>try cases hk
 rename_i e k0 x he hx hop;have p:n=m:=by
  unfold o0l at hop;split at hop
  ·rw[beq_eq]at hop;rw[hop]
  ·rw[of_decide_eq_true hop]
  ·cases hop
 subst p;split at hk<;>try cases hk
 rename_i t z sz bytes ht l;split at hk<;>try cases hk
 rename_i zx J hz;obtain⟨rfl,h1,h2,h3⟩:=c0Y J;obtain⟨i,hi,C,y,j⟩:=d0q l;split at hk<;>try cases hk
 rename_i c;have hT:=d0e he;have I:=S8 hx (h.val n);rw[I];simp only[F4,and_eq_true,decide_eq_true_eq]at c;obtain⟨q,rfl⟩:=Int.eq_ofNat_of_zero_le c.1;have hq:q*bytes<=140737488355328:=by
  have h1:=c.2;have h2:((q*bytes:Nat):Int)<=140737488355328:=by rw[Int.natCast_mul];exact h1
  omega
 have b1:q<=q*bytes:=Nat.le_mul_of_pos_right _ h3;obtain⟨w1,d,b,hg⟩:=run_make_full (P:=E.P) w w.heap.size T e i z (L0 E t).sz hT hi C y k0 k0 q (by rw[j,mul_comm];omega) (by simp only[maxLen];omega) (le_refl _);have hB:Below w.heap.size w w1:=⟨hg.os,hg.tape,hg.output,hg.size,fun k hk=>hg.block k hk V'⟩
 have hm:=p07 z.cells q;rw[h1]at hm;rw[hm]at b;have b:=Row.of (c0x he) b;have U:∀S1,(L0 E t).R w1.heap S1 z.cells.toList zx:=by
  intro S1;refine i0s (ρ:=ρ) (n:=0) hE (fun id=>?_) hz (w0b z);show M4 E ρ 0 w1.heap S1 .gone (ρ id)
  trivial
 refine⟨_,_,_,w1,hk,h.k0Y hB (fun k hk=>?_) rfl fun S1 hk _=>⟨_,by simpa using b,l0Y (U S1) q⟩,d⟩;obtain⟨a1,rfl⟩:=a07 hk;refine⟨le_refl _,?_⟩;rcases b.2 with⟨_,a,f⟩|⟨g,o,cap,cur,f,_,hgg,_⟩
 ·simp at f;omega
 ·simp at f;obtain⟨⟨rfl,_⟩,_⟩:=f;exact getElem?_lt hgg
def Row.h0Z {H:M0}{e sz n:Nat}{v:Value}{cs:List Value}(he:e<Qe)(h:Row H e sz v n cs):(Go.V.Row H e sz v n cs/\v.ownBlock=D1 v)\/(n=0/\cs=[]/\D1 v=none/\∃a,v=.slice (some a) 0 0):=by
 obtain⟨b,⟨h1,a,k⟩|⟨g,o,cap,cur,c,hp,hg,r2,i,f,d,j⟩⟩:=h
 ·subst h1;subst k;cases a with
  |none=>exact .inl ⟨⟨b,.inl ⟨rfl,rfl⟩⟩,rfl⟩
  |some a=>exact .inr ⟨rfl,by simpa using b,rfl,a,rfl⟩
 ·obtain rfl:=j he;rw[zero_mul]at c d;rw[if_pos he]at hg;rw[zero_add]at i f;refine .inl ⟨⟨b,.inr ⟨g,cap,cur,c,hg,r2,i,f,d⟩⟩,?_⟩;subst c;exact(c0m (a:=⟨g,0,none⟩) (m:=n) hp).symm
def inX (v:Value)(S:E0):E0:=fun k=>D1 v=some k\/S k
structure GrX (w w1:World)(v:Value):Prop where
 os:w1.os=w.os
 tape:w1.tape=w.tape
 output:w1.output=w.output
 size:w.heap.size<=w1.heap.size
 block:∀k,k<w.heap.size->D1 v≠some k->w1.heap[k]?=w.heap[k]?
def x0E {a:Option Addr}{m c k:Nat}(h:D1 (.slice a m c)=some k):(Value.slice a m c).ownBlock=some k:=by
 cases a with
 |none=>cases h
 |some a=>obtain⟨_,rfl⟩:=a07 h;rfl
def h08 {α:Type}{T:Ty α}{t ty e:TypeId}{bytes:Nat}{z:Value}{v:Value}{xs ys:List α}{cs:List Value}{A:Option Addr}{c:Nat}(P:Program)(he:e<Qe)(ht:P.underlying t=some (.slice e))(hE:(P.info? e).map (fun i=>(i.zero,i.size,i.bytes))=some (some z,T.sz,bytes))(n:(decide (z.cells.size=T.sz)&&decide (0<T.sz)&&decide (0<bytes))=true)
  (b2:Row w.heap e T.sz v xs.length cs) (c3:V1 T w.heap S cs xs) (hS:∀k,D1 v=some k->S k) (a1:Y5 T w.heap S A ys) (p:J0 bytes xs ys=true):
  ∃l w1,(Builtin.append_ #[t,t] ty #[v,.slice A ys.length c]).run P w=.ok l w1/\GrX w w1 v/\(∀k,D1 l=some k->(D1 v=some k\/w.heap.size<=k)/\k<w1.heap.size)/\(∃A1 c1,l=.slice A1 (xs++ys).length c1)/\
   ∀S1,Y0 w.heap S w1.heap S1->∃y,Row w1.heap e T.sz l (xs++ys).length y/\V1 T w1.heap S1 y (xs++ys):=by
 rcases b2.h0Z he with⟨hV,f⟩|⟨h0,hc0,hnone,a,hv⟩
 ·have c4:Ow T e (fun _=>True) w.heap S v xs:=⟨fun k hk=>⟨hS k (by rw[<-f];exact hk),trivial⟩,cs,hV,c3⟩
  obtain⟨l,w1,m,hg,J,I⟩:=F0x (P:=P) (w:=w) t ty e bytes z ht hE n c4 a1 (c:=c) p;have fin:∀S1,Y0 w.heap S w1.heap S1->Ow T e (fun _=>True) w1.heap (fun k=>l.ownBlock=some k\/S1 k) l (xs++ys):=fun S1 hk=>by
   refine I (fun k=>l.ownBlock=some k\/S1 k) ⟨hk.size,fun b hb hn=>⟨fun hi=>?_,(hk.blk b hb hn).2⟩⟩ (fun _=>True) (fun k hk=>⟨.inl hk,trivial⟩);rcases hi with hi|hi
   ·rcases J with d|d
    ·rw[d,f]at hi;exact hn (hS b hi)
    ·rw[d]at hi;have:=Option.some.inj hi;omega
   ·exact(hk.blk b hb hn).1 hi
  have e5:Y0 w.heap S w1.heap (fun k=>l.ownBlock=some k\/S k):=⟨hg.size,fun b hb hn=>⟨fun hi=>by
    rcases hi with hi|hi
    ·rcases J with d|d
     ·rw[d,f]at hi;exact hn (hS b hi)
     ·rw[d]at hi;have:=Option.some.inj hi;omega
    ·exact hn hi,hg.block b hb (fun d=>hn (hS b (by rw[<-f];exact d.symm)))⟩⟩
  have b4:=fin _ e5;obtain⟨A1,c1,r⟩:=b4.form;refine⟨l,w1,m,⟨hg.os,hg.tape,hg.output,hg.size,fun k hk hn=>hg.block k hk (fun d=>hn (by rw[<-f];exact d.symm))⟩,fun k hk=>?_,⟨A1,c1,r⟩,fun S1 hk=>?_⟩
  ·have q:l.ownBlock=some k:=by rw[r]at hk ⊢;exact x0E hk
   refine⟨?_,b4.lt k q⟩;rcases J with d|d
   ·rw[d,f]at q;exact .inl q
   ·rw[d]at q;exact .inr (Nat.le_of_eq (Option.some.inj q))
  ·obtain⟨_,y,h1,h2⟩:=fin S1 hk;exact⟨y,Row.ofV he h1,h2.J1 (Y0.less fun _ h=>.inr h)⟩
 ·subst hv;subst hc0;have e3:xs=[]:=eq_nil_of_length_eq_zero h0;subst e3;obtain⟨i,hi,c5⟩:=Option.map_eq_some_iff.1 hE;simp only[Prod.mk.injEq]at c5;obtain⟨hz,c8,c6⟩:=c5;simp only[and_eq_true,decide_eq_true_eq]at n;simp only[J0,decide_eq_true_eq,List.length_nil,zero_add]at p;have e6:ys.length<=maxLen:=by
   have:ys.length<=ys.length*bytes:=Nat.le_mul_of_pos_right _ n.2;simp only[maxLen];omega
  rcases Nat.eq_zero_or_pos ys.length with h0|hpos
  ·have h0:ys=[]:=eq_nil_of_length_eq_zero h0;subst h0;have g1:GrX w w (.slice (some a) 0 0):=⟨rfl,rfl,rfl,le_refl _,fun _ _ _=>rfl⟩
   have g2:Row w.heap e T.sz (.slice (some a) 0 0) ([]++[]:List α).length []:=⟨V',.inl ⟨rfl,_,rfl⟩⟩
   have g3:∀k,D1 (.slice (some a) 0 0)=some k->(D1 (.slice (some a) 0 0)=some k\/w.heap.size<=k)/\k<w.heap.size:=fun k hk=>by cases hk
   refine⟨.slice (some a) 0 0,w,?_,g1,g3,⟨some a,0,rfl⟩,fun S1 hk=>⟨[],g2,V1.nil⟩⟩;cases A<;>simp[Builtin.append_,run_underlying ht,sizeOf,typeInfo,hi,Builtin.lenOf,Builtin.firstCells,loadCells,loadCellsFrom,storeCells]
  ·obtain⟨b,off,_,hA,_⟩:=a1 0 ys[0] (by simp[hpos]);subst hA;have rd:∀{A:Option Addr} {xs:List α},Y5 T w.heap S A xs->∃news,V1 T w.heap S news xs/\∀b o,A=some ⟨b,o,none⟩->∀j u,news[j]?=some u->D2 w.heap b (o+0*T.sz+j)=some u:=fun hr=>Y5.news (w:=w) (k:=0) (fun i x hx=>by
    obtain⟨b,o,cs,h1,h2,R⟩:=hr i x hx;exact⟨b,o,cs,h1,h2,fun j v hj=>by rw[zero_add];exact R j v hj⟩)
   obtain⟨news,b1,C⟩:=rd a1;have U:∀j u,news[j]?=some u->w.cell? ((⟨b,off,none⟩:Addr).add j)=some u:=by
    intro j u hj;rw[a01];have:=C b off rfl j u hj;simpa using this
   obtain⟨l,w',m,h2,R⟩:=run_append_arg_grows (P:=P) w t ty e i z T.sz bytes ht hi hz c8 c6 n.1.1 n.1.2 a 0 0 [] V' (fun j u hj=>by simp at hj) ⟨b,off,none⟩ ys.length c news b1.1 U O' O' (by simpa using p);have hV:=h2;obtain⟨hl,hv|⟨g,cap,cur,hv,e2,hg,e7,hm,e9,e4⟩⟩:=hV
   ·exact absurd hv.2 O'
   ·have b3:=Row.of he h2;rw[zero_add,nil_append]at b3;refine⟨l,w',m,⟨R.os,R.tape,R.output,R.size,fun k hk _=>R.block k hk V'⟩,fun k hk=>?_,⟨_,_,by rw[hv];simp;exact⟨rfl,rfl⟩⟩,fun S1 hk=>⟨news,by simpa using b3,by simpa using b1.J1 hk⟩⟩;rw[hv]at hk;obtain⟨_,rfl⟩:=a07 hk;exact⟨.inr e2,getElem?_lt hg⟩
def g07 (h:Rp E A s ρ S a as w){t:U}{y:V E.D}{C:Value}(n:VS E ρ s.nid w.heap S y C){ys:List (Den E.D t)}(hs:e0h E s t y=some ys):
  ∃b c,C=.slice b ys.length c/\Y5 (L0 E t) w.heap S b ys:=by
 unfold e0h at hs;split at hs
 ·simp only[Option.some.injEq]at hs;subst hs;obtain rfl:=n.b0m;exact⟨none,0,rfl,fun i x k=>by simp at k⟩
 ·split at hs<;>try cases hs
  rename_i m r hl;obtain⟨e,hs⟩:=W9 hs;subst e;subst hs;have p:=hl;unfold c0o at hl;split at hl
  ·cases hl;obtain⟨b,c,rfl,u⟩:=n.g0U;exact⟨b,c,rfl,u.2.2⟩
  ·rename_i id _;obtain⟨b1,rfl⟩:=n.Y8;rcases h.r0e p with⟨e,h1,_⟩|⟨b,c,h1,l⟩
   ·obtain⟨b,c,l⟩:=h1.form;rw[l]at h1;refine⟨b,c,l,fun i x k=>?_⟩;have hi:i<r.length:=(List.getElem?_eq_some_iff.1 k).1;cases b with
    |none=>
     obtain⟨cs,f,_⟩:=h1;rcases f.2 with⟨h0,_⟩|⟨g,o,cap,cur,hv,_⟩
     ·omega
     ·cases hv
    |some ad=>
     have q:=h1;obtain⟨a1,d,_⟩:=q;rcases d.2 with⟨h0,_⟩|⟨g,o,cap,cur,hv,_⟩
     ·omega
     ·simp at hv;obtain⟨rfl,_⟩:=hv;obtain⟨_,J⟩:=h1.el;obtain⟨_,cs,z,I⟩:=J i O' O';have:r7 E m r i=x:=by
       have:=a0y (E:=E) (t:=m) (xs:=r) (i:=i) O' O';rw[Int.toNat_natCast,k]at this;exact(Option.some.inj this).symm
      rw[this]at z;exact⟨g,o*(L0 E m).sz,cs,rfl,z,fun j v R=>I w.heap rfl j v R⟩
   ·exact⟨b,c,h1,l.2.2⟩
  ·cases hl
def w03 (hE:G2 E)(h:Rp E A s ρ S a as w){R:Type}{k:K E R}{r:R}{T:Nat}{x y:V E.D}{ux uy:Value}(hx:VS E ρ s.nid w.heap S x ux)(hy:VS E ρ s.nid w.heap S y uy)(ty:Nat)(hk:k0B E s T x y k=some r):
  ∃s1 v u w1,k s1 v=some r/\X5 E A s ρ S a as w s1 v u w1/\(Builtin.append_ #[T,T] ty #[ux,uy]).run E.P w=.ok u w1:=by
 unfold k0B at hk;split at hk<;>try cases hk
 rename_i e he;split at hk<;>try cases hk
 rename_i t z sz bytes ht h7;split at hk<;>try cases hk
 rename_i ys g xs i1 b2 d;split at hk<;>try cases hk
 rename_i C;obtain⟨rfl,h1,h2,h3⟩:=c0Y i1;obtain⟨i,hi,h9,e5,e4⟩:=d0q h7;have hT:=d0e he;obtain⟨A',c,rfl,c3⟩:=g07 h hy b2;have b4:(E.P.info? e).map (fun i=>(i.zero,i.size,i.bytes))=some (some z,(L0 E t).sz,bytes):=by rw[hi];simp[h9,e5,e4]
 have c5:(decide (z.cells.size=(L0 E t).sz)&&decide (0<(L0 E t).sz)&&decide (0<bytes))=true:=by simp[h1,h2,h3]
 unfold y07 at d;split at d
 ·simp only[Option.some.injEq,Prod.mk.injEq]at d;obtain⟨rfl,rfl⟩:=d;obtain rfl:=hx.b0m;obtain⟨v',w1,n,hg,o,⟨A1,c1,m⟩,j⟩:=h08 (S:=S) (w:=w) (ty:=ty) (v:=.slice none 0 0) (xs:=([]:List (Den E.D t))) (cs:=[]) (c:=c) E.P (c0x he) hT b4 c5 ⟨V',.inl ⟨rfl,none,rfl⟩⟩ V1.nil (fun k hk=>by cases hk) c3 C;have hB:Below w.heap.size w w1:=⟨hg.os,hg.tape,hg.output,hg.size,fun k hk=>hg.block k hk (by simp[D1])⟩
  subst m;refine⟨_,_,_,w1,hk,h.k0Y hB (fun k hk=>?_) rfl fun S1 hk hs=>j S1 hk,n⟩;obtain⟨I,h6⟩:=o k hk;refine⟨?_,h6⟩;rcases I with I|I
  ·cases I
  ·exact I
 ·rename_i id;split at d<;>try cases d
  rename_i e' t' zs hl;split at d<;>try cases d
  rename_i e1 a1;rw[beq_eq]at e1;subst e1;obtain⟨e2,a1⟩:=W9 a1;subst e2;subst a1;obtain⟨h0,rfl⟩:=hx.Y8;have hl:=e0F hl;have f:E2 (G0 s id)=true:=by rw[hl];rfl
  have J:=h.th id;rw[hl]at J;obtain⟨A0,c0,c8⟩:=U5.form J;have c4:hd (ρ id)=ρ id:=by rw[c8];rfl
  have p:∀k,Bk (ρ id) k↔D1 (ρ id)=some k:=fun k=>by rw[c8];exact Iff.rfl
  rw[c4];obtain⟨cs,b3,c6⟩:=J;have hS:=fun k hk=>(h.ow id f k ((p k).2 hk))
  obtain⟨v',w1,n,hg,o,⟨A1,c1,m⟩,j⟩:=h08 (S:=S) (w:=w) (ty:=ty) (c:=c) E.P (c0x he) hT b4 c5 b3 c6 (fun k hk=>(hS k hk).1) c3 C;subst m;have l:Y0 w.heap S w1.heap (inX (Value.slice A1 (zs++ys).length c1) S):=⟨hg.size,fun b q hn=>⟨fun hi=>by
    rcases hi with hi|hi
    ·rcases(o b hi).1 with e|e
     ·exact hn (hS b e).1
     ·omega
    ·exact hn hi,hg.block b q (fun e=>hn (hS b e).1)⟩⟩
  obtain⟨e7,U,b1⟩:=j _ l;have h4:Cx A.w0 A.W0 A.S0 w1 (inX (Value.slice A1 (zs++ys).length c1) S):=by
   have cx:=h.cx;refine⟨⟨hg.os.trans cx.bel.os,hg.tape.trans cx.bel.tape,hg.output.trans cx.bel.output,le_trans cx.bel.size hg.size,fun k hk hn=>(hg.block k (by have:=cx.size;omega) (fun e=>?_)).trans (cx.bel.block k hk hn)⟩,fun b q=>.inr (cx.sub b q),fun b q=>?_,cx.lt0⟩
   ·rcases(hS k e).2.2 with h2|h2
    ·exact hn h2
    ·omega
   ·rcases q with q|q
    ·exact(o b q).2
    ·exact lt_of_lt_of_le (cx.lt b q) hg.size
  have h8:Rp E A ((L1 s [id]).new (Th.lst e t' (zs++ys))) (Q6 ρ s.nid (Value.slice A1 (zs++ys).length c1)) (inX (Value.slice A1 (zs++ys).length c1) S) a as w1:=
   h.take h4 l (fun k hk=>.inr hk) (fun k hk hn=>hg.block k hk (fun e=>hn id V' f ((p k).2 e))) (fun k hk _=>⟨.inl hk,((o k hk).1).imp (fun I=>⟨id,V',f,(p k).2 I⟩) (fun I=>O')⟩) ⟨e7,U,b1⟩ (by intros;simp)
  refine⟨_,_,_,w1,hk,⟨⟨_,_,h8,?_,l⟩,(Ext.at s id .gone).trans (Ext.new _ _),rfl,fun e9=>?_⟩,n⟩
  ·exact VS.of rfl (by unfold VC;exact⟨lt_succ_self _,by rw[H5];rfl,by rw[H5];rfl⟩)
  ·intro e3 e6;exact hg.block e9 e3 (fun e=>e6 id h0 f (h0v (c0W s) (Ext.at s id .gone) (Ext.new _ _)) ((p e9).2 e))
 ·cases d
def D0s {P:Program}(w:World)(t ty e:TypeId)(i:TypeInfo)(o:P.underlying t=some (.slice e))(hi:P.info? e=some i)
  (g off b d:Nat) (cur:Array Value) (hg:w.heap[g]?=some (.cells cur e (0,0)))
  (a:Addr) (m c:Nat) (news:List Value) (hl:news.length=m*i.size) (f:∀j u,news[j]?=some u->w.cell? (a.add j)=some u) (h1:∀u∈news,u.oneCell'=true)
  (h:b+m<=d) (k:off+b*i.size+news.length<=cur.size):
  (Builtin.append_ #[t,t] ty #[.slice (some ⟨g,off,none⟩) b d,.slice (some a) m c]).run P w =
   .ok (.slice (some ⟨g,off,none⟩) (b+m) d) (w.setRow g (cur.toList.take (off+b*i.size)++news++cur.toList.drop (off+b*i.size+news.length)).toArray):=by
 have n:=run_firstCells_some (P:=P) w i.size m a m c news hl f;have l:=run_storeCells_at P g (off+b*i.size) e news 0 cur w hg (by simpa using k) h1;simp only[Nat.add_zero]at l;simp[Builtin.append_,run_underlying o,sizeOf,typeInfo,hi,Builtin.lenOf,h,n,Addr.add_lit,l]
def H0t {α:Type}{T:Ty α}{t ty e:TypeId}{bytes:Nat}{z:Value}{v:Value}{xs ys:List α}{cs:List Value}{A:Option Addr}{c:Nat}(P:Program)(he:e<Qe)(ht:P.underlying t=some (.slice e))(hE:(P.info? e).map (fun i=>(i.zero,i.size,i.bytes))=some (some z,T.sz,bytes))(n:(decide (z.cells.size=T.sz)&&decide (0<T.sz)&&decide (0<bytes))=true)
  (c3:Row w.heap (Qe+e) T.sz v xs.length cs) (p:V1 T w.heap S cs xs) (hS:∀k,D1 v=some k->S k) (b2:Y5 T w.heap S A ys) (e6:0<ys.length) (f:J0 bytes xs ys=true):
  ∃R w1,(Builtin.append_ #[t,t] ty #[v,.slice A ys.length c]).run P w=.ok R w1/\GrX w w1 v/\(∀k,D1 R=some k->(D1 v=some k\/w.heap.size<=k)/\k<w1.heap.size)/\(∃A1 c1,R=.slice A1 (xs++ys).length c1)/\
   ∀S1,Y0 w.heap S w1.heap S1->∃I,Row w1.heap (Qe+e) T.sz R (xs++ys).length I/\V1 T w1.heap S1 I (xs++ys):=by
 obtain⟨y,hd|⟨g,o,cap,cur,hv,hp,hg,h9,e7,h4,b4,_⟩⟩:=c3
 ·obtain⟨R,w1,m,a1,a2,a3,U⟩:=h08 (ty:=ty) (c:=c) (S:=S) P he ht hE n ⟨y,.inl hd⟩ p hS b2 f;exact⟨R,w1,m,a1,a2,a3,fun S1 hk=>by obtain⟨I,q1,q2⟩:=U S1 hk;exact⟨I,q1.toQ he,q2⟩⟩
 ·subst hv;rw[if_neg (show ¬Qe+e<Qe from O'),Nat.add_sub_cancel_left]at hg;obtain⟨i,hi,c4⟩:=Option.map_eq_some_iff.1 hE;simp only[Prod.mk.injEq]at c4;obtain⟨hz,C,e2⟩:=c4;simp only[and_eq_true,decide_eq_true_eq]at n;have h0:=f;simp only[J0,decide_eq_true_eq]at f;have c5:xs.length+ys.length<=maxLen:=by
   have:xs.length+ys.length<=(xs.length+ys.length)*bytes:=Nat.le_mul_of_pos_right _ n.2;simp only[maxLen];omega
  obtain⟨b,off,_,hA,_⟩:=b2 0 ys[0] (by simp[e6]);subst hA;have rd:∀{A:Option Addr} {xs:List α},Y5 T w.heap S A xs->∃news,V1 T w.heap S news xs/\∀b o,A=some ⟨b,o,none⟩->∀j u,news[j]?=some u->D2 w.heap b (o+0*T.sz+j)=some u:=fun hr=>Y5.news (w:=w) (k:=0) (fun i x hx=>by
   obtain⟨b,o,cs,h1,h2,h3⟩:=hr i x hx;exact⟨b,o,cs,h1,h2,fun j v hj=>by rw[zero_add];exact h3 j v hj⟩)
  obtain⟨news,l,J⟩:=rd b2;have r:∀j u,news[j]?=some u->w.cell? ((⟨b,off,none⟩:Addr).add j)=some u:=by
   intro j u hj;rw[a01];have:=J b off rfl j u hj;simpa using this
  have b3:D1 (.slice (some ⟨g,o*T.sz,none⟩) xs.length cap)=some g:=c0m hp
  by_cases d:xs.length+ys.length<=cap
  ·have hmul:xs.length*T.sz+ys.length*T.sz<=cap*T.sz:=by rw[<-add_mul];exact mul_le_mul_right _ d
   rw[add_mul]at h4;have b1:=l.1;have hr:=D0s w t ty e i ht hi g (o*T.sz) xs.length cap cur hg ⟨b,off,none⟩ ys.length c news (by rw[C];exact b1) r l.f0y d (by rw[C];omega);rw[C]at hr;have e9:(cur.toList.take (o*T.sz)).length=o*T.sz:=by rw[length_take,Array.length_toList];omega
   have c8:cur.toList.take (o*T.sz+xs.length*T.sz)=cur.toList.take (o*T.sz)++cs:=by rw[List.take_add,b4]
   rw[c8]at hr;have q:T6 g w (w.setRow g (cur.toList.take (o*T.sz)++cs++news++cur.toList.drop (o*T.sz+xs.length*T.sz+news.length)).toArray):=⟨rfl,rfl,rfl,by simp[World.setRow],fun k _ hk=>by simp[World.setRow,Array.getElem?_modify,Ne.symm hk]⟩
   have hlen:(xs++ys).length=xs.length+ys.length:=length_append;refine⟨_,_,hr,⟨q.os,q.tape,q.output,q.size,fun k hk hn=>q.block k hk (fun e=>hn (by rw[e];exact b3))⟩,fun k hk=>?_,⟨_,_,by rw[hlen]⟩,fun S1 hk=>⟨cs++news,⟨by rw[length_append,hlen,add_mul,y,b1],.inr ⟨g,o,cap,_,by rw[hlen],hp,by rw[if_neg (show ¬Qe+e<Qe from O'),Nat.add_sub_cancel_left];exact setRow_heap w g cur _ e _ hg,by rw[hlen];exact d,e7,?_,?_,fun h=>absurd h (show ¬Qe+e<Qe from O')⟩⟩,(p.J1 hk).append (l.J1 hk)⟩⟩
   ·obtain⟨_,rfl⟩:=a07 hk;refine⟨.inl b3,?_⟩;have:=getElem?_lt hg;simpa[World.setRow]using this
   ·rw[add_mul];simp only[List.size_toArray,length_append,length_drop,Array.length_toList,e9,y,b1];omega
   ·rw[hlen,add_mul,List.toList_toArray,append_assoc,append_assoc,List.drop_append_of_le_length O',List.drop_of_length_le O',nil_append,<-append_assoc,List.take_append_of_le_length (by rw[length_append];omega),take_of_length_le (by rw[length_append];omega)]
  ·obtain⟨R,w',m,h2,h3⟩:=run_append_arg_grows (P:=P) w t ty e i z T.sz bytes ht hi hz C e2 n.1.1 n.1.2 ⟨g,o*T.sz,none⟩ xs.length cap cs y (fun j u hj=>by
    rw[a01];have e4:j<xs.length*T.sz:=by rw[<-y];exact(List.getElem?_eq_some_iff.1 hj).1
    unfold D2;rw[hg];simp only;rw[<-b4,List.getElem?_take_of_lt e4,List.getElem?_drop]at hj;simpa using hj) ⟨b,off,none⟩ ys.length c news l.1 r O' c5 f
   have hV:=h2;obtain⟨hl,hv|⟨g',h5,h8,hv,e5,e1,h7,i1,h6,c6⟩⟩:=hV
   ·exact absurd hv.2 O'
   ·have e3:=(Row.of he h2).toQ he;refine⟨R,w',m,⟨h3.os,h3.tape,h3.output,h3.size,fun k hk _=>h3.block k hk V'⟩,fun k hk=>?_,⟨_,_,by rw[hv,length_append]⟩,fun S1 hk=>⟨cs++news,by rw[length_append];exact e3,(p.J1 hk).append (l.J1 hk)⟩⟩;rw[hv]at hk;obtain⟨_,rfl⟩:=a07 hk;exact⟨.inr e5,getElem?_lt e1⟩
def H0R (hE:G2 E)(h:Rp E A s ρ S a as w){R:Type}{k:K E R}{r:R}{T id e:Nat}{l:U}{I:List (Den E.D l)}{x y:V E.D}{ux uy:Value}(hx:VS E ρ s.nid w.heap S x ux)(hy:VS E ρ s.nid w.heap S y uy)(ty:Nat)(hq:quV E s T x=some (id,e,⟨l,I⟩))(hk:r0K E s id e l I y k=some r):
  ∃s1 v u w1,k s1 v=some r/\X5 E A s ρ S a as w s1 v u w1/\(Builtin.append_ #[T,T] ty #[ux,uy]).run E.P w=.ok u w1:=by
 unfold quV at hq;split at hq<;>try cases hq
 rename_i j1;split at hq<;>try cases hq
 rename_i e0 e' x0 he hl;split at hq<;>try cases hq
 rename_i c5;rw[beq_eq]at c5;subst c5;unfold r0K at hk;split at hk<;>try cases hk
 rename_i t z sz bytes ht h8;split at hk<;>try cases hk
 rename_i ys xs j0 a1 C;split at hk<;>try cases hk
 rename_i j2;split at hk<;>try cases hk
 rename_i c3;obtain⟨e2,C⟩:=W9 C;subst e2;subst C;obtain⟨rfl,h1,h2,h3⟩:=c0Y j0;obtain⟨i,hi,i1,e5,c8⟩:=d0q h8;have hT:=d0e he;have e3:=c0x he;obtain⟨A',c,rfl,e4⟩:=g07 h hy a1;have e1:(E.P.info? e).map (fun i=>(i.zero,i.size,i.bytes))=some (some z,(L0 E l).sz,bytes):=by rw[hi];simp[i1,e5,c8]
 have e6:(decide (z.cells.size=(L0 E l).sz)&&decide (0<(L0 E l).sz)&&decide (0<bytes))=true:=by simp[h1,h2,h3]
 obtain⟨h6,rfl⟩:=hx.Y8;have hl:=e0F hl;have d:E2 (G0 s id)=true:=by rw[hl];rfl
 have o:=h.th id;rw[hl]at o;obtain⟨A0,c0,c4⟩:=U5.form o;have b3:hd (ρ id)=ρ id:=by rw[c4];rfl
 have g:∀k,Bk (ρ id) k↔D1 (ρ id)=some k:=fun k=>by rw[c4];exact Iff.rfl
 rw[b3];obtain⟨cs,b1,b4⟩:=o;have hS:=fun k hk=>(h.ow id d k ((g k).2 hk))
 have h0:0<ys.length:=by cases ys<;>simp_all
 obtain⟨v',w1,b2,hg,n,⟨A1,c1,p⟩,m⟩:=H0t (S:=S) (w:=w) (ty:=ty) (c:=c) E.P e3 hT e1 e6 b1 b4 (fun k hk=>(hS k hk).1) e4 h0 c3;subst p;have f:Y0 w.heap S w1.heap (inX (Value.slice A1 (I++ys).length c1) S):=⟨hg.size,fun b j hn=>⟨fun hi=>by
   rcases hi with hi|hi
   ·rcases(n b hi).1 with e|e
    ·exact hn (hS b e).1
    ·omega
   ·exact hn hi,hg.block b j (fun e=>hn (hS b e).1)⟩⟩
 obtain⟨h4,q,J⟩:=m _ f;have h7:Cx A.w0 A.W0 A.S0 w1 (inX (Value.slice A1 (I++ys).length c1) S):=by
  have cx:=h.cx;refine⟨⟨hg.os.trans cx.bel.os,hg.tape.trans cx.bel.tape,hg.output.trans cx.bel.output,le_trans cx.bel.size hg.size,fun k hk hn=>(hg.block k (by have:=cx.size;omega) (fun e=>?_)).trans (cx.bel.block k hk hn)⟩,fun b j=>.inr (cx.sub b j),fun b j=>?_,cx.lt0⟩
  ·rcases(hS k e).2.2 with h2|h2
   ·exact hn h2
   ·omega
  ·rcases j with j|j
   ·exact(n b j).2
   ·exact lt_of_lt_of_le (cx.lt b j) hg.size
 have h9:Rp E A ((L1 s [id]).new (Th.lst (Qe+e) l (I++ys))) (Q6 ρ s.nid (Value.slice A1 (I++ys).length c1)) (inX (Value.slice A1 (I++ys).length c1) S) a as w1:=
  h.take h7 f (fun k hk=>.inr hk) (fun k hk hn=>hg.block k hk (fun e=>hn id V' d ((g k).2 e))) (fun k hk _=>⟨.inl hk,((n k hk).1).imp (fun h5=>⟨id,V',d,(g k).2 h5⟩) (fun h5=>O')⟩) ⟨h4,q,J⟩ (by intros;simp)
 refine⟨_,_,_,w1,hk,⟨⟨_,_,h9,?_,f⟩,(Ext.at s id .gone).trans (Ext.new _ _),rfl,fun e9=>?_⟩,b2⟩
 ·exact VS.of rfl (by unfold VC;exact⟨lt_succ_self _,by rw[H5];rfl,by rw[H5];rfl⟩)
 ·intro c6 e7;exact hg.block e9 c6 (fun e=>e7 id h6 d (h0v (c0W s) (Ext.at s id .gone) (Ext.new _ _)) ((g e9).2 e))
theorem H0s (_hE:G2 E)(h:Rp E A s ρ S a as w){id r0 f:Nat}{j:Int}{s1:St E.D}(hl:G0 s id=.rof r0 j f)(C:p0Y E s r0 j f=some s1):
  ∃ ρ1,Rp E A s1 ρ1 S a as w/\(∀i,i<s.nid->hd (ρ1 i)=hd (ρ i))/\VS E ρ1 s1.nid w.heap S (.sl s.nid) (hd (ρ id))/\Ext s s1/\s1.fr=s.fr/\(∀q,q<s.nid->E2 (G0 s1 q)=true->E2 (G0 s q)=true)/\(∃r',r'<s.nid/\E2 (G0 s r')=true/\c7 s s1 r'=true/\∀q k,q<s1.nid->Bk (ρ1 q) k->(q<s.nid/\Bk (ρ q) k)\/Bk (ρ r') k)/\s.nid<=s1.nid:=by
 unfold p0Y at C;split at C<;>try cases C
 rename_i e F t xs e3;split at C<;>try cases C
 rename_i u zs e' j1 e5;have hq:=e02 e3;have m:E2 (G0 s r0)=true:=by rw[hq];rfl
 have e7:=h.F7 (id:=r0) (by simp_all);obtain⟨b2,o2,m2,c2,k1,k2,k3,k4⟩:=h.rf id r0 j f hl e F t xs hq;have z:=h.th r0;rw[hq]at z;obtain⟨cs,z⟩:=z;have c6:=z.row;rw[k1]at c6;obtain⟨rfl,_,_,U⟩:=Row.cell c6 O';have b4:L3 E t (r7 E t xs j) f=some ⟨u,zs⟩:=by simp_all[b03]
 have b3:=a0y (E:=E) (t:=t) (xs:=xs) k2.1 k2.2;obtain⟨j0,h5,hL⟩:=z.rows j.toNat _ f u zs _ b3 b4 e5 V';have e4:rowAt F j.toNat f<cs.length:=(List.getElem?_eq_some_iff.1 h5).1;have h6:=U w.heap rfl _ (by rw[<-z.row.1];omega);rw[h5]at h6;have k4:D2 w.heap b2 (o2+rowAt F j.toNat f)=some (ρ id):=k4;rw[k4]at h6;obtain rfl:=Option.some.inj h6;have h8:=f0Q (o:=none) k3 V' h5 V';rw[<-z.tl]at h8;have h7:Go.X.tl (ρ r0)=cs:=z.tl;generalize h4:rowAt F j.toNat f=p at e4 h5 h8;have b1:hd (Value.tuple (hd (ρ r0) :: cs.set p H7).toArray)=hd (ρ r0):=rfl;have c4:Go.X.tl (Value.tuple (hd (ρ r0) :: cs.set p H7).toArray)=cs.set p H7:=rfl;have key:∀(g:Nat) (v1:Value) d,(hd (ρ r0) :: cs.set p H7)[g]?=some v1->D1 v1=some d->g≠p+1/\(hd (ρ r0) :: Go.X.tl (ρ r0))[g]?=some v1:=by
  intro g v1 d n hk;cases g with
  |zero=>simp_all
  |succ g=>
   simp only[List.getElem?_cons_succ]at n ⊢
   by_cases e1:g=p
   ·subst e1;rw[List.getElem?_set_self e4]at n;obtain rfl:=Option.some.inj n;cases hk
   grind
 have inB:∀(g:Nat) (v1:Value) d,(hd (ρ r0) :: Go.X.tl (ρ r0))[g]?=some v1->D1 v1=some d->Bk (ρ r0) d:=by
  intro g v1 d n hk;rcases mem_cons.1 (mem_of_getElem? n)with rfl|h9
  ·exact Bk.hd hk
  grind [Bk.tl]
 have R:∀d,Bk (Value.tuple (hd (ρ r0) :: cs.set p H7).toArray) d->∃g v1,g≠p+1/\(hd (ρ r0) :: Go.X.tl (ρ r0))[g]?=some v1/\D1 v1=some d:=by
  intro d b;have:∃u'∈hd (ρ r0) :: cs.set p H7,D1 u'=some d:=by
   rcases e0p.1 b with b|⟨u',a1,b⟩
   ·exact⟨_,List.mem_cons_self,b⟩
   ·exact⟨u',List.mem_cons_of_mem _ a1,b⟩
  obtain⟨u',a1,l⟩:=this;obtain⟨g,e9⟩:=List.getElem?_of_mem a1;obtain⟨q1,q2⟩:=key g u' d e9 l;exact⟨g,u',q1,q2,l⟩
 have h3:=h.y0c (id:=r0) (x:=.G1 e F t xs (some (j,f))) (v:=Value.tuple (hd (ρ r0) :: cs.set p H7).toArray) (G:=a0z r0 s.th) m b1 h.cx (Y0.refl _ _) (fun _ h=>h) (fun _ _ _=>rfl) (fun d b=>by
   obtain⟨g,v1,_,q2,q3⟩:=R d b;exact .inl (inB g v1 d q2 q3)) (by
   refine⟨cs,z.row,by rw[c4];unfold e0z;simp only[h4],z.ok,fun j' g' r=>?_,fun i' x' f' u2 h0 r g1 g2 g3 g4=>?_,z.one,fun g i2 v1 v2 h2 n c3 d c5 l=>?_⟩
   ·cases r;exact⟨k2.1,k3⟩
   ·exact z.rows i' x' f' u2 h0 r g1 g2 g3 V'
   ·rw[b1,c4]at n c3;exact z.ap g i2 v1 v2 h2 (key g v1 d n c5).2 (key i2 v2 d c3 l).2 d c5 l) (fun r' i' f' e6=>n0W e6) (by intros;simp)
 have c:((L1 s (a0z r0 s.th)).at r0 (Th.G1 e F t xs (some (j,f)))).nid=s.nid:=(a0D _ s).1;have y:=U5.form hL;obtain⟨A0,c0,y⟩:=y;have J:=h3.z0e (x:=.lst e' u zs) (v:=ρ id) (fun d b _=>by
   rw[y]at b;have b:D1 (ρ id)=some d:=by rw[y];exact b
   refine⟨h.ow r0 m d (Bk.tl (mem_of_getElem? h8) b),fun j' I l=>?_⟩
   by_cases r:j'=r0
   ·subst r;rw[H5]at l;obtain⟨g,v1,q1,q2,q3⟩:=R d l;exact z.ap g (p+1) v1 (ρ id) q1 q2 (by simpa using h8) d q3 b
   ·rw[j6 r]at l;rw[M9,if_neg (Ne.symm r),e0m]at I;split at I
    ·cases I
    ·exact h.dj r0 j' (Ne.symm r) m I d (Bk.tl (mem_of_getElem? h8) b) l) hL (fun _ _ _ e=>by cases e)
 rw[c]at J;refine⟨_,J,fun i hi=>?_,?_,((Ext.L1 s _).trans (Ext.at _ r0 _)).trans (Ext.new _ _),(a0D _ s).2.1,fun q hq C=>?_,?_,?_⟩
 ·rw[j6 O']
  by_cases r:i=r0
  ·subst r;rw[H5];exact b1
  ·rw[j6 r]
 ·refine VS.of rfl ?_;unfold VC;rw[H5];have c:((S7 s r0).at r0 (Th.G1 e F t xs (some (j,f)))).nid=s.nid:=c;refine⟨by show s.nid<_+1;rw[c];omega,by rw[y];rfl,rfl⟩
 ·have c:((S7 s r0).at r0 (Th.G1 e F t xs (some (j,f)))).nid=s.nid:=c;rw[o0b,if_neg (by rw[c];omega),M9]at C;split at C
  ·rename_i r;subst r;exact m
  ·unfold S7 at C;rw[e0m]at C;split at C
   ·cases C
   ·exact C
 ·refine⟨r0,e7,m,h0v (j0Z (Ext.L1 s _)) ((Ext.L1 s _).trans (Ext.at _ r0 _)) (Ext.new _ _),fun q d c8 b=>?_⟩;have c:((S7 s r0).at r0 (Th.G1 e F t xs (some (j,f)))).nid=s.nid:=c;have c8:q<s.nid+1:=by rw[<-c];exact c8
  by_cases e1:q=s.nid
  ·subst e1;rw[H5]at b;rw[y]at b;exact .inr (Bk.tl (mem_of_getElem? h8) (by rw[y];exact b))
  ·rw[j6 e1]at b
   by_cases r:q=r0
   ·subst r;rw[H5]at b;obtain⟨g,v1,_,q2,q3⟩:=R d b;exact .inr (inB g v1 d q2 q3)
   ·rw[j6 r]at b;exact .inl ⟨O',b⟩
 ·have c:((S7 s r0).at r0 (Th.G1 e F t xs (some (j,f)))).nid=s.nid:=c;show s.nid<=_+1;rw[c];omega
def c0O (n:Nat):Ty (List Value) where
 sz:=n
 R:=fun _ _ cs x=>cs=x/\x.length=n/\∀v∈x,v.oneCell'=true
 len:=by simp_all
 one:=by simp
 J1:=fun _ h=>h
theorem u0A {n:Nat}{H:M0}{S:E0}:∀(b:List (List Value)) (cs:List Value),V1 (c0O n) H S cs b->cs=b.flatten
 |[],cs,h=>by
  have:=h.1
  simp_all
 |z :: b,cs,h=>by
  have c:=h.2 0 z rfl;simp only[zero_mul,List.drop_zero]at c;obtain⟨h1,e,_⟩:=c;have hl:cs.length=(b.length+1)*n:=h.1;have f:=u0A (H:=H) (S:=S) b (cs.drop n) ⟨by show(cs.drop n).length=b.length*n;grind,fun i x d=>by
   have:=h.2 (i+1) x d;show(((cs.drop n).drop (i*n)).take n)=x/\_;rw[drop_drop,show n+i*n=(i+1)*n from by grind];exact this⟩
  grind [take_append_drop]
theorem q0S {n:Nat}{H:M0}{S:E0}:∀(m:Nat) (cs:List Value),cs.length=m*n->(∀v∈cs,v.oneCell'=true)->∃b:List (List Value),b.length=m/\b.flatten=cs/\V1 (c0O n) H S cs b
 |0,cs,h,_=>by
  have:cs=[]:=eq_nil_of_length_eq_zero O';subst this;exact⟨[],rfl,rfl,V1.nil⟩
 |m+1,cs,h,h1=>by
  rw[succ_mul]at h;obtain⟨b,g,f,e⟩:=q0S (n:=n) (H:=H) (S:=S) m (cs.drop n) (by simp_all) (fun v c=>h1 v (List.mem_of_mem_drop c));have d:(c0O n).R H S (cs.take n) (cs.take n):=⟨rfl,by simp_all,fun v c=>h1 v (List.mem_of_mem_take c)⟩
  refine⟨cs.take n :: b,by grind,by simp_all,?_⟩;have:=(V1.one d).append e
  simp_all
structure R7 (E:Env)(H:M0)(S:E0)(F:List Nat)(t:U)(xs:List (Den E.D t))(cs:List Value):Prop where
 len:cs.length=xs.length*F.length
 rows:∀(i:Nat) (x:Den E.D t) (f:Nat) (u:U) (ys:List (Den E.D u)) (e':Nat),xs[i]?=some x->L3 E t x f=some ⟨u,ys⟩->F[f]?=some e'->∃r,cs[rowAt F i f]?=some r/\U5 E H S e' u ys r
 one:∀u∈cs,u.oneCell'=true
theorem R7.app {H:M0}{F:List Nat}{t:U}{xs ys:List (Den E.D t)}{cs e:List Value}(h:R7 E H S F t xs cs)(k:R7 E H S F t ys e):R7 E H S F t (xs++ys) (cs++e):=by
 refine⟨by rw[length_append,length_append,h.len,k.len,add_mul],fun i x f u c e' h1 d b=>?_,fun u hu=>?_⟩
 ·rcases lt_or_ge i xs.length with hi|hi
  ·rw[List.getElem?_append_left hi]at h1;obtain⟨r,g,j⟩:=h.rows i x f u c e' h1 d b
   grind
  ·rw[List.getElem?_append_right hi]at h1;obtain⟨r,g,j⟩:=k.rows _ x f u c e' h1 d b;have:rowAt F i f=cs.length+rowAt F (i-xs.length) f:=by
    unfold rowAt;rw[h.len];have:i*F.length=xs.length*F.length+(i-xs.length)*F.length:=by rw[<-add_mul];simp_all
    omega
   grind
 ·rcases mem_append.1 hu with h1|h1
  ·exact h.one u h1
  ·exact k.one u h1
def R7.mono {H c:M0}{S1:E0}{F:List Nat}{t:U}{xs:List (Den E.D t)}{cs:List Value}(kp:Y0 H S c S1)(k:∀u∈cs,∀b,D1 u=some b->c[b]?=H[b]?)(h:R7 E H S F t xs cs):R7 E c S1 F t xs cs:=
 ⟨h.len,fun i x f u ys e' h1 g e=>by
  obtain⟨r,d,j⟩:=h.rows i x f u ys e' h1 g e;exact⟨r,d,j.mono kp (k r (mem_of_getElem? d))⟩,h.one⟩
theorem R7.live {H:M0}{F:List Nat}{t:U}{xs:List (Den E.D t)}{cs:List Value}(i:A9 E t F=true)(h:R7 E H S F t xs cs):∀u∈cs,∀b,D1 u=some b->b<H.size:=by
 intro u hu b j;obtain⟨p,hp⟩:=List.getElem?_of_mem hu;have d:p<xs.length*F.length:=by rw[<-h.len];grind
 have hn:0<F.length:=by
  grind
 have hi:p / F.length<xs.length:=(Nat.div_lt_iff_lt_mul hn).2 d;have e:=Nat.mod_lt p hn;have c:p=rowAt F (p / F.length) (p % F.length):=by
  simp[rowAt,mul_comm,Nat.div_add_mod]
 obtain⟨w',ys,f⟩:=(d01 i).2 xs[p / F.length] _ e;obtain⟨r,h1,_,g,_⟩:=h.rows (p / F.length) _ (p % F.length) w' ys _ (List.getElem?_eq_getElem hi) f (List.getElem?_eq_getElem e);rw[<-c,hp]at h1;obtain rfl:=Option.some.inj h1;exact Row.live g b j
theorem K0D (h:Rp E A s ρ S a as w){e:Nat}{F:List Nat}{t:U}{x:V E.D}{m:Value}(p:VS E ρ s.nid w.heap S x m){g:Option Nat}{xs:List (Den E.D t)}(hd:m0K E s e F t x=some (g,xs)):
  ∃cs,Row w.heap e (L0 E t).sz m xs.length cs/\(A9 E t F=true->R7 E w.heap S F t xs cs)/\d0h (m :: cs)/\∀u∈m :: cs,∀k,D1 u=some k->∃j,g=some j/\j<s.nid/\E2 (G0 s j)=true/\Bk (ρ j) k:=by
 cases x with
 |nil=>
  obtain⟨rfl,rfl⟩:=hd;obtain rfl:=p.b0m;refine⟨[],⟨V',.inl ⟨rfl,none,rfl⟩⟩,fun _=>⟨V',fun i x f u ys e' h1=>by grind,V'⟩,fun i j v I _ J _ k hk=>?_,fun u hu k hk=>?_⟩
  ·grind
  ·simp at hu;subst hu;cases hk
 |sl id=>
  simp only[m0K]at hd;split at hd<;>try cases hd
  rename_i e' R C z l;split at hd<;>try cases hd
  rename_i d o;rw[and_eq_true,beq_eq,beq_iff_eq]at d;obtain⟨rfl,rfl⟩:=d;obtain⟨r,o⟩:=W9 o;subst r;subst o;obtain⟨n,rfl⟩:=p.Y8;have hl:=e02 l;have b:=h.th id;rw[hl]at b;obtain⟨cs,b⟩:=b;have c:Go.X.tl (ρ id)=cs:=b.tl;refine⟨cs,b.row,fun _=>⟨b.sz,fun i x f u ys e' h1 y q=>b.rows i x f u ys e' h1 y q V',b.one⟩,by rw[<-c];exact b.ap,fun u hu k hk=>⟨id,rfl,n,by rw[hl];rfl,?_⟩⟩;rcases mem_cons.1 hu with rfl|hu
  ·exact Bk.hd hk
  grind [Bk.tl]
 |_=>simp[m0K]at hd
theorem N7.of {H:M0}{e:Nat}{F:List Nat}{t:U}{xs:List (Den E.D t)}{v0:Value}{cs:List Value}(b:Row H e (L0 E t).sz v0 xs.length cs)(d:A9 E t F=true)(g:R7 E H S F t xs cs)(c:d0h (v0 :: cs)):N7 E H S e F t xs none (.tuple (v0 :: cs).toArray) cs:=
 ⟨b,rfl,d,(fun _ _ h=>by cases h),fun i x f u ys e' h1 k j _=>g.rows i x f u ys e' h1 k j,g.one,c⟩
def C0J (hE:G2 E)(h:Rp E A s ρ S a as w){R:Type}{k:K E R}{r:R}{T U:Nat}{x:V E.D}{J:Value}(hx:VS E ρ s.nid w.heap S x J)(ty:Nat)(hk:r0w E s T x U k=some r):
  ∃s1 v u w1,k s1 v=some r/\X5 E A s ρ S a as w s1 v u w1/\(Builtin.append_ #[T,T] ty #[J,hd (ρ U)]).run E.P w=.ok u w1:=by
 unfold r0w at hk;split at hk<;>try cases hk
 rename_i e he;split at hk<;>try cases hk
 rename_i t z sz bytes e2 F I a1 ht p2 n3;split at hk<;>try cases hk
 rename_i ys g xs h5 b3 n9;split at hk<;>try cases hk
 rename_i p1;split at hk<;>try cases hk
 rename_i k0;simp only[and_eq_true,beq_eq]at h5;obtain⟨⟨h5,rfl⟩,b4⟩:=h5;obtain⟨ec,b3⟩:=W9 b3;subst ec;subst b3;obtain⟨rfl,h1,h2,h3⟩:=c0Y h5;obtain⟨i,hi,p7,q5,o3⟩:=d0q p2;have hT:=d0e he;have l3:=e02 n3;have e6:E2 (G0 s U)=true:=by rw[l3];rfl
 have r5:=h.F7 (id:=U) (by rw[l3];simp);obtain⟨cs,h8,C,n1,b1⟩:=K0D h hx n9;have C:=C b4;have l:=h.th U;rw[l3]at l;obtain⟨ds,l⟩:=l;have k1:Go.X.tl (ρ U)=ds:=l.tl;have q4:(E.P.info? e).map (fun i=>(i.zero,i.size,i.bytes))=some (some z,(c0O (L0 E I).sz).sz,bytes):=by rw[hi];simp[p7,q5,o3,c0O]
 have q6:(decide (z.cells.size=(c0O (L0 E I).sz).sz)&&decide (0<(c0O (L0 E I).sz).sz)&&decide (0<bytes))=true:=by simp[c0O,h1,h2,h3]
 obtain⟨zx,l0,o4,p6⟩:=q0S (n:=(L0 E I).sz) (H:=w.heap) (S:=S) xs.length cs h8.1 C.one;obtain⟨zy,e7,q8,r3⟩:=q0S (n:=(L0 E I).sz) (H:=w.heap) (S:=S) a1.length ds l.row.1 l.one;obtain⟨A',c,o1⟩:=Row.form l.row;have c4:=l.row;rw[o1]at c4;have p0:Y5 (c0O (L0 E I).sz) w.heap S A' zy:=by
  intro p q hq;have hp:p<a1.length:=by rw[<-e7];exact(List.getElem?_eq_some_iff.1 hq).1
  cases A' with
  |none=>
   rcases c4.2 with⟨h0,_⟩|⟨g,o,cap,cur,hv,_⟩
   ·omega
   ·cases hv
  |some ad=>
   obtain⟨b,o,fl⟩:=ad;have p4:fl=none:=by
    rcases c4.2 with⟨h0,_⟩|⟨g,o,cap,cur,hv,_⟩
    ·omega
    ·simp at hv;exact hv.1.2.2
   subst p4;obtain⟨_,_,_,hc⟩:=Row.cell c4 O';have hR:=r3.2 p q hq;refine⟨b,o,_,rfl,hR,fun j v hj=>?_⟩;have p5:j<(L0 E I).sz:=by
    rcases lt_or_ge j (L0 E I).sz with h|h
    ·exact h
    ·rw[List.getElem?_eq_none (by rw[length_take];show min (L0 E I).sz _<=j;omega)]at hj;cases hj
   have hj:((ds.drop (p*(L0 E I).sz)).take (L0 E I).sz)[j]?=some v:=hj;rw[List.getElem?_take_of_lt p5,List.getElem?_drop]at hj;have hle:p*(L0 E I).sz+(L0 E I).sz<=a1.length*(L0 E I).sz:=by rw[<-succ_mul];exact mul_le_mul_right _ hp
   show D2 w.heap b (o+p*(L0 E I).sz+j)=some v;rw[Nat.add_assoc,hc w.heap rfl _ O'];exact hj
 have k8:∀u∈J :: cs,∀k,D1 u=some k->S k:=fun u hu k hk=>by
  obtain⟨j,_,_,m,d⟩:=b1 u hu k hk;exact(h.ow j m k d).1
 have k6:J0 bytes zx zy=true:=by unfold J0 at k0 ⊢;rw[l0,e7];exact k0
 obtain⟨v',w1,j4,hg,k3,_,k2⟩:=h08 (T:=c0O (L0 E I).sz) (S:=S) (w:=w) (ty:=ty) (c:=c) E.P (c0x he) hT q4 q6 (by rw[l0];exact h8) p6 (fun k hk=>k8 J V' k hk) p0 k6;rw[e7]at j4;have c8:∀k,k<w.heap.size->D1 J≠some k->w1.heap[k]?=w.heap[k]?:=fun k hk hn=>hg.block k hk hn;have y:Y0 w.heap S w1.heap (inX v' S):=⟨hg.size,fun b hb hn=>⟨fun hi=>by
   rcases hi with hi|hi
   ·rcases(k3 b hi).1 with e|e
    ·exact hn (k8 J V' b e)
    ·omega
   ·exact hn hi,c8 b hb (fun e=>hn (k8 J V' b e))⟩⟩
 have o2:∀k,D1 v'=some k->k<w1.heap.size:=fun k hk=>(k3 k hk).2;obtain⟨r6,b2,k5⟩:=k2 _ y;have e3:=u0A _ _ k5;rw[List.flatten_append,o4,q8]at e3;subst e3;rw[length_append,l0,e7,<-length_append]at b2;have k4:∀k,D1 v'=some k->D1 J=some k\/w.heap.size<=k:=fun k hk=>(k3 k hk).1;have e5:∃A1 c1,v'=.slice A1 (xs++a1).length c1:=Row.form b2;obtain⟨A1,c1,e5⟩:=e5;have e1:∀u∈ds,∀k,D1 u=some k->Bk (ρ U) k:=fun u hu k hk=>Bk.tl (by rw[k1];exact hu) hk;have h7:∀u∈J :: cs,∀k,D1 u=some k->¬Bk (ρ U) k:=fun u hu k hk=>by
  obtain⟨j,hj,_,m,d⟩:=b1 u hu k hk;subst hj;refine h.dj j U ?_ m e6 k d
  rintro rfl
  simp at p1
 have c5:R7 E w.heap S F I a1 ds:=⟨l.sz,fun i x f u ys e' h1 h2 h3=>l.rows i x f u ys e' h1 h2 h3 V',l.one⟩
 have c6:=C.live b4;have c3:=c5.live b4;have n2:∀u∈cs,∀k,D1 u=some k->D1 J≠some k:=fun u hu k hk e4=>by
  obtain⟨p,hp⟩:=List.getElem?_of_mem hu;exact n1 0 (p+1) J u O' rfl (by simpa using hp) k e4 hk
 have h4:R7 E w1.heap (inX v' S) F I (xs++a1) (cs++ds):=
  (C.mono y fun u hu b hb=>c8 b (c6 u hu b hb) (n2 u hu b hb)).app (c5.mono y fun u hu b hb=>c8 b (c3 u hu b hb) (fun e=>h7 J V' b e (e1 u hu b hb)))
 have n0:d0h (v' :: (cs++ds)):=by
  have key:∀(i:Nat) (u:Value),(v' :: (cs++ds))[i]?=some u->∀k,D1 u=some k->(i=0/\u=v')\/(0<i/\i<=cs.length/\(J :: cs)[i]?=some u/\u∈cs)\/(cs.length<i/\(hd (ρ U) :: Go.X.tl (ρ U))[i-cs.length]?=some u/\u∈ds):=by
   intro i u hi k hk;cases i with
   |zero=>exact .inl ⟨rfl,(Option.some.inj hi).symm⟩
   |succ i=>
    simp only[List.getElem?_cons_succ]at hi;rcases lt_or_ge i cs.length with h9|h9
    ·rw[List.getElem?_append_left h9]at hi;exact .inr (.inl ⟨O',O',by simpa using hi,mem_of_getElem? hi⟩)
    ·rw[List.getElem?_append_right h9]at hi;exact .inr (.inr ⟨O',by rw[k1,show i+1-cs.length=(i-cs.length)+1 from O'];simpa using hi,mem_of_getElem? hi⟩)
  intro i j v1 v2 o0 hi hj k m d;have n4:∀u∈cs,D1 u=some k->D1 v'≠some k:=fun u hu hk e4=>by
   rcases k4 k e4 with h9|h9
   ·exact n2 u hu k hk h9
   ·have:=c6 u hu k hk;omega
  have l4:∀u∈ds,D1 u=some k->D1 v'≠some k:=fun u hu hk e4=>by
   rcases k4 k e4 with h9|h9
   ·exact h7 J V' k h9 (e1 u hu k hk)
   ·have:=c3 u hu k hk;omega
  rcases key i v1 hi k m with⟨i0,rfl⟩|⟨i0,i1,i2,i3⟩|⟨i0,i1,i2⟩
  ·rcases key j v2 hj k d with⟨j0,rfl⟩|⟨j0,j1,j2,j3⟩|⟨j0,j1,j2⟩
   ·omega
   ·exact n4 v2 j3 d m
   ·exact l4 v2 j2 d m
  ·rcases key j v2 hj k d with⟨j0,rfl⟩|⟨j0,j1,j2,j3⟩|⟨j0,j1,j2⟩
   ·exact n4 v1 i3 m d
   ·exact n1 i j v1 v2 o0 i2 j2 k m d
   ·exact h7 v1 (by simp[i3]) k m (e1 v2 j2 k d)
  ·rcases key j v2 hj k d with⟨j0,rfl⟩|⟨j0,j1,j2,j3⟩|⟨j0,j1,j2⟩
   ·exact l4 v1 i2 m d
   ·exact h7 v2 (by simp[j3]) k d (e1 v1 i2 k m)
   ·exact l.ap _ _ v1 v2 O' i1 j1 k m d
 have r1:Cx A.w0 A.W0 A.S0 w1 (inX v' S):=by
  have cx:=h.cx;refine⟨⟨hg.os.trans cx.bel.os,hg.tape.trans cx.bel.tape,hg.output.trans cx.bel.output,le_trans cx.bel.size hg.size,fun k hk hn=>(c8 k (by have:=cx.size;omega) (fun e=>?_)).trans (cx.bel.block k hk hn)⟩,fun b hb=>.inr (cx.sub b hb),fun b hb=>?_,cx.lt0⟩
  ·obtain⟨j,_,_,m,d⟩:=b1 J V' k e;rcases(h.ow j m k d).2.2 with h2|h2
   ·exact hn h2
   ·omega
  ·rcases hb with hb|hb
   ·exact o2 b hb
   ·exact lt_of_lt_of_le (cx.lt b hb) hg.size
 have hG:∃G:List Nat,(d0G s g).at U .gone=L1 s G/\U∈G/\∀j,g=some j->j∈G:=by
  cases g with
  |none=>exact⟨[U],rfl,V',fun j hj=>by cases hj⟩
  |some j=>exact⟨[j,U],rfl,V',fun j' hj=>by cases hj;simp⟩
 obtain⟨G,r4,r2,h6⟩:=hG;rw[r4]at hk;have p3:=h.take (x:=.G1 e F I (xs++a1) none) (v:=.tuple (v' :: (cs++ds)).toArray) (G:=G) r1 y (fun k hk=>.inr hk) (fun k hk hn=>c8 k hk fun e=>by
   obtain⟨j,q0,_,m,d⟩:=b1 J V' k e;exact hn j (h6 j q0) m d) (fun k hk _=>by
   rcases e0p.1 hk with hk|⟨u,hu,hk⟩
   ·have hk:D1 v'=some k:=hk;refine⟨.inl hk,?_⟩;rcases k4 k hk with h9|h9
    ·obtain⟨j,q0,_,m,d⟩:=b1 J V' k h9;exact .inl ⟨j,h6 j q0,m,d⟩
    ·exact .inr O'
   ·have hu:u∈cs++ds:=hu;rcases mem_append.1 hu with hu|hu
    ·obtain⟨j,q0,_,m,d⟩:=b1 u (by simp[hu]) k hk;exact⟨.inr (h.ow j m k d).1,.inl ⟨j,h6 j q0,m,d⟩⟩
    ·exact⟨.inr (h.ow U e6 k (e1 u hu k hk)).1,.inl ⟨U,r2,e6,e1 u hu k hk⟩⟩) ⟨_,N7.of b2 b4 h4 n0⟩ (by intros;simp)
 refine⟨_,_,v',w1,hk,⟨⟨_,_,p3,?_,y⟩,(Ext.L1 s G).trans (Ext.new _ _),(a0D G s).2.1,fun e9=>?_⟩,by rw[o1];exact j4⟩
 ·refine VS.of rfl ?_;unfold VC;rw[H5];refine⟨?_,by show v'.oneCell'=true;rw[e5];rfl,rfl⟩;show s.nid<(L1 s G).nid+1;rw[(a0D G s).1];omega
 ·intro p8 q7;exact c8 e9 p8 fun e=>by
   obtain⟨j,q0,q3,m,d⟩:=b1 J V' e9 e;exact q7 j q3 m (F00 (h6 j q0)) d
theorem O0x {α:Type}{T:Ty α}{t ty e:TypeId}{bytes:Nat}{z:Value}{xs ys:List α}{A B:Option Addr}{c d:Nat}(P:Program)(ht:P.underlying t=some (.slice e))(hE:(P.info? e).map (fun i=>(i.zero,i.size,i.bytes))=some (some z,T.sz,bytes))(m:(decide (z.cells.size=T.sz)&&decide (0<T.sz)&&decide (0<bytes))=true)
  (C:Sl T w.heap S B d xs) (hd:d<=xs.length) (c5:Y5 T w.heap S A ys) (p:J0 bytes xs ys=true) (e1:∀b,S b->b<w.heap.size):
  ∃w1 A1 c1,(Builtin.append_ #[t,t] ty #[.slice B xs.length d,.slice A ys.length c]).run P w=.ok (.slice A1 (xs++ys).length c1) w1/\Below w.heap.size w w1/\Sl T w1.heap S A1 c1 (xs++ys):=by
 obtain⟨i,hi,c4⟩:=Option.map_eq_some_iff.1 hE;simp only[Prod.mk.injEq]at c4;obtain⟨hz,c3,b3⟩:=c4;simp only[and_eq_true,decide_eq_true_eq]at m;simp only[J0,decide_eq_true_eq]at p;have e2:=C.1;have c6:d=xs.length:=O'
 have R:xs.length+ys.length<=maxLen:=by
  have:xs.length+ys.length<=(xs.length+ys.length)*bytes:=Nat.le_mul_of_pos_right _ m.2
  grind [maxLen]
 rcases Nat.eq_zero_or_pos ys.length with h0|hpos
 ·have h0:ys=[]:=eq_nil_of_length_eq_zero h0;subst h0;refine⟨w,B,d,?_,Below.refl _ w,by simp_all⟩;rw[List.append_nil];cases A<;>cases B<;>simp[Builtin.append_,run_underlying ht,sizeOf,typeInfo,hi,Builtin.lenOf,Builtin.firstCells,loadCells,loadCellsFrom,e2,storeCells]
 ·obtain⟨b,off,_,hA,_⟩:=c5 0 ys[0] V';subst hA;have rd:∀{A:Option Addr} {xs:List α},Y5 T w.heap S A xs->∃news,V1 T w.heap S news xs/\∀b o,A=some ⟨b,o,none⟩->∀j u,news[j]?=some u->D2 w.heap b (o+0*T.sz+j)=some u:=fun hr=>Y5.news (w:=w) (k:=0) (fun i x hx=>by
   obtain⟨b,o,cs,h1,h2,n⟩:=hr i x hx
   grind)
  obtain⟨news,r,J⟩:=rd c5;obtain⟨f,v,I⟩:=rd C.rdb;have q:∀j u,news[j]?=some u->w.cell? ((⟨b,off,none⟩:Addr).add j)=some u:=by
   intro j u hj;rw[a01];have:=J b off rfl j u hj;simpa using this
  have key:∃U w1,(Builtin.append_ #[t,t] ty #[.slice B xs.length d,.slice (some ⟨b,off,none⟩) ys.length c]).run P w=.ok U w1/\w1.ownsRow w.heap.size e T.sz U (xs.length+ys.length) (f++news)/\Below w.heap.size w w1:=by
   cases B with
   |none=>
    have e4:xs=[]:=by
     cases xs with
     |nil=>rfl
     |cons y ys=>obtain⟨b,o,cs,h,_⟩:=C.rdb 0 y V';cases h
    subst e4;have c8:d=0:=c6;subst c8;have e7:f=[]:=eq_nil_of_length_eq_zero (by have:=v.1;simpa using this);subst e7;obtain⟨U,w',l,h2,n,_,_⟩:=run_append_own_at (P:=P) w w.heap.size t ty e i z T.sz bytes ht hi hz c3 b3 m.1.1 m.1.2 (.slice none 0 0) 0 [] ⟨V',.inl ⟨rfl,rfl⟩⟩ ⟨b,off,none⟩ ys.length c news r.1 q r.f0y (by simpa using R) (by simpa using p) (le_refl _);exact⟨U,w',l,by simpa using h2,n.os,n.tape,n.output,n.size,fun k hk=>n.block k hk (by simp[Value.ownBlock])⟩
   |some ad=>
    obtain⟨U,w',l,h2,n⟩:=run_append_arg_grows (P:=P) w t ty e i z T.sz bytes ht hi hz c3 b3 m.1.1 m.1.2 ad xs.length d f v.1 (fun j u hj=>by
     have h5:j<f.length:=by
      rcases lt_or_ge j f.length with h|h
      ·exact h
      ·rw[List.getElem?_eq_none h]at hj;cases hj
     have e5:xs≠[]:=by rintro rfl;have:=v.1;simp only[List.length_nil,zero_mul]at this;omega
     obtain⟨b2,o2,b1,_⟩:=C.2.1 e5;have b1:=Option.some.inj b1;subst b1;rw[a01];have:=I b2 o2 rfl j u hj;simpa using this) ⟨b,off,none⟩ ys.length c news r.1 q O' R p
    exact⟨U,w',l,h2,n.os,n.tape,n.output,n.size,fun k hk=>n.block k hk V'⟩
  obtain⟨U,w1,l,b4,hb⟩:=key;have hk:Y0 w.heap S w1.heap S:=Y0.ext S hb;obtain⟨hl,hv|⟨g,cap,cur,hv,e3,hg,e9,hm,h4,a1⟩⟩:=b4
  ·exact absurd hv.2 O'
  ·have e6:Ow T e (fun k=>w.heap.size<=k) w1.heap (fun k=>k=g\/S k) (.slice (some ⟨g,0,none⟩) (xs++ys).length cap) (xs++ys):=by
    refine⟨fun k hk=>?_,f++news,⟨by simpa using hl,.inr ⟨g,cap,cur,rfl,hg,by simpa using e9,hm,h4,by simpa using a1⟩⟩,?_⟩
    ·simp[Value.ownBlock]at hk;subst hk;exact⟨.inl rfl,e3⟩
    ·have k2:Y0 w.heap S w1.heap (fun k=>k=g\/S k):=⟨hk.size,fun b hb hn=>⟨fun hi=>hi.elim (fun e=>O') hn,(hk.blk b hb hn).2⟩⟩
     exact(v.J1 k2).append (r.J1 k2)
   refine⟨w1,some ⟨g,0,none⟩,cap,by rw[l,hv];simp,hb,e6.freeze (fun _ h=>.inr h) (fun b hb hs=>?_)⟩;simp[Value.ownBlock]at hb;subst hb;have:=e1 _ hs;omega
def N0S (hE:G2 E)(h:Rp E A s ρ S a as w){R:Type}{k:K E R}{r:R}{T:Nat}{x y:V E.D}{ux uy:Value}(hx:VS E ρ s.nid w.heap S x ux)(hy:VS E ρ s.nid w.heap S y uy)(ty:Nat)(hk:s0f E s T x y k=some r):
  ∃s1 v u w1,k s1 v=some r/\X5 E A s ρ S a as w s1 v u w1/\(Builtin.append_ #[T,T] ty #[ux,uy]).run E.P w=.ok u w1:=by
 unfold s0f at hk;split at hk
 ·rename_i m J j;have a1:x=.df m J:=by
   cases x<;>simp only[o0y]at j<;>try cases j
   rfl
  subst a1;unfold v00 at hk;split at hk<;>try cases hk
  rename_i e he;split at hk<;>try cases hk
  rename_i t z sz bytes ht n;split at hk<;>try cases hk
  rename_i ys xs b1 d C;split at hk<;>try cases hk
  rename_i b;obtain⟨ec,C⟩:=W9 C;subst ec;subst C;obtain⟨rfl,h1,h2,h3⟩:=c0Y b1;obtain⟨i,hi,b4,b3,b2⟩:=d0q n;have hT:=d0e he;obtain⟨A',c,rfl,q⟩:=g07 h hy d;obtain⟨c0,l,rfl⟩:=hx;unfold VC at l;obtain⟨B,rfl,U⟩:=l;have o:(E.P.info? e).map (fun i=>(i.zero,i.size,i.bytes))=some (some z,(L0 E m).sz,bytes):=by simp_all
  have I:(decide (z.cells.size=(L0 E m).sz)&&decide (0<(L0 E m).sz)&&decide (0<bytes))=true:=by simp_all
  obtain⟨w1,A1,c1,f,p,g⟩:=O0x (c:=c) (ty:=ty) E.P hT o I U (le_refl _) q b h.cx.lt;refine⟨_,_,_,w1,hk,⟨⟨ρ,S,h.ext p,VS.of rfl (by unfold VC;exact⟨A1,c1,rfl,g⟩),Y0.ext S p⟩,Ext.refl s,rfl,fun k hk _=>p.block k hk⟩,f⟩
 ·exact w03 hE h hx hy ty hk
theorem A0w (e:G2 E)(h:Rp E A s ρ S a as w){R:Type}{k:K E R}{r:R}{T:Nat}{x y:V E.D}{o p:Value}(n:VS E ρ s.nid w.heap S x o)(l:VS E ρ s.nid w.heap S y p)(ty:Nat)(hk:o0W E s T x y k=some r):
  ∃s1 v u w1,k s1 v=some r/\X5 E A s ρ S a as w s1 v u w1/\(Builtin.append_ #[T,T] ty #[o,p]).run E.P w=.ok u w1:=by
 unfold o0W at hk;split at hk
 ·rename_i r0 j f c;split at hk<;>try cases hk
  rename_i s1 ho;cases x<;>simp only[z0U]at c<;>try grind
  split at c<;>try cases c
  rename_i hl;obtain⟨_,rfl⟩:=n.Y8;obtain⟨ρ1,h1,h2,t,i,J,m,U,z⟩:=H0s e h hl ho;obtain⟨s2,v,u,w1,I,d,q3⟩:=w03 e h1 t (l.mono h2 z (Y0.refl _ _)) ty hk;exact⟨s2,v,u,w1,I,⟨d.rp,i.trans d.ext,d.fr.trans J,fun k hk hq=>d.old k hk (fun q C e0 e2 e3=>by
   obtain⟨r',g1,g0,g2,g3⟩:=U;rcases g3 q k C e3 with⟨g,e5⟩|g
   ·exact hq q g (m q g e0) (O0f e2 i d.ext) e5
   ·exact hq r' g1 g0 (h0v g2 i d.ext) g)⟩,q3⟩
 ·split at hk
  ·rename_i iy b;cases y<;>simp only[y0n]at b<;>try grind
   split at b<;>try cases b
   obtain⟨_,rfl⟩:=l.Y8;exact C0J e h n ty hk
  ·exact N0S e h n l ty hk
def l0E:Nat->List (Nat×Value)->Prop
 |_,[]=>True
 |j,p :: r=>p.1=j/\l0E (j+1) r
theorem w0z (z:Nat):∀(l:List (Nat×Value)) (j:Nat) (cells:Array Value) (d1 d2:List Value),cells.toList=d1++d2->d1.length=j*z->d2.length=l.length*z->l0E j l->(∀p∈l,p.2.cells.size=z)->
  ∃c',Instr.fill (fun i=>some (i*z,z)) cells l=some c'/\c'.toList=d1++l.flatMap (fun p=>p.2.cells.toList)
 |[],j,cells,d1,d2,h,_,h2,_,_=>by
  have:d2=[]:=eq_nil_of_length_eq_zero (by simp_all);exact⟨cells,rfl,by simp_all⟩
 |(i,u) :: l,j,cells,d1,d2,h,h1,h2,b,hs=>by
  have f:i=j:=b.1;subst f;have b:l0E (i+1) l:=b.2;have hu:u.cells.size=z:=hs (i,u) V';have g:d2=d2.take z++d2.drop z:=(take_append_drop z d2).symm;simp only[List.length_cons,succ_mul]at h2;have c:u.cells.toList.length=z:=O'
  generalize m:u.cells.toList=cl at c;have o:u.cells=cl.toArray:=by grind
  have d:=o0U cl 0 (i*z) cells d1 (d2.take z) (d2.drop z) (by grind) O' (by grind);have e:(u.cells.zipIdx.foldl (fun cs (p:Value×Nat)=>cs.setIfInBounds (i*z+p.2) p.1) cells).toList=(d1++cl)++d2.drop z:=by
   grind
  obtain⟨c',q,n⟩:=w0z z l (i+1) _ (d1++cl) (d2.drop z) e (by grind) (by grind) b (fun p hp=>hs p (by grind));refine⟨c',?_,by grind⟩;have k:cells.size=d1.length+d2.length:=by have:=congrArg List.length h;grind
  simp only[Instr.fill]
  grind
def u0L (f:Operand->Value):∀(l:List (Nat×Operand)) (j:Nat),m0R j l=true->l0E j (l.map fun p=>(p.1,f p.2))
 |[],_,_=>trivial
 |(i,x) :: l,j,h=>by
  simp only[m0R,and_eq_true,beq_eq]at h;exact⟨h.1,u0L f l (j+1) h.2⟩
theorem z0q (b:G2 E){s1:St E.D}{n:Nat}{H:M0}{S1:E0}(m:∀id,M4 E ρ n H S1 (G0 s1 id) (ρ id)){t:U}(f:Operand->V E.D)(g:Operand->Value)(k:∀x,∀c,VC E ρ n H S (f x) c->VC E ρ n H S1 (f x) c)(hg:∀x,VS E ρ n H S (f x) (g x)):
  ∀(l:List (Nat×Operand)) (xs:List (Den E.D t)),(l.all fun p=>c05 (f p.2))=true->j0Q E s1 t (l.map fun p=>f p.2)=some xs->xs.length=l.length/\V1 (L0 E t) H S1 ((l.map fun p=>(p.1,g p.2)).flatMap (fun p=>p.2.cells.toList)) xs/\∀p∈(l.map fun p=>(p.1,g p.2)),∀u∈p.2.cells.toList,u.oneCell'=true
 |[],xs,_,h=>by
  simp[j0Q]at h;subst h;exact⟨rfl,V1.nil,fun p hp=>by grind⟩
 |p :: l,xs,hs,h=>by
  simp only[map_cons,j0Q]at h;split at h<;>try cases h
  rename_i x e r d;simp only[List.all_cons,and_eq_true]at hs;obtain⟨h1,v,y⟩:=z0q b m f g k hg l e hs.2 d;obtain⟨c,z,j,o,i⟩:=(hg p.2).cells b hs.1;have hR:=i0s b m r (k _ _ i);refine⟨by grind,?_,fun q hq u hu=>?_⟩
  ·rw[map_cons,List.flatMap_cons];have:(g p.2).cells.toList=c:=by rw[j]
   simp only[this];exact(V1.one hR).append v
  grind
def Row.qE {H:M0}{e sz n:Nat}{v:Value}{cs:List Value}(he:e<Qe)(q:Bool)(h:Row H e sz v n cs):Row H (qE q e) sz v n cs:=by
 cases q
 ·exact h
 ·exact h.toQ he
def C0Z (hE:G2 E)(h:Rp E A s ρ S a as w){R:Type}{k:K E R}{r:R}{T n:Nat}{q:Bool}{parts:Array (Nat×Operand)}(hk:bsV E s T n q parts.toList k=some r):
  ∃s1 v u w1,k s1 v=some r/\X5 E A s ρ S a as w s1 v u w1/\(Instr.buildSlice T n (parts.map fun p=>(p.1,a.eval p.2))).run E.P w=.ok u w1:=by
 unfold bsV at hk;split at hk<;>try cases hk
 rename_i e he;split at hk<;>try cases hk
 rename_i t z sz bytes ht c6;split at hk<;>try cases hk
 rename_i s1 b3 c4;split at hk<;>try cases hk
 rename_i xs e2;simp only[and_eq_true,beq_eq,Nat.ble_eq,all_eq_true]at b3;obtain⟨⟨⟨⟨⟨e5,hn⟩,a1⟩,b4⟩,b2⟩,d⟩:=b3;obtain⟨rfl,h1,h2,h3⟩:=c0Y e5;obtain⟨i,hi,e1,g,h4⟩:=d0q c6;have hT:=d0e he;obtain⟨S1,y,b1,C,c8,J⟩:=a0w hE _ s _ s1 c4 S h;have U:=b1.th;rw[J]at U;obtain⟨hl,l,e9⟩:=z0q hE U (T1 E s) a.eval (fun x c hc=>hc.d0S y) h.val parts.toList xs (all_eq_true.2 fun p hp=>(d p hp).1) e2;have m:∀p∈parts.toList.map (fun p=>(p.1,a.eval p.2)),p.2.cells.size=(L0 E t).sz:=by
  intro p hp;obtain⟨q,hq,rfl⟩:=List.mem_map.1 hp;obtain⟨c,hc,c3,_,e6⟩:=(h.val q.2).cells hE (d q hq).1;have:=k0N hE e6 (d q hq).1;rw[(d q hq).2]at this;simp only;rw[c3];simpa using this
 have hm:n*i.size=n*(L0 E t).sz:=by rw[g]
 obtain⟨c',hf,j⟩:=w0z (L0 E t).sz (parts.toList.map fun p=>(p.1,a.eval p.2)) 0 ((Array.range (n*i.size)).map (z.cells[· % z.cells.size]!)) [] _ rfl V' (by
  rw[Array.length_toList,Array.size_map,Array.size_range,hm,List.length_map,hn]) (u0L a.eval _ 0 a1) m
 simp only[nil_append]at j;have o:(Instr.buildSlice T n (parts.map fun p=>(p.1,a.eval p.2))).run E.P w=.ok (.slice (some ⟨w.heap.size,0,none⟩) n n) (w.alloc (.cells c' e)):=by
  have I:¬n*i.size>2 ^ 24:=by
   rw[hm];have:n*(L0 E t).sz<=10000*1000:=Nat.mul_le_mul b4 b2;omega
  by_cases h0:n*i.size=0
  ·have e3:n=0:=by
    rw[g]at h0;rcases Nat.mul_eq_zero.1 h0 with h|h
    ·exact h
    ·omega
   subst e3;have e7:parts=#[]:=by
    have:parts.toList=[]:=eq_nil_of_length_eq_zero hn.symm;simpa using this
   subst e7;have c5:c'=#[]:=by
    have:=congrArg List.length j;simpa using this
   subst c5;have e0:Array.range 0=#[]:=rfl;simp[Instr.buildSlice,run_underlying hT,sizeOf,typeInfo,hi,newRow,Instr.fill,e0]
  ·have:=run_buildSlice w T e n (parts.map fun p=>(p.1,a.eval p.2)) c' i z hT hi e1 I h0 (by rw[g,Array.toList_map];rw[<-g]at hf ⊢;exact hf);exact this
 have hB:=Below.new w (.cells c' e);have b:c'.toList.length=n*(L0 E t).sz:=by rw[j,l.1,hl,hn]
 have res:=b1.k0Y (e:=qE q e) (t:=t) (xs:=xs) (v:=.slice (some ⟨w.heap.size,0,none⟩) n n) hB (fun k hk=>by obtain⟨_,rfl⟩:=a07 hk;simp) rfl (fun S2 e4 _=>by
  have f:xs.length=n:=by rw[hl,hn]
  refine⟨c'.toList,Row.qE (c0x he) q (Row.ofV (c0x he) ⟨by rw[f];exact b,.inr ⟨w.heap.size,n,c',by rw[f],heap_alloc_new w _,by rw[f];exact le_refl _,by simp only[maxLen];omega,by simpa using b,?_⟩⟩),?_⟩
  ·rw[f,take_of_length_le (by rw[b];exact le_refl _)]
  ·rw[j];exact l.J1 e4)
 obtain⟨⟨ρ1,S2,r1,r2,r3⟩,r4,r5,r6⟩:=res;exact⟨_,_,_,_,hk,⟨⟨ρ1,S2,r1,r2,(Y0.less y).trans r3⟩,C.trans r4,r5.trans c8,fun k hk _=>hB.block k hk⟩,o⟩
theorem w0G:∀(l:List U) (h:HL E.D l) (B1:List Value) {H:M0} {S:E0},b07 l=true->(a0O E l).R H S B1 h->∀f u (y:List (Den E.D u)),F6 l h f=some ⟨.list u,y⟩->∃e c,B1[f]?=some (.slice e y.length c)
 |[],_,_,_,_,_,_,f,_,_,hg=>by grind [F6]
 |t :: l,h,B1,H,S,hb,hr,f,u,y,hg=>by
  simp only[b07,and_eq_true]at hb;obtain⟨b,d⟩:=hb;cases t<;>simp only[i0t,Bool.false_eq_true]at b
  rename_i k;obtain⟨c1,c2,rfl,⟨e,c,h1,_⟩,g⟩:=hr;subst h1;cases f with
  |zero=>
   cases hg;simp
  |succ f=>
   obtain⟨j,k2,i⟩:=w0G l h.2 c2 d g f u y hg
   simp_all
theorem K0E (h:G2 E){H:M0}{S:E0}{t:U}{F:List Nat}{x:Den E.D t}{B1:List Value}(e:A9 E t F=true)(g:(L0 E t).R H S B1 x){f:Nat}{u:U}{ys:List (Den E.D u)}(b:L3 E t x f=some ⟨u,ys⟩):∃d c,B1[f]?=some (.slice d ys.length c):=by
 simp only[A9,and_eq_true,beq_eq]at e;obtain⟨⟨_,_⟩,hk⟩:=e;cases t with
 |list u0=>
  obtain⟨d,c,h1,_⟩:=g;subst h1;cases f with
  |zero=>
   cases b;simp
  |succ f=>exact absurd (show none=some _ from b) V'
 |st k=>
  have b:d0x (F6 (E.fs k) (E.un k x) f)=some ⟨u,ys⟩:=b;cases hg:F6 (E.fs k) (E.un k x) f with
  |none=>rw[hg]at b;cases b
  |some p=>
   obtain⟨i,y⟩:=p;rw[hg]at b;cases i with
   |list u1=>
    cases b;exact w0G _ _ _ hk ((h.st k H S B1 x).1 g) f _ _ hg
   |_=>exact absurd (show none=some _ from b) V'
 |_=>grind
theorem R7.J0T (n:G2 E){H:M0}{S:E0}{t:U}{F:List Nat}{z:List Value}{x:Den E.D t}(j:A9 E t F=true)(o:(L0 E t).R H S z x)(hn:∀v∈z,v=H7)(m:Nat):R7 E H S F t (List.replicate m x) (List.replicate m z).flatten:=by
 have b:=l0Y o m;have e:=(d01 j).1;have d:∀v∈(List.replicate m z).flatten,v=H7:=by
  grind [List.mem_flatten]
 refine⟨by rw[<-e];exact b.1,fun i p f u ys e' h1 q l=>?_,fun v y=>by rw[d v y];rfl⟩;have k:f<F.length:=(List.getElem?_eq_some_iff.1 l).1;obtain⟨C,c,g⟩:=K0E n j (b.2 i p h1) q;rw[e,List.getElem?_take_of_lt k,List.getElem?_drop]at g;have h:=d _ (mem_of_getElem? g);unfold H7 at h;simp only[Value.slice.injEq]at h;have r:ys=[]:=eq_nil_of_length_eq_zero h.2.1;subst r;refine⟨_,g,[],⟨V',.inl ⟨rfl,none,?_⟩⟩,V1.nil⟩
 simp_all
theorem L0k {D:Nat->Type}{v:V D}(h:isNil v=true):v=.nil:=by
 grind [isNil]
def w0f {n:Nat}{H:M0}:∀{l:List (V E.D)} {c:List Value},F1 E ρ n H S l c->l.all isNil=true->∀v∈c,v=H7
 |[],c,h,_,v,b=>by simp_all[F1]
 |x :: l,c,h,hl,v,b=>by
  obtain⟨c1,c2,rfl,h1,d⟩:=h;rw[List.all_cons,and_eq_true]at hl;obtain rfl:=L0k hl.1;subst h1;rcases mem_append.1 b with b|b
  ·simp_all[H7]
  ·exact w0f d hl.2 v b
def I0Q (hE:G2 E)(h:Rp E A s ρ S a as w){R:Type}{k:K E R}{r:R}{T:Nat}{n m:Operand}(hk:p0N E s T n m k=some r):
  ∃s1 v u w1,k s1 v=some r/\X5 E A s ρ S a as w s1 v u w1/\(Instr.makeSlice T (a.eval n) (a.eval m)).run E.P w=.ok u w1:=by
 unfold p0N at hk;split at hk<;>try cases hk
 rename_i e k0 x he hx hop;have b2:n=m:=by
  unfold o0l at hop;split at hop
  ·rw[beq_eq]at hop;rw[hop]
  ·rw[of_decide_eq_true hop]
  ·cases hop
 subst b2;split at hk<;>try cases hk
 rename_i t z sz bytes F ht c6 hF;split at hk<;>try cases hk
 rename_i zx p hz;simp only[and_eq_true]at p;obtain⟨⟨p,C⟩,U⟩:=p;obtain⟨rfl,h1,h2,h3⟩:=c0Y p;obtain⟨i,hi,e1,b4,b1⟩:=d0q c6;split at hk<;>try cases hk
 rename_i c;have hT:=d0e he;have e2:=S8 hx (h.val n);rw[e2];simp only[F4,and_eq_true,decide_eq_true_eq]at c;obtain⟨q,rfl⟩:=Int.eq_ofNat_of_zero_le c.1;have hq:q*bytes<=140737488355328:=by
  have h1:=c.2;have h2:((q*bytes:Nat):Int)<=140737488355328:=by rw[Int.natCast_mul];exact h1
  omega
 have e5:q<=q*bytes:=Nat.le_mul_of_pos_right _ h3;obtain⟨w1,J,b,hg⟩:=run_make_full (P:=E.P) w w.heap.size T e i z (L0 E t).sz hT hi e1 b4 k0 k0 q (by rw[b1,mul_comm];omega) (by simp only[maxLen];omega) (le_refl _);have hB:Below w.heap.size w w1:=⟨hg.os,hg.tape,hg.output,hg.size,fun k hk=>hg.block k hk V'⟩
 have hm:=p07 z.cells q;rw[h1]at hm;rw[hm]at b;have b:=Row.of (c0x he) b;have c4:∀S1,(L0 E t).R w1.heap S1 z.cells.toList zx:=by
  intro S1;refine i0s (ρ:=ρ) (n:=0) hE (fun id=>?_) hz (w0b z);show M4 E ρ 0 w1.heap S1 .gone (ρ id)
  trivial
 have a1:∀v∈z.cells.toList,v=H7:=w0f (ρ:=ρ) (S:=S) (n:=0) (H:=w.heap) (o0x z) U;have I:∀S1,R7 E w1.heap S1 F t (List.replicate q zx) (List.replicate q z.cells.toList).flatten:=fun S1=>R7.J0T hE C (c4 S1) a1 q;have d:Row w1.heap e (L0 E t).sz (.slice (some ⟨w.heap.size,0,none⟩) q q) (List.replicate q zx).length (List.replicate q z.cells.toList).flatten:=by simpa using b
 have y:∀v∈(List.replicate q z.cells.toList).flatten,v=H7:=by
  intro v f;obtain⟨l,hl,f⟩:=List.mem_flatten.1 f;rw[List.eq_of_mem_replicate hl]at f;exact a1 v f
 have b3:d0h (.slice (some ⟨w.heap.size,0,none⟩) q q :: (List.replicate q z.cells.toList).flatten):=by
  intro i j v v' e3 hi hj k hk c5;have key:∀(i:Nat) (v:Value),(Value.slice (some ⟨w.heap.size,0,none⟩) q q :: (List.replicate q z.cells.toList).flatten)[i]?=some v->D1 v=some k->i=0:=by
   intro i v hi hk;cases i with
   |zero=>rfl
   |succ i=>
    simp only[List.getElem?_cons_succ]at hi;rw[y v (mem_of_getElem? hi)]at hk;cases hk
  have:=key i v hi hk;have:=key j v' hj c5;omega
 obtain⟨S1,c3,c8⟩:=h.new (x:=.G1 e F t (List.replicate q zx) none) (v:=.tuple (.slice (some ⟨w.heap.size,0,none⟩) q q :: (List.replicate q z.cells.toList).flatten).toArray) (w1:=w1) hB (fun k hk=>by
   rcases e0p.1 hk with hk|⟨u,hu,hk⟩
   ·have hk:D1 (.slice (some ⟨w.heap.size,0,none⟩) q q)=some k:=hk;obtain⟨e4,rfl⟩:=a07 hk;refine⟨le_refl _,?_⟩;rcases d.2 with⟨_,a,f⟩|⟨g,o,cap,cur,f,_,hgg,_⟩
    ·simp at f;omega
    ·simp at f;obtain⟨⟨rfl,_⟩,_⟩:=f;exact getElem?_lt hgg
   ·rw[y u hu]at hk;cases hk) (fun S1 _ _ _=>⟨_,N7.of d C (I S1) b3⟩)
 refine⟨_,_,_,w1,hk,⟨⟨_,S1,c8,?_,c3⟩,Ext.new s _,rfl,fun k hk _=>hB.block k hk⟩,J⟩;exact VS.of rfl (by unfold VC;rw[H5];exact⟨lt_succ_self _,rfl,rfl⟩)
def C0E (h:Rp E A s ρ S a as w){R:Type}{k:K E R}{r:R}{T n:Nat}{parts:Array (Nat×Operand)}(hk:bsT E s T n parts.toList k=some r):
  ∃s1 v u w1,k s1 v=some r/\X5 E A s ρ S a as w s1 v u w1/\(Instr.buildSlice T n (parts.map fun p=>(p.1,a.eval p.2))).run E.P w=.ok u w1:=by
 unfold bsT at hk;split at hk<;>try cases hk
 rename_i e x he c;have c:parts=#[(0,x)]:=by have:=congrArg List.toArray c;simpa using this
 subst c;split at hk<;>try cases hk
 rename_i u z sz bytes e' ht e3 hF;split at hk<;>try cases hk
 rename_i g ys t e9;rw[and_eq_true]at t;obtain⟨t,c3⟩:=t;obtain⟨rfl,h1,h2,h3⟩:=c0Y t;obtain⟨i,hi,e7,I,h0⟩:=d0q e3;have hT:=d0e he;obtain⟨b4,o,hg⟩:=y0P h (h.val x) e9;have q:(L0 E (.list u)).sz=1:=rfl;have b2:(Instr.buildSlice T 1 (#[(0,x)].map fun p=>(p.1,a.eval p.2))).run E.P w=.ok (.slice (some ⟨w.heap.size,0,none⟩) 1 1) (w.alloc (.cells #[a.eval x] e)):=by
  have h4:z.cells.size=1:=by rw[h1];rfl
  have:=run_buildSlice w T e 1 (#[(0,x)].map fun p=>(p.1,a.eval p.2)) #[a.eval x] i z hT hi e7 (by rw[I,q];omega) (by rw[I,q];omega) (by
   rw[I,q];simp[Instr.fill,cells_one o,Array.range];exact Array.ext V' (by
                  intro i h1 h2;have:i=0:=by simp at h2;exact h2
                  subst this;simp))
  exact this
 have J:=Below.new w (.cells #[a.eval x] e);have d:Y0 w.heap S (w.alloc (.cells #[a.eval x] e)).heap (fun k=>k=w.heap.size\/S k):=⟨J.size,fun b hb hn=>⟨fun hh=>hh.elim O' hn,J.block b hb⟩⟩
 have e1:=(h.cx.ext J).more (S1:=fun k=>k=w.heap.size\/S k) (fun _ h=>.inr h) (fun b hb=>hb.elim (fun e=>by subst e;simp) ((h.cx.ext J).lt b));have hblk:∀C,D1 (a.eval x)=some C->∃j,g=some j/\j<s.nid/\E2 (G0 s j)=true/\Bk (ρ j) C:=by
  intro C m;cases g with
  |none=>
   have hg:a.eval x=H7:=hg;rw[hg]at m;cases m
  |some j=>
   obtain⟨c6,u9,y9,b3⟩:=hg;exact⟨j,rfl,h.F7 (by rw[b3];simp),by rw[b3];rfl,Bk.hd (by rw[c6,(f0b o).1];exact m)⟩
 have l:∀C,D1 (a.eval x)=some C->C<w.heap.size:=fun C m=>by
  obtain⟨_,c8,_⟩:=b4;exact Row.live c8 C m
 have hG:∃G:List Nat,d0G s g=L1 s G/\∀j,g=some j->j∈G:=by
  cases g with
  |none=>exact⟨[],rfl,fun j hj=>by cases hj⟩
  |some j=>exact⟨[j],rfl,fun j' hj=>by cases hj;simp⟩
 obtain⟨G,e6,e5⟩:=hG;rw[e6]at hk;have b1:Row (w.alloc (.cells #[a.eval x] e)).heap e (L0 E (.list u)).sz (.slice (some ⟨w.heap.size,0,none⟩) 1 1) [ys].length [a.eval x]:=Row.ofV (c0x he) ⟨rfl,.inr ⟨w.heap.size,1,#[a.eval x],rfl,heap_alloc_new w _,V',by simp[maxLen],rfl,rfl⟩⟩;have a1:R7 E (w.alloc (.cells #[a.eval x] e)).heap (fun k=>k=w.heap.size\/S k) [e'] (.list u) [ys] [a.eval x]:=by
  refine⟨rfl,fun i y f u' c5 e2 g1 g2 g3=>?_,by simpa using o⟩;cases i with
  |succ i=>cases g1
  |zero=>
   obtain rfl:ys=y:=Option.some.inj g1;cases f with
   |succ f=>cases g3
   |zero=>
    obtain rfl:e'=e2:=Option.some.inj g3;have g2:(⟨u,ys⟩:(u:U)×List (Den E.D u))=⟨u',c5⟩:=Option.some.inj g2;cases g2;exact⟨a.eval x,rfl,b4.mono d fun b hb=>J.block b (l b hb)⟩
 have c4:d0h (.slice (some ⟨w.heap.size,0,none⟩) 1 1 :: [a.eval x]):=by
  intro i j v v' h5 hi hj k q1 q2;have key:∀(i:Nat) (v:Value),(Value.slice (some ⟨w.heap.size,0,none⟩) 1 1 :: [a.eval x])[i]?=some v->D1 v=some k->(i=0/\k=w.heap.size)\/(i=1/\k<w.heap.size):=by
   intro i v hi hk;cases i with
   |zero=>simp at hi;subst hi;cases hk;exact .inl ⟨rfl,rfl⟩
   |succ i=>
    cases i with
    |zero=>simp at hi;subst hi;exact .inr ⟨rfl,l k hk⟩
    |succ i=>simp at hi
  have:=key i v hi q1;have:=key j v' hj q2;omega
 have e4:=h.take (x:=.G1 e [e'] (.list u) [ys] none) (v:=.tuple (.slice (some ⟨w.heap.size,0,none⟩) 1 1 :: [a.eval x]).toArray) (G:=G) e1 d (fun k hk=>.inr hk) (fun k hk _=>J.block k hk) (fun k hk _=>by
   rcases e0p.1 hk with hk|⟨u',hu,hk⟩
   ·have hk:D1 (.slice (some ⟨w.heap.size,0,none⟩) 1 1)=some k:=hk;cases hk;exact⟨.inl rfl,.inr (le_refl _)⟩
   ·have hu:u'∈[a.eval x]:=hu;simp at hu;subst hu;obtain⟨j,q0,_,q1,q2⟩:=hblk k hk;exact⟨.inr (h.ow j q1 k q2).1,.inl ⟨j,e5 j q0,q1,q2⟩⟩) ⟨_,N7.of b1 c3 a1 c4⟩ (by intros;simp)
 refine⟨_,_,_,_,hk,⟨⟨_,_,e4,?_,d⟩,(Ext.L1 s G).trans (Ext.new _ _),(a0D G s).2.1,fun k hk _=>J.block k hk⟩,b2⟩;refine VS.of rfl ?_;unfold VC;rw[H5];refine⟨?_,rfl,rfl⟩;show s.nid<(L1 s G).nid+1;rw[(a0D G s).1];omega
def G01 {P:Program}{α:Type}{T:Ty α}{H:M0}{S:E0}{t e n c:Nat}{A:Option Addr}{xs:List α}{cs:List Value}{k:IntKind}{vlo:Int}(ht:P.underlying t=some (.slice e))(hE:(P.info? e).map (·.size)=some T.sz)
  (d:Row H (Qe+e) T.sz (.slice A n c) xs.length cs) (l:V1 T H S cs xs) (hk:b5 xs vlo xs.length=true):
  ∃x c1,(∀w,(Instr.sliceAt t (.slice A n c) (some (.int k vlo)) none none).run P w=.ok (.slice x (U1 xs vlo xs.length).length c1) w)/\(∀b,D1 (.slice x (U1 xs vlo xs.length).length c1)=some b->D1 (.slice A n c)=some b)/\
   ∃r,Row H (Qe+e) T.sz (.slice x (U1 xs vlo xs.length).length c1) (U1 xs vlo xs.length).length r/\V1 T H S r (U1 xs vlo xs.length):=by
 have J:=f0f hk;simp only[b5,and_eq_true,decide_eq_true_eq]at hk;obtain⟨inf,m,C⟩:=Option.map_eq_some_iff.1 hE;obtain⟨rfl,U⟩:=d.cap;have f:U1 xs vlo xs.length=xs.drop vlo.toNat:=by unfold U1;exact take_of_length_le (by rw[length_drop];omega)
 have hl:(U1 xs vlo xs.length).length=xs.length-vlo.toNat:=by rw[J];omega
 have p:∀w,(Instr.sliceAt t (.slice A xs.length c) (some (.int k vlo)) none none).run P w=.ok (.slice (if c=vlo.toNat then A else A.map (·.add (vlo.toNat*T.sz))) (U1 xs vlo xs.length).length (c-vlo.toNat)) w:=fun w=>by
  have b2:=run_sliceBound (P:=P) (w:=w) k vlo xs.length .sliceB O' O';rw[hl];simp only[Instr.sliceAt,Instr.slice,Instr.sliceBounds,Sem.run_bind,run_underlying ht,Result.andThen_ok];simp[b2,sizeOf,typeInfo,m,C]
  try (split<;>rfl)
 refine⟨_,_,p,?_⟩;obtain⟨q,⟨h0,a,y⟩|⟨g,o,cap,cur,y,hp,hg,a1,b1,I,v,_⟩⟩:=d
 ·have z:vlo.toNat=0:=O'
  have R:xs=[]:=eq_nil_of_length_eq_zero h0;subst R;cases y;rw[z];have e1:U1 ([]:List α) vlo (([]:List α).length:Int)=[]:=by rw[f];simp
  rw[e1];refine⟨fun b j=>?_,[],⟨V',.inl ⟨rfl,_,rfl⟩⟩,V1.nil⟩;cases A<;>simp at j<;>cases j
 ·cases y;have i:(⟨g,o*T.sz,none⟩:Addr).add (vlo.toNat*T.sz)=⟨g,(o+vlo.toNat)*T.sz,none⟩:=by rw[add_mul];unfold Addr.add;by_cases z:vlo.toNat*T.sz=0<;>simp[z]
  refine⟨fun b j=>?_,cs.drop (vlo.toNat*T.sz),?_,by rw[f];exact l.tail _⟩
  ·have u:D1 (.slice (some ⟨g,o*T.sz,none⟩) xs.length c)=some g:=c0m hp;rw[u];split at j
   ·obtain⟨_,rfl⟩:=a07 j;rfl
   ·rw[Option.map_some,i]at j;obtain⟨_,rfl⟩:=a07 j;rfl
  ·refine⟨by rw[length_drop,q,hl,Nat.sub_mul],?_⟩
   by_cases hc:c=vlo.toNat
   ·refine .inl ⟨O',some ⟨g,o*T.sz,none⟩,?_⟩;rw[if_pos hc];congr 1<;>omega
   ·refine .inr ⟨g,o+vlo.toNat,c-vlo.toNat,cur,?_,O',hg,O',O',by rw[I];congr 1;omega,?_,fun h=>absurd h (show ¬Qe+e<Qe from O')⟩
    ·rw[if_neg hc,Option.map_some,i]
    ·rw[hl,<-v,add_mul,<-drop_drop,drop_take,Nat.sub_mul]
def F06 (h:Rp E A s ρ S a as w){R:Type}{k:K E R}{r:R}{T:Nat}{x:V E.D}{ux:Value}{lo hi mx:Option (V E.D)}{ulo uhi umx:Option Value}(hx:VS E ρ s.nid w.heap S x ux)(b3:lo=none->ulo=none)(c8:∀v,lo=some v->∃u,ulo=some u/\VS E ρ s.nid w.heap S v u)(b4:hi=none->uhi=none)(c6:∀v,hi=some v->∃u,uhi=some u/\VS E ρ s.nid w.heap S v u)(b1:mx=none->umx=none)(hk:s0X E s T x lo hi mx k=some r):
  ∃s1 v u w1,k s1 v=some r/\X5 E A s ρ S a as w s1 v u w1/\(Instr.sliceAt T ux ulo uhi umx).run E.P w=.ok u w1:=by
 unfold s0X at hk;split at hk<;>try cases hk
 ·rename_i id v;split at hk<;>try cases hk
  rename_i e e' t xs J n hT hl hn;split at hk<;>try cases hk
  rename_i q;rw[and_eq_true,and_eq_true,beq_eq]at q;obtain⟨⟨q,rfl⟩,a1⟩:=q;split at hk<;>try cases hk
  rename_i z;have hl:=e0F hl;rw[b3 rfl,b1 rfl];obtain⟨u,hu,U⟩:=c6 v rfl;subst hu;obtain rfl:=S8 hn U;obtain⟨c4,rfl⟩:=hx.Y8;have p:=h.th id;rw[hl]at p;have p:U5 E w.heap S e t xs (ρ id):=p;obtain⟨A0,c0,b⟩:=p.form;have C:hd (ρ id)=ρ id:=by rw[b];rfl
  have f:E2 (G0 s id)=true:=by rw[hl];rfl
  have y:∀k,Bk (ρ id) k↔D1 (ρ id)=some k:=fun k=>by rw[b];exact Iff.rfl
  rw[C,b];obtain⟨cs,j,m⟩:=p;have key:∃o,(∀w,(Instr.sliceAt T (.slice A0 xs.length c0) none (some (.int J n)) none).run E.P w=.ok (.slice o (U1 xs 0 n).length c0) w)/\(∀k,D1 (.slice o (U1 xs 0 n).length c0)=some k->D1 (ρ id)=some k)/\∃g,Row w.heap e (L0 E t).sz (.slice o (U1 xs 0 n).length c0) (U1 xs 0 n).length g/\V1 (L0 E t) w.heap S g (U1 xs 0 n):=by
   rcases j.h0Z (blt_eq.mp a1)with⟨hV,b2⟩|⟨h0,hc0,hnone,a0,hv⟩
   ·have c5:Ow (L0 E t) e (fun _=>True) w.heap S (.slice A0 xs.length c0) xs:=by
     rw[<-b];exact⟨fun k hk=>⟨(h.ow id f k ((y k).2 (by rw[<-b2];exact hk))).1,trivial⟩,cs,hV,m⟩
    obtain⟨h1,h2⟩:=u0a (P:=E.P) (hi:=.int J n) (k:=J) (vhi:=n) hT (i07 q) c5 z rfl;obtain⟨_,g,c,d⟩:=h2;exact⟨A0,h1,fun k hk=>by rw[b];cases A0 with|none=>cases hk|some a=>obtain⟨h5,rfl⟩:=a07 hk;exact c0m h5,g,Row.ofV (blt_eq.mp a1) c,d⟩
   ·have c3:xs=[]:=eq_nil_of_length_eq_zero h0;subst c3;rw[hv]at b;cases b;have e2:Sl (L0 E t) w.heap S (some a0) 0 ([]:List (Den E.D t)):=⟨le_refl _,fun h=>absurd rfl h,fun i x hx=>by simp at hx⟩
    obtain⟨o,h1,h2⟩:=q0x (P:=E.P) (lo:=none) (hi:=some (.int J n)) (mx:=none) (vlo:=0) (vhi:=n) (vmx:=(0:Nat)) hT (i07 q) e2 rfl ⟨J,rfl⟩ rfl z (.inl rfl);have e1:U1 ([]:List (Den E.D t)) 0 n=[]:=by simp[U1]
    refine⟨o,h1,fun k hk=>?_,[],⟨by rw[e1];simp,.inl ⟨by rw[e1];rfl,o,by rw[e1];rfl⟩⟩,by rw[e1];exact V1.nil⟩;cases o<;>cases hk
  obtain⟨o,h1,l,g,c,d⟩:=key;have I:=h.take (x:=.lst e t (U1 xs 0 n)) (v:=.slice o (U1 xs 0 n).length c0) (G:=[id]) h.cx (Y0.refl _ _) (fun _ h=>h) (fun _ _ _=>rfl) (fun k hk _=>by
   have:Bk (ρ id) k:=by rw[y];exact l k hk
   exact⟨(h.ow id f k this).1,.inl ⟨id,V',f,this⟩⟩) ⟨g,c,d⟩ (by intros;simp)
  refine⟨_,_,_,w,hk,⟨⟨_,_,I,?_,Y0.refl _ _⟩,(Ext.at s id .gone).trans (Ext.new _ _),rfl,fun _ _ _=>rfl⟩,h1 w⟩;exact VS.of rfl (by unfold VC;rw[H5];exact⟨lt_succ_self _,rfl,rfl⟩)
 ·rename_i id v;split at hk<;>try cases hk
  rename_i e e' t xs J n hT hl hn;split at hk<;>try cases hk
  rename_i q;rw[and_eq_true,beq_eq]at q;obtain⟨q,rfl⟩:=q;split at hk<;>try cases hk
  rename_i z;have hl:=e0F hl;rw[b4 rfl,b1 rfl];obtain⟨u,hu,U⟩:=c8 v rfl;subst hu;obtain rfl:=S8 hn U;obtain⟨c4,rfl⟩:=hx.Y8;have p:=h.th id;rw[hl]at p;have p:U5 E w.heap S (Qe+e) t xs (ρ id):=p;obtain⟨A0,c0,b⟩:=p.form;have C:hd (ρ id)=ρ id:=by rw[b];rfl
  have f:E2 (G0 s id)=true:=by rw[hl];rfl
  have y:∀k,Bk (ρ id) k↔D1 (ρ id)=some k:=fun k=>by rw[b];exact Iff.rfl
  rw[C,b];obtain⟨cs,j,m⟩:=p;rw[b]at j;obtain⟨o,c1,h1,l,g,c,d⟩:=G01 (P:=E.P) (k:=J) hT (i07 q) j m z;have I:=h.take (x:=.lst (Qe+e) t (U1 xs n xs.length)) (v:=.slice o (U1 xs n xs.length).length c1) (G:=[id]) h.cx (Y0.refl _ _) (fun _ h=>h) (fun _ _ _=>rfl) (fun k hk _=>by
   have:Bk (ρ id) k:=by rw[y,b];exact l k hk
   exact⟨(h.ow id f k this).1,.inl ⟨id,V',f,this⟩⟩) ⟨g,c,d⟩ (by intros;simp)
  refine⟨_,_,_,w,hk,⟨⟨_,_,I,?_,Y0.refl _ _⟩,(Ext.at s id .gone).trans (Ext.new _ _),rfl,fun _ _ _=>rfl⟩,h1 w⟩;exact VS.of rfl (by unfold VC;rw[H5];exact⟨lt_succ_self _,rfl,rfl⟩)
theorem Rp.B0X (h:Rp E A s ρ S a as w){w1:World}{id:Nat}{x:Th E.D}(l:E2 (G0 s id)=true)(J:E2 x=false)(cx:Cx A.w0 A.W0 A.S0 w1 S)(m:∀k,k<w.heap.size->¬Bk (ρ id) k->w1.heap[k]?=w.heap[k]?)(y:w.heap.size<=w1.heap.size)
  (R:M4 E ρ s.nid w1.heap (fun k=>S k/\¬Bk (ρ id) k) x (ρ id)) (U:∀q i f,x≠.rof q i f:=by intros;simp):
  Rp E A (s.at id x) ρ (fun k=>S k/\¬Bk (ρ id) k) a as w1/\Y0 w.heap S w1.heap (fun k=>S k/\¬Bk (ρ id) k):=by
 have a1:id<s.nid:=h.F7 (by rintro e;rw[e]at l;cases l);have hk:Y0 w.heap S w1.heap (fun k=>S k/\¬Bk (ρ id) k):=⟨y,fun b u hn=>⟨fun h=>hn h.1,m b u (fun e=>hn (h.ow id l b e).1)⟩⟩
 have hl:∀j,G0 { s with th:=(id,x) :: s.th,nid:=s.nid } j=if id=j then x else G0 s j:=fun j=>M9 s id j x;have c:∀j,j≠id->j<s.nid->b0M s { s with th:=(id,x) :: s.th,nid:=s.nid } ρ ρ (fun k=>S k/\¬Bk (ρ id) k) w w1 j:=fun j I n=>
  ⟨by grind,n,rfl,fun g k d=>⟨m k ((h.th j).live g k d) (fun v=>h.dj id j (Ne.symm I) l g k v d),(h.ow j g k d).1,fun v=>h.dj id j (Ne.symm I) l g k v d⟩⟩
 refine⟨h.step (nid1:=s.nid) (th1:=(id,x) :: s.th) ⟨⟨cx.bel,fun b m=>⟨cx.sub b m,fun e=>(h.ow id l b e).2.1 m⟩,fun b m=>cx.lt b m.1,cx.lt0⟩,hk,fun _ _=>rfl,le_refl _⟩ (fun j=>?_) fun r q i f C e F t xs hq=>?_,hk⟩
 ·by_cases e:id=j
  ·grind
  ·by_cases n:j<s.nid
   ·grind
   ·rw[hl,if_neg e,h.lt j O'];exact .inr ⟨trivial,(fun l=>by cases l),fun _=>rfl⟩
 ·rw[hl]at C;split at C
  ·simp_all
  ·rename_i z;have p:=h.c0C C;rw[hl]at hq;split at hq
   ·rw[hq]at J;cases J
   ·rename_i o;exact .inl ⟨c r (Ne.symm z) (h.F7 (by simp_all)),c q (Ne.symm o) p⟩
def D0E (h:Rp E A s ρ S a as w){R:Type}{k:K E R}{r:R}{T T':Nat}{x:V E.D}{ux:Value}(hx:VS E ρ s.nid w.heap S x ux)(hk:q0H E s T T' x k=some r):
  ∃s1 v u w1,k s1 v=some r/\X5 E A s ρ S a as w s1 v u w1/\(convert T T' ux).run E.P w=.ok u w1:=by
 unfold q0H at hk;split at hk<;>try cases hk
 rename_i id;split at hk<;>try cases hk
 rename_i e e' xs t hT hl;rw[beq_eq]at t;subst t;split at hk<;>try cases hk
 rename_i he;split at hk<;>try cases hk
 rename_i l;rw[and_eq_true]at l;obtain⟨z,l⟩:=l;have hl:=e0F hl;obtain⟨C,rfl⟩:=hx.Y8;have I:=h.th id;rw[hl]at I;have I:U5 E w.heap S e' (.int .u8) xs (ρ id):=I;obtain⟨cs,⟨b1,m⟩,p⟩:=I;have n:Row w.heap e' (L0 E (.int .u8)).sz (ρ id) xs.length cs:=⟨b1,m⟩
 rcases m with⟨h0,_⟩|⟨b,o,cap,cur,hfo,hp0,hg,hnc,hm,hcs,htake,ho0⟩
 ·have:xs=[]:=eq_nil_of_length_eq_zero h0;subst this;simp at l
 ·obtain rfl:=ho0 (blt_eq.mp z);rw[zero_mul]at hfo htake;rw[zero_add]at hm hcs;rw[List.drop_zero]at htake;rw[if_pos (blt_eq.mp z)]at hg;have c:E2 (G0 s id)=true:=by rw[hl];rfl
  have f:Bk (ρ id) b:=by rw[hfo];exact c0m hp0
  have b4:∀k,Bk (ρ id) k->k=b:=fun k hk=>by rw[hfo]at hk;exact(a07 hk).2.symm
  obtain⟨hS,c3,hW⟩:=h.ow id c b f;have d:hd (ρ id)=ρ id:=by rw[hfo];rfl
  have b3:w.shape? b=some (e',cur.size):=by unfold World.shape?;rw[hg]
  have q:(w.freeze ⟨b,cur.size,none⟩ 1).heap[b]?=some (.cells cur e' (cur.size,cur.size+1)):=by
   unfold World.freeze;rw[if_neg (by decide)];simp[Array.getElem?_modify,hg]
  have g:T6 b w (w.freeze ⟨b,cur.size,none⟩ 1):=by
   unfold World.freeze;rw[if_neg (by decide)];exact⟨rfl,rfl,rfl,V',fun k _ hk=>by simp[Array.getElem?_modify,Ne.symm hk]⟩
  have b2:M4 E ρ s.nid (w.freeze ⟨b,cur.size,none⟩ 1).heap (fun k=>S k/\¬Bk (ρ id) k) (.fz (.int .u8) xs) (ρ id):=by
   obtain⟨A1,c1,h1,h2⟩:=n0n (S:=fun _=>False) n (p.J1 (Y0.less fun _ h=>h.elim)) (fun _ _ h=>h);rw[hfo]at h1;simp at h1;obtain⟨rfl,rfl⟩:=h1;refine⟨some ⟨b,0,none⟩,cap,by rw[d,hfo],hnc,fun _=>⟨b,0,rfl,getElem?_lt q,fun h=>h.2 f⟩,fun i y hy=>?_⟩;obtain⟨b',o',U,hA,hR,hc⟩:=h2.2.2 i y hy;simp at hA;obtain⟨rfl,rfl⟩:=hA;refine⟨b,0,U,rfl,hR,fun j v hj=>?_⟩;have:=hc j v hj;unfold D2 at this ⊢;rw[hg]at this;rw[q];exact this
  obtain⟨J,a1⟩:=h.B0X (w1:=w.freeze ⟨b,cur.size,none⟩ 1) (x:=.fz (.int .u8) xs) c rfl (g.cx h.cx hW) (fun k hk hn=>g.block k hk (fun e=>hn (by rw[e];exact f))) g.size b2;refine⟨_,_,ρ id,_,hk,⟨⟨ρ,_,J,VS.of rfl (by unfold VC;exact⟨C,by rw[d,hfo];rfl,by rw[d]⟩),a1⟩,Ext.at s id _,rfl,fun k hk hq=>g.block k hk (fun e=>hq id C c (c0W s) (by rw[e];exact f))⟩,?_⟩;rw[d,hfo];simp[convert,run_underlying hT,run_underlying he,markStringish,b3]
theorem x0M {id:Nat}{x:V E.D}{m:List (Int×Int)}(h:l0P E s x=some (id,m)):x=.mp id/\G0 s id=.map m:=by
 unfold l0P at h
 grind
def Rp.x0S (h:Rp E A s ρ S a as w){id:Nat}{m f:List (Int×Int)}(hl:G0 s id=.map m){r:Nat}(c:ρ id=.map (some r)){es:Array MapEntry}{cl:Nat}(hm:I8 es.toList f)(hg:∃g,w.heap[r]?=some g):
  Rp E A (s.at id (.map f)) ρ S a as (b0B w r (.map es cl))/\Y0 w.heap S (b0B w r (.map es cl)).heap S:=by
 have b:E2 (G0 s id)=true:=by rw[hl];rfl
 obtain⟨g,hg⟩:=hg;obtain⟨i,j,l⟩:=h.ow id b r (by rw[c];rfl);have d:=m0H w r (.map es cl);have kp:=d.J1 i;refine⟨h.turn (x:=.map f) (v:=ρ id) (h.F7 (by simp_all)) b (d.cx h.cx l) kp (fun _ h=>h) (fun k hk hn=>d.block k hk (fun e=>hn (by rw[c,e];rfl))) rfl (fun k hk=>(h.ow id b k hk).1) ⟨r,es,cl,c,v0a hg,hm⟩,kp⟩
def H0l (h:Rp E A s ρ S a as w){R:Type}{k:K E R}{r:R}{T:Nat}{x i y:V E.D}{u C z:Value}(hx:VS E ρ s.nid w.heap S x u)(hi:VS E ρ s.nid w.heap S i C)(U:VS E ρ s.nid w.heap S y z)(hk:t0v E s T x i y k=some r):
  ∃s1 v w1,k s1 v=some r/\X5 E A s ρ S a as w s1 v Go.undef w1/\(Instr.mapUpdate T u C z).run E.P w=.ok () w1:=by
 unfold t0v at hk;split at hk<;>try cases hk
 rename_i id m p q hm hp hq J;obtain⟨rfl,hl⟩:=x0M hm;obtain rfl:=m0G hp hi;obtain rfl:=m0G hq U;obtain⟨t,rfl⟩:=hx.h0W;obtain⟨kt,et,h1,h2,h3⟩:=q0c J;have I:=h.th id;rw[hl]at I;obtain⟨b,es,cl,c,hg,o⟩:=I;obtain⟨n,g,d,f⟩:=J0y (P:=E.P) (k:=p) (v:=q) h1 h2 hg o;obtain⟨j,l⟩:=h.x0S (cl:=g) hl c f ⟨_,hg⟩;refine⟨_,_,_,hk,⟨⟨ρ,S,j,VS.unit,l⟩,Ext.at s id _,rfl,fun k hk hq=>(m0H w _ (.map n g)).block k hk (fun e=>hq id t (by rw[hl];rfl) (c0W s) (by rw[c,e];rfl))⟩,?_⟩;rw[c];exact d
def K0p (h:Rp E A s ρ S a as w){R:Type}{k:K E R}{r:R}{T T2 ty:Nat}{x i:V E.D}{t u:Value}(C:VS E ρ s.nid w.heap S x t)(hi:VS E ρ s.nid w.heap S i u)(hk:p0k E s T x i k=some r):
  ∃s1 v w1,k s1 v=some r/\X5 E A s ρ S a as w s1 v (.tuple #[]) w1/\(Builtin.delete_ #[T,T2] ty #[t,u]).run E.P w=.ok (.tuple #[]) w1:=by
 unfold p0k at hk;split at hk<;>try cases hk
 rename_i id m p hm hp z;obtain⟨rfl,hl⟩:=x0M hm;obtain rfl:=m0G hp hi;obtain⟨q,rfl⟩:=C.h0W;obtain⟨U,et,h1,I,J⟩:=q0c z;have y:=h.th id;rw[hl]at y;obtain⟨b,es,cl,c,hg,o⟩:=y;obtain⟨n,g,d,f⟩:=C0V (P:=E.P) (k2:=T2) (ty:=ty) (k:=p) h1 I hg o;obtain⟨j,l⟩:=h.x0S (cl:=g) hl c f ⟨_,hg⟩;refine⟨_,_,_,hk,⟨⟨ρ,S,j,VS.of rfl (by exact⟨[],rfl,by rfl⟩),l⟩,Ext.at s id _,rfl,fun k hk hq=>(m0H w _ (.map n g)).block k hk (fun e=>hq id q (by rw[hl];rfl) (c0W s) (by rw[c,e];rfl))⟩,?_⟩;rw[c];exact d
theorem C0q (h:Rp E A s ρ S a as w){T:Nat}:
  X5 E A s ρ S a as w (s.new (.map [])) (.mp s.nid) (.map (some w.heap.size)) { w with heap:=w.heap.push (.map #[] 0) }/\(Instr.makeMap T none).run E.P w=.ok (.map (some w.heap.size)) { w with heap:=w.heap.push (.map #[] 0) }:=by
 have d:Below w.heap.size w { w with heap:=w.heap.push (.map #[] 0) }:=⟨rfl,rfl,rfl,V',fun k hk=>by grind⟩
 obtain⟨S1,c,b⟩:=h.new (x:=.map []) (v:=.map (some w.heap.size)) (w1:={ w with heap:=w.heap.push (.map #[] 0) }) d (fun k hk=>by cases hk;simp) (fun S1 _ _ _=>⟨w.heap.size,#[],0,rfl,V',rfl⟩);refine⟨⟨⟨_,S1,b,VS.of rfl (by unfold VC;rw[H5];exact⟨lt_succ_self _,rfl,rfl⟩),c⟩,Ext.new s _,rfl,fun k hk _=>d.block k hk⟩,?_⟩;rfl
theorem O0G {α:Type}{T:Ty α}{S:E0}{t ty e z:TypeId}{A B:Option Addr}{c d:Nat}{xs ys:List α}(P:Program)(ht:P.underlying t=some (.slice e))(U:(P.info? e).map (·.size)=some 1)(u:T.sz=1)
  (p:Ow T z (fun _=>True) w.heap S (.slice A xs.length c) xs) (r:Y5 T w.heap S B ys):
  ∃w1,(Builtin.copy_ #[t,t] ty #[.slice A xs.length c,.slice B ys.length d]).run P w=.ok (.int .i64 ((Nat.min ys.length xs.length:Nat):Int)) w1/\(w1=w\/∃g,A=some ⟨g,0,none⟩/\T6 g w w1)/\Ow T z (fun _=>True) w1.heap S (.slice A xs.length c) (o5 xs ys):=by
 by_cases h0:Nat.min ys.length xs.length=0
 ·refine⟨w,by rw[run_copy_none w t t ty e A B xs.length c ys.length d ht U h0,h0];rfl,.inl rfl,?_⟩;have:o5 xs ys=xs:=by
   rcases Nat.eq_zero_or_pos xs.length with hz|hz
   ·simp_all[o5]
   ·have a1:ys.length=0:=by
     grind
    simp_all[o5]
  simp_all
 ·have b2:0<xs.length:=by
   grind
  have hyp:0<ys.length:=by
   grind
  obtain⟨b,off,_,hB,_⟩:=r 0 ys[0] V';subst hB;obtain⟨news,f,C⟩:=Y5.news (w:=w) (xs:=ys) (k:=0) (A:=some ⟨b,off,none⟩) (T:=T) (S:=S) (fun i x hx=>by
   obtain⟨b,o,cs,h1,J,h3⟩:=r i x hx
   grind)
  obtain⟨n,cs,⟨I,m⟩,l⟩:=p;rcases m with⟨y,hz⟩|⟨g,cap,cur,y,hg,hnc,hm,hcs,htake⟩
  ·omega
  ·obtain⟨rfl,rfl⟩:=y;have b1:news.length=ys.length:=by rw[f.1,u,mul_one]
   have h:(news.take xs.length).length=Nat.min ys.length xs.length:=by grind
   have hr:=run_copy_row (P:=P) w t t ty e g 0 xs.length c ⟨b,off,none⟩ ys.length d cur z (news.take xs.length) ht U hg h (fun j v hj=>by
    rw[a01]
    grind) (by grind) (fun v y=>f.f0y v (List.mem_of_mem_take y))
   simp only[List.take_zero,nil_append,zero_add]at hr;have R:=n g (by rfl);have q:T6 g w (w.setRow g (news.take xs.length++cur.toList.drop (news.take xs.length).length).toArray):=⟨rfl,rfl,rfl,V',fun k _ hk=>by simp[World.setRow,Array.getElem?_modify,Ne.symm hk]⟩
   have hk:=q.J1 R.1;refine⟨_,by rw[hr,h];rfl,.inr ⟨g,rfl,q⟩,n,news.take xs.length++cs.drop ys.length,⟨?_,.inr ⟨g,c,(news.take xs.length++cur.toList.drop (news.take xs.length).length).toArray,by rw[c0k],setRow_heap w g cur _ z _ hg,by simp_all[c0k],hm,?_,?_⟩⟩,?_⟩
   ·rw[c0k,u,mul_one,length_append,h,length_drop,I]
    grind
   ·grind
   ·rw[c0k,u,mul_one];show List.take xs.length (news.take xs.length++cur.toList.drop (news.take xs.length).length)=_;rw[List.take_append,List.take_take,Nat.min_self,<-htake];congr 1;rw[drop_take];rcases Nat.le_total ys.length xs.length with hle|hle
    ·simp_all
    simp_all
   ·have h1:=(f.J1 hk).cut xs.length;have J:=(l.J1 hk).tail ys.length;rw[u,mul_one]at h1 J;exact h1.append J
def w09 {α:Type}{T:Ty α}{S:E0}{t ty e n:TypeId}{v:Value}{A B:Option Addr}{c d:Nat}{xs ys:List α}{cs:List Value}(P:Program)(l:n<Qe)(u:P.underlying t=some (.slice e))(r:(P.info? e).map (·.size)=some 1)(y:T.sz=1)
  (b:v=.slice A xs.length c) (j:Row w.heap n T.sz v xs.length cs) (h:V1 T w.heap S cs xs) (C:∀k,D1 v=some k->S k) (p:Y5 T w.heap S B ys):
  ∃w1,(Builtin.copy_ #[t,t] ty #[v,.slice B ys.length d]).run P w=.ok (.int .i64 ((Nat.min ys.length xs.length:Nat):Int)) w1/\(w1=w\/∃g,D1 v=some g/\T6 g w w1)/\∃f,Row w1.heap n T.sz v (o5 xs ys).length f/\V1 T w1.heap S f (o5 xs ys):=by
 rcases j.h0Z l with⟨R,i⟩|⟨h0,hc0,hnone,a0,hv⟩
 ·have o:Ow T n (fun _=>True) w.heap S (.slice A xs.length c) xs:=by
   rw[<-b];exact⟨fun k hk=>⟨C k (by rw[<-i];exact hk),trivial⟩,cs,R,h⟩
  obtain⟨w1,h1,J,_,f,x,z⟩:=O0G (d:=d) (ty:=ty) P u r y o p;refine⟨w1,by rw[b];exact h1,J.imp id (fun⟨g,m,I⟩=>⟨g,by rw[<-i,b,m];rfl,I⟩),f,by rw[b];exact Row.ofV l x,z⟩
 ·have q:xs=[]:=eq_nil_of_length_eq_zero h0;subst q;rw[hv]at b;cases b;subst hv;have m:Nat.min ys.length ([]:List α).length=0:=by simp[Nat.min_def]
  refine⟨w,by rw[m];exact run_copy_none w t t ty e (some a0) B 0 0 ys.length d u r (by simpa using m),.inl rfl,[],⟨by simp[o5],.inl ⟨by simp[o5],_,rfl⟩⟩,by simpa[o5]using V1.nil⟩
def E0h (hE:G2 E)(h:Rp E A s ρ S a as w){R:Type}{k:K E R}{r:R}{T ty:Nat}{x y:V E.D}{ux uy:Value}(hx:VS E ρ s.nid w.heap S x ux)(hy:VS E ρ s.nid w.heap S y uy)(hk:copyV E s T x y k=some r):
  ∃s1 v u w1,k s1 v=some r/\X5 E A s ρ S a as w s1 v u w1/\(Builtin.copy_ #[T,T] ty #[ux,uy]).run E.P w=.ok u w1:=by
 unfold copyV at hk;split at hk<;>try cases hk
 rename_i e id hT;split at hk<;>try cases hk
 rename_i J;have h0:(E.P.info? e).map (·.size)=some 1:=by
  unfold D6 at J;split at J
  ·rename_i i hi;rw[hi];simpa using J
  ·cases J
 obtain⟨e6,rfl⟩:=hx.Y8;split at hk<;>try cases hk
 ·rename_i e' t xs hl;split at hk<;>try cases hk
  rename_i ys U p;rw[and_eq_true,beq_eq]at U;obtain⟨U,b3⟩:=U;obtain⟨A',c,rfl,b2⟩:=g07 h hy p;have ht:=h.th id;rw[hl]at ht;have ht:U5 E w.heap S e' t xs (ρ id):=ht;obtain⟨A0,c0,z⟩:=ht.form;have i1:hd (ρ id)=ρ id:=by rw[z];rfl
  have b:E2 (G0 s id)=true:=by rw[hl];rfl
  have e3:∀k,Bk (ρ id) k↔D1 (ρ id)=some k:=fun k=>by rw[z];exact Iff.rfl
  obtain⟨cs,o,e7⟩:=ht;obtain⟨w1,q,b1,b4,m,n⟩:=w09 (d:=c) (ty:=ty) (S:=S) E.P (blt_eq.mp b3) hT h0 U z o e7 (fun k hk=>(h.ow id b k ((e3 k).2 hk)).1) b2;have c8:Cx A.w0 A.W0 A.S0 w1 S/\Y0 w.heap S w1.heap S/\∀k,k<w.heap.size->¬Bk (ρ id) k->w1.heap[k]?=w.heap[k]?:=by
   rcases b1 with rfl|⟨g,hg1,ho⟩
   ·exact⟨h.cx,Y0.refl _ _,fun _ _ _=>rfl⟩
   ·have hb:Bk (ρ id) g:=(e3 g).2 hg1;obtain⟨hS,_,hW⟩:=h.ow id b g hb;exact⟨ho.cx h.cx hW,ho.J1 hS,fun k hk hn=>ho.block k hk (fun e=>hn (by rw[e];exact hb))⟩
  obtain⟨c6,I,C⟩:=c8;refine⟨_,_,_,w1,hk,⟨⟨ρ,S,h.turn (x:=.lst e' t (o5 xs ys)) (v:=ρ id) e6 b c6 I (fun _ h=>h) C rfl (fun k hk=>(h.ow id b k hk).1) ⟨b4,m,n⟩,VS.dI,I⟩,Ext.at s id _,rfl,fun k hk hq=>C k hk (hq id e6 b (c0W s))⟩,?_⟩;rw[i1];exact q
 ·rename_i r0 j f hl;split at hk<;>try cases hk
  rename_i e0 F t0 h4 t xs h9 h7;split at hk<;>try cases hk
  rename_i ys U p;split at hk<;>try cases hk
  rename_i x h2;rw[and_eq_true,beq_eq,all_eq_true]at U;obtain⟨U,b3⟩:=U;obtain⟨A',c,rfl,b2⟩:=g07 h hy p;have hq:=e02 h9;obtain⟨u,j0,j1,o,hg,c4,h3⟩:=r0h hE h2;have l:=h7;unfold b03 at l;rw[hq]at l;have l:L3 E t0 (r7 E t0 h4 j) f=some ⟨t,xs⟩:=l;rw[o]at l;obtain⟨rfl,e9⟩:=Sigma.mk.inj (Option.some.inj l);have e9:=eq_of_heq e9;subst e9;split at hg<;>try cases hg
  rename_i ws c3;obtain⟨ec,c3⟩:=W9 c3;obtain rfl:ys=ws:=c3;obtain⟨_,e1,_,hblk⟩:=h.o0e hl h7;have e5:=h.rf id r0 j f hl e0 F t0 h4 hq;obtain⟨cs,ht,k2,k3,h5,h8⟩:=h.q0o hq e5;obtain⟨e',a1⟩:∃e',F[f]?=some e':=⟨_,List.getElem?_eq_getElem k3⟩
  obtain⟨j2,h6,hL⟩:=ht.rows j.toNat _ f u j0 e' (a0y k2.1 k2.2) o a1 V';rw[h5]at h6;obtain rfl:=Option.some.inj h6;have b:E2 (G0 s r0)=true:=by rw[hq];rfl
  have e4:=h.F7 (id:=r0) (by rw[hq];simp);obtain⟨A0,c0,z⟩:=hL.form;obtain⟨j3,c5,e2⟩:=hL;obtain⟨w1,q,b1,b4,m,n⟩:=w09 (d:=c) (ty:=ty) (S:=S) E.P (blt_eq.mp (b3 e' (mem_of_getElem? a1))) hT h0 U z c5 e2 (fun k hk=>(h.ow r0 b k (Bk.tl (mem_of_getElem? h8) hk)).1) b2;have c8:Cx A.w0 A.W0 A.S0 w1 S/\Y0 w.heap S w1.heap S/\∀k,k<w.heap.size->D1 (ρ id)≠some k->w1.heap[k]?=w.heap[k]?:=by
   rcases b1 with rfl|⟨g,hob,ho⟩
   ·exact⟨h.cx,Y0.refl _ _,fun _ _ _=>rfl⟩
   ·obtain⟨hS,_,hW⟩:=h.ow r0 b g (Bk.tl (mem_of_getElem? h8) hob);exact⟨ho.cx h.cx hW,ho.J1 hS,fun k hk hn=>ho.block k hk (fun e=>hn (by rw[e];exact hob))⟩
  obtain⟨c6,I,C⟩:=c8;refine⟨_,_,_,w1,hk,⟨⟨ρ,S,h.z0J hq e5 c4 h3 a1 C c6 I ⟨b4,m,n⟩,VS.dI,I⟩,Ext.at s r0 _,rfl,fun k hk hq=>C k hk (fun e=>hq r0 e4 b (c0W s) (Bk.tl (mem_of_getElem? h8) e))⟩,?_⟩;rw[e1];exact q
def N0B (hE:G2 E)(h:Rp E A s ρ S a as w){R:Type}{k:K E R}{r:R}{T:Nat}{d:U}{o:List (Den E.D d)}{y:V E.D}{ux uy:Value}(hx:VS E ρ s.nid w.heap S (.df d o) ux)(hy:VS E ρ s.nid w.heap S y uy)(ty:Nat)(hk:s0U E s T d o y k=some r):
  ∃s1 v u w1,k s1 v=some r/\X5 E A s ρ S a as w s1 v u w1/\(Builtin.append_ #[T,T] ty #[ux,uy]).run E.P w=.ok u w1:=by
 unfold s0U at hk;split at hk<;>try cases hk
 rename_i e he;split at hk<;>try cases hk
 rename_i t z sz bytes ht q;split at hk<;>try cases hk
 rename_i ys xs b3 j hc;split at hk<;>try cases hk
 rename_i b;rw[and_eq_true,List.isEmpty_iff]at b;obtain⟨b2,b⟩:=b;obtain⟨ec,hc⟩:=W9 hc;subst ec;subst hc;obtain⟨rfl,h1,h2,h3⟩:=c0Y b3;obtain⟨i,hi,b1,J,p⟩:=d0q q;have hT:=d0e he;obtain⟨A',c,rfl,I⟩:=g07 h hy j;obtain⟨c0,n,rfl⟩:=hx;unfold VC at n;obtain⟨B,rfl,b4⟩:=n;subst b2;have C:(E.P.info? e).map (fun i=>(i.zero,i.size,i.bytes))=some (some z,(L0 E d).sz,bytes):=by rw[hi];simp[b1,J,p]
 have a1:(decide (z.cells.size=(L0 E d).sz)&&decide (0<(L0 E d).sz)&&decide (0<bytes))=true:=by simp[h1,h2,h3]
 obtain⟨v',w1,m,hg,x,⟨A1,c1,g⟩,f⟩:=h08 (S:=S) (w:=w) (ty:=ty) (v:=.slice B 0 0) (xs:=([]:List (Den E.D d))) (cs:=[]) (c:=c) E.P (c0x he) hT C a1 ⟨V',.inl ⟨rfl,B,rfl⟩⟩ V1.nil (fun k hk=>by cases B<;>cases hk) I b;have hB:Below w.heap.size w w1:=⟨hg.os,hg.tape,hg.output,hg.size,fun k hk=>hg.block k hk (by cases B<;>simp[D1])⟩
 subst g;refine⟨_,_,_,w1,hk,h.k0Y hB (fun k hk=>?_) rfl fun S1 hk hs=>f S1 hk,m⟩;obtain⟨l,h6⟩:=x k hk;refine⟨?_,h6⟩;rcases l with l|l
 ·cases B<;>cases l
 ·exact l
def J0r (d:G2 E)(h:Rp E A s ρ S a as w){R:Type}{k:K E R}{r:R}{b:Bool}{T:Nat}{x y:V E.D}{m l:Value}(f:VS E ρ s.nid w.heap S x m)(g:VS E ρ s.nid w.heap S y l)(ty:Nat)(hk:s00 E b s T x y k=some r):
  ∃s1 v u w1,k s1 v=some r/\X5 E A s ρ S a as w s1 v u w1/\(Builtin.append_ #[T,T] ty #[m,l]).run E.P w=.ok u w1:=by
 unfold s00 at hk;split at hk
 ·rename_i id e t xs hq;exact H0R d h f g ty hq hk
 split at hk
 ·rename_i n i c;have j:x=.df n i:=by
   cases x<;>simp only[o0y]at c<;>try cases c
   rfl
  subst j;exact N0B d h f g ty hk
 ·exact A0w d h f g ty hk
def N0H (q:G2 E)(h:Rp E A s ρ S a as w){R:Type}{k:K E R}{r:R}{tb:List Nat}{o:Oper}(hk:evE E tb s o k=some r):
  ∃s1 v u w1,k s1 v=some r/\X5 E A s ρ S a as w s1 v u w1/\((execOp a.eval o).run E.P w=.ok (.value u) w1\/(u=undef/\(execOp a.eval o).run E.P w=.ok .skip w1)):=by
 unfold evE at hk;split at hk
 ·rename_i T g;obtain⟨s1,v,u,w1,h1,d,b⟩:=O06 h hk;exact⟨s1,v,u,w1,h1,d,.inl (by simp[execOp,g,b])⟩
 ·rename_i T x g;obtain⟨s1,v,u,w1,h1,d,b⟩:=K0I q h (h.val x) hk;exact⟨s1,v,u,w1,h1,d,.inl (by simp[execOp,g,b])⟩
 ·rename_i T p x g;obtain⟨s1,v,w1,h1,d,b⟩:=D0j q h (h.val p) (h.val x) hk;exact⟨s1,v,_,w1,h1,d,.inr ⟨rfl,by simp[execOp,g,b]⟩⟩
 ·rename_i T n parts g;split at hk
  ·obtain⟨s1,v,u,w1,h1,d,b⟩:=C0E h hk;exact⟨s1,v,u,w1,h1,d,.inl (by simp[execOp,g,b])⟩
  ·obtain⟨s1,v,u,w1,h1,d,b⟩:=C0Z q h hk;exact⟨s1,v,u,w1,h1,d,.inl (by simp[execOp,g,b])⟩
 ·rename_i T n m g;split at hk
  ·obtain⟨s1,v,u,w1,h1,d,b⟩:=I0Q q h hk;exact⟨s1,v,u,w1,h1,d,.inl (by simp[execOp,g,b])⟩
  ·obtain⟨s1,v,u,w1,h1,d,b⟩:=M0k q h hk;exact⟨s1,v,u,w1,h1,d,.inl (by simp[execOp,g,b])⟩
 ·rename_i c g;split at hk<;>try cases hk
  ·rename_i x y T z I C t;split at hk<;>try cases hk
   rename_i l;rw[beq_eq]at l;subst l;have f:c.args=#[x,y]:=by have:=congrArg List.toArray C;simpa using this
   have j:c.argTypes=#[T,T]:=by have:=congrArg List.toArray t;simpa using this
   obtain⟨s1,v,u,w1,h1,d,b⟩:=J0r q h (h.val x) (h.val y) o.type hk;exact⟨s1,v,u,w1,h1,d,.inl (by simp[execOp,g,resolve,I,f,j,invoke,builtin,b])⟩
  ·rename_i x y T z I C t;split at hk<;>try cases hk
   rename_i l;rw[beq_eq]at l;subst l;have f:c.args=#[x,y]:=by have:=congrArg List.toArray C;simpa using this
   have j:c.argTypes=#[T,T]:=by have:=congrArg List.toArray t;simpa using this
   obtain⟨s1,v,u,w1,h1,d,b⟩:=E0h (ty:=o.type) q h (h.val x) (h.val y) hk;exact⟨s1,v,u,w1,h1,d,.inl (by simp[execOp,g,resolve,I,f,j,invoke,builtin,b])⟩
  ·rename_i x y T z I C t;have f:c.args=#[x,y]:=by have:=congrArg List.toArray C;simpa using this
   have j:c.argTypes=#[T,z]:=by have:=congrArg List.toArray t;simpa using this
   obtain⟨s1,v,w1,h1,d,b⟩:=K0p (T2:=z) (ty:=o.type) h (h.val x) (h.val y) hk;exact⟨s1,v,_,w1,h1,d,.inl (by simp[execOp,g,resolve,I,f,j,invoke,builtin,b])⟩
 ·rename_i T x lo hi mx g;obtain⟨s1,v,u,w1,h1,d,b⟩:=F06 (ulo:=lo.map a.eval) (uhi:=hi.map a.eval) (umx:=mx.map a.eval) h (h.val x) (fun e=>by cases lo<;>simp at e ⊢) (fun v e=>by
   cases lo with
   |none=>simp at e
   |some y=>simp at e;subst e;exact⟨_,rfl,h.val y⟩) (fun e=>by cases hi<;>simp at e ⊢) (fun v e=>by
   cases hi with
   |none=>simp at e
   |some y=>simp at e;subst e;exact⟨_,rfl,h.val y⟩) (fun e=>by cases mx<;>simp at e ⊢) hk
  exact⟨s1,v,u,w1,h1,d,.inl (by simp[execOp,g,b])⟩
 ·rename_i T z x g;obtain⟨s1,v,u,w1,h1,d,b⟩:=D0E h (h.val x) hk;exact⟨s1,v,u,w1,h1,d,.inl (by simp[execOp,g,b])⟩
 ·rename_i T g;obtain⟨d,b⟩:=C0q (T:=T) h;exact⟨_,_,_,_,hk,d,.inl (by simp[execOp,g,b])⟩
 ·rename_i T m i x g;obtain⟨s1,v,w1,h1,d,b⟩:=H0l h (h.val m) (h.val i) (h.val x) hk;exact⟨s1,v,_,w1,h1,d,.inr ⟨rfl,by simp[execOp,g,b]⟩⟩
 ·cases hk
end
end
