/- P. Its conditions: none. -/
import Derived.Test.YtihmgaccbcfgjaaGreatTX6
import Derived.Great.BuildSlice
open Nat (le_succ lt_succ_self le_refl le_trans succ_mul mul_le_mul_right min_eq_left beq_eq add_sub_cancel zero_add mul_comm eq_zero_or_pos lt_or_ge le_total mul_one)
open List (all_eq_true eq_nil_of_length_eq_zero length_append append_assoc length_take length_drop length_set nil_append drop_drop take_append_drop take_left' any_eq_true mem_cons mem_cons_of_mem mem_of_getElem? mem_append map_cons take_zero)
open Bool (and_eq_true)
set_option linter.all false
namespace Go.X
open Go.V Go.RowKit
section
variable {E:Env}{A:E4}{s:St E.D}{ρ:Nat->Value}{S:D0}{a:Act}{as:List Act}{w:World}
def e04 {v:Value}(h:v.oneCell'=true):hd v=v/\∀k,Bk v k↔B1 v=some k:=by
 cases v<;>first|exact⟨rfl,fun _=>Iff.rfl⟩|(simp[Value.oneCell']at h)
structure K5 (E:Env)(A:E4)(s:St E.D)(ρ:Nat->Value)(S:D0)(a:Act)(as:List Act)(w:World)(s1:St E.D)(v:V E.D)(u:Value)(w1:World):Prop where
 rp:∃ ρ1 S1,Rp E A s1 ρ1 S1 a as w1/\VS E ρ1 s1.nid w1.heap S1 v u/\P0 w.heap S w1.heap S1
 ext:Ext s s1
 fr:s1.fr=s.fr
 old:∀k,k<w.heap.size->(∀q,q<s.nid->Q1 (F0 s q)=true->W6 s s1 q=true->¬Bk (ρ q) k)->w1.heap[k]?=w.heap[k]?
def f0g (s:St E.D){id:Nat}{x:Th E.D}:W6 s (s.at id x) id=true:=by
 unfold W6 St.at;simp
def Rp.q0Q (h:Rp E A s ρ S a as w){l:List (V E.D)}{cs:List Value}(hl:T0 E ρ s.nid w.heap S l cs)(h1:∀u∈cs,u.oneCell'=true)(T:Nat):
  K5 E A s ρ S a as w (s.new (.box T l)) (.pb s.nid 0 []) (.pointer (some ⟨w.heap.size,0,none⟩)) (w.alloc (.cells cs.toArray T)):=by
 have b:=Below.new w (.cells cs.toArray T);obtain⟨S1,hk,c⟩:=h.new (x:=.box T l) (v:=.pointer (some ⟨w.heap.size,0,none⟩)) (w1:=w.alloc (.cells cs.toArray T)) b
  (fun k hk=>by simp[Bk,B1]at hk;subst hk;simp) (fun S1 hk hs hn=>⟨w.heap.size,cs,rfl,heap_alloc_new w _,hl.mono (fun i hi=>by rw[n5 O']) (le_succ _) hk,h1⟩)
 refine⟨⟨_,S1,c,?_,hk⟩,Ext.new s _,rfl,fun k hk _=>b.block k hk⟩;have:=VS.pb (E:=E) (S:=S1) (H:=(w.alloc (.cells cs.toArray T)).heap) (ρ:=C6 ρ s.nid (.pointer (some ⟨w.heap.size,0,none⟩))) (n:=s.nid+1) (id:=s.nid) (off:=0) (p:=[]) (lt_succ_self _) trivial (by rw[W4];rfl);exact this
def B07 (h:Rp E A s ρ S a as w){R:Type}{k:K E R}{r:R}{T:Nat}(hk:n0c E s T k=some r):
  ∃s1 v u w1,k s1 v=some r/\K5 E A s ρ S a as w s1 v u w1/\(Instr.alloc T true (.tuple #[])).run E.P w=.ok u w1:=by
 unfold n0c at hk;split at hk<;>try cases hk
 rename_i z b;split at hk<;>try cases hk
 rename_i h1;unfold s0s at b;split at b<;>try cases b
 rename_i i hi;refine⟨_,_,_,_,hk,h.q0Q (l0f z) (all_eq_true.1 h1) T,?_⟩;have:z.cells.toList.toArray=z.cells:=X'
 rw[this];simp[Instr.alloc,zeroValue,typeInfo,hi,b,newVar,newRow]
def B09 (f:T1 E)(h:Rp E A s ρ S a as w){R:Type}{k:K E R}{r:R}{T:Nat}{v:V E.D}{b:Value}(d:VS E ρ s.nid w.heap S v b)(hk:p0V E s T v k=some r):
  ∃s1 v u w1,k s1 v=some r/\K5 E A s ρ S a as w s1 v u w1/\(Instr.box T b).run E.P w=.ok u w1:=by
 unfold p0V at hk;split at hk<;>try cases hk
 rename_i hs;obtain⟨c,h1,g,e,_⟩:=d.cells f hs;refine⟨_,_,_,_,hk,h.q0Q h1 e T,?_⟩;simp[Instr.box,newVar,newRow,g]
def v0R {P:Program}(b t:Nat):∀(vs:List Value) (i off:Nat) (w:World) (d1 d2 d3:List Value),w.heap[b]?=some (.cells (d1++(d2++d3)).toArray t (0,0))->d1.length=off+i->d2.length=vs.length->(∀v∈vs,v.oneCell'=true)->
  ∃w1,(storeCells ⟨b,off,none⟩ vs i).run P w=.ok () w1/\j5 b w w1/\w1.heap.size=w.heap.size/\w1.heap[b]?=some (.cells (d1++(vs++d3)).toArray t (0,0))
 |[],i,off,w,d1,d2,d3,f,_,h,_=>by
  have:d2=[]:=eq_nil_of_length_eq_zero (by simpa using h);subst this;exact⟨w,by simp[storeCells],⟨rfl,rfl,rfl,le_refl _,fun _ _ _=>rfl⟩,rfl,f⟩
 |v :: vs,i,off,w,d1,[],d3,f,_,h,_=>by simp at h
 |v :: vs,i,off,w,d1,x :: d2,d3,f,h1,h,hone=>by
  have m:w.cell? ⟨b,off+i,none⟩=some x:=by
   rw[e0W];unfold O1;rw[f];rw[<-h1];simp
  have o:w.frozen? ⟨b,off+i,none⟩=false:=by simp[World.frozen?,f]
  have l:=n0p (P:=P) (w:=w) (ad:=(⟨b,off,none⟩:Addr).add i) (l0t b off i) (hone v X') m o;have c:=v05 (w:=w) (off:=off+i) (v:=v) f;have e:(d1++(x :: d2++d3)).set (off+i) v=(d1++[v])++(d2++d3):=by rw[<-h1];simp
  rw[e]at c;obtain⟨w1,n,g,hs,j⟩:=v0R (P:=P) b t vs (i+1) off (w.setCell ⟨b,off+i,none⟩ v) (d1++[v]) d2 d3 c Z' (by simpa using h) (fun u hu=>hone u (by simp[hu]));have d:=j5.cell w b (off+i) v;refine⟨w1,by simp[storeCells,l,n],⟨g.os.trans d.os,g.tape.trans d.tape,g.output.trans d.output,le_trans d.size g.size,fun k hk hn=>(g.block k (Nat.lt_of_lt_of_le hk d.size) hn).trans (d.block k hk hn)⟩,hs.trans (by simp[World.setCell]),?_⟩;rw[j];simp
def o0Q {T n b off t:Nat}(c:H5 E T=some n){u:Value}{vs:List Value}(hu:u.cells=vs.toArray)(hl:vs.length=n)(h1:∀v∈vs,v.oneCell'=true){d1 d2 d3:List Value}{w:World}(k:w.heap[b]?=some (.cells (d1++(d2++d3)).toArray t (0,0)))(j:d1.length=off)(f:d2.length=n):
  ∃w1,(Instr.storeAt T (.pointer (some ⟨b,off,none⟩)) u).run E.P w=.ok () w1/\j5 b w w1/\w1.heap[b]?=some (.cells (d1++(vs++d3)).toArray t (0,0)):=by
 obtain⟨w1,i,g,_,d⟩:=v0R (P:=E.P) b t vs 0 off w d1 d2 d3 k O' O' h1;refine⟨w1,?_,g,d⟩;have h:u.cells.size=n:=by rw[hu];simpa using hl
 have e:u.cells.toList=vs:=by rw[hu]
 simp[Instr.storeAt,Instr.sureAddr,storeVar,h,e,d0R c w,i]
def VS.unit {n:Nat}{H:I0}:VS E ρ n H S (.tup []:V E.D) Go.undef:=VS.of rfl (by unfold VC;exact⟨[],rfl,by unfold VT;rfl⟩)
def u0O {id T:Nat}{l:List (V E.D)}(h:h0T s id=some (T,l)):F0 s id=.box T l:=by
 unfold h0T at h;split at h
 ·rename_i hl;simp at h;obtain⟨rfl,rfl⟩:=h;exact hl
 ·cases h
def j0O {id e:Nat}{t:U}{xs:List (Den E.D t)}(h:e0I E s id=some (e,⟨t,xs⟩)):F0 s id=.lst e t xs:=by
 unfold e0I at h;split at h
 ·rename_i hl;simp only[Option.some.injEq,Prod.mk.injEq,Sigma.mk.injEq]at h;obtain⟨rfl,rfl,h⟩:=h;have h:=eq_of_heq h;subst h;exact hl
 ·cases h
def Rp.r02 (h:Rp E A s ρ S a as w){id T:Nat}{l l':List (V E.D)}{d:List Value}{b:Nat}{w1:World}(hl:F0 s id=.box T l)(i:ρ id=.pointer (some ⟨b,0,none⟩))(f:j5 b w w1)(n:w1.heap[b]?=some (.cells d.toArray T (0,0)))
  (m:T0 E ρ s.nid w.heap S l' d) (h1:∀u∈d,u.oneCell'=true):Rp E A (s.at id (.box T l')) ρ S a as w1/\P0 w.heap S w1.heap S:=by
 have c:Q1 (F0 s id)=true:=by rw[hl];rfl
 have g:=h.i7 (id:=id) (by rw[hl];simp);obtain⟨j,p,o⟩:=h.ow id c b (by rw[i];rfl);have kp:=f.L0 j;refine⟨h.turn g c (f.cx h.cx o) kp (fun _ h=>h) (fun k hk hn=>f.block k hk (fun e=>hn (by rw[i,e];rfl))) rfl (fun k hk=>(h.ow id c k hk).1) ?_,kp⟩;exact⟨b,d,i,n,m.mono (fun _ _=>rfl) (le_refl _) kp,h1⟩
section
variable {H:I0}
def t0m {f:(t:U)->Den E.D t->Option (Den E.D t)}:∀(ts:List U) (h b:HL E.D ts) (j:Nat) (cs:List Value),a00 ts h j f=some b->(a0S E ts).R H S cs h->
  ∃c1 c2 c3,cs=c1++(c2++c3)/\c1.length=c0g E ts j/\∃t x x',(J0 E t).R H S c2 x/\f t x=some x'/\∀c,(J0 E t).R H S c x'->(a0S E ts).R H S (c1++(c++c3)) b
 |[],_,_,_,_,h=>by intro;simp[a00]at h
 |t :: ts,hh,b,0,cs,h=>by
  intro i;simp only[a00]at h;split at h<;>try cases h
  rename_i y g;obtain⟨c1,c2,rfl,h1,k⟩:=i;exact⟨[],c1,c2,X',rfl,t,_,_,h1,g,fun c e=>⟨c,c2,X',e,k⟩⟩
 |t :: ts,hh,b,j+1,cs,h=>by
  intro i;simp only[a00]at h;split at h<;>try cases h
  rename_i d g;obtain⟨c1,c2,rfl,h1,k⟩:=i;obtain⟨d1,d2,d3,rfl,hl,m,x,x',l,n,hk⟩:=t0m ts hh.2 d j c2 g k;refine⟨c1++d1,d2,d3,X',by rw[length_append,(J0 E t).len h1,hl];rfl,m,x,x',l,n,fun c e=>?_⟩;rw[append_assoc];exact⟨c1,_,rfl,h1,hk c e⟩
def s0Y {α:Type}{T:Ty α}{xs:List α}{cs cn:List Value}{q:α}(b:R1 T H S cs xs){i:Nat}(hi:i<xs.length)(c:T.R H S cn q):
  R1 T H S (cs.take (i*T.sz)++(cn++(cs.drop (i*T.sz)).drop T.sz)) (xs.set i q):=by
 have h:cs.length=xs.length*T.sz:=b.1;have e:=T.len c;have hle:i*T.sz+T.sz<=xs.length*T.sz:=by rw[<-succ_mul];exact mul_le_mul_right _ hi
 have k:(cs.take (i*T.sz)).length=i*T.sz:=by rw[length_take,h];omega
 refine⟨?_,fun j v d=>?_⟩
 ·simp only[length_append,length_drop,length_set,h,k,e];omega
 ·rcases Nat.lt_trichotomy j i with hlt|heq|hgt
  ·rw[List.getElem?_set_ne O']at d;have:=b.2 j v d;have g:j*T.sz+T.sz<=i*T.sz:=by rw[<-succ_mul];exact mul_le_mul_right _ hlt
   have f:((cs.take (i*T.sz)++(cn++(cs.drop (i*T.sz)).drop T.sz)).drop (j*T.sz)).take T.sz=(cs.drop (j*T.sz)).take T.sz:=by
    rw[List.drop_append_of_le_length O',List.take_append_of_le_length (by rw[length_drop,k];omega),List.drop_take,List.take_take,min_eq_left O']
   rw[f];exact this
  ·subst heq;rw[List.getElem?_set_self O']at d;simp at d;subst d;have f:((cs.take (j*T.sz)++(cn++(cs.drop (j*T.sz)).drop T.sz)).drop (j*T.sz)).take T.sz=cn:=by
    rw[List.drop_append_of_le_length O',List.drop_of_length_le O',nil_append,List.take_append_of_le_length O',List.take_of_length_le O']
   rw[f];exact c
  ·rw[List.getElem?_set_ne O']at d;have:=b.2 j v d;have g:i*T.sz+T.sz<=j*T.sz:=by rw[<-succ_mul];exact mul_le_mul_right _ hgt
   have f:((cs.take (i*T.sz)++(cn++(cs.drop (i*T.sz)).drop T.sz)).drop (j*T.sz))=cs.drop (j*T.sz):=by
    rw[<-append_assoc,List.drop_append,List.drop_of_length_le (by rw[length_append,k,e];exact g),nil_append,length_append,k,e,drop_drop,drop_drop];congr 1;omega
   rw[f];exact this
def k0b (C:T1 E){u:U}{y:Den E.D u}:∀(p:List B6) (t:U) (x x':Den E.D t) (cs:List Value),b07 E u y p t x=some x'->a8 p->(J0 E t).R H S cs x->
  ∃c1 c2 c3,cs=c1++(c2++c3)/\c1.length=D4 p/\c2.length=K2 E u/\∀c,(J0 E u).R H S c y->(J0 E t).R H S (c1++(c++c3)) x'
 |[],t,x,x',cs,h,_=>by
  intro I;simp only[b07]at h;obtain⟨e,h⟩:=c0D h;subst e;subst h;exact⟨[],cs,[],X',rfl,(J0 E u).len I,fun c v=>by simpa using v⟩
 |.inl (j,o) :: p,t,x,x',cs,h,hp=>by
  intro I;cases t<;>simp only[b07]at h<;>try cases h
  rename_i i;split at h<;>try cases h
  rename_i ho;rw[beq_eq]at ho;split at h<;>try cases h
  rename_i hh hf;obtain⟨c1,c2,c3,rfl,hl,l,z,z',n,b1,hk⟩:=t0m _ _ _ _ _ hf ((C.st i H S cs x).1 I);obtain⟨d1,d2,d3,rfl,g,k,f⟩:=k0b C p l z z' c2 b1 hp n;refine⟨c1++d1,d2,d3++c3,X',by rw[length_append,hl,ho,g];rfl,k,fun c v=>?_⟩;refine(C.st i H S _ _).2 ?_;rw[C.unmk];have:=hk _ (f c v);simpa using this
 |.inr (i,z,m) :: p,t,x,x',cs,h,hp=>by
  intro I;cases t<;>simp only[b07]at h<;>try cases h
  rename_i m' l;split at h<;>try cases h
  rename_i n;rw[and_eq_true,beq_eq,beq_eq]at n;obtain⟨n,rfl⟩:=n;split at h<;>try cases h
  rename_i q hq;obtain⟨hi,hp⟩:=hp;obtain⟨hlen,b⟩:=I;have d:(J0 E l).sz=z:=n;have r:=a0r (E:=E) (t:=l) (xs:=x) hi.1 (by rw[hlen];exact hi.2);have hy:=b.2 i.toNat _ r;obtain⟨d1,d2,d3,hd,g,k,f⟩:=k0b C p l _ q _ hq hp hy;rw[d]at hd;have b3:cs.length=m'*z:=by rw[b.1,hlen,d]
  have a1:i.toNat<m':=O'
  have hle:i.toNat*z+z<=m'*z:=by rw[<-succ_mul];exact mul_le_mul_right _ a1
  have e1:cs=cs.take (i.toNat*z)++((cs.drop (i.toNat*z)).take z++(cs.drop (i.toNat*z)).drop z):=by rw[take_append_drop,take_append_drop]
  refine⟨cs.take (i.toNat*z)++d1,d2,d3++(cs.drop (i.toNat*z)).drop z,?_,?_,k,fun c v=>?_⟩
  ·rw[hd]at e1
   conv=>lhs;rw[e1]
   simp
  ·rw[length_append,length_take,g,min_eq_left O'];rfl
  ·have J:=f c v;have key:=s0Y (T:=J0 E l) (xs:=x) (cs:=cs) (cn:=d1++(c++d3)) (q:=q) b (i:=i.toNat) (by rw[hlen];exact a1) J;rw[d]at key;have b2:cs.take (i.toNat*z)++d1++(c++(d3++(cs.drop (i.toNat*z)).drop z))=cs.take (i.toNat*z)++((d1++(c++d3))++(cs.drop (i.toNat*z)).drop z):=X'
   rw[b2];exact⟨(length_set ..).trans hlen,key⟩
def h0J {s1:St E.D}{t:List (Nat×Th E.D)}(h1:s1.th=t++s.th){p:Nat×Th E.D}(hp:p∈t):W6 s s1 p.1=true:=by
 unfold W6;rw[h1,length_append,add_sub_cancel,take_left']
 ·exact any_eq_true.2 ⟨p,hp,X'⟩
 ·rfl
def i0c {s1:St E.D}(he:Ext s s1){id:Nat}{x:Th E.D}:W6 s (s1.at id x) id=true:=by
 obtain⟨l,hl⟩:=he.th;exact h0J (t:=(id,x) :: l) (p:=(id,x)) (by simp[St.at,hl]) X'
def g0S {s1 s2:St E.D}{q:Nat}(h:W6 s s1 q=true)(he:Ext s s1)(k:Ext s1 s2):W6 s s2 q=true:=by
 obtain⟨t,d⟩:=he.th;obtain⟨e,b⟩:=k.th;unfold W6 at h;rw[d,length_append,add_sub_cancel,take_left' rfl]at h;obtain⟨p,hp,c⟩:=any_eq_true.1 h;rw[beq_eq]at c;subst c;exact h0J (t:=e++t) (by rw[b,d];simp) (List.mem_append_right _ hp)
def VC.d0h {n:Nat}{H:I0}{S1:D0}(hs:∀k,S1 k->S k){v:V E.D}{c:List Value}(h:VC E ρ n H S v c):VC E ρ n H S1 v c:=h.mono (fun _ _=>rfl) (le_refl _) (P0.less hs)
def T0.d0h {n:Nat}{H:I0}{S1:D0}(hs:∀k,S1 k->S k){v:List (V E.D)}{c:List Value}(h:T0 E ρ n H S v c):T0 E ρ n H S1 v c:=h.mono (fun _ _=>rfl) (le_refl _) (P0.less hs)
def VS.d0h {n:Nat}{H:I0}{S1:D0}(hs:∀k,S1 k->S k){v:V E.D}{u:Value}(h:VS E ρ n H S v u):VS E ρ n H S1 v u:=h.mono (fun _ _=>rfl) (le_refl _) (P0.less hs)
def n0q (f:T1 E)(h:Rp E A s ρ S a as w){u:U}{v:V E.D}{s1:St E.D}{y:Den E.D u}(b:rdD E s u v=some (s1,y)):
  ∃S1,(∀k,S1 k->S k)/\Rp E A s1 ρ S1 a as w/\Ext s s1/\s1.fr=s.fr/\s1.nid=s.nid/\∀c,VC E ρ s.nid w.heap S v c->(J0 E u).R w.heap S1 c y:=by
 unfold rdD at b;split at b<;>try cases b
 rename_i s2 m;split at b<;>try cases b
 rename_i x j;obtain⟨S1,h1,g,l,i,e⟩:=a0g f _ s [v] s1 m S h;refine⟨S1,h1,g,l,i,e,fun c d=>?_⟩;rw[<-e]at d;exact g0J f g.th j (d.d0h h1)
def y0R {n:Nat}{u:U}(h:Nat.beq (K2 E u) n=true):K2 E u=n:=by rwa [beq_eq]at h
def s0L {u:U}{v:V E.D}{s1:St E.D}{y:Den E.D u}(b:rdD E s u v=some (s1,y)){id:Nat}(c:Q1 (F0 s1 id)=true):Q1 (F0 s id)=true:=by
 unfold rdD at b;split at b<;>try cases b
 rename_i s2 d;split at b<;>try cases b
 rw[b0g _ s _ s1 d id c];exact c
def y0r {l r:List (V E.D)}{t:U}{x:Den E.D t}(h:k0I E l=some (⟨t,x⟩,r)):l=.d t x :: r:=by
 unfold k0I at h;split at h
 ·simp only[Option.some.injEq,Prod.mk.injEq,Sigma.mk.injEq]at h;obtain⟨⟨rfl,h⟩,rfl⟩:=h;have h:=eq_of_heq h;subst h;rfl
 ·cases h
def K5.of {s1:St E.D}{v:V E.D}{u:Value}{w1:World}{S1 b:D0}(hs:∀k,S1 k->S k)(d:Rp E A s1 ρ b a as w1)(c:VS E ρ s1.nid w1.heap b v u)(hk:P0 w.heap S1 w1.heap b)(he:Ext s s1)(e:s1.fr=s.fr)(hm:∀k,k<w.heap.size->(∀q,q<s.nid->Q1 (F0 s q)=true->W6 s s1 q=true->¬Bk (ρ q) k)->w1.heap[k]?=w.heap[k]?):K5 E A s ρ S a as w s1 v u w1:=
 ⟨⟨ρ,b,d,c,(P0.less hs).trans hk⟩,he,e,hm⟩
def w0w {e sz b o m cap N off n T:Nat}{cs d1 d2 d3 c:List Value}{w:World}{z:Value}(C:0<m)(d:Row w.heap e sz (.slice (some ⟨b,o,none⟩) m cap) N cs)(q:cs=d1++(d2++d3))(x:d1.length=off)(y:d2.length=n)
  (t:H5 E T=some n) (h:z.cells=c.toArray) (hlen:c.length=n) (r:∀v∈c,v.oneCell'=true):
  ∃w1,(Instr.storeAt T (.pointer (some ⟨b,o+off,none⟩)) z).run E.P w=.ok () w1/\j5 b w w1/\Row w1.heap e sz (.slice (some ⟨b,o,none⟩) m cap) N (d1++(c++d3)):=by
 obtain⟨p,d⟩:=d;rcases d with⟨_,_,f⟩|⟨g,cap',cur,f,hp0,hg,hnc,hmx,hcz,htk⟩
 ·simp at f;omega
 ·simp at f;obtain⟨⟨e1,U⟩,e3,R⟩:=f;subst e1;subst U;subst e3;subst R;have i:cur.toList=cs++cur.toList.drop (m*sz):=by rw[<-htk,take_append_drop]
  have k:w.heap[b]?=some (.cells (d1++(d2++(d3++cur.toList.drop (m*sz)))).toArray e (0,0)):=by
   rw[hg];have J:cur.toList=d1++(d2++(d3++cur.toList.drop (m*sz))):=by
    refine i.trans ?_;generalize cur.toList.drop (m*sz)=q1;rw[q];simp
   rw[<-J]
  obtain⟨w1,j,I,u⟩:=o0Q t h hlen r k x y;have l:(d1++(c++d3)).length=m*sz:=by rw[<-p,q];simp;omega
  refine⟨w1,by rw[zero_add];exact j,I,l,.inr ⟨b,cap,_,rfl,hp0,u,hnc,hmx,?_,?_⟩⟩
  ·have e5:=congrArg List.length i;simp only[length_append,Array.length_toList,hcz,p]at e5;simp only[length_append]at l;simp only[List.size_toArray,length_append];omega
  ·rw[List.toList_toArray];have:d1++(c++(d3++cur.toList.drop (m*sz)))=(d1++(c++d3))++cur.toList.drop (m*sz):=X'
   rw[this,List.take_append_of_le_length O',List.take_of_length_le O']
def E5.store (hE:T1 E){e b o m cap n T:Nat}{d I:U}{xs:List (Den E.D d)}{q:List B6}{y:Den E.D I}{x:Den E.D d}{c:List Value}{w:World}{uv:Value}{i:Int}(hL:E5 E w.heap S e d xs (.slice (some ⟨b,o,none⟩) m cap))(h0:0<=i)(hm:i<m)
  (u:b07 E I y q d (E6 E d xs i)=some x) (b1:a8 q) (hy:(J0 E I).R w.heap S c y) (b2:K2 E I=n) (a1:H5 E T=some n) (g:uv.cells=c.toArray) (hlen:c.length=n) (C:∀v∈c,v.oneCell'=true) (hS:S b):
  ∃w1,(Instr.storeAt T (.pointer (some ⟨b,o+i.toNat*K2 E d+D4 q,none⟩)) uv).run E.P w=.ok () w1/\j5 b w w1/\P0 w.heap S w1.heap S/\E5 E w1.heap S e d (xs.set i.toNat x) (.slice (some ⟨b,o,none⟩) m cap):=by
 obtain⟨cs,f,h⟩:=hL;obtain⟨rfl,_,_⟩:=Row.cell f O';have hi:i.toNat<xs.length:=O'
 have p:=a0r (E:=E) (t:=d) (xs:=xs) h0 hm;obtain⟨e1,e2,J,b4,hle,r,z⟩:=k0b hE q d _ x _ u b1 (h.2 _ _ p);have b3:=f.1;have b6:i.toNat*(J0 E d).sz+(J0 E d).sz<=xs.length*(J0 E d).sz:=by rw[<-succ_mul];exact mul_le_mul_right _ hi
 have b5:cs=(cs.take (i.toNat*(J0 E d).sz)++e1)++(e2++(J++(cs.drop (i.toNat*(J0 E d).sz)).drop (J0 E d).sz)):=by
  have:cs=cs.take (i.toNat*(J0 E d).sz)++((e1++(e2++J))++(cs.drop (i.toNat*(J0 E d).sz)).drop (J0 E d).sz):=by
   rw[<-b4,take_append_drop,take_append_drop]
  conv=>lhs;rw[this]
  simp
 have hL:(cs.take (i.toNat*(J0 E d).sz)).length=i.toNat*(J0 E d).sz:=by rw[length_take,b3];omega
 obtain⟨w1,l,ho,k⟩:=w0w (off:=i.toNat*K2 E d+D4 q) O' f b5 (by rw[length_append,hL,hle];rfl) (by rw[r,b2]) a1 g hlen C;have kp:=ho.L0 hS;have j:=s0Y (i:=i.toNat) (h.L0 kp) hi ((J0 E d).L0 kp (z c hy));refine⟨w1,by rw[Nat.add_assoc];exact l,ho,kp,_,?_,j⟩;rw[length_set];have:cs.take (i.toNat*(J0 E d).sz)++e1++(c++(J++(cs.drop (i.toNat*(J0 E d).sz)).drop (J0 E d).sz))=cs.take (i.toNat*(J0 E d).sz)++((e1++(c++J))++(cs.drop (i.toNat*(J0 E d).sz)).drop (J0 E d).sz):=X'
 rw[<-this];exact k
def w0j:∀{ts:List U} {h c:HL E.D ts} {j:Nat} {f:(t:U)->Den E.D t->Option (Den E.D t)},a00 ts h j f=some c->∃t y d,I5 ts h j=some ⟨t,y⟩/\f t y=some d/\I5 ts c j=some ⟨t,d⟩/\∀b,b≠j->I5 ts c b=I5 ts h b
 |[],_,_,_,_,hs=>by simp[a00]at hs
 |t :: ts,hh,c,0,f,hs=>by
  simp only[a00]at hs;split at hs<;>try cases hs
  rename_i y e;refine⟨t,hh.1,y,rfl,e,rfl,fun b g=>?_⟩;cases b with
  |zero=>exact absurd rfl g
  |succ b=>rfl
 |t :: ts,hh,c,j+1,f,hs=>by
  simp only[a00]at hs;split at hs<;>try cases hs
  rename_i o e;obtain⟨k,y,d,m,l,n,i⟩:=w0j e;refine⟨k,y,d,m,l,n,fun b g=>?_⟩;cases b with
  |zero=>rfl
  |succ b=>exact i b O'
def q0a (l:T1 E){t:U}{x x':Den E.D t}{f:Nat}{g:(u:U)->List (Den E.D u)->Option (List (Den E.D u))}(h:setRow E t x f g=some x'):
  ∃u ys c,V2 E t x f=some ⟨u,ys⟩/\g u ys=some c/\V2 E t x' f=some ⟨u,c⟩/\∀b,b≠f->V2 E t x' b=V2 E t x b:=by
 cases t with
 |list u=>
  have h:o0b g u x f=some x':=h;unfold o0b at h;split at h<;>try cases h
  refine⟨u,x,x',rfl,h,rfl,fun b e=>?_⟩;cases b with
  |zero=>exact absurd rfl e
  |succ b=>rfl
 |st k=>
  have h:n0K E k (a00 (E.fs k) (E.un k x) f (r07 g))=some x':=h;unfold n0K at h;split at h<;>try cases h
  rename_i j hs;obtain⟨n,y,i,o,d,p,m⟩:=w0j hs;cases n with
  |list u=>
   have d:g u y=some i:=d;exact⟨u,y,i,(show c0N (I5 (E.fs k) (E.un k x) f)=_ by rw[o];rfl),d,(show c0N (I5 (E.fs k) (E.un k (E.mkS k j)) f)=_ by rw[l.unmk,p];rfl),fun b e=>(show c0N (I5 (E.fs k) (E.un k (E.mkS k j)) b)=c0N (I5 (E.fs k) (E.un k x) b) by rw[l.unmk,m b e])⟩
  |_=>exact absurd (show none=some i from d) X'
 |_=>exact absurd (show none=some x' from h) X'
def w0H {F:List Nat}{i f d c:Nat}(e:f<F.length)(b:c<F.length)(h:rowAt F i f=rowAt F d c):i=d/\f=c:=by
 unfold rowAt at h;have hp:0<F.length:=O'
 have g:=congrArg (· / F.length) h;have a2:=congrArg (· % F.length) h;simp only[mul_comm _ F.length,Nat.mul_add_div hp,Nat.mul_add_mod,Nat.div_eq_of_lt e,Nat.div_eq_of_lt b,Nat.mod_eq_of_lt e,Nat.mod_eq_of_lt b]at g a2;omega
def r0L {D:Nat->Type}{q r f:Nat}{i:Int}:∀{l:List (Nat×Th D)},(r,Th.rof q i f)∈l->r∈X9 q l
 |[],h=>by cases h
 |(r',x) :: l,h=>by
  rcases mem_cons.1 h with h|h
  ·cases h;simp[X9]
  ·have b:=r0L h;cases x with
   |rof q' i' f'=>
    simp only[X9];split
    ·exact mem_cons_of_mem _ b
    ·exact b
   |_=>exact b
def v0v {α:Type}:∀{l:List (Nat×α)} {k:Nat} {v:α},F4 l k=some v->(k,v)∈l
 |[],k,v,h=>by simp[F4]at h
 |(j,x) :: l,k,v,h=>by
  rw[a0X]at h;split at h
  ·rename_i e;cases h;subst e;simp
  ·exact mem_cons_of_mem _ (v0v h)
def j0H {D:Nat->Type}{s:St D}{r q f:Nat}{i:Int}(h:F0 s r=.rof q i f):r∈X9 q s.th:=by
 unfold F0 at h;split at h
 ·rename_i x b;subst h;exact r0L (v0v b)
 ·cases h
def d0K {D:Nat->Type}:∀(l:List Nat) (s:St D) (j:Nat),F0 (Z0 s l) j=if j∈l then .gone else F0 s j
 |[],s,j=>by simp[Z0]
 |i :: l,s,j=>by
  have c:=d0K l (s.at i .gone) j;rw[show Z0 s (i :: l)=Z0 (s.at i .gone) l from rfl,c];have:F0 (s.at i .gone) j=if i=j then .gone else F0 s j:=by
   unfold F0 St.at;simp only[a0X]
   by_cases h:i=j<;>simp[h]
  rw[this]
  by_cases h1:j∈l
  ·simp[h1]
  ·by_cases b:i=j
   ·simp[b]
   ·have:¬j=i:=fun e=>b e.symm;simp[h1,b,this]
def a0q {D:Nat->Type}:∀(l:List Nat) (s:St D),(Z0 s l).nid=s.nid/\(Z0 s l).fr=s.fr/\(Z0 s l).n=s.n/\(Z0 s l).stk=s.stk/\∃t,(Z0 s l).th=t++s.th
 |[],s=>⟨rfl,rfl,rfl,rfl,[],rfl⟩
 |i :: l,s=>by
  obtain⟨h1,d,b,c,t,e⟩:=a0q l (s.at i .gone);exact⟨h1,d,b,c,t++[(i,.gone)],by show(Z0 (s.at i .gone) l).th=_;rw[e];simp[St.at]⟩
def Ext.Z0 {D:Nat->Type}(s:St D)(l:List Nat):Ext s (Z0 s l):=by
 obtain⟨h1,d,b,c,t,e⟩:=a0q l s;exact⟨b,⟨[],by rw[d];rfl⟩,⟨t,e⟩,c,by rw[h1];exact le_refl _⟩
def Rp.r01 (h:Rp E A s ρ S a as w){id:Nat}{x:Th E.D}{v:Value}{G:List Nat}{S1:D0}{w1:World}(d:Q1 (F0 s id)=true)(R:hd v=hd (ρ id))(cx:Cx A.w0 A.W0 A.S0 w1 S1)(kp:P0 w.heap S w1.heap S1)(hs:∀k,S k->S1 k)
  (hb:∀k,k<w.heap.size->¬Bk (ρ id) k->w1.heap[k]?=w.heap[k]?) (hB:∀k,Bk v k->Bk (ρ id) k\/∃r∈G,Q1 (F0 s r)=true/\Bk (ρ r) k)
  (hx:K3 E (C6 ρ id v) s.nid w1.heap S1 x v) (b1:∀r i f,F0 s r=.rof id i f->r∈G) (a1:∀q i f,x≠.rof q i f):Rp E A ((Z0 s G).at id x) (C6 ρ id v) S1 a as w1:=by
 obtain⟨g1,g2,g3,g4,t,g5⟩:=a0q G s;have b3:=h.i7 (id:=id) (by rintro e;rw[e]at d;cases d);have e0:(Z0 s G).at id x={ s with th:=(id,x) :: (t++s.th),nid:=s.nid }:=by
  unfold St.at;rw[g5];cases hh:Z0 s G;rw[hh]at g1 g2 g3 g4;simp at g1 g2 g3 g4;simp[g1,g2,g3,g4]
 have hl:∀j,F0 ((Z0 s G).at id x) j=if id=j then x else if j∈G then .gone else F0 s j:=fun j=>by rw[T8,d0K]
 rw[e0]at hl ⊢;have c:∀j,j≠id->j∉G->j<s.nid->b0V s { s with th:=(id,x) :: (t++s.th),nid:=s.nid } ρ (C6 ρ id v) S1 w w1 j:=fun j l hg n=>
  ⟨by rw[hl,if_neg (Ne.symm l),if_neg hg],n,n5 l,fun b k hk=>⟨hb k ((h.th j).live b k hk) (fun U=>h.dj id j (Ne.symm l) d b k U hk),hs k (h.ow j b k hk).1⟩⟩
 refine h.step (nid1:=s.nid) ⟨cx,kp,fun i _=>?_,le_refl _⟩ (fun j=>?_) fun r q i f g e F t xs z=>?_
 ·by_cases e:i=id
  ·subst e;rw[W4,R]
  ·rw[n5 e]
 ·by_cases e:id=j
  ·subst e;refine .inr ⟨by rw[hl,if_pos rfl,W4];exact hx,fun _ k hk=>?_,fun hle=>O'⟩;rw[W4]at hk;have key:∃p,Q1 (F0 s p)=true/\Bk (ρ p) k/\(p=id\/p∈G):=by
    rcases hB k hk with h1|⟨r,h1,y,m⟩
    ·exact⟨id,d,h1,.inl rfl⟩
    ·exact⟨r,y,m,.inr h1⟩
   obtain⟨p,h1,y,m⟩:=key;have h4:=h.ow p h1 k y;refine⟨⟨hs k h4.1,h4.2⟩,fun j l b u=>?_⟩;rw[hl,if_neg (fun e=>l e.symm)]at b;split at b
   ·cases b
   ·rename_i hg;rw[n5 l]at u;refine h.dj p j ?_ h1 b k y u
    rintro rfl
    rcases m with m|m
    ·exact l m
    ·exact hg m
  ·by_cases n:j<s.nid
   ·by_cases hg:j∈G
    ·rw[hl,if_neg e,if_pos hg];exact .inr ⟨trivial,(fun C=>by cases C),fun _=>rfl⟩
    ·exact .inl (c j (fun h=>e h.symm) hg n)
   ·rw[hl,if_neg e];have:(if j∈G then Th.gone else F0 s j)=.gone:=by
     split
     ·rfl
     ·exact h.lt j O'
    rw[this];exact .inr ⟨trivial,(fun C=>by cases C),fun _=>rfl⟩
 ·rw[hl]at g;split at g
  ·exact absurd g (a1 q i f)
  ·rename_i b2;split at g
   ·cases g
   ·rename_i hg;have J:=h.c0a g;rw[hl]at z;split at z
    ·rename_i U;subst U;exact absurd (b1 r i f g) hg
    ·rename_i o;split at z
     ·cases z
     ·rename_i I;exact .inl ⟨c r (Ne.symm b2) hg (h.i7 (by rw[g];simp)),c q (Ne.symm o) I J⟩
def Rp.take (h:Rp E A s ρ S a as w){x:Th E.D}{v:Value}{G:List Nat}{S1:D0}{w1:World}(cx:Cx A.w0 A.W0 A.S0 w1 S1)(kp:P0 w.heap S w1.heap S1)(hs:∀k,S k->S1 k)
  (hb:∀k,k<w.heap.size->(∀j∈G,Q1 (F0 s j)=true->¬Bk (ρ j) k)->w1.heap[k]?=w.heap[k]?) (hB:∀k,Bk v k->Q1 x=true->S1 k/\((∃j∈G,Q1 (F0 s j)=true/\Bk (ρ j) k)\/w.heap.size<=k))
  (hx:K3 E (C6 ρ s.nid v) (s.nid+1) w1.heap S1 x v) (I:∀q i f,x≠.rof q i f):Rp E A ((Z0 s G).new x) (C6 ρ s.nid v) S1 a as w1:=by
 obtain⟨g1,g2,g3,g4,t,g5⟩:=a0q G s;have e0:(Z0 s G).new x={ s with th:=(s.nid,x) :: (t++s.th),nid:=s.nid+1 }:=by
  unfold St.new;rw[g5,g1];cases hh:Z0 s G;rw[hh]at g1 g2 g3 g4;simp at g1 g2 g3 g4;simp[g2,g3,g4]
 have hl:∀j,F0 ((Z0 s G).new x) j=if s.nid=j then x else if j∈G then .gone else F0 s j:=fun j=>by rw[l0N,d0K,g1]
 rw[e0]at hl ⊢;have c:∀j,j∉G->j<s.nid->b0V s { s with th:=(s.nid,x) :: (t++s.th),nid:=s.nid+1 } ρ (C6 ρ s.nid v) S1 w w1 j:=fun j hg l=>
  ⟨by rw[hl,if_neg O',if_neg hg],l,n5 O',fun b k hk=>⟨hb k ((h.th j).live b k hk) (fun R C J y=>h.dj R j (fun e=>hg (e▸C)) J b k y hk),hs k (h.ow j b k hk).1⟩⟩
 refine h.step (nid1:=s.nid+1) ⟨cx,kp,fun i hi=>by rw[n5 O'],le_succ _⟩ (fun j=>?_) fun r q i f d e F t xs U=>?_
 ·by_cases e:s.nid=j
  ·subst e;refine .inr ⟨by rw[hl,if_pos rfl,W4];exact hx,fun m k hk=>?_,fun hle=>O'⟩;rw[hl,if_pos rfl]at m;rw[W4]at hk;obtain⟨k1,n⟩:=hB k hk m;refine⟨⟨k1,?_⟩,fun j hj b g=>?_⟩
   ·rcases n with⟨j,_,z,o⟩|n
    ·exact(h.ow j z k o).2
    ·exact⟨fun h0=>by have:=h.cx.lt0 k h0;have:=h.cx.size;omega,.inr (by have:=h.cx.size;omega)⟩
   ·rw[hl,if_neg (fun e=>hj e.symm)]at b;split at b
    ·cases b
    ·rename_i hg;rw[n5 hj]at g;rcases n with⟨R,z,o,k5⟩|n
     ·exact h.dj R j (fun e=>hg (e▸z)) o b k k5 g
     ·have:=(h.th j).live b k g;omega
  ·by_cases l:j<s.nid
   ·by_cases hg:j∈G
    ·rw[hl,if_neg e,if_pos hg];exact .inr ⟨trivial,(fun m=>by cases m),fun _=>rfl⟩
    ·exact .inl (c j hg l)
   ·rw[hl,if_neg e];have:(if j∈G then Th.gone else F0 s j)=.gone:=by
     split
     ·rfl
     ·exact h.lt j O'
    rw[this];exact .inr ⟨trivial,(fun m=>by cases m),fun _=>rfl⟩
 ·rw[hl]at d;split at d
  ·exact absurd d (I q i f)
  ·split at d
   ·cases d
   ·rename_i hg;have u:=h.c0a d;rw[hl,if_neg O']at U;split at U
    ·cases U
    ·rename_i p;exact .inl ⟨c r hg (h.i7 (by rw[d];simp)),c q p u⟩
def G03 {s1 s2:St E.D}{q:Nat}(h:W6 s1 s2 q=true)(he:Ext s s1)(k:Ext s1 s2):W6 s s2 q=true:=by
 obtain⟨t,e⟩:=he.th;obtain⟨d,b⟩:=k.th;unfold W6 at h;rw[b,length_append,add_sub_cancel,take_left' rfl]at h;obtain⟨p,hp,c⟩:=any_eq_true.1 h;rw[beq_eq]at c;subst c;exact h0J (t:=d++t) (by rw[b,e];simp) (List.mem_append_left _ hp)
def B05 {G:List Nat}{j:Nat}(d:j∈G):∀s:St E.D,W6 s (Z0 s G) j=true:=by
 induction G with
 |nil=>cases d
 |cons i r ih=>
  intro s;rcases mem_cons.1 d with rfl|h
  ·exact g0S (s1:=s.at j .gone) (f0g s) (Ext.at s j _) (Ext.Z0 _ r)
  ·obtain⟨t,e⟩:=(Ext.Z0 (s.at i .gone) r).th;have b:=ih h (s.at i .gone);unfold W6 at b;rw[e,length_append,add_sub_cancel,take_left' rfl]at b;obtain⟨p,hp,c⟩:=any_eq_true.1 b;rw[beq_eq]at c;subst c;exact h0J (t:=t++[(i,.gone)]) (by show(Z0 (s.at i .gone) r).th=_;rw[e];simp[St.at]) (List.mem_append_left _ hp)
def F0V {G:List Nat}{j:Nat}{x:Th E.D}(b:j∈G):W6 s ((Z0 s G).new x) j=true:=g0S (B05 b s) (Ext.Z0 s G) (Ext.new _ _)
def Rp.t03 (h:Rp E A s ρ S a as w){x:Th E.D}{v:Value}(z:∀k,Bk v k->Q1 x=true->(S k/\¬A.S0 k/\Wr A.W0 A.w0 k)/\∀j,Q1 (F0 s j)=true->¬Bk (ρ j) k)
  (C:K3 E (C6 ρ s.nid v) (s.nid+1) w.heap S x v) (n:∀q i f,x=.rof q i f->q<s.nid/\∀e F t xs,F0 s q=.X0 e F t xs none->b06 w.heap (hd (ρ q)) F.length i f v):Rp E A (s.new x) (C6 ρ s.nid v) S a as w:=by
 have hl:∀j,F0 { s with th:=(s.nid,x) :: s.th,nid:=s.nid+1 } j=if s.nid=j then x else F0 s j:=fun j=>l0N s j x;have b:∀j,j<s.nid->b0V s { s with th:=(s.nid,x) :: s.th,nid:=s.nid+1 } ρ (C6 ρ s.nid v) S w w j:=fun j d=>
  ⟨by rw[hl,if_neg O'],d,n5 O',fun c k hk=>⟨rfl,(h.ow j c k hk).1⟩⟩
 refine h.step (nid1:=s.nid+1) ⟨h.cx,P0.refl _ _,fun i hi=>by rw[n5 O'],le_succ _⟩ (fun j=>?_) fun r q i f g e F t xs p=>?_
 ·by_cases e:s.nid=j
  ·subst e;refine .inr ⟨by rw[hl,if_pos rfl,W4];exact C,fun m k hk=>?_,fun hle=>O'⟩;rw[hl,if_pos rfl]at m;rw[W4]at hk;obtain⟨I,J⟩:=z k hk m;refine⟨I,fun j u c l=>?_⟩;rw[hl,if_neg (fun e=>u e.symm)]at c;rw[n5 u]at l;exact J j c l
  ·by_cases d:j<s.nid
   ·exact .inl (b j d)
   ·rw[hl,if_neg e,h.lt j O'];exact .inr ⟨trivial,(fun m=>by cases m),fun _=>rfl⟩
 ·rw[hl]at g;split at g
  ·rename_i y;subst y;obtain⟨h1,R⟩:=n q i f g;rw[hl,if_neg O']at p;refine .inr ?_;rw[n5 O',W4];exact R e F t xs p
  ·have o:=h.c0a g;rw[hl,if_neg O']at p;exact .inl ⟨b r (h.i7 (by rw[g];simp)),b q o⟩
def e0u {id e:Nat}{F:List Nat}{o:Option (Int×Nat)}{t:U}{xs:List (Den E.D t)}(h:c0X E s id=some (e,F,o,⟨t,xs⟩)):F0 s id=.X0 e F t xs o:=by
 unfold c0X at h;split at h
 ·rename_i hl;simp only[Option.some.injEq,Prod.mk.injEq,Sigma.mk.injEq]at h;obtain⟨rfl,rfl,rfl,rfl,h⟩:=h;have h:=eq_of_heq h;subst h;exact hl
 ·cases h
def t0Z:∀{l:List U} {f:Nat},b0B l=true->f<l.length->c0g E l f=f
 |[],f,_,b=>by simp at b
 |t :: l,0,_,_=>rfl
 |t :: l,f+1,hb,b=>by
  simp only[b0B,and_eq_true]at hb;obtain⟨d,c⟩:=hb;cases t<;>simp only[i0f,Bool.false_eq_true]at d
  simp only[c0g];rw[t0Z c (by simpa using b)];exact Nat.add_comm 1 f
def r0f {D:Nat->Type}:∀{l:List U} {h:HL D l} {f:Nat} {t:U} {y:Den D t},I5 l h f=some ⟨t,y⟩->j0F l f=some t/\f<l.length
 |[],_,f,_,_,h=>by simp[I5]at h
 |t :: l,h,0,_,_,hg=>by
  simp only[I5,Option.some.injEq,Sigma.mk.injEq]at hg;obtain⟨rfl,_⟩:=hg;exact⟨rfl,X'⟩
 |t :: l,h,f+1,_,_,hg=>by
  obtain⟨h1,b⟩:=r0f (l:=l) hg;exact⟨h1,by simpa using b⟩
def w01 {t u w':U}{x:Den E.D t}{f:Nat}{ys:List (Den E.D w')}(h:q0H E t f=some u)(b:V2 E t x f=some ⟨w',ys⟩):w'=u:=by
 cases t<;>simp only[q0H]at h<;>try cases h
 ·rename_i t;cases f<;>simp only at h<;>try cases h
  exact(congrArg Sigma.fst (Option.some.inj (show some _=some _ from b))).symm
 ·rename_i k;split at h<;>try cases h
  rename_i c;have b:c0N (I5 (E.fs k) (E.un k x) f)=some ⟨w',ys⟩:=b;cases hg:I5 (E.fs k) (E.un k x) f with
  |none=>rw[hg]at b;cases b
  |some p=>
   obtain⟨d,y⟩:=p;rw[hg]at b;have:=(r0f hg).1;rw[c]at this;cases this;exact(congrArg Sigma.fst (Option.some.inj b)).symm
def u0C {t:U}{F:List Nat}{q:List B6}{f:Nat}(b:C9 E t F=true)(h:i02 E t q=some f)(g:f<F.length):D4 q=f:=by
 simp only[C9,and_eq_true,beq_eq]at b;obtain⟨⟨_,d⟩,c⟩:=b;unfold i02 at h;split at h<;>try cases h
 ·rfl
 ·rename_i k i o;split at h<;>try cases h
  rename_i e;rw[beq_eq]at e;simp only[n05]at d;have:=t0Z (E:=E) c (f:=f) O';simp only[D4,Nat.add_zero];omega
def r0D (h:Rp E A s ρ S a as w){e:Nat}{u:U}{v:V E.D}{k:Value}(n:VS E ρ s.nid w.heap S v k){g:Option Nat}{ys:List (Den E.D u)}(c:g0u E s e u v=some (g,ys)):
  E5 E w.heap S e u ys k/\k.oneCell'=true/\(match g with|none=>k=z7|some j=>ρ j=k/\∃l b,F0 s j=.lst e l b):=by
 cases v with
 |nil=>
  simp only[g0u,Option.some.injEq,Prod.mk.injEq]at c;obtain⟨rfl,rfl⟩:=c;obtain rfl:=n.b0q;exact⟨⟨[],⟨X',.inl ⟨rfl,none,rfl⟩⟩,R1.nil⟩,rfl,rfl⟩
 |sl j=>
  simp only[g0u]at c;split at c<;>try cases c
  rename_i e' l b hl;split at c<;>try cases c
  rename_i i m;rw[beq_eq]at i;subst i;obtain⟨o,m⟩:=a0u m;subst o;subst m;have hl:=j0O hl;have f:=h.th j;rw[hl]at f;obtain⟨_,rfl⟩:=n.a0m;have f:E5 E w.heap S e l b (ρ j):=f;obtain⟨q,c',d⟩:=f.form;have p:hd (ρ j)=ρ j:=by rw[d];rfl
  rw[p];exact⟨f,by rw[d];rfl,rfl,l,b,hl⟩
 |_=>simp[g0u]at c
def Rp.m0m (h:Rp E A s ρ S a as w){r0 e f:Nat}{j:Int}{F:List Nat}{t0:U}{xs:List (Den E.D t0)}{g:Value}(u:F0 s r0=.X0 e F t0 xs none)(l:b06 w.heap (hd (ρ r0)) F.length j f g):
  ∃cs,v7 E w.heap S e F t0 xs none (ρ r0) cs/\(0<=j/\j<xs.length)/\f<F.length/\cs[rowAt F j.toNat f]?=some g/\(Go.X.tl (ρ r0))[rowAt F j.toNat f]?=some g:=by
 obtain⟨t,x,m2,c2,v,n,r,i⟩:=l;have b:=h.th r0;rw[u]at b;obtain⟨cs,b⟩:=b;have d:=b.row;rw[v]at d;obtain⟨rfl,_,_,c⟩:=Row.cell d O';have k:j.toNat<xs.length:=by have:=n.2;have:=n.1;omega
 have p:rowAt F j.toNat f<xs.length*(J0 E t0).sz:=by
  rw[(d0C b.ok).1];unfold rowAt;have:j.toNat*F.length+F.length<=xs.length*F.length:=by rw[<-succ_mul];exact mul_le_mul_right _ k
  omega
 have m:=c w.heap rfl _ p;have i:O1 w.heap t (x+rowAt F j.toNat f)=some g:=i;rw[i]at m;have q:=e0P (o:=none) r X' m.symm X';rw[<-b.tl]at q;exact⟨cs,b,n,r,m.symm,q⟩
def Rp.w0u (h:Rp E A s ρ S a as w){w1:World}{r0 e f e':Nat}{j:Int}{F:List Nat}{t0 u:U}{xs:List (Den E.D t0)}{x:Den E.D t0}{I:List (Den E.D u)}{n:Value}(hq:F0 s r0=.X0 e F t0 xs none)(b1:b06 w.heap (hd (ρ r0)) F.length j f n)
  (q:V2 E t0 x f=some ⟨u,I⟩) (R:∀c,c≠f->V2 E t0 x c=V2 E t0 (E6 E t0 xs j) c) (b3:F[f]?=some e') (hb:∀k,k<w.heap.size->B1 n≠some k->w1.heap[k]?=w.heap[k]?) (cx:Cx A.w0 A.W0 A.S0 w1 S) (kp:P0 w.heap S w1.heap S) (hL:E5 E w1.heap S e' u I n):
  Rp E A (s.at r0 (.X0 e F t0 (xs.set j.toNat x) none)) ρ S a as w1:=by
 obtain⟨cs,d,k2,k3,h5,h8⟩:=h.m0m hq b1;have l:Q1 (F0 s r0)=true:=by rw[hq];rfl
 have C:=a0r (E:=E) (t:=t0) (xs:=xs) k2.1 k2.2;have b6:j.toNat<xs.length:=by have:=k2.2;have:=k2.1;omega
 have b8:∀(p:Nat) (r':Value),(Go.X.tl (ρ r0))[p]?=some r'->p≠rowAt F j.toNat f->∀b,B1 r'=some b->B1 n≠some b:=fun p r' hp b9 b b5 b2=>
  d.ap (p+1) (rowAt F j.toNat f+1) r' n O' (by simpa using hp) (by simpa using h8) b b5 b2
 have i:∀b',B1 (hd (ρ r0))=some b'->w1.heap[b']?=w.heap[b']?:=fun b' g=>hb b' (Row.live d.row b' g) (fun hk=>d.ap 0 (rowAt F j.toNat f+1) (hd (ρ r0)) n O' rfl (by simpa using h8) b' g hk);refine h.turn (w1:=w1) (S1:=S) (id:=r0) (v:=ρ r0) (x:=.X0 e F t0 (xs.set j.toNat x) none) (h.i7 (by rw[hq];simp)) l cx kp (fun _ h=>h) (fun k' b4 hn=>hb k' b4 (fun e=>hn (Bk.tl (mem_of_getElem? h8) e))) rfl (fun k hk=>(h.ow r0 l k hk).1) ?_ (by intros;simp) ?_
 ·refine⟨cs,by rw[length_set];exact Row.mono i d.row,d.tl,d.ok,d.bd,fun m x' c u' r J g1 g2 g3 g4=>?_,d.one,d.ap⟩;have a1:c<F.length:=(List.getElem?_eq_some_iff.1 g3).1;have old:∀x0,xs[m]?=some x0->V2 E t0 x0 c=some ⟨u',r⟩->(m≠j.toNat\/c≠f)->∃r',cs[rowAt F m c]?=some r'/\E5 E w1.heap S J u' r r':=by
   intro x0 q1 q2 q3;obtain⟨r',p1,p2⟩:=d.rows m _ c u' r J q1 q2 g3 X';have p8:=e0P (o:=none) a1 X' p1 X';rw[<-d.tl]at p8;refine⟨r',p1,p2.mono kp fun b' g=>hb b' (by obtain⟨_,z,_⟩:=p2;exact Row.live z b' g) (b8 _ r' p8 (fun e=>?_) b' g)⟩;obtain⟨e3,e4⟩:=w0H a1 k3 e;rcases q3 with q3|q3
   ·exact q3 e3
   ·exact q3 e4
  by_cases hi:m=j.toNat
  ·subst hi;rw[List.getElem?_set_self b6]at g1;obtain rfl:=Option.some.inj g1
   by_cases y:c=f
   ·subst y;rw[q]at g2;obtain⟨rfl,g2⟩:=Sigma.mk.inj (Option.some.inj g2);have g2:=eq_of_heq g2;subst g2;rw[b3]at g3;obtain rfl:=Option.some.inj g3;exact⟨n,h5,hL⟩
   ·rw[R c y]at g2;exact old _ C g2 (.inr y)
  ·rw[List.getElem?_set_ne (Ne.symm hi)]at g1;exact old _ g1 g2 (.inl hi)
 ·intro e' F' t' c0 J r' m c b7;simp only[Th.X0.injEq]at J;obtain⟨_,rfl,_,_,_⟩:=J;obtain⟨b',o',m',c',p1,p2,p3,p4⟩:=h.rf r' r0 m c b7 e F t0 xs hq;refine⟨b',o',m',c',p1,p2,p3,?_⟩;rw[<-p4];unfold O1;rw[i b' (by have:=d.row;rw[p1]at this ⊢;exact this.i0n O')]
def z0A (hE:T1 E)(h:Rp E A s ρ S a as w){R:Type}{k:K E R}{r:R}{T n id r0 f z:Nat}{j i:Int}{q:List B6}{v:V E.D}{up uv:Value}(c5:F0 s id=.rof r0 j f)(hp:VS E ρ s.nid w.heap S (.pe id i z q) up)(hv:VS E ρ s.nid w.heap S v uv)(c8:H5 E T=some n)(hn:vsz E v=n)(b6:c0O v=true)(hk:l03 E s n r0 j f i z q v k=some r):
  ∃s1 v w1,k s1 v=some r/\K5 E A s ρ S a as w s1 v Go.undef w1/\(Instr.storeAt T up uv).run E.P w=.ok () w1:=by
 obtain⟨c,hc,l,c6,c7⟩:=hv.cells hE b6;have hlen:c.length=n:=(i01 hE c7 b6).trans hn;obtain⟨h4,e3,b,o,m,e7,hr,⟨h0,hm⟩,hu⟩:=hp.d0e;unfold l03 at hk;split at hk<;>try cases hk
 rename_i tt _ h9;split at hk<;>try cases hk
 rename_i u2 j0 i1;split at hk<;>try cases hk
 rename_i s1 y d;split at hk<;>try cases hk
 rename_i e F t0 xs a1;split at hk<;>try cases hk
 rename_i x b7;obtain⟨S1,e6,h2,he,hf,b3,e5⟩:=n0q hE h d;have U:=e0u a1;have e2:∀g,Q1 (F0 s1 g)=true->F0 s g=F0 s1 g:=fun g ho=>by
  unfold rdD at d;split at d<;>try cases d
  rename_i s2 hf;split at d<;>try cases d
  exact b0g _ s _ s1 hf g ho
 have J:F0 s r0=.X0 e F t0 xs none:=by rw[e2 r0 (by rw[U];rfl),U]
 obtain⟨u,ys,e9,p,hg,t,c0⟩:=q0a hE b7;split at hg<;>try cases hg
 rename_i x2 c4 C;rw[and_eq_true,beq_eq,beq_eq]at c4;obtain⟨rfl,c9⟩:=c4;have b2:b0A E s r0 j f=some ⟨u,ys⟩:=by unfold b0A;rw[J];exact p
 obtain⟨_,e1,_,_⟩:=h.i0w c5 b2;have b4:=h.rf id r0 j f c5 e F t0 xs J;obtain⟨cs,ht,k2,k3,h5,h8⟩:=h2.m0m U b4;rw[e1]at hr;obtain⟨e',b8⟩:∃e',F[f]?=some e':=⟨_,List.getElem?_eq_getElem k3⟩
 obtain⟨h7,h6,hL⟩:=ht.rows j.toNat _ f u ys e' (a0r k2.1 k2.2) p b8 X';rw[h5]at h6;obtain rfl:=Option.some.inj h6;have I:B1 (ρ id)=some b:=by obtain⟨_,c3,_⟩:=hL;rw[hr]at c3 ⊢;exact c3.i0n O'
 have b5:Q1 (F0 s1 r0)=true:=by rw[U];rfl
 obtain⟨hS,h3,hW⟩:=h2.ow r0 b5 b (Bk.tl (mem_of_getElem? h8) I);rw[hr]at hL;obtain⟨w1,b1,ho,kp,b9⟩:=hL.store hE h0 hm C e3 (e5 c c7) c9 c8 l hlen c6 hS;rw[<-hr]at b9;exact⟨_,_,w1,hk,K5.of e6 (h2.w0u U b4 t c0 b8 (fun k hk hn=>ho.block k hk (fun e=>hn (by rw[I,e]))) (ho.cx h2.cx hW) kp b9) VS.unit kp (he.trans (Ext.at s1 r0 _)) hf (fun k hk e4=>ho.block k hk (fun e=>e4 r0 (by rw[<-b3];exact h2.i7 (by rw[U];simp)) (by rw[J];rfl) (i0c he) (Bk.tl (mem_of_getElem? h8) (by rw[I,e])))),by rw[hu];exact b1⟩
def H0t (hE:T1 E)(h:Rp E A s ρ S a as w){R:Type}{k:K E R}{r:R}{T id z:Nat}{i:Int}{q:List B6}{v:V E.D}{up y:Value}(hp:VS E ρ s.nid w.heap S (.pe id i z q) up)(hv:VS E ρ s.nid w.heap S v y)(l0:H5 E T=some 1)(hk:m05 E s id i z q v k=some r):
  ∃s1 v w1,k s1 v=some r/\K5 E A s ρ S a as w s1 v Go.undef w1/\(Instr.storeAt T up y).run E.P w=.ok () w1:=by
 obtain⟨n0,o5,b,o0,m,o4,hr,⟨h0,hm⟩,hu⟩:=hp.d0e;unfold m05 at hk;split at hk<;>try cases hk
 rename_i e F o t xs h6;split at hk<;>try cases hk
 rename_i f hz n4;split at hk<;>try cases hk
 rename_i u e' n3 k4;split at hk<;>try cases hk
 rename_i g ys n1;split at hk<;>try cases hk
 rename_i x j1;rw[beq_eq]at hz;subst hz;have hl:=e0u h6;have ht:=h.th id;rw[hl]at ht;obtain⟨cs,ht⟩:=ht;have hf:f<F.length:=(List.getElem?_eq_some_iff.1 k4).1;have j0:K2 E t=F.length:=(d0C ht.ok).1;have k3:=u0C ht.ok n4 hf;obtain⟨j2,b2,hg⟩:=r0D h hv n1;obtain⟨u',p5,l1,k6,b1,c4,k5⟩:=q0a hE j1;obtain rfl:=w01 n3 k6;obtain⟨ec,b1⟩:=a0u b1;obtain rfl:l1=ys:=b1.symm;have e6:=ht.row;rw[hr]at e6;obtain⟨rfl,p4,C,_⟩:=Row.cell e6 O';have k8:i.toNat<xs.length:=O'
 have c0:∀j g',o=some (j,g')->j=i/\g'=f:=by
  intro j g' ho;subst ho;unfold t0K at hk;simp only at hk;split at hk<;>rename_i a1
  ·split at a1<;>cases a1
  ·split at hk<;>rename_i h7
   ·split at a1
    ·rename_i h8;rw[beq_eq]at h8;simp only[Option.some.injEq]at a1;subst a1;exact⟨of_decide_eq_true h7,h8.symm⟩
    ·simp only[Option.some.injEq]at a1;subst a1;cases h7
   ·cases hk
 have b3:k ((H7 (d0c s g) id).at id (.X0 e F t (xs.set i.toNat x) none)) (.tup [])=some r:=by
  split at hk
  ·exact hk
  ·split at hk
   ·exact hk
   ·cases hk
 have c9:rowAt F i.toNat f<cs.length:=by
  rw[ht.sz];unfold rowAt;have:i.toNat*F.length+F.length<=xs.length*F.length:=by rw[<-succ_mul];exact mul_le_mul_right _ k8
  omega
 generalize b9:rowAt F i.toNat f=p at c9;have hT:∀p',p'≠p->(Go.X.tl (ρ id))[p']?=cs[p']?:=by
  intro p' n;rw[ht.tl];unfold d0v;split
  ·rfl
  ·rename_i j g' _;obtain⟨rfl,rfl⟩:=c0 _ _ rfl;rw[List.getElem?_set_ne (by rw[b9];exact Ne.symm n)]
 have l4:cs=cs.take p++([cs[p]]++cs.drop (p+1)):=by
  rw[List.singleton_append,List.getElem_cons_drop,take_append_drop]
 obtain⟨w1,j3,ho,b5⟩:=w0w (off:=p) (c:=[y]) O' e6 l4 (by rw[length_take];omega) rfl l0 (by rw[cells_one b2]) rfl (by simpa using b2);have k0:cs.take p++([y]++cs.drop (p+1))=cs.set p y:=by
  rw[List.singleton_append,List.set_eq_take_append_cons_drop,if_pos c9]
 rw[k0]at b5;have b6:Q1 (F0 s id)=true:=by rw[hl];rfl
 obtain⟨hS,o6,hW⟩:=h.ow id b6 b (Bk.hd (by rw[hr];exact C));have kp:=ho.L0 hS;have hblk:∀I,B1 y=some I->¬Bk (ρ id) I/\∃j,g=some j/\Q1 (F0 s j)=true/\Bk (ρ j) I:=by
  intro I d;cases g with
  |none=>
   have hg:y=z7:=hg;subst hg;cases d
  |some j=>
   obtain⟨n9,u9,y9,e5⟩:=hg;have k1:Q1 (F0 s j)=true:=by rw[e5];rfl
   have k2:Bk (ρ j) I:=Bk.hd (by rw[n9,(e04 b2).1];exact d);refine⟨h.dj j id ?_ k1 b6 I k2,j,rfl,k1,k2⟩
   rintro rfl
   rw[hl]at e5;cases e5
 have hG:∃G:List Nat,H7 (d0c s g) id=Z0 s G/\(∀r' i' f',F0 s r'=.rof id i' f'->r'∈G)/\∀j,g=some j->j∈G:=by
  cases g with
  |none=>exact⟨X9 id s.th,rfl,fun r' i' f' h4=>j0H h4,fun j hj=>by cases hj⟩
  |some j=>exact⟨j :: X9 id s.th,rfl,fun r' i' f' h4=>mem_cons_of_mem _ (j0H h4),fun j' hj=>by cases hj;simp⟩
 obtain⟨G,o2,l3,o1⟩:=hG;rw[o2]at b3;have c7:hd (Value.tuple (hd (ρ id) :: cs.set p y).toArray)=hd (ρ id):=rfl;have c6:Go.X.tl (Value.tuple (hd (ρ id) :: cs.set p y).toArray)=cs.set p y:=rfl;have hold:∀p' u',p'≠p->(cs.set p y)[p']?=some u'->(Go.X.tl (ρ id))[p']?=some u':=fun p' u' n U=>by
  rw[List.getElem?_set_ne (Ne.symm n)]at U;rw[hT p' n];exact U
 have b8:(cs.set p y)[p]?=some y:=List.getElem?_set_self c9;have c3:Ext s (Z0 s G):=Ext.Z0 s G;refine⟨_,_,w1,b3,⟨⟨_,S,h.r01 b6 c7 (ho.cx h.cx hW) kp (fun _ h=>h) (fun I d hn=>ho.block I d (fun e=>hn (by rw[e];exact Bk.hd (by rw[hr];exact C)))) (fun I d=>?_) ?_ l3 (by intros;simp),VS.unit,kp⟩,c3.trans (Ext.at _ id _),(a0q G s).2.1,fun e9=>?_⟩,?_⟩
 ·rcases d0T.1 d with d|⟨u',U,d⟩
  ·exact .inl (Bk.hd d)
  ·rw[c6]at U;obtain⟨p',c8⟩:=List.getElem?_of_mem U
   by_cases n:p'=p
   ·subst n;rw[b8]at c8;obtain rfl:=Option.some.inj c8;obtain⟨_,j,e1,e2,e3⟩:=hblk I d;exact .inr ⟨j,o1 j e1,e2,e3⟩
   ·exact .inl (Bk.tl (mem_of_getElem? (hold p' u' n c8)) d)
 ·refine⟨cs.set p y,by rw[c7,length_set,hr];exact b5,by rw[c6];rfl,ht.ok,(fun _ _ h=>by cases h),fun i' x' f' u2 c5 e2 g1 g2 g3 _=>?_,fun u' U=>?_,fun J i2 v1 v2 n l h2 I e7 b3=>?_⟩
  ·have n2:f'<F.length:=(List.getElem?_eq_some_iff.1 g3).1;have p0:i'<xs.length:=by have:=(List.getElem?_eq_some_iff.1 g1).1;rwa [length_set]at this
   have main:∀x0,xs[i']?=some x0->V2 E t x0 f'=some ⟨u2,c5⟩->(i'≠i.toNat\/f'≠f)->∃r',(cs.set p y)[rowAt F i' f']?=some r'/\E5 E w1.heap S e2 u2 c5 r':=by
    intro x0 q1 q2 q3;have h5:rowAt F i' f'≠p:=by
     rw[<-b9];intro e;obtain⟨e3,e4⟩:=w0H n2 hf e;rcases q3 with q3|q3
     ·exact q3 e3
     ·exact q3 e4
    obtain⟨r',p1,p2⟩:=ht.rows i' _ f' u2 c5 e2 q1 q2 g3 (by
     intro ho;obtain⟨e3,e4⟩:=c0 _ _ ho;rcases q3 with q3|q3
     ·exact q3 O'
     ·exact q3 e4)
    have p3:(cs.set p y)[rowAt F i' f']?=some r':=by rw[List.getElem?_set_ne (Ne.symm h5)];exact p1
    refine⟨r',p3,p2.mono kp fun b' b7=>ho.block b' (by obtain⟨_,b4,_⟩:=p2;exact Row.live b4 b' b7) ?_⟩
    rintro rfl
    exact ht.ap 0 (rowAt F i' f'+1) (hd (ρ id)) r' O' rfl (by simpa using hold _ _ h5 p3) b' (by rw[hr];exact C) b7
   by_cases hi:i'=i.toNat
   ·subst hi;rw[List.getElem?_set_self k8]at g1;obtain rfl:=Option.some.inj g1
    by_cases h3:f'=f
    ·subst h3;rw[c4]at g2;obtain⟨rfl,g2⟩:=Sigma.mk.inj (Option.some.inj g2);have g2:=eq_of_heq g2;subst g2;rw[k4]at g3;obtain rfl:=Option.some.inj g3;refine⟨y,by rw[b9];exact b8,j2.mono kp fun b' b7=>ho.block b' (by obtain⟨_,b4,_⟩:=j2;exact Row.live b4 b' b7) ?_⟩
     rintro rfl
     exact(hblk b' b7).1 (Bk.hd (by rw[hr];exact C))
    ·rw[k5 f' h3]at g2;exact main _ (a0r h0 hm) g2 (.inr h3)
   ·rw[List.getElem?_set_ne (Ne.symm hi)]at g1;exact main _ g1 g2 (.inl hi)
  ·rcases List.mem_or_eq_of_mem_set U with h9|rfl
   ·exact ht.one _ h9
   ·exact b2
  ·rw[c7,c6]at l h2;have key:∀(J:Nat) (v1:Value),(hd (ρ id) :: cs.set p y)[J]?=some v1->(J=p+1/\v1=y)\/(J≠p+1/\(hd (ρ id) :: Go.X.tl (ρ id))[J]?=some v1):=by
    intro J v1 l;cases J with
    |zero=>exact .inr ⟨O',l⟩
    |succ J=>
     simp only[List.getElem?_cons_succ]at l
     by_cases e1:J=p
     ·subst e1;rw[b8]at l;exact .inl ⟨rfl,(Option.some.inj l).symm⟩
     ·exact .inr ⟨O',by simpa using hold J v1 e1 l⟩
   have inB:∀(J:Nat) (v1:Value),(hd (ρ id) :: Go.X.tl (ρ id))[J]?=some v1->B1 v1=some I->Bk (ρ id) I:=by
    intro J v1 l hk;have:=mem_of_getElem? l;rcases mem_cons.1 this with rfl|h9
    ·exact Bk.hd hk
    ·exact Bk.tl h9 hk
   rcases key J v1 l with⟨e1,rfl⟩|⟨e1,q1⟩
   ·rcases key i2 v2 h2 with⟨e2,rfl⟩|⟨e2,q2⟩
    ·omega
    ·exact(hblk I e7).1 (inB _ _ q2 b3)
   ·rcases key i2 v2 h2 with⟨e2,rfl⟩|⟨e2,q2⟩
    ·exact(hblk I b3).1 (inB _ _ q1 e7)
    ·exact ht.ap J i2 v1 v2 n q1 q2 I e7 b3
 ·intro l2 o3;exact ho.block e9 l2 (fun e=>o3 id n0 (by first|assumption|(rw[hl];rfl)) (i0c c3) (Bk.hd (by rw[hr,e];exact C)))
 ·rw[hu,j0,k3];have:o0+i.toNat*F.length+f=o0+p:=by rw[<-b9];unfold rowAt;omega
  rw[this];exact j3
def B0v (hE:T1 E)(h:Rp E A s ρ S a as w){R:Type}{k:K E R}{r:R}{T:Nat}{p v:V E.D}{up uv:Value}(hp:VS E ρ s.nid w.heap S p up)(hv:VS E ρ s.nid w.heap S v uv)(hk:k0Y E s T p v k=some r):
  ∃s1 v w1,k s1 v=some r/\K5 E A s ρ S a as w s1 v Go.undef w1/\(Instr.storeAt T up uv).run E.P w=.ok () w1:=by
 unfold k0Y at hk;split at hk<;>try cases hk
 rename_i n b2;split at hk<;>try cases hk
 rename_i U;rw[and_eq_true,beq_eq]at U;obtain⟨hn,U⟩:=U;obtain⟨c,hc,C,J,e5⟩:=hv.cells hE U;have hlen:c.length=n:=(i01 hE e5 U).trans hn;split at hk
 ·rename_i id off;obtain⟨b1,_,b,hr,hu⟩:=hp.b0O;simp only[D4,Nat.add_zero]at hu;split at hk<;>try cases hk
  rename_i T' cs hb;have hl:=u0O hb;split at hk<;>try cases hk
  rename_i x1 x2 x3 j1;have ht:=h.th id;rw[hl]at ht;obtain⟨b',cc,t,b6,c5,h1⟩:=ht;obtain rfl:b=b':=by rw[t]at hr;simpa[hd,eq_comm]using hr
  obtain⟨c1,c2,c3,e,c9,j3,ha,_,hd⟩:=f0W hE j1 c5;rw[e]at b6;obtain⟨w1,I,ho,c8⟩:=o0Q b2 C hlen J b6 c9 j3;rw[hu];obtain⟨c6,e4⟩:=h.r02 hl t ho c8 (l':=x1++j6 v++x3) (by rw[append_assoc];exact ha.app (hc.app hd)) (by
   intro u hu;rcases mem_append.1 hu with hu|hu
   ·exact h1 u (by rw[e];simp[hu])
   ·rcases mem_append.1 hu with hu|hu
    ·exact J u hu
    ·exact h1 u (by rw[e];simp[hu]))
  exact⟨_,_,w1,hk,K5.of (fun _ h=>h) c6 VS.unit e4 (Ext.at s id _) rfl (fun k hk hq=>ho.block k hk (fun e=>hq id b1 (by rw[hl];rfl) (f0g s) (by rw[e,t];rfl))),I⟩
 ·rename_i id off q _;obtain⟨b1,c7,b,hr,hu⟩:=hp.b0O;split at hk<;>try cases hk
  rename_i s1 T' l g;unfold k0Y.rdP at g;split at g<;>try cases g
  split at g<;>try cases g
  split at g<;>try cases g
  split at g<;>try cases g
  rename_i u2 _;split at g<;>try cases g
  rename_i s2 y hz b4;split at g<;>try cases g
  rename_i T2 k3 hb;split at g<;>try cases g
  rename_i a1 m' k1;split at g<;>try cases g
  rename_i t' x' cr j0;split at g<;>try cases g
  rename_i z b5;have hm:=y0r j0;subst hm;have b7:=y0R hz;obtain⟨S1,e7,h2,he,hf,b8,e6⟩:=n0q hE h b4;have hl:=u0O hb;have ht:=h2.th id;rw[hl]at ht;obtain⟨b',cc,t,b6,c5,h1⟩:=ht;obtain rfl:b=b':=by rw[t]at hr;simpa[hd,eq_comm]using hr
  obtain⟨c1,c2,e,c9,ha,h8⟩:=b0z hE _ _ _ _ _ k1 cc c5;unfold T0 at h8;obtain⟨d1,d2,rfl,hd,e9⟩:=h8;obtain⟨e1,e2,e3,h3,hle,h4,h7⟩:=k0b hE q t' x' z d1 b5 c7 hd;have h5:w.heap[b]?=some (.cells ((c1++e1)++(e2++(e3++d2))).toArray T' (0,0)):=by rw[b6,e,h3];simp
  obtain⟨w1,I,ho,c8⟩:=o0Q b2 C hlen J h5 (by rw[length_append,c9,hle]) (by rw[h4,b7,hn]);rw[hu];have hS:=h2.ow id (by rw[hl];rfl) b (by rw[t];rfl);have kp:=ho.L0 hS.1;have j2:(J0 E t').R w.heap S1 (e1++(c++e3)) z:=h7 c (e6 c e5);obtain⟨c6,e4⟩:=h2.r02 hl t ho c8 (l':=a1++.d t' z :: cr) (by
   have:(c1++e1)++(c++(e3++d2))=c1++((e1++(c++e3))++d2):=X'
   rw[this];refine ha.app ?_;unfold T0;exact⟨_,d2,rfl,by unfold VC;exact j2,e9⟩) (by
   intro u hu;have:u∈cc\/u∈c:=by
    rw[e,h3];simp only[mem_append]at hu ⊢;rcases hu with(h|h)|h|h|h<;>simp[h]
   rcases this with hu|hu
   ·exact h1 u hu
   ·exact J u hu)
  exact⟨_,_,w1,hk,K5.of e7 c6 VS.unit e4 (he.trans (Ext.at s1 id _)) hf (fun k hk hq=>ho.block k hk (fun e=>hq id b1 (s0L b4 (by rw[hl];rfl)) (i0c he) (by rw[e,t];rfl))),I⟩
 ·rename_i id i z q;obtain⟨b1,c7,b,o,m,b9,hr,⟨h0,hm⟩,hu⟩:=hp.d0e;split at hk
  ·split at hk<;>try cases hk
   rename_i h9;rw[beq_eq]at h9;subst h9;exact H0t hE h hp hv b2 hk
  ·rename_i r0 j f hl;exact z0A hE h hl hp hv b2 hn U hk
  ·split at hk<;>try cases hk
   split at hk<;>try cases hk
   rename_i u2 _ _;split at hk<;>try cases hk
   rename_i s1 y b4;split at hk<;>try cases hk
   rename_i e t' xs hb;split at hk<;>try cases hk
   rename_i x b7 b5;rw[and_eq_true,beq_eq,beq_eq]at b7;obtain⟨rfl,i1⟩:=b7;obtain⟨S1,e7,h2,he,hf,b8,e6⟩:=n0q hE h b4;have hl:=j0O hb;have ht:=h2.th id;rw[hl]at ht;have c0:∃A' c',ρ id=.slice A' xs.length c':=E5.form ht;obtain⟨A',c',c0⟩:=c0;have t:ρ id=.slice (some ⟨b,o,none⟩) m b9:=by rw[<-hr,c0];rfl
   have b3:Q1 (F0 s1 id)=true:=by rw[hl];rfl
   have c4:Bk (ρ id) b:=by
    obtain⟨_,h6,_⟩:=ht;rw[t]at h6 ⊢;exact h6.i0n O'
   obtain⟨hS,k2,hW⟩:=h2.ow id b3 b c4;have hL:E5 E w.heap S1 e t' xs (.slice (some ⟨b,o,none⟩) m b9):=by rw[<-t];exact ht
   obtain⟨w1,I,ho,kp,k0⟩:=hL.store hE h0 hm b5 c7 (e6 c e5) i1 b2 C hlen J hS;refine⟨_,_,w1,hk,K5.of e7 (h2.turn (w1:=w1) (S1:=S1) (id:=id) (v:=ρ id) (x:=.lst e t' (xs.set i.toNat x)) (by rw[b8];exact b1) b3 (ho.cx h2.cx hW) kp (fun _ h=>h) (fun k hk hn=>ho.block k hk (fun e=>hn (by rw[e];exact c4))) rfl (fun k hk=>(h2.ow id b3 k hk).1) ?_) VS.unit kp (he.trans (Ext.at s1 id _)) hf (fun k hk hq=>ho.block k hk (fun e=>hq id b1 (s0L b4 (by rw[hl];rfl)) (i0c he) (by rw[e];exact c4))),by rw[hu];exact I⟩;rw[t];exact k0
 ·cases hk
def d0p {t:U}{z:Value}{sz bytes:Nat}(h:c0r E t z sz bytes=true):sz=(J0 E t).sz/\z.cells.size=(J0 E t).sz/\0<(J0 E t).sz/\0<bytes:=by
 simp only[c0r,and_eq_true,beq_eq,Nat.blt_eq]at h;obtain⟨⟨⟨h1,d⟩,b⟩,c⟩:=h;subst h1;exact⟨rfl,d,b,c⟩
def d0U {e:Nat}{z:Value}{sz bytes:Nat}(h:c0f E e=some (z,sz,bytes)):∃i,E.P.info? e=some i/\i.zero=some z/\i.size=sz/\i.bytes=bytes:=by
 unfold c0f at h;split at h<;>try cases h
 rename_i i hi;split at h<;>try cases h
 rename_i c b;exact⟨i,hi,b,rfl,rfl⟩
def d0V {T e:Nat}(h:b0J E T=some e):E.P.underlying T=some (.slice e):=by
 unfold b0J at h;split at h
 ·rename_i b;simp at h;subst h;exact b
 ·cases h
def Rp.j0k (h:Rp E A s ρ S a as w){e:Nat}{t:U}{xs:List (Den E.D t)}{v:Value}{w1:World}(g:Below w.heap.size w w1)(j:∀k,B1 v=some k->w.heap.size<=k/\k<w1.heap.size)(f:v.oneCell'=true)
  (i:∀S1,P0 w.heap S w1.heap S1->(∀k,B1 v=some k->S1 k)->∃cs,Row w1.heap e (J0 E t).sz v xs.length cs/\R1 (J0 E t) w1.heap S1 cs xs):
  K5 E A s ρ S a as w (s.new (.lst e t xs)) (.sl s.nid) v w1:=by
 obtain⟨c,b⟩:=e04 f;obtain⟨S1,hk,l⟩:=h.new (x:=.lst e t xs) (v:=v) (w1:=w1) g (fun k hk=>j k ((b k).1 hk)) (fun S1 hk hs _=>i S1 hk fun k d=>hs k ((b k).2 d) rfl);refine⟨⟨_,S1,l,?_,hk⟩,Ext.new s _,rfl,fun k hk _=>g.block k hk⟩;exact VS.of rfl (by unfold VC;exact⟨lt_succ_self _,by rw[W4,c];exact f,by rw[W4,c]⟩)
def t0r {n:Nat}{H:I0}(z:Value):VC E ρ n H S (ofZ E z) z.cells.toList:=by
 have h:=l0f (E:=E) (ρ:=ρ) (S:=S) (n:=n) (H:=H) z;unfold ofZ at h ⊢;split at h
 ·unfold VC;exact h
 ·rw[q01]at h;exact h.a0Q
def A0c (hE:T1 E)(h:Rp E A s ρ S a as w){R:Type}{k:K E R}{r:R}{T:Nat}{n m:Operand}(hk:q0z E s T n m k=some r):
  ∃s1 v u w1,k s1 v=some r/\K5 E A s ρ S a as w s1 v u w1/\(Instr.makeSlice T (a.eval n) (a.eval m)).run E.P w=.ok u w1:=by
 unfold q0z at hk;split at hk<;>try cases hk
 rename_i e U x he hx hop;have I:n=m:=by
  unfold j0Y at hop;split at hop
  ·rw[beq_eq]at hop;rw[hop]
  ·rw[of_decide_eq_true hop]
  ·cases hop
 subst I;split at hk<;>try cases hk
 rename_i t z sz bytes ht l;split at hk<;>try cases hk
 rename_i zx p hz;obtain⟨rfl,h1,h2,h3⟩:=d0p p;obtain⟨i,hi,C,j,J⟩:=d0U l;split at hk<;>try cases hk
 rename_i c;have hT:=d0V he;have o:=E9 hx (h.val n);rw[o];simp only[R2,and_eq_true,decide_eq_true_eq]at c;obtain⟨q,rfl⟩:=Int.eq_ofNat_of_zero_le c.1;have hq:q*bytes<=140737488355328:=by
  have h1:=c.2;have h2:((q*bytes:Nat):Int)<=140737488355328:=by rw[Int.natCast_mul];exact h1
  omega
 have a1:q<=q*bytes:=Nat.le_mul_of_pos_right _ h3;obtain⟨w1,d,b,hg⟩:=run_make_full (P:=E.P) w w.heap.size T e i z (J0 E t).sz hT hi C j U U q (by rw[J,mul_comm];omega) (by simp only[maxLen];omega) (le_refl _);have hB:Below w.heap.size w w1:=⟨hg.os,hg.tape,hg.output,hg.size,fun k hk=>hg.block k hk X'⟩
 have hm:=n0t z.cells q;rw[h1]at hm;rw[hm]at b;have b:=Row.of b;have y:∀S1,(J0 E t).R w1.heap S1 z.cells.toList zx:=by
  intro S1;refine g0J (ρ:=ρ) (n:=0) hE (fun id=>?_) hz (t0r z);show K3 E ρ 0 w1.heap S1 .gone (ρ id)
  trivial
 refine⟨_,_,_,w1,hk,h.j0k hB (fun k hk=>?_) rfl fun S1 hk _=>⟨_,by simpa using b,l0r (y S1) q⟩,d⟩;obtain⟨b1,rfl⟩:=d0S hk;refine⟨le_refl _,?_⟩;rcases b.2 with⟨_,a,f⟩|⟨g,cap,cur,f,_,hgg,_⟩
 ·simp at f;omega
 ·simp at f;obtain⟨rfl,_⟩:=f;exact getElem?_lt hgg
def Row.m0j {H:I0}{e sz n:Nat}{v:Value}{cs:List Value}(h:Row H e sz v n cs):(Go.V.Row H e sz v n cs/\v.ownBlock=B1 v)\/(n=0/\cs=[]/\B1 v=none/\∃a,v=.slice (some a) 0 0):=by
 obtain⟨b,⟨h1,a,d⟩|⟨g,cap,cur,c,hp,r⟩⟩:=h
 ·subst h1;subst d;cases a with
  |none=>exact .inl ⟨⟨b,.inl ⟨rfl,rfl⟩⟩,rfl⟩
  |some a=>exact .inr ⟨rfl,by simpa using b,rfl,a,rfl⟩
 ·refine .inl ⟨⟨b,.inr ⟨g,cap,cur,c,r⟩⟩,?_⟩;subst c;exact(e0S (a:=⟨g,0,none⟩) (m:=n) hp).symm
def inX (v:Value)(S:D0):D0:=fun k=>B1 v=some k\/S k
structure GrX (w w1:World)(v:Value):Prop where
 os:w1.os=w.os
 tape:w1.tape=w.tape
 output:w1.output=w.output
 size:w.heap.size<=w1.heap.size
 block:∀k,k<w.heap.size->B1 v≠some k->w1.heap[k]?=w.heap[k]?
def t0F {a:Option Addr}{m c k:Nat}(h:B1 (.slice a m c)=some k):(Value.slice a m c).ownBlock=some k:=by
 cases a with
 |none=>cases h
 |some a=>obtain⟨_,rfl⟩:=d0S h;rfl
def j0Z {α:Type}{T:Ty α}{t ty e:TypeId}{bytes:Nat}{z:Value}{v:Value}{xs ys:List α}{cs:List Value}{A:Option Addr}{c:Nat}(P:Program)(ht:P.underlying t=some (.slice e))(hE:(P.info? e).map (fun i=>(i.zero,i.size,i.bytes))=some (some z,T.sz,bytes))(r:(decide (z.cells.size=T.sz)&&decide (0<T.sz)&&decide (0<bytes))=true)
  (b7:Row w.heap e T.sz v xs.length cs) (b2:R1 T w.heap S cs xs) (hS:∀k,B1 v=some k->S k) (U:Q4 T w.heap S A ys) (q:K0 bytes xs ys=true):
  ∃f w1,(Builtin.append_ #[t,t] ty #[v,.slice A ys.length c]).run P w=.ok f w1/\GrX w w1 v/\(∀k,B1 f=some k->(B1 v=some k\/w.heap.size<=k)/\k<w1.heap.size)/\(∃A1 c1,f=.slice A1 (xs++ys).length c1)/\
   ∀S1,P0 w.heap S w1.heap S1->∃y,Row w1.heap e T.sz f (xs++ys).length y/\R1 T w1.heap S1 y (xs++ys):=by
 rcases b7.m0j with⟨hV,l⟩|⟨h0,hc0,hnone,a,hv⟩
 ·have b4:Ow T e (fun _=>True) w.heap S v xs:=⟨fun k hk=>⟨hS k (by rw[<-l];exact hk),trivial⟩,cs,hV,b2⟩
  obtain⟨f,w1,m,hg,a1,I⟩:=z0l (P:=P) (w:=w) t ty e bytes z ht hE r b4 U (c:=c) q;have fin:∀S1,P0 w.heap S w1.heap S1->Ow T e (fun _=>True) w1.heap (fun k=>f.ownBlock=some k\/S1 k) f (xs++ys):=fun S1 hk=>by
   refine I (fun k=>f.ownBlock=some k\/S1 k) ⟨hk.size,fun b hb hn=>⟨fun hi=>?_,(hk.blk b hb hn).2⟩⟩ (fun _=>True) (fun k hk=>⟨.inl hk,trivial⟩);rcases hi with hi|hi
   ·rcases a1 with d|d
    ·rw[d,l]at hi;exact hn (hS b hi)
    ·rw[d]at hi;have:=Option.some.inj hi;omega
   ·exact(hk.blk b hb hn).1 hi
  have c3:P0 w.heap S w1.heap (fun k=>f.ownBlock=some k\/S k):=⟨hg.size,fun b hb hn=>⟨fun hi=>by
    rcases hi with hi|hi
    ·rcases a1 with d|d
     ·rw[d,l]at hi;exact hn (hS b hi)
     ·rw[d]at hi;have:=Option.some.inj hi;omega
    ·exact hn hi,hg.block b hb (fun d=>hn (hS b (by rw[<-l];exact d.symm)))⟩⟩
  have b3:=fin _ c3;obtain⟨A1,c1,n⟩:=b3.form;refine⟨f,w1,m,⟨hg.os,hg.tape,hg.output,hg.size,fun k hk hn=>hg.block k hk (fun d=>hn (by rw[<-l];exact d.symm))⟩,fun k hk=>?_,⟨A1,c1,n⟩,fun S1 hk=>?_⟩
  ·have p:f.ownBlock=some k:=by rw[n]at hk ⊢;exact t0F hk
   refine⟨?_,b3.lt k p⟩;rcases a1 with d|d
   ·rw[d,l]at p;exact .inl p
   ·rw[d]at p;exact .inr (Nat.le_of_eq (Option.some.inj p))
  ·obtain⟨_,y,h1,h2⟩:=fin S1 hk;exact⟨y,Row.ofV h1,h2.L0 (P0.less fun _ h=>.inr h)⟩
 ·subst hv;subst hc0;have c4:xs=[]:=eq_nil_of_length_eq_zero h0;subst c4;obtain⟨i,hi,b1⟩:=Option.map_eq_some_iff.1 hE;simp only[Prod.mk.injEq]at b1;obtain⟨hz,b8,c5⟩:=b1;simp only[and_eq_true,decide_eq_true_eq]at r;simp only[K0,decide_eq_true_eq,List.length_nil,zero_add]at q;have c6:ys.length<=maxLen:=by
   have:ys.length<=ys.length*bytes:=Nat.le_mul_of_pos_right _ r.2;simp only[maxLen];omega
  rcases eq_zero_or_pos ys.length with h0|hpos
  ·have h0:ys=[]:=eq_nil_of_length_eq_zero h0;subst h0;have g1:GrX w w (.slice (some a) 0 0):=⟨rfl,rfl,rfl,le_refl _,fun _ _ _=>rfl⟩
   have g2:Row w.heap e T.sz (.slice (some a) 0 0) ([]++[]:List α).length []:=⟨X',.inl ⟨rfl,_,rfl⟩⟩
   have g3:∀k,B1 (.slice (some a) 0 0)=some k->(B1 (.slice (some a) 0 0)=some k\/w.heap.size<=k)/\k<w.heap.size:=fun k hk=>by cases hk
   refine⟨.slice (some a) 0 0,w,?_,g1,g3,⟨some a,0,rfl⟩,fun S1 hk=>⟨[],g2,R1.nil⟩⟩;cases A<;>simp[Builtin.append_,run_underlying ht,sizeOf,typeInfo,hi,Builtin.lenOf,Builtin.firstCells,loadCells,loadCellsFrom,storeCells]
  ·obtain⟨b,off,_,hA,_⟩:=U 0 ys[0] (by simp[hpos]);subst hA;have rd:∀{A:Option Addr} {xs:List α},Q4 T w.heap S A xs->∃news,R1 T w.heap S news xs/\∀b o,A=some ⟨b,o,none⟩->∀j u,news[j]?=some u->O1 w.heap b (o+0*T.sz+j)=some u:=fun hr=>Q4.news (w:=w) (k:=0) (fun i x hx=>by
    obtain⟨b,o,cs,h1,h2,R⟩:=hr i x hx;exact⟨b,o,cs,h1,h2,fun j v hj=>by rw[zero_add];exact R j v hj⟩)
   obtain⟨news,b6,C⟩:=rd U;have J:∀j u,news[j]?=some u->w.cell? ((⟨b,off,none⟩:Addr).add j)=some u:=by
    intro j u hj;rw[k7];have:=C b off rfl j u hj;simpa using this
   obtain⟨f,w',m,h2,R⟩:=run_append_arg_grows (P:=P) w t ty e i z T.sz bytes ht hi hz b8 c5 r.1.1 r.1.2 a 0 0 [] X' (fun j u hj=>by simp at hj) ⟨b,off,none⟩ ys.length c news b6.1 J O' O' (by simpa using q);have hV:=h2;obtain⟨hl,hv|⟨g,cap,cur,hv,c0,hg,c7,hm,c8,b9⟩⟩:=hV
   ·exact absurd hv.2 O'
   ·have b5:=Row.of h2;rw[zero_add,nil_append]at b5;refine⟨f,w',m,⟨R.os,R.tape,R.output,R.size,fun k hk _=>R.block k hk X'⟩,fun k hk=>?_,⟨_,_,by rw[hv];simp;exact⟨rfl,rfl⟩⟩,fun S1 hk=>⟨news,by simpa using b5,by simpa using b6.L0 hk⟩⟩;rw[hv]at hk;obtain⟨_,rfl⟩:=d0S hk;exact⟨.inr c0,getElem?_lt hg⟩
def h0y (h:Rp E A s ρ S a as w){t:U}{y:V E.D}{r:Value}(n:VS E ρ s.nid w.heap S y r){ys:List (Den E.D t)}(hs:e0p E s t y=some ys):
  ∃b c,r=.slice b ys.length c/\Q4 (J0 E t) w.heap S b ys:=by
 unfold e0p at hs;split at hs
 ·simp only[Option.some.injEq]at hs;subst hs;obtain rfl:=n.b0q;exact⟨none,0,rfl,fun i x l=>by simp at l⟩
 ·split at hs<;>try cases hs
  rename_i z o hl;obtain⟨e,hs⟩:=a0u hs;subst e;subst hs;have p:=hl;unfold c0o at hl;split at hl
  ·cases hl;obtain⟨b,c,rfl,m⟩:=n.f0Z;exact⟨b,c,rfl,m.2.2⟩
  ·rename_i id _;obtain⟨I,rfl⟩:=n.a0m;rcases h.m0d p with⟨e,h1,_⟩|⟨b,c,h1,k⟩
   ·obtain⟨b,c,k⟩:=h1.form;rw[k]at h1;refine⟨b,c,k,fun i x l=>?_⟩;have hi:i<o.length:=(List.getElem?_eq_some_iff.1 l).1;cases b with
    |none=>
     obtain⟨cs,f,_⟩:=h1;rcases f.2 with⟨h0,_⟩|⟨g,cap,cur,hv,_⟩
     ·omega
     ·cases hv
    |some ad=>
     have q:=h1;obtain⟨R,d,_⟩:=q;rcases d.2 with⟨h0,_⟩|⟨g,cap,cur,hv,_⟩
     ·omega
     ·simp at hv;obtain⟨rfl,_⟩:=hv;obtain⟨_,J⟩:=h1.el;obtain⟨_,cs,u,h7⟩:=J i O' O';have:E6 E z o i=x:=by
       have:=a0r (E:=E) (t:=z) (xs:=o) (i:=i) O' O';rw[Int.toNat_natCast,l]at this;exact(Option.some.inj this).symm
      rw[this]at u;exact⟨g,0,cs,rfl,u,fun j v C=>h7 w.heap rfl j v C⟩
   ·exact⟨b,c,h1,k.2.2⟩
  ·cases hl
def s0w (hE:T1 E)(h:Rp E A s ρ S a as w){R:Type}{k:K E R}{r:R}{T:Nat}{x y:V E.D}{ux uy:Value}(hx:VS E ρ s.nid w.heap S x ux)(hy:VS E ρ s.nid w.heap S y uy)(ty:Nat)(hk:i08 E s T x y k=some r):
  ∃s1 v u w1,k s1 v=some r/\K5 E A s ρ S a as w s1 v u w1/\(Builtin.append_ #[T,T] ty #[ux,uy]).run E.P w=.ok u w1:=by
 unfold i08 at hk;split at hk<;>try cases hk
 rename_i e he;split at hk<;>try cases hk
 rename_i t z sz bytes ht e1;split at hk<;>try cases hk
 rename_i ys g xs e4 b4 d;split at hk<;>try cases hk
 rename_i I;obtain⟨rfl,h1,h2,h3⟩:=d0p e4;obtain⟨i,hi,e5,c4,e6⟩:=d0U e1;have hT:=d0V he;obtain⟨A',c,rfl,b5⟩:=h0y h hy b4;have b7:(E.P.info? e).map (fun i=>(i.zero,i.size,i.bytes))=some (some z,(J0 E t).sz,bytes):=by rw[hi];simp[e5,c4,e6]
 have b9:(decide (z.cells.size=(J0 E t).sz)&&decide (0<(J0 E t).sz)&&decide (0<bytes))=true:=by simp[h1,h2,h3]
 unfold v0q at d;split at d
 ·simp only[Option.some.injEq,Prod.mk.injEq]at d;obtain⟨rfl,rfl⟩:=d;obtain rfl:=hx.b0q;obtain⟨v',w1,n,hg,o,⟨A1,c1,l⟩,j⟩:=j0Z (S:=S) (w:=w) (ty:=ty) (v:=.slice none 0 0) (xs:=([]:List (Den E.D t))) (cs:=[]) (c:=c) E.P hT b7 b9 ⟨X',.inl ⟨rfl,none,rfl⟩⟩ R1.nil (fun k hk=>by cases hk) b5 I;have hB:Below w.heap.size w w1:=⟨hg.os,hg.tape,hg.output,hg.size,fun k hk=>hg.block k hk (by simp[B1])⟩
  subst l;refine⟨_,_,_,w1,hk,h.j0k hB (fun k hk=>?_) rfl fun S1 hk hs=>j S1 hk,n⟩;obtain⟨C,h6⟩:=o k hk;refine⟨?_,h6⟩;rcases C with C|C
  ·cases C
  ·exact C
 ·rename_i id;split at d<;>try cases d
  rename_i e' t' zs hl;split at d<;>try cases d
  rename_i b6 J;rw[beq_eq]at b6;subst b6;obtain⟨e2,J⟩:=a0u J;subst e2;subst J;obtain⟨c9,rfl⟩:=hx.a0m;have hl:=j0O hl;have f:Q1 (F0 s id)=true:=by rw[hl];rfl
  have b1:=h.th id;rw[hl]at b1;obtain⟨A0,c0,b2⟩:=E5.form b1;have b8:hd (ρ id)=ρ id:=by rw[b2];rfl
  have p:∀k,Bk (ρ id) k↔B1 (ρ id)=some k:=fun k=>by rw[b2];exact Iff.rfl
  rw[b8];obtain⟨cs,c3,b3⟩:=b1;have hS:=fun k hk=>(h.ow id f k ((p k).2 hk))
  obtain⟨v',w1,n,hg,o,⟨A1,c1,l⟩,j⟩:=j0Z (S:=S) (w:=w) (ty:=ty) (c:=c) E.P hT b7 b9 c3 b3 (fun k hk=>(hS k hk).1) b5 I;subst l;have m:P0 w.heap S w1.heap (inX (Value.slice A1 (zs++ys).length c1) S):=⟨hg.size,fun b q hn=>⟨fun hi=>by
    rcases hi with hi|hi
    ·rcases(o b hi).1 with e|e
     ·exact hn (hS b e).1
     ·omega
    ·exact hn hi,hg.block b q (fun e=>hn (hS b e).1)⟩⟩
  obtain⟨c5,U,a1⟩:=j _ m;have c8:Cx A.w0 A.W0 A.S0 w1 (inX (Value.slice A1 (zs++ys).length c1) S):=by
   have cx:=h.cx;refine⟨⟨hg.os.trans cx.bel.os,hg.tape.trans cx.bel.tape,hg.output.trans cx.bel.output,le_trans cx.bel.size hg.size,fun k hk hn=>(hg.block k (by have:=cx.size;omega) (fun e=>?_)).trans (cx.bel.block k hk hn)⟩,fun b q=>.inr (cx.sub b q),fun b q=>?_,cx.lt0⟩
   ·rcases(hS k e).2.2 with h2|h2
    ·exact hn h2
    ·omega
   ·rcases q with q|q
    ·exact(o b q).2
    ·exact Nat.lt_of_lt_of_le (cx.lt b q) hg.size
  have c7:Rp E A ((Z0 s [id]).new (Th.lst e t' (zs++ys))) (C6 ρ s.nid (Value.slice A1 (zs++ys).length c1)) (inX (Value.slice A1 (zs++ys).length c1) S) a as w1:=
   h.take c8 m (fun k hk=>.inr hk) (fun k hk hn=>hg.block k hk (fun e=>hn id X' f ((p k).2 e))) (fun k hk _=>⟨.inl hk,((o k hk).1).imp (fun C=>⟨id,X',f,(p k).2 C⟩) (fun C=>O')⟩) ⟨c5,U,a1⟩ (by intros;simp)
  refine⟨_,_,_,w1,hk,⟨⟨_,_,c7,?_,m⟩,(Ext.at s id .gone).trans (Ext.new _ _),rfl,fun e9=>?_⟩,n⟩
  ·exact VS.of rfl (by unfold VC;exact⟨lt_succ_self _,by rw[W4];rfl,by rw[W4];rfl⟩)
  ·intro c6 e3;exact hg.block e9 c6 (fun e=>e3 id c9 f (g0S (f0g s) (Ext.at s id .gone) (Ext.new _ _)) ((p e9).2 e))
 ·cases d
def y0s (_hE:T1 E)(h:Rp E A s ρ S a as w){id r0 f:Nat}{j:Int}{s1:St E.D}(hl:F0 s id=.rof r0 j f)(C:n0h E s r0 j f=some s1):
  ∃ ρ1,Rp E A s1 ρ1 S a as w/\(∀i,i<s.nid->hd (ρ1 i)=hd (ρ i))/\VS E ρ1 s1.nid w.heap S (.sl s.nid) (hd (ρ id))/\Ext s s1/\s1.fr=s.fr/\(∀q,q<s.nid->Q1 (F0 s1 q)=true->Q1 (F0 s q)=true)/\(∃r',r'<s.nid/\Q1 (F0 s r')=true/\W6 s s1 r'=true/\∀q k,q<s1.nid->Bk (ρ1 q) k->(q<s.nid/\Bk (ρ q) k)\/Bk (ρ r') k)/\s.nid<=s1.nid:=by
 unfold n0h at C;split at C<;>try cases C
 rename_i e F t xs b5;split at C<;>try cases C
 rename_i u zs e' J e4;have hq:=e0u b5;have n:Q1 (F0 s r0)=true:=by rw[hq];rfl
 have e7:=h.i7 (id:=r0) (by rw[hq];simp);obtain⟨_,e1,⟨er,e9⟩,hblk⟩:=h.i0w hl J;obtain⟨b2,o2,m2,c2,k1,k2,k3,k4⟩:=h.rf id r0 j f hl e F t xs hq;have z:=h.th r0;rw[hq]at z;obtain⟨cs,z⟩:=z;have c3:=z.row;rw[k1]at c3;obtain⟨rfl,_,_,b4⟩:=Row.cell c3 O';have c6:V2 E t (E6 E t xs j) f=some ⟨u,zs⟩:=by unfold b0A at J;rw[hq]at J;exact J
 have b6:=a0r (E:=E) (t:=t) (xs:=xs) k2.1 k2.2;obtain⟨h0,h5,hL⟩:=z.rows j.toNat _ f u zs _ b6 c6 e4 X';have b1:rowAt F j.toNat f<cs.length:=(List.getElem?_eq_some_iff.1 h5).1;have h6:=b4 w.heap rfl _ (by rw[<-z.row.1];exact b1);rw[h5]at h6;have k4:O1 w.heap b2 (o2+rowAt F j.toNat f)=some (ρ id):=k4;rw[k4]at h6;obtain rfl:=Option.some.inj h6;have h8:=e0P (o:=none) k3 X' h5 X';rw[<-z.tl]at h8;have b9:Go.X.tl (ρ r0)=cs:=z.tl;generalize c8:rowAt F j.toNat f=p at b1 h5 h8;have a1:hd (Value.tuple (hd (ρ r0) :: cs.set p z7).toArray)=hd (ρ r0):=rfl;have b7:Go.X.tl (Value.tuple (hd (ρ r0) :: cs.set p z7).toArray)=cs.set p z7:=rfl;have key:∀(g:Nat) (v1:Value) d,(hd (ρ r0) :: cs.set p z7)[g]?=some v1->B1 v1=some d->g≠p+1/\(hd (ρ r0) :: Go.X.tl (ρ r0))[g]?=some v1:=by
  intro g v1 d l hk;cases g with
  |zero=>exact⟨O',l⟩
  |succ g=>
   simp only[List.getElem?_cons_succ]at l ⊢
   by_cases e1:g=p
   ·subst e1;rw[List.getElem?_set_self b1]at l;obtain rfl:=Option.some.inj l;cases hk
   ·rw[List.getElem?_set_ne (Ne.symm e1)]at l;exact⟨O',by rw[b9];exact l⟩
 have inB:∀(g:Nat) (v1:Value) d,(hd (ρ r0) :: Go.X.tl (ρ r0))[g]?=some v1->B1 v1=some d->Bk (ρ r0) d:=by
  intro g v1 d l hk;rcases mem_cons.1 (mem_of_getElem? l)with rfl|h9
  ·exact Bk.hd hk
  ·exact Bk.tl h9 hk
 have b3:∀d,Bk (Value.tuple (hd (ρ r0) :: cs.set p z7).toArray) d->∃g v1,g≠p+1/\(hd (ρ r0) :: Go.X.tl (ρ r0))[g]?=some v1/\B1 v1=some d:=by
  intro d b;have:∃u'∈hd (ρ r0) :: cs.set p z7,B1 u'=some d:=by
   rcases d0T.1 b with b|⟨u',U,b⟩
   ·exact⟨_,List.mem_cons_self,b⟩
   ·exact⟨u',mem_cons_of_mem _ U,b⟩
  obtain⟨u',U,m⟩:=this;obtain⟨g,c7⟩:=List.getElem?_of_mem U;obtain⟨q1,q2⟩:=key g u' d c7 m;exact⟨g,u',q1,q2,m⟩
 have e3:=h.r01 (id:=r0) (x:=.X0 e F t xs (some (j,f))) (v:=Value.tuple (hd (ρ r0) :: cs.set p z7).toArray) (G:=X9 r0 s.th) n a1 h.cx (P0.refl _ _) (fun _ h=>h) (fun _ _ _=>rfl) (fun d b=>by
   obtain⟨g,v1,_,q2,q3⟩:=b3 d b;exact .inl (inB g v1 d q2 q3)) (by
   refine⟨cs,z.row,by rw[b7];unfold d0v;simp only[c8],z.ok,fun j' g' r=>?_,fun i' x' f' u2 c9 r g1 g2 g3 g4=>?_,z.one,fun g i2 v1 v2 e6 l c5 d c4 m=>?_⟩
   ·cases r;exact⟨k2.1,k3⟩
   ·exact z.rows i' x' f' u2 c9 r g1 g2 g3 X'
   ·rw[a1,b7]at l c5;exact z.ap g i2 v1 v2 e6 (key g v1 d l c4).2 (key i2 v2 d c5 m).2 d c4 m) (fun r' i' f' e5=>j0H e5) (by intros;simp)
 have c:((Z0 s (X9 r0 s.th)).at r0 (Th.X0 e F t xs (some (j,f)))).nid=s.nid:=(a0q _ s).1;have y:=E5.form hL;obtain⟨A0,c0,y⟩:=y;have R:=e3.t03 (x:=.lst e' u zs) (v:=ρ id) (fun d b _=>by
   rw[y]at b;have b:B1 (ρ id)=some d:=by rw[y];exact b
   refine⟨h.ow r0 n d (Bk.tl (mem_of_getElem? h8) b),fun j' I m=>?_⟩
   by_cases r:j'=r0
   ·subst r;rw[W4]at m;obtain⟨g,v1,q1,q2,q3⟩:=b3 d m;exact z.ap g (p+1) v1 (ρ id) q1 q2 (by simpa using h8) d q3 b
   ·rw[n5 r]at m;rw[T8,if_neg (Ne.symm r),d0K]at I;split at I
    ·cases I
    ·exact h.dj r0 j' (Ne.symm r) n I d (Bk.tl (mem_of_getElem? h8) b) m) hL (fun _ _ _ e=>by cases e)
 rw[c]at R;refine⟨_,R,fun i hi=>?_,?_,((Ext.Z0 s _).trans (Ext.at _ r0 _)).trans (Ext.new _ _),(a0q _ s).2.1,fun q hq C=>?_,?_,?_⟩
 ·rw[n5 O']
  by_cases r:i=r0
  ·subst r;rw[W4];exact a1
  ·rw[n5 r]
 ·refine VS.of rfl ?_;unfold VC;rw[W4];have c:((H7 s r0).at r0 (Th.X0 e F t xs (some (j,f)))).nid=s.nid:=c;refine⟨by show s.nid<_+1;rw[c];omega,by rw[y];rfl,rfl⟩
 ·have c:((H7 s r0).at r0 (Th.X0 e F t xs (some (j,f)))).nid=s.nid:=c;rw[l0N,if_neg (by rw[c];omega),T8]at C;split at C
  ·rename_i r;subst r;exact n
  ·unfold H7 at C;rw[d0K]at C;split at C
   ·cases C
   ·exact C
 ·refine⟨r0,e7,n,g0S (i0c (Ext.Z0 s _)) ((Ext.Z0 s _).trans (Ext.at _ r0 _)) (Ext.new _ _),fun q d b8 b=>?_⟩;have c:((H7 s r0).at r0 (Th.X0 e F t xs (some (j,f)))).nid=s.nid:=c;have b8:q<s.nid+1:=by rw[<-c];exact b8
  by_cases e1:q=s.nid
  ·subst e1;rw[W4]at b;rw[y]at b;exact .inr (Bk.tl (mem_of_getElem? h8) (by rw[y];exact b))
  ·rw[n5 e1]at b
   by_cases r:q=r0
   ·subst r;rw[W4]at b;obtain⟨g,v1,_,q2,q3⟩:=b3 d b;exact .inr (inB g v1 d q2 q3)
   ·rw[n5 r]at b;exact .inl ⟨O',b⟩
 ·have c:((H7 s r0).at r0 (Th.X0 e F t xs (some (j,f)))).nid=s.nid:=c;show s.nid<=_+1;rw[c];omega
def b01 (n:Nat):Ty (List Value) where
 sz:=n
 R:=fun _ _ cs x=>cs=x/\x.length=n/\∀v∈x,v.oneCell'=true
 len:=by rintro _ _ _ _ ⟨rfl,h,_⟩;exact h
 one:=by rintro _ _ _ _ ⟨rfl,_,h⟩;exact h
 L0:=fun _ h=>h
def t0a {n:Nat}{H:I0}{S:D0}:∀(b:List (List Value)) (cs:List Value),R1 (b01 n) H S cs b->cs=b.flatten
 |[],cs,h=>by
  have:=h.1;simp at this;rw[this];rfl
 |z :: b,cs,h=>by
  have c:=h.2 0 z rfl;simp only[Nat.zero_mul,List.drop_zero]at c;obtain⟨h1,f,_⟩:=c;have h1:cs.take n=z:=h1;have hl:cs.length=(b.length+1)*n:=h.1;have d:=t0a (H:=H) (S:=S) b (cs.drop n) ⟨by show(cs.drop n).length=b.length*n;rw[length_drop,hl,succ_mul];omega,fun i x e=>by
   have:=h.2 (i+1) x e;show(((cs.drop n).drop (i*n)).take n)=x/\_;rw[drop_drop,show n+i*n=(i+1)*n from by rw[succ_mul];omega];exact this⟩
  rw[List.flatten_cons,<-d,<-h1,take_append_drop]
def n0U {n:Nat}{H:I0}{S:D0}:∀(m:Nat) (cs:List Value),cs.length=m*n->(∀v∈cs,v.oneCell'=true)->∃b:List (List Value),b.length=m/\b.flatten=cs/\R1 (b01 n) H S cs b
 |0,cs,h,_=>by
  have:cs=[]:=eq_nil_of_length_eq_zero (by simpa using h);subst this;exact⟨[],rfl,rfl,R1.nil⟩
 |m+1,cs,h,h1=>by
  rw[succ_mul]at h;obtain⟨b,e,f,d⟩:=n0U (n:=n) (H:=H) (S:=S) m (cs.drop n) (by rw[length_drop];omega) (fun v c=>h1 v (List.mem_of_mem_drop c));have g:(b01 n).R H S (cs.take n) (cs.take n):=⟨rfl,by rw[length_take];omega,fun v c=>h1 v (List.mem_of_mem_take c)⟩
  refine⟨cs.take n :: b,by simp[e],by rw[List.flatten_cons,f,take_append_drop],?_⟩;have:=(R1.one g).append d
  rwa [take_append_drop]at this
structure M7 (E:Env)(H:I0)(S:D0)(F:List Nat)(t:U)(xs:List (Den E.D t))(cs:List Value):Prop where
 len:cs.length=xs.length*F.length
 rows:∀(i:Nat) (x:Den E.D t) (f:Nat) (u:U) (ys:List (Den E.D u)) (e':Nat),xs[i]?=some x->V2 E t x f=some ⟨u,ys⟩->F[f]?=some e'->∃r,cs[rowAt F i f]?=some r/\E5 E H S e' u ys r
 one:∀u∈cs,u.oneCell'=true
def M7.app {H:I0}{F:List Nat}{t:U}{xs ys:List (Den E.D t)}{cs e:List Value}(h:M7 E H S F t xs cs)(k:M7 E H S F t ys e):M7 E H S F t (xs++ys) (cs++e):=by
 refine⟨by rw[length_append,length_append,h.len,k.len,Nat.add_mul],fun i x f u j e' h1 g d=>?_,fun u hu=>?_⟩
 ·rcases lt_or_ge i xs.length with hi|hi
  ·rw[List.getElem?_append_left hi]at h1;obtain⟨r,b,c⟩:=h.rows i x f u j e' h1 g d;exact⟨r,by rw[List.getElem?_append_left (List.getElem?_eq_some_iff.1 b).1];exact b,c⟩
  ·rw[List.getElem?_append_right hi]at h1;obtain⟨r,b,c⟩:=k.rows _ x f u j e' h1 g d;refine⟨r,?_,c⟩;have:rowAt F i f=cs.length+rowAt F (i-xs.length) f:=by
    unfold rowAt;rw[h.len];have:i*F.length=xs.length*F.length+(i-xs.length)*F.length:=by rw[<-Nat.add_mul];congr 1;omega
    omega
   rw[this,List.getElem?_append_right O',Nat.add_sub_cancel_left];exact b
 ·rcases mem_append.1 hu with h1|h1
  ·exact h.one u h1
  ·exact k.one u h1
def M7.mono {H c:I0}{S1:D0}{F:List Nat}{t:U}{xs:List (Den E.D t)}{cs:List Value}(kp:P0 H S c S1)(k:∀u∈cs,∀b,B1 u=some b->c[b]?=H[b]?)(h:M7 E H S F t xs cs):M7 E c S1 F t xs cs:=
 ⟨h.len,fun i x f u ys e' h1 j g=>by
  obtain⟨r,d,e⟩:=h.rows i x f u ys e' h1 j g;exact⟨r,d,e.mono kp (k r (mem_of_getElem? d))⟩,h.one⟩
def M7.live {H:I0}{F:List Nat}{t:U}{xs:List (Den E.D t)}{cs:List Value}(g:C9 E t F=true)(h:M7 E H S F t xs cs):∀u∈cs,∀b,B1 u=some b->b<H.size:=by
 intro u hu b k;obtain⟨p,hp⟩:=List.getElem?_of_mem hu;have c:p<xs.length*F.length:=by rw[<-h.len];exact(List.getElem?_eq_some_iff.1 hp).1
 have hn:0<F.length:=by
  rcases eq_zero_or_pos F.length with e|e
  ·rw[e]at c;omega
  ·exact e
 have hi:p / F.length<xs.length:=(Nat.div_lt_iff_lt_mul hn).2 c;have f:=Nat.mod_lt p hn;have d:p=rowAt F (p / F.length) (p % F.length):=by
  unfold rowAt;rw[mul_comm];exact(Nat.div_add_mod p F.length).symm
 obtain⟨w',ys,i⟩:=(d0C g).2 xs[p / F.length] _ f;obtain⟨r,h1,_,j,_⟩:=h.rows (p / F.length) _ (p % F.length) w' ys _ (List.getElem?_eq_getElem hi) i (List.getElem?_eq_getElem f);rw[<-d,hp]at h1;obtain rfl:=Option.some.inj h1;exact Row.live j b k
def D0D (h:Rp E A s ρ S a as w){e:Nat}{F:List Nat}{t:U}{x:V E.D}{m:Value}(p:VS E ρ s.nid w.heap S x m){g:Option Nat}{xs:List (Den E.D t)}(hd:g0Z E s e F t x=some (g,xs)):
  ∃cs,Row w.heap e (J0 E t).sz m xs.length cs/\(C9 E t F=true->M7 E w.heap S F t xs cs)/\d07 (m :: cs)/\∀u∈m :: cs,∀k,B1 u=some k->∃j,g=some j/\j<s.nid/\Q1 (F0 s j)=true/\Bk (ρ j) k:=by
 cases x with
 |nil=>
  simp only[g0Z,Option.some.injEq,Prod.mk.injEq]at hd;obtain⟨rfl,rfl⟩:=hd;obtain rfl:=p.b0q;refine⟨[],⟨X',.inl ⟨rfl,none,rfl⟩⟩,fun _=>⟨X',fun i x f u ys e' h1=>by simp at h1,X'⟩,fun i j v I _ q _ k hk=>?_,fun u hu k hk=>?_⟩
  ·have:=mem_of_getElem? q;simp at this;subst this;cases hk
  ·simp at hu;subst hu;cases hk
 |sl id=>
  simp only[g0Z]at hd;split at hd<;>try cases hd
  rename_i e' J R y d;split at hd<;>try cases hd
  rename_i l o;rw[and_eq_true,beq_eq,beq_iff_eq]at l;obtain⟨rfl,rfl⟩:=l;obtain⟨C,o⟩:=a0u o;subst C;subst o;obtain⟨n,rfl⟩:=p.a0m;have hl:=e0u d;have b:=h.th id;rw[hl]at b;obtain⟨cs,b⟩:=b;have c:Go.X.tl (ρ id)=cs:=b.tl;refine⟨cs,b.row,fun _=>⟨b.sz,fun i x f u ys e' h1 z r=>b.rows i x f u ys e' h1 z r X',b.one⟩,by rw[<-c];exact b.ap,fun u hu k hk=>⟨id,rfl,n,by rw[hl];rfl,?_⟩⟩;rcases mem_cons.1 hu with rfl|hu
  ·exact Bk.hd hk
  ·exact Bk.tl (by rw[c];exact hu) hk
 |_=>simp[g0Z]at hd
def v7.of {H:I0}{e:Nat}{F:List Nat}{t:U}{xs:List (Den E.D t)}{v0:Value}{cs:List Value}(b:Row H e (J0 E t).sz v0 xs.length cs)(d:C9 E t F=true)(g:M7 E H S F t xs cs)(c:d07 (v0 :: cs)):v7 E H S e F t xs none (.tuple (v0 :: cs).toArray) cs:=
 ⟨b,rfl,d,(fun _ _ h=>by cases h),fun i x f u ys e' h1 k j _=>g.rows i x f u ys e' h1 k j,g.one,c⟩
def A00 (hE:T1 E)(h:Rp E A s ρ S a as w){R:Type}{k:K E R}{r:R}{T U:Nat}{x:V E.D}{J:Value}(hx:VS E ρ s.nid w.heap S x J)(ty:Nat)(hk:o0t E s T x U k=some r):
  ∃s1 v u w1,k s1 v=some r/\K5 E A s ρ S a as w s1 v u w1/\(Builtin.append_ #[T,T] ty #[J,hd (ρ U)]).run E.P w=.ok u w1:=by
 unfold o0t at hk;split at hk<;>try cases hk
 rename_i e he;split at hk<;>try cases hk
 rename_i t z sz bytes e2 F I a1 ht p3 k3;split at hk<;>try cases hk
 rename_i ys g xs e1 b2 l1;split at hk<;>try cases hk
 rename_i o3;split at hk<;>try cases hk
 rename_i e5;simp only[and_eq_true,beq_eq]at e1;obtain⟨⟨e1,rfl⟩,b7⟩:=e1;obtain⟨ec,b2⟩:=a0u b2;subst ec;subst b2;obtain⟨rfl,h1,h2,h3⟩:=d0p e1;obtain⟨i,hi,p6,n1,o4⟩:=d0U p3;have hT:=d0V he;have h4:=e0u k3;have c3:Q1 (F0 s U)=true:=by rw[h4];rfl
 have p7:=h.i7 (id:=U) (by rw[h4];simp);obtain⟨cs,e7,C,l0,b1⟩:=D0D h hx l1;have C:=C b7;have l:=h.th U;rw[h4]at l;obtain⟨ds,l⟩:=l;have e4:Go.X.tl (ρ U)=ds:=l.tl;have p1:(E.P.info? e).map (fun i=>(i.zero,i.size,i.bytes))=some (some z,(b01 (J0 E I).sz).sz,bytes):=by rw[hi];simp[p6,n1,o4,b01]
 have o1:(decide (z.cells.size=(b01 (J0 E I).sz).sz)&&decide (0<(b01 (J0 E I).sz).sz)&&decide (0<bytes))=true:=by simp[b01,h1,h2,h3]
 obtain⟨zx,h5,o2,o5⟩:=n0U (n:=(J0 E I).sz) (H:=w.heap) (S:=S) xs.length cs e7.1 C.one;obtain⟨zy,c7,p5,o0⟩:=n0U (n:=(J0 E I).sz) (H:=w.heap) (S:=S) a1.length ds l.row.1 l.one;obtain⟨A',c,k6⟩:=Row.form l.row;have b5:=l.row;rw[k6]at b5;have n3:Q4 (b01 (J0 E I).sz) w.heap S A' zy:=by
  intro p q hq;have hp:p<a1.length:=by rw[<-c7];exact(List.getElem?_eq_some_iff.1 hq).1
  cases A' with
  |none=>
   rcases b5.2 with⟨h0,_⟩|⟨g,cap,cur,hv,_⟩
   ·omega
   ·cases hv
  |some ad=>
   obtain⟨b,o,fl⟩:=ad;have p2:fl=none:=by
    rcases b5.2 with⟨h0,_⟩|⟨g,cap,cur,hv,_⟩
    ·omega
    ·simp at hv;exact hv.1.2.2
   subst p2;obtain⟨_,_,_,hc⟩:=Row.cell b5 O';have hR:=o0.2 p q hq;refine⟨b,o,_,rfl,hR,fun j v hj=>?_⟩;have n0:j<(J0 E I).sz:=by
    rcases lt_or_ge j (J0 E I).sz with h|h
    ·exact h
    ·rw[List.getElem?_eq_none (by rw[length_take];show min (J0 E I).sz _<=j;omega)]at hj;cases hj
   have hj:((ds.drop (p*(J0 E I).sz)).take (J0 E I).sz)[j]?=some v:=hj;rw[List.getElem?_take_of_lt n0,List.getElem?_drop]at hj;have hle:p*(J0 E I).sz+(J0 E I).sz<=a1.length*(J0 E I).sz:=by rw[<-succ_mul];exact mul_le_mul_right _ hp
   show O1 w.heap b (o+p*(J0 E I).sz+j)=some v;rw[Nat.add_assoc,hc w.heap rfl _ O'];exact hj
 have k2:∀u∈J :: cs,∀k,B1 u=some k->S k:=fun u hu k hk=>by
  obtain⟨j,_,_,m,d⟩:=b1 u hu k hk;exact(h.ow j m k d).1
 have h6:K0 bytes zx zy=true:=by unfold K0 at e5 ⊢;rw[h5,c7];exact e5
 obtain⟨v',w1,e6,hg,h7,_,h8⟩:=j0Z (T:=b01 (J0 E I).sz) (S:=S) (w:=w) (ty:=ty) (c:=c) E.P hT p1 o1 (by rw[h5];exact e7) o5 (fun k hk=>k2 J X' k hk) n3 h6;rw[c7]at e6;have c0:∀k,k<w.heap.size->B1 J≠some k->w1.heap[k]?=w.heap[k]?:=fun k hk hn=>hg.block k hk hn;have y:P0 w.heap S w1.heap (inX v' S):=⟨hg.size,fun b hb hn=>⟨fun hi=>by
   rcases hi with hi|hi
   ·rcases(h7 b hi).1 with e|e
    ·exact hn (k2 J X' b e)
    ·omega
   ·exact hn hi,c0 b hb (fun e=>hn (k2 J X' b e))⟩⟩
 have l3:∀k,B1 v'=some k->k<w1.heap.size:=fun k hk=>(h7 k hk).2;obtain⟨p8,b3,k0⟩:=h8 _ y;have c6:=t0a _ _ k0;rw[List.flatten_append,o2,p5]at c6;subst c6;rw[length_append,h5,c7,<-length_append]at b3;have k1:∀k,B1 v'=some k->B1 J=some k\/w.heap.size<=k:=fun k hk=>(h7 k hk).1;have c5:∃A1 c1,v'=.slice A1 (xs++a1).length c1:=Row.form b3;obtain⟨A1,c1,c5⟩:=c5;have b9:∀u∈ds,∀k,B1 u=some k->Bk (ρ U) k:=fun u hu k hk=>Bk.tl (by rw[e4];exact hu) hk;have c8:∀u∈J :: cs,∀k,B1 u=some k->¬Bk (ρ U) k:=fun u hu k hk=>by
  obtain⟨j,hj,_,m,d⟩:=b1 u hu k hk;subst hj;refine h.dj j U ?_ m c3 k d
  rintro rfl
  simp at o3
 have b6:M7 E w.heap S F I a1 ds:=⟨l.sz,fun i x f u ys e' h1 h2 h3=>l.rows i x f u ys e' h1 h2 h3 X',l.one⟩
 have b4:=C.live b7;have b8:=b6.live b7;have k5:∀u∈cs,∀k,B1 u=some k->B1 J≠some k:=fun u hu k hk c4=>by
  obtain⟨p,hp⟩:=List.getElem?_of_mem hu;exact l0 0 (p+1) J u O' rfl (by simpa using hp) k c4 hk
 have e3:M7 E w1.heap (inX v' S) F I (xs++a1) (cs++ds):=
  (C.mono y fun u hu b hb=>c0 b (b4 u hu b hb) (k5 u hu b hb)).app (b6.mono y fun u hu b hb=>c0 b (b8 u hu b hb) (fun e=>c8 J X' b e (b9 u hu b hb)))
 have k4:d07 (v' :: (cs++ds)):=by
  have key:∀(i:Nat) (u:Value),(v' :: (cs++ds))[i]?=some u->∀k,B1 u=some k->(i=0/\u=v')\/(0<i/\i<=cs.length/\(J :: cs)[i]?=some u/\u∈cs)\/(cs.length<i/\(hd (ρ U) :: Go.X.tl (ρ U))[i-cs.length]?=some u/\u∈ds):=by
   intro i u hi k hk;cases i with
   |zero=>exact .inl ⟨rfl,(Option.some.inj hi).symm⟩
   |succ i=>
    simp only[List.getElem?_cons_succ]at hi;rcases lt_or_ge i cs.length with h9|h9
    ·rw[List.getElem?_append_left h9]at hi;exact .inr (.inl ⟨O',O',by simpa using hi,mem_of_getElem? hi⟩)
    ·rw[List.getElem?_append_right h9]at hi;exact .inr (.inr ⟨O',by rw[e4,show i+1-cs.length=(i-cs.length)+1 from O'];simpa using hi,mem_of_getElem? hi⟩)
  intro i j v1 v2 l2 hi hj k m d;have l4:∀u∈cs,B1 u=some k->B1 v'≠some k:=fun u hu hk c4=>by
   rcases k1 k c4 with h9|h9
   ·exact k5 u hu k hk h9
   ·have:=b4 u hu k hk;omega
  have k8:∀u∈ds,B1 u=some k->B1 v'≠some k:=fun u hu hk c4=>by
   rcases k1 k c4 with h9|h9
   ·exact c8 J X' k h9 (b9 u hu k hk)
   ·have:=b8 u hu k hk;omega
  rcases key i v1 hi k m with⟨i0,rfl⟩|⟨i0,i1,i2,i3⟩|⟨i0,i1,i2⟩
  ·rcases key j v2 hj k d with⟨j0,rfl⟩|⟨j0,j1,j2,j3⟩|⟨j0,j1,j2⟩
   ·omega
   ·exact l4 v2 j3 d m
   ·exact k8 v2 j2 d m
  ·rcases key j v2 hj k d with⟨j0,rfl⟩|⟨j0,j1,j2,j3⟩|⟨j0,j1,j2⟩
   ·exact l4 v1 i3 m d
   ·exact l0 i j v1 v2 l2 i2 j2 k m d
   ·exact c8 v1 (by simp[i3]) k m (b9 v2 j2 k d)
  ·rcases key j v2 hj k d with⟨j0,rfl⟩|⟨j0,j1,j2,j3⟩|⟨j0,j1,j2⟩
   ·exact k8 v1 i2 m d
   ·exact c8 v2 (by simp[j3]) k d (b9 v1 i2 k m)
   ·exact l.ap _ _ v1 v2 O' i1 j1 k m d
 have p0:Cx A.w0 A.W0 A.S0 w1 (inX v' S):=by
  have cx:=h.cx;refine⟨⟨hg.os.trans cx.bel.os,hg.tape.trans cx.bel.tape,hg.output.trans cx.bel.output,le_trans cx.bel.size hg.size,fun k hk hn=>(c0 k (by have:=cx.size;omega) (fun e=>?_)).trans (cx.bel.block k hk hn)⟩,fun b hb=>.inr (cx.sub b hb),fun b hb=>?_,cx.lt0⟩
  ·obtain⟨j,_,_,m,d⟩:=b1 J X' k e;rcases(h.ow j m k d).2.2 with h2|h2
   ·exact hn h2
   ·omega
  ·rcases hb with hb|hb
   ·exact l3 b hb
   ·exact Nat.lt_of_lt_of_le (cx.lt b hb) hg.size
 have hG:∃G:List Nat,(d0c s g).at U .gone=Z0 s G/\U∈G/\∀j,g=some j->j∈G:=by
  cases g with
  |none=>exact⟨[U],rfl,X',fun j hj=>by cases hj⟩
  |some j=>exact⟨[j,U],rfl,X',fun j' hj=>by cases hj;simp⟩
 obtain⟨G,o6,n4,c9⟩:=hG;rw[o6]at hk;have n9:=h.take (x:=.X0 e F I (xs++a1) none) (v:=.tuple (v' :: (cs++ds)).toArray) (G:=G) p0 y (fun k hk=>.inr hk) (fun k hk hn=>c0 k hk fun e=>by
   obtain⟨j,q0,_,m,d⟩:=b1 J X' k e;exact hn j (c9 j q0) m d) (fun k hk _=>by
   rcases d0T.1 hk with hk|⟨u,hu,hk⟩
   ·have hk:B1 v'=some k:=hk;refine⟨.inl hk,?_⟩;rcases k1 k hk with h9|h9
    ·obtain⟨j,q0,_,m,d⟩:=b1 J X' k h9;exact .inl ⟨j,c9 j q0,m,d⟩
    ·exact .inr O'
   ·have hu:u∈cs++ds:=hu;rcases mem_append.1 hu with hu|hu
    ·obtain⟨j,q0,_,m,d⟩:=b1 u (by simp[hu]) k hk;exact⟨.inr (h.ow j m k d).1,.inl ⟨j,c9 j q0,m,d⟩⟩
    ·exact⟨.inr (h.ow U c3 k (b9 u hu k hk)).1,.inl ⟨U,n4,c3,b9 u hu k hk⟩⟩) ⟨_,v7.of b3 b7 e3 k4⟩ (by intros;simp)
 refine⟨_,_,v',w1,hk,⟨⟨_,_,n9,?_,y⟩,(Ext.Z0 s G).trans (Ext.new _ _),(a0q G s).2.1,fun e9=>?_⟩,by rw[k6];exact e6⟩
 ·refine VS.of rfl ?_;unfold VC;rw[W4];refine⟨?_,by show v'.oneCell'=true;rw[c5];rfl,rfl⟩;show s.nid<(Z0 s G).nid+1;rw[(a0q G s).1];omega
 ·intro n2 p4;exact c0 e9 n2 fun e=>by
   obtain⟨j,q0,q3,m,d⟩:=b1 J X' e9 e;exact p4 j q3 m (F0V (c9 j q0)) d
def A06 {α:Type}{T:Ty α}{t ty e:TypeId}{bytes:Nat}{z:Value}{xs ys:List α}{A B:Option Addr}{c d:Nat}(P:Program)(ht:P.underlying t=some (.slice e))(hE:(P.info? e).map (fun i=>(i.zero,i.size,i.bytes))=some (some z,T.sz,bytes))(n:(decide (z.cells.size=T.sz)&&decide (0<T.sz)&&decide (0<bytes))=true)
  (r:Sl T w.heap S B d xs) (hd:d<=xs.length) (b5:Q4 T w.heap S A ys) (q:K0 bytes xs ys=true) (e1:∀b,S b->b<w.heap.size):
  ∃w1 A1 c1,(Builtin.append_ #[t,t] ty #[.slice B xs.length d,.slice A ys.length c]).run P w=.ok (.slice A1 (xs++ys).length c1) w1/\Below w.heap.size w w1/\Sl T w1.heap S A1 c1 (xs++ys):=by
 obtain⟨i,hi,b4⟩:=Option.map_eq_some_iff.1 hE;simp only[Prod.mk.injEq]at b4;obtain⟨hz,b3,b7⟩:=b4;simp only[and_eq_true,decide_eq_true_eq]at n;simp only[K0,decide_eq_true_eq]at q;have c6:=r.1;have b8:d=xs.length:=O'
 have U:xs.length+ys.length<=maxLen:=by
  have:xs.length+ys.length<=(xs.length+ys.length)*bytes:=Nat.le_mul_of_pos_right _ n.2;simp only[maxLen];omega
 rcases eq_zero_or_pos ys.length with h0|hpos
 ·have h0:ys=[]:=eq_nil_of_length_eq_zero h0;subst h0;refine⟨w,B,d,?_,Below.refl _ w,by simpa using r⟩;rw[List.append_nil];cases A<;>cases B<;>simp[Builtin.append_,run_underlying ht,sizeOf,typeInfo,hi,Builtin.lenOf,Builtin.firstCells,loadCells,loadCellsFrom,c6,storeCells]
 ·obtain⟨b,off,_,hA,_⟩:=b5 0 ys[0] (by simp[hpos]);subst hA;have rd:∀{A:Option Addr} {xs:List α},Q4 T w.heap S A xs->∃news,R1 T w.heap S news xs/\∀b o,A=some ⟨b,o,none⟩->∀j u,news[j]?=some u->O1 w.heap b (o+0*T.sz+j)=some u:=fun hr=>Q4.news (w:=w) (k:=0) (fun i x hx=>by
   obtain⟨b,o,cs,h1,h2,m⟩:=hr i x hx;exact⟨b,o,cs,h1,h2,fun j v hj=>by rw[zero_add];exact m j v hj⟩)
  obtain⟨news,C,I⟩:=rd b5;obtain⟨f,J,R⟩:=rd r.O8;have p:∀j u,news[j]?=some u->w.cell? ((⟨b,off,none⟩:Addr).add j)=some u:=by
   intro j u hj;rw[k7];have:=I b off rfl j u hj;simpa using this
  have key:∃v' w1,(Builtin.append_ #[t,t] ty #[.slice B xs.length d,.slice (some ⟨b,off,none⟩) ys.length c]).run P w=.ok v' w1/\w1.ownsRow w.heap.size e T.sz v' (xs.length+ys.length) (f++news)/\Below w.heap.size w w1:=by
   cases B with
   |none=>
    have c7:xs=[]:=by
     cases xs with
     |nil=>rfl
     |cons y ys=>obtain⟨b,o,cs,h,_⟩:=r.O8 0 y X';cases h
    subst c7;have c9:d=0:=b8;subst c9;have c5:f=[]:=eq_nil_of_length_eq_zero (by have:=J.1;simpa using this);subst c5;obtain⟨v',w',l,h2,m,_,_⟩:=run_append_own_at (P:=P) w w.heap.size t ty e i z T.sz bytes ht hi hz b3 b7 n.1.1 n.1.2 (.slice none 0 0) 0 [] ⟨X',.inl ⟨rfl,rfl⟩⟩ ⟨b,off,none⟩ ys.length c news C.1 p C.e0w (by simpa using U) (by simpa using q) (le_refl _);exact⟨v',w',l,by simpa using h2,m.os,m.tape,m.output,m.size,fun k hk=>m.block k hk (by simp[Value.ownBlock])⟩
   |some ad=>
    obtain⟨v',w',l,h2,m⟩:=run_append_arg_grows (P:=P) w t ty e i z T.sz bytes ht hi hz b3 b7 n.1.1 n.1.2 ad xs.length d f J.1 (fun j u hj=>by
     have e2:j<f.length:=by
      rcases lt_or_ge j f.length with h|h
      ·exact h
      ·rw[List.getElem?_eq_none h]at hj;cases hj
     have c8:xs≠[]:=by rintro rfl;have:=J.1;simp only[List.length_nil,Nat.zero_mul]at this;omega
     obtain⟨b2,o2,a1,_⟩:=r.2.1 c8;have a1:=Option.some.inj a1;subst a1;rw[k7];have:=R b2 o2 rfl j u hj;simpa using this) ⟨b,off,none⟩ ys.length c news C.1 p O' U q
    exact⟨v',w',l,h2,m.os,m.tape,m.output,m.size,fun k hk=>m.block k hk X'⟩
  obtain⟨v',w1,l,b6,hb⟩:=key;have hk:P0 w.heap S w1.heap S:=P0.ext S hb;obtain⟨hl,hv|⟨g,cap,cur,hv,c4,hg,b9,hm,c3,b1⟩⟩:=b6
  ·exact absurd hv.2 O'
  ·have c0:Ow T e (fun k=>w.heap.size<=k) w1.heap (fun k=>k=g\/S k) (.slice (some ⟨g,0,none⟩) (xs++ys).length cap) (xs++ys):=by
    refine⟨fun k hk=>?_,f++news,⟨by simpa using hl,.inr ⟨g,cap,cur,rfl,hg,by simpa using b9,hm,c3,by simpa using b1⟩⟩,?_⟩
    ·simp[Value.ownBlock]at hk;subst hk;exact⟨.inl rfl,c4⟩
    ·have k2:P0 w.heap S w1.heap (fun k=>k=g\/S k):=⟨hk.size,fun b hb hn=>⟨fun hi=>hi.elim (fun e=>O') hn,(hk.blk b hb hn).2⟩⟩
     exact(J.L0 k2).append (C.L0 k2)
   refine⟨w1,some ⟨g,0,none⟩,cap,by rw[l,hv];simp,hb,c0.freeze (fun _ h=>.inr h) (fun b hb hs=>?_)⟩;simp[Value.ownBlock]at hb;subst hb;have:=e1 _ hs;omega
def E06 (hE:T1 E)(h:Rp E A s ρ S a as w){R:Type}{k:K E R}{r:R}{T:Nat}{x y:V E.D}{ux uy:Value}(hx:VS E ρ s.nid w.heap S x ux)(hy:VS E ρ s.nid w.heap S y uy)(ty:Nat)(hk:q0L E s T x y k=some r):
  ∃s1 v u w1,k s1 v=some r/\K5 E A s ρ S a as w s1 v u w1/\(Builtin.append_ #[T,T] ty #[ux,uy]).run E.P w=.ok u w1:=by
 unfold q0L at hk;split at hk
 ·rename_i m J b;have q:x=.df m J:=by
   cases x<;>simp only[k0J]at b<;>try cases b
   rfl
  subst q;unfold w0Q at hk;split at hk<;>try cases hk
  rename_i e he;split at hk<;>try cases hk
  rename_i t z sz bytes ht I;split at hk<;>try cases hk
  rename_i ys xs U f C;split at hk<;>try cases hk
  rename_i g;obtain⟨ec,C⟩:=a0u C;subst ec;subst C;obtain⟨rfl,h1,h2,h3⟩:=d0p U;obtain⟨i,hi,b1,n,b3⟩:=d0U I;have hT:=d0V he;obtain⟨A',c,rfl,a1⟩:=h0y h hy f;obtain⟨c0,l,rfl⟩:=hx;unfold VC at l;obtain⟨B,rfl,p⟩:=l;have o:(E.P.info? e).map (fun i=>(i.zero,i.size,i.bytes))=some (some z,(J0 E m).sz,bytes):=by rw[hi];simp[b1,n,b3]
  have b2:(decide (z.cells.size=(J0 E m).sz)&&decide (0<(J0 E m).sz)&&decide (0<bytes))=true:=by simp[h1,h2,h3]
  obtain⟨w1,A1,c1,d,hb,j⟩:=A06 (c:=c) (ty:=ty) E.P hT o b2 p (le_refl _) a1 g h.cx.lt;refine⟨_,_,_,w1,hk,⟨⟨ρ,S,h.ext hb,VS.of rfl (by unfold VC;exact⟨A1,c1,rfl,j⟩),P0.ext S hb⟩,Ext.refl s,rfl,fun k hk _=>hb.block k hk⟩,d⟩
 ·exact s0w hE h hx hy ty hk
def G0i (e:T1 E)(h:Rp E A s ρ S a as w){R:Type}{k:K E R}{r:R}{T:Nat}{x y:V E.D}{p o:Value}(n:VS E ρ s.nid w.heap S x p)(l:VS E ρ s.nid w.heap S y o)(ty:Nat)(hk:o04 E s T x y k=some r):
  ∃s1 v u w1,k s1 v=some r/\K5 E A s ρ S a as w s1 v u w1/\(Builtin.append_ #[T,T] ty #[p,o]).run E.P w=.ok u w1:=by
 unfold o04 at hk;split at hk
 ·rename_i r0 j f b;split at hk<;>try cases hk
  rename_i s1 z;cases x<;>simp only[q09]at b<;>try cases b
  rename_i id;split at b<;>try cases b
  rename_i hl;obtain⟨_,rfl⟩:=n.a0m;obtain⟨ρ1,h1,h2,I,m,C,i,J,h7⟩:=y0s e h hl z;obtain⟨s2,v,u,w1,U,d,q3⟩:=s0w e h1 I (l.mono h2 h7 (P0.refl _ _)) ty hk;exact⟨s2,v,u,w1,U,⟨d.rp,m.trans d.ext,d.fr.trans C,fun k hk t=>d.old k hk (fun q e1 e0 e2 e3=>by
   obtain⟨r',g1,g0,g2,g3⟩:=J;rcases g3 q k e1 e3 with⟨g,e5⟩|g
   ·exact t q g (i q g e0) (G03 e2 m d.ext) e5
   ·exact t r' g1 g0 (g0S g2 m d.ext) g)⟩,q3⟩
 ·split at hk
  ·rename_i iy c;cases y<;>simp only[v0X]at c<;>try cases c
   split at c<;>try cases c
   obtain⟨_,rfl⟩:=l.a0m;exact A00 e h n ty hk
  ·exact E06 e h n l ty hk
def k04:Nat->List (Nat×Value)->Prop
 |_,[]=>True
 |j,p :: r=>p.1=j/\k04 (j+1) r
def u0I (z:Nat):∀(l:List (Nat×Value)) (j:Nat) (cells:Array Value) (d1 d2:List Value),cells.toList=d1++d2->d1.length=j*z->d2.length=l.length*z->k04 j l->(∀p∈l,p.2.cells.size=z)->
  ∃c',Instr.fill (fun i=>some (i*z,z)) cells l=some c'/\c'.toList=d1++l.flatMap (fun p=>p.2.cells.toList)
 |[],j,cells,d1,d2,h,_,h2,_,_=>by
  have:d2=[]:=eq_nil_of_length_eq_zero (by simpa using h2);subst this;exact⟨cells,rfl,by simpa using h⟩
 |(i,u) :: l,j,cells,d1,d2,h,h1,h2,d,hs=>by
  have m:i=j:=d.1;subst m;have d:k04 (i+1) l:=d.2;have hu:u.cells.size=z:=hs (i,u) X';have g:d2=d2.take z++d2.drop z:=(take_append_drop z d2).symm;simp only[List.length_cons,succ_mul]at h2;have k:u.cells.toList.length=z:=by simpa using hu
  generalize c:u.cells.toList=cl at k;have n:u.cells=cl.toArray:=by rw[<-c]
  have b:=n0M cl 0 (i*z) cells d1 (d2.take z) (d2.drop z) (by rw[<-g];exact h) O' (by rw[length_take];omega);have e:(u.cells.zipIdx.foldl (fun cs (p:Value×Nat)=>cs.setIfInBounds (i*z+p.2) p.1) cells).toList=(d1++cl)++d2.drop z:=by
   rw[append_assoc,<-b,n];simp[<-Array.foldl_toList]
  obtain⟨c',q,f⟩:=u0I z l (i+1) _ (d1++cl) (d2.drop z) e (by rw[length_append,h1,succ_mul];omega) (by rw[length_drop];omega) d (fun p hp=>hs p (by simp[hp]));refine⟨c',?_,by rw[f];simp[c]⟩;have o:cells.size=d1.length+d2.length:=by have:=congrArg List.length h;simpa using this
  simp only[Instr.fill];rw[if_neg]
  ·exact q
  ·rw[hu];simp;omega
def u0w (f:Operand->Value):∀(l:List (Nat×Operand)) (j:Nat),l0h j l=true->k04 j (l.map fun p=>(p.1,f p.2))
 |[],_,_=>trivial
 |(i,x) :: l,j,h=>by
  simp only[l0h,and_eq_true,beq_eq]at h;exact⟨h.1,u0w f l (j+1) h.2⟩
def r0N (j:T1 E){s1:St E.D}{n:Nat}{H:I0}{S1:D0}(o:∀id,K3 E ρ n H S1 (F0 s1 id) (ρ id)){t:U}(f:Operand->V E.D)(g:Operand->Value)(r:∀x,∀c,VC E ρ n H S (f x) c->VC E ρ n H S1 (f x) c)(hg:∀x,VS E ρ n H S (f x) (g x)):
  ∀(l:List (Nat×Operand)) (xs:List (Den E.D t)),(l.all fun p=>c0O (f p.2))=true->i0K E s1 t (l.map fun p=>f p.2)=some xs->xs.length=l.length/\R1 (J0 E t) H S1 ((l.map fun p=>(p.1,g p.2)).flatMap (fun p=>p.2.cells.toList)) xs/\∀p∈(l.map fun p=>(p.1,g p.2)),∀u∈p.2.cells.toList,u.oneCell'=true
 |[],xs,_,h=>by
  simp[i0K]at h;subst h;exact⟨rfl,R1.nil,fun p hp=>by simp at hp⟩
 |p :: l,xs,hs,h=>by
  simp only[map_cons,i0K]at h;split at h<;>try cases h
  rename_i x k v i;simp only[List.all_cons,and_eq_true]at hs;obtain⟨h1,z,y⟩:=r0N j o f g r hg l k hs.2 i;obtain⟨c,C,b,d,m⟩:=(hg p.2).cells j hs.1;have hR:=g0J j o v (r _ _ m);refine⟨by simp[h1],?_,fun q e u hu=>?_⟩
  ·rw[map_cons,List.flatMap_cons];have:(g p.2).cells.toList=c:=by rw[b]
   simp only[this];exact(R1.one hR).append z
  ·rw[map_cons,mem_cons]at e;rcases e with rfl|e
   ·rw[b]at hu;exact d u hu
   ·exact y q e u hu
def C0k (hE:T1 E)(h:Rp E A s ρ S a as w){R:Type}{k:K E R}{r:R}{T n:Nat}{parts:Array (Nat×Operand)}(hk:bsV E s T n parts.toList k=some r):
  ∃s1 v u w1,k s1 v=some r/\K5 E A s ρ S a as w s1 v u w1/\(Instr.buildSlice T n (parts.map fun p=>(p.1,a.eval p.2))).run E.P w=.ok u w1:=by
 unfold bsV at hk;split at hk<;>try cases hk
 rename_i e he;split at hk<;>try cases hk
 rename_i t z sz bytes ht b9;split at hk<;>try cases hk
 rename_i s1 U c5;split at hk<;>try cases hk
 rename_i xs c4;simp only[and_eq_true,beq_eq,Nat.ble_eq,all_eq_true]at U;obtain⟨⟨⟨⟨⟨c3,hn⟩,a1⟩,c8⟩,o⟩,d⟩:=U;obtain⟨rfl,h1,h2,h3⟩:=d0p c3;obtain⟨i,hi,c6,f,e1⟩:=d0U b9;have hT:=d0V he;obtain⟨S1,b3,J,b2,b8,C⟩:=a0g hE _ s _ s1 c5 S h;have I:=J.th;rw[C]at I;obtain⟨hl,l,c9⟩:=r0N hE I (N1 E s) a.eval (fun x c hc=>hc.d0h b3) h.val parts.toList xs (all_eq_true.2 fun p hp=>(d p hp).1) c4;have m:∀p∈parts.toList.map (fun p=>(p.1,a.eval p.2)),p.2.cells.size=(J0 E t).sz:=by
  intro p hp;obtain⟨q,hq,rfl⟩:=List.mem_map.1 hp;obtain⟨c,hc,b5,_,c7⟩:=(h.val q.2).cells hE (d q hq).1;have:=i01 hE c7 (d q hq).1;rw[(d q hq).2]at this;simp only;rw[b5];simpa using this
 have hm:n*i.size=n*(J0 E t).sz:=by rw[f]
 obtain⟨c',hf,j⟩:=u0I (J0 E t).sz (parts.toList.map fun p=>(p.1,a.eval p.2)) 0 ((Array.range (n*i.size)).map (z.cells[· % z.cells.size]!)) [] _ rfl X' (by
  rw[Array.length_toList,Array.size_map,Array.size_range,hm,List.length_map,hn]) (u0w a.eval _ 0 a1) m
 simp only[nil_append]at j;have y:(Instr.buildSlice T n (parts.map fun p=>(p.1,a.eval p.2))).run E.P w=.ok (.slice (some ⟨w.heap.size,0,none⟩) n n) (w.alloc (.cells c' e)):=by
  have b1:¬n*i.size>2 ^ 24:=by
   rw[hm];have:n*(J0 E t).sz<=10000*1000:=Nat.mul_le_mul c8 o;omega
  by_cases h0:n*i.size=0
  ·have b4:n=0:=by
    rw[f]at h0;rcases Nat.mul_eq_zero.1 h0 with h|h
    ·exact h
    ·omega
   subst b4;have b6:parts=#[]:=by
    have:parts.toList=[]:=eq_nil_of_length_eq_zero hn.symm;simpa using this
   subst b6;have b7:c'=#[]:=by
    have:=congrArg List.length j;simpa using this
   subst b7;have e0:Array.range 0=#[]:=rfl;simp[Instr.buildSlice,run_underlying hT,sizeOf,typeInfo,hi,newRow,Instr.fill,e0]
  ·have:=run_buildSlice w T e n (parts.map fun p=>(p.1,a.eval p.2)) c' i z hT hi c6 b1 h0 (by rw[f,Array.toList_map];rw[<-f]at hf ⊢;exact hf);exact this
 have hB:=Below.new w (.cells c' e);have b:c'.toList.length=n*(J0 E t).sz:=by rw[j,l.1,hl,hn]
 have res:=J.j0k (e:=e) (t:=t) (xs:=xs) (v:=.slice (some ⟨w.heap.size,0,none⟩) n n) hB (fun k hk=>by obtain⟨_,rfl⟩:=d0S hk;simp) rfl (fun S2 c0 _=>by
  have g:xs.length=n:=by rw[hl,hn]
  refine⟨c'.toList,Row.ofV ⟨by rw[g];exact b,.inr ⟨w.heap.size,n,c',by rw[g],heap_alloc_new w _,by rw[g];exact le_refl _,by simp only[maxLen];omega,by simpa using b,?_⟩⟩,?_⟩
  ·rw[g,List.take_of_length_le (by rw[b];exact le_refl _)]
  ·rw[j];exact l.L0 c0)
 obtain⟨⟨ρ1,S2,r1,r2,r3⟩,r4,r5,r6⟩:=res;exact⟨_,_,_,_,hk,⟨⟨ρ1,S2,r1,r2,(P0.less b3).trans r3⟩,b2.trans r4,r5.trans b8,fun k hk _=>hB.block k hk⟩,y⟩
def u0N:∀(l:List U) (h:HL E.D l) (R0:List Value) {H:I0} {S:D0},b0B l=true->(a0S E l).R H S R0 h->∀f u (y:List (Den E.D u)),I5 l h f=some ⟨.list u,y⟩->∃b c,R0[f]?=some (.slice b y.length c)
 |[],_,_,_,_,_,_,f,_,_,hg=>by simp[I5]at hg
 |t :: l,h,R0,H,S,hb,hr,f,u,y,hg=>by
  simp only[b0B,and_eq_true]at hb;obtain⟨d,e⟩:=hb;cases t<;>simp only[i0f,Bool.false_eq_true]at d
  rename_i i;obtain⟨c1,c2,rfl,⟨b,c,h1,_⟩,k⟩:=hr;subst h1;cases f with
  |zero=>
   have hg:(⟨.list i,h.1⟩:(t:U)×Den E.D t)=⟨.list u,y⟩:=Option.some.inj hg;cases hg;exact⟨b,c,rfl⟩
  |succ f=>
   obtain⟨g,m,j⟩:=u0N l h.2 c2 e k f u y hg;exact⟨g,m,by simpa using j⟩
def E0b (h:T1 E){H:I0}{S:D0}{t:U}{F:List Nat}{x:Den E.D t}{R0:List Value}(e:C9 E t F=true)(g:(J0 E t).R H S R0 x){f:Nat}{u:U}{ys:List (Den E.D u)}(b:V2 E t x f=some ⟨u,ys⟩):∃d c,R0[f]?=some (.slice d ys.length c):=by
 simp only[C9,and_eq_true,beq_eq]at e;obtain⟨⟨_,_⟩,hk⟩:=e;cases t with
 |list u0=>
  obtain⟨d,c,h1,_⟩:=g;subst h1;cases f with
  |zero=>
   have b:(⟨u0,x⟩:(u:U)×List (Den E.D u))=⟨u,ys⟩:=Option.some.inj b;cases b;exact⟨d,c,rfl⟩
  |succ f=>exact absurd (show none=some _ from b) X'
 |st k=>
  have b:c0N (I5 (E.fs k) (E.un k x) f)=some ⟨u,ys⟩:=b;cases hg:I5 (E.fs k) (E.un k x) f with
  |none=>rw[hg]at b;cases b
  |some p=>
   obtain⟨i,y⟩:=p;rw[hg]at b;cases i with
   |list u1=>
    have b:(⟨u1,y⟩:(u:U)×List (Den E.D u))=⟨u,ys⟩:=Option.some.inj b;cases b;exact u0N _ _ _ hk ((h.st k H S R0 x).1 g) f _ _ hg
   |_=>exact absurd (show none=some _ from b) X'
 |_=>simp at hk
def M7.F0q (p:T1 E){H:I0}{S:D0}{t:U}{F:List Nat}{z:List Value}{x:Den E.D t}(k:C9 E t F=true)(y:(J0 E t).R H S z x)(hn:∀v∈z,v=z7)(m:Nat):M7 E H S F t (List.replicate m x) (List.replicate m z).flatten:=by
 have d:=l0r y m;have g:=(d0C k).1;have b:∀v∈(List.replicate m z).flatten,v=z7:=by
  intro v e;obtain⟨l,hl,e⟩:=List.mem_flatten.1 e;rw[List.eq_of_mem_replicate hl]at e;exact hn v e
 refine⟨by rw[<-g];exact d.1,fun i x' f u ys e' h1 q o=>?_,fun v e=>by rw[b v e];rfl⟩;have hi:=(List.getElem?_eq_some_iff.1 h1).1;have r:f<F.length:=(List.getElem?_eq_some_iff.1 o).1;obtain⟨C,c,j⟩:=E0b p k (d.2 i x' h1) q;rw[g,List.getElem?_take_of_lt r,List.getElem?_drop]at j;have h:=b _ (mem_of_getElem? j);unfold z7 at h;simp only[Value.slice.injEq]at h;have n:ys=[]:=eq_nil_of_length_eq_zero h.2.1;subst n;refine⟨_,j,[],⟨X',.inl ⟨rfl,none,?_⟩⟩,R1.nil⟩;rw[h.1,h.2.2];rfl
def y0v {D:Nat->Type}{v:V D}(h:isNil v=true):v=.nil:=by
 cases v<;>simp[isNil]at h
 rfl
def t0J {n:Nat}{H:I0}:∀{l:List (V E.D)} {c:List Value},T0 E ρ n H S l c->l.all isNil=true->∀v∈c,v=z7
 |[],c,h,_,v,b=>by unfold T0 at h;subst h;cases b
 |x :: l,c,h,hl,v,b=>by
  unfold T0 at h;obtain⟨c1,c2,rfl,h1,d⟩:=h;rw[List.all_cons,and_eq_true]at hl;obtain rfl:=y0v hl.1;unfold VC at h1;subst h1;rcases mem_append.1 b with b|b
  ·simpa[z7]using b
  ·exact t0J d hl.2 v b
def F06 (hE:T1 E)(h:Rp E A s ρ S a as w){R:Type}{k:K E R}{r:R}{T:Nat}{n m:Operand}(hk:n0d E s T n m k=some r):
  ∃s1 v u w1,k s1 v=some r/\K5 E A s ρ S a as w s1 v u w1/\(Instr.makeSlice T (a.eval n) (a.eval m)).run E.P w=.ok u w1:=by
 unfold n0d at hk;split at hk<;>try cases hk
 rename_i e k0 x he hx hop;have b9:n=m:=by
  unfold j0Y at hop;split at hop
  ·rw[beq_eq]at hop;rw[hop]
  ·rw[of_decide_eq_true hop]
  ·cases hop
 subst b9;split at hk<;>try cases hk
 rename_i t z sz bytes F ht b4 hF;split at hk<;>try cases hk
 rename_i zx o hz;simp only[and_eq_true]at o;obtain⟨⟨o,p⟩,U⟩:=o;obtain⟨rfl,h1,h2,h3⟩:=d0p o;obtain⟨i,hi,b8,a1,c0⟩:=d0U b4;split at hk<;>try cases hk
 rename_i d;have hT:=d0V he;have b2:=E9 hx (h.val n);rw[b2];simp only[R2,and_eq_true,decide_eq_true_eq]at d;obtain⟨q,rfl⟩:=Int.eq_ofNat_of_zero_le d.1;have hq:q*bytes<=140737488355328:=by
  have h1:=d.2;have h2:((q*bytes:Nat):Int)<=140737488355328:=by rw[Int.natCast_mul];exact h1
  omega
 have c3:q<=q*bytes:=Nat.le_mul_of_pos_right _ h3;obtain⟨w1,J,b,hg⟩:=run_make_full (P:=E.P) w w.heap.size T e i z (J0 E t).sz hT hi b8 a1 k0 k0 q (by rw[c0,mul_comm];omega) (by simp only[maxLen];omega) (le_refl _);have hB:Below w.heap.size w w1:=⟨hg.os,hg.tape,hg.output,hg.size,fun k hk=>hg.block k hk X'⟩
 have hm:=n0t z.cells q;rw[h1]at hm;rw[hm]at b;have b:=Row.of b;have b3:∀S1,(J0 E t).R w1.heap S1 z.cells.toList zx:=by
  intro S1;refine g0J (ρ:=ρ) (n:=0) hE (fun id=>?_) hz (t0r z);show K3 E ρ 0 w1.heap S1 .gone (ρ id)
  trivial
 have I:∀v∈z.cells.toList,v=z7:=t0J (ρ:=ρ) (S:=S) (n:=0) (H:=w.heap) (l0f z) U;have C:∀S1,M7 E w1.heap S1 F t (List.replicate q zx) (List.replicate q z.cells.toList).flatten:=fun S1=>M7.F0q hE p (b3 S1) I q;have c:Row w1.heap e (J0 E t).sz (.slice (some ⟨w.heap.size,0,none⟩) q q) (List.replicate q zx).length (List.replicate q z.cells.toList).flatten:=by simpa using b
 have y:∀v∈(List.replicate q z.cells.toList).flatten,v=z7:=by
  intro v f;obtain⟨l,hl,f⟩:=List.mem_flatten.1 f;rw[List.eq_of_mem_replicate hl]at f;exact I v f
 have b7:d07 (.slice (some ⟨w.heap.size,0,none⟩) q q :: (List.replicate q z.cells.toList).flatten):=by
  intro i j v v' c4 hi hj k hk b5;have key:∀(i:Nat) (v:Value),(Value.slice (some ⟨w.heap.size,0,none⟩) q q :: (List.replicate q z.cells.toList).flatten)[i]?=some v->B1 v=some k->i=0:=by
   intro i v hi hk;cases i with
   |zero=>rfl
   |succ i=>
    simp only[List.getElem?_cons_succ]at hi;rw[y v (mem_of_getElem? hi)]at hk;cases hk
  have:=key i v hi hk;have:=key j v' hj b5;omega
 obtain⟨S1,b6,b1⟩:=h.new (x:=.X0 e F t (List.replicate q zx) none) (v:=.tuple (.slice (some ⟨w.heap.size,0,none⟩) q q :: (List.replicate q z.cells.toList).flatten).toArray) (w1:=w1) hB (fun k hk=>by
   rcases d0T.1 hk with hk|⟨u,hu,hk⟩
   ·have hk:B1 (.slice (some ⟨w.heap.size,0,none⟩) q q)=some k:=hk;obtain⟨c5,rfl⟩:=d0S hk;refine⟨le_refl _,?_⟩;rcases c.2 with⟨_,a,f⟩|⟨g,cap,cur,f,_,hgg,_⟩
    ·simp at f;omega
    ·simp at f;obtain⟨rfl,_⟩:=f;exact getElem?_lt hgg
   ·rw[y u hu]at hk;cases hk) (fun S1 _ _ _=>⟨_,v7.of c p (C S1) b7⟩)
 refine⟨_,_,_,w1,hk,⟨⟨_,S1,b1,?_,b6⟩,Ext.new s _,rfl,fun k hk _=>hB.block k hk⟩,J⟩;exact VS.of rfl (by unfold VC;rw[W4];exact⟨lt_succ_self _,rfl,rfl⟩)
def y0e (h:Rp E A s ρ S a as w){R:Type}{k:K E R}{r:R}{T n:Nat}{parts:Array (Nat×Operand)}(hk:bsT E s T n parts.toList k=some r):
  ∃s1 v u w1,k s1 v=some r/\K5 E A s ρ S a as w s1 v u w1/\(Instr.buildSlice T n (parts.map fun p=>(p.1,a.eval p.2))).run E.P w=.ok u w1:=by
 unfold bsT at hk;split at hk<;>try cases hk
 rename_i e x he c;have c:parts=#[(0,x)]:=by have:=congrArg List.toArray c;simpa using this
 subst c;split at hk<;>try cases hk
 rename_i u z sz bytes e' ht c4 hF;split at hk<;>try cases hk
 rename_i g ys t c5;rw[and_eq_true]at t;obtain⟨t,b4⟩:=t;obtain⟨rfl,h1,h2,h3⟩:=d0p t;obtain⟨i,hi,c8,I,e3⟩:=d0U c4;have hT:=d0V he;obtain⟨b1,q,hg⟩:=r0D h (h.val x) c5;have l:(J0 E (.list u)).sz=1:=rfl;have b2:(Instr.buildSlice T 1 (#[(0,x)].map fun p=>(p.1,a.eval p.2))).run E.P w=.ok (.slice (some ⟨w.heap.size,0,none⟩) 1 1) (w.alloc (.cells #[a.eval x] e)):=by
  have c9:z.cells.size=1:=by rw[h1];rfl
  have:=run_buildSlice w T e 1 (#[(0,x)].map fun p=>(p.1,a.eval p.2)) #[a.eval x] i z hT hi c8 (by rw[I,l];omega) (by rw[I,l];omega) (by
   rw[I,l];simp[Instr.fill,cells_one q,Array.range];exact Array.ext X' (by
                  intro i h1 h2;have:i=0:=by simp at h2;exact h2
                  subst this;simp))
  exact this
 have J:=Below.new w (.cells #[a.eval x] e);have d:P0 w.heap S (w.alloc (.cells #[a.eval x] e)).heap (fun k=>k=w.heap.size\/S k):=⟨J.size,fun b hb hn=>⟨fun hh=>hh.elim O' hn,J.block b hb⟩⟩
 have c3:=(h.cx.ext J).more (S1:=fun k=>k=w.heap.size\/S k) (fun _ h=>.inr h) (fun b hb=>hb.elim (fun e=>by subst e;simp) ((h.cx.ext J).lt b));have hblk:∀C,B1 (a.eval x)=some C->∃j,g=some j/\j<s.nid/\Q1 (F0 s j)=true/\Bk (ρ j) C:=by
  intro C m;cases g with
  |none=>
   have hg:a.eval x=z7:=hg;rw[hg]at m;cases m
  |some j=>
   obtain⟨b9,u9,y9,b3⟩:=hg;exact⟨j,rfl,h.i7 (by rw[b3];simp),by rw[b3];rfl,Bk.hd (by rw[b9,(e04 q).1];exact m)⟩
 have o:∀C,B1 (a.eval x)=some C->C<w.heap.size:=fun C m=>by
  obtain⟨_,c6,_⟩:=b1;exact Row.live c6 C m
 have hG:∃G:List Nat,d0c s g=Z0 s G/\∀j,g=some j->j∈G:=by
  cases g with
  |none=>exact⟨[],rfl,fun j hj=>by cases hj⟩
  |some j=>exact⟨[j],rfl,fun j' hj=>by cases hj;simp⟩
 obtain⟨G,c0,b7⟩:=hG;rw[c0]at hk;have b5:Row (w.alloc (.cells #[a.eval x] e)).heap e (J0 E (.list u)).sz (.slice (some ⟨w.heap.size,0,none⟩) 1 1) [ys].length [a.eval x]:=⟨rfl,.inr ⟨w.heap.size,1,#[a.eval x],rfl,X',heap_alloc_new w _,X',by simp[maxLen],rfl,rfl⟩⟩
 have a1:M7 E (w.alloc (.cells #[a.eval x] e)).heap (fun k=>k=w.heap.size\/S k) [e'] (.list u) [ys] [a.eval x]:=by
  refine⟨rfl,fun i y f u' b6 e2 g1 g2 g3=>?_,by simpa using q⟩;cases i with
  |succ i=>cases g1
  |zero=>
   obtain rfl:ys=y:=Option.some.inj g1;cases f with
   |succ f=>cases g3
   |zero=>
    obtain rfl:e'=e2:=Option.some.inj g3;have g2:(⟨u,ys⟩:(u:U)×List (Den E.D u))=⟨u',b6⟩:=Option.some.inj g2;cases g2;exact⟨a.eval x,rfl,b1.mono d fun b hb=>J.block b (o b hb)⟩
 have c7:d07 (.slice (some ⟨w.heap.size,0,none⟩) 1 1 :: [a.eval x]):=by
  intro i j v v' e1 hi hj k q1 q2;have key:∀(i:Nat) (v:Value),(Value.slice (some ⟨w.heap.size,0,none⟩) 1 1 :: [a.eval x])[i]?=some v->B1 v=some k->(i=0/\k=w.heap.size)\/(i=1/\k<w.heap.size):=by
   intro i v hi hk;cases i with
   |zero=>simp at hi;subst hi;cases hk;exact .inl ⟨rfl,rfl⟩
   |succ i=>
    cases i with
    |zero=>simp at hi;subst hi;exact .inr ⟨rfl,o k hk⟩
    |succ i=>simp at hi
  have:=key i v hi q1;have:=key j v' hj q2;omega
 have b8:=h.take (x:=.X0 e [e'] (.list u) [ys] none) (v:=.tuple (.slice (some ⟨w.heap.size,0,none⟩) 1 1 :: [a.eval x]).toArray) (G:=G) c3 d (fun k hk=>.inr hk) (fun k hk _=>J.block k hk) (fun k hk _=>by
   rcases d0T.1 hk with hk|⟨u',hu,hk⟩
   ·have hk:B1 (.slice (some ⟨w.heap.size,0,none⟩) 1 1)=some k:=hk;cases hk;exact⟨.inl rfl,.inr (le_refl _)⟩
   ·have hu:u'∈[a.eval x]:=hu;simp at hu;subst hu;obtain⟨j,q0,_,q1,q2⟩:=hblk k hk;exact⟨.inr (h.ow j q1 k q2).1,.inl ⟨j,b7 j q0,q1,q2⟩⟩) ⟨_,v7.of b5 b4 a1 c7⟩ (by intros;simp)
 refine⟨_,_,_,_,hk,⟨⟨_,_,b8,?_,d⟩,(Ext.Z0 s G).trans (Ext.new _ _),(a0q G s).2.1,fun k hk _=>J.block k hk⟩,b2⟩;refine VS.of rfl ?_;unfold VC;rw[W4];refine⟨?_,rfl,rfl⟩;show s.nid<(Z0 s G).nid+1;rw[(a0q G s).1];omega
def Rp.x0j (h:Rp E A s ρ S a as w){w1:World}{id:Nat}{x:Th E.D}(l:Q1 (F0 s id)=true)(R:Q1 x=false)(cx:Cx A.w0 A.W0 A.S0 w1 S)(m:∀k,k<w.heap.size->¬Bk (ρ id) k->w1.heap[k]?=w.heap[k]?)(u:w.heap.size<=w1.heap.size)
  (U:K3 E ρ s.nid w1.heap (fun k=>S k/\¬Bk (ρ id) k) x (ρ id)) (I:∀q i f,x≠.rof q i f:=by intros;simp):
  Rp E A (s.at id x) ρ (fun k=>S k/\¬Bk (ρ id) k) a as w1/\P0 w.heap S w1.heap (fun k=>S k/\¬Bk (ρ id) k):=by
 have b1:id<s.nid:=h.i7 (by rintro e;rw[e]at l;cases l);have hk:P0 w.heap S w1.heap (fun k=>S k/\¬Bk (ρ id) k):=⟨u,fun b a1 hn=>⟨fun h=>hn h.1,m b a1 (fun e=>hn (h.ow id l b e).1)⟩⟩
 have hl:∀j,F0 { s with th:=(id,x) :: s.th,nid:=s.nid } j=if id=j then x else F0 s j:=fun j=>T8 s id j x;have c:∀j,j≠id->j<s.nid->b0V s { s with th:=(id,x) :: s.th,nid:=s.nid } ρ ρ (fun k=>S k/\¬Bk (ρ id) k) w w1 j:=fun j v n=>
  ⟨by rw[hl,if_neg (Ne.symm v)],n,rfl,fun g k d=>⟨m k ((h.th j).live g k d) (fun C=>h.dj id j (Ne.symm v) l g k C d),(h.ow j g k d).1,fun C=>h.dj id j (Ne.symm v) l g k C d⟩⟩
 refine⟨h.step (nid1:=s.nid) (th1:=(id,x) :: s.th) ⟨⟨cx.bel,fun b m=>⟨cx.sub b m,fun e=>(h.ow id l b e).2.1 m⟩,fun b m=>cx.lt b m.1,cx.lt0⟩,hk,fun _ _=>rfl,le_refl _⟩ (fun j=>?_) fun r q i f p e F t xs hq=>?_,hk⟩
 ·by_cases e:id=j
  ·subst e;refine .inr ⟨by rw[hl,if_pos rfl];exact U,fun z=>?_,fun z=>O'⟩;rw[hl,if_pos rfl,R]at z;cases z
  ·by_cases n:j<s.nid
   ·exact .inl (c j (fun h=>e h.symm) n)
   ·rw[hl,if_neg e,h.lt j O'];exact .inr ⟨trivial,(fun l=>by cases l),fun _=>rfl⟩
 ·rw[hl]at p;split at p
  ·exact absurd p (I q i f)
  ·rename_i J;have y:=h.c0a p;rw[hl]at hq;split at hq
   ·rw[hq]at R;cases R
   ·rename_i o;exact .inl ⟨c r (Ne.symm J) (h.i7 (by rw[p];simp)),c q (Ne.symm o) y⟩
def y0N (h:Rp E A s ρ S a as w){R:Type}{k:K E R}{r:R}{T T':Nat}{x:V E.D}{ux:Value}(hx:VS E ρ s.nid w.heap S x ux)(hk:n0T E s T T' x k=some r):
  ∃s1 v u w1,k s1 v=some r/\K5 E A s ρ S a as w s1 v u w1/\(convert T T' ux).run E.P w=.ok u w1:=by
 unfold n0T at hk;split at hk<;>try cases hk
 rename_i id;split at hk<;>try cases hk
 rename_i e e' xs l hT hl;rw[beq_eq]at l;subst l;split at hk<;>try cases hk
 rename_i he;split at hk<;>try cases hk
 rename_i J;have hl:=j0O hl;obtain⟨m,rfl⟩:=hx.a0m;have q:=h.th id;rw[hl]at q;have q:E5 E w.heap S e' (.int .u8) xs (ρ id):=q;obtain⟨cs,⟨z,p⟩,o⟩:=q;rcases p with⟨h0,_⟩|⟨b,cap,cur,hfo,hp0,hg,hnc,hm,hcs,htake⟩
 ·have:xs=[]:=eq_nil_of_length_eq_zero h0;subst this;simp at J
 ·have c:Q1 (F0 s id)=true:=by rw[hl];rfl
  have d:Bk (ρ id) b:=by rw[hfo];exact e0S hp0
  have b1:∀k,Bk (ρ id) k->k=b:=fun k hk=>by rw[hfo]at hk;exact(d0S hk).2.symm
  obtain⟨hS,b2,hW⟩:=h.ow id c b d;have g:hd (ρ id)=ρ id:=by rw[hfo];rfl
  have C:w.shape? b=some (e',cur.size):=by unfold World.shape?;rw[hg]
  have n:(w.freeze ⟨b,cur.size,none⟩ 1).heap[b]?=some (.cells cur e' (cur.size,cur.size+1)):=by
   unfold World.freeze;rw[if_neg (by decide)];simp[Array.getElem?_modify,hg]
  have f:j5 b w (w.freeze ⟨b,cur.size,none⟩ 1):=by
   unfold World.freeze;rw[if_neg (by decide)];exact⟨rfl,rfl,rfl,X',fun k _ hk=>by simp[Array.getElem?_modify,Ne.symm hk]⟩
  have t:K3 E ρ s.nid (w.freeze ⟨b,cur.size,none⟩ 1).heap (fun k=>S k/\¬Bk (ρ id) k) (.fz (.int .u8) xs) (ρ id):=by
   obtain⟨A1,c1,h1,h2⟩:=k0f (S:=fun _=>False) ⟨z,.inr ⟨b,cap,cur,hfo,hp0,hg,hnc,hm,hcs,htake⟩⟩ (o.L0 (P0.less fun _ h=>h.elim)) (fun _ _ h=>h);rw[hfo]at h1;simp at h1;obtain⟨rfl,rfl⟩:=h1;refine⟨some ⟨b,0,none⟩,cap,by rw[g,hfo],hnc,fun _=>⟨b,0,rfl,getElem?_lt n,fun h=>h.2 d⟩,fun i y hy=>?_⟩;obtain⟨b',o',U,hA,hR,hc⟩:=h2.2.2 i y hy;simp at hA;obtain⟨rfl,rfl⟩:=hA;refine⟨b,0,U,rfl,hR,fun j v hj=>?_⟩;have:=hc j v hj;unfold O1 at this ⊢;rw[hg]at this;rw[n];exact this
  obtain⟨a1,I⟩:=h.x0j (w1:=w.freeze ⟨b,cur.size,none⟩ 1) (x:=.fz (.int .u8) xs) c rfl (f.cx h.cx hW) (fun k hk hn=>f.block k hk (fun e=>hn (by rw[e];exact d))) f.size t;refine⟨_,_,ρ id,_,hk,⟨⟨ρ,_,a1,VS.of rfl (by unfold VC;exact⟨m,by rw[g,hfo];rfl,by rw[g]⟩),I⟩,Ext.at s id _,rfl,fun k hk hq=>f.block k hk (fun e=>hq id m c (f0g s) (by rw[e];exact d))⟩,?_⟩;rw[g,hfo];simp[convert,run_underlying hT,run_underlying he,markStringish,C]
def C0P {id:Nat}{x:V E.D}{m:List (Int×Int)}(h:m02 E s x=some (id,m)):x=.mp id/\F0 s id=.map m:=by
 unfold m02 at h;split at h<;>try cases h
 rename_i i;split at h<;>try cases h
 rename_i hl;exact⟨rfl,hl⟩
def Rp.y02 (h:Rp E A s ρ S a as w){id:Nat}{m f:List (Int×Int)}(hl:F0 s id=.map m){r:Nat}(c:ρ id=.map (some r)){es:Array MapEntry}{cl:Nat}(hm:H8 es.toList f)(hg:∃g,w.heap[r]?=some g):
  Rp E A (s.at id (.map f)) ρ S a as (b0D w r (.map es cl))/\P0 w.heap S (b0D w r (.map es cl)).heap S:=by
 have b:Q1 (F0 s id)=true:=by rw[hl];rfl
 obtain⟨g,hg⟩:=hg;obtain⟨i,j,l⟩:=h.ow id b r (by rw[c];rfl);have d:=q0d w r (.map es cl);have kp:=d.L0 i;refine⟨h.turn (x:=.map f) (v:=ρ id) (h.i7 (by rw[hl];simp)) b (d.cx h.cx l) kp (fun _ h=>h) (fun k hk hn=>d.block k hk (fun e=>hn (by rw[c,e];rfl))) rfl (fun k hk=>(h.ow id b k hk).1) ⟨r,es,cl,c,u0p hg,hm⟩,kp⟩
def z04 (h:Rp E A s ρ S a as w){R:Type}{k:K E R}{r:R}{T:Nat}{x i y:V E.D}{I z C:Value}(hx:VS E ρ s.nid w.heap S x I)(hi:VS E ρ s.nid w.heap S i z)(U:VS E ρ s.nid w.heap S y C)(hk:p0k E s T x i y k=some r):
  ∃s1 v w1,k s1 v=some r/\K5 E A s ρ S a as w s1 v Go.undef w1/\(Instr.mapUpdate T I z C).run E.P w=.ok () w1:=by
 unfold p0k at hk;split at hk<;>try cases hk
 rename_i id m p q hm hp u hT;obtain⟨rfl,hl⟩:=C0P hm;obtain rfl:=q0K hp hi;obtain rfl:=q0K u U;obtain⟨j,rfl⟩:=hx.l0w;obtain⟨kt,et,h1,h2,h3⟩:=v0s hT;have J:=h.th id;rw[hl]at J;obtain⟨b,es,cl,c,hg,l⟩:=J;obtain⟨n,g,d,f⟩:=B06 (P:=E.P) (k:=p) (v:=q) h1 h2 hg l;obtain⟨t,o⟩:=h.y02 (cl:=g) hl c f ⟨_,hg⟩;refine⟨_,_,_,hk,⟨⟨ρ,S,t,VS.unit,o⟩,Ext.at s id _,rfl,fun k hk u=>(q0d w _ (.map n g)).block k hk (fun e=>u id j (by rw[hl];rfl) (f0g s) (by rw[c,e];rfl))⟩,?_⟩;rw[c];exact d
def B0s (h:Rp E A s ρ S a as w){T:Nat}:
  K5 E A s ρ S a as w (s.new (.map [])) (.mp s.nid) (.map (some w.heap.size)) { w with heap:=w.heap.push (.map #[] 0) }/\(Instr.makeMap T none).run E.P w=.ok (.map (some w.heap.size)) { w with heap:=w.heap.push (.map #[] 0) }:=by
 have d:Below w.heap.size w { w with heap:=w.heap.push (.map #[] 0) }:=⟨rfl,rfl,rfl,X',fun k hk=>by simp[Array.getElem?_push,Nat.ne_of_lt hk]⟩
 obtain⟨S1,b,c⟩:=h.new (x:=.map []) (v:=.map (some w.heap.size)) (w1:={ w with heap:=w.heap.push (.map #[] 0) }) d (fun k hk=>by cases hk;exact⟨le_refl _,X'⟩) (fun S1 _ _ _=>⟨w.heap.size,#[],0,rfl,X',rfl⟩);refine⟨⟨⟨_,S1,c,VS.of rfl (by unfold VC;rw[W4];exact⟨lt_succ_self _,rfl,rfl⟩),b⟩,Ext.new s _,rfl,fun k hk _=>d.block k hk⟩,?_⟩;simp[Instr.makeMap,newObj,Sem.run]
def D07 {α:Type}{T:Ty α}{S:D0}{t ty e ee:TypeId}{A B:Option Addr}{c d:Nat}{xs ys:List α}(P:Program)(ht:P.underlying t=some (.slice e))(hE:(P.info? e).map (·.size)=some 1)(q:T.sz=1)
  (n:Ow T ee (fun _=>True) w.heap S (.slice A xs.length c) xs) (R:Q4 T w.heap S B ys):
  ∃w1,(Builtin.copy_ #[t,t] ty #[.slice A xs.length c,.slice B ys.length d]).run P w=.ok (.int .i64 ((Nat.min ys.length xs.length:Nat):Int)) w1/\(w1=w\/∃g,A=some ⟨g,0,none⟩/\j5 g w w1)/\Ow T ee (fun _=>True) w1.heap S (.slice A xs.length c) (j4 xs ys):=by
 by_cases r:Nat.min ys.length xs.length=0
 ·refine⟨w,by rw[run_copy_none w t t ty e A B xs.length c ys.length d ht hE r,r];rfl,.inl rfl,?_⟩;have:j4 xs ys=xs:=by
   rcases eq_zero_or_pos xs.length with l|l
   ·have:=eq_nil_of_length_eq_zero l;subst this;simp[j4]
   ·have b1:ys.length=0:=by
     rcases le_total ys.length xs.length with hle|hle
     ·rwa [show Nat.min ys.length xs.length=ys.length from min_eq_left hle]at r
     ·rw[show Nat.min ys.length xs.length=xs.length from Nat.min_eq_right hle]at r;omega
    have:=eq_nil_of_length_eq_zero b1;subst this;simp[j4]
  rw[this];exact n
 ·have b4:0<xs.length:=by
   rcases eq_zero_or_pos xs.length with l|l
   ·exact absurd (by rw[l];exact Nat.min_zero _) r
   ·exact l
  have hyp:0<ys.length:=by
   rcases eq_zero_or_pos ys.length with l|l
   ·exact absurd (by rw[l];exact Nat.zero_min _) r
   ·exact l
  obtain⟨b,off,_,hB,_⟩:=R 0 ys[0] (by simp[hyp]);subst hB;obtain⟨news,p,m⟩:=Q4.news (w:=w) (xs:=ys) (k:=0) (A:=some ⟨b,off,none⟩) (T:=T) (S:=S) (fun i x hx=>by
   obtain⟨b,o,cs,h1,h2,h3⟩:=R i x hx;exact⟨b,o,cs,h1,h2,fun j v y=>by rw[zero_add];exact h3 j v y⟩)
  obtain⟨u,cs,⟨J,U⟩,C⟩:=n;rcases U with⟨z,l⟩|⟨g,cap,cur,z,hg,hnc,hm,hcs,htake⟩
  ·omega
  ·simp at z;obtain⟨rfl,rfl⟩:=z;rw[q,mul_one]at J hcs htake;have a1:news.length=ys.length:=by rw[p.1,q,mul_one]
   have f:(news.take xs.length).length=Nat.min ys.length xs.length:=by rw[length_take,a1];exact Nat.min_comm _ _
   have hr:=run_copy_row (P:=P) w t t ty e g 0 xs.length c ⟨b,off,none⟩ ys.length d cur ee (news.take xs.length) ht hE hg f (fun j v y=>by
    rw[k7];have b3:news[j]?=some v:=by
     rcases lt_or_ge j xs.length with h|h
     ·rwa [List.getElem?_take_of_lt h]at y
     ·rw[List.getElem?_take_eq_none h]at y;cases y
    have:=m b off rfl j v b3;simpa using this) (by rw[f,hcs,zero_add];exact le_trans (Nat.min_le_right _ _) hnc) (fun v z=>p.e0w v (List.mem_of_mem_take z))
   simp only[take_zero,nil_append,zero_add]at hr;have b2:=u g (by simp[Value.ownBlock]);have I:j5 g w (w.setRow g (news.take xs.length++cur.toList.drop (news.take xs.length).length).toArray):=⟨rfl,rfl,rfl,by simp[World.setRow],fun k _ hk=>by simp[World.setRow,Array.getElem?_modify,Ne.symm hk]⟩
   have hk:=I.L0 b2.1;refine⟨_,by rw[hr,f];rfl,.inr ⟨g,rfl,I⟩,u,news.take xs.length++cs.drop ys.length,⟨?_,.inr ⟨g,c,(news.take xs.length++cur.toList.drop (news.take xs.length).length).toArray,by rw[b04],setRow_heap w g cur _ ee _ hg,by rw[b04];exact hnc,hm,?_,?_⟩⟩,?_⟩
   ·rw[b04,q,mul_one,length_append,f,length_drop,J];rcases le_total ys.length xs.length with hle|hle
    ·rw[show Nat.min ys.length xs.length=ys.length from min_eq_left hle];omega
    ·rw[show Nat.min ys.length xs.length=xs.length from Nat.min_eq_right hle];omega
   ·have h9:(news.take xs.length).length<=c:=by rw[f];exact le_trans (Nat.min_le_right _ _) hnc
    simp only[q,mul_one,List.size_toArray,length_append,length_drop,Array.length_toList,hcs];omega
   ·rw[b04,q,mul_one];show List.take xs.length (news.take xs.length++cur.toList.drop (news.take xs.length).length)=_;rw[List.take_append,List.take_take,Nat.min_self,<-htake];congr 1;rw[List.drop_take];rcases le_total ys.length xs.length with hle|hle
    ·have:(news.take xs.length).length=ys.length:=by rw[f];exact min_eq_left hle
     rw[this]
    ·have:(news.take xs.length).length=xs.length:=by rw[f];exact Nat.min_eq_right hle
     rw[this,Nat.sub_self,take_zero,Nat.sub_eq_zero_of_le hle,take_zero]
   ·have h1:=(p.L0 hk).cut xs.length;have h2:=(C.L0 hk).tail ys.length;rw[q,mul_one]at h1 h2;exact h1.append h2
def w0F {α:Type}{T:Ty α}{S:D0}{t ty e m:TypeId}{v:Value}{A B:Option Addr}{c d:Nat}{xs ys:List α}{cs:List Value}(P:Program)(r:P.underlying t=some (.slice e))(q:(P.info? e).map (·.size)=some 1)(I:T.sz=1)
  (b:v=.slice A xs.length c) (j:Row w.heap m T.sz v xs.length cs) (h:R1 T w.heap S cs xs) (y:∀k,B1 v=some k->S k) (n:Q4 T w.heap S B ys):
  ∃w1,(Builtin.copy_ #[t,t] ty #[v,.slice B ys.length d]).run P w=.ok (.int .i64 ((Nat.min ys.length xs.length:Nat):Int)) w1/\(w1=w\/∃g,B1 v=some g/\j5 g w w1)/\∃f,Row w1.heap m T.sz v (j4 xs ys).length f/\R1 T w1.heap S f (j4 xs ys):=by
 rcases j.m0j with⟨z,i⟩|⟨h0,hc0,hnone,a0,hv⟩
 ·have o:Ow T m (fun _=>True) w.heap S (.slice A xs.length c) xs:=by
   rw[<-b];exact⟨fun k hk=>⟨y k (by rw[<-i];exact hk),trivial⟩,cs,z,h⟩
  obtain⟨w1,h1,x,_,f,u,J⟩:=D07 (d:=d) (ty:=ty) P r q I o n;refine⟨w1,by rw[b];exact h1,x.imp id (fun⟨g,l,C⟩=>⟨g,by rw[<-i,b,l];rfl,C⟩),f,by rw[b];exact Row.ofV u,J⟩
 ·have p:xs=[]:=eq_nil_of_length_eq_zero h0;subst p;rw[hv]at b;cases b;subst hv;have l:Nat.min ys.length ([]:List α).length=0:=by simp[Nat.min_def]
  refine⟨w,by rw[l];exact run_copy_none w t t ty e (some a0) B 0 0 ys.length d r q (by simpa using l),.inl rfl,[],⟨by simp[j4],.inl ⟨by simp[j4],_,rfl⟩⟩,by simpa[j4]using R1.nil⟩
def D0C (hE:T1 E)(h:Rp E A s ρ S a as w){R:Type}{k:K E R}{r:R}{T ty:Nat}{x y:V E.D}{ux uy:Value}(hx:VS E ρ s.nid w.heap S x ux)(hy:VS E ρ s.nid w.heap S y uy)(hk:copyV E s T x y k=some r):
  ∃s1 v u w1,k s1 v=some r/\K5 E A s ρ S a as w s1 v u w1/\(Builtin.copy_ #[T,T] ty #[ux,uy]).run E.P w=.ok u w1:=by
 unfold copyV at hk;split at hk<;>try cases hk
 rename_i e id hT;split at hk<;>try cases hk
 rename_i U;have c7:(E.P.info? e).map (·.size)=some 1:=by
  unfold H5 at U;split at U
  ·rename_i i hi;rw[hi];simpa using U
  ·cases U
 obtain⟨c8,rfl⟩:=hx.a0m;split at hk<;>try cases hk
 ·rename_i e' t xs hl;split at hk<;>try cases hk
  rename_i ys hz z;rw[beq_eq]at hz;obtain⟨A',c,rfl,b4⟩:=h0y h hy z;have ht:=h.th id;rw[hl]at ht;have ht:E5 E w.heap S e' t xs (ρ id):=ht;obtain⟨A0,c0,p⟩:=ht.form;have e6:hd (ρ id)=ρ id:=by rw[p];rfl
  have b:Q1 (F0 s id)=true:=by rw[hl];rfl
  have c3:∀k,Bk (ρ id) k↔B1 (ρ id)=some k:=fun k=>by rw[p];exact Iff.rfl
  obtain⟨cs,o,c4⟩:=ht;obtain⟨w1,q,a1,b2,m,n⟩:=w0F (d:=c) (ty:=ty) (S:=S) E.P hT c7 hz p o c4 (fun k hk=>(h.ow id b k ((c3 k).2 hk)).1) b4;have b3:Cx A.w0 A.W0 A.S0 w1 S/\P0 w.heap S w1.heap S/\∀k,k<w.heap.size->¬Bk (ρ id) k->w1.heap[k]?=w.heap[k]?:=by
   rcases a1 with rfl|⟨g,hg1,ho⟩
   ·exact⟨h.cx,P0.refl _ _,fun _ _ _=>rfl⟩
   ·have hb:Bk (ρ id) g:=(c3 g).2 hg1;obtain⟨hS,_,hW⟩:=h.ow id b g hb;exact⟨ho.cx h.cx hW,ho.L0 hS,fun k hk hn=>ho.block k hk (fun e=>hn (by rw[e];exact hb))⟩
  obtain⟨b7,C,I⟩:=b3;refine⟨_,_,_,w1,hk,⟨⟨ρ,S,h.turn (x:=.lst e' t (j4 xs ys)) (v:=ρ id) c8 b b7 C (fun _ h=>h) I rfl (fun k hk=>(h.ow id b k hk).1) ⟨b2,m,n⟩,VS.dI,C⟩,Ext.at s id _,rfl,fun k hk J=>I k hk (J id c8 b (f0g s))⟩,?_⟩;rw[e6];exact q
 ·rename_i r0 j f hl;split at hk<;>try cases hk
  rename_i e0 F t0 e5 t xs b9 e3;split at hk<;>try cases hk
  rename_i ys hz z;split at hk<;>try cases hk
  rename_i x c9;rw[beq_eq]at hz;obtain⟨A',c,rfl,b4⟩:=h0y h hy z;have J:=e0u b9;obtain⟨u,e7,h2,o,hg,b1,e4⟩:=q0a hE c9;have l:=e3;unfold b0A at l;rw[J]at l;have l:V2 E t0 (E6 E t0 e5 j) f=some ⟨t,xs⟩:=l;rw[o]at l;obtain⟨rfl,e9⟩:=Sigma.mk.inj (Option.some.inj l);have e9:=eq_of_heq e9;subst e9;split at hg<;>try cases hg
  rename_i ws b6;obtain⟨ec,b6⟩:=a0u b6;obtain rfl:ys=ws:=b6;obtain⟨_,e1,_,hblk⟩:=h.i0w hl e3;have c5:=h.rf id r0 j f hl e0 F t0 e5 J;obtain⟨cs,ht,k2,k3,h5,h8⟩:=h.m0m J c5;obtain⟨e',e2⟩:∃e',F[f]?=some e':=⟨_,List.getElem?_eq_getElem k3⟩
  obtain⟨h3,h6,hL⟩:=ht.rows j.toNat _ f u e7 e' (a0r k2.1 k2.2) o e2 X';rw[h5]at h6;obtain rfl:=Option.some.inj h6;have b:Q1 (F0 s r0)=true:=by rw[J];rfl
  have c6:=h.i7 (id:=r0) (by rw[J];simp);obtain⟨A0,c0,p⟩:=hL.form;obtain⟨h0,b5,b8⟩:=hL;obtain⟨w1,q,a1,b2,m,n⟩:=w0F (d:=c) (ty:=ty) (S:=S) E.P hT c7 hz p b5 b8 (fun k hk=>(h.ow r0 b k (Bk.tl (mem_of_getElem? h8) hk)).1) b4;have b3:Cx A.w0 A.W0 A.S0 w1 S/\P0 w.heap S w1.heap S/\∀k,k<w.heap.size->B1 (ρ id)≠some k->w1.heap[k]?=w.heap[k]?:=by
   rcases a1 with rfl|⟨g,hob,ho⟩
   ·exact⟨h.cx,P0.refl _ _,fun _ _ _=>rfl⟩
   ·obtain⟨hS,_,hW⟩:=h.ow r0 b g (Bk.tl (mem_of_getElem? h8) hob);exact⟨ho.cx h.cx hW,ho.L0 hS,fun k hk hn=>ho.block k hk (fun e=>hn (by rw[e];exact hob))⟩
  obtain⟨b7,C,I⟩:=b3;refine⟨_,_,_,w1,hk,⟨⟨ρ,S,h.w0u J c5 b1 e4 e2 I b7 C ⟨b2,m,n⟩,VS.dI,C⟩,Ext.at s r0 _,rfl,fun k hk J=>I k hk (fun e=>J r0 c6 b (f0g s) (Bk.tl (mem_of_getElem? h8) e))⟩,?_⟩;rw[e1];exact q
def x0I (hE:T1 E)(h:Rp E A s ρ S a as w){R:Type}{k:K E R}{r:R}{T:Nat}{f:U}{m:List (Den E.D f)}{y:V E.D}{ux uy:Value}(hx:VS E ρ s.nid w.heap S (.df f m) ux)(hy:VS E ρ s.nid w.heap S y uy)(ty:Nat)(hk:p0G E s T f m y k=some r):
  ∃s1 v u w1,k s1 v=some r/\K5 E A s ρ S a as w s1 v u w1/\(Builtin.append_ #[T,T] ty #[ux,uy]).run E.P w=.ok u w1:=by
 unfold p0G at hk;split at hk<;>try cases hk
 rename_i e he;split at hk<;>try cases hk
 rename_i t z sz bytes ht C;split at hk<;>try cases hk
 rename_i ys xs I n x;split at hk<;>try cases hk
 rename_i b;rw[and_eq_true,List.isEmpty_iff]at b;obtain⟨b2,b⟩:=b;obtain⟨ec,x⟩:=a0u x;subst ec;subst x;obtain⟨rfl,h1,h2,h3⟩:=d0p I;obtain⟨i,hi,a1,p,b4⟩:=d0U C;have hT:=d0V he;obtain⟨A',c,rfl,J⟩:=h0y h hy n;obtain⟨c0,o,rfl⟩:=hx;unfold VC at o;obtain⟨B,rfl,b5⟩:=o;subst b2;have q:(E.P.info? e).map (fun i=>(i.zero,i.size,i.bytes))=some (some z,(J0 E f).sz,bytes):=by rw[hi];simp[a1,p,b4]
 have b1:(decide (z.cells.size=(J0 E f).sz)&&decide (0<(J0 E f).sz)&&decide (0<bytes))=true:=by simp[h1,h2,h3]
 obtain⟨v',w1,j,hg,b3,⟨A1,c1,g⟩,d⟩:=j0Z (S:=S) (w:=w) (ty:=ty) (v:=.slice B 0 0) (xs:=([]:List (Den E.D f))) (cs:=[]) (c:=c) E.P hT q b1 ⟨X',.inl ⟨rfl,B,rfl⟩⟩ R1.nil (fun k hk=>by cases B<;>cases hk) J b;have hB:Below w.heap.size w w1:=⟨hg.os,hg.tape,hg.output,hg.size,fun k hk=>hg.block k hk (by cases B<;>simp[B1])⟩
 subst g;refine⟨_,_,_,w1,hk,h.j0k hB (fun k hk=>?_) rfl fun S1 hk hs=>d S1 hk,j⟩;obtain⟨l,h6⟩:=b3 k hk;refine⟨?_,h6⟩;rcases l with l|l
 ·cases B<;>cases l
 ·exact l
def y0l (l:T1 E)(h:Rp E A s ρ S a as w){R:Type}{k:K E R}{r:R}{b:Bool}{T:Nat}{x y:V E.D}{i f:Value}(g:VS E ρ s.nid w.heap S x i)(j:VS E ρ s.nid w.heap S y f)(ty:Nat)(hk:q0b E b s T x y k=some r):
  ∃s1 v u w1,k s1 v=some r/\K5 E A s ρ S a as w s1 v u w1/\(Builtin.append_ #[T,T] ty #[i,f]).run E.P w=.ok u w1:=by
 unfold q0b at hk;split at hk
 ·rename_i m e c;have d:x=.df m e:=by
   cases x<;>simp only[k0J]at c<;>try cases c
   rfl
  subst d;exact x0I l h g j ty hk
 ·exact G0i l h g j ty hk
def H0g (l:T1 E)(h:Rp E A s ρ S a as w){R:Type}{k:K E R}{r:R}{tb:List Nat}{o:Oper}(hk:evE E tb s o k=some r):
  ∃s1 v u w1,k s1 v=some r/\K5 E A s ρ S a as w s1 v u w1/\((execOp a.eval o).run E.P w=.ok (.value u) w1\/(u=undef/\(execOp a.eval o).run E.P w=.ok .skip w1)):=by
 unfold evE at hk;split at hk
 ·rename_i T e;obtain⟨s1,v,u,w1,h1,d,b⟩:=B07 h hk;exact⟨s1,v,u,w1,h1,d,.inl (by simp[execOp,e,b])⟩
 ·rename_i T x e;obtain⟨s1,v,u,w1,h1,d,b⟩:=B09 l h (h.val x) hk;exact⟨s1,v,u,w1,h1,d,.inl (by simp[execOp,e,b])⟩
 ·rename_i T p x e;obtain⟨s1,v,w1,h1,d,b⟩:=B0v l h (h.val p) (h.val x) hk;exact⟨s1,v,_,w1,h1,d,.inr ⟨rfl,by simp[execOp,e,b]⟩⟩
 ·rename_i T n parts e;split at hk
  ·obtain⟨s1,v,u,w1,h1,d,b⟩:=y0e h hk;exact⟨s1,v,u,w1,h1,d,.inl (by simp[execOp,e,b])⟩
  ·obtain⟨s1,v,u,w1,h1,d,b⟩:=C0k l h hk;exact⟨s1,v,u,w1,h1,d,.inl (by simp[execOp,e,b])⟩
 ·rename_i T n m e;split at hk
  ·obtain⟨s1,v,u,w1,h1,d,b⟩:=F06 l h hk;exact⟨s1,v,u,w1,h1,d,.inl (by simp[execOp,e,b])⟩
  ·obtain⟨s1,v,u,w1,h1,d,b⟩:=A0c l h hk;exact⟨s1,v,u,w1,h1,d,.inl (by simp[execOp,e,b])⟩
 ·rename_i c e;split at hk<;>try cases hk
  ·rename_i x y T T' q z t;split at hk<;>try cases hk
   rename_i g;rw[beq_eq]at g;subst g;have f:c.args=#[x,y]:=by have:=congrArg List.toArray z;simpa using this
   have j:c.argTypes=#[T,T]:=by have:=congrArg List.toArray t;simpa using this
   obtain⟨s1,v,u,w1,h1,d,b⟩:=y0l l h (h.val x) (h.val y) o.type hk;exact⟨s1,v,u,w1,h1,d,.inl (by simp[execOp,e,resolve,q,f,j,invoke,builtin,b])⟩
  ·rename_i x y T T' q z t;split at hk<;>try cases hk
   rename_i g;rw[beq_eq]at g;subst g;have f:c.args=#[x,y]:=by have:=congrArg List.toArray z;simpa using this
   have j:c.argTypes=#[T,T]:=by have:=congrArg List.toArray t;simpa using this
   obtain⟨s1,v,u,w1,h1,d,b⟩:=D0C (ty:=o.type) l h (h.val x) (h.val y) hk;exact⟨s1,v,u,w1,h1,d,.inl (by simp[execOp,e,resolve,q,f,j,invoke,builtin,b])⟩
 ·rename_i T T' x e;obtain⟨s1,v,u,w1,h1,d,b⟩:=y0N h (h.val x) hk;exact⟨s1,v,u,w1,h1,d,.inl (by simp[execOp,e,b])⟩
 ·rename_i T e;obtain⟨d,b⟩:=B0s (T:=T) h;exact⟨_,_,_,_,hk,d,.inl (by simp[execOp,e,b])⟩
 ·rename_i T m i x e;obtain⟨s1,v,w1,h1,d,b⟩:=z04 h (h.val m) (h.val i) (h.val x) hk;exact⟨s1,v,_,w1,h1,d,.inr ⟨rfl,by simp[execOp,e,b]⟩⟩
 ·cases hk
end
end
