/- P. Its conditions: none. -/
import Derived.Test.YtmhooikfkhjijaaGreatYX6
import Derived.Great.BuildSlice
open Nat (le_succ lt_succ_self le_refl le_trans succ_mul mul_le_mul_right min_eq_left beq_eq add_sub_cancel zero_add mul_comm eq_zero_or_pos lt_or_ge le_total mul_one)
open List (all_eq_true eq_nil_of_length_eq_zero length_append append_assoc length_take length_drop length_set nil_append drop_drop take_append_drop take_left' any_eq_true mem_cons mem_cons_of_mem mem_of_getElem? mem_append map_cons take_zero)
open Bool (and_eq_true)
set_option linter.all false
namespace Go.X
open Go.V Go.RowKit
section
variable {E:Env}{A:O4}{s:St E.D}{ρ:Nat->Value}{S:D0}{a:Act}{as:List Act}{w:World}
def d0T {v:Value}(h:v.oneCell'=true):hd v=v/\∀k,Bk v k↔D1 v=some k:=by
 cases v<;>first|exact⟨rfl,fun _=>Iff.rfl⟩|(simp[Value.oneCell']at h)
structure z6 (E:Env)(A:O4)(s:St E.D)(ρ:Nat->Value)(S:D0)(a:Act)(as:List Act)(w:World)(s1:St E.D)(v:V E.D)(u:Value)(w1:World):Prop where
 rp:∃ ρ1 S1,Rp E A s1 ρ1 S1 a as w1/\VS E ρ1 s1.nid w1.heap S1 v u/\U0 w.heap S w1.heap S1
 ext:Ext s s1
 fr:s1.fr=s.fr
 old:∀k,k<w.heap.size->(∀q,q<s.nid->P1 (E0 s q)=true->Z6 s s1 q=true->¬Bk (ρ q) k)->w1.heap[k]?=w.heap[k]?
def f0n (s:St E.D){id:Nat}{x:Th E.D}:Z6 s (s.at id x) id=true:=by
 unfold Z6 St.at;simp
def Rp.s0I (h:Rp E A s ρ S a as w){l:List (V E.D)}{cs:List Value}(hl:N0 E ρ s.nid w.heap S l cs)(h1:∀u∈cs,u.oneCell'=true)(T:Nat):
  z6 E A s ρ S a as w (s.new (.box T l)) (.pb s.nid 0 []) (.pointer (some ⟨w.heap.size,0,none⟩)) (w.alloc (.cells cs.toArray T)):=by
 have b:=Below.new w (.cells cs.toArray T);obtain⟨S1,hk,c⟩:=h.new (x:=.box T l) (v:=.pointer (some ⟨w.heap.size,0,none⟩)) (w1:=w.alloc (.cells cs.toArray T)) b
  (fun k hk=>by simp[Bk,D1]at hk;subst hk;simp) (fun S1 hk d hn=>⟨w.heap.size,cs,rfl,heap_alloc_new w _,hl.mono (fun i hi=>by rw[G5 (by omega)]) (le_succ _) hk,h1⟩)
 refine⟨⟨_,S1,c,?_,hk⟩,Ext.new s _,rfl,fun k hk _=>b.block k hk⟩;have:=VS.pb (E:=E) (S:=S1) (H:=(w.alloc (.cells cs.toArray T)).heap) (ρ:=M6 ρ s.nid (.pointer (some ⟨w.heap.size,0,none⟩))) (n:=s.nid+1) (id:=s.nid) (off:=0) (p:=[]) (lt_succ_self _) trivial (by rw[I5];rfl);exact this
def A0y (h:Rp E A s ρ S a as w){R:Type}{k:K E R}{r:R}{T:Nat}(hk:n0q E s T k=some r):
  ∃s1 v u w1,k s1 v=some r/\z6 E A s ρ S a as w s1 v u w1/\(Instr.alloc T true (.tuple #[])).run E.P w=.ok u w1:=by
 unfold n0q at hk;split at hk<;>try cases hk
 rename_i z b;split at hk<;>try cases hk
 rename_i h1;unfold q0S at b;split at b<;>try cases b
 rename_i i hi;refine⟨_,_,_,_,hk,h.s0I (i0g z) (all_eq_true.1 h1) T,?_⟩;have:z.cells.toList.toArray=z.cells:=by simp
 rw[this];simp[Instr.alloc,zeroValue,typeInfo,hi,b,newVar,newRow]
def C0m (i:Q1 E)(h:Rp E A s ρ S a as w){R:Type}{k:K E R}{r:R}{T:Nat}{v:V E.D}{b:Value}(e:VS E ρ s.nid w.heap S v b)(hk:o0T E s T v k=some r):
  ∃s1 v u w1,k s1 v=some r/\z6 E A s ρ S a as w s1 v u w1/\(Instr.box T b).run E.P w=.ok u w1:=by
 unfold o0T at hk;split at hk<;>try cases hk
 rename_i d;obtain⟨c,h1,g,f,_⟩:=e.cells i d;refine⟨_,_,_,_,hk,h.s0I h1 f T,?_⟩;simp[Instr.box,newVar,newRow,g]
def u0w {P:Program}(b t:Nat):∀(vs:List Value) (i off:Nat) (w:World) (d1 d2 d3:List Value),w.heap[b]?=some (.cells (d1++(d2++d3)).toArray t (0,0))->d1.length=off+i->d2.length=vs.length->(∀v∈vs,v.oneCell'=true)->
  ∃w1,(storeCells ⟨b,off,none⟩ vs i).run P w=.ok () w1/\k7 b w w1/\w1.heap.size=w.heap.size/\w1.heap[b]?=some (.cells (d1++(vs++d3)).toArray t (0,0))
 |[],i,off,w,d1,d2,d3,d,_,h,_=>by
  have:d2=[]:=eq_nil_of_length_eq_zero (by simpa using h);subst this;exact⟨w,by simp[storeCells],⟨rfl,rfl,rfl,le_refl _,fun _ _ _=>rfl⟩,rfl,d⟩
 |v :: vs,i,off,w,d1,[],d3,d,_,h,_=>by simp at h
 |v :: vs,i,off,w,d1,x :: d2,d3,d,h1,h,hone=>by
  have m:w.cell? ⟨b,off+i,none⟩=some x:=by
   rw[h0f];unfold U2;rw[d];rw[<-h1];simp
  have p:w.frozen? ⟨b,off+i,none⟩=false:=by simp[World.frozen?,d]
  have l:=v0N (P:=P) (w:=w) (ad:=(⟨b,off,none⟩:Addr).add i) (j0K b off i) (hone v (by simp)) m p;have c:=z0s (w:=w) (off:=off+i) (v:=v) d;have e:(d1++(x :: d2++d3)).set (off+i) v=(d1++[v])++(d2++d3):=by rw[<-h1];simp
  rw[e]at c;obtain⟨w1,o,g,n,j⟩:=u0w (P:=P) b t vs (i+1) off (w.setCell ⟨b,off+i,none⟩ v) (d1++[v]) d2 d3 c (by simp;omega) (by simpa using h) (fun u hu=>hone u (by simp[hu]));have f:=k7.cell w b (off+i) v;refine⟨w1,by simp[storeCells,l,o],⟨g.os.trans f.os,g.tape.trans f.tape,g.output.trans f.output,le_trans f.size g.size,fun k hk hn=>(g.block k (Nat.lt_of_lt_of_le hk f.size) hn).trans (f.block k hk hn)⟩,n.trans (by simp[World.setCell]),?_⟩;rw[j];simp
def l0j {T n b off t:Nat}(d:R5 E T=some n){u:Value}{vs:List Value}(hu:u.cells=vs.toArray)(hl:vs.length=n)(h1:∀v∈vs,v.oneCell'=true){d1 d2 d3:List Value}{w:World}(h:w.heap[b]?=some (.cells (d1++(d2++d3)).toArray t (0,0)))(i:d1.length=off)(g:d2.length=n):
  ∃w1,(Instr.storeAt T (.pointer (some ⟨b,off,none⟩)) u).run E.P w=.ok () w1/\k7 b w w1/\w1.heap[b]?=some (.cells (d1++(vs++d3)).toArray t (0,0)):=by
 obtain⟨w1,f,e,_,c⟩:=u0w (P:=E.P) b t vs 0 off w d1 d2 d3 h (by omega) (by omega) h1;refine⟨w1,?_,e,c⟩;have k:u.cells.size=n:=by rw[hu];simpa using hl
 have j:u.cells.toList=vs:=by rw[hu]
 simp[Instr.storeAt,Instr.sureAddr,storeVar,k,j,d0l d w,f]
def VS.unit {n:Nat}{H:K0}:VS E ρ n H S (.tup []:V E.D) Go.undef:=VS.of rfl (by unfold VC;exact⟨[],rfl,by unfold VT;rfl⟩)
def s0k {id T:Nat}{l:List (V E.D)}(h:g04 s id=some (T,l)):E0 s id=.box T l:=by
 unfold g04 at h;split at h
 ·rename_i hl;simp at h;obtain⟨rfl,rfl⟩:=h;exact hl
 ·cases h
def j0w {id e:Nat}{t:U}{xs:List (Den E.D t)}(h:e0K E s id=some (e,⟨t,xs⟩)):E0 s id=.lst e t xs:=by
 unfold e0K at h;split at h
 ·rename_i hl;simp only[Option.some.injEq,Prod.mk.injEq,Sigma.mk.injEq]at h;obtain⟨rfl,rfl,h⟩:=h;have h:=eq_of_heq h;subst h;exact hl
 ·cases h
def Rp.p0l (h:Rp E A s ρ S a as w){id T:Nat}{l l':List (V E.D)}{d:List Value}{b:Nat}{w1:World}(hl:E0 s id=.box T l)(i:ρ id=.pointer (some ⟨b,0,none⟩))(g:k7 b w w1)(n:w1.heap[b]?=some (.cells d.toArray T (0,0)))
  (m:N0 E ρ s.nid w.heap S l' d) (h1:∀u∈d,u.oneCell'=true):Rp E A (s.at id (.box T l')) ρ S a as w1/\U0 w.heap S w1.heap S:=by
 have c:P1 (E0 s id)=true:=by rw[hl];rfl
 have f:=h.F7 (id:=id) (by rw[hl];simp);obtain⟨j,p,o⟩:=h.ow id c b (by rw[i];rfl);have kp:=g.L1 j;refine⟨h.turn f c (g.cx h.cx o) kp (fun _ h=>h) (fun k hk hn=>g.block k hk (fun e=>hn (by rw[i,e];rfl))) rfl (fun k hk=>(h.ow id c k hk).1) ?_,kp⟩;exact⟨b,d,i,n,m.mono (fun _ _=>rfl) (le_refl _) kp,h1⟩
section
variable {H:K0}
def t0w {f:(t:U)->Den E.D t->Option (Den E.D t)}:∀(ts:List U) (h b:HL E.D ts) (j:Nat) (cs:List Value),a0I ts h j f=some b->(a0r E ts).R H S cs h->
  ∃c1 c2 c3,cs=c1++(c2++c3)/\c1.length=b0A E ts j/\∃t x x',(J0 E t).R H S c2 x/\f t x=some x'/\∀c,(J0 E t).R H S c x'->(a0r E ts).R H S (c1++(c++c3)) b
 |[],_,_,_,_,h=>by intro;simp[a0I]at h
 |t :: ts,hh,b,0,cs,h=>by
  intro g;simp only[a0I]at h;split at h<;>try cases h
  rename_i y i;obtain⟨c1,c2,rfl,h1,k⟩:=g;exact⟨[],c1,c2,by simp,rfl,t,_,_,h1,i,fun c d=>⟨c,c2,by simp,d,k⟩⟩
 |t :: ts,hh,b,j+1,cs,h=>by
  intro g;simp only[a0I]at h;split at h<;>try cases h
  rename_i e i;obtain⟨c1,c2,rfl,h1,k⟩:=g;obtain⟨d1,d2,d3,rfl,hl,m,x,x',n,l,hk⟩:=t0w ts hh.2 e j c2 i k;refine⟨c1++d1,d2,d3,by simp,by rw[length_append,(J0 E t).len h1,hl];rfl,m,x,x',n,l,fun c d=>?_⟩;rw[append_assoc];exact⟨c1,_,rfl,h1,hk c d⟩
def t0j {α:Type}{T:Ty α}{xs:List α}{cs cn:List Value}{q:α}(b:U1 T H S cs xs){i:Nat}(hi:i<xs.length)(c:T.R H S cn q):
  U1 T H S (cs.take (i*T.sz)++(cn++(cs.drop (i*T.sz)).drop T.sz)) (xs.set i q):=by
 have g:cs.length=xs.length*T.sz:=b.1;have e:=T.len c;have hle:i*T.sz+T.sz<=xs.length*T.sz:=by rw[<-succ_mul];exact mul_le_mul_right _ hi
 have k:(cs.take (i*T.sz)).length=i*T.sz:=by rw[length_take,g];omega
 refine⟨?_,fun j v d=>?_⟩
 ·simp only[length_append,length_drop,length_set,g,k,e];omega
 ·rcases Nat.lt_trichotomy j i with hlt|heq|hgt
  ·rw[List.getElem?_set_ne (by omega)]at d;have:=b.2 j v d;have h:j*T.sz+T.sz<=i*T.sz:=by rw[<-succ_mul];exact mul_le_mul_right _ hlt
   have f:((cs.take (i*T.sz)++(cn++(cs.drop (i*T.sz)).drop T.sz)).drop (j*T.sz)).take T.sz=(cs.drop (j*T.sz)).take T.sz:=by
    rw[List.drop_append_of_le_length (by omega),List.take_append_of_le_length (by rw[length_drop,k];omega),List.drop_take,List.take_take,min_eq_left (by omega)]
   rw[f];exact this
  ·subst heq;rw[List.getElem?_set_self (by omega)]at d;simp at d;subst d;have f:((cs.take (j*T.sz)++(cn++(cs.drop (j*T.sz)).drop T.sz)).drop (j*T.sz)).take T.sz=cn:=by
    rw[List.drop_append_of_le_length (by omega),List.drop_of_length_le (by omega),nil_append,List.take_append_of_le_length (by omega),List.take_of_length_le (by omega)]
   rw[f];exact c
  ·rw[List.getElem?_set_ne (by omega)]at d;have:=b.2 j v d;have h:i*T.sz+T.sz<=j*T.sz:=by rw[<-succ_mul];exact mul_le_mul_right _ hgt
   have f:((cs.take (i*T.sz)++(cn++(cs.drop (i*T.sz)).drop T.sz)).drop (j*T.sz))=cs.drop (j*T.sz):=by
    rw[<-append_assoc,List.drop_append,List.drop_of_length_le (by rw[length_append,k,e];exact h),nil_append,length_append,k,e,drop_drop,drop_drop];congr 1;omega
   rw[f];exact this
def i0Y (C:Q1 E){u:U}{y:Den E.D u}:∀(p:List P6) (t:U) (x x':Den E.D t) (cs:List Value),c0f E u y p t x=some x'->e8 p->(J0 E t).R H S cs x->
  ∃c1 c2 c3,cs=c1++(c2++c3)/\c1.length=M4 p/\c2.length=X2 E u/\∀c,(J0 E u).R H S c y->(J0 E t).R H S (c1++(c++c3)) x'
 |[],t,x,x',cs,h,_=>by
  intro J;simp only[c0f]at h;obtain⟨e,h⟩:=c0q h;subst e;subst h;exact⟨[],cs,[],by simp,rfl,(J0 E u).len J,fun c r=>by simpa using r⟩
 |.inl (j,o) :: p,t,x,x',cs,h,hp=>by
  intro J;cases t<;>simp only[c0f]at h<;>try cases h
  rename_i i;split at h<;>try cases h
  rename_i ho;rw[beq_eq]at ho;split at h<;>try cases h
  rename_i hh hf;obtain⟨c1,c2,c3,rfl,hl,n,z,z',l,b2,hk⟩:=t0w _ _ _ _ _ hf ((C.st i H S cs x).1 J);obtain⟨d1,d2,d3,rfl,f,g,d⟩:=i0Y C p n z z' c2 b2 hp l;refine⟨c1++d1,d2,d3++c3,by simp,by rw[length_append,hl,ho,f];rfl,g,fun c r=>?_⟩;refine(C.st i H S _ _).2 ?_;rw[C.unmk];have:=hk _ (d c r);simpa using this
 |.inr (i,z,m) :: p,t,x,x',cs,h,hp=>by
  intro J;cases t<;>simp only[c0f]at h<;>try cases h
  rename_i m' n;split at h<;>try cases h
  rename_i l;rw[and_eq_true,beq_eq,beq_eq]at l;obtain⟨l,rfl⟩:=l;split at h<;>try cases h
  rename_i q hq;obtain⟨hi,hp⟩:=hp;obtain⟨hlen,b⟩:=J;have k:(J0 E n).sz=z:=l;have v:=Y9 (E:=E) (t:=n) (xs:=x) hi.1 (by rw[hlen];exact hi.2);have hy:=b.2 i.toNat _ v;obtain⟨d1,d2,d3,hd,f,g,d⟩:=i0Y C p n _ q _ hq hp hy;rw[k]at hd;have b3:cs.length=m'*z:=by rw[b.1,hlen,k]
  have a1:i.toNat<m':=by omega
  have hle:i.toNat*z+z<=m'*z:=by rw[<-succ_mul];exact mul_le_mul_right _ a1
  have e1:cs=cs.take (i.toNat*z)++((cs.drop (i.toNat*z)).take z++(cs.drop (i.toNat*z)).drop z):=by rw[take_append_drop,take_append_drop]
  refine⟨cs.take (i.toNat*z)++d1,d2,d3++(cs.drop (i.toNat*z)).drop z,?_,?_,g,fun c r=>?_⟩
  ·rw[hd]at e1
   conv=>lhs;rw[e1]
   simp
  ·rw[length_append,length_take,f,min_eq_left (by omega)];rfl
  ·have I:=d c r;have key:=t0j (T:=J0 E n) (xs:=x) (cs:=cs) (cn:=d1++(c++d3)) (q:=q) b (i:=i.toNat) (by rw[hlen];exact a1) I;rw[k]at key;have b1:cs.take (i.toNat*z)++d1++(c++(d3++(cs.drop (i.toNat*z)).drop z))=cs.take (i.toNat*z)++((d1++(c++d3))++(cs.drop (i.toNat*z)).drop z):=by simp
   rw[b1];exact⟨(length_set ..).trans hlen,key⟩
def g0j {s1:St E.D}{t:List (Nat×Th E.D)}(h1:s1.th=t++s.th){p:Nat×Th E.D}(hp:p∈t):Z6 s s1 p.1=true:=by
 unfold Z6;rw[h1,length_append,add_sub_cancel,take_left']
 ·exact any_eq_true.2 ⟨p,hp,by simp⟩
 ·rfl
def g0F {s1:St E.D}(he:Ext s s1){id:Nat}{x:Th E.D}:Z6 s (s1.at id x) id=true:=by
 obtain⟨l,hl⟩:=he.th;exact g0j (t:=(id,x) :: l) (p:=(id,x)) (by simp[St.at,hl]) (by simp)
def h0Y {s1 s2:St E.D}{q:Nat}(h:Z6 s s1 q=true)(he:Ext s s1)(k:Ext s1 s2):Z6 s s2 q=true:=by
 obtain⟨t,c⟩:=he.th;obtain⟨e,b⟩:=k.th;unfold Z6 at h;rw[c,length_append,add_sub_cancel,take_left' rfl]at h;obtain⟨p,hp,d⟩:=any_eq_true.1 h;rw[beq_eq]at d;subst d;exact g0j (t:=e++t) (by rw[b,c];simp) (List.mem_append_right _ hp)
def VC.c02 {n:Nat}{H:K0}{S1:D0}(b:∀k,S1 k->S k){v:V E.D}{c:List Value}(h:VC E ρ n H S v c):VC E ρ n H S1 v c:=h.mono (fun _ _=>rfl) (le_refl _) (U0.less b)
def N0.c02 {n:Nat}{H:K0}{S1:D0}(b:∀k,S1 k->S k){v:List (V E.D)}{c:List Value}(h:N0 E ρ n H S v c):N0 E ρ n H S1 v c:=h.mono (fun _ _=>rfl) (le_refl _) (U0.less b)
def VS.c02 {n:Nat}{H:K0}{S1:D0}(b:∀k,S1 k->S k){v:V E.D}{u:Value}(h:VS E ρ n H S v u):VS E ρ n H S1 v u:=h.mono (fun _ _=>rfl) (le_refl _) (U0.less b)
def m0F (g:Q1 E)(h:Rp E A s ρ S a as w){u:U}{v:V E.D}{s1:St E.D}{y:Den E.D u}(b:rdD E s u v=some (s1,y)):
  ∃S1,(∀k,S1 k->S k)/\Rp E A s1 ρ S1 a as w/\Ext s s1/\s1.fr=s.fr/\s1.nid=s.nid/\∀c,VC E ρ s.nid w.heap S v c->(J0 E u).R w.heap S1 c y:=by
 unfold rdD at b;split at b<;>try cases b
 rename_i s2 j;split at b<;>try cases b
 rename_i x m;obtain⟨S1,h1,f,l,i,e⟩:=a0a g _ s [v] s1 j S h;refine⟨S1,h1,f,l,i,e,fun c d=>?_⟩;rw[<-e]at d;exact h0c g f.th m (d.c02 h1)
def w0q {n:Nat}{u:U}(h:Nat.beq (X2 E u) n=true):X2 E u=n:=by rwa [beq_eq]at h
def r0n {u:U}{v:V E.D}{s1:St E.D}{y:Den E.D u}(b:rdD E s u v=some (s1,y)){id:Nat}(c:P1 (E0 s1 id)=true):P1 (E0 s id)=true:=by
 unfold rdD at b;split at b<;>try cases b
 rename_i s2 d;split at b<;>try cases b
 rw[a0R _ s _ s1 d id c];exact c
def D0P {l r:List (V E.D)}{t:U}{x:Den E.D t}(h:i0p E l=some (⟨t,x⟩,r)):l=.d t x :: r:=by
 unfold i0p at h;split at h
 ·simp only[Option.some.injEq,Prod.mk.injEq,Sigma.mk.injEq]at h;obtain⟨⟨rfl,h⟩,rfl⟩:=h;have h:=eq_of_heq h;subst h;rfl
 ·cases h
def z6.of {s1:St E.D}{v:V E.D}{u:Value}{w1:World}{S1 b:D0}(d:∀k,S1 k->S k)(f:Rp E A s1 ρ b a as w1)(e:VS E ρ s1.nid w1.heap b v u)(hk:U0 w.heap S1 w1.heap b)(he:Ext s s1)(c:s1.fr=s.fr)(hm:∀k,k<w.heap.size->(∀q,q<s.nid->P1 (E0 s q)=true->Z6 s s1 q=true->¬Bk (ρ q) k)->w1.heap[k]?=w.heap[k]?):z6 E A s ρ S a as w s1 v u w1:=
 ⟨⟨ρ,b,f,e,(U0.less d).trans hk⟩,he,c,hm⟩
def u0O {e sz b o m cap N off n T:Nat}{cs d1 d2 d3 c:List Value}{w:World}{z:Value}(R:0<m)(d:Row w.heap e sz (.slice (some ⟨b,o,none⟩) m cap) N cs)(p:cs=d1++(d2++d3))(u:d1.length=off)(t:d2.length=n)
  (y:R5 E T=some n) (h:z.cells=c.toArray) (hlen:c.length=n) (k:∀v∈c,v.oneCell'=true):
  ∃w1,(Instr.storeAt T (.pointer (some ⟨b,o+off,none⟩)) z).run E.P w=.ok () w1/\k7 b w w1/\Row w1.heap e sz (.slice (some ⟨b,o,none⟩) m cap) N (d1++(c++d3)):=by
 obtain⟨j,d⟩:=d;rcases d with⟨_,_,f⟩|⟨g,cap',cur,f,hp0,hg,hnc,hmx,hcz,htk⟩
 ·simp at f;omega
 ·simp at f;obtain⟨⟨e1,U⟩,I,J⟩:=f;subst e1;subst U;subst I;subst J;have i:cur.toList=cs++cur.toList.drop (m*sz):=by rw[<-htk,take_append_drop]
  have q:w.heap[b]?=some (.cells (d1++(d2++(d3++cur.toList.drop (m*sz)))).toArray e (0,0)):=by
   rw[hg];have C:cur.toList=d1++(d2++(d3++cur.toList.drop (m*sz))):=by
    refine i.trans ?_;generalize cur.toList.drop (m*sz)=q1;rw[p];simp
   rw[<-C]
  obtain⟨w1,l,ho,x⟩:=l0j y h hlen k q u t;have r:(d1++(c++d3)).length=m*sz:=by rw[<-j,p];simp;omega
  refine⟨w1,by rw[zero_add];exact l,ho,r,.inr ⟨b,cap,_,rfl,hp0,x,hnc,hmx,?_,?_⟩⟩
  ·have e5:=congrArg List.length i;simp only[length_append,Array.length_toList,hcz,j]at e5;simp only[length_append]at r;simp only[List.size_toArray,length_append];omega
  ·rw[List.toList_toArray];have:d1++(c++(d3++cur.toList.drop (m*sz)))=(d1++(c++d3))++cur.toList.drop (m*sz):=by simp
   rw[this,List.take_append_of_le_length (by omega),List.take_of_length_le (by omega)]
def S5.store (hE:Q1 E){e b o m cap n T:Nat}{d J:U}{xs:List (Den E.D d)}{q:List P6}{y:Den E.D J}{x:Den E.D d}{c:List Value}{w:World}{uv:Value}{i:Int}(hL:S5 E w.heap S e d xs (.slice (some ⟨b,o,none⟩) m cap))(h0:0<=i)(hm:i<m)
  (C:c0f E J y q d (U6 E d xs i)=some x) (b2:e8 q) (hy:(J0 E J).R w.heap S c y) (b5:X2 E J=n) (b4:R5 E T=some n) (g:uv.cells=c.toArray) (hlen:c.length=n) (l:∀v∈c,v.oneCell'=true) (hS:S b):
  ∃w1,(Instr.storeAt T (.pointer (some ⟨b,o+i.toNat*X2 E d+M4 q,none⟩)) uv).run E.P w=.ok () w1/\k7 b w w1/\U0 w.heap S w1.heap S/\S5 E w1.heap S e d (xs.set i.toNat x) (.slice (some ⟨b,o,none⟩) m cap):=by
 obtain⟨cs,f,h⟩:=hL;obtain⟨rfl,_,_⟩:=Row.cell f (by omega);have hi:i.toNat<xs.length:=by omega
 have r:=Y9 (E:=E) (t:=d) (xs:=xs) h0 hm;obtain⟨e1,e2,I,b1,hle,u,z⟩:=i0Y hE q d _ x _ C b2 (h.2 _ _ r);have a1:=f.1;have c0:i.toNat*(J0 E d).sz+(J0 E d).sz<=xs.length*(J0 E d).sz:=by rw[<-succ_mul];exact mul_le_mul_right _ hi
 have b3:cs=(cs.take (i.toNat*(J0 E d).sz)++e1)++(e2++(I++(cs.drop (i.toNat*(J0 E d).sz)).drop (J0 E d).sz)):=by
  have:cs=cs.take (i.toNat*(J0 E d).sz)++((e1++(e2++I))++(cs.drop (i.toNat*(J0 E d).sz)).drop (J0 E d).sz):=by
   rw[<-b1,take_append_drop,take_append_drop]
  conv=>lhs;rw[this]
  simp
 have hL:(cs.take (i.toNat*(J0 E d).sz)).length=i.toNat*(J0 E d).sz:=by rw[length_take,a1];omega
 obtain⟨w1,p,ho,j⟩:=u0O (off:=i.toNat*X2 E d+M4 q) (by omega) f b3 (by rw[length_append,hL,hle];rfl) (by rw[u,b5]) b4 g hlen l;have kp:=ho.L1 hS;have k:=t0j (i:=i.toNat) (h.L1 kp) hi ((J0 E d).L1 kp (z c hy));refine⟨w1,by rw[Nat.add_assoc];exact p,ho,kp,_,?_,k⟩;rw[length_set];have:cs.take (i.toNat*(J0 E d).sz)++e1++(c++(I++(cs.drop (i.toNat*(J0 E d).sz)).drop (J0 E d).sz))=cs.take (i.toNat*(J0 E d).sz)++((e1++(c++I))++(cs.drop (i.toNat*(J0 E d).sz)).drop (J0 E d).sz):=by simp
 rw[<-this];exact j
def q0e:∀{ts:List U} {h d:HL E.D ts} {j:Nat} {f:(t:U)->Den E.D t->Option (Den E.D t)},a0I ts h j f=some d->∃t y y',N5 ts h j=some ⟨t,y⟩/\f t y=some y'/\N5 ts d j=some ⟨t,y'⟩/\∀b,b≠j->N5 ts d b=N5 ts h b
 |[],_,_,_,_,c=>by simp[a0I]at c
 |t :: ts,hh,d,0,f,c=>by
  simp only[a0I]at c;split at c<;>try cases c
  rename_i y e;refine⟨t,hh.1,y,rfl,e,rfl,fun b g=>?_⟩;cases b with
  |zero=>exact absurd rfl g
  |succ b=>rfl
 |t :: ts,hh,d,j+1,f,c=>by
  simp only[a0I]at c;split at c<;>try cases c
  rename_i o e;obtain⟨n,y,y',k,i,m,l⟩:=q0e e;refine⟨n,y,y',k,i,m,fun b g=>?_⟩;cases b with
  |zero=>rfl
  |succ b=>exact l b (by omega)
def o0t (j:Q1 E){t:U}{x x':Den E.D t}{f:Nat}{g:(u:U)->List (Den E.D u)->Option (List (Den E.D u))}(h:setRow E t x f g=some x'):
  ∃u ys c,V3 E t x f=some ⟨u,ys⟩/\g u ys=some c/\V3 E t x' f=some ⟨u,c⟩/\∀b,b≠f->V3 E t x' b=V3 E t x b:=by
 cases t with
 |list u=>
  have h:m0l g u x f=some x':=h;unfold m0l at h;split at h<;>try cases h
  refine⟨u,x,x',rfl,h,rfl,fun b e=>?_⟩;cases b with
  |zero=>exact absurd rfl e
  |succ b=>rfl
 |st k=>
  have h:m00 E k (a0I (E.fs k) (E.un k x) f (p0S g))=some x':=h;unfold m00 at h;split at h<;>try cases h
  rename_i i l;obtain⟨n,y,y',m,d,p,o⟩:=q0e l;cases n with
  |list u=>
   have d:g u y=some y':=d;exact⟨u,y,y',(show c0v (N5 (E.fs k) (E.un k x) f)=_ by rw[m];rfl),d,(show c0v (N5 (E.fs k) (E.un k (E.mkS k i)) f)=_ by rw[j.unmk,p];rfl),fun b e=>(show c0v (N5 (E.fs k) (E.un k (E.mkS k i)) b)=c0v (N5 (E.fs k) (E.un k x) b) by rw[j.unmk,o b e])⟩
  |_=>exact absurd (show none=some y' from d) (by simp)
 |_=>exact absurd (show none=some x' from h) (by simp)
def t04 {F:List Nat}{i f e c:Nat}(d:f<F.length)(b:c<F.length)(h:rowAt F i f=rowAt F e c):i=e/\f=c:=by
 unfold rowAt at h;have hp:0<F.length:=by omega
 have g:=congrArg (· / F.length) h;have a2:=congrArg (· % F.length) h;simp only[mul_comm _ F.length,Nat.mul_add_div hp,Nat.mul_add_mod,Nat.div_eq_of_lt d,Nat.div_eq_of_lt b,Nat.mod_eq_of_lt d,Nat.mod_eq_of_lt b]at g a2;omega
def t0T {D:Nat->Type}{q r f:Nat}{i:Int}:∀{l:List (Nat×Th D)},(r,Th.rof q i f)∈l->r∈C9 q l
 |[],h=>by cases h
 |(r',x) :: l,h=>by
  rcases mem_cons.1 h with h|h
  ·cases h;simp[C9]
  ·have b:=t0T h;cases x with
   |rof q' i' f'=>
    simp only[C9];split
    ·exact mem_cons_of_mem _ b
    ·exact b
   |_=>exact b
def r0Z {α:Type}:∀{l:List (Nat×α)} {k:Nat} {v:α},Q4 l k=some v->(k,v)∈l
 |[],k,v,h=>by simp[Q4]at h
 |(j,x) :: l,k,v,h=>by
  rw[a0q]at h;split at h
  ·rename_i e;cases h;subst e;simp
  ·exact mem_cons_of_mem _ (r0Z h)
def i0K {D:Nat->Type}{s:St D}{r q f:Nat}{i:Int}(h:E0 s r=.rof q i f):r∈C9 q s.th:=by
 unfold E0 at h;split at h
 ·rename_i x b;subst h;exact t0T (r0Z b)
 ·cases h
def d0p {D:Nat->Type}:∀(l:List Nat) (s:St D) (j:Nat),E0 (X0 s l) j=if j∈l then .gone else E0 s j
 |[],s,j=>by simp[X0]
 |i :: l,s,j=>by
  have c:=d0p l (s.at i .gone) j;rw[show X0 s (i :: l)=X0 (s.at i .gone) l from rfl,c];have:E0 (s.at i .gone) j=if i=j then .gone else E0 s j:=by
   unfold E0 St.at;simp only[a0q]
   by_cases h:i=j<;>simp[h]
  rw[this]
  by_cases h1:j∈l
  ·simp[h1]
  ·by_cases b:i=j
   ·simp[b]
   ·have:¬j=i:=fun e=>b e.symm;simp[h1,b,this]
def a0d {D:Nat->Type}:∀(l:List Nat) (s:St D),(X0 s l).nid=s.nid/\(X0 s l).fr=s.fr/\(X0 s l).n=s.n/\(X0 s l).stk=s.stk/\∃t,(X0 s l).th=t++s.th
 |[],s=>⟨rfl,rfl,rfl,rfl,[],rfl⟩
 |i :: l,s=>by
  obtain⟨h1,d,c,e,t,b⟩:=a0d l (s.at i .gone);exact⟨h1,d,c,e,t++[(i,.gone)],by show(X0 (s.at i .gone) l).th=_;rw[b];simp[St.at]⟩
def Ext.X0 {D:Nat->Type}(s:St D)(l:List Nat):Ext s (X0 s l):=by
 obtain⟨h1,d,c,e,t,b⟩:=a0d l s;exact⟨c,⟨[],by rw[d];rfl⟩,⟨t,b⟩,e,by rw[h1];exact le_refl _⟩
def Rp.s0n (h:Rp E A s ρ S a as w){id:Nat}{x:Th E.D}{v:Value}{G:List Nat}{S1:D0}{w1:World}(d:P1 (E0 s id)=true)(I:hd v=hd (ρ id))(cx:Cx A.w0 A.W0 A.S0 w1 S1)(kp:U0 w.heap S w1.heap S1)(hs:∀k,S k->S1 k)
  (hb:∀k,k<w.heap.size->¬Bk (ρ id) k->w1.heap[k]?=w.heap[k]?) (hB:∀k,Bk v k->Bk (ρ id) k\/∃r∈G,P1 (E0 s r)=true/\Bk (ρ r) k)
  (hx:X3 E (M6 ρ id v) s.nid w1.heap S1 x v) (C:∀r i f,E0 s r=.rof id i f->r∈G) (a1:∀q i f,x≠.rof q i f):Rp E A ((X0 s G).at id x) (M6 ρ id v) S1 a as w1:=by
 obtain⟨g1,g2,g3,g4,t,g5⟩:=a0d G s;have b2:=h.F7 (id:=id) (by rintro e;rw[e]at d;cases d);have e0:(X0 s G).at id x={ s with th:=(id,x) :: (t++s.th),nid:=s.nid }:=by
  unfold St.at;rw[g5];cases hh:X0 s G;rw[hh]at g1 g2 g3 g4;simp at g1 g2 g3 g4;simp[g1,g2,g3,g4]
 have hl:∀j,E0 ((X0 s G).at id x) j=if id=j then x else if j∈G then .gone else E0 s j:=fun j=>by rw[G8,d0p]
 rw[e0]at hl ⊢;have c:∀j,j≠id->j∉G->j<s.nid->b0o s { s with th:=(id,x) :: (t++s.th),nid:=s.nid } ρ (M6 ρ id v) S1 w w1 j:=fun j n hg l=>
  ⟨by rw[hl,if_neg (Ne.symm n),if_neg hg],l,G5 n,fun b k hk=>⟨hb k ((h.th j).live b k hk) (fun R=>h.dj id j (Ne.symm n) d b k R hk),hs k (h.ow j b k hk).1⟩⟩
 refine h.step (nid1:=s.nid) ⟨cx,kp,fun i _=>?_,le_refl _⟩ (fun j=>?_) fun r q i f g e F t xs z=>?_
 ·by_cases e:i=id
  ·subst e;rw[I5,I]
  ·rw[G5 e]
 ·by_cases e:id=j
  ·subst e;refine .inr ⟨by rw[hl,if_pos rfl,I5];exact hx,fun _ k hk=>?_,fun hle=>by omega⟩;rw[I5]at hk;have key:∃p,P1 (E0 s p)=true/\Bk (ρ p) k/\(p=id\/p∈G):=by
    rcases hB k hk with h1|⟨r,h1,y,m⟩
    ·exact⟨id,d,h1,.inl rfl⟩
    ·exact⟨r,y,m,.inr h1⟩
   obtain⟨p,h1,y,m⟩:=key;have h4:=h.ow p h1 k y;refine⟨⟨hs k h4.1,h4.2⟩,fun j n b o=>?_⟩;rw[hl,if_neg (fun e=>n e.symm)]at b;split at b
   ·cases b
   ·rename_i hg;rw[G5 n]at o;refine h.dj p j ?_ h1 b k y o
    rintro rfl
    rcases m with m|m
    ·exact n m
    ·exact hg m
  ·by_cases l:j<s.nid
   ·by_cases hg:j∈G
    ·rw[hl,if_neg e,if_pos hg];exact .inr ⟨trivial,(fun ho=>by cases ho),fun _=>rfl⟩
    ·exact .inl (c j (fun h=>e h.symm) hg l)
   ·rw[hl,if_neg e];have:(if j∈G then Th.gone else E0 s j)=.gone:=by
     split
     ·rfl
     ·exact h.lt j (by omega)
    rw[this];exact .inr ⟨trivial,(fun ho=>by cases ho),fun _=>rfl⟩
 ·rw[hl]at g;split at g
  ·exact absurd g (a1 q i f)
  ·rename_i J;split at g
   ·cases g
   ·rename_i hg;have U:=h.b0T g;rw[hl]at z;split at z
    ·rename_i R;subst R;exact absurd (C r i f g) hg
    ·rename_i u;split at z
     ·cases z
     ·rename_i b1;exact .inl ⟨c r (Ne.symm J) hg (h.F7 (by rw[g];simp)),c q (Ne.symm u) b1 U⟩
def Rp.take (h:Rp E A s ρ S a as w){x:Th E.D}{v:Value}{G:List Nat}{S1:D0}{w1:World}(cx:Cx A.w0 A.W0 A.S0 w1 S1)(kp:U0 w.heap S w1.heap S1)(hs:∀k,S k->S1 k)
  (hb:∀k,k<w.heap.size->(∀j∈G,P1 (E0 s j)=true->¬Bk (ρ j) k)->w1.heap[k]?=w.heap[k]?) (hB:∀k,Bk v k->P1 x=true->S1 k/\((∃j∈G,P1 (E0 s j)=true/\Bk (ρ j) k)\/w.heap.size<=k))
  (hx:X3 E (M6 ρ s.nid v) (s.nid+1) w1.heap S1 x v) (z:∀q i f,x≠.rof q i f):Rp E A ((X0 s G).new x) (M6 ρ s.nid v) S1 a as w1:=by
 obtain⟨g1,g2,g3,g4,t,g5⟩:=a0d G s;have e0:(X0 s G).new x={ s with th:=(s.nid,x) :: (t++s.th),nid:=s.nid+1 }:=by
  unfold St.new;rw[g5,g1];cases hh:X0 s G;rw[hh]at g1 g2 g3 g4;simp at g1 g2 g3 g4;simp[g2,g3,g4]
 have hl:∀j,E0 ((X0 s G).new x) j=if s.nid=j then x else if j∈G then .gone else E0 s j:=fun j=>by rw[k0c,d0p,g1]
 rw[e0]at hl ⊢;have c:∀j,j∉G->j<s.nid->b0o s { s with th:=(s.nid,x) :: (t++s.th),nid:=s.nid+1 } ρ (M6 ρ s.nid v) S1 w w1 j:=fun j hg g=>
  ⟨by rw[hl,if_neg (by omega),if_neg hg],g,G5 (by omega),fun b k hk=>⟨hb k ((h.th j).live b k hk) (fun o y I J=>h.dj o j (fun e=>hg (e▸y)) I b k J hk),hs k (h.ow j b k hk).1⟩⟩
 refine h.step (nid1:=s.nid+1) ⟨cx,kp,fun i hi=>by rw[G5 (by omega)],le_succ _⟩ (fun j=>?_) fun r q i f l e F t xs C=>?_
 ·by_cases e:s.nid=j
  ·subst e;refine .inr ⟨by rw[hl,if_pos rfl,I5];exact hx,fun m k hk=>?_,fun hle=>by omega⟩;rw[hl,if_pos rfl]at m;rw[I5]at hk;obtain⟨k1,n⟩:=hB k hk m;refine⟨⟨k1,?_⟩,fun j hj b d=>?_⟩
   ·rcases n with⟨j,_,U,u⟩|n
    ·exact(h.ow j U k u).2
    ·exact⟨fun h0=>by have:=h.cx.lt0 k h0;have:=h.cx.size;omega,.inr (by have:=h.cx.size;omega)⟩
   ·rw[hl,if_neg (fun e=>hj e.symm)]at b;split at b
    ·cases b
    ·rename_i hg;rw[G5 hj]at d;rcases n with⟨o,U,u,k5⟩|n
     ·exact h.dj o j (fun e=>hg (e▸U)) u b k k5 d
     ·have:=(h.th j).live b k d;omega
  ·by_cases g:j<s.nid
   ·by_cases hg:j∈G
    ·rw[hl,if_neg e,if_pos hg];exact .inr ⟨trivial,(fun m=>by cases m),fun _=>rfl⟩
    ·exact .inl (c j hg g)
   ·rw[hl,if_neg e];have:(if j∈G then Th.gone else E0 s j)=.gone:=by
     split
     ·rfl
     ·exact h.lt j (by omega)
    rw[this];exact .inr ⟨trivial,(fun m=>by cases m),fun _=>rfl⟩
 ·rw[hl]at l;split at l
  ·exact absurd l (z q i f)
  ·split at l
   ·cases l
   ·rename_i hg;have p:=h.b0T l;rw[hl,if_neg (by omega)]at C;split at C
    ·cases C
    ·rename_i R;exact .inl ⟨c r hg (h.F7 (by rw[l];simp)),c q R p⟩
def y0Z {s1 s2:St E.D}{q:Nat}(h:Z6 s1 s2 q=true)(he:Ext s s1)(k:Ext s1 s2):Z6 s s2 q=true:=by
 obtain⟨t,d⟩:=he.th;obtain⟨e,b⟩:=k.th;unfold Z6 at h;rw[b,length_append,add_sub_cancel,take_left' rfl]at h;obtain⟨p,hp,c⟩:=any_eq_true.1 h;rw[beq_eq]at c;subst c;exact g0j (t:=e++t) (by rw[b,d];simp) (List.mem_append_left _ hp)
def v0y {G:List Nat}{j:Nat}(e:j∈G):∀s:St E.D,Z6 s (X0 s G) j=true:=by
 induction G with
 |nil=>cases e
 |cons i r ih=>
  intro s;rcases mem_cons.1 e with rfl|h
  ·exact h0Y (s1:=s.at j .gone) (f0n s) (Ext.at s j _) (Ext.X0 _ r)
  ·obtain⟨t,d⟩:=(Ext.X0 (s.at i .gone) r).th;have b:=ih h (s.at i .gone);unfold Z6 at b;rw[d,length_append,add_sub_cancel,take_left' rfl]at b;obtain⟨p,hp,c⟩:=any_eq_true.1 b;rw[beq_eq]at c;subst c;exact g0j (t:=t++[(i,.gone)]) (by show(X0 (s.at i .gone) r).th=_;rw[d];simp[St.at]) (List.mem_append_left _ hp)
def x0T {G:List Nat}{j:Nat}{x:Th E.D}(b:j∈G):Z6 s ((X0 s G).new x) j=true:=h0Y (v0y b s) (Ext.X0 s G) (Ext.new _ _)
def Rp.r0N (h:Rp E A s ρ S a as w){x:Th E.D}{v:Value}(C:∀k,Bk v k->P1 x=true->(S k/\¬A.S0 k/\Wr A.W0 A.w0 k)/\∀j,P1 (E0 s j)=true->¬Bk (ρ j) k)
  (I:X3 E (M6 ρ s.nid v) (s.nid+1) w.heap S x v) (n:∀q i f,x=.rof q i f->q<s.nid/\∀e F t xs,E0 s q=.B1 e F t xs none->b0W w.heap (hd (ρ q)) F.length i f v):Rp E A (s.new x) (M6 ρ s.nid v) S a as w:=by
 have hl:∀j,E0 { s with th:=(s.nid,x) :: s.th,nid:=s.nid+1 } j=if s.nid=j then x else E0 s j:=fun j=>k0c s j x;have b:∀j,j<s.nid->b0o s { s with th:=(s.nid,x) :: s.th,nid:=s.nid+1 } ρ (M6 ρ s.nid v) S w w j:=fun j d=>
  ⟨by rw[hl,if_neg (by omega)],d,G5 (by omega),fun c k hk=>⟨rfl,(h.ow j c k hk).1⟩⟩
 refine h.step (nid1:=s.nid+1) ⟨h.cx,U0.refl _ _,fun i hi=>by rw[G5 (by omega)],le_succ _⟩ (fun j=>?_) fun r q i f g e F t xs p=>?_
 ·by_cases e:s.nid=j
  ·subst e;refine .inr ⟨by rw[hl,if_pos rfl,I5];exact I,fun m k hk=>?_,fun hle=>by omega⟩;rw[hl,if_pos rfl]at m;rw[I5]at hk;obtain⟨z,y⟩:=C k hk m;refine⟨z,fun j u c l=>?_⟩;rw[hl,if_neg (fun e=>u e.symm)]at c;rw[G5 u]at l;exact y j c l
  ·by_cases d:j<s.nid
   ·exact .inl (b j d)
   ·rw[hl,if_neg e,h.lt j (by omega)];exact .inr ⟨trivial,(fun m=>by cases m),fun _=>rfl⟩
 ·rw[hl]at g;split at g
  ·rename_i J;subst J;obtain⟨h1,R⟩:=n q i f g;rw[hl,if_neg (by omega)]at p;refine .inr ?_;rw[G5 (by omega),I5];exact R e F t xs p
  ·have o:=h.b0T g;rw[hl,if_neg (by omega)]at p;exact .inl ⟨b r (h.F7 (by rw[g];simp)),b q o⟩
def d0U {id e:Nat}{F:List Nat}{o:Option (Int×Nat)}{t:U}{xs:List (Den E.D t)}(h:c0p E s id=some (e,F,o,⟨t,xs⟩)):E0 s id=.B1 e F t xs o:=by
 unfold c0p at h;split at h
 ·rename_i hl;simp only[Option.some.injEq,Prod.mk.injEq,Sigma.mk.injEq]at h;obtain⟨rfl,rfl,rfl,rfl,h⟩:=h;have h:=eq_of_heq h;subst h;exact hl
 ·cases h
def r0d:∀{l:List U} {f:Nat},b0v l=true->f<l.length->b0A E l f=f
 |[],f,_,b=>by simp at b
 |t :: l,0,_,_=>rfl
 |t :: l,f+1,hb,b=>by
  simp only[b0v,and_eq_true]at hb;obtain⟨c,d⟩:=hb;cases t<;>simp only[g02,Bool.false_eq_true]at c
  simp only[b0A];rw[r0d d (by simpa using b)];exact Nat.add_comm 1 f
def s0v {D:Nat->Type}:∀{l:List U} {h:HL D l} {f:Nat} {t:U} {y:Den D t},N5 l h f=some ⟨t,y⟩->k0i l f=some t/\f<l.length
 |[],_,f,_,_,h=>by simp[N5]at h
 |t :: l,h,0,_,_,hg=>by
  simp only[N5,Option.some.injEq,Sigma.mk.injEq]at hg;obtain⟨rfl,_⟩:=hg;exact⟨rfl,by simp⟩
 |t :: l,h,f+1,_,_,hg=>by
  obtain⟨h1,b⟩:=s0v (l:=l) hg;exact⟨h1,by simpa using b⟩
def z0e {t u w':U}{x:Den E.D t}{f:Nat}{ys:List (Den E.D w')}(h:o0z E t f=some u)(b:V3 E t x f=some ⟨w',ys⟩):w'=u:=by
 cases t<;>simp only[o0z]at h<;>try cases h
 ·rename_i t;cases f<;>simp only at h<;>try cases h
  exact(congrArg Sigma.fst (Option.some.inj (show some _=some _ from b))).symm
 ·rename_i k;split at h<;>try cases h
  rename_i c;have b:c0v (N5 (E.fs k) (E.un k x) f)=some ⟨w',ys⟩:=b;cases hg:N5 (E.fs k) (E.un k x) f with
  |none=>rw[hg]at b;cases b
  |some p=>
   obtain⟨d,y⟩:=p;rw[hg]at b;have:=(s0v hg).1;rw[c]at this;cases this;exact(congrArg Sigma.fst (Option.some.inj b)).symm
def u0k {t:U}{F:List Nat}{q:List P6}{f:Nat}(b:l9 E t F=true)(h:j0j E t q=some f)(i:f<F.length):M4 q=f:=by
 simp only[l9,and_eq_true,beq_eq]at b;obtain⟨⟨_,d⟩,c⟩:=b;unfold j0j at h;split at h<;>try cases h
 ·rfl
 ·rename_i k g o;split at h<;>try cases h
  rename_i e;rw[beq_eq]at e;simp only[l0d]at d;have:=r0d (E:=E) c (f:=f) (by omega);simp only[M4,Nat.add_zero];omega
def s0O (h:Rp E A s ρ S a as w){e:Nat}{u:U}{v:V E.D}{i:Value}(n:VS E ρ s.nid w.heap S v i){g:Option Nat}{ys:List (Den E.D u)}(c:e06 E s e u v=some (g,ys)):
  S5 E w.heap S e u ys i/\i.oneCell'=true/\(match g with|none=>i=D7|some j=>ρ j=i/\∃l b,E0 s j=.lst e l b):=by
 cases v with
 |nil=>
  simp only[e06,Option.some.injEq,Prod.mk.injEq]at c;obtain⟨rfl,rfl⟩:=c;obtain rfl:=n.b0n;exact⟨⟨[],⟨by simp,.inl ⟨rfl,none,rfl⟩⟩,U1.nil⟩,rfl,rfl⟩
 |sl j=>
  simp only[e06]at c;split at c<;>try cases c
  rename_i e' l b hl;split at c<;>try cases c
  rename_i k m;rw[beq_eq]at k;subst k;obtain⟨p,m⟩:=L9 m;subst p;subst m;have hl:=j0w hl;have f:=h.th j;rw[hl]at f;obtain⟨_,rfl⟩:=n.X9;have f:S5 E w.heap S e l b (ρ j):=f;obtain⟨A',c',d⟩:=f.form;have o:hd (ρ j)=ρ j:=by rw[d];rfl
  rw[o];exact⟨f,by rw[d];rfl,rfl,l,b,hl⟩
 |_=>simp[e06]at c
def Rp.l0m (h:Rp E A s ρ S a as w){d e f:Nat}{j:Int}{F:List Nat}{t0:U}{xs:List (Den E.D t0)}{i:Value}(y:E0 s d=.B1 e F t0 xs none)(l:b0W w.heap (hd (ρ d)) F.length j f i):
  ∃cs,H8 E w.heap S e F t0 xs none (ρ d) cs/\(0<=j/\j<xs.length)/\f<F.length/\cs[rowAt F j.toNat f]?=some i/\(Go.X.tl (ρ d))[rowAt F j.toNat f]?=some i:=by
 obtain⟨v,x,m2,c2,u,m,t,p⟩:=l;have b:=h.th d;rw[y]at b;obtain⟨cs,b⟩:=b;have g:=b.row;rw[u]at g;obtain⟨rfl,_,_,c⟩:=Row.cell g (by omega);have k:j.toNat<xs.length:=by have:=m.2;have:=m.1;omega
 have q:rowAt F j.toNat f<xs.length*(J0 E t0).sz:=by
  rw[(d0v b.ok).1];unfold rowAt;have:j.toNat*F.length+F.length<=xs.length*F.length:=by rw[<-succ_mul];exact mul_le_mul_right _ k
  omega
 have n:=c w.heap rfl _ q;have p:U2 w.heap v (x+rowAt F j.toNat f)=some i:=p;rw[p]at n;have r:=d0I (o:=none) t (by simp) n.symm (by simp);rw[<-b.tl]at r;exact⟨cs,b,m,t,n.symm,r⟩
def Rp.s03 (h:Rp E A s ρ S a as w){w1:World}{g e f e':Nat}{j:Int}{F:List Nat}{t0 u:U}{xs:List (Den E.D t0)}{x:Den E.D t0}{a1:List (Den E.D u)}{n:Value}(hq:E0 s g=.B1 e F t0 xs none)(b2:b0W w.heap (hd (ρ g)) F.length j f n)
  (q:V3 E t0 x f=some ⟨u,a1⟩) (I:∀c,c≠f->V3 E t0 x c=V3 E t0 (U6 E t0 xs j) c) (b1:F[f]?=some e') (hb:∀k,k<w.heap.size->D1 n≠some k->w1.heap[k]?=w.heap[k]?) (cx:Cx A.w0 A.W0 A.S0 w1 S) (kp:U0 w.heap S w1.heap S) (hL:S5 E w1.heap S e' u a1 n):
  Rp E A (s.at g (.B1 e F t0 (xs.set j.toNat x) none)) ρ S a as w1:=by
 obtain⟨cs,d,k2,k3,h5,h8⟩:=h.l0m hq b2;have m:P1 (E0 s g)=true:=by rw[hq];rfl
 have C:=Y9 (E:=E) (t:=t0) (xs:=xs) k2.1 k2.2;have c0:j.toNat<xs.length:=by have:=k2.2;have:=k2.1;omega
 have b4:∀(p:Nat) (r':Value),(Go.X.tl (ρ g))[p]?=some r'->p≠rowAt F j.toNat f->∀b,D1 r'=some b->D1 n≠some b:=fun p r' hp c6 b b3 b5=>
  d.ap (p+1) (rowAt F j.toNat f+1) r' n (by omega) (by simpa using hp) (by simpa using h8) b b3 b5
 have l:∀b',D1 (hd (ρ g))=some b'->w1.heap[b']?=w.heap[b']?:=fun b' i=>hb b' (Row.live d.row b' i) (fun hk=>d.ap 0 (rowAt F j.toNat f+1) (hd (ρ g)) n (by omega) rfl (by simpa using h8) b' i hk);refine h.turn (w1:=w1) (S1:=S) (id:=g) (v:=ρ g) (x:=.B1 e F t0 (xs.set j.toNat x) none) (h.F7 (by rw[hq];simp)) m cx kp (fun _ h=>h) (fun k' c3 hn=>hb k' c3 (fun e=>hn (Bk.tl (mem_of_getElem? h8) e))) rfl (fun k hk=>(h.ow g m k hk).1) ?_ (by intros;simp) ?_
 ·refine⟨cs,by rw[length_set];exact Row.mono l d.row,d.tl,d.ok,d.bd,fun z x' c u' y e2 g1 g2 g3 g4=>?_,d.one,d.ap⟩;have J:c<F.length:=(List.getElem?_eq_some_iff.1 g3).1;have old:∀x0,xs[z]?=some x0->V3 E t0 x0 c=some ⟨u',y⟩->(z≠j.toNat\/c≠f)->∃r',cs[rowAt F z c]?=some r'/\S5 E w1.heap S e2 u' y r':=by
   intro x0 q1 q2 q3;obtain⟨r',p1,p2⟩:=d.rows z _ c u' y e2 q1 q2 g3 (by simp);have p8:=d0I (o:=none) J (by simp) p1 (by simp);rw[<-d.tl]at p8;refine⟨r',p1,p2.mono kp fun b' i=>hb b' (by obtain⟨_,R,_⟩:=p2;exact Row.live R b' i) (b4 _ r' p8 (fun e=>?_) b' i)⟩;obtain⟨e3,e4⟩:=t04 J k3 e;rcases q3 with q3|q3
   ·exact q3 e3
   ·exact q3 e4
  by_cases hi:z=j.toNat
  ·subst hi;rw[List.getElem?_set_self c0]at g1;obtain rfl:=Option.some.inj g1
   by_cases r:c=f
   ·subst r;rw[q]at g2;obtain⟨rfl,g2⟩:=Sigma.mk.inj (Option.some.inj g2);have g2:=eq_of_heq g2;subst g2;rw[b1]at g3;obtain rfl:=Option.some.inj g3;exact⟨n,h5,hL⟩
   ·rw[I c r]at g2;exact old _ C g2 (.inr r)
  ·rw[List.getElem?_set_ne (Ne.symm hi)]at g1;exact old _ g1 g2 (.inl hi)
 ·intro e' F' t' c5 e2 r' z c c4;simp only[Th.B1.injEq]at e2;obtain⟨_,rfl,_,_,_⟩:=e2;obtain⟨b',o',m',c',p1,p2,p3,p4⟩:=h.rf r' g z c c4 e F t0 xs hq;refine⟨b',o',m',c',p1,p2,p3,?_⟩;rw[<-p4];unfold U2;rw[l b' (by have:=d.row;rw[p1]at this ⊢;exact this.g0C (by omega))]
def E0i (hE:Q1 E)(h:Rp E A s ρ S a as w){R:Type}{k:K E R}{r:R}{T n id l f z:Nat}{j i:Int}{q:List P6}{v:V E.D}{up uv:Value}(e3:E0 s id=.rof l j f)(hp:VS E ρ s.nid w.heap S (.pe id i z q) up)(hv:VS E ρ s.nid w.heap S v uv)(i1:R5 E T=some n)(hn:vsz E v=n)(b4:c0k v=true)(hk:m0b E s n l j f i z q v k=some r):
  ∃s1 v w1,k s1 v=some r/\z6 E A s ρ S a as w s1 v Go.undef w1/\(Instr.storeAt T up uv).run E.P w=.ok () w1:=by
 obtain⟨c,hc,p,c6,b3⟩:=hv.cells hE b4;have hlen:c.length=n:=(i0G hE b3 b4).trans hn;obtain⟨j2,h3,b,o,m,j1,hr,⟨h0,hm⟩,hu⟩:=hp.c05;unfold m0b at hk;split at hk<;>try cases hk
 rename_i tt _ k4;split at hk<;>try cases hk
 rename_i u2 j3 k0;split at hk<;>try cases hk
 rename_i s1 y d;split at hk<;>try cases hk
 rename_i e F t0 xs e2;split at hk<;>try cases hk
 rename_i x c3;obtain⟨S1,h9,h2,he,hf,e4,h4⟩:=m0F hE h d;have hq:=d0U e2;have h7:∀g,P1 (E0 s1 g)=true->E0 s g=E0 s1 g:=fun g ho=>by
  unfold rdD at d;split at d<;>try cases d
  rename_i s2 hf;split at d<;>try cases d
  exact a0R _ s _ s1 hf g ho
 have U:E0 s l=.B1 e F t0 xs none:=by rw[h7 l (by rw[hq];rfl),hq]
 obtain⟨u,ys,k6,t,hg,I,c0⟩:=o0t hE c3;split at hg<;>try cases hg
 rename_i x2 b2 C;rw[and_eq_true,beq_eq,beq_eq]at b2;obtain⟨rfl,j0⟩:=b2;have b1:a09 E s l j f=some ⟨u,ys⟩:=by unfold a09;rw[U];exact t
 obtain⟨_,e1,_,_⟩:=h.h0a e3 b1;have c8:=h.rf id l j f e3 e F t0 xs U;obtain⟨cs,ht,k2,k3,h5,h8⟩:=h2.l0m hq c8;rw[e1]at hr;obtain⟨e',a1⟩:∃e',F[f]?=some e':=⟨_,List.getElem?_eq_getElem k3⟩
 obtain⟨k1,h6,hL⟩:=ht.rows j.toNat _ f u ys e' (Y9 k2.1 k2.2) t a1 (by simp);rw[h5]at h6;obtain rfl:=Option.some.inj h6;have J:D1 (ρ id)=some b:=by obtain⟨_,b5,_⟩:=hL;rw[hr]at b5 ⊢;exact b5.g0C (by omega)
 have e5:P1 (E0 s1 l)=true:=by rw[hq];rfl
 obtain⟨hS,k5,hW⟩:=h2.ow l e5 b (Bk.tl (mem_of_getElem? h8) J);rw[hr]at hL;obtain⟨w1,c4,ho,kp,c5⟩:=hL.store hE h0 hm C h3 (h4 c b3) j0 i1 p hlen c6 hS;rw[<-hr]at c5;exact⟨_,_,w1,hk,z6.of h9 (h2.s03 hq c8 I c0 a1 (fun k hk hn=>ho.block k hk (fun e=>hn (by rw[J,e]))) (ho.cx h2.cx hW) kp c5) VS.unit kp (he.trans (Ext.at s1 l _)) hf (fun k hk e9=>ho.block k hk (fun e=>e9 l (by rw[<-e4];exact h2.F7 (by rw[hq];simp)) (by rw[U];rfl) (g0F he) (Bk.tl (mem_of_getElem? h8) (by rw[J,e])))),by rw[hu];exact c4⟩
def z0F (hE:Q1 E)(h:Rp E A s ρ S a as w){R:Type}{k:K E R}{r:R}{T id z:Nat}{i:Int}{q:List P6}{v:V E.D}{up y:Value}(hp:VS E ρ s.nid w.heap S (.pe id i z q) up)(hv:VS E ρ s.nid w.heap S v y)(p5:R5 E T=some 1)(hk:l0z E s id i z q v k=some r):
  ∃s1 v w1,k s1 v=some r/\z6 E A s ρ S a as w s1 v Go.undef w1/\(Instr.storeAt T up y).run E.P w=.ok () w1:=by
 obtain⟨p7,r1,b,o0,m,r0,hr,⟨h0,hm⟩,hu⟩:=hp.c05;unfold l0z at hk;split at hk<;>try cases hk
 rename_i e F o t xs n1;split at hk<;>try cases hk
 rename_i f hz o1;split at hk<;>try cases hk
 rename_i u e' p0 l2;split at hk<;>try cases hk
 rename_i g ys q8;split at hk<;>try cases hk
 rename_i x l4;rw[beq_eq]at hz;subst hz;have hl:=d0U n1;have ht:=h.th id;rw[hl]at ht;obtain⟨cs,ht⟩:=ht;have hf:f<F.length:=(List.getElem?_eq_some_iff.1 l2).1;have k6:X2 E t=F.length:=(d0v ht.ok).1;have l0:=u0k ht.ok o1 hf;obtain⟨l3,b2,hg⟩:=s0O h hv q8;obtain⟨u',r3,p4,k0,J,h8,k5⟩:=o0t hE l4;obtain rfl:=z0e p0 k0;obtain⟨ec,J⟩:=L9 J;obtain rfl:p4=ys:=J.symm;have j0:=ht.row;rw[hr]at j0;obtain⟨rfl,r2,C,_⟩:=Row.cell j0 (by omega);have k3:i.toNat<xs.length:=by omega
 have c6:∀j g',o=some (j,g')->j=i/\g'=f:=by
  intro j g' ho;subst ho;unfold r0f at hk;simp only at hk;split at hk<;>rename_i b1
  ·split at b1<;>cases b1
  ·split at hk<;>rename_i k4
   ·split at b1
    ·rename_i n2;rw[beq_eq]at n2;simp only[Option.some.injEq]at b1;subst b1;exact⟨of_decide_eq_true k4,n2.symm⟩
    ·simp only[Option.some.injEq]at b1;subst b1;cases k4
   ·cases hk
 have b3:k ((N7 (c0l s g) id).at id (.B1 e F t (xs.set i.toNat x) none)) (.tup [])=some r:=by
  split at hk
  ·exact hk
  ·split at hk
   ·exact hk
   ·cases hk
 have h7:rowAt F i.toNat f<cs.length:=by
  rw[ht.sz];unfold rowAt;have:i.toNat*F.length+F.length<=xs.length*F.length:=by rw[<-succ_mul];exact mul_le_mul_right _ k3
  omega
 generalize c5:rowAt F i.toNat f=p at h7;have hT:∀p',p'≠p->(Go.X.tl (ρ id))[p']?=cs[p']?:=by
  intro p' n;rw[ht.tl];unfold d0A;split
  ·rfl
  ·rename_i j g' _;obtain⟨rfl,rfl⟩:=c6 _ _ rfl;rw[List.getElem?_set_ne (by rw[c5];exact Ne.symm n)]
 have q7:cs=cs.take p++([cs[p]]++cs.drop (p+1)):=by
  rw[List.singleton_append,List.getElem_cons_drop,take_append_drop]
 obtain⟨w1,n0,ho,b5⟩:=u0O (off:=p) (c:=[y]) (by omega) j0 q7 (by rw[length_take];omega) rfl p5 (by rw[cells_one b2]) rfl (by simpa using b2);have k1:cs.take p++([y]++cs.drop (p+1))=cs.set p y:=by
  rw[List.singleton_append,List.set_eq_take_append_cons_drop,if_pos h7]
 rw[k1]at b5;have b4:P1 (E0 s id)=true:=by rw[hl];rfl
 obtain⟨hS,r5,hW⟩:=h.ow id b4 b (Bk.hd (by rw[hr];exact C));have kp:=ho.L1 hS;have hblk:∀I,D1 y=some I->¬Bk (ρ id) I/\∃j,g=some j/\P1 (E0 s j)=true/\Bk (ρ j) I:=by
  intro I d;cases g with
  |none=>
   have hg:y=D7:=hg;subst hg;cases d
  |some j=>
   obtain⟨q4,u9,y9,j1⟩:=hg;have l1:P1 (E0 s j)=true:=by rw[j1];rfl
   have k2:Bk (ρ j) I:=Bk.hd (by rw[q4,(d0T b2).1];exact d);refine⟨h.dj j id ?_ l1 b4 I k2,j,rfl,l1,k2⟩
   rintro rfl
   rw[hl]at j1;cases j1
 have hG:∃G:List Nat,N7 (c0l s g) id=X0 s G/\(∀r' i' f',E0 s r'=.rof id i' f'->r'∈G)/\∀j,g=some j->j∈G:=by
  cases g with
  |none=>exact⟨C9 id s.th,rfl,fun r' i' f' h5=>i0K h5,fun j hj=>by cases hj⟩
  |some j=>exact⟨j :: C9 id s.th,rfl,fun r' i' f' h5=>mem_cons_of_mem _ (i0K h5),fun j' hj=>by cases hj;simp⟩
 obtain⟨G,p6,p8,n9⟩:=hG;rw[p6]at b3;have j2:hd (Value.tuple (hd (ρ id) :: cs.set p y).toArray)=hd (ρ id):=rfl;have h6:Go.X.tl (Value.tuple (hd (ρ id) :: cs.set p y).toArray)=cs.set p y:=rfl;have hold:∀p' u',p'≠p->(cs.set p y)[p']?=some u'->(Go.X.tl (ρ id))[p']?=some u':=fun p' u' n a1=>by
  rw[List.getElem?_set_ne (Ne.symm n)]at a1;rw[hT p' n];exact a1
 have c4:(cs.set p y)[p]?=some y:=List.getElem?_set_self h7;have c8:Ext s (X0 s G):=Ext.X0 s G;refine⟨_,_,w1,b3,⟨⟨_,S,h.s0n b4 j2 (ho.cx h.cx hW) kp (fun _ h=>h) (fun I d hn=>ho.block I d (fun e=>hn (by rw[e];exact Bk.hd (by rw[hr];exact C)))) (fun I d=>?_) ?_ p8 (by intros;simp),VS.unit,kp⟩,c8.trans (Ext.at _ id _),(a0d G s).2.1,fun e9=>?_⟩,?_⟩
 ·rcases c0Y.1 d with d|⟨u',a1,d⟩
  ·exact .inl (Bk.hd d)
  ·rw[h6]at a1;obtain⟨p',h4⟩:=List.getElem?_of_mem a1
   by_cases n:p'=p
   ·subst n;rw[c4]at h4;obtain rfl:=Option.some.inj h4;obtain⟨_,j,e1,e2,e3⟩:=hblk I d;exact .inr ⟨j,n9 j e1,e2,e3⟩
   ·exact .inl (Bk.tl (mem_of_getElem? (hold p' u' n h4)) d)
 ·refine⟨cs.set p y,by rw[j2,length_set,hr];exact b5,by rw[h6];rfl,ht.ok,(fun _ _ h=>by cases h),fun i' x' f' u2 j3 e2 g1 g2 g3 _=>?_,fun u' a1=>?_,fun U i2 v1 v2 n l h3 I e5 b3=>?_⟩
  ·have q5:f'<F.length:=(List.getElem?_eq_some_iff.1 g3).1;have r4:i'<xs.length:=by have:=(List.getElem?_eq_some_iff.1 g1).1;rwa [length_set]at this
   have main:∀x0,xs[i']?=some x0->V3 E t x0 f'=some ⟨u2,j3⟩->(i'≠i.toNat\/f'≠f)->∃r',(cs.set p y)[rowAt F i' f']?=some r'/\S5 E w1.heap S e2 u2 j3 r':=by
    intro x0 q1 q2 q3;have k8:rowAt F i' f'≠p:=by
     rw[<-c5];intro e;obtain⟨e3,e4⟩:=t04 q5 hf e;rcases q3 with q3|q3
     ·exact q3 e3
     ·exact q3 e4
    obtain⟨r',p1,p2⟩:=ht.rows i' _ f' u2 j3 e2 q1 q2 g3 (by
     intro ho;obtain⟨e3,e4⟩:=c6 _ _ ho;rcases q3 with q3|q3
     ·exact q3 (by omega)
     ·exact q3 e4)
    have p3:(cs.set p y)[rowAt F i' f']?=some r':=by rw[List.getElem?_set_ne (Ne.symm k8)];exact p1
    refine⟨r',p3,p2.mono kp fun b' c0=>ho.block b' (by obtain⟨_,c3,_⟩:=p2;exact Row.live c3 b' c0) ?_⟩
    rintro rfl
    exact ht.ap 0 (rowAt F i' f'+1) (hd (ρ id)) r' (by omega) rfl (by simpa using hold _ _ k8 p3) b' (by rw[hr];exact C) c0
   by_cases hi:i'=i.toNat
   ·subst hi;rw[List.getElem?_set_self k3]at g1;obtain rfl:=Option.some.inj g1
    by_cases h2:f'=f
    ·subst h2;rw[h8]at g2;obtain⟨rfl,g2⟩:=Sigma.mk.inj (Option.some.inj g2);have g2:=eq_of_heq g2;subst g2;rw[l2]at g3;obtain rfl:=Option.some.inj g3;refine⟨y,by rw[c5];exact c4,l3.mono kp fun b' c0=>ho.block b' (by obtain⟨_,c3,_⟩:=l3;exact Row.live c3 b' c0) ?_⟩
     rintro rfl
     exact(hblk b' c0).1 (Bk.hd (by rw[hr];exact C))
    ·rw[k5 f' h2]at g2;exact main _ (Y9 h0 hm) g2 (.inr h2)
   ·rw[List.getElem?_set_ne (Ne.symm hi)]at g1;exact main _ g1 g2 (.inl hi)
  ·rcases List.mem_or_eq_of_mem_set a1 with h9|rfl
   ·exact ht.one _ h9
   ·exact b2
  ·rw[j2,h6]at l h3;have key:∀(U:Nat) (v1:Value),(hd (ρ id) :: cs.set p y)[U]?=some v1->(U=p+1/\v1=y)\/(U≠p+1/\(hd (ρ id) :: Go.X.tl (ρ id))[U]?=some v1):=by
    intro U v1 l;cases U with
    |zero=>exact .inr ⟨by omega,l⟩
    |succ U=>
     simp only[List.getElem?_cons_succ]at l
     by_cases e1:U=p
     ·subst e1;rw[c4]at l;exact .inl ⟨rfl,(Option.some.inj l).symm⟩
     ·exact .inr ⟨by omega,by simpa using hold U v1 e1 l⟩
   have inB:∀(U:Nat) (v1:Value),(hd (ρ id) :: Go.X.tl (ρ id))[U]?=some v1->D1 v1=some I->Bk (ρ id) I:=by
    intro U v1 l hk;have:=mem_of_getElem? l;rcases mem_cons.1 this with rfl|h9
    ·exact Bk.hd hk
    ·exact Bk.tl h9 hk
   rcases key U v1 l with⟨e1,rfl⟩|⟨e1,q1⟩
   ·rcases key i2 v2 h3 with⟨e2,rfl⟩|⟨e2,q2⟩
    ·omega
    ·exact(hblk I e5).1 (inB _ _ q2 b3)
   ·rcases key i2 v2 h3 with⟨e2,rfl⟩|⟨e2,q2⟩
    ·exact(hblk I b3).1 (inB _ _ q1 e5)
    ·exact ht.ap U i2 v1 v2 n q1 q2 I e5 b3
 ·intro o2 q6;exact ho.block e9 o2 (fun e=>q6 id p7 (by first|assumption|(rw[hl];rfl)) (g0F c8) (Bk.hd (by rw[hr,e];exact C)))
 ·rw[hu,k6,l0];have:o0+i.toNat*F.length+f=o0+p:=by rw[<-c5];unfold rowAt;omega
  rw[this];exact n0
def C0d (hE:Q1 E)(h:Rp E A s ρ S a as w){R:Type}{k:K E R}{r:R}{T:Nat}{p v:V E.D}{up uv:Value}(hp:VS E ρ s.nid w.heap S p up)(hv:VS E ρ s.nid w.heap S v uv)(hk:i0T E s T p v k=some r):
  ∃s1 v w1,k s1 v=some r/\z6 E A s ρ S a as w s1 v Go.undef w1/\(Instr.storeAt T up uv).run E.P w=.ok () w1:=by
 unfold i0T at hk;split at hk<;>try cases hk
 rename_i n b4;split at hk<;>try cases hk
 rename_i b1;rw[and_eq_true,beq_eq]at b1;obtain⟨hn,b1⟩:=b1;obtain⟨c,hc,C,J,e5⟩:=hv.cells hE b1;have hlen:c.length=n:=(i0G hE e5 b1).trans hn;split at hk
 ·rename_i id off;obtain⟨U,_,b,hr,hu⟩:=hp.b0l;simp only[M4,Nat.add_zero]at hu;split at hk<;>try cases hk
  rename_i T' cs hb;have hl:=s0k hb;split at hk<;>try cases hk
  rename_i x1 x2 x3 k3;have ht:=h.th id;rw[hl]at ht;obtain⟨b',cc,t,c4,i1,h1⟩:=ht;obtain rfl:b=b':=by rw[t]at hr;simpa[hd,eq_comm]using hr
  obtain⟨c1,c2,c3,e,h3,k8,ha,_,hd⟩:=g0e hE k3 i1;rw[e]at c4;obtain⟨w1,I,ho,h8⟩:=l0j b4 C hlen J c4 h3 k8;rw[hu];obtain⟨e9,h6⟩:=h.p0l hl t ho h8 (l':=x1++H6 v++x3) (by rw[append_assoc];exact ha.app (hc.app hd)) (by
   intro u hu;rcases mem_append.1 hu with hu|hu
   ·exact h1 u (by rw[e];simp[hu])
   ·rcases mem_append.1 hu with hu|hu
    ·exact J u hu
    ·exact h1 u (by rw[e];simp[hu]))
  exact⟨_,_,w1,hk,z6.of (fun _ h=>h) e9 VS.unit h6 (Ext.at s id _) rfl (fun k hk hq=>ho.block k hk (fun e=>hq id U (by rw[hl];rfl) (f0n s) (by rw[e,t];rfl))),I⟩
 ·rename_i id off q _;obtain⟨U,c8,b,hr,hu⟩:=hp.b0l;split at hk<;>try cases hk
  rename_i s1 T' l g;unfold i0T.rdP at g;split at g<;>try cases g
  split at g<;>try cases g
  split at g<;>try cases g
  split at g<;>try cases g
  rename_i u2 _;split at g<;>try cases g
  rename_i s2 y hz b3;split at g<;>try cases g
  rename_i T2 l3 hb;split at g<;>try cases g
  rename_i a1 m' k6;split at g<;>try cases g
  rename_i t' x' cr l1;split at g<;>try cases g
  rename_i z b2;have hm:=D0P l1;subst hm;have c0:=w0q hz;obtain⟨S1,h9,h2,he,hf,c5,e4⟩:=m0F hE h b3;have hl:=s0k hb;have ht:=h2.th id;rw[hl]at ht;obtain⟨b',cc,t,c4,i1,h1⟩:=ht;obtain rfl:b=b':=by rw[t]at hr;simpa[hd,eq_comm]using hr
  obtain⟨c1,c2,e,h3,ha,j0⟩:=b0g hE _ _ _ _ _ k6 cc i1;unfold N0 at j0;obtain⟨d1,d2,rfl,hd,h5⟩:=j0;obtain⟨e1,e2,e3,j3,hle,k2,k1⟩:=i0Y hE q t' x' z d1 b2 c8 hd;have j2:w.heap[b]?=some (.cells ((c1++e1)++(e2++(e3++d2))).toArray T' (0,0)):=by rw[c4,e,j3];simp
  obtain⟨w1,I,ho,h8⟩:=l0j b4 C hlen J j2 (by rw[length_append,h3,hle]) (by rw[k2,c0,hn]);rw[hu];have hS:=h2.ow id (by rw[hl];rfl) b (by rw[t];rfl);have kp:=ho.L1 hS.1;have k5:(J0 E t').R w.heap S1 (e1++(c++e3)) z:=k1 c (e4 c e5);obtain⟨e9,h6⟩:=h2.p0l hl t ho h8 (l':=a1++.d t' z :: cr) (by
   have:(c1++e1)++(c++(e3++d2))=c1++((e1++(c++e3))++d2):=by simp
   rw[this];refine ha.app ?_;unfold N0;exact⟨_,d2,rfl,by unfold VC;exact k5,h5⟩) (by
   intro u hu;have:u∈cc\/u∈c:=by
    rw[e,j3];simp only[mem_append]at hu ⊢;rcases hu with(h|h)|h|h|h<;>simp[h]
   rcases this with hu|hu
   ·exact h1 u hu
   ·exact J u hu)
  exact⟨_,_,w1,hk,z6.of h9 e9 VS.unit h6 (he.trans (Ext.at s1 id _)) hf (fun k hk hq=>ho.block k hk (fun e=>hq id U (r0n b3 (by rw[hl];rfl)) (g0F he) (by rw[e,t];rfl))),I⟩
 ·rename_i id i z q;obtain⟨U,c8,b,o,m,c6,hr,⟨h0,hm⟩,hu⟩:=hp.c05;split at hk
  ·split at hk<;>try cases hk
   rename_i k0;rw[beq_eq]at k0;subst k0;exact z0F hE h hp hv b4 hk
  ·rename_i r0 j f hl;exact E0i hE h hl hp hv b4 hn b1 hk
  ·split at hk<;>try cases hk
   split at hk<;>try cases hk
   rename_i u2 _ _;split at hk<;>try cases hk
   rename_i s1 y b3;split at hk<;>try cases hk
   rename_i e t' xs hb;split at hk<;>try cases hk
   rename_i x c0 b2;rw[and_eq_true,beq_eq,beq_eq]at c0;obtain⟨rfl,l0⟩:=c0;obtain⟨S1,h9,h2,he,hf,c5,e4⟩:=m0F hE h b3;have hl:=j0w hb;have ht:=h2.th id;rw[hl]at ht;have h4:∃A' c',ρ id=.slice A' xs.length c':=S5.form ht;obtain⟨A',c',h4⟩:=h4;have t:ρ id=.slice (some ⟨b,o,none⟩) m c6:=by rw[<-hr,h4];rfl
   have b5:P1 (E0 s1 id)=true:=by rw[hl];rfl
   have h7:Bk (ρ id) b:=by
    obtain⟨_,j1,_⟩:=ht;rw[t]at j1 ⊢;exact j1.g0C (by omega)
   obtain⟨hS,l2,hW⟩:=h2.ow id b5 b h7;have hL:S5 E w.heap S1 e t' xs (.slice (some ⟨b,o,none⟩) m c6):=by rw[<-t];exact ht
   obtain⟨w1,I,ho,kp,k4⟩:=hL.store hE h0 hm b2 c8 (e4 c e5) l0 b4 C hlen J hS;refine⟨_,_,w1,hk,z6.of h9 (h2.turn (w1:=w1) (S1:=S1) (id:=id) (v:=ρ id) (x:=.lst e t' (xs.set i.toNat x)) (by rw[c5];exact U) b5 (ho.cx h2.cx hW) kp (fun _ h=>h) (fun k hk hn=>ho.block k hk (fun e=>hn (by rw[e];exact h7))) rfl (fun k hk=>(h2.ow id b5 k hk).1) ?_) VS.unit kp (he.trans (Ext.at s1 id _)) hf (fun k hk hq=>ho.block k hk (fun e=>hq id U (r0n b3 (by rw[hl];rfl)) (g0F he) (by rw[e];exact h7))),by rw[hu];exact I⟩;rw[t];exact k4
 ·cases hk
def c09 {t:U}{z:Value}{sz bytes:Nat}(h:b01 E t z sz bytes=true):sz=(J0 E t).sz/\z.cells.size=(J0 E t).sz/\0<(J0 E t).sz/\0<bytes:=by
 simp only[b01,and_eq_true,beq_eq,Nat.blt_eq]at h;obtain⟨⟨⟨h1,c⟩,b⟩,d⟩:=h;subst h1;exact⟨rfl,c,b,d⟩
def c0W {e:Nat}{z:Value}{sz bytes:Nat}(h:b03 E e=some (z,sz,bytes)):∃i,E.P.info? e=some i/\i.zero=some z/\i.size=sz/\i.bytes=bytes:=by
 unfold b03 at h;split at h<;>try cases h
 rename_i i hi;split at h<;>try cases h
 rename_i c b;exact⟨i,hi,b,rfl,rfl⟩
def c01 {T e:Nat}(h:b0e E T=some e):E.P.underlying T=some (.slice e):=by
 unfold b0e at h;split at h
 ·rename_i b;simp at h;subst h;exact b
 ·cases h
def Rp.j0f (h:Rp E A s ρ S a as w){e:Nat}{t:U}{xs:List (Den E.D t)}{v:Value}{w1:World}(g:Below w.heap.size w w1)(j:∀k,D1 v=some k->w.heap.size<=k/\k<w1.heap.size)(f:v.oneCell'=true)
  (m:∀S1,U0 w.heap S w1.heap S1->(∀k,D1 v=some k->S1 k)->∃cs,Row w1.heap e (J0 E t).sz v xs.length cs/\U1 (J0 E t) w1.heap S1 cs xs):
  z6 E A s ρ S a as w (s.new (.lst e t xs)) (.sl s.nid) v w1:=by
 obtain⟨b,c⟩:=d0T f;obtain⟨S1,hk,l⟩:=h.new (x:=.lst e t xs) (v:=v) (w1:=w1) g (fun k hk=>j k ((c k).1 hk)) (fun S1 hk i _=>m S1 hk fun k d=>i k ((c k).2 d) rfl);refine⟨⟨_,S1,l,?_,hk⟩,Ext.new s _,rfl,fun k hk _=>g.block k hk⟩;exact VS.of rfl (by unfold VC;exact⟨lt_succ_self _,by rw[I5,b];exact f,by rw[I5,b]⟩)
def r07 {n:Nat}{H:K0}(z:Value):VC E ρ n H S (ofZ E z) z.cells.toList:=by
 have h:=i0g (E:=E) (ρ:=ρ) (S:=S) (n:=n) (H:=H) z;unfold ofZ at h ⊢;split at h
 ·unfold VC;exact h
 ·rw[s0f]at h;exact h.a0p
def z0a (hE:Q1 E)(h:Rp E A s ρ S a as w){R:Type}{k:K E R}{r:R}{T:Nat}{n m:Operand}(hk:o03 E s T n m k=some r):
  ∃s1 v u w1,k s1 v=some r/\z6 E A s ρ S a as w s1 v u w1/\(Instr.makeSlice T (a.eval n) (a.eval m)).run E.P w=.ok u w1:=by
 unfold o03 at hk;split at hk<;>try cases hk
 rename_i e U x he hx hop;have p:n=m:=by
  unfold h05 at hop;split at hop
  ·rw[beq_eq]at hop;rw[hop]
  ·rw[of_decide_eq_true hop]
  ·cases hop
 subst p;split at hk<;>try cases hk
 rename_i t z sz bytes ht l;split at hk<;>try cases hk
 rename_i zx o hz;obtain⟨rfl,h1,h2,h3⟩:=c09 o;obtain⟨i,hi,y,J,j⟩:=c0W l;split at hk<;>try cases hk
 rename_i c;have hT:=c01 he;have I:=r9 hx (h.val n);rw[I];simp only[V2,and_eq_true,decide_eq_true_eq]at c;obtain⟨q,rfl⟩:=Int.eq_ofNat_of_zero_le c.1;have hq:q*bytes<=140737488355328:=by
  have h1:=c.2;have h2:((q*bytes:Nat):Int)<=140737488355328:=by rw[Int.natCast_mul];exact h1
  omega
 have a1:q<=q*bytes:=Nat.le_mul_of_pos_right _ h3;obtain⟨w1,d,b,hg⟩:=run_make_full (P:=E.P) w w.heap.size T e i z (J0 E t).sz hT hi y J U U q (by rw[j,mul_comm];omega) (by simp only[maxLen];omega) (le_refl _);have hB:Below w.heap.size w w1:=⟨hg.os,hg.tape,hg.output,hg.size,fun k hk=>hg.block k hk (by simp)⟩
 have hm:=n0j z.cells q;rw[h1]at hm;rw[hm]at b;have b:=Row.of b;have C:∀S1,(J0 E t).R w1.heap S1 z.cells.toList zx:=by
  intro S1;refine h0c (ρ:=ρ) (n:=0) hE (fun id=>?_) hz (r07 z);show X3 E ρ 0 w1.heap S1 .gone (ρ id)
  trivial
 refine⟨_,_,_,w1,hk,h.j0f hB (fun k hk=>?_) rfl fun S1 hk _=>⟨_,by simpa using b,i05 (C S1) q⟩,d⟩;obtain⟨b1,rfl⟩:=d0M hk;refine⟨le_refl _,?_⟩;rcases b.2 with⟨_,a,f⟩|⟨g,cap,cur,f,_,hgg,_⟩
 ·simp at f;omega
 ·simp at f;obtain⟨rfl,_⟩:=f;exact getElem?_lt hgg
def Row.o0k {H:K0}{e sz n:Nat}{v:Value}{cs:List Value}(h:Row H e sz v n cs):(Go.V.Row H e sz v n cs/\v.ownBlock=D1 v)\/(n=0/\cs=[]/\D1 v=none/\∃a,v=.slice (some a) 0 0):=by
 obtain⟨b,⟨h1,a,d⟩|⟨g,cap,cur,c,hp,r⟩⟩:=h
 ·subst h1;subst d;cases a with
  |none=>exact .inl ⟨⟨b,.inl ⟨rfl,rfl⟩⟩,rfl⟩
  |some a=>exact .inr ⟨rfl,by simpa using b,rfl,a,rfl⟩
 ·refine .inl ⟨⟨b,.inr ⟨g,cap,cur,c,r⟩⟩,?_⟩;subst c;exact(e0I (a:=⟨g,0,none⟩) (m:=n) hp).symm
def inX (v:Value)(S:D0):D0:=fun k=>D1 v=some k\/S k
structure GrX (w w1:World)(v:Value):Prop where
 os:w1.os=w.os
 tape:w1.tape=w.tape
 output:w1.output=w.output
 size:w.heap.size<=w1.heap.size
 block:∀k,k<w.heap.size->D1 v≠some k->w1.heap[k]?=w.heap[k]?
def t0G {a:Option Addr}{m c k:Nat}(h:D1 (.slice a m c)=some k):(Value.slice a m c).ownBlock=some k:=by
 cases a with
 |none=>cases h
 |some a=>obtain⟨_,rfl⟩:=d0M h;rfl
def j0H {α:Type}{T:Ty α}{t ty e:TypeId}{bytes:Nat}{z:Value}{v:Value}{xs ys:List α}{cs:List Value}{A:Option Addr}{c:Nat}(P:Program)(ht:P.underlying t=some (.slice e))(hE:(P.info? e).map (fun i=>(i.zero,i.size,i.bytes))=some (some z,T.sz,bytes))(p:(decide (z.cells.size=T.sz)&&decide (0<T.sz)&&decide (0<bytes))=true)
  (b2:Row w.heap e T.sz v xs.length cs) (c0:U1 T w.heap S cs xs) (hS:∀k,D1 v=some k->S k) (U:V5 T w.heap S A ys) (q:I0 bytes xs ys=true):
  ∃l w1,(Builtin.append_ #[t,t] ty #[v,.slice A ys.length c]).run P w=.ok l w1/\GrX w w1 v/\(∀k,D1 l=some k->(D1 v=some k\/w.heap.size<=k)/\k<w1.heap.size)/\(∃A1 c1,l=.slice A1 (xs++ys).length c1)/\
   ∀S1,U0 w.heap S w1.heap S1->∃y,Row w1.heap e T.sz l (xs++ys).length y/\U1 T w1.heap S1 y (xs++ys):=by
 rcases b2.o0k with⟨hV,f⟩|⟨h0,hc0,hnone,a,hv⟩
 ·have c3:Ow T e (fun _=>True) w.heap S v xs:=⟨fun k hk=>⟨hS k (by rw[<-f];exact hk),trivial⟩,cs,hV,c0⟩
  obtain⟨l,w1,n,hg,a1,J⟩:=z0i (P:=P) (w:=w) t ty e bytes z ht hE p c3 U (c:=c) q;have fin:∀S1,U0 w.heap S w1.heap S1->Ow T e (fun _=>True) w1.heap (fun k=>l.ownBlock=some k\/S1 k) l (xs++ys):=fun S1 hk=>by
   refine J (fun k=>l.ownBlock=some k\/S1 k) ⟨hk.size,fun b hb hn=>⟨fun hi=>?_,(hk.blk b hb hn).2⟩⟩ (fun _=>True) (fun k hk=>⟨.inl hk,trivial⟩);rcases hi with hi|hi
   ·rcases a1 with d|d
    ·rw[d,f]at hi;exact hn (hS b hi)
    ·rw[d]at hi;have:=Option.some.inj hi;omega
   ·exact(hk.blk b hb hn).1 hi
  have c8:U0 w.heap S w1.heap (fun k=>l.ownBlock=some k\/S k):=⟨hg.size,fun b hb hn=>⟨fun hi=>by
    rcases hi with hi|hi
    ·rcases a1 with d|d
     ·rw[d,f]at hi;exact hn (hS b hi)
     ·rw[d]at hi;have:=Option.some.inj hi;omega
    ·exact hn hi,hg.block b hb (fun d=>hn (hS b (by rw[<-f];exact d.symm)))⟩⟩
  have b1:=fin _ c8;obtain⟨A1,c1,m⟩:=b1.form;refine⟨l,w1,n,⟨hg.os,hg.tape,hg.output,hg.size,fun k hk hn=>hg.block k hk (fun d=>hn (by rw[<-f];exact d.symm))⟩,fun k hk=>?_,⟨A1,c1,m⟩,fun S1 hk=>?_⟩
  ·have r:l.ownBlock=some k:=by rw[m]at hk ⊢;exact t0G hk
   refine⟨?_,b1.lt k r⟩;rcases a1 with d|d
   ·rw[d,f]at r;exact .inl r
   ·rw[d]at r;exact .inr (Nat.le_of_eq (Option.some.inj r))
  ·obtain⟨_,y,h1,h2⟩:=fin S1 hk;exact⟨y,Row.ofV h1,h2.L1 (U0.less fun _ h=>.inr h)⟩
 ·subst hv;subst hc0;have c5:xs=[]:=eq_nil_of_length_eq_zero h0;subst c5;obtain⟨i,hi,b5⟩:=Option.map_eq_some_iff.1 hE;simp only[Prod.mk.injEq]at b5;obtain⟨hz,e2,c4⟩:=b5;simp only[and_eq_true,decide_eq_true_eq]at p;simp only[I0,decide_eq_true_eq,List.length_nil,zero_add]at q;have e4:ys.length<=maxLen:=by
   have:ys.length<=ys.length*bytes:=Nat.le_mul_of_pos_right _ p.2;simp only[maxLen];omega
  rcases eq_zero_or_pos ys.length with h0|hpos
  ·have h0:ys=[]:=eq_nil_of_length_eq_zero h0;subst h0;have g1:GrX w w (.slice (some a) 0 0):=⟨rfl,rfl,rfl,le_refl _,fun _ _ _=>rfl⟩
   have g2:Row w.heap e T.sz (.slice (some a) 0 0) ([]++[]:List α).length []:=⟨by simp,.inl ⟨rfl,_,rfl⟩⟩
   have g3:∀k,D1 (.slice (some a) 0 0)=some k->(D1 (.slice (some a) 0 0)=some k\/w.heap.size<=k)/\k<w.heap.size:=fun k hk=>by cases hk
   refine⟨.slice (some a) 0 0,w,?_,g1,g3,⟨some a,0,rfl⟩,fun S1 hk=>⟨[],g2,U1.nil⟩⟩;cases A<;>simp[Builtin.append_,run_underlying ht,sizeOf,typeInfo,hi,Builtin.lenOf,Builtin.firstCells,loadCells,loadCellsFrom,storeCells]
  ·obtain⟨b,off,_,hA,_⟩:=U 0 ys[0] (by simp[hpos]);subst hA;have rd:∀{A:Option Addr} {xs:List α},V5 T w.heap S A xs->∃news,U1 T w.heap S news xs/\∀b o,A=some ⟨b,o,none⟩->∀j u,news[j]?=some u->U2 w.heap b (o+0*T.sz+j)=some u:=fun hr=>V5.news (w:=w) (k:=0) (fun i x hx=>by
    obtain⟨b,o,cs,h1,h2,R⟩:=hr i x hx;exact⟨b,o,cs,h1,h2,fun j v hj=>by rw[zero_add];exact R j v hj⟩)
   obtain⟨news,b4,C⟩:=rd U;have I:∀j u,news[j]?=some u->w.cell? ((⟨b,off,none⟩:Addr).add j)=some u:=by
    intro j u hj;rw[b0a];have:=C b off rfl j u hj;simpa using this
   obtain⟨l,w',n,h2,R⟩:=run_append_arg_grows (P:=P) w t ty e i z T.sz bytes ht hi hz e2 c4 p.1.1 p.1.2 a 0 0 [] (by simp) (fun j u hj=>by simp at hj) ⟨b,off,none⟩ ys.length c news b4.1 I (by omega) (by omega) (by simpa using q);have hV:=h2;obtain⟨hl,hv|⟨g,cap,cur,hv,c6,hg,e5,hm,e9,e3⟩⟩:=hV
   ·exact absurd hv.2 (by omega)
   ·have b3:=Row.of h2;rw[zero_add,nil_append]at b3;refine⟨l,w',n,⟨R.os,R.tape,R.output,R.size,fun k hk _=>R.block k hk (by simp)⟩,fun k hk=>?_,⟨_,_,by rw[hv];simp;exact⟨rfl,rfl⟩⟩,fun S1 hk=>⟨news,by simpa using b3,by simpa using b4.L1 hk⟩⟩;rw[hv]at hk;obtain⟨_,rfl⟩:=d0M hk;exact⟨.inr c6,getElem?_lt hg⟩
def h0j (h:Rp E A s ρ S a as w){t:U}{y:V E.D}{u:Value}(q:VS E ρ s.nid w.heap S y u){ys:List (Den E.D t)}(b:e0J E s t y=some ys):
  ∃A' c,u=.slice A' ys.length c/\V5 (J0 E t) w.heap S A' ys:=by
 unfold e0J at b;split at b
 ·simp only[Option.some.injEq]at b;subst b;obtain rfl:=q.b0n;exact⟨none,0,rfl,fun i x k=>by simp at k⟩
 ·split at b<;>try cases b
  rename_i z p hl;obtain⟨e,b⟩:=L9 b;subst e;subst b;have o:=hl;unfold b0I at hl;split at hl
  ·cases hl;obtain⟨A',c,rfl,n⟩:=q.f04;exact⟨A',c,rfl,n.2.2⟩
  ·rename_i id _;obtain⟨C,rfl⟩:=q.X9;rcases h.o0Z o with⟨e,h1,_⟩|⟨A',c,h1,l⟩
   ·obtain⟨A',c,l⟩:=h1.form;rw[l]at h1;refine⟨A',c,l,fun i x k=>?_⟩;have hi:i<p.length:=(List.getElem?_eq_some_iff.1 k).1;cases A' with
    |none=>
     obtain⟨cs,f,_⟩:=h1;rcases f.2 with⟨h0,_⟩|⟨g,cap,cur,hv,_⟩
     ·omega
     ·cases hv
    |some ad=>
     have m:=h1;obtain⟨R,d,_⟩:=m;rcases d.2 with⟨h0,_⟩|⟨g,cap,cur,hv,_⟩
     ·omega
     ·simp at hv;obtain⟨rfl,_⟩:=hv;obtain⟨_,I⟩:=h1.el;obtain⟨_,cs,r,J⟩:=I i (by omega) (by omega);have:U6 E z p i=x:=by
       have:=Y9 (E:=E) (t:=z) (xs:=p) (i:=i) (by omega) (by omega);rw[Int.toNat_natCast,k]at this;exact(Option.some.inj this).symm
      rw[this]at r;exact⟨g,0,cs,rfl,r,fun j v hj=>J w.heap rfl j v hj⟩
   ·exact⟨A',c,h1,l.2.2⟩
  ·cases hl
def t0Z (hE:Q1 E)(h:Rp E A s ρ S a as w){R:Type}{k:K E R}{r:R}{T:Nat}{x y:V E.D}{ux uy:Value}(hx:VS E ρ s.nid w.heap S x ux)(hy:VS E ρ s.nid w.heap S y uy)(ty:Nat)(hk:k0B E s T x y k=some r):
  ∃s1 v u w1,k s1 v=some r/\z6 E A s ρ S a as w s1 v u w1/\(Builtin.append_ #[T,T] ty #[ux,uy]).run E.P w=.ok u w1:=by
 unfold k0B at hk;split at hk<;>try cases hk
 rename_i e he;split at hk<;>try cases hk
 rename_i t z sz bytes ht h7;split at hk<;>try cases hk
 rename_i ys g xs h9 c6 d;split at hk<;>try cases hk
 rename_i I;obtain⟨rfl,h1,h2,h3⟩:=c09 h9;obtain⟨i,hi,i1,j0,e3⟩:=c0W h7;have hT:=c01 he;obtain⟨A',c,rfl,c8⟩:=h0j h hy c6;have b5:(E.P.info? e).map (fun i=>(i.zero,i.size,i.bytes))=some (some z,(J0 E t).sz,bytes):=by rw[hi];simp[i1,j0,e3]
 have b4:(decide (z.cells.size=(J0 E t).sz)&&decide (0<(J0 E t).sz)&&decide (0<bytes))=true:=by simp[h1,h2,h3]
 unfold t0g at d;split at d
 ·simp only[Option.some.injEq,Prod.mk.injEq]at d;obtain⟨rfl,rfl⟩:=d;obtain rfl:=hx.b0n;obtain⟨v',w1,n,hg,o,⟨A1,c1,l⟩,j⟩:=j0H (S:=S) (w:=w) (ty:=ty) (v:=.slice none 0 0) (xs:=([]:List (Den E.D t))) (cs:=[]) (c:=c) E.P hT b5 b4 ⟨by simp,.inl ⟨rfl,none,rfl⟩⟩ U1.nil (fun k hk=>by cases hk) c8 I;have hB:Below w.heap.size w w1:=⟨hg.os,hg.tape,hg.output,hg.size,fun k hk=>hg.block k hk (by simp[D1])⟩
  subst l;refine⟨_,_,_,w1,hk,h.j0f hB (fun k hk=>?_) rfl fun S1 hk hs=>j S1 hk,n⟩;obtain⟨C,h6⟩:=o k hk;refine⟨?_,h6⟩;rcases C with C|C
  ·cases C
  ·exact C
 ·rename_i id;split at d<;>try cases d
  rename_i e' t' zs hl;split at d<;>try cases d
  rename_i c3 J;rw[beq_eq]at c3;subst c3;obtain⟨e2,J⟩:=L9 J;subst e2;subst J;obtain⟨e1,rfl⟩:=hx.X9;have hl:=j0w hl;have f:P1 (E0 s id)=true:=by rw[hl];rfl
  have b1:=h.th id;rw[hl]at b1;obtain⟨A0,c0,b3⟩:=S5.form b1;have c5:hd (ρ id)=ρ id:=by rw[b3];rfl
  have q:∀k,Bk (ρ id) k↔D1 (ρ id)=some k:=fun k=>by rw[b3];exact Iff.rfl
  rw[c5];obtain⟨cs,b2,c4⟩:=b1;have hS:=fun k hk=>(h.ow id f k ((q k).2 hk))
  obtain⟨v',w1,n,hg,o,⟨A1,c1,l⟩,j⟩:=j0H (S:=S) (w:=w) (ty:=ty) (c:=c) E.P hT b5 b4 b2 c4 (fun k hk=>(hS k hk).1) c8 I;subst l;have m:U0 w.heap S w1.heap (inX (Value.slice A1 (zs++ys).length c1) S):=⟨hg.size,fun b p hn=>⟨fun hi=>by
    rcases hi with hi|hi
    ·rcases(o b hi).1 with e|e
     ·exact hn (hS b e).1
     ·omega
    ·exact hn hi,hg.block b p (fun e=>hn (hS b e).1)⟩⟩
  obtain⟨e4,a1,U⟩:=j _ m;have h4:Cx A.w0 A.W0 A.S0 w1 (inX (Value.slice A1 (zs++ys).length c1) S):=by
   have cx:=h.cx;refine⟨⟨hg.os.trans cx.bel.os,hg.tape.trans cx.bel.tape,hg.output.trans cx.bel.output,le_trans cx.bel.size hg.size,fun k hk hn=>(hg.block k (by have:=cx.size;omega) (fun e=>?_)).trans (cx.bel.block k hk hn)⟩,fun b p=>.inr (cx.sub b p),fun b p=>?_,cx.lt0⟩
   ·rcases(hS k e).2.2 with h2|h2
    ·exact hn h2
    ·omega
   ·rcases p with p|p
    ·exact(o b p).2
    ·exact Nat.lt_of_lt_of_le (cx.lt b p) hg.size
  have e5:Rp E A ((X0 s [id]).new (Th.lst e t' (zs++ys))) (M6 ρ s.nid (Value.slice A1 (zs++ys).length c1)) (inX (Value.slice A1 (zs++ys).length c1) S) a as w1:=
   h.take h4 m (fun k hk=>.inr hk) (fun k hk hn=>hg.block k hk (fun e=>hn id (by simp) f ((q k).2 e))) (fun k hk _=>⟨.inl hk,((o k hk).1).imp (fun C=>⟨id,by simp,f,(q k).2 C⟩) (fun C=>by omega)⟩) ⟨e4,a1,U⟩ (by intros;simp)
  refine⟨_,_,_,w1,hk,⟨⟨_,_,e5,?_,m⟩,(Ext.at s id .gone).trans (Ext.new _ _),rfl,fun e9=>?_⟩,n⟩
  ·exact VS.of rfl (by unfold VC;exact⟨lt_succ_self _,by rw[I5];rfl,by rw[I5];rfl⟩)
  ·intro h0 h8;exact hg.block e9 h0 (fun e=>h8 id e1 f (h0Y (f0n s) (Ext.at s id .gone) (Ext.new _ _)) ((q e9).2 e))
 ·cases d
def B0i (_hE:Q1 E)(h:Rp E A s ρ S a as w){id c f:Nat}{j:Int}{s1:St E.D}(hl:E0 s id=.rof c j f)(I:o0a E s c j f=some s1):
  ∃ ρ1,Rp E A s1 ρ1 S a as w/\(∀i,i<s.nid->hd (ρ1 i)=hd (ρ i))/\VS E ρ1 s1.nid w.heap S (.sl s.nid) (hd (ρ id))/\Ext s s1/\s1.fr=s.fr/\(∀q,q<s.nid->P1 (E0 s1 q)=true->P1 (E0 s q)=true)/\(∃r',r'<s.nid/\P1 (E0 s r')=true/\Z6 s s1 r'=true/\∀q k,q<s1.nid->Bk (ρ1 q) k->(q<s.nid/\Bk (ρ q) k)\/Bk (ρ r') k)/\s.nid<=s1.nid:=by
 unfold o0a at I;split at I<;>try cases I
 rename_i e F t xs e5;split at I<;>try cases I
 rename_i u zs e' R h0;have hq:=d0U e5;have r:P1 (E0 s c)=true:=by rw[hq];rfl
 have j1:=h.F7 (id:=c) (by rw[hq];simp);obtain⟨_,e1,⟨er,j3⟩,hblk⟩:=h.h0a hl R;obtain⟨b2,o2,m2,c2,k1,k2,k3,k4⟩:=h.rf id c j f hl e F t xs hq;have C:=h.th c;rw[hq]at C;obtain⟨cs,C⟩:=C;have c8:=C.row;rw[k1]at c8;obtain⟨rfl,_,_,b3⟩:=Row.cell c8 (by omega);have c6:V3 E t (U6 E t xs j) f=some ⟨u,zs⟩:=by unfold a09 at R;rw[hq]at R;exact R
 have c4:=Y9 (E:=E) (t:=t) (xs:=xs) k2.1 k2.2;obtain⟨k0,h5,hL⟩:=C.rows j.toNat _ f u zs _ c4 c6 h0 (by simp);have b1:rowAt F j.toNat f<cs.length:=(List.getElem?_eq_some_iff.1 h5).1;have h6:=b3 w.heap rfl _ (by rw[<-C.row.1];exact b1);rw[h5]at h6;have k4:U2 w.heap b2 (o2+rowAt F j.toNat f)=some (ρ id):=k4;rw[k4]at h6;obtain rfl:=Option.some.inj h6;have h8:=d0I (o:=none) k3 (by simp) h5 (by simp);rw[<-C.tl]at h8;have e9:Go.X.tl (ρ c)=cs:=C.tl;generalize h3:rowAt F j.toNat f=p at b1 h5 h8;have b4:hd (Value.tuple (hd (ρ c) :: cs.set p D7).toArray)=hd (ρ c):=rfl;have c5:Go.X.tl (Value.tuple (hd (ρ c) :: cs.set p D7).toArray)=cs.set p D7:=rfl;have key:∀(l:Nat) (v1:Value) g,(hd (ρ c) :: cs.set p D7)[l]?=some v1->D1 v1=some g->l≠p+1/\(hd (ρ c) :: Go.X.tl (ρ c))[l]?=some v1:=by
  intro l v1 g m hk;cases l with
  |zero=>exact⟨by omega,m⟩
  |succ l=>
   simp only[List.getElem?_cons_succ]at m ⊢
   by_cases e1:l=p
   ·subst e1;rw[List.getElem?_set_self b1]at m;obtain rfl:=Option.some.inj m;cases hk
   ·rw[List.getElem?_set_ne (Ne.symm e1)]at m;exact⟨by omega,by rw[e9];exact m⟩
 have inB:∀(l:Nat) (v1:Value) g,(hd (ρ c) :: Go.X.tl (ρ c))[l]?=some v1->D1 v1=some g->Bk (ρ c) g:=by
  intro l v1 g m hk;rcases mem_cons.1 (mem_of_getElem? m)with rfl|h9
  ·exact Bk.hd hk
  ·exact Bk.tl h9 hk
 have a1:∀g,Bk (Value.tuple (hd (ρ c) :: cs.set p D7).toArray) g->∃l v1,l≠p+1/\(hd (ρ c) :: Go.X.tl (ρ c))[l]?=some v1/\D1 v1=some g:=by
  intro g b;have:∃u'∈hd (ρ c) :: cs.set p D7,D1 u'=some g:=by
   rcases c0Y.1 b with b|⟨u',b5,b⟩
   ·exact⟨_,List.mem_cons_self,b⟩
   ·exact⟨u',mem_cons_of_mem _ b5,b⟩
  obtain⟨u',b5,n⟩:=this;obtain⟨l,h4⟩:=List.getElem?_of_mem b5;obtain⟨q1,q2⟩:=key l u' g h4 n;exact⟨l,u',q1,q2,n⟩
 have h2:=h.s0n (id:=c) (x:=.B1 e F t xs (some (j,f))) (v:=Value.tuple (hd (ρ c) :: cs.set p D7).toArray) (G:=C9 c s.th) r b4 h.cx (U0.refl _ _) (fun _ h=>h) (fun _ _ _=>rfl) (fun g b=>by
   obtain⟨l,v1,_,q2,q3⟩:=a1 g b;exact .inl (inB l v1 g q2 q3)) (by
   refine⟨cs,C.row,by rw[c5];unfold d0A;simp only[h3],C.ok,fun j' g' y=>?_,fun i' x' f' u2 h7 y g1 g2 g3 g4=>?_,C.one,fun l i2 v1 v2 j0 m e3 g c3 n=>?_⟩
   ·cases y;exact⟨k2.1,k3⟩
   ·exact C.rows i' x' f' u2 h7 y g1 g2 g3 (by simp)
   ·rw[b4,c5]at m e3;exact C.ap l i2 v1 v2 j0 (key l v1 g m c3).2 (key i2 v2 g e3 n).2 g c3 n) (fun r' i' f' j2=>i0K j2) (by intros;simp)
 have d:((X0 s (C9 c s.th)).at c (Th.B1 e F t xs (some (j,f)))).nid=s.nid:=(a0d _ s).1;have z:=S5.form hL;obtain⟨A0,c0,z⟩:=z;have U:=h2.r0N (x:=.lst e' u zs) (v:=ρ id) (fun g b _=>by
   rw[z]at b;have b:D1 (ρ id)=some g:=by rw[z];exact b
   refine⟨h.ow c r g (Bk.tl (mem_of_getElem? h8) b),fun j' J n=>?_⟩
   by_cases y:j'=c
   ·subst y;rw[I5]at n;obtain⟨l,v1,q1,q2,q3⟩:=a1 g n;exact C.ap l (p+1) v1 (ρ id) q1 q2 (by simpa using h8) g q3 b
   ·rw[G5 y]at n;rw[G8,if_neg (Ne.symm y),d0p]at J;split at J
    ·cases J
    ·exact h.dj c j' (Ne.symm y) r J g (Bk.tl (mem_of_getElem? h8) b) n) hL (fun _ _ _ e=>by cases e)
 rw[d]at U;refine⟨_,U,fun i hi=>?_,?_,((Ext.X0 s _).trans (Ext.at _ c _)).trans (Ext.new _ _),(a0d _ s).2.1,fun q hq I=>?_,?_,?_⟩
 ·rw[G5 (by omega)]
  by_cases y:i=c
  ·subst y;rw[I5];exact b4
  ·rw[G5 y]
 ·refine VS.of rfl ?_;unfold VC;rw[I5];have d:((N7 s c).at c (Th.B1 e F t xs (some (j,f)))).nid=s.nid:=d;refine⟨by show s.nid<_+1;rw[d];omega,by rw[z];rfl,rfl⟩
 ·have d:((N7 s c).at c (Th.B1 e F t xs (some (j,f)))).nid=s.nid:=d;rw[k0c,if_neg (by rw[d];omega),G8]at I;split at I
  ·rename_i y;subst y;exact r
  ·unfold N7 at I;rw[d0p]at I;split at I
   ·cases I
   ·exact I
 ·refine⟨c,j1,r,h0Y (g0F (Ext.X0 s _)) ((Ext.X0 s _).trans (Ext.at _ c _)) (Ext.new _ _),fun q g e4 b=>?_⟩;have d:((N7 s c).at c (Th.B1 e F t xs (some (j,f)))).nid=s.nid:=d;have e4:q<s.nid+1:=by rw[<-d];exact e4
  by_cases e1:q=s.nid
  ·subst e1;rw[I5]at b;rw[z]at b;exact .inr (Bk.tl (mem_of_getElem? h8) (by rw[z];exact b))
  ·rw[G5 e1]at b
   by_cases y:q=c
   ·subst y;rw[I5]at b;obtain⟨l,v1,_,q2,q3⟩:=a1 g b;exact .inr (inB l v1 g q2 q3)
   ·rw[G5 y]at b;exact .inl ⟨by omega,b⟩
 ·have d:((N7 s c).at c (Th.B1 e F t xs (some (j,f)))).nid=s.nid:=d;show s.nid<=_+1;rw[d];omega
def b07 (n:Nat):Ty (List Value) where
 sz:=n
 R:=fun _ _ cs x=>cs=x/\x.length=n/\∀v∈x,v.oneCell'=true
 len:=by rintro _ _ _ _ ⟨rfl,h,_⟩;exact h
 one:=by rintro _ _ _ _ ⟨rfl,_,h⟩;exact h
 L1:=fun _ h=>h
def p07 {n:Nat}{H:K0}{S:D0}:∀(b:List (List Value)) (cs:List Value),U1 (b07 n) H S cs b->cs=b.flatten
 |[],cs,h=>by
  have:=h.1;simp at this;rw[this];rfl
 |z :: b,cs,h=>by
  have c:=h.2 0 z rfl;simp only[Nat.zero_mul,List.drop_zero]at c;obtain⟨h1,f,_⟩:=c;have h1:cs.take n=z:=h1;have hl:cs.length=(b.length+1)*n:=h.1;have e:=p07 (H:=H) (S:=S) b (cs.drop n) ⟨by show(cs.drop n).length=b.length*n;rw[length_drop,hl,succ_mul];omega,fun i x d=>by
   have:=h.2 (i+1) x d;show(((cs.drop n).drop (i*n)).take n)=x/\_;rw[drop_drop,show n+i*n=(i+1)*n from by rw[succ_mul];omega];exact this⟩
  rw[List.flatten_cons,<-e,<-h1,take_append_drop]
def l0X {n:Nat}{H:K0}{S:D0}:∀(m:Nat) (cs:List Value),cs.length=m*n->(∀v∈cs,v.oneCell'=true)->∃b:List (List Value),b.length=m/\b.flatten=cs/\U1 (b07 n) H S cs b
 |0,cs,h,_=>by
  have:cs=[]:=eq_nil_of_length_eq_zero (by simpa using h);subst this;exact⟨[],rfl,rfl,U1.nil⟩
 |m+1,cs,h,h1=>by
  rw[succ_mul]at h;obtain⟨b,e,f,d⟩:=l0X (n:=n) (H:=H) (S:=S) m (cs.drop n) (by rw[length_drop];omega) (fun v c=>h1 v (List.mem_of_mem_drop c));have g:(b07 n).R H S (cs.take n) (cs.take n):=⟨rfl,by rw[length_take];omega,fun v c=>h1 v (List.mem_of_mem_take c)⟩
  refine⟨cs.take n :: b,by simp[e],by rw[List.flatten_cons,f,take_append_drop],?_⟩;have:=(U1.one g).append d
  rwa [take_append_drop]at this
structure v8 (E:Env)(H:K0)(S:D0)(F:List Nat)(t:U)(xs:List (Den E.D t))(cs:List Value):Prop where
 len:cs.length=xs.length*F.length
 rows:∀(i:Nat) (x:Den E.D t) (f:Nat) (u:U) (ys:List (Den E.D u)) (e':Nat),xs[i]?=some x->V3 E t x f=some ⟨u,ys⟩->F[f]?=some e'->∃r,cs[rowAt F i f]?=some r/\S5 E H S e' u ys r
 one:∀u∈cs,u.oneCell'=true
def v8.app {H:K0}{F:List Nat}{t:U}{xs ys:List (Den E.D t)}{cs d:List Value}(h:v8 E H S F t xs cs)(k:v8 E H S F t ys d):v8 E H S F t (xs++ys) (cs++d):=by
 refine⟨by rw[length_append,length_append,h.len,k.len,Nat.add_mul],fun i x f u e e' h1 j g=>?_,fun u hu=>?_⟩
 ·rcases lt_or_ge i xs.length with hi|hi
  ·rw[List.getElem?_append_left hi]at h1;obtain⟨r,b,c⟩:=h.rows i x f u e e' h1 j g;exact⟨r,by rw[List.getElem?_append_left (List.getElem?_eq_some_iff.1 b).1];exact b,c⟩
  ·rw[List.getElem?_append_right hi]at h1;obtain⟨r,b,c⟩:=k.rows _ x f u e e' h1 j g;refine⟨r,?_,c⟩;have:rowAt F i f=cs.length+rowAt F (i-xs.length) f:=by
    unfold rowAt;rw[h.len];have:i*F.length=xs.length*F.length+(i-xs.length)*F.length:=by rw[<-Nat.add_mul];congr 1;omega
    omega
   rw[this,List.getElem?_append_right (by omega),Nat.add_sub_cancel_left];exact b
 ·rcases mem_append.1 hu with h1|h1
  ·exact h.one u h1
  ·exact k.one u h1
def v8.mono {H c:K0}{S1:D0}{F:List Nat}{t:U}{xs:List (Den E.D t)}{cs:List Value}(kp:U0 H S c S1)(g:∀u∈cs,∀b,D1 u=some b->c[b]?=H[b]?)(h:v8 E H S F t xs cs):v8 E c S1 F t xs cs:=
 ⟨h.len,fun i x f u ys e' h1 k j=>by
  obtain⟨r,d,e⟩:=h.rows i x f u ys e' h1 k j;exact⟨r,d,e.mono kp (g r (mem_of_getElem? d))⟩,h.one⟩
def v8.live {H:K0}{F:List Nat}{t:U}{xs:List (Den E.D t)}{cs:List Value}(g:l9 E t F=true)(h:v8 E H S F t xs cs):∀u∈cs,∀b,D1 u=some b->b<H.size:=by
 intro u hu b j;obtain⟨p,hp⟩:=List.getElem?_of_mem hu;have c:p<xs.length*F.length:=by rw[<-h.len];exact(List.getElem?_eq_some_iff.1 hp).1
 have hn:0<F.length:=by
  rcases eq_zero_or_pos F.length with e|e
  ·rw[e]at c;omega
  ·exact e
 have hi:p / F.length<xs.length:=(Nat.div_lt_iff_lt_mul hn).2 c;have f:=Nat.mod_lt p hn;have d:p=rowAt F (p / F.length) (p % F.length):=by
  unfold rowAt;rw[mul_comm];exact(Nat.div_add_mod p F.length).symm
 obtain⟨w',ys,i⟩:=(d0v g).2 xs[p / F.length] _ f;obtain⟨r,h1,_,k,_⟩:=h.rows (p / F.length) _ (p % F.length) w' ys _ (List.getElem?_eq_getElem hi) i (List.getElem?_eq_getElem f);rw[<-d,hp]at h1;obtain rfl:=Option.some.inj h1;exact Row.live k b j
def v02 (h:Rp E A s ρ S a as w){e:Nat}{F:List Nat}{t:U}{x:V E.D}{m:Value}(p:VS E ρ s.nid w.heap S x m){g:Option Nat}{xs:List (Den E.D t)}(hd:h0C E s e F t x=some (g,xs)):
  ∃cs,Row w.heap e (J0 E t).sz m xs.length cs/\(l9 E t F=true->v8 E w.heap S F t xs cs)/\f0H (m :: cs)/\∀u∈m :: cs,∀k,D1 u=some k->∃j,g=some j/\j<s.nid/\P1 (E0 s j)=true/\Bk (ρ j) k:=by
 cases x with
 |nil=>
  simp only[h0C,Option.some.injEq,Prod.mk.injEq]at hd;obtain⟨rfl,rfl⟩:=hd;obtain rfl:=p.b0n;refine⟨[],⟨by simp,.inl ⟨rfl,none,rfl⟩⟩,fun _=>⟨by simp,fun i x f u ys e' h1=>by simp at h1,by simp⟩,fun i j v I _ z _ k hk=>?_,fun u hu k hk=>?_⟩
  ·have:=mem_of_getElem? z;simp at this;subst this;cases hk
  ·simp at hu;subst hu;cases hk
 |sl id=>
  simp only[h0C]at hd;split at hd<;>try cases hd
  rename_i e' J R q l;split at hd<;>try cases hd
  rename_i d o;rw[and_eq_true,beq_eq,beq_iff_eq]at d;obtain⟨rfl,rfl⟩:=d;obtain⟨r,o⟩:=L9 o;subst r;subst o;obtain⟨n,rfl⟩:=p.X9;have hl:=d0U l;have b:=h.th id;rw[hl]at b;obtain⟨cs,b⟩:=b;have c:Go.X.tl (ρ id)=cs:=b.tl;refine⟨cs,b.row,fun _=>⟨b.sz,fun i x f u ys e' h1 y C=>b.rows i x f u ys e' h1 y C (by simp),b.one⟩,by rw[<-c];exact b.ap,fun u hu k hk=>⟨id,rfl,n,by rw[hl];rfl,?_⟩⟩;rcases mem_cons.1 hu with rfl|hu
  ·exact Bk.hd hk
  ·exact Bk.tl (by rw[c];exact hu) hk
 |_=>simp[h0C]at hd
def H8.of {H:K0}{e:Nat}{F:List Nat}{t:U}{xs:List (Den E.D t)}{v0:Value}{cs:List Value}(b:Row H e (J0 E t).sz v0 xs.length cs)(c:l9 E t F=true)(g:v8 E H S F t xs cs)(d:f0H (v0 :: cs)):H8 E H S e F t xs none (.tuple (v0 :: cs).toArray) cs:=
 ⟨b,rfl,c,(fun _ _ h=>by cases h),fun i x f u ys e' h1 k j _=>g.rows i x f u ys e' h1 k j,g.one,d⟩
def w0S (hE:Q1 E)(h:Rp E A s ρ S a as w){R:Type}{k:K E R}{r:R}{T U:Nat}{x:V E.D}{J:Value}(hx:VS E ρ s.nid w.heap S x J)(ty:Nat)(hk:n0r E s T x U k=some r):
  ∃s1 v u w1,k s1 v=some r/\z6 E A s ρ S a as w s1 v u w1/\(Builtin.append_ #[T,T] ty #[J,hd (ρ U)]).run E.P w=.ok u w1:=by
 unfold n0r at hk;split at hk<;>try cases hk
 rename_i e he;split at hk<;>try cases hk
 rename_i t z sz bytes e2 F I b1 ht r1 o1;split at hk<;>try cases hk
 rename_i ys g xs h6 a1 n9;split at hk<;>try cases hk
 rename_i p7;split at hk<;>try cases hk
 rename_i k0;simp only[and_eq_true,beq_eq]at h6;obtain⟨⟨h6,rfl⟩,b5⟩:=h6;obtain⟨ec,a1⟩:=L9 a1;subst ec;subst a1;obtain⟨rfl,h1,h2,h3⟩:=c09 h6;obtain⟨i,hi,p8,q6,q8⟩:=c0W r1;have hT:=c01 he;have k6:=d0U o1;have e3:P1 (E0 s U)=true:=by rw[k6];rfl
 have s0:=h.F7 (id:=U) (by rw[k6];simp);obtain⟨cs,h8,C,l3,b3⟩:=v02 h hx n9;have C:=C b5;have l:=h.th U;rw[k6]at l;obtain⟨ds,l⟩:=l;have k1:Go.X.tl (ρ U)=ds:=l.tl;have p6:(E.P.info? e).map (fun i=>(i.zero,i.size,i.bytes))=some (some z,(b07 (J0 E I).sz).sz,bytes):=by rw[hi];simp[p8,q6,q8,b07]
 have p5:(decide (z.cells.size=(b07 (J0 E I).sz).sz)&&decide (0<(b07 (J0 E I).sz).sz)&&decide (0<bytes))=true:=by simp[b07,h1,h2,h3]
 obtain⟨zx,l1,p2,r4⟩:=l0X (n:=(J0 E I).sz) (H:=w.heap) (S:=S) xs.length cs h8.1 C.one;obtain⟨zy,h4,r5,r3⟩:=l0X (n:=(J0 E I).sz) (H:=w.heap) (S:=S) b1.length ds l.row.1 l.one;obtain⟨A',c,n0⟩:=Row.form l.row;have c0:=l.row;rw[n0]at c0;have r6:V5 (b07 (J0 E I).sz) w.heap S A' zy:=by
  intro p q hq;have hp:p<b1.length:=by rw[<-h4];exact(List.getElem?_eq_some_iff.1 hq).1
  cases A' with
  |none=>
   rcases c0.2 with⟨h0,_⟩|⟨g,cap,cur,hv,_⟩
   ·omega
   ·cases hv
  |some ad=>
   obtain⟨b,o,fl⟩:=ad;have q5:fl=none:=by
    rcases c0.2 with⟨h0,_⟩|⟨g,cap,cur,hv,_⟩
    ·omega
    ·simp at hv;exact hv.1.2.2
   subst q5;obtain⟨_,_,_,hc⟩:=Row.cell c0 (by omega);have hR:=r3.2 p q hq;refine⟨b,o,_,rfl,hR,fun j v hj=>?_⟩;have q4:j<(J0 E I).sz:=by
    rcases lt_or_ge j (J0 E I).sz with h|h
    ·exact h
    ·rw[List.getElem?_eq_none (by rw[length_take];show min (J0 E I).sz _<=j;omega)]at hj;cases hj
   have hj:((ds.drop (p*(J0 E I).sz)).take (J0 E I).sz)[j]?=some v:=hj;rw[List.getElem?_take_of_lt q4,List.getElem?_drop]at hj;have hle:p*(J0 E I).sz+(J0 E I).sz<=b1.length*(J0 E I).sz:=by rw[<-succ_mul];exact mul_le_mul_right _ hp
   show U2 w.heap b (o+p*(J0 E I).sz+j)=some v;rw[Nat.add_assoc,hc w.heap rfl _ (by omega)];exact hj
 have l0:∀u∈J :: cs,∀k,D1 u=some k->S k:=fun u hu k hk=>by
  obtain⟨j,_,_,m,d⟩:=b3 u hu k hk;exact(h.ow j m k d).1
 have k5:I0 bytes zx zy=true:=by unfold I0 at k0 ⊢;rw[l1,h4];exact k0
 obtain⟨v',w1,k2,hg,l2,_,k4⟩:=j0H (T:=b07 (J0 E I).sz) (S:=S) (w:=w) (ty:=ty) (c:=c) E.P hT p6 p5 (by rw[l1];exact h8) r4 (fun k hk=>l0 J (by simp) k hk) r6 k5;rw[h4]at k2;have c5:∀k,k<w.heap.size->D1 J≠some k->w1.heap[k]?=w.heap[k]?:=fun k hk hn=>hg.block k hk hn;have y:U0 w.heap S w1.heap (inX v' S):=⟨hg.size,fun b hb hn=>⟨fun hi=>by
   rcases hi with hi|hi
   ·rcases(l2 b hi).1 with e|e
    ·exact hn (l0 J (by simp) b e)
    ·omega
   ·exact hn hi,c5 b hb (fun e=>hn (l0 J (by simp) b e))⟩⟩
 have p0:∀k,D1 v'=some k->k<w1.heap.size:=fun k hk=>(l2 k hk).2;obtain⟨s3,b2,k8⟩:=k4 _ y;have c8:=p07 _ _ k8;rw[List.flatten_append,p2,r5]at c8;subst c8;rw[length_append,l1,h4,<-length_append]at b2;have k3:∀k,D1 v'=some k->D1 J=some k\/w.heap.size<=k:=fun k hk=>(l2 k hk).1;have e4:∃A1 c1,v'=.slice A1 (xs++b1).length c1:=Row.form b2;obtain⟨A1,c1,e4⟩:=e4;have c6:∀u∈ds,∀k,D1 u=some k->Bk (ρ U) k:=fun u hu k hk=>Bk.tl (by rw[k1];exact hu) hk;have h5:∀u∈J :: cs,∀k,D1 u=some k->¬Bk (ρ U) k:=fun u hu k hk=>by
  obtain⟨j,hj,_,m,d⟩:=b3 u hu k hk;subst hj;refine h.dj j U ?_ m e3 k d
  rintro rfl
  simp at p7
 have c3:v8 E w.heap S F I b1 ds:=⟨l.sz,fun i x f u ys e' h1 h2 h3=>l.rows i x f u ys e' h1 h2 h3 (by simp),l.one⟩
 have c4:=C.live b5;have b4:=c3.live b5;have n1:∀u∈cs,∀k,D1 u=some k->D1 J≠some k:=fun u hu k hk e1=>by
  obtain⟨p,hp⟩:=List.getElem?_of_mem hu;exact l3 0 (p+1) J u (by omega) rfl (by simpa using hp) k e1 hk
 have h7:v8 E w1.heap (inX v' S) F I (xs++b1) (cs++ds):=
  (C.mono y fun u hu b hb=>c5 b (c4 u hu b hb) (n1 u hu b hb)).app (c3.mono y fun u hu b hb=>c5 b (b4 u hu b hb) (fun e=>h5 J (by simp) b e (c6 u hu b hb)))
 have o2:f0H (v' :: (cs++ds)):=by
  have key:∀(i:Nat) (u:Value),(v' :: (cs++ds))[i]?=some u->∀k,D1 u=some k->(i=0/\u=v')\/(0<i/\i<=cs.length/\(J :: cs)[i]?=some u/\u∈cs)\/(cs.length<i/\(hd (ρ U) :: Go.X.tl (ρ U))[i-cs.length]?=some u/\u∈ds):=by
   intro i u hi k hk;cases i with
   |zero=>exact .inl ⟨rfl,(Option.some.inj hi).symm⟩
   |succ i=>
    simp only[List.getElem?_cons_succ]at hi;rcases lt_or_ge i cs.length with h9|h9
    ·rw[List.getElem?_append_left h9]at hi;exact .inr (.inl ⟨by omega,by omega,by simpa using hi,mem_of_getElem? hi⟩)
    ·rw[List.getElem?_append_right h9]at hi;exact .inr (.inr ⟨by omega,by rw[k1,show i+1-cs.length=(i-cs.length)+1 from by omega];simpa using hi,mem_of_getElem? hi⟩)
  intro i j v1 v2 n2 hi hj k m d;have l4:∀u∈cs,D1 u=some k->D1 v'≠some k:=fun u hu hk e1=>by
   rcases k3 k e1 with h9|h9
   ·exact n1 u hu k hk h9
   ·have:=c4 u hu k hk;omega
  have o0:∀u∈ds,D1 u=some k->D1 v'≠some k:=fun u hu hk e1=>by
   rcases k3 k e1 with h9|h9
   ·exact h5 J (by simp) k h9 (c6 u hu k hk)
   ·have:=b4 u hu k hk;omega
  rcases key i v1 hi k m with⟨i0,rfl⟩|⟨i0,i1,i2,i3⟩|⟨i0,i1,i2⟩
  ·rcases key j v2 hj k d with⟨j0,rfl⟩|⟨j0,j1,j2,j3⟩|⟨j0,j1,j2⟩
   ·omega
   ·exact l4 v2 j3 d m
   ·exact o0 v2 j2 d m
  ·rcases key j v2 hj k d with⟨j0,rfl⟩|⟨j0,j1,j2,j3⟩|⟨j0,j1,j2⟩
   ·exact l4 v1 i3 m d
   ·exact l3 i j v1 v2 n2 i2 j2 k m d
   ·exact h5 v1 (by simp[i3]) k m (c6 v2 j2 k d)
  ·rcases key j v2 hj k d with⟨j0,rfl⟩|⟨j0,j1,j2,j3⟩|⟨j0,j1,j2⟩
   ·exact o0 v1 i2 m d
   ·exact h5 v2 (by simp[j3]) k d (c6 v1 i2 k m)
   ·exact l.ap _ _ v1 v2 (by omega) i1 j1 k m d
 have p4:Cx A.w0 A.W0 A.S0 w1 (inX v' S):=by
  have cx:=h.cx;refine⟨⟨hg.os.trans cx.bel.os,hg.tape.trans cx.bel.tape,hg.output.trans cx.bel.output,le_trans cx.bel.size hg.size,fun k hk hn=>(c5 k (by have:=cx.size;omega) (fun e=>?_)).trans (cx.bel.block k hk hn)⟩,fun b hb=>.inr (cx.sub b hb),fun b hb=>?_,cx.lt0⟩
  ·obtain⟨j,_,_,m,d⟩:=b3 J (by simp) k e;rcases(h.ow j m k d).2.2 with h2|h2
   ·exact hn h2
   ·omega
  ·rcases hb with hb|hb
   ·exact p0 b hb
   ·exact Nat.lt_of_lt_of_le (cx.lt b hb) hg.size
 have hG:∃G:List Nat,(c0l s g).at U .gone=X0 s G/\U∈G/\∀j,g=some j->j∈G:=by
  cases g with
  |none=>exact⟨[U],rfl,by simp,fun j hj=>by cases hj⟩
  |some j=>exact⟨[j,U],rfl,by simp,fun j' hj=>by cases hj;simp⟩
 obtain⟨G,q7,r0,e5⟩:=hG;rw[q7]at hk;have p1:=h.take (x:=.B1 e F I (xs++b1) none) (v:=.tuple (v' :: (cs++ds)).toArray) (G:=G) p4 y (fun k hk=>.inr hk) (fun k hk hn=>c5 k hk fun e=>by
   obtain⟨j,q0,_,m,d⟩:=b3 J (by simp) k e;exact hn j (e5 j q0) m d) (fun k hk _=>by
   rcases c0Y.1 hk with hk|⟨u,hu,hk⟩
   ·have hk:D1 v'=some k:=hk;refine⟨.inl hk,?_⟩;rcases k3 k hk with h9|h9
    ·obtain⟨j,q0,_,m,d⟩:=b3 J (by simp) k h9;exact .inl ⟨j,e5 j q0,m,d⟩
    ·exact .inr (by omega)
   ·have hu:u∈cs++ds:=hu;rcases mem_append.1 hu with hu|hu
    ·obtain⟨j,q0,_,m,d⟩:=b3 u (by simp[hu]) k hk;exact⟨.inr (h.ow j m k d).1,.inl ⟨j,e5 j q0,m,d⟩⟩
    ·exact⟨.inr (h.ow U e3 k (c6 u hu k hk)).1,.inl ⟨U,r0,e3,c6 u hu k hk⟩⟩) ⟨_,H8.of b2 b5 h7 o2⟩ (by intros;simp)
 refine⟨_,_,v',w1,hk,⟨⟨_,_,p1,?_,y⟩,(Ext.X0 s G).trans (Ext.new _ _),(a0d G s).2.1,fun e9=>?_⟩,by rw[n0];exact k2⟩
 ·refine VS.of rfl ?_;unfold VC;rw[I5];refine⟨?_,by show v'.oneCell'=true;rw[e4];rfl,rfl⟩;show s.nid<(X0 s G).nid+1;rw[(a0d G s).1];omega
 ·intro p3 r2;exact c5 e9 p3 fun e=>by
   obtain⟨j,q0,q3,m,d⟩:=b3 J (by simp) e9 e;exact r2 j q3 m (x0T (e5 j q0)) d
def x0W {α:Type}{T:Ty α}{t ty e:TypeId}{bytes:Nat}{z:Value}{xs ys:List α}{A B:Option Addr}{c d:Nat}(P:Program)(ht:P.underlying t=some (.slice e))(hE:(P.info? e).map (fun i=>(i.zero,i.size,i.bytes))=some (some z,T.sz,bytes))(n:(decide (z.cells.size=T.sz)&&decide (0<T.sz)&&decide (0<bytes))=true)
  (q:Sl T w.heap S B d xs) (hd:d<=xs.length) (c0:V5 T w.heap S A ys) (r:I0 bytes xs ys=true) (e4:∀b,S b->b<w.heap.size):
  ∃w1 A1 c1,(Builtin.append_ #[t,t] ty #[.slice B xs.length d,.slice A ys.length c]).run P w=.ok (.slice A1 (xs++ys).length c1) w1/\Below w.heap.size w w1/\Sl T w1.heap S A1 c1 (xs++ys):=by
 obtain⟨i,hi,b5⟩:=Option.map_eq_some_iff.1 hE;simp only[Prod.mk.injEq]at b5;obtain⟨hz,c3,b3⟩:=b5;simp only[and_eq_true,decide_eq_true_eq]at n;simp only[I0,decide_eq_true_eq]at r;have c5:=q.1;have e1:d=xs.length:=by omega
 have U:xs.length+ys.length<=maxLen:=by
  have:xs.length+ys.length<=(xs.length+ys.length)*bytes:=Nat.le_mul_of_pos_right _ n.2;simp only[maxLen];omega
 rcases eq_zero_or_pos ys.length with h0|hpos
 ·have h0:ys=[]:=eq_nil_of_length_eq_zero h0;subst h0;refine⟨w,B,d,?_,Below.refl _ w,by simpa using q⟩;rw[List.append_nil];cases A<;>cases B<;>simp[Builtin.append_,run_underlying ht,sizeOf,typeInfo,hi,Builtin.lenOf,Builtin.firstCells,loadCells,loadCellsFrom,c5,storeCells]
 ·obtain⟨b,off,_,hA,_⟩:=c0 0 ys[0] (by simp[hpos]);subst hA;have rd:∀{A:Option Addr} {xs:List α},V5 T w.heap S A xs->∃news,U1 T w.heap S news xs/\∀b o,A=some ⟨b,o,none⟩->∀j u,news[j]?=some u->U2 w.heap b (o+0*T.sz+j)=some u:=fun hr=>V5.news (w:=w) (k:=0) (fun i x hx=>by
   obtain⟨b,o,cs,h1,h2,m⟩:=hr i x hx;exact⟨b,o,cs,h1,h2,fun j v hj=>by rw[zero_add];exact m j v hj⟩)
  obtain⟨news,C,R⟩:=rd c0;obtain⟨f,J,I⟩:=rd q.rdb;have p:∀j u,news[j]?=some u->w.cell? ((⟨b,off,none⟩:Addr).add j)=some u:=by
   intro j u hj;rw[b0a];have:=R b off rfl j u hj;simpa using this
  have key:∃v' w1,(Builtin.append_ #[t,t] ty #[.slice B xs.length d,.slice (some ⟨b,off,none⟩) ys.length c]).run P w=.ok v' w1/\w1.ownsRow w.heap.size e T.sz v' (xs.length+ys.length) (f++news)/\Below w.heap.size w w1:=by
   cases B with
   |none=>
    have c8:xs=[]:=by
     cases xs with
     |nil=>rfl
     |cons y ys=>obtain⟨b,o,cs,h,_⟩:=q.rdb 0 y (by simp);cases h
    subst c8;have e5:d=0:=e1;subst e5;have c6:f=[]:=eq_nil_of_length_eq_zero (by have:=J.1;simpa using this);subst c6;obtain⟨v',w',l,h2,m,_,_⟩:=run_append_own_at (P:=P) w w.heap.size t ty e i z T.sz bytes ht hi hz c3 b3 n.1.1 n.1.2 (.slice none 0 0) 0 [] ⟨by simp,.inl ⟨rfl,rfl⟩⟩ ⟨b,off,none⟩ ys.length c news C.1 p C.f01 (by simpa using U) (by simpa using r) (le_refl _);exact⟨v',w',l,by simpa using h2,m.os,m.tape,m.output,m.size,fun k hk=>m.block k hk (by simp[Value.ownBlock])⟩
   |some ad=>
    obtain⟨v',w',l,h2,m⟩:=run_append_arg_grows (P:=P) w t ty e i z T.sz bytes ht hi hz c3 b3 n.1.1 n.1.2 ad xs.length d f J.1 (fun j u hj=>by
     have h5:j<f.length:=by
      rcases lt_or_ge j f.length with h|h
      ·exact h
      ·rw[List.getElem?_eq_none h]at hj;cases hj
     have e2:xs≠[]:=by rintro rfl;have:=J.1;simp only[List.length_nil,Nat.zero_mul]at this;omega
     obtain⟨b2,o2,a1,_⟩:=q.2.1 e2;have a1:=Option.some.inj a1;subst a1;rw[b0a];have:=I b2 o2 rfl j u hj;simpa using this) ⟨b,off,none⟩ ys.length c news C.1 p (by omega) U r
    exact⟨v',w',l,h2,m.os,m.tape,m.output,m.size,fun k hk=>m.block k hk (by simp)⟩
  obtain⟨v',w1,l,b4,hb⟩:=key;have hk:U0 w.heap S w1.heap S:=U0.ext S hb;obtain⟨hl,hv|⟨g,cap,cur,hv,h4,hg,e3,hm,e9,b1⟩⟩:=b4
  ·exact absurd hv.2 (by omega)
  ·have c4:Ow T e (fun k=>w.heap.size<=k) w1.heap (fun k=>k=g\/S k) (.slice (some ⟨g,0,none⟩) (xs++ys).length cap) (xs++ys):=by
    refine⟨fun k hk=>?_,f++news,⟨by simpa using hl,.inr ⟨g,cap,cur,rfl,hg,by simpa using e3,hm,e9,by simpa using b1⟩⟩,?_⟩
    ·simp[Value.ownBlock]at hk;subst hk;exact⟨.inl rfl,h4⟩
    ·have k2:U0 w.heap S w1.heap (fun k=>k=g\/S k):=⟨hk.size,fun b hb hn=>⟨fun hi=>hi.elim (fun e=>by omega) hn,(hk.blk b hb hn).2⟩⟩
     exact(J.L1 k2).append (C.L1 k2)
   refine⟨w1,some ⟨g,0,none⟩,cap,by rw[l,hv];simp,hb,c4.freeze (fun _ h=>.inr h) (fun b hb hs=>?_)⟩;simp[Value.ownBlock]at hb;subst hb;have:=e4 _ hs;omega
def E0r (hE:Q1 E)(h:Rp E A s ρ S a as w){R:Type}{k:K E R}{r:R}{T:Nat}{x y:V E.D}{ux uy:Value}(hx:VS E ρ s.nid w.heap S x ux)(hy:VS E ρ s.nid w.heap S y uy)(ty:Nat)(hk:n0i E s T x y k=some r):
  ∃s1 v u w1,k s1 v=some r/\z6 E A s ρ S a as w s1 v u w1/\(Builtin.append_ #[T,T] ty #[ux,uy]).run E.P w=.ok u w1:=by
 unfold n0i at hk;split at hk
 ·rename_i m J l;have b2:x=.df m J:=by
   cases x<;>simp only[j0W]at l<;>try cases l
   rfl
  subst b2;unfold t0t at hk;split at hk<;>try cases hk
  rename_i e he;split at hk<;>try cases hk
  rename_i t z sz bytes ht q;split at hk<;>try cases hk
  rename_i ys xs I g n;split at hk<;>try cases hk
  rename_i d;obtain⟨ec,n⟩:=L9 n;subst ec;subst n;obtain⟨rfl,h1,h2,h3⟩:=c09 I;obtain⟨i,hi,U,b1,p⟩:=c0W q;have hT:=c01 he;obtain⟨A',c,rfl,b3⟩:=h0j h hy g;obtain⟨c0,j,rfl⟩:=hx;unfold VC at j;obtain⟨B,rfl,a1⟩:=j;have C:(E.P.info? e).map (fun i=>(i.zero,i.size,i.bytes))=some (some z,(J0 E m).sz,bytes):=by rw[hi];simp[U,b1,p]
  have o:(decide (z.cells.size=(J0 E m).sz)&&decide (0<(J0 E m).sz)&&decide (0<bytes))=true:=by simp[h1,h2,h3]
  obtain⟨w1,A1,c1,b,hb,f⟩:=x0W (c:=c) (ty:=ty) E.P hT C o a1 (le_refl _) b3 d h.cx.lt;refine⟨_,_,_,w1,hk,⟨⟨ρ,S,h.ext hb,VS.of rfl (by unfold VC;exact⟨A1,c1,rfl,f⟩),U0.ext S hb⟩,Ext.refl s,rfl,fun k hk _=>hb.block k hk⟩,b⟩
 ·exact t0Z hE h hx hy ty hk
def v00 (g:Q1 E)(h:Rp E A s ρ S a as w){R:Type}{k:K E R}{r:R}{T:Nat}{x y:V E.D}{o t:Value}(i:VS E ρ s.nid w.heap S x o)(m:VS E ρ s.nid w.heap S y t)(ty:Nat)(hk:l0V E s T x y k=some r):
  ∃s1 v u w1,k s1 v=some r/\z6 E A s ρ S a as w s1 v u w1/\(Builtin.append_ #[T,T] ty #[o,t]).run E.P w=.ok u w1:=by
 unfold l0V at hk;split at hk
 ·rename_i r0 j f b;split at hk<;>try cases hk
  rename_i s1 ho;cases x<;>simp only[p05]at b<;>try cases b
  rename_i id;split at b<;>try cases b
  rename_i hl;obtain⟨_,rfl⟩:=i.X9;obtain⟨ρ1,h1,U,h3,l,C,n,I,h7⟩:=B0i g h hl ho;obtain⟨s2,v,u,w1,q1,d,q3⟩:=t0Z g h1 h3 (m.mono U h7 (U0.refl _ _)) ty hk;exact⟨s2,v,u,w1,q1,⟨d.rp,l.trans d.ext,d.fr.trans C,fun k hk p=>d.old k hk (fun q e1 e0 J z=>by
   obtain⟨r',g1,g0,g2,g3⟩:=I;rcases g3 q k e1 z with⟨e,e5⟩|e
   ·exact p q e (n q e e0) (y0Z J l d.ext) e5
   ·exact p r' g1 g0 (h0Y g2 l d.ext) e)⟩,q3⟩
 ·split at hk
  ·rename_i iy c;cases y<;>simp only[p0K]at c<;>try cases c
   split at c<;>try cases c
   obtain⟨_,rfl⟩:=m.X9;exact w0S g h i ty hk
  ·exact E0r g h i m ty hk
def k0d:Nat->List (Nat×Value)->Prop
 |_,[]=>True
 |j,p :: r=>p.1=j/\k0d (j+1) r
def u0p (z:Nat):∀(l:List (Nat×Value)) (j:Nat) (cells:Array Value) (d1 d2:List Value),cells.toList=d1++d2->d1.length=j*z->d2.length=l.length*z->k0d j l->(∀p∈l,p.2.cells.size=z)->
  ∃c',Instr.fill (fun i=>some (i*z,z)) cells l=some c'/\c'.toList=d1++l.flatMap (fun p=>p.2.cells.toList)
 |[],j,cells,d1,d2,h,_,h2,_,_=>by
  have:d2=[]:=eq_nil_of_length_eq_zero (by simpa using h2);subst this;exact⟨cells,rfl,by simpa using h⟩
 |(i,u) :: l,j,cells,d1,d2,h,h1,h2,d,hs=>by
  have n:i=j:=d.1;subst n;have d:k0d (i+1) l:=d.2;have hu:u.cells.size=z:=hs (i,u) (by simp);have f:d2=d2.take z++d2.drop z:=(take_append_drop z d2).symm;simp only[List.length_cons,succ_mul]at h2;have g:u.cells.toList.length=z:=by simpa using hu
  generalize c:u.cells.toList=cl at g;have m:u.cells=cl.toArray:=by rw[<-c]
  have b:=l0U cl 0 (i*z) cells d1 (d2.take z) (d2.drop z) (by rw[<-f];exact h) (by omega) (by rw[length_take];omega);have e:(u.cells.zipIdx.foldl (fun cs (p:Value×Nat)=>cs.setIfInBounds (i*z+p.2) p.1) cells).toList=(d1++cl)++d2.drop z:=by
   rw[append_assoc,<-b,m];simp[<-Array.foldl_toList]
  obtain⟨c',q,k⟩:=u0p z l (i+1) _ (d1++cl) (d2.drop z) e (by rw[length_append,h1,succ_mul];omega) (by rw[length_drop];omega) d (fun p hp=>hs p (by simp[hp]));refine⟨c',?_,by rw[k];simp[c]⟩;have o:cells.size=d1.length+d2.length:=by have:=congrArg List.length h;simpa using this
  simp only[Instr.fill];rw[if_neg]
  ·exact q
  ·rw[hu];simp;omega
def s0i (f:Operand->Value):∀(l:List (Nat×Operand)) (j:Nat),i0h j l=true->k0d j (l.map fun p=>(p.1,f p.2))
 |[],_,_=>trivial
 |(i,x) :: l,j,h=>by
  simp only[i0h,and_eq_true,beq_eq]at h;exact⟨h.1,s0i f l (j+1) h.2⟩
def u0h (m:Q1 E){s1:St E.D}{n:Nat}{H:K0}{S1:D0}(o:∀id,X3 E ρ n H S1 (E0 s1 id) (ρ id)){t:U}(f:Operand->V E.D)(g:Operand->Value)(r:∀x,∀c,VC E ρ n H S (f x) c->VC E ρ n H S1 (f x) c)(hg:∀x,VS E ρ n H S (f x) (g x)):
  ∀(l:List (Nat×Operand)) (xs:List (Den E.D t)),(l.all fun p=>c0k (f p.2))=true->h0L E s1 t (l.map fun p=>f p.2)=some xs->xs.length=l.length/\U1 (J0 E t) H S1 ((l.map fun p=>(p.1,g p.2)).flatMap (fun p=>p.2.cells.toList)) xs/\∀p∈(l.map fun p=>(p.1,g p.2)),∀u∈p.2.cells.toList,u.oneCell'=true
 |[],xs,_,h=>by
  simp[h0L]at h;subst h;exact⟨rfl,U1.nil,fun p hp=>by simp at hp⟩
 |p :: l,xs,hs,h=>by
  simp only[map_cons,h0L]at h;split at h<;>try cases h
  rename_i x j v i;simp only[List.all_cons,and_eq_true]at hs;obtain⟨h1,z,y⟩:=u0h m o f g r hg l j hs.2 i;obtain⟨c,C,d,b,k⟩:=(hg p.2).cells m hs.1;have hR:=h0c m o v (r _ _ k);refine⟨by simp[h1],?_,fun q e u hu=>?_⟩
  ·rw[map_cons,List.flatMap_cons];have:(g p.2).cells.toList=c:=by rw[d]
   simp only[this];exact(U1.one hR).append z
  ·rw[map_cons,mem_cons]at e;rcases e with rfl|e
   ·rw[d]at hu;exact b u hu
   ·exact y q e u hu
def D0N (hE:Q1 E)(h:Rp E A s ρ S a as w){R:Type}{k:K E R}{r:R}{T n:Nat}{parts:Array (Nat×Operand)}(hk:bsV E s T n parts.toList k=some r):
  ∃s1 v u w1,k s1 v=some r/\z6 E A s ρ S a as w s1 v u w1/\(Instr.buildSlice T n (parts.map fun p=>(p.1,a.eval p.2))).run E.P w=.ok u w1:=by
 unfold bsV at hk;split at hk<;>try cases hk
 rename_i e he;split at hk<;>try cases hk
 rename_i t z sz bytes ht c4;split at hk<;>try cases hk
 rename_i s1 o e4;split at hk<;>try cases hk
 rename_i xs c3;simp only[and_eq_true,beq_eq,Nat.ble_eq,all_eq_true]at o;obtain⟨⟨⟨⟨⟨c5,hn⟩,b3⟩,e3⟩,C⟩,d⟩:=o;obtain⟨rfl,h1,h2,h3⟩:=c09 c5;obtain⟨i,hi,c8,j,h4⟩:=c0W c4;have hT:=c01 he;obtain⟨S1,b1,y,U,e5,b2⟩:=a0a hE _ s _ s1 e4 S h;have a1:=y.th;rw[b2]at a1;obtain⟨hl,l,e9⟩:=u0h hE a1 (T1 E s) a.eval (fun x c hc=>hc.c02 b1) h.val parts.toList xs (all_eq_true.2 fun p hp=>(d p hp).1) c3;have m:∀p∈parts.toList.map (fun p=>(p.1,a.eval p.2)),p.2.cells.size=(J0 E t).sz:=by
  intro p hp;obtain⟨q,hq,rfl⟩:=List.mem_map.1 hp;obtain⟨c,hc,e1,_,c0⟩:=(h.val q.2).cells hE (d q hq).1;have:=i0G hE c0 (d q hq).1;rw[(d q hq).2]at this;simp only;rw[e1];simpa using this
 have hm:n*i.size=n*(J0 E t).sz:=by rw[j]
 obtain⟨c',hf,g⟩:=u0p (J0 E t).sz (parts.toList.map fun p=>(p.1,a.eval p.2)) 0 ((Array.range (n*i.size)).map (z.cells[· % z.cells.size]!)) [] _ rfl (by simp) (by
  rw[Array.length_toList,Array.size_map,Array.size_range,hm,List.length_map,hn]) (s0i a.eval _ 0 b3) m
 simp only[nil_append]at g;have I:(Instr.buildSlice T n (parts.map fun p=>(p.1,a.eval p.2))).run E.P w=.ok (.slice (some ⟨w.heap.size,0,none⟩) n n) (w.alloc (.cells c' e)):=by
  have J:¬n*i.size>2 ^ 24:=by
   rw[hm];have:n*(J0 E t).sz<=10000*1000:=Nat.mul_le_mul e3 C;omega
  by_cases h0:n*i.size=0
  ·have e2:n=0:=by
    rw[j]at h0;rcases Nat.mul_eq_zero.1 h0 with h|h
    ·exact h
    ·omega
   subst e2;have b5:parts=#[]:=by
    have:parts.toList=[]:=eq_nil_of_length_eq_zero hn.symm;simpa using this
   subst b5;have b4:c'=#[]:=by
    have:=congrArg List.length g;simpa using this
   subst b4;have e0:Array.range 0=#[]:=rfl;simp[Instr.buildSlice,run_underlying hT,sizeOf,typeInfo,hi,newRow,Instr.fill,e0]
  ·have:=run_buildSlice w T e n (parts.map fun p=>(p.1,a.eval p.2)) c' i z hT hi c8 J h0 (by rw[j,Array.toList_map];rw[<-j]at hf ⊢;exact hf);exact this
 have hB:=Below.new w (.cells c' e);have b:c'.toList.length=n*(J0 E t).sz:=by rw[g,l.1,hl,hn]
 have res:=y.j0f (e:=e) (t:=t) (xs:=xs) (v:=.slice (some ⟨w.heap.size,0,none⟩) n n) hB (fun k hk=>by obtain⟨_,rfl⟩:=d0M hk;simp) rfl (fun S2 c6 _=>by
  have f:xs.length=n:=by rw[hl,hn]
  refine⟨c'.toList,Row.ofV ⟨by rw[f];exact b,.inr ⟨w.heap.size,n,c',by rw[f],heap_alloc_new w _,by rw[f];exact le_refl _,by simp only[maxLen];omega,by simpa using b,?_⟩⟩,?_⟩
  ·rw[f,List.take_of_length_le (by rw[b];exact le_refl _)]
  ·rw[g];exact l.L1 c6)
 obtain⟨⟨ρ1,S2,r1,r2,r3⟩,r4,r5,r6⟩:=res;exact⟨_,_,_,_,hk,⟨⟨ρ1,S2,r1,r2,(U0.less b1).trans r3⟩,U.trans r4,r5.trans e5,fun k hk _=>hB.block k hk⟩,I⟩
def t0s:∀(l:List U) (h:HL E.D l) (M0:List Value) {H:K0} {S:D0},b0v l=true->(a0r E l).R H S M0 h->∀f u (y:List (Den E.D u)),N5 l h f=some ⟨.list u,y⟩->∃A' c,M0[f]?=some (.slice A' y.length c)
 |[],_,_,_,_,_,_,f,_,_,hg=>by simp[N5]at hg
 |t :: l,h,M0,H,S,hb,hr,f,u,y,hg=>by
  simp only[b0v,and_eq_true]at hb;obtain⟨b,d⟩:=hb;cases t<;>simp only[g02,Bool.false_eq_true]at b
  rename_i k;obtain⟨c1,c2,rfl,⟨A',c,h1,_⟩,j⟩:=hr;subst h1;cases f with
  |zero=>
   have hg:(⟨.list k,h.1⟩:(t:U)×Den E.D t)=⟨.list u,y⟩:=Option.some.inj hg;cases hg;exact⟨A',c,rfl⟩
  |succ f=>
   obtain⟨g,e,i⟩:=t0s l h.2 c2 d j f u y hg;exact⟨g,e,by simpa using i⟩
def w03 (h:Q1 E){H:K0}{S:D0}{t:U}{F:List Nat}{x:Den E.D t}{M0:List Value}(d:l9 E t F=true)(e:(J0 E t).R H S M0 x){f:Nat}{u:U}{ys:List (Den E.D u)}(b:V3 E t x f=some ⟨u,ys⟩):∃A' c,M0[f]?=some (.slice A' ys.length c):=by
 simp only[l9,and_eq_true,beq_eq]at d;obtain⟨⟨_,_⟩,hk⟩:=d;cases t with
 |list u0=>
  obtain⟨A',c,h1,_⟩:=e;subst h1;cases f with
  |zero=>
   have b:(⟨u0,x⟩:(u:U)×List (Den E.D u))=⟨u,ys⟩:=Option.some.inj b;cases b;exact⟨A',c,rfl⟩
  |succ f=>exact absurd (show none=some _ from b) (by simp)
 |st k=>
  have b:c0v (N5 (E.fs k) (E.un k x) f)=some ⟨u,ys⟩:=b;cases hg:N5 (E.fs k) (E.un k x) f with
  |none=>rw[hg]at b;cases b
  |some p=>
   obtain⟨g,y⟩:=p;rw[hg]at b;cases g with
   |list u1=>
    have b:(⟨u1,y⟩:(u:U)×List (Den E.D u))=⟨u,ys⟩:=Option.some.inj b;cases b;exact t0s _ _ _ hk ((h.st k H S M0 x).1 e) f _ _ hg
   |_=>exact absurd (show none=some _ from b) (by simp)
 |_=>simp at hk
def v8.B09 (y:Q1 E){H:K0}{S:D0}{t:U}{F:List Nat}{z:List Value}{x:Den E.D t}(k:l9 E t F=true)(n:(J0 E t).R H S z x)(hn:∀v∈z,v=D7)(m:Nat):v8 E H S F t (List.replicate m x) (List.replicate m z).flatten:=by
 have d:=i05 n m;have h:=(d0v k).1;have b:∀v∈(List.replicate m z).flatten,v=D7:=by
  intro v e;obtain⟨l,hl,e⟩:=List.mem_flatten.1 e;rw[List.eq_of_mem_replicate hl]at e;exact hn v e
 refine⟨by rw[<-h];exact d.1,fun i x' f u ys e' h1 r p=>?_,fun v e=>by rw[b v e];rfl⟩;have hi:=(List.getElem?_eq_some_iff.1 h1).1;have o:f<F.length:=(List.getElem?_eq_some_iff.1 p).1;obtain⟨A',c,j⟩:=w03 y k (d.2 i x' h1) r;rw[h,List.getElem?_take_of_lt o,List.getElem?_drop]at j;have g:=b _ (mem_of_getElem? j);unfold D7 at g;simp only[Value.slice.injEq]at g;have q:ys=[]:=eq_nil_of_length_eq_zero g.2.1;subst q;refine⟨_,j,[],⟨by simp,.inl ⟨rfl,none,?_⟩⟩,U1.nil⟩;rw[g.1,g.2.2];rfl
def D0n {D:Nat->Type}{v:V D}(h:isNil v=true):v=.nil:=by
 cases v<;>simp[isNil]at h
 rfl
def r0b {n:Nat}{H:K0}:∀{l:List (V E.D)} {c:List Value},N0 E ρ n H S l c->l.all isNil=true->∀v∈c,v=D7
 |[],c,h,_,v,b=>by unfold N0 at h;subst h;cases b
 |x :: l,c,h,hl,v,b=>by
  unfold N0 at h;obtain⟨c1,c2,rfl,h1,d⟩:=h;rw[List.all_cons,and_eq_true]at hl;obtain rfl:=D0n hl.1;unfold VC at h1;subst h1;rcases mem_append.1 b with b|b
  ·simpa[D7]using b
  ·exact r0b d hl.2 v b
def x0N (hE:Q1 E)(h:Rp E A s ρ S a as w){R:Type}{k:K E R}{r:R}{T:Nat}{n m:Operand}(hk:m08 E s T n m k=some r):
  ∃s1 v u w1,k s1 v=some r/\z6 E A s ρ S a as w s1 v u w1/\(Instr.makeSlice T (a.eval n) (a.eval m)).run E.P w=.ok u w1:=by
 unfold m08 at hk;split at hk<;>try cases hk
 rename_i e k0 x he hx hop;have c0:n=m:=by
  unfold h05 at hop;split at hop
  ·rw[beq_eq]at hop;rw[hop]
  ·rw[of_decide_eq_true hop]
  ·cases hop
 subst c0;split at hk<;>try cases hk
 rename_i t z sz bytes F ht b5 hF;split at hk<;>try cases hk
 rename_i zx o hz;simp only[and_eq_true]at o;obtain⟨⟨o,y⟩,I⟩:=o;obtain⟨rfl,h1,h2,h3⟩:=c09 o;obtain⟨i,hi,c3,c6,a1⟩:=c0W b5;split at hk<;>try cases hk
 rename_i d;have hT:=c01 he;have c4:=r9 hx (h.val n);rw[c4];simp only[V2,and_eq_true,decide_eq_true_eq]at d;obtain⟨q,rfl⟩:=Int.eq_ofNat_of_zero_le d.1;have hq:q*bytes<=140737488355328:=by
  have h1:=d.2;have h2:((q*bytes:Nat):Int)<=140737488355328:=by rw[Int.natCast_mul];exact h1
  omega
 have c8:q<=q*bytes:=Nat.le_mul_of_pos_right _ h3;obtain⟨w1,J,b,hg⟩:=run_make_full (P:=E.P) w w.heap.size T e i z (J0 E t).sz hT hi c3 c6 k0 k0 q (by rw[a1,mul_comm];omega) (by simp only[maxLen];omega) (le_refl _);have hB:Below w.heap.size w w1:=⟨hg.os,hg.tape,hg.output,hg.size,fun k hk=>hg.block k hk (by simp)⟩
 have hm:=n0j z.cells q;rw[h1]at hm;rw[hm]at b;have b:=Row.of b;have b3:∀S1,(J0 E t).R w1.heap S1 z.cells.toList zx:=by
  intro S1;refine h0c (ρ:=ρ) (n:=0) hE (fun id=>?_) hz (r07 z);show X3 E ρ 0 w1.heap S1 .gone (ρ id)
  trivial
 have U:∀v∈z.cells.toList,v=D7:=r0b (ρ:=ρ) (S:=S) (n:=0) (H:=w.heap) (i0g z) I;have C:∀S1,v8 E w1.heap S1 F t (List.replicate q zx) (List.replicate q z.cells.toList).flatten:=fun S1=>v8.B09 hE y (b3 S1) U q;have c:Row w1.heap e (J0 E t).sz (.slice (some ⟨w.heap.size,0,none⟩) q q) (List.replicate q zx).length (List.replicate q z.cells.toList).flatten:=by simpa using b
 have p:∀v∈(List.replicate q z.cells.toList).flatten,v=D7:=by
  intro v f;obtain⟨l,hl,f⟩:=List.mem_flatten.1 f;rw[List.eq_of_mem_replicate hl]at f;exact U v f
 have b4:f0H (.slice (some ⟨w.heap.size,0,none⟩) q q :: (List.replicate q z.cells.toList).flatten):=by
  intro i j v v' e2 hi hj k hk c5;have key:∀(i:Nat) (v:Value),(Value.slice (some ⟨w.heap.size,0,none⟩) q q :: (List.replicate q z.cells.toList).flatten)[i]?=some v->D1 v=some k->i=0:=by
   intro i v hi hk;cases i with
   |zero=>rfl
   |succ i=>
    simp only[List.getElem?_cons_succ]at hi;rw[p v (mem_of_getElem? hi)]at hk;cases hk
  have:=key i v hi hk;have:=key j v' hj c5;omega
 obtain⟨S1,b1,b2⟩:=h.new (x:=.B1 e F t (List.replicate q zx) none) (v:=.tuple (.slice (some ⟨w.heap.size,0,none⟩) q q :: (List.replicate q z.cells.toList).flatten).toArray) (w1:=w1) hB (fun k hk=>by
   rcases c0Y.1 hk with hk|⟨u,hu,hk⟩
   ·have hk:D1 (.slice (some ⟨w.heap.size,0,none⟩) q q)=some k:=hk;obtain⟨e1,rfl⟩:=d0M hk;refine⟨le_refl _,?_⟩;rcases c.2 with⟨_,a,f⟩|⟨g,cap,cur,f,_,hgg,_⟩
    ·simp at f;omega
    ·simp at f;obtain⟨rfl,_⟩:=f;exact getElem?_lt hgg
   ·rw[p u hu]at hk;cases hk) (fun S1 _ _ _=>⟨_,H8.of c y (C S1) b4⟩)
 refine⟨_,_,_,w1,hk,⟨⟨_,S1,b2,?_,b1⟩,Ext.new s _,rfl,fun k hk _=>hB.block k hk⟩,J⟩;exact VS.of rfl (by unfold VC;rw[I5];exact⟨lt_succ_self _,rfl,rfl⟩)
def E00 (h:Rp E A s ρ S a as w){R:Type}{k:K E R}{r:R}{T n:Nat}{parts:Array (Nat×Operand)}(hk:bsT E s T n parts.toList k=some r):
  ∃s1 v u w1,k s1 v=some r/\z6 E A s ρ S a as w s1 v u w1/\(Instr.buildSlice T n (parts.map fun p=>(p.1,a.eval p.2))).run E.P w=.ok u w1:=by
 unfold bsT at hk;split at hk<;>try cases hk
 rename_i e x he c;have c:parts=#[(0,x)]:=by have:=congrArg List.toArray c;simpa using this
 subst c;split at hk<;>try cases hk
 rename_i u z sz bytes e' ht e1 hF;split at hk<;>try cases hk
 rename_i g ys t e4;rw[and_eq_true]at t;obtain⟨t,b5⟩:=t;obtain⟨rfl,h1,h2,h3⟩:=c09 t;obtain⟨i,hi,e3,J,h0⟩:=c0W e1;have hT:=c01 he;obtain⟨b2,o,hg⟩:=s0O h (h.val x) e4;have m:(J0 E (.list u)).sz=1:=rfl;have b4:(Instr.buildSlice T 1 (#[(0,x)].map fun p=>(p.1,a.eval p.2))).run E.P w=.ok (.slice (some ⟨w.heap.size,0,none⟩) 1 1) (w.alloc (.cells #[a.eval x] e)):=by
  have h4:z.cells.size=1:=by rw[h1];rfl
  have:=run_buildSlice w T e 1 (#[(0,x)].map fun p=>(p.1,a.eval p.2)) #[a.eval x] i z hT hi e3 (by rw[J,m];omega) (by rw[J,m];omega) (by
   rw[J,m];simp[Instr.fill,cells_one o,Array.range];exact Array.ext (by simp) (by
                  intro i h1 h2;have:i=0:=by simp at h2;exact h2
                  subst this;simp))
  exact this
 have I:=Below.new w (.cells #[a.eval x] e);have d:U0 w.heap S (w.alloc (.cells #[a.eval x] e)).heap (fun k=>k=w.heap.size\/S k):=⟨I.size,fun b hb hn=>⟨fun hh=>hh.elim (by omega) hn,I.block b hb⟩⟩
 have c8:=(h.cx.ext I).more (S1:=fun k=>k=w.heap.size\/S k) (fun _ h=>.inr h) (fun b hb=>hb.elim (fun e=>by subst e;simp) ((h.cx.ext I).lt b));have hblk:∀C,D1 (a.eval x)=some C->∃j,g=some j/\j<s.nid/\P1 (E0 s j)=true/\Bk (ρ j) C:=by
  intro C q;cases g with
  |none=>
   have hg:a.eval x=D7:=hg;rw[hg]at q;cases q
  |some j=>
   obtain⟨c5,u9,y9,b3⟩:=hg;exact⟨j,rfl,h.F7 (by rw[b3];simp),by rw[b3];rfl,Bk.hd (by rw[c5,(d0T o).1];exact q)⟩
 have l:∀C,D1 (a.eval x)=some C->C<w.heap.size:=fun C q=>by
  obtain⟨_,c4,_⟩:=b2;exact Row.live c4 C q
 have hG:∃G:List Nat,c0l s g=X0 s G/\∀j,g=some j->j∈G:=by
  cases g with
  |none=>exact⟨[],rfl,fun j hj=>by cases hj⟩
  |some j=>exact⟨[j],rfl,fun j' hj=>by cases hj;simp⟩
 obtain⟨G,e9,c3⟩:=hG;rw[e9]at hk;have b1:Row (w.alloc (.cells #[a.eval x] e)).heap e (J0 E (.list u)).sz (.slice (some ⟨w.heap.size,0,none⟩) 1 1) [ys].length [a.eval x]:=⟨rfl,.inr ⟨w.heap.size,1,#[a.eval x],rfl,by simp,heap_alloc_new w _,by simp,by simp[maxLen],rfl,rfl⟩⟩
 have a1:v8 E (w.alloc (.cells #[a.eval x] e)).heap (fun k=>k=w.heap.size\/S k) [e'] (.list u) [ys] [a.eval x]:=by
  refine⟨rfl,fun i y f u' e5 e2 g1 g2 g3=>?_,by simpa using o⟩;cases i with
  |succ i=>cases g1
  |zero=>
   obtain rfl:ys=y:=Option.some.inj g1;cases f with
   |succ f=>cases g3
   |zero=>
    obtain rfl:e'=e2:=Option.some.inj g3;have g2:(⟨u,ys⟩:(u:U)×List (Den E.D u))=⟨u',e5⟩:=Option.some.inj g2;cases g2;exact⟨a.eval x,rfl,b2.mono d fun b hb=>I.block b (l b hb)⟩
 have c6:f0H (.slice (some ⟨w.heap.size,0,none⟩) 1 1 :: [a.eval x]):=by
  intro i j v v' h5 hi hj k q1 q2;have key:∀(i:Nat) (v:Value),(Value.slice (some ⟨w.heap.size,0,none⟩) 1 1 :: [a.eval x])[i]?=some v->D1 v=some k->(i=0/\k=w.heap.size)\/(i=1/\k<w.heap.size):=by
   intro i v hi hk;cases i with
   |zero=>simp at hi;subst hi;cases hk;exact .inl ⟨rfl,rfl⟩
   |succ i=>
    cases i with
    |zero=>simp at hi;subst hi;exact .inr ⟨rfl,l k hk⟩
    |succ i=>simp at hi
  have:=key i v hi q1;have:=key j v' hj q2;omega
 have c0:=h.take (x:=.B1 e [e'] (.list u) [ys] none) (v:=.tuple (.slice (some ⟨w.heap.size,0,none⟩) 1 1 :: [a.eval x]).toArray) (G:=G) c8 d (fun k hk=>.inr hk) (fun k hk _=>I.block k hk) (fun k hk _=>by
   rcases c0Y.1 hk with hk|⟨u',hu,hk⟩
   ·have hk:D1 (.slice (some ⟨w.heap.size,0,none⟩) 1 1)=some k:=hk;cases hk;exact⟨.inl rfl,.inr (le_refl _)⟩
   ·have hu:u'∈[a.eval x]:=hu;simp at hu;subst hu;obtain⟨j,q0,_,q1,q2⟩:=hblk k hk;exact⟨.inr (h.ow j q1 k q2).1,.inl ⟨j,c3 j q0,q1,q2⟩⟩) ⟨_,H8.of b1 b5 a1 c6⟩ (by intros;simp)
 refine⟨_,_,_,_,hk,⟨⟨_,_,c0,?_,d⟩,(Ext.X0 s G).trans (Ext.new _ _),(a0d G s).2.1,fun k hk _=>I.block k hk⟩,b4⟩;refine VS.of rfl ?_;unfold VC;rw[I5];refine⟨?_,rfl,rfl⟩;show s.nid<(X0 s G).nid+1;rw[(a0d G s).1];omega
def Rp.x0L (h:Rp E A s ρ S a as w){w1:World}{id:Nat}{x:Th E.D}(l:P1 (E0 s id)=true)(u:P1 x=false)(cx:Cx A.w0 A.W0 A.S0 w1 S)(n:∀k,k<w.heap.size->¬Bk (ρ id) k->w1.heap[k]?=w.heap[k]?)(a1:w.heap.size<=w1.heap.size)
  (J:X3 E ρ s.nid w1.heap (fun k=>S k/\¬Bk (ρ id) k) x (ρ id)) (R:∀q i f,x≠.rof q i f:=by intros;simp):
  Rp E A (s.at id x) ρ (fun k=>S k/\¬Bk (ρ id) k) a as w1/\U0 w.heap S w1.heap (fun k=>S k/\¬Bk (ρ id) k):=by
 have b1:id<s.nid:=h.F7 (by rintro e;rw[e]at l;cases l);have hk:U0 w.heap S w1.heap (fun k=>S k/\¬Bk (ρ id) k):=⟨a1,fun b y hn=>⟨fun h=>hn h.1,n b y (fun e=>hn (h.ow id l b e).1)⟩⟩
 have hl:∀j,E0 { s with th:=(id,x) :: s.th,nid:=s.nid } j=if id=j then x else E0 s j:=fun j=>G8 s id j x;have c:∀j,j≠id->j<s.nid->b0o s { s with th:=(id,x) :: s.th,nid:=s.nid } ρ ρ (fun k=>S k/\¬Bk (ρ id) k) w w1 j:=fun j hj m=>
  ⟨by rw[hl,if_neg (Ne.symm hj)],m,rfl,fun g k d=>⟨n k ((h.th j).live g k d) (fun z=>h.dj id j (Ne.symm hj) l g k z d),(h.ow j g k d).1,fun z=>h.dj id j (Ne.symm hj) l g k z d⟩⟩
 refine⟨h.step (nid1:=s.nid) (th1:=(id,x) :: s.th) ⟨⟨cx.bel,fun b n=>⟨cx.sub b n,fun e=>(h.ow id l b e).2.1 n⟩,fun b n=>cx.lt b n.1,cx.lt0⟩,hk,fun _ _=>rfl,le_refl _⟩ (fun j=>?_) fun r q i f p e F t xs U=>?_,hk⟩
 ·by_cases e:id=j
  ·subst e;refine .inr ⟨by rw[hl,if_pos rfl];exact J,fun C=>?_,fun C=>by omega⟩;rw[hl,if_pos rfl,u]at C;cases C
  ·by_cases m:j<s.nid
   ·exact .inl (c j (fun h=>e h.symm) m)
   ·rw[hl,if_neg e,h.lt j (by omega)];exact .inr ⟨trivial,(fun l=>by cases l),fun _=>rfl⟩
 ·rw[hl]at p;split at p
  ·exact absurd p (R q i f)
  ·rename_i v;have I:=h.b0T p;rw[hl]at U;split at U
   ·rw[U]at u;cases u
   ·rename_i o;exact .inl ⟨c r (Ne.symm v) (h.F7 (by rw[p];simp)),c q (Ne.symm o) I⟩
def B0d (h:Rp E A s ρ S a as w){R:Type}{k:K E R}{r:R}{T T':Nat}{x:V E.D}{ux:Value}(hx:VS E ρ s.nid w.heap S x ux)(hk:n0f E s T T' x k=some r):
  ∃s1 v u w1,k s1 v=some r/\z6 E A s ρ S a as w s1 v u w1/\(convert T T' ux).run E.P w=.ok u w1:=by
 unfold n0f at hk;split at hk<;>try cases hk
 rename_i id;split at hk<;>try cases hk
 rename_i e e' xs o hT hl;rw[beq_eq]at o;subst o;split at hk<;>try cases hk
 rename_i he;split at hk<;>try cases hk
 rename_i C;have hl:=j0w hl;obtain⟨l,rfl⟩:=hx.X9;have q:=h.th id;rw[hl]at q;have q:S5 E w.heap S e' (.int .u8) xs (ρ id):=q;obtain⟨cs,⟨t,m⟩,n⟩:=q;rcases m with⟨h0,_⟩|⟨b,cap,cur,hfo,hp0,hg,hnc,hm,hcs,htake⟩
 ·have:xs=[]:=eq_nil_of_length_eq_zero h0;subst this;simp at C
 ·have c:P1 (E0 s id)=true:=by rw[hl];rfl
  have g:Bk (ρ id) b:=by rw[hfo];exact e0I hp0
  have b1:∀k,Bk (ρ id) k->k=b:=fun k hk=>by rw[hfo]at hk;exact(d0M hk).2.symm
  obtain⟨hS,b2,hW⟩:=h.ow id c b g;have d:hd (ρ id)=ρ id:=by rw[hfo];rfl
  have U:w.shape? b=some (e',cur.size):=by unfold World.shape?;rw[hg]
  have p:(w.freeze ⟨b,cur.size,none⟩ 1).heap[b]?=some (.cells cur e' (cur.size,cur.size+1)):=by
   unfold World.freeze;rw[if_neg (by decide)];simp[Array.getElem?_modify,hg]
  have f:k7 b w (w.freeze ⟨b,cur.size,none⟩ 1):=by
   unfold World.freeze;rw[if_neg (by decide)];exact⟨rfl,rfl,rfl,by simp,fun k _ hk=>by simp[Array.getElem?_modify,Ne.symm hk]⟩
  have I:X3 E ρ s.nid (w.freeze ⟨b,cur.size,none⟩ 1).heap (fun k=>S k/\¬Bk (ρ id) k) (.fz (.int .u8) xs) (ρ id):=by
   obtain⟨A1,c1,h1,h2⟩:=i0P (S:=fun _=>False) ⟨t,.inr ⟨b,cap,cur,hfo,hp0,hg,hnc,hm,hcs,htake⟩⟩ (n.L1 (U0.less fun _ h=>h.elim)) (fun _ _ h=>h);rw[hfo]at h1;simp at h1;obtain⟨rfl,rfl⟩:=h1;refine⟨some ⟨b,0,none⟩,cap,by rw[d,hfo],hnc,fun _=>⟨b,0,rfl,getElem?_lt p,fun h=>h.2 g⟩,fun i y hy=>?_⟩;obtain⟨b',o',z,hA,hR,hc⟩:=h2.2.2 i y hy;simp at hA;obtain⟨rfl,rfl⟩:=hA;refine⟨b,0,z,rfl,hR,fun j v hj=>?_⟩;have:=hc j v hj;unfold U2 at this ⊢;rw[hg]at this;rw[p];exact this
  obtain⟨J,a1⟩:=h.x0L (w1:=w.freeze ⟨b,cur.size,none⟩ 1) (x:=.fz (.int .u8) xs) c rfl (f.cx h.cx hW) (fun k hk hn=>f.block k hk (fun e=>hn (by rw[e];exact g))) f.size I;refine⟨_,_,ρ id,_,hk,⟨⟨ρ,_,J,VS.of rfl (by unfold VC;exact⟨l,by rw[d,hfo];rfl,by rw[d]⟩),a1⟩,Ext.at s id _,rfl,fun k hk hq=>f.block k hk (fun e=>hq id l c (f0n s) (by rw[e];exact g))⟩,?_⟩;rw[d,hfo];simp[convert,run_underlying hT,run_underlying he,markStringish,U]
def y09 {α:Type}{T:Ty α}{S:D0}{t ty e ee:TypeId}{A B:Option Addr}{c d:Nat}{xs ys:List α}(P:Program)(ht:P.underlying t=some (.slice e))(hE:(P.info? e).map (·.size)=some 1)(q:T.sz=1)
  (n:Ow T ee (fun _=>True) w.heap S (.slice A xs.length c) xs) (z:V5 T w.heap S B ys):
  ∃w1,(Builtin.copy_ #[t,t] ty #[.slice A xs.length c,.slice B ys.length d]).run P w=.ok (.int .i64 ((Nat.min ys.length xs.length:Nat):Int)) w1/\(w1=w\/∃g,A=some ⟨g,0,none⟩/\k7 g w w1)/\Ow T ee (fun _=>True) w1.heap S (.slice A xs.length c) (G4 xs ys):=by
 by_cases r:Nat.min ys.length xs.length=0
 ·refine⟨w,by rw[run_copy_none w t t ty e A B xs.length c ys.length d ht hE r,r];rfl,.inl rfl,?_⟩;have:G4 xs ys=xs:=by
   rcases eq_zero_or_pos xs.length with l|l
   ·have:=eq_nil_of_length_eq_zero l;subst this;simp[G4]
   ·have a1:ys.length=0:=by
     rcases le_total ys.length xs.length with hle|hle
     ·rwa [show Nat.min ys.length xs.length=ys.length from min_eq_left hle]at r
     ·rw[show Nat.min ys.length xs.length=xs.length from Nat.min_eq_right hle]at r;omega
    have:=eq_nil_of_length_eq_zero a1;subst this;simp[G4]
  rw[this];exact n
 ·have b4:0<xs.length:=by
   rcases eq_zero_or_pos xs.length with l|l
   ·exact absurd (by rw[l];exact Nat.min_zero _) r
   ·exact l
  have hyp:0<ys.length:=by
   rcases eq_zero_or_pos ys.length with l|l
   ·exact absurd (by rw[l];exact Nat.zero_min _) r
   ·exact l
  obtain⟨b,off,_,hB,_⟩:=z 0 ys[0] (by simp[hyp]);subst hB;obtain⟨news,p,m⟩:=V5.news (w:=w) (xs:=ys) (k:=0) (A:=some ⟨b,off,none⟩) (T:=T) (S:=S) (fun i x hx=>by
   obtain⟨b,o,cs,h1,h2,h3⟩:=z i x hx;exact⟨b,o,cs,h1,h2,fun j v U=>by rw[zero_add];exact h3 j v U⟩)
  obtain⟨R,cs,⟨u,y⟩,C⟩:=n;rcases y with⟨J,l⟩|⟨g,cap,cur,J,hg,hnc,hm,hcs,htake⟩
  ·omega
  ·simp at J;obtain⟨rfl,rfl⟩:=J;rw[q,mul_one]at u hcs htake;have b3:news.length=ys.length:=by rw[p.1,q,mul_one]
   have f:(news.take xs.length).length=Nat.min ys.length xs.length:=by rw[length_take,b3];exact Nat.min_comm _ _
   have hr:=run_copy_row (P:=P) w t t ty e g 0 xs.length c ⟨b,off,none⟩ ys.length d cur ee (news.take xs.length) ht hE hg f (fun j v U=>by
    rw[b0a];have b2:news[j]?=some v:=by
     rcases lt_or_ge j xs.length with h|h
     ·rwa [List.getElem?_take_of_lt h]at U
     ·rw[List.getElem?_take_eq_none h]at U;cases U
    have:=m b off rfl j v b2;simpa using this) (by rw[f,hcs,zero_add];exact le_trans (Nat.min_le_right _ _) hnc) (fun v J=>p.f01 v (List.mem_of_mem_take J))
   simp only[take_zero,nil_append,zero_add]at hr;have b1:=R g (by simp[Value.ownBlock]);have I:k7 g w (w.setRow g (news.take xs.length++cur.toList.drop (news.take xs.length).length).toArray):=⟨rfl,rfl,rfl,by simp[World.setRow],fun k _ hk=>by simp[World.setRow,Array.getElem?_modify,Ne.symm hk]⟩
   have hk:=I.L1 b1.1;refine⟨_,by rw[hr,f];rfl,.inr ⟨g,rfl,I⟩,R,news.take xs.length++cs.drop ys.length,⟨?_,.inr ⟨g,c,(news.take xs.length++cur.toList.drop (news.take xs.length).length).toArray,by rw[b05],setRow_heap w g cur _ ee _ hg,by rw[b05];exact hnc,hm,?_,?_⟩⟩,?_⟩
   ·rw[b05,q,mul_one,length_append,f,length_drop,u];rcases le_total ys.length xs.length with hle|hle
    ·rw[show Nat.min ys.length xs.length=ys.length from min_eq_left hle];omega
    ·rw[show Nat.min ys.length xs.length=xs.length from Nat.min_eq_right hle];omega
   ·have h9:(news.take xs.length).length<=c:=by rw[f];exact le_trans (Nat.min_le_right _ _) hnc
    simp only[q,mul_one,List.size_toArray,length_append,length_drop,Array.length_toList,hcs];omega
   ·rw[b05,q,mul_one];show List.take xs.length (news.take xs.length++cur.toList.drop (news.take xs.length).length)=_;rw[List.take_append,List.take_take,Nat.min_self,<-htake];congr 1;rw[List.drop_take];rcases le_total ys.length xs.length with hle|hle
    ·have:(news.take xs.length).length=ys.length:=by rw[f];exact min_eq_left hle
     rw[this]
    ·have:(news.take xs.length).length=xs.length:=by rw[f];exact Nat.min_eq_right hle
     rw[this,Nat.sub_self,take_zero,Nat.sub_eq_zero_of_le hle,take_zero]
   ·have h1:=(p.L1 hk).cut xs.length;have h2:=(C.L1 hk).tail ys.length;rw[q,mul_one]at h1 h2;exact h1.append h2
def r0x {α:Type}{T:Ty α}{S:D0}{t ty e p:TypeId}{v:Value}{A B:Option Addr}{c d:Nat}{xs ys:List α}{cs:List Value}(P:Program)(r:P.underlying t=some (.slice e))(q:(P.info? e).map (·.size)=some 1)(u:T.sz=1)
  (b:v=.slice A xs.length c) (h:Row w.heap p T.sz v xs.length cs) (i:U1 T w.heap S cs xs) (z:∀k,D1 v=some k->S k) (n:V5 T w.heap S B ys):
  ∃w1,(Builtin.copy_ #[t,t] ty #[v,.slice B ys.length d]).run P w=.ok (.int .i64 ((Nat.min ys.length xs.length:Nat):Int)) w1/\(w1=w\/∃g,D1 v=some g/\k7 g w w1)/\∃f,Row w1.heap p T.sz v (G4 xs ys).length f/\U1 T w1.heap S f (G4 xs ys):=by
 rcases h.o0k with⟨J,j⟩|⟨h0,hc0,hnone,a0,hv⟩
 ·have m:Ow T p (fun _=>True) w.heap S (.slice A xs.length c) xs:=by
   rw[<-b];exact⟨fun k hk=>⟨z k (by rw[<-j];exact hk),trivial⟩,cs,J,i⟩
  obtain⟨w1,h1,y,_,f,I,C⟩:=y09 (d:=d) (ty:=ty) P r q u m n;refine⟨w1,by rw[b];exact h1,y.imp id (fun⟨g,l,x⟩=>⟨g,by rw[<-j,b,l];rfl,x⟩),f,by rw[b];exact Row.ofV I,C⟩
 ·have o:xs=[]:=eq_nil_of_length_eq_zero h0;subst o;rw[hv]at b;cases b;subst hv;have l:Nat.min ys.length ([]:List α).length=0:=by simp[Nat.min_def]
  refine⟨w,by rw[l];exact run_copy_none w t t ty e (some a0) B 0 0 ys.length d r q (by simpa using l),.inl rfl,[],⟨by simp[G4],.inl ⟨by simp[G4],_,rfl⟩⟩,by simpa[G4]using U1.nil⟩
def y0J (hE:Q1 E)(h:Rp E A s ρ S a as w){R:Type}{k:K E R}{r:R}{T ty:Nat}{x y:V E.D}{ux uy:Value}(hx:VS E ρ s.nid w.heap S x ux)(hy:VS E ρ s.nid w.heap S y uy)(hk:copyV E s T x y k=some r):
  ∃s1 v u w1,k s1 v=some r/\z6 E A s ρ S a as w s1 v u w1/\(Builtin.copy_ #[T,T] ty #[ux,uy]).run E.P w=.ok u w1:=by
 unfold copyV at hk;split at hk<;>try cases hk
 rename_i e id hT;split at hk<;>try cases hk
 rename_i U;have e2:(E.P.info? e).map (·.size)=some 1:=by
  unfold R5 at U;split at U
  ·rename_i i hi;rw[hi];simpa using U
  ·cases U
 obtain⟨c6,rfl⟩:=hx.X9;split at hk<;>try cases hk
 ·rename_i e' t xs hl;split at hk<;>try cases hk
  rename_i ys hz I;rw[beq_eq]at hz;obtain⟨A',c,rfl,c4⟩:=h0j h hy I;have ht:=h.th id;rw[hl]at ht;have ht:S5 E w.heap S e' t xs (ρ id):=ht;obtain⟨A0,c0,q⟩:=ht.form;have j0:hd (ρ id)=ρ id:=by rw[q];rfl
  have b:P1 (E0 s id)=true:=by rw[hl];rfl
  have h0:∀k,Bk (ρ id) k↔D1 (ρ id)=some k:=fun k=>by rw[q];exact Iff.rfl
  obtain⟨cs,o,h4⟩:=ht;obtain⟨w1,C,c5,a1,m,n⟩:=r0x (d:=c) (ty:=ty) (S:=S) E.P hT e2 hz q o h4 (fun k hk=>(h.ow id b k ((h0 k).2 hk)).1) c4;have c3:Cx A.w0 A.W0 A.S0 w1 S/\U0 w.heap S w1.heap S/\∀k,k<w.heap.size->¬Bk (ρ id) k->w1.heap[k]?=w.heap[k]?:=by
   rcases c5 with rfl|⟨g,hg1,ho⟩
   ·exact⟨h.cx,U0.refl _ _,fun _ _ _=>rfl⟩
   ·have hb:Bk (ρ id) g:=(h0 g).2 hg1;obtain⟨hS,_,hW⟩:=h.ow id b g hb;exact⟨ho.cx h.cx hW,ho.L1 hS,fun k hk hn=>ho.block k hk (fun e=>hn (by rw[e];exact hb))⟩
  obtain⟨b5,z,p⟩:=c3;refine⟨_,_,_,w1,hk,⟨⟨ρ,S,h.turn (x:=.lst e' t (G4 xs ys)) (v:=ρ id) c6 b b5 z (fun _ h=>h) p rfl (fun k hk=>(h.ow id b k hk).1) ⟨a1,m,n⟩,VS.dI,z⟩,Ext.at s id _,rfl,fun k hk J=>p k hk (J id c6 b (f0n s))⟩,?_⟩;rw[j0];exact C
 ·rename_i r0 j f hl;split at hk<;>try cases hk
  rename_i e0 F t0 e4 t xs h7 h9;split at hk<;>try cases hk
  rename_i ys hz I;split at hk<;>try cases hk
  rename_i x h2;rw[beq_eq]at hz;obtain⟨A',c,rfl,c4⟩:=h0j h hy I;have J:=d0U h7;obtain⟨u,i1,j3,o,hg,b3,e5⟩:=o0t hE h2;have l:=h9;unfold a09 at l;rw[J]at l;have l:V3 E t0 (U6 E t0 e4 j) f=some ⟨t,xs⟩:=l;rw[o]at l;obtain⟨rfl,e9⟩:=Sigma.mk.inj (Option.some.inj l);have e9:=eq_of_heq e9;subst e9;split at hg<;>try cases hg
  rename_i ws b4;obtain⟨ec,b4⟩:=L9 b4;obtain rfl:ys=ws:=b4;obtain⟨_,e1,_,hblk⟩:=h.h0a hl h9;have h3:=h.rf id r0 j f hl e0 F t0 e4 J;obtain⟨cs,ht,k2,k3,h5,h8⟩:=h.l0m J h3;obtain⟨e',c8⟩:∃e',F[f]?=some e':=⟨_,List.getElem?_eq_getElem k3⟩
  obtain⟨j2,h6,hL⟩:=ht.rows j.toNat _ f u i1 e' (Y9 k2.1 k2.2) o c8 (by simp);rw[h5]at h6;obtain rfl:=Option.some.inj h6;have b:P1 (E0 s r0)=true:=by rw[J];rfl
  have e3:=h.F7 (id:=r0) (by rw[J];simp);obtain⟨A0,c0,q⟩:=hL.form;obtain⟨j1,b1,b2⟩:=hL;obtain⟨w1,C,c5,a1,m,n⟩:=r0x (d:=c) (ty:=ty) (S:=S) E.P hT e2 hz q b1 b2 (fun k hk=>(h.ow r0 b k (Bk.tl (mem_of_getElem? h8) hk)).1) c4;have c3:Cx A.w0 A.W0 A.S0 w1 S/\U0 w.heap S w1.heap S/\∀k,k<w.heap.size->D1 (ρ id)≠some k->w1.heap[k]?=w.heap[k]?:=by
   rcases c5 with rfl|⟨g,hob,ho⟩
   ·exact⟨h.cx,U0.refl _ _,fun _ _ _=>rfl⟩
   ·obtain⟨hS,_,hW⟩:=h.ow r0 b g (Bk.tl (mem_of_getElem? h8) hob);exact⟨ho.cx h.cx hW,ho.L1 hS,fun k hk hn=>ho.block k hk (fun e=>hn (by rw[e];exact hob))⟩
  obtain⟨b5,z,p⟩:=c3;refine⟨_,_,_,w1,hk,⟨⟨ρ,S,h.s03 J h3 b3 e5 c8 p b5 z ⟨a1,m,n⟩,VS.dI,z⟩,Ext.at s r0 _,rfl,fun k hk J=>p k hk (fun e=>J r0 e3 b (f0n s) (Bk.tl (mem_of_getElem? h8) e))⟩,?_⟩;rw[e1];exact C
def B0Y (hE:Q1 E)(h:Rp E A s ρ S a as w){R:Type}{k:K E R}{r:R}{T:Nat}{g:U}{m:List (Den E.D g)}{y:V E.D}{ux uy:Value}(hx:VS E ρ s.nid w.heap S (.df g m) ux)(hy:VS E ρ s.nid w.heap S y uy)(ty:Nat)(hk:n0G E s T g m y k=some r):
  ∃s1 v u w1,k s1 v=some r/\z6 E A s ρ S a as w s1 v u w1/\(Builtin.append_ #[T,T] ty #[ux,uy]).run E.P w=.ok u w1:=by
 unfold n0G at hk;split at hk<;>try cases hk
 rename_i e he;split at hk<;>try cases hk
 rename_i t z sz bytes ht C;split at hk<;>try cases hk
 rename_i ys xs J n p;split at hk<;>try cases hk
 rename_i b;rw[and_eq_true,List.isEmpty_iff]at b;obtain⟨b1,b⟩:=b;obtain⟨ec,p⟩:=L9 p;subst ec;subst p;obtain⟨rfl,h1,h2,h3⟩:=c09 J;obtain⟨i,hi,a1,b2,x⟩:=c0W C;have hT:=c01 he;obtain⟨A',c,rfl,b3⟩:=h0j h hy n;obtain⟨c0,o,rfl⟩:=hx;unfold VC at o;obtain⟨B,rfl,b5⟩:=o;subst b1;have I:(E.P.info? e).map (fun i=>(i.zero,i.size,i.bytes))=some (some z,(J0 E g).sz,bytes):=by rw[hi];simp[a1,b2,x]
 have q:(decide (z.cells.size=(J0 E g).sz)&&decide (0<(J0 E g).sz)&&decide (0<bytes))=true:=by simp[h1,h2,h3]
 obtain⟨v',w1,j,hg,b4,⟨A1,c1,f⟩,d⟩:=j0H (S:=S) (w:=w) (ty:=ty) (v:=.slice B 0 0) (xs:=([]:List (Den E.D g))) (cs:=[]) (c:=c) E.P hT I q ⟨by simp,.inl ⟨rfl,B,rfl⟩⟩ U1.nil (fun k hk=>by cases B<;>cases hk) b3 b;have hB:Below w.heap.size w w1:=⟨hg.os,hg.tape,hg.output,hg.size,fun k hk=>hg.block k hk (by cases B<;>simp[D1])⟩
 subst f;refine⟨_,_,_,w1,hk,h.j0f hB (fun k hk=>?_) rfl fun S1 hk hs=>d S1 hk,j⟩;obtain⟨l,h6⟩:=b4 k hk;refine⟨?_,h6⟩;rcases l with l|l
 ·cases B<;>cases l
 ·exact l
def w0n (l:Q1 E)(h:Rp E A s ρ S a as w){R:Type}{k:K E R}{r:R}{b:Bool}{T:Nat}{x y:V E.D}{g f:Value}(i:VS E ρ s.nid w.heap S x g)(j:VS E ρ s.nid w.heap S y f)(ty:Nat)(hk:n0X E b s T x y k=some r):
  ∃s1 v u w1,k s1 v=some r/\z6 E A s ρ S a as w s1 v u w1/\(Builtin.append_ #[T,T] ty #[g,f]).run E.P w=.ok u w1:=by
 unfold n0X at hk;split at hk
 ·rename_i m e c;have d:x=.df m e:=by
   cases x<;>simp only[j0W]at c<;>try cases c
   rfl
  subst d;exact B0Y l h i j ty hk
 ·exact v00 l h i j ty hk
def x0F (i:Q1 E)(h:Rp E A s ρ S a as w){R:Type}{k:K E R}{r:R}{tb:List Nat}{o:Oper}(hk:evE E tb s o k=some r):
  ∃s1 v u w1,k s1 v=some r/\z6 E A s ρ S a as w s1 v u w1/\((execOp a.eval o).run E.P w=.ok (.value u) w1\/(u=undef/\(execOp a.eval o).run E.P w=.ok .skip w1)):=by
 unfold evE at hk;split at hk
 ·rename_i T e;obtain⟨s1,v,u,w1,h1,b,d⟩:=A0y h hk;exact⟨s1,v,u,w1,h1,b,.inl (by simp[execOp,e,d])⟩
 ·rename_i T x e;obtain⟨s1,v,u,w1,h1,b,d⟩:=C0m i h (h.val x) hk;exact⟨s1,v,u,w1,h1,b,.inl (by simp[execOp,e,d])⟩
 ·rename_i T p x e;obtain⟨s1,v,w1,h1,b,d⟩:=C0d i h (h.val p) (h.val x) hk;exact⟨s1,v,_,w1,h1,b,.inr ⟨rfl,by simp[execOp,e,d]⟩⟩
 ·rename_i T n parts e;split at hk
  ·obtain⟨s1,v,u,w1,h1,b,d⟩:=E00 h hk;exact⟨s1,v,u,w1,h1,b,.inl (by simp[execOp,e,d])⟩
  ·obtain⟨s1,v,u,w1,h1,b,d⟩:=D0N i h hk;exact⟨s1,v,u,w1,h1,b,.inl (by simp[execOp,e,d])⟩
 ·rename_i T n m e;split at hk
  ·obtain⟨s1,v,u,w1,h1,b,d⟩:=x0N i h hk;exact⟨s1,v,u,w1,h1,b,.inl (by simp[execOp,e,d])⟩
  ·obtain⟨s1,v,u,w1,h1,b,d⟩:=z0a i h hk;exact⟨s1,v,u,w1,h1,b,.inl (by simp[execOp,e,d])⟩
 ·rename_i c e;split at hk<;>try cases hk
  ·rename_i x y T z l t q;split at hk<;>try cases hk
   rename_i g;rw[beq_eq]at g;subst g;have f:c.args=#[x,y]:=by have:=congrArg List.toArray t;simpa using this
   have j:c.argTypes=#[T,T]:=by have:=congrArg List.toArray q;simpa using this
   obtain⟨s1,v,u,w1,h1,b,d⟩:=w0n i h (h.val x) (h.val y) o.type hk;exact⟨s1,v,u,w1,h1,b,.inl (by simp[execOp,e,resolve,l,f,j,invoke,builtin,d])⟩
  ·rename_i x y T z l t q;split at hk<;>try cases hk
   rename_i g;rw[beq_eq]at g;subst g;have f:c.args=#[x,y]:=by have:=congrArg List.toArray t;simpa using this
   have j:c.argTypes=#[T,T]:=by have:=congrArg List.toArray q;simpa using this
   obtain⟨s1,v,u,w1,h1,b,d⟩:=y0J (ty:=o.type) i h (h.val x) (h.val y) hk;exact⟨s1,v,u,w1,h1,b,.inl (by simp[execOp,e,resolve,l,f,j,invoke,builtin,d])⟩
 ·rename_i T z x e;obtain⟨s1,v,u,w1,h1,b,d⟩:=B0d h (h.val x) hk;exact⟨s1,v,u,w1,h1,b,.inl (by simp[execOp,e,d])⟩
 ·cases hk
end
end
