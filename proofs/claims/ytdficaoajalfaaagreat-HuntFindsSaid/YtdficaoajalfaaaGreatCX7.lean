/- P. Its conditions: none. -/
import Derived.Test.YtdficaoajalfaaaGreatCX6
import Derived.Great.BuildSlice
open Nat (le_succ lt_succ_self le_refl le_trans succ_mul mul_le_mul_right min_eq_left beq_eq add_sub_cancel zero_add mul_comm eq_zero_or_pos lt_or_ge le_total mul_one)
open List (all_eq_true eq_nil_of_length_eq_zero length_append append_assoc length_take length_drop length_set nil_append drop_drop take_append_drop take_left' any_eq_true mem_cons mem_cons_of_mem mem_of_getElem? mem_append map_cons take_zero)
open Bool (and_eq_true)
set_option linter.all false
namespace Go.X
open Go.V Go.RowKit
section
variable {E:Env}{A:O4}{s:St E.D}{ρ:Nat->Value}{S:D0}{a:Act}{as:List Act}{w:World}
def d0T {v:Value}(h:v.oneCell'=true):hd v=v/\∀k,Bk v k↔D1 v=some k:=by
 cases v<;>first|exact⟨rfl,fun _=>Iff.rfl⟩|(simp[Value.oneCell']at h)
structure z6 (E:Env)(A:O4)(s:St E.D)(ρ:Nat->Value)(S:D0)(a:Act)(as:List Act)(w:World)(s1:St E.D)(v:V E.D)(u:Value)(w1:World):Prop where
 rp:∃ ρ1 S1,Rp E A s1 ρ1 S1 a as w1/\VS E ρ1 s1.nid w1.heap S1 v u/\U0 w.heap S w1.heap S1
 ext:Ext s s1
 fr:s1.fr=s.fr
 old:∀k,k<w.heap.size->(∀q,q<s.nid->P1 (E0 s q)=true->Z6 s s1 q=true->¬Bk (ρ q) k)->w1.heap[k]?=w.heap[k]?
def f0n (s:St E.D){id:Nat}{x:Th E.D}:Z6 s (s.at id x) id=true:=by
 unfold Z6 St.at;simp
def Rp.s0I (h:Rp E A s ρ S a as w){l:List (V E.D)}{cs:List Value}(hl:N0 E ρ s.nid w.heap S l cs)(h1:∀u∈cs,u.oneCell'=true)(T:Nat):
  z6 E A s ρ S a as w (s.new (.box T l)) (.pb s.nid 0 []) (.pointer (some ⟨w.heap.size,0,none⟩)) (w.alloc (.cells cs.toArray T)):=by
 have b:=Below.new w (.cells cs.toArray T);obtain⟨S1,hk,c⟩:=h.new (x:=.box T l) (v:=.pointer (some ⟨w.heap.size,0,none⟩)) (w1:=w.alloc (.cells cs.toArray T)) b
  (fun k hk=>by simp[Bk,D1]at hk;subst hk;simp) (fun S1 hk d hn=>⟨w.heap.size,cs,rfl,heap_alloc_new w _,hl.mono (fun i hi=>by rw[G5 O']) (le_succ _) hk,h1⟩)
 refine⟨⟨_,S1,c,?_,hk⟩,Ext.new s _,rfl,fun k hk _=>b.block k hk⟩;have:=VS.pb (E:=E) (S:=S1) (H:=(w.alloc (.cells cs.toArray T)).heap) (ρ:=M6 ρ s.nid (.pointer (some ⟨w.heap.size,0,none⟩))) (n:=s.nid+1) (id:=s.nid) (off:=0) (p:=[]) (lt_succ_self _) trivial (by rw[I5];rfl);exact this
def A0y (h:Rp E A s ρ S a as w){R:Type}{k:K E R}{r:R}{T:Nat}(hk:n0q E s T k=some r):
  ∃s1 v u w1,k s1 v=some r/\z6 E A s ρ S a as w s1 v u w1/\(Instr.alloc T true (.tuple #[])).run E.P w=.ok u w1:=by
 unfold n0q at hk;split at hk<;>try cases hk
 rename_i z b;split at hk<;>try cases hk
 rename_i h1;unfold q0S at b;split at b<;>try cases b
 rename_i i hi;refine⟨_,_,_,_,hk,h.s0I (i0g z) (all_eq_true.1 h1) T,?_⟩;have:z.cells.toList.toArray=z.cells:=Z9
 rw[this];simp[Instr.alloc,zeroValue,typeInfo,hi,b,newVar,newRow]
def C0m (i:Q1 E)(h:Rp E A s ρ S a as w){R:Type}{k:K E R}{r:R}{T:Nat}{v:V E.D}{b:Value}(f:VS E ρ s.nid w.heap S v b)(hk:o0T E s T v k=some r):
  ∃s1 v u w1,k s1 v=some r/\z6 E A s ρ S a as w s1 v u w1/\(Instr.box T b).run E.P w=.ok u w1:=by
 unfold o0T at hk;split at hk<;>try cases hk
 rename_i d;obtain⟨c,h1,e,g,_⟩:=f.cells i d;refine⟨_,_,_,_,hk,h.s0I h1 g T,?_⟩;simp[Instr.box,newVar,newRow,e]
def u0w {P:Program}(b t:Nat):∀(vs:List Value) (i off:Nat) (w:World) (d1 d2 d3:List Value),w.heap[b]?=some (.cells (d1++(d2++d3)).toArray t (0,0))->d1.length=off+i->d2.length=vs.length->(∀v∈vs,v.oneCell'=true)->
  ∃w1,(storeCells ⟨b,off,none⟩ vs i).run P w=.ok () w1/\k7 b w w1/\w1.heap.size=w.heap.size/\w1.heap[b]?=some (.cells (d1++(vs++d3)).toArray t (0,0))
 |[],i,off,w,d1,d2,d3,d,_,g,_=>by
  have:d2=[]:=eq_nil_of_length_eq_zero (by simpa using g);subst this;exact⟨w,by simp[storeCells],⟨rfl,rfl,rfl,le_refl _,fun _ _ _=>rfl⟩,rfl,d⟩
 |v :: vs,i,off,w,d1,[],d3,d,_,g,_=>by simp at g
 |v :: vs,i,off,w,d1,x :: d2,d3,d,h1,g,hone=>by
  have o:w.cell? ⟨b,off+i,none⟩=some x:=by
   rw[h0f];unfold U2;rw[d];rw[<-h1];simp
  have p:w.frozen? ⟨b,off+i,none⟩=false:=by simp[World.frozen?,d]
  have j:=v0N (P:=P) (w:=w) (ad:=(⟨b,off,none⟩:Addr).add i) (j0K b off i) (hone v Z9) o p;have c:=z0s (w:=w) (off:=off+i) (v:=v) d;have e:(d1++(x :: d2++d3)).set (off+i) v=(d1++[v])++(d2++d3):=by rw[<-h1];simp
  rw[e]at c;obtain⟨w1,n,h,m,l⟩:=u0w (P:=P) b t vs (i+1) off (w.setCell ⟨b,off+i,none⟩ v) (d1++[v]) d2 d3 c Z' (by simpa using g) (fun u hu=>hone u (by simp[hu]));have f:=k7.cell w b (off+i) v;refine⟨w1,by simp[storeCells,j,n],⟨h.os.trans f.os,h.tape.trans f.tape,h.output.trans f.output,le_trans f.size h.size,fun k hk hn=>(h.block k (Nat.lt_of_lt_of_le hk f.size) hn).trans (f.block k hk hn)⟩,m.trans (by simp[World.setCell]),?_⟩;rw[l];simp
def l0j {T n b off t:Nat}(c:R5 E T=some n){u:Value}{vs:List Value}(hu:u.cells=vs.toArray)(hl:vs.length=n)(h1:∀v∈vs,v.oneCell'=true){d1 d2 d3:List Value}{w:World}(e:w.heap[b]?=some (.cells (d1++(d2++d3)).toArray t (0,0)))(i:d1.length=off)(g:d2.length=n):
  ∃w1,(Instr.storeAt T (.pointer (some ⟨b,off,none⟩)) u).run E.P w=.ok () w1/\k7 b w w1/\w1.heap[b]?=some (.cells (d1++(vs++d3)).toArray t (0,0)):=by
 obtain⟨w1,h,k,_,d⟩:=u0w (P:=E.P) b t vs 0 off w d1 d2 d3 e O' O' h1;refine⟨w1,?_,k,d⟩;have j:u.cells.size=n:=by rw[hu];simpa using hl
 have f:u.cells.toList=vs:=by rw[hu]
 simp[Instr.storeAt,Instr.sureAddr,storeVar,j,f,d0l c w,h]
def VS.unit {n:Nat}{H:K0}:VS E ρ n H S (.tup []:V E.D) Go.undef:=VS.of rfl (by unfold VC;exact⟨[],rfl,by unfold VT;rfl⟩)
def s0k {id T:Nat}{l:List (V E.D)}(h:g04 s id=some (T,l)):E0 s id=.box T l:=by
 unfold g04 at h;split at h
 ·rename_i hl;simp at h;obtain⟨rfl,rfl⟩:=h;exact hl
 ·cases h
def j0w {id e:Nat}{t:U}{xs:List (Den E.D t)}(h:e0K E s id=some (e,⟨t,xs⟩)):E0 s id=.lst e t xs:=by
 unfold e0K at h;split at h
 ·rename_i hl;simp only[Option.some.injEq,Prod.mk.injEq,Sigma.mk.injEq]at h;obtain⟨rfl,rfl,h⟩:=h;have h:=eq_of_heq h;subst h;exact hl
 ·cases h
def Rp.p0l (h:Rp E A s ρ S a as w){id T:Nat}{l l':List (V E.D)}{d:List Value}{b:Nat}{w1:World}(hl:E0 s id=.box T l)(f:ρ id=.pointer (some ⟨b,0,none⟩))(i:k7 b w w1)(j:w1.heap[b]?=some (.cells d.toArray T (0,0)))
  (n:N0 E ρ s.nid w.heap S l' d) (h1:∀u∈d,u.oneCell'=true):Rp E A (s.at id (.box T l')) ρ S a as w1/\U0 w.heap S w1.heap S:=by
 have c:P1 (E0 s id)=true:=by rw[hl];rfl
 have g:=h.F7 (id:=id) (by rw[hl];simp);obtain⟨m,p,o⟩:=h.ow id c b (by rw[f];rfl);have kp:=i.L1 m;refine⟨h.turn g c (i.cx h.cx o) kp (fun _ h=>h) (fun k hk hn=>i.block k hk (fun e=>hn (by rw[f,e];rfl))) rfl (fun k hk=>(h.ow id c k hk).1) ?_,kp⟩;exact⟨b,d,f,j,n.mono (fun _ _=>rfl) (le_refl _) kp,h1⟩
section
variable {H:K0}
def t0w {f:(t:U)->Den E.D t->Option (Den E.D t)}:∀(ts:List U) (h b:HL E.D ts) (j:Nat) (cs:List Value),a0I ts h j f=some b->(a0r E ts).R H S cs h->
  ∃c1 c2 c3,cs=c1++(c2++c3)/\c1.length=b0A E ts j/\∃t x x',(J0 E t).R H S c2 x/\f t x=some x'/\∀c,(J0 E t).R H S c x'->(a0r E ts).R H S (c1++(c++c3)) b
 |[],_,_,_,_,h=>by intro;simp[a0I]at h
 |t :: ts,hh,b,0,cs,h=>by
  intro i;simp only[a0I]at h;split at h<;>try cases h
  rename_i y g;obtain⟨c1,c2,rfl,h1,e⟩:=i;exact⟨[],c1,c2,Z9,rfl,t,_,_,h1,g,fun c k=>⟨c,c2,Z9,k,e⟩⟩
 |t :: ts,hh,b,j+1,cs,h=>by
  intro i;simp only[a0I]at h;split at h<;>try cases h
  rename_i d g;obtain⟨c1,c2,rfl,h1,e⟩:=i;obtain⟨d1,d2,d3,rfl,hl,n,x,x',l,m,hk⟩:=t0w ts hh.2 d j c2 g e;refine⟨c1++d1,d2,d3,Z9,by rw[length_append,(J0 E t).len h1,hl];rfl,n,x,x',l,m,fun c k=>?_⟩;rw[append_assoc];exact⟨c1,_,rfl,h1,hk c k⟩
def t0j {α:Type}{T:Ty α}{xs:List α}{cs cn:List Value}{q:α}(b:U1 T H S cs xs){i:Nat}(hi:i<xs.length)(c:T.R H S cn q):
  U1 T H S (cs.take (i*T.sz)++(cn++(cs.drop (i*T.sz)).drop T.sz)) (xs.set i q):=by
 have f:cs.length=xs.length*T.sz:=b.1;have d:=T.len c;have hle:i*T.sz+T.sz<=xs.length*T.sz:=by rw[<-succ_mul];exact mul_le_mul_right _ hi
 have k:(cs.take (i*T.sz)).length=i*T.sz:=by rw[length_take,f];omega
 refine⟨?_,fun j v e=>?_⟩
 ·simp only[length_append,length_drop,length_set,f,k,d];omega
 ·rcases Nat.lt_trichotomy j i with hlt|heq|hgt
  ·rw[List.getElem?_set_ne O']at e;have:=b.2 j v e;have g:j*T.sz+T.sz<=i*T.sz:=by rw[<-succ_mul];exact mul_le_mul_right _ hlt
   have h:((cs.take (i*T.sz)++(cn++(cs.drop (i*T.sz)).drop T.sz)).drop (j*T.sz)).take T.sz=(cs.drop (j*T.sz)).take T.sz:=by
    rw[List.drop_append_of_le_length O',List.take_append_of_le_length (by rw[length_drop,k];omega),List.drop_take,List.take_take,min_eq_left O']
   rw[h];exact this
  ·subst heq;rw[List.getElem?_set_self O']at e;simp at e;subst e;have h:((cs.take (j*T.sz)++(cn++(cs.drop (j*T.sz)).drop T.sz)).drop (j*T.sz)).take T.sz=cn:=by
    rw[List.drop_append_of_le_length O',List.drop_of_length_le O',nil_append,List.take_append_of_le_length O',List.take_of_length_le O']
   rw[h];exact c
  ·rw[List.getElem?_set_ne O']at e;have:=b.2 j v e;have g:i*T.sz+T.sz<=j*T.sz:=by rw[<-succ_mul];exact mul_le_mul_right _ hgt
   have h:((cs.take (i*T.sz)++(cn++(cs.drop (i*T.sz)).drop T.sz)).drop (j*T.sz))=cs.drop (j*T.sz):=by
    rw[<-append_assoc,List.drop_append,List.drop_of_length_le (by rw[length_append,k,d];exact g),nil_append,length_append,k,d,drop_drop,drop_drop];congr 1;omega
   rw[h];exact this
def i0Y (J:Q1 E){u:U}{y:Den E.D u}:∀(p:List P6) (t:U) (x x':Den E.D t) (cs:List Value),c0f E u y p t x=some x'->e8 p->(J0 E t).R H S cs x->
  ∃c1 c2 c3,cs=c1++(c2++c3)/\c1.length=M4 p/\c2.length=X2 E u/\∀c,(J0 E u).R H S c y->(J0 E t).R H S (c1++(c++c3)) x'
 |[],t,x,x',cs,h,_=>by
  intro v;simp only[c0f]at h;obtain⟨e,h⟩:=c0q h;subst e;subst h;exact⟨[],cs,[],Z9,rfl,(J0 E u).len v,fun c I=>by simpa using I⟩
 |.inl (j,o) :: p,t,x,x',cs,h,hp=>by
  intro v;cases t<;>simp only[c0f]at h<;>try cases h
  rename_i i;split at h<;>try cases h
  rename_i ho;rw[beq_eq]at ho;split at h<;>try cases h
  rename_i hh hf;obtain⟨c1,c2,c3,rfl,hl,n,z,z',l,b2,hk⟩:=t0w _ _ _ _ _ hf ((J.st i H S cs x).1 v);obtain⟨d1,d2,d3,rfl,d,k,g⟩:=i0Y J p n z z' c2 b2 hp l;refine⟨c1++d1,d2,d3++c3,Z9,by rw[length_append,hl,ho,d];rfl,k,fun c I=>?_⟩;refine(J.st i H S _ _).2 ?_;rw[J.unmk];have:=hk _ (g c I);simpa using this
 |.inr (i,z,m) :: p,t,x,x',cs,h,hp=>by
  intro v;cases t<;>simp only[c0f]at h<;>try cases h
  rename_i m' n;split at h<;>try cases h
  rename_i l;rw[and_eq_true,beq_eq,beq_eq]at l;obtain⟨l,rfl⟩:=l;split at h<;>try cases h
  rename_i q hq;obtain⟨hi,hp⟩:=hp;obtain⟨hlen,b⟩:=v;have f:(J0 E n).sz=z:=l;have r:=Y9 (E:=E) (t:=n) (xs:=x) hi.1 (by rw[hlen];exact hi.2);have hy:=b.2 i.toNat _ r;obtain⟨d1,d2,d3,hd,d,k,g⟩:=i0Y J p n _ q _ hq hp hy;rw[f]at hd;have b3:cs.length=m'*z:=by rw[b.1,hlen,f]
  have a1:i.toNat<m':=O'
  have hle:i.toNat*z+z<=m'*z:=by rw[<-succ_mul];exact mul_le_mul_right _ a1
  have e1:cs=cs.take (i.toNat*z)++((cs.drop (i.toNat*z)).take z++(cs.drop (i.toNat*z)).drop z):=by rw[take_append_drop,take_append_drop]
  refine⟨cs.take (i.toNat*z)++d1,d2,d3++(cs.drop (i.toNat*z)).drop z,?_,?_,k,fun c I=>?_⟩
  ·rw[hd]at e1
   conv=>lhs;rw[e1]
   simp
  ·rw[length_append,length_take,d,min_eq_left O'];rfl
  ·have C:=g c I;have key:=t0j (T:=J0 E n) (xs:=x) (cs:=cs) (cn:=d1++(c++d3)) (q:=q) b (i:=i.toNat) (by rw[hlen];exact a1) C;rw[f]at key;have b1:cs.take (i.toNat*z)++d1++(c++(d3++(cs.drop (i.toNat*z)).drop z))=cs.take (i.toNat*z)++((d1++(c++d3))++(cs.drop (i.toNat*z)).drop z):=Z9
   rw[b1];exact⟨(length_set ..).trans hlen,key⟩
def g0j {s1:St E.D}{t:List (Nat×Th E.D)}(h1:s1.th=t++s.th){p:Nat×Th E.D}(hp:p∈t):Z6 s s1 p.1=true:=by
 unfold Z6;rw[h1,length_append,add_sub_cancel,take_left']
 ·exact any_eq_true.2 ⟨p,hp,Z9⟩
 ·rfl
def g0F {s1:St E.D}(he:Ext s s1){id:Nat}{x:Th E.D}:Z6 s (s1.at id x) id=true:=by
 obtain⟨l,hl⟩:=he.th;exact g0j (t:=(id,x) :: l) (p:=(id,x)) (by simp[St.at,hl]) Z9
def h0Y {s1 s2:St E.D}{q:Nat}(h:Z6 s s1 q=true)(he:Ext s s1)(k:Ext s1 s2):Z6 s s2 q=true:=by
 obtain⟨t,d⟩:=he.th;obtain⟨e,b⟩:=k.th;unfold Z6 at h;rw[d,length_append,add_sub_cancel,take_left' rfl]at h;obtain⟨p,hp,c⟩:=any_eq_true.1 h;rw[beq_eq]at c;subst c;exact g0j (t:=e++t) (by rw[b,d];simp) (List.mem_append_right _ hp)
def VC.c02 {n:Nat}{H:K0}{S1:D0}(b:∀k,S1 k->S k){v:V E.D}{c:List Value}(h:VC E ρ n H S v c):VC E ρ n H S1 v c:=h.mono (fun _ _=>rfl) (le_refl _) (U0.less b)
def N0.c02 {n:Nat}{H:K0}{S1:D0}(b:∀k,S1 k->S k){v:List (V E.D)}{c:List Value}(h:N0 E ρ n H S v c):N0 E ρ n H S1 v c:=h.mono (fun _ _=>rfl) (le_refl _) (U0.less b)
def VS.c02 {n:Nat}{H:K0}{S1:D0}(b:∀k,S1 k->S k){v:V E.D}{u:Value}(h:VS E ρ n H S v u):VS E ρ n H S1 v u:=h.mono (fun _ _=>rfl) (le_refl _) (U0.less b)
def m0F (f:Q1 E)(h:Rp E A s ρ S a as w){u:U}{v:V E.D}{s1:St E.D}{y:Den E.D u}(b:rdD E s u v=some (s1,y)):
  ∃S1,(∀k,S1 k->S k)/\Rp E A s1 ρ S1 a as w/\Ext s s1/\s1.fr=s.fr/\s1.nid=s.nid/\∀c,VC E ρ s.nid w.heap S v c->(J0 E u).R w.heap S1 c y:=by
 unfold rdD at b;split at b<;>try cases b
 rename_i s2 m;split at b<;>try cases b
 rename_i x i;obtain⟨S1,h1,d,l,j,e⟩:=a0a f _ s [v] s1 m S h;refine⟨S1,h1,d,l,j,e,fun c g=>?_⟩;rw[<-e]at g;exact h0c f d.th i (g.c02 h1)
def w0q {n:Nat}{u:U}(h:Nat.beq (X2 E u) n=true):X2 E u=n:=by rwa [beq_eq]at h
def r0n {u:U}{v:V E.D}{s1:St E.D}{y:Den E.D u}(b:rdD E s u v=some (s1,y)){id:Nat}(c:P1 (E0 s1 id)=true):P1 (E0 s id)=true:=by
 unfold rdD at b;split at b<;>try cases b
 rename_i s2 d;split at b<;>try cases b
 rw[a0R _ s _ s1 d id c];exact c
def D0P {l r:List (V E.D)}{t:U}{x:Den E.D t}(h:i0p E l=some (⟨t,x⟩,r)):l=.d t x :: r:=by
 unfold i0p at h;split at h
 ·simp only[Option.some.injEq,Prod.mk.injEq,Sigma.mk.injEq]at h;obtain⟨⟨rfl,h⟩,rfl⟩:=h;have h:=eq_of_heq h;subst h;rfl
 ·cases h
def z6.of {s1:St E.D}{v:V E.D}{u:Value}{w1:World}{S1 b:D0}(c:∀k,S1 k->S k)(d:Rp E A s1 ρ b a as w1)(e:VS E ρ s1.nid w1.heap b v u)(hk:U0 w.heap S1 w1.heap b)(he:Ext s s1)(f:s1.fr=s.fr)(hm:∀k,k<w.heap.size->(∀q,q<s.nid->P1 (E0 s q)=true->Z6 s s1 q=true->¬Bk (ρ q) k)->w1.heap[k]?=w.heap[k]?):z6 E A s ρ S a as w s1 v u w1:=
 ⟨⟨ρ,b,d,e,(U0.less c).trans hk⟩,he,f,hm⟩
def u0O {e sz b o m cap N off n T:Nat}{cs d1 d2 d3 c:List Value}{w:World}{z:Value}(a1:0<m)(d:Row w.heap e sz (.slice (some ⟨b,o,none⟩) m cap) N cs)(k:cs=d1++(d2++d3))(y:d1.length=off)(t:d2.length=n)
  (u:R5 E T=some n) (h:z.cells=c.toArray) (hlen:c.length=n) (l:∀v∈c,v.oneCell'=true):
  ∃w1,(Instr.storeAt T (.pointer (some ⟨b,o+off,none⟩)) z).run E.P w=.ok () w1/\k7 b w w1/\Row w1.heap e sz (.slice (some ⟨b,o,none⟩) m cap) N (d1++(c++d3)):=by
 obtain⟨j,d⟩:=d;rcases d with⟨_,_,f⟩|⟨g,cap',cur,f,hp0,hg,hnc,hmx,hcz,htk⟩
 ·simp at f;omega
 ·simp at f;obtain⟨⟨J,C⟩,e3,U⟩:=f;subst J;subst C;subst e3;subst U;have i:cur.toList=cs++cur.toList.drop (m*sz):=by rw[<-htk,take_append_drop]
  have r:w.heap[b]?=some (.cells (d1++(d2++(d3++cur.toList.drop (m*sz)))).toArray e (0,0)):=by
   rw[hg];have I:cur.toList=d1++(d2++(d3++cur.toList.drop (m*sz))):=by
    refine i.trans ?_;generalize cur.toList.drop (m*sz)=q1;rw[k];simp
   rw[<-I]
  obtain⟨w1,q,R,x⟩:=l0j u h hlen l r y t;have p:(d1++(c++d3)).length=m*sz:=by rw[<-j,k];simp;omega
  refine⟨w1,by rw[zero_add];exact q,R,p,.inr ⟨b,cap,_,rfl,hp0,x,hnc,hmx,?_,?_⟩⟩
  ·have e5:=congrArg List.length i;simp only[length_append,Array.length_toList,hcz,j]at e5;simp only[length_append]at p;simp only[List.size_toArray,length_append];omega
  ·rw[List.toList_toArray];have:d1++(c++(d3++cur.toList.drop (m*sz)))=(d1++(c++d3))++cur.toList.drop (m*sz):=Z9
   rw[this,List.take_append_of_le_length O',List.take_of_length_le O']
def S5.store (hE:Q1 E){e b o m cap n T:Nat}{d J:U}{xs:List (Den E.D d)}{q:List P6}{y:Den E.D J}{x:Den E.D d}{c:List Value}{w:World}{uv:Value}{i:Int}(hL:S5 E w.heap S e d xs (.slice (some ⟨b,o,none⟩) m cap))(h0:0<=i)(hm:i<m)
  (l:c0f E J y q d (U6 E d xs i)=some x) (b2:e8 q) (hy:(J0 E J).R w.heap S c y) (b1:X2 E J=n) (b3:R5 E T=some n) (g:uv.cells=c.toArray) (hlen:c.length=n) (u:∀v∈c,v.oneCell'=true) (hS:S b):
  ∃w1,(Instr.storeAt T (.pointer (some ⟨b,o+i.toNat*X2 E d+M4 q,none⟩)) uv).run E.P w=.ok () w1/\k7 b w w1/\U0 w.heap S w1.heap S/\S5 E w1.heap S e d (xs.set i.toNat x) (.slice (some ⟨b,o,none⟩) m cap):=by
 obtain⟨cs,f,h⟩:=hL;obtain⟨rfl,_,_⟩:=Row.cell f O';have hi:i.toNat<xs.length:=O'
 have p:=Y9 (E:=E) (t:=d) (xs:=xs) h0 hm;obtain⟨I,e2,e3,b4,hle,z,r⟩:=i0Y hE q d _ x _ l b2 (h.2 _ _ p);have a1:=f.1;have c0:i.toNat*(J0 E d).sz+(J0 E d).sz<=xs.length*(J0 E d).sz:=by rw[<-succ_mul];exact mul_le_mul_right _ hi
 have b5:cs=(cs.take (i.toNat*(J0 E d).sz)++I)++(e2++(e3++(cs.drop (i.toNat*(J0 E d).sz)).drop (J0 E d).sz)):=by
  have:cs=cs.take (i.toNat*(J0 E d).sz)++((I++(e2++e3))++(cs.drop (i.toNat*(J0 E d).sz)).drop (J0 E d).sz):=by
   rw[<-b4,take_append_drop,take_append_drop]
  conv=>lhs;rw[this]
  simp
 have hL:(cs.take (i.toNat*(J0 E d).sz)).length=i.toNat*(J0 E d).sz:=by rw[length_take,a1];omega
 obtain⟨w1,C,ho,k⟩:=u0O (off:=i.toNat*X2 E d+M4 q) O' f b5 (by rw[length_append,hL,hle];rfl) (by rw[z,b1]) b3 g hlen u;have kp:=ho.L1 hS;have j:=t0j (i:=i.toNat) (h.L1 kp) hi ((J0 E d).L1 kp (r c hy));refine⟨w1,by rw[Nat.add_assoc];exact C,ho,kp,_,?_,j⟩;rw[length_set];have:cs.take (i.toNat*(J0 E d).sz)++I++(c++(e3++(cs.drop (i.toNat*(J0 E d).sz)).drop (J0 E d).sz))=cs.take (i.toNat*(J0 E d).sz)++((I++(c++e3))++(cs.drop (i.toNat*(J0 E d).sz)).drop (J0 E d).sz):=Z9
 rw[<-this];exact k
def q0e:∀{ts:List U} {h d:HL E.D ts} {j:Nat} {f:(t:U)->Den E.D t->Option (Den E.D t)},a0I ts h j f=some d->∃t y y',N5 ts h j=some ⟨t,y⟩/\f t y=some y'/\N5 ts d j=some ⟨t,y'⟩/\∀b,b≠j->N5 ts d b=N5 ts h b
 |[],_,_,_,_,c=>by simp[a0I]at c
 |t :: ts,hh,d,0,f,c=>by
  simp only[a0I]at c;split at c<;>try cases c
  rename_i y e;refine⟨t,hh.1,y,rfl,e,rfl,fun b g=>?_⟩;cases b with
  |zero=>exact absurd rfl g
  |succ b=>rfl
 |t :: ts,hh,d,j+1,f,c=>by
  simp only[a0I]at c;split at c<;>try cases c
  rename_i o e;obtain⟨i,y,y',m,n,k,l⟩:=q0e e;refine⟨i,y,y',m,n,k,fun b g=>?_⟩;cases b with
  |zero=>rfl
  |succ b=>exact l b O'
def o0t (j:Q1 E){t:U}{x x':Den E.D t}{f:Nat}{g:(u:U)->List (Den E.D u)->Option (List (Den E.D u))}(h:setRow E t x f g=some x'):
  ∃u ys c,V3 E t x f=some ⟨u,ys⟩/\g u ys=some c/\V3 E t x' f=some ⟨u,c⟩/\∀b,b≠f->V3 E t x' b=V3 E t x b:=by
 cases t with
 |list u=>
  have h:m0l g u x f=some x':=h;unfold m0l at h;split at h<;>try cases h
  refine⟨u,x,x',rfl,h,rfl,fun b e=>?_⟩;cases b with
  |zero=>exact absurd rfl e
  |succ b=>rfl
 |st k=>
  have h:m00 E k (a0I (E.fs k) (E.un k x) f (p0S g))=some x':=h;unfold m00 at h;split at h<;>try cases h
  rename_i i m;obtain⟨l,y,y',p,d,n,o⟩:=q0e m;cases l with
  |list u=>
   have d:g u y=some y':=d;exact⟨u,y,y',(show c0v (N5 (E.fs k) (E.un k x) f)=_ by rw[p];rfl),d,(show c0v (N5 (E.fs k) (E.un k (E.mkS k i)) f)=_ by rw[j.unmk,n];rfl),fun b e=>(show c0v (N5 (E.fs k) (E.un k (E.mkS k i)) b)=c0v (N5 (E.fs k) (E.un k x) b) by rw[j.unmk,o b e])⟩
  |_=>exact absurd (show none=some y' from d) Z9
 |_=>exact absurd (show none=some x' from h) Z9
def t04 {F:List Nat}{i f d c:Nat}(e:f<F.length)(b:c<F.length)(h:rowAt F i f=rowAt F d c):i=d/\f=c:=by
 unfold rowAt at h;have hp:0<F.length:=O'
 have g:=congrArg (· / F.length) h;have a2:=congrArg (· % F.length) h;simp only[mul_comm _ F.length,Nat.mul_add_div hp,Nat.mul_add_mod,Nat.div_eq_of_lt e,Nat.div_eq_of_lt b,Nat.mod_eq_of_lt e,Nat.mod_eq_of_lt b]at g a2;omega
def t0T {D:Nat->Type}{q r f:Nat}{i:Int}:∀{l:List (Nat×Th D)},(r,Th.rof q i f)∈l->r∈C9 q l
 |[],h=>by cases h
 |(r',x) :: l,h=>by
  rcases mem_cons.1 h with h|h
  ·cases h;simp[C9]
  ·have b:=t0T h;cases x with
   |rof q' i' f'=>
    simp only[C9];split
    ·exact mem_cons_of_mem _ b
    ·exact b
   |_=>exact b
def r0Z {α:Type}:∀{l:List (Nat×α)} {k:Nat} {v:α},Q4 l k=some v->(k,v)∈l
 |[],k,v,h=>by simp[Q4]at h
 |(j,x) :: l,k,v,h=>by
  rw[a0q]at h;split at h
  ·rename_i e;cases h;subst e;simp
  ·exact mem_cons_of_mem _ (r0Z h)
def i0K {D:Nat->Type}{s:St D}{r q f:Nat}{i:Int}(h:E0 s r=.rof q i f):r∈C9 q s.th:=by
 unfold E0 at h;split at h
 ·rename_i x b;subst h;exact t0T (r0Z b)
 ·cases h
def d0p {D:Nat->Type}:∀(l:List Nat) (s:St D) (j:Nat),E0 (X0 s l) j=if j∈l then .gone else E0 s j
 |[],s,j=>by simp[X0]
 |i :: l,s,j=>by
  have c:=d0p l (s.at i .gone) j;rw[show X0 s (i :: l)=X0 (s.at i .gone) l from rfl,c];have:E0 (s.at i .gone) j=if i=j then .gone else E0 s j:=by
   unfold E0 St.at;simp only[a0q]
   by_cases h:i=j<;>simp[h]
  rw[this]
  by_cases h1:j∈l
  ·simp[h1]
  ·by_cases b:i=j
   ·simp[b]
   ·have:¬j=i:=fun e=>b e.symm;simp[h1,b,this]
def a0d {D:Nat->Type}:∀(l:List Nat) (s:St D),(X0 s l).nid=s.nid/\(X0 s l).fr=s.fr/\(X0 s l).n=s.n/\(X0 s l).stk=s.stk/\∃t,(X0 s l).th=t++s.th
 |[],s=>⟨rfl,rfl,rfl,rfl,[],rfl⟩
 |i :: l,s=>by
  obtain⟨h1,c,b,e,t,d⟩:=a0d l (s.at i .gone);exact⟨h1,c,b,e,t++[(i,.gone)],by show(X0 (s.at i .gone) l).th=_;rw[d];simp[St.at]⟩
def Ext.X0 {D:Nat->Type}(s:St D)(l:List Nat):Ext s (X0 s l):=by
 obtain⟨h1,c,b,e,t,d⟩:=a0d l s;exact⟨b,⟨[],by rw[c];rfl⟩,⟨t,d⟩,e,by rw[h1];exact le_refl _⟩
def Rp.s0n (h:Rp E A s ρ S a as w){id:Nat}{x:Th E.D}{v:Value}{G:List Nat}{S1:D0}{w1:World}(d:P1 (E0 s id)=true)(J:hd v=hd (ρ id))(cx:Cx A.w0 A.W0 A.S0 w1 S1)(kp:U0 w.heap S w1.heap S1)(hs:∀k,S k->S1 k)
  (hb:∀k,k<w.heap.size->¬Bk (ρ id) k->w1.heap[k]?=w.heap[k]?) (hB:∀k,Bk v k->Bk (ρ id) k\/∃r∈G,P1 (E0 s r)=true/\Bk (ρ r) k)
  (hx:X3 E (M6 ρ id v) s.nid w1.heap S1 x v) (b1:∀r i f,E0 s r=.rof id i f->r∈G) (I:∀q i f,x≠.rof q i f):Rp E A ((X0 s G).at id x) (M6 ρ id v) S1 a as w1:=by
 obtain⟨g1,g2,g3,g4,t,g5⟩:=a0d G s;have b3:=h.F7 (id:=id) (by rintro e;rw[e]at d;cases d);have e0:(X0 s G).at id x={ s with th:=(id,x) :: (t++s.th),nid:=s.nid }:=by
  unfold St.at;rw[g5];cases hh:X0 s G;rw[hh]at g1 g2 g3 g4;simp at g1 g2 g3 g4;simp[g1,g2,g3,g4]
 have hl:∀j,E0 ((X0 s G).at id x) j=if id=j then x else if j∈G then .gone else E0 s j:=fun j=>by rw[G8,d0p]
 rw[e0]at hl ⊢;have c:∀j,j≠id->j∉G->j<s.nid->b0o s { s with th:=(id,x) :: (t++s.th),nid:=s.nid } ρ (M6 ρ id v) S1 w w1 j:=fun j n hg l=>
  ⟨by rw[hl,if_neg (Ne.symm n),if_neg hg],l,G5 n,fun b k hk=>⟨hb k ((h.th j).live b k hk) (fun C=>h.dj id j (Ne.symm n) d b k C hk),hs k (h.ow j b k hk).1⟩⟩
 refine h.step (nid1:=s.nid) ⟨cx,kp,fun i _=>?_,le_refl _⟩ (fun j=>?_) fun r q i f g e F t xs y=>?_
 ·by_cases e:i=id
  ·subst e;rw[I5,J]
  ·rw[G5 e]
 ·by_cases e:id=j
  ·subst e;refine .inr ⟨by rw[hl,if_pos rfl,I5];exact hx,fun _ k hk=>?_,fun hle=>O'⟩;rw[I5]at hk;have key:∃p,P1 (E0 s p)=true/\Bk (ρ p) k/\(p=id\/p∈G):=by
    rcases hB k hk with h1|⟨r,h1,z,m⟩
    ·exact⟨id,d,h1,.inl rfl⟩
    ·exact⟨r,z,m,.inr h1⟩
   obtain⟨p,h1,z,m⟩:=key;have h4:=h.ow p h1 k z;refine⟨⟨hs k h4.1,h4.2⟩,fun j n b o=>?_⟩;rw[hl,if_neg (fun e=>n e.symm)]at b;split at b
   ·cases b
   ·rename_i hg;rw[G5 n]at o;refine h.dj p j ?_ h1 b k z o
    rintro rfl
    rcases m with m|m
    ·exact n m
    ·exact hg m
  ·by_cases l:j<s.nid
   ·by_cases hg:j∈G
    ·rw[hl,if_neg e,if_pos hg];exact .inr ⟨trivial,(fun R=>by cases R),fun _=>rfl⟩
    ·exact .inl (c j (fun h=>e h.symm) hg l)
   ·rw[hl,if_neg e];have:(if j∈G then Th.gone else E0 s j)=.gone:=by
     split
     ·rfl
     ·exact h.lt j O'
    rw[this];exact .inr ⟨trivial,(fun R=>by cases R),fun _=>rfl⟩
 ·rw[hl]at g;split at g
  ·exact absurd g (I q i f)
  ·rename_i b2;split at g
   ·cases g
   ·rename_i hg;have a1:=h.b0T g;rw[hl]at y;split at y
    ·rename_i C;subst C;exact absurd (b1 r i f g) hg
    ·rename_i u;split at y
     ·cases y
     ·rename_i U;exact .inl ⟨c r (Ne.symm b2) hg (h.F7 (by rw[g];simp)),c q (Ne.symm u) U a1⟩
def Rp.take (h:Rp E A s ρ S a as w){x:Th E.D}{v:Value}{G:List Nat}{S1:D0}{w1:World}(cx:Cx A.w0 A.W0 A.S0 w1 S1)(kp:U0 w.heap S w1.heap S1)(hs:∀k,S k->S1 k)
  (hb:∀k,k<w.heap.size->(∀j∈G,P1 (E0 s j)=true->¬Bk (ρ j) k)->w1.heap[k]?=w.heap[k]?) (hB:∀k,Bk v k->P1 x=true->S1 k/\((∃j∈G,P1 (E0 s j)=true/\Bk (ρ j) k)\/w.heap.size<=k))
  (hx:X3 E (M6 ρ s.nid v) (s.nid+1) w1.heap S1 x v) (p:∀q i f,x≠.rof q i f):Rp E A ((X0 s G).new x) (M6 ρ s.nid v) S1 a as w1:=by
 obtain⟨g1,g2,g3,g4,t,g5⟩:=a0d G s;have e0:(X0 s G).new x={ s with th:=(s.nid,x) :: (t++s.th),nid:=s.nid+1 }:=by
  unfold St.new;rw[g5,g1];cases hh:X0 s G;rw[hh]at g1 g2 g3 g4;simp at g1 g2 g3 g4;simp[g2,g3,g4]
 have hl:∀j,E0 ((X0 s G).new x) j=if s.nid=j then x else if j∈G then .gone else E0 s j:=fun j=>by rw[k0c,d0p,g1]
 rw[e0]at hl ⊢;have c:∀j,j∉G->j<s.nid->b0o s { s with th:=(s.nid,x) :: (t++s.th),nid:=s.nid+1 } ρ (M6 ρ s.nid v) S1 w w1 j:=fun j hg g=>
  ⟨by rw[hl,if_neg O',if_neg hg],g,G5 O',fun b k hk=>⟨hb k ((h.th j).live b k hk) (fun U I z u=>h.dj U j (fun e=>hg (e▸I)) z b k u hk),hs k (h.ow j b k hk).1⟩⟩
 refine h.step (nid1:=s.nid+1) ⟨cx,kp,fun i hi=>by rw[G5 O'],le_succ _⟩ (fun j=>?_) fun r q i f d e F t xs y=>?_
 ·by_cases e:s.nid=j
  ·subst e;refine .inr ⟨by rw[hl,if_pos rfl,I5];exact hx,fun m k hk=>?_,fun hle=>O'⟩;rw[hl,if_pos rfl]at m;rw[I5]at hk;obtain⟨k1,n⟩:=hB k hk m;refine⟨⟨k1,?_⟩,fun j hj b l=>?_⟩
   ·rcases n with⟨j,_,o,R⟩|n
    ·exact(h.ow j o k R).2
    ·exact⟨fun h0=>by have:=h.cx.lt0 k h0;have:=h.cx.size;omega,.inr (by have:=h.cx.size;omega)⟩
   ·rw[hl,if_neg (fun e=>hj e.symm)]at b;split at b
    ·cases b
    ·rename_i hg;rw[G5 hj]at l;rcases n with⟨U,o,R,k5⟩|n
     ·exact h.dj U j (fun e=>hg (e▸o)) R b k k5 l
     ·have:=(h.th j).live b k l;omega
  ·by_cases g:j<s.nid
   ·by_cases hg:j∈G
    ·rw[hl,if_neg e,if_pos hg];exact .inr ⟨trivial,(fun m=>by cases m),fun _=>rfl⟩
    ·exact .inl (c j hg g)
   ·rw[hl,if_neg e];have:(if j∈G then Th.gone else E0 s j)=.gone:=by
     split
     ·rfl
     ·exact h.lt j O'
    rw[this];exact .inr ⟨trivial,(fun m=>by cases m),fun _=>rfl⟩
 ·rw[hl]at d;split at d
  ·exact absurd d (p q i f)
  ·split at d
   ·cases d
   ·rename_i hg;have J:=h.b0T d;rw[hl,if_neg O']at y;split at y
    ·cases y
    ·rename_i C;exact .inl ⟨c r hg (h.F7 (by rw[d];simp)),c q C J⟩
def y0Z {s1 s2:St E.D}{q:Nat}(h:Z6 s1 s2 q=true)(he:Ext s s1)(k:Ext s1 s2):Z6 s s2 q=true:=by
 obtain⟨t,d⟩:=he.th;obtain⟨e,b⟩:=k.th;unfold Z6 at h;rw[b,length_append,add_sub_cancel,take_left' rfl]at h;obtain⟨p,hp,c⟩:=any_eq_true.1 h;rw[beq_eq]at c;subst c;exact g0j (t:=e++t) (by rw[b,d];simp) (List.mem_append_left _ hp)
def v0y {G:List Nat}{j:Nat}(d:j∈G):∀s:St E.D,Z6 s (X0 s G) j=true:=by
 induction G with
 |nil=>cases d
 |cons i r ih=>
  intro s;rcases mem_cons.1 d with rfl|h
  ·exact h0Y (s1:=s.at j .gone) (f0n s) (Ext.at s j _) (Ext.X0 _ r)
  ·obtain⟨t,e⟩:=(Ext.X0 (s.at i .gone) r).th;have b:=ih h (s.at i .gone);unfold Z6 at b;rw[e,length_append,add_sub_cancel,take_left' rfl]at b;obtain⟨p,hp,c⟩:=any_eq_true.1 b;rw[beq_eq]at c;subst c;exact g0j (t:=t++[(i,.gone)]) (by show(X0 (s.at i .gone) r).th=_;rw[e];simp[St.at]) (List.mem_append_left _ hp)
def x0T {G:List Nat}{j:Nat}{x:Th E.D}(b:j∈G):Z6 s ((X0 s G).new x) j=true:=h0Y (v0y b s) (Ext.X0 s G) (Ext.new _ _)
def Rp.r0N (h:Rp E A s ρ S a as w){x:Th E.D}{v:Value}(J:∀k,Bk v k->P1 x=true->(S k/\¬A.S0 k/\Wr A.W0 A.w0 k)/\∀j,P1 (E0 s j)=true->¬Bk (ρ j) k)
  (z:X3 E (M6 ρ s.nid v) (s.nid+1) w.heap S x v) (o:∀q i f,x=.rof q i f->q<s.nid/\∀e F t xs,E0 s q=.B1 e F t xs none->b0W w.heap (hd (ρ q)) F.length i f v):Rp E A (s.new x) (M6 ρ s.nid v) S a as w:=by
 have hl:∀j,E0 { s with th:=(s.nid,x) :: s.th,nid:=s.nid+1 } j=if s.nid=j then x else E0 s j:=fun j=>k0c s j x;have b:∀j,j<s.nid->b0o s { s with th:=(s.nid,x) :: s.th,nid:=s.nid+1 } ρ (M6 ρ s.nid v) S w w j:=fun j d=>
  ⟨by rw[hl,if_neg O'],d,G5 O',fun c k hk=>⟨rfl,(h.ow j c k hk).1⟩⟩
 refine h.step (nid1:=s.nid+1) ⟨h.cx,U0.refl _ _,fun i hi=>by rw[G5 O'],le_succ _⟩ (fun j=>?_) fun r q i f g e F t xs p=>?_
 ·by_cases e:s.nid=j
  ·subst e;refine .inr ⟨by rw[hl,if_pos rfl,I5];exact z,fun m k hk=>?_,fun hle=>O'⟩;rw[hl,if_pos rfl]at m;rw[I5]at hk;obtain⟨R,y⟩:=J k hk m;refine⟨R,fun j u c l=>?_⟩;rw[hl,if_neg (fun e=>u e.symm)]at c;rw[G5 u]at l;exact y j c l
  ·by_cases d:j<s.nid
   ·exact .inl (b j d)
   ·rw[hl,if_neg e,h.lt j O'];exact .inr ⟨trivial,(fun m=>by cases m),fun _=>rfl⟩
 ·rw[hl]at g;split at g
  ·rename_i I;subst I;obtain⟨h1,C⟩:=o q i f g;rw[hl,if_neg O']at p;refine .inr ?_;rw[G5 O',I5];exact C e F t xs p
  ·have n:=h.b0T g;rw[hl,if_neg O']at p;exact .inl ⟨b r (h.F7 (by rw[g];simp)),b q n⟩
def d0U {id e:Nat}{F:List Nat}{o:Option (Int×Nat)}{t:U}{xs:List (Den E.D t)}(h:c0p E s id=some (e,F,o,⟨t,xs⟩)):E0 s id=.B1 e F t xs o:=by
 unfold c0p at h;split at h
 ·rename_i hl;simp only[Option.some.injEq,Prod.mk.injEq,Sigma.mk.injEq]at h;obtain⟨rfl,rfl,rfl,rfl,h⟩:=h;have h:=eq_of_heq h;subst h;exact hl
 ·cases h
def r0d:∀{l:List U} {f:Nat},b0v l=true->f<l.length->b0A E l f=f
 |[],f,_,d=>by simp at d
 |t :: l,0,_,_=>rfl
 |t :: l,f+1,hb,d=>by
  simp only[b0v,and_eq_true]at hb;obtain⟨b,c⟩:=hb;cases t<;>simp only[g02,Bool.false_eq_true]at b
  simp only[b0A];rw[r0d c (by simpa using d)];exact Nat.add_comm 1 f
def s0v {D:Nat->Type}:∀{l:List U} {h:HL D l} {f:Nat} {t:U} {y:Den D t},N5 l h f=some ⟨t,y⟩->k0i l f=some t/\f<l.length
 |[],_,f,_,_,h=>by simp[N5]at h
 |t :: l,h,0,_,_,hg=>by
  simp only[N5,Option.some.injEq,Sigma.mk.injEq]at hg;obtain⟨rfl,_⟩:=hg;exact⟨rfl,Z9⟩
 |t :: l,h,f+1,_,_,hg=>by
  obtain⟨h1,b⟩:=s0v (l:=l) hg;exact⟨h1,by simpa using b⟩
def z0e {t u w':U}{x:Den E.D t}{f:Nat}{ys:List (Den E.D w')}(h:o0z E t f=some u)(b:V3 E t x f=some ⟨w',ys⟩):w'=u:=by
 cases t<;>simp only[o0z]at h<;>try cases h
 ·rename_i t;cases f<;>simp only at h<;>try cases h
  exact(congrArg Sigma.fst (Option.some.inj (show some _=some _ from b))).symm
 ·rename_i k;split at h<;>try cases h
  rename_i c;have b:c0v (N5 (E.fs k) (E.un k x) f)=some ⟨w',ys⟩:=b;cases hg:N5 (E.fs k) (E.un k x) f with
  |none=>rw[hg]at b;cases b
  |some p=>
   obtain⟨d,y⟩:=p;rw[hg]at b;have:=(s0v hg).1;rw[c]at this;cases this;exact(congrArg Sigma.fst (Option.some.inj b)).symm
def u0k {t:U}{F:List Nat}{q:List P6}{f:Nat}(b:l9 E t F=true)(h:j0j E t q=some f)(i:f<F.length):M4 q=f:=by
 simp only[l9,and_eq_true,beq_eq]at b;obtain⟨⟨_,e⟩,d⟩:=b;unfold j0j at h;split at h<;>try cases h
 ·rfl
 ·rename_i k g o;split at h<;>try cases h
  rename_i c;rw[beq_eq]at c;simp only[l0d]at e;have:=r0d (E:=E) d (f:=f) O';simp only[M4,Nat.add_zero];omega
def s0O (h:Rp E A s ρ S a as w){e:Nat}{u:U}{v:V E.D}{d:Value}(n:VS E ρ s.nid w.heap S v d){g:Option Nat}{ys:List (Den E.D u)}(c:e06 E s e u v=some (g,ys)):
  S5 E w.heap S e u ys d/\d.oneCell'=true/\(match g with|none=>d=D7|some j=>ρ j=d/\∃l b,E0 s j=.lst e l b):=by
 cases v with
 |nil=>
  simp only[e06,Option.some.injEq,Prod.mk.injEq]at c;obtain⟨rfl,rfl⟩:=c;obtain rfl:=n.b0n;exact⟨⟨[],⟨Z9,.inl ⟨rfl,none,rfl⟩⟩,U1.nil⟩,rfl,rfl⟩
 |sl j=>
  simp only[e06]at c;split at c<;>try cases c
  rename_i e' l b hl;split at c<;>try cases c
  rename_i k m;rw[beq_eq]at k;subst k;obtain⟨o,m⟩:=L9 m;subst o;subst m;have hl:=j0w hl;have f:=h.th j;rw[hl]at f;obtain⟨_,rfl⟩:=n.X9;have f:S5 E w.heap S e l b (ρ j):=f;obtain⟨A',c',i⟩:=f.form;have p:hd (ρ j)=ρ j:=by rw[i];rfl
  rw[p];exact⟨f,by rw[i];rfl,rfl,l,b,hl⟩
 |_=>simp[e06]at c
def Rp.l0m (h:Rp E A s ρ S a as w){g e f:Nat}{j:Int}{F:List Nat}{t0:U}{xs:List (Den E.D t0)}{i:Value}(x:E0 s g=.B1 e F t0 xs none)(m:b0W w.heap (hd (ρ g)) F.length j f i):
  ∃cs,H8 E w.heap S e F t0 xs none (ρ g) cs/\(0<=j/\j<xs.length)/\f<F.length/\cs[rowAt F j.toNat f]?=some i/\(Go.X.tl (ρ g))[rowAt F j.toNat f]?=some i:=by
 obtain⟨v,u,m2,c2,y,k,t,n⟩:=m;have b:=h.th g;rw[x]at b;obtain⟨cs,b⟩:=b;have d:=b.row;rw[y]at d;obtain⟨rfl,_,_,c⟩:=Row.cell d O';have p:j.toNat<xs.length:=by have:=k.2;have:=k.1;omega
 have q:rowAt F j.toNat f<xs.length*(J0 E t0).sz:=by
  rw[(d0v b.ok).1];unfold rowAt;have:j.toNat*F.length+F.length<=xs.length*F.length:=by rw[<-succ_mul];exact mul_le_mul_right _ p
  omega
 have l:=c w.heap rfl _ q;have n:U2 w.heap v (u+rowAt F j.toNat f)=some i:=n;rw[n]at l;have r:=d0I (o:=none) t Z9 l.symm Z9;rw[<-b.tl]at r;exact⟨cs,b,k,t,l.symm,r⟩
def Rp.s03 (h:Rp E A s ρ S a as w){w1:World}{i e f e':Nat}{j:Int}{F:List Nat}{t0 u:U}{xs:List (Den E.D t0)}{x:Den E.D t0}{a1:List (Den E.D u)}{r:Value}(hq:E0 s i=.B1 e F t0 xs none)(c5:b0W w.heap (hd (ρ i)) F.length j f r)
  (z:V3 E t0 x f=some ⟨u,a1⟩) (b1:∀c,c≠f->V3 E t0 x c=V3 E t0 (U6 E t0 xs j) c) (b5:F[f]?=some e') (hb:∀k,k<w.heap.size->D1 r≠some k->w1.heap[k]?=w.heap[k]?) (cx:Cx A.w0 A.W0 A.S0 w1 S) (kp:U0 w.heap S w1.heap S) (hL:S5 E w1.heap S e' u a1 r):
  Rp E A (s.at i (.B1 e F t0 (xs.set j.toNat x) none)) ρ S a as w1:=by
 obtain⟨cs,d,k2,k3,h5,h8⟩:=h.l0m hq c5;have m:P1 (E0 s i)=true:=by rw[hq];rfl
 have J:=Y9 (E:=E) (t:=t0) (xs:=xs) k2.1 k2.2;have b4:j.toNat<xs.length:=by have:=k2.2;have:=k2.1;omega
 have c6:∀(p:Nat) (r':Value),(Go.X.tl (ρ i))[p]?=some r'->p≠rowAt F j.toNat f->∀b,D1 r'=some b->D1 r≠some b:=fun p r' hp e1 b b3 c4=>
  d.ap (p+1) (rowAt F j.toNat f+1) r' r O' (by simpa using hp) (by simpa using h8) b b3 c4
 have l:∀b',D1 (hd (ρ i))=some b'->w1.heap[b']?=w.heap[b']?:=fun b' g=>hb b' (Row.live d.row b' g) (fun hk=>d.ap 0 (rowAt F j.toNat f+1) (hd (ρ i)) r O' rfl (by simpa using h8) b' g hk);refine h.turn (w1:=w1) (S1:=S) (id:=i) (v:=ρ i) (x:=.B1 e F t0 (xs.set j.toNat x) none) (h.F7 (by rw[hq];simp)) m cx kp (fun _ h=>h) (fun k' c3 hn=>hb k' c3 (fun e=>hn (Bk.tl (mem_of_getElem? h8) e))) rfl (fun k hk=>(h.ow i m k hk).1) ?_ (by intros;simp) ?_
 ·refine⟨cs,by rw[length_set];exact Row.mono l d.row,d.tl,d.ok,d.bd,fun q x' c u' y C g1 g2 g3 g4=>?_,d.one,d.ap⟩;have I:c<F.length:=(List.getElem?_eq_some_iff.1 g3).1;have old:∀x0,xs[q]?=some x0->V3 E t0 x0 c=some ⟨u',y⟩->(q≠j.toNat\/c≠f)->∃r',cs[rowAt F q c]?=some r'/\S5 E w1.heap S C u' y r':=by
   intro x0 q1 q2 R;obtain⟨r',p1,p2⟩:=d.rows q _ c u' y C q1 q2 g3 Z9;have p8:=d0I (o:=none) I Z9 p1 Z9;rw[<-d.tl]at p8;refine⟨r',p1,p2.mono kp fun b' g=>hb b' (by obtain⟨_,b2,_⟩:=p2;exact Row.live b2 b' g) (c6 _ r' p8 (fun e=>?_) b' g)⟩;obtain⟨e3,e4⟩:=t04 I k3 e;rcases R with R|R
   ·exact R e3
   ·exact R e4
  by_cases hi:q=j.toNat
  ·subst hi;rw[List.getElem?_set_self b4]at g1;obtain rfl:=Option.some.inj g1
   by_cases n:c=f
   ·subst n;rw[z]at g2;obtain⟨rfl,g2⟩:=Sigma.mk.inj (Option.some.inj g2);have g2:=eq_of_heq g2;subst g2;rw[b5]at g3;obtain rfl:=Option.some.inj g3;exact⟨r,h5,hL⟩
   ·rw[b1 c n]at g2;exact old _ J g2 (.inr n)
  ·rw[List.getElem?_set_ne (Ne.symm hi)]at g1;exact old _ g1 g2 (.inl hi)
 ·intro e' F' t' c8 C r' q c c0;simp only[Th.B1.injEq]at C;obtain⟨_,rfl,_,_,_⟩:=C;obtain⟨b',o',m',c',p1,p2,p3,p4⟩:=h.rf r' i q c c0 e F t0 xs hq;refine⟨b',o',m',c',p1,p2,p3,?_⟩;rw[<-p4];unfold U2;rw[l b' (by have:=d.row;rw[p1]at this ⊢;exact this.g0C O')]
def E0i (hE:Q1 E)(h:Rp E A s ρ S a as w){R:Type}{k:K E R}{r:R}{T n id l f z:Nat}{j i:Int}{q:List P6}{v:V E.D}{up uv:Value}(a1:E0 s id=.rof l j f)(hp:VS E ρ s.nid w.heap S (.pe id i z q) up)(hv:VS E ρ s.nid w.heap S v uv)(h7:R5 E T=some n)(hn:vsz E v=n)(e4:c0k v=true)(hk:m0b E s n l j f i z q v k=some r):
  ∃s1 v w1,k s1 v=some r/\z6 E A s ρ S a as w s1 v Go.undef w1/\(Instr.storeAt T up uv).run E.P w=.ok () w1:=by
 obtain⟨c,hc,p,c8,e2⟩:=hv.cells hE e4;have hlen:c.length=n:=(i0G hE e2 e4).trans hn;obtain⟨j3,h3,b,o,m,j1,hr,⟨h0,hm⟩,hu⟩:=hp.c05;unfold m0b at hk;split at hk<;>try cases hk
 rename_i tt _ k5;split at hk<;>try cases hk
 rename_i u2 j2 k4;split at hk<;>try cases hk
 rename_i s1 y d;split at hk<;>try cases hk
 rename_i e F t0 xs b2;split at hk<;>try cases hk
 rename_i x b1;obtain⟨S1,h9,h2,he,hf,b3,j0⟩:=m0F hE h d;have hq:=d0U b2;have i1:∀g,P1 (E0 s1 g)=true->E0 s g=E0 s1 g:=fun g ho=>by
  unfold rdD at d;split at d<;>try cases d
  rename_i s2 hf;split at d<;>try cases d
  exact a0R _ s _ s1 hf g ho
 have U:E0 s l=.B1 e F t0 xs none:=by rw[i1 l (by rw[hq];rfl),hq]
 obtain⟨u,ys,k1,t,hg,J,b5⟩:=o0t hE b1;split at hg<;>try cases hg
 rename_i x2 c6 C;rw[and_eq_true,beq_eq,beq_eq]at c6;obtain⟨rfl,e9⟩:=c6;have c5:a09 E s l j f=some ⟨u,ys⟩:=by unfold a09;rw[U];exact t
 obtain⟨_,e1,_,_⟩:=h.h0a a1 c5;have e3:=h.rf id l j f a1 e F t0 xs U;obtain⟨cs,ht,k2,k3,h5,h8⟩:=h2.l0m hq e3;rw[e1]at hr;obtain⟨e',c4⟩:∃e',F[f]?=some e':=⟨_,List.getElem?_eq_getElem k3⟩
 obtain⟨k6,h6,hL⟩:=ht.rows j.toNat _ f u ys e' (Y9 k2.1 k2.2) t c4 Z9;rw[h5]at h6;obtain rfl:=Option.some.inj h6;have I:D1 (ρ id)=some b:=by obtain⟨_,b4,_⟩:=hL;rw[hr]at b4 ⊢;exact b4.g0C O'
 have e5:P1 (E0 s1 l)=true:=by rw[hq];rfl
 obtain⟨hS,k0,hW⟩:=h2.ow l e5 b (Bk.tl (mem_of_getElem? h8) I);rw[hr]at hL;obtain⟨w1,c0,ho,kp,c3⟩:=hL.store hE h0 hm C h3 (j0 c e2) e9 h7 p hlen c8 hS;rw[<-hr]at c3;exact⟨_,_,w1,hk,z6.of h9 (h2.s03 hq e3 J b5 c4 (fun k hk hn=>ho.block k hk (fun e=>hn (by rw[I,e]))) (ho.cx h2.cx hW) kp c3) VS.unit kp (he.trans (Ext.at s1 l _)) hf (fun k hk h4=>ho.block k hk (fun e=>h4 l (by rw[<-b3];exact h2.F7 (by rw[hq];simp)) (by rw[U];rfl) (g0F he) (Bk.tl (mem_of_getElem? h8) (by rw[I,e])))),by rw[hu];exact c0⟩
def z0F (hE:Q1 E)(h:Rp E A s ρ S a as w){R:Type}{k:K E R}{r:R}{T id z:Nat}{i:Int}{q:List P6}{v:V E.D}{up n:Value}(hp:VS E ρ s.nid w.heap S (.pe id i z q) up)(hv:VS E ρ s.nid w.heap S v n)(q7:R5 E T=some 1)(hk:l0z E s id i z q v k=some r):
  ∃s1 v w1,k s1 v=some r/\z6 E A s ρ S a as w s1 v Go.undef w1/\(Instr.storeAt T up n).run E.P w=.ok () w1:=by
 obtain⟨o2,r1,b,o0,m,r0,hr,⟨h0,hm⟩,hu⟩:=hp.c05;unfold l0z at hk;split at hk<;>try cases hk
 rename_i e F o t xs k6;split at hk<;>try cases hk
 rename_i f hz q6;split at hk<;>try cases hk
 rename_i u e' p0 k4;split at hk<;>try cases hk
 rename_i g ys p8;split at hk<;>try cases hk
 rename_i x k0;rw[beq_eq]at hz;subst hz;have hl:=d0U k6;have ht:=h.th id;rw[hl]at ht;obtain⟨cs,ht⟩:=ht;have hf:f<F.length:=(List.getElem?_eq_some_iff.1 k4).1;have k1:X2 E t=F.length:=(d0v ht.ok).1;have l0:=u0k ht.ok q6 hf;obtain⟨k3,b2,hg⟩:=s0O h hv p8;obtain⟨u',r3,p4,n0,a1,j3,k8⟩:=o0t hE k0;obtain rfl:=z0e p0 n0;obtain⟨ec,a1⟩:=L9 a1;obtain rfl:p4=ys:=a1.symm;have h7:=ht.row;rw[hr]at h7;obtain⟨rfl,r4,C,_⟩:=Row.cell h7 O';have l2:i.toNat<xs.length:=O'
 have c8:∀j g',o=some (j,g')->j=i/\g'=f:=by
  intro j g' ho;subst ho;unfold r0f at hk;simp only at hk;split at hk<;>rename_i J
  ·split at J<;>cases J
  ·split at hk<;>rename_i k2
   ·split at J
    ·rename_i n1;rw[beq_eq]at n1;simp only[Option.some.injEq]at J;subst J;exact⟨of_decide_eq_true k2,n1.symm⟩
    ·simp only[Option.some.injEq]at J;subst J;cases k2
   ·cases hk
 have b3:k ((N7 (c0l s g) id).at id (.B1 e F t (xs.set i.toNat x) none)) (.tup [])=some r:=by
  split at hk
  ·exact hk
  ·split at hk
   ·exact hk
   ·cases hk
 have h5:rowAt F i.toNat f<cs.length:=by
  rw[ht.sz];unfold rowAt;have:i.toNat*F.length+F.length<=xs.length*F.length:=by rw[<-succ_mul];exact mul_le_mul_right _ l2
  omega
 generalize c5:rowAt F i.toNat f=p at h5;have hT:∀p',p'≠p->(Go.X.tl (ρ id))[p']?=cs[p']?:=by
  intro p' y;rw[ht.tl];unfold d0A;split
  ·rfl
  ·rename_i j g' _;obtain⟨rfl,rfl⟩:=c8 _ _ rfl;rw[List.getElem?_set_ne (by rw[c5];exact Ne.symm y)]
 have p7:cs=cs.take p++([cs[p]]++cs.drop (p+1)):=by
  rw[List.singleton_append,List.getElem_cons_drop,take_append_drop]
 obtain⟨w1,l1,ho,b5⟩:=u0O (off:=p) (c:=[n]) O' h7 p7 (by rw[length_take];omega) rfl q7 (by rw[cells_one b2]) rfl (by simpa using b2);have l3:cs.take p++([n]++cs.drop (p+1))=cs.set p n:=by
  rw[List.singleton_append,List.set_eq_take_append_cons_drop,if_pos h5]
 rw[l3]at b5;have c4:P1 (E0 s id)=true:=by rw[hl];rfl
 obtain⟨hS,r2,hW⟩:=h.ow id c4 b (Bk.hd (by rw[hr];exact C));have kp:=ho.L1 hS;have hblk:∀I,D1 n=some I->¬Bk (ρ id) I/\∃j,g=some j/\P1 (E0 s j)=true/\Bk (ρ j) I:=by
  intro I d;cases g with
  |none=>
   have hg:n=D7:=hg;subst hg;cases d
  |some j=>
   obtain⟨p5,u9,y9,h6⟩:=hg;have l4:P1 (E0 s j)=true:=by rw[h6];rfl
   have k5:Bk (ρ j) I:=Bk.hd (by rw[p5,(d0T b2).1];exact d);refine⟨h.dj j id ?_ l4 c4 I k5,j,rfl,l4,k5⟩
   rintro rfl
   rw[hl]at h6;cases h6
 have hG:∃G:List Nat,N7 (c0l s g) id=X0 s G/\(∀r' i' f',E0 s r'=.rof id i' f'->r'∈G)/\∀j,g=some j->j∈G:=by
  cases g with
  |none=>exact⟨C9 id s.th,rfl,fun r' i' f' j1=>i0K j1,fun j hj=>by cases hj⟩
  |some j=>exact⟨j :: C9 id s.th,rfl,fun r' i' f' j1=>mem_cons_of_mem _ (i0K j1),fun j' hj=>by cases hj;simp⟩
 obtain⟨G,n9,q5,q4⟩:=hG;rw[n9]at b3;have h3:hd (Value.tuple (hd (ρ id) :: cs.set p n).toArray)=hd (ρ id):=rfl;have h4:Go.X.tl (Value.tuple (hd (ρ id) :: cs.set p n).toArray)=cs.set p n:=rfl;have hold:∀p' u',p'≠p->(cs.set p n)[p']?=some u'->(Go.X.tl (ρ id))[p']?=some u':=fun p' u' y b1=>by
  rw[List.getElem?_set_ne (Ne.symm y)]at b1;rw[hT p' y];exact b1
 have b4:(cs.set p n)[p]?=some n:=List.getElem?_set_self h5;have c6:Ext s (X0 s G):=Ext.X0 s G;refine⟨_,_,w1,b3,⟨⟨_,S,h.s0n c4 h3 (ho.cx h.cx hW) kp (fun _ h=>h) (fun I d hn=>ho.block I d (fun e=>hn (by rw[e];exact Bk.hd (by rw[hr];exact C)))) (fun I d=>?_) ?_ q5 (by intros;simp),VS.unit,kp⟩,c6.trans (Ext.at _ id _),(a0d G s).2.1,fun e9=>?_⟩,?_⟩
 ·rcases c0Y.1 d with d|⟨u',b1,d⟩
  ·exact .inl (Bk.hd d)
  ·rw[h4]at b1;obtain⟨p',h2⟩:=List.getElem?_of_mem b1
   by_cases y:p'=p
   ·subst y;rw[b4]at h2;obtain rfl:=Option.some.inj h2;obtain⟨_,j,e1,e2,e3⟩:=hblk I d;exact .inr ⟨j,q4 j e1,e2,e3⟩
   ·exact .inl (Bk.tl (mem_of_getElem? (hold p' u' y h2)) d)
 ·refine⟨cs.set p n,by rw[h3,length_set,hr];exact b5,by rw[h4];rfl,ht.ok,(fun _ _ h=>by cases h),fun i' x' f' u2 j2 e2 g1 g2 g3 _=>?_,fun u' b1=>?_,fun U i2 v1 v2 y l j0 I h8 b3=>?_⟩
  ·have o1:f'<F.length:=(List.getElem?_eq_some_iff.1 g3).1;have r5:i'<xs.length:=by have:=(List.getElem?_eq_some_iff.1 g1).1;rwa [length_set]at this
   have main:∀x0,xs[i']?=some x0->V3 E t x0 f'=some ⟨u2,j2⟩->(i'≠i.toNat\/f'≠f)->∃r',(cs.set p n)[rowAt F i' f']?=some r'/\S5 E w1.heap S e2 u2 j2 r':=by
    intro x0 q1 q2 q3;have n2:rowAt F i' f'≠p:=by
     rw[<-c5];intro e;obtain⟨e3,e4⟩:=t04 o1 hf e;rcases q3 with q3|q3
     ·exact q3 e3
     ·exact q3 e4
    obtain⟨r',p1,p2⟩:=ht.rows i' _ f' u2 j2 e2 q1 q2 g3 (by
     intro ho;obtain⟨e3,e4⟩:=c8 _ _ ho;rcases q3 with q3|q3
     ·exact q3 O'
     ·exact q3 e4)
    have p3:(cs.set p n)[rowAt F i' f']?=some r':=by rw[List.getElem?_set_ne (Ne.symm n2)];exact p1
    refine⟨r',p3,p2.mono kp fun b' c3=>ho.block b' (by obtain⟨_,c0,_⟩:=p2;exact Row.live c0 b' c3) ?_⟩
    rintro rfl
    exact ht.ap 0 (rowAt F i' f'+1) (hd (ρ id)) r' O' rfl (by simpa using hold _ _ n2 p3) b' (by rw[hr];exact C) c3
   by_cases hi:i'=i.toNat
   ·subst hi;rw[List.getElem?_set_self l2]at g1;obtain rfl:=Option.some.inj g1
    by_cases e5:f'=f
    ·subst e5;rw[j3]at g2;obtain⟨rfl,g2⟩:=Sigma.mk.inj (Option.some.inj g2);have g2:=eq_of_heq g2;subst g2;rw[k4]at g3;obtain rfl:=Option.some.inj g3;refine⟨n,by rw[c5];exact b4,k3.mono kp fun b' c3=>ho.block b' (by obtain⟨_,c0,_⟩:=k3;exact Row.live c0 b' c3) ?_⟩
     rintro rfl
     exact(hblk b' c3).1 (Bk.hd (by rw[hr];exact C))
    ·rw[k8 f' e5]at g2;exact main _ (Y9 h0 hm) g2 (.inr e5)
   ·rw[List.getElem?_set_ne (Ne.symm hi)]at g1;exact main _ g1 g2 (.inl hi)
  ·rcases List.mem_or_eq_of_mem_set b1 with h9|rfl
   ·exact ht.one _ h9
   ·exact b2
  ·rw[h3,h4]at l j0;have key:∀(U:Nat) (v1:Value),(hd (ρ id) :: cs.set p n)[U]?=some v1->(U=p+1/\v1=n)\/(U≠p+1/\(hd (ρ id) :: Go.X.tl (ρ id))[U]?=some v1):=by
    intro U v1 l;cases U with
    |zero=>exact .inr ⟨O',l⟩
    |succ U=>
     simp only[List.getElem?_cons_succ]at l
     by_cases e1:U=p
     ·subst e1;rw[b4]at l;exact .inl ⟨rfl,(Option.some.inj l).symm⟩
     ·exact .inr ⟨O',by simpa using hold U v1 e1 l⟩
   have inB:∀(U:Nat) (v1:Value),(hd (ρ id) :: Go.X.tl (ρ id))[U]?=some v1->D1 v1=some I->Bk (ρ id) I:=by
    intro U v1 l hk;have:=mem_of_getElem? l;rcases mem_cons.1 this with rfl|h9
    ·exact Bk.hd hk
    ·exact Bk.tl h9 hk
   rcases key U v1 l with⟨e1,rfl⟩|⟨e1,q1⟩
   ·rcases key i2 v2 j0 with⟨e2,rfl⟩|⟨e2,q2⟩
    ·omega
    ·exact(hblk I h8).1 (inB _ _ q2 b3)
   ·rcases key i2 v2 j0 with⟨e2,rfl⟩|⟨e2,q2⟩
    ·exact(hblk I b3).1 (inB _ _ q1 h8)
    ·exact ht.ap U i2 v1 v2 y q1 q2 I h8 b3
 ·intro q8 p6;exact ho.block e9 q8 (fun e=>p6 id o2 (by first|assumption|(rw[hl];rfl)) (g0F c6) (Bk.hd (by rw[hr,e];exact C)))
 ·rw[hu,k1,l0];have:o0+i.toNat*F.length+f=o0+p:=by rw[<-c5];unfold rowAt;omega
  rw[this];exact l1
def C0d (hE:Q1 E)(h:Rp E A s ρ S a as w){R:Type}{k:K E R}{r:R}{T:Nat}{p v:V E.D}{up uv:Value}(hp:VS E ρ s.nid w.heap S p up)(hv:VS E ρ s.nid w.heap S v uv)(hk:i0T E s T p v k=some r):
  ∃s1 v w1,k s1 v=some r/\z6 E A s ρ S a as w s1 v Go.undef w1/\(Instr.storeAt T up uv).run E.P w=.ok () w1:=by
 unfold i0T at hk;split at hk<;>try cases hk
 rename_i n b4;split at hk<;>try cases hk
 rename_i b1;rw[and_eq_true,beq_eq]at b1;obtain⟨hn,b1⟩:=b1;obtain⟨c,hc,C,J,h8⟩:=hv.cells hE b1;have hlen:c.length=n:=(i0G hE h8 b1).trans hn;split at hk
 ·rename_i id off;obtain⟨U,_,b,hr,hu⟩:=hp.b0l;simp only[M4,Nat.add_zero]at hu;split at hk<;>try cases hk
  rename_i T' cs hb;have hl:=s0k hb;split at hk<;>try cases hk
  rename_i x1 x2 x3 k3;have ht:=h.th id;rw[hl]at ht;obtain⟨b',cc,t,c0,c8,h1⟩:=ht;obtain rfl:b=b':=by rw[t]at hr;simpa[hd,eq_comm]using hr
  obtain⟨c1,c2,c3,e,e9,l0,ha,_,hd⟩:=g0e hE k3 c8;rw[e]at c0;obtain⟨w1,I,ho,h4⟩:=l0j b4 C hlen J c0 e9 l0;rw[hu];obtain⟨h6,h9⟩:=h.p0l hl t ho h4 (l':=x1++H6 v++x3) (by rw[append_assoc];exact ha.app (hc.app hd)) (by
   intro u hu;rcases mem_append.1 hu with hu|hu
   ·exact h1 u (by rw[e];simp[hu])
   ·rcases mem_append.1 hu with hu|hu
    ·exact J u hu
    ·exact h1 u (by rw[e];simp[hu]))
  exact⟨_,_,w1,hk,z6.of (fun _ h=>h) h6 VS.unit h9 (Ext.at s id _) rfl (fun k hk hq=>ho.block k hk (fun e=>hq id U (by rw[hl];rfl) (f0n s) (by rw[e,t];rfl))),I⟩
 ·rename_i id off q _;obtain⟨U,e4,b,hr,hu⟩:=hp.b0l;split at hk<;>try cases hk
  rename_i s1 T' l g;unfold i0T.rdP at g;split at g<;>try cases g
  split at g<;>try cases g
  split at g<;>try cases g
  split at g<;>try cases g
  rename_i u2 _;split at g<;>try cases g
  rename_i s2 y hz b3;split at g<;>try cases g
  rename_i T2 l3 hb;split at g<;>try cases g
  rename_i a1 m' k5;split at g<;>try cases g
  rename_i t' x' cr l1;split at g<;>try cases g
  rename_i z b2;have hm:=D0P l1;subst hm;have c4:=w0q hz;obtain⟨S1,h7,h2,he,hf,c5,i1⟩:=m0F hE h b3;have hl:=s0k hb;have ht:=h2.th id;rw[hl]at ht;obtain⟨b',cc,t,c0,c8,h1⟩:=ht;obtain rfl:b=b':=by rw[t]at hr;simpa[hd,eq_comm]using hr
  obtain⟨c1,c2,e,e9,ha,k1⟩:=b0g hE _ _ _ _ _ k5 cc c8;unfold N0 at k1;obtain⟨d1,d2,rfl,hd,e5⟩:=k1;obtain⟨e1,e2,e3,k0,hle,j2,j0⟩:=i0Y hE q t' x' z d1 b2 e4 hd;have k2:w.heap[b]?=some (.cells ((c1++e1)++(e2++(e3++d2))).toArray T' (0,0)):=by rw[c0,e,k0];simp
  obtain⟨w1,I,ho,h4⟩:=l0j b4 C hlen J k2 (by rw[length_append,e9,hle]) (by rw[j2,c4,hn]);rw[hu];have hS:=h2.ow id (by rw[hl];rfl) b (by rw[t];rfl);have kp:=ho.L1 hS.1;have k8:(J0 E t').R w.heap S1 (e1++(c++e3)) z:=j0 c (i1 c h8);obtain⟨h6,h9⟩:=h2.p0l hl t ho h4 (l':=a1++.d t' z :: cr) (by
   have:(c1++e1)++(c++(e3++d2))=c1++((e1++(c++e3))++d2):=Z9
   rw[this];refine ha.app ?_;unfold N0;exact⟨_,d2,rfl,by unfold VC;exact k8,e5⟩) (by
   intro u hu;have:u∈cc\/u∈c:=by
    rw[e,k0];simp only[mem_append]at hu ⊢;rcases hu with(h|h)|h|h|h<;>simp[h]
   rcases this with hu|hu
   ·exact h1 u hu
   ·exact J u hu)
  exact⟨_,_,w1,hk,z6.of h7 h6 VS.unit h9 (he.trans (Ext.at s1 id _)) hf (fun k hk hq=>ho.block k hk (fun e=>hq id U (r0n b3 (by rw[hl];rfl)) (g0F he) (by rw[e,t];rfl))),I⟩
 ·rename_i id i z q;obtain⟨U,e4,b,o,m,c6,hr,⟨h0,hm⟩,hu⟩:=hp.c05;split at hk
  ·split at hk<;>try cases hk
   rename_i j1;rw[beq_eq]at j1;subst j1;exact z0F hE h hp hv b4 hk
  ·rename_i r0 j f hl;exact E0i hE h hl hp hv b4 hn b1 hk
  ·split at hk<;>try cases hk
   split at hk<;>try cases hk
   rename_i u2 _ _;split at hk<;>try cases hk
   rename_i s1 y b3;split at hk<;>try cases hk
   rename_i e t' xs hb;split at hk<;>try cases hk
   rename_i x c4 b2;rw[and_eq_true,beq_eq,beq_eq]at c4;obtain⟨rfl,k4⟩:=c4;obtain⟨S1,h7,h2,he,hf,c5,i1⟩:=m0F hE h b3;have hl:=j0w hb;have ht:=h2.th id;rw[hl]at ht;have h3:∃A' c',ρ id=.slice A' xs.length c':=S5.form ht;obtain⟨A',c',h3⟩:=h3;have t:ρ id=.slice (some ⟨b,o,none⟩) m c6:=by rw[<-hr,h3];rfl
   have b5:P1 (E0 s1 id)=true:=by rw[hl];rfl
   have h5:Bk (ρ id) b:=by
    obtain⟨_,j3,_⟩:=ht;rw[t]at j3 ⊢;exact j3.g0C O'
   obtain⟨hS,l2,hW⟩:=h2.ow id b5 b h5;have hL:S5 E w.heap S1 e t' xs (.slice (some ⟨b,o,none⟩) m c6):=by rw[<-t];exact ht
   obtain⟨w1,I,ho,kp,k6⟩:=hL.store hE h0 hm b2 e4 (i1 c h8) k4 b4 C hlen J hS;refine⟨_,_,w1,hk,z6.of h7 (h2.turn (w1:=w1) (S1:=S1) (id:=id) (v:=ρ id) (x:=.lst e t' (xs.set i.toNat x)) (by rw[c5];exact U) b5 (ho.cx h2.cx hW) kp (fun _ h=>h) (fun k hk hn=>ho.block k hk (fun e=>hn (by rw[e];exact h5))) rfl (fun k hk=>(h2.ow id b5 k hk).1) ?_) VS.unit kp (he.trans (Ext.at s1 id _)) hf (fun k hk hq=>ho.block k hk (fun e=>hq id U (r0n b3 (by rw[hl];rfl)) (g0F he) (by rw[e];exact h5))),by rw[hu];exact I⟩;rw[t];exact k6
 ·cases hk
def c09 {t:U}{z:Value}{sz bytes:Nat}(h:b01 E t z sz bytes=true):sz=(J0 E t).sz/\z.cells.size=(J0 E t).sz/\0<(J0 E t).sz/\0<bytes:=by
 simp only[b01,and_eq_true,beq_eq,Nat.blt_eq]at h;obtain⟨⟨⟨h1,c⟩,b⟩,d⟩:=h;subst h1;exact⟨rfl,c,b,d⟩
def c0W {e:Nat}{z:Value}{sz bytes:Nat}(h:b03 E e=some (z,sz,bytes)):∃i,E.P.info? e=some i/\i.zero=some z/\i.size=sz/\i.bytes=bytes:=by
 unfold b03 at h;split at h<;>try cases h
 rename_i i hi;split at h<;>try cases h
 rename_i c b;exact⟨i,hi,b,rfl,rfl⟩
def c01 {T e:Nat}(h:b0e E T=some e):E.P.underlying T=some (.slice e):=by
 unfold b0e at h;split at h
 ·rename_i b;simp at h;subst h;exact b
 ·cases h
def Rp.j0f (h:Rp E A s ρ S a as w){e:Nat}{t:U}{xs:List (Den E.D t)}{v:Value}{w1:World}(f:Below w.heap.size w w1)(l:∀k,D1 v=some k->w.heap.size<=k/\k<w1.heap.size)(g:v.oneCell'=true)
  (j:∀S1,U0 w.heap S w1.heap S1->(∀k,D1 v=some k->S1 k)->∃cs,Row w1.heap e (J0 E t).sz v xs.length cs/\U1 (J0 E t) w1.heap S1 cs xs):
  z6 E A s ρ S a as w (s.new (.lst e t xs)) (.sl s.nid) v w1:=by
 obtain⟨c,b⟩:=d0T g;obtain⟨S1,hk,m⟩:=h.new (x:=.lst e t xs) (v:=v) (w1:=w1) f (fun k hk=>l k ((b k).1 hk)) (fun S1 hk i _=>j S1 hk fun k d=>i k ((b k).2 d) rfl);refine⟨⟨_,S1,m,?_,hk⟩,Ext.new s _,rfl,fun k hk _=>f.block k hk⟩;exact VS.of rfl (by unfold VC;exact⟨lt_succ_self _,by rw[I5,c];exact g,by rw[I5,c]⟩)
def r07 {n:Nat}{H:K0}(z:Value):VC E ρ n H S (ofZ E z) z.cells.toList:=by
 have h:=i0g (E:=E) (ρ:=ρ) (S:=S) (n:=n) (H:=H) z;unfold ofZ at h ⊢;split at h
 ·unfold VC;exact h
 ·rw[s0f]at h;exact h.a0p
def z0a (hE:Q1 E)(h:Rp E A s ρ S a as w){R:Type}{k:K E R}{r:R}{T:Nat}{n m:Operand}(hk:o03 E s T n m k=some r):
  ∃s1 v u w1,k s1 v=some r/\z6 E A s ρ S a as w s1 v u w1/\(Instr.makeSlice T (a.eval n) (a.eval m)).run E.P w=.ok u w1:=by
 unfold o03 at hk;split at hk<;>try cases hk
 rename_i e U x he hx hop;have l:n=m:=by
  unfold h05 at hop;split at hop
  ·rw[beq_eq]at hop;rw[hop]
  ·rw[of_decide_eq_true hop]
  ·cases hop
 subst l;split at hk<;>try cases hk
 rename_i t z sz bytes ht y;split at hk<;>try cases hk
 rename_i zx I hz;obtain⟨rfl,h1,h2,h3⟩:=c09 I;obtain⟨i,hi,o,p,j⟩:=c0W y;split at hk<;>try cases hk
 rename_i c;have hT:=c01 he;have J:=r9 hx (h.val n);rw[J];simp only[V2,and_eq_true,decide_eq_true_eq]at c;obtain⟨q,rfl⟩:=Int.eq_ofNat_of_zero_le c.1;have hq:q*bytes<=140737488355328:=by
  have h1:=c.2;have h2:((q*bytes:Nat):Int)<=140737488355328:=by rw[Int.natCast_mul];exact h1
  omega
 have a1:q<=q*bytes:=Nat.le_mul_of_pos_right _ h3;obtain⟨w1,d,b,hg⟩:=run_make_full (P:=E.P) w w.heap.size T e i z (J0 E t).sz hT hi o p U U q (by rw[j,mul_comm];omega) (by simp only[maxLen];omega) (le_refl _);have hB:Below w.heap.size w w1:=⟨hg.os,hg.tape,hg.output,hg.size,fun k hk=>hg.block k hk Z9⟩
 have hm:=n0j z.cells q;rw[h1]at hm;rw[hm]at b;have b:=Row.of b;have C:∀S1,(J0 E t).R w1.heap S1 z.cells.toList zx:=by
  intro S1;refine h0c (ρ:=ρ) (n:=0) hE (fun id=>?_) hz (r07 z);show X3 E ρ 0 w1.heap S1 .gone (ρ id)
  trivial
 refine⟨_,_,_,w1,hk,h.j0f hB (fun k hk=>?_) rfl fun S1 hk _=>⟨_,by simpa using b,i05 (C S1) q⟩,d⟩;obtain⟨b1,rfl⟩:=d0M hk;refine⟨le_refl _,?_⟩;rcases b.2 with⟨_,a,f⟩|⟨g,cap,cur,f,_,hgg,_⟩
 ·simp at f;omega
 ·simp at f;obtain⟨rfl,_⟩:=f;exact getElem?_lt hgg
def Row.o0k {H:K0}{e sz n:Nat}{v:Value}{cs:List Value}(h:Row H e sz v n cs):(Go.V.Row H e sz v n cs/\v.ownBlock=D1 v)\/(n=0/\cs=[]/\D1 v=none/\∃a,v=.slice (some a) 0 0):=by
 obtain⟨b,⟨h1,a,d⟩|⟨g,cap,cur,c,hp,r⟩⟩:=h
 ·subst h1;subst d;cases a with
  |none=>exact .inl ⟨⟨b,.inl ⟨rfl,rfl⟩⟩,rfl⟩
  |some a=>exact .inr ⟨rfl,by simpa using b,rfl,a,rfl⟩
 ·refine .inl ⟨⟨b,.inr ⟨g,cap,cur,c,r⟩⟩,?_⟩;subst c;exact(e0I (a:=⟨g,0,none⟩) (m:=n) hp).symm
def inX (v:Value)(S:D0):D0:=fun k=>D1 v=some k\/S k
structure GrX (w w1:World)(v:Value):Prop where
 os:w1.os=w.os
 tape:w1.tape=w.tape
 output:w1.output=w.output
 size:w.heap.size<=w1.heap.size
 block:∀k,k<w.heap.size->D1 v≠some k->w1.heap[k]?=w.heap[k]?
def t0G {a:Option Addr}{m c k:Nat}(h:D1 (.slice a m c)=some k):(Value.slice a m c).ownBlock=some k:=by
 cases a with
 |none=>cases h
 |some a=>obtain⟨_,rfl⟩:=d0M h;rfl
def j0H {α:Type}{T:Ty α}{t ty e:TypeId}{bytes:Nat}{z:Value}{v:Value}{xs ys:List α}{cs:List Value}{A:Option Addr}{c:Nat}(P:Program)(ht:P.underlying t=some (.slice e))(hE:(P.info? e).map (fun i=>(i.zero,i.size,i.bytes))=some (some z,T.sz,bytes))(q:(decide (z.cells.size=T.sz)&&decide (0<T.sz)&&decide (0<bytes))=true)
  (b2:Row w.heap e T.sz v xs.length cs) (b1:U1 T w.heap S cs xs) (hS:∀k,D1 v=some k->S k) (U:V5 T w.heap S A ys) (p:I0 bytes xs ys=true):
  ∃f w1,(Builtin.append_ #[t,t] ty #[v,.slice A ys.length c]).run P w=.ok f w1/\GrX w w1 v/\(∀k,D1 f=some k->(D1 v=some k\/w.heap.size<=k)/\k<w1.heap.size)/\(∃A1 c1,f=.slice A1 (xs++ys).length c1)/\
   ∀S1,U0 w.heap S w1.heap S1->∃y,Row w1.heap e T.sz f (xs++ys).length y/\U1 T w1.heap S1 y (xs++ys):=by
 rcases b2.o0k with⟨hV,l⟩|⟨h0,hc0,hnone,a,hv⟩
 ·have c3:Ow T e (fun _=>True) w.heap S v xs:=⟨fun k hk=>⟨hS k (by rw[<-l];exact hk),trivial⟩,cs,hV,b1⟩
  obtain⟨f,w1,r,hg,I,a1⟩:=z0i (P:=P) (w:=w) t ty e bytes z ht hE q c3 U (c:=c) p;have fin:∀S1,U0 w.heap S w1.heap S1->Ow T e (fun _=>True) w1.heap (fun k=>f.ownBlock=some k\/S1 k) f (xs++ys):=fun S1 hk=>by
   refine a1 (fun k=>f.ownBlock=some k\/S1 k) ⟨hk.size,fun b hb hn=>⟨fun hi=>?_,(hk.blk b hb hn).2⟩⟩ (fun _=>True) (fun k hk=>⟨.inl hk,trivial⟩);rcases hi with hi|hi
   ·rcases I with d|d
    ·rw[d,l]at hi;exact hn (hS b hi)
    ·rw[d]at hi;have:=Option.some.inj hi;omega
   ·exact(hk.blk b hb hn).1 hi
  have c8:U0 w.heap S w1.heap (fun k=>f.ownBlock=some k\/S k):=⟨hg.size,fun b hb hn=>⟨fun hi=>by
    rcases hi with hi|hi
    ·rcases I with d|d
     ·rw[d,l]at hi;exact hn (hS b hi)
     ·rw[d]at hi;have:=Option.some.inj hi;omega
    ·exact hn hi,hg.block b hb (fun d=>hn (hS b (by rw[<-l];exact d.symm)))⟩⟩
  have c0:=fin _ c8;obtain⟨A1,c1,n⟩:=c0.form;refine⟨f,w1,r,⟨hg.os,hg.tape,hg.output,hg.size,fun k hk hn=>hg.block k hk (fun d=>hn (by rw[<-l];exact d.symm))⟩,fun k hk=>?_,⟨A1,c1,n⟩,fun S1 hk=>?_⟩
  ·have m:f.ownBlock=some k:=by rw[n]at hk ⊢;exact t0G hk
   refine⟨?_,c0.lt k m⟩;rcases I with d|d
   ·rw[d,l]at m;exact .inl m
   ·rw[d]at m;exact .inr (Nat.le_of_eq (Option.some.inj m))
  ·obtain⟨_,y,h1,h2⟩:=fin S1 hk;exact⟨y,Row.ofV h1,h2.L1 (U0.less fun _ h=>.inr h)⟩
 ·subst hv;subst hc0;have e3:xs=[]:=eq_nil_of_length_eq_zero h0;subst e3;obtain⟨i,hi,b4⟩:=Option.map_eq_some_iff.1 hE;simp only[Prod.mk.injEq]at b4;obtain⟨hz,c5,c4⟩:=b4;simp only[and_eq_true,decide_eq_true_eq]at q;simp only[I0,decide_eq_true_eq,List.length_nil,zero_add]at p;have e4:ys.length<=maxLen:=by
   have:ys.length<=ys.length*bytes:=Nat.le_mul_of_pos_right _ q.2;simp only[maxLen];omega
  rcases eq_zero_or_pos ys.length with h0|hpos
  ·have h0:ys=[]:=eq_nil_of_length_eq_zero h0;subst h0;have g1:GrX w w (.slice (some a) 0 0):=⟨rfl,rfl,rfl,le_refl _,fun _ _ _=>rfl⟩
   have g2:Row w.heap e T.sz (.slice (some a) 0 0) ([]++[]:List α).length []:=⟨Z9,.inl ⟨rfl,_,rfl⟩⟩
   have g3:∀k,D1 (.slice (some a) 0 0)=some k->(D1 (.slice (some a) 0 0)=some k\/w.heap.size<=k)/\k<w.heap.size:=fun k hk=>by cases hk
   refine⟨.slice (some a) 0 0,w,?_,g1,g3,⟨some a,0,rfl⟩,fun S1 hk=>⟨[],g2,U1.nil⟩⟩;cases A<;>simp[Builtin.append_,run_underlying ht,sizeOf,typeInfo,hi,Builtin.lenOf,Builtin.firstCells,loadCells,loadCellsFrom,storeCells]
  ·obtain⟨b,off,_,hA,_⟩:=U 0 ys[0] (by simp[hpos]);subst hA;have rd:∀{A:Option Addr} {xs:List α},V5 T w.heap S A xs->∃news,U1 T w.heap S news xs/\∀b o,A=some ⟨b,o,none⟩->∀j u,news[j]?=some u->U2 w.heap b (o+0*T.sz+j)=some u:=fun hr=>V5.news (w:=w) (k:=0) (fun i x hx=>by
    obtain⟨b,o,cs,h1,h2,R⟩:=hr i x hx;exact⟨b,o,cs,h1,h2,fun j v hj=>by rw[zero_add];exact R j v hj⟩)
   obtain⟨news,b5,C⟩:=rd U;have J:∀j u,news[j]?=some u->w.cell? ((⟨b,off,none⟩:Addr).add j)=some u:=by
    intro j u hj;rw[b0a];have:=C b off rfl j u hj;simpa using this
   obtain⟨f,w',r,h2,R⟩:=run_append_arg_grows (P:=P) w t ty e i z T.sz bytes ht hi hz c5 c4 q.1.1 q.1.2 a 0 0 [] Z9 (fun j u hj=>by simp at hj) ⟨b,off,none⟩ ys.length c news b5.1 J O' O' (by simpa using p);have hV:=h2;obtain⟨hl,hv|⟨g,cap,cur,hv,e2,hg,e9,hm,e5,c6⟩⟩:=hV
   ·exact absurd hv.2 O'
   ·have b3:=Row.of h2;rw[zero_add,nil_append]at b3;refine⟨f,w',r,⟨R.os,R.tape,R.output,R.size,fun k hk _=>R.block k hk Z9⟩,fun k hk=>?_,⟨_,_,by rw[hv];simp;exact⟨rfl,rfl⟩⟩,fun S1 hk=>⟨news,by simpa using b3,by simpa using b5.L1 hk⟩⟩;rw[hv]at hk;obtain⟨_,rfl⟩:=d0M hk;exact⟨.inr e2,getElem?_lt hg⟩
def h0j (h:Rp E A s ρ S a as w){t:U}{y:V E.D}{r:Value}(q:VS E ρ s.nid w.heap S y r){ys:List (Den E.D t)}(b:e0J E s t y=some ys):
  ∃A' c,r=.slice A' ys.length c/\V5 (J0 E t) w.heap S A' ys:=by
 unfold e0J at b;split at b
 ·simp only[Option.some.injEq]at b;subst b;obtain rfl:=q.b0n;exact⟨none,0,rfl,fun i x k=>by simp at k⟩
 ·split at b<;>try cases b
  rename_i z n hl;obtain⟨e,b⟩:=L9 b;subst e;subst b;have m:=hl;unfold b0I at hl;split at hl
  ·cases hl;obtain⟨A',c,rfl,p⟩:=q.f04;exact⟨A',c,rfl,p.2.2⟩
  ·rename_i id _;obtain⟨J,rfl⟩:=q.X9;rcases h.o0Z m with⟨e,h1,_⟩|⟨A',c,h1,l⟩
   ·obtain⟨A',c,l⟩:=h1.form;rw[l]at h1;refine⟨A',c,l,fun i x k=>?_⟩;have hi:i<n.length:=(List.getElem?_eq_some_iff.1 k).1;cases A' with
    |none=>
     obtain⟨cs,f,_⟩:=h1;rcases f.2 with⟨R,_⟩|⟨g,cap,cur,hv,_⟩
     ·omega
     ·cases hv
    |some ad=>
     have o:=h1;obtain⟨C,d,_⟩:=o;rcases d.2 with⟨R,_⟩|⟨g,cap,cur,hv,_⟩
     ·omega
     ·simp at hv;obtain⟨rfl,_⟩:=hv;obtain⟨_,I⟩:=h1.el;obtain⟨_,cs,u,h7⟩:=I i O' O';have:U6 E z n i=x:=by
       have:=Y9 (E:=E) (t:=z) (xs:=n) (i:=i) O' O';rw[Int.toNat_natCast,k]at this;exact(Option.some.inj this).symm
      rw[this]at u;exact⟨g,0,cs,rfl,u,fun j v hj=>h7 w.heap rfl j v hj⟩
   ·exact⟨A',c,h1,l.2.2⟩
  ·cases hl
def t0Z (hE:Q1 E)(h:Rp E A s ρ S a as w){R:Type}{k:K E R}{r:R}{T:Nat}{x y:V E.D}{ux uy:Value}(hx:VS E ρ s.nid w.heap S x ux)(hy:VS E ρ s.nid w.heap S y uy)(ty:Nat)(hk:k0B E s T x y k=some r):
  ∃s1 v u w1,k s1 v=some r/\z6 E A s ρ S a as w s1 v u w1/\(Builtin.append_ #[T,T] ty #[ux,uy]).run E.P w=.ok u w1:=by
 unfold k0B at hk;split at hk<;>try cases hk
 rename_i e he;split at hk<;>try cases hk
 rename_i t z sz bytes ht h9;split at hk<;>try cases hk
 rename_i ys g xs h0 c3 d;split at hk<;>try cases hk
 rename_i C;obtain⟨rfl,h1,h2,h3⟩:=c09 h0;obtain⟨i,hi,e1,h8,h7⟩:=c0W h9;have hT:=c01 he;obtain⟨A',c,rfl,c6⟩:=h0j h hy c3;have b3:(E.P.info? e).map (fun i=>(i.zero,i.size,i.bytes))=some (some z,(J0 E t).sz,bytes):=by rw[hi];simp[e1,h8,h7]
 have b4:(decide (z.cells.size=(J0 E t).sz)&&decide (0<(J0 E t).sz)&&decide (0<bytes))=true:=by simp[h1,h2,h3]
 unfold t0g at d;split at d
 ·simp only[Option.some.injEq,Prod.mk.injEq]at d;obtain⟨rfl,rfl⟩:=d;obtain rfl:=hx.b0n;obtain⟨v',w1,o,hg,n,⟨A1,c1,j⟩,m⟩:=j0H (S:=S) (w:=w) (ty:=ty) (v:=.slice none 0 0) (xs:=([]:List (Den E.D t))) (cs:=[]) (c:=c) E.P hT b3 b4 ⟨Z9,.inl ⟨rfl,none,rfl⟩⟩ U1.nil (fun k hk=>by cases hk) c6 C;have hB:Below w.heap.size w w1:=⟨hg.os,hg.tape,hg.output,hg.size,fun k hk=>hg.block k hk (by simp[D1])⟩
  subst j;refine⟨_,_,_,w1,hk,h.j0f hB (fun k hk=>?_) rfl fun S1 hk hs=>m S1 hk,o⟩;obtain⟨I,h6⟩:=n k hk;refine⟨?_,h6⟩;rcases I with I|I
  ·cases I
  ·exact I
 ·rename_i id;split at d<;>try cases d
  rename_i e' t' zs hl;split at d<;>try cases d
  rename_i b5 U;rw[beq_eq]at b5;subst b5;obtain⟨e2,U⟩:=L9 U;subst e2;subst U;obtain⟨e3,rfl⟩:=hx.X9;have hl:=j0w hl;have f:P1 (E0 s id)=true:=by rw[hl];rfl
  have b1:=h.th id;rw[hl]at b1;obtain⟨A0,c0,c4⟩:=S5.form b1;have c8:hd (ρ id)=ρ id:=by rw[c4];rfl
  have q:∀k,Bk (ρ id) k↔D1 (ρ id)=some k:=fun k=>by rw[c4];exact Iff.rfl
  rw[c8];obtain⟨cs,c5,b2⟩:=b1;have hS:=fun k hk=>(h.ow id f k ((q k).2 hk))
  obtain⟨v',w1,o,hg,n,⟨A1,c1,j⟩,m⟩:=j0H (S:=S) (w:=w) (ty:=ty) (c:=c) E.P hT b3 b4 c5 b2 (fun k hk=>(hS k hk).1) c6 C;subst j;have l:U0 w.heap S w1.heap (inX (Value.slice A1 (zs++ys).length c1) S):=⟨hg.size,fun b p hn=>⟨fun hi=>by
    rcases hi with hi|hi
    ·rcases(n b hi).1 with e|e
     ·exact hn (hS b e).1
     ·omega
    ·exact hn hi,hg.block b p (fun e=>hn (hS b e).1)⟩⟩
  obtain⟨e4,a1,J⟩:=m _ l;have h4:Cx A.w0 A.W0 A.S0 w1 (inX (Value.slice A1 (zs++ys).length c1) S):=by
   have cx:=h.cx;refine⟨⟨hg.os.trans cx.bel.os,hg.tape.trans cx.bel.tape,hg.output.trans cx.bel.output,le_trans cx.bel.size hg.size,fun k hk hn=>(hg.block k (by have:=cx.size;omega) (fun e=>?_)).trans (cx.bel.block k hk hn)⟩,fun b p=>.inr (cx.sub b p),fun b p=>?_,cx.lt0⟩
   ·rcases(hS k e).2.2 with h2|h2
    ·exact hn h2
    ·omega
   ·rcases p with p|p
    ·exact(n b p).2
    ·exact Nat.lt_of_lt_of_le (cx.lt b p) hg.size
  have i1:Rp E A ((X0 s [id]).new (Th.lst e t' (zs++ys))) (M6 ρ s.nid (Value.slice A1 (zs++ys).length c1)) (inX (Value.slice A1 (zs++ys).length c1) S) a as w1:=
   h.take h4 l (fun k hk=>.inr hk) (fun k hk hn=>hg.block k hk (fun e=>hn id Z9 f ((q k).2 e))) (fun k hk _=>⟨.inl hk,((n k hk).1).imp (fun I=>⟨id,Z9,f,(q k).2 I⟩) (fun I=>O')⟩) ⟨e4,a1,J⟩ (by intros;simp)
  refine⟨_,_,_,w1,hk,⟨⟨_,_,i1,?_,l⟩,(Ext.at s id .gone).trans (Ext.new _ _),rfl,fun e9=>?_⟩,o⟩
  ·exact VS.of rfl (by unfold VC;exact⟨lt_succ_self _,by rw[I5];rfl,by rw[I5];rfl⟩)
  ·intro j0 e5;exact hg.block e9 j0 (fun e=>e5 id e3 f (h0Y (f0n s) (Ext.at s id .gone) (Ext.new _ _)) ((q e9).2 e))
 ·cases d
def B0i (_hE:Q1 E)(h:Rp E A s ρ S a as w){id d f:Nat}{j:Int}{s1:St E.D}(hl:E0 s id=.rof d j f)(I:o0a E s d j f=some s1):
  ∃ ρ1,Rp E A s1 ρ1 S a as w/\(∀i,i<s.nid->hd (ρ1 i)=hd (ρ i))/\VS E ρ1 s1.nid w.heap S (.sl s.nid) (hd (ρ id))/\Ext s s1/\s1.fr=s.fr/\(∀q,q<s.nid->P1 (E0 s1 q)=true->P1 (E0 s q)=true)/\(∃r',r'<s.nid/\P1 (E0 s r')=true/\Z6 s s1 r'=true/\∀q k,q<s1.nid->Bk (ρ1 q) k->(q<s.nid/\Bk (ρ q) k)\/Bk (ρ r') k)/\s.nid<=s1.nid:=by
 unfold o0a at I;split at I<;>try cases I
 rename_i e F t xs c4;split at I<;>try cases I
 rename_i u zs e' R h4;have hq:=d0U c4;have r:P1 (E0 s d)=true:=by rw[hq];rfl
 have h0:=h.F7 (id:=d) (by rw[hq];simp);obtain⟨_,e1,⟨er,j3⟩,hblk⟩:=h.h0a hl R;obtain⟨b2,o2,m2,c2,k1,k2,k3,k4⟩:=h.rf id d j f hl e F t xs hq;have C:=h.th d;rw[hq]at C;obtain⟨cs,C⟩:=C;have c8:=C.row;rw[k1]at c8;obtain⟨rfl,_,_,b4⟩:=Row.cell c8 O';have e5:V3 E t (U6 E t xs j) f=some ⟨u,zs⟩:=by unfold a09 at R;rw[hq]at R;exact R
 have c3:=Y9 (E:=E) (t:=t) (xs:=xs) k2.1 k2.2;obtain⟨k0,h5,hL⟩:=C.rows j.toNat _ f u zs _ c3 e5 h4 Z9;have b1:rowAt F j.toNat f<cs.length:=(List.getElem?_eq_some_iff.1 h5).1;have h6:=b4 w.heap rfl _ (by rw[<-C.row.1];exact b1);rw[h5]at h6;have k4:U2 w.heap b2 (o2+rowAt F j.toNat f)=some (ρ id):=k4;rw[k4]at h6;obtain rfl:=Option.some.inj h6;have h8:=d0I (o:=none) k3 Z9 h5 Z9;rw[<-C.tl]at h8;have c5:Go.X.tl (ρ d)=cs:=C.tl;generalize h2:rowAt F j.toNat f=p at b1 h5 h8;have b5:hd (Value.tuple (hd (ρ d) :: cs.set p D7).toArray)=hd (ρ d):=rfl;have e9:Go.X.tl (Value.tuple (hd (ρ d) :: cs.set p D7).toArray)=cs.set p D7:=rfl;have key:∀(l:Nat) (v1:Value) g,(hd (ρ d) :: cs.set p D7)[l]?=some v1->D1 v1=some g->l≠p+1/\(hd (ρ d) :: Go.X.tl (ρ d))[l]?=some v1:=by
  intro l v1 g m hk;cases l with
  |zero=>exact⟨O',m⟩
  |succ l=>
   simp only[List.getElem?_cons_succ]at m ⊢
   by_cases e1:l=p
   ·subst e1;rw[List.getElem?_set_self b1]at m;obtain rfl:=Option.some.inj m;cases hk
   ·rw[List.getElem?_set_ne (Ne.symm e1)]at m;exact⟨O',by rw[c5];exact m⟩
 have inB:∀(l:Nat) (v1:Value) g,(hd (ρ d) :: Go.X.tl (ρ d))[l]?=some v1->D1 v1=some g->Bk (ρ d) g:=by
  intro l v1 g m hk;rcases mem_cons.1 (mem_of_getElem? m)with rfl|h9
  ·exact Bk.hd hk
  ·exact Bk.tl h9 hk
 have a1:∀g,Bk (Value.tuple (hd (ρ d) :: cs.set p D7).toArray) g->∃l v1,l≠p+1/\(hd (ρ d) :: Go.X.tl (ρ d))[l]?=some v1/\D1 v1=some g:=by
  intro g b;have:∃u'∈hd (ρ d) :: cs.set p D7,D1 u'=some g:=by
   rcases c0Y.1 b with b|⟨u',b3,b⟩
   ·exact⟨_,List.mem_cons_self,b⟩
   ·exact⟨u',mem_cons_of_mem _ b3,b⟩
  obtain⟨u',b3,n⟩:=this;obtain⟨l,h3⟩:=List.getElem?_of_mem b3;obtain⟨q1,q2⟩:=key l u' g h3 n;exact⟨l,u',q1,q2,n⟩
 have j0:=h.s0n (id:=d) (x:=.B1 e F t xs (some (j,f))) (v:=Value.tuple (hd (ρ d) :: cs.set p D7).toArray) (G:=C9 d s.th) r b5 h.cx (U0.refl _ _) (fun _ h=>h) (fun _ _ _=>rfl) (fun g b=>by
   obtain⟨l,v1,_,q2,q3⟩:=a1 g b;exact .inl (inB l v1 g q2 q3)) (by
   refine⟨cs,C.row,by rw[e9];unfold d0A;simp only[h2],C.ok,fun j' g' y=>?_,fun i' x' f' u2 j1 y g1 g2 g3 g4=>?_,C.one,fun l i2 v1 v2 j2 m e4 g e3 n=>?_⟩
   ·cases y;exact⟨k2.1,k3⟩
   ·exact C.rows i' x' f' u2 j1 y g1 g2 g3 Z9
   ·rw[b5,e9]at m e4;exact C.ap l i2 v1 v2 j2 (key l v1 g m e3).2 (key i2 v2 g e4 n).2 g e3 n) (fun r' i' f' h7=>i0K h7) (by intros;simp)
 have c:((X0 s (C9 d s.th)).at d (Th.B1 e F t xs (some (j,f)))).nid=s.nid:=(a0d _ s).1;have z:=S5.form hL;obtain⟨A0,c0,z⟩:=z;have U:=j0.r0N (x:=.lst e' u zs) (v:=ρ id) (fun g b _=>by
   rw[z]at b;have b:D1 (ρ id)=some g:=by rw[z];exact b
   refine⟨h.ow d r g (Bk.tl (mem_of_getElem? h8) b),fun j' J n=>?_⟩
   by_cases y:j'=d
   ·subst y;rw[I5]at n;obtain⟨l,v1,q1,q2,q3⟩:=a1 g n;exact C.ap l (p+1) v1 (ρ id) q1 q2 (by simpa using h8) g q3 b
   ·rw[G5 y]at n;rw[G8,if_neg (Ne.symm y),d0p]at J;split at J
    ·cases J
    ·exact h.dj d j' (Ne.symm y) r J g (Bk.tl (mem_of_getElem? h8) b) n) hL (fun _ _ _ e=>by cases e)
 rw[c]at U;refine⟨_,U,fun i hi=>?_,?_,((Ext.X0 s _).trans (Ext.at _ d _)).trans (Ext.new _ _),(a0d _ s).2.1,fun q hq I=>?_,?_,?_⟩
 ·rw[G5 O']
  by_cases y:i=d
  ·subst y;rw[I5];exact b5
  ·rw[G5 y]
 ·refine VS.of rfl ?_;unfold VC;rw[I5];have c:((N7 s d).at d (Th.B1 e F t xs (some (j,f)))).nid=s.nid:=c;refine⟨by show s.nid<_+1;rw[c];omega,by rw[z];rfl,rfl⟩
 ·have c:((N7 s d).at d (Th.B1 e F t xs (some (j,f)))).nid=s.nid:=c;rw[k0c,if_neg (by rw[c];omega),G8]at I;split at I
  ·rename_i y;subst y;exact r
  ·unfold N7 at I;rw[d0p]at I;split at I
   ·cases I
   ·exact I
 ·refine⟨d,h0,r,h0Y (g0F (Ext.X0 s _)) ((Ext.X0 s _).trans (Ext.at _ d _)) (Ext.new _ _),fun q g c6 b=>?_⟩;have c:((N7 s d).at d (Th.B1 e F t xs (some (j,f)))).nid=s.nid:=c;have c6:q<s.nid+1:=by rw[<-c];exact c6
  by_cases e1:q=s.nid
  ·subst e1;rw[I5]at b;rw[z]at b;exact .inr (Bk.tl (mem_of_getElem? h8) (by rw[z];exact b))
  ·rw[G5 e1]at b
   by_cases y:q=d
   ·subst y;rw[I5]at b;obtain⟨l,v1,_,q2,q3⟩:=a1 g b;exact .inr (inB l v1 g q2 q3)
   ·rw[G5 y]at b;exact .inl ⟨O',b⟩
 ·have c:((N7 s d).at d (Th.B1 e F t xs (some (j,f)))).nid=s.nid:=c;show s.nid<=_+1;rw[c];omega
def b07 (n:Nat):Ty (List Value) where
 sz:=n
 R:=fun _ _ cs x=>cs=x/\x.length=n/\∀v∈x,v.oneCell'=true
 len:=by rintro _ _ _ _ ⟨rfl,h,_⟩;exact h
 one:=by rintro _ _ _ _ ⟨rfl,_,h⟩;exact h
 L1:=fun _ h=>h
def p07 {n:Nat}{H:K0}{S:D0}:∀(b:List (List Value)) (cs:List Value),U1 (b07 n) H S cs b->cs=b.flatten
 |[],cs,h=>by
  have:=h.1;simp at this;rw[this];rfl
 |z :: b,cs,h=>by
  have c:=h.2 0 z rfl;simp only[Nat.zero_mul,List.drop_zero]at c;obtain⟨h1,f,_⟩:=c;have h1:cs.take n=z:=h1;have hl:cs.length=(b.length+1)*n:=h.1;have d:=p07 (H:=H) (S:=S) b (cs.drop n) ⟨by show(cs.drop n).length=b.length*n;rw[length_drop,hl,succ_mul];omega,fun i x e=>by
   have:=h.2 (i+1) x e;show(((cs.drop n).drop (i*n)).take n)=x/\_;rw[drop_drop,show n+i*n=(i+1)*n from by rw[succ_mul];omega];exact this⟩
  rw[List.flatten_cons,<-d,<-h1,take_append_drop]
def l0X {n:Nat}{H:K0}{S:D0}:∀(m:Nat) (cs:List Value),cs.length=m*n->(∀v∈cs,v.oneCell'=true)->∃b:List (List Value),b.length=m/\b.flatten=cs/\U1 (b07 n) H S cs b
 |0,cs,h,_=>by
  have:cs=[]:=eq_nil_of_length_eq_zero (by simpa using h);subst this;exact⟨[],rfl,rfl,U1.nil⟩
 |m+1,cs,h,h1=>by
  rw[succ_mul]at h;obtain⟨b,d,e,f⟩:=l0X (n:=n) (H:=H) (S:=S) m (cs.drop n) (by rw[length_drop];omega) (fun v c=>h1 v (List.mem_of_mem_drop c));have g:(b07 n).R H S (cs.take n) (cs.take n):=⟨rfl,by rw[length_take];omega,fun v c=>h1 v (List.mem_of_mem_take c)⟩
  refine⟨cs.take n :: b,by simp[d],by rw[List.flatten_cons,e,take_append_drop],?_⟩;have:=(U1.one g).append f
  rwa [take_append_drop]at this
structure v8 (E:Env)(H:K0)(S:D0)(F:List Nat)(t:U)(xs:List (Den E.D t))(cs:List Value):Prop where
 len:cs.length=xs.length*F.length
 rows:∀(i:Nat) (x:Den E.D t) (f:Nat) (u:U) (ys:List (Den E.D u)) (e':Nat),xs[i]?=some x->V3 E t x f=some ⟨u,ys⟩->F[f]?=some e'->∃r,cs[rowAt F i f]?=some r/\S5 E H S e' u ys r
 one:∀u∈cs,u.oneCell'=true
def v8.app {H:K0}{F:List Nat}{t:U}{xs ys:List (Den E.D t)}{cs j:List Value}(h:v8 E H S F t xs cs)(k:v8 E H S F t ys j):v8 E H S F t (xs++ys) (cs++j):=by
 refine⟨by rw[length_append,length_append,h.len,k.len,Nat.add_mul],fun i x f u e e' h1 d g=>?_,fun u hu=>?_⟩
 ·rcases lt_or_ge i xs.length with hi|hi
  ·rw[List.getElem?_append_left hi]at h1;obtain⟨r,b,c⟩:=h.rows i x f u e e' h1 d g;exact⟨r,by rw[List.getElem?_append_left (List.getElem?_eq_some_iff.1 b).1];exact b,c⟩
  ·rw[List.getElem?_append_right hi]at h1;obtain⟨r,b,c⟩:=k.rows _ x f u e e' h1 d g;refine⟨r,?_,c⟩;have:rowAt F i f=cs.length+rowAt F (i-xs.length) f:=by
    unfold rowAt;rw[h.len];have:i*F.length=xs.length*F.length+(i-xs.length)*F.length:=by rw[<-Nat.add_mul];congr 1;omega
    omega
   rw[this,List.getElem?_append_right O',Nat.add_sub_cancel_left];exact b
 ·rcases mem_append.1 hu with h1|h1
  ·exact h.one u h1
  ·exact k.one u h1
def v8.mono {H c:K0}{S1:D0}{F:List Nat}{t:U}{xs:List (Den E.D t)}{cs:List Value}(kp:U0 H S c S1)(g:∀u∈cs,∀b,D1 u=some b->c[b]?=H[b]?)(h:v8 E H S F t xs cs):v8 E c S1 F t xs cs:=
 ⟨h.len,fun i x f u ys e' h1 e k=>by
  obtain⟨r,d,j⟩:=h.rows i x f u ys e' h1 e k;exact⟨r,d,j.mono kp (g r (mem_of_getElem? d))⟩,h.one⟩
def v8.live {H:K0}{F:List Nat}{t:U}{xs:List (Den E.D t)}{cs:List Value}(k:l9 E t F=true)(h:v8 E H S F t xs cs):∀u∈cs,∀b,D1 u=some b->b<H.size:=by
 intro u hu b g;obtain⟨p,hp⟩:=List.getElem?_of_mem hu;have c:p<xs.length*F.length:=by rw[<-h.len];exact(List.getElem?_eq_some_iff.1 hp).1
 have hn:0<F.length:=by
  rcases eq_zero_or_pos F.length with e|e
  ·rw[e]at c;omega
  ·exact e
 have hi:p / F.length<xs.length:=(Nat.div_lt_iff_lt_mul hn).2 c;have f:=Nat.mod_lt p hn;have d:p=rowAt F (p / F.length) (p % F.length):=by
  unfold rowAt;rw[mul_comm];exact(Nat.div_add_mod p F.length).symm
 obtain⟨w',ys,j⟩:=(d0v k).2 xs[p / F.length] _ f;obtain⟨r,h1,_,i,_⟩:=h.rows (p / F.length) _ (p % F.length) w' ys _ (List.getElem?_eq_getElem hi) j (List.getElem?_eq_getElem f);rw[<-d,hp]at h1;obtain rfl:=Option.some.inj h1;exact Row.live i b g
def v02 (h:Rp E A s ρ S a as w){e:Nat}{F:List Nat}{t:U}{x:V E.D}{m:Value}(p:VS E ρ s.nid w.heap S x m){g:Option Nat}{xs:List (Den E.D t)}(hd:h0C E s e F t x=some (g,xs)):
  ∃cs,Row w.heap e (J0 E t).sz m xs.length cs/\(l9 E t F=true->v8 E w.heap S F t xs cs)/\f0H (m :: cs)/\∀u∈m :: cs,∀k,D1 u=some k->∃j,g=some j/\j<s.nid/\P1 (E0 s j)=true/\Bk (ρ j) k:=by
 cases x with
 |nil=>
  simp only[h0C,Option.some.injEq,Prod.mk.injEq]at hd;obtain⟨rfl,rfl⟩:=hd;obtain rfl:=p.b0n;refine⟨[],⟨Z9,.inl ⟨rfl,none,rfl⟩⟩,fun _=>⟨Z9,fun i x f u ys e' h1=>by simp at h1,Z9⟩,fun i j v I _ z _ k hk=>?_,fun u hu k hk=>?_⟩
  ·have:=mem_of_getElem? z;simp at this;subst this;cases hk
  ·simp at hu;subst hu;cases hk
 |sl id=>
  simp only[h0C]at hd;split at hd<;>try cases hd
  rename_i e' J R q d;split at hd<;>try cases hd
  rename_i l o;rw[and_eq_true,beq_eq,beq_iff_eq]at l;obtain⟨rfl,rfl⟩:=l;obtain⟨r,o⟩:=L9 o;subst r;subst o;obtain⟨n,rfl⟩:=p.X9;have hl:=d0U d;have b:=h.th id;rw[hl]at b;obtain⟨cs,b⟩:=b;have c:Go.X.tl (ρ id)=cs:=b.tl;refine⟨cs,b.row,fun _=>⟨b.sz,fun i x f u ys e' h1 y C=>b.rows i x f u ys e' h1 y C Z9,b.one⟩,by rw[<-c];exact b.ap,fun u hu k hk=>⟨id,rfl,n,by rw[hl];rfl,?_⟩⟩;rcases mem_cons.1 hu with rfl|hu
  ·exact Bk.hd hk
  ·exact Bk.tl (by rw[c];exact hu) hk
 |_=>simp[h0C]at hd
def H8.of {H:K0}{e:Nat}{F:List Nat}{t:U}{xs:List (Den E.D t)}{v0:Value}{cs:List Value}(b:Row H e (J0 E t).sz v0 xs.length cs)(d:l9 E t F=true)(g:v8 E H S F t xs cs)(c:f0H (v0 :: cs)):H8 E H S e F t xs none (.tuple (v0 :: cs).toArray) cs:=
 ⟨b,rfl,d,(fun _ _ h=>by cases h),fun i x f u ys e' h1 j k _=>g.rows i x f u ys e' h1 j k,g.one,c⟩
def w0S (hE:Q1 E)(h:Rp E A s ρ S a as w){R:Type}{k:K E R}{r:R}{T U:Nat}{x:V E.D}{J:Value}(hx:VS E ρ s.nid w.heap S x J)(ty:Nat)(hk:n0r E s T x U k=some r):
  ∃s1 v u w1,k s1 v=some r/\z6 E A s ρ S a as w s1 v u w1/\(Builtin.append_ #[T,T] ty #[J,hd (ρ U)]).run E.P w=.ok u w1:=by
 unfold n0r at hk;split at hk<;>try cases hk
 rename_i e he;split at hk<;>try cases hk
 rename_i t z sz bytes e2 F I a1 ht q4 n1;split at hk<;>try cases hk
 rename_i ys g xs h5 b3 o0;split at hk<;>try cases hk
 rename_i q6;split at hk<;>try cases hk
 rename_i k0;simp only[and_eq_true,beq_eq]at h5;obtain⟨⟨h5,rfl⟩,c4⟩:=h5;obtain⟨ec,b3⟩:=L9 b3;subst ec;subst b3;obtain⟨rfl,h1,h2,h3⟩:=c09 h5;obtain⟨i,hi,p3,r1,p8⟩:=c0W q4;have hT:=c01 he;have l0:=d0U n1;have e4:P1 (E0 s U)=true:=by rw[l0];rfl
 have s0:=h.F7 (id:=U) (by rw[l0];simp);obtain⟨cs,k2,y,p0,b2⟩:=v02 h hx o0;have y:=y c4;have l:=h.th U;rw[l0]at l;obtain⟨ds,l⟩:=l;have h8:Go.X.tl (ρ U)=ds:=l.tl;have p5:(E.P.info? e).map (fun i=>(i.zero,i.size,i.bytes))=some (some z,(b07 (J0 E I).sz).sz,bytes):=by rw[hi];simp[p3,r1,p8,b07]
 have q7:(decide (z.cells.size=(b07 (J0 E I).sz).sz)&&decide (0<(b07 (J0 E I).sz).sz)&&decide (0<bytes))=true:=by simp[b07,h1,h2,h3]
 obtain⟨zx,k4,r6,p1⟩:=l0X (n:=(J0 E I).sz) (H:=w.heap) (S:=S) xs.length cs k2.1 y.one;obtain⟨zy,h6,p4,p7⟩:=l0X (n:=(J0 E I).sz) (H:=w.heap) (S:=S) a1.length ds l.row.1 l.one;obtain⟨A',c,n9⟩:=Row.form l.row;have c3:=l.row;rw[n9]at c3;have r3:V5 (b07 (J0 E I).sz) w.heap S A' zy:=by
  intro p q hq;have hp:p<a1.length:=by rw[<-h6];exact(List.getElem?_eq_some_iff.1 hq).1
  cases A' with
  |none=>
   rcases c3.2 with⟨h0,_⟩|⟨g,cap,cur,hv,_⟩
   ·omega
   ·cases hv
  |some ad=>
   obtain⟨b,o,fl⟩:=ad;have q8:fl=none:=by
    rcases c3.2 with⟨h0,_⟩|⟨g,cap,cur,hv,_⟩
    ·omega
    ·simp at hv;exact hv.1.2.2
   subst q8;obtain⟨_,_,_,hc⟩:=Row.cell c3 O';have hR:=p7.2 p q hq;refine⟨b,o,_,rfl,hR,fun j v hj=>?_⟩;have r2:j<(J0 E I).sz:=by
    rcases lt_or_ge j (J0 E I).sz with h|h
    ·exact h
    ·rw[List.getElem?_eq_none (by rw[length_take];show min (J0 E I).sz _<=j;omega)]at hj;cases hj
   have hj:((ds.drop (p*(J0 E I).sz)).take (J0 E I).sz)[j]?=some v:=hj;rw[List.getElem?_take_of_lt r2,List.getElem?_drop]at hj;have hle:p*(J0 E I).sz+(J0 E I).sz<=a1.length*(J0 E I).sz:=by rw[<-succ_mul];exact mul_le_mul_right _ hp
   show U2 w.heap b (o+p*(J0 E I).sz+j)=some v;rw[Nat.add_assoc,hc w.heap rfl _ O'];exact hj
 have k6:∀u∈J :: cs,∀k,D1 u=some k->S k:=fun u hu k hk=>by
  obtain⟨j,_,_,m,d⟩:=b2 u hu k hk;exact(h.ow j m k d).1
 have k5:I0 bytes zx zy=true:=by unfold I0 at k0 ⊢;rw[k4,h6];exact k0
 obtain⟨v',w1,k1,hg,k3,_,k8⟩:=j0H (T:=b07 (J0 E I).sz) (S:=S) (w:=w) (ty:=ty) (c:=c) E.P hT p5 q7 (by rw[k4];exact k2) p1 (fun k hk=>k6 J Z9 k hk) r3 k5;rw[h6]at k1;have c6:∀k,k<w.heap.size->D1 J≠some k->w1.heap[k]?=w.heap[k]?:=fun k hk hn=>hg.block k hk hn;have C:U0 w.heap S w1.heap (inX v' S):=⟨hg.size,fun b hb hn=>⟨fun hi=>by
   rcases hi with hi|hi
   ·rcases(k3 b hi).1 with e|e
    ·exact hn (k6 J Z9 b e)
    ·omega
   ·exact hn hi,c6 b hb (fun e=>hn (k6 J Z9 b e))⟩⟩
 have o1:∀k,D1 v'=some k->k<w1.heap.size:=fun k hk=>(k3 k hk).2;obtain⟨s3,b1,l1⟩:=k8 _ C;have e1:=p07 _ _ l1;rw[List.flatten_append,r6,p4]at e1;subst e1;rw[length_append,k4,h6,<-length_append]at b1;have l2:∀k,D1 v'=some k->D1 J=some k\/w.heap.size<=k:=fun k hk=>(k3 k hk).1;have e3:∃A1 c1,v'=.slice A1 (xs++a1).length c1:=Row.form b1;obtain⟨A1,c1,e3⟩:=e3;have c5:∀u∈ds,∀k,D1 u=some k->Bk (ρ U) k:=fun u hu k hk=>Bk.tl (by rw[h8];exact hu) hk;have h7:∀u∈J :: cs,∀k,D1 u=some k->¬Bk (ρ U) k:=fun u hu k hk=>by
  obtain⟨j,hj,_,m,d⟩:=b2 u hu k hk;subst hj;refine h.dj j U ?_ m e4 k d
  rintro rfl
  simp at q6
 have c0:v8 E w.heap S F I a1 ds:=⟨l.sz,fun i x f u ys e' h1 h2 h3=>l.rows i x f u ys e' h1 h2 h3 Z9,l.one⟩
 have b4:=y.live c4;have b5:=c0.live c4;have l3:∀u∈cs,∀k,D1 u=some k->D1 J≠some k:=fun u hu k hk c8=>by
  obtain⟨p,hp⟩:=List.getElem?_of_mem hu;exact p0 0 (p+1) J u O' rfl (by simpa using hp) k c8 hk
 have h4:v8 E w1.heap (inX v' S) F I (xs++a1) (cs++ds):=
  (y.mono C fun u hu b hb=>c6 b (b4 u hu b hb) (l3 u hu b hb)).app (c0.mono C fun u hu b hb=>c6 b (b5 u hu b hb) (fun e=>h7 J Z9 b e (c5 u hu b hb)))
 have n0:f0H (v' :: (cs++ds)):=by
  have key:∀(i:Nat) (u:Value),(v' :: (cs++ds))[i]?=some u->∀k,D1 u=some k->(i=0/\u=v')\/(0<i/\i<=cs.length/\(J :: cs)[i]?=some u/\u∈cs)\/(cs.length<i/\(hd (ρ U) :: Go.X.tl (ρ U))[i-cs.length]?=some u/\u∈ds):=by
   intro i u hi k hk;cases i with
   |zero=>exact .inl ⟨rfl,(Option.some.inj hi).symm⟩
   |succ i=>
    simp only[List.getElem?_cons_succ]at hi;rcases lt_or_ge i cs.length with h9|h9
    ·rw[List.getElem?_append_left h9]at hi;exact .inr (.inl ⟨O',O',by simpa using hi,mem_of_getElem? hi⟩)
    ·rw[List.getElem?_append_right h9]at hi;exact .inr (.inr ⟨O',by rw[h8,show i+1-cs.length=(i-cs.length)+1 from O'];simpa using hi,mem_of_getElem? hi⟩)
  intro i j v1 v2 l4 hi hj k m d;have n2:∀u∈cs,D1 u=some k->D1 v'≠some k:=fun u hu hk c8=>by
   rcases l2 k c8 with h9|h9
   ·exact l3 u hu k hk h9
   ·have:=b4 u hu k hk;omega
  have o2:∀u∈ds,D1 u=some k->D1 v'≠some k:=fun u hu hk c8=>by
   rcases l2 k c8 with h9|h9
   ·exact h7 J Z9 k h9 (c5 u hu k hk)
   ·have:=b5 u hu k hk;omega
  rcases key i v1 hi k m with⟨i0,rfl⟩|⟨i0,i1,i2,i3⟩|⟨i0,i1,i2⟩
  ·rcases key j v2 hj k d with⟨j0,rfl⟩|⟨j0,j1,j2,j3⟩|⟨j0,j1,j2⟩
   ·omega
   ·exact n2 v2 j3 d m
   ·exact o2 v2 j2 d m
  ·rcases key j v2 hj k d with⟨j0,rfl⟩|⟨j0,j1,j2,j3⟩|⟨j0,j1,j2⟩
   ·exact n2 v1 i3 m d
   ·exact p0 i j v1 v2 l4 i2 j2 k m d
   ·exact h7 v1 (by simp[i3]) k m (c5 v2 j2 k d)
  ·rcases key j v2 hj k d with⟨j0,rfl⟩|⟨j0,j1,j2,j3⟩|⟨j0,j1,j2⟩
   ·exact o2 v1 i2 m d
   ·exact h7 v2 (by simp[j3]) k d (c5 v1 i2 k m)
   ·exact l.ap _ _ v1 v2 O' i1 j1 k m d
 have r0:Cx A.w0 A.W0 A.S0 w1 (inX v' S):=by
  have cx:=h.cx;refine⟨⟨hg.os.trans cx.bel.os,hg.tape.trans cx.bel.tape,hg.output.trans cx.bel.output,le_trans cx.bel.size hg.size,fun k hk hn=>(c6 k (by have:=cx.size;omega) (fun e=>?_)).trans (cx.bel.block k hk hn)⟩,fun b hb=>.inr (cx.sub b hb),fun b hb=>?_,cx.lt0⟩
  ·obtain⟨j,_,_,m,d⟩:=b2 J Z9 k e;rcases(h.ow j m k d).2.2 with h2|h2
   ·exact hn h2
   ·omega
  ·rcases hb with hb|hb
   ·exact o1 b hb
   ·exact Nat.lt_of_lt_of_le (cx.lt b hb) hg.size
 have hG:∃G:List Nat,(c0l s g).at U .gone=X0 s G/\U∈G/\∀j,g=some j->j∈G:=by
  cases g with
  |none=>exact⟨[U],rfl,Z9,fun j hj=>by cases hj⟩
  |some j=>exact⟨[j,U],rfl,Z9,fun j' hj=>by cases hj;simp⟩
 obtain⟨G,p2,q5,e5⟩:=hG;rw[p2]at hk;have r4:=h.take (x:=.B1 e F I (xs++a1) none) (v:=.tuple (v' :: (cs++ds)).toArray) (G:=G) r0 C (fun k hk=>.inr hk) (fun k hk hn=>c6 k hk fun e=>by
   obtain⟨j,q0,_,m,d⟩:=b2 J Z9 k e;exact hn j (e5 j q0) m d) (fun k hk _=>by
   rcases c0Y.1 hk with hk|⟨u,hu,hk⟩
   ·have hk:D1 v'=some k:=hk;refine⟨.inl hk,?_⟩;rcases l2 k hk with h9|h9
    ·obtain⟨j,q0,_,m,d⟩:=b2 J Z9 k h9;exact .inl ⟨j,e5 j q0,m,d⟩
    ·exact .inr O'
   ·have hu:u∈cs++ds:=hu;rcases mem_append.1 hu with hu|hu
    ·obtain⟨j,q0,_,m,d⟩:=b2 u (by simp[hu]) k hk;exact⟨.inr (h.ow j m k d).1,.inl ⟨j,e5 j q0,m,d⟩⟩
    ·exact⟨.inr (h.ow U e4 k (c5 u hu k hk)).1,.inl ⟨U,q5,e4,c5 u hu k hk⟩⟩) ⟨_,H8.of b1 c4 h4 n0⟩ (by intros;simp)
 refine⟨_,_,v',w1,hk,⟨⟨_,_,r4,?_,C⟩,(Ext.X0 s G).trans (Ext.new _ _),(a0d G s).2.1,fun e9=>?_⟩,by rw[n9];exact k1⟩
 ·refine VS.of rfl ?_;unfold VC;rw[I5];refine⟨?_,by show v'.oneCell'=true;rw[e3];rfl,rfl⟩;show s.nid<(X0 s G).nid+1;rw[(a0d G s).1];omega
 ·intro r5 p6;exact c6 e9 r5 fun e=>by
   obtain⟨j,q0,q3,m,d⟩:=b2 J Z9 e9 e;exact p6 j q3 m (x0T (e5 j q0)) d
def x0W {α:Type}{T:Ty α}{t ty e:TypeId}{bytes:Nat}{z:Value}{xs ys:List α}{A B:Option Addr}{c d:Nat}(P:Program)(ht:P.underlying t=some (.slice e))(hE:(P.info? e).map (fun i=>(i.zero,i.size,i.bytes))=some (some z,T.sz,bytes))(m:(decide (z.cells.size=T.sz)&&decide (0<T.sz)&&decide (0<bytes))=true)
  (r:Sl T w.heap S B d xs) (hd:d<=xs.length) (b3:V5 T w.heap S A ys) (q:I0 bytes xs ys=true) (c5:∀b,S b->b<w.heap.size):
  ∃w1 A1 c1,(Builtin.append_ #[t,t] ty #[.slice B xs.length d,.slice A ys.length c]).run P w=.ok (.slice A1 (xs++ys).length c1) w1/\Below w.heap.size w w1/\Sl T w1.heap S A1 c1 (xs++ys):=by
 obtain⟨i,hi,c3⟩:=Option.map_eq_some_iff.1 hE;simp only[Prod.mk.injEq]at c3;obtain⟨hz,b5,b4⟩:=c3;simp only[and_eq_true,decide_eq_true_eq]at m;simp only[I0,decide_eq_true_eq]at q;have e2:=r.1;have e4:d=xs.length:=O'
 have U:xs.length+ys.length<=maxLen:=by
  have:xs.length+ys.length<=(xs.length+ys.length)*bytes:=Nat.le_mul_of_pos_right _ m.2;simp only[maxLen];omega
 rcases eq_zero_or_pos ys.length with h0|hpos
 ·have h0:ys=[]:=eq_nil_of_length_eq_zero h0;subst h0;refine⟨w,B,d,?_,Below.refl _ w,by simpa using r⟩;rw[List.append_nil];cases A<;>cases B<;>simp[Builtin.append_,run_underlying ht,sizeOf,typeInfo,hi,Builtin.lenOf,Builtin.firstCells,loadCells,loadCellsFrom,e2,storeCells]
 ·obtain⟨b,off,_,hA,_⟩:=b3 0 ys[0] (by simp[hpos]);subst hA;have rd:∀{A:Option Addr} {xs:List α},V5 T w.heap S A xs->∃news,U1 T w.heap S news xs/\∀b o,A=some ⟨b,o,none⟩->∀j u,news[j]?=some u->U2 w.heap b (o+0*T.sz+j)=some u:=fun hr=>V5.news (w:=w) (k:=0) (fun i x hx=>by
   obtain⟨b,o,cs,h1,h2,n⟩:=hr i x hx;exact⟨b,o,cs,h1,h2,fun j v hj=>by rw[zero_add];exact n j v hj⟩)
  obtain⟨news,R,J⟩:=rd b3;obtain⟨f,C,I⟩:=rd r.rdb;have p:∀j u,news[j]?=some u->w.cell? ((⟨b,off,none⟩:Addr).add j)=some u:=by
   intro j u hj;rw[b0a];have:=J b off rfl j u hj;simpa using this
  have key:∃v' w1,(Builtin.append_ #[t,t] ty #[.slice B xs.length d,.slice (some ⟨b,off,none⟩) ys.length c]).run P w=.ok v' w1/\w1.ownsRow w.heap.size e T.sz v' (xs.length+ys.length) (f++news)/\Below w.heap.size w w1:=by
   cases B with
   |none=>
    have h4:xs=[]:=by
     cases xs with
     |nil=>rfl
     |cons y ys=>obtain⟨b,o,cs,h,_⟩:=r.rdb 0 y Z9;cases h
    subst h4;have c8:d=0:=e4;subst c8;have e1:f=[]:=eq_nil_of_length_eq_zero (by have:=C.1;simpa using this);subst e1;obtain⟨v',w',l,h2,n,_,_⟩:=run_append_own_at (P:=P) w w.heap.size t ty e i z T.sz bytes ht hi hz b5 b4 m.1.1 m.1.2 (.slice none 0 0) 0 [] ⟨Z9,.inl ⟨rfl,rfl⟩⟩ ⟨b,off,none⟩ ys.length c news R.1 p R.f01 (by simpa using U) (by simpa using q) (le_refl _);exact⟨v',w',l,by simpa using h2,n.os,n.tape,n.output,n.size,fun k hk=>n.block k hk (by simp[Value.ownBlock])⟩
   |some ad=>
    obtain⟨v',w',l,h2,n⟩:=run_append_arg_grows (P:=P) w t ty e i z T.sz bytes ht hi hz b5 b4 m.1.1 m.1.2 ad xs.length d f C.1 (fun j u hj=>by
     have h5:j<f.length:=by
      rcases lt_or_ge j f.length with h|h
      ·exact h
      ·rw[List.getElem?_eq_none h]at hj;cases hj
     have e3:xs≠[]:=by rintro rfl;have:=C.1;simp only[List.length_nil,Nat.zero_mul]at this;omega
     obtain⟨b2,o2,a1,_⟩:=r.2.1 e3;have a1:=Option.some.inj a1;subst a1;rw[b0a];have:=I b2 o2 rfl j u hj;simpa using this) ⟨b,off,none⟩ ys.length c news R.1 p O' U q
    exact⟨v',w',l,h2,n.os,n.tape,n.output,n.size,fun k hk=>n.block k hk Z9⟩
  obtain⟨v',w1,l,c0,hb⟩:=key;have hk:U0 w.heap S w1.heap S:=U0.ext S hb;obtain⟨hl,hv|⟨g,cap,cur,hv,e9,hg,c6,hm,c4,b1⟩⟩:=c0
  ·exact absurd hv.2 O'
  ·have e5:Ow T e (fun k=>w.heap.size<=k) w1.heap (fun k=>k=g\/S k) (.slice (some ⟨g,0,none⟩) (xs++ys).length cap) (xs++ys):=by
    refine⟨fun k hk=>?_,f++news,⟨by simpa using hl,.inr ⟨g,cap,cur,rfl,hg,by simpa using c6,hm,c4,by simpa using b1⟩⟩,?_⟩
    ·simp[Value.ownBlock]at hk;subst hk;exact⟨.inl rfl,e9⟩
    ·have k2:U0 w.heap S w1.heap (fun k=>k=g\/S k):=⟨hk.size,fun b hb hn=>⟨fun hi=>hi.elim (fun e=>O') hn,(hk.blk b hb hn).2⟩⟩
     exact(C.L1 k2).append (R.L1 k2)
   refine⟨w1,some ⟨g,0,none⟩,cap,by rw[l,hv];simp,hb,e5.freeze (fun _ h=>.inr h) (fun b hb hs=>?_)⟩;simp[Value.ownBlock]at hb;subst hb;have:=c5 _ hs;omega
def E0r (hE:Q1 E)(h:Rp E A s ρ S a as w){R:Type}{k:K E R}{r:R}{T:Nat}{x y:V E.D}{ux uy:Value}(hx:VS E ρ s.nid w.heap S x ux)(hy:VS E ρ s.nid w.heap S y uy)(ty:Nat)(hk:n0i E s T x y k=some r):
  ∃s1 v u w1,k s1 v=some r/\z6 E A s ρ S a as w s1 v u w1/\(Builtin.append_ #[T,T] ty #[ux,uy]).run E.P w=.ok u w1:=by
 unfold n0i at hk;split at hk
 ·rename_i m n f;have q:x=.df m n:=by
   cases x<;>simp only[j0W]at f<;>try cases f
   rfl
  subst q;unfold t0t at hk;split at hk<;>try cases hk
  rename_i e he;split at hk<;>try cases hk
  rename_i t z sz bytes ht a1;split at hk<;>try cases hk
  rename_i ys xs b4 l J;split at hk<;>try cases hk
  rename_i d;obtain⟨ec,J⟩:=L9 J;subst ec;subst J;obtain⟨rfl,h1,h2,h3⟩:=c09 b4;obtain⟨i,hi,C,I,o⟩:=c0W a1;have hT:=c01 he;obtain⟨A',c,rfl,b1⟩:=h0j h hy l;obtain⟨c0,g,rfl⟩:=hx;unfold VC at g;obtain⟨B,rfl,U⟩:=g;have b2:(E.P.info? e).map (fun i=>(i.zero,i.size,i.bytes))=some (some z,(J0 E m).sz,bytes):=by rw[hi];simp[C,I,o]
  have b3:(decide (z.cells.size=(J0 E m).sz)&&decide (0<(J0 E m).sz)&&decide (0<bytes))=true:=by simp[h1,h2,h3]
  obtain⟨w1,A1,c1,j,p,b⟩:=x0W (c:=c) (ty:=ty) E.P hT b2 b3 U (le_refl _) b1 d h.cx.lt;refine⟨_,_,_,w1,hk,⟨⟨ρ,S,h.ext p,VS.of rfl (by unfold VC;exact⟨A1,c1,rfl,b⟩),U0.ext S p⟩,Ext.refl s,rfl,fun k hk _=>p.block k hk⟩,j⟩
 ·exact t0Z hE h hx hy ty hk
def v00 (g:Q1 E)(h:Rp E A s ρ S a as w){R:Type}{k:K E R}{r:R}{T:Nat}{x y:V E.D}{t o:Value}(l:VS E ρ s.nid w.heap S x t)(m:VS E ρ s.nid w.heap S y o)(ty:Nat)(hk:l0V E s T x y k=some r):
  ∃s1 v u w1,k s1 v=some r/\z6 E A s ρ S a as w s1 v u w1/\(Builtin.append_ #[T,T] ty #[t,o]).run E.P w=.ok u w1:=by
 unfold l0V at hk;split at hk
 ·rename_i r0 j f b;split at hk<;>try cases hk
  rename_i s1 ho;cases x<;>simp only[p05]at b<;>try cases b
  rename_i id;split at b<;>try cases b
  rename_i hl;obtain⟨_,rfl⟩:=l.X9;obtain⟨ρ1,h1,h2,h3,i,I,n,C,h7⟩:=B0i g h hl ho;obtain⟨s2,v,u,w1,q1,d,J⟩:=t0Z g h1 h3 (m.mono h2 h7 (U0.refl _ _)) ty hk;exact⟨s2,v,u,w1,q1,⟨d.rp,i.trans d.ext,d.fr.trans I,fun k hk p=>d.old k hk (fun q U e0 z e3=>by
   obtain⟨r',g1,g0,g2,g3⟩:=C;rcases g3 q k U e3 with⟨e,e5⟩|e
   ·exact p q e (n q e e0) (y0Z z i d.ext) e5
   ·exact p r' g1 g0 (h0Y g2 i d.ext) e)⟩,J⟩
 ·split at hk
  ·rename_i iy c;cases y<;>simp only[p0K]at c<;>try cases c
   split at c<;>try cases c
   obtain⟨_,rfl⟩:=m.X9;exact w0S g h l ty hk
  ·exact E0r g h l m ty hk
def k0d:Nat->List (Nat×Value)->Prop
 |_,[]=>True
 |j,p :: r=>p.1=j/\k0d (j+1) r
def u0p (z:Nat):∀(l:List (Nat×Value)) (j:Nat) (cells:Array Value) (d1 d2:List Value),cells.toList=d1++d2->d1.length=j*z->d2.length=l.length*z->k0d j l->(∀p∈l,p.2.cells.size=z)->
  ∃c',Instr.fill (fun i=>some (i*z,z)) cells l=some c'/\c'.toList=d1++l.flatMap (fun p=>p.2.cells.toList)
 |[],j,cells,d1,d2,h,_,h2,_,_=>by
  have:d2=[]:=eq_nil_of_length_eq_zero (by simpa using h2);subst this;exact⟨cells,rfl,by simpa using h⟩
 |(i,u) :: l,j,cells,d1,d2,h,h1,h2,d,hs=>by
  have g:i=j:=d.1;subst g;have d:k0d (i+1) l:=d.2;have hu:u.cells.size=z:=hs (i,u) Z9;have k:d2=d2.take z++d2.drop z:=(take_append_drop z d2).symm;simp only[List.length_cons,succ_mul]at h2;have n:u.cells.toList.length=z:=by simpa using hu
  generalize c:u.cells.toList=cl at n;have m:u.cells=cl.toArray:=by rw[<-c]
  have b:=l0U cl 0 (i*z) cells d1 (d2.take z) (d2.drop z) (by rw[<-k];exact h) O' (by rw[length_take];omega);have e:(u.cells.zipIdx.foldl (fun cs (p:Value×Nat)=>cs.setIfInBounds (i*z+p.2) p.1) cells).toList=(d1++cl)++d2.drop z:=by
   rw[append_assoc,<-b,m];simp[<-Array.foldl_toList]
  obtain⟨c',q,f⟩:=u0p z l (i+1) _ (d1++cl) (d2.drop z) e (by rw[length_append,h1,succ_mul];omega) (by rw[length_drop];omega) d (fun p hp=>hs p (by simp[hp]));refine⟨c',?_,by rw[f];simp[c]⟩;have o:cells.size=d1.length+d2.length:=by have:=congrArg List.length h;simpa using this
  simp only[Instr.fill];rw[if_neg]
  ·exact q
  ·rw[hu];simp;omega
def s0i (f:Operand->Value):∀(l:List (Nat×Operand)) (j:Nat),i0h j l=true->k0d j (l.map fun p=>(p.1,f p.2))
 |[],_,_=>trivial
 |(i,x) :: l,j,h=>by
  simp only[i0h,and_eq_true,beq_eq]at h;exact⟨h.1,s0i f l (j+1) h.2⟩
def u0h (k:Q1 E){s1:St E.D}{n:Nat}{H:K0}{S1:D0}(o:∀id,X3 E ρ n H S1 (E0 s1 id) (ρ id)){t:U}(f:Operand->V E.D)(g:Operand->Value)(r:∀x,∀c,VC E ρ n H S (f x) c->VC E ρ n H S1 (f x) c)(hg:∀x,VS E ρ n H S (f x) (g x)):
  ∀(l:List (Nat×Operand)) (xs:List (Den E.D t)),(l.all fun p=>c0k (f p.2))=true->h0L E s1 t (l.map fun p=>f p.2)=some xs->xs.length=l.length/\U1 (J0 E t) H S1 ((l.map fun p=>(p.1,g p.2)).flatMap (fun p=>p.2.cells.toList)) xs/\∀p∈(l.map fun p=>(p.1,g p.2)),∀u∈p.2.cells.toList,u.oneCell'=true
 |[],xs,_,h=>by
  simp[h0L]at h;subst h;exact⟨rfl,U1.nil,fun p hp=>by simp at hp⟩
 |p :: l,xs,hs,h=>by
  simp only[map_cons,h0L]at h;split at h<;>try cases h
  rename_i x i v m;simp only[List.all_cons,and_eq_true]at hs;obtain⟨h1,y,z⟩:=u0h k o f g r hg l i hs.2 m;obtain⟨c,C,b,d,j⟩:=(hg p.2).cells k hs.1;have hR:=h0c k o v (r _ _ j);refine⟨by simp[h1],?_,fun q e u hu=>?_⟩
  ·rw[map_cons,List.flatMap_cons];have:(g p.2).cells.toList=c:=by rw[b]
   simp only[this];exact(U1.one hR).append y
  ·rw[map_cons,mem_cons]at e;rcases e with rfl|e
   ·rw[b]at hu;exact d u hu
   ·exact z q e u hu
def D0N (hE:Q1 E)(h:Rp E A s ρ S a as w){R:Type}{k:K E R}{r:R}{T n:Nat}{parts:Array (Nat×Operand)}(hk:bsV E s T n parts.toList k=some r):
  ∃s1 v u w1,k s1 v=some r/\z6 E A s ρ S a as w s1 v u w1/\(Instr.buildSlice T n (parts.map fun p=>(p.1,a.eval p.2))).run E.P w=.ok u w1:=by
 unfold bsV at hk;split at hk<;>try cases hk
 rename_i e he;split at hk<;>try cases hk
 rename_i t z sz bytes ht e4;split at hk<;>try cases hk
 rename_i s1 I c0;split at hk<;>try cases hk
 rename_i xs e2;simp only[and_eq_true,beq_eq,Nat.ble_eq,all_eq_true]at I;obtain⟨⟨⟨⟨⟨e1,hn⟩,C⟩,c3⟩,y⟩,d⟩:=I;obtain⟨rfl,h1,h2,h3⟩:=c09 e1;obtain⟨i,hi,b4,j,h4⟩:=c0W e4;have hT:=c01 he;obtain⟨S1,b2,a1,o,c6,J⟩:=a0a hE _ s _ s1 c0 S h;have b3:=a1.th;rw[J]at b3;obtain⟨hl,l,e9⟩:=u0h hE b3 (T1 E s) a.eval (fun x c hc=>hc.c02 b2) h.val parts.toList xs (all_eq_true.2 fun p hp=>(d p hp).1) e2;have m:∀p∈parts.toList.map (fun p=>(p.1,a.eval p.2)),p.2.cells.size=(J0 E t).sz:=by
  intro p hp;obtain⟨q,hq,rfl⟩:=List.mem_map.1 hp;obtain⟨c,hc,c8,_,e5⟩:=(h.val q.2).cells hE (d q hq).1;have:=i0G hE e5 (d q hq).1;rw[(d q hq).2]at this;simp only;rw[c8];simpa using this
 have hm:n*i.size=n*(J0 E t).sz:=by rw[j]
 obtain⟨c',hf,f⟩:=u0p (J0 E t).sz (parts.toList.map fun p=>(p.1,a.eval p.2)) 0 ((Array.range (n*i.size)).map (z.cells[· % z.cells.size]!)) [] _ rfl Z9 (by
  rw[Array.length_toList,Array.size_map,Array.size_range,hm,List.length_map,hn]) (s0i a.eval _ 0 C) m
 simp only[nil_append]at f;have U:(Instr.buildSlice T n (parts.map fun p=>(p.1,a.eval p.2))).run E.P w=.ok (.slice (some ⟨w.heap.size,0,none⟩) n n) (w.alloc (.cells c' e)):=by
  have b1:¬n*i.size>2 ^ 24:=by
   rw[hm];have:n*(J0 E t).sz<=10000*1000:=Nat.mul_le_mul c3 y;omega
  by_cases h0:n*i.size=0
  ·have e3:n=0:=by
    rw[j]at h0;rcases Nat.mul_eq_zero.1 h0 with h|h
    ·exact h
    ·omega
   subst e3;have c5:parts=#[]:=by
    have:parts.toList=[]:=eq_nil_of_length_eq_zero hn.symm;simpa using this
   subst c5;have b5:c'=#[]:=by
    have:=congrArg List.length f;simpa using this
   subst b5;have e0:Array.range 0=#[]:=rfl;simp[Instr.buildSlice,run_underlying hT,sizeOf,typeInfo,hi,newRow,Instr.fill,e0]
  ·have:=run_buildSlice w T e n (parts.map fun p=>(p.1,a.eval p.2)) c' i z hT hi b4 b1 h0 (by rw[j,Array.toList_map];rw[<-j]at hf ⊢;exact hf);exact this
 have hB:=Below.new w (.cells c' e);have b:c'.toList.length=n*(J0 E t).sz:=by rw[f,l.1,hl,hn]
 have res:=a1.j0f (e:=e) (t:=t) (xs:=xs) (v:=.slice (some ⟨w.heap.size,0,none⟩) n n) hB (fun k hk=>by obtain⟨_,rfl⟩:=d0M hk;simp) rfl (fun S2 c4 _=>by
  have g:xs.length=n:=by rw[hl,hn]
  refine⟨c'.toList,Row.ofV ⟨by rw[g];exact b,.inr ⟨w.heap.size,n,c',by rw[g],heap_alloc_new w _,by rw[g];exact le_refl _,by simp only[maxLen];omega,by simpa using b,?_⟩⟩,?_⟩
  ·rw[g,List.take_of_length_le (by rw[b];exact le_refl _)]
  ·rw[f];exact l.L1 c4)
 obtain⟨⟨ρ1,S2,r1,r2,r3⟩,r4,r5,r6⟩:=res;exact⟨_,_,_,_,hk,⟨⟨ρ1,S2,r1,r2,(U0.less b2).trans r3⟩,o.trans r4,r5.trans c6,fun k hk _=>hB.block k hk⟩,U⟩
def t0s:∀(l:List U) (h:HL E.D l) (M0:List Value) {H:K0} {S:D0},b0v l=true->(a0r E l).R H S M0 h->∀f u (y:List (Den E.D u)),N5 l h f=some ⟨.list u,y⟩->∃A' c,M0[f]?=some (.slice A' y.length c)
 |[],_,_,_,_,_,_,f,_,_,hg=>by simp[N5]at hg
 |t :: l,h,M0,H,S,hb,hr,f,u,y,hg=>by
  simp only[b0v,and_eq_true]at hb;obtain⟨b,d⟩:=hb;cases t<;>simp only[g02,Bool.false_eq_true]at b
  rename_i e;obtain⟨c1,c2,rfl,⟨A',c,h1,_⟩,g⟩:=hr;subst h1;cases f with
  |zero=>
   have hg:(⟨.list e,h.1⟩:(t:U)×Den E.D t)=⟨.list u,y⟩:=Option.some.inj hg;cases hg;exact⟨A',c,rfl⟩
  |succ f=>
   obtain⟨i,k,j⟩:=t0s l h.2 c2 d g f u y hg;exact⟨i,k,by simpa using j⟩
def w03 (g:Q1 E){H:K0}{S:D0}{t:U}{F:List Nat}{x:Den E.D t}{M0:List Value}(e:l9 E t F=true)(d:(J0 E t).R H S M0 x){f:Nat}{u:U}{ys:List (Den E.D u)}(b:V3 E t x f=some ⟨u,ys⟩):∃A' c,M0[f]?=some (.slice A' ys.length c):=by
 simp only[l9,and_eq_true,beq_eq]at e;obtain⟨⟨_,_⟩,hk⟩:=e;cases t with
 |list u0=>
  obtain⟨A',c,h1,_⟩:=d;subst h1;cases f with
  |zero=>
   have b:(⟨u0,x⟩:(u:U)×List (Den E.D u))=⟨u,ys⟩:=Option.some.inj b;cases b;exact⟨A',c,rfl⟩
  |succ f=>exact absurd (show none=some _ from b) Z9
 |st k=>
  have b:c0v (N5 (E.fs k) (E.un k x) f)=some ⟨u,ys⟩:=b;cases hg:N5 (E.fs k) (E.un k x) f with
  |none=>rw[hg]at b;cases b
  |some p=>
   obtain⟨h,y⟩:=p;rw[hg]at b;cases h with
   |list u1=>
    have b:(⟨u1,y⟩:(u:U)×List (Den E.D u))=⟨u,ys⟩:=Option.some.inj b;cases b;exact t0s _ _ _ hk ((g.st k H S M0 x).1 d) f _ _ hg
   |_=>exact absurd (show none=some _ from b) Z9
 |_=>simp at hk
def v8.B09 (r:Q1 E){H:K0}{S:D0}{t:U}{F:List Nat}{z:List Value}{x:Den E.D t}(k:l9 E t F=true)(p:(J0 E t).R H S z x)(hn:∀v∈z,v=D7)(m:Nat):v8 E H S F t (List.replicate m x) (List.replicate m z).flatten:=by
 have d:=i05 p m;have h:=(d0v k).1;have b:∀v∈(List.replicate m z).flatten,v=D7:=by
  intro v e;obtain⟨l,hl,e⟩:=List.mem_flatten.1 e;rw[List.eq_of_mem_replicate hl]at e;exact hn v e
 refine⟨by rw[<-h];exact d.1,fun i x' f u ys e' h1 n q=>?_,fun v e=>by rw[b v e];rfl⟩;have hi:=(List.getElem?_eq_some_iff.1 h1).1;have y:f<F.length:=(List.getElem?_eq_some_iff.1 q).1;obtain⟨A',c,j⟩:=w03 r k (d.2 i x' h1) n;rw[h,List.getElem?_take_of_lt y,List.getElem?_drop]at j;have g:=b _ (mem_of_getElem? j);unfold D7 at g;simp only[Value.slice.injEq]at g;have o:ys=[]:=eq_nil_of_length_eq_zero g.2.1;subst o;refine⟨_,j,[],⟨Z9,.inl ⟨rfl,none,?_⟩⟩,U1.nil⟩;rw[g.1,g.2.2];rfl
def D0n {D:Nat->Type}{v:V D}(h:isNil v=true):v=.nil:=by
 cases v<;>simp[isNil]at h
 rfl
def r0b {n:Nat}{H:K0}:∀{l:List (V E.D)} {c:List Value},N0 E ρ n H S l c->l.all isNil=true->∀v∈c,v=D7
 |[],c,h,_,v,b=>by unfold N0 at h;subst h;cases b
 |x :: l,c,h,hl,v,b=>by
  unfold N0 at h;obtain⟨c1,c2,rfl,h1,d⟩:=h;rw[List.all_cons,and_eq_true]at hl;obtain rfl:=D0n hl.1;unfold VC at h1;subst h1;rcases mem_append.1 b with b|b
  ·simpa[D7]using b
  ·exact r0b d hl.2 v b
def x0N (hE:Q1 E)(h:Rp E A s ρ S a as w){R:Type}{k:K E R}{r:R}{T:Nat}{n m:Operand}(hk:m08 E s T n m k=some r):
  ∃s1 v u w1,k s1 v=some r/\z6 E A s ρ S a as w s1 v u w1/\(Instr.makeSlice T (a.eval n) (a.eval m)).run E.P w=.ok u w1:=by
 unfold m08 at hk;split at hk<;>try cases hk
 rename_i e k0 x he hx hop;have b3:n=m:=by
  unfold h05 at hop;split at hop
  ·rw[beq_eq]at hop;rw[hop]
  ·rw[of_decide_eq_true hop]
  ·cases hop
 subst b3;split at hk<;>try cases hk
 rename_i t z sz bytes F ht c3 hF;split at hk<;>try cases hk
 rename_i zx o hz;simp only[and_eq_true]at o;obtain⟨⟨o,y⟩,I⟩:=o;obtain⟨rfl,h1,h2,h3⟩:=c09 o;obtain⟨i,hi,a1,b5,b2⟩:=c0W c3;split at hk<;>try cases hk
 rename_i c;have hT:=c01 he;have c6:=r9 hx (h.val n);rw[c6];simp only[V2,and_eq_true,decide_eq_true_eq]at c;obtain⟨q,rfl⟩:=Int.eq_ofNat_of_zero_le c.1;have hq:q*bytes<=140737488355328:=by
  have h1:=c.2;have h2:((q*bytes:Nat):Int)<=140737488355328:=by rw[Int.natCast_mul];exact h1
  omega
 have c8:q<=q*bytes:=Nat.le_mul_of_pos_right _ h3;obtain⟨w1,U,b,hg⟩:=run_make_full (P:=E.P) w w.heap.size T e i z (J0 E t).sz hT hi a1 b5 k0 k0 q (by rw[b2,mul_comm];omega) (by simp only[maxLen];omega) (le_refl _);have hB:Below w.heap.size w w1:=⟨hg.os,hg.tape,hg.output,hg.size,fun k hk=>hg.block k hk Z9⟩
 have hm:=n0j z.cells q;rw[h1]at hm;rw[hm]at b;have b:=Row.of b;have c5:∀S1,(J0 E t).R w1.heap S1 z.cells.toList zx:=by
  intro S1;refine h0c (ρ:=ρ) (n:=0) hE (fun id=>?_) hz (r07 z);show X3 E ρ 0 w1.heap S1 .gone (ρ id)
  trivial
 have J:∀v∈z.cells.toList,v=D7:=r0b (ρ:=ρ) (S:=S) (n:=0) (H:=w.heap) (i0g z) I;have C:∀S1,v8 E w1.heap S1 F t (List.replicate q zx) (List.replicate q z.cells.toList).flatten:=fun S1=>v8.B09 hE y (c5 S1) J q;have d:Row w1.heap e (J0 E t).sz (.slice (some ⟨w.heap.size,0,none⟩) q q) (List.replicate q zx).length (List.replicate q z.cells.toList).flatten:=by simpa using b
 have p:∀v∈(List.replicate q z.cells.toList).flatten,v=D7:=by
  intro v f;obtain⟨l,hl,f⟩:=List.mem_flatten.1 f;rw[List.eq_of_mem_replicate hl]at f;exact J v f
 have c4:f0H (.slice (some ⟨w.heap.size,0,none⟩) q q :: (List.replicate q z.cells.toList).flatten):=by
  intro i j v v' e2 hi hj k hk c0;have key:∀(i:Nat) (v:Value),(Value.slice (some ⟨w.heap.size,0,none⟩) q q :: (List.replicate q z.cells.toList).flatten)[i]?=some v->D1 v=some k->i=0:=by
   intro i v hi hk;cases i with
   |zero=>rfl
   |succ i=>
    simp only[List.getElem?_cons_succ]at hi;rw[p v (mem_of_getElem? hi)]at hk;cases hk
  have:=key i v hi hk;have:=key j v' hj c0;omega
 obtain⟨S1,b4,b1⟩:=h.new (x:=.B1 e F t (List.replicate q zx) none) (v:=.tuple (.slice (some ⟨w.heap.size,0,none⟩) q q :: (List.replicate q z.cells.toList).flatten).toArray) (w1:=w1) hB (fun k hk=>by
   rcases c0Y.1 hk with hk|⟨u,hu,hk⟩
   ·have hk:D1 (.slice (some ⟨w.heap.size,0,none⟩) q q)=some k:=hk;obtain⟨e1,rfl⟩:=d0M hk;refine⟨le_refl _,?_⟩;rcases d.2 with⟨_,a,f⟩|⟨g,cap,cur,f,_,hgg,_⟩
    ·simp at f;omega
    ·simp at f;obtain⟨rfl,_⟩:=f;exact getElem?_lt hgg
   ·rw[p u hu]at hk;cases hk) (fun S1 _ _ _=>⟨_,H8.of d y (C S1) c4⟩)
 refine⟨_,_,_,w1,hk,⟨⟨_,S1,b1,?_,b4⟩,Ext.new s _,rfl,fun k hk _=>hB.block k hk⟩,U⟩;exact VS.of rfl (by unfold VC;rw[I5];exact⟨lt_succ_self _,rfl,rfl⟩)
def E00 (h:Rp E A s ρ S a as w){R:Type}{k:K E R}{r:R}{T n:Nat}{parts:Array (Nat×Operand)}(hk:bsT E s T n parts.toList k=some r):
  ∃s1 v u w1,k s1 v=some r/\z6 E A s ρ S a as w s1 v u w1/\(Instr.buildSlice T n (parts.map fun p=>(p.1,a.eval p.2))).run E.P w=.ok u w1:=by
 unfold bsT at hk;split at hk<;>try cases hk
 rename_i e x he c;have c:parts=#[(0,x)]:=by have:=congrArg List.toArray c;simpa using this
 subst c;split at hk<;>try cases hk
 rename_i u z sz bytes e' ht e3 hF;split at hk<;>try cases hk
 rename_i g ys t e1;rw[and_eq_true]at t;obtain⟨t,b5⟩:=t;obtain⟨rfl,h1,h2,h3⟩:=c09 t;obtain⟨i,hi,c3,a1,h4⟩:=c0W e3;have hT:=c01 he;obtain⟨b3,q,hg⟩:=s0O h (h.val x) e1;have l:(J0 E (.list u)).sz=1:=rfl;have b2:(Instr.buildSlice T 1 (#[(0,x)].map fun p=>(p.1,a.eval p.2))).run E.P w=.ok (.slice (some ⟨w.heap.size,0,none⟩) 1 1) (w.alloc (.cells #[a.eval x] e)):=by
  have h0:z.cells.size=1:=by rw[h1];rfl
  have:=run_buildSlice w T e 1 (#[(0,x)].map fun p=>(p.1,a.eval p.2)) #[a.eval x] i z hT hi c3 (by rw[a1,l];omega) (by rw[a1,l];omega) (by
   rw[a1,l];simp[Instr.fill,cells_one q,Array.range];exact Array.ext Z9 (by
                  intro i h1 h2;have:i=0:=by simp at h2;exact h2
                  subst this;simp))
  exact this
 have I:=Below.new w (.cells #[a.eval x] e);have d:U0 w.heap S (w.alloc (.cells #[a.eval x] e)).heap (fun k=>k=w.heap.size\/S k):=⟨I.size,fun b hb hn=>⟨fun hh=>hh.elim O' hn,I.block b hb⟩⟩
 have c8:=(h.cx.ext I).more (S1:=fun k=>k=w.heap.size\/S k) (fun _ h=>.inr h) (fun b hb=>hb.elim (fun e=>by subst e;simp) ((h.cx.ext I).lt b));have hblk:∀C,D1 (a.eval x)=some C->∃j,g=some j/\j<s.nid/\P1 (E0 s j)=true/\Bk (ρ j) C:=by
  intro C o;cases g with
  |none=>
   have hg:a.eval x=D7:=hg;rw[hg]at o;cases o
  |some j=>
   obtain⟨c5,u9,y9,b1⟩:=hg;exact⟨j,rfl,h.F7 (by rw[b1];simp),by rw[b1];rfl,Bk.hd (by rw[c5,(d0T q).1];exact o)⟩
 have m:∀C,D1 (a.eval x)=some C->C<w.heap.size:=fun C o=>by
  obtain⟨_,c6,_⟩:=b3;exact Row.live c6 C o
 have hG:∃G:List Nat,c0l s g=X0 s G/\∀j,g=some j->j∈G:=by
  cases g with
  |none=>exact⟨[],rfl,fun j hj=>by cases hj⟩
  |some j=>exact⟨[j],rfl,fun j' hj=>by cases hj;simp⟩
 obtain⟨G,c0,e9⟩:=hG;rw[c0]at hk;have b4:Row (w.alloc (.cells #[a.eval x] e)).heap e (J0 E (.list u)).sz (.slice (some ⟨w.heap.size,0,none⟩) 1 1) [ys].length [a.eval x]:=⟨rfl,.inr ⟨w.heap.size,1,#[a.eval x],rfl,Z9,heap_alloc_new w _,Z9,by simp[maxLen],rfl,rfl⟩⟩
 have J:v8 E (w.alloc (.cells #[a.eval x] e)).heap (fun k=>k=w.heap.size\/S k) [e'] (.list u) [ys] [a.eval x]:=by
  refine⟨rfl,fun i y f u' c4 e2 g1 g2 g3=>?_,by simpa using q⟩;cases i with
  |succ i=>cases g1
  |zero=>
   obtain rfl:ys=y:=Option.some.inj g1;cases f with
   |succ f=>cases g3
   |zero=>
    obtain rfl:e'=e2:=Option.some.inj g3;have g2:(⟨u,ys⟩:(u:U)×List (Den E.D u))=⟨u',c4⟩:=Option.some.inj g2;cases g2;exact⟨a.eval x,rfl,b3.mono d fun b hb=>I.block b (m b hb)⟩
 have e4:f0H (.slice (some ⟨w.heap.size,0,none⟩) 1 1 :: [a.eval x]):=by
  intro i j v v' h5 hi hj k q1 q2;have key:∀(i:Nat) (v:Value),(Value.slice (some ⟨w.heap.size,0,none⟩) 1 1 :: [a.eval x])[i]?=some v->D1 v=some k->(i=0/\k=w.heap.size)\/(i=1/\k<w.heap.size):=by
   intro i v hi hk;cases i with
   |zero=>simp at hi;subst hi;cases hk;exact .inl ⟨rfl,rfl⟩
   |succ i=>
    cases i with
    |zero=>simp at hi;subst hi;exact .inr ⟨rfl,m k hk⟩
    |succ i=>simp at hi
  have:=key i v hi q1;have:=key j v' hj q2;omega
 have e5:=h.take (x:=.B1 e [e'] (.list u) [ys] none) (v:=.tuple (.slice (some ⟨w.heap.size,0,none⟩) 1 1 :: [a.eval x]).toArray) (G:=G) c8 d (fun k hk=>.inr hk) (fun k hk _=>I.block k hk) (fun k hk _=>by
   rcases c0Y.1 hk with hk|⟨u',hu,hk⟩
   ·have hk:D1 (.slice (some ⟨w.heap.size,0,none⟩) 1 1)=some k:=hk;cases hk;exact⟨.inl rfl,.inr (le_refl _)⟩
   ·have hu:u'∈[a.eval x]:=hu;simp at hu;subst hu;obtain⟨j,q0,_,q1,q2⟩:=hblk k hk;exact⟨.inr (h.ow j q1 k q2).1,.inl ⟨j,e9 j q0,q1,q2⟩⟩) ⟨_,H8.of b4 b5 J e4⟩ (by intros;simp)
 refine⟨_,_,_,_,hk,⟨⟨_,_,e5,?_,d⟩,(Ext.X0 s G).trans (Ext.new _ _),(a0d G s).2.1,fun k hk _=>I.block k hk⟩,b2⟩;refine VS.of rfl ?_;unfold VC;rw[I5];refine⟨?_,rfl,rfl⟩;show s.nid<(X0 s G).nid+1;rw[(a0d G s).1];omega
def Rp.x0L (h:Rp E A s ρ S a as w){w1:World}{id:Nat}{x:Th E.D}(l:P1 (E0 s id)=true)(I:P1 x=false)(cx:Cx A.w0 A.W0 A.S0 w1 S)(m:∀k,k<w.heap.size->¬Bk (ρ id) k->w1.heap[k]?=w.heap[k]?)(y:w.heap.size<=w1.heap.size)
  (U:X3 E ρ s.nid w1.heap (fun k=>S k/\¬Bk (ρ id) k) x (ρ id)) (z:∀q i f,x≠.rof q i f:=by intros;simp):
  Rp E A (s.at id x) ρ (fun k=>S k/\¬Bk (ρ id) k) a as w1/\U0 w.heap S w1.heap (fun k=>S k/\¬Bk (ρ id) k):=by
 have b1:id<s.nid:=h.F7 (by rintro e;rw[e]at l;cases l);have hk:U0 w.heap S w1.heap (fun k=>S k/\¬Bk (ρ id) k):=⟨y,fun b u hn=>⟨fun h=>hn h.1,m b u (fun e=>hn (h.ow id l b e).1)⟩⟩
 have hl:∀j,E0 { s with th:=(id,x) :: s.th,nid:=s.nid } j=if id=j then x else E0 s j:=fun j=>G8 s id j x;have c:∀j,j≠id->j<s.nid->b0o s { s with th:=(id,x) :: s.th,nid:=s.nid } ρ ρ (fun k=>S k/\¬Bk (ρ id) k) w w1 j:=fun j hj n=>
  ⟨by rw[hl,if_neg (Ne.symm hj)],n,rfl,fun d k g=>⟨m k ((h.th j).live d k g) (fun v=>h.dj id j (Ne.symm hj) l d k v g),(h.ow j d k g).1,fun v=>h.dj id j (Ne.symm hj) l d k v g⟩⟩
 refine⟨h.step (nid1:=s.nid) (th1:=(id,x) :: s.th) ⟨⟨cx.bel,fun b m=>⟨cx.sub b m,fun e=>(h.ow id l b e).2.1 m⟩,fun b m=>cx.lt b m.1,cx.lt0⟩,hk,fun _ _=>rfl,le_refl _⟩ (fun j=>?_) fun r q i f o e F t xs C=>?_,hk⟩
 ·by_cases e:id=j
  ·subst e;refine .inr ⟨by rw[hl,if_pos rfl];exact U,fun R=>?_,fun R=>O'⟩;rw[hl,if_pos rfl,I]at R;cases R
  ·by_cases n:j<s.nid
   ·exact .inl (c j (fun h=>e h.symm) n)
   ·rw[hl,if_neg e,h.lt j O'];exact .inr ⟨trivial,(fun l=>by cases l),fun _=>rfl⟩
 ·rw[hl]at o;split at o
  ·exact absurd o (z q i f)
  ·rename_i a1;have J:=h.b0T o;rw[hl]at C;split at C
   ·rw[C]at I;cases I
   ·rename_i p;exact .inl ⟨c r (Ne.symm a1) (h.F7 (by rw[o];simp)),c q (Ne.symm p) J⟩
def B0d (h:Rp E A s ρ S a as w){R:Type}{k:K E R}{r:R}{T T':Nat}{x:V E.D}{ux:Value}(hx:VS E ρ s.nid w.heap S x ux)(hk:n0f E s T T' x k=some r):
  ∃s1 v u w1,k s1 v=some r/\z6 E A s ρ S a as w s1 v u w1/\(convert T T' ux).run E.P w=.ok u w1:=by
 unfold n0f at hk;split at hk<;>try cases hk
 rename_i id;split at hk<;>try cases hk
 rename_i e e' xs m hT hl;rw[beq_eq]at m;subst m;split at hk<;>try cases hk
 rename_i he;split at hk<;>try cases hk
 rename_i a1;have hl:=j0w hl;obtain⟨n,rfl⟩:=hx.X9;have q:=h.th id;rw[hl]at q;have q:S5 E w.heap S e' (.int .u8) xs (ρ id):=q;obtain⟨cs,⟨t,o⟩,l⟩:=q;rcases o with⟨h0,_⟩|⟨b,cap,cur,hfo,hp0,hg,hnc,hm,hcs,htake⟩
 ·have:xs=[]:=eq_nil_of_length_eq_zero h0;subst this;simp at a1
 ·have c:P1 (E0 s id)=true:=by rw[hl];rfl
  have g:Bk (ρ id) b:=by rw[hfo];exact e0I hp0
  have b1:∀k,Bk (ρ id) k->k=b:=fun k hk=>by rw[hfo]at hk;exact(d0M hk).2.symm
  obtain⟨hS,b2,hW⟩:=h.ow id c b g;have f:hd (ρ id)=ρ id:=by rw[hfo];rfl
  have z:w.shape? b=some (e',cur.size):=by unfold World.shape?;rw[hg]
  have p:(w.freeze ⟨b,cur.size,none⟩ 1).heap[b]?=some (.cells cur e' (cur.size,cur.size+1)):=by
   unfold World.freeze;rw[if_neg (by decide)];simp[Array.getElem?_modify,hg]
  have d:k7 b w (w.freeze ⟨b,cur.size,none⟩ 1):=by
   unfold World.freeze;rw[if_neg (by decide)];exact⟨rfl,rfl,rfl,Z9,fun k _ hk=>by simp[Array.getElem?_modify,Ne.symm hk]⟩
  have C:X3 E ρ s.nid (w.freeze ⟨b,cur.size,none⟩ 1).heap (fun k=>S k/\¬Bk (ρ id) k) (.fz (.int .u8) xs) (ρ id):=by
   obtain⟨A1,c1,h1,h2⟩:=i0P (S:=fun _=>False) ⟨t,.inr ⟨b,cap,cur,hfo,hp0,hg,hnc,hm,hcs,htake⟩⟩ (l.L1 (U0.less fun _ h=>h.elim)) (fun _ _ h=>h);rw[hfo]at h1;simp at h1;obtain⟨rfl,rfl⟩:=h1;refine⟨some ⟨b,0,none⟩,cap,by rw[f,hfo],hnc,fun _=>⟨b,0,rfl,getElem?_lt p,fun h=>h.2 g⟩,fun i y hy=>?_⟩;obtain⟨b',o',I,hA,hR,hc⟩:=h2.2.2 i y hy;simp at hA;obtain⟨rfl,rfl⟩:=hA;refine⟨b,0,I,rfl,hR,fun j v hj=>?_⟩;have:=hc j v hj;unfold U2 at this ⊢;rw[hg]at this;rw[p];exact this
  obtain⟨J,U⟩:=h.x0L (w1:=w.freeze ⟨b,cur.size,none⟩ 1) (x:=.fz (.int .u8) xs) c rfl (d.cx h.cx hW) (fun k hk hn=>d.block k hk (fun e=>hn (by rw[e];exact g))) d.size C;refine⟨_,_,ρ id,_,hk,⟨⟨ρ,_,J,VS.of rfl (by unfold VC;exact⟨n,by rw[f,hfo];rfl,by rw[f]⟩),U⟩,Ext.at s id _,rfl,fun k hk hq=>d.block k hk (fun e=>hq id n c (f0n s) (by rw[e];exact g))⟩,?_⟩;rw[f,hfo];simp[convert,run_underlying hT,run_underlying he,markStringish,z]
def y09 {α:Type}{T:Ty α}{S:D0}{t ty e ee:TypeId}{A B:Option Addr}{c d:Nat}{xs ys:List α}(P:Program)(ht:P.underlying t=some (.slice e))(hE:(P.info? e).map (·.size)=some 1)(q:T.sz=1)
  (n:Ow T ee (fun _=>True) w.heap S (.slice A xs.length c) xs) (R:V5 T w.heap S B ys):
  ∃w1,(Builtin.copy_ #[t,t] ty #[.slice A xs.length c,.slice B ys.length d]).run P w=.ok (.int .i64 ((Nat.min ys.length xs.length:Nat):Int)) w1/\(w1=w\/∃g,A=some ⟨g,0,none⟩/\k7 g w w1)/\Ow T ee (fun _=>True) w1.heap S (.slice A xs.length c) (G4 xs ys):=by
 by_cases r:Nat.min ys.length xs.length=0
 ·refine⟨w,by rw[run_copy_none w t t ty e A B xs.length c ys.length d ht hE r,r];rfl,.inl rfl,?_⟩;have:G4 xs ys=xs:=by
   rcases eq_zero_or_pos xs.length with l|l
   ·have:=eq_nil_of_length_eq_zero l;subst this;simp[G4]
   ·have a1:ys.length=0:=by
     rcases le_total ys.length xs.length with hle|hle
     ·rwa [show Nat.min ys.length xs.length=ys.length from min_eq_left hle]at r
     ·rw[show Nat.min ys.length xs.length=xs.length from Nat.min_eq_right hle]at r;omega
    have:=eq_nil_of_length_eq_zero a1;subst this;simp[G4]
  rw[this];exact n
 ·have b4:0<xs.length:=by
   rcases eq_zero_or_pos xs.length with l|l
   ·exact absurd (by rw[l];exact Nat.min_zero _) r
   ·exact l
  have hyp:0<ys.length:=by
   rcases eq_zero_or_pos ys.length with l|l
   ·exact absurd (by rw[l];exact Nat.zero_min _) r
   ·exact l
  obtain⟨b,off,_,hB,_⟩:=R 0 ys[0] (by simp[hyp]);subst hB;obtain⟨news,p,m⟩:=V5.news (w:=w) (xs:=ys) (k:=0) (A:=some ⟨b,off,none⟩) (T:=T) (S:=S) (fun i x hx=>by
   obtain⟨b,o,cs,h1,h2,h3⟩:=R i x hx;exact⟨b,o,cs,h1,h2,fun j v J=>by rw[zero_add];exact h3 j v J⟩)
  obtain⟨U,cs,⟨u,C⟩,z⟩:=n;rcases C with⟨I,l⟩|⟨g,cap,cur,I,hg,hnc,hm,hcs,htake⟩
  ·omega
  ·simp at I;obtain⟨rfl,rfl⟩:=I;rw[q,mul_one]at u hcs htake;have b2:news.length=ys.length:=by rw[p.1,q,mul_one]
   have f:(news.take xs.length).length=Nat.min ys.length xs.length:=by rw[length_take,b2];exact Nat.min_comm _ _
   have hr:=run_copy_row (P:=P) w t t ty e g 0 xs.length c ⟨b,off,none⟩ ys.length d cur ee (news.take xs.length) ht hE hg f (fun j v J=>by
    rw[b0a];have b3:news[j]?=some v:=by
     rcases lt_or_ge j xs.length with h|h
     ·rwa [List.getElem?_take_of_lt h]at J
     ·rw[List.getElem?_take_eq_none h]at J;cases J
    have:=m b off rfl j v b3;simpa using this) (by rw[f,hcs,zero_add];exact le_trans (Nat.min_le_right _ _) hnc) (fun v I=>p.f01 v (List.mem_of_mem_take I))
   simp only[take_zero,nil_append,zero_add]at hr;have b1:=U g (by simp[Value.ownBlock]);have y:k7 g w (w.setRow g (news.take xs.length++cur.toList.drop (news.take xs.length).length).toArray):=⟨rfl,rfl,rfl,by simp[World.setRow],fun k _ hk=>by simp[World.setRow,Array.getElem?_modify,Ne.symm hk]⟩
   have hk:=y.L1 b1.1;refine⟨_,by rw[hr,f];rfl,.inr ⟨g,rfl,y⟩,U,news.take xs.length++cs.drop ys.length,⟨?_,.inr ⟨g,c,(news.take xs.length++cur.toList.drop (news.take xs.length).length).toArray,by rw[b05],setRow_heap w g cur _ ee _ hg,by rw[b05];exact hnc,hm,?_,?_⟩⟩,?_⟩
   ·rw[b05,q,mul_one,length_append,f,length_drop,u];rcases le_total ys.length xs.length with hle|hle
    ·rw[show Nat.min ys.length xs.length=ys.length from min_eq_left hle];omega
    ·rw[show Nat.min ys.length xs.length=xs.length from Nat.min_eq_right hle];omega
   ·have h9:(news.take xs.length).length<=c:=by rw[f];exact le_trans (Nat.min_le_right _ _) hnc
    simp only[q,mul_one,List.size_toArray,length_append,length_drop,Array.length_toList,hcs];omega
   ·rw[b05,q,mul_one];show List.take xs.length (news.take xs.length++cur.toList.drop (news.take xs.length).length)=_;rw[List.take_append,List.take_take,Nat.min_self,<-htake];congr 1;rw[List.drop_take];rcases le_total ys.length xs.length with hle|hle
    ·have:(news.take xs.length).length=ys.length:=by rw[f];exact min_eq_left hle
     rw[this]
    ·have:(news.take xs.length).length=xs.length:=by rw[f];exact Nat.min_eq_right hle
     rw[this,Nat.sub_self,take_zero,Nat.sub_eq_zero_of_le hle,take_zero]
   ·have h1:=(p.L1 hk).cut xs.length;have h2:=(z.L1 hk).tail ys.length;rw[q,mul_one]at h1 h2;exact h1.append h2
def r0x {α:Type}{T:Ty α}{S:D0}{t ty e n:TypeId}{v:Value}{A B:Option Addr}{c d:Nat}{xs ys:List α}{cs:List Value}(P:Program)(q:P.underlying t=some (.slice e))(r:(P.info? e).map (·.size)=some 1)(u:T.sz=1)
  (b:v=.slice A xs.length c) (i:Row w.heap n T.sz v xs.length cs) (h:U1 T w.heap S cs xs) (y:∀k,D1 v=some k->S k) (o:V5 T w.heap S B ys):
  ∃w1,(Builtin.copy_ #[t,t] ty #[v,.slice B ys.length d]).run P w=.ok (.int .i64 ((Nat.min ys.length xs.length:Nat):Int)) w1/\(w1=w\/∃g,D1 v=some g/\k7 g w w1)/\∃f,Row w1.heap n T.sz v (G4 xs ys).length f/\U1 T w1.heap S f (G4 xs ys):=by
 rcases i.o0k with⟨I,j⟩|⟨h0,hc0,hnone,a0,hv⟩
 ·have m:Ow T n (fun _=>True) w.heap S (.slice A xs.length c) xs:=by
   rw[<-b];exact⟨fun k hk=>⟨y k (by rw[<-j];exact hk),trivial⟩,cs,I,h⟩
  obtain⟨w1,h1,C,_,f,J,z⟩:=y09 (d:=d) (ty:=ty) P q r u m o;refine⟨w1,by rw[b];exact h1,C.imp id (fun⟨g,l,x⟩=>⟨g,by rw[<-j,b,l];rfl,x⟩),f,by rw[b];exact Row.ofV J,z⟩
 ·have p:xs=[]:=eq_nil_of_length_eq_zero h0;subst p;rw[hv]at b;cases b;subst hv;have l:Nat.min ys.length ([]:List α).length=0:=by simp[Nat.min_def]
  refine⟨w,by rw[l];exact run_copy_none w t t ty e (some a0) B 0 0 ys.length d q r (by simpa using l),.inl rfl,[],⟨by simp[G4],.inl ⟨by simp[G4],_,rfl⟩⟩,by simpa[G4]using U1.nil⟩
def y0J (hE:Q1 E)(h:Rp E A s ρ S a as w){R:Type}{k:K E R}{r:R}{T ty:Nat}{x y:V E.D}{ux uy:Value}(hx:VS E ρ s.nid w.heap S x ux)(hy:VS E ρ s.nid w.heap S y uy)(hk:copyV E s T x y k=some r):
  ∃s1 v u w1,k s1 v=some r/\z6 E A s ρ S a as w s1 v u w1/\(Builtin.copy_ #[T,T] ty #[ux,uy]).run E.P w=.ok u w1:=by
 unfold copyV at hk;split at hk<;>try cases hk
 rename_i e id hT;split at hk<;>try cases hk
 rename_i U;have h3:(E.P.info? e).map (·.size)=some 1:=by
  unfold R5 at U;split at U
  ·rename_i i hi;rw[hi];simpa using U
  ·cases U
 obtain⟨e3,rfl⟩:=hx.X9;split at hk<;>try cases hk
 ·rename_i e' t xs hl;split at hk<;>try cases hk
  rename_i ys hz C;rw[beq_eq]at hz;obtain⟨A',c,rfl,c4⟩:=h0j h hy C;have ht:=h.th id;rw[hl]at ht;have ht:S5 E w.heap S e' t xs (ρ id):=ht;obtain⟨A0,c0,z⟩:=ht.form;have j0:hd (ρ id)=ρ id:=by rw[z];rfl
  have b:P1 (E0 s id)=true:=by rw[hl];rfl
  have h7:∀k,Bk (ρ id) k↔D1 (ρ id)=some k:=fun k=>by rw[z];exact Iff.rfl
  obtain⟨cs,o,e4⟩:=ht;obtain⟨w1,p,b5,b2,n,m⟩:=r0x (d:=c) (ty:=ty) (S:=S) E.P hT h3 hz z o e4 (fun k hk=>(h.ow id b k ((h7 k).2 hk)).1) c4;have a1:Cx A.w0 A.W0 A.S0 w1 S/\U0 w.heap S w1.heap S/\∀k,k<w.heap.size->¬Bk (ρ id) k->w1.heap[k]?=w.heap[k]?:=by
   rcases b5 with rfl|⟨g,hg1,ho⟩
   ·exact⟨h.cx,U0.refl _ _,fun _ _ _=>rfl⟩
   ·have hb:Bk (ρ id) g:=(h7 g).2 hg1;obtain⟨hS,_,hW⟩:=h.ow id b g hb;exact⟨ho.cx h.cx hW,ho.L1 hS,fun k hk hn=>ho.block k hk (fun e=>hn (by rw[e];exact hb))⟩
  obtain⟨c3,I,q⟩:=a1;refine⟨_,_,_,w1,hk,⟨⟨ρ,S,h.turn (x:=.lst e' t (G4 xs ys)) (v:=ρ id) e3 b c3 I (fun _ h=>h) q rfl (fun k hk=>(h.ow id b k hk).1) ⟨b2,n,m⟩,VS.dI,I⟩,Ext.at s id _,rfl,fun k hk J=>q k hk (J id e3 b (f0n s))⟩,?_⟩;rw[j0];exact p
 ·rename_i r0 j f hl;split at hk<;>try cases hk
  rename_i e0 F t0 h4 t xs e2 h0;split at hk<;>try cases hk
  rename_i ys hz C;split at hk<;>try cases hk
  rename_i x c6;rw[beq_eq]at hz;obtain⟨A',c,rfl,c4⟩:=h0j h hy C;have J:=d0U e2;obtain⟨u,i1,j1,o,hg,c5,e5⟩:=o0t hE c6;have l:=h0;unfold a09 at l;rw[J]at l;have l:V3 E t0 (U6 E t0 h4 j) f=some ⟨t,xs⟩:=l;rw[o]at l;obtain⟨rfl,e9⟩:=Sigma.mk.inj (Option.some.inj l);have e9:=eq_of_heq e9;subst e9;split at hg<;>try cases hg
  rename_i ws b1;obtain⟨ec,b1⟩:=L9 b1;obtain rfl:ys=ws:=b1;obtain⟨_,e1,_,hblk⟩:=h.h0a hl h0;have h9:=h.rf id r0 j f hl e0 F t0 h4 J;obtain⟨cs,ht,k2,k3,h5,h8⟩:=h.l0m J h9;obtain⟨e',h2⟩:∃e',F[f]?=some e':=⟨_,List.getElem?_eq_getElem k3⟩
  obtain⟨j3,h6,hL⟩:=ht.rows j.toNat _ f u i1 e' (Y9 k2.1 k2.2) o h2 Z9;rw[h5]at h6;obtain rfl:=Option.some.inj h6;have b:P1 (E0 s r0)=true:=by rw[J];rfl
  have c8:=h.F7 (id:=r0) (by rw[J];simp);obtain⟨A0,c0,z⟩:=hL.form;obtain⟨j2,b4,b3⟩:=hL;obtain⟨w1,p,b5,b2,n,m⟩:=r0x (d:=c) (ty:=ty) (S:=S) E.P hT h3 hz z b4 b3 (fun k hk=>(h.ow r0 b k (Bk.tl (mem_of_getElem? h8) hk)).1) c4;have a1:Cx A.w0 A.W0 A.S0 w1 S/\U0 w.heap S w1.heap S/\∀k,k<w.heap.size->D1 (ρ id)≠some k->w1.heap[k]?=w.heap[k]?:=by
   rcases b5 with rfl|⟨g,hob,ho⟩
   ·exact⟨h.cx,U0.refl _ _,fun _ _ _=>rfl⟩
   ·obtain⟨hS,_,hW⟩:=h.ow r0 b g (Bk.tl (mem_of_getElem? h8) hob);exact⟨ho.cx h.cx hW,ho.L1 hS,fun k hk hn=>ho.block k hk (fun e=>hn (by rw[e];exact hob))⟩
  obtain⟨c3,I,q⟩:=a1;refine⟨_,_,_,w1,hk,⟨⟨ρ,S,h.s03 J h9 c5 e5 h2 q c3 I ⟨b2,n,m⟩,VS.dI,I⟩,Ext.at s r0 _,rfl,fun k hk J=>q k hk (fun e=>J r0 c8 b (f0n s) (Bk.tl (mem_of_getElem? h8) e))⟩,?_⟩;rw[e1];exact p
def B0Y (hE:Q1 E)(h:Rp E A s ρ S a as w){R:Type}{k:K E R}{r:R}{T:Nat}{f:U}{j:List (Den E.D f)}{y:V E.D}{ux uy:Value}(hx:VS E ρ s.nid w.heap S (.df f j) ux)(hy:VS E ρ s.nid w.heap S y uy)(ty:Nat)(hk:n0G E s T f j y k=some r):
  ∃s1 v u w1,k s1 v=some r/\z6 E A s ρ S a as w s1 v u w1/\(Builtin.append_ #[T,T] ty #[ux,uy]).run E.P w=.ok u w1:=by
 unfold n0G at hk;split at hk<;>try cases hk
 rename_i e he;split at hk<;>try cases hk
 rename_i t z sz bytes ht J;split at hk<;>try cases hk
 rename_i ys xs b4 m I;split at hk<;>try cases hk
 rename_i b;rw[and_eq_true,List.isEmpty_iff]at b;obtain⟨b1,b⟩:=b;obtain⟨ec,I⟩:=L9 I;subst ec;subst I;obtain⟨rfl,h1,h2,h3⟩:=c09 b4;obtain⟨i,hi,x,C,p⟩:=c0W J;have hT:=c01 he;obtain⟨A',c,rfl,a1⟩:=h0j h hy m;obtain⟨c0,n,rfl⟩:=hx;unfold VC at n;obtain⟨B,rfl,b5⟩:=n;subst b1;have b2:(E.P.info? e).map (fun i=>(i.zero,i.size,i.bytes))=some (some z,(J0 E f).sz,bytes):=by rw[hi];simp[x,C,p]
 have b3:(decide (z.cells.size=(J0 E f).sz)&&decide (0<(J0 E f).sz)&&decide (0<bytes))=true:=by simp[h1,h2,h3]
 obtain⟨v',w1,o,hg,q,⟨A1,c1,d⟩,g⟩:=j0H (S:=S) (w:=w) (ty:=ty) (v:=.slice B 0 0) (xs:=([]:List (Den E.D f))) (cs:=[]) (c:=c) E.P hT b2 b3 ⟨Z9,.inl ⟨rfl,B,rfl⟩⟩ U1.nil (fun k hk=>by cases B<;>cases hk) a1 b;have hB:Below w.heap.size w w1:=⟨hg.os,hg.tape,hg.output,hg.size,fun k hk=>hg.block k hk (by cases B<;>simp[D1])⟩
 subst d;refine⟨_,_,_,w1,hk,h.j0f hB (fun k hk=>?_) rfl fun S1 hk hs=>g S1 hk,o⟩;obtain⟨l,h6⟩:=q k hk;refine⟨?_,h6⟩;rcases l with l|l
 ·cases B<;>cases l
 ·exact l
def w0n (l:Q1 E)(h:Rp E A s ρ S a as w){R:Type}{k:K E R}{r:R}{b:Bool}{T:Nat}{x y:V E.D}{i g:Value}(f:VS E ρ s.nid w.heap S x i)(j:VS E ρ s.nid w.heap S y g)(ty:Nat)(hk:n0X E b s T x y k=some r):
  ∃s1 v u w1,k s1 v=some r/\z6 E A s ρ S a as w s1 v u w1/\(Builtin.append_ #[T,T] ty #[i,g]).run E.P w=.ok u w1:=by
 unfold n0X at hk;split at hk
 ·rename_i m d c;have e:x=.df m d:=by
   cases x<;>simp only[j0W]at c<;>try cases c
   rfl
  subst e;exact B0Y l h f j ty hk
 ·exact v00 l h f j ty hk
def x0F (j:Q1 E)(h:Rp E A s ρ S a as w){R:Type}{k:K E R}{r:R}{tb:List Nat}{o:Oper}(hk:evE E tb s o k=some r):
  ∃s1 v u w1,k s1 v=some r/\z6 E A s ρ S a as w s1 v u w1/\((execOp a.eval o).run E.P w=.ok (.value u) w1\/(u=undef/\(execOp a.eval o).run E.P w=.ok .skip w1)):=by
 unfold evE at hk;split at hk
 ·rename_i T e;obtain⟨s1,v,u,w1,h1,b,d⟩:=A0y h hk;exact⟨s1,v,u,w1,h1,b,.inl (by simp[execOp,e,d])⟩
 ·rename_i T x e;obtain⟨s1,v,u,w1,h1,b,d⟩:=C0m j h (h.val x) hk;exact⟨s1,v,u,w1,h1,b,.inl (by simp[execOp,e,d])⟩
 ·rename_i T p x e;obtain⟨s1,v,w1,h1,b,d⟩:=C0d j h (h.val p) (h.val x) hk;exact⟨s1,v,_,w1,h1,b,.inr ⟨rfl,by simp[execOp,e,d]⟩⟩
 ·rename_i T n parts e;split at hk
  ·obtain⟨s1,v,u,w1,h1,b,d⟩:=E00 h hk;exact⟨s1,v,u,w1,h1,b,.inl (by simp[execOp,e,d])⟩
  ·obtain⟨s1,v,u,w1,h1,b,d⟩:=D0N j h hk;exact⟨s1,v,u,w1,h1,b,.inl (by simp[execOp,e,d])⟩
 ·rename_i T n m e;split at hk
  ·obtain⟨s1,v,u,w1,h1,b,d⟩:=x0N j h hk;exact⟨s1,v,u,w1,h1,b,.inl (by simp[execOp,e,d])⟩
  ·obtain⟨s1,v,u,w1,h1,b,d⟩:=z0a j h hk;exact⟨s1,v,u,w1,h1,b,.inl (by simp[execOp,e,d])⟩
 ·rename_i c e;split at hk<;>try cases hk
  ·rename_i x y T z q t l;split at hk<;>try cases hk
   rename_i g;rw[beq_eq]at g;subst g;have f:c.args=#[x,y]:=by have:=congrArg List.toArray t;simpa using this
   have i:c.argTypes=#[T,T]:=by have:=congrArg List.toArray l;simpa using this
   obtain⟨s1,v,u,w1,h1,b,d⟩:=w0n j h (h.val x) (h.val y) o.type hk;exact⟨s1,v,u,w1,h1,b,.inl (by simp[execOp,e,resolve,q,f,i,invoke,builtin,d])⟩
  ·rename_i x y T z q t l;split at hk<;>try cases hk
   rename_i g;rw[beq_eq]at g;subst g;have f:c.args=#[x,y]:=by have:=congrArg List.toArray t;simpa using this
   have i:c.argTypes=#[T,T]:=by have:=congrArg List.toArray l;simpa using this
   obtain⟨s1,v,u,w1,h1,b,d⟩:=y0J (ty:=o.type) j h (h.val x) (h.val y) hk;exact⟨s1,v,u,w1,h1,b,.inl (by simp[execOp,e,resolve,q,f,i,invoke,builtin,d])⟩
 ·rename_i T z x e;obtain⟨s1,v,u,w1,h1,b,d⟩:=B0d h (h.val x) hk;exact⟨s1,v,u,w1,h1,b,.inl (by simp[execOp,e,d])⟩
 ·cases hk
end
end
