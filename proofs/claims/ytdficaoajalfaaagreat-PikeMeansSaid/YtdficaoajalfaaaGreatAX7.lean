/- Operations that make or change memory: sound. Its conditions: none. -/
import Derived.Test.YtdficaoajalfaaaGreatAX6
import Derived.Great.BuildSlice
open Nat (le_succ lt_succ_self le_refl le_trans succ_mul mul_le_mul_right min_eq_left beq_eq add_sub_cancel zero_add mul_comm eq_zero_or_pos lt_or_ge le_total mul_one)
open List (all_eq_true eq_nil_of_length_eq_zero length_append append_assoc length_take length_drop length_set nil_append drop_drop take_append_drop take_left' any_eq_true mem_cons mem_cons_of_mem mem_of_getElem? mem_append map_cons take_zero)
open Bool (and_eq_true)
set_option linter.all false
namespace Go.X
open Go.V Go.RowKit
section
variable {E:Env} {A:O4} {s:St E.D} {ρ:Nat->Value} {S:D0} {a:Act} {as:List Act} {w:World}
theorem d0T {v:Value} (h:v.oneCell'=true):hd v=v/\∀ k,Bk v k↔D1 v=some k:=by
 cases v<;>first | exact ⟨rfl,fun _=>Iff.rfl⟩ | (simp [Value.oneCell'] at h)
structure z6 (E:Env) (A:O4) (s:St E.D) (ρ:Nat->Value) (S:D0) (a:Act) (as:List Act) (w:World) (s1:St E.D) (v:V E.D) (u:Value) (w1:World):Prop where
 rp:∃ ρ1 S1,Rp E A s1 ρ1 S1 a as w1/\VS E ρ1 s1.nid w1.heap S1 v u/\U0 w.heap S w1.heap S1
 ext:Ext s s1
 fr:s1.fr=s.fr
 old:∀ k,k<w.heap.size->(∀ q,q<s.nid->P1 (E0 s q)=true->Z6 s s1 q=true->¬ Bk (ρ q) k)->w1.heap[k]?=w.heap[k]?
theorem f0n (s:St E.D) {id:Nat} {x:Th E.D}:Z6 s (s.at id x) id=true:=by
 unfold Z6 St.at;simp
theorem Rp.s0I (h:Rp E A s ρ S a as w) {l:List (V E.D)} {cs:List Value} (hl:N0 E ρ s.nid w.heap S l cs) (h1:∀ u∈cs,u.oneCell'=true) (T:Nat) :
  z6 E A s ρ S a as w (s.new (.box T l)) (.pb s.nid 0 []) (.pointer (some ⟨w.heap.size,0,none⟩)) (w.alloc (.cells cs.toArray T)):=by
 have hb:=Below.new w (.cells cs.toArray T);obtain ⟨S1,hk,hr⟩:=h.new (x:=.box T l) (v:=.pointer (some ⟨w.heap.size,0,none⟩)) (w1:=w.alloc (.cells cs.toArray T)) hb
  (fun k hk=>by simp [Bk,D1] at hk;subst hk;simp) (fun S1 hk hs hn=>⟨w.heap.size,cs,rfl,heap_alloc_new w _,hl.mono (fun i hi=>by rw [G5 (by omega)]) (le_succ _) hk,h1⟩)
 refine ⟨⟨_,S1,hr,?_,hk⟩,Ext.new s _,rfl,fun k hk _=>hb.block k hk⟩;have:=VS.pb (E:=E) (S:=S1) (H:=(w.alloc (.cells cs.toArray T)).heap) (ρ:=M6 ρ s.nid (.pointer (some ⟨w.heap.size,0,none⟩))) (n:=s.nid+1) (id:=s.nid) (off:=0) (p:=[]) (lt_succ_self _) trivial (by rw [I5];rfl);exact this
theorem A0y (h:Rp E A s ρ S a as w) {R:Type} {k:K E R} {r:R} {T:Nat} (hk:n0q E s T k=some r) :
  ∃ s1 v u w1,k s1 v=some r/\z6 E A s ρ S a as w s1 v u w1/\(Instr.alloc T true (.tuple #[])).run E.P w=.ok u w1:=by
 unfold n0q at hk;split at hk<;>try cases hk
 rename_i z hz;split at hk<;>try cases hk
 rename_i h1;unfold q0S at hz;split at hz<;>try cases hz
 rename_i i hi;refine ⟨_,_,_,_,hk,h.s0I (i0g z) (all_eq_true.1 h1) T,?_⟩;have:z.cells.toList.toArray=z.cells:=by simp
 rw [this];simp [Instr.alloc,zeroValue,typeInfo,hi,hz,newVar,newRow]
theorem C0m (hE:Q1 E) (h:Rp E A s ρ S a as w) {R:Type} {k:K E R} {r:R} {T:Nat} {v:V E.D} {uv:Value} (hv:VS E ρ s.nid w.heap S v uv) (hk:o0T E s T v k=some r) :
  ∃ s1 v u w1,k s1 v=some r/\z6 E A s ρ S a as w s1 v u w1/\(Instr.box T uv).run E.P w=.ok u w1:=by
 unfold o0T at hk;split at hk<;>try cases hk
 rename_i hs;obtain ⟨c,h1,h2,h3,_⟩:=hv.cells hE hs;refine ⟨_,_,_,_,hk,h.s0I h1 h3 T,?_⟩;simp [Instr.box,newVar,newRow,h2]
theorem u0w {P:Program} (b t:Nat):∀ (vs:List Value) (i off:Nat) (w:World) (d1 d2 d3:List Value),w.heap[b]?=some (.cells (d1++(d2++d3)).toArray t (0,0))->d1.length=off+i->d2.length=vs.length->(∀ v∈vs,v.oneCell'=true)->
  ∃ w1,(storeCells ⟨b,off,none⟩ vs i).run P w=.ok () w1/\k7 b w w1/\w1.heap.size=w.heap.size/\w1.heap[b]?=some (.cells (d1++(vs++d3)).toArray t (0,0))
 |
  [],i,off,w,d1,d2,d3,hb,_,h2,_=>by
  have:d2=[]:=eq_nil_of_length_eq_zero (by simpa using h2);subst this;exact ⟨w,by simp [storeCells],⟨rfl,rfl,rfl,le_refl _,fun _ _ _=>rfl⟩,rfl,hb⟩
 |v :: vs,i,off,w,d1,[],d3,hb,_,h2,_=>by simp at h2
 |
  v :: vs,i,off,w,d1,x :: d2,d3,hb,h1,h2,hone=>by
  have hc:w.cell? ⟨b,off+i,none⟩=some x:=by
   rw [h0f];unfold U2;rw [hb];rw [<-h1];simp
  have hf:w.frozen? ⟨b,off+i,none⟩=false:=by simp [World.frozen?,hb]
  have hst:=v0N (P:=P) (w:=w) (ad:=(⟨b,off,none⟩:Addr).add i) (j0K b off i) (hone v (by simp)) hc hf;have hset:=z0s (w:=w) (off:=off+i) (v:=v) hb;have e:(d1++(x :: d2++d3)).set (off+i) v=(d1++[v])++(d2++d3):=by rw [<-h1];simp
  rw [e] at hset;obtain ⟨w1,hr,ho,hs,hb1⟩:=u0w (P:=P) b t vs (i+1) off (w.setCell ⟨b,off+i,none⟩ v) (d1++[v]) d2 d3 hset (by simp;omega) (by simpa using h2) (fun u hu=>hone u (by simp [hu]));have oc:=k7.cell w b (off+i) v;refine ⟨w1,by simp [storeCells,hst,hr],⟨ho.os.trans oc.os,ho.tape.trans oc.tape,ho.output.trans oc.output,le_trans oc.size ho.size,fun k hk hn=>(ho.block k (Nat.lt_of_lt_of_le hk oc.size) hn).trans (oc.block k hk hn)⟩,hs.trans (by simp [World.setCell]),?_⟩;rw [hb1];simp
theorem l0j {T n b off t:Nat} (hsz:R5 E T=some n) {u:Value} {vs:List Value} (hu:u.cells=vs.toArray) (hl:vs.length=n) (h1:∀ v∈vs,v.oneCell'=true) {d1 d2 d3:List Value} {w:World} (hb:w.heap[b]?=some (.cells (d1++(d2++d3)).toArray t (0,0))) (hd1:d1.length=off) (hd2:d2.length=n) :
  ∃ w1,(Instr.storeAt T (.pointer (some ⟨b,off,none⟩)) u).run E.P w=.ok () w1/\k7 b w w1/\w1.heap[b]?=some (.cells (d1++(vs++d3)).toArray t (0,0)):=by
 obtain ⟨w1,hr,ho,_,hb1⟩:=u0w (P:=E.P) b t vs 0 off w d1 d2 d3 hb (by omega) (by omega) h1;refine ⟨w1,?_,ho,hb1⟩;have e1:u.cells.size=n:=by rw [hu];simpa using hl
 have e2:u.cells.toList=vs:=by rw [hu]
 simp [Instr.storeAt,Instr.sureAddr,storeVar,e1,e2,d0l hsz w,hr]
theorem VS.unit {n:Nat} {H:K0}:VS E ρ n H S (.tup []:V E.D) Go.undef:=VS.of rfl (by unfold VC;exact ⟨[],rfl,by unfold VT;rfl⟩)
theorem s0k {id T:Nat} {l:List (V E.D)} (h:g04 s id=some (T,l)):E0 s id=.box T l:=by
 unfold g04 at h;split at h
 ·rename_i hl;simp at h;obtain ⟨rfl,rfl⟩:=h;exact hl
 ·cases h
theorem j0w {id e:Nat} {t:U} {xs:List (Den E.D t)} (h:e0K E s id=some (e,⟨t,xs⟩)):E0 s id=.lst e t xs:=by
 unfold e0K at h;split at h
 ·rename_i hl;simp only [Option.some.injEq,Prod.mk.injEq,Sigma.mk.injEq] at h;obtain ⟨rfl,rfl,h⟩:=h;have h:=eq_of_heq h;subst h;exact hl
 ·cases h
theorem Rp.p0l (h:Rp E A s ρ S a as w) {id T:Nat} {l l':List (V E.D)} {cs':List Value} {b:Nat} {w1:World} (hl:E0 s id=.box T l) (hr:ρ id=.pointer (some ⟨b,0,none⟩)) (ho:k7 b w w1) (hb:w1.heap[b]?=some (.cells cs'.toArray T (0,0)))
  (hv:N0 E ρ s.nid w.heap S l' cs') (h1:∀ u∈cs',u.oneCell'=true):Rp E A (s.at id (.box T l')) ρ S a as w1/\U0 w.heap S w1.heap S:=by
 have hown:P1 (E0 s id)=true:=by rw [hl];rfl
 have hid:=h.F7 (id:=id) (by rw [hl];simp);obtain ⟨hS,h0,hW⟩:=h.ow id hown b (by rw [hr];rfl);have kp:=ho.L1 hS;refine ⟨h.turn hid hown (ho.cx h.cx hW) kp (fun _ h=>h) (fun k hk hn=>ho.block k hk (fun e=>hn (by rw [hr,e];rfl))) rfl (fun k hk=>(h.ow id hown k hk).1) ?_,kp⟩;exact ⟨b,cs',hr,hb,hv.mono (fun _ _=>rfl) (le_refl _) kp,h1⟩
section
variable {H:K0}
theorem t0w {f:(t:U)->Den E.D t->Option (Den E.D t)}:∀ (ts:List U) (h h':HL E.D ts) (j:Nat) (cs:List Value),a0I ts h j f=some h'->(a0r E ts).R H S cs h->
  ∃ c1 c2 c3,cs=c1++(c2++c3)/\c1.length=b0A E ts j/\∃ t x x',(J0 E t).R H S c2 x/\f t x=some x'/\∀ c,(J0 E t).R H S c x'->(a0r E ts).R H S (c1++(c++c3)) h'
 |[],_,_,_,_,h=>by intro;simp [a0I] at h
 |
  t :: ts,hh,h',0,cs,h=>by
  intro hr;simp only [a0I] at h;split at h<;>try cases h
  rename_i y hy;obtain ⟨c1,c2,rfl,h1,h2⟩:=hr;exact ⟨[],c1,c2,by simp,rfl,t,_,_,h1,hy,fun c hc=>⟨c,c2,by simp,hc,h2⟩⟩
 |
  t :: ts,hh,h',j+1,cs,h=>by
  intro hr;simp only [a0I] at h;split at h<;>try cases h
  rename_i hh' hy;obtain ⟨c1,c2,rfl,h1,h2⟩:=hr;obtain ⟨d1,d2,d3,rfl,hl,t',x,x',hx,hf,hk⟩:=t0w ts hh.2 hh' j c2 hy h2;refine ⟨c1++d1,d2,d3,by simp,by rw [length_append,(J0 E t).len h1,hl];rfl,t',x,x',hx,hf,fun c hc=>?_⟩;rw [append_assoc];exact ⟨c1,_,rfl,h1,hk c hc⟩
theorem t0j {α:Type} {T:Ty α} {xs:List α} {cs cn:List Value} {q:α} (hels:U1 T H S cs xs) {i:Nat} (hi:i<xs.length) (hnew:T.R H S cn q) :
  U1 T H S (cs.take (i*T.sz)++(cn++(cs.drop (i*T.sz)).drop T.sz)) (xs.set i q):=by
 have hcl:cs.length=xs.length*T.sz:=hels.1;have hnl:=T.len hnew;have hle:i*T.sz+T.sz<=xs.length*T.sz:=by rw [<-succ_mul];exact mul_le_mul_right _ hi
 have hL:(cs.take (i*T.sz)).length=i*T.sz:=by rw [length_take,hcl];omega
 refine ⟨?_,fun j v hj=>?_⟩
 ·simp only [length_append,length_drop,length_set,hcl,hL,hnl];omega
 ·rcases Nat.lt_trichotomy j i with hlt | heq | hgt
  ·rw [List.getElem?_set_ne (by omega)] at hj;have:=hels.2 j v hj;have hjz:j*T.sz+T.sz<=i*T.sz:=by rw [<-succ_mul];exact mul_le_mul_right _ hlt
   have e3:((cs.take (i*T.sz)++(cn++(cs.drop (i*T.sz)).drop T.sz)).drop (j*T.sz)).take T.sz=(cs.drop (j*T.sz)).take T.sz:=by
    rw [List.drop_append_of_le_length (by omega),List.take_append_of_le_length (by rw [length_drop,hL];omega),List.drop_take,List.take_take,min_eq_left (by omega)]
   rw [e3];exact this
  ·subst heq;rw [List.getElem?_set_self (by omega)] at hj;simp at hj;subst hj;have e3:((cs.take (j*T.sz)++(cn++(cs.drop (j*T.sz)).drop T.sz)).drop (j*T.sz)).take T.sz=cn:=by
    rw [List.drop_append_of_le_length (by omega),List.drop_of_length_le (by omega),nil_append,List.take_append_of_le_length (by omega),List.take_of_length_le (by omega)]
   rw [e3];exact hnew
  ·rw [List.getElem?_set_ne (by omega)] at hj;have:=hels.2 j v hj;have hjz:i*T.sz+T.sz<=j*T.sz:=by rw [<-succ_mul];exact mul_le_mul_right _ hgt
   have e3:((cs.take (i*T.sz)++(cn++(cs.drop (i*T.sz)).drop T.sz)).drop (j*T.sz))=cs.drop (j*T.sz):=by
    rw [<-append_assoc,List.drop_append,List.drop_of_length_le (by rw [length_append,hL,hnl];exact hjz),nil_append,length_append,hL,hnl,drop_drop,drop_drop];congr 1;omega
   rw [e3];exact this
theorem i0Y (hE:Q1 E) {u:U} {y:Den E.D u}:∀ (p:List P6) (t:U) (x x':Den E.D t) (cs:List Value),c0f E u y p t x=some x'->e8 p->(J0 E t).R H S cs x->
  ∃ c1 c2 c3,cs=c1++(c2++c3)/\c1.length=M4 p/\c2.length=X2 E u/\∀ c,(J0 E u).R H S c y->(J0 E t).R H S (c1++(c++c3)) x'
 |
  [],t,x,x',cs,h,_=>by
  intro hr;simp only [c0f] at h;obtain ⟨e,h⟩:=c0q h;subst e;subst h;exact ⟨[],cs,[],by simp,rfl,(J0 E u).len hr,fun c hc=>by simpa using hc⟩
 |
  .inl (j,o) :: p,t,x,x',cs,h,hp=>by
  intro hr;cases t<;>simp only [c0f] at h<;>try cases h
  rename_i i;split at h<;>try cases h
  rename_i ho;rw [beq_eq] at ho;split at h<;>try cases h
  rename_i hh hf;obtain ⟨c1,c2,c3,rfl,hl,t',z,z',hz,hfz,hk⟩:=t0w _ _ _ _ _ hf ((hE.st i H S cs x).1 hr);obtain ⟨d1,d2,d3,rfl,hl1,hl2,hk2⟩:=i0Y hE p t' z z' c2 hfz hp hz;refine ⟨c1++d1,d2,d3++c3,by simp,by rw [length_append,hl,ho,hl1];rfl,hl2,fun c hc=>?_⟩;refine (hE.st i H S _ _).2 ?_;rw [hE.unmk];have:=hk _ (hk2 c hc);simpa using this
 |
  .inr (i,z,m) :: p,t,x,x',cs,h,hp=>by
  intro hr;cases t<;>simp only [c0f] at h<;>try cases h
  rename_i m' t';split at h<;>try cases h
  rename_i hz;rw [and_eq_true,beq_eq,beq_eq] at hz;obtain ⟨hz,rfl⟩:=hz;split at h<;>try cases h
  rename_i q hq;obtain ⟨hi,hp⟩:=hp;obtain ⟨hlen,hels⟩:=hr;have hsz:(J0 E t').sz=z:=hz;have hget:=Y9 (E:=E) (t:=t') (xs:=x) hi.1 (by rw [hlen];exact hi.2);have hy:=hels.2 i.toNat _ hget;obtain ⟨d1,d2,d3,hd,hl1,hl2,hk2⟩:=i0Y hE p t' _ q _ hq hp hy;rw [hsz] at hd;have hcl:cs.length=m'*z:=by rw [hels.1,hlen,hsz]
  have hit:i.toNat<m':=by omega
  have hle:i.toNat*z+z<=m'*z:=by rw [<-succ_mul];exact mul_le_mul_right _ hit
  have e1:cs=cs.take (i.toNat*z)++((cs.drop (i.toNat*z)).take z++(cs.drop (i.toNat*z)).drop z):=by rw [take_append_drop,take_append_drop]
  refine ⟨cs.take (i.toNat*z)++d1,d2,d3++(cs.drop (i.toNat*z)).drop z,?_,?_,hl2,fun c hc=>?_⟩
  ·rw [hd] at e1
   conv=>lhs;rw [e1]
   simp
  ·rw [length_append,length_take,hl1,min_eq_left (by omega)];rfl
  ·have hnew:=hk2 c hc;have key:=t0j (T:=J0 E t') (xs:=x) (cs:=cs) (cn:=d1++(c++d3)) (q:=q) hels (i:=i.toNat) (by rw [hlen];exact hit) hnew;rw [hsz] at key;have hcs:cs.take (i.toNat*z)++d1++(c++(d3++(cs.drop (i.toNat*z)).drop z))=cs.take (i.toNat*z)++((d1++(c++d3))++(cs.drop (i.toNat*z)).drop z):=by simp
   rw [hcs];exact ⟨(length_set ..).trans hlen,key⟩
theorem g0j {s1:St E.D} {t:List (Nat×Th E.D)} (h1:s1.th=t++s.th) {p:Nat×Th E.D} (hp:p∈t):Z6 s s1 p.1=true:=by
 unfold Z6;rw [h1,length_append,add_sub_cancel,take_left']
 ·exact any_eq_true.2 ⟨p,hp,by simp⟩
 ·rfl
theorem g0F {s1:St E.D} (he:Ext s s1) {id:Nat} {x:Th E.D}:Z6 s (s1.at id x) id=true:=by
 obtain ⟨l,hl⟩:=he.th;exact g0j (t:=(id,x) :: l) (p:=(id,x)) (by simp [St.at,hl]) (by simp)
theorem h0Y {s1 s2:St E.D} {q:Nat} (h:Z6 s s1 q=true) (he:Ext s s1) (k:Ext s1 s2):Z6 s s2 q=true:=by
 obtain ⟨t,ht⟩:=he.th;obtain ⟨t',ht'⟩:=k.th;unfold Z6 at h;rw [ht,length_append,add_sub_cancel,take_left' rfl] at h;obtain ⟨p,hp,h2⟩:=any_eq_true.1 h;rw [beq_eq] at h2;subst h2;exact g0j (t:=t'++t) (by rw [ht',ht];simp) (List.mem_append_right _ hp)
theorem VC.c02 {n:Nat} {H:K0} {S1:D0} (hs:∀ k,S1 k->S k) {v:V E.D} {c:List Value} (h:VC E ρ n H S v c):VC E ρ n H S1 v c:=h.mono (fun _ _=>rfl) (le_refl _) (U0.less hs)
theorem N0.c02 {n:Nat} {H:K0} {S1:D0} (hs:∀ k,S1 k->S k) {v:List (V E.D)} {c:List Value} (h:N0 E ρ n H S v c):N0 E ρ n H S1 v c:=h.mono (fun _ _=>rfl) (le_refl _) (U0.less hs)
theorem VS.c02 {n:Nat} {H:K0} {S1:D0} (hs:∀ k,S1 k->S k) {v:V E.D} {u:Value} (h:VS E ρ n H S v u):VS E ρ n H S1 v u:=h.mono (fun _ _=>rfl) (le_refl _) (U0.less hs)
theorem m0F (hE:Q1 E) (h:Rp E A s ρ S a as w) {u:U} {v:V E.D} {s1:St E.D} {y:Den E.D u} (hr:rdD E s u v=some (s1,y)) :
  ∃ S1,(∀ k,S1 k->S k)/\Rp E A s1 ρ S1 a as w/\Ext s s1/\s1.fr=s.fr/\s1.nid=s.nid/\∀ c,VC E ρ s.nid w.heap S v c->(J0 E u).R w.heap S1 c y:=by
 unfold rdD at hr;split at hr<;>try cases hr
 rename_i s2 hf;split at hr<;>try cases hr
 rename_i x hx;obtain ⟨S1,h1,h2,h3,h4,h5⟩:=a0a hE _ s [v] s1 hf S h;refine ⟨S1,h1,h2,h3,h4,h5,fun c hc=>?_⟩;rw [<-h5] at hc;exact h0c hE h2.th hx (hc.c02 h1)
theorem w0q {n:Nat} {u:U} (h:Nat.beq (X2 E u) n=true):X2 E u=n:=by rwa [beq_eq] at h
theorem r0n {u:U} {v:V E.D} {s1:St E.D} {y:Den E.D u} (hr:rdD E s u v=some (s1,y)) {id:Nat} (ho:P1 (E0 s1 id)=true):P1 (E0 s id)=true:=by
 unfold rdD at hr;split at hr<;>try cases hr
 rename_i s2 hf;split at hr<;>try cases hr
 rw [a0R _ s _ s1 hf id ho];exact ho
theorem D0P {l r:List (V E.D)} {t:U} {x:Den E.D t} (h:i0p E l=some (⟨t,x⟩,r)):l=.d t x :: r:=by
 unfold i0p at h;split at h
 ·simp only [Option.some.injEq,Prod.mk.injEq,Sigma.mk.injEq] at h;obtain ⟨⟨rfl,h⟩,rfl⟩:=h;have h:=eq_of_heq h;subst h;rfl
 ·cases h
theorem z6.of {s1:St E.D} {v:V E.D} {u:Value} {w1:World} {S1 S2:D0} (hs:∀ k,S1 k->S k) (hr:Rp E A s1 ρ S2 a as w1) (hv:VS E ρ s1.nid w1.heap S2 v u) (hk:U0 w.heap S1 w1.heap S2) (he:Ext s s1) (hf:s1.fr=s.fr) (hm:∀ k,k<w.heap.size->(∀ q,q<s.nid->P1 (E0 s q)=true->Z6 s s1 q=true->¬ Bk (ρ q) k)->w1.heap[k]?=w.heap[k]?):z6 E A s ρ S a as w s1 v u w1:=
 ⟨⟨ρ,S2,hr,hv,(U0.less hs).trans hk⟩,he,hf,hm⟩
theorem u0O {e sz b o m cap N off n T:Nat} {cs d1 d2 d3 c:List Value} {w:World} {uv:Value} (hm0:0<m) (hrow:Row w.heap e sz (.slice (some ⟨b,o,none⟩) m cap) N cs) (hcs:cs=d1++(d2++d3)) (hd1:d1.length=off) (hd2:d2.length=n)
  (hsz:R5 E T=some n) (hcells:uv.cells=c.toArray) (hlen:c.length=n) (hone:∀ v∈c,v.oneCell'=true) :
  ∃ w1,(Instr.storeAt T (.pointer (some ⟨b,o+off,none⟩)) uv).run E.P w=.ok () w1/\k7 b w w1/\Row w1.heap e sz (.slice (some ⟨b,o,none⟩) m cap) N (d1++(c++d3)):=by
 obtain ⟨hcl,hrow⟩:=hrow;rcases hrow with ⟨_,_,hv2⟩ | ⟨g,cap',cur,hv2,hp0,hg,hnc,hmx,hcz,htk⟩
 ·simp at hv2;omega
 ·simp at hv2;obtain ⟨⟨e1,e2⟩,e3,e4⟩:=hv2;subst e1;subst e2;subst e3;subst e4;have ecur:cur.toList=cs++cur.toList.drop (m*sz):=by rw [<-htk,take_append_drop]
  have hbk2:w.heap[b]?=some (.cells (d1++(d2++(d3++cur.toList.drop (m*sz)))).toArray e (0,0)):=by
   rw [hg];have h5:cur.toList=d1++(d2++(d3++cur.toList.drop (m*sz))):=by
    refine ecur.trans ?_;generalize cur.toList.drop (m*sz)=q1;rw [hcs];simp
   rw [<-h5]
  obtain ⟨w1,hrun,ho,hb1⟩:=l0j hsz hcells hlen hone hbk2 hd1 hd2;have hl2:(d1++(c++d3)).length=m*sz:=by rw [<-hcl,hcs];simp;omega
  refine ⟨w1,by rw [zero_add];exact hrun,ho,hl2,.inr ⟨b,cap,_,rfl,hp0,hb1,hnc,hmx,?_,?_⟩⟩
  ·have e5:=congrArg List.length ecur;simp only [length_append,Array.length_toList,hcz,hcl] at e5;simp only [length_append] at hl2;simp only [List.size_toArray,length_append];omega
  ·rw [List.toList_toArray];have:d1++(c++(d3++cur.toList.drop (m*sz)))=(d1++(c++d3))++cur.toList.drop (m*sz):=by simp
   rw [this,List.take_append_of_le_length (by omega),List.take_of_length_le (by omega)]
theorem S5.store (hE:Q1 E) {e b o m cap n T:Nat} {t' u2:U} {xs:List (Den E.D t')} {q:List P6} {y:Den E.D u2} {x:Den E.D t'} {c:List Value} {w:World} {uv:Value} {i:Int} (hL:S5 E w.heap S e t' xs (.slice (some ⟨b,o,none⟩) m cap)) (h0:0<=i) (hm:i<m)
  (hset:c0f E u2 y q t' (U6 E t' xs i)=some x) (hok:e8 q) (hy:(J0 E u2).R w.heap S c y) (hzu:X2 E u2=n) (hsz:R5 E T=some n) (hcells:uv.cells=c.toArray) (hlen:c.length=n) (hone:∀ v∈c,v.oneCell'=true) (hS:S b) :
  ∃ w1,(Instr.storeAt T (.pointer (some ⟨b,o+i.toNat*X2 E t'+M4 q,none⟩)) uv).run E.P w=.ok () w1/\k7 b w w1/\U0 w.heap S w1.heap S/\S5 E w1.heap S e t' (xs.set i.toNat x) (.slice (some ⟨b,o,none⟩) m cap):=by
 obtain ⟨cs,hrow,hels⟩:=hL;obtain ⟨rfl,_,_⟩:=Row.cell hrow (by omega);have hi:i.toNat<xs.length:=by omega
 have hget:=Y9 (E:=E) (t:=t') (xs:=xs) h0 hm;obtain ⟨e1,e2,e3,hd1,hle,hle2,hnew⟩:=i0Y hE q t' _ x _ hset hok (hels.2 _ _ hget);have hcl:=hrow.1;have hleq:i.toNat*(J0 E t').sz+(J0 E t').sz<=xs.length*(J0 E t').sz:=by rw [<-succ_mul];exact mul_le_mul_right _ hi
 have ecs:cs=(cs.take (i.toNat*(J0 E t').sz)++e1)++(e2++(e3++(cs.drop (i.toNat*(J0 E t').sz)).drop (J0 E t').sz)):=by
  have:cs=cs.take (i.toNat*(J0 E t').sz)++((e1++(e2++e3))++(cs.drop (i.toNat*(J0 E t').sz)).drop (J0 E t').sz):=by
   rw [<-hd1,take_append_drop,take_append_drop]
  conv=>lhs;rw [this]
  simp
 have hL:(cs.take (i.toNat*(J0 E t').sz)).length=i.toNat*(J0 E t').sz:=by rw [length_take,hcl];omega
 obtain ⟨w1,hrun,ho,hrow1⟩:=u0O (off:=i.toNat*X2 E t'+M4 q) (by omega) hrow ecs (by rw [length_append,hL,hle];rfl) (by rw [hle2,hzu]) hsz hcells hlen hone;have kp:=ho.L1 hS;have hels2:=t0j (i:=i.toNat) (hels.L1 kp) hi ((J0 E t').L1 kp (hnew c hy));refine ⟨w1,by rw [Nat.add_assoc];exact hrun,ho,kp,_,?_,hels2⟩;rw [length_set];have:cs.take (i.toNat*(J0 E t').sz)++e1++(c++(e3++(cs.drop (i.toNat*(J0 E t').sz)).drop (J0 E t').sz))=cs.take (i.toNat*(J0 E t').sz)++((e1++(c++e3))++(cs.drop (i.toNat*(J0 E t').sz)).drop (J0 E t').sz):=by simp
 rw [<-this];exact hrow1
theorem q0e:∀ {ts:List U} {h h':HL E.D ts} {j:Nat} {f:(t:U)->Den E.D t->Option (Den E.D t)},a0I ts h j f=some h'->∃ t y y',N5 ts h j=some ⟨t,y⟩/\f t y=some y'/\N5 ts h' j=some ⟨t,y'⟩/\∀ j',j'≠j->N5 ts h' j'=N5 ts h j'
 |[],_,_,_,_,hs=>by simp [a0I] at hs
 |
  t :: ts,hh,h',0,f,hs=>by
  simp only [a0I] at hs;split at hs<;>try cases hs
  rename_i y hy;refine ⟨t,hh.1,y,rfl,hy,rfl,fun j' hj=>?_⟩;cases j' with
  |zero=>exact absurd rfl hj
  |succ j'=>rfl
 |
  t :: ts,hh,h',j+1,f,hs=>by
  simp only [a0I] at hs;split at hs<;>try cases hs
  rename_i h2 hy;obtain ⟨t',y,y',k1,k2,k3,k4⟩:=q0e hy;refine ⟨t',y,y',k1,k2,k3,fun j' hj=>?_⟩;cases j' with
  |zero=>rfl
  |succ j'=>exact k4 j' (by omega)
theorem o0t (hE:Q1 E) {t:U} {x x':Den E.D t} {f:Nat} {g:(u:U)->List (Den E.D u)->Option (List (Den E.D u))} (h:setRow E t x f g=some x') :
  ∃ u ys ys',V3 E t x f=some ⟨u,ys⟩/\g u ys=some ys'/\V3 E t x' f=some ⟨u,ys'⟩/\∀ f',f'≠f->V3 E t x' f'=V3 E t x f':=by
 cases t with
 |
  list u=>
  have h:m0l g u x f=some x':=h;unfold m0l at h;split at h<;>try cases h
  refine ⟨u,x,x',rfl,h,rfl,fun f' hf=>?_⟩;cases f' with
  |zero=>exact absurd rfl hf
  |succ f'=>rfl
 |
  st k=>
  have h:m00 E k (a0I (E.fs k) (E.un k x) f (p0S g))=some x':=h;unfold m00 at h;split at h<;>try cases h
  rename_i hh hs;obtain ⟨t',y,y',k1,k2,k3,k4⟩:=q0e hs;cases t' with
  |
   list u=>
   have k2:g u y=some y':=k2;exact ⟨u,y,y',(show c0v (N5 (E.fs k) (E.un k x) f)=_ by rw [k1];rfl),k2,(show c0v (N5 (E.fs k) (E.un k (E.mkS k hh)) f)=_ by rw [hE.unmk,k3];rfl),fun f' hf=>(show c0v (N5 (E.fs k) (E.un k (E.mkS k hh)) f')=c0v (N5 (E.fs k) (E.un k x) f') by rw [hE.unmk,k4 f' hf])⟩
  |_=>exact absurd (show none=some y' from k2) (by simp)
 |_=>exact absurd (show none=some x' from h) (by simp)
theorem t04 {F:List Nat} {i f i' f':Nat} (hf:f<F.length) (hf':f'<F.length) (h:rowAt F i f=rowAt F i' f'):i=i'/\f=f':=by
 unfold rowAt at h;have hp:0<F.length:=by omega
 have a1:=congrArg (· / F.length) h;have a2:=congrArg (· % F.length) h;simp only [mul_comm _ F.length,Nat.mul_add_div hp,Nat.mul_add_mod,Nat.div_eq_of_lt hf,Nat.div_eq_of_lt hf',Nat.mod_eq_of_lt hf,Nat.mod_eq_of_lt hf'] at a1 a2;omega
theorem t0T {D:Nat->Type} {q r f:Nat} {i:Int}:∀ {l:List (Nat×Th D)},(r,Th.rof q i f)∈l->r∈C9 q l
 |[],h=>by cases h
 |
  (r',x) :: l,h=>by
  rcases mem_cons.1 h with h | h
  ·cases h;simp [C9]
  ·have ih:=t0T h;cases x with
   |
    rof q' i' f'=>
    simp only [C9];split
    ·exact mem_cons_of_mem _ ih
    ·exact ih
   |_=>exact ih
theorem r0Z {α:Type}:∀ {l:List (Nat×α)} {k:Nat} {v:α},Q4 l k=some v->(k,v)∈l
 |[],k,v,h=>by simp [Q4] at h
 |
  (j,x) :: l,k,v,h=>by
  rw [a0q] at h;split at h
  ·rename_i e;cases h;subst e;simp
  ·exact mem_cons_of_mem _ (r0Z h)
theorem i0K {D:Nat->Type} {s:St D} {r q f:Nat} {i:Int} (h:E0 s r=.rof q i f):r∈C9 q s.th:=by
 unfold E0 at h;split at h
 ·rename_i x hx;subst h;exact t0T (r0Z hx)
 ·cases h
theorem d0p {D:Nat->Type}:∀ (l:List Nat) (s:St D) (j:Nat),E0 (X0 s l) j=if j∈l then .gone else E0 s j
 |[],s,j=>by simp [X0]
 |
  i :: l,s,j=>by
  have ih:=d0p l (s.at i .gone) j;rw [show X0 s (i :: l)=X0 (s.at i .gone) l from rfl,ih];have:E0 (s.at i .gone) j=if i=j then .gone else E0 s j:=by
   unfold E0 St.at;simp only [a0q]
   by_cases h:i=j<;>simp [h]
  rw [this]
  by_cases h1:j∈l
  ·simp [h1]
  ·by_cases h2:i=j
   ·simp [h2]
   ·have:¬ j=i:=fun e=>h2 e.symm;simp [h1,h2,this]
theorem a0d {D:Nat->Type}:∀ (l:List Nat) (s:St D),(X0 s l).nid=s.nid/\(X0 s l).fr=s.fr/\(X0 s l).n=s.n/\(X0 s l).stk=s.stk/\∃ t,(X0 s l).th=t++s.th
 |[],s=>⟨rfl,rfl,rfl,rfl,[],rfl⟩
 |
  i :: l,s=>by
  obtain ⟨h1,h2,h3,h4,t,h5⟩:=a0d l (s.at i .gone);exact ⟨h1,h2,h3,h4,t++[(i,.gone)],by show (X0 (s.at i .gone) l).th=_;rw [h5];simp [St.at]⟩
theorem Ext.X0 {D:Nat->Type} (s:St D) (l:List Nat):Ext s (X0 s l):=by
 obtain ⟨h1,h2,h3,h4,t,h5⟩:=a0d l s;exact ⟨h3,⟨[],by rw [h2];rfl⟩,⟨t,h5⟩,h4,by rw [h1];exact le_refl _⟩
theorem Rp.s0n (h:Rp E A s ρ S a as w) {id:Nat} {x:Th E.D} {v:Value} {G:List Nat} {S1:D0} {w1:World} (hown:P1 (E0 s id)=true) (hhd:hd v=hd (ρ id)) (cx:Cx A.w0 A.W0 A.S0 w1 S1) (kp:U0 w.heap S w1.heap S1) (hs:∀ k,S k->S1 k)
  (hb:∀ k,k<w.heap.size->¬ Bk (ρ id) k->w1.heap[k]?=w.heap[k]?) (hB:∀ k,Bk v k->Bk (ρ id) k\/∃ r∈G,P1 (E0 s r)=true/\Bk (ρ r) k)
  (hx:X3 E (M6 ρ id v) s.nid w1.heap S1 x v) (hrf:∀ r i f,E0 s r=.rof id i f->r∈G) (hnr:∀ q i f,x≠.rof q i f):Rp E A ((X0 s G).at id x) (M6 ρ id v) S1 a as w1:=by
 obtain ⟨g1,g2,g3,g4,t,g5⟩:=a0d G s;have hid:=h.F7 (id:=id) (by rintro e;rw [e] at hown;cases hown);have e0:(X0 s G).at id x={ s with th:=(id,x) :: (t++s.th),nid:=s.nid }:=by
  unfold St.at;rw [g5];cases hh:X0 s G;rw [hh] at g1 g2 g3 g4;simp at g1 g2 g3 g4;simp [g1,g2,g3,g4]
 have hl:∀ j,E0 ((X0 s G).at id x) j=if id=j then x else if j∈G then .gone else E0 s j:=fun j=>by rw [G8,d0p]
 rw [e0] at hl ⊢;have hsame:∀ j,j≠id->j∉G->j<s.nid->b0o s { s with th:=(id,x) :: (t++s.th),nid:=s.nid } ρ (M6 ρ id v) S1 w w1 j:=fun j hj hg hlt=>
  ⟨by rw [hl,if_neg (Ne.symm hj),if_neg hg],hlt,G5 hj,fun hoj k hk=>⟨hb k ((h.th j).live hoj k hk) (fun e2=>h.dj id j (Ne.symm hj) hown hoj k e2 hk),hs k (h.ow j hoj k hk).1⟩⟩
 refine h.step (nid1:=s.nid) ⟨cx,kp,fun i _=>?_,le_refl _⟩ (fun j=>?_) fun r q i f hr e F t xs hq=>?_
 ·by_cases e:i=id
  ·subst e;rw [I5,hhd]
  ·rw [G5 e]
 ·by_cases e:id=j
  ·subst e;refine .inr ⟨by rw [hl,if_pos rfl,I5];exact hx,fun _ k hk=>?_,fun hle=>by omega⟩;rw [I5] at hk;have key:∃ p,P1 (E0 s p)=true/\Bk (ρ p) k/\(p=id\/p∈G):=by
    rcases hB k hk with h1 | ⟨r,h1,h2,h3⟩
    ·exact ⟨id,hown,h1,.inl rfl⟩
    ·exact ⟨r,h2,h3,.inr h1⟩
   obtain ⟨p,h1,h2,h3⟩:=key;have h4:=h.ow p h1 k h2;refine ⟨⟨hs k h4.1,h4.2⟩,fun j hj hoj hk2=>?_⟩;rw [hl,if_neg (fun e=>hj e.symm)] at hoj;split at hoj
   ·cases hoj
   ·rename_i hg;rw [G5 hj] at hk2;refine h.dj p j ?_ h1 hoj k h2 hk2
    rintro rfl
    rcases h3 with h3 | h3
    ·exact hj h3
    ·exact hg h3
  ·by_cases hlt:j<s.nid
   ·by_cases hg:j∈G
    ·rw [hl,if_neg e,if_pos hg];exact .inr ⟨trivial,(fun ho=>by cases ho),fun _=>rfl⟩
    ·exact .inl (hsame j (fun h=>e h.symm) hg hlt)
   ·rw [hl,if_neg e];have:(if j∈G then Th.gone else E0 s j)=.gone:=by
     split
     ·rfl
     ·exact h.lt j (by omega)
    rw [this];exact .inr ⟨trivial,(fun ho=>by cases ho),fun _=>rfl⟩
 ·rw [hl] at hr;split at hr
  ·exact absurd hr (hnr q i f)
  ·rename_i hne;split at hr
   ·cases hr
   ·rename_i hg;have hq2:=h.b0T hr;rw [hl] at hq;split at hq
    ·rename_i e2;subst e2;exact absurd (hrf r i f hr) hg
    ·rename_i hne2;split at hq
     ·cases hq
     ·rename_i hg2;exact .inl ⟨hsame r (Ne.symm hne) hg (h.F7 (by rw [hr];simp)),hsame q (Ne.symm hne2) hg2 hq2⟩
theorem Rp.take (h:Rp E A s ρ S a as w) {x:Th E.D} {v:Value} {G:List Nat} {S1:D0} {w1:World} (cx:Cx A.w0 A.W0 A.S0 w1 S1) (kp:U0 w.heap S w1.heap S1) (hs:∀ k,S k->S1 k)
  (hb:∀ k,k<w.heap.size->(∀ j∈G,P1 (E0 s j)=true->¬ Bk (ρ j) k)->w1.heap[k]?=w.heap[k]?) (hB:∀ k,Bk v k->P1 x=true->S1 k/\((∃ j∈G,P1 (E0 s j)=true/\Bk (ρ j) k)\/w.heap.size<=k))
  (hx:X3 E (M6 ρ s.nid v) (s.nid+1) w1.heap S1 x v) (hnr:∀ q i f,x≠.rof q i f):Rp E A ((X0 s G).new x) (M6 ρ s.nid v) S1 a as w1:=by
 obtain ⟨g1,g2,g3,g4,t,g5⟩:=a0d G s;have e0:(X0 s G).new x={ s with th:=(s.nid,x) :: (t++s.th),nid:=s.nid+1 }:=by
  unfold St.new;rw [g5,g1];cases hh:X0 s G;rw [hh] at g1 g2 g3 g4;simp at g1 g2 g3 g4;simp [g2,g3,g4]
 have hl:∀ j,E0 ((X0 s G).new x) j=if s.nid=j then x else if j∈G then .gone else E0 s j:=fun j=>by rw [k0c,d0p,g1]
 rw [e0] at hl ⊢;have hsame:∀ j,j∉G->j<s.nid->b0o s { s with th:=(s.nid,x) :: (t++s.th),nid:=s.nid+1 } ρ (M6 ρ s.nid v) S1 w w1 j:=fun j hg hlt=>
  ⟨by rw [hl,if_neg (by omega),if_neg hg],hlt,G5 (by omega),fun hoj k hk=>⟨hb k ((h.th j).live hoj k hk) (fun j' hj' ho' hk'=>h.dj j' j (fun e=>hg (e▸hj')) ho' hoj k hk' hk),hs k (h.ow j hoj k hk).1⟩⟩
 refine h.step (nid1:=s.nid+1) ⟨cx,kp,fun i hi=>by rw [G5 (by omega)],le_succ _⟩ (fun j=>?_) fun r q i f hr e F t xs hq=>?_
 ·by_cases e:s.nid=j
  ·subst e;refine .inr ⟨by rw [hl,if_pos rfl,I5];exact hx,fun ho k hk=>?_,fun hle=>by omega⟩;rw [hl,if_pos rfl] at ho;rw [I5] at hk;obtain ⟨k1,k2⟩:=hB k hk ho;refine ⟨⟨k1,?_⟩,fun j hj hoj hk2=>?_⟩
   ·rcases k2 with ⟨j,_,k3,k4⟩ | k2
    ·exact (h.ow j k3 k k4).2
    ·exact ⟨fun h0=>by have:=h.cx.lt0 k h0;have:=h.cx.size;omega,.inr (by have:=h.cx.size;omega)⟩
   ·rw [hl,if_neg (fun e=>hj e.symm)] at hoj;split at hoj
    ·cases hoj
    ·rename_i hg;rw [G5 hj] at hk2;rcases k2 with ⟨j',k3,k4,k5⟩ | k2
     ·exact h.dj j' j (fun e=>hg (e▸k3)) k4 hoj k k5 hk2
     ·have:=(h.th j).live hoj k hk2;omega
  ·by_cases hlt:j<s.nid
   ·by_cases hg:j∈G
    ·rw [hl,if_neg e,if_pos hg];exact .inr ⟨trivial,(fun ho=>by cases ho),fun _=>rfl⟩
    ·exact .inl (hsame j hg hlt)
   ·rw [hl,if_neg e];have:(if j∈G then Th.gone else E0 s j)=.gone:=by
     split
     ·rfl
     ·exact h.lt j (by omega)
    rw [this];exact .inr ⟨trivial,(fun ho=>by cases ho),fun _=>rfl⟩
 ·rw [hl] at hr;split at hr
  ·exact absurd hr (hnr q i f)
  ·split at hr
   ·cases hr
   ·rename_i hg;have hq2:=h.b0T hr;rw [hl,if_neg (by omega)] at hq;split at hq
    ·cases hq
    ·rename_i hg2;exact .inl ⟨hsame r hg (h.F7 (by rw [hr];simp)),hsame q hg2 hq2⟩
theorem y0Z {s1 s2:St E.D} {q:Nat} (h:Z6 s1 s2 q=true) (he:Ext s s1) (k:Ext s1 s2):Z6 s s2 q=true:=by
 obtain ⟨t,ht⟩:=he.th;obtain ⟨t',ht'⟩:=k.th;unfold Z6 at h;rw [ht',length_append,add_sub_cancel,take_left' rfl] at h;obtain ⟨p,hp,h2⟩:=any_eq_true.1 h;rw [beq_eq] at h2;subst h2;exact g0j (t:=t'++t) (by rw [ht',ht];simp) (List.mem_append_left _ hp)
theorem v0y {G:List Nat} {j:Nat} (hj:j∈G):∀ s:St E.D,Z6 s (X0 s G) j=true:=by
 induction G with
 |nil=>cases hj
 |
  cons i r ih=>
  intro s;rcases mem_cons.1 hj with rfl | h
  ·exact h0Y (s1:=s.at j .gone) (f0n s) (Ext.at s j _) (Ext.X0 _ r)
  ·obtain ⟨t,ht⟩:=(Ext.X0 (s.at i .gone) r).th;have h2:=ih h (s.at i .gone);unfold Z6 at h2;rw [ht,length_append,add_sub_cancel,take_left' rfl] at h2;obtain ⟨p,hp,h3⟩:=any_eq_true.1 h2;rw [beq_eq] at h3;subst h3;exact g0j (t:=t++[(i,.gone)]) (by show (X0 (s.at i .gone) r).th=_;rw [ht];simp [St.at]) (List.mem_append_left _ hp)
theorem x0T {G:List Nat} {j:Nat} {x:Th E.D} (hj:j∈G):Z6 s ((X0 s G).new x) j=true:=h0Y (v0y hj s) (Ext.X0 s G) (Ext.new _ _)
theorem Rp.r0N (h:Rp E A s ρ S a as w) {x:Th E.D} {v:Value} (hB:∀ k,Bk v k->P1 x=true->(S k/\¬ A.S0 k/\Wr A.W0 A.w0 k)/\∀ j,P1 (E0 s j)=true->¬ Bk (ρ j) k)
  (hx:X3 E (M6 ρ s.nid v) (s.nid+1) w.heap S x v) (hrf:∀ q i f,x=.rof q i f->q<s.nid/\∀ e F t xs,E0 s q=.B1 e F t xs none->b0W w.heap (hd (ρ q)) F.length i f v):Rp E A (s.new x) (M6 ρ s.nid v) S a as w:=by
 have hl:∀ j,E0 { s with th:=(s.nid,x) :: s.th,nid:=s.nid+1 } j=if s.nid=j then x else E0 s j:=fun j=>k0c s j x;have hsame:∀ j,j<s.nid->b0o s { s with th:=(s.nid,x) :: s.th,nid:=s.nid+1 } ρ (M6 ρ s.nid v) S w w j:=fun j hlt=>
  ⟨by rw [hl,if_neg (by omega)],hlt,G5 (by omega),fun hoj k hk=>⟨rfl,(h.ow j hoj k hk).1⟩⟩
 refine h.step (nid1:=s.nid+1) ⟨h.cx,U0.refl _ _,fun i hi=>by rw [G5 (by omega)],le_succ _⟩ (fun j=>?_) fun r q i f hr e F t xs hq=>?_
 ·by_cases e:s.nid=j
  ·subst e;refine .inr ⟨by rw [hl,if_pos rfl,I5];exact hx,fun ho k hk=>?_,fun hle=>by omega⟩;rw [hl,if_pos rfl] at ho;rw [I5] at hk;obtain ⟨k1,k2⟩:=hB k hk ho;refine ⟨k1,fun j hj hoj hk2=>?_⟩;rw [hl,if_neg (fun e=>hj e.symm)] at hoj;rw [G5 hj] at hk2;exact k2 j hoj hk2
  ·by_cases hlt:j<s.nid
   ·exact .inl (hsame j hlt)
   ·rw [hl,if_neg e,h.lt j (by omega)];exact .inr ⟨trivial,(fun ho=>by cases ho),fun _=>rfl⟩
 ·rw [hl] at hr;split at hr
  ·rename_i e2;subst e2;obtain ⟨h1,h2⟩:=hrf q i f hr;rw [hl,if_neg (by omega)] at hq;refine .inr ?_;rw [G5 (by omega),I5];exact h2 e F t xs hq
  ·have hq2:=h.b0T hr;rw [hl,if_neg (by omega)] at hq;exact .inl ⟨hsame r (h.F7 (by rw [hr];simp)),hsame q hq2⟩
theorem d0U {id e:Nat} {F:List Nat} {o:Option (Int×Nat)} {t:U} {xs:List (Den E.D t)} (h:c0p E s id=some (e,F,o,⟨t,xs⟩)):E0 s id=.B1 e F t xs o:=by
 unfold c0p at h;split at h
 ·rename_i hl;simp only [Option.some.injEq,Prod.mk.injEq,Sigma.mk.injEq] at h;obtain ⟨rfl,rfl,rfl,rfl,h⟩:=h;have h:=eq_of_heq h;subst h;exact hl
 ·cases h
theorem r0d:∀ {l:List U} {f:Nat},b0v l=true->f<l.length->b0A E l f=f
 |[],f,_,hf=>by simp at hf
 |t :: l,0,_,_=>rfl
 |
  t :: l,f+1,hb,hf=>by
  simp only [b0v,and_eq_true] at hb;obtain ⟨hb1,hb2⟩:=hb;cases t<;>simp only [g02,Bool.false_eq_true] at hb1
  simp only [b0A];rw [r0d hb2 (by simpa using hf)];exact Nat.add_comm 1 f
theorem s0v {D:Nat->Type}:∀ {l:List U} {h:HL D l} {f:Nat} {t:U} {y:Den D t},N5 l h f=some ⟨t,y⟩->k0i l f=some t/\f<l.length
 |[],_,f,_,_,h=>by simp [N5] at h
 |
  t :: l,h,0,_,_,hg=>by
  simp only [N5,Option.some.injEq,Sigma.mk.injEq] at hg;obtain ⟨rfl,_⟩:=hg;exact ⟨rfl,by simp⟩
 |
  t :: l,h,f+1,_,_,hg=>by
  obtain ⟨h1,h2⟩:=s0v (l:=l) hg;exact ⟨h1,by simpa using h2⟩
theorem z0e {t u w':U} {x:Den E.D t} {f:Nat} {ys:List (Den E.D w')} (h:o0z E t f=some u) (hr:V3 E t x f=some ⟨w',ys⟩):w'=u:=by
 cases t<;>simp only [o0z] at h<;>try cases h
 ·rename_i t;cases f<;>simp only at h<;>try cases h
  exact (congrArg Sigma.fst (Option.some.inj (show some _=some _ from hr))).symm
 ·rename_i k;split at h<;>try cases h
  rename_i hf;have hr:c0v (N5 (E.fs k) (E.un k x) f)=some ⟨w',ys⟩:=hr;cases hg:N5 (E.fs k) (E.un k x) f with
  |none=>rw [hg] at hr;cases hr
  |
   some p=>
   obtain ⟨t',y⟩:=p;rw [hg] at hr;have:=(s0v hg).1;rw [hf] at this;cases this;exact (congrArg Sigma.fst (Option.some.inj hr)).symm
theorem u0k {t:U} {F:List Nat} {q:List P6} {f:Nat} (ho:l9 E t F=true) (h:j0j E t q=some f) (hf:f<F.length):M4 q=f:=by
 simp only [l9,and_eq_true,beq_eq] at ho;obtain ⟨⟨_,h2⟩,h3⟩:=ho;unfold j0j at h;split at h<;>try cases h
 ·rfl
 ·rename_i k f' o;split at h<;>try cases h
  rename_i hb;rw [beq_eq] at hb;simp only [l0d] at h2;have:=r0d (E:=E) h3 (f:=f) (by omega);simp only [M4,Nat.add_zero];omega
theorem s0O (h:Rp E A s ρ S a as w) {e:Nat} {u:U} {v:V E.D} {uv:Value} (hv:VS E ρ s.nid w.heap S v uv) {g:Option Nat} {ys:List (Den E.D u)} (hr:e06 E s e u v=some (g,ys)) :
  S5 E w.heap S e u ys uv/\uv.oneCell'=true/\(match g with | none=>uv=D7 | some j=>ρ j=uv/\∃ u' ys',E0 s j=.lst e u' ys'):=by
 cases v with
 |
  nil=>
  simp only [e06,Option.some.injEq,Prod.mk.injEq] at hr;obtain ⟨rfl,rfl⟩:=hr;obtain rfl:=hv.b0n;exact ⟨⟨[],⟨by simp,.inl ⟨rfl,none,rfl⟩⟩,U1.nil⟩,rfl,rfl⟩
 |
  sl j=>
  simp only [e06] at hr;split at hr<;>try cases hr
  rename_i e' u' ys' hl;split at hr<;>try cases hr
  rename_i hee hc;rw [beq_eq] at hee;subst hee;obtain ⟨e2,hc⟩:=L9 hc;subst e2;subst hc;have hl:=j0w hl;have ht:=h.th j;rw [hl] at ht;obtain ⟨_,rfl⟩:=hv.X9;have ht:S5 E w.heap S e u' ys' (ρ j):=ht;obtain ⟨A',c',hfo⟩:=ht.form;have e1:hd (ρ j)=ρ j:=by rw [hfo];rfl
  rw [e1];exact ⟨ht,by rw [hfo];rfl,rfl,u',ys',hl⟩
 |_=>simp [e06] at hr
theorem Rp.l0m (h:Rp E A s ρ S a as w) {r0 e f:Nat} {j:Int} {F:List Nat} {t0:U} {xs:List (Den E.D t0)} {rv:Value} (hq:E0 s r0=.B1 e F t0 xs none) (hrf:b0W w.heap (hd (ρ r0)) F.length j f rv) :
  ∃ cs,H8 E w.heap S e F t0 xs none (ρ r0) cs/\(0<=j/\j<xs.length)/\f<F.length/\cs[rowAt F j.toNat f]?=some rv/\(Go.X.tl (ρ r0))[rowAt F j.toNat f]?=some rv:=by
 obtain ⟨b2,o2,m2,c2,k1,k2,k3,k4⟩:=hrf;have ht:=h.th r0;rw [hq] at ht;obtain ⟨cs,ht⟩:=ht;have hrw:=ht.row;rw [k1] at hrw;obtain ⟨rfl,_,_,hcell⟩:=Row.cell hrw (by omega);have hjt:j.toNat<xs.length:=by have:=k2.2;have:=k2.1;omega
 have hlt:rowAt F j.toNat f<xs.length*(J0 E t0).sz:=by
  rw [(d0v ht.ok).1];unfold rowAt;have:j.toNat*F.length+F.length<=xs.length*F.length:=by rw [<-succ_mul];exact mul_le_mul_right _ hjt
  omega
 have h6:=hcell w.heap rfl _ hlt;have k4:U2 w.heap b2 (o2+rowAt F j.toNat f)=some rv:=k4;rw [k4] at h6;have h8:=d0I (o:=none) k3 (by simp) h6.symm (by simp);rw [<-ht.tl] at h8;exact ⟨cs,ht,k2,k3,h6.symm,h8⟩
theorem Rp.s03 (h:Rp E A s ρ S a as w) {w1:World} {r0 e f e':Nat} {j:Int} {F:List Nat} {t0 u:U} {xs:List (Den E.D t0)} {x:Den E.D t0} {ys':List (Den E.D u)} {rv:Value} (hq:E0 s r0=.B1 e F t0 xs none) (hrf:b0W w.heap (hd (ρ r0)) F.length j f rv)
  (hrow':V3 E t0 x f=some ⟨u,ys'⟩) (hoth:∀ f',f'≠f->V3 E t0 x f'=V3 E t0 (U6 E t0 xs j) f') (he':F[f]?=some e') (hb:∀ k,k<w.heap.size->D1 rv≠some k->w1.heap[k]?=w.heap[k]?) (cx:Cx A.w0 A.W0 A.S0 w1 S) (kp:U0 w.heap S w1.heap S) (hL:S5 E w1.heap S e' u ys' rv) :
  Rp E A (s.at r0 (.B1 e F t0 (xs.set j.toNat x) none)) ρ S a as w1:=by
 obtain ⟨cs,ht,k2,k3,h5,h8⟩:=h.l0m hq hrf;have hown:P1 (E0 s r0)=true:=by rw [hq];rfl
 have hget:=Y9 (E:=E) (t:=t0) (xs:=xs) k2.1 k2.2;have hjt:j.toNat<xs.length:=by have:=k2.2;have:=k2.1;omega
 have hne:∀ (p:Nat) (r':Value),(Go.X.tl (ρ r0))[p]?=some r'->p≠rowAt F j.toNat f->∀ b,D1 r'=some b->D1 rv≠some b:=fun p r' hp hpn b hk2 hk3=>
  ht.ap (p+1) (rowAt F j.toNat f+1) r' rv (by omega) (by simpa using hp) (by simpa using h8) b hk2 hk3
 have hne0:∀ b',D1 (hd (ρ r0))=some b'->w1.heap[b']?=w.heap[b']?:=fun b' hb'=>hb b' (Row.live ht.row b' hb') (fun hk=>ht.ap 0 (rowAt F j.toNat f+1) (hd (ρ r0)) rv (by omega) rfl (by simpa using h8) b' hb' hk);refine h.turn (w1:=w1) (S1:=S) (id:=r0) (v:=ρ r0) (x:=.B1 e F t0 (xs.set j.toNat x) none) (h.F7 (by rw [hq];simp)) hown cx kp (fun _ h=>h) (fun k' hk' hn=>hb k' hk' (fun e=>hn (Bk.tl (mem_of_getElem? h8) e))) rfl (fun k hk=>(h.ow r0 hown k hk).1) ?_ (by intros;simp) ?_
 ·refine ⟨cs,by rw [length_set];exact Row.mono hne0 ht.row,ht.tl,ht.ok,ht.bd,fun i' x' f' u' ys2 e2 g1 g2 g3 g4=>?_,ht.one,ht.ap⟩;have hf':f'<F.length:=(List.getElem?_eq_some_iff.1 g3).1;have old:∀ x0,xs[i']?=some x0->V3 E t0 x0 f'=some ⟨u',ys2⟩->(i'≠j.toNat\/f'≠f)->∃ r',cs[rowAt F i' f']?=some r'/\S5 E w1.heap S e2 u' ys2 r':=by
   intro x0 q1 q2 q3;obtain ⟨r',p1,p2⟩:=ht.rows i' _ f' u' ys2 e2 q1 q2 g3 (by simp);have p8:=d0I (o:=none) hf' (by simp) p1 (by simp);rw [<-ht.tl] at p8;refine ⟨r',p1,p2.mono kp fun b' hb'=>hb b' (by obtain ⟨_,hrw2,_⟩:=p2;exact Row.live hrw2 b' hb') (hne _ r' p8 (fun e=>?_) b' hb')⟩;obtain ⟨e3,e4⟩:=t04 hf' k3 e;rcases q3 with q3 | q3
   ·exact q3 e3
   ·exact q3 e4
  by_cases hi:i'=j.toNat
  ·subst hi;rw [List.getElem?_set_self hjt] at g1;obtain rfl:=Option.some.inj g1
   by_cases hff:f'=f
   ·subst hff;rw [hrow'] at g2;obtain ⟨rfl,g2⟩:=Sigma.mk.inj (Option.some.inj g2);have g2:=eq_of_heq g2;subst g2;rw [he'] at g3;obtain rfl:=Option.some.inj g3;exact ⟨rv,h5,hL⟩
   ·rw [hoth f' hff] at g2;exact old _ hget g2 (.inr hff)
  ·rw [List.getElem?_set_ne (Ne.symm hi)] at g1;exact old _ g1 g2 (.inl hi)
 ·intro e' F' t' xs' e2 r' i' f' hr';simp only [Th.B1.injEq] at e2;obtain ⟨_,rfl,_,_,_⟩:=e2;obtain ⟨b',o',m',c',p1,p2,p3,p4⟩:=h.rf r' r0 i' f' hr' e F t0 xs hq;refine ⟨b',o',m',c',p1,p2,p3,?_⟩;rw [<-p4];unfold U2;rw [hne0 b' (by have:=ht.row;rw [p1] at this ⊢;exact this.g0C (by omega))]
theorem E0i (hE:Q1 E) (h:Rp E A s ρ S a as w) {R:Type} {k:K E R} {r:R} {T n id r0 f z:Nat} {j i:Int} {q:List P6} {v:V E.D} {up uv:Value} (hl0:E0 s id=.rof r0 j f) (hp:VS E ρ s.nid w.heap S (.pe id i z q) up) (hv:VS E ρ s.nid w.heap S v uv) (hsz:R5 E T=some n) (hn:vsz E v=n) (hst:c0k v=true) (hk:m0b E s n r0 j f i z q v k=some r) :
  ∃ s1 v w1,k s1 v=some r/\z6 E A s ρ S a as w s1 v Go.undef w1/\(Instr.storeAt T up uv).run E.P w=.ok () w1:=by
 obtain ⟨c,hc,hcells,hone,hVC⟩:=hv.cells hE hst;have hlen:c.length=n:=(i0G hE hVC hst).trans hn;obtain ⟨hid,hok,b,o,m,cap0,hr,⟨h0,hm⟩,hu⟩:=hp.c05;unfold m0b at hk;split at hk<;>try cases hk
 rename_i tt _ hrv;split at hk<;>try cases hk
 rename_i u2 hz0 htp;split at hk<;>try cases hk
 rename_i s1 y hrD;split at hk<;>try cases hk
 rename_i e F t0 xs htab;split at hk<;>try cases hk
 rename_i x hset;obtain ⟨S1,hs1,h2,he,hf,hnid,hyR⟩:=m0F hE h hrD;have hq:=d0U htab;have hth:∀ id',P1 (E0 s1 id')=true->E0 s id'=E0 s1 id':=fun id' ho=>by
  unfold rdD at hrD;split at hrD<;>try cases hrD
  rename_i s2 hf;split at hrD<;>try cases hrD
  exact a0R _ s _ s1 hf id' ho
 have hq0:E0 s r0=.B1 e F t0 xs none:=by rw [hth r0 (by rw [hq];rfl),hq]
 obtain ⟨u,ys,ys',hrow,hg,hrow',hoth⟩:=o0t hE hset;split at hg<;>try cases hg
 rename_i x2 hzz hsetP;rw [and_eq_true,beq_eq,beq_eq] at hzz;obtain ⟨rfl,hzu⟩:=hzz;have hrv2:a09 E s r0 j f=some ⟨u,ys⟩:=by unfold a09;rw [hq0];exact hrow
 obtain ⟨_,e1,_,_⟩:=h.h0a hl0 hrv2;have hrf:=h.rf id r0 j f hl0 e F t0 xs hq0;obtain ⟨cs,ht,k2,k3,h5,h8⟩:=h2.l0m hq hrf;rw [e1] at hr;obtain ⟨e',he'⟩:∃ e',F[f]?=some e':=⟨_,List.getElem?_eq_getElem k3⟩
 obtain ⟨hr0,h6,hL⟩:=ht.rows j.toNat _ f u ys e' (Y9 k2.1 k2.2) hrow he' (by simp);rw [h5] at h6;obtain rfl:=Option.some.inj h6;have hob:D1 (ρ id)=some b:=by obtain ⟨_,hrw,_⟩:=hL;rw [hr] at hrw ⊢;exact hrw.g0C (by omega)
 have hown:P1 (E0 s1 r0)=true:=by rw [hq];rfl
 obtain ⟨hS,h0S,hW⟩:=h2.ow r0 hown b (Bk.tl (mem_of_getElem? h8) hob);rw [hr] at hL;obtain ⟨w1,hrun,ho,kp,hL2⟩:=hL.store hE h0 hm hsetP hok (hyR c hVC) hzu hsz hcells hlen hone hS;rw [<-hr] at hL2;exact ⟨_,_,w1,hk,z6.of hs1 (h2.s03 hq hrf hrow' hoth he' (fun k hk hn=>ho.block k hk (fun e=>hn (by rw [hob,e]))) (ho.cx h2.cx hW) kp hL2) VS.unit kp (he.trans (Ext.at s1 r0 _)) hf (fun k hk hq'=>ho.block k hk (fun e=>hq' r0 (by rw [<-hnid];exact h2.F7 (by rw [hq];simp)) (by rw [hq0];rfl) (g0F he) (Bk.tl (mem_of_getElem? h8) (by rw [hob,e])))),by rw [hu];exact hrun⟩
theorem z0F (hE:Q1 E) (h:Rp E A s ρ S a as w) {R:Type} {k:K E R} {r:R} {T id z:Nat} {i:Int} {q:List P6} {v:V E.D} {up uv:Value} (hp:VS E ρ s.nid w.heap S (.pe id i z q) up) (hv:VS E ρ s.nid w.heap S v uv) (hsz:R5 E T=some 1) (hk:l0z E s id i z q v k=some r) :
  ∃ s1 v w1,k s1 v=some r/\z6 E A s ρ S a as w s1 v Go.undef w1/\(Instr.storeAt T up uv).run E.P w=.ok () w1:=by
 obtain ⟨hid,hok,b,o0,m,cap0,hr,⟨h0,hm⟩,hu⟩:=hp.c05;unfold l0z at hk;split at hk<;>try cases hk
 rename_i e F o t xs htab;split at hk<;>try cases hk
 rename_i f hz hix;split at hk<;>try cases hk
 rename_i u e' hru he';split at hk<;>try cases hk
 rename_i g ys hrv;split at hk<;>try cases hk
 rename_i x hset;rw [beq_eq] at hz;subst hz;have hl:=d0U htab;have ht:=h.th id;rw [hl] at ht;obtain ⟨cs,ht⟩:=ht;have hf:f<F.length:=(List.getElem?_eq_some_iff.1 he').1;have hszt:X2 E t=F.length:=(d0v ht.ok).1;have hoff:=u0k ht.ok hix hf;obtain ⟨hLv,hone,hg⟩:=s0O h hv hrv;obtain ⟨u',ys0,ys',hrow,hcast,hrow',hoth⟩:=o0t hE hset;obtain rfl:=z0e hru hrow;obtain ⟨ec,hcast⟩:=L9 hcast;obtain rfl:ys'=ys:=hcast.symm;have hrw:=ht.row;rw [hr] at hrw;obtain ⟨rfl,hbl,hob0,_⟩:=Row.cell hrw (by omega);have hit:i.toNat<xs.length:=by omega
 have hout:∀ j g',o=some (j,g')->j=i/\g'=f:=by
  intro j g' ho;subst ho;unfold r0f at hk;simp only at hk;split at hk<;>rename_i hb2
  ·split at hb2<;>cases hb2
  ·split at hk<;>rename_i hb3
   ·split at hb2
    ·rename_i hfg;rw [beq_eq] at hfg;simp only [Option.some.injEq] at hb2;subst hb2;exact ⟨of_decide_eq_true hb3,hfg.symm⟩
    ·simp only [Option.some.injEq] at hb2;subst hb2;cases hb3
   ·cases hk
 have hk2:k ((N7 (c0l s g) id).at id (.B1 e F t (xs.set i.toNat x) none)) (.tup [])=some r:=by
  split at hk
  ·exact hk
  ·split at hk
   ·exact hk
   ·cases hk
 have hp0:rowAt F i.toNat f<cs.length:=by
  rw [ht.sz];unfold rowAt;have:i.toNat*F.length+F.length<=xs.length*F.length:=by rw [<-succ_mul];exact mul_le_mul_right _ hit
  omega
 generalize hpp:rowAt F i.toNat f=p at hp0;have hT:∀ p',p'≠p->(Go.X.tl (ρ id))[p']?=cs[p']?:=by
  intro p' hne;rw [ht.tl];unfold d0A;split
  ·rfl
  ·rename_i j g' _;obtain ⟨rfl,rfl⟩:=hout _ _ rfl;rw [List.getElem?_set_ne (by rw [hpp];exact Ne.symm hne)]
 have ecs:cs=cs.take p++([cs[p]]++cs.drop (p+1)):=by
  rw [List.singleton_append,List.getElem_cons_drop,take_append_drop]
 obtain ⟨w1,hrun,ho,hrow1⟩:=u0O (off:=p) (c:=[uv]) (by omega) hrw ecs (by rw [length_take];omega) rfl hsz (by rw [cells_one hone]) rfl (by simpa using hone);have ecs2:cs.take p++([uv]++cs.drop (p+1))=cs.set p uv:=by
  rw [List.singleton_append,List.set_eq_take_append_cons_drop,if_pos hp0]
 rw [ecs2] at hrow1;have hown:P1 (E0 s id)=true:=by rw [hl];rfl
 obtain ⟨hS,h0S,hW⟩:=h.ow id hown b (Bk.hd (by rw [hr];exact hob0));have kp:=ho.L1 hS;have hblk:∀ k',D1 uv=some k'->¬ Bk (ρ id) k'/\∃ j,g=some j/\P1 (E0 s j)=true/\Bk (ρ j) k':=by
  intro k' hk';cases g with
  |
   none=>
   have hg:uv=D7:=hg;subst hg;cases hk'
  |
   some j=>
   obtain ⟨hg1,u9,y9,hg2⟩:=hg;have hoj:P1 (E0 s j)=true:=by rw [hg2];rfl
   have hbj:Bk (ρ j) k':=Bk.hd (by rw [hg1,(d0T hone).1];exact hk');refine ⟨h.dj j id ?_ hoj hown k' hbj,j,rfl,hoj,hbj⟩
   rintro rfl
   rw [hl] at hg2;cases hg2
 have hG:∃ G:List Nat,N7 (c0l s g) id=X0 s G/\(∀ r' i' f',E0 s r'=.rof id i' f'->r'∈G)/\∀ j,g=some j->j∈G:=by
  cases g with
  |none=>exact ⟨C9 id s.th,rfl,fun r' i' f' hr'=>i0K hr',fun j hj=>by cases hj⟩
  |some j=>exact ⟨j :: C9 id s.th,rfl,fun r' i' f' hr'=>mem_cons_of_mem _ (i0K hr'),fun j' hj=>by cases hj;simp⟩
 obtain ⟨G,hG1,hG2,hG3⟩:=hG;rw [hG1] at hk2;have hhd:hd (Value.tuple (hd (ρ id) :: cs.set p uv).toArray)=hd (ρ id):=rfl;have htl:Go.X.tl (Value.tuple (hd (ρ id) :: cs.set p uv).toArray)=cs.set p uv:=rfl;have hold:∀ p' u',p'≠p->(cs.set p uv)[p']?=some u'->(Go.X.tl (ρ id))[p']?=some u':=fun p' u' hne hu'=>by
  rw [List.getElem?_set_ne (Ne.symm hne)] at hu';rw [hT p' hne];exact hu'
 have hnew:(cs.set p uv)[p]?=some uv:=List.getElem?_set_self hp0;have hext:Ext s (X0 s G):=Ext.X0 s G;refine ⟨_,_,w1,hk2,⟨⟨_,S,h.s0n hown hhd (ho.cx h.cx hW) kp (fun _ h=>h) (fun k' hk' hn=>ho.block k' hk' (fun e=>hn (by rw [e];exact Bk.hd (by rw [hr];exact hob0)))) (fun k' hk'=>?_) ?_ hG2 (by intros;simp),VS.unit,kp⟩,hext.trans (Ext.at _ id _),(a0d G s).2.1,fun e9=>?_⟩,?_⟩
 ·rcases c0Y.1 hk' with hk' | ⟨u',hu',hk'⟩
  ·exact .inl (Bk.hd hk')
  ·rw [htl] at hu';obtain ⟨p',hp'⟩:=List.getElem?_of_mem hu'
   by_cases hne:p'=p
   ·subst hne;rw [hnew] at hp';obtain rfl:=Option.some.inj hp';obtain ⟨_,j,e1,e2,e3⟩:=hblk k' hk';exact .inr ⟨j,hG3 j e1,e2,e3⟩
   ·exact .inl (Bk.tl (mem_of_getElem? (hold p' u' hne hp')) hk')
 ·refine ⟨cs.set p uv,by rw [hhd,length_set,hr];exact hrow1,by rw [htl];rfl,ht.ok,(fun _ _ h=>by cases h),fun i' x' f' u2 ys2 e2 g1 g2 g3 _=>?_,fun u' hu'=>?_,fun i1 i2 v1 v2 hne hv1 hv2 k' hk1 hk2=>?_⟩
  ·have hf':f'<F.length:=(List.getElem?_eq_some_iff.1 g3).1;have hi':i'<xs.length:=by have:=(List.getElem?_eq_some_iff.1 g1).1;rwa [length_set] at this
   have main:∀ x0,xs[i']?=some x0->V3 E t x0 f'=some ⟨u2,ys2⟩->(i'≠i.toNat\/f'≠f)->∃ r',(cs.set p uv)[rowAt F i' f']?=some r'/\S5 E w1.heap S e2 u2 ys2 r':=by
    intro x0 q1 q2 q3;have hpn:rowAt F i' f'≠p:=by
     rw [<-hpp];intro e;obtain ⟨e3,e4⟩:=t04 hf' hf e;rcases q3 with q3 | q3
     ·exact q3 e3
     ·exact q3 e4
    obtain ⟨r',p1,p2⟩:=ht.rows i' _ f' u2 ys2 e2 q1 q2 g3 (by
     intro ho;obtain ⟨e3,e4⟩:=hout _ _ ho;rcases q3 with q3 | q3
     ·exact q3 (by omega)
     ·exact q3 e4)
    have p3:(cs.set p uv)[rowAt F i' f']?=some r':=by rw [List.getElem?_set_ne (Ne.symm hpn)];exact p1
    refine ⟨r',p3,p2.mono kp fun b' hb'=>ho.block b' (by obtain ⟨_,hrw2,_⟩:=p2;exact Row.live hrw2 b' hb') ?_⟩
    rintro rfl
    exact ht.ap 0 (rowAt F i' f'+1) (hd (ρ id)) r' (by omega) rfl (by simpa using hold _ _ hpn p3) b' (by rw [hr];exact hob0) hb'
   by_cases hi:i'=i.toNat
   ·subst hi;rw [List.getElem?_set_self hit] at g1;obtain rfl:=Option.some.inj g1
    by_cases hff:f'=f
    ·subst hff;rw [hrow'] at g2;obtain ⟨rfl,g2⟩:=Sigma.mk.inj (Option.some.inj g2);have g2:=eq_of_heq g2;subst g2;rw [he'] at g3;obtain rfl:=Option.some.inj g3;refine ⟨uv,by rw [hpp];exact hnew,hLv.mono kp fun b' hb'=>ho.block b' (by obtain ⟨_,hrw2,_⟩:=hLv;exact Row.live hrw2 b' hb') ?_⟩
     rintro rfl
     exact (hblk b' hb').1 (Bk.hd (by rw [hr];exact hob0))
    ·rw [hoth f' hff] at g2;exact main _ (Y9 h0 hm) g2 (.inr hff)
   ·rw [List.getElem?_set_ne (Ne.symm hi)] at g1;exact main _ g1 g2 (.inl hi)
  ·rcases List.mem_or_eq_of_mem_set hu' with h9 | rfl
   ·exact ht.one _ h9
   ·exact hone
  ·rw [hhd,htl] at hv1 hv2;have key:∀ (i1:Nat) (v1:Value),(hd (ρ id) :: cs.set p uv)[i1]?=some v1->(i1=p+1/\v1=uv)\/(i1≠p+1/\(hd (ρ id) :: Go.X.tl (ρ id))[i1]?=some v1):=by
    intro i1 v1 hv1;cases i1 with
    |zero=>exact .inr ⟨by omega,hv1⟩
    |
     succ i1=>
     simp only [List.getElem?_cons_succ] at hv1
     by_cases e1:i1=p
     ·subst e1;rw [hnew] at hv1;exact .inl ⟨rfl,(Option.some.inj hv1).symm⟩
     ·exact .inr ⟨by omega,by simpa using hold i1 v1 e1 hv1⟩
   have inB:∀ (i1:Nat) (v1:Value),(hd (ρ id) :: Go.X.tl (ρ id))[i1]?=some v1->D1 v1=some k'->Bk (ρ id) k':=by
    intro i1 v1 hv1 hk;have:=mem_of_getElem? hv1;rcases mem_cons.1 this with rfl | h9
    ·exact Bk.hd hk
    ·exact Bk.tl h9 hk
   rcases key i1 v1 hv1 with ⟨e1,rfl⟩ | ⟨e1,q1⟩
   ·rcases key i2 v2 hv2 with ⟨e2,rfl⟩ | ⟨e2,q2⟩
    ·omega
    ·exact (hblk k' hk1).1 (inB _ _ q2 hk2)
   ·rcases key i2 v2 hv2 with ⟨e2,rfl⟩ | ⟨e2,q2⟩
    ·exact (hblk k' hk2).1 (inB _ _ q1 hk1)
    ·exact ht.ap i1 i2 v1 v2 hne q1 q2 k' hk1 hk2
 ·intro hk9 hq9;exact ho.block e9 hk9 (fun e=>hq9 id hid (by first | assumption | (rw [hl];rfl)) (g0F hext) (Bk.hd (by rw [hr,e];exact hob0)))
 ·rw [hu,hszt,hoff];have:o0+i.toNat*F.length+f=o0+p:=by rw [<-hpp];unfold rowAt;omega
  rw [this];exact hrun
theorem C0d (hE:Q1 E) (h:Rp E A s ρ S a as w) {R:Type} {k:K E R} {r:R} {T:Nat} {p v:V E.D} {up uv:Value} (hp:VS E ρ s.nid w.heap S p up) (hv:VS E ρ s.nid w.heap S v uv) (hk:i0T E s T p v k=some r) :
  ∃ s1 v w1,k s1 v=some r/\z6 E A s ρ S a as w s1 v Go.undef w1/\(Instr.storeAt T up uv).run E.P w=.ok () w1:=by
 unfold i0T at hk;split at hk<;>try cases hk
 rename_i n hsz;split at hk<;>try cases hk
 rename_i hst;rw [and_eq_true,beq_eq] at hst;obtain ⟨hn,hst⟩:=hst;obtain ⟨c,hc,hcells,hone,hVC⟩:=hv.cells hE hst;have hlen:c.length=n:=(i0G hE hVC hst).trans hn;split at hk
 ·rename_i id off;obtain ⟨hid,_,b,hr,hu⟩:=hp.b0l;simp only [M4,Nat.add_zero] at hu;split at hk<;>try cases hk
  rename_i T' cs hb;have hl:=s0k hb;split at hk<;>try cases hk
  rename_i x1 x2 x3 hsg;have ht:=h.th id;rw [hl] at ht;obtain ⟨b',cc,hr',hbk,hcs,h1⟩:=ht;obtain rfl:b=b':=by rw [hr'] at hr;simpa [hd,eq_comm] using hr
  obtain ⟨c1,c2,c3,e,hl1,hl2,ha,_,hd⟩:=g0e hE hsg hcs;rw [e] at hbk;obtain ⟨w1,hrun,ho,hb1⟩:=l0j hsz hcells hlen hone hbk hl1 hl2;rw [hu];obtain ⟨hrp,hkp⟩:=h.p0l hl hr' ho hb1 (l':=x1++H6 v++x3) (by rw [append_assoc];exact ha.app (hc.app hd)) (by
   intro u hu;rcases mem_append.1 hu with hu | hu
   ·exact h1 u (by rw [e];simp [hu])
   ·rcases mem_append.1 hu with hu | hu
    ·exact hone u hu
    ·exact h1 u (by rw [e];simp [hu]))
  exact ⟨_,_,w1,hk,z6.of (fun _ h=>h) hrp VS.unit hkp (Ext.at s id _) rfl (fun k hk hq=>ho.block k hk (fun e=>hq id hid (by rw [hl];rfl) (f0n s) (by rw [e,hr'];rfl))),hrun⟩
 ·rename_i id off q _;obtain ⟨hid,hok,b,hr,hu⟩:=hp.b0l;split at hk<;>try cases hk
  rename_i s1 T' l hrd;unfold i0T.rdP at hrd;split at hrd<;>try cases hrd
  split at hrd<;>try cases hrd
  split at hrd<;>try cases hrd
  split at hrd<;>try cases hrd
  rename_i u2 _;split at hrd<;>try cases hrd
  rename_i s2 y hz hrD;split at hrd<;>try cases hrd
  rename_i T2 cs' hb;split at hrd<;>try cases hrd
  rename_i a1 m' hct;split at hrd<;>try cases hrd
  rename_i t' x' cr hsd;split at hrd<;>try cases hrd
  rename_i z hset;have hm:=D0P hsd;subst hm;have hzz:=w0q hz;obtain ⟨S1,hs1,h2,he,hf,hnid,hyR⟩:=m0F hE h hrD;have hl:=s0k hb;have ht:=h2.th id;rw [hl] at ht;obtain ⟨b',cc,hr',hbk,hcs,h1⟩:=ht;obtain rfl:b=b':=by rw [hr'] at hr;simpa [hd,eq_comm] using hr
  obtain ⟨c1,c2,e,hl1,ha,hb2⟩:=b0g hE _ _ _ _ _ hct cc hcs;unfold N0 at hb2;obtain ⟨d1,d2,rfl,hd,hrest⟩:=hb2;obtain ⟨e1,e2,e3,hd1,hle,hle2,hnew⟩:=i0Y hE q t' x' z d1 hset hok hd;have hbk2:w.heap[b]?=some (.cells ((c1++e1)++(e2++(e3++d2))).toArray T' (0,0)):=by rw [hbk,e,hd1];simp
  obtain ⟨w1,hrun,ho,hb1⟩:=l0j hsz hcells hlen hone hbk2 (by rw [length_append,hl1,hle]) (by rw [hle2,hzz,hn]);rw [hu];have hS:=h2.ow id (by rw [hl];rfl) b (by rw [hr'];rfl);have kp:=ho.L1 hS.1;have hz':(J0 E t').R w.heap S1 (e1++(c++e3)) z:=hnew c (hyR c hVC);obtain ⟨hrp,hkp⟩:=h2.p0l hl hr' ho hb1 (l':=a1++.d t' z :: cr) (by
   have:(c1++e1)++(c++(e3++d2))=c1++((e1++(c++e3))++d2):=by simp
   rw [this];refine ha.app ?_;unfold N0;exact ⟨_,d2,rfl,by unfold VC;exact hz',hrest⟩) (by
   intro u hu;have:u∈cc\/u∈c:=by
    rw [e,hd1];simp only [mem_append] at hu ⊢;rcases hu with (h | h) | h | h | h<;>simp [h]
   rcases this with hu | hu
   ·exact h1 u hu
   ·exact hone u hu)
  exact ⟨_,_,w1,hk,z6.of hs1 hrp VS.unit hkp (he.trans (Ext.at s1 id _)) hf (fun k hk hq=>ho.block k hk (fun e=>hq id hid (r0n hrD (by rw [hl];rfl)) (g0F he) (by rw [e,hr'];rfl))),hrun⟩
 ·rename_i id i z q;obtain ⟨hid,hok,b,o,m,cap0,hr,⟨h0,hm⟩,hu⟩:=hp.c05;split at hk
  ·split at hk<;>try cases hk
   rename_i hn1;rw [beq_eq] at hn1;subst hn1;exact z0F hE h hp hv hsz hk
  ·rename_i r0 j f hl;exact E0i hE h hl hp hv hsz hn hst hk
  ·split at hk<;>try cases hk
   split at hk<;>try cases hk
   rename_i u2 _ _;split at hk<;>try cases hk
   rename_i s1 y hrD;split at hk<;>try cases hk
   rename_i e t' xs hb;split at hk<;>try cases hk
   rename_i x hzz hset;rw [and_eq_true,beq_eq,beq_eq] at hzz;obtain ⟨rfl,hzu⟩:=hzz;obtain ⟨S1,hs1,h2,he,hf,hnid,hyR⟩:=m0F hE h hrD;have hl:=j0w hb;have ht:=h2.th id;rw [hl] at ht;have hfo:∃ A' c',ρ id=.slice A' xs.length c':=S5.form ht;obtain ⟨A',c',hfo⟩:=hfo;have hr':ρ id=.slice (some ⟨b,o,none⟩) m cap0:=by rw [<-hr,hfo];rfl
   have hown:P1 (E0 s1 id)=true:=by rw [hl];rfl
   have hBk:Bk (ρ id) b:=by
    obtain ⟨_,hrw,_⟩:=ht;rw [hr'] at hrw ⊢;exact hrw.g0C (by omega)
   obtain ⟨hS,h0S,hW⟩:=h2.ow id hown b hBk;have hL:S5 E w.heap S1 e t' xs (.slice (some ⟨b,o,none⟩) m cap0):=by rw [<-hr'];exact ht
   obtain ⟨w1,hrun,ho,kp,hL2⟩:=hL.store hE h0 hm hset hok (hyR c hVC) hzu hsz hcells hlen hone hS;refine ⟨_,_,w1,hk,z6.of hs1 (h2.turn (w1:=w1) (S1:=S1) (id:=id) (v:=ρ id) (x:=.lst e t' (xs.set i.toNat x)) (by rw [hnid];exact hid) hown (ho.cx h2.cx hW) kp (fun _ h=>h) (fun k hk hn=>ho.block k hk (fun e=>hn (by rw [e];exact hBk))) rfl (fun k hk=>(h2.ow id hown k hk).1) ?_) VS.unit kp (he.trans (Ext.at s1 id _)) hf (fun k hk hq=>ho.block k hk (fun e=>hq id hid (r0n hrD (by rw [hl];rfl)) (g0F he) (by rw [e];exact hBk))),by rw [hu];exact hrun⟩;rw [hr'];exact hL2
 ·cases hk
theorem c09 {t:U} {z:Value} {sz bytes:Nat} (h:b01 E t z sz bytes=true):sz=(J0 E t).sz/\z.cells.size=(J0 E t).sz/\0<(J0 E t).sz/\0<bytes:=by
 simp only [b01,and_eq_true,beq_eq,Nat.blt_eq] at h;obtain ⟨⟨⟨h1,h2⟩,h3⟩,h4⟩:=h;subst h1;exact ⟨rfl,h2,h3,h4⟩
theorem c0W {e:Nat} {z:Value} {sz bytes:Nat} (h:b03 E e=some (z,sz,bytes)):∃ i,E.P.info? e=some i/\i.zero=some z/\i.size=sz/\i.bytes=bytes:=by
 unfold b03 at h;split at h<;>try cases h
 rename_i i hi;split at h<;>try cases h
 rename_i z' hz;exact ⟨i,hi,hz,rfl,rfl⟩
theorem c01 {T e:Nat} (h:b0e E T=some e):E.P.underlying T=some (.slice e):=by
 unfold b0e at h;split at h
 ·rename_i hT;simp at h;subst h;exact hT
 ·cases h
theorem Rp.j0f (h:Rp E A s ρ S a as w) {e:Nat} {t:U} {xs:List (Den E.D t)} {v:Value} {w1:World} (hb:Below w.heap.size w w1) (hv:∀ k,D1 v=some k->w.heap.size<=k/\k<w1.heap.size) (ho:v.oneCell'=true)
  (hx:∀ S1,U0 w.heap S w1.heap S1->(∀ k,D1 v=some k->S1 k)->∃ cs,Row w1.heap e (J0 E t).sz v xs.length cs/\U1 (J0 E t) w1.heap S1 cs xs) :
  z6 E A s ρ S a as w (s.new (.lst e t xs)) (.sl s.nid) v w1:=by
 obtain ⟨hhd,hbk⟩:=d0T ho;obtain ⟨S1,hk,hr⟩:=h.new (x:=.lst e t xs) (v:=v) (w1:=w1) hb (fun k hk=>hv k ((hbk k).1 hk)) (fun S1 hk hs _=>hx S1 hk fun k hk2=>hs k ((hbk k).2 hk2) rfl);refine ⟨⟨_,S1,hr,?_,hk⟩,Ext.new s _,rfl,fun k hk _=>hb.block k hk⟩;exact VS.of rfl (by unfold VC;exact ⟨lt_succ_self _,by rw [I5,hhd];exact ho,by rw [I5,hhd]⟩)
theorem r07 {n:Nat} {H:K0} (z:Value):VC E ρ n H S (ofZ E z) z.cells.toList:=by
 have h:=i0g (E:=E) (ρ:=ρ) (S:=S) (n:=n) (H:=H) z;unfold ofZ at h ⊢;split at h
 ·unfold VC;exact h
 ·rw [s0f] at h;exact h.a0p
theorem z0a (hE:Q1 E) (h:Rp E A s ρ S a as w) {R:Type} {k:K E R} {r:R} {T:Nat} {n m:Operand} (hk:o03 E s T n m k=some r) :
  ∃ s1 v u w1,k s1 v=some r/\z6 E A s ρ S a as w s1 v u w1/\(Instr.makeSlice T (a.eval n) (a.eval m)).run E.P w=.ok u w1:=by
 unfold o03 at hk;split at hk<;>try cases hk
 rename_i e k0 x he hx hop;have hnm:n=m:=by
  unfold h05 at hop;split at hop
  ·rw [beq_eq] at hop;rw [hop]
  ·rw [of_decide_eq_true hop]
  ·cases hop
 subst hnm;split at hk<;>try cases hk
 rename_i t z sz bytes ht hin;split at hk<;>try cases hk
 rename_i zx hel hz;obtain ⟨rfl,h1,h2,h3⟩:=c09 hel;obtain ⟨i,hi,hz0,hsz,hby⟩:=c0W hin;split at hk<;>try cases hk
 rename_i hfit;have hT:=c01 he;have hev:=r9 hx (h.val n);rw [hev];simp only [V2,and_eq_true,decide_eq_true_eq] at hfit;obtain ⟨q,rfl⟩:=Int.eq_ofNat_of_zero_le hfit.1;have hq:q*bytes<=140737488355328:=by
  have h1:=hfit.2;have h2:((q*bytes:Nat):Int)<=140737488355328:=by rw [Int.natCast_mul];exact h1
  omega
 have hq2:q<=q*bytes:=Nat.le_mul_of_pos_right _ h3;obtain ⟨w1,hrun,hrow,hg⟩:=run_make_full (P:=E.P) w w.heap.size T e i z (J0 E t).sz hT hi hz0 hsz k0 k0 q (by rw [hby,mul_comm];omega) (by simp only [maxLen];omega) (le_refl _);have hB:Below w.heap.size w w1:=⟨hg.os,hg.tape,hg.output,hg.size,fun k hk=>hg.block k hk (by simp)⟩
 have hm:=n0j z.cells q;rw [h1] at hm;rw [hm] at hrow;have hrow:=Row.of hrow;have hzR:∀ S1,(J0 E t).R w1.heap S1 z.cells.toList zx:=by
  intro S1;refine h0c (ρ:=ρ) (n:=0) hE (fun id=>?_) hz (r07 z);show X3 E ρ 0 w1.heap S1 .gone (ρ id)
  trivial
 refine ⟨_,_,_,w1,hk,h.j0f hB (fun k hk=>?_) rfl fun S1 hk _=>⟨_,by simpa using hrow,i05 (hzR S1) q⟩,hrun⟩;obtain ⟨hq0,rfl⟩:=d0M hk;refine ⟨le_refl _,?_⟩;rcases hrow.2 with ⟨_,a,hv⟩ | ⟨g,cap,cur,hv,_,hgg,_⟩
 ·simp at hv;omega
 ·simp at hv;obtain ⟨rfl,_⟩:=hv;exact getElem?_lt hgg
theorem Row.o0k {H:K0} {e sz n:Nat} {v:Value} {cs:List Value} (h:Row H e sz v n cs):(Go.V.Row H e sz v n cs/\v.ownBlock=D1 v)\/(n=0/\cs=[]/\D1 v=none/\∃ a,v=.slice (some a) 0 0):=by
 obtain ⟨h0,⟨h1,a,h2⟩ | ⟨g,cap,cur,hv,hp,r⟩⟩:=h
 ·subst h1;subst h2;cases a with
  |none=>exact .inl ⟨⟨h0,.inl ⟨rfl,rfl⟩⟩,rfl⟩
  |some a=>exact .inr ⟨rfl,by simpa using h0,rfl,a,rfl⟩
 ·refine .inl ⟨⟨h0,.inr ⟨g,cap,cur,hv,r⟩⟩,?_⟩;subst hv;exact (e0I (a:=⟨g,0,none⟩) (m:=n) hp).symm
def inX (v:Value) (S:D0):D0:=fun k=>D1 v=some k\/S k
structure GrX (w w1:World) (v:Value):Prop where
 os:w1.os=w.os
 tape:w1.tape=w.tape
 output:w1.output=w.output
 size:w.heap.size<=w1.heap.size
 block:∀ k,k<w.heap.size->D1 v≠some k->w1.heap[k]?=w.heap[k]?
theorem t0G {a:Option Addr} {m c k:Nat} (h:D1 (.slice a m c)=some k):(Value.slice a m c).ownBlock=some k:=by
 cases a with
 |none=>cases h
 |some a=>obtain ⟨_,rfl⟩:=d0M h;rfl
theorem j0H {α:Type} {T:Ty α} {t ty e:TypeId} {bytes:Nat} {z:Value} {v:Value} {xs ys:List α} {cs:List Value} {A:Option Addr} {c:Nat} (P:Program) (ht:P.underlying t=some (.slice e)) (hE:(P.info? e).map (fun i=>(i.zero,i.size,i.bytes))=some (some z,T.sz,bytes)) (hzs:(decide (z.cells.size=T.sz)&&decide (0<T.sz)&&decide (0<bytes))=true)
  (hrow:Row w.heap e T.sz v xs.length cs) (hels:U1 T w.heap S cs xs) (hS:∀ k,D1 v=some k->S k) (hys:V5 T w.heap S A ys) (hfit:I0 bytes xs ys=true) :
  ∃ v' w1,(Builtin.append_ #[t,t] ty #[v,.slice A ys.length c]).run P w=.ok v' w1/\GrX w w1 v/\(∀ k,D1 v'=some k->(D1 v=some k\/w.heap.size<=k)/\k<w1.heap.size)/\(∃ A1 c1,v'=.slice A1 (xs++ys).length c1)/\
   ∀ S1,U0 w.heap S w1.heap S1->∃ cs2,Row w1.heap e T.sz v' (xs++ys).length cs2/\U1 T w1.heap S1 cs2 (xs++ys):=by
 rcases hrow.o0k with ⟨hV,hob⟩ | ⟨h0,hc0,hnone,a,hv⟩
 ·have hown:Ow T e (fun _=>True) w.heap S v xs:=⟨fun k hk=>⟨hS k (by rw [<-hob];exact hk),trivial⟩,cs,hV,hels⟩
  obtain ⟨v',w1,hrun,hg,hat,hdone⟩:=z0i (P:=P) (w:=w) t ty e bytes z ht hE hzs hown hys (c:=c) hfit;have fin:∀ S1,U0 w.heap S w1.heap S1->Ow T e (fun _=>True) w1.heap (fun k=>v'.ownBlock=some k\/S1 k) v' (xs++ys):=fun S1 hk=>by
   refine hdone (fun k=>v'.ownBlock=some k\/S1 k) ⟨hk.size,fun b hb hn=>⟨fun hi=>?_,(hk.blk b hb hn).2⟩⟩ (fun _=>True) (fun k hk=>⟨.inl hk,trivial⟩);rcases hi with hi | hi
   ·rcases hat with e1 | e1
    ·rw [e1,hob] at hi;exact hn (hS b hi)
    ·rw [e1] at hi;have:=Option.some.inj hi;omega
   ·exact (hk.blk b hb hn).1 hi
  have hk0:U0 w.heap S w1.heap (fun k=>v'.ownBlock=some k\/S k):=⟨hg.size,fun b hb hn=>⟨fun hi=>by
    rcases hi with hi | hi
    ·rcases hat with e1 | e1
     ·rw [e1,hob] at hi;exact hn (hS b hi)
     ·rw [e1] at hi;have:=Option.some.inj hi;omega
    ·exact hn hi,hg.block b hb (fun e1=>hn (hS b (by rw [<-hob];exact e1.symm)))⟩⟩
  have how:=fin _ hk0;obtain ⟨A1,c1,hform⟩:=how.form;refine ⟨v',w1,hrun,⟨hg.os,hg.tape,hg.output,hg.size,fun k hk hn=>hg.block k hk (fun e1=>hn (by rw [<-hob];exact e1.symm))⟩,fun k hk=>?_,⟨A1,c1,hform⟩,fun S1 hk=>?_⟩
  ·have hk2:v'.ownBlock=some k:=by rw [hform] at hk ⊢;exact t0G hk
   refine ⟨?_,how.lt k hk2⟩;rcases hat with e1 | e1
   ·rw [e1,hob] at hk2;exact .inl hk2
   ·rw [e1] at hk2;exact .inr (Nat.le_of_eq (Option.some.inj hk2))
  ·obtain ⟨_,cs2,h1,h2⟩:=fin S1 hk;exact ⟨cs2,Row.ofV h1,h2.L1 (U0.less fun _ h=>.inr h)⟩
 ·subst hv;subst hc0;have hx0:xs=[]:=eq_nil_of_length_eq_zero h0;subst hx0;obtain ⟨i,hi,hi2⟩:=Option.map_eq_some_iff.1 hE;simp only [Prod.mk.injEq] at hi2;obtain ⟨hz,hsz,hby⟩:=hi2;simp only [and_eq_true,decide_eq_true_eq] at hzs;simp only [I0,decide_eq_true_eq,List.length_nil,zero_add] at hfit;have hmax:ys.length<=maxLen:=by
   have:ys.length<=ys.length*bytes:=Nat.le_mul_of_pos_right _ hzs.2;simp only [maxLen];omega
  rcases eq_zero_or_pos ys.length with h0 | hpos
  ·have h0:ys=[]:=eq_nil_of_length_eq_zero h0;subst h0;have g1:GrX w w (.slice (some a) 0 0):=⟨rfl,rfl,rfl,le_refl _,fun _ _ _=>rfl⟩
   have g2:Row w.heap e T.sz (.slice (some a) 0 0) ([]++[]:List α).length []:=⟨by simp,.inl ⟨rfl,_,rfl⟩⟩
   have g3:∀ k,D1 (.slice (some a) 0 0)=some k->(D1 (.slice (some a) 0 0)=some k\/w.heap.size<=k)/\k<w.heap.size:=fun k hk=>by cases hk
   refine ⟨.slice (some a) 0 0,w,?_,g1,g3,⟨some a,0,rfl⟩,fun S1 hk=>⟨[],g2,U1.nil⟩⟩;cases A<;>simp [Builtin.append_,run_underlying ht,sizeOf,typeInfo,hi,Builtin.lenOf,Builtin.firstCells,loadCells,loadCellsFrom,storeCells]
  ·obtain ⟨b,off,_,hA,_⟩:=hys 0 ys[0] (by simp [hpos]);subst hA;have rd:∀ {A:Option Addr} {xs:List α},V5 T w.heap S A xs->∃ news,U1 T w.heap S news xs/\∀ b o,A=some ⟨b,o,none⟩->∀ j u,news[j]?=some u->U2 w.heap b (o+0*T.sz+j)=some u:=fun hr=>V5.news (w:=w) (k:=0) (fun i x hx=>by
    obtain ⟨b,o,cs,h1,h2,h3⟩:=hr i x hx;exact ⟨b,o,cs,h1,h2,fun j v hj=>by rw [zero_add];exact h3 j v hj⟩)
   obtain ⟨news,hen,hcells⟩:=rd hys;have hnews:∀ j u,news[j]?=some u->w.cell? ((⟨b,off,none⟩:Addr).add j)=some u:=by
    intro j u hj;rw [b0a];have:=hcells b off rfl j u hj;simpa using this
   obtain ⟨v',w',hrun,h2,h3⟩:=run_append_arg_grows (P:=P) w t ty e i z T.sz bytes ht hi hz hsz hby hzs.1.1 hzs.1.2 a 0 0 [] (by simp) (fun j u hj=>by simp at hj) ⟨b,off,none⟩ ys.length c news hen.1 hnews (by omega) (by omega) (by simpa using hfit);have hV:=h2;obtain ⟨hl,hv | ⟨g,cap,cur,hv,hgb,hg,hnc,hm,hcs,htake⟩⟩:=hV
   ·exact absurd hv.2 (by omega)
   ·have hr2:=Row.of h2;rw [zero_add,nil_append] at hr2;refine ⟨v',w',hrun,⟨h3.os,h3.tape,h3.output,h3.size,fun k hk _=>h3.block k hk (by simp)⟩,fun k hk=>?_,⟨_,_,by rw [hv];simp;exact ⟨rfl,rfl⟩⟩,fun S1 hk=>⟨news,by simpa using hr2,by simpa using hen.L1 hk⟩⟩;rw [hv] at hk;obtain ⟨_,rfl⟩:=d0M hk;exact ⟨.inr hgb,getElem?_lt hg⟩
theorem h0j (h:Rp E A s ρ S a as w) {t:U} {y:V E.D} {uy:Value} (hy:VS E ρ s.nid w.heap S y uy) {ys:List (Den E.D t)} (hs:e0J E s t y=some ys) :
  ∃ A' c,uy=.slice A' ys.length c/\V5 (J0 E t) w.heap S A' ys:=by
 unfold e0J at hs;split at hs
 ·simp only [Option.some.injEq] at hs;subst hs;obtain rfl:=hy.b0n;exact ⟨none,0,rfl,fun i x hx=>by simp at hx⟩
 ·split at hs<;>try cases hs
  rename_i t' zs hl;obtain ⟨e,hs⟩:=L9 hs;subst e;subst hs;have hl0:=hl;unfold b0I at hl;split at hl
  ·cases hl;obtain ⟨A',c,rfl,hsl⟩:=hy.f04;exact ⟨A',c,rfl,hsl.2.2⟩
  ·rename_i id _;obtain ⟨hid,rfl⟩:=hy.X9;rcases h.o0Z hl0 with ⟨e,h1,_⟩ | ⟨A',c,h1,h2⟩
   ·obtain ⟨A',c,h2⟩:=h1.form;rw [h2] at h1;refine ⟨A',c,h2,fun i x hx=>?_⟩;have hi:i<zs.length:=(List.getElem?_eq_some_iff.1 hx).1;cases A' with
    |
     none=>
     obtain ⟨cs,hrow,_⟩:=h1;rcases hrow.2 with ⟨h0,_⟩ | ⟨g,cap,cur,hv,_⟩
     ·omega
     ·cases hv
    |
     some ad=>
     have h1':=h1;obtain ⟨cs0,hrow0,_⟩:=h1';rcases hrow0.2 with ⟨h0,_⟩ | ⟨g,cap,cur,hv,_⟩
     ·omega
     ·simp at hv;obtain ⟨rfl,_⟩:=hv;obtain ⟨_,h5⟩:=h1.el;obtain ⟨_,cs,h6,h7⟩:=h5 i (by omega) (by omega);have:U6 E t' zs i=x:=by
       have:=Y9 (E:=E) (t:=t') (xs:=zs) (i:=i) (by omega) (by omega);rw [Int.toNat_natCast,hx] at this;exact (Option.some.inj this).symm
      rw [this] at h6;exact ⟨g,0,cs,rfl,h6,fun j v hj=>h7 w.heap rfl j v hj⟩
   ·exact ⟨A',c,h1,h2.2.2⟩
  ·cases hl
theorem t0Z (hE:Q1 E) (h:Rp E A s ρ S a as w) {R:Type} {k:K E R} {r:R} {T:Nat} {x y:V E.D} {ux uy:Value} (hx:VS E ρ s.nid w.heap S x ux) (hy:VS E ρ s.nid w.heap S y uy) (ty:Nat) (hk:k0B E s T x y k=some r) :
  ∃ s1 v u w1,k s1 v=some r/\z6 E A s ρ S a as w s1 v u w1/\(Builtin.append_ #[T,T] ty #[ux,uy]).run E.P w=.ok u w1:=by
 unfold k0B at hk;split at hk<;>try cases hk
 rename_i e he;split at hk<;>try cases hk
 rename_i t z sz bytes ht hin;split at hk<;>try cases hk
 rename_i ys g xs hel hsrc hdst;split at hk<;>try cases hk
 rename_i hfit;obtain ⟨rfl,h1,h2,h3⟩:=c09 hel;obtain ⟨i,hi,hz0,hsz,hby⟩:=c0W hin;have hT:=c01 he;obtain ⟨A',c,rfl,hrd⟩:=h0j h hy hsrc;have hE':(E.P.info? e).map (fun i=>(i.zero,i.size,i.bytes))=some (some z,(J0 E t).sz,bytes):=by rw [hi];simp [hz0,hsz,hby]
 have hzs:(decide (z.cells.size=(J0 E t).sz)&&decide (0<(J0 E t).sz)&&decide (0<bytes))=true:=by simp [h1,h2,h3]
 unfold t0g at hdst;split at hdst
 ·simp only [Option.some.injEq,Prod.mk.injEq] at hdst;obtain ⟨rfl,rfl⟩:=hdst;obtain rfl:=hx.b0n;obtain ⟨v',w1,hrun,hg,hat,⟨A1,c1,hform⟩,hdone⟩:=j0H (S:=S) (w:=w) (ty:=ty) (v:=.slice none 0 0) (xs:=([]:List (Den E.D t))) (cs:=[]) (c:=c) E.P hT hE' hzs ⟨by simp,.inl ⟨rfl,none,rfl⟩⟩ U1.nil (fun k hk=>by cases hk) hrd hfit;have hB:Below w.heap.size w w1:=⟨hg.os,hg.tape,hg.output,hg.size,fun k hk=>hg.block k hk (by simp [D1])⟩
  subst hform;refine ⟨_,_,_,w1,hk,h.j0f hB (fun k hk=>?_) rfl fun S1 hk hs=>hdone S1 hk,hrun⟩;obtain ⟨h5,h6⟩:=hat k hk;refine ⟨?_,h6⟩;rcases h5 with h5 | h5
  ·cases h5
  ·exact h5
 ·rename_i id;split at hdst<;>try cases hdst
  rename_i e' t' zs hl;split at hdst<;>try cases hdst
  rename_i hee hcl;rw [beq_eq] at hee;subst hee;obtain ⟨e2,hcl⟩:=L9 hcl;subst e2;subst hcl;obtain ⟨hid,rfl⟩:=hx.X9;have hl:=j0w hl;have hown1:P1 (E0 s id)=true:=by rw [hl];rfl
  have hth:=h.th id;rw [hl] at hth;obtain ⟨A0,c0,hfo⟩:=S5.form hth;have hhd0:hd (ρ id)=ρ id:=by rw [hfo];rfl
  have hBk:∀ k,Bk (ρ id) k↔D1 (ρ id)=some k:=fun k=>by rw [hfo];exact Iff.rfl
  rw [hhd0];obtain ⟨cs,hrow,hels⟩:=hth;have hS:=fun k hk=>(h.ow id hown1 k ((hBk k).2 hk))
  obtain ⟨v',w1,hrun,hg,hat,⟨A1,c1,hform⟩,hdone⟩:=j0H (S:=S) (w:=w) (ty:=ty) (c:=c) E.P hT hE' hzs hrow hels (fun k hk=>(hS k hk).1) hrd hfit;subst hform;have hkeep:U0 w.heap S w1.heap (inX (Value.slice A1 (zs++ys).length c1) S):=⟨hg.size,fun b hb hn=>⟨fun hi=>by
    rcases hi with hi | hi
    ·rcases (hat b hi).1 with e | e
     ·exact hn (hS b e).1
     ·omega
    ·exact hn hi,hg.block b hb (fun e=>hn (hS b e).1)⟩⟩
  obtain ⟨cs2,hrow2,hels2⟩:=hdone _ hkeep;have hcx:Cx A.w0 A.W0 A.S0 w1 (inX (Value.slice A1 (zs++ys).length c1) S):=by
   have cx:=h.cx;refine ⟨⟨hg.os.trans cx.bel.os,hg.tape.trans cx.bel.tape,hg.output.trans cx.bel.output,le_trans cx.bel.size hg.size,fun k hk hn=>(hg.block k (by have:=cx.size;omega) (fun e=>?_)).trans (cx.bel.block k hk hn)⟩,fun b hb=>.inr (cx.sub b hb),fun b hb=>?_,cx.lt0⟩
   ·rcases (hS k e).2.2 with h2 | h2
    ·exact hn h2
    ·omega
   ·rcases hb with hb | hb
    ·exact (hat b hb).2
    ·exact Nat.lt_of_lt_of_le (cx.lt b hb) hg.size
  have hrp:Rp E A ((X0 s [id]).new (Th.lst e t' (zs++ys))) (M6 ρ s.nid (Value.slice A1 (zs++ys).length c1)) (inX (Value.slice A1 (zs++ys).length c1) S) a as w1:=
   h.take hcx hkeep (fun k hk=>.inr hk) (fun k hk hn=>hg.block k hk (fun e=>hn id (by simp) hown1 ((hBk k).2 e))) (fun k hk _=>⟨.inl hk,((hat k hk).1).imp (fun h5=>⟨id,by simp,hown1,(hBk k).2 h5⟩) (fun h5=>by omega)⟩) ⟨cs2,hrow2,hels2⟩ (by intros;simp)
  refine ⟨_,_,_,w1,hk,⟨⟨_,_,hrp,?_,hkeep⟩,(Ext.at s id .gone).trans (Ext.new _ _),rfl,fun e9=>?_⟩,hrun⟩
  ·exact VS.of rfl (by unfold VC;exact ⟨lt_succ_self _,by rw [I5];rfl,by rw [I5];rfl⟩)
  ·intro hk9 hq9;exact hg.block e9 hk9 (fun e=>hq9 id hid hown1 (h0Y (f0n s) (Ext.at s id .gone) (Ext.new _ _)) ((hBk e9).2 e))
 ·cases hdst
theorem B0i (_hE:Q1 E) (h:Rp E A s ρ S a as w) {id r0 f:Nat} {j:Int} {s1:St E.D} (hl:E0 s id=.rof r0 j f) (ho:o0a E s r0 j f=some s1) :
  ∃ ρ1,Rp E A s1 ρ1 S a as w/\(∀ i,i<s.nid->hd (ρ1 i)=hd (ρ i))/\VS E ρ1 s1.nid w.heap S (.sl s.nid) (hd (ρ id))/\Ext s s1/\s1.fr=s.fr/\(∀ q,q<s.nid->P1 (E0 s1 q)=true->P1 (E0 s q)=true)/\(∃ r',r'<s.nid/\P1 (E0 s r')=true/\Z6 s s1 r'=true/\∀ q k,q<s1.nid->Bk (ρ1 q) k->(q<s.nid/\Bk (ρ q) k)\/Bk (ρ r') k)/\s.nid<=s1.nid:=by
 unfold o0a at ho;split at ho<;>try cases ho
 rename_i e F t xs htab;split at ho<;>try cases ho
 rename_i u zs e' hrv he';have hq:=d0U htab;have hown:P1 (E0 s r0)=true:=by rw [hq];rfl
 have hlt:=h.F7 (id:=r0) (by rw [hq];simp);obtain ⟨_,e1,⟨er,hLs⟩,hblk⟩:=h.h0a hl hrv;obtain ⟨b2,o2,m2,c2,k1,k2,k3,k4⟩:=h.rf id r0 j f hl e F t xs hq;have ht:=h.th r0;rw [hq] at ht;obtain ⟨cs,ht⟩:=ht;have hrw:=ht.row;rw [k1] at hrw;obtain ⟨rfl,_,_,hcell⟩:=Row.cell hrw (by omega);have hrow:V3 E t (U6 E t xs j) f=some ⟨u,zs⟩:=by unfold a09 at hrv;rw [hq] at hrv;exact hrv
 have hget:=Y9 (E:=E) (t:=t) (xs:=xs) k2.1 k2.2;obtain ⟨hr0,h5,hL⟩:=ht.rows j.toNat _ f u zs _ hget hrow he' (by simp);have hp0:rowAt F j.toNat f<cs.length:=(List.getElem?_eq_some_iff.1 h5).1;have h6:=hcell w.heap rfl _ (by rw [<-ht.row.1];exact hp0);rw [h5] at h6;have k4:U2 w.heap b2 (o2+rowAt F j.toNat f)=some (ρ id):=k4;rw [k4] at h6;obtain rfl:=Option.some.inj h6;have h8:=d0I (o:=none) k3 (by simp) h5 (by simp);rw [<-ht.tl] at h8;have htl0:Go.X.tl (ρ r0)=cs:=ht.tl;generalize hpp:rowAt F j.toNat f=p at hp0 h5 h8;have hhd:hd (Value.tuple (hd (ρ r0) :: cs.set p D7).toArray)=hd (ρ r0):=rfl;have htl:Go.X.tl (Value.tuple (hd (ρ r0) :: cs.set p D7).toArray)=cs.set p D7:=rfl;have key:∀ (i1:Nat) (v1:Value) k',(hd (ρ r0) :: cs.set p D7)[i1]?=some v1->D1 v1=some k'->i1≠p+1/\(hd (ρ r0) :: Go.X.tl (ρ r0))[i1]?=some v1:=by
  intro i1 v1 k' hv1 hk;cases i1 with
  |zero=>exact ⟨by omega,hv1⟩
  |
   succ i1=>
   simp only [List.getElem?_cons_succ] at hv1 ⊢
   by_cases e1:i1=p
   ·subst e1;rw [List.getElem?_set_self hp0] at hv1;obtain rfl:=Option.some.inj hv1;cases hk
   ·rw [List.getElem?_set_ne (Ne.symm e1)] at hv1;exact ⟨by omega,by rw [htl0];exact hv1⟩
 have inB:∀ (i1:Nat) (v1:Value) k',(hd (ρ r0) :: Go.X.tl (ρ r0))[i1]?=some v1->D1 v1=some k'->Bk (ρ r0) k':=by
  intro i1 v1 k' hv1 hk;rcases mem_cons.1 (mem_of_getElem? hv1) with rfl | h9
  ·exact Bk.hd hk
  ·exact Bk.tl h9 hk
 have bk2:∀ k',Bk (Value.tuple (hd (ρ r0) :: cs.set p D7).toArray) k'->∃ i1 v1,i1≠p+1/\(hd (ρ r0) :: Go.X.tl (ρ r0))[i1]?=some v1/\D1 v1=some k':=by
  intro k' hk';have:∃ u'∈hd (ρ r0) :: cs.set p D7,D1 u'=some k':=by
   rcases c0Y.1 hk' with hk' | ⟨u',hu',hk'⟩
   ·exact ⟨_,List.mem_cons_self,hk'⟩
   ·exact ⟨u',mem_cons_of_mem _ hu',hk'⟩
  obtain ⟨u',hu',hk2⟩:=this;obtain ⟨i1,hi1⟩:=List.getElem?_of_mem hu';obtain ⟨q1,q2⟩:=key i1 u' k' hi1 hk2;exact ⟨i1,u',q1,q2,hk2⟩
 have hrp:=h.s0n (id:=r0) (x:=.B1 e F t xs (some (j,f))) (v:=Value.tuple (hd (ρ r0) :: cs.set p D7).toArray) (G:=C9 r0 s.th) hown hhd h.cx (U0.refl _ _) (fun _ h=>h) (fun _ _ _=>rfl) (fun k' hk'=>by
   obtain ⟨i1,v1,_,q2,q3⟩:=bk2 k' hk';exact .inl (inB i1 v1 k' q2 q3)) (by
   refine ⟨cs,ht.row,by rw [htl];unfold d0A;simp only [hpp],ht.ok,fun j' g' e2=>?_,fun i' x' f' u2 ys2 e2 g1 g2 g3 g4=>?_,ht.one,fun i1 i2 v1 v2 hne hv1 hv2 k' hk1 hk2=>?_⟩
   ·cases e2;exact ⟨k2.1,k3⟩
   ·exact ht.rows i' x' f' u2 ys2 e2 g1 g2 g3 (by simp)
   ·rw [hhd,htl] at hv1 hv2;exact ht.ap i1 i2 v1 v2 hne (key i1 v1 k' hv1 hk1).2 (key i2 v2 k' hv2 hk2).2 k' hk1 hk2) (fun r' i' f' hr'=>i0K hr') (by intros;simp)
 have hnid:((X0 s (C9 r0 s.th)).at r0 (Th.B1 e F t xs (some (j,f)))).nid=s.nid:=(a0d _ s).1;have hfo:=S5.form hL;obtain ⟨A0,c0,hfo⟩:=hfo;have hadd:=hrp.r0N (x:=.lst e' u zs) (v:=ρ id) (fun k' hk' _=>by
   rw [hfo] at hk';have hk':D1 (ρ id)=some k':=by rw [hfo];exact hk'
   refine ⟨h.ow r0 hown k' (Bk.tl (mem_of_getElem? h8) hk'),fun j' hj' hk2=>?_⟩
   by_cases e2:j'=r0
   ·subst e2;rw [I5] at hk2;obtain ⟨i1,v1,q1,q2,q3⟩:=bk2 k' hk2;exact ht.ap i1 (p+1) v1 (ρ id) q1 q2 (by simpa using h8) k' q3 hk'
   ·rw [G5 e2] at hk2;rw [G8,if_neg (Ne.symm e2),d0p] at hj';split at hj'
    ·cases hj'
    ·exact h.dj r0 j' (Ne.symm e2) hown hj' k' (Bk.tl (mem_of_getElem? h8) hk') hk2) hL (fun _ _ _ e=>by cases e)
 rw [hnid] at hadd;refine ⟨_,hadd,fun i hi=>?_,?_,((Ext.X0 s _).trans (Ext.at _ r0 _)).trans (Ext.new _ _),(a0d _ s).2.1,fun q hq ho=>?_,?_,?_⟩
 ·rw [G5 (by omega)]
  by_cases e2:i=r0
  ·subst e2;rw [I5];exact hhd
  ·rw [G5 e2]
 ·refine VS.of rfl ?_;unfold VC;rw [I5];have hnid:((N7 s r0).at r0 (Th.B1 e F t xs (some (j,f)))).nid=s.nid:=hnid;refine ⟨by show s.nid<_+1;rw [hnid];omega,by rw [hfo];rfl,rfl⟩
 ·have hnid:((N7 s r0).at r0 (Th.B1 e F t xs (some (j,f)))).nid=s.nid:=hnid;rw [k0c,if_neg (by rw [hnid];omega),G8] at ho;split at ho
  ·rename_i e2;subst e2;exact hown
  ·unfold N7 at ho;rw [d0p] at ho;split at ho
   ·cases ho
   ·exact ho
 ·refine ⟨r0,hlt,hown,h0Y (g0F (Ext.X0 s _)) ((Ext.X0 s _).trans (Ext.at _ r0 _)) (Ext.new _ _),fun q k' hq1 hk'=>?_⟩;have hnid:((N7 s r0).at r0 (Th.B1 e F t xs (some (j,f)))).nid=s.nid:=hnid;have hq1:q<s.nid+1:=by rw [<-hnid];exact hq1
  by_cases e1:q=s.nid
  ·subst e1;rw [I5] at hk';rw [hfo] at hk';exact .inr (Bk.tl (mem_of_getElem? h8) (by rw [hfo];exact hk'))
  ·rw [G5 e1] at hk'
   by_cases e2:q=r0
   ·subst e2;rw [I5] at hk';obtain ⟨i1,v1,_,q2,q3⟩:=bk2 k' hk';exact .inr (inB i1 v1 k' q2 q3)
   ·rw [G5 e2] at hk';exact .inl ⟨by omega,hk'⟩
 ·have hnid:((N7 s r0).at r0 (Th.B1 e F t xs (some (j,f)))).nid=s.nid:=hnid;show s.nid<=_+1;rw [hnid];omega
def b07 (n:Nat):Ty (List Value) where
 sz:=n
 R:=fun _ _ cs x=>cs=x/\x.length=n/\∀ v∈x,v.oneCell'=true
 len:=by rintro _ _ _ _ ⟨rfl,h,_⟩;exact h
 one:=by rintro _ _ _ _ ⟨rfl,_,h⟩;exact h
 L1:=fun _ h=>h
theorem p07 {n:Nat} {H:K0} {S:D0}:∀ (zs:List (List Value)) (cs:List Value),U1 (b07 n) H S cs zs->cs=zs.flatten
 |
  [],cs,h=>by
  have:=h.1;simp at this;rw [this];rfl
 |
  z :: zs,cs,h=>by
  have h0:=h.2 0 z rfl;simp only [Nat.zero_mul,List.drop_zero] at h0;obtain ⟨h1,h2,_⟩:=h0;have h1:cs.take n=z:=h1;have hl:cs.length=(zs.length+1)*n:=h.1;have ih:=p07 (H:=H) (S:=S) zs (cs.drop n) ⟨by show (cs.drop n).length=zs.length*n;rw [length_drop,hl,succ_mul];omega,fun i x hx=>by
   have:=h.2 (i+1) x hx;show (((cs.drop n).drop (i*n)).take n)=x/\_;rw [drop_drop,show n+i*n=(i+1)*n from by rw [succ_mul];omega];exact this⟩
  rw [List.flatten_cons,<-ih,<-h1,take_append_drop]
theorem l0X {n:Nat} {H:K0} {S:D0}:∀ (m:Nat) (cs:List Value),cs.length=m*n->(∀ v∈cs,v.oneCell'=true)->∃ zs:List (List Value),zs.length=m/\zs.flatten=cs/\U1 (b07 n) H S cs zs
 |
  0,cs,h,_=>by
  have:cs=[]:=eq_nil_of_length_eq_zero (by simpa using h);subst this;exact ⟨[],rfl,rfl,U1.nil⟩
 |
  m+1,cs,h,h1=>by
  rw [succ_mul] at h;obtain ⟨zs,e1,e2,e3⟩:=l0X (n:=n) (H:=H) (S:=S) m (cs.drop n) (by rw [length_drop];omega) (fun v hv=>h1 v (List.mem_of_mem_drop hv));have hz:(b07 n).R H S (cs.take n) (cs.take n):=⟨rfl,by rw [length_take];omega,fun v hv=>h1 v (List.mem_of_mem_take hv)⟩
  refine ⟨cs.take n :: zs,by simp [e1],by rw [List.flatten_cons,e2,take_append_drop],?_⟩;have:=(U1.one hz).append e3
  rwa [take_append_drop] at this
structure v8 (E:Env) (H:K0) (S:D0) (F:List Nat) (t:U) (xs:List (Den E.D t)) (cs:List Value):Prop where
 len:cs.length=xs.length*F.length
 rows:∀ (i:Nat) (x:Den E.D t) (f:Nat) (u:U) (ys:List (Den E.D u)) (e':Nat),xs[i]?=some x->V3 E t x f=some ⟨u,ys⟩->F[f]?=some e'->∃ r,cs[rowAt F i f]?=some r/\S5 E H S e' u ys r
 one:∀ u∈cs,u.oneCell'=true
theorem v8.app {H:K0} {F:List Nat} {t:U} {xs ys:List (Den E.D t)} {cs ds:List Value} (h:v8 E H S F t xs cs) (k:v8 E H S F t ys ds):v8 E H S F t (xs++ys) (cs++ds):=by
 refine ⟨by rw [length_append,length_append,h.len,k.len,Nat.add_mul],fun i x f u zs e' h1 h2 h3=>?_,fun u hu=>?_⟩
 ·rcases lt_or_ge i xs.length with hi | hi
  ·rw [List.getElem?_append_left hi] at h1;obtain ⟨r,h4,h5⟩:=h.rows i x f u zs e' h1 h2 h3;exact ⟨r,by rw [List.getElem?_append_left (List.getElem?_eq_some_iff.1 h4).1];exact h4,h5⟩
  ·rw [List.getElem?_append_right hi] at h1;obtain ⟨r,h4,h5⟩:=k.rows _ x f u zs e' h1 h2 h3;refine ⟨r,?_,h5⟩;have:rowAt F i f=cs.length+rowAt F (i-xs.length) f:=by
    unfold rowAt;rw [h.len];have:i*F.length=xs.length*F.length+(i-xs.length)*F.length:=by rw [<-Nat.add_mul];congr 1;omega
    omega
   rw [this,List.getElem?_append_right (by omega),Nat.add_sub_cancel_left];exact h4
 ·rcases mem_append.1 hu with h1 | h1
  ·exact h.one u h1
  ·exact k.one u h1
theorem v8.mono {H H':K0} {S1:D0} {F:List Nat} {t:U} {xs:List (Den E.D t)} {cs:List Value} (kp:U0 H S H' S1) (hb:∀ u∈cs,∀ b,D1 u=some b->H'[b]?=H[b]?) (h:v8 E H S F t xs cs):v8 E H' S1 F t xs cs:=
 ⟨h.len,fun i x f u ys e' h1 h2 h3=>by
  obtain ⟨r,h4,h5⟩:=h.rows i x f u ys e' h1 h2 h3;exact ⟨r,h4,h5.mono kp (hb r (mem_of_getElem? h4))⟩,h.one⟩
theorem v8.live {H:K0} {F:List Nat} {t:U} {xs:List (Den E.D t)} {cs:List Value} (ho:l9 E t F=true) (h:v8 E H S F t xs cs):∀ u∈cs,∀ b,D1 u=some b->b<H.size:=by
 intro u hu b hb;obtain ⟨p,hp⟩:=List.getElem?_of_mem hu;have hlt:p<xs.length*F.length:=by rw [<-h.len];exact (List.getElem?_eq_some_iff.1 hp).1
 have hn:0<F.length:=by
  rcases eq_zero_or_pos F.length with e | e
  ·rw [e] at hlt;omega
  ·exact e
 have hi:p / F.length<xs.length:=(Nat.div_lt_iff_lt_mul hn).2 hlt;have hf:=Nat.mod_lt p hn;have hpe:p=rowAt F (p / F.length) (p % F.length):=by
  unfold rowAt;rw [mul_comm];exact (Nat.div_add_mod p F.length).symm
 obtain ⟨w',ys,hr⟩:=(d0v ho).2 xs[p / F.length] _ hf;obtain ⟨r,h1,_,h2,_⟩:=h.rows (p / F.length) _ (p % F.length) w' ys _ (List.getElem?_eq_getElem hi) hr (List.getElem?_eq_getElem hf);rw [<-hpe,hp] at h1;obtain rfl:=Option.some.inj h1;exact Row.live h2 b hb
theorem v02 (h:Rp E A s ρ S a as w) {e:Nat} {F:List Nat} {t:U} {x:V E.D} {ux:Value} (hx:VS E ρ s.nid w.heap S x ux) {g:Option Nat} {xs:List (Den E.D t)} (hd:h0C E s e F t x=some (g,xs)) :
  ∃ cs,Row w.heap e (J0 E t).sz ux xs.length cs/\(l9 E t F=true->v8 E w.heap S F t xs cs)/\f0H (ux :: cs)/\∀ u∈ux :: cs,∀ k,D1 u=some k->∃ j,g=some j/\j<s.nid/\P1 (E0 s j)=true/\Bk (ρ j) k:=by
 cases x with
 |
  nil=>
  simp only [h0C,Option.some.injEq,Prod.mk.injEq] at hd;obtain ⟨rfl,rfl⟩:=hd;obtain rfl:=hx.b0n;refine ⟨[],⟨by simp,.inl ⟨rfl,none,rfl⟩⟩,fun _=>⟨by simp,fun i x f u ys e' h1=>by simp at h1,by simp⟩,fun i j v v' _ hv _ k hk=>?_,fun u hu k hk=>?_⟩
  ·have:=mem_of_getElem? hv;simp at this;subst this;cases hk
  ·simp at hu;subst hu;cases hk
 |
  sl id=>
  simp only [h0C] at hd;split at hd<;>try cases hd
  rename_i e' F' t' xs' htab;split at hd<;>try cases hd
  rename_i hee hc;rw [and_eq_true,beq_eq,beq_iff_eq] at hee;obtain ⟨rfl,rfl⟩:=hee;obtain ⟨e2,hc⟩:=L9 hc;subst e2;subst hc;obtain ⟨hid,rfl⟩:=hx.X9;have hl:=d0U htab;have ht:=h.th id;rw [hl] at ht;obtain ⟨cs,ht⟩:=ht;have htl0:Go.X.tl (ρ id)=cs:=ht.tl;refine ⟨cs,ht.row,fun _=>⟨ht.sz,fun i x f u ys e' h1 h2 h3=>ht.rows i x f u ys e' h1 h2 h3 (by simp),ht.one⟩,by rw [<-htl0];exact ht.ap,fun u hu k hk=>⟨id,rfl,hid,by rw [hl];rfl,?_⟩⟩;rcases mem_cons.1 hu with rfl | hu
  ·exact Bk.hd hk
  ·exact Bk.tl (by rw [htl0];exact hu) hk
 |_=>simp [h0C] at hd
theorem H8.of {H:K0} {e:Nat} {F:List Nat} {t:U} {xs:List (Den E.D t)} {v0:Value} {cs:List Value} (hrow:Row H e (J0 E t).sz v0 xs.length cs) (hok:l9 E t F=true) (hr:v8 E H S F t xs cs) (hap:f0H (v0 :: cs)):H8 E H S e F t xs none (.tuple (v0 :: cs).toArray) cs:=
 ⟨hrow,rfl,hok,(fun _ _ h=>by cases h),fun i x f u ys e' h1 h2 h3 _=>hr.rows i x f u ys e' h1 h2 h3,hr.one,hap⟩
theorem w0S (hE:Q1 E) (h:Rp E A s ρ S a as w) {R:Type} {k:K E R} {r:R} {T iy:Nat} {x:V E.D} {ux:Value} (hx:VS E ρ s.nid w.heap S x ux) (ty:Nat) (hk:n0r E s T x iy k=some r) :
  ∃ s1 v u w1,k s1 v=some r/\z6 E A s ρ S a as w s1 v u w1/\(Builtin.append_ #[T,T] ty #[ux,hd (ρ iy)]).run E.P w=.ok u w1:=by
 unfold n0r at hk;split at hk<;>try cases hk
 rename_i e he;split at hk<;>try cases hk
 rename_i t z sz bytes e2 F t' ys' ht hin htab;split at hk<;>try cases hk
 rename_i ys g xs hel hcast hdst;split at hk<;>try cases hk
 rename_i hne;split at hk<;>try cases hk
 rename_i hfit;simp only [and_eq_true,beq_eq] at hel;obtain ⟨⟨hel,rfl⟩,htok⟩:=hel;obtain ⟨ec,hcast⟩:=L9 hcast;subst ec;subst hcast;obtain ⟨rfl,h1,h2,h3⟩:=c09 hel;obtain ⟨i,hi,hz0,hsz,hby⟩:=c0W hin;have hT:=c01 he;have hly:=d0U htab;have hown:P1 (E0 s iy)=true:=by rw [hly];rfl
 have hidy:=h.F7 (id:=iy) (by rw [hly];simp);obtain ⟨cs,hrow,hrows,hap,hbx⟩:=v02 h hx hdst;have hrows:=hrows htok;have hty:=h.th iy;rw [hly] at hty;obtain ⟨ds,hty⟩:=hty;have htl0:Go.X.tl (ρ iy)=ds:=hty.tl;have hE':(E.P.info? e).map (fun i=>(i.zero,i.size,i.bytes))=some (some z,(b07 (J0 E t').sz).sz,bytes):=by rw [hi];simp [hz0,hsz,hby,b07]
 have hzs:(decide (z.cells.size=(b07 (J0 E t').sz).sz)&&decide (0<(b07 (J0 E t').sz).sz)&&decide (0<bytes))=true:=by simp [b07,h1,h2,h3]
 obtain ⟨zx,ex1,ex2,ex3⟩:=l0X (n:=(J0 E t').sz) (H:=w.heap) (S:=S) xs.length cs hrow.1 hrows.one;obtain ⟨zy,ey1,ey2,ey3⟩:=l0X (n:=(J0 E t').sz) (H:=w.heap) (S:=S) ys'.length ds hty.row.1 hty.one;obtain ⟨A',c,hfy⟩:=Row.form hty.row;have hrwy:=hty.row;rw [hfy] at hrwy;have hrd:V5 (b07 (J0 E t').sz) w.heap S A' zy:=by
  intro p q hq;have hp:p<ys'.length:=by rw [<-ey1];exact (List.getElem?_eq_some_iff.1 hq).1
  cases A' with
  |
   none=>
   rcases hrwy.2 with ⟨h0,_⟩ | ⟨g,cap,cur,hv,_⟩
   ·omega
   ·cases hv
  |
   some ad=>
   obtain ⟨b,o,fl⟩:=ad;have hfl:fl=none:=by
    rcases hrwy.2 with ⟨h0,_⟩ | ⟨g,cap,cur,hv,_⟩
    ·omega
    ·simp at hv;exact hv.1.2.2
   subst hfl;obtain ⟨_,_,_,hc⟩:=Row.cell hrwy (by omega);have hR:=ey3.2 p q hq;refine ⟨b,o,_,rfl,hR,fun j v hj=>?_⟩;have hjs:j<(J0 E t').sz:=by
    rcases lt_or_ge j (J0 E t').sz with h | h
    ·exact h
    ·rw [List.getElem?_eq_none (by rw [length_take];show min (J0 E t').sz _<=j;omega)] at hj;cases hj
   have hj:((ds.drop (p*(J0 E t').sz)).take (J0 E t').sz)[j]?=some v:=hj;rw [List.getElem?_take_of_lt hjs,List.getElem?_drop] at hj;have hle:p*(J0 E t').sz+(J0 E t').sz<=ys'.length*(J0 E t').sz:=by rw [<-succ_mul];exact mul_le_mul_right _ hp
   show U2 w.heap b (o+p*(J0 E t').sz+j)=some v;rw [Nat.add_assoc,hc w.heap rfl _ (by omega)];exact hj
 have hbS:∀ u∈ux :: cs,∀ k,D1 u=some k->S k:=fun u hu k hk=>by
  obtain ⟨j,_,_,q1,q2⟩:=hbx u hu k hk;exact (h.ow j q1 k q2).1
 have hfit2:I0 bytes zx zy=true:=by unfold I0 at hfit ⊢;rw [ex1,ey1];exact hfit
 obtain ⟨v',w1,hrun,hg,hat,_,hdone⟩:=j0H (T:=b07 (J0 E t').sz) (S:=S) (w:=w) (ty:=ty) (c:=c) E.P hT hE' hzs (by rw [ex1];exact hrow) ex3 (fun k hk=>hbS ux (by simp) k hk) hrd hfit2;rw [ey1] at hrun;have hgb:∀ k,k<w.heap.size->D1 ux≠some k->w1.heap[k]?=w.heap[k]?:=fun k hk hn=>hg.block k hk hn;have hkeep:U0 w.heap S w1.heap (inX v' S):=⟨hg.size,fun b hb hn=>⟨fun hi=>by
   rcases hi with hi | hi
   ·rcases (hat b hi).1 with e | e
    ·exact hn (hbS ux (by simp) b e)
    ·omega
   ·exact hn hi,hgb b hb (fun e=>hn (hbS ux (by simp) b e))⟩⟩
 have hlt1:∀ k,D1 v'=some k->k<w1.heap.size:=fun k hk=>(hat k hk).2;obtain ⟨cs2,hrow2,hels2⟩:=hdone _ hkeep;have hflat:=p07 _ _ hels2;rw [List.flatten_append,ex2,ey2] at hflat;subst hflat;rw [length_append,ex1,ey1,<-length_append] at hrow2;have hk1:∀ k,D1 v'=some k->D1 ux=some k\/w.heap.size<=k:=fun k hk=>(hat k hk).1;have hv'1:∃ A1 c1,v'=.slice A1 (xs++ys').length c1:=Row.form hrow2;obtain ⟨A1,c1,hv'1⟩:=hv'1;have hyB:∀ u∈ds,∀ k,D1 u=some k->Bk (ρ iy) k:=fun u hu k hk=>Bk.tl (by rw [htl0];exact hu) hk;have hxy:∀ u∈ux :: cs,∀ k,D1 u=some k->¬ Bk (ρ iy) k:=fun u hu k hk=>by
  obtain ⟨j,hj,_,q1,q2⟩:=hbx u hu k hk;subst hj;refine h.dj j iy ?_ q1 hown k q2
  rintro rfl
  simp at hne
 have hrowsY:v8 E w.heap S F t' ys' ds:=⟨hty.sz,fun i x f u ys e' h1 h2 h3=>hty.rows i x f u ys e' h1 h2 h3 (by simp),hty.one⟩
 have hliveX:=hrows.live htok;have hliveY:=hrowsY.live htok;have apx:∀ u∈cs,∀ k,D1 u=some k->D1 ux≠some k:=fun u hu k hk hk2=>by
  obtain ⟨p,hp⟩:=List.getElem?_of_mem hu;exact hap 0 (p+1) ux u (by omega) rfl (by simpa using hp) k hk2 hk
 have hrows1:v8 E w1.heap (inX v' S) F t' (xs++ys') (cs++ds):=
  (hrows.mono hkeep fun u hu b hb=>hgb b (hliveX u hu b hb) (apx u hu b hb)).app (hrowsY.mono hkeep fun u hu b hb=>hgb b (hliveY u hu b hb) (fun e=>hxy ux (by simp) b e (hyB u hu b hb)))
 have hapN:f0H (v' :: (cs++ds)):=by
  have key:∀ (i:Nat) (u:Value),(v' :: (cs++ds))[i]?=some u->∀ k,D1 u=some k->(i=0/\u=v')\/(0<i/\i<=cs.length/\(ux :: cs)[i]?=some u/\u∈cs)\/(cs.length<i/\(hd (ρ iy) :: Go.X.tl (ρ iy))[i-cs.length]?=some u/\u∈ds):=by
   intro i u hi k hk;cases i with
   |zero=>exact .inl ⟨rfl,(Option.some.inj hi).symm⟩
   |
    succ i=>
    simp only [List.getElem?_cons_succ] at hi;rcases lt_or_ge i cs.length with h9 | h9
    ·rw [List.getElem?_append_left h9] at hi;exact .inr (.inl ⟨by omega,by omega,by simpa using hi,mem_of_getElem? hi⟩)
    ·rw [List.getElem?_append_right h9] at hi;exact .inr (.inr ⟨by omega,by rw [htl0,show i+1-cs.length=(i-cs.length)+1 from by omega];simpa using hi,mem_of_getElem? hi⟩)
  intro i j v1 v2 hne2 hi hj k q1 q2;have v'X:∀ u∈cs,D1 u=some k->D1 v'≠some k:=fun u hu hk hk2=>by
   rcases hk1 k hk2 with h9 | h9
   ·exact apx u hu k hk h9
   ·have:=hliveX u hu k hk;omega
  have v'Y:∀ u∈ds,D1 u=some k->D1 v'≠some k:=fun u hu hk hk2=>by
   rcases hk1 k hk2 with h9 | h9
   ·exact hxy ux (by simp) k h9 (hyB u hu k hk)
   ·have:=hliveY u hu k hk;omega
  rcases key i v1 hi k q1 with ⟨i0,rfl⟩ | ⟨i0,i1,i2,i3⟩ | ⟨i0,i1,i2⟩
  ·rcases key j v2 hj k q2 with ⟨j0,rfl⟩ | ⟨j0,j1,j2,j3⟩ | ⟨j0,j1,j2⟩
   ·omega
   ·exact v'X v2 j3 q2 q1
   ·exact v'Y v2 j2 q2 q1
  ·rcases key j v2 hj k q2 with ⟨j0,rfl⟩ | ⟨j0,j1,j2,j3⟩ | ⟨j0,j1,j2⟩
   ·exact v'X v1 i3 q1 q2
   ·exact hap i j v1 v2 hne2 i2 j2 k q1 q2
   ·exact hxy v1 (by simp [i3]) k q1 (hyB v2 j2 k q2)
  ·rcases key j v2 hj k q2 with ⟨j0,rfl⟩ | ⟨j0,j1,j2,j3⟩ | ⟨j0,j1,j2⟩
   ·exact v'Y v1 i2 q1 q2
   ·exact hxy v2 (by simp [j3]) k q2 (hyB v1 i2 k q1)
   ·exact hty.ap _ _ v1 v2 (by omega) i1 j1 k q1 q2
 have hcx:Cx A.w0 A.W0 A.S0 w1 (inX v' S):=by
  have cx:=h.cx;refine ⟨⟨hg.os.trans cx.bel.os,hg.tape.trans cx.bel.tape,hg.output.trans cx.bel.output,le_trans cx.bel.size hg.size,fun k hk hn=>(hgb k (by have:=cx.size;omega) (fun e=>?_)).trans (cx.bel.block k hk hn)⟩,fun b hb=>.inr (cx.sub b hb),fun b hb=>?_,cx.lt0⟩
  ·obtain ⟨j,_,_,q1,q2⟩:=hbx ux (by simp) k e;rcases (h.ow j q1 k q2).2.2 with h2 | h2
   ·exact hn h2
   ·omega
  ·rcases hb with hb | hb
   ·exact hlt1 b hb
   ·exact Nat.lt_of_lt_of_le (cx.lt b hb) hg.size
 have hG:∃ G:List Nat,(c0l s g).at iy .gone=X0 s G/\iy∈G/\∀ j,g=some j->j∈G:=by
  cases g with
  |none=>exact ⟨[iy],rfl,by simp,fun j hj=>by cases hj⟩
  |some j=>exact ⟨[j,iy],rfl,by simp,fun j' hj=>by cases hj;simp⟩
 obtain ⟨G,hG1,hG2,hG3⟩:=hG;rw [hG1] at hk;have hrp:=h.take (x:=.B1 e F t' (xs++ys') none) (v:=.tuple (v' :: (cs++ds)).toArray) (G:=G) hcx hkeep (fun k hk=>.inr hk) (fun k hk hn=>hgb k hk fun e=>by
   obtain ⟨j,q0,_,q1,q2⟩:=hbx ux (by simp) k e;exact hn j (hG3 j q0) q1 q2) (fun k hk _=>by
   rcases c0Y.1 hk with hk | ⟨u,hu,hk⟩
   ·have hk:D1 v'=some k:=hk;refine ⟨.inl hk,?_⟩;rcases hk1 k hk with h9 | h9
    ·obtain ⟨j,q0,_,q1,q2⟩:=hbx ux (by simp) k h9;exact .inl ⟨j,hG3 j q0,q1,q2⟩
    ·exact .inr (by omega)
   ·have hu:u∈cs++ds:=hu;rcases mem_append.1 hu with hu | hu
    ·obtain ⟨j,q0,_,q1,q2⟩:=hbx u (by simp [hu]) k hk;exact ⟨.inr (h.ow j q1 k q2).1,.inl ⟨j,hG3 j q0,q1,q2⟩⟩
    ·exact ⟨.inr (h.ow iy hown k (hyB u hu k hk)).1,.inl ⟨iy,hG2,hown,hyB u hu k hk⟩⟩) ⟨_,H8.of hrow2 htok hrows1 hapN⟩ (by intros;simp)
 refine ⟨_,_,v',w1,hk,⟨⟨_,_,hrp,?_,hkeep⟩,(Ext.X0 s G).trans (Ext.new _ _),(a0d G s).2.1,fun e9=>?_⟩,by rw [hfy];exact hrun⟩
 ·refine VS.of rfl ?_;unfold VC;rw [I5];refine ⟨?_,by show v'.oneCell'=true;rw [hv'1];rfl,rfl⟩;show s.nid<(X0 s G).nid+1;rw [(a0d G s).1];omega
 ·intro hk9 hq9;exact hgb e9 hk9 fun e=>by
   obtain ⟨j,q0,q3,q1,q2⟩:=hbx ux (by simp) e9 e;exact hq9 j q3 q1 (x0T (hG3 j q0)) q2
theorem x0W {α:Type} {T:Ty α} {t ty e:TypeId} {bytes:Nat} {z:Value} {xs ys:List α} {A B:Option Addr} {c d:Nat} (P:Program) (ht:P.underlying t=some (.slice e)) (hE:(P.info? e).map (fun i=>(i.zero,i.size,i.bytes))=some (some z,T.sz,bytes)) (hzs:(decide (z.cells.size=T.sz)&&decide (0<T.sz)&&decide (0<bytes))=true)
  (hxs:Sl T w.heap S B d xs) (hd:d<=xs.length) (hys:V5 T w.heap S A ys) (hfit:I0 bytes xs ys=true) (hlt:∀ b,S b->b<w.heap.size) :
  ∃ w1 A1 c1,(Builtin.append_ #[t,t] ty #[.slice B xs.length d,.slice A ys.length c]).run P w=.ok (.slice A1 (xs++ys).length c1) w1/\Below w.heap.size w w1/\Sl T w1.heap S A1 c1 (xs++ys):=by
 obtain ⟨i,hi,hi2⟩:=Option.map_eq_some_iff.1 hE;simp only [Prod.mk.injEq] at hi2;obtain ⟨hz,hsz,hby⟩:=hi2;simp only [and_eq_true,decide_eq_true_eq] at hzs;simp only [I0,decide_eq_true_eq] at hfit;have hd2:=hxs.1;have hdd:d=xs.length:=by omega
 have hmax:xs.length+ys.length<=maxLen:=by
  have:xs.length+ys.length<=(xs.length+ys.length)*bytes:=Nat.le_mul_of_pos_right _ hzs.2;simp only [maxLen];omega
 rcases eq_zero_or_pos ys.length with h0 | hpos
 ·have h0:ys=[]:=eq_nil_of_length_eq_zero h0;subst h0;refine ⟨w,B,d,?_,Below.refl _ w,by simpa using hxs⟩;rw [List.append_nil];cases A<;>cases B<;>simp [Builtin.append_,run_underlying ht,sizeOf,typeInfo,hi,Builtin.lenOf,Builtin.firstCells,loadCells,loadCellsFrom,hd2,storeCells]
 ·obtain ⟨b,off,_,hA,_⟩:=hys 0 ys[0] (by simp [hpos]);subst hA;have rd:∀ {A:Option Addr} {xs:List α},V5 T w.heap S A xs->∃ news,U1 T w.heap S news xs/\∀ b o,A=some ⟨b,o,none⟩->∀ j u,news[j]?=some u->U2 w.heap b (o+0*T.sz+j)=some u:=fun hr=>V5.news (w:=w) (k:=0) (fun i x hx=>by
   obtain ⟨b,o,cs,h1,h2,h3⟩:=hr i x hx;exact ⟨b,o,cs,h1,h2,fun j v hj=>by rw [zero_add];exact h3 j v hj⟩)
  obtain ⟨news,hen,hcells⟩:=rd hys;obtain ⟨olds,heo,hcello⟩:=rd hxs.rdb;have hnews:∀ j u,news[j]?=some u->w.cell? ((⟨b,off,none⟩:Addr).add j)=some u:=by
   intro j u hj;rw [b0a];have:=hcells b off rfl j u hj;simpa using this
  have key:∃ v' w1,(Builtin.append_ #[t,t] ty #[.slice B xs.length d,.slice (some ⟨b,off,none⟩) ys.length c]).run P w=.ok v' w1/\w1.ownsRow w.heap.size e T.sz v' (xs.length+ys.length) (olds++news)/\Below w.heap.size w w1:=by
   cases B with
   |
    none=>
    have hx0:xs=[]:=by
     cases xs with
     |nil=>rfl
     |cons y ys=>obtain ⟨b,o,cs,h,_⟩:=hxs.rdb 0 y (by simp);cases h
    subst hx0;have hdz:d=0:=hdd;subst hdz;have ho0:olds=[]:=eq_nil_of_length_eq_zero (by have:=heo.1;simpa using this);subst ho0;obtain ⟨v',w',hrun,h2,h3,_,_⟩:=run_append_own_at (P:=P) w w.heap.size t ty e i z T.sz bytes ht hi hz hsz hby hzs.1.1 hzs.1.2 (.slice none 0 0) 0 [] ⟨by simp,.inl ⟨rfl,rfl⟩⟩ ⟨b,off,none⟩ ys.length c news hen.1 hnews hen.f01 (by simpa using hmax) (by simpa using hfit) (le_refl _);exact ⟨v',w',hrun,by simpa using h2,h3.os,h3.tape,h3.output,h3.size,fun k hk=>h3.block k hk (by simp [Value.ownBlock])⟩
   |
    some ad=>
    obtain ⟨v',w',hrun,h2,h3⟩:=run_append_arg_grows (P:=P) w t ty e i z T.sz bytes ht hi hz hsz hby hzs.1.1 hzs.1.2 ad xs.length d olds heo.1 (fun j u hj=>by
     have hj':j<olds.length:=by
      rcases lt_or_ge j olds.length with h | h
      ·exact h
      ·rw [List.getElem?_eq_none h] at hj;cases hj
     have hne:xs≠[]:=by rintro rfl;have:=heo.1;simp only [List.length_nil,Nat.zero_mul] at this;omega
     obtain ⟨b2,o2,hA2,_⟩:=hxs.2.1 hne;have hA2:=Option.some.inj hA2;subst hA2;rw [b0a];have:=hcello b2 o2 rfl j u hj;simpa using this) ⟨b,off,none⟩ ys.length c news hen.1 hnews (by omega) hmax hfit
    exact ⟨v',w',hrun,h2,h3.os,h3.tape,h3.output,h3.size,fun k hk=>h3.block k hk (by simp)⟩
  obtain ⟨v',w1,hrun,hrow,hb⟩:=key;have hk:U0 w.heap S w1.heap S:=U0.ext S hb;obtain ⟨hl,hv | ⟨g,cap,cur,hv,hgb,hg,hnc,hm,hcs,htake⟩⟩:=hrow
  ·exact absurd hv.2 (by omega)
  ·have how:Ow T e (fun k=>w.heap.size<=k) w1.heap (fun k=>k=g\/S k) (.slice (some ⟨g,0,none⟩) (xs++ys).length cap) (xs++ys):=by
    refine ⟨fun k hk=>?_,olds++news,⟨by simpa using hl,.inr ⟨g,cap,cur,rfl,hg,by simpa using hnc,hm,hcs,by simpa using htake⟩⟩,?_⟩
    ·simp [Value.ownBlock] at hk;subst hk;exact ⟨.inl rfl,hgb⟩
    ·have k2:U0 w.heap S w1.heap (fun k=>k=g\/S k):=⟨hk.size,fun b hb hn=>⟨fun hi=>hi.elim (fun e=>by omega) hn,(hk.blk b hb hn).2⟩⟩
     exact (heo.L1 k2).append (hen.L1 k2)
   refine ⟨w1,some ⟨g,0,none⟩,cap,by rw [hrun,hv];simp,hb,how.freeze (fun _ h=>.inr h) (fun b hb hs=>?_)⟩;simp [Value.ownBlock] at hb;subst hb;have:=hlt _ hs;omega
theorem E0r (hE:Q1 E) (h:Rp E A s ρ S a as w) {R:Type} {k:K E R} {r:R} {T:Nat} {x y:V E.D} {ux uy:Value} (hx:VS E ρ s.nid w.heap S x ux) (hy:VS E ρ s.nid w.heap S y uy) (ty:Nat) (hk:n0i E s T x y k=some r) :
  ∃ s1 v u w1,k s1 v=some r/\z6 E A s ρ S a as w s1 v u w1/\(Builtin.append_ #[T,T] ty #[ux,uy]).run E.P w=.ok u w1:=by
 unfold n0i at hk;split at hk
 ·rename_i t' xs' hdf;have hxd:x=.df t' xs':=by
   cases x<;>simp only [j0W] at hdf<;>try cases hdf
   rfl
  subst hxd;unfold t0t at hk;split at hk<;>try cases hk
  rename_i e he;split at hk<;>try cases hk
  rename_i t z sz bytes ht hin;split at hk<;>try cases hk
  rename_i ys xs hel hsrc hc;split at hk<;>try cases hk
  rename_i hfit;obtain ⟨ec,hc⟩:=L9 hc;subst ec;subst hc;obtain ⟨rfl,h1,h2,h3⟩:=c09 hel;obtain ⟨i,hi,hz0,hsz,hby⟩:=c0W hin;have hT:=c01 he;obtain ⟨A',c,rfl,hrd⟩:=h0j h hy hsrc;obtain ⟨c0,hc0,rfl⟩:=hx;unfold VC at hc0;obtain ⟨B,rfl,hsl⟩:=hc0;have hE':(E.P.info? e).map (fun i=>(i.zero,i.size,i.bytes))=some (some z,(J0 E t').sz,bytes):=by rw [hi];simp [hz0,hsz,hby]
  have hzs:(decide (z.cells.size=(J0 E t').sz)&&decide (0<(J0 E t').sz)&&decide (0<bytes))=true:=by simp [h1,h2,h3]
  obtain ⟨w1,A1,c1,hrun,hb,hsl2⟩:=x0W (c:=c) (ty:=ty) E.P hT hE' hzs hsl (le_refl _) hrd hfit h.cx.lt;refine ⟨_,_,_,w1,hk,⟨⟨ρ,S,h.ext hb,VS.of rfl (by unfold VC;exact ⟨A1,c1,rfl,hsl2⟩),U0.ext S hb⟩,Ext.refl s,rfl,fun k hk _=>hb.block k hk⟩,hrun⟩
 ·exact t0Z hE h hx hy ty hk
theorem v00 (hE:Q1 E) (h:Rp E A s ρ S a as w) {R:Type} {k:K E R} {r:R} {T:Nat} {x y:V E.D} {ux uy:Value} (hx:VS E ρ s.nid w.heap S x ux) (hy:VS E ρ s.nid w.heap S y uy) (ty:Nat) (hk:l0V E s T x y k=some r) :
  ∃ s1 v u w1,k s1 v=some r/\z6 E A s ρ S a as w s1 v u w1/\(Builtin.append_ #[T,T] ty #[ux,uy]).run E.P w=.ok u w1:=by
 unfold l0V at hk;split at hk
 ·rename_i r0 j f hrx;split at hk<;>try cases hk
  rename_i s1 ho;cases x<;>simp only [p05] at hrx<;>try cases hrx
  rename_i id;split at hrx<;>try cases hrx
  rename_i hl;obtain ⟨_,rfl⟩:=hx.X9;obtain ⟨ρ1,h1,h2,h3,h4,h5,h6',h6,h7⟩:=B0i hE h hl ho;obtain ⟨s2,v,u,w1,q1,q2,q3⟩:=t0Z hE h1 h3 (hy.mono h2 h7 (U0.refl _ _)) ty hk;exact ⟨s2,v,u,w1,q1,⟨q2.rp,h4.trans q2.ext,q2.fr.trans h5,fun k hk hq=>q2.old k hk (fun q e1 e0 e2 e3=>by
   obtain ⟨r',g1,g0,g2,g3⟩:=h6;rcases g3 q k e1 e3 with ⟨e4,e5⟩ | e4
   ·exact hq q e4 (h6' q e4 e0) (y0Z e2 h4 q2.ext) e5
   ·exact hq r' g1 g0 (h0Y g2 h4 q2.ext) e4)⟩,q3⟩
 ·split at hk
  ·rename_i iy hiy;cases y<;>simp only [p0K] at hiy<;>try cases hiy
   split at hiy<;>try cases hiy
   obtain ⟨_,rfl⟩:=hy.X9;exact w0S hE h hx ty hk
  ·exact E0r hE h hx hy ty hk
def k0d:Nat->List (Nat×Value)->Prop
 |_,[]=>True
 |j,p :: r=>p.1=j/\k0d (j+1) r
theorem u0p (z:Nat):∀ (l:List (Nat×Value)) (j:Nat) (cells:Array Value) (d1 d2:List Value),cells.toList=d1++d2->d1.length=j*z->d2.length=l.length*z->k0d j l->(∀ p∈l,p.2.cells.size=z)->
  ∃ c',Instr.fill (fun i=>some (i*z,z)) cells l=some c'/\c'.toList=d1++l.flatMap (fun p=>p.2.cells.toList)
 |
  [],j,cells,d1,d2,h,_,h2,_,_=>by
  have:d2=[]:=eq_nil_of_length_eq_zero (by simpa using h2);subst this;exact ⟨cells,rfl,by simpa using h⟩
 |
  (i,u) :: l,j,cells,d1,d2,h,h1,h2,ho,hs=>by
  have hij:i=j:=ho.1;subst hij;have ho:k0d (i+1) l:=ho.2;have hu:u.cells.size=z:=hs (i,u) (by simp);have hd2:d2=d2.take z++d2.drop z:=(take_append_drop z d2).symm;simp only [List.length_cons,succ_mul] at h2;have hul:u.cells.toList.length=z:=by simpa using hu
  generalize hcl:u.cells.toList=cl at hul;have hua:u.cells=cl.toArray:=by rw [<-hcl]
  have hfold:=l0U cl 0 (i*z) cells d1 (d2.take z) (d2.drop z) (by rw [<-hd2];exact h) (by omega) (by rw [length_take];omega);have e:(u.cells.zipIdx.foldl (fun cs (p:Value×Nat)=>cs.setIfInBounds (i*z+p.2) p.1) cells).toList=(d1++cl)++d2.drop z:=by
   rw [append_assoc,<-hfold,hua];simp [<-Array.foldl_toList]
  obtain ⟨c',hf,hc'⟩:=u0p z l (i+1) _ (d1++cl) (d2.drop z) e (by rw [length_append,h1,succ_mul];omega) (by rw [length_drop];omega) ho (fun p hp=>hs p (by simp [hp]));refine ⟨c',?_,by rw [hc'];simp [hcl]⟩;have hsz:cells.size=d1.length+d2.length:=by have:=congrArg List.length h;simpa using this
  simp only [Instr.fill];rw [if_neg]
  ·exact hf
  ·rw [hu];simp;omega
theorem s0i (f:Operand->Value):∀ (l:List (Nat×Operand)) (j:Nat),i0h j l=true->k0d j (l.map fun p=>(p.1,f p.2))
 |[],_,_=>trivial
 |
  (i,x) :: l,j,h=>by
  simp only [i0h,and_eq_true,beq_eq] at h;exact ⟨h.1,s0i f l (j+1) h.2⟩
theorem u0h (hE:Q1 E) {s1:St E.D} {n:Nat} {H:K0} {S1:D0} (ht:∀ id,X3 E ρ n H S1 (E0 s1 id) (ρ id)) {t:U} (f:Operand->V E.D) (g:Operand->Value) (hf:∀ x,∀ c,VC E ρ n H S (f x) c->VC E ρ n H S1 (f x) c) (hg:∀ x,VS E ρ n H S (f x) (g x)) :
  ∀ (l:List (Nat×Operand)) (xs:List (Den E.D t)),(l.all fun p=>c0k (f p.2))=true->h0L E s1 t (l.map fun p=>f p.2)=some xs->xs.length=l.length/\U1 (J0 E t) H S1 ((l.map fun p=>(p.1,g p.2)).flatMap (fun p=>p.2.cells.toList)) xs/\∀ p∈(l.map fun p=>(p.1,g p.2)),∀ u∈p.2.cells.toList,u.oneCell'=true
 |
  [],xs,_,h=>by
  simp [h0L] at h;subst h;exact ⟨rfl,U1.nil,fun p hp=>by simp at hp⟩
 |
  p :: l,xs,hs,h=>by
  simp only [map_cons,h0L] at h;split at h<;>try cases h
  rename_i x xs' hx hxs;simp only [List.all_cons,and_eq_true] at hs;obtain ⟨h1,h2,h3⟩:=u0h hE ht f g hf hg l xs' hs.2 hxs;obtain ⟨c,hc,hcc,hone,hVC⟩:=(hg p.2).cells hE hs.1;have hR:=h0c hE ht hx (hf _ _ hVC);refine ⟨by simp [h1],?_,fun q hq u hu=>?_⟩
  ·rw [map_cons,List.flatMap_cons];have:(g p.2).cells.toList=c:=by rw [hcc]
   simp only [this];exact (U1.one hR).append h2
  ·rw [map_cons,mem_cons] at hq;rcases hq with rfl | hq
   ·rw [hcc] at hu;exact hone u hu
   ·exact h3 q hq u hu
theorem D0N (hE:Q1 E) (h:Rp E A s ρ S a as w) {R:Type} {k:K E R} {r:R} {T n:Nat} {parts:Array (Nat×Operand)} (hk:bsV E s T n parts.toList k=some r) :
  ∃ s1 v u w1,k s1 v=some r/\z6 E A s ρ S a as w s1 v u w1/\(Instr.buildSlice T n (parts.map fun p=>(p.1,a.eval p.2))).run E.P w=.ok u w1:=by
 unfold bsV at hk;split at hk<;>try cases hk
 rename_i e he;split at hk<;>try cases hk
 rename_i t z sz bytes ht hin;split at hk<;>try cases hk
 rename_i s1 hok hfz;split at hk<;>try cases hk
 rename_i xs hxs;simp only [and_eq_true,beq_eq,Nat.ble_eq,all_eq_true] at hok;obtain ⟨⟨⟨⟨⟨hel,hn⟩,hord⟩,hn1⟩,hsz1⟩,hall⟩:=hok;obtain ⟨rfl,h1,h2,h3⟩:=c09 hel;obtain ⟨i,hi,hz0,hsz,hby⟩:=c0W hin;have hT:=c01 he;obtain ⟨S1,hs1,hrp,hext,hfr,hnid⟩:=a0a hE _ s _ s1 hfz S h;have hth:=hrp.th;rw [hnid] at hth;obtain ⟨hl,hels,hone⟩:=u0h hE hth (T1 E s) a.eval (fun x c hc=>hc.c02 hs1) h.val parts.toList xs (all_eq_true.2 fun p hp=>(hall p hp).1) hxs;have hcell:∀ p∈parts.toList.map (fun p=>(p.1,a.eval p.2)),p.2.cells.size=(J0 E t).sz:=by
  intro p hp;obtain ⟨q,hq,rfl⟩:=List.mem_map.1 hp;obtain ⟨c,hc,hcc,_,hVC⟩:=(h.val q.2).cells hE (hall q hq).1;have:=i0G hE hVC (hall q hq).1;rw [(hall q hq).2] at this;simp only;rw [hcc];simpa using this
 have hm:n*i.size=n*(J0 E t).sz:=by rw [hsz]
 obtain ⟨c',hf,hc'⟩:=u0p (J0 E t).sz (parts.toList.map fun p=>(p.1,a.eval p.2)) 0 ((Array.range (n*i.size)).map (z.cells[· % z.cells.size]!)) [] _ rfl (by simp) (by
  rw [Array.length_toList,Array.size_map,Array.size_range,hm,List.length_map,hn]) (s0i a.eval _ 0 hord) hcell
 simp only [nil_append] at hc';have hrun:(Instr.buildSlice T n (parts.map fun p=>(p.1,a.eval p.2))).run E.P w=.ok (.slice (some ⟨w.heap.size,0,none⟩) n n) (w.alloc (.cells c' e)):=by
  have hbig:¬ n*i.size>2 ^ 24:=by
   rw [hm];have:n*(J0 E t).sz<=10000*1000:=Nat.mul_le_mul hn1 hsz1;omega
  by_cases h0:n*i.size=0
  ·have hn0:n=0:=by
    rw [hsz] at h0;rcases Nat.mul_eq_zero.1 h0 with h | h
    ·exact h
    ·omega
   subst hn0;have hp0:parts=#[]:=by
    have:parts.toList=[]:=eq_nil_of_length_eq_zero hn.symm;simpa using this
   subst hp0;have hf2:c'=#[]:=by
    have:=congrArg List.length hc';simpa using this
   subst hf2;have e0:Array.range 0=#[]:=rfl;simp [Instr.buildSlice,run_underlying hT,sizeOf,typeInfo,hi,newRow,Instr.fill,e0]
  ·have:=run_buildSlice w T e n (parts.map fun p=>(p.1,a.eval p.2)) c' i z hT hi hz0 hbig h0 (by rw [hsz,Array.toList_map];rw [<-hsz] at hf ⊢;exact hf);exact this
 have hB:=Below.new w (.cells c' e);have hclen:c'.toList.length=n*(J0 E t).sz:=by rw [hc',hels.1,hl,hn]
 have res:=hrp.j0f (e:=e) (t:=t) (xs:=xs) (v:=.slice (some ⟨w.heap.size,0,none⟩) n n) hB (fun k hk=>by obtain ⟨_,rfl⟩:=d0M hk;simp) rfl (fun S2 hk2 _=>by
  have hxl:xs.length=n:=by rw [hl,hn]
  refine ⟨c'.toList,Row.ofV ⟨by rw [hxl];exact hclen,.inr ⟨w.heap.size,n,c',by rw [hxl],heap_alloc_new w _,by rw [hxl];exact le_refl _,by simp only [maxLen];omega,by simpa using hclen,?_⟩⟩,?_⟩
  ·rw [hxl,List.take_of_length_le (by rw [hclen];exact le_refl _)]
  ·rw [hc'];exact hels.L1 hk2)
 obtain ⟨⟨ρ1,S2,r1,r2,r3⟩,r4,r5,r6⟩:=res;exact ⟨_,_,_,_,hk,⟨⟨ρ1,S2,r1,r2,(U0.less hs1).trans r3⟩,hext.trans r4,r5.trans hfr,fun k hk _=>hB.block k hk⟩,hrun⟩
theorem t0s:∀ (l:List U) (h:HL E.D l) (M0:List Value) {H:K0} {S:D0},b0v l=true->(a0r E l).R H S M0 h->∀ f u (y:List (Den E.D u)),N5 l h f=some ⟨.list u,y⟩->∃ A' c,M0[f]?=some (.slice A' y.length c)
 |[],_,_,_,_,_,_,f,_,_,hg=>by simp [N5] at hg
 |
  t :: l,h,M0,H,S,hb,hr,f,u,y,hg=>by
  simp only [b0v,and_eq_true] at hb;obtain ⟨hb1,hb2⟩:=hb;cases t<;>simp only [g02,Bool.false_eq_true] at hb1
  rename_i u0;obtain ⟨c1,c2,rfl,⟨A',c,h1,_⟩,h2⟩:=hr;subst h1;cases f with
  |
   zero=>
   have hg:(⟨.list u0,h.1⟩:(t:U)×Den E.D t)=⟨.list u,y⟩:=Option.some.inj hg;cases hg;exact ⟨A',c,rfl⟩
  |
   succ f=>
   obtain ⟨A2,k2,h3⟩:=t0s l h.2 c2 hb2 h2 f u y hg;exact ⟨A2,k2,by simpa using h3⟩
theorem w03 (hE:Q1 E) {H:K0} {S:D0} {t:U} {F:List Nat} {x:Den E.D t} {M0:List Value} (ho:l9 E t F=true) (hr:(J0 E t).R H S M0 x) {f:Nat} {u:U} {ys:List (Den E.D u)} (hf:V3 E t x f=some ⟨u,ys⟩):∃ A' c,M0[f]?=some (.slice A' ys.length c):=by
 simp only [l9,and_eq_true,beq_eq] at ho;obtain ⟨⟨_,_⟩,hk⟩:=ho;cases t with
 |
  list u0=>
  obtain ⟨A',c,h1,_⟩:=hr;subst h1;cases f with
  |
   zero=>
   have hf:(⟨u0,x⟩:(u:U)×List (Den E.D u))=⟨u,ys⟩:=Option.some.inj hf;cases hf;exact ⟨A',c,rfl⟩
  |succ f=>exact absurd (show none=some _ from hf) (by simp)
 |
  st k=>
  have hf:c0v (N5 (E.fs k) (E.un k x) f)=some ⟨u,ys⟩:=hf;cases hg:N5 (E.fs k) (E.un k x) f with
  |none=>rw [hg] at hf;cases hf
  |
   some p=>
   obtain ⟨t',y⟩:=p;rw [hg] at hf;cases t' with
   |
    list u1=>
    have hf:(⟨u1,y⟩:(u:U)×List (Den E.D u))=⟨u,ys⟩:=Option.some.inj hf;cases hf;exact t0s _ _ _ hk ((hE.st k H S M0 x).1 hr) f _ _ hg
   |_=>exact absurd (show none=some _ from hf) (by simp)
 |_=>simp at hk
theorem v8.B09 (hE:Q1 E) {H:K0} {S:D0} {t:U} {F:List Nat} {z:List Value} {x:Den E.D t} (ho:l9 E t F=true) (hz:(J0 E t).R H S z x) (hn:∀ v∈z,v=D7) (m:Nat):v8 E H S F t (List.replicate m x) (List.replicate m z).flatten:=by
 have hels:=i05 hz m;have hsz:=(d0v ho).1;have hall:∀ v∈(List.replicate m z).flatten,v=D7:=by
  intro v hv;obtain ⟨l,hl,hv⟩:=List.mem_flatten.1 hv;rw [List.eq_of_mem_replicate hl] at hv;exact hn v hv
 refine ⟨by rw [<-hsz];exact hels.1,fun i x' f u ys e' h1 h2 h3=>?_,fun v hv=>by rw [hall v hv];rfl⟩;have hi:=(List.getElem?_eq_some_iff.1 h1).1;have hf:f<F.length:=(List.getElem?_eq_some_iff.1 h3).1;obtain ⟨A',c,h4⟩:=w03 hE ho (hels.2 i x' h1) h2;rw [hsz,List.getElem?_take_of_lt hf,List.getElem?_drop] at h4;have h5:=hall _ (mem_of_getElem? h4);unfold D7 at h5;simp only [Value.slice.injEq] at h5;have hy:ys=[]:=eq_nil_of_length_eq_zero h5.2.1;subst hy;refine ⟨_,h4,[],⟨by simp,.inl ⟨rfl,none,?_⟩⟩,U1.nil⟩;rw [h5.1,h5.2.2];rfl
theorem D0n {D:Nat->Type} {v:V D} (h:isNil v=true):v=.nil:=by
 cases v<;>simp [isNil] at h
 rfl
theorem r0b {n:Nat} {H:K0}:∀ {l:List (V E.D)} {c:List Value},N0 E ρ n H S l c->l.all isNil=true->∀ v∈c,v=D7
 |[],c,h,_,v,hv=>by unfold N0 at h;subst h;cases hv
 |
  x :: l,c,h,hl,v,hv=>by
  unfold N0 at h;obtain ⟨c1,c2,rfl,h1,h2⟩:=h;rw [List.all_cons,and_eq_true] at hl;obtain rfl:=D0n hl.1;unfold VC at h1;subst h1;rcases mem_append.1 hv with hv | hv
  ·simpa [D7] using hv
  ·exact r0b h2 hl.2 v hv
theorem x0N (hE:Q1 E) (h:Rp E A s ρ S a as w) {R:Type} {k:K E R} {r:R} {T:Nat} {n m:Operand} (hk:m08 E s T n m k=some r) :
  ∃ s1 v u w1,k s1 v=some r/\z6 E A s ρ S a as w s1 v u w1/\(Instr.makeSlice T (a.eval n) (a.eval m)).run E.P w=.ok u w1:=by
 unfold m08 at hk;split at hk<;>try cases hk
 rename_i e k0 x he hx hop;have hnm:n=m:=by
  unfold h05 at hop;split at hop
  ·rw [beq_eq] at hop;rw [hop]
  ·rw [of_decide_eq_true hop]
  ·cases hop
 subst hnm;split at hk<;>try cases hk
 rename_i t z sz bytes F ht hin hF;split at hk<;>try cases hk
 rename_i zx hel hz;simp only [and_eq_true] at hel;obtain ⟨⟨hel,htok⟩,hnil⟩:=hel;obtain ⟨rfl,h1,h2,h3⟩:=c09 hel;obtain ⟨i,hi,hz0,hsz,hby⟩:=c0W hin;split at hk<;>try cases hk
 rename_i hfit;have hT:=c01 he;have hev:=r9 hx (h.val n);rw [hev];simp only [V2,and_eq_true,decide_eq_true_eq] at hfit;obtain ⟨q,rfl⟩:=Int.eq_ofNat_of_zero_le hfit.1;have hq:q*bytes<=140737488355328:=by
  have h1:=hfit.2;have h2:((q*bytes:Nat):Int)<=140737488355328:=by rw [Int.natCast_mul];exact h1
  omega
 have hq2:q<=q*bytes:=Nat.le_mul_of_pos_right _ h3;obtain ⟨w1,hrun,hrow,hg⟩:=run_make_full (P:=E.P) w w.heap.size T e i z (J0 E t).sz hT hi hz0 hsz k0 k0 q (by rw [hby,mul_comm];omega) (by simp only [maxLen];omega) (le_refl _);have hB:Below w.heap.size w w1:=⟨hg.os,hg.tape,hg.output,hg.size,fun k hk=>hg.block k hk (by simp)⟩
 have hm:=n0j z.cells q;rw [h1] at hm;rw [hm] at hrow;have hrow:=Row.of hrow;have hzR:∀ S1,(J0 E t).R w1.heap S1 z.cells.toList zx:=by
  intro S1;refine h0c (ρ:=ρ) (n:=0) hE (fun id=>?_) hz (r07 z);show X3 E ρ 0 w1.heap S1 .gone (ρ id)
  trivial
 have hzn:∀ v∈z.cells.toList,v=D7:=r0b (ρ:=ρ) (S:=S) (n:=0) (H:=w.heap) (i0g z) hnil;have hrows:∀ S1,v8 E w1.heap S1 F t (List.replicate q zx) (List.replicate q z.cells.toList).flatten:=fun S1=>v8.B09 hE htok (hzR S1) hzn q;have hrow':Row w1.heap e (J0 E t).sz (.slice (some ⟨w.heap.size,0,none⟩) q q) (List.replicate q zx).length (List.replicate q z.cells.toList).flatten:=by simpa using hrow
 have hall:∀ v∈(List.replicate q z.cells.toList).flatten,v=D7:=by
  intro v hv;obtain ⟨l,hl,hv⟩:=List.mem_flatten.1 hv;rw [List.eq_of_mem_replicate hl] at hv;exact hzn v hv
 have hap:f0H (.slice (some ⟨w.heap.size,0,none⟩) q q :: (List.replicate q z.cells.toList).flatten):=by
  intro i j v v' hne hi hj k hk hk';have key:∀ (i:Nat) (v:Value),(Value.slice (some ⟨w.heap.size,0,none⟩) q q :: (List.replicate q z.cells.toList).flatten)[i]?=some v->D1 v=some k->i=0:=by
   intro i v hi hk;cases i with
   |zero=>rfl
   |
    succ i=>
    simp only [List.getElem?_cons_succ] at hi;rw [hall v (mem_of_getElem? hi)] at hk;cases hk
  have:=key i v hi hk;have:=key j v' hj hk';omega
 obtain ⟨S1,hk1,hr1⟩:=h.new (x:=.B1 e F t (List.replicate q zx) none) (v:=.tuple (.slice (some ⟨w.heap.size,0,none⟩) q q :: (List.replicate q z.cells.toList).flatten).toArray) (w1:=w1) hB (fun k hk=>by
   rcases c0Y.1 hk with hk | ⟨u,hu,hk⟩
   ·have hk:D1 (.slice (some ⟨w.heap.size,0,none⟩) q q)=some k:=hk;obtain ⟨hq0,rfl⟩:=d0M hk;refine ⟨le_refl _,?_⟩;rcases hrow'.2 with ⟨_,a,hv⟩ | ⟨g,cap,cur,hv,_,hgg,_⟩
    ·simp at hv;omega
    ·simp at hv;obtain ⟨rfl,_⟩:=hv;exact getElem?_lt hgg
   ·rw [hall u hu] at hk;cases hk) (fun S1 _ _ _=>⟨_,H8.of hrow' htok (hrows S1) hap⟩)
 refine ⟨_,_,_,w1,hk,⟨⟨_,S1,hr1,?_,hk1⟩,Ext.new s _,rfl,fun k hk _=>hB.block k hk⟩,hrun⟩;exact VS.of rfl (by unfold VC;rw [I5];exact ⟨lt_succ_self _,rfl,rfl⟩)
theorem E00 (h:Rp E A s ρ S a as w) {R:Type} {k:K E R} {r:R} {T n:Nat} {parts:Array (Nat×Operand)} (hk:bsT E s T n parts.toList k=some r) :
  ∃ s1 v u w1,k s1 v=some r/\z6 E A s ρ S a as w s1 v u w1/\(Instr.buildSlice T n (parts.map fun p=>(p.1,a.eval p.2))).run E.P w=.ok u w1:=by
 unfold bsT at hk;split at hk<;>try cases hk
 rename_i e x he hparts;have hparts:parts=#[(0,x)]:=by have:=congrArg List.toArray hparts;simpa using this
 subst hparts;split at hk<;>try cases hk
 rename_i u z sz bytes e' ht hin hF;split at hk<;>try cases hk
 rename_i g ys hel hrv;rw [and_eq_true] at hel;obtain ⟨hel,htok⟩:=hel;obtain ⟨rfl,h1,h2,h3⟩:=c09 hel;obtain ⟨i,hi,hz0,hsz,hby⟩:=c0W hin;have hT:=c01 he;obtain ⟨hLv,hone,hg⟩:=s0O h (h.val x) hrv;have hsz1:(J0 E (.list u)).sz=1:=rfl;have hrun:(Instr.buildSlice T 1 (#[(0,x)].map fun p=>(p.1,a.eval p.2))).run E.P w=.ok (.slice (some ⟨w.heap.size,0,none⟩) 1 1) (w.alloc (.cells #[a.eval x] e)):=by
  have hz1:z.cells.size=1:=by rw [h1];rfl
  have:=run_buildSlice w T e 1 (#[(0,x)].map fun p=>(p.1,a.eval p.2)) #[a.eval x] i z hT hi hz0 (by rw [hsz,hsz1];omega) (by rw [hsz,hsz1];omega) (by
   rw [hsz,hsz1];simp [Instr.fill,cells_one hone,Array.range];exact Array.ext (by simp) (by
                  intro i h1 h2;have:i=0:=by simp at h2;exact h2
                  subst this;simp))
  exact this
 have hB:=Below.new w (.cells #[a.eval x] e);have hkeep:U0 w.heap S (w.alloc (.cells #[a.eval x] e)).heap (fun k=>k=w.heap.size\/S k):=⟨hB.size,fun b hb hn=>⟨fun hh=>hh.elim (by omega) hn,hB.block b hb⟩⟩
 have hcx:=(h.cx.ext hB).more (S1:=fun k=>k=w.heap.size\/S k) (fun _ h=>.inr h) (fun b hb=>hb.elim (fun e=>by subst e;simp) ((h.cx.ext hB).lt b));have hblk:∀ k',D1 (a.eval x)=some k'->∃ j,g=some j/\j<s.nid/\P1 (E0 s j)=true/\Bk (ρ j) k':=by
  intro k' hk';cases g with
  |
   none=>
   have hg:a.eval x=D7:=hg;rw [hg] at hk';cases hk'
  |
   some j=>
   obtain ⟨hg1,u9,y9,hg2⟩:=hg;exact ⟨j,rfl,h.F7 (by rw [hg2];simp),by rw [hg2];rfl,Bk.hd (by rw [hg1,(d0T hone).1];exact hk')⟩
 have hlive:∀ k',D1 (a.eval x)=some k'->k'<w.heap.size:=fun k' hk'=>by
  obtain ⟨_,hrw,_⟩:=hLv;exact Row.live hrw k' hk'
 have hG:∃ G:List Nat,c0l s g=X0 s G/\∀ j,g=some j->j∈G:=by
  cases g with
  |none=>exact ⟨[],rfl,fun j hj=>by cases hj⟩
  |some j=>exact ⟨[j],rfl,fun j' hj=>by cases hj;simp⟩
 obtain ⟨G,hG1,hG2⟩:=hG;rw [hG1] at hk;have hrow:Row (w.alloc (.cells #[a.eval x] e)).heap e (J0 E (.list u)).sz (.slice (some ⟨w.heap.size,0,none⟩) 1 1) [ys].length [a.eval x]:=⟨rfl,.inr ⟨w.heap.size,1,#[a.eval x],rfl,by simp,heap_alloc_new w _,by simp,by simp [maxLen],rfl,rfl⟩⟩
 have hrows:v8 E (w.alloc (.cells #[a.eval x] e)).heap (fun k=>k=w.heap.size\/S k) [e'] (.list u) [ys] [a.eval x]:=by
  refine ⟨rfl,fun i y f u' ys' e2 g1 g2 g3=>?_,by simpa using hone⟩;cases i with
  |succ i=>cases g1
  |
   zero=>
   obtain rfl:ys=y:=Option.some.inj g1;cases f with
   |succ f=>cases g3
   |
    zero=>
    obtain rfl:e'=e2:=Option.some.inj g3;have g2:(⟨u,ys⟩:(u:U)×List (Den E.D u))=⟨u',ys'⟩:=Option.some.inj g2;cases g2;exact ⟨a.eval x,rfl,hLv.mono hkeep fun b hb=>hB.block b (hlive b hb)⟩
 have hap:f0H (.slice (some ⟨w.heap.size,0,none⟩) 1 1 :: [a.eval x]):=by
  intro i j v v' hne hi hj k q1 q2;have key:∀ (i:Nat) (v:Value),(Value.slice (some ⟨w.heap.size,0,none⟩) 1 1 :: [a.eval x])[i]?=some v->D1 v=some k->(i=0/\k=w.heap.size)\/(i=1/\k<w.heap.size):=by
   intro i v hi hk;cases i with
   |zero=>simp at hi;subst hi;cases hk;exact .inl ⟨rfl,rfl⟩
   |
    succ i=>
    cases i with
    |zero=>simp at hi;subst hi;exact .inr ⟨rfl,hlive k hk⟩
    |succ i=>simp at hi
  have:=key i v hi q1;have:=key j v' hj q2;omega
 have hrp:=h.take (x:=.B1 e [e'] (.list u) [ys] none) (v:=.tuple (.slice (some ⟨w.heap.size,0,none⟩) 1 1 :: [a.eval x]).toArray) (G:=G) hcx hkeep (fun k hk=>.inr hk) (fun k hk _=>hB.block k hk) (fun k hk _=>by
   rcases c0Y.1 hk with hk | ⟨u',hu,hk⟩
   ·have hk:D1 (.slice (some ⟨w.heap.size,0,none⟩) 1 1)=some k:=hk;cases hk;exact ⟨.inl rfl,.inr (le_refl _)⟩
   ·have hu:u'∈[a.eval x]:=hu;simp at hu;subst hu;obtain ⟨j,q0,_,q1,q2⟩:=hblk k hk;exact ⟨.inr (h.ow j q1 k q2).1,.inl ⟨j,hG2 j q0,q1,q2⟩⟩) ⟨_,H8.of hrow htok hrows hap⟩ (by intros;simp)
 refine ⟨_,_,_,_,hk,⟨⟨_,_,hrp,?_,hkeep⟩,(Ext.X0 s G).trans (Ext.new _ _),(a0d G s).2.1,fun k hk _=>hB.block k hk⟩,hrun⟩;refine VS.of rfl ?_;unfold VC;rw [I5];refine ⟨?_,rfl,rfl⟩;show s.nid<(X0 s G).nid+1;rw [(a0d G s).1];omega
theorem Rp.x0L (h:Rp E A s ρ S a as w) {w1:World} {id:Nat} {x:Th E.D} (ho:P1 (E0 s id)=true) (hx:P1 x=false) (cx:Cx A.w0 A.W0 A.S0 w1 S) (hb:∀ k,k<w.heap.size->¬ Bk (ρ id) k->w1.heap[k]?=w.heap[k]?) (hsz:w.heap.size<=w1.heap.size)
  (hth:X3 E ρ s.nid w1.heap (fun k=>S k/\¬ Bk (ρ id) k) x (ρ id)) (hnr:∀ q i f,x≠.rof q i f:=by intros;simp) :
  Rp E A (s.at id x) ρ (fun k=>S k/\¬ Bk (ρ id) k) a as w1/\U0 w.heap S w1.heap (fun k=>S k/\¬ Bk (ρ id) k):=by
 have hid:id<s.nid:=h.F7 (by rintro e;rw [e] at ho;cases ho);have hk:U0 w.heap S w1.heap (fun k=>S k/\¬ Bk (ρ id) k):=⟨hsz,fun b hbl hn=>⟨fun h=>hn h.1,hb b hbl (fun e=>hn (h.ow id ho b e).1)⟩⟩
 have hl:∀ j,E0 { s with th:=(id,x) :: s.th,nid:=s.nid } j=if id=j then x else E0 s j:=fun j=>G8 s id j x;have hsame:∀ j,j≠id->j<s.nid->b0o s { s with th:=(id,x) :: s.th,nid:=s.nid } ρ ρ (fun k=>S k/\¬ Bk (ρ id) k) w w1 j:=fun j hj hlt=>
  ⟨by rw [hl,if_neg (Ne.symm hj)],hlt,rfl,fun hoj k hk2=>⟨hb k ((h.th j).live hoj k hk2) (fun e2=>h.dj id j (Ne.symm hj) ho hoj k e2 hk2),(h.ow j hoj k hk2).1,fun e2=>h.dj id j (Ne.symm hj) ho hoj k e2 hk2⟩⟩
 refine ⟨h.step (nid1:=s.nid) (th1:=(id,x) :: s.th) ⟨⟨cx.bel,fun b hb=>⟨cx.sub b hb,fun e=>(h.ow id ho b e).2.1 hb⟩,fun b hb=>cx.lt b hb.1,cx.lt0⟩,hk,fun _ _=>rfl,le_refl _⟩ (fun j=>?_) fun r q i f hr e F t xs hq=>?_,hk⟩
 ·by_cases e:id=j
  ·subst e;refine .inr ⟨by rw [hl,if_pos rfl];exact hth,fun h2=>?_,fun h2=>by omega⟩;rw [hl,if_pos rfl,hx] at h2;cases h2
  ·by_cases hlt:j<s.nid
   ·exact .inl (hsame j (fun h=>e h.symm) hlt)
   ·rw [hl,if_neg e,h.lt j (by omega)];exact .inr ⟨trivial,(fun ho=>by cases ho),fun _=>rfl⟩
 ·rw [hl] at hr;split at hr
  ·exact absurd hr (hnr q i f)
  ·rename_i hne;have hq2:=h.b0T hr;rw [hl] at hq;split at hq
   ·rw [hq] at hx;cases hx
   ·rename_i hne2;exact .inl ⟨hsame r (Ne.symm hne) (h.F7 (by rw [hr];simp)),hsame q (Ne.symm hne2) hq2⟩
theorem B0d (h:Rp E A s ρ S a as w) {R:Type} {k:K E R} {r:R} {T T':Nat} {x:V E.D} {ux:Value} (hx:VS E ρ s.nid w.heap S x ux) (hk:n0f E s T T' x k=some r) :
  ∃ s1 v u w1,k s1 v=some r/\z6 E A s ρ S a as w s1 v u w1/\(convert T T' ux).run E.P w=.ok u w1:=by
 unfold n0f at hk;split at hk<;>try cases hk
 rename_i id;split at hk<;>try cases hk
 rename_i e e' xs hTT hT hl;rw [beq_eq] at hTT;subst hTT;split at hk<;>try cases hk
 rename_i he;split at hk<;>try cases hk
 rename_i hne;have hl:=j0w hl;obtain ⟨hid,rfl⟩:=hx.X9;have ht:=h.th id;rw [hl] at ht;have ht:S5 E w.heap S e' (.int .u8) xs (ρ id):=ht;obtain ⟨cs,⟨hcl,hrow⟩,hels⟩:=ht;rcases hrow with ⟨h0,_⟩ | ⟨b,cap,cur,hfo,hp0,hg,hnc,hm,hcs,htake⟩
 ·have:xs=[]:=eq_nil_of_length_eq_zero h0;subst this;simp at hne
 ·have hown:P1 (E0 s id)=true:=by rw [hl];rfl
  have hBk:Bk (ρ id) b:=by rw [hfo];exact e0I hp0
  have hBk2:∀ k,Bk (ρ id) k->k=b:=fun k hk=>by rw [hfo] at hk;exact (d0M hk).2.symm
  obtain ⟨hS,h0S,hW⟩:=h.ow id hown b hBk;have hhd:hd (ρ id)=ρ id:=by rw [hfo];rfl
  have hsh:w.shape? b=some (e',cur.size):=by unfold World.shape?;rw [hg]
  have hfr:(w.freeze ⟨b,cur.size,none⟩ 1).heap[b]?=some (.cells cur e' (cur.size,cur.size+1)):=by
   unfold World.freeze;rw [if_neg (by decide)];simp [Array.getElem?_modify,hg]
  have hon:k7 b w (w.freeze ⟨b,cur.size,none⟩ 1):=by
   unfold World.freeze;rw [if_neg (by decide)];exact ⟨rfl,rfl,rfl,by simp,fun k _ hk=>by simp [Array.getElem?_modify,Ne.symm hk]⟩
  have hsl:X3 E ρ s.nid (w.freeze ⟨b,cur.size,none⟩ 1).heap (fun k=>S k/\¬ Bk (ρ id) k) (.fz (.int .u8) xs) (ρ id):=by
   obtain ⟨A1,c1,h1,h2⟩:=i0P (S:=fun _=>False) ⟨hcl,.inr ⟨b,cap,cur,hfo,hp0,hg,hnc,hm,hcs,htake⟩⟩ (hels.L1 (U0.less fun _ h=>h.elim)) (fun _ _ h=>h);rw [hfo] at h1;simp at h1;obtain ⟨rfl,rfl⟩:=h1;refine ⟨some ⟨b,0,none⟩,cap,by rw [hhd,hfo],hnc,fun _=>⟨b,0,rfl,getElem?_lt hfr,fun h=>h.2 hBk⟩,fun i y hy=>?_⟩;obtain ⟨b',o',cs',hA,hR,hc⟩:=h2.2.2 i y hy;simp at hA;obtain ⟨rfl,rfl⟩:=hA;refine ⟨b,0,cs',rfl,hR,fun j v hj=>?_⟩;have:=hc j v hj;unfold U2 at this ⊢;rw [hg] at this;rw [hfr];exact this
  obtain ⟨hrp,hkp⟩:=h.x0L (w1:=w.freeze ⟨b,cur.size,none⟩ 1) (x:=.fz (.int .u8) xs) hown rfl (hon.cx h.cx hW) (fun k hk hn=>hon.block k hk (fun e=>hn (by rw [e];exact hBk))) hon.size hsl;refine ⟨_,_,ρ id,_,hk,⟨⟨ρ,_,hrp,VS.of rfl (by unfold VC;exact ⟨hid,by rw [hhd,hfo];rfl,by rw [hhd]⟩),hkp⟩,Ext.at s id _,rfl,fun k hk hq=>hon.block k hk (fun e=>hq id hid hown (f0n s) (by rw [e];exact hBk))⟩,?_⟩;rw [hhd,hfo];simp [convert,run_underlying hT,run_underlying he,markStringish,hsh]
theorem y09 {α:Type} {T:Ty α} {S:D0} {t ty e ee:TypeId} {A B:Option Addr} {c d:Nat} {xs ys:List α} (P:Program) (ht:P.underlying t=some (.slice e)) (hE:(P.info? e).map (·.size)=some 1) (hT:T.sz=1)
  (hown:Ow T ee (fun _=>True) w.heap S (.slice A xs.length c) xs) (hys:V5 T w.heap S B ys) :
  ∃ w1,(Builtin.copy_ #[t,t] ty #[.slice A xs.length c,.slice B ys.length d]).run P w=.ok (.int .i64 ((Nat.min ys.length xs.length:Nat):Int)) w1/\(w1=w\/∃ g,A=some ⟨g,0,none⟩/\k7 g w w1)/\Ow T ee (fun _=>True) w1.heap S (.slice A xs.length c) (G4 xs ys):=by
 by_cases h0:Nat.min ys.length xs.length=0
 ·refine ⟨w,by rw [run_copy_none w t t ty e A B xs.length c ys.length d ht hE h0,h0];rfl,.inl rfl,?_⟩;have:G4 xs ys=xs:=by
   rcases eq_zero_or_pos xs.length with hz | hz
   ·have:=eq_nil_of_length_eq_zero hz;subst this;simp [G4]
   ·have hy0:ys.length=0:=by
     rcases le_total ys.length xs.length with hle | hle
     ·rwa [show Nat.min ys.length xs.length=ys.length from min_eq_left hle] at h0
     ·rw [show Nat.min ys.length xs.length=xs.length from Nat.min_eq_right hle] at h0;omega
    have:=eq_nil_of_length_eq_zero hy0;subst this;simp [G4]
  rw [this];exact hown
 ·have hxp:0<xs.length:=by
   rcases eq_zero_or_pos xs.length with hz | hz
   ·exact absurd (by rw [hz];exact Nat.min_zero _) h0
   ·exact hz
  have hyp:0<ys.length:=by
   rcases eq_zero_or_pos ys.length with hz | hz
   ·exact absurd (by rw [hz];exact Nat.zero_min _) h0
   ·exact hz
  obtain ⟨b,off,_,hB,_⟩:=hys 0 ys[0] (by simp [hyp]);subst hB;obtain ⟨news,hen,hcells⟩:=V5.news (w:=w) (xs:=ys) (k:=0) (A:=some ⟨b,off,none⟩) (T:=T) (S:=S) (fun i x hx=>by
   obtain ⟨b,o,cs,h1,h2,h3⟩:=hys i x hx;exact ⟨b,o,cs,h1,h2,fun j v hj=>by rw [zero_add];exact h3 j v hj⟩)
  obtain ⟨hs0,cs,⟨hcl,hrow⟩,hels⟩:=hown;rcases hrow with ⟨hv,hz⟩ | ⟨g,cap,cur,hv,hg,hnc,hm,hcs,htake⟩
  ·omega
  ·simp at hv;obtain ⟨rfl,rfl⟩:=hv;rw [hT,mul_one] at hcl hcs htake;have hnl:news.length=ys.length:=by rw [hen.1,hT,mul_one]
   have hml:(news.take xs.length).length=Nat.min ys.length xs.length:=by rw [length_take,hnl];exact Nat.min_comm _ _
   have hr:=run_copy_row (P:=P) w t t ty e g 0 xs.length c ⟨b,off,none⟩ ys.length d cur ee (news.take xs.length) ht hE hg hml (fun j v hj=>by
    rw [b0a];have hj':news[j]?=some v:=by
     rcases lt_or_ge j xs.length with h | h
     ·rwa [List.getElem?_take_of_lt h] at hj
     ·rw [List.getElem?_take_eq_none h] at hj;cases hj
    have:=hcells b off rfl j v hj';simpa using this) (by rw [hml,hcs,zero_add];exact le_trans (Nat.min_le_right _ _) hnc) (fun v hv=>hen.f01 v (List.mem_of_mem_take hv))
   simp only [take_zero,nil_append,zero_add] at hr;have hgS:=hs0 g (by simp [Value.ownBlock]);have hon:k7 g w (w.setRow g (news.take xs.length++cur.toList.drop (news.take xs.length).length).toArray):=⟨rfl,rfl,rfl,by simp [World.setRow],fun k _ hk=>by simp [World.setRow,Array.getElem?_modify,Ne.symm hk]⟩
   have hk:=hon.L1 hgS.1;refine ⟨_,by rw [hr,hml];rfl,.inr ⟨g,rfl,hon⟩,hs0,news.take xs.length++cs.drop ys.length,⟨?_,.inr ⟨g,c,(news.take xs.length++cur.toList.drop (news.take xs.length).length).toArray,by rw [b05],setRow_heap w g cur _ ee _ hg,by rw [b05];exact hnc,hm,?_,?_⟩⟩,?_⟩
   ·rw [b05,hT,mul_one,length_append,hml,length_drop,hcl];rcases le_total ys.length xs.length with hle | hle
    ·rw [show Nat.min ys.length xs.length=ys.length from min_eq_left hle];omega
    ·rw [show Nat.min ys.length xs.length=xs.length from Nat.min_eq_right hle];omega
   ·have h9:(news.take xs.length).length<=c:=by rw [hml];exact le_trans (Nat.min_le_right _ _) hnc
    simp only [hT,mul_one,List.size_toArray,length_append,length_drop,Array.length_toList,hcs];omega
   ·rw [b05,hT,mul_one];show List.take xs.length (news.take xs.length++cur.toList.drop (news.take xs.length).length)=_;rw [List.take_append,List.take_take,Nat.min_self,<-htake];congr 1;rw [List.drop_take];rcases le_total ys.length xs.length with hle | hle
    ·have:(news.take xs.length).length=ys.length:=by rw [hml];exact min_eq_left hle
     rw [this]
    ·have:(news.take xs.length).length=xs.length:=by rw [hml];exact Nat.min_eq_right hle
     rw [this,Nat.sub_self,take_zero,Nat.sub_eq_zero_of_le hle,take_zero]
   ·have h1:=(hen.L1 hk).cut xs.length;have h2:=(hels.L1 hk).tail ys.length;rw [hT,mul_one] at h1 h2;exact h1.append h2
theorem r0x {α:Type} {T:Ty α} {S:D0} {t ty e ee:TypeId} {v:Value} {A B:Option Addr} {c d:Nat} {xs ys:List α} {cs:List Value} (P:Program) (ht:P.underlying t=some (.slice e)) (hE:(P.info? e).map (·.size)=some 1) (hT:T.sz=1)
  (hfo:v=.slice A xs.length c) (hrow:Row w.heap ee T.sz v xs.length cs) (hels:U1 T w.heap S cs xs) (hS:∀ k,D1 v=some k->S k) (hys:V5 T w.heap S B ys) :
  ∃ w1,(Builtin.copy_ #[t,t] ty #[v,.slice B ys.length d]).run P w=.ok (.int .i64 ((Nat.min ys.length xs.length:Nat):Int)) w1/\(w1=w\/∃ g,D1 v=some g/\k7 g w w1)/\∃ cs2,Row w1.heap ee T.sz v (G4 xs ys).length cs2/\U1 T w1.heap S cs2 (G4 xs ys):=by
 rcases hrow.o0k with ⟨hV,hob⟩ | ⟨h0,hc0,hnone,a0,hv⟩
 ·have how:Ow T ee (fun _=>True) w.heap S (.slice A xs.length c) xs:=by
   rw [<-hfo];exact ⟨fun k hk=>⟨hS k (by rw [<-hob];exact hk),trivial⟩,cs,hV,hels⟩
  obtain ⟨w1,h1,h2,_,cs2,h3,h4⟩:=y09 (d:=d) (ty:=ty) P ht hE hT how hys;refine ⟨w1,by rw [hfo];exact h1,h2.imp id (fun ⟨g,e1,e2⟩=>⟨g,by rw [<-hob,hfo,e1];rfl,e2⟩),cs2,by rw [hfo];exact Row.ofV h3,h4⟩
 ·have hx0:xs=[]:=eq_nil_of_length_eq_zero h0;subst hx0;rw [hv] at hfo;cases hfo;subst hv;have e1:Nat.min ys.length ([]:List α).length=0:=by simp [Nat.min_def]
  refine ⟨w,by rw [e1];exact run_copy_none w t t ty e (some a0) B 0 0 ys.length d ht hE (by simpa using e1),.inl rfl,[],⟨by simp [G4],.inl ⟨by simp [G4],_,rfl⟩⟩,by simpa [G4] using U1.nil⟩
theorem y0J (hE:Q1 E) (h:Rp E A s ρ S a as w) {R:Type} {k:K E R} {r:R} {T ty:Nat} {x y:V E.D} {ux uy:Value} (hx:VS E ρ s.nid w.heap S x ux) (hy:VS E ρ s.nid w.heap S y uy) (hk:copyV E s T x y k=some r) :
  ∃ s1 v u w1,k s1 v=some r/\z6 E A s ρ S a as w s1 v u w1/\(Builtin.copy_ #[T,T] ty #[ux,uy]).run E.P w=.ok u w1:=by
 unfold copyV at hk;split at hk<;>try cases hk
 rename_i e id hT;split at hk<;>try cases hk
 rename_i hs1;have hE1:(E.P.info? e).map (·.size)=some 1:=by
  unfold R5 at hs1;split at hs1
  ·rename_i i hi;rw [hi];simpa using hs1
  ·cases hs1
 obtain ⟨hid,rfl⟩:=hx.X9;split at hk<;>try cases hk
 ·rename_i e' t xs hl;split at hk<;>try cases hk
  rename_i ys hz hsrc;rw [beq_eq] at hz;obtain ⟨A',c,rfl,hrd⟩:=h0j h hy hsrc;have ht:=h.th id;rw [hl] at ht;have ht:S5 E w.heap S e' t xs (ρ id):=ht;obtain ⟨A0,c0,hfo⟩:=ht.form;have hhd:hd (ρ id)=ρ id:=by rw [hfo];rfl
  have hown:P1 (E0 s id)=true:=by rw [hl];rfl
  have hBk:∀ k,Bk (ρ id) k↔D1 (ρ id)=some k:=fun k=>by rw [hfo];exact Iff.rfl
  obtain ⟨cs,hrow,hels⟩:=ht;obtain ⟨w1,hrun,hw1,cs2,hrow2,hels2⟩:=r0x (d:=c) (ty:=ty) (S:=S) E.P hT hE1 hz hfo hrow hels (fun k hk=>(h.ow id hown k ((hBk k).2 hk)).1) hrd;have hon:Cx A.w0 A.W0 A.S0 w1 S/\U0 w.heap S w1.heap S/\∀ k,k<w.heap.size->¬ Bk (ρ id) k->w1.heap[k]?=w.heap[k]?:=by
   rcases hw1 with rfl | ⟨g,hg1,ho⟩
   ·exact ⟨h.cx,U0.refl _ _,fun _ _ _=>rfl⟩
   ·have hb:Bk (ρ id) g:=(hBk g).2 hg1;obtain ⟨hS,_,hW⟩:=h.ow id hown g hb;exact ⟨ho.cx h.cx hW,ho.L1 hS,fun k hk hn=>ho.block k hk (fun e=>hn (by rw [e];exact hb))⟩
  obtain ⟨hcx,hkp,hbl⟩:=hon;refine ⟨_,_,_,w1,hk,⟨⟨ρ,S,h.turn (x:=.lst e' t (G4 xs ys)) (v:=ρ id) hid hown hcx hkp (fun _ h=>h) hbl rfl (fun k hk=>(h.ow id hown k hk).1) ⟨cs2,hrow2,hels2⟩,VS.dI,hkp⟩,Ext.at s id _,rfl,fun k hk hq=>hbl k hk (hq id hid hown (f0n s))⟩,?_⟩;rw [hhd];exact hrun
 ·rename_i r0 j f hl;split at hk<;>try cases hk
  rename_i e0 F t0 xs0 t xs htab hrv;split at hk<;>try cases hk
  rename_i ys hz hsrc;split at hk<;>try cases hk
  rename_i x hset;rw [beq_eq] at hz;obtain ⟨A',c,rfl,hrd⟩:=h0j h hy hsrc;have hq:=d0U htab;obtain ⟨u,ys0,ys',hrow,hg,hrow',hoth⟩:=o0t hE hset;have hrv2:=hrv;unfold a09 at hrv2;rw [hq] at hrv2;have hrv2:V3 E t0 (U6 E t0 xs0 j) f=some ⟨t,xs⟩:=hrv2;rw [hrow] at hrv2;obtain ⟨rfl,e9⟩:=Sigma.mk.inj (Option.some.inj hrv2);have e9:=eq_of_heq e9;subst e9;split at hg<;>try cases hg
  rename_i ws hws;obtain ⟨ec,hws⟩:=L9 hws;obtain rfl:ys=ws:=hws;obtain ⟨_,e1,_,hblk⟩:=h.h0a hl hrv;have hrf:=h.rf id r0 j f hl e0 F t0 xs0 hq;obtain ⟨cs,ht,k2,k3,h5,h8⟩:=h.l0m hq hrf;obtain ⟨e',he'⟩:∃ e',F[f]?=some e':=⟨_,List.getElem?_eq_getElem k3⟩
  obtain ⟨hr0,h6,hL⟩:=ht.rows j.toNat _ f u ys0 e' (Y9 k2.1 k2.2) hrow he' (by simp);rw [h5] at h6;obtain rfl:=Option.some.inj h6;have hown:P1 (E0 s r0)=true:=by rw [hq];rfl
  have hidr:=h.F7 (id:=r0) (by rw [hq];simp);obtain ⟨A0,c0,hfo⟩:=hL.form;obtain ⟨cs1,hrow1,hels1⟩:=hL;obtain ⟨w1,hrun,hw1,cs2,hrow2,hels2⟩:=r0x (d:=c) (ty:=ty) (S:=S) E.P hT hE1 hz hfo hrow1 hels1 (fun k hk=>(h.ow r0 hown k (Bk.tl (mem_of_getElem? h8) hk)).1) hrd;have hon:Cx A.w0 A.W0 A.S0 w1 S/\U0 w.heap S w1.heap S/\∀ k,k<w.heap.size->D1 (ρ id)≠some k->w1.heap[k]?=w.heap[k]?:=by
   rcases hw1 with rfl | ⟨g,hob,ho⟩
   ·exact ⟨h.cx,U0.refl _ _,fun _ _ _=>rfl⟩
   ·obtain ⟨hS,_,hW⟩:=h.ow r0 hown g (Bk.tl (mem_of_getElem? h8) hob);exact ⟨ho.cx h.cx hW,ho.L1 hS,fun k hk hn=>ho.block k hk (fun e=>hn (by rw [e];exact hob))⟩
  obtain ⟨hcx,hkp,hbl⟩:=hon;refine ⟨_,_,_,w1,hk,⟨⟨ρ,S,h.s03 hq hrf hrow' hoth he' hbl hcx hkp ⟨cs2,hrow2,hels2⟩,VS.dI,hkp⟩,Ext.at s r0 _,rfl,fun k hk hq=>hbl k hk (fun e=>hq r0 hidr hown (f0n s) (Bk.tl (mem_of_getElem? h8) e))⟩,?_⟩;rw [e1];exact hrun
theorem B0Y (hE:Q1 E) (h:Rp E A s ρ S a as w) {R:Type} {k:K E R} {r:R} {T:Nat} {t':U} {xs':List (Den E.D t')} {y:V E.D} {ux uy:Value} (hx:VS E ρ s.nid w.heap S (.df t' xs') ux) (hy:VS E ρ s.nid w.heap S y uy) (ty:Nat) (hk:n0G E s T t' xs' y k=some r) :
  ∃ s1 v u w1,k s1 v=some r/\z6 E A s ρ S a as w s1 v u w1/\(Builtin.append_ #[T,T] ty #[ux,uy]).run E.P w=.ok u w1:=by
 unfold n0G at hk;split at hk<;>try cases hk
 rename_i e he;split at hk<;>try cases hk
 rename_i t z sz bytes ht hin;split at hk<;>try cases hk
 rename_i ys xs hel hsrc hc;split at hk<;>try cases hk
 rename_i hfit;rw [and_eq_true,List.isEmpty_iff] at hfit;obtain ⟨hx0,hfit⟩:=hfit;obtain ⟨ec,hc⟩:=L9 hc;subst ec;subst hc;obtain ⟨rfl,h1,h2,h3⟩:=c09 hel;obtain ⟨i,hi,hz0,hsz,hby⟩:=c0W hin;have hT:=c01 he;obtain ⟨A',c,rfl,hrd⟩:=h0j h hy hsrc;obtain ⟨c0,hc0,rfl⟩:=hx;unfold VC at hc0;obtain ⟨B,rfl,hsl⟩:=hc0;subst hx0;have hE':(E.P.info? e).map (fun i=>(i.zero,i.size,i.bytes))=some (some z,(J0 E t').sz,bytes):=by rw [hi];simp [hz0,hsz,hby]
 have hzs:(decide (z.cells.size=(J0 E t').sz)&&decide (0<(J0 E t').sz)&&decide (0<bytes))=true:=by simp [h1,h2,h3]
 obtain ⟨v',w1,hrun,hg,hat,⟨A1,c1,hform⟩,hdone⟩:=j0H (S:=S) (w:=w) (ty:=ty) (v:=.slice B 0 0) (xs:=([]:List (Den E.D t'))) (cs:=[]) (c:=c) E.P hT hE' hzs ⟨by simp,.inl ⟨rfl,B,rfl⟩⟩ U1.nil (fun k hk=>by cases B<;>cases hk) hrd hfit;have hB:Below w.heap.size w w1:=⟨hg.os,hg.tape,hg.output,hg.size,fun k hk=>hg.block k hk (by cases B<;>simp [D1])⟩
 subst hform;refine ⟨_,_,_,w1,hk,h.j0f hB (fun k hk=>?_) rfl fun S1 hk hs=>hdone S1 hk,hrun⟩;obtain ⟨h5,h6⟩:=hat k hk;refine ⟨?_,h6⟩;rcases h5 with h5 | h5
 ·cases B<;>cases h5
 ·exact h5
theorem w0n (hE:Q1 E) (h:Rp E A s ρ S a as w) {R:Type} {k:K E R} {r:R} {b:Bool} {T:Nat} {x y:V E.D} {ux uy:Value} (hx:VS E ρ s.nid w.heap S x ux) (hy:VS E ρ s.nid w.heap S y uy) (ty:Nat) (hk:n0X E b s T x y k=some r) :
  ∃ s1 v u w1,k s1 v=some r/\z6 E A s ρ S a as w s1 v u w1/\(Builtin.append_ #[T,T] ty #[ux,uy]).run E.P w=.ok u w1:=by
 unfold n0X at hk;split at hk
 ·rename_i t' xs' hdf;have hxd:x=.df t' xs':=by
   cases x<;>simp only [j0W] at hdf<;>try cases hdf
   rfl
  subst hxd;exact B0Y hE h hx hy ty hk
 ·exact v00 hE h hx hy ty hk
theorem x0F (hE:Q1 E) (h:Rp E A s ρ S a as w) {R:Type} {k:K E R} {r:R} {tb:List Nat} {o:Oper} (hk:evE E tb s o k=some r) :
  ∃ s1 v u w1,k s1 v=some r/\z6 E A s ρ S a as w s1 v u w1/\((execOp a.eval o).run E.P w=.ok (.value u) w1\/(u=undef/\(execOp a.eval o).run E.P w=.ok .skip w1)):=by
 unfold evE at hk;split at hk
 ·rename_i T ho;obtain ⟨s1,v,u,w1,h1,h2,h3⟩:=A0y h hk;exact ⟨s1,v,u,w1,h1,h2,.inl (by simp [execOp,ho,h3])⟩
 ·rename_i T x ho;obtain ⟨s1,v,u,w1,h1,h2,h3⟩:=C0m hE h (h.val x) hk;exact ⟨s1,v,u,w1,h1,h2,.inl (by simp [execOp,ho,h3])⟩
 ·rename_i T p x ho;obtain ⟨s1,v,w1,h1,h2,h3⟩:=C0d hE h (h.val p) (h.val x) hk;exact ⟨s1,v,_,w1,h1,h2,.inr ⟨rfl,by simp [execOp,ho,h3]⟩⟩
 ·rename_i T n parts ho;split at hk
  ·obtain ⟨s1,v,u,w1,h1,h2,h3⟩:=E00 h hk;exact ⟨s1,v,u,w1,h1,h2,.inl (by simp [execOp,ho,h3])⟩
  ·obtain ⟨s1,v,u,w1,h1,h2,h3⟩:=D0N hE h hk;exact ⟨s1,v,u,w1,h1,h2,.inl (by simp [execOp,ho,h3])⟩
 ·rename_i T n m ho;split at hk
  ·obtain ⟨s1,v,u,w1,h1,h2,h3⟩:=x0N hE h hk;exact ⟨s1,v,u,w1,h1,h2,.inl (by simp [execOp,ho,h3])⟩
  ·obtain ⟨s1,v,u,w1,h1,h2,h3⟩:=z0a hE h hk;exact ⟨s1,v,u,w1,h1,h2,.inl (by simp [execOp,ho,h3])⟩
 ·rename_i c ho;split at hk<;>try cases hk
  ·rename_i x y T T' hc hx hT;split at hk<;>try cases hk
   rename_i hTT;rw [beq_eq] at hTT;subst hTT;have hargs:c.args=#[x,y]:=by have:=congrArg List.toArray hx;simpa using this
   have hts:c.argTypes=#[T,T]:=by have:=congrArg List.toArray hT;simpa using this
   obtain ⟨s1,v,u,w1,h1,h2,h3⟩:=w0n hE h (h.val x) (h.val y) o.type hk;exact ⟨s1,v,u,w1,h1,h2,.inl (by simp [execOp,ho,resolve,hc,hargs,hts,invoke,builtin,h3])⟩
  ·rename_i x y T T' hc hx hT;split at hk<;>try cases hk
   rename_i hTT;rw [beq_eq] at hTT;subst hTT;have hargs:c.args=#[x,y]:=by have:=congrArg List.toArray hx;simpa using this
   have hts:c.argTypes=#[T,T]:=by have:=congrArg List.toArray hT;simpa using this
   obtain ⟨s1,v,u,w1,h1,h2,h3⟩:=y0J (ty:=o.type) hE h (h.val x) (h.val y) hk;exact ⟨s1,v,u,w1,h1,h2,.inl (by simp [execOp,ho,resolve,hc,hargs,hts,invoke,builtin,h3])⟩
 ·rename_i T T' x ho;obtain ⟨s1,v,u,w1,h1,h2,h3⟩:=B0d h (h.val x) hk;exact ⟨s1,v,u,w1,h1,h2,.inl (by simp [execOp,ho,h3])⟩
 ·cases hk
end
end
