/- P. Its conditions: none. -/
import Derived.Test.YtihmgaccbcfgjaaGreatQG00
import Derived.Maps.AppendAt
import Derived.Laws.StructEq
import Derived.Laws.Cover3
import Derived.Laws.Slices
import Derived.OrdersHeld
import Derived.ArgAppend
import Derived.Laws.CopyRow
import Derived.Laws.IdiomCopy
import Derived.Lib.SlBytesConst
open Nat (le_refl le_trans lt_of_lt_of_le lt_or_ge eq_zero_or_pos succ_mul mul_le_mul_right zero_add min_eq_left le_total mul_one)
open Bool (and_eq_true)
open Option (map_eq_some_iff)
open List (eq_nil_of_length_eq_zero ext_getElem? drop_take length_append length_take length_drop take_zero)
set_option linter.all false
namespace Go.V
open Go.RowKit
section
variable {P:Program}{ops:Array Oper}{n:Nat}{Q:Exit->Act->World->Prop}{l:FL}{a:Act}{w:World}{o:Oper}{rest:List Oper}
theorem Below.new (w:World)(c:Obj):Below w.heap.size w (w.alloc c):=(Below.refl _ w).alloc (le_refl _) c
def j0t {V:Nat->Value}{cs:List Value}{T:TypeId}(ha:Ag n l a)(e:(gate ops l o==some true&&fit n l o)=true)
  (f:(execOp (lk l) o).run P w=.ok (.value (V w.heap.size)) (w.alloc (.cells cs.toArray T)))
  (h:∀w1 b,Below w.heap.size w w1->w1.heap[b]?=some (.cells cs.toArray T (0,0))->w.heap.size=b->w1.heap.size=b+1->∀c,Ag n (N5 l o.dst (V b)) c->wpList P ops Q rest c w1):wpList P ops Q (o :: rest) a w:=
 b0U ha e f fun c d=>h _ _ (Below.new w _) (heap_alloc_new w _) rfl X' c d
def n0p {b off:Nat}{v v0:Value}{ad:Addr}(c:ad=⟨b,off,none⟩)(h1:v.oneCell'=true)(e:w.cell? ⟨b,off,none⟩=some v0)(d:w.frozen? ⟨b,off,none⟩=false):
  (store ad v).run P w=.ok () (w.setCell ⟨b,off,none⟩ v):=by
 cases v<;>simp_all[store,Sem.run,Value.oneCell']
def v05 {b off:Nat}{t:TypeId}{cs:List Value}{v:Value}(c:w.heap[b]?=some (.cells cs.toArray t (0,0))):
  (w.setCell ⟨b,off,none⟩ v).heap[b]?=some (.cells (cs.set off v).toArray t (0,0)):=by
 simp[World.setCell,Array.getElem?_modify,c]
def h0h {W0:D0}{w:World}:∀k,Wr W0 w k->Wr W0 w k:=fun _ h=>h
structure j5 (b:Nat)(w w1:World):Prop where
 os:w1.os=w.os
 tape:w1.tape=w.tape
 output:w1.output=w.output
 size:w.heap.size<=w1.heap.size
 block:∀k,k<w.heap.size->k≠b->w1.heap[k]?=w.heap[k]?
def j5.cell (w:World)(b off:Nat)(v:Value):j5 b w (w.setCell ⟨b,off,none⟩ v):=
 ⟨rfl,rfl,rfl,X',fun k _ hk=>Below.heap_setCell w _ v k hk⟩
def j5.cx {b:Nat}{w0 w1:World}{W0 S0 S:D0}(h:Cx w0 W0 S0 w S)(c:j5 b w w1)(d:Wr W0 w0 b):Cx w0 W0 S0 w1 S:=
 ⟨⟨c.os.trans h.bel.os,c.tape.trans h.bel.tape,c.output.trans h.bel.output,le_trans h.bel.size c.size,fun k hk hn=>(c.block k (by have:=h.bel.size;omega) (fun e=>by subst e;exact d.elim hn (fun f=>O'))).trans (h.bel.block k hk hn)⟩,h.sub,fun k hk=>lt_of_lt_of_le (h.lt k hk) c.size,h.lt0⟩
def j5.L0 {b:Nat}{w1:World}{S:D0}(c:j5 b w w1)(d:S b):P0 w.heap S w1.heap S:=
 ⟨c.size,fun k hk hn=>⟨hn,c.block k hk (fun e=>hn (e▸d))⟩⟩
def t05 (b:Nat)(t:TypeId):∀(vs:List Value) (i:Nat) (w:World) (cs:List Value),w.heap[b]?=some (.cells cs.toArray t (0,0))->i+vs.length=cs.length->(∀v∈vs,v.oneCell'=true)->
  ∃w1,(storeCells ⟨b,0,none⟩ vs i).run P w=.ok () w1/\j5 b w w1/\w1.heap.size=w.heap.size/\w1.heap[b]?=some (.cells (cs.take i++vs).toArray t (0,0))
 |[],i,w,cs,f,hl,_=>⟨w,by rfl,⟨rfl,rfl,rfl,le_refl _,fun _ _ _=>rfl⟩,rfl,by simp_all⟩
 |v :: vs,i,w,cs,f,hl,h1=>by
  simp only[List.length_cons]at hl;have j:w.cell? ⟨b,i,none⟩=some cs[i]:=by simp_all[e0W,O1]
  have h:w.frozen? ⟨b,i,none⟩=false:=by simp[World.frozen?,f]
  have g:=n0p (P:=P) (w:=w) (ad:=(⟨b,0,none⟩:Addr).add i) (by simp_all[Addr.add]) (h1 v X') j h;obtain⟨w1,p,d,hs,e⟩:=t05 b t vs (i+1) (w.setCell ⟨b,i,none⟩ v) (cs.set i v) (v05 f) (by grind) (fun u hu=>h1 u (by grind));have c:=j5.cell w b i v;refine⟨w1,by simp_all[storeCells],⟨d.os.trans c.os,d.tape.trans c.tape,d.output.trans c.output,le_trans c.size d.size,fun k hk hn=>(d.block k (lt_of_lt_of_le hk c.size) hn).trans (c.block k hk hn)⟩,hs.trans X',?_⟩;rw[e];congr 2
  grind
def G0T {T:TypeId}{x y:Operand}{b:Nat}{t:TypeId}{cs vs:List Value}{v:Value}(ha:Ag n l a)(k:(gate ops l o==some true&&fit n l o)=true)(C:o.op=.store T x y)
  (z:lk l x=.pointer (some ⟨b,0,none⟩)) (s:lk l y=v) (q:v.cells=vs.toArray) (p:w.heap[b]?=some (.cells cs.toArray t (0,0))) (hl:(decide (vs.length=cs.length)&&vs.all (·.oneCell'))=true)
  (f:(P.info? T).map (·.size)=some vs.length)
  (h:∀w1,j5 b w w1->w1.heap.size=w.heap.size->w1.heap[b]?=some (.cells vs.toArray t (0,0))->∀d,Ag n (N5 l o.dst undef) d->wpList P ops Q rest d w1):wpList P ops Q (o :: rest) a w:=by
 simp only[and_eq_true,decide_eq_true_eq,List.all_eq_true]at hl;obtain⟨inf,j,hs⟩:=map_eq_some_iff.1 f;obtain⟨w1,u,e,c,g⟩:=t05 (P:=P) b t vs 0 w cs p O' hl.2;refine l0Y ha k (w':=w1) ?_ fun d i=>h _ e c g d i
 simp_all[execOp,Instr.storeAt,Instr.sureAddr,storeVar,sizeOf,typeInfo]
def I0u {g:Oper}{T:TypeId}{y:Operand}{d:Nat}{z vs:List Value}{v:Value}{w0:World}{W0 S0 S:D0}(ha:Ag n l a)(cx:Cx w0 W0 S0 w S)(hf:(gate ops l o==some true&&fit n l o)=true)(hd:o.dst=some d)
  (J:(execOp (lk l) o).run P w=.ok (.value (.pointer (some ⟨w.heap.size,0,none⟩))) (w.alloc (.cells z.toArray T)))
  (q:∀b,(gate ops (N5 l (some d) (.pointer (some ⟨b,0,none⟩))) g==some true&&fit n (N5 l (some d) (.pointer (some ⟨b,0,none⟩))) g)=true) (p:g.op=.store T (.tmp d) y) (s:g.dst=none)
  (I:∀b,lk (N5 l (some d) (.pointer (some ⟨b,0,none⟩))) y=v) (x:v.cells=vs.toArray) (hl:(decide (vs.length=z.length)&&vs.all (·.oneCell'))=true) (j:(P.info? T).map (·.size)=some vs.length)
  (h:∀w1 b,Cx w0 W0 S0 w1 S->Below w.heap.size w w1->Bx w1.heap S b T vs->∀u,Ag n (N5 l (some d) (.pointer (some ⟨b,0,none⟩))) u->wpList P ops Q rest u w1):wpList P ops Q (o :: g :: rest) a w:=by
 refine j0t (V:=fun b=>.pointer (some ⟨b,0,none⟩)) ha hf J fun w1 b C h1 e1 e2 a1 i=>?_;rw[hd]at i;refine G0T i (q b) p (by simp[lk,N5,look?]) (I b) x h1 hl j fun t c U h2 a2 e=>?_;rw[s]at e;have f:Below w.heap.size w t:=C.trans ⟨c.os,c.tape,c.output,c.size,fun k hk=>c.block k O' O'⟩;exact h t b (cx.ext f) f ⟨h2,fun R=>by have:=cx.lt b R;omega⟩ a2 e
def Q4.news {α:Type}{T:Ty α}{S:D0}{A:Option Addr}:∀{xs:List α} {k:Nat},(∀(i:Nat) (x:α),xs[i]?=some x->∃b o cs,A=some ⟨b,o,none⟩/\T.R w.heap S cs x/\∀j v,cs[j]?=some v->O1 w.heap b (o+(k+i)*T.sz+j)=some v)->
  ∃news,R1 T w.heap S news xs/\∀b o,A=some ⟨b,o,none⟩->∀j u,news[j]?=some u->O1 w.heap b (o+k*T.sz+j)=some u
 |[],k,_=>⟨[],R1.nil,fun b o _ j u d=>by grind⟩
 |x :: xs,k,h=>by
  obtain⟨b,o,cs,f,c,g⟩:=h 0 x X';obtain⟨news,he,hn⟩:=Q4.news (xs:=xs) (k:=k+1) (fun i y s=>by
   obtain⟨b,o,cs,f,c,g⟩:=h (i+1) y (by simp_all);exact⟨b,o,cs,f,c,fun j v d=>by grind⟩)
  refine⟨cs++news,?_,fun b' p e j u d=>?_⟩
  ·have:=(R1.one c).append he
   simp_all
  ·rcases lt_or_ge j cs.length with hlt|hge
   ·grind
   ·rw[List.getElem?_append_right hge]at d;have q:=hn b' p e _ u d;rw[T.len c]at q hge
    grind
def u0z (base:Nat)(t ty e:TypeId)(i:TypeInfo)(size:Nat)(f:P.underlying t=some (.slice e))(hi:P.info? e=some i)
  (v:Value) (n:Nat) (xs:List Value) (d:w.ownsRow base e size v n xs) (A:Option Addr) (c:Nat):(Builtin.append_ #[t,t] ty #[v,.slice A 0 c]).run P w=.ok v w:=by
 rcases d.2 with⟨rfl,rfl⟩|⟨g,cap,cur,rfl,_,_,hnc,_⟩
 ·cases A<;>simp[Builtin.append_,run_underlying f,sizeOf,typeInfo,hi,Builtin.lenOf,Builtin.firstCells,loadCells,loadCellsFrom]
 ·cases A<;>simp[Builtin.append_,run_underlying f,sizeOf,typeInfo,hi,Builtin.lenOf,Builtin.firstCells,loadCells,loadCellsFrom,hnc,storeCells]
def K0 {α:Type}(bytes:Nat)(xs ys:List α):Bool:=decide ((xs.length+ys.length)*bytes<=140737488355328)
def z0l {α:Type}{T:Ty α}{S M:D0}(t ty e:TypeId)(bytes:Nat)(z:Value)(ht:P.underlying t=some (.slice e))(hE:(P.info? e).map (fun i=>(i.zero,i.size,i.bytes))=some (some z,T.sz,bytes))(p:(decide (z.cells.size=T.sz)&&decide (0<T.sz)&&decide (0<bytes))=true)
  {v:Value} {xs ys:List α} (J:Ow T e M w.heap S v xs) {A:Option Addr} {c:Nat} (hy:Q4 T w.heap S A ys) (q:K0 bytes xs ys=true):
  ∃f w1,(Builtin.append_ #[t,t] ty #[v,.slice A ys.length c]).run P w=.ok f w1/\w.grownBy w1 v.ownBlock/\(f.ownBlock=v.ownBlock\/f.ownBlock=some w.heap.size)/\
   ∀S1:D0,P0 w.heap S w1.heap S1->∀C:D0,(∀k,f.ownBlock=some k->S1 k/\C k)->Ow T e C w1.heap S1 f (xs++ys):=by
 obtain⟨i,hi,U⟩:=map_eq_some_iff.1 hE;simp only[Prod.mk.injEq]at U;obtain⟨hz,b2,b4⟩:=U;simp only[and_eq_true,decide_eq_true_eq]at p;obtain⟨hS,cs,d,R⟩:=J;simp only[K0,decide_eq_true_eq]at q;have a1:xs.length+ys.length<=maxLen:=by
  have:xs.length+ys.length<=(xs.length+ys.length)*bytes:=Nat.le_mul_of_pos_right _ p.2
  grind [maxLen]
 obtain⟨news,g,b1⟩:=Q4.news (w:=w) (xs:=ys) (k:=0) (A:=A) (T:=T) (S:=S) (fun i x hx=>by
  obtain⟨b,o,cs,h1,h2,h3⟩:=hy i x hx
  grind)
 have done:∀(f:Value) (w1:World),w1.ownsRow 0 e T.sz f (xs.length+ys.length) (cs++news)->∀S1:D0,P0 w.heap S w1.heap S1->∀C:D0,(∀k,f.ownBlock=some k->S1 k/\C k)->Ow T e C w1.heap S1 f (xs++ys):=by
  intro f w1 h1 S1 k C b3;refine⟨b3,cs++news,?_,(R.L0 k).append (g.L0 k)⟩
  grind [Row.of]
 rcases A with _|ad
 ·have I:ys=[]:=by
   cases ys with
   |nil=>rfl
   |cons y ys=>obtain⟨b,o,cs,h,_⟩:=hy 0 y X';cases h
  subst I;have hn:news=[]:=eq_nil_of_length_eq_zero (by have:=g.1;simp_all);subst hn;exact⟨v,w,u0z 0 t ty e i T.sz ht hi v xs.length cs d.own none c,⟨rfl,rfl,rfl,le_refl _,fun _ _ _=>rfl⟩,.inl rfl,done v w (by simpa using d.own)⟩
 ·rcases eq_zero_or_pos ys.length with I|hpos
  ·have I:ys=[]:=eq_nil_of_length_eq_zero I;subst I;have hn:news=[]:=eq_nil_of_length_eq_zero (by have:=g.1;simp_all);subst hn;exact⟨v,w,u0z 0 t ty e i T.sz ht hi v xs.length cs d.own (some ad) c,⟨rfl,rfl,rfl,le_refl _,fun _ _ _=>rfl⟩,.inl rfl,done v w (by simpa using d.own)⟩
  ·obtain⟨b,o,_,hA,_⟩:=hy 0 ys[0] X';have hA:=Option.some.inj hA;subst hA;have s:∀j u,news[j]?=some u->w.cell? ((⟨b,o,none⟩:Addr).add j)=some u:=by
    intro j u hj;rw[k7]
    simp_all
   obtain⟨f,w',b5,h2,h3,_,h5⟩:=run_append_own_at (P:=P) w 0 t ty e i z T.sz bytes ht hi hz b2 b4 p.1.1 p.1.2 v xs.length cs d.own ⟨b,o,none⟩ ys.length c news g.1 s g.e0w a1 q (Nat.zero_le _)
   grind
def Ow.ext {α:Type}{T:Ty α}{e:TypeId}{M S:D0}{v:Value}{xs:List α}{w w1:World}(h:Ow T e M w.heap S v xs)(c:Below w.heap.size w w1):Ow T e M w1.heap S v xs:=
 h.L0 (P0.ext S c) (fun _ h=>h) (fun b d=>c.block b (h.lt b d))
def Ow.j0z {α:Type}{T:Ty α}{e:TypeId}{M S S1:D0}{v:Value}{xs:List α}{w w1:World}(h:Ow T e M w.heap S v xs)(d:Below w.heap.size w w1)(k:P0 w.heap S w1.heap S1)(hs:∀b,S b->S1 b):Ow T e M w1.heap S1 v xs:=
 h.L0 k hs (fun b c=>d.block b (h.lt b c))
def Mb.ext {M S:D0}{b:Nat}{t:TypeId}{cs:List Value}{w w1:World}(h:Mb M w.heap S b t cs)(c:Below w.heap.size w w1):Mb M w1.heap S b t cs:=
 h.L0 (fun _ h=>h) (c.block b (getElem?_lt h.1))
def Mb.j0z {M S S1:D0}{b:Nat}{t:TypeId}{cs:List Value}{w w1:World}(h:Mb M w.heap S b t cs)(c:Below w.heap.size w w1)(hs:∀b,S b->S1 b):Mb M w1.heap S1 b t cs:=
 h.L0 hs (c.block b (getElem?_lt h.1))
def Ow.result {α:Type}{T:Ty α}{e:TypeId}{M:D0}{H:I0}{S S0:D0}{v:Value}{xs:List α}(h:Ow T e M H S v xs)(hs:∀b,S0 b->S b):Ow T e M H (inV v S0) v xs:=
 h.o0U (fun _ c=>c.elim (fun d=>(h.1 _ d).1) (hs _)) (fun _ c=>.inl c)
theorem Bx.new {w0 w w1:World}{W0 S0 S:D0}{b:Nat}{t:TypeId}{cs:List Value}(cx:Cx w0 W0 S0 w S)(hk:w1.heap[b]?=some (.cells cs.toArray t (0,0)))(he:w.heap.size=b):Bx w1.heap S b t cs:=
 ⟨hk,fun hs=>by have:=cx.lt b hs;omega⟩
def I0n {α:Type}{T:Ty α}{e:TypeId}{w0 w w1:World}{W0 S0 S:D0}{v:Value}{xs:List α}(cx:Cx w0 W0 S0 w S)(c:Below w.heap.size w w1)(f:Ow T e (Wr C3 w) w1.heap (inV v S) v xs):
  ∃S1,Cx w0 W0 S0 w1 S1/\P0 w.heap S w1.heap S1/\(∀b,S b->S1 b)/\(∀k,v.ownBlock=some k->w.heap.size<=k)/\Ow T e (Wr C3 w0) w1.heap S1 v xs:=by
 have hn:∀k,v.ownBlock=some k->w.heap.size<=k:=fun k hk=>(f.1 k hk).2.elim (fun h=>h.elim) (fun h=>h);exact⟨inV v S,(cx.ext c).more (fun _ h=>.inr h) (fun b h=>h.elim (fun h=>f.lt b h) ((cx.ext c).lt b)),⟨c.size,fun b h d=>⟨fun hi=>hi.elim (fun g=>by grind) d,c.block b h⟩⟩,
  fun _ h=>.inr h,hn,f.b0a (fun k hk=>.inr (by have:=hn k hk;have:=cx.size;omega))⟩
def E08 {α:Type}{T:Ty α}{e:TypeId}{w0 w:World}{W0 S0 S:D0}{H1:I0}{A:Option Addr}{n c:Nat}{xs:List α}(cx:Cx w0 W0 S0 w S)(f:Ow T e (Wr C3 w) H1 (inV (.slice A n c) S) (.slice A n c) xs):Sl T H1 S A c xs:=
 f.freeze (fun _ h=>.inr h) (fun b d hs=>by have:=cx.lt b hs;have:=(f.1 b d).2.elim (fun h=>h.elim) (fun h=>h);omega)
def s0R {α:Type}{T:Ty α}{e:TypeId}{w0 w w1:World}{W0 S0 S:D0}{b m:Nat}{cs:List Value}{xs:List α}(_cx:Cx w0 W0 S0 w S)(f:Below w.heap.size w w1)(hk:w1.heap[b]?=some (.cells cs.toArray e (0,0)))(he:w.heap.size=b)(hm:m=xs.length)(d:(decide (m<=1000000))=true)(c:R1 T w.heap S cs xs):
  Ow T e (Wr C3 w) w1.heap (inV (.slice (some ⟨b,0,none⟩) m m) S) (.slice (some ⟨b,0,none⟩) m m) xs:=by
 subst hm;refine⟨fun k hk=>⟨.inl hk,.inr (by simp_all[Value.ownBlock])⟩,cs,⟨c.1,.inr ⟨b,xs.length,cs.toArray,rfl,hk,le_refl _,by grind [maxLen],by simp[c.1],by simp[<-c.1]⟩⟩,c.L0 ⟨f.size,fun k h hn=>⟨fun hi=>hi.elim (fun g=>?_) hn,f.block k h⟩⟩⟩
 simp_all[Value.ownBlock]
def F6 (v u:Value):Prop:=∀k,v.ownBlock=some k->u.ownBlock≠some k
def bv (b:Nat):Value:=.slice (some ⟨b,0,none⟩) 0 0
def F6.symm {v u:Value}(h:F6 v u):F6 u v:=fun k hk e=>h k e hk
def F6.nil {v:Value}:F6 v (.slice none 0 0):=fun k _ e=>by cases e
theorem F6.new {v u:Value}{m:Nat}(h:∀k,v.ownBlock=some k->k<m)(c:∀k,u.ownBlock=some k->m<=k):F6 v u:=fun k hk e=>by grind
def F6.grow {v u c:Value}{m:Nat}(d:F6 v u)(h:∀k,v.ownBlock=some k->k<m)(f:∀k,c.ownBlock=some k->u.ownBlock=some k\/m<=k):F6 v c:=fun k hk e=>by
 rcases f k e with h2|h2
 ·exact d k hk h2
 grind
def Mb.lt {M:D0}{H:I0}{S:D0}{b:Nat}{t:TypeId}{cs:List Value}(h:Mb M H S b t cs):∀k,(bv b).ownBlock=some k->k<H.size:=fun k hk=>by cases hk;exact getElem?_lt h.1
def Ow.only {α:Type}{T:Ty α}{e:TypeId}{M S:D0}{b:Nat}{v:Value}{xs:List α}{w w1:World}(h:Ow T e M w.heap S v xs)(c:j5 b w w1)(d:S b)(hd:v.ownBlock≠some b):Ow T e M w1.heap S v xs:=
 h.L0 (c.L0 d) (fun _ h=>h) (fun k hk=>c.block k (h.lt k hk) (fun e=>hd (by simp_all)))
def Mb.only {M S:D0}{b c:Nat}{t:TypeId}{cs:List Value}{w w1:World}(h:Mb M w.heap S c t cs)(d:j5 b w w1)(hd:c≠b):Mb M w1.heap S c t cs:=
 h.L0 (fun _ h=>h) (d.block c (getElem?_lt h.1) hd)
def R2 (bytes:Nat)(n:Int):Bool:=decide (0<=n)&&decide (n*bytes<=140737488355328)
def l0r {α:Type}{T:Ty α}{H:I0}{S:D0}{z:List Value}{x:α}(c:T.R H S z x):∀(k:Nat),R1 T H S (List.replicate k z).flatten (List.replicate k x)
 |0=>R1.nil
 |k+1=>by
  exact(R1.one c).append (l0r c k)
theorem n0t (z:Array Value):∀(k:Nat),(madeCells z (k*z.size)).toList=(List.replicate k z.toList).flatten:=by
 intro k;apply ext_getElem?;intro i;rcases lt_or_ge i (k*z.size)with hi|hi
 ·have h1:((madeCells z (k*z.size)).toList)[i]?=some z[i % z.size]!:=by simp[madeCells,hi]
  have key:∀(k i:Nat),i<k*z.size->((List.replicate k z.toList).flatten)[i]?=some z[i % z.size]!:=by
   intro k
   induction k with
   |zero=>omega
   |succ k ih=>
    grind [Nat.mod_eq_of_lt,List.getElem?_append_right,Nat.mod_eq_sub_mod]
  simp_all
 simp_all[size_madeCells]
def r0o {α:Type}{T:Ty α}{w0:World}{W0 S0 S:D0}{t e:TypeId}{bytes:Nat}{z:Value}{zx:α}{x y:Operand}{k:IntKind}{m:Int}(ha:Ag n l a)(cx:Cx w0 W0 S0 w S)(hf:(gate ops l o==some true&&fit n l o)=true)
  (ho:o.op=.makeSlice t x y) (hx:lk l x=.int k m) (hy:lk l y=.int k m)
  (ht:P.underlying t=some (.slice e)) (hE:(P.info? e).map (fun i=>(i.zero,i.size,i.bytes))=some (some z,T.sz,bytes)) (g:(decide (z.cells.size=T.sz)&&decide (0<T.sz)&&decide (0<bytes))=true)
  (hz:∀(H:I0) (S:D0),T.R H S z.cells.toList zx) (d:R2 bytes m=true)
  (h:∀w1 S1 U c1,Cx w0 W0 S0 w1 S1->Below w.heap.size w w1->P0 w.heap S w1.heap S1->(∀b,S b->S1 b)->
   (∀k,(Value.slice U (List.replicate m.toNat zx).length c1).ownBlock=some k->w.heap.size<=k)->Ow T e (Wr C3 w0) w1.heap S1 (.slice U (List.replicate m.toNat zx).length c1) (List.replicate m.toNat zx)->
   ∀u,Ag n (N5 l o.dst (.slice U (List.replicate m.toNat zx).length c1)) u->wpList P ops Q rest u w1):wpList P ops Q (o :: rest) a w:=by
 obtain⟨i,hi,f⟩:=map_eq_some_iff.1 hE;simp only[Prod.mk.injEq]at f;obtain⟨J,C,b1⟩:=f;simp only[and_eq_true,decide_eq_true_eq]at g;simp only[R2,and_eq_true,decide_eq_true_eq]at d;obtain⟨q,rfl⟩:=Int.eq_ofNat_of_zero_le d.1;have a1:q<=q*bytes:=Nat.le_mul_of_pos_right _ g.2;obtain⟨w1,p,s,hg⟩:=run_make_full (P:=P) w w.heap.size t e i z T.sz ht hi J C k k q (by grind) (by grind [maxLen]) (le_refl _);have j:Below w.heap.size w w1:=⟨hg.os,hg.tape,hg.output,hg.size,fun k hk=>hg.block k hk X'⟩
 have hblk:∀k,(Value.slice (some ⟨w.heap.size,0,none⟩) (List.replicate q zx).length q).ownBlock=some k->k=w.heap.size:=by
  simp[Value.ownBlock]
 refine b0U ha hf (v:=.slice (some ⟨w.heap.size,0,none⟩) (List.replicate q zx).length q) (w':=w1) ?_ fun u I=>
  h w1 (inV (.slice (some ⟨w.heap.size,0,none⟩) (List.replicate q zx).length q) S) (some ⟨w.heap.size,0,none⟩) q ?_ j ⟨j.size,fun b c hn=>⟨fun hi=>?_,j.block b c⟩⟩ (fun b c=>.inr c) (fun k hk=>by grind) ⟨fun k hk=>⟨.inl hk,.inr (by rw[hblk k hk];exact cx.size)⟩,_,?_,l0r (hz _ _) q⟩ u I
 ·simp[execOp,ho,hx,hy,p]
 ·refine⟨cx.bel.trans j,fun b c=>.inr (cx.sub b c),fun b c=>?_,cx.lt0⟩;rcases c with c|c
  ·have:=s.2
   grind
  ·exact lt_of_lt_of_le (cx.lt b c) j.size
 ·rcases hi with hi|hi
  ·grind
  grind
 grind [n0t,Row.of]
theorem k0z (b o p:Nat):(⟨b,o,none⟩:Addr).add p=⟨b,o+p,none⟩:=by
 simp[Addr.add]
def F0t {cs:List Value}{p q sz:Nat}{v:Value}(h:p<q\/q+sz<=p):((cs.set p v).drop q).take sz=(cs.drop q).take sz:=by
 apply ext_getElem?
 grind
def B0H {cs:List Value}{q f sz:Nat}{v:Value}:((cs.set (q+f) v).drop q).take sz=((cs.drop q).take sz).set f v:=by
 apply ext_getElem?
 grind
def R1.set {α:Type}{T:Ty α}{H H':I0}{S S':D0}{cs:List Value}{xs:List α}(k:P0 H S H' S')(h:R1 T H S cs xs){i f:Nat}{x x':α}{v:Value}(q:f<T.sz)(p:xs[i]?=some x)
  (g:∀d,T.R H S d x->T.R H' S' (d.set f v) x'):R1 T H' S' (cs.set (i*T.sz+f) v) (xs.set i x'):=by
 refine⟨by simp[h.1],fun j y c=>?_⟩;rw[List.getElem?_set]at c
 by_cases e:i=j
 ·subst e;have hi:i<xs.length:=by
   simp_all
  simp only[if_true,if_pos hi,Option.some.injEq]at c;subst c;rw[B0H];exact g _ (h.2 i x p)
 ·rw[if_neg e]at c;rw[F0t]
  ·exact T.L0 k (h.2 j y c)
  ·rcases lt_or_ge i j with h1|h1
   ·have:i*T.sz+T.sz<=j*T.sz:=by rw[<-succ_mul];exact mul_le_mul_right _ h1
    omega
   ·have:j*T.sz+T.sz<=i*T.sz:=by rw[<-succ_mul];exact mul_le_mul_right _ O'
    omega
def u0Z {α:Type}[Inhabited α]{T:Ty α}{w0:World}{W0 Wf S0 S:D0}{t e:TypeId}{nn c b off f:Nat}{i:Int}{x y:Operand}{v:Value}{ad:Addr}{xs:List α}{x':α}(ha:Ag n l a)(cx:Cx w0 W0 S0 w S)(hf:(gate ops l o==some true&&fit n l o)=true)
  (ho:o.op=.store t x y) (hx:lk l x=.pointer (some ad)) (hy:lk l y=v) (hW:∀k,Wr Wf w0 k->Wr W0 w0 k) (p:Ow T e (Wr Wf w0) w.heap S (.slice (some ⟨b,off,none⟩) nn c) xs) (hi:y0 xs i=true) (j:(decide (f<T.sz)&&v.oneCell')=true)
  (u:ad=⟨b,off+i.toNat*T.sz+f,none⟩) (a1:(P.info? t).map (·.size)=some 1)
  (hr:∀(H':I0) d,P0 w.heap S H' S->T.R w.heap S d (gt xs i)->T.R H' S (d.set f v) x')
  (h:∀w1,Cx w0 W0 S0 w1 S->j5 b w w1->P0 w.heap S w1.heap S->Ow T e (Wr Wf w0) w1.heap S (.slice (some ⟨b,off,none⟩) nn c) (xs.set i.toNat x')->∀U,Ag n (N5 l o.dst undef) U->wpList P ops Q rest U w1):wpList P ops Q (o :: rest) a w:=by
 simp only[and_eq_true,decide_eq_true_eq]at j;have b2:=h0D hi;have b9:=a0o hi;have hS:=p.1;obtain⟨b4,cs,⟨c0,I⟩,z⟩:=p;rcases I with⟨hv,_⟩|⟨g,cap,cur,hv,hg,hnc,hm,hcs,htake⟩
 ·cases hv
 ·obtain⟨⟨rfl,rfl⟩,rfl,rfl⟩:=hv;have hp:i.toNat*T.sz+f<xs.length*T.sz:=by
   have:i.toNat*T.sz+T.sz<=xs.length*T.sz:=by rw[<-succ_mul];exact mul_le_mul_right _ O'
   omega
  have b6:xs.length*T.sz<=cur.size:=by grind
  have s:w.cell? ⟨b,i.toNat*T.sz+f,none⟩=some (cur[i.toNat*T.sz+f]' O'):=by simp_all[e0W,O1]
  have b3:w.frozen? ⟨b,i.toNat*T.sz+f,none⟩=false:=by simp[World.frozen?,hg]
  rw[zero_add]at u;have c3:=n0p (P:=P) (w:=w) (ad:=ad) u j.2 s b3;have q:=j5.cell w b (i.toNat*T.sz+f) v;have C:=hS b (by rfl);have hk:=q.L0 C.1;refine l0Y ha hf (w':=w.setCell ⟨b,i.toNat*T.sz+f,none⟩ v) ?_ fun U b1=>h _ (q.cx cx (hW _ C.2)) q hk ⟨b4,cs.set (i.toNat*T.sz+f) v,⟨by grind,.inr ⟨b,c,cur.setIfInBounds (i.toNat*T.sz+f) v,X',?_,by simp_all,hm,by grind,?_⟩⟩,z.set hk j.1 b2 (fun d he=>hr _ d hk he)⟩ U b1
  ·obtain⟨inf,b5,b7⟩:=map_eq_some_iff.1 a1;have J:v.cells=#[v]:=by have:=j.2;cases v<;>simp_all[Value.cells,Value.oneCell']
   simp_all[Addr.add,execOp,Instr.storeAt,Instr.sureAddr,storeVar,sizeOf,typeInfo,storeCells]
  ·simp[World.setCell,Array.getElem?_modify,hg]
  simp_all[List.take_set]
def v0w (n:Nat)(i:Int):Bool:=decide (0<=i)&&decide (i<n)
def h08 {α:Type}(l:List α):Bool:=!l.isEmpty
def minus (S:D0)(v:Value):D0:=fun k=>S k/\v.ownBlock≠some k
def Cx.minus {w0 w:World}{W0 S0 S:D0}{v:Value}(h:Cx w0 W0 S0 w S)(d:∀k,v.ownBlock=some k->¬S0 k):Cx w0 W0 S0 w (minus S v):=
 ⟨h.bel,fun b c=>⟨h.sub b c,fun e=>d b e c⟩,fun b c=>h.lt b c.1,h.lt0⟩
def Sl.minus {α:Type}{T:Ty α}{H:I0}{S:D0}{A:Option Addr}{c:Nat}{v:Value}{xs:List α}(h:Sl T H S A c xs):Sl T H (minus S v) A c xs:=h.L0 (P0.less (fun _ h=>h.1))
def Bx.minus {H:I0}{S:D0}{b:Nat}{t:TypeId}{cs:List Value}{v:Value}(h:Bx H S b t cs):Bx H (minus S v) b t cs:=h.L0 (P0.less (fun _ h=>h.1))
def Ow.z0x {α:Type}{T:Ty α}{e:TypeId}{M:D0}{H:I0}{S:D0}{A:Option Addr}{n c:Nat}{xs:List α}(h:Ow T e M H S (.slice A n c) xs):Sl T H (Go.V.minus S (.slice A n c)) A c xs:=
 h.freeze (fun _ h=>h.1) (fun _ d h=>h.2 d)
def Ow.minus {α:Type}{T:Ty α}{e:TypeId}{M:D0}{H:I0}{S:D0}{v u:Value}{xs:List α}(h:Ow T e M H S v xs)(d:F6 v u):Ow T e M H (Go.V.minus S u) v xs:=
 h.o0U (fun _ h=>h.1) (fun b c=>⟨(h.1 b c).1,fun e=>d b c e⟩)
def Mb.minus {M:D0}{H:I0}{S:D0}{b:Nat}{t:TypeId}{cs:List Value}{u:Value}(h:Mb M H S b t cs)(d:F6 (bv b) u):Mb M H (Go.V.minus S u) b t cs:=
 ⟨h.1,⟨h.2.1,fun e=>d b rfl e⟩,h.2.2⟩
def G1 {α:Type}(xs:List α)(lo hi:Int):List α:=(xs.drop lo.toNat).take (hi-lo).toNat
def P3 {α:Type}(xs:List α)(lo hi:Int):Bool:=decide (0<=lo)&&decide (lo<=hi)&&decide (hi<=xs.length)
def d0b {α:Type}{xs:List α}{lo hi:Int}(h:P3 xs lo hi=true):(G1 xs lo hi).length=(hi-lo).toNat:=by
 simp only[P3,and_eq_true,decide_eq_true_eq]at h
 grind [G1]
def Q4.cut {α:Type}{T:Ty α}{H:I0}{S:D0}{A:Option Addr}{xs:List α}{lo hi:Int}{m:Nat}{e:Option Addr}(h:Q4 T H S A xs)(hk:P3 xs lo hi=true)
  (k:e=A.map (·.add (lo.toNat*T.sz))\/m=0/\(G1 xs lo hi)=[]):Q4 T H S e (G1 xs lo hi):=by
 intro i x c;have f:G1 xs lo hi≠[]:=by grind
 have d:i<(hi-lo).toNat:=by
  grind [G1]
 unfold G1 at c;rw[List.getElem?_take_of_lt d,List.getElem?_drop]at c;obtain⟨b,o,cs,g,j,p⟩:=h _ x c
 grind [k0z]
def Sl.cut {α:Type}{T:Ty α}{H:I0}{S:D0}{A e:Option Addr}{c c' m:Nat}{xs:List α}{lo hi:Int}(h:Sl T H S A c xs)(hk:P3 xs lo hi=true)(k:(hi-lo).toNat<=c')
  (f:e=A.map (·.add (lo.toNat*T.sz))\/m=0/\(G1 xs lo hi)=[]):Sl T H S e c' (G1 xs lo hi):=by
 refine⟨by simp_all[d0b],fun i=>?_,h.O8.cut hk f⟩;have d:xs≠[]:=by grind [G1]
 obtain⟨b,o,g,j,hs⟩:=h.2.1 d
 simp_all[k0z]
def Ow.take {α:Type}{T:Ty α}{e:TypeId}{M:D0}{H:I0}{S:D0}{A:Option Addr}{c:Nat}{xs:List α}{hi:Int}(h:Ow T e M H S (.slice A xs.length c) xs)(p:0<=hi)(h1:hi<=xs.length):Ow T e M H S (.slice A (G1 xs 0 hi).length c) (G1 xs 0 hi):=by
 obtain⟨q,rfl⟩:=Int.eq_ofNat_of_zero_le p;have d:G1 xs 0 (q:Int)=xs.take q:=by rfl
 obtain⟨s,cs,⟨hl,u⟩,he⟩:=h;have j:q<=xs.length:=O'
 have t:q*T.sz<=xs.length*T.sz:=mul_le_mul_right _ j;refine⟨fun k hk=>s k (by cases A<;>exact hk),cs.take (q*T.sz),⟨by simp_all,?_⟩,⟨by simp_all,fun i x g=>?_⟩⟩
 ·grind
 ·rw[d]at g;have f:i<q:=by
   grind
  rw[List.getElem?_take_of_lt f]at g;have:=he.2 i x g;have hle:i*T.sz+T.sz<=q*T.sz:=by rw[<-succ_mul];exact mul_le_mul_right _ f
  grind [drop_take]
end
def NoP (Q:Exit->Act->World->Prop):Prop:=∀c a w,¬Q (.panic c) a w
section
variable {P:Program}{ops:Array Oper}{n:Nat}{Q:Exit->Act->World->Prop}{S:Array Bool->World->Prop}{l:FL}{a:Act}{w:World}{listed:Array Bool}{fuel:Nat}
def wpS (P:Program)(ops:Array Oper)(Q:Exit->Act->World->Prop)(S:Array Bool->World->Prop):Nat->Array Bool->Act->World->Prop
 |0,L,a,w=>Region.ready .any ops L=[]/\Q .normal a w
 |f+1,L,a,w=>(Region.ready .any ops L=[]->Q .normal a w)/\∀i∈Region.ready .any ops L,wpOp P ops Q i (fun c w'=>S (L.setIfInBounds i true) w'/\wpS P ops Q S f (L.setIfInBounds i true) c w') a w
def p0J:∀(f:Nat) (L:Array Bool) (a:Act) (w:World),wpS P ops Q S f L a w->wpAny P .any ops Q f L a w
 |0,_,_,_,h=>h
 |f+1,_,_,_,h=>⟨h.1,fun i hi=>wpOp_mono (fun c w' k=>p0J f _ c w' k.2) (h.2 i hi)⟩
def Cl (ops:Array Oper)(L:Array Bool):Prop:=L.size=ops.size/\∀j o,ops[j]?=some o->L.getD j false=true->∀e∈o.after,Region.binds .any e=true->L.getD e.on false=true
def clb (ops:Array Oper)(L:Array Bool):Bool:=(L.size==ops.size)&&(List.range ops.size).all fun j=>match ops[j]? with
 |some o=>!L.getD j false||o.after.all fun e=>!Region.binds .any e||L.getD e.on false
 |none=>true
def n0R {L:Array Bool}(h:clb ops L=true):Cl ops L:=by
 simp only[clb,and_eq_true,beq_iff_eq,List.all_eq_true]at h;refine⟨h.1,fun j o d f e he i=>?_⟩;have c:j<ops.size:=(Array.getElem?_eq_some_iff.1 d).1;have g:=h.2 j (List.mem_range.2 c);simp only[d,f,Bool.not_true,Bool.false_or,Array.all_eq_true_iff_forall_mem]at g
 grind
def Cl.set {L:Array Bool}{j:Nat}(h:Cl ops L)(f:j∈Region.ready .any ops L):Cl ops (L.setIfInBounds j true):=by
 refine⟨by simp[h.1],fun k o d hk e he g=>?_⟩;obtain⟨_,q,p,c⟩:=mem_ready.1 f
 by_cases i:j=k
 ·grind [getD_set_true]
 ·rw[getD_set_ne false i]at hk;exact getD_set_true (h.2 k o d hk e he g)
def n0o {i:Nat}{t:Oper}{v:Value}{Sx:World->Prop}(hi:ops[i]?=some t)(q:∀(j:Nat) (o:Oper) cs b,ops[j]?=some o->o.op≠.select cs b)
  (hQ:∀c a w,Q (.panic c) (a.put t.dst v) w->Q (.panic c) a w) (y:∀L w,Cl ops L->L.getD i true=false->S L w->Sx w) (b2:∀L w,S (L.setIfInBounds i true) w->L.getD i true=false->S L w)
  (I:∀L w,S L w->S (L.setIfInBounds i true) w):
  ∀(fuel:Nat) (L:Array Bool) (a:Act) (w:World),Cl ops L->(∀j x,ops[j]?=some x->j≠i->L.getD j true=false->(∀e∈x.after,Region.binds .any e=true->e.on≠i)->t.apart ops x=true)->
   i∈Region.ready .any ops L->YieldsIf P ops Sx t v a->S L w->wpS P ops Q S fuel (L.setIfInBounds i true) (a.put t.dst v) w->wpS P ops Q S (fuel+1) L a w:=by
 intro fuel
 induction fuel with
 |zero=>
  intro L a w p _ hr hy J H;refine⟨fun h=>(by simp_all),fun j R=>?_⟩
  by_cases e:j=i
  ·subst e;exact hy.wpOp hi (y L w p (mem_ready.1 hr).1 J) ⟨I L w J,H⟩
  ·have:=ready_mono R e;rw[H.1]at this
   grind
 |succ fuel ih=>
  intro L a w p f hr hy J H;have d:=(mem_ready.1 hr).1;refine⟨fun h=>(by simp_all),fun j R=>?_⟩
  by_cases e:j=i
  ·subst e;exact hy.wpOp hi (y L w p d J) ⟨I L w J,H⟩
  ·have h1:=H.2 j (ready_mono R e);obtain⟨s,x,u,U⟩:=mem_ready.1 R;have a1:∀e∈x.after,Region.binds .any e=true->e.on≠i:=fun e he hb heq=>by
    have h1:=U e he hb;rw[heq]at h1;rcases lt_or_ge i L.size with h'|h'
    ·simp[h']at d h1;rw[d]at h1;cases h1
    ·simp[Array.getElem?_eq_none h']at h1
   have h2:=wpOp_putIf u (f j x u e s a1) (fun cs b=>q i t cs b hi) (fun cs b=>q j x cs b u) hQ hy h1;have g:∀k ok,ops[k]?=some ok->k≠i->(L.setIfInBounds j true).getD k true=false->(∀e∈ok.after,Region.binds .any e=true->e.on≠i)->t.apart ops ok=true:=fun k ok hk b1 d b3=>by
    refine f k ok hk b1 ?_ b3
    by_cases C:j=k
    ·subst C;exact s
    ·rw[getD_set_ne true C]at d;exact d
   refine wpOp_mono (fun a' w' h3=>?_) h2;have h4:=h3.2.1;rw[Array.setIfInBounds_comm _ _ (Ne.symm e)]at h4;have z:=b2 _ w' h4 (by rw[getD_set_ne true e];exact d);refine⟨z,ih (L.setIfInBounds j true) a' w' (p.set R) g (ready_mono hr (Ne.symm e)) h3.1 z ?_⟩;rw[Array.setIfInBounds_comm _ _ e];exact h3.2.2
def marks (ops:Array Oper)(s:List Nat):List Nat->List Nat
 |[]=>s
 |j :: js=>marks ops (if s.contains j then(match ops[j]? with|some o=>(o.after.toList.filter (Region.binds .any)).map (·.on)++s|none=>s)else s) js
def e0a (ops:Array Oper)(m i:Nat):Bool:=decide (ops.size<=m)||(marks ops [m] (List.range ops.size).reverse).contains i
theorem r0t {L:Array Bool}(c:Cl ops L){m:Nat}:∀(js s:List Nat),(∀k∈s,L.getD k false=false->L.getD m false=false)->∀k∈marks ops s js,L.getD k false=false->L.getD m false=false
 |[],s,h=>h
 |j :: js,s,h=>by
  unfold marks;refine r0t c js _ ?_;split
  ·have f:j∈s:=by simp_all
   cases d:ops[j]? with
   |none=>omega
   |some o=>
    intro k hk p;simp only[List.mem_append,List.mem_map,List.mem_filter]at hk;rcases hk with⟨e,⟨he,g⟩,rfl⟩|hk
    ·refine h j f ?_;cases i:L.getD j false with
     |false=>rfl
     |true=>have:=c.2 j o d i e (by simp_all) g;simp_all
    grind
  omega
def r0h {L:Array Bool}(c:Cl ops L){m i:Nat}(h:e0a ops m i=true)(hi:L.getD i true=false):L.getD m false=false:=by
 simp only[e0a,Bool.or_eq_true,decide_eq_true_eq]at h;rcases h with h|h
 ·rw[<-c.1]at h;simp[h]
 grind [r0t]
def Sk (T:D0)(w w':World):Prop:=∃T',P0 w.heap T w'.heap T'
def Sd (m:Nat)(T:D0)(w0:World)(L:Array Bool)(w:World):Prop:=Sk T w0 w/\(L.getD m false=false->∀k,k<w0.heap.size->w.heap[k]?=w0.heap[k]?)
def u7 (w0 w:World):Prop:=∀k,k<w0.heap.size->w.heap[k]?=w0.heap[k]?
def Sd.start (m:Nat)(T:D0)(w0:World)(L:Array Bool):Sd m T w0 L w0:=⟨⟨T,P0.refl _ _⟩,fun _ _ _=>rfl⟩
def Sd.before {m:Nat}{T T':D0}{w0:World}{L:Array Bool}(k:P0 w0.heap T w.heap T')(h:u7 w0 w):Sd m T w0 L w:=⟨⟨T',k⟩,fun _=>h⟩
def Sd.behind {m:Nat}{T T':D0}{w0:World}{L:Array Bool}(k:P0 w0.heap T w.heap T')(h:L.getD m false=true):Sd m T w0 L w:=⟨⟨T',k⟩,fun e=>by simp_all⟩
def u7.start (w:World):u7 w w:=fun _ _=>rfl
def u7.ext {w0 w w1:World}(h:u7 w0 w)(hs:w0.heap.size<=w.heap.size)(c:Below w.heap.size w w1):u7 w0 w1:=fun k hk=>(c.block k (lt_of_lt_of_le hk hs)).trans (h k hk)
def u7.app {w0 w w1:World}{v:Value}(h:u7 w0 w)(hs:w0.heap.size<=w.heap.size)(c:∀k,v.ownBlock=some k->w0.heap.size<=k)(hn:∀k,k<w.heap.size->v.ownBlock≠some k->w1.heap[k]?=w.heap[k]?):u7 w0 w1:=
 fun k hk=>(hn k (lt_of_lt_of_le hk hs) (fun e=>Nat.lt_irrefl _ (lt_of_lt_of_le hk (c k e)))).trans (h k hk)
def u7.cell {w w':World}{b o:Nat}{v:Value}(e:u7 w w')(h:O1 w.heap b o=some v):O1 w'.heap b o=some v:=(f0K (e b (v0a h))).trans h
def Sk.cell {T:D0}{w w':World}{b o:Nat}{v:Value}(hn:¬T b)(e:Sk T w w')(h:O1 w.heap b o=some v):O1 w'.heap b o=some v:=by
 obtain⟨T',k⟩:=e;exact(f0K (k.blk b (v0a h) hn).2).trans h
def may (ops:Array Oper)(listed:Array Bool)(m i:Nat):Bool:=Region.noSelect ops&&Region.free .any ops listed i&&(Region.ready .any ops listed).contains i&&clb ops listed&&(i != m)
def q0h {m i:Nat}{T:D0}{w0:World}(hm:i≠m)(L:Array Bool)(w:World):Sd m T w0 (L.setIfInBounds i true) w↔Sd m T w0 L w:=by
 simp_all[Sd]
def u0u {id:Nat}{xs:List Oper}(m:Nat)(T:D0)(hm:P.follows .mixedOrders=true)
  (h:∀w1,w1.heap=w.heap->Below w.heap.size w w1->wpS P xs.toArray Q (Sd m T w1) xs.toArray.size (Array.replicate xs.toArray.size false) a w1):(Code.region id xs.toArray true).wp P Q a w:=
 wp_region_any hm (p0J _ _ _ _ (h _ rfl ⟨rfl,rfl,rfl,le_refl _,fun _ _=>rfl⟩))
def w0X {m i:Nat}{T:D0}{w0:World}{o:Oper}{v:Value}(ha:Ag n l a)(j:NoP Q)(hi:ops[i]?=some o)(hm:may ops listed m i=true)(e:(gate ops l o==some true&&fit n l o)=true)
  (t:∀w',Sk T w0 w'->(e0a ops m i=true->u7 w0 w')->(execOp (lk l) o).run P w'=.ok (.value v) w') (g:Sd m T w0 listed w)
  (h:Sd m T w0 (listed.setIfInBounds i true) w->∀f,Ag n (N5 l o.dst v) f->wpS P ops Q (Sd m T w0) fuel (listed.setIfInBounds i true) f w):wpS P ops Q (Sd m T w0) (fuel+1) listed a w:=by
 simp only[may,and_eq_true,bne_iff_ne,ne_eq]at hm;simp only[and_eq_true,beq_iff_eq]at e;obtain⟨⟨⟨⟨h1,q⟩,u⟩,k⟩,d⟩:=hm;refine n0o (Sx:=fun w'=>Sk T w0 w'/\(e0a ops m i=true->u7 w0 w')) hi (Region.noSelect_spec h1) (fun c a w hp=>absurd hp (j c _ w)) (fun L w' p hu hs=>⟨hs.1,fun hw=>hs.2 (r0h p hw hu)⟩)
  (fun L w' hs _=>(q0h d L w').1 hs) (fun L w' hs=>(q0h d L w').2 hs) fuel listed a w (n0R k) (Region.free_spec hi q) (by simp_all) (.inl ⟨i0E ha e.1,fun w' s=>?_⟩) g (h ((q0h d listed w).2 g) _ (ha.put _ _ (k0x e.2)))
 grind [j0E]
def q0V {i:Nat}{o:Oper}(hi:ops[i]?=some o)
  (h:wpList P ops (Exit.then (fun c w'=>S (listed.setIfInBounds i true) w'/\wpS P ops Q S fuel (listed.setIfInBounds i true) c w') Q) [o] a w):wpOp P ops Q i (fun c w'=>S (listed.setIfInBounds i true) w'/\wpS P ops Q S fuel (listed.setIfInBounds i true) c w') a w:=by
 unfold wpOp;simp only[hi];unfold wpList at h;split
 ·rename_i hw;rw[if_pos hw]at h;rcases h with h|⟨h1,a0,w0,h2⟩
  ·refine .inl ?_;generalize (execOp a.eval o).run P w=r at h ⊢;cases r with
   |ok x w'=>
    cases x<;>first|exact h|exact h.mono (fun e d he=>by cases e<;>first|exact he|(exact⟨a1,w1,h3⟩))
   |halt x w'=>cases x<;>exact h
  ·exact .inr ⟨h1,a0,w0,h2⟩
 ·rename_i hw;rw[if_neg hw]at h;exact h
def w0f {i:Nat}{o:Oper}(e:Region.ready .any ops listed=[i])(hi:ops[i]?=some o)
  (h:wpList P ops (Exit.then (fun c w'=>S (listed.setIfInBounds i true) w'/\wpS P ops Q S fuel (listed.setIfInBounds i true) c w') Q) [o] a w):wpS P ops Q S (fuel+1) listed a w:=by
 refine⟨fun f=>(by simp_all),fun j d=>?_⟩
 simp_all[q0V]
def o03 (c:Region.ready .any ops listed=[])(h:Q .normal a w):wpS P ops Q S fuel listed a w:=by
 cases fuel with
 |zero=>exact⟨c,h⟩
 |succ f=>exact⟨fun _=>h,by simp_all⟩
def s0o {K:Act->World->Prop}(h1:S listed w)(d:K a w):wpList P ops (Exit.then (fun c w'=>S listed w'/\K c w') Q) [] a w:=⟨h1,d⟩
def Sl.off {α:Type}{T:Ty α}{H:I0}{O:D0}{b o c:Nat}{xs:List α}{i:Int}(h:Sl T H O (some ⟨b,o,none⟩) c xs)(hi:y0 xs i=true):¬O b:=by
 have d:xs≠[]:=by have:=a0o hi;grind
 obtain⟨b',f,e,_,hn⟩:=h.2.1 d
 simp_all
def l0x {c:Code}(d:NoP Q)(h:NoP Q->c.wp P Q a w):c.wp P Q a w:=h d
def NoP.loop {σ τ:Type}{c:Q0 σ τ}{K:Act->World->Prop}{D:τ->Exit->Act->World->Prop}(h:∀t c a w,¬D t (.panic c) a w):NoP (Exit.then K (fun e d w'=>∃t,c=.done t/\D t e d w')):=by
 rintro f a w ⟨t,_,hd⟩;simp_all
end
section
variable {P:Program}{ops:Array Oper}{n:Nat}{Q:Exit->Act->World->Prop}{l:FL}{a:Act}{w:World}{o:Oper}{rest:List Oper}
def s0B {α:Type}{T:Ty α}{H:I0}{S:D0}{t e:TypeId}{lo hi mx:Option Value}{A:Option Addr}{c:Nat}{xs:List α}{vlo vhi vmx:Int}
  (R:P.underlying t=some (.slice e)) (hE:(P.info? e).map (·.size)=some T.sz) (hs:Sl T H S A c xs)
  (d:(match lo with|none=>vlo=0|some y=>∃k,y=.int k vlo)) (g:(match hi with|none=>vhi=xs.length/\mx=none|some y=>∃k,y=.int k vhi)) (f:(match mx with|none=>vmx=c|some y=>∃k,y=.int k vmx))
  (hk:P3 xs vlo vhi=true) (hm:(mx=none\/(vhi<=vmx/\vmx<=xs.length))):
  ∃I,(∀w,(Instr.sliceAt t (.slice A xs.length c) lo hi mx).run P w=.ok (.slice I (G1 xs vlo vhi).length (vmx-vlo).toNat) w)/\Sl T H S I (vmx-vlo).toNat (G1 xs vlo vhi):=by
 have p:=hk;simp only[P3,and_eq_true,decide_eq_true_eq]at p;obtain⟨⟨u,h1⟩,h2⟩:=p;have C:=hs.1;obtain⟨inf,i,s⟩:=map_eq_some_iff.1 hE;have U:vhi<=vmx/\vmx<=c:=by
  cases mx with
  |none=>simp only at f;omega
  |some y=>
   rcases hm with hm|hm
   ·cases hm
   ·omega
 have hlen:=d0b hk;refine⟨if vmx.toNat=vlo.toNat then A else A.map (·.add (vlo.toNat*T.sz)),fun w=>?_,hs.cut (m:=(vmx-vlo).toNat) (c':=(vmx-vlo).toNat) hk O' ?_⟩
 ·have e1:vhi.toNat-vlo.toNat=(vhi-vlo).toNat:=O'
  have e2:vmx.toNat-vlo.toNat=(vmx-vlo).toNat:=O'
  rw[hlen];unfold Instr.sliceAt Instr.slice;simp only[Sem.run_bind,run_underlying R,Result.andThen_ok];have h:(Instr.sliceBounds true xs.length c lo hi mx).run P w=.ok (vlo.toNat,vhi.toNat,vmx.toNat) w:=by
   unfold Instr.sliceBounds;cases mx with
   |none=>
    simp only at f;cases hi with
    |none=>
     simp only at g;cases lo with
     |none=>simp only at d;subst d;simp[g.1,f]
     |some y=>
      obtain⟨k,rfl⟩:=d;have:=run_sliceBound (P:=P) (w:=w) k vlo xs.length .sliceB u O';simp[g.1,f,this]
    |some z=>
     obtain⟨v,rfl⟩:=g;have j:=run_sliceBound (P:=P) (w:=w) v vhi c .sliceAcap O' O';cases lo with
     |none=>simp only at d;subst d;simp[f,j]
     |some y=>
      obtain⟨k,rfl⟩:=d;have x:=run_sliceBound (P:=P) (w:=w) k vlo vhi.toNat .sliceB u O';simp[f,x,j]
   |some q=>
    obtain⟨k3,rfl⟩:=f;have J:=run_sliceBound (P:=P) (w:=w) k3 vmx c .slice3Acap O' O';cases hi with
    |none=>exact absurd g.2 X'
    |some z=>
     obtain⟨v,rfl⟩:=g;have j:=run_sliceBound (P:=P) (w:=w) v vhi vmx.toNat .slice3B O' O';cases lo with
     |none=>simp only at d;subst d;simp[j,J]
     |some y=>
      obtain⟨k,rfl⟩:=d;have x:=run_sliceBound (P:=P) (w:=w) k vlo vhi.toNat .slice3C u O';simp[x,j,J]
  simp only[h,Result.andThen_ok,sizeOf,typeInfo,Sem.run_bind];simp[i,s,e1,e2]
 ·by_cases hz:vmx.toNat=vlo.toNat
  ·right;refine⟨O',eq_nil_of_length_eq_zero (by rw[hlen];omega)⟩
  ·left;rw[if_neg hz]
def o0L {t:TypeId}{x:Operand}{lo hi mx:Option Operand}{v:Value}(w:World)(c:o.op=.slice t x lo hi mx)
  (h:(Instr.sliceAt t (lk l x) (lo.map (lk l)) (hi.map (lk l)) (mx.map (lk l))).run P w=.ok v w):(execOp (lk l) o).run P w=.ok (.value v) w:=by
 simp[execOp,c,h]
def H0Y {α:Type}{T:Ty α}{H:I0}{S M:D0}{t e:TypeId}{hi:Value}{A:Option Addr}{c:Nat}{xs:List α}{k:IntKind}{vhi:Int}(p:P.underlying t=some (.slice e))(s:(P.info? e).map (·.size)=some T.sz)
  (d:Ow T e M H S (.slice A xs.length c) xs) (hk:P3 xs 0 vhi=true) (i:hi=.int k vhi:=by rfl):
  (∀w,(Instr.sliceAt t (.slice A xs.length c) none (some hi) none).run P w=.ok (.slice A (G1 xs 0 vhi).length c) w)/\Ow T e M H S (.slice A (G1 xs 0 vhi).length c) (G1 xs 0 vhi):=by
 subst i;have g:=hk;simp only[P3,and_eq_true,decide_eq_true_eq]at g;obtain⟨⟨_,h1⟩,u⟩:=g;have j:=d.cap;have hlen:=d0b hk;obtain⟨inf,f,h⟩:=map_eq_some_iff.1 s;refine⟨fun w=>?_,d.take h1 u⟩;have q:=run_sliceBound (P:=P) (w:=w) k vhi c .sliceAcap O' O';simp only[Instr.sliceAt,Instr.slice,Instr.sliceBounds,Sem.run_bind,run_underlying p,Result.andThen_ok];simp[q,sizeOf,typeInfo,f,h,hlen];cases A<;>simp[Addr.add]
def Pt {α:Type}(T:Ty α)(t:TypeId)(H:I0)(S:D0)(r:Option α)(v:Value):Prop:=
 match r with
 |none=>v=.pointer none
 |some x=>∃b cs,v=.pointer (some ⟨b,0,none⟩)/\Bx H S b t cs/\T.R H S cs x
def Pt.L0 {α:Type}{T:Ty α}{t:TypeId}{H H':I0}{S S':D0}{r:Option α}{v:Value}(k:P0 H S H' S')(h:Pt T t H S r v):Pt T t H' S' r v:=by
 cases r with
 |none=>exact h
 |some x=>obtain⟨b,cs,h1,d,c⟩:=h;exact⟨b,cs,h1,d.L0 k,T.L0 k c⟩
def Pt.get {α:Type}{T:Ty α}{t:TypeId}{H:I0}{S:D0}{r:Option α}{x:α}{v:Value}(h:Pt T t H S r v)(c:r=some x):∃b cs,v=.pointer (some ⟨b,0,none⟩)/\Bx H S b t cs/\T.R H S cs x:=by
 subst c;exact h
def Pt.none {α:Type}{T:Ty α}{t:TypeId}{H:I0}{S:D0}:Pt T t H S Option.none (.pointer Option.none):=rfl
def obl (vs:List Value):D0:=fun k=>∃v∈vs,v.ownBlock=some k
def inL (vs:List Value)(S:D0):D0:=fun k=>S k\/obl vs k
def F05 {k:Nat}:¬obl [] k:=fun⟨_,h,_⟩=>by cases h
def all_nil {C:Nat->Prop}:∀k,obl [] k->C k:=fun _ h=>absurd h F05
def all_cons {C:Nat->Prop}{v:Value}{vs:List Value}(h:∀k,v.ownBlock=some k->C k)(t:∀k,obl vs k->C k):∀k,obl (v :: vs) k->C k:=fun k ⟨u,hu,hk⟩=>by
 rcases List.mem_cons.1 hu with rfl|hu
 ·exact h k hk
 ·exact t k ⟨u,hu,hk⟩
def Mb.own {M:D0}{H:I0}{S:D0}{b:Nat}{t:TypeId}{cs:List Value}(h:Mb M H S b t cs):∀k,(bv b).ownBlock=some k->S k/\M k:=fun k hk=>by cases hk;exact h.2
def Mb.b0a {M M':D0}{H:I0}{S:D0}{b:Nat}{t:TypeId}{cs:List Value}(h:Mb M H S b t cs)(hm:∀k,(bv b).ownBlock=some k->M' k):Mb M' H S b t cs:=⟨h.1,h.2.1,hm b rfl⟩
def Ow.out {α:Type}{T:Ty α}{e:TypeId}{M:D0}{H:I0}{S S0:D0}{v:Value}{xs:List α}{vs:List Value}(h:Ow T e M H S v xs)(hs:∀k,inL vs S0 k->S k)(c:∀k,v.ownBlock=some k->obl vs k):Ow T e M H (inL vs S0) v xs:=
 h.o0U hs (fun b d=>.inr (c b d))
def Mb.out {M:D0}{H:I0}{S S0:D0}{b:Nat}{t:TypeId}{cs:List Value}{vs:List Value}(h:Mb M H S b t cs)(c:∀k,(bv b).ownBlock=some k->obl vs k):Mb M H (inL vs S0) b t cs:=⟨h.1,.inr (c b rfl),h.2.2⟩
def D9.refl (W0:D0)(w:World):D9 W0 w w:=⟨rfl,rfl,rfl,le_refl _,fun _ _ _=>rfl⟩
def back {w0 w w1:World}{W0 S0 S:D0}{us vs:List Value}(cx:Cx w0 W0 S0 w S)(hu:∀k,obl us k->S k/\Wr W0 w0 k)(d:D9 (obl us) w w1)(g:∀k,obl vs k->k<w1.heap.size/\Wr (obl us) w k):
  Cx w0 W0 S0 w1 (inL vs S)/\P0 w.heap S w1.heap (inL vs S)/\(∀b,S b->inL vs S b)/\(∀k,k<w.heap.size->¬obl us k->w1.heap[k]?=w.heap[k]?):=by
 refine⟨⟨⟨d.os.trans cx.bel.os,d.tape.trans cx.bel.tape,d.output.trans cx.bel.output,le_trans cx.bel.size d.size,fun k hk c=>(d.block k (by have:=cx.size;omega) (fun e=>?_)).trans (cx.bel.block k hk c)⟩,fun b h=>.inl (cx.sub b h),fun b h=>h.elim (fun h=>lt_of_lt_of_le (cx.lt b h) d.size) (fun h=>(g b h).1),cx.lt0⟩,
  ⟨d.size,fun b h c=>⟨fun hi=>hi.elim c (fun i=>?_),d.block b h (fun e=>c (hu b e).1)⟩⟩,fun _ h=>.inl h,fun k hk f=>d.block k hk f⟩
 ·rcases(hu k e).2 with h|h
  ·exact c h
  ·omega
 ·rcases(g b i).2 with h3|h3
  ·exact c (hu b h3).1
  ·omega
def j4 {α:Type}(xs ys:List α):List α:=ys.take xs.length++xs.drop ys.length
def b04 {α:Type}(xs ys:List α):(j4 xs ys).length=xs.length:=by simp only[j4,length_append,length_take,length_drop];omega
def R1.cut {α:Type}{T:Ty α}{H:I0}{S:D0}{cs:List Value}{xs:List α}(h:R1 T H S cs xs)(k:Nat):R1 T H S (cs.take (k*T.sz)) (xs.take k):=by
 refine⟨by rw[length_take,length_take,h.1];exact(Nat.mul_min_mul_right k xs.length T.sz),fun i x c=>?_⟩;have hi:i<k:=by
  rcases lt_or_ge i k with h|h
  ·exact h
  ·rw[List.getElem?_take_eq_none O']at c;cases c
 rw[List.getElem?_take_of_lt hi]at c;have d:=h.2 i x c;have hle:i*T.sz+T.sz<=k*T.sz:=by rw[<-succ_mul];exact mul_le_mul_right _ hi
 rw[drop_take,List.take_take,min_eq_left O'];exact d
def R1.tail {α:Type}{T:Ty α}{H:I0}{S:D0}{cs:List Value}{xs:List α}(h:R1 T H S cs xs)(k:Nat):R1 T H S (cs.drop (k*T.sz)) (xs.drop k):=by
 refine⟨by rw[length_drop,length_drop,h.1,Nat.sub_mul],fun i x c=>?_⟩;rw[List.getElem?_drop]at c;have d:=h.2 _ x c;rw[List.drop_drop,<-Nat.add_mul];exact d
def D0I {α:Type}{T:Ty α}{w0:World}{W0 Wf S0 S:D0}{t e:TypeId}{x y:Operand}{A B:Option Addr}{c d:Nat}{xs ys:List α}(ha:Ag n l a)(cx:Cx w0 W0 S0 w S)(hf:(gate ops l o==some true&&fit n l o)=true)
  (ho:o.op=.call { callee:=.builtin .copy,args:=#[x,y],argTypes:=#[t,t] }) (hx:lk l x=.slice A xs.length c) (hy:lk l y=.slice B ys.length d) (ht:P.underlying t=some (.slice e)) (hE:(P.info? e).map (·.size)=some 1) (I:T.sz=1)
  (hW:∀k,Wr Wf w0 k->Wr W0 w0 k) (p:Ow T e (Wr Wf w0) w.heap S (.slice A xs.length c) xs) (b2:Q4 T w.heap S B ys)
  (h:∀w1,Cx w0 W0 S0 w1 S->(∀k,k<w.heap.size->(Value.slice A xs.length c).ownBlock≠some k->w1.heap[k]?=w.heap[k]?)->P0 w.heap S w1.heap S->Ow T e (Wr Wf w0) w1.heap S (.slice A xs.length c) (j4 xs ys)->
   ∀a',Ag n (N5 l o.dst (.int .i64 (Nat.min ys.length xs.length:Nat))) a'->wpList P ops Q rest a' w1):wpList P ops Q (o :: rest) a w:=by
 have fin:∀(w1:World) (m:Nat),(Builtin.copy_ #[t,t] o.type #[.slice A xs.length c,.slice B ys.length d]).run P w=.ok (goInt m) w1->m=Nat.min ys.length xs.length->
   Cx w0 W0 S0 w1 S->(∀k,k<w.heap.size->(Value.slice A xs.length c).ownBlock≠some k->w1.heap[k]?=w.heap[k]?)->P0 w.heap S w1.heap S->Ow T e (Wr Wf w0) w1.heap S (.slice A xs.length c) (j4 xs ys)->wpList P ops Q (o :: rest) a w:=by
  intro w1 m hr hm h1 J h3 h4;refine b0U ha hf (v:=.int .i64 (Nat.min ys.length xs.length:Nat)) (w':=w1) ?_ fun a' b7=>h w1 h1 J h3 h4 a' b7;subst hm;simp only[execOp,ho,resolve,invoke,builtin,Sem.run_bind,Sem.run_pure,Result.andThen_ok,List.map_toArray,List.map_cons,List.map_nil,hx,hy,hr];rfl
 by_cases C:Nat.min ys.length xs.length=0
 ·refine fin w 0 (run_copy_none w t t o.type e A B xs.length c ys.length d ht hE C) C.symm cx (fun _ _ _=>rfl) (P0.refl _ _) ?_;have:j4 xs ys=xs:=by
   rcases eq_zero_or_pos xs.length with q|q
   ·have:=eq_nil_of_length_eq_zero q;subst this;simp[j4]
   ·have c0:ys.length=0:=by
     rcases le_total ys.length xs.length with hle|hle
     ·rwa [show Nat.min ys.length xs.length=ys.length from min_eq_left hle]at C
     ·rw[show Nat.min ys.length xs.length=xs.length from Nat.min_eq_right hle]at C;omega
    have:=eq_nil_of_length_eq_zero c0;subst this;simp[j4]
  rw[this];exact p
 ·have c5:0<xs.length:=by
   rcases eq_zero_or_pos xs.length with q|q
   ·exact absurd (by rw[q];exact Nat.min_zero _) C
   ·exact q
  have hyp:0<ys.length:=by
   rcases eq_zero_or_pos ys.length with q|q
   ·exact absurd (by rw[q];exact Nat.zero_min _) C
   ·exact q
  obtain⟨b,off,_,hB,_⟩:=b2 0 ys[0] (by simp[hyp]);subst hB;obtain⟨news,z,s⟩:=Q4.news (w:=w) (xs:=ys) (k:=0) (A:=some ⟨b,off,none⟩) (T:=T) (S:=S) (fun i x hx=>by
   obtain⟨b,o,cs,h1,J,h3⟩:=b2 i x hx;exact⟨b,o,cs,h1,J,fun j v hj=>by rw[zero_add];exact h3 j v hj⟩)
  have c3:=p.lt;obtain⟨U,cs,⟨b1,b3⟩,a1⟩:=p;rcases b3 with⟨R,q⟩|⟨g,cap,cur,R,hg,hnc,hm,hcs,htake⟩
  ·omega
  ·simp at R;obtain⟨rfl,rfl⟩:=R;rw[I,mul_one]at b1 hcs htake;have b9:news.length=ys.length:=by rw[z.1,I,mul_one]
   have f:(news.take xs.length).length=Nat.min ys.length xs.length:=by rw[length_take,b9];exact Nat.min_comm _ _
   have hr:=run_copy_row (P:=P) w t t o.type e g 0 xs.length c ⟨b,off,none⟩ ys.length d cur e (news.take xs.length) ht hE hg f (fun j v hj=>by
    rw[k7];have b5:news[j]?=some v:=by
     rcases lt_or_ge j xs.length with h|h
     ·rwa [List.getElem?_take_of_lt h]at hj
     ·rw[List.getElem?_take_eq_none h]at hj;cases hj
    have:=s b off rfl j v b5;simpa using this) (by rw[f,hcs,zero_add];exact le_trans (Nat.min_le_right _ _) hnc) (fun v R=>z.e0w v (List.mem_of_mem_take R))
   simp only[take_zero,List.nil_append,zero_add]at hr;have b4:=U g (by simp[Value.ownBlock]);have c4:=getElem?_lt hg;have u:j5 g w (w.setRow g (news.take xs.length++cur.toList.drop (news.take xs.length).length).toArray):=⟨rfl,rfl,rfl,by simp[World.setRow],fun k _ hk=>by simp[World.setRow,Array.getElem?_modify,Ne.symm hk]⟩
   have hk:=u.L0 b4.1;refine fin _ _ hr f (u.cx cx (hW _ b4.2)) (fun k hk b6=>u.block k hk (fun e=>b6 (by rw[e];simp[Value.ownBlock]))) hk ⟨U,news.take xs.length++cs.drop ys.length,⟨?_,.inr ⟨g,c,(news.take xs.length++cur.toList.drop (news.take xs.length).length).toArray,by rw[b04],setRow_heap w g cur _ e _ hg,by rw[b04];exact hnc,hm,?_,?_⟩⟩,?_⟩
   ·rw[b04,I,mul_one,length_append,f,length_drop,b1];rcases le_total ys.length xs.length with hle|hle
    ·rw[show Nat.min ys.length xs.length=ys.length from min_eq_left hle];omega
    ·rw[show Nat.min ys.length xs.length=xs.length from Nat.min_eq_right hle];omega
   ·have h9:(news.take xs.length).length<=c:=by rw[f];exact le_trans (Nat.min_le_right _ _) hnc
    simp only[I,mul_one,List.size_toArray,length_append,length_drop,Array.length_toList,hcs];omega
   ·rw[b04,I,mul_one];show List.take xs.length (news.take xs.length++cur.toList.drop (news.take xs.length).length)=_;rw[List.take_append,List.take_take,Nat.min_self,<-htake];congr 1;rw[drop_take];rcases le_total ys.length xs.length with hle|hle
    ·have:(news.take xs.length).length=ys.length:=by rw[f];exact min_eq_left hle
     rw[this]
    ·have:(news.take xs.length).length=xs.length:=by rw[f];exact Nat.min_eq_right hle
     rw[this,Nat.sub_self,take_zero,Nat.sub_eq_zero_of_le hle,take_zero]
   ·have h1:=(z.L0 hk).cut xs.length;have J:=(a1.L0 hk).tail ys.length;rw[I,mul_one]at h1 J;exact h1.append J
end
section
variable {P:Program}{ops:Array Oper}{n:Nat}{Q:Exit->Act->World->Prop}{l:FL}{a:Act}{w:World}{o:Oper}{rest:List Oper}
end
def U7:List (Int×Int)->Int->Int
 |[],_=>0
 |(a,b) :: r,k=>if a==k then b else U7 r k
def J7:List (Int×Int)->Int->Bool
 |[],_=>false
 |(a,_) :: r,k=>a==k||J7 r k
def b0f:List (Int×Int)->Int->Int->List (Int×Int)
 |[],k,v=>[(k,v)]
 |(a,b) :: r,k,v=>if a==k then(k,v) :: r else(a,b) :: b0f r k v
def f08:List (Int×Int)->Int->List (Int×Int)
 |[],_=>[]
 |(a,b) :: r,k=>if a==k then r else(a,b) :: f08 r k
def H8 (es:List MapEntry)(m:List (Int×Int)):Prop:=es.map (fun e=>(e.key,e.val))=m.map (fun p=>(.int .i64 p.1,.int .i64 p.2))
def H8.cons_inv {e:MapEntry}{es:List MapEntry}{m:List (Int×Int)}(h:H8 (e :: es) m):∃a b c,m=(a,b) :: c/\e.key=.int .i64 a/\e.val=.int .i64 b/\H8 es c:=by
 cases m with
 |nil=>grind [H8]
 |cons p c=>simp[H8]at h;exact⟨p.1,p.2,c,rfl,h.1.1,h.1.2,h.2⟩
def H8.b0q {m:List (Int×Int)}(h:H8 [] m):m=[]:=by simp_all[H8]
def o0a (k:Int):∀(es:List MapEntry) (m:List (Int×Int)),H8 es m->∀i:Nat,
  (Instr.findNow (.int .i64) (.int .i64 k) es i=some none/\J7 m k=false/\U7 m k=0/\∀v,b0f m k v=m++[(k,v)]/\f08 m k=m)\/
  ∃j,Instr.findNow (.int .i64) (.int .i64 k) es i=some (some (i+j,.int .i64 (U7 m k)))/\j<es.length/\J7 m k=true/\m[j]?=some (k,U7 m k)/\(∀v,b0f m k v=m.set j (k,v))/\f08 m k=m.eraseIdx j
 |[],m,h,i=>by obtain rfl:=h.b0q;exact .inl ⟨rfl,rfl,rfl,fun v=>⟨rfl,rfl⟩⟩
 |e :: es,m,h,i=>by
  obtain⟨a,b,d,rfl,h1,g,f⟩:=h.cons_inv
  by_cases hk:a=k
  ·simp_all[J7,U7,b0f,f08,Instr.findNow,Instr.sameNow]
  ·have c:(a==k)=false:=by simp_all
   have hs:Instr.sameNow (.int .i64) (.int .i64 k) e.key=some false:=by
    grind [Instr.sameNow]
   rcases o0a k es d f (i+1)with⟨f1,f2,f3,f4⟩|⟨j,f1,f2,f3,f4,f5,f6⟩
   ·refine .inl ⟨?_,by simp_all[J7],by simp_all[U7],fun v=>⟨by simp_all[b0f],by simp[f08,c,(f4 v).2]⟩⟩
    simp_all[Instr.findNow]
   ·refine .inr ⟨j+1,?_,by grind,by simp_all[J7],by simp_all[U7],fun v=>by simp_all[b0f],by simp_all[f08]⟩
    grind [Instr.findNow,U7]
def Mp (M:D0)(H:I0)(S:D0)(r:Nat)(m:List (Int×Int)):Prop:=(∃es clock,H[r]?=some (.map es clock)/\H8 es.toList m)/\S r/\M r
def Mr (H:I0)(S:D0)(r:Nat)(m:List (Int×Int)):Prop:=(∃es clock,H[r]?=some (.map es clock)/\H8 es.toList m)/\¬S r
section
variable {M M':D0}{H H':I0}{S S' S0:D0}{r b:Nat}{m:List (Int×Int)}{w w1 w0:World}{W0 Wf:D0}
def Mp.d0J (h:Mp M H S r m):r<H.size:=by obtain⟨⟨_,_,h1,_⟩,_⟩:=h;grind
def Mr.d0J (h:Mr H S r m):r<H.size:=by obtain⟨⟨_,_,h1,_⟩,_⟩:=h;grind
def Mr.L0 (k:P0 H S H' S')(h:Mr H S r m):Mr H' S' r m:=by
 obtain⟨h1,c⟩:=k.blk r h.d0J h.2;obtain⟨⟨es,cl,he,hm⟩,_⟩:=h;exact⟨⟨es,cl,c.trans he,hm⟩,h1⟩
def Mr.minus {u:Value}(h:Mr H S r m):Mr H (Go.V.minus S u) r m:=h.L0 (P0.less (fun _ h=>h.1))
def Mp.L0 (h:Mp M H S r m)(hs:∀b,S b->S' b)(c:H'[r]?=H[r]?):Mp M H' S' r m:=by
 obtain⟨⟨es,cl,he,hm⟩,h1,d⟩:=h;exact⟨⟨es,cl,c.trans he,hm⟩,hs r h1,d⟩
def Mp.ext (h:Mp M w.heap S r m)(c:Below w.heap.size w w1):Mp M w1.heap S r m:=h.L0 (fun _ h=>h) (c.block r h.d0J)
def Mp.j0z (h:Mp M w.heap S r m)(c:Below w.heap.size w w1)(hs:∀b,S b->S' b):Mp M w1.heap S' r m:=h.L0 hs (c.block r h.d0J)
def Mp.lt (h:Mp M H S r m):∀k,(bv r).ownBlock=some k->k<H.size:=fun k hk=>by cases hk;exact h.d0J
def Mp.own (h:Mp M H S r m):∀k,(bv r).ownBlock=some k->S k/\M k:=fun k hk=>by cases hk;exact h.2
def Mp.only (h:Mp M w.heap S r m)(c:j5 b w w1)(hd:r≠b):Mp M w1.heap S r m:=h.L0 (fun _ h=>h) (c.block r h.d0J hd)
def Mp.minus {u:Value}(h:Mp M H S r m)(d:F6 (bv r) u):Mp M H (Go.V.minus S u) r m:=⟨h.1,⟨h.2.1,fun e=>d r rfl e⟩,h.2.2⟩
def Mp.b0a (h:Mp M H S r m)(hm:∀k,(bv r).ownBlock=some k->M' k):Mp M' H S r m:=⟨h.1,h.2.1,hm r rfl⟩
def Mp.out {vs:List Value}(h:Mp M H S r m)(c:∀k,(bv r).ownBlock=some k->obl vs k):Mp M H (inL vs S0) r m:=⟨h.1,.inr (c r rfl),h.2.2⟩
variable {P:Program}{ops:Array Oper}{n:Nat}{Q:Exit->Act->World->Prop}{l:FL}{a:Act}{o:Oper}{rest:List Oper}
def p0L (w:World)(r:Nat)(m:List (Int×Int)):Prop:=∃es clock,w.heap[r]?=some (.map es clock)/\H8 es.toList m
def p0L.old {c:World}(h:p0L w r m)(e:c.heap[r]?=w.heap[r]?):p0L c r m:=by
 obtain⟨es,cl,he,hm⟩:=h;exact⟨es,cl,e.trans he,hm⟩
def j0d {em:Bool}{c:TypeId}{k:Int}(hk:P.underlying c=some (.int .i64))(w:World):(Instr.checkKey em 10000 c (.int .i64 k)).run P w=.ok () w:=by
 show(Instr.checkKey em (9999+1) c (.int .i64 k)).run P w=.ok () w;generalize 9999=q;simp[Instr.checkKey,run_underlying hk]
def e08 {es:Array MapEntry}{cl:Nat}(h:w.heap[r]?=some (.map es cl)):(getObj r).run P w=.ok (.map es cl) w:=by
 simp[getObj,Sem.run,h]
def b0D (w:World)(r:Nat)(c:Obj):World:={ w with heap:=w.heap.setIfInBounds r c }
def u0p {d c:Obj}(h:w.heap[r]?=some c):(b0D w r d).heap[r]?=some d:=by
 grind [b0D]
def q0d (w:World)(r:Nat)(c:Obj):j5 r w (b0D w r c):=⟨rfl,rfl,rfl,by simp[b0D],fun k _ hk=>by simp[b0D,Ne.symm hk]⟩
def m0F {c:Obj}{es:Array MapEntry}{cl:Nat}(h:w.heap[r]?=some (.map es cl)):(setObj r c).run P w=.ok () (b0D w r c):=by
 simp[setObj,Sem.run,h,b0D]
def D01 (w:World)(k:Int):(Instr.keyThatStays (.int .i64 k) (.int .i64 k)).run P w=.ok (.int .i64 k) w:=by
 simp[Instr.keyThatStays,Instr.sameBits]
def B06 {t h s:TypeId}{es:Array MapEntry}{cl:Nat}{k v:Int}(g:P.underlying t=some (.map h s))(hk:P.underlying h=some (.int .i64))(he:w.heap[r]?=some (.map es cl))(hm:H8 es.toList m):
  ∃c d,(Instr.mapUpdate t (.map (some r)) (.int .i64 k) (.int .i64 v)).run P w=.ok () (b0D w r (.map c d))/\H8 c.toList (b0f m k v):=by
 rcases o0a k es.toList m hm 0 with⟨f1,f2,f3,f4⟩|⟨j,f1,f2,f3,f4,f5,f6⟩
 ·refine⟨es.push ⟨.int .i64 k,.int .i64 v,cl⟩,cl+1,?_,?_⟩
  ·simp[Instr.mapUpdate,run_underlying g,e08 he,j0d hk,Instr.findKey,run_underlying hk,f1,m0F he]
  simp_all[H8]
 ·have q:j<es.size:=O'
  have f:es[j].key=.int .i64 k:=by
   have h1:(es.toList.map (fun e=>(e.key,e.val)))[j]?=(m.map (fun p=>((.int .i64 p.1,.int .i64 p.2):Value×Value)))[j]?:=by rw[hm]
   simp_all
  refine⟨es.modify j fun e=>{ e with key:=.int .i64 k,val:=.int .i64 v },cl,?_,?_⟩
  ·simp[Instr.mapUpdate,run_underlying g,e08 he,j0d hk,Instr.findKey,run_underlying hk,f1,q,f,D01,m0F he]
  ·apply ext_getElem?;intro i;have h1:(es.toList.map (fun e=>(e.key,e.val)))[i]?=(m.map (fun p=>((.int .i64 p.1,.int .i64 p.2):Value×Value)))[i]?:=by rw[hm]
   grind
end
