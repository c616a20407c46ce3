/- P. Its conditions: none. -/
import Derived.Test.YtihmgaccbcfgjaaGreatTG00
import Derived.Maps.AppendAt
import Derived.Laws.StructEq
import Derived.Laws.Cover3
import Derived.Laws.Slices
open Nat (le_refl lt_or_ge succ_mul mul_le_mul_right min_eq_left)
open Bool (and_eq_true)
set_option linter.all false
namespace Go.V
open Go.RowKit
section
variable {P:Program}{ops:Array Oper}{n:Nat}{Q:Exit->Act->World->Prop}{l:FL}{a:Act}{w:World}{o:Oper}{rest:List Oper}
def Below.new (w:World)(b:Obj):Below w.heap.size w (w.alloc b):=(Below.refl _ w).alloc (le_refl _) b
def j0t {V:Nat->Value}{cs:List Value}{T:TypeId}(ha:Ag n l a)(f:(gate ops l o==some true&&fit n l o)=true)
  (e:(execOp (lk l) o).run P w=.ok (.value (V w.heap.size)) (w.alloc (.cells cs.toArray T)))
  (h:∀w1 b,Below w.heap.size w w1->w1.heap[b]?=some (.cells cs.toArray T (0,0))->w.heap.size=b->w1.heap.size=b+1->∀c,Ag n (N5 l o.dst (V b)) c->wpList P ops Q rest c w1):wpList P ops Q (o :: rest) a w:=
 b0U ha f e fun c d=>h _ _ (Below.new w _) (heap_alloc_new w _) rfl X' c d
def n0p {b off:Nat}{v v0:Value}{ad:Addr}(c:ad=⟨b,off,none⟩)(h1:v.oneCell'=true)(e:w.cell? ⟨b,off,none⟩=some v0)(d:w.frozen? ⟨b,off,none⟩=false):
  (store ad v).run P w=.ok () (w.setCell ⟨b,off,none⟩ v):=by
 subst c;cases v<;>simp_all[store,Sem.run,Value.oneCell']
def v05 {b off:Nat}{t:TypeId}{cs:List Value}{v:Value}(c:w.heap[b]?=some (.cells cs.toArray t (0,0))):
  (w.setCell ⟨b,off,none⟩ v).heap[b]?=some (.cells (cs.set off v).toArray t (0,0)):=by
 simp[World.setCell,Array.getElem?_modify,c]
def h0h {W0:D0}{w:World}:∀k,Wr W0 w k->Wr W0 w k:=fun _ h=>h
structure j5 (b:Nat)(w w1:World):Prop where
 os:w1.os=w.os
 tape:w1.tape=w.tape
 output:w1.output=w.output
 size:w.heap.size<=w1.heap.size
 block:∀k,k<w.heap.size->k≠b->w1.heap[k]?=w.heap[k]?
def j5.cell (w:World)(b off:Nat)(v:Value):j5 b w (w.setCell ⟨b,off,none⟩ v):=
 ⟨rfl,rfl,rfl,by simp[World.setCell],fun k _ hk=>Below.heap_setCell w _ v k hk⟩
def j5.cx {b:Nat}{w0 w1:World}{W0 S0 S:D0}(h:Cx w0 W0 S0 w S)(c:j5 b w w1)(d:Wr W0 w0 b):Cx w0 W0 S0 w1 S:=
 ⟨⟨c.os.trans h.bel.os,c.tape.trans h.bel.tape,c.output.trans h.bel.output,Nat.le_trans h.bel.size c.size,fun k hk hn=>(c.block k (by have:=h.bel.size;omega) (fun e=>by subst e;exact d.elim hn (fun f=>O'))).trans (h.bel.block k hk hn)⟩,h.sub,fun k hk=>Nat.lt_of_lt_of_le (h.lt k hk) c.size,h.lt0⟩
def j5.L0 {b:Nat}{w1:World}{S:D0}(c:j5 b w w1)(d:S b):P0 w.heap S w1.heap S:=
 ⟨c.size,fun k hk hn=>⟨hn,c.block k hk (fun e=>hn (e▸d))⟩⟩
def t05 (b:Nat)(t:TypeId):∀(vs:List Value) (i:Nat) (w:World) (cs:List Value),w.heap[b]?=some (.cells cs.toArray t (0,0))->i+vs.length=cs.length->(∀v∈vs,v.oneCell'=true)->
  ∃w1,(storeCells ⟨b,0,none⟩ vs i).run P w=.ok () w1/\j5 b w w1/\w1.heap.size=w.heap.size/\w1.heap[b]?=some (.cells (cs.take i++vs).toArray t (0,0))
 |[],i,w,cs,f,hl,_=>⟨w,by simp[storeCells],⟨rfl,rfl,rfl,le_refl _,fun _ _ _=>rfl⟩,rfl,by simp at hl;rw[List.take_of_length_le O',List.append_nil];exact f⟩
 |v :: vs,i,w,cs,f,hl,h1=>by
  simp only[List.length_cons]at hl;have hi:i<cs.length:=O'
  have j:w.cell? ⟨b,i,none⟩=some cs[i]:=by rw[e0W];unfold O1;rw[f];simp[hi]
  have p:w.frozen? ⟨b,i,none⟩=false:=by simp[World.frozen?,f]
  have h:=n0p (P:=P) (w:=w) (ad:=(⟨b,0,none⟩:Addr).add i) (by unfold Addr.add;split<;>simp_all) (h1 v X') j p;obtain⟨w1,m,d,hs,g⟩:=t05 b t vs (i+1) (w.setCell ⟨b,i,none⟩ v) (cs.set i v) (v05 f) Z' (fun u hu=>h1 u (by simp[hu]));have c:=j5.cell w b i v;refine⟨w1,by simp[storeCells,h,m],⟨d.os.trans c.os,d.tape.trans c.tape,d.output.trans c.output,Nat.le_trans c.size d.size,fun k hk hn=>(d.block k (Nat.lt_of_lt_of_le hk c.size) hn).trans (c.block k hk hn)⟩,hs.trans (by simp[World.setCell]),?_⟩;rw[g];congr 2;congr 1;have e:min i cs.length=i:=O'
  rw[List.take_set,List.take_succ_eq_append_getElem hi,List.set_append_right _ _ Z',List.append_assoc];simp[e]
def G0T {T:TypeId}{x y:Operand}{b:Nat}{t:TypeId}{cs vs:List Value}{v:Value}(ha:Ag n l a)(z:(gate ops l o==some true&&fit n l o)=true)(p:o.op=.store T x y)
  (q:lk l x=.pointer (some ⟨b,0,none⟩)) (r:lk l y=v) (k:v.cells=vs.toArray) (C:w.heap[b]?=some (.cells cs.toArray t (0,0))) (hl:(decide (vs.length=cs.length)&&vs.all (·.oneCell'))=true)
  (g:(P.info? T).map (·.size)=some vs.length)
  (h:∀w1,j5 b w w1->w1.heap.size=w.heap.size->w1.heap[b]?=some (.cells vs.toArray t (0,0))->∀f,Ag n (N5 l o.dst undef) f->wpList P ops Q rest f w1):wpList P ops Q (o :: rest) a w:=by
 simp only[and_eq_true,decide_eq_true_eq,List.all_eq_true]at hl;obtain⟨inf,d,hs⟩:=Option.map_eq_some_iff.1 g;obtain⟨w1,u,i,c,e⟩:=t05 (P:=P) b t vs 0 w cs C O' hl.2;simp only[List.take_zero,List.nil_append]at e;refine l0Y ha z (w':=w1) ?_ fun f j=>h _ i c e f j;have s:v.cells.size=vs.length:=by rw[k];simp
 have m:v.cells.toList=vs:=by rw[k]
 simp[execOp,p,q,r,Instr.storeAt,Instr.sureAddr,storeVar,s,m,sizeOf,typeInfo,d,hs,u]
def I0u {i:Oper}{T:TypeId}{y:Operand}{d:Nat}{z vs:List Value}{v:Value}{w0:World}{W0 S0 S:D0}(ha:Ag n l a)(cx:Cx w0 W0 S0 w S)(I:(gate ops l o==some true&&fit n l o)=true)(hd:o.dst=some d)
  (x:(execOp (lk l) o).run P w=.ok (.value (.pointer (some ⟨w.heap.size,0,none⟩))) (w.alloc (.cells z.toArray T)))
  (q:∀b,(gate ops (N5 l (some d) (.pointer (some ⟨b,0,none⟩))) i==some true&&fit n (N5 l (some d) (.pointer (some ⟨b,0,none⟩))) i)=true) (p:i.op=.store T (.tmp d) y) (m:i.dst=none)
  (u:∀b,lk (N5 l (some d) (.pointer (some ⟨b,0,none⟩))) y=v) (t:v.cells=vs.toArray) (hl:(decide (vs.length=z.length)&&vs.all (·.oneCell'))=true) (j:(P.info? T).map (·.size)=some vs.length)
  (h:∀w1 b,Cx w0 W0 S0 w1 S->Below w.heap.size w w1->Bx w1.heap S b T vs->∀r,Ag n (N5 l (some d) (.pointer (some ⟨b,0,none⟩))) r->wpList P ops Q rest r w1):wpList P ops Q (o :: i :: rest) a w:=by
 refine j0t (V:=fun b=>.pointer (some ⟨b,0,none⟩)) ha I x fun w1 b J h1 e1 e2 a1 e=>?_;rw[hd]at e;refine G0T e (q b) p (by simp[lk,N5,look?]) (u b) t h1 hl j fun s c U C a2 f=>?_;rw[m]at f;have g:Below w.heap.size w s:=J.trans ⟨c.os,c.tape,c.output,c.size,fun k hk=>c.block k O' O'⟩;exact h s b (cx.ext g) g ⟨C,fun R=>by have:=cx.lt b R;omega⟩ a2 f
def Q4.news {α:Type}{T:Ty α}{S:D0}{A:Option Addr}:∀{xs:List α} {k:Nat},(∀(i:Nat) (x:α),xs[i]?=some x->∃b o cs,A=some ⟨b,o,none⟩/\T.R w.heap S cs x/\∀j v,cs[j]?=some v->O1 w.heap b (o+(k+i)*T.sz+j)=some v)->
  ∃news,R1 T w.heap S news xs/\∀b o,A=some ⟨b,o,none⟩->∀j u,news[j]?=some u->O1 w.heap b (o+k*T.sz+j)=some u
 |[],k,_=>⟨[],R1.nil,fun b o _ j u c=>by simp at c⟩
 |x :: xs,k,h=>by
  obtain⟨b,o,cs,m,f,g⟩:=h 0 x X';obtain⟨news,he,hn⟩:=Q4.news (xs:=xs) (k:=k+1) (fun i y q=>by
   obtain⟨b,o,cs,m,f,g⟩:=h (i+1) y (by simpa using q);exact⟨b,o,cs,m,f,fun j v c=>by have:=g j v c;rwa [show k+1+i=k+(i+1)from O']⟩)
  refine⟨cs++news,?_,fun b' e d j u c=>?_⟩
  ·have:=(R1.one f).append he;simpa using this
  ·rcases lt_or_ge j cs.length with hlt|hge
   ·rw[List.getElem?_append_left hlt]at c;obtain⟨rfl,rfl⟩:b=b'/\o=e:=by rw[m]at d;simpa using d
    simpa using g j u c
   ·rw[List.getElem?_append_right hge]at c;have p:=hn b' e d _ u c;rw[T.len f]at p hge;rw[show e+k*T.sz+j=e+(k+1)*T.sz+(j-T.sz)from by rw[Nat.add_mul];omega];exact p
def u0z (base:Nat)(t ty e:TypeId)(i:TypeInfo)(size:Nat)(d:P.underlying t=some (.slice e))(hi:P.info? e=some i)
  (v:Value) (n:Nat) (xs:List Value) (b:w.ownsRow base e size v n xs) (A:Option Addr) (c:Nat):(Builtin.append_ #[t,t] ty #[v,.slice A 0 c]).run P w=.ok v w:=by
 rcases b.2 with⟨rfl,rfl⟩|⟨g,cap,cur,rfl,_,_,hnc,_⟩
 ·cases A<;>simp[Builtin.append_,run_underlying d,sizeOf,typeInfo,hi,Builtin.lenOf,Builtin.firstCells,loadCells,loadCellsFrom]
 ·cases A<;>simp[Builtin.append_,run_underlying d,sizeOf,typeInfo,hi,Builtin.lenOf,Builtin.firstCells,loadCells,loadCellsFrom,hnc,storeCells]
def K0 {α:Type}(bytes:Nat)(xs ys:List α):Bool:=decide ((xs.length+ys.length)*bytes<=140737488355328)
def z0l {α:Type}{T:Ty α}{S M:D0}(t ty e:TypeId)(bytes:Nat)(z:Value)(ht:P.underlying t=some (.slice e))(hE:(P.info? e).map (fun i=>(i.zero,i.size,i.bytes))=some (some z,T.sz,bytes))(m:(decide (z.cells.size=T.sz)&&decide (0<T.sz)&&decide (0<bytes))=true)
  {v:Value} {xs ys:List α} (U:Ow T e M w.heap S v xs) {A:Option Addr} {c:Nat} (hy:Q4 T w.heap S A ys) (q:K0 bytes xs ys=true):
  ∃f w1,(Builtin.append_ #[t,t] ty #[v,.slice A ys.length c]).run P w=.ok f w1/\w.grownBy w1 v.ownBlock/\(f.ownBlock=v.ownBlock\/f.ownBlock=some w.heap.size)/\
   ∀S1:D0,P0 w.heap S w1.heap S1->∀s:D0,(∀k,f.ownBlock=some k->S1 k/\s k)->Ow T e s w1.heap S1 f (xs++ys):=by
 obtain⟨i,hi,I⟩:=Option.map_eq_some_iff.1 hE;simp only[Prod.mk.injEq]at I;obtain⟨hz,b1,b2⟩:=I;simp only[and_eq_true,decide_eq_true_eq]at m;obtain⟨hS,cs,d,J⟩:=U;simp only[K0,decide_eq_true_eq]at q;have R:xs.length+ys.length<=maxLen:=by
  have:xs.length+ys.length<=(xs.length+ys.length)*bytes:=Nat.le_mul_of_pos_right _ m.2;simp only[maxLen];omega
 obtain⟨news,g,p⟩:=Q4.news (w:=w) (xs:=ys) (k:=0) (A:=A) (T:=T) (S:=S) (fun i x hx=>by
  obtain⟨b,o,cs,h1,h2,h3⟩:=hy i x hx;exact⟨b,o,cs,h1,h2,fun j v hj=>by rw[Nat.zero_add];exact h3 j v hj⟩)
 have done:∀(f:Value) (w1:World),w1.ownsRow 0 e T.sz f (xs.length+ys.length) (cs++news)->∀S1:D0,P0 w.heap S w1.heap S1->∀s:D0,(∀k,f.ownBlock=some k->S1 k/\s k)->Ow T e s w1.heap S1 f (xs++ys):=by
  intro f w1 h1 S1 k s a1;refine⟨a1,cs++news,?_,(J.L0 k).append (g.L0 k)⟩;have:=Row.of h1;simpa using this
 rcases A with _|ad
 ·have h0:ys=[]:=by
   cases ys with
   |nil=>rfl
   |cons y ys=>obtain⟨b,o,cs,h,_⟩:=hy 0 y X';cases h
  subst h0;have hn:news=[]:=List.eq_nil_of_length_eq_zero (by have:=g.1;simpa using this);subst hn;exact⟨v,w,u0z 0 t ty e i T.sz ht hi v xs.length cs d.own none c,⟨rfl,rfl,rfl,le_refl _,fun _ _ _=>rfl⟩,.inl rfl,done v w (by simpa using d.own)⟩
 ·rcases Nat.eq_zero_or_pos ys.length with h0|hpos
  ·have h0:ys=[]:=List.eq_nil_of_length_eq_zero h0;subst h0;have hn:news=[]:=List.eq_nil_of_length_eq_zero (by have:=g.1;simpa using this);subst hn;exact⟨v,w,u0z 0 t ty e i T.sz ht hi v xs.length cs d.own (some ad) c,⟨rfl,rfl,rfl,le_refl _,fun _ _ _=>rfl⟩,.inl rfl,done v w (by simpa using d.own)⟩
  ·obtain⟨b,o,_,hA,_⟩:=hy 0 ys[0] (by simp[hpos]);have hA:=Option.some.inj hA;subst hA;have r:∀j u,news[j]?=some u->w.cell? ((⟨b,o,none⟩:Addr).add j)=some u:=by
    intro j u hj;rw[k7];have:=p b o rfl j u hj;simpa using this
   obtain⟨f,w',C,h2,h3,_,h5⟩:=run_append_own_at (P:=P) w 0 t ty e i z T.sz bytes ht hi hz b1 b2 m.1.1 m.1.2 v xs.length cs d.own ⟨b,o,none⟩ ys.length c news g.1 r g.e0w R q (Nat.zero_le _);exact⟨f,w',C,h3,h5,done f w' h2⟩
def Ow.ext {α:Type}{T:Ty α}{e:TypeId}{M S:D0}{v:Value}{xs:List α}{w w1:World}(h:Ow T e M w.heap S v xs)(c:Below w.heap.size w w1):Ow T e M w1.heap S v xs:=
 h.L0 (P0.ext S c) (fun _ h=>h) (fun b d=>c.block b (h.lt b d))
def Ow.j0z {α:Type}{T:Ty α}{e:TypeId}{M S S1:D0}{v:Value}{xs:List α}{w w1:World}(h:Ow T e M w.heap S v xs)(d:Below w.heap.size w w1)(k:P0 w.heap S w1.heap S1)(hs:∀b,S b->S1 b):Ow T e M w1.heap S1 v xs:=
 h.L0 k hs (fun b c=>d.block b (h.lt b c))
def Mb.ext {M S:D0}{b:Nat}{t:TypeId}{cs:List Value}{w w1:World}(h:Mb M w.heap S b t cs)(c:Below w.heap.size w w1):Mb M w1.heap S b t cs:=
 h.L0 (fun _ h=>h) (c.block b (getElem?_lt h.1))
def Mb.j0z {M S S1:D0}{b:Nat}{t:TypeId}{cs:List Value}{w w1:World}(h:Mb M w.heap S b t cs)(c:Below w.heap.size w w1)(hs:∀b,S b->S1 b):Mb M w1.heap S1 b t cs:=
 h.L0 hs (c.block b (getElem?_lt h.1))
def Ow.result {α:Type}{T:Ty α}{e:TypeId}{M:D0}{H:I0}{S S0:D0}{v:Value}{xs:List α}(h:Ow T e M H S v xs)(hs:∀b,S0 b->S b):Ow T e M H (inV v S0) v xs:=
 h.o0U (fun _ c=>c.elim (fun d=>(h.1 _ d).1) (hs _)) (fun _ c=>.inl c)
def Bx.new {w0 w w1:World}{W0 S0 S:D0}{b:Nat}{t:TypeId}{cs:List Value}(cx:Cx w0 W0 S0 w S)(hk:w1.heap[b]?=some (.cells cs.toArray t (0,0)))(he:w.heap.size=b):Bx w1.heap S b t cs:=
 ⟨hk,fun hs=>by have:=cx.lt b hs;omega⟩
def I0n {α:Type}{T:Ty α}{e:TypeId}{w0 w w1:World}{W0 S0 S:D0}{v:Value}{xs:List α}(cx:Cx w0 W0 S0 w S)(c:Below w.heap.size w w1)(f:Ow T e (Wr C3 w) w1.heap (inV v S) v xs):
  ∃S1,Cx w0 W0 S0 w1 S1/\P0 w.heap S w1.heap S1/\(∀b,S b->S1 b)/\(∀k,v.ownBlock=some k->w.heap.size<=k)/\Ow T e (Wr C3 w0) w1.heap S1 v xs:=by
 have hn:∀k,v.ownBlock=some k->w.heap.size<=k:=fun k hk=>(f.1 k hk).2.elim (fun h=>h.elim) (fun h=>h);exact⟨inV v S,(cx.ext c).more (fun _ h=>.inr h) (fun b h=>h.elim (fun h=>f.lt b h) ((cx.ext c).lt b)),⟨c.size,fun b h d=>⟨fun hi=>hi.elim (fun g=>by have:=hn b g;omega) d,c.block b h⟩⟩,
  fun _ h=>.inr h,hn,f.b0a (fun k hk=>.inr (by have:=hn k hk;have:=cx.size;omega))⟩
def E08 {α:Type}{T:Ty α}{e:TypeId}{w0 w:World}{W0 S0 S:D0}{H1:I0}{A:Option Addr}{n c:Nat}{xs:List α}(cx:Cx w0 W0 S0 w S)(f:Ow T e (Wr C3 w) H1 (inV (.slice A n c) S) (.slice A n c) xs):Sl T H1 S A c xs:=
 f.freeze (fun _ h=>.inr h) (fun b d hs=>by have:=cx.lt b hs;have:=(f.1 b d).2.elim (fun h=>h.elim) (fun h=>h);omega)
def s0R {α:Type}{T:Ty α}{e:TypeId}{w0 w w1:World}{W0 S0 S:D0}{b m:Nat}{cs:List Value}{xs:List α}(_cx:Cx w0 W0 S0 w S)(f:Below w.heap.size w w1)(hk:w1.heap[b]?=some (.cells cs.toArray e (0,0)))(he:w.heap.size=b)(hm:m=xs.length)(d:(decide (m<=1000000))=true)(c:R1 T w.heap S cs xs):
  Ow T e (Wr C3 w) w1.heap (inV (.slice (some ⟨b,0,none⟩) m m) S) (.slice (some ⟨b,0,none⟩) m m) xs:=by
 subst hm;simp only[decide_eq_true_eq]at d;refine⟨fun k hk=>⟨.inl hk,.inr (by simp[Value.ownBlock]at hk;omega)⟩,cs,⟨c.1,.inr ⟨b,xs.length,cs.toArray,rfl,hk,le_refl _,by simp only[maxLen];omega,by simp[c.1],by simp[<-c.1]⟩⟩,c.L0 ⟨f.size,fun k h hn=>⟨fun hi=>hi.elim (fun g=>?_) hn,f.block k h⟩⟩⟩;simp[Value.ownBlock]at g;omega
def F6 (v u:Value):Prop:=∀k,v.ownBlock=some k->u.ownBlock≠some k
def bv (b:Nat):Value:=.slice (some ⟨b,0,none⟩) 0 0
def F6.symm {v u:Value}(h:F6 v u):F6 u v:=fun k hk e=>h k e hk
def F6.nil {v:Value}:F6 v (.slice none 0 0):=fun k _ e=>by cases e
def F6.new {v u:Value}{m:Nat}(h:∀k,v.ownBlock=some k->k<m)(b:∀k,u.ownBlock=some k->m<=k):F6 v u:=fun k hk e=>by have:=h k hk;have:=b k e;omega
def F6.grow {v u b:Value}{m:Nat}(d:F6 v u)(h:∀k,v.ownBlock=some k->k<m)(c:∀k,b.ownBlock=some k->u.ownBlock=some k\/m<=k):F6 v b:=fun k hk e=>by
 rcases c k e with h2|h2
 ·exact d k hk h2
 ·have:=h k hk;omega
def Mb.lt {M:D0}{H:I0}{S:D0}{b:Nat}{t:TypeId}{cs:List Value}(h:Mb M H S b t cs):∀k,(bv b).ownBlock=some k->k<H.size:=fun k hk=>by cases hk;exact getElem?_lt h.1
def Ow.only {α:Type}{T:Ty α}{e:TypeId}{M S:D0}{b:Nat}{v:Value}{xs:List α}{w w1:World}(h:Ow T e M w.heap S v xs)(c:j5 b w w1)(d:S b)(hd:v.ownBlock≠some b):Ow T e M w1.heap S v xs:=
 h.L0 (c.L0 d) (fun _ h=>h) (fun k hk=>c.block k (h.lt k hk) (fun e=>hd (by rw[<-e];exact hk)))
def Mb.only {M S:D0}{b c:Nat}{t:TypeId}{cs:List Value}{w w1:World}(h:Mb M w.heap S c t cs)(d:j5 b w w1)(hd:c≠b):Mb M w1.heap S c t cs:=
 h.L0 (fun _ h=>h) (d.block c (getElem?_lt h.1) hd)
def R2 (bytes:Nat)(n:Int):Bool:=decide (0<=n)&&decide (n*bytes<=140737488355328)
def l0r {α:Type}{T:Ty α}{H:I0}{S:D0}{z:List Value}{x:α}(b:T.R H S z x):∀(k:Nat),R1 T H S (List.replicate k z).flatten (List.replicate k x)
 |0=>R1.nil
 |k+1=>by
  rw[List.replicate_succ,List.replicate_succ,List.flatten_cons];exact(R1.one b).append (l0r b k)
def n0t (z:Array Value):∀(k:Nat),(madeCells z (k*z.size)).toList=(List.replicate k z.toList).flatten:=by
 intro k;apply List.ext_getElem?;intro i;have hl:((List.replicate k z.toList).flatten).length=k*z.size:=X'
 rcases lt_or_ge i (k*z.size)with hi|hi
 ·have h1:((madeCells z (k*z.size)).toList)[i]?=some z[i % z.size]!:=by simp[madeCells,hi]
  rw[h1];have key:∀(k i:Nat),i<k*z.size->((List.replicate k z.toList).flatten)[i]?=some z[i % z.size]!:=by
   intro k
   induction k with
   |zero=>intro i h;omega
   |succ k ih=>
    intro i h;rw[List.replicate_succ,List.flatten_cons];rcases lt_or_ge i z.size with h2|h2
    ·rw[List.getElem?_append_left (by simpa using h2),Nat.mod_eq_of_lt h2];simp[h2]
    ·rw[List.getElem?_append_right (by simpa using h2),Array.length_toList,ih (i-z.size) (by rw[succ_mul]at h;omega)];rw[Nat.mod_eq_sub_mod h2]
  exact(key k i hi).symm
 ·rw[List.getElem?_eq_none (by simp[size_madeCells];exact hi),List.getElem?_eq_none (by rw[hl];exact hi)]
def r0o {α:Type}{T:Ty α}{w0:World}{W0 S0 S:D0}{t e:TypeId}{bytes:Nat}{z:Value}{zx:α}{x y:Operand}{k:IntKind}{m:Int}(ha:Ag n l a)(cx:Cx w0 W0 S0 w S)(hf:(gate ops l o==some true&&fit n l o)=true)
  (ho:o.op=.makeSlice t x y) (hx:lk l x=.int k m) (hy:lk l y=.int k m)
  (ht:P.underlying t=some (.slice e)) (hE:(P.info? e).map (fun i=>(i.zero,i.size,i.bytes))=some (some z,T.sz,bytes)) (p:(decide (z.cells.size=T.sz)&&decide (0<T.sz)&&decide (0<bytes))=true)
  (hz:∀(H:I0) (S:D0),T.R H S z.cells.toList zx) (d:R2 bytes m=true)
  (h:∀w1 S1 A1 c1,Cx w0 W0 S0 w1 S1->Below w.heap.size w w1->P0 w.heap S w1.heap S1->(∀b,S b->S1 b)->
   (∀k,(Value.slice A1 (List.replicate m.toNat zx).length c1).ownBlock=some k->w.heap.size<=k)->Ow T e (Wr C3 w0) w1.heap S1 (.slice A1 (List.replicate m.toNat zx).length c1) (List.replicate m.toNat zx)->
   ∀I,Ag n (N5 l o.dst (.slice A1 (List.replicate m.toNat zx).length c1)) I->wpList P ops Q rest I w1):wpList P ops Q (o :: rest) a w:=by
 obtain⟨i,hi,u⟩:=Option.map_eq_some_iff.1 hE;simp only[Prod.mk.injEq]at u;obtain⟨a1,J,b1⟩:=u;simp only[and_eq_true,decide_eq_true_eq]at p;simp only[R2,and_eq_true,decide_eq_true_eq]at d;obtain⟨q,rfl⟩:=Int.eq_ofNat_of_zero_le d.1;have hq:q*bytes<=140737488355328:=by
  have h1:=d.2;have h2:((q*bytes:Nat):Int)<=140737488355328:=by rw[Int.natCast_mul];exact h1
  omega
 have b2:q<=q*bytes:=Nat.le_mul_of_pos_right _ p.2;obtain⟨w1,s,f,hg⟩:=run_make_full (P:=P) w w.heap.size t e i z T.sz ht hi a1 J k k q (by rw[b1,Nat.mul_comm];omega) (by simp only[maxLen];omega) (le_refl _);have C:Below w.heap.size w w1:=⟨hg.os,hg.tape,hg.output,hg.size,fun k hk=>hg.block k hk X'⟩
 simp only[Int.toNat_natCast]at h ⊢;have hblk:∀k,(Value.slice (some ⟨w.heap.size,0,none⟩) (List.replicate q zx).length q).ownBlock=some k->k=w.heap.size:=by
  intro k hk;simp[Value.ownBlock]at hk;exact hk.symm
 refine b0U ha hf (v:=.slice (some ⟨w.heap.size,0,none⟩) (List.replicate q zx).length q) (w':=w1) ?_ fun I U=>
  h w1 (inV (.slice (some ⟨w.heap.size,0,none⟩) (List.replicate q zx).length q) S) (some ⟨w.heap.size,0,none⟩) q ?_ C ⟨C.size,fun b c hn=>⟨fun hi=>?_,C.block b c⟩⟩ (fun b c=>.inr c) (fun k hk=>by rw[hblk k hk];exact le_refl _) ⟨fun k hk=>⟨.inl hk,.inr (by rw[hblk k hk];exact cx.size)⟩,_,?_,l0r (hz _ _) q⟩ I U
 ·simp[execOp,ho,hx,hy,s]
 ·refine⟨cx.bel.trans C,fun b c=>.inr (cx.sub b c),fun b c=>?_,cx.lt0⟩;rcases c with c|c
  ·rw[hblk b c];have:=f.2;rcases this with⟨j,_⟩|⟨g,cap,cur,j,_,hgg,_⟩
   ·cases j
   ·simp at j;obtain⟨rfl,_⟩:=j;exact getElem?_lt hgg
  ·exact Nat.lt_of_lt_of_le (cx.lt b c) C.size
 ·rcases hi with hi|hi
  ·have:=hblk b hi;omega
  ·exact hn hi
 ·have hm:=n0t z.cells q;rw[p.1.1]at hm;rw[hm]at f;have h2:=Row.of f;obtain⟨h3,h4⟩:=h2;refine⟨by simpa using h3,?_⟩;rcases h4 with⟨j,_⟩|⟨g,cap,cur,j,r⟩
  ·cases j
  ·exact .inr ⟨g,cap,cur,by simpa using j,by simpa using r⟩
def k0z (b o p:Nat):(⟨b,o,none⟩:Addr).add p=⟨b,o+p,none⟩:=by
 unfold Addr.add
 by_cases hn:p=0<;>simp[hn]
def F0t {cs:List Value}{p q sz:Nat}{v:Value}(h:p<q\/q+sz<=p):((cs.set p v).drop q).take sz=(cs.drop q).take sz:=by
 apply List.ext_getElem?;intro j;rcases lt_or_ge j sz with hj|hj
 ·rw[List.getElem?_take_of_lt hj,List.getElem?_take_of_lt hj,List.getElem?_drop,List.getElem?_drop,List.getElem?_set_ne O']
 ·rw[List.getElem?_eq_none Z',List.getElem?_eq_none Z']
def B0H {cs:List Value}{q f sz:Nat}{v:Value}:((cs.set (q+f) v).drop q).take sz=((cs.drop q).take sz).set f v:=by
 apply List.ext_getElem?;intro j;rcases lt_or_ge j sz with hj|hj
 ·rw[List.getElem?_take_of_lt hj,List.getElem?_drop,List.getElem?_set,List.getElem?_set];rw[List.getElem?_take_of_lt hj,List.getElem?_drop]
  by_cases e:f=j
  ·subst e;simp only[if_true,List.length_take,List.length_drop]
   by_cases h1:q+f<cs.length
   ·rw[if_pos h1,if_pos O']
   ·rw[if_neg h1,if_neg O']
  ·rw[if_neg O',if_neg e]
 ·rw[List.getElem?_eq_none Z',List.getElem?_eq_none Z']
def R1.set {α:Type}{T:Ty α}{H d:I0}{S g:D0}{cs:List Value}{xs:List α}(k:P0 H S d g)(h:R1 T H S cs xs){i f:Nat}{x x':α}{v:Value}(q:f<T.sz)(m:xs[i]?=some x)
  (p:∀b,T.R H S b x->T.R d g (b.set f v) x'):R1 T d g (cs.set (i*T.sz+f) v) (xs.set i x'):=by
 refine⟨by simp[h.1],fun j y c=>?_⟩;rw[List.getElem?_set]at c
 by_cases e:i=j
 ·subst e;have hi:i<xs.length:=by
   rcases lt_or_ge i xs.length with h|h
   ·exact h
   ·rw[List.getElem?_eq_none h]at m;cases m
  simp only[if_true,if_pos hi,Option.some.injEq]at c;subst c;rw[B0H];exact p _ (h.2 i x m)
 ·rw[if_neg e]at c;rw[F0t]
  ·exact T.L0 k (h.2 j y c)
  ·rcases lt_or_ge i j with h1|h1
   ·left;have:i*T.sz+T.sz<=j*T.sz:=by rw[<-succ_mul];exact mul_le_mul_right _ h1
    omega
   ·right;have:j*T.sz+T.sz<=i*T.sz:=by rw[<-succ_mul];exact mul_le_mul_right _ O'
    omega
def u0Z {α:Type}[Inhabited α]{T:Ty α}{w0:World}{W0 Wf S0 S:D0}{t e:TypeId}{nn c b off f:Nat}{i:Int}{x y:Operand}{v:Value}{ad:Addr}{xs:List α}{x':α}(ha:Ag n l a)(cx:Cx w0 W0 S0 w S)(hf:(gate ops l o==some true&&fit n l o)=true)
  (ho:o.op=.store t x y) (hx:lk l x=.pointer (some ad)) (hy:lk l y=v) (hW:∀k,Wr Wf w0 k->Wr W0 w0 k) (d:Ow T e (Wr Wf w0) w.heap S (.slice (some ⟨b,off,none⟩) nn c) xs) (hi:y0 xs i=true) (j:(decide (f<T.sz)&&v.oneCell')=true)
  (J:ad=⟨b,off+i.toNat*T.sz+f,none⟩) (a1:(P.info? t).map (·.size)=some 1)
  (hr:∀(H':I0) m,P0 w.heap S H' S->T.R w.heap S m (gt xs i)->T.R H' S (m.set f v) x')
  (h:∀w1,Cx w0 W0 S0 w1 S->j5 b w w1->P0 w.heap S w1.heap S->Ow T e (Wr Wf w0) w1.heap S (.slice (some ⟨b,off,none⟩) nn c) (xs.set i.toNat x')->∀a',Ag n (N5 l o.dst undef) a'->wpList P ops Q rest a' w1):wpList P ops Q (o :: rest) a w:=by
 simp only[and_eq_true,decide_eq_true_eq]at j;have b5:=h0D hi;have b8:=a0o hi;have hS:=d.1;have b9:=d.lt;obtain⟨b1,cs,⟨b3,C⟩,u⟩:=d;rcases C with⟨hv,_⟩|⟨g,cap,cur,hv,hg,hnc,hm,hcs,htake⟩
 ·cases hv
 ·simp at hv;obtain⟨⟨rfl,rfl⟩,rfl,rfl⟩:=hv;have hp:i.toNat*T.sz+f<xs.length*T.sz:=by
   have:i.toNat*T.sz+T.sz<=xs.length*T.sz:=by rw[<-succ_mul];exact mul_le_mul_right _ O'
   omega
  have b7:xs.length*T.sz<=cur.size:=by rw[hcs];exact mul_le_mul_right _ hnc
  have r:w.cell? ⟨b,i.toNat*T.sz+f,none⟩=some (cur[i.toNat*T.sz+f]' O'):=by rw[e0W];unfold O1;rw[hg];simp
  have b2:w.frozen? ⟨b,i.toNat*T.sz+f,none⟩=false:=by simp[World.frozen?,hg]
  rw[Nat.zero_add]at J;have b6:=n0p (P:=P) (w:=w) (ad:=ad) J j.2 r b2;have q:=j5.cell w b (i.toNat*T.sz+f) v;have I:=hS b (by simp[Value.ownBlock]);have hk:=q.L0 I.1;refine l0Y ha hf (w':=w.setCell ⟨b,i.toNat*T.sz+f,none⟩ v) ?_ fun a' b4=>h _ (q.cx cx (hW _ I.2)) q hk ⟨b1,cs.set (i.toNat*T.sz+f) v,⟨by simp[b3],.inr ⟨b,c,cur.setIfInBounds (i.toNat*T.sz+f) v,X',?_,by simpa using hnc,hm,by simp[hcs],?_⟩⟩,u.set hk j.1 b5 (fun m he=>hr _ m hk he)⟩ a' b4
  ·obtain⟨inf,U,s⟩:=Option.map_eq_some_iff.1 a1;have p:v.cells=#[v]:=by have:=j.2;cases v<;>simp_all[Value.cells,Value.oneCell']
   have z:ad.add 0=ad:=by simp[Addr.add]
   simp[execOp,ho,hx,hy,Instr.storeAt,Instr.sureAddr,storeVar,p,sizeOf,typeInfo,U,s,storeCells,z,b6]
  ·simp[World.setCell,Array.getElem?_modify,hg]
  ·simp only[List.length_set,Array.toList_setIfInBounds];rw[List.take_set,htake]
def v0w (n:Nat)(i:Int):Bool:=decide (0<=i)&&decide (i<n)
def h08 {α:Type}(l:List α):Bool:=!l.isEmpty
def minus (S:D0)(v:Value):D0:=fun k=>S k/\v.ownBlock≠some k
def Cx.minus {w0 w:World}{W0 S0 S:D0}{v:Value}(h:Cx w0 W0 S0 w S)(d:∀k,v.ownBlock=some k->¬S0 k):Cx w0 W0 S0 w (minus S v):=
 ⟨h.bel,fun b c=>⟨h.sub b c,fun e=>d b e c⟩,fun b c=>h.lt b c.1,h.lt0⟩
def Sl.minus {α:Type}{T:Ty α}{H:I0}{S:D0}{A:Option Addr}{c:Nat}{v:Value}{xs:List α}(h:Sl T H S A c xs):Sl T H (minus S v) A c xs:=h.L0 (P0.less (fun _ h=>h.1))
def Bx.minus {H:I0}{S:D0}{b:Nat}{t:TypeId}{cs:List Value}{v:Value}(h:Bx H S b t cs):Bx H (minus S v) b t cs:=h.L0 (P0.less (fun _ h=>h.1))
def Ow.z0x {α:Type}{T:Ty α}{e:TypeId}{M:D0}{H:I0}{S:D0}{A:Option Addr}{n c:Nat}{xs:List α}(h:Ow T e M H S (.slice A n c) xs):Sl T H (Go.V.minus S (.slice A n c)) A c xs:=
 h.freeze (fun _ h=>h.1) (fun _ b h=>h.2 b)
def Ow.minus {α:Type}{T:Ty α}{e:TypeId}{M:D0}{H:I0}{S:D0}{v u:Value}{xs:List α}(h:Ow T e M H S v xs)(d:F6 v u):Ow T e M H (Go.V.minus S u) v xs:=
 h.o0U (fun _ h=>h.1) (fun b c=>⟨(h.1 b c).1,fun e=>d b c e⟩)
def Mb.minus {M:D0}{H:I0}{S:D0}{b:Nat}{t:TypeId}{cs:List Value}{u:Value}(h:Mb M H S b t cs)(d:F6 (bv b) u):Mb M H (Go.V.minus S u) b t cs:=
 ⟨h.1,⟨h.2.1,fun e=>d b rfl e⟩,h.2.2⟩
def G1 {α:Type}(xs:List α)(lo hi:Int):List α:=(xs.drop lo.toNat).take (hi-lo).toNat
def P3 {α:Type}(xs:List α)(lo hi:Int):Bool:=decide (0<=lo)&&decide (lo<=hi)&&decide (hi<=xs.length)
def d0b {α:Type}{xs:List α}{lo hi:Int}(h:P3 xs lo hi=true):(G1 xs lo hi).length=(hi-lo).toNat:=by
 simp only[P3,and_eq_true,decide_eq_true_eq]at h;simp only[G1,List.length_take,List.length_drop];omega
def Q4.cut {α:Type}{T:Ty α}{H:I0}{S:D0}{A:Option Addr}{xs:List α}{lo hi:Int}{m:Nat}{p:Option Addr}(h:Q4 T H S A xs)(hk:P3 xs lo hi=true)
  (k:p=A.map (·.add (lo.toNat*T.sz))\/m=0/\(G1 xs lo hi)=[]):Q4 T H S p (G1 xs lo hi):=by
 intro i x c;have f:G1 xs lo hi≠[]:=by rintro e;rw[e]at c;simp at c
 have g:i<(hi-lo).toNat:=by
  rw[<-d0b hk];rcases lt_or_ge i (G1 xs lo hi).length with h|h
  ·exact h
  ·rw[List.getElem?_eq_none h]at c;cases c
 unfold G1 at c;rw[List.getElem?_take_of_lt g,List.getElem?_drop]at c;obtain⟨b,o,cs,d,s,r⟩:=h _ x c;rcases k with k|⟨_,he⟩
 ·refine⟨b,o+lo.toNat*T.sz,cs,by rw[k,d];simp[k0z],s,fun j v q=>?_⟩;have:=r j v q
  rwa [show o+lo.toNat*T.sz+i*T.sz+j=o+(lo.toNat+i)*T.sz+j from by rw[Nat.add_mul];omega]
 ·exact absurd he f
def Sl.cut {α:Type}{T:Ty α}{H:I0}{S:D0}{A g:Option Addr}{c c' m:Nat}{xs:List α}{lo hi:Int}(h:Sl T H S A c xs)(hk:P3 xs lo hi=true)(j:(hi-lo).toNat<=c')
  (d:g=A.map (·.add (lo.toNat*T.sz))\/m=0/\(G1 xs lo hi)=[]):Sl T H S g c' (G1 xs lo hi):=by
 refine⟨by rw[d0b hk];exact j,fun i=>?_,h.O8.cut hk d⟩;have e:xs≠[]:=by rintro rfl;simp[G1]at i
 obtain⟨b,o,f,k,hs⟩:=h.2.1 e;rcases d with d|⟨_,he⟩
 ·exact⟨b,o+lo.toNat*T.sz,by rw[d,f];simp[k0z],k,hs⟩
 ·exact absurd he i
def Ow.take {α:Type}{T:Ty α}{e:TypeId}{M:D0}{H:I0}{S:D0}{A:Option Addr}{c:Nat}{xs:List α}{hi:Int}(h:Ow T e M H S (.slice A xs.length c) xs)(s:0<=hi)(h1:hi<=xs.length):Ow T e M H S (.slice A (G1 xs 0 hi).length c) (G1 xs 0 hi):=by
 have hlen:(G1 xs 0 hi).length=hi.toNat:=by rw[d0b (by simp[P3];omega)];congr 1;omega
 obtain⟨q,rfl⟩:=Int.eq_ofNat_of_zero_le s;have b:G1 xs 0 (q:Int)=xs.take q:=by simp[G1]
 obtain⟨r,cs,⟨hl,t⟩,he⟩:=h;have p:q<=xs.length:=O'
 have f:q*T.sz<=xs.length*T.sz:=mul_le_mul_right _ p;refine⟨fun k hk=>r k (by cases A<;>exact hk),cs.take (q*T.sz),⟨by rw[hlen];simp only[List.length_take,Int.toNat_natCast,hl];exact min_eq_left f,?_⟩,⟨by rw[b,List.length_take,List.length_take,he.1,min_eq_left p,min_eq_left f],fun i x j=>?_⟩⟩
 ·rcases t with⟨d,hn⟩|⟨g,cap,cur,d,hg,hnc,hm,hcs,ht⟩
  ·simp at d;left;refine⟨?_,by rw[hlen];omega⟩;have:(G1 xs 0 (q:Int)).length=0:=by rw[hlen];omega
   rw[this,d.1,d.2.2]
  ·simp at d;obtain⟨rfl,rfl⟩:=d;right;refine⟨g,c,cur,rfl,hg,by rw[hlen];omega,hm,hcs,?_⟩;rw[hlen,<-ht,List.take_take];simp only[Int.toNat_natCast];rw[min_eq_left (mul_le_mul_right _ O')]
 ·rw[b]at j;have m:i<q:=by
   rcases lt_or_ge i q with h|h
   ·exact h
   ·rw[List.getElem?_eq_none Z']at j;cases j
  rw[List.getElem?_take_of_lt m]at j;have:=he.2 i x j;have hle:i*T.sz+T.sz<=q*T.sz:=by rw[<-succ_mul];exact mul_le_mul_right _ m
  rw[List.drop_take,List.take_take,min_eq_left (Nat.le_sub_of_add_le O')];exact this
end
