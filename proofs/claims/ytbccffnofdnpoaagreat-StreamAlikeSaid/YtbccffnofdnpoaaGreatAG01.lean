/- P. Its conditions: none. -/
import Derived.Test.YtbccffnofdnpoaaGreatAG00
import Derived.Maps.AppendAt
import Derived.Laws.StructEq
import Derived.Laws.Cover3
import Derived.Laws.Slices
import Derived.OrdersHeld
import Derived.ArgAppend
import Derived.Laws.CopyRow
import Derived.Laws.IdiomCopy
open Nat (le_refl le_trans lt_of_lt_of_le lt_or_ge eq_zero_or_pos succ_mul mul_le_mul_right min_eq_left le_total zero_add mul_one)
open Bool (and_eq_true)
open List (eq_nil_of_length_eq_zero ext_getElem? drop_take length_append length_take length_drop take_zero)
set_option linter.all false
namespace Go.V
open Go.RowKit
section
variable {P:Program}{ops:Array Oper}{n:Nat}{Q:Exit->Act->World->Prop}{l:FL}{a:Act}{w:World}{o:Oper}{rest:List Oper}
theorem Below.new (w:World)(b:Obj):Below w.heap.size w (w.alloc b):=(Below.refl _ w).alloc (le_refl _) b
def I06 {b off:Nat}{v v0:Value}{ad:Addr}(c:ad=⟨b,off,none⟩)(h1:v.oneCell'=true)(e:w.cell? ⟨b,off,none⟩=some v0)(d:w.frozen? ⟨b,off,none⟩=false):
  (store ad v).run P w=.ok () (w.setCell ⟨b,off,none⟩ v):=by
 cases v<;>simp_all[store,Sem.run,Value.oneCell']
def E0U {b off:Nat}{t:TypeId}{cs:List Value}{v:Value}(c:w.heap[b]?=some (.cells cs.toArray t (0,0))):
  (w.setCell ⟨b,off,none⟩ v).heap[b]?=some (.cells (cs.set off v).toArray t (0,0)):=by
 simp[World.setCell,Array.getElem?_modify,c]
def z08 {W0:E0}{w:World}:∀k,Wr W0 w k->Wr W0 w k:=fun _ h=>h
structure T6 (b:Nat)(w w1:World):Prop where
 os:w1.os=w.os
 tape:w1.tape=w.tape
 output:w1.output=w.output
 size:w.heap.size<=w1.heap.size
 block:∀k,k<w.heap.size->k≠b->w1.heap[k]?=w.heap[k]?
def T6.cell (w:World)(b off:Nat)(v:Value):T6 b w (w.setCell ⟨b,off,none⟩ v):=
 ⟨rfl,rfl,rfl,V',fun k _ hk=>Below.heap_setCell w _ v k hk⟩
def T6.cx {b:Nat}{w0 w1:World}{W0 S0 S:E0}(h:Cx w0 W0 S0 w S)(c:T6 b w w1)(d:Wr W0 w0 b):Cx w0 W0 S0 w1 S:=
 ⟨⟨c.os.trans h.bel.os,c.tape.trans h.bel.tape,c.output.trans h.bel.output,le_trans h.bel.size c.size,fun k hk hn=>(c.block k (by have:=h.bel.size;omega) (fun e=>by subst e;exact d.elim hn (fun f=>O'))).trans (h.bel.block k hk hn)⟩,h.sub,fun k hk=>lt_of_lt_of_le (h.lt k hk) c.size,h.lt0⟩
def T6.J1 {b:Nat}{w1:World}{S:E0}(c:T6 b w w1)(d:S b):Y0 w.heap S w1.heap S:=
 ⟨c.size,fun k hk hn=>⟨hn,c.block k hk (fun e=>hn (e▸d))⟩⟩
theorem Y5.news {α:Type}{T:Ty α}{S:E0}{A:Option Addr}:∀{xs:List α} {k:Nat},(∀(i:Nat) (x:α),xs[i]?=some x->∃b o cs,A=some ⟨b,o,none⟩/\T.R w.heap S cs x/\∀j v,cs[j]?=some v->D2 w.heap b (o+(k+i)*T.sz+j)=some v)->
  ∃news,V1 T w.heap S news xs/\∀b o,A=some ⟨b,o,none⟩->∀j u,news[j]?=some u->D2 w.heap b (o+k*T.sz+j)=some u
 |[],k,_=>⟨[],V1.nil,fun b o _ j u c=>by grind⟩
 |x :: xs,k,h=>by
  obtain⟨b,o,cs,f,d,m⟩:=h 0 x V';obtain⟨news,he,hn⟩:=Y5.news (xs:=xs) (k:=k+1) (fun i y q=>by
   obtain⟨b,o,cs,f,d,m⟩:=h (i+1) y (by simp_all);exact⟨b,o,cs,f,d,fun j v c=>by grind⟩)
  refine⟨cs++news,?_,fun b' g e j u c=>?_⟩
  ·have:=(V1.one d).append he
   simp_all
  ·rcases lt_or_ge j cs.length with hlt|hge
   ·grind
   ·rw[List.getElem?_append_right hge]at c;have p:=hn b' g e _ u c;rw[T.len d]at p hge
    grind
def z0F (base:Nat)(t ty e:TypeId)(i:TypeInfo)(size:Nat)(d:P.underlying t=some (.slice e))(hi:P.info? e=some i)
  (v:Value) (n:Nat) (xs:List Value) (b:w.ownsRow base e size v n xs) (A:Option Addr) (c:Nat):(Builtin.append_ #[t,t] ty #[v,.slice A 0 c]).run P w=.ok v w:=by
 rcases b.2 with⟨rfl,rfl⟩|⟨g,cap,cur,rfl,_,_,hnc,_⟩
 ·cases A<;>simp[Builtin.append_,run_underlying d,sizeOf,typeInfo,hi,Builtin.lenOf,Builtin.firstCells,loadCells,loadCellsFrom]
 ·cases A<;>simp[Builtin.append_,run_underlying d,sizeOf,typeInfo,hi,Builtin.lenOf,Builtin.firstCells,loadCells,loadCellsFrom,hnc,storeCells]
def J0 {α:Type}(bytes:Nat)(xs ys:List α):Bool:=decide ((xs.length+ys.length)*bytes<=140737488355328)
theorem F0x {α:Type}{T:Ty α}{S M:E0}(t ty e:TypeId)(bytes:Nat)(z:Value)(ht:P.underlying t=some (.slice e))(hE:(P.info? e).map (fun i=>(i.zero,i.size,i.bytes))=some (some z,T.sz,bytes))(m:(decide (z.cells.size=T.sz)&&decide (0<T.sz)&&decide (0<bytes))=true)
  {v:Value} {xs ys:List α} (C:Ow T e M w.heap S v xs) {A:Option Addr} {c:Nat} (hy:Y5 T w.heap S A ys) (p:J0 bytes xs ys=true):
  ∃f w1,(Builtin.append_ #[t,t] ty #[v,.slice A ys.length c]).run P w=.ok f w1/\w.grownBy w1 v.ownBlock/\(f.ownBlock=v.ownBlock\/f.ownBlock=some w.heap.size)/\
   ∀S1:E0,Y0 w.heap S w1.heap S1->∀r:E0,(∀k,f.ownBlock=some k->S1 k/\r k)->Ow T e r w1.heap S1 f (xs++ys):=by
 obtain⟨i,hi,J⟩:=Option.map_eq_some_iff.1 hE;simp only[Prod.mk.injEq]at J;obtain⟨hz,b2,a1⟩:=J;simp only[and_eq_true,decide_eq_true_eq]at m;obtain⟨hS,cs,d,s⟩:=C;simp only[J0,decide_eq_true_eq]at p;have R:xs.length+ys.length<=maxLen:=by
  have:xs.length+ys.length<=(xs.length+ys.length)*bytes:=Nat.le_mul_of_pos_right _ m.2
  grind [maxLen]
 obtain⟨news,g,U⟩:=Y5.news (w:=w) (xs:=ys) (k:=0) (A:=A) (T:=T) (S:=S) (fun i x hx=>by
  obtain⟨b,o,cs,h1,h2,h3⟩:=hy i x hx
  grind)
 have done:∀(f:Value) (w1:World),w1.ownsRow 0 e T.sz f (xs.length+ys.length) (cs++news)->∀S1:E0,Y0 w.heap S w1.heap S1->∀r:E0,(∀k,f.ownBlock=some k->S1 k/\r k)->Ow T e r w1.heap S1 f (xs++ys):=by
  intro f w1 h1 S1 k r b1;refine⟨b1,cs++news,?_,(s.J1 k).append (g.J1 k)⟩
  grind [Row.of]
 rcases A with _|ad
 ·have I:ys=[]:=by
   cases ys with
   |nil=>rfl
   |cons y ys=>obtain⟨b,o,cs,h,_⟩:=hy 0 y V';cases h
  subst I;have hn:news=[]:=eq_nil_of_length_eq_zero (by have:=g.1;simp_all);subst hn;exact⟨v,w,z0F 0 t ty e i T.sz ht hi v xs.length cs d.own none c,⟨rfl,rfl,rfl,le_refl _,fun _ _ _=>rfl⟩,.inl rfl,done v w (by simpa using d.own)⟩
 ·rcases eq_zero_or_pos ys.length with I|hpos
  ·have I:ys=[]:=eq_nil_of_length_eq_zero I;subst I;have hn:news=[]:=eq_nil_of_length_eq_zero (by have:=g.1;simp_all);subst hn;exact⟨v,w,z0F 0 t ty e i T.sz ht hi v xs.length cs d.own (some ad) c,⟨rfl,rfl,rfl,le_refl _,fun _ _ _=>rfl⟩,.inl rfl,done v w (by simpa using d.own)⟩
  ·obtain⟨b,o,_,hA,_⟩:=hy 0 ys[0] V';have hA:=Option.some.inj hA;subst hA;have q:∀j u,news[j]?=some u->w.cell? ((⟨b,o,none⟩:Addr).add j)=some u:=by
    intro j u hj;rw[a01]
    simp_all
   obtain⟨f,w',b3,h2,h3,_,h5⟩:=run_append_own_at (P:=P) w 0 t ty e i z T.sz bytes ht hi hz b2 a1 m.1.1 m.1.2 v xs.length cs d.own ⟨b,o,none⟩ ys.length c news g.1 q g.f0y R p (Nat.zero_le _)
   grind
def Ow.ext {α:Type}{T:Ty α}{e:TypeId}{M S:E0}{v:Value}{xs:List α}{w w1:World}(h:Ow T e M w.heap S v xs)(c:Below w.heap.size w w1):Ow T e M w1.heap S v xs:=
 h.J1 (Y0.ext S c) (fun _ h=>h) (fun b d=>c.block b (h.lt b d))
def Mb.ext {M S:E0}{b:Nat}{t:TypeId}{cs:List Value}{w w1:World}(h:Mb M w.heap S b t cs)(c:Below w.heap.size w w1):Mb M w1.heap S b t cs:=
 h.J1 (fun _ h=>h) (c.block b (getElem?_lt h.1))
def Ow.result {α:Type}{T:Ty α}{e:TypeId}{M:E0}{H:M0}{S S0:E0}{v:Value}{xs:List α}(h:Ow T e M H S v xs)(hs:∀b,S0 b->S b):Ow T e M H (inV v S0) v xs:=
 h.u0I (fun _ c=>c.elim (fun d=>(h.1 _ d).1) (hs _)) (fun _ c=>.inl c)
theorem Bx.new {w0 w w1:World}{W0 S0 S:E0}{b:Nat}{t:TypeId}{cs:List Value}(cx:Cx w0 W0 S0 w S)(hk:w1.heap[b]?=some (.cells cs.toArray t (0,0)))(he:w.heap.size=b):Bx w1.heap S b t cs:=
 ⟨hk,fun hs=>by have:=cx.lt b hs;omega⟩
def Dis (v u:Value):Prop:=∀k,v.ownBlock=some k->u.ownBlock≠some k
def bv (b:Nat):Value:=.slice (some ⟨b,0,none⟩) 0 0
def Dis.symm {v u:Value}(h:Dis v u):Dis u v:=fun k hk e=>h k e hk
def Dis.nil {v:Value}:Dis v (.slice none 0 0):=fun k _ e=>by cases e
theorem Dis.new {v u:Value}{m:Nat}(h:∀k,v.ownBlock=some k->k<m)(b:∀k,u.ownBlock=some k->m<=k):Dis v u:=fun k hk e=>by grind
theorem Dis.grow {v u b:Value}{m:Nat}(d:Dis v u)(h:∀k,v.ownBlock=some k->k<m)(c:∀k,b.ownBlock=some k->u.ownBlock=some k\/m<=k):Dis v b:=fun k hk e=>by
 rcases c k e with h2|h2
 ·exact d k hk h2
 grind
def Mb.lt {M:E0}{H:M0}{S:E0}{b:Nat}{t:TypeId}{cs:List Value}(h:Mb M H S b t cs):∀k,(bv b).ownBlock=some k->k<H.size:=fun k hk=>by cases hk;exact getElem?_lt h.1
def Ow.only {α:Type}{T:Ty α}{e:TypeId}{M S:E0}{b:Nat}{v:Value}{xs:List α}{w w1:World}(h:Ow T e M w.heap S v xs)(c:T6 b w w1)(d:S b)(hd:v.ownBlock≠some b):Ow T e M w1.heap S v xs:=
 h.J1 (c.J1 d) (fun _ h=>h) (fun k hk=>c.block k (h.lt k hk) (fun e=>hd (by simp_all)))
def Mb.only {M S:E0}{b c:Nat}{t:TypeId}{cs:List Value}{w w1:World}(h:Mb M w.heap S c t cs)(d:T6 b w w1)(hd:c≠b):Mb M w1.heap S c t cs:=
 h.J1 (fun _ h=>h) (d.block c (getElem?_lt h.1) hd)
def F4 (bytes:Nat)(n:Int):Bool:=decide (0<=n)&&decide (n*bytes<=140737488355328)
def l0Y {α:Type}{T:Ty α}{H:M0}{S:E0}{z:List Value}{x:α}(b:T.R H S z x):∀(k:Nat),V1 T H S (List.replicate k z).flatten (List.replicate k x)
 |0=>V1.nil
 |k+1=>by
  exact(V1.one b).append (l0Y b k)
theorem p07 (z:Array Value):∀(k:Nat),(madeCells z (k*z.size)).toList=(List.replicate k z.toList).flatten:=by
 intro k;apply ext_getElem?;intro i;rcases lt_or_ge i (k*z.size)with hi|hi
 ·have h1:((madeCells z (k*z.size)).toList)[i]?=some z[i % z.size]!:=by simp[madeCells,hi]
  have key:∀(k i:Nat),i<k*z.size->((List.replicate k z.toList).flatten)[i]?=some z[i % z.size]!:=by
   intro k
   induction k with
   |zero=>omega
   |succ k ih=>
    grind [Nat.mod_eq_of_lt,List.getElem?_append_right,Nat.mod_eq_sub_mod]
  simp_all
 simp_all[size_madeCells]
theorem O0S {α:Type}{T:Ty α}{w0:World}{W0 S0 S:E0}{t e:TypeId}{bytes:Nat}{z:Value}{zx:α}{x y:Operand}{k:IntKind}{m:Int}(ha:Ag n l a)(cx:Cx w0 W0 S0 w S)(U:(gate ops l o==some true&&fit n l o)=true)
  (ho:o.op=.makeSlice t x y) (hx:lk l x=.int k m) (hy:lk l y=.int k m)
  (ht:P.underlying t=some (.slice e)) (hE:(P.info? e).map (fun i=>(i.zero,i.size,i.bytes))=some (some z,T.sz,bytes)) (p:(decide (z.cells.size=T.sz)&&decide (0<T.sz)&&decide (0<bytes))=true)
  (hz:∀(H:M0) (S:E0),T.R H S z.cells.toList zx) (d:F4 bytes m=true)
  (h:∀w1 S1 u c1,Cx w0 W0 S0 w1 S1->Below w.heap.size w w1->Y0 w.heap S w1.heap S1->(∀b,S b->S1 b)->
   (∀k,(Value.slice u (List.replicate m.toNat zx).length c1).ownBlock=some k->w.heap.size<=k)->Ow T e (Wr C6 w0) w1.heap S1 (.slice u (List.replicate m.toNat zx).length c1) (List.replicate m.toNat zx)->
   ∀s,Ag n (E8 l o.dst (.slice u (List.replicate m.toNat zx).length c1)) s->wpList P ops Q rest s w1):wpList P ops Q (o :: rest) a w:=by
 obtain⟨i,hi,j⟩:=Option.map_eq_some_iff.1 hE;simp only[Prod.mk.injEq]at j;obtain⟨J,C,b1⟩:=j;simp only[and_eq_true,decide_eq_true_eq]at p;simp only[F4,and_eq_true,decide_eq_true_eq]at d;obtain⟨q,rfl⟩:=Int.eq_ofNat_of_zero_le d.1;have a1:q<=q*bytes:=Nat.le_mul_of_pos_right _ p.2;obtain⟨w1,g,f,hg⟩:=run_make_full (P:=P) w w.heap.size t e i z T.sz ht hi J C k k q (by grind) (by grind [maxLen]) (le_refl _);have r:Below w.heap.size w w1:=⟨hg.os,hg.tape,hg.output,hg.size,fun k hk=>hg.block k hk V'⟩
 have hblk:∀k,(Value.slice (some ⟨w.heap.size,0,none⟩) (List.replicate q zx).length q).ownBlock=some k->k=w.heap.size:=by
  simp[Value.ownBlock]
 refine d0b ha U (v:=.slice (some ⟨w.heap.size,0,none⟩) (List.replicate q zx).length q) (w':=w1) ?_ fun s I=>
  h w1 (inV (.slice (some ⟨w.heap.size,0,none⟩) (List.replicate q zx).length q) S) (some ⟨w.heap.size,0,none⟩) q ?_ r ⟨r.size,fun b c hn=>⟨fun hi=>?_,r.block b c⟩⟩ (fun b c=>.inr c) (fun k hk=>by grind) ⟨fun k hk=>⟨.inl hk,.inr (by rw[hblk k hk];exact cx.size)⟩,_,?_,l0Y (hz _ _) q⟩ s I
 ·simp[execOp,ho,hx,hy,g]
 ·refine⟨cx.bel.trans r,fun b c=>.inr (cx.sub b c),fun b c=>?_,cx.lt0⟩;rcases c with c|c
  ·have:=f.2
   grind
  ·exact lt_of_lt_of_le (cx.lt b c) r.size
 ·rcases hi with hi|hi
  ·grind
  grind
 grind [p07,Row.of]
theorem y0H (b o p:Nat):(⟨b,o,none⟩:Addr).add p=⟨b,o+p,none⟩:=by
 simp[Addr.add]
theorem B0S {cs:List Value}{p q sz:Nat}{v:Value}(h:p<q\/q+sz<=p):((cs.set p v).drop q).take sz=(cs.drop q).take sz:=by
 apply ext_getElem?
 grind
theorem J0L {cs:List Value}{q f sz:Nat}{v:Value}:((cs.set (q+f) v).drop q).take sz=((cs.drop q).take sz).set f v:=by
 apply ext_getElem?
 grind
def V1.set {α:Type}{T:Ty α}{H d:M0}{S g:E0}{cs:List Value}{xs:List α}(k:Y0 H S d g)(h:V1 T H S cs xs){i f:Nat}{x m:α}{v:Value}(r:f<T.sz)(p:xs[i]?=some x)
  (q:∀c,T.R H S c x->T.R d g (c.set f v) m):V1 T d g (cs.set (i*T.sz+f) v) (xs.set i m):=by
 refine⟨by simp[h.1],fun j y b=>?_⟩;rw[List.getElem?_set]at b
 by_cases e:i=j
 ·subst e;have hi:i<xs.length:=by
   simp_all
  simp only[if_true,if_pos hi,Option.some.injEq]at b;subst b;rw[J0L];exact q _ (h.2 i x p)
 ·rw[if_neg e]at b;rw[B0S]
  ·exact T.J1 k (h.2 j y b)
  ·rcases lt_or_ge i j with h1|h1
   ·have:i*T.sz+T.sz<=j*T.sz:=by rw[<-succ_mul];exact mul_le_mul_right _ h1
    omega
   ·have:j*T.sz+T.sz<=i*T.sz:=by rw[<-succ_mul];exact mul_le_mul_right _ O'
    omega
def t0P (n:Nat)(i:Int):Bool:=decide (0<=i)&&decide (i<n)
def l0M {α:Type}(l:List α):Bool:=!l.isEmpty
def U1 {α:Type}(xs:List α)(lo hi:Int):List α:=(xs.drop lo.toNat).take (hi-lo).toNat
def b5 {α:Type}(xs:List α)(lo hi:Int):Bool:=decide (0<=lo)&&decide (lo<=hi)&&decide (hi<=xs.length)
theorem f0f {α:Type}{xs:List α}{lo hi:Int}(h:b5 xs lo hi=true):(U1 xs lo hi).length=(hi-lo).toNat:=by
 simp only[b5,and_eq_true,decide_eq_true_eq]at h
 grind [U1]
theorem Y5.cut {α:Type}{T:Ty α}{H:M0}{S:E0}{A:Option Addr}{xs:List α}{lo hi:Int}{m:Nat}{e:Option Addr}(h:Y5 T H S A xs)(hk:b5 xs lo hi=true)
  (k:e=A.map (·.add (lo.toNat*T.sz))\/m=0/\(U1 xs lo hi)=[]):Y5 T H S e (U1 xs lo hi):=by
 intro i x d;have g:U1 xs lo hi≠[]:=by grind
 have c:i<(hi-lo).toNat:=by
  grind [U1]
 unfold U1 at d;rw[List.getElem?_take_of_lt c,List.getElem?_drop]at d;obtain⟨b,o,cs,f,p,j⟩:=h _ x d
 grind [y0H]
theorem Sl.cut {α:Type}{T:Ty α}{H:M0}{S:E0}{A e:Option Addr}{c c' m:Nat}{xs:List α}{lo hi:Int}(h:Sl T H S A c xs)(hk:b5 xs lo hi=true)(j:(hi-lo).toNat<=c')
  (g:e=A.map (·.add (lo.toNat*T.sz))\/m=0/\(U1 xs lo hi)=[]):Sl T H S e c' (U1 xs lo hi):=by
 refine⟨by simp_all[f0f],fun i=>?_,h.rdb.cut hk g⟩;have d:xs≠[]:=by grind [U1]
 obtain⟨b,o,f,k,hs⟩:=h.2.1 d
 simp_all[y0H]
theorem Ow.take {α:Type}{T:Ty α}{e:TypeId}{M:E0}{H:M0}{S:E0}{A:Option Addr}{c:Nat}{xs:List α}{hi:Int}(h:Ow T e M H S (.slice A xs.length c) xs)(g:0<=hi)(h1:hi<=xs.length):Ow T e M H S (.slice A (U1 xs 0 hi).length c) (U1 xs 0 hi):=by
 obtain⟨q,rfl⟩:=Int.eq_ofNat_of_zero_le g;have d:U1 xs 0 (q:Int)=xs.take q:=by rfl
 obtain⟨m,cs,⟨hl,p⟩,he⟩:=h;have hq:q<=xs.length:=O'
 have j:q*T.sz<=xs.length*T.sz:=mul_le_mul_right _ hq;refine⟨fun k hk=>m k (by cases A<;>exact hk),cs.take (q*T.sz),⟨by simp_all,?_⟩,⟨by simp_all,fun i x f=>?_⟩⟩
 ·grind
 ·rw[d]at f;have b:i<q:=by
   grind
  rw[List.getElem?_take_of_lt b]at f;have:=he.2 i x f;have hle:i*T.sz+T.sz<=q*T.sz:=by rw[<-succ_mul];exact mul_le_mul_right _ b
  grind [drop_take]
end
def NoP (Q:Exit->Act->World->Prop):Prop:=∀c a w,¬Q (.panic c) a w
section
variable {P:Program}{ops:Array Oper}{n:Nat}{Q:Exit->Act->World->Prop}{S:Array Bool->World->Prop}{l:FL}{a:Act}{w:World}{listed:Array Bool}{fuel:Nat}
def wpS (P:Program)(ops:Array Oper)(Q:Exit->Act->World->Prop)(S:Array Bool->World->Prop):Nat->Array Bool->Act->World->Prop
 |0,L,a,w=>Region.ready .any ops L=[]/\Q .normal a w
 |f+1,L,a,w=>(Region.ready .any ops L=[]->Q .normal a w)/\∀i∈Region.ready .any ops L,wpOp P ops Q i (fun b w'=>S (L.setIfInBounds i true) w'/\wpS P ops Q S f (L.setIfInBounds i true) b w') a w
def t0d:∀(f:Nat) (L:Array Bool) (a:Act) (w:World),wpS P ops Q S f L a w->wpAny P .any ops Q f L a w
 |0,_,_,_,h=>h
 |f+1,_,_,_,h=>⟨h.1,fun i hi=>wpOp_mono (fun b w' k=>t0d f _ b w' k.2) (h.2 i hi)⟩
def Cl (ops:Array Oper)(L:Array Bool):Prop:=L.size=ops.size/\∀j o,ops[j]?=some o->L.getD j false=true->∀e∈o.after,Region.binds .any e=true->L.getD e.on false=true
def clb (ops:Array Oper)(L:Array Bool):Bool:=(L.size==ops.size)&&(List.range ops.size).all fun j=>match ops[j]? with
 |some o=>!L.getD j false||o.after.all fun e=>!Region.binds .any e||L.getD e.on false
 |none=>true
theorem q0s {L:Array Bool}(h:clb ops L=true):Cl ops L:=by
 simp only[clb,and_eq_true,beq_iff_eq,List.all_eq_true]at h;refine⟨h.1,fun j o c f e he g=>?_⟩;have b:j<ops.size:=(Array.getElem?_eq_some_iff.1 c).1;have d:=h.2 j (List.mem_range.2 b);simp only[c,f,Bool.not_true,Bool.false_or,Array.all_eq_true_iff_forall_mem]at d
 grind
theorem Cl.set {L:Array Bool}{j:Nat}(h:Cl ops L)(f:j∈Region.ready .any ops L):Cl ops (L.setIfInBounds j true):=by
 refine⟨by simp[h.1],fun k o c hk e he g=>?_⟩;obtain⟨_,m,i,b⟩:=mem_ready.1 f
 by_cases d:j=k
 ·grind [getD_set_true]
 ·rw[getD_set_ne false d]at hk;exact getD_set_true (h.2 k o c hk e he g)
theorem q0z {i:Nat}{s:Oper}{v:Value}{Sx:World->Prop}(hi:ops[i]?=some s)(p:∀(j:Nat) (o:Oper) cs b,ops[j]?=some o->o.op≠.select cs b)
  (hQ:∀c a w,Q (.panic c) (a.put s.dst v) w->Q (.panic c) a w) (J:∀L w,Cl ops L->L.getD i true=false->S L w->Sx w) (b1:∀L w,S (L.setIfInBounds i true) w->L.getD i true=false->S L w)
  (y:∀L w,S L w->S (L.setIfInBounds i true) w):
  ∀(fuel:Nat) (L:Array Bool) (a:Act) (w:World),Cl ops L->(∀j r,ops[j]?=some r->j≠i->L.getD j true=false->(∀e∈r.after,Region.binds .any e=true->e.on≠i)->s.apart ops r=true)->
   i∈Region.ready .any ops L->YieldsIf P ops Sx s v a->S L w->wpS P ops Q S fuel (L.setIfInBounds i true) (a.put s.dst v) w->wpS P ops Q S (fuel+1) L a w:=by
 intro fuel
 induction fuel with
 |zero=>
  intro L a w g _ hr U I H;refine⟨fun h=>(by simp_all),fun j C=>?_⟩
  by_cases e:j=i
  ·subst e;exact U.wpOp hi (J L w g (mem_ready.1 hr).1 I) ⟨y L w I,H⟩
  ·have:=ready_mono C e;rw[H.1]at this
   grind
 |succ fuel ih=>
  intro L a w g f hr U I H;have d:=(mem_ready.1 hr).1;refine⟨fun h=>(by simp_all),fun j C=>?_⟩
  by_cases e:j=i
  ·subst e;exact U.wpOp hi (J L w g d I) ⟨y L w I,H⟩
  ·have h1:=H.2 j (ready_mono C e);obtain⟨q,r,t,z⟩:=mem_ready.1 C;have R:∀e∈r.after,Region.binds .any e=true->e.on≠i:=fun e he hb heq=>by
    have h1:=z e he hb;rw[heq]at h1;rcases lt_or_ge i L.size with h'|h'
    ·simp[h']at d h1;rw[d]at h1;cases h1
    ·simp[Array.getElem?_eq_none h']at h1
   have h2:=wpOp_putIf t (f j r t e q R) (fun cs b=>p i s cs b hi) (fun cs b=>p j r cs b t) hQ U h1;have m:∀k ok,ops[k]?=some ok->k≠i->(L.setIfInBounds j true).getD k true=false->(∀e∈ok.after,Region.binds .any e=true->e.on≠i)->s.apart ops ok=true:=fun k ok hk b2 d a1=>by
    refine f k ok hk b2 ?_ a1
    by_cases u:j=k
    ·subst u;exact q
    ·rw[getD_set_ne true u]at d;exact d
   refine wpOp_mono (fun a' w' h3=>?_) h2;have h4:=h3.2.1;rw[Array.setIfInBounds_comm _ _ (Ne.symm e)]at h4;have x:=b1 _ w' h4 (by rw[getD_set_ne true e];exact d);refine⟨x,ih (L.setIfInBounds j true) a' w' (g.set C) m (ready_mono hr (Ne.symm e)) h3.1 x ?_⟩;rw[Array.setIfInBounds_comm _ _ e];exact h3.2.2
def marks (ops:Array Oper)(s:List Nat):List Nat->List Nat
 |[]=>s
 |j :: js=>marks ops (if s.contains j then(match ops[j]? with|some o=>(o.after.toList.filter (Region.binds .any)).map (·.on)++s|none=>s)else s) js
def f0z (ops:Array Oper)(m i:Nat):Bool:=decide (ops.size<=m)||(marks ops [m] (List.range ops.size).reverse).contains i
theorem v0p {L:Array Bool}(b:Cl ops L){m:Nat}:∀(js s:List Nat),(∀k∈s,L.getD k false=false->L.getD m false=false)->∀k∈marks ops s js,L.getD k false=false->L.getD m false=false
 |[],s,h=>h
 |j :: js,s,h=>by
  unfold marks;refine v0p b js _ ?_;split
  ·have i:j∈s:=by simp_all
   cases f:ops[j]? with
   |none=>omega
   |some o=>
    intro k hk d;simp only[List.mem_append,List.mem_map,List.mem_filter]at hk;rcases hk with⟨e,⟨he,g⟩,rfl⟩|hk
    ·refine h j i ?_;cases c:L.getD j false with
     |false=>rfl
     |true=>have:=b.2 j o f c e (by simp_all) g;simp_all
    grind
  omega
theorem y0g {L:Array Bool}(b:Cl ops L){m i:Nat}(h:f0z ops m i=true)(hi:L.getD i true=false):L.getD m false=false:=by
 simp only[f0z,Bool.or_eq_true,decide_eq_true_eq]at h;rcases h with h|h
 ·rw[<-b.1]at h;simp[h]
 grind [v0p]
def Sk (T:E0)(w w':World):Prop:=∃b,Y0 w.heap T w'.heap b
def Sd (m:Nat)(T:E0)(w0:World)(L:Array Bool)(w:World):Prop:=Sk T w0 w/\(L.getD m false=false->∀k,k<w0.heap.size->w.heap[k]?=w0.heap[k]?)
def Q8 (w0 w:World):Prop:=∀k,k<w0.heap.size->w.heap[k]?=w0.heap[k]?
def Sd.start (m:Nat)(T:E0)(w0:World)(L:Array Bool):Sd m T w0 L w0:=⟨⟨T,Y0.refl _ _⟩,fun _ _ _=>rfl⟩
def Sd.before {m:Nat}{T b:E0}{w0:World}{L:Array Bool}(k:Y0 w0.heap T w.heap b)(h:Q8 w0 w):Sd m T w0 L w:=⟨⟨b,k⟩,fun _=>h⟩
def Sd.behind {m:Nat}{T b:E0}{w0:World}{L:Array Bool}(k:Y0 w0.heap T w.heap b)(h:L.getD m false=true):Sd m T w0 L w:=⟨⟨b,k⟩,fun e=>by simp_all⟩
def Q8.start (w:World):Q8 w w:=fun _ _=>rfl
def Q8.ext {w0 w w1:World}(h:Q8 w0 w)(hs:w0.heap.size<=w.heap.size)(b:Below w.heap.size w w1):Q8 w0 w1:=fun k hk=>(b.block k (lt_of_lt_of_le hk hs)).trans (h k hk)
def Q8.app {w0 w w1:World}{v:Value}(h:Q8 w0 w)(hs:w0.heap.size<=w.heap.size)(b:∀k,v.ownBlock=some k->w0.heap.size<=k)(hn:∀k,k<w.heap.size->v.ownBlock≠some k->w1.heap[k]?=w.heap[k]?):Q8 w0 w1:=
 fun k hk=>(hn k (lt_of_lt_of_le hk hs) (fun e=>Nat.lt_irrefl _ (lt_of_lt_of_le hk (b k e)))).trans (h k hk)
def Q8.cell {w w':World}{b o:Nat}{v:Value}(e:Q8 w w')(h:D2 w.heap b o=some v):D2 w'.heap b o=some v:=(f07 (e b (v0E h))).trans h
def Sk.cell {T:E0}{w w':World}{b o:Nat}{v:Value}(hn:¬T b)(e:Sk T w w')(h:D2 w.heap b o=some v):D2 w'.heap b o=some v:=by
 obtain⟨c,k⟩:=e;exact(f07 (k.blk b (v0E h) hn).2).trans h
def may (ops:Array Oper)(listed:Array Bool)(m i:Nat):Bool:=Region.noSelect ops&&Region.free .any ops listed i&&(Region.ready .any ops listed).contains i&&clb ops listed&&(i != m)
def r0V {m i:Nat}{T:E0}{w0:World}(hm:i≠m)(L:Array Bool)(w:World):Sd m T w0 (L.setIfInBounds i true) w↔Sd m T w0 L w:=by
 simp_all[Sd]
def K0A {id:Nat}{xs:List Oper}(m:Nat)(T:E0)(hm:P.follows .mixedOrders=true)
  (h:∀w1,w1.heap=w.heap->Below w.heap.size w w1->wpS P xs.toArray Q (Sd m T w1) xs.toArray.size (Array.replicate xs.toArray.size false) a w1):(Code.region id xs.toArray true).wp P Q a w:=
 wp_region_any hm (t0d _ _ _ _ (h _ rfl ⟨rfl,rfl,rfl,le_refl _,fun _ _=>rfl⟩))
theorem y09 {m i:Nat}{T:E0}{w0:World}{o:Oper}{v:Value}(ha:Ag n l a)(hq:NoP Q)(hi:ops[i]?=some o)(hm:may ops listed m i=true)(b:(gate ops l o==some true&&fit n l o)=true)
  (r:∀w',Sk T w0 w'->(f0z ops m i=true->Q8 w0 w')->(execOp (lk l) o).run P w'=.ok (.value v) w') (f:Sd m T w0 listed w)
  (h:Sd m T w0 (listed.setIfInBounds i true) w->∀e,Ag n (E8 l o.dst v) e->wpS P ops Q (Sd m T w0) fuel (listed.setIfInBounds i true) e w):wpS P ops Q (Sd m T w0) (fuel+1) listed a w:=by
 simp only[may,and_eq_true,bne_iff_ne,ne_eq]at hm;simp only[and_eq_true,beq_iff_eq]at b;obtain⟨⟨⟨⟨h1,k⟩,q⟩,g⟩,d⟩:=hm;refine q0z (Sx:=fun w'=>Sk T w0 w'/\(f0z ops m i=true->Q8 w0 w')) hi (Region.noSelect_spec h1) (fun c a w hp=>absurd hp (hq c _ w)) (fun L w' j hu hs=>⟨hs.1,fun hw=>hs.2 (y0g j hw hu)⟩)
  (fun L w' hs _=>(r0V d L w').1 hs) (fun L w' hs=>(r0V d L w').2 hs) fuel listed a w (q0s g) (Region.free_spec hi k) (by simp_all) (.inl ⟨i0K ha b.1,fun w' p=>?_⟩) f (h ((r0V d listed w).2 f) _ (ha.put _ _ (m0P b.2)))
 grind [m0S]
def z0f {i:Nat}{o:Oper}(hi:ops[i]?=some o)
  (h:wpList P ops (Exit.then (fun b w'=>S (listed.setIfInBounds i true) w'/\wpS P ops Q S fuel (listed.setIfInBounds i true) b w') Q) [o] a w):wpOp P ops Q i (fun b w'=>S (listed.setIfInBounds i true) w'/\wpS P ops Q S fuel (listed.setIfInBounds i true) b w') a w:=by
 unfold wpOp;simp only[hi];unfold wpList at h;split
 ·rename_i hw;rw[if_pos hw]at h;rcases h with h|⟨h1,a0,w0,h2⟩
  ·refine .inl ?_;generalize (execOp a.eval o).run P w=r at h ⊢;cases r with
   |ok x w'=>
    cases x<;>first|exact h|exact h.mono (fun e c he=>by cases e<;>first|exact he|(exact⟨a1,w1,h3⟩))
   |halt x w'=>cases x<;>exact h
  ·exact .inr ⟨h1,a0,w0,h2⟩
 ·rename_i hw;rw[if_neg hw]at h;exact h
def z0z {i:Nat}{o:Oper}(e:Region.ready .any ops listed=[i])(hi:ops[i]?=some o)
  (h:wpList P ops (Exit.then (fun b w'=>S (listed.setIfInBounds i true) w'/\wpS P ops Q S fuel (listed.setIfInBounds i true) b w') Q) [o] a w):wpS P ops Q S (fuel+1) listed a w:=by
 refine⟨fun c=>(by simp_all),fun j d=>?_⟩
 simp_all[z0f]
def x0T (b:Region.ready .any ops listed=[])(h:Q .normal a w):wpS P ops Q S fuel listed a w:=by
 cases fuel with
 |zero=>exact⟨b,h⟩
 |succ f=>exact⟨fun _=>h,by simp_all⟩
def u0r {K:Act->World->Prop}(h1:S listed w)(c:K a w):wpList P ops (Exit.then (fun b w'=>S listed w'/\K b w') Q) [] a w:=⟨h1,c⟩
theorem Sl.off {α:Type}{T:Ty α}{H:M0}{O:E0}{b o c:Nat}{xs:List α}{i:Int}(h:Sl T H O (some ⟨b,o,none⟩) c xs)(hi:C0 xs i=true):¬O b:=by
 have d:xs≠[]:=by have:=b0O hi;grind
 obtain⟨b',f,e,_,hn⟩:=h.2.1 d
 simp_all
def x0D {c:Code}(hq:NoP Q)(h:NoP Q->c.wp P Q a w):c.wp P Q a w:=h hq
def NoP.loop {σ τ:Type}{c:X0 σ τ}{K:Act->World->Prop}{D:τ->Exit->Act->World->Prop}(h:∀t c a w,¬D t (.panic c) a w):NoP (Exit.then K (fun e b w'=>∃t,c=.done t/\D t e b w')):=by
 rintro d a w ⟨t,_,hd⟩;simp_all
end
section
variable {P:Program}{ops:Array Oper}{n:Nat}{Q:Exit->Act->World->Prop}{l:FL}{a:Act}{w:World}{o:Oper}{rest:List Oper}
def q0x {α:Type}{T:Ty α}{H:M0}{S:E0}{t e:TypeId}{lo hi mx:Option Value}{A:Option Addr}{c:Nat}{xs:List α}{vlo vhi vmx:Int}
  (ht:P.underlying t=some (.slice e)) (C:(P.info? e).map (·.size)=some T.sz) (hs:Sl T H S A c xs)
  (b:(match lo with|none=>vlo=0|some y=>∃k,y=.int k vlo)) (f:(match hi with|none=>vhi=xs.length/\mx=none|some y=>∃k,y=.int k vhi)) (d:(match mx with|none=>vmx=c|some y=>∃k,y=.int k vmx))
  (hk:b5 xs vlo vhi=true) (hm:(mx=none\/(vhi<=vmx/\vmx<=xs.length))):
  ∃v,(∀w,(Instr.sliceAt t (.slice A xs.length c) lo hi mx).run P w=.ok (.slice v (U1 xs vlo vhi).length (vmx-vlo).toNat) w)/\Sl T H S v (vmx-vlo).toNat (U1 xs vlo vhi):=by
 have i:=hk;simp only[b5,and_eq_true,decide_eq_true_eq]at i;obtain⟨⟨r,h1⟩,h2⟩:=i;have u:=hs.1;obtain⟨inf,h,s⟩:=Option.map_eq_some_iff.1 C;have J:vhi<=vmx/\vmx<=c:=by
  cases mx with
  |none=>simp only at d;omega
  |some y=>
   rcases hm with hm|hm
   ·cases hm
   ·omega
 have hlen:=f0f hk;refine⟨if vmx.toNat=vlo.toNat then A else A.map (·.add (vlo.toNat*T.sz)),fun w=>?_,hs.cut (m:=(vmx-vlo).toNat) (c':=(vmx-vlo).toNat) hk O' ?_⟩
 ·have I:vhi.toNat-vlo.toNat=(vhi-vlo).toNat:=O'
  have U:vmx.toNat-vlo.toNat=(vmx-vlo).toNat:=O'
  rw[hlen];unfold Instr.sliceAt Instr.slice;simp only[Sem.run_bind,run_underlying ht,Result.andThen_ok];have g:(Instr.sliceBounds true xs.length c lo hi mx).run P w=.ok (vlo.toNat,vhi.toNat,vmx.toNat) w:=by
   unfold Instr.sliceBounds;cases mx with
   |none=>
    simp only at d;cases hi with
    |none=>
     simp only at f;cases lo with
     |none=>simp only at b;subst b;simp[f.1,d]
     |some y=>
      obtain⟨k,rfl⟩:=b;have:=run_sliceBound (P:=P) (w:=w) k vlo xs.length .sliceB r O';simp[f.1,d,this]
    |some z=>
     obtain⟨k2,rfl⟩:=f;have j:=run_sliceBound (P:=P) (w:=w) k2 vhi c .sliceAcap O' O';cases lo with
     |none=>simp only at b;subst b;simp[d,j]
     |some y=>
      obtain⟨k,rfl⟩:=b;have p:=run_sliceBound (P:=P) (w:=w) k vlo vhi.toNat .sliceB r O';simp[d,p,j]
   |some q=>
    obtain⟨k3,rfl⟩:=d;have x:=run_sliceBound (P:=P) (w:=w) k3 vmx c .slice3Acap O' O';cases hi with
    |none=>exact absurd f.2 V'
    |some z=>
     obtain⟨k2,rfl⟩:=f;have j:=run_sliceBound (P:=P) (w:=w) k2 vhi vmx.toNat .slice3B O' O';cases lo with
     |none=>simp only at b;subst b;simp[j,x]
     |some y=>
      obtain⟨k,rfl⟩:=b;have p:=run_sliceBound (P:=P) (w:=w) k vlo vhi.toNat .slice3C r O';simp[p,j,x]
  simp only[g,Result.andThen_ok,sizeOf,typeInfo,Sem.run_bind];simp[h,s,I,U]
 ·by_cases R:vmx.toNat=vlo.toNat
  ·right;refine⟨O',eq_nil_of_length_eq_zero (by rw[hlen];omega)⟩
  ·left;rw[if_neg R]
def z0l {t:TypeId}{x:Operand}{lo hi mx:Option Operand}{v:Value}(w:World)(b:o.op=.slice t x lo hi mx)
  (h:(Instr.sliceAt t (lk l x) (lo.map (lk l)) (hi.map (lk l)) (mx.map (lk l))).run P w=.ok v w):(execOp (lk l) o).run P w=.ok (.value v) w:=by
 simp[execOp,b,h]
def u0a {α:Type}{T:Ty α}{H:M0}{S M:E0}{t e:TypeId}{hi:Value}{A:Option Addr}{c:Nat}{xs:List α}{k:IntKind}{vhi:Int}(m:P.underlying t=some (.slice e))(j:(P.info? e).map (·.size)=some T.sz)
  (b:Ow T e M H S (.slice A xs.length c) xs) (hk:b5 xs 0 vhi=true) (h:hi=.int k vhi:=by rfl):
  (∀w,(Instr.sliceAt t (.slice A xs.length c) none (some hi) none).run P w=.ok (.slice A (U1 xs 0 vhi).length c) w)/\Ow T e M H S (.slice A (U1 xs 0 vhi).length c) (U1 xs 0 vhi):=by
 subst h;have f:=hk;simp only[b5,and_eq_true,decide_eq_true_eq]at f;obtain⟨⟨_,h1⟩,p⟩:=f;have i:=b.cap;have hlen:=f0f hk;obtain⟨inf,d,g⟩:=Option.map_eq_some_iff.1 j;refine⟨fun w=>?_,b.take h1 p⟩;have q:=run_sliceBound (P:=P) (w:=w) k vhi c .sliceAcap O' O';simp only[Instr.sliceAt,Instr.slice,Instr.sliceBounds,Sem.run_bind,run_underlying m,Result.andThen_ok];simp[q,sizeOf,typeInfo,d,g,hlen];cases A<;>simp[Addr.add]
def Pt {α:Type}(T:Ty α)(t:TypeId)(H:M0)(S:E0)(r:Option α)(v:Value):Prop:=
 match r with
 |none=>v=.pointer none
 |some x=>∃b cs,v=.pointer (some ⟨b,0,none⟩)/\Bx H S b t cs/\T.R H S cs x
def Pt.J1 {α:Type}{T:Ty α}{t:TypeId}{H d:M0}{S c:E0}{r:Option α}{v:Value}(k:Y0 H S d c)(h:Pt T t H S r v):Pt T t d c r v:=by
 cases r with
 |none=>exact h
 |some x=>obtain⟨b,cs,h1,f,e⟩:=h;exact⟨b,cs,h1,f.J1 k,T.J1 k e⟩
def Pt.get {α:Type}{T:Ty α}{t:TypeId}{H:M0}{S:E0}{r:Option α}{x:α}{v:Value}(h:Pt T t H S r v)(c:r=some x):∃b cs,v=.pointer (some ⟨b,0,none⟩)/\Bx H S b t cs/\T.R H S cs x:=by
 subst c;exact h
def Pt.none {α:Type}{T:Ty α}{t:TypeId}{H:M0}{S:E0}:Pt T t H S Option.none (.pointer Option.none):=rfl
def obl (vs:List Value):E0:=fun k=>∃v∈vs,v.ownBlock=some k
def inL (vs:List Value)(S:E0):E0:=fun k=>S k\/obl vs k
def all_cons {C:Nat->Prop}{v:Value}{vs:List Value}(h:∀k,v.ownBlock=some k->C k)(t:∀k,obl vs k->C k):∀k,obl (v :: vs) k->C k:=fun k ⟨u,hu,hk⟩=>by
 rcases List.mem_cons.1 hu with rfl|hu
 ·exact h k hk
 ·exact t k ⟨u,hu,hk⟩
def Mb.own {M:E0}{H:M0}{S:E0}{b:Nat}{t:TypeId}{cs:List Value}(h:Mb M H S b t cs):∀k,(bv b).ownBlock=some k->S k/\M k:=fun k hk=>by cases hk;exact h.2
def Mb.c04 {M c:E0}{H:M0}{S:E0}{b:Nat}{t:TypeId}{cs:List Value}(h:Mb M H S b t cs)(hm:∀k,(bv b).ownBlock=some k->c k):Mb c H S b t cs:=⟨h.1,h.2.1,hm b rfl⟩
def Ow.out {α:Type}{T:Ty α}{e:TypeId}{M:E0}{H:M0}{S S0:E0}{v:Value}{xs:List α}{vs:List Value}(h:Ow T e M H S v xs)(hs:∀k,inL vs S0 k->S k)(d:∀k,v.ownBlock=some k->obl vs k):Ow T e M H (inL vs S0) v xs:=
 h.u0I hs (fun b c=>.inr (d b c))
def Mb.out {M:E0}{H:M0}{S S0:E0}{b:Nat}{t:TypeId}{cs:List Value}{vs:List Value}(h:Mb M H S b t cs)(c:∀k,(bv b).ownBlock=some k->obl vs k):Mb M H (inL vs S0) b t cs:=⟨h.1,.inr (c b rfl),h.2.2⟩
def E9.refl (W0:E0)(w:World):E9 W0 w w:=⟨rfl,rfl,rfl,le_refl _,fun _ _ _=>rfl⟩
def back {w0 w w1:World}{W0 S0 S:E0}{us vs:List Value}(cx:Cx w0 W0 S0 w S)(hu:∀k,obl us k->S k/\Wr W0 w0 k)(d:E9 (obl us) w w1)(g:∀k,obl vs k->k<w1.heap.size/\Wr (obl us) w k):
  Cx w0 W0 S0 w1 (inL vs S)/\Y0 w.heap S w1.heap (inL vs S)/\(∀b,S b->inL vs S b)/\(∀k,k<w.heap.size->¬obl us k->w1.heap[k]?=w.heap[k]?):=by
 refine⟨⟨⟨d.os.trans cx.bel.os,d.tape.trans cx.bel.tape,d.output.trans cx.bel.output,le_trans cx.bel.size d.size,fun k hk c=>(d.block k (by have:=cx.size;omega) (fun e=>?_)).trans (cx.bel.block k hk c)⟩,fun b h=>.inl (cx.sub b h),fun b h=>h.elim (fun h=>lt_of_lt_of_le (cx.lt b h) d.size) (fun h=>(g b h).1),cx.lt0⟩,
  ⟨d.size,fun b h c=>⟨fun hi=>hi.elim c (fun i=>?_),d.block b h (fun e=>c (hu b e).1)⟩⟩,fun _ h=>.inl h,fun k hk f=>d.block k hk f⟩
 ·rcases(hu k e).2 with h|h
  ·exact c h
  ·omega
 ·rcases(g b i).2 with h3|h3
  ·exact c (hu b h3).1
  ·omega
def o5 {α:Type}(xs ys:List α):List α:=ys.take xs.length++xs.drop ys.length
def c0k {α:Type}(xs ys:List α):(o5 xs ys).length=xs.length:=by simp only[o5,length_append,length_take,length_drop];omega
def V1.cut {α:Type}{T:Ty α}{H:M0}{S:E0}{cs:List Value}{xs:List α}(h:V1 T H S cs xs)(k:Nat):V1 T H S (cs.take (k*T.sz)) (xs.take k):=by
 refine⟨by rw[length_take,length_take,h.1];exact(Nat.mul_min_mul_right k xs.length T.sz),fun i x b=>?_⟩;have hi:i<k:=by
  rcases lt_or_ge i k with h|h
  ·exact h
  ·rw[List.getElem?_take_eq_none O']at b;cases b
 rw[List.getElem?_take_of_lt hi]at b;have c:=h.2 i x b;have hle:i*T.sz+T.sz<=k*T.sz:=by rw[<-succ_mul];exact mul_le_mul_right _ hi
 rw[drop_take,List.take_take,min_eq_left O'];exact c
def V1.tail {α:Type}{T:Ty α}{H:M0}{S:E0}{cs:List Value}{xs:List α}(h:V1 T H S cs xs)(k:Nat):V1 T H S (cs.drop (k*T.sz)) (xs.drop k):=by
 refine⟨by rw[length_drop,length_drop,h.1,Nat.sub_mul],fun i x b=>?_⟩;rw[List.getElem?_drop]at b;have c:=h.2 _ x b;rw[List.drop_drop,<-Nat.add_mul];exact c
def M0x {α:Type}{T:Ty α}{w0:World}{W0 Wf S0 S:E0}{t e:TypeId}{x y:Operand}{A B:Option Addr}{c d:Nat}{xs ys:List α}(ha:Ag n l a)(cx:Cx w0 W0 S0 w S)(hf:(gate ops l o==some true&&fit n l o)=true)
  (ho:o.op=.call { callee:=.builtin .copy,args:=#[x,y],argTypes:=#[t,t] }) (hx:lk l x=.slice A xs.length c) (hy:lk l y=.slice B ys.length d) (ht:P.underlying t=some (.slice e)) (hE:(P.info? e).map (·.size)=some 1) (z:T.sz=1)
  (hW:∀k,Wr Wf w0 k->Wr W0 w0 k) (p:Ow T e (Wr Wf w0) w.heap S (.slice A xs.length c) xs) (b1:Y5 T w.heap S B ys)
  (h:∀w1,Cx w0 W0 S0 w1 S->(∀k,k<w.heap.size->(Value.slice A xs.length c).ownBlock≠some k->w1.heap[k]?=w.heap[k]?)->Y0 w.heap S w1.heap S->Ow T e (Wr Wf w0) w1.heap S (.slice A xs.length c) (o5 xs ys)->
   ∀a',Ag n (E8 l o.dst (.int .i64 (Nat.min ys.length xs.length:Nat))) a'->wpList P ops Q rest a' w1):wpList P ops Q (o :: rest) a w:=by
 have fin:∀(w1:World) (m:Nat),(Builtin.copy_ #[t,t] o.type #[.slice A xs.length c,.slice B ys.length d]).run P w=.ok (goInt m) w1->m=Nat.min ys.length xs.length->
   Cx w0 W0 S0 w1 S->(∀k,k<w.heap.size->(Value.slice A xs.length c).ownBlock≠some k->w1.heap[k]?=w.heap[k]?)->Y0 w.heap S w1.heap S->Ow T e (Wr Wf w0) w1.heap S (.slice A xs.length c) (o5 xs ys)->wpList P ops Q (o :: rest) a w:=by
  intro w1 m hr hm h1 I h3 h4;refine d0b ha hf (v:=.int .i64 (Nat.min ys.length xs.length:Nat)) (w':=w1) ?_ fun a' c3=>h w1 h1 I h3 h4 a' c3;subst hm;simp only[execOp,ho,resolve,invoke,builtin,Sem.run_bind,Sem.run_pure,Result.andThen_ok,List.map_toArray,List.map_cons,List.map_nil,hx,hy,hr];rfl
 by_cases C:Nat.min ys.length xs.length=0
 ·refine fin w 0 (run_copy_none w t t o.type e A B xs.length c ys.length d ht hE C) C.symm cx (fun _ _ _=>rfl) (Y0.refl _ _) ?_;have:o5 xs ys=xs:=by
   rcases eq_zero_or_pos xs.length with q|q
   ·have:=eq_nil_of_length_eq_zero q;subst this;simp[o5]
   ·have b3:ys.length=0:=by
     rcases le_total ys.length xs.length with hle|hle
     ·rwa [show Nat.min ys.length xs.length=ys.length from min_eq_left hle]at C
     ·rw[show Nat.min ys.length xs.length=xs.length from Nat.min_eq_right hle]at C;omega
    have:=eq_nil_of_length_eq_zero b3;subst this;simp[o5]
  rw[this];exact p
 ·have e1:0<xs.length:=by
   rcases eq_zero_or_pos xs.length with q|q
   ·exact absurd (by rw[q];exact Nat.min_zero _) C
   ·exact q
  have hyp:0<ys.length:=by
   rcases eq_zero_or_pos ys.length with q|q
   ·exact absurd (by rw[q];exact Nat.zero_min _) C
   ·exact q
  obtain⟨b,off,_,hB,_⟩:=b1 0 ys[0] (by simp[hyp]);subst hB;obtain⟨news,s,r⟩:=Y5.news (w:=w) (xs:=ys) (k:=0) (A:=some ⟨b,off,none⟩) (T:=T) (S:=S) (fun i x hx=>by
   obtain⟨b,o,cs,h1,I,h3⟩:=b1 i x hx;exact⟨b,o,cs,h1,I,fun j v hj=>by rw[zero_add];exact h3 j v hj⟩)
  have c6:=p.lt;obtain⟨U,cs,⟨a1,R⟩,J⟩:=p;rcases R with⟨hv,q⟩|⟨g,cap,cur,hv,hg,hnc,hm,hcs,htake⟩
  ·omega
  ·simp at hv;obtain⟨rfl,rfl⟩:=hv;rw[z,mul_one]at a1 hcs htake;have b4:news.length=ys.length:=by rw[s.1,z,mul_one]
   have f:(news.take xs.length).length=Nat.min ys.length xs.length:=by rw[length_take,b4];exact Nat.min_comm _ _
   have hr:=run_copy_row (P:=P) w t t o.type e g 0 xs.length c ⟨b,off,none⟩ ys.length d cur e (news.take xs.length) ht hE hg f (fun j v hj=>by
    rw[a01];have c4:news[j]?=some v:=by
     rcases lt_or_ge j xs.length with h|h
     ·rwa [List.getElem?_take_of_lt h]at hj
     ·rw[List.getElem?_take_eq_none h]at hj;cases hj
    have:=r b off rfl j v c4;simpa using this) (by rw[f,hcs,zero_add];exact le_trans (Nat.min_le_right _ _) hnc) (fun v hv=>s.f0y v (List.mem_of_mem_take hv))
   simp only[take_zero,List.nil_append,zero_add]at hr;have b2:=U g (by simp[Value.ownBlock]);have c8:=getElem?_lt hg;have u:T6 g w (w.setRow g (news.take xs.length++cur.toList.drop (news.take xs.length).length).toArray):=⟨rfl,rfl,rfl,by simp[World.setRow],fun k _ hk=>by simp[World.setRow,Array.getElem?_modify,Ne.symm hk]⟩
   have hk:=u.J1 b2.1;refine fin _ _ hr f (u.cx cx (hW _ b2.2)) (fun k hk c5=>u.block k hk (fun e=>c5 (by rw[e];simp[Value.ownBlock]))) hk ⟨U,news.take xs.length++cs.drop ys.length,⟨?_,.inr ⟨g,c,(news.take xs.length++cur.toList.drop (news.take xs.length).length).toArray,by rw[c0k],setRow_heap w g cur _ e _ hg,by rw[c0k];exact hnc,hm,?_,?_⟩⟩,?_⟩
   ·rw[c0k,z,mul_one,length_append,f,length_drop,a1];rcases le_total ys.length xs.length with hle|hle
    ·rw[show Nat.min ys.length xs.length=ys.length from min_eq_left hle];omega
    ·rw[show Nat.min ys.length xs.length=xs.length from Nat.min_eq_right hle];omega
   ·have h9:(news.take xs.length).length<=c:=by rw[f];exact le_trans (Nat.min_le_right _ _) hnc
    simp only[z,mul_one,List.size_toArray,length_append,length_drop,Array.length_toList,hcs];omega
   ·rw[c0k,z,mul_one];show List.take xs.length (news.take xs.length++cur.toList.drop (news.take xs.length).length)=_;rw[List.take_append,List.take_take,Nat.min_self,<-htake];congr 1;rw[drop_take];rcases le_total ys.length xs.length with hle|hle
    ·have:(news.take xs.length).length=ys.length:=by rw[f];exact min_eq_left hle
     rw[this]
    ·have:(news.take xs.length).length=xs.length:=by rw[f];exact Nat.min_eq_right hle
     rw[this,Nat.sub_self,take_zero,Nat.sub_eq_zero_of_le hle,take_zero]
   ·have h1:=(s.J1 hk).cut xs.length;have I:=(J.J1 hk).tail ys.length;rw[z,mul_one]at h1 I;exact h1.append I
end
