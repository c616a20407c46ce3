/- P. Its conditions: none. -/
import Derived.Test.YtmhooikfkhjijaaGreatYG00
import Derived.Maps.AppendAt
import Derived.Laws.StructEq
import Derived.Laws.Cover3
import Derived.Laws.Slices
import Derived.OrdersHeld
open Nat (le_refl lt_of_lt_of_le lt_or_ge succ_mul mul_le_mul_right min_eq_left)
open Bool (and_eq_true)
set_option linter.all false
namespace Go.V
open Go.RowKit
section
variable {P:Program}{ops:Array Oper}{n:Nat}{Q:Exit->Act->World->Prop}{l:FL}{a:Act}{w:World}{o:Oper}{rest:List Oper}
def Below.new (w:World)(b:Obj):Below w.heap.size w (w.alloc b):=(Below.refl _ w).alloc (le_refl _) b
def v0N {b off:Nat}{v v0:Value}{ad:Addr}(c:ad=⟨b,off,none⟩)(h1:v.oneCell'=true)(d:w.cell? ⟨b,off,none⟩=some v0)(e:w.frozen? ⟨b,off,none⟩=false):
  (store ad v).run P w=.ok () (w.setCell ⟨b,off,none⟩ v):=by
 subst c;cases v<;>simp_all[store,Sem.run,Value.oneCell']
def z0s {b off:Nat}{t:TypeId}{cs:List Value}{v:Value}(c:w.heap[b]?=some (.cells cs.toArray t (0,0))):
  (w.setCell ⟨b,off,none⟩ v).heap[b]?=some (.cells (cs.set off v).toArray t (0,0)):=by
 simp[World.setCell,Array.getElem?_modify,c]
def q0b {W0:D0}{w:World}:∀k,Wr W0 w k->Wr W0 w k:=fun _ h=>h
structure k7 (b:Nat)(w w1:World):Prop where
 os:w1.os=w.os
 tape:w1.tape=w.tape
 output:w1.output=w.output
 size:w.heap.size<=w1.heap.size
 block:∀k,k<w.heap.size->k≠b->w1.heap[k]?=w.heap[k]?
def k7.cell (w:World)(b off:Nat)(v:Value):k7 b w (w.setCell ⟨b,off,none⟩ v):=
 ⟨rfl,rfl,rfl,by simp[World.setCell],fun k _ hk=>Below.heap_setCell w _ v k hk⟩
def k7.cx {b:Nat}{w0 w1:World}{W0 S0 S:D0}(h:Cx w0 W0 S0 w S)(c:k7 b w w1)(d:Wr W0 w0 b):Cx w0 W0 S0 w1 S:=
 ⟨⟨c.os.trans h.bel.os,c.tape.trans h.bel.tape,c.output.trans h.bel.output,Nat.le_trans h.bel.size c.size,fun k hk hn=>(c.block k (by have:=h.bel.size;omega) (fun e=>by subst e;exact d.elim hn (fun f=>by omega))).trans (h.bel.block k hk hn)⟩,h.sub,fun k hk=>lt_of_lt_of_le (h.lt k hk) c.size,h.lt0⟩
def k7.L1 {b:Nat}{w1:World}{S:D0}(c:k7 b w w1)(d:S b):U0 w.heap S w1.heap S:=
 ⟨c.size,fun k hk hn=>⟨hn,c.block k hk (fun e=>hn (e▸d))⟩⟩
def V5.news {α:Type}{T:Ty α}{S:D0}{A:Option Addr}:∀{xs:List α} {k:Nat},(∀(i:Nat) (x:α),xs[i]?=some x->∃b o cs,A=some ⟨b,o,none⟩/\T.R w.heap S cs x/\∀j v,cs[j]?=some v->U2 w.heap b (o+(k+i)*T.sz+j)=some v)->
  ∃news,U1 T w.heap S news xs/\∀b o,A=some ⟨b,o,none⟩->∀j u,news[j]?=some u->U2 w.heap b (o+k*T.sz+j)=some u
 |[],k,_=>⟨[],U1.nil,fun b o _ j u c=>by simp at c⟩
 |x :: xs,k,h=>by
  obtain⟨b,o,cs,m,e,g⟩:=h 0 x (by simp);obtain⟨news,he,hn⟩:=V5.news (xs:=xs) (k:=k+1) (fun i y q=>by
   obtain⟨b,o,cs,m,e,g⟩:=h (i+1) y (by simpa using q);exact⟨b,o,cs,m,e,fun j v c=>by have:=g j v c;rwa [show k+1+i=k+(i+1)from by omega]⟩)
  refine⟨cs++news,?_,fun b' f d j u c=>?_⟩
  ·have:=(U1.one e).append he;simpa using this
  ·rcases lt_or_ge j cs.length with hlt|hge
   ·rw[List.getElem?_append_left hlt]at c;obtain⟨rfl,rfl⟩:b=b'/\o=f:=by rw[m]at d;simpa using d
    simpa using g j u c
   ·rw[List.getElem?_append_right hge]at c;have p:=hn b' f d _ u c;rw[T.len e]at p hge;rw[show f+k*T.sz+j=f+(k+1)*T.sz+(j-T.sz)from by rw[Nat.add_mul];omega];exact p
def r05 (base:Nat)(t ty e:TypeId)(i:TypeInfo)(size:Nat)(d:P.underlying t=some (.slice e))(hi:P.info? e=some i)
  (v:Value) (n:Nat) (xs:List Value) (b:w.ownsRow base e size v n xs) (A:Option Addr) (c:Nat):(Builtin.append_ #[t,t] ty #[v,.slice A 0 c]).run P w=.ok v w:=by
 rcases b.2 with⟨rfl,rfl⟩|⟨g,cap,cur,rfl,_,_,hnc,_⟩
 ·cases A<;>simp[Builtin.append_,run_underlying d,sizeOf,typeInfo,hi,Builtin.lenOf,Builtin.firstCells,loadCells,loadCellsFrom]
 ·cases A<;>simp[Builtin.append_,run_underlying d,sizeOf,typeInfo,hi,Builtin.lenOf,Builtin.firstCells,loadCells,loadCellsFrom,hnc,storeCells]
def I0 {α:Type}(bytes:Nat)(xs ys:List α):Bool:=decide ((xs.length+ys.length)*bytes<=140737488355328)
def z0i {α:Type}{T:Ty α}{S M:D0}(t ty e:TypeId)(bytes:Nat)(z:Value)(ht:P.underlying t=some (.slice e))(hE:(P.info? e).map (fun i=>(i.zero,i.size,i.bytes))=some (some z,T.sz,bytes))(m:(decide (z.cells.size=T.sz)&&decide (0<T.sz)&&decide (0<bytes))=true)
  {v:Value} {xs ys:List α} (a1:Ow T e M w.heap S v xs) {A:Option Addr} {c:Nat} (hy:V5 T w.heap S A ys) (q:I0 bytes xs ys=true):
  ∃f w1,(Builtin.append_ #[t,t] ty #[v,.slice A ys.length c]).run P w=.ok f w1/\w.grownBy w1 v.ownBlock/\(f.ownBlock=v.ownBlock\/f.ownBlock=some w.heap.size)/\
   ∀S1:D0,U0 w.heap S w1.heap S1->∀s:D0,(∀k,f.ownBlock=some k->S1 k/\s k)->Ow T e s w1.heap S1 f (xs++ys):=by
 obtain⟨i,hi,I⟩:=Option.map_eq_some_iff.1 hE;simp only[Prod.mk.injEq]at I;obtain⟨hz,b3,b1⟩:=I;simp only[and_eq_true,decide_eq_true_eq]at m;obtain⟨hS,cs,d,R⟩:=a1;simp only[I0,decide_eq_true_eq]at q;have J:xs.length+ys.length<=maxLen:=by
  have:xs.length+ys.length<=(xs.length+ys.length)*bytes:=Nat.le_mul_of_pos_right _ m.2;simp only[maxLen];omega
 obtain⟨news,g,p⟩:=V5.news (w:=w) (xs:=ys) (k:=0) (A:=A) (T:=T) (S:=S) (fun i x hx=>by
  obtain⟨b,o,cs,h1,h2,h3⟩:=hy i x hx;exact⟨b,o,cs,h1,h2,fun j v hj=>by rw[Nat.zero_add];exact h3 j v hj⟩)
 have done:∀(f:Value) (w1:World),w1.ownsRow 0 e T.sz f (xs.length+ys.length) (cs++news)->∀S1:D0,U0 w.heap S w1.heap S1->∀s:D0,(∀k,f.ownBlock=some k->S1 k/\s k)->Ow T e s w1.heap S1 f (xs++ys):=by
  intro f w1 h1 S1 k s b2;refine⟨b2,cs++news,?_,(R.L1 k).append (g.L1 k)⟩;have:=Row.of h1;simpa using this
 rcases A with _|ad
 ·have U:ys=[]:=by
   cases ys with
   |nil=>rfl
   |cons y ys=>obtain⟨b,o,cs,h,_⟩:=hy 0 y (by simp);cases h
  subst U;have hn:news=[]:=List.eq_nil_of_length_eq_zero (by have:=g.1;simpa using this);subst hn;exact⟨v,w,r05 0 t ty e i T.sz ht hi v xs.length cs d.own none c,⟨rfl,rfl,rfl,le_refl _,fun _ _ _=>rfl⟩,.inl rfl,done v w (by simpa using d.own)⟩
 ·rcases Nat.eq_zero_or_pos ys.length with U|hpos
  ·have U:ys=[]:=List.eq_nil_of_length_eq_zero U;subst U;have hn:news=[]:=List.eq_nil_of_length_eq_zero (by have:=g.1;simpa using this);subst hn;exact⟨v,w,r05 0 t ty e i T.sz ht hi v xs.length cs d.own (some ad) c,⟨rfl,rfl,rfl,le_refl _,fun _ _ _=>rfl⟩,.inl rfl,done v w (by simpa using d.own)⟩
  ·obtain⟨b,o,_,hA,_⟩:=hy 0 ys[0] (by simp[hpos]);have hA:=Option.some.inj hA;subst hA;have r:∀j u,news[j]?=some u->w.cell? ((⟨b,o,none⟩:Addr).add j)=some u:=by
    intro j u hj;rw[b0a];have:=p b o rfl j u hj;simpa using this
   obtain⟨f,w',C,h2,h3,_,h5⟩:=run_append_own_at (P:=P) w 0 t ty e i z T.sz bytes ht hi hz b3 b1 m.1.1 m.1.2 v xs.length cs d.own ⟨b,o,none⟩ ys.length c news g.1 r g.f01 J q (Nat.zero_le _);exact⟨f,w',C,h3,h5,done f w' h2⟩
def Ow.ext {α:Type}{T:Ty α}{e:TypeId}{M S:D0}{v:Value}{xs:List α}{w w1:World}(h:Ow T e M w.heap S v xs)(c:Below w.heap.size w w1):Ow T e M w1.heap S v xs:=
 h.L1 (U0.ext S c) (fun _ h=>h) (fun b d=>c.block b (h.lt b d))
def Mb.ext {M S:D0}{b:Nat}{t:TypeId}{cs:List Value}{w w1:World}(h:Mb M w.heap S b t cs)(c:Below w.heap.size w w1):Mb M w1.heap S b t cs:=
 h.L1 (fun _ h=>h) (c.block b (getElem?_lt h.1))
def Ow.result {α:Type}{T:Ty α}{e:TypeId}{M:D0}{H:K0}{S S0:D0}{v:Value}{xs:List α}(h:Ow T e M H S v xs)(d:∀b,S0 b->S b):Ow T e M H (inV v S0) v xs:=
 h.p0E (fun _ c=>c.elim (fun f=>(h.1 _ f).1) (d _)) (fun _ c=>.inl c)
def Bx.new {w0 w w1:World}{W0 S0 S:D0}{b:Nat}{t:TypeId}{cs:List Value}(cx:Cx w0 W0 S0 w S)(hk:w1.heap[b]?=some (.cells cs.toArray t (0,0)))(he:w.heap.size=b):Bx w1.heap S b t cs:=
 ⟨hk,fun c=>by have:=cx.lt b c;omega⟩
def Dis (v u:Value):Prop:=∀k,v.ownBlock=some k->u.ownBlock≠some k
def bv (b:Nat):Value:=.slice (some ⟨b,0,none⟩) 0 0
def Dis.symm {v u:Value}(h:Dis v u):Dis u v:=fun k hk e=>h k e hk
def Dis.nil {v:Value}:Dis v (.slice none 0 0):=fun k _ e=>by cases e
def Dis.new {v u:Value}{m:Nat}(h:∀k,v.ownBlock=some k->k<m)(b:∀k,u.ownBlock=some k->m<=k):Dis v u:=fun k hk e=>by have:=h k hk;have:=b k e;omega
def Dis.grow {v u b:Value}{m:Nat}(d:Dis v u)(h:∀k,v.ownBlock=some k->k<m)(c:∀k,b.ownBlock=some k->u.ownBlock=some k\/m<=k):Dis v b:=fun k hk e=>by
 rcases c k e with h2|h2
 ·exact d k hk h2
 ·have:=h k hk;omega
def Mb.lt {M:D0}{H:K0}{S:D0}{b:Nat}{t:TypeId}{cs:List Value}(h:Mb M H S b t cs):∀k,(bv b).ownBlock=some k->k<H.size:=fun k hk=>by cases hk;exact getElem?_lt h.1
def Ow.only {α:Type}{T:Ty α}{e:TypeId}{M S:D0}{b:Nat}{v:Value}{xs:List α}{w w1:World}(h:Ow T e M w.heap S v xs)(c:k7 b w w1)(d:S b)(hd:v.ownBlock≠some b):Ow T e M w1.heap S v xs:=
 h.L1 (c.L1 d) (fun _ h=>h) (fun k hk=>c.block k (h.lt k hk) (fun e=>hd (by rw[<-e];exact hk)))
def Mb.only {M S:D0}{b c:Nat}{t:TypeId}{cs:List Value}{w w1:World}(h:Mb M w.heap S c t cs)(d:k7 b w w1)(hd:c≠b):Mb M w1.heap S c t cs:=
 h.L1 (fun _ h=>h) (d.block c (getElem?_lt h.1) hd)
def V2 (bytes:Nat)(n:Int):Bool:=decide (0<=n)&&decide (n*bytes<=140737488355328)
def i05 {α:Type}{T:Ty α}{H:K0}{S:D0}{z:List Value}{x:α}(b:T.R H S z x):∀(k:Nat),U1 T H S (List.replicate k z).flatten (List.replicate k x)
 |0=>U1.nil
 |k+1=>by
  rw[List.replicate_succ,List.replicate_succ,List.flatten_cons];exact(U1.one b).append (i05 b k)
def n0j (z:Array Value):∀(k:Nat),(madeCells z (k*z.size)).toList=(List.replicate k z.toList).flatten:=by
 intro k;apply List.ext_getElem?;intro i;have hl:((List.replicate k z.toList).flatten).length=k*z.size:=by simp
 rcases lt_or_ge i (k*z.size)with hi|hi
 ·have h1:((madeCells z (k*z.size)).toList)[i]?=some z[i % z.size]!:=by simp[madeCells,hi]
  rw[h1];have key:∀(k i:Nat),i<k*z.size->((List.replicate k z.toList).flatten)[i]?=some z[i % z.size]!:=by
   intro k
   induction k with
   |zero=>intro i h;omega
   |succ k ih=>
    intro i h;rw[List.replicate_succ,List.flatten_cons];rcases lt_or_ge i z.size with h2|h2
    ·rw[List.getElem?_append_left (by simpa using h2),Nat.mod_eq_of_lt h2];simp[h2]
    ·rw[List.getElem?_append_right (by simpa using h2),Array.length_toList,ih (i-z.size) (by rw[succ_mul]at h;omega)];rw[Nat.mod_eq_sub_mod h2]
  exact(key k i hi).symm
 ·rw[List.getElem?_eq_none (by simp[size_madeCells];exact hi),List.getElem?_eq_none (by rw[hl];exact hi)]
def D0D {α:Type}{T:Ty α}{w0:World}{W0 S0 S:D0}{t e:TypeId}{bytes:Nat}{z:Value}{zx:α}{x y:Operand}{k:IntKind}{m:Int}(ha:Ag n l a)(cx:Cx w0 W0 S0 w S)(hf:(gate ops l o==some true&&fit n l o)=true)
  (ho:o.op=.makeSlice t x y) (hx:lk l x=.int k m) (hy:lk l y=.int k m)
  (ht:P.underlying t=some (.slice e)) (hE:(P.info? e).map (fun i=>(i.zero,i.size,i.bytes))=some (some z,T.sz,bytes)) (p:(decide (z.cells.size=T.sz)&&decide (0<T.sz)&&decide (0<bytes))=true)
  (hz:∀(H:K0) (S:D0),T.R H S z.cells.toList zx) (d:V2 bytes m=true)
  (h:∀w1 S1 A1 c1,Cx w0 W0 S0 w1 S1->Below w.heap.size w w1->U0 w.heap S w1.heap S1->(∀b,S b->S1 b)->
   (∀k,(Value.slice A1 (List.replicate m.toNat zx).length c1).ownBlock=some k->w.heap.size<=k)->Ow T e (Wr Q5 w0) w1.heap S1 (.slice A1 (List.replicate m.toNat zx).length c1) (List.replicate m.toNat zx)->
   ∀I,Ag n (A8 l o.dst (.slice A1 (List.replicate m.toNat zx).length c1)) I->wpList P ops Q rest I w1):wpList P ops Q (o :: rest) a w:=by
 obtain⟨i,hi,u⟩:=Option.map_eq_some_iff.1 hE;simp only[Prod.mk.injEq]at u;obtain⟨U,b1,J⟩:=u;simp only[and_eq_true,decide_eq_true_eq]at p;simp only[V2,and_eq_true,decide_eq_true_eq]at d;obtain⟨q,rfl⟩:=Int.eq_ofNat_of_zero_le d.1;have hq:q*bytes<=140737488355328:=by
  have h1:=d.2;have h2:((q*bytes:Nat):Int)<=140737488355328:=by rw[Int.natCast_mul];exact h1
  omega
 have b2:q<=q*bytes:=Nat.le_mul_of_pos_right _ p.2;obtain⟨w1,s,c,hg⟩:=run_make_full (P:=P) w w.heap.size t e i z T.sz ht hi U b1 k k q (by rw[J,Nat.mul_comm];omega) (by simp only[maxLen];omega) (le_refl _);have C:Below w.heap.size w w1:=⟨hg.os,hg.tape,hg.output,hg.size,fun k hk=>hg.block k hk (by simp)⟩
 simp only[Int.toNat_natCast]at h ⊢;have hblk:∀k,(Value.slice (some ⟨w.heap.size,0,none⟩) (List.replicate q zx).length q).ownBlock=some k->k=w.heap.size:=by
  intro k hk;simp[Value.ownBlock]at hk;exact hk.symm
 refine c0A ha hf (v:=.slice (some ⟨w.heap.size,0,none⟩) (List.replicate q zx).length q) (w':=w1) ?_ fun I a1=>
  h w1 (inV (.slice (some ⟨w.heap.size,0,none⟩) (List.replicate q zx).length q) S) (some ⟨w.heap.size,0,none⟩) q ?_ C ⟨C.size,fun b f hn=>⟨fun hi=>?_,C.block b f⟩⟩ (fun b f=>.inr f) (fun k hk=>by rw[hblk k hk];exact le_refl _) ⟨fun k hk=>⟨.inl hk,.inr (by rw[hblk k hk];exact cx.size)⟩,_,?_,i05 (hz _ _) q⟩ I a1
 ·simp[execOp,ho,hx,hy,s]
 ·refine⟨cx.bel.trans C,fun b f=>.inr (cx.sub b f),fun b f=>?_,cx.lt0⟩;rcases f with f|f
  ·rw[hblk b f];have:=c.2;rcases this with⟨j,_⟩|⟨g,cap,cur,j,_,hgg,_⟩
   ·cases j
   ·simp at j;obtain⟨rfl,_⟩:=j;exact getElem?_lt hgg
  ·exact lt_of_lt_of_le (cx.lt b f) C.size
 ·rcases hi with hi|hi
  ·have:=hblk b hi;omega
  ·exact hn hi
 ·have hm:=n0j z.cells q;rw[p.1.1]at hm;rw[hm]at c;have h2:=Row.of c;obtain⟨h3,h4⟩:=h2;refine⟨by simpa using h3,?_⟩;rcases h4 with⟨j,_⟩|⟨g,cap,cur,j,r⟩
  ·cases j
  ·exact .inr ⟨g,cap,cur,by simpa using j,by simpa using r⟩
def r0L (b o p:Nat):(⟨b,o,none⟩:Addr).add p=⟨b,o+p,none⟩:=by
 unfold Addr.add
 by_cases hn:p=0<;>simp[hn]
def E0x {cs:List Value}{p q sz:Nat}{v:Value}(h:p<q\/q+sz<=p):((cs.set p v).drop q).take sz=(cs.drop q).take sz:=by
 apply List.ext_getElem?;intro j;rcases lt_or_ge j sz with hj|hj
 ·rw[List.getElem?_take_of_lt hj,List.getElem?_take_of_lt hj,List.getElem?_drop,List.getElem?_drop,List.getElem?_set_ne (by omega)]
 ·rw[List.getElem?_eq_none (by simp;omega),List.getElem?_eq_none (by simp;omega)]
def A0P {cs:List Value}{q f sz:Nat}{v:Value}:((cs.set (q+f) v).drop q).take sz=((cs.drop q).take sz).set f v:=by
 apply List.ext_getElem?;intro j;rcases lt_or_ge j sz with hj|hj
 ·rw[List.getElem?_take_of_lt hj,List.getElem?_drop,List.getElem?_set,List.getElem?_set];rw[List.getElem?_take_of_lt hj,List.getElem?_drop]
  by_cases e:f=j
  ·subst e;simp only[if_true,List.length_take,List.length_drop]
   by_cases h1:q+f<cs.length
   ·rw[if_pos h1,if_pos (by omega)]
   ·rw[if_neg h1,if_neg (by omega)]
  ·rw[if_neg (by omega),if_neg e]
 ·rw[List.getElem?_eq_none (by simp;omega),List.getElem?_eq_none (by simp;omega)]
def U1.set {α:Type}{T:Ty α}{H d:K0}{S g:D0}{cs:List Value}{xs:List α}(k:U0 H S d g)(h:U1 T H S cs xs){i f:Nat}{x x':α}{v:Value}(q:f<T.sz)(m:xs[i]?=some x)
  (p:∀c,T.R H S c x->T.R d g (c.set f v) x'):U1 T d g (cs.set (i*T.sz+f) v) (xs.set i x'):=by
 refine⟨by simp[h.1],fun j y b=>?_⟩;rw[List.getElem?_set]at b
 by_cases e:i=j
 ·subst e;have hi:i<xs.length:=by
   rcases lt_or_ge i xs.length with h|h
   ·exact h
   ·rw[List.getElem?_eq_none h]at m;cases m
  simp only[if_true,if_pos hi,Option.some.injEq]at b;subst b;rw[A0P];exact p _ (h.2 i x m)
 ·rw[if_neg e]at b;rw[E0x]
  ·exact T.L1 k (h.2 j y b)
  ·rcases lt_or_ge i j with h1|h1
   ·left;have:i*T.sz+T.sz<=j*T.sz:=by rw[<-succ_mul];exact mul_le_mul_right _ h1
    omega
   ·right;have:j*T.sz+T.sz<=i*T.sz:=by rw[<-succ_mul];exact mul_le_mul_right _ (by omega)
    omega
def s0w (n:Nat)(i:Int):Bool:=decide (0<=i)&&decide (i<n)
def h0r {α:Type}(l:List α):Bool:=!l.isEmpty
def I1 {α:Type}(xs:List α)(lo hi:Int):List α:=(xs.drop lo.toNat).take (hi-lo).toNat
def I4 {α:Type}(xs:List α)(lo hi:Int):Bool:=decide (0<=lo)&&decide (lo<=hi)&&decide (hi<=xs.length)
def c04 {α:Type}{xs:List α}{lo hi:Int}(h:I4 xs lo hi=true):(I1 xs lo hi).length=(hi-lo).toNat:=by
 simp only[I4,and_eq_true,decide_eq_true_eq]at h;simp only[I1,List.length_take,List.length_drop];omega
def V5.cut {α:Type}{T:Ty α}{H:K0}{S:D0}{A:Option Addr}{xs:List α}{lo hi:Int}{m:Nat}{A':Option Addr}(h:V5 T H S A xs)(hk:I4 xs lo hi=true)
  (d:A'=A.map (·.add (lo.toNat*T.sz))\/m=0/\(I1 xs lo hi)=[]):V5 T H S A' (I1 xs lo hi):=by
 intro i x c;have f:I1 xs lo hi≠[]:=by rintro e;rw[e]at c;simp at c
 have k:i<(hi-lo).toNat:=by
  rw[<-c04 hk];rcases lt_or_ge i (I1 xs lo hi).length with h|h
  ·exact h
  ·rw[List.getElem?_eq_none h]at c;cases c
 unfold I1 at c;rw[List.getElem?_take_of_lt k,List.getElem?_drop]at c;obtain⟨b,o,cs,g,q,p⟩:=h _ x c;rcases d with d|⟨_,he⟩
 ·refine⟨b,o+lo.toNat*T.sz,cs,by rw[d,g];simp[r0L],q,fun j v r=>?_⟩;have:=p j v r
  rwa [show o+lo.toNat*T.sz+i*T.sz+j=o+(lo.toNat+i)*T.sz+j from by rw[Nat.add_mul];omega]
 ·exact absurd he f
def Sl.cut {α:Type}{T:Ty α}{H:K0}{S:D0}{A A':Option Addr}{c c' m:Nat}{xs:List α}{lo hi:Int}(h:Sl T H S A c xs)(hk:I4 xs lo hi=true)(i:(hi-lo).toNat<=c')
  (d:A'=A.map (·.add (lo.toNat*T.sz))\/m=0/\(I1 xs lo hi)=[]):Sl T H S A' c' (I1 xs lo hi):=by
 refine⟨by rw[c04 hk];exact i,fun g=>?_,h.rdb.cut hk d⟩;have e:xs≠[]:=by rintro rfl;simp[I1]at g
 obtain⟨b,o,f,k,j⟩:=h.2.1 e;rcases d with d|⟨_,he⟩
 ·exact⟨b,o+lo.toNat*T.sz,by rw[d,f];simp[r0L],k,j⟩
 ·exact absurd he g
def Ow.take {α:Type}{T:Ty α}{e:TypeId}{M:D0}{H:K0}{S:D0}{A:Option Addr}{c:Nat}{xs:List α}{hi:Int}(h:Ow T e M H S (.slice A xs.length c) xs)(t:0<=hi)(h1:hi<=xs.length):Ow T e M H S (.slice A (I1 xs 0 hi).length c) (I1 xs 0 hi):=by
 have hlen:(I1 xs 0 hi).length=hi.toNat:=by rw[c04 (by simp[I4];omega)];congr 1;omega
 obtain⟨q,rfl⟩:=Int.eq_ofNat_of_zero_le t;have b:I1 xs 0 (q:Int)=xs.take q:=by simp[I1]
 obtain⟨r,cs,⟨hl,s⟩,he⟩:=h;have p:q<=xs.length:=by omega
 have j:q*T.sz<=xs.length*T.sz:=mul_le_mul_right _ p;refine⟨fun k hk=>r k (by cases A<;>exact hk),cs.take (q*T.sz),⟨by rw[hlen];simp only[List.length_take,Int.toNat_natCast,hl];exact min_eq_left j,?_⟩,⟨by rw[b,List.length_take,List.length_take,he.1,min_eq_left p,min_eq_left j],fun i x m=>?_⟩⟩
 ·rcases s with⟨d,hn⟩|⟨g,cap,cur,d,hg,hnc,hm,hcs,ht⟩
  ·simp at d;left;refine⟨?_,by rw[hlen];omega⟩;have:(I1 xs 0 (q:Int)).length=0:=by rw[hlen];omega
   rw[this,d.1,d.2.2]
  ·simp at d;obtain⟨rfl,rfl⟩:=d;right;refine⟨g,c,cur,rfl,hg,by rw[hlen];omega,hm,hcs,?_⟩;rw[hlen,<-ht,List.take_take];simp only[Int.toNat_natCast];rw[min_eq_left (mul_le_mul_right _ (by omega))]
 ·rw[b]at m;have f:i<q:=by
   rcases lt_or_ge i q with h|h
   ·exact h
   ·rw[List.getElem?_eq_none (by simp;omega)]at m;cases m
  rw[List.getElem?_take_of_lt f]at m;have:=he.2 i x m;have hle:i*T.sz+T.sz<=q*T.sz:=by rw[<-succ_mul];exact mul_le_mul_right _ f
  rw[List.drop_take,List.take_take,min_eq_left (Nat.le_sub_of_add_le (by omega))];exact this
end
def NoP (Q:Exit->Act->World->Prop):Prop:=∀c a w,¬Q (.panic c) a w
section
variable {P:Program}{ops:Array Oper}{n:Nat}{Q:Exit->Act->World->Prop}{S:Array Bool->World->Prop}{l:FL}{a:Act}{w:World}{listed:Array Bool}{fuel:Nat}
def wpS (P:Program)(ops:Array Oper)(Q:Exit->Act->World->Prop)(S:Array Bool->World->Prop):Nat->Array Bool->Act->World->Prop
 |0,L,a,w=>Region.ready .any ops L=[]/\Q .normal a w
 |f+1,L,a,w=>(Region.ready .any ops L=[]->Q .normal a w)/\∀i∈Region.ready .any ops L,wpOp P ops Q i (fun b w'=>S (L.setIfInBounds i true) w'/\wpS P ops Q S f (L.setIfInBounds i true) b w') a w
def k05:∀(f:Nat) (L:Array Bool) (a:Act) (w:World),wpS P ops Q S f L a w->wpAny P .any ops Q f L a w
 |0,_,_,_,h=>h
 |f+1,_,_,_,h=>⟨h.1,fun i hi=>wpOp_mono (fun b w' k=>k05 f _ b w' k.2) (h.2 i hi)⟩
def Cl (ops:Array Oper)(L:Array Bool):Prop:=L.size=ops.size/\∀j o,ops[j]?=some o->L.getD j false=true->∀e∈o.after,Region.binds .any e=true->L.getD e.on false=true
def clb (ops:Array Oper)(L:Array Bool):Bool:=(L.size==ops.size)&&(List.range ops.size).all fun j=>match ops[j]? with
 |some o=>!L.getD j false||o.after.all fun e=>!Region.binds .any e||L.getD e.on false
 |none=>true
def n0I {L:Array Bool}(h:clb ops L=true):Cl ops L:=by
 simp only[clb,and_eq_true,beq_iff_eq,List.all_eq_true]at h;refine⟨h.1,fun j o c g e he i=>?_⟩;have b:j<ops.size:=(Array.getElem?_eq_some_iff.1 c).1;have d:=h.2 j (List.mem_range.2 b);simp only[c,g,Bool.not_true,Bool.false_or,Array.all_eq_true_iff_forall_mem]at d;have f:=d e he;simpa[i]using f
def Cl.set {L:Array Bool}{j:Nat}(h:Cl ops L)(i:j∈Region.ready .any ops L):Cl ops (L.setIfInBounds j true):=by
 refine⟨by simp[h.1],fun k o c hk e he g=>?_⟩;obtain⟨_,m,d,b⟩:=mem_ready.1 i
 by_cases f:j=k
 ·subst f;rw[d]at c;cases c;exact getD_set_true (b e he g)
 ·rw[getD_set_ne false f]at hk;exact getD_set_true (h.2 k o c hk e he g)
def m0r {i:Nat}{s:Oper}{v:Value}{Sx:World->Prop}(hi:ops[i]?=some s)(q:∀(j:Nat) (o:Oper) cs b,ops[j]?=some o->o.op≠.select cs b)
  (hQ:∀c a w,Q (.panic c) (a.put s.dst v) w->Q (.panic c) a w) (x:∀L w,Cl ops L->L.getD i true=false->S L w->Sx w) (b1:∀L w,S (L.setIfInBounds i true) w->L.getD i true=false->S L w)
  (z:∀L w,S L w->S (L.setIfInBounds i true) w):
  ∀(fuel:Nat) (L:Array Bool) (a:Act) (w:World),Cl ops L->(∀j t,ops[j]?=some t->j≠i->L.getD j true=false->(∀e∈t.after,Region.binds .any e=true->e.on≠i)->s.apart ops t=true)->
   i∈Region.ready .any ops L->YieldsIf P ops Sx s v a->S L w->wpS P ops Q S fuel (L.setIfInBounds i true) (a.put s.dst v) w->wpS P ops Q S (fuel+1) L a w:=by
 intro fuel
 induction fuel with
 |zero=>
  intro L a w g _ r hy C H;refine⟨fun h=>(by rw[h]at r;cases r),fun j R=>?_⟩
  by_cases e:j=i
  ·subst e;exact hy.wpOp hi (x L w g (mem_ready.1 r).1 C) ⟨z L w C,H⟩
  ·have:=ready_mono R e;rw[H.1]at this;cases this
 |succ fuel ih=>
  intro L a w g f r hy C H;have d:=(mem_ready.1 r).1;refine⟨fun h=>(by rw[h]at r;cases r),fun j R=>?_⟩
  by_cases e:j=i
  ·subst e;exact hy.wpOp hi (x L w g d C) ⟨z L w C,H⟩
  ·have h1:=H.2 j (ready_mono R e);obtain⟨p,t,u,J⟩:=mem_ready.1 R;have y:∀e∈t.after,Region.binds .any e=true->e.on≠i:=fun e he hb heq=>by
    have h1:=J e he hb;rw[heq]at h1;rcases lt_or_ge i L.size with h'|h'
    ·simp[h']at d h1;rw[d]at h1;cases h1
    ·simp[Array.getElem?_eq_none h']at h1
   have h2:=wpOp_putIf u (f j t u e p y) (fun cs b=>q i s cs b hi) (fun cs b=>q j t cs b u) hQ hy h1;have m:∀k ok,ops[k]?=some ok->k≠i->(L.setIfInBounds j true).getD k true=false->(∀e∈ok.after,Region.binds .any e=true->e.on≠i)->s.apart ops ok=true:=fun k ok hk b2 d a1=>by
    refine f k ok hk b2 ?_ a1
    by_cases I:j=k
    ·subst I;exact p
    ·rw[getD_set_ne true I]at d;exact d
   refine wpOp_mono (fun a' w' h3=>?_) h2;have h4:=h3.2.1;rw[Array.setIfInBounds_comm _ _ (Ne.symm e)]at h4;have U:=b1 _ w' h4 (by rw[getD_set_ne true e];exact d);refine⟨U,ih (L.setIfInBounds j true) a' w' (g.set R) m (ready_mono r (Ne.symm e)) h3.1 U ?_⟩;rw[Array.setIfInBounds_comm _ _ e];exact h3.2.2
def marks (ops:Array Oper)(s:List Nat):List Nat->List Nat
 |[]=>s
 |j :: js=>marks ops (if s.contains j then(match ops[j]? with|some o=>(o.after.toList.filter (Region.binds .any)).map (·.on)++s|none=>s)else s) js
def e0g (ops:Array Oper)(m i:Nat):Bool:=decide (ops.size<=m)||(marks ops [m] (List.range ops.size).reverse).contains i
def t07 {L:Array Bool}(d:Cl ops L){m:Nat}:∀(js s:List Nat),(∀k∈s,L.getD k false=false->L.getD m false=false)->∀k∈marks ops s js,L.getD k false=false->L.getD m false=false
 |[],s,h=>h
 |j :: js,s,h=>by
  unfold marks;refine t07 d js _ ?_;split
  ·rename_i c;have c:j∈s:=by simpa using c
   cases f:ops[j]? with
   |none=>simpa[f]using h
   |some o=>
    simp only;intro k hk b;simp only[List.mem_append,List.mem_map,List.mem_filter]at hk;rcases hk with⟨e,⟨he,g⟩,rfl⟩|hk
    ·refine h j c ?_;cases i:L.getD j false with
     |false=>rfl
     |true=>have:=d.2 j o f i e (by simpa using he) g;rw[this]at b;cases b
    ·exact h k hk b
  ·exact h
def t0n {L:Array Bool}(b:Cl ops L){m i:Nat}(h:e0g ops m i=true)(hi:L.getD i true=false):L.getD m false=false:=by
 simp only[e0g,Bool.or_eq_true,decide_eq_true_eq]at h;rcases h with h|h
 ·rw[<-b.1]at h;simp[h]
 ·refine t07 b _ [m] (fun k hk c=>by simp at hk;subst hk;exact c) i (by simpa using h) ?_;rcases lt_or_ge i L.size with h'|h'
  ·simpa[h']using hi
  ·simp[h']
def Sk (T:D0)(w w':World):Prop:=∃b,U0 w.heap T w'.heap b
def Sd (m:Nat)(T:D0)(w0:World)(L:Array Bool)(w:World):Prop:=Sk T w0 w/\(L.getD m false=false->∀k,k<w0.heap.size->w.heap[k]?=w0.heap[k]?)
def w8 (w0 w:World):Prop:=∀k,k<w0.heap.size->w.heap[k]?=w0.heap[k]?
def Sd.start (m:Nat)(T:D0)(w0:World)(L:Array Bool):Sd m T w0 L w0:=⟨⟨T,U0.refl _ _⟩,fun _ _ _=>rfl⟩
def Sd.before {m:Nat}{T b:D0}{w0:World}{L:Array Bool}(k:U0 w0.heap T w.heap b)(h:w8 w0 w):Sd m T w0 L w:=⟨⟨b,k⟩,fun _=>h⟩
def Sd.behind {m:Nat}{T b:D0}{w0:World}{L:Array Bool}(k:U0 w0.heap T w.heap b)(h:L.getD m false=true):Sd m T w0 L w:=⟨⟨b,k⟩,fun e=>by rw[h]at e;cases e⟩
def w8.start (w:World):w8 w w:=fun _ _=>rfl
def w8.ext {w0 w w1:World}(h:w8 w0 w)(c:w0.heap.size<=w.heap.size)(b:Below w.heap.size w w1):w8 w0 w1:=fun k hk=>(b.block k (lt_of_lt_of_le hk c)).trans (h k hk)
def w8.app {w0 w w1:World}{v:Value}(h:w8 w0 w)(b:w0.heap.size<=w.heap.size)(c:∀k,v.ownBlock=some k->w0.heap.size<=k)(hn:∀k,k<w.heap.size->v.ownBlock≠some k->w1.heap[k]?=w.heap[k]?):w8 w0 w1:=
 fun k hk=>(hn k (lt_of_lt_of_le hk b) (fun e=>Nat.lt_irrefl _ (lt_of_lt_of_le hk (c k e)))).trans (h k hk)
def w8.cell {w w':World}{b o:Nat}{v:Value}(e:w8 w w')(h:U2 w.heap b o=some v):U2 w'.heap b o=some v:=(f0O (e b (r03 h))).trans h
def Sk.cell {T:D0}{w w':World}{b o:Nat}{v:Value}(hn:¬T b)(e:Sk T w w')(h:U2 w.heap b o=some v):U2 w'.heap b o=some v:=by
 obtain⟨c,k⟩:=e;exact(f0O (k.blk b (r03 h) hn).2).trans h
def may (ops:Array Oper)(listed:Array Bool)(m i:Nat):Bool:=Region.noSelect ops&&Region.free .any ops listed i&&(Region.ready .any ops listed).contains i&&clb ops listed&&(i != m)
def l0N {m i:Nat}{T:D0}{w0:World}(hm:i≠m)(L:Array Bool)(w:World):Sd m T w0 (L.setIfInBounds i true) w↔Sd m T w0 L w:=by
 unfold Sd;rw[getD_set_ne false hm]
def w0R {id:Nat}{xs:List Oper}(m:Nat)(T:D0)(hm:P.follows .mixedOrders=true)
  (h:∀w1,w1.heap=w.heap->Below w.heap.size w w1->wpS P xs.toArray Q (Sd m T w1) xs.toArray.size (Array.replicate xs.toArray.size false) a w1):(Code.region id xs.toArray true).wp P Q a w:=
 wp_region_any hm (k05 _ _ _ _ (h _ rfl ⟨rfl,rfl,rfl,le_refl _,fun _ _=>rfl⟩))
def p0D {m i:Nat}{T:D0}{w0:World}{o:Oper}{v:Value}(ha:Ag n l a)(t:NoP Q)(hi:ops[i]?=some o)(hm:may ops listed m i=true)(e:(gate ops l o==some true&&fit n l o)=true)
  (p:∀w',Sk T w0 w'->(e0g ops m i=true->w8 w0 w')->(execOp (lk l) o).run P w'=.ok (.value v) w') (g:Sd m T w0 listed w)
  (h:Sd m T w0 (listed.setIfInBounds i true) w->∀j,Ag n (A8 l o.dst v) j->wpS P ops Q (Sd m T w0) fuel (listed.setIfInBounds i true) j w):wpS P ops Q (Sd m T w0) (fuel+1) listed a w:=by
 simp only[may,and_eq_true,bne_iff_ne,ne_eq]at hm;simp only[and_eq_true,beq_iff_eq]at e;obtain⟨⟨⟨⟨h1,s⟩,r⟩,q⟩,f⟩:=hm;refine m0r (Sx:=fun w'=>Sk T w0 w'/\(e0g ops m i=true->w8 w0 w')) hi (Region.noSelect_spec h1) (fun c a w hp=>absurd hp (t c _ w)) (fun L w' k hu b=>⟨b.1,fun hw=>b.2 (t0n k hw hu)⟩)
  (fun L w' b _=>(l0N f L w').1 b) (fun L w' b=>(l0N f L w').2 b) fuel listed a w (n0I q) (Region.free_spec hi s) (by simpa using r) (.inl ⟨g0O ha e.1,fun w' d=>?_⟩) g (h ((l0N f listed w).2 g) _ (ha.put _ _ (i0r e.2)))
 rw[i03 e.2 ha];exact p w' d.1 d.2
def r0G {i:Nat}{o:Oper}(hi:ops[i]?=some o)
  (h:wpList P ops (Exit.then (fun b w'=>S (listed.setIfInBounds i true) w'/\wpS P ops Q S fuel (listed.setIfInBounds i true) b w') Q) [o] a w):wpOp P ops Q i (fun b w'=>S (listed.setIfInBounds i true) w'/\wpS P ops Q S fuel (listed.setIfInBounds i true) b w') a w:=by
 unfold wpOp;simp only[hi];unfold wpList at h;split
 ·rename_i hw;rw[if_pos hw]at h;rcases h with h|⟨h1,a0,w0,h2⟩
  ·refine .inl ?_;unfold Oper.wp at h ⊢;generalize (execOp a.eval o).run P w=r at h ⊢;cases r with
   |ok x w'=>
    cases x<;>first|exact h|exact h.mono (fun e f he=>by cases e<;>first|exact he|(obtain⟨c,w1,d⟩:=he;exact⟨c,w1,d⟩))
   |halt x w'=>cases x<;>exact h
  ·exact .inr ⟨h1,a0,w0,h2⟩
 ·rename_i hw;rw[if_neg hw]at h;exact h
def u0g {i:Nat}{o:Oper}(c:Region.ready .any ops listed=[i])(hi:ops[i]?=some o)
  (h:wpList P ops (Exit.then (fun e w'=>S (listed.setIfInBounds i true) w'/\wpS P ops Q S fuel (listed.setIfInBounds i true) e w') Q) [o] a w):wpS P ops Q S (fuel+1) listed a w:=by
 refine⟨fun d=>(by rw[c]at d;cases d),fun j b=>?_⟩;rw[c]at b;simp only[List.mem_singleton]at b;subst b;exact r0G hi h
def s0C (b:Region.ready .any ops listed=[])(h:Q .normal a w):wpS P ops Q S fuel listed a w:=by
 cases fuel with
 |zero=>exact⟨b,h⟩
 |succ f=>exact⟨fun _=>h,by rw[b];simp⟩
def s0M {K:Act->World->Prop}(h1:S listed w)(c:K a w):wpList P ops (Exit.then (fun b w'=>S listed w'/\K b w') Q) [] a w:=⟨h1,c⟩
def Sl.off {α:Type}{T:Ty α}{H:K0}{O:D0}{b o c:Nat}{xs:List α}{i:Int}(h:Sl T H O (some ⟨b,o,none⟩) c xs)(hi:B0 xs i=true):¬O b:=by
 have e:xs≠[]:=by rintro rfl;have:=c0g hi;simp at this;omega
 obtain⟨b',f,d,_,hn⟩:=h.2.1 e;simp at d;obtain⟨rfl,_⟩:=d;exact hn
def r0Y {c:Code}(b:NoP Q)(h:NoP Q->c.wp P Q a w):c.wp P Q a w:=h b
def NoP.loop {σ τ:Type}{c:V0 σ τ}{K:Act->World->Prop}{D:τ->Exit->Act->World->Prop}(h:∀t c a w,¬D t (.panic c) a w):NoP (Exit.then K (fun e d w'=>∃t,c=.done t/\D t e d w')):=by
 rintro b a w ⟨t,_,hd⟩;exact h t b a w hd
end
