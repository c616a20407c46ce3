/- P. Its conditions: none. -/
import Derived.Test.YtihmgaccbcfgjaaGreatTG32
import Derived.Test.YtihmgaccbcfgjaaGreatTVShort
import Derived.Test.YtihmgaccbcfgjaaGreatTG34
open List (length_append mem_cons not_mem_nil)
open Nat (add_mul zero_add)
set_option linter.all false
namespace Go.V
open Go.RowKit
def G3 {α:Type}(T:Ty α)(e:TypeId)(M:D0)(H:I0)(S:D0)(v:Value)(xs:List α):Prop:=
 ∃g o pre cap,v=.slice (some ⟨g,o,none⟩) xs.length (cap-pre.length)/\Ow T e M H S (.slice (some ⟨g,0,none⟩) (pre++xs).length cap) (pre++xs)/\(pre.length<cap->o=pre.length*T.sz)
section
variable {α:Type}{T:Ty α}{e:TypeId}{M M':D0}{H H':I0}{S S':D0}{v u:Value}{xs:List α}{w w1:World}
def G3.of {b n c:Nat}(h:Ow T e M H S (.slice (some ⟨b,0,none⟩) n c) xs):G3 T e M H S (.slice (some ⟨b,0,none⟩) n c) xs:=by
 obtain⟨A,c',a⟩:=h.form;simp at a;obtain⟨rfl,rfl,rfl⟩:=a;exact⟨b,0,[],c,X',by simpa using h,fun _=>X'⟩
def G3.base (h:G3 T e M H S v xs):∃g n c ys,(∀k,v.ownBlock=some k↔(Value.slice (some ⟨g,0,none⟩) n c).ownBlock=some k)/\Ow T e M H S (.slice (some ⟨g,0,none⟩) n c) ys/\
  ∀(a:D0) (H1:I0) (S1:D0),Ow T e a H1 S1 (.slice (some ⟨g,0,none⟩) n c) ys->G3 T e a H1 S1 v xs:=by
 obtain⟨g,o,pre,cap,rfl,h,b⟩:=h;exact⟨g,_,cap,pre++xs,fun k=>by simp[Value.ownBlock],h,fun a H1 S1 h1=>⟨g,o,pre,cap,rfl,h1,b⟩⟩
def G3.own (h:G3 T e M H S v xs):∀k,v.ownBlock=some k->S k/\M k:=by
 obtain⟨g,n,c,ys,a,h,_⟩:=h.base;exact fun k hk=>h.own k ((a k).1 hk)
def G3.lt (h:G3 T e M H S v xs):∀k,v.ownBlock=some k->k<H.size:=by
 obtain⟨g,n,c,ys,a,h,_⟩:=h.base;exact fun k hk=>h.lt k ((a k).1 hk)
def G3.L0 (h:G3 T e M H S v xs)(k:P0 H S H' S')(hs:∀b,S b->S' b)(a:∀b,v.ownBlock=some b->H'[b]?=H[b]?):G3 T e M H' S' v xs:=by
 obtain⟨g,n,c,ys,f,h,d⟩:=h.base;exact d _ _ _ (h.L0 k hs (fun b hk=>a b ((f b).2 hk)))
def G3.b0a (h:G3 T e M H S v xs)(hm:∀k,v.ownBlock=some k->M' k):G3 T e M' H S v xs:=by
 obtain⟨g,n,c,ys,b,h,a⟩:=h.base;exact a _ _ _ (h.b0a (fun k hk=>hm k ((b k).2 hk)))
def G3.minus (h:G3 T e M H S v xs)(d:F6 v u):G3 T e M H (Go.V.minus S u) v xs:=by
 obtain⟨g,n,c,ys,b,h,a⟩:=h.base;exact a _ _ _ (h.minus (fun k hk e=>d k ((b k).2 hk) e))
def G3.ext (h:G3 T e M w.heap S v xs)(a:Below w.heap.size w w1):G3 T e M w1.heap S v xs:=h.L0 (P0.ext S a) (fun _ h=>h) (fun b c=>a.block b (h.lt b c))
def G3.j0z {S1:D0}(h:G3 T e M w.heap S v xs)(c:Below w.heap.size w w1)(k:P0 w.heap S w1.heap S1)(hs:∀b,S b->S1 b):G3 T e M w1.heap S1 v xs:=h.L0 k hs (fun b a=>c.block b (h.lt b a))
def G3.only {b:Nat}(h:G3 T e M w.heap S v xs)(a:j5 b w w1)(c:S b)(hd:v.ownBlock≠some b):G3 T e M w1.heap S v xs:=
 h.L0 (a.L0 c) (fun _ h=>h) (fun k hk=>a.block k (h.lt k hk) (fun e=>hd (by rw[<-e];exact hk)))
def G3.form (h:G3 T e M H S v xs):∃A c,v=.slice A xs.length c:=by
 obtain⟨g,o,pre,cap,rfl,_⟩:=h;exact⟨_,_,rfl⟩
def G3.cap {A:Option Addr}{n c:Nat}(h:G3 T e M H S (.slice A n c) xs):xs.length<=c:=by
 obtain⟨g,o,pre,cap,a,h,_⟩:=h;simp at a;have:=h.cap;simp at this;omega
def G3.O8 {A:Option Addr}{n c:Nat}(h:G3 T e M H S (.slice A n c) xs):Q4 T H S A xs:=by
 obtain⟨g,o,pre,cap,f,h,m⟩:=h;simp at f;obtain⟨rfl,_,_⟩:=f;intro i x d;have hi:i<xs.length:=(List.getElem?_eq_some_iff.1 d).1;have a:=h.cap;rw[length_append]at a;obtain⟨b,r,cs,k,q,p⟩:=h.O8 (pre.length+i) x (by rw[List.getElem?_append_right O',Nat.add_sub_cancel_left];exact d);simp at k;obtain⟨rfl,rfl⟩:=k;refine⟨g,o,cs,rfl,q,fun j v l=>?_⟩;have:=p j v l;rw[m O',<-add_mul]
 rwa [zero_add]at this
def G3.tail_at {P:Program}{t:TypeId}{lo:Value}{A:Option Addr}{c:Nat}{k:IntKind}{vlo:Int}(x:P.underlying t=some (.slice e))(z:(P.info? e).map (·.size)=some T.sz)
  (a:G3 T e M H S (.slice A xs.length c) xs) (hk:P3 xs vlo xs.length=true) (j:lo=.int k vlo:=by rfl):
  ∃l,(∀w,(Instr.sliceAt t (.slice A xs.length c) (some lo) none none).run P w=.ok (.slice l (G1 xs vlo xs.length).length (c-vlo.toNat)) w)/\G3 T e M H S (.slice l (G1 xs vlo xs.length).length (c-vlo.toNat)) (G1 xs vlo xs.length)/\
   (∀k,(Value.slice l (G1 xs vlo xs.length).length (c-vlo.toNat)).ownBlock=some k↔(Value.slice A xs.length c).ownBlock=some k):=by
 subst j;have n:=d0b hk;simp only[P3,Bool.and_eq_true,decide_eq_true_eq]at hk;have p:=a.cap;obtain⟨inf,f,i⟩:=Option.map_eq_some_iff.1 z;obtain⟨g,o,pre,cap,q,h,s⟩:=a;simp at q;obtain⟨rfl,rfl⟩:=q;have d:G1 xs vlo xs.length=xs.drop vlo.toNat:=by unfold G1;exact List.take_of_length_le (by rw[List.length_drop];omega)
 refine⟨some (if cap-pre.length=vlo.toNat then⟨g,o,none⟩else⟨g,o+vlo.toNat*T.sz,none⟩),fun w=>?_,?_,?_⟩
 ·have r:=run_sliceBound (P:=P) (w:=w) k vlo xs.length .sliceB O' O';have b:(⟨g,o,none⟩:Addr).add (vlo.toNat*T.sz)=⟨g,o+vlo.toNat*T.sz,none⟩:=by unfold Addr.add;by_cases C:vlo.toNat*T.sz=0<;>simp[C]
  have hl:(G1 xs vlo xs.length).length=xs.length-vlo.toNat:=by rw[n];omega
  rw[hl];simp only[Instr.sliceAt,Instr.slice,Instr.sliceBounds,Sem.run_bind,run_underlying x,Result.andThen_ok];simp[r,sizeOf,typeInfo,f,i,b];split<;>rfl
 ·have hp:(pre++xs.take vlo.toNat).length=pre.length+vlo.toNat:=by rw[length_append,List.length_take];omega
  have y:(pre++xs.take vlo.toNat)++G1 xs vlo xs.length=pre++xs:=by rw[d,List.append_assoc,List.take_append_drop]
  refine⟨g,if cap-pre.length=vlo.toNat then o else o+vlo.toNat*T.sz,pre++xs.take vlo.toNat,cap,?_,by rw[y];exact h,fun m=>?_⟩
  ·rw[hp,Nat.sub_sub];split<;>rfl
  ·rw[hp]at m ⊢;rw[if_neg O',s O',add_mul]
 ·intro k;split<;>simp[Value.ownBlock]
def A01 {P:Program}(w:World)(t ty e:TypeId)(i:TypeInfo)(n:P.underlying t=some (.slice e))(hi:P.info? e=some i)
  (g off b d:Nat) (cur:Array Value) (hg:w.heap[g]?=some (.cells cur e (0,0)))
  (a:Addr) (m c:Nat) (news:List Value) (hl:news.length=m*i.size) (h:∀j u,news[j]?=some u->w.cell? (a.add j)=some u) (h1:∀u∈news,u.oneCell'=true)
  (f:b+m<=d) (l:off+b*i.size+news.length<=cur.size):
  (Builtin.append_ #[t,t] ty #[.slice (some ⟨g,off,none⟩) b d,.slice (some a) m c]).run P w =
   .ok (.slice (some ⟨g,off,none⟩) (b+m) d) (w.setRow g (cur.toList.take (off+b*i.size)++news++cur.toList.drop (off+b*i.size+news.length)).toArray):=by
 have o:=run_firstCells_some (P:=P) w i.size m a m c news hl h;have k:=run_storeCells_at P g (off+b*i.size) e news 0 cur w hg (by simpa using l) h1;simp only[Nat.add_zero]at k;simp[Builtin.append_,run_underlying n,sizeOf,typeInfo,hi,Builtin.lenOf,f,o,Addr.add_lit,k]
def H0k {P:Program}{w:World}(t ty e:TypeId)(bytes:Nat)(z:Value)(ht:P.underlying t=some (.slice e))(hE:(P.info? e).map (fun i=>(i.zero,i.size,i.bytes))=some (some z,T.sz,bytes))(r:(decide (z.cells.size=T.sz)&&decide (0<T.sz)&&decide (0<bytes))=true)
  {v:Value} {xs ys:List α} (y:G3 T e M w.heap S v xs) {A:Option Addr} {c:Nat} (hy:Q4 T w.heap S A ys) (c6:0<ys.length) (C:K0 bytes xs ys=true):
  ∃U w1,(Builtin.append_ #[t,t] ty #[v,.slice A ys.length c]).run P w=.ok U w1/\w.grownBy w1 v.ownBlock/\(∀k,U.ownBlock=some k->v.ownBlock=some k\/w.heap.size<=k)/\
   ∀S1:D0,P0 w.heap S w1.heap S1->∀M1:D0,(∀k,U.ownBlock=some k->S1 k/\M1 k)->G3 T e M1 w1.heap S1 U (xs++ys):=by
 obtain⟨i,hi,b1⟩:=Option.map_eq_some_iff.1 hE;simp only[Prod.mk.injEq]at b1;obtain⟨hz,l,c8⟩:=b1;simp only[Bool.and_eq_true,decide_eq_true_eq]at r;simp only[K0,decide_eq_true_eq]at C;have b5:xs.length+ys.length<=maxLen:=by
  have:xs.length+ys.length<=(xs.length+ys.length)*bytes:=Nat.le_mul_of_pos_right _ r.2;simp only[maxLen];omega
 obtain⟨news,a,s⟩:=Q4.news (w:=w) (xs:=ys) (k:=0) (A:=A) (T:=T) (S:=S) (fun i x hx=>by
  obtain⟨b,o,cs,h1,h2,p⟩:=hy i x hx;exact⟨b,o,cs,h1,h2,fun j v J=>by rw[zero_add];exact p j v J⟩)
 obtain⟨b,o',_,hA,_⟩:=hy 0 ys[0] (by simp[c6]);subst hA;have h:∀j u,news[j]?=some u->w.cell? ((⟨b,o',none⟩:Addr).add j)=some u:=by
  intro j u J;rw[k7];have:=s b o' rfl j u J;simpa using this
 have b9:∀A n c,v=.slice A n c->Q4 T w.heap S A xs:=fun A n c e=>by subst e;exact y.O8
 obtain⟨g,o,pre,cap,rfl,b4,ho⟩:=y;have c3:=b4;obtain⟨hS,cs,⟨m,b6⟩,b2⟩:=b4;rcases b6 with⟨hv,_⟩|⟨g',cap',cur,hv,hg,hnc,hcm,hcs,htake⟩
 ·cases hv
 ·simp at hv;obtain⟨rfl,rfl⟩:=hv;simp only[length_append]at hnc m htake
  by_cases R:xs.length+ys.length<=cap-pre.length
  ·have b3:=ho O';have hmul:o+xs.length*i.size+news.length=(pre.length+xs.length+ys.length)*T.sz:=by rw[a.1,b3,l,add_mul,add_mul]
   have hle:(pre.length+xs.length+ys.length)*T.sz<=cap*T.sz:=Nat.mul_le_mul_right _ O';have hr:=A01 (P:=P) w t ty e i ht hi g o xs.length (cap-pre.length) cur hg ⟨b,o',none⟩ ys.length c news (by rw[a.1,l]) h a.e0w R (by rw[hmul,hcs];exact hle);have c7:o+xs.length*i.size=(pre.length+xs.length)*T.sz:=by rw[b3,l,add_mul]
   rw[c7,htake]at hr;refine⟨_,_,hr,⟨rfl,rfl,rfl,X',fun k _ hk=>setRow_other w g k _ (fun e=>hk (by simp[Value.ownBlock,e]))⟩,fun q hq=>.inl (by simpa[Value.ownBlock]using hq),fun S1 k M1 I=>?_⟩;refine⟨g,o,pre,cap,X',⟨fun q hq=>I q (by simpa[Value.ownBlock]using hq),cs++news,⟨?_,.inr ⟨g,cap,_,rfl,setRow_heap w g cur _ e _ hg,Z',hcm,?_,?_⟩⟩,?_⟩,ho⟩
   ·rw[length_append,m,a.1];simp only[length_append];rw[<-add_mul];congr 1;omega
   ·simp only[List.size_toArray,length_append,List.length_drop,Array.length_toList,m,a.1,hcs,<-add_mul];omega
   ·have c4:(pre++(xs++ys)).length*T.sz=(cs++news).length:=by simp only[length_append,m,a.1,<-add_mul];congr 1;omega
    rw[c4];exact List.take_left
   ·rw[<-List.append_assoc];exact(b2.L0 k).append (a.L0 k)
  ·have c0:=b9 _ _ _ rfl;obtain⟨f,b7,b8⟩:=Q4.news (w:=w) (xs:=xs) (k:=0) (A:=some ⟨g,o,none⟩) (T:=T) (S:=S) (fun i x hx=>by
    obtain⟨b,o,cs,h1,h2,p⟩:=c0 i x hx;exact⟨b,o,cs,h1,h2,fun j v J=>by rw[zero_add];exact p j v J⟩)
   have holds:∀j u,f[j]?=some u->w.cell? ((⟨g,o,none⟩:Addr).add j)=some u:=by
    intro j u J;rw[k7];have:=b8 g o rfl j u J;simpa using this
   obtain⟨U,w',a1,h2,p⟩:=run_append_arg_grows (P:=P) w t ty e i z T.sz bytes ht hi hz l c8 r.1.1 r.1.2 ⟨g,o,none⟩ xs.length (cap-pre.length) f b7.1 holds ⟨b,o',none⟩ ys.length c news a.1 h O' b5 C;have c5:=Row.of h2;refine⟨U,w',a1,⟨p.os,p.tape,p.output,p.size,fun k hk _=>p.block k hk X'⟩,fun q hq=>.inr (h2.lt q hq).1,fun S1 k M1 I=>?_⟩;obtain⟨hl,d⟩:=c5;rcases d with⟨_,h0⟩|⟨g2,cap2,cur2,rfl,d⟩
   ·omega
   ·exact G3.of ⟨I,f++news,⟨by rw[show(xs++ys).length=xs.length+ys.length from length_append];exact hl,.inr ⟨g2,cap2,cur2,by rw[length_append],by rw[show(xs++ys).length=xs.length+ys.length from length_append];exact d⟩⟩,(b7.L0 k).append (a.L0 k)⟩
def y0y {P:Program}{ops:Array Oper}{n:Nat}{Q:Exit->Act->World->Prop}{l:FL}{a:Act}{o:Oper}{rest:List Oper}{w0:World}{W0 C S0:D0}{t:TypeId}{bytes:Nat}{z:Value}{x y:Operand}{ys:List α}{A:Option Addr}{c:Nat}(ha:Ag n l a)(cx:Cx w0 W0 S0 w S)(hf:(gate ops l o==some true&&fit n l o)=true)
  (ho:o.op=.call { callee:=.builtin .append,args:=#[x,y],argTypes:=#[t,t] }) (hx:lk l x=v) (hy:lk l y=.slice A ys.length c)
  (ht:P.underlying t=some (.slice e)) (hE:(P.info? e).map (fun i=>(i.zero,i.size,i.bytes))=some (some z,T.sz,bytes)) (b3:(decide (z.cells.size=T.sz)&&decide (0<T.sz)&&decide (0<bytes))=true)
  (hW:∀k,Wr C w0 k->Wr W0 w0 k) (d:G3 T e (Wr C w0) w.heap S v xs) (b2:Q4 T w.heap S A ys) (I:K0 bytes xs ys=true)
  (h:∀w1 S1 p c1,Cx w0 W0 S0 w1 S1->P0 w.heap S w1.heap S1->(∀b,S b->S1 b)->(∀k,k<w.heap.size->v.ownBlock≠some k->w1.heap[k]?=w.heap[k]?)->
   (∀k,(Value.slice p (xs++ys).length c1).ownBlock=some k->v.ownBlock=some k\/w.heap.size<=k)->G3 T e (Wr C w0) w1.heap S1 (.slice p (xs++ys).length c1) (xs++ys)->
   ∀U,Ag n (N5 l o.dst (.slice p (xs++ys).length c1)) U->wpList P ops Q rest U w1) (q:0<ys.length:=by exact Nat.zero_lt_succ _):wpList P ops Q (o :: rest) a w:=by
 obtain⟨v',w1,s,hg,r,j⟩:=H0k (P:=P) (w:=w) t o.type e bytes z ht hE b3 d b2 (c:=c) q I;have b4:=d.lt;have R:∀k,v.ownBlock=some k->S k:=fun k hk=>(d.own k hk).1;have J:∀k,v.ownBlock=some k->Wr C w0 k:=fun k hk=>(d.own k hk).2;have a1:∀k,v.ownBlock=some k->Wr W0 w0 k:=fun k hk=>hW k (J k hk);have g:P0 w.heap S w1.heap (inV v' S):=⟨hg.size,fun b f hn=>⟨fun hi=>by
   rcases hi with hi|hi
   ·rcases r b hi with e|e
    ·exact hn (R b e)
    ·omega
   ·exact hn hi,hg.block b f (fun e=>hn (R b e.symm))⟩⟩
 have m:=j (inV v' S) g (Wr C w0) (fun k hk=>⟨.inl hk,by
  rcases r k hk with e|e
  ·exact J k e
  ·have:=cx.size;exact .inr O'⟩)
 obtain⟨p,c1,rfl⟩:=m.form;refine b0U ha hf (v:=.slice p (xs++ys).length c1) (w':=w1) ?_ fun U b1=>h w1 (inV (.slice p (xs++ys).length c1) S) p c1 ?_ g (fun b f=>.inr f) (fun k hk q=>hg.block k hk (fun e=>q e.symm)) ?_ m U b1
 ·simp only[execOp,ho,resolve,invoke,builtin,Sem.run_bind,Sem.run_pure,Result.andThen_ok,List.map_toArray,List.map_cons,List.map_nil,hx,hy,s]
 ·refine⟨⟨hg.os.trans cx.bel.os,hg.tape.trans cx.bel.tape,hg.output.trans cx.bel.output,Nat.le_trans cx.bel.size hg.size,fun k hk hn=>(hg.block k (by have:=cx.size;omega) (fun e=>?_)).trans (cx.bel.block k hk hn)⟩,fun b f=>.inr (cx.sub b f),fun b f=>?_,cx.lt0⟩
  ·rcases a1 k e.symm with h2|h2
   ·exact hn h2
   ·omega
  ·rcases f with f|f
   ·exact m.lt b f
   ·exact Nat.lt_of_lt_of_le (cx.lt b f) hg.size
 ·exact r
end
end Go.V
set_option maxRecDepth 100000
namespace Go.Proofs.YtihmgaccbcfgjaaGreat.Rc
open Go.V Go.RowKit
def c0w:Ty H4 where
 sz:=2
 R:=fun H S cs x=>∃(a:Option Addr) (c1:Nat),cs=[.int .i64 x.To,.slice a x.Src.length c1]/\Sl (P1 .i64) H S a c1 x.Src
 len:=by rintro _ _ _ _ ⟨_,_,rfl,_⟩;rfl
 one:=by rintro _ _ _ _ ⟨_,_,rfl,_⟩ v hv;simp only[mem_cons,not_mem_nil,or_false]at hv;rcases hv with rfl|rfl<;>rfl
 L0:=fun k ⟨a,c1,h,h0⟩=>⟨a,c1,h,h0.L0 k⟩
def a0W:Ty L3 where
 sz:=3
 R:=fun H S cs x=>∃(b:Option Addr) (c1:Nat),∃(a:Option Addr) (c2:Nat),cs=[.int .i64 x.Regs,.slice b x.Accept.length c1,.slice a x.Edges.length c2]/\Sl (P1 .i64) H S b c1 x.Accept/\Sl c0w H S a c2 x.Edges
 len:=by rintro _ _ _ _ ⟨_,_,_,_,rfl,_,_⟩;rfl
 one:=by rintro _ _ _ _ ⟨_,_,_,_,rfl,_,_⟩ v hv;simp only[mem_cons,not_mem_nil,or_false]at hv;rcases hv with rfl|rfl|rfl<;>rfl
 L0:=fun k ⟨b,c1,a,c2,h,h0,h1⟩=>⟨b,c1,a,c2,h,h0.L0 k,h1.L0 k⟩
def i0k:Ty Y1 where
 sz:=3
 R:=fun H S cs x=>∃(b:Option Addr) (c1:Nat),∃(a:Option Addr) (c2:Nat),cs=[.int .i64 x.Tags,.slice b x.Class.length c1,.slice a x.States.length c2]/\Sl (P1 .i64) H S b c1 x.Class/\Sl a0W H S a c2 x.States
 len:=by rintro _ _ _ _ ⟨_,_,_,_,rfl,_,_⟩;rfl
 one:=by rintro _ _ _ _ ⟨_,_,_,_,rfl,_,_⟩ v hv;simp only[mem_cons,not_mem_nil,or_false]at hv;rcases hv with rfl|rfl|rfl<;>rfl
 L0:=fun k ⟨b,c1,a,c2,h,h0,h1⟩=>⟨b,c1,a,c2,h,h0.L0 k,h1.L0 k⟩
open Go.X (U0)
def D0r {H:I0}{S:D0}{cs:List Value}{x:H4}:(Go.X.J0 en (.st 0)).R H S cs x↔c0w.R H S cs x:=by
 refine(f0Q 0 H S cs x).trans ⟨?_,?_⟩
 ·rintro⟨c1,c2,rfl,h1,c3,c4,rfl,⟨A,c,rfl,a⟩,rfl⟩
  have h1:c1=[.int .i64 x.To]:=h1;subst h1;exact⟨A,c,rfl,a⟩
 ·rintro⟨A,c,rfl,a⟩
  exact⟨[.int .i64 x.To],_,rfl,rfl,[.slice A x.Src.length c],[],rfl,⟨A,c,rfl,a⟩,rfl⟩
def v0t {α:Type}{T T':Ty α}(hs:T.sz=T'.sz)(h:∀{H S cs x},T.R H S cs x↔T'.R H S cs x){H:I0}{S:D0}{A:Option Addr}{c:Nat}{xs:List α}:Sl T H S A c xs↔Sl T' H S A c xs:=by
 constructor
 ·rintro⟨h1,j,f⟩
  refine⟨h1,j,fun i x d=>?_⟩;obtain⟨b,o,cs,e,g,a⟩:=f i x d;exact⟨b,o,cs,e,h.1 g,by rw[<-hs];exact a⟩
 ·rintro⟨h1,j,f⟩
  refine⟨h1,j,fun i x d=>?_⟩;obtain⟨b,o,cs,e,g,a⟩:=f i x d;exact⟨b,o,cs,e,h.2 g,by rw[hs];exact a⟩
def s0P {H:I0}{S:D0}{A:Option Addr}{c:Nat}{xs:List H4}:Sl (α:=H4) (Go.X.J0 en (.st 0)) H S A c xs↔Sl c0w H S A c xs:=v0t (α:=H4) (T:=Go.X.J0 en (.st 0)) (T':=c0w) rfl D0r
def I0L {H:I0}{S:D0}{cs:List Value}{x:L3}:(Go.X.J0 en (.st 1)).R H S cs x↔a0W.R H S cs x:=by
 refine(f0Q 1 H S cs x).trans ⟨?_,?_⟩
 ·rintro⟨c1,c2,rfl,h1,c3,c4,rfl,⟨A,c,rfl,f⟩,c5,g,rfl,⟨a,b,rfl,d⟩,rfl⟩
  have h1:c1=[.int .i64 x.Regs]:=h1;subst h1;exact⟨A,c,a,b,rfl,f,s0P.1 d⟩
 ·rintro⟨A,c,a,b,rfl,f,d⟩
  exact⟨[.int .i64 x.Regs],_,rfl,rfl,[.slice A x.Accept.length c],_,rfl,⟨A,c,rfl,f⟩,[.slice a x.Edges.length b],[],rfl,⟨a,b,rfl,s0P.2 d⟩,rfl⟩
def v0B {H:I0}{S:D0}{A:Option Addr}{c:Nat}{xs:List L3}:Sl (α:=L3) (Go.X.J0 en (.st 1)) H S A c xs↔Sl a0W H S A c xs:=v0t (α:=L3) (T:=Go.X.J0 en (.st 1)) (T':=a0W) rfl I0L
def t0n {H:I0}{S:D0}{cs:List Value}{x:Y1}:(Go.X.J0 en (.st 2)).R H S cs x↔i0k.R H S cs x:=by
 refine(f0Q 2 H S cs x).trans ⟨?_,?_⟩
 ·rintro⟨c1,c2,rfl,h1,c3,c4,rfl,⟨A,c,rfl,f⟩,c5,g,rfl,⟨a,b,rfl,d⟩,rfl⟩
  have h1:c1=[.int .i64 x.Tags]:=h1;subst h1;exact⟨A,c,a,b,rfl,f,v0B.1 d⟩
 ·rintro⟨A,c,a,b,rfl,f,d⟩
  exact⟨[.int .i64 x.Tags],_,rfl,rfl,[.slice A x.Class.length c],_,rfl,⟨A,c,rfl,f⟩,[.slice a x.States.length b],[],rfl,⟨a,b,rfl,v0B.2 d⟩,rfl⟩
def B0w (fuel:Nat){w:World}{S:D0}(m:∀b,S b->b<w.heap.size){p0:Y1}{A_p0_1 c_p0_1 A_p0_2 c_p0_2}(f:Sl (P1 .i64) w.heap S A_p0_1 c_p0_1 p0.Class)(c:Sl a0W w.heap S A_p0_2 c_p0_2 p0.States){r}(h:e0X fuel p0=some r):
 Calls Tryz.prog 15 #[.agg #[vI p0.Tags,vS A_p0_1 p0.Class c_p0_1,vS A_p0_2 p0.States c_p0_2]] w fun e w1=>∃v,e=.returned v/\Below w.heap.size w w1/\v=.bool r:=by
 have hR:(Go.X.J0 en (.st 2)).R w.heap S [vI p0.Tags,vS A_p0_1 p0.Class c_p0_1,vS A_p0_2 p0.States c_p0_2] p0:=t0n.2 ⟨_,_,_,_,rfl,f,c⟩;have a:Go.X.E2 en w.heap S [.d (.st 2)] p0 [.agg #[vI p0.Tags,vS A_p0_1 p0.Class c_p0_1,vS A_p0_2 p0.States c_p0_2]] []:=by
  refine Go.X.U9 (x:=.d (.st 2)) (r:=[]) ⟨_,_,[],[],[],rfl,rfl,rfl,?_,Go.X.a0M⟩;unfold Go.X.SR;exact⟨rfl,hR⟩
 refine(v0m fuel w S _ [] p0 r h a m (by rintro b ⟨v,g,_⟩;simp at g) (by intro i j v p _ g;simp at g)).mono ?_
 rintro e w1 ⟨v,S1,pl1,rfl,a,hb,hk,hs1,hs2,hap,hbl⟩
 have a:Go.X.E2 en w1.heap S1 [.d .bool] r [v] pl1:=a;unfold Go.X.E2 at a;obtain⟨c1,u,n,p1,o,e0,rfl,l,h1,q⟩:=a;cases e0;unfold Go.X.SR at h1;obtain⟨rfl,h1⟩:=h1;have h1:c1=[.bool r]:=h1;subst h1;have l:v=.bool r:=l;subst l;exact⟨_,rfl,⟨hb.os,hb.tape,hb.output,hb.size,fun k hk=>hb.block k hk (by rintro⟨v,g,_⟩;simp at g)⟩,rfl⟩
def D0i (w:World)(S:D0)(r:((List Bool)))(v:Value)(w1:World):Prop:=∃(A:Option Addr) (c:Nat),v=.slice A r.length c/\Ow l8 4 (Wr C3 w) w1.heap (inV v S) v r
abbrev R13 (w:World)(S:D0)(r:((List Bool))):Ending->World->Prop:=fun e w1=>∃v,e=.returned v/\Below w.heap.size w w1/\D0i w S r v w1
def A0o (fuel:Nat){w:World}{S:D0}(hS:∀b,S b->b<w.heap.size){p0:Y1}{A_p0_1 c_p0_1 A_p0_2 c_p0_2}(i:Sl (P1 .i64) w.heap S A_p0_1 c_p0_1 p0.Class)(g:Sl a0W w.heap S A_p0_2 c_p0_2 p0.States){r}(h:d0P fuel p0=some r):
 Calls Tryz.prog 13 #[.agg #[vI p0.Tags,vS A_p0_1 p0.Class c_p0_1,vS A_p0_2 p0.States c_p0_2]] w (R13 w S r):=by
 refine h0q (vs:=[.agg #[vI p0.Tags,vS A_p0_1 p0.Class c_p0_1,vS A_p0_2 p0.States c_p0_2]]) Tryz.func13 rfl rfl ?_;intro a ha;have cx:=Cx.start (W0:=C3) hS;refine wn fun hq=>?_;unfold d0P at h;refine sq fun K n=>Y3 ?_;refine j0t (V:=fun b=>vP b) (cs:=[vI p0.Tags,vS A_p0_1 p0.Class c_p0_1,vS A_p0_2 p0.States c_p0_2]) (T:=25) ha Y' Y' ?_;intro w1 q k0 r4 p7 _ a ha;have f1:=Bx.new cx r4 p7;replace i:=i.L0 (P0.ext S k0);replace g:=g.L0 (P0.ext S k0);replace cx:=cx.ext k0;refine sg ha 1 [(1,vP q)] w1 fun a ha=>?_;refine n ?_;clear n;refine sq fun K n=>sq fun K n=>Y3 (ov (.agg #[.int .i64 p0.Tags,.slice A_p0_1 p0.Class.length c_p0_1,.slice A_p0_2 p0.States.length c_p0_2]) ha (u0S (cs:=[.int .i64 p0.Tags,.slice A_p0_1 p0.Class.length c_p0_1,.slice A_p0_2 p0.States.length c_p0_2]) w1 rfl rfl Tryz.underlying25 rfl Y' (fun j v hj=>(k7 _ _ _ _).trans (by rw[zero_add];exact f1.cell j v hj))) fun a ha=>?_);obtain⟨x1,s3,h⟩:=a0c h;refine l0S ha Y' (f:=15) (args:=#[.agg #[vI p0.Tags,vS A_p0_1 p0.Class c_p0_1,vS A_p0_2 p0.States c_p0_2]]) (w':=w1) Y' (B0w fuel (p0:=p0) cx.lt i g s3) ?_;rintro v1 w2 ⟨k8,hp1⟩ a ha;obtain rfl:=hp1;have kk:=P0.ext S k8;replace f1:=f1.L0 kk;replace i:=i.L0 kk;replace g:=g.L0 kk;replace cx:=cx.ext k8;refine sk ha 1 [(9,vB (!x1))] fun a ha=>?_;refine n ?_;clear n;refine e0B ha rfl (fun y=>?_) (fun y=>?_)
 ·replace h:=itT y h;refine sq fun K n=>Y3 (sk ha 1 [(2,.slice none 0 0)] fun a ha=>?_);refine n ?_;clear n;refine wp_ret ?_;obtain rfl:=sj h;show bodyPost Tryz.prog Tryz.f13 (R13 w S _) .ret a w2;exact j0g (r1:=.tmp 2) (v1:=.slice none 0 0) ha rfl (.inl rfl) rfl ⟨_,rfl,cx.below,⟨_,_,rfl,Ow.nil⟩⟩
 ·replace h:=itF y h;refine wp_skip (n ?_);clear n;refine sq fun K n=>Y3 (sk ha 1 [(10,vF q 2)] fun a ha=>?_);refine ov (.slice A_p0_2 p0.States.length c_p0_2) ha (b0w w2 rfl rfl Tryz.underlying23 rfl ((k7 _ _ _ _).trans (by rw[zero_add];exact f1.cell 2 _ rfl))) fun a ha=>?_;refine sk ha 1 [(12,vI (p0.States.length:Int))] fun a ha=>?_;obtain⟨n9,h⟩:=b0i h;refine r0o (T:=l8) (z:=vB false) (zx:=false) (bytes:=1) ha cx Y' rfl rfl rfl Tryz.underlying28 Y' Y' (fun _ _=>rfl) n9 ?_;intro w3 S1 A1 c1 cx s6 i1 y7 y8 f2 a ha;replace f1:=f1.L0 i1;replace i:=i.L0 i1;replace g:=g.L0 i1;refine sk ha 1 [(3,vS A1 (List.replicate (Int.toNat (p0.States.length:Int)) false) c1)] fun a ha=>?_;refine n ?_;clear n;refine sq fun K n=>Y3 (sk ha 1 [(14,vS A1 (List.replicate (Int.toNat (p0.States.length:Int)) false) c1)] fun a ha=>?_);obtain⟨j0,h⟩:=b0i h;obtain⟨b2,o1,u5,rfl,q3,u9⟩:=f2.O8.get j0;obtain rfl:=q3;refine ov (vE b2 o1 (0:Int) 1) ha (obx w3 rfl rfl rfl Tryz.underlying28 rfl j0) fun a ha=>?_;refine u0Z (T:=l8) (f:=0) (x':=true) ha cx Y' rfl rfl rfl h0h f2 j0 Y' (k0z _ _ _) Y' (by rintro H2 _ _ rfl;rfl) ?_;intro w4 cx u1 k2 f3 a ha;replace f1:=f1.L0 k2;replace i:=i.L0 k2;replace g:=g.L0 k2;have l3:(((List.replicate (Int.toNat (p0.States.length:Int)) false).set (Int.toNat 0) true)).length=(List.replicate (Int.toNat (p0.States.length:Int)) false).length:=List.length_set;replace ha:Ag 57 [(1,.pointer (ad q 0)),(3,.slice (ad b2 o1) ((List.replicate (Int.toNat (p0.States.length:Int)) false).set (Int.toNat 0) true).length c1)] a:=by rw[l3];exact ha.to Y'
  replace f3:Ow l8 4 (Wr C3 w) w4.heap S1 (.slice (ad b2 o1) ((List.replicate (Int.toNat (p0.States.length:Int)) false).set (Int.toNat 0) true).length c1) ((List.replicate (Int.toNat (p0.States.length:Int)) false).set (Int.toNat 0) true):=by rw[l3];exact f3
  refine n ?_;clear n;refine sq fun K n=>sq fun K n=>Y3 ?_;refine j0t (V:=fun b=>.slice (ad b 0) 1 1) (cs:=[vI 0]) (T:=3) ha Y' Y' ?_;intro w5 b3 k1 p2 p1 _ a ha;have f4:=s0R (T:=(P1 .i64)) (xs:=[0]) (m:=1) cx k1 p2 p1 rfl Y' (R1.one (T:=(P1 .i64)) (x:=0) rfl);obtain⟨S2,cx,h3,r5,n2,f4⟩:=I0n cx k1 f4;have d1:F6 (vS (ad b2 o1) ((List.replicate (Int.toNat (p0.States.length:Int)) false).set (Int.toNat 0) true) c1) (.slice (ad b3 0) 1 1):=F6.new f3.lt (n2);replace f1:=f1.L0 h3;replace i:=i.L0 h3;replace g:=g.L0 h3;replace f3:=f3.j0z k1 h3 r5;replace f4:=G3.of f4;refine sg ha 1 [(1,vP q),(3,vS (ad b2 o1) ((List.replicate (Int.toNat (p0.States.length:Int)) false).set (Int.toNat 0) true) c1),(4,.slice (ad b3 0) 1 1)] w5 fun a ha=>?_;refine n ?_;clear n;refine wp_block ?_;obtain⟨t1,l4,h⟩:=a0c h;refine wp_mono (k0i (step:=(d0t fuel p0)) (I:=fun(s:List Bool×List Int) a w6=>match s with|(x2,l)=>∃(S3:D0),∃(A2:Option Addr) (c2:Nat),∃(A3:Option Addr) (c3:Nat),Cx w C3 S w6 S3/\Bx w6.heap S3 q 25 [vI p0.Tags,vS A_p0_1 p0.Class c_p0_1,vS A_p0_2 p0.States c_p0_2]/\Sl (P1 .i64) w6.heap S3 A_p0_1 c_p0_1 p0.Class/\Sl a0W w6.heap S3 A_p0_2 c_p0_2 p0.States/\Ow l8 4 (Wr C3 w) w6.heap S3 (vS A2 x2 c2) x2/\G3 (P1 .i64) 3 (Wr C3 w) w6.heap S3 (vS A3 l c3) l/\F6 (vS A2 x2 c2) (vS A3 l c3)/\Ag 57 [(1,vP q),(3,vS A2 x2 c2),(4,vS A3 l c3)] a) (D:=fun(t:List Bool) e a w7=>match t with|y1=>e=.exit 0/\∃(S4:D0),∃(A4:Option Addr) (c4:Nat),Cx w C3 S w7 S4/\Ow l8 4 (Wr C3 w) w7.heap S4 (vS A4 y1 c4) y1/\Ag 57 [(3,vS A4 y1 c4)] a) ?_ fuel _ t1 a _ l4 ?_) ?_
  ·clear h l4;rintro⟨x2,l⟩ ct a w6 ⟨S3,A2,c2,A3,c3,cx,f1,i,g,f5,f6,d2,ha⟩ h;refine l0x (NoP.loop (fun t c a w h=>by cases t<;>exact absurd h.1 X')) (fun hq=>?_);unfold d0t at h;refine sq fun K n=>sq fun K n=>Y3 (sg ha 3 [(1,vP q),(3,vS A2 x2 c2),(4,vS A3 l c3),(19,vB (decide ((l.length:Int)>0)))] w6 fun a ha=>?_);refine n ?_;clear n;refine e0B ha rfl (fun y=>?_) (fun y=>?_)
   ·replace h:=itT y h;refine wp_skip (n ?_);clear n;refine sq fun K n=>wp_block (sq fun K n=>?_);refine u0u 10 S3 rfl ?_;intro w8 e1 h7;have kk:=P0.ext S3 h7;replace f1:=f1.L0 kk;replace i:=i.L0 kk;replace g:=g.L0 kk;replace f5:=f5.ext h7;replace f6:=f6.ext h7;replace cx:=cx.ext h7;refine dk 0 (vF q 2) ha hq rfl (Sd.start _ _ _ _) fun p a ha=>?_;refine dv 1 (.slice A_p0_2 p0.States.length c_p0_2) ha hq rfl (fun w2 h8 c0=>b0w w2 rfl rfl Tryz.underlying23 rfl ((k7 _ _ _ _).trans (by rw[zero_add];exact u7.cell (c0 Y') (f1.cell 2 _ rfl)))) p fun p a ha=>?_;refine dk 2 (vS A3 l c3) ha hq rfl p fun p a ha=>?_;obtain⟨k3,h⟩:=b0i h;obtain⟨b4,o2,x0,rfl,q8,q6⟩:=f6.O8.get k3;obtain rfl:=q8;refine dv 3 (vE b4 o2 (0:Int) 1) ha hq rfl (fun w2 h8 c0=>obx w2 rfl rfl rfl Tryz.underlying22 rfl k3) p fun p a ha=>?_;refine dv 4 (vI (gt l 0)) ha hq rfl (fun w2 h8 c0=>b0w w2 rfl rfl Tryz.underlying3 rfl ((k7 _ _ _ _).trans (u7.cell (c0 Y') (q6 0 _ rfl)))) p fun p a ha=>?_;obtain⟨n0,h⟩:=b0i h;obtain⟨b5,o3,u3,rfl,q4,p5⟩:=g.O8.get n0;obtain⟨A5,c5,A6,c6,rfl,f8,f9⟩:=q4;refine dv 5 (vE b5 o3 (gt l 0) 3) ha hq rfl (fun w2 h8 c0=>obx w2 rfl rfl rfl Tryz.underlying23 rfl n0) p fun p a ha=>?_;refine dk 6 (.pointer (some (((⟨b5,o3,none⟩:Addr).add ((gt l 0).toNat*3)).add 2))) ha hq rfl p fun p a ha=>?_;refine dv 7 (vS A6 ((gt p0.States (gt l 0)).Edges) c6) ha hq rfl (fun w2 h8 c0=>b0w w2 rfl rfl Tryz.underlying51 rfl ((n0g _ _ _ _ _).trans (u7.cell (c0 Y') (p5 2 _ rfl)))) p fun p a ha=>?_;refine dk 8 (vI (((gt p0.States (gt l 0)).Edges).length:Int)) ha hq rfl p fun p a ha=>?_;refine dk 9 (vI 0) ha hq rfl p fun p a ha=>?_;refine o03 Y' ?_;replace ha:=ha.to (l':=[(1,vP q),(3,vS A2 x2 c2),(4,vS (ad b4 o2) l c3),(29,vS A6 ((gt p0.States (gt l 0)).Edges) c6),(30,vI (((gt p0.States (gt l 0)).Edges).length:Int)),(31,vI 0)]) Y';refine n ?_;clear n;refine wp_block ?_;obtain⟨t2,k6,h⟩:=a0c h;refine wp_mono (k0i (step:=(b0R fuel p0 x2 l)) (I:=fun(s:List Bool×List Int×Int) a w9=>match s with|(J,x5,o)=>∃(S5:D0),∃(A7:Option Addr) (c7:Nat),∃(A8:Option Addr) (c8:Nat),Cx w C3 S w9 S5/\Bx w9.heap S5 q 25 [vI p0.Tags,vS A_p0_1 p0.Class c_p0_1,vS (ad b5 o3) p0.States c_p0_2]/\Sl (P1 .i64) w9.heap S5 A_p0_1 c_p0_1 p0.Class/\Sl a0W w9.heap S5 (ad b5 o3) c_p0_2 p0.States/\Ow l8 4 (Wr C3 w) w9.heap S5 (vS A7 J c7) J/\G3 (P1 .i64) 3 (Wr C3 w) w9.heap S5 (vS A8 x5 c8) x5/\Sl c0w w9.heap S5 A6 c6 ((gt p0.States (gt l 0)).Edges)/\F6 (vS A7 J c7) (vS A8 x5 c8)/\Ag 57 [(1,vP q),(3,vS A7 J c7),(4,vS A8 x5 c8),(29,vS A6 ((gt p0.States (gt l 0)).Edges) c6),(30,vI (((gt p0.States (gt l 0)).Edges).length:Int)),(31,vI o)] a) (D:=fun(t:List Bool×List Int) e a C=>match t with|(y2,y3)=>e=.exit 2/\∃(S6:D0),∃(A9:Option Addr) (c9:Nat),∃(h0:Option Addr) (R:Nat),Cx w C3 S C S6/\Bx C.heap S6 q 25 [vI p0.Tags,vS A_p0_1 p0.Class c_p0_1,vS (ad b5 o3) p0.States c_p0_2]/\Sl (P1 .i64) C.heap S6 A_p0_1 c_p0_1 p0.Class/\Sl a0W C.heap S6 (ad b5 o3) c_p0_2 p0.States/\Ow l8 4 (Wr C3 w) C.heap S6 (vS A9 y2 c9) y2/\G3 (P1 .i64) 3 (Wr C3 w) C.heap S6 (vS h0 y3 R) y3/\F6 (vS A9 y2 c9) (vS h0 y3 R)/\Ag 57 [(1,vP q),(3,vS A9 y2 c9),(4,vS h0 y3 R)] a) ?_ fuel _ t2 a _ k6 ?_) ?_
    ·clear h k6;rintro⟨J,x5,o⟩ ct a w9 ⟨S5,A7,c7,A8,c8,cx,f1,i,g,f10,f11,f9,d3,ha⟩ h;refine l0x (NoP.loop (fun t c a w h=>by cases t<;>exact absurd h.1 X')) (fun hq=>?_);unfold b0R at h;refine sq fun K n=>Y3 (sg ha 1 [(1,vP q),(3,vS A7 J c7),(4,vS A8 x5 c8),(29,vS A6 ((gt p0.States (gt l 0)).Edges) c6),(30,vI (((gt p0.States (gt l 0)).Edges).length:Int)),(31,vI o),(32,vB (decide (o<(((gt p0.States (gt l 0)).Edges).length:Int))))] w9 fun a ha=>?_);refine n ?_;clear n;refine sq fun K n=>?_;refine e0B ha rfl (fun y=>?_) (fun y=>?_)
     ·replace h:=itT y h;refine wp_skip (n ?_);clear n;refine sq fun K n=>?_;obtain⟨q1,n4,h⟩:=a0c h;refine p0y (D:=fun a U=>∃x7:List Bool,∃x8:List Int,∃(S7:D0),∃(e3:Option Addr) (e7:Nat),∃(e5:Option Addr) (e6:Nat),(x7,x8)=q1/\Cx w C3 S U S7/\Bx U.heap S7 q 25 [vI p0.Tags,vS A_p0_1 p0.Class c_p0_1,vS (ad b5 o3) p0.States c_p0_2]/\Sl (P1 .i64) U.heap S7 A_p0_1 c_p0_1 p0.Class/\Sl a0W U.heap S7 (ad b5 o3) c_p0_2 p0.States/\Ow l8 4 (Wr C3 w) U.heap S7 (vS e3 x7 e7) x7/\G3 (P1 .i64) 3 (Wr C3 w) U.heap S7 (vS e5 x8 e6) x8/\Sl c0w U.heap S7 A6 c6 ((gt p0.States (gt l 0)).Edges)/\F6 (vS e3 x7 e7) (vS e5 x8 e6)/\Ag 57 [(1,vP q),(3,vS e3 x7 e7),(4,vS e5 x8 e6),(29,vS A6 ((gt p0.States (gt l 0)).Edges) c6),(30,vI (((gt p0.States (gt l 0)).Edges).length:Int)),(31,vI o)] a) ?_ ?_
      ·clear h;have h:=n4;refine wp_block (sq fun K n=>Y3 ?_);obtain⟨l0,h⟩:=b0i h;obtain⟨b6,o4,s5,rfl,p3,s0⟩:=f9.O8.get l0;obtain⟨h5,h4,rfl,f16⟩:=p3;refine ov (vE b6 o4 o 2) ha (obx w9 rfl rfl rfl Tryz.underlying51 rfl l0) fun a ha=>?_;refine ov (.agg #[vI ((gt ((gt p0.States (gt l 0)).Edges) o).To),vS h5 ((gt ((gt p0.States (gt l 0)).Edges) o).Src) h4]) ha (u0S (cs:=[vI ((gt ((gt p0.States (gt l 0)).Edges) o).To),vS h5 ((gt ((gt p0.States (gt l 0)).Edges) o).Src) h4]) w9 rfl rfl Tryz.underlying57 rfl Y' (fun j v hj=>(n0g _ _ _ _ _).trans (s0 j v hj))) fun a ha=>?_;refine I0u (d:=6) (z:=[vI 0,.slice none 0 0]) (vs:=[vI ((gt ((gt p0.States (gt l 0)).Edges) o).To),vS h5 ((gt ((gt p0.States (gt l 0)).Edges) o).Src) h4]) (v:=.agg #[vI ((gt ((gt p0.States (gt l 0)).Edges) o).To),vS h5 ((gt ((gt p0.States (gt l 0)).Edges) o).Src) h4]) ha cx Y' rfl Y' (fun _=>Y') rfl rfl (fun _=>Y') Y' Y' Y' ?_;intro a1 b7 cx h2 f17 a ha;have kk:=P0.ext S5 h2;replace f1:=f1.L0 kk;replace i:=i.L0 kk;replace g:=g.L0 kk;replace f10:=f10.ext h2;replace f11:=f11.ext h2;replace f9:=f9.L0 (P0.ext S5 h2);replace f16:=f16.L0 (P0.ext S5 h2);refine n ?_;clear n;refine sq fun K n=>?_;obtain⟨q2,n3,h⟩:=a0c h;refine p0y (D:=fun a w_=>∃x9:Bool,x9=q2/\a1=w_/\Ag 57 [(1,vP q),(3,vS A7 J c7),(4,vS A8 x5 c8),(6,vP b7),(29,vS (ad b6 o4) ((gt p0.States (gt l 0)).Edges) c6),(30,vI (((gt p0.States (gt l 0)).Edges).length:Int)),(31,vI o),(45,vB x9)] a) ?_ ?_
       ·clear h;have h:=n3;refine Y3 (sk ha 1 [(6,vP b7),(29,vS (ad b6 o4) ((gt p0.States (gt l 0)).Edges) c6),(35,vF b7 0)] fun a ha=>?_);refine ov (.int .i64 ((gt ((gt p0.States (gt l 0)).Edges) o).To)) ha (b0w a1 rfl rfl Tryz.underlying3 rfl ((k7 _ _ _ _).trans (by rw[zero_add];exact f17.cell 0 _ rfl))) fun a ha=>?_;refine sk ha 2 [(38,vB (decide (((gt ((gt p0.States (gt l 0)).Edges) o).To)>=0)))] fun a ha=>?_;refine s0F (t:=38) ha rfl (fun y ha=>?_) (fun y ha=>?_)
        ·replace h:=itT y h;refine sk ha 2 [(38,vB true),(39,vS A7 J c7),(40,vF b7 0)] fun a ha=>?_;refine ov (.int .i64 ((gt ((gt p0.States (gt l 0)).Edges) o).To)) ha (b0w a1 rfl rfl Tryz.underlying3 rfl ((k7 _ _ _ _).trans (by rw[zero_add];exact f17.cell 0 _ rfl))) fun a ha=>?_;obtain⟨k4,h⟩:=b0i h;obtain⟨b8,o5,y5,rfl,o0,p6⟩:=f10.O8.get k4;obtain rfl:=o0;refine ov (vE b8 o5 ((gt ((gt p0.States (gt l 0)).Edges) o).To) 1) ha (obx a1 rfl rfl rfl Tryz.underlying28 rfl k4) fun a ha=>?_;refine ov (vB (gt J ((gt ((gt p0.States (gt l 0)).Edges) o).To))) ha (b0w a1 rfl rfl Tryz.underlying4 rfl ((k7 _ _ _ _).trans (p6 0 _ rfl))) fun a ha=>?_;refine sk ha 2 [(3,vS (ad b8 o5) J c7),(45,vB (!(gt J ((gt ((gt p0.States (gt l 0)).Edges) o).To))))] fun a ha=>?_;obtain rfl:=sj h;exact⟨_,rfl,rfl,ha.to Y'⟩
        ·replace h:=itF y h;refine sk ha 7 [(45,vB false)] fun a ha=>?_;obtain rfl:=sj h;exact⟨_,rfl,rfl,ha.to Y'⟩
       rintro a _ ⟨x9,rfl,rfl,ha⟩;refine n ?_;clear n;refine e0B ha rfl (fun y=>?_) (fun y=>?_)
       ·replace h:=itT y h;refine sq fun K n=>Y3 (sg ha 2 [(1,vP q),(3,vS A7 J c7),(4,vS A8 x5 c8),(6,vP b7),(29,vS (ad b6 o4) ((gt p0.States (gt l 0)).Edges) c6),(30,vI (((gt p0.States (gt l 0)).Edges).length:Int)),(31,vI o),(46,vS A7 J c7),(47,vF b7 0)] a1 fun a ha=>?_);refine ov (.int .i64 ((gt ((gt p0.States (gt l 0)).Edges) o).To)) ha (b0w a1 rfl rfl Tryz.underlying3 rfl ((k7 _ _ _ _).trans (by rw[zero_add];exact f17.cell 0 _ rfl))) fun a ha=>?_;obtain⟨j1,h⟩:=b0i h;obtain⟨b9,o6,u4,rfl,r2,u0⟩:=f10.O8.get j1;obtain rfl:=r2;refine ov (vE b9 o6 ((gt ((gt p0.States (gt l 0)).Edges) o).To) 1) ha (obx a1 rfl rfl rfl Tryz.underlying28 rfl j1) fun a ha=>?_;refine u0Z (T:=l8) (f:=0) (x':=true) ha cx Y' rfl rfl rfl h0h f10 j1 Y' (k0z _ _ _) Y' (by rintro H2 _ _ rfl;rfl) ?_;intro h9 cx r6 e4 f18 a ha;replace f1:=f1.L0 e4;replace i:=i.L0 e4;replace g:=g.L0 e4;replace f11:=f11.only r6 (f10.1 _ rfl).1 (fun e=>d3.symm _ e rfl);replace f17:=f17.L0 e4;replace f16:=f16.L0 e4;replace f9:=f9.L0 e4;have d6:F6 (vS A8 x5 c8) (vS (ad b9 o6) (J.set (Int.toNat ((gt ((gt p0.States (gt l 0)).Edges) o).To)) true) c7):=fun k hk e=>d3.symm k hk e;have k5:((J.set (Int.toNat ((gt ((gt p0.States (gt l 0)).Edges) o).To)) true)).length=J.length:=List.length_set;replace ha:Ag 57 [(1,.pointer (ad q 0)),(3,.slice (ad b9 o6) (J.set (Int.toNat ((gt ((gt p0.States (gt l 0)).Edges) o).To)) true).length c7),(4,.slice A8 x5.length c8),(6,.pointer (ad b7 0)),(29,.slice (ad b6 o4) ((gt p0.States (gt l 0)).Edges).length c6),(30,.int .i64 (((gt p0.States (gt l 0)).Edges).length:Int)),(31,.int .i64 o)] a:=by rw[k5];exact ha.to Y'
        replace f18:Ow l8 4 (Wr C3 w) h9.heap S5 (.slice (ad b9 o6) (J.set (Int.toNat ((gt ((gt p0.States (gt l 0)).Edges) o).To)) true).length c7) (J.set (Int.toNat ((gt ((gt p0.States (gt l 0)).Edges) o).To)) true):=by rw[k5];exact f18
        refine n ?_;clear n;refine Y3 (sg ha 2 [(1,vP q),(3,vS (ad b9 o6) (J.set (Int.toNat ((gt ((gt p0.States (gt l 0)).Edges) o).To)) true) c7),(29,vS (ad b6 o4) ((gt p0.States (gt l 0)).Edges) c6),(30,vI (((gt p0.States (gt l 0)).Edges).length:Int)),(31,vI o),(50,vS A8 x5 c8),(51,vF b7 0)] h9 fun a ha=>?_);refine ov (.int .i64 ((gt ((gt p0.States (gt l 0)).Edges) o).To)) ha (b0w h9 rfl rfl Tryz.underlying3 rfl ((k7 _ _ _ _).trans (by rw[zero_add];exact f17.cell 0 _ rfl))) fun a ha=>?_;refine j0t (V:=fun b=>.slice (ad b 0) 1 1) (cs:=[vI ((gt ((gt p0.States (gt l 0)).Edges) o).To)]) (T:=3) ha Y' Y' ?_;intro y6 y4 e2 q7 q5 _ a ha;have f19:=s0R (T:=(P1 .i64)) (xs:=[(gt ((gt p0.States (gt l 0)).Edges) o).To]) (m:=1) cx e2 q7 q5 rfl Y' (R1.one (T:=(P1 .i64)) (x:=(gt ((gt p0.States (gt l 0)).Edges) o).To) rfl);replace f19:=E08 cx f19;have kk:=P0.ext S5 e2;replace f1:=f1.L0 kk;replace i:=i.L0 kk;replace g:=g.L0 kk;replace f18:=f18.ext e2;replace f9:=f9.L0 (P0.ext S5 e2);replace f11:=f11.ext e2;replace cx:=cx.ext e2;obtain⟨p4,h⟩:=b0i h;refine y0y (T:=(P1 .i64)) (xs:=x5) (ys:=[(gt ((gt p0.States (gt l 0)).Edges) o).To]) (z:=vI 0) (bytes:=8) ha cx Y' rfl rfl rfl Tryz.underlying22 Y' Y' h0h f11 f19.O8 p4 ?_;intro u2 S8 j3 j2 cx e9 p8 s4 l2 f20 a ha;replace f1:=f1.L0 e9;replace i:=i.L0 e9;replace g:=g.L0 e9;have d7:F6 (vS (ad b9 o6) (J.set (Int.toNat ((gt ((gt p0.States (gt l 0)).Edges) o).To)) true) c7) (vS j3 (x5++[(gt ((gt p0.States (gt l 0)).Edges) o).To]) j2):=F6.grow d6.symm f18.lt l2;replace f18:=f18.L0 e9 p8 (fun b y=>s4 b (f18.lt b y) (d6.symm b y));replace f9:=f9.L0 e9;refine sk ha 1 [(4,vS j3 (x5++[(gt ((gt p0.States (gt l 0)).Edges) o).To]) j2)] fun a ha=>?_;obtain rfl:=sj h;exact⟨_,_,_,(ad b9 o6),c7,j3,j2,rfl,cx,f1,i,g,f18,f20,f9,d7,ha.to Y'⟩
       ·replace h:=itF y h;refine wp_skip ?_;obtain rfl:=sj h;exact⟨_,_,_,A7,c7,A8,c8,rfl,cx,f1,i,g,f10,f11,f9,d3,ha.to Y'⟩
      rintro a U ⟨x7,x8,S7,e3,e7,e5,e6,rfl,cx,f1,i,g,f14,f15,f9,d5,ha⟩;refine n ?_;clear n;refine Y3 (sg ha 2 [(1,vP q),(3,vS e3 x7 e7),(4,vS e5 x8 e6),(29,vS A6 ((gt p0.States (gt l 0)).Edges) c6),(30,vI (((gt p0.States (gt l 0)).Edges).length:Int)),(31,vI (W (o+1)))] U fun a ha=>?_);obtain rfl:=sj h;exact⟨_,rfl,S7,e3,e7,e5,e6,cx,f1,i,g,f14,f15,f9,d5,ha.to Y'⟩
     ·replace h:=itF y h;refine wp_exit ?_;obtain rfl:=sj h;exact⟨_,rfl,rfl,S5,A7,c7,A8,c8,cx,f1,i,g,f10,f11,d3,ha.to Y'⟩
    ·exact⟨S3,A2,c2,(ad b4 o2),c3,cx,f1,i,g,f5,f6,f9,d2,ha.to Y'⟩
    intro e a C hd;obtain⟨y2,y3⟩:=t2;obtain⟨rfl,S6,A9,c9,h0,R,cx,f1,i,g,f12,f13,d4,ha⟩:=hd;refine n ?_;clear n;refine Y3 (sg ha 1 [(1,vP q),(3,vS A9 y2 c9),(20,vS h0 y3 R)] C fun a ha=>?_);obtain⟨r3,h⟩:=b0i h;obtain⟨h6,n1,f21,l1⟩:=G3.tail_at (P:=Tryz.prog) (t:=22) (lo:=vI 1) Tryz.underlying22 Y' f13 r3;refine ov (vS h6 (G1 y3 1 (y3.length:Int)) (R-(1:Int).toNat)) ha (o0L C rfl (n1 C)) fun a ha=>?_;have d8:F6 (vS A9 y2 c9) (vS h6 (G1 y3 1 (y3.length:Int)) (R-(1:Int).toNat)):=fun k hk e=>d4 k hk ((l1 k).1 e);refine sk ha 1 [(4,vS h6 (G1 y3 1 (y3.length:Int)) (R-(1:Int).toNat))] fun a ha=>?_;obtain rfl:=sj h;exact⟨_,rfl,S6,A9,c9,h6,(R-(1:Int).toNat),cx,f1,i,g,f12,f21,d8,ha.to Y'⟩
   ·replace h:=itF y h;refine wp_exit ?_;obtain rfl:=sj h;exact⟨_,rfl,rfl,S3,A2,c2,cx,f5,ha.to Y'⟩
  ·exact⟨S2,(ad b2 o1),c1,(ad b3 0),1,cx,f1,i,g,f3,f4,d1,ha.to Y'⟩
  intro e a w7 hd;generalize t1=y1 at *;obtain⟨rfl,S4,A4,c4,cx,f7,ha⟩:=hd;refine n ?_;clear n;refine sq fun K n=>Y3 (sg ha 2 [(2,vS A4 y1 c4)] w7 fun a ha=>?_);refine n ?_;clear n;refine wp_ret ?_;obtain rfl:=sj h;show bodyPost Tryz.prog Tryz.f13 (R13 w S _) .ret a w7;exact j0g (r1:=.tmp 2) (v1:=vS A4 y1 c4) ha rfl (.inl rfl) rfl ⟨_,rfl,cx.below,⟨_,_,rfl,f7.result cx.sub⟩⟩
def E0N (F:Nat):U0 en (j0D F):=by
 intro w S us pl x y hm a m p o;have a:Go.X.E2 en w.heap S [.d (.st 2)] x us pl:=a;unfold Go.X.E2 at a;obtain⟨c,u,t,p1,C,rfl,rfl,q,h1,n⟩:=a;obtain⟨rfl,rfl⟩:=Go.X.c0e n;unfold Go.X.SR at h1;obtain⟨rfl,h1⟩:=h1;obtain⟨A,c1,z,c2,rfl,g1,g2⟩:=t0n.1 h1;subst q;refine(A0o F m g1 g2 hm).mono ?_
 rintro e w1 ⟨v,rfl,hb,A3,c3,rfl,hown⟩
 refine⟨_,S,[],rfl,?_,⟨hb.os,hb.tape,hb.output,hb.size,fun k hk _=>hb.block k hk⟩,⟨hb.size,fun b f hn=>⟨hn,hb.block b f⟩⟩,fun b h _=>h,fun b h=>Nat.lt_of_lt_of_le (m b h) hb.size,by intro i j v I _ l;simp at l,by rintro b ⟨v,l,_⟩;simp at l⟩;have g:Sl l8 w1.heap S A3 c3 (show List Bool from y):=by
  have s:=Ow.z0x hown;refine s.L0 ⟨Nat.le_refl _,fun b f hn=>⟨fun hs=>hn ?_,rfl⟩⟩;refine⟨.inr hs,fun e=>?_⟩;have:=(hown.own b e).2;rcases this with h|h
  ·exact h
  ·have:=m b hs;omega
 refine Go.X.U9 (E:=en) (x:=.d (.list .bool)) (r:=[]) ⟨[.slice A3 (show List Bool from y).length c3],_,[],[],[],rfl,rfl,rfl,?_,Go.X.a0M⟩;unfold Go.X.SR;exact⟨rfl,A3,c3,rfl,g⟩
