/- P. Its conditions: none. -/
import Derived.Shelf.SlSortCmp.NoneTotal
import Derived.Ground.SlsfProg
import Derived.Test.YtbccffnofdnpoaaGreatProg
import Derived.Test.YtbccffnofdnpoaaGreatAG26
import Derived.Test.YtbccffnofdnpoaaGreatAVMap
import Derived.Test.YtbccffnofdnpoaaGreatAVShort
import Derived.Test.YtbccffnofdnpoaaGreatAG24
open List (length_replicate length_append length_take length_drop)
open Nat (le_total min_eq_left mul_one)
set_option linter.all false
namespace Go.Proofs
open Go.Shelf
def Tryz.q0J:Go.Shelf.Ren:=⟨fun|6=>151|15=>162|14=>165|28=>177|29=>178|20=>179|21=>180|22=>181|23=>182|24=>183|25=>184|26=>185|27=>186|46=>194|47=>189|48=>190|49=>195|50=>196|57=>198|n=>n,fun|22=>224|24=>169|25=>298|3=>3|39=>247|0=>0|53=>288|55=>112|4=>4|46=>313|45=>312|50=>163|5=>5|9=>9|66=>325|70=>233|76=>332|77=>333|n=>n,fun|n=>n⟩
def Tryz.K0H:Go.Proofs.SlLaysF0.n6 Tryz.prog Tryz.q0J:={
 mixed:=Y'
 f6:=⟨Tryz.f151.name,by decide,Tryz.func151.trans (congrArg some Y')⟩
 f14:=⟨Tryz.f165.name,by decide,Tryz.func165.trans (congrArg some Y')⟩
 f15:=Tryz.func162.trans (congrArg some Y')
 f20:=⟨Tryz.f179.name,by decide,Tryz.func179.trans (congrArg some Y')⟩
 f21:=⟨Tryz.f180.name,by decide,Tryz.func180.trans (congrArg some Y')⟩
 f22:=⟨Tryz.f181.name,by decide,Tryz.func181.trans (congrArg some Y')⟩
 f23:=⟨Tryz.f182.name,by decide,Tryz.func182.trans (congrArg some Y')⟩
 f24:=⟨Tryz.f183.name,by decide,Tryz.func183.trans (congrArg some Y')⟩
 f25:=⟨Tryz.f184.name,by decide,Tryz.func184.trans (congrArg some Y')⟩
 f26:=⟨Tryz.f185.name,by decide,Tryz.func185.trans (congrArg some Y')⟩
 f27:=⟨Tryz.f186.name,by decide,Tryz.func186.trans (congrArg some Y')⟩
 f28:=Tryz.func177.trans (congrArg some Y')
 f29:=Tryz.func178.trans (congrArg some Y')
 f46:=⟨Tryz.f194.name,by decide,Tryz.func194.trans (congrArg some Y')⟩
 f47:=Tryz.func189.trans (congrArg some Y')
 f48:=Tryz.func190.trans (congrArg some Y')
 f49:=⟨Tryz.f195.name,by decide,Tryz.func195.trans (congrArg some Y')⟩
 f50:=⟨Tryz.f196.name,by decide,Tryz.func196.trans (congrArg some Y')⟩
 f57:=⟨Tryz.f198.name,by decide,Tryz.func198.trans (congrArg some Y')⟩
 t0:=Tryz.underlying0
 a0:=Tryz.isAgg0
 z0:=Tryz.sizeOf0
 v0:=Tryz.zeroValue0
 t3:=Tryz.underlying3
 a3:=Tryz.isAgg3
 z3:=Tryz.sizeOf3
 v3:=Tryz.zeroValue3
 t4:=Tryz.underlying4
 a4:=Tryz.isAgg4
 z4:=Tryz.sizeOf4
 v4:=Tryz.zeroValue4
 t5:=Tryz.underlying5
 a5:=Tryz.isAgg5
 z5:=Tryz.sizeOf5
 v5:=Tryz.zeroValue5
 t9:=Tryz.underlying9
 a9:=Tryz.isAgg9
 z9:=Tryz.sizeOf9
 v9:=Tryz.zeroValue9
 t22:=Tryz.underlying224
 a22:=Tryz.isAgg224
 z22:=Tryz.sizeOf224
 v22:=Tryz.zeroValue224
 t25:=Tryz.underlying298
 a25:=Tryz.isAgg298
 z25:=Tryz.sizeOf298
 v25:=Tryz.zeroValue298
 t39:=Tryz.underlying247
 a39:=Tryz.isAgg247
 z39:=Tryz.sizeOf247
 v39:=Tryz.zeroValue247
 t45:=Tryz.underlying312
 a45:=Tryz.isAgg312
 z45:=Tryz.sizeOf312
 v45:=Tryz.zeroValue312
 t46:=Tryz.underlying313
 a46:=Tryz.isAgg313
 z46:=Tryz.sizeOf313
 v46:=Tryz.zeroValue313
 t50:=Tryz.underlying163
 a50:=Tryz.isAgg163
 z50:=Tryz.sizeOf163
 v50:=Tryz.zeroValue163
 t53:=Tryz.underlying288
 a53:=Tryz.isAgg288
 z53:=Tryz.sizeOf288
 v53:=Tryz.zeroValue288
 t55:=Tryz.underlying112
 a55:=Tryz.isAgg112
 z55:=Tryz.sizeOf112
 v55:=Tryz.zeroValue112
 t66:=Tryz.underlying325
 a66:=Tryz.isAgg325
 z66:=Tryz.sizeOf325
 v66:=Tryz.zeroValue325
 t70:=Tryz.underlying233
 a70:=Tryz.isAgg233
 z70:=Tryz.sizeOf233
 v70:=Tryz.zeroValue233
 t76:=Tryz.underlying332
 a76:=Tryz.isAgg332
 z76:=Tryz.sizeOf332
 v76:=Tryz.zeroValue332
 t77:=Tryz.underlying333
 a77:=Tryz.isAgg333
 z77:=Tryz.sizeOf333
 v77:=Tryz.zeroValue333 }
open Go.V Go.Sort Go.RowKit
set_option maxRecDepth 20000
def Tryz.I0N:∀w,(isAgg (Tryz.q0J.t 24)).run Tryz.prog w=.ok true w:=Tryz.isAgg169
def Tryz.L0d:∀w,(Go.sizeOf (Tryz.q0J.t 24)).run Tryz.prog w=.ok 3 w:=Tryz.sizeOf169
def Tryz.N0c:∀args w,(callFunc 152 args).run Tryz.prog w=.ok (.enter 152 args) w:=enters_of Tryz.func152 Y' rfl
def Tryz.E0k (x y:X3)(w:World):Calls Tryz.prog 152 #[.agg x.cells.toArray,.agg y.cells.toArray] w fun e w'=>e=.returned (.int .i64 (x.to-y.to))/\∃q j,w'=grow (w.drewN q) j:=by
 have hw:=x.wrap y;obtain⟨a,b,c,h1,s,p⟩:=x;obtain⟨d,e,f,r,t,u⟩:=y;simp only[X3.cells]at *;refine n0H (vs:=[.agg #[.int .i64 a,.int .i64 b,c],.agg #[.int .i64 d,.int .i64 e,f]]) Tryz.func152 rfl rfl ?_;intro g ha;refine wp_seq_k (fun K h=>?_);refine E6 ?_;refine d0b (v:=.pointer (some ⟨w.heap.size,0,none⟩)) (w':=w.alloc (.cells #[.int .i64 a,.int .i64 b,c] 169)) ha Y' Y' ?_;intro g ha;refine d0b (v:=.pointer (some ⟨(w.alloc (.cells #[.int .i64 a,.int .i64 b,c] 169)).heap.size,0,none⟩)) (w':=(w.alloc (.cells #[.int .i64 a,.int .i64 b,c] 169)).alloc (.cells #[.int .i64 d,.int .i64 e,f] 169)) ha Y' Y' ?_;intro g ha;generalize i:(w.alloc (.cells #[.int .i64 a,.int .i64 b,c] 169)).alloc (.cells #[.int .i64 d,.int .i64 e,f] 169)=W at *;have m:W.heap[w.heap.size]?=some (.cells #[.int .i64 a,.int .i64 b,c] 169 (0,0)):=by
  subst i;exact((Below.new (w.alloc (.cells #[.int .i64 a,.int .i64 b,c] 169)) _).block _ V').trans (heap_alloc_new w _)
 have k2:W.heap[(w.alloc (.cells #[.int .i64 a,.int .i64 b,c] 169)).heap.size]?=some (.cells #[.int .i64 d,.int .i64 e,f] 169 (0,0)):=by
  subst i;exact heap_alloc_new (w.alloc (.cells #[.int .i64 a,.int .i64 b,c] 169)) _
 have c1:W.cell? ((⟨w.heap.size,0,none⟩:Addr).add 0)=some (.int .i64 a):=(a01 _ _ _ _).trans (by unfold D2;rw[m];rfl);have c2:W.cell? ((⟨(w.alloc (.cells #[.int .i64 a,.int .i64 b,c] 169)).heap.size,0,none⟩:Addr).add 0)=some (.int .i64 d):=(a01 _ _ _ _).trans (by unfold D2;rw[k2];rfl);have hg:W=grow (w.drewN 0) #[.cells #[.int .i64 a,.int .i64 b,c] 169,.cells #[.int .i64 d,.int .i64 e,f] 169]:=by subst i;rw[alloc_eq_grow,alloc_eq_grow,grow_grow];rfl
 generalize (w.alloc (.cells #[.int .i64 a,.int .i64 b,c] 169)).heap.size=p2 at *;generalize w.heap.size=p1 at *;refine j0w ha (k:=1) (ks:=[2,3]) (l':=[(2,.pointer (some ⟨p1,0,none⟩)),(3,.pointer (some ⟨p2,0,none⟩))]) (w':=W) Y' ?_;intro g ha;refine h _ _ ?_;clear h;refine wp_seq_k (fun K h=>?_);refine E6 ?_;refine j0w ha (k:=1) (ks:=[3,5]) (l':=[(3,.pointer (some ⟨p2,0,none⟩)),(5,.pointer (some ((⟨p1,0,none⟩:Addr).add 0)))]) (w':=W) Y' ?_;intro g ha;refine d0b (v:=.int .i64 a) ha Y' (w0Y W rfl rfl Tryz.underlying3 rfl c1) ?_;intro g ha;refine j0w ha (k:=1) (ks:=[6,7]) (l':=[(6,.int .i64 a),(7,.pointer (some ((⟨p2,0,none⟩:Addr).add 0)))]) (w':=W) Y' ?_;intro g ha;refine d0b (v:=.int .i64 d) ha Y' (w0Y W rfl rfl Tryz.underlying3 rfl c2) ?_;intro g ha;refine j0w ha (k:=2) (ks:=[4]) (l':=[(4,.int .i64 (IntKind.wrap .i64 (a-d)))]) (w':=W) Y' ?_;intro g ha;refine h _ _ ?_;refine wp_ret ?_;refine x0L (r1:=.tmp 4) (v1:=.int .i64 (IntKind.wrap .i64 (a-d))) ha rfl (.inl rfl) rfl ⟨by rw[hw],0,_,hg⟩
end Go.Proofs
namespace Go.V
open Go.RowKit
abbrev G0a (n:Nat):={l:List Bool // l.length=n}
instance (n:Nat):Inhabited (G0a n):=⟨⟨List.replicate n false,length_replicate⟩⟩
variable {P:Program}{ops:Array Oper}{n:Nat}{Q:Exit->Act->World->Prop}{l:FL}{a:Act}{w:World}{o:Oper}{rest:List Oper}
def Q8.only {w0 w w1:World}{b:Nat}(h:Q8 w0 w)(d:w0.heap.size<=b)(hs:w0.heap.size<=w.heap.size)(c:T6 b w w1):Q8 w0 w1:=
 fun k hk=>(c.block k (Nat.lt_of_lt_of_le hk hs) (fun e=>O')).trans (h k hk)
end Go.V
namespace Go.V
open Go.RowKit
variable {P:Program}{ops:Array Oper}{n:Nat}{Q:Exit->Act->World->Prop}{l:FL}{a:Act}{w:World}{o:Oper}{rest:List Oper}
def F0M {α:Type}{T:Ty α}{H:M0}{S M:E0}{t e:TypeId}{lo:Value}{A:Option Addr}{c:Nat}{xs:List α}{k:IntKind}{vlo:Int}(q:P.underlying t=some (.slice e))(p:(P.info? e).map (·.size)=some T.sz)
  (f:Ow T e M H S (.slice A xs.length c) xs) (hk:b5 xs vlo xs.length=true) (g:lo=.int k vlo:=by rfl):
  ∃m,(∀w,(Instr.sliceAt t (.slice A xs.length c) (some lo) none none).run P w=.ok (.slice m (xs.length-vlo.toNat) (c-vlo.toNat)) w)/\(vlo<xs.length->m=A.map (·.add (vlo.toNat*T.sz))):=by
 subst g;have d:=hk;simp only[b5,Bool.and_eq_true,decide_eq_true_eq]at d;obtain⟨⟨s,h1⟩,u⟩:=d;have j:=f.cap;obtain⟨inf,b,i⟩:=Option.map_eq_some_iff.1 p;refine⟨if c=vlo.toNat then A else A.map (·.add (vlo.toNat*T.sz)),fun w=>?_,fun h=>by rw[if_neg O']⟩;have r:=run_sliceBound (P:=P) (w:=w) k vlo xs.length .sliceB O' O';simp only[Instr.sliceAt,Instr.slice,Instr.sliceBounds,Sem.run_bind,run_underlying q,Result.andThen_ok];simp[r,sizeOf,typeInfo,b,i]
def a0i {α:Type}(xs:List α)(lo hi:Int):List α:=xs.take lo.toNat++o5 (xs.drop lo.toNat) (U1 xs 0 hi)
def h0Q {α:Type}(xs:List α)(lo hi:Int):(a0i xs lo hi).length=xs.length:=by
 unfold a0i;rw[length_append,c0k,length_take,length_drop];omega
def M0I {α:Type}{T:Ty α}{w0:World}{W0 Wf S0 S:E0}{t e:TypeId}{x y:Operand}{A A1:Option Addr}{c:Nat}{xs:List α}{lo hi:Int}(ha:Ag n l a)(cx:Cx w0 W0 S0 w S)(hf:(gate ops l o==some true&&fit n l o)=true)
  (ho:o.op=.call { callee:=.builtin .copy,args:=#[x,y],argTypes:=#[t,t] }) (p:lk l x=.slice A1 (xs.length-lo.toNat) (c-lo.toNat)) (hy:lk l y=.slice A (U1 xs 0 hi).length c) (ht:P.underlying t=some (.slice e)) (hE:(P.info? e).map (·.size)=some 1) (I:T.sz=1)
  (hW:∀k,Wr Wf w0 k->Wr W0 w0 k) (d:Ow T e (Wr Wf w0) w.heap S (.slice A xs.length c) xs) (e1:b5 xs lo xs.length=true) (b4:b5 xs 0 hi=true) (q:lo<xs.length->A1=A.map (·.add (lo.toNat*T.sz)))
  (h:∀w1,Cx w0 W0 S0 w1 S->(∀k,k<w.heap.size->(Value.slice A xs.length c).ownBlock≠some k->w1.heap[k]?=w.heap[k]?)->Y0 w.heap S w1.heap S->Ow T e (Wr Wf w0) w1.heap S (.slice A xs.length c) (a0i xs lo hi)->
   ∀a',Ag n (E8 l o.dst (.int .i64 (Nat.min (U1 xs 0 hi).length (xs.length-lo.toNat):Nat))) a'->wpList P ops Q rest a' w1):wpList P ops Q (o :: rest) a w:=by
 have a1:=e1;simp only[b5,Bool.and_eq_true,decide_eq_true_eq]at a1;have b1:=b4;simp only[b5,Bool.and_eq_true,decide_eq_true_eq]at b1;have h7:=f0f b4;have fin:∀(w1:World) (m:Nat),(Builtin.copy_ #[t,t] o.type #[.slice A1 (xs.length-lo.toNat) (c-lo.toNat),.slice A (U1 xs 0 hi).length c]).run P w=.ok (goInt m) w1->m=Nat.min (U1 xs 0 hi).length (xs.length-lo.toNat)->
   Cx w0 W0 S0 w1 S->(∀k,k<w.heap.size->(Value.slice A xs.length c).ownBlock≠some k->w1.heap[k]?=w.heap[k]?)->Y0 w.heap S w1.heap S->Ow T e (Wr Wf w0) w1.heap S (.slice A xs.length c) (a0i xs lo hi)->wpList P ops Q (o :: rest) a w:=by
  intro w1 m hr hm h1 U R h4;refine d0b ha hf (v:=.int .i64 (Nat.min (U1 xs 0 hi).length (xs.length-lo.toNat):Nat)) (w':=w1) ?_ fun a' e7=>h w1 h1 U R h4 a' e7;subst hm;simp only[execOp,ho,resolve,invoke,builtin,Sem.run_bind,Sem.run_pure,Result.andThen_ok,List.map_toArray,List.map_cons,List.map_nil,p,hy,hr];rfl
 by_cases h0:Nat.min (U1 xs 0 hi).length (xs.length-lo.toNat)=0
 ·refine fin w 0 (run_copy_none w t t o.type e A1 A (xs.length-lo.toNat) (c-lo.toNat) (U1 xs 0 hi).length c ht hE h0) h0.symm cx (fun _ _ _=>rfl) (Y0.refl _ _) ?_;have:a0i xs lo hi=xs:=by
   unfold a0i o5;rcases Nat.eq_zero_or_pos (xs.length-lo.toNat)with J|J
   ·rw[show xs.drop lo.toNat=[]from List.drop_of_length_le O'];simp;exact List.take_of_length_le O'
   ·have c6:(U1 xs 0 hi).length=0:=by
     rcases le_total (U1 xs 0 hi).length (xs.length-lo.toNat)with hle|hle
     ·rwa [show Nat.min (U1 xs 0 hi).length (xs.length-lo.toNat)=(U1 xs 0 hi).length from min_eq_left hle]at h0
     ·rw[show Nat.min (U1 xs 0 hi).length (xs.length-lo.toNat)=xs.length-lo.toNat from Nat.min_eq_right hle]at h0;omega
    rw[List.eq_nil_of_length_eq_zero c6];simp
  rw[this];exact d
 ·have h8:0<xs.length-lo.toNat:=by
   rcases Nat.eq_zero_or_pos (xs.length-lo.toNat)with J|J
   ·exact absurd (by rw[J];exact Nat.min_zero _) h0
   ·exact J
  have c8:=d.rdb;have e9:=d.lt;obtain⟨c3,cs,⟨u,b2⟩,s⟩:=d;rcases b2 with⟨hv,J⟩|⟨g,cap,cur,hv,hg,hnc,hm,hcs,htake⟩
  ·omega
  ·simp at hv;obtain⟨rfl,rfl⟩:=hv;have hA:=q O';rw[I,mul_one]at hA u hcs htake;have e5:A1=some ⟨g,lo.toNat,none⟩:=hA.trans (congrArg some (by unfold Addr.add;by_cases hk:lo.toNat=0<;>simp[hk]));subst e5;generalize c5:U1 xs 0 hi=ys at *;have e3:∀(i:Nat) (x:α),ys[i]?=some x->xs[i]?=some x:=by
    intro i x p;have h6:i<ys.length:=(List.getElem?_eq_some_iff.1 p).1;rw[<-c5]at p;unfold U1 at p;rw[List.getElem?_take_of_lt O']at p;simpa using p
   obtain⟨news,z,r⟩:=Y5.news (w:=w) (xs:=ys) (k:=0) (A:=some ⟨g,0,none⟩) (T:=T) (S:=S) (fun i x p=>by
    obtain⟨b,o,cs,h1,U,R⟩:=c8 i x (e3 i x p);exact⟨b,o,cs,h1,U,fun j v hj=>by rw[Nat.zero_add];exact R j v hj⟩)
   have e6:news.length=ys.length:=by rw[z.1,I,mul_one]
   have f:(news.take (xs.length-lo.toNat)).length=Nat.min ys.length (xs.length-lo.toNat):=by rw[length_take,e6];exact Nat.min_comm _ _
   have hle:Nat.min ys.length (xs.length-lo.toNat)<=xs.length-lo.toNat:=Nat.min_le_right _ _;have hr:=run_copy_row (P:=P) w t t o.type e g lo.toNat (xs.length-lo.toNat) (c-lo.toNat) ⟨g,0,none⟩ ys.length c cur e (news.take (xs.length-lo.toNat)) ht hE hg f (fun j v hj=>by
    rw[a01];have e2:news[j]?=some v:=by
     rcases Nat.lt_or_ge j (xs.length-lo.toNat)with h|h
     ·rwa [List.getElem?_take_of_lt h]at hj
     ·rw[List.getElem?_take_eq_none h]at hj;cases hj
    have:=r g 0 rfl j v e2;simpa using this) (by rw[f,hcs];omega) (fun v hv=>z.f0y v (List.mem_of_mem_take hv))
   have b3:=c3 g (by simp[Value.ownBlock]);have h5:=getElem?_lt hg;generalize hN:news.take (xs.length-lo.toNat)=N at *;have C:T6 g w (w.setRow g (cur.toList.take lo.toNat++N++cur.toList.drop (lo.toNat+N.length)).toArray):=⟨rfl,rfl,rfl,by simp[World.setRow],fun k _ hk=>by simp[World.setRow,Array.getElem?_modify,Ne.symm hk]⟩
   have hk:=C.J1 b3.1;have c4:cur.toList.length=c:=by rw[Array.length_toList,hcs]
   refine fin _ _ hr f (C.cx cx (hW _ b3.2)) (fun k hk e4=>C.block k hk (fun e=>e4 (by rw[e];simp[Value.ownBlock]))) hk ⟨c3,cs.take lo.toNat++(N++(cs.drop lo.toNat).drop ys.length),⟨?_,.inr ⟨g,c,(cur.toList.take lo.toNat++N++cur.toList.drop (lo.toNat+N.length)).toArray,by rw[h0Q],setRow_heap w g cur _ e _ hg,by rw[h0Q];exact hnc,hm,?_,?_⟩⟩,?_⟩
   ·rw[h0Q,I,mul_one,length_append,length_append,f,length_drop,length_drop,length_take,u];rcases le_total ys.length (xs.length-lo.toNat)with h|h
    ·rw[show Nat.min ys.length (xs.length-lo.toNat)=ys.length from min_eq_left h];omega
    ·rw[show Nat.min ys.length (xs.length-lo.toNat)=xs.length-lo.toNat from Nat.min_eq_right h];omega
   ·rw[I,mul_one,List.size_toArray,length_append,length_append,length_drop,length_take,c4];omega
   ·rw[h0Q,I,mul_one];show List.take xs.length (cur.toList.take lo.toNat++N++cur.toList.drop (lo.toNat+N.length))=_;have q:(cur.toList.take lo.toNat++N).length=lo.toNat+N.length:=by rw[length_append,length_take,c4];omega
    rw[List.take_append,List.take_of_length_le (by rw[q];omega),q,<-htake,List.take_take,min_eq_left O',List.append_assoc];congr 1;congr 1;rw[List.drop_drop,List.drop_take];rcases le_total ys.length (xs.length-lo.toNat)with h|h
    ·rw[f,show Nat.min ys.length (xs.length-lo.toNat)=ys.length from min_eq_left h]
    ·rw[f,show Nat.min ys.length (xs.length-lo.toNat)=xs.length-lo.toNat from Nat.min_eq_right h,show xs.length-(lo.toNat+(xs.length-lo.toNat))=0 from O',show xs.length-(lo.toNat+ys.length)=0 from O',List.take_zero,List.take_zero]
   ·have h1:=(s.J1 hk).cut lo.toNat;have U:=(z.J1 hk).cut (xs.length-lo.toNat);have R:=((s.J1 hk).tail lo.toNat).tail ys.length;rw[I,mul_one]at h1 U R;rw[mul_one,hN]at *;have h4:=h1.append (U.append R);unfold a0i o5;rw[length_drop,c5];exact h4
end Go.V
set_option maxRecDepth 100000
namespace Go.Proofs.YtbccffnofdnpoaaGreat.Wr
open Go.V Go.RowKit
def i0W (fuel:Nat)(p0:Int)(p1:Int):Option (Int×Int):=
 some ((IntKind.wrap .u64 ((IntKind.wrap .u64 ((IntKind.wrap .u64 ((shr .u64 p0 32)*(shr .u64 p1 32)))+(shr .u64 (IntKind.wrap .u64 ((IntKind.wrap .u64 ((shr .u64 p0 32)*(O3 .u64 p1 4294967295)))+(shr .u64 (IntKind.wrap .u64 ((O3 .u64 p0 4294967295)*(O3 .u64 p1 4294967295))) 32))) 32)))+(shr .u64 (IntKind.wrap .u64 ((O3 .u64 (IntKind.wrap .u64 ((IntKind.wrap .u64 ((shr .u64 p0 32)*(O3 .u64 p1 4294967295)))+(shr .u64 (IntKind.wrap .u64 ((O3 .u64 p0 4294967295)*(O3 .u64 p1 4294967295))) 32))) 4294967295)+(IntKind.wrap .u64 ((O3 .u64 p0 4294967295)*(shr .u64 p1 32))))) 32))),(IntKind.wrap .u64 (p0*p1)))
def h0r (fuel:Nat)(p0:Int)(p1:Int):Option (Int×Int):=
 Option.bind (i0W fuel p0 p1) fun b=>
 some (b.1,b.2)
def c02 (fuel:Nat)(c:Int×Int)(p0:(List Int))(b:List Int×Int):Option (X0 (List Int×Int) (List Int)):=
 let(x3,x4):=b
 if(decide (x4<(x3.length:Int)))then
  if b5 x3 x4 (x3.length:Int)then
   if b5 x3 0 x4 then
    some (.next ((a0i x3 x4 x4),(W (x4+((Nat.min (U1 x3 0 x4).length (x3.length-x4.toNat):Nat):Int)))))
   else none
  else none
 else
  some (.done x3)
def o0G (fuel:Nat)(p0:(List Int))(p1:Int):Option ((List Int)):=
 if(decide (p1<0))then
 none
else
 Option.bind (h0r fuel (IntKind.wrap .u64 ((p0.length:Int))) (IntKind.wrap .u64 (p1))) fun x1=>
  Option.bind ((
   if(decide (x1.1>0))then
    some true
   else
    some (decide (x1.2>9223372036854775807))):Option (Bool)) fun x2=>
   if x2 then
    none
   else
    if F4 8 (W (x1.2))then
     Option.bind (iter (c02 fuel x1 p0) fuel ((o5 (List.replicate (Int.toNat (W (x1.2))) (0:Int)) p0),((Nat.min p0.length (List.replicate (Int.toNat (W (x1.2))) (0:Int)).length:Nat):Int))) fun y1=>
      some y1
    else none
def K0o (w:World)(S:E0)(r:(Int×Int))(v:Value)(w1:World):Prop:=∃v0:Value,∃v1:Value,v=.tuple #[v0,v1]/\(v0=.int .u64 r.1)/\(v1=.int .u64 r.2)
abbrev w0B (w:World)(S:E0)(r:(Int×Int)):Ending->World->Prop:=fun e w1=>∃v,e=.returned v/\Below w.heap.size w w1/\K0o w S r v w1
def G09 (fuel:Nat){w:World}{S:E0}(d:∀b,S b->b<w.heap.size){p0 p1}  {r}(h:i0W fuel p0 p1=some r):
 Calls Tryz.prog 144 #[.int .u64 p0,.int .u64 p1] w (w0B w S r):=by
 refine n0H (vs:=[.int .u64 p0,.int .u64 p1]) Tryz.func144 rfl rfl ?_;intro a ha;have cx:=Cx.start (W0:=C6) d;refine wn fun hq=>?_;unfold i0W at h;refine sq fun K c=>E6 (sg ha 2 [(0,.int .u64 p0),(1,.int .u64 p1)] w fun a ha=>?_);refine c ?_;clear c;refine sq fun K c=>E6 (sk ha 3 [(6,.int .u64 (O3 .u64 p0 4294967295))] fun a ha=>?_);refine c ?_;clear c;refine sq fun K c=>E6 (sk ha 3 [(7,.int .u64 (shr .u64 p0 32))] fun a ha=>?_);refine c ?_;clear c;refine sq fun K c=>E6 (sk ha 3 [(8,.int .u64 (O3 .u64 p1 4294967295))] fun a ha=>?_);refine c ?_;clear c;refine sq fun K c=>E6 (sk ha 3 [(9,.int .u64 (shr .u64 p1 32))] fun a ha=>?_);refine c ?_;clear c;refine sq fun K c=>E6 (sk ha 4 [(10,.int .u64 (IntKind.wrap .u64 ((O3 .u64 p0 4294967295)*(O3 .u64 p1 4294967295))))] fun a ha=>?_);refine c ?_;clear c;refine sq fun K c=>E6 (sk ha 7 [(11,.int .u64 (IntKind.wrap .u64 ((IntKind.wrap .u64 ((shr .u64 p0 32)*(O3 .u64 p1 4294967295)))+(shr .u64 (IntKind.wrap .u64 ((O3 .u64 p0 4294967295)*(O3 .u64 p1 4294967295))) 32))))] fun a ha=>?_);refine c ?_;clear c;refine sq fun K c=>E6 (sk ha 3 [(12,.int .u64 (O3 .u64 (IntKind.wrap .u64 ((IntKind.wrap .u64 ((shr .u64 p0 32)*(O3 .u64 p1 4294967295)))+(shr .u64 (IntKind.wrap .u64 ((O3 .u64 p0 4294967295)*(O3 .u64 p1 4294967295))) 32))) 4294967295))] fun a ha=>?_);refine c ?_;clear c;refine sq fun K c=>E6 (sk ha 3 [(13,.int .u64 (shr .u64 (IntKind.wrap .u64 ((IntKind.wrap .u64 ((shr .u64 p0 32)*(O3 .u64 p1 4294967295)))+(shr .u64 (IntKind.wrap .u64 ((O3 .u64 p0 4294967295)*(O3 .u64 p1 4294967295))) 32))) 32))] fun a ha=>?_);refine c ?_;clear c;refine sq fun K c=>E6 (sk ha 6 [(12,.int .u64 (IntKind.wrap .u64 ((O3 .u64 (IntKind.wrap .u64 ((IntKind.wrap .u64 ((shr .u64 p0 32)*(O3 .u64 p1 4294967295)))+(shr .u64 (IntKind.wrap .u64 ((O3 .u64 p0 4294967295)*(O3 .u64 p1 4294967295))) 32))) 4294967295)+(IntKind.wrap .u64 ((O3 .u64 p0 4294967295)*(shr .u64 p1 32))))))] fun a ha=>?_);refine c ?_;clear c;refine sq fun K c=>E6 (sk ha 9 [(4,.int .u64 (IntKind.wrap .u64 ((IntKind.wrap .u64 ((IntKind.wrap .u64 ((shr .u64 p0 32)*(shr .u64 p1 32)))+(shr .u64 (IntKind.wrap .u64 ((IntKind.wrap .u64 ((shr .u64 p0 32)*(O3 .u64 p1 4294967295)))+(shr .u64 (IntKind.wrap .u64 ((O3 .u64 p0 4294967295)*(O3 .u64 p1 4294967295))) 32))) 32)))+(shr .u64 (IntKind.wrap .u64 ((O3 .u64 (IntKind.wrap .u64 ((IntKind.wrap .u64 ((shr .u64 p0 32)*(O3 .u64 p1 4294967295)))+(shr .u64 (IntKind.wrap .u64 ((O3 .u64 p0 4294967295)*(O3 .u64 p1 4294967295))) 32))) 4294967295)+(IntKind.wrap .u64 ((O3 .u64 p0 4294967295)*(shr .u64 p1 32))))) 32))))] fun a ha=>?_);refine c ?_;clear c;refine sq fun K c=>E6 (sk ha 4 [(5,.int .u64 (IntKind.wrap .u64 (p0*p1)))] fun a ha=>?_);refine c ?_;clear c;refine wp_ret ?_;obtain rfl:=sj h;show bodyPost Tryz.prog Tryz.f144 (w0B w S _) .ret a w;exact x09 (r1:=.tmp 4) (v1:=.int .u64 (IntKind.wrap .u64 ((IntKind.wrap .u64 ((IntKind.wrap .u64 ((shr .u64 p0 32)*(shr .u64 p1 32)))+(shr .u64 (IntKind.wrap .u64 ((IntKind.wrap .u64 ((shr .u64 p0 32)*(O3 .u64 p1 4294967295)))+(shr .u64 (IntKind.wrap .u64 ((O3 .u64 p0 4294967295)*(O3 .u64 p1 4294967295))) 32))) 32)))+(shr .u64 (IntKind.wrap .u64 ((O3 .u64 (IntKind.wrap .u64 ((IntKind.wrap .u64 ((shr .u64 p0 32)*(O3 .u64 p1 4294967295)))+(shr .u64 (IntKind.wrap .u64 ((O3 .u64 p0 4294967295)*(O3 .u64 p1 4294967295))) 32))) 4294967295)+(IntKind.wrap .u64 ((O3 .u64 p0 4294967295)*(shr .u64 p1 32))))) 32)))) (r2:=.tmp 5) (v2:=.int .u64 (IntKind.wrap .u64 (p0*p1))) ha rfl (.inl rfl) rfl rfl ⟨_,rfl,cx.below,⟨_,_,rfl,rfl,rfl⟩⟩
def F0V (w:World)(S:E0)(r:(Int×Int))(v:Value)(w1:World):Prop:=∃v0:Value,∃v1:Value,v=.tuple #[v0,v1]/\(v0=.int .u64 r.1)/\(v1=.int .u64 r.2)
abbrev x0z (w:World)(S:E0)(r:(Int×Int)):Ending->World->Prop:=fun e w1=>∃v,e=.returned v/\Below w.heap.size w w1/\F0V w S r v w1
def O0Q (fuel:Nat){w:World}{S:E0}(i:∀b,S b->b<w.heap.size){p0 p1}  {r}(h:h0r fuel p0 p1=some r):
 Calls Tryz.prog 112 #[.int .u64 p0,.int .u64 p1] w (x0z w S r):=by
 refine n0H (vs:=[.int .u64 p0,.int .u64 p1]) Tryz.func112 rfl rfl ?_;intro a ha;have cx:=Cx.start (W0:=C6) i;refine wn fun hq=>?_;unfold h0r at h;refine sq fun K c=>E6 (sg ha 2 [(0,.int .u64 p0),(1,.int .u64 p1)] w fun a ha=>?_);refine c ?_;clear c;refine sq fun K c=>?_;refine N0r ha rfl ?_;refine wp_skip (c ?_);clear c;refine sq fun K c=>E6 (sk ha 2 [(23,.int .u64 p0),(24,.int .u64 p1)] fun a ha=>?_);obtain⟨d,g,h⟩:=c0p h;refine t0K ha Y' (f:=144) (args:=#[.int .u64 p0,.int .u64 p1]) (w':=w) Y' (G09 fuel (p0:=p0) (p1:=p1) cx.lt g) ?_;rintro v1 w1 ⟨e,hp1⟩ a ha;obtain⟨_,_,rfl,rfl,rfl⟩:=hp1;replace cx:=cx.ext e;refine sk ha 5 [(8,.int .u64 d.1),(9,.int .u64 d.2)] fun a ha=>?_;refine c ?_;clear c;refine sq fun K c=>E6 (sk ha 4 [(4,.int .u64 d.1),(5,.int .u64 d.2)] fun a ha=>?_);refine c ?_;clear c;refine wp_ret ?_;obtain rfl:=sj h;show bodyPost Tryz.prog Tryz.f112 (x0z w S _) .ret a w1;exact x09 (r1:=.tmp 4) (v1:=.int .u64 d.1) (r2:=.tmp 5) (v2:=.int .u64 d.2) ha rfl (.inl rfl) rfl rfl ⟨_,rfl,cx.below,⟨_,_,rfl,rfl,rfl⟩⟩
def J0i (w:World)(S:E0)(r:((List Int)))(v:Value)(w1:World):Prop:=∃(A:Option Addr) (c:Nat),v=.slice A r.length c/\Ow (Z1 .i64) 3 (Wr C6 w) w1.heap (inV v S) v r
abbrev R72 (w:World)(S:E0)(r:((List Int))):Ending->World->Prop:=fun e w1=>∃v,e=.returned v/\Below w.heap.size w w1/\J0i w S r v w1
def H0E (fuel:Nat){w:World}{S:E0}(hS:∀b,S b->b<w.heap.size){p0 p1 A_p0 c_p0}(p:Sl (Z1 .i64) w.heap S A_p0 c_p0 p0){r}(h:o0G fuel p0 p1=some r):
 Calls Tryz.prog 72 #[vS A_p0 p0 c_p0,vI p1] w (R72 w S r):=by
 refine n0H (vs:=[vS A_p0 p0 c_p0,vI p1]) Tryz.func72 rfl rfl ?_;intro a ha;have cx:=Cx.start (W0:=C6) hS;refine wn fun hq=>?_;unfold o0G at h;refine sq fun K g=>E6 (sg ha 1 [(0,vS A_p0 p0 c_p0),(1,vI p1)] w fun a ha=>?_);refine g ?_;clear g;refine sq fun K g=>sq fun K g=>E6 (sk ha 2 [(10,vB (decide (p1<0)))] fun a ha=>?_);refine g ?_;clear g;refine t0I ha rfl (fun q=>?_) (fun q=>?_)
 ·replace h:=itT q h;cases h
 ·replace h:=itF q h;refine wp_skip (g ?_);clear g;refine sq fun K g=>E6 (sk ha 5 [(15,.int .u64 (IntKind.wrap .u64 ((p0.length:Int)))),(17,.int .u64 (IntKind.wrap .u64 (p1)))] fun a ha=>?_);obtain⟨m,c6,h⟩:=c0p h;refine t0K ha Y' (f:=112) (args:=#[.int .u64 (IntKind.wrap .u64 ((p0.length:Int))),.int .u64 (IntKind.wrap .u64 (p1))]) (w':=w) Y' (O0Q fuel (p0:=(IntKind.wrap .u64 ((p0.length:Int)))) (p1:=(IntKind.wrap .u64 (p1))) cx.lt c6) ?_;rintro v1 w1 ⟨b4,hp1⟩ a ha;obtain⟨_,_,rfl,rfl,rfl⟩:=hp1;replace p:=p.J1 (Y0.ext S b4);replace cx:=cx.ext b4;refine sk ha 5 [(5,.int .u64 m.1),(6,.int .u64 m.2)] fun a ha=>?_;refine g ?_;clear g;refine sq fun K g=>sq fun K g=>?_;obtain⟨q1,e4,h⟩:=c0p h;refine F0z (D:=fun a w_=>∃x2:Bool,x2=q1/\w1=w_/\Ag 48 [(0,vS A_p0 p0 c_p0),(6,.int .u64 m.2),(26,vB x2)] a) ?_ ?_
  ·clear h;have h:=e4;refine E6 (sk ha 3 [(23,vB (decide (m.1>0)))] fun a ha=>?_);refine D0R (t:=23) ha rfl (fun q ha=>?_) (fun q ha=>?_)
   ·replace h:=itT q h;refine sk ha 3 [(26,vB true)] fun a ha=>?_;obtain rfl:=sj h;exact⟨_,rfl,rfl,ha.to Y'⟩
   ·replace h:=itF q h;refine sk ha 3 [(26,vB (decide (m.2>9223372036854775807)))] fun a ha=>?_;obtain rfl:=sj h;exact⟨_,rfl,rfl,ha.to Y'⟩
  rintro a _ ⟨x2,rfl,rfl,ha⟩;refine g ?_;clear g;refine t0I ha rfl (fun q=>?_) (fun q=>?_)
  ·replace h:=itT q h;cases h
  ·replace h:=itF q h;refine wp_skip (g ?_);clear g;refine sq fun K g=>E6 (sg ha 2 [(0,vS A_p0 p0 c_p0),(29,vI (W (m.2)))] w1 fun a ha=>?_);obtain⟨e7,h⟩:=s0l h;refine O0S (T:=(Z1 .i64)) (z:=vI 0) (zx:=(0:Int)) (bytes:=8) ha cx Y' rfl rfl rfl Tryz.underlying27 Y' Y' (fun _ _=>rfl) e7 ?_;intro J S1 C c1 cx h2 c5 h0 h3 f1 a ha;replace p:=p.J1 c5;refine sk ha 1 [(7,vS C (List.replicate (Int.toNat (W (m.2))) (0:Int)) c1)] fun a ha=>?_;refine g ?_;clear g;refine sq fun K g=>E6 (sk ha 2 [(31,vS C (List.replicate (Int.toNat (W (m.2))) (0:Int)) c1),(32,vS A_p0 p0 c_p0)] fun a ha=>?_);refine M0x (T:=(Z1 .i64)) (xs:=(List.replicate (Int.toNat (W (m.2))) (0:Int))) (ys:=p0) ha cx Y' rfl rfl rfl Tryz.underlying27 Y' rfl z08 f1 p.rdb ?_;intro w3 cx h5 e9 f2 a ha;have a1:((o5 (List.replicate (Int.toNat (W (m.2))) (0:Int)) p0)).length=(List.replicate (Int.toNat (W (m.2))) (0:Int)).length:=c0k _ _;replace ha:Ag 48 [(7,.slice C (o5 (List.replicate (Int.toNat (W (m.2))) (0:Int)) p0).length c1),(33,.int .i64 ((Nat.min p0.length (List.replicate (Int.toNat (W (m.2))) (0:Int)).length:Nat):Int))] a:=by rw[a1];exact ha.to Y'
   replace f2:Ow (Z1 .i64) 3 (Wr C6 w) w3.heap S1 (.slice C (o5 (List.replicate (Int.toNat (W (m.2))) (0:Int)) p0).length c1) (o5 (List.replicate (Int.toNat (W (m.2))) (0:Int)) p0):=by rw[a1];exact f2
   refine sg ha 1 [(7,vS C (o5 (List.replicate (Int.toNat (W (m.2))) (0:Int)) p0) c1),(8,vI ((Nat.min p0.length (List.replicate (Int.toNat (W (m.2))) (0:Int)).length:Nat):Int))] w3 fun a ha=>?_;refine g ?_;clear g;refine sq fun K g=>wp_block ?_;obtain⟨t1,b3,h⟩:=c0p h;refine wp_mono (w0C (step:=(c02 fuel m p0)) (I:=fun(s:List Int×Int) a w4=>match s with|(k,d)=>∃(x:E0),∃(u:Option Addr) (c2:Nat),Cx w C6 S w4 x/\Ow (Z1 .i64) 3 (Wr C6 w) w4.heap x (vS u k c2) k/\Ag 48 [(7,vS u k c2),(8,vI d)] a) (D:=fun(t:List Int) e a w5=>match t with|y=>e=.exit 0/\∃(S3:E0),∃(A3:Option Addr) (c3:Nat),Cx w C6 S w5 S3/\Ow (Z1 .i64) 3 (Wr C6 w) w5.heap S3 (vS A3 y c3) y/\Ag 48 [(7,vS A3 y c3)] a) ?_ fuel _ t1 a _ b3 ?_) ?_
   ·clear h b3;rintro⟨k,d⟩ ct a w4 ⟨x,u,c2,cx,f3,ha⟩ h;refine x0D (NoP.loop (fun t c a w h=>by cases t<;>exact absurd h.1 V')) (fun hq=>?_);unfold c02 at h;refine sq fun K g=>sq fun K g=>E6 (sg ha 4 [(7,vS u k c2),(8,vI d),(37,vB (decide (d<(k.length:Int))))] w4 fun a ha=>?_);refine g ?_;clear g;refine t0I ha rfl (fun q=>?_) (fun q=>?_)
    ·replace h:=itT q h;refine wp_skip (g ?_);clear g;refine wp_block ?_;refine K0A 7 x rfl ?_;intro w6 e1 b1;replace f3:=f3.ext b1;replace cx:=cx.ext b1;have v:=Y0.refl w6.heap x;have hold:=Q8.start w6;have g1:=f3;refine dk 0 (vI d) ha hq rfl (Sd.start _ _ _ _) fun j a ha=>?_;refine dk 1 (vS u k c2) ha hq rfl j fun j a ha=>?_;refine dk 2 (vI d) ha hq rfl j fun j a ha=>?_;obtain⟨U,h⟩:=s0l h;obtain⟨A4,e5,e2⟩:=F0M (P:=Tryz.prog) (t:=27) (lo:=vI d) Tryz.underlying27 Y' f3 U;refine dv 3 (.slice A4 (k.length-d.toNat) (c2-d.toNat)) ha hq rfl (fun J e3 e6=>z0l J rfl (e5 J)) j fun j a ha=>?_;refine dk 4 (vS u k c2) ha hq rfl j fun j a ha=>?_;refine dk 5 (vI d) ha hq rfl j fun j a ha=>?_;obtain⟨b2,h⟩:=s0l h;obtain⟨c8,_⟩:=u0a (P:=Tryz.prog) (t:=27) (hi:=vI d) Tryz.underlying27 Y' f3 b2;refine dv 6 (.slice u ((U1 k 0 d).length) c2) ha hq rfl (fun J e3 e6=>z0l J rfl (c8 J)) j fun j a ha=>?_;refine z0z (i:=7) Y' rfl ?_;refine M0I (T:=(Z1 .i64)) (xs:=k) (lo:=d) (hi:=d) ha cx Y' rfl rfl rfl Tryz.underlying27 Y' rfl z08 f3 U b2 e2 ?_;intro w7 cx h4 c4 f7 a ha;have R:((a0i k d d)).length=k.length:=h0Q _ _ _;replace ha:Ag 48 [(7,.slice u (a0i k d d).length c2),(38,.int .i64 d),(45,.int .i64 ((Nat.min (U1 k 0 d).length (k.length-d.toNat):Nat):Int))] a:=by rw[R];exact ha.to Y'
     replace f7:Ow (Z1 .i64) 3 (Wr C6 w) w7.heap x (.slice u (a0i k d d).length c2) (a0i k d d):=by rw[R];exact f7
     replace v:=v.trans c4;refine u0r (Sd.behind v Y') ?_;refine dk 8 (vI (W (d+((Nat.min (U1 k 0 d).length (k.length-d.toNat):Nat):Int)))) ha hq rfl (Sd.behind v Y') fun j a ha=>?_;refine dk 9 (vI (W (d+((Nat.min (U1 k 0 d).length (k.length-d.toNat):Nat):Int)))) ha hq rfl j fun j a ha=>?_;refine x0T Y' ?_;replace ha:=ha.to (l':=[(7,vS u (a0i k d d) c2),(8,vI (W (d+((Nat.min (U1 k 0 d).length (k.length-d.toNat):Nat):Int))))]) Y';obtain rfl:=sj h;exact⟨_,rfl,x,u,c2,cx,f7,ha.to Y'⟩
    ·replace h:=itF q h;refine wp_exit ?_;obtain rfl:=sj h;exact⟨_,rfl,rfl,x,u,c2,cx,f3,ha.to Y'⟩
   ·exact⟨S1,C,c1,cx,f2,ha.to Y'⟩
   intro e a w5 hd;generalize t1=y at *;obtain⟨rfl,S3,A3,c3,cx,f4,ha⟩:=hd;refine g ?_;clear g;refine sq fun K g=>E6 (sg ha 2 [(4,vS A3 y c3)] w5 fun a ha=>?_);refine g ?_;clear g;refine wp_ret ?_;obtain rfl:=sj h;show bodyPost Tryz.prog Tryz.f72 (R72 w S _) .ret a w5;exact x0L (r1:=.tmp 4) (v1:=vS A3 y c3) ha rfl (.inl rfl) rfl ⟨_,rfl,cx.below,⟨_,_,rfl,f4.result cx.sub⟩⟩
def B0f:∀k,k<1001->h0r 0 (IntKind.wrap .u64 1) (IntKind.wrap .u64 ((k:Nat):Int))=some (0,(k:Int)):=by decide+kernel
def G0X {fuel k:Nat}{v:Int}(hk:k<=1000)(s:1000<fuel):o0G fuel [v] (k:Int)=some (List.replicate k v):=by
 have hm:h0r fuel (IntKind.wrap .u64 (([v].length:Nat):Int)) (IntKind.wrap .u64 (k:Int))=some (0,(k:Int)):=B0f k O';have loop:∀(m n fu:Nat),1<=n->n<=k->k-n<=m->m<fu->iter (c02 fuel (0,(k:Int)) [v]) fu (List.replicate n v++List.replicate (k-n) 0,(n:Int))=some (List.replicate k v):=by
  intro m
  induction m with
  |zero=>
   intro n fu h1 r i j;obtain⟨fu,rfl⟩:∃q,fu=q+1:=⟨fu-1,O'⟩
   have:n=k:=O'
   subst this;unfold iter c02;simp
  |succ m ih=>
   intro n fu h1 r i j;obtain⟨fu,rfl⟩:∃q,fu=q+1:=⟨fu-1,O'⟩
   by_cases c:n=k
   ·subst c;unfold iter c02;simp
   ·have hlen:(List.replicate n v++List.replicate (k-n) (0:Int)).length=k:=by simp;omega
    have b:U1 (List.replicate n v++List.replicate (k-n) (0:Int)) 0 (n:Int)=List.replicate n v:=by
     unfold U1;simp
    have d:a0i (List.replicate n v++List.replicate (k-n) (0:Int)) (n:Int) (n:Int)=List.replicate (n+min n (k-n)) v++List.replicate (k-(n+min n (k-n))) 0:=by
     unfold a0i o5;rw[b];simp only[Int.toNat_natCast];rw[List.take_left' V',List.drop_left' V'];simp only[length_replicate,List.take_replicate,List.drop_replicate];rw[Nat.min_comm (k-n) n,show k-(n+min n (k-n))=k-n-n from O',<-List.append_assoc,List.replicate_append_replicate]
    have f:c02 fuel (0,(k:Int)) [v] (List.replicate n v++List.replicate (k-n) 0,(n:Int))=some (.next (List.replicate (n+min n (k-n)) v++List.replicate (k-(n+min n (k-n))) 0,((n+min n (k-n):Nat):Int))):=by
     unfold c02;have s1:b5 (List.replicate n v++List.replicate (k-n) (0:Int)) (n:Int) (k:Int)=true:=by
      unfold b5;rw[hlen];simp;omega
     have s2:b5 (List.replicate n v++List.replicate (k-n) (0:Int)) 0 (n:Int)=true:=by
      unfold b5;rw[hlen];simp;omega
     have hd:(n:Int)<(k:Int):=O'
     have h:Nat.min n (k-n)<=n:=Nat.min_le_left _ _;simp only[hlen,hd,decide_true,if_true,s1,s2,d,b,length_replicate,Int.toNat_natCast];rw[J3 O' O'];rfl
    unfold iter;rw[f];exact ih (n+min n (k-n)) fu O' O' O' O'
 unfold o0G;have g:¬(k:Int)<0:=O'
 simp only[q0,g,hm,show ¬((0:Int)>0) from O',show ¬((k:Int)>9223372036854775807) from O',J3 (n:=(k:Int)) O' O',Int.toNat_natCast];rw[if_pos (show F4 8 (k:Int)=true by unfold F4;simp;omega)];rcases Nat.eq_zero_or_pos k with h0|h0
 ·subst h0;obtain⟨fu,rfl⟩:∃q,fuel=q+1:=⟨fuel-1,O'⟩
  simp[o5,iter,c02]
 ·have:=loop k 1 fuel O' O' O' O';have p:o5 (List.replicate k (0:Int)) [v]=List.replicate 1 v++List.replicate (k-1) 0:=by
   unfold o5;simp only[length_replicate,List.length_singleton,List.drop_replicate];rw[List.take_of_length_le Z'];rfl
  have e:((Nat.min [v].length (List.replicate k (0:Int)).length:Nat):Int)=((1:Nat):Int):=by
   simp only[length_replicate,List.length_singleton];congr 1;exact min_eq_left h0
  rw[p,e,this];rfl
