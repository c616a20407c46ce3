/- P. Its conditions: none. -/
import Derived.Shelf.SlSortCmp.NoneTotal
import Derived.Ground.SlsfProg
import Derived.Test.YtmhooikfkhjijaaGreatProg
import Derived.Test.YtmhooikfkhjijaaGreatYVSort
import Derived.Test.YtmhooikfkhjijaaGreatYG02
import Derived.Test.YtmhooikfkhjijaaGreatYVShort
import Derived.Test.YtmhooikfkhjijaaGreatYG24
open List (length_replicate length_append length_take length_drop)
open Nat (le_total min_eq_left mul_one)
set_option linter.all false
namespace Go.Proofs
open Go.Shelf
def Tryz.n0Y:Go.Shelf.Ren:=⟨fun|6=>177|15=>199|14=>198|28=>215|29=>216|20=>207|21=>208|22=>209|23=>210|24=>211|25=>212|26=>213|27=>214|46=>221|47=>222|48=>223|49=>224|50=>225|57=>226|n=>n,fun|22=>66|24=>194|25=>272|3=>3|39=>291|0=>0|53=>309|55=>141|4=>4|46=>303|45=>302|50=>224|5=>5|9=>9|66=>316|70=>242|76=>321|77=>322|n=>n,fun|n=>n⟩
def Tryz.y0q:Go.Proofs.SlLaysF0.n6 Tryz.prog Tryz.n0Y:={
 mixed:=by kernel_rfl
 f6:=⟨Tryz.f177.name,by decide,Tryz.func177.trans (congrArg some (by kernel_rfl))⟩
 f14:=⟨Tryz.f198.name,by decide,Tryz.func198.trans (congrArg some (by kernel_rfl))⟩
 f15:=Tryz.func199.trans (congrArg some (by kernel_rfl))
 f20:=⟨Tryz.f207.name,by decide,Tryz.func207.trans (congrArg some (by kernel_rfl))⟩
 f21:=⟨Tryz.f208.name,by decide,Tryz.func208.trans (congrArg some (by kernel_rfl))⟩
 f22:=⟨Tryz.f209.name,by decide,Tryz.func209.trans (congrArg some (by kernel_rfl))⟩
 f23:=⟨Tryz.f210.name,by decide,Tryz.func210.trans (congrArg some (by kernel_rfl))⟩
 f24:=⟨Tryz.f211.name,by decide,Tryz.func211.trans (congrArg some (by kernel_rfl))⟩
 f25:=⟨Tryz.f212.name,by decide,Tryz.func212.trans (congrArg some (by kernel_rfl))⟩
 f26:=⟨Tryz.f213.name,by decide,Tryz.func213.trans (congrArg some (by kernel_rfl))⟩
 f27:=⟨Tryz.f214.name,by decide,Tryz.func214.trans (congrArg some (by kernel_rfl))⟩
 f28:=Tryz.func215.trans (congrArg some (by kernel_rfl))
 f29:=Tryz.func216.trans (congrArg some (by kernel_rfl))
 f46:=⟨Tryz.f221.name,by decide,Tryz.func221.trans (congrArg some (by kernel_rfl))⟩
 f47:=Tryz.func222.trans (congrArg some (by kernel_rfl))
 f48:=Tryz.func223.trans (congrArg some (by kernel_rfl))
 f49:=⟨Tryz.f224.name,by decide,Tryz.func224.trans (congrArg some (by kernel_rfl))⟩
 f50:=⟨Tryz.f225.name,by decide,Tryz.func225.trans (congrArg some (by kernel_rfl))⟩
 f57:=⟨Tryz.f226.name,by decide,Tryz.func226.trans (congrArg some (by kernel_rfl))⟩
 t0:=Tryz.underlying0
 a0:=Tryz.isAgg0
 z0:=Tryz.sizeOf0
 v0:=Tryz.zeroValue0
 t3:=Tryz.underlying3
 a3:=Tryz.isAgg3
 z3:=Tryz.sizeOf3
 v3:=Tryz.zeroValue3
 t4:=Tryz.underlying4
 a4:=Tryz.isAgg4
 z4:=Tryz.sizeOf4
 v4:=Tryz.zeroValue4
 t5:=Tryz.underlying5
 a5:=Tryz.isAgg5
 z5:=Tryz.sizeOf5
 v5:=Tryz.zeroValue5
 t9:=Tryz.underlying9
 a9:=Tryz.isAgg9
 z9:=Tryz.sizeOf9
 v9:=Tryz.zeroValue9
 t22:=Tryz.underlying66
 a22:=Tryz.isAgg66
 z22:=Tryz.sizeOf66
 v22:=Tryz.zeroValue66
 t25:=Tryz.underlying272
 a25:=Tryz.isAgg272
 z25:=Tryz.sizeOf272
 v25:=Tryz.zeroValue272
 t39:=Tryz.underlying291
 a39:=Tryz.isAgg291
 z39:=Tryz.sizeOf291
 v39:=Tryz.zeroValue291
 t45:=Tryz.underlying302
 a45:=Tryz.isAgg302
 z45:=Tryz.sizeOf302
 v45:=Tryz.zeroValue302
 t46:=Tryz.underlying303
 a46:=Tryz.isAgg303
 z46:=Tryz.sizeOf303
 v46:=Tryz.zeroValue303
 t50:=Tryz.underlying224
 a50:=Tryz.isAgg224
 z50:=Tryz.sizeOf224
 v50:=Tryz.zeroValue224
 t53:=Tryz.underlying309
 a53:=Tryz.isAgg309
 z53:=Tryz.sizeOf309
 v53:=Tryz.zeroValue309
 t55:=Tryz.underlying141
 a55:=Tryz.isAgg141
 z55:=Tryz.sizeOf141
 v55:=Tryz.zeroValue141
 t66:=Tryz.underlying316
 a66:=Tryz.isAgg316
 z66:=Tryz.sizeOf316
 v66:=Tryz.zeroValue316
 t70:=Tryz.underlying242
 a70:=Tryz.isAgg242
 z70:=Tryz.sizeOf242
 v70:=Tryz.zeroValue242
 t76:=Tryz.underlying321
 a76:=Tryz.isAgg321
 z76:=Tryz.sizeOf321
 v76:=Tryz.zeroValue321
 t77:=Tryz.underlying322
 a77:=Tryz.isAgg322
 z77:=Tryz.sizeOf322
 v77:=Tryz.zeroValue322 }
open Go.V Go.Sort Go.RowKit
set_option maxRecDepth 20000
def Tryz.A0l:∀w,(isAgg (Tryz.n0Y.t 24)).run Tryz.prog w=.ok true w:=Tryz.isAgg194
def Tryz.D0m:∀w,(Go.sizeOf (Tryz.n0Y.t 24)).run Tryz.prog w=.ok 3 w:=Tryz.sizeOf194
def Tryz.z0g:∀args w,(callFunc 178 args).run Tryz.prog w=.ok (.enter 178 args) w:=enters_of Tryz.func178 (by kernel_rfl) rfl
def Tryz.A05 (x y:J3)(w:World):Calls Tryz.prog 178 #[.agg x.cells.toArray,.agg y.cells.toArray] w fun e w'=>e=.returned (.int .i64 (x.to-y.to))/\∃q i,w'=grow (w.drewN q) i:=by
 have hw:=x.wrap y;obtain⟨a,b,c,h1,u,s⟩:=x;obtain⟨d,e,f,r,p,t⟩:=y;simp only[J3.cells]at *;refine k0H (vs:=[.agg #[.int .i64 a,.int .i64 b,c],.agg #[.int .i64 d,.int .i64 e,f]]) Tryz.func178 rfl rfl ?_;intro aa ha;refine wp_seq_k (fun K g=>?_);refine R6 ?_;refine c0A (v:=.pointer (some ⟨w.heap.size,0,none⟩)) (w':=w.alloc (.cells #[.int .i64 a,.int .i64 b,c] 194)) ha (by kernel_rfl) (by kernel_rfl) ?_;intro aa ha;refine c0A (v:=.pointer (some ⟨(w.alloc (.cells #[.int .i64 a,.int .i64 b,c] 194)).heap.size,0,none⟩)) (w':=(w.alloc (.cells #[.int .i64 a,.int .i64 b,c] 194)).alloc (.cells #[.int .i64 d,.int .i64 e,f] 194)) ha (by kernel_rfl) (by kernel_rfl) ?_;intro aa ha;generalize h:(w.alloc (.cells #[.int .i64 a,.int .i64 b,c] 194)).alloc (.cells #[.int .i64 d,.int .i64 e,f] 194)=W at *;have m:W.heap[w.heap.size]?=some (.cells #[.int .i64 a,.int .i64 b,c] 194 (0,0)):=by
  subst h;exact((Below.new (w.alloc (.cells #[.int .i64 a,.int .i64 b,c] 194)) _).block _ (by simp)).trans (heap_alloc_new w _)
 have j:W.heap[(w.alloc (.cells #[.int .i64 a,.int .i64 b,c] 194)).heap.size]?=some (.cells #[.int .i64 d,.int .i64 e,f] 194 (0,0)):=by
  subst h;exact heap_alloc_new (w.alloc (.cells #[.int .i64 a,.int .i64 b,c] 194)) _
 have c1:W.cell? ((⟨w.heap.size,0,none⟩:Addr).add 0)=some (.int .i64 a):=(b0a _ _ _ _).trans (by unfold U2;rw[m];rfl);have c2:W.cell? ((⟨(w.alloc (.cells #[.int .i64 a,.int .i64 b,c] 194)).heap.size,0,none⟩:Addr).add 0)=some (.int .i64 d):=(b0a _ _ _ _).trans (by unfold U2;rw[j];rfl);have hg:W=grow (w.drewN 0) #[.cells #[.int .i64 a,.int .i64 b,c] 194,.cells #[.int .i64 d,.int .i64 e,f] 194]:=by subst h;rw[alloc_eq_grow,alloc_eq_grow,grow_grow];rfl
 generalize (w.alloc (.cells #[.int .i64 a,.int .i64 b,c] 194)).heap.size=p2 at *;generalize w.heap.size=p1 at *;refine g0z ha (k:=1) (ks:=[2,3]) (l':=[(2,.pointer (some ⟨p1,0,none⟩)),(3,.pointer (some ⟨p2,0,none⟩))]) (w':=W) (by kernel_rfl) ?_;intro aa ha;refine g _ _ ?_;clear g;refine wp_seq_k (fun K g=>?_);refine R6 ?_;refine g0z ha (k:=1) (ks:=[3,5]) (l':=[(3,.pointer (some ⟨p2,0,none⟩)),(5,.pointer (some ((⟨p1,0,none⟩:Addr).add 0)))]) (w':=W) (by kernel_rfl) ?_;intro aa ha;refine c0A (v:=.int .i64 a) ha (by kernel_rfl) (s0G W rfl rfl Tryz.underlying3 rfl c1) ?_;intro aa ha;refine g0z ha (k:=1) (ks:=[6,7]) (l':=[(6,.int .i64 a),(7,.pointer (some ((⟨p2,0,none⟩:Addr).add 0)))]) (w':=W) (by kernel_rfl) ?_;intro aa ha;refine c0A (v:=.int .i64 d) ha (by kernel_rfl) (s0G W rfl rfl Tryz.underlying3 rfl c2) ?_;intro aa ha;refine g0z ha (k:=2) (ks:=[4]) (l':=[(4,.int .i64 (IntKind.wrap .i64 (a-d)))]) (w':=W) (by kernel_rfl) ?_;intro aa ha;refine g _ _ ?_;refine wp_ret ?_;refine u0m (r1:=.tmp 4) (v1:=.int .i64 (IntKind.wrap .i64 (a-d))) ha rfl (.inl rfl) rfl ⟨by rw[hw],0,_,hg⟩
end Go.Proofs
namespace Go.V
open Go.RowKit
abbrev B0l (n:Nat):={l:List Bool // l.length=n}
instance (n:Nat):Inhabited (B0l n):=⟨⟨List.replicate n false,length_replicate⟩⟩
variable {P:Program}{ops:Array Oper}{n:Nat}{Q:Exit->Act->World->Prop}{l:FL}{a:Act}{w:World}{o:Oper}{rest:List Oper}
def w8.only {w0 w w1:World}{b:Nat}(h:w8 w0 w)(f:w0.heap.size<=b)(c:w0.heap.size<=w.heap.size)(d:k7 b w w1):w8 w0 w1:=
 fun k hk=>(d.block k (Nat.lt_of_lt_of_le hk c) (fun e=>by omega)).trans (h k hk)
end Go.V
namespace Go.V
open Go.RowKit
variable {P:Program}{ops:Array Oper}{n:Nat}{Q:Exit->Act->World->Prop}{l:FL}{a:Act}{w:World}{o:Oper}{rest:List Oper}
def y03 {α:Type}{T:Ty α}{H:K0}{S M:D0}{t e:TypeId}{lo:Value}{A:Option Addr}{c:Nat}{xs:List α}{k:IntKind}{vlo:Int}(p:P.underlying t=some (.slice e))(r:(P.info? e).map (·.size)=some T.sz)
  (f:Ow T e M H S (.slice A xs.length c) xs) (hk:I4 xs vlo xs.length=true) (g:lo=.int k vlo:=by rfl):
  ∃m,(∀w,(Instr.sliceAt t (.slice A xs.length c) (some lo) none none).run P w=.ok (.slice m (xs.length-vlo.toNat) (c-vlo.toNat)) w)/\(vlo<xs.length->m=A.map (·.add (vlo.toNat*T.sz))):=by
 subst g;have d:=hk;simp only[I4,Bool.and_eq_true,decide_eq_true_eq]at d;obtain⟨⟨u,h1⟩,s⟩:=d;have j:=f.cap;obtain⟨inf,b,i⟩:=Option.map_eq_some_iff.1 r;refine⟨if c=vlo.toNat then A else A.map (·.add (vlo.toNat*T.sz)),fun w=>?_,fun h=>by rw[if_neg (by omega)]⟩;have q:=run_sliceBound (P:=P) (w:=w) k vlo xs.length .sliceB (by omega) (by omega);simp only[Instr.sliceAt,Instr.slice,Instr.sliceBounds,Sem.run_bind,run_underlying p,Result.andThen_ok];simp[q,sizeOf,typeInfo,b,i]
def H9 {α:Type}(xs:List α)(lo hi:Int):List α:=xs.take lo.toNat++G4 (xs.drop lo.toNat) (I1 xs 0 hi)
def g0G {α:Type}(xs:List α)(lo hi:Int):(H9 xs lo hi).length=xs.length:=by
 unfold H9;rw[length_append,b05,length_take,length_drop];omega
def v0R {α:Type}{T:Ty α}{w0:World}{W0 Wf S0 S:D0}{t e:TypeId}{x y:Operand}{A A1:Option Addr}{c:Nat}{xs:List α}{lo hi:Int}(ha:Ag n l a)(cx:Cx w0 W0 S0 w S)(hf:(gate ops l o==some true&&fit n l o)=true)
  (ho:o.op=.call { callee:=.builtin .copy,args:=#[x,y],argTypes:=#[t,t] }) (p:lk l x=.slice A1 (xs.length-lo.toNat) (c-lo.toNat)) (hy:lk l y=.slice A (I1 xs 0 hi).length c) (ht:P.underlying t=some (.slice e)) (hE:(P.info? e).map (·.size)=some 1) (J:T.sz=1)
  (hW:∀k,Wr Wf w0 k->Wr W0 w0 k) (d:Ow T e (Wr Wf w0) w.heap S (.slice A xs.length c) xs) (c4:I4 xs lo xs.length=true) (c0:I4 xs 0 hi=true) (r:lo<xs.length->A1=A.map (·.add (lo.toNat*T.sz)))
  (h:∀w1,Cx w0 W0 S0 w1 S->(∀k,k<w.heap.size->(Value.slice A xs.length c).ownBlock≠some k->w1.heap[k]?=w.heap[k]?)->U0 w.heap S w1.heap S->Ow T e (Wr Wf w0) w1.heap S (.slice A xs.length c) (H9 xs lo hi)->
   ∀a',Ag n (A8 l o.dst (.int .i64 (Nat.min (I1 xs 0 hi).length (xs.length-lo.toNat):Nat))) a'->wpList P ops Q rest a' w1):wpList P ops Q (o :: rest) a w:=by
 have a1:=c4;simp only[I4,Bool.and_eq_true,decide_eq_true_eq]at a1;have b2:=c0;simp only[I4,Bool.and_eq_true,decide_eq_true_eq]at b2;have e9:=c04 c0;have fin:∀(w1:World) (m:Nat),(Builtin.copy_ #[t,t] o.type #[.slice A1 (xs.length-lo.toNat) (c-lo.toNat),.slice A (I1 xs 0 hi).length c]).run P w=.ok (goInt m) w1->m=Nat.min (I1 xs 0 hi).length (xs.length-lo.toNat)->
   Cx w0 W0 S0 w1 S->(∀k,k<w.heap.size->(Value.slice A xs.length c).ownBlock≠some k->w1.heap[k]?=w.heap[k]?)->U0 w.heap S w1.heap S->Ow T e (Wr Wf w0) w1.heap S (.slice A xs.length c) (H9 xs lo hi)->wpList P ops Q (o :: rest) a w:=by
  intro w1 m hr hm h1 R I h4;refine c0A ha hf (v:=.int .i64 (Nat.min (I1 xs 0 hi).length (xs.length-lo.toNat):Nat)) (w':=w1) ?_ fun a' e4=>h w1 h1 R I h4 a' e4;subst hm;simp only[execOp,ho,resolve,invoke,builtin,Sem.run_bind,Sem.run_pure,Result.andThen_ok,List.map_toArray,List.map_cons,List.map_nil,p,hy,hr];rfl
 by_cases h0:Nat.min (I1 xs 0 hi).length (xs.length-lo.toNat)=0
 ·refine fin w 0 (run_copy_none w t t o.type e A1 A (xs.length-lo.toNat) (c-lo.toNat) (I1 xs 0 hi).length c ht hE h0) h0.symm cx (fun _ _ _=>rfl) (U0.refl _ _) ?_;have:H9 xs lo hi=xs:=by
   unfold H9 G4;rcases Nat.eq_zero_or_pos (xs.length-lo.toNat)with U|U
   ·rw[show xs.drop lo.toNat=[]from List.drop_of_length_le (by omega)];simp;exact List.take_of_length_le (by omega)
   ·have c8:(I1 xs 0 hi).length=0:=by
     rcases le_total (I1 xs 0 hi).length (xs.length-lo.toNat)with hle|hle
     ·rwa [show Nat.min (I1 xs 0 hi).length (xs.length-lo.toNat)=(I1 xs 0 hi).length from min_eq_left hle]at h0
     ·rw[show Nat.min (I1 xs 0 hi).length (xs.length-lo.toNat)=xs.length-lo.toNat from Nat.min_eq_right hle]at h0;omega
    rw[List.eq_nil_of_length_eq_zero c8];simp
  rw[this];exact d
 ·have h7:0<xs.length-lo.toNat:=by
   rcases Nat.eq_zero_or_pos (xs.length-lo.toNat)with U|U
   ·exact absurd (by rw[U];exact Nat.min_zero _) h0
   ·exact U
  have e5:=d.rdb;have h8:=d.lt;obtain⟨c3,cs,⟨s,b1⟩,u⟩:=d;rcases b1 with⟨hv,U⟩|⟨g,cap,cur,hv,hg,hnc,hm,hcs,htake⟩
  ·omega
  ·simp at hv;obtain⟨rfl,rfl⟩:=hv;have hA:=r (by omega);rw[J,mul_one]at hA s hcs htake;have c6:A1=some ⟨g,lo.toNat,none⟩:=hA.trans (congrArg some (by unfold Addr.add;by_cases hk:lo.toNat=0<;>simp[hk]));subst c6;generalize b4:I1 xs 0 hi=ys at *;have c5:∀(i:Nat) (x:α),ys[i]?=some x->xs[i]?=some x:=by
    intro i x p;have h6:i<ys.length:=(List.getElem?_eq_some_iff.1 p).1;rw[<-b4]at p;unfold I1 at p;rw[List.getElem?_take_of_lt (by omega)]at p;simpa using p
   obtain⟨news,z,q⟩:=V5.news (w:=w) (xs:=ys) (k:=0) (A:=some ⟨g,0,none⟩) (T:=T) (S:=S) (fun i x p=>by
    obtain⟨b,o,cs,h1,R,I⟩:=e5 i x (c5 i x p);exact⟨b,o,cs,h1,R,fun j v hj=>by rw[Nat.zero_add];exact I j v hj⟩)
   have e3:news.length=ys.length:=by rw[z.1,J,mul_one]
   have f:(news.take (xs.length-lo.toNat)).length=Nat.min ys.length (xs.length-lo.toNat):=by rw[length_take,e3];exact Nat.min_comm _ _
   have hle:Nat.min ys.length (xs.length-lo.toNat)<=xs.length-lo.toNat:=Nat.min_le_right _ _;have hr:=run_copy_row (P:=P) w t t o.type e g lo.toNat (xs.length-lo.toNat) (c-lo.toNat) ⟨g,0,none⟩ ys.length c cur e (news.take (xs.length-lo.toNat)) ht hE hg f (fun j v hj=>by
    rw[b0a];have e2:news[j]?=some v:=by
     rcases Nat.lt_or_ge j (xs.length-lo.toNat)with h|h
     ·rwa [List.getElem?_take_of_lt h]at hj
     ·rw[List.getElem?_take_eq_none h]at hj;cases hj
    have:=q g 0 rfl j v e2;simpa using this) (by rw[f,hcs];omega) (fun v hv=>z.f01 v (List.mem_of_mem_take hv))
   have b5:=c3 g (by simp[Value.ownBlock]);have h5:=getElem?_lt hg;generalize hN:news.take (xs.length-lo.toNat)=N at *;have C:k7 g w (w.setRow g (cur.toList.take lo.toNat++N++cur.toList.drop (lo.toNat+N.length)).toArray):=⟨rfl,rfl,rfl,by simp[World.setRow],fun k _ hk=>by simp[World.setRow,Array.getElem?_modify,Ne.symm hk]⟩
   have hk:=C.L1 b5.1;have b3:cur.toList.length=c:=by rw[Array.length_toList,hcs]
   refine fin _ _ hr f (C.cx cx (hW _ b5.2)) (fun k hk e1=>C.block k hk (fun e=>e1 (by rw[e];simp[Value.ownBlock]))) hk ⟨c3,cs.take lo.toNat++(N++(cs.drop lo.toNat).drop ys.length),⟨?_,.inr ⟨g,c,(cur.toList.take lo.toNat++N++cur.toList.drop (lo.toNat+N.length)).toArray,by rw[g0G],setRow_heap w g cur _ e _ hg,by rw[g0G];exact hnc,hm,?_,?_⟩⟩,?_⟩
   ·rw[g0G,J,mul_one,length_append,length_append,f,length_drop,length_drop,length_take,s];rcases le_total ys.length (xs.length-lo.toNat)with h|h
    ·rw[show Nat.min ys.length (xs.length-lo.toNat)=ys.length from min_eq_left h];omega
    ·rw[show Nat.min ys.length (xs.length-lo.toNat)=xs.length-lo.toNat from Nat.min_eq_right h];omega
   ·rw[J,mul_one,List.size_toArray,length_append,length_append,length_drop,length_take,b3];omega
   ·rw[g0G,J,mul_one];show List.take xs.length (cur.toList.take lo.toNat++N++cur.toList.drop (lo.toNat+N.length))=_;have r:(cur.toList.take lo.toNat++N).length=lo.toNat+N.length:=by rw[length_append,length_take,b3];omega
    rw[List.take_append,List.take_of_length_le (by rw[r];omega),r,<-htake,List.take_take,min_eq_left (by omega),List.append_assoc];congr 1;congr 1;rw[List.drop_drop,List.drop_take];rcases le_total ys.length (xs.length-lo.toNat)with h|h
    ·rw[f,show Nat.min ys.length (xs.length-lo.toNat)=ys.length from min_eq_left h]
    ·rw[f,show Nat.min ys.length (xs.length-lo.toNat)=xs.length-lo.toNat from Nat.min_eq_right h,show xs.length-(lo.toNat+(xs.length-lo.toNat))=0 by omega,show xs.length-(lo.toNat+ys.length)=0 by omega,List.take_zero,List.take_zero]
   ·have h1:=(u.L1 hk).cut lo.toNat;have R:=(z.L1 hk).cut (xs.length-lo.toNat);have I:=((u.L1 hk).tail lo.toNat).tail ys.length;rw[J,mul_one]at h1 R I;rw[mul_one,hN]at *;have h4:=h1.append (R.append I);unfold H9 G4;rw[length_drop,b4];exact h4
end Go.V
set_option maxRecDepth 100000
namespace Go.Proofs.YtmhooikfkhjijaaGreat.Wr
open Go.V Go.RowKit
def g0t (fuel:Nat)(p0:Int)(p1:Int):Option (Int×Int):=
 some ((IntKind.wrap .u64 ((IntKind.wrap .u64 ((IntKind.wrap .u64 ((shr .u64 p0 32)*(shr .u64 p1 32)))+(shr .u64 (IntKind.wrap .u64 ((IntKind.wrap .u64 ((shr .u64 p0 32)*(C3 .u64 p1 4294967295)))+(shr .u64 (IntKind.wrap .u64 ((C3 .u64 p0 4294967295)*(C3 .u64 p1 4294967295))) 32))) 32)))+(shr .u64 (IntKind.wrap .u64 ((C3 .u64 (IntKind.wrap .u64 ((IntKind.wrap .u64 ((shr .u64 p0 32)*(C3 .u64 p1 4294967295)))+(shr .u64 (IntKind.wrap .u64 ((C3 .u64 p0 4294967295)*(C3 .u64 p1 4294967295))) 32))) 4294967295)+(IntKind.wrap .u64 ((C3 .u64 p0 4294967295)*(shr .u64 p1 32))))) 32))),(IntKind.wrap .u64 (p0*p1)))
def e07 (fuel:Nat)(p0:Int)(p1:Int):Option (Int×Int):=
 Option.bind (g0t fuel p0 p1) fun b=>
 some (b.1,b.2)
def c0K (fuel:Nat)(c:Int×Int)(p0:(List Int))(b:List Int×Int):Option (V0 (List Int×Int) (List Int)):=
 let(x3,x4):=b
 if(decide (x4<(x3.length:Int)))then
  if I4 x3 x4 (x3.length:Int)then
   if I4 x3 0 x4 then
    some (.next ((H9 x3 x4 x4),(W (x4+((Nat.min (I1 x3 0 x4).length (x3.length-x4.toNat):Nat):Int)))))
   else none
  else none
 else
  some (.done x3)
def i0X (fuel:Nat)(p0:(List Int))(p1:Int):Option ((List Int)):=
 if(decide (p1<0))then
 none
else
 Option.bind (e07 fuel (IntKind.wrap .u64 ((p0.length:Int))) (IntKind.wrap .u64 (p1))) fun x1=>
  Option.bind ((
   if(decide (x1.1>0))then
    some true
   else
    some (decide (x1.2>9223372036854775807))):Option (Bool)) fun x2=>
   if x2 then
    none
   else
    if V2 8 (W (x1.2))then
     Option.bind (iter (c0K fuel x1 p0) fuel ((G4 (List.replicate (Int.toNat (W (x1.2))) (0:Int)) p0),((Nat.min p0.length (List.replicate (Int.toNat (W (x1.2))) (0:Int)).length:Nat):Int))) fun y1=>
      some y1
    else none
def O0O (w:World)(S:D0)(r:(Int×Int))(v:Value)(w1:World):Prop:=∃v0:Value,∃v1:Value,v=.tuple #[v0,v1]/\(v0=.int .u64 r.1)/\(v1=.int .u64 r.2)
abbrev N0y (w:World)(S:D0)(r:(Int×Int)):Ending->World->Prop:=fun e w1=>∃v,e=.returned v/\Below w.heap.size w w1/\O0O w S r v w1
def P0S (fuel:Nat){w:World}{S:D0}(d:∀b,S b->b<w.heap.size){p0 p1}  {r}(h:g0t fuel p0 p1=some r):
 Calls Tryz.prog 218 #[.int .u64 p0,.int .u64 p1] w (N0y w S r):=by
 refine k0H (vs:=[.int .u64 p0,.int .u64 p1]) Tryz.func218 rfl rfl ?_;intro a ha;have cx:=Cx.start (W0:=Q5) d;refine wn fun e=>?_;unfold g0t at h;refine sq fun K c=>R6 (sg ha 2 [(0,.int .u64 p0),(1,.int .u64 p1)] w fun a ha=>?_);refine c ?_;clear c;refine sq fun K c=>R6 (sk ha 3 [(6,.int .u64 (C3 .u64 p0 4294967295))] fun a ha=>?_);refine c ?_;clear c;refine sq fun K c=>R6 (sk ha 3 [(7,.int .u64 (shr .u64 p0 32))] fun a ha=>?_);refine c ?_;clear c;refine sq fun K c=>R6 (sk ha 3 [(8,.int .u64 (C3 .u64 p1 4294967295))] fun a ha=>?_);refine c ?_;clear c;refine sq fun K c=>R6 (sk ha 3 [(9,.int .u64 (shr .u64 p1 32))] fun a ha=>?_);refine c ?_;clear c;refine sq fun K c=>R6 (sk ha 4 [(10,.int .u64 (IntKind.wrap .u64 ((C3 .u64 p0 4294967295)*(C3 .u64 p1 4294967295))))] fun a ha=>?_);refine c ?_;clear c;refine sq fun K c=>R6 (sk ha 7 [(11,.int .u64 (IntKind.wrap .u64 ((IntKind.wrap .u64 ((shr .u64 p0 32)*(C3 .u64 p1 4294967295)))+(shr .u64 (IntKind.wrap .u64 ((C3 .u64 p0 4294967295)*(C3 .u64 p1 4294967295))) 32))))] fun a ha=>?_);refine c ?_;clear c;refine sq fun K c=>R6 (sk ha 3 [(12,.int .u64 (C3 .u64 (IntKind.wrap .u64 ((IntKind.wrap .u64 ((shr .u64 p0 32)*(C3 .u64 p1 4294967295)))+(shr .u64 (IntKind.wrap .u64 ((C3 .u64 p0 4294967295)*(C3 .u64 p1 4294967295))) 32))) 4294967295))] fun a ha=>?_);refine c ?_;clear c;refine sq fun K c=>R6 (sk ha 3 [(13,.int .u64 (shr .u64 (IntKind.wrap .u64 ((IntKind.wrap .u64 ((shr .u64 p0 32)*(C3 .u64 p1 4294967295)))+(shr .u64 (IntKind.wrap .u64 ((C3 .u64 p0 4294967295)*(C3 .u64 p1 4294967295))) 32))) 32))] fun a ha=>?_);refine c ?_;clear c;refine sq fun K c=>R6 (sk ha 6 [(12,.int .u64 (IntKind.wrap .u64 ((C3 .u64 (IntKind.wrap .u64 ((IntKind.wrap .u64 ((shr .u64 p0 32)*(C3 .u64 p1 4294967295)))+(shr .u64 (IntKind.wrap .u64 ((C3 .u64 p0 4294967295)*(C3 .u64 p1 4294967295))) 32))) 4294967295)+(IntKind.wrap .u64 ((C3 .u64 p0 4294967295)*(shr .u64 p1 32))))))] fun a ha=>?_);refine c ?_;clear c;refine sq fun K c=>R6 (sk ha 9 [(4,.int .u64 (IntKind.wrap .u64 ((IntKind.wrap .u64 ((IntKind.wrap .u64 ((shr .u64 p0 32)*(shr .u64 p1 32)))+(shr .u64 (IntKind.wrap .u64 ((IntKind.wrap .u64 ((shr .u64 p0 32)*(C3 .u64 p1 4294967295)))+(shr .u64 (IntKind.wrap .u64 ((C3 .u64 p0 4294967295)*(C3 .u64 p1 4294967295))) 32))) 32)))+(shr .u64 (IntKind.wrap .u64 ((C3 .u64 (IntKind.wrap .u64 ((IntKind.wrap .u64 ((shr .u64 p0 32)*(C3 .u64 p1 4294967295)))+(shr .u64 (IntKind.wrap .u64 ((C3 .u64 p0 4294967295)*(C3 .u64 p1 4294967295))) 32))) 4294967295)+(IntKind.wrap .u64 ((C3 .u64 p0 4294967295)*(shr .u64 p1 32))))) 32))))] fun a ha=>?_);refine c ?_;clear c;refine sq fun K c=>R6 (sk ha 4 [(5,.int .u64 (IntKind.wrap .u64 (p0*p1)))] fun a ha=>?_);refine c ?_;clear c;refine wp_ret ?_;obtain rfl:=sj h;show bodyPost Tryz.prog Tryz.f218 (N0y w S _) .ret a w;exact r0h (r1:=.tmp 4) (v1:=.int .u64 (IntKind.wrap .u64 ((IntKind.wrap .u64 ((IntKind.wrap .u64 ((shr .u64 p0 32)*(shr .u64 p1 32)))+(shr .u64 (IntKind.wrap .u64 ((IntKind.wrap .u64 ((shr .u64 p0 32)*(C3 .u64 p1 4294967295)))+(shr .u64 (IntKind.wrap .u64 ((C3 .u64 p0 4294967295)*(C3 .u64 p1 4294967295))) 32))) 32)))+(shr .u64 (IntKind.wrap .u64 ((C3 .u64 (IntKind.wrap .u64 ((IntKind.wrap .u64 ((shr .u64 p0 32)*(C3 .u64 p1 4294967295)))+(shr .u64 (IntKind.wrap .u64 ((C3 .u64 p0 4294967295)*(C3 .u64 p1 4294967295))) 32))) 4294967295)+(IntKind.wrap .u64 ((C3 .u64 p0 4294967295)*(shr .u64 p1 32))))) 32)))) (r2:=.tmp 5) (v2:=.int .u64 (IntKind.wrap .u64 (p0*p1))) ha rfl (.inl rfl) rfl rfl ⟨_,rfl,cx.below,⟨_,_,rfl,rfl,rfl⟩⟩
def C0f (w:World)(S:D0)(r:(Int×Int))(v:Value)(w1:World):Prop:=∃v0:Value,∃v1:Value,v=.tuple #[v0,v1]/\(v0=.int .u64 r.1)/\(v1=.int .u64 r.2)
abbrev p0v (w:World)(S:D0)(r:(Int×Int)):Ending->World->Prop:=fun e w1=>∃v,e=.returned v/\Below w.heap.size w w1/\C0f w S r v w1
def y06 (fuel:Nat){w:World}{S:D0}(i:∀b,S b->b<w.heap.size){p0 p1}  {r}(h:e07 fuel p0 p1=some r):
 Calls Tryz.prog 202 #[.int .u64 p0,.int .u64 p1] w (p0v w S r):=by
 refine k0H (vs:=[.int .u64 p0,.int .u64 p1]) Tryz.func202 rfl rfl ?_;intro a ha;have cx:=Cx.start (W0:=Q5) i;refine wn fun j=>?_;unfold e07 at h;refine sq fun K c=>R6 (sg ha 2 [(0,.int .u64 p0),(1,.int .u64 p1)] w fun a ha=>?_);refine c ?_;clear c;refine sq fun K c=>?_;refine w0o ha rfl ?_;refine wp_skip (c ?_);clear c;refine sq fun K c=>R6 (sk ha 2 [(23,.int .u64 p0),(24,.int .u64 p1)] fun a ha=>?_);obtain⟨d,e,h⟩:=b0Z h;refine t01 ha (by kernel_rfl) (f:=218) (args:=#[.int .u64 p0,.int .u64 p1]) (w':=w) (by kernel_rfl) (P0S fuel (p0:=p0) (p1:=p1) cx.lt e) ?_;rintro v1 w1 ⟨g,hp1⟩ a ha;obtain⟨_,_,rfl,rfl,rfl⟩:=hp1;replace cx:=cx.ext g;refine sk ha 5 [(8,.int .u64 d.1),(9,.int .u64 d.2)] fun a ha=>?_;refine c ?_;clear c;refine sq fun K c=>R6 (sk ha 4 [(4,.int .u64 d.1),(5,.int .u64 d.2)] fun a ha=>?_);refine c ?_;clear c;refine wp_ret ?_;obtain rfl:=sj h;show bodyPost Tryz.prog Tryz.f202 (p0v w S _) .ret a w1;exact r0h (r1:=.tmp 4) (v1:=.int .u64 d.1) (r2:=.tmp 5) (v2:=.int .u64 d.2) ha rfl (.inl rfl) rfl rfl ⟨_,rfl,cx.below,⟨_,_,rfl,rfl,rfl⟩⟩
def Q0i (w:World)(S:D0)(r:((List Int)))(v:Value)(w1:World):Prop:=∃(A:Option Addr) (c:Nat),v=.slice A r.length c/\Ow (C2 .i64) 3 (Wr Q5 w) w1.heap (inV v S) v r
abbrev N0U (w:World)(S:D0)(r:((List Int))):Ending->World->Prop:=fun e w1=>∃v,e=.returned v/\Below w.heap.size w w1/\Q0i w S r v w1
def P0G (fuel:Nat){w:World}{S:D0}(hS:∀b,S b->b<w.heap.size){p0 p1 A_p0 c_p0}(p:Sl (C2 .i64) w.heap S A_p0 c_p0 p0){r}(h:i0X fuel p0 p1=some r):
 Calls Tryz.prog 181 #[vS A_p0 p0 c_p0,vI p1] w (N0U w S r):=by
 refine k0H (vs:=[vS A_p0 p0 c_p0,vI p1]) Tryz.func181 rfl rfl ?_;intro a ha;have cx:=Cx.start (W0:=Q5) hS;refine wn fun v=>?_;unfold i0X at h;refine sq fun K g=>R6 (sg ha 1 [(0,vS A_p0 p0 c_p0),(1,vI p1)] w fun a ha=>?_);refine g ?_;clear g;refine sq fun K g=>sq fun K g=>R6 (sk ha 2 [(10,vB (decide (p1<0)))] fun a ha=>?_);refine g ?_;clear g;refine n0K ha rfl (fun q=>?_) (fun q=>?_)
 ·replace h:=itT q h;cases h
 ·replace h:=itF q h;refine wp_skip (g ?_);clear g;refine sq fun K g=>R6 (sk ha 5 [(15,.int .u64 (IntKind.wrap .u64 ((p0.length:Int)))),(17,.int .u64 (IntKind.wrap .u64 (p1)))] fun a ha=>?_);obtain⟨m,c8,h⟩:=b0Z h;refine t01 ha (by kernel_rfl) (f:=202) (args:=#[.int .u64 (IntKind.wrap .u64 ((p0.length:Int))),.int .u64 (IntKind.wrap .u64 (p1))]) (w':=w) (by kernel_rfl) (y06 fuel (p0:=(IntKind.wrap .u64 ((p0.length:Int)))) (p1:=(IntKind.wrap .u64 (p1))) cx.lt c8) ?_;rintro v1 w1 ⟨b4,hp1⟩ a ha;obtain⟨_,_,rfl,rfl,rfl⟩:=hp1;replace p:=p.L1 (U0.ext S b4);replace cx:=cx.ext b4;refine sk ha 5 [(5,.int .u64 m.1),(6,.int .u64 m.2)] fun a ha=>?_;refine g ?_;clear g;refine sq fun K g=>sq fun K g=>?_;obtain⟨q1,e3,h⟩:=b0Z h;refine C0p (D:=fun a w_=>∃x2:Bool,x2=q1/\w1=w_/\Ag 48 [(0,vS A_p0 p0 c_p0),(6,.int .u64 m.2),(26,vB x2)] a) ?_ ?_
  ·clear h;have h:=e3;refine R6 (sk ha 3 [(23,vB (decide (m.1>0)))] fun a ha=>?_);refine z05 (t:=23) ha rfl (fun q ha=>?_) (fun q ha=>?_)
   ·replace h:=itT q h;refine sk ha 3 [(26,vB true)] fun a ha=>?_;obtain rfl:=sj h;exact⟨_,rfl,rfl,ha.to (by kernel_rfl)⟩
   ·replace h:=itF q h;refine sk ha 3 [(26,vB (decide (m.2>9223372036854775807)))] fun a ha=>?_;obtain rfl:=sj h;exact⟨_,rfl,rfl,ha.to (by kernel_rfl)⟩
  rintro a _ ⟨x2,rfl,rfl,ha⟩;refine g ?_;clear g;refine n0K ha rfl (fun q=>?_) (fun q=>?_)
  ·replace h:=itT q h;cases h
  ·replace h:=itF q h;refine wp_skip (g ?_);clear g;refine sq fun K g=>R6 (sg ha 2 [(0,vS A_p0 p0 c_p0),(29,vI (W (m.2)))] w1 fun a ha=>?_);obtain⟨c0,h⟩:=l09 h;refine D0D (T:=(C2 .i64)) (z:=vI 0) (zx:=(0:Int)) (bytes:=8) ha cx (by kernel_rfl) rfl rfl rfl Tryz.underlying23 (by kernel_rfl) (by kernel_rfl) (fun _ _=>rfl) c0 ?_;intro C S1 J c1 cx h0 e9 h5 h6 f1 a ha;replace p:=p.L1 e9;refine sk ha 1 [(7,vS J (List.replicate (Int.toNat (W (m.2))) (0:Int)) c1)] fun a ha=>?_;refine g ?_;clear g;refine sq fun K g=>R6 (sk ha 2 [(31,vS J (List.replicate (Int.toNat (W (m.2))) (0:Int)) c1),(32,vS A_p0 p0 c_p0)] fun a ha=>?_);refine x04 (T:=(C2 .i64)) (xs:=(List.replicate (Int.toNat (W (m.2))) (0:Int))) (ys:=p0) ha cx (by kernel_rfl) rfl rfl rfl Tryz.underlying23 (by kernel_rfl) rfl q0b f1 p.rdb ?_;intro w3 cx h3 h2 f2 a ha;have a1:((G4 (List.replicate (Int.toNat (W (m.2))) (0:Int)) p0)).length=(List.replicate (Int.toNat (W (m.2))) (0:Int)).length:=b05 _ _;replace ha:Ag 48 [(7,.slice J (G4 (List.replicate (Int.toNat (W (m.2))) (0:Int)) p0).length c1),(33,.int .i64 ((Nat.min p0.length (List.replicate (Int.toNat (W (m.2))) (0:Int)).length:Nat):Int))] a:=by rw[a1];exact ha.to (by kernel_rfl)
   replace f2:Ow (C2 .i64) 3 (Wr Q5 w) w3.heap S1 (.slice J (G4 (List.replicate (Int.toNat (W (m.2))) (0:Int)) p0).length c1) (G4 (List.replicate (Int.toNat (W (m.2))) (0:Int)) p0):=by rw[a1];exact f2
   refine sg ha 1 [(7,vS J (G4 (List.replicate (Int.toNat (W (m.2))) (0:Int)) p0) c1),(8,vI ((Nat.min p0.length (List.replicate (Int.toNat (W (m.2))) (0:Int)).length:Nat):Int))] w3 fun a ha=>?_;refine g ?_;clear g;refine sq fun K g=>wp_block ?_;obtain⟨t1,U,h⟩:=b0Z h;refine wp_mono (s0e (step:=(c0K fuel m p0)) (I:=fun(s:List Int×Int) a w4=>match s with|(k,d)=>∃(y:D0),∃(u:Option Addr) (c2:Nat),Cx w Q5 S w4 y/\Ow (C2 .i64) 3 (Wr Q5 w) w4.heap y (vS u k c2) k/\Ag 48 [(7,vS u k c2),(8,vI d)] a) (D:=fun(t:List Int) e a w5=>match t with|R=>e=.exit 0/\∃(S3:D0),∃(A3:Option Addr) (c3:Nat),Cx w Q5 S w5 S3/\Ow (C2 .i64) 3 (Wr Q5 w) w5.heap S3 (vS A3 R c3) R/\Ag 48 [(7,vS A3 R c3)] a) ?_ fuel _ t1 a _ U ?_) ?_
   ·clear h U;rintro⟨k,d⟩ ct a w4 ⟨y,u,c2,cx,f3,ha⟩ h;refine r0Y (NoP.loop (fun t c a w h=>by cases t<;>exact absurd h.1 (by simp))) (fun v=>?_);unfold c0K at h;refine sq fun K g=>sq fun K g=>R6 (sg ha 4 [(7,vS u k c2),(8,vI d),(37,vB (decide (d<(k.length:Int))))] w4 fun a ha=>?_);refine g ?_;clear g;refine n0K ha rfl (fun q=>?_) (fun q=>?_)
    ·replace h:=itT q h;refine wp_skip (g ?_);clear g;refine wp_block ?_;refine w0R 7 y rfl ?_;intro w6 e1 b1;replace f3:=f3.ext b1;replace cx:=cx.ext b1;have x:=U0.refl w6.heap y;have hold:=w8.start w6;have g1:=f3;refine dk 0 (vI d) ha v rfl (Sd.start _ _ _ _) fun j a ha=>?_;refine dk 1 (vS u k c2) ha v rfl j fun j a ha=>?_;refine dk 2 (vI d) ha v rfl j fun j a ha=>?_;obtain⟨b3,h⟩:=l09 h;obtain⟨A4,c4,e5⟩:=y03 (P:=Tryz.prog) (t:=23) (lo:=vI d) Tryz.underlying23 (by kernel_rfl) f3 b3;refine dv 3 (.slice A4 (k.length-d.toNat) (c2-d.toNat)) ha v rfl (fun C c5 e4=>p0n C rfl (c4 C)) j fun j a ha=>?_;refine dk 4 (vS u k c2) ha v rfl j fun j a ha=>?_;refine dk 5 (vI d) ha v rfl j fun j a ha=>?_;obtain⟨b2,h⟩:=l09 h;obtain⟨c6,_⟩:=A0p (P:=Tryz.prog) (t:=23) (hi:=vI d) Tryz.underlying23 (by kernel_rfl) f3 b2;refine dv 6 (.slice u ((I1 k 0 d).length) c2) ha v rfl (fun C c5 e4=>p0n C rfl (c6 C)) j fun j a ha=>?_;refine u0g (i:=7) (by kernel_rfl) rfl ?_;refine v0R (T:=(C2 .i64)) (xs:=k) (lo:=d) (hi:=d) ha cx (by kernel_rfl) rfl rfl rfl Tryz.underlying23 (by kernel_rfl) rfl q0b f3 b3 b2 e5 ?_;intro w7 cx h4 e2 f7 a ha;have b5:((H9 k d d)).length=k.length:=g0G _ _ _;replace ha:Ag 48 [(7,.slice u (H9 k d d).length c2),(38,.int .i64 d),(45,.int .i64 ((Nat.min (I1 k 0 d).length (k.length-d.toNat):Nat):Int))] a:=by rw[b5];exact ha.to (by kernel_rfl)
     replace f7:Ow (C2 .i64) 3 (Wr Q5 w) w7.heap y (.slice u (H9 k d d).length c2) (H9 k d d):=by rw[b5];exact f7
     replace x:=x.trans e2;refine s0M (Sd.behind x (by kernel_rfl)) ?_;refine dk 8 (vI (W (d+((Nat.min (I1 k 0 d).length (k.length-d.toNat):Nat):Int)))) ha v rfl (Sd.behind x (by kernel_rfl)) fun j a ha=>?_;refine dk 9 (vI (W (d+((Nat.min (I1 k 0 d).length (k.length-d.toNat):Nat):Int)))) ha v rfl j fun j a ha=>?_;refine s0C (by kernel_rfl) ?_;replace ha:=ha.to (l':=[(7,vS u (H9 k d d) c2),(8,vI (W (d+((Nat.min (I1 k 0 d).length (k.length-d.toNat):Nat):Int))))]) (by kernel_rfl);obtain rfl:=sj h;exact⟨_,rfl,y,u,c2,cx,f7,ha.to (by kernel_rfl)⟩
    ·replace h:=itF q h;refine wp_exit ?_;obtain rfl:=sj h;exact⟨_,rfl,rfl,y,u,c2,cx,f3,ha.to (by kernel_rfl)⟩
   ·exact⟨S1,J,c1,cx,f2,ha.to (by kernel_rfl)⟩
   intro e a w5 hd;generalize t1=R at *;obtain⟨rfl,S3,A3,c3,cx,f4,ha⟩:=hd;refine g ?_;clear g;refine sq fun K g=>R6 (sg ha 2 [(4,vS A3 R c3)] w5 fun a ha=>?_);refine g ?_;clear g;refine wp_ret ?_;obtain rfl:=sj h;show bodyPost Tryz.prog Tryz.f181 (N0U w S _) .ret a w5;exact u0m (r1:=.tmp 4) (v1:=vS A3 R c3) ha rfl (.inl rfl) rfl ⟨_,rfl,cx.below,⟨_,_,rfl,f4.result cx.sub⟩⟩
def v0s:∀k,k<1001->e07 0 (IntKind.wrap .u64 1) (IntKind.wrap .u64 ((k:Nat):Int))=some (0,(k:Int)):=by decide+kernel
def w0x {fuel k:Nat}{v:Int}(hk:k<=1000)(s:1000<fuel):i0X fuel [v] (k:Int)=some (List.replicate k v):=by
 have hm:e07 fuel (IntKind.wrap .u64 (([v].length:Nat):Int)) (IntKind.wrap .u64 (k:Int))=some (0,(k:Int)):=v0s k (by omega);have loop:∀(m n fu:Nat),1<=n->n<=k->k-n<=m->m<fu->iter (c0K fuel (0,(k:Int)) [v]) fu (List.replicate n v++List.replicate (k-n) 0,(n:Int))=some (List.replicate k v):=by
  intro m
  induction m with
  |zero=>
   intro n fu h1 r p j;obtain⟨fu,rfl⟩:∃q,fu=q+1:=⟨fu-1,by omega⟩
   have:n=k:=by omega
   subst this;unfold iter c0K;simp
  |succ m ih=>
   intro n fu h1 r p j;obtain⟨fu,rfl⟩:∃q,fu=q+1:=⟨fu-1,by omega⟩
   by_cases c:n=k
   ·subst c;unfold iter c0K;simp
   ·have hlen:(List.replicate n v++List.replicate (k-n) (0:Int)).length=k:=by simp;omega
    have b:I1 (List.replicate n v++List.replicate (k-n) (0:Int)) 0 (n:Int)=List.replicate n v:=by
     unfold I1;simp
    have e:H9 (List.replicate n v++List.replicate (k-n) (0:Int)) (n:Int) (n:Int)=List.replicate (n+min n (k-n)) v++List.replicate (k-(n+min n (k-n))) 0:=by
     unfold H9 G4;rw[b];simp only[Int.toNat_natCast];rw[List.take_left' (by simp),List.drop_left' (by simp)];simp only[length_replicate,List.take_replicate,List.drop_replicate];rw[Nat.min_comm (k-n) n,show k-(n+min n (k-n))=k-n-n by omega,<-List.append_assoc,List.replicate_append_replicate]
    have g:c0K fuel (0,(k:Int)) [v] (List.replicate n v++List.replicate (k-n) 0,(n:Int))=some (.next (List.replicate (n+min n (k-n)) v++List.replicate (k-(n+min n (k-n))) 0,((n+min n (k-n):Nat):Int))):=by
     unfold c0K;have s1:I4 (List.replicate n v++List.replicate (k-n) (0:Int)) (n:Int) (k:Int)=true:=by
      unfold I4;rw[hlen];simp;omega
     have s2:I4 (List.replicate n v++List.replicate (k-n) (0:Int)) 0 (n:Int)=true:=by
      unfold I4;rw[hlen];simp;omega
     have hd:(n:Int)<(k:Int):=by omega
     have h:Nat.min n (k-n)<=n:=Nat.min_le_left _ _;simp only[hlen,hd,decide_true,if_true,s1,s2,e,b,length_replicate,Int.toNat_natCast];rw[n3 (by omega) (by omega)];rfl
    unfold iter;rw[g];exact ih (n+min n (k-n)) fu (by omega) (by omega) (by omega) (by omega)
 unfold i0X;have d:¬(k:Int)<0:=by omega
 simp only[q0,d,hm,show ¬((0:Int)>0) by omega,show ¬((k:Int)>9223372036854775807) by omega,n3 (n:=(k:Int)) (by omega) (by omega),Int.toNat_natCast];rw[if_pos (show V2 8 (k:Int)=true by unfold V2;simp;omega)];rcases Nat.eq_zero_or_pos k with h0|h0
 ·subst h0;obtain⟨fu,rfl⟩:∃q,fuel=q+1:=⟨fuel-1,by omega⟩
  simp[G4,iter,c0K]
 ·have:=loop k 1 fuel (by omega) (by omega) (by omega) (by omega);have i:G4 (List.replicate k (0:Int)) [v]=List.replicate 1 v++List.replicate (k-1) 0:=by
   unfold G4;simp only[length_replicate,List.length_singleton,List.drop_replicate];rw[List.take_of_length_le (by simp;omega)];rfl
  have f:((Nat.min [v].length (List.replicate k (0:Int)).length:Nat):Int)=((1:Nat):Int):=by
   simp only[length_replicate,List.length_singleton];congr 1;exact min_eq_left h0
  rw[i,f,this];rfl
