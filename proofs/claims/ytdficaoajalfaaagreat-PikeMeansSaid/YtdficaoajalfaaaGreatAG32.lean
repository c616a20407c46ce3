/- DERIVED: THE SHELF's CONTRACTS AT THIS DUMP,IN PLAIN WORDS (tools/lay-plain.mjs out of 'YtdficaoajalfaaaGreatShelf.lean',which tools/lay-shelf.mjs wrote): THE SAME DECLARATIONS UNDER THE SAME NAMES: 'import','namespace','open','def','theorem' AND NOTHING ELSE: no command of the shelf's: FOR A HAND-IN. Each laying: the table of numbers ('.._ren') and one theorem,a field a fact of the dump's own or the kernel's comparison;each contract: ONE APPLICATION. Arrays within a variable of the call's own; a struct put Q0 a field. A copy within one slice of the call's own. Repeat, walked. Its conditions: none. -/
import Derived.Shelf.SlSortCmp.NoneTotal
import Derived.Ground.SlsfProg
import Derived.Test.YtdficaoajalfaaaGreatProg
import Derived.Test.YtdficaoajalfaaaGreatAG26
import Derived.Test.YtdficaoajalfaaaGreatAG02
import Derived.Test.YtdficaoajalfaaaGreatAVShort
import Derived.Test.YtdficaoajalfaaaGreatAG24
open List (length_replicate length_append length_take length_drop)
open Nat (le_total min_eq_left mul_one)
set_option linter.all false
namespace Go.Proofs
open Go.Shelf
def Tryz.n0Y:Go.Shelf.Ren:=⟨fun | 6=>173 | 15=>198 | 14=>197 | 28=>211 | 29=>212 | 20=>203 | 21=>204 | 22=>205 | 23=>206 | 24=>207 | 25=>208 | 26=>209 | 27=>210 | 46=>217 | 47=>218 | 48=>219 | 49=>220 | 50=>221 | 57=>222 | n=>n,fun | 22=>56 | 24=>121 | 25=>225 | 3=>3 | 39=>246 | 0=>0 | 53=>262 | 55=>143 | 4=>4 | 46=>256 | 45=>255 | 50=>216 | 5=>5 | 9=>9 | 66=>269 | 70=>193 | 76=>274 | 77=>275 | n=>n,fun | n=>n⟩
theorem Tryz.y0q:Go.Proofs.SlLaysF0.n6 Tryz.prog Tryz.n0Y:={
 mixed:=by kernel_rfl
 f6:=⟨Tryz.f173.name,by decide,Tryz.func173.trans (congrArg some (by kernel_rfl))⟩
 f14:=⟨Tryz.f197.name,by decide,Tryz.func197.trans (congrArg some (by kernel_rfl))⟩
 f15:=Tryz.func198.trans (congrArg some (by kernel_rfl))
 f20:=⟨Tryz.f203.name,by decide,Tryz.func203.trans (congrArg some (by kernel_rfl))⟩
 f21:=⟨Tryz.f204.name,by decide,Tryz.func204.trans (congrArg some (by kernel_rfl))⟩
 f22:=⟨Tryz.f205.name,by decide,Tryz.func205.trans (congrArg some (by kernel_rfl))⟩
 f23:=⟨Tryz.f206.name,by decide,Tryz.func206.trans (congrArg some (by kernel_rfl))⟩
 f24:=⟨Tryz.f207.name,by decide,Tryz.func207.trans (congrArg some (by kernel_rfl))⟩
 f25:=⟨Tryz.f208.name,by decide,Tryz.func208.trans (congrArg some (by kernel_rfl))⟩
 f26:=⟨Tryz.f209.name,by decide,Tryz.func209.trans (congrArg some (by kernel_rfl))⟩
 f27:=⟨Tryz.f210.name,by decide,Tryz.func210.trans (congrArg some (by kernel_rfl))⟩
 f28:=Tryz.func211.trans (congrArg some (by kernel_rfl))
 f29:=Tryz.func212.trans (congrArg some (by kernel_rfl))
 f46:=⟨Tryz.f217.name,by decide,Tryz.func217.trans (congrArg some (by kernel_rfl))⟩
 f47:=Tryz.func218.trans (congrArg some (by kernel_rfl))
 f48:=Tryz.func219.trans (congrArg some (by kernel_rfl))
 f49:=⟨Tryz.f220.name,by decide,Tryz.func220.trans (congrArg some (by kernel_rfl))⟩
 f50:=⟨Tryz.f221.name,by decide,Tryz.func221.trans (congrArg some (by kernel_rfl))⟩
 f57:=⟨Tryz.f222.name,by decide,Tryz.func222.trans (congrArg some (by kernel_rfl))⟩
 t0:=Tryz.underlying0
 a0:=Tryz.isAgg0
 z0:=Tryz.sizeOf0
 v0:=Tryz.zeroValue0
 t3:=Tryz.underlying3
 a3:=Tryz.isAgg3
 z3:=Tryz.sizeOf3
 v3:=Tryz.zeroValue3
 t4:=Tryz.underlying4
 a4:=Tryz.isAgg4
 z4:=Tryz.sizeOf4
 v4:=Tryz.zeroValue4
 t5:=Tryz.underlying5
 a5:=Tryz.isAgg5
 z5:=Tryz.sizeOf5
 v5:=Tryz.zeroValue5
 t9:=Tryz.underlying9
 a9:=Tryz.isAgg9
 z9:=Tryz.sizeOf9
 v9:=Tryz.zeroValue9
 t22:=Tryz.underlying56
 a22:=Tryz.isAgg56
 z22:=Tryz.sizeOf56
 v22:=Tryz.zeroValue56
 t25:=Tryz.underlying225
 a25:=Tryz.isAgg225
 z25:=Tryz.sizeOf225
 v25:=Tryz.zeroValue225
 t39:=Tryz.underlying246
 a39:=Tryz.isAgg246
 z39:=Tryz.sizeOf246
 v39:=Tryz.zeroValue246
 t45:=Tryz.underlying255
 a45:=Tryz.isAgg255
 z45:=Tryz.sizeOf255
 v45:=Tryz.zeroValue255
 t46:=Tryz.underlying256
 a46:=Tryz.isAgg256
 z46:=Tryz.sizeOf256
 v46:=Tryz.zeroValue256
 t50:=Tryz.underlying216
 a50:=Tryz.isAgg216
 z50:=Tryz.sizeOf216
 v50:=Tryz.zeroValue216
 t53:=Tryz.underlying262
 a53:=Tryz.isAgg262
 z53:=Tryz.sizeOf262
 v53:=Tryz.zeroValue262
 t55:=Tryz.underlying143
 a55:=Tryz.isAgg143
 z55:=Tryz.sizeOf143
 v55:=Tryz.zeroValue143
 t66:=Tryz.underlying269
 a66:=Tryz.isAgg269
 z66:=Tryz.sizeOf269
 v66:=Tryz.zeroValue269
 t70:=Tryz.underlying193
 a70:=Tryz.isAgg193
 z70:=Tryz.sizeOf193
 v70:=Tryz.zeroValue193
 t76:=Tryz.underlying274
 a76:=Tryz.isAgg274
 z76:=Tryz.sizeOf274
 v76:=Tryz.zeroValue274
 t77:=Tryz.underlying275
 a77:=Tryz.isAgg275
 z77:=Tryz.sizeOf275
 v77:=Tryz.zeroValue275 }
open Go.V Go.Sort Go.RowKit
set_option maxRecDepth 20000
theorem Tryz.A0l:∀ w,(isAgg (Tryz.n0Y.t 24)).run Tryz.prog w=.ok true w:=Tryz.isAgg121
theorem Tryz.D0m:∀ w,(Go.sizeOf (Tryz.n0Y.t 24)).run Tryz.prog w=.ok 3 w:=Tryz.sizeOf121
theorem Tryz.z0g:∀ args w,(callFunc 174 args).run Tryz.prog w=.ok (.enter 174 args) w:=enters_of Tryz.func174 (by kernel_rfl) rfl
theorem Tryz.A05 (x y:J3) (w:World):Calls Tryz.prog 174 #[.agg x.cells.toArray,.agg y.cells.toArray] w fun e w'=>e=.returned (.int .i64 (x.to-y.to))/\∃ q os',w'=grow (w.drewN q) os':=by
 have hw:=x.wrap y;obtain ⟨a,b,c,h1,h2,h3⟩:=x;obtain ⟨d,e,f,h4,h5,h6⟩:=y;simp only [J3.cells] at *;refine k0H (vs:=[.agg #[.int .i64 a,.int .i64 b,c],.agg #[.int .i64 d,.int .i64 e,f]]) Tryz.func174 rfl rfl ?_;intro aa ha;refine wp_seq_k (fun K hK=>?_);refine R6 ?_;refine c0A (v:=.pointer (some ⟨w.heap.size,0,none⟩)) (w':=w.alloc (.cells #[.int .i64 a,.int .i64 b,c] 121)) ha (by kernel_rfl) (by kernel_rfl) ?_;intro aa ha;refine c0A (v:=.pointer (some ⟨(w.alloc (.cells #[.int .i64 a,.int .i64 b,c] 121)).heap.size,0,none⟩)) (w':=(w.alloc (.cells #[.int .i64 a,.int .i64 b,c] 121)).alloc (.cells #[.int .i64 d,.int .i64 e,f] 121)) ha (by kernel_rfl) (by kernel_rfl) ?_;intro aa ha;generalize hW:(w.alloc (.cells #[.int .i64 a,.int .i64 b,c] 121)).alloc (.cells #[.int .i64 d,.int .i64 e,f] 121)=W at *;have k1:W.heap[w.heap.size]?=some (.cells #[.int .i64 a,.int .i64 b,c] 121 (0,0)):=by
  subst hW;exact ((Below.new (w.alloc (.cells #[.int .i64 a,.int .i64 b,c] 121)) _).block _ (by simp)).trans (heap_alloc_new w _)
 have k2:W.heap[(w.alloc (.cells #[.int .i64 a,.int .i64 b,c] 121)).heap.size]?=some (.cells #[.int .i64 d,.int .i64 e,f] 121 (0,0)):=by
  subst hW;exact heap_alloc_new (w.alloc (.cells #[.int .i64 a,.int .i64 b,c] 121)) _
 have c1:W.cell? ((⟨w.heap.size,0,none⟩:Addr).add 0)=some (.int .i64 a):=(b0a _ _ _ _).trans (by unfold U2;rw [k1];rfl);have c2:W.cell? ((⟨(w.alloc (.cells #[.int .i64 a,.int .i64 b,c] 121)).heap.size,0,none⟩:Addr).add 0)=some (.int .i64 d):=(b0a _ _ _ _).trans (by unfold U2;rw [k2];rfl);have hg:W=grow (w.drewN 0) #[.cells #[.int .i64 a,.int .i64 b,c] 121,.cells #[.int .i64 d,.int .i64 e,f] 121]:=by subst hW;rw [alloc_eq_grow,alloc_eq_grow,grow_grow];rfl
 generalize (w.alloc (.cells #[.int .i64 a,.int .i64 b,c] 121)).heap.size=p2 at *;generalize w.heap.size=p1 at *;refine g0z ha (k:=1) (ks:=[2,3]) (l':=[(2,.pointer (some ⟨p1,0,none⟩)),(3,.pointer (some ⟨p2,0,none⟩))]) (w':=W) (by kernel_rfl) ?_;intro aa ha;refine hK _ _ ?_;clear hK;refine wp_seq_k (fun K hK=>?_);refine R6 ?_;refine g0z ha (k:=1) (ks:=[3,5]) (l':=[(3,.pointer (some ⟨p2,0,none⟩)),(5,.pointer (some ((⟨p1,0,none⟩:Addr).add 0)))]) (w':=W) (by kernel_rfl) ?_;intro aa ha;refine c0A (v:=.int .i64 a) ha (by kernel_rfl) (s0G W rfl rfl Tryz.underlying3 rfl c1) ?_;intro aa ha;refine g0z ha (k:=1) (ks:=[6,7]) (l':=[(6,.int .i64 a),(7,.pointer (some ((⟨p2,0,none⟩:Addr).add 0)))]) (w':=W) (by kernel_rfl) ?_;intro aa ha;refine c0A (v:=.int .i64 d) ha (by kernel_rfl) (s0G W rfl rfl Tryz.underlying3 rfl c2) ?_;intro aa ha;refine g0z ha (k:=2) (ks:=[4]) (l':=[(4,.int .i64 (IntKind.wrap .i64 (a-d)))]) (w':=W) (by kernel_rfl) ?_;intro aa ha;refine hK _ _ ?_;refine wp_ret ?_;refine u0m (r1:=.tmp 4) (v1:=.int .i64 (IntKind.wrap .i64 (a-d))) ha rfl (.inl rfl) rfl ⟨by rw [hw],0,_,hg⟩
end Go.Proofs
namespace Go.V
open Go.RowKit
abbrev B0l (n:Nat):={l:List Bool // l.length=n}
instance (n:Nat):Inhabited (B0l n):=⟨⟨List.replicate n false,length_replicate⟩⟩
variable {P:Program} {ops:Array Oper} {n:Nat} {Q:Exit->Act->World->Prop} {l:FL} {a:Act} {w:World} {o:Oper} {rest:List Oper}
theorem w8.only {w0 w w1:World} {b:Nat} (h:w8 w0 w) (hb:w0.heap.size<=b) (hs:w0.heap.size<=w.heap.size) (ho:k7 b w w1):w8 w0 w1:=
 fun k hk=>(ho.block k (Nat.lt_of_lt_of_le hk hs) (fun e=>by omega)).trans (h k hk)
end Go.V
namespace Go.V
open Go.RowKit
variable {P:Program} {ops:Array Oper} {n:Nat} {Q:Exit->Act->World->Prop} {l:FL} {a:Act} {w:World} {o:Oper} {rest:List Oper}
theorem y03 {α:Type} {T:Ty α} {H:K0} {S M:D0} {t e:TypeId} {lo:Value} {A:Option Addr} {c:Nat} {xs:List α} {k:IntKind} {vlo:Int} (ht:P.underlying t=some (.slice e)) (hE:(P.info? e).map (·.size)=some T.sz)
  (hown:Ow T e M H S (.slice A xs.length c) xs) (hk:I4 xs vlo xs.length=true) (hlo:lo=.int k vlo:=by rfl) :
  ∃ A1,(∀ w,(Instr.sliceAt t (.slice A xs.length c) (some lo) none none).run P w=.ok (.slice A1 (xs.length-vlo.toNat) (c-vlo.toNat)) w)/\(vlo<xs.length->A1=A.map (·.add (vlo.toNat*T.sz))):=by
 subst hlo;have hk':=hk;simp only [I4,Bool.and_eq_true,decide_eq_true_eq] at hk';obtain ⟨⟨h0,h1⟩,h2⟩:=hk';have hcap:=hown.cap;obtain ⟨inf,hinf,hsz⟩:=Option.map_eq_some_iff.1 hE;refine ⟨if c=vlo.toNat then A else A.map (·.add (vlo.toNat*T.sz)),fun w=>?_,fun h=>by rw [if_neg (by omega)]⟩;have b2:=run_sliceBound (P:=P) (w:=w) k vlo xs.length .sliceB (by omega) (by omega);simp only [Instr.sliceAt,Instr.slice,Instr.sliceBounds,Sem.run_bind,run_underlying ht,Result.andThen_ok];simp [b2,sizeOf,typeInfo,hinf,hsz]
def H9 {α:Type} (xs:List α) (lo hi:Int):List α:=xs.take lo.toNat++G4 (xs.drop lo.toNat) (I1 xs 0 hi)
theorem g0G {α:Type} (xs:List α) (lo hi:Int):(H9 xs lo hi).length=xs.length:=by
 unfold H9;rw [length_append,b05,length_take,length_drop];omega
theorem v0R {α:Type} {T:Ty α} {w0:World} {W0 Wf S0 S:D0} {t e:TypeId} {x y:Operand} {A A1:Option Addr} {c:Nat} {xs:List α} {lo hi:Int} (ha:Ag n l a) (cx:Cx w0 W0 S0 w S) (hf:(gate ops l o==some true&&fit n l o)=true)
  (ho:o.op=.call { callee:=.builtin .copy,args:=#[x,y],argTypes:=#[t,t] }) (hx:lk l x=.slice A1 (xs.length-lo.toNat) (c-lo.toNat)) (hy:lk l y=.slice A (I1 xs 0 hi).length c) (ht:P.underlying t=some (.slice e)) (hE:(P.info? e).map (·.size)=some 1) (hT:T.sz=1)
  (hW:∀ k,Wr Wf w0 k->Wr W0 w0 k) (hown:Ow T e (Wr Wf w0) w.heap S (.slice A xs.length c) xs) (hlo:I4 xs lo xs.length=true) (hhi:I4 xs 0 hi=true) (hA1:lo<xs.length->A1=A.map (·.add (lo.toNat*T.sz)))
  (h:∀ w1,Cx w0 W0 S0 w1 S->(∀ k,k<w.heap.size->(Value.slice A xs.length c).ownBlock≠some k->w1.heap[k]?=w.heap[k]?)->U0 w.heap S w1.heap S->Ow T e (Wr Wf w0) w1.heap S (.slice A xs.length c) (H9 xs lo hi)->
   ∀ a',Ag n (A8 l o.dst (.int .i64 (Nat.min (I1 xs 0 hi).length (xs.length-lo.toNat):Nat))) a'->wpList P ops Q rest a' w1):wpList P ops Q (o :: rest) a w:=by
 have hlo':=hlo;simp only [I4,Bool.and_eq_true,decide_eq_true_eq] at hlo';have hhi':=hhi;simp only [I4,Bool.and_eq_true,decide_eq_true_eq] at hhi';have hcl:=c04 hhi;have fin:∀ (w1:World) (m:Nat),(Builtin.copy_ #[t,t] o.type #[.slice A1 (xs.length-lo.toNat) (c-lo.toNat),.slice A (I1 xs 0 hi).length c]).run P w=.ok (goInt m) w1->m=Nat.min (I1 xs 0 hi).length (xs.length-lo.toNat)->
   Cx w0 W0 S0 w1 S->(∀ k,k<w.heap.size->(Value.slice A xs.length c).ownBlock≠some k->w1.heap[k]?=w.heap[k]?)->U0 w.heap S w1.heap S->Ow T e (Wr Wf w0) w1.heap S (.slice A xs.length c) (H9 xs lo hi)->wpList P ops Q (o :: rest) a w:=by
  intro w1 m hr hm h1 h2 h3 h4;refine c0A ha hf (v:=.int .i64 (Nat.min (I1 xs 0 hi).length (xs.length-lo.toNat):Nat)) (w':=w1) ?_ fun a' ha'=>h w1 h1 h2 h3 h4 a' ha';subst hm;simp only [execOp,ho,resolve,invoke,builtin,Sem.run_bind,Sem.run_pure,Result.andThen_ok,List.map_toArray,List.map_cons,List.map_nil,hx,hy,hr];rfl
 by_cases h0:Nat.min (I1 xs 0 hi).length (xs.length-lo.toNat)=0
 ·refine fin w 0 (run_copy_none w t t o.type e A1 A (xs.length-lo.toNat) (c-lo.toNat) (I1 xs 0 hi).length c ht hE h0) h0.symm cx (fun _ _ _=>rfl) (U0.refl _ _) ?_;have:H9 xs lo hi=xs:=by
   unfold H9 G4;rcases Nat.eq_zero_or_pos (xs.length-lo.toNat) with hz | hz
   ·rw [show xs.drop lo.toNat=[] from List.drop_of_length_le (by omega)];simp;exact List.take_of_length_le (by omega)
   ·have hy0:(I1 xs 0 hi).length=0:=by
     rcases le_total (I1 xs 0 hi).length (xs.length-lo.toNat) with hle | hle
     ·rwa [show Nat.min (I1 xs 0 hi).length (xs.length-lo.toNat)=(I1 xs 0 hi).length from min_eq_left hle] at h0
     ·rw [show Nat.min (I1 xs 0 hi).length (xs.length-lo.toNat)=xs.length-lo.toNat from Nat.min_eq_right hle] at h0;omega
    rw [List.eq_nil_of_length_eq_zero hy0];simp
  rw [this];exact hown
 ·have hp1:0<xs.length-lo.toNat:=by
   rcases Nat.eq_zero_or_pos (xs.length-lo.toNat) with hz | hz
   ·exact absurd (by rw [hz];exact Nat.min_zero _) h0
   ·exact hz
  have hrd:=hown.rdb;have hlt:=hown.lt;obtain ⟨hs0,cs,⟨hcl2,hrow⟩,hels⟩:=hown;rcases hrow with ⟨hv,hz⟩ | ⟨g,cap,cur,hv,hg,hnc,hm,hcs,htake⟩
  ·omega
  ·simp at hv;obtain ⟨rfl,rfl⟩:=hv;have hA:=hA1 (by omega);rw [hT,mul_one] at hA hcl2 hcs htake;have hA':A1=some ⟨g,lo.toNat,none⟩:=hA.trans (congrArg some (by unfold Addr.add;by_cases hk:lo.toNat=0<;>simp [hk]));subst hA';generalize hys:I1 xs 0 hi=ys at *;have hyx:∀ (i:Nat) (x:α),ys[i]?=some x->xs[i]?=some x:=by
    intro i x hx;have hil:i<ys.length:=(List.getElem?_eq_some_iff.1 hx).1;rw [<-hys] at hx;unfold I1 at hx;rw [List.getElem?_take_of_lt (by omega)] at hx;simpa using hx
   obtain ⟨news,hen,hcells⟩:=V5.news (w:=w) (xs:=ys) (k:=0) (A:=some ⟨g,0,none⟩) (T:=T) (S:=S) (fun i x hx=>by
    obtain ⟨b,o,cs,h1,h2,h3⟩:=hrd i x (hyx i x hx);exact ⟨b,o,cs,h1,h2,fun j v hj=>by rw [Nat.zero_add];exact h3 j v hj⟩)
   have hnl:news.length=ys.length:=by rw [hen.1,hT,mul_one]
   have hml:(news.take (xs.length-lo.toNat)).length=Nat.min ys.length (xs.length-lo.toNat):=by rw [length_take,hnl];exact Nat.min_comm _ _
   have hle:Nat.min ys.length (xs.length-lo.toNat)<=xs.length-lo.toNat:=Nat.min_le_right _ _;have hr:=run_copy_row (P:=P) w t t o.type e g lo.toNat (xs.length-lo.toNat) (c-lo.toNat) ⟨g,0,none⟩ ys.length c cur e (news.take (xs.length-lo.toNat)) ht hE hg hml (fun j v hj=>by
    rw [b0a];have hj':news[j]?=some v:=by
     rcases Nat.lt_or_ge j (xs.length-lo.toNat) with h | h
     ·rwa [List.getElem?_take_of_lt h] at hj
     ·rw [List.getElem?_take_eq_none h] at hj;cases hj
    have:=hcells g 0 rfl j v hj';simpa using this) (by rw [hml,hcs];omega) (fun v hv=>hen.f01 v (List.mem_of_mem_take hv))
   have hgS:=hs0 g (by simp [Value.ownBlock]);have hgl:=getElem?_lt hg;generalize hN:news.take (xs.length-lo.toNat)=N at *;have hon:k7 g w (w.setRow g (cur.toList.take lo.toNat++N++cur.toList.drop (lo.toNat+N.length)).toArray):=⟨rfl,rfl,rfl,by simp [World.setRow],fun k _ hk=>by simp [World.setRow,Array.getElem?_modify,Ne.symm hk]⟩
   have hk:=hon.L1 hgS.1;have hcz:cur.toList.length=c:=by rw [Array.length_toList,hcs]
   refine fin _ _ hr hml (hon.cx cx (hW _ hgS.2)) (fun k hk hne=>hon.block k hk (fun e=>hne (by rw [e];simp [Value.ownBlock]))) hk ⟨hs0,cs.take lo.toNat++(N++(cs.drop lo.toNat).drop ys.length),⟨?_,.inr ⟨g,c,(cur.toList.take lo.toNat++N++cur.toList.drop (lo.toNat+N.length)).toArray,by rw [g0G],setRow_heap w g cur _ e _ hg,by rw [g0G];exact hnc,hm,?_,?_⟩⟩,?_⟩
   ·rw [g0G,hT,mul_one,length_append,length_append,hml,length_drop,length_drop,length_take,hcl2];rcases le_total ys.length (xs.length-lo.toNat) with h | h
    ·rw [show Nat.min ys.length (xs.length-lo.toNat)=ys.length from min_eq_left h];omega
    ·rw [show Nat.min ys.length (xs.length-lo.toNat)=xs.length-lo.toNat from Nat.min_eq_right h];omega
   ·rw [hT,mul_one,List.size_toArray,length_append,length_append,length_drop,length_take,hcz];omega
   ·rw [g0G,hT,mul_one];show List.take xs.length (cur.toList.take lo.toNat++N++cur.toList.drop (lo.toNat+N.length))=_;have hA1:(cur.toList.take lo.toNat++N).length=lo.toNat+N.length:=by rw [length_append,length_take,hcz];omega
    rw [List.take_append,List.take_of_length_le (by rw [hA1];omega),hA1,<-htake,List.take_take,min_eq_left (by omega),List.append_assoc];congr 1;congr 1;rw [List.drop_drop,List.drop_take];rcases le_total ys.length (xs.length-lo.toNat) with h | h
    ·rw [hml,show Nat.min ys.length (xs.length-lo.toNat)=ys.length from min_eq_left h]
    ·rw [hml,show Nat.min ys.length (xs.length-lo.toNat)=xs.length-lo.toNat from Nat.min_eq_right h,show xs.length-(lo.toNat+(xs.length-lo.toNat))=0 by omega,show xs.length-(lo.toNat+ys.length)=0 by omega,List.take_zero,List.take_zero]
   ·have h1:=(hels.L1 hk).cut lo.toNat;have h2:=(hen.L1 hk).cut (xs.length-lo.toNat);have h3:=((hels.L1 hk).tail lo.toNat).tail ys.length;rw [hT,mul_one] at h1 h2 h3;rw [mul_one,hN] at *;have h4:=h1.append (h2.append h3);unfold H9 G4;rw [length_drop,hys];exact h4
end Go.V
set_option maxRecDepth 100000
namespace Go.Proofs.YtdficaoajalfaaaGreat.Wr
open Go.V Go.RowKit
def g0t (fuel:Nat) (p0:Int) (p1:Int):Option (Int×Int):=
 some ((IntKind.wrap .u64 ((IntKind.wrap .u64 ((IntKind.wrap .u64 ((shr .u64 p0 32)*(shr .u64 p1 32)))+(shr .u64 (IntKind.wrap .u64 ((IntKind.wrap .u64 ((shr .u64 p0 32)*(C3 .u64 p1 4294967295)))+(shr .u64 (IntKind.wrap .u64 ((C3 .u64 p0 4294967295)*(C3 .u64 p1 4294967295))) 32))) 32)))+(shr .u64 (IntKind.wrap .u64 ((C3 .u64 (IntKind.wrap .u64 ((IntKind.wrap .u64 ((shr .u64 p0 32)*(C3 .u64 p1 4294967295)))+(shr .u64 (IntKind.wrap .u64 ((C3 .u64 p0 4294967295)*(C3 .u64 p1 4294967295))) 32))) 4294967295)+(IntKind.wrap .u64 ((C3 .u64 p0 4294967295)*(shr .u64 p1 32))))) 32))),(IntKind.wrap .u64 (p0*p1)))
def e07 (fuel:Nat) (p0:Int) (p1:Int):Option (Int×Int):=
 Option.bind (g0t fuel p0 p1) fun x1=>
 some (x1.1,x1.2)
def c0K (fuel:Nat) (x1:Int×Int) (p0:(List Int)) (s_:List Int×Int):Option (V0 (List Int×Int) (List Int)):=
 let (x3,x4):=s_
 if (decide (x4<(x3.length:Int))) then
  if I4 x3 x4 (x3.length:Int) then
   if I4 x3 0 x4 then
    some (.next ((H9 x3 x4 x4),(W (x4+((Nat.min (I1 x3 0 x4).length (x3.length-x4.toNat):Nat):Int)))))
   else none
  else none
 else
  some (.done x3)
def i0X (fuel:Nat) (p0:(List Int)) (p1:Int):Option ((List Int)):=
 if (decide (p1<0)) then
 none
else
 Option.bind (e07 fuel (IntKind.wrap .u64 ((p0.length:Int))) (IntKind.wrap .u64 (p1))) fun x1=>
  Option.bind ((
   if (decide (x1.1>0)) then
    some true
   else
    some (decide (x1.2>9223372036854775807))):Option (Bool)) fun x2=>
   if x2 then
    none
   else
    if V2 8 (W (x1.2)) then
     Option.bind (iter (c0K fuel x1 p0) fuel ((G4 (List.replicate (Int.toNat (W (x1.2))) (0:Int)) p0),((Nat.min p0.length (List.replicate (Int.toNat (W (x1.2))) (0:Int)).length:Nat):Int))) fun y1=>
      some y1
    else none
def A0n (w:World) (S:D0) (r:(Int×Int)) (v:Value) (w1:World):Prop:=∃ v0:Value,∃ v1:Value,v=.tuple #[v0,v1]/\(v0=.int .u64 r.1)/\(v1=.int .u64 r.2)
abbrev t03 (w:World) (S:D0) (r:(Int×Int)):Ending->World->Prop:=fun e w1=>∃ v,e=.returned v/\Below w.heap.size w w1/\A0n w S r v w1
theorem A0S (fuel:Nat) {w:World} {S:D0} (hS:∀ b,S b->b<w.heap.size) {p0 p1}  {r} (h:g0t fuel p0 p1=some r) :
 Calls Tryz.prog 216 #[.int .u64 p0,.int .u64 p1] w (t03 w S r):=by
 refine k0H (vs:=[.int .u64 p0,.int .u64 p1]) Tryz.func216 rfl rfl ?_;intro a ha;have cx:=Cx.start (W0:=Q5) hS;refine wn fun hq=>?_;unfold g0t at h;refine sq fun K hK=>R6 (sg ha 2 [(0,.int .u64 p0),(1,.int .u64 p1)] w fun a ha=>?_);refine hK ?_;clear hK;refine sq fun K hK=>R6 (sk ha 3 [(6,.int .u64 (C3 .u64 p0 4294967295))] fun a ha=>?_);refine hK ?_;clear hK;refine sq fun K hK=>R6 (sk ha 3 [(7,.int .u64 (shr .u64 p0 32))] fun a ha=>?_);refine hK ?_;clear hK;refine sq fun K hK=>R6 (sk ha 3 [(8,.int .u64 (C3 .u64 p1 4294967295))] fun a ha=>?_);refine hK ?_;clear hK;refine sq fun K hK=>R6 (sk ha 3 [(9,.int .u64 (shr .u64 p1 32))] fun a ha=>?_);refine hK ?_;clear hK;refine sq fun K hK=>R6 (sk ha 4 [(10,.int .u64 (IntKind.wrap .u64 ((C3 .u64 p0 4294967295)*(C3 .u64 p1 4294967295))))] fun a ha=>?_);refine hK ?_;clear hK;refine sq fun K hK=>R6 (sk ha 7 [(11,.int .u64 (IntKind.wrap .u64 ((IntKind.wrap .u64 ((shr .u64 p0 32)*(C3 .u64 p1 4294967295)))+(shr .u64 (IntKind.wrap .u64 ((C3 .u64 p0 4294967295)*(C3 .u64 p1 4294967295))) 32))))] fun a ha=>?_);refine hK ?_;clear hK;refine sq fun K hK=>R6 (sk ha 3 [(12,.int .u64 (C3 .u64 (IntKind.wrap .u64 ((IntKind.wrap .u64 ((shr .u64 p0 32)*(C3 .u64 p1 4294967295)))+(shr .u64 (IntKind.wrap .u64 ((C3 .u64 p0 4294967295)*(C3 .u64 p1 4294967295))) 32))) 4294967295))] fun a ha=>?_);refine hK ?_;clear hK;refine sq fun K hK=>R6 (sk ha 3 [(13,.int .u64 (shr .u64 (IntKind.wrap .u64 ((IntKind.wrap .u64 ((shr .u64 p0 32)*(C3 .u64 p1 4294967295)))+(shr .u64 (IntKind.wrap .u64 ((C3 .u64 p0 4294967295)*(C3 .u64 p1 4294967295))) 32))) 32))] fun a ha=>?_);refine hK ?_;clear hK;refine sq fun K hK=>R6 (sk ha 6 [(12,.int .u64 (IntKind.wrap .u64 ((C3 .u64 (IntKind.wrap .u64 ((IntKind.wrap .u64 ((shr .u64 p0 32)*(C3 .u64 p1 4294967295)))+(shr .u64 (IntKind.wrap .u64 ((C3 .u64 p0 4294967295)*(C3 .u64 p1 4294967295))) 32))) 4294967295)+(IntKind.wrap .u64 ((C3 .u64 p0 4294967295)*(shr .u64 p1 32))))))] fun a ha=>?_);refine hK ?_;clear hK;refine sq fun K hK=>R6 (sk ha 9 [(4,.int .u64 (IntKind.wrap .u64 ((IntKind.wrap .u64 ((IntKind.wrap .u64 ((shr .u64 p0 32)*(shr .u64 p1 32)))+(shr .u64 (IntKind.wrap .u64 ((IntKind.wrap .u64 ((shr .u64 p0 32)*(C3 .u64 p1 4294967295)))+(shr .u64 (IntKind.wrap .u64 ((C3 .u64 p0 4294967295)*(C3 .u64 p1 4294967295))) 32))) 32)))+(shr .u64 (IntKind.wrap .u64 ((C3 .u64 (IntKind.wrap .u64 ((IntKind.wrap .u64 ((shr .u64 p0 32)*(C3 .u64 p1 4294967295)))+(shr .u64 (IntKind.wrap .u64 ((C3 .u64 p0 4294967295)*(C3 .u64 p1 4294967295))) 32))) 4294967295)+(IntKind.wrap .u64 ((C3 .u64 p0 4294967295)*(shr .u64 p1 32))))) 32))))] fun a ha=>?_);refine hK ?_;clear hK;refine sq fun K hK=>R6 (sk ha 4 [(5,.int .u64 (IntKind.wrap .u64 (p0*p1)))] fun a ha=>?_);refine hK ?_;clear hK;refine wp_ret ?_;obtain rfl:=sj h;show bodyPost Tryz.prog Tryz.f216 (t03 w S _) .ret a w;exact r0h (r1:=.tmp 4) (v1:=.int .u64 (IntKind.wrap .u64 ((IntKind.wrap .u64 ((IntKind.wrap .u64 ((shr .u64 p0 32)*(shr .u64 p1 32)))+(shr .u64 (IntKind.wrap .u64 ((IntKind.wrap .u64 ((shr .u64 p0 32)*(C3 .u64 p1 4294967295)))+(shr .u64 (IntKind.wrap .u64 ((C3 .u64 p0 4294967295)*(C3 .u64 p1 4294967295))) 32))) 32)))+(shr .u64 (IntKind.wrap .u64 ((C3 .u64 (IntKind.wrap .u64 ((IntKind.wrap .u64 ((shr .u64 p0 32)*(C3 .u64 p1 4294967295)))+(shr .u64 (IntKind.wrap .u64 ((C3 .u64 p0 4294967295)*(C3 .u64 p1 4294967295))) 32))) 4294967295)+(IntKind.wrap .u64 ((C3 .u64 p0 4294967295)*(shr .u64 p1 32))))) 32)))) (r2:=.tmp 5) (v2:=.int .u64 (IntKind.wrap .u64 (p0*p1))) ha rfl (.inl rfl) rfl rfl ⟨_,rfl,cx.below,⟨_,_,rfl,rfl,rfl⟩⟩
def C0f (w:World) (S:D0) (r:(Int×Int)) (v:Value) (w1:World):Prop:=∃ v0:Value,∃ v1:Value,v=.tuple #[v0,v1]/\(v0=.int .u64 r.1)/\(v1=.int .u64 r.2)
abbrev p0v (w:World) (S:D0) (r:(Int×Int)):Ending->World->Prop:=fun e w1=>∃ v,e=.returned v/\Below w.heap.size w w1/\C0f w S r v w1
theorem y06 (fuel:Nat) {w:World} {S:D0} (hS:∀ b,S b->b<w.heap.size) {p0 p1}  {r} (h:e07 fuel p0 p1=some r) :
 Calls Tryz.prog 202 #[.int .u64 p0,.int .u64 p1] w (p0v w S r):=by
 refine k0H (vs:=[.int .u64 p0,.int .u64 p1]) Tryz.func202 rfl rfl ?_;intro a ha;have cx:=Cx.start (W0:=Q5) hS;refine wn fun hq=>?_;unfold e07 at h;refine sq fun K hK=>R6 (sg ha 2 [(0,.int .u64 p0),(1,.int .u64 p1)] w fun a ha=>?_);refine hK ?_;clear hK;refine sq fun K hK=>?_;refine w0o ha rfl ?_;refine wp_skip (hK ?_);clear hK;refine sq fun K hK=>R6 (sk ha 2 [(23,.int .u64 p0),(24,.int .u64 p1)] fun a ha=>?_);obtain ⟨x1,hx1,h⟩:=b0Z h;refine t01 ha (by kernel_rfl) (f:=216) (args:=#[.int .u64 p0,.int .u64 p1]) (w':=w) (by kernel_rfl) (A0S fuel (p0:=p0) (p1:=p1) cx.lt hx1) ?_;rintro v1 w1 ⟨hb1,hp1⟩ a ha;obtain ⟨_,_,rfl,rfl,rfl⟩:=hp1;replace cx:=cx.ext hb1;refine sk ha 5 [(8,.int .u64 x1.1),(9,.int .u64 x1.2)] fun a ha=>?_;refine hK ?_;clear hK;refine sq fun K hK=>R6 (sk ha 4 [(4,.int .u64 x1.1),(5,.int .u64 x1.2)] fun a ha=>?_);refine hK ?_;clear hK;refine wp_ret ?_;obtain rfl:=sj h;show bodyPost Tryz.prog Tryz.f202 (p0v w S _) .ret a w1;exact r0h (r1:=.tmp 4) (v1:=.int .u64 x1.1) (r2:=.tmp 5) (v2:=.int .u64 x1.2) ha rfl (.inl rfl) rfl rfl ⟨_,rfl,cx.below,⟨_,_,rfl,rfl,rfl⟩⟩
def B0o (w:World) (S:D0) (r:((List Int))) (v:Value) (w1:World):Prop:=∃ (A:Option Addr) (c:Nat),v=.slice A r.length c/\Ow (C2 .i64) 3 (Wr Q5 w) w1.heap (inV v S) v r
abbrev r0l (w:World) (S:D0) (r:((List Int))):Ending->World->Prop:=fun e w1=>∃ v,e=.returned v/\Below w.heap.size w w1/\B0o w S r v w1
theorem v04 (fuel:Nat) {w:World} {S:D0} (hS:∀ b,S b->b<w.heap.size) {p0 p1 A_p0 c_p0} (h_p0:Sl (C2 .i64) w.heap S A_p0 c_p0 p0) {r} (h:i0X fuel p0 p1=some r) :
 Calls Tryz.prog 194 #[vS A_p0 p0 c_p0,vI p1] w (r0l w S r):=by
 refine k0H (vs:=[vS A_p0 p0 c_p0,vI p1]) Tryz.func194 rfl rfl ?_;intro a ha;have cx:=Cx.start (W0:=Q5) hS;refine wn fun hq=>?_;unfold i0X at h;refine sq fun K hK=>R6 (sg ha 1 [(0,vS A_p0 p0 c_p0),(1,vI p1)] w fun a ha=>?_);refine hK ?_;clear hK;refine sq fun K hK=>sq fun K hK=>R6 (sk ha 2 [(10,vB (decide (p1<0)))] fun a ha=>?_);refine hK ?_;clear hK;refine n0K ha rfl (fun hb=>?_) (fun hb=>?_)
 ·replace h:=itT hb h;cases h
 ·replace h:=itF hb h;refine wp_skip (hK ?_);clear hK;refine sq fun K hK=>R6 (sk ha 5 [(15,.int .u64 (IntKind.wrap .u64 ((p0.length:Int)))),(17,.int .u64 (IntKind.wrap .u64 (p1)))] fun a ha=>?_);obtain ⟨x1,hx1,h⟩:=b0Z h;refine t01 ha (by kernel_rfl) (f:=202) (args:=#[.int .u64 (IntKind.wrap .u64 ((p0.length:Int))),.int .u64 (IntKind.wrap .u64 (p1))]) (w':=w) (by kernel_rfl) (y06 fuel (p0:=(IntKind.wrap .u64 ((p0.length:Int)))) (p1:=(IntKind.wrap .u64 (p1))) cx.lt hx1) ?_;rintro v1 w1 ⟨hb1,hp1⟩ a ha;obtain ⟨_,_,rfl,rfl,rfl⟩:=hp1;replace h_p0:=h_p0.L1 (U0.ext S hb1);replace cx:=cx.ext hb1;refine sk ha 5 [(5,.int .u64 x1.1),(6,.int .u64 x1.2)] fun a ha=>?_;refine hK ?_;clear hK;refine sq fun K hK=>sq fun K hK=>?_;obtain ⟨q1,hj1,h⟩:=b0Z h;refine C0p (D:=fun a w_=>∃ x2:Bool,x2=q1/\w1=w_/\Ag 48 [(0,vS A_p0 p0 c_p0),(6,.int .u64 x1.2),(26,vB x2)] a) ?_ ?_
  ·clear h;have h:=hj1;refine R6 (sk ha 3 [(23,vB (decide (x1.1>0)))] fun a ha=>?_);refine z05 (t:=23) ha rfl (fun hb ha=>?_) (fun hb ha=>?_)
   ·replace h:=itT hb h;refine sk ha 3 [(26,vB true)] fun a ha=>?_;obtain rfl:=sj h;exact ⟨_,rfl,rfl,ha.to (by kernel_rfl)⟩
   ·replace h:=itF hb h;refine sk ha 3 [(26,vB (decide (x1.2>9223372036854775807)))] fun a ha=>?_;obtain rfl:=sj h;exact ⟨_,rfl,rfl,ha.to (by kernel_rfl)⟩
  rintro a _ ⟨x2,rfl,rfl,ha⟩;refine hK ?_;clear hK;refine n0K ha rfl (fun hb=>?_) (fun hb=>?_)
  ·replace h:=itT hb h;cases h
  ·replace h:=itF hb h;refine wp_skip (hK ?_);clear hK;refine sq fun K hK=>R6 (sg ha 2 [(0,vS A_p0 p0 c_p0),(29,vI (W (x1.2)))] w1 fun a ha=>?_);obtain ⟨hp2,h⟩:=l09 h;refine D0D (T:=(C2 .i64)) (z:=vI 0) (zx:=(0:Int)) (bytes:=8) ha cx (by kernel_rfl) rfl rfl rfl Tryz.underlying47 (by kernel_rfl) (by kernel_rfl) (fun _ _=>rfl) hp2 ?_;intro w2 S1 A1 c1 cx hb2 kp1 hs1 hn1 f1 a ha;replace h_p0:=h_p0.L1 kp1;refine sk ha 1 [(7,vS A1 (List.replicate (Int.toNat (W (x1.2))) (0:Int)) c1)] fun a ha=>?_;refine hK ?_;clear hK;refine sq fun K hK=>R6 (sk ha 2 [(31,vS A1 (List.replicate (Int.toNat (W (x1.2))) (0:Int)) c1),(32,vS A_p0 p0 c_p0)] fun a ha=>?_);refine x04 (T:=(C2 .i64)) (xs:=(List.replicate (Int.toNat (W (x1.2))) (0:Int))) (ys:=p0) ha cx (by kernel_rfl) rfl rfl rfl Tryz.underlying47 (by kernel_rfl) rfl q0b f1 h_p0.rdb ?_;intro w3 cx on1 kp2 f2 a ha;have hl1:((G4 (List.replicate (Int.toNat (W (x1.2))) (0:Int)) p0)).length=(List.replicate (Int.toNat (W (x1.2))) (0:Int)).length:=b05 _ _;replace ha:Ag 48 [(7,.slice A1 (G4 (List.replicate (Int.toNat (W (x1.2))) (0:Int)) p0).length c1),(33,.int .i64 ((Nat.min p0.length (List.replicate (Int.toNat (W (x1.2))) (0:Int)).length:Nat):Int))] a:=by rw [hl1];exact ha.to (by kernel_rfl)
   replace f2:Ow (C2 .i64) 3 (Wr Q5 w) w3.heap S1 (.slice A1 (G4 (List.replicate (Int.toNat (W (x1.2))) (0:Int)) p0).length c1) (G4 (List.replicate (Int.toNat (W (x1.2))) (0:Int)) p0):=by rw [hl1];exact f2
   refine sg ha 1 [(7,vS A1 (G4 (List.replicate (Int.toNat (W (x1.2))) (0:Int)) p0) c1),(8,vI ((Nat.min p0.length (List.replicate (Int.toNat (W (x1.2))) (0:Int)).length:Nat):Int))] w3 fun a ha=>?_;refine hK ?_;clear hK;refine sq fun K hK=>wp_block ?_;obtain ⟨t1,ht1,h⟩:=b0Z h;refine wp_mono (s0e (step:=(c0K fuel x1 p0)) (I:=fun (s:List Int×Int) a w4=>match s with | (x3,x4)=>∃ (S2:D0),∃ (A2:Option Addr) (c2:Nat),Cx w Q5 S w4 S2/\Ow (C2 .i64) 3 (Wr Q5 w) w4.heap S2 (vS A2 x3 c2) x3/\Ag 48 [(7,vS A2 x3 c2),(8,vI x4)] a) (D:=fun (t:List Int) e a w5=>match t with | y1=>e=.exit 0/\∃ (S3:D0),∃ (A3:Option Addr) (c3:Nat),Cx w Q5 S w5 S3/\Ow (C2 .i64) 3 (Wr Q5 w) w5.heap S3 (vS A3 y1 c3) y1/\Ag 48 [(7,vS A3 y1 c3)] a) ?_ fuel _ t1 a _ ht1 ?_) ?_
   ·clear h ht1;rintro ⟨x3,x4⟩ ct a w4 ⟨S2,A2,c2,cx,f3,ha⟩ h;refine r0Y (NoP.loop (fun t c a w h=>by cases t<;>exact absurd h.1 (by simp))) (fun hq=>?_);unfold c0K at h;refine sq fun K hK=>sq fun K hK=>R6 (sg ha 4 [(7,vS A2 x3 c2),(8,vI x4),(37,vB (decide (x4<(x3.length:Int))))] w4 fun a ha=>?_);refine hK ?_;clear hK;refine n0K ha rfl (fun hb=>?_) (fun hb=>?_)
    ·replace h:=itT hb h;refine wp_skip (hK ?_);clear hK;refine wp_block ?_;refine w0R 7 S2 rfl ?_;intro w6 e1 hb3;replace f3:=f3.ext hb3;replace cx:=cx.ext hb3;have hkk:=U0.refl w6.heap S2;have hold:=w8.start w6;have g1:=f3;refine dk 0 (vI x4) ha hq rfl (Sd.start _ _ _ _) fun hsx a ha=>?_;refine dk 1 (vS A2 x3 c2) ha hq rfl hsx fun hsx a ha=>?_;refine dk 2 (vI x4) ha hq rfl hsx fun hsx a ha=>?_;obtain ⟨hi1,h⟩:=l09 h;obtain ⟨A4,hr1,hA1⟩:=y03 (P:=Tryz.prog) (t:=47) (lo:=vI x4) Tryz.underlying47 (by kernel_rfl) f3 hi1;refine dv 3 (.slice A4 (x3.length-x4.toNat) (c2-x4.toNat)) ha hq rfl (fun w2 hw2 hw3=>p0n w2 rfl (hr1 w2)) hsx fun hsx a ha=>?_;refine dk 4 (vS A2 x3 c2) ha hq rfl hsx fun hsx a ha=>?_;refine dk 5 (vI x4) ha hq rfl hsx fun hsx a ha=>?_;obtain ⟨hi2,h⟩:=l09 h;obtain ⟨hr2,_⟩:=A0p (P:=Tryz.prog) (t:=47) (hi:=vI x4) Tryz.underlying47 (by kernel_rfl) f3 hi2;refine dv 6 (.slice A2 ((I1 x3 0 x4).length) c2) ha hq rfl (fun w2 hw2 hw3=>p0n w2 rfl (hr2 w2)) hsx fun hsx a ha=>?_;refine u0g (i:=7) (by kernel_rfl) rfl ?_;refine v0R (T:=(C2 .i64)) (xs:=x3) (lo:=x4) (hi:=x4) ha cx (by kernel_rfl) rfl rfl rfl Tryz.underlying47 (by kernel_rfl) rfl q0b f3 hi1 hi2 hA1 ?_;intro w7 cx on2 kp3 f7 a ha;have hl2:((H9 x3 x4 x4)).length=x3.length:=g0G _ _ _;replace ha:Ag 48 [(7,.slice A2 (H9 x3 x4 x4).length c2),(38,.int .i64 x4),(45,.int .i64 ((Nat.min (I1 x3 0 x4).length (x3.length-x4.toNat):Nat):Int))] a:=by rw [hl2];exact ha.to (by kernel_rfl)
     replace f7:Ow (C2 .i64) 3 (Wr Q5 w) w7.heap S2 (.slice A2 (H9 x3 x4 x4).length c2) (H9 x3 x4 x4):=by rw [hl2];exact f7
     replace hkk:=hkk.trans kp3;refine s0M (Sd.behind hkk (by kernel_rfl)) ?_;refine dk 8 (vI (W (x4+((Nat.min (I1 x3 0 x4).length (x3.length-x4.toNat):Nat):Int)))) ha hq rfl (Sd.behind hkk (by kernel_rfl)) fun hsx a ha=>?_;refine dk 9 (vI (W (x4+((Nat.min (I1 x3 0 x4).length (x3.length-x4.toNat):Nat):Int)))) ha hq rfl hsx fun hsx a ha=>?_;refine s0C (by kernel_rfl) ?_;replace ha:=ha.to (l':=[(7,vS A2 (H9 x3 x4 x4) c2),(8,vI (W (x4+((Nat.min (I1 x3 0 x4).length (x3.length-x4.toNat):Nat):Int))))]) (by kernel_rfl);obtain rfl:=sj h;exact ⟨_,rfl,S2,A2,c2,cx,f7,ha.to (by kernel_rfl)⟩
    ·replace h:=itF hb h;refine wp_exit ?_;obtain rfl:=sj h;exact ⟨_,rfl,rfl,S2,A2,c2,cx,f3,ha.to (by kernel_rfl)⟩
   ·exact ⟨S1,A1,c1,cx,f2,ha.to (by kernel_rfl)⟩
   intro e a w5 hd;generalize t1=y1 at *;obtain ⟨rfl,S3,A3,c3,cx,f4,ha⟩:=hd;refine hK ?_;clear hK;refine sq fun K hK=>R6 (sg ha 2 [(4,vS A3 y1 c3)] w5 fun a ha=>?_);refine hK ?_;clear hK;refine wp_ret ?_;obtain rfl:=sj h;show bodyPost Tryz.prog Tryz.f194 (r0l w S _) .ret a w5;exact u0m (r1:=.tmp 4) (v1:=vS A3 y1 c3) ha rfl (.inl rfl) rfl ⟨_,rfl,cx.below,⟨_,_,rfl,f4.result cx.sub⟩⟩
theorem v0s:∀ k,k<1001->e07 0 (IntKind.wrap .u64 1) (IntKind.wrap .u64 ((k:Nat):Int))=some (0,(k:Int)):=by decide+kernel
theorem w0x {fuel k:Nat} {v:Int} (hk:k<=1000) (hf:1000<fuel):i0X fuel [v] (k:Int)=some (List.replicate k v):=by
 have hm:e07 fuel (IntKind.wrap .u64 (([v].length:Nat):Int)) (IntKind.wrap .u64 (k:Int))=some (0,(k:Int)):=v0s k (by omega);have loop:∀ (m n fu:Nat),1<=n->n<=k->k-n<=m->m<fu->iter (c0K fuel (0,(k:Int)) [v]) fu (List.replicate n v++List.replicate (k-n) 0,(n:Int))=some (List.replicate k v):=by
  intro m
  induction m with
  |
   zero=>
   intro n fu h1 h2 h3 h4;obtain ⟨fu,rfl⟩:∃ q,fu=q+1:=⟨fu-1,by omega⟩
   have:n=k:=by omega
   subst this;unfold iter c0K;simp
  |
   succ m ih=>
   intro n fu h1 h2 h3 h4;obtain ⟨fu,rfl⟩:∃ q,fu=q+1:=⟨fu-1,by omega⟩
   by_cases c:n=k
   ·subst c;unfold iter c0K;simp
   ·have hlen:(List.replicate n v++List.replicate (k-n) (0:Int)).length=k:=by simp;omega
    have hcut:I1 (List.replicate n v++List.replicate (k-n) (0:Int)) 0 (n:Int)=List.replicate n v:=by
     unfold I1;simp
    have hci:H9 (List.replicate n v++List.replicate (k-n) (0:Int)) (n:Int) (n:Int)=List.replicate (n+min n (k-n)) v++List.replicate (k-(n+min n (k-n))) 0:=by
     unfold H9 G4;rw [hcut];simp only [Int.toNat_natCast];rw [List.take_left' (by simp),List.drop_left' (by simp)];simp only [length_replicate,List.take_replicate,List.drop_replicate];rw [Nat.min_comm (k-n) n,show k-(n+min n (k-n))=k-n-n by omega,<-List.append_assoc,List.replicate_append_replicate]
    have hst:c0K fuel (0,(k:Int)) [v] (List.replicate n v++List.replicate (k-n) 0,(n:Int))=some (.next (List.replicate (n+min n (k-n)) v++List.replicate (k-(n+min n (k-n))) 0,((n+min n (k-n):Nat):Int))):=by
     unfold c0K;have s1:I4 (List.replicate n v++List.replicate (k-n) (0:Int)) (n:Int) (k:Int)=true:=by
      unfold I4;rw [hlen];simp;omega
     have s2:I4 (List.replicate n v++List.replicate (k-n) (0:Int)) 0 (n:Int)=true:=by
      unfold I4;rw [hlen];simp;omega
     have hd:(n:Int)<(k:Int):=by omega
     have hmin:Nat.min n (k-n)<=n:=Nat.min_le_left _ _;simp only [hlen,hd,decide_true,if_true,s1,s2,hci,hcut,length_replicate,Int.toNat_natCast];rw [n3 (by omega) (by omega)];rfl
    unfold iter;rw [hst];exact ih (n+min n (k-n)) fu (by omega) (by omega) (by omega) (by omega)
 unfold i0X;have hk0:¬ (k:Int)<0:=by omega
 simp only [hk0,decide_false,Bool.false_eq_true,if_false,hm,G0,show ¬ ((0:Int)>0) by omega,show ¬ ((k:Int)>9223372036854775807) by omega,n3 (n:=(k:Int)) (by omega) (by omega),Int.toNat_natCast];rw [if_pos (show V2 8 (k:Int)=true by unfold V2;simp;omega)];rcases Nat.eq_zero_or_pos k with h0 | h0
 ·subst h0;obtain ⟨fu,rfl⟩:∃ q,fuel=q+1:=⟨fuel-1,by omega⟩
  simp [G4,iter,c0K]
 ·have:=loop k 1 fuel (by omega) (by omega) (by omega) (by omega);have hc:G4 (List.replicate k (0:Int)) [v]=List.replicate 1 v++List.replicate (k-1) 0:=by
   unfold G4;simp only [length_replicate,List.length_singleton,List.drop_replicate];rw [List.take_of_length_le (by simp;omega)];rfl
  have hm2:((Nat.min [v].length (List.replicate k (0:Int)).length:Nat):Int)=((1:Nat):Int):=by
   simp only [length_replicate,List.length_singleton];congr 1;exact min_eq_left h0
  rw [hc,hm2,this];rfl
