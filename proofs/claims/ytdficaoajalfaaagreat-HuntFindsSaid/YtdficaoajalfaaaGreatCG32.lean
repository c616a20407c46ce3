/- P. Its conditions: none. -/
import Derived.Shelf.SlSortCmp.NoneTotal
import Derived.Ground.SlsfProg
import Derived.Test.YtdficaoajalfaaaGreatProg
import Derived.Test.YtdficaoajalfaaaGreatCG26
import Derived.Test.YtdficaoajalfaaaGreatCG02
import Derived.Test.YtdficaoajalfaaaGreatCVShort
import Derived.Test.YtdficaoajalfaaaGreatCG24
open List (length_replicate length_append length_take length_drop)
open Nat (le_total min_eq_left mul_one)
set_option linter.all false
namespace Go.Proofs
open Go.Shelf
def Tryz.n0Y:Go.Shelf.Ren:=⟨fun|6=>173|15=>198|14=>197|28=>211|29=>212|20=>203|21=>204|22=>205|23=>206|24=>207|25=>208|26=>209|27=>210|46=>217|47=>218|48=>219|49=>220|50=>221|57=>222|n=>n,fun|22=>56|24=>121|25=>225|3=>3|39=>246|0=>0|53=>262|55=>143|4=>4|46=>256|45=>255|50=>216|5=>5|9=>9|66=>269|70=>193|76=>274|77=>275|n=>n,fun|n=>n⟩
def Tryz.y0q:Go.Proofs.SlLaysF0.n6 Tryz.prog Tryz.n0Y:={
 mixed:=X'
 f6:=⟨Tryz.f173.name,by decide,Tryz.func173.trans (congrArg some X')⟩
 f14:=⟨Tryz.f197.name,by decide,Tryz.func197.trans (congrArg some X')⟩
 f15:=Tryz.func198.trans (congrArg some X')
 f20:=⟨Tryz.f203.name,by decide,Tryz.func203.trans (congrArg some X')⟩
 f21:=⟨Tryz.f204.name,by decide,Tryz.func204.trans (congrArg some X')⟩
 f22:=⟨Tryz.f205.name,by decide,Tryz.func205.trans (congrArg some X')⟩
 f23:=⟨Tryz.f206.name,by decide,Tryz.func206.trans (congrArg some X')⟩
 f24:=⟨Tryz.f207.name,by decide,Tryz.func207.trans (congrArg some X')⟩
 f25:=⟨Tryz.f208.name,by decide,Tryz.func208.trans (congrArg some X')⟩
 f26:=⟨Tryz.f209.name,by decide,Tryz.func209.trans (congrArg some X')⟩
 f27:=⟨Tryz.f210.name,by decide,Tryz.func210.trans (congrArg some X')⟩
 f28:=Tryz.func211.trans (congrArg some X')
 f29:=Tryz.func212.trans (congrArg some X')
 f46:=⟨Tryz.f217.name,by decide,Tryz.func217.trans (congrArg some X')⟩
 f47:=Tryz.func218.trans (congrArg some X')
 f48:=Tryz.func219.trans (congrArg some X')
 f49:=⟨Tryz.f220.name,by decide,Tryz.func220.trans (congrArg some X')⟩
 f50:=⟨Tryz.f221.name,by decide,Tryz.func221.trans (congrArg some X')⟩
 f57:=⟨Tryz.f222.name,by decide,Tryz.func222.trans (congrArg some X')⟩
 t0:=Tryz.underlying0
 a0:=Tryz.isAgg0
 z0:=Tryz.sizeOf0
 v0:=Tryz.zeroValue0
 t3:=Tryz.underlying3
 a3:=Tryz.isAgg3
 z3:=Tryz.sizeOf3
 v3:=Tryz.zeroValue3
 t4:=Tryz.underlying4
 a4:=Tryz.isAgg4
 z4:=Tryz.sizeOf4
 v4:=Tryz.zeroValue4
 t5:=Tryz.underlying5
 a5:=Tryz.isAgg5
 z5:=Tryz.sizeOf5
 v5:=Tryz.zeroValue5
 t9:=Tryz.underlying9
 a9:=Tryz.isAgg9
 z9:=Tryz.sizeOf9
 v9:=Tryz.zeroValue9
 t22:=Tryz.underlying56
 a22:=Tryz.isAgg56
 z22:=Tryz.sizeOf56
 v22:=Tryz.zeroValue56
 t25:=Tryz.underlying225
 a25:=Tryz.isAgg225
 z25:=Tryz.sizeOf225
 v25:=Tryz.zeroValue225
 t39:=Tryz.underlying246
 a39:=Tryz.isAgg246
 z39:=Tryz.sizeOf246
 v39:=Tryz.zeroValue246
 t45:=Tryz.underlying255
 a45:=Tryz.isAgg255
 z45:=Tryz.sizeOf255
 v45:=Tryz.zeroValue255
 t46:=Tryz.underlying256
 a46:=Tryz.isAgg256
 z46:=Tryz.sizeOf256
 v46:=Tryz.zeroValue256
 t50:=Tryz.underlying216
 a50:=Tryz.isAgg216
 z50:=Tryz.sizeOf216
 v50:=Tryz.zeroValue216
 t53:=Tryz.underlying262
 a53:=Tryz.isAgg262
 z53:=Tryz.sizeOf262
 v53:=Tryz.zeroValue262
 t55:=Tryz.underlying143
 a55:=Tryz.isAgg143
 z55:=Tryz.sizeOf143
 v55:=Tryz.zeroValue143
 t66:=Tryz.underlying269
 a66:=Tryz.isAgg269
 z66:=Tryz.sizeOf269
 v66:=Tryz.zeroValue269
 t70:=Tryz.underlying193
 a70:=Tryz.isAgg193
 z70:=Tryz.sizeOf193
 v70:=Tryz.zeroValue193
 t76:=Tryz.underlying274
 a76:=Tryz.isAgg274
 z76:=Tryz.sizeOf274
 v76:=Tryz.zeroValue274
 t77:=Tryz.underlying275
 a77:=Tryz.isAgg275
 z77:=Tryz.sizeOf275
 v77:=Tryz.zeroValue275 }
open Go.V Go.Sort Go.RowKit
set_option maxRecDepth 20000
def Tryz.A0l:∀w,(isAgg (Tryz.n0Y.t 24)).run Tryz.prog w=.ok true w:=Tryz.isAgg121
def Tryz.D0m:∀w,(Go.sizeOf (Tryz.n0Y.t 24)).run Tryz.prog w=.ok 3 w:=Tryz.sizeOf121
def Tryz.z0g:∀args w,(callFunc 174 args).run Tryz.prog w=.ok (.enter 174 args) w:=enters_of Tryz.func174 X' rfl
def Tryz.A05 (x y:J3)(w:World):Calls Tryz.prog 174 #[.agg x.cells.toArray,.agg y.cells.toArray] w fun e w'=>e=.returned (.int .i64 (x.to-y.to))/\∃q h,w'=grow (w.drewN q) h:=by
 have hw:=x.wrap y;obtain⟨a,b,c,h1,p,u⟩:=x;obtain⟨d,e,f,s,t,r⟩:=y;simp only[J3.cells]at *;refine k0H (vs:=[.agg #[.int .i64 a,.int .i64 b,c],.agg #[.int .i64 d,.int .i64 e,f]]) Tryz.func174 rfl rfl ?_;intro aa ha;refine wp_seq_k (fun K g=>?_);refine R6 ?_;refine c0A (v:=.pointer (some ⟨w.heap.size,0,none⟩)) (w':=w.alloc (.cells #[.int .i64 a,.int .i64 b,c] 121)) ha X' X' ?_;intro aa ha;refine c0A (v:=.pointer (some ⟨(w.alloc (.cells #[.int .i64 a,.int .i64 b,c] 121)).heap.size,0,none⟩)) (w':=(w.alloc (.cells #[.int .i64 a,.int .i64 b,c] 121)).alloc (.cells #[.int .i64 d,.int .i64 e,f] 121)) ha X' X' ?_;intro aa ha;generalize i:(w.alloc (.cells #[.int .i64 a,.int .i64 b,c] 121)).alloc (.cells #[.int .i64 d,.int .i64 e,f] 121)=W at *;have m:W.heap[w.heap.size]?=some (.cells #[.int .i64 a,.int .i64 b,c] 121 (0,0)):=by
  subst i;exact((Below.new (w.alloc (.cells #[.int .i64 a,.int .i64 b,c] 121)) _).block _ Z9).trans (heap_alloc_new w _)
 have j:W.heap[(w.alloc (.cells #[.int .i64 a,.int .i64 b,c] 121)).heap.size]?=some (.cells #[.int .i64 d,.int .i64 e,f] 121 (0,0)):=by
  subst i;exact heap_alloc_new (w.alloc (.cells #[.int .i64 a,.int .i64 b,c] 121)) _
 have c1:W.cell? ((⟨w.heap.size,0,none⟩:Addr).add 0)=some (.int .i64 a):=(b0a _ _ _ _).trans (by unfold U2;rw[m];rfl);have c2:W.cell? ((⟨(w.alloc (.cells #[.int .i64 a,.int .i64 b,c] 121)).heap.size,0,none⟩:Addr).add 0)=some (.int .i64 d):=(b0a _ _ _ _).trans (by unfold U2;rw[j];rfl);have hg:W=grow (w.drewN 0) #[.cells #[.int .i64 a,.int .i64 b,c] 121,.cells #[.int .i64 d,.int .i64 e,f] 121]:=by subst i;rw[alloc_eq_grow,alloc_eq_grow,grow_grow];rfl
 generalize (w.alloc (.cells #[.int .i64 a,.int .i64 b,c] 121)).heap.size=p2 at *;generalize w.heap.size=p1 at *;refine g0z ha (k:=1) (ks:=[2,3]) (l':=[(2,.pointer (some ⟨p1,0,none⟩)),(3,.pointer (some ⟨p2,0,none⟩))]) (w':=W) X' ?_;intro aa ha;refine g _ _ ?_;clear g;refine wp_seq_k (fun K g=>?_);refine R6 ?_;refine g0z ha (k:=1) (ks:=[3,5]) (l':=[(3,.pointer (some ⟨p2,0,none⟩)),(5,.pointer (some ((⟨p1,0,none⟩:Addr).add 0)))]) (w':=W) X' ?_;intro aa ha;refine c0A (v:=.int .i64 a) ha X' (s0G W rfl rfl Tryz.underlying3 rfl c1) ?_;intro aa ha;refine g0z ha (k:=1) (ks:=[6,7]) (l':=[(6,.int .i64 a),(7,.pointer (some ((⟨p2,0,none⟩:Addr).add 0)))]) (w':=W) X' ?_;intro aa ha;refine c0A (v:=.int .i64 d) ha X' (s0G W rfl rfl Tryz.underlying3 rfl c2) ?_;intro aa ha;refine g0z ha (k:=2) (ks:=[4]) (l':=[(4,.int .i64 (IntKind.wrap .i64 (a-d)))]) (w':=W) X' ?_;intro aa ha;refine g _ _ ?_;refine wp_ret ?_;refine u0m (r1:=.tmp 4) (v1:=.int .i64 (IntKind.wrap .i64 (a-d))) ha rfl (.inl rfl) rfl ⟨by rw[hw],0,_,hg⟩
end Go.Proofs
namespace Go.V
open Go.RowKit
abbrev B0l (n:Nat):={l:List Bool // l.length=n}
instance (n:Nat):Inhabited (B0l n):=⟨⟨List.replicate n false,length_replicate⟩⟩
variable {P:Program}{ops:Array Oper}{n:Nat}{Q:Exit->Act->World->Prop}{l:FL}{a:Act}{w:World}{o:Oper}{rest:List Oper}
def w8.only {w0 w w1:World}{b:Nat}(h:w8 w0 w)(f:w0.heap.size<=b)(c:w0.heap.size<=w.heap.size)(d:k7 b w w1):w8 w0 w1:=
 fun k hk=>(d.block k (Nat.lt_of_lt_of_le hk c) (fun e=>O')).trans (h k hk)
end Go.V
namespace Go.V
open Go.RowKit
variable {P:Program}{ops:Array Oper}{n:Nat}{Q:Exit->Act->World->Prop}{l:FL}{a:Act}{w:World}{o:Oper}{rest:List Oper}
def y03 {α:Type}{T:Ty α}{H:K0}{S M:D0}{t e:TypeId}{lo:Value}{A:Option Addr}{c:Nat}{xs:List α}{k:IntKind}{vlo:Int}(q:P.underlying t=some (.slice e))(r:(P.info? e).map (·.size)=some T.sz)
  (f:Ow T e M H S (.slice A xs.length c) xs) (hk:I4 xs vlo xs.length=true) (i:lo=.int k vlo:=by rfl):
  ∃j,(∀w,(Instr.sliceAt t (.slice A xs.length c) (some lo) none none).run P w=.ok (.slice j (xs.length-vlo.toNat) (c-vlo.toNat)) w)/\(vlo<xs.length->j=A.map (·.add (vlo.toNat*T.sz))):=by
 subst i;have d:=hk;simp only[I4,Bool.and_eq_true,decide_eq_true_eq]at d;obtain⟨⟨u,h1⟩,s⟩:=d;have m:=f.cap;obtain⟨inf,b,g⟩:=Option.map_eq_some_iff.1 r;refine⟨if c=vlo.toNat then A else A.map (·.add (vlo.toNat*T.sz)),fun w=>?_,fun h=>by rw[if_neg O']⟩;have p:=run_sliceBound (P:=P) (w:=w) k vlo xs.length .sliceB O' O';simp only[Instr.sliceAt,Instr.slice,Instr.sliceBounds,Sem.run_bind,run_underlying q,Result.andThen_ok];simp[p,sizeOf,typeInfo,b,g]
def H9 {α:Type}(xs:List α)(lo hi:Int):List α:=xs.take lo.toNat++G4 (xs.drop lo.toNat) (I1 xs 0 hi)
def g0G {α:Type}(xs:List α)(lo hi:Int):(H9 xs lo hi).length=xs.length:=by
 unfold H9;rw[length_append,b05,length_take,length_drop];omega
def v0R {α:Type}{T:Ty α}{w0:World}{W0 Wf S0 S:D0}{t e:TypeId}{x y:Operand}{A A1:Option Addr}{c:Nat}{xs:List α}{lo hi:Int}(ha:Ag n l a)(cx:Cx w0 W0 S0 w S)(hf:(gate ops l o==some true&&fit n l o)=true)
  (ho:o.op=.call { callee:=.builtin .copy,args:=#[x,y],argTypes:=#[t,t] }) (r:lk l x=.slice A1 (xs.length-lo.toNat) (c-lo.toNat)) (hy:lk l y=.slice A (I1 xs 0 hi).length c) (ht:P.underlying t=some (.slice e)) (hE:(P.info? e).map (·.size)=some 1) (J:T.sz=1)
  (hW:∀k,Wr Wf w0 k->Wr W0 w0 k) (d:Ow T e (Wr Wf w0) w.heap S (.slice A xs.length c) xs) (e4:I4 xs lo xs.length=true) (b2:I4 xs 0 hi=true) (p:lo<xs.length->A1=A.map (·.add (lo.toNat*T.sz)))
  (h:∀w1,Cx w0 W0 S0 w1 S->(∀k,k<w.heap.size->(Value.slice A xs.length c).ownBlock≠some k->w1.heap[k]?=w.heap[k]?)->U0 w.heap S w1.heap S->Ow T e (Wr Wf w0) w1.heap S (.slice A xs.length c) (H9 xs lo hi)->
   ∀a',Ag n (A8 l o.dst (.int .i64 (Nat.min (I1 xs 0 hi).length (xs.length-lo.toNat):Nat))) a'->wpList P ops Q rest a' w1):wpList P ops Q (o :: rest) a w:=by
 have b3:=e4;simp only[I4,Bool.and_eq_true,decide_eq_true_eq]at b3;have a1:=b2;simp only[I4,Bool.and_eq_true,decide_eq_true_eq]at a1;have h5:=c04 b2;have fin:∀(w1:World) (m:Nat),(Builtin.copy_ #[t,t] o.type #[.slice A1 (xs.length-lo.toNat) (c-lo.toNat),.slice A (I1 xs 0 hi).length c]).run P w=.ok (goInt m) w1->m=Nat.min (I1 xs 0 hi).length (xs.length-lo.toNat)->
   Cx w0 W0 S0 w1 S->(∀k,k<w.heap.size->(Value.slice A xs.length c).ownBlock≠some k->w1.heap[k]?=w.heap[k]?)->U0 w.heap S w1.heap S->Ow T e (Wr Wf w0) w1.heap S (.slice A xs.length c) (H9 xs lo hi)->wpList P ops Q (o :: rest) a w:=by
  intro w1 m hr hm h1 U I h4;refine c0A ha hf (v:=.int .i64 (Nat.min (I1 xs 0 hi).length (xs.length-lo.toNat):Nat)) (w':=w1) ?_ fun a' c6=>h w1 h1 U I h4 a' c6;subst hm;simp only[execOp,ho,resolve,invoke,builtin,Sem.run_bind,Sem.run_pure,Result.andThen_ok,List.map_toArray,List.map_cons,List.map_nil,r,hy,hr];rfl
 by_cases h0:Nat.min (I1 xs 0 hi).length (xs.length-lo.toNat)=0
 ·refine fin w 0 (run_copy_none w t t o.type e A1 A (xs.length-lo.toNat) (c-lo.toNat) (I1 xs 0 hi).length c ht hE h0) h0.symm cx (fun _ _ _=>rfl) (U0.refl _ _) ?_;have:H9 xs lo hi=xs:=by
   unfold H9 G4;rcases Nat.eq_zero_or_pos (xs.length-lo.toNat)with R|R
   ·rw[show xs.drop lo.toNat=[]from List.drop_of_length_le O'];simp;exact List.take_of_length_le O'
   ·have c4:(I1 xs 0 hi).length=0:=by
     rcases le_total (I1 xs 0 hi).length (xs.length-lo.toNat)with hle|hle
     ·rwa [show Nat.min (I1 xs 0 hi).length (xs.length-lo.toNat)=(I1 xs 0 hi).length from min_eq_left hle]at h0
     ·rw[show Nat.min (I1 xs 0 hi).length (xs.length-lo.toNat)=xs.length-lo.toNat from Nat.min_eq_right hle]at h0;omega
    rw[List.eq_nil_of_length_eq_zero c4];simp
  rw[this];exact d
 ·have h7:0<xs.length-lo.toNat:=by
   rcases Nat.eq_zero_or_pos (xs.length-lo.toNat)with R|R
   ·exact absurd (by rw[R];exact Nat.min_zero _) h0
   ·exact R
  have c8:=d.rdb;have e9:=d.lt;obtain⟨b5,cs,⟨u,c3⟩,s⟩:=d;rcases c3 with⟨hv,R⟩|⟨g,cap,cur,hv,hg,hnc,hm,hcs,htake⟩
  ·omega
  ·simp at hv;obtain⟨rfl,rfl⟩:=hv;have hA:=p O';rw[J,mul_one]at hA u hcs htake;have e3:A1=some ⟨g,lo.toNat,none⟩:=hA.trans (congrArg some (by unfold Addr.add;by_cases hk:lo.toNat=0<;>simp[hk]));subst e3;generalize b4:I1 xs 0 hi=ys at *;have e1:∀(i:Nat) (x:α),ys[i]?=some x->xs[i]?=some x:=by
    intro i x r;have h6:i<ys.length:=(List.getElem?_eq_some_iff.1 r).1;rw[<-b4]at r;unfold I1 at r;rw[List.getElem?_take_of_lt O']at r;simpa using r
   obtain⟨news,C,q⟩:=V5.news (w:=w) (xs:=ys) (k:=0) (A:=some ⟨g,0,none⟩) (T:=T) (S:=S) (fun i x r=>by
    obtain⟨b,o,cs,h1,U,I⟩:=c8 i x (e1 i x r);exact⟨b,o,cs,h1,U,fun j v hj=>by rw[Nat.zero_add];exact I j v hj⟩)
   have e2:news.length=ys.length:=by rw[C.1,J,mul_one]
   have f:(news.take (xs.length-lo.toNat)).length=Nat.min ys.length (xs.length-lo.toNat):=by rw[length_take,e2];exact Nat.min_comm _ _
   have hle:Nat.min ys.length (xs.length-lo.toNat)<=xs.length-lo.toNat:=Nat.min_le_right _ _;have hr:=run_copy_row (P:=P) w t t o.type e g lo.toNat (xs.length-lo.toNat) (c-lo.toNat) ⟨g,0,none⟩ ys.length c cur e (news.take (xs.length-lo.toNat)) ht hE hg f (fun j v hj=>by
    rw[b0a];have c5:news[j]?=some v:=by
     rcases Nat.lt_or_ge j (xs.length-lo.toNat)with h|h
     ·rwa [List.getElem?_take_of_lt h]at hj
     ·rw[List.getElem?_take_eq_none h]at hj;cases hj
    have:=q g 0 rfl j v c5;simpa using this) (by rw[f,hcs];omega) (fun v hv=>C.f01 v (List.mem_of_mem_take hv))
   have b1:=b5 g (by simp[Value.ownBlock]);have h8:=getElem?_lt hg;generalize hN:news.take (xs.length-lo.toNat)=N at *;have z:k7 g w (w.setRow g (cur.toList.take lo.toNat++N++cur.toList.drop (lo.toNat+N.length)).toArray):=⟨rfl,rfl,rfl,by simp[World.setRow],fun k _ hk=>by simp[World.setRow,Array.getElem?_modify,Ne.symm hk]⟩
   have hk:=z.L1 b1.1;have c0:cur.toList.length=c:=by rw[Array.length_toList,hcs]
   refine fin _ _ hr f (z.cx cx (hW _ b1.2)) (fun k hk e5=>z.block k hk (fun e=>e5 (by rw[e];simp[Value.ownBlock]))) hk ⟨b5,cs.take lo.toNat++(N++(cs.drop lo.toNat).drop ys.length),⟨?_,.inr ⟨g,c,(cur.toList.take lo.toNat++N++cur.toList.drop (lo.toNat+N.length)).toArray,by rw[g0G],setRow_heap w g cur _ e _ hg,by rw[g0G];exact hnc,hm,?_,?_⟩⟩,?_⟩
   ·rw[g0G,J,mul_one,length_append,length_append,f,length_drop,length_drop,length_take,u];rcases le_total ys.length (xs.length-lo.toNat)with h|h
    ·rw[show Nat.min ys.length (xs.length-lo.toNat)=ys.length from min_eq_left h];omega
    ·rw[show Nat.min ys.length (xs.length-lo.toNat)=xs.length-lo.toNat from Nat.min_eq_right h];omega
   ·rw[J,mul_one,List.size_toArray,length_append,length_append,length_drop,length_take,c0];omega
   ·rw[g0G,J,mul_one];show List.take xs.length (cur.toList.take lo.toNat++N++cur.toList.drop (lo.toNat+N.length))=_;have p:(cur.toList.take lo.toNat++N).length=lo.toNat+N.length:=by rw[length_append,length_take,c0];omega
    rw[List.take_append,List.take_of_length_le (by rw[p];omega),p,<-htake,List.take_take,min_eq_left O',List.append_assoc];congr 1;congr 1;rw[List.drop_drop,List.drop_take];rcases le_total ys.length (xs.length-lo.toNat)with h|h
    ·rw[f,show Nat.min ys.length (xs.length-lo.toNat)=ys.length from min_eq_left h]
    ·rw[f,show Nat.min ys.length (xs.length-lo.toNat)=xs.length-lo.toNat from Nat.min_eq_right h,show xs.length-(lo.toNat+(xs.length-lo.toNat))=0 from O',show xs.length-(lo.toNat+ys.length)=0 from O',List.take_zero,List.take_zero]
   ·have h1:=(s.L1 hk).cut lo.toNat;have U:=(C.L1 hk).cut (xs.length-lo.toNat);have I:=((s.L1 hk).tail lo.toNat).tail ys.length;rw[J,mul_one]at h1 U I;rw[mul_one,hN]at *;have h4:=h1.append (U.append I);unfold H9 G4;rw[length_drop,b4];exact h4
end Go.V
set_option maxRecDepth 100000
namespace Go.Proofs.YtdficaoajalfaaaGreat.Wr
open Go.V Go.RowKit
def g0t (fuel:Nat)(p0:Int)(p1:Int):Option (Int×Int):=
 some ((IntKind.wrap .u64 ((IntKind.wrap .u64 ((IntKind.wrap .u64 ((shr .u64 p0 32)*(shr .u64 p1 32)))+(shr .u64 (IntKind.wrap .u64 ((IntKind.wrap .u64 ((shr .u64 p0 32)*(C3 .u64 p1 4294967295)))+(shr .u64 (IntKind.wrap .u64 ((C3 .u64 p0 4294967295)*(C3 .u64 p1 4294967295))) 32))) 32)))+(shr .u64 (IntKind.wrap .u64 ((C3 .u64 (IntKind.wrap .u64 ((IntKind.wrap .u64 ((shr .u64 p0 32)*(C3 .u64 p1 4294967295)))+(shr .u64 (IntKind.wrap .u64 ((C3 .u64 p0 4294967295)*(C3 .u64 p1 4294967295))) 32))) 4294967295)+(IntKind.wrap .u64 ((C3 .u64 p0 4294967295)*(shr .u64 p1 32))))) 32))),(IntKind.wrap .u64 (p0*p1)))
def e07 (fuel:Nat)(p0:Int)(p1:Int):Option (Int×Int):=
 Option.bind (g0t fuel p0 p1) fun x1=>
 some (x1.1,x1.2)
def c0K (fuel:Nat)(x1:Int×Int)(p0:(List Int))(b:List Int×Int):Option (V0 (List Int×Int) (List Int)):=
 let(x3,x4):=b
 if(decide (x4<(x3.length:Int)))then
  if I4 x3 x4 (x3.length:Int)then
   if I4 x3 0 x4 then
    some (.next ((H9 x3 x4 x4),(W (x4+((Nat.min (I1 x3 0 x4).length (x3.length-x4.toNat):Nat):Int)))))
   else none
  else none
 else
  some (.done x3)
def i0X (fuel:Nat)(p0:(List Int))(p1:Int):Option ((List Int)):=
 if(decide (p1<0))then
 none
else
 Option.bind (e07 fuel (IntKind.wrap .u64 ((p0.length:Int))) (IntKind.wrap .u64 (p1))) fun x1=>
  Option.bind ((
   if(decide (x1.1>0))then
    some true
   else
    some (decide (x1.2>9223372036854775807))):Option (Bool)) fun x2=>
   if x2 then
    none
   else
    if V2 8 (W (x1.2))then
     Option.bind (iter (c0K fuel x1 p0) fuel ((G4 (List.replicate (Int.toNat (W (x1.2))) (0:Int)) p0),((Nat.min p0.length (List.replicate (Int.toNat (W (x1.2))) (0:Int)).length:Nat):Int))) fun y1=>
      some y1
    else none
def A0n (w:World)(S:D0)(r:(Int×Int))(v:Value)(w1:World):Prop:=∃v0:Value,∃v1:Value,v=.tuple #[v0,v1]/\(v0=.int .u64 r.1)/\(v1=.int .u64 r.2)
abbrev t03 (w:World)(S:D0)(r:(Int×Int)):Ending->World->Prop:=fun e w1=>∃v,e=.returned v/\Below w.heap.size w w1/\A0n w S r v w1
def A0S (fuel:Nat){w:World}{S:D0}(d:∀b,S b->b<w.heap.size){p0 p1}  {r}(h:g0t fuel p0 p1=some r):
 Calls Tryz.prog 216 #[.int .u64 p0,.int .u64 p1] w (t03 w S r):=by
 refine k0H (vs:=[.int .u64 p0,.int .u64 p1]) Tryz.func216 rfl rfl ?_;intro a ha;have cx:=Cx.start (W0:=Q5) d;refine wn fun e=>?_;unfold g0t at h;refine sq fun K c=>R6 (sg ha 2 [(0,.int .u64 p0),(1,.int .u64 p1)] w fun a ha=>?_);refine c ?_;clear c;refine sq fun K c=>R6 (sk ha 3 [(6,.int .u64 (C3 .u64 p0 4294967295))] fun a ha=>?_);refine c ?_;clear c;refine sq fun K c=>R6 (sk ha 3 [(7,.int .u64 (shr .u64 p0 32))] fun a ha=>?_);refine c ?_;clear c;refine sq fun K c=>R6 (sk ha 3 [(8,.int .u64 (C3 .u64 p1 4294967295))] fun a ha=>?_);refine c ?_;clear c;refine sq fun K c=>R6 (sk ha 3 [(9,.int .u64 (shr .u64 p1 32))] fun a ha=>?_);refine c ?_;clear c;refine sq fun K c=>R6 (sk ha 4 [(10,.int .u64 (IntKind.wrap .u64 ((C3 .u64 p0 4294967295)*(C3 .u64 p1 4294967295))))] fun a ha=>?_);refine c ?_;clear c;refine sq fun K c=>R6 (sk ha 7 [(11,.int .u64 (IntKind.wrap .u64 ((IntKind.wrap .u64 ((shr .u64 p0 32)*(C3 .u64 p1 4294967295)))+(shr .u64 (IntKind.wrap .u64 ((C3 .u64 p0 4294967295)*(C3 .u64 p1 4294967295))) 32))))] fun a ha=>?_);refine c ?_;clear c;refine sq fun K c=>R6 (sk ha 3 [(12,.int .u64 (C3 .u64 (IntKind.wrap .u64 ((IntKind.wrap .u64 ((shr .u64 p0 32)*(C3 .u64 p1 4294967295)))+(shr .u64 (IntKind.wrap .u64 ((C3 .u64 p0 4294967295)*(C3 .u64 p1 4294967295))) 32))) 4294967295))] fun a ha=>?_);refine c ?_;clear c;refine sq fun K c=>R6 (sk ha 3 [(13,.int .u64 (shr .u64 (IntKind.wrap .u64 ((IntKind.wrap .u64 ((shr .u64 p0 32)*(C3 .u64 p1 4294967295)))+(shr .u64 (IntKind.wrap .u64 ((C3 .u64 p0 4294967295)*(C3 .u64 p1 4294967295))) 32))) 32))] fun a ha=>?_);refine c ?_;clear c;refine sq fun K c=>R6 (sk ha 6 [(12,.int .u64 (IntKind.wrap .u64 ((C3 .u64 (IntKind.wrap .u64 ((IntKind.wrap .u64 ((shr .u64 p0 32)*(C3 .u64 p1 4294967295)))+(shr .u64 (IntKind.wrap .u64 ((C3 .u64 p0 4294967295)*(C3 .u64 p1 4294967295))) 32))) 4294967295)+(IntKind.wrap .u64 ((C3 .u64 p0 4294967295)*(shr .u64 p1 32))))))] fun a ha=>?_);refine c ?_;clear c;refine sq fun K c=>R6 (sk ha 9 [(4,.int .u64 (IntKind.wrap .u64 ((IntKind.wrap .u64 ((IntKind.wrap .u64 ((shr .u64 p0 32)*(shr .u64 p1 32)))+(shr .u64 (IntKind.wrap .u64 ((IntKind.wrap .u64 ((shr .u64 p0 32)*(C3 .u64 p1 4294967295)))+(shr .u64 (IntKind.wrap .u64 ((C3 .u64 p0 4294967295)*(C3 .u64 p1 4294967295))) 32))) 32)))+(shr .u64 (IntKind.wrap .u64 ((C3 .u64 (IntKind.wrap .u64 ((IntKind.wrap .u64 ((shr .u64 p0 32)*(C3 .u64 p1 4294967295)))+(shr .u64 (IntKind.wrap .u64 ((C3 .u64 p0 4294967295)*(C3 .u64 p1 4294967295))) 32))) 4294967295)+(IntKind.wrap .u64 ((C3 .u64 p0 4294967295)*(shr .u64 p1 32))))) 32))))] fun a ha=>?_);refine c ?_;clear c;refine sq fun K c=>R6 (sk ha 4 [(5,.int .u64 (IntKind.wrap .u64 (p0*p1)))] fun a ha=>?_);refine c ?_;clear c;refine wp_ret ?_;obtain rfl:=sj h;show bodyPost Tryz.prog Tryz.f216 (t03 w S _) .ret a w;exact r0h (r1:=.tmp 4) (v1:=.int .u64 (IntKind.wrap .u64 ((IntKind.wrap .u64 ((IntKind.wrap .u64 ((shr .u64 p0 32)*(shr .u64 p1 32)))+(shr .u64 (IntKind.wrap .u64 ((IntKind.wrap .u64 ((shr .u64 p0 32)*(C3 .u64 p1 4294967295)))+(shr .u64 (IntKind.wrap .u64 ((C3 .u64 p0 4294967295)*(C3 .u64 p1 4294967295))) 32))) 32)))+(shr .u64 (IntKind.wrap .u64 ((C3 .u64 (IntKind.wrap .u64 ((IntKind.wrap .u64 ((shr .u64 p0 32)*(C3 .u64 p1 4294967295)))+(shr .u64 (IntKind.wrap .u64 ((C3 .u64 p0 4294967295)*(C3 .u64 p1 4294967295))) 32))) 4294967295)+(IntKind.wrap .u64 ((C3 .u64 p0 4294967295)*(shr .u64 p1 32))))) 32)))) (r2:=.tmp 5) (v2:=.int .u64 (IntKind.wrap .u64 (p0*p1))) ha rfl (.inl rfl) rfl rfl ⟨_,rfl,cx.below,⟨_,_,rfl,rfl,rfl⟩⟩
def C0f (w:World)(S:D0)(r:(Int×Int))(v:Value)(w1:World):Prop:=∃v0:Value,∃v1:Value,v=.tuple #[v0,v1]/\(v0=.int .u64 r.1)/\(v1=.int .u64 r.2)
abbrev p0v (w:World)(S:D0)(r:(Int×Int)):Ending->World->Prop:=fun e w1=>∃v,e=.returned v/\Below w.heap.size w w1/\C0f w S r v w1
def y06 (fuel:Nat){w:World}{S:D0}(g:∀b,S b->b<w.heap.size){p0 p1}  {r}(h:e07 fuel p0 p1=some r):
 Calls Tryz.prog 202 #[.int .u64 p0,.int .u64 p1] w (p0v w S r):=by
 refine k0H (vs:=[.int .u64 p0,.int .u64 p1]) Tryz.func202 rfl rfl ?_;intro a ha;have cx:=Cx.start (W0:=Q5) g;refine wn fun i=>?_;unfold e07 at h;refine sq fun K c=>R6 (sg ha 2 [(0,.int .u64 p0),(1,.int .u64 p1)] w fun a ha=>?_);refine c ?_;clear c;refine sq fun K c=>?_;refine w0o ha rfl ?_;refine wp_skip (c ?_);clear c;refine sq fun K c=>R6 (sk ha 2 [(23,.int .u64 p0),(24,.int .u64 p1)] fun a ha=>?_);obtain⟨x1,d,h⟩:=b0Z h;refine t01 ha X' (f:=216) (args:=#[.int .u64 p0,.int .u64 p1]) (w':=w) X' (A0S fuel (p0:=p0) (p1:=p1) cx.lt d) ?_;rintro v1 w1 ⟨e,hp1⟩ a ha;obtain⟨_,_,rfl,rfl,rfl⟩:=hp1;replace cx:=cx.ext e;refine sk ha 5 [(8,.int .u64 x1.1),(9,.int .u64 x1.2)] fun a ha=>?_;refine c ?_;clear c;refine sq fun K c=>R6 (sk ha 4 [(4,.int .u64 x1.1),(5,.int .u64 x1.2)] fun a ha=>?_);refine c ?_;clear c;refine wp_ret ?_;obtain rfl:=sj h;show bodyPost Tryz.prog Tryz.f202 (p0v w S _) .ret a w1;exact r0h (r1:=.tmp 4) (v1:=.int .u64 x1.1) (r2:=.tmp 5) (v2:=.int .u64 x1.2) ha rfl (.inl rfl) rfl rfl ⟨_,rfl,cx.below,⟨_,_,rfl,rfl,rfl⟩⟩
def B0o (w:World)(S:D0)(r:((List Int)))(v:Value)(w1:World):Prop:=∃(A:Option Addr) (c:Nat),v=.slice A r.length c/\Ow (C2 .i64) 3 (Wr Q5 w) w1.heap (inV v S) v r
abbrev r0l (w:World)(S:D0)(r:((List Int))):Ending->World->Prop:=fun e w1=>∃v,e=.returned v/\Below w.heap.size w w1/\B0o w S r v w1
def v04 (fuel:Nat){w:World}{S:D0}(hS:∀b,S b->b<w.heap.size){p0 p1 A_p0 c_p0}(j:Sl (C2 .i64) w.heap S A_p0 c_p0 p0){r}(h:i0X fuel p0 p1=some r):
 Calls Tryz.prog 194 #[vS A_p0 p0 c_p0,vI p1] w (r0l w S r):=by
 refine k0H (vs:=[vS A_p0 p0 c_p0,vI p1]) Tryz.func194 rfl rfl ?_;intro a ha;have cx:=Cx.start (W0:=Q5) hS;refine wn fun p=>?_;unfold i0X at h;refine sq fun K d=>R6 (sg ha 1 [(0,vS A_p0 p0 c_p0),(1,vI p1)] w fun a ha=>?_);refine d ?_;clear d;refine sq fun K d=>sq fun K d=>R6 (sk ha 2 [(10,vB (decide (p1<0)))] fun a ha=>?_);refine d ?_;clear d;refine n0K ha rfl (fun k=>?_) (fun k=>?_)
 ·replace h:=itT k h;cases h
 ·replace h:=itF k h;refine wp_skip (d ?_);clear d;refine sq fun K d=>R6 (sk ha 5 [(15,.int .u64 (IntKind.wrap .u64 ((p0.length:Int)))),(17,.int .u64 (IntKind.wrap .u64 (p1)))] fun a ha=>?_);obtain⟨x1,e3,h⟩:=b0Z h;refine t01 ha X' (f:=202) (args:=#[.int .u64 (IntKind.wrap .u64 ((p0.length:Int))),.int .u64 (IntKind.wrap .u64 (p1))]) (w':=w) X' (y06 fuel (p0:=(IntKind.wrap .u64 ((p0.length:Int)))) (p1:=(IntKind.wrap .u64 (p1))) cx.lt e3) ?_;rintro v1 w1 ⟨U,hp1⟩ a ha;obtain⟨_,_,rfl,rfl,rfl⟩:=hp1;replace j:=j.L1 (U0.ext S U);replace cx:=cx.ext U;refine sk ha 5 [(5,.int .u64 x1.1),(6,.int .u64 x1.2)] fun a ha=>?_;refine d ?_;clear d;refine sq fun K d=>sq fun K d=>?_;obtain⟨q1,c5,h⟩:=b0Z h;refine C0p (D:=fun a w_=>∃x2:Bool,x2=q1/\w1=w_/\Ag 48 [(0,vS A_p0 p0 c_p0),(6,.int .u64 x1.2),(26,vB x2)] a) ?_ ?_
  ·clear h;have h:=c5;refine R6 (sk ha 3 [(23,vB (decide (x1.1>0)))] fun a ha=>?_);refine z05 (t:=23) ha rfl (fun k ha=>?_) (fun k ha=>?_)
   ·replace h:=itT k h;refine sk ha 3 [(26,vB true)] fun a ha=>?_;obtain rfl:=sj h;exact⟨_,rfl,rfl,ha.to X'⟩
   ·replace h:=itF k h;refine sk ha 3 [(26,vB (decide (x1.2>9223372036854775807)))] fun a ha=>?_;obtain rfl:=sj h;exact⟨_,rfl,rfl,ha.to X'⟩
  rintro a _ ⟨x2,rfl,rfl,ha⟩;refine d ?_;clear d;refine n0K ha rfl (fun k=>?_) (fun k=>?_)
  ·replace h:=itT k h;cases h
  ·replace h:=itF k h;refine wp_skip (d ?_);clear d;refine sq fun K d=>R6 (sg ha 2 [(0,vS A_p0 p0 c_p0),(29,vI (W (x1.2)))] w1 fun a ha=>?_);obtain⟨c6,h⟩:=l09 h;refine D0D (T:=(C2 .i64)) (z:=vI 0) (zx:=(0:Int)) (bytes:=8) ha cx X' rfl rfl rfl Tryz.underlying47 X' X' (fun _ _=>rfl) c6 ?_;intro v S1 y c1 cx h2 e2 h3 e9 f1 a ha;replace j:=j.L1 e2;refine sk ha 1 [(7,vS y (List.replicate (Int.toNat (W (x1.2))) (0:Int)) c1)] fun a ha=>?_;refine d ?_;clear d;refine sq fun K d=>R6 (sk ha 2 [(31,vS y (List.replicate (Int.toNat (W (x1.2))) (0:Int)) c1),(32,vS A_p0 p0 c_p0)] fun a ha=>?_);refine x04 (T:=(C2 .i64)) (xs:=(List.replicate (Int.toNat (W (x1.2))) (0:Int))) (ys:=p0) ha cx X' rfl rfl rfl Tryz.underlying47 X' rfl q0b f1 j.rdb ?_;intro w3 cx e5 e4 f2 a ha;have R:((G4 (List.replicate (Int.toNat (W (x1.2))) (0:Int)) p0)).length=(List.replicate (Int.toNat (W (x1.2))) (0:Int)).length:=b05 _ _;replace ha:Ag 48 [(7,.slice y (G4 (List.replicate (Int.toNat (W (x1.2))) (0:Int)) p0).length c1),(33,.int .i64 ((Nat.min p0.length (List.replicate (Int.toNat (W (x1.2))) (0:Int)).length:Nat):Int))] a:=by rw[R];exact ha.to X'
   replace f2:Ow (C2 .i64) 3 (Wr Q5 w) w3.heap S1 (.slice y (G4 (List.replicate (Int.toNat (W (x1.2))) (0:Int)) p0).length c1) (G4 (List.replicate (Int.toNat (W (x1.2))) (0:Int)) p0):=by rw[R];exact f2
   refine sg ha 1 [(7,vS y (G4 (List.replicate (Int.toNat (W (x1.2))) (0:Int)) p0) c1),(8,vI ((Nat.min p0.length (List.replicate (Int.toNat (W (x1.2))) (0:Int)).length:Nat):Int))] w3 fun a ha=>?_;refine d ?_;clear d;refine sq fun K d=>wp_block ?_;obtain⟨t1,b2,h⟩:=b0Z h;refine wp_mono (s0e (step:=(c0K fuel x1 p0)) (I:=fun(s:List Int×Int) a w4=>match s with|(x3,x4)=>∃(u:D0),∃(m:Option Addr) (c2:Nat),Cx w Q5 S w4 u/\Ow (C2 .i64) 3 (Wr Q5 w) w4.heap u (vS m x3 c2) x3/\Ag 48 [(7,vS m x3 c2),(8,vI x4)] a) (D:=fun(t:List Int) e a w5=>match t with|x=>e=.exit 0/\∃(S3:D0),∃(A3:Option Addr) (c3:Nat),Cx w Q5 S w5 S3/\Ow (C2 .i64) 3 (Wr Q5 w) w5.heap S3 (vS A3 x c3) x/\Ag 48 [(7,vS A3 x c3)] a) ?_ fuel _ t1 a _ b2 ?_) ?_
   ·clear h b2;rintro⟨x3,x4⟩ ct a w4 ⟨u,m,c2,cx,f3,ha⟩ h;refine r0Y (NoP.loop (fun t c a w h=>by cases t<;>exact absurd h.1 Z9)) (fun p=>?_);unfold c0K at h;refine sq fun K d=>sq fun K d=>R6 (sg ha 4 [(7,vS m x3 c2),(8,vI x4),(37,vB (decide (x4<(x3.length:Int))))] w4 fun a ha=>?_);refine d ?_;clear d;refine n0K ha rfl (fun k=>?_) (fun k=>?_)
    ·replace h:=itT k h;refine wp_skip (d ?_);clear d;refine wp_block ?_;refine w0R 7 u rfl ?_;intro w6 e1 C;replace f3:=f3.ext C;replace cx:=cx.ext C;have q:=U0.refl w6.heap u;have hold:=w8.start w6;have g1:=f3;refine dk 0 (vI x4) ha p rfl (Sd.start _ _ _ _) fun g a ha=>?_;refine dk 1 (vS m x3 c2) ha p rfl g fun g a ha=>?_;refine dk 2 (vI x4) ha p rfl g fun g a ha=>?_;obtain⟨J,h⟩:=l09 h;obtain⟨A4,c4,b4⟩:=y03 (P:=Tryz.prog) (t:=47) (lo:=vI x4) Tryz.underlying47 X' f3 J;refine dv 3 (.slice A4 (x3.length-x4.toNat) (c2-x4.toNat)) ha p rfl (fun v c0 b3=>p0n v rfl (c4 v)) g fun g a ha=>?_;refine dk 4 (vS m x3 c2) ha p rfl g fun g a ha=>?_;refine dk 5 (vI x4) ha p rfl g fun g a ha=>?_;obtain⟨b1,h⟩:=l09 h;obtain⟨c8,_⟩:=A0p (P:=Tryz.prog) (t:=47) (hi:=vI x4) Tryz.underlying47 X' f3 b1;refine dv 6 (.slice m ((I1 x3 0 x4).length) c2) ha p rfl (fun v c0 b3=>p0n v rfl (c8 v)) g fun g a ha=>?_;refine u0g (i:=7) X' rfl ?_;refine v0R (T:=(C2 .i64)) (xs:=x3) (lo:=x4) (hi:=x4) ha cx X' rfl rfl rfl Tryz.underlying47 X' rfl q0b f3 J b1 b4 ?_;intro w7 cx h0 b5 f7 a ha;have a1:((H9 x3 x4 x4)).length=x3.length:=g0G _ _ _;replace ha:Ag 48 [(7,.slice m (H9 x3 x4 x4).length c2),(38,.int .i64 x4),(45,.int .i64 ((Nat.min (I1 x3 0 x4).length (x3.length-x4.toNat):Nat):Int))] a:=by rw[a1];exact ha.to X'
     replace f7:Ow (C2 .i64) 3 (Wr Q5 w) w7.heap u (.slice m (H9 x3 x4 x4).length c2) (H9 x3 x4 x4):=by rw[a1];exact f7
     replace q:=q.trans b5;refine s0M (Sd.behind q X') ?_;refine dk 8 (vI (W (x4+((Nat.min (I1 x3 0 x4).length (x3.length-x4.toNat):Nat):Int)))) ha p rfl (Sd.behind q X') fun g a ha=>?_;refine dk 9 (vI (W (x4+((Nat.min (I1 x3 0 x4).length (x3.length-x4.toNat):Nat):Int)))) ha p rfl g fun g a ha=>?_;refine s0C X' ?_;replace ha:=ha.to (l':=[(7,vS m (H9 x3 x4 x4) c2),(8,vI (W (x4+((Nat.min (I1 x3 0 x4).length (x3.length-x4.toNat):Nat):Int))))]) X';obtain rfl:=sj h;exact⟨_,rfl,u,m,c2,cx,f7,ha.to X'⟩
    ·replace h:=itF k h;refine wp_exit ?_;obtain rfl:=sj h;exact⟨_,rfl,rfl,u,m,c2,cx,f3,ha.to X'⟩
   ·exact⟨S1,y,c1,cx,f2,ha.to X'⟩
   intro e a w5 hd;generalize t1=x at *;obtain⟨rfl,S3,A3,c3,cx,f4,ha⟩:=hd;refine d ?_;clear d;refine sq fun K d=>R6 (sg ha 2 [(4,vS A3 x c3)] w5 fun a ha=>?_);refine d ?_;clear d;refine wp_ret ?_;obtain rfl:=sj h;show bodyPost Tryz.prog Tryz.f194 (r0l w S _) .ret a w5;exact u0m (r1:=.tmp 4) (v1:=vS A3 x c3) ha rfl (.inl rfl) rfl ⟨_,rfl,cx.below,⟨_,_,rfl,f4.result cx.sub⟩⟩
def v0s:∀k,k<1001->e07 0 (IntKind.wrap .u64 1) (IntKind.wrap .u64 ((k:Nat):Int))=some (0,(k:Int)):=by decide+kernel
def w0x {fuel k:Nat}{v:Int}(hk:k<=1000)(s:1000<fuel):i0X fuel [v] (k:Int)=some (List.replicate k v):=by
 have hm:e07 fuel (IntKind.wrap .u64 (([v].length:Nat):Int)) (IntKind.wrap .u64 (k:Int))=some (0,(k:Int)):=v0s k O';have loop:∀(m n fu:Nat),1<=n->n<=k->k-n<=m->m<fu->iter (c0K fuel (0,(k:Int)) [v]) fu (List.replicate n v++List.replicate (k-n) 0,(n:Int))=some (List.replicate k v):=by
  intro m
  induction m with
  |zero=>
   intro n fu h1 i p j;obtain⟨fu,rfl⟩:∃q,fu=q+1:=⟨fu-1,O'⟩
   have:n=k:=O'
   subst this;unfold iter c0K;simp
  |succ m ih=>
   intro n fu h1 i p j;obtain⟨fu,rfl⟩:∃q,fu=q+1:=⟨fu-1,O'⟩
   by_cases c:n=k
   ·subst c;unfold iter c0K;simp
   ·have hlen:(List.replicate n v++List.replicate (k-n) (0:Int)).length=k:=by simp;omega
    have b:I1 (List.replicate n v++List.replicate (k-n) (0:Int)) 0 (n:Int)=List.replicate n v:=by
     unfold I1;simp
    have e:H9 (List.replicate n v++List.replicate (k-n) (0:Int)) (n:Int) (n:Int)=List.replicate (n+min n (k-n)) v++List.replicate (k-(n+min n (k-n))) 0:=by
     unfold H9 G4;rw[b];simp only[Int.toNat_natCast];rw[List.take_left' Z9,List.drop_left' Z9];simp only[length_replicate,List.take_replicate,List.drop_replicate];rw[Nat.min_comm (k-n) n,show k-(n+min n (k-n))=k-n-n from O',<-List.append_assoc,List.replicate_append_replicate]
    have g:c0K fuel (0,(k:Int)) [v] (List.replicate n v++List.replicate (k-n) 0,(n:Int))=some (.next (List.replicate (n+min n (k-n)) v++List.replicate (k-(n+min n (k-n))) 0,((n+min n (k-n):Nat):Int))):=by
     unfold c0K;have s1:I4 (List.replicate n v++List.replicate (k-n) (0:Int)) (n:Int) (k:Int)=true:=by
      unfold I4;rw[hlen];simp;omega
     have s2:I4 (List.replicate n v++List.replicate (k-n) (0:Int)) 0 (n:Int)=true:=by
      unfold I4;rw[hlen];simp;omega
     have hd:(n:Int)<(k:Int):=O'
     have h:Nat.min n (k-n)<=n:=Nat.min_le_left _ _;simp only[hlen,hd,decide_true,if_true,s1,s2,e,b,length_replicate,Int.toNat_natCast];rw[n3 O' O'];rfl
    unfold iter;rw[g];exact ih (n+min n (k-n)) fu O' O' O' O'
 unfold i0X;have f:¬(k:Int)<0:=O'
 simp only[q0,f,hm,show ¬((0:Int)>0) from O',show ¬((k:Int)>9223372036854775807) from O',n3 (n:=(k:Int)) O' O',Int.toNat_natCast];rw[if_pos (show V2 8 (k:Int)=true by unfold V2;simp;omega)];rcases Nat.eq_zero_or_pos k with h0|h0
 ·subst h0;obtain⟨fu,rfl⟩:∃q,fuel=q+1:=⟨fuel-1,O'⟩
  simp[G4,iter,c0K]
 ·have:=loop k 1 fuel O' O' O' O';have r:G4 (List.replicate k (0:Int)) [v]=List.replicate 1 v++List.replicate (k-1) 0:=by
   unfold G4;simp only[length_replicate,List.length_singleton,List.drop_replicate];rw[List.take_of_length_le Z'];rfl
  have d:((Nat.min [v].length (List.replicate k (0:Int)).length:Nat):Int)=((1:Nat):Int):=by
   simp only[length_replicate,List.length_singleton];congr 1;exact min_eq_left h0
  rw[r,d,this];rfl
