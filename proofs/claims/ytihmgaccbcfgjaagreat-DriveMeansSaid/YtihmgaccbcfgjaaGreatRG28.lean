/- P. Its conditions: none. -/
import Derived.Shelf.SlSortCmp.NoneTotal
import Derived.Ground.SlsfProg
import Derived.Test.YtihmgaccbcfgjaaGreatProg
import Derived.Test.YtihmgaccbcfgjaaGreatRG25
import Derived.Test.YtihmgaccbcfgjaaGreatRG01
import Derived.Test.YtihmgaccbcfgjaaGreatRVShort
import Derived.Test.YtihmgaccbcfgjaaGreatRG23
open List (length_replicate length_append length_take length_drop)
open Nat (le_total min_eq_left mul_one)
set_option linter.all false
namespace Go.Proofs
open Go.Shelf
def Tryz.o08:Go.Shelf.Ren:=⟨fun|6=>217|15=>226|14=>225|28=>236|29=>237|20=>228|21=>229|22=>230|23=>231|24=>232|25=>233|26=>234|27=>235|46=>239|47=>240|48=>241|49=>242|50=>243|57=>244|n=>n,fun|22=>123|24=>116|25=>270|3=>3|39=>266|0=>0|53=>273|55=>128|4=>4|46=>285|45=>284|50=>201|5=>5|9=>9|66=>292|70=>231|76=>297|77=>298|n=>n,fun|n=>n⟩
def Tryz.H02:Go.Proofs.SlLaysF0.n6 Tryz.prog Tryz.o08:={
 mixed:=X'
 f6:=⟨Tryz.f217.name,by decide,Tryz.func217.trans (congrArg some X')⟩
 f14:=⟨Tryz.f225.name,by decide,Tryz.func225.trans (congrArg some X')⟩
 f15:=Tryz.func226.trans (congrArg some X')
 f20:=⟨Tryz.f228.name,by decide,Tryz.func228.trans (congrArg some X')⟩
 f21:=⟨Tryz.f229.name,by decide,Tryz.func229.trans (congrArg some X')⟩
 f22:=⟨Tryz.f230.name,by decide,Tryz.func230.trans (congrArg some X')⟩
 f23:=⟨Tryz.f231.name,by decide,Tryz.func231.trans (congrArg some X')⟩
 f24:=⟨Tryz.f232.name,by decide,Tryz.func232.trans (congrArg some X')⟩
 f25:=⟨Tryz.f233.name,by decide,Tryz.func233.trans (congrArg some X')⟩
 f26:=⟨Tryz.f234.name,by decide,Tryz.func234.trans (congrArg some X')⟩
 f27:=⟨Tryz.f235.name,by decide,Tryz.func235.trans (congrArg some X')⟩
 f28:=Tryz.func236.trans (congrArg some X')
 f29:=Tryz.func237.trans (congrArg some X')
 f46:=⟨Tryz.f239.name,by decide,Tryz.func239.trans (congrArg some X')⟩
 f47:=Tryz.func240.trans (congrArg some X')
 f48:=Tryz.func241.trans (congrArg some X')
 f49:=⟨Tryz.f242.name,by decide,Tryz.func242.trans (congrArg some X')⟩
 f50:=⟨Tryz.f243.name,by decide,Tryz.func243.trans (congrArg some X')⟩
 f57:=⟨Tryz.f244.name,by decide,Tryz.func244.trans (congrArg some X')⟩
 t0:=Tryz.underlying0
 a0:=Tryz.isAgg0
 z0:=Tryz.sizeOf0
 v0:=Tryz.zeroValue0
 t3:=Tryz.underlying3
 a3:=Tryz.isAgg3
 z3:=Tryz.sizeOf3
 v3:=Tryz.zeroValue3
 t4:=Tryz.underlying4
 a4:=Tryz.isAgg4
 z4:=Tryz.sizeOf4
 v4:=Tryz.zeroValue4
 t5:=Tryz.underlying5
 a5:=Tryz.isAgg5
 z5:=Tryz.sizeOf5
 v5:=Tryz.zeroValue5
 t9:=Tryz.underlying9
 a9:=Tryz.isAgg9
 z9:=Tryz.sizeOf9
 v9:=Tryz.zeroValue9
 t22:=Tryz.underlying123
 a22:=Tryz.isAgg123
 z22:=Tryz.sizeOf123
 v22:=Tryz.zeroValue123
 t25:=Tryz.underlying270
 a25:=Tryz.isAgg270
 z25:=Tryz.sizeOf270
 v25:=Tryz.zeroValue270
 t39:=Tryz.underlying266
 a39:=Tryz.isAgg266
 z39:=Tryz.sizeOf266
 v39:=Tryz.zeroValue266
 t45:=Tryz.underlying284
 a45:=Tryz.isAgg284
 z45:=Tryz.sizeOf284
 v45:=Tryz.zeroValue284
 t46:=Tryz.underlying285
 a46:=Tryz.isAgg285
 z46:=Tryz.sizeOf285
 v46:=Tryz.zeroValue285
 t50:=Tryz.underlying201
 a50:=Tryz.isAgg201
 z50:=Tryz.sizeOf201
 v50:=Tryz.zeroValue201
 t53:=Tryz.underlying273
 a53:=Tryz.isAgg273
 z53:=Tryz.sizeOf273
 v53:=Tryz.zeroValue273
 t55:=Tryz.underlying128
 a55:=Tryz.isAgg128
 z55:=Tryz.sizeOf128
 v55:=Tryz.zeroValue128
 t66:=Tryz.underlying292
 a66:=Tryz.isAgg292
 z66:=Tryz.sizeOf292
 v66:=Tryz.zeroValue292
 t70:=Tryz.underlying231
 a70:=Tryz.isAgg231
 z70:=Tryz.sizeOf231
 v70:=Tryz.zeroValue231
 t76:=Tryz.underlying297
 a76:=Tryz.isAgg297
 z76:=Tryz.sizeOf297
 v76:=Tryz.zeroValue297
 t77:=Tryz.underlying298
 a77:=Tryz.isAgg298
 z77:=Tryz.sizeOf298
 v77:=Tryz.zeroValue298 }
open Go.V Go.Sort Go.RowKit
set_option maxRecDepth 20000
def Tryz.G0I:∀w,(isAgg (Tryz.o08.t 24)).run Tryz.prog w=.ok true w:=Tryz.isAgg116
def Tryz.I0N:∀w,(Go.sizeOf (Tryz.o08.t 24)).run Tryz.prog w=.ok 3 w:=Tryz.sizeOf116
def Tryz.G0P:∀args w,(callFunc 218 args).run Tryz.prog w=.ok (.enter 218 args) w:=enters_of Tryz.func218 X' rfl
def Tryz.x0J (x y:Y2)(w:World):Calls Tryz.prog 218 #[.agg x.cells.toArray,.agg y.cells.toArray] w fun e w'=>e=.returned (.int .i64 (x.to-y.to))/\∃q i,w'=grow (w.drewN q) i:=by
 have hw:=x.wrap y;obtain⟨a,b,c,h1,u,r⟩:=x;obtain⟨d,e,f,p,t,s⟩:=y;simp only[Y2.cells]at *;refine h0q (vs:=[.agg #[.int .i64 a,.int .i64 b,c],.agg #[.int .i64 d,.int .i64 e,f]]) Tryz.func218 rfl rfl ?_;intro aa ha;refine wp_seq_k (fun K g=>?_);refine Y3 ?_;refine b0U (v:=.pointer (some ⟨w.heap.size,0,none⟩)) (w':=w.alloc (.cells #[.int .i64 a,.int .i64 b,c] 116)) ha X' X' ?_;intro aa ha;refine b0U (v:=.pointer (some ⟨(w.alloc (.cells #[.int .i64 a,.int .i64 b,c] 116)).heap.size,0,none⟩)) (w':=(w.alloc (.cells #[.int .i64 a,.int .i64 b,c] 116)).alloc (.cells #[.int .i64 d,.int .i64 e,f] 116)) ha X' X' ?_;intro aa ha;generalize h:(w.alloc (.cells #[.int .i64 a,.int .i64 b,c] 116)).alloc (.cells #[.int .i64 d,.int .i64 e,f] 116)=W at *;have m:W.heap[w.heap.size]?=some (.cells #[.int .i64 a,.int .i64 b,c] 116 (0,0)):=by
  subst h;exact((Below.new (w.alloc (.cells #[.int .i64 a,.int .i64 b,c] 116)) _).block _ Z').trans (heap_alloc_new w _)
 have j:W.heap[(w.alloc (.cells #[.int .i64 a,.int .i64 b,c] 116)).heap.size]?=some (.cells #[.int .i64 d,.int .i64 e,f] 116 (0,0)):=by
  subst h;exact heap_alloc_new (w.alloc (.cells #[.int .i64 a,.int .i64 b,c] 116)) _
 have c1:W.cell? ((⟨w.heap.size,0,none⟩:Addr).add 0)=some (.int .i64 a):=(k7 _ _ _ _).trans (by unfold O1;rw[m];rfl);have c2:W.cell? ((⟨(w.alloc (.cells #[.int .i64 a,.int .i64 b,c] 116)).heap.size,0,none⟩:Addr).add 0)=some (.int .i64 d):=(k7 _ _ _ _).trans (by unfold O1;rw[j];rfl);have hg:W=grow (w.drewN 0) #[.cells #[.int .i64 a,.int .i64 b,c] 116,.cells #[.int .i64 d,.int .i64 e,f] 116]:=by subst h;rw[alloc_eq_grow,alloc_eq_grow,grow_grow];rfl
 generalize (w.alloc (.cells #[.int .i64 a,.int .i64 b,c] 116)).heap.size=p2 at *;generalize w.heap.size=p1 at *;refine i0l ha (k:=1) (ks:=[2,3]) (l':=[(2,.pointer (some ⟨p1,0,none⟩)),(3,.pointer (some ⟨p2,0,none⟩))]) (w':=W) X' ?_;intro aa ha;refine g _ _ ?_;clear g;refine wp_seq_k (fun K g=>?_);refine Y3 ?_;refine i0l ha (k:=1) (ks:=[3,5]) (l':=[(3,.pointer (some ⟨p2,0,none⟩)),(5,.pointer (some ((⟨p1,0,none⟩:Addr).add 0)))]) (w':=W) X' ?_;intro aa ha;refine b0U (v:=.int .i64 a) ha X' (b0w W rfl rfl Tryz.underlying3 rfl c1) ?_;intro aa ha;refine i0l ha (k:=1) (ks:=[6,7]) (l':=[(6,.int .i64 a),(7,.pointer (some ((⟨p2,0,none⟩:Addr).add 0)))]) (w':=W) X' ?_;intro aa ha;refine b0U (v:=.int .i64 d) ha X' (b0w W rfl rfl Tryz.underlying3 rfl c2) ?_;intro aa ha;refine i0l ha (k:=2) (ks:=[4]) (l':=[(4,.int .i64 (IntKind.wrap .i64 (a-d)))]) (w':=W) X' ?_;intro aa ha;refine g _ _ ?_;refine wp_ret ?_;refine j0g (r1:=.tmp 4) (v1:=.int .i64 (IntKind.wrap .i64 (a-d))) ha rfl (.inl rfl) rfl ⟨by rw[hw],0,_,hg⟩
end Go.Proofs
namespace Go.V
open Go.RowKit
abbrev C0O (n:Nat):={l:List Bool // l.length=n}
instance (n:Nat):Inhabited (C0O n):=⟨⟨List.replicate n false,length_replicate⟩⟩
variable {P:Program}{ops:Array Oper}{n:Nat}{Q:Exit->Act->World->Prop}{l:FL}{a:Act}{w:World}{o:Oper}{rest:List Oper}
def u7.only {w0 w w1:World}{b:Nat}(h:u7 w0 w)(c:w0.heap.size<=b)(hs:w0.heap.size<=w.heap.size)(ho:j5 b w w1):u7 w0 w1:=
 fun k hk=>(ho.block k (Nat.lt_of_lt_of_le hk hs) (fun e=>O')).trans (h k hk)
end Go.V
namespace Go.V
open Go.RowKit
variable {P:Program}{ops:Array Oper}{n:Nat}{Q:Exit->Act->World->Prop}{l:FL}{a:Act}{w:World}{o:Oper}{rest:List Oper}
def C0j {α:Type}{T:Ty α}{H:I0}{S M:D0}{t e:TypeId}{lo:Value}{A:Option Addr}{c:Nat}{xs:List α}{k:IntKind}{vlo:Int}(p:P.underlying t=some (.slice e))(r:(P.info? e).map (·.size)=some T.sz)
  (b:Ow T e M H S (.slice A xs.length c) xs) (hk:P3 xs vlo xs.length=true) (g:lo=.int k vlo:=by rfl):
  ∃j,(∀w,(Instr.sliceAt t (.slice A xs.length c) (some lo) none none).run P w=.ok (.slice j (xs.length-vlo.toNat) (c-vlo.toNat)) w)/\(vlo<xs.length->j=A.map (·.add (vlo.toNat*T.sz))):=by
 subst g;have f:=hk;simp only[P3,Bool.and_eq_true,decide_eq_true_eq]at f;obtain⟨⟨u,h1⟩,s⟩:=f;have m:=b.cap;obtain⟨inf,d,i⟩:=Option.map_eq_some_iff.1 r;refine⟨if c=vlo.toNat then A else A.map (·.add (vlo.toNat*T.sz)),fun w=>?_,fun h=>by rw[if_neg O']⟩;have q:=run_sliceBound (P:=P) (w:=w) k vlo xs.length .sliceB O' O';simp only[Instr.sliceAt,Instr.slice,Instr.sliceBounds,Sem.run_bind,run_underlying p,Result.andThen_ok];simp[q,sizeOf,typeInfo,d,i]
def Q9 {α:Type}(xs:List α)(lo hi:Int):List α:=xs.take lo.toNat++j4 (xs.drop lo.toNat) (G1 xs 0 hi)
def h02 {α:Type}(xs:List α)(lo hi:Int):(Q9 xs lo hi).length=xs.length:=by
 unfold Q9;rw[length_append,b04,length_take,length_drop];omega
def I00 {α:Type}{T:Ty α}{w0:World}{W0 Wf S0 S:D0}{t e:TypeId}{x y:Operand}{A A1:Option Addr}{c:Nat}{xs:List α}{lo hi:Int}(ha:Ag n l a)(cx:Cx w0 W0 S0 w S)(hf:(gate ops l o==some true&&fit n l o)=true)
  (ho:o.op=.call { callee:=.builtin .copy,args:=#[x,y],argTypes:=#[t,t] }) (p:lk l x=.slice A1 (xs.length-lo.toNat) (c-lo.toNat)) (hy:lk l y=.slice A (G1 xs 0 hi).length c) (ht:P.underlying t=some (.slice e)) (hE:(P.info? e).map (·.size)=some 1) (R:T.sz=1)
  (hW:∀k,Wr Wf w0 k->Wr W0 w0 k) (d:Ow T e (Wr Wf w0) w.heap S (.slice A xs.length c) xs) (c5:P3 xs lo xs.length=true) (a1:P3 xs 0 hi=true) (r:lo<xs.length->A1=A.map (·.add (lo.toNat*T.sz)))
  (h:∀w1,Cx w0 W0 S0 w1 S->(∀k,k<w.heap.size->(Value.slice A xs.length c).ownBlock≠some k->w1.heap[k]?=w.heap[k]?)->P0 w.heap S w1.heap S->Ow T e (Wr Wf w0) w1.heap S (.slice A xs.length c) (Q9 xs lo hi)->
   ∀a',Ag n (N5 l o.dst (.int .i64 (Nat.min (G1 xs 0 hi).length (xs.length-lo.toNat):Nat))) a'->wpList P ops Q rest a' w1):wpList P ops Q (o :: rest) a w:=by
 have c3:=c5;simp only[P3,Bool.and_eq_true,decide_eq_true_eq]at c3;have c0:=a1;simp only[P3,Bool.and_eq_true,decide_eq_true_eq]at c0;have h6:=d0b a1;have fin:∀(w1:World) (m:Nat),(Builtin.copy_ #[t,t] o.type #[.slice A1 (xs.length-lo.toNat) (c-lo.toNat),.slice A (G1 xs 0 hi).length c]).run P w=.ok (goInt m) w1->m=Nat.min (G1 xs 0 hi).length (xs.length-lo.toNat)->
   Cx w0 W0 S0 w1 S->(∀k,k<w.heap.size->(Value.slice A xs.length c).ownBlock≠some k->w1.heap[k]?=w.heap[k]?)->P0 w.heap S w1.heap S->Ow T e (Wr Wf w0) w1.heap S (.slice A xs.length c) (Q9 xs lo hi)->wpList P ops Q (o :: rest) a w:=by
  intro w1 m hr hm h1 J I h4;refine b0U ha hf (v:=.int .i64 (Nat.min (G1 xs 0 hi).length (xs.length-lo.toNat):Nat)) (w':=w1) ?_ fun a' c8=>h w1 h1 J I h4 a' c8;subst hm;simp only[execOp,ho,resolve,invoke,builtin,Sem.run_bind,Sem.run_pure,Result.andThen_ok,List.map_toArray,List.map_cons,List.map_nil,p,hy,hr];rfl
 by_cases h0:Nat.min (G1 xs 0 hi).length (xs.length-lo.toNat)=0
 ·refine fin w 0 (run_copy_none w t t o.type e A1 A (xs.length-lo.toNat) (c-lo.toNat) (G1 xs 0 hi).length c ht hE h0) h0.symm cx (fun _ _ _=>rfl) (P0.refl _ _) ?_;have:Q9 xs lo hi=xs:=by
   unfold Q9 j4;rcases Nat.eq_zero_or_pos (xs.length-lo.toNat)with U|U
   ·rw[show xs.drop lo.toNat=[]from List.drop_of_length_le O'];simp;exact List.take_of_length_le O'
   ·have e5:(G1 xs 0 hi).length=0:=by
     rcases le_total (G1 xs 0 hi).length (xs.length-lo.toNat)with hle|hle
     ·rwa [show Nat.min (G1 xs 0 hi).length (xs.length-lo.toNat)=(G1 xs 0 hi).length from min_eq_left hle]at h0
     ·rw[show Nat.min (G1 xs 0 hi).length (xs.length-lo.toNat)=xs.length-lo.toNat from Nat.min_eq_right hle]at h0;omega
    rw[List.eq_nil_of_length_eq_zero e5];simp
  rw[this];exact d
 ·have e9:0<xs.length-lo.toNat:=by
   rcases Nat.eq_zero_or_pos (xs.length-lo.toNat)with U|U
   ·exact absurd (by rw[U];exact Nat.min_zero _) h0
   ·exact U
  have e4:=d.O8;have h5:=d.lt;obtain⟨b3,cs,⟨u,b5⟩,s⟩:=d;rcases b5 with⟨hv,U⟩|⟨g,cap,cur,hv,hg,hnc,hm,hcs,htake⟩
  ·omega
  ·simp at hv;obtain⟨rfl,rfl⟩:=hv;have hA:=r O';rw[R,mul_one]at hA u hcs htake;have e3:A1=some ⟨g,lo.toNat,none⟩:=hA.trans (congrArg some (by unfold Addr.add;by_cases hk:lo.toNat=0<;>simp[hk]));subst e3;generalize b4:G1 xs 0 hi=ys at *;have e1:∀(i:Nat) (x:α),ys[i]?=some x->xs[i]?=some x:=by
    intro i x p;have e7:i<ys.length:=(List.getElem?_eq_some_iff.1 p).1;rw[<-b4]at p;unfold G1 at p;rw[List.getElem?_take_of_lt O']at p;simpa using p
   obtain⟨news,z,q⟩:=Q4.news (w:=w) (xs:=ys) (k:=0) (A:=some ⟨g,0,none⟩) (T:=T) (S:=S) (fun i x p=>by
    obtain⟨b,o,cs,h1,J,I⟩:=e4 i x (e1 i x p);exact⟨b,o,cs,h1,J,fun j v hj=>by rw[Nat.zero_add];exact I j v hj⟩)
   have c4:news.length=ys.length:=by rw[z.1,R,mul_one]
   have f:(news.take (xs.length-lo.toNat)).length=Nat.min ys.length (xs.length-lo.toNat):=by rw[length_take,c4];exact Nat.min_comm _ _
   have hle:Nat.min ys.length (xs.length-lo.toNat)<=xs.length-lo.toNat:=Nat.min_le_right _ _;have hr:=run_copy_row (P:=P) w t t o.type e g lo.toNat (xs.length-lo.toNat) (c-lo.toNat) ⟨g,0,none⟩ ys.length c cur e (news.take (xs.length-lo.toNat)) ht hE hg f (fun j v hj=>by
    rw[k7];have c6:news[j]?=some v:=by
     rcases Nat.lt_or_ge j (xs.length-lo.toNat)with h|h
     ·rwa [List.getElem?_take_of_lt h]at hj
     ·rw[List.getElem?_take_eq_none h]at hj;cases hj
    have:=q g 0 rfl j v c6;simpa using this) (by rw[f,hcs];omega) (fun v hv=>z.e0w v (List.mem_of_mem_take hv))
   have b1:=b3 g (by simp[Value.ownBlock]);have e6:=getElem?_lt hg;generalize hN:news.take (xs.length-lo.toNat)=N at *;have C:j5 g w (w.setRow g (cur.toList.take lo.toNat++N++cur.toList.drop (lo.toNat+N.length)).toArray):=⟨rfl,rfl,rfl,by simp[World.setRow],fun k _ hk=>by simp[World.setRow,Array.getElem?_modify,Ne.symm hk]⟩
   have hk:=C.L0 b1.1;have b2:cur.toList.length=c:=by rw[Array.length_toList,hcs]
   refine fin _ _ hr f (C.cx cx (hW _ b1.2)) (fun k hk e2=>C.block k hk (fun e=>e2 (by rw[e];simp[Value.ownBlock]))) hk ⟨b3,cs.take lo.toNat++(N++(cs.drop lo.toNat).drop ys.length),⟨?_,.inr ⟨g,c,(cur.toList.take lo.toNat++N++cur.toList.drop (lo.toNat+N.length)).toArray,by rw[h02],setRow_heap w g cur _ e _ hg,by rw[h02];exact hnc,hm,?_,?_⟩⟩,?_⟩
   ·rw[h02,R,mul_one,length_append,length_append,f,length_drop,length_drop,length_take,u];rcases le_total ys.length (xs.length-lo.toNat)with h|h
    ·rw[show Nat.min ys.length (xs.length-lo.toNat)=ys.length from min_eq_left h];omega
    ·rw[show Nat.min ys.length (xs.length-lo.toNat)=xs.length-lo.toNat from Nat.min_eq_right h];omega
   ·rw[R,mul_one,List.size_toArray,length_append,length_append,length_drop,length_take,b2];omega
   ·rw[h02,R,mul_one];show List.take xs.length (cur.toList.take lo.toNat++N++cur.toList.drop (lo.toNat+N.length))=_;have r:(cur.toList.take lo.toNat++N).length=lo.toNat+N.length:=by rw[length_append,length_take,b2];omega
    rw[List.take_append,List.take_of_length_le (by rw[r];omega),r,<-htake,List.take_take,min_eq_left O',List.append_assoc];congr 1;congr 1;rw[List.drop_drop,List.drop_take];rcases le_total ys.length (xs.length-lo.toNat)with h|h
    ·rw[f,show Nat.min ys.length (xs.length-lo.toNat)=ys.length from min_eq_left h]
    ·rw[f,show Nat.min ys.length (xs.length-lo.toNat)=xs.length-lo.toNat from Nat.min_eq_right h,show xs.length-(lo.toNat+(xs.length-lo.toNat))=0 from O',show xs.length-(lo.toNat+ys.length)=0 from O',List.take_zero,List.take_zero]
   ·have h1:=(s.L0 hk).cut lo.toNat;have J:=(z.L0 hk).cut (xs.length-lo.toNat);have I:=((s.L0 hk).tail lo.toNat).tail ys.length;rw[R,mul_one]at h1 J I;rw[mul_one,hN]at *;have h4:=h1.append (J.append I);unfold Q9 j4;rw[length_drop,b4];exact h4
end Go.V
set_option maxRecDepth 100000
namespace Go.Proofs.YtihmgaccbcfgjaaGreat.Wr
open Go.V Go.RowKit
def i0d (fuel:Nat)(p0:Int)(p1:Int):Option (Int×Int):=
 some ((IntKind.wrap .u64 ((IntKind.wrap .u64 ((IntKind.wrap .u64 ((shr .u64 p0 32)*(shr .u64 p1 32)))+(shr .u64 (IntKind.wrap .u64 ((IntKind.wrap .u64 ((shr .u64 p0 32)*(Q2 .u64 p1 4294967295)))+(shr .u64 (IntKind.wrap .u64 ((Q2 .u64 p0 4294967295)*(Q2 .u64 p1 4294967295))) 32))) 32)))+(shr .u64 (IntKind.wrap .u64 ((Q2 .u64 (IntKind.wrap .u64 ((IntKind.wrap .u64 ((shr .u64 p0 32)*(Q2 .u64 p1 4294967295)))+(shr .u64 (IntKind.wrap .u64 ((Q2 .u64 p0 4294967295)*(Q2 .u64 p1 4294967295))) 32))) 4294967295)+(IntKind.wrap .u64 ((Q2 .u64 p0 4294967295)*(shr .u64 p1 32))))) 32))),(IntKind.wrap .u64 (p0*p1)))
def g0y (fuel:Nat)(p0:Int)(p1:Int):Option (Int×Int):=
 Option.bind (i0d fuel p0 p1) fun b=>
 some (b.1,b.2)
def c04 (fuel:Nat)(c:Int×Int)(p0:(List Int))(b:List Int×Int):Option (Q0 (List Int×Int) (List Int)):=
 let(x3,x4):=b
 if(decide (x4<(x3.length:Int)))then
  if P3 x3 x4 (x3.length:Int)then
   if P3 x3 0 x4 then
    some (.next ((Q9 x3 x4 x4),(W (x4+((Nat.min (G1 x3 0 x4).length (x3.length-x4.toNat):Nat):Int)))))
   else none
  else none
 else
  some (.done x3)
def k0k (fuel:Nat)(p0:(List Int))(p1:Int):Option ((List Int)):=
 if(decide (p1<0))then
 none
else
 Option.bind (g0y fuel (IntKind.wrap .u64 ((p0.length:Int))) (IntKind.wrap .u64 (p1))) fun x1=>
  Option.bind ((
   if(decide (x1.1>0))then
    some true
   else
    some (decide (x1.2>9223372036854775807))):Option (Bool)) fun x2=>
   if x2 then
    none
   else
    if R2 8 (W (x1.2))then
     Option.bind (iter (c04 fuel x1 p0) fuel ((j4 (List.replicate (Int.toNat (W (x1.2))) (0:Int)) p0),((Nat.min p0.length (List.replicate (Int.toNat (W (x1.2))) (0:Int)).length:Nat):Int))) fun y1=>
      some y1
    else none
def z0U (w:World)(S:D0)(r:(Int×Int))(v:Value)(w1:World):Prop:=∃v0:Value,∃v1:Value,v=.tuple #[v0,v1]/\(v0=.int .u64 r.1)/\(v1=.int .u64 r.2)
abbrev w0A (w:World)(S:D0)(r:(Int×Int)):Ending->World->Prop:=fun e w1=>∃v,e=.returned v/\Below w.heap.size w w1/\z0U w S r v w1
def y0b (fuel:Nat){w:World}{S:D0}(d:∀b,S b->b<w.heap.size){p0 p1}  {r}(h:i0d fuel p0 p1=some r):
 Calls Tryz.prog 224 #[.int .u64 p0,.int .u64 p1] w (w0A w S r):=by
 refine h0q (vs:=[.int .u64 p0,.int .u64 p1]) Tryz.func224 rfl rfl ?_;intro a ha;have cx:=Cx.start (W0:=C3) d;refine wn fun e=>?_;unfold i0d at h;refine sq fun K c=>Y3 (sg ha 2 [(0,.int .u64 p0),(1,.int .u64 p1)] w fun a ha=>?_);refine c ?_;clear c;refine sq fun K c=>Y3 (sk ha 3 [(6,.int .u64 (Q2 .u64 p0 4294967295))] fun a ha=>?_);refine c ?_;clear c;refine sq fun K c=>Y3 (sk ha 3 [(7,.int .u64 (shr .u64 p0 32))] fun a ha=>?_);refine c ?_;clear c;refine sq fun K c=>Y3 (sk ha 3 [(8,.int .u64 (Q2 .u64 p1 4294967295))] fun a ha=>?_);refine c ?_;clear c;refine sq fun K c=>Y3 (sk ha 3 [(9,.int .u64 (shr .u64 p1 32))] fun a ha=>?_);refine c ?_;clear c;refine sq fun K c=>Y3 (sk ha 4 [(10,.int .u64 (IntKind.wrap .u64 ((Q2 .u64 p0 4294967295)*(Q2 .u64 p1 4294967295))))] fun a ha=>?_);refine c ?_;clear c;refine sq fun K c=>Y3 (sk ha 7 [(11,.int .u64 (IntKind.wrap .u64 ((IntKind.wrap .u64 ((shr .u64 p0 32)*(Q2 .u64 p1 4294967295)))+(shr .u64 (IntKind.wrap .u64 ((Q2 .u64 p0 4294967295)*(Q2 .u64 p1 4294967295))) 32))))] fun a ha=>?_);refine c ?_;clear c;refine sq fun K c=>Y3 (sk ha 3 [(12,.int .u64 (Q2 .u64 (IntKind.wrap .u64 ((IntKind.wrap .u64 ((shr .u64 p0 32)*(Q2 .u64 p1 4294967295)))+(shr .u64 (IntKind.wrap .u64 ((Q2 .u64 p0 4294967295)*(Q2 .u64 p1 4294967295))) 32))) 4294967295))] fun a ha=>?_);refine c ?_;clear c;refine sq fun K c=>Y3 (sk ha 3 [(13,.int .u64 (shr .u64 (IntKind.wrap .u64 ((IntKind.wrap .u64 ((shr .u64 p0 32)*(Q2 .u64 p1 4294967295)))+(shr .u64 (IntKind.wrap .u64 ((Q2 .u64 p0 4294967295)*(Q2 .u64 p1 4294967295))) 32))) 32))] fun a ha=>?_);refine c ?_;clear c;refine sq fun K c=>Y3 (sk ha 6 [(12,.int .u64 (IntKind.wrap .u64 ((Q2 .u64 (IntKind.wrap .u64 ((IntKind.wrap .u64 ((shr .u64 p0 32)*(Q2 .u64 p1 4294967295)))+(shr .u64 (IntKind.wrap .u64 ((Q2 .u64 p0 4294967295)*(Q2 .u64 p1 4294967295))) 32))) 4294967295)+(IntKind.wrap .u64 ((Q2 .u64 p0 4294967295)*(shr .u64 p1 32))))))] fun a ha=>?_);refine c ?_;clear c;refine sq fun K c=>Y3 (sk ha 9 [(4,.int .u64 (IntKind.wrap .u64 ((IntKind.wrap .u64 ((IntKind.wrap .u64 ((shr .u64 p0 32)*(shr .u64 p1 32)))+(shr .u64 (IntKind.wrap .u64 ((IntKind.wrap .u64 ((shr .u64 p0 32)*(Q2 .u64 p1 4294967295)))+(shr .u64 (IntKind.wrap .u64 ((Q2 .u64 p0 4294967295)*(Q2 .u64 p1 4294967295))) 32))) 32)))+(shr .u64 (IntKind.wrap .u64 ((Q2 .u64 (IntKind.wrap .u64 ((IntKind.wrap .u64 ((shr .u64 p0 32)*(Q2 .u64 p1 4294967295)))+(shr .u64 (IntKind.wrap .u64 ((Q2 .u64 p0 4294967295)*(Q2 .u64 p1 4294967295))) 32))) 4294967295)+(IntKind.wrap .u64 ((Q2 .u64 p0 4294967295)*(shr .u64 p1 32))))) 32))))] fun a ha=>?_);refine c ?_;clear c;refine sq fun K c=>Y3 (sk ha 4 [(5,.int .u64 (IntKind.wrap .u64 (p0*p1)))] fun a ha=>?_);refine c ?_;clear c;refine wp_ret ?_;obtain rfl:=sj h;show bodyPost Tryz.prog Tryz.f224 (w0A w S _) .ret a w;exact r0Q (r1:=.tmp 4) (v1:=.int .u64 (IntKind.wrap .u64 ((IntKind.wrap .u64 ((IntKind.wrap .u64 ((shr .u64 p0 32)*(shr .u64 p1 32)))+(shr .u64 (IntKind.wrap .u64 ((IntKind.wrap .u64 ((shr .u64 p0 32)*(Q2 .u64 p1 4294967295)))+(shr .u64 (IntKind.wrap .u64 ((Q2 .u64 p0 4294967295)*(Q2 .u64 p1 4294967295))) 32))) 32)))+(shr .u64 (IntKind.wrap .u64 ((Q2 .u64 (IntKind.wrap .u64 ((IntKind.wrap .u64 ((shr .u64 p0 32)*(Q2 .u64 p1 4294967295)))+(shr .u64 (IntKind.wrap .u64 ((Q2 .u64 p0 4294967295)*(Q2 .u64 p1 4294967295))) 32))) 4294967295)+(IntKind.wrap .u64 ((Q2 .u64 p0 4294967295)*(shr .u64 p1 32))))) 32)))) (r2:=.tmp 5) (v2:=.int .u64 (IntKind.wrap .u64 (p0*p1))) ha rfl (.inl rfl) rfl rfl ⟨_,rfl,cx.below,⟨_,_,rfl,rfl,rfl⟩⟩
def B01 (w:World)(S:D0)(r:(Int×Int))(v:Value)(w1:World):Prop:=∃v0:Value,∃v1:Value,v=.tuple #[v0,v1]/\(v0=.int .u64 r.1)/\(v1=.int .u64 r.2)
abbrev u0R (w:World)(S:D0)(r:(Int×Int)):Ending->World->Prop:=fun e w1=>∃v,e=.returned v/\Below w.heap.size w w1/\B01 w S r v w1
def I0x (fuel:Nat){w:World}{S:D0}(i:∀b,S b->b<w.heap.size){p0 p1}  {r}(h:g0y fuel p0 p1=some r):
 Calls Tryz.prog 216 #[.int .u64 p0,.int .u64 p1] w (u0R w S r):=by
 refine h0q (vs:=[.int .u64 p0,.int .u64 p1]) Tryz.func216 rfl rfl ?_;intro a ha;have cx:=Cx.start (W0:=C3) i;refine wn fun j=>?_;unfold g0y at h;refine sq fun K c=>Y3 (sg ha 2 [(0,.int .u64 p0),(1,.int .u64 p1)] w fun a ha=>?_);refine c ?_;clear c;refine sq fun K c=>?_;refine z0y ha rfl ?_;refine wp_skip (c ?_);clear c;refine sq fun K c=>Y3 (sk ha 2 [(23,.int .u64 p0),(24,.int .u64 p1)] fun a ha=>?_);obtain⟨d,g,h⟩:=a0c h;refine l0S ha X' (f:=224) (args:=#[.int .u64 p0,.int .u64 p1]) (w':=w) X' (y0b fuel (p0:=p0) (p1:=p1) cx.lt g) ?_;rintro v1 w1 ⟨e,hp1⟩ a ha;obtain⟨_,_,rfl,rfl,rfl⟩:=hp1;replace cx:=cx.ext e;refine sk ha 5 [(8,.int .u64 d.1),(9,.int .u64 d.2)] fun a ha=>?_;refine c ?_;clear c;refine sq fun K c=>Y3 (sk ha 4 [(4,.int .u64 d.1),(5,.int .u64 d.2)] fun a ha=>?_);refine c ?_;clear c;refine wp_ret ?_;obtain rfl:=sj h;show bodyPost Tryz.prog Tryz.f216 (u0R w S _) .ret a w1;exact r0Q (r1:=.tmp 4) (v1:=.int .u64 d.1) (r2:=.tmp 5) (v2:=.int .u64 d.2) ha rfl (.inl rfl) rfl rfl ⟨_,rfl,cx.below,⟨_,_,rfl,rfl,rfl⟩⟩
def y0p (w:World)(S:D0)(r:((List Int)))(v:Value)(w1:World):Prop:=∃(A:Option Addr) (c:Nat),v=.slice A r.length c/\Ow (P1 .i64) 3 (Wr C3 w) w1.heap (inV v S) v r
abbrev r0S (w:World)(S:D0)(r:((List Int))):Ending->World->Prop:=fun e w1=>∃v,e=.returned v/\Below w.heap.size w w1/\y0p w S r v w1
def E0S (fuel:Nat){w:World}{S:D0}(hS:∀b,S b->b<w.heap.size){p0 p1 A_p0 c_p0}(p:Sl (P1 .i64) w.heap S A_p0 c_p0 p0){r}(h:k0k fuel p0 p1=some r):
 Calls Tryz.prog 197 #[vS A_p0 p0 c_p0,vI p1] w (r0S w S r):=by
 refine h0q (vs:=[vS A_p0 p0 c_p0,vI p1]) Tryz.func197 rfl rfl ?_;intro a ha;have cx:=Cx.start (W0:=C3) hS;refine wn fun v=>?_;unfold k0k at h;refine sq fun K g=>Y3 (sg ha 1 [(0,vS A_p0 p0 c_p0),(1,vI p1)] w fun a ha=>?_);refine g ?_;clear g;refine sq fun K g=>sq fun K g=>Y3 (sk ha 2 [(10,vB (decide (p1<0)))] fun a ha=>?_);refine g ?_;clear g;refine e0B ha rfl (fun q=>?_) (fun q=>?_)
 ·replace h:=itT q h;cases h
 ·replace h:=itF q h;refine wp_skip (g ?_);clear g;refine sq fun K g=>Y3 (sk ha 5 [(15,.int .u64 (IntKind.wrap .u64 ((p0.length:Int)))),(17,.int .u64 (IntKind.wrap .u64 (p1)))] fun a ha=>?_);obtain⟨m,e5,h⟩:=a0c h;refine l0S ha X' (f:=216) (args:=#[.int .u64 (IntKind.wrap .u64 ((p0.length:Int))),.int .u64 (IntKind.wrap .u64 (p1))]) (w':=w) X' (I0x fuel (p0:=(IntKind.wrap .u64 ((p0.length:Int)))) (p1:=(IntKind.wrap .u64 (p1))) cx.lt e5) ?_;rintro v1 w1 ⟨b3,hp1⟩ a ha;obtain⟨_,_,rfl,rfl,rfl⟩:=hp1;replace p:=p.L0 (P0.ext S b3);replace cx:=cx.ext b3;refine sk ha 5 [(5,.int .u64 m.1),(6,.int .u64 m.2)] fun a ha=>?_;refine g ?_;clear g;refine sq fun K g=>sq fun K g=>?_;obtain⟨q1,c8,h⟩:=a0c h;refine p0y (D:=fun a w_=>∃x2:Bool,x2=q1/\w1=w_/\Ag 48 [(0,vS A_p0 p0 c_p0),(6,.int .u64 m.2),(26,vB x2)] a) ?_ ?_
  ·clear h;have h:=c8;refine Y3 (sk ha 3 [(23,vB (decide (m.1>0)))] fun a ha=>?_);refine s0F (t:=23) ha rfl (fun q ha=>?_) (fun q ha=>?_)
   ·replace h:=itT q h;refine sk ha 3 [(26,vB true)] fun a ha=>?_;obtain rfl:=sj h;exact⟨_,rfl,rfl,ha.to X'⟩
   ·replace h:=itF q h;refine sk ha 3 [(26,vB (decide (m.2>9223372036854775807)))] fun a ha=>?_;obtain rfl:=sj h;exact⟨_,rfl,rfl,ha.to X'⟩
  rintro a _ ⟨x2,rfl,rfl,ha⟩;refine g ?_;clear g;refine e0B ha rfl (fun q=>?_) (fun q=>?_)
  ·replace h:=itT q h;cases h
  ·replace h:=itF q h;refine wp_skip (g ?_);clear g;refine sq fun K g=>Y3 (sg ha 2 [(0,vS A_p0 p0 c_p0),(29,vI (W (m.2)))] w1 fun a ha=>?_);obtain⟨c4,h⟩:=b0i h;refine r0o (T:=(P1 .i64)) (z:=vI 0) (zx:=(0:Int)) (bytes:=8) ha cx X' rfl rfl rfl Tryz.underlying22 X' X' (fun _ _=>rfl) c4 ?_;intro C S1 R c1 cx e9 e2 h2 h3 f1 a ha;replace p:=p.L0 e2;refine sk ha 1 [(7,vS R (List.replicate (Int.toNat (W (m.2))) (0:Int)) c1)] fun a ha=>?_;refine g ?_;clear g;refine sq fun K g=>Y3 (sk ha 2 [(31,vS R (List.replicate (Int.toNat (W (m.2))) (0:Int)) c1),(32,vS A_p0 p0 c_p0)] fun a ha=>?_);refine D0I (T:=(P1 .i64)) (xs:=(List.replicate (Int.toNat (W (m.2))) (0:Int))) (ys:=p0) ha cx X' rfl rfl rfl Tryz.underlying22 X' rfl h0h f1 p.O8 ?_;intro w3 cx h4 h0 f2 a ha;have a1:((j4 (List.replicate (Int.toNat (W (m.2))) (0:Int)) p0)).length=(List.replicate (Int.toNat (W (m.2))) (0:Int)).length:=b04 _ _;replace ha:Ag 48 [(7,.slice R (j4 (List.replicate (Int.toNat (W (m.2))) (0:Int)) p0).length c1),(33,.int .i64 ((Nat.min p0.length (List.replicate (Int.toNat (W (m.2))) (0:Int)).length:Nat):Int))] a:=by rw[a1];exact ha.to X'
   replace f2:Ow (P1 .i64) 3 (Wr C3 w) w3.heap S1 (.slice R (j4 (List.replicate (Int.toNat (W (m.2))) (0:Int)) p0).length c1) (j4 (List.replicate (Int.toNat (W (m.2))) (0:Int)) p0):=by rw[a1];exact f2
   refine sg ha 1 [(7,vS R (j4 (List.replicate (Int.toNat (W (m.2))) (0:Int)) p0) c1),(8,vI ((Nat.min p0.length (List.replicate (Int.toNat (W (m.2))) (0:Int)).length:Nat):Int))] w3 fun a ha=>?_;refine g ?_;clear g;refine sq fun K g=>wp_block ?_;obtain⟨t1,b5,h⟩:=a0c h;refine wp_mono (k0i (step:=(c04 fuel m p0)) (I:=fun(s:List Int×Int) a w4=>match s with|(k,d)=>∃(y:D0),∃(u:Option Addr) (c2:Nat),Cx w C3 S w4 y/\Ow (P1 .i64) 3 (Wr C3 w) w4.heap y (vS u k c2) k/\Ag 48 [(7,vS u k c2),(8,vI d)] a) (D:=fun(t:List Int) e a w5=>match t with|J=>e=.exit 0/\∃(S3:D0),∃(A3:Option Addr) (c3:Nat),Cx w C3 S w5 S3/\Ow (P1 .i64) 3 (Wr C3 w) w5.heap S3 (vS A3 J c3) J/\Ag 48 [(7,vS A3 J c3)] a) ?_ fuel _ t1 a _ b5 ?_) ?_
   ·clear h b5;rintro⟨k,d⟩ ct a w4 ⟨y,u,c2,cx,f3,ha⟩ h;refine l0x (NoP.loop (fun t c a w h=>by cases t<;>exact absurd h.1 Z')) (fun v=>?_);unfold c04 at h;refine sq fun K g=>sq fun K g=>Y3 (sg ha 4 [(7,vS u k c2),(8,vI d),(37,vB (decide (d<(k.length:Int))))] w4 fun a ha=>?_);refine g ?_;clear g;refine e0B ha rfl (fun q=>?_) (fun q=>?_)
    ·replace h:=itT q h;refine wp_skip (g ?_);clear g;refine wp_block ?_;refine u0u 7 y rfl ?_;intro w6 e1 U;replace f3:=f3.ext U;replace cx:=cx.ext U;have x:=P0.refl w6.heap y;have hold:=u7.start w6;have g1:=f3;refine dk 0 (vI d) ha v rfl (Sd.start _ _ _ _) fun j a ha=>?_;refine dk 1 (vS u k c2) ha v rfl j fun j a ha=>?_;refine dk 2 (vI d) ha v rfl j fun j a ha=>?_;obtain⟨b1,h⟩:=b0i h;obtain⟨A4,e3,e4⟩:=C0j (P:=Tryz.prog) (t:=22) (lo:=vI d) Tryz.underlying22 X' f3 b1;refine dv 3 (.slice A4 (k.length-d.toNat) (c2-d.toNat)) ha v rfl (fun C c5 c0=>o0L C rfl (e3 C)) j fun j a ha=>?_;refine dk 4 (vS u k c2) ha v rfl j fun j a ha=>?_;refine dk 5 (vI d) ha v rfl j fun j a ha=>?_;obtain⟨b2,h⟩:=b0i h;obtain⟨c6,_⟩:=H0Y (P:=Tryz.prog) (t:=22) (hi:=vI d) Tryz.underlying22 X' f3 b2;refine dv 6 (.slice u ((G1 k 0 d).length) c2) ha v rfl (fun C c5 c0=>o0L C rfl (c6 C)) j fun j a ha=>?_;refine w0f (i:=7) X' rfl ?_;refine I00 (T:=(P1 .i64)) (xs:=k) (lo:=d) (hi:=d) ha cx X' rfl rfl rfl Tryz.underlying22 X' rfl h0h f3 b1 b2 e4 ?_;intro w7 cx e7 e6 f7 a ha;have b4:((Q9 k d d)).length=k.length:=h02 _ _ _;replace ha:Ag 48 [(7,.slice u (Q9 k d d).length c2),(38,.int .i64 d),(45,.int .i64 ((Nat.min (G1 k 0 d).length (k.length-d.toNat):Nat):Int))] a:=by rw[b4];exact ha.to X'
     replace f7:Ow (P1 .i64) 3 (Wr C3 w) w7.heap y (.slice u (Q9 k d d).length c2) (Q9 k d d):=by rw[b4];exact f7
     replace x:=x.trans e6;refine s0o (Sd.behind x X') ?_;refine dk 8 (vI (W (d+((Nat.min (G1 k 0 d).length (k.length-d.toNat):Nat):Int)))) ha v rfl (Sd.behind x X') fun j a ha=>?_;refine dk 9 (vI (W (d+((Nat.min (G1 k 0 d).length (k.length-d.toNat):Nat):Int)))) ha v rfl j fun j a ha=>?_;refine o03 X' ?_;replace ha:=ha.to (l':=[(7,vS u (Q9 k d d) c2),(8,vI (W (d+((Nat.min (G1 k 0 d).length (k.length-d.toNat):Nat):Int))))]) X';obtain rfl:=sj h;exact⟨_,rfl,y,u,c2,cx,f7,ha.to X'⟩
    ·replace h:=itF q h;refine wp_exit ?_;obtain rfl:=sj h;exact⟨_,rfl,rfl,y,u,c2,cx,f3,ha.to X'⟩
   ·exact⟨S1,R,c1,cx,f2,ha.to X'⟩
   intro e a w5 hd;generalize t1=J at *;obtain⟨rfl,S3,A3,c3,cx,f4,ha⟩:=hd;refine g ?_;clear g;refine sq fun K g=>Y3 (sg ha 2 [(4,vS A3 J c3)] w5 fun a ha=>?_);refine g ?_;clear g;refine wp_ret ?_;obtain rfl:=sj h;show bodyPost Tryz.prog Tryz.f197 (r0S w S _) .ret a w5;exact j0g (r1:=.tmp 4) (v1:=vS A3 J c3) ha rfl (.inl rfl) rfl ⟨_,rfl,cx.below,⟨_,_,rfl,f4.result cx.sub⟩⟩
def y08:∀k,k<1001->g0y 0 (IntKind.wrap .u64 1) (IntKind.wrap .u64 ((k:Nat):Int))=some (0,(k:Int)):=by decide+kernel
def A0L {fuel k:Nat}{v:Int}(hk:k<=1000)(s:1000<fuel):k0k fuel [v] (k:Int)=some (List.replicate k v):=by
 have hm:g0y fuel (IntKind.wrap .u64 (([v].length:Nat):Int)) (IntKind.wrap .u64 (k:Int))=some (0,(k:Int)):=y08 k O';have loop:∀(m n fu:Nat),1<=n->n<=k->k-n<=m->m<fu->iter (c04 fuel (0,(k:Int)) [v]) fu (List.replicate n v++List.replicate (k-n) 0,(n:Int))=some (List.replicate k v):=by
  intro m
  induction m with
  |zero=>
   intro n fu h1 r j i;obtain⟨fu,rfl⟩:∃q,fu=q+1:=⟨fu-1,O'⟩
   have:n=k:=O'
   subst this;unfold iter c04;simp
  |succ m ih=>
   intro n fu h1 r j i;obtain⟨fu,rfl⟩:∃q,fu=q+1:=⟨fu-1,O'⟩
   by_cases c:n=k
   ·subst c;unfold iter c04;simp
   ·have hlen:(List.replicate n v++List.replicate (k-n) (0:Int)).length=k:=by simp;omega
    have b:G1 (List.replicate n v++List.replicate (k-n) (0:Int)) 0 (n:Int)=List.replicate n v:=by
     unfold G1;simp
    have d:Q9 (List.replicate n v++List.replicate (k-n) (0:Int)) (n:Int) (n:Int)=List.replicate (n+min n (k-n)) v++List.replicate (k-(n+min n (k-n))) 0:=by
     unfold Q9 j4;rw[b];simp only[Int.toNat_natCast];rw[List.take_left' Z',List.drop_left' Z'];simp only[length_replicate,List.take_replicate,List.drop_replicate];rw[Nat.min_comm (k-n) n,show k-(n+min n (k-n))=k-n-n from O',<-List.append_assoc,List.replicate_append_replicate]
    have f:c04 fuel (0,(k:Int)) [v] (List.replicate n v++List.replicate (k-n) 0,(n:Int))=some (.next (List.replicate (n+min n (k-n)) v++List.replicate (k-(n+min n (k-n))) 0,((n+min n (k-n):Nat):Int))):=by
     unfold c04;have s1:P3 (List.replicate n v++List.replicate (k-n) (0:Int)) (n:Int) (k:Int)=true:=by
      unfold P3;rw[hlen];simp;omega
     have s2:P3 (List.replicate n v++List.replicate (k-n) (0:Int)) 0 (n:Int)=true:=by
      unfold P3;rw[hlen];simp;omega
     have hd:(n:Int)<(k:Int):=O'
     have h:Nat.min n (k-n)<=n:=Nat.min_le_left _ _;simp only[hlen,hd,decide_true,if_true,s1,s2,d,b,length_replicate,Int.toNat_natCast];rw[E3 O' O'];rfl
    unfold iter;rw[f];exact ih (n+min n (k-n)) fu O' O' O' O'
 unfold k0k;have e:¬(k:Int)<0:=O'
 simp only[q0,e,hm,show ¬((0:Int)>0) from O',show ¬((k:Int)>9223372036854775807) from O',E3 (n:=(k:Int)) O' O',Int.toNat_natCast];rw[if_pos (show R2 8 (k:Int)=true by unfold R2;simp;omega)];rcases Nat.eq_zero_or_pos k with h0|h0
 ·subst h0;obtain⟨fu,rfl⟩:∃q,fuel=q+1:=⟨fuel-1,O'⟩
  simp[j4,iter,c04]
 ·have:=loop k 1 fuel O' O' O' O';have p:j4 (List.replicate k (0:Int)) [v]=List.replicate 1 v++List.replicate (k-1) 0:=by
   unfold j4;simp only[length_replicate,List.length_singleton,List.drop_replicate];rw[List.take_of_length_le V'];rfl
  have g:((Nat.min [v].length (List.replicate k (0:Int)).length:Nat):Int)=((1:Nat):Int):=by
   simp only[length_replicate,List.length_singleton];congr 1;exact min_eq_left h0
  rw[p,g,this];rfl
