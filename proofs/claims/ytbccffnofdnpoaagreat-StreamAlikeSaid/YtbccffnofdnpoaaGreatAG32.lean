/- P. Its conditions: none. -/
import Derived.Shelf.Sort.Plain
import Derived.Shelf.Slices.In.SortNone
import Derived.Ground.NamesProg
import Derived.Test.YtbccffnofdnpoaaGreatProg
import Derived.Test.YtbccffnofdnpoaaGreatAG28
import Derived.Carry
import Derived.Maps.Own
open Option (bind_eq_some_iff)
set_option linter.all false
namespace Go.Proofs
open Go.Shelf
def Tryz.A0O:Go.Shelf.Ren:=⟨fun|189=>146|125=>162|257=>161|128=>177|129=>178|294=>168|295=>169|296=>170|297=>171|298=>172|299=>173|216=>174|300=>175|301=>176|328=>188|329=>189|330=>190|331=>191|332=>192|215=>193|343=>197|n=>n,fun|28=>27|3=>3|46=>247|0=>0|51=>288|53=>112|4=>4|183=>313|182=>312|131=>163|5=>5|9=>9|218=>325|222=>233|228=>332|229=>333|n=>n,fun|n=>n⟩
def Tryz.M0d:Go.Proofs.Lays.n189 Tryz.prog Tryz.A0O:={
 mixed:=Y'
 f125:=Tryz.func162.trans (congrArg some Y')
 f128:=Tryz.func177.trans (congrArg some Y')
 f129:=Tryz.func178.trans (congrArg some Y')
 f189:=Tryz.func146.trans (congrArg some Y')
 f215:=Tryz.func193.trans (congrArg some Y')
 f216:=Tryz.func174.trans (congrArg some Y')
 f257:=Tryz.func161.trans (congrArg some Y')
 f294:=Tryz.func168.trans (congrArg some Y')
 f295:=Tryz.func169.trans (congrArg some Y')
 f296:=Tryz.func170.trans (congrArg some Y')
 f297:=Tryz.func171.trans (congrArg some Y')
 f298:=Tryz.func172.trans (congrArg some Y')
 f299:=Tryz.func173.trans (congrArg some Y')
 f300:=Tryz.func175.trans (congrArg some Y')
 f301:=Tryz.func176.trans (congrArg some Y')
 f328:=Tryz.func188.trans (congrArg some Y')
 f329:=Tryz.func189.trans (congrArg some Y')
 f330:=Tryz.func190.trans (congrArg some Y')
 f331:=Tryz.func191.trans (congrArg some Y')
 f332:=Tryz.func192.trans (congrArg some Y')
 f343:=Tryz.func197.trans (congrArg some Y')
 t0:=Tryz.underlying0
 a0:=Tryz.isAgg0
 z0:=Tryz.sizeOf0
 v0:=Tryz.zeroValue0
 t3:=Tryz.underlying3
 a3:=Tryz.isAgg3
 z3:=Tryz.sizeOf3
 v3:=Tryz.zeroValue3
 t4:=Tryz.underlying4
 a4:=Tryz.isAgg4
 z4:=Tryz.sizeOf4
 v4:=Tryz.zeroValue4
 t5:=Tryz.underlying5
 a5:=Tryz.isAgg5
 z5:=Tryz.sizeOf5
 v5:=Tryz.zeroValue5
 t9:=Tryz.underlying9
 a9:=Tryz.isAgg9
 z9:=Tryz.sizeOf9
 v9:=Tryz.zeroValue9
 t28:=Tryz.underlying27
 a28:=Tryz.isAgg27
 z28:=Tryz.sizeOf27
 v28:=Tryz.zeroValue27
 t46:=Tryz.underlying247
 a46:=Tryz.isAgg247
 z46:=Tryz.sizeOf247
 v46:=Tryz.zeroValue247
 t51:=Tryz.underlying288
 a51:=Tryz.isAgg288
 z51:=Tryz.sizeOf288
 v51:=Tryz.zeroValue288
 t53:=Tryz.underlying112
 a53:=Tryz.isAgg112
 z53:=Tryz.sizeOf112
 v53:=Tryz.zeroValue112
 t131:=Tryz.underlying163
 a131:=Tryz.isAgg163
 z131:=Tryz.sizeOf163
 v131:=Tryz.zeroValue163
 t182:=Tryz.underlying312
 a182:=Tryz.isAgg312
 z182:=Tryz.sizeOf312
 v182:=Tryz.zeroValue312
 t183:=Tryz.underlying313
 a183:=Tryz.isAgg313
 z183:=Tryz.sizeOf313
 v183:=Tryz.zeroValue313
 t218:=Tryz.underlying325
 a218:=Tryz.isAgg325
 z218:=Tryz.sizeOf325
 v218:=Tryz.zeroValue325
 t222:=Tryz.underlying233
 a222:=Tryz.isAgg233
 z222:=Tryz.sizeOf233
 v222:=Tryz.zeroValue233
 t228:=Tryz.underlying332
 a228:=Tryz.isAgg332
 z228:=Tryz.sizeOf332
 v228:=Tryz.zeroValue332
 t229:=Tryz.underlying333
 a229:=Tryz.isAgg333
 z229:=Tryz.sizeOf333
 v229:=Tryz.zeroValue333 }
end Go.Proofs
set_option maxRecDepth 100000
namespace Go.Proofs.YtbccffnofdnpoaaGreat
open Go.RowKit Go.Proofs
def u0c {B b:Nat}{c:List Value}{w w1:World}(h:Lib.IsBuilder 210 5 B b c w)(a:Below w.heap.size w w1):Lib.IsBuilder 210 5 B b c w1:=by
 have hg:w.grownBy w1 none:=⟨a.os,a.tape,a.output,a.size,fun k hk _=>a.block k hk⟩
 have key:∀p,Lib.BuilderAt 210 5 B b p c w->Lib.BuilderAt 210 5 B b p c w1:=by
  rintro p ⟨e,v,hbk,hown,hne⟩
  have d:b<w.heap.size:=(Array.getElem?_eq_some_iff.1 hbk).1;exact⟨e,v,(a.block b d).trans hbk,hown.kept hg (by cases f:v.ownBlock<;>simp),hne⟩
 rcases h with h|h
 ·exact .inl (key _ h)
 ·exact .inr (key _ h)
def o0z (w:World)(o:Obj):Below w.heap.size w (w.alloc o):=(Below.refl _ w).alloc (Nat.le_refl _) _
def o02 {B:Nat}{w w1 b:World}(h:Below B w w1)(c:B<=w1.heap.size)(a:Below w1.heap.size w1 b):Below B w b:=
 ⟨a.os.trans h.os,a.tape.trans h.tape,a.output.trans h.output,Nat.le_trans h.size a.size,fun k hk=>(a.block k (Nat.lt_of_lt_of_le hk c)).trans (h.block k hk)⟩
open Go.V hiding Row
open Go.X
def B0U {E:Env}{H:M0}{S:E0}{s:List Int}(h:s.length=4):(L0 E (.arr 4 (.int .u64))).R H S (s.map fun x=>Value.int .u64 x) s:=by
 refine⟨h,by rw[List.length_map];exact(Nat.mul_one _).symm,fun i (x:Int) hx=>?_⟩;have hi:i<s.length:=(List.getElem?_eq_some_iff.1 hx).1;have a:(s[i]:Int)=x:=Option.some.inj ((List.getElem?_eq_getElem hi).symm.trans hx);show((s.map fun x=>Value.int .u64 x).drop (i*1)).take 1=[.int .u64 x];rw[Nat.mul_one,List.drop_eq_getElem_cons (by simpa using hi)];simp[a]
def J07 {E:Env}{H:M0}{S:E0}{s:List Int}{c:List Value}(h:(L0 E (.arr 4 (.int .u64))).R H S c s):s.length=4/\c=s.map fun x=>Value.int .u64 x:=by
 obtain⟨h1,b,d⟩:=h;refine⟨h1,?_⟩;have b:c.length=s.length*1:=b;apply List.ext_getElem?;intro i
 by_cases hi:i<s.length
 ·have a:=d i s[i] (List.getElem?_eq_getElem hi);have a:(c.drop (i*1)).take 1=[.int .u64 s[i]]:=a;rw[Nat.mul_one]at a;have:=congrArg (fun l=>l[0]?) a;simp only[List.getElem?_take_of_lt (Nat.zero_lt_one),List.getElem?_drop,Nat.add_zero,List.getElem?_cons_zero]at this;rw[this];simp[hi]
 ·rw[List.getElem?_eq_none O',List.getElem?_eq_none Z']
def M0K {F:Nat}(h:N0 en (c06 F))(w:World){s:List Int}(hs:s.length=4){b:Int}{r:Bool}(hm:d0W F s b=some r):
  Calls Tryz.prog 89 #[.agg (s.map fun x=>Value.int .u64 x).toArray,.int .u8 b] w fun e w1=>e=.returned (.bool r)/\Below w.heap.size w w1:=by
 have a:G3 en w.heap (fun _=>False) [.d (.arr 4 (.int .u64)),.d (.int .u8)] ((s,b):List Int×Int) [.agg (s.map fun x=>Value.int .u64 x).toArray,.int .u8 b] []:=by
  refine a0f (x:=.d (.arr 4 (.int .u64))) (r:=[.d (.int .u8)]) ⟨s.map fun x=>Value.int .u64 x,_,[.int .u8 b],[],[],rfl,rfl,rfl,?_,?_⟩
  ·unfold SR;exact⟨rfl,B0U hs⟩
  ·refine a0f (x:=.d (.int .u8)) (r:=[]) ⟨[.int .u8 b],_,[],[],[],rfl,rfl,rfl,?_,a04⟩;unfold SR;exact⟨rfl,rfl⟩
 refine(h w (fun _=>False) _ [] ((s,b):List Int×Int) r hm a (fun _ h=>h.elim) (by rintro b ⟨v,c,_⟩;simp at c) (by intro i j v l _ c;simp at c)).mono ?_
 rintro e w1 ⟨v,S1,pl1,rfl,a,hb,hk,hs1,hs2,hap,hbl⟩
 have a:G3 en w1.heap S1 [.d .bool] r [v] pl1:=a;unfold G3 at a;obtain⟨c1,u,g,p1,n,e0,rfl,f,h1,m⟩:=a;cases e0;unfold SR at h1;obtain⟨rfl,h1⟩:=h1;have h1:c1=[.bool r]:=h1;subst h1;have f:v=.bool r:=f;subst f;exact⟨rfl,hb.os,hb.tape,hb.output,hb.size,fun k hk=>hb.block k hk (by rintro⟨v,c,_⟩;simp at c)⟩
def w8 (ks:List Bool):List UInt8:=ks.map fun x=>if x then 49 else 48
def z0G {F:Nat}{b:Int}:∀{l:List (List Int)} {ks:List Bool},e0d F b l=some ks->ks.length=l.length/\∀k<l.length,∃x,d0W F (gt l (k:Int)) b=some x/\ks[k]?=some x
 |[],ks,h=>by cases h;exact⟨rfl,fun k hk=>by simp at hk⟩
 |s :: r,ks,h=>by
  unfold e0d at h;obtain⟨x,h1,h⟩:=bind_eq_some_iff.1 h;obtain⟨y,a,h⟩:=bind_eq_some_iff.1 h;cases h;obtain⟨g1,g2⟩:=z0G a;refine⟨by simp[g1],fun k hk=>?_⟩;cases k with
  |zero=>exact⟨x,by rw[P2 (x:=s) V'];exact h1,V'⟩
  |succ k=>
   obtain⟨z,c,z2⟩:=g2 k (by simpa using hk);have d:r[k]?=some (gt r (k:Int)):=by
    rw[P2 (x:=r[k]'(by simpa using hk)) V'];simp
   refine⟨z,?_,by simpa using z2⟩;rw[P2 (x:=gt r (k:Int)) (by simpa using d)];exact c
def n0V {W:World}{b o:Nat}{v:Value}(h:D2 W.heap b o=some v):W.cell? ⟨b,o,none⟩=some v:=by
 unfold D2 at h;simp only[World.cell?];exact h
set_option maxHeartbeats 4000000 in
def D0h {F:Nat}(hh:N0 en (c06 F))(w:World)(b:Int)(l:List (List Int))(A:Option Addr)(c:Nat)
  (h:l≠[]->∃bb o,A=some ⟨bb,o,none⟩/\bb<w.heap.size/\∀k:Nat,k<l.length->(gt l (k:Int)).length=4/\∀j:Nat,j<4->D2 w.heap bb (o+k*4+j)=some (.int .u64 ((gt l (k:Int)).getD j 0)))
  {ks:List Bool} (hm:e0d F b l=some ks) (hlen:l.length<=1000000000):
  Calls Tryz.prog 57 #[.int .u8 b,.slice A l.length c] w fun e w1=>e=.returned (.string ⟨(w8 ks).toArray⟩)/\Below w.heap.size w w1:=by
 obtain⟨a1,v⟩:=z0G hm
 go_enter Tryz.func57,Tryz.ntmps57
 go_wp2
 go_loopw [10] (fun i wr=>∃k:Nat,k<=l.length/\i=.int .i64 k/\Lib.IsBuilder 210 5 w.heap.size w.heap.size (Lib.byteCells ((w8 ks).take k)) wr/\Below w.heap.size w wr) (fun i wr=>l.length-(intOf i).toNat)
 case atStart=>exact⟨0,Nat.zero_le _,rfl,Lib.fresh_isBuilder 210 5 w,o0z _ _⟩
 case round=>
  obtain⟨k,hk,rfl,C,p⟩:=hrel
  by_cases hd:k=l.length
  ·have d1:decide ((k:Int)<(l.length:Int))=false:=by simp;omega
   have r:=C;rw[show(w8 ks).take k=w8 ks from List.take_of_length_le (by unfold w8;simp;omega)]at r
   go_wp2_with (go_at_call 91;refine(Tryz.Builder_String_any w.heap.size w.heap.size _ _ r p.size).mono ?_)
   rintro e I ⟨rfl,hb2⟩
   go_wp2
   go_ret
   exact⟨rfl,p.trans hb2⟩
  ·have n:k<l.length:=O'
   have d1:decide ((k:Int)<(l.length:Int))=true:=by simp;omega
   obtain⟨bb,o,rfl,y,g⟩:=h (by intro e;simp[e]at n);obtain⟨U,g⟩:=g k n;obtain⟨x,hx,z⟩:=v k n;generalize gt l (k:Int)=s at *;obtain⟨J,s1,s2,R,rfl⟩:∃a b c d,s=[a,b,c,d]:=by
    match s,U with
    |[a,b,c,d],_=>exact⟨a,b,c,d,rfl⟩
   have f:wr.heap[bb]?=w.heap[bb]?:=p.block bb y;have c0:=g 0 O';have c1:=g 1 O';have c2:=g 2 O';have c3:=g 3 O';have e0:wr.cell? ⟨bb,o+k*4,none⟩=some (.int .u64 J):=n0V (by unfold D2 at c0 ⊢;rw[f];exact c0);have e1:wr.cell? ⟨bb,o+k*4+1,none⟩=some (.int .u64 s1):=n0V (by unfold D2 at c1 ⊢;rw[f];exact c1);have e2:wr.cell? ⟨bb,o+k*4+2,none⟩=some (.int .u64 s2):=n0V (by unfold D2 at c2 ⊢;rw[f];exact c2);have e3:wr.cell? ⟨bb,o+k*4+3,none⟩=some (.int .u64 R):=n0V (by unfold D2 at c3 ⊢;rw[f];exact c3);clear g c0 c1 c2 c3 h
   go_wp2_with (go_at_call 89;refine(M0K hh _ (s:=[J,s1,s2,R]) rfl hx).mono ?_)
   rintro e I ⟨rfl,hb2⟩
   have q:=u0c (u0c C (o0z wr _)) hb2;have m:Below w.heap.size w I:=o02 (o02 p p.size (o0z wr _)) (by have:=p.size;simp;omega) hb2;have u:(w8 ks).take (k+1)=(w8 ks).take k++[if x then 49 else 48]:=by
    rw[List.take_succ];unfold w8;rw[List.getElem?_map,z];cases x<;>rfl
   have t:(Lib.byteCells ((w8 ks).take k)).length+1<=140737488355328:=by rw[Lib.byteCells_length,List.length_take];omega
   cases x with
   |true=>
    go_wp2_with (go_at_call 90;refine(v04 w.heap.size w.heap.size _ 49 _ q t m.size).mono ?_)
    rintro e w3 ⟨rfl,hI3,hb4⟩
    go_wp2
    go_roundw
    case rel=>exact⟨k+1,O',by go_num,by rw[u,Lib.byteCells_append];exact .inr hI3,m.trans hb4⟩
    case measure=>simp[intOf];omega
   |false=>
    go_wp2_with (go_at_call 90;refine(v04 w.heap.size w.heap.size _ 48 _ q t m.size).mono ?_)
    rintro e w3 ⟨rfl,hI3,hb4⟩
    go_wp2
    go_roundw
    case rel=>exact⟨k+1,O',by go_num,by rw[u,Lib.byteCells_append];exact .inr hI3,m.trans hb4⟩
    case measure=>simp[intOf];omega
end Go.Proofs.YtbccffnofdnpoaaGreat
set_option maxRecDepth 100000
namespace Go.Proofs.YtbccffnofdnpoaaGreat
open Go.RowKit Go.Proofs
def a0m (k:List Bool):Value:=.string ⟨(w8 k).toArray⟩
def v01 (es:List MapEntry)(ks:List (List Bool))(d:Int):Prop:=es.length=ks.length/\∀i:Nat,∀h:i<ks.length,(es[i]?.map fun e=>(e.key,e.val))=some (a0m (ks[i]'h),.int .i64 (d+i))
def w0I:∀{a b:List Bool},w8 a=w8 b->a=b
 |[],[],_=>rfl
 |[],_ :: _,h=>by cases h
 |_ :: _,[],h=>by cases h
 |x :: a,y :: b,h=>by
  simp only[w8,List.map_cons,List.cons.injEq]at h;obtain⟨h1,c⟩:=h;have c:=w0I (a:=a) (b:=b) c;subst c;cases x<;>cases y<;>first|rfl|(exfalso;revert h1;decide)
def B0k (a b:List UInt8):((⟨a.toArray⟩:ByteArray)==⟨b.toArray⟩)=decide (a=b):=by
 show(a.toArray==b.toArray)=decide (a=b)
 by_cases h:a=b
 ·subst h;simp
 ·have:(a.toArray==b.toArray)=false:=by simpa using h
  rw[this];simp[h]
def z0x (a b:List Bool):((⟨(w8 a).toArray⟩:ByteArray)==⟨(w8 b).toArray⟩)=decide (a=b):=by
 rw[B0k]
 by_cases h:a=b
 ·subst h;simp
 ·have:¬w8 a=w8 b:=fun e=>h (w0I e);simp[h,this]
def s0s (k:List Bool):∀(es:List MapEntry) (ks:List (List Bool)) (d:Int),v01 es ks d->∀n:Nat,
  (ks.contains k=false/\Instr.findNow .string (a0m k) es n=some none)\/
  (ks.contains k=true/\ks.idxOf k<ks.length/\Instr.findNow .string (a0m k) es n=some (some (n+ks.idxOf k,.int .i64 (d+(ks.idxOf k:Nat)))))
 |[],ks,d,⟨h,_⟩,n=>by
  obtain rfl:ks=[]:=List.eq_nil_of_length_eq_zero h.symm;exact .inl ⟨rfl,rfl⟩
 |e :: es,[],d,⟨h,_⟩,n=>by simp at h
 |e :: es,x :: ks,d,⟨h,hg⟩,n=>by
  have g:=hg 0 V';simp only[List.getElem?_cons_zero,Option.map_some,Option.some.injEq,Prod.mk.injEq,List.getElem_cons_zero,Int.natCast_zero,Int.add_zero,a0m]at g;obtain⟨h1,j⟩:=g
  by_cases c:x=k
  ·subst c;refine .inr ⟨V',V',?_⟩;simp[Instr.findNow,Instr.sameNow,h1,j,a0m,z0x]
  ·have hs:Instr.sameNow .string (a0m k) e.key=some false:=by
    have:¬k=x:=fun e=>c e.symm;simp[Instr.sameNow,h1,a0m,z0x,this]
   have f:(x==k)=false:=by simpa using c
   have b:(k==x)=false:=by simp;exact fun e=>c e.symm
   rcases s0s k es ks (d+1) ⟨by simpa using h,fun i hi=>by
    have:=hg (i+1) (by simpa using hi);simp only[List.getElem?_cons_succ,List.getElem_cons_succ]at this;rw[this];congr 3;push_cast;omega⟩ (n+1)with⟨f1,f2⟩|⟨f1,f2,f3⟩
   ·refine .inl ⟨by simp only[List.contains_cons,b,f1];rfl,?_⟩;simp[Instr.findNow,hs,f2]
   ·have a:(x :: ks).idxOf k=ks.idxOf k+1:=by simp[List.idxOf_cons,f]
    refine .inr ⟨by simp only[List.contains_cons,b,f1];rfl,by rw[a];simpa using f2,?_⟩;rw[a];simp[Instr.findNow,hs,f3,Nat.add_assoc,Nat.add_comm 1];omega
end Go.Proofs.YtbccffnofdnpoaaGreat
set_option maxRecDepth 100000
namespace Go.Proofs.YtbccffnofdnpoaaGreat
open Go.RowKit Go.Proofs
open Go.V hiding Row
open Go.X
def E0Q:(Tryz.prog.info? 3).map (fun i=>(i.zero,i.size,i.bytes))=some (some (.int .i64 0),1,8):=Y'
def b0y (w:World)(r:Nat)(ks:List (List Bool)):Prop:=∃es clock,w.heap[r]?=some (.map es clock)/\v01 es.toList ks 0
def b0y.lt {w:World}{r:Nat}{ks:List (List Bool)}(h:b0y w r ks):r<w.heap.size:=by
 obtain⟨es,cl,he,_⟩:=h;exact(Array.getElem?_eq_some_iff.1 he).1
def b0y.old {w w1:World}{r:Nat}{ks:List (List Bool)}(h:b0y w r ks)(e:w1.heap[r]?=w.heap[r]?):b0y w1 r ks:=by
 obtain⟨es,cl,he,hm⟩:=h;exact⟨es,cl,e.trans he,hm⟩
def z01 {em:Bool}{a:TypeId}{k:ByteArray}(hk:Tryz.prog.underlying a=some .string)(w:World):(Instr.checkKey em 10000 a (.string k)).run Tryz.prog w=.ok () w:=by
 show(Instr.checkKey em (9999+1) a (.string k)).run Tryz.prog w=.ok () w;generalize 9999=q;simp[Instr.checkKey,run_underlying hk]
def D0o {w:World}{r:Nat}{ks:List (List Bool)}(h:b0y w r ks)(k:List Bool):
  (Instr.lookup 161 (.map (some r)) (a0m k) true).run Tryz.prog w=.ok (.tuple #[.int .i64 (if ks.contains k then(ks.idxOf k:Int)else 0),.bool (ks.contains k)]) w:=by
 obtain⟨es,cl,he,hm⟩:=h;have hg:(getObj r).run Tryz.prog w=.ok (.map es cl) w:=d0B he;have b:(zeroValue 3).run Tryz.prog w=.ok (.int .i64 0) w:=Tryz.zeroValue3 w;have a:∀em,(Instr.checkKey em 10000 9 (.string ⟨(w8 k).toArray⟩)).run Tryz.prog w=.ok () w:=fun em=>z01 Tryz.underlying9 w;rcases s0s k es.toList ks 0 hm 0 with⟨f1,f2⟩|⟨f1,f2,f3⟩
 ·rw[f1];unfold a0m at f2 ⊢;simp[Instr.lookup,run_underlying Tryz.underlying161,hg,a,Instr.findKey,run_underlying Tryz.underlying9,f2,b]
 ·rw[f1];unfold a0m at f3 ⊢;simp[Instr.lookup,run_underlying Tryz.underlying161,hg,a,Instr.findKey,run_underlying Tryz.underlying9,f3]
def F0r {w:World}{r:Nat}{ks:List (List Bool)}(h:b0y w r ks){k:List Bool}(hk:ks.contains k=false):
  ∃w1,(Instr.mapUpdate 161 (.map (some r)) (a0m k) (.int .i64 (ks.length:Int))).run Tryz.prog w=.ok () w1/\b0y w1 r (ks++[k])/\T6 r w w1:=by
 obtain⟨es,cl,he,hm⟩:=h;have hg:(getObj r).run Tryz.prog w=.ok (.map es cl) w:=d0B he;have b:∀em,(Instr.checkKey em 10000 9 (.string ⟨(w8 k).toArray⟩)).run Tryz.prog w=.ok () w:=fun em=>z01 Tryz.underlying9 w;rcases s0s k es.toList ks 0 hm 0 with⟨f1,f2⟩|⟨f1,f2,f3⟩
 ·refine⟨b0B w r (.map (es.push ⟨a0m k,.int .i64 (ks.length:Int),cl⟩) (cl+1)),?_,⟨_,_,v0a he,?_⟩,m0H w r _⟩
  ·unfold a0m at f2 ⊢;simp[Instr.mapUpdate,run_underlying Tryz.underlying161,hg,b,Instr.findKey,run_underlying Tryz.underlying9,f2,h01 he]
  ·obtain⟨h1,c⟩:=hm;refine⟨by simpa using h1,fun i hi=>?_⟩;rw[Array.toList_push];simp only[List.length_append,List.length_cons,List.length_nil]at hi
   by_cases a:i<ks.length
   ·rw[List.getElem?_append_left O',List.getElem_append_left a];exact c i a
   ·obtain rfl:i=ks.length:=O'
    rw[List.getElem?_append_right O'];simp[h1]
 ·rw[hk]at f1;cases f1
def v0m {w:World}{r:Nat}{ks:List (List Bool)}(h:b0y w r ks)(ty:TypeId):
  (Builtin.len_ #[161] ty #[.map (some r)]).run Tryz.prog w=.ok (.int .i64 (ks.length:Int)) w:=by
 obtain⟨es,cl,he,hm⟩:=h;have hg:(getObj r).run Tryz.prog w=.ok (.map es cl) w:=d0B he;have hl:es.size=ks.length:=by simpa using hm.1
 simp[Builtin.len_,run_underlying Tryz.underlying161,hg,hl]
 try rfl
def C0i {F:Nat}(d:N0 en (c06 F))(w:World)(b:Int)(l:List (List Int))(A:Option Addr)(c:Nat)
  (a:l≠[]->∃bb o,A=some ⟨bb,o,none⟩/\bb<w.heap.size/\∀k:Nat,k<l.length->(gt l (k:Int)).length=4/\∀j:Nat,j<4->D2 w.heap bb (o+k*4+j)=some (.int .u64 ((gt l (k:Int)).getD j 0)))
  {ks:List Bool} (hm:e0d F b l=some ks) (hlen:l.length<=1000000000):
  Calls Tryz.prog 57 #[.int .u8 b,.slice A l.length c] w fun e w1=>e=.returned (a0m ks)/\Below w.heap.size w w1:=D0h d w b l A c a hm hlen
set_option maxHeartbeats 4000000 in
def A0P {F:Nat}(hh:N0 en (c06 F))(w:World)(l:List (List Int))(A:Option Addr)(c:Nat)
  (J:l≠[]->∃bb o,A=some ⟨bb,o,none⟩/\bb<w.heap.size/\∀k:Nat,k<l.length->(gt l (k:Int)).length=4/\∀j:Nat,j<4->D2 w.heap bb (o+k*4+j)=some (.int .u64 ((gt l (k:Int)).getD j 0)))
  (st:Nat->List (List Bool)×List Int) (h0:st 0=([],[])) (hs:∀b<256,g0d F l (st b) b=some (st (b+1))) (e6:∀b,b<=256->(st b).1.length<=b/\(st b).2.length=b) (hlen:l.length<=1000000000):
  Calls Tryz.prog 36 #[.slice A l.length c] w fun e w1=>∃v,e=.returned (.tuple #[v,.int .i64 ((st 256).1.length:Int)])/\w1.ownsRow w.heap.size 3 1 v 256 ((st 256).2.map fun x=>Value.int .i64 x)/\Below w.heap.size w w1:=by
 obtain⟨i0,hi,c6,b4,b3⟩:=info_parts E0Q;have h9:∀w:World,(Instr.makeMap 161 none).run Tryz.prog w=.ok (.map (some w.heap.size)) (w.alloc (.map #[] 0)):=fun w=>run_makeMap 161 w
 go_enter Tryz.func36,Tryz.ntmps36
 go_wp2
 go_loopw [5,11] (fun v i wr=>∃k:Nat,k<=256/\i=.int .i64 k/\b0y wr w.heap.size (st k).1/\wr.ownsRow (w.heap.size+1) 3 1 v k ((st k).2.map fun x=>Value.int .i64 x)/\Below w.heap.size w wr) (fun _ i _=>256-(intOf i).toNat)
 case atStart=>exact⟨0,Nat.zero_le _,rfl,by rw[h0];exact⟨#[],0,(Go.MapKept.heap_alloc w _).1,rfl,fun i h=>by simp at h⟩,by rw[h0];exact World.ownsRow_nil _ _ _ _,o0z _ _⟩
 case round=>
  obtain⟨k,hk,rfl,U,R,hb⟩:=hrel;have h8:=hb.size;have h6:=U.lt
  by_cases hd:k=256
  ·subst hd;have e3:=v0m U
   go_wp2
   go_ret2
   refine⟨_,rfl,?_,hb⟩;obtain⟨h1,h2⟩:=R;refine⟨h1,?_⟩;rcases h2 with h2|⟨g,cap,cur,h3,h4,h5⟩
   ·exact .inl h2
   ·exact .inr ⟨g,cap,cur,h3,O',h5⟩
  ·have e4:k<256:=O'
   have d1:decide ((k:Int)<256)=true:=by simp;omega
   have d2:IntKind.wrap .u8 (k:Int)=(k:Int):=by simp[IntKind.wrap,IntKind.bits,IntKind.signed];omega
   have d:=hs k e4;obtain⟨l1,l2⟩:=e6 k hk;unfold g0d at d;obtain⟨kk,e9,d⟩:=bind_eq_some_iff.1 d;have t:l≠[]->∃bb o,A=some ⟨bb,o,none⟩/\bb<wr.heap.size/\∀k:Nat,k<l.length->(gt l (k:Int)).length=4/\∀j:Nat,j<4->D2 wr.heap bb (o+k*4+j)=some (.int .u64 ((gt l (k:Int)).getD j 0)):=fun e7=>by
    obtain⟨bb,o,hA,h1,h2⟩:=J e7;refine⟨bb,o,hA,O',fun q hq=>⟨(h2 q hq).1,fun j y=>?_⟩⟩;have:=(h2 q hq).2 j y;unfold D2 at this ⊢;rw[hb.block bb h1];exact this
   go_wp2_with (go_at_call 57;refine(C0i hh wr (k:Int) l A c t e9 hlen).mono ?_)
   rintro e w2 ⟨rfl,hb2⟩
   have p:=U.old (hb2.block _ h6);have I:Below w.heap.size w w2:=o02 hb hb.size hb2;have n:w2.ownsRow (w.heap.size+1) 3 1 u5 k ((st k).2.map fun x=>Value.int .i64 x):=World.ownsRow.kept (row:=none) R ⟨hb2.os,hb2.tape,hb2.output,hb2.size,fun k hk _=>hb2.block k hk⟩ (by cases hv:u5.ownBlock<;>simp);have C:=D0o p kk;clear J t U R;cases hc:(st k).1.contains kk with
   |true=>
    rw[hc]at C d;simp only[if_true]at C d;have d:=Option.some.inj d;generalize h7:((st k).1.idxOf kk:Int)=ix at *
    go_wp2_with (at_builtin;refine wpList_append_own _ rfl _ _ 27 rfl (w.heap.size+1) 3 i0 (.int .i64 0) 1 8 Tryz.underlying27 hi c6 b4 b3 rfl (by decide) _ _ _ rfl (n.alloc _) ⟨w2.heap.size,0,none⟩ 1 1 [.int .i64 ix] rfl rfl ?c1 ?c2 ?c3 ?c4 ?c5 ?_)
    case c1=>
     intro j u y
     match j,y with
     |0,y=>simp at y;subst y;simp[Addr.add]
    case c2=>intro u hu;simp at hu;subst hu;rfl
    case c3=>unfold maxLen;omega
    case c4=>omega
    case c5=>have:=I.size;simp;omega
    intro v' w3 f m _;have r:b0y w3 w.heap.size (st k).1:=(p.old (Below.heap_alloc _ _ _ p.lt)).old (m.block _ (by simp;exact Nat.lt_succ_of_lt p.lt) (fun e=>by have:=(n.lt _ e.symm).1;omega));have z:Below w.heap.size w w3:=(I.alloc I.size _).grown m (by have:=I.size;simp;omega) (fun g hg=>by have:=(n.lt g hg).1;omega);clear m n p C;have e1:(st (k+1)).1=(st k).1:=by rw[<-d]
    have e2:(st (k+1)).2=(st k).2++[ix]:=by rw[<-d]
    have s:w3.ownsRow (w.heap.size+1) 3 1 v' (k+1) ((st (k+1)).2.map fun x=>Value.int .i64 x):=by rw[e2,List.map_append];exact f
    rw[<-e1]at r;clear f d e1 e2
    go_wp2
    go_roundw
    case rel=>exact⟨k+1,O',by go_num,r,s,z⟩
    case measure=>simp[intOf];omega
   |false=>
    rw[hc]at C d;simp only[if_false,Bool.false_eq_true]at C d;have d:=Option.some.inj d;obtain⟨w3,e5,r,a⟩:=F0r p hc;have b2:=v0m p;have z:Below w.heap.size w w3:=I.trans ⟨a.os,a.tape,a.output,a.size,fun j y=>a.block j (by have:=I.size;omega) O'⟩;have f:w3.ownsRow (w.heap.size+1) 3 1 u5 k ((st k).2.map fun x=>Value.int .i64 x):=World.ownsRow.kept (row:=some w.heap.size) n ⟨a.os,a.tape,a.output,a.size,fun j y hn=>a.block j y (fun e=>hn (by rw[e]))⟩ (.inr (fun e=>by have:=(n.lt _ e).1;omega));clear n p a;generalize h7:((st k).1.length:Int)=ix at *
    go_wp2_with (at_builtin;refine wpList_append_own _ rfl _ _ 27 rfl (w.heap.size+1) 3 i0 (.int .i64 0) 1 8 Tryz.underlying27 hi c6 b4 b3 rfl (by decide) _ _ _ rfl (f.alloc _) ⟨w3.heap.size,0,none⟩ 1 1 [.int .i64 ix] rfl rfl ?c1 ?c2 ?c3 ?c4 ?c5 ?_)
    case c1=>
     intro j u y
     match j,y with
     |0,y=>simp at y;subst y;simp[Addr.add]
    case c2=>intro u hu;simp at hu;subst hu;rfl
    case c3=>unfold maxLen;omega
    case c4=>omega
    case c5=>have:=z.size;simp;omega
    intro v' w4 s m _;have a1:b0y w4 w.heap.size ((st k).1++[kk]):=(r.old (Below.heap_alloc _ _ _ r.lt)).old (m.block _ (by simp;exact Nat.lt_succ_of_lt r.lt) (fun e=>by have:=(f.lt _ e.symm).1;omega));have c8:Below w.heap.size w w4:=(z.alloc z.size _).grown m (by have:=z.size;simp;omega) (fun g hg=>by have:=(f.lt g hg).1;omega);clear m f r C e5 b2;have e1:(st (k+1)).1=(st k).1++[kk]:=by rw[<-d]
    have e2:(st (k+1)).2=(st k).2++[ix]:=by rw[<-d]
    have b1:w4.ownsRow (w.heap.size+1) 3 1 v' (k+1) ((st (k+1)).2.map fun x=>Value.int .i64 x):=by rw[e2,List.map_append];exact s
    rw[<-e1]at a1;clear s d e1 e2
    go_wp2
    go_roundw
    case rel=>exact⟨k+1,O',by go_num,a1,b1,c8⟩
    case measure=>simp[intOf];omega
def w0S {α:Type}(f:α->Nat->Option α)(a:α):∀(n:Nat) (y:α),(List.range n).foldlM f a=some y->∃st:Nat->α,st 0=a/\(∀b<n,f (st b) b=some (st (b+1)))/\st n=y
 |0,y,h=>⟨fun _=>a,rfl,fun b e=>O',by simpa using h⟩
 |n+1,y,h=>by
  rw[List.range_succ,List.foldlM_append]at h;obtain⟨z,h1,c⟩:=bind_eq_some_iff.1 h;obtain⟨st,g1,g2,g3⟩:=w0S f a n z h1;have c:f z n=some y:=by simpa using c
  refine⟨fun b=>if b<=n then st b else y,by simp[g1],fun b e=>?_,by simp only[show ¬n+1<=n from O',if_false]⟩
  by_cases d:b<n
  ·simp only[show b<=n from O',show b+1<=n from O',if_true];exact g2 b d
  ·obtain rfl:b=n:=O'
   simp only[Nat.le_refl,if_true,show ¬b+1<=b from O',if_false];rw[g3];exact c
def J0I {F:Nat}{l:List (List Int)}{s t:List (List Bool)×List Int}{b:Nat}(h:g0d F l s b=some t)(h1:s.1.length<=b)(a:s.2.length=b):t.1.length<=b+1/\t.2.length=b+1:=by
 unfold g0d at h;obtain⟨k,_,h⟩:=bind_eq_some_iff.1 h;split at h
 ·cases h;exact⟨Z',by simp[a]⟩
 ·cases h;exact⟨Z',by simp[a]⟩
def v0c {E:Env}{H:M0}{S:E0}{t:U}{x:H6 E.D (.d t)}{c:List Value}(h:(L0 E t).R H S c x):SR E H S (.d t) x c []:=by
 unfold SR;exact⟨rfl,h⟩
def E09 {H:M0}{S:E0}{c:List Value}{l:List (List Int)}(h:(L0 en (.list (.arr 4 (.int .u64)))).R H S c l):∃A f,c=[.slice A l.length f]/\
  (l≠[]->∃bb o,A=some ⟨bb,o,none⟩/\bb<H.size/\∀k:Nat,k<l.length->(gt l (k:Int)).length=4/\∀j:Nat,j<4->D2 H bb (o+k*4+j)=some (.int .u64 ((gt l (k:Int)).getD j 0))):=by
 obtain⟨A,f,rfl,d⟩:=(show(I3 (L0 en (.arr 4 (.int .u64)))).R H S c l from h)
 refine⟨A,f,rfl,fun g=>?_⟩;obtain⟨b,o,rfl,m,_⟩:=d.2.1 g;refine⟨b,o,rfl,m,fun k hk=>?_⟩;have hg:l[k]?=some (gt l (k:Int)):=by rw[P2 (x:=l[k]) (by simp[hk])];simp[hk]
 obtain⟨b',n,cs,e,hR,a⟩:=d.2.2 k (show List Int from gt l (k:Int)) hg;cases e;obtain⟨i,rfl⟩:=J07 hR;refine⟨i,fun j p=>?_⟩;have:=a j (.int .u64 ((gt l (k:Int)).getD j 0)) (by
  rw[List.getElem?_map,List.getD_eq_getElem?_getD];rw[List.getElem?_eq_getElem O'];rfl)
 exact this
def O0p {w w1:World}{S:E0}{v:Value}{xs:List Int}{n:Nat}(h:w1.ownsRow w.heap.size 3 1 v n (xs.map fun x=>Value.int .i64 x))(f:∀b,S b->b<w.heap.size):(L0 en (.list (.int .i64))).R w1.heap S [v] xs:=by
 obtain⟨hl,h⟩:=h;obtain rfl:xs.length=n:=by simpa using hl
 rcases h with⟨rfl,e⟩|⟨g,cap,cur,rfl,hb,hg,hc,hm,hs,ht⟩
 ·obtain rfl:xs=[]:=List.eq_nil_of_length_eq_zero e;exact⟨none,0,rfl,Nat.le_refl _,fun h=>absurd rfl h,fun i x a=>by cases a⟩
 ·refine⟨some ⟨g,0,none⟩,cap,rfl,hc,fun _=>⟨g,0,rfl,(Array.getElem?_eq_some_iff.1 hg).1,fun h=>by have:=f g h;omega⟩,fun i (x:Int) a=>⟨g,0,[.int .i64 x],rfl,rfl,fun j v d=>?_⟩⟩;have hi:i<xs.length:=(List.getElem?_eq_some_iff.1 a).1;obtain rfl:j=0:=by
   cases j with
   |zero=>rfl
   |succ j=>simp at d
  simp at d;subst d;have h1:(cur.toList.take (xs.length*1))[i]?=some (.int .i64 x):=by
   rw[ht,List.getElem?_map];have c:xs[i]?=some x:=a;rw[c];rfl
  rw[List.getElem?_take_of_lt O']at h1;show D2 w1.heap g (0+i*1+0)=_;unfold D2;rw[hg,Nat.zero_add,Nat.mul_one,Nat.add_zero];simpa using h1
def F0D (F:Nat)(hh:N0 en (c06 F)):N0 en (t0n F):=by
 intro w S us pl x y hm f t I J;have f:G3 en w.heap S [.d (.list (.arr 4 (.int .u64)))] x us pl:=f;unfold G3 at f;obtain⟨c,u,b1,p1,p2,rfl,rfl,n,h1,h2⟩:=f;obtain⟨rfl,rfl⟩:=c0y h2;unfold SR at h1;obtain⟨rfl,h1⟩:=h1;obtain⟨A,s,rfl,g⟩:=E09 h1;have n:u=.slice A (show List (List Int)from x).length s:=n;subst n;have hm:g0n F x=some y:=hm;unfold g0n at hm;split at hm
 rotate_left
 ·cases hm
 rename_i hlen;obtain⟨a1,C,hm⟩:=bind_eq_some_iff.1 hm;cases hm;obtain⟨st,g1,g2,rfl⟩:=w0S _ _ _ _ C;have q:∀b,b<=256->(st b).1.length<=b/\(st b).2.length=b:=by
  intro b a
  induction b with
  |zero=>rw[g1];simp
  |succ b ih=>
   obtain⟨U,i2⟩:=ih O';exact J0I (g2 b O') U i2
 refine(A0P hh w x A s g st g1 g2 q (of_decide_eq_true hlen)).mono ?_
 rintro e w1 ⟨v,rfl,hown,a⟩
 refine⟨_,S,[],rfl,?_,⟨a.os,a.tape,a.output,a.size,fun k hk _=>a.block k hk⟩,⟨a.size,fun b p hn=>⟨hn,a.block b p⟩⟩,fun b h _=>h,fun b h=>Nat.lt_of_lt_of_le (t b h) a.size,by intro i j v v' _ l;simp at l,by rintro b ⟨v,l,_⟩;simp at l⟩;have z:=O0p (S:=S) hown t;obtain⟨m,c2,l⟩:∃m c2,v=.slice m (st 256).2.length c2:=by
  obtain⟨m,c2,l,_⟩:=(show(I3 (L0 en (.int .i64))).R w1.heap S [v] (st 256).2 from z)
  exact⟨m,c2,(List.cons.inj l).1⟩
 have o:G3 en w1.heap S [.d (.list (.int .i64)),.d (.int .i64)] (((st 256).2,((st 256).1.length:Int)):List Int×Int) [v,.int .i64 ((st 256).1.length:Int)] []:=by
  refine a0f (x:=.d (.list (.int .i64))) (r:=[.d (.int .i64)]) ⟨[v],v,[.int .i64 ((st 256).1.length:Int)],[],[],rfl,rfl,rfl,v0c z,?_⟩;exact a0f (x:=.d (.int .i64)) (r:=[]) ⟨[.int .i64 ((st 256).1.length:Int)],_,[],[],[],rfl,rfl,rfl,v0c rfl,a04⟩
 refine a0f (E:=en) (x:=.tup [.d (.list (.int .i64)),.d (.int .i64)]) (r:=[]) ⟨[.tuple #[v,.int .i64 ((st 256).1.length:Int)]],_,[],[],[],rfl,rfl,rfl,?_,a04⟩;unfold SR;exact⟨[v,.int .i64 ((st 256).1.length:Int)],rfl,o⟩
