/- P. Its conditions: none. -/
import Derived.Test.YtihmgaccbcfgjaaGreatRG27
import Derived.Carry
import Derived.Maps.Own
import Derived.Test.YtihmgaccbcfgjaaGreatRG21
import Derived.Test.YtihmgaccbcfgjaaGreatRG22
import Derived.Test.YtihmgaccbcfgjaaGreatRG23
import Derived.Test.YtihmgaccbcfgjaaGreatRX16
import Derived.Test.YtihmgaccbcfgjaaGreatRX17
import Derived.Test.YtihmgaccbcfgjaaGreatRG28
import Derived.Test.YtihmgaccbcfgjaaGreatRJn
import Derived.Test.YtihmgaccbcfgjaaGreatRG01
import Derived.ProofKit
import Derived.SizedLaws
import Derived.OpenShut
open Option (bind_eq_some_iff)
set_option linter.all false
set_option maxRecDepth 100000
namespace Go.Proofs.YtihmgaccbcfgjaaGreat
open Go.RowKit Go.Proofs
def u0h {B b:Nat}{c:List Value}{w w1:World}(h:Lib.IsBuilder 213 5 B b c w)(a:Below w.heap.size w w1):Lib.IsBuilder 213 5 B b c w1:=by
 have hg:w.grownBy w1 none:=⟨a.os,a.tape,a.output,a.size,fun k hk _=>a.block k hk⟩
 have key:∀p,Lib.BuilderAt 213 5 B b p c w->Lib.BuilderAt 213 5 B b p c w1:=by
  rintro p ⟨f,v,hbk,hown,hne⟩
  have d:b<w.heap.size:=(Array.getElem?_eq_some_iff.1 hbk).1;exact⟨f,v,(a.block b d).trans hbk,hown.kept hg (by cases g:v.ownBlock<;>simp),hne⟩
 rcases h with h|h
 ·exact .inl (key _ h)
 ·exact .inr (key _ h)
def i09 (w:World)(o:Obj):Below w.heap.size w (w.alloc o):=(Below.refl _ w).alloc (Nat.le_refl _) _
def m0w {B:Nat}{w w1 b:World}(h:Below B w w1)(c:B<=w1.heap.size)(a:Below w1.heap.size w1 b):Below B w b:=
 ⟨a.os.trans h.os,a.tape.trans h.tape,a.output.trans h.output,Nat.le_trans h.size a.size,fun k hk=>(a.block k (Nat.lt_of_lt_of_le hk c)).trans (h.block k hk)⟩
open Go.V hiding Row
open Go.X
def G0d {E:Env}{H:I0}{S:D0}{s:List Int}(h:s.length=4):(J0 E (.arr 4 (.int .u64))).R H S (s.map fun x=>Value.int .u64 x) s:=by
 refine⟨h,by rw[List.length_map];exact(Nat.mul_one _).symm,fun i (x:Int) hx=>?_⟩;have hi:i<s.length:=(List.getElem?_eq_some_iff.1 hx).1;have a:(s[i]:Int)=x:=Option.some.inj ((List.getElem?_eq_getElem hi).symm.trans hx);show((s.map fun x=>Value.int .u64 x).drop (i*1)).take 1=[.int .u64 x];rw[Nat.mul_one,List.drop_eq_getElem_cons (by simpa using hi)];simp[a]
def G0c {E:Env}{H:I0}{S:D0}{s:List Int}{c:List Value}(h:(J0 E (.arr 4 (.int .u64))).R H S c s):s.length=4/\c=s.map fun x=>Value.int .u64 x:=by
 obtain⟨h1,b,d⟩:=h;refine⟨h1,?_⟩;have b:c.length=s.length*1:=b;apply List.ext_getElem?;intro i
 by_cases hi:i<s.length
 ·have a:=d i s[i] (List.getElem?_eq_getElem hi);have a:(c.drop (i*1)).take 1=[.int .u64 s[i]]:=a;rw[Nat.mul_one]at a;have:=congrArg (fun l=>l[0]?) a;simp only[List.getElem?_take_of_lt (Nat.zero_lt_one),List.getElem?_drop,Nat.add_zero,List.getElem?_cons_zero]at this;rw[this];simp[hi]
 ·rw[List.getElem?_eq_none O',List.getElem?_eq_none V']
def x0M {F:Nat}(h:U0 en (d0m F))(w:World){s:List Int}(hs:s.length=4){b:Int}{r:Bool}(hm:e0H F s b=some r):
  Calls Tryz.prog 168 #[.agg (s.map fun x=>Value.int .u64 x).toArray,.int .u8 b] w fun e w1=>e=.returned (.bool r)/\Below w.heap.size w w1:=by
 have a:E2 en w.heap (fun _=>False) [.d (.arr 4 (.int .u64)),.d (.int .u8)] ((s,b):List Int×Int) [.agg (s.map fun x=>Value.int .u64 x).toArray,.int .u8 b] []:=by
  refine U9 (x:=.d (.arr 4 (.int .u64))) (r:=[.d (.int .u8)]) ⟨s.map fun x=>Value.int .u64 x,_,[.int .u8 b],[],[],rfl,rfl,rfl,?_,?_⟩
  ·unfold SR;exact⟨rfl,G0d hs⟩
  ·refine U9 (x:=.d (.int .u8)) (r:=[]) ⟨[.int .u8 b],_,[],[],[],rfl,rfl,rfl,?_,a0M⟩;unfold SR;exact⟨rfl,rfl⟩
 refine(h w (fun _=>False) _ [] ((s,b):List Int×Int) r hm a (fun _ h=>h.elim) (by rintro b ⟨v,c,_⟩;simp at c) (by intro i j v n _ c;simp at c)).mono ?_
 rintro e w1 ⟨v,S1,pl1,rfl,a,hb,hk,hs1,hs2,hap,hbl⟩
 have a:E2 en w1.heap S1 [.d .bool] r [v] pl1:=a;unfold E2 at a;obtain⟨c1,u,g,p1,m,e0,rfl,f,h1,l⟩:=a;cases e0;unfold SR at h1;obtain⟨rfl,h1⟩:=h1;have h1:c1=[.bool r]:=h1;subst h1;have f:v=.bool r:=f;subst f;exact⟨rfl,hb.os,hb.tape,hb.output,hb.size,fun k hk=>hb.block k hk (by rintro⟨v,c,_⟩;simp at c)⟩
def Z7 (ks:List Bool):List UInt8:=ks.map fun x=>if x then 49 else 48
def r0C {F:Nat}{b:Int}:∀{l:List (List Int)} {ks:List Bool},d0l F b l=some ks->ks.length=l.length/\∀k<l.length,∃x,e0H F (gt l (k:Int)) b=some x/\ks[k]?=some x
 |[],ks,h=>by cases h;exact⟨rfl,fun k hk=>by simp at hk⟩
 |s :: r,ks,h=>by
  unfold d0l at h;obtain⟨x,h1,h⟩:=bind_eq_some_iff.1 h;obtain⟨y,c,h⟩:=bind_eq_some_iff.1 h;cases h;obtain⟨g1,g2⟩:=r0C c;refine⟨by simp[g1],fun k hk=>?_⟩;cases k with
  |zero=>exact⟨x,by rw[X2 (x:=s) Z'];exact h1,Z'⟩
  |succ k=>
   obtain⟨z,d,z2⟩:=g2 k (by simpa using hk);have a:r[k]?=some (gt r (k:Int)):=by
    rw[X2 (x:=r[k]'(by simpa using hk)) Z'];simp
   refine⟨z,?_,by simpa using z2⟩;rw[X2 (x:=gt r (k:Int)) (by simpa using a)];exact d
def j0b {W:World}{b o:Nat}{v:Value}(h:O1 W.heap b o=some v):W.cell? ⟨b,o,none⟩=some v:=by
 unfold O1 at h;simp only[World.cell?];exact h
set_option maxHeartbeats 4000000 in
def D08 {F:Nat}(hh:U0 en (d0m F))(w:World)(b:Int)(l:List (List Int))(A:Option Addr)(c:Nat)
  (h:l≠[]->∃bb o,A=some ⟨bb,o,none⟩/\bb<w.heap.size/\∀k:Nat,k<l.length->(gt l (k:Int)).length=4/\∀j:Nat,j<4->O1 w.heap bb (o+k*4+j)=some (.int .u64 ((gt l (k:Int)).getD j 0)))
  {ks:List Bool} (hm:d0l F b l=some ks) (hlen:l.length<=1000000000):
  Calls Tryz.prog 145 #[.int .u8 b,.slice A l.length c] w fun e w1=>e=.returned (.string ⟨(Z7 ks).toArray⟩)/\Below w.heap.size w w1:=by
 obtain⟨a1,z⟩:=r0C hm
 go_enter Tryz.func145,Tryz.ntmps145
 go_wp2
 go_loopw [10] (fun i wr=>∃k:Nat,k<=l.length/\i=.int .i64 k/\Lib.IsBuilder 213 5 w.heap.size w.heap.size (Lib.byteCells ((Z7 ks).take k)) wr/\Below w.heap.size w wr) (fun i wr=>l.length-(intOf i).toNat)
 case atStart=>exact⟨0,Nat.zero_le _,rfl,Lib.fresh_isBuilder 213 5 w,i09 _ _⟩
 case round=>
  obtain⟨k,hk,rfl,hI,p⟩:=hrel
  by_cases hd:k=l.length
  ·have d1:decide ((k:Int)<(l.length:Int))=false:=by simp;omega
   have q:=hI;rw[show(Z7 ks).take k=Z7 ks from List.take_of_length_le (by unfold Z7;simp;omega)]at q
   go_wp2_with (go_at_call 170;refine(Tryz.Builder_String_any w.heap.size w.heap.size _ _ q p.size).mono ?_)
   rintro e U ⟨rfl,hb2⟩
   go_wp2
   go_ret
   exact⟨rfl,p.trans hb2⟩
  ·have n:k<l.length:=O'
   have d1:decide ((k:Int)<(l.length:Int))=true:=by simp;omega
   obtain⟨bb,o,rfl,I,g⟩:=h (by intro e;simp[e]at n);obtain⟨h4,g⟩:=g k n;obtain⟨x,hx,y⟩:=z k n;generalize gt l (k:Int)=s at *;obtain⟨R,s1,s2,J,rfl⟩:∃a b c d,s=[a,b,c,d]:=by
    match s,h4 with
    |[a,b,c,d],_=>exact⟨a,b,c,d,rfl⟩
   have f:wr.heap[bb]?=w.heap[bb]?:=p.block bb I;have C:=g 0 O';have c1:=g 1 O';have c2:=g 2 O';have c3:=g 3 O';have e0:wr.cell? ⟨bb,o+k*4,none⟩=some (.int .u64 R):=j0b (by unfold O1 at C ⊢;rw[f];exact C);have e1:wr.cell? ⟨bb,o+k*4+1,none⟩=some (.int .u64 s1):=j0b (by unfold O1 at c1 ⊢;rw[f];exact c1);have e2:wr.cell? ⟨bb,o+k*4+2,none⟩=some (.int .u64 s2):=j0b (by unfold O1 at c2 ⊢;rw[f];exact c2);have e3:wr.cell? ⟨bb,o+k*4+3,none⟩=some (.int .u64 J):=j0b (by unfold O1 at c3 ⊢;rw[f];exact c3);clear g C c1 c2 c3 h
   go_wp2_with (go_at_call 168;refine(x0M hh _ (s:=[R,s1,s2,J]) rfl hx).mono ?_)
   rintro e U ⟨rfl,hb2⟩
   have u:=u0h (u0h hI (i09 wr _)) hb2;have m:Below w.heap.size w U:=m0w (m0w p p.size (i09 wr _)) (by have:=p.size;simp;omega) hb2;have v:(Z7 ks).take (k+1)=(Z7 ks).take k++[if x then 49 else 48]:=by
    rw[List.take_succ];unfold Z7;rw[List.getElem?_map,y];cases x<;>rfl
   have r:(Lib.byteCells ((Z7 ks).take k)).length+1<=140737488355328:=by rw[Lib.byteCells_length,List.length_take];omega
   cases x with
   |true=>
    go_wp2_with (go_at_call 169;refine(v0Z w.heap.size w.heap.size _ 49 _ u r m.size).mono ?_)
    rintro e w3 ⟨rfl,hI3,hb4⟩
    go_wp2
    go_roundw
    case rel=>exact⟨k+1,O',by go_num,by rw[v,Lib.byteCells_append];exact .inr hI3,m.trans hb4⟩
    case measure=>simp[intOf];omega
   |false=>
    go_wp2_with (go_at_call 169;refine(v0Z w.heap.size w.heap.size _ 48 _ u r m.size).mono ?_)
    rintro e w3 ⟨rfl,hI3,hb4⟩
    go_wp2
    go_roundw
    case rel=>exact⟨k+1,O',by go_num,by rw[v,Lib.byteCells_append];exact .inr hI3,m.trans hb4⟩
    case measure=>simp[intOf];omega
end Go.Proofs.YtihmgaccbcfgjaaGreat
set_option maxRecDepth 100000
namespace Go.Proofs.YtihmgaccbcfgjaaGreat
open Go.RowKit Go.Proofs
def a0s (k:List Bool):Value:=.string ⟨(Z7 k).toArray⟩
def r0P (es:List MapEntry)(ks:List (List Bool))(d:Int):Prop:=es.length=ks.length/\∀i:Nat,∀h:i<ks.length,(es[i]?.map fun e=>(e.key,e.val))=some (a0s (ks[i]'h),.int .i64 (d+i))
def v0e:∀{a b:List Bool},Z7 a=Z7 b->a=b
 |[],[],_=>rfl
 |[],_ :: _,h=>by cases h
 |_ :: _,[],h=>by cases h
 |x :: a,y :: b,h=>by
  simp only[Z7,List.map_cons,List.cons.injEq]at h;obtain⟨h1,c⟩:=h;have c:=v0e (a:=a) (b:=b) c;subst c;cases x<;>cases y<;>first|rfl|(exfalso;revert h1;decide)
def A0W (a b:List UInt8):((⟨a.toArray⟩:ByteArray)==⟨b.toArray⟩)=decide (a=b):=by
 show(a.toArray==b.toArray)=decide (a=b)
 by_cases h:a=b
 ·subst h;simp
 ·have:(a.toArray==b.toArray)=false:=by simpa using h
  rw[this];simp[h]
def r0H (a b:List Bool):((⟨(Z7 a).toArray⟩:ByteArray)==⟨(Z7 b).toArray⟩)=decide (a=b):=by
 rw[A0W]
 by_cases h:a=b
 ·subst h;simp
 ·have:¬Z7 a=Z7 b:=fun e=>h (v0e e);simp[h,this]
def n0Q (k:List Bool):∀(es:List MapEntry) (ks:List (List Bool)) (d:Int),r0P es ks d->∀n:Nat,
  (ks.contains k=false/\Instr.findNow .string (a0s k) es n=some none)\/
  (ks.contains k=true/\ks.idxOf k<ks.length/\Instr.findNow .string (a0s k) es n=some (some (n+ks.idxOf k,.int .i64 (d+(ks.idxOf k:Nat)))))
 |[],ks,d,⟨h,_⟩,n=>by
  obtain rfl:ks=[]:=List.eq_nil_of_length_eq_zero h.symm;exact .inl ⟨rfl,rfl⟩
 |e :: es,[],d,⟨h,_⟩,n=>by simp at h
 |e :: es,x :: ks,d,⟨h,hg⟩,n=>by
  have g:=hg 0 Z';simp only[List.getElem?_cons_zero,Option.map_some,Option.some.injEq,Prod.mk.injEq,List.getElem_cons_zero,Int.natCast_zero,Int.add_zero,a0s]at g;obtain⟨h1,j⟩:=g
  by_cases c:x=k
  ·subst c;refine .inr ⟨Z',Z',?_⟩;simp[Instr.findNow,Instr.sameNow,h1,j,a0s,r0H]
  ·have hs:Instr.sameNow .string (a0s k) e.key=some false:=by
    have:¬k=x:=fun e=>c e.symm;simp[Instr.sameNow,h1,a0s,r0H,this]
   have f:(x==k)=false:=by simpa using c
   have b:(k==x)=false:=by simp;exact fun e=>c e.symm
   rcases n0Q k es ks (d+1) ⟨by simpa using h,fun i hi=>by
    have:=hg (i+1) (by simpa using hi);simp only[List.getElem?_cons_succ,List.getElem_cons_succ]at this;rw[this];congr 3;push_cast;omega⟩ (n+1)with⟨f1,f2⟩|⟨f1,f2,f3⟩
   ·refine .inl ⟨by simp only[List.contains_cons,b,f1];rfl,?_⟩;simp[Instr.findNow,hs,f2]
   ·have a:(x :: ks).idxOf k=ks.idxOf k+1:=by simp[List.idxOf_cons,f]
    refine .inr ⟨by simp only[List.contains_cons,b,f1];rfl,by rw[a];simpa using f2,?_⟩;rw[a];simp[Instr.findNow,hs,f3,Nat.add_assoc,Nat.add_comm 1];omega
end Go.Proofs.YtihmgaccbcfgjaaGreat
set_option maxRecDepth 100000
namespace Go.Proofs.YtihmgaccbcfgjaaGreat
open Go.RowKit Go.Proofs
open Go.V hiding Row
open Go.X
def F0j:(Tryz.prog.info? 3).map (fun i=>(i.zero,i.size,i.bytes))=some (some (.int .i64 0),1,8):=X'
def a04 (w:World)(r:Nat)(ks:List (List Bool)):Prop:=∃es clock,w.heap[r]?=some (.map es clock)/\r0P es.toList ks 0
def a04.lt {w:World}{r:Nat}{ks:List (List Bool)}(h:a04 w r ks):r<w.heap.size:=by
 obtain⟨es,cl,he,_⟩:=h;exact(Array.getElem?_eq_some_iff.1 he).1
def a04.old {w w1:World}{r:Nat}{ks:List (List Bool)}(h:a04 w r ks)(e:w1.heap[r]?=w.heap[r]?):a04 w1 r ks:=by
 obtain⟨es,cl,he,hm⟩:=h;exact⟨es,cl,e.trans he,hm⟩
def t09 {em:Bool}{a:TypeId}{k:ByteArray}(hk:Tryz.prog.underlying a=some .string)(w:World):(Instr.checkKey em 10000 a (.string k)).run Tryz.prog w=.ok () w:=by
 show(Instr.checkKey em (9999+1) a (.string k)).run Tryz.prog w=.ok () w;generalize 9999=q;simp[Instr.checkKey,run_underlying hk]
def C0f {w:World}{r:Nat}{ks:List (List Bool)}(h:a04 w r ks)(k:List Bool):
  (Instr.lookup 199 (.map (some r)) (a0s k) true).run Tryz.prog w=.ok (.tuple #[.int .i64 (if ks.contains k then(ks.idxOf k:Int)else 0),.bool (ks.contains k)]) w:=by
 obtain⟨es,cl,he,hm⟩:=h;have hg:(getObj r).run Tryz.prog w=.ok (.map es cl) w:=e08 he;have b:(zeroValue 3).run Tryz.prog w=.ok (.int .i64 0) w:=Tryz.zeroValue3 w;have a:∀em,(Instr.checkKey em 10000 9 (.string ⟨(Z7 k).toArray⟩)).run Tryz.prog w=.ok () w:=fun em=>t09 Tryz.underlying9 w;rcases n0Q k es.toList ks 0 hm 0 with⟨f1,f2⟩|⟨f1,f2,f3⟩
 ·rw[f1];unfold a0s at f2 ⊢;simp[Instr.lookup,run_underlying Tryz.underlying199,hg,a,Instr.findKey,run_underlying Tryz.underlying9,f2,b]
 ·rw[f1];unfold a0s at f3 ⊢;simp[Instr.lookup,run_underlying Tryz.underlying199,hg,a,Instr.findKey,run_underlying Tryz.underlying9,f3]
def E0p {w:World}{r:Nat}{ks:List (List Bool)}(h:a04 w r ks){k:List Bool}(hk:ks.contains k=false):
  ∃w1,(Instr.mapUpdate 199 (.map (some r)) (a0s k) (.int .i64 (ks.length:Int))).run Tryz.prog w=.ok () w1/\a04 w1 r (ks++[k])/\j5 r w w1:=by
 obtain⟨es,cl,he,hm⟩:=h;have hg:(getObj r).run Tryz.prog w=.ok (.map es cl) w:=e08 he;have b:∀em,(Instr.checkKey em 10000 9 (.string ⟨(Z7 k).toArray⟩)).run Tryz.prog w=.ok () w:=fun em=>t09 Tryz.underlying9 w;rcases n0Q k es.toList ks 0 hm 0 with⟨f1,f2⟩|⟨f1,f2,f3⟩
 ·refine⟨b0D w r (.map (es.push ⟨a0s k,.int .i64 (ks.length:Int),cl⟩) (cl+1)),?_,⟨_,_,u0p he,?_⟩,q0d w r _⟩
  ·unfold a0s at f2 ⊢;simp[Instr.mapUpdate,run_underlying Tryz.underlying199,hg,b,Instr.findKey,run_underlying Tryz.underlying9,f2,m0F he]
  ·obtain⟨h1,c⟩:=hm;refine⟨by simpa using h1,fun i hi=>?_⟩;rw[Array.toList_push];simp only[List.length_append,List.length_cons,List.length_nil]at hi
   by_cases a:i<ks.length
   ·rw[List.getElem?_append_left O',List.getElem_append_left a];exact c i a
   ·obtain rfl:i=ks.length:=O'
    rw[List.getElem?_append_right O'];simp[h1]
 ·rw[hk]at f1;cases f1
def s0a {w:World}{r:Nat}{ks:List (List Bool)}(h:a04 w r ks)(ty:TypeId):
  (Builtin.len_ #[199] ty #[.map (some r)]).run Tryz.prog w=.ok (.int .i64 (ks.length:Int)) w:=by
 obtain⟨es,cl,he,hm⟩:=h;have hg:(getObj r).run Tryz.prog w=.ok (.map es cl) w:=e08 he;have hl:es.size=ks.length:=by simpa using hm.1
 simp[Builtin.len_,run_underlying Tryz.underlying199,hg,hl]
 try rfl
def D0Q {F:Nat}(d:U0 en (d0m F))(w:World)(b:Int)(l:List (List Int))(A:Option Addr)(c:Nat)
  (a:l≠[]->∃bb o,A=some ⟨bb,o,none⟩/\bb<w.heap.size/\∀k:Nat,k<l.length->(gt l (k:Int)).length=4/\∀j:Nat,j<4->O1 w.heap bb (o+k*4+j)=some (.int .u64 ((gt l (k:Int)).getD j 0)))
  {ks:List Bool} (hm:d0l F b l=some ks) (hlen:l.length<=1000000000):
  Calls Tryz.prog 145 #[.int .u8 b,.slice A l.length c] w fun e w1=>e=.returned (a0s ks)/\Below w.heap.size w w1:=D08 d w b l A c a hm hlen
set_option maxHeartbeats 4000000 in
def F0v {F:Nat}(hh:U0 en (d0m F))(w:World)(l:List (List Int))(A:Option Addr)(c:Nat)
  (U:l≠[]->∃bb o,A=some ⟨bb,o,none⟩/\bb<w.heap.size/\∀k:Nat,k<l.length->(gt l (k:Int)).length=4/\∀j:Nat,j<4->O1 w.heap bb (o+k*4+j)=some (.int .u64 ((gt l (k:Int)).getD j 0)))
  (st:Nat->List (List Bool)×List Int) (h0:st 0=([],[])) (hs:∀b<256,f04 F l (st b) b=some (st (b+1))) (e3:∀b,b<=256->(st b).1.length<=b/\(st b).2.length=b) (hlen:l.length<=1000000000):
  Calls Tryz.prog 112 #[.slice A l.length c] w fun e w1=>∃v,e=.returned (.tuple #[v,.int .i64 ((st 256).1.length:Int)])/\w1.ownsRow w.heap.size 3 1 v 256 ((st 256).2.map fun x=>Value.int .i64 x)/\Below w.heap.size w w1:=by
 obtain⟨i0,hi,c0,b4,b5⟩:=info_parts F0j;have h7:∀w:World,(Instr.makeMap 199 none).run Tryz.prog w=.ok (.map (some w.heap.size)) (w.alloc (.map #[] 0)):=fun w=>run_makeMap 199 w
 go_enter Tryz.func112,Tryz.ntmps112
 go_wp2
 go_loopw [5,11] (fun v i wr=>∃k:Nat,k<=256/\i=.int .i64 k/\a04 wr w.heap.size (st k).1/\wr.ownsRow (w.heap.size+1) 3 1 v k ((st k).2.map fun x=>Value.int .i64 x)/\Below w.heap.size w wr) (fun _ i _=>256-(intOf i).toNat)
 case atStart=>exact⟨0,Nat.zero_le _,rfl,by rw[h0];exact⟨#[],0,(Go.MapKept.heap_alloc w _).1,rfl,fun i h=>by simp at h⟩,by rw[h0];exact World.ownsRow_nil _ _ _ _,i09 _ _⟩
 case round=>
  obtain⟨k,hk,rfl,a1,R,hb⟩:=hrel;have h8:=hb.size;have e4:=a1.lt
  by_cases hd:k=256
  ·subst hd;have c8:=s0a a1
   go_wp2
   go_ret2
   refine⟨_,rfl,?_,hb⟩;obtain⟨h1,h2⟩:=R;refine⟨h1,?_⟩;rcases h2 with h2|⟨g,cap,cur,h3,h4,h5⟩
   ·exact .inl h2
   ·exact .inr ⟨g,cap,cur,h3,O',h5⟩
  ·have e9:k<256:=O'
   have d1:decide ((k:Int)<256)=true:=by simp;omega
   have d2:IntKind.wrap .u8 (k:Int)=(k:Int):=by simp[IntKind.wrap,IntKind.bits,IntKind.signed];omega
   have d:=hs k e9;obtain⟨l1,l2⟩:=e3 k hk;unfold f04 at d;obtain⟨kk,e5,d⟩:=bind_eq_some_iff.1 d;have z:l≠[]->∃bb o,A=some ⟨bb,o,none⟩/\bb<wr.heap.size/\∀k:Nat,k<l.length->(gt l (k:Int)).length=4/\∀j:Nat,j<4->O1 wr.heap bb (o+k*4+j)=some (.int .u64 ((gt l (k:Int)).getD j 0)):=fun h6=>by
    obtain⟨bb,o,hA,h1,h2⟩:=U h6;refine⟨bb,o,hA,O',fun q hq=>⟨(h2 q hq).1,fun j y=>?_⟩⟩;have:=(h2 q hq).2 j y;unfold O1 at this ⊢;rw[hb.block bb h1];exact this
   go_wp2_with (go_at_call 145;refine(D0Q hh wr (k:Int) l A c z e5 hlen).mono ?_)
   rintro e w2 ⟨rfl,hb2⟩
   have p:=a1.old (hb2.block _ e4);have C:Below w.heap.size w w2:=m0w hb hb.size hb2;have n:w2.ownsRow (w.heap.size+1) 3 1 u5 k ((st k).2.map fun x=>Value.int .i64 x):=World.ownsRow.kept (row:=none) R ⟨hb2.os,hb2.tape,hb2.output,hb2.size,fun k hk _=>hb2.block k hk⟩ (by cases hv:u5.ownBlock<;>simp);have J:=C0f p kk;clear U z a1 R;cases hc:(st k).1.contains kk with
   |true=>
    rw[hc]at J d;simp only[if_true]at J d;have d:=Option.some.inj d;generalize e7:((st k).1.idxOf kk:Int)=ix at *
    go_wp2_with (at_builtin;refine wpList_append_own _ rfl _ _ 22 rfl (w.heap.size+1) 3 i0 (.int .i64 0) 1 8 Tryz.underlying22 hi c0 b4 b5 rfl (by decide) _ _ _ rfl (n.alloc _) ⟨w2.heap.size,0,none⟩ 1 1 [.int .i64 ix] rfl rfl ?c1 ?c2 ?c3 ?c4 ?c5 ?_)
    case c1=>
     intro j u y
     match j,y with
     |0,y=>simp at y;subst y;simp[Addr.add]
    case c2=>intro u hu;simp at hu;subst hu;rfl
    case c3=>unfold maxLen;omega
    case c4=>omega
    case c5=>have:=C.size;simp;omega
    intro v' w3 m f _;have r:a04 w3 w.heap.size (st k).1:=(p.old (Below.heap_alloc _ _ _ p.lt)).old (f.block _ (by simp;exact Nat.lt_succ_of_lt p.lt) (fun e=>by have:=(n.lt _ e.symm).1;omega));have I:Below w.heap.size w w3:=(C.alloc C.size _).grown f (by have:=C.size;simp;omega) (fun g hg=>by have:=(n.lt g hg).1;omega);clear f n p J;have e1:(st (k+1)).1=(st k).1:=by rw[<-d]
    have e2:(st (k+1)).2=(st k).2++[ix]:=by rw[<-d]
    have s:w3.ownsRow (w.heap.size+1) 3 1 v' (k+1) ((st (k+1)).2.map fun x=>Value.int .i64 x):=by rw[e2,List.map_append];exact m
    rw[<-e1]at r;clear m d e1 e2
    go_wp2
    go_roundw
    case rel=>exact⟨k+1,O',by go_num,r,s,I⟩
    case measure=>simp[intOf];omega
   |false=>
    rw[hc]at J d;simp only[if_false,Bool.false_eq_true]at J d;have d:=Option.some.inj d;obtain⟨w3,c6,r,a⟩:=E0p p hc;have b3:=s0a p;have I:Below w.heap.size w w3:=C.trans ⟨a.os,a.tape,a.output,a.size,fun j y=>a.block j (by have:=C.size;omega) O'⟩;have m:w3.ownsRow (w.heap.size+1) 3 1 u5 k ((st k).2.map fun x=>Value.int .i64 x):=World.ownsRow.kept (row:=some w.heap.size) n ⟨a.os,a.tape,a.output,a.size,fun j y hn=>a.block j y (fun e=>hn (by rw[e]))⟩ (.inr (fun e=>by have:=(n.lt _ e).1;omega));clear n p a;generalize e7:((st k).1.length:Int)=ix at *
    go_wp2_with (at_builtin;refine wpList_append_own _ rfl _ _ 22 rfl (w.heap.size+1) 3 i0 (.int .i64 0) 1 8 Tryz.underlying22 hi c0 b4 b5 rfl (by decide) _ _ _ rfl (m.alloc _) ⟨w3.heap.size,0,none⟩ 1 1 [.int .i64 ix] rfl rfl ?c1 ?c2 ?c3 ?c4 ?c5 ?_)
    case c1=>
     intro j u y
     match j,y with
     |0,y=>simp at y;subst y;simp[Addr.add]
    case c2=>intro u hu;simp at hu;subst hu;rfl
    case c3=>unfold maxLen;omega
    case c4=>omega
    case c5=>have:=I.size;simp;omega
    intro v' w4 s f _;have b1:a04 w4 w.heap.size ((st k).1++[kk]):=(r.old (Below.heap_alloc _ _ _ r.lt)).old (f.block _ (by simp;exact Nat.lt_succ_of_lt r.lt) (fun e=>by have:=(m.lt _ e.symm).1;omega));have e6:Below w.heap.size w w4:=(I.alloc I.size _).grown f (by have:=I.size;simp;omega) (fun g hg=>by have:=(m.lt g hg).1;omega);clear f m r J c6 b3;have e1:(st (k+1)).1=(st k).1++[kk]:=by rw[<-d]
    have e2:(st (k+1)).2=(st k).2++[ix]:=by rw[<-d]
    have b2:w4.ownsRow (w.heap.size+1) 3 1 v' (k+1) ((st (k+1)).2.map fun x=>Value.int .i64 x):=by rw[e2,List.map_append];exact s
    rw[<-e1]at b1;clear s d e1 e2
    go_wp2
    go_roundw
    case rel=>exact⟨k+1,O',by go_num,b1,b2,e6⟩
    case measure=>simp[intOf];omega
def w0b {α:Type}(f:α->Nat->Option α)(a:α):∀(n:Nat) (y:α),(List.range n).foldlM f a=some y->∃st:Nat->α,st 0=a/\(∀b<n,f (st b) b=some (st (b+1)))/\st n=y
 |0,y,h=>⟨fun _=>a,rfl,fun b g=>O',by simpa using h⟩
 |n+1,y,h=>by
  rw[List.range_succ,List.foldlM_append]at h;obtain⟨z,h1,d⟩:=bind_eq_some_iff.1 h;obtain⟨st,g1,g2,g3⟩:=w0b f a n z h1;have d:f z n=some y:=by simpa using d
  refine⟨fun b=>if b<=n then st b else y,by simp[g1],fun b g=>?_,by simp only[show ¬n+1<=n from O',if_false]⟩
  by_cases c:b<n
  ·simp only[show b<=n from O',show b+1<=n from O',if_true];exact g2 b c
  ·obtain rfl:b=n:=O'
   simp only[Nat.le_refl,if_true,show ¬b+1<=b from O',if_false];rw[g3];exact d
def x0F {F:Nat}{l:List (List Int)}{s t:List (List Bool)×List Int}{b:Nat}(h:f04 F l s b=some t)(h1:s.1.length<=b)(a:s.2.length=b):t.1.length<=b+1/\t.2.length=b+1:=by
 unfold f04 at h;obtain⟨k,_,h⟩:=bind_eq_some_iff.1 h;split at h
 ·cases h;exact⟨V',by simp[a]⟩
 ·cases h;exact⟨V',by simp[a]⟩
def v0r {E:Env}{H:I0}{S:D0}{t:U}{x:Q5 E.D (.d t)}{c:List Value}(h:(J0 E t).R H S c x):SR E H S (.d t) x c []:=by
 unfold SR;exact⟨rfl,h⟩
def B0k {H:I0}{S:D0}{c:List Value}{l:List (List Int)}(h:(J0 en (.list (.arr 4 (.int .u64)))).R H S c l):∃A cc,c=[.slice A l.length cc]/\
  (l≠[]->∃bb o,A=some ⟨bb,o,none⟩/\bb<H.size/\∀k:Nat,k<l.length->(gt l (k:Int)).length=4/\∀j:Nat,j<4->O1 H bb (o+k*4+j)=some (.int .u64 ((gt l (k:Int)).getD j 0))):=by
 obtain⟨A,cc,rfl,d⟩:=(show(O4 (J0 en (.arr 4 (.int .u64)))).R H S c l from h)
 refine⟨A,cc,rfl,fun f=>?_⟩;obtain⟨b,o,rfl,i,_⟩:=d.2.1 f;refine⟨b,o,rfl,i,fun k hk=>?_⟩;have hg:l[k]?=some (gt l (k:Int)):=by rw[X2 (x:=l[k]) (by simp[hk])];simp[hk]
 obtain⟨b',m,cs,e,hR,a⟩:=d.2.2 k (show List Int from gt l (k:Int)) hg;cases e;obtain⟨g,rfl⟩:=G0c hR;refine⟨g,fun j n=>?_⟩;have:=a j (.int .u64 ((gt l (k:Int)).getD j 0)) (by
  rw[List.getElem?_map,List.getD_eq_getElem?_getD];rw[List.getElem?_eq_getElem O'];rfl)
 exact this
def B0m {w w1:World}{S:D0}{v:Value}{xs:List Int}{n:Nat}(h:w1.ownsRow w.heap.size 3 1 v n (xs.map fun x=>Value.int .i64 x))(f:∀b,S b->b<w.heap.size):(J0 en (.list (.int .i64))).R w1.heap S [v] xs:=by
 obtain⟨hl,h⟩:=h;obtain rfl:xs.length=n:=by simpa using hl
 rcases h with⟨rfl,k⟩|⟨g,cap,cur,rfl,hb,hg,hc,hm,hs,ht⟩
 ·obtain rfl:xs=[]:=List.eq_nil_of_length_eq_zero k;exact⟨none,0,rfl,Nat.le_refl _,fun h=>absurd rfl h,fun i x a=>by cases a⟩
 ·refine⟨some ⟨g,0,none⟩,cap,rfl,hc,fun _=>⟨g,0,rfl,(Array.getElem?_eq_some_iff.1 hg).1,fun h=>by have:=f g h;omega⟩,fun i (x:Int) a=>⟨g,0,[.int .i64 x],rfl,rfl,fun j v c=>?_⟩⟩;have hi:i<xs.length:=(List.getElem?_eq_some_iff.1 a).1;obtain rfl:j=0:=by
   cases j with
   |zero=>rfl
   |succ j=>simp at c
  simp at c;subst c;have h1:(cur.toList.take (xs.length*1))[i]?=some (.int .i64 x):=by
   rw[ht,List.getElem?_map];have d:xs[i]?=some x:=a;rw[d];rfl
  rw[List.getElem?_take_of_lt O']at h1;show O1 w1.heap g (0+i*1+0)=_;unfold O1;rw[hg,Nat.zero_add,Nat.mul_one,Nat.add_zero];simpa using h1
def G0l (F:Nat)(hh:U0 en (d0m F)):U0 en (o0i F):=by
 intro w S us pl x y hm a s a1 I;have a:E2 en w.heap S [.d (.list (.arr 4 (.int .u64)))] x us pl:=a;unfold E2 at a;obtain⟨c,u,b1,p1,p2,rfl,rfl,o,h1,U⟩:=a;obtain⟨rfl,rfl⟩:=c0e U;unfold SR at h1;obtain⟨rfl,h1⟩:=h1;obtain⟨A,cc,rfl,g⟩:=B0k h1;have o:u=.slice A (show List (List Int)from x).length cc:=o;subst o;have hm:f0P F x=some y:=hm;unfold f0P at hm;split at hm
 rotate_left
 ·cases hm
 rename_i hlen;obtain⟨b2,C,hm⟩:=bind_eq_some_iff.1 hm;cases hm;obtain⟨st,g1,g2,rfl⟩:=w0b _ _ _ _ C;have q:∀b,b<=256->(st b).1.length<=b/\(st b).2.length=b:=by
  intro b f
  induction b with
  |zero=>rw[g1];simp
  |succ b ih=>
   obtain⟨J,i2⟩:=ih O';exact x0F (g2 b O') J i2
 refine(F0v hh w x A cc g st g1 g2 q (of_decide_eq_true hlen)).mono ?_
 rintro e w1 ⟨v,rfl,hown,f⟩
 refine⟨_,S,[],rfl,?_,⟨f.os,f.tape,f.output,f.size,fun k hk _=>f.block k hk⟩,⟨f.size,fun b n hn=>⟨hn,f.block b n⟩⟩,fun b h _=>h,fun b h=>Nat.lt_of_lt_of_le (s b h) f.size,by intro i j v v' _ l;simp at l,by rintro b ⟨v,l,_⟩;simp at l⟩;have z:=B0m (S:=S) hown s;obtain⟨m,c2,l⟩:∃m c2,v=.slice m (st 256).2.length c2:=by
  obtain⟨m,c2,l,_⟩:=(show(O4 (J0 en (.int .i64))).R w1.heap S [v] (st 256).2 from z)
  exact⟨m,c2,(List.cons.inj l).1⟩
 have p:E2 en w1.heap S [.d (.list (.int .i64)),.d (.int .i64)] (((st 256).2,((st 256).1.length:Int)):List Int×Int) [v,.int .i64 ((st 256).1.length:Int)] []:=by
  refine U9 (x:=.d (.list (.int .i64))) (r:=[.d (.int .i64)]) ⟨[v],v,[.int .i64 ((st 256).1.length:Int)],[],[],rfl,rfl,rfl,v0r z,?_⟩;exact U9 (x:=.d (.int .i64)) (r:=[]) ⟨[.int .i64 ((st 256).1.length:Int)],_,[],[],[],rfl,rfl,rfl,v0r rfl,a0M⟩
 refine U9 (E:=en) (x:=.tup [.d (.list (.int .i64)),.d (.int .i64)]) (r:=[]) ⟨[.tuple #[v,.int .i64 ((st 256).1.length:Int)]],_,[],[],[],rfl,rfl,rfl,?_,a0M⟩;unfold SR;exact⟨[v,.int .i64 ((st 256).1.length:Int)],rfl,p⟩
end Go.Proofs.YtihmgaccbcfgjaaGreat
set_option maxRecDepth 100000
namespace Go.Proofs.YtihmgaccbcfgjaaGreat
open Go.V Go.RowKit Go.X
def K1:∀c∈([]:List (Sm en.D)),U0 en c:=fun _ h=>absurd h List.not_mem_nil
def O0 {c:Sm en.D}{r:List (Sm en.D)}(h:U0 en c)(a:∀c∈r,U0 en c):∀d∈c :: r,U0 en d:=List.forall_mem_cons.2 ⟨h,a⟩
def L1 {C:J3 en}{c:Sm en.D}(hm:∀x,I1 en C c.f c.ins c.res c.back x=c.m x)(hs:∀d∈C.sm,U0 en d):U0 en c:=k05 c0m (C:=C) (j0h c0m hs) fun x y h=>(hm x).trans h
def q0P (F:Nat):U0 en (k0v F):=L1 (D0q F) K1
def v0L (F:Nat):U0 en (j0S F):=L1 (y0L F) (O0 (q0P F) K1)
def q04 (F:Nat):U0 en (l0u F):=L1 (G0f F) K1
def B0b (F:Nat):U0 en (o0I F):=L1 (F0H F) (O0 (q04 F) K1)
def G0U (F:Nat):U0 en (n0e F):=L1 (A0g F) (O0 (q04 F) K1)
def v0m (F:Nat):U0 en (m0p F):=L1 (I0Z F) (O0 (q0P F) (O0 (v0L F) (O0 (B0b F) (O0 (G0U F) K1))))
def h0K (F:Nat):U0 en (f0f F):=L1 (I0H F) K1
def z0w (F:Nat):U0 en (q0D F):=L1 (H0x F) K1
def D0N (F:Nat):U0 en (o0M F):=L1 (I0r F) K1
def H0J (F:Nat):U0 en (p0o F):=L1 (y0V F) K1
def m0A (F:Nat):U0 en (f0O F):=L1 (y09 F) (O0 (z0w F) (O0 (D0N F) (O0 (H0J F) K1)))
def c0l (F:Nat):U0 en (b0t F):=L1 (B0g F) (O0 (m0A F) K1)
def s0K (F:Nat):U0 en (k0M F):=L1 (C0l F) K1
def m0a (F:Nat):U0 en (g00 F):=L1 (G01 F) (O0 (c0l F) K1)
def y0G (F:Nat):U0 en (n0l F):=L1 (B0N F) (O0 (c0l F) (O0 (s0K F) (O0 (m0a F) K1)))
def q0N (F:Nat):U0 en (d0m F):=L1 (C0x F) K1
def E0e (F:Nat):U0 en (o0i F):=G0l F (q0N F)
def C06 (F:Nat):U0 en (l00 F):=L1 (B0y F) (O0 (c0l F) (O0 (E0e F) K1))
def z0Y (F:Nat):U0 en (p0h F):=L1 (H0D F) K1
def z0n (F:Nat):U0 en (q0g F):=L1 (A08 F) (O0 (h0K F) K1)
def x0a (F:Nat):U0 en (p09 F):=L1 (F0D F) (O0 (h0K F) (O0 (z0Y F) (O0 (z0n F) K1)))
def r0m (F:Nat):U0 en (k0p F):=L1 (A0K F) (O0 (m0A F) K1)
def y0I (F:Nat):U0 en (m0Q F):=L1 (x04 F) (O0 (r0m F) K1)
def p0z (F:Nat):U0 en (h0C F):=L1 (J0a F) (O0 (c0l F) (O0 (y0I F) K1))
def C0c (F:Nat):U0 en (p0n F):=L1 (H0L F) K1
def C0A (F:Nat):U0 en (p0c F):=L1 (x00 F) K1
def i0h (F:Nat):U0 en (f0m F):=L1 (E04 F) (O0 (c0l F) K1)
def F0a (F:Nat):U0 en (m0W F):=L1 (I0j F) K1
def G0S (F:Nat):U0 en (n0X F):=L1 (I08 F) K1
def t02 (F:Nat):U0 en (j0L F):=L1 (I0l F) (O0 (G0S F) K1)
def t0k (F:Nat):U0 en (i05 F):=L1 (w03 F) (O0 (p0z F) (O0 (c0l F) (O0 (C0A F) (O0 (i0h F) (O0 (F0a F) (O0 (t02 F) K1))))))
def u0M (F:Nat):∀n,U0 en (l0A F n)
 |0=>fun w S us pl x y h=>by cases h
 |n+1=>L1 (I0E F n) (O0 (u0M F n) K1)
def l0Q (F:Nat):U0 en (g0R F):=L1 (I0c F) (O0 (m0a F) (O0 (u0M F F) K1))
def p0w (F:Nat):U0 en (f0R F):=L1 (y0P F) (O0 (c0l F) K1)
def r0B (F:Nat):U0 en (j04 F):=L1 (z0Z F) (O0 (p0w F) K1)
def C0U (F:Nat):U0 en (q0j F):=L1 (B0h F) (O0 (c0l F) (O0 (i0h F) K1))
def r0r (F:Nat):U0 en (j0y F):=L1 (I0R F) (O0 (c0l F) (O0 (m0a F) (O0 (p0w F) (O0 (r0B F) (O0 (C0U F) K1)))))
def v0V (F:Nat):U0 en (j0I F):=L1 (F0z F) (O0 (i0h F) (O0 (r0r F) K1))
def w0o (F:Nat):U0 en (k0w F):=L1 (B0W F) K1
def o0O (F:Nat):∀n,U0 en (h0i F n)
 |0=>fun w S us pl x y h=>by cases h
 |n+1=>L1 (A0w F n) (O0 (l0Q F) (O0 (w0o F) (O0 (o0O F n) K1)))
def E0D (F:Nat):U0 en (o0D F):=L1 (C0g F) (O0 (o0O F F) K1)
def q0Z (F:Nat):U0 en (l0D F):=L1 (H0H F) (O0 (l0Q F) (O0 (E0D F) (O0 (w0o F) K1)))
def r0F (F:Nat):U0 en (j0x F):=L1 (I01 F) (O0 (l0Q F) (O0 (v0V F) (O0 (q0Z F) K1)))
def k0D (F:Nat):U0 en (f0v F):=L1 (E0V F) (O0 (t02 F) K1)
def o0Y (F:Nat):U0 en (g0O F):=L1 (H0E F) K1
def I05 (F:Nat):U0 en (o09 F):=L1 (z0v F) (O0 (k0D F) (O0 (o0Y F) K1))
def u05 (F:Nat):U0 en (k0Z F):=L1 (D0a F) (O0 (r0F F) (O0 (I05 F) K1))
def F0e (F:Nat):U0 en (i0Z F):=k05 c0m (C:=s0H F) (j0h c0m (fun _ h=>absurd h List.not_mem_nil)) fun(x:List Int) y h=>(show I1 en (s0H F) 99 [.d (.list (.int .i64))] (.own 3 (.int .i64)) [] x=(if List.isEmpty (α:=Int) x then same (some []) (if K0 8 ([]:List Int) x then some ([]++x)else none)else if K0 8 ([]:List Int) x then some ([]++x)else none) from X').trans (x0x h)
def r0x (F:Nat):U0 en (k0G F):=H0U F (F0e F)
def H0v (F:Nat):U0 en (p0C F):=L1 (H0w F) (O0 (r0m F) K1)
def r0a (F:Nat):U0 en (j08 F):=L1 (A0Z F) (O0 (c0l F) (O0 (H0v F) K1))
def A0b (F:Nat):U0 en (s0c F):=x02 fun w S b A c v k hk a=>Wr.E0S 2000 b a (Wr.A0L hk O')
def C0d (F:Nat):U0 en (o0w F):=L1 (J0b F) (O0 (A0b F) K1)
def v0Y (F:Nat):U0 en (k0X F):=L1 (H0S F) (O0 (p0z F) (O0 (C0d F) K1))
def D0H (F:Nat):U0 en (o0j F):=L1 (E0T F) (O0 (t0k F) (O0 (u05 F) (O0 (r0F F) (O0 (r0x F) (O0 (r0a F) (O0 (v0Y F) K1))))))
def C0H (F:Nat):U0 en (s0A F):=F0y (E:=en) (i:=11) (key:=fun x:B0=>x.To) Go.Proofs.Tryz.H02 rfl Go.Proofs.Tryz.G0I Go.Proofs.Tryz.I0N Go.Proofs.Tryz.G0P Go.Proofs.Tryz.x0J (fun H S cs x h=>by
 obtain⟨c1,c2,rfl,h1,c3,c4,rfl,a,c5,b,rfl,⟨A,c,rfl,_⟩,rfl⟩:=(f0Q 11 _ _ _ _).1 h;have h1:c1=[_]:=h1;have a:c3=[_]:=a;subst h1;subst a;exact⟨_,_,rfl⟩) X'
def t0Y (F:Nat):U0 en (i0W F):=L1 (G0a F) K1
def z0g (F:Nat):U0 en (p0p F):=L1 (H0p F) (O0 (v0V F) (O0 (q0Z F) (O0 (C0H F) (O0 (t0Y F) K1))))
def C0e (F:Nat):U0 en (l05 F):=L1 (I0w F) (O0 (r0r F) (O0 (o0O F F) (O0 (t0Y F) K1)))
def t0t (F:Nat):U0 en (i00 F):=L1 (G0k F) K1
def z05 (F:Nat):U0 en (l0Z F):=L1 (z0I F) (O0 (k0D F) (O0 (t0t F) K1))
def F0g (F:Nat):U0 en (q0B F):=L1 (D06 F) (O0 (v0Y F) (O0 (z0g F) (O0 (C0e F) (O0 (z05 F) K1))))
def I0i (F:Nat):U0 en (o0v F):=L1 (I0k F) K1
def u0L (F:Nat):U0 en (j0M F):=L1 (I0G F) K1
def u0J (F:Nat):U0 en (j0C F):=L1 (A0C F) (O0 (u0L F) K1)
def x0A (F:Nat):U0 en (p03 F):=L1 (z0N F) (O0 (k0D F) (O0 (o0Y F) (O0 (u0J F) K1)))
def w00 (F:Nat):U0 en (n00 F):=F0Y F (p0w F) (m0A F)
def u0s (F:Nat):∀n,U0 en (l0C F n)
 |0=>fun w S us pl x y h=>by cases h
 |n+1=>L1 (B0j F n) (O0 (i0h F) (O0 (u0s F n) (O0 (r0B F) (O0 (w00 F) K1))))
def E0o (F:Nat):U0 en (p0i F):=L1 (B0c F) (O0 (k0D F) (O0 (o0Y F) (O0 (u0J F) (O0 (t0t F) (O0 (u0s F F) (O0 (u0L F) K1))))))
def t0A (F:Nat):U0 en (j0q F):=L1 (E0k F) K1
def B0Y (F:Nat):U0 en (n0s F):=z0j F
def G0o (F:Nat):U0 en (m0s F):=L1 (x0P F) K1
def w0Y (F:Nat):U0 en (o0F F):=L1 (y03 F) (O0 (t0A F) (O0 (G0o F) K1))
def E0z (F:Nat):U0 en (n0k F):=L1 (F0M F) (O0 (u05 F) (O0 (t0A F) (O0 (B0Y F) (O0 (w0Y F) K1))))
def G0E (F:Nat):U0 en (m0c F):=L1 (E0C F) K1
def D0v (F:Nat):U0 en (m0N F):=L1 (x08 F) (O0 (s0K F) (O0 (t0k F) (O0 (r0x F) (O0 (r0a F) (O0 (q0N F) (O0 (i0h F) (O0 (F0g F) (O0 (I0i F) (O0 (x0A F) (O0 (E0o F) (O0 (E0z F) (O0 (G0E F) K1))))))))))))
def G0b (F:Nat):U0 en (o00 F):=L1 (I0d F) (O0 (x0a F) (O0 (D0v F) K1))
def A0V (F:Nat):U0 en (o0z F):=L1 (F0B F) (O0 (C0c F) (O0 (D0H F) (O0 (G0b F) K1)))
def r0G (F:Nat):U0 en (l0J F):=L1 (I0I F) (O0 (v0L F) (O0 (y0G F) (O0 (C06 F) (O0 (p0z F) (O0 (A0V F) K1)))))
def E0g (F:Nat):U0 en (n0y F):=L1 (E0M F) K1
def x0o (F:Nat):U0 en (m0U F):=L1 (A0l F) (O0 (E0g F) K1)
def A0H (F:Nat):U0 en (p0M F):=L1 (x0r F) (O0 (x0o F) K1)
def M0m (F:Nat):U0 en (K0N F):=L1 (N0K F) (O0 (x0o F) K1)
def M0e (F:Nat):U0 en (K05 F):=L1 (N0w F) (O0 (M0m F) K1)
def P0T (F:Nat):U0 en (L0e F):=L1 (N0M F) (O0 (M0e F) K1)
def N0h (F:Nat):U0 en (L0h F):=L1 (O0G F) K1
def X0h (F:Nat):U0 en (T0s F):=L1 (V0T F) (O0 (F0e F) K1)
def U0y (F:Nat):U0 en (S00 F):=L1 (V0m F) K1
def W0l (F:Nat):U0 en (T0O F):=L1 (V0M F) K1
def U0C (F:Nat):U0 en (S0x F):=L1 (X0u F) (O0 (W0l F) K1)
def V0b (F:Nat):U0 en (S0O F):=L1 (W0e F) (O0 (U0y F) (O0 (U0C F) K1))
def U02 (F:Nat):U0 en (S0F F):=L1 (W0c F) (O0 (v0m F) (O0 (X0h F) (O0 (V0b F) K1)))
def V0o (F:Nat):U0 en (S02 F):=L1 (X0q F) (O0 (V0b F) (O0 (U0C F) K1))
def V0e (F:Nat):U0 en (S0X F):=L1 (W04 F) (O0 (U02 F) (O0 (V0o F) K1))
def W0W (F:Nat):U0 en (T0u F):=L1 (V07 F) K1
def V0c (F:Nat):U0 en (S0I F):=L1 (W0R F) (O0 (W0W F) K1)
def U0N (F:Nat):U0 en (S0E F):=L1 (X0J F) (O0 (V0e F) (O0 (V0c F) K1))
def U0e (F:Nat):U0 en (S0L F):=L1 (W0f F) (O0 (V0e F) (O0 (V0c F) (O0 (U0y F) K1)))
def U0V (F:Nat):U0 en (S0C F):=L1 (V0i F) K1
def X0s (F:Nat):U0 en (T0L F):=L1 (W0N F) K1
def X0i (F:Nat):U0 en (S06 F):=L1 (X0f F) (O0 (r0G F) (O0 (U0N F) (O0 (U0e F) (O0 (U0V F) (O0 (U02 F) (O0 (X0s F) K1))))))
def U0I (F:Nat):U0 en (S0S F):=L1 (V0G F) (O0 (A0H F) K1)
def S0N (F:Nat):U0 en (R0V F):=L1 (W0p F) K1
def X0k (F:Nat):U0 en (T0K F):=L1 (W0m F) (O0 (N0h F) (O0 (S0N F) K1))
def U0g (F:Nat):U0 en (S0A F):=L1 (V0K F) (O0 (X0k F) K1)
def U0T (F:Nat):U0 en (S0K F):=L1 (W0K F) (O0 (A0H F) (O0 (P0T F) (O0 (M0e F) K1)))
def T0j (F:Nat):∀n,U0 en (S0q F n)
 |0=>fun w S us pl x y h=>by cases h
 |n+1=>L1 (T0b F n) (O0 (S0N F) (O0 (T0j F n) K1))
def V0P (F:Nat):U0 en (T0G F):=L1 (V08 F) (O0 (U0I F) (O0 (U0g F) (O0 (S0N F) (O0 (U0T F) (O0 (T0j F F) K1)))))
def W0d (F:Nat):U0 en (S08 F):=L1 (X0l F) (O0 (U0I F) (O0 (U0g F) (O0 (S0N F) (O0 (T0j F F) K1))))
def V0W (F:Nat):U0 en (S07 F):=L1 (V0J F) (O0 (U0T F) (O0 (W0d F) K1))
def W0U (F:Nat):U0 en (U0F F):=L1 (W0A F) (O0 (r0G F) (O0 (X0i F) (O0 (U0N F) (O0 (U0e F) (O0 (U0V F) (O0 (V0P F) (O0 (V0W F) K1)))))))
end Go.Proofs.YtihmgaccbcfgjaaGreat
namespace Go.V
open Go.RowKit Go.ChangeShapes Go.WideShapes Go.ChangeAt
def L5 (k:IntKind)(x:Int):Prop:=k.min<=x/\x<=k.max
structure Rd (P:Program)(t:TypeId){α:Type}(T:Ty α)(wf:α->Prop):Prop where
 get:∀{H:Type} {enc:TypeId×Value->H} {W:World} {sp:Nat->Bool} {held:Bool} {fuel:Nat} {cs:List Value} {d:DataW H} {ps:List MemPlace},
  DataW.trod enc P W 0 sp held fuel t cs=some (d,ps)->(∀p∈ps,p.block<W.heap.size)->∃x,T.R W.heap C3 cs x/\wf x
section
variable {P:Program}{t e:TypeId}
def Rd.int {k:IntKind}(a:P.underlying t=some (.int k)):Rd P t (P1 k) (L5 k):=⟨by
 intro H enc W sp held fuel cs d ps h _;cases fuel with
 |zero=>simp[DataW.trod]at h
 |succ f=>
  simp only[DataW.trod,a]at h;split at h<;>simp_all
  obtain⟨⟨rfl,hw⟩,_⟩:=h;simp only[Lit.wf,Bool.and_eq_true,decide_eq_true_eq]at hw;exact⟨_,rfl,hw⟩⟩
def Rd.bool (a:P.underlying t=some .bool):Rd P t l8 (fun _=>True):=⟨fun h _=>by
 obtain⟨b,rfl,_⟩:=DataW.trod_bool a h;exact⟨b,rfl,trivial⟩⟩
theorem u0m {α β:Type}{f:α->Option β}:∀{l:List α} {r:List β},l.mapM f=some r->l.length=r.length/\∀(i:Nat) (x:α),l[i]?=some x->∃y,r[i]?=some y/\f x=some y
 |[],r,h=>by simp_all
 |x :: xs,r,h=>by
  cases b:f x with
  |none=>simp_all
  |some y=>
   cases a:xs.mapM f with
   |none=>simp_all
   |some ys=>
    simp[b,a]at h;obtain⟨h1,c⟩:=u0m a
    grind
theorem cells?_get {W:World}{base:Nat}{a:Addr}{n:Nat}{cs:List Value}(h:W.cells? base a n=some cs):cs.length=n/\∀(j:Nat) (v:Value),cs[j]?=some v->W.cell? (a.add j)=some v:=by
 unfold World.cells? at h;split at h
 ·obtain⟨h1,b⟩:=u0m h;simp at h1;refine⟨h1.symm,fun j v f=>?_⟩;obtain⟨y,c,d⟩:=b j j (by grind)
  simp_all
 grind
theorem m0M {α:Type}{Q:Nat->α->Prop}:∀(n:Nat),(∀i,i<n->∃x,Q i x)->∃xs:List α,xs.length=n/\∀(i:Nat) (x:α),xs[i]?=some x->Q i x
 |0,_=>⟨[],rfl,fun i x h=>by grind⟩
 |n+1,h=>by
  obtain⟨xs,hl,b⟩:=m0M n (fun i hi=>h i O');obtain⟨y,a⟩:=h n O';refine⟨xs++[y],by grind,fun i x hi=>?_⟩
  grind
theorem Rd.slice {α:Type}{T:Ty α}{wf:α->Prop}(C:P.underlying t=some (.slice e))(hE:P.cellsOf e=T.sz)(J:0<T.sz)(R:Rd P e T wf):Rd P t (O4 T) (fun l=>∀x∈l,wf x):=⟨by
 intro H enc W sp held fuel cs d ps h hp;rcases DataW.trod_slice C h with⟨rfl,_⟩|⟨a,len,cap,elems,rest,f,rfl,rfl,k,_,hle,_,hel,hget,_,_⟩
 ·exact⟨[],⟨none,0,rfl,Sl.nil⟩,Z'⟩
 ·cases k;have m:∀j,j<len*P.cellsOf e->MemPlace.cell a.block (a.off+j)∈MemPlace.row a ((elems.length+rest.length)*P.cellsOf e):=fun j u=>MemPlace.mem_row.2 ⟨j,Nat.lt_of_lt_of_le u (Nat.mul_le_mul_right _ O'),rfl⟩;have key:∀i,i<len->∃x,(∃cs,T.R W.heap C3 cs x/\∀j v,cs[j]?=some v->W.cell? ((a.add (i*P.cellsOf e)).add j)=some v)/\wf x:=fun i hi=>by
   have n:=hget i hi;rw[List.getElem?_eq_getElem O']at n;simp only[bind_eq_some_iff]at n;obtain⟨cs,a1,r⟩:=n;obtain⟨x,k,hw⟩:=R.get r (fun p I=>hp p (by
    grind))
   grind [cells?_get]
  obtain⟨xs,q,s⟩:=m0M len key;have c:xs≠[]->∃b o,a=⟨b,o,none⟩/\b<W.heap.size:=fun g=>by
   have w:0<len:=by
    grind
   obtain⟨x,⟨⟨cs,hR,y⟩,_⟩⟩:=key 0 w;have U:=T.len hR;have h1:=y 0 cs[0] Z';obtain⟨b,o,spot⟩:=a;have:spot=none:=by
    have:=World.cell?_spot h1
    simp_all[Addr.add]
   subst this;refine⟨b,o,rfl,?_⟩;have:=hp (.cell b (o+0)) (by
    simp only[List.mem_append];exact .inl (m 0 (Nat.mul_pos w O')))
   exact this
  subst q;refine⟨xs,⟨some a,cap,rfl,hle,fun g=>?_,fun i x k=>?_⟩,fun x k=>?_⟩
  ·obtain⟨b,o,rfl,z⟩:=c g;exact⟨b,o,rfl,z,fun h=>h⟩
  ·have g:xs≠[]:=by grind
   obtain⟨b,o,rfl,z⟩:=c g;obtain⟨⟨cs,hR,y⟩,_⟩:=s i x k;refine⟨b,o,cs,rfl,hR,fun j v u=>?_⟩
   simp_all[n0g]
  grind [List.getElem?_of_mem]⟩
theorem D0J {H:Type}{enc:TypeId×Value->H}{W:World}{sp:Nat->Bool}{held:Bool}{fuel:Nat}{cs:List Value}{d:DataW H}{ps:List MemPlace}{fs:Array Field}(c:P.underlying t=some (.struct fs))
  (h:DataW.trod enc P W 0 sp held fuel t cs=some (d,ps)) (hp:∀p∈ps,p.block<W.heap.size):
  cs.length=P.cellsOf t/\∀(i:Nat) (f:Field),fs[i]?=some f->∃n k b,DataW.trod enc P W 0 sp held n f.type ((cs.drop f.offset).take (P.cellsOf f.type))=some (k,b)/\∀p∈b,p.block<W.heap.size:=by
 obtain⟨xs,n,rfl,l,hl,j,a⟩:=DataW.trod_struct c h;refine⟨hl,fun i f g=>?_⟩;have:=a i f g
 grind [List.getElem_mem]
def Rd.field {α:Type}{T:Ty α}{wf:α->Prop}{f:Field}{H:Type}{enc:TypeId×Value->H}{W:World}{sp:Nat->Bool}{held:Bool}{cs:List Value}(R:Rd P f.type T wf)
  (h:∃n b a,DataW.trod enc P W 0 sp held n f.type ((cs.drop f.offset).take (P.cellsOf f.type))=some (b,a)/\∀p∈a,p.block<W.heap.size):
  ∃x,T.R W.heap C3 ((cs.drop f.offset).take (P.cellsOf f.type)) x/\wf x:=by
 obtain⟨n,b,a,h1,c⟩:=h;exact R.get h1 c
def s05 {H:Type}{enc:TypeId×Value->H}(hl:laidOutB P=true){W f:World}(g:Below W.heap.size W f):∀{ts:List TypeId} {vs:List Value} {a:List (DataW H)} {ps:List MemPlace},
  (ts.all fun t=>P.readableRec t&&decide (t<P.types.size))=true->DataW.TrodAll enc P W 0 (fun _=>true) true ts vs a ps->(∀x∈ps,x.block<W.heap.size)->DataW.TrodAll enc P f 0 (fun b=>decide (b<W.heap.size)) true ts vs a ps
 |[],[],[],_,_,h,_=>h
 |[],[],_ :: _,_,_,h,_=>h.elim
 |[],_ :: _,_,_,_,h,_=>h.elim
 |_ :: _,[],_,_,_,h,_=>h.elim
 |_ :: _,_ :: _,[],_,_,h,_=>h.elim
 |t :: ts,v :: vs,d :: a,ps,hr,⟨p,q,h1,h2,e⟩,hp=>by
  simp only[List.all_cons,Bool.and_eq_true,decide_eq_true_eq]at hr;subst e;exact⟨p,q,Below.trod hl hr.1.1 hr.1.2 h1 g (fun x c=>hp x (List.mem_append_left _ c)),s05 hl g hr.2 h2 (fun x c=>hp x (List.mem_append_right _ c)),rfl⟩
def A0X {C:Checked}{os:Os}{f:FuncId}{fn:Func}{s:ChangeSpec}{tb:TypeId}{H:Type}{enc:TypeId×Value->H}(own:ownKnob C.prog.godebug=none)(started:os.Started)(b:C.prog.inits.idxOf? f=none)(o:C.prog.funcs[f]?=some fn)(hl:laidOutB C.prog=true)
  (l:fn.resultTypes=#[tb]) (n:C.prog.underlying tb=some .bool) (d:s.vars=[]) (u:(fn.params.toList.all fun t=>C.prog.readableRec t&&decide (t<C.prog.types.size))=true)
  (witness:∃(w:World) (tape:Tape) (i:Input),w.os=os/\(w.forCall tape i).Shaped C.prog/\i.vars=[]/\Input.okWide C.prog (w.forCall tape i) .any w.heap.size f i/\
   s.pre6 enc C.prog fn [] false (w.forCall tape i).memory i.args/\({}:Assume).holds C.prog (lone (Frame.enter C.prog f i.args .normal) [] (w.forCall tape i)))
  (c:∀(W:World) (args:Array Value) (a:List (DataW H)) (p:List MemPlace),DataW.TrodAll enc C.prog W 0 (fun _=>true) true fn.params.toList args.toList a p->(s.fn H (a++[])).results=[.lit (.bool true)]/\(s.fn H (a++[])).args=a/\(s.fn H (a++[])).vars=[])
  (body:∀(W:World) (base:Nat) (args:Array Value) (a:List (DataW H)) (p:List MemPlace),(∀(j:Nat) t v,fn.params[j]?=some t->args[j]?=some v->Value.okWide C.prog W .any base t v)->
   DataW.TrodAll enc C.prog W 0 (fun _=>true) true fn.params.toList args.toList a p->(∀x∈p,x.block<W.heap.size)->(DataW.weightsEach C.prog fn.params.toList a).all (·<=reachBytes)=true->
   Calls C.prog f args W fun e z=>e=.returned (.bool true)/\Below W.heap.size W z):
  ReturnsInHanded {} C os f .any (s.pre6 enc C.prog fn [] false) (s.post enc C.prog fn false true false false):=by
 refine returnsInHanded_of_change_sized own started b o witness ?_;intro W base args a gs before m I _ k _;have g:=I;obtain⟨p,q,R,J,rfl,_,_⟩:=I;rw[d]at J;obtain⟨rfl,rfl⟩:=trodVars_none J;have r:∀x∈p,x.block<W.heap.size:=fun x hx=>by simpa using g.lt x (List.mem_append_left _ hx)
 have y:s.plain.varTypes C.prog=[]:=by unfold ChangeSpec.plain;simp[DataSpec.varTypes,d]
 rw[y,List.append_nil,List.append_nil]at k;refine(body W base args a p m R r k).mono fun e z ⟨he,hb⟩=>?_;subst he;obtain⟨s1,s2,U⟩:=c W args a p R;refine⟨_,rfl,a,[],p++[],[],p,[],g,?_,?_,?_,hb.frame _,fun h=>by cases h⟩
 ·rw[s1,l];exact trodAll_cons_mk (shut_bool n _) trodAll_mk0
 ·simp_all[s05]
 ·rw[U,d];rfl
def B0L {H:Type}{enc:TypeId×Value->H}{W:World}{fuel n c:Nat}{A:Option Addr}{d:DataW H}{ps:List MemPlace}{ts:List TypeId}{i:List (DataW H)}{j:Nat}(g:P.underlying t=some (.slice e))
  (h:DataW.trod enc P W 0 (fun _=>true) true fuel t (Value.slice A n c).cells.toList=some (d,ps)) (b:(DataW.weightsEach P ts i).all (·<=reachBytes)=true) (k:ts[j]?=some t) (hd:i[j]?=some d):n*P.bytesOf e<=140737488351232:=by
 rcases DataW.trod_slice g h with⟨he,_⟩|⟨a,len,cap,elems,rest,f,rfl,he,hx,_,hle,_,hel,hget,_,_⟩
 ·simp_all[Value.cells]
 ·cases hx;simp[Value.cells]at he;have:=sized_slice b k hd g;simp only[List.length_map,hel]at this;have l:n*P.bytesOf e<=(len+rest.length)*P.bytesOf e:=Nat.mul_le_mul_right _ O';have m:reachBytes=140737488351232:=rfl;omega
end
