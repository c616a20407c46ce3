/- P. Its conditions: none. -/
import Derived.Test.YtihmgaccbcfgjaaGreatQG27
import Derived.Carry
import Derived.Maps.Own
import Derived.Test.YtihmgaccbcfgjaaGreatQG21
import Derived.Test.YtihmgaccbcfgjaaGreatQG22
import Derived.Test.YtihmgaccbcfgjaaGreatQG23
import Derived.Test.YtihmgaccbcfgjaaGreatQX16
import Derived.Test.YtihmgaccbcfgjaaGreatQX17
import Derived.Test.YtihmgaccbcfgjaaGreatQG28
import Derived.Test.YtihmgaccbcfgjaaGreatQJn
open Nat (le_refl mul_one add_mul)
open Option (bind_eq_some_iff)
set_option linter.all false
set_option maxRecDepth 100000
namespace Go.Proofs.YtihmgaccbcfgjaaGreat
open Go.RowKit Go.Proofs
def u0h {B b:Nat}{c:List Value}{w w1:World}(h:Lib.IsBuilder 213 5 B b c w)(a:Below w.heap.size w w1):Lib.IsBuilder 213 5 B b c w1:=by
 have hg:w.grownBy w1 none:=⟨a.os,a.tape,a.output,a.size,fun k hk _=>a.block k hk⟩
 have key:∀p,Lib.BuilderAt 213 5 B b p c w->Lib.BuilderAt 213 5 B b p c w1:=by
  rintro p ⟨f,v,hbk,hown,hne⟩
  have d:b<w.heap.size:=(Array.getElem?_eq_some_iff.1 hbk).1;exact⟨f,v,(a.block b d).trans hbk,hown.kept hg (by cases g:v.ownBlock<;>simp),hne⟩
 rcases h with h|h
 ·exact .inl (key _ h)
 ·exact .inr (key _ h)
def i09 (w:World)(o:Obj):Below w.heap.size w (w.alloc o):=(Below.refl _ w).alloc (le_refl _) _
def m0w {B:Nat}{w w1 b:World}(h:Below B w w1)(c:B<=w1.heap.size)(a:Below w1.heap.size w1 b):Below B w b:=
 ⟨a.os.trans h.os,a.tape.trans h.tape,a.output.trans h.output,Nat.le_trans h.size a.size,fun k hk=>(a.block k (Nat.lt_of_lt_of_le hk c)).trans (h.block k hk)⟩
open Go.V hiding Row
open Go.X
def G0d {E:Env}{H:I0}{S:D0}{s:List Int}(h:s.length=4):(J0 E (.arr 4 (.int .u64))).R H S (s.map fun x=>Value.int .u64 x) s:=by
 refine⟨h,by rw[List.length_map];exact(mul_one _).symm,fun i (x:Int) hx=>?_⟩;have hi:i<s.length:=(List.getElem?_eq_some_iff.1 hx).1;have a:(s[i]:Int)=x:=Option.some.inj ((List.getElem?_eq_getElem hi).symm.trans hx);show((s.map fun x=>Value.int .u64 x).drop (i*1)).take 1=[.int .u64 x];rw[mul_one,List.drop_eq_getElem_cons (by simpa using hi)];simp[a]
def G0c {E:Env}{H:I0}{S:D0}{s:List Int}{c:List Value}(h:(J0 E (.arr 4 (.int .u64))).R H S c s):s.length=4/\c=s.map fun x=>Value.int .u64 x:=by
 obtain⟨h1,b,d⟩:=h;refine⟨h1,?_⟩;have b:c.length=s.length*1:=b;apply List.ext_getElem?;intro i
 by_cases hi:i<s.length
 ·have a:=d i s[i] (List.getElem?_eq_getElem hi);have a:(c.drop (i*1)).take 1=[.int .u64 s[i]]:=a;rw[mul_one]at a;have:=congrArg (fun l=>l[0]?) a;simp only[List.getElem?_take_of_lt (Nat.zero_lt_one),List.getElem?_drop,Nat.add_zero,List.getElem?_cons_zero]at this;rw[this];simp[hi]
 ·rw[List.getElem?_eq_none O',List.getElem?_eq_none Y']
def x0M {F:Nat}(h:U0 en (d0m F))(w:World){s:List Int}(hs:s.length=4){b:Int}{r:Bool}(hm:e0H F s b=some r):
  Calls Tryz.prog 168 #[.agg (s.map fun x=>Value.int .u64 x).toArray,.int .u8 b] w fun e w1=>e=.returned (.bool r)/\Below w.heap.size w w1:=by
 have a:E2 en w.heap (fun _=>False) [.d (.arr 4 (.int .u64)),.d (.int .u8)] ((s,b):List Int×Int) [.agg (s.map fun x=>Value.int .u64 x).toArray,.int .u8 b] []:=by
  refine U9 (x:=.d (.arr 4 (.int .u64))) (r:=[.d (.int .u8)]) ⟨s.map fun x=>Value.int .u64 x,_,[.int .u8 b],[],[],rfl,rfl,rfl,?_,?_⟩
  ·unfold SR;exact⟨rfl,G0d hs⟩
  ·refine U9 (x:=.d (.int .u8)) (r:=[]) ⟨[.int .u8 b],_,[],[],[],rfl,rfl,rfl,?_,a0M⟩;unfold SR;exact⟨rfl,rfl⟩
 refine(h w (fun _=>False) _ [] ((s,b):List Int×Int) r hm a (fun _ h=>h.elim) (by rintro b ⟨v,c,_⟩;simp at c) (by intro i j v m _ c;simp at c)).mono ?_
 rintro e w1 ⟨v,S1,pl1,rfl,a,hb,hk,hs1,hs2,hap,hbl⟩
 have a:E2 en w1.heap S1 [.d .bool] r [v] pl1:=a;unfold E2 at a;obtain⟨c1,u,g,p1,l,e0,rfl,f,h1,n⟩:=a;cases e0;unfold SR at h1;obtain⟨rfl,h1⟩:=h1;have h1:c1=[.bool r]:=h1;subst h1;have f:v=.bool r:=f;subst f;exact⟨rfl,hb.os,hb.tape,hb.output,hb.size,fun k hk=>hb.block k hk (by rintro⟨v,c,_⟩;simp at c)⟩
def Z7 (ks:List Bool):List UInt8:=ks.map fun x=>if x then 49 else 48
def r0C {F:Nat}{b:Int}:∀{l:List (List Int)} {ks:List Bool},d0l F b l=some ks->ks.length=l.length/\∀k<l.length,∃x,e0H F (gt l (k:Int)) b=some x/\ks[k]?=some x
 |[],ks,h=>by cases h;exact⟨rfl,fun k hk=>by simp at hk⟩
 |s :: r,ks,h=>by
  unfold d0l at h;obtain⟨x,h1,h⟩:=bind_eq_some_iff.1 h;obtain⟨y,c,h⟩:=bind_eq_some_iff.1 h;cases h;obtain⟨g1,g2⟩:=r0C c;refine⟨by simp[g1],fun k hk=>?_⟩;cases k with
  |zero=>exact⟨x,by rw[X2 (x:=s) X'];exact h1,X'⟩
  |succ k=>
   obtain⟨z,d,z2⟩:=g2 k (by simpa using hk);have a:r[k]?=some (gt r (k:Int)):=by
    rw[X2 (x:=r[k]'(by simpa using hk)) X'];simp
   refine⟨z,?_,by simpa using z2⟩;rw[X2 (x:=gt r (k:Int)) (by simpa using a)];exact d
def j0b {W:World}{b o:Nat}{v:Value}(h:O1 W.heap b o=some v):W.cell? ⟨b,o,none⟩=some v:=by
 unfold O1 at h;simp only[World.cell?];exact h
set_option maxHeartbeats 4000000 in
def D08 {F:Nat}(hh:U0 en (d0m F))(w:World)(b:Int)(l:List (List Int))(A:Option Addr)(c:Nat)
  (h:l≠[]->∃bb o,A=some ⟨bb,o,none⟩/\bb<w.heap.size/\∀k:Nat,k<l.length->(gt l (k:Int)).length=4/\∀j:Nat,j<4->O1 w.heap bb (o+k*4+j)=some (.int .u64 ((gt l (k:Int)).getD j 0)))
  {ks:List Bool} (hm:d0l F b l=some ks) (hlen:l.length<=1000000000):
  Calls Tryz.prog 145 #[.int .u8 b,.slice A l.length c] w fun e w1=>e=.returned (.string ⟨(Z7 ks).toArray⟩)/\Below w.heap.size w w1:=by
 obtain⟨a1,z⟩:=r0C hm
 go_enter Tryz.func145,Tryz.ntmps145
 go_wp2
 go_loopw [10] (fun i wr=>∃k:Nat,k<=l.length/\i=.int .i64 k/\Lib.IsBuilder 213 5 w.heap.size w.heap.size (Lib.byteCells ((Z7 ks).take k)) wr/\Below w.heap.size w wr) (fun i wr=>l.length-(intOf i).toNat)
 case atStart=>exact⟨0,Nat.zero_le _,rfl,Lib.fresh_isBuilder 213 5 w,i09 _ _⟩
 case round=>
  obtain⟨k,hk,rfl,U,p⟩:=hrel
  by_cases hd:k=l.length
  ·have d1:decide ((k:Int)<(l.length:Int))=false:=by simp;omega
   have q:=U;rw[show(Z7 ks).take k=Z7 ks from List.take_of_length_le (by unfold Z7;simp;omega)]at q
   go_wp2_with (go_at_call 170;refine(Tryz.Builder_String_any w.heap.size w.heap.size _ _ q p.size).mono ?_)
   rintro e R ⟨rfl,hb2⟩
   go_wp2
   go_ret
   exact⟨rfl,p.trans hb2⟩
  ·have n:k<l.length:=O'
   have d1:decide ((k:Int)<(l.length:Int))=true:=by simp;omega
   obtain⟨bb,o,rfl,C,g⟩:=h (by intro e;simp[e]at n);obtain⟨h4,g⟩:=g k n;obtain⟨x,hx,I⟩:=z k n;generalize gt l (k:Int)=s at *;obtain⟨s0,s1,s2,s3,rfl⟩:∃a b c d,s=[a,b,c,d]:=by
    match s,h4 with
    |[a,b,c,d],_=>exact⟨a,b,c,d,rfl⟩
   have f:wr.heap[bb]?=w.heap[bb]?:=p.block bb C;have J:=g 0 O';have c1:=g 1 O';have c2:=g 2 O';have c3:=g 3 O';have e0:wr.cell? ⟨bb,o+k*4,none⟩=some (.int .u64 s0):=j0b (by unfold O1 at J ⊢;rw[f];exact J);have e1:wr.cell? ⟨bb,o+k*4+1,none⟩=some (.int .u64 s1):=j0b (by unfold O1 at c1 ⊢;rw[f];exact c1);have e2:wr.cell? ⟨bb,o+k*4+2,none⟩=some (.int .u64 s2):=j0b (by unfold O1 at c2 ⊢;rw[f];exact c2);have e3:wr.cell? ⟨bb,o+k*4+3,none⟩=some (.int .u64 s3):=j0b (by unfold O1 at c3 ⊢;rw[f];exact c3);clear g J c1 c2 c3 h
   go_wp2_with (go_at_call 168;refine(x0M hh _ (s:=[s0,s1,s2,s3]) rfl hx).mono ?_)
   rintro e R ⟨rfl,hb2⟩
   have t:=u0h (u0h U (i09 wr _)) hb2;have m:Below w.heap.size w R:=m0w (m0w p p.size (i09 wr _)) (by have:=p.size;simp;omega) hb2;have r:(Z7 ks).take (k+1)=(Z7 ks).take k++[if x then 49 else 48]:=by
    rw[List.take_succ];unfold Z7;rw[List.getElem?_map,I];cases x<;>rfl
   have y:(Lib.byteCells ((Z7 ks).take k)).length+1<=140737488355328:=by rw[Lib.byteCells_length,List.length_take];omega
   cases x with
   |true=>
    go_wp2_with (go_at_call 169;refine(v0Z w.heap.size w.heap.size _ 49 _ t y m.size).mono ?_)
    rintro e w3 ⟨rfl,hI3,hb4⟩
    go_wp2
    go_roundw
    case rel=>exact⟨k+1,O',by go_num,by rw[r,Lib.byteCells_append];exact .inr hI3,m.trans hb4⟩
    case measure=>simp[intOf];omega
   |false=>
    go_wp2_with (go_at_call 169;refine(v0Z w.heap.size w.heap.size _ 48 _ t y m.size).mono ?_)
    rintro e w3 ⟨rfl,hI3,hb4⟩
    go_wp2
    go_roundw
    case rel=>exact⟨k+1,O',by go_num,by rw[r,Lib.byteCells_append];exact .inr hI3,m.trans hb4⟩
    case measure=>simp[intOf];omega
end Go.Proofs.YtihmgaccbcfgjaaGreat
set_option maxRecDepth 100000
namespace Go.Proofs.YtihmgaccbcfgjaaGreat
open Go.RowKit Go.Proofs
def a0s (k:List Bool):Value:=.string ⟨(Z7 k).toArray⟩
def r0P (es:List MapEntry)(ks:List (List Bool))(d:Int):Prop:=es.length=ks.length/\∀i:Nat,∀h:i<ks.length,(es[i]?.map fun e=>(e.key,e.val))=some (a0s (ks[i]'h),.int .i64 (d+i))
def v0e:∀{a b:List Bool},Z7 a=Z7 b->a=b
 |[],[],_=>rfl
 |[],_ :: _,h=>by cases h
 |_ :: _,[],h=>by cases h
 |x :: a,y :: b,h=>by
  simp only[Z7,List.map_cons,List.cons.injEq]at h;obtain⟨h1,c⟩:=h;have c:=v0e (a:=a) (b:=b) c;subst c;cases x<;>cases y<;>first|rfl|(exfalso;revert h1;decide)
def A0W (a b:List UInt8):((⟨a.toArray⟩:ByteArray)==⟨b.toArray⟩)=decide (a=b):=by
 show(a.toArray==b.toArray)=decide (a=b)
 by_cases h:a=b
 ·subst h;simp
 ·have:(a.toArray==b.toArray)=false:=by simpa using h
  rw[this];simp[h]
def r0H (a b:List Bool):((⟨(Z7 a).toArray⟩:ByteArray)==⟨(Z7 b).toArray⟩)=decide (a=b):=by
 rw[A0W]
 by_cases h:a=b
 ·subst h;simp
 ·have:¬Z7 a=Z7 b:=fun e=>h (v0e e);simp[h,this]
def n0Q (k:List Bool):∀(es:List MapEntry) (ks:List (List Bool)) (d:Int),r0P es ks d->∀n:Nat,
  (ks.contains k=false/\Instr.findNow .string (a0s k) es n=some none)\/
  (ks.contains k=true/\ks.idxOf k<ks.length/\Instr.findNow .string (a0s k) es n=some (some (n+ks.idxOf k,.int .i64 (d+(ks.idxOf k:Nat)))))
 |[],ks,d,⟨h,_⟩,n=>by
  obtain rfl:ks=[]:=List.eq_nil_of_length_eq_zero h.symm;exact .inl ⟨rfl,rfl⟩
 |e :: es,[],d,⟨h,_⟩,n=>by simp at h
 |e :: es,x :: ks,d,⟨h,hg⟩,n=>by
  have g:=hg 0 X';simp only[List.getElem?_cons_zero,Option.map_some,Option.some.injEq,Prod.mk.injEq,List.getElem_cons_zero,Int.natCast_zero,Int.add_zero,a0s]at g;obtain⟨h1,j⟩:=g
  by_cases c:x=k
  ·subst c;refine .inr ⟨X',X',?_⟩;simp[Instr.findNow,Instr.sameNow,h1,j,a0s,r0H]
  ·have hs:Instr.sameNow .string (a0s k) e.key=some false:=by
    have:¬k=x:=fun e=>c e.symm;simp[Instr.sameNow,h1,a0s,r0H,this]
   have f:(x==k)=false:=by simpa using c
   have b:(k==x)=false:=by simp;exact fun e=>c e.symm
   rcases n0Q k es ks (d+1) ⟨by simpa using h,fun i hi=>by
    have:=hg (i+1) (by simpa using hi);simp only[List.getElem?_cons_succ,List.getElem_cons_succ]at this;rw[this];congr 3;push_cast;omega⟩ (n+1)with⟨f1,f2⟩|⟨f1,f2,f3⟩
   ·refine .inl ⟨by simp only[List.contains_cons,b,f1];rfl,?_⟩;simp[Instr.findNow,hs,f2]
   ·have a:(x :: ks).idxOf k=ks.idxOf k+1:=by simp[List.idxOf_cons,f]
    refine .inr ⟨by simp only[List.contains_cons,b,f1];rfl,by rw[a];simpa using f2,?_⟩;rw[a];simp[Instr.findNow,hs,f3,Nat.add_assoc,Nat.add_comm 1];omega
end Go.Proofs.YtihmgaccbcfgjaaGreat
set_option maxRecDepth 100000
namespace Go.Proofs.YtihmgaccbcfgjaaGreat
open Go.RowKit Go.Proofs
open Go.V hiding Row
open Go.X
def F0j:(Tryz.prog.info? 3).map (fun i=>(i.zero,i.size,i.bytes))=some (some (.int .i64 0),1,8):=Z'
def a04 (w:World)(r:Nat)(ks:List (List Bool)):Prop:=∃es clock,w.heap[r]?=some (.map es clock)/\r0P es.toList ks 0
def a04.lt {w:World}{r:Nat}{ks:List (List Bool)}(h:a04 w r ks):r<w.heap.size:=by
 obtain⟨es,cl,he,_⟩:=h;exact(Array.getElem?_eq_some_iff.1 he).1
def a04.old {w w1:World}{r:Nat}{ks:List (List Bool)}(h:a04 w r ks)(e:w1.heap[r]?=w.heap[r]?):a04 w1 r ks:=by
 obtain⟨es,cl,he,hm⟩:=h;exact⟨es,cl,e.trans he,hm⟩
def t09 {em:Bool}{a:TypeId}{k:ByteArray}(hk:Tryz.prog.underlying a=some .string)(w:World):(Instr.checkKey em 10000 a (.string k)).run Tryz.prog w=.ok () w:=by
 show(Instr.checkKey em (9999+1) a (.string k)).run Tryz.prog w=.ok () w;generalize 9999=q;simp[Instr.checkKey,run_underlying hk]
def C0f {w:World}{r:Nat}{ks:List (List Bool)}(h:a04 w r ks)(k:List Bool):
  (Instr.lookup 199 (.map (some r)) (a0s k) true).run Tryz.prog w=.ok (.tuple #[.int .i64 (if ks.contains k then(ks.idxOf k:Int)else 0),.bool (ks.contains k)]) w:=by
 obtain⟨es,cl,he,hm⟩:=h;have hg:(getObj r).run Tryz.prog w=.ok (.map es cl) w:=e08 he;have b:(zeroValue 3).run Tryz.prog w=.ok (.int .i64 0) w:=Tryz.zeroValue3 w;have a:∀em,(Instr.checkKey em 10000 9 (.string ⟨(Z7 k).toArray⟩)).run Tryz.prog w=.ok () w:=fun em=>t09 Tryz.underlying9 w;rcases n0Q k es.toList ks 0 hm 0 with⟨f1,f2⟩|⟨f1,f2,f3⟩
 ·rw[f1];unfold a0s at f2 ⊢;simp[Instr.lookup,run_underlying Tryz.underlying199,hg,a,Instr.findKey,run_underlying Tryz.underlying9,f2,b]
 ·rw[f1];unfold a0s at f3 ⊢;simp[Instr.lookup,run_underlying Tryz.underlying199,hg,a,Instr.findKey,run_underlying Tryz.underlying9,f3]
def E0p {w:World}{r:Nat}{ks:List (List Bool)}(h:a04 w r ks){k:List Bool}(hk:ks.contains k=false):
  ∃w1,(Instr.mapUpdate 199 (.map (some r)) (a0s k) (.int .i64 (ks.length:Int))).run Tryz.prog w=.ok () w1/\a04 w1 r (ks++[k])/\j5 r w w1:=by
 obtain⟨es,cl,he,hm⟩:=h;have hg:(getObj r).run Tryz.prog w=.ok (.map es cl) w:=e08 he;have b:∀em,(Instr.checkKey em 10000 9 (.string ⟨(Z7 k).toArray⟩)).run Tryz.prog w=.ok () w:=fun em=>t09 Tryz.underlying9 w;rcases n0Q k es.toList ks 0 hm 0 with⟨f1,f2⟩|⟨f1,f2,f3⟩
 ·refine⟨b0D w r (.map (es.push ⟨a0s k,.int .i64 (ks.length:Int),cl⟩) (cl+1)),?_,⟨_,_,u0p he,?_⟩,q0d w r _⟩
  ·unfold a0s at f2 ⊢;simp[Instr.mapUpdate,run_underlying Tryz.underlying199,hg,b,Instr.findKey,run_underlying Tryz.underlying9,f2,m0F he]
  ·obtain⟨h1,c⟩:=hm;refine⟨by simpa using h1,fun i hi=>?_⟩;rw[Array.toList_push];simp only[List.length_append,List.length_cons,List.length_nil]at hi
   by_cases a:i<ks.length
   ·rw[List.getElem?_append_left O',List.getElem_append_left a];exact c i a
   ·obtain rfl:i=ks.length:=O'
    rw[List.getElem?_append_right O'];simp[h1]
 ·rw[hk]at f1;cases f1
def s0a {w:World}{r:Nat}{ks:List (List Bool)}(h:a04 w r ks)(ty:TypeId):
  (Builtin.len_ #[199] ty #[.map (some r)]).run Tryz.prog w=.ok (.int .i64 (ks.length:Int)) w:=by
 obtain⟨es,cl,he,hm⟩:=h;have hg:(getObj r).run Tryz.prog w=.ok (.map es cl) w:=e08 he;have hl:es.size=ks.length:=by simpa using hm.1
 simp[Builtin.len_,run_underlying Tryz.underlying199,hg,hl]
 try rfl
def D0Q {F:Nat}(d:U0 en (d0m F))(w:World)(b:Int)(l:List (List Int))(A:Option Addr)(c:Nat)
  (a:l≠[]->∃bb o,A=some ⟨bb,o,none⟩/\bb<w.heap.size/\∀k:Nat,k<l.length->(gt l (k:Int)).length=4/\∀j:Nat,j<4->O1 w.heap bb (o+k*4+j)=some (.int .u64 ((gt l (k:Int)).getD j 0)))
  {ks:List Bool} (hm:d0l F b l=some ks) (hlen:l.length<=1000000000):
  Calls Tryz.prog 145 #[.int .u8 b,.slice A l.length c] w fun e w1=>e=.returned (a0s ks)/\Below w.heap.size w w1:=D08 d w b l A c a hm hlen
set_option maxHeartbeats 4000000 in
def F0v {F:Nat}(hh:U0 en (d0m F))(w:World)(l:List (List Int))(A:Option Addr)(c:Nat)
  (J:l≠[]->∃bb o,A=some ⟨bb,o,none⟩/\bb<w.heap.size/\∀k:Nat,k<l.length->(gt l (k:Int)).length=4/\∀j:Nat,j<4->O1 w.heap bb (o+k*4+j)=some (.int .u64 ((gt l (k:Int)).getD j 0)))
  (st:Nat->List (List Bool)×List Int) (h0:st 0=([],[])) (hs:∀b<256,f04 F l (st b) b=some (st (b+1))) (e3:∀b,b<=256->(st b).1.length<=b/\(st b).2.length=b) (hlen:l.length<=1000000000):
  Calls Tryz.prog 112 #[.slice A l.length c] w fun e w1=>∃v,e=.returned (.tuple #[v,.int .i64 ((st 256).1.length:Int)])/\w1.ownsRow w.heap.size 3 1 v 256 ((st 256).2.map fun x=>Value.int .i64 x)/\Below w.heap.size w w1:=by
 obtain⟨i0,hi,b4,b3,b5⟩:=info_parts F0j;have e4:∀w:World,(Instr.makeMap 199 none).run Tryz.prog w=.ok (.map (some w.heap.size)) (w.alloc (.map #[] 0)):=fun w=>run_makeMap 199 w
 go_enter Tryz.func112,Tryz.ntmps112
 go_wp2
 go_loopw [5,11] (fun v i wr=>∃k:Nat,k<=256/\i=.int .i64 k/\a04 wr w.heap.size (st k).1/\wr.ownsRow (w.heap.size+1) 3 1 v k ((st k).2.map fun x=>Value.int .i64 x)/\Below w.heap.size w wr) (fun _ i _=>256-(intOf i).toNat)
 case atStart=>exact⟨0,Nat.zero_le _,rfl,by rw[h0];exact⟨#[],0,(Go.MapKept.heap_alloc w _).1,rfl,fun i h=>by simp at h⟩,by rw[h0];exact World.ownsRow_nil _ _ _ _,i09 _ _⟩
 case round=>
  obtain⟨k,hk,rfl,U,R,hb⟩:=hrel;have e5:=hb.size;have c8:=U.lt
  by_cases hd:k=256
  ·subst hd;have c7:=s0a U
   go_wp2
   go_ret2
   refine⟨_,rfl,?_,hb⟩;obtain⟨h1,h2⟩:=R;refine⟨h1,?_⟩;rcases h2 with h2|⟨g,cap,cur,h3,h4,h5⟩
   ·exact .inl h2
   ·exact .inr ⟨g,cap,cur,h3,O',h5⟩
  ·have b7:k<256:=O'
   have d1:decide ((k:Int)<256)=true:=by simp;omega
   have d2:IntKind.wrap .u8 (k:Int)=(k:Int):=by simp[IntKind.wrap,IntKind.bits,IntKind.signed];omega
   have d:=hs k b7;obtain⟨l1,l2⟩:=e3 k hk;unfold f04 at d;obtain⟨kk,c9,d⟩:=bind_eq_some_iff.1 d;have t:l≠[]->∃bb o,A=some ⟨bb,o,none⟩/\bb<wr.heap.size/\∀k:Nat,k<l.length->(gt l (k:Int)).length=4/\∀j:Nat,j<4->O1 wr.heap bb (o+k*4+j)=some (.int .u64 ((gt l (k:Int)).getD j 0)):=fun b6=>by
    obtain⟨bb,o,hA,h1,h2⟩:=J b6;refine⟨bb,o,hA,O',fun q hq=>⟨(h2 q hq).1,fun j y=>?_⟩⟩;have:=(h2 q hq).2 j y;unfold O1 at this ⊢;rw[hb.block bb h1];exact this
   go_wp2_with (go_at_call 145;refine(D0Q hh wr (k:Int) l A c t c9 hlen).mono ?_)
   rintro e w2 ⟨rfl,hb2⟩
   have p:=U.old (hb2.block _ c8);have z:Below w.heap.size w w2:=m0w hb hb.size hb2;have f:w2.ownsRow (w.heap.size+1) 3 1 u5 k ((st k).2.map fun x=>Value.int .i64 x):=World.ownsRow.kept (row:=none) R ⟨hb2.os,hb2.tape,hb2.output,hb2.size,fun k hk _=>hb2.block k hk⟩ (by cases hv:u5.ownBlock<;>simp);have I:=C0f p kk;clear J t U R;cases hc:(st k).1.contains kk with
   |true=>
    rw[hc]at I d;simp only[if_true]at I d;have d:=Option.some.inj d;generalize c0:((st k).1.idxOf kk:Int)=ix at *
    go_wp2_with (at_builtin;refine wpList_append_own _ rfl _ _ 22 rfl (w.heap.size+1) 3 i0 (.int .i64 0) 1 8 Tryz.underlying22 hi b4 b3 b5 rfl (by decide) _ _ _ rfl (f.alloc _) ⟨w2.heap.size,0,none⟩ 1 1 [.int .i64 ix] rfl rfl ?c1 ?c2 ?c3 ?c4 ?c5 ?_)
    case c1=>
     intro j u y
     match j,y with
     |0,y=>simp at y;subst y;simp[Addr.add]
    case c2=>intro u hu;simp at hu;subst hu;rfl
    case c3=>unfold maxLen;omega
    case c4=>omega
    case c5=>have:=z.size;simp;omega
    intro v' w3 n m _;have r:a04 w3 w.heap.size (st k).1:=(p.old (Below.heap_alloc _ _ _ p.lt)).old (m.block _ (by simp;exact Nat.lt_succ_of_lt p.lt) (fun e=>by have:=(f.lt _ e.symm).1;omega));have C:Below w.heap.size w w3:=(z.alloc z.size _).grown m (by have:=z.size;simp;omega) (fun g hg=>by have:=(f.lt g hg).1;omega);clear m f p I;have e1:(st (k+1)).1=(st k).1:=by rw[<-d]
    have e2:(st (k+1)).2=(st k).2++[ix]:=by rw[<-d]
    have s:w3.ownsRow (w.heap.size+1) 3 1 v' (k+1) ((st (k+1)).2.map fun x=>Value.int .i64 x):=by rw[e2,List.map_append];exact n
    rw[<-e1]at r;clear n d e1 e2
    go_wp2
    go_roundw
    case rel=>exact⟨k+1,O',by go_num,r,s,C⟩
    case measure=>simp[intOf];omega
   |false=>
    rw[hc]at I d;simp only[if_false,Bool.false_eq_true]at I d;have d:=Option.some.inj d;obtain⟨w3,c6,r,a⟩:=E0p p hc;have b2:=s0a p;have C:Below w.heap.size w w3:=z.trans ⟨a.os,a.tape,a.output,a.size,fun j y=>a.block j (by have:=z.size;omega) O'⟩;have n:w3.ownsRow (w.heap.size+1) 3 1 u5 k ((st k).2.map fun x=>Value.int .i64 x):=World.ownsRow.kept (row:=some w.heap.size) f ⟨a.os,a.tape,a.output,a.size,fun j y hn=>a.block j y (fun e=>hn (by rw[e]))⟩ (.inr (fun e=>by have:=(f.lt _ e).1;omega));clear f p a;generalize c0:((st k).1.length:Int)=ix at *
    go_wp2_with (at_builtin;refine wpList_append_own _ rfl _ _ 22 rfl (w.heap.size+1) 3 i0 (.int .i64 0) 1 8 Tryz.underlying22 hi b4 b3 b5 rfl (by decide) _ _ _ rfl (n.alloc _) ⟨w3.heap.size,0,none⟩ 1 1 [.int .i64 ix] rfl rfl ?c1 ?c2 ?c3 ?c4 ?c5 ?_)
    case c1=>
     intro j u y
     match j,y with
     |0,y=>simp at y;subst y;simp[Addr.add]
    case c2=>intro u hu;simp at hu;subst hu;rfl
    case c3=>unfold maxLen;omega
    case c4=>omega
    case c5=>have:=C.size;simp;omega
    intro v' w4 s m _;have a1:a04 w4 w.heap.size ((st k).1++[kk]):=(r.old (Below.heap_alloc _ _ _ r.lt)).old (m.block _ (by simp;exact Nat.lt_succ_of_lt r.lt) (fun e=>by have:=(n.lt _ e.symm).1;omega));have b9:Below w.heap.size w w4:=(C.alloc C.size _).grown m (by have:=C.size;simp;omega) (fun g hg=>by have:=(n.lt g hg).1;omega);clear m n r I c6 b2;have e1:(st (k+1)).1=(st k).1++[kk]:=by rw[<-d]
    have e2:(st (k+1)).2=(st k).2++[ix]:=by rw[<-d]
    have b1:w4.ownsRow (w.heap.size+1) 3 1 v' (k+1) ((st (k+1)).2.map fun x=>Value.int .i64 x):=by rw[e2,List.map_append];exact s
    rw[<-e1]at a1;clear s d e1 e2
    go_wp2
    go_roundw
    case rel=>exact⟨k+1,O',by go_num,a1,b1,b9⟩
    case measure=>simp[intOf];omega
def w0b {α:Type}(f:α->Nat->Option α)(a:α):∀(n:Nat) (y:α),(List.range n).foldlM f a=some y->∃st:Nat->α,st 0=a/\(∀b<n,f (st b) b=some (st (b+1)))/\st n=y
 |0,y,h=>⟨fun _=>a,rfl,fun b g=>O',by simpa using h⟩
 |n+1,y,h=>by
  rw[List.range_succ,List.foldlM_append]at h;obtain⟨z,h1,d⟩:=bind_eq_some_iff.1 h;obtain⟨st,g1,g2,g3⟩:=w0b f a n z h1;have d:f z n=some y:=by simpa using d
  refine⟨fun b=>if b<=n then st b else y,by simp[g1],fun b g=>?_,by simp only[show ¬n+1<=n from O',if_false]⟩
  by_cases c:b<n
  ·simp only[show b<=n from O',show b+1<=n from O',if_true];exact g2 b c
  ·obtain rfl:b=n:=O'
   simp only[le_refl,if_true,show ¬b+1<=b from O',if_false];rw[g3];exact d
def x0F {F:Nat}{l:List (List Int)}{s t:List (List Bool)×List Int}{b:Nat}(h:f04 F l s b=some t)(h1:s.1.length<=b)(a:s.2.length=b):t.1.length<=b+1/\t.2.length=b+1:=by
 unfold f04 at h;obtain⟨k,_,h⟩:=bind_eq_some_iff.1 h;split at h
 ·cases h;exact⟨Y',by simp[a]⟩
 ·cases h;exact⟨Y',by simp[a]⟩
def v0r {E:Env}{H:I0}{S:D0}{t:U}{x:Q5 E.D (.d t)}{c:List Value}(h:(J0 E t).R H S c x):SR E H S (.d t) x c []:=by
 unfold SR;exact⟨rfl,h⟩
def B0k {H:I0}{S:D0}{c:List Value}{l:List (List Int)}(h:(J0 en (.list (.arr 4 (.int .u64)))).R H S c l):∃A g,c=[.slice A l.length g]/\
  (l≠[]->∃bb o,A=some ⟨bb,o,none⟩/\bb<H.size/\∀k:Nat,k<l.length->(gt l (k:Int)).length=4/\∀j:Nat,j<4->O1 H bb (o+k*4+j)=some (.int .u64 ((gt l (k:Int)).getD j 0))):=by
 obtain⟨A,g,rfl,d⟩:=(show(O4 (J0 en (.arr 4 (.int .u64)))).R H S c l from h)
 refine⟨A,g,rfl,fun f=>?_⟩;obtain⟨b,o,rfl,m,_⟩:=d.2.1 f;refine⟨b,o,rfl,m,fun k hk=>?_⟩;have hg:l[k]?=some (gt l (k:Int)):=by rw[X2 (x:=l[k]) (by simp[hk])];simp[hk]
 obtain⟨b',p,cs,e,hR,a⟩:=d.2.2 k (show List Int from gt l (k:Int)) hg;cases e;obtain⟨i,rfl⟩:=G0c hR;refine⟨i,fun j n=>?_⟩;have:=a j (.int .u64 ((gt l (k:Int)).getD j 0)) (by
  rw[List.getElem?_map,List.getD_eq_getElem?_getD];rw[List.getElem?_eq_getElem O'];rfl)
 exact this
def B0m {w w1:World}{S:D0}{v:Value}{xs:List Int}{n:Nat}(h:w1.ownsRow w.heap.size 3 1 v n (xs.map fun x=>Value.int .i64 x))(k:∀b,S b->b<w.heap.size):(J0 en (.list (.int .i64))).R w1.heap S [v] xs:=by
 obtain⟨hl,h⟩:=h;obtain rfl:xs.length=n:=by simpa using hl
 rcases h with⟨rfl,f⟩|⟨g,cap,cur,rfl,hb,hg,hc,hm,hs,ht⟩
 ·obtain rfl:xs=[]:=List.eq_nil_of_length_eq_zero f;exact⟨none,0,rfl,le_refl _,fun h=>absurd rfl h,fun i x a=>by cases a⟩
 ·refine⟨some ⟨g,0,none⟩,cap,rfl,hc,fun _=>⟨g,0,rfl,(Array.getElem?_eq_some_iff.1 hg).1,fun h=>by have:=k g h;omega⟩,fun i (x:Int) a=>⟨g,0,[.int .i64 x],rfl,rfl,fun j v d=>?_⟩⟩;have hi:i<xs.length:=(List.getElem?_eq_some_iff.1 a).1;obtain rfl:j=0:=by
   cases j with
   |zero=>rfl
   |succ j=>simp at d
  simp at d;subst d;have h1:(cur.toList.take (xs.length*1))[i]?=some (.int .i64 x):=by
   rw[ht,List.getElem?_map];have c:xs[i]?=some x:=a;rw[c];rfl
  rw[List.getElem?_take_of_lt O']at h1;show O1 w1.heap g (0+i*1+0)=_;unfold O1;rw[hg,Nat.zero_add,mul_one,Nat.add_zero];simpa using h1
def G0l (F:Nat)(J:U0 en (d0m F)):U0 en (o0i F):=by
 intro w S us pl x y hm f t C I;have f:E2 en w.heap S [.d (.list (.arr 4 (.int .u64)))] x us pl:=f;unfold E2 at f;obtain⟨c,u,U,p1,p2,rfl,rfl,o,h1,h2⟩:=f;obtain⟨rfl,rfl⟩:=c0e h2;unfold SR at h1;obtain⟨rfl,h1⟩:=h1;obtain⟨A,z,rfl,g⟩:=B0k h1;have o:u=.slice A (show List (List Int)from x).length z:=o;subst o;have hm:f0P F x=some y:=hm;unfold f0P at hm;split at hm
 rotate_left
 ·cases hm
 rename_i hlen;obtain⟨a1,hf,hm⟩:=bind_eq_some_iff.1 hm;cases hm;obtain⟨st,g1,g2,rfl⟩:=w0b _ _ _ _ hf;have n:∀b,b<=256->(st b).1.length<=b/\(st b).2.length=b:=by
  intro b a
  induction b with
  |zero=>rw[g1];simp
  |succ b ih=>
   obtain⟨i1,i2⟩:=ih O';exact x0F (g2 b O') i1 i2
 refine(F0v J w x A z g st g1 g2 n (of_decide_eq_true hlen)).mono ?_
 rintro e w1 ⟨v,rfl,hown,a⟩
 refine⟨_,S,[],rfl,?_,⟨a.os,a.tape,a.output,a.size,fun k hk _=>a.block k hk⟩,⟨a.size,fun b q hn=>⟨hn,a.block b q⟩⟩,fun b h _=>h,fun b h=>Nat.lt_of_lt_of_le (t b h) a.size,by intro i j v v' _ l;simp at l,by rintro b ⟨v,l,_⟩;simp at l⟩;have s:=B0m (S:=S) hown t;obtain⟨m,c2,l⟩:∃m c2,v=.slice m (st 256).2.length c2:=by
  obtain⟨m,c2,l,_⟩:=(show(O4 (J0 en (.int .i64))).R w1.heap S [v] (st 256).2 from s)
  exact⟨m,c2,(List.cons.inj l).1⟩
 have p:E2 en w1.heap S [.d (.list (.int .i64)),.d (.int .i64)] (((st 256).2,((st 256).1.length:Int)):List Int×Int) [v,.int .i64 ((st 256).1.length:Int)] []:=by
  refine U9 (x:=.d (.list (.int .i64))) (r:=[.d (.int .i64)]) ⟨[v],v,[.int .i64 ((st 256).1.length:Int)],[],[],rfl,rfl,rfl,v0r s,?_⟩;exact U9 (x:=.d (.int .i64)) (r:=[]) ⟨[.int .i64 ((st 256).1.length:Int)],_,[],[],[],rfl,rfl,rfl,v0r rfl,a0M⟩
 refine U9 (E:=en) (x:=.tup [.d (.list (.int .i64)),.d (.int .i64)]) (r:=[]) ⟨[.tuple #[v,.int .i64 ((st 256).1.length:Int)]],_,[],[],[],rfl,rfl,rfl,?_,a0M⟩;unfold SR;exact⟨[v,.int .i64 ((st 256).1.length:Int)],rfl,p⟩
end Go.Proofs.YtihmgaccbcfgjaaGreat
set_option maxRecDepth 100000
namespace Go.Proofs.YtihmgaccbcfgjaaGreat
open Go.V Go.RowKit Go.X
def K1:∀c∈([]:List (Sm en.D)),U0 en c:=fun _ h=>absurd h List.not_mem_nil
def O0 {c:Sm en.D}{r:List (Sm en.D)}(h:U0 en c)(a:∀c∈r,U0 en c):∀d∈c :: r,U0 en d:=List.forall_mem_cons.2 ⟨h,a⟩
def L1 {C:J3 en}{c:Sm en.D}(hm:∀x,I1 en C c.f c.ins c.res c.back x=c.m x)(hs:∀d∈C.sm,U0 en d):U0 en c:=k05 c0m (C:=C) (j0h c0m hs) fun x y h=>(hm x).trans h
def q0P (F:Nat):U0 en (k0v F):=L1 (D0q F) K1
def v0L (F:Nat):U0 en (j0S F):=L1 (y0L F) (O0 (q0P F) K1)
def q04 (F:Nat):U0 en (l0u F):=L1 (G0f F) K1
def B0b (F:Nat):U0 en (o0I F):=L1 (F0H F) (O0 (q04 F) K1)
def G0U (F:Nat):U0 en (n0e F):=L1 (A0g F) (O0 (q04 F) K1)
def v0m (F:Nat):U0 en (m0p F):=L1 (I0Z F) (O0 (q0P F) (O0 (v0L F) (O0 (B0b F) (O0 (G0U F) K1))))
def h0K (F:Nat):U0 en (f0f F):=L1 (I0H F) K1
def H0u (F:Nat):U0 en (m0D F):=L1 (G0Z F) (O0 (h0K F) K1)
def C0F (F:Nat):U0 en (m0X F):=L1 (B0n F) (O0 (h0K F) (O0 (H0u F) K1))
def w06 (F:Nat):U0 en (o05 F):=L1 (A0Q F) (O0 (h0K F) (O0 (C0F F) K1))
def z0w (F:Nat):U0 en (q0D F):=L1 (H0x F) K1
def D0N (F:Nat):U0 en (o0M F):=L1 (I0r F) K1
def H0J (F:Nat):U0 en (p0o F):=L1 (y0V F) K1
def m0A (F:Nat):U0 en (f0O F):=L1 (y09 F) (O0 (z0w F) (O0 (D0N F) (O0 (H0J F) K1)))
def c0l (F:Nat):U0 en (b0t F):=L1 (B0g F) (O0 (m0A F) K1)
def s0K (F:Nat):U0 en (k0M F):=L1 (C0l F) K1
def m0a (F:Nat):U0 en (g00 F):=L1 (G01 F) (O0 (c0l F) K1)
def y0G (F:Nat):U0 en (n0l F):=L1 (B0N F) (O0 (c0l F) (O0 (s0K F) (O0 (m0a F) K1)))
def q0N (F:Nat):U0 en (d0m F):=L1 (C0x F) K1
def E0e (F:Nat):U0 en (o0i F):=G0l F (q0N F)
def C06 (F:Nat):U0 en (l00 F):=L1 (B0y F) (O0 (c0l F) (O0 (E0e F) K1))
def z0Y (F:Nat):U0 en (p0h F):=L1 (H0D F) K1
def z0n (F:Nat):U0 en (q0g F):=L1 (A08 F) (O0 (h0K F) K1)
def x0a (F:Nat):U0 en (p09 F):=L1 (F0D F) (O0 (h0K F) (O0 (z0Y F) (O0 (z0n F) K1)))
def r0m (F:Nat):U0 en (k0p F):=L1 (A0K F) (O0 (m0A F) K1)
def y0I (F:Nat):U0 en (m0Q F):=L1 (x04 F) (O0 (r0m F) K1)
def p0z (F:Nat):U0 en (h0C F):=L1 (J0a F) (O0 (c0l F) (O0 (y0I F) K1))
def C0c (F:Nat):U0 en (p0n F):=L1 (H0L F) K1
def C0A (F:Nat):U0 en (p0c F):=L1 (x00 F) K1
def i0h (F:Nat):U0 en (f0m F):=L1 (E04 F) (O0 (c0l F) K1)
def F0a (F:Nat):U0 en (m0W F):=L1 (I0j F) K1
def G0S (F:Nat):U0 en (n0X F):=L1 (I08 F) K1
def t02 (F:Nat):U0 en (j0L F):=L1 (I0l F) (O0 (G0S F) K1)
def t0k (F:Nat):U0 en (i05 F):=L1 (w03 F) (O0 (p0z F) (O0 (c0l F) (O0 (C0A F) (O0 (i0h F) (O0 (F0a F) (O0 (t02 F) K1))))))
def u0M (F:Nat):∀n,U0 en (l0A F n)
 |0=>fun w S us pl x y h=>by cases h
 |n+1=>L1 (I0E F n) (O0 (u0M F n) K1)
def l0Q (F:Nat):U0 en (g0R F):=L1 (I0c F) (O0 (m0a F) (O0 (u0M F F) K1))
def p0w (F:Nat):U0 en (f0R F):=L1 (y0P F) (O0 (c0l F) K1)
def r0B (F:Nat):U0 en (j04 F):=L1 (z0Z F) (O0 (p0w F) K1)
def C0U (F:Nat):U0 en (q0j F):=L1 (B0h F) (O0 (c0l F) (O0 (i0h F) K1))
def r0r (F:Nat):U0 en (j0y F):=L1 (I0R F) (O0 (c0l F) (O0 (m0a F) (O0 (p0w F) (O0 (r0B F) (O0 (C0U F) K1)))))
def v0V (F:Nat):U0 en (j0I F):=L1 (F0z F) (O0 (i0h F) (O0 (r0r F) K1))
def w0o (F:Nat):U0 en (k0w F):=L1 (B0W F) K1
def o0O (F:Nat):∀n,U0 en (h0i F n)
 |0=>fun w S us pl x y h=>by cases h
 |n+1=>L1 (A0w F n) (O0 (l0Q F) (O0 (w0o F) (O0 (o0O F n) K1)))
def E0D (F:Nat):U0 en (o0D F):=L1 (C0g F) (O0 (o0O F F) K1)
def q0Z (F:Nat):U0 en (l0D F):=L1 (H0H F) (O0 (l0Q F) (O0 (E0D F) (O0 (w0o F) K1)))
def r0F (F:Nat):U0 en (j0x F):=L1 (I01 F) (O0 (l0Q F) (O0 (v0V F) (O0 (q0Z F) K1)))
def k0D (F:Nat):U0 en (f0v F):=L1 (E0V F) (O0 (t02 F) K1)
def o0Y (F:Nat):U0 en (g0O F):=L1 (H0E F) K1
def I05 (F:Nat):U0 en (o09 F):=L1 (z0v F) (O0 (k0D F) (O0 (o0Y F) K1))
def u05 (F:Nat):U0 en (k0Z F):=L1 (D0a F) (O0 (r0F F) (O0 (I05 F) K1))
def F0e (F:Nat):U0 en (i0Z F):=k05 c0m (C:=s0H F) (j0h c0m (fun _ h=>absurd h List.not_mem_nil)) fun(x:List Int) y h=>(show I1 en (s0H F) 99 [.d (.list (.int .i64))] (.own 3 (.int .i64)) [] x=(if List.isEmpty (α:=Int) x then same (some []) (if K0 8 ([]:List Int) x then some ([]++x)else none)else if K0 8 ([]:List Int) x then some ([]++x)else none) from Z').trans (x0x h)
def r0x (F:Nat):U0 en (k0G F):=H0U F (F0e F)
def H0v (F:Nat):U0 en (p0C F):=L1 (H0w F) (O0 (r0m F) K1)
def r0a (F:Nat):U0 en (j08 F):=L1 (A0Z F) (O0 (c0l F) (O0 (H0v F) K1))
def A0b (F:Nat):U0 en (s0c F):=x02 fun w S b A c v k hk a=>Wr.E0S 2000 b a (Wr.A0L hk O')
def C0d (F:Nat):U0 en (o0w F):=L1 (J0b F) (O0 (A0b F) K1)
def v0Y (F:Nat):U0 en (k0X F):=L1 (H0S F) (O0 (p0z F) (O0 (C0d F) K1))
def D0H (F:Nat):U0 en (o0j F):=L1 (E0T F) (O0 (t0k F) (O0 (u05 F) (O0 (r0F F) (O0 (r0x F) (O0 (r0a F) (O0 (v0Y F) K1))))))
def C0H (F:Nat):U0 en (s0A F):=F0y (E:=en) (i:=11) (key:=fun x:B0=>x.To) Go.Proofs.Tryz.H02 rfl Go.Proofs.Tryz.G0I Go.Proofs.Tryz.I0N Go.Proofs.Tryz.G0P Go.Proofs.Tryz.x0J (fun H S cs x h=>by
 obtain⟨c1,c2,rfl,h1,c3,c4,rfl,a,c5,b,rfl,⟨A,c,rfl,_⟩,rfl⟩:=(f0Q 11 _ _ _ _).1 h;have h1:c1=[_]:=h1;have a:c3=[_]:=a;subst h1;subst a;exact⟨_,_,rfl⟩) Z'
def t0Y (F:Nat):U0 en (i0W F):=L1 (G0a F) K1
def z0g (F:Nat):U0 en (p0p F):=L1 (H0p F) (O0 (v0V F) (O0 (q0Z F) (O0 (C0H F) (O0 (t0Y F) K1))))
def C0e (F:Nat):U0 en (l05 F):=L1 (I0w F) (O0 (r0r F) (O0 (o0O F F) (O0 (t0Y F) K1)))
def t0t (F:Nat):U0 en (i00 F):=L1 (G0k F) K1
def z05 (F:Nat):U0 en (l0Z F):=L1 (z0I F) (O0 (k0D F) (O0 (t0t F) K1))
def F0g (F:Nat):U0 en (q0B F):=L1 (D06 F) (O0 (v0Y F) (O0 (z0g F) (O0 (C0e F) (O0 (z05 F) K1))))
def I0i (F:Nat):U0 en (o0v F):=L1 (I0k F) K1
def u0L (F:Nat):U0 en (j0M F):=L1 (I0G F) K1
def u0J (F:Nat):U0 en (j0C F):=L1 (A0C F) (O0 (u0L F) K1)
def x0A (F:Nat):U0 en (p03 F):=L1 (z0N F) (O0 (k0D F) (O0 (o0Y F) (O0 (u0J F) K1)))
def w00 (F:Nat):U0 en (n00 F):=F0Y F (p0w F) (m0A F)
def u0s (F:Nat):∀n,U0 en (l0C F n)
 |0=>fun w S us pl x y h=>by cases h
 |n+1=>L1 (B0j F n) (O0 (i0h F) (O0 (u0s F n) (O0 (r0B F) (O0 (w00 F) K1))))
def E0o (F:Nat):U0 en (p0i F):=L1 (B0c F) (O0 (k0D F) (O0 (o0Y F) (O0 (u0J F) (O0 (t0t F) (O0 (u0s F F) (O0 (u0L F) K1))))))
def t0A (F:Nat):U0 en (j0q F):=L1 (E0k F) K1
def B0Y (F:Nat):U0 en (n0s F):=z0j F
def G0o (F:Nat):U0 en (m0s F):=L1 (x0P F) K1
def w0Y (F:Nat):U0 en (o0F F):=L1 (y03 F) (O0 (t0A F) (O0 (G0o F) K1))
def E0z (F:Nat):U0 en (n0k F):=L1 (F0M F) (O0 (u05 F) (O0 (t0A F) (O0 (B0Y F) (O0 (w0Y F) K1))))
def G0E (F:Nat):U0 en (m0c F):=L1 (E0C F) K1
def D0v (F:Nat):U0 en (m0N F):=L1 (x08 F) (O0 (s0K F) (O0 (t0k F) (O0 (r0x F) (O0 (r0a F) (O0 (q0N F) (O0 (i0h F) (O0 (F0g F) (O0 (I0i F) (O0 (x0A F) (O0 (E0o F) (O0 (E0z F) (O0 (G0E F) K1))))))))))))
def G0b (F:Nat):U0 en (o00 F):=L1 (I0d F) (O0 (x0a F) (O0 (D0v F) K1))
def A0V (F:Nat):U0 en (o0z F):=L1 (F0B F) (O0 (C0c F) (O0 (D0H F) (O0 (G0b F) K1)))
def r0G (F:Nat):U0 en (l0J F):=L1 (I0I F) (O0 (v0L F) (O0 (y0G F) (O0 (C06 F) (O0 (p0z F) (O0 (A0V F) K1)))))
def C0n (F:Nat):U0 en (l0R F):=L1 (E0c F) K1
def s0J (F:Nat):U0 en (k0Q F):=L1 (F00 F) K1
def G0W (F:Nat):U0 en (n04 F):=L1 (I0D F) (O0 (s0J F) K1)
def u0k (F:Nat):U0 en (l0G F):=L1 (H0N F) K1
def z0S (F:Nat):U0 en (n0a F):=L1 (G0x F) (O0 (u0k F) K1)
def x0Q (F:Nat):U0 en (o0P F):=L1 (B0V F) (O0 (u0k F) (O0 (z0S F) K1))
def E0g (F:Nat):U0 en (n0y F):=L1 (E0M F) K1
def x0o (F:Nat):U0 en (m0U F):=L1 (A0l F) (O0 (E0g F) K1)
def A0H (F:Nat):U0 en (p0M F):=L1 (x0r F) (O0 (x0o F) K1)
def K0C (F:Nat):U0 en (J0d F):=L1 (P06 F) (O0 (A0H F) K1)
def N0G (F:Nat):U0 en (L0L F):=L1 (N0i F) (O0 (A0H F) (O0 (K0C F) K1))
def M0m (F:Nat):U0 en (K0N F):=L1 (N0K F) (O0 (x0o F) K1)
def M0e (F:Nat):U0 en (K05 F):=L1 (N0w F) (O0 (M0m F) K1)
def P0T (F:Nat):U0 en (L0e F):=L1 (N0M F) (O0 (M0e F) K1)
def M0A (F:Nat):U0 en (K0G F):=L1 (O0k F) (O0 (A0H F) (O0 (P0T F) K1))
def J0l (F:Nat):U0 en (h0L F):=L1 (Q0h F) (O0 (A0H F) K1)
def J0v (F:Nat):U0 en (m0n F):=L1 (P0C F) K1
def M0R (F:Nat):U0 en (K0r F):=L1 (O0Y F) (O0 (A0H F) (O0 (M0A F) (O0 (J0l F) (O0 (J0v F) K1))))
def K0T (F:Nat):∀n,U0 en (B0t F n)
 |0=>fun w S us pl x y h=>by cases h
 |n+1=>L1 (N09 F n) (O0 (K0T F n) K1)
def P0u (F:Nat):U0 en (L0C F):=L1 (P0a F) (O0 (K0C F) (O0 (K0T F F) K1))
def M0z (F:Nat):U0 en (K0Z F):=L1 (P0X F) K1
def L0g (F:Nat):∀n,U0 en (J0x F n)
 |0=>fun w S us pl x y h=>by cases h
 |n+1=>L1 (O05 F n) (O0 (L0g F n) (O0 (K0T F F) (O0 (M0z F) K1)))
def M0r (F:Nat):U0 en (K0O F):=L1 (N0D F) (O0 (A0H F) K1)
def M0O (F:Nat):U0 en (K0B F):=L1 (N0R F) (O0 (A0H F) K1)
def M0c (F:Nat):U0 en (K0W F):=L1 (N0Z F) (O0 (M0O F) K1)
def N0S (F:Nat):U0 en (L0E F):=L1 (Q0b F) K1
def M0S (F:Nat):U0 en (K0P F):=L1 (O0X F) (O0 (K0C F) (O0 (J0l F) (O0 (L0g F F) (O0 (M0r F) (O0 (K0T F F) (O0 (M0O F) (O0 (M0c F) (O0 (N0S F) (O0 (M0z F) K1)))))))))
def M0s (F:Nat):U0 en (K0L F):=L1 (P0N F) (O0 (A0H F) (O0 (J0l F) (O0 (P0u F) (O0 (M0S F) K1))))
def P0A (F:Nat):U0 en (L0F F):=L1 (N0o F) (O0 (J0v F) K1)
def M00 (F:Nat):U0 en (K0m F):=L1 (O0v F) (O0 (M0s F) (O0 (P0A F) K1))
def M03 (F:Nat):U0 en (K0I F):=L1 (O0q F) K1
def M06 (F:Nat):U0 en (K0u F):=L1 (Q0a F) (O0 (A0H F) (O0 (M0e F) K1))
def N0Q (F:Nat):U0 en (L0P F):=L1 (O0e F) K1
def M0Y (F:Nat):U0 en (K0t F):=L1 (O0p F) (O0 (M0A F) (O0 (N0Q F) K1))
def P0L (F:Nat):U0 en (L01 F):=L1 (N0k F) (O0 (M0R F) (O0 (M00 F) (O0 (M0s F) (O0 (M03 F) (O0 (M06 F) (O0 (M0Y F) K1))))))
def N0U (F:Nat):U0 en (L0S F):=L1 (P02 F) K1
def P07 (F:Nat):U0 en (L0x F):=L1 (O0l F) (O0 (J0l F) (O0 (M0S F) K1))
def N07 (F:Nat):U0 en (L0y F):=L1 (P0U F) (O0 (A0H F) (O0 (K0C F) (O0 (L0g F F) (O0 (M0r F) K1))))
def M0a (F:Nat):U0 en (K0y F):=L1 (N03 F) K1
def O0K (F:Nat):U0 en (L0u F):=L1 (O0R F) (O0 (J0v F) (O0 (M0a F) K1))
def O0h (F:Nat):U0 en (L0i F):=L1 (O0n F) K1
def N0h (F:Nat):U0 en (L0h F):=L1 (O0G F) K1
def M0u (F:Nat):U0 en (K0z F):=L1 (N0r F) K1
def M0B (F:Nat):U0 en (K0E F):=L1 (P0y F) (O0 (M0u F) K1)
def O0g (F:Nat):U0 en (L0A F):=L1 (N0N F) (O0 (J0v F) (O0 (M0B F) K1))
def N0A (F:Nat):U0 en (L0v F):=L1 (O0w F) (O0 (M0m F) K1)
def Q0i (F:Nat):U0 en (L0q F):=L1 (N0W F) (O0 (J0l F) (O0 (M0c F) (O0 (N0A F) K1)))
def P0i (F:Nat):U0 en (L0N F):=L1 (P0F F) (O0 (J0v F) (O0 (M0a F) (O0 (M0B F) (O0 (Q0i F) (O0 (M0u F) K1)))))
def N0B (F:Nat):U0 en (L05 F):=L1 (N0H F) K1
def P0w (F:Nat):U0 en (L0t F):=L1 (O0u F) (O0 (M00 F) (O0 (N0B F) K1))
def O07 (F:Nat):U0 en (L0H F):=L1 (O0o F) K1
def O0C (F:Nat):U0 en (K08 F):=L1 (N0O F) (O0 (M0R F) (O0 (M03 F) (O0 (M06 F) (O0 (M0Y F) (O0 (P07 F) (O0 (N07 F) (O0 (O0K F) (O0 (J0l F) (O0 (O0h F) (O0 (N0h F) (O0 (O0g F) (O0 (P0i F) (O0 (P0w F) (O0 (O07 F) K1))))))))))))))
def R0t (F:Nat):U0 en (Q0t F):=L1 (R0F F) (O0 (N0h F) K1)
def R0e (F:Nat):U0 en (Q0D F):=L1 (R0G F) (O0 (R0t F) K1)
def R0i (F:Nat):U0 en (N0v F):=L1 (R0d F) K1
def R0D (F:Nat):U0 en (P0q F):=L1 (Q00 F) (O0 (A0H F) (O0 (R0e F) (O0 (R0i F) K1)))
def R0m (F:Nat):U0 en (Q0B F):=L1 (R0L F) K1
def R0M (F:Nat):U0 en (N0I F):=L1 (R0w F) (O0 (u0k F) K1)
def R0f (F:Nat):U0 en (Q0z F):=L1 (R0n F) (O0 (u0k F) (O0 (R0m F) (O0 (R0M F) K1)))
def R0B (F:Nat):U0 en (O0t F):=L1 (R0Q F) (O0 (N0G F) (O0 (P0L F) (O0 (N0U F) (O0 (O0C F) (O0 (G0W F) (O0 (R0D F) (O0 (M0A F) (O0 (R0f F) K1))))))))
end Go.Proofs.YtihmgaccbcfgjaaGreat
namespace Go.V
open Go.RowKit
def G3 {α:Type}(T:Ty α)(e:TypeId)(M:D0)(H:I0)(S:D0)(v:Value)(xs:List α):Prop:=
 ∃g o pre cap,v=.slice (some ⟨g,o,none⟩) xs.length (cap-pre.length)/\Ow T e M H S (.slice (some ⟨g,0,none⟩) (pre++xs).length cap) (pre++xs)/\(pre.length<cap->o=pre.length*T.sz)
section
variable {α:Type}{T:Ty α}{e:TypeId}{M M':D0}{H H':I0}{S S':D0}{v u:Value}{xs:List α}{w w1:World}
theorem G3.of {b n c:Nat}(h:Ow T e M H S (.slice (some ⟨b,0,none⟩) n c) xs):G3 T e M H S (.slice (some ⟨b,0,none⟩) n c) xs:=by
 obtain⟨A,c',a⟩:=h.form;obtain⟨rfl,rfl,rfl⟩:=a;exact⟨b,0,[],c,X',by simp_all,fun _=>X'⟩
def G3.base (h:G3 T e M H S v xs):∃g n c ys,(∀k,v.ownBlock=some k↔(Value.slice (some ⟨g,0,none⟩) n c).ownBlock=some k)/\Ow T e M H S (.slice (some ⟨g,0,none⟩) n c) ys/\
  ∀(a:D0) (H1:I0) (S1:D0),Ow T e a H1 S1 (.slice (some ⟨g,0,none⟩) n c) ys->G3 T e a H1 S1 v xs:=by
 obtain⟨g,o,pre,cap,rfl,h,b⟩:=h;exact⟨g,_,cap,pre++xs,fun k=>by rfl,h,fun a H1 S1 h1=>⟨g,o,pre,cap,rfl,h1,b⟩⟩
def G3.own (h:G3 T e M H S v xs):∀k,v.ownBlock=some k->S k/\M k:=by
 obtain⟨g,n,c,ys,a,h,_⟩:=h.base;exact fun k hk=>h.own k ((a k).1 hk)
def G3.lt (h:G3 T e M H S v xs):∀k,v.ownBlock=some k->k<H.size:=by
 obtain⟨g,n,c,ys,a,h,_⟩:=h.base;exact fun k hk=>h.lt k ((a k).1 hk)
def G3.L0 (h:G3 T e M H S v xs)(k:P0 H S H' S')(hs:∀b,S b->S' b)(a:∀b,v.ownBlock=some b->H'[b]?=H[b]?):G3 T e M H' S' v xs:=by
 obtain⟨g,n,c,ys,d,h,f⟩:=h.base;exact f _ _ _ (h.L0 k hs (fun b hk=>a b ((d b).2 hk)))
def G3.b0a (h:G3 T e M H S v xs)(hm:∀k,v.ownBlock=some k->M' k):G3 T e M' H S v xs:=by
 obtain⟨g,n,c,ys,a,h,b⟩:=h.base;exact b _ _ _ (h.b0a (fun k hk=>hm k ((a k).2 hk)))
def G3.minus (h:G3 T e M H S v xs)(d:F6 v u):G3 T e M H (Go.V.minus S u) v xs:=by
 obtain⟨g,n,c,ys,a,h,b⟩:=h.base;exact b _ _ _ (h.minus (fun k hk e=>d k ((a k).2 hk) e))
def G3.ext (h:G3 T e M w.heap S v xs)(a:Below w.heap.size w w1):G3 T e M w1.heap S v xs:=h.L0 (P0.ext S a) (fun _ h=>h) (fun b c=>a.block b (h.lt b c))
def G3.j0z {S1:D0}(h:G3 T e M w.heap S v xs)(c:Below w.heap.size w w1)(k:P0 w.heap S w1.heap S1)(hs:∀b,S b->S1 b):G3 T e M w1.heap S1 v xs:=h.L0 k hs (fun b a=>c.block b (h.lt b a))
def G3.only {b:Nat}(h:G3 T e M w.heap S v xs)(a:j5 b w w1)(c:S b)(hd:v.ownBlock≠some b):G3 T e M w1.heap S v xs:=
 h.L0 (a.L0 c) (fun _ h=>h) (fun k hk=>a.block k (h.lt k hk) (fun e=>hd (by simp_all)))
def G3.form (h:G3 T e M H S v xs):∃A c,v=.slice A xs.length c:=by
 obtain⟨g,o,pre,cap,rfl,_⟩:=h;simp
def G3.cap {A:Option Addr}{n c:Nat}(h:G3 T e M H S (.slice A n c) xs):xs.length<=c:=by
 obtain⟨g,o,pre,cap,a,h,_⟩:=h;have:=h.cap
 grind
def G3.O8 {A:Option Addr}{n c:Nat}(h:G3 T e M H S (.slice A n c) xs):Q4 T H S A xs:=by
 obtain⟨g,o,pre,cap,f,h,l⟩:=h;intro i x d;have hi:i<xs.length:=(List.getElem?_eq_some_iff.1 d).1;have a:=h.cap;obtain⟨b,k,cs,m,j,p⟩:=h.O8 (pre.length+i) x (by simp_all)
 grind
def G3.tail_at {P:Program}{t:TypeId}{lo:Value}{A:Option Addr}{c:Nat}{k:IntKind}{vlo:Int}(n:P.underlying t=some (.slice e))(q:(P.info? e).map (·.size)=some T.sz)
  (b:G3 T e M H S (.slice A xs.length c) xs) (hk:P3 xs vlo xs.length=true) (j:lo=.int k vlo:=by rfl):
  ∃i,(∀w,(Instr.sliceAt t (.slice A xs.length c) (some lo) none none).run P w=.ok (.slice i (G1 xs vlo xs.length).length (c-vlo.toNat)) w)/\G3 T e M H S (.slice i (G1 xs vlo xs.length).length (c-vlo.toNat)) (G1 xs vlo xs.length)/\
   (∀k,(Value.slice i (G1 xs vlo xs.length).length (c-vlo.toNat)).ownBlock=some k↔(Value.slice A xs.length c).ownBlock=some k):=by
 subst j;have m:=d0b hk;simp only[P3,Bool.and_eq_true,decide_eq_true_eq]at hk;obtain⟨inf,a,f⟩:=Option.map_eq_some_iff.1 q;obtain⟨g,o,pre,cap,s,h,y⟩:=b;have l:G1 xs vlo xs.length=xs.drop vlo.toNat:=by grind [G1,List.take_of_length_le]
 refine⟨some (if cap-pre.length=vlo.toNat then⟨g,o,none⟩else⟨g,o+vlo.toNat*T.sz,none⟩),fun w=>?_,?_,?_⟩
 ·have r:=run_sliceBound (P:=P) (w:=w) k vlo xs.length .sliceB O' O';have d:(⟨g,o,none⟩:Addr).add (vlo.toNat*T.sz)=⟨g,o+vlo.toNat*T.sz,none⟩:=by simp[Addr.add]
  have hl:(G1 xs vlo xs.length).length=xs.length-vlo.toNat:=O'
  simp only[Instr.sliceAt,Instr.slice,Instr.sliceBounds,Sem.run_bind,run_underlying n,Result.andThen_ok];simp[r,sizeOf,typeInfo,a,f,d]
  grind
 ·have x:(pre++xs.take vlo.toNat)++G1 xs vlo xs.length=pre++xs:=by simp_all
  refine⟨g,if cap-pre.length=vlo.toNat then o else o+vlo.toNat*T.sz,pre++xs.take vlo.toNat,cap,?_,by simp_all,fun p=>?_⟩
  ·grind
  grind
 grind [Value.ownBlock]
def A01 {P:Program}(w:World)(t ty e:TypeId)(i:TypeInfo)(n:P.underlying t=some (.slice e))(hi:P.info? e=some i)
  (g off b d:Nat) (cur:Array Value) (hg:w.heap[g]?=some (.cells cur e (0,0)))
  (a:Addr) (m c:Nat) (news:List Value) (hl:news.length=m*i.size) (h:∀j u,news[j]?=some u->w.cell? (a.add j)=some u) (h1:∀u∈news,u.oneCell'=true)
  (f:b+m<=d) (l:off+b*i.size+news.length<=cur.size):
  (Builtin.append_ #[t,t] ty #[.slice (some ⟨g,off,none⟩) b d,.slice (some a) m c]).run P w =
   .ok (.slice (some ⟨g,off,none⟩) (b+m) d) (w.setRow g (cur.toList.take (off+b*i.size)++news++cur.toList.drop (off+b*i.size+news.length)).toArray):=by
 have o:=run_firstCells_some (P:=P) w i.size m a m c news hl h;have k:=run_storeCells_at P g (off+b*i.size) e news 0 cur w hg O' h1;simp[Builtin.append_,run_underlying n,sizeOf,typeInfo,hi,Builtin.lenOf,f,o,Addr.add_lit,k]
def H0k {P:Program}{w:World}(t ty e:TypeId)(bytes:Nat)(z:Value)(ht:P.underlying t=some (.slice e))(hE:(P.info? e).map (fun i=>(i.zero,i.size,i.bytes))=some (some z,T.sz,bytes))(l:(decide (z.cells.size=T.sz)&&decide (0<T.sz)&&decide (0<bytes))=true)
  {v:Value} {xs ys:List α} (p:G3 T e M w.heap S v xs) {A:Option Addr} {c:Nat} (hy:Q4 T w.heap S A ys) (c7:0<ys.length) (m:K0 bytes xs ys=true):
  ∃C w1,(Builtin.append_ #[t,t] ty #[v,.slice A ys.length c]).run P w=.ok C w1/\w.grownBy w1 v.ownBlock/\(∀k,C.ownBlock=some k->v.ownBlock=some k\/w.heap.size<=k)/\
   ∀S1:D0,P0 w.heap S w1.heap S1->∀M1:D0,(∀k,C.ownBlock=some k->S1 k/\M1 k)->G3 T e M1 w1.heap S1 C (xs++ys):=by
 obtain⟨i,hi,R⟩:=Option.map_eq_some_iff.1 hE;simp only[Prod.mk.injEq]at R;obtain⟨hz,I,c6⟩:=R;simp only[Bool.and_eq_true,decide_eq_true_eq]at l;simp only[K0,decide_eq_true_eq]at m;have b2:xs.length+ys.length<=maxLen:=by
  have:xs.length+ys.length<=(xs.length+ys.length)*bytes:=Nat.le_mul_of_pos_right _ l.2
  grind [maxLen]
 obtain⟨news,h,b4⟩:=Q4.news (w:=w) (xs:=ys) (k:=0) (A:=A) (T:=T) (S:=S) (fun i x hx=>by
  obtain⟨b,o,cs,h1,h2,r⟩:=hy i x hx
  grind)
 obtain⟨b,o',_,hA,_⟩:=hy 0 ys[0] X';subst hA;have f:∀j u,news[j]?=some u->w.cell? ((⟨b,o',none⟩:Addr).add j)=some u:=by
  intro j u hj;rw[k7]
  simp_all
 have c3:∀A n c,v=.slice A n c->Q4 T w.heap S A xs:=fun A n c e=>by subst e;exact p.O8
 obtain⟨g,o,pre,cap,rfl,U,ho⟩:=p;have b9:=U;obtain⟨hS,cs,⟨b7,b3⟩,a1⟩:=U;rcases b3 with⟨hv,_⟩|⟨g',cap',cur,hv,hg,hnc,hcm,hcs,htake⟩
 ·cases hv
 ·simp at hv;obtain⟨rfl,rfl⟩:=hv;simp only[List.length_append]at hnc b7 htake
  by_cases s:xs.length+ys.length<=cap-pre.length
  ·have c0:=ho O';have hmul:o+xs.length*i.size+news.length=(pre.length+xs.length+ys.length)*T.sz:=by rw[h.1,c0,I,add_mul,add_mul]
   have hle:(pre.length+xs.length+ys.length)*T.sz<=cap*T.sz:=Nat.mul_le_mul_right _ O';have hr:=A01 (P:=P) w t ty e i ht hi g o xs.length (cap-pre.length) cur hg ⟨b,o',none⟩ ys.length c news (by grind) f h.e0w s O';have c5:o+xs.length*i.size=(pre.length+xs.length)*T.sz:=by grind
   rw[c5,htake]at hr;refine⟨_,_,hr,⟨rfl,rfl,rfl,X',fun k _ hk=>setRow_other w g k _ (fun e=>hk (by simp[Value.ownBlock,e]))⟩,fun q hq=>.inl (by simp_all[Value.ownBlock]),fun S1 k M1 y=>?_⟩;refine⟨g,o,pre,cap,X',⟨fun q hq=>y q (by simp_all[Value.ownBlock]),cs++news,⟨?_,.inr ⟨g,cap,_,rfl,setRow_heap w g cur _ e _ hg,by grind,hcm,?_,?_⟩⟩,?_⟩,ho⟩
   ·grind
   ·grind
   ·grind [add_mul]
   ·rw[<-List.append_assoc];exact(a1.L0 k).append (h.L0 k)
  ·have c4:=c3 _ _ _ rfl;obtain⟨d,J,b5⟩:=Q4.news (w:=w) (xs:=xs) (k:=0) (A:=some ⟨g,o,none⟩) (T:=T) (S:=S) (fun i x hx=>by
    obtain⟨b,o,cs,h1,h2,r⟩:=c4 i x hx;exact⟨b,o,cs,h1,h2,fun j v hj=>by rw[Nat.zero_add];exact r j v hj⟩)
   have holds:∀j u,d[j]?=some u->w.cell? ((⟨g,o,none⟩:Addr).add j)=some u:=by
    intro j u hj;rw[k7];have:=b5 g o rfl j u hj;simpa using this
   obtain⟨C,w',b1,h2,r⟩:=run_append_arg_grows (P:=P) w t ty e i z T.sz bytes ht hi hz I c6 l.1.1 l.1.2 ⟨g,o,none⟩ xs.length (cap-pre.length) d J.1 holds ⟨b,o',none⟩ ys.length c news h.1 f O' b2 m;have b6:=Row.of h2;refine⟨C,w',b1,⟨r.os,r.tape,r.output,r.size,fun k hk _=>r.block k hk X'⟩,fun q hq=>.inr (h2.lt q hq).1,fun S1 k M1 y=>?_⟩;obtain⟨hl,a⟩:=b6;rcases a with⟨_,h0⟩|⟨g2,cap2,cur2,rfl,a⟩
   ·omega
   ·exact G3.of ⟨y,d++news,⟨by rw[show(xs++ys).length=xs.length+ys.length from List.length_append];exact hl,.inr ⟨g2,cap2,cur2,by rw[List.length_append],by rw[show(xs++ys).length=xs.length+ys.length from List.length_append];exact a⟩⟩,(J.L0 k).append (h.L0 k)⟩
def y0y {P:Program}{ops:Array Oper}{n:Nat}{Q:Exit->Act->World->Prop}{l:FL}{a:Act}{o:Oper}{rest:List Oper}{w0:World}{W0 r S0:D0}{t:TypeId}{bytes:Nat}{z:Value}{x y:Operand}{ys:List α}{A:Option Addr}{c:Nat}(ha:Ag n l a)(cx:Cx w0 W0 S0 w S)(hf:(gate ops l o==some true&&fit n l o)=true)
  (ho:o.op=.call { callee:=.builtin .append,args:=#[x,y],argTypes:=#[t,t] }) (hx:lk l x=v) (hy:lk l y=.slice A ys.length c)
  (ht:P.underlying t=some (.slice e)) (hE:(P.info? e).map (fun i=>(i.zero,i.size,i.bytes))=some (some z,T.sz,bytes)) (a1:(decide (z.cells.size=T.sz)&&decide (0<T.sz)&&decide (0<bytes))=true)
  (hW:∀k,Wr r w0 k->Wr W0 w0 k) (d:G3 T e (Wr r w0) w.heap S v xs) (b1:Q4 T w.heap S A ys) (s:K0 bytes xs ys=true)
  (h:∀w1 S1 q c1,Cx w0 W0 S0 w1 S1->P0 w.heap S w1.heap S1->(∀b,S b->S1 b)->(∀k,k<w.heap.size->v.ownBlock≠some k->w1.heap[k]?=w.heap[k]?)->
   (∀k,(Value.slice q (xs++ys).length c1).ownBlock=some k->v.ownBlock=some k\/w.heap.size<=k)->G3 T e (Wr r w0) w1.heap S1 (.slice q (xs++ys).length c1) (xs++ys)->
   ∀C,Ag n (N5 l o.dst (.slice q (xs++ys).length c1)) C->wpList P ops Q rest C w1) (m:0<ys.length:=by exact Nat.zero_lt_succ _):wpList P ops Q (o :: rest) a w:=by
 obtain⟨v',w1,b3,hg,b2,j⟩:=H0k (P:=P) (w:=w) t o.type e bytes z ht hE a1 d b1 (c:=c) m s;have R:∀k,v.ownBlock=some k->S k:=fun k hk=>(d.own k hk).1;have J:∀k,v.ownBlock=some k->Wr r w0 k:=fun k hk=>(d.own k hk).2;have U:∀k,v.ownBlock=some k->Wr W0 w0 k:=fun k hk=>hW k (J k hk);have f:P0 w.heap S w1.heap (inV v' S):=⟨hg.size,fun b g hn=>⟨fun hi=>by
   rcases hi with hi|hi
   ·grind
   simp_all,hg.block b g (fun e=>hn (R b e.symm))⟩⟩
 have p:=j (inV v' S) f (Wr r w0) (fun k hk=>⟨.inl hk,by
  rcases b2 k hk with e|e
  ·simp_all
  ·have:=cx.size;exact .inr O'⟩)
 obtain⟨q,c1,rfl⟩:=p.form;refine b0U ha hf (v:=.slice q (xs++ys).length c1) (w':=w1) ?_ fun C I=>h w1 (inV (.slice q (xs++ys).length c1) S) q c1 ?_ f (fun b g=>.inr g) (fun k hk m=>hg.block k hk (fun e=>m e.symm)) ?_ p C I
 ·simp_all[execOp,resolve,invoke,builtin]
 ·refine⟨⟨hg.os.trans cx.bel.os,hg.tape.trans cx.bel.tape,hg.output.trans cx.bel.output,Nat.le_trans cx.bel.size hg.size,fun k hk hn=>(hg.block k (by have:=cx.size;omega) (fun e=>?_)).trans (cx.bel.block k hk hn)⟩,fun b g=>.inr (cx.sub b g),fun b g=>?_,cx.lt0⟩
  ·rcases U k e.symm with h2|h2
   ·grind
   ·omega
  ·rcases g with g|g
   ·exact p.lt b g
   ·exact Nat.lt_of_lt_of_le (cx.lt b g) hg.size
 omega
end
