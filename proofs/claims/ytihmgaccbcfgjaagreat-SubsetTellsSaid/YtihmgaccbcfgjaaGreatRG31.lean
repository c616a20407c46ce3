/- The key of a byte: walked. Classes of bytes: walked. Classes of bytes, as a contract. Each contract holds. Its conditions: none. -/
import Derived.Test.YtihmgaccbcfgjaaGreatRG28
import Derived.Carry
import Derived.Maps.Own
import Derived.Test.YtihmgaccbcfgjaaGreatRG22
import Derived.Test.YtihmgaccbcfgjaaGreatRG23
import Derived.Test.YtihmgaccbcfgjaaGreatRG24
import Derived.Test.YtihmgaccbcfgjaaGreatRX16
import Derived.Test.YtihmgaccbcfgjaaGreatRX17
import Derived.Test.YtihmgaccbcfgjaaGreatRG29
import Derived.Test.YtihmgaccbcfgjaaGreatRJn
open Option (bind_eq_some_iff)
set_option linter.all false
set_option maxRecDepth 100000
namespace Go.Proofs.YtihmgaccbcfgjaaGreat
open Go.RowKit Go.Proofs
theorem n0A {B b:Nat} {bs:List Value} {w w1:World} (h:Lib.IsBuilder 213 5 B b bs w) (hb:Below w.heap.size w w1):Lib.IsBuilder 213 5 B b bs w1:=by
 have hg:w.grownBy w1 none:=⟨hb.os,hb.tape,hb.output,hb.size,fun k hk _=>hb.block k hk⟩
 have key:∀ p,Lib.BuilderAt 213 5 B b p bs w->Lib.BuilderAt 213 5 B b p bs w1:=by
  rintro p ⟨hB,v,hbk,hown,hne⟩
  have hlt:b<w.heap.size:=(Array.getElem?_eq_some_iff.1 hbk).1;exact ⟨hB,v,(hb.block b hlt).trans hbk,hown.kept hg (by cases hv:v.ownBlock<;>simp),hne⟩
 rcases h with h | h
 ·exact .inl (key _ h)
 ·exact .inr (key _ h)
theorem e0O (w:World) (o:Obj):Below w.heap.size w (w.alloc o):=(Below.refl _ w).alloc (Nat.le_refl _) _
theorem j0W {B:Nat} {w w1 w2:World} (h:Below B w w1) (hB:B<=w1.heap.size) (h2:Below w1.heap.size w1 w2):Below B w w2:=
 ⟨h2.os.trans h.os,h2.tape.trans h.tape,h2.output.trans h.output,Nat.le_trans h.size h2.size,fun k hk=>(h2.block k (Nat.lt_of_lt_of_le hk hB)).trans (h.block k hk)⟩
open Go.V hiding Row
open Go.X
theorem t03 {E:Env} {H:F0} {S:B0} {s:List Int} (h:s.length=4):(D0 E (.arr 4 (.int .u64))).R H S (s.map fun x=>Value.int .u64 x) s:=by
 refine ⟨h,by rw [List.length_map];exact (Nat.mul_one _).symm,fun i (x:Int) hx=>?_⟩;have hi:i<s.length:=(List.getElem?_eq_some_iff.1 hx).1;have hx2:(s[i]:Int)=x:=Option.some.inj ((List.getElem?_eq_getElem hi).symm.trans hx);show ((s.map fun x=>Value.int .u64 x).drop (i*1)).take 1=[.int .u64 x];rw [Nat.mul_one,List.drop_eq_getElem_cons (by simpa using hi)];simp [hx2]
theorem u0Y {E:Env} {H:F0} {S:B0} {s:List Int} {c:List Value} (h:(D0 E (.arr 4 (.int .u64))).R H S c s):s.length=4/\c=s.map fun x=>Value.int .u64 x:=by
 obtain ⟨h1,h2,h3⟩:=h;refine ⟨h1,?_⟩;have h2:c.length=s.length*1:=h2;apply List.ext_getElem?;intro i
 by_cases hi:i<s.length
 ·have h4:=h3 i s[i] (List.getElem?_eq_getElem hi);have h4:(c.drop (i*1)).take 1=[.int .u64 s[i]]:=h4;rw [Nat.mul_one] at h4;have:=congrArg (fun l=>l[0]?) h4;simp only [List.getElem?_take_of_lt (Nat.zero_lt_one),List.getElem?_drop,Nat.add_zero,List.getElem?_cons_zero] at this;rw [this];simp [hi]
 ·rw [List.getElem?_eq_none (by omega),List.getElem?_eq_none (by simp;omega)]
theorem w0s {F:Nat} (h:G0 en (a0l F)) (w:World) {s:List Int} (hs:s.length=4) {b:Int} {r:Bool} (hm:d0G F s b=some r) :
  Calls Tryz.prog 168 #[.agg (s.map fun x=>Value.int .u64 x).toArray,.int .u8 b] w fun e w1=>e=.returned (.bool r)/\Below w.heap.size w w1:=by
 have hsr:N1 en w.heap (fun _=>False) [.d (.arr 4 (.int .u64)),.d (.int .u8)] ((s,b):List Int×Int) [.agg (s.map fun x=>Value.int .u64 x).toArray,.int .u8 b] []:=by
  refine W6 (x:=.d (.arr 4 (.int .u64))) (r:=[.d (.int .u8)]) ⟨s.map fun x=>Value.int .u64 x,_,[.int .u8 b],[],[],rfl,rfl,rfl,?_,?_⟩
  ·unfold SR;exact ⟨rfl,t03 hs⟩
  ·refine W6 (x:=.d (.int .u8)) (r:=[]) ⟨[.int .u8 b],_,[],[],[],rfl,rfl,rfl,?_,N7⟩;unfold SR;exact ⟨rfl,rfl⟩
 refine (h w (fun _=>False) _ [] ((s,b):List Int×Int) r hm hsr (fun _ h=>h.elim) (by rintro b ⟨v,hv,_⟩;simp at hv) (by intro i j v v' _ hv;simp at hv)).mono ?_
 rintro e w1 ⟨v,S1,pl1,rfl,hsr,hb,hk,hs1,hs2,hap,hbl⟩
 have hsr:N1 en w1.heap S1 [.d .bool] r [v] pl1:=hsr;unfold N1 at hsr;obtain ⟨c1,u,us',p1,p2,e0,rfl,e1,h1,h2⟩:=hsr;cases e0;unfold SR at h1;obtain ⟨rfl,h1⟩:=h1;have h1:c1=[.bool r]:=h1;subst h1;have e1:v=.bool r:=e1;subst e1;exact ⟨rfl,hb.os,hb.tape,hb.output,hb.size,fun k hk=>hb.block k hk (by rintro ⟨v,hv,_⟩;simp at hv)⟩
def j5 (ks:List Bool):List UInt8:=ks.map fun x=>if x then 49 else 48
theorem m0K {F:Nat} {b:Int}:∀ {l:List (List Int)} {ks:List Bool},c0e F b l=some ks->ks.length=l.length/\∀ k<l.length,∃ x,d0G F (gt l (k:Int)) b=some x/\ks[k]?=some x
 |[],ks,h=>by cases h;exact ⟨rfl,fun k hk=>by simp at hk⟩
 |
  s :: r,ks,h=>by
  unfold c0e at h;obtain ⟨x,h1,h⟩:=bind_eq_some_iff.1 h;obtain ⟨y,h2,h⟩:=bind_eq_some_iff.1 h;cases h;obtain ⟨g1,g2⟩:=m0K h2;refine ⟨by simp [g1],fun k hk=>?_⟩;cases k with
  |zero=>exact ⟨x,by rw [Y5 (x:=s) (by simp)];exact h1,by simp⟩
  |
   succ k=>
   obtain ⟨z,z1,z2⟩:=g2 k (by simpa using hk);have hr:r[k]?=some (gt r (k:Int)):=by
    rw [Y5 (x:=r[k]'(by simpa using hk)) (by simp)];simp
   refine ⟨z,?_,by simpa using z2⟩;rw [Y5 (x:=gt r (k:Int)) (by simpa using hr)];exact z1
theorem f0k {W:World} {b o:Nat} {v:Value} (h:Z0 W.heap b o=some v):W.cell? ⟨b,o,none⟩=some v:=by
 unfold Z0 at h;simp only [World.cell?];exact h
set_option maxHeartbeats 4000000 in
theorem w0K {F:Nat} (hh:G0 en (a0l F)) (w:World) (b:Int) (l:List (List Int)) (A:Option Addr) (c:Nat)
  (hcell:l≠[]->∃ bb o,A=some ⟨bb,o,none⟩/\bb<w.heap.size/\∀ k:Nat,k<l.length->(gt l (k:Int)).length=4/\∀ j:Nat,j<4->Z0 w.heap bb (o+k*4+j)=some (.int .u64 ((gt l (k:Int)).getD j 0)))
  {ks:List Bool} (hm:c0e F b l=some ks) (hlen:l.length<=1000000000) :
  Calls Tryz.prog 145 #[.int .u8 b,.slice A l.length c] w fun e w1=>e=.returned (.string ⟨(j5 ks).toArray⟩)/\Below w.heap.size w w1:=by
 obtain ⟨hkl,hkg⟩:=m0K hm
 go_enter Tryz.func145,Tryz.ntmps145
 go_wp2
 go_loopw [10] (fun i wr=>∃ k:Nat,k<=l.length/\i=.int .i64 k/\Lib.IsBuilder 213 5 w.heap.size w.heap.size (Lib.byteCells ((j5 ks).take k)) wr/\Below w.heap.size w wr) (fun i wr=>l.length-(intOf i).toNat)
 case atStart=>exact ⟨0,Nat.zero_le _,rfl,Lib.fresh_isBuilder 213 5 w,e0O _ _⟩
 case round=>
  obtain ⟨k,hk,rfl,hI,hb⟩:=hrel
  by_cases hd:k=l.length
  ·have d1:decide ((k:Int)<(l.length:Int))=false:=by simp;omega
   have hI':=hI;rw [show (j5 ks).take k=j5 ks from List.take_of_length_le (by unfold j5;simp;omega)] at hI'
   go_wp2_with (go_at_call 170;refine (Tryz.Builder_String_any w.heap.size w.heap.size _ _ hI' hb.size).mono ?_)
   rintro e w2 ⟨rfl,hb2⟩
   go_wp2
   go_ret
   exact ⟨rfl,hb.trans hb2⟩
  ·have hlt:k<l.length:=by omega
   have d1:decide ((k:Int)<(l.length:Int))=true:=by simp;omega
   obtain ⟨bb,o,rfl,hb1,hcl⟩:=hcell (by intro e;simp [e] at hlt);obtain ⟨h4,hcl⟩:=hcl k hlt;obtain ⟨x,hx,hks⟩:=hkg k hlt;generalize gt l (k:Int)=s at *;obtain ⟨s0,s1,s2,s3,rfl⟩:∃ a b c d,s=[a,b,c,d]:=by
    match s,h4 with
    |[a,b,c,d],_=>exact ⟨a,b,c,d,rfl⟩
   have hkeep:wr.heap[bb]?=w.heap[bb]?:=hb.block bb hb1;have c0:=hcl 0 (by omega);have c1:=hcl 1 (by omega);have c2:=hcl 2 (by omega);have c3:=hcl 3 (by omega);have e0:wr.cell? ⟨bb,o+k*4,none⟩=some (.int .u64 s0):=f0k (by unfold Z0 at c0 ⊢;rw [hkeep];exact c0);have e1:wr.cell? ⟨bb,o+k*4+1,none⟩=some (.int .u64 s1):=f0k (by unfold Z0 at c1 ⊢;rw [hkeep];exact c1);have e2:wr.cell? ⟨bb,o+k*4+2,none⟩=some (.int .u64 s2):=f0k (by unfold Z0 at c2 ⊢;rw [hkeep];exact c2);have e3:wr.cell? ⟨bb,o+k*4+3,none⟩=some (.int .u64 s3):=f0k (by unfold Z0 at c3 ⊢;rw [hkeep];exact c3);clear hcl c0 c1 c2 c3 hcell
   go_wp2_with (go_at_call 168;refine (w0s hh _ (s:=[s0,s1,s2,s3]) rfl hx).mono ?_)
   rintro e w2 ⟨rfl,hb2⟩
   have hI2:=n0A (n0A hI (e0O wr _)) hb2;have hb3:Below w.heap.size w w2:=j0W (j0W hb hb.size (e0O wr _)) (by have:=hb.size;simp;omega) hb2;have hst:(j5 ks).take (k+1)=(j5 ks).take k++[if x then 49 else 48]:=by
    rw [List.take_succ];unfold j5;rw [List.getElem?_map,hks];cases x<;>rfl
   have hlk:(Lib.byteCells ((j5 ks).take k)).length+1<=140737488355328:=by rw [Lib.byteCells_length,List.length_take];omega
   cases x with
   |
    true=>
    go_wp2_with (go_at_call 169;refine (k0L w.heap.size w.heap.size _ 49 _ hI2 hlk hb3.size).mono ?_)
    rintro e w3 ⟨rfl,hI3,hb4⟩
    go_wp2
    go_roundw
    case rel=>exact ⟨k+1,by omega,by go_num,by rw [hst,Lib.byteCells_append];exact .inr hI3,hb3.trans hb4⟩
    case measure=>simp [intOf];omega
   |
    false=>
    go_wp2_with (go_at_call 169;refine (k0L w.heap.size w.heap.size _ 48 _ hI2 hlk hb3.size).mono ?_)
    rintro e w3 ⟨rfl,hI3,hb4⟩
    go_wp2
    go_roundw
    case rel=>exact ⟨k+1,by omega,by go_num,by rw [hst,Lib.byteCells_append];exact .inr hI3,hb3.trans hb4⟩
    case measure=>simp [intOf];omega
end Go.Proofs.YtihmgaccbcfgjaaGreat
set_option maxRecDepth 100000
namespace Go.Proofs.YtihmgaccbcfgjaaGreat
open Go.RowKit Go.Proofs
def L6 (k:List Bool):Value:=.string ⟨(j5 k).toArray⟩
def o0O (es:List MapEntry) (ks:List (List Bool)) (d:Int):Prop:=es.length=ks.length/\∀ i:Nat,∀ h:i<ks.length,(es[i]?.map fun e=>(e.key,e.val))=some (L6 (ks[i]'h),.int .i64 (d+i))
theorem m0Q:∀ {a b:List Bool},j5 a=j5 b->a=b
 |[],[],_=>rfl
 |[],_ :: _,h=>by cases h
 |_ :: _,[],h=>by cases h
 |
  x :: a,y :: b,h=>by
  simp only [j5,List.map_cons,List.cons.injEq] at h;obtain ⟨h1,h2⟩:=h;have h2:=m0Q (a:=a) (b:=b) h2;subst h2;cases x<;>cases y<;>first | rfl | (exfalso;revert h1;decide)
theorem z0L (a b:List UInt8):((⟨a.toArray⟩:ByteArray)==⟨b.toArray⟩)=decide (a=b):=by
 show (a.toArray==b.toArray)=decide (a=b)
 by_cases h:a=b
 ·subst h;simp
 ·have:(a.toArray==b.toArray)=false:=by simpa using h
  rw [this];simp [h]
theorem m0J (a b:List Bool):((⟨(j5 a).toArray⟩:ByteArray)==⟨(j5 b).toArray⟩)=decide (a=b):=by
 rw [z0L]
 by_cases h:a=b
 ·subst h;simp
 ·have:¬ j5 a=j5 b:=fun e=>h (m0Q e);simp [h,this]
theorem j0R (k:List Bool):∀ (es:List MapEntry) (ks:List (List Bool)) (d:Int),o0O es ks d->∀ n:Nat,
  (ks.contains k=false/\Instr.findNow .string (L6 k) es n=some none)\/
  (ks.contains k=true/\ks.idxOf k<ks.length/\Instr.findNow .string (L6 k) es n=some (some (n+ks.idxOf k,.int .i64 (d+(ks.idxOf k:Nat)))))
 |
  [],ks,d,⟨h,_⟩,n=>by
  obtain rfl:ks=[]:=List.eq_nil_of_length_eq_zero h.symm;exact .inl ⟨rfl,rfl⟩
 |e :: es,[],d,⟨h,_⟩,n=>by simp at h
 |
  e :: es,x :: ks,d,⟨h,hg⟩,n=>by
  have h0:=hg 0 (by simp);simp only [List.getElem?_cons_zero,Option.map_some,Option.some.injEq,Prod.mk.injEq,List.getElem_cons_zero,Int.natCast_zero,Int.add_zero,L6] at h0;obtain ⟨h1,h2⟩:=h0
  by_cases hx:x=k
  ·subst hx;refine .inr ⟨by simp,by simp,?_⟩;simp [Instr.findNow,Instr.sameNow,h1,h2,L6,m0J]
  ·have hs:Instr.sameNow .string (L6 k) e.key=some false:=by
    have:¬ k=x:=fun e=>hx e.symm;simp [Instr.sameNow,h1,L6,m0J,this]
   have hxk:(x==k)=false:=by simpa using hx
   have hkx:(k==x)=false:=by simp;exact fun e=>hx e.symm
   rcases j0R k es ks (d+1) ⟨by simpa using h,fun i hi=>by
    have:=hg (i+1) (by simpa using hi);simp only [List.getElem?_cons_succ,List.getElem_cons_succ] at this;rw [this];congr 3;push_cast;omega⟩ (n+1) with ⟨f1,f2⟩ | ⟨f1,f2,f3⟩
   ·refine .inl ⟨by simp only [List.contains_cons,hkx,f1];rfl,?_⟩;simp [Instr.findNow,hs,f2]
   ·have hidx:(x :: ks).idxOf k=ks.idxOf k+1:=by simp [List.idxOf_cons,hxk]
    refine .inr ⟨by simp only [List.contains_cons,hkx,f1];rfl,by rw [hidx];simpa using f2,?_⟩;rw [hidx];simp [Instr.findNow,hs,f3,Nat.add_assoc,Nat.add_comm 1];omega
end Go.Proofs.YtihmgaccbcfgjaaGreat
set_option maxRecDepth 100000
namespace Go.Proofs.YtihmgaccbcfgjaaGreat
open Go.RowKit Go.Proofs
open Go.V hiding Row
open Go.X
theorem y0m:(Tryz.prog.info? 3).map (fun i=>(i.zero,i.size,i.bytes))=some (some (.int .i64 0),1,8):=by kernel_rfl
def F7 (w:World) (r:Nat) (ks:List (List Bool)):Prop:=∃ es clock,w.heap[r]?=some (.map es clock)/\o0O es.toList ks 0
theorem F7.lt {w:World} {r:Nat} {ks:List (List Bool)} (h:F7 w r ks):r<w.heap.size:=by
 obtain ⟨es,cl,he,_⟩:=h;exact (Array.getElem?_eq_some_iff.1 he).1
theorem F7.S7 {w w1:World} {r:Nat} {ks:List (List Bool)} (h:F7 w r ks) (e:w1.heap[r]?=w.heap[r]?):F7 w1 r ks:=by
 obtain ⟨es,cl,he,hm⟩:=h;exact ⟨es,cl,e.trans he,hm⟩
theorem m0g {em:Bool} {kt:TypeId} {k:ByteArray} (hk:Tryz.prog.underlying kt=some .string) (w:World):(Instr.checkKey em 10000 kt (.string k)).run Tryz.prog w=.ok () w:=by
 show (Instr.checkKey em (9999+1) kt (.string k)).run Tryz.prog w=.ok () w;generalize 9999=q;simp [Instr.checkKey,run_underlying hk]
theorem t0o {w:World} {r:Nat} {ks:List (List Bool)} (h:F7 w r ks) (k:List Bool) :
  (Instr.lookup 199 (.map (some r)) (L6 k) true).run Tryz.prog w=.ok (.tuple #[.int .i64 (if ks.contains k then (ks.idxOf k:Int) else 0),.bool (ks.contains k)]) w:=by
 obtain ⟨es,cl,he,hm⟩:=h;have hg:(getObj r).run Tryz.prog w=.ok (.map es cl) w:=a0D he;have hz:(zeroValue 3).run Tryz.prog w=.ok (.int .i64 0) w:=Tryz.zeroValue3 w;have hck:∀ em,(Instr.checkKey em 10000 9 (.string ⟨(j5 k).toArray⟩)).run Tryz.prog w=.ok () w:=fun em=>m0g Tryz.underlying9 w;rcases j0R k es.toList ks 0 hm 0 with ⟨f1,f2⟩ | ⟨f1,f2,f3⟩
 ·rw [f1];unfold L6 at f2 ⊢;simp [Instr.lookup,run_underlying Tryz.underlying199,hg,hck,Instr.findKey,run_underlying Tryz.underlying9,f2,hz]
 ·rw [f1];unfold L6 at f3 ⊢;simp [Instr.lookup,run_underlying Tryz.underlying199,hg,hck,Instr.findKey,run_underlying Tryz.underlying9,f3]
theorem u0Z {w:World} {r:Nat} {ks:List (List Bool)} (h:F7 w r ks) {k:List Bool} (hk:ks.contains k=false) :
  ∃ w1,(Instr.mapUpdate 199 (.map (some r)) (L6 k) (.int .i64 (ks.length:Int))).run Tryz.prog w=.ok () w1/\F7 w1 r (ks++[k])/\C4 r w w1:=by
 obtain ⟨es,cl,he,hm⟩:=h;have hg:(getObj r).run Tryz.prog w=.ok (.map es cl) w:=a0D he;have hck:∀ em,(Instr.checkKey em 10000 9 (.string ⟨(j5 k).toArray⟩)).run Tryz.prog w=.ok () w:=fun em=>m0g Tryz.underlying9 w;rcases j0R k es.toList ks 0 hm 0 with ⟨f1,f2⟩ | ⟨f1,f2,f3⟩
 ·refine ⟨Y7 w r (.map (es.push ⟨L6 k,.int .i64 (ks.length:Int),cl⟩) (cl+1)),?_,⟨_,_,p0B he,?_⟩,h0Q w r _⟩
  ·unfold L6 at f2 ⊢;simp [Instr.mapUpdate,run_underlying Tryz.underlying199,hg,hck,Instr.findKey,run_underlying Tryz.underlying9,f2,g06 he]
  ·obtain ⟨h1,h2⟩:=hm;refine ⟨by simpa using h1,fun i hi=>?_⟩;rw [Array.toList_push];simp only [List.length_append,List.length_cons,List.length_nil] at hi
   by_cases hi2:i<ks.length
   ·rw [List.getElem?_append_left (by omega),List.getElem_append_left hi2];exact h2 i hi2
   ·obtain rfl:i=ks.length:=by omega
    rw [List.getElem?_append_right (by omega)];simp [h1]
 ·rw [hk] at f1;cases f1
theorem n0o {w:World} {r:Nat} {ks:List (List Bool)} (h:F7 w r ks) (ty:TypeId) :
  (Builtin.len_ #[199] ty #[.map (some r)]).run Tryz.prog w=.ok (.int .i64 (ks.length:Int)) w:=by
 obtain ⟨es,cl,he,hm⟩:=h;have hg:(getObj r).run Tryz.prog w=.ok (.map es cl) w:=a0D he;have hl:es.size=ks.length:=by simpa using hm.1
 simp [Builtin.len_,run_underlying Tryz.underlying199,hg,hl]
 try rfl
theorem x02 {F:Nat} (hh:G0 en (a0l F)) (w:World) (b:Int) (l:List (List Int)) (A:Option Addr) (c:Nat)
  (hcell:l≠[]->∃ bb o,A=some ⟨bb,o,none⟩/\bb<w.heap.size/\∀ k:Nat,k<l.length->(gt l (k:Int)).length=4/\∀ j:Nat,j<4->Z0 w.heap bb (o+k*4+j)=some (.int .u64 ((gt l (k:Int)).getD j 0)))
  {ks:List Bool} (hm:c0e F b l=some ks) (hlen:l.length<=1000000000) :
  Calls Tryz.prog 145 #[.int .u8 b,.slice A l.length c] w fun e w1=>e=.returned (L6 ks)/\Below w.heap.size w w1:=w0K hh w b l A c hcell hm hlen
set_option maxHeartbeats 4000000 in
theorem w03 {F:Nat} (hh:G0 en (a0l F)) (w:World) (l:List (List Int)) (A:Option Addr) (c:Nat)
  (hcell:l≠[]->∃ bb o,A=some ⟨bb,o,none⟩/\bb<w.heap.size/\∀ k:Nat,k<l.length->(gt l (k:Int)).length=4/\∀ j:Nat,j<4->Z0 w.heap bb (o+k*4+j)=some (.int .u64 ((gt l (k:Int)).getD j 0)))
  (st:Nat->List (List Bool)×List Int) (h0:st 0=([],[])) (hs:∀ b<256,c0D F l (st b) b=some (st (b+1))) (hst:∀ b,b<=256->(st b).1.length<=b/\(st b).2.length=b) (hlen:l.length<=1000000000) :
  Calls Tryz.prog 112 #[.slice A l.length c] w fun e w1=>∃ v,e=.returned (.tuple #[v,.int .i64 ((st 256).1.length:Int)])/\w1.ownsRow w.heap.size 3 1 v 256 ((st 256).2.map fun x=>Value.int .i64 x)/\Below w.heap.size w w1:=by
 obtain ⟨i0,hi,hz0,hz1,hz2⟩:=info_parts y0m;have hmk:∀ w:World,(Instr.makeMap 199 none).run Tryz.prog w=.ok (.map (some w.heap.size)) (w.alloc (.map #[] 0)):=fun w=>run_makeMap 199 w
 go_enter Tryz.func112,Tryz.ntmps112
 go_wp2
 go_loopw [5,11] (fun v i wr=>∃ k:Nat,k<=256/\i=.int .i64 k/\F7 wr w.heap.size (st k).1/\wr.ownsRow (w.heap.size+1) 3 1 v k ((st k).2.map fun x=>Value.int .i64 x)/\Below w.heap.size w wr) (fun _ i _=>256-(intOf i).toNat)
 case atStart=>exact ⟨0,Nat.zero_le _,rfl,by rw [h0];exact ⟨#[],0,(Go.MapKept.heap_alloc w _).1,rfl,fun i h=>by simp at h⟩,by rw [h0];exact World.ownsRow_nil _ _ _ _,e0O _ _⟩
 case round=>
  obtain ⟨k,hk,rfl,hkm,hown,hb⟩:=hrel;have hbs:=hb.size;have hkl:=hkm.lt
  by_cases hd:k=256
  ·subst hd;have hlen2:=n0o hkm
   go_wp2
   go_ret2
   refine ⟨_,rfl,?_,hb⟩;obtain ⟨h1,h2⟩:=hown;refine ⟨h1,?_⟩;rcases h2 with h2 | ⟨g,cap,cur,h3,h4,h5⟩
   ·exact .inl h2
   ·exact .inr ⟨g,cap,cur,h3,by omega,h5⟩
  ·have hlt:k<256:=by omega
   have d1:decide ((k:Int)<256)=true:=by simp;omega
   have d2:IntKind.wrap .u8 (k:Int)=(k:Int):=by simp [IntKind.wrap,IntKind.bits,IntKind.signed];omega
   have hs1:=hs k hlt;obtain ⟨l1,l2⟩:=hst k hk;unfold c0D at hs1;obtain ⟨kk,hkk,hs1⟩:=bind_eq_some_iff.1 hs1;have hcell2:l≠[]->∃ bb o,A=some ⟨bb,o,none⟩/\bb<wr.heap.size/\∀ k:Nat,k<l.length->(gt l (k:Int)).length=4/\∀ j:Nat,j<4->Z0 wr.heap bb (o+k*4+j)=some (.int .u64 ((gt l (k:Int)).getD j 0)):=fun hne=>by
    obtain ⟨bb,o,hA,h1,h2⟩:=hcell hne;refine ⟨bb,o,hA,by omega,fun q hq=>⟨(h2 q hq).1,fun j hj=>?_⟩⟩;have:=(h2 q hq).2 j hj;unfold Z0 at this ⊢;rw [hb.block bb h1];exact this
   go_wp2_with (go_at_call 145;refine (x02 hh wr (k:Int) l A c hcell2 hkk hlen).mono ?_)
   rintro e w2 ⟨rfl,hb2⟩
   have hkm2:=hkm.S7 (hb2.block _ hkl);have hb3:Below w.heap.size w w2:=j0W hb hb.size hb2;have hown2:w2.ownsRow (w.heap.size+1) 3 1 u5 k ((st k).2.map fun x=>Value.int .i64 x):=World.ownsRow.kept (row:=none) hown ⟨hb2.os,hb2.tape,hb2.output,hb2.size,fun k hk _=>hb2.block k hk⟩ (by cases hv:u5.ownBlock<;>simp);have hlk:=t0o hkm2 kk;clear hcell hcell2 hkm hown;cases hc:(st k).1.contains kk with
   |
    true=>
    rw [hc] at hlk hs1;simp only [if_true] at hlk hs1;have hs1:=Option.some.inj hs1;generalize hix:((st k).1.idxOf kk:Int)=ix at *
    go_wp2_with (at_builtin;refine wpList_append_own _ rfl _ _ 22 rfl (w.heap.size+1) 3 i0 (.int .i64 0) 1 8 Tryz.underlying22 hi hz0 hz1 hz2 rfl (by decide) _ _ _ rfl (hown2.alloc _) ⟨w2.heap.size,0,none⟩ 1 1 [.int .i64 ix] rfl rfl ?c1 ?c2 ?c3 ?c4 ?c5 ?_)
    case c1=>
     intro j u hj
     match j,hj with
     |0,hj=>simp at hj;subst hj;simp [Addr.add]
    case c2=>intro u hu;simp at hu;subst hu;rfl
    case c3=>unfold maxLen;omega
    case c4=>omega
    case c5=>have:=hb3.size;simp;omega
    intro v' w3 hown3 hgrow _;have hkm3:F7 w3 w.heap.size (st k).1:=(hkm2.S7 (Below.heap_alloc _ _ _ hkm2.lt)).S7 (hgrow.block _ (by simp;exact Nat.lt_succ_of_lt hkm2.lt) (fun e=>by have:=(hown2.lt _ e.symm).1;omega));have hb4:Below w.heap.size w w3:=(hb3.alloc hb3.size _).grown hgrow (by have:=hb3.size;simp;omega) (fun g hg=>by have:=(hown2.lt g hg).1;omega);clear hgrow hown2 hkm2 hlk;have e1:(st (k+1)).1=(st k).1:=by rw [<-hs1]
    have e2:(st (k+1)).2=(st k).2++[ix]:=by rw [<-hs1]
    have hown4:w3.ownsRow (w.heap.size+1) 3 1 v' (k+1) ((st (k+1)).2.map fun x=>Value.int .i64 x):=by rw [e2,List.map_append];exact hown3
    rw [<-e1] at hkm3;clear hown3 hs1 e1 e2
    go_wp2
    go_roundw
    case rel=>exact ⟨k+1,by omega,by go_num,hkm3,hown4,hb4⟩
    case measure=>simp [intOf];omega
   |
    false=>
    rw [hc] at hlk hs1;simp only [if_false,Bool.false_eq_true] at hlk hs1;have hs1:=Option.some.inj hs1;obtain ⟨w3,hup,hkm3,honly⟩:=u0Z hkm2 hc;have hlen3:=n0o hkm2;have hb4:Below w.heap.size w w3:=hb3.trans ⟨honly.os,honly.tape,honly.output,honly.size,fun j hj=>honly.block j (by have:=hb3.size;omega) (by omega)⟩;have hown3:w3.ownsRow (w.heap.size+1) 3 1 u5 k ((st k).2.map fun x=>Value.int .i64 x):=World.ownsRow.kept (row:=some w.heap.size) hown2 ⟨honly.os,honly.tape,honly.output,honly.size,fun j hj hn=>honly.block j hj (fun e=>hn (by rw [e]))⟩ (.inr (fun e=>by have:=(hown2.lt _ e).1;omega));clear hown2 hkm2 honly;generalize hix:((st k).1.length:Int)=ix at *
    go_wp2_with (at_builtin;refine wpList_append_own _ rfl _ _ 22 rfl (w.heap.size+1) 3 i0 (.int .i64 0) 1 8 Tryz.underlying22 hi hz0 hz1 hz2 rfl (by decide) _ _ _ rfl (hown3.alloc _) ⟨w3.heap.size,0,none⟩ 1 1 [.int .i64 ix] rfl rfl ?c1 ?c2 ?c3 ?c4 ?c5 ?_)
    case c1=>
     intro j u hj
     match j,hj with
     |0,hj=>simp at hj;subst hj;simp [Addr.add]
    case c2=>intro u hu;simp at hu;subst hu;rfl
    case c3=>unfold maxLen;omega
    case c4=>omega
    case c5=>have:=hb4.size;simp;omega
    intro v' w4 hown4 hgrow _;have hkm4:F7 w4 w.heap.size ((st k).1++[kk]):=(hkm3.S7 (Below.heap_alloc _ _ _ hkm3.lt)).S7 (hgrow.block _ (by simp;exact Nat.lt_succ_of_lt hkm3.lt) (fun e=>by have:=(hown3.lt _ e.symm).1;omega));have hb5:Below w.heap.size w w4:=(hb4.alloc hb4.size _).grown hgrow (by have:=hb4.size;simp;omega) (fun g hg=>by have:=(hown3.lt g hg).1;omega);clear hgrow hown3 hkm3 hlk hup hlen3;have e1:(st (k+1)).1=(st k).1++[kk]:=by rw [<-hs1]
    have e2:(st (k+1)).2=(st k).2++[ix]:=by rw [<-hs1]
    have hown5:w4.ownsRow (w.heap.size+1) 3 1 v' (k+1) ((st (k+1)).2.map fun x=>Value.int .i64 x):=by rw [e2,List.map_append];exact hown4
    rw [<-e1] at hkm4;clear hown4 hs1 e1 e2
    go_wp2
    go_roundw
    case rel=>exact ⟨k+1,by omega,by go_num,hkm4,hown5,hb5⟩
    case measure=>simp [intOf];omega
theorem m01 {α:Type} (f:α->Nat->Option α) (x0:α):∀ (n:Nat) (y:α),(List.range n).foldlM f x0=some y->∃ st:Nat->α,st 0=x0/\(∀ b<n,f (st b) b=some (st (b+1)))/\st n=y
 |0,y,h=>⟨fun _=>x0,rfl,fun b hb=>by omega,by simpa using h⟩
 |
  n+1,y,h=>by
  rw [List.range_succ,List.foldlM_append] at h;obtain ⟨z,h1,h2⟩:=bind_eq_some_iff.1 h;obtain ⟨st,g1,g2,g3⟩:=m01 f x0 n z h1;have h2:f z n=some y:=by simpa using h2
  refine ⟨fun b=>if b<=n then st b else y,by simp [g1],fun b hb=>?_,by simp only [show ¬ n+1<=n by omega,if_false]⟩
  by_cases hbn:b<n
  ·simp only [show b<=n by omega,show b+1<=n by omega,if_true];exact g2 b hbn
  ·obtain rfl:b=n:=by omega
   simp only [Nat.le_refl,if_true,show ¬ b+1<=b by omega,if_false];rw [g3];exact h2
theorem p0N {F:Nat} {l:List (List Int)} {s t:List (List Bool)×List Int} {b:Nat} (h:c0D F l s b=some t) (h1:s.1.length<=b) (h2:s.2.length=b):t.1.length<=b+1/\t.2.length=b+1:=by
 unfold c0D at h;obtain ⟨k,_,h⟩:=bind_eq_some_iff.1 h;split at h
 ·cases h;exact ⟨by simp;omega,by simp [h2]⟩
 ·cases h;exact ⟨by simp;omega,by simp [h2]⟩
theorem l0d {E:Env} {H:F0} {S:B0} {t:U} {x:Q3 E.D (.d t)} {c:List Value} (h:(D0 E t).R H S c x):SR E H S (.d t) x c []:=by
 unfold SR;exact ⟨rfl,h⟩
theorem y0Z {H:F0} {S:B0} {c:List Value} {l:List (List Int)} (h:(D0 en (.list (.arr 4 (.int .u64)))).R H S c l):∃ A cc,c=[.slice A l.length cc]/\
  (l≠[]->∃ bb o,A=some ⟨bb,o,none⟩/\bb<H.size/\∀ k:Nat,k<l.length->(gt l (k:Int)).length=4/\∀ j:Nat,j<4->Z0 H bb (o+k*4+j)=some (.int .u64 ((gt l (k:Int)).getD j 0))):=by
 obtain ⟨A,cc,rfl,hsl⟩:=(show (Q2 (D0 en (.arr 4 (.int .u64)))).R H S c l from h)
 refine ⟨A,cc,rfl,fun hne=>?_⟩;obtain ⟨b,o,rfl,hb,_⟩:=hsl.2.1 hne;refine ⟨b,o,rfl,hb,fun k hk=>?_⟩;have hg:l[k]?=some (gt l (k:Int)):=by rw [Y5 (x:=l[k]) (by simp [hk])];simp [hk]
 obtain ⟨b',o',cs,e,hR,hcell⟩:=hsl.2.2 k (show List Int from gt l (k:Int)) hg;cases e;obtain ⟨h4,rfl⟩:=u0Y hR;refine ⟨h4,fun j hj=>?_⟩;have:=hcell j (.int .u64 ((gt l (k:Int)).getD j 0)) (by
  rw [List.getElem?_map,List.getD_eq_getElem?_getD];rw [List.getElem?_eq_getElem (by omega)];rfl)
 exact this
theorem r0E {w w1:World} {S:B0} {v:Value} {xs:List Int} {n:Nat} (h:w1.ownsRow w.heap.size 3 1 v n (xs.map fun x=>Value.int .i64 x)) (hS:∀ b,S b->b<w.heap.size):(D0 en (.list (.int .i64))).R w1.heap S [v] xs:=by
 obtain ⟨hl,h⟩:=h;obtain rfl:xs.length=n:=by simpa using hl
 rcases h with ⟨rfl,h0⟩ | ⟨g,cap,cur,rfl,hb,hg,hc,hm,hs,ht⟩
 ·obtain rfl:xs=[]:=List.eq_nil_of_length_eq_zero h0;exact ⟨none,0,rfl,Nat.le_refl _,fun h=>absurd rfl h,fun i x hx=>by cases hx⟩
 ·refine ⟨some ⟨g,0,none⟩,cap,rfl,hc,fun _=>⟨g,0,rfl,(Array.getElem?_eq_some_iff.1 hg).1,fun h=>by have:=hS g h;omega⟩,fun i (x:Int) hx=>⟨g,0,[.int .i64 x],rfl,rfl,fun j v hj=>?_⟩⟩;have hi:i<xs.length:=(List.getElem?_eq_some_iff.1 hx).1;obtain rfl:j=0:=by
   cases j with
   |zero=>rfl
   |succ j=>simp at hj
  simp at hj;subst hj;have h1:(cur.toList.take (xs.length*1))[i]?=some (.int .i64 x):=by
   rw [ht,List.getElem?_map];have hx':xs[i]?=some x:=hx;rw [hx'];rfl
  rw [List.getElem?_take_of_lt (by omega)] at h1;show Z0 w1.heap g (0+i*1+0)=_;unfold Z0;rw [hg,Nat.zero_add,Nat.mul_one,Nat.add_zero];simpa using h1
theorem t0G (F:Nat) (hh:G0 en (a0l F)):G0 en (j0J F):=by
 intro w S us pl x y hm hsr hS hpl hap;have hsr:N1 en w.heap S [.d (.list (.arr 4 (.int .u64)))] x us pl:=hsr;unfold N1 at hsr;obtain ⟨c,u,us1,p1,p2,rfl,rfl,e1,h1,h2⟩:=hsr;obtain ⟨rfl,rfl⟩:=n9 h2;unfold SR at h1;obtain ⟨rfl,h1⟩:=h1;obtain ⟨A,cc,rfl,hcell⟩:=y0Z h1;have e1:u=.slice A (show List (List Int) from x).length cc:=e1;subst e1;have hm:f0Y F x=some y:=hm;unfold f0Y at hm;split at hm
 rotate_left
 ·cases hm
 rename_i hlen;obtain ⟨stf,hf,hm⟩:=bind_eq_some_iff.1 hm;cases hm;obtain ⟨st,g1,g2,rfl⟩:=m01 _ _ _ _ hf;have hst:∀ b,b<=256->(st b).1.length<=b/\(st b).2.length=b:=by
  intro b hb
  induction b with
  |zero=>rw [g1];simp
  |
   succ b ih=>
   obtain ⟨i1,i2⟩:=ih (by omega);exact p0N (g2 b (by omega)) i1 i2
 refine (w03 hh w x A cc hcell st g1 g2 hst (of_decide_eq_true hlen)).mono ?_
 rintro e w1 ⟨v,rfl,hown,hb⟩
 refine ⟨_,S,[],rfl,?_,⟨hb.os,hb.tape,hb.output,hb.size,fun k hk _=>hb.block k hk⟩,⟨hb.size,fun b hb' hn=>⟨hn,hb.block b hb'⟩⟩,fun b h _=>h,fun b h=>Nat.lt_of_lt_of_le (hS b h) hb.size,by intro i j v v' _ hv;simp at hv,by rintro b ⟨v,hv,_⟩;simp at hv⟩;have hr:=r0E (S:=S) hown hS;obtain ⟨A2,c2,hv⟩:∃ A2 c2,v=.slice A2 (st 256).2.length c2:=by
  obtain ⟨A2,c2,hv,_⟩:=(show (Q2 (D0 en (.int .i64))).R w1.heap S [v] (st 256).2 from hr)
  exact ⟨A2,c2,(List.cons.inj hv).1⟩
 have hin:N1 en w1.heap S [.d (.list (.int .i64)),.d (.int .i64)] (((st 256).2,((st 256).1.length:Int)):List Int×Int) [v,.int .i64 ((st 256).1.length:Int)] []:=by
  refine W6 (x:=.d (.list (.int .i64))) (r:=[.d (.int .i64)]) ⟨[v],v,[.int .i64 ((st 256).1.length:Int)],[],[],rfl,rfl,rfl,l0d hr,?_⟩;exact W6 (x:=.d (.int .i64)) (r:=[]) ⟨[.int .i64 ((st 256).1.length:Int)],_,[],[],[],rfl,rfl,rfl,l0d rfl,N7⟩
 refine W6 (E:=en) (x:=.tup [.d (.list (.int .i64)),.d (.int .i64)]) (r:=[]) ⟨[.tuple #[v,.int .i64 ((st 256).1.length:Int)]],_,[],[],[],rfl,rfl,rfl,?_,N7⟩;unfold SR;exact ⟨[v,.int .i64 ((st 256).1.length:Int)],rfl,hin⟩
end Go.Proofs.YtihmgaccbcfgjaaGreat
set_option maxRecDepth 100000
namespace Go.Proofs.YtihmgaccbcfgjaaGreat
open Go.V Go.RowKit Go.X
theorem N0:∀ c∈([]:List (Sm en.D)),G0 en c:=fun _ h=>absurd h List.not_mem_nil
theorem E0 {c:Sm en.D} {r:List (Sm en.D)} (h:G0 en c) (hr:∀ c∈r,G0 en c):∀ d∈c :: r,G0 en d:=List.forall_mem_cons.2 ⟨h,hr⟩
theorem O0 {C:X1 en} {c:Sm en.D} (hm:∀ x,L0 en C c.f c.ins c.res c.back x=c.m x) (hs:∀ d∈C.sm,G0 en d):G0 en c:=n0t K9 (C:=C) (k08 K9 hs) fun x y h=>(hm x).trans h
theorem k0k (F:Nat):G0 en (d0B F):=O0 (t0S F) N0
theorem o07 (F:Nat):G0 en (e0G F):=O0 (u0N F) N0
theorem l0U (F:Nat):G0 en (e0E F):=O0 (w0M F) (E0 (o07 F) N0)
theorem m04 (F:Nat):G0 en (e0t F):=O0 (z0E F) N0
theorem s0J (F:Nat):G0 en (h0y F):=O0 (y0N F) (E0 (m04 F) N0)
theorem r0u (F:Nat):G0 en (j0l F):=O0 (u0K F) (E0 (m04 F) N0)
theorem v06 (F:Nat):G0 en (h0U F):=O0 (v0I F) (E0 (o07 F) (E0 (l0U F) (E0 (s0J F) (E0 (r0u F) N0))))
theorem m02 (F:Nat):G0 en (f0w F):=O0 (t0x F) N0
theorem B0v (F:Nat):G0 en (A0m F):=O0 (B0J F) (E0 (m02 F) N0)
theorem B0h (F:Nat):G0 en (A0b F):=O0 (B0u F) (E0 (m02 F) (E0 (B0v F) N0))
theorem A0x (F:Nat):G0 en (z02 F):=O0 (B0V F) (E0 (m02 F) (E0 (B0h F) N0))
theorem x0n (F:Nat):G0 en (j0m F):=O0 (x0s F) N0
theorem y0e (F:Nat):G0 en (g0I F):=O0 (s0T F) N0
theorem q0g (F:Nat):G0 en (h0t F):=O0 (x06 F) N0
theorem h06 (F:Nat):G0 en (b0B F):=O0 (z0O F) (E0 (x0n F) (E0 (y0e F) (E0 (q0g F) N0)))
theorem H8 (F:Nat):G0 en (A7 F):=O0 (r00 F) (E0 (h06 F) N0)
theorem k05 (F:Nat):G0 en (e0T F):=O0 (y02 F) N0
theorem k0p (F:Nat):G0 en (c0y F):=O0 (y0q F) (E0 (H8 F) N0)
theorem v0f (F:Nat):G0 en (h0h F):=O0 (x01 F) (E0 (H8 F) (E0 (k05 F) (E0 (k0p F) N0)))
theorem k06 (F:Nat):G0 en (a0l F):=O0 (q0Z F) N0
theorem t0j (F:Nat):G0 en (j0J F):=t0G F (k06 F)
theorem p0P (F:Nat):G0 en (h03 F):=O0 (x0r F) (E0 (H8 F) (E0 (t0j F) N0))
theorem r0r (F:Nat):G0 en (i0y F):=O0 (t0U F) N0
theorem y0l (F:Nat):G0 en (h0X F):=O0 (s0r F) (E0 (m02 F) N0)
theorem r0I (F:Nat):G0 en (k0C F):=O0 (z0a F) (E0 (m02 F) (E0 (r0r F) (E0 (y0l F) N0)))
theorem n0h (F:Nat):G0 en (e01 F):=O0 (s0z F) (E0 (h06 F) N0)
theorem u0o (F:Nat):G0 en (j0B F):=O0 (u0e F) (E0 (n0h F) N0)
theorem i0t (F:Nat):G0 en (c05 F):=O0 (r0T F) (E0 (H8 F) (E0 (u0o F) N0))
theorem y0G (F:Nat):G0 en (i0P F):=O0 (v0j F) N0
theorem u0k (F:Nat):G0 en (h0s F):=O0 (p0K F) N0
theorem d0g (F:Nat):G0 en (b0f F):=O0 (v0z F) (E0 (H8 F) N0)
theorem y0W (F:Nat):G0 en (k0A F):=O0 (q0d F) N0
theorem u0i (F:Nat):G0 en (k0j F):=O0 (q0r F) N0
theorem k04 (F:Nat):G0 en (e0y F):=O0 (r0G F) (E0 (u0i F) N0)
theorem k02 (F:Nat):G0 en (f0K F):=O0 (p0L F) (E0 (i0t F) (E0 (H8 F) (E0 (u0k F) (E0 (d0g F) (E0 (y0W F) (E0 (k04 F) N0))))))
theorem o0H (F:Nat):∀ n,G0 en (e0o F n)
 |0=>fun w S us pl x y h=>by cases h
 |n+1=>O0 (p0G F n) (E0 (o0H F n) N0)
theorem i0R (F:Nat):G0 en (c06 F):=O0 (t02 F) (E0 (k0p F) (E0 (o0H F F) N0))
theorem i0Q (F:Nat):G0 en (b0Q F):=O0 (s0k F) (E0 (H8 F) N0)
theorem p0o (F:Nat):G0 en (f0j F):=O0 (q0t F) (E0 (i0Q F) N0)
theorem t0u (F:Nat):G0 en (g0Y F):=O0 (z0m F) (E0 (H8 F) (E0 (d0g F) N0))
theorem l0q (F:Nat):G0 en (f08 F):=O0 (u0w F) (E0 (H8 F) (E0 (k0p F) (E0 (i0Q F) (E0 (p0o F) (E0 (t0u F) N0)))))
theorem p0k (F:Nat):G0 en (f02 F):=O0 (x0i F) (E0 (d0g F) (E0 (l0q F) N0))
theorem n0y (F:Nat):G0 en (e0R F):=O0 (w0i F) N0
theorem k0f (F:Nat):∀ n,G0 en (d0a F n)
 |0=>fun w S us pl x y h=>by cases h
 |n+1=>O0 (s0a F n) (E0 (i0R F) (E0 (n0y F) (E0 (k0f F n) N0)))
theorem t0p (F:Nat):G0 en (j0Z F):=O0 (r0y F) (E0 (k0f F F) N0)
theorem o03 (F:Nat):G0 en (e0C F):=O0 (r04 F) (E0 (i0R F) (E0 (t0p F) (E0 (n0y F) N0)))
theorem n0r (F:Nat):G0 en (f06 F):=O0 (q07 F) (E0 (i0R F) (E0 (p0k F) (E0 (o03 F) N0)))
theorem e0D (F:Nat):G0 en (b0W F):=O0 (t0B F) (E0 (k04 F) N0)
theorem i0H (F:Nat):G0 en (c0W F):=O0 (q0P F) N0
theorem r0S (F:Nat):G0 en (j0T F):=O0 (q04 F) (E0 (e0D F) (E0 (i0H F) N0))
theorem m0u (F:Nat):G0 en (f0Q F):=O0 (y0d F) (E0 (n0r F) (E0 (r0S F) N0))
theorem j0e (F:Nat):G0 en (b0O F):=n0t K9 (C:=m0q F) (k08 K9 (fun _ h=>absurd h List.not_mem_nil)) fun (x:List Int) y h=>(show L0 en (m0q F) 99 [.d (.list (.int .i64))] (.own 3 (.int .i64)) [] x=(if List.isEmpty (α:=Int) x then same (some []) (if C1 8 ([]:List Int) x then some ([]++x) else none) else if C1 8 ([]:List Int) x then some ([]++x) else none) by kernel_rfl).trans (q0X h)
theorem m0f (F:Nat):G0 en (e0k F):=y05 F (j0e F)
theorem t0d (F:Nat):G0 en (k0b F):=O0 (x0N F) (E0 (n0h F) N0)
theorem o0l (F:Nat):G0 en (f01 F):=O0 (z0f F) (E0 (H8 F) (E0 (t0d F) N0))
theorem s0N (F:Nat):G0 en (o0M F):=r0e fun w S hS A c v k hk hsl=>Wr.x0H 2000 hS hsl (Wr.z0H hk (by omega))
theorem t0J (F:Nat):G0 en (k0o F):=O0 (v0k F) (E0 (s0N F) N0)
theorem n0K (F:Nat):G0 en (f0c F):=O0 (x0h F) (E0 (i0t F) (E0 (t0J F) N0))
theorem q0Y (F:Nat):G0 en (h02 F):=O0 (q0q F) (E0 (k02 F) (E0 (m0u F) (E0 (n0r F) (E0 (m0f F) (E0 (o0l F) (E0 (n0K F) N0))))))
theorem r0X (F:Nat):G0 en (m0t F):=x05 (E:=en) (i:=11) (key:=fun x:E1=>x.To) Go.Proofs.Tryz.u0q rfl Go.Proofs.Tryz.r0Q Go.Proofs.Tryz.y0R Go.Proofs.Tryz.p04 Go.Proofs.Tryz.z0K (fun H S cs x h=>by
 obtain ⟨c1,c2,rfl,h1,c3,c4,rfl,h2,c5,c6,rfl,⟨A,c,rfl,_⟩,rfl⟩:=(j0M 11 _ _ _ _).1 h;have h1:c1=[_]:=h1;have h2:c3=[_]:=h2;subst h1;subst h2;exact ⟨_,_,rfl⟩) (by kernel_rfl)
theorem l0W (F:Nat):G0 en (g0u F):=O0 (y0w F) N0
theorem v0n (F:Nat):G0 en (g0U F):=O0 (t0M F) (E0 (p0k F) (E0 (o03 F) (E0 (r0X F) (E0 (l0W F) N0))))
theorem u0v (F:Nat):G0 en (j0n F):=O0 (u0H F) (E0 (l0q F) (E0 (k0f F F) (E0 (l0W F) N0)))
theorem n0i (F:Nat):G0 en (g0g F):=O0 (y07 F) N0
theorem t0w (F:Nat):G0 en (j0U F):=O0 (t0m F) (E0 (e0D F) (E0 (n0i F) N0))
theorem y00 (F:Nat):G0 en (g0M F):=O0 (q0j F) (E0 (n0K F) (E0 (v0n F) (E0 (u0v F) (E0 (t0w F) N0))))
theorem z0A (F:Nat):G0 en (i0d F):=O0 (y0O F) N0
theorem m0P (F:Nat):G0 en (e02 F):=O0 (q0b F) N0
theorem m0w (F:Nat):G0 en (f00 F):=O0 (v0g F) (E0 (m0P F) N0)
theorem v0H (F:Nat):G0 en (j0t F):=O0 (p0S F) (E0 (e0D F) (E0 (i0H F) (E0 (m0w F) N0)))
theorem r0p (F:Nat):G0 en (k0t F):=w0l F (i0Q F) (h06 F)
theorem p0b (F:Nat):∀ n,G0 en (f04 F n)
 |0=>fun w S us pl x y h=>by cases h
 |n+1=>O0 (q0O F n) (E0 (d0g F) (E0 (p0b F n) (E0 (p0o F) (E0 (r0p F) N0))))
theorem v0p (F:Nat):G0 en (i0p F):=O0 (p0O F) (E0 (e0D F) (E0 (i0H F) (E0 (m0w F) (E0 (n0i F) (E0 (p0b F F) (E0 (m0P F) N0))))))
theorem n0x (F:Nat):G0 en (g0w F):=O0 (u0s F) N0
theorem w02 (F:Nat):G0 en (i0K F):=w0Y F
theorem y0x (F:Nat):G0 en (i0b F):=O0 (q0I F) N0
theorem u0a (F:Nat):G0 en (j0j F):=O0 (w0V F) (E0 (n0x F) (E0 (y0x F) N0))
theorem x0x (F:Nat):G0 en (g0Q F):=O0 (x0W F) (E0 (m0u F) (E0 (n0x F) (E0 (w02 F) (E0 (u0a F) N0))))
theorem z0B (F:Nat):G0 en (h0w F):=O0 (s09 F) N0
theorem x0a (F:Nat):G0 en (j0u F):=O0 (z0t F) (E0 (k05 F) (E0 (k02 F) (E0 (m0f F) (E0 (o0l F) (E0 (k06 F) (E0 (d0g F) (E0 (y00 F) (E0 (z0A F) (E0 (v0H F) (E0 (v0p F) (E0 (x0x F) (E0 (z0B F) N0))))))))))))
theorem q0y (F:Nat):G0 en (j05 F):=O0 (x0u F) (E0 (r0I F) (E0 (x0a F) N0))
theorem u02 (F:Nat):G0 en (g0P F):=O0 (w0j F) (E0 (y0G F) (E0 (q0Y F) (E0 (q0y F) N0)))
theorem s0b (F:Nat):G0 en (k0x F):=O0 (v0V F) (E0 (l0U F) (E0 (v0f F) (E0 (p0P F) (E0 (i0t F) (E0 (u02 F) N0)))))
theorem A0V (F:Nat):G0 en (A0d F):=O0 (B0U F) N0
theorem l0h (F:Nat):G0 en (e0f F):=O0 (s08 F) N0
theorem u0f (F:Nat):G0 en (j06 F):=O0 (v0U F) (E0 (l0h F) N0)
theorem o0i (F:Nat):G0 en (e0i F):=O0 (w0B F) N0
theorem z0Q (F:Nat):G0 en (h0o F):=O0 (s0D F) (E0 (o0i F) N0)
theorem d0W (F:Nat):G0 en (b0K F):=O0 (v0B F) (E0 (l0h F) (E0 (u0f F) (E0 (o0i F) (E0 (z0Q F) N0))))
theorem A0U (F:Nat):G0 en (A0l F):=O0 (B0G F) (E0 (d0W F) N0)
theorem l0O (F:Nat):G0 en (g0x F):=O0 (r0m F) N0
theorem B0a (F:Nat):G0 en (z08 F):=O0 (B0A F) (E0 (l0O F) N0)
theorem B0M (F:Nat):G0 en (A0p F):=O0 (B0x F) (E0 (l0O F) (E0 (B0a F) N0))
