/- Sorting by keys that differ. Its conditions: none. -/
import Derived.Test.YtdficaoajalfaaaGreatWG00
open List (pairwise_cons mem_cons)
set_option linter.all false
namespace Go.V
open Go.RowKit
def d0W {α:Type} (key:α->Int) (x:α):List α->List α
 |[]=>[x]
 |y :: r=>if key x<=key y then x :: y :: r else y :: d0W key x r
def j7 {α:Type} (key:α->Int):List α->List α
 |[]=>[]
 |x :: r=>d0W key x (j7 key r)
def d0l {α:Type} (key:α->Int):List α->Bool
 |[]=>true
 |x :: r=>r.all (fun y=>key x != key y)&&d0l key r
def b0k {α:Type} (key:α->Int) (xs:List α):Bool:=decide (xs.length<4611686018427387904)&&xs.all (fun x=>decide (0<=key x)&&decide (key x<4294967296))&&d0l key xs
theorem m0d {α:Type} (key:α->Int) (x:α):∀ l:List α,(d0W key x l).Perm (x :: l)
 |[]=>List.Perm.refl _
 |
  y :: r=>by
  unfold d0W;split
  ·exact List.Perm.refl _
  ·exact ((m0d key x r).cons y).trans (List.Perm.swap x y r)
theorem c0f {α:Type} (key:α->Int):∀ l:List α,(j7 key l).Perm l
 |[]=>List.Perm.refl _
 |x :: r=>(m0d key x _).trans ((c0f key r).cons x)
theorem e0x {α:Type} (key:α->Int) (l:List α):(j7 key l).length=l.length:=(c0f key l).length_eq
theorem w0w {α:Type} (key:α->Int) (x:α):∀ l:List α,l.Pairwise (fun a b=>key a<=key b)->(d0W key x l).Pairwise (fun a b=>key a<=key b)
 |[],_=>by simp [d0W]
 |
  y :: r,h=>by
  obtain ⟨h1,h2⟩:=pairwise_cons.1 h;unfold d0W;split
  ·rename_i hb;refine pairwise_cons.2 ⟨fun q hq=>?_,h⟩;rcases mem_cons.1 hq with rfl | hq
   ·exact hb
   ·exact Int.le_trans hb (h1 q hq)
  ·rename_i hb;refine pairwise_cons.2 ⟨fun q hq=>?_,w0w key x r h2⟩;rcases mem_cons.1 ((m0d key x r).mem_iff.1 hq) with rfl | hq
   ·omega
   ·exact h1 q hq
theorem v0r {α:Type} (key:α->Int):∀ l:List α,(j7 key l).Pairwise (fun a b=>key a<=key b)
 |[]=>List.Pairwise.nil
 |x :: r=>w0w key x _ (v0r key r)
theorem f0B {α:Type} (key:α->Int):∀ l:List α,d0l key l=true↔l.Pairwise (fun a b=>key a≠key b)
 |[]=>by simp [d0l]
 |x :: r=>by simp [d0l,f0B key r]
theorem r0b {α:Type} (key:α->Int):∀ l m:List α,l.Perm m->l.Pairwise (fun a b=>key a<key b)->m.Pairwise (fun a b=>key a<key b)->l=m
 |[],m,h,_,_=>(List.Perm.nil_eq h)
 |x :: l,[],h,_,_=>by have:=h.length_eq;simp at this
 |
  x :: l,y :: m,h,h1,h2=>by
  obtain ⟨a1,a2⟩:=pairwise_cons.1 h1;obtain ⟨b1,b2⟩:=pairwise_cons.1 h2;have e:x=y:=by
   rcases mem_cons.1 (h.mem_iff.1 (List.mem_cons_self ..)) with e | hx
   ·exact e
   ·rcases mem_cons.1 (h.mem_iff.2 (List.mem_cons_self ..)) with e | hy
    ·exact e.symm
    ·have:=b1 x hx;have:=a1 y hy;omega
  subst e;rw [r0b key l m (List.Perm.cons_inv h) a2 b2]
theorem s07 {α:Type} (key:α->Int) {l:List α} (h:l.Pairwise (fun a b=>key a<=key b)) (h2:l.Pairwise (fun a b=>key a≠key b)):l.Pairwise (fun a b=>key a<key b):=by
 have:=h.and h2;exact this.imp (fun ⟨h1,h2⟩=>by omega)
theorem t0L {α:Type} (key:α->Int) {l m:List α} (hp:l.Perm m) (hs:l.Pairwise (fun a b=>key a<=key b)) (hd:d0l key m=true):l=j7 key m:=by
 have hd':=(f0B key m).1 hd;have d1:l.Pairwise (fun a b=>key a≠key b):=(hp.pairwise_iff (fun {a b} (h:key a≠key b)=>h.symm)).2 hd';have d2:(j7 key m).Pairwise (fun a b=>key a≠key b):=((c0f key m).pairwise_iff (fun {a b} (h:key a≠key b)=>h.symm)).2 hd';exact r0b key _ _ (hp.trans (c0f key m).symm) (s07 key hs d1) (s07 key (v0r key m) d2)
