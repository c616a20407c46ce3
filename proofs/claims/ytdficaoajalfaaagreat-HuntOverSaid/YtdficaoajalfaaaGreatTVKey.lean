/- Sorting by keys that differ. Its conditions: none. -/
import Derived.Test.YtdficaoajalfaaaGreatTG00
open List (pairwise_cons mem_cons)
set_option linter.all false
namespace Go.V
open Go.RowKit
def insK {α:Type} (key:α->Int) (x:α):List α->List α
 |[]=>[x]
 |y :: r=>if key x<=key y then x :: y :: r else y :: insK key x r
def t_2 {α:Type} (key:α->Int):List α->List α
 |[]=>[]
 |x :: r=>insK key x (t_2 key r)
def a_wo {α:Type} (key:α->Int):List α->Bool
 |[]=>true
 |x :: r=>r.all (fun y=>key x != key y)&&a_wo key r
def soOk {α:Type} (key:α->Int) (xs:List α):Bool:=decide (xs.length<4611686018427387904)&&xs.all (fun x=>decide (0<=key x)&&decide (key x<4294967296))&&a_wo key xs
theorem a_t6 {α:Type} (key:α->Int) (x:α):∀ l:List α,(insK key x l).Perm (x :: l)
 |[]=>List.Perm.refl _
 |
  y :: r=>by
  unfold insK
  split
  ·exact List.Perm.refl _
  ·exact ((a_t6 key x r).cons y).trans (List.Perm.swap x y r)
theorem z_4 {α:Type} (key:α->Int):∀ l:List α,(t_2 key l).Perm l
 |[]=>List.Perm.refl _
 |x :: r=>(a_t6 key x _).trans ((z_4 key r).cons x)
theorem a_ev {α:Type} (key:α->Int) (l:List α):(t_2 key l).length=l.length:=(z_4 key l).length_eq
theorem a_xo {α:Type} (key:α->Int) (x:α):∀ l:List α,l.Pairwise (fun a b=>key a<=key b)->(insK key x l).Pairwise (fun a b=>key a<=key b)
 |[],_=>by simp [insK]
 |
  y :: r,h=>by
  obtain ⟨h1,h2⟩:=pairwise_cons.1 h
  unfold insK
  split
  ·rename_i hb
   refine pairwise_cons.2 ⟨fun q hq=>?_,h⟩
   rcases mem_cons.1 hq with rfl | hq
   ·exact hb
   ·exact Int.le_trans hb (h1 q hq)
  ·rename_i hb
   refine pairwise_cons.2 ⟨fun q hq=>?_,a_xo key x r h2⟩
   rcases mem_cons.1 ((a_t6 key x r).mem_iff.1 hq) with rfl | hq
   ·omega
   ·exact h1 q hq
theorem a_ue {α:Type} (key:α->Int):∀ l:List α,(t_2 key l).Pairwise (fun a b=>key a<=key b)
 |[]=>List.Pairwise.nil
 |x :: r=>a_xo key x _ (a_ue key r)
theorem a_mp {α:Type} (key:α->Int):∀ l:List α,a_wo key l=true↔l.Pairwise (fun a b=>key a≠key b)
 |[]=>by simp [a_wo]
 |x :: r=>by simp [a_wo,a_mp key r]
theorem a_sy {α:Type} (key:α->Int):∀ l m:List α,l.Perm m->l.Pairwise (fun a b=>key a<key b)->m.Pairwise (fun a b=>key a<key b)->l=m
 |[],m,h,_,_=>(List.Perm.nil_eq h)
 |x :: l,[],h,_,_=>by have:=h.length_eq;simp at this
 |
  x :: l,y :: m,h,h1,h2=>by
  obtain ⟨a1,a2⟩:=pairwise_cons.1 h1
  obtain ⟨b1,b2⟩:=pairwise_cons.1 h2
  have e:x=y:=by
   rcases mem_cons.1 (h.mem_iff.1 (List.mem_cons_self ..)) with e | hx
   ·exact e
   ·rcases mem_cons.1 (h.mem_iff.2 (List.mem_cons_self ..)) with e | hy
    ·exact e.symm
    ·have:=b1 x hx;have:=a1 y hy;omega
  subst e
  rw [a_sy key l m (List.Perm.cons_inv h) a2 b2]
theorem a_yd {α:Type} (key:α->Int) {l:List α} (h:l.Pairwise (fun a b=>key a<=key b)) (h2:l.Pairwise (fun a b=>key a≠key b)):l.Pairwise (fun a b=>key a<key b):=by
 have:=h.and h2
 exact this.imp (fun ⟨h1,h2⟩=>by omega)
theorem a_7c {α:Type} (key:α->Int) {l m:List α} (hp:l.Perm m) (hs:l.Pairwise (fun a b=>key a<=key b)) (hd:a_wo key m=true):l=t_2 key m:=by
 have hd':=(a_mp key m).1 hd
 have d1:l.Pairwise (fun a b=>key a≠key b):=(hp.pairwise_iff (fun {a b} (h:key a≠key b)=>h.symm)).2 hd'
 have d2:(t_2 key m).Pairwise (fun a b=>key a≠key b):=((z_4 key m).pairwise_iff (fun {a b} (h:key a≠key b)=>h.symm)).2 hd'
 exact a_sy key _ _ (hp.trans (z_4 key m).symm) (a_yd key hs d1) (a_yd key (a_ue key m) d2)
