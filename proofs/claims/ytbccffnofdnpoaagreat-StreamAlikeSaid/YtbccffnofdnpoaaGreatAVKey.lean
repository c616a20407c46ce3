/- P. Its conditions: none. -/
import Derived.Test.YtbccffnofdnpoaaGreatAG00
open List (pairwise_cons mem_cons)
set_option linter.all false
namespace Go.V
open Go.RowKit
def f0E {α:Type}(key:α->Int)(x:α):List α->List α
 |[]=>[x]
 |y :: r=>if key x<=key y then x :: y :: r else y :: f0E key x r
def j5 {α:Type}(key:α->Int):List α->List α
 |[]=>[]
 |x :: r=>f0E key x (j5 key r)
def a0H {α:Type}(key:α->Int):List α->Bool
 |[]=>true
 |x :: r=>r.all (fun y=>key x != key y)&&a0H key r
def c0P {α:Type}(key:α->Int)(xs:List α):Bool:=decide (xs.length<4611686018427387904)&&xs.all (fun x=>decide (0<=key x)&&decide (key x<4294967296))&&a0H key xs
def p0C {α:Type}(key:α->Int)(x:α):∀l:List α,(f0E key x l).Perm (x :: l)
 |[]=>List.Perm.refl _
 |y :: r=>by
  unfold f0E;split
  ·exact List.Perm.refl _
  ·exact((p0C key x r).cons y).trans (List.Perm.swap x y r)
def c0E {α:Type}(key:α->Int):∀l:List α,(j5 key l).Perm l
 |[]=>List.Perm.refl _
 |x :: r=>(p0C key x _).trans ((c0E key r).cons x)
def l0x {α:Type}(key:α->Int)(l:List α):(j5 key l).length=l.length:=(c0E key l).length_eq
def y0k {α:Type}(key:α->Int)(x:α):∀l:List α,l.Pairwise (fun a b=>key a<=key b)->(f0E key x l).Pairwise (fun a b=>key a<=key b)
 |[],_=>by simp[f0E]
 |y :: r,h=>by
  obtain⟨h1,d⟩:=pairwise_cons.1 h;unfold f0E;split
  ·rename_i c;refine pairwise_cons.2 ⟨fun q hq=>?_,h⟩;rcases mem_cons.1 hq with rfl|hq
   ·exact c
   ·exact Int.le_trans c (h1 q hq)
  ·rename_i c;refine pairwise_cons.2 ⟨fun q hq=>?_,y0k key x r d⟩;rcases mem_cons.1 ((p0C key x r).mem_iff.1 hq)with rfl|hq
   ·omega
   ·exact h1 q hq
def u0X {α:Type}(key:α->Int):∀l:List α,(j5 key l).Pairwise (fun a b=>key a<=key b)
 |[]=>List.Pairwise.nil
 |x :: r=>y0k key x _ (u0X key r)
def g0f {α:Type}(key:α->Int):∀l:List α,a0H key l=true↔l.Pairwise (fun a b=>key a≠key b)
 |[]=>by simp[a0H]
 |x :: r=>by simp[a0H,g0f key r]
def y08 {α:Type}(key:α->Int):∀l m:List α,l.Perm m->l.Pairwise (fun a b=>key a<key b)->m.Pairwise (fun a b=>key a<key b)->l=m
 |[],m,h,_,_=>(List.Perm.nil_eq h)
 |x :: l,[],h,_,_=>by have:=h.length_eq;simp at this
 |x :: l,y :: m,h,h1,h2=>by
  obtain⟨f,a2⟩:=pairwise_cons.1 h1;obtain⟨c,d⟩:=pairwise_cons.1 h2;have e:x=y:=by
   rcases mem_cons.1 (h.mem_iff.1 (List.mem_cons_self ..))with e|hx
   ·exact e
   ·rcases mem_cons.1 (h.mem_iff.2 (List.mem_cons_self ..))with e|hy
    ·exact e.symm
    ·have:=c x hx;have:=f y hy;omega
  subst e;rw[y08 key l m (List.Perm.cons_inv h) a2 d]
def y0z {α:Type}(key:α->Int){l:List α}(h:l.Pairwise (fun a b=>key a<=key b))(c:l.Pairwise (fun a b=>key a≠key b)):l.Pairwise (fun a b=>key a<key b):=by
 have:=h.and c;exact this.imp (fun⟨h1,c⟩=>O')
def y0L {α:Type}(key:α->Int){l m:List α}(hp:l.Perm m)(hs:l.Pairwise (fun a b=>key a<=key b))(hd:a0H key m=true):l=j5 key m:=by
 have c:=(g0f key m).1 hd;have d1:l.Pairwise (fun a b=>key a≠key b):=(hp.pairwise_iff (fun {a b} (h:key a≠key b)=>h.symm)).2 c;have d2:(j5 key m).Pairwise (fun a b=>key a≠key b):=((c0E key m).pairwise_iff (fun {a b} (h:key a≠key b)=>h.symm)).2 c;exact y08 key _ _ (hp.trans (c0E key m).symm) (y0z key hs d1) (y0z key (u0X key m) d2)
