/- P. Its conditions: none. -/
import Derived.Test.YtmhooikfkhjijaaGreatYG00
open List (pairwise_cons mem_cons)
set_option linter.all false
namespace Go.V
open Go.RowKit
def e0k {α:Type}(key:α->Int)(x:α):List α->List α
 |[]=>[x]
 |y :: r=>if key x<=key y then x :: y :: r else y :: e0k key x r
def r7 {α:Type}(key:α->Int):List α->List α
 |[]=>[]
 |x :: r=>e0k key x (r7 key r)
def g0h {α:Type}(key:α->Int):List α->Bool
 |[]=>true
 |x :: r=>r.all (fun y=>key x != key y)&&g0h key r
def b0j {α:Type}(key:α->Int)(xs:List α):Bool:=decide (xs.length<4611686018427387904)&&xs.all (fun x=>decide (0<=key x)&&decide (key x<4294967296))&&g0h key xs
def n0m {α:Type}(key:α->Int)(x:α):∀l:List α,(e0k key x l).Perm (x :: l)
 |[]=>List.Perm.refl _
 |y :: r=>by
  unfold e0k;split
  ·exact List.Perm.refl _
  ·exact((n0m key x r).cons y).trans (List.Perm.swap x y r)
def b0y {α:Type}(key:α->Int):∀l:List α,(r7 key l).Perm l
 |[]=>List.Perm.refl _
 |x :: r=>(n0m key x _).trans ((b0y key r).cons x)
def e0j {α:Type}(key:α->Int)(l:List α):(r7 key l).length=l.length:=(b0y key l).length_eq
def s0q {α:Type}(key:α->Int)(x:α):∀l:List α,l.Pairwise (fun a b=>key a<=key b)->(e0k key x l).Pairwise (fun a b=>key a<=key b)
 |[],_=>by simp[e0k]
 |y :: r,h=>by
  obtain⟨h1,e⟩:=pairwise_cons.1 h;unfold e0k;split
  ·rename_i d;refine pairwise_cons.2 ⟨fun q c=>?_,h⟩;rcases mem_cons.1 c with rfl|c
   ·exact d
   ·exact Int.le_trans d (h1 q c)
  ·rename_i d;refine pairwise_cons.2 ⟨fun q c=>?_,s0q key x r e⟩;rcases mem_cons.1 ((n0m key x r).mem_iff.1 c)with rfl|c
   ·omega
   ·exact h1 q c
def t0P {α:Type}(key:α->Int):∀l:List α,(r7 key l).Pairwise (fun a b=>key a<=key b)
 |[]=>List.Pairwise.nil
 |x :: r=>s0q key x _ (t0P key r)
def l0u {α:Type}(key:α->Int):∀l:List α,g0h key l=true↔l.Pairwise (fun a b=>key a≠key b)
 |[]=>by simp[g0h]
 |x :: r=>by simp[g0h,l0u key r]
def t0h {α:Type}(key:α->Int):∀l m:List α,l.Perm m->l.Pairwise (fun a b=>key a<key b)->m.Pairwise (fun a b=>key a<key b)->l=m
 |[],m,h,_,_=>(List.Perm.nil_eq h)
 |x :: l,[],h,_,_=>by have:=h.length_eq;simp at this
 |x :: l,y :: m,h,h1,h2=>by
  obtain⟨c,a2⟩:=pairwise_cons.1 h1;obtain⟨d,f⟩:=pairwise_cons.1 h2;have e:x=y:=by
   rcases mem_cons.1 (h.mem_iff.1 (List.mem_cons_self ..))with e|hx
   ·exact e
   ·rcases mem_cons.1 (h.mem_iff.2 (List.mem_cons_self ..))with e|hy
    ·exact e.symm
    ·have:=d x hx;have:=c y hy;omega
  subst e;rw[t0h key l m (List.Perm.cons_inv h) a2 f]
def p0B {α:Type}(key:α->Int){l:List α}(h:l.Pairwise (fun a b=>key a<=key b))(c:l.Pairwise (fun a b=>key a≠key b)):l.Pairwise (fun a b=>key a<key b):=by
 have:=h.and c;exact this.imp (fun⟨h1,c⟩=>by omega)
def E0Z {α:Type}(key:α->Int){l m:List α}(hp:l.Perm m)(d:l.Pairwise (fun a b=>key a<=key b))(hd:g0h key m=true):l=r7 key m:=by
 have c:=(l0u key m).1 hd;have d1:l.Pairwise (fun a b=>key a≠key b):=(hp.pairwise_iff (fun {a b} (h:key a≠key b)=>h.symm)).2 c;have d2:(r7 key m).Pairwise (fun a b=>key a≠key b):=((b0y key m).pairwise_iff (fun {a b} (h:key a≠key b)=>h.symm)).2 c;exact t0h key _ _ (hp.trans (b0y key m).symm) (p0B key d d1) (p0B key (t0P key m) d2)
