/- P. Its conditions: none. -/
import Derived.Test.YtihmgaccbcfgjaaGreatRG00
open List (pairwise_cons mem_cons)
set_option linter.all false
namespace Go.V
open Go.RowKit
def d01 {α:Type}(key:α->Int)(x:α):List α->List α
 |[]=>[x]
 |y :: r=>if key x<=key y then x :: y :: r else y :: d01 key x r
def F7 {α:Type}(key:α->Int):List α->List α
 |[]=>[]
 |x :: r=>d01 key x (F7 key r)
def d0y {α:Type}(key:α->Int):List α->Bool
 |[]=>true
 |x :: r=>r.all (fun y=>key x != key y)&&d0y key r
def b0v {α:Type}(key:α->Int)(xs:List α):Bool:=decide (xs.length<4611686018427387904)&&xs.all (fun x=>decide (0<=key x)&&decide (key x<4294967296))&&d0y key xs
def q0l {α:Type}(key:α->Int)(x:α):∀l:List α,(d01 key x l).Perm (x :: l)
 |[]=>List.Perm.refl _
 |y :: r=>by
  unfold d01;split
  ·exact List.Perm.refl _
  ·exact((q0l key x r).cons y).trans (List.Perm.swap x y r)
def c0T {α:Type}(key:α->Int):∀l:List α,(F7 key l).Perm l
 |[]=>List.Perm.refl _
 |x :: r=>(q0l key x _).trans ((c0T key r).cons x)
def e0c {α:Type}(key:α->Int)(l:List α):(F7 key l).length=l.length:=(c0T key l).length_eq
def w0B {α:Type}(key:α->Int)(x:α):∀l:List α,l.Pairwise (fun a b=>key a<=key b)->(d01 key x l).Pairwise (fun a b=>key a<=key b)
 |[],_=>by simp[d01]
 |y :: r,h=>by
  obtain⟨h1,e⟩:=pairwise_cons.1 h;unfold d01;split
  ·rename_i d;refine pairwise_cons.2 ⟨fun q c=>?_,h⟩;rcases mem_cons.1 c with rfl|c
   ·exact d
   ·exact Int.le_trans d (h1 q c)
  ·rename_i d;refine pairwise_cons.2 ⟨fun q c=>?_,w0B key x r e⟩;rcases mem_cons.1 ((q0l key x r).mem_iff.1 c)with rfl|c
   ·omega
   ·exact h1 q c
def u0U {α:Type}(key:α->Int):∀l:List α,(F7 key l).Pairwise (fun a b=>key a<=key b)
 |[]=>List.Pairwise.nil
 |x :: r=>w0B key x _ (u0U key r)
def h04 {α:Type}(key:α->Int):∀l:List α,d0y key l=true↔l.Pairwise (fun a b=>key a≠key b)
 |[]=>by simp[d0y]
 |x :: r=>by simp[d0y,h04 key r]
def r0R {α:Type}(key:α->Int):∀l m:List α,l.Perm m->l.Pairwise (fun a b=>key a<key b)->m.Pairwise (fun a b=>key a<key b)->l=m
 |[],m,h,_,_=>(List.Perm.nil_eq h)
 |x :: l,[],h,_,_=>by have:=h.length_eq;simp at this
 |x :: l,y :: m,h,h1,h2=>by
  obtain⟨d,a2⟩:=pairwise_cons.1 h1;obtain⟨c,f⟩:=pairwise_cons.1 h2;have e:x=y:=by
   rcases mem_cons.1 (h.mem_iff.1 (List.mem_cons_self ..))with e|hx
   ·exact e
   ·rcases mem_cons.1 (h.mem_iff.2 (List.mem_cons_self ..))with e|hy
    ·exact e.symm
    ·have:=c x hx;have:=d y hy;omega
  subst e;rw[r0R key l m (List.Perm.cons_inv h) a2 f]
def v0M {α:Type}(key:α->Int){l:List α}(h:l.Pairwise (fun a b=>key a<=key b))(c:l.Pairwise (fun a b=>key a≠key b)):l.Pairwise (fun a b=>key a<key b):=by
 have:=h.and c;exact this.imp (fun⟨h1,c⟩=>O')
def A05 {α:Type}(key:α->Int){l m:List α}(hp:l.Perm m)(hs:l.Pairwise (fun a b=>key a<=key b))(hd:d0y key m=true):l=F7 key m:=by
 have c:=(h04 key m).1 hd;have d1:l.Pairwise (fun a b=>key a≠key b):=(hp.pairwise_iff (fun {a b} (h:key a≠key b)=>h.symm)).2 c;have d2:(F7 key m).Pairwise (fun a b=>key a≠key b):=((c0T key m).pairwise_iff (fun {a b} (h:key a≠key b)=>h.symm)).2 c;exact r0R key _ _ (hp.trans (c0T key m).symm) (v0M key hs d1) (v0M key (u0U key m) d2)
