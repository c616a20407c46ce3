/- P. Its conditions: none. -/
import Derived.Test.YtmhooikfkhjijaaGreatYG00
open List (pairwise_cons mem_cons)
set_option linter.all false
namespace Go.V
open Go.RowKit
def a0O {α:Type}(key:α->Int)(x:α):List α->List α
 |[]=>[x]
 |y :: r=>if key x<=key y then x :: y :: r else y :: a0O key x r
def K5 {α:Type}(key:α->Int):List α->List α
 |[]=>[]
 |x :: r=>a0O key x (K5 key r)
def a02 {α:Type}(key:α->Int):List α->Bool
 |[]=>true
 |x :: r=>r.all (fun y=>key x != key y)&&a02 key r
def b07 {α:Type}(key:α->Int)(xs:List α):Bool:=decide (xs.length<4611686018427387904)&&xs.all (fun x=>decide (0<=key x)&&decide (key x<4294967296))&&a02 key xs
def h05 {α:Type}(key:α->Int)(x:α):∀l:List α,(a0O key x l).Perm (x :: l)
 |[]=>List.Perm.refl _
 |
  y :: r=>by
  unfold a0O;split
  ·exact List.Perm.refl _
  ·exact((h05 key x r).cons y).trans (List.Perm.swap x y r)
def e0x {α:Type}(key:α->Int):∀l:List α,(K5 key l).Perm l
 |[]=>List.Perm.refl _
 |x :: r=>(h05 key x _).trans ((e0x key r).cons x)
def g0F {α:Type}(key:α->Int)(l:List α):(K5 key l).length=l.length:=(e0x key l).length_eq
def m0s {α:Type}(key:α->Int)(x:α):∀l:List α,l.Pairwise (fun a b=>key a<=key b)->(a0O key x l).Pairwise (fun a b=>key a<=key b)
 |[],_=>by simp[a0O]
 |
  y :: r,h=>by
  obtain⟨h1,h2⟩:=pairwise_cons.1 h;unfold a0O;split
  ·rename_i hb;refine pairwise_cons.2 ⟨fun q hq=>?_,h⟩;rcases mem_cons.1 hq with rfl|hq
   ·exact hb
   ·exact Int.le_trans hb (h1 q hq)
  ·rename_i hb;refine pairwise_cons.2 ⟨fun q hq=>?_,m0s key x r h2⟩;rcases mem_cons.1 ((h05 key x r).mem_iff.1 hq)with rfl|hq
   ·omega
   ·exact h1 q hq
def n07 {α:Type}(key:α->Int):∀l:List α,(K5 key l).Pairwise (fun a b=>key a<=key b)
 |[]=>List.Pairwise.nil
 |x :: r=>m0s key x _ (n07 key r)
def i0l {α:Type}(key:α->Int):∀l:List α,a02 key l=true↔l.Pairwise (fun a b=>key a≠key b)
 |[]=>by simp[a02]
 |x :: r=>by simp[a02,i0l key r]
def n09 {α:Type}(key:α->Int):∀l m:List α,l.Perm m->l.Pairwise (fun a b=>key a<key b)->m.Pairwise (fun a b=>key a<key b)->l=m
 |[],m,h,_,_=>(List.Perm.nil_eq h)
 |x :: l,[],h,_,_=>by have:=h.length_eq;simp at this
 |
  x :: l,y :: m,h,h1,h2=>by
  obtain⟨a1,a2⟩:=pairwise_cons.1 h1;obtain⟨b1,b2⟩:=pairwise_cons.1 h2;have e:x=y:=by
   rcases mem_cons.1 (h.mem_iff.1 (List.mem_cons_self ..))with e|hx
   ·exact e
   ·rcases mem_cons.1 (h.mem_iff.2 (List.mem_cons_self ..))with e|hy
    ·exact e.symm
    ·have:=b1 x hx;have:=a1 y hy;omega
  subst e;rw[n09 key l m (List.Perm.cons_inv h) a2 b2]
def o0F {α:Type}(key:α->Int){l:List α}(h:l.Pairwise (fun a b=>key a<=key b))(h2:l.Pairwise (fun a b=>key a≠key b)):l.Pairwise (fun a b=>key a<key b):=by
 have:=h.and h2;exact this.imp (fun⟨h1,h2⟩=>by omega)
def v07 {α:Type}(key:α->Int){l m:List α}(hp:l.Perm m)(hs:l.Pairwise (fun a b=>key a<=key b))(hd:a02 key m=true):l=K5 key m:=by
 have hd':=(i0l key m).1 hd;have d1:l.Pairwise (fun a b=>key a≠key b):=(hp.pairwise_iff (fun {a b} (h:key a≠key b)=>h.symm)).2 hd';have d2:(K5 key m).Pairwise (fun a b=>key a≠key b):=((e0x key m).pairwise_iff (fun {a b} (h:key a≠key b)=>h.symm)).2 hd';exact n09 key _ _ (hp.trans (e0x key m).symm) (o0F key hs d1) (o0F key (n07 key m) d2)
