/- P. Its conditions: none. -/
import Derived.Test.YtihmgaccbcfgjaaGreatRG37
import Derived.Test.YtihmgaccbcfgjaaGreatRX15
open List (any_cons any_eq_false mem_range cons_append nil_append append_assoc)
open Nat (add_zero add_assoc)
set_option linter.all false
namespace Go.Proofs.YtihmgaccbcfgjaaGreat
open Go.V Go.RowKit Old Go.X
section
variable {F:Nat}{l:List C0}{n:Nat}{a:List B0}{b:Nat->List B0}{e:Nat->B0×Bool}{z:B0×Bool}{at_ work:Int}{pl:List Nat}{vals:List (List Int)}{fB fD:Nat->Nat->Int}
def A0d (K:U3 l n a b e z F)(C:R3 l n pl vals fB fD)(E0:Bool)(r:Nat):(T3 (Z1 a b pl E0) r (Z1 a b pl E0).length).length<=500/\∀i∈T3 (Z1 a b pl E0) r (Z1 a b pl E0).length,i<C5 pl E0:=by
 have hm:=C.le;have hn:=K.T.n64;have h1:=s0Q (Z1 a b pl E0) r (Z1 a b pl E0).length;rw[d0B]at h1;refine⟨by
       have:C5 pl E0<=pl.length+1:=by unfold C5;split<;>omega
       rw[d0B];omega,fun i hi=>?_⟩
 rw[<-d0B a b];exact w0x hi
def t0H (K:U3 l n a b e z F)(C:R3 l n pl vals fB fD)(E0:Bool):C5 pl E0<=401:=by
 have hm:=C.le;have hn:=K.T.n64;unfold C5;split<;>omega
def H0f (K:U3 l n a b e z F)(C:R3 l n pl vals fB fD){b_:Int}{E0:Bool}{r:Nat}(h:T3 (Z1 a b pl E0) r (Z1 a b pl E0).length≠[]):(V5 a b pl fB fD E0 r).Steps.length<=2000000/\N2 800 (V5 a b pl fB fD E0 r).Steps:=by
 have hm:=i0V (fB:=F5 pl E0 fB) (fD:=a6 pl E0 fD) h;have hw:=l0d K C E0 _ (e0o (fB:=F5 pl E0 fB) (fD:=a6 pl E0 fD) h);exact⟨(hw.1.ok _ hm.1).2.2,hw.2.2.2 _ hm.1⟩
set_option maxHeartbeats 2000000 in
set_option maxHeartbeats 2000000 in
end
section
variable {F:Nat}{l:List C0}{n:Nat}{a:List B0}{b:Nat->List B0}{e:Nat->B0×Bool}{z:B0×Bool}{at_ work:Int}{pl:List Nat}{vals:List (List Int)}{fB fD:Nat->Nat->Int}
abbrev xT (l:List C0)(n:Nat)(a:List B0)(b:Nat->List B0)(e:Nat->B0×Bool)(at_ work:Int)(places:List Int)(tags:List (List Int))(c:D2):(List C0)×(List Int)×(List B0)×(List (List B0))×(List (List Int))×Int×Int×(List Int)×(List (List Int))×D2:=
 (l,G2 l l.length,a,(List.range n).map b,(List.range n).map fun p=>(e p).1.Steps,at_,work,places,tags,c)
set_option maxHeartbeats 2000000 in
set_option maxHeartbeats 2000000 in
end
abbrev Fb:Nat:=10000000000000
def E02 {p:List C0}(h:wfD en 20 (.list (.st 3)) p):∀x∈p,P2 x:=fun x f=>by
 obtain⟨h1,g,c,d,⟨j,i⟩,_⟩:=h x f;exact⟨h1,g,c,d,j,i⟩
def V0p {p:List Int}(h:wfD en 20 (.list (.int .u8)) p):∀x∈p,L5 .u8 x:=fun x c=>h x c
theorem b8 {α:Type}[Inhabited α]{l:List α}{i:Nat}(h:i<l.length):gt l (i:Int)∈l:=List.mem_of_getElem? (P4 h)
section
variable {l:List C0}
def y05 (hR:L2 l=false)(hl:l.length*64<=140737488351232)(c:l.length<=1000):l6 Fb l=some false/\U6 Fb l=some false:=by
 refine⟨(by rw[Old.c0y l (show 401<Fb by unfold Fb;omega),hR]),(by rw[Old.e02 l hl (show l.length+1<Fb by unfold Fb;omega),hR])⟩
def known (hw:∀x∈l,P2 x)(hR:L2 l=true)(hl:l.length*64<=140737488351232)(c:l.length<=1000):∃a b e z,U3 l (N0 l l.length) a b e z Fb:=by
 obtain⟨a,b,e,z,T,TF⟩:=q0E hw hl hR;exact⟨a,b,e,z,hR,hl,rfl,T,by unfold Fb;omega,by unfold Fb;omega,by unfold Fb;omega,TF Fb (by unfold Fb;omega) (by unfold Fb;omega)⟩
def B0r (l:List C0)(n:Nat):R3 l n [] [] (fun _ _=>0) (fun _ _=>0) where
 len:=rfl
 pln:=by intro p h;cases h
 asc:=List.Pairwise.nil
 row:=by intro v h;cases h
 rk:=⟨fun i k h=>by simp at h,fun i h=>rfl,fun i h=>rfl,fun i k h=>by simp at h,fun i k h=>by simp at h⟩
end
def S0r {α:Type}{p q:α->Bool}:∀{l:List α},(∀x∈l,p x=q x)->l.any p=l.any q
 |[],_=>rfl
 |x :: r,h=>by rw[any_cons,any_cons,h x Z',S0r fun y c=>h y (List.mem_cons_of_mem _ c)]
def J0F (f:Nat->Nat->Bool):Nat->Nat->Nat->Bool
 |0,i,j=>i==j
 |n+1,i,j=>i==j||(List.range (j+1)).any fun k=>decide (i<k)&&(f i k&&J0F f n k j)
def W0r (f:Nat->Nat->Bool):∀(n m i j:Nat),j-i<=n->j-i<=m->J0F f n i j=J0F f m i j:=by
 intro n
 induction n with
 |zero=>
  intro m i j h1 d;cases m with
  |zero=>rfl
  |succ m=>
   unfold J0F;have:((List.range (j+1)).any fun k=>decide (i<k)&&(f i k&&J0F f m k j))=false:=by
    rw[any_eq_false];intro k hk;have:=mem_range.1 hk;simp;omega
   rw[this,Bool.or_false]
 |succ n ih=>
  intro m i j h1 d;cases m with
  |zero=>
   unfold J0F;have:((List.range (j+1)).any fun k=>decide (i<k)&&(f i k&&J0F f n k j))=false:=by
    rw[any_eq_false];intro k hk;have:=mem_range.1 hk;simp;omega
   rw[this,Bool.or_false]
  |succ m=>
   unfold J0F;congr 1;refine S0r fun k hk=>?_;have hk:=mem_range.1 hk
   by_cases c:i<k
   ·rw[ih m k j O' O']
   ·simp[c]
def w8 (f:Nat->Nat->Bool)(i j:Nat):Bool:=J0F f (j-i) i j
theorem R0q (f:Nat->Nat->Bool)(i j:Nat):w8 f i j=(i==j||(List.range (j+1)).any fun k=>decide (i<k)&&(f i k&&w8 f k j)):=by
 unfold w8;cases h:j-i with
 |zero=>
  show(i==j)=_;have:((List.range (j+1)).any fun k=>decide (i<k)&&(f i k&&J0F f (j-k) k j))=false:=by
   rw[any_eq_false];intro k hk;have:=mem_range.1 hk;simp;omega
  rw[this,Bool.or_false]
 |succ n=>
  show(i==j||_)=_;congr 1;refine S0r fun k hk=>?_;have hk:=mem_range.1 hk
  by_cases c:i<k
  ·rw[W0r f n (j-k) k j O' O']
  ·simp[c]
def den (w:List Int):Old.Tm->Nat->Nat->Bool
 |.eps=>fun i j=>i==j
 |.leaf s=>fun i j=>j==i+1&&(decide (i<w.length)&&hasB s (gt w (i:Int)))
 |.cat a b=>fun i j=>(List.range (j+1)).any fun k=>decide (i<=k)&&(den w a i k&&den w b k j)
 |.alt a b=>fun i j=>den w a i j||den w b i j
 |.star a=>w8 (den w a)
 |.maybe a=>fun i j=>i==j||den w a i j
 |.group _ a=>den w a
 |.iter a=>den w a
section
variable {F:Nat}
def U06 {step:Int->Option (Q0 Int (Unit⊕Unit))}{lo hi:Nat}(c:Nat->Bool)(hs:∀k,lo<=k->k<hi->step (k:Int)=some (if c k then .done (.inl ())else .next ((k+1:Nat):Int)))(hd:step (hi:Int)=some (.done (.inr ())))(j:lo<=hi){fu:Nat}(i:hi-lo<fu):
  iter step fu (lo:Int)=some (if(List.range hi).any fun k=>decide (lo<=k)&&c k then .inl ()else .inr ()):=by
 have key:∀(t k fu:Nat),k+t=hi->lo<=k->t<fu->iter step fu (k:Int)=some (if(List.range hi).any fun q=>decide (k<=q)&&c q then .inl ()else .inr ()):=by
  intro t
  induction t with
  |zero=>
   intro k fu hk hl f;obtain⟨fu,rfl⟩:∃m,fu=m+1:=⟨fu-1,O'⟩
   have e:k=hi:=O'
   subst e;rw[u0x hd];have:((List.range k).any fun q=>decide (k<=q)&&c q)=false:=by
    rw[any_eq_false];intro q g;have:=mem_range.1 g;simp;omega
   rw[this];rfl
  |succ t ih=>
   intro k fu hk hl f;obtain⟨fu,rfl⟩:∃m,fu=m+1:=⟨fu-1,O'⟩
   have h:=hs k hl O';cases d:c k with
   |true=>
    rw[d]at h;rw[u0x h];have:((List.range hi).any fun q=>decide (k<=q)&&c q)=true:=by
     rw[List.any_eq_true];exact⟨k,mem_range.2 O',by simp[d]⟩
    rw[this];rfl
   |false=>
    rw[d]at h;rw[n0D h,ih (k+1) fu O' O' O'];have:((List.range hi).any fun q=>decide (k+1<=q)&&c q)=((List.range hi).any fun q=>decide (k<=q)&&c q):=by
     refine S0r fun q g=>?_
     by_cases e:q=k
     ·subst e;simp[d]
     ·have:decide (k+1<=q)=decide (k<=q):=by
       rw[Bool.eq_iff_iff];simp;omega
      rw[this]
    rw[this]
 exact key (hi-lo) lo fu O' (Nat.le_refl _) i
end
end Go.Proofs.YtihmgaccbcfgjaaGreat
namespace Go.Proofs.YtihmgaccbcfgjaaGreat
open Go.V Go.RowKit Old
inductive Pt where
 |nil|byte|two (x y:Pt)|one (x:Pt)|other (x:Pt)
def Pt.wid:Pt->Nat
 |.nil=>0|.byte=>1|.two x y=>x.wid+y.wid|.one x=>x.wid|.other x=>x.wid
inductive PA:Pt->Pt->Prop
 |wid {x x' y y':Pt}:y.wid<x.wid->PA (.two x x') (.two y y')
 |fst {x x' y y':Pt}:x.wid=y.wid->PA x y->PA (.two x x') (.two y y')
 |snd {x x' y':Pt}:PA x' y'->PA (.two x x') (.two x y')
 |one {x y:Pt}:PA x y->PA (.one x) (.one y)
 |other {x y:Pt}:PA x y->PA (.other x) (.other y)
 |oo {x y:Pt}:PA (.one x) (.other y)
def PA.trans {p q r:Pt}(h:PA p q)(g:PA q r):PA p r:=by
 induction h generalizing r with
 |wid h1=>
  cases g with
  |wid c=>exact .wid O'
  |fst c _=>exact .wid O'
  |snd _=>exact .wid h1
 |fst h1 c f=>
  cases g with
  |wid d=>exact .wid O'
  |fst d i=>exact .fst O' (f i)
  |snd d=>exact .fst h1 c
 |snd h1 f=>
  cases g with
  |wid d=>exact .wid d
  |fst d i=>exact .fst d i
  |snd d=>exact .snd (f d)
 |one h1 f=>
  cases g with
  |one c=>exact .one (f c)
  |oo=>exact .oo
 |other h1 f=>cases g with|other c=>exact .other (f c)
 |oo=>cases g with|other c=>exact .oo
inductive Pp where
 |leaf|catL (p:Pp)|catR (x:Pt) (p:Pp)|altL (p:Pp)|altR (p:Pp)|item (p:Pp)|more (x:Pt) (p:Pp)|one (p:Pp)
def BA (x y:Pt):Prop:=y.wid<x.wid\/(x.wid=y.wid/\PA x y)
def BA.trans {p q r:Pt}(h:BA p q)(g:BA q r):BA p r:=by
 rcases h with h|⟨h,h'⟩<;>rcases g with g|⟨g,g'⟩
 ·exact .inl O'
 ·exact .inl O'
 ·exact .inl O'
 ·exact .inr ⟨O',h'.trans g'⟩
inductive Ah:Nat->Pp->Pp->Prop
 |cc {p:Pp} {x:Pt} {q:Pp}:Ah 0 (.catL p) (.catR x q)
 |cd {x y:Pt} {p q:Pp}:BA x y->Ah 0 (.catR x p) (.catR y q)
 |aa {p q:Pp}:Ah 0 (.altL p) (.altR q)
 |im {p:Pp} {x:Pt} {q:Pp}:Ah 0 (.item p) (.more x q)
 |mm {x y:Pt} {p q:Pp}:BA x y->Ah 0 (.more x p) (.more y q)
 |catL {n:Nat} {p q:Pp}:Ah n p q->Ah (n+1) (.catL p) (.catL q)
 |catR {n:Nat} {x:Pt} {p q:Pp}:Ah n p q->Ah (n+1) (.catR x p) (.catR x q)
 |altL {n:Nat} {p q:Pp}:Ah n p q->Ah (n+1) (.altL p) (.altL q)
 |altR {n:Nat} {p q:Pp}:Ah n p q->Ah (n+1) (.altR p) (.altR q)
 |item {n:Nat} {p q:Pp}:Ah n p q->Ah (n+1) (.item p) (.item q)
 |more {n:Nat} {x:Pt} {p q:Pp}:Ah n p q->Ah n (.more x p) (.more x q)
 |one {n:Nat} {p q:Pp}:Ah n p q->Ah (n+1) (.one p) (.one q)
def Ah.trans {m:Nat}{p q:Pp}(h:Ah m p q):∀{n:Nat} {r:Pp},Ah n q r->∃k,Ah k p r:=by
 induction h with
 |cc=>intro n r g;cases g<;>exact⟨_,.cc⟩
 |cd h=>intro n r g;cases g with
  |cd g=>exact⟨_,.cd (h.trans g)⟩
  |catR g=>exact⟨_,.cd h⟩
 |aa=>intro n r g;cases g;exact⟨_,.aa⟩
 |im=>intro n r g;cases g<;>exact⟨_,.im⟩
 |mm h=>intro n r g;cases g with
  |mm g=>exact⟨_,.mm (h.trans g)⟩
  |more g=>exact⟨_,.mm h⟩
 |catL h ih=>intro n r g;cases g with
  |cc=>exact⟨_,.cc⟩
  |catL g=>obtain⟨k,hk⟩:=ih g;exact⟨_,.catL hk⟩
 |catR h ih=>intro n r g;cases g with
  |cd g=>exact⟨_,.cd g⟩
  |catR g=>obtain⟨k,hk⟩:=ih g;exact⟨_,.catR hk⟩
 |altL h ih=>intro n r g;cases g with
  |aa=>exact⟨_,.aa⟩
  |altL g=>obtain⟨k,hk⟩:=ih g;exact⟨_,.altL hk⟩
 |altR h ih=>intro n r g;cases g with
  |altR g=>obtain⟨k,hk⟩:=ih g;exact⟨_,.altR hk⟩
 |item h ih=>intro n r g;cases g with
  |im=>exact⟨_,.im⟩
  |item g=>obtain⟨k,hk⟩:=ih g;exact⟨_,.item hk⟩
 |more h ih=>intro n r g;cases g with
  |mm g=>exact⟨_,.mm g⟩
  |more g=>obtain⟨k,hk⟩:=ih g;exact⟨_,.more hk⟩
 |one h ih=>intro n r g;cases g with
  |one g=>obtain⟨k,hk⟩:=ih g;exact⟨_,.one hk⟩
inductive Fit (w:List Int):Tm->Nat->Pt->Prop
 |eps {i:Nat}:Fit w .eps i .nil
 |leaf {S:List Int} {i:Nat}:i<w.length->hasB S (gt w (i:Int))=true->Fit w (.leaf S) i .byte
 |cat {a b:Tm} {i:Nat} {x y:Pt}:Fit w a i x->Fit w b (i+x.wid) y->Fit w (.cat a b) i (.two x y)
 |altL {a b:Tm} {i:Nat} {x:Pt}:Fit w a i x->Fit w (.alt a b) i (.one x)
 |altR {a b:Tm} {i:Nat} {x:Pt}:Fit w b i x->Fit w (.alt a b) i (.other x)
 |star0 {a:Tm} {i:Nat}:Fit w (.star a) i .nil
 |star {a:Tm} {i:Nat} {x r:Pt}:Fit w a i x->0<x.wid->Fit w (.star a) (i+x.wid) r->Fit w (.star a) i (.two x r)
 |maybe0 {a:Tm} {i:Nat}:Fit w (.maybe a) i .nil
 |maybe {a:Tm} {i:Nat} {x:Pt}:Fit w a i x->0<x.wid->Fit w (.maybe a) i (.one x)
 |group {m:Int} {a:Tm} {i:Nat} {x:Pt}:Fit w a i x->Fit w (.group m a) i (.one x)
 |iter {a:Tm} {i:Nat} {x:Pt}:Fit w a i x->Fit w (.iter a) i (.one x)
inductive b6:Tm->Pt->Prop
 |eps:b6 .eps .nil
 |cat {a b:Tm} {x y:Pt}:b6 a x->b6 b y->b6 (.cat a b) (.two x y)
 |altL {a b:Tm} {x:Pt}:b6 a x->b6 (.alt a b) (.one x)
 |altR {a b:Tm} {x:Pt}:b6 b x->b6 (.alt a b) (.other x)
 |star {a:Tm}:b6 (.star a) .nil
 |maybe {a:Tm}:b6 (.maybe a) .nil
 |group {m:Int} {a:Tm} {x:Pt}:b6 a x->b6 (.group m a) (.one x)
 |iter {a:Tm} {x:Pt}:b6 a x->b6 (.iter a) (.one x)
theorem b6.wid {s:Tm}{x:Pt}(h:b6 s x):x.wid=0:=by induction h<;>simp[Pt.wid, *]
def b6.fit {s:Tm}{x:Pt}(h:b6 s x)(w:List Int):∀i,Fit w s i x:=by
 induction h with
 |eps=>exact fun i=>.eps
 |cat h1 f d i2=>exact fun i=>.cat (d i) (by simp_all)
 |altL _ c=>exact fun i=>.altL (c i)
 |altR _ c=>exact fun i=>.altR (c i)
 |star=>exact fun i=>.star0
 |maybe=>exact fun i=>.maybe0
 |group _ c=>exact fun i=>.group (c i)
 |iter _ c=>exact fun i=>.iter (c i)
theorem Fit.emp {w:List Int}{s:Tm}{i:Nat}{x:Pt}(h:Fit w s i x):x.wid=0->b6 s x:=by
 induction h with
 |eps=>exact fun _=>.eps
 |leaf _ _=>simp[Pt.wid]
 |cat _ _ d i2=>intro h;simp only[Pt.wid]at h;exact .cat (d O') (i2 O')
 |altL _ c=>exact fun h=>.altL (c h)
 |altR _ c=>exact fun h=>.altR (c h)
 |star0=>exact fun _=>.star
 |star _ h1 _ _ _=>grind [Pt.wid]
 |maybe0=>exact fun _=>.maybe
 |maybe _ h1 _=>grind [Pt.wid]
 |group _ c=>exact fun h=>.group (c h)
 |iter _ c=>exact fun h=>.iter (c h)
def b6.can {s:Tm}{x:Pt}(h:b6 s x):s.can=true:=by induction h<;>simp[Tm.can, *]
def emp:Tm->Pt
 |.eps=>.nil|.leaf _=>.nil|.cat a b=>.two (emp a) (emp b)
 |.alt a b=>if a.can then .one (emp a)else .other (emp b)
 |.star _=>.nil|.maybe _=>.nil|.group _ a=>.one (emp a)|.iter a=>.one (emp a)
def b9 (s:Tm)(x:Pt):Prop:=s.can=true/\x=emp s
def f0j:∀{s:Tm},s.can=true->b6 s (emp s):=by
 intro s
 induction s with
 |eps=>exact fun _=>.eps
 |leaf S=>simp[Tm.can]
 |cat a b d f=>intro h;simp only[Tm.can,Bool.and_eq_true]at h;exact .cat (d h.1) (f h.2)
 |alt a b d f=>
  intro h;unfold emp
  by_cases c:a.can=true
  ·rw[if_pos c];exact .altL (d c)
  ·rw[if_neg c];exact .altR (f (by simp_all[Tm.can]))
 |star a d=>exact fun _=>.star
 |maybe a d=>exact fun _=>.maybe
 |group m a d=>intro h;exact .group (d h)
 |iter a d=>intro h;exact .iter (d h)
def b9.emp {s:Tm}{x:Pt}(h:b9 s x):b6 s x:=by obtain⟨h,rfl⟩:=h;exact f0j h
def T0D {s:Tm}{y:Pt}(h:b6 s y):emp s=y\/PA (emp s) y:=by
 induction h with
 |eps=>exact .inl rfl
 |@cat a b x y h1 h2 i1 i2=>
  show Pt.two _ _=_\/PA (Pt.two _ _) _;rcases i1 with e|e
  ·rw[e];rcases i2 with e2|e2
   ·simp_all
   ·exact .inr (.snd e2)
  ·exact .inr (.fst (by rw[h1.wid,(f0j h1.can).wid]) e)
 |@altL a b x h ih=>
  unfold emp;rw[if_pos h.can];rcases ih with e|e
  ·simp_all
  ·exact .inr (.one e)
 |@altR a b x h ih=>
  unfold emp
  by_cases c:a.can=true
  ·rw[if_pos c];exact .inr .oo
  ·rw[if_neg c];rcases ih with e|e
   ·simp_all
   ·exact .inr (.other e)
 |star=>exact .inl rfl
 |maybe=>exact .inl rfl
 |group h ih=>
  show Pt.one _=_\/PA (Pt.one _) _;rcases ih with e|e
  ·simp_all
  ·exact .inr (.one e)
 |iter h ih=>
  show Pt.one _=_\/PA (Pt.one _) _;rcases ih with e|e
  ·simp_all
  ·exact .inr (.one e)
inductive PU (w:List Int):Tm->Nat->Nat->Pp->Prop
 |leaf {S:List Int} {i:Nat}:PU w (.leaf S) i i .leaf
 |catL {a b:Tm} {i j:Nat} {p:Pp}:PU w a i j p->PU w (.cat a b) i j (.catL p)
 |catR {a b:Tm} {i j:Nat} {x:Pt} {p:Pp}:Fit w a i x->PU w b (i+x.wid) j p->PU w (.cat a b) i j (.catR x p)
 |altL {a b:Tm} {i j:Nat} {p:Pp}:PU w a i j p->PU w (.alt a b) i j (.altL p)
 |altR {a b:Tm} {i j:Nat} {p:Pp}:PU w b i j p->PU w (.alt a b) i j (.altR p)
 |item {a:Tm} {i j:Nat} {p:Pp}:PU w a i j p->PU w (.star a) i j (.item p)
 |more {a:Tm} {i j:Nat} {x:Pt} {p:Pp}:Fit w a i x->0<x.wid->PU w (.star a) (i+x.wid) j p->PU w (.star a) i j (.more x p)
 |maybe {a:Tm} {i j:Nat} {p:Pp}:PU w a i j p->PU w (.maybe a) i j (.one p)
 |group {m:Int} {a:Tm} {i j:Nat} {p:Pp}:PU w a i j p->PU w (.group m a) i j (.one p)
 |iter {a:Tm} {i j:Nat} {p:Pp}:PU w a i j p->PU w (.iter a) i j (.one p)
def PU.le {w:List Int}{s:Tm}{i j:Nat}{p:Pp}(h:PU w s i j p):i<=j:=by induction h<;>omega
def w9:Tm->Pp->List Int
 |.leaf S,.leaf=>S
 |.cat a _,.catL p=>w9 a p
 |.cat _ b,.catR _ p=>w9 b p
 |.alt a _,.altL p=>w9 a p
 |.alt _ b,.altR p=>w9 b p
 |.star a,.item p=>w9 a p
 |.star a,.more _ p=>w9 (.star a) p
 |.maybe a,.one p=>w9 a p
 |.group _ a,.one p=>w9 a p
 |.iter a,.one p=>w9 a p
 |_,_=>[]
def Rd (w:List Int)(s:Tm)(j:Nat)(p:Pp):Prop:=j<w.length/\hasB (w9 s p) (gt w (j:Int))=true
inductive Cl (E:Tm->Pt->Prop):Tm->Pp->Pt->Prop
 |leaf {S:List Int}:Cl E (.leaf S) .leaf .byte
 |catL {a b:Tm} {p:Pp} {P y:Pt}:Cl E a p P->E b y->Cl E (.cat a b) (.catL p) (.two P y)
 |catR {a b:Tm} {x:Pt} {p:Pp} {P:Pt}:Cl E b p P->Cl E (.cat a b) (.catR x p) (.two x P)
 |altL {a b:Tm} {p:Pp} {P:Pt}:Cl E a p P->Cl E (.alt a b) (.altL p) (.one P)
 |altR {a b:Tm} {p:Pp} {P:Pt}:Cl E b p P->Cl E (.alt a b) (.altR p) (.other P)
 |item {a:Tm} {p:Pp} {P:Pt}:Cl E a p P->Cl E (.star a) (.item p) (.two P .nil)
 |more {a:Tm} {x:Pt} {p:Pp} {P:Pt}:Cl E (.star a) p P->Cl E (.star a) (.more x p) (.two x P)
 |maybe {a:Tm} {p:Pp} {P:Pt}:Cl E a p P->Cl E (.maybe a) (.one p) (.one P)
 |group {m:Int} {a:Tm} {p:Pp} {P:Pt}:Cl E a p P->Cl E (.group m a) (.one p) (.one P)
 |iter {a:Tm} {p:Pp} {P:Pt}:Cl E a p P->Cl E (.iter a) (.one p) (.one P)
inductive En (E:Tm->Pt->Prop):Tm->Pp->Prop
 |leaf {S:List Int}:En E (.leaf S) .leaf
 |catL {a b:Tm} {p:Pp}:En E a p->En E (.cat a b) (.catL p)
 |catR {a b:Tm} {x:Pt} {p:Pp}:E a x->En E b p->En E (.cat a b) (.catR x p)
 |altL {a b:Tm} {p:Pp}:En E a p->En E (.alt a b) (.altL p)
 |altR {a b:Tm} {p:Pp}:En E b p->En E (.alt a b) (.altR p)
 |item {a:Tm} {p:Pp}:En E a p->En E (.star a) (.item p)
 |maybe {a:Tm} {p:Pp}:En E a p->En E (.maybe a) (.one p)
 |group {m:Int} {a:Tm} {p:Pp}:En E a p->En E (.group m a) (.one p)
 |iter {a:Tm} {p:Pp}:En E a p->En E (.iter a) (.one p)
inductive Go (E:Tm->Pt->Prop):Tm->Nat->Pp->Pp->Prop
 |catLd {a b:Tm} {n:Nat} {p q:Pp}:Go E a n p q->Go E (.cat a b) (n+1) (.catL p) (.catL q)
 |catT {a b:Tm} {p q:Pp} {P:Pt}:Cl E a p P->En E b q->Go E (.cat a b) 0 (.catL p) (.catR P q)
 |catRd {a b:Tm} {n:Nat} {x:Pt} {p q:Pp}:Go E b n p q->Go E (.cat a b) (n+1) (.catR x p) (.catR x q)
 |altLd {a b:Tm} {n:Nat} {p q:Pp}:Go E a n p q->Go E (.alt a b) (n+1) (.altL p) (.altL q)
 |altRd {a b:Tm} {n:Nat} {p q:Pp}:Go E b n p q->Go E (.alt a b) (n+1) (.altR p) (.altR q)
 |itemd {a:Tm} {n:Nat} {p q:Pp}:Go E a n p q->Go E (.star a) (n+1) (.item p) (.item q)
 |itemT {a:Tm} {p q:Pp} {P:Pt}:Cl E a p P->En E a q->Go E (.star a) 0 (.item p) (.more P (.item q))
 |mored {a:Tm} {n:Nat} {x:Pt} {p q:Pp}:Go E (.star a) n p q->Go E (.star a) n (.more x p) (.more x q)
 |maybe {a:Tm} {n:Nat} {p q:Pp}:Go E a n p q->Go E (.maybe a) (n+1) (.one p) (.one q)
 |group {m:Int} {a:Tm} {n:Nat} {p q:Pp}:Go E a n p q->Go E (.group m a) (n+1) (.one p) (.one q)
 |iter {a:Tm} {n:Nat} {p q:Pp}:Go E a n p q->Go E (.iter a) (n+1) (.one p) (.one q)
def Z0 (E:Tm->Pt->Prop):Prop:=∀s x,E s x->x.wid=0
def zE:Z0 b6:=fun _ _ h=>h.wid
def zC:Z0 b9:=fun _ _ h=>h.emp.wid
theorem Cl.wid {E:Tm->Pt->Prop}(z:Z0 E){w:List Int}{s:Tm}{i j:Nat}{p:Pp}(h:PU w s i j p):∀{P:Pt},Cl E s p P->i+P.wid=j+1:=by
 induction h with
 |leaf=>intro P c;cases c;rfl
 |catL _ d=>intro P c;cases c with|catL c e=>have:=z _ _ e;simp_all[Pt.wid]
 |catR _ _ d=>intro P c;cases c with|catR c=>grind [Pt.wid]
 |altL _ d=>intro P c;cases c with|altL c=>simp_all[Pt.wid]
 |altR _ d=>intro P c;cases c with|altR c=>simp_all[Pt.wid]
 |item _ d=>intro P c;cases c with|item c=>simp_all[Pt.wid]
 |more _ _ _ d=>intro P c;cases c with|more c=>grind [Pt.wid]
 |maybe _ d=>intro P c;cases c with|maybe c=>simp_all[Pt.wid]
 |group _ d=>intro P c;cases c with|group c=>simp_all[Pt.wid]
 |iter _ d=>intro P c;cases c with|iter c=>simp_all[Pt.wid]
def Cl.pos {E:Tm->Pt->Prop}(z:Z0 E){w:List Int}{s:Tm}{i j:Nat}{p:Pp}(h:PU w s i j p){P:Pt}(c:Cl E s p P):0<P.wid:=by
 have:=c.wid z h;have:=h.le;omega
def Ah.close {E:Tm->Pt->Prop}(z:Z0 E){w:List Int}{n:Nat}{p q:Pp}(h:Ah n p q):∀{s:Tm} {i j:Nat} {P Q:Pt},PU w s i j p->PU w s i j q->Cl E s p P->Cl E s q Q->PA P Q:=by
 induction h with
 |cc=>
  intro s i j P Q u v c d;cases u with|catL u=>cases v with|catR f v=>cases c with|catL c e=>cases d with|catR d=>
   have:=c.wid z u;have:=v.le;exact .wid O'
 |cd h=>
  intro s i j P Q u v c d;cases u with|catR _ u=>cases v with|catR f v=>cases c with|catR c=>cases d with|catR d=>
   rcases h with h|⟨h,h'⟩
   ·exact .wid h
   ·exact .fst h h'
 |aa=>
  intro s i j P Q u v c d;cases c with|altL c=>cases d with|altR d=>exact .oo
 |im=>
  intro s i j P Q u v c d;cases u with|item u=>cases v with|more f _ v=>cases c with|item c=>cases d with|more d=>
   have:=c.wid z u;have:=v.le;exact .wid O'
 |mm h=>
  intro s i j P Q u v c d;cases c with|more c=>cases d with|more d=>
   rcases h with h|⟨h,h'⟩
   ·exact .wid h
   ·exact .fst h h'
 |catL _ ih=>
  intro s i j P Q u v c d;cases u with|catL u=>cases v with|catL v=>cases c with|catL c _=>cases d with|catL d _=>
   have:=c.wid z u;have:=d.wid z v;exact .fst O' (ih u v c d)
 |catR _ ih=>
  intro s i j P Q u v c d;cases u with|catR _ u=>cases v with|catR _ v=>cases c with|catR c=>cases d with|catR d=>exact .snd (ih u v c d)
 |altL _ ih=>
  intro s i j P Q u v c d;cases u with|altL u=>cases v with|altL v=>cases c with|altL c=>cases d with|altL d=>exact .one (ih u v c d)
 |altR _ ih=>
  intro s i j P Q u v c d;cases u with|altR u=>cases v with|altR v=>cases c with|altR c=>cases d with|altR d=>exact .other (ih u v c d)
 |item _ ih=>
  intro s i j P Q u v c d;cases u with|item u=>cases v with|item v=>cases c with|item c=>cases d with|item d=>
   have:=c.wid z u;have:=d.wid z v;exact .fst O' (ih u v c d)
 |more _ ih=>
  intro s i j P Q u v c d;cases u with|more _ _ u=>cases v with|more _ _ v=>cases c with|more c=>cases d with|more d=>exact .snd (ih u v c d)
 |one _ ih=>
  intro s i j P Q u v c d;cases u with
  |maybe u=>cases v with|maybe v=>cases c with|maybe c=>cases d with|maybe d=>exact .one (ih u v c d)
  |group u=>cases v with|group v=>cases c with|group c=>cases d with|group d=>exact .one (ih u v c d)
  |iter u=>cases v with|iter v=>cases c with|iter c=>cases d with|iter d=>exact .one (ih u v c d)
structure Mv (k m n:Nat)(p q:Pp):Prop where
 far:k<=m->k<=n->Ah k p q
 up:n<k->n<m->Ah n p q
 down:m<k->m<n->Ah m q p
 both:m=n->m<k->Ah m p q
def Mv.lift {k m n:Nat}{p q:Pp}{f:Pp->Pp}(c:∀{n:Nat} {p q:Pp},Ah n p q->Ah (n+1) (f p) (f q))(h:Mv k m n p q):Mv (k+1) (m+1) (n+1) (f p) (f q):=
 ⟨fun a b=>c (h.far O' O'),fun a b=>c (h.up O' O'),fun a b=>c (h.down O' O'),fun a b=>c (h.both O' O')⟩
def Mv.base {m n:Nat}{p q:Pp}(h:Ah 0 p q):Mv 0 m n p q:=
 ⟨fun _ _=>h,fun a _=>absurd a (Nat.not_lt_zero _),fun a _=>absurd a (Nat.not_lt_zero _),fun _ a=>absurd a (Nat.not_lt_zero _)⟩
def Mv.inU {k m:Nat}{p q:Pp}(h:Ah 0 p q):Mv (k+1) (m+1) 0 p q:=
 ⟨fun _ a=>absurd a O',fun _ _=>h,fun _ a=>absurd a O',fun a _=>absurd a O'⟩
def Mv.inD {k n:Nat}{p q:Pp}(h:Ah 0 q p):Mv (k+1) 0 (n+1) p q:=
 ⟨fun a _=>absurd a O',fun _ a=>absurd a O',fun _ _=>h,fun a _=>absurd a O'⟩
def Mv.F3 {k:Nat}{p q:Pp}(h:Ah 0 p q):Mv (k+1) 0 0 p q:=
 ⟨fun a _=>absurd a O',fun _ a=>absurd a O',fun _ a=>absurd a O',fun _ _=>h⟩
def Ah.move {E:Tm->Pt->Prop}(z:Z0 E){w:List Int}{k:Nat}{p q:Pp}(h:Ah k p q):∀{s:Tm} {i j m n:Nat} {p' g:Pp},PU w s i j p->PU w s i j q->Go E s m p p'->Go E s n q g->Mv k m n p' g:=by
 induction h with
 |cc=>
  intro s i j m n p' g u v c d;cases u with|catL u=>cases v with|catR f v=>cases d with|catRd d=>cases c with
   |catLd c=>exact .base .cc
   |catT c e=>
    have:=c.wid z u;have:=v.le;exact .base (.cd (.inl O'))
 |cd h=>
  intro s i j m n p' g u v c d;cases u with|catR _ u=>cases c with|catRd c=>cases d with|catRd d=>exact .base (.cd h)
 |aa=>
  intro s i j m n p' g u v c d;cases c with|altLd c=>cases d with|altRd d=>exact .base .aa
 |im=>
  intro s i j m n p' g u v c d;cases u with|item u=>cases v with|more f _ v=>cases d with|mored d=>cases c with
   |itemd c=>exact .base .im
   |itemT c e=>
    have:=c.wid z u;have:=v.le;exact .base (.mm (.inl O'))
 |mm h=>
  intro s i j m n p' g u v c d;cases c with|mored c=>cases d with|mored d=>exact .base (.mm h)
 |catL hh ih=>
  intro s i j m n p' g u v c d;cases u with|catL u=>cases v with|catL v=>cases c with
   |catLd c=>cases d with
    |catLd d=>exact(ih u v c d).lift .catL
    |catT d e=>exact .inU .cc
   |catT c e=>cases d with
    |catLd d=>exact .inD .cc
    |catT d e'=>
     have:=c.wid z u;have:=d.wid z v;exact .F3 (.cd (.inr ⟨O',hh.close z u v c d⟩))
 |catR _ ih=>
  intro s i j m n p' g u v c d;cases u with|catR _ u=>cases v with|catR _ v=>cases c with|catRd c=>cases d with|catRd d=>exact(ih u v c d).lift .catR
 |altL _ ih=>
  intro s i j m n p' g u v c d;cases u with|altL u=>cases v with|altL v=>cases c with|altLd c=>cases d with|altLd d=>exact(ih u v c d).lift .altL
 |altR _ ih=>
  intro s i j m n p' g u v c d;cases u with|altR u=>cases v with|altR v=>cases c with|altRd c=>cases d with|altRd d=>exact(ih u v c d).lift .altR
 |item hh ih=>
  intro s i j m n p' g u v c d;cases u with|item u=>cases v with|item v=>cases c with
   |itemd c=>cases d with
    |itemd d=>exact(ih u v c d).lift .item
    |itemT d e=>exact .inU .im
   |itemT c e=>cases d with
    |itemd d=>exact .inD .im
    |itemT d e'=>
     have:=c.wid z u;have:=d.wid z v;exact .F3 (.mm (.inr ⟨O',hh.close z u v c d⟩))
 |more _ ih=>
  intro s i j m n p' g u v c d;cases u with|more _ _ u=>cases v with|more _ _ v=>cases c with|mored c=>cases d with|mored d=>
   have:=ih u v c d;exact⟨fun a b=>.more (this.far a b),fun a b=>.more (this.up a b),fun a b=>.more (this.down a b),fun a b=>.more (this.both a b)⟩
 |one _ ih=>
  intro s i j m n p' g u v c d;cases u with
  |maybe u=>cases v with|maybe v=>cases c with|maybe c=>cases d with|maybe d=>exact(ih u v c d).lift .one
  |group u=>cases v with|group v=>cases c with|group c=>cases d with|group d=>exact(ih u v c d).lift .one
  |iter u=>cases v with|iter v=>cases c with|iter c=>cases d with|iter d=>exact(ih u v c d).lift .one
def Go.deep {E f:Tm->Pt->Prop}{s:Tm}{n:Nat}{p d:Pp}(h:Go f s n p d):∀{m:Nat} {p1:Pp},Go E s m p p1->n<m->Ah n p1 d:=by
 induction h with
 |catLd _ c=>intro m p1 g hl;cases g with
  |catLd g=>exact .catL (c g O')
  |catT _ _=>omega
 |catT _ _=>intro m p1 g hl;cases g with
  |catLd g=>exact .cc
  |catT _ _=>omega
 |catRd _ c=>intro m p1 g hl;cases g with|catRd g=>exact .catR (c g O')
 |altLd _ c=>intro m p1 g hl;cases g with|altLd g=>exact .altL (c g O')
 |altRd _ c=>intro m p1 g hl;cases g with|altRd g=>exact .altR (c g O')
 |itemd _ c=>intro m p1 g hl;cases g with
  |itemd g=>exact .item (c g O')
  |itemT _ _=>omega
 |itemT _ _=>intro m p1 g hl;cases g with
  |itemd g=>exact .im
  |itemT _ _=>omega
 |mored _ c=>intro m p1 g hl;cases g with|mored g=>exact .more (c g hl)
 |maybe _ c=>intro m p1 g hl;cases g with|maybe g=>exact .one (c g O')
 |group _ c=>intro m p1 g hl;cases g with|group g=>exact .one (c g O')
 |iter _ c=>intro m p1 g hl;cases g with|iter g=>exact .one (c g O')
def o3:Tm->Pp->Nat
 |.cat a _,.catL p=>o3 a p
 |.cat a b,.catR _ p=>a.leaves+o3 b p
 |.alt a _,.altL p=>o3 a p
 |.alt a b,.altR p=>a.leaves+o3 b p
 |.star a,.item p=>o3 a p
 |.star a,.more _ p=>o3 (.star a) p
 |.maybe a,.one p=>o3 a p
 |.group _ a,.one p=>o3 a p
 |.iter a,.one p=>o3 a p
 |_,_=>0
def En.plt {E:Tm->Pt->Prop}{s:Tm}{p:Pp}(h:En E s p):o3 s p<s.leaves:=by
 induction h<;>simp only[o3,Tm.leaves]at *<;>omega
def PU.plt {w:List Int}{s:Tm}{i j:Nat}{p:Pp}(h:PU w s i j p):o3 s p<s.leaves:=by
 induction h<;>simp only[o3,Tm.leaves]at *<;>omega
theorem En.first {s:Tm}{q:Pp}(h:En b6 s q):∀{p:Pp},En b9 s p->o3 s p=o3 s q->p=q\/∃k,Ah k p q:=by
 induction h with
 |leaf=>intro p g _;cases g;simp
 |catL h c=>intro p g hp;cases g with
  |catL g=>
   rcases c g hp with e|⟨k,e⟩
   ·simp_all
   ·exact .inr ⟨_,.catL e⟩
  |catR _ g=>have:=h.plt;grind [o3]
 |catR he h c=>intro p g hp;cases g with
  |catL g=>have:=g.plt;grind [o3]
  |catR e g=>
   obtain⟨d,rfl⟩:=e;simp only[o3]at hp;rcases T0D he with e2|e2
   ·rw[e2];rcases c g O' with e|⟨k,e⟩
    ·simp_all
    ·exact .inr ⟨_,.catR e⟩
   ·exact .inr ⟨_,.cd (.inr ⟨by rw[he.wid,(f0j he.can).wid],e2⟩)⟩
 |altL h c=>intro p g hp;cases g with
  |altL g=>
   rcases c g hp with e|⟨k,e⟩
   ·simp_all
   ·exact .inr ⟨_,.altL e⟩
  |altR g=>have:=h.plt;grind [o3]
 |altR h c=>intro p g hp;cases g with
  |altL g=>have:=g.plt;grind [o3]
  |altR g=>
   simp only[o3]at hp;rcases c g O' with e|⟨k,e⟩
   ·simp_all
   ·exact .inr ⟨_,.altR e⟩
 |item h c=>intro p g hp;cases g with|item g=>
   rcases c g hp with e|⟨k,e⟩
   ·simp_all
   ·exact .inr ⟨_,.item e⟩
 |maybe h c=>intro p g hp;cases g with|maybe g=>
   rcases c g hp with e|⟨k,e⟩
   ·simp_all
   ·exact .inr ⟨_,.one e⟩
 |group h c=>intro p g hp;cases g with|group g=>
   rcases c g hp with e|⟨k,e⟩
   ·simp_all
   ·exact .inr ⟨_,.one e⟩
 |iter h c=>intro p g hp;cases g with|iter g=>
   rcases c g hp with e|⟨k,e⟩
   ·simp_all
   ·exact .inr ⟨_,.one e⟩
def Cl.first {s:Tm}{p:Pp}{Q:Pt}(h:Cl b6 s p Q):∀{P:Pt},Cl b9 s p P->P.wid=Q.wid/\(P=Q\/PA P Q):=by
 induction h with
 |leaf=>intro P g;cases g;simp
 |catL h e d=>intro P g;cases g with|catL g e'=>
   obtain⟨f,rfl⟩:=e';obtain⟨h1,c⟩:=d g;refine⟨by simp only[Pt.wid];rw[h1,e.wid,(f0j f).wid],?_⟩;rcases c with c|c
   ·rw[c];rcases T0D e with e2|e2
    ·simp_all
    ·exact .inr (.snd e2)
   ·exact .inr (.fst h1 c)
 |catR h d=>intro P g;cases g with|catR g=>
   obtain⟨h1,c⟩:=d g;refine⟨by simp_all[Pt.wid],?_⟩;rcases c with c|c
   ·simp_all
   ·exact .inr (.snd c)
 |altL h d=>intro P g;cases g with|altL g=>
   obtain⟨h1,c⟩:=d g;refine⟨h1,?_⟩;rcases c with c|c
   ·simp_all
   ·exact .inr (.one c)
 |altR h d=>intro P g;cases g with|altR g=>
   obtain⟨h1,c⟩:=d g;refine⟨h1,?_⟩;rcases c with c|c
   ·simp_all
   ·exact .inr (.other c)
 |item h d=>intro P g;cases g with|item g=>
   obtain⟨h1,c⟩:=d g;refine⟨by simp_all[Pt.wid],?_⟩;rcases c with c|c
   ·simp_all
   ·exact .inr (.fst h1 c)
 |more h d=>intro P g;cases g with|more g=>
   obtain⟨h1,c⟩:=d g;refine⟨by simp_all[Pt.wid],?_⟩;rcases c with c|c
   ·simp_all
   ·exact .inr (.snd c)
 |maybe h d=>intro P g;cases g with|maybe g=>
   obtain⟨h1,c⟩:=d g;refine⟨h1,?_⟩;rcases c with c|c
   ·simp_all
   ·exact .inr (.one c)
 |group h d=>intro P g;cases g with|group g=>
   obtain⟨h1,c⟩:=d g;refine⟨h1,?_⟩;rcases c with c|c
   ·simp_all
   ·exact .inr (.one c)
 |iter h d=>intro P g;cases g with|iter g=>
   obtain⟨h1,c⟩:=d g;refine⟨h1,?_⟩;rcases c with c|c
   ·simp_all
   ·exact .inr (.one c)
theorem l0v {p q:Pp}{f:Pp->Pp}(c:∀{n:Nat} {p q:Pp},Ah n p q->∃m,Ah m (f p) (f q))(h:p=q\/∃k,Ah k p q):f p=f q\/∃k,Ah k (f p) (f q):=by
 grind
def Go.first {s:Tm}{n:Nat}{p m:Pp}(h:Go b6 s n p m):∀{i:Pp},Go b9 s n p i->o3 s i=o3 s m->i=m\/∃k,Ah k i m:=by
 induction h with
 |catLd _ d=>intro i g hp;cases g with|catLd g=>exact l0v (fun h=>⟨_,.catL h⟩) (d g hp)
 |catT c e=>intro i g hp;cases g with|catT c' e'=>
   simp only[o3]at hp;obtain⟨h1,j⟩:=c.first c'
   rcases j with j|j
   ·rw[j];exact l0v (fun h=>⟨_,.catR h⟩) (e.first e' O')
   ·exact .inr ⟨_,.cd (.inr ⟨h1,j⟩)⟩
 |catRd _ d=>intro i g hp;cases g with|catRd g=>simp only[o3]at hp;exact l0v (fun h=>⟨_,.catR h⟩) (d g O')
 |altLd _ d=>intro i g hp;cases g with|altLd g=>exact l0v (fun h=>⟨_,.altL h⟩) (d g hp)
 |altRd _ d=>intro i g hp;cases g with|altRd g=>simp only[o3]at hp;exact l0v (fun h=>⟨_,.altR h⟩) (d g O')
 |itemd _ d=>intro i g hp;cases g with|itemd g=>exact l0v (fun h=>⟨_,.item h⟩) (d g hp)
 |itemT c e=>intro i g hp;cases g with|itemT c' e'=>
   obtain⟨h1,j⟩:=c.first c'
   rcases j with j|j
   ·rw[j];exact l0v (f:=fun p=>.more _ (.item p)) (fun h=>⟨_,.more (.item h)⟩) (e.first e' hp)
   ·exact .inr ⟨_,.mm (.inr ⟨h1,j⟩)⟩
 |mored _ d=>intro i g hp;cases g with|mored g=>exact l0v (fun h=>⟨_,.more h⟩) (d g hp)
 |maybe _ d=>intro i g hp;cases g with|maybe g=>exact l0v (fun h=>⟨_,.one h⟩) (d g hp)
 |group _ d=>intro i g hp;cases g with|group g=>exact l0v (fun h=>⟨_,.one h⟩) (d g hp)
 |iter _ d=>intro i g hp;cases g with|iter g=>exact l0v (fun h=>⟨_,.one h⟩) (d g hp)
def E1q (E:Tm->Pt->Prop):Prop:=∀s x,E s x->b6 s x
def e1E:E1q b6:=fun _ _ h=>h
def e1C:E1q b9:=fun _ _ h=>h.emp
def E1q.z {E:Tm->Pt->Prop}(h:E1q E):Z0 E:=fun s x c=>(h s x c).wid
def En.pu {E:Tm->Pt->Prop}(e:E1q E){w:List Int}{s:Tm}{p:Pp}(h:En E s p):∀i,PU w s i i p:=by
 induction h with
 |leaf=>exact fun i=>.leaf
 |catL _ c=>exact fun i=>.catL (c i)
 |catR d _ c=>exact fun i=>.catR ((e _ _ d).fit w i) (by rw[(e _ _ d).wid];exact c i)
 |altL _ c=>exact fun i=>.altL (c i)
 |altR _ c=>exact fun i=>.altR (c i)
 |item _ c=>exact fun i=>.item (c i)
 |maybe _ c=>exact fun i=>.maybe (c i)
 |group _ c=>exact fun i=>.group (c i)
 |iter _ c=>exact fun i=>.iter (c i)
def Cl.fit {E:Tm->Pt->Prop}(e:E1q E){w:List Int}{s:Tm}{i j:Nat}{p:Pp}(h:PU w s i j p):∀{P:Pt},Rd w s j p->Cl E s p P->Fit w s i P:=by
 induction h with
 |leaf=>intro P r c;cases c;exact .leaf r.1 r.2
 |@catL a b i j p u d=>intro P r c;cases c with|catL c g=>
   exact .cat (d r c) ((e _ _ g).fit w _)
 |catR f u d=>intro P r c;cases c with|catR c=>exact .cat f (d r c)
 |altL _ d=>intro P r c;cases c with|altL c=>exact .altL (d r c)
 |altR _ d=>intro P r c;cases c with|altR c=>exact .altR (d r c)
 |item u d=>intro P r c;cases c with|item c=>exact .star (d r c) (c.pos e.z u) .star0
 |more f hp u d=>intro P r c;cases c with|more c=>exact .star f hp (d r c)
 |maybe u d=>intro P r c;cases c with|maybe c=>exact .maybe (d r c) (c.pos e.z u)
 |group _ d=>intro P r c;cases c with|group c=>exact .group (d r c)
 |iter _ d=>intro P r c;cases c with|iter c=>exact .iter (d r c)
def Go.pu {E:Tm->Pt->Prop}(e:E1q E){w:List Int}{s:Tm}{i j:Nat}{p:Pp}(h:PU w s i j p):∀{n:Nat} {p':Pp},Rd w s j p->Go E s n p p'->PU w s i (j+1) p':=by
 induction h with
 |leaf=>intro n p' r g;cases g
 |@catL a b i j p u d=>intro n p' r g;cases g with
  |catLd g=>exact .catL (d r g)
  |catT c q=>
   have hw:=c.wid e.z u;exact .catR (c.fit e u r) (by rw[hw];exact q.pu e _)
 |catR f u d=>intro n p' r g;cases g with|catRd g=>exact .catR f (d r g)
 |altL _ d=>intro n p' r g;cases g with|altLd g=>exact .altL (d r g)
 |altR _ d=>intro n p' r g;cases g with|altRd g=>exact .altR (d r g)
 |item u d=>intro n p' r g;cases g with
  |itemd g=>exact .item (d r g)
  |itemT c q=>
   have hw:=c.wid e.z u;exact .more (c.fit e u r) (c.pos e.z u) (by rw[hw];exact .item (q.pu e _))
 |more f hp u d=>intro n p' r g;cases g with|mored g=>exact .more f hp (d r g)
 |maybe u d=>intro n p' r g;cases g with|maybe g=>exact .maybe (d r g)
 |group _ d=>intro n p' r g;cases g with|group g=>exact .group (d r g)
 |iter _ d=>intro n p' r g;cases g with|iter g=>exact .iter (d r g)
def W0n {a:Tm}{r:Pt}(h:b6 (.star a) r):r=.nil:=by cases h;rfl
def Fit.through {w:List Int}{t:Tm}{R:Nat->Pp->Prop}(hR:∀j n p p',R j p->Go b6 t n p p'->Rd w t (j+1) p'->R (j+1) p'){s:Tm}{i:Nat}{P:Pt}(h:Fit w s i P):
  0<P.wid->∀C:Pp->Pp,(∀n p p',Go b6 s n p p'->∃m,Go b6 t m (C p) (C p'))->(∀p,w9 t (C p)=w9 s p)->(∀p,En b6 s p->Rd w s i p->R i (C p))->
   ∃Y j,R j (C Y)/\j+1=i+P.wid/\Cl b6 s Y P:=by
 induction h with
 |eps=>intro hp;simp[Pt.wid]at hp
 |leaf h1 u=>intro _ C c d o;exact⟨.leaf,_,o _ .leaf ⟨h1,u⟩,rfl,.leaf⟩
 |@cat a b i x y h1 u i1 i2=>
  intro hp C c d o;simp only[Pt.wid]at hp
  by_cases c1:x.wid=0
  ·have v:=h1.emp c1;obtain⟨Y,j,k,q,f⟩:=i2 O' (fun p=>C (.catR x p)) (fun n p p' g=>c _ _ _ (.catRd g)) (fun p=>d _) (fun p e r=>by
    have:=o (.catR x p) (.catR v e);rw[c1,add_zero]at r ⊢;exact this r)
   exact⟨.catR x Y,j,k,by simp only[Pt.wid];omega,.catR f⟩
  ·obtain⟨Y,j,k,q,f⟩:=i1 O' (fun p=>C (.catL p)) (fun n p p' g=>c _ _ _ (.catLd g)) (fun p=>d _) (fun p e r=>o _ (.catL e) r)
   by_cases c2:y.wid=0
   ·exact⟨.catL Y,j,k,by simp only[Pt.wid];omega,.catL f (u.emp c2)⟩
   ·obtain⟨U,J,I,z2,z3⟩:=i2 O' (fun p=>C (.catR x p)) (fun n p p' g=>c _ _ _ (.catRd g)) (fun p=>d _) (fun p e r=>by
     obtain⟨m,hm⟩:=c _ _ _ (.catT f e);rw[<-q]at r ⊢;exact hR _ _ _ _ k hm ⟨r.1,by rw[d];exact r.2⟩)
    exact⟨.catR x U,J,I,by simp only[Pt.wid];omega,.catR z3⟩
 |altL _ ih=>
  intro hp C c d o;obtain⟨Y,j,k,q,f⟩:=ih hp (fun p=>C (.altL p)) (fun n p p' g=>c _ _ _ (.altLd g)) (fun p=>d _) (fun p e r=>o _ (.altL e) r);exact⟨.altL Y,j,k,q,.altL f⟩
 |altR _ ih=>
  intro hp C c d o;obtain⟨Y,j,k,q,f⟩:=ih hp (fun p=>C (.altR p)) (fun n p p' g=>c _ _ _ (.altRd g)) (fun p=>d _) (fun p e r=>o _ (.altR e) r);exact⟨.altR Y,j,k,q,.altR f⟩
 |star0=>intro hp;simp[Pt.wid]at hp
 |@star a i x r h1 v u i1 i2=>
  intro hp C c d o;obtain⟨Y,j,k,q,f⟩:=i1 v (fun p=>C (.item p)) (fun n p p' g=>c _ _ _ (.itemd g)) (fun p=>d _) (fun p e r=>o _ (.item e) r)
  by_cases c2:r.wid=0
  ·obtain rfl:=W0n (u.emp c2);exact⟨.item Y,j,k,by simp only[Pt.wid];omega,.item f⟩
  ·obtain⟨U,J,I,z2,z3⟩:=i2 O' (fun p=>C (.more x p)) (fun n p p' g=>c _ _ _ (.mored g)) (fun p=>d _) (fun p e rd=>by
    cases e with|item e=>
    obtain⟨m,hm⟩:=c _ _ _ (.itemT f e);rw[<-q]at rd ⊢;exact hR _ _ _ _ k hm ⟨rd.1,by rw[d];exact rd.2⟩)
   exact⟨.more x U,J,I,by simp only[Pt.wid];omega,.more z3⟩
 |maybe0=>intro hp;simp[Pt.wid]at hp
 |maybe _ _ ih=>
  intro hp C c d o;obtain⟨Y,j,k,q,f⟩:=ih hp (fun p=>C (.one p)) (fun n p p' g=>c _ _ _ (.maybe g)) (fun p=>d _) (fun p e r=>o _ (.maybe e) r);exact⟨.one Y,j,k,q,.maybe f⟩
 |group _ ih=>
  intro hp C c d o;obtain⟨Y,j,k,q,f⟩:=ih hp (fun p=>C (.one p)) (fun n p p' g=>c _ _ _ (.group g)) (fun p=>d _) (fun p e r=>o _ (.group e) r);exact⟨.one Y,j,k,q,.group f⟩
 |iter _ ih=>
  intro hp C c d o;obtain⟨Y,j,k,q,f⟩:=ih hp (fun p=>C (.one p)) (fun n p p' g=>c _ _ _ (.iter g)) (fun p=>d _) (fun p e r=>o _ (.iter e) r);exact⟨.one Y,j,k,q,.iter f⟩
inductive Rch (w:List Int) (t:Tm):Nat->Nat->Pp->Prop
 |E0 {i:Nat} {p:Pp}:En b6 t p->Rd w t i p->Rch w t i i p
 |step {i j n:Nat} {p p':Pp}:Rch w t i j p->Go b6 t n p p'->Rd w t (j+1) p'->Rch w t i (j+1) p'
def Rch.ok {w:List Int}{t:Tm}{i j:Nat}{p:Pp}(h:Rch w t i j p):PU w t i j p/\Rd w t j p:=by
 induction h with
 |E0 e r=>exact⟨e.pu e1E _,r⟩
 |step _ g r c=>exact⟨g.pu e1E c.1 c.2,r⟩
def Fit.rch {w:List Int}{t:Tm}{i:Nat}{P:Pt}(h:Fit w t i P)(hp:0<P.wid):∃Y j,Rch w t i j Y/\j+1=i+P.wid/\Cl b6 t Y P:=
 h.through (R:=fun j p=>Rch w t i j p) (fun j n p p' h1 d c=>.step h1 d c) hp id (fun n p p' g=>⟨n,g⟩) (fun p=>rfl) (fun p e r=>.E0 e r)
def S8:Tm->Nat->Pp->List Int
 |.leaf _,lo,.leaf=>[E1 lo]
 |.cat a b,lo,.catL p=>E1 (Tm.top (.cat a b) lo) :: S8 a lo p
 |.cat a b,lo,.catR _ p=>E1 (Tm.top (.cat a b) lo) :: (a.steps lo++S8 b (lo+a.size) p)
 |.alt a b,lo,.altL p=>E1 (Tm.top (.alt a b) lo) :: S8 a lo p
 |.alt a b,lo,.altR p=>E1 (Tm.top (.alt a b) lo) :: S8 b (lo+a.size) p
 |.star a,lo,.item p=>E1 (Tm.top (.star a) lo) :: S8 a lo p
 |.maybe a,lo,.one p=>E1 (Tm.top (.maybe a) lo) :: S8 a lo p
 |.group m a,lo,.one p=>E1 (Tm.top (.group m a) lo) :: S8 a lo p
 |.iter a,lo,.one p=>E1 (Tm.top (.iter a) lo) :: S8 a lo p
 |_,_,_=>[]
def S09:∀{s:Tm} {lo d:Nat} {ahead:List Int} {h:B0},h∈s.Y0 lo d ahead->∃p,En b9 s p/\h=⟨((d+o3 s p:Nat):Int),0,ahead++S8 s lo p⟩:=by
 intro s
 induction s with
 |eps=>simp[Tm.Y0]
 |leaf S=>intro lo d ahead h c;simp only[Tm.Y0,List.mem_singleton]at c;exact⟨.leaf,.leaf,by rw[c];rfl⟩
 |cat a b iha ihb=>
  intro lo d ahead h c;simp only[Tm.Y0,List.mem_append]at c;rcases c with c|c
  ·obtain⟨p,h1,f⟩:=iha c;exact⟨.catL p,.catL h1,by simp_all[o3,S8]⟩
  ·split at c
   ·rename_i g;obtain⟨p,h1,f⟩:=ihb c;exact⟨.catR (emp a) p,.catR ⟨g,rfl⟩ h1,by simp_all[o3,S8,add_assoc]⟩
   simp_all
 |alt a b iha ihb=>
  intro lo d ahead h c;simp only[Tm.Y0,List.mem_append]at c;rcases c with c|c
  ·obtain⟨p,h1,f⟩:=iha c;exact⟨.altL p,.altL h1,by simp_all[o3,S8]⟩
  ·obtain⟨p,h1,f⟩:=ihb c;exact⟨.altR p,.altR h1,by simp_all[o3,S8,add_assoc]⟩
 |star a iha=>
  intro lo d ahead h c;simp only[Tm.Y0]at c;obtain⟨p,h1,f⟩:=iha c;exact⟨.item p,.item h1,by simp_all[o3,S8]⟩
 |maybe a iha=>
  intro lo d ahead h c;simp only[Tm.Y0]at c;obtain⟨p,h1,f⟩:=iha c;exact⟨.one p,.maybe h1,by simp_all[o3,S8]⟩
 |group m a iha=>
  intro lo d ahead h c;simp only[Tm.Y0]at c;obtain⟨p,h1,f⟩:=iha c;exact⟨.one p,.group h1,by simp_all[o3,S8]⟩
 |iter a iha=>
  intro lo d ahead h c;simp only[Tm.Y0]at c;obtain⟨p,h1,f⟩:=iha c;exact⟨.one p,.iter h1,by simp_all[o3,S8]⟩
def T0x {s:Tm}{q:Pp}(h:En b6 s q):∀(lo c:Nat) (ahead:List Int),∃h∈s.Y0 lo c ahead,h.To=((c+o3 s q:Nat):Int):=by
 induction h with
 |leaf=>intro lo c ahead;exact⟨_,by exact List.mem_singleton.2 rfl,rfl⟩
 |catL _ d=>intro lo c ahead;obtain⟨h,h1,f⟩:=d lo c _;exact⟨h,List.mem_append_left _ h1,f⟩
 |@catR a b x p hx _ d=>
  intro lo c ahead;obtain⟨h,h1,f⟩:=d (lo+a.size) (c+a.leaves) _;refine⟨h,?_,by simp_all[o3,add_assoc]⟩;simp only[Tm.Y0];rw[if_pos hx.can];exact List.mem_append_right _ h1
 |altL _ d=>intro lo c ahead;obtain⟨h,h1,f⟩:=d lo c _;exact⟨h,List.mem_append_left _ h1,f⟩
 |@altR a b p _ d=>
  intro lo c ahead;obtain⟨h,h1,f⟩:=d (lo+a.size) (c+a.leaves) _;exact⟨h,List.mem_append_right _ h1,by simp_all[o3,add_assoc]⟩
 |item _ d=>intro lo c ahead;exact d lo c _
 |maybe _ d=>intro lo c ahead;exact d lo c _
 |group _ d=>intro lo c ahead;exact d lo c _
 |iter _ d=>intro lo c ahead;exact d lo c _
def stw (F:Nat->Pt->List (Nat×Int)):Nat->Pt->List (Nat×Int)
 |k,.two x r=>F k x++stw F (k+x.wid) r
 |_,_=>[]
def o6:Tm->Nat->Nat->Pt->List (Nat×Int)
 |.eps,lo,k,_=>[(k,E1 lo),(k,cls lo)]
 |.leaf _,lo,k,_=>[(k,E1 lo),(k+1,cls lo)]
 |.cat a b,lo,k,P=>(k,E1 (Tm.top (.cat a b) lo)) :: ((match P with|.two x y=>o6 a lo k x++o6 b (lo+a.size) (k+x.wid) y|_=>[])++[(k+P.wid,cls (Tm.top (.cat a b) lo))])
 |.alt a b,lo,k,P=>(k,E1 (Tm.top (.alt a b) lo)) :: ((match P with|.one x=>o6 a lo k x|.other x=>o6 b (lo+a.size) k x|_=>[])++[(k+P.wid,cls (Tm.top (.alt a b) lo))])
 |.star a,lo,k,P=>(k,E1 (Tm.top (.star a) lo)) :: (stw (fun k x=>o6 a lo k x) k P++[(k+P.wid,cls (Tm.top (.star a) lo))])
 |.maybe a,lo,k,P=>(k,E1 (Tm.top (.maybe a) lo)) :: ((match P with|.one x=>o6 a lo k x|_=>[])++[(k+P.wid,cls (Tm.top (.maybe a) lo))])
 |.group m a,lo,k,P=>(k,E1 (Tm.top (.group m a) lo)) :: ((match P with|.one x=>o6 a lo k x|_=>[])++[(k+P.wid,cls (Tm.top (.group m a) lo))])
 |.iter a,lo,k,P=>(k,E1 (Tm.top (.iter a) lo)) :: ((match P with|.one x=>o6 a lo k x|_=>[])++[(k+P.wid,cls (Tm.top (.iter a) lo))])
def S5:Tm->Nat->Nat->Pp->List (Nat×Int)
 |.cat a _,lo,k,.catL p=>(k,E1 (a.top lo)) :: S5 a lo k p
 |.cat a b,lo,k,.catR x p=>o6 a lo k x++(k+x.wid,E1 (b.top (lo+a.size))) :: S5 b (lo+a.size) (k+x.wid) p
 |.alt a _,lo,k,.altL p=>(k,E1 (a.top lo)) :: S5 a lo k p
 |.alt a b,lo,k,.altR p=>(k,E1 (b.top (lo+a.size))) :: S5 b (lo+a.size) k p
 |.star a,lo,k,.item p=>(k,E1 (a.top lo)) :: S5 a lo k p
 |.star a,lo,k,.more x p=>o6 a lo k x++S5 (.star a) lo (k+x.wid) p
 |.maybe a,lo,k,.one p=>(k,E1 (a.top lo)) :: S5 a lo k p
 |.group _ a,lo,k,.one p=>(k,E1 (a.top lo)) :: S5 a lo k p
 |.iter a,lo,k,.one p=>(k,E1 (a.top lo)) :: S5 a lo k p
 |_,_,_,_=>[]
def b7:Tm->Nat->Pp->List Int
 |.leaf _,lo,.leaf=>[cls lo]
 |.cat a b,lo,.catL p=>b7 a lo p++b.steps (lo+a.size)++[cls (Tm.top (.cat a b) lo)]
 |.cat a b,lo,.catR _ p=>b7 b (lo+a.size) p++[cls (Tm.top (.cat a b) lo)]
 |.alt a b,lo,.altL p=>b7 a lo p++[cls (Tm.top (.alt a b) lo)]
 |.alt a b,lo,.altR p=>b7 b (lo+a.size) p++[cls (Tm.top (.alt a b) lo)]
 |.star a,lo,.item p=>b7 a lo p++[cls (Tm.top (.star a) lo)]
 |.star a,lo,.more _ p=>b7 (.star a) lo p
 |.maybe a,lo,.one p=>b7 a lo p++[cls (Tm.top (.maybe a) lo)]
 |.group m a,lo,.one p=>b7 a lo p++[cls (Tm.top (.group m a) lo)]
 |.iter a,lo,.one p=>b7 a lo p++[cls (Tm.top (.iter a) lo)]
 |_,_,_=>[]
def c7:Tm->Pp->Bool
 |.leaf _,.leaf=>true
 |.cat a b,.catL p=>c7 a p&&b.can
 |.cat _ b,.catR _ p=>c7 b p
 |.alt a _,.altL p=>c7 a p
 |.alt _ b,.altR p=>c7 b p
 |.star a,.item p=>c7 a p
 |.star a,.more _ p=>c7 (.star a) p
 |.maybe a,.one p=>c7 a p
 |.group _ a,.one p=>c7 a p
 |.iter a,.one p=>c7 a p
 |_,_=>false
def Cl.may {s:Tm}{p:Pp}{P:Pt}(h:Cl b6 s p P):c7 s p=true:=by
 induction h with
 |catL _ e c=>simp only[c7,c,e.can,Bool.and_self]
 |_=>first|rfl|assumption
def PU.cl {w:List Int}{s:Tm}{i j:Nat}{p:Pp}(h:PU w s i j p):c7 s p=true->∃P,Cl b9 s p P:=by
 induction h with
 |leaf=>exact fun _=>⟨_,.leaf⟩
 |catL _ d=>
  intro c;simp only[c7,Bool.and_eq_true]at c;obtain⟨P,h⟩:=d c.1;exact⟨_,.catL h ⟨c.2,rfl⟩⟩
 |catR _ _ d=>exact fun c=>(d c).elim fun P h=>⟨_,.catR h⟩
 |altL _ d=>exact fun c=>(d c).elim fun P h=>⟨_,.altL h⟩
 |altR _ d=>exact fun c=>(d c).elim fun P h=>⟨_,.altR h⟩
 |item _ d=>exact fun c=>(d c).elim fun P h=>⟨_,.item h⟩
 |more _ _ _ d=>exact fun c=>(d c).elim fun P h=>⟨_,.more h⟩
 |maybe _ d=>exact fun c=>(d c).elim fun P h=>⟨_,.maybe h⟩
 |group _ d=>exact fun c=>(d c).elim fun P h=>⟨_,.group h⟩
 |iter _ d=>exact fun c=>(d c).elim fun P h=>⟨_,.iter h⟩
def tm (k:Nat)(st:List Int):List (Nat×Int):=st.map fun x=>(k,x)
theorem c0J (k:Nat)(a b:List Int):tm k (a++b)=tm k a++tm k b:=by simp[tm]
def b0K (k:Nat)(x:Int)(b:List Int):tm k (x :: b)=(k,x) :: tm k b:=rfl
def g0a (k:Nat):tm k []=[]:=rfl
def T0h:∀{s:Tm} (lo k:Nat),s.can=true->o6 s lo k (emp s)=tm k (s.steps lo):=by
 intro s
 induction s with
 |eps=>intro lo k _;rfl
 |leaf S=>simp[Tm.can]
 |cat a b ia ib=>
  intro lo k h;simp only[Tm.can,Bool.and_eq_true]at h;simp only[o6,emp,Tm.steps,c0J,b0K,g0a,ia lo k h.1,(f0j h.1).wid,add_zero,ib (lo+a.size) k h.2,(f0j h.2).wid,Pt.wid,cons_append,nil_append,append_assoc]
 |alt a b ia ib=>
  intro lo k h;simp only[o6,emp,Tm.steps]
  by_cases c:a.can=true
  ·simp only[c,if_true,c0J,b0K,g0a,ia lo k c,(f0j c).wid,Pt.wid,add_zero,cons_append,nil_append]
  ·have f:b.can=true:=by simp_all[Tm.can]
   simp only[c,if_false,c0J,b0K,g0a,ib (lo+a.size) k f,(f0j f).wid,Pt.wid,add_zero,cons_append,nil_append,Bool.false_eq_true]
 |star a _=>simp[o6,emp,stw,Tm.steps,tm,Pt.wid]
 |maybe a _=>simp[o6,emp,Tm.steps,tm,Pt.wid]
 |group m a ia=>
  intro lo k h;have d:a.can=true:=h;simp only[o6,emp,Tm.steps,c0J,b0K,g0a,ia lo k d,(f0j d).wid,Pt.wid,add_zero,cons_append,nil_append]
 |iter a ia=>
  intro lo k h;have d:a.can=true:=h;simp only[o6,emp,Tm.steps,c0J,b0K,g0a,ia lo k d,(f0j d).wid,Pt.wid,add_zero,cons_append,nil_append]
theorem S01 {s:Tm}{p:Pp}(h:En b9 s p):∀(lo k:Nat),(k,E1 (s.top lo)) :: S5 s lo k p=tm k (S8 s lo p):=by
 induction h with
 |leaf=>simp[S5,S8,tm,Tm.top,Tm.size]
 |catL _ c=>simp_all[S5,S8,b0K]
 |catR e _ c=>
  intro lo k;obtain⟨e,rfl⟩:=e;simp only[S5,S8,T0h lo k e,(f0j e).wid,add_zero,c _ k,b0K,c0J]
 |altL _ c=>simp_all[S5,S8,b0K]
 |altR _ c=>simp_all[S5,S8,b0K]
 |item _ c=>simp_all[S5,S8,b0K]
 |maybe _ c=>simp_all[S5,S8,b0K]
 |group _ c=>simp_all[S5,S8,b0K]
 |iter _ c=>simp_all[S5,S8,b0K]
theorem T0y {w:List Int}{s:Tm}{i j:Nat}{p:Pp}(h:PU w s i j p):∀{P:Pt} (lo:Nat),Cl b9 s p P->o6 s lo i P=(i,E1 (s.top lo)) :: (S5 s lo i p++tm (j+1) (b7 s lo p)):=by
 induction h with
 |leaf=>simp[o6,S5,b7,tm,Tm.top,Tm.size]
 |@catL a b i j p u d=>
  intro P lo c;cases c with|catL c e=>
  obtain⟨e,rfl⟩:=e;have hw:=c.wid zC u;simp only[o6,S5,b7,d lo c,hw,T0h _ _ e,(f0j e).wid,Pt.wid,add_zero,c0J,b0K,g0a,append_assoc,cons_append]
 |@catR a b i j x p f u d=>
  intro P lo c;cases c with|catR c=>
  have hw:=c.wid zC u
  simp_all[o6,S5,b7,Pt.wid,add_assoc,c0J,b0K,g0a]
 |altL u d=>intro P lo c;cases c with|altL c=>
   have hw:=c.wid zC u
   simp_all[o6,S5,b7,Pt.wid,c0J,b0K,g0a]
 |altR u d=>intro P lo c;cases c with|altR c=>
   have hw:=c.wid zC u
   simp_all[o6,S5,b7,Pt.wid,c0J,b0K,g0a]
 |item u d=>intro P lo c;cases c with|item c=>
   have hw:=c.wid zC u
   simp_all[o6,stw,S5,b7,Pt.wid,c0J,b0K,g0a]
 |@more a i j x p f hp u d=>intro P lo c;cases c with|more c=>
   simp_all[o6,stw,S5,b7,Pt.wid,add_assoc]
 |maybe u d=>intro P lo c;cases c with|maybe c=>
   have hw:=c.wid zC u
   simp_all[o6,S5,b7,Pt.wid,c0J,b0K,g0a]
 |group u d=>intro P lo c;cases c with|group c=>
   have hw:=c.wid zC u
   simp_all[o6,S5,b7,Pt.wid,c0J,b0K,g0a]
 |iter u d=>intro P lo c;cases c with|iter c=>
   have hw:=c.wid zC u
   simp_all[o6,S5,b7,Pt.wid,c0J,b0K,g0a]
def A6:Tm->Nat->Nat->Nat->Pp->List B0
 |.cat a b,lo,c,d,.catL p=>if c7 a p then Q7 (d:Int) (A6 a lo c (d+1) p) (b.Y0 (lo+a.size) (c+a.leaves) (b7 a lo p))else A6 a lo c (d+1) p
 |.cat a b,lo,c,d,.catR _ p=>A6 b (lo+a.size) (c+a.leaves) (d+1) p
 |.alt a _,lo,c,d,.altL p=>A6 a lo c (d+1) p
 |.alt a b,lo,c,d,.altR p=>A6 b (lo+a.size) (c+a.leaves) (d+1) p
 |.star a,lo,c,d,.item p=>if c7 a p then Q7 (d:Int) (A6 a lo c (d+1) p) (a.Y0 lo c (b7 a lo p))else A6 a lo c (d+1) p
 |.star a,lo,c,d,.more _ p=>A6 (.star a) lo c d p
 |.maybe a,lo,c,d,.one p=>A6 a lo c (d+1) p
 |.group _ a,lo,c,d,.one p=>A6 a lo c (d+1) p
 |.iter a,lo,c,d,.one p=>A6 a lo c (d+1) p
 |_,_,_,_,_=>[]
theorem T0M {d:Int}:∀{r out:List B0} {h:B0},h∈Q7 d out r->h∈out\/∃x∈r,h=⟨x.To,d,x.Steps⟩
 |[],out,h,c=>.inl c
 |x :: r,out,h,c=>by
  simp only[Q7]at c;rcases T0M c with h1|⟨y,h1,h2⟩
  ·grind
  grind
theorem S0l {d:Int}:∀{r out:List B0} {h:B0},h∈out->h∈Q7 d out r
 |[],out,h,c=>c
 |x :: r,out,h,c=>by
  simp only[Q7];refine S0l ?_
  grind
theorem S0G {d:Int}:∀{r out:List B0} {x:B0},x∈r->∃h∈Q7 d out r,h.To=x.To/\(h∈out\/h.Turn=d)
 |[],out,x,f=>by grind
 |y :: r,out,x,f=>by
  simp only[Q7];rcases List.mem_cons.1 f with rfl|f
  ·by_cases c:(out.any fun z=>z.To==x.To)=true
   ·grind [S0l]
   ·rw[if_neg c];exact⟨⟨x.To,d,x.Steps⟩,S0l Z',rfl,.inr rfl⟩
  ·by_cases c:(out.any fun z=>z.To==y.To)=true
   ·simp_all[S0G]
   ·obtain⟨h,h1,g,i⟩:=S0G (d:=d) (out:=out++[⟨y.To,d,y.Steps⟩]) f
    grind
theorem T0o {w:List Int}{s:Tm}{i j:Nat}{p:Pp}(u:PU w s i j p):∀{lo k d:Nat} {h:B0},h∈A6 s lo k d p->∃n p',Go b9 s n p p'/\h.Turn=((d+n:Nat):Int)/\h.To=((k+o3 s p':Nat):Int)/\S5 s lo i p'=S5 s lo i p++tm (j+1) h.Steps:=by
 induction u with
 |leaf=>simp[A6]
 |@catL a b i j p u ih=>
  intro lo k d h g;have down:h∈A6 a lo k (d+1) p->∃n p',Go b9 (.cat a b) n (.catL p) p'/\h.Turn=((d+n:Nat):Int)/\h.To=((k+o3 (.cat a b) p':Nat):Int)/\S5 (.cat a b) lo i p'=S5 (.cat a b) lo i (.catL p)++tm (j+1) h.Steps:=fun h1=>by
   obtain⟨n,p',g1,g2,g3,g4⟩:=ih h1;exact⟨n+1,.catL p',.catLd g1,O',g3,by simp_all[S5]⟩
  simp only[A6]at g
  by_cases c:c7 a p=true
  ·rw[if_pos c]at g;rcases T0M g with h1|⟨x,h1,h2⟩
   ·simp_all
   ·obtain⟨P,m⟩:=u.cl c;obtain⟨q,o,r⟩:=S09 h1;have hw:=m.wid zC u;refine⟨0,.catR P q,.catT m o,by simp_all,by simp_all[o3,add_assoc],?_⟩
    grind [T0y,S01,S5,c0J]
  simp_all
 |catR f u ih=>
  intro lo k d h g;obtain⟨n,p',g1,g2,g3,g4⟩:=ih (show h∈A6 _ _ _ _ _ from g);exact⟨n+1,.catR _ p',.catRd g1,O',by simp_all[o3,add_assoc],by simp_all[S5]⟩
 |altL u ih=>
  intro lo k d h g;obtain⟨n,p',g1,g2,g3,g4⟩:=ih (show h∈A6 _ _ _ _ _ from g);exact⟨n+1,.altL p',.altLd g1,O',g3,by simp_all[S5]⟩
 |altR u ih=>
  intro lo k d h g;obtain⟨n,p',g1,g2,g3,g4⟩:=ih (show h∈A6 _ _ _ _ _ from g);exact⟨n+1,.altR p',.altRd g1,O',by simp_all[o3,add_assoc],by simp_all[S5]⟩
 |@item a i j p u ih=>
  intro lo k d h g;have down:h∈A6 a lo k (d+1) p->∃n p',Go b9 (.star a) n (.item p) p'/\h.Turn=((d+n:Nat):Int)/\h.To=((k+o3 (.star a) p':Nat):Int)/\S5 (.star a) lo i p'=S5 (.star a) lo i (.item p)++tm (j+1) h.Steps:=fun h1=>by
   obtain⟨n,p',g1,g2,g3,g4⟩:=ih h1;exact⟨n+1,.item p',.itemd g1,by rw[g2];congr 1;omega,g3,by simp only[S5,g4,cons_append]⟩
  simp only[A6]at g
  by_cases c:c7 a p=true
  ·rw[if_pos c]at g;rcases T0M g with h1|⟨x,h1,h2⟩
   ·exact down h1
   ·obtain⟨P,m⟩:=u.cl c;obtain⟨q,o,r⟩:=S09 h1;have hw:=m.wid zC u;refine⟨0,.more P (.item q),.itemT m o,by rw[h2];rfl,by rw[h2,r];rfl,?_⟩;have v:=T0y u lo m;have t:=S01 o lo (j+1);rw[h2,r];simp only[S5,v,hw,t,c0J,cons_append,append_assoc]
  ·rw[if_neg c]at g;exact down g
 |more f hp u ih=>
  intro lo k d h g;obtain⟨n,p',g1,g2,g3,g4⟩:=ih (show h∈A6 _ _ _ _ _ from g);exact⟨n,.more _ p',.mored g1,g2,g3,by simp only[S5,g4,append_assoc]⟩
 |maybe u ih=>
  intro lo k d h g;obtain⟨n,p',g1,g2,g3,g4⟩:=ih (show h∈A6 _ _ _ _ _ from g);exact⟨n+1,.one p',.maybe g1,by rw[g2];congr 1;omega,g3,by simp only[S5,g4,cons_append]⟩
 |group u ih=>
  intro lo k d h g;obtain⟨n,p',g1,g2,g3,g4⟩:=ih (show h∈A6 _ _ _ _ _ from g);exact⟨n+1,.one p',.group g1,by rw[g2];congr 1;omega,g3,by simp only[S5,g4,cons_append]⟩
 |iter u ih=>
  intro lo k d h g;obtain⟨n,p',g1,g2,g3,g4⟩:=ih (show h∈A6 _ _ _ _ _ from g);exact⟨n+1,.one p',.iter g1,by rw[g2];congr 1;omega,g3,by simp only[S5,g4,cons_append]⟩
theorem V04 {w:List Int}{s:Tm}{n:Nat}{p p':Pp}(g:Go b6 s n p p'):∀{i j:Nat} (lo f d:Nat),PU w s i j p->∃h∈A6 s lo f d p,h.To=((f+o3 s p':Nat):Int)/\((d+n:Nat):Int)<=h.Turn:=by
 induction g with
 |@catLd a b n p q g ih=>
  intro i j lo f d u;cases u with|catL u=>
  obtain⟨h,h1,k,m⟩:=ih lo f (d+1) u;refine⟨h,?_,k,O'⟩
  grind [A6,S0l]
 |@catT a b p q P c e=>
  intro i j lo f d u;cases u with|catL u=>
  obtain⟨x,o,r⟩:=T0x e (lo+a.size) (f+a.leaves) (b7 a lo p);obtain⟨h,h1,k,m⟩:=S0G (d:=(d:Int)) (out:=A6 a lo f (d+1) p) o;refine⟨h,by simp only[A6];rw[if_pos c.may];exact h1,by simp_all[o3,add_assoc],?_⟩
  grind [T0o]
 |catRd g ih=>
  intro i j lo f d u;cases u with|catR _ u=>
  obtain⟨h,h1,k,m⟩:=ih (lo+_) (f+_) (d+1) u;exact⟨h,h1,by simp_all[o3,add_assoc],O'⟩
 |altLd g ih=>
  intro i j lo f d u;cases u with|altL u=>
  obtain⟨h,h1,k,m⟩:=ih lo f (d+1) u;exact⟨h,h1,k,O'⟩
 |altRd g ih=>
  intro i j lo f d u;cases u with|altR u=>
  obtain⟨h,h1,k,m⟩:=ih (lo+_) (f+_) (d+1) u;exact⟨h,h1,by simp_all[o3,add_assoc],O'⟩
 |@itemd a n p q g ih=>
  intro i j lo f d u;cases u with|item u=>
  obtain⟨h,h1,k,m⟩:=ih lo f (d+1) u;refine⟨h,?_,k,O'⟩
  grind [A6,S0l]
 |@itemT a p q P c e=>
  intro i j lo f d u;cases u with|item u=>
  obtain⟨x,o,r⟩:=T0x e lo f (b7 a lo p);obtain⟨h,h1,k,m⟩:=S0G (d:=(d:Int)) (out:=A6 a lo f (d+1) p) o;refine⟨h,by simp only[A6];rw[if_pos c.may];exact h1,by rw[k,r];rfl,?_⟩
  grind [T0o]
 |mored g ih=>
  intro i j lo f d u;cases u with|more _ _ u=>exact ih lo f d u
 |maybe g ih=>
  intro i j lo f d u;cases u with|maybe u=>
  obtain⟨h,h1,k,m⟩:=ih lo f (d+1) u;exact⟨h,h1,k,O'⟩
 |group g ih=>
  intro i j lo f d u;cases u with|group u=>
  obtain⟨h,h1,k,m⟩:=ih lo f (d+1) u;exact⟨h,h1,k,O'⟩
 |iter g ih=>
  intro i j lo f d u;cases u with|iter u=>
  obtain⟨h,h1,k,m⟩:=ih lo f (d+1) u;exact⟨h,h1,k,O'⟩
