/- P. Its conditions: none. -/
import Derived.Test.YtmhooikfkhjijaaGreatYG44
set_option linter.all false
namespace Go.Proofs.YtmhooikfkhjijaaGreat
open Go.V Go.RowKit Old
def Z0 (E:Tm->Pt->Prop):Prop:=∀s x,E s x->x.wid=0
def zE:Z0 P3:=fun _ _ h=>h.wid
def zC:Z0 O5:=fun _ _ h=>h.emp.wid
def Cl.wid {E:Tm->Pt->Prop}(z:Z0 E){w:List Int}{s:Tm}{i j:Nat}{p:Pp}(h:PU w s i j p):∀{P:Pt},Cl E s p P->i+P.wid=j+1:=by
 induction h with
 |leaf=>intro P c;cases c;rfl
 |catL _ a=>intro P c;cases c with|catL c e=>have:=a c;have:=z _ _ e;simp only[Pt.wid];omega
 |catR _ _ a=>intro P c;cases c with|catR c=>have:=a c;simp only[Pt.wid];omega
 |altL _ a=>intro P c;cases c with|altL c=>have:=a c;simp only[Pt.wid];omega
 |altR _ a=>intro P c;cases c with|altR c=>have:=a c;simp only[Pt.wid];omega
 |item _ a=>intro P c;cases c with|item c=>have:=a c;simp only[Pt.wid];omega
 |more _ _ _ a=>intro P c;cases c with|more c=>have:=a c;simp only[Pt.wid];omega
 |maybe _ a=>intro P c;cases c with|maybe c=>have:=a c;simp only[Pt.wid];omega
 |group _ a=>intro P c;cases c with|group c=>have:=a c;simp only[Pt.wid];omega
 |iter _ a=>intro P c;cases c with|iter c=>have:=a c;simp only[Pt.wid];omega
def Cl.pos {E:Tm->Pt->Prop}(z:Z0 E){w:List Int}{s:Tm}{i j:Nat}{p:Pp}(h:PU w s i j p){P:Pt}(c:Cl E s p P):0<P.wid:=by
 have:=c.wid z h;have:=h.le;omega
def Ah.close {E:Tm->Pt->Prop}(z:Z0 E){w:List Int}{n:Nat}{p q:Pp}(h:Ah n p q):∀{s:Tm} {i j:Nat} {P Q:Pt},PU w s i j p->PU w s i j q->Cl E s p P->Cl E s q Q->PA P Q:=by
 induction h with
 |cc=>
  intro s i j P Q u v c d;cases u with|catL u=>cases v with|catR f v=>cases c with|catL c e=>cases d with|catR d=>
   have:=c.wid z u;have:=v.le;exact .wid (by omega)
 |cd h=>
  intro s i j P Q u v c d;cases u with|catR _ u=>cases v with|catR f v=>cases c with|catR c=>cases d with|catR d=>
   rcases h with h|⟨h,h'⟩
   ·exact .wid h
   ·exact .fst h h'
 |aa=>
  intro s i j P Q u v c d;cases c with|altL c=>cases d with|altR d=>exact .oo
 |im=>
  intro s i j P Q u v c d;cases u with|item u=>cases v with|more f _ v=>cases c with|item c=>cases d with|more d=>
   have:=c.wid z u;have:=v.le;exact .wid (by omega)
 |mm h=>
  intro s i j P Q u v c d;cases c with|more c=>cases d with|more d=>
   rcases h with h|⟨h,h'⟩
   ·exact .wid h
   ·exact .fst h h'
 |catL _ ih=>
  intro s i j P Q u v c d;cases u with|catL u=>cases v with|catL v=>cases c with|catL c _=>cases d with|catL d _=>
   have:=c.wid z u;have:=d.wid z v;exact .fst (by omega) (ih u v c d)
 |catR _ ih=>
  intro s i j P Q u v c d;cases u with|catR _ u=>cases v with|catR _ v=>cases c with|catR c=>cases d with|catR d=>exact .snd (ih u v c d)
 |altL _ ih=>
  intro s i j P Q u v c d;cases u with|altL u=>cases v with|altL v=>cases c with|altL c=>cases d with|altL d=>exact .one (ih u v c d)
 |altR _ ih=>
  intro s i j P Q u v c d;cases u with|altR u=>cases v with|altR v=>cases c with|altR c=>cases d with|altR d=>exact .other (ih u v c d)
 |item _ ih=>
  intro s i j P Q u v c d;cases u with|item u=>cases v with|item v=>cases c with|item c=>cases d with|item d=>
   have:=c.wid z u;have:=d.wid z v;exact .fst (by omega) (ih u v c d)
 |more _ ih=>
  intro s i j P Q u v c d;cases u with|more _ _ u=>cases v with|more _ _ v=>cases c with|more c=>cases d with|more d=>exact .snd (ih u v c d)
 |one _ ih=>
  intro s i j P Q u v c d;cases u with
  |maybe u=>cases v with|maybe v=>cases c with|maybe c=>cases d with|maybe d=>exact .one (ih u v c d)
  |group u=>cases v with|group v=>cases c with|group c=>cases d with|group d=>exact .one (ih u v c d)
  |iter u=>cases v with|iter v=>cases c with|iter c=>cases d with|iter d=>exact .one (ih u v c d)
structure Mv (k m n:Nat)(p q:Pp):Prop where
 far:k<=m->k<=n->Ah k p q
 up:n<k->n<m->Ah n p q
 down:m<k->m<n->Ah m q p
 both:m=n->m<k->Ah m p q
def Mv.lift {k m n:Nat}{p q:Pp}{f:Pp->Pp}(c:∀{n:Nat} {p q:Pp},Ah n p q->Ah (n+1) (f p) (f q))(h:Mv k m n p q):Mv (k+1) (m+1) (n+1) (f p) (f q):=
 ⟨fun a b=>c (h.far (by omega) (by omega)),fun a b=>c (h.up (by omega) (by omega)),fun a b=>c (h.down (by omega) (by omega)),fun a b=>c (h.both (by omega) (by omega))⟩
def Mv.base {m n:Nat}{p q:Pp}(h:Ah 0 p q):Mv 0 m n p q:=
 ⟨fun _ _=>h,fun a _=>absurd a (Nat.not_lt_zero _),fun a _=>absurd a (Nat.not_lt_zero _),fun _ a=>absurd a (Nat.not_lt_zero _)⟩
def Mv.inU {k m:Nat}{p q:Pp}(h:Ah 0 p q):Mv (k+1) (m+1) 0 p q:=
 ⟨fun _ a=>absurd a (by omega),fun _ _=>h,fun _ a=>absurd a (by omega),fun a _=>absurd a (by omega)⟩
def Mv.inD {k n:Nat}{p q:Pp}(h:Ah 0 q p):Mv (k+1) 0 (n+1) p q:=
 ⟨fun a _=>absurd a (by omega),fun _ a=>absurd a (by omega),fun _ _=>h,fun a _=>absurd a (by omega)⟩
def Mv.inB {k:Nat}{p q:Pp}(h:Ah 0 p q):Mv (k+1) 0 0 p q:=
 ⟨fun a _=>absurd a (by omega),fun _ a=>absurd a (by omega),fun _ a=>absurd a (by omega),fun _ _=>h⟩
def Ah.move {E:Tm->Pt->Prop}(z:Z0 E){w:List Int}{k:Nat}{p q:Pp}(h:Ah k p q):∀{s:Tm} {i j m n:Nat} {p' g:Pp},PU w s i j p->PU w s i j q->Go E s m p p'->Go E s n q g->Mv k m n p' g:=by
 induction h with
 |cc=>
  intro s i j m n p' g u v c d;cases u with|catL u=>cases v with|catR f v=>cases d with|catRd d=>cases c with
   |catLd c=>exact .base .cc
   |catT c e=>
    have:=c.wid z u;have:=v.le;exact .base (.cd (.inl (by omega)))
 |cd h=>
  intro s i j m n p' g u v c d;cases u with|catR _ u=>cases c with|catRd c=>cases d with|catRd d=>exact .base (.cd h)
 |aa=>
  intro s i j m n p' g u v c d;cases c with|altLd c=>cases d with|altRd d=>exact .base .aa
 |im=>
  intro s i j m n p' g u v c d;cases u with|item u=>cases v with|more f _ v=>cases d with|mored d=>cases c with
   |itemd c=>exact .base .im
   |itemT c e=>
    have:=c.wid z u;have:=v.le;exact .base (.mm (.inl (by omega)))
 |mm h=>
  intro s i j m n p' g u v c d;cases c with|mored c=>cases d with|mored d=>exact .base (.mm h)
 |catL hh ih=>
  intro s i j m n p' g u v c d;cases u with|catL u=>cases v with|catL v=>cases c with
   |catLd c=>cases d with
    |catLd d=>exact(ih u v c d).lift .catL
    |catT d e=>exact .inU .cc
   |catT c e=>cases d with
    |catLd d=>exact .inD .cc
    |catT d e'=>
     have:=c.wid z u;have:=d.wid z v;exact .inB (.cd (.inr ⟨by omega,hh.close z u v c d⟩))
 |catR _ ih=>
  intro s i j m n p' g u v c d;cases u with|catR _ u=>cases v with|catR _ v=>cases c with|catRd c=>cases d with|catRd d=>exact(ih u v c d).lift .catR
 |altL _ ih=>
  intro s i j m n p' g u v c d;cases u with|altL u=>cases v with|altL v=>cases c with|altLd c=>cases d with|altLd d=>exact(ih u v c d).lift .altL
 |altR _ ih=>
  intro s i j m n p' g u v c d;cases u with|altR u=>cases v with|altR v=>cases c with|altRd c=>cases d with|altRd d=>exact(ih u v c d).lift .altR
 |item hh ih=>
  intro s i j m n p' g u v c d;cases u with|item u=>cases v with|item v=>cases c with
   |itemd c=>cases d with
    |itemd d=>exact(ih u v c d).lift .item
    |itemT d e=>exact .inU .im
   |itemT c e=>cases d with
    |itemd d=>exact .inD .im
    |itemT d e'=>
     have:=c.wid z u;have:=d.wid z v;exact .inB (.mm (.inr ⟨by omega,hh.close z u v c d⟩))
 |more _ ih=>
  intro s i j m n p' g u v c d;cases u with|more _ _ u=>cases v with|more _ _ v=>cases c with|mored c=>cases d with|mored d=>
   have:=ih u v c d;exact⟨fun a b=>.more (this.far a b),fun a b=>.more (this.up a b),fun a b=>.more (this.down a b),fun a b=>.more (this.both a b)⟩
 |one _ ih=>
  intro s i j m n p' g u v c d;cases u with
  |maybe u=>cases v with|maybe v=>cases c with|maybe c=>cases d with|maybe d=>exact(ih u v c d).lift .one
  |group u=>cases v with|group v=>cases c with|group c=>cases d with|group d=>exact(ih u v c d).lift .one
  |iter u=>cases v with|iter v=>cases c with|iter c=>cases d with|iter d=>exact(ih u v c d).lift .one
def Go.deep {E c:Tm->Pt->Prop}{s:Tm}{n:Nat}{p b:Pp}(h:Go c s n p b):∀{m:Nat} {p1:Pp},Go E s m p p1->n<m->Ah n p1 b:=by
 induction h with
 |catLd _ a=>intro m p1 g hl;cases g with
  |catLd g=>exact .catL (a g (by omega))
  |catT _ _=>omega
 |catT _ _=>intro m p1 g hl;cases g with
  |catLd g=>exact .cc
  |catT _ _=>omega
 |catRd _ a=>intro m p1 g hl;cases g with|catRd g=>exact .catR (a g (by omega))
 |altLd _ a=>intro m p1 g hl;cases g with|altLd g=>exact .altL (a g (by omega))
 |altRd _ a=>intro m p1 g hl;cases g with|altRd g=>exact .altR (a g (by omega))
 |itemd _ a=>intro m p1 g hl;cases g with
  |itemd g=>exact .item (a g (by omega))
  |itemT _ _=>omega
 |itemT _ _=>intro m p1 g hl;cases g with
  |itemd g=>exact .im
  |itemT _ _=>omega
 |mored _ a=>intro m p1 g hl;cases g with|mored g=>exact .more (a g hl)
 |maybe _ a=>intro m p1 g hl;cases g with|maybe g=>exact .one (a g (by omega))
 |group _ a=>intro m p1 g hl;cases g with|group g=>exact .one (a g (by omega))
 |iter _ a=>intro m p1 g hl;cases g with|iter g=>exact .one (a g (by omega))
def Y0:Tm->Pp->Nat
 |.cat a _,.catL p=>Y0 a p
 |.cat a b,.catR _ p=>a.leaves+Y0 b p
 |.alt a _,.altL p=>Y0 a p
 |.alt a b,.altR p=>a.leaves+Y0 b p
 |.star a,.item p=>Y0 a p
 |.star a,.more _ p=>Y0 (.star a) p
 |.maybe a,.one p=>Y0 a p
 |.group _ a,.one p=>Y0 a p
 |.iter a,.one p=>Y0 a p
 |_,_=>0
def En.plt {E:Tm->Pt->Prop}{s:Tm}{p:Pp}(h:En E s p):Y0 s p<s.leaves:=by
 induction h<;>simp only[Y0,Tm.leaves]at *<;>omega
def PU.plt {w:List Int}{s:Tm}{i j:Nat}{p:Pp}(h:PU w s i j p):Y0 s p<s.leaves:=by
 induction h<;>simp only[Y0,Tm.leaves]at *<;>omega
def En.first {s:Tm}{q:Pp}(h:En P3 s q):∀{p:Pp},En O5 s p->Y0 s p=Y0 s q->p=q\/∃k,Ah k p q:=by
 induction h with
 |leaf=>intro p g _;cases g;exact .inl rfl
 |catL h a=>intro p g hp;cases g with
  |catL g=>
   rcases a g hp with e|⟨k,e⟩
   ·exact .inl (by rw[e])
   ·exact .inr ⟨_,.catL e⟩
  |catR _ g=>have:=h.plt;simp only[Y0]at hp;omega
 |catR he h a=>intro p g hp;cases g with
  |catL g=>have:=g.plt;simp only[Y0]at hp;omega
  |catR e g=>
   obtain⟨b,rfl⟩:=e;simp only[Y0]at hp;rcases o0S he with e2|e2
   ·rw[e2];rcases a g (by omega)with e|⟨k,e⟩
    ·exact .inl (by rw[e])
    ·exact .inr ⟨_,.catR e⟩
   ·exact .inr ⟨_,.cd (.inr ⟨by rw[he.wid,(F9 he.can).wid],e2⟩)⟩
 |altL h a=>intro p g hp;cases g with
  |altL g=>
   rcases a g hp with e|⟨k,e⟩
   ·exact .inl (by rw[e])
   ·exact .inr ⟨_,.altL e⟩
  |altR g=>have:=h.plt;simp only[Y0]at hp;omega
 |altR h a=>intro p g hp;cases g with
  |altL g=>have:=g.plt;simp only[Y0]at hp;omega
  |altR g=>
   simp only[Y0]at hp;rcases a g (by omega)with e|⟨k,e⟩
   ·exact .inl (by rw[e])
   ·exact .inr ⟨_,.altR e⟩
 |item h a=>intro p g hp;cases g with|item g=>
   rcases a g hp with e|⟨k,e⟩
   ·exact .inl (by rw[e])
   ·exact .inr ⟨_,.item e⟩
 |maybe h a=>intro p g hp;cases g with|maybe g=>
   rcases a g hp with e|⟨k,e⟩
   ·exact .inl (by rw[e])
   ·exact .inr ⟨_,.one e⟩
 |group h a=>intro p g hp;cases g with|group g=>
   rcases a g hp with e|⟨k,e⟩
   ·exact .inl (by rw[e])
   ·exact .inr ⟨_,.one e⟩
 |iter h a=>intro p g hp;cases g with|iter g=>
   rcases a g hp with e|⟨k,e⟩
   ·exact .inl (by rw[e])
   ·exact .inr ⟨_,.one e⟩
def Cl.first {s:Tm}{p:Pp}{Q:Pt}(h:Cl P3 s p Q):∀{P:Pt},Cl O5 s p P->P.wid=Q.wid/\(P=Q\/PA P Q):=by
 induction h with
 |leaf=>intro P g;cases g;exact⟨rfl,.inl rfl⟩
 |catL h e b=>intro P g;cases g with|catL g e'=>
   obtain⟨c,rfl⟩:=e';obtain⟨h1,a⟩:=b g;refine⟨by simp only[Pt.wid];rw[h1,e.wid,(F9 c).wid],?_⟩;rcases a with a|a
   ·rw[a];rcases o0S e with e2|e2
    ·exact .inl (by rw[e2])
    ·exact .inr (.snd e2)
   ·exact .inr (.fst h1 a)
 |catR h b=>intro P g;cases g with|catR g=>
   obtain⟨h1,a⟩:=b g;refine⟨by simp only[Pt.wid];rw[h1],?_⟩;rcases a with a|a
   ·exact .inl (by rw[a])
   ·exact .inr (.snd a)
 |altL h b=>intro P g;cases g with|altL g=>
   obtain⟨h1,a⟩:=b g;refine⟨h1,?_⟩;rcases a with a|a
   ·exact .inl (by rw[a])
   ·exact .inr (.one a)
 |altR h b=>intro P g;cases g with|altR g=>
   obtain⟨h1,a⟩:=b g;refine⟨h1,?_⟩;rcases a with a|a
   ·exact .inl (by rw[a])
   ·exact .inr (.other a)
 |item h b=>intro P g;cases g with|item g=>
   obtain⟨h1,a⟩:=b g;refine⟨by simp only[Pt.wid];rw[h1],?_⟩;rcases a with a|a
   ·exact .inl (by rw[a])
   ·exact .inr (.fst h1 a)
 |more h b=>intro P g;cases g with|more g=>
   obtain⟨h1,a⟩:=b g;refine⟨by simp only[Pt.wid];rw[h1],?_⟩;rcases a with a|a
   ·exact .inl (by rw[a])
   ·exact .inr (.snd a)
 |maybe h b=>intro P g;cases g with|maybe g=>
   obtain⟨h1,a⟩:=b g;refine⟨h1,?_⟩;rcases a with a|a
   ·exact .inl (by rw[a])
   ·exact .inr (.one a)
 |group h b=>intro P g;cases g with|group g=>
   obtain⟨h1,a⟩:=b g;refine⟨h1,?_⟩;rcases a with a|a
   ·exact .inl (by rw[a])
   ·exact .inr (.one a)
 |iter h b=>intro P g;cases g with|iter g=>
   obtain⟨h1,a⟩:=b g;refine⟨h1,?_⟩;rcases a with a|a
   ·exact .inl (by rw[a])
   ·exact .inr (.one a)
def a05 {p q:Pp}{f:Pp->Pp}(a:∀{n:Nat} {p q:Pp},Ah n p q->∃m,Ah m (f p) (f q))(h:p=q\/∃k,Ah k p q):f p=f q\/∃k,Ah k (f p) (f q):=by
 rcases h with h|⟨k,h⟩
 ·exact .inl (by rw[h])
 ·exact .inr (a h)
def Go.first {s:Tm}{n:Nat}{p i:Pp}(h:Go P3 s n p i):∀{b:Pp},Go O5 s n p b->Y0 s b=Y0 s i->b=i\/∃k,Ah k b i:=by
 induction h with
 |catLd _ a=>intro b g hp;cases g with|catLd g=>exact a05 (fun h=>⟨_,.catL h⟩) (a g hp)
 |catT c e=>intro b g hp;cases g with|catT c' e'=>
   simp only[Y0]at hp;obtain⟨h1,d⟩:=c.first c'
   rcases d with d|d
   ·rw[d];exact a05 (fun h=>⟨_,.catR h⟩) (e.first e' (by omega))
   ·exact .inr ⟨_,.cd (.inr ⟨h1,d⟩)⟩
 |catRd _ a=>intro b g hp;cases g with|catRd g=>simp only[Y0]at hp;exact a05 (fun h=>⟨_,.catR h⟩) (a g (by omega))
 |altLd _ a=>intro b g hp;cases g with|altLd g=>exact a05 (fun h=>⟨_,.altL h⟩) (a g hp)
 |altRd _ a=>intro b g hp;cases g with|altRd g=>simp only[Y0]at hp;exact a05 (fun h=>⟨_,.altR h⟩) (a g (by omega))
 |itemd _ a=>intro b g hp;cases g with|itemd g=>exact a05 (fun h=>⟨_,.item h⟩) (a g hp)
 |itemT c e=>intro b g hp;cases g with|itemT c' e'=>
   obtain⟨h1,d⟩:=c.first c'
   rcases d with d|d
   ·rw[d];exact a05 (f:=fun p=>.more _ (.item p)) (fun h=>⟨_,.more (.item h)⟩) (e.first e' hp)
   ·exact .inr ⟨_,.mm (.inr ⟨h1,d⟩)⟩
 |mored _ a=>intro b g hp;cases g with|mored g=>exact a05 (fun h=>⟨_,.more h⟩) (a g hp)
 |maybe _ a=>intro b g hp;cases g with|maybe g=>exact a05 (fun h=>⟨_,.one h⟩) (a g hp)
 |group _ a=>intro b g hp;cases g with|group g=>exact a05 (fun h=>⟨_,.one h⟩) (a g hp)
 |iter _ a=>intro b g hp;cases g with|iter g=>exact a05 (fun h=>⟨_,.one h⟩) (a g hp)
def E1 (E:Tm->Pt->Prop):Prop:=∀s x,E s x->P3 s x
def e1E:E1 P3:=fun _ _ h=>h
def e1C:E1 O5:=fun _ _ h=>h.emp
def E1.z {E:Tm->Pt->Prop}(h:E1 E):Z0 E:=fun s x a=>(h s x a).wid
def En.pu {E:Tm->Pt->Prop}(e:E1 E){w:List Int}{s:Tm}{p:Pp}(h:En E s p):∀i,PU w s i i p:=by
 induction h with
 |leaf=>exact fun i=>.leaf
 |catL _ a=>exact fun i=>.catL (a i)
 |catR b _ a=>exact fun i=>.catR ((e _ _ b).fit w i) (by rw[(e _ _ b).wid];exact a i)
 |altL _ a=>exact fun i=>.altL (a i)
 |altR _ a=>exact fun i=>.altR (a i)
 |item _ a=>exact fun i=>.item (a i)
 |maybe _ a=>exact fun i=>.maybe (a i)
 |group _ a=>exact fun i=>.group (a i)
 |iter _ a=>exact fun i=>.iter (a i)
def Cl.fit {E:Tm->Pt->Prop}(e:E1 E){w:List Int}{s:Tm}{i j:Nat}{p:Pp}(h:PU w s i j p):∀{P:Pt},Rd w s j p->Cl E s p P->Fit w s i P:=by
 induction h with
 |leaf=>intro P r c;cases c;exact .leaf r.1 r.2
 |@catL a b i j p u d=>intro P r c;cases c with|catL c g=>
   exact .cat (d r c) ((e _ _ g).fit w _)
 |catR f u d=>intro P r c;cases c with|catR c=>exact .cat f (d r c)
 |altL _ d=>intro P r c;cases c with|altL c=>exact .altL (d r c)
 |altR _ d=>intro P r c;cases c with|altR c=>exact .altR (d r c)
 |item u d=>intro P r c;cases c with|item c=>exact .star (d r c) (c.pos e.z u) .star0
 |more f hp u d=>intro P r c;cases c with|more c=>exact .star f hp (d r c)
 |maybe u d=>intro P r c;cases c with|maybe c=>exact .maybe (d r c) (c.pos e.z u)
 |group _ d=>intro P r c;cases c with|group c=>exact .group (d r c)
 |iter _ d=>intro P r c;cases c with|iter c=>exact .iter (d r c)
def Go.pu {E:Tm->Pt->Prop}(e:E1 E){w:List Int}{s:Tm}{i j:Nat}{p:Pp}(h:PU w s i j p):∀{n:Nat} {p':Pp},Rd w s j p->Go E s n p p'->PU w s i (j+1) p':=by
 induction h with
 |leaf=>intro n p' r g;cases g
 |@catL a b i j p u d=>intro n p' r g;cases g with
  |catLd g=>exact .catL (d r g)
  |catT c q=>
   have hw:=c.wid e.z u;exact .catR (c.fit e u r) (by rw[hw];exact q.pu e _)
 |catR f u d=>intro n p' r g;cases g with|catRd g=>exact .catR f (d r g)
 |altL _ d=>intro n p' r g;cases g with|altLd g=>exact .altL (d r g)
 |altR _ d=>intro n p' r g;cases g with|altRd g=>exact .altR (d r g)
 |item u d=>intro n p' r g;cases g with
  |itemd g=>exact .item (d r g)
  |itemT c q=>
   have hw:=c.wid e.z u;exact .more (c.fit e u r) (c.pos e.z u) (by rw[hw];exact .item (q.pu e _))
 |more f hp u d=>intro n p' r g;cases g with|mored g=>exact .more f hp (d r g)
 |maybe u d=>intro n p' r g;cases g with|maybe g=>exact .maybe (d r g)
 |group _ d=>intro n p' r g;cases g with|group g=>exact .group (d r g)
 |iter _ d=>intro n p' r g;cases g with|iter g=>exact .iter (d r g)
def E0P {a:Tm}{r:Pt}(h:P3 (.star a) r):r=.nil:=by cases h;rfl
def Fit.through {w:List Int}{t:Tm}{R:Nat->Pp->Prop}(hR:∀j n p p',R j p->Go P3 t n p p'->Rd w t (j+1) p'->R (j+1) p'){s:Tm}{i:Nat}{P:Pt}(h:Fit w s i P):
  0<P.wid->∀C:Pp->Pp,(∀n p p',Go P3 s n p p'->∃m,Go P3 t m (C p) (C p'))->(∀p,b6 t (C p)=b6 s p)->(∀p,En P3 s p->Rd w s i p->R i (C p))->
   ∃Y j,R j (C Y)/\j+1=i+P.wid/\Cl P3 s Y P:=by
 induction h with
 |eps=>intro hp;simp[Pt.wid]at hp
 |leaf h1 q=>intro _ C d c l;exact⟨.leaf,_,l _ .leaf ⟨h1,q⟩,rfl,.leaf⟩
 |@cat a b i x y h1 q i1 i2=>
  intro hp C d c l;simp only[Pt.wid]at hp
  by_cases c1:x.wid=0
  ·have z:=h1.emp c1;obtain⟨Y,j,f,o,k⟩:=i2 (by omega) (fun p=>C (.catR x p)) (fun n p p' g=>d _ _ _ (.catRd g)) (fun p=>c _) (fun p e r=>by
    have:=l (.catR x p) (.catR z e);rw[c1,Nat.add_zero]at r ⊢;exact this r)
   exact⟨.catR x Y,j,f,by simp only[Pt.wid];omega,.catR k⟩
  ·obtain⟨Y,j,f,o,k⟩:=i1 (by omega) (fun p=>C (.catL p)) (fun n p p' g=>d _ _ _ (.catLd g)) (fun p=>c _) (fun p e r=>l _ (.catL e) r)
   by_cases c2:y.wid=0
   ·exact⟨.catL Y,j,f,by simp only[Pt.wid];omega,.catL k (q.emp c2)⟩
   ·obtain⟨I,u,v,z2,z3⟩:=i2 (by omega) (fun p=>C (.catR x p)) (fun n p p' g=>d _ _ _ (.catRd g)) (fun p=>c _) (fun p e r=>by
     obtain⟨m,hm⟩:=d _ _ _ (.catT k e);rw[<-o]at r ⊢;exact hR _ _ _ _ f hm ⟨r.1,by rw[c];exact r.2⟩)
    exact⟨.catR x I,u,v,by simp only[Pt.wid];omega,.catR z3⟩
 |altL _ ih=>
  intro hp C d c l;obtain⟨Y,j,f,o,k⟩:=ih hp (fun p=>C (.altL p)) (fun n p p' g=>d _ _ _ (.altLd g)) (fun p=>c _) (fun p e r=>l _ (.altL e) r);exact⟨.altL Y,j,f,o,.altL k⟩
 |altR _ ih=>
  intro hp C d c l;obtain⟨Y,j,f,o,k⟩:=ih hp (fun p=>C (.altR p)) (fun n p p' g=>d _ _ _ (.altRd g)) (fun p=>c _) (fun p e r=>l _ (.altR e) r);exact⟨.altR Y,j,f,o,.altR k⟩
 |star0=>intro hp;simp[Pt.wid]at hp
 |@star a i x r h1 z q i1 i2=>
  intro hp C d c l;obtain⟨Y,j,f,o,k⟩:=i1 z (fun p=>C (.item p)) (fun n p p' g=>d _ _ _ (.itemd g)) (fun p=>c _) (fun p e r=>l _ (.item e) r)
  by_cases c2:r.wid=0
  ·obtain rfl:=E0P (q.emp c2);exact⟨.item Y,j,f,by simp only[Pt.wid];omega,.item k⟩
  ·obtain⟨I,u,v,z2,z3⟩:=i2 (by omega) (fun p=>C (.more x p)) (fun n p p' g=>d _ _ _ (.mored g)) (fun p=>c _) (fun p e rd=>by
    cases e with|item e=>
    obtain⟨m,hm⟩:=d _ _ _ (.itemT k e);rw[<-o]at rd ⊢;exact hR _ _ _ _ f hm ⟨rd.1,by rw[c];exact rd.2⟩)
   exact⟨.more x I,u,v,by simp only[Pt.wid];omega,.more z3⟩
 |maybe0=>intro hp;simp[Pt.wid]at hp
 |maybe _ _ ih=>
  intro hp C d c l;obtain⟨Y,j,f,o,k⟩:=ih hp (fun p=>C (.one p)) (fun n p p' g=>d _ _ _ (.maybe g)) (fun p=>c _) (fun p e r=>l _ (.maybe e) r);exact⟨.one Y,j,f,o,.maybe k⟩
 |group _ ih=>
  intro hp C d c l;obtain⟨Y,j,f,o,k⟩:=ih hp (fun p=>C (.one p)) (fun n p p' g=>d _ _ _ (.group g)) (fun p=>c _) (fun p e r=>l _ (.group e) r);exact⟨.one Y,j,f,o,.group k⟩
 |iter _ ih=>
  intro hp C d c l;obtain⟨Y,j,f,o,k⟩:=ih hp (fun p=>C (.one p)) (fun n p p' g=>d _ _ _ (.iter g)) (fun p=>c _) (fun p e r=>l _ (.iter e) r);exact⟨.one Y,j,f,o,.iter k⟩
inductive Rch (w:List Int) (t:Tm):Nat->Nat->Pp->Prop
 |beg {i:Nat} {p:Pp}:En P3 t p->Rd w t i p->Rch w t i i p
 |step {i j n:Nat} {p p':Pp}:Rch w t i j p->Go P3 t n p p'->Rd w t (j+1) p'->Rch w t i (j+1) p'
def Rch.ok {w:List Int}{t:Tm}{i j:Nat}{p:Pp}(h:Rch w t i j p):PU w t i j p/\Rd w t j p:=by
 induction h with
 |beg e r=>exact⟨e.pu e1E _,r⟩
 |step _ g r a=>exact⟨g.pu e1E a.1 a.2,r⟩
def Fit.rch {w:List Int}{t:Tm}{i:Nat}{P:Pt}(h:Fit w t i P)(hp:0<P.wid):∃Y j,Rch w t i j Y/\j+1=i+P.wid/\Cl P3 t Y P:=
 h.through (R:=fun j p=>Rch w t i j p) (fun j n p p' h1 b a=>.step h1 b a) hp id (fun n p p' g=>⟨n,g⟩) (fun p=>rfl) (fun p e r=>.beg e r)
