/- P. Its conditions: none. -/
import Derived.Test.YtihmgaccbcfgjaaGreatRG38
open List (append_assoc singleton_append mem_filter mem_range mem_cons_of_mem mem_cons)
open Nat (zero_le zero_add lt_or_ge)
set_option linter.all false
namespace Go.Proofs.YtihmgaccbcfgjaaGreat
open Go.V Go.RowKit Old
def S7:Tm->Pp->List Fr
 |.cat a b,.catL p=>S7 a p++[.catL b]
 |.cat a b,.catR _ p=>S7 b p++[.catR a]
 |.alt a b,.altL p=>S7 a p++[.altL b]
 |.alt a b,.altR p=>S7 b p++[.altR a]
 |.star a,.item p=>S7 a p++[.star]
 |.star a,.more _ p=>S7 (.star a) p
 |.maybe a,.one p=>S7 a p++[.maybe]
 |.group m a,.one p=>S7 a p++[.group m]
 |.iter a,.one p=>S7 a p++[.iter]
 |_,_=>[]
def S4:Tm->Nat->Pp->Nat
 |.cat a _,lo,.catL p=>S4 a lo p
 |.cat a b,lo,.catR _ p=>S4 b (lo+a.size) p
 |.alt a _,lo,.altL p=>S4 a lo p
 |.alt a b,lo,.altR p=>S4 b (lo+a.size) p
 |.star a,lo,.item p=>S4 a lo p
 |.star a,lo,.more _ p=>S4 (.star a) lo p
 |.maybe a,lo,.one p=>S4 a lo p
 |.group _ a,lo,.one p=>S4 a lo p
 |.iter a,lo,.one p=>S4 a lo p
 |_,lo,_=>lo
theorem W0o {w:List Int}{s:Tm}{i j:Nat}{p:Pp}(u:PU w s i j p):∀(lo d:Nat) (fs:List Fr),
  V4 (S4 s lo p) (d+o3 s p) (.leaf (w9 s p)) [cls (S4 s lo p)] [] (S7 s p++fs)=if c7 s p then V4 lo d s (b7 s lo p) (A6 s lo d (fs.length+1) p) fs else(A6 s lo d (fs.length+1) p,[],false):=by
 induction u with
 |leaf=>simp[S4,o3,w9,S7,c7,b7,A6]
 |@catL a b i j p u g=>
  intro lo d fs;simp only[S4,o3,w9,S7,append_assoc,singleton_append];simp only[c7,A6,List.length_cons]
  by_cases c:c7 a p=true
  ·simp_all[V4,b7]
  grind
 |@catR a b i j x p f u g=>
  simp only[S4,o3,w9,S7,append_assoc,singleton_append]
  grind [c7,A6,b7,V4,Fr.off,Fr.W9,Fr.O2]
 |@altL a b i j p u g=>
  intro lo d fs;simp only[S4,o3,w9,S7,append_assoc,singleton_append];rw[g lo d (.altL b :: fs)];rfl
 |@altR a b i j p u g=>
  simp only[S4,o3,w9,S7,append_assoc,singleton_append]
  grind [c7,A6,b7,V4,Fr.off,Fr.W9,Fr.O2]
 |@item a i j p u g=>
  simp_all[S4,o3,w9,S7,c7,A6,b7,V4]
 |more f hp u g=>intro lo d fs;exact g lo d fs
 |@maybe a i j p u g=>
  intro lo d fs;simp only[S4,o3,w9,S7,append_assoc,singleton_append];rw[g lo d (.maybe :: fs)];rfl
 |@group m a i j p u g=>
  intro lo d fs;simp only[S4,o3,w9,S7,append_assoc,singleton_append];rw[g lo d (.group m :: fs)];rfl
 |@iter a i j p u g=>
  intro lo d fs;simp only[S4,o3,w9,S7,append_assoc,singleton_append];rw[g lo d (.iter :: fs)];rfl
def V0k {w:List Int}{t s:Tm}{i j:Nat}{p:Pp}(u:PU w s i j p):∀{lo:Nat} {fs:List Fr},Ctx t lo s fs->Ctx t (S4 s lo p) (.leaf (w9 s p)) (S7 s p++fs):=by
 induction u with
 |leaf=>intro lo fs h;exact h
 |catL _ c=>intro lo fs h;simp only[S7,append_assoc,singleton_append];exact c (fs:=.catL _ :: fs) ⟨zero_le _,h⟩
 |catR _ _ c=>intro lo fs h;simp only[S7,append_assoc,singleton_append];exact c (fs:=.catR _ :: fs) ⟨Nat.le_add_left _ _,by simp_all[Fr.off,Fr.O2]⟩
 |altL _ c=>intro lo fs h;simp only[S7,append_assoc,singleton_append];exact c (fs:=.altL _ :: fs) ⟨zero_le _,h⟩
 |altR _ c=>intro lo fs h;simp only[S7,append_assoc,singleton_append];exact c (fs:=.altR _ :: fs) ⟨Nat.le_add_left _ _,by simp_all[Fr.off,Fr.O2]⟩
 |item _ c=>intro lo fs h;simp only[S7,append_assoc,singleton_append];exact c (fs:=.star :: fs) ⟨zero_le _,h⟩
 |more _ _ _ c=>intro lo fs h;exact c h
 |maybe _ c=>intro lo fs h;simp only[S7,append_assoc,singleton_append];exact c (fs:=.maybe :: fs) ⟨zero_le _,h⟩
 |group _ c=>intro lo fs h;simp only[S7,append_assoc,singleton_append];exact c (fs:=.group _ :: fs) ⟨zero_le _,h⟩
 |iter _ c=>intro lo fs h;simp only[S7,append_assoc,singleton_append];exact c (fs:=.iter :: fs) ⟨zero_le _,h⟩
theorem U0R {w:List Int}{l:List C0}{s:Tm}{i j:Nat}{p:Pp}(u:PU w s i j p):∀{lo:Nat},At l lo s->N0 l (S4 s lo p)=N0 l lo+o3 s p/\At l (S4 s lo p) (.leaf (w9 s p)):=by
 induction u with
 |leaf=>intro lo h;exact⟨rfl,h⟩
 |catL _ c=>intro lo h;exact c ((At.bin rfl rfl).1 h).1
 |catR _ _ c=>
  intro lo h;obtain⟨h1,d,_⟩:=(At.bin rfl rfl).1 h;have:=c d;rw[a0R h1]at this;exact⟨by grind [S4,o3],this.2⟩
 |altL _ c=>intro lo h;exact c ((At.bin rfl rfl).1 h).1
 |altR _ c=>
  intro lo h;obtain⟨h1,d,_⟩:=(At.bin rfl rfl).1 h;have:=c d;rw[a0R h1]at this;exact⟨by grind [S4,o3],this.2⟩
 |item _ c=>intro lo h;exact c ((At.un rfl rfl).1 h).1
 |more _ _ _ c=>intro lo h;exact c h
 |maybe _ c=>intro lo h;exact c ((At.un rfl rfl).1 h).1
 |group _ c=>intro lo h;exact c ((At.un rfl rfl).1 h).1
 |iter _ c=>intro lo h;exact c ((At.un rfl rfl).1 h).1
def X0e {l:List C0}{t:Tm}(g:I4 l t){q:Nat}{S:List Int}{fs:List Fr}(f:Ctx t q (.leaf S) fs):d0u l t (N0 l q) q S fs:=by
 have c:=f.at_ g;have d:=c.V6;have hk:=c.N3;simp only[Tm.top,Tm.size,Nat.add_sub_cancel]at d hk;have h1:=a0R c;have p:=j00 l (show q+1<=l.length from O');simp only[Tm.size,Tm.leaves]at h1;obtain⟨k,o,h,j,i⟩:=e05 l l.length (N0 l q) O';have:=C0s l j (by rw[hk];rfl) i;subst this;exact⟨f,rfl,h⟩
section
variable {l:List C0}{n:Nat}{a:List B0}{b:Nat->List B0}{e:Nat->B0×Bool}{z:B0×Bool}{F:Nat}{t:Tm}{w:List Int}
def U0u (c:I4 l t):N0 l l.length=t.leaves:=by
 have h:=a0R c.at0;rw[zero_add,<-c.len]at h
 simp_all[N0]
def PU.place (c:I4 l t){i j:Nat}{p:Pp}(u:PU w t i j p):d0u l t (o3 t p) (S4 t 0 p) (w9 t p) (S7 t p):=by
 have h:=X0e c (V0k u (fs:=[]) ⟨rfl,rfl⟩);have d:=(U0R u c.at0).1;have f:N0 l 0=0:=rfl
 simp_all
theorem PU.ways (K:U3 l n a b e z F)(hw:∀x∈l,P2 x)(c:I4 l t){i j:Nat}{p:Pp}(u:PU w t i j p):
  b (o3 t p)=F7 B0.To (A6 t 0 0 1 p)/\e (o3 t p)=Z8 (if c7 t p then b7 t 0 p else[])/\o3 t p<n:=by
 have hp:=u.place c;have hl:o3 t p<N0 l l.length:=by rw[U0u c];exact u.plt
 have d:=W0o u 0 0 [];rw[zero_add,List.append_nil]at d;have f:r8 t (o3 t p) (S4 t 0 p) (w9 t p) (S7 t p)=if c7 t p then(A6 t 0 0 1 p,b7 t 0 p,true)else(A6 t 0 0 1 p,[],false):=by
  unfold r8;rw[d];rfl
 have f1:=K.f1;have h1:=(Old.D04 hw c K.hR (show 1000001<F from O') hp hl)
 have g:=(Old.A0e hw c K.hR (show 1000001<F from O') hp hl)
 rw[K.TF.mB _ (by rw[K.hn];exact hl)]at h1;rw[K.TF.mE _ (by rw[K.hn];exact hl)]at g;refine⟨?_,?_,by rw[K.hn];exact hl⟩
 ·grind
 grind
theorem T0H (K:U3 l n a b e z F)(hw:∀x∈l,P2 x)(d:I4 l t):a=t.Y0 0 0 []/\z=Z8 (if t.can then t.steps 0 else[]):=by
 have f1:=K.f1;have c:((t.top 0:Nat):Int)=(l.length:Int)-1:=by have:=t.size_pos;have:=d.len;grind [Tm.top]
 have h1:=(Old.A0f hw d K.hR (show 1000001<F from O') d.at0).1;have f:=(Old.u0E hw d K.hR (show 1000001<F from O')).1;rw[c,K.TF.mA]at h1;rw[K.TF.mZ]at f;exact⟨Option.some.inj h1,Option.some.inj f⟩
def PU.has (f:I4 l t){i j:Nat}{p:Pp}(u:PU w t i j p)(c:Int):s7 l c (o3 t p)=hasB (w9 t p) c:=by
 have hp:=u.place f;have d:=(U0R u f.at0).2;have hg:=d.N3;simp only[Tm.top,Tm.size,Nat.add_sub_cancel]at hg;unfold s7;rw[X2 hp.get,hg];rfl
end
def Cl.all {s:Tm}{p:Pp}{P:Pt}(h:Cl b9 s p P):Cl b6 s p P:=by
 induction h with
 |leaf=>exact .leaf
 |catL _ e c=>exact .catL c e.emp
 |catR _ c=>exact .catR c
 |altL _ c=>exact .altL c
 |altR _ c=>exact .altR c
 |item _ c=>exact .item c
 |more _ c=>exact .more c
 |maybe _ c=>exact .maybe c
 |group _ c=>exact .group c
 |iter _ c=>exact .iter c
def Go.all {s:Tm}{n:Nat}{p q:Pp}(h:Go b9 s n p q):Go b6 s n p q:=by
 have en:∀{s:Tm} {p:Pp},En b9 s p->En b6 s p:=by
  intro s p h
  induction h with
  |leaf=>exact .leaf
  |catL _ d=>exact .catL d
  |catR e _ d=>exact .catR e.emp d
  |altL _ d=>exact .altL d
  |altR _ d=>exact .altR d
  |item _ d=>exact .item d
  |maybe _ d=>exact .maybe d
  |group _ d=>exact .group d
  |iter _ d=>exact .iter d
 induction h with
 |catLd _ d=>exact .catLd d
 |catT c e=>exact .catT c.all (en e)
 |catRd _ d=>exact .catRd d
 |altLd _ d=>exact .altLd d
 |altRd _ d=>exact .altRd d
 |itemd _ d=>exact .itemd d
 |itemT c e=>exact .itemT c.all (en e)
 |mored _ d=>exact .mored d
 |maybe _ d=>exact .maybe d
 |group _ d=>exact .group d
 |iter _ d=>exact .iter d
theorem PU.rng {w:List Int}{s:Tm}{i j:Nat}{p:Pp}(u:PU w s i j p):∀lo,lo<=S4 s lo p/\S4 s lo p<lo+s.size:=by
 induction u with
 |leaf=>simp[S4,Tm.size]
 |catL _ c=>grind [S4,Tm.size]
 |@catR a b i j x p _ _ c=>grind [S4,Tm.size]
 |altL _ c=>grind [S4,Tm.size]
 |@altR a b i j p _ c=>grind [S4,Tm.size]
 |item _ c=>grind [S4,Tm.size]
 |more _ _ _ c=>intro lo;exact c lo
 |maybe _ c=>grind [S4,Tm.size]
 |group _ c=>grind [S4,Tm.size]
 |iter _ c=>grind [S4,Tm.size]
def Q0J (l:List C0)(D:List Int)(k:Nat)(s:Tm)(lo:Nat)(p q:Pp):Prop:=
 ∃d r,Ah d p q/\r<l.length/\J6 l (S4 s lo p) (S4 s lo q) r=true/\(∀r',r'<r->J6 l (S4 s lo p) (S4 s lo q) r'=false)/\gt D (r:Int)=((k+d:Nat):Int)
def Q0J.lift {l:List C0}{D:List Int}{k:Nat}{s f:Tm}{lo lo':Nat}{p q p' c:Pp}(h:Q0J l D (k+1) s lo p q)(hp:S4 f lo' p'=S4 s lo p)(i:S4 f lo' c=S4 s lo q)(ha:∀d,Ah d p q->Ah (d+1) p' c):Q0J l D k f lo' p' c:=by
 obtain⟨d,r,h1,g,o,j,u⟩:=h;exact⟨d+1,r,ha d h1,g,by simp_all,by simp_all,O'⟩
theorem U04 {l:List C0}(hR:L2 l=true){D:List Int}{k lo:Nat}{s a b:Tm}{p q p' d:Pp}{w:List Int}{i j v o:Nat}(hs:s.size=a.size+b.size+1)(c:At l lo s)(ha:At l lo a)(x:At l (lo+a.size) b)(I:gt D (s.top lo:Int)=(k:Int))
  (up:PU w a i j p) (u:PU w b v o q) (hp:S4 s lo p'=S4 a lo p) (y:S4 s lo d=S4 b (lo+a.size) q) (g:Ah 0 p' d):Q0J l D k s lo p' d:=by
 have r1:=up.rng lo;have r2:=u.rng (lo+a.size);have f:=g0v hR c;have e:s.top lo=lo+a.size+b.size:=by grind [Tm.top]
 refine⟨0,s.top lo,g,c.V6,?_,fun r' r=>?_,O'⟩
 ·grind [d0o]
 ·have:¬J6 l (S4 a lo p) (S4 b (lo+a.size) q) r'=true:=fun h=>by
   obtain⟨p1,J,C,R⟩:=d0o.1 h;have:=t0P hR x (q:=r') O' O';omega
  simp_all
theorem T0B {l:List C0}(hR:L2 l=true){D:List Int}{s:Tm}{p:Pp}(h:En b9 s p):∀{q:Pp} {lo k:Nat},En b9 s q->o3 s p<o3 s q->At l lo s->B8 D lo k s->Q0J l D k s lo p q:=by
 induction h with
 |leaf=>simp[o3]
 |@catL a b p h ih=>
  intro q lo k g hl c hd;obtain⟨ha,f,_⟩:=(At.bin (t:=.cat a b) rfl rfl).1 c;cases g with
  |catL g=>exact(ih g hl ha hd.2.1).lift rfl rfl (fun d h=>.catL h)
  |catR e g=>exact U04 hR (w:=[]) rfl c ha f hd.1 (h.pu e1C 0) (g.pu e1C 0) rfl rfl .cc
 |@catR a b x p e h ih=>
  intro q lo k g hl c hd;obtain⟨ha,f,_⟩:=(At.bin (t:=.cat a b) rfl rfl).1 c;cases g with
  |catL g=>have:=g.plt;grind [o3]
  |catR e' g=>
   obtain⟨_,rfl⟩:=e;obtain⟨_,rfl⟩:=e';simp only[o3]at hl;exact(ih g O' f hd.2.2).lift rfl rfl (fun d h=>.catR h)
 |@altL a b p h ih=>
  intro q lo k g hl c hd;obtain⟨ha,f,_⟩:=(At.bin (t:=.alt a b) rfl rfl).1 c;cases g with
  |altL g=>exact(ih g hl ha hd.2.1).lift rfl rfl (fun d h=>.altL h)
  |altR g=>exact U04 hR (w:=[]) rfl c ha f hd.1 (h.pu e1C 0) (g.pu e1C 0) rfl rfl .aa
 |@altR a b p h ih=>
  intro q lo k g hl c hd;obtain⟨ha,f,_⟩:=(At.bin (t:=.alt a b) rfl rfl).1 c;cases g with
  |altL g=>have:=g.plt;grind [o3]
  |altR g=>
   simp only[o3]at hl;exact(ih g O' f hd.2.2).lift rfl rfl (fun d h=>.altR h)
 |item h ih=>
  intro q lo k g hl c hd;cases g with|item g=>exact(ih g hl ((At.un rfl rfl).1 c).1 hd.2).lift rfl rfl (fun d h=>.item h)
 |maybe h ih=>
  intro q lo k g hl c hd;cases g with|maybe g=>exact(ih g hl ((At.un rfl rfl).1 c).1 hd.2).lift rfl rfl (fun d h=>.one h)
 |group h ih=>
  intro q lo k g hl c hd;cases g with|group g=>exact(ih g hl ((At.un rfl rfl).1 c).1 hd.2).lift rfl rfl (fun d h=>.one h)
 |iter h ih=>
  intro q lo k g hl c hd;cases g with|iter g=>exact(ih g hl ((At.un rfl rfl).1 c).1 hd.2).lift rfl rfl (fun d h=>.one h)
theorem Cl.det {s:Tm}{p:Pp}{P:Pt}(h:Cl b9 s p P):∀{Q:Pt},Cl b9 s p Q->P=Q:=by
 induction h with
 |leaf=>intro Q g;cases g;rfl
 |catL _ e c=>intro Q g;cases g with|catL g e'=>obtain⟨_,rfl⟩:=e;obtain⟨_,rfl⟩:=e';grind
 |catR _ c=>intro Q g;cases g with|catR g=>grind
 |altL _ c=>intro Q g;cases g with|altL g=>grind
 |altR _ c=>intro Q g;cases g with|altR g=>grind
 |item _ c=>intro Q g;cases g with|item g=>grind
 |more _ c=>intro Q g;cases g with|more g=>grind
 |maybe _ c=>intro Q g;cases g with|maybe g=>grind
 |group _ c=>intro Q g;cases g with|group g=>grind
 |iter _ c=>intro Q g;cases g with|iter g=>grind
def V0g {l:List C0}(hR:L2 l=true){D:List Int}{s:Tm}{n:Nat}{x p:Pp}(h:Go b9 s n x p):∀{q:Pp} {lo k:Nat},Go b9 s n x q->o3 s p<o3 s q->At l lo s->B8 D lo k s->Q0J l D k s lo p q:=by
 induction h with
 |catLd h ih=>
  intro q lo k g hl f hd;cases g with|catLd g=>exact(ih g hl ((At.bin rfl rfl).1 f).1 hd.2.1).lift rfl rfl (fun d h=>.catL h)
 |catT c e=>
  intro q lo k g hl f hd;cases g with|catT c' e'=>
  obtain rfl:=c.det c';simp only[o3]at hl;exact(T0B hR e e' O' ((At.bin rfl rfl).1 f).2.1 hd.2.2).lift rfl rfl (fun d h=>.catR h)
 |catRd h ih=>
  intro q lo k g hl f hd;cases g with|catRd g=>
  simp only[o3]at hl;exact(ih g O' ((At.bin rfl rfl).1 f).2.1 hd.2.2).lift rfl rfl (fun d h=>.catR h)
 |altLd h ih=>
  intro q lo k g hl f hd;cases g with|altLd g=>exact(ih g hl ((At.bin rfl rfl).1 f).1 hd.2.1).lift rfl rfl (fun d h=>.altL h)
 |altRd h ih=>
  intro q lo k g hl f hd;cases g with|altRd g=>
  simp only[o3]at hl;exact(ih g O' ((At.bin rfl rfl).1 f).2.1 hd.2.2).lift rfl rfl (fun d h=>.altR h)
 |itemd h ih=>
  intro q lo k g hl f hd;cases g with|itemd g=>exact(ih g hl ((At.un rfl rfl).1 f).1 hd.2).lift rfl rfl (fun d h=>.item h)
 |itemT c e=>
  intro q lo k g hl f hd;cases g with|itemT c' e'=>
  obtain rfl:=c.det c';exact(T0B hR e e' hl ((At.un rfl rfl).1 f).1 hd.2).lift rfl rfl (fun d h=>.more (.item h))
 |mored h ih=>
  intro q lo k g hl f hd;cases g with|mored g=>
  obtain⟨d,r,h1,j,o,i,u⟩:=ih g hl f hd;exact⟨d,r,.more h1,j,o,i,u⟩
 |maybe h ih=>
  intro q lo k g hl f hd;cases g with|maybe g=>exact(ih g hl ((At.un rfl rfl).1 f).1 hd.2).lift rfl rfl (fun d h=>.one h)
 |group h ih=>
  intro q lo k g hl f hd;cases g with|group g=>exact(ih g hl ((At.un rfl rfl).1 f).1 hd.2).lift rfl rfl (fun d h=>.one h)
 |iter h ih=>
  intro q lo k g hl f hd;cases g with|iter g=>exact(ih g hl ((At.un rfl rfl).1 f).1 hd.2).lift rfl rfl (fun d h=>.one h)
def Wy (t:Tm)(o:Option Pp)(T:Int)(p:Pp):Prop:=match o with
 |none=>T=0/\En b9 t p
 |some x=>∃n:Nat,T=n+1/\Go b9 t n x p
def K0q (g h:Nat×Pp)(f c:Int):Prop:=(g.1<h.1/\f=0/\c=0)\/(g.1=h.1/\∃d:Nat,Ah d g.2 h.2/\c=d+2/\(d:Int)+2<=f)
section
variable {l:List C0}{t:Tm}{w:List Int}
def X0o (c:I4 l t)(hR:L2 l=true){o:Option Pp}{T:Int}{p q:Pp}(h:Wy t o T p)(g:Wy t o T q)(hl:o3 t p<o3 t q):Q0J l (a0Y l) 1 t 0 p q:=by
 have hd:=(u0T c hR).deep;cases o with
 |none=>exact T0B hR h.2 g.2 hl c.at0 hd
 |some x=>
  obtain⟨n,h1,d⟩:=h;obtain⟨m,g1,g2⟩:=g;have:n=m:=O'
  subst this;exact V0g hR d g2 hl c.at0 hd
theorem V0v (f:I4 l t)(hR:L2 l=true){i C v i2 j2:Nat}{o:Option Pp}{x y:B0}{p q:Pp}(g:Wy t o x.Turn p)(c:Wy t o y.Turn q)(up:PU w t C v p)(J:PU w t i2 j2 q)(R:x.To=(o3 t p:Int))(ty:y.To=(o3 t q:Int))(h:x.To≠y.To)(k:(X8 l x y).2.2=1):
  K0q (i,p) (i,q) (X8 l x y).1 (X8 l y x).1:=by
 have U:=p0I l x y h;rw[U];refine .inr ⟨rfl,?_⟩;unfold X8 at k ⊢
 by_cases c1:x.Turn>y.Turn
 ·rw[if_pos c1];cases o with
  |none=>have:=g.1;have:=c.1;omega
  |some u=>
   obtain⟨m,h1,j⟩:=g;obtain⟨n,g1,g2⟩:=c;exact⟨n,g2.deep j O',by grind,O'⟩
 ·by_cases c2:x.Turn<y.Turn
  ·simp_all
  ·have I:x.Turn=y.Turn:=O'
   by_cases c3:x.To>y.To
   ·simp_all
   ·rw[<-I]at c;obtain⟨d,r,h1,j,h3,h4,h5⟩:=X0o f hR g c O';have g1:=up.place f;have g2:=J.place f;have e1:gt (G2 l l.length) x.To=((S4 t 0 p:Nat):Int):=by rw[R];exact X2 g1.get
    have e2:gt (G2 l l.length) y.To=((S4 t 0 q:Nat):Int):=by rw[ty];exact X2 g2.get
    grind [b0s,Int.toNat_natCast,z0c]
theorem U0L {g h:Nat×Option Pp}{i c f Ty:Int}{p q:Pp}(U:(g.1<h.1/\i=0/\c=0)\/(g.1=h.1/\∃u v,g.2=some u/\h.2=some v/\∃d:Nat,Ah d u v/\c=d+2/\(d:Int)+2<=i))(y:Wy t g.2 f p)(C:Wy t h.2 Ty q){j:Nat}(I:∀u,g.2=some u->PU w t g.1 j u)(uh:∀u,h.2=some u->PU w t h.1 j u)
  (tx:0<=f/\f<=400) (ty:0<=Ty/\Ty<=400):
  (a0B c Ty<=a0B i f->K0q (g.1,p) (h.1,q) (a0B i f) (a0B c Ty))/\(a0B i f<a0B c Ty->K0q (h.1,q) (g.1,p) (a0B c Ty) (a0B i f)):=by
 have w1:W (f+1)=f+1:=E3 O' O';have w2:W (Ty+1)=Ty+1:=E3 O' O';rcases U with⟨h1,rfl,rfl⟩|⟨h1,u,v,e1,e2,d,h2,rfl,h3⟩
 ·have o:a0B 0 f=0:=by unfold a0B;omega
  have k:a0B 0 Ty=0:=by unfold a0B;omega
  rw[o,k];exact⟨fun _=>.inl ⟨h1,rfl,rfl⟩,fun h=>O'⟩
 ·rw[e1]at y;rw[e2]at C;obtain⟨m,R,x⟩:=y;obtain⟨n,J,r⟩:=C;have M:=h2.move zC (I u e1) (by simp_all) x r;have o:a0B i f=if(m:Int)+2<i then(m:Int)+2 else i:=by grind [a0B]
  have k:a0B ((d:Int)+2) Ty=if n<d then(n:Int)+2 else(d:Int)+2:=by
   unfold a0B;omega
  rw[o,k]
  by_cases c1:n<d
  ·rw[if_pos c1];rcases Nat.lt_trichotomy n m with c2|c2|c2
   ·refine⟨fun _=>.inr ⟨h1,n,M.up c1 c2,rfl,?_⟩,fun h=>?_⟩
    ·omega
    omega
   ·subst c2;refine⟨fun _=>.inr ⟨h1,n,M.both rfl c1,rfl,?_⟩,fun h=>?_⟩
    ·omega
    omega
   ·refine⟨fun h=>?_,fun _=>.inr ⟨h1.symm,m,M.down O' c2,?_,O'⟩⟩
    ·omega
    omega
  ·rw[if_neg c1];rcases lt_or_ge m d with c2|c2
   ·refine⟨fun h=>?_,fun _=>.inr ⟨h1.symm,m,M.down c2 O',?_,O'⟩⟩
    ·omega
    omega
   ·refine⟨fun _=>.inr ⟨h1,d,M.far c2 O',rfl,?_⟩,fun h=>?_⟩
    ·omega
    omega
end
end Go.Proofs.YtihmgaccbcfgjaaGreat
namespace Go.Proofs.YtihmgaccbcfgjaaGreat
open Go.V Go.RowKit Old Go.X
def L00 {S ρ:Type}{body:S->Option (Q0 S ρ)}(n:Nat)(g:Nat->S)(res:ρ)(hs:∀i,i<n->body (g i)=some (.next (g (i+1))))(he:body (g n)=some (.done res)){fu:Nat}(h:n<fu):iter body fu (g 0)=some res:=by
 have key:∀(k i fu:Nat),i+k=n->k<fu->iter body fu (g i)=some res:=by
  intro k
  induction k with
  |zero=>
   intro i fu hi c;obtain⟨fu,rfl⟩:∃m,fu=m+1:=⟨fu-1,O'⟩
   unfold iter;rw[show i=n from O',he]
  |succ k ih=>
   intro i fu hi c;obtain⟨fu,rfl⟩:∃m,fu=m+1:=⟨fu-1,O'⟩
   unfold iter;rw[hs i O'];exact ih (i+1) fu O' O'
 exact key n 0 fu O' h
def Q0g {ρ:Type}{body:Int->Option (Q0 Int ρ)}(n:Nat)(res:ρ)(hs:∀i:Nat,i<n->body (i:Int)=some (.next ((i+1:Nat):Int)))(he:body (n:Int)=some (.done res)){fu:Nat}(h:n<fu):iter body fu 0=some res:=
 L00 n (fun i=>(i:Int)) res hs he h
def f0e (a b:Int):g0p:=if a<0\/b<0 then⟨-1,-1⟩else⟨a,b⟩
def b0u (tags:List Int)(to:Int):Nat->List g0p
 |0=>[f0e (gt tags 0) to]
 |k+1=>b0u tags to k++[f0e (gt tags ((2*k+1:Nat):Int)) (gt tags ((2*k+2:Nat):Int))]
def f02 (tags:List Int)(to:Int):List g0p:=if tags.length % 2=0 then[]else b0u tags to (tags.length / 2)
def K0v (tags:List Int)(to:Int):∀k,(b0u tags to k).length=k+1
 |0=>rfl
 |k+1=>by simp[b0u,K0v tags to k]
def L0z (n:Nat):Int.tmod (n:Int) 2=((n % 2:Nat):Int):=rfl
def P0H {tags:List Int}{to:Int}{fuel:Nat}(hl:tags.length<=1000)(I:2000<fuel):K0H fuel tags to=some (f02 tags to):=by
 unfold K0H f02;rw[L0z]
 by_cases c:tags.length % 2=0
 ·simp[c]
 have c':(((tags.length % 2:Nat):Int)==0)=false:=by rw[beq_eq_false_iff_ne];omega
 rw[if_neg c];simp only[c',Bool.false_eq_true,if_false];have r:tags.length % 2=1:=O'
 have h:=L00 (body:=J0D fuel tags to) (fu:=fuel) tags.length (fun i=>((if i=0 then[]else b0u tags to (i / 2)),(i:Int))) (b0u tags to (tags.length / 2)) (fun i hi=>by
  have p:y0 tags (i:Int)=true:=V0 O' O';have hd:(i:Int)<(tags.length:Int):=O'
  unfold J0D;simp only[q0,hd,p,X1 (show i<=1000000000 from O'),L0z,Nat.succ_ne_zero]
  by_cases q:i=0
  ·subst q;have u:¬((0:Nat):Int)>0:=O'
   by_cases f:gt tags 0<0
   ·simp[f,b0u,f0e,B4]
   ·by_cases k:to<0
    ·simp[f,k,b0u,f0e,B4]
    ·simp[f,k,b0u,f0e,B4]
  ·have u:(i:Int)>0:=O'
   simp only[q0,u,q]
   by_cases c2:i % 2=0
   ·have d:(((i % 2:Nat):Int)==0)=true:=by simp[c2]
    have o:(i+1) / 2=i / 2:=O'
    simp only[d,if_true,G0,o]
   ·have d:(((i % 2:Nat):Int)==0)=false:=by rw[beq_eq_false_iff_ne];omega
    have j:y0 tags ((i+1:Nat):Int)=true:=V0 O' O';have o:(i+1) / 2=i / 2+1:=O'
    have v:2*(i / 2)+1=i:=O'
    have x:2*(i / 2)+2=i+1:=O'
    have g:∀y,K0 16 (b0u tags to (i / 2)) [y]=true:=fun y=>B4 (by rw[K0v];simp;omega);simp only[q0,d,j,o,b0u,v,x]
    by_cases f:gt tags (i:Int)<0
    ·simp[f,f0e,g]
    ·by_cases k:gt tags ((i+1:Nat):Int)<0
     ·simp only[q0,f,k,g,f0e,or_true]
     ·simp only[q0,f,k,g,f0e,or_self]) (by
  unfold J0D;have:¬tags.length=0:=O'
  simp[this]) O'
 have C:iter (J0D fuel tags to) fuel (([]:List g0p),0)=some (b0u tags to (tags.length / 2)):=h;rw[C];rfl
def M0N {a b:Int}{fuel:Nat}:K0K fuel a b=some (f0e a b):=by
 unfold K0K f0e
 by_cases c:a<0
 ·simp[c]
 ·by_cases d:b<0
  ·simp[c,d]
  ·simp[c,d]
def P0J {tags:List Int}{to:Int}{fuel:Nat}(hl:tags.length<=1000)(j:2000<fuel):L0K fuel tags to=some (f02 tags to):=by
 unfold L0K f02;rw[L0z]
 by_cases c:tags.length % 2=0
 ·simp[c]
 have c':(((tags.length % 2:Nat):Int)==0)=false:=by rw[beq_eq_false_iff_ne];omega
 have f:y0 tags 0=true:=V0 O' O';rw[if_neg c];simp only[q0,c',f,M0N];have h:=L00 (body:=J0p fuel tags) (fu:=fuel) (tags.length / 2) (fun k=>(b0u tags to k,((2*k+1:Nat):Int))) (b0u tags to (tags.length / 2)) (fun k hk=>by
  have g:y0 tags ((2*k+1:Nat):Int)=true:=V0 O' O';have d:y0 tags ((2*k+1+1:Nat):Int)=true:=V0 O' O';have hd:((2*k+1+1:Nat):Int)<(tags.length:Int):=O'
  have e:W (((2*k+1:Nat):Int)+2)=((2*(k+1)+1:Nat):Int):=by rw[E3 O' O'];omega
  unfold J0p;simp only[q0,X1 (show 2*k+1<=1000000000 from O'),hd,g,d,M0N,e];rw[if_pos (B4 (by rw[K0v];simp;omega))];rfl) (by
  have hd:¬((2*(tags.length / 2)+1+1:Nat):Int)<(tags.length:Int):=O'
  unfold J0p;simp only[q0,X1 (show 2*(tags.length / 2)+1<=1000000000 from O'),hd]) O'
 have i:iter (J0p fuel tags) fuel ([f0e (gt tags 0) to],1)=some (b0u tags to (tags.length / 2)):=h;rw[i];rfl
def N0X (tags:List Int)(to:Int)(h:tags.length<=1000):(f02 tags to).length<=1000:=by
 unfold f02;split
 ·simp
 ·rw[K0v];omega
def M0o {a:List g0p}{fuel:Nat}(hl:a.length<=1000)(d:2000<fuel):y04 fuel a a=some true:=by
 unfold y04;have h:=Q0g (body:=K0w fuel a a) (fu:=fuel) a.length (.inr ()) (fun i hi=>by
  have c:y0 a (i:Int)=true:=V0 O' O';have hd:(i:Int)<(a.length:Int):=O'
  unfold K0w;simp[hd,c,X1 (show i<=1000000000 from O')]) (by unfold K0w;simp) O'
 simp[h]
structure Cs where
 at_:Int
 work:Int
 pl:List Nat
 vals:List (List Int)
 fB:Nat->Nat->Int
 fD:Nat->Nat->Int
def Cs.zero:Cs:=⟨0,0,[],[],fun _ _=>0,fun _ _=>0⟩
def Cs.step (l:List C0)(n:Nat)(a:List B0)(b:Nat->List B0)(s:Cs)(b_:Int)(E0:Bool):Cs:=
 ⟨s.at_+1,s.work+stW l n a b s.pl b_ E0,Z3 l n a b s.pl b_ E0,(Z3 l n a b s.pl b_ E0).map (stV l a b s.at_ s.pl s.vals s.fB s.fD E0),
  u6 l (F5 s.pl E0 s.fB) ((Z3 l n a b s.pl b_ E0).map (T5 a b s.pl s.fB s.fD E0)) ((Z3 l n a b s.pl b_ E0).map (V5 a b s.pl s.fB s.fD E0)),
  Q6 l (F5 s.pl E0 s.fB) (a6 s.pl E0 s.fD) ((Z3 l n a b s.pl b_ E0).map (T5 a b s.pl s.fB s.fD E0)) ((Z3 l n a b s.pl b_ E0).map (V5 a b s.pl s.fB s.fD E0))⟩
def Cs.L0 (s:Cs)(from_:Int):Cs:=
 let st:=A0v s.vals from_ s.pl.length
 ⟨s.at_,s.work,st.map fun i=>s.pl.getD i 0,st.map fun i:Nat=>gt s.vals (i:Int),fun i k=>s.fB (st.getD i 0) (st.getD k 0),fun i k=>s.fD (st.getD i 0) (st.getD k 0)⟩
section
variable (l:List C0)(n:Nat)(a:List B0)(b:Nat->List B0)(e:Nat->B0×Bool)(z:B0×Bool)
def Cs.P6 (s:Cs):List Int×Bool:=B0o l e s.at_ s.pl s.vals s.fD
end
structure w04 (l:List C0)(n:Nat)(s:Cs)(i:Nat):Prop where
 ok:R3 l n s.pl s.vals s.fB s.fD
 a0:s.at_=i
 w0:0<=s.work
 w1:s.work<=1000000*i
section
variable {F:Nat}{l:List C0}{n:Nat}{a:List B0}{b:Nat->List B0}{e:Nat->B0×Bool}{z:B0×Bool}
def U0z (l:List C0)(n:Nat):w04 l n Cs.zero 0:=⟨B0r l n,rfl,Int.le_refl _,by show(0:Int)<=_;omega⟩
def S0Q (K:U3 l n a b e z F)(hw:∀x∈l,P2 x){s:Cs}{i:Nat}(h:w04 l n s i)(b_:Int)(E0:Bool):w04 l n (s.step l n a b b_ E0) (i+1):=by
 have d:=h.a0;have h1:=h.w0;have f:=h.w1;have c:=W0w K h.ok b_ E0;refine⟨C0W K h.ok hw b_ E0,?_,?_,?_⟩
 ·show s.at_+1=_;omega
 ·show 0<=s.work+_;omega
 ·show s.work+_<=_;omega
def R08 (l:List C0)(n:Nat)(a:List B0)(b:Nat->List B0)(w:List Int):Nat->Cs
 |0=>Cs.zero
 |i+1=>(R08 l n a b w i).step l n a b (gt w (i:Int)) (i==0)
end
def LT (g h:Nat×Pp):Prop:=g.1<h.1\/(g.1=h.1/\∃d,Ah d g.2 h.2)
def LE (g h:Nat×Pp):Prop:=g.1<h.1\/(g.1=h.1/\(g.2=h.2\/∃d,Ah d g.2 h.2))
def LT.trans {g h k:Nat×Pp}(a:LT g h)(b:LT h k):LT g k:=by
 rcases a with a|⟨a,d,a'⟩<;>rcases b with b|⟨b,e,b'⟩
 ·exact .inl O'
 ·exact .inl O'
 ·exact .inl O'
 ·exact .inr ⟨O',a'.trans b'⟩
theorem LT.le {g h k:Nat×Pp}(a:LT g h)(b:LE h k):LE g k:=by
 rcases a with a|⟨a,d,a'⟩<;>rcases b with b|⟨b,b'⟩
 ·exact .inl O'
 ·exact .inl O'
 ·exact .inl O'
 ·refine .inr ⟨O',.inr ?_⟩;rcases b' with b'|⟨e,b'⟩
  ·grind
  ·exact a'.trans b'
def K0q.lt {g h:Nat×Pp}{b c:Int}(r:K0q g h b c):LT g h:=by
 rcases r with⟨h1,_⟩|⟨h1,d,h2,_⟩
 ·exact .inl h1
 ·exact .inr ⟨h1,d,h2⟩
theorem W02 {fB fD:Nat->Nat->Int}{fr:List Nat}{hops:List B0}{N:Nat->Nat×Pp}{len:Nat}
  (h1:∀i k,i<len->k<len->i≠k->0<n9 fB fD (fr.getD i 0) (fr.getD k 0) (gt hops (i:Int)) (gt hops (k:Int))->LT (N i) (N k))
  (r:∀i k,i<len->k<len->i≠k->¬0<n9 fB fD (fr.getD i 0) (fr.getD k 0) (gt hops (i:Int)) (gt hops (k:Int))->LT (N k) (N i)):
  ∀k,k<=len->∀j:Nat,c00 fB fD fr hops k=(j:Int)->∀i,i<k->i=j\/LT (N j) (N i):=by
 intro k
 induction k with
 |zero=>omega
 |succ k ih=>
  intro hk j g i hi;rw[n0n]at g;unfold f0E at g;rcases v03 fB fD fr hops k with e|⟨d,e,hj0⟩
  ·have p:k=0:=by
    rcases Nat.eq_zero_or_pos k with h|h
    ·exact h
    ·obtain⟨q,e',_⟩:=D03 (fB:=fB) (fD:=fD) (fr:=fr) (hops:=hops) k h;omega
   omega
  ·rw[e,if_neg O',Int.toNat_natCast]at g;have f:=ih O' d e
   by_cases c:0<n9 fB fD (fr.getD k 0) (fr.getD d 0) (gt hops (k:Int)) (gt hops (d:Int))
   ·have:k=j:=O'
    subst this;have o:=h1 k d O' O' O' c;rcases lt_or_ge i k with c2|c2
    ·rcases f i c2 with h|h
     ·simp_all
     ·exact .inr (o.trans h)
    omega
   ·have:d=j:=O'
    grind
def fwd (t:Tm)(g:Nat×Pp):List (Nat×Int):=(g.1,E1 (t.top 0)) :: S5 t 0 g.1 g.2
def b0Q (l:List C0)(v:List Int)(evs:List (Nat×Int)):List Int:=evs.foldl (fun v e=>Z9 (e.1:Int) (-1) v (a7 l [e.2])) v
def u0B (l:List C0)(v:List Int)(a b:List (Nat×Int)):b0Q l v (a++b)=b0Q l (b0Q l v a) b:=List.foldl_append ..
def S0Y (l:List C0)(k:Nat):∀(st:List Int) (v:List Int),b0Q l v (tm k st)=Z9 (k:Int) (-1) v (a7 l st)
 |[],v=>rfl
 |x :: st,v=>by
  have h:=S0Y l k st (Z9 (k:Int) (-1) v (a7 l [x]));have e:a7 l (x :: st)=a7 l [x]++a7 l st:=by simp[a7]
  rw[e];unfold Z9 at h ⊢;rw[List.foldl_append];exact h
def T0A (l:List C0)(t:Tm)(g:Nat×Pp):List Int:=b0Q l (k0o l (g.1:Int)) (fwd t g)
structure CrI (w:List Int)(l:List C0)(n:Nat)(t:Tm)(m:Nat)(s:Cs)(G:Nat->Nat×Pp)(A B:Nat->Prop):Prop where
 st0:∀k,k<s.pl.length->A (G k).1
 at_:s.at_=m
 ok:R3 l n s.pl s.vals s.fB s.fD
 run:∀k,k<s.pl.length->∃j,m=j+1/\PU w t (G k).1 j (G k).2/\Rd w t j (G k).2/\s.pl.getD k 0=o3 t (G k).2/\gt s.vals (k:Int)=T0A l t (G k)
 rel:∀k k',k<s.pl.length->k'<s.pl.length->s.fD k k'=1->K0q (G k) (G k') (s.fB k k') (s.fB k' k)
 cov:∀i j Y,m=j+1->B i->Rch w t i j Y->∃k,k<s.pl.length/\s.pl.getD k 0=o3 t Y/\LE (G k) (i,Y)
theorem CrI.zero (w:List Int)(l:List C0)(n:Nat)(t:Tm)(G:Nat->Nat×Pp)(A B:Nat->Prop):CrI w l n t 0 Cs.zero G A B where
 st0 k h:=by grind [Cs.zero]
 at_:=rfl
 ok:=B0r l n
 run k h:=by grind [Cs.zero]
 rel k k' h:=by simp[Cs.zero]
 cov i j Y h:=O'
theorem CrI.less {w:List Int}{l:List C0}{n:Nat}{t:Tm}{m:Nat}{s:Cs}{G:Nat->Nat×Pp}{A B B':Nat->Prop}(h:CrI w l n t m s G A B)(d:∀i,B' i->B i):CrI w l n t m s G A B':=⟨h.st0,h.at_,h.ok,h.run,h.rel,fun i j Y a b c=>h.cov i j Y a (d i b) c⟩
section
variable {F:Nat}{l:List C0}{n:Nat}{a:List B0}{b:Nat->List B0}{e:Nat->B0×Bool}{z:B0×Bool}{t:Tm}{w:List Int}{m:Nat}{s:Cs}{G:Nat->Nat×Pp}{A B:Nat->Prop}
def o5 (m c:Nat)(G:Nat->Nat×Pp)(q:Nat):Nat×Option Pp:=if q<c then((G q).1,some (G q).2)else(m,none)
def fwo (t:Tm):Nat×Option Pp->List (Nat×Int)
 |(_,none)=>[]
 |(i,some p)=>fwd t (i,p)
theorem S0k {pl:List Nat}{E0:Bool}{q:Nat}(h:q<(Z1 a b pl E0).length):(q<pl.length/\(Z1 a b pl E0).getD q []=b (pl.getD q 0))\/(q=pl.length/\E0=true/\(Z1 a b pl E0).getD q []=a):=by
 have hl:=d0B a b pl E0;unfold C5 at hl;rcases lt_or_ge q pl.length with c|c
 ·simp_all[Z1]
 ·cases E0 with
  |false=>grind
  |true=>
   simp only[if_true]at hl;have:q=pl.length:=O'
   subst this;simp[Z1]
def CrI.way (I:CrI w l n t m s G A B)(K:U3 l n a b e z F)(hw:∀x∈l,P2 x)(g:I4 l t){E0:Bool}{q:Nat}(i:q<(Z1 a b s.pl E0).length){h:B0}(d:h∈(Z1 a b s.pl E0).getD q []):
  ∃p',Wy t (o5 m s.pl.length G q).2 h.Turn p'/\h.To=(o3 t p':Int)/\PU w t (o5 m s.pl.length G q).1 m p'/\fwd t ((o5 m s.pl.length G q).1,p')=fwo t (o5 m s.pl.length G q)++tm m h.Steps:=by
 rcases S0k i with⟨c,f⟩|⟨c,_,f⟩
 ·rw[f]at d;obtain⟨j,o,u,r,hp,_⟩:=I.run q c;obtain⟨y,_,_⟩:=u.ways K hw g;rw[hp,y]at d;obtain⟨k,p',g1,g2,g3,g4⟩:=T0o u ((c0T B0.To _).mem_iff.1 d);unfold o5;rw[if_pos c,o];refine⟨p',⟨k,O',g1⟩,O',g1.pu e1C u r,?_⟩
  simp_all[fwd,fwo]
 ·rw[f,(T0H K hw g).1]at d;obtain⟨p,h1,v⟩:=S09 d;unfold o5;rw[if_neg O'];have hn:=S01 h1 0 m;exact⟨p,⟨by rw[v],h1⟩,by simp_all,h1.pu e1C m,by simp_all[fwd,fwo]⟩
theorem CrI.src (I:CrI w l n t m s G A B){E0:Bool}{q f:Nat}(i:q<C5 s.pl E0)(g:f<C5 s.pl E0)(k:q≠f)(h:a6 s.pl E0 s.fD q f=1):
  ((o5 m s.pl.length G q).1<(o5 m s.pl.length G f).1/\F5 s.pl E0 s.fB q f=0/\F5 s.pl E0 s.fB f q=0)\/
  ((o5 m s.pl.length G q).1=(o5 m s.pl.length G f).1/\∃u v,(o5 m s.pl.length G q).2=some u/\(o5 m s.pl.length G f).2=some v/\∃d:Nat,Ah d u v/\F5 s.pl E0 s.fB f q=d+2/\(d:Int)+2<=F5 s.pl E0 s.fB q f):=by
 have old:q<s.pl.length->f<s.pl.length->s.fD q f=1->((o5 m s.pl.length G q).1<(o5 m s.pl.length G f).1/\s.fB q f=0/\s.fB f q=0)\/
  ((o5 m s.pl.length G q).1=(o5 m s.pl.length G f).1/\∃u v,(o5 m s.pl.length G q).2=some u/\(o5 m s.pl.length G f).2=some v/\∃d:Nat,Ah d u v/\s.fB f q=d+2/\(d:Int)+2<=s.fB q f):=fun c c' hd=>by
  unfold o5;rw[if_pos c,if_pos c'];rcases I.rel q f c c' hd with⟨h1,p,o⟩|⟨h1,d,p,o,h4⟩
  ·omega
  grind
 cases E0 with
 |false=>exact old i g h
 |true=>
  simp only[C5,if_true]at i g;simp only[F5,a6,if_true]at h ⊢
  by_cases c:q<s.pl.length
  ·by_cases c':f<s.pl.length
   ·simp_all[e0R,g0x]
   ·obtain⟨j,r,u,_⟩:=I.run q c;have:=u.le;refine .inl ⟨?_,if_neg O',if_neg O'⟩;unfold o5
    grind
  ·unfold e0R at h;omega
theorem CrI.ag (I:CrI w l n t m s G A B){E0:Bool}{q f:Nat}(o:q<C5 s.pl E0)(g:f<C5 s.pl E0)(i:q≠f){x y:B0}{p p':Pp}(C:Wy t (o5 m s.pl.length G q).2 x.Turn p)(U:Wy t (o5 m s.pl.length G f).2 y.Turn p')
  (tx:0<=x.Turn/\x.Turn<=400) (ty:0<=y.Turn/\y.Turn<=400) (r:n9 (F5 s.pl E0 s.fB) (a6 s.pl E0 s.fD) q f x y=1):
  K0q ((o5 m s.pl.length G q).1,p) ((o5 m s.pl.length G f).1,p') (a0B (F5 s.pl E0 s.fB q f) x.Turn) (a0B (F5 s.pl E0 s.fB f q) y.Turn):=by
 have k:=l0W I.ok E0;have h:∀q,∃j,∀u,(o5 m s.pl.length G q).2=some u->m=j+1/\PU w t (o5 m s.pl.length G q).1 j u:=fun q=>by
  by_cases c:q<s.pl.length
  ·obtain⟨j,hj,u,_⟩:=I.run q c
   simp_all[o5]
  simp_all[o5,if_neg]
 obtain⟨j1,s1⟩:=h q;obtain⟨j2,s2⟩:=h f;have main:∀{j:Nat},(∀u,(o5 m s.pl.length G q).2=some u->PU w t (o5 m s.pl.length G q).1 j u)->(∀u,(o5 m s.pl.length G f).2=some u->PU w t (o5 m s.pl.length G f).1 j u)->K0q ((o5 m s.pl.length G q).1,p) ((o5 m s.pl.length G f).1,p') (a0B (F5 s.pl E0 s.fB q f) x.Turn) (a0B (F5 s.pl E0 s.fB f q) y.Turn):=by
  intro j v J;unfold n9 at r;rcases k.d1 q f o g i with d|d
  ·have R:=U0L (I.src o g i d) C U v J tx ty
   grind
  ·have d':a6 s.pl E0 s.fD f q=1:=by rw[k.dn q f o g,d];rfl
   have R:=U0L (I.src g o (Ne.symm i) d') U C J v ty tx
   simp_all
 rcases Nat.eq_zero_or_pos m with h0|h0
 ·simp_all
 ·refine main (j:=m-1) (fun u hu=>?_) (fun u hu=>?_)
  ·grind
  grind
end
section
variable {F:Nat}{l:List C0}{n:Nat}{a:List B0}{b:Nat->List B0}{e:Nat->B0×Bool}{z:B0×Bool}{t:Tm}{w:List Int}{m:Nat}{s:Cs}{G:Nat->Nat×Pp}{A B:Nat->Prop}
theorem T0W {n:Nat}{ws:List B0}(hd:K8 n ws){h:B0}(f:h∈ws){r:Nat}(d:h.To=(r:Int)):F8 ws r=some h:=by
 cases c:F8 ws r with
 |none=>
  simp_all[F8]
 |some x=>
  have h1:=List.mem_of_find?_eq_some c;have g:x.To=(r:Int):=by simpa using List.find?_some c
  by_cases e:x=h
  ·rw[e]
  ·have hp:=hd.dist;have:∀{ws:List B0},ws.Pairwise (fun a b=>a.To≠b.To)->x∈ws->h∈ws->False:=by
    intro ws
    induction ws with
    |nil=>simp
    |cons y r ih=>
     grind [List.pairwise_cons]
   simp_all
def U03 {xs:List Nat}(h:xs.Nodup){i k:Nat}(hi:i<xs.length)(hk:k<xs.length)(e:xs.getD i 0=xs.getD k 0):i=k:=by
 simp_all[List.getElem_inj]
def U0E {xs:List Nat}(f:Nat->Nat){k:Nat}(h:k<xs.length):(xs.map f).getD k 0=f (xs.getD k 0):=by
 simp_all
def T0C {β:Type}[Inhabited β]{xs:List Nat}(f:Nat->β){k:Nat}(h:k<xs.length):gt (xs.map f) (k:Int)=f (xs.getD k 0):=
 X2 (by simp_all)
theorem Rch.inv {i j:Nat}{Y:Pp}(h:Rch w t i j Y):(i=j/\En b6 t Y)\/∃c k p,j=c+1/\Rch w t i c p/\Go b6 t k p Y:=by
 cases h with
 |E0 e _=>simp_all
 |step h g _=>grind
def V0O (Ws:List (List B0))(r k:Nat):(T3 Ws r k).Nodup:=List.Pairwise.filter _ List.nodup_range
def V0I {Ws:List (List B0)}{r k i:Nat}(h:i<(T3 Ws r k).length):gt (l7 Ws r k) (i:Int)=c02 (Ws.getD ((T3 Ws r k).getD i 0) []) r:=by
 simp_all[X2,l7]
theorem X0B {fB fD:Nat->Nat->Int}{Ws:List (List B0)}{r M:Nat}{N:Nat->Nat×Pp}(g:a0y M fB fD)(c:∀q,q∈T3 Ws r Ws.length->q<M)
  (j:∀q o,q∈T3 Ws r Ws.length->o∈T3 Ws r Ws.length->q≠o->n9 fB fD q o (c02 (Ws.getD q []) r) (c02 (Ws.getD o []) r)=1->LT (N q) (N o)) {q:Nat} (x:q∈T3 Ws r Ws.length):LE (N (e0Z fB fD Ws r)) (N q):=by
 have hn:T3 Ws r Ws.length≠[]:=fun h=>by simp_all
 obtain⟨u,v⟩:=l0V (fB:=fB) (fD:=fD) hn;have hH:=fun i (hi:i<(T3 Ws r Ws.length).length)=>V0I hi;unfold e0Z;have hd:=V0O Ws r Ws.length;generalize l7 Ws r Ws.length=H at *;generalize T3 Ws r Ws.length=C at *;have el:∀i,i<C.length->C.getD i 0∈C:=fun i hi=>by
  simp_all
 have ne:∀i k,i<C.length->k<C.length->i≠k->C.getD i 0≠C.getD k 0:=fun i k hi hk h f=>h (U03 hd hi hk f);obtain⟨i,hi,rfl⟩:∃i,i<C.length/\C.getD i 0=q:=by
  grind [List.getElem_of_mem]
 have:=W02 (fB:=fB) (fD:=fD) (fr:=C) (hops:=H) (len:=C.length) (N:=fun i=>N (C.getD i 0)) (fun i k hi hk d h=>?_) (fun i k hi hk d h=>?_) _ (Nat.le_refl _) _ u i hi
 ·rcases this with h|h
  ·exact .inr ⟨by rw[h],.inl (by rw[h])⟩
  ·rcases h with h|⟨h,f⟩
   ·exact .inl h
   ·exact .inr ⟨h,.inr f⟩
 ·rw[hH i hi,hH k hk]at h;refine j _ _ (el i hi) (el k hk) (ne i k hi hk d) ?_;rcases F0E (fB:=fB) (fD:=fD) (p:=c02 (Ws.getD (C.getD i 0) []) r) (q:=c02 (Ws.getD (C.getD k 0) []) r) (g.d1 _ _ (c _ (el i hi)) (c _ (el k hk)) (ne i k hi hk d))with f|f
  ·exact f
  ·omega
 ·rw[hH i hi,hH k hk]at h;refine j _ _ (el k hk) (el i hi) (ne k i hk hi (Ne.symm d)) ?_;rw[B0P (g.dn _ _ (c _ (el i hi)) (c _ (el k hk)))];rcases F0E (fB:=fB) (fD:=fD) (p:=c02 (Ws.getD (C.getD i 0) []) r) (q:=c02 (Ws.getD (C.getD k 0) []) r) (g.d1 _ _ (c _ (el i hi)) (c _ (el k hk)) (ne i k hi hk d))with f|f
  ·omega
  ·rw[f];rfl
theorem CrI.news (I:CrI w l n t m s G A B)(K:U3 l n a b e z F)(hw:∀x∈l,P2 x)(g:I4 l t)(E0:Bool):∃f:Nat->Nat->Pp,∀q r,q<(Z1 a b s.pl E0).length->(F8 ((Z1 a b s.pl E0).getD q []) r).isSome=true->
  Wy t (o5 m s.pl.length G q).2 (c02 ((Z1 a b s.pl E0).getD q []) r).Turn (f q r)/\r=o3 t (f q r)/\PU w t (o5 m s.pl.length G q).1 m (f q r)/\fwd t ((o5 m s.pl.length G q).1,f q r)=fwo t (o5 m s.pl.length G q)++tm m (c02 ((Z1 a b s.pl E0).getD q []) r).Steps/\
  (c02 ((Z1 a b s.pl E0).getD q []) r)∈(Z1 a b s.pl E0).getD q []:=by
 have:∀q r,∃p,q<(Z1 a b s.pl E0).length->(F8 ((Z1 a b s.pl E0).getD q []) r).isSome=true->
  Wy t (o5 m s.pl.length G q).2 (c02 ((Z1 a b s.pl E0).getD q []) r).Turn p/\r=o3 t p/\PU w t (o5 m s.pl.length G q).1 m p/\fwd t ((o5 m s.pl.length G q).1,p)=fwo t (o5 m s.pl.length G q)++tm m (c02 ((Z1 a b s.pl E0).getD q []) r).Steps/\
  (c02 ((Z1 a b s.pl E0).getD q []) r)∈(Z1 a b s.pl E0).getD q []:=fun q r=>by
  by_cases c:q<(Z1 a b s.pl E0).length/\(F8 ((Z1 a b s.pl E0).getD q []) r).isSome=true
  ·obtain⟨h1,d⟩:=H0K c.2;obtain⟨p,p1,i,h,j⟩:=I.way K hw g c.1 h1
   grind
  ·exact⟨.leaf,fun h1 d=>absurd ⟨h1,d⟩ c⟩
 exact⟨fun q r=>Classical.choose (this q r),fun q r=>Classical.choose_spec (this q r)⟩
theorem CrI.step (I:CrI w l n t m s G A B)(K:U3 l n a b e z F)(hw:∀x∈l,P2 x)(ht:I4 l t)(hm:m<w.length)(E0:Bool){A' B':Nat->Prop}(hA:∀i,A i->A' i)(k8:E0=true->A' m)(hB:∀i,i<m->B' i->B i)(j3:B' m->E0=true):
  ∃G',CrI w l n t (m+1) (s.step l n a b (gt w (m:Int)) E0) G' A' B':=by
 obtain⟨f,hf⟩:=I.news K hw ht E0;have b1:=d0B a b s.pl E0;have hC:=C0W (at_:=s.at_) K I.ok hw (gt w (m:Int)) E0;have c5:=l0d K I.ok E0;have c8:∀r,r∈Z3 l n a b s.pl (gt w (m:Int)) E0->T3 (Z1 a b s.pl E0) r (Z1 a b s.pl E0).length≠[]:=fun r hr=>(c09 hr).2;have C:∀q r,q∈T3 (Z1 a b s.pl E0) r (Z1 a b s.pl E0).length->q<(Z1 a b s.pl E0).length/\(F8 ((Z1 a b s.pl E0).getD q []) r).isSome=true:=fun q r h=>⟨w0x h,(mem_filter.1 h).2⟩
 have b2:∀{q:Nat} {h:B0},q<(Z1 a b s.pl E0).length->h∈(Z1 a b s.pl E0).getD q []->0<=h.Turn/\h.Turn<=400:=fun hq hh=>by
  have:=(c5 _ hq).2.2.1 _ hh;exact⟨this.t0,this.t1⟩
 have P6:∀r q,q∈T3 (Z1 a b s.pl E0) r (Z1 a b s.pl E0).length->
   LE ((o5 m s.pl.length G (T5 a b s.pl s.fB s.fD E0 r)).1,f (T5 a b s.pl s.fB s.fD E0 r) r) ((o5 m s.pl.length G q).1,f q r):=fun r q hq=>
  X0B (N:=fun q=>((o5 m s.pl.length G q).1,f q r)) (l0W I.ok E0) (fun q h=>Nat.lt_of_lt_of_eq (C _ _ h).1 b1) (fun q q' h h' c8 k1=>by
   obtain⟨i1,i2⟩:=C _ _ h;obtain⟨j1,j2⟩:=C _ _ h';have x:=hf _ r i1 i2;have y:=hf _ r j1 j2;exact(I.ag (Nat.lt_of_lt_of_eq i1 b1) (Nat.lt_of_lt_of_eq j1 b1) c8 x.1 y.1 (b2 i1 x.2.2.2.2) (b2 j1 y.2.2.2.2) k1).lt) hq
 refine⟨fun k=>((o5 m s.pl.length G (T5 a b s.pl s.fB s.fD E0 ((Z3 l n a b s.pl (gt w (m:Int)) E0).getD k 0))).1,f (T5 a b s.pl s.fB s.fD E0 ((Z3 l n a b s.pl (gt w (m:Int)) E0).getD k 0)) ((Z3 l n a b s.pl (gt w (m:Int)) E0).getD k 0)),?_⟩;have R:∀k,k<(Z3 l n a b s.pl (gt w (m:Int)) E0).length->(Z3 l n a b s.pl (gt w (m:Int)) E0).getD k 0∈Z3 l n a b s.pl (gt w (m:Int)) E0:=fun k hk=>by
  simp_all
 have hS:∀r,r∈Z3 l n a b s.pl (gt w (m:Int)) E0->T5 a b s.pl s.fB s.fD E0 r<(Z1 a b s.pl E0).length/\(F8 ((Z1 a b s.pl E0).getD (T5 a b s.pl s.fB s.fD E0 r) []) r).isSome=true:=fun r hr=>C _ _ (v0c (c8 r hr));have v:∀k,k<(Z3 l n a b s.pl (gt w (m:Int)) E0).length->((Z3 l n a b s.pl (gt w (m:Int)) E0).map (T5 a b s.pl s.fB s.fD E0)).getD k 0=T5 a b s.pl s.fB s.fD E0 ((Z3 l n a b s.pl (gt w (m:Int)) E0).getD k 0):=fun k hk=>U0E _ hk;have J:∀k,k<(Z3 l n a b s.pl (gt w (m:Int)) E0).length->gt ((Z3 l n a b s.pl (gt w (m:Int)) E0).map (V5 a b s.pl s.fB s.fD E0)) (k:Int)=V5 a b s.pl s.fB s.fD E0 ((Z3 l n a b s.pl (gt w (m:Int)) E0).getD k 0):=fun k hk=>T0C _ hk;refine⟨fun k hk=>?_,by show s.at_+1=_;rw[I.at_];omega,hC,fun k hk=>?_,fun k k' hk c3 hD=>?_,fun i j Y hj e9 hY=>?_⟩
 ·obtain⟨s1,_⟩:=hS _ (R k hk);simp only;rcases S0k s1 with⟨c,_⟩|⟨c,hb,_⟩
  ·unfold o5;rw[if_pos c];exact hA _ (I.st0 _ c)
  ·unfold o5;grind
 ·-- each run
  obtain⟨s1,s2⟩:=hS _ (R k hk);obtain⟨f1,f2,f3,f4,f5⟩:=hf _ _ s1 s2;have e7:=D0w (R k hk);refine⟨m,rfl,f3,⟨hm,?_⟩,f2,?_⟩
  ·have h1:=PU.has ht f3 (gt w (m:Int));rw[<-f2]at h1;rw[<-h1];exact e7.1
  ·have e1:gt ((Z3 l n a b s.pl (gt w (m:Int)) E0).map (stV l a b s.at_ s.pl s.vals s.fB s.fD E0)) (k:Int)=stV l a b s.at_ s.pl s.vals s.fB s.fD E0 ((Z3 l n a b s.pl (gt w (m:Int)) E0).getD k 0):=T0C _ hk;refine e1.trans ?_;unfold stV T0A;rw[f4,u0B,S0Y,I.at_];have e3:V5 a b s.pl s.fB s.fD E0 ((Z3 l n a b s.pl (gt w (m:Int)) E0).getD k 0)=c02 ((Z1 a b s.pl E0).getD (T5 a b s.pl s.fB s.fD E0 ((Z3 l n a b s.pl (gt w (m:Int)) E0).getD k 0)) []) ((Z3 l n a b s.pl (gt w (m:Int)) E0).getD k 0):=rfl;rw[e3];congr 1;generalize T5 a b s.pl s.fB s.fD E0 ((Z3 l n a b s.pl (gt w (m:Int)) E0).getD k 0)=q at *;rcases S0k s1 with⟨c,_⟩|⟨c,hb,_⟩
   ·obtain⟨j,hj,_,_,_,hv⟩:=I.run q c;have e4:o5 m s.pl.length G q=((G q).1,some (G q).2):=if_pos c;rw[e4];have e5:gt (goV l (m:Int) s.vals E0) (q:Int)=gt s.vals (q:Int):=b0Y O' (by rw[I.ok.len];omega);rw[e5,hv];rfl
   ·have e4:o5 m s.pl.length G q=(m,none):=if_neg O';rw[e4];have e5:gt (goV l (m:Int) s.vals E0) (q:Int)=k0o l (m:Int):=by
     subst hb;exact e0v (by rw[I.ok.len,c])
    rw[e5];rfl
 ·-- which one is ahead
  have b4:k<(Z3 l n a b s.pl (gt w (m:Int)) E0).length:=hk;have a1:k'<(Z3 l n a b s.pl (gt w (m:Int)) E0).length:=c3;have b3:k≠k':=fun h=>by
   subst h;have:=hC.rk.dd k hk;have e:(s.step l n a b (gt w (m:Int)) E0).fD k k=0:=this;rw[e]at hD;omega
  obtain⟨s1,s2⟩:=hS _ (R k hk);obtain⟨e2,c6⟩:=hS _ (R k' c3);have x:=hf _ _ s1 s2;have y:=hf _ _ e2 c6;have k6:(Z3 l n a b s.pl (gt w (m:Int)) E0).getD k 0≠(Z3 l n a b s.pl (gt w (m:Int)) E0).getD k' 0:=fun h=>b3 (U03 ((r0g _ _ _).imp fun h=>Nat.ne_of_lt h) hk c3 h);have U:Q6 l (F5 s.pl E0 s.fB) (a6 s.pl E0 s.fD) ((Z3 l n a b s.pl (gt w (m:Int)) E0).map (T5 a b s.pl s.fB s.fD E0)) ((Z3 l n a b s.pl (gt w (m:Int)) E0).map (V5 a b s.pl s.fB s.fD E0)) k k'=1:=hD;show K0q _ _ (u6 l (F5 s.pl E0 s.fB) ((Z3 l n a b s.pl (gt w (m:Int)) E0).map (T5 a b s.pl s.fB s.fD E0)) ((Z3 l n a b s.pl (gt w (m:Int)) E0).map (V5 a b s.pl s.fB s.fD E0)) k k') (u6 l (F5 s.pl E0 s.fB) ((Z3 l n a b s.pl (gt w (m:Int)) E0).map (T5 a b s.pl s.fB s.fD E0)) ((Z3 l n a b s.pl (gt w (m:Int)) E0).map (V5 a b s.pl s.fB s.fD E0)) k' k);unfold Q6 at U;unfold u6;rw[if_neg b3,v k b4,v k' a1,J k b4,J k' a1]at U;rw[if_neg b3,if_neg (Ne.symm b3),v k b4,v k' a1,J k b4,J k' a1];generalize (Z3 l n a b s.pl (gt w (m:Int)) E0).getD k 0=r at *;generalize (Z3 l n a b s.pl (gt w (m:Int)) E0).getD k' 0=r' at *;have ex:V5 a b s.pl s.fB s.fD E0 r=c02 ((Z1 a b s.pl E0).getD (T5 a b s.pl s.fB s.fD E0 r) []) r:=rfl;have ey:V5 a b s.pl s.fB s.fD E0 r'=c02 ((Z1 a b s.pl E0).getD (T5 a b s.pl s.fB s.fD E0 r') []) r':=rfl;rw[ex,ey]at U ⊢;have tx:=(H0K s2).2;have ty:=(H0K c6).2
  by_cases o:T5 a b s.pl s.fB s.fD E0 r=T5 a b s.pl s.fB s.fD E0 r'
  ·rw[if_pos o]at U;rw[if_pos o,if_pos o.symm];rw[<-o]at y U c6 ty ⊢;exact V0v ht K.hR x.1 y.1 x.2.2.1 y.2.2.1 (by rw[tx,<-x.2.1]) (by rw[ty,<-y.2.1]) (by rw[tx,ty];omega) U
  ·rw[if_neg o]at U;rw[if_neg o,if_neg (Ne.symm o)];exact I.ag (by rw[<-b1];exact s1) (by rw[<-b1];exact e2) o x.1 y.1 (b2 s1 x.2.2.2.2) (b2 e2 y.2.2.2.2) U
 ·-- all that come
  have h7:j=m:=O'
  subst h7;obtain⟨uY,rY⟩:=hY.ok;have k2:s7 l (gt w (j:Int)) (o3 t Y)=true:=by rw[PU.has ht uY];exact rY.2
  have k3:o3 t Y<n:=by rw[K.hn,U0u ht];exact uY.plt
  have fin:∀q,q<(Z1 a b s.pl E0).length->(F8 ((Z1 a b s.pl E0).getD q []) (o3 t Y)).isSome=true->LE ((o5 j s.pl.length G q).1,f q (o3 t Y)) (i,Y)->
    ∃k,k<(Z3 l n a b s.pl (gt w (j:Int)) E0).length/\(Z3 l n a b s.pl (gt w (j:Int)) E0).getD k 0=o3 t Y/\LE ((o5 j s.pl.length G (T5 a b s.pl s.fB s.fD E0 ((Z3 l n a b s.pl (gt w (j:Int)) E0).getD k 0))).1,f (T5 a b s.pl s.fB s.fD E0 ((Z3 l n a b s.pl (gt w (j:Int)) E0).getD k 0)) ((Z3 l n a b s.pl (gt w (j:Int)) E0).getD k 0)) (i,Y):=by
   intro q q1 q2 q3;have e6:q∈T3 (Z1 a b s.pl E0) (o3 t Y) (Z1 a b s.pl E0).length:=mem_filter.2 ⟨mem_range.2 q1,q2⟩;have hn:T3 (Z1 a b s.pl E0) (o3 t Y) (Z1 a b s.pl E0).length≠[]:=fun h=>by rw[h]at e6;simp at e6
   have c0:o3 t Y∈Z3 l n a b s.pl (gt w (j:Int)) E0:=by
    refine mem_filter.2 ⟨mem_range.2 k3,?_⟩;have hi:(T3 (Z1 a b s.pl E0) (o3 t Y) (Z1 a b s.pl E0).length).isEmpty=false:=by
     cases c:T3 (Z1 a b s.pl E0) (o3 t Y) (Z1 a b s.pl E0).length with
     |nil=>exact absurd c hn
     |cons _ _=>rfl
    rw[k2,hi];rfl
   obtain⟨k,hk,ek⟩:=List.getElem_of_mem c0;have h6:(Z3 l n a b s.pl (gt w (j:Int)) E0).getD k 0=o3 t Y:=by simp only[List.getD,List.getElem?_eq_getElem hk,Option.getD_some];exact ek
   refine⟨k,hk,h6,?_⟩;rw[h6];have hb:=P6 (o3 t Y) q e6;rcases hb with h|⟨h,h'⟩
   ·rcases q3 with g|⟨g,_⟩
    ·exact .inl (by simp only at h g ⊢;omega)
    ·exact .inl (by simp only at h g ⊢;omega)
   ·rcases h' with h'|⟨d,h'⟩
    ·simp only at h h';rw[h,h'];exact q3
    ·exact(show LT _ _ from .inr ⟨h,d,h'⟩).le q3
  rcases hY.inv with⟨rfl,e⟩|⟨j0,k0,p,rfl,hp,g⟩
  ·
   have h0:=j3 e9;subst h0;have hq:s.pl.length<(Z1 a b s.pl true).length:=by rw[b1];simp[C5]
   have eW:(Z1 a b s.pl true).getD s.pl.length []=a:=by
    rcases S0k (a:=a) (b:=b) hq with⟨c,_⟩|⟨_,_,h⟩
    ·omega
    ·exact h
   obtain⟨h,h1,h2⟩:=T0x e 0 0 [];rw[zero_add]at h2;have c4:h∈(Z1 a b s.pl true).getD s.pl.length []:=by rw[eW,(T0H K hw ht).1];exact h1
   have b5:=T0W (c5 _ hq).1 c4 h2;have u:(F8 ((Z1 a b s.pl true).getD s.pl.length []) (o3 t Y)).isSome=true:=by rw[b5];rfl
   obtain⟨f1,f2,_⟩:=hf _ _ hq u;refine fin _ hq u ?_;have e4:o5 i s.pl.length G s.pl.length=(i,none):=if_neg O';rw[e4]at f1 ⊢;rcases e.first f1.2 f2.symm with h3|h3
   ·exact .inr ⟨rfl,.inl h3⟩
   ·exact .inr ⟨rfl,.inr h3⟩
  ·
   obtain⟨up,rp⟩:=hp.ok;have hle:=up.le;obtain⟨q,q1,q2,q3⟩:=I.cov i j0 p rfl (hB i O' e9) hp;obtain⟨h,h1,h2,h3⟩:=V04 g 0 0 1 up;rw[zero_add]at h2;have hq:q<(Z1 a b s.pl E0).length:=by
    have:=d0B a b s.pl E0;unfold C5 at this;split at this<;>omega
   have eW:(Z1 a b s.pl E0).getD q []=b (s.pl.getD q 0):=by
    rcases S0k (a:=a) (b:=b) hq with⟨_,h⟩|⟨c,_⟩
    ·exact h
    ·omega
   have c4:h∈(Z1 a b s.pl E0).getD q []:=by
    rw[eW,q2,(up.ways K hw ht).1];exact(c0T B0.To _).mem_iff.2 h1
   have b5:=T0W (c5 _ hq).1 c4 h2;have u:(F8 ((Z1 a b s.pl E0).getD q []) (o3 t Y)).isSome=true:=by rw[b5];rfl
   obtain⟨f1,f2,_⟩:=hf _ _ hq u;have h9:c02 ((Z1 a b s.pl E0).getD q []) (o3 t Y)=h:=by unfold c02;rw[b5];rfl
   rw[h9]at f1;refine fin _ hq u ?_;have e4:o5 (j0+1) s.pl.length G q=((G q).1,some (G q).2):=if_pos q1;rw[e4]at f1 ⊢;obtain⟨mm,m1,m2⟩:=f1;have k4:k0<=mm:=O'
   rcases q3 with h4|⟨h4,h5⟩
   ·exact .inl h4
   ·refine .inr ⟨h4,?_⟩;simp only at h4 h5 ⊢;rcases h5 with h5|⟨d,h5⟩
    ·rw[h5]at m2;rcases lt_or_ge k0 mm with c|c
     ·exact .inr ⟨_,g.deep m2 c⟩
     ·have:k0=mm:=O'
      subst this;exact g.first m2 f2.symm
    ·obtain⟨j1,k5,u1,r1,_⟩:=I.run q q1;have h8:j1=j0:=O'
     subst h8;rw[h4]at u1;have M:=h5.move zE u1 up m2.all g;refine .inr ?_;rcases lt_or_ge k0 d with c|c
     ·rcases lt_or_ge k0 mm with c2|c2
      ·exact⟨_,M.up c c2⟩
      ·exact⟨_,M.both O' O'⟩
     ·exact⟨_,M.far O' c⟩
end
def T0l {fD:Nat->Nat->Int}{N:Nat->Nat×Pp}:∀(of:List Nat) (d:Nat),(∀i k,i∈d :: of->k∈d :: of->i≠k->(0<fD i k->LT (N i) (N k))/\(¬0<fD i k->LT (N k) (N i)))->
  ∃j:Nat,of.foldl (e09 fD) (d:Int)=(j:Int)/\j∈d :: of/\∀i,i∈d :: of->i=j\/LT (N j) (N i)
 |[],d,_=>⟨d,rfl,Z',fun i hi=>.inl (by simpa using hi)⟩
 |x :: r,d,h=>by
  have q:¬((d:Int)<0):=O'
  have hs:e09 fD (d:Int) x=if 0<fD x d then(x:Int)else(d:Int):=by unfold e09;rw[if_neg q,Int.toNat_natCast]
  rw[List.foldl_cons,hs]
  by_cases c:0<fD x d
  ·rw[if_pos c];obtain⟨j,p,o,f⟩:=T0l r x (fun i k hi hk=>h i k (mem_cons_of_mem _ hi) (mem_cons_of_mem _ hk));refine⟨j,p,mem_cons_of_mem _ o,fun i hi=>?_⟩;rcases mem_cons.1 hi with rfl|hi
   ·by_cases g:x=i
    ·subst g;exact f x Z'
    ·have h1:=(h x i Z' Z' g).1 c;rcases f x Z' with e|e
     ·exact .inr (by rw[<-e];exact h1)
     ·exact .inr (e.trans h1)
   ·exact f i hi
  ·rw[if_neg c];obtain⟨j,p,o,f⟩:=T0l r d (fun i k hi hk=>h i k (by rcases mem_cons.1 hi with rfl|hi<;>simp[*]) (by rcases mem_cons.1 hk with rfl|hk<;>simp[*]));refine⟨j,p,by rcases mem_cons.1 o with rfl|o<;>simp[*],fun i hi=>?_⟩;rcases mem_cons.1 hi with rfl|hi
   ·exact f i Z'
   ·rcases mem_cons.1 hi with rfl|hi
    ·by_cases g:i=d
     ·subst g;exact f i Z'
     ·have h1:=(h i d Z' Z' g).2 c;rcases f d Z' with e|e
      ·exact .inr (by rw[<-e];exact h1)
      ·exact .inr (e.trans h1)
    ·exact f i (mem_cons_of_mem _ hi)
section
variable {F:Nat}{l:List C0}{n:Nat}{a:List B0}{b:Nat->List B0}{e:Nat->B0×Bool}{z:B0×Bool}{t:Tm}{w:List Int}{m:Nat}{s:Cs}{G:Nat->Nat×Pp}{A B:Nat->Prop}
def W03 {w:List Int}{s:Tm}{i j:Nat}{p:Pp}(u:PU w s i j p):∀lo,b7 s lo p≠[]:=by
 induction u with
 |more _ _ _ c=>exact c
 |_=>intro lo;simp[b7]
def PU.ends (K:U3 l n a b e z F)(hw:∀x∈l,P2 x)(c:I4 l t){i j:Nat}{p:Pp}(u:PU w t i j p):(e (o3 t p)).2=c7 t p/\(c7 t p=true->(e (o3 t p)).1.Steps=b7 t 0 p):=by
 rw[(u.ways K hw c).2.1];have h:=W03 u 0;cases c7 t p<;>simp[Z8,h]
structure W0D (w:List Int)(l:List C0)(t:Tm)(m:Nat)(B:Nat->Prop)(tags:List Int)(i:Nat)(P:Pt):Prop where
 fit:Fit w t i P
 wid:i+P.wid=m
 pos:0<P.wid
 tag:tags=b0Q l (k0o l (i:Int)) (o6 t 0 i P)
 all:∀i' Q,B i'->Fit w t i' Q->i'+Q.wid=m->0<Q.wid->i<i'\/(i=i'/\(P=Q\/PA P Q))
def CrI.P6 (I:CrI w l n t m s G A B)(K:U3 l n a b e z F)(hw:∀x∈l,P2 x)(ht:I4 l t):
  ((s.P6 l e).2=true->∃k P,k<s.pl.length/\W0D w l t m B (s.P6 l e).1 (G k).1 P)/\((s.P6 l e).2=false->∀i Q,B i->Fit w t i Q->i+Q.wid=m->0<Q.wid->False):=by
 have p:∀k,k<s.pl.length->((e (s.pl.getD k 0)).2=true->∃P,Cl b9 t (G k).2 P):=fun k hk h=>by
  obtain⟨j,_,u,_,hp,_⟩:=I.run k hk;rw[hp,(u.ends K hw ht).1]at h;exact u.cl h
 have cover:∀i Q,B i->Fit w t i Q->i+Q.wid=m->0<Q.wid->∃k,k∈E7 e s.pl s.pl.length/\∀P,Cl b9 t (G k).2 P->(G k).1<i\/((G k).1=i/\(P=Q\/PA P Q)):=by
  intro i Q hB hQ hm a1;obtain⟨Y,j,y1,y2,y3⟩:=hQ.rch a1;obtain⟨uY,rY⟩:=y1.ok;obtain⟨k,o,k2,C⟩:=I.cov i j Y O' hB y1;have R:=(uY.ends K hw ht).1;rw[y3.may,<-k2]at R;refine⟨k,mem_filter.2 ⟨mem_range.2 o,R⟩,fun P g=>?_⟩;rcases C with C|⟨C,k4⟩
  ·exact .inl C
  ·refine .inr ⟨C,?_⟩;simp only at C k4;rcases k4 with k4|⟨d,k4⟩
   ·rw[k4]at g;exact(y3.first g).2
   ·obtain⟨j',b4,u,_⟩:=I.run k o;have:j'=j:=O'
    subst this;rw[C]at u;exact .inr (k4.close zE u uY g.all y3)
 cases hc:E7 e s.pl s.pl.length with
 |nil=>
  have hb:s.P6 l e=([],false):=by unfold Cs.P6 B0o;rw[hc];rfl
  rw[hb];refine⟨fun h=>absurd h Z',fun _ i Q h1 R h3 h4=>?_⟩;obtain⟨k,o,_⟩:=cover i Q h1 R h3 h4;rw[hc]at o;simp at o
 |cons j0 of=>
  have c:∀k,k∈j0 :: of->k<s.pl.length/\(e (s.pl.getD k 0)).2=true:=fun k hk=>by
   rw[<-hc]at hk;exact⟨j0P hk,(mem_filter.1 hk).2⟩
  have b2:∀i k,i<s.pl.length->k<s.pl.length->i≠k->0<s.fD i k->LT (G i) (G k):=fun i k hi hk f h=>by
   rcases I.ok.rk.d1 i k hi hk f with h1|h1
   ·exact(I.rel i k hi hk h1).lt
   ·omega
  have b5:∀i k,i<s.pl.length->k<s.pl.length->i≠k->¬0<s.fD i k->LT (G k) (G i):=fun i k hi hk f h=>by
   rcases I.ok.rk.d1 i k hi hk f with h1|h1
   ·omega
   ·exact(I.rel k i hk hi (by rw[I.ok.rk.dn i k hi hk,h1];rfl)).lt
  obtain⟨j,e1,e2,e3⟩:=T0l (fD:=s.fD) (N:=G) of j0 (fun i k hi hk f=>⟨b2 i k (c i hi).1 (c k hk).1 f,b5 i k (c i hi).1 (c k hk).1 f⟩);have b3:D8 s.fD (E7 e s.pl s.pl.length)=(j:Int):=by
   rw[hc];unfold D8;rw[List.foldl_cons];have:e09 s.fD (-1) j0=(j0:Int):=by unfold e09;rw[if_pos O']
   rw[this];exact e1
  obtain⟨hj,J⟩:=c j e2;obtain⟨P,g⟩:=p j hj J;obtain⟨jj,c3,u,r,hp,hv⟩:=I.run j hj;have y:s.P6 l e=(Z9 s.at_ (-1) (gt s.vals (j:Int)) (a7 l (e (s.pl.getD j 0)).1.Steps),true):=by
   unfold Cs.P6 B0o;rw[b3,if_neg O',Int.toNat_natCast]
  rw[y];refine⟨fun _=>⟨j,P,hj,?_⟩,fun h=>absurd h Z'⟩;have c4:=g.wid zC u;refine⟨g.fit e1C u r,O',g.pos zC u,?_,fun i' Q h1 R h3 h4=>?_⟩
  ·have c0:=T0y u 0 g;rw[hp,(u.ends K hw ht).1]at J;simp only;rw[hp,(u.ends K hw ht).2 J,hv,I.at_,c0,<-c3];unfold T0A fwd;rw[<-List.cons_append,u0B,S0Y]
  ·obtain⟨k,o,k2⟩:=cover i' Q h1 R h3 h4;rw[hc]at o;obtain⟨hk,b1⟩:=c k o;obtain⟨P',v⟩:=p k hk b1;have q:=k2 P' v;rcases e3 k o with h5|h5
   ·subst h5;rw[g.det v];exact q
   ·rcases h5 with h5|⟨h5,d,h6⟩
    ·rcases q with q|⟨q,_⟩
     ·exact .inl O'
     ·exact .inl O'
    ·rcases q with q|⟨q,hq2⟩
     ·exact .inl O'
     ·obtain⟨j',b4,u',_⟩:=I.run k hk;have:j'=jj:=O'
      subst this;rw[<-h5]at u';have U:=h6.close zC u u' g v;refine .inr ⟨O',.inr ?_⟩;rcases hq2 with hq2|hq2
      ·rw[<-hq2];exact U
      ·exact U.trans hq2
end
