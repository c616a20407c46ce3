/- P. Its conditions: none. -/
import Derived.Test.YtihmgaccbcfgjaaGreatQG41
import Derived.Test.YtihmgaccbcfgjaaGreatQX15
open Int (toNat_natCast)
open List (mem_of_getElem? mem_filter mem_map)
open Bool (false_eq_true)
set_option linter.all false
namespace Go.Proofs.YtihmgaccbcfgjaaGreat
open Go.V Go.RowKit Old
def j0Q {l:List C0}:∀{n:Nat} {a:List Int},R4 l n=some a->∀j,j<n->∃b,R4 l j=some b/\b.length=j/\(∀i:Nat,i<j->gt a (i:Int)=gt b (i:Int))/\gt a (j:Int)=D3 l b j/\0<=D3 l b j
 |0,a,h,j,f=>O'
 |n+1,a,h,j,f=>by
  simp only[R4]at h;split at h
  ·cases h
  ·rename_i b d;split at h
   ·rename_i hg;cases h;have hl:=(c07 d).len;simp only[Z6,Bool.and_eq_true,decide_eq_true_eq]at hg
    by_cases e:j=n
    ·simp_all[b0Y,e0v]
    ·obtain⟨c,h1,p,o,k,g⟩:=j0Q d j O'
     grind [b0Y]
   grind
def o0d {c:Prop}[Decidable c]{v z:Int}(h:0<=if c then v else -1)(e:v=z):(if c then v else -1)=z:=by
 omega
theorem y0H {l:List C0}:∀{s:Tm} {lo n:Nat} {a:List Int},At l lo s->s.top lo<n->R4 l n=some a->gt a (s.top lo:Int)=lo:=by
 intro s
 induction s with
 |eps|leaf s=>
  intro lo n a h hn ha;obtain⟨b,h1,k,j,f,d⟩:=j0Q ha _ hn;have hg:=h.N3
  simp_all[D3,Tm.node,Tm.top,Tm.size]
 |cat x y c i|alt x y c i=>
  intro lo n a h hn ha;obtain⟨b,h1,k,j,f,d⟩:=j0Q ha _ hn;have hg:=h.N3;obtain⟨g,p,_⟩:=(At.bin rfl rfl).1 h;have:=y.size_pos;rw[f];have o:=c g (n:=Tm.top _ lo) (a:=b) (by grind [Tm.top,Tm.size]) h1;unfold D3 at d ⊢;rw[hg]at d ⊢
  simp_all[Tm.node,o0d]
 |star x c|maybe x c|group _ x c|iter x c=>
  intro lo n a h hn ha;obtain⟨b,h1,k,j,f,d⟩:=j0Q ha _ hn;have hg:=h.N3;obtain⟨g,_⟩:=(At.un rfl rfl).1 h;have:=x.size_pos;rw[f];have o:=c g (n:=Tm.top _ lo) (a:=b) (by grind [Tm.top,Tm.size]) h1;unfold D3 at d ⊢;rw[hg]at d ⊢;simp only[Tm.node]at d ⊢;omega
theorem g0v {l:List C0}(hR:L2 l=true){s:Tm}{lo:Nat}(h:At l lo s):gt (K4 l) (s.top lo:Int)=lo:=by
 have c:=h.V6;unfold L2 at hR;unfold K4 at hR ⊢;cases e:R4 l l.length with
 |none=>simp_all
 |some a=>
  split
  ·grind
  grind [y0H]
def t0P {l:List C0}(hR:L2 l=true){s:Tm}{lo:Nat}(h:At l lo s){q:Nat}(h1:lo<=q)(c:q<lo+s.size):(lo:Int)<=gt (K4 l) (q:Int):=by
 obtain⟨lo',d,i,g,f,_⟩:=h.s0D q h1 c
 grind [g0v]
def J6 (l:List C0)(a b:Nat)(q:Nat):Bool:=decide (gt (K4 l) (q:Int)<=(a:Int))&&(decide (a<=q)&&(decide (gt (K4 l) (q:Int)<=(b:Int))&&decide (b<=q)))
theorem d0o {l:List C0}{a b q:Nat}:J6 l a b q=true↔gt (K4 l) (q:Int)<=(a:Int)/\a<=q/\gt (K4 l) (q:Int)<=(b:Int)/\b<=q:=by
 simp[J6]
def c0q (b:Nat):List Fr->Nat->Tm->Nat
 |[],lo,s=>s.top lo
 |f :: fs,lo,s=>if lo<=b/\b<=s.top lo then s.top lo else c0q b fs (lo-f.off) (f.O2 s)
def z0P {l:List C0}{t:Tm}(p:I4 l t)(hR:L2 l=true){a b:Nat}(hb:b<l.length):∀(fs:List Fr) (lo:Nat) (s:Tm),Ctx t lo s fs->lo<=a->a<=s.top lo->(∀q,lo<=q->q<s.top lo->J6 l a b q=false)->
  J6 l a b (c0q b fs lo s)=true/\(∀q,q<c0q b fs lo s->J6 l a b q=false)/\c0q b fs lo s<l.length:=by
 intro fs
 induction fs with
 |nil=>
  intro lo s u h1 v x;obtain⟨rfl,rfl⟩:=u;have hlen:=p.len;have hl:=g0v hR p.at0;simp only[c0q];refine⟨d0o.2 ⟨O',v,O',by grind [Tm.top]⟩,fun q J=>x q (Nat.zero_le _) J,by grind [Tm.top]⟩
 |cons f fs ih=>
  intro lo s u h1 v x;have h:=u.at_ p;have R:=g0v hR h;have w:=h.V6;simp only[c0q];split
  ·grind [J6]
  ·obtain⟨g,k⟩:=u;have d:=k.at_ p;have U:=s.size_pos;have b1:∀q,lo<=q->q<=s.top lo->J6 l a b q=false:=fun q i o=>by
    grind [d0o]
   have I:∀q,q<lo->J6 l a b q=false:=fun q i=>by
    grind [d0o]
   have j:∀(y:Tm),At l (lo+s.size) y->∀q,lo+s.size<=q->q<lo+s.size+y.size->J6 l a b q=false:=fun y C q i o=>by
    have a1:=t0P hR C i o
    grind [d0o,Tm.top]
   have all:∀q,lo-f.off<=q->q<(f.O2 s).top (lo-f.off)->J6 l a b q=false:=fun q i o=>by
    rcases Nat.lt_or_ge q lo with c|c
    ·simp_all
    ·rcases Nat.lt_or_ge (s.top lo) q with c2|c2
     ·cases f<;>simp only[Fr.O2,Fr.off,Nat.sub_zero,Tm.top,Tm.size]at i o c2 d g
      case catL y=>exact j y ((At.bin rfl rfl).1 d).2.1 q O' O'
      case altL y=>exact j y ((At.bin rfl rfl).1 d).2.1 q O' O'
      all_goals omega
     simp_all
   refine ih _ _ k O' ?_ all;cases f<;>simp only[Fr.O2,Fr.off,Nat.sub_zero,Tm.top,Tm.size]at v g ⊢<;>omega
def T7 (l:List C0)(a b:Nat):Nat:=((List.range l.length).find? (J6 l a b)).getD 0
def E0h {P:Nat->Bool}{n k:Nat}(hk:k<n)(h:P k=true)(c:∀q,q<k->P q=false):(List.range n).find? P=some k:=by
 simp_all
def z0c {l:List C0}{a b k:Nat}(hk:k<l.length)(h:J6 l a b k=true)(c:∀q,q<k->J6 l a b q=false):T7 l a b=k:=by
 unfold T7;rw[E0h hk h c];rfl
def u0b (l:List C0)(a b:Nat):T7 l a b=T7 l b a:=by
 have:J6 l a b=J6 l b a:=funext fun q=>by
  grind [J6]
 simp_all[T7]
def t0g {l:List C0}{t:Tm}(c:I4 l t){q:Nat}(f:q<l.length):∃lo s fs,Ctx t lo s fs/\s.top lo=q:=by
 have d:Ctx t 0 t []:=⟨rfl,rfl⟩
 exact d.down q (Nat.zero_le _) (by have:=c.len;omega)
def r0Z {l:List C0}(hw:∀x∈l,P2 x)(hR:L2 l=true){a b:Nat}(ha:a<l.length)(g:b<l.length):T7 l a b<l.length/\J6 l a b (T7 l a b)=true/\∀q,q<T7 l a b->J6 l a b q=false:=by
 obtain⟨t,f⟩:=a0N hw hR;have c:=f.at0;have hlen:=f.len;have hl:=g0v hR c;have d:J6 l a b (l.length-1)=true:=d0o.2 ⟨by simp_all[Tm.top],O',by simp_all[Tm.top],O'⟩;cases e:(List.range l.length).find? (J6 l a b)with
 |none=>
  grind
 |some k=>
  have:T7 l a b=k:=by grind [T7]
  simp_all
def t06 {d o:List Int}:∀{s:Tm} {lo k:Nat},B8 d lo k s->B8 o lo k s->∀j:Nat,lo<=j->j<=s.top lo->gt d (j:Int)=gt o (j:Int)/\(k:Int)<=gt d (j:Int)/\gt d (j:Int)<k+s.size:=by
 intro s
 induction s with
 |eps|leaf s=>
  grind [Tm.top,Tm.size,B8]
 |cat a b f g|alt a b f g=>
  intro lo k h i j v p;obtain⟨p1,t,w⟩:=h;obtain⟨q,u,x⟩:=i;simp only[Tm.top,Tm.size]at p1 q p ⊢;rcases Nat.lt_or_ge j (lo+a.size)with c|c
  ·grind [Tm.top]
  grind [Tm.top]
 |star a f|maybe a f|group _ a f|iter a f=>
  intro lo k h i j v p;obtain⟨p1,t⟩:=h;obtain⟨q,u⟩:=i
  grind [Tm.top,Tm.size]
def E0O {d c:List Int}{t:Tm}(h:b02 d t)(f:b02 c t):d=c:=by
 refine List.ext_getElem (by rw[h.len,f.len]) fun j h1 g=>?_;have e:=(t06 h.deep f.deep j (Nat.zero_le _) (by have:=h.len;grind [Tm.top])).1
 simp_all[X2]
def a0Y (l:List C0):List Int:=(a0P 402 l).getD []
def u0T {l:List C0}{t:Tm}(c:I4 l t)(hR:L2 l=true):b02 (a0Y l) t:=by
 obtain⟨d,h1,f⟩:=Old.k0n c hR (show 401<402 from O')
 simp_all[a0Y]
def n0v {l:List C0}(hw:∀x∈l,P2 x)(hR:L2 l=true):(a0Y l).length=l.length/\∀q:Nat,q<l.length->1<=gt (a0Y l) (q:Int)/\gt (a0Y l) (q:Int)<=400:=by
 obtain⟨t,c⟩:=a0N hw hR;have h:=u0T c hR;have d:=c.le;have hlen:=c.len;refine⟨by rw[h.len,hlen],fun q f=>?_⟩;have:=(t06 h.deep h.deep q (Nat.zero_le _) (by grind [Tm.top])).2;omega
def x0K {l:List C0}(hw:∀x∈l,P2 x)(hR:L2 l=true){F:Nat}(f:401<F):a0P F l=some (a0Y l):=by
 obtain⟨t,c⟩:=a0N hw hR;obtain⟨d,h1,g⟩:=Old.k0n c hR f;rw[E0O g (u0T c hR)]at h1;exact h1
def O0c {l:List C0}(hw:∀x∈l,P2 x)(hR:L2 l=true){F:Nat}(f:401<F):e0d F l=some (a0Y l):=by
 obtain⟨t,c⟩:=a0N hw hR;obtain⟨d,h1,g⟩:=Old.M0i c hR f;rw[E0O g (u0T c hR)]at h1;exact h1
def b0s (l:List C0)(x y:B0):Int:=gt (a0Y l) ((T7 l (gt (G2 l l.length) x.To).toNat (gt (G2 l l.length) y.To).toNat:Nat):Int)+1
def g0I (l:List C0)(x y:B0):Bool:=(gt l ((T7 l (gt (G2 l l.length) x.To).toNat (gt (G2 l l.length) y.To).toNat:Nat):Int)).Kind==3
def X8 (l:List C0)(x y:B0):Int×Int×Int:=
 if x.Turn>y.Turn then(x.Turn+1,y.Turn+1,1)else if x.Turn<y.Turn then(x.Turn+1,y.Turn+1,-1)else
 if x.To>y.To then(b0s l x y,if g0I l x y then b0s l x y+1 else b0s l x y,-1)else(if g0I l x y then b0s l x y+1 else b0s l x y,b0s l x y,1)
def x0C (l:List C0)(x y:B0):b0s l x y=b0s l y x:=by unfold b0s;rw[u0b]
def B0E (l:List C0)(x y:B0):g0I l x y=g0I l y x:=by unfold g0I;rw[u0b]
def p0I (l:List C0)(x y:B0)(h:x.To≠y.To):X8 l y x=((X8 l x y).2.1,(X8 l x y).1,- (X8 l x y).2.2):=by
 unfold X8;rw[x0C l y x,B0E l y x];rcases Int.lt_trichotomy x.Turn y.Turn with c|c|c
 ·rw[if_pos (show y.Turn>x.Turn from c),if_neg (show ¬x.Turn>y.Turn from O'),if_pos c];simp
 ·rw[if_neg (show ¬y.Turn>x.Turn from O'),if_neg (show ¬y.Turn<x.Turn from O'),if_neg (show ¬x.Turn>y.Turn from O'),if_neg (show ¬x.Turn<y.Turn from O')];rcases Int.lt_or_gt_of_ne h with c2|c2
  ·rw[if_pos (show y.To>x.To from c2),if_neg (show ¬x.To>y.To from O')]
  ·rw[if_neg (show ¬y.To>x.To from O'),if_pos (show x.To>y.To from c2)];simp
 ·rw[if_neg (show ¬y.Turn>x.Turn from O'),if_pos (show y.Turn<x.Turn from c),if_pos (show x.Turn>y.Turn from c)]
structure b0j (n:Nat)(h:B0):Prop where
 to0:0<=h.To
 to1:h.To<n
 t0:0<=h.Turn
 t1:h.Turn<=400
def r0p {l:List C0}(hw:∀x∈l,P2 x)(hR:L2 l=true){n:Nat}(hn:n=N0 l l.length){x y:B0}(g:b0j n x)(f:b0j n y):0<=(X8 l x y).1/\0<=(X8 l x y).2.1/\((X8 l x y).2.2=1\/(X8 l x y).2.2=-1):=by
 have h:1<=b0s l x y:=by
  obtain⟨h1,C,w,k⟩:=g;obtain⟨i,v,o,t⟩:=f;obtain⟨p,hp,c,_⟩:=e05 l l.length x.To.toNat O';obtain⟨q,h,d,_⟩:=e05 l l.length y.To.toNat O';have s:gt (G2 l l.length) x.To=(p:Int):=m0k c;have j:gt (G2 l l.length) y.To=(q:Int):=m0k d;have u:=(r0Z hw hR (a:=p) (b:=q) hp h).1;have:=((n0v hw hR).2 _ u).1;unfold b0s;rw[s,j];simp only[toNat_natCast];omega
 obtain⟨h1,C,w,k⟩:=g;obtain⟨i,v,o,t⟩:=f;unfold X8;split
 ·exact⟨by simp only;omega,by simp only;omega,.inl rfl⟩
 ·split
  ·exact⟨by simp only;omega,by simp only;omega,.inr rfl⟩
  ·split
   ·refine⟨by simp only;omega,?_,.inr rfl⟩;simp only;split<;>omega
   ·refine⟨?_,by simp only;omega,.inl rfl⟩;simp only;split<;>omega
section
variable (l:List C0)(fB fD:Nat->Nat->Int)(fr:List Nat)(hops:List B0)
def u6 (i k:Nat):Int:=if i=k then 0 else if fr.getD i 0=fr.getD k 0 then(X8 l (gt hops (i:Int)) (gt hops (k:Int))).1 else a0B (fB (fr.getD i 0) (fr.getD k 0)) (gt hops (i:Int)).Turn
def Q6 (i k:Nat):Int:=if i=k then 0 else if fr.getD i 0=fr.getD k 0 then(X8 l (gt hops (i:Int)) (gt hops (k:Int))).2.2 else n9 fB fD (fr.getD i 0) (fr.getD k 0) (gt hops (i:Int)) (gt hops (k:Int))
end
def B0P {fB fD:Nat->Nat->Int}{a b:Nat}{p q:B0}(h:fD b a=- fD a b):n9 fB fD b a q p=- n9 fB fD a b p q:=by
 unfold n9;rcases Int.lt_trichotomy (a0B (fB a b) p.Turn) (a0B (fB b a) q.Turn)with c|c|c
 ·rw[if_pos c,if_neg (show ¬a0B (fB a b) p.Turn>a0B (fB b a) q.Turn from O'),if_pos c];rfl
 ·rw[if_neg O',if_neg O',if_neg O',if_neg O',h]
 ·rw[if_neg O',if_pos c,if_pos c]
def z0X {b t:Int}(d:0<=b)(f:0<=t)(c:t<=400):0<=a0B b t:=by
 unfold a0B;rw[E3 O' O'];split<;>omega
def F0E {fB fD:Nat->Nat->Int}{a b:Nat}{p q:B0}(h:fD a b=1\/fD a b=-1):n9 fB fD a b p q=1\/n9 fB fD a b p q=-1:=by
 unfold n9;split
 ·exact .inl rfl
 ·split
  ·exact .inr rfl
  ·exact h
def g0q {n:Nat}{hops:List B0}(h:∀x∈hops,b0j n x){i:Nat}(hi:i<hops.length):b0j n (gt hops (i:Int)):=h _ (mem_of_getElem? (P4 hi))
def r0A {hops:List B0}(h:hops.Pairwise fun a b=>a.To<b.To){i k:Nat}(hi:i<hops.length)(hk:k<hops.length)(d:i≠k):(gt hops (i:Int)).To≠(gt hops (k:Int)).To:=by
 have hp:=List.pairwise_iff_getElem.1 h;have f:gt hops (i:Int)=hops[i]:=X2 (by simp[hi]);have g:gt hops (k:Int)=hops[k]:=X2 (by simp[hk]);rw[f,g];rcases Nat.lt_or_gt_of_ne d with c|c
 ·have:=hp i k hi hk c;omega
 ·have:=hp k i hk hi c;omega
def t07 {l:List C0}(hw:∀x∈l,P2 x)(hR:L2 l=true){n:Nat}(hn:n=N0 l l.length){m:Nat}{fB fD:Nat->Nat->Int}(h:a0y m fB fD){fr:List Nat}{hops:List B0}(hi:∀i∈fr,i<m)(hlen:hops.length=fr.length)(f:∀x∈hops,b0j n x)
  (c:hops.Pairwise fun a b=>a.To<b.To):a0y fr.length (u6 l fB fr hops) (Q6 l fB fD fr hops) where
 b0 i k h1 h2:=by
  have x1:=g0q f (i:=i) O';have x2:=g0q f (i:=k) O';unfold u6;split
  ·exact Int.le_refl _
  ·split
   ·exact(r0p hw hR hn x1 x2).1
   ·exact z0X (h.b0 _ _ (P8 hi h1) (P8 hi h2)) x1.t0 x1.t1
 bd i h1:=by unfold u6;rw[if_pos rfl]
 dd i h1:=by unfold Q6;rw[if_pos rfl]
 d1 i k h1 h2 hne:=by
  have x1:=g0q f (i:=i) O';have x2:=g0q f (i:=k) O';unfold Q6;rw[if_neg hne];split
  ·exact(r0p hw hR hn x1 x2).2.2
  ·rename_i g;exact F0E (h.d1 _ _ (P8 hi h1) (P8 hi h2) g)
 dn i k h1 h2:=by
  unfold Q6
  by_cases e:i=k
  ·subst e;rw[if_pos rfl];rfl
  ·rw[if_neg e,if_neg (fun h=>e h.symm)]
   by_cases d:fr.getD i 0=fr.getD k 0
   ·rw[if_pos d,if_pos d.symm,p0I l _ _ (r0A c O' O' e)]
   ·rw[if_neg d,if_neg (fun h=>d h.symm)];exact B0P (h.dn _ _ (P8 hi h1) (P8 hi h2))
def n0D {σ τ:Type}{step:σ->Option (Q0 σ τ)}{s c:σ}{k:Nat}(h:step s=some (.next c)):iter step (k+1) s=iter step k c:=by
 rw[show iter step (k+1) s=match step s with|none=>none|some (.next c)=>iter step k c|some (.done t)=>some t from rfl,h]
def u0x {σ τ:Type}{step:σ->Option (Q0 σ τ)}{s:σ}{t:τ}{k:Nat}(h:step s=some (.done t)):iter step (k+1) s=some t:=by
 rw[show iter step (k+1) s=match step s with|none=>none|some (.next c)=>iter step k c|some (.done t)=>some t from rfl,h]
section
variable {F:Nat}{l:List C0}
def G09 {t:Tm}(j:I4 l t)(hR:L2 l=true){u d:List Int}(hu:UpT u t)(hd:b02 d t){b:Nat}(y:b<l.length):∀(fs:List Fr) (lo:Nat) (s:Tm),Ctx t lo s fs->∀k,fs.length<k->iter (a0E u (K4 l) (b:Int)) k (s.top lo:Int)=some ((c0q b fs lo s:Nat):Int):=by
 have v:=e06 hR;have hlen:=j.len;intro fs
 induction fs with
 |nil=>
  intro lo s g k hk;obtain⟨k,rfl⟩:∃q,k=q+1:=⟨k-1,O'⟩
  have c:=g.at_ j;have o:=g0v hR c;have i:=c.V6;obtain⟨rfl,rfl⟩:=g;have p:y0 (K4 l) (s.top 0:Int)=true:=V0 O' (by rw[v.len];omega);have C:(b:Int)<=(s.top 0:Int):=by grind [Tm.top]
  simp_all[u0x,a0E,c0q]
 |cons f fs ih=>
  intro lo s g k hk;obtain⟨k,rfl⟩:∃q,k=q+1:=⟨k-1,O'⟩
  have c:=g.at_ j;have o:=g0v hR c;have i:=c.V6;have x:=g.a0Z j hu hd;have p:y0 (K4 l) (s.top lo:Int)=true:=V0 O' (by rw[v.len];omega);have w:y0 u (s.top lo:Int)=true:=V0 O' (by rw[hu.len];omega);have hn:=ih _ _ g.2 k (by simp_all)
  by_cases h:lo<=b/\b<=s.top lo
  ·simp_all[u0x,a0E,c0q]
  ·have hs:a0E u (K4 l) (b:Int) (s.top lo:Int)=some (.next ((Fr.O2 s f).top (lo-f.off):Int)):=by
    simp_all[a0E]
   rw[n0D hs,c0q,if_neg h,hn]
def y0E (hw:∀x∈l,P2 x)(hR:L2 l=true)(I:1000<F){a b:Nat}(ha:a<l.length)(j:b<l.length):g0D F l (a:Int) (b:Int)=some ((T7 l a b:Nat):Int):=by
 obtain⟨t,c⟩:=a0N hw hR;obtain⟨u,h1,k⟩:=Old.p0m c hR (show 401<F from O');obtain⟨d,_,v⟩:=Old.k0n c hR (show 401<F from O');obtain⟨lo,s,fs,h,hs⟩:=t0g c ha;have w:=k.len;have hlen:=c.len;have i:=c.le;have o:=h.size;have g:=z0P c hR (a:=a) j fs lo s h (by have:=s.size_pos;unfold Tm.top at hs;omega) O' (fun q C y=>by
  have:¬J6 l a b q=true:=fun p=>by have:=(d0o.1 p).2.1;omega
  simpa using this)
 have f:=G09 c hR k v j fs lo s h F O';rw[hs]at f;unfold g0D;rw[h1];have c1:(decide ((a:Int)<0)||(decide ((b:Int)<0)||(decide ((a:Int)>=(u.length:Int))||decide ((b:Int)>=(u.length:Int)))))=false:=by
  simp only[Bool.or_eq_false_iff,decide_eq_false_iff_not];omega
 simp only[q0,c1,r0n (show 401<F from O'),f];rw[z0c g.2.2 g.1 g.2.1]
def N0l (hw:∀x∈l,P2 x)(hR:L2 l=true)(hl:l.length*64<=140737488351232)(u:1000<F)(c:l.length+1<F){a b:Nat}(ha:a<l.length)(g:b<l.length):K0Y F l (a:Int) (b:Int)=some ((T7 l a b:Nat):Int):=by
 have i:=e06 hR;have hlen:=i.len;obtain⟨o,p,h⟩:=r0Z hw hR ha g;unfold K0Y;rw[D0M hR hl c];have c1:¬(a:Int)<0:=O'
 have c2:¬(b:Int)<0:=O'
 have c3:¬(a:Int)>=((K4 l).length:Int):=O'
 have c4:¬(b:Int)>=((K4 l).length:Int):=O'
 simp only[q0,c1,c2,c3,c4];have key:∀k,k<=T7 l a b->∀m,k<m->iter (J0L F l (a:Int) (b:Int) (K4 l)) m ((T7 l a b-k:Nat):Int)=some (.inl ((T7 l a b:Nat):Int)):=by
  intro k
  induction k with
  |zero=>
   intro _ m hm;obtain⟨m,rfl⟩:∃q,m=q+1:=⟨m-1,O'⟩
   simp_all[d0o,V0,u0x,J0L]
  |succ k ih=>
   intro hk m hm;obtain⟨m,rfl⟩:∃q,m=q+1:=⟨m-1,O'⟩
   have hn:=ih O' m O';have f:T7 l a b-(k+1)<T7 l a b:=O'
   have d:=h _ f;have t:((T7 l a b-k:Nat):Int)=((T7 l a b-(k+1):Nat):Int)+1:=O'
   generalize T7 l a b-(k+1)=q at *;have h1:(q:Int)<(l.length:Int):=O'
   have j:y0 (K4 l) (q:Int)=true:=V0 O' O';have s:W ((q:Int)+1)=(q:Int)+1:=E3 O' O';rw[<-hn];refine n0D ?_;unfold J0L;unfold J6 at d
   grind
 have:=key (T7 l a b) (Nat.le_refl _) F O'
 simp_all
def l0e (l:List C0){n:Nat}(hn:n=N0 l l.length){x:Int}(c:0<=x)(h1:x<n):∃q:Nat,q<l.length/\gt (G2 l l.length) x=(q:Int)/\y0 (G2 l l.length) x=true:=by
 obtain⟨q,f,d,_⟩:=e05 l l.length x.toNat O'
 grind [m0k,V0]
def r0U (hw:∀x∈l,P2 x)(hR:L2 l=true){n:Nat}(hn:n=N0 l l.length)(I:1000<F)(s:C7 F l=some (G2 l l.length)){x y:B0}(v:b0j n x)(t:b0j n y)(h:x.To≠y.To)(k:Nat)(hle:x.Turn≠y.Turn\/x.To<y.To):
  e00 F (k+1) l x y=some (X8 l x y):=by
 obtain⟨d,a2,a3,a4⟩:=v;obtain⟨f,i,b3,R⟩:=t;have o:=K9 l l.length;unfold e00;rw[s];have c1:x.To>=0:=d;have c2:x.To<((G2 l l.length).length:Int):=O'
 have c3:y.To>=0:=f;have c4:y.To<((G2 l l.length).length:Int):=O'
 have c5:(x.To==y.To)=false:=by simp_all
 have w1:W (x.Turn+1)=x.Turn+1:=E3 O' O';have g:W (y.Turn+1)=y.Turn+1:=E3 O' O';simp only[q0,c1,c2,c3,c4,c5,w1,g,decide_eq_true_eq];unfold X8
 by_cases h1:x.Turn>y.Turn
 ·simp_all
 ·rw[if_neg h1,if_neg h1]
  by_cases h2:x.Turn<y.Turn
  ·simp_all
  ·have h3:¬x.To>y.To:=O'
   obtain⟨p,hp,w,j⟩:=l0e l hn d a2;obtain⟨q,c,u,i2⟩:=l0e l hn f i;have C:=(r0Z hw hR hp c).1;have hd:=(n0v hw hR).1;have J:=(n0v hw hR).2 _ C;unfold b0s g0I;rw[j,i2,w,u];simp only[if_true,y0E hw hR I hp c,x0K hw hR (show 401<F from O'),G0,toNat_natCast];have i3:y0 (a0Y l) ((T7 l p q:Nat):Int)=true:=V0 O' O';have i4:y0 l ((T7 l p q:Nat):Int)=true:=V0 O' O';have U:W (gt (a0Y l) ((T7 l p q:Nat):Int)+1)=gt (a0Y l) ((T7 l p q:Nat):Int)+1:=E3 O' O';have w4:W (gt (a0Y l) ((T7 l p q:Nat):Int)+1+1)=gt (a0Y l) ((T7 l p q:Nat):Int)+1+1:=E3 O' O'
   grind
def C04 (hw:∀x∈l,P2 x)(hR:L2 l=true){n:Nat}(hn:n=N0 l l.length)(i:1000<F)(g:C7 F l=some (G2 l l.length)){x y:B0}(f:b0j n x)(d:b0j n y)(c:x.To≠y.To):
  e00 F F l x y=some (X8 l x y):=by
 obtain⟨k,rfl⟩:∃k,F=k+2:=⟨F-2,O'⟩
 by_cases hle:x.Turn≠y.Turn\/x.To<y.To
 ·simp_all[r0U]
 ·have h:=r0U hw hR hn i g d f (fun h=>c h.symm) k (.inr O');have o:=p0I l x y c;obtain⟨j,a2,a3,a4⟩:=f;obtain⟨q,w,v,u⟩:=d;have p:=K9 l l.length;unfold e00;rw[g];have c1:x.To>=0:=j;have c2:x.To<((G2 l l.length).length:Int):=O'
  have c3:y.To>=0:=q;have c4:y.To<((G2 l l.length).length:Int):=O'
  have c5:(x.To==y.To)=false:=by simp_all
  have h1:¬x.Turn>y.Turn:=O'
  have t:¬x.Turn<y.Turn:=O'
  have s:x.To>y.To:=O'
  simp only[q0,c1,c2,c3,c4,c5,h1,t,s,h,o]
  simp_all[X8]
def P0n (hw:∀x∈l,P2 x)(hR:L2 l=true){n:Nat}(hn:n=N0 l l.length)(hl:l.length*64<=140737488351232)(C:1000<F)(c:l.length+1<F)(o:b0P F l=some (G2 l l.length)){x y:B0}(u:b0j n x)(s:b0j n y)(g:x.To≠y.To):
  K0Q F l x y=some (X8 l x y):=by
 obtain⟨i,a2,a3,a4⟩:=u;obtain⟨I,h,b3,R⟩:=s;have k:=K9 l l.length;unfold K0Q;rw[o];have c1:¬x.To<0:=O'
 have c2:¬x.To>=((G2 l l.length).length:Int):=O'
 have c3:¬y.To<0:=O'
 have c4:¬y.To>=((G2 l l.length).length:Int):=O'
 have c5:(x.To==y.To)=false:=by simp_all
 have w1:W (x.Turn+1)=x.Turn+1:=E3 O' O';have f:W (y.Turn+1)=y.Turn+1:=E3 O' O';simp only[q0,c1,c2,c3,c4,c5,w1,f,decide_eq_true_eq];unfold X8
 by_cases h1:x.Turn>y.Turn
 ·simp_all
 ·rw[if_neg h1,if_neg h1]
  by_cases h2:x.Turn<y.Turn
  ·simp_all
  ·obtain⟨p,hp,v,j⟩:=l0e l hn i a2;obtain⟨q,d,t,i2⟩:=l0e l hn I h;have w:=(r0Z hw hR hp d).1;have hd:=(n0v hw hR).1;have J:=(n0v hw hR).2 _ w;unfold b0s g0I;rw[j,i2,v,t];simp only[if_true,N0l hw hR hl C c hp d,O0c hw hR (show 401<F from O'),G0,toNat_natCast];have i3:y0 (a0Y l) ((T7 l p q:Nat):Int)=true:=V0 O' O';have i4:y0 l ((T7 l p q:Nat):Int)=true:=V0 O' O';have U:W (gt (a0Y l) ((T7 l p q:Nat):Int)+1)=gt (a0Y l) ((T7 l p q:Nat):Int)+1:=E3 O' O';have w4:W (gt (a0Y l) ((T7 l p q:Nat):Int)+1+1)=gt (a0Y l) ((T7 l p q:Nat):Int)+1+1:=E3 O' O'
   grind
end
def N4 (i k:Nat)(f:Nat->Nat->Int)(a b:Nat):Int:=if(a<i/\b<i)\/(a=i/\b<k)\/(b=i/\a<k)then f a b else 0
def a0x (i k:Nat)(f:Nat->Nat->Int)(a b:Nat):Int:=if a<i\/(a=i/\b<k)then f a b else 0
def y0u {m i k:Nat}(hk:k<i)(f:Nat->Nat->Int):
  U1 m m (fun a=>if a=k then(fun j=>if j=i then f k i else(if k=i then(fun j=>if j=k then f i k else N4 i k f i j)else N4 i k f k) j)else(if a=i then(fun j=>if j=k then f i k else N4 i k f i j)else N4 i k f a))=U1 m m (N4 i (k+1) f):=by
 refine d0F fun a b _ _=>?_;have g:¬k=i:=O'
 by_cases d:a=k
 ·by_cases c:b=i
  ·simp_all[N4]
  simp_all[N4]
 ·rw[if_neg d]
  by_cases c:a=i
  ·rw[if_pos c]
   by_cases h:b=k
   ·simp_all[N4]
   ·rw[if_neg h,c];unfold N4;omega
  ·rw[if_neg c];unfold N4;omega
def s0v {m i:Nat}(f:Nat->Nat->Int)(h:f i i=0):U1 m m (N4 i i f)=U1 m m (N4 (i+1) 0 f):=by
 unfold N4
 grind
def M0D {m i k:Nat}(f:Nat->Nat->Int):U1 m m (fun a=>if a=i then(fun j=>if j=k then f i k else a0x i k f i j)else a0x i k f a)=U1 m m (a0x i (k+1) f):=by
 refine d0F fun a b _ _=>?_
 by_cases c:a=i
 ·rw[if_pos c]
  by_cases d:b=k
  ·simp_all[a0x]
  ·rw[if_neg d,c];unfold a0x;omega
 simp_all[a0x]
def M0v {m i:Nat}(f:Nat->Nat->Int)(h:f i i=0):U1 m m (a0x i i f)=U1 m m (a0x i (i+1) f):=by
 unfold a0x
 grind
def M0Q {m i:Nat}(f:Nat->Nat->Int):U1 m m (a0x i m f)=U1 m m (a0x (i+1) 0 f):=by
 refine d0F fun a b ha c=>?_;unfold a0x;omega
def C0J {fr:List Nat}{i k:Nat}:(((fr.getD i 0:Nat):Int)==((fr.getD k 0:Nat):Int))=decide (fr.getD i 0=fr.getD k 0):=by
 grind
section
variable {F:Nat}{l:List C0}{n m:Nat}{fB fD:Nat->Nat->Int}{fr:List Nat}{hops:List B0}
structure q0J (l:List C0)(n m:Nat)(fr:List Nat)(hops:List B0):Prop where
 lt:∀i∈fr,i<m
 len:hops.length=fr.length
 le:fr.length<=500
 hop:∀x∈hops,b0j n x
 asc:hops.Pairwise fun a b=>a.To<b.To
def J0c {d:Int}(h:d=1\/d=-1):W (0-d)=- d:=by rcases h with h|h<;>rw[h]<;>rfl
def I0X (hw:∀x∈l,P2 x)(hR:L2 l=true)(hn:n=N0 l l.length)(R:2000<F)(I:C7 F l=some (G2 l l.length))(h:a0y m fB fD)(g:q0J l n m fr hops){i:Nat}(hi:i<fr.length):
  iter (h0P F l (U2 m fB fD) (D1 fr) hops (i:Int)) F (0,U1 fr.length fr.length (N4 i 0 (u6 l fB fr hops)),U1 fr.length fr.length (N4 i 0 (Q6 l fB fD fr hops)))=some (U1 fr.length fr.length (N4 (i+1) 0 (u6 l fB fr hops)),U1 fr.length fr.length (N4 (i+1) 0 (Q6 l fB fD fr hops))):=by
 have hle:=g.le;have ok:=t07 hw hR hn h g.lt g.len g.hop g.asc;rw[<-s0v _ (ok.bd i hi),<-s0v _ (ok.dd i hi)];have:=H3 (step:=h0P F l (U2 m fB fD) (D1 fr) hops (i:Int)) (fun k=>((k:Int),U1 fr.length fr.length (N4 i k (u6 l fB fr hops)),U1 fr.length fr.length (N4 i k (Q6 l fB fD fr hops)))) (U1 fr.length fr.length (N4 i i (u6 l fB fr hops)),U1 fr.length fr.length (N4 i i (Q6 l fB fD fr hops))) i (fun k hk=>.inl ?_) ?_ i 0 F O' O'
 ·omega
 ·have c:k<fr.length:=O'
  have h1:(k:Int)<(i:Int):=O'
  have w:y0 hops (i:Int)=true:=V0 O' (by rw[g.len];omega);have u:y0 hops (k:Int)=true:=V0 O' (by rw[g.len];omega);have C:=g0q g.hop (i:=i) (by rw[g.len];exact hi);have y:=g0q g.hop (i:=k) (by rw[g.len];omega);have f:=r0A g.asc (i:=i) (k:=k) (by rw[g.len];exact hi) (by rw[g.len];omega) O';have t:¬i=k:=O'
  have d:¬k=i:=O'
  have v:=ok.dn i k hi c;have o:=ok.d1 i k hi c t;have s:W (0-Q6 l fB fD fr hops i k)=Q6 l fB fD fr hops k i:=by rw[v];exact J0c o
  have key:∀p q r:Int,p=u6 l fB fr hops i k->q=u6 l fB fr hops k i->r=Q6 l fB fD fr hops i k->
    (Option.bind (some (U1 fr.length fr.length (fun a=>if a=k then(fun j=>if j=i then q else(if k=i then(fun j=>if j=k then p else N4 i k (u6 l fB fr hops) i j)else N4 i k (u6 l fB fr hops) k) j)else(if a=i then(fun j=>if j=k then p else N4 i k (u6 l fB fr hops) i j)else N4 i k (u6 l fB fr hops) a)),
     U1 fr.length fr.length (fun a=>if a=i then(fun j=>if j=k then r else N4 i k (Q6 l fB fD fr hops) i j)else N4 i k (Q6 l fB fD fr hops) a))) fun(J,y6)=>
    (if y0 y6 (k:Int)then
     if y0 y6 (i:Int)then
      if y0 (gt y6 (i:Int)) (k:Int)then
       if y0 (gt y6 (k:Int)) (i:Int)then
        let t5:=y6.set (k:Int).toNat ((gt y6 (k:Int)).set (i:Int).toNat (W (0-(gt (gt y6 (i:Int)) (k:Int)))))
        some (.next (W ((k:Int)+1),J,t5))
       else none
      else none
     else none
    else none:Option (Q0 (Int×(List (List Int))×(List (List Int))) ((List (List Int))×(List (List Int))))))=some (.next (((k+1:Nat):Int),U1 fr.length fr.length (N4 i (k+1) (u6 l fB fr hops)),U1 fr.length fr.length (N4 i (k+1) (Q6 l fB fD fr hops)))):=by
   rintro p q r rfl rfl rfl
   simp only[G0,H9 _ hi,H9 _ c,R8 _ hi,R8 _ c,a0k _ hi,a0k _ c,if_true,b0y _ c,toNat_natCast,o0c,m0L,y0u hk,s,X1 (i:=k) O']
  unfold h0P;simp only[h1,decide_true,if_true,q9 hi,q9 c,a0T hi,a0T c,C0J,decide_eq_true_eq,H9 _ hi,H9 _ c,w,u,C04 hw hR hn (show 1000<F from O') I C y f,R8 _ hi,R8 _ c,a0k _ hi,a0k _ c,l0i g.len g.lt hi c,l0i g.len g.lt c hi,t0w g.len g.lt hi c,toNat_natCast,o0c,m0L]
  by_cases he:fr.getD i 0=fr.getD k 0
  ·rw[if_pos he];refine key _ _ _ ?_ ?_ ?_
   ·unfold u6;omega
   ·unfold u6;rw[if_neg d,if_pos he.symm,p0I l _ _ f]
   ·unfold Q6;simp_all
  ·rw[if_neg he];refine key _ _ _ ?_ ?_ ?_
   ·unfold u6;omega
   ·unfold u6;omega
   ·unfold Q6;omega
 simp[h0P]
def A0k (hw:∀x∈l,P2 x)(hR:L2 l=true)(hn:n=N0 l l.length)(c:2000<F)(k:C7 F l=some (G2 l l.length))(hm:m<=1000)(h:a0y m fB fD)(g:q0J l n m fr hops):
  j03 F l (U2 m fB fD) (D1 fr) hops=some (U2 fr.length (u6 l fB fr hops) (Q6 l fB fD fr hops)):=by
 have hle:=g.le;unfold j03;rw[j0W hm c h];have hlen:(((D1 fr).length:Int) != (hops.length:Int))=false:=by rw[e0b,g.len];simp
 have t1:=H3 (step:=g0V F (U2 m fB fD) (D1 fr)) (fun i=>(i:Int)) (.inr ()) fr.length (fun i hi=>.inl ?_) ?_ fr.length 0 F O' O'
 ·have j:iter (g0V F (U2 m fB fD) (D1 fr)) F 0=_:=t1;have t2:=H3 (step:=g0X F l (U2 m fB fD) (D1 fr) hops) (fun i=>((i:Int),U1 fr.length fr.length (N4 i 0 (u6 l fB fr hops)),U1 fr.length fr.length (N4 i 0 (Q6 l fB fD fr hops)))) (U1 fr.length fr.length (u6 l fB fr hops),U1 fr.length fr.length (Q6 l fB fD fr hops)) fr.length (fun i hi=>.inl ?_) ?_ fr.length 0 F O' O'
  ·have z:∀f,U1 fr.length fr.length (N4 0 0 f)=U1 fr.length fr.length fun _ _=>0:=fun f=>d0F fun a b _ _=>by simp[N4]
   rw[z,z]at t2;have d:iter (g0X F l (U2 m fB fD) (D1 fr) hops) F (0,U1 fr.length fr.length (fun _ _=>0),U1 fr.length fr.length fun _ _=>0)=_:=t2;simp only[q0,hlen,j,show decide ((-1:Int)>=0)=false from rfl];rw[e0b,u0f O' c];simp only[G0,d];rfl
  ·unfold g0X;have h1:(i:Int)<((D1 fr).length:Int):=by simp;omega
   simp only[q0,h1,I0X hw hR hn c k h g hi,X1 (i:=i) O']
  ·unfold g0X;have z:∀f,U1 fr.length fr.length (N4 fr.length 0 f)=U1 fr.length fr.length f:=fun f=>d0F fun a b _ _=>by simp_all[N4]
   simp_all
 ·unfold g0V e0F;have h1:(i:Int)<((D1 fr).length:Int):=by simp;omega
  have q:=P8 g.lt hi;have p:((fr.getD i 0:Nat):Int)>=0:=O'
  have o:((fr.getD i 0:Nat):Int)<((U2 m fB fD).B.length:Int):=by simp_all[U2]
  simp only[q0,h1,q9 hi,a0T hi,p,o,X1 (i:=i) O']
 simp[g0V]
def P00 (hw:∀x∈l,P2 x)(hR:L2 l=true)(hn:n=N0 l l.length)(hl:l.length*64<=140737488351232)(R:2000<F)(s:l.length+1<F)(C:b0P F l=some (G2 l l.length))(h:a0y m fB fD)(g:q0J l n m fr hops){i:Nat}(hi:i<fr.length):
  iter (J0Z F l (U2 m fB fD) (D1 fr) hops (i:Int)) F (0,U1 fr.length fr.length (a0x i 0 (u6 l fB fr hops)),U1 fr.length fr.length (a0x i 0 (Q6 l fB fD fr hops)))=some (U1 fr.length fr.length (a0x (i+1) 0 (u6 l fB fr hops)),U1 fr.length fr.length (a0x (i+1) 0 (Q6 l fB fD fr hops))):=by
 have hle:=g.le;have ok:=t07 hw hR hn h g.lt g.len g.hop g.asc;rw[<-M0Q,<-M0Q];have:=H3 (step:=J0Z F l (U2 m fB fD) (D1 fr) hops (i:Int)) (fun k=>((k:Int),U1 fr.length fr.length (a0x i k (u6 l fB fr hops)),U1 fr.length fr.length (a0x i k (Q6 l fB fD fr hops)))) (U1 fr.length fr.length (a0x i fr.length (u6 l fB fr hops)),U1 fr.length fr.length (a0x i fr.length (Q6 l fB fD fr hops))) fr.length (fun k c=>.inl ?_) ?_ fr.length 0 F O' O'
 ·omega
 ·have h1:(k:Int)<((D1 fr).length:Int):=by simp;omega
  have j:y0 hops (i:Int)=true:=V0 O' (by rw[g.len];omega);have p:y0 hops (k:Int)=true:=V0 O' (by rw[g.len];omega);have w:=g0q g.hop (i:=i) (by rw[g.len];exact hi);have t:=g0q g.hop (i:=k) (by rw[g.len];omega);unfold J0Z
  by_cases d:i=k
  ·subst d;simp only[q0,h1,beq_self_eq_true,X1 (i:=i) O',M0v _ (ok.bd i hi),M0v _ (ok.dd i hi)]
  ·have o:=r0A g.asc (i:=i) (k:=k) (by rw[g.len];exact hi) (by rw[g.len];omega) d;have y:((i:Int)==(k:Int))=false:=by grind
   have q:=P8 g.lt hi;have f:=P8 g.lt c;simp only[h1,decide_true,if_true,y,false_eq_true,if_false,q9 hi,q9 c,a0T hi,a0T c,C0J,decide_eq_true_eq,H9 _ hi,j,p,P0n hw hR hn hl (show 1000<F from O') s C w t o,M0U,M01 q f,R8 _ hi,a0k _ c,
    show(U2 m fB fD).B=U1 m m fB from rfl,H9 _ q,R8 _ q,a0k _ f,b0y _ f,toNat_natCast,o0c,m0L,G0,X1 (i:=k) O']
   have J:=M0D (m:=fr.length) (i:=i) (k:=k) (u6 l fB fr hops);have I:=M0D (m:=fr.length) (i:=i) (k:=k) (Q6 l fB fD fr hops)
   by_cases he:fr.getD i 0=fr.getD k 0
   ·rw[if_pos he];have v:u6 l fB fr hops i k=(X8 l (gt hops (i:Int)) (gt hops (k:Int))).1:=by simp_all[u6]
    have u:Q6 l fB fD fr hops i k=(X8 l (gt hops (i:Int)) (gt hops (k:Int))).2.2:=by simp_all[Q6]
    simp_all
   ·rw[if_neg he];have v:u6 l fB fr hops i k=a0B (fB (fr.getD i 0) (fr.getD k 0)) (gt hops (i:Int)).Turn:=by simp_all[u6]
    have u:Q6 l fB fD fr hops i k=n9 fB fD (fr.getD i 0) (fr.getD k 0) (gt hops (i:Int)) (gt hops (k:Int)):=by simp_all[Q6]
    simp_all
 simp[J0Z]
def P0W (hw:∀x∈l,P2 x)(hR:L2 l=true)(hn:n=N0 l l.length)(hl:l.length*64<=140737488351232)(j:2000<F)(d:l.length+1<F)(p:b0P F l=some (G2 l l.length))(hm:m<=1000)(h:a0y m fB fD)(g:q0J l n m fr hops):
  K0F F l (U2 m fB fD) (D1 fr) hops=some (U2 fr.length (u6 l fB fr hops) (Q6 l fB fD fr hops)):=by
 have hle:=g.le;unfold K0F;have c:((U2 m fB fD).B.length:Int)=(m:Int):=by simp[U2]
 rw[c,j0J hm j h];have hlen:(((D1 fr).length:Int) != (hops.length:Int))=false:=by rw[e0b,g.len];simp
 have t1:=H3 (step:=J0M F (U2 m fB fD) (D1 fr)) (fun i=>(i:Int)) (.inr ()) fr.length (fun i hi=>.inl ?_) ?_ fr.length 0 F O' O'
 ·have o:iter (J0M F (U2 m fB fD) (D1 fr)) F 0=_:=t1;have t2:=H3 (step:=K0g F l (U2 m fB fD) (D1 fr) hops) (fun i=>((i:Int),U1 fr.length fr.length (a0x i 0 (u6 l fB fr hops)),U1 fr.length fr.length (a0x i 0 (Q6 l fB fD fr hops)))) (U1 fr.length fr.length (u6 l fB fr hops),U1 fr.length fr.length (Q6 l fB fD fr hops)) fr.length (fun i hi=>.inl ?_) ?_ fr.length 0 F O' O'
  ·have z:∀f,U1 fr.length fr.length (a0x 0 0 f)=U1 fr.length fr.length fun _ _=>0:=fun f=>d0F fun a b _ _=>by simp[a0x]
   rw[z,z]at t2;have k:iter (K0g F l (U2 m fB fD) (D1 fr) hops) F (0,U1 fr.length fr.length (fun _ _=>0),U1 fr.length fr.length fun _ _=>0)=_:=t2;simp only[q0,hlen,o];rw[e0b,M02 O' j];simp only[G0,k];rfl
  ·unfold K0g;have h1:(i:Int)<((D1 fr).length:Int):=by simp;omega
   simp only[q0,h1,P00 hw hR hn hl j d p h g hi,X1 (i:=i) O']
  ·unfold K0g;have z:∀f,U1 fr.length fr.length (a0x fr.length 0 f)=U1 fr.length fr.length f:=fun f=>d0F fun a b _ _=>by simp_all[a0x]
   simp_all
 ·unfold J0M;have h1:(i:Int)<((D1 fr).length:Int):=by simp;omega
  have t:=P8 g.lt hi;have s:¬((fr.getD i 0:Nat):Int)<0:=O'
  have q:¬((fr.getD i 0:Nat):Int)>=((U2 m fB fD).B.length:Int):=O'
  simp only[q0,h1,q9 hi,a0T hi,s,q,X1 (i:=i) O']
 simp[J0M]
end
def wrap_u64 {n:Nat}(h:n<18446744073709551616):IntKind.wrap .u64 (n:Int)=n:=by
 simp[IntKind.wrap,IntKind.bits,IntKind.signed];omega
def w0U (x y:BitVec 64):Q2 .u64 (x.toNat:Int) (y.toNat:Int)=((x&&& y).toNat:Int):=by
 unfold Q2;simp only[IntKind.bits,BitVec.ofInt_natCast,BitVec.ofNat_toNat,BitVec.setWidth_eq];exact wrap_u64 (x&&& y).isLt
def G0K {k:Nat}(h:k<64):shl .u64 1 (k:Int)=((BitVec.twoPow 64 k).toNat:Int):=by
 have h1:min k 64=k:=O'
 have c:2 ^ k<18446744073709551616:=Nat.pow_lt_pow_right (a:=2) O' (show k<64 from h);unfold shl;rw[show(IntKind.u64).bits=64 from rfl,toNat_natCast,h1,Int.one_mul,BitVec.toNat_twoPow,Nat.mod_eq_of_lt c];rw[show((2:Int) ^ k)=((2 ^ k:Nat):Int) from X'];exact wrap_u64 c
def D00 (x:BitVec 64){k:Nat}(h:k<64):shr .u64 (x.toNat:Int) (k:Int)=((x >>> k).toNat:Int):=by
 have h1:min k 64=k:=O'
 unfold shr;rw[show(IntKind.u64).bits=64 from rfl,toNat_natCast,h1,BitVec.toNat_ushiftRight,Nat.shiftRight_eq_div_pow,show((2:Int) ^ k)=((2 ^ k:Nat):Int) from X',Int.fdiv_eq_ediv_of_nonneg _ (Int.natCast_nonneg _),Int.natCast_ediv]
def D0A {v:Int}(d:0<=v)(h1:v<18446744073709551616){k:Nat}(hk:k<64):(Q2 .u64 v (shl .u64 1 (k:Int)) != 0)=(Q2 .u64 (shr .u64 v (k:Int)) 1==1):=by
 obtain⟨x,rfl⟩:∃x:BitVec 64,v=(x.toNat:Int):=⟨BitVec.ofNat 64 v.toNat,by rw[BitVec.toNat_ofNat,Nat.mod_eq_of_lt O'];omega⟩
 rw[G0K hk,D00 x hk,w0U,show(1:Int)=((BitVec.twoPow 64 0).toNat:Int)from rfl,w0U,BitVec.and_twoPow,BitVec.and_twoPow];have c:(x >>> k).getLsbD 0=x.getLsbD k:=X'
 rw[c];have hp:(BitVec.twoPow 64 k).toNat≠0:=by
  rw[BitVec.toNat_twoPow,Nat.mod_eq_of_lt (Nat.pow_lt_pow_right (a:=2) O' (show k<64 from hk))];exact Nat.ne_of_gt (Nat.two_pow_pos k)
 cases x.getLsbD k with
 |false=>simp
 |true=>
  have:((BitVec.twoPow 64 k).toNat:Int)≠0:=O'
  simp only[if_true,bne_iff_ne,ne_eq,this,not_false_eq_true,beq_self_eq_true,bne,beq_eq_false_iff_ne.2 this,Bool.not_false]
def hasB (s:List Int)(b:Int):Bool:=Q2 .u64 (gt s (Int.tdiv b 64)) (shl .u64 1 (Int.tmod b 64)) != 0
def t0N (fuel:Nat){s:List Int}(hs:s.length=4/\∀y∈s,L5 .u64 y){b:Int}(j:L5 .u8 b):e0H fuel s b=some (hasB s b)/\w0t fuel s (W b)=some (hasB s b):=by
 have v:0<=b/\b<256:=⟨j.1,by have:=j.2;rw[show IntKind.u8.max=255 from rfl]at this;omega⟩
 obtain⟨n,rfl⟩:∃n:Nat,b=n:=⟨b.toNat,O'⟩
 have hn:n<256:=O'
 have hd:Int.tdiv (n:Int) 64=((n / 64:Nat):Int):=by rw[Int.tdiv_eq_ediv_of_nonneg O'];simp
 have hm:Int.tmod (n:Int) 64=((n % 64:Nat):Int):=by rw[Int.tmod_eq_emod_of_nonneg O'];simp
 have g:IntKind.wrap .u8 ((n / 64:Nat):Int)=((n / 64:Nat):Int):=by simp[IntKind.wrap,IntKind.bits,IntKind.signed];omega
 have f:W (n:Int)=n:=r0d O';have d:W ((n / 64:Nat):Int)=((n / 64:Nat):Int):=r0d O';have p:v0w 4 ((n / 64:Nat):Int)=true:=by simp[v0w];omega
 have c:=hs.2 _ (mem_of_getElem? (P4 (l:=s) (i:=n / 64) O'));have h:0<=gt s ((n / 64:Nat):Int)/\gt s ((n / 64:Nat):Int)<18446744073709551616:=⟨c.1,by have:=c.2;rw[show IntKind.u64.max=18446744073709551615 from rfl]at this;omega⟩
 have w:(0:Int)<=((n % 64:Nat):Int):=O'
 unfold e0H w0t hasB;have o:(0:Int)<=((n / 64:Nat):Int):=O'
 have k:((n / 64:Nat):Int)<4:=O'
 have q:¬((n % 64:Nat):Int)<0:=O'
 have u:(n:Int)>=0:=O'
 have t:(n:Int)<256:=O'
 simp only[q0,f,hd,hm,g,d,o,k,q,u,t,Bool.and_self,D0A h.1 h.2 (show n % 64<64 from O'),and_self]
def F8 (ws:List B0)(r:Nat):Option B0:=ws.find? fun h=>h.To==(r:Int)
def c02 (ws:List B0)(r:Nat):B0:=(F8 ws r).getD ⟨0,0,[]⟩
def T3 (Ws:List (List B0))(r k:Nat):List Nat:=(List.range k).filter fun i=>(F8 (Ws.getD i []) r).isSome
def l7 (Ws:List (List B0))(r k:Nat):List B0:=(T3 Ws r k).map fun i=>c02 (Ws.getD i []) r
def t04 (Ws:List (List B0))(r k:Nat):T3 Ws r (k+1)=T3 Ws r k++if(F8 (Ws.getD k []) r).isSome then[k]else[]:=by
 unfold T3;rw[List.range_succ,List.filter_append];congr 1;cases h:(F8 (Ws.getD k []) r).isSome
 ·simp only[List.filter_cons,h,false_eq_true,if_false,List.filter_nil]
 ·simp only[List.filter_cons,h,if_true,List.filter_nil]
def y0S (Ws:List (List B0))(r k:Nat):l7 Ws r (k+1)=l7 Ws r k++if(F8 (Ws.getD k []) r).isSome then[c02 (Ws.getD k []) r]else[]:=by
 unfold l7;rw[t04,List.map_append];congr 1;split<;>rfl
def w0x {Ws:List (List B0)}{r k i:Nat}(h:i∈T3 Ws r k):i<k:=List.mem_range.1 (mem_filter.1 h).1
def s0Q (Ws:List (List B0))(r k:Nat):(T3 Ws r k).length<=k:=Nat.le_trans (List.length_filter_le _ _) X'
def s06 (Ws:List (List B0))(r k:Nat):(l7 Ws r k).length=(T3 Ws r k).length:=by simp[l7]
def H0K {ws:List B0}{r:Nat}(h:(F8 ws r).isSome=true):c02 ws r∈ws/\(c02 ws r).To=r:=by
 unfold c02;cases e:F8 ws r with
 |none=>rw[e]at h;simp at h
 |some x=>
  have:=List.find?_some e;exact⟨List.mem_of_find?_eq_some e,by simpa using this⟩
def b0T (fB fD:Nat->Nat->Int)(Ws:List (List B0))(r:Nat):Nat:=(f0I fB fD (T3 Ws r Ws.length) (l7 Ws r Ws.length)).toNat
def e0Z (fB fD:Nat->Nat->Int)(Ws:List (List B0))(r:Nat):Nat:=(T3 Ws r Ws.length).getD (b0T fB fD Ws r) 0
def i0b (fB fD:Nat->Nat->Int)(Ws:List (List B0))(r:Nat):B0:=c02 (Ws.getD (e0Z fB fD Ws r) []) r
def H6 (hs:Nat->Bool)(Ws:List (List B0))(k:Nat):List Nat:=(List.range k).filter fun r=>hs r&&!(T3 Ws r Ws.length).isEmpty
def A0A (hs:Nat->Bool)(Ws:List (List B0))(k:Nat):H6 hs Ws (k+1)=H6 hs Ws k++if hs k&&!(T3 Ws k Ws.length).isEmpty then[k]else[]:=by
 unfold H6;rw[List.range_succ,List.filter_append];congr 1;cases h:(hs k&&!(T3 Ws k Ws.length).isEmpty)<;>simp[h]
def w09 {hs:Nat->Bool}{Ws:List (List B0)}{k i:Nat}(h:i∈H6 hs Ws k):i<k:=List.mem_range.1 (mem_filter.1 h).1
def w0W (hs:Nat->Bool)(Ws:List (List B0))(k:Nat):(H6 hs Ws k).length<=k:=Nat.le_trans (List.length_filter_le _ _) X'
def r0g (hs:Nat->Bool)(Ws:List (List B0))(k:Nat):(H6 hs Ws k).Pairwise fun a b=>a<b:=List.Pairwise.filter _ List.pairwise_lt_range
def D0w {hs:Nat->Bool}{Ws:List (List B0)}{k r:Nat}(h:r∈H6 hs Ws k):hs r=true/\T3 Ws r Ws.length≠[]:=by
 have:=(mem_filter.1 h).2;simpa using this
def D03 {fB fD:Nat->Nat->Int}{fr:List Nat}{hops:List B0}:∀k,0<k->∃j:Nat,c00 fB fD fr hops k=j/\j<k:=by
 intro k
 induction k with
 |zero=>intro h;omega
 |succ k ih=>
  intro _;rw[n0n];unfold f0E;split
  ·exact⟨k,rfl,O'⟩
  ·split
   ·exact⟨k,rfl,O'⟩
   ·rcases v03 fB fD fr hops k with h|⟨j,h,hj⟩
    ·rename_i c _;rw[h]at c;exact absurd (show(-1:Int)<0 from O') c
    ·exact⟨j,h,O'⟩
def y0K {fB fD:Nat->Nat->Int}{fr:List Nat}{hops:List B0}(h:fr≠[]):∃j:Nat,f0I fB fD fr hops=j/\j<fr.length:=D03 _ (List.length_pos_iff.2 h)
theorem A0s {fB fD:Nat->Nat->Int}{hops:List B0}:f0I fB fD [] hops=-1:=rfl
section
variable {fB fD:Nat->Nat->Int}{Ws:List (List B0)}{r:Nat}
def l0V (h:T3 Ws r Ws.length≠[]):f0I fB fD (T3 Ws r Ws.length) (l7 Ws r Ws.length)=(b0T fB fD Ws r:Int)/\b0T fB fD Ws r<(T3 Ws r Ws.length).length:=by
 obtain⟨j,h1,c⟩:=y0K (fB:=fB) (fD:=fD) (hops:=l7 Ws r Ws.length) h;unfold b0T;rw[h1];exact⟨rfl,c⟩
def v0c (h:T3 Ws r Ws.length≠[]):e0Z fB fD Ws r∈T3 Ws r Ws.length:=by
 have:=(l0V (fB:=fB) (fD:=fD) h).2;unfold e0Z;rw[show(T3 Ws r Ws.length).getD (b0T fB fD Ws r) 0=(T3 Ws r Ws.length)[b0T fB fD Ws r]from by simp[List.getD,this]];exact List.getElem_mem this
def e0o (h:T3 Ws r Ws.length≠[]):e0Z fB fD Ws r<Ws.length:=w0x (v0c h)
def H0C (h:T3 Ws r Ws.length≠[]):gt (l7 Ws r Ws.length) (b0T fB fD Ws r:Int)=i0b fB fD Ws r:=by
 have:=(l0V (fB:=fB) (fD:=fD) h).2;refine X2 ?_;unfold i0b e0Z l7;simp[List.getD,this]
def i0V (h:T3 Ws r Ws.length≠[]):i0b fB fD Ws r∈Ws.getD (e0Z fB fD Ws r) []/\(i0b fB fD Ws r).To=r:=H0K (mem_filter.1 (v0c h)).2
end
def t0V (hs:Nat->Bool)(Ws:List (List B0)):Nat->Nat
 |0=>0
 |r+1=>t0V hs Ws r+if hs r then(T3 Ws r Ws.length).length else 0
end Go.Proofs.YtihmgaccbcfgjaaGreat
namespace Go.Proofs.YtihmgaccbcfgjaaGreat
open Go.V Go.RowKit Old Go.X
section
variable {F:Nat}{l:List C0}{n:Nat}
def x0Z {ws:List B0}{j r:Nat}(c:j<ws.length)(h:(gt ws (j:Int)).To≠(r:Int)):F8 (ws.take (j+1)) r=F8 (ws.take j) r:=by
 unfold F8;rw[List.take_succ,P4 c,List.find?_append];simp[List.find?_cons,h]
def y0t {n:Nat}{ws:List B0}(hw:K8 n ws){j r:Nat}(d:j<ws.length)(h:(gt ws (j:Int)).To=(r:Int)):F8 (ws.take (j+1)) r=some (gt ws (j:Int))/\F8 (ws.take j) r=none:=by
 have c:F8 (ws.take j) r=none:=by
  unfold F8;rw[List.find?_eq_none];intro x g;obtain⟨i,hi,he⟩:=List.mem_iff_getElem.1 g;simp only[List.length_take]at hi;have hd:=List.pairwise_iff_getElem.1 hw.dist i j O' d O';rw[List.getElem_take]at he;rw[<-he];have f:gt ws (j:Int)=ws[j]:=X2 (by simp[d]);rw[f]at h;simp only[beq_iff_eq];omega
 refine⟨?_,c⟩;unfold F8 at c ⊢;rw[List.take_succ,P4 d,List.find?_append,c];simp[h]
def setOf (l:List C0){n:Nat}(hn:n=N0 l l.length)(hw:∀x∈l,P2 x){r:Nat}(f:r<n):y0 ((G2 l l.length).map fun q=>(gt l q).Set) (r:Int)=true/\gtZ 4 ((G2 l l.length).map fun q=>(gt l q).Set) (r:Int)=(gt l (gt (G2 l l.length) (r:Int))).Set/\
  ((gt l (gt (G2 l l.length) (r:Int))).Set.length=4/\∀y∈(gt l (gt (G2 l l.length) (r:Int))).Set,L5 .u64 y):=by
 obtain⟨q,d,c,g⟩:=l0e l hn (x:=(r:Int)) O' O';have hlen:=K9 l l.length;refine⟨V0 O' Y',?_,?_⟩
 ·unfold gtZ;have:(G2 l l.length)[r]?=some (gt (G2 l l.length) (r:Int)):=P4 O';exact @X2 _ ⟨List.replicate 4 0⟩ _ _ _ (by rw[List.getElem?_map,this];rfl)
 ·rw[c];have:=hw _ (mem_of_getElem? (P4 (l:=l) (i:=q) d));exact this.2.2.2.2
def s7 (l:List C0)(b_:Int)(r:Nat):Bool:=hasB (gt l (gt (G2 l l.length) (r:Int))).Set b_
end
def Z1 (a:List B0)(b:Nat->List B0)(pl:List Nat)(E0:Bool):List (List B0):=pl.map b++if E0 then[a]else[]
def goV (l:List C0)(at_:Int)(vals:List (List Int))(E0:Bool):List (List Int):=vals++if E0 then[k0o l at_]else[]
def C5 (pl:List Nat)(E0:Bool):Nat:=if E0 then pl.length+1 else pl.length
def F5 (pl:List Nat)(E0:Bool)(fB:Nat->Nat->Int):Nat->Nat->Int:=if E0 then g0x pl.length fB else fB
def a6 (pl:List Nat)(E0:Bool)(fD:Nat->Nat->Int):Nat->Nat->Int:=if E0 then e0R pl.length fD else fD
def d0B (a:List B0)(b:Nat->List B0)(pl:List Nat)(E0:Bool):(Z1 a b pl E0).length=C5 pl E0:=by unfold Z1 C5;cases E0<;>simp
section
variable {F:Nat}{l:List C0}{n:Nat}{a:List B0}{b:Nat->List B0}{e:Nat->B0×Bool}{z:B0×Bool}{at_ work:Int}{pl:List Nat}{vals:List (List Int)}{fB fD:Nat->Nat->Int}
def B0I (C:R3 l n pl vals fB fD)(E0:Bool):(goV l at_ vals E0).length=C5 pl E0:=by unfold goV C5;cases E0<;>simp[C.len]
def l0W (C:R3 l n pl vals fB fD)(E0:Bool):a0y (C5 pl E0) (F5 pl E0 fB) (a6 pl E0 fD):=by
 unfold C5 F5 a6;cases E0 with
 |false=>exact C.rk
 |true=>exact H0m C.rk
def z0G (C:R3 l n pl vals fB fD)(E0:Bool):∀v∈goV l at_ vals E0,v.length=(C4 l).toNat:=by
 intro v c;unfold goV at c;rcases List.mem_append.1 c with h|h
 ·exact C.row v h
 ·cases E0 with
  |false=>simp at h
  |true=>simp at h;subst h;exact B0S l at_
def l0d (K:U3 l n a b e z F)(C:R3 l n pl vals fB fD)(E0:Bool):∀i,i<(Z1 a b pl E0).length->K8 n ((Z1 a b pl E0).getD i [])/\((Z1 a b pl E0).getD i []).length<=500000/\(∀h∈(Z1 a b pl E0).getD i [],b0j n h)/\p9 800 ((Z1 a b pl E0).getD i []):=by
 intro i hi;have hm:(Z1 a b pl E0).getD i []∈Z1 a b pl E0:=by
  rw[show(Z1 a b pl E0).getD i []=(Z1 a b pl E0)[i]from by simp[List.getD,hi]];exact List.getElem_mem hi
 have hop:∀{ws:List B0},K8 n ws->a0L ws->∀h∈ws,b0j n h:=fun hw d h c=>⟨(hw.ok h c).1,(hw.ok h c).2.1,(d h c).1,(d h c).2⟩
 generalize (Z1 a b pl E0).getD i []=ws at *;unfold Z1 at hm;rcases List.mem_append.1 hm with h|h
 ·obtain⟨p,hp,rfl⟩:=mem_map.1 h;have:=C.pln p hp;exact⟨K.T.bw p this,K.T.bl p this,hop (K.T.bw p this) (K.T.bT p this),K.T.bb p this⟩
 ·cases E0 with
  |false=>simp at h
  |true=>simp at h;subst h;exact⟨K.T.aw,K.T.al,hop K.T.aw K.T.aT,K.T.ab⟩
def Z3 (l:List C0)(n:Nat)(a:List B0)(b:Nat->List B0)(pl:List Nat)(b_:Int)(E0:Bool):List Nat:=H6 (s7 l b_) (Z1 a b pl E0) n
def T5 (a:List B0)(b:Nat->List B0)(pl:List Nat)(fB fD:Nat->Nat->Int)(E0:Bool)(r:Nat):Nat:=e0Z (F5 pl E0 fB) (a6 pl E0 fD) (Z1 a b pl E0) r
def V5 (a:List B0)(b:Nat->List B0)(pl:List Nat)(fB fD:Nat->Nat->Int)(E0:Bool)(r:Nat):B0:=i0b (F5 pl E0 fB) (a6 pl E0 fD) (Z1 a b pl E0) r
def stV (l:List C0)(a:List B0)(b:Nat->List B0)(at_:Int)(pl:List Nat)(vals:List (List Int))(fB fD:Nat->Nat->Int)(E0:Bool)(r:Nat):List Int:=
 Z9 at_ (-1) (gt (goV l at_ vals E0) (T5 a b pl fB fD E0 r:Int)) (a7 l (V5 a b pl fB fD E0 r).Steps)
def stW (l:List C0)(n:Nat)(a:List B0)(b:Nat->List B0)(pl:List Nat)(b_:Int)(E0:Bool):Int:=
 (t0V (s7 l b_) (Z1 a b pl E0) n:Int)+(((Z3 l n a b pl b_ E0).length:Int)*C4 l+((Z3 l n a b pl b_ E0).length:Int)*((Z3 l n a b pl b_ E0).length:Int))
def c09 {b_:Int}{E0:Bool}{r:Nat}(h:r∈Z3 l n a b pl b_ E0):r<n/\T3 (Z1 a b pl E0) r (Z1 a b pl E0).length≠[]:=⟨w09 h,(D0w h).2⟩
def I0Y {b_:Int}{E0:Bool}:(Z3 l n a b pl b_ E0).length<=n:=w0W _ _ _
def w0s (K:U3 l n a b e z F)(C:R3 l n pl vals fB fD)(b_:Int)(E0:Bool):q0J l n (C5 pl E0) ((Z3 l n a b pl b_ E0).map (T5 a b pl fB fD E0)) ((Z3 l n a b pl b_ E0).map (V5 a b pl fB fD E0)) where
 lt i hi:=by
  obtain⟨r,c,rfl⟩:=mem_map.1 hi;rw[<-d0B a b];exact e0o (c09 c).2
 len:=X'
 le:=by have:=I0Y (l:=l) (n:=n) (a:=a) (b:=b) (pl:=pl) (b_:=b_) (E0:=E0);have:=K.T.n64;simp;omega
 hop x d:=by
  obtain⟨r,c,rfl⟩:=mem_map.1 d;have hm:=i0V (fB:=F5 pl E0 fB) (fD:=a6 pl E0 fD) (c09 c).2;exact(l0d K C E0 _ (e0o (c09 c).2)).2.2.1 _ hm.1
 asc:=by
  rw[List.pairwise_map];refine(r0g _ _ _).imp_of_mem fun {x y} d f g=>?_;have h1:=(i0V (fB:=F5 pl E0 fB) (fD:=a6 pl E0 fD) (c09 d).2).2;have h:=(i0V (fB:=F5 pl E0 fB) (fD:=a6 pl E0 fD) (c09 f).2).2;unfold V5;rw[h1,h];omega
def m07 {V:List (List Int)}{m:Nat}(h:∀v∈V,v.length=(C4 l).toNat)(hl:V.length=m){k:Nat}(hk:k<m):(gt V (k:Int)).length=(C4 l).toNat/\y0 V (k:Int)=true:=
 ⟨h _ (mem_of_getElem? (P4 O')),V0 O' O'⟩
def C0W (K:U3 l n a b e z F)(C:R3 l n pl vals fB fD)(hw:∀x∈l,P2 x)(b_:Int)(E0:Bool):
  R3 l n (Z3 l n a b pl b_ E0) ((Z3 l n a b pl b_ E0).map (stV l a b at_ pl vals fB fD E0)) (u6 l (F5 pl E0 fB) ((Z3 l n a b pl b_ E0).map (T5 a b pl fB fD E0)) ((Z3 l n a b pl b_ E0).map (V5 a b pl fB fD E0))) (Q6 l (F5 pl E0 fB) (a6 pl E0 fD) ((Z3 l n a b pl b_ E0).map (T5 a b pl fB fD E0)) ((Z3 l n a b pl b_ E0).map (V5 a b pl fB fD E0))) where
 len:=X'
 pln r c:=(c09 c).1
 asc:=r0g _ _ _
 row v hv:=by
  obtain⟨r,c,rfl⟩:=mem_map.1 hv;unfold stV;rw[e0V];exact(m07 (z0G C E0) (B0I C E0) (by rw[<-d0B a b];exact e0o (c09 c).2)).1
 rk:=by
  have g:=w0s K C b_ E0;have:=t07 hw K.hR K.hn (l0W C E0) g.lt g.len g.hop g.asc;simpa using this
end
section
variable {F:Nat}{l:List C0}{n:Nat}{a:List B0}{b:Nat->List B0}{e:Nat->B0×Bool}{z:B0×Bool}{at_ work:Int}{pl:List Nat}{vals:List (List Int)}{fB fD:Nat->Nat->Int}
def A0d (K:U3 l n a b e z F)(C:R3 l n pl vals fB fD)(E0:Bool)(r:Nat):(T3 (Z1 a b pl E0) r (Z1 a b pl E0).length).length<=500/\∀i∈T3 (Z1 a b pl E0) r (Z1 a b pl E0).length,i<C5 pl E0:=by
 have hm:=C.le;have hn:=K.T.n64;have h1:=s0Q (Z1 a b pl E0) r (Z1 a b pl E0).length;rw[d0B]at h1;refine⟨by
       have:C5 pl E0<=pl.length+1:=by unfold C5;split<;>omega
       rw[d0B];omega,fun i hi=>?_⟩
 rw[<-d0B a b];exact w0x hi
def t0H (K:U3 l n a b e z F)(C:R3 l n pl vals fB fD)(E0:Bool):C5 pl E0<=401:=by
 have hm:=C.le;have hn:=K.T.n64;unfold C5;split<;>omega
def H0f (K:U3 l n a b e z F)(C:R3 l n pl vals fB fD){b_:Int}{E0:Bool}{r:Nat}(h:T3 (Z1 a b pl E0) r (Z1 a b pl E0).length≠[]):(V5 a b pl fB fD E0 r).Steps.length<=2000000/\N2 800 (V5 a b pl fB fD E0 r).Steps:=by
 have hm:=i0V (fB:=F5 pl E0 fB) (fD:=a6 pl E0 fD) h;have hw:=l0d K C E0 _ (e0o (fB:=F5 pl E0 fB) (fD:=a6 pl E0 fD) h);exact⟨(hw.1.ok _ hm.1).2.2,hw.2.2.2 _ hm.1⟩
set_option maxHeartbeats 2000000 in
set_option maxHeartbeats 2000000 in
end
def M0G {α:Type}{p:α->Bool}:∀(l:List α) (i:Nat) (x:α),l[i]?=some x->p x=true->(∀j y,j<i->l[j]?=some y->p y=false)->l.find? p=some x
 |[],i,x,h,_,_=>by simp at h
 |y :: r,0,x,h,hp,_=>by simp at h;subst h;simp[hp]
 |y :: r,i+1,x,h,hp,hn=>by
  have d:=hn 0 y O' X';simp only[List.find?_cons,d];exact M0G r i x (by simpa using h) hp (fun j z f c=>hn (j+1) z O' (by simpa using c))
section
variable {F:Nat}{l:List C0}{n:Nat}{a:List B0}{b:Nat->List B0}{e:Nat->B0×Bool}{z:B0×Bool}{at_ work:Int}{pl:List Nat}{vals:List (List Int)}{fB fD:Nat->Nat->Int}
abbrev xT (l:List C0)(n:Nat)(a:List B0)(b:Nat->List B0)(e:Nat->B0×Bool)(at_ work:Int)(places:List Int)(tags:List (List Int))(c:D2):(List C0)×(List Int)×(List B0)×(List (List B0))×(List (List Int))×Int×Int×(List Int)×(List (List Int))×D2:=
 (l,G2 l l.length,a,(List.range n).map b,(List.range n).map fun p=>(e p).1.Steps,at_,work,places,tags,c)
set_option maxHeartbeats 2000000 in
set_option maxHeartbeats 2000000 in
end
abbrev Fb:Nat:=10000000000000
def E02 {p:List C0}(h:wfD en 20 (.list (.st 3)) p):∀x∈p,P2 x:=fun x f=>by
 obtain⟨h1,j,g,i,⟨d,c⟩,_⟩:=h x f;exact⟨h1,j,g,i,d,c⟩
def b8 {α:Type}[Inhabited α]{l:List α}{i:Nat}(h:i<l.length):gt l (i:Int)∈l:=mem_of_getElem? (P4 h)
section
variable {l:List C0}
def y05 (hR:L2 l=false)(hl:l.length*64<=140737488351232)(c:l.length<=1000):l6 Fb l=some false/\U6 Fb l=some false:=by
 refine⟨(by rw[Old.c0y l (show 401<Fb by unfold Fb;omega),hR]),(by rw[Old.e02 l hl (show l.length+1<Fb by unfold Fb;omega),hR])⟩
def known (hw:∀x∈l,P2 x)(hR:L2 l=true)(hl:l.length*64<=140737488351232)(c:l.length<=1000):∃a b e z,U3 l (N0 l l.length) a b e z Fb:=by
 obtain⟨a,b,e,z,T,TF⟩:=q0E hw hl hR;exact⟨a,b,e,z,hR,hl,rfl,T,by unfold Fb;omega,by unfold Fb;omega,by unfold Fb;omega,TF Fb (by unfold Fb;omega) (by unfold Fb;omega)⟩
def B0r (l:List C0)(n:Nat):R3 l n [] [] (fun _ _=>0) (fun _ _=>0) where
 len:=rfl
 pln:=by intro p h;cases h
 asc:=List.Pairwise.nil
 row:=by intro v h;cases h
 rk:=⟨fun i k h=>by simp at h,fun i h=>rfl,fun i h=>rfl,fun i k h=>by simp at h,fun i k h=>by simp at h⟩
end
