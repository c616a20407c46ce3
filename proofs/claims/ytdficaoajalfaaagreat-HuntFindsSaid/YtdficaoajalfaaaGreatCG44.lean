/- P. Its conditions: none. -/
import Derived.Test.YtdficaoajalfaaaGreatCG43
open Int (toNat_natCast natCast_nonneg)
open Bool (false_eq_true)
set_option linter.all false
namespace Go.Proofs.YtdficaoajalfaaaGreat
open Go.V Go.RowKit Old
def M9 (l:List C0)(x y:y0):Int:=gt (a0n l) ((b8 l (gt (L2 l l.length) x.To).toNat (gt (L2 l l.length) y.To).toNat:Nat):Int)+1
def f09 (l:List C0)(x y:y0):Bool:=(gt l ((b8 l (gt (L2 l l.length) x.To).toNat (gt (L2 l l.length) y.To).toNat:Nat):Int)).Kind==3
def u7 (l:List C0)(x y:y0):Int×Int×Int:=
 if x.Turn>y.Turn then(x.Turn+1,y.Turn+1,1)else if x.Turn<y.Turn then(x.Turn+1,y.Turn+1,-1)else
 if x.To>y.To then(M9 l x y,if f09 l x y then M9 l x y+1 else M9 l x y,-1)else(if f09 l x y then M9 l x y+1 else M9 l x y,M9 l x y,1)
def B0F (l:List C0)(x y:y0):M9 l x y=M9 l y x:=by unfold M9;rw[p0I]
def C02 (l:List C0)(x y:y0):f09 l x y=f09 l y x:=by unfold f09;rw[p0I]
def j0v (l:List C0)(x y:y0)(h:x.To≠y.To):u7 l y x=((u7 l x y).2.1,(u7 l x y).1,- (u7 l x y).2.2):=by
 unfold u7;rw[B0F l y x,C02 l y x];rcases Int.lt_trichotomy x.Turn y.Turn with c|c|c
 ·rw[if_pos (show y.Turn>x.Turn from c),if_neg (show ¬x.Turn>y.Turn from O'),if_pos c];simp
 ·rw[if_neg (show ¬y.Turn>x.Turn from O'),if_neg (show ¬y.Turn<x.Turn from O'),if_neg (show ¬x.Turn>y.Turn from O'),if_neg (show ¬x.Turn<y.Turn from O')];rcases Int.lt_or_gt_of_ne h with c2|c2
  ·rw[if_pos (show y.To>x.To from c2),if_neg (show ¬x.To>y.To from O')]
  ·rw[if_neg (show ¬y.To>x.To from O'),if_pos (show x.To>y.To from c2)];simp
 ·rw[if_neg (show ¬y.Turn>x.Turn from O'),if_pos (show y.Turn<x.Turn from c),if_pos (show x.Turn>y.Turn from c)]
structure a0L (n:Nat)(h:y0):Prop where
 to0:0<=h.To
 to1:h.To<n
 t0:0<=h.Turn
 t1:h.Turn<=400
def s0N {l:List C0}(hw:∀x∈l,o3 x)(hR:K1 l=true){n:Nat}(hn:n=L0 l l.length){x y:y0}(e:a0L n x)(f:a0L n y):0<=(u7 l x y).1/\0<=(u7 l x y).2.1/\((u7 l x y).2.2=1\/(u7 l x y).2.2=-1):=by
 have g:1<=M9 l x y:=by
  obtain⟨h1,h,s,k⟩:=e;obtain⟨v,w,j,o⟩:=f;obtain⟨p,hp,d,_⟩:=c0J l l.length x.To.toNat O';obtain⟨q,g,c,_⟩:=c0J l l.length y.To.toNat O';have t:gt (L2 l l.length) x.To=(p:Int):=o0O d;have i:gt (L2 l l.length) y.To=(q:Int):=o0O c;have u:=(p0G hw hR (a:=p) (b:=q) hp g).1;have:=((o0H hw hR).2 _ u).1;unfold M9;rw[t,i];simp only[toNat_natCast];omega
 obtain⟨h1,h,s,k⟩:=e;obtain⟨v,w,j,o⟩:=f;unfold u7;split
 ·exact⟨by simp only;omega,by simp only;omega,.inl rfl⟩
 ·split
  ·exact⟨by simp only;omega,by simp only;omega,.inr rfl⟩
  ·split
   ·refine⟨by simp only;omega,?_,.inr rfl⟩;simp only;split<;>omega
   ·refine⟨?_,by simp only;omega,.inl rfl⟩;simp only;split<;>omega
section
variable (l:List C0)(fB fD:Nat->Nat->Int)(fr:List Nat)(hops:List y0)
def P5 (i k:Nat):Int:=if i=k then 0 else if fr.getD i 0=fr.getD k 0 then(u7 l (gt hops (i:Int)) (gt hops (k:Int))).1 else J4 (fB (fr.getD i 0) (fr.getD k 0)) (gt hops (i:Int)).Turn
def N6 (i k:Nat):Int:=if i=k then 0 else if fr.getD i 0=fr.getD k 0 then(u7 l (gt hops (i:Int)) (gt hops (k:Int))).2.2 else i7 fB fD (fr.getD i 0) (fr.getD k 0) (gt hops (i:Int)) (gt hops (k:Int))
end
def t0B {fB fD:Nat->Nat->Int}{a b:Nat}{p q:y0}(h:fD b a=- fD a b):i7 fB fD b a q p=- i7 fB fD a b p q:=by
 unfold i7;rcases Int.lt_trichotomy (J4 (fB a b) p.Turn) (J4 (fB b a) q.Turn)with c|c|c
 ·rw[if_pos c,if_neg (show ¬J4 (fB a b) p.Turn>J4 (fB b a) q.Turn from O'),if_pos c];rfl
 ·rw[if_neg O',if_neg O',if_neg O',if_neg O',h]
 ·rw[if_neg O',if_pos c,if_pos c]
def w0L {b t:Int}(d:0<=b)(c:0<=t)(a:t<=400):0<=J4 b t:=by
 unfold J4;rw[n3 O' O'];split<;>omega
def p0F {fB fD:Nat->Nat->Int}{a b:Nat}{p q:y0}(h:fD a b=1\/fD a b=-1):i7 fB fD a b p q=1\/i7 fB fD a b p q=-1:=by
 unfold i7;split
 ·exact .inl rfl
 ·split
  ·exact .inr rfl
  ·exact h
def e08 {n:Nat}{hops:List y0}(h:∀x∈hops,a0L n x){i:Nat}(hi:i<hops.length):a0L n (gt hops (i:Int)):=h _ (List.mem_of_getElem? (u6 hi))
def p0X {hops:List y0}(h:hops.Pairwise fun a b=>a.To<b.To){i k:Nat}(hi:i<hops.length)(hk:k<hops.length)(d:i≠k):(gt hops (i:Int)).To≠(gt hops (k:Int)).To:=by
 have hp:=List.pairwise_iff_getElem.1 h;have e:gt hops (i:Int)=hops[i]:=B4 (by simp[hi]);have f:gt hops (k:Int)=hops[k]:=B4 (by simp[hk]);rw[e,f];rcases Nat.lt_or_gt_of_ne d with c|c
 ·have:=hp i k hi hk c;omega
 ·have:=hp k i hk hi c;omega
def p0k {l:List C0}(hw:∀x∈l,o3 x)(hR:K1 l=true){n:Nat}(hn:n=L0 l l.length){m:Nat}{fB fD:Nat->Nat->Int}(h:a0s m fB fD){fr:List Nat}{hops:List y0}(hi:∀i∈fr,i<m)(hlen:hops.length=fr.length)(f:∀x∈hops,a0L n x)
  (c:hops.Pairwise fun a b=>a.To<b.To):a0s fr.length (P5 l fB fr hops) (N6 l fB fD fr hops) where
 b0 i k h1 h2:=by
  have x1:=e08 f (i:=i) O';have x2:=e08 f (i:=k) O';unfold P5;split
  ·exact Int.le_refl _
  ·split
   ·exact(s0N hw hR hn x1 x2).1
   ·exact w0L (h.b0 _ _ (E8 hi h1) (E8 hi h2)) x1.t0 x1.t1
 bd i h1:=by unfold P5;rw[if_pos rfl]
 dd i h1:=by unfold N6;rw[if_pos rfl]
 d1 i k h1 h2 hne:=by
  have x1:=e08 f (i:=i) O';have x2:=e08 f (i:=k) O';unfold N6;rw[if_neg hne];split
  ·exact(s0N hw hR hn x1 x2).2.2
  ·rename_i g;exact p0F (h.d1 _ _ (E8 hi h1) (E8 hi h2) g)
 dn i k h1 h2:=by
  unfold N6
  by_cases e:i=k
  ·subst e;rw[if_pos rfl];rfl
  ·rw[if_neg e,if_neg (fun h=>e h.symm)]
   by_cases d:fr.getD i 0=fr.getD k 0
   ·rw[if_pos d,if_pos d.symm,j0v l _ _ (p0X c O' O' e)]
   ·rw[if_neg d,if_neg (fun h=>d h.symm)];exact t0B (h.dn _ _ (E8 hi h1) (E8 hi h2))
def e0m {σ τ:Type}{step:σ->Option (V0 σ τ)}{s a:σ}{k:Nat}(h:step s=some (.next a)):iter step (k+1) s=iter step k a:=by
 rw[show iter step (k+1) s=match step s with|none=>none|some (.next a)=>iter step k a|some (.done t)=>some t from rfl,h]
def a0o {σ τ:Type}{step:σ->Option (V0 σ τ)}{s:σ}{t:τ}{k:Nat}(h:step s=some (.done t)):iter step (k+1) s=some t:=by
 rw[show iter step (k+1) s=match step s with|none=>none|some (.next a)=>iter step k a|some (.done t)=>some t from rfl,h]
section
variable {F:Nat}{l:List C0}
def x07 {t:Tm}(v:O2 l t)(hR:K1 l=true){u d:List Int}(hu:UpT u t)(hd:b00 d t){b:Nat}(z:b<l.length):∀(fs:List Fr) (lo:Nat) (s:Tm),Ctx t lo s fs->∀k,fs.length<k->iter (a0l u (P4 l) (b:Int)) k (s.top lo:Int)=some ((b06 b fs lo s:Nat):Int):=by
 have w:=a0M hR;have hlen:=v.len;intro fs
 induction fs with
 |nil=>
  intro lo s g k hk;obtain⟨k,rfl⟩:∃q,k=q+1:=⟨k-1,by simp at hk;omega⟩
  have a:=g.at_ v;have e:=c0P hR a;have i:=a.j5;obtain⟨rfl,rfl⟩:=g;have c:B0 (P4 l) (s.top 0:Int)=true:=R0 O' (by rw[w.len];omega);have h1:(s.top 0:Int)>=0:=O'
  have j:gt (P4 l) (s.top 0:Int)<=(b:Int):=by rw[e];omega
  have y:(b:Int)<=(s.top 0:Int):=by unfold Tm.top;omega
  refine a0o ?_;unfold a0l;simp only[natCast_nonneg,decide_true,if_true,c,j,y,Bool.and_self,b06]
 |cons f fs ih=>
  intro lo s g k hk;obtain⟨k,rfl⟩:∃q,k=q+1:=⟨k-1,by simp at hk;omega⟩
  have a:=g.at_ v;have e:=c0P hR a;have i:=a.j5;have o:=g.r0u v hu hd;have c:B0 (P4 l) (s.top lo:Int)=true:=R0 O' (by rw[w.len];omega);have p:B0 u (s.top lo:Int)=true:=R0 O' (by rw[hu.len];omega);have hn:=ih _ _ g.2 k (by simp at hk;omega)
  by_cases h:lo<=b/\b<=s.top lo
  ·refine a0o ?_;unfold a0l;simp only[natCast_nonneg,decide_true,if_true,c,p,e,Bool.true_and,b06,o];have h1:(lo:Int)<=(b:Int):=O'
   have j:(b:Int)<=(s.top lo:Int):=O'
   simp only[h,h1,j,decide_true,Bool.and_self,if_true,and_self]
  ·have j:(decide ((lo:Int)<=(b:Int))&&decide ((b:Int)<=(s.top lo:Int)))=false:=by
    simp only[Bool.and_eq_false_iff,decide_eq_false_iff_not];omega
   have x:a0l u (P4 l) (b:Int) (s.top lo:Int)=some (.next ((Fr.E2 s f).top (lo-f.off):Int)):=by
    unfold a0l;simp only[q0,natCast_nonneg,c,p,e,Bool.true_and,o,j]
   rw[e0m x,b06,if_neg h,hn]
def x0P (hw:∀x∈l,o3 x)(hR:K1 l=true)(C:1000<F){a b:Nat}(ha:a<l.length)(j:b<l.length):e0Y F l (a:Int) (b:Int)=some ((b8 l a b:Nat):Int):=by
 obtain⟨t,c⟩:=a04 hw hR;obtain⟨u,h1,i⟩:=Old.l0S c hR (show 401<F from O');obtain⟨d,_,v⟩:=Old.i0j c hR (show 401<F from O');obtain⟨lo,s,fs,g,h⟩:=u0v c ha;have o:=i.len;have hlen:=c.len;have k:=c.le;have w:=g.size;have f:=z0R c hR (a:=a) j fs lo s g (by have:=s.size_pos;unfold Tm.top at h;omega) O' (fun q z y=>by
  have:¬l6 l a b q=true:=fun p=>by have:=(b0L.1 p).2.1;omega
  simpa using this)
 have e:=x07 c hR i v j fs lo s g F O';rw[h]at e;unfold e0Y;rw[B8 q0g h1];have c1:(decide ((a:Int)<0)||(decide ((b:Int)<0)||(decide ((a:Int)>=(u.length:Int))||decide ((b:Int)>=(u.length:Int)))))=false:=by
  simp only[Bool.or_eq_false_iff,decide_eq_false_iff_not];omega
 simp only[q0,c1,t0e (show 401<F from O'),e];rw[q05 f.2.2 f.1 f.2.1]
def L0G (hw:∀x∈l,o3 x)(hR:K1 l=true)(hl:l.length*64<=140737488351232)(U:1000<F)(f:l.length+1<F){a b:Nat}(ha:a<l.length)(o:b<l.length):G0A F l (a:Int) (b:Int)=some ((b8 l a b:Nat):Int):=by
 have i:=a0M hR;have j:=i.le;have hlen:=i.len;obtain⟨J,s,y⟩:=p0G hw hR ha o;unfold G0A;rw[E07 hR hl f];have c1:¬(a:Int)<0:=O'
 have c2:¬(b:Int)<0:=O'
 have c3:¬(a:Int)>=((P4 l).length:Int):=O'
 have C:¬(b:Int)>=((P4 l).length:Int):=O'
 simp only[q0,c1,c2,c3,C];have key:∀k,k<=b8 l a b->∀m,k<m->iter (A0G F l (a:Int) (b:Int) (P4 l)) m ((b8 l a b-k:Nat):Int)=some (.inl ((b8 l a b:Nat):Int)):=by
  intro k
  induction k with
  |zero=>
   intro _ m hm;obtain⟨m,rfl⟩:∃q,m=q+1:=⟨m-1,O'⟩
   rw[Nat.sub_zero];obtain⟨p1,R,p,I⟩:=b0L.1 s;have h1:((b8 l a b:Nat):Int)<(l.length:Int):=O'
   have c:B0 (P4 l) ((b8 l a b:Nat):Int)=true:=R0 O' O';have g:(a:Int)<=((b8 l a b:Nat):Int):=O'
   have z:(b:Int)<=((b8 l a b:Nat):Int):=O'
   refine a0o ?_;unfold A0G;simp only[q0,h1,c,p1,g,p,z]
  |succ k ih=>
   intro hk m hm;obtain⟨m,rfl⟩:∃q,m=q+1:=⟨m-1,O'⟩
   have hn:=ih O' m O';have u:b8 l a b-(k+1)<b8 l a b:=O'
   have d:=y _ u;have t:((b8 l a b-k:Nat):Int)=((b8 l a b-(k+1):Nat):Int)+1:=O'
   generalize b8 l a b-(k+1)=q at *;rw[t]at hn;have h1:(q:Int)<(l.length:Int):=O'
   have c:B0 (P4 l) (q:Int)=true:=R0 O' O';have v:W ((q:Int)+1)=(q:Int)+1:=n3 O' O';rw[<-hn];refine e0m ?_;unfold A0G;simp only[h1,decide_true,if_true,c,v];unfold l6 at d
   by_cases x1:gt (P4 l) (q:Int)<=(a:Int)
   ·by_cases x2:a<=q
    ·have e:(a:Int)<=(q:Int):=O'
     by_cases x3:gt (P4 l) (q:Int)<=(b:Int)
     ·have x4:¬b<=q:=fun h=>by simp[x1,x2,x3,h]at d
      have w:¬(b:Int)<=(q:Int):=O'
      simp only[q0,x1,e,x3,w]
     ·simp only[q0,x1,e,x3]
    ·have e:¬(a:Int)<=(q:Int):=O'
     simp only[q0,x1,e]
   ·simp only[q0,x1]
 have:=key (b8 l a b) (Nat.le_refl _) F O';rw[Nat.sub_self]at this;have g:iter (A0G F l (a:Int) (b:Int) (P4 l)) F 0=_:=this;rw[g];rfl
def n0J (l:List C0){n:Nat}(hn:n=L0 l l.length){x:Int}(c:0<=x)(h1:x<n):∃q:Nat,q<l.length/\gt (L2 l l.length) x=(q:Int)/\B0 (L2 l l.length) x=true:=by
 obtain⟨q,b,a,_⟩:=c0J l l.length x.toNat O';refine⟨q,b,o0O a,R0 c ?_⟩;rw[I9];omega
def r0e (hw:∀x∈l,o3 x)(hR:K1 l=true){n:Nat}(hn:n=L0 l l.length)(R:1000<F)(j:K7 F l=some (L2 l l.length)){x y:y0}(w:a0L n x)(z:a0L n y)(b:x.To≠y.To)(k:Nat)(hle:x.Turn≠y.Turn\/x.To<y.To):
  e0L F (k+1) l x y=some (u7 l x y):=by
 obtain⟨f,a2,a3,a4⟩:=w;obtain⟨d,C,b3,b4⟩:=z;have v:=I9 l l.length;unfold e0L;rw[j];have c1:x.To>=0:=f;have c2:x.To<((L2 l l.length).length:Int):=O'
 have c3:y.To>=0:=d;have U:y.To<((L2 l l.length).length:Int):=O'
 have i:(x.To==y.To)=false:=by simpa using b
 have w1:W (x.Turn+1)=x.Turn+1:=n3 O' O';have s:W (y.Turn+1)=y.Turn+1:=n3 O' O';simp only[q0,c1,c2,c3,U,i,w1,s,decide_eq_true_eq];unfold u7
 by_cases h1:x.Turn>y.Turn
 ·rw[if_pos h1,if_pos h1]
 ·rw[if_neg h1,if_neg h1]
  by_cases a:x.Turn<y.Turn
  ·rw[if_pos a,if_pos a]
  ·have e:¬x.To>y.To:=O'
   rw[if_neg a,if_neg a,if_neg e,if_neg e];obtain⟨p,hp,o,u⟩:=n0J l hn f a2;obtain⟨q,c,g,i2⟩:=n0J l hn d C;have I:=(p0G hw hR hp c).1;have hd:=(o0H hw hR).1;have h:=(o0H hw hR).2 _ I;unfold M9 f09;rw[u,i2,o,g];simp only[if_true,x0P hw hR R hp c,D0X hw hR (show 401<F from O'),G0,toNat_natCast];have i3:B0 (a0n l) ((b8 l p q:Nat):Int)=true:=R0 O' O';have i4:B0 l ((b8 l p q:Nat):Int)=true:=R0 O' O';have J:W (gt (a0n l) ((b8 l p q:Nat):Int)+1)=gt (a0n l) ((b8 l p q:Nat):Int)+1:=n3 O' O';have t:W (gt (a0n l) ((b8 l p q:Nat):Int)+1+1)=gt (a0n l) ((b8 l p q:Nat):Int)+1+1:=n3 O' O';rw[i3,i4];simp only[if_true,J,t];split<;>rfl
def y0s (hw:∀x∈l,o3 x)(hR:K1 l=true){n:Nat}(hn:n=L0 l l.length)(i:1000<F)(d:K7 F l=some (L2 l l.length)){x y:y0}(b:a0L n x)(c:a0L n y)(a:x.To≠y.To):
  e0L F F l x y=some (u7 l x y):=by
 obtain⟨k,rfl⟩:∃k,F=k+2:=⟨F-2,O'⟩
 by_cases hle:x.Turn≠y.Turn\/x.To<y.To
 ·exact r0e hw hR hn i d b c a _ hle
 ·have e:x.Turn=y.Turn:=O'
  have h:=r0e hw hR hn i d c b (fun h=>a h.symm) k (.inr O');have s:=j0v l x y a;obtain⟨p,a2,a3,a4⟩:=b;obtain⟨q,u,w,v⟩:=c;have j:=I9 l l.length;unfold e0L;rw[d];have c1:x.To>=0:=p;have c2:x.To<((L2 l l.length).length:Int):=O'
  have c3:y.To>=0:=q;have t:y.To<((L2 l l.length).length:Int):=O'
  have o:(x.To==y.To)=false:=by simpa using a
  have h1:¬x.Turn>y.Turn:=O'
  have f:¬x.Turn<y.Turn:=O'
  have g:x.To>y.To:=O'
  simp only[q0,c1,c2,c3,t,o,h1,f,g,h,s];have:(u7 l x y).2.2=-1:=by unfold u7;rw[if_neg h1,if_neg f,if_pos g]
  rw[<-this]
def J0y (hw:∀x∈l,o3 x)(hR:K1 l=true){n:Nat}(hn:n=L0 l l.length)(hl:l.length*64<=140737488351232)(U:1000<F)(d:l.length+1<F)(j:b0t F l=some (L2 l l.length)){x y:y0}(v:a0L n x)(w:a0L n y)(e:x.To≠y.To):
  G0b F l x y=some (u7 l x y):=by
 obtain⟨J,a2,a3,a4⟩:=v;obtain⟨C,z,b3,b4⟩:=w;have u:=I9 l l.length;unfold G0b;rw[j];have c1:¬x.To<0:=O'
 have c2:¬x.To>=((L2 l l.length).length:Int):=O'
 have c3:¬y.To<0:=O'
 have c4:¬y.To>=((L2 l l.length).length:Int):=O'
 have i:(x.To==y.To)=false:=by simpa using e
 have w1:W (x.Turn+1)=x.Turn+1:=n3 O' O';have o:W (y.Turn+1)=y.Turn+1:=n3 O' O';simp only[q0,c1,c2,c3,c4,i,w1,o,decide_eq_true_eq];unfold u7
 by_cases h1:x.Turn>y.Turn
 ·rw[if_pos h1,if_pos h1]
 ·rw[if_neg h1,if_neg h1]
  by_cases b:x.Turn<y.Turn
  ·rw[if_pos b,if_pos b]
  ·rw[if_neg b,if_neg b];obtain⟨p,hp,k,t⟩:=n0J l hn J a2;obtain⟨q,f,g,i2⟩:=n0J l hn C z;have I:=(p0G hw hR hp f).1;have hd:=(o0H hw hR).1;have h:=(o0H hw hR).2 _ I;unfold M9 f09;rw[t,i2,k,g];simp only[if_true,L0G hw hR hl U d hp f,L0J hw hR (show 401<F from O'),G0,toNat_natCast];have i3:B0 (a0n l) ((b8 l p q:Nat):Int)=true:=R0 O' O';have i4:B0 l ((b8 l p q:Nat):Int)=true:=R0 O' O';have R:W (gt (a0n l) ((b8 l p q:Nat):Int)+1)=gt (a0n l) ((b8 l p q:Nat):Int)+1:=n3 O' O';have s:W (gt (a0n l) ((b8 l p q:Nat):Int)+1+1)=gt (a0n l) ((b8 l p q:Nat):Int)+1+1:=n3 O' O';rw[i3,i4];simp only[if_true,R,s]
   by_cases c:x.To>y.To
   ·by_cases a:(gt l ((b8 l p q:Nat):Int)).Kind=3
    ·simp[c,a]
    ·simp[c,a]
   ·by_cases a:(gt l ((b8 l p q:Nat):Int)).Kind=3
    ·simp[c,a]
    ·simp[c,a]
end
def W4 (i k:Nat)(f:Nat->Nat->Int)(a b:Nat):Int:=if(a<i/\b<i)\/(a=i/\b<k)\/(b=i/\a<k)then f a b else 0
def a0b (i k:Nat)(f:Nat->Nat->Int)(a b:Nat):Int:=if a<i\/(a=i/\b<k)then f a b else 0
def z0J {m i k:Nat}(hk:k<i)(f:Nat->Nat->Int):
  I2 m m (fun a=>if a=k then(fun j=>if j=i then f k i else(if k=i then(fun j=>if j=k then f i k else W4 i k f i j)else W4 i k f k) j)else(if a=i then(fun j=>if j=k then f i k else W4 i k f i j)else W4 i k f a))=I2 m m (W4 i (k+1) f):=by
 refine d0e fun a b _ _=>?_;have g:¬k=i:=O'
 by_cases d:a=k
 ·rw[if_pos d]
  by_cases c:b=i
  ·rw[if_pos c];unfold W4;rw[if_pos O',d,c]
  ·rw[if_neg c,if_neg g,d];unfold W4
   by_cases e:b<i
   ·rw[if_pos O',if_pos O']
   ·rw[if_neg O',if_neg O']
 ·rw[if_neg d]
  by_cases c:a=i
  ·rw[if_pos c]
   by_cases e:b=k
   ·rw[if_pos e];unfold W4;rw[if_pos O',c,e]
   ·rw[if_neg e,c];unfold W4
    by_cases h:b<k
    ·rw[if_pos O',if_pos O']
    ·rw[if_neg O',if_neg O']
  ·rw[if_neg c];unfold W4
   by_cases h:(a<i/\b<i)\/(a=i/\b<k)\/(b=i/\a<k)
   ·rw[if_pos h,if_pos O']
   ·rw[if_neg h,if_neg O']
def t0o {m i:Nat}(f:Nat->Nat->Int)(h:f i i=0):I2 m m (W4 i i f)=I2 m m (W4 (i+1) 0 f):=by
 refine d0e fun a b _ _=>?_;unfold W4
 by_cases e:a=i/\b=i
 ·rw[if_neg O',if_pos O',e.1,e.2,h]
 ·by_cases c:(a<i/\b<i)\/(a=i/\b<i)\/(b=i/\a<i)
  ·rw[if_pos c,if_pos O']
  ·rw[if_neg c,if_neg O']
def I0d {m i k:Nat}(f:Nat->Nat->Int):I2 m m (fun a=>if a=i then(fun j=>if j=k then f i k else a0b i k f i j)else a0b i k f a)=I2 m m (a0b i (k+1) f):=by
 refine d0e fun a b _ _=>?_
 by_cases c:a=i
 ·rw[if_pos c]
  by_cases d:b=k
  ·rw[if_pos d];unfold a0b;rw[if_pos O',c,d]
  ·rw[if_neg d,c];unfold a0b
   by_cases e:b<k
   ·rw[if_pos O',if_pos O']
   ·rw[if_neg O',if_neg O']
 ·rw[if_neg c];unfold a0b
  by_cases e:a<i
  ·rw[if_pos O',if_pos O']
  ·rw[if_neg O',if_neg O']
def I0k {m i:Nat}(f:Nat->Nat->Int)(h:f i i=0):I2 m m (a0b i i f)=I2 m m (a0b i (i+1) f):=by
 refine d0e fun a b _ _=>?_;unfold a0b
 by_cases e:a=i/\b=i
 ·rw[if_neg O',if_pos O',e.1,e.2,h]
 ·by_cases c:a<i\/(a=i/\b<i)
  ·rw[if_pos c,if_pos O']
  ·rw[if_neg c,if_neg O']
def I0u {m i:Nat}(f:Nat->Nat->Int):I2 m m (a0b i m f)=I2 m m (a0b (i+1) 0 f):=by
 refine d0e fun a b ha d=>?_;unfold a0b
 by_cases c:a<i\/(a=i/\b<m)
 ·rw[if_pos c,if_pos O']
 ·rw[if_neg c,if_neg O']
def F0C {fr:List Nat}{i k:Nat}:(((fr.getD i 0:Nat):Int)==((fr.getD k 0:Nat):Int))=decide (fr.getD i 0=fr.getD k 0):=by
 by_cases h:fr.getD i 0=fr.getD k 0
 ·rw[h];simp
 ·have:¬((fr.getD i 0:Nat):Int)=((fr.getD k 0:Nat):Int):=O'
  simp only[h,decide_false,beq_eq_false_iff_ne,ne_eq,this,not_false_eq_true]
section
variable {F:Nat}{l:List C0}{n m:Nat}{fB fD:Nat->Nat->Int}{fr:List Nat}{hops:List y0}
structure k0X (l:List C0)(n m:Nat)(fr:List Nat)(hops:List y0):Prop where
 lt:∀i∈fr,i<m
 len:hops.length=fr.length
 le:fr.length<=500
 hop:∀x∈hops,a0L n x
 asc:hops.Pairwise fun a b=>a.To<b.To
def D03 {d:Int}(h:d=1\/d=-1):W (0-d)=- d:=by rcases h with h|h<;>rw[h]<;>rfl
def C0h (hw:∀x∈l,o3 x)(hR:K1 l=true)(hn:n=L0 l l.length)(I:2000<F)(z:K7 F l=some (L2 l l.length))(h:a0s m fB fD)(g:k0X l n m fr hops){i:Nat}(hi:i<fr.length):
  iter (h0Z F l (D3 m fB fD) (J2 fr) hops (i:Int)) F (0,I2 fr.length fr.length (W4 i 0 (P5 l fB fr hops)),I2 fr.length fr.length (W4 i 0 (N6 l fB fD fr hops)))=some (I2 fr.length fr.length (W4 (i+1) 0 (P5 l fB fr hops)),I2 fr.length fr.length (W4 (i+1) 0 (N6 l fB fD fr hops))):=by
 have hle:=g.le;have ok:=p0k hw hR hn h g.lt g.len g.hop g.asc;rw[<-t0o _ (ok.bd i hi),<-t0o _ (ok.dd i hi)];have:=R4 (step:=h0Z F l (D3 m fB fD) (J2 fr) hops (i:Int)) (fun k=>((k:Int),I2 fr.length fr.length (W4 i k (P5 l fB fr hops)),I2 fr.length fr.length (W4 i k (N6 l fB fD fr hops)))) (I2 fr.length fr.length (W4 i i (P5 l fB fr hops)),I2 fr.length fr.length (W4 i i (N6 l fB fD fr hops))) i (fun k hk=>.inl ?_) ?_ i 0 F O' O'
 ·exact this
 ·have b:k<fr.length:=O'
  have h1:(k:Int)<(i:Int):=O'
  have u:B0 hops (i:Int)=true:=R0 O' (by rw[g.len];omega);have o:B0 hops (k:Int)=true:=R0 O' (by rw[g.len];omega);have y:=e08 g.hop (i:=i) (by rw[g.len];exact hi);have w:=e08 g.hop (i:=k) (by rw[g.len];exact b);have f:=p0X g.asc (i:=i) (k:=k) (by rw[g.len];exact hi) (by rw[g.len];exact b) O';have c:¬i=k:=O'
  have d:¬k=i:=O'
  have v:=ok.dn i k hi b;have t:=ok.d1 i k hi b c;have s:W (0-N6 l fB fD fr hops i k)=N6 l fB fD fr hops k i:=by rw[v];exact D03 t
  have key:∀p q r:Int,p=P5 l fB fr hops i k->q=P5 l fB fr hops k i->r=N6 l fB fD fr hops i k->
    (Option.bind (some (I2 fr.length fr.length (fun a=>if a=k then(fun j=>if j=i then q else(if k=i then(fun j=>if j=k then p else W4 i k (P5 l fB fr hops) i j)else W4 i k (P5 l fB fr hops) k) j)else(if a=i then(fun j=>if j=k then p else W4 i k (P5 l fB fr hops) i j)else W4 i k (P5 l fB fr hops) a)),
     I2 fr.length fr.length (fun a=>if a=i then(fun j=>if j=k then r else W4 i k (N6 l fB fD fr hops) i j)else W4 i k (N6 l fB fD fr hops) a))) fun(C,y6)=>
    (if B0 y6 (k:Int)then
     if B0 y6 (i:Int)then
      if B0 (gt y6 (i:Int)) (k:Int)then
       if B0 (gt y6 (k:Int)) (i:Int)then
        let t5:=y6.set (k:Int).toNat ((gt y6 (k:Int)).set (i:Int).toNat (W (0-(gt (gt y6 (i:Int)) (k:Int)))))
        some (.next (W ((k:Int)+1),C,t5))
       else none
      else none
     else none
    else none:Option (V0 (Int×(List (List Int))×(List (List Int))) ((List (List Int))×(List (List Int))))))=some (.next (((k+1:Nat):Int),I2 fr.length fr.length (W4 i (k+1) (P5 l fB fr hops)),I2 fr.length fr.length (W4 i (k+1) (N6 l fB fD fr hops)))):=by
   rintro p q r rfl rfl rfl
   simp only[G0,U9 _ hi,U9 _ b,a0g _ hi,a0g _ b,a0P _ hi,a0P _ b,if_true,d0w _ hi,d0w _ b,toNat_natCast,m02,l0b,z0J hk,s,G3 (i:=k) O']
  unfold h0Z;simp only[h1,decide_true,if_true,a0h hi,a0h b,a0G hi,a0G b,F0C,decide_eq_true_eq,U9 _ hi,U9 _ b,u,o,y0s hw hR hn (show 1000<F from O') z y w f,a0g _ hi,a0g _ b,a0P _ hi,a0P _ b,j02 g.len g.lt hi b,j02 g.len g.lt b hi,p0R g.len g.lt hi b,toNat_natCast,m02,l0b]
  by_cases he:fr.getD i 0=fr.getD k 0
  ·rw[if_pos he];refine key _ _ _ ?_ ?_ ?_
   ·unfold P5;rw[if_neg c,if_pos he]
   ·unfold P5;rw[if_neg d,if_pos he.symm,j0v l _ _ f]
   ·unfold N6;rw[if_neg c,if_pos he]
  ·rw[if_neg he];refine key _ _ _ ?_ ?_ ?_
   ·unfold P5;rw[if_neg c,if_neg he]
   ·unfold P5;rw[if_neg d,if_neg (fun e=>he e.symm)]
   ·unfold N6;rw[if_neg c,if_neg he]
 ·unfold h0Z;have h1:¬((i:Int)<(i:Int)):=O'
  simp only[q0,h1]
def v0I (hw:∀x∈l,o3 x)(hR:K1 l=true)(hn:n=L0 l l.length)(c:2000<F)(j:K7 F l=some (L2 l l.length))(hm:m<=1000)(h:a0s m fB fD)(g:k0X l n m fr hops):
  g0U F l (D3 m fB fD) (J2 fr) hops=some (D3 fr.length (P5 l fB fr hops) (N6 l fB fD fr hops)):=by
 have hle:=g.le;unfold g0U;rw[i0o hm c h];have hlen:(((J2 fr).length:Int) != (hops.length:Int))=false:=by rw[i0f,g.len];simp
 have t1:=R4 (step:=g0Z F (D3 m fB fD) (J2 fr)) (fun i=>(i:Int)) (.inr ()) fr.length (fun i hi=>.inl ?_) ?_ fr.length 0 F O' O'
 ·have o:iter (g0Z F (D3 m fB fD) (J2 fr)) F 0=_:=t1;have t2:=R4 (step:=g0x F l (D3 m fB fD) (J2 fr) hops) (fun i=>((i:Int),I2 fr.length fr.length (W4 i 0 (P5 l fB fr hops)),I2 fr.length fr.length (W4 i 0 (N6 l fB fD fr hops)))) (I2 fr.length fr.length (P5 l fB fr hops),I2 fr.length fr.length (N6 l fB fD fr hops)) fr.length (fun i hi=>.inl ?_) ?_ fr.length 0 F O' O'
  ·have z:∀f,I2 fr.length fr.length (W4 0 0 f)=I2 fr.length fr.length fun _ _=>0:=fun f=>d0e fun a b _ _=>by unfold W4;rw[if_neg O']
   rw[z,z]at t2;have e:iter (g0x F l (D3 m fB fD) (J2 fr) hops) F (0,I2 fr.length fr.length (fun _ _=>0),I2 fr.length fr.length fun _ _=>0)=_:=t2;simp only[q0,hlen,o,show decide ((-1:Int)>=0)=false from rfl];rw[i0f,p02 O' c];simp only[G0,e];rfl
  ·unfold g0x;have h1:(i:Int)<((J2 fr).length:Int):=by simp;omega
   simp only[q0,h1,C0h hw hR hn c j h g hi,G3 (i:=i) O']
  ·unfold g0x;have h1:¬((fr.length:Int)<((J2 fr).length:Int)):=Z9
   have z:∀f,I2 fr.length fr.length (W4 fr.length 0 f)=I2 fr.length fr.length f:=fun f=>d0e fun a b _ _=>by unfold W4;rw[if_pos O']
   simp only[q0,h1,z]
 ·unfold g0Z e0p;have h1:(i:Int)<((J2 fr).length:Int):=by simp;omega
  have p:=E8 g.lt hi;have d:((fr.getD i 0:Nat):Int)>=0:=O'
  have k:((fr.getD i 0:Nat):Int)<((D3 m fB fD).B.length:Int):=by simp only[D3,q0M];omega
  simp only[q0,h1,a0h hi,a0G hi,d,k,G3 (i:=i) O']
 ·unfold g0Z;have h1:¬((fr.length:Int)<((J2 fr).length:Int)):=Z9
  simp only[q0,h1]
def J0X (hw:∀x∈l,o3 x)(hR:K1 l=true)(hn:n=L0 l l.length)(hl:l.length*64<=140737488351232)(z:2000<F)(o:l.length+1<F)(y:b0t F l=some (L2 l l.length))(h:a0s m fB fD)(g:k0X l n m fr hops){i:Nat}(hi:i<fr.length):
  iter (C0v F l (D3 m fB fD) (J2 fr) hops (i:Int)) F (0,I2 fr.length fr.length (a0b i 0 (P5 l fB fr hops)),I2 fr.length fr.length (a0b i 0 (N6 l fB fD fr hops)))=some (I2 fr.length fr.length (a0b (i+1) 0 (P5 l fB fr hops)),I2 fr.length fr.length (a0b (i+1) 0 (N6 l fB fD fr hops))):=by
 have hle:=g.le;have ok:=p0k hw hR hn h g.lt g.len g.hop g.asc;rw[<-I0u,<-I0u];have:=R4 (step:=C0v F l (D3 m fB fD) (J2 fr) hops (i:Int)) (fun k=>((k:Int),I2 fr.length fr.length (a0b i k (P5 l fB fr hops)),I2 fr.length fr.length (a0b i k (N6 l fB fD fr hops)))) (I2 fr.length fr.length (a0b i fr.length (P5 l fB fr hops)),I2 fr.length fr.length (a0b i fr.length (N6 l fB fD fr hops))) fr.length (fun k a=>.inl ?_) ?_ fr.length 0 F O' O'
 ·exact this
 ·have h1:(k:Int)<((J2 fr).length:Int):=by simp;omega
  have q:B0 hops (i:Int)=true:=R0 O' (by rw[g.len];omega);have e:B0 hops (k:Int)=true:=R0 O' (by rw[g.len];omega);have w:=e08 g.hop (i:=i) (by rw[g.len];exact hi);have v:=e08 g.hop (i:=k) (by rw[g.len];exact a);unfold C0v
  by_cases b:i=k
  ·subst b;simp only[q0,h1,beq_self_eq_true,G3 (i:=i) O',I0k _ (ok.bd i hi),I0k _ (ok.dd i hi)]
  ·have t:=p0X g.asc (i:=i) (k:=k) (by rw[g.len];exact hi) (by rw[g.len];exact a) b;have u:((i:Int)==(k:Int))=false:=by simp;omega
   have j:=E8 g.lt hi;have s:=E8 g.lt a;simp only[h1,decide_true,if_true,u,false_eq_true,if_false,a0h hi,a0h a,a0G hi,a0G a,F0C,decide_eq_true_eq,U9 _ hi,U9 _ a,q,e,J0y hw hR hn hl (show 1000<F from O') o y w v t,I0e,H01 j s,a0g _ hi,a0g _ a,a0P _ hi,a0P _ a,
    show(D3 m fB fD).B=I2 m m fB from rfl,U9 _ j,a0g _ j,a0P _ s,d0w _ s,toNat_natCast,m02,l0b,G0,G3 (i:=k) O']
   have d:=I0d (m:=fr.length) (i:=i) (k:=k) (P5 l fB fr hops);have c:=I0d (m:=fr.length) (i:=i) (k:=k) (N6 l fB fD fr hops)
   by_cases he:fr.getD i 0=fr.getD k 0
   ·rw[if_pos he];have p:P5 l fB fr hops i k=(u7 l (gt hops (i:Int)) (gt hops (k:Int))).1:=by unfold P5;rw[if_neg b,if_pos he]
    have f:N6 l fB fD fr hops i k=(u7 l (gt hops (i:Int)) (gt hops (k:Int))).2.2:=by unfold N6;rw[if_neg b,if_pos he]
    rw[p]at d;rw[f]at c;simp only[G0,d,c]
   ·rw[if_neg he];have p:P5 l fB fr hops i k=J4 (fB (fr.getD i 0) (fr.getD k 0)) (gt hops (i:Int)).Turn:=by unfold P5;rw[if_neg b,if_neg he]
    have f:N6 l fB fD fr hops i k=i7 fB fD (fr.getD i 0) (fr.getD k 0) (gt hops (i:Int)) (gt hops (k:Int)):=by unfold N6;rw[if_neg b,if_neg he]
    rw[p]at d;rw[f]at c;simp only[G0,d,c]
 ·unfold C0v;have h1:¬((fr.length:Int)<((J2 fr).length:Int)):=Z9
  simp only[q0,h1]
def I0Y (hw:∀x∈l,o3 x)(hR:K1 l=true)(hn:n=L0 l l.length)(hl:l.length*64<=140737488351232)(e:2000<F)(d:l.length+1<F)(o:b0t F l=some (L2 l l.length))(hm:m<=1000)(h:a0s m fB fD)(g:k0X l n m fr hops):
  G0F F l (D3 m fB fD) (J2 fr) hops=some (D3 fr.length (P5 l fB fr hops) (N6 l fB fD fr hops)):=by
 have hle:=g.le;unfold G0F;have c:((D3 m fB fD).B.length:Int)=(m:Int):=by simp[D3]
 rw[c,i0q hm e h];have hlen:(((J2 fr).length:Int) != (hops.length:Int))=false:=by rw[i0f,g.len];simp
 have t1:=R4 (step:=F0W F (D3 m fB fD) (J2 fr)) (fun i=>(i:Int)) (.inr ()) fr.length (fun i hi=>.inl ?_) ?_ fr.length 0 F O' O'
 ·have q:iter (F0W F (D3 m fB fD) (J2 fr)) F 0=_:=t1;have t2:=R4 (step:=D0C F l (D3 m fB fD) (J2 fr) hops) (fun i=>((i:Int),I2 fr.length fr.length (a0b i 0 (P5 l fB fr hops)),I2 fr.length fr.length (a0b i 0 (N6 l fB fD fr hops)))) (I2 fr.length fr.length (P5 l fB fr hops),I2 fr.length fr.length (N6 l fB fD fr hops)) fr.length (fun i hi=>.inl ?_) ?_ fr.length 0 F O' O'
  ·have z:∀f,I2 fr.length fr.length (a0b 0 0 f)=I2 fr.length fr.length fun _ _=>0:=fun f=>d0e fun a b _ _=>by unfold a0b;rw[if_neg O']
   rw[z,z]at t2;have k:iter (D0C F l (D3 m fB fD) (J2 fr) hops) F (0,I2 fr.length fr.length (fun _ _=>0),I2 fr.length fr.length fun _ _=>0)=_:=t2;simp only[q0,hlen,q];rw[i0f,I0z O' e];simp only[G0,k];rfl
  ·unfold D0C;have h1:(i:Int)<((J2 fr).length:Int):=by simp;omega
   simp only[q0,h1,J0X hw hR hn hl e d o h g hi,G3 (i:=i) O']
  ·unfold D0C;have h1:¬((fr.length:Int)<((J2 fr).length:Int)):=Z9
   have z:∀f,I2 fr.length fr.length (a0b fr.length 0 f)=I2 fr.length fr.length f:=fun f=>d0e fun a b _ _=>by unfold a0b;rw[if_pos O']
   simp only[q0,h1,z]
 ·unfold F0W;have h1:(i:Int)<((J2 fr).length:Int):=by simp;omega
  have s:=E8 g.lt hi;have j:¬((fr.getD i 0:Nat):Int)<0:=O'
  have p:¬((fr.getD i 0:Nat):Int)>=((D3 m fB fD).B.length:Int):=by simp only[D3,q0M];omega
  simp only[q0,h1,a0h hi,a0G hi,j,p,G3 (i:=i) O']
 ·unfold F0W;have h1:¬((fr.length:Int)<((J2 fr).length:Int)):=Z9
  simp only[q0,h1]
end
def wrap_u64 {n:Nat}(h:n<18446744073709551616):IntKind.wrap .u64 (n:Int)=n:=by
 simp[IntKind.wrap,IntKind.bits,IntKind.signed];omega
def r0E (x y:BitVec 64):C3 .u64 (x.toNat:Int) (y.toNat:Int)=((x&&& y).toNat:Int):=by
 unfold C3;simp only[IntKind.bits,BitVec.ofInt_natCast,BitVec.ofNat_toNat,BitVec.setWidth_eq];exact wrap_u64 (x&&& y).isLt
def D0p {k:Nat}(h:k<64):shl .u64 1 (k:Int)=((BitVec.twoPow 64 k).toNat:Int):=by
 have h1:min k 64=k:=O'
 have b:2 ^ k<18446744073709551616:=Nat.pow_lt_pow_right (a:=2) O' (show k<64 from h);unfold shl;rw[show(IntKind.u64).bits=64 from rfl,toNat_natCast,h1,Int.one_mul,BitVec.toNat_twoPow,Nat.mod_eq_of_lt b];rw[show((2:Int) ^ k)=((2 ^ k:Nat):Int) from Z9];exact wrap_u64 b
def v0C (x:BitVec 64){k:Nat}(h:k<64):shr .u64 (x.toNat:Int) (k:Int)=((x >>> k).toNat:Int):=by
 have h1:min k 64=k:=O'
 unfold shr;rw[show(IntKind.u64).bits=64 from rfl,toNat_natCast,h1,BitVec.toNat_ushiftRight,Nat.shiftRight_eq_div_pow,show((2:Int) ^ k)=((2 ^ k:Nat):Int) from Z9,Int.fdiv_eq_ediv_of_nonneg _ (natCast_nonneg _),Int.natCast_ediv]
def w0z {v:Int}(c:0<=v)(h1:v<18446744073709551616){k:Nat}(hk:k<64):(C3 .u64 v (shl .u64 1 (k:Int)) != 0)=(C3 .u64 (shr .u64 v (k:Int)) 1==1):=by
 obtain⟨x,rfl⟩:∃x:BitVec 64,v=(x.toNat:Int):=⟨BitVec.ofNat 64 v.toNat,by rw[BitVec.toNat_ofNat,Nat.mod_eq_of_lt O'];omega⟩
 rw[D0p hk,v0C x hk,r0E,show(1:Int)=((BitVec.twoPow 64 0).toNat:Int)from rfl,r0E,BitVec.and_twoPow,BitVec.and_twoPow];have b:(x >>> k).getLsbD 0=x.getLsbD k:=Z9
 rw[b];have hp:(BitVec.twoPow 64 k).toNat≠0:=by
  rw[BitVec.toNat_twoPow,Nat.mod_eq_of_lt (Nat.pow_lt_pow_right (a:=2) O' (show k<64 from hk))];exact Nat.ne_of_gt (Nat.two_pow_pos k)
 cases x.getLsbD k with
 |false=>simp
 |true=>
  have:((BitVec.twoPow 64 k).toNat:Int)≠0:=O'
  simp only[if_true,bne_iff_ne,ne_eq,this,not_false_eq_true,beq_self_eq_true,bne,beq_eq_false_iff_ne.2 this,Bool.not_false]
def hasB (s:List Int)(b:Int):Bool:=C3 .u64 (gt s (Int.tdiv b 64)) (shl .u64 1 (Int.tmod b 64)) != 0
def p0t (fuel:Nat){s:List Int}(h:s.length=4/\∀y∈s,Z5 .u64 y){b:Int}(f:Z5 .u8 b):i0b fuel s b=some (hasB s b)/\j07 fuel s (W b)=some (hasB s b):=by
 have k:0<=b/\b<256:=⟨f.1,by have:=f.2;rw[show IntKind.u8.max=255 from rfl]at this;omega⟩
 obtain⟨n,rfl⟩:∃n:Nat,b=n:=⟨b.toNat,O'⟩
 have hn:n<256:=O'
 have hd:Int.tdiv (n:Int) 64=((n / 64:Nat):Int):=by rw[Int.tdiv_eq_ediv_of_nonneg O'];simp
 have hm:Int.tmod (n:Int) 64=((n % 64:Nat):Int):=by rw[Int.tmod_eq_emod_of_nonneg O'];simp
 have e:IntKind.wrap .u8 ((n / 64:Nat):Int)=((n / 64:Nat):Int):=by simp[IntKind.wrap,IntKind.bits,IntKind.signed];omega
 have d:W (n:Int)=n:=t0C O';have c:W ((n / 64:Nat):Int)=((n / 64:Nat):Int):=t0C O';have u:s0w 4 ((n / 64:Nat):Int)=true:=by simp[s0w];omega
 have a:=h.2 _ (List.mem_of_getElem? (u6 (l:=s) (i:=n / 64) O'));have g:0<=gt s ((n / 64:Nat):Int)/\gt s ((n / 64:Nat):Int)<18446744073709551616:=⟨a.1,by have:=a.2;rw[show IntKind.u64.max=18446744073709551615 from rfl]at this;omega⟩
 have v:(0:Int)<=((n % 64:Nat):Int):=O'
 unfold i0b j07 hasB;have o:(0:Int)<=((n / 64:Nat):Int):=O'
 have j:((n / 64:Nat):Int)<4:=O'
 have p:¬((n % 64:Nat):Int)<0:=O'
 have q:(n:Int)>=0:=O'
 have t:(n:Int)<256:=O'
 simp only[q0,d,hd,hm,e,c,o,j,p,q,t,Bool.and_self,w0z g.1 g.2 (show n % 64<64 from O'),and_self]
def J5 (ws:List y0)(r:Nat):Option y0:=ws.find? fun h=>h.To==(r:Int)
def l7 (ws:List y0)(r:Nat):y0:=(J5 ws r).getD ⟨0,0,[]⟩
def N1 (Ws:List (List y0))(r k:Nat):List Nat:=(List.range k).filter fun i=>(J5 (Ws.getD i []) r).isSome
def n5 (Ws:List (List y0))(r k:Nat):List y0:=(N1 Ws r k).map fun i=>l7 (Ws.getD i []) r
def t00 (Ws:List (List y0))(r k:Nat):N1 Ws r (k+1)=N1 Ws r k++if(J5 (Ws.getD k []) r).isSome then[k]else[]:=by
 unfold N1;rw[List.range_succ,List.filter_append];congr 1;cases h:(J5 (Ws.getD k []) r).isSome
 ·simp only[List.filter_cons,h,false_eq_true,if_false,List.filter_nil]
 ·simp only[List.filter_cons,h,if_true,List.filter_nil]
def E0o (Ws:List (List y0))(r k:Nat):n5 Ws r (k+1)=n5 Ws r k++if(J5 (Ws.getD k []) r).isSome then[l7 (Ws.getD k []) r]else[]:=by
 unfold n5;rw[t00,List.map_append];congr 1;split<;>rfl
def l0Y {Ws:List (List y0)}{r k i:Nat}(h:i∈N1 Ws r k):i<k:=List.mem_range.1 (List.mem_filter.1 h).1
def n0s (Ws:List (List y0))(r k:Nat):(N1 Ws r k).length<=k:=Nat.le_trans (List.length_filter_le _ _) Z9
def n0a (Ws:List (List y0))(r k:Nat):(n5 Ws r k).length=(N1 Ws r k).length:=by simp[n5]
def j0a {ws:List y0}{r:Nat}(h:(J5 ws r).isSome=true):l7 ws r∈ws/\(l7 ws r).To=r:=by
 unfold l7;cases e:J5 ws r with
 |none=>rw[e]at h;simp at h
 |some x=>
  have:=List.find?_some e;exact⟨List.mem_of_find?_eq_some e,by simpa using this⟩
def a0K (fB fD:Nat->Nat->Int)(Ws:List (List y0))(r:Nat):Nat:=(f0y fB fD (N1 Ws r Ws.length) (n5 Ws r Ws.length)).toNat
def d0W (fB fD:Nat->Nat->Int)(Ws:List (List y0))(r:Nat):Nat:=(N1 Ws r Ws.length).getD (a0K fB fD Ws r) 0
def g01 (fB fD:Nat->Nat->Int)(Ws:List (List y0))(r:Nat):y0:=l7 (Ws.getD (d0W fB fD Ws r) []) r
def X5 (a:Nat->Bool)(Ws:List (List y0))(k:Nat):List Nat:=(List.range k).filter fun r=>a r&&!(N1 Ws r Ws.length).isEmpty
def B0k (a:Nat->Bool)(Ws:List (List y0))(k:Nat):X5 a Ws (k+1)=X5 a Ws k++if a k&&!(N1 Ws k Ws.length).isEmpty then[k]else[]:=by
 unfold X5;rw[List.range_succ,List.filter_append];congr 1;cases h:(a k&&!(N1 Ws k Ws.length).isEmpty)<;>simp[h]
def w0c {a:Nat->Bool}{Ws:List (List y0)}{k i:Nat}(h:i∈X5 a Ws k):i<k:=List.mem_range.1 (List.mem_filter.1 h).1
def t0k (a:Nat->Bool)(Ws:List (List y0))(k:Nat):(X5 a Ws k).length<=k:=Nat.le_trans (List.length_filter_le _ _) Z9
def n0W (c:Nat->Bool)(Ws:List (List y0))(k:Nat):(X5 c Ws k).Pairwise fun a b=>a<b:=List.Pairwise.filter _ List.pairwise_lt_range
def u0u {a:Nat->Bool}{Ws:List (List y0)}{k r:Nat}(h:r∈X5 a Ws k):a r=true/\N1 Ws r Ws.length≠[]:=by
 have:=(List.mem_filter.1 h).2;simpa using this
def s0Z {fB fD:Nat->Nat->Int}{fr:List Nat}{hops:List y0}:∀k,0<k->∃j:Nat,c0a fB fD fr hops k=j/\j<k:=by
 intro k
 induction k with
 |zero=>intro h;omega
 |succ k ih=>
  intro _;rw[i0n];unfold e0A;split
  ·exact⟨k,rfl,O'⟩
  ·split
   ·exact⟨k,rfl,O'⟩
   ·rcases l0Q fB fD fr hops k with h|⟨j,h,hj⟩
    ·rename_i a _;rw[h]at a;exact absurd (show(-1:Int)<0 from O') a
    ·exact⟨j,h,O'⟩
def y0X {fB fD:Nat->Nat->Int}{fr:List Nat}{hops:List y0}(h:fr≠[]):∃j:Nat,f0y fB fD fr hops=j/\j<fr.length:=s0Z _ (List.length_pos_iff.2 h)
def s0j {fB fD:Nat->Nat->Int}{hops:List y0}:f0y fB fD [] hops=-1:=rfl
section
variable {fB fD:Nat->Nat->Int}{Ws:List (List y0)}{r:Nat}
def i09 (h:N1 Ws r Ws.length≠[]):f0y fB fD (N1 Ws r Ws.length) (n5 Ws r Ws.length)=(a0K fB fD Ws r:Int)/\a0K fB fD Ws r<(N1 Ws r Ws.length).length:=by
 obtain⟨j,h1,a⟩:=y0X (fB:=fB) (fD:=fD) (hops:=n5 Ws r Ws.length) h;unfold a0K;rw[h1];exact⟨rfl,a⟩
def m0s (h:N1 Ws r Ws.length≠[]):d0W fB fD Ws r∈N1 Ws r Ws.length:=by
 have:=(i09 (fB:=fB) (fD:=fD) h).2;unfold d0W;rw[show(N1 Ws r Ws.length).getD (a0K fB fD Ws r) 0=(N1 Ws r Ws.length)[a0K fB fD Ws r]from by simp[List.getD,this]];exact List.getElem_mem this
def g0V (h:N1 Ws r Ws.length≠[]):d0W fB fD Ws r<Ws.length:=l0Y (m0s h)
def A0B (h:N1 Ws r Ws.length≠[]):gt (n5 Ws r Ws.length) (a0K fB fD Ws r:Int)=g01 fB fD Ws r:=by
 have:=(i09 (fB:=fB) (fD:=fD) h).2;refine B4 ?_;unfold g01 d0W n5;simp[List.getD,this]
def j08 (h:N1 Ws r Ws.length≠[]):g01 fB fD Ws r∈Ws.getD (d0W fB fD Ws r) []/\(g01 fB fD Ws r).To=r:=j0a (List.mem_filter.1 (m0s h)).2
end
def Q7 (a:Nat->Bool)(Ws:List (List y0)):Nat->Nat
 |0=>0
 |r+1=>Q7 a Ws r+if a r then(N1 Ws r Ws.length).length else 0
def n0M (a:Nat->Bool)(Ws:List (List y0)):∀k,Q7 a Ws k<=k*Ws.length
 |0=>by simp[Q7]
 |k+1=>by
  have h1:=n0M a Ws k;have b:=n0s Ws k Ws.length;simp only[Q7,Nat.succ_mul];split<;>omega
