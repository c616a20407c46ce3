/- P. Its conditions: none. -/
import Derived.Test.YtmhooikfkhjijaaGreatYG46
open Int (toNat_natCast natCast_nonneg)
open Bool (false_eq_true)
set_option linter.all false
namespace Go.Proofs.YtmhooikfkhjijaaGreat
open Go.V Go.RowKit Old
def D0q (l:List U0)(x y:E1):Int:=gt (C0S l) ((A0q l (gt (e0L l l.length) x.To).toNat (gt (e0L l l.length) y.To).toNat:Nat):Int)+1
def E01 (l:List U0)(x y:E1):Bool:=(gt l ((A0q l (gt (e0L l l.length) x.To).toNat (gt (e0L l l.length) y.To).toNat:Nat):Int)).Kind==3
def C0H (l:List U0)(x y:E1):Int×Int×Int:=
 if x.Turn>y.Turn then(x.Turn+1,y.Turn+1,1)else if x.Turn<y.Turn then(x.Turn+1,y.Turn+1,-1)else
 if x.To>y.To then(D0q l x y,if E01 l x y then D0q l x y+1 else D0q l x y,-1)else(if E01 l x y then D0q l x y+1 else D0q l x y,D0q l x y,1)
def X0I (l:List U0)(x y:E1):D0q l x y=D0q l y x:=by unfold D0q;rw[M0Z]
def T0I (l:List U0)(x y:E1):E01 l x y=E01 l y x:=by unfold E01;rw[M0Z]
def L0f (l:List U0)(x y:E1)(h:x.To≠y.To):C0H l y x=((C0H l x y).2.1,(C0H l x y).1,- (C0H l x y).2.2):=by
 unfold C0H;rw[X0I l y x,T0I l y x];rcases Int.lt_trichotomy x.Turn y.Turn with c|c|c
 ·rw[if_pos (show y.Turn>x.Turn from c),if_neg (show ¬x.Turn>y.Turn by omega),if_pos c];simp
 ·rw[if_neg (show ¬y.Turn>x.Turn by omega),if_neg (show ¬y.Turn<x.Turn by omega),if_neg (show ¬x.Turn>y.Turn by omega),if_neg (show ¬x.Turn<y.Turn by omega)];rcases Int.lt_or_gt_of_ne h with c2|c2
  ·rw[if_pos (show y.To>x.To from c2),if_neg (show ¬x.To>y.To by omega)]
  ·rw[if_neg (show ¬y.To>x.To by omega),if_pos (show x.To>y.To from c2)];simp
 ·rw[if_neg (show ¬y.Turn>x.Turn by omega),if_pos (show y.Turn<x.Turn from c),if_pos (show x.Turn>y.Turn from c)]
structure D0j (n:Nat)(h:E1):Prop where
 to0:0<=h.To
 to1:h.To<n
 t0:0<=h.Turn
 t1:h.Turn<=400
def N0a {l:List U0}(hw:∀x∈l,l02 x)(hR:e0M l=true){n:Nat}(hn:n=u5 l l.length){x y:E1}(hx:D0j n x)(hy:D0j n y):0<=(C0H l x y).1/\0<=(C0H l x y).2.1/\((C0H l x y).2.2=1\/(C0H l x y).2.2=-1):=by
 have hq:1<=D0q l x y:=by
  obtain⟨h1,h2,h3,h4⟩:=hx;obtain⟨k1,k2,k3,k4⟩:=hy;obtain⟨p,hp,hp2,_⟩:=E0C l l.length x.To.toNat (by omega);obtain⟨q,hq,hq2,_⟩:=E0C l l.length y.To.toNat (by omega);have e1:gt (e0L l l.length) x.To=(p:Int):=L0Q hp2;have e2:gt (e0L l l.length) y.To=(q:Int):=L0Q hq2;have hj:=(J0n hw hR (a:=p) (b:=q) hp hq).1;have:=((G09 hw hR).2 _ hj).1;unfold D0q;rw[e1,e2];simp only[toNat_natCast];omega
 obtain⟨h1,h2,h3,h4⟩:=hx;obtain⟨k1,k2,k3,k4⟩:=hy;unfold C0H;split
 ·exact⟨by simp only;omega,by simp only;omega,.inl rfl⟩
 ·split
  ·exact⟨by simp only;omega,by simp only;omega,.inr rfl⟩
  ·split
   ·refine⟨by simp only;omega,?_,.inr rfl⟩;simp only;split<;>omega
   ·refine⟨?_,by simp only;omega,.inl rfl⟩;simp only;split<;>omega
section
variable (l:List U0)(fB fD:Nat->Nat->Int)(fr:List Nat)(hops:List E1)
def A0Q (i k:Nat):Int:=if i=k then 0 else if fr.getD i 0=fr.getD k 0 then(C0H l (gt hops (i:Int)) (gt hops (k:Int))).1 else D0a (fB (fr.getD i 0) (fr.getD k 0)) (gt hops (i:Int)).Turn
def A0R (i k:Nat):Int:=if i=k then 0 else if fr.getD i 0=fr.getD k 0 then(C0H l (gt hops (i:Int)) (gt hops (k:Int))).2.2 else agF fB fD (fr.getD i 0) (fr.getD k 0) (gt hops (i:Int)) (gt hops (k:Int))
end
def S0G {fB fD:Nat->Nat->Int}{a b:Nat}{p q:E1}(h:fD b a=- fD a b):agF fB fD b a q p=- agF fB fD a b p q:=by
 unfold agF;rcases Int.lt_trichotomy (D0a (fB a b) p.Turn) (D0a (fB b a) q.Turn)with c|c|c
 ·rw[if_pos c,if_neg (show ¬D0a (fB a b) p.Turn>D0a (fB b a) q.Turn by omega),if_pos c];rfl
 ·rw[if_neg (by omega),if_neg (by omega),if_neg (by omega),if_neg (by omega),h]
 ·rw[if_neg (by omega),if_pos c,if_pos c]
def U0O {b t:Int}(hb:0<=b)(ht:0<=t)(ht2:t<=400):0<=D0a b t:=by
 unfold D0a;rw[c0R (by omega) (by omega)];split<;>omega
def U09 {fB fD:Nat->Nat->Int}{a b:Nat}{p q:E1}(h:fD a b=1\/fD a b=-1):agF fB fD a b p q=1\/agF fB fD a b p q=-1:=by
 unfold agF;split
 ·exact .inl rfl
 ·split
  ·exact .inr rfl
  ·exact h
def E0I {n:Nat}{hops:List E1}(h:∀x∈hops,D0j n x){i:Nat}(hi:i<hops.length):D0j n (gt hops (i:Int)):=h _ (List.mem_of_getElem? (B01 hi))
def L0P {hops:List E1}(h:hops.Pairwise fun a b=>a.To<b.To){i k:Nat}(hi:i<hops.length)(hk:k<hops.length)(hne:i≠k):(gt hops (i:Int)).To≠(gt hops (k:Int)).To:=by
 have hp:=List.pairwise_iff_getElem.1 h;have e1:gt hops (i:Int)=hops[i]:=Y5 (by simp[hi]);have e2:gt hops (k:Int)=hops[k]:=Y5 (by simp[hk]);rw[e1,e2];rcases Nat.lt_or_gt_of_ne hne with c|c
 ·have:=hp i k hi hk c;omega
 ·have:=hp k i hk hi c;omega
def K0Z {l:List U0}(hw:∀x∈l,l02 x)(hR:e0M l=true){n:Nat}(hn:n=u5 l l.length){m:Nat}{fB fD:Nat->Nat->Int}(h:C0Q m fB fD){fr:List Nat}{hops:List E1}(hi:∀i∈fr,i<m)(hlen:hops.length=fr.length)(hh:∀x∈hops,D0j n x)
  (hasc:hops.Pairwise fun a b=>a.To<b.To):C0Q fr.length (A0Q l fB fr hops) (A0R l fB fD fr hops) where
 b0 i k h1 h2:=by
  have x1:=E0I hh (i:=i) (by omega);have x2:=E0I hh (i:=k) (by omega);unfold A0Q;split
  ·exact Int.le_refl _
  ·split
   ·exact(N0a hw hR hn x1 x2).1
   ·exact U0O (h.b0 _ _ (C0t hi h1) (C0t hi h2)) x1.t0 x1.t1
 bd i h1:=by unfold A0Q;rw[if_pos rfl]
 dd i h1:=by unfold A0R;rw[if_pos rfl]
 d1 i k h1 h2 hne:=by
  have x1:=E0I hh (i:=i) (by omega);have x2:=E0I hh (i:=k) (by omega);unfold A0R;rw[if_neg hne];split
  ·exact(N0a hw hR hn x1 x2).2.2
  ·rename_i hf;exact U09 (h.d1 _ _ (C0t hi h1) (C0t hi h2) hf)
 dn i k h1 h2:=by
  unfold A0R
  by_cases e:i=k
  ·subst e;rw[if_pos rfl];rfl
  ·rw[if_neg e,if_neg (fun h=>e h.symm)]
   by_cases e2:fr.getD i 0=fr.getD k 0
   ·rw[if_pos e2,if_pos e2.symm,L0f l _ _ (L0P hasc (by omega) (by omega) e)]
   ·rw[if_neg e2,if_neg (fun h=>e2 h.symm)];exact S0G (h.dn _ _ (C0t hi h1) (C0t hi h2))
def L0r {σ τ:Type}{step:σ->Option (T0 σ τ)}{s s':σ}{k:Nat}(h:step s=some (.next s')):iter step (k+1) s=iter step k s':=by
 rw[show iter step (k+1) s=match step s with|none=>none|some (.next s')=>iter step k s'|some (.done t)=>some t from rfl,h]
def G0L {σ τ:Type}{step:σ->Option (T0 σ τ)}{s:σ}{t:τ}{k:Nat}(h:step s=some (.done t)):iter step (k+1) s=some t:=by
 rw[show iter step (k+1) s=match step s with|none=>none|some (.next s')=>iter step k s'|some (.done t)=>some t from rfl,h]
section
variable {F:Nat}{l:List U0}
def W0B {t:Tm}(ht:n4 l t)(hR:e0M l=true){u d:List Int}(hu:UpT u t)(hd:D0y d t){b:Nat}(hb:b<l.length):∀(fs:List Fr) (lo:Nat) (s:Tm),Ctx t lo s fs->∀k,fs.length<k->iter (J9 u (A0i l) (b:Int)) k (s.top lo:Int)=some ((D05 b fs lo s:Nat):Int):=by
 have hL:=D0A hR;have hlen:=ht.len;intro fs
 induction fs with
 |
  nil=>
  intro lo s hc k hk;obtain⟨k,rfl⟩:∃q,k=q+1:=⟨k-1,by simp at hk;omega⟩
  have hat:=hc.at_ ht;have hlo:=G0n hR hat;have htop:=hat.C0a;obtain⟨rfl,rfl⟩:=hc;have hin:y0 (A0i l) (s.top 0:Int)=true:=B4 (by omega) (by rw[hL.len];omega);have h1:(s.top 0:Int)>=0:=by omega
  have h2:gt (A0i l) (s.top 0:Int)<=(b:Int):=by rw[hlo];omega
  have h3:(b:Int)<=(s.top 0:Int):=by unfold Tm.top;omega
  refine G0L ?_;unfold J9;simp only[natCast_nonneg,decide_true,if_true,hin,h2,h3,Bool.and_self,D05]
 |
  cons f fs ih=>
  intro lo s hc k hk;obtain⟨k,rfl⟩:∃q,k=q+1:=⟨k-1,by simp at hk;omega⟩
  have hat:=hc.at_ ht;have hlo:=G0n hR hat;have htop:=hat.C0a;have hed:=hc.K0w ht hu hd;have hin:y0 (A0i l) (s.top lo:Int)=true:=B4 (by omega) (by rw[hL.len];omega);have hiu:y0 u (s.top lo:Int)=true:=B4 (by omega) (by rw[hu.len];omega);have hn:=ih _ _ hc.2 k (by simp at hk;omega)
  by_cases h:lo<=b/\b<=s.top lo
  ·refine G0L ?_;unfold J9;simp only[natCast_nonneg,decide_true,if_true,hin,hiu,hlo,Bool.true_and,D05,hed];have h1:(lo:Int)<=(b:Int):=by omega
   have h2:(b:Int)<=(s.top lo:Int):=by omega
   simp only[h,h1,h2,decide_true,Bool.and_self,if_true,and_self]
  ·have h2:(decide ((lo:Int)<=(b:Int))&&decide ((b:Int)<=(s.top lo:Int)))=false:=by
    simp only[Bool.and_eq_false_iff,decide_eq_false_iff_not];omega
   have hs:J9 u (A0i l) (b:Int) (s.top lo:Int)=some (.next ((Fr.e09 s f).top (lo-f.off):Int)):=by
    unfold J9;simp only[q0,natCast_nonneg,hin,hiu,hlo,Bool.true_and,hed,h2]
   rw[L0r hs,D05,if_neg h,hn]
def X0v (hw:∀x∈l,l02 x)(hR:e0M l=true)(hf:1000<F){a b:Nat}(ha:a<l.length)(hb:b<l.length):g0A F l (a:Int) (b:Int)=some ((A0q l a b:Nat):Int):=by
 obtain⟨t,ht⟩:=D0C hw hR;obtain⟨u,h1,h2⟩:=Old.K0v ht hR (show 401<F by omega);obtain⟨d,_,h4⟩:=Old.I0G ht hR (show 401<F by omega);obtain⟨lo,s,fs,hc,hs⟩:=N05 ht ha;have hul:=h2.len;have hlen:=ht.len;have h400:=ht.le;have hsz:=hc.size;have hj:=Q0C ht hR (a:=a) hb fs lo s hc (by have:=s.size_pos;unfold Tm.top at hs;omega) (by omega) (fun q q1 q2=>by
  have:¬C0r l a b q=true:=fun h'=>by have:=(E0h.1 h').2.1;omega
  simpa using this)
 have hwk:=W0B ht hR h2 h4 hb fs lo s hc F (by omega);rw[hs]at hwk;unfold g0A;rw[C0p M0N h1];have c1:(decide ((a:Int)<0)||(decide ((b:Int)<0)||(decide ((a:Int)>=(u.length:Int))||decide ((b:Int)>=(u.length:Int)))))=false:=by
  simp only[Bool.or_eq_false_iff,decide_eq_false_iff_not];omega
 simp only[q0,c1,N0c (show 401<F by omega),hwk];rw[Q09 hj.2.2 hj.1 hj.2.1]
def S0n (hw:∀x∈l,l02 x)(hR:e0M l=true)(hl:l.length*64<=140737488351232)(hf:1000<F)(hf2:l.length+1<F){a b:Nat}(ha:a<l.length)(hb:b<l.length):I0t F l (a:Int) (b:Int)=some ((A0q l a b:Nat):Int):=by
 have hL:=D0A hR;have h400:=hL.le;have hlen:=hL.len;obtain⟨j1,j2,j3⟩:=J0n hw hR ha hb;unfold I0t;rw[N0I hR hl hf2];have c1:¬(a:Int)<0:=by omega
 have c2:¬(b:Int)<0:=by omega
 have c3:¬(a:Int)>=((A0i l).length:Int):=by omega
 have c4:¬(b:Int)>=((A0i l).length:Int):=by omega
 simp only[q0,c1,c2,c3,c4];have key:∀k,k<=A0q l a b->∀m,k<m->iter (G00 F l (a:Int) (b:Int) (A0i l)) m ((A0q l a b-k:Nat):Int)=some (.inl ((A0q l a b:Nat):Int)):=by
  intro k
  induction k with
  |
   zero=>
   intro _ m hm;obtain⟨m,rfl⟩:∃q,m=q+1:=⟨m-1,by omega⟩
   rw[Nat.sub_zero];obtain⟨p1,p2,p3,p4⟩:=E0h.1 j2;have h1:((A0q l a b:Nat):Int)<(l.length:Int):=by omega
   have hin:y0 (A0i l) ((A0q l a b:Nat):Int)=true:=B4 (by omega) (by omega);have h2:(a:Int)<=((A0q l a b:Nat):Int):=by omega
   have h3:(b:Int)<=((A0q l a b:Nat):Int):=by omega
   refine G0L ?_;unfold G00;simp only[q0,h1,hin,p1,h2,p3,h3]
  |
   succ k ih=>
   intro hk m hm;obtain⟨m,rfl⟩:∃q,m=q+1:=⟨m-1,by omega⟩
   have hn:=ih (by omega) m (by omega);have hq:A0q l a b-(k+1)<A0q l a b:=by omega
   have hno:=j3 _ hq;have e1:((A0q l a b-k:Nat):Int)=((A0q l a b-(k+1):Nat):Int)+1:=by omega
   generalize A0q l a b-(k+1)=q at *;rw[e1]at hn;have h1:(q:Int)<(l.length:Int):=by omega
   have hin:y0 (A0i l) (q:Int)=true:=B4 (by omega) (by omega);have hW:W ((q:Int)+1)=(q:Int)+1:=c0R (by omega) (by omega);rw[<-hn];refine L0r ?_;unfold G00;simp only[h1,decide_true,if_true,hin,hW];unfold C0r at hno
   by_cases x1:gt (A0i l) (q:Int)<=(a:Int)
   ·by_cases x2:a<=q
    ·have y2:(a:Int)<=(q:Int):=by omega
     by_cases x3:gt (A0i l) (q:Int)<=(b:Int)
     ·have x4:¬b<=q:=fun h=>by simp[x1,x2,x3,h]at hno
      have y4:¬(b:Int)<=(q:Int):=by omega
      simp only[q0,x1,y2,x3,y4]
     ·simp only[q0,x1,y2,x3]
    ·have y2:¬(a:Int)<=(q:Int):=by omega
     simp only[q0,x1,y2]
   ·simp only[q0,x1]
 have:=key (A0q l a b) (Nat.le_refl _) F (by omega);rw[Nat.sub_self]at this;have h2:iter (G00 F l (a:Int) (b:Int) (A0i l)) F 0=_:=this;rw[h2];rfl
def F0C (l:List U0){n:Nat}(hn:n=u5 l l.length){x:Int}(h0:0<=x)(h1:x<n):∃q:Nat,q<l.length/\gt (e0L l l.length) x=(q:Int)/\y0 (e0L l l.length) x=true:=by
 obtain⟨q,h2,h3,_⟩:=E0C l l.length x.toNat (by omega);refine⟨q,h2,L0Q h3,B4 h0 ?_⟩;rw[C0e];omega
def N0X (hw:∀x∈l,l02 x)(hR:e0M l=true){n:Nat}(hn:n=u5 l l.length)(hf:1000<F)(hL:a0I F l=some (e0L l l.length)){x y:E1}(hx:D0j n x)(hy:D0j n y)(hne:x.To≠y.To)(k:Nat)(hle:x.Turn≠y.Turn\/x.To<y.To):
  g0Z F (k+1) l x y=some (C0H l x y):=by
 obtain⟨a1,a2,a3,a4⟩:=hx;obtain⟨b1,b2,b3,b4⟩:=hy;have hll:=C0e l l.length;unfold g0Z;rw[hL];have c1:x.To>=0:=a1;have c2:x.To<((e0L l l.length).length:Int):=by omega
 have c3:y.To>=0:=b1;have c4:y.To<((e0L l l.length).length:Int):=by omega
 have c5:(x.To==y.To)=false:=by simpa using hne
 have w1:W (x.Turn+1)=x.Turn+1:=c0R (by omega) (by omega);have w2:W (y.Turn+1)=y.Turn+1:=c0R (by omega) (by omega);simp only[q0,c1,c2,c3,c4,c5,w1,w2,decide_eq_true_eq];unfold C0H
 by_cases h1:x.Turn>y.Turn
 ·rw[if_pos h1,if_pos h1]
 ·rw[if_neg h1,if_neg h1]
  by_cases h2:x.Turn<y.Turn
  ·rw[if_pos h2,if_pos h2]
  ·have h3:¬x.To>y.To:=by omega
   rw[if_neg h2,if_neg h2,if_neg h3,if_neg h3];obtain⟨p,hp,e1,i1⟩:=F0C l hn a1 a2;obtain⟨q,hq,e2,i2⟩:=F0C l hn b1 b2;have hj:=(J0n hw hR hp hq).1;have hd:=(G09 hw hR).1;have hd2:=(G09 hw hR).2 _ hj;unfold D0q E01;rw[i1,i2,e1,e2];simp only[if_true,X0v hw hR hf hp hq,S0U hw hR (show 401<F by omega),F1,toNat_natCast];have i3:y0 (C0S l) ((A0q l p q:Nat):Int)=true:=B4 (by omega) (by omega);have i4:y0 l ((A0q l p q:Nat):Int)=true:=B4 (by omega) (by omega);have w3:W (gt (C0S l) ((A0q l p q:Nat):Int)+1)=gt (C0S l) ((A0q l p q:Nat):Int)+1:=c0R (by omega) (by omega);have w4:W (gt (C0S l) ((A0q l p q:Nat):Int)+1+1)=gt (C0S l) ((A0q l p q:Nat):Int)+1+1:=c0R (by omega) (by omega);rw[i3,i4];simp only[if_true,w3,w4];split<;>rfl
def R0D (hw:∀x∈l,l02 x)(hR:e0M l=true){n:Nat}(hn:n=u5 l l.length)(hf:1000<F)(hL:a0I F l=some (e0L l l.length)){x y:E1}(hx:D0j n x)(hy:D0j n y)(hne:x.To≠y.To):
  g0Z F F l x y=some (C0H l x y):=by
 obtain⟨k,rfl⟩:∃k,F=k+2:=⟨F-2,by omega⟩
 by_cases hle:x.Turn≠y.Turn\/x.To<y.To
 ·exact N0X hw hR hn hf hL hx hy hne _ hle
 ·have e:x.Turn=y.Turn:=by omega
  have h:=N0X hw hR hn hf hL hy hx (fun h=>hne h.symm) k (.inr (by omega));have hc:=L0f l x y hne;obtain⟨a1,a2,a3,a4⟩:=hx;obtain⟨b1,b2,b3,b4⟩:=hy;have hll:=C0e l l.length;unfold g0Z;rw[hL];have c1:x.To>=0:=a1;have c2:x.To<((e0L l l.length).length:Int):=by omega
  have c3:y.To>=0:=b1;have c4:y.To<((e0L l l.length).length:Int):=by omega
  have c5:(x.To==y.To)=false:=by simpa using hne
  have h1:¬x.Turn>y.Turn:=by omega
  have h2:¬x.Turn<y.Turn:=by omega
  have h3:x.To>y.To:=by omega
  simp only[q0,c1,c2,c3,c4,c5,h1,h2,h3,h,hc];have:(C0H l x y).2.2=-1:=by unfold C0H;rw[if_neg h1,if_neg h2,if_pos h3]
  rw[<-this]
def R0t (hw:∀x∈l,l02 x)(hR:e0M l=true){n:Nat}(hn:n=u5 l l.length)(hl:l.length*64<=140737488351232)(hf:1000<F)(hf2:l.length+1<F)(hL:C0z F l=some (e0L l l.length)){x y:E1}(hx:D0j n x)(hy:D0j n y)(hne:x.To≠y.To):
  I0L F l x y=some (C0H l x y):=by
 obtain⟨a1,a2,a3,a4⟩:=hx;obtain⟨b1,b2,b3,b4⟩:=hy;have hll:=C0e l l.length;unfold I0L;rw[hL];have c1:¬x.To<0:=by omega
 have c2:¬x.To>=((e0L l l.length).length:Int):=by omega
 have c3:¬y.To<0:=by omega
 have c4:¬y.To>=((e0L l l.length).length:Int):=by omega
 have c5:(x.To==y.To)=false:=by simpa using hne
 have w1:W (x.Turn+1)=x.Turn+1:=c0R (by omega) (by omega);have w2:W (y.Turn+1)=y.Turn+1:=c0R (by omega) (by omega);simp only[q0,c1,c2,c3,c4,c5,w1,w2,decide_eq_true_eq];unfold C0H
 by_cases h1:x.Turn>y.Turn
 ·rw[if_pos h1,if_pos h1]
 ·rw[if_neg h1,if_neg h1]
  by_cases h2:x.Turn<y.Turn
  ·rw[if_pos h2,if_pos h2]
  ·rw[if_neg h2,if_neg h2];obtain⟨p,hp,e1,i1⟩:=F0C l hn a1 a2;obtain⟨q,hq,e2,i2⟩:=F0C l hn b1 b2;have hj:=(J0n hw hR hp hq).1;have hd:=(G09 hw hR).1;have hd2:=(G09 hw hR).2 _ hj;unfold D0q E01;rw[i1,i2,e1,e2];simp only[if_true,S0n hw hR hl hf hf2 hp hq,T0O hw hR (show 401<F by omega),F1,toNat_natCast];have i3:y0 (C0S l) ((A0q l p q:Nat):Int)=true:=B4 (by omega) (by omega);have i4:y0 l ((A0q l p q:Nat):Int)=true:=B4 (by omega) (by omega);have w3:W (gt (C0S l) ((A0q l p q:Nat):Int)+1)=gt (C0S l) ((A0q l p q:Nat):Int)+1:=c0R (by omega) (by omega);have w4:W (gt (C0S l) ((A0q l p q:Nat):Int)+1+1)=gt (C0S l) ((A0q l p q:Nat):Int)+1+1:=c0R (by omega) (by omega);rw[i3,i4];simp only[if_true,w3,w4]
   by_cases h3:x.To>y.To
   ·by_cases h4:(gt l ((A0q l p q:Nat):Int)).Kind=3
    ·simp[h3,h4]
    ·simp[h3,h4]
   ·by_cases h4:(gt l ((A0q l p q:Nat):Int)).Kind=3
    ·simp[h3,h4]
    ·simp[h3,h4]
end
def B0o (i k:Nat)(f:Nat->Nat->Int)(a b:Nat):Int:=if(a<i/\b<i)\/(a=i/\b<k)\/(b=i/\a<k)then f a b else 0
def C0m (i k:Nat)(f:Nat->Nat->Int)(a b:Nat):Int:=if a<i\/(a=i/\b<k)then f a b else 0
def T0Q {m i k:Nat}(hk:k<i)(f:Nat->Nat->Int):
  e7 m m (fun a=>if a=k then(fun j=>if j=i then f k i else(if k=i then(fun j=>if j=k then f i k else B0o i k f i j)else B0o i k f k) j)else(if a=i then(fun j=>if j=k then f i k else B0o i k f i j)else B0o i k f a))=e7 m m (B0o i (k+1) f):=by
 refine C0P fun a b _ _=>?_;have hki:¬k=i:=by omega
 by_cases e1:a=k
 ·rw[if_pos e1]
  by_cases e2:b=i
  ·rw[if_pos e2];unfold B0o;rw[if_pos (by omega),e1,e2]
  ·rw[if_neg e2,if_neg hki,e1];unfold B0o
   by_cases e3:b<i
   ·rw[if_pos (by omega),if_pos (by omega)]
   ·rw[if_neg (by omega),if_neg (by omega)]
 ·rw[if_neg e1]
  by_cases e2:a=i
  ·rw[if_pos e2]
   by_cases e3:b=k
   ·rw[if_pos e3];unfold B0o;rw[if_pos (by omega),e2,e3]
   ·rw[if_neg e3,e2];unfold B0o
    by_cases e4:b<k
    ·rw[if_pos (by omega),if_pos (by omega)]
    ·rw[if_neg (by omega),if_neg (by omega)]
  ·rw[if_neg e2];unfold B0o
   by_cases e4:(a<i/\b<i)\/(a=i/\b<k)\/(b=i/\a<k)
   ·rw[if_pos e4,if_pos (by omega)]
   ·rw[if_neg e4,if_neg (by omega)]
def N0o {m i:Nat}(f:Nat->Nat->Int)(h:f i i=0):e7 m m (B0o i i f)=e7 m m (B0o (i+1) 0 f):=by
 refine C0P fun a b _ _=>?_;unfold B0o
 by_cases e:a=i/\b=i
 ·rw[if_neg (by omega),if_pos (by omega),e.1,e.2,h]
 ·by_cases e4:(a<i/\b<i)\/(a=i/\b<i)\/(b=i/\a<i)
  ·rw[if_pos e4,if_pos (by omega)]
  ·rw[if_neg e4,if_neg (by omega)]
def P0a {m i k:Nat}(f:Nat->Nat->Int):e7 m m (fun a=>if a=i then(fun j=>if j=k then f i k else C0m i k f i j)else C0m i k f a)=e7 m m (C0m i (k+1) f):=by
 refine C0P fun a b _ _=>?_
 by_cases e2:a=i
 ·rw[if_pos e2]
  by_cases e3:b=k
  ·rw[if_pos e3];unfold C0m;rw[if_pos (by omega),e2,e3]
  ·rw[if_neg e3,e2];unfold C0m
   by_cases e4:b<k
   ·rw[if_pos (by omega),if_pos (by omega)]
   ·rw[if_neg (by omega),if_neg (by omega)]
 ·rw[if_neg e2];unfold C0m
  by_cases e4:a<i
  ·rw[if_pos (by omega),if_pos (by omega)]
  ·rw[if_neg (by omega),if_neg (by omega)]
def O0r {m i:Nat}(f:Nat->Nat->Int)(h:f i i=0):e7 m m (C0m i i f)=e7 m m (C0m i (i+1) f):=by
 refine C0P fun a b _ _=>?_;unfold C0m
 by_cases e:a=i/\b=i
 ·rw[if_neg (by omega),if_pos (by omega),e.1,e.2,h]
 ·by_cases e4:a<i\/(a=i/\b<i)
  ·rw[if_pos e4,if_pos (by omega)]
  ·rw[if_neg e4,if_neg (by omega)]
def N0S {m i:Nat}(f:Nat->Nat->Int):e7 m m (C0m i m f)=e7 m m (C0m (i+1) 0 f):=by
 refine C0P fun a b ha hb=>?_;unfold C0m
 by_cases e4:a<i\/(a=i/\b<m)
 ·rw[if_pos e4,if_pos (by omega)]
 ·rw[if_neg e4,if_neg (by omega)]
def O07 {fr:List Nat}{i k:Nat}:(((fr.getD i 0:Nat):Int)==((fr.getD k 0:Nat):Int))=decide (fr.getD i 0=fr.getD k 0):=by
 by_cases h:fr.getD i 0=fr.getD k 0
 ·rw[h];simp
 ·have:¬((fr.getD i 0:Nat):Int)=((fr.getD k 0:Nat):Int):=by omega
  simp only[h,decide_false,beq_eq_false_iff_ne,ne_eq,this,not_false_eq_true]
section
variable {F:Nat}{l:List U0}{n m:Nat}{fB fD:Nat->Nat->Int}{fr:List Nat}{hops:List E1}
structure H0w (l:List U0)(n m:Nat)(fr:List Nat)(hops:List E1):Prop where
 lt:∀i∈fr,i<m
 len:hops.length=fr.length
 le:fr.length<=500
 hop:∀x∈hops,D0j n x
 asc:hops.Pairwise fun a b=>a.To<b.To
def U08 {d:Int}(h:d=1\/d=-1):W (0-d)=- d:=by rcases h with h|h<;>rw[h]<;>rfl
def P00 (hw:∀x∈l,l02 x)(hR:e0M l=true)(hn:n=u5 l l.length)(hf:2000<F)(hL:a0I F l=some (e0L l l.length))(h:C0Q m fB fD)(g:H0w l n m fr hops){i:Nat}(hi:i<fr.length):
  iter (s0s F l (b0U m fB fD) (a0B fr) hops (i:Int)) F (0,e7 fr.length fr.length (B0o i 0 (A0Q l fB fr hops)),e7 fr.length fr.length (B0o i 0 (A0R l fB fD fr hops)))=some (e7 fr.length fr.length (B0o (i+1) 0 (A0Q l fB fr hops)),e7 fr.length fr.length (B0o (i+1) 0 (A0R l fB fD fr hops))):=by
 have hle:=g.le;have ok:=K0Z hw hR hn h g.lt g.len g.hop g.asc;rw[<-N0o _ (ok.bd i hi),<-N0o _ (ok.dd i hi)];have:=j0K (step:=s0s F l (b0U m fB fD) (a0B fr) hops (i:Int)) (fun k=>((k:Int),e7 fr.length fr.length (B0o i k (A0Q l fB fr hops)),e7 fr.length fr.length (B0o i k (A0R l fB fD fr hops)))) (e7 fr.length fr.length (B0o i i (A0Q l fB fr hops)),e7 fr.length fr.length (B0o i i (A0R l fB fD fr hops))) i (fun k hk=>.inl ?_) ?_ i 0 F (by omega) (by omega)
 ·exact this
 ·have hkl:k<fr.length:=by omega
  have h1:(k:Int)<(i:Int):=by omega
  have hih:y0 hops (i:Int)=true:=B4 (by omega) (by rw[g.len];omega);have hkh:y0 hops (k:Int)=true:=B4 (by omega) (by rw[g.len];omega);have xi:=E0I g.hop (i:=i) (by rw[g.len];exact hi);have xk:=E0I g.hop (i:=k) (by rw[g.len];exact hkl);have hto:=L0P g.asc (i:=i) (k:=k) (by rw[g.len];exact hi) (by rw[g.len];exact hkl) (by omega);have hne:¬i=k:=by omega
  have hne':¬k=i:=by omega
  have hdn:=ok.dn i k hi hkl;have hd1:=ok.d1 i k hi hkl hne;have hWd:W (0-A0R l fB fD fr hops i k)=A0R l fB fD fr hops k i:=by rw[hdn];exact U08 hd1
  have key:∀p q r:Int,p=A0Q l fB fr hops i k->q=A0Q l fB fr hops k i->r=A0R l fB fD fr hops i k->
    (Option.bind (some (e7 fr.length fr.length (fun a=>if a=k then(fun j=>if j=i then q else(if k=i then(fun j=>if j=k then p else B0o i k (A0Q l fB fr hops) i j)else B0o i k (A0Q l fB fr hops) k) j)else(if a=i then(fun j=>if j=k then p else B0o i k (A0Q l fB fr hops) i j)else B0o i k (A0Q l fB fr hops) a)),
     e7 fr.length fr.length (fun a=>if a=i then(fun j=>if j=k then r else B0o i k (A0R l fB fD fr hops) i j)else B0o i k (A0R l fB fD fr hops) a))) fun(y5,y6)=>
    (if y0 y6 (k:Int)then
     if y0 y6 (i:Int)then
      if y0 (gt y6 (i:Int)) (k:Int)then
       if y0 (gt y6 (k:Int)) (i:Int)then
        let t5:=y6.set (k:Int).toNat ((gt y6 (k:Int)).set (i:Int).toNat (W (0-(gt (gt y6 (i:Int)) (k:Int)))))
        some (.next (W ((k:Int)+1),y5,t5))
       else none
      else none
     else none
    else none:Option (T0 (Int×(List (List Int))×(List (List Int))) ((List (List Int))×(List (List Int))))))=some (.next (((k+1:Nat):Int),e7 fr.length fr.length (B0o i (k+1) (A0Q l fB fr hops)),e7 fr.length fr.length (B0o i (k+1) (A0R l fB fD fr hops)))):=by
   rintro p q r rfl rfl rfl
   simp only[F1,B09 _ hi,B09 _ hkl,B06 _ hi,B06 _ hkl,C0u _ hi,C0u _ hkl,if_true,C00 _ hi,C00 _ hkl,toNat_natCast,F0M,F0A,T0Q hk,hWd,R2 (i:=k) (by omega)]
  unfold s0s;simp only[h1,decide_true,if_true,C0f hi,C0f hkl,C0B hi,C0B hkl,O07,decide_eq_true_eq,B09 _ hi,B09 _ hkl,hih,hkh,R0D hw hR hn (show 1000<F by omega) hL xi xk hto,B06 _ hi,B06 _ hkl,C0u _ hi,C0u _ hkl,J0b g.len g.lt hi hkl,J0b g.len g.lt hkl hi,O0K g.len g.lt hi hkl,toNat_natCast,F0M,F0A]
  by_cases he:fr.getD i 0=fr.getD k 0
  ·rw[if_pos he];refine key _ _ _ ?_ ?_ ?_
   ·unfold A0Q;rw[if_neg hne,if_pos he]
   ·unfold A0Q;rw[if_neg hne',if_pos he.symm,L0f l _ _ hto]
   ·unfold A0R;rw[if_neg hne,if_pos he]
  ·rw[if_neg he];refine key _ _ _ ?_ ?_ ?_
   ·unfold A0Q;rw[if_neg hne,if_neg he]
   ·unfold A0Q;rw[if_neg hne',if_neg (fun e=>he e.symm)]
   ·unfold A0R;rw[if_neg hne,if_neg he]
 ·unfold s0s;have h1:¬((i:Int)<(i:Int)):=by omega
  simp only[q0,h1]
def Q0H (hw:∀x∈l,l02 x)(hR:e0M l=true)(hn:n=u5 l l.length)(hf:2000<F)(hL:a0I F l=some (e0L l l.length))(hm:m<=1000)(h:C0Q m fB fD)(g:H0w l n m fr hops):
  m0B F l (b0U m fB fD) (a0B fr) hops=some (b0U fr.length (A0Q l fB fr hops) (A0R l fB fD fr hops)):=by
 have hle:=g.le;unfold m0B;rw[I0S hm hf h];have hlen:(((a0B fr).length:Int) != (hops.length:Int))=false:=by rw[E0u,g.len];simp
 have t1:=j0K (step:=w0f F (b0U m fB fD) (a0B fr)) (fun i=>(i:Int)) (.inr ()) fr.length (fun i hi=>.inl ?_) ?_ fr.length 0 F (by omega) (by omega)
 ·have e1:iter (w0f F (b0U m fB fD) (a0B fr)) F 0=_:=t1;have t2:=j0K (step:=x04 F l (b0U m fB fD) (a0B fr) hops) (fun i=>((i:Int),e7 fr.length fr.length (B0o i 0 (A0Q l fB fr hops)),e7 fr.length fr.length (B0o i 0 (A0R l fB fD fr hops)))) (e7 fr.length fr.length (A0Q l fB fr hops),e7 fr.length fr.length (A0R l fB fD fr hops)) fr.length (fun i hi=>.inl ?_) ?_ fr.length 0 F (by omega) (by omega)
  ·have z:∀f,e7 fr.length fr.length (B0o 0 0 f)=e7 fr.length fr.length fun _ _=>0:=fun f=>C0P fun a b _ _=>by unfold B0o;rw[if_neg (by omega)]
   rw[z,z]at t2;have e2:iter (x04 F l (b0U m fB fD) (a0B fr) hops) F (0,e7 fr.length fr.length (fun _ _=>0),e7 fr.length fr.length fun _ _=>0)=_:=t2;simp only[q0,hlen,e1,show decide ((-1:Int)>=0)=false from rfl];rw[E0u,O06 (by omega) hf];simp only[F1,e2];rfl
  ·unfold x04;have h1:(i:Int)<((a0B fr).length:Int):=by simp;omega
   simp only[q0,h1,P00 hw hR hn hf hL h g hi,R2 (i:=i) (by omega)]
  ·unfold x04;have h1:¬((fr.length:Int)<((a0B fr).length:Int)):=by simp
   have z:∀f,e7 fr.length fr.length (B0o fr.length 0 f)=e7 fr.length fr.length f:=fun f=>C0P fun a b _ _=>by unfold B0o;rw[if_pos (by omega)]
   simp only[q0,h1,z]
 ·unfold w0f f0H;have h1:(i:Int)<((a0B fr).length:Int):=by simp;omega
  have hx:=C0t g.lt hi;have h2:((fr.getD i 0:Nat):Int)>=0:=by omega
  have h3:((fr.getD i 0:Nat):Int)<((b0U m fB fD).B.length:Int):=by simp only[b0U,I0M];omega
  simp only[q0,h1,C0f hi,C0B hi,h2,h3,R2 (i:=i) (by omega)]
 ·unfold w0f;have h1:¬((fr.length:Int)<((a0B fr).length:Int)):=by simp
  simp only[q0,h1]
def R08 (hw:∀x∈l,l02 x)(hR:e0M l=true)(hn:n=u5 l l.length)(hl:l.length*64<=140737488351232)(hf:2000<F)(hf2:l.length+1<F)(hL:C0z F l=some (e0L l l.length))(h:C0Q m fB fD)(g:H0w l n m fr hops){i:Nat}(hi:i<fr.length):
  iter (H0f F l (b0U m fB fD) (a0B fr) hops (i:Int)) F (0,e7 fr.length fr.length (C0m i 0 (A0Q l fB fr hops)),e7 fr.length fr.length (C0m i 0 (A0R l fB fD fr hops)))=some (e7 fr.length fr.length (C0m (i+1) 0 (A0Q l fB fr hops)),e7 fr.length fr.length (C0m (i+1) 0 (A0R l fB fD fr hops))):=by
 have hle:=g.le;have ok:=K0Z hw hR hn h g.lt g.len g.hop g.asc;rw[<-N0S,<-N0S];have:=j0K (step:=H0f F l (b0U m fB fD) (a0B fr) hops (i:Int)) (fun k=>((k:Int),e7 fr.length fr.length (C0m i k (A0Q l fB fr hops)),e7 fr.length fr.length (C0m i k (A0R l fB fD fr hops)))) (e7 fr.length fr.length (C0m i fr.length (A0Q l fB fr hops)),e7 fr.length fr.length (C0m i fr.length (A0R l fB fD fr hops))) fr.length (fun k hkl=>.inl ?_) ?_ fr.length 0 F (by omega) (by omega)
 ·exact this
 ·have h1:(k:Int)<((a0B fr).length:Int):=by simp;omega
  have hih:y0 hops (i:Int)=true:=B4 (by omega) (by rw[g.len];omega);have hkh:y0 hops (k:Int)=true:=B4 (by omega) (by rw[g.len];omega);have xi:=E0I g.hop (i:=i) (by rw[g.len];exact hi);have xk:=E0I g.hop (i:=k) (by rw[g.len];exact hkl);unfold H0f
  by_cases hik:i=k
  ·subst hik;simp only[q0,h1,beq_self_eq_true,R2 (i:=i) (by omega),O0r _ (ok.bd i hi),O0r _ (ok.dd i hi)]
  ·have hto:=L0P g.asc (i:=i) (k:=k) (by rw[g.len];exact hi) (by rw[g.len];exact hkl) hik;have hb:((i:Int)==(k:Int))=false:=by simp;omega
   have xa:=C0t g.lt hi;have xb:=C0t g.lt hkl;simp only[h1,decide_true,if_true,hb,false_eq_true,if_false,C0f hi,C0f hkl,C0B hi,C0B hkl,O07,decide_eq_true_eq,B09 _ hi,B09 _ hkl,hih,hkh,R0t hw hR hn hl (show 1000<F by omega) hf2 hL xi xk hto,O0e,M01 xa xb,B06 _ hi,B06 _ hkl,C0u _ hi,C0u _ hkl,
    show(b0U m fB fD).B=e7 m m fB from rfl,B09 _ xa,B06 _ xa,C0u _ xb,C00 _ xb,toNat_natCast,F0M,F0A,F1,R2 (i:=k) (by omega)]
   have eB:=P0a (m:=fr.length) (i:=i) (k:=k) (A0Q l fB fr hops);have eD:=P0a (m:=fr.length) (i:=i) (k:=k) (A0R l fB fD fr hops)
   by_cases he:fr.getD i 0=fr.getD k 0
   ·rw[if_pos he];have q1:A0Q l fB fr hops i k=(C0H l (gt hops (i:Int)) (gt hops (k:Int))).1:=by unfold A0Q;rw[if_neg hik,if_pos he]
    have q2:A0R l fB fD fr hops i k=(C0H l (gt hops (i:Int)) (gt hops (k:Int))).2.2:=by unfold A0R;rw[if_neg hik,if_pos he]
    rw[q1]at eB;rw[q2]at eD;simp only[F1,eB,eD]
   ·rw[if_neg he];have q1:A0Q l fB fr hops i k=D0a (fB (fr.getD i 0) (fr.getD k 0)) (gt hops (i:Int)).Turn:=by unfold A0Q;rw[if_neg hik,if_neg he]
    have q2:A0R l fB fD fr hops i k=agF fB fD (fr.getD i 0) (fr.getD k 0) (gt hops (i:Int)) (gt hops (k:Int)):=by unfold A0R;rw[if_neg hik,if_neg he]
    rw[q1]at eB;rw[q2]at eD;simp only[F1,eB,eD]
 ·unfold H0f;have h1:¬((fr.length:Int)<((a0B fr).length:Int)):=by simp
  simp only[q0,h1]
def T0M (hw:∀x∈l,l02 x)(hR:e0M l=true)(hn:n=u5 l l.length)(hl:l.length*64<=140737488351232)(hf:2000<F)(hf2:l.length+1<F)(hL:C0z F l=some (e0L l l.length))(hm:m<=1000)(h:C0Q m fB fD)(g:H0w l n m fr hops):
  H0Y F l (b0U m fB fD) (a0B fr) hops=some (b0U fr.length (A0Q l fB fr hops) (A0R l fB fD fr hops)):=by
 have hle:=g.le;unfold H0Y;have hrl:((b0U m fB fD).B.length:Int)=(m:Int):=by simp[b0U]
 rw[hrl,F0r hm hf h];have hlen:(((a0B fr).length:Int) != (hops.length:Int))=false:=by rw[E0u,g.len];simp
 have t1:=j0K (step:=G04 F (b0U m fB fD) (a0B fr)) (fun i=>(i:Int)) (.inr ()) fr.length (fun i hi=>.inl ?_) ?_ fr.length 0 F (by omega) (by omega)
 ·have e1:iter (G04 F (b0U m fB fD) (a0B fr)) F 0=_:=t1;have t2:=j0K (step:=G0s F l (b0U m fB fD) (a0B fr) hops) (fun i=>((i:Int),e7 fr.length fr.length (C0m i 0 (A0Q l fB fr hops)),e7 fr.length fr.length (C0m i 0 (A0R l fB fD fr hops)))) (e7 fr.length fr.length (A0Q l fB fr hops),e7 fr.length fr.length (A0R l fB fD fr hops)) fr.length (fun i hi=>.inl ?_) ?_ fr.length 0 F (by omega) (by omega)
  ·have z:∀f,e7 fr.length fr.length (C0m 0 0 f)=e7 fr.length fr.length fun _ _=>0:=fun f=>C0P fun a b _ _=>by unfold C0m;rw[if_neg (by omega)]
   rw[z,z]at t2;have e2:iter (G0s F l (b0U m fB fD) (a0B fr) hops) F (0,e7 fr.length fr.length (fun _ _=>0),e7 fr.length fr.length fun _ _=>0)=_:=t2;simp only[q0,hlen,e1];rw[E0u,O0T (by omega) hf];simp only[F1,e2];rfl
  ·unfold G0s;have h1:(i:Int)<((a0B fr).length:Int):=by simp;omega
   simp only[q0,h1,R08 hw hR hn hl hf hf2 hL h g hi,R2 (i:=i) (by omega)]
  ·unfold G0s;have h1:¬((fr.length:Int)<((a0B fr).length:Int)):=by simp
   have z:∀f,e7 fr.length fr.length (C0m fr.length 0 f)=e7 fr.length fr.length f:=fun f=>C0P fun a b _ _=>by unfold C0m;rw[if_pos (by omega)]
   simp only[q0,h1,z]
 ·unfold G04;have h1:(i:Int)<((a0B fr).length:Int):=by simp;omega
  have hx:=C0t g.lt hi;have h2:¬((fr.getD i 0:Nat):Int)<0:=by omega
  have h3:¬((fr.getD i 0:Nat):Int)>=((b0U m fB fD).B.length:Int):=by simp only[b0U,I0M];omega
  simp only[q0,h1,C0f hi,C0B hi,h2,h3,R2 (i:=i) (by omega)]
 ·unfold G04;have h1:¬((fr.length:Int)<((a0B fr).length:Int)):=by simp
  simp only[q0,h1]
end
def wrap_u64 {n:Nat}(h:n<18446744073709551616):IntKind.wrap .u64 (n:Int)=n:=by
 simp[IntKind.wrap,IntKind.bits,IntKind.signed];omega
def N0Z (x y:BitVec 64):R1 .u64 (x.toNat:Int) (y.toNat:Int)=((x&&& y).toNat:Int):=by
 unfold R1;simp only[IntKind.bits,BitVec.ofInt_natCast,BitVec.ofNat_toNat,BitVec.setWidth_eq];exact wrap_u64 (x&&& y).isLt
def V0C {k:Nat}(h:k<64):shl .u64 1 (k:Int)=((BitVec.twoPow 64 k).toNat:Int):=by
 have h1:min k 64=k:=by omega
 have h2:2 ^ k<18446744073709551616:=Nat.pow_lt_pow_right (a:=2) (by omega) (show k<64 from h);unfold shl;rw[show(IntKind.u64).bits=64 from rfl,toNat_natCast,h1,Int.one_mul,BitVec.toNat_twoPow,Nat.mod_eq_of_lt h2];rw[show((2:Int) ^ k)=((2 ^ k:Nat):Int) by simp];exact wrap_u64 h2
def R0A (x:BitVec 64){k:Nat}(h:k<64):shr .u64 (x.toNat:Int) (k:Int)=((x >>> k).toNat:Int):=by
 have h1:min k 64=k:=by omega
 unfold shr;rw[show(IntKind.u64).bits=64 from rfl,toNat_natCast,h1,BitVec.toNat_ushiftRight,Nat.shiftRight_eq_div_pow,show((2:Int) ^ k)=((2 ^ k:Nat):Int) by simp,Int.fdiv_eq_ediv_of_nonneg _ (natCast_nonneg _),Int.natCast_ediv]
def W0L {v:Int}(h0:0<=v)(h1:v<18446744073709551616){k:Nat}(hk:k<64):(R1 .u64 v (shl .u64 1 (k:Int)) != 0)=(R1 .u64 (shr .u64 v (k:Int)) 1==1):=by
 obtain⟨x,rfl⟩:∃x:BitVec 64,v=(x.toNat:Int):=⟨BitVec.ofNat 64 v.toNat,by rw[BitVec.toNat_ofNat,Nat.mod_eq_of_lt (by omega)];omega⟩
 rw[V0C hk,R0A x hk,N0Z,show(1:Int)=((BitVec.twoPow 64 0).toNat:Int)from rfl,N0Z,BitVec.and_twoPow,BitVec.and_twoPow];have hb:(x >>> k).getLsbD 0=x.getLsbD k:=by simp
 rw[hb];have hp:(BitVec.twoPow 64 k).toNat≠0:=by
  rw[BitVec.toNat_twoPow,Nat.mod_eq_of_lt (Nat.pow_lt_pow_right (a:=2) (by omega) (show k<64 from hk))];exact Nat.ne_of_gt (Nat.two_pow_pos k)
 cases x.getLsbD k with
 |false=>simp
 |
  true=>
  have:((BitVec.twoPow 64 k).toNat:Int)≠0:=by omega
  simp only[if_true,bne_iff_ne,ne_eq,this,not_false_eq_true,beq_self_eq_true,bne,beq_eq_false_iff_ne.2 this,Bool.not_false]
def hasB (s:List Int)(b:Int):Bool:=R1 .u64 (gt s (Int.tdiv b 64)) (shl .u64 1 (Int.tmod b 64)) != 0
def N0r (fuel:Nat){s:List Int}(hs:s.length=4/\∀y∈s,inK .u64 y){b:Int}(hb:inK .u8 b):d0G fuel s b=some (hasB s b)/\I0T fuel s (W b)=some (hasB s b):=by
 have hb':0<=b/\b<256:=⟨hb.1,by have:=hb.2;rw[show IntKind.u8.max=255 from rfl]at this;omega⟩
 obtain⟨n,rfl⟩:∃n:Nat,b=n:=⟨b.toNat,by omega⟩
 have hn:n<256:=by omega
 have hd:Int.tdiv (n:Int) 64=((n / 64:Nat):Int):=by rw[Int.tdiv_eq_ediv_of_nonneg (by omega)];simp
 have hm:Int.tmod (n:Int) 64=((n % 64:Nat):Int):=by rw[Int.tmod_eq_emod_of_nonneg (by omega)];simp
 have hw8:IntKind.wrap .u8 ((n / 64:Nat):Int)=((n / 64:Nat):Int):=by simp[IntKind.wrap,IntKind.bits,IntKind.signed];omega
 have hWn:W (n:Int)=n:=N0U (by omega);have hWd:W ((n / 64:Nat):Int)=((n / 64:Nat):Int):=N0U (by omega);have hin:O0O 4 ((n / 64:Nat):Int)=true:=by simp[O0O];omega
 have hmem:=hs.2 _ (List.mem_of_getElem? (B01 (l:=s) (i:=n / 64) (by omega)));have hv:0<=gt s ((n / 64:Nat):Int)/\gt s ((n / 64:Nat):Int)<18446744073709551616:=⟨hmem.1,by have:=hmem.2;rw[show IntKind.u64.max=18446744073709551615 from rfl]at this;omega⟩
 have h0:(0:Int)<=((n % 64:Nat):Int):=by omega
 unfold d0G I0T hasB;have q1:(0:Int)<=((n / 64:Nat):Int):=by omega
 have q2:((n / 64:Nat):Int)<4:=by omega
 have q3:¬((n % 64:Nat):Int)<0:=by omega
 have q4:(n:Int)>=0:=by omega
 have q5:(n:Int)<256:=by omega
 simp only[q0,hWn,hd,hm,hw8,hWd,q1,q2,q3,q4,q5,Bool.and_self,W0L hv.1 hv.2 (show n % 64<64 by omega),and_self]
def C0l (ws:List E1)(r:Nat):Option E1:=ws.find? fun h=>h.To==(r:Int)
def D0u (ws:List E1)(r:Nat):E1:=(C0l ws r).getD ⟨0,0,[]⟩
def z0X (Ws:List (List E1))(r k:Nat):List Nat:=(List.range k).filter fun i=>(C0l (Ws.getD i []) r).isSome
def B0X (Ws:List (List E1))(r k:Nat):List E1:=(z0X Ws r k).map fun i=>D0u (Ws.getD i []) r
def J0M (Ws:List (List E1))(r k:Nat):z0X Ws r (k+1)=z0X Ws r k++if(C0l (Ws.getD k []) r).isSome then[k]else[]:=by
 unfold z0X;rw[List.range_succ,List.filter_append];congr 1;cases h:(C0l (Ws.getD k []) r).isSome
 ·simp only[List.filter_cons,h,false_eq_true,if_false,List.filter_nil]
 ·simp only[List.filter_cons,h,if_true,List.filter_nil]
def O01 (Ws:List (List E1))(r k:Nat):B0X Ws r (k+1)=B0X Ws r k++if(C0l (Ws.getD k []) r).isSome then[D0u (Ws.getD k []) r]else[]:=by
 unfold B0X;rw[J0M,List.map_append];congr 1;split<;>rfl
def O0o {Ws:List (List E1)}{r k i:Nat}(h:i∈z0X Ws r k):i<k:=List.mem_range.1 (List.mem_filter.1 h).1
def J0u (Ws:List (List E1))(r k:Nat):(z0X Ws r k).length<=k:=Nat.le_trans (List.length_filter_le _ _) (by simp)
def I0D (Ws:List (List E1))(r k:Nat):(B0X Ws r k).length=(z0X Ws r k).length:=by simp[B0X]
def Q0D {ws:List E1}{r:Nat}(h:(C0l ws r).isSome=true):D0u ws r∈ws/\(D0u ws r).To=r:=by
 unfold D0u;cases e:C0l ws r with
 |none=>rw[e]at h;simp at h
 |
  some x=>
  have:=List.find?_some e;exact⟨List.mem_of_find?_eq_some e,by simpa using this⟩
def C07 (fB fD:Nat->Nat->Int)(Ws:List (List E1))(r:Nat):Nat:=(E0r fB fD (z0X Ws r Ws.length) (B0X Ws r Ws.length)).toNat
def F0i (fB fD:Nat->Nat->Int)(Ws:List (List E1))(r:Nat):Nat:=(z0X Ws r Ws.length).getD (C07 fB fD Ws r) 0
def H0E (fB fD:Nat->Nat->Int)(Ws:List (List E1))(r:Nat):E1:=D0u (Ws.getD (F0i fB fD Ws r) []) r
def A0k (hs:Nat->Bool)(Ws:List (List E1))(k:Nat):List Nat:=(List.range k).filter fun r=>hs r&&!(z0X Ws r Ws.length).isEmpty
def M05 (hs:Nat->Bool)(Ws:List (List E1))(k:Nat):A0k hs Ws (k+1)=A0k hs Ws k++if hs k&&!(z0X Ws k Ws.length).isEmpty then[k]else[]:=by
 unfold A0k;rw[List.range_succ,List.filter_append];congr 1;cases h:(hs k&&!(z0X Ws k Ws.length).isEmpty)<;>simp[h]
def R0i {hs:Nat->Bool}{Ws:List (List E1)}{k i:Nat}(h:i∈A0k hs Ws k):i<k:=List.mem_range.1 (List.mem_filter.1 h).1
def K03 (hs:Nat->Bool)(Ws:List (List E1))(k:Nat):(A0k hs Ws k).length<=k:=Nat.le_trans (List.length_filter_le _ _) (by simp)
def N0i (hs:Nat->Bool)(Ws:List (List E1))(k:Nat):(A0k hs Ws k).Pairwise fun a b=>a<b:=List.Pairwise.filter _ List.pairwise_lt_range
def S09 {hs:Nat->Bool}{Ws:List (List E1)}{k r:Nat}(h:r∈A0k hs Ws k):hs r=true/\z0X Ws r Ws.length≠[]:=by
 have:=(List.mem_filter.1 h).2;simpa using this
def X0d {fB fD:Nat->Nat->Int}{fr:List Nat}{hops:List E1}:∀k,0<k->∃j:Nat,D0O fB fD fr hops k=j/\j<k:=by
 intro k
 induction k with
 |zero=>intro h;omega
 |
  succ k ih=>
  intro _;rw[I0k];unfold E0K;split
  ·exact⟨k,rfl,by omega⟩
  ·split
   ·exact⟨k,rfl,by omega⟩
   ·rcases L0o fB fD fr hops k with h|⟨j,h,hj⟩
    ·rename_i hneg _;rw[h]at hneg;exact absurd (show(-1:Int)<0 by omega) hneg
    ·exact⟨j,h,by omega⟩
def P0r {fB fD:Nat->Nat->Int}{fr:List Nat}{hops:List E1}(h:fr≠[]):∃j:Nat,E0r fB fD fr hops=j/\j<fr.length:=X0d _ (List.length_pos_iff.2 h)
def L0l {fB fD:Nat->Nat->Int}{hops:List E1}:E0r fB fD [] hops=-1:=rfl
section
variable {fB fD:Nat->Nat->Int}{Ws:List (List E1)}{r:Nat}
def J0q (h:z0X Ws r Ws.length≠[]):E0r fB fD (z0X Ws r Ws.length) (B0X Ws r Ws.length)=(C07 fB fD Ws r:Int)/\C07 fB fD Ws r<(z0X Ws r Ws.length).length:=by
 obtain⟨j,h1,h2⟩:=P0r (fB:=fB) (fD:=fD) (hops:=B0X Ws r Ws.length) h;unfold C07;rw[h1];exact⟨rfl,h2⟩
def O0v (h:z0X Ws r Ws.length≠[]):F0i fB fD Ws r∈z0X Ws r Ws.length:=by
 have:=(J0q (fB:=fB) (fD:=fD) h).2;unfold F0i;rw[show(z0X Ws r Ws.length).getD (C07 fB fD Ws r) 0=(z0X Ws r Ws.length)[C07 fB fD Ws r]from by simp[List.getD,this]];exact List.getElem_mem this
def F0g (h:z0X Ws r Ws.length≠[]):F0i fB fD Ws r<Ws.length:=O0o (O0v h)
def M03 (h:z0X Ws r Ws.length≠[]):gt (B0X Ws r Ws.length) (C07 fB fD Ws r:Int)=H0E fB fD Ws r:=by
 have:=(J0q (fB:=fB) (fD:=fD) h).2;refine Y5 ?_;unfold H0E F0i B0X;simp[List.getD,this]
def I07 (h:z0X Ws r Ws.length≠[]):H0E fB fD Ws r∈Ws.getD (F0i fB fD Ws r) []/\(H0E fB fD Ws r).To=r:=Q0D (List.mem_filter.1 (O0v h)).2
end
def B0W (hs:Nat->Bool)(Ws:List (List E1)):Nat->Nat
 |0=>0
 |r+1=>B0W hs Ws r+if hs r then(z0X Ws r Ws.length).length else 0
def H0A (hs:Nat->Bool)(Ws:List (List E1)):∀k,B0W hs Ws k<=k*Ws.length
 |0=>by simp[B0W]
 |
  k+1=>by
  have h1:=H0A hs Ws k;have h2:=J0u Ws k Ws.length;simp only[B0W,Nat.succ_mul];split<;>omega
