/- P. Its conditions: none. -/
import Derived.Test.YtmhooikfkhjijaaGreatYG42
open Bool (false_eq_true)
open List (mem_of_getElem? map_append mem_range mem_filter mem_map map_cons map_nil)
set_option linter.all false
namespace Go.Proofs.YtmhooikfkhjijaaGreat
open Go.V Go.RowKit Old
def e0m {σ τ:Type}{step:σ->Option (V0 σ τ)}{s c:σ}{k:Nat}(h:step s=some (.next c)):iter step (k+1) s=iter step k c:=by
 rw[show iter step (k+1) s=match step s with|none=>none|some (.next c)=>iter step k c|some (.done t)=>some t from rfl,h]
def a0o {σ τ:Type}{step:σ->Option (V0 σ τ)}{s:σ}{t:τ}{k:Nat}(h:step s=some (.done t)):iter step (k+1) s=some t:=by
 rw[show iter step (k+1) s=match step s with|none=>none|some (.next c)=>iter step k c|some (.done t)=>some t from rfl,h]
section
variable {F:Nat}{l:List C0}
def x07 {t:Tm}(x:O2 l t)(hR:K1 l=true){u d:List Int}(hu:UpT u t)(hd:b00 d t){b:Nat}(J:b<l.length):∀(fs:List Fr) (lo:Nat) (s:Tm),Ctx t lo s fs->∀k,fs.length<k->iter (a0l u (P4 l) (b:Int)) k (s.top lo:Int)=some ((b06 b fs lo s:Nat):Int):=by
 have y:=a0M hR;have hlen:=x.len;intro fs
 induction fs with
 |nil=>
  intro lo s j k hk;obtain⟨k,rfl⟩:∃q,k=q+1:=⟨k-1,by simp at hk;omega⟩
  have c:=j.at_ x;have g:=c0P hR c;have o:=c.j5;obtain⟨rfl,rfl⟩:=j;have i:B0 (P4 l) (s.top 0:Int)=true:=R0 (by omega) (by rw[y.len];omega);have h1:(s.top 0:Int)>=0:=by omega
  have w:gt (P4 l) (s.top 0:Int)<=(b:Int):=by rw[g];omega
  have I:(b:Int)<=(s.top 0:Int):=by unfold Tm.top;omega
  refine a0o ?_;unfold a0l;simp only[Int.natCast_nonneg,decide_true,if_true,i,w,I,Bool.and_self,b06]
 |cons f fs ih=>
  intro lo s j k hk;obtain⟨k,rfl⟩:∃q,k=q+1:=⟨k-1,by simp at hk;omega⟩
  have c:=j.at_ x;have g:=c0P hR c;have o:=c.j5;have p:=j.r0u x hu hd;have i:B0 (P4 l) (s.top lo:Int)=true:=R0 (by omega) (by rw[y.len];omega);have v:B0 u (s.top lo:Int)=true:=R0 (by omega) (by rw[hu.len];omega);have hn:=ih _ _ j.2 k (by simp at hk;omega)
  by_cases h:lo<=b/\b<=s.top lo
  ·refine a0o ?_;unfold a0l;simp only[Int.natCast_nonneg,decide_true,if_true,i,v,g,Bool.true_and,b06,p];have h1:(lo:Int)<=(b:Int):=by omega
   have w:(b:Int)<=(s.top lo:Int):=by omega
   simp only[h,h1,w,decide_true,Bool.and_self,if_true,and_self]
  ·have w:(decide ((lo:Int)<=(b:Int))&&decide ((b:Int)<=(s.top lo:Int)))=false:=by
    simp only[Bool.and_eq_false_iff,decide_eq_false_iff_not];omega
   have C:a0l u (P4 l) (b:Int) (s.top lo:Int)=some (.next ((Fr.E2 s f).top (lo-f.off):Int)):=by
    unfold a0l;simp only[q0,Int.natCast_nonneg,i,v,g,Bool.true_and,p,w]
   rw[e0m C,b06,if_neg h,hn]
def x0P (hw:∀x∈l,o3 x)(hR:K1 l=true)(J:1000<F){a b:Nat}(ha:a<l.length)(j:b<l.length):e0Y F l (a:Int) (b:Int)=some ((b8 l a b:Nat):Int):=by
 obtain⟨t,c⟩:=a04 hw hR;obtain⟨u,h1,o⟩:=Old.l0S c hR (show 401<F by omega);obtain⟨d,_,p⟩:=Old.i0j c hR (show 401<F by omega);obtain⟨lo,s,fs,g,i⟩:=u0v c ha;have v:=o.len;have hlen:=c.len;have k:=c.le;have w:=g.size;have h:=z0R c hR (a:=a) j fs lo s g (by have:=s.size_pos;unfold Tm.top at i;omega) (by omega) (fun q I C=>by
  have:¬l6 l a b q=true:=fun y=>by have:=(b0L.1 y).2.1;omega
  simpa using this)
 have f:=x07 c hR o p j fs lo s g F (by omega);rw[i]at f;unfold e0Y;rw[B8 q0g h1];have c1:(decide ((a:Int)<0)||(decide ((b:Int)<0)||(decide ((a:Int)>=(u.length:Int))||decide ((b:Int)>=(u.length:Int)))))=false:=by
  simp only[Bool.or_eq_false_iff,decide_eq_false_iff_not];omega
 simp only[q0,c1,t0e (show 401<F by omega),f];rw[q05 h.2.2 h.1 h.2.1]
def n0J (l:List C0){n:Nat}(hn:n=L0 l l.length){x:Int}(f:0<=x)(h1:x<n):∃q:Nat,q<l.length/\gt (L2 l l.length) x=(q:Int)/\B0 (L2 l l.length) x=true:=by
 obtain⟨q,d,c,_⟩:=c0J l l.length x.toNat (by omega);refine⟨q,d,o0O c,R0 f ?_⟩;rw[I9];omega
def r0e (hw:∀x∈l,o3 x)(hR:K1 l=true){n:Nat}(hn:n=L0 l l.length)(U:1000<F)(C:K7 F l=some (L2 l l.length)){x y:y0}(u:a0L n x)(hy:a0L n y)(d:x.To≠y.To)(k:Nat)(hle:x.Turn≠y.Turn\/x.To<y.To):
  e0L F (k+1) l x y=some (u7 l x y):=by
 obtain⟨f,a2,a3,a4⟩:=u;obtain⟨i,s,b3,b4⟩:=hy;have j:=I9 l l.length;unfold e0L;rw[C];have c1:x.To>=0:=f;have c2:x.To<((L2 l l.length).length:Int):=by omega
 have c3:y.To>=0:=i;have t:y.To<((L2 l l.length).length:Int):=by omega
 have R:(x.To==y.To)=false:=by simpa using d
 have w1:W (x.Turn+1)=x.Turn+1:=n3 (by omega) (by omega);have w:W (y.Turn+1)=y.Turn+1:=n3 (by omega) (by omega);simp only[q0,c1,c2,c3,t,R,w1,w,decide_eq_true_eq];unfold u7
 by_cases h1:x.Turn>y.Turn
 ·rw[if_pos h1,if_pos h1]
 ·rw[if_neg h1,if_neg h1]
  by_cases c:x.Turn<y.Turn
  ·rw[if_pos c,if_pos c]
  ·have h:¬x.To>y.To:=by omega
   rw[if_neg c,if_neg c,if_neg h,if_neg h];obtain⟨p,hp,e1,J⟩:=n0J l hn f a2;obtain⟨q,g,v,i2⟩:=n0J l hn i s;have hj:=(p0G hw hR hp g).1;have hd:=(o0H hw hR).1;have o:=(o0H hw hR).2 _ hj;unfold M9 f09;rw[J,i2,e1,v];simp only[if_true,x0P hw hR U hp g,D0X hw hR (show 401<F by omega),G0,Int.toNat_natCast];have i3:B0 (a0n l) ((b8 l p q:Nat):Int)=true:=R0 (by omega) (by omega);have i4:B0 l ((b8 l p q:Nat):Int)=true:=R0 (by omega) (by omega);have w3:W (gt (a0n l) ((b8 l p q:Nat):Int)+1)=gt (a0n l) ((b8 l p q:Nat):Int)+1:=n3 (by omega) (by omega);have I:W (gt (a0n l) ((b8 l p q:Nat):Int)+1+1)=gt (a0n l) ((b8 l p q:Nat):Int)+1+1:=n3 (by omega) (by omega);rw[i3,i4];simp only[if_true,w3,I];split<;>rfl
def y0s (hw:∀x∈l,o3 x)(hR:K1 l=true){n:Nat}(hn:n=L0 l l.length)(i:1000<F)(g:K7 F l=some (L2 l l.length)){x y:y0}(d:a0L n x)(f:a0L n y)(c:x.To≠y.To):
  e0L F F l x y=some (u7 l x y):=by
 obtain⟨k,rfl⟩:∃k,F=k+2:=⟨F-2,by omega⟩
 by_cases hle:x.Turn≠y.Turn\/x.To<y.To
 ·exact r0e hw hR hn i g d f c _ hle
 ·have e:x.Turn=y.Turn:=by omega
  have h:=r0e hw hR hn i g f d (fun h=>c h.symm) k (.inr (by omega));have q:=j0v l x y c;obtain⟨u,a2,a3,a4⟩:=d;obtain⟨v,I,C,w⟩:=f;have p:=I9 l l.length;unfold e0L;rw[g];have c1:x.To>=0:=u;have c2:x.To<((L2 l l.length).length:Int):=by omega
  have c3:y.To>=0:=v;have t:y.To<((L2 l l.length).length:Int):=by omega
  have s:(x.To==y.To)=false:=by simpa using c
  have h1:¬x.Turn>y.Turn:=by omega
  have o:¬x.Turn<y.Turn:=by omega
  have j:x.To>y.To:=by omega
  simp only[q0,c1,c2,c3,t,s,h1,o,j,h,q];have:(u7 l x y).2.2=-1:=by unfold u7;rw[if_neg h1,if_neg o,if_pos j]
  rw[<-this]
end
def W4 (i k:Nat)(f:Nat->Nat->Int)(a b:Nat):Int:=if(a<i/\b<i)\/(a=i/\b<k)\/(b=i/\a<k)then f a b else 0
def z0J {m i k:Nat}(hk:k<i)(f:Nat->Nat->Int):
  I2 m m (fun a=>if a=k then(fun j=>if j=i then f k i else(if k=i then(fun j=>if j=k then f i k else W4 i k f i j)else W4 i k f k) j)else(if a=i then(fun j=>if j=k then f i k else W4 i k f i j)else W4 i k f a))=I2 m m (W4 i (k+1) f):=by
 refine d0e fun a b _ _=>?_;have o:¬k=i:=by omega
 by_cases g:a=k
 ·rw[if_pos g]
  by_cases c:b=i
  ·rw[if_pos c];unfold W4;rw[if_pos (by omega),g,c]
  ·rw[if_neg c,if_neg o,g];unfold W4
   by_cases d:b<i
   ·rw[if_pos (by omega),if_pos (by omega)]
   ·rw[if_neg (by omega),if_neg (by omega)]
 ·rw[if_neg g]
  by_cases c:a=i
  ·rw[if_pos c]
   by_cases d:b=k
   ·rw[if_pos d];unfold W4;rw[if_pos (by omega),c,d]
   ·rw[if_neg d,c];unfold W4
    by_cases h:b<k
    ·rw[if_pos (by omega),if_pos (by omega)]
    ·rw[if_neg (by omega),if_neg (by omega)]
  ·rw[if_neg c];unfold W4
   by_cases h:(a<i/\b<i)\/(a=i/\b<k)\/(b=i/\a<k)
   ·rw[if_pos h,if_pos (by omega)]
   ·rw[if_neg h,if_neg (by omega)]
def t0o {m i:Nat}(f:Nat->Nat->Int)(h:f i i=0):I2 m m (W4 i i f)=I2 m m (W4 (i+1) 0 f):=by
 refine d0e fun a b _ _=>?_;unfold W4
 by_cases e:a=i/\b=i
 ·rw[if_neg (by omega),if_pos (by omega),e.1,e.2,h]
 ·by_cases c:(a<i/\b<i)\/(a=i/\b<i)\/(b=i/\a<i)
  ·rw[if_pos c,if_pos (by omega)]
  ·rw[if_neg c,if_neg (by omega)]
def F0C {fr:List Nat}{i k:Nat}:(((fr.getD i 0:Nat):Int)==((fr.getD k 0:Nat):Int))=decide (fr.getD i 0=fr.getD k 0):=by
 by_cases h:fr.getD i 0=fr.getD k 0
 ·rw[h];simp
 ·have:¬((fr.getD i 0:Nat):Int)=((fr.getD k 0:Nat):Int):=by omega
  simp only[h,decide_false,beq_eq_false_iff_ne,ne_eq,this,not_false_eq_true]
section
variable {F:Nat}{l:List C0}{n m:Nat}{fB fD:Nat->Nat->Int}{fr:List Nat}{hops:List y0}
structure k0X (l:List C0)(n m:Nat)(fr:List Nat)(hops:List y0):Prop where
 lt:∀i∈fr,i<m
 len:hops.length=fr.length
 le:fr.length<=500
 hop:∀x∈hops,a0L n x
 asc:hops.Pairwise fun a b=>a.To<b.To
def D03 {d:Int}(h:d=1\/d=-1):W (0-d)=- d:=by rcases h with h|h<;>rw[h]<;>rfl
def C0h (hw:∀x∈l,o3 x)(hR:K1 l=true)(hn:n=L0 l l.length)(R:2000<F)(y:K7 F l=some (L2 l l.length))(h:a0s m fB fD)(g:k0X l n m fr hops){i:Nat}(hi:i<fr.length):
  iter (h0Z F l (D3 m fB fD) (J2 fr) hops (i:Int)) F (0,I2 fr.length fr.length (W4 i 0 (P5 l fB fr hops)),I2 fr.length fr.length (W4 i 0 (N6 l fB fD fr hops)))=some (I2 fr.length fr.length (W4 (i+1) 0 (P5 l fB fr hops)),I2 fr.length fr.length (W4 (i+1) 0 (N6 l fB fD fr hops))):=by
 have hle:=g.le;have ok:=p0k hw hR hn h g.lt g.len g.hop g.asc;rw[<-t0o _ (ok.bd i hi),<-t0o _ (ok.dd i hi)];have:=R4 (step:=h0Z F l (D3 m fB fD) (J2 fr) hops (i:Int)) (fun k=>((k:Int),I2 fr.length fr.length (W4 i k (P5 l fB fr hops)),I2 fr.length fr.length (W4 i k (N6 l fB fD fr hops)))) (I2 fr.length fr.length (W4 i i (P5 l fB fr hops)),I2 fr.length fr.length (W4 i i (N6 l fB fD fr hops))) i (fun k hk=>.inl ?_) ?_ i 0 F (by omega) (by omega)
 ·exact this
 ·have c:k<fr.length:=by omega
  have h1:(k:Int)<(i:Int):=by omega
  have w:B0 hops (i:Int)=true:=R0 (by omega) (by rw[g.len];omega);have v:B0 hops (k:Int)=true:=R0 (by omega) (by rw[g.len];omega);have I:=e08 g.hop (i:=i) (by rw[g.len];exact hi);have J:=e08 g.hop (i:=k) (by rw[g.len];exact c);have o:=p0X g.asc (i:=i) (k:=k) (by rw[g.len];exact hi) (by rw[g.len];exact c) (by omega);have d:¬i=k:=by omega
  have f:¬k=i:=by omega
  have t:=ok.dn i k hi c;have s:=ok.d1 i k hi c d;have u:W (0-N6 l fB fD fr hops i k)=N6 l fB fD fr hops k i:=by rw[t];exact D03 s
  have key:∀p q r:Int,p=P5 l fB fr hops i k->q=P5 l fB fr hops k i->r=N6 l fB fD fr hops i k->
    (Option.bind (some (I2 fr.length fr.length (fun a=>if a=k then(fun j=>if j=i then q else(if k=i then(fun j=>if j=k then p else W4 i k (P5 l fB fr hops) i j)else W4 i k (P5 l fB fr hops) k) j)else(if a=i then(fun j=>if j=k then p else W4 i k (P5 l fB fr hops) i j)else W4 i k (P5 l fB fr hops) a)),
     I2 fr.length fr.length (fun a=>if a=i then(fun j=>if j=k then r else W4 i k (N6 l fB fD fr hops) i j)else W4 i k (N6 l fB fD fr hops) a))) fun(C,y6)=>
    (if B0 y6 (k:Int)then
     if B0 y6 (i:Int)then
      if B0 (gt y6 (i:Int)) (k:Int)then
       if B0 (gt y6 (k:Int)) (i:Int)then
        let t5:=y6.set (k:Int).toNat ((gt y6 (k:Int)).set (i:Int).toNat (W (0-(gt (gt y6 (i:Int)) (k:Int)))))
        some (.next (W ((k:Int)+1),C,t5))
       else none
      else none
     else none
    else none:Option (V0 (Int×(List (List Int))×(List (List Int))) ((List (List Int))×(List (List Int))))))=some (.next (((k+1:Nat):Int),I2 fr.length fr.length (W4 i (k+1) (P5 l fB fr hops)),I2 fr.length fr.length (W4 i (k+1) (N6 l fB fD fr hops)))):=by
   rintro p q r rfl rfl rfl
   simp only[G0,U9 _ hi,U9 _ c,a0g _ hi,a0g _ c,a0P _ hi,a0P _ c,if_true,d0w _ hi,d0w _ c,Int.toNat_natCast,m02,l0b,z0J hk,u,G3 (i:=k) (by omega)]
  unfold h0Z;simp only[h1,decide_true,if_true,a0h hi,a0h c,a0G hi,a0G c,F0C,decide_eq_true_eq,U9 _ hi,U9 _ c,w,v,y0s hw hR hn (show 1000<F by omega) y I J o,a0g _ hi,a0g _ c,a0P _ hi,a0P _ c,j02 g.len g.lt hi c,j02 g.len g.lt c hi,p0R g.len g.lt hi c,Int.toNat_natCast,m02,l0b]
  by_cases he:fr.getD i 0=fr.getD k 0
  ·rw[if_pos he];refine key _ _ _ ?_ ?_ ?_
   ·unfold P5;rw[if_neg d,if_pos he]
   ·unfold P5;rw[if_neg f,if_pos he.symm,j0v l _ _ o]
   ·unfold N6;rw[if_neg d,if_pos he]
  ·rw[if_neg he];refine key _ _ _ ?_ ?_ ?_
   ·unfold P5;rw[if_neg d,if_neg he]
   ·unfold P5;rw[if_neg f,if_neg (fun e=>he e.symm)]
   ·unfold N6;rw[if_neg d,if_neg he]
 ·unfold h0Z;have h1:¬((i:Int)<(i:Int)):=by omega
  simp only[q0,h1]
def v0I (hw:∀x∈l,o3 x)(hR:K1 l=true)(hn:n=L0 l l.length)(c:2000<F)(d:K7 F l=some (L2 l l.length))(hm:m<=1000)(h:a0s m fB fD)(g:k0X l n m fr hops):
  g0U F l (D3 m fB fD) (J2 fr) hops=some (D3 fr.length (P5 l fB fr hops) (N6 l fB fD fr hops)):=by
 have hle:=g.le;unfold g0U;rw[i0o hm c h];have hlen:(((J2 fr).length:Int) != (hops.length:Int))=false:=by rw[i0f,g.len];simp
 have t1:=R4 (step:=g0Z F (D3 m fB fD) (J2 fr)) (fun i=>(i:Int)) (.inr ()) fr.length (fun i hi=>.inl ?_) ?_ fr.length 0 F (by omega) (by omega)
 ·have o:iter (g0Z F (D3 m fB fD) (J2 fr)) F 0=_:=t1;have t2:=R4 (step:=g0x F l (D3 m fB fD) (J2 fr) hops) (fun i=>((i:Int),I2 fr.length fr.length (W4 i 0 (P5 l fB fr hops)),I2 fr.length fr.length (W4 i 0 (N6 l fB fD fr hops)))) (I2 fr.length fr.length (P5 l fB fr hops),I2 fr.length fr.length (N6 l fB fD fr hops)) fr.length (fun i hi=>.inl ?_) ?_ fr.length 0 F (by omega) (by omega)
  ·have z:∀f,I2 fr.length fr.length (W4 0 0 f)=I2 fr.length fr.length fun _ _=>0:=fun f=>d0e fun a b _ _=>by unfold W4;rw[if_neg (by omega)]
   rw[z,z]at t2;have k:iter (g0x F l (D3 m fB fD) (J2 fr) hops) F (0,I2 fr.length fr.length (fun _ _=>0),I2 fr.length fr.length fun _ _=>0)=_:=t2;simp only[q0,hlen,o,show decide ((-1:Int)>=0)=false from rfl];rw[i0f,p02 (by omega) c];simp only[G0,k];rfl
  ·unfold g0x;have h1:(i:Int)<((J2 fr).length:Int):=by simp;omega
   simp only[q0,h1,C0h hw hR hn c d h g hi,G3 (i:=i) (by omega)]
  ·unfold g0x;have h1:¬((fr.length:Int)<((J2 fr).length:Int)):=by simp
   have z:∀f,I2 fr.length fr.length (W4 fr.length 0 f)=I2 fr.length fr.length f:=fun f=>d0e fun a b _ _=>by unfold W4;rw[if_pos (by omega)]
   simp only[q0,h1,z]
 ·unfold g0Z e0p;have h1:(i:Int)<((J2 fr).length:Int):=by simp;omega
  have q:=E8 g.lt hi;have p:((fr.getD i 0:Nat):Int)>=0:=by omega
  have j:((fr.getD i 0:Nat):Int)<((D3 m fB fD).B.length:Int):=by simp only[D3,q0M];omega
  simp only[q0,h1,a0h hi,a0G hi,p,j,G3 (i:=i) (by omega)]
 ·unfold g0Z;have h1:¬((fr.length:Int)<((J2 fr).length:Int)):=by simp
  simp only[q0,h1]
end
def wrap_u64 {n:Nat}(h:n<18446744073709551616):IntKind.wrap .u64 (n:Int)=n:=by
 simp[IntKind.wrap,IntKind.bits,IntKind.signed];omega
def r0E (x y:BitVec 64):C3 .u64 (x.toNat:Int) (y.toNat:Int)=((x&&& y).toNat:Int):=by
 unfold C3;simp only[IntKind.bits,BitVec.ofInt_natCast,BitVec.ofNat_toNat,BitVec.setWidth_eq];exact wrap_u64 (x&&& y).isLt
def D0p {k:Nat}(h:k<64):shl .u64 1 (k:Int)=((BitVec.twoPow 64 k).toNat:Int):=by
 have h1:min k 64=k:=by omega
 have c:2 ^ k<18446744073709551616:=Nat.pow_lt_pow_right (a:=2) (by omega) (show k<64 from h);unfold shl;rw[show(IntKind.u64).bits=64 from rfl,Int.toNat_natCast,h1,Int.one_mul,BitVec.toNat_twoPow,Nat.mod_eq_of_lt c];rw[show((2:Int) ^ k)=((2 ^ k:Nat):Int) by simp];exact wrap_u64 c
def v0C (x:BitVec 64){k:Nat}(h:k<64):shr .u64 (x.toNat:Int) (k:Int)=((x >>> k).toNat:Int):=by
 have h1:min k 64=k:=by omega
 unfold shr;rw[show(IntKind.u64).bits=64 from rfl,Int.toNat_natCast,h1,BitVec.toNat_ushiftRight,Nat.shiftRight_eq_div_pow,show((2:Int) ^ k)=((2 ^ k:Nat):Int) by simp,Int.fdiv_eq_ediv_of_nonneg _ (Int.natCast_nonneg _),Int.natCast_ediv]
def w0z {v:Int}(d:0<=v)(h1:v<18446744073709551616){k:Nat}(hk:k<64):(C3 .u64 v (shl .u64 1 (k:Int)) != 0)=(C3 .u64 (shr .u64 v (k:Int)) 1==1):=by
 obtain⟨x,rfl⟩:∃x:BitVec 64,v=(x.toNat:Int):=⟨BitVec.ofNat 64 v.toNat,by rw[BitVec.toNat_ofNat,Nat.mod_eq_of_lt (by omega)];omega⟩
 rw[D0p hk,v0C x hk,r0E,show(1:Int)=((BitVec.twoPow 64 0).toNat:Int)from rfl,r0E,BitVec.and_twoPow,BitVec.and_twoPow];have c:(x >>> k).getLsbD 0=x.getLsbD k:=by simp
 rw[c];have hp:(BitVec.twoPow 64 k).toNat≠0:=by
  rw[BitVec.toNat_twoPow,Nat.mod_eq_of_lt (Nat.pow_lt_pow_right (a:=2) (by omega) (show k<64 from hk))];exact Nat.ne_of_gt (Nat.two_pow_pos k)
 cases x.getLsbD k with
 |false=>simp
 |true=>
  have:((BitVec.twoPow 64 k).toNat:Int)≠0:=by omega
  simp only[if_true,bne_iff_ne,ne_eq,this,not_false_eq_true,beq_self_eq_true,bne,beq_eq_false_iff_ne.2 this,Bool.not_false]
def hasB (s:List Int)(b:Int):Bool:=C3 .u64 (gt s (Int.tdiv b 64)) (shl .u64 1 (Int.tmod b 64)) != 0
def p0t (fuel:Nat){s:List Int}(o:s.length=4/\∀y∈s,Z5 .u64 y){b:Int}(j:Z5 .u8 b):i0b fuel s b=some (hasB s b)/\j07 fuel s (W b)=some (hasB s b):=by
 have t:0<=b/\b<256:=⟨j.1,by have:=j.2;rw[show IntKind.u8.max=255 from rfl]at this;omega⟩
 obtain⟨n,rfl⟩:∃n:Nat,b=n:=⟨b.toNat,by omega⟩
 have hn:n<256:=by omega
 have hd:Int.tdiv (n:Int) 64=((n / 64:Nat):Int):=by rw[Int.tdiv_eq_ediv_of_nonneg (by omega)];simp
 have hm:Int.tmod (n:Int) 64=((n % 64:Nat):Int):=by rw[Int.tmod_eq_emod_of_nonneg (by omega)];simp
 have d:IntKind.wrap .u8 ((n / 64:Nat):Int)=((n / 64:Nat):Int):=by simp[IntKind.wrap,IntKind.bits,IntKind.signed];omega
 have f:W (n:Int)=n:=t0C (by omega);have g:W ((n / 64:Nat):Int)=((n / 64:Nat):Int):=t0C (by omega);have q:s0w 4 ((n / 64:Nat):Int)=true:=by simp[s0w];omega
 have c:=o.2 _ (mem_of_getElem? (u6 (l:=s) (i:=n / 64) (by omega)));have h:0<=gt s ((n / 64:Nat):Int)/\gt s ((n / 64:Nat):Int)<18446744073709551616:=⟨c.1,by have:=c.2;rw[show IntKind.u64.max=18446744073709551615 from rfl]at this;omega⟩
 have x:(0:Int)<=((n % 64:Nat):Int):=by omega
 unfold i0b j07 hasB;have v:(0:Int)<=((n / 64:Nat):Int):=by omega
 have k:((n / 64:Nat):Int)<4:=by omega
 have w:¬((n % 64:Nat):Int)<0:=by omega
 have p:(n:Int)>=0:=by omega
 have u:(n:Int)<256:=by omega
 simp only[q0,f,hd,hm,d,g,v,k,w,p,u,Bool.and_self,w0z h.1 h.2 (show n % 64<64 by omega),and_self]
def J5 (ws:List y0)(r:Nat):Option y0:=ws.find? fun h=>h.To==(r:Int)
def l7 (ws:List y0)(r:Nat):y0:=(J5 ws r).getD ⟨0,0,[]⟩
def N1 (Ws:List (List y0))(r k:Nat):List Nat:=(List.range k).filter fun i=>(J5 (Ws.getD i []) r).isSome
def n5 (Ws:List (List y0))(r k:Nat):List y0:=(N1 Ws r k).map fun i=>l7 (Ws.getD i []) r
def t00 (Ws:List (List y0))(r k:Nat):N1 Ws r (k+1)=N1 Ws r k++if(J5 (Ws.getD k []) r).isSome then[k]else[]:=by
 unfold N1;rw[List.range_succ,List.filter_append];congr 1;cases h:(J5 (Ws.getD k []) r).isSome
 ·simp only[List.filter_cons,h,false_eq_true,if_false,List.filter_nil]
 ·simp only[List.filter_cons,h,if_true,List.filter_nil]
def E0o (Ws:List (List y0))(r k:Nat):n5 Ws r (k+1)=n5 Ws r k++if(J5 (Ws.getD k []) r).isSome then[l7 (Ws.getD k []) r]else[]:=by
 unfold n5;rw[t00,map_append];congr 1;split<;>rfl
def l0Y {Ws:List (List y0)}{r k i:Nat}(h:i∈N1 Ws r k):i<k:=mem_range.1 (mem_filter.1 h).1
def n0s (Ws:List (List y0))(r k:Nat):(N1 Ws r k).length<=k:=Nat.le_trans (List.length_filter_le _ _) (by simp)
def n0a (Ws:List (List y0))(r k:Nat):(n5 Ws r k).length=(N1 Ws r k).length:=by simp[n5]
def j0a {ws:List y0}{r:Nat}(h:(J5 ws r).isSome=true):l7 ws r∈ws/\(l7 ws r).To=r:=by
 unfold l7;cases e:J5 ws r with
 |none=>rw[e]at h;simp at h
 |some x=>
  have:=List.find?_some e;exact⟨List.mem_of_find?_eq_some e,by simpa using this⟩
def a0K (fB fD:Nat->Nat->Int)(Ws:List (List y0))(r:Nat):Nat:=(f0y fB fD (N1 Ws r Ws.length) (n5 Ws r Ws.length)).toNat
def d0W (fB fD:Nat->Nat->Int)(Ws:List (List y0))(r:Nat):Nat:=(N1 Ws r Ws.length).getD (a0K fB fD Ws r) 0
def g01 (fB fD:Nat->Nat->Int)(Ws:List (List y0))(r:Nat):y0:=l7 (Ws.getD (d0W fB fD Ws r) []) r
def X5 (c:Nat->Bool)(Ws:List (List y0))(k:Nat):List Nat:=(List.range k).filter fun r=>c r&&!(N1 Ws r Ws.length).isEmpty
def B0k (c:Nat->Bool)(Ws:List (List y0))(k:Nat):X5 c Ws (k+1)=X5 c Ws k++if c k&&!(N1 Ws k Ws.length).isEmpty then[k]else[]:=by
 unfold X5;rw[List.range_succ,List.filter_append];congr 1;cases h:(c k&&!(N1 Ws k Ws.length).isEmpty)<;>simp[h]
def w0c {c:Nat->Bool}{Ws:List (List y0)}{k i:Nat}(h:i∈X5 c Ws k):i<k:=mem_range.1 (mem_filter.1 h).1
def t0k (c:Nat->Bool)(Ws:List (List y0))(k:Nat):(X5 c Ws k).length<=k:=Nat.le_trans (List.length_filter_le _ _) (by simp)
def n0W (c:Nat->Bool)(Ws:List (List y0))(k:Nat):(X5 c Ws k).Pairwise fun a b=>a<b:=List.Pairwise.filter _ List.pairwise_lt_range
def u0u {c:Nat->Bool}{Ws:List (List y0)}{k r:Nat}(h:r∈X5 c Ws k):c r=true/\N1 Ws r Ws.length≠[]:=by
 have:=(mem_filter.1 h).2;simpa using this
def s0Z {fB fD:Nat->Nat->Int}{fr:List Nat}{hops:List y0}:∀k,0<k->∃j:Nat,c0a fB fD fr hops k=j/\j<k:=by
 intro k
 induction k with
 |zero=>intro h;omega
 |succ k ih=>
  intro _;rw[i0n];unfold e0A;split
  ·exact⟨k,rfl,by omega⟩
  ·split
   ·exact⟨k,rfl,by omega⟩
   ·rcases l0Q fB fD fr hops k with h|⟨j,h,hj⟩
    ·rename_i c _;rw[h]at c;exact absurd (show(-1:Int)<0 by omega) c
    ·exact⟨j,h,by omega⟩
def y0X {fB fD:Nat->Nat->Int}{fr:List Nat}{hops:List y0}(h:fr≠[]):∃j:Nat,f0y fB fD fr hops=j/\j<fr.length:=s0Z _ (List.length_pos_iff.2 h)
def s0j {fB fD:Nat->Nat->Int}{hops:List y0}:f0y fB fD [] hops=-1:=rfl
section
variable {fB fD:Nat->Nat->Int}{Ws:List (List y0)}{r:Nat}
def i09 (h:N1 Ws r Ws.length≠[]):f0y fB fD (N1 Ws r Ws.length) (n5 Ws r Ws.length)=(a0K fB fD Ws r:Int)/\a0K fB fD Ws r<(N1 Ws r Ws.length).length:=by
 obtain⟨j,h1,c⟩:=y0X (fB:=fB) (fD:=fD) (hops:=n5 Ws r Ws.length) h;unfold a0K;rw[h1];exact⟨rfl,c⟩
def m0s (h:N1 Ws r Ws.length≠[]):d0W fB fD Ws r∈N1 Ws r Ws.length:=by
 have:=(i09 (fB:=fB) (fD:=fD) h).2;unfold d0W;rw[show(N1 Ws r Ws.length).getD (a0K fB fD Ws r) 0=(N1 Ws r Ws.length)[a0K fB fD Ws r]from by simp[List.getD,this]];exact List.getElem_mem this
def g0V (h:N1 Ws r Ws.length≠[]):d0W fB fD Ws r<Ws.length:=l0Y (m0s h)
def A0B (h:N1 Ws r Ws.length≠[]):gt (n5 Ws r Ws.length) (a0K fB fD Ws r:Int)=g01 fB fD Ws r:=by
 have:=(i09 (fB:=fB) (fD:=fD) h).2;refine B4 ?_;unfold g01 d0W n5;simp[List.getD,this]
def j08 (h:N1 Ws r Ws.length≠[]):g01 fB fD Ws r∈Ws.getD (d0W fB fD Ws r) []/\(g01 fB fD Ws r).To=r:=j0a (mem_filter.1 (m0s h)).2
end
def Q7 (c:Nat->Bool)(Ws:List (List y0)):Nat->Nat
 |0=>0
 |r+1=>Q7 c Ws r+if c r then(N1 Ws r Ws.length).length else 0
def n0M (c:Nat->Bool)(Ws:List (List y0)):∀k,Q7 c Ws k<=k*Ws.length
 |0=>by simp[Q7]
 |k+1=>by
  have h1:=n0M c Ws k;have d:=n0s Ws k Ws.length;simp only[Q7,Nat.succ_mul];split<;>omega
end Go.Proofs.YtmhooikfkhjijaaGreat
namespace Go.Proofs.YtmhooikfkhjijaaGreat
open Go.V Go.RowKit Old Go.X
section
variable {F:Nat}{l:List C0}{n:Nat}
def A6 (l:List C0)(c:Nat->Bool)(Ws:List (List y0))(i j r:Nat):E7:=
 if c r then⟨J2 (N1 Ws r i++if(J5 ((Ws.getD i []).take j) r).isSome then[i]else[]),(n5 Ws r i++if(J5 ((Ws.getD i []).take j) r).isSome then[l7 ((Ws.getD i []).take j) r]else[]).map (Q2 l),n5 Ws r i++if(J5 ((Ws.getD i []).take j) r).isSome then[l7 ((Ws.getD i []).take j) r]else[]⟩else⟨[],[],[]⟩
def D0K {ws:List y0}{j r:Nat}(c:j<ws.length)(h:(gt ws (j:Int)).To≠(r:Int)):J5 (ws.take (j+1)) r=J5 (ws.take j) r:=by
 unfold J5;rw[List.take_succ,u6 c,List.find?_append];simp[List.find?_cons,h]
def E0C {n:Nat}{ws:List y0}(hw:j8 n ws){j r:Nat}(d:j<ws.length)(h:(gt ws (j:Int)).To=(r:Int)):J5 (ws.take (j+1)) r=some (gt ws (j:Int))/\J5 (ws.take j) r=none:=by
 have c:J5 (ws.take j) r=none:=by
  unfold J5;rw[List.find?_eq_none];intro x f;obtain⟨i,hi,he⟩:=List.mem_iff_getElem.1 f;simp only[List.length_take]at hi;have hd:=List.pairwise_iff_getElem.1 hw.dist i j (by omega) d (by omega);rw[List.getElem_take]at he;rw[<-he];have g:gt ws (j:Int)=ws[j]:=B4 (by simp[d]);rw[g]at h;simp only[beq_iff_eq];omega
 refine⟨?_,c⟩;unfold J5 at c ⊢;rw[List.take_succ,u6 d,List.find?_append,c];simp[h]
def l0t {β:Type}{n:Nat}{f g:Nat->β}(h:∀r,r<n->f r=g r):(List.range n).map f=(List.range n).map g:=List.map_congr_left fun r c=>h r (mem_range.1 c)
def p0g (l:List C0)(c:Nat->Bool)(Ws:List (List y0))(i r:Nat):A6 l c Ws i 0 r=if c r then⟨J2 (N1 Ws r i),(n5 Ws r i).map (Q2 l),n5 Ws r i⟩else⟨[],[],[]⟩:=by
 unfold A6;have:J5 ((Ws.getD i []).take 0) r=none:=rfl;simp only[this,Option.isSome_none,false_eq_true,if_false,List.append_nil]
def B0J (l:List C0)(c:Nat->Bool)(Ws:List (List y0))(i r:Nat):A6 l c Ws i (Ws.getD i []).length r=A6 l c Ws (i+1) 0 r:=by
 rw[p0g];unfold A6;rw[List.take_length,t00,E0o]
def setOf (l:List C0){n:Nat}(hn:n=L0 l l.length)(hw:∀x∈l,o3 x){r:Nat}(f:r<n):B0 ((L2 l l.length).map fun q=>(gt l q).Set) (r:Int)=true/\gtZ 4 ((L2 l l.length).map fun q=>(gt l q).Set) (r:Int)=(gt l (gt (L2 l l.length) (r:Int))).Set/\
  ((gt l (gt (L2 l l.length) (r:Int))).Set.length=4/\∀y∈(gt l (gt (L2 l l.length) (r:Int))).Set,Z5 .u64 y):=by
 obtain⟨q,d,c,g⟩:=n0J l hn (x:=(r:Int)) (by omega) (by omega);have hlen:=I9 l l.length;refine⟨R0 (by omega) (by simp;omega),?_,?_⟩
 ·unfold gtZ;have:(L2 l l.length)[r]?=some (gt (L2 l l.length) (r:Int)):=u6 (by omega);exact @B4 _ ⟨List.replicate 4 0⟩ _ _ _ (by rw[List.getElem?_map,this];rfl)
 ·rw[c];have:=hw _ (mem_of_getElem? (u6 (l:=l) (i:=q) d));exact this.2.2.2.2
def Z2 (l:List C0)(b_:Int)(r:Nat):Bool:=hasB (gt l (gt (L2 l l.length) (r:Int))).Set b_
def z0G {a:List y0}{b:Nat->List y0}{e:Nat->y0×Bool}{z:y0×Bool}(hw:∀x∈l,o3 x)(hn:n=L0 l l.length)(b1:n<=400)(hf:2000001<F){c:N3}(hc:c.chart=Y6 l n a b e z){g:W8}{b_:Int}(hb:Z5 .u8 b_)
  {Ws:List (List y0)} (hW:∀i,i<Ws.length->j8 n (Ws.getD i [])/\(Ws.getD i []).length<=500000) (hM:Ws.length<=1000) (hg:g.roads=Ws.map fun w=>w.map (Q2 l)) {i:Nat} (hi:i<Ws.length):
  iter (h0K F c g b_ (i:Int)) F (0,(List.range n).map (A6 l (Z2 l b_) Ws i 0))=some ((List.range n).map (A6 l (Z2 l b_) Ws (i+1) 0)):=by
 obtain⟨t,hlen⟩:=hW i hi;have s:gt g.roads (i:Int)=(Ws.getD i []).map (Q2 l):=by
  rw[hg];refine B4 ?_;rw[List.getElem?_map,show Ws.getD i []=Ws[i]from by simp[List.getD,hi],List.getElem?_eq_getElem hi];rfl
 generalize d:Ws.getD i []=ws at *;have:=R4 (step:=h0K F c g b_ (i:Int)) (fun j=>((j:Int),(List.range n).map (A6 l (Z2 l b_) Ws i j))) ((List.range n).map (A6 l (Z2 l b_) Ws (i+1) 0)) ws.length (fun j v=>.inl ?_) ?_ ws.length 0 F (by omega) (by omega)
 ·exact this
 ·have hk:=t.ok _ (mem_of_getElem? (u6 v));obtain⟨r,R⟩:∃r:Nat,(gt ws (j:Int)).To=r:=⟨(gt ws (j:Int)).To.toNat,by have:=hk.1;omega⟩
  have f:r<n:=by have:=hk.2.1;omega
  obtain⟨s1,s2,s3⟩:=setOf l hn hw f;obtain⟨t1,t2⟩:=E0C t v R;have p:∀q,q≠r->A6 l (Z2 l b_) Ws i (j+1) q=A6 l (Z2 l b_) Ws i j q:=fun q h=>by
   have e:=D0K (ws:=ws) (j:=j) (r:=q) v (by rw[R];omega);unfold A6 l7;rw[d,e]
  have u:(j:Int)<((ws.map (Q2 l)).length:Int):=by simp;omega
  have C:gt (ws.map (Q2 l)) (j:Int)=Q2 l (gt ws (j:Int)):=B4 (by rw[List.getElem?_map,u6 v];rfl);have y:B0 (ws.map (Q2 l)) (j:Int)=true:=R0 (by omega) u;have k:(Q2 l (gt ws (j:Int))).Hop.To=(r:Int):=R;unfold h0K;simp only[q0,s,u,y,C,k,hc,Y6,s1,s2,(p0t F s3 hb).1,G3 (i:=j) (by omega)];have hH:hasB (gt l (gt (L2 l l.length) (r:Int))).Set b_=Z2 l b_ r:=rfl;rw[hH];cases J:Z2 l b_ r with
  |false=>
   simp only[q0];congr 1;congr 1;congr 1;refine l0t fun q _=>?_
   by_cases h:q=r
   ·subst h;unfold A6;rw[J];rfl
   ·exact(p q h).symm
  |true=>
   have b2:=n0s Ws r i;have b3:=n0a Ws r i;have o:A6 l (Z2 l b_) Ws i j r=⟨J2 (N1 Ws r i),(n5 Ws r i).map (Q2 l),n5 Ws r i⟩:=by
    unfold A6;rw[J,d,t2];simp
   have a1:I0 8 (J2 (N1 Ws r i)) [(i:Int)]=true:=by simp[I0];omega
   have I:I0 64 ((n5 Ws r i).map (Q2 l)) [Q2 l (gt ws (j:Int))]=true:=by simp[I0];omega
   have U:I0 40 (n5 Ws r i) [(Q2 l (gt ws (j:Int))).Hop]=true:=by simp[I0];omega
   simp only[q0,g0n f,g0l f,o,a1,v0W,Int.toNat_natCast,I,U];congr 1;congr 1;congr 1;refine l0t fun q _=>?_
   by_cases h:q=r
   ·subst h;simp only[if_true];unfold A6;rw[J,d,t1,l7,t1];simp[o0h,Q2]
   ·simp only[h,if_false];exact(p q h).symm
 ·unfold h0K;have h1:¬((ws.length:Int)<((ws.map (Q2 l)).length:Int)):=by simp
  simp only[q0,s,h1];congr 1;congr 1;refine l0t fun q _=>?_;rw[<-d,B0J]
def D0M {a:List y0}{b:Nat->List y0}{e:Nat->y0×Bool}{z:y0×Bool}(hw:∀x∈l,o3 x)(hn:n=L0 l l.length)(f:n<=400)(t:2000001<F){c:N3}(k:c.chart=Y6 l n a b e z){g:W8}{b_:Int}(q:Z5 .u8 b_)
  {Ws:List (List y0)} (s:∀i,i<Ws.length->j8 n (Ws.getD i [])/\(Ws.getD i []).length<=500000) (p:Ws.length<=1000) (hg:g.roads=Ws.map fun w=>w.map (Q2 l)):
  g0D F c g b_=some ((List.range n).map (A6 l (Z2 l b_) Ws Ws.length 0),c):=by
 have d:(c.chart.sets.length:Int)=(n:Int):=by rw[k];simp only[Y6,List.length_map,I9];omega
 have j:V2 72 (n:Int)=true:=by simp[V2];omega
 have h:List.replicate n (⟨[],[],[]⟩:E7)=(List.range n).map (A6 l (Z2 l b_) Ws 0 0):=by
  refine List.ext_getElem (by simp) fun r h1 o=>?_;simp only[List.getElem_replicate,List.getElem_map,List.getElem_range,p0g];split
  ·rfl
  ·rfl
 unfold g0D;rw[d,j];simp only[if_true,Int.toNat_natCast];have:=R4 (step:=h0b F c g b_) (fun i=>((i:Int),(List.range n).map (A6 l (Z2 l b_) Ws i 0))) ((List.range n).map (A6 l (Z2 l b_) Ws Ws.length 0)) Ws.length (fun i hi=>.inl ?_) ?_ Ws.length 0 F (by omega) (by omega)
 ·have o:iter (h0b F c g b_) F (0,(List.range n).map (A6 l (Z2 l b_) Ws 0 0))=_:=this;rw[h,o];rfl
 ·unfold h0b;have h1:(i:Int)<(g.roads.length:Int):=by rw[hg];simp;omega
  simp only[q0,h1,R0 (l:=g.roads) (i:=(i:Int)) (by omega) h1,z0G hw hn f t k q s p hg hi,G3 (i:=i) (by omega)]
 ·unfold h0b;have h1:¬((Ws.length:Int)<(g.roads.length:Int)):=by rw[hg];simp
  simp only[q0,h1]
end
def F0 (a:List y0)(b:Nat->List y0)(pl:List Nat)(beg:Bool):List (List y0):=pl.map b++if beg then[a]else[]
def E9 (l:List C0)(at_:Int)(vals:List (List Int))(beg:Bool):List (List Int):=vals++if beg then[O7 l at_]else[]
def A5 (pl:List Nat)(beg:Bool):Nat:=if beg then pl.length+1 else pl.length
def Y2 (pl:List Nat)(beg:Bool)(fB:Nat->Nat->Int):Nat->Nat->Int:=if beg then c06 pl.length fB else fB
def j4 (pl:List Nat)(beg:Bool)(fD:Nat->Nat->Int):Nat->Nat->Int:=if beg then c0E pl.length fD else fD
def b0b (a:List y0)(b:Nat->List y0)(pl:List Nat)(beg:Bool):(F0 a b pl beg).length=A5 pl beg:=by unfold F0 A5;cases beg<;>simp
section
variable {F:Nat}{l:List C0}{n:Nat}{a:List y0}{b:Nat->List y0}{e:Nat->y0×Bool}{z:y0×Bool}{at_ work:Int}{pl:List Nat}{vals:List (List Int)}{fB fD:Nat->Nat->Int}
def r0P (C:F6 l n pl vals fB fD)(beg:Bool):(E9 l at_ vals beg).length=A5 pl beg:=by unfold E9 A5;cases beg<;>simp[C.len]
def g03 (C:F6 l n pl vals fB fD)(beg:Bool):a0s (A5 pl beg) (Y2 pl beg fB) (j4 pl beg fD):=by
 unfold A5 Y2 j4;cases beg with
 |false=>exact C.rk
 |true=>exact A0t C.rk
def u0H (C:F6 l n pl vals fB fD)(beg:Bool):∀v∈E9 l at_ vals beg,v.length=(l5 l).toNat:=by
 intro v c;unfold E9 at c;rcases List.mem_append.1 c with h|h
 ·exact C.row v h
 ·cases beg with
  |false=>simp at h
  |true=>simp at h;subst h;exact k0w l at_
def g0i (K:H5 l n a b e z F)(C:F6 l n pl vals fB fD)(beg:Bool):∀i,i<(F0 a b pl beg).length->j8 n ((F0 a b pl beg).getD i [])/\((F0 a b pl beg).getD i []).length<=500000/\(∀h∈(F0 a b pl beg).getD i [],a0L n h)/\N8 800 ((F0 a b pl beg).getD i []):=by
 intro i hi;have hm:(F0 a b pl beg).getD i []∈F0 a b pl beg:=by
  rw[show(F0 a b pl beg).getD i []=(F0 a b pl beg)[i]from by simp[List.getD,hi]];exact List.getElem_mem hi
 have hop:∀{ws:List y0},j8 n ws->a0m ws->∀h∈ws,a0L n h:=fun hw d h c=>⟨(hw.ok h c).1,(hw.ok h c).2.1,(d h c).1,(d h c).2⟩
 generalize (F0 a b pl beg).getD i []=ws at *;unfold F0 at hm;rcases List.mem_append.1 hm with h|h
 ·obtain⟨p,hp,rfl⟩:=mem_map.1 h;have:=C.pln p hp;exact⟨K.T.bw p this,K.T.bl p this,hop (K.T.bw p this) (K.T.bT p this),K.T.bb p this⟩
 ·cases beg with
  |false=>simp at h
  |true=>simp at h;subst h;exact⟨K.T.aw,K.T.al,hop K.T.aw K.T.aT,K.T.ab⟩
def y0e (K:H5 l n a b e z F)(C:F6 l n pl vals fB fD)(beg:Bool):f0s F (B7 l n a b e z at_ work pl vals fB fD) beg =
  some (⟨E9 l at_ vals beg,(F0 a b pl beg).map (fun w=>w.map (Q2 l)),D3 (A5 pl beg) (Y2 pl beg fB) (j4 pl beg fD)⟩,B7 l n a b e z at_ work pl vals fB fD):=by
 have f1:=K.f1;have hm:=C.le;have hn:=K.T.n64;have k:=C.len;unfold f0s I0v;have c:I0 24 ([]:List (List Int)) vals=true:=by simp[I0];omega
 rw[c0y];simp only[B7,c,if_true,G0];have:=R4 (step:=f0x F (B7 l n a b e z at_ work pl vals fB fD)) (fun i=>((i:Int),(vals,(pl.take i).map (fun p=>(b p).map (Q2 l)),D3 pl.length fB fD))) (vals,pl.map (fun p=>(b p).map (Q2 l)),D3 pl.length fB fD) pl.length (fun i hi=>.inl ?_) ?_ pl.length 0 F (by omega) (by omega)
 ·have o:iter (f0x F ⟨Y6 l n a b e z,at_,work,J2 pl,vals,D3 pl.length fB fD⟩) F (0,(vals,[],D3 pl.length fB fD))=_:=this;rw[o];simp only[G0];unfold E9 F0 A5 Y2 j4;cases beg with
  |false=>simp
  |true=>
   have d:I0 24 vals [O7 l at_]=true:=by simp[I0];omega
   have g:I0 24 (pl.map fun p=>(b p).map (Q2 l)) [a.map (Q2 l)]=true:=by simp[I0];omega
   have j:=q0J K ⟨Y6 l n a b e z,at_,work,J2 pl,vals,D3 pl.length fB fD⟩ rfl;have f:(Y6 l n a b e z).begin=a.map (Q2 l):=rfl;simp only[if_true,j,G0,d,f,g,x0d (show pl.length<=900 by omega) (show 2000<F by omega) C.rk,map_append,List.map_map,map_cons,map_nil,Function.comp_def]
 ·unfold f0x;have h1:(i:Int)<((J2 pl).length:Int):=by simp;omega
  have hp:=E8 C.pln hi;have c:I0 24 ((pl.take i).map (fun p=>(b p).map (Q2 l))) [(b (pl.getD i 0)).map (Q2 l)]=true:=by simp[I0];omega
  have h:pl.take (i+1)=pl.take i++[pl.getD i 0]:=by rw[p0m hi];simp[List.getD,hi]
  simp only[B7,h1,decide_true,if_true,a0h hi,a0G hi,Y6,g0n hp,g0l hp,c,h,map_append,map_cons,map_nil,G3 (i:=i) (by omega)]
 ·unfold f0x;have h1:¬((pl.length:Int)<((J2 pl).length:Int)):=by simp
  simp only[q0,B7,h1,List.take_length]
def F1 (l:List C0)(n:Nat)(a:List y0)(b:Nat->List y0)(pl:List Nat)(b_:Int)(beg:Bool):List Nat:=X5 (Z2 l b_) (F0 a b pl beg) n
def F4 (a:List y0)(b:Nat->List y0)(pl:List Nat)(fB fD:Nat->Nat->Int)(beg:Bool)(r:Nat):Nat:=d0W (Y2 pl beg fB) (j4 pl beg fD) (F0 a b pl beg) r
def K4 (a:List y0)(b:Nat->List y0)(pl:List Nat)(fB fD:Nat->Nat->Int)(beg:Bool)(r:Nat):y0:=g01 (Y2 pl beg fB) (j4 pl beg fD) (F0 a b pl beg) r
def stV (l:List C0)(a:List y0)(b:Nat->List y0)(at_:Int)(pl:List Nat)(vals:List (List Int))(fB fD:Nat->Nat->Int)(beg:Bool)(r:Nat):List Int:=
 S6 at_ (-1) (gt (E9 l at_ vals beg) (F4 a b pl fB fD beg r:Int)) (N4 l (K4 a b pl fB fD beg r).Steps)
def stW (l:List C0)(n:Nat)(a:List y0)(b:Nat->List y0)(pl:List Nat)(b_:Int)(beg:Bool):Int:=
 (Q7 (Z2 l b_) (F0 a b pl beg) n:Int)+(((F1 l n a b pl b_ beg).length:Int)*l5 l+((F1 l n a b pl b_ beg).length:Int)*((F1 l n a b pl b_ beg).length:Int))
def d0n {b_:Int}{beg:Bool}{r:Nat}(h:r∈F1 l n a b pl b_ beg):r<n/\N1 (F0 a b pl beg) r (F0 a b pl beg).length≠[]:=⟨w0c h,(u0u h).2⟩
def r0Q {b_:Int}{beg:Bool}:(F1 l n a b pl b_ beg).length<=n:=t0k _ _ _
def u0q (K:H5 l n a b e z F)(C:F6 l n pl vals fB fD)(b_:Int)(beg:Bool):k0X l n (A5 pl beg) ((F1 l n a b pl b_ beg).map (F4 a b pl fB fD beg)) ((F1 l n a b pl b_ beg).map (K4 a b pl fB fD beg)) where
 lt i hi:=by
  obtain⟨r,c,rfl⟩:=mem_map.1 hi;rw[<-b0b a b];exact g0V (d0n c).2
 len:=by simp
 le:=by have:=r0Q (l:=l) (n:=n) (a:=a) (b:=b) (pl:=pl) (b_:=b_) (beg:=beg);have:=K.T.n64;simp;omega
 hop x d:=by
  obtain⟨r,c,rfl⟩:=mem_map.1 d;have hm:=j08 (fB:=Y2 pl beg fB) (fD:=j4 pl beg fD) (d0n c).2;exact(g0i K C beg _ (g0V (d0n c).2)).2.2.1 _ hm.1
 asc:=by
  rw[List.pairwise_map];refine(n0W _ _ _).imp_of_mem fun {x y} d f h=>?_;have h1:=(j08 (fB:=Y2 pl beg fB) (fD:=j4 pl beg fD) (d0n d).2).2;have g:=(j08 (fB:=Y2 pl beg fB) (fD:=j4 pl beg fD) (d0n f).2).2;unfold K4;rw[h1,g];omega
def r0W {V:List (List Int)}{m:Nat}(h:∀v∈V,v.length=(l5 l).toNat)(hl:V.length=m){k:Nat}(hk:k<m):(gt V (k:Int)).length=(l5 l).toNat/\B0 V (k:Int)=true:=
 ⟨h _ (mem_of_getElem? (u6 (by omega))),R0 (by omega) (by omega)⟩
def p0i (K:H5 l n a b e z F)(C:F6 l n pl vals fB fD)(hw:∀x∈l,o3 x)(b_:Int)(beg:Bool):
  F6 l n (F1 l n a b pl b_ beg) ((F1 l n a b pl b_ beg).map (stV l a b at_ pl vals fB fD beg)) (P5 l (Y2 pl beg fB) ((F1 l n a b pl b_ beg).map (F4 a b pl fB fD beg)) ((F1 l n a b pl b_ beg).map (K4 a b pl fB fD beg))) (N6 l (Y2 pl beg fB) (j4 pl beg fD) ((F1 l n a b pl b_ beg).map (F4 a b pl fB fD beg)) ((F1 l n a b pl b_ beg).map (K4 a b pl fB fD beg))) where
 len:=by simp
 pln r c:=(d0n c).1
 asc:=n0W _ _ _
 row v hv:=by
  obtain⟨r,c,rfl⟩:=mem_map.1 hv;unfold stV;rw[h0s];exact(r0W (u0H C beg) (r0P C beg) (by rw[<-b0b a b];exact g0V (d0n c).2)).1
 rk:=by
  have g:=u0q K C b_ beg;have:=p0k hw K.hR K.hn (g03 C beg) g.lt g.len g.hop g.asc;simpa using this
def t09 (K:H5 l n a b e z F)(C:F6 l n pl vals fB fD)(b_:Int)(beg:Bool):0<=stW l n a b pl b_ beg/\stW l n a b pl b_ beg<=1000000/\(Q7 (Z2 l b_) (F0 a b pl beg) n:Int)<=200000/\0<=((F1 l n a b pl b_ beg).length:Int)*l5 l/\((F1 l n a b pl b_ beg).length:Int)*l5 l<=10000/\0<=((F1 l n a b pl b_ beg).length:Int)*((F1 l n a b pl b_ beg).length:Int)/\((F1 l n a b pl b_ beg).length:Int)*((F1 l n a b pl b_ beg).length:Int)<=160000:=by
 have hm:=C.le;have hn:=K.T.n64;have h1:=n0M (Z2 l b_) (F0 a b pl beg) n;have d:(F0 a b pl beg).length<=401:=by rw[b0b];unfold A5;split<;>omega
 have g:n*(F0 a b pl beg).length<=400*401:=Nat.mul_le_mul hn d;have k:=r0Q (l:=l) (n:=n) (a:=a) (b:=b) (pl:=pl) (b_:=b_) (beg:=beg);have c:=f0m l;unfold stW;generalize (F1 l n a b pl b_ beg).length=p at *;have f:(p:Int)*l5 l<=400*19:=Int.mul_le_mul (by omega) c.2 (by omega) (by omega);have h:(p:Int)*(p:Int)<=400*400:=Int.mul_le_mul (by omega) (by omega) (by omega) (by omega);have i:0<=(p:Int)*l5 l:=Int.mul_nonneg (by omega) (by omega);have j:0<=(p:Int)*(p:Int):=Int.mul_nonneg (by omega) (by omega);generalize (p:Int)*l5 l=x at *;generalize (p:Int)*(p:Int)=y at *;refine⟨by omega,by omega,by omega,by omega,by omega,by omega,by omega⟩
end
