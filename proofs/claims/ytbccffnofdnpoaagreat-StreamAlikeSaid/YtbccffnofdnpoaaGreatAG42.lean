/- P. Its conditions: none. -/
import Derived.Test.YtbccffnofdnpoaaGreatAG41
open Bool (false_eq_true)
open List (mem_of_getElem? map_append mem_range mem_filter mem_map map_cons map_nil)
set_option linter.all false
namespace Go.Proofs.YtbccffnofdnpoaaGreat
open Go.V Go.RowKit Old
def g0F {σ τ:Type}{step:σ->Option (X0 σ τ)}{s c:σ}{k:Nat}(h:step s=some (.next c)):iter step (k+1) s=iter step k c:=by
 rw[show iter step (k+1) s=match step s with|none=>none|some (.next c)=>iter step k c|some (.done t)=>some t from rfl,h]
def t0U {σ τ:Type}{step:σ->Option (X0 σ τ)}{s:σ}{t:τ}{k:Nat}(h:step s=some (.done t)):iter step (k+1) s=some t:=by
 rw[show iter step (k+1) s=match step s with|none=>none|some (.next c)=>iter step k c|some (.done t)=>some t from rfl,h]
section
variable {F:Nat}{l:List D0}
theorem H0M {t:Tm}(j:K5 l t)(hR:N3 l=true){u d:List Int}(hu:UpT u t)(hd:c0d d t){b:Nat}(C:b<l.length):∀(fs:List Fr) (lo:Nat) (s:Tm),Ctx t lo s fs->∀k,fs.length<k->iter (a02 u (S5 l) (b:Int)) k (s.top lo:Int)=some ((c0s b fs lo s:Nat):Int):=by
 have v:=i0H hR;have hlen:=j.len;intro fs
 induction fs with
 |nil=>
  intro lo s g k hk;obtain⟨k,rfl⟩:∃q,k=q+1:=⟨k-1,O'⟩
  have c:=g.at_ j;have o:=g0J hR c;have i:=c.a0g;obtain⟨rfl,rfl⟩:=g;have p:C0 (S5 l) (s.top 0:Int)=true:=R0 O' (by rw[v.len];omega);have y:(b:Int)<=(s.top 0:Int):=by grind [Tm.top]
  simp_all[t0U,a02,c0s]
 |cons f fs ih=>
  intro lo s g k hk;obtain⟨k,rfl⟩:∃q,k=q+1:=⟨k-1,O'⟩
  have c:=g.at_ j;have o:=g0J hR c;have i:=c.a0g;have x:=g.d0v j hu hd;have p:C0 (S5 l) (s.top lo:Int)=true:=R0 O' (by rw[v.len];omega);have w:C0 u (s.top lo:Int)=true:=R0 O' (by rw[hu.len];omega);have hn:=ih _ _ g.2 k (by simp_all)
  by_cases h:lo<=b/\b<=s.top lo
  ·simp_all[t0U,a02,c0s]
  ·have hs:a02 u (S5 l) (b:Int) (s.top lo:Int)=some (.next ((Fr.M3 s f).top (lo-f.off):Int)):=by
    simp_all[a02]
   rw[g0F hs,c0s,if_neg h,hn]
def J0O (hw:∀x∈l,V2 x)(hR:N3 l=true)(y:1000<F){a b:Nat}(ha:a<l.length)(k:b<l.length):h0f F l (a:Int) (b:Int)=some ((o8 l a b:Nat):Int):=by
 obtain⟨t,c⟩:=c0v hw hR;obtain⟨u,h1,j⟩:=Old.q0R c hR (show 401<F from O');obtain⟨d,_,p⟩:=Old.n0z c hR (show 401<F from O');obtain⟨lo,s,fs,g,hs⟩:=A03 c ha;have o:=j.len;have hlen:=c.len;have i:=c.le;have v:=g.size;have h:=E0p c hR (a:=a) k fs lo s g (by have:=s.size_pos;unfold Tm.top at hs;omega) O' (fun q C I=>by
  have:¬I7 l a b q=true:=fun w=>by have:=(h0m.1 w).2.1;omega
  simpa using this)
 have f:=H0M c hR j p k fs lo s g F O';rw[hs]at f;unfold h0f;rw[h1];have c1:(decide ((a:Int)<0)||(decide ((b:Int)<0)||(decide ((a:Int)>=(u.length:Int))||decide ((b:Int)>=(u.length:Int)))))=false:=by
  simp only[Bool.or_eq_false_iff,decide_eq_false_iff_not];omega
 simp only[q0,c1,z0o (show 401<F from O'),f];rw[O0w h.2.2 h.1 h.2.1]
theorem l0R (l:List D0){n:Nat}(hn:n=Z0 l l.length){x:Int}(c:0<=x)(h1:x<n):∃q:Nat,q<l.length/\gt (C3 l l.length) x=(q:Int)/\C0 (C3 l l.length) x=true:=by
 obtain⟨q,f,d,_⟩:=b0N l l.length x.toNat O'
 grind [m0y,R0]
theorem z03 (hw:∀x∈l,V2 x)(hR:N3 l=true){n:Nat}(hn:n=Z0 l l.length)(f:1000<F)(s:T9 F l=some (C3 l l.length)){x y:B0}(t:O8 n x)(h:O8 n y)(C:x.To≠y.To)(k:Nat)(hle:x.Turn≠y.Turn\/x.To<y.To):
  f0L F (k+1) l x y=some (J8 l x y):=by
 obtain⟨d,a2,a3,a4⟩:=t;obtain⟨c,I,b3,b4⟩:=h;have i:=Y9 l l.length;unfold f0L;rw[s];have c1:x.To>=0:=d;have c2:x.To<((C3 l l.length).length:Int):=O'
 have c3:y.To>=0:=c;have c4:y.To<((C3 l l.length).length:Int):=O'
 have c5:(x.To==y.To)=false:=by simp_all
 have w1:W (x.Turn+1)=x.Turn+1:=J3 O' O';have v:W (y.Turn+1)=y.Turn+1:=J3 O' O';simp only[q0,c1,c2,c3,c4,c5,w1,v,decide_eq_true_eq];unfold J8
 by_cases h1:x.Turn>y.Turn
 ·simp_all
 ·rw[if_neg h1,if_neg h1]
  by_cases h2:x.Turn<y.Turn
  ·simp_all
  ·have J:¬x.To>y.To:=O'
   obtain⟨p,hp,g,w⟩:=l0R l hn d a2;obtain⟨q,hq,u,i2⟩:=l0R l hn c I;have j:=(t0C hw hR hp hq).1;have hd:=(m0h hw hR).1;have o:=(m0h hw hR).2 _ j;unfold a0E g0b;rw[w,i2,g,u];simp only[if_true,J0O hw hR f hp hq,C0U hw hR (show 401<F from O'),F0,Int.toNat_natCast];have i3:C0 (b0o l) ((o8 l p q:Nat):Int)=true:=R0 O' O';have i4:C0 l ((o8 l p q:Nat):Int)=true:=R0 O' O';have R:W (gt (b0o l) ((o8 l p q:Nat):Int)+1)=gt (b0o l) ((o8 l p q:Nat):Int)+1:=J3 O' O';have U:W (gt (b0o l) ((o8 l p q:Nat):Int)+1+1)=gt (b0o l) ((o8 l p q:Nat):Int)+1+1:=J3 O' O'
   grind
def N0E (hw:∀x∈l,V2 x)(hR:N3 l=true){n:Nat}(hn:n=Z0 l l.length)(i:1000<F)(d:T9 F l=some (C3 l l.length)){x y:B0}(f:O8 n x)(g:O8 n y)(c:x.To≠y.To):
  f0L F F l x y=some (J8 l x y):=by
 obtain⟨k,rfl⟩:∃k,F=k+2:=⟨F-2,O'⟩
 by_cases hle:x.Turn≠y.Turn\/x.To<y.To
 ·simp_all[z03]
 ·have h:=z03 hw hR hn i d g f (fun h=>c h.symm) k (.inr O');have p:=p0f l x y c;obtain⟨q,a2,a3,a4⟩:=f;obtain⟨o,w,v,u⟩:=g;have t:=Y9 l l.length;unfold f0L;rw[d];have c1:x.To>=0:=q;have c2:x.To<((C3 l l.length).length:Int):=O'
  have c3:y.To>=0:=o;have c4:y.To<((C3 l l.length).length:Int):=O'
  have c5:(x.To==y.To)=false:=by simp_all
  have h1:¬x.Turn>y.Turn:=O'
  have s:¬x.Turn<y.Turn:=O'
  have j:x.To>y.To:=O'
  simp only[q0,c1,c2,c3,c4,c5,h1,s,j,h,p]
  simp_all[J8]
end
def M5 (i k:Nat)(f:Nat->Nat->Int)(a b:Nat):Int:=if(a<i/\b<i)\/(a=i/\b<k)\/(b=i/\a<k)then f a b else 0
def J0A {m i k:Nat}(hk:k<i)(f:Nat->Nat->Int):
  N2 m m (fun a=>if a=k then(fun j=>if j=i then f k i else(if k=i then(fun j=>if j=k then f i k else M5 i k f i j)else M5 i k f k) j)else(if a=i then(fun j=>if j=k then f i k else M5 i k f i j)else M5 i k f a))=N2 m m (M5 i (k+1) f):=by
 refine h0q fun a b _ _=>?_;have h:¬k=i:=O'
 by_cases d:a=k
 ·by_cases c:b=i
  ·simp_all[M5]
  simp_all[M5]
 ·rw[if_neg d]
  by_cases c:a=i
  ·rw[if_pos c]
   by_cases g:b=k
   ·simp_all[M5]
   ·rw[if_neg g,c];unfold M5;omega
  ·rw[if_neg c];unfold M5;omega
theorem z0k {m i:Nat}(f:Nat->Nat->Int)(h:f i i=0):N2 m m (M5 i i f)=N2 m m (M5 (i+1) 0 f):=by
 unfold M5
 grind
theorem G0I {fr:List Nat}{i k:Nat}:(((fr.getD i 0:Nat):Int)==((fr.getD k 0:Nat):Int))=decide (fr.getD i 0=fr.getD k 0):=by
 grind
section
variable {F:Nat}{l:List D0}{n m:Nat}{fB fD:Nat->Nat->Int}{fr:List Nat}{hops:List B0}
structure r0O (l:List D0)(n m:Nat)(fr:List Nat)(hops:List B0):Prop where
 lt:∀i∈fr,i<m
 len:hops.length=fr.length
 le:fr.length<=500
 hop:∀x∈hops,O8 n x
 asc:hops.Pairwise fun a b=>a.To<b.To
def E04 {d:Int}(h:d=1\/d=-1):W (0-d)=- d:=by rcases h with h|h<;>rw[h]<;>rfl
def E0A (hw:∀x∈l,V2 x)(hR:N3 l=true)(hn:n=Z0 l l.length)(R:2000<F)(I:T9 F l=some (C3 l l.length))(h:b0b m fB fD)(g:r0O l n m fr hops){i:Nat}(hi:i<fr.length):
  iter (j00 F l (R2 m fB fD) (Q0 fr) hops (i:Int)) F (0,N2 fr.length fr.length (M5 i 0 (b6 l fB fr hops)),N2 fr.length fr.length (M5 i 0 (M6 l fB fD fr hops)))=some (N2 fr.length fr.length (M5 (i+1) 0 (b6 l fB fr hops)),N2 fr.length fr.length (M5 (i+1) 0 (M6 l fB fD fr hops))):=by
 have hle:=g.le;have ok:=u0R hw hR hn h g.lt g.len g.hop g.asc;rw[<-z0k _ (ok.bd i hi),<-z0k _ (ok.dd i hi)];have:=V3 (step:=j00 F l (R2 m fB fD) (Q0 fr) hops (i:Int)) (fun k=>((k:Int),N2 fr.length fr.length (M5 i k (b6 l fB fr hops)),N2 fr.length fr.length (M5 i k (M6 l fB fD fr hops)))) (N2 fr.length fr.length (M5 i i (b6 l fB fr hops)),N2 fr.length fr.length (M5 i i (M6 l fB fD fr hops))) i (fun k hk=>.inl ?_) ?_ i 0 F O' O'
 ·omega
 ·have c:k<fr.length:=O'
  have h1:(k:Int)<(i:Int):=O'
  have o:C0 hops (i:Int)=true:=R0 O' (by rw[g.len];omega);have t:C0 hops (k:Int)=true:=R0 O' (by rw[g.len];omega);have C:=c0t g.hop (i:=i) (by rw[g.len];exact hi);have J:=c0t g.hop (i:=k) (by rw[g.len];omega);have f:=v0K g.asc (i:=i) (k:=k) (by rw[g.len];exact hi) (by rw[g.len];omega) O';have w:¬i=k:=O'
  have d:¬k=i:=O'
  have u:=ok.dn i k hi c;have v:=ok.d1 i k hi c w;have s:W (0-M6 l fB fD fr hops i k)=M6 l fB fD fr hops k i:=by rw[u];exact E04 v
  have key:∀p q r:Int,p=b6 l fB fr hops i k->q=b6 l fB fr hops k i->r=M6 l fB fD fr hops i k->
    (Option.bind (some (N2 fr.length fr.length (fun a=>if a=k then(fun j=>if j=i then q else(if k=i then(fun j=>if j=k then p else M5 i k (b6 l fB fr hops) i j)else M5 i k (b6 l fB fr hops) k) j)else(if a=i then(fun j=>if j=k then p else M5 i k (b6 l fB fr hops) i j)else M5 i k (b6 l fB fr hops) a)),
     N2 fr.length fr.length (fun a=>if a=i then(fun j=>if j=k then r else M5 i k (M6 l fB fD fr hops) i j)else M5 i k (M6 l fB fD fr hops) a))) fun(y,y6)=>
    (if C0 y6 (k:Int)then
     if C0 y6 (i:Int)then
      if C0 (gt y6 (i:Int)) (k:Int)then
       if C0 (gt y6 (k:Int)) (i:Int)then
        let t5:=y6.set (k:Int).toNat ((gt y6 (k:Int)).set (i:Int).toNat (W (0-(gt (gt y6 (i:Int)) (k:Int)))))
        some (.next (W ((k:Int)+1),y,t5))
       else none
      else none
     else none
    else none:Option (X0 (Int×(List (List Int))×(List (List Int))) ((List (List Int))×(List (List Int))))))=some (.next (((k+1:Nat):Int),N2 fr.length fr.length (M5 i (k+1) (b6 l fB fr hops)),N2 fr.length fr.length (M5 i (k+1) (M6 l fB fD fr hops)))):=by
   rintro p q r rfl rfl rfl
   simp only[F0,p9 _ hi,p9 _ c,R8 _ hi,R8 _ c,a0G _ hi,a0G _ c,if_true,b06 _ c,Int.toNat_natCast,r0r,r0F,J0A hk,s,K2 (i:=k) O']
  unfold j00;simp only[h1,decide_true,if_true,v7 hi,v7 c,L8 hi,L8 c,G0I,decide_eq_true_eq,p9 _ hi,p9 _ c,o,t,N0E hw hR hn (show 1000<F from O') I C J f,R8 _ hi,R8 _ c,a0G _ hi,a0G _ c,n04 g.len g.lt hi c,n04 g.len g.lt c hi,x0J g.len g.lt hi c,Int.toNat_natCast,r0r,r0F]
  by_cases he:fr.getD i 0=fr.getD k 0
  ·rw[if_pos he];refine key _ _ _ ?_ ?_ ?_
   ·unfold b6;omega
   ·unfold b6;rw[if_neg d,if_pos he.symm,p0f l _ _ f]
   ·unfold M6;simp_all
  ·rw[if_neg he];refine key _ _ _ ?_ ?_ ?_
   ·unfold b6;omega
   ·unfold b6;omega
   ·unfold M6;omega
 simp[j00]
def y0o (hw:∀x∈l,V2 x)(hR:N3 l=true)(hn:n=Z0 l l.length)(c:2000<F)(o:T9 F l=some (C3 l l.length))(hm:m<=1000)(h:b0b m fB fD)(g:r0O l n m fr hops):
  f00 F l (R2 m fB fD) (Q0 fr) hops=some (R2 fr.length (b6 l fB fr hops) (M6 l fB fD fr hops)):=by
 have hle:=g.le;unfold f00;rw[n0U hm c h];have hlen:(((Q0 fr).length:Int) != (hops.length:Int))=false:=by rw[c0Q,g.len];simp
 have t1:=V3 (step:=i0k F (R2 m fB fD) (Q0 fr)) (fun i=>(i:Int)) (.inr ()) fr.length (fun i hi=>.inl ?_) ?_ fr.length 0 F O' O'
 ·have k:iter (i0k F (R2 m fB fD) (Q0 fr)) F 0=_:=t1;have t2:=V3 (step:=i0L F l (R2 m fB fD) (Q0 fr) hops) (fun i=>((i:Int),N2 fr.length fr.length (M5 i 0 (b6 l fB fr hops)),N2 fr.length fr.length (M5 i 0 (M6 l fB fD fr hops)))) (N2 fr.length fr.length (b6 l fB fr hops),N2 fr.length fr.length (M6 l fB fD fr hops)) fr.length (fun i hi=>.inl ?_) ?_ fr.length 0 F O' O'
  ·have z:∀f,N2 fr.length fr.length (M5 0 0 f)=N2 fr.length fr.length fun _ _=>0:=fun f=>h0q fun a b _ _=>by simp[M5]
   rw[z,z]at t2;have j:iter (i0L F l (R2 m fB fD) (Q0 fr) hops) F (0,N2 fr.length fr.length (fun _ _=>0),N2 fr.length fr.length fun _ _=>0)=_:=t2;simp only[q0,hlen,k,show decide ((-1:Int)>=0)=false from rfl];rw[c0Q,u0Q O' c];simp only[F0,j];rfl
  ·unfold i0L;have h1:(i:Int)<((Q0 fr).length:Int):=by simp;omega
   simp only[q0,h1,E0A hw hR hn c o h g hi,K2 (i:=i) O']
  ·unfold i0L;have z:∀f,N2 fr.length fr.length (M5 fr.length 0 f)=N2 fr.length fr.length f:=fun f=>h0q fun a b _ _=>by simp_all[M5]
   simp_all
 ·unfold i0k f0v;have h1:(i:Int)<((Q0 fr).length:Int):=by simp;omega
  have q:=T7 g.lt hi;have p:((fr.getD i 0:Nat):Int)>=0:=O'
  have d:((fr.getD i 0:Nat):Int)<((R2 m fB fD).B.length:Int):=by simp_all[R2]
  simp only[q0,h1,v7 hi,L8 hi,p,d,K2 (i:=i) O']
 simp[i0k]
end
def wrap_u64 {n:Nat}(h:n<18446744073709551616):IntKind.wrap .u64 (n:Int)=n:=by
 simp[IntKind.wrap,IntKind.bits,IntKind.signed];omega
def x0R (x y:BitVec 64):O3 .u64 (x.toNat:Int) (y.toNat:Int)=((x&&& y).toNat:Int):=by
 unfold O3;simp only[IntKind.bits,BitVec.ofInt_natCast,BitVec.ofNat_toNat,BitVec.setWidth_eq];exact wrap_u64 (x&&& y).isLt
def M0W {k:Nat}(h:k<64):shl .u64 1 (k:Int)=((BitVec.twoPow 64 k).toNat:Int):=by
 have h1:min k 64=k:=O'
 have c:2 ^ k<18446744073709551616:=Nat.pow_lt_pow_right (a:=2) O' (show k<64 from h);unfold shl;rw[show(IntKind.u64).bits=64 from rfl,Int.toNat_natCast,h1,Int.one_mul,BitVec.toNat_twoPow,Nat.mod_eq_of_lt c];rw[show((2:Int) ^ k)=((2 ^ k:Nat):Int) from V'];exact wrap_u64 c
def D0J (x:BitVec 64){k:Nat}(h:k<64):shr .u64 (x.toNat:Int) (k:Int)=((x >>> k).toNat:Int):=by
 have h1:min k 64=k:=O'
 unfold shr;rw[show(IntKind.u64).bits=64 from rfl,Int.toNat_natCast,h1,BitVec.toNat_ushiftRight,Nat.shiftRight_eq_div_pow,show((2:Int) ^ k)=((2 ^ k:Nat):Int) from V',Int.fdiv_eq_ediv_of_nonneg _ (Int.natCast_nonneg _),Int.natCast_ediv]
def B0I {v:Int}(d:0<=v)(h1:v<18446744073709551616){k:Nat}(hk:k<64):(O3 .u64 v (shl .u64 1 (k:Int)) != 0)=(O3 .u64 (shr .u64 v (k:Int)) 1==1):=by
 obtain⟨x,rfl⟩:∃x:BitVec 64,v=(x.toNat:Int):=⟨BitVec.ofNat 64 v.toNat,by rw[BitVec.toNat_ofNat,Nat.mod_eq_of_lt O'];omega⟩
 rw[M0W hk,D0J x hk,x0R,show(1:Int)=((BitVec.twoPow 64 0).toNat:Int)from rfl,x0R,BitVec.and_twoPow,BitVec.and_twoPow];have c:(x >>> k).getLsbD 0=x.getLsbD k:=V'
 rw[c];have hp:(BitVec.twoPow 64 k).toNat≠0:=by
  rw[BitVec.toNat_twoPow,Nat.mod_eq_of_lt (Nat.pow_lt_pow_right (a:=2) O' (show k<64 from hk))];exact Nat.ne_of_gt (Nat.two_pow_pos k)
 cases x.getLsbD k with
 |false=>simp
 |true=>
  have:((BitVec.twoPow 64 k).toNat:Int)≠0:=O'
  simp only[if_true,bne_iff_ne,ne_eq,this,not_false_eq_true,beq_self_eq_true,bne,beq_eq_false_iff_ne.2 this,Bool.not_false]
def hasB (s:List Int)(b:Int):Bool:=O3 .u64 (gt s (Int.tdiv b 64)) (shl .u64 1 (Int.tmod b 64)) != 0
def r06 (fuel:Nat){s:List Int}(hs:s.length=4/\∀y∈s,J4 .u64 y){b:Int}(h:J4 .u8 b):d0W fuel s b=some (hasB s b)/\True:=by
 have v:0<=b/\b<256:=⟨h.1,by have:=h.2;rw[show IntKind.u8.max=255 from rfl]at this;omega⟩
 obtain⟨n,rfl⟩:∃n:Nat,b=n:=⟨b.toNat,O'⟩
 have hn:n<256:=O'
 have hd:Int.tdiv (n:Int) 64=((n / 64:Nat):Int):=by rw[Int.tdiv_eq_ediv_of_nonneg O'];simp
 have hm:Int.tmod (n:Int) 64=((n % 64:Nat):Int):=by rw[Int.tmod_eq_emod_of_nonneg O'];simp
 have g:IntKind.wrap .u8 ((n / 64:Nat):Int)=((n / 64:Nat):Int):=by simp[IntKind.wrap,IntKind.bits,IntKind.signed];omega
 have f:W (n:Int)=n:=x0Q O';have d:W ((n / 64:Nat):Int)=((n / 64:Nat):Int):=x0Q O';have q:t0P 4 ((n / 64:Nat):Int)=true:=by simp[t0P];omega
 have c:=hs.2 _ (mem_of_getElem? (X4 (l:=s) (i:=n / 64) O'));have j:0<=gt s ((n / 64:Nat):Int)/\gt s ((n / 64:Nat):Int)<18446744073709551616:=⟨c.1,by have:=c.2;rw[show IntKind.u64.max=18446744073709551615 from rfl]at this;omega⟩
 have w:(0:Int)<=((n % 64:Nat):Int):=O'
 unfold d0W hasB;have p:(0:Int)<=((n / 64:Nat):Int):=O'
 have t:((n / 64:Nat):Int)<4:=O'
 have k:¬((n % 64:Nat):Int)<0:=O'
 have o:(n:Int)>=0:=O'
 have u:(n:Int)<256:=O'
 simp only[q0,f,hd,hm,g,d,p,t,k,o,u,Bool.and_self,B0I j.1 j.2 (show n % 64<64 from O'),and_true]
def B7 (ws:List B0)(r:Nat):Option B0:=ws.find? fun h=>h.To==(r:Int)
def a0T (ws:List B0)(r:Nat):B0:=(B7 ws r).getD ⟨0,0,[]⟩
def U3 (Ws:List (List B0))(r k:Nat):List Nat:=(List.range k).filter fun i=>(B7 (Ws.getD i []) r).isSome
def J5 (Ws:List (List B0))(r k:Nat):List B0:=(U3 Ws r k).map fun i=>a0T (Ws.getD i []) r
def r0u (Ws:List (List B0))(r k:Nat):U3 Ws r (k+1)=U3 Ws r k++if(B7 (Ws.getD k []) r).isSome then[k]else[]:=by
 unfold U3;rw[List.range_succ,List.filter_append];congr 1;cases h:(B7 (Ws.getD k []) r).isSome
 ·simp only[List.filter_cons,h,false_eq_true,if_false,List.filter_nil]
 ·simp only[List.filter_cons,h,if_true,List.filter_nil]
def v06 (Ws:List (List B0))(r k:Nat):J5 Ws r (k+1)=J5 Ws r k++if(B7 (Ws.getD k []) r).isSome then[a0T (Ws.getD k []) r]else[]:=by
 unfold J5;rw[r0u,map_append];congr 1;split<;>rfl
def w0u {Ws:List (List B0)}{r k i:Nat}(h:i∈U3 Ws r k):i<k:=mem_range.1 (mem_filter.1 h).1
def l0Q (Ws:List (List B0))(r k:Nat):(U3 Ws r k).length<=k:=Nat.le_trans (List.length_filter_le _ _) V'
def m0g (Ws:List (List B0))(r k:Nat):(J5 Ws r k).length=(U3 Ws r k).length:=by simp[J5]
def G0K {ws:List B0}{r:Nat}(h:(B7 ws r).isSome=true):a0T ws r∈ws/\(a0T ws r).To=r:=by
 unfold a0T;cases e:B7 ws r with
 |none=>rw[e]at h;simp at h
 |some x=>
  have:=List.find?_some e;exact⟨List.mem_of_find?_eq_some e,by simpa using this⟩
def L9 (fB fD:Nat->Nat->Int)(Ws:List (List B0))(r:Nat):Nat:=(h0t fB fD (U3 Ws r Ws.length) (J5 Ws r Ws.length)).toNat
def f0I (fB fD:Nat->Nat->Int)(Ws:List (List B0))(r:Nat):Nat:=(U3 Ws r Ws.length).getD (L9 fB fD Ws r) 0
def a0I (fB fD:Nat->Nat->Int)(Ws:List (List B0))(r:Nat):B0:=a0T (Ws.getD (f0I fB fD Ws r) []) r
def K4 (hs:Nat->Bool)(Ws:List (List B0))(k:Nat):List Nat:=(List.range k).filter fun r=>hs r&&!(U3 Ws r Ws.length).isEmpty
def u0g (hs:Nat->Bool)(Ws:List (List B0))(k:Nat):K4 hs Ws (k+1)=K4 hs Ws k++if hs k&&!(U3 Ws k Ws.length).isEmpty then[k]else[]:=by
 unfold K4;rw[List.range_succ,List.filter_append];congr 1;cases h:(hs k&&!(U3 Ws k Ws.length).isEmpty)<;>simp[h]
def H0C {hs:Nat->Bool}{Ws:List (List B0)}{k i:Nat}(h:i∈K4 hs Ws k):i<k:=mem_range.1 (mem_filter.1 h).1
def t0m (hs:Nat->Bool)(Ws:List (List B0))(k:Nat):(K4 hs Ws k).length<=k:=Nat.le_trans (List.length_filter_le _ _) V'
def y0W (hs:Nat->Bool)(Ws:List (List B0))(k:Nat):(K4 hs Ws k).Pairwise fun a b=>a<b:=List.Pairwise.filter _ List.pairwise_lt_range
def J0V {hs:Nat->Bool}{Ws:List (List B0)}{k r:Nat}(h:r∈K4 hs Ws k):hs r=true/\U3 Ws r Ws.length≠[]:=by
 have:=(mem_filter.1 h).2;simpa using this
def M0X {fB fD:Nat->Nat->Int}{fr:List Nat}{hops:List B0}:∀k,0<k->∃j:Nat,d0D fB fD fr hops k=j/\j<k:=by
 intro k
 induction k with
 |zero=>intro h;omega
 |succ k ih=>
  intro _;rw[t0h];unfold h0i;split
  ·exact⟨k,rfl,O'⟩
  ·split
   ·exact⟨k,rfl,O'⟩
   ·rcases u0B fB fD fr hops k with h|⟨j,h,hj⟩
    ·rename_i c _;rw[h]at c;exact absurd (show(-1:Int)<0 from O') c
    ·exact⟨j,h,O'⟩
def B0g {fB fD:Nat->Nat->Int}{fr:List Nat}{hops:List B0}(h:fr≠[]):∃j:Nat,h0t fB fD fr hops=j/\j<fr.length:=M0X _ (List.length_pos_iff.2 h)
theorem s0F {fB fD:Nat->Nat->Int}{hops:List B0}:h0t fB fD [] hops=-1:=rfl
section
variable {fB fD:Nat->Nat->Int}{Ws:List (List B0)}{r:Nat}
def n0y (h:U3 Ws r Ws.length≠[]):h0t fB fD (U3 Ws r Ws.length) (J5 Ws r Ws.length)=(L9 fB fD Ws r:Int)/\L9 fB fD Ws r<(U3 Ws r Ws.length).length:=by
 obtain⟨j,h1,c⟩:=B0g (fB:=fB) (fD:=fD) (hops:=J5 Ws r Ws.length) h;unfold L9;rw[h1];exact⟨rfl,c⟩
def y0i (h:U3 Ws r Ws.length≠[]):f0I fB fD Ws r∈U3 Ws r Ws.length:=by
 have:=(n0y (fB:=fB) (fD:=fD) h).2;unfold f0I;rw[show(U3 Ws r Ws.length).getD (L9 fB fD Ws r) 0=(U3 Ws r Ws.length)[L9 fB fD Ws r]from by simp[List.getD,this]];exact List.getElem_mem this
def c0F (h:U3 Ws r Ws.length≠[]):f0I fB fD Ws r<Ws.length:=w0u (y0i h)
def u0e (h:U3 Ws r Ws.length≠[]):gt (J5 Ws r Ws.length) (L9 fB fD Ws r:Int)=a0I fB fD Ws r:=by
 have:=(n0y (fB:=fB) (fD:=fD) h).2;refine P2 ?_;unfold a0I f0I J5;simp[List.getD,this]
def n03 (h:U3 Ws r Ws.length≠[]):a0I fB fD Ws r∈Ws.getD (f0I fB fD Ws r) []/\(a0I fB fD Ws r).To=r:=G0K (mem_filter.1 (y0i h)).2
end
def z8 (hs:Nat->Bool)(Ws:List (List B0)):Nat->Nat
 |0=>0
 |r+1=>z8 hs Ws r+if hs r then(U3 Ws r Ws.length).length else 0
def p0E (hs:Nat->Bool)(Ws:List (List B0)):∀k,z8 hs Ws k<=k*Ws.length
 |0=>by simp[z8]
 |k+1=>by
  have h1:=p0E hs Ws k;have c:=l0Q Ws k Ws.length;simp only[z8,Nat.succ_mul];split<;>omega
end Go.Proofs.YtbccffnofdnpoaaGreat
namespace Go.Proofs.YtbccffnofdnpoaaGreat
open Go.V Go.RowKit Old Go.X
section
variable {F:Nat}{l:List D0}{n:Nat}
def N6 (l:List D0)(hs:Nat->Bool)(Ws:List (List B0))(i j r:Nat):J7:=
 if hs r then⟨Q0 (U3 Ws r i++if(B7 ((Ws.getD i []).take j) r).isSome then[i]else[]),(J5 Ws r i++if(B7 ((Ws.getD i []).take j) r).isSome then[a0T ((Ws.getD i []).take j) r]else[]).map (H3 l),J5 Ws r i++if(B7 ((Ws.getD i []).take j) r).isSome then[a0T ((Ws.getD i []).take j) r]else[]⟩else⟨[],[],[]⟩
def w0y {ws:List B0}{j r:Nat}(c:j<ws.length)(h:(gt ws (j:Int)).To≠(r:Int)):B7 (ws.take (j+1)) r=B7 (ws.take j) r:=by
 unfold B7;rw[List.take_succ,X4 c,List.find?_append];simp[List.find?_cons,h]
def w0U {n:Nat}{ws:List B0}(hw:B2 n ws){j r:Nat}(d:j<ws.length)(h:(gt ws (j:Int)).To=(r:Int)):B7 (ws.take (j+1)) r=some (gt ws (j:Int))/\B7 (ws.take j) r=none:=by
 have c:B7 (ws.take j) r=none:=by
  unfold B7;rw[List.find?_eq_none];intro x f;obtain⟨i,hi,he⟩:=List.mem_iff_getElem.1 f;simp only[List.length_take]at hi;have hd:=List.pairwise_iff_getElem.1 hw.dist i j O' d O';rw[List.getElem_take]at he;rw[<-he];have g:gt ws (j:Int)=ws[j]:=P2 (by simp[d]);rw[g]at h;simp only[beq_iff_eq];omega
 refine⟨?_,c⟩;unfold B7 at c ⊢;rw[List.take_succ,X4 d,List.find?_append,c];simp[h]
def q05 {β:Type}{n:Nat}{f g:Nat->β}(h:∀r,r<n->f r=g r):(List.range n).map f=(List.range n).map g:=List.map_congr_left fun r c=>h r (mem_range.1 c)
def t0l (l:List D0)(hs:Nat->Bool)(Ws:List (List B0))(i r:Nat):N6 l hs Ws i 0 r=if hs r then⟨Q0 (U3 Ws r i),(J5 Ws r i).map (H3 l),J5 Ws r i⟩else⟨[],[],[]⟩:=by
 unfold N6;have:B7 ((Ws.getD i []).take 0) r=none:=rfl;simp only[this,Option.isSome_none,false_eq_true,if_false,List.append_nil]
def M03 (l:List D0)(hs:Nat->Bool)(Ws:List (List B0))(i r:Nat):N6 l hs Ws i (Ws.getD i []).length r=N6 l hs Ws (i+1) 0 r:=by
 rw[t0l];unfold N6;rw[List.take_length,r0u,v06]
def setOf (l:List D0){n:Nat}(hn:n=Z0 l l.length)(hw:∀x∈l,V2 x){r:Nat}(g:r<n):C0 ((C3 l l.length).map fun q=>(gt l q).Set) (r:Int)=true/\gtZ 4 ((C3 l l.length).map fun q=>(gt l q).Set) (r:Int)=(gt l (gt (C3 l l.length) (r:Int))).Set/\
  ((gt l (gt (C3 l l.length) (r:Int))).Set.length=4/\∀y∈(gt l (gt (C3 l l.length) (r:Int))).Set,J4 .u64 y):=by
 obtain⟨q,d,c,f⟩:=l0R l hn (x:=(r:Int)) O' O';have hlen:=Y9 l l.length;refine⟨R0 O' Z',?_,?_⟩
 ·unfold gtZ;have:(C3 l l.length)[r]?=some (gt (C3 l l.length) (r:Int)):=X4 O';exact @P2 _ ⟨List.replicate 4 0⟩ _ _ _ (by rw[List.getElem?_map,this];rfl)
 ·rw[c];have:=hw _ (mem_of_getElem? (X4 (l:=l) (i:=q) d));exact this.2.2.2.2
def X1 (l:List D0)(b_:Int)(r:Nat):Bool:=hasB (gt l (gt (C3 l l.length) (r:Int))).Set b_
def N02 {a:List B0}{b:Nat->List B0}{e:Nat->B0×Bool}{z:B0×Bool}(hw:∀x∈l,V2 x)(hn:n=Z0 l l.length)(a1:n<=400)(hf:2000001<F){c:L2}(hc:c.chart=i7 l n a b e z){g:s9}{b_:Int}(hb:J4 .u8 b_)
  {Ws:List (List B0)} (hW:∀i,i<Ws.length->B2 n (Ws.getD i [])/\(Ws.getD i []).length<=500000) (hM:Ws.length<=1000) (hg:g.roads=Ws.map fun w=>w.map (H3 l)) {i:Nat} (hi:i<Ws.length):
  iter (i0c F c g b_ (i:Int)) F (0,(List.range n).map (N6 l (X1 l b_) Ws i 0))=some ((List.range n).map (N6 l (X1 l b_) Ws (i+1) 0)):=by
 obtain⟨p,hlen⟩:=hW i hi;have t:gt g.roads (i:Int)=(Ws.getD i []).map (H3 l):=by
  rw[hg];refine P2 ?_;rw[List.getElem?_map,show Ws.getD i []=Ws[i]from by simp[List.getD,hi],List.getElem?_eq_getElem hi];rfl
 generalize d:Ws.getD i []=ws at *;have:=V3 (step:=i0c F c g b_ (i:Int)) (fun j=>((j:Int),(List.range n).map (N6 l (X1 l b_) Ws i j))) ((List.range n).map (N6 l (X1 l b_) Ws (i+1) 0)) ws.length (fun j u=>.inl ?_) ?_ ws.length 0 F O' O'
 ·exact this
 ·have hk:=p.ok _ (mem_of_getElem? (X4 u));obtain⟨r,U⟩:∃r:Nat,(gt ws (j:Int)).To=r:=⟨(gt ws (j:Int)).To.toNat,by have:=hk.1;omega⟩
  have f:r<n:=by have:=hk.2.1;omega
  obtain⟨s1,s2,s3⟩:=setOf l hn hw f;obtain⟨t1,t2⟩:=w0U p u U;have s:∀q,q≠r->N6 l (X1 l b_) Ws i (j+1) q=N6 l (X1 l b_) Ws i j q:=fun q hq=>by
   have e:=w0y (ws:=ws) (j:=j) (r:=q) u (by rw[U];omega);unfold N6 a0T;rw[d,e]
  have o:(j:Int)<((ws.map (H3 l)).length:Int):=by simp;omega
  have y:gt (ws.map (H3 l)) (j:Int)=H3 l (gt ws (j:Int)):=P2 (by rw[List.getElem?_map,X4 u];rfl);have v:C0 (ws.map (H3 l)) (j:Int)=true:=R0 O' o;have h:(H3 l (gt ws (j:Int))).Hop.To=(r:Int):=U;unfold i0c;simp only[q0,t,o,v,y,h,hc,i7,s1,s2,(r06 F s3 hb).1,K2 (i:=j) O'];have hH:hasB (gt l (gt (C3 l l.length) (r:Int))).Set b_=X1 l b_ r:=rfl;rw[hH];cases I:X1 l b_ r with
  |false=>
   simp only[q0];congr 1;congr 1;congr 1;refine q05 fun q _=>?_
   by_cases hq:q=r
   ·subst hq;unfold N6;rw[I];rfl
   ·exact(s q hq).symm
  |true=>
   have b2:=l0Q Ws r i;have b1:=m0g Ws r i;have k:N6 l (X1 l b_) Ws i j r=⟨Q0 (U3 Ws r i),(J5 Ws r i).map (H3 l),J5 Ws r i⟩:=by
    unfold N6;rw[I,d,t2];simp
   have R:J0 8 (Q0 (U3 Ws r i)) [(i:Int)]=true:=by simp[J0];omega
   have C:J0 64 ((J5 Ws r i).map (H3 l)) [H3 l (gt ws (j:Int))]=true:=by simp[J0];omega
   have J:J0 40 (J5 Ws r i) [(H3 l (gt ws (j:Int))).Hop]=true:=by simp[J0];omega
   simp only[q0,g02 f,g0v f,k,R,w0O,Int.toNat_natCast,C,J];congr 1;congr 1;congr 1;refine q05 fun q _=>?_
   by_cases hq:q=r
   ·subst hq;simp only[if_true];unfold N6;rw[I,d,t1,a0T,t1];simp[c0B,H3]
   ·simp only[hq,if_false];exact(s q hq).symm
 ·unfold i0c;have h1:¬((ws.length:Int)<((ws.map (H3 l)).length:Int)):=V'
  simp only[q0,t,h1];congr 1;congr 1;refine q05 fun q _=>?_;rw[<-d,M03]
def O0D {a:List B0}{b:Nat->List B0}{e:Nat->B0×Bool}{z:B0×Bool}(hw:∀x∈l,V2 x)(hn:n=Z0 l l.length)(f:n<=400)(p:2000001<F){c:L2}(k:c.chart=i7 l n a b e z){g:s9}{b_:Int}(t:J4 .u8 b_)
  {Ws:List (List B0)} (q:∀i,i<Ws.length->B2 n (Ws.getD i [])/\(Ws.getD i []).length<=500000) (s:Ws.length<=1000) (hg:g.roads=Ws.map fun w=>w.map (H3 l)):
  i0I F c g b_=some ((List.range n).map (N6 l (X1 l b_) Ws Ws.length 0),c):=by
 have d:(c.chart.sets.length:Int)=(n:Int):=by rw[k];simp only[i7,List.length_map,Y9];omega
 have j:F4 72 (n:Int)=true:=by simp[F4];omega
 have h:List.replicate n (⟨[],[],[]⟩:J7)=(List.range n).map (N6 l (X1 l b_) Ws 0 0):=by
  refine List.ext_getElem V' fun r h1 o=>?_;simp only[List.getElem_replicate,List.getElem_map,List.getElem_range,t0l];split
  ·rfl
  ·rfl
 unfold i0I;rw[d,j];simp only[if_true,Int.toNat_natCast];have:=V3 (step:=i0Q F c g b_) (fun i=>((i:Int),(List.range n).map (N6 l (X1 l b_) Ws i 0))) ((List.range n).map (N6 l (X1 l b_) Ws Ws.length 0)) Ws.length (fun i hi=>.inl ?_) ?_ Ws.length 0 F O' O'
 ·have o:iter (i0Q F c g b_) F (0,(List.range n).map (N6 l (X1 l b_) Ws 0 0))=_:=this;rw[h,o];rfl
 ·unfold i0Q;have h1:(i:Int)<(g.roads.length:Int):=by rw[hg];simp;omega
  simp only[q0,h1,R0 (l:=g.roads) (i:=(i:Int)) O' h1,N02 hw hn f p k t q s hg hi,K2 (i:=i) O']
 ·unfold i0Q;have h1:¬((Ws.length:Int)<(g.roads.length:Int)):=by rw[hg];simp
  simp only[q0,h1]
end
def P0 (a:List B0)(b:Nat->List B0)(pl:List Nat)(y0:Bool):List (List B0):=pl.map b++if y0 then[a]else[]
def z6 (l:List D0)(at_:Int)(vals:List (List Int))(y0:Bool):List (List Int):=vals++if y0 then[a0A l at_]else[]
def H4 (pl:List Nat)(y0:Bool):Nat:=if y0 then pl.length+1 else pl.length
def Q3 (pl:List Nat)(y0:Bool)(fB:Nat->Nat->Int):Nat->Nat->Int:=if y0 then c0i pl.length fB else fB
def I4 (pl:List Nat)(y0:Bool)(fD:Nat->Nat->Int):Nat->Nat->Int:=if y0 then c0I pl.length fD else fD
def b0d (a:List B0)(b:Nat->List B0)(pl:List Nat)(y0:Bool):(P0 a b pl y0).length=H4 pl y0:=by unfold P0 H4;cases y0<;>simp
section
variable {F:Nat}{l:List D0}{n:Nat}{a:List B0}{b:Nat->List B0}{e:Nat->B0×Bool}{z:B0×Bool}{at_ work:Int}{pl:List Nat}{vals:List (List Int)}{fB fD:Nat->Nat->Int}
def u0O (C:C4 l n pl vals fB fD)(y0:Bool):(z6 l at_ vals y0).length=H4 pl y0:=by unfold z6 H4;cases y0<;>simp[C.len]
def i0z (C:C4 l n pl vals fB fD)(y0:Bool):b0b (H4 pl y0) (Q3 pl y0 fB) (I4 pl y0 fD):=by
 unfold H4 Q3 I4;cases y0 with
 |false=>exact C.rk
 |true=>exact J0G C.rk
def u0l (C:C4 l n pl vals fB fD)(y0:Bool):∀v∈z6 l at_ vals y0,v.length=(Z2 l).toNat:=by
 intro v c;unfold z6 at c;rcases List.mem_append.1 c with h|h
 ·exact C.row v h
 ·cases y0 with
  |false=>simp at h
  |true=>simp at h;subst h;exact m0Z l at_
def h0D (K:Y2 l n a b e z F)(C:C4 l n pl vals fB fD)(y0:Bool):∀i,i<(P0 a b pl y0).length->B2 n ((P0 a b pl y0).getD i [])/\((P0 a b pl y0).getD i []).length<=500000/\(∀h∈(P0 a b pl y0).getD i [],O8 n h)/\X8 800 ((P0 a b pl y0).getD i []):=by
 intro i hi;have hm:(P0 a b pl y0).getD i []∈P0 a b pl y0:=by
  rw[show(P0 a b pl y0).getD i []=(P0 a b pl y0)[i]from by simp[List.getD,hi]];exact List.getElem_mem hi
 have hop:∀{ws:List B0},B2 n ws->a0S ws->∀h∈ws,O8 n h:=fun hw d h c=>⟨(hw.ok h c).1,(hw.ok h c).2.1,(d h c).1,(d h c).2⟩
 generalize (P0 a b pl y0).getD i []=ws at *;unfold P0 at hm;rcases List.mem_append.1 hm with h|h
 ·obtain⟨p,hp,rfl⟩:=mem_map.1 h;have:=C.pln p hp;exact⟨K.T.bw p this,K.T.bl p this,hop (K.T.bw p this) (K.T.bT p this),K.T.bb p this⟩
 ·cases y0 with
  |false=>simp at h
  |true=>simp at h;subst h;exact⟨K.T.aw,K.T.al,hop K.T.aw K.T.aT,K.T.ab⟩
def B06 (K:Y2 l n a b e z F)(C:C4 l n pl vals fB fD)(y0:Bool):h0o F (B6 l n a b e z at_ work pl vals fB fD) y0 =
  some (⟨z6 l at_ vals y0,(P0 a b pl y0).map (fun w=>w.map (H3 l)),R2 (H4 pl y0) (Q3 pl y0 fB) (I4 pl y0 fD)⟩,B6 l n a b e z at_ work pl vals fB fD):=by
 have f1:=K.f1;have hm:=C.le;have hn:=K.T.n64;have h:=C.len;unfold h0o k0c;have c:J0 24 ([]:List (List Int)) vals=true:=by simp[J0];omega
 rw[l9];simp only[B6,c,if_true,F0];have:=V3 (step:=h0E F (B6 l n a b e z at_ work pl vals fB fD)) (fun i=>((i:Int),(vals,(pl.take i).map (fun p=>(b p).map (H3 l)),R2 pl.length fB fD))) (vals,pl.map (fun p=>(b p).map (H3 l)),R2 pl.length fB fD) pl.length (fun i hi=>.inl ?_) ?_ pl.length 0 F O' O'
 ·have k:iter (h0E F ⟨i7 l n a b e z,at_,work,Q0 pl,vals,R2 pl.length fB fD⟩) F (0,(vals,[],R2 pl.length fB fD))=_:=this;rw[k];simp only[F0];unfold z6 P0 H4 Q3 I4;cases y0 with
  |false=>simp
  |true=>
   have g:J0 24 vals [a0A l at_]=true:=by simp[J0];omega
   have d:J0 24 (pl.map fun p=>(b p).map (H3 l)) [a.map (H3 l)]=true:=by simp[J0];omega
   have o:=v0j K ⟨i7 l n a b e z,at_,work,Q0 pl,vals,R2 pl.length fB fD⟩ rfl;have f:(i7 l n a b e z).begin=a.map (H3 l):=rfl;simp only[if_true,o,F0,g,f,d,x0Y (show pl.length<=900 from O') (show 2000<F from O') C.rk,map_append,List.map_map,map_cons,map_nil,Function.comp_def]
 ·unfold h0E;have h1:(i:Int)<((Q0 pl).length:Int):=by simp;omega
  have hp:=T7 C.pln hi;have c:J0 24 ((pl.take i).map (fun p=>(b p).map (H3 l))) [(b (pl.getD i 0)).map (H3 l)]=true:=by simp[J0];omega
  have j:pl.take (i+1)=pl.take i++[pl.getD i 0]:=by rw[h0h hi];simp[List.getD,hi]
  simp only[B6,h1,decide_true,if_true,v7 hi,L8 hi,i7,g02 hp,g0v hp,c,j,map_append,map_cons,map_nil,K2 (i:=i) O']
 ·unfold h0E;have h1:¬((pl.length:Int)<((Q0 pl).length:Int)):=V'
  simp only[q0,B6,h1,List.take_length]
def Q1 (l:List D0)(n:Nat)(a:List B0)(b:Nat->List B0)(pl:List Nat)(b_:Int)(y0:Bool):List Nat:=K4 (X1 l b_) (P0 a b pl y0) n
def O2 (a:List B0)(b:Nat->List B0)(pl:List Nat)(fB fD:Nat->Nat->Int)(y0:Bool)(r:Nat):Nat:=f0I (Q3 pl y0 fB) (I4 pl y0 fD) (P0 a b pl y0) r
def D4 (a:List B0)(b:Nat->List B0)(pl:List Nat)(fB fD:Nat->Nat->Int)(y0:Bool)(r:Nat):B0:=a0I (Q3 pl y0 fB) (I4 pl y0 fD) (P0 a b pl y0) r
def O7 (l:List D0)(a:List B0)(b:Nat->List B0)(at_:Int)(pl:List Nat)(vals:List (List Int))(fB fD:Nat->Nat->Int)(y0:Bool)(r:Nat):List Int:=
 Y3 at_ (-1) (gt (z6 l at_ vals y0) (O2 a b pl fB fD y0 r:Int)) (L5 l (D4 a b pl fB fD y0 r).Steps)
def stW (l:List D0)(n:Nat)(a:List B0)(b:Nat->List B0)(pl:List Nat)(b_:Int)(y0:Bool):Int:=
 (z8 (X1 l b_) (P0 a b pl y0) n:Int)+(((Q1 l n a b pl b_ y0).length:Int)*Z2 l+((Q1 l n a b pl b_ y0).length:Int)*((Q1 l n a b pl b_ y0).length:Int))
def b0W {b_:Int}{y0:Bool}{r:Nat}(h:r∈Q1 l n a b pl b_ y0):r<n/\U3 (P0 a b pl y0) r (P0 a b pl y0).length≠[]:=⟨H0C h,(J0V h).2⟩
def w0M {b_:Int}{y0:Bool}:(Q1 l n a b pl b_ y0).length<=n:=t0m _ _ _
def j05 (K:Y2 l n a b e z F)(C:C4 l n pl vals fB fD)(b_:Int)(y0:Bool):r0O l n (H4 pl y0) ((Q1 l n a b pl b_ y0).map (O2 a b pl fB fD y0)) ((Q1 l n a b pl b_ y0).map (D4 a b pl fB fD y0)) where
 lt i hi:=by
  obtain⟨r,c,rfl⟩:=mem_map.1 hi;rw[<-b0d a b];exact c0F (b0W c).2
 len:=V'
 le:=by have:=w0M (l:=l) (n:=n) (a:=a) (b:=b) (pl:=pl) (b_:=b_) (y0:=y0);have:=K.T.n64;simp;omega
 hop x d:=by
  obtain⟨r,c,rfl⟩:=mem_map.1 d;have hm:=n03 (fB:=Q3 pl y0 fB) (fD:=I4 pl y0 fD) (b0W c).2;exact(h0D K C y0 _ (c0F (b0W c).2)).2.2.1 _ hm.1
 asc:=by
  rw[List.pairwise_map];refine(y0W _ _ _).imp_of_mem fun {x y} d h g=>?_;have h1:=(n03 (fB:=Q3 pl y0 fB) (fD:=I4 pl y0 fD) (b0W d).2).2;have f:=(n03 (fB:=Q3 pl y0 fB) (fD:=I4 pl y0 fD) (b0W h).2).2;unfold D4;rw[h1,f];omega
def m0i {V:List (List Int)}{m:Nat}(h:∀v∈V,v.length=(Z2 l).toNat)(hl:V.length=m){k:Nat}(hk:k<m):(gt V (k:Int)).length=(Z2 l).toNat/\C0 V (k:Int)=true:=
 ⟨h _ (mem_of_getElem? (X4 O')),R0 O' O'⟩
def q0A (K:Y2 l n a b e z F)(C:C4 l n pl vals fB fD)(hw:∀x∈l,V2 x)(b_:Int)(y0:Bool):
  C4 l n (Q1 l n a b pl b_ y0) ((Q1 l n a b pl b_ y0).map (O7 l a b at_ pl vals fB fD y0)) (b6 l (Q3 pl y0 fB) ((Q1 l n a b pl b_ y0).map (O2 a b pl fB fD y0)) ((Q1 l n a b pl b_ y0).map (D4 a b pl fB fD y0))) (M6 l (Q3 pl y0 fB) (I4 pl y0 fD) ((Q1 l n a b pl b_ y0).map (O2 a b pl fB fD y0)) ((Q1 l n a b pl b_ y0).map (D4 a b pl fB fD y0))) where
 len:=V'
 pln r c:=(b0W c).1
 asc:=y0W _ _ _
 row v hv:=by
  obtain⟨r,c,rfl⟩:=mem_map.1 hv;unfold O7;rw[q9];exact(m0i (u0l C y0) (u0O C y0) (by rw[<-b0d a b];exact c0F (b0W c).2)).1
 rk:=by
  have g:=j05 K C b_ y0;have:=u0R hw K.hR K.hn (i0z C y0) g.lt g.len g.hop g.asc;simpa using this
def t0H (K:Y2 l n a b e z F)(C:C4 l n pl vals fB fD)(b_:Int)(y0:Bool):0<=stW l n a b pl b_ y0/\stW l n a b pl b_ y0<=1000000/\(z8 (X1 l b_) (P0 a b pl y0) n:Int)<=200000/\0<=((Q1 l n a b pl b_ y0).length:Int)*Z2 l/\((Q1 l n a b pl b_ y0).length:Int)*Z2 l<=10000/\0<=((Q1 l n a b pl b_ y0).length:Int)*((Q1 l n a b pl b_ y0).length:Int)/\((Q1 l n a b pl b_ y0).length:Int)*((Q1 l n a b pl b_ y0).length:Int)<=160000:=by
 have hm:=C.le;have hn:=K.T.n64;have h1:=p0E (X1 l b_) (P0 a b pl y0) n;have c:(P0 a b pl y0).length<=401:=by rw[b0d];unfold H4;split<;>omega
 have f:n*(P0 a b pl y0).length<=400*401:=Nat.mul_le_mul hn c;have h:=w0M (l:=l) (n:=n) (a:=a) (b:=b) (pl:=pl) (b_:=b_) (y0:=y0);have d:=k7 l;unfold stW;generalize (Q1 l n a b pl b_ y0).length=p at *;have g:(p:Int)*Z2 l<=400*19:=Int.mul_le_mul O' d.2 O' O';have i:(p:Int)*(p:Int)<=400*400:=Int.mul_le_mul O' O' O' O';have k:0<=(p:Int)*Z2 l:=Int.mul_nonneg O' O';have j:0<=(p:Int)*(p:Int):=Int.mul_nonneg O' O';generalize (p:Int)*Z2 l=x at *;generalize (p:Int)*(p:Int)=y at *;refine⟨O',O',O',O',O',O',O'⟩
end
