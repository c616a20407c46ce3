/- P. Its conditions: none. -/
import Derived.Test.YtmhooikfkhjijaaGreatYG44
import Derived.Test.YtmhooikfkhjijaaGreatYG47
open Bool (false_eq_true and_eq_true or_eq_true)
open Nat (le_refl)
set_option linter.all false
namespace Go.Proofs.YtmhooikfkhjijaaGreat
open Go.V Go.RowKit Old Go.X
def i6 (N i j:Nat):Nat:=i*(N+1)+j
def p08 {N i j:Nat}(hi:i<=N)(c:j<=N):i6 N i j<(N+1)*(N+1):=by
 unfold i6;have h1:(i+1)*(N+1)<=(N+1)*(N+1):=Nat.mul_le_mul_right _ (by omega);rw[Nat.succ_mul]at h1;omega
def c0F (Can:List (List Bool))(N q:Nat)(f:Nat->Nat->Bool):Prop:=(gt Can (q:Int)).length=(N+1)*(N+1)/\∀i j:Nat,i<=j->j<=N->gt (gt Can (q:Int)) (i6 N i j:Int)=f i j
section
variable {F:Nat}
def u05 {N i j:Nat}(d:N<=64)(hi:i<=N)(c:j<=N):W ((W ((i:Int)*(W ((N:Int)+1))))+(j:Int))=(i6 N i j:Int):=by
 have h1:i*(N+1)<=64*65:=Nat.mul_le_mul (by omega) (by omega);rw[G3 (i:=N) (by omega)];have e:(i:Int)*((N+1:Nat):Int)=((i*(N+1):Nat):Int):=by simp
 rw[e,n3 (n:=((i*(N+1):Nat):Int)) (by omega) (by omega),n3 (by omega) (by omega)];unfold i6;omega
def t0W {Can:List (List Bool)}{N q i j:Nat}(g:q<Can.length)(hl:(gt Can (q:Int)).length=(N+1)*(N+1))(d:N<=64)(hi:i<=N)(c:j<=N):a7 F ⟨(N:Int),Can⟩ (q:Int) (i:Int) (j:Int)=some (gt (gt Can (q:Int)) (i6 N i j:Int)):=by
 have f:=p08 hi c;unfold a7;have h1:B0 Can (q:Int)=true:=R0 (by omega) (by omega);simp only[h1,if_true,u05 d hi c,R0 (l:=gt Can (q:Int)) (i:=(i6 N i j:Int)) (by omega) (by omega)]
def b0S {Can:List (List Bool)}{N q:Nat}{f:Nat->Nat->Bool}(h:c0F Can N q f)(k:q<Can.length)(g:N<=64){i j:Nat}(c:i<=j)(d:j<=N):a7 F ⟨(N:Int),Can⟩ (q:Int) (i:Int) (j:Int)=some (f i j):=by
 rw[t0W k h.1 g (by omega) d,h.2 i j c d]
def one_den {l:List C0}{w:List Int}(hw:∀x∈l,o3 x)(hb:∀x∈w,Z5 .u8 x)(q:w.length<=64)(hf:2000<F){Can:List (List Bool)}{lo:Nat}{s:Old.Tm}(d:Old.At l lo s)(hlen:s.top lo<Can.length)
  (f:∀lo' U,Old.At l lo' U->U.top lo'<s.top lo->c0F Can w.length (U.top lo') (den w U)) {i j:Nat} (o:i<=j) (C:j<=w.length)
  (r:(gt Can (s.top lo:Int)).length=(w.length+1)*(w.length+1)/\∀k:Nat,i<k->k<=j->gt (gt Can (s.top lo:Int)) (i6 w.length k j:Int)=den w s k j):
  g0H F l w ⟨(w.length:Int),Can⟩ (s.top lo:Int) (i:Int) (j:Int)=some (den w s i j):=by
 have hg:=d.D2;have b3:=d.len;have b4:=s.size_pos;have b1:s.top lo<l.length:=by unfold Old.Tm.top;omega
 have J:B0 l (s.top lo:Int)=true:=R0 (by omega) (by omega);have g:((i:Int)==(j:Int))=(i==j):=by rw[Bool.eq_iff_iff];simp only[beq_iff_eq];omega
 unfold g0H;rw[hg];simp only[J,if_true];cases s with
 |eps=>simp only[Old.Tm.node,beq_self_eq_true,if_true,g];rfl
 |leaf st=>
  simp only[q0,Old.Tm.node,show((2:Int)==1)=false from rfl,beq_self_eq_true,G3 (i:=i) (by omega)];have t:((j:Int)==((i+1:Nat):Int))=(j==i+1):=by rw[Bool.eq_iff_iff];simp only[beq_iff_eq];omega
  rw[t];show _=some (j==i+1&&(decide (i<w.length)&&hasB st (gt w (i:Int))));cases c:j==i+1 with
  |false=>simp only[q0,Bool.false_and]
  |true=>
   have b5:j=i+1:=by simpa using c
   have hi:i<w.length:=by omega
   have R:=hw _ (List.mem_of_getElem? d.top);have a1:st.length=4/\∀y∈st,Z5 .u64 y:=R.2.2.2.2;simp only[q0,R0 (l:=w) (i:=(i:Int)) (by omega) (by omega),(p0t F a1 (hb _ (gtm hi))).2,hi,Bool.true_and]
 |cat a b=>
  obtain⟨ha,u,_⟩:=(Old.At.bin (a:=a) (b:=b) rfl rfl).1 d;have I:=a.size_pos;have pb:=b.size_pos;have h:=f lo a ha (by unfold Old.Tm.top;simp only[Old.Tm.size];omega);have rb:=f (lo+a.size) b u (by unfold Old.Tm.top;simp only[Old.Tm.size];omega);have p:a.top lo<Can.length:=by unfold Old.Tm.top at hlen ⊢;simp only[Old.Tm.size]at hlen;omega
  have lb:b.top (lo+a.size)<Can.length:=by unfold Old.Tm.top at hlen ⊢;simp only[Old.Tm.size]at hlen;omega
  simp only[q0,Old.Tm.node,show((3:Int)==1)=false from rfl,show((3:Int)==2)=false from rfl,beq_self_eq_true];have v:=t0F (step:=i0M F l ⟨(w.length:Int),Can⟩ ((Old.Tm.cat a b).top lo:Int) (i:Int) (j:Int)) (lo:=i) (hi:=j+1) (fun k=>den w a i k&&den w b k j) (fun k k1 k2=>?_) ?_ (by omega) (fu:=F) (by omega)
  ·rw[v];show _=some ((List.range (j+1)).any fun k=>decide (i<=k)&&(den w a i k&&den w b k j));cases(List.range (j+1)).any fun k=>decide (i<=k)&&(den w a i k&&den w b k j)<;>rfl
  ·have h1:(k:Int)<=(j:Int):=by omega
   have e1:=b0S (F:=F) h p q k1 (by omega);have e2:=b0S (F:=F) rb lb q (show k<=j by omega) C;unfold i0M;rw[hg];simp only[q0,Old.Tm.node,h1,e1,e2,G3 (i:=k) (by omega)];cases den w a i k
   ·simp only[q0,Bool.false_and]
   ·simp only[if_true,G0,Bool.true_and];cases den w b k j<;>rfl
  ·have h1:¬((j+1:Nat):Int)<=(j:Int):=by omega
   unfold i0M;simp only[q0,h1]
 |alt a b=>
  obtain⟨ha,u,_⟩:=(Old.At.bin (a:=a) (b:=b) rfl rfl).1 d;have I:=a.size_pos;have pb:=b.size_pos;have h:=f lo a ha (by unfold Old.Tm.top;simp only[Old.Tm.size];omega);have rb:=f (lo+a.size) b u (by unfold Old.Tm.top;simp only[Old.Tm.size];omega);have p:a.top lo<Can.length:=by unfold Old.Tm.top at hlen ⊢;simp only[Old.Tm.size]at hlen;omega
  have lb:b.top (lo+a.size)<Can.length:=by unfold Old.Tm.top at hlen ⊢;simp only[Old.Tm.size]at hlen;omega
  simp only[q0,Old.Tm.node,show((4:Int)==1)=false from rfl,show((4:Int)==2)=false from rfl,show((4:Int)==3)=false from rfl,beq_self_eq_true,b0S (F:=F) h p q o C,b0S (F:=F) rb lb q o C];show _=some (den w a i j||den w b i j);cases den w a i j<;>rfl
 |star a=>
  obtain⟨ha,_⟩:=(Old.At.un (a:=a) rfl rfl).1 d;have I:=a.size_pos;have h:=f lo a ha (by unfold Old.Tm.top;simp only[Old.Tm.size];omega);have p:a.top lo<Can.length:=by unfold Old.Tm.top at hlen ⊢;simp only[Old.Tm.size]at hlen;omega
  simp only[q0,Old.Tm.node,show((5:Int)==1)=false from rfl,show((5:Int)==2)=false from rfl,show((5:Int)==3)=false from rfl,show((5:Int)==4)=false from rfl,beq_self_eq_true,g,G3 (i:=i) (by omega)];show _=some (K5 (den w a) i j);rw[f0k];cases c:i==j with
  |true=>rfl
  |false=>
   have b2:i≠j:=by simpa using c
   simp only[false_eq_true,if_false,Bool.false_or];have v:=t0F (step:=j09 F l ⟨(w.length:Int),Can⟩ ((Old.Tm.star a).top lo:Int) (i:Int) (j:Int)) (lo:=i+1) (hi:=j+1) (fun k=>den w a i k&&K5 (den w a) k j) (fun k k1 k2=>?_) ?_ (by omega) (fu:=F) (by omega)
   ·rw[v];have e:((List.range (j+1)).any fun k=>decide (i+1<=k)&&(den w a i k&&K5 (den w a) k j))=((List.range (j+1)).any fun k=>decide (i<k)&&(den w a i k&&K5 (den w a) k j)):=rfl;rw[e];cases(List.range (j+1)).any fun k=>decide (i<k)&&(den w a i k&&K5 (den w a) k j)<;>rfl
   ·have h1:(k:Int)<=(j:Int):=by omega
    have e1:=b0S (F:=F) h p q (show i<=k by omega) (by omega);have e2:a7 F ⟨(w.length:Int),Can⟩ ((Old.Tm.star a).top lo:Int) (k:Int) (j:Int)=some (K5 (den w a) k j):=by
     rw[t0W hlen r.1 q (by omega) C,r.2 k (by omega) (by omega)];rfl
    unfold j09;rw[hg];simp only[q0,Old.Tm.node,h1,e1,e2,G3 (i:=k) (by omega)];cases den w a i k
    ·simp only[q0,Bool.false_and]
    ·simp only[if_true,G0,Bool.true_and];cases K5 (den w a) k j<;>rfl
   ·have h1:¬((j+1:Nat):Int)<=(j:Int):=by omega
    unfold j09;simp only[q0,h1]
 |maybe a=>
  obtain⟨ha,_⟩:=(Old.At.un (a:=a) rfl rfl).1 d;have I:=a.size_pos;have h:=f lo a ha (by unfold Old.Tm.top;simp only[Old.Tm.size];omega);have p:a.top lo<Can.length:=by unfold Old.Tm.top at hlen ⊢;simp only[Old.Tm.size]at hlen;omega
  simp only[q0,Old.Tm.node,show((6:Int)==1)=false from rfl,show((6:Int)==2)=false from rfl,show((6:Int)==3)=false from rfl,show((6:Int)==4)=false from rfl,show((6:Int)==5)=false from rfl,beq_self_eq_true,g,b0S (F:=F) h p q o C];show _=some (i==j||den w a i j);cases i==j<;>rfl
 |group m a=>
  obtain⟨ha,_⟩:=(Old.At.un (a:=a) rfl rfl).1 d;have I:=a.size_pos;have h:=f lo a ha (by unfold Old.Tm.top;simp only[Old.Tm.size];omega);have p:a.top lo<Can.length:=by unfold Old.Tm.top at hlen ⊢;simp only[Old.Tm.size]at hlen;omega
  simp only[q0,Old.Tm.node,show((7:Int)==1)=false from rfl,show((7:Int)==2)=false from rfl,show((7:Int)==3)=false from rfl,show((7:Int)==4)=false from rfl,show((7:Int)==5)=false from rfl,show((7:Int)==6)=false from rfl,b0S (F:=F) h p q o C];rfl
 |iter a=>
  obtain⟨ha,_⟩:=(Old.At.un (a:=a) rfl rfl).1 d;have I:=a.size_pos;have h:=f lo a ha (by unfold Old.Tm.top;simp only[Old.Tm.size];omega);have p:a.top lo<Can.length:=by unfold Old.Tm.top at hlen ⊢;simp only[Old.Tm.size]at hlen;omega
  simp only[q0,Old.Tm.node,show((8:Int)==1)=false from rfl,show((8:Int)==2)=false from rfl,show((8:Int)==3)=false from rfl,show((8:Int)==4)=false from rfl,show((8:Int)==5)=false from rfl,show((8:Int)==6)=false from rfl,b0S (F:=F) h p q o C];rfl
end
def w0W (l:List C0):List Int:=(List.replicate (l5 l).toNat (-2)).set 0 (-1)
def D0Y (l:List C0)(maps:List (List Int))(beg:Bool):List (List Int):=maps++if beg then[w0W l]else[]
def stM (l:List C0)(a:List y0)(b:Nat->List y0)(pl:List Nat)(maps:List (List Int))(fB fD:Nat->Nat->Int)(beg:Bool)(r:Nat):List Int:=
 S6 (-1) (-2) (gt (D0Y l maps beg) (F4 a b pl fB fD beg r:Int)) (N4 l (K4 a b pl fB fD beg r).Steps)
section
variable {F:Nat}{l:List C0}{n:Nat}{a:List y0}{b:Nat->List y0}{e:Nat->y0×Bool}{z:y0×Bool}{pl:List Nat}{maps:List (List Int)}{fB fD:Nat->Nat->Int}{flag:Int}
set_option maxHeartbeats 2000000 in
end
def y0A (fB fD:Nat->Nat->Int)(c x:Nat):Bool:=x==c||(decide (fB x c>0)||decide (fD c x<0))
def m0J (fB fD:Nat->Nat->Int)(c k:Nat):List Nat:=(List.range k).filter (y0A fB fD c)
def D07 {fB fD:Nat->Nat->Int}{c k i:Nat}(h:i∈m0J fB fD c k):i<k:=List.mem_range.1 (List.mem_filter.1 h).1
def D0d (fB fD:Nat->Nat->Int)(c k:Nat):(m0J fB fD c k).Pairwise fun a b=>a<b:=List.Pairwise.filter _ List.pairwise_lt_range
section
variable {F:Nat}
end
section
variable {F:Nat}{l:List C0}{n:Nat}{a:List y0}{b:Nat->List y0}{e:Nat->y0×Bool}{z:y0×Bool}{pl:List Nat}{maps:List (List Int)}{fB fD:Nat->Nat->Int}{flag:Int}
structure Kd where
 flag:Int
 pl:List Nat
 maps:List (List Int)
 fB:Nat->Nat->Int
 fD:Nat->Nat->Int
def Kd.T (k:Kd):Int×List Int×List (List Int)×T3:=(k.flag,J2 k.pl,k.maps,D3 k.pl.length k.fB k.fD)
def Kd.of (k:Kd)(c:Int)(st:List Nat):Kd:=⟨c,st.map fun i=>k.pl.getD i 0,st.map fun i:Nat=>gt k.maps (i:Int),fun i j=>k.fB (st.getD i 0) (st.getD j 0),fun i j=>k.fD (st.getD i 0) (st.getD j 0)⟩
def Kd.cut (e:Nat->y0×Bool)(k:Kd):Kd:=
 if q9 k.fD (W7 e k.pl k.pl.length)<0 then k else k.of 0 (m0J k.fB k.fD (q9 k.fD (W7 e k.pl k.pl.length)).toNat k.pl.length)
def e0t {k:Kd}(C:F6 l n k.pl k.maps k.fB k.fD):F6 l n (k.cut e).pl (k.cut e).maps (k.cut e).fB (k.cut e).fD:=by
 unfold Kd.cut;split
 ·exact C
 ·exact F0s C (D0d _ _ _ _) (fun i h=>D07 h)
end
def C0E (s:List Int)(v:Int):List Int:=if v=-2\/v∈s then s else s++[v]
def E01 (s r:List Int):List Int:=r.foldl C0E s
def ren (s:List Int)(v:Int):Int:=if v=-2 then -2 else(s.idxOf v:Int)
section
variable {F:Nat}
def w07 (maps:List (List Int)):List Int:=E01 [] maps.flatten
def E0V (maps:List (List Int)):List (List Int):=maps.map fun r=>r.map (ren (w07 maps))
end
def G0B {o:List Int}{j:Nat}{x:Int}(h:1<=j):gt (o.set j x) 0=gt o 0:=by
 unfold gt;rw[List.getD_eq_getElem?_getD,List.getD_eq_getElem?_getD];have:(0:Int).toNat=0:=rfl;rw[this,List.getElem?_set_ne (by omega)]
def J03 (now none_:Int)(o:List Int)(m:G2):gt (o5 now none_ o m) 0=gt o 0:=by
 unfold o5;split
 ·rfl
 ·rename_i h;have h1:1<=m.Group:=by omega
  split
  ·exact G0B (by omega)
  ·split
   ·exact G0B (by omega)
   ·split
    ·rw[G0B (by omega),G0B (by omega)]
    ·rfl
def G0G (now none_:Int):∀(marks:List G2) (o:List Int),gt (S6 now none_ o marks) 0=gt o 0
 |[],o=>rfl
 |m :: r,o=>by
  have h:=G0G now none_ r (o5 now none_ o m);rw[J03]at h;exact h
def H04 (l:List C0)(at_:Int):gt (O7 l at_) 0=at_:=by
 have d:=f0m l;unfold O7;obtain⟨t,c⟩:∃t:Nat,(l5 l).toNat=t+1:=⟨(l5 l).toNat-1,by omega⟩
 rw[c];rfl
section
variable {F:Nat}{l:List C0}{n:Nat}{a:List y0}{b:Nat->List y0}{e:Nat->y0×Bool}{z:y0×Bool}
def I01 {at_:Int}{pl:List Nat}{vals:List (List Int)}{fB fD:Nat->Nat->Int}(C:F6 l n pl vals fB fD){beg:Bool}{b_:Int}{r:Nat}(f:r∈F1 l n a b pl b_ beg):
  (F4 a b pl fB fD beg r<pl.length/\gt (E9 l at_ vals beg) (F4 a b pl fB fD beg r:Int)=gt vals (F4 a b pl fB fD beg r:Int))\/(beg=true/\F4 a b pl fB fD beg r=pl.length/\gt (E9 l at_ vals beg) (F4 a b pl fB fD beg r:Int)=O7 l at_):=by
 have c:F4 a b pl fB fD beg r<A5 pl beg:=by rw[<-b0b a b];exact g0V (d0n f).2
 have d:=C.len
 by_cases h:F4 a b pl fB fD beg r<pl.length
 ·refine .inl ⟨h,?_⟩;unfold E9;exact b0u (by omega) (by omega)
 ·cases beg with
  |false=>unfold A5 at c;simp at c;exact absurd c h
  |true=>
   unfold A5 at c;simp only[if_true]at c;have e:F4 a b pl fB fD true r=pl.length:=by omega
   refine .inr ⟨rfl,e,?_⟩;rw[e];unfold E9;exact c08 d.symm
def L0f {at_:Int}{pl:List Nat}{vals:List (List Int)}{fB fD:Nat->Nat->Int}(C:F6 l n pl vals fB fD)(d:(e0c l e at_ pl vals fD).2=true):(e0c l e at_ pl vals fD).1.length=(l5 l).toNat/\∃v∈vals,gt (e0c l e at_ pl vals fD).1 0=gt v 0:=by
 unfold e0c at d ⊢
 by_cases c:q9 fD (W7 e pl pl.length)<0
 ·rw[if_pos c]at d;cases d
 ·rw[if_neg c];rcases o0f (fD:=fD) (W7 e pl pl.length) (n:=pl.length) (fun i h=>j0D h)with hb2|⟨k,hb2,hk⟩
  ·rw[hb2]at c;exact absurd (show(-1:Int)<0 by omega) c
  ·have hm:=gtm (l:=vals) (i:=k) (by rw[C.len];exact hk);rw[hb2];exact⟨by rw[h0s];exact C.row _ hm,_,hm,by rw[G0G]⟩
def J0L {at_:Int}(c:(U8 l z at_).2=true):(U8 l z at_).1.length=(l5 l).toNat/\gt (U8 l z at_).1 0=at_:=by
 unfold U8 at c ⊢
 by_cases d:z.2=true
 ·rw[if_pos d];exact⟨by rw[h0s,k0w],by rw[G0G,H04]⟩
 ·rw[if_neg d]at c;cases c
end
structure Hs where
 c:Cs
 tags:List Int
 to:Int
 is:Bool
section
variable (l:List C0)(n:Nat)(a:List y0)(b:Nat->List y0)(e:Nat->y0×Bool)(z:y0×Bool)
def Hs.zero:Hs:=⟨Cs.zero,(U8 l z 0).1,0,(U8 l z 0).2⟩
def Hs.R1 (h:Hs)(b_:Int):Cs:=h.c.step l n a b b_ (h.c.at_==0||!h.is)
def Hs.feed (h:Hs)(b_:Int):Hs:=
 if((h.R1 l n a b b_).K3 l e).2 then⟨(h.R1 l n a b b_).L1 (gt ((h.R1 l n a b b_).K3 l e).1 0),((h.R1 l n a b b_).K3 l e).1,(h.R1 l n a b b_).at_,true⟩
 else⟨h.R1 l n a b b_,h.tags,h.to,h.is⟩
def Hs.C (h:Hs):N3×List Int×Int×Bool:=(h.c.C l n a b e z,h.tags,h.to,h.is)
def Hs.H (h:Hs):e0w:=⟨h.c.C l n a b e z,h.tags,h.to,h.is⟩
def Hs.X (h:Hs):e0x:=⟨h.c.X l n a b e,h.tags,h.to,h.is⟩
end
def Hs.found (h:Hs):List G1×Bool:=if h.is then(a0x h.tags h.to,true)else([],false)
def Hs.over (h:Hs):Bool:=h.is&&(h.c.pl.length==0&&decide (h.c.at_>0))
structure f05 (l:List C0)(n:Nat)(h:Hs)(i:Nat):Prop where
 c:h0B l n h.c i
 t0:0<=h.to
 len:h.tags.length<=1000
 pos:∀v∈h.c.vals,0<=gt v 0
 is:h.is=true->h.tags.length=(l5 l).toNat/\0<=gt h.tags 0/\∀v∈h.c.vals,gt v 0<=gt h.tags 0
section
variable {F:Nat}{l:List C0}{n:Nat}{a:List y0}{b:Nat->List y0}{e:Nat->y0×Bool}{z:y0×Bool}
def I0M:f05 l n (Hs.zero l z) 0 where
 c:=y0F l n
 t0:=Int.le_refl _
 len:=B0Q
 pos:=by intro v h;cases h
 is:=fun h=>by
  obtain⟨h1,d⟩:=J0L (l:=l) (z:=z) (at_:=0) h;exact⟨h1,by show 0<=gt (U8 l z 0).1 0;omega,by intro v h;cases h⟩
def K0m (K:H5 l n a b e z F):e0B F l=some (.inr ((Hs.zero l z).C l n a b e z),0):=by
 unfold e0B;rw[x0i K.hR K.hn K.T K.f1 K.TF];have c:(⟨Y6 l n a b e z,0,0,[],[],⟨[],[]⟩⟩:N3)=B7 l n a b e z 0 0 [] [] (fun _ _=>0) (fun _ _=>0):=rfl;simp only[q0,show((0:Int) != 0)=false from rfl,c,x0K K];rfl
def L0I {h:Hs}{i:Nat}(d:f05 l n h i)(c:2000<F):F0V F (h.C l n a b e z)=some (h.found,h.C l n a b e z):=by
 unfold F0V Hs.C Hs.found;cases hi:h.is with
 |false=>simp only[q0]
 |true=>simp only[q0,B0A d.len c]
def L0F {h:Hs}{i:Nat}(c:f05 l n h i):h.found.1.length<=1000:=by
 unfold Hs.found;split
 ·exact B0O _ _ c.len
 ·simp
def O0V {h:Hs}{i:Nat}(d:f05 l n h i)(hn:n<=1000):M0m F (h.H l n a b e z)=some (h.c.pl.length:Int):=by
 have:=d.c.ok.le;unfold M0m M00 h0D Hs.H;have:I0 8 ([]:List Int) (J2 h.c.pl)=true:=by simp[I0];omega
 simp only[Cs.C,B7,this,if_true,G0,i0f]
def O0t (p:List Nat):(((p.length:Int))==0)=(p.length==0):=by rw[Bool.eq_iff_iff];simp
def P0l {h:Hs}{i:Nat}(d:f05 l n h i)(hn:n<=1000):M0s F (h.H l n a b e z)=some h.over:=by
 have f:=O0V (F:=F) (a:=a) (b:=b) (e:=e) (z:=z) d hn;unfold M0s Hs.over;rw[f];unfold Hs.H g0u;cases hi:h.is with
 |false=>simp only[q0,Bool.false_and]
 |true=>
  simp only[if_true,G0,O0t,Bool.true_and];cases hp:h.c.pl.length==0 with
  |false=>simp only[q0,Bool.false_and]
  |true=>simp only[if_true,Bool.true_and,Cs.C,B7,G0];rfl
def I0I (K:H5 l n a b e z F){s:Cs}{i:Nat}(h:h0B l n s i)(b_:Int)(beg:Bool):∀v∈(s.step l n a b b_ beg).vals,(∃u∈s.vals,gt v 0=gt u 0)\/(beg=true/\gt v 0=(i:Int)):=by
 intro v d;obtain⟨r,f,rfl⟩:=List.mem_map.1 d;unfold stV;rw[G0G];rcases I01 (at_:=s.at_) h.ok f with⟨h1,c⟩|⟨h1,_,c⟩
 ·rw[c];exact .inl ⟨_,gtm (by rw[h.ok.len];exact h1),rfl⟩
 ·rw[c,H04,h.a0];exact .inr ⟨h1,rfl⟩
def I0S {s:Cs}{from_:Int}(hl:s.vals.length=s.pl.length):∀v∈(s.L1 from_).vals,v∈s.vals/\gt v 0<=from_:=by
 intro v c;obtain⟨k,hk,rfl⟩:=List.mem_map.1 c;have d:=(List.mem_filter.1 hk).2;exact⟨gtm (by rw[hl];exact F0X hk),by simpa using d⟩
def N0D (K:H5 l n a b e z F)(hw:∀x∈l,o3 x){h:Hs}{i:Nat}(j:f05 l n h i)(hi:i<=100000){b_:Int}(hb:Z5 .u8 b_):
  f0U F (h.C l n a b e z) b_=some ((h.feed l n a b e b_).C l n a b e z)/\f05 l n (h.feed l n a b e b_) (i+1)/\
   ((h.feed l n a b e b_=⟨h.R1 l n a b b_,h.tags,h.to,h.is⟩/\((h.R1 l n a b b_).K3 l e).2=false)\/(((h.R1 l n a b b_).K3 l e).2=true/\(h.feed l n a b e b_).to=((i+1:Nat):Int)/\(h.feed l n a b e b_).is=true/\(h.is=true->gt (h.feed l n a b e b_).tags 0<=gt h.tags 0))):=by
 obtain⟨s1,r⟩:=r0c (e:=e) (z:=z) K hw j.c hi hb (h.c.at_==0||!h.is);have k:=I0I K j.c b_ (h.c.at_==0||!h.is);have b1:=C0B K r;have ha:g0u F (h.c.C l n a b e z)=some h.c.at_:=rfl;have y:g0u F ((h.R1 l n a b b_).C l n a b e z)=some (h.R1 l n a b b_).at_:=rfl;have U:(if h.c.at_==0 then some true else some (!h.is))=some (h.c.at_==0||!h.is):=by cases h.c.at_==0<;>rfl
 have f:∀v∈(h.R1 l n a b b_).vals,0<=gt v 0:=fun v I=>by
  rcases k v I with⟨u,hu,p⟩|⟨_,p⟩
  ·rw[p];exact j.pos u hu
  ·rw[p];omega
 have hle:h.is=true->∀v∈(h.R1 l n a b b_).vals,gt v 0<=gt h.tags 0:=fun d v I=>by
  obtain⟨_,i2,i3⟩:=j.is d;rcases k v I with⟨u,hu,p⟩|⟨hbeg,p⟩
  ·rw[p];exact i3 u hu
  ·rw[p];have h0:=j.c.a0;rw[d]at hbeg;have:h.c.at_=0:=by simpa using hbeg
   omega
 have R:(h.R1 l n a b b_).at_=((i+1:Nat):Int):=r.a0;cases g:((h.R1 l n a b b_).K3 l e).2 with
 |false=>
  have J:h.feed l n a b e b_=⟨h.R1 l n a b b_,h.tags,h.to,h.is⟩:=by unfold Hs.feed;rw[g];rfl
  rw[J];refine⟨?_,⟨r,j.t0,j.len,f,fun d=>?_⟩,.inl ⟨rfl,rfl⟩⟩
  ·unfold f0U Hs.C;simp only[ha,G0,U,s1];rw[show h.c.step l n a b b_ (h.c.at_==0||!h.is)=h.R1 l n a b b_ from rfl,show g0f F ((h.R1 l n a b b_).C l n a b e z)=some ((h.R1 l n a b b_).K3 l e)from b1];generalize hq:(h.R1 l n a b b_).K3 l e=q at g ⊢;obtain⟨q1,q2⟩:=q;simp only at g;subst g;rfl
  ·obtain⟨i1,i2,_⟩:=j.is d;exact⟨i1,i2,hle d⟩
 |true=>
  obtain⟨t1,v,v1,v2⟩:=L0f (e:=e) (at_:=(h.R1 l n a b b_).at_) r.ok g;have ht:=f0m l;obtain⟨k1,k3⟩:=O09 (e:=e) (z:=z) K r (gt ((h.R1 l n a b b_).K3 l e).1 0);have J:h.feed l n a b e b_=⟨(h.R1 l n a b b_).L1 (gt ((h.R1 l n a b b_).K3 l e).1 0),((h.R1 l n a b b_).K3 l e).1,(h.R1 l n a b b_).at_,true⟩:=by unfold Hs.feed;rw[g];rfl
  have w:((h.R1 l n a b b_).K3 l e).1.length=(l5 l).toNat:=t1;have t:gt ((h.R1 l n a b b_).K3 l e).1 0=gt v 0:=v2;have m:B0 ((h.R1 l n a b b_).K3 l e).1 0=true:=R0 (by omega) (by rw[w];omega);rw[J];have kf:=I0S (s:=h.R1 l n a b b_) (from_:=gt ((h.R1 l n a b b_).K3 l e).1 0) r.ok.len;refine⟨?_,⟨k3,?_,?_,?_,fun _=>⟨w,?_,fun u hu=>(kf u hu).2⟩⟩,.inr ⟨rfl,R,rfl,fun d=>?_⟩⟩
  ·unfold f0U Hs.C;simp only[ha,G0,U,s1];rw[show h.c.step l n a b b_ (h.c.at_==0||!h.is)=h.R1 l n a b b_ from rfl,show g0f F ((h.R1 l n a b b_).C l n a b e z)=some ((h.R1 l n a b b_).K3 l e)from b1];have o:h0l F ((h.R1 l n a b b_).C l n a b e z) (gt ((h.R1 l n a b b_).K3 l e).1 0)=_:=k1;generalize hq:(h.R1 l n a b b_).K3 l e=q at g m o ⊢;obtain⟨q1,q2⟩:=q;simp only at g m o;subst g;simp only[G0,if_true,m,y,o];rfl
  ·show 0<=(h.R1 l n a b b_).at_;omega
  ·show((h.R1 l n a b b_).K3 l e).1.length<=1000;omega
  ·intro u hu;exact f u (kf u hu).1
  ·show 0<=gt ((h.R1 l n a b b_).K3 l e).1 0;rw[t];exact f v v1
  ·show gt ((h.R1 l n a b b_).K3 l e).1 0<=gt h.tags 0;rw[t];exact hle d v v1
end
section
variable {F:Nat}{l:List C0}{n:Nat}{a:List y0}{b:Nat->List y0}{e:Nat->y0×Bool}{z:y0×Bool}
end
section
variable {F:Nat}{l:List C0}{n:Nat}{a:List y0}{b:Nat->List y0}{e:Nat->y0×Bool}{z:y0×Bool}
end
section
variable {vals:List (List Int)}{fD:Nat->Nat->Int}
end
section
variable {F:Nat}{l:List C0}{n:Nat}{a:List y0}{b:Nat->List y0}{e:Nat->y0×Bool}{z:y0×Bool}
def Kd.step (l:List C0)(n:Nat)(a:List y0)(b:Nat->List y0)(k:Kd)(b_:Int):Kd:=
 ⟨if k.flag==1 then 1 else 0,F1 l n a b k.pl b_ (!(k.flag==0)),(F1 l n a b k.pl b_ (!(k.flag==0))).map (stM l a b k.pl k.maps k.fB k.fD (!(k.flag==0))),
  P5 l (Y2 k.pl (!(k.flag==0)) k.fB) ((F1 l n a b k.pl b_ (!(k.flag==0))).map (F4 a b k.pl k.fB k.fD (!(k.flag==0)))) ((F1 l n a b k.pl b_ (!(k.flag==0))).map (K4 a b k.pl k.fB k.fD (!(k.flag==0)))),
  N6 l (Y2 k.pl (!(k.flag==0)) k.fB) (j4 k.pl (!(k.flag==0)) k.fD) ((F1 l n a b k.pl b_ (!(k.flag==0))).map (F4 a b k.pl k.fB k.fD (!(k.flag==0)))) ((F1 l n a b k.pl b_ (!(k.flag==0))).map (K4 a b k.pl k.fB k.fD (!(k.flag==0))))⟩
def Kd.num (k:Kd):Kd:=⟨k.flag,k.pl,E0V k.maps,k.fB,k.fD⟩
end
def n0B {σ τ:Type}{step:σ->Option (V0 σ τ)}(I:Nat->σ->Prop)(P:τ->Prop){n:Nat}(h:∀i s,i<n->I i s->(∃d,step s=some (.next d)/\I (i+1) d)\/∃r,step s=some (.done r)/\P r)(hd:∀s,I n s->∃r,step s=some (.done r)/\P r):
  ∀(k i:Nat) (s:σ) (fu:Nat),i+k=n->I i s->k<fu->∃r,iter step fu s=some r/\P r:=by
 intro k
 induction k with
 |zero=>
  intro i s fu hi f g;obtain⟨fu,rfl⟩:∃m,fu=m+1:=⟨fu-1,by omega⟩
  obtain⟨r,h1,c⟩:=hd s (by rw[<-show i=n by omega];exact f);exact⟨r,a0o h1,c⟩
 |succ k ih=>
  intro i s fu hi f g;obtain⟨fu,rfl⟩:∃m,fu=m+1:=⟨fu-1,by omega⟩
  rcases h i s (by omega) f with⟨d,h1,c⟩|⟨r,h1,c⟩
  ·rw[e0m h1];exact ih (i+1) d fu (by omega) c (by omega)
  ·exact⟨r,a0o h1,c⟩
section
variable {F:Nat}
end
def w0w {N i j c d:Nat}(k:j<=N)(g:d<=N)(h:i6 N i j=i6 N c d):i=c/\j=d:=by
 unfold i6 at h;have h1:(i*(N+1)+j) / (N+1)=i:=by rw[Nat.mul_comm,Nat.mul_add_div (by omega),Nat.div_eq_of_lt (by omega),Nat.add_zero]
 have f:(c*(N+1)+d) / (N+1)=c:=by rw[Nat.mul_comm,Nat.mul_add_div (by omega),Nat.div_eq_of_lt (by omega),Nat.add_zero]
 have e:i=c:=by rw[<-h1,<-f,h]
 subst e;exact⟨rfl,by omega⟩
def s0P {α:Type}[Inhabited α]{o:List α}{j m:Nat}{x:α}(h:j≠m):gt (o.set j x) (m:Int)=gt o (m:Int):=by
 unfold gt;rw[List.getD_eq_getElem?_getD,List.getD_eq_getElem?_getD,Int.toNat_natCast,List.getElem?_set_ne h]
structure a02 (l:List C0)(w:List Int)(Can:List (List Bool))(q:Nat)(ok:Nat->Nat->Prop):Prop where
 len:Can.length=q+1
 old:∀lo s,Old.At l lo s->s.top lo<q->c0F Can w.length (s.top lo) (den w s)
 row:(gt Can (q:Int)).length=(w.length+1)*(w.length+1)
 new:∀lo s,Old.At l lo s->s.top lo=q->∀i j:Nat,i<=j->j<=w.length->ok i j->gt (gt Can (q:Int)) (i6 w.length i j:Int)=den w s i j
def a02.mono {l:List C0}{w:List Int}{Can:List (List Bool)}{q:Nat}{ok c:Nat->Nat->Prop}(h:a02 l w Can q ok)(hk:∀i j,i<=j->j<=w.length->c i j->ok i j):a02 l w Can q c:=⟨h.len,h.old,h.row,fun lo s h1 k i j d f g=>h.new lo s h1 k i j d f (hk i j d f g)⟩
section
variable {F:Nat}
def z0V {l:List C0}{w:List Int}{t:Old.Tm}(ht:Old.O2 l t)(hw:∀x∈l,o3 x)(hb:∀x∈w,Z5 .u8 x)(hN:w.length<=64)(hf:2000<F){q:Nat}(hq:q<l.length){i:Nat}(hi:i<=w.length){y:List (List Bool)}(hy:a02 l w y q fun c _=>i<c):
  ∃y',iter (h0w F l w (q:Int) (w.length:Int) (i:Int)) F ((i:Int),y)=some y'/\a02 l w y' q fun c _=>i<=c:=by
 refine n0B (step:=h0w F l w (q:Int) (w.length:Int) (i:Int)) (fun j s=>s.1=(j:Int)/\i<=j/\a02 l w s.2 q fun c g=>i<c\/(c=i/\g<j)) (fun y'=>a02 l w y' q fun c _=>i<=c) (n:=w.length+1) (fun j s hj hI=>?_) (fun s hI=>?_) (w.length+1-i) i ((i:Int),y) F (by omega) ⟨rfl,le_refl _,hy.mono fun c g h1 p r=>by omega⟩ (by omega)
 ·obtain⟨s1,Can⟩:=s;obtain⟨I,J,T⟩:=hI;simp only at I T;subst I;have c1:(j:Int)<=(w.length:Int):=by omega
  have hlen:=T.len;have v:B0 Can (q:Int)=true:=R0 (by omega) (by omega)
  ·have m:∀lo s,Old.At l lo s->s.top lo=q->g0H F l w ⟨(w.length:Int),Can⟩ (q:Int) (i:Int) (j:Int)=some (den w s i j):=fun lo s h d=>by
    have:=one_den (F:=F) hw hb hN hf (Can:=Can) h (by omega) (fun lo' o h1 p=>T.old lo' o h1 (by omega)) J (by omega) (by rw[d];exact⟨T.row,fun k k1 k2=>T.new lo s h d k j k2 (by omega) (.inl k1)⟩);rw[d]at this;exact this
   obtain⟨lo,s,h,d⟩:=ht.node hq;have hv:=m lo s h d;have hc:=p08 hi (show j<=w.length by omega);refine .inl ⟨(((j+1:Nat):Int),Can.set q ((gt Can (q:Int)).set (i6 w.length i j) (den w s i j))),?_,rfl,by omega,⟨by simp[hlen],fun lo' o h1 p=>?_,?_,fun lo' o h1 p c g r h4 u=>?_⟩⟩
   ·have C:B0 (gt Can (q:Int)) (i6 w.length i j:Int)=true:=R0 (by omega) (by rw[T.row];omega);unfold h0w;simp only[q0,c1,v,hv,u05 hN hi (show j<=w.length by omega),C,Int.toNat_natCast,G3 (i:=j) (by omega)]
   ·have r:=T.old lo' o h1 p;have e:gt (Can.set q ((gt Can (q:Int)).set (i6 w.length i j) (den w s i j))) (o.top lo':Int)=gt Can (o.top lo':Int):=s0P (by omega);unfold c0F at r ⊢;rw[e];exact r
   ·have e:gt (Can.set q ((gt Can (q:Int)).set (i6 w.length i j) (den w s i j))) (q:Int)=(gt Can (q:Int)).set (i6 w.length i j) (den w s i j):=B4 (List.getElem?_set_self (by omega));show(gt (Can.set q ((gt Can (q:Int)).set (i6 w.length i j) (den w s i j))) (q:Int)).length=_;rw[e,List.length_set];exact T.row
   ·have e:gt (Can.set q ((gt Can (q:Int)).set (i6 w.length i j) (den w s i j))) (q:Int)=(gt Can (q:Int)).set (i6 w.length i j) (den w s i j):=B4 (List.getElem?_set_self (by omega));show gt (gt (Can.set q ((gt Can (q:Int)).set (i6 w.length i j) (den w s i j))) (q:Int)) (i6 w.length c g:Int)=_;rw[e]
    by_cases f:c=i/\g=j
    ·obtain⟨rfl,rfl⟩:=f;have U:=m lo' o h1 p;rw[hv]at U;rw[<-Option.some.inj U];exact B4 (List.getElem?_set_self (by rw[T.row];exact hc))
    ·have R:i6 w.length i j≠i6 w.length c g:=fun hh=>by
      have:=w0w (show j<=w.length by omega) h4 hh;exact f ⟨this.1.symm,this.2.symm⟩
     have e2:gt ((gt Can (q:Int)).set (i6 w.length i j) (den w s i j)) (i6 w.length c g:Int)=gt (gt Can (q:Int)) (i6 w.length c g:Int):=s0P R;rw[e2];refine T.new lo' o h1 p c g r h4 ?_;rcases u with u|⟨u,U⟩
     ·exact .inl u
     ·exact .inr ⟨u,by omega⟩
 ·obtain⟨s1,Can⟩:=s;obtain⟨I,_,T⟩:=hI;simp only at I T;subst I;have c1:¬((w.length+1:Nat):Int)<=(w.length:Int):=by omega
  unfold h0w;simp only[q0,c1];exact⟨_,rfl,T.mono fun c g h1 p r=>by omega⟩
def z0O {l:List C0}{w:List Int}{t:Old.Tm}(m:Old.O2 l t)(hw:∀x∈l,o3 x)(o:∀x∈w,Z5 .u8 x)(C:w.length<=64)(u:2000<F){q:Nat}(r:q<l.length){y:List (List Bool)}(v:a02 l w y q fun c _=>w.length<c):
  ∃y',iter (h0z F l w (q:Int) (w.length:Int)) F ((w.length:Int),y)=some y'/\a02 l w y' q fun _ _=>True:=by
 refine n0B (step:=h0z F l w (q:Int) (w.length:Int)) (fun d s=>s.1=(w.length:Int)-(d:Int)/\a02 l w s.2 q fun c _=>(w.length:Int)-(d:Int)<(c:Int)) (fun y'=>a02 l w y' q fun _ _=>True) (n:=w.length+1) (fun d s hd g=>?_) (fun s g=>?_) (w.length+1) 0 ((w.length:Int),y) F (by omega) ⟨by simp,v.mono fun c h h1 k j=>by omega⟩ (by omega)
 ·obtain⟨s1,Can⟩:=s;obtain⟨f,T⟩:=g;simp only at f T;obtain⟨i,hi⟩:∃i:Nat,(w.length:Int)-(d:Int)=i:=⟨w.length-d,by omega⟩
  rw[hi]at f T;subst f;obtain⟨y',g1,g2⟩:=z0V (F:=F) m hw o C u r (i:=i) (by omega) (T.mono fun c h h1 k j=>by omega);refine .inl ⟨((w.length:Int)-((d+1:Nat):Int),y'),?_,rfl,g2.mono fun c h h1 k j=>by omega⟩;have c1:(i:Int)>=0:=by omega
  have p:W ((i:Int)-1)=(w.length:Int)-((d+1:Nat):Int):=by rw[n3 (by omega) (by omega)];omega
  unfold h0z;simp only[q0,c1,g1,p]
 ·obtain⟨s1,Can⟩:=s;obtain⟨f,T⟩:=g;simp only at f T;subst f;have c1:¬(w.length:Int)-((w.length+1:Nat):Int)>=0:=by omega
  unfold h0z;simp only[q0,c1];exact⟨_,rfl,T.mono fun c h h1 k j=>by omega⟩
def w0G {l:List C0}{w:List Int}{t:Old.Tm}(y:Old.O2 l t)(hw:∀x∈l,o3 x)(hb:∀x∈w,Z5 .u8 x)(U:w.length<=64)(hf:2000<F):
  ∃Can,i0J F l w=some ⟨(w.length:Int),Can⟩/\Can.length=l.length/\∀lo s,Old.At l lo s->c0F Can w.length (s.top lo) (den w s):=by
 have I:=y.le;have J:=y.len;have hp:=n0B (step:=k0r F l w) (fun q s=>s.1=(q:Int)/\s.2.1=(w.length:Int)/\s.2.2.length=q/\∀lo d,Old.At l lo d->d.top lo<q->c0F s.2.2 w.length (d.top lo) (den w d))
  (fun r=>r.1=(w.length:Int)/\r.2.length=l.length/\∀lo d,Old.At l lo d->d.top lo<l.length->c0F r.2 w.length (d.top lo) (den w d)) (n:=l.length) (fun q s hq u=>?_) (fun s u=>?_) l.length 0 (0,((w.length:Int),[])) F (by omega) ⟨rfl,rfl,rfl,fun lo d _ h=>by omega⟩ (by omega)
 ·obtain⟨⟨N2,Can⟩,g1,g2,g3,g4⟩:=hp;simp only at g2 g3 g4;subst g2;refine⟨Can,?_,g3,fun lo s c=>g4 lo s c ?_⟩
  ·unfold i0J;rw[g1];rfl
  ·have:=c.len;have:=s.size_pos;unfold Old.Tm.top;omega
 ·obtain⟨s1,s2,Can⟩:=s;obtain⟨o,h1,f,m⟩:=u;simp only at o h1 f m;subst o;subst h1;have c1:(q:Int)<(l.length:Int):=by omega
  have hm:(w.length+1)*(w.length+1)<=65*65:=Nat.mul_le_mul (by omega) (by omega);have hW:W ((W ((w.length:Int)+1))*(W ((w.length:Int)+1)))=(((w.length+1)*(w.length+1):Nat):Int):=by
   rw[G3 (i:=w.length) (by omega)];have e:((w.length+1:Nat):Int)*((w.length+1:Nat):Int)=(((w.length+1)*(w.length+1):Nat):Int):=by simp
   rw[e,n3 (by omega) (by omega)]
  have v:V2 1 (((w.length+1)*(w.length+1):Nat):Int)=true:=by
   have p:∀M:Nat,M<=4225->V2 1 (M:Int)=true:=fun M hM=>by simp[V2];omega
   exact p _ hm
  have C:I0 24 Can [List.replicate ((w.length+1)*(w.length+1)) false]=true:=by simp[I0];omega
  have T0:a02 l w (Can++[List.replicate ((w.length+1)*(w.length+1)) false]) q fun R _=>w.length<R:=by
   refine⟨by simp[f],fun lo s c g=>?_,?_,fun lo s _ _ i j k p h6=>by omega⟩
   ·have k:=m lo s c g;unfold c0F at k ⊢;rw[b0u (by omega) (by omega)];exact k
   ·rw[c08 f.symm,List.length_replicate]
  obtain⟨y',g1,g2⟩:=z0O (F:=F) y hw hb U hf hq T0;refine .inl ⟨(((q+1:Nat):Int),((w.length:Int),y')),?_,rfl,rfl,g2.len,fun lo s c g=>?_⟩
  ·unfold k0r;simp only[q0,c1,hW,v,Int.toNat_natCast,C,g1,G3 (i:=q) (by omega)]
  ·by_cases e:s.top lo=q
   ·rw[e];exact⟨g2.row,fun i j k p=>g2.new lo s c e i j k p trivial⟩
   ·exact g2.old lo s c (by omega)
 ·obtain⟨s1,s2,Can⟩:=s;obtain⟨o,h1,f,m⟩:=u;simp only at o h1 f m;subst o;subst h1;have c1:¬(l.length:Int)<(l.length:Int):=by omega
  unfold k0r;simp only[q0,c1];exact⟨_,rfl,rfl,f,m⟩
end
def T5 (c:Nat->Bool):Nat->Nat
 |0=>0
 |k+1=>if c (k+1)then k+1 else T5 c k
def j0s {c:Nat->Bool}:∀{j k:Nat},k<=j->c k=true->c (T5 c j)=true/\k<=T5 c j/\T5 c j<=j
 |0,k,h,hc=>by
  have:k=0:=by omega
  subst this;exact⟨hc,le_refl _,le_refl _⟩
 |j+1,k,h,hc=>by
  unfold T5;cases e:c (j+1)with
  |true=>rw[if_pos rfl];exact⟨e,h,le_refl _⟩
  |false=>
   rw[if_neg (by simp)];have hk:k<=j:=by
    rcases Nat.lt_or_ge j k with d|d
    ·have:k=j+1:=by omega
     subst this;rw[e]at hc;cases hc
    ·exact d
   obtain⟨h1,d,f⟩:=j0s (j:=j) hk hc;exact⟨h1,d,by omega⟩
def n0k {step:Int->Option (V0 Int Int)}(c:Nat->Bool){lo:Nat}(d:c lo=true):∀(j:Nat),lo<=j->(∀k,lo<=k->k<=j->step (k:Int)=some (if c k then .done (k:Int)else .next ((k:Int)-1)))->∀fu,j<fu->iter step fu (j:Int)=some (T5 c j:Int)
 |0,h,hs,fu,hfu=>by
  obtain⟨fu,rfl⟩:∃m,fu=m+1:=⟨fu-1,by omega⟩
  have p:lo=0:=by omega
  subst p;have:=hs 0 (le_refl _) (le_refl _);rw[d]at this;exact a0o this
 |j+1,h,hs,fu,hfu=>by
  obtain⟨fu,rfl⟩:∃m,fu=m+1:=⟨fu-1,by omega⟩
  have h1:=hs (j+1) h (le_refl _);unfold T5;cases e:c (j+1)with
  |true=>
   rw[e]at h1;rw[a0o h1];rfl
  |false=>
   rw[e]at h1;have i:lo≠j+1:=fun g=>by rw[g]at d;rw[e]at d;cases d
   have o:((j+1:Nat):Int)-1=(j:Int):=by omega
   rw[e0m h1,o,n0k c d j (by omega) (fun k f q=>hs k f (by omega)) fu (by omega)];simp
def b0r (g:Nat->Nat->List Z1)(f:Nat->Nat->Bool):Nat->Nat->Nat->List Z1
 |0,_,_=>[]
 |n+1,i,j=>if i<j then g i (T5 (fun k=>f i k&&K5 f k j) j)++b0r g f n (T5 (fun k=>f i k&&K5 f k j) j) j else[]
def M3 (w:List Int):Old.Tm->Nat->Nat->Nat->Nat->List Z1
 |.eps,lo,deep,i,j=>[⟨(deep:Int),(Old.Tm.top .eps lo:Int),(i:Int),(j:Int)⟩]
 |.leaf s,lo,deep,i,j=>[⟨(deep:Int),(Old.Tm.top (.leaf s) lo:Int),(i:Int),(j:Int)⟩]
 |.cat a b,lo,deep,i,j=>(⟨(deep:Int),(Old.Tm.top (.cat a b) lo:Int),(i:Int),(j:Int)⟩:Z1) :: (M3 w a lo (deep+1) i (T5 (fun k=>den w a i k&&den w b k j) j)++M3 w b (lo+a.size) (deep+1) (T5 (fun k=>den w a i k&&den w b k j) j) j)
 |.alt a b,lo,deep,i,j=>(⟨(deep:Int),(Old.Tm.top (.alt a b) lo:Int),(i:Int),(j:Int)⟩:Z1) :: if den w a i j then M3 w a lo (deep+1) i j else M3 w b (lo+a.size) (deep+1) i j
 |.star a,lo,deep,i,j=>(⟨(deep:Int),(Old.Tm.top (.star a) lo:Int),(i:Int),(j:Int)⟩:Z1) :: b0r (fun i k=>M3 w a lo (deep+1) i k) (den w a) (j-i) i j
 |.maybe a,lo,deep,i,j=>(⟨(deep:Int),(Old.Tm.top (.maybe a) lo:Int),(i:Int),(j:Int)⟩:Z1) :: if i<j then M3 w a lo (deep+1) i j else[]
 |.group m a,lo,deep,i,j=>(⟨(deep:Int),(Old.Tm.top (.group m a) lo:Int),(i:Int),(j:Int)⟩:Z1) :: M3 w a lo (deep+1) i j
 |.iter a,lo,deep,i,j=>(⟨(deep:Int),(Old.Tm.top (.iter a) lo:Int),(i:Int),(j:Int)⟩:Z1) :: M3 w a lo (deep+1) i j
def d0k (w:List Int):∀(s:Old.Tm) (i j:Nat),den w s i j=true->i<=j
 |.eps,i,j,h=>by
            have:i=j:=by simpa[den]using h
            omega
 |.leaf st,i,j,h=>by
  simp only[den,and_eq_true,beq_iff_eq]at h;omega
 |.cat a b,i,j,h=>by
  simp only[den,List.any_eq_true,List.mem_range,and_eq_true,decide_eq_true_eq]at h;obtain⟨k,h1,c,_⟩:=h;omega
 |.alt a b,i,j,h=>by
  simp only[den,or_eq_true]at h;rcases h with h|h
  ·exact d0k w a i j h
  ·exact d0k w b i j h
 |.star a,i,j,h=>by
  simp only[den]at h;rw[f0k]at h;simp only[or_eq_true,beq_iff_eq,List.any_eq_true,List.mem_range,and_eq_true,decide_eq_true_eq]at h;rcases h with h|⟨k,h1,c,_⟩<;>omega
 |.maybe a,i,j,h=>by
  simp only[den,or_eq_true,beq_iff_eq]at h;rcases h with h|h
  ·omega
  ·exact d0k w a i j h
 |.group _ a,i,j,h=>d0k w a i j h
 |.iter a,i,j,h=>d0k w a i j h
