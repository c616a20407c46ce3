/- P. Its conditions: none. -/
import Derived.Test.YtbccffnofdnpoaaGreatAG24
import Derived.Test.YtbccffnofdnpoaaGreatAMd
import Derived.Test.YtbccffnofdnpoaaGreatAG33
open Bool (and_eq_true false_eq_true)
set_option linter.all false
namespace Go.Proofs.YtbccffnofdnpoaaGreat.Old
open Go.V Go.RowKit
def V2 (x:D0):Prop:=(J4 .i64) x.Kind/\(J4 .i64) x.A/\(J4 .i64) x.B/\(J4 .i64) x.N/\(x.Set.length=4/\∀y∈x.Set,J4 .u64 y)
def Z4:List Int:=[0,0,0,0]
inductive Tm where
 |eps|leaf (s:List Int)|cat (a b:Tm)|alt (a b:Tm)|star (a:Tm)|maybe (a:Tm)|group (n:Int) (a:Tm)|iter (a:Tm)
def Tm.size:Tm->Nat
 |.eps=>1|.leaf _=>1|.cat a b=>a.size+b.size+1|.alt a b=>a.size+b.size+1
 |.star a=>a.size+1|.maybe a=>a.size+1|.group _ a=>a.size+1|.iter a=>a.size+1
def Tm.size_pos (t:Tm):0<t.size:=by cases t<;>simp[Tm.size]
def Tm.top (t:Tm)(lo:Nat):Nat:=lo+t.size-1
def Tm.node (lo:Nat):Tm->D0
 |.eps=>⟨1,-1,-1,0,Z4⟩
 |.leaf s=>⟨2,-1,-1,0,s⟩
 |.cat a b=>⟨3,(a.top lo:Int),(b.top (lo+a.size):Int),0,Z4⟩
 |.alt a b=>⟨4,(a.top lo:Int),(b.top (lo+a.size):Int),0,Z4⟩
 |.star a=>⟨5,(a.top lo:Int),-1,0,Z4⟩
 |.maybe a=>⟨6,(a.top lo:Int),-1,0,Z4⟩
 |.group n a=>⟨7,(a.top lo:Int),-1,n,Z4⟩
 |.iter a=>⟨8,(a.top lo:Int),-1,0,Z4⟩
def Tm.flat (lo:Nat):Tm->List D0
 |.eps=>[Tm.node lo .eps]
 |.leaf s=>[Tm.node lo (.leaf s)]
 |.cat a b=>a.flat lo++b.flat (lo+a.size)++[Tm.node lo (.cat a b)]
 |.alt a b=>a.flat lo++b.flat (lo+a.size)++[Tm.node lo (.alt a b)]
 |.star a=>a.flat lo++[Tm.node lo (.star a)]
 |.maybe a=>a.flat lo++[Tm.node lo (.maybe a)]
 |.group n a=>a.flat lo++[Tm.node lo (.group n a)]
 |.iter a=>a.flat lo++[Tm.node lo (.iter a)]
theorem Tm.v8 (t:Tm):∀lo,(t.flat lo).length=t.size:=by
 induction t<;>intro lo<;>simp[Tm.flat,Tm.size, *]<;>omega
def B4 (l:List D0)(a:List Int)(i:Nat):Int:=
 let x:=gt l (i:Int)
 if x.Kind=1\/x.Kind=2 then(if x.A=-1/\x.B=-1 then(i:Int)else -1)
 else if x.Kind=3\/x.Kind=4 then(if x.B=(i:Int)-1/\0<=x.B/\0<=x.A/\x.A=gt a x.B-1 then gt a x.A else -1)
 else if x.Kind=5\/x.Kind=6\/x.Kind=7\/x.Kind=8 then(if x.B=-1/\0<=x.A/\x.A=(i:Int)-1 then gt a x.A else -1)
 else -1
def k0q (x:D0):Bool:=gt x.Set 0==0&&(gt x.Set 1==0&&(gt x.Set 2==0&&gt x.Set 3==0))
def a0b (x:D0):Bool:=(x.Kind==2||k0q x)&&(if x.Kind==7 then decide (1<=x.N)&&decide (x.N<=9)else x.N==0)
def c0K (x:D0)(B1:List D0):Bool:=x.Kind==7&&B1.any fun y=>y.Kind==7&&y.N==x.N
def a0h (l:List D0)(a i:Nat):List D0:=(l.drop a).take (i-a)
def D7 (l:List D0)(a:List Int)(i:Nat):Bool:=decide (0<=B4 l a i)&&a0b (gt l (i:Int))&&!c0K (gt l (i:Int)) (a0h l (B4 l a i).toNat i)
def N5 (l:List D0):Nat->Option (List Int)
 |0=>some []
 |i+1=>match N5 l i with
  |none=>none
  |some a=>if D7 l a i then some (a++[B4 l a i])else none
def Z0 (l:List D0):Nat->Nat
 |0=>0
 |i+1=>Z0 l i+if(gt l (i:Int)).Kind=2 then 1 else 0
def e07 (l:List D0):∀i,Z0 l i<=i
 |0=>Nat.le_refl _
 |i+1=>by have:=e07 l i;grind [Z0]
def S5 (l:List D0):List Int:=
 match N5 l l.length with
 |none=>[]
 |some a=>if l.length=0\/400<l.length\/64<Z0 l l.length\/gt a ((l.length:Int)-1)≠0 then[]else a
def N3 (l:List D0):Bool:=!(S5 l).isEmpty
structure g00 (a:List Int)(i:Nat):Prop where
 len:a.length=i
 rng:∀j:Nat,j<i->0<=gt a (j:Int)/\gt a (j:Int)<=j
def y0C {l:List D0}{a:List Int}{i:Nat}(h:g00 a i)(b:0<=B4 l a i):B4 l a i<=i:=by
 have d:∀z:Int,0<=z->z<i->gt a z<=z:=fun z h1 c=>by
  have:=(h.rng z.toNat O').2
  grind
 grind [B4]
def g00.snoc {l:List D0}{a:List Int}{i:Nat}(h:g00 a i)(b:0<=B4 l a i):g00 (a++[B4 l a i]) (i+1):=by
 refine⟨by simp[h.len],fun j c=>?_⟩
 by_cases e:j=i
 ·subst e;rw[c0Z h.len.symm]
  simp_all[y0C]
 ·rw[b0l O' (by rw[h.len];omega)];exact h.rng j O'
def d00 {l:List D0}:∀{i:Nat} {a:List Int},N5 l i=some a->g00 a i
 |0,a,h=>by simp[N5]at h;subst h;exact⟨rfl,fun j d=>O'⟩
 |i+1,a,h=>by
  simp only[N5]at h;split at h
  ·cases h
  ·rename_i b c;split at h
   ·rename_i hg;cases h;simp only[D7,and_eq_true,decide_eq_true_eq]at hg;exact(d00 c).snoc hg.1.1
   grind
def N0t {l:List D0}{a:List Int}{i:Nat}(fuel:Nat)(hi:i<l.length)(ha:g00 a i)(s:i<4611686018427387904):k0M fuel l a (i:Int)=some (B4 l a i):=by
 have g:C0 l (i:Int)=true:=R0 O' O';have q:W ((i:Int)-1)=(i:Int)-1:=J3 O' O';have r:∀z:Int,0<=z->z<i->gt a z<=z/\0<=gt a z:=fun z h1 j=>by
  have:=ha.rng z.toNat O'
  grind
 have hl:=ha.len;unfold k0M B4;simp only[g,if_true,q];generalize gt l (i:Int)=x;have d:∀z:Int,0<=z->z<i->C0 a z=true:=fun z h1 j=>R0 h1 O';have p:0<=x.B->x.B<i->W (gt a x.B-1)=gt a x.B-1:=fun h1 j=>J3 (by grind) (by grind);obtain⟨k,A,B,N,S⟩:=x
 by_cases c1:k=1\/k=2
 ·grind
 ·have n:((if(k==1)=true then some (k==1)else some (k==2)):Option Bool)=some false:=by
   simp_all
  simp only[q0,n,c1]
  by_cases c2:k=3\/k=4
  ·grind
  ·have m:((if(k==3)=true then some (k==3)else some (k==4)):Option Bool)=some false:=by
    simp_all
   simp only[q0,m,c2]
   by_cases c3:k=5\/k=6\/k=7\/k=8
   ·have o:((if(k==5)=true then some (k==5)else if(k==6)=true then some (k==6)else if(k==7)=true then some (k==7)else some (k==8)):Option Bool)=some true:=by rcases c3 with rfl|rfl|rfl|rfl<;>rfl
    simp only[o,F0,if_true,c3]
    by_cases c:B=-1
    ·by_cases h:0<=A
     ·by_cases b:A=(i:Int)-1
      ·have e:=d A h O';have f:(1:Int)<=(i:Int):=O'
       simp only[ge_iff_le,c,b,if_true,beq_self_eq_true]at *;simp[e,f]
      ·simp[c,h,b]
     ·simp[c,h]
    ·simp[c]
   simp_all
def G0i (fuel:Nat)(x:D0):o0k fuel x=some (a0b x):=by
 unfold o0k a0b k0q
 grind
def N0m (fuel:Nat)(x:D0)(B1:List D0)(d:B1.length<fuel)(hs:B1.length<4611686018427387904):l0S fuel x B1=some (c0K x B1):=by
 have key:∀k i,i+k=B1.length->iter (i0x fuel x B1) (k+1) (i:Int)=some (if(x.Kind==7&&(B1.drop i).any fun y=>y.Kind==7&&y.N==x.N)then .inl ()else .inr ()):=by
  intro k
  induction k with
  |zero=>
   simp[iter,i0x]
  |succ k ih=>
   intro i hi;have c:i<B1.length:=O'
   have a:C0 B1 (i:Int)=true:=R0 O' O';have hg:gt B1 (i:Int)=B1[i]:=P2 V';have hd:B1.drop i=B1[i] :: B1.drop (i+1):=List.drop_eq_getElem_cons c;have b:(i:Int)<(B1.length:Int):=O'
   have hs:i0x fuel x B1 (i:Int)=some (if x.Kind==7&&(B1[i].Kind==7&&B1[i].N==x.N)then .done (.inl ())else .next ((i+1:Nat):Int)):=by
    unfold i0x;simp only[b,decide_true,if_true,a,hg,K2 (show i<9223372036854775807 from O')];cases x.Kind==7<;>cases B1[i].Kind==7<;>cases B1[i].N==x.N<;>rfl
   grind [iter]
 unfold l0S;rw[show(0:Int)=((0:Nat):Int)from rfl,u0K (key B1.length 0 O') O']
 grind [c0K]
def p0y {l:List D0}{i:Nat}(h:N5 l i=none):∀k,N5 l (i+k)=none
 |0=>h
 |k+1=>by simp_all[Nat.add_assoc,N5,p0y]
def j0U (l:List D0):Unit⊕(List Int×Int):=match N5 l l.length with|none=>.inl ()|some b=>.inr (b,(Z0 l l.length:Int))
def I0S {l:List D0}{i:Nat}(h:N5 l i=none)(hi:i<=l.length):j0U l=.inl ():=by
 have:=p0y h (l.length-i);rw[show i+(l.length-i)=l.length from O']at this;simp[j0U,this]
def O0j {l:List D0}{a:Int}{i:Nat}(h:0<=a):U1 l a (i:Int)=a0h l a.toNat i:=by
 grind [U1,a0h]
def C0O {l:List D0}{a i:Nat}:(a0h l a i).length<=i:=by grind [a0h]
def L0H {l:List D0}{a:List Int}{i:Nat}{fuel:Nat}(h:N5 l i=some a)(hi:i<l.length)(hl:l.length<=400)(j:400<fuel):
  j0l fuel l (a,(Z0 l i:Int),(i:Int))=if D7 l a i then some (.next (a++[B4 l a i],(Z0 l (i+1):Int),((i+1:Nat):Int)))else some (.done (.inl ())):=by
 have ok:=d00 h;have d:C0 l (i:Int)=true:=R0 O' O';have f:=e07 l i;have h1:(i:Int)<(l.length:Int):=O'
 have g:W ((Z0 l i:Int)+1)=((Z0 l i+1:Nat):Int):=K2 O';have c:W ((i:Int)+1)=((i+1:Nat):Int):=K2 O';have b:∀x:Int,J0 8 a [x]=true:=fun x=>W4 (by rw[ok.len];simp;omega);unfold j0l;simp only[q0,h1,d,N0t fuel hi ok O',G0i,g,c,b]
 by_cases hn:B4 l a i<0
 ·have hg:D7 l a i=false:=by unfold D7;simp;intro;omega
  simp[hn,hg]
 ·have k:=y0C (l:=l) ok O';have e:b5 l (B4 l a i) (i:Int)=true:=by simp[b5];omega
  simp only[q0,hn,e,O0j (show 0<=B4 l a i from O')];have hs:(a0h l (B4 l a i).toNat i).length<=i:=C0O;rw[N0m fuel _ _ O' O'];have hg:D7 l a i=(a0b (gt l (i:Int))&&!c0K (gt l (i:Int)) (a0h l (B4 l a i).toNat i)):=by unfold D7;simp[show 0<=B4 l a i from O']
  rw[hg];generalize c0K (gt l (i:Int)) (a0h l (B4 l a i).toNat i)=ag;generalize a0b (gt l (i:Int))=fb
  by_cases hk:(gt l (i:Int)).Kind=2
  ·cases fb<;>cases ag<;>simp[hk,Z0]
  ·cases fb<;>cases ag<;>simp[hk,Z0]
def v0y {l:List D0}{fuel:Nat}(hl:l.length<=400)(b:400<fuel):∀(k i:Nat) (a:List Int),N5 l i=some a->i+k=l.length->∀m,k<m->iter (j0l fuel l) m (a,(Z0 l i:Int),(i:Int))=some (j0U l)
 |0,i,a,h,hi,m,hm=>by
  obtain⟨m,rfl⟩:∃q,m=q+1:=⟨m-1,O'⟩
  have:¬(i:Int)<(l.length:Int):=O'
  obtain rfl:i=l.length:=O'
  unfold iter j0l;simp[j0U,h]
 |k+1,i,a,h,hi,m,hm=>by
  obtain⟨m,rfl⟩:∃q,m=q+1:=⟨m-1,O'⟩
  unfold iter;rw[L0H h O' hl b]
  by_cases hg:D7 l a i=true
  ·rw[if_pos hg];exact v0y hl b k (i+1) _ (by simp only[N5,h,hg,if_true]) O' m O'
  ·rw[if_neg hg,I0S (i:=i+1) (by simp only[N5,h];simp[hg]) O']
def w05 (l:List D0){fuel:Nat}(h:401<fuel):c0b fuel l=some (S5 l):=by
 unfold c0b S5
 by_cases d:l.length=0
 ·grind
 ·by_cases i:400<l.length
  ·grind
  ·have c:¬(l.length:Int)>400:=O'
   have a:=v0y (l:=l) (fuel:=fuel) O' O' l.length 0 [] rfl O' fuel O';simp only[q0,beq_iff_eq,Int.natCast_eq_zero,d,c];rw[show(([]:List Int),(0:Int),(0:Int))=([],(Z0 l 0:Int),((0:Nat):Int))from rfl,a];simp only[F0,j0U];cases f:N5 l l.length with
   |none=>rfl
   |some b=>
    have ok:=d00 f;have hw:W ((l.length:Int)-1)=(l.length:Int)-1:=J3 O' O';have e:C0 b ((l.length:Int)-1)=true:=R0 O' (by rw[ok.len];omega);have g:l0M b=true:=by
     have:=ok.len;cases b with
     |nil=>grind
     |cons x y=>rfl
    grind
def d0t (l:List D0){fuel:Nat}(a:401<fuel):Q9 fuel l=some (N3 l):=by
 unfold Q9 N3;rw[w05 l a];cases S5 l<;>simp
def A0Y (fuel:Nat)(k:Int):k08 fuel k=some (decide (3<=k)&&decide (k<=8),k==3||k==4):=by
 grind [k08]
def or_some {b c:Bool}:(if b=true then some true else some c)=some (b||c):=by cases b<;>rfl
def n0u {b c:Bool}:(if b=true then some c else some false)=some (b&&c):=by cases b<;>rfl
def w01 (l:List D0)(fuel:Nat){i:Nat}(hi:i<l.length)(g:i<4611686018427387904):∀(k a:Nat),a+k=i->∀m,k<m->
  iter (g0N fuel l (i:Int)) m (a:Int)=some (if c0K (gt l (i:Int)) (a0h l a i)then .inl ()else .inr ())
 |0,a,ha,m,hm=>by
  obtain⟨m,rfl⟩:∃q,m=q+1:=⟨m-1,O'⟩
  obtain rfl:a=i:=O'
  unfold iter g0N;simp[c0K,a0h]
 |k+1,a,ha,m,hm=>by
  obtain⟨m,rfl⟩:∃q,m=q+1:=⟨m-1,O'⟩
  have c:a<l.length:=O'
  have d:C0 l (a:Int)=true:=R0 O' O';have e:(a:Int)<(i:Int):=O'
  have hg:gt l (a:Int)=l[a]:=P2 (by simp[c]);have b:a0h l a i=l[a] :: a0h l (a+1) i:=by
   unfold a0h;rw[List.drop_eq_getElem_cons c,show i-a=(i-(a+1))+1 from O',List.take_succ_cons]
  have f:=w01 l fuel hi g k (a+1) O' m O';have step:g0N fuel l (i:Int) (a:Int)=some (if((gt l (i:Int)).Kind==7&&(gt l (a:Int)).Kind==7)&&(gt l (a:Int)).N==(gt l (i:Int)).N then .done (.inl ())else .next ((a+1:Nat):Int)):=by
   unfold g0N;simp only[q0,e,d,K2 (show a<9223372036854775807 from O'),n0u];split<;>rfl
  unfold iter;rw[step,b];unfold c0K at f ⊢;rw[List.any_cons,<-hg];cases h1:(gt l (i:Int)).Kind==7<;>cases j:(gt l (a:Int)).Kind==7<;>cases h:(gt l (a:Int)).N==(gt l (i:Int)).N<;>simp_all
def H09 (x:D0):
  ((((decide (x.Kind<1)||decide (x.Kind>8))||(x.Kind != 2&&!((gt x.Set 0==0)&&((gt x.Set 1==0)&&((gt x.Set 2==0)&&(gt x.Set 3==0))))))||(x.Kind != 7&&x.N != 0))||(x.Kind==7&&(decide (x.N<1)||decide (x.N>9))))
  = (decide (x.Kind<1)||decide (x.Kind>8)||!a0b x):=by
 unfold a0b k0q;obtain⟨k,A,B,N,S⟩:=x;simp only;generalize ((gt S 0==0)&&((gt S 1==0)&&((gt S 2==0)&&(gt S 3==0))))=z
 by_cases h1:k<1
 ·simp[h1]
 ·by_cases b:k>8
  ·simp[b]
  ·by_cases a:k=2
   ·subst a;by_cases hn:N=0<;>simp[hn,bne]
   ·by_cases c:k=7
    ·subst c;cases z<;>by_cases f:N<1<;>by_cases g:N>9<;>simp[f,g]<;>omega
    ·have d:(k==2)=false:=by simpa using a
     have e:(k==7)=false:=by simpa using c
     cases z<;>by_cases hn:N=0<;>simp[h1,b,d,e,hn,bne]
def O0k {l:List D0}{a:List Int}{i:Nat}(h:¬(1<=(gt l (i:Int)).Kind/\(gt l (i:Int)).Kind<=8)):D7 l a i=false:=by
 have:B4 l a i=-1:=by
  unfold B4
  grind
 grind [D7]
def B0o {l:List D0}{a:List Int}{i:Nat}{fuel:Nat}(h:N5 l i=some a)(hi:i<l.length)(hl:l.length<2199023255552)(hf:l.length<fuel):
  h0L fuel l ((Z0 l i:Int),(i:Int),a++List.replicate (l.length-i) 0) =
   if D7 l a i then some (.next ((Z0 l (i+1):Int),((i+1:Nat):Int),a++[B4 l a i]++List.replicate (l.length-(i+1)) 0))else some (.done (.inl ())):=by
 have ok:=d00 h;have I:C0 l (i:Int)=true:=R0 O' O';have c4:=e07 l i;have h1:(i:Int)<(l.length:Int):=O'
 have hW:W ((Z0 l i:Int)+1)=((Z0 l i+1:Nat):Int):=K2 O';have b2:W ((i:Int)+1)=((i+1:Nat):Int):=K2 O';have U:W ((i:Int)-1)=(i:Int)-1:=J3 O' O';have hlen:(a++List.replicate (l.length-i) (0:Int)).length=l.length:=by simp[ok.len];omega
 have w:C0 (a++List.replicate (l.length-i) (0:Int)) (i:Int)=true:=R0 O' (by rw[hlen];omega);have p:List.replicate (l.length-i) (0:Int)=0 :: List.replicate (l.length-(i+1)) 0:=p0b hi 0;have t:∀(x y:Int) (m:List Int),(a++x :: m).set i y=a++y :: m:=fun x y m=>y0l ok.len.symm;have k:∀(x:Int) (m:List Int),gt (a++x :: m) (i:Int)=x:=fun x m=>c0Z ok.len.symm;have o:∀(z x:Int) (m:List Int),0<=z->z<i->gt (a++x :: m) z=gt a z:=fun z x m s C=>b0l s (by rw[ok.len];omega);have g:∀(z x:Int) (m:List Int),0<=z->z<=i->C0 (a++x :: m) z=true:=fun z x m s C=>R0 s (by simp[ok.len];omega);have hr:∀z:Int,0<=z->z<i->gt a z<=z/\0<=gt a z:=fun z h1 C=>by
  have:=ok.rng z.toNat O'
  rwa [show((z.toNat:Nat):Int)=z from O',and_comm]at this
 have tail:∀v:Int,0<=v->v<=i->B4 l a i=v->a0b (gt l (i:Int))=true->
   (Option.bind (iter (g0N fuel l (i:Int)) fuel v) fun z_=>match z_ with
    |.inl _=>(some (.done (.inl ())):Option (X0 (Int×Int×List Int) (Unit⊕(Int×List Int))))
    |.inr _=>some (.next ((Z0 l (i+1):Int),W ((i:Int)+1),a++v :: List.replicate (l.length-(i+1)) 0))) =
   if D7 l a i then some (.next ((Z0 l (i+1):Int),((i+1:Nat):Int),a++[v]++List.replicate (l.length-(i+1)) 0))else some (.done (.inl ())):=by
  intro v s C d f;obtain⟨q,rfl⟩:=Int.eq_ofNat_of_zero_le s;rw[w01 l fuel hi O' (i-q) q O' fuel O'];have hg:D7 l a i=!c0K (gt l (i:Int)) (a0h l q i):=by unfold D7;rw[d,f];simp
  rw[hg]
  by_cases hc:c0K (gt l (i:Int)) (a0h l q i)=true
  ·simp[hc]
  ·simp[hc,b2]
 unfold h0L;simp only[q0,h1,I,w,A0Y,or_some,n0u,H09];rw[p]
 by_cases hk:1<=(gt l (i:Int)).Kind/\(gt l (i:Int)).Kind<=8
 ·have a1:¬(gt l (i:Int)).Kind<1:=O'
  have b3:¬(gt l (i:Int)).Kind>8:=O'
  simp only[a1,b3,decide_false,Bool.false_or];cases f:a0b (gt l (i:Int))with
  |false=>
   have hg:D7 l a i=false:=by simp[D7,f]
   simp[hg]
  |true=>
   simp only[q0,Bool.false_and,Bool.true_and,Bool.or_false,Bool.false_or,Bool.or_true,Int.toNat_natCast,t,k,U];have b1:((if((gt l (i:Int)).Kind==2)=true then some (W ((Z0 l i:Int)+1))else some (Z0 l i:Int)):Option Int)=some ((Z0 l (i+1):Nat):Int):=by
    rw[hW]
    by_cases C:(gt l (i:Int)).Kind=2<;>simp[C,Z0]
   simp only[b1,F0];have bad:B4 l a i=-1->D7 l a i=false:=fun R=>by simp[D7,R]
   by_cases c1:(gt l (i:Int)).Kind=1\/(gt l (i:Int)).Kind=2
   ·have kA:(decide (3<=(gt l (i:Int)).Kind)&&decide ((gt l (i:Int)).Kind<=8))=false:=by rcases c1 with h|h<;>simp[h]
    have r:((gt l (i:Int)).Kind==3||(gt l (i:Int)).Kind==4)=false:=by rcases c1 with h|h<;>simp[h]
    have d:B4 l a i=if(gt l (i:Int)).A=-1/\(gt l (i:Int)).B=-1 then(i:Int)else -1:=by unfold B4;simp only;rw[if_pos c1]
    simp only[q0,kA,r,Bool.false_and,Bool.true_and,Bool.or_false,Bool.false_or,Bool.or_true]
    by_cases b:(gt l (i:Int)).A=-1
    ·by_cases e:(gt l (i:Int)).B=-1
     ·have c:B4 l a i=i:=by rw[d,if_pos ⟨b,e⟩]
      simp only[q0,b,e,bne_self_eq_false,Bool.false_and,Bool.true_and,Bool.or_false,Bool.false_or,Bool.or_true,g i i _ O' O',k];refine(tail i O' O' c f).trans ?_;rw[c]
     ·rw[bad (by rw[d,if_neg (fun h=>e h.2)])];simp[b,e]
    ·rw[bad (by rw[d,if_neg (fun h=>b h.1)])];simp[b]
   ·have kA:(decide (3<=(gt l (i:Int)).Kind)&&decide ((gt l (i:Int)).Kind<=8))=true:=by simp;omega
    simp only[q0,kA,Bool.false_and,Bool.true_and,Bool.or_false,Bool.false_or,Bool.or_true]
    by_cases c2:(gt l (i:Int)).Kind=3\/(gt l (i:Int)).Kind=4
    ·have r:((gt l (i:Int)).Kind==3||(gt l (i:Int)).Kind==4)=true:=by rcases c2 with h|h<;>simp[h]
     have d:B4 l a i=if(gt l (i:Int)).B=(i:Int)-1/\0<=(gt l (i:Int)).B/\0<=(gt l (i:Int)).A/\(gt l (i:Int)).A=gt a (gt l (i:Int)).B-1 then gt a (gt l (i:Int)).A else -1:=by unfold B4;simp only;rw[if_neg c1,if_pos c2]
     simp only[q0,r,Bool.false_and,Bool.true_and,Bool.or_false,Bool.false_or,Bool.or_true]
     by_cases e:(gt l (i:Int)).B=(i:Int)-1
     ·by_cases u:(i:Int)-1<0
      ·rw[bad (by rw[d,if_neg (fun h=>O')])];simp only[q0,e,bne_self_eq_false,Bool.false_and,Bool.true_and,Bool.or_false,Bool.false_or,Bool.or_true,u]
      ·have b4:=hr ((i:Int)-1) O' O';have J:W (gt a ((i:Int)-1)-1)=gt a ((i:Int)-1)-1:=J3 O' O';simp only[q0,e,bne_self_eq_false,Bool.false_and,Bool.true_and,Bool.or_false,Bool.false_or,Bool.or_true,u,g _ _ _ (show 0<=(i:Int)-1 from O') O',o _ _ _ (show 0<=(i:Int)-1 from O') O',J]
       by_cases b:(gt l (i:Int)).A=gt a ((i:Int)-1)-1
       ·by_cases j:gt a ((i:Int)-1)-1<0
        ·rw[bad (by rw[d,if_neg (fun h=>O')])];simp only[q0,b,bne_self_eq_false,Bool.false_and,Bool.true_and,Bool.or_false,Bool.false_or,Bool.or_true,j]
        ·have n:=hr (gt a ((i:Int)-1)-1) O' O';have c:B4 l a i=gt a (gt a ((i:Int)-1)-1):=by rw[d,e,if_pos ⟨rfl,O',O',b⟩,b]
         simp only[q0,b,bne_self_eq_false,Bool.false_and,Bool.true_and,Bool.or_false,Bool.false_or,Bool.or_true,j,g _ _ _ (show 0<=gt a ((i:Int)-1)-1 from O') O',g i _ _ O' O',o _ _ _ (show 0<=gt a ((i:Int)-1)-1 from O') O',k];refine(tail _ n.2 O' c f).trans ?_;rw[c]
       ·rw[bad (by rw[d,e,if_neg (fun h=>b h.2.2.2)])];simp[b]
     ·rw[bad (by rw[d,if_neg (fun h=>e h.1)])];simp[e]
    ·have c3:(gt l (i:Int)).Kind=5\/(gt l (i:Int)).Kind=6\/(gt l (i:Int)).Kind=7\/(gt l (i:Int)).Kind=8:=O'
     have r:((gt l (i:Int)).Kind==3||(gt l (i:Int)).Kind==4)=false:=by rcases c3 with h|h|h|h<;>simp[h]
     have d:B4 l a i=if(gt l (i:Int)).B=-1/\0<=(gt l (i:Int)).A/\(gt l (i:Int)).A=(i:Int)-1 then gt a (gt l (i:Int)).A else -1:=by unfold B4;simp only;rw[if_neg c1,if_neg c2,if_pos c3]
     simp only[q0,r,Bool.false_and,Bool.true_and,Bool.or_false,Bool.false_or,Bool.or_true]
     by_cases e:(gt l (i:Int)).B=-1
     ·simp only[q0,e,bne_self_eq_false,Bool.false_and,Bool.true_and,Bool.or_false,Bool.false_or,Bool.or_true]
      by_cases b:(gt l (i:Int)).A=(i:Int)-1
      ·by_cases j:(i:Int)-1<0
       ·rw[bad (by rw[d,if_neg (fun h=>O')])];simp only[q0,b,bne_self_eq_false,Bool.false_and,Bool.true_and,Bool.or_false,Bool.false_or,Bool.or_true,j]
       ·have n:=hr ((i:Int)-1) O' O';have c:B4 l a i=gt a ((i:Int)-1):=by rw[d,b,if_pos ⟨e,O',rfl⟩]
        simp only[q0,b,bne_self_eq_false,Bool.false_and,Bool.true_and,Bool.or_false,Bool.false_or,Bool.or_true,j,g _ _ _ (show 0<=(i:Int)-1 from O') O',g i _ _ O' O',o _ _ _ (show 0<=(i:Int)-1 from O') O',k];refine(tail _ n.2 O' c f).trans ?_;rw[c]
      ·rw[bad (by rw[d,if_neg (fun h=>b h.2.2)])];simp[b]
     ·rw[bad (by rw[d,if_neg (fun h=>e h.1)])];simp[e]
 ·rw[O0k hk];have:(decide ((gt l (i:Int)).Kind<1)||decide ((gt l (i:Int)).Kind>8)||!a0b (gt l (i:Int)))=true:=by
   by_cases h8:(gt l (i:Int)).Kind<1
   ·simp[h8]
   ·have:(gt l (i:Int)).Kind>8:=O'
    simp[this]
  simp[this]
def j0C (l:List D0):Unit⊕(Int×List Int):=match N5 l l.length with|none=>.inl ()|some b=>.inr ((Z0 l l.length:Int),b)
def J04 {l:List D0}{i:Nat}(h:N5 l i=none)(hi:i<=l.length):j0C l=.inl ():=by
 have:=p0y h (l.length-i);rw[show i+(l.length-i)=l.length from O']at this;simp[j0C,this]
def A0d {l:List D0}{fuel:Nat}(hl:l.length<2199023255552)(b:l.length<fuel):∀(k i:Nat) (a:List Int),N5 l i=some a->i+k=l.length->∀m,k<m->
  iter (h0L fuel l) m ((Z0 l i:Int),(i:Int),a++List.replicate (l.length-i) 0)=some (j0C l)
 |0,i,a,h,hi,m,hm=>by
  obtain⟨m,rfl⟩:∃q,m=q+1:=⟨m-1,O'⟩
  obtain rfl:i=l.length:=O'
  unfold iter h0L;simp[j0C,h]
 |k+1,i,a,h,hi,m,hm=>by
  obtain⟨m,rfl⟩:∃q,m=q+1:=⟨m-1,O'⟩
  unfold iter;rw[B0o h O' hl b]
  by_cases hg:D7 l a i=true
  ·rw[if_pos hg];exact A0d hl b k (i+1) _ (by simp only[N5,h,hg,if_true]) O' m O'
  ·rw[if_neg hg,J04 (i:=i+1) (by simp only[N5,h];simp[hg]) O']
def L0s (l:List D0){fuel:Nat}(hl:l.length*64<=140737488351232)(o:l.length+1<fuel):m06 fuel l=some (if l0M (S5 l)then .inr (S5 l)else .inl ()):=by
 have n0:l0M ([]:List Int)=false:=rfl;unfold m06 S5;have f:F4 8 (l.length:Int)=true:=by simp[F4];omega
 have j:=A0d (l:=l) (fuel:=fuel) O' O' l.length 0 [] rfl O' fuel O';simp only[f,if_true,Int.toNat_natCast];rw[show((0:Int),(0:Int),List.replicate l.length (0:Int))=((Z0 l 0:Int),((0:Nat):Int),[]++List.replicate (l.length-0) 0)from by simp[Z0],j];simp only[F0,j0C,or_some];cases m:N5 l l.length with
 |none=>rfl
 |some b=>
  have ok:=d00 m;have n:=e07 l l.length
  by_cases d:l.length=0
  ·simp[n0,d]
  ·by_cases e:400<l.length
   ·have a:(l.length:Int)>400:=O'
    simp[n0,d,e,a]
   ·have a:¬(l.length:Int)>400:=O'
    have hw:W ((l.length:Int)-1)=(l.length:Int)-1:=J3 O' O';have g:C0 b ((l.length:Int)-1)=true:=R0 O' (by rw[ok.len];omega);have h:l0M b=true:=by
     have:=ok.len;cases b with
     |nil=>simp at this;omega
     |cons x y=>rfl
    simp only[hw,g,if_true]
    by_cases i:64<Z0 l l.length
    ·have c:(Z0 l l.length:Int)>64:=O'
     simp[n0,d,e,a,i,c]
    ·have c:¬(Z0 l l.length:Int)>64:=O'
     by_cases k:gt b ((l.length:Int)-1)=0
     ·simp[n0,d,e,a,i,c,k,h]
     ·simp[n0,d,e,a,i,c,k]
def u0k (l:List D0){fuel:Nat}(hl:l.length*64<=140737488351232)(a:l.length+1<fuel):g0l fuel l=some (N3 l):=by
 unfold g0l N3;rw[L0s l hl a];cases h:S5 l<;>rfl
def At (l:List D0)(lo:Nat)(t:Tm):Prop:=(l.drop lo).take t.size=t.flat lo
def At.len {l:List D0}{lo:Nat}{t:Tm}(h:At l lo t):lo+t.size<=l.length:=by
 have:=congrArg List.length h;rw[Tm.v8,List.length_take,List.length_drop]at this;have:=t.size_pos;omega
def At.get {l:List D0}{lo:Nat}{t:Tm}(h:At l lo t){j:Nat}(a:j<t.size):l[lo+j]?=(t.flat lo)[j]?:=by
 rw[<-h,List.getElem?_take_of_lt a,List.getElem?_drop]
theorem Tm.L0g (t:Tm)(lo:Nat):(t.flat lo)[t.size-1]?=some (t.node lo):=by
 cases t<;>simp[Tm.flat,Tm.size,Tm.v8]
theorem At.top {l:List D0}{lo:Nat}{t:Tm}(h:At l lo t):l[t.top lo]?=some (t.node lo):=by
 have hp:=t.size_pos;have:=h.get (j:=t.size-1) O'
 grind [Tm.L0g,Tm.top]
def At.P5 {l:List D0}{lo:Nat}{t:Tm}(h:At l lo t):gt l (t.top lo:Int)=t.node lo:=P2 h.top
theorem At.of {l:List D0}{lo:Nat}{t:Tm}(hl:lo+t.size<=l.length)(h:∀j,j<t.size->l[lo+j]?=(t.flat lo)[j]?):At l lo t:=by
 apply List.ext_getElem?
 grind [Tm.v8]
def At.bin {l:List D0}{lo:Nat}{a b t:Tm}(hs:t.size=a.size+b.size+1)(d:t.flat lo=a.flat lo++b.flat (lo+a.size)++[t.node lo]):At l lo t↔At l lo a/\At l (lo+a.size) b/\l[lo+a.size+b.size]?=some (t.node lo):=by
 constructor
 ·intro h;have hl:=h.len;have e:=fun j c=>h.get (j:=j) c;rw[d]at e;refine⟨At.of O' fun j c=>?_,At.of O' fun j c=>?_,?_⟩
  ·grind [Tm.v8]
  ·rw[Nat.add_assoc,e (a.size+j) O',List.append_assoc,List.getElem?_append_right (by simp[Tm.v8]),Tm.v8,Nat.add_sub_cancel_left,List.getElem?_append_left (by grind [Tm.v8])]
  simp_all[Nat.add_assoc,Tm.v8]
 ·rintro⟨h1,f,i⟩
  have g:lo+a.size+b.size<l.length:=by
   grind
  refine At.of O' fun j c=>?_;rw[d];rcases Nat.lt_or_ge j a.size with ha|ha
  ·rw[List.append_assoc,List.getElem?_append_left (by grind [Tm.v8]),h1.get ha]
  ·rcases Nat.lt_or_ge j (a.size+b.size)with hb|hb
   ·rw[List.append_assoc,List.getElem?_append_right (by grind [Tm.v8]),Tm.v8,List.getElem?_append_left (by grind [Tm.v8]),<-f.get O']
    grind
   ·obtain rfl:j=a.size+b.size:=O'
    simp_all[Tm.v8,Nat.add_assoc]
def At.un {l:List D0}{lo:Nat}{a t:Tm}(hs:t.size=a.size+1)(c:t.flat lo=a.flat lo++[t.node lo]):At l lo t↔At l lo a/\l[lo+a.size]?=some (t.node lo):=by
 constructor
 ·intro h;have e:=fun j b=>h.get (j:=j) b
  grind [At.of,Tm.v8]
 ·rintro⟨h1,f⟩
  have d:lo+a.size<l.length:=by
   grind
  refine At.of O' fun j b=>?_;rw[c];rcases Nat.lt_or_ge j a.size with ha|ha
  ·rw[List.getElem?_append_left (by grind [Tm.v8]),h1.get ha]
  ·obtain rfl:j=a.size:=O'
   simp_all[Tm.v8]
def At.one {l:List D0}{lo:Nat}{t:Tm}(hs:t.size=1)(a:t.flat lo=[t.node lo]):At l lo t↔l[lo]?=some (t.node lo):=by
 constructor
 ·intro h;have:=h.get (j:=0) O'
  simp_all
 ·intro h;have hl:lo<l.length:=by
   grind
  refine At.of O' fun j b=>?_
  simp_all
def E00 (s:List Int):Prop:=s.length=4/\∀y∈s,J4 .u64 y
def Tm.ok:Tm->Prop
 |.eps=>True|.leaf s=>E00 s|.cat a b=>a.ok/\b.ok|.alt a b=>a.ok/\b.ok
 |.star a=>a.ok|.maybe a=>a.ok|.group n a=>1<=n/\n<=9/\a.ok|.iter a=>a.ok
def Tm.leaves:Tm->Nat
 |.eps=>0|.leaf _=>1|.cat a b=>a.leaves+b.leaves|.alt a b=>a.leaves+b.leaves
 |.star a=>a.leaves|.maybe a=>a.leaves|.group _ a=>a.leaves|.iter a=>a.leaves
def Tm.d08 (t:Tm):t.leaves<=t.size:=by induction t<;>simp[Tm.leaves,Tm.size]<;>omega
def St (l:List D0)(a:List Int):Nat->List Tm->Prop
 |i,[]=>i=0
 |i,t :: ts=>t.size<=i/\At l (i-t.size) t/\t.ok/\gt a ((i-1:Nat):Int)=((i-t.size:Nat):Int)/\Z0 l i=Z0 l (i-t.size)+t.leaves/\St l a (i-t.size) ts
def St.snoc {l:List D0}{a:List Int}{v:Int}:∀{ts:List Tm} {i:Nat},i<=a.length->St l a i ts->St l (a++[v]) i ts
 |[],_,_,h=>h
 |t :: ts,i,hi,⟨h1,h2,h3,h4,h5,h6⟩=>by
  have:=t.size_pos;exact⟨h1,h2,h3,by grind [b0l],h5,St.snoc O' h6⟩
def L0z {x:D0}(hw:V2 x)(h:k0q x=true):x.Set=Z4:=by
 have hl:=hw.2.2.2.2.1;simp only[k0q,and_eq_true,beq_iff_eq]at h;obtain⟨k,A,B,N,S⟩:=x;simp only at *
 match S,hl with
 |[s0,s1,s2,s3],_=>
  simp_all[gt,Z4]
def w04 {l:List D0}(hw:∀x∈l,V2 x):∀{i:Nat} {a:List Int},N5 l i=some a->i<=l.length->∃ts,St l a i ts
 |0,a,_,_=>⟨[],rfl⟩
 |i+1,a,h,hi=>by
  simp only[N5]at h;split at h
  ·cases h
  ·rename_i b hb;split at h
   ·rename_i hg;cases h;obtain⟨ts,m⟩:=w04 hw hb O';have ok:=d00 hb;simp only[D7,and_eq_true,decide_eq_true_eq]at hg;obtain⟨⟨h0,hf⟩,_⟩:=hg;have d:l[i]?=some (gt l (i:Int)):=by
     grind [P2]
    have u:V2 (gt l (i:Int)):=hw _ (List.mem_of_getElem? d);have b1:gt (b++[B4 l b i]) ((i:Nat):Int)=B4 l b i:=c0Z ok.len.symm;have r:St l (b++[B4 l b i]) i ts:=m.snoc (by rw[ok.len];omega);have n:Z0 l (i+1)=Z0 l i+if(gt l (i:Int)).Kind=2 then 1 else 0:=rfl;have mk:∀(t:Tm) (us:List Tm),t.size<=i+1->At l (i+1-t.size) t->t.ok->B4 l b i=((i+1-t.size:Nat):Int)->Z0 l (i+1)=Z0 l (i+1-t.size)+t.leaves->St l (b++[B4 l b i]) (i+1-t.size) us->∃ts,St l (b++[B4 l b i]) (i+1) ts:=
     fun t us h1 h2 h3 h4 h5 h6=>⟨t :: us,h1,h2,h3,by simp_all,h5,h6⟩
    generalize hx:gt l (i:Int)=x at *;have p:x.Kind≠2->x.Set=Z4:=fun h2=>L0z u (by simp_all[a0b]);have g:x.Kind≠7->x.N=0:=fun h7=>by simp_all[a0b]
    have j:B4 l b i=(if x.Kind=1\/x.Kind=2 then(if x.A=-1/\x.B=-1 then(i:Int)else -1)
      else if x.Kind=3\/x.Kind=4 then(if x.B=(i:Int)-1/\0<=x.B/\0<=x.A/\x.A=gt b x.B-1 then gt b x.A else -1)
      else if x.Kind=5\/x.Kind=6\/x.Kind=7\/x.Kind=8 then(if x.B=-1/\0<=x.A/\x.A=(i:Int)-1 then gt b x.A else -1)else -1):=by
     grind [B4]
    by_cases c1:x.Kind=1\/x.Kind=2
    ·rw[if_pos c1]at j
     by_cases q:x.A=-1/\x.B=-1
     ·rw[if_pos q]at j;rcases c1 with c1|c1
      ·have e:x=Tm.node i .eps:=by
        have:=p O';have:=g O';obtain⟨k,A,B,N,S⟩:=x;simp_all[Tm.node]
       exact mk .eps ts (by simp[Tm.size]) ((At.one rfl rfl).2 (by show l[i]?=some (Tm.node i .eps);rw[d,e])) trivial (by rw[j];simp[Tm.size]) (by rw[n,c1];simp[Tm.size,Tm.leaves]) (by simpa[Tm.size]using r)
      ·have e:x=Tm.node i (.leaf x.Set):=by
        have:=g O';obtain⟨k,A,B,N,S⟩:=x;simp only[Tm.node]at *;simp_all
       exact mk (.leaf x.Set) ts (by simp[Tm.size]) ((At.one rfl rfl).2 (by show l[i]?=some (Tm.node i (.leaf x.Set));rw[d];exact congrArg some e)) ⟨u.2.2.2.2.1,u.2.2.2.2.2⟩ (by rw[j];simp[Tm.size]) (by rw[n,c1];simp[Tm.size,Tm.leaves]) (by simpa[Tm.size]using r)
     omega
    ·rw[if_neg c1]at j
     by_cases c2:x.Kind=3\/x.Kind=4
     ·rw[if_pos c2]at j
      by_cases q:x.B=(i:Int)-1/\0<=x.B/\0<=x.A/\x.A=gt b x.B-1
      ·rw[if_pos q]at j;obtain⟨v,a1,U,R⟩:=q;cases ts with
       |nil=>have:i=0:=m;omega
       |cons tb ts=>
        obtain⟨p1,p2,p3,p4,p5,p6⟩:=m;have e1:gt b x.B=((i-tb.size:Nat):Int):=by rw[v,<-p4];congr 1;omega
        have I:x.A=((i-tb.size-1:Nat):Int):=O'
        cases ts with
        |nil=>have:i-tb.size=0:=p6;omega
        |cons ta ts=>
         obtain⟨q1,y,s,J,q5,C⟩:=p6;have hp:=ta.size_pos;have b2:=tb.size_pos;have z:B4 l b i=((i-tb.size-ta.size:Nat):Int):=by rw[j,I,J]
         have c:i+1-(ta.size+tb.size+1)=i-tb.size-ta.size:=O'
         have f:i-tb.size-ta.size+ta.size=i-tb.size:=O'
         have o:St l (b++[B4 l b i]) (i-tb.size-ta.size) ts:=St.snoc (by rw[ok.len];omega) C;rcases c2 with c2|c2
         ·have e:x=Tm.node (i-tb.size-ta.size) (.cat ta tb):=by
           have:=p O';have:=g O';obtain⟨k,A,B,N,S⟩:=x;simp only[Tm.node,Tm.top]at *;simp only[D0.mk.injEq];refine⟨c2,O',O',by assumption,by assumption⟩
          refine mk (.cat ta tb) ts (by simp[Tm.size];omega) ?_ ⟨s,p3⟩ (by simp only[Tm.size];omega) (by simp only[Tm.size,Tm.leaves,c,n,c2];simp;omega) (by simp only[Tm.size,c];exact o);simp only[Tm.size,c];exact(At.bin rfl rfl).2 ⟨y,by rw[f];exact p2,by rw[f,show i-tb.size+tb.size=i from O',d,e]⟩
         ·have e:x=Tm.node (i-tb.size-ta.size) (.alt ta tb):=by
           have:=p O';have:=g O';obtain⟨k,A,B,N,S⟩:=x;simp only[Tm.node,Tm.top]at *;simp only[D0.mk.injEq];refine⟨c2,O',O',by assumption,by assumption⟩
          refine mk (.alt ta tb) ts (by simp[Tm.size];omega) ?_ ⟨s,p3⟩ (by simp only[Tm.size];omega) (by simp only[Tm.size,Tm.leaves,c,n,c2];simp;omega) (by simp only[Tm.size,c];exact o);simp only[Tm.size,c];exact(At.bin rfl rfl).2 ⟨y,by rw[f];exact p2,by rw[f,show i-tb.size+tb.size=i from O',d,e]⟩
      ·rw[if_neg q]at j;omega
     ·rw[if_neg c2]at j
      by_cases c3:x.Kind=5\/x.Kind=6\/x.Kind=7\/x.Kind=8
      ·rw[if_pos c3]at j
       by_cases q:x.B=-1/\0<=x.A/\x.A=(i:Int)-1
       ·rw[if_pos q]at j;obtain⟨v,U,R⟩:=q;cases ts with
        |nil=>have:i=0:=m;omega
        |cons ta ts=>
         obtain⟨q1,y,s,J,q5,C⟩:=m;have hp:=ta.size_pos;have I:x.A=((i-1:Nat):Int):=O'
         have z:B4 l b i=((i-ta.size:Nat):Int):=by rw[j,I,J]
         have c:i+1-(ta.size+1)=i-ta.size:=O'
         have f:i-ta.size+ta.size=i:=O'
         have o:St l (b++[B4 l b i]) (i-ta.size) ts:=St.snoc (by rw[ok.len];omega) C;have fin:∀t:Tm,t.size=ta.size+1->t.leaves=ta.leaves->t.flat (i-ta.size)=ta.flat (i-ta.size)++[t.node (i-ta.size)]->t.ok->x=t.node (i-ta.size)->∃ts,St l (b++[B4 l b i]) (i+1) ts:=fun t s1 s2 s3 s4 e=>by
          refine mk t ts O' ?_ s4 O' (by rw[s1,c,s2,n,if_neg O'];omega) (by rw[s1,c];exact o);rw[s1,c];exact(At.un s1 s3).2 ⟨y,by rw[f,d,e]⟩
         have w:=p O';rcases c3 with c3|c3|c3|c3
         ·refine fin (.star ta) rfl rfl rfl s ?_;have:=g O';obtain⟨k,A,B,N,S⟩:=x;simp only[Tm.node,Tm.top]at *;simp only[D0.mk.injEq];refine⟨c3,O',v,by assumption,w⟩
         ·refine fin (.maybe ta) rfl rfl rfl s ?_;have:=g O';obtain⟨k,A,B,N,S⟩:=x;simp only[Tm.node,Tm.top]at *;simp only[D0.mk.injEq];refine⟨c3,O',v,by assumption,w⟩
         ·have hn:1<=x.N/\x.N<=9:=by simp only[a0b,c3,and_eq_true,beq_self_eq_true,if_true,decide_eq_true_eq]at hf;exact hf.2
          refine fin (.group x.N ta) rfl rfl rfl ⟨hn.1,hn.2,s⟩ ?_;obtain⟨k,A,B,N,S⟩:=x;simp only[Tm.node,Tm.top]at *;simp only[D0.mk.injEq];refine⟨c3,O',v,trivial,w⟩
         ·refine fin (.iter ta) rfl rfl rfl s ?_;have:=g O';obtain⟨k,A,B,N,S⟩:=x;simp only[Tm.node,Tm.top]at *;simp only[D0.mk.injEq];refine⟨c3,O',v,by assumption,w⟩
       ·rw[if_neg q]at j;omega
      ·rw[if_neg c3]at j;omega
   grind
structure K5 (l:List D0)(t:Tm):Prop where
 eq:l=t.flat 0
 at0:At l 0 t
 ok:t.ok
 len:l.length=t.size
 le:t.size<=400
 lv:t.leaves<=64
def c0v {l:List D0}(hw:∀x∈l,V2 x)(h:N3 l=true):∃t,K5 l t:=by
 unfold N3 S5 at h;cases d:N5 l l.length with
 |none=>simp_all
 |some a=>
  simp only[d]at h;split at h
  ·grind
  ·rename_i j;obtain⟨ts,b⟩:=w04 hw d (Nat.le_refl _);cases ts with
   |nil=>exact absurd (.inl b) j
   |cons t ts=>
    obtain⟨k,e,f,g,m,n⟩:=b;have i:gt a ((l.length:Int)-1)=0:=by
     omega
    rw[show((l.length-1:Nat):Int)=(l.length:Int)-1 from O',i]at g;have hs:t.size=l.length:=O'
    rw[hs,Nat.sub_self]at e;have c:l=t.flat 0:=by
     grind [At]
    exact⟨t,c,e,f,hs.symm,O',O'⟩
