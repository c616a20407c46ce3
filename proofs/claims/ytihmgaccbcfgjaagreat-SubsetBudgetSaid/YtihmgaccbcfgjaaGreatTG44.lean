/- P. Its conditions: none. -/
import Derived.Test.YtihmgaccbcfgjaaGreatTG43
open List (length_map take_succ ext_getElem getElem_set getElem_map getElem_range take_length mem_range flatMap_cons append_nil)
open Bool (false_eq_true)
set_option linter.all false
namespace Go.Proofs.YtihmgaccbcfgjaaGreat
open Go.V Go.RowKit Old
def D7 (R0:List C0)(n:Nat):Bool:=R0.any fun x=>x.Kind==7&&x.N==(n:Int)
def a0a (R0:List C0)(k:Nat):List Int:=((List.range k).filter (D7 R0)).map fun n:Nat=>(n:Int)
def t0G (R0:List C0):a0a R0 0=[]:=rfl
def P4 {α:Type}[Inhabited α]{l:List α}{i:Nat}(h:i<l.length):l[i]?=some (gt l (i:Int)):=by
 have:=h0D (V0 (l:=l) (i:=(i:Int)) O' O');simpa using this
def e0Y (R0:List C0):List Int:=a0a R0 10
def Gok (R0:List C0):Prop:=∀x∈R0,x.Kind=7->1<=x.N/\x.N<=9
def p05 (R0:List C0)(k:Nat):a0a R0 (k+1)=if D7 R0 k then a0a R0 k++[(k:Int)]else a0a R0 k:=by
 unfold a0a;rw[List.range_succ,List.filter_append,List.map_append];cases h:D7 R0 k<;>simp[h]
def o02 (R0:List C0)(k:Nat):(a0a R0 k).length<=k:=by
 unfold a0a;rw[length_map];exact Nat.le_trans (List.length_filter_le _ _) X'
def C0q {R0:List C0}(h:Gok R0):D7 R0 0=false:=by
 unfold D7;rw[List.any_eq_false];intro x d;simp;intro c f;have:=(h x d c).1;omega
def flags (R0:List C0):List Bool:=(List.range 10).map (D7 R0)
def A0r (R0:List C0){n:Nat}(h:n<10):gt (flags R0) (n:Int)=D7 R0 n:=by
 refine X2 ?_;simp[flags,h]
def x0s {R0:List C0}{i:Nat}(hi:i<R0.length)(hk:Gok R0):flags (R0.take (i+1))=if(gt R0 (i:Int)).Kind==7 then(flags (R0.take i)).set (gt R0 (i:Int)).N.toNat true else flags (R0.take i):=by
 have f:R0[i]?=some (gt R0 (i:Int)):=P4 hi;have d:R0.take (i+1)=R0.take i++[gt R0 (i:Int)]:=by rw[take_succ,f];rfl
 have hm:=hk _ (List.mem_of_getElem? f);generalize gt R0 (i:Int)=x at *;cases c:x.Kind==7
 ·simp only[if_false,false_eq_true];unfold flags;refine List.map_congr_left fun n _=>?_;simp[D7,d,c]
 ·simp only[if_true];have hm:=hm (by simpa using c);refine ext_getElem (by simp[flags]) fun n h1 g=>?_;simp only[flags,length_map,List.length_range]at h1;rw[getElem_set];simp only[flags,getElem_map,getElem_range];rw[show D7 (R0.take (i+1)) n=(D7 (R0.take i) n||(x.N==(n:Int)))from by simp[D7,d,c]];split
  ·rename_i e;have:x.N=(n:Int):=O'
   simp[this]
  ·rename_i e;have:(x.N==(n:Int))=false:=by simp;omega
   simp[this]
section
variable {F:Nat}
def E01 {l:List C0}{q:Int}{low:List Int}{R0:List C0}(hs:G1 l (gt low q) (W (q+1))=R0)(hk:Gok R0)(hl:R0.length<=400)(j:401<F):
  iter (h07 F l q low (R0.length:Int)) F (0,[false,false,false,false,false,false,false,false,false,false])=some (flags R0):=by
 have g:flags (R0.take 0)=[false,false,false,false,false,false,false,false,false,false]:=by simp[flags,D7];decide
 rw[<-g];have:=H3 (step:=h07 F l q low (R0.length:Int)) (fun i=>((i:Int),flags (R0.take i))) (flags R0) R0.length (fun i hi=>.inl ?_) ?_ R0.length 0 F O' O'
 ·exact this
 ·unfold h07;have h1:(i:Int)<(R0.length:Int):=O'
  have c:y0 R0 (i:Int)=true:=V0 O' O';have hm:=hk _ (List.mem_of_getElem? (h0D c));have h:W ((i:Int)+1)=((i+1:Nat):Int):=by rw[E3 O' O'];omega
  simp only[hs,h1,decide_true,if_true,c,h];rw[x0s hi hk];cases d:(gt R0 (i:Int)).Kind==7
  ·simp only[q0]
  ·have hm:=hm (by simpa using d);have f:(decide (0<=(gt R0 (i:Int)).N)&&decide ((gt R0 (i:Int)).N<10))=true:=by simp;omega
   simp only[if_true,f,G0]
 ·unfold h07;have h1:¬((R0.length:Int)<(R0.length:Int)):=O'
  simp only[q0,h1,take_length]
def G0G {R0:List C0}(g:401<F):iter (h0d F (flags R0)) F ([],0)=some (e0Y R0):=by
 have:=H3 (step:=h0d F (flags R0)) (fun i=>(a0a R0 i,(i:Int))) (e0Y R0) 10 (fun i hi=>.inl ?_) ?_ 10 0 F O' O'
 ·rw[t0G]at this;exact this
 ·unfold h0d;have h1:(i:Int)<10:=O'
  have f:(0:Int)<=(i:Int):=O'
  have d:W ((i:Int)+1)=((i+1:Nat):Int):=by rw[E3 O' O'];omega
  have c:K0 8 (a0a R0 i) [(i:Int)]=true:=by have:=o02 R0 i;simp[K0];omega
  simp only[h1,f,decide_true,if_true,Bool.and_self,A0r R0 hi,d,c];rw[p05];cases D7 R0 i<;>simp only[q0]
 ·unfold h0d;simp[e0Y]
def D0y {l:List C0}{q lo:Nat}(k:q<l.length)(hl:l.length<=400)(g:lo<=q)(n:Nat)(m:401<F):
  iter (h09 F l (q:Int) (n:Int)) F (false,(lo:Int))=some (D7 (G1 l (lo:Int) ((q+1:Nat):Int)) n):=by
 have c:G1 l (lo:Int) ((q+1:Nat):Int)=(l.drop lo).take (q+1-lo):=by unfold G1;congr 1;omega
 have:=H3 (step:=h09 F l (q:Int) (n:Int)) (fun i=>(D7 ((l.drop lo).take i) n,((lo+i:Nat):Int))) (D7 (G1 l (lo:Int) ((q+1:Nat):Int)) n) (q+1-lo) (fun i hi=>.inl ?_) ?_ (q+1-lo) 0 F O' O'
 ·exact this
 ·unfold h09;have h1:((lo+i:Nat):Int)<=(q:Int):=O'
  have d:y0 l ((lo+i:Nat):Int)=true:=V0 O' O';have j:(l.drop lo)[i]?=some (gt l ((lo+i:Nat):Int)):=by rw[List.getElem?_drop];exact P4 O'
  have h:(l.drop lo).take (i+1)=(l.drop lo).take i++[gt l ((lo+i:Nat):Int)]:=by rw[take_succ,j];rfl
  have f:W (((lo+i:Nat):Int)+1)=((lo+(i+1):Nat):Int):=by rw[E3 O' O'];omega
  have hg:D7 ((l.drop lo).take (i+1)) n=(D7 ((l.drop lo).take i) n||((gt l ((lo+i:Nat):Int)).Kind==7&&(gt l ((lo+i:Nat):Int)).N==(n:Int))):=by simp[D7,h]
  rw[hg];simp only[h1,decide_true,if_true,d,f,I8];cases D7 ((l.drop lo).take i) n<;>cases(gt l ((lo+i:Nat):Int)).Kind==7<;>simp[G0]
 ·unfold h09;have h1:¬(((lo+(q+1-lo):Nat):Int)<=(q:Int)):=O'
  simp only[q0,h1,c]
def z0t {l:List C0}{q lo:Nat}{low:List Int}(j:q<l.length)(hl:l.length<=400)(f:lo<=q)(g:y0 low (q:Int)=true)(hg:gt low (q:Int)=(lo:Int))(hk:Gok (G1 l (lo:Int) ((q+1:Nat):Int)))(h:401<F):
  iter (h0O F l (q:Int) low) F ([],1)=some (e0Y (G1 l (lo:Int) ((q+1:Nat):Int))):=by
 generalize c:G1 l (lo:Int) ((q+1:Nat):Int)=R0 at *;have k:a0a R0 1=[]:=by rw[p05,C0q hk,t0G];simp
 rw[<-k];have:=H3 (step:=h0O F l (q:Int) low) (fun i=>(a0a R0 (i+1),((i+1:Nat):Int))) (e0Y R0) 9 (fun i hi=>.inl ?_) ?_ 9 0 F O' O'
 ·exact this
 ·unfold h0O;have h1:((i+1:Nat):Int)<=9:=O'
  have m:W (((i+1:Nat):Int)+1)=((i+1+1:Nat):Int):=by rw[E3 O' O'];omega
  have d:K0 8 (a0a R0 (i+1)) [((i+1:Nat):Int)]=true:=by have:=o02 R0 (i+1);simp[K0];omega
  have hi:=D0y (F:=F) j hl f (i+1) h;rw[c]at hi;simp only[q0,h1,g,hg,hi,m,d];rw[p05 R0 (i+1)];cases D7 R0 (i+1)<;>simp only[q0]
 ·unfold h0O;simp[e0Y]
def z0V {l:List C0}:∀{i:Nat} {a:List Int},R4 l i=some a->∀j:Nat,j<i->R9 (gt l (j:Int))=true:=by
 intro i
 induction i with
 |zero=>intro a _ j c;omega
 |succ i ih=>
  intro a h j c;unfold R4 at h;cases e:R4 l i with
  |none=>rw[e]at h;cases h
  |some b=>
   rw[e]at h;dsimp only at h;split at h
   ·rename_i hg;rcases Nat.lt_or_ge j i with h1|h1
    ·exact ih e j h1
    ·obtain rfl:j=i:=O'
     simp only[Z6,Bool.and_eq_true]at hg;exact hg.1.2
   ·cases h
structure s0y (l:List C0):Prop where
 ne:K4 l≠[]
 len:(K4 l).length=l.length
 rng:∀j:Nat,j<l.length->0<=gt (K4 l) (j:Int)/\gt (K4 l) (j:Int)<=j
 grp:∀x∈l,x.Kind=7->1<=x.N/\x.N<=9
 pos:0<l.length
 le:l.length<=400
def e06 {l:List C0}(hR:L2 l=true):s0y l:=by
 have d:K4 l≠[]:=by intro e;simp[L2,e]at hR
 have h:=d;unfold K4 at h;cases e:R4 l l.length with
 |none=>rw[e]at h;exact absurd rfl h
 |some a=>
  have c:=c07 e;rw[e]at h;dsimp only at h;split at h
  ·exact absurd rfl h
  ·rename_i hn;have i:K4 l=a:=by unfold K4;rw[e];dsimp only;rw[if_neg hn]
   refine⟨d,by rw[i];exact c.len,fun j f=>by rw[i];exact c.rng j f,fun x m k=>?_,O',O'⟩;obtain⟨j,f,rfl⟩:=List.getElem_of_mem m;have g:=z0V e j f;have hg:gt l (j:Int)=l[j]:=X2 (List.getElem?_eq_getElem f);rw[hg]at g;simp[R9,k]at g;exact g.2
def B9 (l:List C0)(q:Int):List Int:=if q<0\/(l.length:Int)<=q then[]else e0Y (G1 l (gt (K4 l) q) (q+1))
def r0n {l:List C0}(c:401<F):I9 F l=some (K4 l):=s9 v0d (Old.q08 l c)
def D0M {l:List C0}(hR:L2 l=true)(hl:l.length*64<=140737488351232)(d:l.length+1<F):o0X F l=some (K4 l):=by
 obtain⟨b,h1,c⟩:=(q0T (F:=F) (l:=l)).run _ (Old.u0g l hl d);unfold o0X;rw[h1];cases b with
 |inl u=>exact absurd c (e06 hR).ne
 |inr y=>rw[c.1];rfl
def t0L {l:List C0}(h:s0y l)(a b:Int):Gok (G1 l a b):=fun x d c=>h.grp x (List.mem_of_mem_drop (List.mem_of_mem_take d)) c
def t0b {l:List C0}(hR:L2 l=true)(q:Int)(g:401<F):i0x F l q=some (B9 l q):=by
 have h:=e06 hR;have i:=h.le;have hlen:=h.len;unfold i0x B9;rw[r0n g];simp only[G0,hlen]
 by_cases f:q<0
 ·simp[f]
 ·by_cases h1:(l.length:Int)<=q
  ·have:q>=(l.length:Int):=h1;simp[f,this]
  ·obtain⟨n,rfl⟩:∃n:Nat,q=n:=⟨q.toNat,O'⟩
   have hn:n<l.length:=O'
   have m:=h.rng n hn;have j:W ((n:Int)+1)=(n:Int)+1:=E3 O' O';have k:¬((n:Int)>=(l.length:Int)):=h1;have c:P3 l (gt (K4 l) (n:Int)) ((n:Int)+1)=true:=by simp[P3];omega
   have d:y0 (K4 l) (n:Int)=true:=V0 O' O';simp only[q0,f,h1,k,d,j,c,or_self];rw[E01 (by rw[j]) (t0L h _ _) (by rw[d0b c];omega) g,G0,G0G g,G0]
def H0n {l:List C0}(hR:L2 l=true)(hl:l.length*64<=140737488351232)(q:Int)(m:401<F)(g:l.length+1<F):q0A F l q=some (B9 l q):=by
 have h:=e06 hR;have d:=h.le;have hlen:=h.len;unfold q0A B9;rw[D0M hR hl g];simp only[G0,hlen]
 by_cases i:q<0
 ·simp[i]
 ·by_cases h1:(l.length:Int)<=q
  ·have:q>=(l.length:Int):=h1;simp[i,this]
  ·obtain⟨n,rfl⟩:∃n:Nat,q=n:=⟨q.toNat,O'⟩
   have hn:n<l.length:=O'
   have j:=h.rng n hn;have k:¬((n:Int)>=(l.length:Int)):=h1;have f:y0 (K4 l) (n:Int)=true:=V0 O' O';obtain⟨lo,c⟩:∃lo:Nat,gt (K4 l) (n:Int)=lo:=⟨(gt (K4 l) (n:Int)).toNat,O'⟩
   rw[c]at j;simp only[q0,i,h1,k,or_self,I8,c];exact z0t hn d O' f c (t0L h _ _) m
end
def B0F {R0:List C0}{k:Nat}{x:Int}(h:x∈a0a R0 k):0<=x/\x<k:=by
 unfold a0a at h;obtain⟨n,hn,rfl⟩:=List.mem_map.1 h;have:=mem_range.1 (List.mem_filter.1 hn).1;omega
def H0X {l:List C0}{q x:Int}(h:x∈B9 l q):0<=x/\x<10:=by
 unfold B9 at h;split at h
 ·cases h
 ·exact B0F h
def i06 (l:List C0)(q:Int):(B9 l q).length<=10:=by
 unfold B9;split
 ·simp
 ·exact o02 _ 10
def e0T (l:List C0):Int:=(B9 l ((l.length:Int)-1)).getLast?.getD 0
def C4 (l:List C0):Int:=1+2*e0T l
def n0H (l:List C0):0<=e0T l/\e0T l<10:=by
 unfold e0T;cases h:(B9 l ((l.length:Int)-1)).getLast? with
 |none=>simp
 |some x=>exact H0X (List.mem_of_getLast? h)
section
variable {F:Nat}
def H0B {l:List C0}(hR:L2 l=true)(j:401<F):l0a F l=some (e0T l):=by
 have h:=e06 hR;have d:=h.le;have c:=h.pos;unfold l0a e0T;rw[show W ((l.length:Int)-1)=(l.length:Int)-1 from E3 O' O',t0b hR _ j,G0,I8];have f:=i06 l ((l.length:Int)-1);generalize B9 l ((l.length:Int)-1)=g at *;have:=H3 (step:=k0d F g) (fun i=>((g.take i).getLast?.getD 0,(i:Int))) (g.getLast?.getD 0) g.length (fun i hi=>.inl ?_) ?_ g.length 0 F O' O'
 ·exact this
 ·unfold k0d;have h1:(i:Int)<(g.length:Int):=O'
  have m:W ((i:Int)+1)=((i+1:Nat):Int):=by rw[E3 O' O'];omega
  have k:g.take (i+1)=g.take i++[gt g (i:Int)]:=by rw[take_succ,P4 hi];rfl
  simp only[h1,decide_true,if_true,V0 (l:=g) (i:=(i:Int)) O' h1,m,k,List.getLast?_append,List.getLast?_singleton,Option.some_or,Option.getD_some]
 ·unfold k0d;have h1:¬((g.length:Int)<(g.length:Int)):=O'
  simp only[q0,h1,take_length]
def o0r {l:List C0}(hR:L2 l=true)(c:401<F):d0Y F l=some (C4 l):=by
 have d:=n0H l;unfold d0Y C4;rw[s9 i0m (Old.c0y l c),hR];simp only[q0,H0B hR c];rw[E3 (n:=2*e0T l) O' O',E3 O' O']
def c0K (l:List C0)(s:Int):List J2:=
 if s<0\/(l.length:Int)<=s / 2 then[]else
 if(gt l (s / 2)).Kind=7 then[⟨1+s % 2,(gt l (s / 2)).N⟩]else
 if(gt l (s / 2)).Kind=8/\s % 2=0 then(B9 l (s / 2)).map fun g=>⟨3,g⟩else[]
def p0K (l:List C0)(s:Int):(c0K l s).length<=10:=by
 unfold c0K;have:=i06 l (s / 2);split
 ·simp
 ·split
  ·simp
  ·split
   ·rw[length_map];exact this
   ·simp
def a7 (l:List C0)(steps:List Int):List J2:=steps.flatMap (c0K l)
def w0J {g:List Int}{step:List J2×Int->Option (Q0 (List J2×Int) (List J2))}(c:∀o (i:Int),step (o,i)=if decide (i<(g.length:Int))then if y0 g i then if K0 16 o [(⟨3,gt g i⟩:J2)]then some (.next (o++[(⟨3,gt g i⟩:J2)],W (i+1)))else none else none else some (.done o))
  (hg:g.length<=10) (k:401<F) (o:List J2) (j:o.length<=100000000):iter step F (o,0)=some (o++g.map fun g=>⟨3,g⟩):=by
 have:=H3 (step:=step) (fun i=>(o++(g.take i).map fun g=>(⟨3,g⟩:J2),(i:Int))) (o++g.map fun g=>⟨3,g⟩) g.length (fun i hi=>.inl ?_) ?_ g.length 0 F O' O'
 ·simpa using this
 ·rw[c];have h1:(i:Int)<(g.length:Int):=O'
  have h:W ((i:Int)+1)=((i+1:Nat):Int):=by rw[E3 O' O'];omega
  have f:g.take (i+1)=g.take i++[gt g (i:Int)]:=by rw[take_succ,P4 hi];rfl
  have d:K0 16 (o++(g.take i).map fun g=>(⟨3,g⟩:J2)) [(⟨3,gt g (i:Int)⟩:J2)]=true:=by simp[K0];omega
  simp only[h1,decide_true,if_true,V0 (l:=g) (i:=(i:Int)) O' h1,h,f,d,List.map_append,List.map_cons,List.map_nil,List.append_assoc]
 ·rw[c];have h1:¬((g.length:Int)<(g.length:Int)):=O'
  simp only[q0,h1,take_length]
def SOk (s:Int):Prop:=-9223372036854775808<=s/\s<=9223372036854775807
def G0z {l:List C0}(hR:L2 l=true)(u:401<F){s:Int}(hs:SOk s):k0g F l s=some (c0K l s):=by
 have h:=e06 hR;have v:=h.le;unfold k0g c0K
 by_cases t:s<0
 ·simp[t]
 ·obtain⟨n,rfl⟩:∃n:Nat,s=n:=⟨s.toNat,O'⟩
  obtain⟨_,x⟩:=hs;have C:(n:Int).tdiv 2=((n / 2:Nat):Int):=rfl;have w:(n:Int).tmod 2=((n % 2:Nat):Int):=rfl;have y:(n:Int) / 2=((n / 2:Nat):Int):=O'
  have I:(n:Int) % 2=((n % 2:Nat):Int):=O'
  have J:W ((n / 2:Nat):Int)=((n / 2:Nat):Int):=E3 O' O';simp only[q0,C,w,y,I,J,t,false_or]
  by_cases h1:(l.length:Int)<=((n / 2:Nat):Int)
  ·have c:((n / 2:Nat):Int)>=(l.length:Int):=h1;simp only[h1,c,decide_true,if_true]
  ·have c:¬((n / 2:Nat):Int)>=(l.length:Int):=h1;have m:y0 l ((n / 2:Nat):Int)=true:=V0 O' O';simp only[q0,h1,c,m];have q:((n % 2:Nat):Int)=0\/((n % 2:Nat):Int)=1:=O'
   generalize ((n % 2:Nat):Int)=r at *;generalize ((n / 2:Nat):Int)=k at *
   by_cases d:(gt l k).Kind=7
   ·rcases q with rfl|rfl<;>simp[d,G0]
   ·have j:((gt l k).Kind==7)=false:=by simp[d]
    by_cases f:(gt l k).Kind=8
    ·rcases q with rfl|rfl
     ·have p:((gt l k).Kind==8)=true:=by simp[f]
      simp only[q0,j,p,f,d,beq_self_eq_true,and_self,t0b hR _ u,I8];have:=w0J (F:=F) (g:=B9 l k) (step:=v0A F (B9 l k)) (fun o i=>rfl) (i06 _ _) u [] X';simpa using this
     ·simp[d,f,G0]
    ·simp[d,f,G0]
def p07 {l:List C0}(hR:L2 l=true){st:List Int}(f:st.length<=2000000)(k:2000001<F)(hs:∀s∈st,SOk s):g0w F l st=some (a7 l st):=by
 unfold g0w;rw[s9 i0m (Old.c0y l O'),hR];simp only[q0,I8];have hlen:∀i,i<=st.length->(a7 l (st.take i)).length<=10*i:=by
  intro i
  induction i with
  |zero=>intro _;simp[a7]
  |succ i ih=>
   intro hi;have:=ih O';have d:=p0K l (gt st (i:Int));rw[show st.take (i+1)=st.take i++[gt st (i:Int)]from by rw[take_succ,P4 O'];rfl];simp only[a7,List.flatMap_append,List.length_append,flatMap_cons,List.flatMap_nil,append_nil]at *;omega
 have:=H3 (step:=k0E F l st) (fun i=>(a7 l (st.take i),(i:Int))) (a7 l st) st.length (fun i hi=>.inl ?_) ?_ st.length 0 F O' O'
 ·exact this
 ·unfold k0E;have h1:(i:Int)<(st.length:Int):=O'
  have h:W ((i:Int)+1)=((i+1:Nat):Int):=by rw[E3 O' O'];omega
  have g:st.take (i+1)=st.take i++[gt st (i:Int)]:=by rw[take_succ,P4 hi];rfl
  have d:=p0K l (gt st (i:Int));have j:=hlen i O';have c:K0 16 (a7 l (st.take i)) (c0K l (gt st (i:Int)))=true:=by simp[K0];omega
  simp only[q0,h1,V0 (l:=st) (i:=(i:Int)) O' h1,h,G0z hR (show 401<F from O') (hs _ (List.mem_of_getElem? (P4 hi))),c,g,a7,List.flatMap_append,flatMap_cons,List.flatMap_nil,append_nil];rw[show a7 l (List.take i st)=List.flatMap (c0K l) (List.take i st)from rfl]at c;rw[if_pos c]
 ·unfold k0E;have h1:¬((st.length:Int)<(st.length:Int)):=O'
  simp only[q0,h1,take_length]
def j0K (l:List C0):∀st:List Int,(a7 l st).length<=10*st.length
 |[]=>by simp[a7]
 |x :: r=>by
  have h:=j0K l r;have c:=p0K l x;simp only[a7,flatMap_cons,List.length_append,List.length_cons]at *;omega
def s0q {l:List C0}(hR:L2 l=true)(hl:l.length*64<=140737488351232)(x:401<F)(v:l.length+1<F){st:List Int}{i:Nat}(hi:i<st.length)(hlen:st.length<=2000000)(hs:SOk (gt st (i:Int))){o:List J2}(ho:o.length<=50000000):
  u0q F l st (o,(i:Int))=some (.next (o++c0K l (gt st (i:Int)),((i+1:Nat):Int))):=by
 have h:=e06 hR;have y:=h.le;have d:(i:Int)<(st.length:Int):=O'
 have u:W ((i:Int)+1)=((i+1:Nat):Int):=by rw[E3 O' O'];omega
 unfold u0q c0K;simp only[d,decide_true,if_true,V0 (l:=st) (i:=(i:Int)) O' d,u];generalize gt st (i:Int)=s at *
 by_cases C:s<0
 ·simp[C]
 ·obtain⟨n,rfl⟩:∃n:Nat,s=n:=⟨s.toNat,O'⟩
  obtain⟨_,U⟩:=hs;have e1:(n:Int).tdiv 2=((n / 2:Nat):Int):=rfl;have R:(n:Int).tmod 2=((n % 2:Nat):Int):=rfl;have e3:(n:Int) / 2=((n / 2:Nat):Int):=O'
  have J:(n:Int) % 2=((n % 2:Nat):Int):=O'
  have hW:W ((n / 2:Nat):Int)=((n / 2:Nat):Int):=E3 O' O';have m:W (1+((n % 2:Nat):Int))=1+((n % 2:Nat):Int):=E3 O' O';simp only[q0,e1,R,e3,J,hW,m,C,false_or]
  by_cases h1:(l.length:Int)<=((n / 2:Nat):Int)
  ·have c:((n / 2:Nat):Int)>=(l.length:Int):=h1;simp only[q0,h1,c,append_nil]
  ·have c:¬((n / 2:Nat):Int)>=(l.length:Int):=h1;have p:y0 l ((n / 2:Nat):Int)=true:=V0 O' O';simp only[q0,h1,c,p];have I:((n % 2:Nat):Int)=0\/((n % 2:Nat):Int)=1:=O'
   generalize ((n % 2:Nat):Int)=r at *;generalize ((n / 2:Nat):Int)=k at *
   by_cases f:(gt l k).Kind=7
   ·have t:K0 16 o [(⟨1+r,(gt l k).N⟩:J2)]=true:=by simp[K0];omega
    simp[f,G0,t]
   ·have q:((gt l k).Kind==7)=false:=by simp[f]
    by_cases j:(gt l k).Kind=8
    ·rcases I with rfl|rfl
     ·have w:((gt l k).Kind==8)=true:=by simp[j]
      rw[if_neg f,if_pos (show(gt l k).Kind=8/\(0:Int)=0 from⟨j,rfl⟩)];simp only[q0,q,w,beq_self_eq_true,H0n hR hl _ x v,I8];rw[w0J (F:=F) (g:=B9 l k) (step:=s0E F (B9 l k)) (fun o i=>rfl) (i06 _ _) x o O'];simp[G0]
     ·simp[f,j,G0]
    ·simp[f,j,G0]
end
def N2.sok {st:List Int}(h:N2 800 st):∀s∈st,SOk s:=fun s hs=>by have:=h s hs;unfold SOk;omega
section
variable {F:Nat}
variable {l:List C0}{n:Nat}{a:List B0}{b:Nat->List B0}{e:Nat->B0×Bool}{z:B0×Bool}
end
def V2 (n:Nat)(f:Nat->Int):List Int:=(List.range n).map f
def U1 (m n:Nat)(f:Nat->Nat->Int):List (List Int):=(List.range m).map fun i=>V2 n (f i)
def U2 (n:Nat)(fB fD:Nat->Nat->Int):D2:=⟨U1 n n fB,U1 n n fD⟩
@[simp] def l0I (n:Nat)(f:Nat->Int):(V2 n f).length=n:=by simp[V2]
@[simp] def v0W (m n:Nat)(f:Nat->Nat->Int):(U1 m n f).length=m:=by simp[U1]
def b0y {n i:Nat}(f:Nat->Int)(h:i<n):gt (V2 n f) (i:Int)=f i:=X2 (by simp[V2,h])
def R8 {m n i:Nat}(f:Nat->Nat->Int)(h:i<m):gt (U1 m n f) (i:Int)=V2 n (f i):=X2 (by simp[U1,h])
def a0k {n i:Nat}(f:Nat->Int)(h:i<n):y0 (V2 n f) (i:Int)=true:=V0 O' Z'
def H9 {m n i:Nat}(f:Nat->Nat->Int)(h:i<m):y0 (U1 m n f) (i:Int)=true:=V0 O' Z'
def X1 {i:Nat}(h:i<=1000000000):W ((i:Int)+1)=((i+1:Nat):Int):=by rw[E3 O' O'];omega
structure a0y (n:Nat)(fB fD:Nat->Nat->Int):Prop where
 b0:∀i k,i<n->k<n->0<=fB i k
 bd:∀i,i<n->fB i i=0
 dd:∀i,i<n->fD i i=0
 d1:∀i k,i<n->k<n->i≠k->fD i k=1\/fD i k=-1
 dn:∀i k,i<n->k<n->fD k i=- fD i k
section
variable {F n:Nat}{fB fD:Nat->Nat->Int}
def G02 (hn:n<=1000)(d:2000<F)(f:Nat->Nat->Int):h0W F (U1 n n f) (n:Int)=some true:=by
 unfold h0W;have:=H3 (step:=i0y F (U1 n n f) (n:Int)) (fun i=>(i:Int)) (.inr ()) n (fun i hi=>.inl ?_) ?_ n 0 F O' O'
 ·have c:iter (i0y F (U1 n n f) (n:Int)) F 0=_:=this;rw[c];simp[G0]
 ·unfold i0y;have h1:(i:Int)<((U1 n n f).length:Int):=by simp;omega
  simp only[q0,h1,H9 f hi,R8 f hi,l0I,bne_self_eq_false,X1 (i:=i) O']
 ·unfold i0y;have h1:¬((n:Int)<((U1 n n f).length:Int)):=X'
  simp only[q0,h1]
def t01 (hn:n<=1000)(g:2000<F)(h:a0y n fB fD):i0o F (U2 n fB fD) (n:Int)=some true:=by
 unfold i0o U2;simp only[q0,G02 hn g];have:=H3 (step:=i0G F ⟨U1 n n fB,U1 n n fD⟩ (n:Int)) (fun i=>(i:Int)) (.inr ()) n (fun i hi=>.inl ?_) ?_ n 0 F O' O'
 ·have f:iter (i0G F ⟨U1 n n fB,U1 n n fD⟩ (n:Int)) F 0=_:=this;rw[f];rfl
 ·have d:=H3 (step:=i0B F ⟨U1 n n fB,U1 n n fD⟩ (n:Int) (i:Int)) (fun k=>(k:Int)) (.inr ()) n (fun k hk=>.inl ?_) ?_ n 0 F O' O'
  ·have f:iter (i0B F ⟨U1 n n fB,U1 n n fD⟩ (n:Int) (i:Int)) F 0=_:=d;unfold i0G;have h1:(i:Int)<(n:Int):=O'
   simp only[q0,h1,H9 _ hi,R8 _ hi,a0k _ hi,b0y _ hi,h.bd i hi,h.dd i hi,bne_self_eq_false,f,X1 (i:=i) O']
  ·unfold i0B;have h1:(k:Int)<(n:Int):=O'
   have j:¬fB i k<0:=by have:=h.b0 i k hi hk;omega
   have hd:=h.dn i k hi hk;have m:W (0-fD i k)=- fD i k:=by
    by_cases e:i=k
    ·subst e;rw[h.dd i hi];rfl
    ·rcases h.d1 i k hi hk e with e|e<;>rw[e]<;>rfl
   simp only[q0,h1,H9 _ hi,H9 _ hk,R8 _ hi,R8 _ hk,a0k _ hi,a0k _ hk,b0y _ hi,b0y _ hk,j,I8,hd,m,bne_self_eq_false,X1 (i:=k) O']
   by_cases e:i=k
   ·subst e;simp[G0]
   ·have c:((i:Int) != (k:Int))=true:=by simp;omega
    rcases h.d1 i k hi hk e with e2|e2<;>simp[c,e2,G0]
  ·unfold i0B;have h1:¬((n:Int)<(n:Int)):=O'
   simp only[q0,h1]
 ·unfold i0G;have h1:¬((n:Int)<(n:Int)):=O'
  simp only[q0,h1]
def j0W (hn:n<=1000)(c:2000<F)(h:a0y n fB fD):e0n F (U2 n fB fD)=some true:=by
 unfold e0n;rw[I8,show((U2 n fB fD).B.length:Int)=(n:Int)from by simp[U2],t01 hn c h]
end
def x0B {n:Nat}{f g:Nat->Int}(h:∀k,k<n->f k=g k):V2 n f=V2 n g:=List.map_congr_left fun k hk=>h k (mem_range.1 hk)
def d0F {m n:Nat}{f g:Nat->Nat->Int}(h:∀i k,i<m->k<n->f i k=g i k):U1 m n f=U1 m n g:=
 List.map_congr_left fun i hi=>x0B fun k hk=>h i k (mem_range.1 hi) hk
def o0c {n k:Nat}{f:Nat->Int}{v:Int}:(V2 n f).set k v=V2 n fun j=>if j=k then v else f j:=by
 refine ext_getElem X' fun i h1 c=>?_;simp only[V2,getElem_set,getElem_map,getElem_range]
 by_cases e:k=i
 ·simp[e]
 ·rw[if_neg e,if_neg (fun h=>e h.symm)]
def m0L {m n i:Nat}{f:Nat->Nat->Int}{g:Nat->Int}:(U1 m n f).set i (V2 n g)=U1 m n fun a=>if a=i then g else f a:=by
 refine ext_getElem X' fun j h1 c=>?_;simp only[U1,getElem_set,getElem_map,getElem_range]
 by_cases e:i=j
 ·simp[e]
 ·rw[if_neg e,if_neg (fun h=>e h.symm)]
def G07 (n:Nat):List.replicate n (0:Int)=V2 n fun _=>0:=by
 refine ext_getElem X' fun i h1 c=>?_;simp[V2]
def I0t (m n:Nat):List.replicate m (V2 n fun _=>0)=U1 m n fun _ _=>0:=by
 refine ext_getElem X' fun i h1 c=>?_;simp[U1]
section
variable {F n:Nat}{fB fD:Nat->Nat->Int}
def u0f (hn:n<=1000)(h:2000<F):e0y F (n:Int)=some (U1 n n fun _ _=>0):=by
 unfold e0y;have d:R2 24 (n:Int)=true:=by simp[R2];omega
 have g:R2 8 (n:Int)=true:=by simp[R2];omega
 simp only[d,if_true,Int.toNat_natCast,List.length_replicate,I8];have:=H3 (step:=l0F F (n:Int) (n:Int)) (fun i=>((i:Int),List.replicate i (V2 n fun _=>0)++List.replicate (n-i) ([]:List Int))) (U1 n n fun _ _=>0) n (fun i hi=>.inl ?_) ?_ n 0 F O' O'
 ·exact this
 ·unfold l0F;have h1:(i:Int)<(n:Int):=O'
  have f:y0 (List.replicate i (V2 n fun _=>0)++List.replicate (n-i) ([]:List Int)) (i:Int)=true:=V0 O' Z';have c:(List.replicate i (V2 n fun _=>0)++List.replicate (n-i) ([]:List Int)).set i (V2 n fun _=>0)=List.replicate (i+1) (V2 n fun _=>0)++List.replicate (n-(i+1)) ([]:List Int):=by
   rw[List.set_append_right _ _ X',List.length_replicate,Nat.sub_self,show n-i=(n-(i+1))+1 from O',List.replicate_succ,List.set_cons_zero,List.replicate_succ' (n:=i),List.append_assoc];rfl
  simp only[h1,decide_true,if_true,g,f,Int.toNat_natCast,G07,c,X1 (i:=i) O']
 ·unfold l0F;have h1:¬((n:Int)<(n:Int)):=O'
  simp only[q0,h1,Nat.sub_self,List.replicate_zero,append_nil,I0t]
def g0x (n:Nat)(fB:Nat->Nat->Int)(i k:Nat):Int:=if i<n/\k<n then fB i k else 0
def e0R (n:Nat)(fD:Nat->Nat->Int)(i k:Nat):Int:=if i<n/\k<n then fD i k else if i<n/\k=n then 1 else if i=n/\k<n then -1 else 0
def H0m (h:a0y n fB fD):a0y (n+1) (g0x n fB) (e0R n fD) where
 b0 i k hi hk:=by unfold g0x;split;exact h.b0 i k O' O';omega
 bd i hi:=by unfold g0x;split;exact h.bd i O';rfl
 dd i hi:=by
  unfold e0R;split
  ·exact h.dd i O'
  ·rw[if_neg O',if_neg O']
 d1 i k hi hk hne:=by
  unfold e0R
  by_cases h1:i<n/\k<n
  ·rw[if_pos h1];exact h.d1 i k h1.1 h1.2 hne
  ·rw[if_neg h1]
   by_cases c:i<n/\k=n
   ·rw[if_pos c];exact .inl rfl
   ·rw[if_neg c,if_pos O'];exact .inr rfl
 dn i k hi hk:=by
  unfold e0R
  by_cases h1:i<n/\k<n
  ·rw[if_pos h1,if_pos ⟨h1.2,h1.1⟩];exact h.dn i k h1.1 h1.2
  ·rw[if_neg h1,if_neg (fun h=>h1 ⟨h.2,h.1⟩)]
   by_cases c:i<n/\k=n
   ·rw[if_pos c,if_neg O',if_pos ⟨c.2,c.1⟩]
   ·rw[if_neg c]
    by_cases d:i=n/\k<n
    ·rw[if_pos d,if_pos ⟨d.2,d.1⟩];rfl
    ·rw[if_neg d,if_neg (fun h=>d ⟨h.2,h.1⟩),if_neg (fun h=>c ⟨h.2,h.1⟩)];rfl
def D0X {m:Nat}(hm:n<=m)(f g:Nat->Int):j4 (V2 m f) (V2 n g)=V2 m fun k=>if k<n then g k else f k:=by
 unfold j4;rw[l0I,l0I,List.take_of_length_le (by simp;exact hm)];refine ext_getElem Z' fun i h1 c=>?_;simp only[l0I]at c
 by_cases e:i<n
 ·rw[List.getElem_append_left (by simpa using e)];simp[V2,e]
 ·rw[List.getElem_append_right Z'];simp only[V2,List.getElem_drop,length_map,List.length_range,getElem_map,getElem_range,if_neg e];congr 1;omega
def sB (n:Nat)(fB:Nat->Nat->Int)(i a k:Nat):Int:=if a<i/\k<n then fB a k else 0
def sD (n:Nat)(fD:Nat->Nat->Int)(i a k:Nat):Int:=if a<i/\k<n then fD a k else if a<i/\k=n then 1 else if a=n/\k<i then -1 else 0
def B0O (hn:n<=900)(o:2000<F)(h:a0y n fB fD):k0L F (U2 n fB fD)=some (U2 (n+1) (g0x n fB) (e0R n fD)):=by
 unfold k0L;rw[j0W O' o h];have hlen:((U2 n fB fD).B.length:Int)=(n:Int):=by simp[U2]
 simp only[q0,hlen,X1 (i:=n) O',u0f (n:=n+1) (F:=F) O' o];have:=H3 (step:=i0O F (U2 n fB fD)) (fun i=>((i:Int),U1 (n+1) (n+1) (sB n fB i),U1 (n+1) (n+1) (sD n fD i))) (U1 (n+1) (n+1) (g0x n fB),U1 (n+1) (n+1) (e0R n fD)) n (fun i hi=>.inl ?_) ?_ n 0 F O' O'
 ·have p:U1 (n+1) (n+1) (sB n fB 0)=U1 (n+1) (n+1) fun _ _=>0:=d0F fun i k _ _=>by unfold sB;rw[if_neg O']
  have c:U1 (n+1) (n+1) (sD n fD 0)=U1 (n+1) (n+1) fun _ _=>0:=d0F fun i k _ _=>by unfold sD;rw[if_neg O',if_neg O',if_neg O']
  rw[p,c]at this;have q:iter (i0O F (U2 n fB fD)) F (0,U1 (n+1) (n+1) (fun _ _=>0),U1 (n+1) (n+1) fun _ _=>0)=_:=this;rw[q];rfl
 ·unfold i0O;have h1:(i:Int)<(n:Int):=O'
  have f:i<n+1:=O'
  have g:n<n+1:=O'
  simp only[hlen,h1,decide_true,if_true];simp only[U2,H9 _ hi,H9 _ f,R8 _ hi,R8 _ f,if_true,D0X (show n<=n+1 from O'),Int.toNat_natCast,m0L,H9 _ g,a0k _ g,R8 _ g,o0c,a0k _ f,X1 (i:=i) O'];congr 1;congr 1;congr 1;congr 1
  ·refine d0F fun a k ha hk=>?_;unfold sB
   by_cases e:a=i
   ·subst e;simp only[if_true]
    by_cases c:k<n
    ·simp[c]
    ·simp[c]
   ·simp only[e,if_false]
    by_cases c:a<i/\k<n
    ·rw[if_pos c,if_pos O']
    ·rw[if_neg c,if_neg O']
  ·refine d0F fun a k ha hk=>?_;have j:¬n=i:=O'
   unfold sD
   by_cases e:a=n
   ·subst e;simp only[if_true,j,if_false]
    by_cases d:k=i
    ·subst d;simp;omega
    ·simp only[d,if_false];rw[if_neg O',if_neg O',if_neg (show ¬(a<i+1/\k<a) from O'),if_neg (show ¬(a<i+1/\k=a) from O')]
     by_cases m:k<i
     ·rw[if_pos ⟨trivial,m⟩,if_pos ⟨trivial,O'⟩]
     ·rw[if_neg (fun h=>m h.2),if_neg O']
   ·by_cases c:a=i
    ·subst c;simp only[j,if_false,if_true,e]
     by_cases d:k=n
     ·subst d;simp
     ·have:k<n:=O'
      simp[d,this]
    ·simp only[e,c,if_false]
     by_cases d:a<i/\k<n
     ·rw[if_pos d,if_pos O']
     ·rw[if_neg d,if_neg (show ¬(a<i+1/\k<n) from O')]
      by_cases m:a<i/\k=n
      ·rw[if_pos m,if_pos O']
      ·rw[if_neg m,if_neg (show ¬(a<i+1/\k=n) from O'),if_neg (fun h=>h.1),if_neg (fun h=>h.1)]
 ·unfold i0O;have h1:¬((n:Int)<(n:Int)):=O'
  simp only[q0,hlen,h1];congr 1
def inB (f:Nat->Nat->Int)(g:Nat->Nat->Int)(i k a j:Nat):Int:=if a=i/\j<k then f a j else g a j
end
def D1 (l:List Nat):List Int:=l.map fun n:Nat=>(n:Int)
@[simp] def e0b (l:List Nat):(D1 l).length=l.length:=by simp[D1]
def h0N {l:List Nat}{i:Nat}(h:i<l.length):gt (D1 l) (i:Int)=((l[i]:Nat):Int):=X2 (by simp[D1,h])
def q9 {l:List Nat}{i:Nat}(h:i<l.length):y0 (D1 l) (i:Int)=true:=V0 O' Z'
def e09 (fD:Nat->Nat->Int)(P6:Int)(i:Nat):Int:=if P6<0 then(i:Int)else if 0<fD i P6.toNat then(i:Int)else P6
def D8 (fD:Nat->Nat->Int)(of:List Nat):Int:=of.foldl (e09 fD) (-1)
def m0z {α:Type}{l:List α}{i:Nat}(h:i<l.length):l.take (i+1)=l.take i++[l[i]]:=by rw[take_succ,List.getElem?_eq_getElem h];rfl
def y0Q (fD:Nat->Nat->Int)(l:List Nat)(i:Nat):D8 fD (l++[i])=e09 fD (D8 fD l) i:=by simp[D8]
def j07 {n:Nat}{fD:Nat->Nat->Int}(of:List Nat)(h:∀i∈of,i<n):D8 fD of=-1\/∃k:Nat,D8 fD of=k/\k<n:=by
 have:∀(of:List Nat) (b:Int),(b=-1\/∃k:Nat,b=k/\k<n)->(∀i∈of,i<n)->(of.foldl (e09 fD) b=-1\/∃k:Nat,of.foldl (e09 fD) b=k/\k<n):=by
  intro of
  induction of with
  |nil=>intro b c _;exact c
  |cons x r ih=>
   intro b c hi;refine ih _ ?_ (fun i h=>hi i (List.mem_cons_of_mem _ h));have d:=hi x X';unfold e09;split
   ·exact .inr ⟨x,rfl,d⟩
   ·split
    ·exact .inr ⟨x,rfl,d⟩
    ·exact c
 exact this of (-1) (.inl rfl) h
section
variable {F n:Nat}{fB fD:Nat->Nat->Int}
def z0o (hn:n<=1000)(q:2000<F)(h:a0y n fB fD)(of:List Nat)(o:of.length<=1000)(hi:∀i∈of,i<n):j0N F (U2 n fB fD) (D1 of)=some (D8 fD of):=by
 unfold j0N;rw[j0W hn q h];simp only[q0,I8];have:=H3 (step:=k09 F (U2 n fB fD) (D1 of)) (fun i=>(D8 fD (of.take i),(i:Int))) (D8 fD of) of.length (fun i c=>.inl ?_) ?_ of.length 0 F O' O'
 ·exact this
 ·unfold k09 e0F;have h1:(i:Int)<((D1 of).length:Int):=by simp;omega
  have g:=hi of[i] (List.getElem_mem c);have p:((of[i]:Nat):Int)>=0:=O'
  have m:((of[i]:Nat):Int)<((U2 n fB fD).B.length:Int):=by simp[U2];omega
  simp only[q0,h1,q9 c,h0N c,p,m,I8,m0z c,y0Q,X1 (i:=i) O'];have r:=j07 (fD:=fD) (of.take i) (n:=n) (fun i h=>hi i (List.mem_of_mem_take h));generalize D8 fD (of.take i)=b at *;rcases r with rfl|⟨k,rfl,hk⟩
  ·simp[e09,G0]
  ·have f:¬((k:Int)<0):=O'
   simp only[q0,U2,f,H9 _ g,R8 _ g,a0k _ hk,b0y _ hk,e09,Int.toNat_natCast]
   by_cases d:0<fD of[i] k
   ·have j:fD of[i] k>0:=d;simp[d,G0]
   ·simp[d,G0]
 ·unfold k09;have h1:¬((of.length:Int)<((D1 of).length:Int)):=X'
  simp only[q0,h1,take_length]
end
def a0B (b t:Int):Int:=if W (t+1)<b then W (t+1)else b
def agF (fB fD:Nat->Nat->Int)(a b:Nat)(p q:B0):Int:=
 if a0B (fB a b) p.Turn>a0B (fB b a) q.Turn then 1 else if a0B (fB a b) p.Turn<a0B (fB b a) q.Turn then -1 else fD a b
def f0E (fB fD:Nat->Nat->Int)(fr:List Nat)(hops:List B0)(P6:Int)(i:Nat):Int:=
 if P6<0 then(i:Int)else if 0<agF fB fD (fr.getD i 0) (fr.getD P6.toNat 0) (gt hops (i:Int)) (gt hops P6)then(i:Int)else P6
def c00 (fB fD:Nat->Nat->Int)(fr:List Nat)(hops:List B0)(k:Nat):Int:=(List.range k).foldl (f0E fB fD fr hops) (-1)
def f0I (fB fD:Nat->Nat->Int)(fr:List Nat)(hops:List B0):Int:=c00 fB fD fr hops fr.length
def n0n (fB fD:Nat->Nat->Int)(fr:List Nat)(hops:List B0)(k:Nat):c00 fB fD fr hops (k+1)=f0E fB fD fr hops (c00 fB fD fr hops k) k:=by simp[c00,List.range_succ]
def v03 (fB fD:Nat->Nat->Int)(fr:List Nat)(hops:List B0):∀k,c00 fB fD fr hops k=-1\/∃j:Nat,c00 fB fD fr hops k=j/\j<k:=by
 intro k
 induction k with
 |zero=>exact .inl rfl
 |succ k ih=>
  rw[n0n];unfold f0E;split
  ·exact .inr ⟨k,rfl,O'⟩
  ·split
   ·exact .inr ⟨k,rfl,O'⟩
   ·rcases ih with h|⟨j,h,hj⟩
    ·exact .inl h
    ·exact .inr ⟨j,h,O'⟩
section
variable {F n:Nat}{fB fD:Nat->Nat->Int}{fr:List Nat}{hops:List B0}
def a0T {l:List Nat}{i:Nat}(h:i<l.length):gt (D1 l) (i:Int)=((l.getD i 0:Nat):Int):=by rw[h0N h];simp[List.getD,h]
def P8 (hi:∀i∈fr,i<n){i:Nat}(h:i<fr.length):fr.getD i 0<n:=by
 have:=hi fr[i] (List.getElem_mem h);simpa[List.getD,h]using this
def l0i (hlen:hops.length=fr.length)(hi:∀i∈fr,i<n){i k:Nat}(h1:i<fr.length)(c:k<fr.length):
  f0n F ⟨U2 n fB fD,D1 fr,hops⟩ (i:Int) (k:Int)=some (a0B (fB (fr.getD i 0) (fr.getD k 0)) (gt hops (i:Int)).Turn):=by
 have d:=P8 hi h1;have f:=P8 hi c;unfold f0n a0B;simp only[U2,q9 h1,q9 c,a0T h1,a0T c,H9 _ d,R8 _ d,a0k _ f,b0y _ f,if_true,V0 (l:=hops) (i:=(i:Int)) O' O']
def t0w (hlen:hops.length=fr.length)(hi:∀i∈fr,i<n){i k:Nat}(h1:i<fr.length)(c:k<fr.length):
  g0U F ⟨U2 n fB fD,D1 fr,hops⟩ (i:Int) (k:Int)=some (agF fB fD (fr.getD i 0) (fr.getD k 0) (gt hops (i:Int)) (gt hops (k:Int))):=by
 have d:=P8 hi h1;have f:=P8 hi c;unfold g0U agF;rw[l0i hlen hi h1 c,l0i hlen hi c h1];simp only[G0,U2,q9 h1,q9 c,a0T h1,a0T c,H9 _ d,R8 _ d,a0k _ f,b0y _ f,if_true,decide_eq_true_eq];split
 ·rfl
 ·split<;>rfl
def z0O (hn:n<=1000)(q:2000<F)(h:a0y n fB fD)(hlen:hops.length=fr.length)(m:fr.length<=1000)(hi:∀i∈fr,i<n):h0B F (U2 n fB fD) (D1 fr) hops=some (f0I fB fD fr hops):=by
 unfold h0B;rw[j0W hn q h];have j:(if(hops.length:Int)<((D1 fr).length:Int)then(hops.length:Int)else((D1 fr).length:Int))=(fr.length:Int):=by rw[e0b,hlen];simp
 simp only[q0,I8,j];have:=H3 (step:=l0L F (U2 n fB fD) (D1 fr) hops (fr.length:Int)) (fun i=>(c00 fB fD fr hops i,(i:Int))) (f0I fB fD fr hops) fr.length (fun i c=>.inl ?_) ?_ fr.length 0 F O' O'
 ·exact this
 ·unfold l0L e0F;have h1:(i:Int)<(fr.length:Int):=O'
  have s:=P8 hi c;have p:((fr.getD i 0:Nat):Int)>=0:=O'
  have o:((fr.getD i 0:Nat):Int)<((U2 n fB fD).B.length:Int):=by simp only[U2,v0W];omega
  simp only[q0,h1,q9 c,a0T c,p,o,I8,n0n,X1 (i:=i) O'];have r:=v03 fB fD fr hops i;generalize c00 fB fD fr hops i=b at *;rcases r with rfl|⟨k,rfl,hk⟩
  ·simp[f0E,G0]
  ·have g:¬((k:Int)<0):=O'
   simp only[q0,g,t0w hlen hi c (show k<fr.length from O'),f0E,Int.toNat_natCast]
   by_cases f:0<agF fB fD (fr.getD i 0) (fr.getD k 0) (gt hops (i:Int)) (gt hops (k:Int))
   ·have d:agF fB fD (fr.getD i 0) (fr.getD k 0) (gt hops (i:Int)) (gt hops (k:Int))>0:=f;simp only[q0,f,d]
   ·have d:¬agF fB fD (fr.getD i 0) (fr.getD k 0) (gt hops (i:Int)) (gt hops (k:Int))>0:=f;simp only[q0,f,d]
 ·unfold l0L;have h1:¬((fr.length:Int)<(fr.length:Int)):=O'
  simp only[q0,h1];rfl
end
def Z9 (now none_:Int)(tags:List Int)(marks:List J2):List Int:=marks.foldl (T4 now none_) tags
def A0z (now none_:Int)(o:List Int)(m:J2):(T4 now none_ o m).length=o.length:=by
 unfold T4;split
 ·rfl
 ·split
  ·simp
  ·split
   ·simp
   ·split
    ·simp
    ·rfl
def e0V (now none_:Int):∀(marks:List J2) (o:List Int),(Z9 now none_ o marks).length=o.length
 |[],o=>rfl
 |m :: r,o=>by
  have h:=e0V now none_ r (T4 now none_ o m);rw[A0z]at h;exact h
section
variable {F:Nat}
def o0k {tags:List Int}{marks:List J2}{now none_:Int}(c:tags.length<=1000)(hm:marks.length<=1000000000):d0G F tags marks now none_=some (Z9 now none_ tags marks):=by
 unfold d0G;rw[if_pos (by simp[K0];omega)];rfl
def F0o {n:Nat}{x:Int}(d:1<=n)(hn:n<=1000):j0a F (n:Int) x=some (List.replicate n x):=by
 unfold j0a m0v;have h1:¬(n:Int)<1:=O'
 have c:(decide ((0:Int)<=(n:Int))&&decide ((n:Int)<=1000))=true:=by simp;omega
 simp only[q0,h1,I8,Go.X.i0q,c,Int.toNat_natCast]
end
