/- P. Its conditions: none. -/
import Derived.Test.YtihmgaccbcfgjaaGreatQG40
open List (range_succ map_append length_map take_succ mem_of_getElem? ext_getElem getElem_set getElem_map getElem_range take_length mem_map mem_range flatMap_cons flatMap_nil append_nil length_cons getElem_mem)
open Bool (false_eq_true)
open Int (toNat_natCast)
set_option linter.all false
namespace Go.Proofs.YtihmgaccbcfgjaaGreat
open Go.V Go.RowKit Old
def D7 (R0:List C0)(n:Nat):Bool:=R0.any fun x=>x.Kind==7&&x.N==(n:Int)
def a0a (R0:List C0)(k:Nat):List Int:=((List.range k).filter (D7 R0)).map fun n:Nat=>(n:Int)
def t0G (R0:List C0):a0a R0 0=[]:=rfl
theorem P4 {α:Type}[Inhabited α]{l:List α}{i:Nat}(h:i<l.length):l[i]?=some (gt l (i:Int)):=by
 have:=h0D (V0 (l:=l) (i:=(i:Int)) O' O');simpa using this
def e0Y (R0:List C0):List Int:=a0a R0 10
def Gok (R0:List C0):Prop:=∀x∈R0,x.Kind=7->1<=x.N/\x.N<=9
def p05 (R0:List C0)(k:Nat):a0a R0 (k+1)=if D7 R0 k then a0a R0 k++[(k:Int)]else a0a R0 k:=by
 unfold a0a;rw[range_succ,List.filter_append,map_append];cases h:D7 R0 k<;>simp[h]
def o02 (R0:List C0)(k:Nat):(a0a R0 k).length<=k:=by
 unfold a0a;rw[length_map];exact Nat.le_trans (List.length_filter_le _ _) X'
def C0q {R0:List C0}(h:Gok R0):D7 R0 0=false:=by
 unfold D7;rw[List.any_eq_false];intro x d;simp;intro c f;have:=(h x d c).1;omega
def flags (R0:List C0):List Bool:=(List.range 10).map (D7 R0)
def A0r (R0:List C0){n:Nat}(h:n<10):gt (flags R0) (n:Int)=D7 R0 n:=by
 refine X2 ?_;simp[flags,h]
def x0s {R0:List C0}{i:Nat}(hi:i<R0.length)(hk:Gok R0):flags (R0.take (i+1))=if(gt R0 (i:Int)).Kind==7 then(flags (R0.take i)).set (gt R0 (i:Int)).N.toNat true else flags (R0.take i):=by
 have f:R0[i]?=some (gt R0 (i:Int)):=P4 hi;have d:R0.take (i+1)=R0.take i++[gt R0 (i:Int)]:=by rw[take_succ,f];rfl
 have hm:=hk _ (mem_of_getElem? f);generalize gt R0 (i:Int)=x at *;cases c:x.Kind==7
 ·simp only[if_false,false_eq_true];unfold flags;refine List.map_congr_left fun n _=>?_;simp[D7,d,c]
 ·simp only[if_true];have hm:=hm (by simpa using c);refine ext_getElem (by simp[flags]) fun n h1 g=>?_;simp only[flags,length_map,List.length_range]at h1;rw[getElem_set];simp only[flags,getElem_map,getElem_range];rw[show D7 (R0.take (i+1)) n=(D7 (R0.take i) n||(x.N==(n:Int)))from by simp[D7,d,c]];split
  ·rename_i e;have:x.N=(n:Int):=O'
   simp[this]
  ·rename_i e;have:(x.N==(n:Int))=false:=by simp;omega
   simp[this]
section
variable {F:Nat}
def E01 {l:List C0}{q:Int}{low:List Int}{R0:List C0}(hs:G1 l (gt low q) (W (q+1))=R0)(hk:Gok R0)(hl:R0.length<=400)(j:401<F):
  iter (h07 F l q low (R0.length:Int)) F (0,[false,false,false,false,false,false,false,false,false,false])=some (flags R0):=by
 have g:flags (R0.take 0)=[false,false,false,false,false,false,false,false,false,false]:=by simp[flags,D7];decide
 rw[<-g];have:=H3 (step:=h07 F l q low (R0.length:Int)) (fun i=>((i:Int),flags (R0.take i))) (flags R0) R0.length (fun i hi=>.inl ?_) ?_ R0.length 0 F O' O'
 ·exact this
 ·unfold h07;have h1:(i:Int)<(R0.length:Int):=O'
  have c:y0 R0 (i:Int)=true:=V0 O' O';have hm:=hk _ (mem_of_getElem? (h0D c));have d:W ((i:Int)+1)=((i+1:Nat):Int):=by rw[E3 O' O'];omega
  simp only[hs,h1,decide_true,if_true,c,d];rw[x0s hi hk];cases f:(gt R0 (i:Int)).Kind==7
  ·simp only[q0]
  ·have hm:=hm (by simpa using f);have h:(decide (0<=(gt R0 (i:Int)).N)&&decide ((gt R0 (i:Int)).N<10))=true:=by simp;omega
   simp only[if_true,h,G0]
 ·unfold h07;have h1:¬((R0.length:Int)<(R0.length:Int)):=O'
  simp only[q0,h1,take_length]
def G0G {R0:List C0}(g:401<F):iter (h0d F (flags R0)) F ([],0)=some (e0Y R0):=by
 have:=H3 (step:=h0d F (flags R0)) (fun i=>(a0a R0 i,(i:Int))) (e0Y R0) 10 (fun i hi=>.inl ?_) ?_ 10 0 F O' O'
 ·rw[t0G]at this;exact this
 ·unfold h0d;have h1:(i:Int)<10:=O'
  have f:(0:Int)<=(i:Int):=O'
  have d:W ((i:Int)+1)=((i+1:Nat):Int):=by rw[E3 O' O'];omega
  have c:K0 8 (a0a R0 i) [(i:Int)]=true:=by have:=o02 R0 i;simp[K0];omega
  simp only[h1,f,decide_true,if_true,Bool.and_self,A0r R0 hi,d,c];rw[p05];cases D7 R0 i<;>simp only[q0]
 ·unfold h0d;simp[e0Y]
def D0y {l:List C0}{q lo:Nat}(k:q<l.length)(hl:l.length<=400)(j:lo<=q)(n:Nat)(m:401<F):
  iter (h09 F l (q:Int) (n:Int)) F (false,(lo:Int))=some (D7 (G1 l (lo:Int) ((q+1:Nat):Int)) n):=by
 have c:G1 l (lo:Int) ((q+1:Nat):Int)=(l.drop lo).take (q+1-lo):=by unfold G1;congr 1;omega
 have:=H3 (step:=h09 F l (q:Int) (n:Int)) (fun i=>(D7 ((l.drop lo).take i) n,((lo+i:Nat):Int))) (D7 (G1 l (lo:Int) ((q+1:Nat):Int)) n) (q+1-lo) (fun i hi=>.inl ?_) ?_ (q+1-lo) 0 F O' O'
 ·exact this
 ·unfold h09;have h1:((lo+i:Nat):Int)<=(q:Int):=O'
  have d:y0 l ((lo+i:Nat):Int)=true:=V0 O' O';have g:(l.drop lo)[i]?=some (gt l ((lo+i:Nat):Int)):=by rw[List.getElem?_drop];exact P4 O'
  have f:(l.drop lo).take (i+1)=(l.drop lo).take i++[gt l ((lo+i:Nat):Int)]:=by rw[take_succ,g];rfl
  have h:W (((lo+i:Nat):Int)+1)=((lo+(i+1):Nat):Int):=by rw[E3 O' O'];omega
  have hg:D7 ((l.drop lo).take (i+1)) n=(D7 ((l.drop lo).take i) n||((gt l ((lo+i:Nat):Int)).Kind==7&&(gt l ((lo+i:Nat):Int)).N==(n:Int))):=by simp[D7,f]
  rw[hg];simp only[h1,decide_true,if_true,d,h,I8];cases D7 ((l.drop lo).take i) n<;>cases(gt l ((lo+i:Nat):Int)).Kind==7<;>simp[G0]
 ·unfold h09;have h1:¬(((lo+(q+1-lo):Nat):Int)<=(q:Int)):=O'
  simp only[q0,h1,c]
def z0t {l:List C0}{q lo:Nat}{low:List Int}(k:q<l.length)(hl:l.length<=400)(f:lo<=q)(g:y0 low (q:Int)=true)(hg:gt low (q:Int)=(lo:Int))(hk:Gok (G1 l (lo:Int) ((q+1:Nat):Int)))(m:401<F):
  iter (h0O F l (q:Int) low) F ([],1)=some (e0Y (G1 l (lo:Int) ((q+1:Nat):Int))):=by
 generalize c:G1 l (lo:Int) ((q+1:Nat):Int)=R0 at *;have j:a0a R0 1=[]:=by rw[p05,C0q hk,t0G];simp
 rw[<-j];have:=H3 (step:=h0O F l (q:Int) low) (fun i=>(a0a R0 (i+1),((i+1:Nat):Int))) (e0Y R0) 9 (fun i hi=>.inl ?_) ?_ 9 0 F O' O'
 ·exact this
 ·unfold h0O;have h1:((i+1:Nat):Int)<=9:=O'
  have h:W (((i+1:Nat):Int)+1)=((i+1+1:Nat):Int):=by rw[E3 O' O'];omega
  have d:K0 8 (a0a R0 (i+1)) [((i+1:Nat):Int)]=true:=by have:=o02 R0 (i+1);simp[K0];omega
  have hi:=D0y (F:=F) k hl f (i+1) m;rw[c]at hi;simp only[q0,h1,g,hg,hi,h,d];rw[p05 R0 (i+1)];cases D7 R0 (i+1)<;>simp only[q0]
 ·unfold h0O;simp[e0Y]
def z0V {l:List C0}:∀{i:Nat} {a:List Int},R4 l i=some a->∀j:Nat,j<i->R9 (gt l (j:Int))=true:=by
 intro i
 induction i with
 |zero=>intro a _ j c;omega
 |succ i ih=>
  intro a h j c;unfold R4 at h;cases e:R4 l i with
  |none=>rw[e]at h;cases h
  |some b=>
   rw[e]at h;dsimp only at h;split at h
   ·rename_i hg;rcases Nat.lt_or_ge j i with h1|h1
    ·exact ih e j h1
    ·obtain rfl:j=i:=O'
     simp only[Z6,Bool.and_eq_true]at hg;exact hg.1.2
   ·cases h
structure s0y (l:List C0):Prop where
 ne:K4 l≠[]
 len:(K4 l).length=l.length
 rng:∀j:Nat,j<l.length->0<=gt (K4 l) (j:Int)/\gt (K4 l) (j:Int)<=j
 grp:∀x∈l,x.Kind=7->1<=x.N/\x.N<=9
 pos:0<l.length
 le:l.length<=400
def e06 {l:List C0}(hR:L2 l=true):s0y l:=by
 have d:K4 l≠[]:=by intro e;simp[L2,e]at hR
 have h:=d;unfold K4 at h;cases e:R4 l l.length with
 |none=>rw[e]at h;exact absurd rfl h
 |some a=>
  have c:=c07 e;rw[e]at h;dsimp only at h;split at h
  ·exact absurd rfl h
  ·rename_i hn;have i:K4 l=a:=by unfold K4;rw[e];dsimp only;rw[if_neg hn]
   refine⟨d,by rw[i];exact c.len,fun j f=>by rw[i];exact c.rng j f,fun x k m=>?_,O',O'⟩;obtain⟨j,f,rfl⟩:=List.getElem_of_mem k;have g:=z0V e j f;have hg:gt l (j:Int)=l[j]:=X2 (List.getElem?_eq_getElem f);rw[hg]at g;simp[R9,m]at g;exact g.2
def B9 (l:List C0)(q:Int):List Int:=if q<0\/(l.length:Int)<=q then[]else e0Y (G1 l (gt (K4 l) q) (q+1))
def r0n {l:List C0}(c:401<F):I9 F l=some (K4 l):=(Old.q08 l c)
def D0M {l:List C0}(hR:L2 l=true)(hl:l.length*64<=140737488351232)(d:l.length+1<F):o0X F l=some (K4 l):=by
 have c:h08 (K4 l)=true:=by
  cases h:K4 l with
  |nil=>exact absurd h (e06 hR).ne
  |cons x y=>rfl
 unfold o0X;rw[Old.u0g l hl d,c];rfl
def t0L {l:List C0}(h:s0y l)(a b:Int):Gok (G1 l a b):=fun x d c=>h.grp x (List.mem_of_mem_drop (List.mem_of_mem_take d)) c
def t0b {l:List C0}(hR:L2 l=true)(q:Int)(f:401<F):i0x F l q=some (B9 l q):=by
 have h:=e06 hR;have j:=h.le;have hlen:=h.len;unfold i0x B9;rw[r0n f];simp only[G0,hlen]
 by_cases g:q<0
 ·simp[g]
 ·by_cases h1:(l.length:Int)<=q
  ·have:q>=(l.length:Int):=h1;simp[g,this]
  ·obtain⟨n,rfl⟩:∃n:Nat,q=n:=⟨q.toNat,O'⟩
   have hn:n<l.length:=O'
   have m:=h.rng n hn;have i:W ((n:Int)+1)=(n:Int)+1:=E3 O' O';have k:¬((n:Int)>=(l.length:Int)):=h1;have c:P3 l (gt (K4 l) (n:Int)) ((n:Int)+1)=true:=by simp[P3];omega
   have d:y0 (K4 l) (n:Int)=true:=V0 O' O';simp only[q0,g,h1,k,d,i,c,or_self];rw[E01 (by rw[i]) (t0L h _ _) (by rw[d0b c];omega) f,G0,G0G f,G0]
def H0n {l:List C0}(hR:L2 l=true)(hl:l.length*64<=140737488351232)(q:Int)(k:401<F)(g:l.length+1<F):q0A F l q=some (B9 l q):=by
 have h:=e06 hR;have d:=h.le;have hlen:=h.len;unfold q0A B9;rw[D0M hR hl g];simp only[G0,hlen]
 by_cases f:q<0
 ·simp[f]
 ·by_cases h1:(l.length:Int)<=q
  ·have:q>=(l.length:Int):=h1;simp[f,this]
  ·obtain⟨n,rfl⟩:∃n:Nat,q=n:=⟨q.toNat,O'⟩
   have hn:n<l.length:=O'
   have j:=h.rng n hn;have m:¬((n:Int)>=(l.length:Int)):=h1;have i:y0 (K4 l) (n:Int)=true:=V0 O' O';obtain⟨lo,c⟩:∃lo:Nat,gt (K4 l) (n:Int)=lo:=⟨(gt (K4 l) (n:Int)).toNat,O'⟩
   rw[c]at j;simp only[q0,f,h1,m,or_self,I8,c];exact z0t hn d O' i c (t0L h _ _) k
end
def B0F {R0:List C0}{k:Nat}{x:Int}(h:x∈a0a R0 k):0<=x/\x<k:=by
 unfold a0a at h;obtain⟨n,hn,rfl⟩:=mem_map.1 h;have:=mem_range.1 (List.mem_filter.1 hn).1;omega
def H0X {l:List C0}{q x:Int}(h:x∈B9 l q):0<=x/\x<10:=by
 unfold B9 at h;split at h
 ·cases h
 ·exact B0F h
def i06 (l:List C0)(q:Int):(B9 l q).length<=10:=by
 unfold B9;split
 ·simp
 ·exact o02 _ 10
def e0T (l:List C0):Int:=(B9 l ((l.length:Int)-1)).getLast?.getD 0
def C4 (l:List C0):Int:=1+2*e0T l
def n0H (l:List C0):0<=e0T l/\e0T l<10:=by
 unfold e0T;cases h:(B9 l ((l.length:Int)-1)).getLast? with
 |none=>simp
 |some x=>exact H0X (List.mem_of_getLast? h)
section
variable {F:Nat}
def H0B {l:List C0}(hR:L2 l=true)(j:401<F):l0a F l=some (e0T l):=by
 have h:=e06 hR;have d:=h.le;have c:=h.pos;unfold l0a e0T;rw[show W ((l.length:Int)-1)=(l.length:Int)-1 from E3 O' O',t0b hR _ j,G0,I8];have f:=i06 l ((l.length:Int)-1);generalize B9 l ((l.length:Int)-1)=g at *;have:=H3 (step:=k0d F g) (fun i=>((g.take i).getLast?.getD 0,(i:Int))) (g.getLast?.getD 0) g.length (fun i hi=>.inl ?_) ?_ g.length 0 F O' O'
 ·exact this
 ·unfold k0d;have h1:(i:Int)<(g.length:Int):=O'
  have m:W ((i:Int)+1)=((i+1:Nat):Int):=by rw[E3 O' O'];omega
  have k:g.take (i+1)=g.take i++[gt g (i:Int)]:=by rw[take_succ,P4 hi];rfl
  simp only[h1,decide_true,if_true,V0 (l:=g) (i:=(i:Int)) O' h1,m,k,List.getLast?_append,List.getLast?_singleton,Option.some_or,Option.getD_some]
 ·unfold k0d;have h1:¬((g.length:Int)<(g.length:Int)):=O'
  simp only[q0,h1,take_length]
def N0f {l:List C0}(hR:L2 l=true)(hl:l.length*64<=140737488351232)(m:401<F)(d:l.length+1<F):K0j F l=some (e0T l):=by
 have h:=e06 hR;have j:=h.le;have f:=h.pos;unfold K0j e0T;rw[show W ((l.length:Int)-1)=(l.length:Int)-1 from E3 O' O',H0n hR hl _ m d,G0];have k:=i06 l ((l.length:Int)-1);generalize B9 l ((l.length:Int)-1)=g at *
 by_cases i:g=[]
 ·subst i;rfl
 ·have hp:0<g.length:=List.length_pos_iff.2 i;have c:((g.length:Int)==0)=false:=by simp;omega
  have o:W ((g.length:Int)-1)=((g.length-1:Nat):Int):=by rw[E3 O' O'];omega
  rw[if_neg (by rw[c];simp),o,if_pos (V0 O' O')];have:g.getLast?=some (gt g ((g.length-1:Nat):Int)):=by rw[List.getLast?_eq_getElem?,P4 O']
  rw[this];rfl
def o0r {l:List C0}(hR:L2 l=true)(c:401<F):d0Y F l=some (C4 l):=by
 have d:=n0H l;unfold d0Y C4;rw[(Old.c0y l c),hR];simp only[q0,H0B hR c];rw[E3 (n:=2*e0T l) O' O',E3 O' O']
def M0b {l:List C0}(hR:L2 l=true)(hl:l.length*64<=140737488351232)(d:401<F)(c:l.length+1<F):K0e F l=some (C4 l):=by
 have f:=n0H l;unfold K0e C4;rw[(Old.e02 l hl c),hR];simp only[q0,N0f hR hl d c];rw[E3 (n:=2*e0T l) O' O',E3 O' O']
def c0K (l:List C0)(s:Int):List J2:=
 if s<0\/(l.length:Int)<=s / 2 then[]else
 if(gt l (s / 2)).Kind=7 then[⟨1+s % 2,(gt l (s / 2)).N⟩]else
 if(gt l (s / 2)).Kind=8/\s % 2=0 then(B9 l (s / 2)).map fun g=>⟨3,g⟩else[]
def p0K (l:List C0)(s:Int):(c0K l s).length<=10:=by
 unfold c0K;have:=i06 l (s / 2);split
 ·simp
 ·split
  ·simp
  ·split
   ·rw[length_map];exact this
   ·simp
def a7 (l:List C0)(steps:List Int):List J2:=steps.flatMap (c0K l)
def w0J {g:List Int}{step:List J2×Int->Option (Q0 (List J2×Int) (List J2))}(c:∀o (i:Int),step (o,i)=if decide (i<(g.length:Int))then if y0 g i then if K0 16 o [(⟨3,gt g i⟩:J2)]then some (.next (o++[(⟨3,gt g i⟩:J2)],W (i+1)))else none else none else some (.done o))
  (hg:g.length<=10) (k:401<F) (o:List J2) (j:o.length<=100000000):iter step F (o,0)=some (o++g.map fun g=>⟨3,g⟩):=by
 have:=H3 (step:=step) (fun i=>(o++(g.take i).map fun g=>(⟨3,g⟩:J2),(i:Int))) (o++g.map fun g=>⟨3,g⟩) g.length (fun i hi=>.inl ?_) ?_ g.length 0 F O' O'
 ·simpa using this
 ·rw[c];have h1:(i:Int)<(g.length:Int):=O'
  have h:W ((i:Int)+1)=((i+1:Nat):Int):=by rw[E3 O' O'];omega
  have f:g.take (i+1)=g.take i++[gt g (i:Int)]:=by rw[take_succ,P4 hi];rfl
  have d:K0 16 (o++(g.take i).map fun g=>(⟨3,g⟩:J2)) [(⟨3,gt g (i:Int)⟩:J2)]=true:=by simp[K0];omega
  simp only[h1,decide_true,if_true,V0 (l:=g) (i:=(i:Int)) O' h1,h,f,d,map_append,List.map_cons,List.map_nil,List.append_assoc]
 ·rw[c];have h1:¬((g.length:Int)<(g.length:Int)):=O'
  simp only[q0,h1,take_length]
def SOk (s:Int):Prop:=-9223372036854775808<=s/\s<=9223372036854775807
def G0z {l:List C0}(hR:L2 l=true)(v:401<F){s:Int}(hs:SOk s):k0g F l s=some (c0K l s):=by
 have h:=e06 hR;have u:=h.le;unfold k0g c0K
 by_cases t:s<0
 ·simp[t]
 ·obtain⟨n,rfl⟩:∃n:Nat,s=n:=⟨s.toNat,O'⟩
  obtain⟨_,I⟩:=hs;have C:(n:Int).tdiv 2=((n / 2:Nat):Int):=rfl;have w:(n:Int).tmod 2=((n % 2:Nat):Int):=rfl;have y:(n:Int) / 2=((n / 2:Nat):Int):=O'
  have J:(n:Int) % 2=((n % 2:Nat):Int):=O'
  have x:W ((n / 2:Nat):Int)=((n / 2:Nat):Int):=E3 O' O';simp only[q0,C,w,y,J,x,t,false_or]
  by_cases h1:(l.length:Int)<=((n / 2:Nat):Int)
  ·have c:((n / 2:Nat):Int)>=(l.length:Int):=h1;simp only[h1,c,decide_true,if_true]
  ·have c:¬((n / 2:Nat):Int)>=(l.length:Int):=h1;have p:y0 l ((n / 2:Nat):Int)=true:=V0 O' O';simp only[q0,h1,c,p];have q:((n % 2:Nat):Int)=0\/((n % 2:Nat):Int)=1:=O'
   generalize ((n % 2:Nat):Int)=r at *;generalize ((n / 2:Nat):Int)=k at *
   by_cases d:(gt l k).Kind=7
   ·rcases q with rfl|rfl<;>simp[d,G0]
   ·have m:((gt l k).Kind==7)=false:=by simp[d]
    by_cases f:(gt l k).Kind=8
    ·rcases q with rfl|rfl
     ·have j:((gt l k).Kind==8)=true:=by simp[f]
      simp only[q0,m,j,f,d,beq_self_eq_true,and_self,t0b hR _ v,I8];have:=w0J (F:=F) (g:=B9 l k) (step:=v0A F (B9 l k)) (fun o i=>rfl) (i06 _ _) v [] X';simpa using this
     ·simp[d,f,G0]
    ·simp[d,f,G0]
def p07 {l:List C0}(hR:L2 l=true){st:List Int}(g:st.length<=2000000)(j:2000001<F)(hs:∀s∈st,SOk s):g0w F l st=some (a7 l st):=by
 unfold g0w;rw[(Old.c0y l O'),hR];simp only[q0,I8];have hlen:∀i,i<=st.length->(a7 l (st.take i)).length<=10*i:=by
  intro i
  induction i with
  |zero=>intro _;simp[a7]
  |succ i ih=>
   intro hi;have:=ih O';have h:=p0K l (gt st (i:Int));rw[show st.take (i+1)=st.take i++[gt st (i:Int)]from by rw[take_succ,P4 O'];rfl];simp only[a7,List.flatMap_append,List.length_append,flatMap_cons,flatMap_nil,append_nil]at *;omega
 have:=H3 (step:=k0E F l st) (fun i=>(a7 l (st.take i),(i:Int))) (a7 l st) st.length (fun i hi=>.inl ?_) ?_ st.length 0 F O' O'
 ·exact this
 ·unfold k0E;have h1:(i:Int)<(st.length:Int):=O'
  have f:W ((i:Int)+1)=((i+1:Nat):Int):=by rw[E3 O' O'];omega
  have d:st.take (i+1)=st.take i++[gt st (i:Int)]:=by rw[take_succ,P4 hi];rfl
  have h:=p0K l (gt st (i:Int));have k:=hlen i O';have c:K0 16 (a7 l (st.take i)) (c0K l (gt st (i:Int)))=true:=by simp[K0];omega
  simp only[q0,h1,V0 (l:=st) (i:=(i:Int)) O' h1,f,G0z hR (show 401<F from O') (hs _ (mem_of_getElem? (P4 hi))),c,d,a7,List.flatMap_append,flatMap_cons,flatMap_nil,append_nil];rw[show a7 l (List.take i st)=List.flatMap (c0K l) (List.take i st)from rfl]at c;rw[if_pos c]
 ·unfold k0E;have h1:¬((st.length:Int)<(st.length:Int)):=O'
  simp only[q0,h1,take_length]
def j0K (l:List C0):∀st:List Int,(a7 l st).length<=10*st.length
 |[]=>by simp[a7]
 |x :: r=>by
  have h:=j0K l r;have c:=p0K l x;simp only[a7,flatMap_cons,List.length_append,length_cons]at *;omega
def s0q {l:List C0}(hR:L2 l=true)(hl:l.length*64<=140737488351232)(C:401<F)(u:l.length+1<F){st:List Int}{i:Nat}(hi:i<st.length)(hlen:st.length<=2000000)(hs:SOk (gt st (i:Int))){o:List J2}(ho:o.length<=50000000):
  u0q F l st (o,(i:Int))=some (.next (o++c0K l (gt st (i:Int)),((i+1:Nat):Int))):=by
 have h:=e06 hR;have y:=h.le;have f:(i:Int)<(st.length:Int):=O'
 have p:W ((i:Int)+1)=((i+1:Nat):Int):=by rw[E3 O' O'];omega
 unfold u0q c0K;simp only[f,decide_true,if_true,V0 (l:=st) (i:=(i:Int)) O' f,p];generalize gt st (i:Int)=s at *
 by_cases x:s<0
 ·simp[x]
 ·obtain⟨n,rfl⟩:∃n:Nat,s=n:=⟨s.toNat,O'⟩
  obtain⟨_,a1⟩:=hs;have e1:(n:Int).tdiv 2=((n / 2:Nat):Int):=rfl;have J:(n:Int).tmod 2=((n % 2:Nat):Int):=rfl;have U:(n:Int) / 2=((n / 2:Nat):Int):=O'
  have e4:(n:Int) % 2=((n % 2:Nat):Int):=O'
  have R:W ((n / 2:Nat):Int)=((n / 2:Nat):Int):=E3 O' O';have v:W (1+((n % 2:Nat):Int))=1+((n % 2:Nat):Int):=E3 O' O';simp only[q0,e1,J,U,e4,R,v,x,false_or]
  by_cases h1:(l.length:Int)<=((n / 2:Nat):Int)
  ·have c:((n / 2:Nat):Int)>=(l.length:Int):=h1;simp only[q0,h1,c,append_nil]
  ·have c:¬((n / 2:Nat):Int)>=(l.length:Int):=h1;have w:y0 l ((n / 2:Nat):Int)=true:=V0 O' O';simp only[q0,h1,c,w];have I:((n % 2:Nat):Int)=0\/((n % 2:Nat):Int)=1:=O'
   generalize ((n % 2:Nat):Int)=r at *;generalize ((n / 2:Nat):Int)=k at *
   by_cases d:(gt l k).Kind=7
   ·have m:K0 16 o [(⟨1+r,(gt l k).N⟩:J2)]=true:=by simp[K0];omega
    simp[d,G0,m]
   ·have t:((gt l k).Kind==7)=false:=by simp[d]
    by_cases j:(gt l k).Kind=8
    ·rcases I with rfl|rfl
     ·have q:((gt l k).Kind==8)=true:=by simp[j]
      rw[if_neg d,if_pos (show(gt l k).Kind=8/\(0:Int)=0 from⟨j,rfl⟩)];simp only[q0,t,q,beq_self_eq_true,H0n hR hl _ C u,I8];rw[w0J (F:=F) (g:=B9 l k) (step:=s0E F (B9 l k)) (fun o i=>rfl) (i06 _ _) C o O'];simp[G0]
     ·simp[d,j,G0]
    ·simp[d,j,G0]
def L0r {l:List C0}(hR:L2 l=true)(hl:l.length*64<=140737488351232){st:List Int}(d:st.length<=2000000)(h:2000001<F)(c:l.length+1<F)(hs:∀s∈st,SOk s):t0f F l st=some (a7 l st):=by
 unfold t0f;rw[(Old.e02 l hl c),hR];simp only[q0,I8];have:=H3 (step:=u0q F l st) (fun i=>(a7 l (st.take i),(i:Int))) (a7 l st) st.length (fun i hi=>.inl ?_) ?_ st.length 0 F O' O'
 ·exact this
 ·have g:=j0K l (st.take i);rw[List.length_take]at g;rw[s0q hR hl O' c hi d (hs _ (mem_of_getElem? (P4 hi))) O'];have f:st.take (i+1)=st.take i++[gt st (i:Int)]:=by rw[take_succ,P4 hi];rfl
  simp only[f,a7,List.flatMap_append,flatMap_cons,flatMap_nil,append_nil]
 ·unfold u0q;have h1:¬((st.length:Int)<(st.length:Int)):=O'
  simp only[q0,h1,take_length]
end
def N2.sok {st:List Int}(h:N2 800 st):∀s∈st,SOk s:=fun s hs=>by have:=h s hs;unfold SOk;omega
def P0I {β:Type}(f:Nat->β)(i:Nat):(List.range (i+1)).map f=(List.range i).map f++[f i]:=by
 rw[range_succ,map_append];rfl
section
variable {F:Nat}
variable {l:List C0}{n:Nat}{a:List B0}{b:Nat->List B0}{e:Nat->B0×Bool}{z:B0×Bool}
end
def V2 (n:Nat)(f:Nat->Int):List Int:=(List.range n).map f
def U1 (m n:Nat)(f:Nat->Nat->Int):List (List Int):=(List.range m).map fun i=>V2 n (f i)
def U2 (n:Nat)(fB fD:Nat->Nat->Int):D2:=⟨U1 n n fB,U1 n n fD⟩
@[simp] def l0I (n:Nat)(f:Nat->Int):(V2 n f).length=n:=by simp[V2]
@[simp] def v0W (m n:Nat)(f:Nat->Nat->Int):(U1 m n f).length=m:=by simp[U1]
def b0y {n i:Nat}(f:Nat->Int)(h:i<n):gt (V2 n f) (i:Int)=f i:=X2 (by simp[V2,h])
def R8 {m n i:Nat}(f:Nat->Nat->Int)(h:i<m):gt (U1 m n f) (i:Int)=V2 n (f i):=X2 (by simp[U1,h])
def a0k {n i:Nat}(f:Nat->Int)(h:i<n):y0 (V2 n f) (i:Int)=true:=V0 O' Y'
def H9 {m n i:Nat}(f:Nat->Nat->Int)(h:i<m):y0 (U1 m n f) (i:Int)=true:=V0 O' Y'
theorem X1 {i:Nat}(h:i<=1000000000):W ((i:Int)+1)=((i+1:Nat):Int):=by grind [E3]
structure a0y (n:Nat)(fB fD:Nat->Nat->Int):Prop where
 b0:∀i k,i<n->k<n->0<=fB i k
 bd:∀i,i<n->fB i i=0
 dd:∀i,i<n->fD i i=0
 d1:∀i k,i<n->k<n->i≠k->fD i k=1\/fD i k=-1
 dn:∀i k,i<n->k<n->fD k i=- fD i k
section
variable {F n:Nat}{fB fD:Nat->Nat->Int}
def G02 (hn:n<=1000)(c:2000<F)(f:Nat->Nat->Int):h0W F (U1 n n f) (n:Int)=some true:=by
 unfold h0W;have:=H3 (step:=i0y F (U1 n n f) (n:Int)) (fun i=>(i:Int)) (.inr ()) n (fun i hi=>.inl ?_) ?_ n 0 F O' O'
 ·simp_all
 ·unfold i0y;have h1:(i:Int)<((U1 n n f).length:Int):=by simp;omega
  simp only[q0,h1,H9 f hi,R8 f hi,l0I,bne_self_eq_false,X1 (i:=i) O']
 simp[i0y]
def t01 (hn:n<=1000)(g:2000<F)(h:a0y n fB fD):i0o F (U2 n fB fD) (n:Int)=some true:=by
 unfold i0o U2;simp only[q0,G02 hn g];have:=H3 (step:=i0G F ⟨U1 n n fB,U1 n n fD⟩ (n:Int)) (fun i=>(i:Int)) (.inr ()) n (fun i hi=>.inl ?_) ?_ n 0 F O' O'
 ·simp_all
 ·have c:=H3 (step:=i0B F ⟨U1 n n fB,U1 n n fD⟩ (n:Int) (i:Int)) (fun k=>(k:Int)) (.inr ()) n (fun k hk=>.inl ?_) ?_ n 0 F O' O'
  ·have m:iter (i0B F ⟨U1 n n fB,U1 n n fD⟩ (n:Int) (i:Int)) F 0=_:=c;unfold i0G;have h1:(i:Int)<(n:Int):=O'
   simp only[q0,h1,H9 _ hi,R8 _ hi,a0k _ hi,b0y _ hi,h.bd i hi,h.dd i hi,bne_self_eq_false,m,X1 (i:=i) O']
  ·unfold i0B;have h1:(k:Int)<(n:Int):=O'
   have f:¬fB i k<0:=by have:=h.b0 i k hi hk;omega
   have hd:=h.dn i k hi hk;have j:W (0-fD i k)=- fD i k:=by
    by_cases e:i=k
    ·subst e;rw[h.dd i hi];rfl
    ·rcases h.d1 i k hi hk e with e|e<;>rw[e]<;>rfl
   simp only[q0,h1,H9 _ hi,H9 _ hk,R8 _ hi,R8 _ hk,a0k _ hi,a0k _ hk,b0y _ hi,b0y _ hk,f,I8,hd,j,bne_self_eq_false,X1 (i:=k) O']
   by_cases e:i=k
   ·grind
   ·have d:((i:Int) != (k:Int))=true:=by grind
    rcases h.d1 i k hi hk e with e2|e2<;>simp[d,e2]
  simp[i0B]
 simp[i0G]
def j0W (hn:n<=1000)(c:2000<F)(h:a0y n fB fD):e0n F (U2 n fB fD)=some true:=by
 unfold e0n;rw[I8,show((U2 n fB fD).B.length:Int)=(n:Int)from by simp[U2],t01 hn c h]
def j0J (hn:n<=1000)(o:2000<F)(h:a0y n fB fD):g0e F (U2 n fB fD) (n:Int)=some true:=by
 unfold g0e U2;have:=H3 (step:=J09 F ⟨U1 n n fB,U1 n n fD⟩ (n:Int)) (fun i=>(i:Int)) (.inr ()) n (fun i hi=>.inl ?_) ?_ n 0 F O' O'
 ·have g:iter (J09 F ⟨U1 n n fB,U1 n n fD⟩ (n:Int)) F 0=_:=this;have:=H3 (step:=J0q F ⟨U1 n n fB,U1 n n fD⟩ (n:Int)) (fun i=>(i:Int)) (.inr ()) n (fun i hi=>.inl ?_) ?_ n 0 F O' O'
  ·simp_all
  ·have d:=H3 (step:=K0d F ⟨U1 n n fB,U1 n n fD⟩ (n:Int) (i:Int)) (fun k=>(k:Int)) (.inr ()) n (fun k hk=>.inl ?_) ?_ n 0 F O' O'
   ·have g:iter (K0d F ⟨U1 n n fB,U1 n n fD⟩ (n:Int) (i:Int)) F 0=_:=d;unfold J0q;have h1:(i:Int)<(n:Int):=O'
    simp only[q0,h1,g,X1 (i:=i) O']
   ·unfold K0d;have h1:(k:Int)<(n:Int):=O'
    have j:¬fB i k<0:=by have:=h.b0 i k hi hk;omega
    have hd:=h.dn i k hi hk;have m:W (0-fD i k)=- fD i k:=by
     by_cases e:i=k
     ·subst e;rw[h.dd i hi];rfl
     ·rcases h.d1 i k hi hk e with e|e<;>rw[e]<;>rfl
    simp only[q0,h1,H9 _ hi,H9 _ hk,R8 _ hi,R8 _ hk,a0k _ hi,a0k _ hk,b0y _ hi,b0y _ hk,j,I8,hd,m,bne_self_eq_false,X1 (i:=k) O']
    by_cases e:i=k
    ·subst e;simp[h.bd i hi,h.dd i hi]
    ·have f:((i:Int) != (k:Int))=true:=by grind
     have c:((i:Int)==(k:Int))=false:=by grind
     rcases h.d1 i k hi hk e with e2|e2<;>simp[f,c,e2]
   simp[K0d]
  simp[J0q]
 ·unfold J09;have h1:(i:Int)<(n:Int):=O'
  simp only[q0,h1,H9 _ hi,R8 _ hi,l0I,bne_self_eq_false,X1 (i:=i) O']
 simp[J09]
end
def x0B {n:Nat}{f g:Nat->Int}(h:∀k,k<n->f k=g k):V2 n f=V2 n g:=List.map_congr_left fun k hk=>h k (mem_range.1 hk)
def d0F {m n:Nat}{f g:Nat->Nat->Int}(h:∀i k,i<m->k<n->f i k=g i k):U1 m n f=U1 m n g:=
 List.map_congr_left fun i hi=>x0B fun k hk=>h i k (mem_range.1 hi) hk
def o0c {n k:Nat}{f:Nat->Int}{v:Int}:(V2 n f).set k v=V2 n fun j=>if j=k then v else f j:=by
 refine ext_getElem X' fun i h1 c=>?_;simp only[V2,getElem_set,getElem_map,getElem_range];omega
def m0L {m n i:Nat}{f:Nat->Nat->Int}{g:Nat->Int}:(U1 m n f).set i (V2 n g)=U1 m n fun a=>if a=i then g else f a:=by
 refine ext_getElem X' fun j h1 c=>?_;simp only[U1,getElem_set,getElem_map,getElem_range]
 grind
def G07 (n:Nat):List.replicate n (0:Int)=V2 n fun _=>0:=by
 refine ext_getElem X' fun i h1 c=>?_;simp[V2]
def I0t (m n:Nat):List.replicate m (V2 n fun _=>0)=U1 m n fun _ _=>0:=by
 refine ext_getElem X' fun i h1 c=>?_;simp[U1]
section
variable {F n:Nat}{fB fD:Nat->Nat->Int}
def u0f (hn:n<=1000)(h:2000<F):e0y F (n:Int)=some (U1 n n fun _ _=>0):=by
 unfold e0y;have g:R2 24 (n:Int)=true:=by grind [R2]
 have f:R2 8 (n:Int)=true:=by grind [R2]
 have:=H3 (step:=l0F F (n:Int) (n:Int)) (fun i=>((i:Int),List.replicate i (V2 n fun _=>0)++List.replicate (n-i) ([]:List Int))) (U1 n n fun _ _=>0) n (fun i hi=>.inl ?_) ?_ n 0 F O' O'
 ·grind
 ·unfold l0F;have h1:(i:Int)<(n:Int):=O'
  have d:y0 (List.replicate i (V2 n fun _=>0)++List.replicate (n-i) ([]:List Int)) (i:Int)=true:=V0 O' (by grind);have c:(List.replicate i (V2 n fun _=>0)++List.replicate (n-i) ([]:List Int)).set i (V2 n fun _=>0)=List.replicate (i+1) (V2 n fun _=>0)++List.replicate (n-(i+1)) ([]:List Int):=by
   rw[List.set_append_right _ _ X',List.length_replicate,Nat.sub_self,show n-i=(n-(i+1))+1 from O',List.replicate_succ,List.set_cons_zero,List.replicate_succ' (n:=i),List.append_assoc];rfl
  simp only[h1,decide_true,if_true,f,d,toNat_natCast,G07,c,X1 (i:=i) O']
 simp[l0F,I0t]
def g0x (n:Nat)(fB:Nat->Nat->Int)(i k:Nat):Int:=if i<n/\k<n then fB i k else 0
def e0R (n:Nat)(fD:Nat->Nat->Int)(i k:Nat):Int:=if i<n/\k<n then fD i k else if i<n/\k=n then 1 else if i=n/\k<n then -1 else 0
def H0m (h:a0y n fB fD):a0y (n+1) (g0x n fB) (e0R n fD) where
 b0 i k hi hk:=by unfold g0x;split;exact h.b0 i k O' O';omega
 bd i hi:=by unfold g0x;split;exact h.bd i O';rfl
 dd i hi:=by
  unfold e0R;split
  ·exact h.dd i O'
  omega
 d1 i k hi hk hne:=by
  unfold e0R
  by_cases h1:i<n/\k<n
  ·rw[if_pos h1];exact h.d1 i k h1.1 h1.2 hne
  omega
 dn i k hi hk:=by
  unfold e0R
  by_cases h1:i<n/\k<n
  ·rw[if_pos h1,if_pos ⟨h1.2,h1.1⟩];exact h.dn i k h1.1 h1.2
  omega
def D0X {m:Nat}(hm:n<=m)(f g:Nat->Int):j4 (V2 m f) (V2 n g)=V2 m fun k=>if k<n then g k else f k:=by
 unfold j4;refine ext_getElem Y' fun i h1 c=>?_
 by_cases e:i<n
 ·simp_all[V2]
 simp_all[V2,if_neg]
def sB (n:Nat)(fB:Nat->Nat->Int)(i a k:Nat):Int:=if a<i/\k<n then fB a k else 0
def sD (n:Nat)(fD:Nat->Nat->Int)(i a k:Nat):Int:=if a<i/\k<n then fD a k else if a<i/\k=n then 1 else if a=n/\k<i then -1 else 0
def B0O (hn:n<=900)(f:2000<F)(h:a0y n fB fD):k0L F (U2 n fB fD)=some (U2 (n+1) (g0x n fB) (e0R n fD)):=by
 unfold k0L;rw[j0W O' f h];have hlen:((U2 n fB fD).B.length:Int)=(n:Int):=by simp[U2]
 simp only[q0,hlen,X1 (i:=n) O',u0f (n:=n+1) (F:=F) O' f];have:=H3 (step:=i0O F (U2 n fB fD)) (fun i=>((i:Int),U1 (n+1) (n+1) (sB n fB i),U1 (n+1) (n+1) (sD n fD i))) (U1 (n+1) (n+1) (g0x n fB),U1 (n+1) (n+1) (e0R n fD)) n (fun i hi=>.inl ?_) ?_ n 0 F O' O'
 ·have j:U1 (n+1) (n+1) (sB n fB 0)=U1 (n+1) (n+1) fun _ _=>0:=d0F fun i k _ _=>by rfl
  have g:U1 (n+1) (n+1) (sD n fD 0)=U1 (n+1) (n+1) fun _ _=>0:=d0F fun i k _ _=>by simp[sD]
  grind [U2]
 ·unfold i0O;have h1:(i:Int)<(n:Int):=O'
  have c:i<n+1:=O'
  have d:n<n+1:=O'
  simp only[hlen,h1,decide_true,if_true];simp only[U2,H9 _ hi,H9 _ c,R8 _ hi,R8 _ c,if_true,D0X (show n<=n+1 from O'),toNat_natCast,m0L,H9 _ d,a0k _ d,R8 _ d,o0c,a0k _ c,X1 (i:=i) O'];congr 1;congr 1;congr 1;congr 1
  ·refine d0F fun a k ha hk=>?_;unfold sB
   by_cases e:a=i
   ·simp_all
   ·simp only[e,if_false];omega
  ·unfold sD
   grind
 ·unfold i0O;have h1:¬((n:Int)<(n:Int)):=O'
  simp only[q0,hlen,h1];congr 1
def M02 (hn:n<=1000)(d:2000<F):J08 F (n:Int)=some (U1 n n fun _ _=>0,U1 n n fun _ _=>0):=by
 unfold J08;have:=H3 (step:=J0O F (n:Int)) (fun i=>((i:Int),(U1 i n fun _ _=>0,U1 i n fun _ _=>0))) (U1 n n fun _ _=>0,U1 n n fun _ _=>0) n (fun i hi=>.inl ?_) ?_ n 0 F O' O'
 ·have f:iter (J0O F (n:Int)) F (0,([],[]))=_:=this
  simp_all
 ·unfold J0O;have h1:(i:Int)<(n:Int):=O'
  have hm:R2 8 (n:Int)=true:=by grind [R2]
  have c:K0 24 (U1 i n fun _ _=>0) [V2 n fun _=>0]=true:=by simp[K0];omega
  have hs:U1 (i+1) n (fun _ _=>0)=U1 i n (fun _ _=>0)++[V2 n fun _=>0]:=P0I _ i;simp only[h1,decide_true,if_true,hm,toNat_natCast,G07,c,hs,X1 (i:=i) O']
 simp[J0O]
def F3 (f:Nat->Nat->Int)(g:Nat->Nat->Int)(i k a j:Nat):Int:=if a=i/\j<k then f a j else g a j
def P0c (hn:n<=900)(m:2000<F){i:Nat}(hi:i<n)(f g:Nat->Nat->Int):iter (K0f F (U2 n fB fD) (i:Int)) F (0,U1 (n+1) (n+1) f,U1 (n+1) (n+1) g)=some (U1 (n+1) (n+1) (F3 fB f i n),U1 (n+1) (n+1) (F3 fD g i n)):=by
 have hlen:((U2 n fB fD).B.length:Int)=(n:Int):=by simp[U2]
 have c:i<n+1:=O'
 have:=H3 (step:=K0f F (U2 n fB fD) (i:Int)) (fun k=>((k:Int),U1 (n+1) (n+1) (F3 fB f i k),U1 (n+1) (n+1) (F3 fD g i k))) (U1 (n+1) (n+1) (F3 fB f i n),U1 (n+1) (n+1) (F3 fD g i n)) n (fun k hk=>.inl ?_) ?_ n 0 F O' O'
 ·have e:∀(u v:Nat->Nat->Int),U1 (n+1) (n+1) (F3 u v i 0)=U1 (n+1) (n+1) v:=fun u v=>d0F fun a j _ _=>by simp[F3]
  simp_all
 ·unfold K0f;have h1:(k:Int)<(n:Int):=O'
  have d:k<n+1:=O'
  have e:∀(u v:Nat->Nat->Int),U1 (n+1) (n+1) (fun a=>if a=i then(fun j=>if j=k then u i k else F3 u v i k i j)else F3 u v i k a)=U1 (n+1) (n+1) (F3 u v i (k+1)):=fun u v=>d0F fun a j _ _=>by
   unfold F3
   by_cases h:a=i
   ·subst h
    grind
   simp_all
  simp only[hlen,h1,decide_true,if_true];simp only[U2,H9 _ hi,H9 _ c,R8 _ hi,R8 _ c,a0k _ hk,a0k _ d,b0y _ hk,if_true,toNat_natCast,o0c,m0L,e,X1 (i:=k) O']
 simp_all[K0f]
def P08 (hn:n<=900)(f:2000<F)(h:a0y n fB fD):K0a F (U2 n fB fD)=some (U2 (n+1) (g0x n fB) (e0R n fD)):=by
 unfold K0a;have hlen:((U2 n fB fD).B.length:Int)=(n:Int):=by simp[U2]
 rw[hlen,j0J O' f h];simp only[q0,X1 (i:=n) O',M02 (n:=n+1) (F:=F) O' f];have:=H3 (step:=J0t F (U2 n fB fD)) (fun i=>((i:Int),U1 (n+1) (n+1) (sB n fB i),U1 (n+1) (n+1) (sD n fD i))) (U1 (n+1) (n+1) (g0x n fB),U1 (n+1) (n+1) (e0R n fD)) n (fun i hi=>.inl ?_) ?_ n 0 F O' O'
 ·have m:U1 (n+1) (n+1) (sB n fB 0)=U1 (n+1) (n+1) fun _ _=>0:=d0F fun i k _ _=>by rfl
  have j:U1 (n+1) (n+1) (sD n fD 0)=U1 (n+1) (n+1) fun _ _=>0:=d0F fun i k _ _=>by simp[sD]
  grind [U2]
 ·unfold J0t;have h1:(i:Int)<(n:Int):=O'
  have c:i<n+1:=O'
  have d:n<n+1:=O'
  simp only[q0,hlen,h1,P0c hn f hi];simp only[H9 _ c,R8 _ c,if_true,toNat_natCast,m0L,H9 _ d,a0k _ d,R8 _ d,o0c,a0k _ c,X1 (i:=i) O'];congr 1;congr 1;congr 1;congr 1
  ·refine d0F fun a k ha hk=>?_;unfold F3 sB;omega
  ·refine d0F fun a k ha hk=>?_;have g:¬n=i:=O'
   unfold F3 sD
   by_cases e:a=n
   ·simp only[if_true,g,if_false,false_and]
    grind
   grind
 ·unfold J0t;have h1:¬((n:Int)<(n:Int)):=O'
  simp only[q0,hlen,h1];congr 1
end
def D1 (l:List Nat):List Int:=l.map fun n:Nat=>(n:Int)
@[simp] def e0b (l:List Nat):(D1 l).length=l.length:=by simp[D1]
def h0N {l:List Nat}{i:Nat}(h:i<l.length):gt (D1 l) (i:Int)=((l[i]:Nat):Int):=X2 (by simp[D1,h])
def q9 {l:List Nat}{i:Nat}(h:i<l.length):y0 (D1 l) (i:Int)=true:=V0 O' Y'
def e09 (fD:Nat->Nat->Int)(P6:Int)(i:Nat):Int:=if P6<0 then(i:Int)else if 0<fD i P6.toNat then(i:Int)else P6
def D8 (fD:Nat->Nat->Int)(of:List Nat):Int:=of.foldl (e09 fD) (-1)
def m0z {α:Type}{l:List α}{i:Nat}(h:i<l.length):l.take (i+1)=l.take i++[l[i]]:=by rw[take_succ,List.getElem?_eq_getElem h];rfl
def y0Q (fD:Nat->Nat->Int)(l:List Nat)(i:Nat):D8 fD (l++[i])=e09 fD (D8 fD l) i:=by simp[D8]
def j07 {n:Nat}{fD:Nat->Nat->Int}(of:List Nat)(h:∀i∈of,i<n):D8 fD of=-1\/∃k:Nat,D8 fD of=k/\k<n:=by
 have:∀(of:List Nat) (b:Int),(b=-1\/∃k:Nat,b=k/\k<n)->(∀i∈of,i<n)->(of.foldl (e09 fD) b=-1\/∃k:Nat,of.foldl (e09 fD) b=k/\k<n):=by
  intro of
  induction of with
  |nil=>intro b c _;exact c
  |cons x r ih=>
   intro b c hi;refine ih _ ?_ (fun i h=>hi i (List.mem_cons_of_mem _ h));have d:=hi x X';unfold e09;split
   ·exact .inr ⟨x,rfl,d⟩
   ·split
    ·exact .inr ⟨x,rfl,d⟩
    ·exact c
 exact this of (-1) (.inl rfl) h
section
variable {F n:Nat}{fB fD:Nat->Nat->Int}
def z0o (hn:n<=1000)(o:2000<F)(h:a0y n fB fD)(of:List Nat)(p:of.length<=1000)(hi:∀i∈of,i<n):j0N F (U2 n fB fD) (D1 of)=some (D8 fD of):=by
 unfold j0N;rw[j0W hn o h];simp only[q0,I8];have:=H3 (step:=k09 F (U2 n fB fD) (D1 of)) (fun i=>(D8 fD (of.take i),(i:Int))) (D8 fD of) of.length (fun i c=>.inl ?_) ?_ of.length 0 F O' O'
 ·exact this
 ·unfold k09 e0F;have h1:(i:Int)<((D1 of).length:Int):=by simp;omega
  have g:=hi of[i] (getElem_mem c);have r:((of[i]:Nat):Int)>=0:=O'
  have q:((of[i]:Nat):Int)<((U2 n fB fD).B.length:Int):=by simp[U2];omega
  simp only[q0,h1,q9 c,h0N c,r,q,I8,m0z c,y0Q,X1 (i:=i) O'];have m:=j07 (fD:=fD) (of.take i) (n:=n) (fun i h=>hi i (List.mem_of_mem_take h));generalize D8 fD (of.take i)=b at *;rcases m with rfl|⟨k,rfl,hk⟩
  ·simp[e09,G0]
  ·have f:¬((k:Int)<0):=O'
   simp only[q0,U2,f,H9 _ g,R8 _ g,a0k _ hk,b0y _ hk,e09,toNat_natCast]
   by_cases d:0<fD of[i] k
   ·have j:fD of[i] k>0:=d;simp[d,G0]
   ·simp[d,G0]
 ·unfold k09;have h1:¬((of.length:Int)<((D1 of).length:Int)):=X'
  simp only[q0,h1,take_length]
def O0U (hn:n<=1000)(f:2000<F)(h:a0y n fB fD)(of:List Nat)(o:of.length<=1000)(hi:∀i∈of,i<n):K02 F (U2 n fB fD) (D1 of)=some (D8 fD of):=by
 unfold K02;have hlen:((U2 n fB fD).B.length:Int)=(n:Int):=by simp[U2]
 rw[I8];have:=H3 (step:=K0A F (U2 n fB fD) (D1 of)) (fun i=>(D8 fD (of.take i),(i:Int))) (D8 fD of) of.length (fun i c=>.inl ?_) ?_ of.length 0 F O' O'
 ·exact this
 ·unfold K0A;have h1:(i:Int)<((D1 of).length:Int):=by simp;omega
  have g:=hi of[i] (getElem_mem c);have q:¬((of[i]:Nat):Int)<0:=O'
  have p:¬((of[i]:Nat):Int)>=(n:Int):=O'
  simp only[q0,hlen,j0J hn f h,h1,q9 c,h0N c,q,p,I8,m0z c,y0Q,X1 (i:=i) O'];have m:=j07 (fD:=fD) (of.take i) (n:=n) (fun i h=>hi i (List.mem_of_mem_take h));generalize D8 fD (of.take i)=b at *;rcases m with rfl|⟨k,rfl,hk⟩
  ·simp[e09,G0]
  ·have d:¬((k:Int)<0):=O'
   simp only[q0,U2,d,H9 _ g,R8 _ g,a0k _ hk,b0y _ hk,e09,toNat_natCast]
   by_cases j:0<fD of[i] k
   ·simp[j,G0]
   ·simp[j,G0]
 ·unfold K0A;have h1:¬((of.length:Int)<((D1 of).length:Int)):=X'
  simp only[q0,hlen,j0J hn f h,h1,take_length]
end
def a0B (b t:Int):Int:=if W (t+1)<b then W (t+1)else b
def n9 (fB fD:Nat->Nat->Int)(a b:Nat)(p q:B0):Int:=
 if a0B (fB a b) p.Turn>a0B (fB b a) q.Turn then 1 else if a0B (fB a b) p.Turn<a0B (fB b a) q.Turn then -1 else fD a b
def f0E (fB fD:Nat->Nat->Int)(fr:List Nat)(hops:List B0)(P6:Int)(i:Nat):Int:=
 if P6<0 then(i:Int)else if 0<n9 fB fD (fr.getD i 0) (fr.getD P6.toNat 0) (gt hops (i:Int)) (gt hops P6)then(i:Int)else P6
def c00 (fB fD:Nat->Nat->Int)(fr:List Nat)(hops:List B0)(k:Nat):Int:=(List.range k).foldl (f0E fB fD fr hops) (-1)
def f0I (fB fD:Nat->Nat->Int)(fr:List Nat)(hops:List B0):Int:=c00 fB fD fr hops fr.length
def n0n (fB fD:Nat->Nat->Int)(fr:List Nat)(hops:List B0)(k:Nat):c00 fB fD fr hops (k+1)=f0E fB fD fr hops (c00 fB fD fr hops k) k:=by simp[c00,range_succ]
def v03 (fB fD:Nat->Nat->Int)(fr:List Nat)(hops:List B0):∀k,c00 fB fD fr hops k=-1\/∃j:Nat,c00 fB fD fr hops k=j/\j<k:=by
 intro k
 induction k with
 |zero=>exact .inl rfl
 |succ k ih=>
  rw[n0n];unfold f0E;split
  ·exact .inr ⟨k,rfl,O'⟩
  ·split
   ·exact .inr ⟨k,rfl,O'⟩
   ·rcases ih with h|⟨j,h,hj⟩
    ·exact .inl h
    ·exact .inr ⟨j,h,O'⟩
section
variable {F n:Nat}{fB fD:Nat->Nat->Int}{fr:List Nat}{hops:List B0}
def a0T {l:List Nat}{i:Nat}(h:i<l.length):gt (D1 l) (i:Int)=((l.getD i 0:Nat):Int):=by rw[h0N h];simp[List.getD,h]
def P8 (hi:∀i∈fr,i<n){i:Nat}(h:i<fr.length):fr.getD i 0<n:=by
 have:=hi fr[i] (getElem_mem h);simpa[List.getD,h]using this
def l0i (hlen:hops.length=fr.length)(hi:∀i∈fr,i<n){i k:Nat}(h1:i<fr.length)(c:k<fr.length):
  f0n F ⟨U2 n fB fD,D1 fr,hops⟩ (i:Int) (k:Int)=some (a0B (fB (fr.getD i 0) (fr.getD k 0)) (gt hops (i:Int)).Turn):=by
 have x1:=P8 hi h1;have x2:=P8 hi c;unfold f0n a0B;simp only[U2,q9 h1,q9 c,a0T h1,a0T c,H9 _ x1,R8 _ x1,a0k _ x2,b0y _ x2,if_true,V0 (l:=hops) (i:=(i:Int)) O' O']
def t0w (hlen:hops.length=fr.length)(hi:∀i∈fr,i<n){i k:Nat}(h1:i<fr.length)(c:k<fr.length):
  g0U F ⟨U2 n fB fD,D1 fr,hops⟩ (i:Int) (k:Int)=some (n9 fB fD (fr.getD i 0) (fr.getD k 0) (gt hops (i:Int)) (gt hops (k:Int))):=by
 have x1:=P8 hi h1;have x2:=P8 hi c;unfold g0U n9;rw[l0i hlen hi h1 c,l0i hlen hi c h1];simp only[G0,U2,q9 h1,q9 c,a0T h1,a0T c,H9 _ x1,R8 _ x1,a0k _ x2,b0y _ x2,if_true,decide_eq_true_eq];split
 ·rfl
 ·split<;>rfl
def M0U (b t:Int):r03 F b t=some (a0B b t):=by
 unfold r03 a0B
 by_cases h:b<W (t+1)
 ·simp only[h,decide_true,if_true];rw[if_neg O']
 ·simp only[q0,h]
  by_cases c:W (t+1)<b
  ·rw[if_pos c]
  ·rw[if_neg c];congr 1;omega
def M01 {a b:Nat}(ha:a<n)(c:b<n)(p q:B0):J0Q F (U2 n fB fD) (a:Int) (b:Int) p q=some (n9 fB fD a b p q):=by
 unfold J0Q n9;simp only[U2,H9 _ ha,H9 _ c,R8 _ ha,R8 _ c,a0k _ ha,a0k _ c,b0y _ ha,b0y _ c,if_true,M0U,G0,decide_eq_true_eq];split
 ·rfl
 ·split<;>rfl
def z0O (hn:n<=1000)(p:2000<F)(h:a0y n fB fD)(hlen:hops.length=fr.length)(m:fr.length<=1000)(hi:∀i∈fr,i<n):h0B F (U2 n fB fD) (D1 fr) hops=some (f0I fB fD fr hops):=by
 unfold h0B;rw[j0W hn p h];have g:(if(hops.length:Int)<((D1 fr).length:Int)then(hops.length:Int)else((D1 fr).length:Int))=(fr.length:Int):=by rw[e0b,hlen];simp
 simp only[q0,I8,g];have:=H3 (step:=l0L F (U2 n fB fD) (D1 fr) hops (fr.length:Int)) (fun i=>(c00 fB fD fr hops i,(i:Int))) (f0I fB fD fr hops) fr.length (fun i c=>.inl ?_) ?_ fr.length 0 F O' O'
 ·exact this
 ·unfold l0L e0F;have h1:(i:Int)<(fr.length:Int):=O'
  have s:=P8 hi c;have r:((fr.getD i 0:Nat):Int)>=0:=O'
  have q:((fr.getD i 0:Nat):Int)<((U2 n fB fD).B.length:Int):=by simp only[U2,v0W];omega
  simp only[q0,h1,q9 c,a0T c,r,q,I8,n0n,X1 (i:=i) O'];have o:=v03 fB fD fr hops i;generalize c00 fB fD fr hops i=b at *;rcases o with rfl|⟨k,rfl,hk⟩
  ·simp[f0E,G0]
  ·have j:¬((k:Int)<0):=O'
   simp only[q0,j,t0w hlen hi c (show k<fr.length from O'),f0E,toNat_natCast]
   by_cases f:0<n9 fB fD (fr.getD i 0) (fr.getD k 0) (gt hops (i:Int)) (gt hops (k:Int))
   ·have d:n9 fB fD (fr.getD i 0) (fr.getD k 0) (gt hops (i:Int)) (gt hops (k:Int))>0:=f;simp only[q0,f,d]
   ·have d:¬n9 fB fD (fr.getD i 0) (fr.getD k 0) (gt hops (i:Int)) (gt hops (k:Int))>0:=f;simp only[q0,f,d]
 ·unfold l0L;have h1:¬((fr.length:Int)<(fr.length:Int)):=O'
  simp only[q0,h1];rfl
def M0P (hn:n<=1000)(r:2000<F)(h:a0y n fB fD)(hlen:hops.length=fr.length)(t:fr.length<=1000)(hi:∀i∈fr,i<n):u0a F (U2 n fB fD) (D1 fr) hops=some (f0I fB fD fr hops):=by
 unfold u0a;have g:((U2 n fB fD).B.length:Int)=(n:Int):=by simp[U2]
 rw[I8];have:=H3 (step:=K0k F (U2 n fB fD) (D1 fr) hops) (fun i=>(c00 fB fD fr hops i,(i:Int))) (f0I fB fD fr hops) fr.length (fun i c=>.inl ?_) ?_ fr.length 0 F O' O'
 ·exact this
 ·unfold K0k;have h1:(i:Int)<((D1 fr).length:Int):=by simp;omega
  have j:(i:Int)<(hops.length:Int):=O'
  have s:=P8 hi c;have v:¬((fr.getD i 0:Nat):Int)<0:=O'
  have w:¬((fr.getD i 0:Nat):Int)>=(n:Int):=O'
  have o:y0 hops (i:Int)=true:=V0 O' j;simp only[q0,g,j0J hn r h,h1,j,q9 c,a0T c,v,w,I8,n0n,X1 (i:=i) O',o];have u:=v03 fB fD fr hops i;generalize c00 fB fD fr hops i=b at *;rcases u with rfl|⟨k,rfl,hk⟩
  ·simp[f0E,G0]
  ·have q:¬((k:Int)<0):=O'
   have d:k<fr.length:=O'
   have p:y0 hops (k:Int)=true:=V0 O' O';simp only[q0,q,q9 d,a0T d,p,M01 s (P8 hi d),f0E,toNat_natCast]
   by_cases m:0<n9 fB fD (fr.getD i 0) (fr.getD k 0) (gt hops (i:Int)) (gt hops (k:Int))
   ·have f:n9 fB fD (fr.getD i 0) (fr.getD k 0) (gt hops (i:Int)) (gt hops (k:Int))>0:=m;simp only[q0,m,f]
   ·have f:¬n9 fB fD (fr.getD i 0) (fr.getD k 0) (gt hops (i:Int)) (gt hops (k:Int))>0:=m;simp only[q0,m,f]
 ·unfold K0k;have h1:¬((fr.length:Int)<((D1 fr).length:Int)):=X'
  simp only[q0,g,j0J hn r h,h1];rfl
end
def Z9 (now none_:Int)(tags:List Int)(marks:List J2):List Int:=marks.foldl (T4 now none_) tags
def A0z (now none_:Int)(o:List Int)(m:J2):(T4 now none_ o m).length=o.length:=by
 unfold T4;split
 ·rfl
 ·split
  ·simp
  ·split
   ·simp
   ·split
    ·simp
    ·rfl
def e0V (now none_:Int):∀(marks:List J2) (o:List Int),(Z9 now none_ o marks).length=o.length
 |[],o=>rfl
 |m :: r,o=>by
  have h:=e0V now none_ r (T4 now none_ o m);rw[A0z]at h;exact h
section
variable {F:Nat}
theorem o0k {tags:List Int}{marks:List J2}{now none_:Int}(c:tags.length<=1000)(hm:marks.length<=1000000000):d0G F tags marks now none_=some (Z9 now none_ tags marks):=by
 unfold d0G;rw[if_pos (by simp[K0];omega)];rfl
def O0B {marks:List J2}{now none_:Int}{o:List Int}(v:o.length<=1000){i:Nat}(hi:i<marks.length)(hm:marks.length<=1000000000):
  J0S F marks now none_ ((i:Int),o)=some (.next (((i+1:Nat):Int),T4 now none_ o (gt marks (i:Int)))):=by
 unfold J0S T4;have h1:(i:Int)<(marks.length:Int):=O'
 have g:y0 marks (i:Int)=true:=V0 O' h1;simp only[h1,decide_true,if_true,g,X1 (i:=i) O'];generalize gt marks (i:Int)=m
 by_cases k:m.Group<1
 ·simp[k,G0]
 ·by_cases p:m.Group>(o.length:Int)
  ·have c:((o.length:Int)-1) / 2<m.Group:=O'
   simp[k,p,c,G0]
  ·have u:W (2*m.Group)=2*m.Group:=E3 O' O';have f:W (2*m.Group-1)=2*m.Group-1:=E3 O' O';simp only[q0,k,p,u,f]
   by_cases r:2*m.Group>=(o.length:Int)
   ·have c:((o.length:Int)-1) / 2<m.Group:=O'
    simp only[q0,r,c,or_true]
   ·have c:¬((o.length:Int)-1) / 2<m.Group:=O'
    have d:y0 o (2*m.Group-1)=true:=V0 O' O';have h:y0 o (2*m.Group)=true:=V0 O' O';have j:y0 (o.set (2*m.Group-1).toNat none_) (2*m.Group)=true:=V0 O' Y';simp only[q0,r,c,or_self,d,h,j,beq_iff_eq]
    by_cases q:m.Kind=1
    ·simp[q,G0]
    ·by_cases t:m.Kind=2
     ·simp[t,G0]
     ·by_cases s:m.Kind=3
      ·simp[s,G0]
      ·simp[q,t,s,G0]
theorem L0R {tags:List Int}{marks:List J2}{now none_:Int}(d:tags.length<=1000)(hm:marks.length<=1000000000)(c:marks.length<F):A0E F tags marks now none_=some (Z9 now none_ tags marks):=by
 unfold A0E;rw[if_pos (by simp[K0];omega),I8,List.nil_append];have:=H3 (step:=J0S F marks now none_) (fun i=>((i:Int),Z9 now none_ tags (marks.take i))) (Z9 now none_ tags marks) marks.length (fun i hi=>.inl ?_) ?_ marks.length 0 F O' c
 ·exact this
 ·rw[O0B (by rw[e0V];exact d) hi hm];have hs:marks.take (i+1)=marks.take i++[gt marks (i:Int)]:=by rw[take_succ,P4 hi];rfl
  simp only[Z9,hs,List.foldl_append,List.foldl_cons,List.foldl_nil]
 ·unfold J0S;have h1:¬((marks.length:Int)<(marks.length:Int)):=O'
  simp only[q0,h1,take_length]
def F0o {n:Nat}{x:Int}(d:1<=n)(hn:n<=1000):j0a F (n:Int) x=some (List.replicate n x):=by
 unfold j0a m0v;have h1:¬(n:Int)<1:=O'
 have c:(decide ((0:Int)<=(n:Int))&&decide ((n:Int)<=1000))=true:=by simp;omega
 simp only[q0,h1,I8,Go.X.i0q,c,toNat_natCast]
def Q0r {n:Nat}{x:Int}(hn:n<=1000)(d:2000<F):K0M F (n:Int) x=some (List.replicate n x):=by
 unfold K0M;rw[I8];have:=H3 (step:=K0U F (n:Int) x) (fun i=>(List.replicate i x,(i:Int))) (List.replicate n x) n (fun i hi=>.inl ?_) ?_ n 0 F O' O'
 ·exact this
 ·unfold K0U;have h1:(i:Int)<(n:Int):=O'
  have c:K0 8 (List.replicate i x) [x]=true:=by simp[K0];omega
  simp only[h1,decide_true,if_true,c,List.replicate_succ',X1 (i:=i) O']
 ·unfold K0U;have h1:¬((n:Int)<(n:Int)):=O'
  simp only[q0,h1]
end
structure U3 (l:List C0)(n:Nat)(a:List B0)(b:Nat->List B0)(e:Nat->B0×Bool)(z:B0×Bool)(F:Nat):Prop where
 hR:L2 l=true
 hl:l.length*64<=140737488351232
 hn:n=N0 l l.length
 T:r0T l n a b e z
 f1:2000001<F
 f2:l.length+1<F
 f3:1000000000<F
 TF:v0h l n a b e z F
def k0o (l:List C0)(at_:Int):List Int:=(List.replicate (C4 l).toNat (-1)).set 0 at_
def a07 (l:List C0):1<=C4 l/\C4 l<=19:=by have:=n0H l;unfold C4;omega
def B0S (l:List C0)(at_:Int):(k0o l at_).length=(C4 l).toNat:=by simp[k0o]
section
variable {l:List C0}{n:Nat}{a:List B0}{b:Nat->List B0}{e:Nat->B0×Bool}{z:B0×Bool}{F:Nat}{at_ work:Int}{pl:List Nat}{vals:List (List Int)}{fB fD:Nat->Nat->Int}
structure R3 (l:List C0)(n:Nat)(pl:List Nat)(vals:List (List Int))(fB fD:Nat->Nat->Int):Prop where
 len:vals.length=pl.length
 pln:∀p∈pl,p<n
 asc:pl.Pairwise fun a b=>a<b
 row:∀v∈vals,v.length=(C4 l).toNat
 rk:a0y pl.length fB fD
def u0W {n:Nat}:∀{pl:List Nat} {lo:Nat},(∀p∈pl,lo<=p/\p<n)->pl.Pairwise (fun a b=>a<b)->pl.length+lo<=n\/pl=[]
 |[],_,_,_=>.inr rfl
 |x :: r,lo,h,hp=>by
  obtain⟨h1,c⟩:=List.pairwise_cons.1 hp;have d:=h x X';rcases u0W (pl:=r) (lo:=x+1) (fun p hp=>⟨h1 p hp,(h p (List.mem_cons_of_mem _ hp)).2⟩) c with h3|h3
  ·refine .inl ?_;simp only[length_cons];omega
  ·subst h3;refine .inl ?_;simp only[length_cons,List.length_nil];omega
def R3.le (h:R3 l n pl vals fB fD):pl.length<=n:=by
 rcases u0W (lo:=0) (fun p hp=>⟨Nat.zero_le _,h.pln p hp⟩) h.asc with h1|h1
 ·omega
 ·simp[h1]
def s0N (l:List C0)(z:B0×Bool)(at_:Int):List Int×Bool:=if z.2 then(Z9 at_ (-1) (k0o l at_) (a7 l z.1.Steps),true)else([],false)
def E7 (e:Nat->B0×Bool)(pl:List Nat)(k:Nat):List Nat:=(List.range k).filter fun i=>(e (pl.getD i 0)).2
def F0K (e:Nat->B0×Bool)(pl:List Nat)(k:Nat):E7 e pl (k+1)=if(e (pl.getD k 0)).2 then E7 e pl k++[k]else E7 e pl k:=by
 unfold E7;rw[range_succ,List.filter_append]
 by_cases h:(e (pl.getD k 0)).2=true
 ·simp only[h,if_true,List.filter_cons,List.filter_nil]
 ·have h:(e (pl.getD k 0)).2=false:=by simpa using h
  simp only[h,false_eq_true,if_false,List.filter_cons,List.filter_nil,append_nil]
theorem w0M (e:Nat->B0×Bool)(pl:List Nat)(k:Nat):(E7 e pl k).length<=k:=Nat.le_trans (List.length_filter_le _ _) X'
def j0P {k i:Nat}(h:i∈E7 e pl k):i<k:=mem_range.1 (List.mem_filter.1 h).1
def g0m (r:List Nat)(i:Nat):D1 (r++[i])=D1 r++[(i:Int)]:=by simp[D1]
def B0o (l:List C0)(e:Nat->B0×Bool)(at_:Int)(pl:List Nat)(vals:List (List Int))(fD:Nat->Nat->Int):List Int×Bool:=
 if D8 fD (E7 e pl pl.length)<0 then([],false)else(Z9 at_ (-1) (gt vals (D8 fD (E7 e pl pl.length))) (a7 l (e (pl.getD (D8 fD (E7 e pl pl.length)).toNat 0)).1.Steps),true)
theorem I0B (C:R3 l n pl vals fB fD){k:Nat}(hk:k<pl.length):(gt vals (k:Int)).length<=1000:=by
 have c:=a07 l;have:=C.row _ (mem_of_getElem? (P4 (l:=vals) (i:=k) (by rw[C.len];exact hk)));omega
end
section
variable {F:Nat}
variable {l:List C0}{n:Nat}{a:List B0}{b:Nat->List B0}{e:Nat->B0×Bool}{z:B0×Bool}{at_ work:Int}{pl:List Nat}{vals:List (List Int)}{fB fD:Nat->Nat->Int}
end
def A0v (vals:List (List Int))(from_:Int)(k:Nat):List Nat:=(List.range k).filter fun(i:Nat)=>decide (gt (gt vals (i:Int)) 0<=from_)
section
variable {F:Nat}
variable {l:List C0}{n:Nat}{a:List B0}{b:Nat->List B0}{e:Nat->B0×Bool}{z:B0×Bool}{at_ work:Int}{pl:List Nat}{vals:List (List Int)}{fB fD:Nat->Nat->Int}
end
section
variable {F:Nat}{l:List C0}{n:Nat}{a:List B0}{b:Nat->List B0}{e:Nat->B0×Bool}{z:B0×Bool}{at_ work:Int}{pl:List Nat}{vals:List (List Int)}{fB fD:Nat->Nat->Int}
def o0q {st:List Nat}(h:st.Pairwise fun a b=>a<b){i k:Nat}(hk:k<st.length)(c:i<k):st.getD i 0<st.getD k 0:=by
 have:=List.pairwise_iff_getElem.1 h i k O' hk c;simpa[List.getD,hk,show i<st.length from O']using this
def x0y (C:R3 l n pl vals fB fD){st:List Nat}(hs:st.Pairwise fun a b=>a<b)(c:∀i∈st,i<pl.length):
  R3 l n (st.map fun i=>pl.getD i 0) (st.map fun i:Nat=>gt vals (i:Int)) (fun i k=>fB (st.getD i 0) (st.getD k 0)) (fun i k=>fD (st.getD i 0) (st.getD k 0)) where
 len:=X'
 pln p hp:=by
  obtain⟨i,hi,rfl⟩:=mem_map.1 hp;exact P8 C.pln (c i hi)
 asc:=by
  rw[List.pairwise_map];exact hs.imp_of_mem fun {x y} m f d=>o0q C.asc (c y f) d
 row v hv:=by
  obtain⟨i,hi,rfl⟩:=mem_map.1 hv;exact C.row _ (mem_of_getElem? (P4 (l:=vals) (i:=i) (by rw[C.len];exact c i hi)))
 rk:=by
  have g:∀i,i<(st.map fun i=>pl.getD i 0).length->i<st.length/\st.getD i 0<pl.length:=fun i hi=>by
   simp only[length_map]at hi;exact⟨hi,P8 c hi⟩
  refine⟨fun i k hi hk=>C.rk.b0 _ _ (g i hi).2 (g k hk).2,fun i hi=>C.rk.bd _ (g i hi).2,fun i hi=>C.rk.dd _ (g i hi).2,fun i k hi hk j=>C.rk.d1 _ _ (g i hi).2 (g k hk).2 ?_,fun i k hi hk=>C.rk.dn _ _ (g i hi).2 (g k hk).2⟩;rcases Nat.lt_or_ge i k with h|h
  ·have:=o0q hs (g k hk).1 h;omega
  ·have:=o0q hs (g i hi).1 (show k<i from O');omega
end
