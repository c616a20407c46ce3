/- P. Its conditions: none. -/
import Derived.Test.YtmhooikfkhjijaaGreatYG40
open List (map_append length_map take_succ mem_of_getElem? ext_getElem getElem_set getElem_map getElem_range take_length mem_range map_cons map_nil flatMap_cons append_nil)
open Bool (false_eq_true)
set_option linter.all false
namespace Go.Proofs.YtmhooikfkhjijaaGreat
open Go.V Go.RowKit Old
def A7 (M0:List C0)(n:Nat):Bool:=M0.any fun x=>x.Kind==7&&x.N==(n:Int)
def O8 (M0:List C0)(k:Nat):List Int:=((List.range k).filter (A7 M0)).map fun n:Nat=>(n:Int)
def p00 (M0:List C0):O8 M0 0=[]:=rfl
def u6 {α:Type}[Inhabited α]{l:List α}{i:Nat}(h:i<l.length):l[i]?=some (gt l (i:Int)):=by
 have:=i0e (R0 (l:=l) (i:=(i:Int)) (by omega) (by omega));simpa using this
def c0e (M0:List C0):List Int:=O8 M0 10
def Gok (M0:List C0):Prop:=∀x∈M0,x.Kind=7->1<=x.N/\x.N<=9
def n03 (M0:List C0)(k:Nat):O8 M0 (k+1)=if A7 M0 k then O8 M0 k++[(k:Int)]else O8 M0 k:=by
 unfold O8;rw[List.range_succ,List.filter_append,map_append];cases h:A7 M0 k<;>simp[h]
def l0I (M0:List C0)(k:Nat):(O8 M0 k).length<=k:=by
 unfold O8;rw[length_map];exact Nat.le_trans (List.length_filter_le _ _) (by simp)
def E0v {M0:List C0}(h:Gok M0):A7 M0 0=false:=by
 unfold A7;rw[List.any_eq_false];intro x c;simp;intro d f;have:=(h x c d).1;omega
def flags (M0:List C0):List Bool:=(List.range 10).map (A7 M0)
def E0m (M0:List C0){n:Nat}(h:n<10):gt (flags M0) (n:Int)=A7 M0 n:=by
 refine B4 ?_;simp[flags,h]
def B0I {M0:List C0}{i:Nat}(hi:i<M0.length)(hk:Gok M0):flags (M0.take (i+1))=if(gt M0 (i:Int)).Kind==7 then(flags (M0.take i)).set (gt M0 (i:Int)).N.toNat true else flags (M0.take i):=by
 have f:M0[i]?=some (gt M0 (i:Int)):=u6 hi;have d:M0.take (i+1)=M0.take i++[gt M0 (i:Int)]:=by rw[take_succ,f];rfl
 have hm:=hk _ (mem_of_getElem? f);generalize gt M0 (i:Int)=x at *;cases c:x.Kind==7
 ·simp only[if_false,false_eq_true];unfold flags;refine List.map_congr_left fun n _=>?_;simp[A7,d,c]
 ·simp only[if_true];have hm:=hm (by simpa using c);refine ext_getElem (by simp[flags]) fun n h1 g=>?_;simp only[flags,length_map,List.length_range]at h1;rw[getElem_set];simp only[flags,getElem_map,getElem_range];rw[show A7 (M0.take (i+1)) n=(A7 (M0.take i) n||(x.N==(n:Int)))from by simp[A7,d,c]];split
  ·rename_i e;have:x.N=(n:Int):=by omega
   simp[this]
  ·rename_i e;have:(x.N==(n:Int))=false:=by simp;omega
   simp[this]
section
variable {F:Nat}
def C0o {l:List C0}{q:Int}{low:List Int}{M0:List C0}(d:I1 l (gt low q) (W (q+1))=M0)(hk:Gok M0)(hl:M0.length<=400)(k:401<F):
  iter (h0R F l q low (M0.length:Int)) F (0,[false,false,false,false,false,false,false,false,false,false])=some (flags M0):=by
 have j:flags (M0.take 0)=[false,false,false,false,false,false,false,false,false,false]:=by simp[flags,A7];decide
 rw[<-j];have:=R4 (step:=h0R F l q low (M0.length:Int)) (fun i=>((i:Int),flags (M0.take i))) (flags M0) M0.length (fun i hi=>.inl ?_) ?_ M0.length 0 F (by omega) (by omega)
 ·exact this
 ·unfold h0R;have h1:(i:Int)<(M0.length:Int):=by omega
  have c:B0 M0 (i:Int)=true:=R0 (by omega) (by omega);have hm:=hk _ (mem_of_getElem? (i0e c));have h:W ((i:Int)+1)=((i+1:Nat):Int):=by rw[n3 (by omega) (by omega)];omega
  simp only[d,h1,decide_true,if_true,c,h];rw[B0I hi hk];cases f:(gt M0 (i:Int)).Kind==7
  ·simp only[q0]
  ·have hm:=hm (by simpa using f);have g:(decide (0<=(gt M0 (i:Int)).N)&&decide ((gt M0 (i:Int)).N<10))=true:=by simp;omega
   simp only[if_true,g,G0]
 ·unfold h0R;have h1:¬((M0.length:Int)<(M0.length:Int)):=by omega
  simp only[q0,h1,take_length]
def w0t {M0:List C0}(g:401<F):iter (g0J F (flags M0)) F ([],0)=some (c0e M0):=by
 have:=R4 (step:=g0J F (flags M0)) (fun i=>(O8 M0 i,(i:Int))) (c0e M0) 10 (fun i hi=>.inl ?_) ?_ 10 0 F (by omega) (by omega)
 ·rw[p00]at this;exact this
 ·unfold g0J;have h1:(i:Int)<10:=by omega
  have d:(0:Int)<=(i:Int):=by omega
  have f:W ((i:Int)+1)=((i+1:Nat):Int):=by rw[n3 (by omega) (by omega)];omega
  have c:I0 8 (O8 M0 i) [(i:Int)]=true:=by have:=l0I M0 i;simp[I0];omega
  simp only[h1,d,decide_true,if_true,Bool.and_self,E0m M0 hi,f,c];rw[n03];cases A7 M0 i<;>simp only[q0]
 ·unfold g0J;simp[c0e]
def B0a {l:List C0}{q lo:Nat}(k:q<l.length)(hl:l.length<=400)(f:lo<=q)(n:Nat)(m:401<F):
  iter (h0u F l (q:Int) (n:Int)) F (false,(lo:Int))=some (A7 (I1 l (lo:Int) ((q+1:Nat):Int)) n):=by
 have c:I1 l (lo:Int) ((q+1:Nat):Int)=(l.drop lo).take (q+1-lo):=by unfold I1;congr 1;omega
 have:=R4 (step:=h0u F l (q:Int) (n:Int)) (fun i=>(A7 ((l.drop lo).take i) n,((lo+i:Nat):Int))) (A7 (I1 l (lo:Int) ((q+1:Nat):Int)) n) (q+1-lo) (fun i hi=>.inl ?_) ?_ (q+1-lo) 0 F (by omega) (by omega)
 ·exact this
 ·unfold h0u;have h1:((lo+i:Nat):Int)<=(q:Int):=by omega
  have d:B0 l ((lo+i:Nat):Int)=true:=R0 (by omega) (by omega);have h:(l.drop lo)[i]?=some (gt l ((lo+i:Nat):Int)):=by rw[List.getElem?_drop];exact u6 (by omega)
  have g:(l.drop lo).take (i+1)=(l.drop lo).take i++[gt l ((lo+i:Nat):Int)]:=by rw[take_succ,h];rfl
  have j:W (((lo+i:Nat):Int)+1)=((lo+(i+1):Nat):Int):=by rw[n3 (by omega) (by omega)];omega
  have hg:A7 ((l.drop lo).take (i+1)) n=(A7 ((l.drop lo).take i) n||((gt l ((lo+i:Nat):Int)).Kind==7&&(gt l ((lo+i:Nat):Int)).N==(n:Int))):=by simp[A7,g]
  rw[hg];simp only[h1,decide_true,if_true,d,j,s9];cases A7 ((l.drop lo).take i) n<;>cases(gt l ((lo+i:Nat):Int)).Kind==7<;>simp[G0]
 ·unfold h0u;have h1:¬(((lo+(q+1-lo):Nat):Int)<=(q:Int)):=by omega
  simp only[q0,h1,c]
def C0S {l:List C0}{q lo:Nat}{low:List Int}(m:q<l.length)(hl:l.length<=400)(d:lo<=q)(f:B0 low (q:Int)=true)(hg:gt low (q:Int)=(lo:Int))(hk:Gok (I1 l (lo:Int) ((q+1:Nat):Int)))(j:401<F):
  iter (h0G F l (q:Int) low) F ([],1)=some (c0e (I1 l (lo:Int) ((q+1:Nat):Int))):=by
 generalize c:I1 l (lo:Int) ((q+1:Nat):Int)=M0 at *;have k:O8 M0 1=[]:=by rw[n03,E0v hk,p00];simp
 rw[<-k];have:=R4 (step:=h0G F l (q:Int) low) (fun i=>(O8 M0 (i+1),((i+1:Nat):Int))) (c0e M0) 9 (fun i hi=>.inl ?_) ?_ 9 0 F (by omega) (by omega)
 ·exact this
 ·unfold h0G;have h1:((i+1:Nat):Int)<=9:=by omega
  have h:W (((i+1:Nat):Int)+1)=((i+1+1:Nat):Int):=by rw[n3 (by omega) (by omega)];omega
  have g:I0 8 (O8 M0 (i+1)) [((i+1:Nat):Int)]=true:=by have:=l0I M0 (i+1);simp[I0];omega
  have hi:=B0a (F:=F) m hl d (i+1) j;rw[c]at hi;simp only[q0,h1,f,hg,hi,h,g];rw[n03 M0 (i+1)];cases A7 M0 (i+1)<;>simp only[q0]
 ·unfold h0G;simp[c0e]
def B08 {l:List C0}:∀{i:Nat} {a:List Int},T4 l i=some a->∀j:Nat,j<i->T8 (gt l (j:Int))=true:=by
 intro i
 induction i with
 |zero=>intro a _ j c;omega
 |succ i ih=>
  intro a h j c;unfold T4 at h;cases e:T4 l i with
  |none=>rw[e]at h;cases h
  |some b=>
   rw[e]at h;dsimp only at h;split at h
   ·rename_i hg;rcases Nat.lt_or_ge j i with h1|h1
    ·exact ih e j h1
    ·obtain rfl:j=i:=by omega
     simp only[K6,Bool.and_eq_true]at hg;exact hg.1.2
   ·cases h
structure s01 (l:List C0):Prop where
 ne:P4 l≠[]
 len:(P4 l).length=l.length
 rng:∀j:Nat,j<l.length->0<=gt (P4 l) (j:Int)/\gt (P4 l) (j:Int)<=j
 grp:∀x∈l,x.Kind=7->1<=x.N/\x.N<=9
 pos:0<l.length
 le:l.length<=400
def a0M {l:List C0}(hR:K1 l=true):s01 l:=by
 have d:P4 l≠[]:=by intro e;simp[K1,e]at hR
 have h:=d;unfold P4 at h;cases e:T4 l l.length with
 |none=>rw[e]at h;exact absurd rfl h
 |some a=>
  have c:=b0U e;rw[e]at h;dsimp only at h;split at h
  ·exact absurd rfl h
  ·rename_i hn;have i:P4 l=a:=by unfold P4;rw[e];dsimp only;rw[if_neg hn]
   refine⟨d,by rw[i];exact c.len,fun j f=>by rw[i];exact c.rng j f,fun x m k=>?_,by omega,by omega⟩;obtain⟨j,f,rfl⟩:=List.getElem_of_mem m;have g:=B08 e j f;have hg:gt l (j:Int)=l[j]:=B4 (List.getElem?_eq_getElem f);rw[hg]at g;simp[T8,k]at g;exact g.2
def Z3 (l:List C0)(q:Int):List Int:=if q<0\/(l.length:Int)<=q then[]else c0e (I1 l (gt (P4 l) q) (q+1))
def t0e {l:List C0}(c:401<F):R8 F l=some (P4 l):=B8 q09 (Old.s08 l c)
def E07 {l:List C0}(hR:K1 l=true)(hl:l.length*64<=140737488351232)(d:l.length+1<F):i0m F l=some (P4 l):=by
 obtain⟨b,h1,c⟩:=(u0x (F:=F) (l:=l)).run _ (Old.u0n l hl d);unfold i0m;rw[h1];cases b with
 |inl u=>exact absurd c (a0M hR).ne
 |inr y=>rw[c.1];rfl
def q0K {l:List C0}(h:s01 l)(a b:Int):Gok (I1 l a b):=fun x c d=>h.grp x (List.mem_of_mem_drop (List.mem_of_mem_take c)) d
def u0e {l:List C0}(hR:K1 l=true)(q:Int)(d:401<F):g0X F l q=some (Z3 l q):=by
 have h:=a0M hR;have i:=h.le;have hlen:=h.len;unfold g0X Z3;rw[t0e d];simp only[G0,hlen]
 by_cases g:q<0
 ·simp[g]
 ·by_cases h1:(l.length:Int)<=q
  ·have:q>=(l.length:Int):=h1;simp[g,this]
  ·obtain⟨n,rfl⟩:∃n:Nat,q=n:=⟨q.toNat,by omega⟩
   have hn:n<l.length:=by omega
   have m:=h.rng n hn;have j:W ((n:Int)+1)=(n:Int)+1:=n3 (by omega) (by omega);have k:¬((n:Int)>=(l.length:Int)):=h1;have c:I4 l (gt (P4 l) (n:Int)) ((n:Int)+1)=true:=by simp[I4];omega
   have f:B0 (P4 l) (n:Int)=true:=R0 (by omega) (by omega);simp only[q0,g,h1,k,f,j,c,or_self];rw[C0o (by rw[j]) (q0K h _ _) (by rw[c04 c];omega) d,G0,w0t d,G0]
def n0z {l:List C0}(hR:K1 l=true)(hl:l.length*64<=140737488351232)(q:Int)(k:401<F)(f:l.length+1<F):f0M F l q=some (Z3 l q):=by
 have h:=a0M hR;have d:=h.le;have hlen:=h.len;unfold f0M Z3;rw[E07 hR hl f];simp only[G0,hlen]
 by_cases i:q<0
 ·simp[i]
 ·by_cases h1:(l.length:Int)<=q
  ·have:q>=(l.length:Int):=h1;simp[i,this]
  ·obtain⟨n,rfl⟩:∃n:Nat,q=n:=⟨q.toNat,by omega⟩
   have hn:n<l.length:=by omega
   have j:=h.rng n hn;have m:¬((n:Int)>=(l.length:Int)):=h1;have g:B0 (P4 l) (n:Int)=true:=R0 (by omega) (by omega);obtain⟨lo,c⟩:∃lo:Nat,gt (P4 l) (n:Int)=lo:=⟨(gt (P4 l) (n:Int)).toNat,by omega⟩
   rw[c]at j;simp only[q0,i,h1,m,or_self,s9,c];exact C0S hn d (by omega) g c (q0K h _ _) k
end
def y0p {M0:List C0}{k:Nat}{x:Int}(h:x∈O8 M0 k):0<=x/\x<k:=by
 unfold O8 at h;obtain⟨n,hn,rfl⟩:=List.mem_map.1 h;have:=mem_range.1 (List.mem_filter.1 hn).1;omega
def r0v {l:List C0}{q x:Int}(h:x∈Z3 l q):0<=x/\x<10:=by
 unfold Z3 at h;split at h
 ·cases h
 ·exact y0p h
def f0F (l:List C0)(q:Int):(Z3 l q).length<=10:=by
 unfold Z3;split
 ·simp
 ·exact l0I _ 10
def o9 (l:List C0):Int:=(Z3 l ((l.length:Int)-1)).getLast?.getD 0
def l5 (l:List C0):Int:=1+2*o9 l
def g0o (l:List C0):0<=o9 l/\o9 l<10:=by
 unfold o9;cases h:(Z3 l ((l.length:Int)-1)).getLast? with
 |none=>simp
 |some x=>exact r0v (List.mem_of_getLast? h)
section
variable {F:Nat}
def B0H {l:List C0}(hR:K1 l=true)(f:401<F):k0p F l=some (o9 l):=by
 have h:=a0M hR;have d:=h.le;have c:=h.pos;unfold k0p o9;rw[show W ((l.length:Int)-1)=(l.length:Int)-1 from n3 (by omega) (by omega),u0e hR _ f,G0,s9];have m:=f0F l ((l.length:Int)-1);generalize Z3 l ((l.length:Int)-1)=g at *;have:=R4 (step:=h07 F g) (fun i=>((g.take i).getLast?.getD 0,(i:Int))) (g.getLast?.getD 0) g.length (fun i hi=>.inl ?_) ?_ g.length 0 F (by omega) (by omega)
 ·exact this
 ·unfold h07;have h1:(i:Int)<(g.length:Int):=by omega
  have k:W ((i:Int)+1)=((i+1:Nat):Int):=by rw[n3 (by omega) (by omega)];omega
  have j:g.take (i+1)=g.take i++[gt g (i:Int)]:=by rw[take_succ,u6 hi];rfl
  simp only[h1,decide_true,if_true,R0 (l:=g) (i:=(i:Int)) (by omega) h1,k,j,List.getLast?_append,List.getLast?_singleton,Option.some_or,Option.getD_some]
 ·unfold h07;have h1:¬((g.length:Int)<(g.length:Int)):=by omega
  simp only[q0,h1,take_length]
def E0F {l:List C0}(hR:K1 l=true)(hl:l.length*64<=140737488351232)(k:401<F)(c:l.length+1<F):j00 F l=some (o9 l):=by
 have h:=a0M hR;have i:=h.le;have f:=h.pos;unfold j00 o9;rw[show W ((l.length:Int)-1)=(l.length:Int)-1 from n3 (by omega) (by omega),n0z hR hl _ k c,G0];have o:=f0F l ((l.length:Int)-1);generalize Z3 l ((l.length:Int)-1)=g at *
 by_cases j:g=[]
 ·subst j;rfl
 ·have hp:0<g.length:=List.length_pos_iff.2 j;have d:((g.length:Int)==0)=false:=by simp;omega
  have m:W ((g.length:Int)-1)=((g.length-1:Nat):Int):=by rw[n3 (by omega) (by omega)];omega
  rw[if_neg (by rw[d];simp),m,if_pos (R0 (by omega) (by omega))];have:g.getLast?=some (gt g ((g.length-1:Nat):Int)):=by rw[List.getLast?_eq_getElem?,u6 (by omega)]
  rw[this];rfl
def D0E {l:List C0}(hR:K1 l=true)(c:401<F):j0A F l=some (l5 l):=by
 have d:=g0o l;unfold j0A l5;rw[B8 g0k (Old.c0Q l c),hR];simp only[q0,B0H hR c];rw[n3 (n:=2*o9 l) (by omega) (by omega),n3 (by omega) (by omega)]
def N9 (l:List C0)(s:Int):List G2:=
 if s<0\/(l.length:Int)<=s / 2 then[]else
 if(gt l (s / 2)).Kind=7 then[⟨1+s % 2,(gt l (s / 2)).N⟩]else
 if(gt l (s / 2)).Kind=8/\s % 2=0 then(Z3 l (s / 2)).map fun g=>⟨3,g⟩else[]
def m06 (l:List C0)(s:Int):(N9 l s).length<=10:=by
 unfold N9;have:=f0F l (s / 2);split
 ·simp
 ·split
  ·simp
  ·split
   ·rw[length_map];exact this
   ·simp
def N4 (l:List C0)(steps:List Int):List G2:=steps.flatMap (N9 l)
def u0Y {g:List Int}{step:List G2×Int->Option (V0 (List G2×Int) (List G2))}(c:∀o (i:Int),step (o,i)=if decide (i<(g.length:Int))then if B0 g i then if I0 16 o [(⟨3,gt g i⟩:G2)]then some (.next (o++[(⟨3,gt g i⟩:G2)],W (i+1)))else none else none else some (.done o))
  (hg:g.length<=10) (j:401<F) (o:List G2) (k:o.length<=100000000):iter step F (o,0)=some (o++g.map fun g=>⟨3,g⟩):=by
 have:=R4 (step:=step) (fun i=>(o++(g.take i).map fun g=>(⟨3,g⟩:G2),(i:Int))) (o++g.map fun g=>⟨3,g⟩) g.length (fun i hi=>.inl ?_) ?_ g.length 0 F (by omega) (by omega)
 ·simpa using this
 ·rw[c];have h1:(i:Int)<(g.length:Int):=by omega
  have h:W ((i:Int)+1)=((i+1:Nat):Int):=by rw[n3 (by omega) (by omega)];omega
  have f:g.take (i+1)=g.take i++[gt g (i:Int)]:=by rw[take_succ,u6 hi];rfl
  have d:I0 16 (o++(g.take i).map fun g=>(⟨3,g⟩:G2)) [(⟨3,gt g (i:Int)⟩:G2)]=true:=by simp[I0];omega
  simp only[h1,decide_true,if_true,R0 (l:=g) (i:=(i:Int)) (by omega) h1,h,f,d,map_append,map_cons,map_nil,List.append_assoc]
 ·rw[c];have h1:¬((g.length:Int)<(g.length:Int)):=by omega
  simp only[q0,h1,take_length]
def SOk (s:Int):Prop:=-9223372036854775808<=s/\s<=9223372036854775807
def y0m {l:List C0}(hR:K1 l=true)(t:401<F){s:Int}(x:SOk s):i0i F l s=some (N9 l s):=by
 have h:=a0M hR;have u:=h.le;unfold i0i N9
 by_cases v:s<0
 ·simp[v]
 ·obtain⟨n,rfl⟩:∃n:Nat,s=n:=⟨s.toNat,by omega⟩
  obtain⟨_,I⟩:=x;have R:(n:Int).tdiv 2=((n / 2:Nat):Int):=rfl;have J:(n:Int).tmod 2=((n % 2:Nat):Int):=rfl;have w:(n:Int) / 2=((n / 2:Nat):Int):=by omega
  have C:(n:Int) % 2=((n % 2:Nat):Int):=by omega
  have y:W ((n / 2:Nat):Int)=((n / 2:Nat):Int):=n3 (by omega) (by omega);simp only[q0,R,J,w,C,y,v,false_or]
  by_cases h1:(l.length:Int)<=((n / 2:Nat):Int)
  ·have c:((n / 2:Nat):Int)>=(l.length:Int):=h1;simp only[h1,c,decide_true,if_true]
  ·have c:¬((n / 2:Nat):Int)>=(l.length:Int):=h1;have m:B0 l ((n / 2:Nat):Int)=true:=R0 (by omega) (by omega);simp only[q0,h1,c,m];have q:((n % 2:Nat):Int)=0\/((n % 2:Nat):Int)=1:=by omega
   generalize ((n % 2:Nat):Int)=r at *;generalize ((n / 2:Nat):Int)=k at *
   by_cases d:(gt l k).Kind=7
   ·rcases q with rfl|rfl<;>simp[d,G0]
   ·have j:((gt l k).Kind==7)=false:=by simp[d]
    by_cases f:(gt l k).Kind=8
    ·rcases q with rfl|rfl
     ·have p:((gt l k).Kind==8)=true:=by simp[f]
      simp only[q0,j,p,f,d,beq_self_eq_true,and_self,u0e hR _ t,s9];have:=u0Y (F:=F) (g:=Z3 l k) (step:=p0y F (Z3 l k)) (fun o i=>rfl) (f0F _ _) t [] (by simp);simpa using this
     ·simp[d,f,G0]
    ·simp[d,f,G0]
def n0Q {l:List C0}(hR:K1 l=true){st:List Int}(j:st.length<=2000000)(k:2000001<F)(f:∀s∈st,SOk s):f0w F l st=some (N4 l st):=by
 unfold f0w;rw[B8 g0k (Old.c0Q l (by omega)),hR];simp only[q0,s9];have hlen:∀i,i<=st.length->(N4 l (st.take i)).length<=10*i:=by
  intro i
  induction i with
  |zero=>intro _;simp[N4]
  |succ i ih=>
   intro hi;have:=ih (by omega);have g:=m06 l (gt st (i:Int));rw[show st.take (i+1)=st.take i++[gt st (i:Int)]from by rw[take_succ,u6 (by omega)];rfl];simp only[N4,List.flatMap_append,List.length_append,flatMap_cons,List.flatMap_nil,append_nil]at *;omega
 have:=R4 (step:=i0N F l st) (fun i=>(N4 l (st.take i),(i:Int))) (N4 l st) st.length (fun i hi=>.inl ?_) ?_ st.length 0 F (by omega) (by omega)
 ·exact this
 ·unfold i0N;have h1:(i:Int)<(st.length:Int):=by omega
  have h:W ((i:Int)+1)=((i+1:Nat):Int):=by rw[n3 (by omega) (by omega)];omega
  have d:st.take (i+1)=st.take i++[gt st (i:Int)]:=by rw[take_succ,u6 hi];rfl
  have g:=m06 l (gt st (i:Int));have m:=hlen i (by omega);have c:I0 16 (N4 l (st.take i)) (N9 l (gt st (i:Int)))=true:=by simp[I0];omega
  simp only[q0,h1,R0 (l:=st) (i:=(i:Int)) (by omega) h1,h,y0m hR (show 401<F by omega) (f _ (mem_of_getElem? (u6 hi))),c,d,N4,List.flatMap_append,flatMap_cons,List.flatMap_nil,append_nil];rw[show N4 l (List.take i st)=List.flatMap (N9 l) (List.take i st)from rfl]at c;rw[if_pos c]
 ·unfold i0N;have h1:¬((st.length:Int)<(st.length:Int)):=by omega
  simp only[q0,h1,take_length]
def i0I (l:List C0):∀st:List Int,(N4 l st).length<=10*st.length
 |[]=>by simp[N4]
 |x :: r=>by
  have h:=i0I l r;have c:=m06 l x;simp only[N4,flatMap_cons,List.length_append,List.length_cons]at *;omega
def r04 {l:List C0}(hR:K1 l=true)(hl:l.length*64<=140737488351232)(y:401<F)(m:l.length+1<F){st:List Int}{i:Nat}(hi:i<st.length)(hlen:st.length<=2000000)(J:SOk (gt st (i:Int))){o:List G2}(ho:o.length<=50000000):
  u0Z F l st (o,(i:Int))=some (.next (o++N9 l (gt st (i:Int)),((i+1:Nat):Int))):=by
 have h:=a0M hR;have x:=h.le;have d:(i:Int)<(st.length:Int):=by omega
 have w:W ((i:Int)+1)=((i+1:Nat):Int):=by rw[n3 (by omega) (by omega)];omega
 unfold u0Z N9;simp only[d,decide_true,if_true,R0 (l:=st) (i:=(i:Int)) (by omega) d,w];generalize gt st (i:Int)=s at *
 by_cases C:s<0
 ·simp[C]
 ·obtain⟨n,rfl⟩:∃n:Nat,s=n:=⟨s.toNat,by omega⟩
  obtain⟨_,U⟩:=J;have e1:(n:Int).tdiv 2=((n / 2:Nat):Int):=rfl;have e2:(n:Int).tmod 2=((n % 2:Nat):Int):=rfl;have I:(n:Int) / 2=((n / 2:Nat):Int):=by omega
  have R:(n:Int) % 2=((n % 2:Nat):Int):=by omega
  have hW:W ((n / 2:Nat):Int)=((n / 2:Nat):Int):=n3 (by omega) (by omega);have t:W (1+((n % 2:Nat):Int))=1+((n % 2:Nat):Int):=n3 (by omega) (by omega);simp only[q0,e1,e2,I,R,hW,t,C,false_or]
  by_cases h1:(l.length:Int)<=((n / 2:Nat):Int)
  ·have c:((n / 2:Nat):Int)>=(l.length:Int):=h1;simp only[q0,h1,c,append_nil]
  ·have c:¬((n / 2:Nat):Int)>=(l.length:Int):=h1;have p:B0 l ((n / 2:Nat):Int)=true:=R0 (by omega) (by omega);simp only[q0,h1,c,p];have hr:((n % 2:Nat):Int)=0\/((n % 2:Nat):Int)=1:=by omega
   generalize ((n % 2:Nat):Int)=r at *;generalize ((n / 2:Nat):Int)=k at *
   by_cases f:(gt l k).Kind=7
   ·have v:I0 16 o [(⟨1+r,(gt l k).N⟩:G2)]=true:=by simp[I0];omega
    simp[f,G0,v]
   ·have u:((gt l k).Kind==7)=false:=by simp[f]
    by_cases j:(gt l k).Kind=8
    ·rcases hr with rfl|rfl
     ·have q:((gt l k).Kind==8)=true:=by simp[j]
      rw[if_neg f,if_pos (show(gt l k).Kind=8/\(0:Int)=0 from⟨j,rfl⟩)];simp only[q0,u,q,beq_self_eq_true,n0z hR hl _ y m,s9];rw[u0Y (F:=F) (g:=Z3 l k) (step:=p09 F (Z3 l k)) (fun o i=>rfl) (f0F _ _) y o (by omega)];simp[G0]
     ·simp[f,j,G0]
    ·simp[f,j,G0]
end
def Q2 (l:List C0)(h:y0):Q3:=⟨h,N4 l h.Steps⟩
def Y6 (l:List C0)(n:Nat)(a:List y0)(b:Nat->List y0)(e:Nat->y0×Bool)(z:y0×Bool):c0c:=
 ⟨l,(L2 l l.length).map fun q=>(gt l q).Set,a.map (Q2 l),(List.range n).map fun p=>(b p).map (Q2 l),(List.range n).map fun p=>Q2 l (e p).1,(List.range n).map fun p=>(e p).2,N4 l z.1.Steps,z.2,l5 l,z.1⟩
def y0L (l:List C0)(n:Nat)(a:List y0)(b:Nat->List y0)(e:Nat->y0×Bool)(at_ work:Int)(places:List Int)(tags:List (List Int))(rank:T3):c0b:=
 ⟨l,L2 l l.length,a,(List.range n).map b,(List.range n).map fun p=>(e p).1.Steps,at_,work,places,tags,rank⟩
def P2.sok {st:List Int}(h:P2 800 st):∀s∈st,SOk s:=fun s c=>by have:=h s c;unfold SOk;omega
def A0E {β:Type}(f:Nat->β)(i:Nat):(List.range (i+1)).map f=(List.range i).map f++[f i]:=by
 rw[List.range_succ,map_append];rfl
section
variable {F:Nat}
def u0c {l:List C0}(hR:K1 l=true){hops:List y0}(hlen:hops.length<=500000)(d:2000001<F)(j:N8 800 hops)(f:∀h∈hops,h.Steps.length<=2000000):h0o F l hops=some (hops.map (Q2 l)):=by
 unfold h0o;rw[s9];have:=R4 (step:=j0b F l hops) (fun i=>((hops.take i).map (Q2 l),(i:Int))) (hops.map (Q2 l)) hops.length (fun i hi=>.inl ?_) ?_ hops.length 0 F (by omega) (by omega)
 ·exact this
 ·unfold j0b;have h1:(i:Int)<(hops.length:Int):=by omega
  have k:W ((i:Int)+1)=((i+1:Nat):Int):=by rw[n3 (by omega) (by omega)];omega
  have g:hops.take (i+1)=hops.take i++[gt hops (i:Int)]:=by rw[take_succ,u6 hi];rfl
  have hm:=mem_of_getElem? (u6 hi);have c:I0 64 ((hops.take i).map (Q2 l)) [(⟨gt hops (i:Int),N4 l (gt hops (i:Int)).Steps⟩:Q3)]=true:=by simp[I0];omega
  simp only[q0,h1,R0 (l:=hops) (i:=(i:Int)) (by omega) h1,k,n0Q hR (f _ hm) d (P2.sok (j _ hm)),c,g,map_append,map_cons,map_nil,Q2]
 ·unfold j0b;have h1:¬((hops.length:Int)<(hops.length:Int)):=by omega
  simp only[q0,h1,take_length]
variable {l:List C0}{n:Nat}{a:List y0}{b:Nat->List y0}{e:Nat->y0×Bool}{z:y0×Bool}
def C0Q (hR:K1 l=true)(hn:n=L0 l l.length)(T:j06 l n a b e z)(k:2000001<F)(TF:k0b l n a b e z F):j0X F l=some (Y6 l n a b e z):=by
 have h:=a0M hR;have u:=h.le;have t:=h.pos;have s:=T.n64;have v:(L2 l l.length).length=n:=by rw[I9,hn]
 have m:M0q F l=some l:=by unfold M0q;rw[if_pos (by simp[I0];omega)]
 unfold j0X Y6;rw[m,show W ((l.length:Int)-1)=(l.length:Int)-1 from n3 (by omega) (by omega)];simp only[G0,TF.mA,u0c hR T.al k T.ab (fun h o=>(T.aw.ok h o).2.2),D0E hR (show 401<F by omega),TF.mL,TF.mZ,n0Q hR (show z.1.Steps.length<=2000000 by have:=T.zl;omega) k (P2.sok T.zb)];generalize r:L2 l l.length=lv at *;have:=R4 (step:=h0y F l lv) (fun i=>((i:Int),(l,(lv.take i).map (fun q=>(gt l q).Set),a.map (Q2 l),(List.range i).map (fun p=>(b p).map (Q2 l)),(List.range i).map (fun p=>Q2 l (e p).1),(List.range i).map (fun p=>(e p).2),l5 l,(⟨0,0,[]⟩:y0))))
  (l,lv.map (fun q=>(gt l q).Set),a.map (Q2 l),(List.range n).map (fun p=>(b p).map (Q2 l)),(List.range n).map (fun p=>Q2 l (e p).1),(List.range n).map (fun p=>(e p).2),l5 l,(⟨0,0,[]⟩:y0)) n (fun i hi=>.inl ?_) ?_ n 0 F (by omega) (by omega)
 ·have y:iter (h0y F l lv) F (0,(l,[],a.map (Q2 l),[],[],[],l5 l,(⟨0,0,[]⟩:y0)))=_:=this;rw[y];rfl
 ·unfold h0y;have h1:(i:Int)<(lv.length:Int):=by omega
  have x:W ((i:Int)+1)=((i+1:Nat):Int):=by rw[n3 (by omega) (by omega)];omega
  obtain⟨q,C,d,_,_⟩:=c0J l l.length i (by rw[<-hn];exact hi);rw[r]at d;have hg:gt lv (i:Int)=(q:Int):=B4 d;have w:lv.take (i+1)=lv.take i++[(q:Int)]:=by rw[take_succ,d];rfl
  have f:I0 32 ((lv.take i).map (fun q=>(gt l q).Set)) [(gt l (q:Int)).Set]=true:=by simp[I0];omega
  have g:I0 24 ((List.range i).map (fun p=>(b p).map (Q2 l))) [(b i).map (Q2 l)]=true:=by simp[I0];omega
  have c:I0 64 ((List.range i).map (fun p=>Q2 l (e p).1)) [(⟨(e i).1,N4 l (e i).1.Steps⟩:Q3)]=true:=by simp[I0];omega
  have j:I0 1 ((List.range i).map (fun p=>(e p).2)) [(e i).2]=true:=by simp[I0];omega
  simp only[h1,decide_true,if_true,R0 (l:=lv) (i:=(i:Int)) (by omega) h1,hg,R0 (l:=l) (i:=(q:Int)) (by omega) (by omega),f,TF.mB i hi,G0,u0c hR (T.bl i hi) k (T.bb i hi) (fun h o=>((T.bw i hi).ok h o).2.2),g,TF.mE i hi,
   n0Q hR (show(e i).1.Steps.length<=2000000 by have:=T.el i hi;omega) k (P2.sok (T.eb i hi)),c,j,x,w,A0E,map_append,map_cons,map_nil,Q2]
  simp only[Q2]at c;rw[if_pos c]
 ·unfold h0y;have h1:¬((n:Int)<(lv.length:Int)):=by omega
  simp only[q0,h1];rw[List.take_of_length_le (by omega)]
def x0i (hR:K1 l=true)(hn:n=L0 l l.length)(T:j06 l n a b e z)(c:2000001<F)(TF:k0b l n a b e z F):c0T F l=some (.inr ⟨Y6 l n a b e z,0,0,[],[],⟨[],[]⟩⟩,0):=by
 unfold c0T;rw[TF.mR];simp only[q0,C0Q hR hn T c TF]
end
def V3 (n:Nat)(f:Nat->Int):List Int:=(List.range n).map f
def I2 (m n:Nat)(f:Nat->Nat->Int):List (List Int):=(List.range m).map fun i=>V3 n (f i)
def D3 (n:Nat)(fB fD:Nat->Nat->Int):T3:=⟨I2 n n fB,I2 n n fD⟩
@[simp] def i0R (n:Nat)(f:Nat->Int):(V3 n f).length=n:=by simp[V3]
@[simp] def q0M (m n:Nat)(f:Nat->Nat->Int):(I2 m n f).length=m:=by simp[I2]
def d0w {n i:Nat}(f:Nat->Int)(h:i<n):gt (V3 n f) (i:Int)=f i:=B4 (by simp[V3,h])
def a0g {m n i:Nat}(f:Nat->Nat->Int)(h:i<m):gt (I2 m n f) (i:Int)=V3 n (f i):=B4 (by simp[I2,h])
def a0P {n i:Nat}(f:Nat->Int)(h:i<n):B0 (V3 n f) (i:Int)=true:=R0 (by omega) (by simp;omega)
def U9 {m n i:Nat}(f:Nat->Nat->Int)(h:i<m):B0 (I2 m n f) (i:Int)=true:=R0 (by omega) (by simp;omega)
def G3 {i:Nat}(h:i<=1000000000):W ((i:Int)+1)=((i+1:Nat):Int):=by rw[n3 (by omega) (by omega)];omega
structure a0s (n:Nat)(fB fD:Nat->Nat->Int):Prop where
 b0:∀i k,i<n->k<n->0<=fB i k
 bd:∀i,i<n->fB i i=0
 dd:∀i,i<n->fD i i=0
 d1:∀i k,i<n->k<n->i≠k->fD i k=1\/fD i k=-1
 dn:∀i k,i<n->k<n->fD k i=- fD i k
section
variable {F n:Nat}{fB fD:Nat->Nat->Int}
def F0d (hn:n<=1000)(d:2000<F)(f:Nat->Nat->Int):h0T F (I2 n n f) (n:Int)=some true:=by
 unfold h0T;have:=R4 (step:=h0e F (I2 n n f) (n:Int)) (fun i=>(i:Int)) (.inr ()) n (fun i hi=>.inl ?_) ?_ n 0 F (by omega) (by omega)
 ·have c:iter (h0e F (I2 n n f) (n:Int)) F 0=_:=this;rw[c];simp[G0]
 ·unfold h0e;have h1:(i:Int)<((I2 n n f).length:Int):=by simp;omega
  simp only[q0,h1,U9 f hi,a0g f hi,i0R,bne_self_eq_false,G3 (i:=i) (by omega)]
 ·unfold h0e;have h1:¬((n:Int)<((I2 n n f).length:Int)):=by simp
  simp only[q0,h1]
def B0c (hn:n<=1000)(g:2000<F)(h:a0s n fB fD):k0h F (D3 n fB fD) (n:Int)=some true:=by
 unfold k0h D3;simp only[q0,F0d hn g];have:=R4 (step:=h0q F ⟨I2 n n fB,I2 n n fD⟩ (n:Int)) (fun i=>(i:Int)) (.inr ()) n (fun i hi=>.inl ?_) ?_ n 0 F (by omega) (by omega)
 ·have f:iter (h0q F ⟨I2 n n fB,I2 n n fD⟩ (n:Int)) F 0=_:=this;rw[f];rfl
 ·have d:=R4 (step:=g06 F ⟨I2 n n fB,I2 n n fD⟩ (n:Int) (i:Int)) (fun k=>(k:Int)) (.inr ()) n (fun k hk=>.inl ?_) ?_ n 0 F (by omega) (by omega)
  ·have f:iter (g06 F ⟨I2 n n fB,I2 n n fD⟩ (n:Int) (i:Int)) F 0=_:=d;unfold h0q;have h1:(i:Int)<(n:Int):=by omega
   simp only[q0,h1,U9 _ hi,a0g _ hi,a0P _ hi,d0w _ hi,h.bd i hi,h.dd i hi,bne_self_eq_false,f,G3 (i:=i) (by omega)]
  ·unfold g06;have h1:(k:Int)<(n:Int):=by omega
   have j:¬fB i k<0:=by have:=h.b0 i k hi hk;omega
   have hd:=h.dn i k hi hk;have m:W (0-fD i k)=- fD i k:=by
    by_cases e:i=k
    ·subst e;rw[h.dd i hi];rfl
    ·rcases h.d1 i k hi hk e with e|e<;>rw[e]<;>rfl
   simp only[q0,h1,U9 _ hi,U9 _ hk,a0g _ hi,a0g _ hk,a0P _ hi,a0P _ hk,d0w _ hi,d0w _ hk,j,s9,hd,m,bne_self_eq_false,G3 (i:=k) (by omega)]
   by_cases e:i=k
   ·subst e;simp[G0]
   ·have c:((i:Int) != (k:Int))=true:=by simp;omega
    rcases h.d1 i k hi hk e with e2|e2<;>simp[c,e2,G0]
  ·unfold g06;have h1:¬((n:Int)<(n:Int)):=by omega
   simp only[q0,h1]
 ·unfold h0q;have h1:¬((n:Int)<(n:Int)):=by omega
  simp only[q0,h1]
def i0o (hn:n<=1000)(c:2000<F)(h:a0s n fB fD):d00 F (D3 n fB fD)=some true:=by
 unfold d00;rw[s9,show((D3 n fB fD).B.length:Int)=(n:Int)from by simp[D3],B0c hn c h]
end
def C0L {n:Nat}{f g:Nat->Int}(h:∀k,k<n->f k=g k):V3 n f=V3 n g:=List.map_congr_left fun k hk=>h k (mem_range.1 hk)
def d0e {m n:Nat}{f g:Nat->Nat->Int}(h:∀i k,i<m->k<n->f i k=g i k):I2 m n f=I2 m n g:=
 List.map_congr_left fun i hi=>C0L fun k hk=>h i k (mem_range.1 hi) hk
def m02 {n k:Nat}{f:Nat->Int}{v:Int}:(V3 n f).set k v=V3 n fun j=>if j=k then v else f j:=by
 refine ext_getElem (by simp) fun i h1 c=>?_;simp only[V3,getElem_set,getElem_map,getElem_range]
 by_cases e:k=i
 ·simp[e]
 ·rw[if_neg e,if_neg (fun h=>e h.symm)]
def l0b {m n i:Nat}{f:Nat->Nat->Int}{g:Nat->Int}:(I2 m n f).set i (V3 n g)=I2 m n fun a=>if a=i then g else f a:=by
 refine ext_getElem (by simp) fun j h1 c=>?_;simp only[I2,getElem_set,getElem_map,getElem_range]
 by_cases e:i=j
 ·simp[e]
 ·rw[if_neg e,if_neg (fun h=>e h.symm)]
def C0u (n:Nat):List.replicate n (0:Int)=V3 n fun _=>0:=by
 refine ext_getElem (by simp) fun i h1 c=>?_;simp[V3]
def z0Y (m n:Nat):List.replicate m (V3 n fun _=>0)=I2 m n fun _ _=>0:=by
 refine ext_getElem (by simp) fun i h1 c=>?_;simp[I2]
section
variable {F n:Nat}{fB fD:Nat->Nat->Int}
def p02 (hn:n<=1000)(h:2000<F):d0Q F (n:Int)=some (I2 n n fun _ _=>0):=by
 unfold d0Q;have g:V2 24 (n:Int)=true:=by simp[V2];omega
 have d:V2 8 (n:Int)=true:=by simp[V2];omega
 simp only[g,if_true,Int.toNat_natCast,List.length_replicate,s9];have:=R4 (step:=i0L F (n:Int) (n:Int)) (fun i=>((i:Int),List.replicate i (V3 n fun _=>0)++List.replicate (n-i) ([]:List Int))) (I2 n n fun _ _=>0) n (fun i hi=>.inl ?_) ?_ n 0 F (by omega) (by omega)
 ·exact this
 ·unfold i0L;have h1:(i:Int)<(n:Int):=by omega
  have f:B0 (List.replicate i (V3 n fun _=>0)++List.replicate (n-i) ([]:List Int)) (i:Int)=true:=R0 (by omega) (by simp;omega);have c:(List.replicate i (V3 n fun _=>0)++List.replicate (n-i) ([]:List Int)).set i (V3 n fun _=>0)=List.replicate (i+1) (V3 n fun _=>0)++List.replicate (n-(i+1)) ([]:List Int):=by
   rw[List.set_append_right _ _ (by simp),List.length_replicate,Nat.sub_self,show n-i=(n-(i+1))+1 from by omega,List.replicate_succ,List.set_cons_zero,List.replicate_succ' (n:=i),List.append_assoc];rfl
  simp only[h1,decide_true,if_true,d,f,Int.toNat_natCast,C0u,c,G3 (i:=i) (by omega)]
 ·unfold i0L;have h1:¬((n:Int)<(n:Int)):=by omega
  simp only[q0,h1,Nat.sub_self,List.replicate_zero,append_nil,z0Y]
def c06 (n:Nat)(fB:Nat->Nat->Int)(i k:Nat):Int:=if i<n/\k<n then fB i k else 0
def c0E (n:Nat)(fD:Nat->Nat->Int)(i k:Nat):Int:=if i<n/\k<n then fD i k else if i<n/\k=n then 1 else if i=n/\k<n then -1 else 0
def A0t (h:a0s n fB fD):a0s (n+1) (c06 n fB) (c0E n fD) where
 b0 i k hi hk:=by unfold c06;split;exact h.b0 i k (by omega) (by omega);omega
 bd i hi:=by unfold c06;split;exact h.bd i (by omega);rfl
 dd i hi:=by
  unfold c0E;split
  ·exact h.dd i (by omega)
  ·rw[if_neg (by omega),if_neg (by omega)]
 d1 i k hi hk hne:=by
  unfold c0E
  by_cases h1:i<n/\k<n
  ·rw[if_pos h1];exact h.d1 i k h1.1 h1.2 hne
  ·rw[if_neg h1]
   by_cases c:i<n/\k=n
   ·rw[if_pos c];exact .inl rfl
   ·rw[if_neg c,if_pos (by omega)];exact .inr rfl
 dn i k hi hk:=by
  unfold c0E
  by_cases h1:i<n/\k<n
  ·rw[if_pos h1,if_pos ⟨h1.2,h1.1⟩];exact h.dn i k h1.1 h1.2
  ·rw[if_neg h1,if_neg (fun h=>h1 ⟨h.2,h.1⟩)]
   by_cases c:i<n/\k=n
   ·rw[if_pos c,if_neg (by omega),if_pos ⟨c.2,c.1⟩]
   ·rw[if_neg c]
    by_cases d:i=n/\k<n
    ·rw[if_pos d,if_pos ⟨d.2,d.1⟩];rfl
    ·rw[if_neg d,if_neg (fun h=>d ⟨h.2,h.1⟩),if_neg (fun h=>c ⟨h.2,h.1⟩)];rfl
def F0x {m:Nat}(hm:n<=m)(f g:Nat->Int):G4 (V3 m f) (V3 n g)=V3 m fun k=>if k<n then g k else f k:=by
 unfold G4;rw[i0R,i0R,List.take_of_length_le (by simp;exact hm)];refine ext_getElem (by simp;omega) fun i h1 c=>?_;simp only[i0R]at c
 by_cases e:i<n
 ·rw[List.getElem_append_left (by simpa using e)];simp[V3,e]
 ·rw[List.getElem_append_right (by simp;omega)];simp only[V3,List.getElem_drop,length_map,List.length_range,getElem_map,getElem_range,if_neg e];congr 1;omega
def sB (n:Nat)(fB:Nat->Nat->Int)(i a k:Nat):Int:=if a<i/\k<n then fB a k else 0
def sD (n:Nat)(fD:Nat->Nat->Int)(i a k:Nat):Int:=if a<i/\k<n then fD a k else if a<i/\k=n then 1 else if a=n/\k<i then -1 else 0
def x0d (hn:n<=900)(o:2000<F)(h:a0s n fB fD):g0m F (D3 n fB fD)=some (D3 (n+1) (c06 n fB) (c0E n fD)):=by
 unfold g0m;rw[i0o (by omega) o h];have hlen:((D3 n fB fD).B.length:Int)=(n:Int):=by simp[D3]
 simp only[q0,hlen,G3 (i:=n) (by omega),p02 (n:=n+1) (F:=F) (by omega) o];have:=R4 (step:=g0Q F (D3 n fB fD)) (fun i=>((i:Int),I2 (n+1) (n+1) (sB n fB i),I2 (n+1) (n+1) (sD n fD i))) (I2 (n+1) (n+1) (c06 n fB),I2 (n+1) (n+1) (c0E n fD)) n (fun i hi=>.inl ?_) ?_ n 0 F (by omega) (by omega)
 ·have p:I2 (n+1) (n+1) (sB n fB 0)=I2 (n+1) (n+1) fun _ _=>0:=d0e fun i k _ _=>by unfold sB;rw[if_neg (by omega)]
  have c:I2 (n+1) (n+1) (sD n fD 0)=I2 (n+1) (n+1) fun _ _=>0:=d0e fun i k _ _=>by unfold sD;rw[if_neg (by omega),if_neg (by omega),if_neg (by omega)]
  rw[p,c]at this;have q:iter (g0Q F (D3 n fB fD)) F (0,I2 (n+1) (n+1) (fun _ _=>0),I2 (n+1) (n+1) fun _ _=>0)=_:=this;rw[q];rfl
 ·unfold g0Q;have h1:(i:Int)<(n:Int):=by omega
  have g:i<n+1:=by omega
  have f:n<n+1:=by omega
  simp only[hlen,h1,decide_true,if_true];simp only[D3,U9 _ hi,U9 _ g,a0g _ hi,a0g _ g,if_true,F0x (show n<=n+1 by omega),Int.toNat_natCast,l0b,U9 _ f,a0P _ f,a0g _ f,m02,a0P _ g,G3 (i:=i) (by omega)];congr 1;congr 1;congr 1;congr 1
  ·refine d0e fun a k ha hk=>?_;unfold sB
   by_cases e:a=i
   ·subst e;simp only[if_true]
    by_cases c:k<n
    ·simp[c]
    ·simp[c]
   ·simp only[e,if_false]
    by_cases c:a<i/\k<n
    ·rw[if_pos c,if_pos (by omega)]
    ·rw[if_neg c,if_neg (by omega)]
  ·refine d0e fun a k ha hk=>?_;have j:¬n=i:=by omega
   unfold sD
   by_cases e:a=n
   ·subst e;simp only[if_true,j,if_false]
    by_cases d:k=i
    ·subst d;simp;omega
    ·simp only[d,if_false];rw[if_neg (by omega),if_neg (by omega),if_neg (show ¬(a<i+1/\k<a) by omega),if_neg (show ¬(a<i+1/\k=a) by omega)]
     by_cases m:k<i
     ·rw[if_pos ⟨trivial,m⟩,if_pos ⟨trivial,by omega⟩]
     ·rw[if_neg (fun h=>m h.2),if_neg (by omega)]
   ·by_cases c:a=i
    ·subst c;simp only[j,if_false,if_true,e]
     by_cases d:k=n
     ·subst d;simp
     ·have:k<n:=by omega
      simp[d,this]
    ·simp only[e,c,if_false]
     by_cases d:a<i/\k<n
     ·rw[if_pos d,if_pos (by omega)]
     ·rw[if_neg d,if_neg (show ¬(a<i+1/\k<n) by omega)]
      by_cases m:a<i/\k=n
      ·rw[if_pos m,if_pos (by omega)]
      ·rw[if_neg m,if_neg (show ¬(a<i+1/\k=n) by omega),if_neg (fun h=>h.1),if_neg (fun h=>h.1)]
 ·unfold g0Q;have h1:¬((n:Int)<(n:Int)):=by omega
  simp only[q0,hlen,h1];congr 1
def inB (f:Nat->Nat->Int)(g:Nat->Nat->Int)(i k a j:Nat):Int:=if a=i/\j<k then f a j else g a j
end
def J2 (l:List Nat):List Int:=l.map fun n:Nat=>(n:Int)
@[simp] def i0f (l:List Nat):(J2 l).length=l.length:=by simp[J2]
def r0M {l:List Nat}{i:Nat}(h:i<l.length):gt (J2 l) (i:Int)=((l[i]:Nat):Int):=B4 (by simp[J2,h])
def a0h {l:List Nat}{i:Nat}(h:i<l.length):B0 (J2 l) (i:Int)=true:=R0 (by omega) (by simp;omega)
def a0U (fD:Nat->Nat->Int)(K3:Int)(i:Nat):Int:=if K3<0 then(i:Int)else if 0<fD i K3.toNat then(i:Int)else K3
def q9 (fD:Nat->Nat->Int)(of:List Nat):Int:=of.foldl (a0U fD) (-1)
def p0m {α:Type}{l:List α}{i:Nat}(h:i<l.length):l.take (i+1)=l.take i++[l[i]]:=by rw[take_succ,List.getElem?_eq_getElem h];rfl
def w0E (fD:Nat->Nat->Int)(l:List Nat)(i:Nat):q9 fD (l++[i])=a0U fD (q9 fD l) i:=by simp[q9]
def o0f {n:Nat}{fD:Nat->Nat->Int}(of:List Nat)(h:∀i∈of,i<n):q9 fD of=-1\/∃k:Nat,q9 fD of=k/\k<n:=by
 have:∀(of:List Nat) (b:Int),(b=-1\/∃k:Nat,b=k/\k<n)->(∀i∈of,i<n)->(of.foldl (a0U fD) b=-1\/∃k:Nat,of.foldl (a0U fD) b=k/\k<n):=by
  intro of
  induction of with
  |nil=>intro b c _;exact c
  |cons x r ih=>
   intro b c hi;refine ih _ ?_ (fun i h=>hi i (List.mem_cons_of_mem _ h));have d:=hi x (by simp);unfold a0U;split
   ·exact .inr ⟨x,rfl,d⟩
   ·split
    ·exact .inr ⟨x,rfl,d⟩
    ·exact c
 exact this of (-1) (.inl rfl) h
section
variable {F n:Nat}{fB fD:Nat->Nat->Int}
def A0c (hn:n<=1000)(j:2000<F)(h:a0s n fB fD)(of:List Nat)(o:of.length<=1000)(hi:∀i∈of,i<n):i0l F (D3 n fB fD) (J2 of)=some (q9 fD of):=by
 unfold i0l;rw[i0o hn j h];simp only[q0,s9];have:=R4 (step:=j0l F (D3 n fB fD) (J2 of)) (fun i=>(q9 fD (of.take i),(i:Int))) (q9 fD of) of.length (fun i c=>.inl ?_) ?_ of.length 0 F (by omega) (by omega)
 ·exact this
 ·unfold j0l e0p;have h1:(i:Int)<((J2 of).length:Int):=by simp;omega
  have g:=hi of[i] (List.getElem_mem c);have p:((of[i]:Nat):Int)>=0:=by omega
  have m:((of[i]:Nat):Int)<((D3 n fB fD).B.length:Int):=by simp[D3];omega
  simp only[q0,h1,a0h c,r0M c,p,m,s9,p0m c,w0E,G3 (i:=i) (by omega)];have q:=o0f (fD:=fD) (of.take i) (n:=n) (fun i h=>hi i (List.mem_of_mem_take h));generalize q9 fD (of.take i)=b at *;rcases q with rfl|⟨k,rfl,hk⟩
  ·simp[a0U,G0]
  ·have d:¬((k:Int)<0):=by omega
   simp only[q0,D3,d,U9 _ g,a0g _ g,a0P _ hk,d0w _ hk,a0U,Int.toNat_natCast]
   by_cases f:0<fD of[i] k
   ·have r:fD of[i] k>0:=f;simp[f,G0]
   ·simp[f,G0]
 ·unfold j0l;have h1:¬((of.length:Int)<((J2 of).length:Int)):=by simp
  simp only[q0,h1,take_length]
end
