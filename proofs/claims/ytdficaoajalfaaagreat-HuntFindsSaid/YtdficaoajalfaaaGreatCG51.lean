/- P. Its conditions: none. -/
import Derived.Test.YtdficaoajalfaaaGreatCG50
open Nat (le_refl mul_le_mul add_mul one_mul add_assoc)
open Bool (false_eq_true and_eq_true or_eq_true)
open List (any_eq_true mem_range length_append length_cons)
set_option linter.all false
namespace Go.Proofs.YtdficaoajalfaaaGreat
open Go.V Go.RowKit Old Go.X
def w0w {N i j a b:Nat}(f:j<=N)(c:b<=N)(h:i6 N i j=i6 N a b):i=a/\j=b:=by
 unfold i6 at h;have h1:(i*(N+1)+j) / (N+1)=i:=by rw[Nat.mul_comm,Nat.mul_add_div O',Nat.div_eq_of_lt O',Nat.add_zero]
 have d:(a*(N+1)+b) / (N+1)=a:=by rw[Nat.mul_comm,Nat.mul_add_div O',Nat.div_eq_of_lt O',Nat.add_zero]
 have e:i=a:=by rw[<-h1,<-d,h]
 subst e;exact⟨rfl,O'⟩
def s0P {α:Type}[Inhabited α]{o:List α}{j m:Nat}{x:α}(h:j≠m):gt (o.set j x) (m:Int)=gt o (m:Int):=by
 unfold gt;rw[List.getD_eq_getElem?_getD,List.getD_eq_getElem?_getD,Int.toNat_natCast,List.getElem?_set_ne h]
structure a02 (l:List C0)(w:List Int)(Can:List (List Bool))(q:Nat)(ok:Nat->Nat->Prop):Prop where
 len:Can.length=q+1
 old:∀lo s,Old.At l lo s->s.top lo<q->c0F Can w.length (s.top lo) (den w s)
 row:(gt Can (q:Int)).length=(w.length+1)*(w.length+1)
 new:∀lo s,Old.At l lo s->s.top lo=q->∀i j:Nat,i<=j->j<=w.length->ok i j->gt (gt Can (q:Int)) (i6 w.length i j:Int)=den w s i j
def a02.mono {l:List C0}{w:List Int}{Can:List (List Bool)}{q:Nat}{ok a:Nat->Nat->Prop}(h:a02 l w Can q ok)(hk:∀i j,i<=j->j<=w.length->a i j->ok i j):a02 l w Can q a:=⟨h.len,h.old,h.row,fun lo s h1 d i j b c e=>h.new lo s h1 d i j b c (hk i j b c e)⟩
section
variable {F:Nat}
def z0V {l:List C0}{w:List Int}{t:Old.Tm}(ht:Old.O2 l t)(hw:∀x∈l,o3 x)(hb:∀x∈w,Z5 .u8 x)(U:w.length<=64)(hf:2000<F){q:Nat}(hq:q<l.length){i:Nat}(hi:i<=w.length){y:List (List Bool)}(hy:a02 l w y q fun b _=>i<b):
  ∃y',iter (h0w F l w (q:Int) (w.length:Int) (i:Int)) F ((i:Int),y)=some y'/\a02 l w y' q fun b _=>i<=b:=by
 refine n0B (step:=h0w F l w (q:Int) (w.length:Int) (i:Int)) (fun j s=>s.1=(j:Int)/\i<=j/\a02 l w s.2 q fun b d=>i<b\/(b=i/\d<j)) (fun y'=>a02 l w y' q fun b _=>i<=b) (n:=w.length+1) (fun j s hj C=>?_) (fun s C=>?_) (w.length+1-i) i ((i:Int),y) F O' ⟨rfl,le_refl _,hy.mono fun b d h1 m o=>O'⟩ O'
 ·obtain⟨s1,Can⟩:=s;obtain⟨u,I,T⟩:=C;simp only at u T;subst u;have c1:(j:Int)<=(w.length:Int):=O'
  have hlen:=T.len;have v:B0 Can (q:Int)=true:=R0 O' O'
  ·have g:∀lo s,Old.At l lo s->s.top lo=q->g0H F l w ⟨(w.length:Int),Can⟩ (q:Int) (i:Int) (j:Int)=some (den w s i j):=fun lo s f a=>by
    have:=one_den (F:=F) hw hb U hf (Can:=Can) f O' (fun lo' h h1 m=>T.old lo' h h1 O') I O' (by rw[a];exact⟨T.row,fun k k1 k2=>T.new lo s f a k j k2 O' (.inl k1)⟩);rw[a]at this;exact this
   obtain⟨lo,s,f,a⟩:=ht.node hq;have hv:=g lo s f a;have hc:=p08 hi (show j<=w.length from O');refine .inl ⟨(((j+1:Nat):Int),Can.set q ((gt Can (q:Int)).set (i6 w.length i j) (den w s i j))),?_,rfl,O',⟨by simp[hlen],fun lo' h h1 m=>?_,?_,fun lo' h h1 m b d o R p=>?_⟩⟩
   ·have r:B0 (gt Can (q:Int)) (i6 w.length i j:Int)=true:=R0 O' (by rw[T.row];omega);unfold h0w;simp only[q0,c1,v,hv,u05 U hi (show j<=w.length from O'),r,Int.toNat_natCast,G3 (i:=j) O']
   ·have o:=T.old lo' h h1 m;have e:gt (Can.set q ((gt Can (q:Int)).set (i6 w.length i j) (den w s i j))) (h.top lo':Int)=gt Can (h.top lo':Int):=s0P O';unfold c0F at o ⊢;rw[e];exact o
   ·have e:gt (Can.set q ((gt Can (q:Int)).set (i6 w.length i j) (den w s i j))) (q:Int)=(gt Can (q:Int)).set (i6 w.length i j) (den w s i j):=B4 (List.getElem?_set_self O');show(gt (Can.set q ((gt Can (q:Int)).set (i6 w.length i j) (den w s i j))) (q:Int)).length=_;rw[e,List.length_set];exact T.row
   ·have e:gt (Can.set q ((gt Can (q:Int)).set (i6 w.length i j) (den w s i j))) (q:Int)=(gt Can (q:Int)).set (i6 w.length i j) (den w s i j):=B4 (List.getElem?_set_self O');show gt (gt (Can.set q ((gt Can (q:Int)).set (i6 w.length i j) (den w s i j))) (q:Int)) (i6 w.length b d:Int)=_;rw[e]
    by_cases c:b=i/\d=j
    ·obtain⟨rfl,rfl⟩:=c;have z:=g lo' h h1 m;rw[hv]at z;rw[<-Option.some.inj z];exact B4 (List.getElem?_set_self (by rw[T.row];exact hc))
    ·have J:i6 w.length i j≠i6 w.length b d:=fun hh=>by
      have:=w0w (show j<=w.length from O') R hh;exact c ⟨this.1.symm,this.2.symm⟩
     have e2:gt ((gt Can (q:Int)).set (i6 w.length i j) (den w s i j)) (i6 w.length b d:Int)=gt (gt Can (q:Int)) (i6 w.length b d:Int):=s0P J;rw[e2];refine T.new lo' h h1 m b d o R ?_;rcases p with p|⟨p,z⟩
     ·exact .inl p
     ·exact .inr ⟨p,O'⟩
 ·obtain⟨s1,Can⟩:=s;obtain⟨u,_,T⟩:=C;simp only at u T;subst u;have c1:¬((w.length+1:Nat):Int)<=(w.length:Int):=O'
  unfold h0w;simp only[q0,c1];exact⟨_,rfl,T.mono fun b d h1 m o=>O'⟩
def z0O {l:List C0}{w:List Int}{t:Old.Tm}(k:Old.O2 l t)(hw:∀x∈l,o3 x)(h:∀x∈w,Z5 .u8 x)(m:w.length<=64)(p:2000<F){q:Nat}(o:q<l.length){y:List (List Bool)}(j:a02 l w y q fun a _=>w.length<a):
  ∃y',iter (h0z F l w (q:Int) (w.length:Int)) F ((w.length:Int),y)=some y'/\a02 l w y' q fun _ _=>True:=by
 refine n0B (step:=h0z F l w (q:Int) (w.length:Int)) (fun d s=>s.1=(w.length:Int)-(d:Int)/\a02 l w s.2 q fun a _=>(w.length:Int)-(d:Int)<(a:Int)) (fun y'=>a02 l w y' q fun _ _=>True) (n:=w.length+1) (fun d s hd e=>?_) (fun s e=>?_) (w.length+1) 0 ((w.length:Int),y) F O' ⟨Z9,j.mono fun a g h1 c f=>O'⟩ O'
 ·obtain⟨s1,Can⟩:=s;obtain⟨b,T⟩:=e;simp only at b T;obtain⟨i,hi⟩:∃i:Nat,(w.length:Int)-(d:Int)=i:=⟨w.length-d,O'⟩
  rw[hi]at b T;subst b;obtain⟨y',g1,g2⟩:=z0V (F:=F) k hw h m p o (i:=i) O' (T.mono fun a g h1 c f=>O');refine .inl ⟨((w.length:Int)-((d+1:Nat):Int),y'),?_,rfl,g2.mono fun a g h1 c f=>O'⟩;have c1:(i:Int)>=0:=O'
  have r:W ((i:Int)-1)=(w.length:Int)-((d+1:Nat):Int):=by rw[n3 O' O'];omega
  unfold h0z;simp only[q0,c1,g1,r]
 ·obtain⟨s1,Can⟩:=s;obtain⟨b,T⟩:=e;simp only at b T;subst b;have c1:¬(w.length:Int)-((w.length+1:Nat):Int)>=0:=O'
  unfold h0z;simp only[q0,c1];exact⟨_,rfl,T.mono fun a g h1 c f=>O'⟩
def w0G {l:List C0}{w:List Int}{t:Old.Tm}(p:Old.O2 l t)(hw:∀x∈l,o3 x)(z:∀x∈w,Z5 .u8 x)(J:w.length<=64)(hf:2000<F):
  ∃Can,i0J F l w=some ⟨(w.length:Int),Can⟩/\Can.length=l.length/\∀lo s,Old.At l lo s->c0F Can w.length (s.top lo) (den w s):=by
 have y:=p.le;have U:=p.len;have hp:=n0B (step:=k0r F l w) (fun q s=>s.1=(q:Int)/\s.2.1=(w.length:Int)/\s.2.2.length=q/\∀lo b,Old.At l lo b->b.top lo<q->c0F s.2.2 w.length (b.top lo) (den w b))
  (fun r=>r.1=(w.length:Int)/\r.2.length=l.length/\∀lo b,Old.At l lo b->b.top lo<l.length->c0F r.2 w.length (b.top lo) (den w b)) (n:=l.length) (fun q s I v=>?_) (fun s v=>?_) l.length 0 (0,((w.length:Int),[])) F O' ⟨rfl,rfl,rfl,fun lo b _ h=>O'⟩ O'
 ·obtain⟨⟨N2,Can⟩,g1,g2,g3,g4⟩:=hp;simp only at g2 g3 g4;subst g2;refine⟨Can,?_,g3,fun lo s a=>g4 lo s a ?_⟩
  ·unfold i0J;rw[g1];rfl
  ·have:=a.len;have:=s.size_pos;unfold Old.Tm.top;omega
 ·obtain⟨s1,s2,Can⟩:=s;obtain⟨f,h1,c,k⟩:=v;simp only at f h1 c k;subst f;subst h1;have c1:(q:Int)<(l.length:Int):=O'
  have hm:(w.length+1)*(w.length+1)<=65*65:=mul_le_mul O' O';have R:W ((W ((w.length:Int)+1))*(W ((w.length:Int)+1)))=(((w.length+1)*(w.length+1):Nat):Int):=by
   rw[G3 (i:=w.length) O'];have e:((w.length+1:Nat):Int)*((w.length+1:Nat):Int)=(((w.length+1)*(w.length+1):Nat):Int):=Z9
   rw[e,n3 O' O']
  have o:V2 1 (((w.length+1)*(w.length+1):Nat):Int)=true:=by
   have m:∀M:Nat,M<=4225->V2 1 (M:Int)=true:=fun M hM=>by simp[V2];omega
   exact m _ hm
  have u:I0 24 Can [List.replicate ((w.length+1)*(w.length+1)) false]=true:=by simp[I0];omega
  have C:a02 l w (Can++[List.replicate ((w.length+1)*(w.length+1)) false]) q fun i' _=>w.length<i':=by
   refine⟨by simp[c],fun lo s a g=>?_,?_,fun lo s _ _ i j d m h6=>O'⟩
   ·have d:=k lo s a g;unfold c0F at d ⊢;rw[b0u O' O'];exact d
   ·rw[c08 c.symm,List.length_replicate]
  obtain⟨y',g1,g2⟩:=z0O (F:=F) p hw z J hf I C;refine .inl ⟨(((q+1:Nat):Int),((w.length:Int),y')),?_,rfl,rfl,g2.len,fun lo s a g=>?_⟩
  ·unfold k0r;simp only[q0,c1,R,o,Int.toNat_natCast,u,g1,G3 (i:=q) O']
  ·by_cases e:s.top lo=q
   ·rw[e];exact⟨g2.row,fun i j d m=>g2.new lo s a e i j d m trivial⟩
   ·exact g2.old lo s a O'
 ·obtain⟨s1,s2,Can⟩:=s;obtain⟨f,h1,c,k⟩:=v;simp only at f h1 c k;subst f;subst h1;have c1:¬(l.length:Int)<(l.length:Int):=O'
  unfold k0r;simp only[q0,c1];exact⟨_,rfl,rfl,c,k⟩
end
def T5 (c:Nat->Bool):Nat->Nat
 |0=>0
 |k+1=>if c (k+1)then k+1 else T5 c k
def j0s {c:Nat->Bool}:∀{j k:Nat},k<=j->c k=true->c (T5 c j)=true/\k<=T5 c j/\T5 c j<=j
 |0,k,h,hc=>by
  have:k=0:=O'
  subst this;exact⟨hc,le_refl _,le_refl _⟩
 |j+1,k,h,hc=>by
  unfold T5;cases e:c (j+1)with
  |true=>rw[if_pos rfl];exact⟨e,h,le_refl _⟩
  |false=>
   rw[if_neg Z9];have hk:k<=j:=by
    rcases Nat.lt_or_ge j k with a|a
    ·have:k=j+1:=O'
     subst this;rw[e]at hc;cases hc
    ·exact a
   obtain⟨h1,a,b⟩:=j0s (j:=j) hk hc;exact⟨h1,a,O'⟩
def n0k {step:Int->Option (V0 Int Int)}(c:Nat->Bool){lo:Nat}(a:c lo=true):∀(j:Nat),lo<=j->(∀k,lo<=k->k<=j->step (k:Int)=some (if c k then .done (k:Int)else .next ((k:Int)-1)))->∀fu,j<fu->iter step fu (j:Int)=some (T5 c j:Int)
 |0,h,hs,fu,hfu=>by
  obtain⟨fu,rfl⟩:∃m,fu=m+1:=⟨fu-1,O'⟩
  have f:lo=0:=O'
  subst f;have:=hs 0 (le_refl _) (le_refl _);rw[a]at this;exact a0o this
 |j+1,h,hs,fu,hfu=>by
  obtain⟨fu,rfl⟩:∃m,fu=m+1:=⟨fu-1,O'⟩
  have h1:=hs (j+1) h (le_refl _);unfold T5;cases e:c (j+1)with
  |true=>
   rw[e]at h1;rw[a0o h1];rfl
  |false=>
   rw[e]at h1;have i:lo≠j+1:=fun d=>by rw[d]at a;rw[e]at a;cases a
   have b:((j+1:Nat):Int)-1=(j:Int):=O'
   rw[e0m h1,b,n0k c a j O' (fun k g n=>hs k g O') fu O'];simp
def b0r (g:Nat->Nat->List Z1)(f:Nat->Nat->Bool):Nat->Nat->Nat->List Z1
 |0,_,_=>[]
 |n+1,i,j=>if i<j then g i (T5 (fun k=>f i k&&K5 f k j) j)++b0r g f n (T5 (fun k=>f i k&&K5 f k j) j) j else[]
def M3 (w:List Int):Old.Tm->Nat->Nat->Nat->Nat->List Z1
 |.eps,lo,deep,i,j=>[⟨(deep:Int),(Old.Tm.top .eps lo:Int),(i:Int),(j:Int)⟩]
 |.leaf s,lo,deep,i,j=>[⟨(deep:Int),(Old.Tm.top (.leaf s) lo:Int),(i:Int),(j:Int)⟩]
 |.cat a b,lo,deep,i,j=>(⟨(deep:Int),(Old.Tm.top (.cat a b) lo:Int),(i:Int),(j:Int)⟩:Z1) :: (M3 w a lo (deep+1) i (T5 (fun k=>den w a i k&&den w b k j) j)++M3 w b (lo+a.size) (deep+1) (T5 (fun k=>den w a i k&&den w b k j) j) j)
 |.alt a b,lo,deep,i,j=>(⟨(deep:Int),(Old.Tm.top (.alt a b) lo:Int),(i:Int),(j:Int)⟩:Z1) :: if den w a i j then M3 w a lo (deep+1) i j else M3 w b (lo+a.size) (deep+1) i j
 |.star a,lo,deep,i,j=>(⟨(deep:Int),(Old.Tm.top (.star a) lo:Int),(i:Int),(j:Int)⟩:Z1) :: b0r (fun i k=>M3 w a lo (deep+1) i k) (den w a) (j-i) i j
 |.maybe a,lo,deep,i,j=>(⟨(deep:Int),(Old.Tm.top (.maybe a) lo:Int),(i:Int),(j:Int)⟩:Z1) :: if i<j then M3 w a lo (deep+1) i j else[]
 |.group m a,lo,deep,i,j=>(⟨(deep:Int),(Old.Tm.top (.group m a) lo:Int),(i:Int),(j:Int)⟩:Z1) :: M3 w a lo (deep+1) i j
 |.iter a,lo,deep,i,j=>(⟨(deep:Int),(Old.Tm.top (.iter a) lo:Int),(i:Int),(j:Int)⟩:Z1) :: M3 w a lo (deep+1) i j
def d0k (w:List Int):∀(s:Old.Tm) (i j:Nat),den w s i j=true->i<=j
 |.eps,i,j,h=>by
            have:i=j:=by simpa[den]using h
            omega
 |.leaf st,i,j,h=>by
  simp only[den,and_eq_true,beq_iff_eq]at h;omega
 |.cat a b,i,j,h=>by
  simp only[den,any_eq_true,mem_range,and_eq_true,decide_eq_true_eq]at h;obtain⟨k,h1,c,_⟩:=h;omega
 |.alt a b,i,j,h=>by
  simp only[den,or_eq_true]at h;rcases h with h|h
  ·exact d0k w a i j h
  ·exact d0k w b i j h
 |.star a,i,j,h=>by
  simp only[den]at h;rw[f0k]at h;simp only[or_eq_true,beq_iff_eq,any_eq_true,mem_range,and_eq_true,decide_eq_true_eq]at h;rcases h with h|⟨k,h1,c,_⟩<;>omega
 |.maybe a,i,j,h=>by
  simp only[den,or_eq_true,beq_iff_eq]at h;rcases h with h|h
  ·omega
  ·exact d0k w a i j h
 |.group _ a,i,j,h=>d0k w a i j h
 |.iter a,i,j,h=>d0k w a i j h
def t0Q {f:Nat->Nat->Bool}{i j:Nat}(h:K5 f i j=true)(d:i<j):(f i (T5 (fun k=>f i k&&K5 f k j) j)=true/\K5 f (T5 (fun k=>f i k&&K5 f k j) j) j=true)/\i<T5 (fun k=>f i k&&K5 f k j) j/\T5 (fun k=>f i k&&K5 f k j) j<=j:=by
 rw[f0k]at h;have b:(i==j)=false:=by rw[beq_eq_false_iff_ne];omega
 rw[b,Bool.false_or,any_eq_true]at h;obtain⟨k,h1,a⟩:=h;simp only[and_eq_true,decide_eq_true_eq]at a;have h1:=mem_range.1 h1;obtain⟨g1,g2,g3⟩:=j0s (c:=fun k=>f i k&&K5 f k j) (j:=j) (k:=k) O' (by simp[a.2.1,a.2.2]);simp only[and_eq_true]at g1;exact⟨g1,O',g3⟩
def r0V {g:Nat->Nat->List Z1}{f:Nat->Nat->Bool}{m:Nat}(hg:∀i k,f i k=true->i<k->(g i k).length<=m*(k-i)):∀(n i j:Nat),K5 f i j=true->(b0r g f n i j).length<=m*(j-i)
 |0,i,j,_=>by simp[b0r]
 |n+1,i,j,h=>by
  unfold b0r
  by_cases a:i<j
  ·rw[if_pos a];obtain⟨⟨g1,g2⟩,g3,g4⟩:=t0Q h a;generalize T5 (fun k=>f i k&&K5 f k j) j=k at *;have h1:=hg i k g1 g3;have b:=r0V hg n k j g2;have e:m*(k-i)+m*(j-k)=m*(j-i):=by rw[<-Nat.mul_add];congr 1;omega
   rw[length_append];omega
  ·rw[if_neg a];simp
def p0C {w:List Int}{a b:Old.Tm}{i j:Nat}(h:den w (.cat a b) i j=true):(den w a i (T5 (fun k=>den w a i k&&den w b k j) j)=true/\den w b (T5 (fun k=>den w a i k&&den w b k j) j) j=true)/\i<=T5 (fun k=>den w a i k&&den w b k j) j/\T5 (fun k=>den w a i k&&den w b k j) j<=j:=by
 simp only[den,any_eq_true,mem_range,and_eq_true,decide_eq_true_eq]at h;obtain⟨k,h1,f,d,e⟩:=h;obtain⟨g1,g2,g3⟩:=j0s (c:=fun k=>den w a i k&&den w b k j) (j:=j) (k:=k) O' (by simp[d,e]);simp only[and_eq_true]at g1;exact⟨g1,O',g3⟩
def b0C (w:List Int):∀(s:Old.Tm) (lo deep i j:Nat),den w s i j=true->(M3 w s lo deep i j).length<=s.size*max (j-i) 1
 |.eps,lo,deep,i,j,h=>by simp[M3,Old.Tm.size];omega
 |.leaf s,lo,deep,i,j,h=>by simp[M3,Old.Tm.size];omega
 |.cat a b,lo,deep,i,j,h=>by
  obtain⟨⟨g1,g2⟩,g3,g4⟩:=p0C h;unfold M3;generalize T5 (fun k=>den w a i k&&den w b k j) j=k at *;have h1:=b0C w a lo (deep+1) i k g1;have d:=b0C w b (lo+a.size) (deep+1) k j g2;have o:a.size*max (k-i) 1<=a.size*max (j-i) 1:=Nat.mul_le_mul_left _ O';have n:b.size*max (j-k) 1<=b.size*max (j-i) 1:=Nat.mul_le_mul_left _ O';simp only[length_cons,length_append,Old.Tm.size,add_mul,one_mul];omega
 |.alt a b,lo,deep,i,j,h=>by
  unfold M3;simp only[length_cons,Old.Tm.size,add_mul,one_mul];cases c:den w a i j with
  |true=>
   have h1:=b0C w a lo (deep+1) i j c;rw[if_pos rfl];omega
  |false=>
   have e:den w b i j=true:=by
    simp only[den,c,Bool.false_or]at h;exact h
   have h1:=b0C w b (lo+a.size) (deep+1) i j e;rw[if_neg Z9];omega
 |.star a,lo,deep,i,j,h=>by
  unfold M3;have h1:=r0V (g:=fun i k=>M3 w a lo (deep+1) i k) (f:=den w a) (m:=a.size) (fun i k h1 d=>by
   have:=b0C w a lo (deep+1) i k h1;rw[show max (k-i) 1=k-i from O']at this;exact this) (j-i) i j h
  have d:a.size*(j-i)<=a.size*max (j-i) 1:=Nat.mul_le_mul_left _ O';simp only[length_cons,Old.Tm.size,add_mul,one_mul];omega
 |.maybe a,lo,deep,i,j,h=>by
  unfold M3;simp only[length_cons,Old.Tm.size,add_mul,one_mul]
  by_cases c:i<j
  ·rw[if_pos c];have ha:den w a i j=true:=by
    simp only[den]at h;have:(i==j)=false:=by rw[beq_eq_false_iff_ne];omega
    rw[this,Bool.false_or]at h;exact h
   have h1:=b0C w a lo (deep+1) i j ha;omega
  ·rw[if_neg c];simp;omega
 |.group _ a,lo,deep,i,j,h=>by
  have h1:=b0C w a lo (deep+1) i j h;unfold M3;simp only[length_cons,Old.Tm.size,add_mul,one_mul];omega
 |.iter a,lo,deep,i,j,h=>by
  have h1:=b0C w a lo (deep+1) i j h;unfold M3;simp only[length_cons,Old.Tm.size,add_mul,one_mul];omega
section
variable {F:Nat}{l:List C0}{w:List Int}{Can:List (List Bool)}
def x0Z {r:List C0->S7->Int->Int->Int->Int->Option (List Z1)}{a:Old.Tm}{lo deep:Nat}{j:Nat}{q:Int}(hd:deep<=100000)(y:j<=64)(z:2000<F)
  (u:∀i k:Nat,i<=k->k<=j->a7 F ⟨(w.length:Int),Can⟩ ((gt l q).A) (i:Int) (k:Int)=some (den w a i k)) (o:∀k:Nat,k<=j->a7 F ⟨(w.length:Int),Can⟩ q (k:Int) (j:Int)=some (K5 (den w a) k j))
  (s:∀i k:Nat,den w a i k=true->i<=k->k<=j->r l ⟨(w.length:Int),Can⟩ ((gt l q).A) (((deep+1:Nat)):Int) (i:Int) (k:Int)=some (M3 w a lo (deep+1) i k)):
  ∀(d i:Nat) (out:List Z1) (fu:Nat),j-i<=d->K5 (den w a) i j=true->out.length+a.size*(j-i)<=100000->d<fu->iter (g00 F r l ⟨(w.length:Int),Can⟩ q (deep:Int) (j:Int)) fu ((i:Int),out)=some (out++b0r (fun i k=>M3 w a lo (deep+1) i k) (den w a) d i j):=by
 intro d
 induction d with
 |zero=>
  intro i out fu h1 h x p;obtain⟨fu,rfl⟩:∃m,fu=m+1:=⟨fu-1,O'⟩
  have c1:¬(i:Int)<(j:Int):=O'
  have e0:b0r (fun i k=>M3 w a lo (deep+1) i k) (den w a) 0 i j=[]:=rfl;rw[e0,List.append_nil];refine a0o ?_;unfold g00;simp only[q0,c1]
 |succ d ih=>
  intro i out fu h1 h x p;obtain⟨fu,rfl⟩:∃m,fu=m+1:=⟨fu-1,O'⟩
  unfold b0r
  by_cases b:i<j
  ·have c1:(i:Int)<(j:Int):=O'
   rw[if_pos b];obtain⟨⟨g1,g2⟩,g3,g4⟩:=t0Q h b;have g:=n0k (step:=n0O F l ⟨(w.length:Int),Can⟩ q (j:Int) (i:Int)) (fun k=>den w a i k&&K5 (den w a) k j) (lo:=T5 (fun k=>den w a i k&&K5 (den w a) k j) j) (by simp[g1,g2]) j g4 (fun k C n=>by
    unfold n0O;have v:W ((k:Int)-1)=(k:Int)-1:=n3 O' O';simp only[u i k O' n,o k n,G0,v];cases den w a i k
    ·rfl
    ·cases K5 (den w a) k j<;>rfl) F O'
   generalize T5 (fun k=>den w a i k&&K5 (den w a) k j) j=k at *;have hlen:=b0C w a lo (deep+1) i k g1;rw[show max (k-i) 1=k-i from O']at hlen;have e:a.size*(k-i)+a.size*(j-k)=a.size*(j-i):=by rw[<-Nat.mul_add];congr 1;omega
   have f:I0 32 out (M3 w a lo (deep+1) i k)=true:=by simp[I0];omega
   have c:=ih k (out++M3 w a lo (deep+1) i k) fu O' g2 (by rw[length_append];omega) O';rw[List.append_assoc]at c;rw[<-c];refine e0m ?_;unfold g00;simp only[q0,c1,g,G3 (i:=deep) O',s i k g1 O' g4,f]
  ·have c1:¬(i:Int)<(j:Int):=O'
   rw[if_neg b];rw[List.append_nil];refine a0o ?_;unfold g00;simp only[q0,c1]
end
section
variable {F:Nat}{l:List C0}{w:List Int}{Can:List (List Bool)}
def E0G (hN:w.length<=64)(hf:2000<F)(hlen:Can.length=l.length)(B1:∀lo s,Old.At l lo s->c0F Can w.length (s.top lo) (den w s)):
  ∀(s:Old.Tm) (lo n deep i j:Nat),Old.At l lo s->s.size<=n->s.size<=400->deep+s.size<=1000->den w s i j=true->j<=w.length->I7 F n l ⟨(w.length:Int),Can⟩ (s.top lo:Int) (deep:Int) (i:Int) (j:Int)=some (M3 w s lo deep i j):=by
 have u:∀{s:Old.Tm} {lo i j:Nat},Old.At l lo s->i<=j->j<=w.length->a7 F ⟨(w.length:Int),Can⟩ (s.top lo:Int) (i:Int) (j:Int)=some (den w s i j):=fun {s lo i j} d h1 z=>by
  have:=d.len;have:=s.size_pos;exact b0S (B1 lo s d) (by rw[hlen];unfold Old.Tm.top;omega) hN h1 z
 have ap:∀{x y:List Z1},x.length<=100000->y.length<=100000->I0 32 x y=true:=fun {x y} h1 z=>by simp[I0];omega
 have v:∀{s:Old.Tm} {lo deep i j:Nat},s.size<=400->den w s i j=true->j<=w.length->(M3 w s lo deep i j).length<=30000:=fun {s lo deep i j} h1 z h3=>by
  have o:=b0C w s lo deep i j z;have h5:s.size*max (j-i) 1<=400*64:=mul_le_mul h1 O';omega
 intro s
 induction s with
 |eps=>
  intro lo n deep i j d hn o hd e g;obtain⟨n,rfl⟩:∃m,n=m+1:=⟨n-1,by simp only[Old.Tm.size]at hn;omega⟩
  have hl:=d.len;have f:B0 l (Old.Tm.top .eps lo:Int)=true:=R0 O' (by unfold Old.Tm.top;simp only[Old.Tm.size]at hl ⊢;omega);unfold I7;rw[d.D2];simp only[f,if_true,Old.Tm.node];rfl
 |leaf st=>
  intro lo n deep i j d hn o hd e g;obtain⟨n,rfl⟩:∃m,n=m+1:=⟨n-1,by simp only[Old.Tm.size]at hn;omega⟩
  have hl:=d.len;have f:B0 l (Old.Tm.top (.leaf st) lo:Int)=true:=R0 O' (by unfold Old.Tm.top;simp only[Old.Tm.size]at hl ⊢;omega);unfold I7;rw[d.D2];simp only[f,if_true,Old.Tm.node];rfl
 |cat a b iha ihb=>
  intro lo n deep i j d hn o hd e g;obtain⟨n,rfl⟩:∃m,n=m+1:=⟨n-1,by simp only[Old.Tm.size]at hn;omega⟩
  have hl:=d.len;simp only[Old.Tm.size]at hn o hd hl;have f:B0 l (Old.Tm.top (.cat a b) lo:Int)=true:=R0 O' V';obtain⟨ha,U,_⟩:=(Old.At.bin (a:=a) (b:=b) rfl rfl).1 d;obtain⟨⟨g1,g2⟩,g3,g4⟩:=p0C e;have b1:=n0k (step:=m0a F l ⟨(w.length:Int),Can⟩ (Old.Tm.top (.cat a b) lo:Int) (i:Int) (j:Int)) (fun k=>den w a i k&&den w b k j) (lo:=T5 (fun k=>den w a i k&&den w b k j) j) (by simp[g1,g2]) j g4 (fun k k1 k2=>by
   unfold m0a;have hW:W ((k:Int)-1)=(k:Int)-1:=n3 O' O';rw[d.D2];simp only[Old.Tm.node,u ha (show i<=k from O') (show k<=w.length from O'),u U k2 g,G0,hW];cases den w a i k
   ·rfl
   ·cases den w b k j<;>rfl) F O'
  unfold M3;generalize T5 (fun k=>den w a i k&&den w b k j) j=k at *;have p:=iha lo n (deep+1) i k ha O' O' O' g1 O';have e2:=ihb (lo+a.size) n (deep+1) k j U O' O' O' g2 g;have l1:=v (lo:=lo) (deep:=deep+1) (show a.size<=400 from O') g1 (show k<=w.length from O');have l2:=v (lo:=lo+a.size) (deep:=deep+1) (show b.size<=400 from O') g2 g;unfold I7;rw[d.D2];have J:I0 32 [(⟨(deep:Int),(Old.Tm.top (.cat a b) lo:Int),(i:Int),(j:Int)⟩:Z1)] (M3 w a lo (deep+1) i k)=true:=ap Z9 O';have C:I0 32 ([(⟨(deep:Int),(Old.Tm.top (.cat a b) lo:Int),(i:Int),(j:Int)⟩:Z1)]++M3 w a lo (deep+1) i k) (M3 w b (lo+a.size) (deep+1) k j)=true:=ap Z' O';simp only[f,if_true,Old.Tm.node,beq_self_eq_true,b1,G0,G3 (i:=deep) O',p,J,e2,C];simp
 |alt a b iha ihb=>
  intro lo n deep i j d hn o hd e g;obtain⟨n,rfl⟩:∃m,n=m+1:=⟨n-1,by simp only[Old.Tm.size]at hn;omega⟩
  have hl:=d.len;simp only[Old.Tm.size]at hn o hd hl;have f:B0 l (Old.Tm.top (.alt a b) lo:Int)=true:=R0 O' V';obtain⟨ha,U,_⟩:=(Old.At.bin (a:=a) (b:=b) rfl rfl).1 d;have R:=d0k w _ i j e;unfold M3 I7;rw[d.D2];simp only[q0,f,Old.Tm.node,show((4:Int)==3)=false from rfl,beq_self_eq_true,u ha R g,G3 (i:=deep) O'];cases c:den w a i j with
  |true=>
   have p:=iha lo n (deep+1) i j ha O' O' O' c g;have h:I0 32 [(⟨(deep:Int),(Old.Tm.top (.alt a b) lo:Int),(i:Int),(j:Int)⟩:Z1)] (M3 w a lo (deep+1) i j)=true:=ap Z9 (by have:=v (lo:=lo) (deep:=deep+1) (show a.size<=400 from O') c g;omega);simp only[if_true,p,G0,h];rfl
  |false=>
   have I:den w b i j=true:=by simp only[den,c,Bool.false_or]at e;exact e
   have p:=ihb (lo+a.size) n (deep+1) i j U O' O' O' I g;have h:I0 32 [(⟨(deep:Int),(Old.Tm.top (.alt a b) lo:Int),(i:Int),(j:Int)⟩:Z1)] (M3 w b (lo+a.size) (deep+1) i j)=true:=ap Z9 (by have:=v (lo:=lo+a.size) (deep:=deep+1) (show b.size<=400 from O') I g;omega);simp only[q0,p,h];rfl
 |star a iha=>
  intro lo n deep i j d hn o hd e g;obtain⟨n,rfl⟩:∃m,n=m+1:=⟨n-1,by simp only[Old.Tm.size]at hn;omega⟩
  have hl:=d.len;simp only[Old.Tm.size]at hn o hd hl;have f:B0 l (Old.Tm.top (.star a) lo:Int)=true:=R0 O' V';obtain⟨ha,_⟩:=(Old.At.un (a:=a) rfl rfl).1 d;have hA:(gt l (Old.Tm.top (.star a) lo:Int)).A=(a.top lo:Int):=by rw[d.D2];rfl
  have a1:=x0Z (F:=F) (l:=l) (w:=w) (Can:=Can) (r:=I7 F n) (a:=a) (lo:=lo) (deep:=deep) (j:=j) (q:=(Old.Tm.top (.star a) lo:Int)) O' O' hf
   (fun i k h1 z=>by rw[hA];exact u ha h1 O') (fun k h1=>u d h1 g) (fun i k h1 z h3=>by rw[hA];exact iha lo n (deep+1) i k ha O' O' O' h1 O')
   (j-i) i [(⟨(deep:Int),(Old.Tm.top (.star a) lo:Int),(i:Int),(j:Int)⟩:Z1)] F (le_refl _) e (by
    have:a.size*(j-i)<=400*64:=mul_le_mul O' O';simp;omega) O'
  unfold M3 I7;rw[d.D2];simp only[q0,f,Old.Tm.node,show((5:Int)==3)=false from rfl,show((5:Int)==4)=false from rfl,beq_self_eq_true,a1];rfl
 |maybe a iha=>
  intro lo n deep i j d hn o hd e g;obtain⟨n,rfl⟩:∃m,n=m+1:=⟨n-1,by simp only[Old.Tm.size]at hn;omega⟩
  have hl:=d.len;simp only[Old.Tm.size]at hn o hd hl;have f:B0 l (Old.Tm.top (.maybe a) lo:Int)=true:=R0 O' V';obtain⟨ha,_⟩:=(Old.At.un (a:=a) rfl rfl).1 d;have R:=d0k w _ i j e;unfold M3 I7;rw[d.D2];simp only[q0,f,Old.Tm.node,show((6:Int)==3)=false from rfl,show((6:Int)==4)=false from rfl,show((6:Int)==5)=false from rfl,beq_self_eq_true,G3 (i:=deep) O']
  by_cases c:i<j
  ·have c1:(i:Int)<(j:Int):=O'
   have hda:den w a i j=true:=by
    simp only[den]at e;have:(i==j)=false:=by rw[beq_eq_false_iff_ne];omega
    rw[this,Bool.false_or]at e;exact e
   have p:=iha lo n (deep+1) i j ha O' O' O' hda g;have h:I0 32 [(⟨(deep:Int),(Old.Tm.top (.maybe a) lo:Int),(i:Int),(j:Int)⟩:Z1)] (M3 w a lo (deep+1) i j)=true:=ap Z9 (by have:=v (lo:=lo) (deep:=deep+1) (show a.size<=400 from O') hda g;omega);simp only[q0,c,c1,p,h];rfl
  ·have c1:¬(i:Int)<(j:Int):=O'
   simp only[q0,c,c1]
 |group m a iha=>
  intro lo n deep i j d hn o hd e g;obtain⟨n,rfl⟩:∃m,n=m+1:=⟨n-1,by simp only[Old.Tm.size]at hn;omega⟩
  have hl:=d.len;simp only[Old.Tm.size]at hn o hd hl;have f:B0 l (Old.Tm.top (.group m a) lo:Int)=true:=R0 O' V';obtain⟨ha,_⟩:=(Old.At.un (a:=a) rfl rfl).1 d;have hda:den w a i j=true:=e;have p:=iha lo n (deep+1) i j ha O' O' O' hda g;have h:I0 32 [(⟨(deep:Int),(Old.Tm.top (.group m a) lo:Int),(i:Int),(j:Int)⟩:Z1)] (M3 w a lo (deep+1) i j)=true:=ap Z9 (by have:=v (lo:=lo) (deep:=deep+1) (show a.size<=400 from O') hda g;omega);unfold M3 I7;rw[d.D2];simp only[q0,f,Old.Tm.node,show((7:Int)==3)=false from rfl,show((7:Int)==4)=false from rfl,show((7:Int)==5)=false from rfl,show((7:Int)==6)=false from rfl,beq_self_eq_true,G3 (i:=deep) O',p,h];rfl
 |iter a iha=>
  intro lo n deep i j d hn o hd e g;obtain⟨n,rfl⟩:∃m,n=m+1:=⟨n-1,by simp only[Old.Tm.size]at hn;omega⟩
  have hl:=d.len;simp only[Old.Tm.size]at hn o hd hl;have f:B0 l (Old.Tm.top (.iter a) lo:Int)=true:=R0 O' V';obtain⟨ha,_⟩:=(Old.At.un (a:=a) rfl rfl).1 d;have hda:den w a i j=true:=e;have p:=iha lo n (deep+1) i j ha O' O' O' hda g;have h:I0 32 [(⟨(deep:Int),(Old.Tm.top (.iter a) lo:Int),(i:Int),(j:Int)⟩:Z1)] (M3 w a lo (deep+1) i j)=true:=ap Z9 (by have:=v (lo:=lo) (deep:=deep+1) (show a.size<=400 from O') hda g;omega);unfold M3 I7;rw[d.D2];simp only[q0,f,Old.Tm.node,show((8:Int)==3)=false from rfl,show((8:Int)==4)=false from rfl,show((8:Int)==5)=false from rfl,show((8:Int)==6)=false from rfl,show((8:Int)==7)=false from rfl,beq_self_eq_true,G3 (i:=deep) O',p,h];rfl
end
section
variable {F:Nat}{l:List C0}{w:List Int}{t:Old.Tm}
end
section
variable {w:List Int}
def Fit.den {s:Tm}{i:Nat}{P:Pt}(h:Fit w s i P):Go.Proofs.YtdficaoajalfaaaGreat.den w s i (i+P.wid)=true:=by
 induction h with
 |eps=>simp[Go.Proofs.YtdficaoajalfaaaGreat.den,Pt.wid]
 |leaf h1 d=>simp[Go.Proofs.YtdficaoajalfaaaGreat.den,Pt.wid,h1,d]
 |@cat a b i x y _ _ i1 i2=>
  simp only[Go.Proofs.YtdficaoajalfaaaGreat.den,Pt.wid,any_eq_true,mem_range,and_eq_true,decide_eq_true_eq];exact⟨i+x.wid,O',O',i1,by rw[<-add_assoc];exact i2⟩
 |altL _ c=>simp only[Go.Proofs.YtdficaoajalfaaaGreat.den,Pt.wid,c,Bool.true_or]
 |altR _ c=>simp only[Go.Proofs.YtdficaoajalfaaaGreat.den,Pt.wid,c,Bool.or_true]
 |star0=>simp only[Go.Proofs.YtdficaoajalfaaaGreat.den];rw[f0k];simp[Pt.wid]
 |@star a i x r _ hp _ i1 i2=>
  simp only[Go.Proofs.YtdficaoajalfaaaGreat.den]at i2 ⊢;rw[f0k];simp only[Pt.wid,or_eq_true,any_eq_true,mem_range,and_eq_true,decide_eq_true_eq];exact .inr ⟨i+x.wid,O',O',i1,by rw[<-add_assoc];exact i2⟩
 |maybe0=>simp[Go.Proofs.YtdficaoajalfaaaGreat.den,Pt.wid]
 |maybe _ _ c=>simp only[Go.Proofs.YtdficaoajalfaaaGreat.den,Pt.wid,c,Bool.or_true]
 |group _ c=>exact c
 |iter _ c=>exact c
def f0Q:∀{s:Tm} {i j:Nat},den w s i j=true->∃P,Fit w s i P/\i+P.wid=j:=by
 intro s
 induction s with
 |eps=>intro i j h;exact⟨.nil,.eps,by simpa[den,Pt.wid]using h⟩
 |leaf S=>
  intro i j h;simp only[den,and_eq_true,beq_iff_eq,decide_eq_true_eq]at h;exact⟨.byte,.leaf h.2.1 h.2.2,h.1.symm⟩
 |cat a b d ib=>
  intro i j h;simp only[den,any_eq_true,mem_range,and_eq_true,decide_eq_true_eq]at h;obtain⟨k,_,_,h1,e⟩:=h;obtain⟨x,x1,rfl⟩:=d h1;obtain⟨y,f,rfl⟩:=ib e;exact⟨.two x y,.cat x1 f,N'⟩
 |alt a b d ib=>
  intro i j h;simp only[den,or_eq_true]at h;rcases h with h|h
  ·obtain⟨x,x1,x2⟩:=d h;exact⟨.one x,.altL x1,x2⟩
  ·obtain⟨x,x1,x2⟩:=ib h;exact⟨.other x,.altR x1,x2⟩
 |star a d=>
  have key:∀(n i j:Nat),j-i<=n->den w (.star a) i j=true->∃P,Fit w (.star a) i P/\i+P.wid=j:=by
   intro n
   induction n with
   |zero=>
    intro i j hn h;have hle:=d0k w _ _ _ h;exact⟨.nil,.star0,N'⟩
   |succ n ih=>
    intro i j hn h;simp only[den]at h;rw[f0k]at h;simp only[or_eq_true,beq_iff_eq,any_eq_true,mem_range,and_eq_true,decide_eq_true_eq]at h;rcases h with h|⟨k,h1,e,h3,h4⟩
    ·exact⟨.nil,.star0,N'⟩
    ·obtain⟨x,x1,rfl⟩:=d h3;obtain⟨r,r1,r2⟩:=ih (i+x.wid) j O' (by simp only[den];exact h4);exact⟨.two x r,.star x1 O' r1,N'⟩
  intro i j h;exact key (j-i) i j (le_refl _) h
 |maybe a d=>
  intro i j h;simp only[den,or_eq_true,beq_iff_eq]at h
  by_cases c:i=j
  ·exact⟨.nil,.maybe0,N'⟩
  ·rcases h with h|h
   ·exact absurd h c
   ·obtain⟨x,x1,x2⟩:=d h;exact⟨.one x,.maybe x1 O',x2⟩
 |group m a d=>intro i j h;obtain⟨x,x1,x2⟩:=d (show den w a i j=true from h);exact⟨.one x,.group x1,x2⟩
 |iter a d=>intro i j h;obtain⟨x,x1,x2⟩:=d (show den w a i j=true from h);exact⟨.one x,.iter x1,x2⟩
def Mn (w:List Int)(s:Tm)(i:Nat)(P:Pt):Prop:=∀Q,Fit w s i Q->P.wid=Q.wid->P=Q\/PA P Q
def stE (F:Nat->Pt->List Z1):Nat->Pt->List Z1
 |k,.two x r=>F k x++stE F (k+x.wid) r
 |_,_=>[]
def K2:Tm->Nat->Nat->Nat->Pt->List Z1
 |.eps,lo,d,k,P=>[⟨(d:Int),(Tm.top .eps lo:Int),(k:Int),((k+P.wid:Nat):Int)⟩]
 |.leaf S,lo,d,k,P=>[⟨(d:Int),(Tm.top (.leaf S) lo:Int),(k:Int),((k+P.wid:Nat):Int)⟩]
 |.cat a b,lo,d,k,P=>(⟨(d:Int),(Tm.top (.cat a b) lo:Int),(k:Int),((k+P.wid:Nat):Int)⟩:Z1) :: (match P with|.two x y=>K2 a lo (d+1) k x++K2 b (lo+a.size) (d+1) (k+x.wid) y|_=>[])
 |.alt a b,lo,d,k,P=>(⟨(d:Int),(Tm.top (.alt a b) lo:Int),(k:Int),((k+P.wid:Nat):Int)⟩:Z1) :: (match P with|.one x=>K2 a lo (d+1) k x|.other x=>K2 b (lo+a.size) (d+1) k x|_=>[])
 |.star a,lo,d,k,P=>(⟨(d:Int),(Tm.top (.star a) lo:Int),(k:Int),((k+P.wid:Nat):Int)⟩:Z1) :: stE (fun k x=>K2 a lo (d+1) k x) k P
 |.maybe a,lo,d,k,P=>(⟨(d:Int),(Tm.top (.maybe a) lo:Int),(k:Int),((k+P.wid:Nat):Int)⟩:Z1) :: (match P with|.one x=>K2 a lo (d+1) k x|_=>[])
 |.group m a,lo,d,k,P=>(⟨(d:Int),(Tm.top (.group m a) lo:Int),(k:Int),((k+P.wid:Nat):Int)⟩:Z1) :: (match P with|.one x=>K2 a lo (d+1) k x|_=>[])
 |.iter a,lo,d,k,P=>(⟨(d:Int),(Tm.top (.iter a) lo:Int),(k:Int),((k+P.wid:Nat):Int)⟩:Z1) :: (match P with|.one x=>K2 a lo (d+1) k x|_=>[])
def t0R {c:Nat->Bool}{j k:Nat}(h:k<=j)(e:c k=true)(hm:∀a,k<=a->a<=j->c a=true->a=k):T5 c j=k:=by
 obtain⟨h1,d,b⟩:=j0s h e;exact hm _ d b h1
def r0m {x x' y y':Pt}(h:Pt.two x y=.two x' y'\/PA (.two x y) (.two x' y')):x'.wid<=x.wid:=by
 rcases h with h|h
 ·injection h with h1 h2;rw[h1];exact le_refl _
 ·cases h with
  |wid h=>omega
  |fst h _=>omega
  |snd _=>exact le_refl _
def s0Y {x x' y y':Pt}(hw:x.wid=x'.wid)(h:Pt.two x y=.two x' y'\/PA (.two x y) (.two x' y')):x=x'\/PA x x':=by
 rcases h with h|h
 ·injection h with h1 h2;exact .inl h1
 ·cases h with
  |wid h=>omega
  |fst _ h=>exact .inr h
  |snd _=>exact .inl rfl
def PA.irr {x:Pt}(h:PA x x):False:=by
 induction x with
 |nil=>cases h
 |byte=>cases h
 |two x y a iy=>
  cases h with
  |wid h=>omega
  |fst _ h=>exact a h
  |snd h=>exact iy h
 |one x a=>cases h with|one h=>exact a h
 |other x a=>cases h with|other h=>exact a h
def q03 {x y y':Pt}(h:Pt.two x y=.two x y'\/PA (.two x y) (.two x y')):y=y'\/PA y y':=by
 rcases h with h|h
 ·injection h with h1 h2;exact .inl h2
 ·cases h with
  |wid h=>omega
  |fst _ h=>exact h.irr.elim
  |snd h=>exact .inr h
def C0c:∀(s:Tm) (lo d i:Nat) (P:Pt),Fit w s i P->Mn w s i P->M3 w s lo d i (i+P.wid)=K2 s lo d i P:=by
 intro s
 induction s with
 |eps=>intro lo d i P _ _;rfl
 |leaf S=>intro lo d i P _ _;rfl
 |cat a b ia ib=>
  intro lo d i P h hm;cases h with | @cat _ _ _ x y f v=>
  have hk:T5 (fun k=>den w a i k&&den w b k (i+(Pt.two x y).wid)) (i+(Pt.two x y).wid)=i+x.wid:=by
   refine t0R N' ?_ fun z h1 e g=>?_
   ·have:=f.den;have e:=v.den;simp only[Pt.wid,and_eq_true];exact⟨this,by rw[<-add_assoc];exact e⟩
   ·simp only[and_eq_true]at g;obtain⟨x',x1,rfl⟩:=f0Q g.1;obtain⟨y',u,q⟩:=f0Q g.2;have:=r0m (hm (.two x' y') (.cat x1 u) (by simp only[Pt.wid]at q ⊢;omega));omega
  simp only[M3,K2,hk];have p:=ia lo (d+1) i x f (fun x' h1 e=>s0Y e (hm (.two x' y) (.cat h1 (by rw[<-e];exact v)) N'));have o:=ib (lo+a.size) (d+1) (i+x.wid) y v (fun y' h1 e=>q03 (hm (.two x y') (.cat f h1) N'));rw[p,show i+(Pt.two x y).wid=i+x.wid+y.wid from N',o]
 |alt a b ia ib=>
  intro lo d i P h hm;cases h with
  |@altL _ _ _ x f=>
   simp only[M3,K2,Pt.wid,f.den,if_true];rw[ia lo (d+1) i x f (fun x' h1 e=>by
    rcases hm (.one x') (.altL h1) e with h|h
    ·injection h with h;exact .inl h
    ·cases h with|one h=>exact .inr h)]
  |@altR _ _ _ x f=>
   have hn:den w a i (i+x.wid)=false:=by
    cases c:den w a i (i+x.wid)with
    |false=>rfl
    |true=>
     obtain⟨x',x1,x2⟩:=f0Q c;rcases hm (.one x') (.altL x1) N' with h|h
     ·cases h
     ·cases h
   simp only[M3,K2,Pt.wid,hn,if_false,false_eq_true];rw[ib (lo+a.size) (d+1) i x f (fun x' h1 e=>by
    rcases hm (.other x') (.altR h1) e with h|h
    ·injection h with h;exact .inl h
    ·cases h with|other h=>exact .inr h)]
 |star a ia=>
  intro lo d i P h hm;simp only[M3,K2];rw[show i+P.wid-i=P.wid from O'];have key:∀(n i:Nat) (P:Pt),P.wid<=n->Fit w (.star a) i P->Mn w (.star a) i P->b0r (fun i k=>M3 w a lo (d+1) i k) (den w a) n i (i+P.wid)=stE (fun k x=>K2 a lo (d+1) k x) i P:=by
   intro n
   induction n with
   |zero=>
    intro i P hn h hm;cases h with
    |star0=>rfl
    |star f hp _=>simp only[Pt.wid]at hn;omega
   |succ n ih=>
    intro i P hn h hm;cases h with
    |star0=>simp[b0r,stE,Pt.wid]
    |@star _ _ x r f hp hr=>
     have hk:T5 (fun k=>den w a i k&&K5 (den w a) k (i+(Pt.two x r).wid)) (i+(Pt.two x r).wid)=i+x.wid:=by
      refine t0R N' ?_ fun z h1 e g=>?_
      ·have:=f.den;have e:=hr.den;simp only[den]at e;simp only[Pt.wid,and_eq_true];exact⟨this,by rw[<-add_assoc];exact e⟩
      ·simp only[and_eq_true]at g;obtain⟨x',x1,rfl⟩:=f0Q g.1;obtain⟨y',u,q⟩:=f0Q (s:=.star a) (i:=i+x'.wid) (j:=i+(Pt.two x r).wid) (by simp only[den];exact g.2);have:=r0m (hm (.two x' y') (.star x1 O' u) (by simp only[Pt.wid]at q ⊢;omega));omega
     simp only[b0r,stE,hk];have p:=ia lo (d+1) i x f (fun x' h1 e=>s0Y e (hm (.two x' r) (.star h1 O' (by rw[<-e];exact hr)) N'));have o:=ih (i+x.wid) r (by simp only[Pt.wid]at hn;omega) hr (fun y' h1 e=>q03 (hm (.two x y') (.star f hp h1) N'));rw[if_pos N',p,show i+(Pt.two x r).wid=i+x.wid+r.wid from N',o]
  rw[key P.wid i P (le_refl _) h hm]
 |maybe a ia=>
  intro lo d i P h hm;cases h with
  |maybe0=>simp[M3,K2,Pt.wid]
  |@maybe _ _ x f hp=>
   simp only[M3,K2];rw[if_pos (show i<i+(Pt.one x).wid from N')];simp only[Pt.wid];rw[ia lo (d+1) i x f (fun x' h1 e=>by
    rcases hm (.one x') (.maybe h1 O') e with h|h
    ·injection h with h;exact .inl h
    ·cases h with|one h=>exact .inr h)]
 |group m a ia=>
  intro lo d i P h hm;cases h with | @group _ _ _ x f=>
  simp only[M3,K2,Pt.wid];rw[ia lo (d+1) i x f (fun x' h1 e=>by
   rcases hm (.one x') (.group h1) e with h|h
   ·injection h with h;exact .inl h
   ·cases h with|one h=>exact .inr h)]
 |iter a ia=>
  intro lo d i P h hm;cases h with | @iter _ _ x f=>
  simp only[M3,K2,Pt.wid];rw[ia lo (d+1) i x f (fun x' h1 e=>by
   rcases hm (.one x') (.iter h1) e with h|h
   ·injection h with h;exact .inl h
   ·cases h with|one h=>exact .inr h)]
end
