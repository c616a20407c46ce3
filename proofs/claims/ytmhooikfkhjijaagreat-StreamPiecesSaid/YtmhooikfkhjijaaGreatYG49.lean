/- P. Its conditions: none. -/
import Derived.Test.YtmhooikfkhjijaaGreatYG48
import Derived.Test.YtmhooikfkhjijaaGreatYG47
open List (any_eq_true mem_range length_append length_cons)
open Bool (and_eq_true false_eq_true or_eq_true or_eq_false_iff)
open Nat (add_mul one_mul le_refl add_assoc)
set_option linter.all false
namespace Go.Proofs.YtmhooikfkhjijaaGreat
open Go.V Go.RowKit Old Go.X
def t0Q {f:Nat->Nat->Bool}{i j:Nat}(h:K5 f i j=true)(d:i<j):(f i (T5 (fun k=>f i k&&K5 f k j) j)=true/\K5 f (T5 (fun k=>f i k&&K5 f k j) j) j=true)/\i<T5 (fun k=>f i k&&K5 f k j) j/\T5 (fun k=>f i k&&K5 f k j) j<=j:=by
 rw[f0k]at h;have a:(i==j)=false:=by rw[beq_eq_false_iff_ne];omega
 rw[a,Bool.false_or,any_eq_true]at h;obtain⟨k,h1,b⟩:=h;simp only[and_eq_true,decide_eq_true_eq]at b;have h1:=mem_range.1 h1;obtain⟨g1,g2,g3⟩:=j0s (c:=fun k=>f i k&&K5 f k j) (j:=j) (k:=k) (by omega) (by simp[b.2.1,b.2.2]);simp only[and_eq_true]at g1;exact⟨g1,by omega,g3⟩
def r0V {g:Nat->Nat->List Z1}{f:Nat->Nat->Bool}{m:Nat}(hg:∀i k,f i k=true->i<k->(g i k).length<=m*(k-i)):∀(n i j:Nat),K5 f i j=true->(b0r g f n i j).length<=m*(j-i)
 |0,i,j,_=>by simp[b0r]
 |n+1,i,j,h=>by
  unfold b0r
  by_cases a:i<j
  ·rw[if_pos a];obtain⟨⟨g1,g2⟩,g3,g4⟩:=t0Q h a;generalize T5 (fun k=>f i k&&K5 f k j) j=k at *;have h1:=hg i k g1 g3;have b:=r0V hg n k j g2;have e:m*(k-i)+m*(j-k)=m*(j-i):=by rw[<-Nat.mul_add];congr 1;omega
   rw[length_append];omega
  ·rw[if_neg a];simp
def p0C {w:List Int}{a b:Old.Tm}{i j:Nat}(h:den w (.cat a b) i j=true):(den w a i (T5 (fun k=>den w a i k&&den w b k j) j)=true/\den w b (T5 (fun k=>den w a i k&&den w b k j) j) j=true)/\i<=T5 (fun k=>den w a i k&&den w b k j) j/\T5 (fun k=>den w a i k&&den w b k j) j<=j:=by
 simp only[den,any_eq_true,mem_range,and_eq_true,decide_eq_true_eq]at h;obtain⟨k,h1,f,d,e⟩:=h;obtain⟨g1,g2,g3⟩:=j0s (c:=fun k=>den w a i k&&den w b k j) (j:=j) (k:=k) (by omega) (by simp[d,e]);simp only[and_eq_true]at g1;exact⟨g1,by omega,g3⟩
def b0C (w:List Int):∀(s:Old.Tm) (lo deep i j:Nat),den w s i j=true->(M3 w s lo deep i j).length<=s.size*max (j-i) 1
 |.eps,lo,deep,i,j,h=>by simp[M3,Old.Tm.size];omega
 |.leaf s,lo,deep,i,j,h=>by simp[M3,Old.Tm.size];omega
 |.cat a b,lo,deep,i,j,h=>by
  obtain⟨⟨g1,g2⟩,g3,g4⟩:=p0C h;unfold M3;generalize T5 (fun k=>den w a i k&&den w b k j) j=k at *;have h1:=b0C w a lo (deep+1) i k g1;have d:=b0C w b (lo+a.size) (deep+1) k j g2;have o:a.size*max (k-i) 1<=a.size*max (j-i) 1:=Nat.mul_le_mul_left _ (by omega);have n:b.size*max (j-k) 1<=b.size*max (j-i) 1:=Nat.mul_le_mul_left _ (by omega);simp only[length_cons,length_append,Old.Tm.size,add_mul,one_mul];omega
 |.alt a b,lo,deep,i,j,h=>by
  unfold M3;simp only[length_cons,Old.Tm.size,add_mul,one_mul];cases c:den w a i j with
  |true=>
   have h1:=b0C w a lo (deep+1) i j c;rw[if_pos rfl];omega
  |false=>
   have e:den w b i j=true:=by
    simp only[den,c,Bool.false_or]at h;exact h
   have h1:=b0C w b (lo+a.size) (deep+1) i j e;rw[if_neg (by simp)];omega
 |.star a,lo,deep,i,j,h=>by
  unfold M3;have h1:=r0V (g:=fun i k=>M3 w a lo (deep+1) i k) (f:=den w a) (m:=a.size) (fun i k h1 d=>by
   have:=b0C w a lo (deep+1) i k h1;rw[show max (k-i) 1=k-i by omega]at this;exact this) (j-i) i j h
  have d:a.size*(j-i)<=a.size*max (j-i) 1:=Nat.mul_le_mul_left _ (by omega);simp only[length_cons,Old.Tm.size,add_mul,one_mul];omega
 |.maybe a,lo,deep,i,j,h=>by
  unfold M3;simp only[length_cons,Old.Tm.size,add_mul,one_mul]
  by_cases c:i<j
  ·rw[if_pos c];have ha:den w a i j=true:=by
    simp only[den]at h;have:(i==j)=false:=by rw[beq_eq_false_iff_ne];omega
    rw[this,Bool.false_or]at h;exact h
   have h1:=b0C w a lo (deep+1) i j ha;omega
  ·rw[if_neg c];simp;omega
 |.group _ a,lo,deep,i,j,h=>by
  have h1:=b0C w a lo (deep+1) i j h;unfold M3;simp only[length_cons,Old.Tm.size,add_mul,one_mul];omega
 |.iter a,lo,deep,i,j,h=>by
  have h1:=b0C w a lo (deep+1) i j h;unfold M3;simp only[length_cons,Old.Tm.size,add_mul,one_mul];omega
section
variable {F:Nat}{l:List C0}{w:List Int}{Can:List (List Bool)}
def x0Z {r:List C0->S7->Int->Int->Int->Int->Option (List Z1)}{a:Old.Tm}{lo deep:Nat}{j:Nat}{q:Int}(hd:deep<=100000)(C:j<=64)(z:2000<F)
  (p:∀i k:Nat,i<=k->k<=j->a7 F ⟨(w.length:Int),Can⟩ ((gt l q).A) (i:Int) (k:Int)=some (den w a i k)) (o:∀k:Nat,k<=j->a7 F ⟨(w.length:Int),Can⟩ q (k:Int) (j:Int)=some (K5 (den w a) k j))
  (s:∀i k:Nat,den w a i k=true->i<=k->k<=j->r l ⟨(w.length:Int),Can⟩ ((gt l q).A) (((deep+1:Nat)):Int) (i:Int) (k:Int)=some (M3 w a lo (deep+1) i k)):
  ∀(d i:Nat) (out:List Z1) (fu:Nat),j-i<=d->K5 (den w a) i j=true->out.length+a.size*(j-i)<=100000->d<fu->iter (g00 F r l ⟨(w.length:Int),Can⟩ q (deep:Int) (j:Int)) fu ((i:Int),out)=some (out++b0r (fun i k=>M3 w a lo (deep+1) i k) (den w a) d i j):=by
 intro d
 induction d with
 |zero=>
  intro i out fu h1 n x v;obtain⟨fu,rfl⟩:∃m,fu=m+1:=⟨fu-1,by omega⟩
  have c1:¬(i:Int)<(j:Int):=by omega
  have e0:b0r (fun i k=>M3 w a lo (deep+1) i k) (den w a) 0 i j=[]:=rfl;rw[e0,List.append_nil];refine a0o ?_;unfold g00;simp only[q0,c1]
 |succ d ih=>
  intro i out fu h1 n x v;obtain⟨fu,rfl⟩:∃m,fu=m+1:=⟨fu-1,by omega⟩
  unfold b0r
  by_cases b:i<j
  ·have c1:(i:Int)<(j:Int):=by omega
   rw[if_pos b];obtain⟨⟨g1,g2⟩,g3,g4⟩:=t0Q n b;have f:=n0k (step:=n0O F l ⟨(w.length:Int),Can⟩ q (j:Int) (i:Int)) (fun k=>den w a i k&&K5 (den w a) k j) (lo:=T5 (fun k=>den w a i k&&K5 (den w a) k j) j) (by simp[g1,g2]) j g4 (fun k y h=>by
    unfold n0O;have u:W ((k:Int)-1)=(k:Int)-1:=n3 (by omega) (by omega);simp only[p i k (by omega) h,o k h,G0,u];cases den w a i k
    ·rfl
    ·cases K5 (den w a) k j<;>rfl) F (by omega)
   generalize T5 (fun k=>den w a i k&&K5 (den w a) k j) j=k at *;have hlen:=b0C w a lo (deep+1) i k g1;rw[show max (k-i) 1=k-i by omega]at hlen;have e:a.size*(k-i)+a.size*(j-k)=a.size*(j-i):=by rw[<-Nat.mul_add];congr 1;omega
   have g:I0 32 out (M3 w a lo (deep+1) i k)=true:=by simp[I0];omega
   have c:=ih k (out++M3 w a lo (deep+1) i k) fu (by omega) g2 (by rw[length_append];omega) (by omega);rw[List.append_assoc]at c;rw[<-c];refine e0m ?_;unfold g00;simp only[q0,c1,f,G3 (i:=deep) (by omega),s i k g1 (by omega) g4,g]
  ·have c1:¬(i:Int)<(j:Int):=by omega
   rw[if_neg b];rw[List.append_nil];refine a0o ?_;unfold g00;simp only[q0,c1]
end
section
variable {F:Nat}{l:List C0}{w:List Int}{Can:List (List Bool)}
def E0G (hN:w.length<=64)(hf:2000<F)(hlen:Can.length=l.length)(B1:∀lo s,Old.At l lo s->c0F Can w.length (s.top lo) (den w s)):
  ∀(s:Old.Tm) (lo n deep i j:Nat),Old.At l lo s->s.size<=n->s.size<=400->deep+s.size<=1000->den w s i j=true->j<=w.length->I7 F n l ⟨(w.length:Int),Can⟩ (s.top lo:Int) (deep:Int) (i:Int) (j:Int)=some (M3 w s lo deep i j):=by
 have p:∀{s:Old.Tm} {lo i j:Nat},Old.At l lo s->i<=j->j<=w.length->a7 F ⟨(w.length:Int),Can⟩ (s.top lo:Int) (i:Int) (j:Int)=some (den w s i j):=fun {s lo i j} d h1 z=>by
  have:=d.len;have:=s.size_pos;exact b0S (B1 lo s d) (by rw[hlen];unfold Old.Tm.top;omega) hN h1 z
 have ap:∀{x y:List Z1},x.length<=100000->y.length<=100000->I0 32 x y=true:=fun {x y} h1 z=>by simp[I0];omega
 have v:∀{s:Old.Tm} {lo deep i j:Nat},s.size<=400->den w s i j=true->j<=w.length->(M3 w s lo deep i j).length<=30000:=fun {s lo deep i j} h1 z h3=>by
  have o:=b0C w s lo deep i j z;have h5:s.size*max (j-i) 1<=400*64:=Nat.mul_le_mul h1 (by omega);omega
 intro s
 induction s with
 |eps=>
  intro lo n deep i j d hn o hd e g;obtain⟨n,rfl⟩:∃m,n=m+1:=⟨n-1,by simp only[Old.Tm.size]at hn;omega⟩
  have hl:=d.len;have f:B0 l (Old.Tm.top .eps lo:Int)=true:=R0 (by omega) (by unfold Old.Tm.top;simp only[Old.Tm.size]at hl ⊢;omega);unfold I7;rw[d.D2];simp only[f,if_true,Old.Tm.node];rfl
 |leaf st=>
  intro lo n deep i j d hn o hd e g;obtain⟨n,rfl⟩:∃m,n=m+1:=⟨n-1,by simp only[Old.Tm.size]at hn;omega⟩
  have hl:=d.len;have f:B0 l (Old.Tm.top (.leaf st) lo:Int)=true:=R0 (by omega) (by unfold Old.Tm.top;simp only[Old.Tm.size]at hl ⊢;omega);unfold I7;rw[d.D2];simp only[f,if_true,Old.Tm.node];rfl
 |cat a b iha ihb=>
  intro lo n deep i j d hn o hd e g;obtain⟨n,rfl⟩:∃m,n=m+1:=⟨n-1,by simp only[Old.Tm.size]at hn;omega⟩
  have hl:=d.len;simp only[Old.Tm.size]at hn o hd hl;have f:B0 l (Old.Tm.top (.cat a b) lo:Int)=true:=R0 (by omega) (by unfold Old.Tm.top;simp only[Old.Tm.size];omega);obtain⟨ha,U,_⟩:=(Old.At.bin (a:=a) (b:=b) rfl rfl).1 d;obtain⟨⟨g1,g2⟩,g3,g4⟩:=p0C e;have a1:=n0k (step:=m0a F l ⟨(w.length:Int),Can⟩ (Old.Tm.top (.cat a b) lo:Int) (i:Int) (j:Int)) (fun k=>den w a i k&&den w b k j) (lo:=T5 (fun k=>den w a i k&&den w b k j) j) (by simp[g1,g2]) j g4 (fun k k1 k2=>by
   unfold m0a;have hW:W ((k:Int)-1)=(k:Int)-1:=n3 (by omega) (by omega);rw[d.D2];simp only[Old.Tm.node,p ha (show i<=k by omega) (show k<=w.length by omega),p U k2 g,G0,hW];cases den w a i k
   ·rfl
   ·cases den w b k j<;>rfl) F (by omega)
  unfold M3;generalize T5 (fun k=>den w a i k&&den w b k j) j=k at *;have u:=iha lo n (deep+1) i k ha (by omega) (by omega) (by omega) g1 (by omega);have e2:=ihb (lo+a.size) n (deep+1) k j U (by omega) (by omega) (by omega) g2 g;have l1:=v (lo:=lo) (deep:=deep+1) (show a.size<=400 by omega) g1 (show k<=w.length by omega);have l2:=v (lo:=lo+a.size) (deep:=deep+1) (show b.size<=400 by omega) g2 g;unfold I7;rw[d.D2];have C:I0 32 [(⟨(deep:Int),(Old.Tm.top (.cat a b) lo:Int),(i:Int),(j:Int)⟩:Z1)] (M3 w a lo (deep+1) i k)=true:=ap (by simp) (by omega);have I:I0 32 ([(⟨(deep:Int),(Old.Tm.top (.cat a b) lo:Int),(i:Int),(j:Int)⟩:Z1)]++M3 w a lo (deep+1) i k) (M3 w b (lo+a.size) (deep+1) k j)=true:=ap (by simp;omega) (by omega);simp only[f,if_true,Old.Tm.node,beq_self_eq_true,a1,G0,G3 (i:=deep) (by omega),u,C,e2,I];simp
 |alt a b iha ihb=>
  intro lo n deep i j d hn o hd e g;obtain⟨n,rfl⟩:∃m,n=m+1:=⟨n-1,by simp only[Old.Tm.size]at hn;omega⟩
  have hl:=d.len;simp only[Old.Tm.size]at hn o hd hl;have f:B0 l (Old.Tm.top (.alt a b) lo:Int)=true:=R0 (by omega) (by unfold Old.Tm.top;simp only[Old.Tm.size];omega);obtain⟨ha,U,_⟩:=(Old.At.bin (a:=a) (b:=b) rfl rfl).1 d;have J:=d0k w _ i j e;unfold M3 I7;rw[d.D2];simp only[q0,f,Old.Tm.node,show((4:Int)==3)=false from rfl,beq_self_eq_true,p ha J g,G3 (i:=deep) (by omega)];cases c:den w a i j with
  |true=>
   have u:=iha lo n (deep+1) i j ha (by omega) (by omega) (by omega) c g;have h:I0 32 [(⟨(deep:Int),(Old.Tm.top (.alt a b) lo:Int),(i:Int),(j:Int)⟩:Z1)] (M3 w a lo (deep+1) i j)=true:=ap (by simp) (by have:=v (lo:=lo) (deep:=deep+1) (show a.size<=400 by omega) c g;omega);simp only[if_true,u,G0,h];rfl
  |false=>
   have R:den w b i j=true:=by simp only[den,c,Bool.false_or]at e;exact e
   have u:=ihb (lo+a.size) n (deep+1) i j U (by omega) (by omega) (by omega) R g;have h:I0 32 [(⟨(deep:Int),(Old.Tm.top (.alt a b) lo:Int),(i:Int),(j:Int)⟩:Z1)] (M3 w b (lo+a.size) (deep+1) i j)=true:=ap (by simp) (by have:=v (lo:=lo+a.size) (deep:=deep+1) (show b.size<=400 by omega) R g;omega);simp only[q0,u,h];rfl
 |star a iha=>
  intro lo n deep i j d hn o hd e g;obtain⟨n,rfl⟩:∃m,n=m+1:=⟨n-1,by simp only[Old.Tm.size]at hn;omega⟩
  have hl:=d.len;simp only[Old.Tm.size]at hn o hd hl;have f:B0 l (Old.Tm.top (.star a) lo:Int)=true:=R0 (by omega) (by unfold Old.Tm.top;simp only[Old.Tm.size];omega);obtain⟨ha,_⟩:=(Old.At.un (a:=a) rfl rfl).1 d;have hA:(gt l (Old.Tm.top (.star a) lo:Int)).A=(a.top lo:Int):=by rw[d.D2];rfl
  have b1:=x0Z (F:=F) (l:=l) (w:=w) (Can:=Can) (r:=I7 F n) (a:=a) (lo:=lo) (deep:=deep) (j:=j) (q:=(Old.Tm.top (.star a) lo:Int)) (by omega) (by omega) hf
   (fun i k h1 z=>by rw[hA];exact p ha h1 (by omega)) (fun k h1=>p d h1 g) (fun i k h1 z h3=>by rw[hA];exact iha lo n (deep+1) i k ha (by omega) (by omega) (by omega) h1 (by omega))
   (j-i) i [(⟨(deep:Int),(Old.Tm.top (.star a) lo:Int),(i:Int),(j:Int)⟩:Z1)] F (le_refl _) e (by
    have:a.size*(j-i)<=400*64:=Nat.mul_le_mul (by omega) (by omega);simp;omega) (by omega)
  unfold M3 I7;rw[d.D2];simp only[q0,f,Old.Tm.node,show((5:Int)==3)=false from rfl,show((5:Int)==4)=false from rfl,beq_self_eq_true,b1];rfl
 |maybe a iha=>
  intro lo n deep i j d hn o hd e g;obtain⟨n,rfl⟩:∃m,n=m+1:=⟨n-1,by simp only[Old.Tm.size]at hn;omega⟩
  have hl:=d.len;simp only[Old.Tm.size]at hn o hd hl;have f:B0 l (Old.Tm.top (.maybe a) lo:Int)=true:=R0 (by omega) (by unfold Old.Tm.top;simp only[Old.Tm.size];omega);obtain⟨ha,_⟩:=(Old.At.un (a:=a) rfl rfl).1 d;have J:=d0k w _ i j e;unfold M3 I7;rw[d.D2];simp only[q0,f,Old.Tm.node,show((6:Int)==3)=false from rfl,show((6:Int)==4)=false from rfl,show((6:Int)==5)=false from rfl,beq_self_eq_true,G3 (i:=deep) (by omega)]
  by_cases c:i<j
  ·have c1:(i:Int)<(j:Int):=by omega
   have hda:den w a i j=true:=by
    simp only[den]at e;have:(i==j)=false:=by rw[beq_eq_false_iff_ne];omega
    rw[this,Bool.false_or]at e;exact e
   have u:=iha lo n (deep+1) i j ha (by omega) (by omega) (by omega) hda g;have h:I0 32 [(⟨(deep:Int),(Old.Tm.top (.maybe a) lo:Int),(i:Int),(j:Int)⟩:Z1)] (M3 w a lo (deep+1) i j)=true:=ap (by simp) (by have:=v (lo:=lo) (deep:=deep+1) (show a.size<=400 by omega) hda g;omega);simp only[q0,c,c1,u,h];rfl
  ·have c1:¬(i:Int)<(j:Int):=by omega
   simp only[q0,c,c1]
 |group m a iha=>
  intro lo n deep i j d hn o hd e g;obtain⟨n,rfl⟩:∃m,n=m+1:=⟨n-1,by simp only[Old.Tm.size]at hn;omega⟩
  have hl:=d.len;simp only[Old.Tm.size]at hn o hd hl;have f:B0 l (Old.Tm.top (.group m a) lo:Int)=true:=R0 (by omega) (by unfold Old.Tm.top;simp only[Old.Tm.size];omega);obtain⟨ha,_⟩:=(Old.At.un (a:=a) rfl rfl).1 d;have hda:den w a i j=true:=e;have u:=iha lo n (deep+1) i j ha (by omega) (by omega) (by omega) hda g;have h:I0 32 [(⟨(deep:Int),(Old.Tm.top (.group m a) lo:Int),(i:Int),(j:Int)⟩:Z1)] (M3 w a lo (deep+1) i j)=true:=ap (by simp) (by have:=v (lo:=lo) (deep:=deep+1) (show a.size<=400 by omega) hda g;omega);unfold M3 I7;rw[d.D2];simp only[q0,f,Old.Tm.node,show((7:Int)==3)=false from rfl,show((7:Int)==4)=false from rfl,show((7:Int)==5)=false from rfl,show((7:Int)==6)=false from rfl,beq_self_eq_true,G3 (i:=deep) (by omega),u,h];rfl
 |iter a iha=>
  intro lo n deep i j d hn o hd e g;obtain⟨n,rfl⟩:∃m,n=m+1:=⟨n-1,by simp only[Old.Tm.size]at hn;omega⟩
  have hl:=d.len;simp only[Old.Tm.size]at hn o hd hl;have f:B0 l (Old.Tm.top (.iter a) lo:Int)=true:=R0 (by omega) (by unfold Old.Tm.top;simp only[Old.Tm.size];omega);obtain⟨ha,_⟩:=(Old.At.un (a:=a) rfl rfl).1 d;have hda:den w a i j=true:=e;have u:=iha lo n (deep+1) i j ha (by omega) (by omega) (by omega) hda g;have h:I0 32 [(⟨(deep:Int),(Old.Tm.top (.iter a) lo:Int),(i:Int),(j:Int)⟩:Z1)] (M3 w a lo (deep+1) i j)=true:=ap (by simp) (by have:=v (lo:=lo) (deep:=deep+1) (show a.size<=400 by omega) hda g;omega);unfold M3 I7;rw[d.D2];simp only[q0,f,Old.Tm.node,show((8:Int)==3)=false from rfl,show((8:Int)==4)=false from rfl,show((8:Int)==5)=false from rfl,show((8:Int)==6)=false from rfl,show((8:Int)==7)=false from rfl,beq_self_eq_true,G3 (i:=deep) (by omega),u,h];rfl
end
section
variable {F:Nat}{l:List C0}{w:List Int}{t:Old.Tm}
end
section
variable {w:List Int}
def Fit.den {s:Tm}{i:Nat}{P:Pt}(h:Fit w s i P):Go.Proofs.YtmhooikfkhjijaaGreat.den w s i (i+P.wid)=true:=by
 induction h with
 |eps=>simp[Go.Proofs.YtmhooikfkhjijaaGreat.den,Pt.wid]
 |leaf h1 d=>simp[Go.Proofs.YtmhooikfkhjijaaGreat.den,Pt.wid,h1,d]
 |@cat a b i x y _ _ i1 i2=>
  simp only[Go.Proofs.YtmhooikfkhjijaaGreat.den,Pt.wid,any_eq_true,mem_range,and_eq_true,decide_eq_true_eq];exact⟨i+x.wid,by omega,by omega,i1,by rw[<-add_assoc];exact i2⟩
 |altL _ c=>simp only[Go.Proofs.YtmhooikfkhjijaaGreat.den,Pt.wid,c,Bool.true_or]
 |altR _ c=>simp only[Go.Proofs.YtmhooikfkhjijaaGreat.den,Pt.wid,c,Bool.or_true]
 |star0=>simp only[Go.Proofs.YtmhooikfkhjijaaGreat.den];rw[f0k];simp[Pt.wid]
 |@star a i x r _ hp _ i1 i2=>
  simp only[Go.Proofs.YtmhooikfkhjijaaGreat.den]at i2 ⊢;rw[f0k];simp only[Pt.wid,or_eq_true,any_eq_true,mem_range,and_eq_true,decide_eq_true_eq];exact .inr ⟨i+x.wid,by omega,by omega,i1,by rw[<-add_assoc];exact i2⟩
 |maybe0=>simp[Go.Proofs.YtmhooikfkhjijaaGreat.den,Pt.wid]
 |maybe _ _ c=>simp only[Go.Proofs.YtmhooikfkhjijaaGreat.den,Pt.wid,c,Bool.or_true]
 |group _ c=>exact c
 |iter _ c=>exact c
def f0Q:∀{s:Tm} {i j:Nat},den w s i j=true->∃P,Fit w s i P/\i+P.wid=j:=by
 intro s
 induction s with
 |eps=>intro i j h;exact⟨.nil,.eps,by simpa[den,Pt.wid]using h⟩
 |leaf S=>
  intro i j h;simp only[den,and_eq_true,beq_iff_eq,decide_eq_true_eq]at h;exact⟨.byte,.leaf h.2.1 h.2.2,h.1.symm⟩
 |cat a b e ib=>
  intro i j h;simp only[den,any_eq_true,mem_range,and_eq_true,decide_eq_true_eq]at h;obtain⟨k,_,_,h1,g⟩:=h;obtain⟨x,d,rfl⟩:=e h1;obtain⟨y,o,rfl⟩:=ib g;exact⟨.two x y,.cat d o,by simp only[Pt.wid];omega⟩
 |alt a b e ib=>
  intro i j h;simp only[den,or_eq_true]at h;rcases h with h|h
  ·obtain⟨x,d,f⟩:=e h;exact⟨.one x,.altL d,f⟩
  ·obtain⟨x,d,f⟩:=ib h;exact⟨.other x,.altR d,f⟩
 |star a e=>
  have key:∀(n i j:Nat),j-i<=n->den w (.star a) i j=true->∃P,Fit w (.star a) i P/\i+P.wid=j:=by
   intro n
   induction n with
   |zero=>
    intro i j hn h;have hle:=d0k w _ _ _ h;exact⟨.nil,.star0,by simp only[Pt.wid];omega⟩
   |succ n ih=>
    intro i j hn h;simp only[den]at h;rw[f0k]at h;simp only[or_eq_true,beq_iff_eq,any_eq_true,mem_range,and_eq_true,decide_eq_true_eq]at h;rcases h with h|⟨k,h1,g,h3,h4⟩
    ·exact⟨.nil,.star0,by simp only[Pt.wid];omega⟩
    ·obtain⟨x,d,rfl⟩:=e h3;obtain⟨r,r1,r2⟩:=ih (i+x.wid) j (by omega) (by simp only[den];exact h4);exact⟨.two x r,.star d (by omega) r1,by simp only[Pt.wid];omega⟩
  intro i j h;exact key (j-i) i j (le_refl _) h
 |maybe a e=>
  intro i j h;simp only[den,or_eq_true,beq_iff_eq]at h
  by_cases c:i=j
  ·exact⟨.nil,.maybe0,by simp only[Pt.wid];omega⟩
  ·rcases h with h|h
   ·exact absurd h c
   ·obtain⟨x,d,f⟩:=e h;exact⟨.one x,.maybe d (by omega),f⟩
 |group m a e=>intro i j h;obtain⟨x,d,f⟩:=e (show den w a i j=true from h);exact⟨.one x,.group d,f⟩
 |iter a e=>intro i j h;obtain⟨x,d,f⟩:=e (show den w a i j=true from h);exact⟨.one x,.iter d,f⟩
def Mn (w:List Int)(s:Tm)(i:Nat)(P:Pt):Prop:=∀Q,Fit w s i Q->P.wid=Q.wid->P=Q\/PA P Q
def stE (F:Nat->Pt->List Z1):Nat->Pt->List Z1
 |k,.two x r=>F k x++stE F (k+x.wid) r
 |_,_=>[]
def K2:Tm->Nat->Nat->Nat->Pt->List Z1
 |.eps,lo,d,k,P=>[⟨(d:Int),(Tm.top .eps lo:Int),(k:Int),((k+P.wid:Nat):Int)⟩]
 |.leaf S,lo,d,k,P=>[⟨(d:Int),(Tm.top (.leaf S) lo:Int),(k:Int),((k+P.wid:Nat):Int)⟩]
 |.cat a b,lo,d,k,P=>(⟨(d:Int),(Tm.top (.cat a b) lo:Int),(k:Int),((k+P.wid:Nat):Int)⟩:Z1) :: (match P with|.two x y=>K2 a lo (d+1) k x++K2 b (lo+a.size) (d+1) (k+x.wid) y|_=>[])
 |.alt a b,lo,d,k,P=>(⟨(d:Int),(Tm.top (.alt a b) lo:Int),(k:Int),((k+P.wid:Nat):Int)⟩:Z1) :: (match P with|.one x=>K2 a lo (d+1) k x|.other x=>K2 b (lo+a.size) (d+1) k x|_=>[])
 |.star a,lo,d,k,P=>(⟨(d:Int),(Tm.top (.star a) lo:Int),(k:Int),((k+P.wid:Nat):Int)⟩:Z1) :: stE (fun k x=>K2 a lo (d+1) k x) k P
 |.maybe a,lo,d,k,P=>(⟨(d:Int),(Tm.top (.maybe a) lo:Int),(k:Int),((k+P.wid:Nat):Int)⟩:Z1) :: (match P with|.one x=>K2 a lo (d+1) k x|_=>[])
 |.group m a,lo,d,k,P=>(⟨(d:Int),(Tm.top (.group m a) lo:Int),(k:Int),((k+P.wid:Nat):Int)⟩:Z1) :: (match P with|.one x=>K2 a lo (d+1) k x|_=>[])
 |.iter a,lo,d,k,P=>(⟨(d:Int),(Tm.top (.iter a) lo:Int),(k:Int),((k+P.wid:Nat):Int)⟩:Z1) :: (match P with|.one x=>K2 a lo (d+1) k x|_=>[])
def t0R {c:Nat->Bool}{j k:Nat}(h:k<=j)(b:c k=true)(hm:∀a,k<=a->a<=j->c a=true->a=k):T5 c j=k:=by
 obtain⟨h1,e,d⟩:=j0s h b;exact hm _ e d h1
def r0m {x x' y y':Pt}(h:Pt.two x y=.two x' y'\/PA (.two x y) (.two x' y')):x'.wid<=x.wid:=by
 rcases h with h|h
 ·injection h with h1 h2;rw[h1];exact le_refl _
 ·cases h with
  |wid h=>omega
  |fst h _=>omega
  |snd _=>exact le_refl _
def s0Y {x x' y y':Pt}(hw:x.wid=x'.wid)(h:Pt.two x y=.two x' y'\/PA (.two x y) (.two x' y')):x=x'\/PA x x':=by
 rcases h with h|h
 ·injection h with h1 h2;exact .inl h1
 ·cases h with
  |wid h=>omega
  |fst _ h=>exact .inr h
  |snd _=>exact .inl rfl
def PA.irr {x:Pt}(h:PA x x):False:=by
 induction x with
 |nil=>cases h
 |byte=>cases h
 |two x y a iy=>
  cases h with
  |wid h=>omega
  |fst _ h=>exact a h
  |snd h=>exact iy h
 |one x a=>cases h with|one h=>exact a h
 |other x a=>cases h with|other h=>exact a h
def q03 {x y y':Pt}(h:Pt.two x y=.two x y'\/PA (.two x y) (.two x y')):y=y'\/PA y y':=by
 rcases h with h|h
 ·injection h with h1 h2;exact .inl h2
 ·cases h with
  |wid h=>omega
  |fst _ h=>exact h.irr.elim
  |snd h=>exact .inr h
def C0c:∀(s:Tm) (lo d i:Nat) (P:Pt),Fit w s i P->Mn w s i P->M3 w s lo d i (i+P.wid)=K2 s lo d i P:=by
 intro s
 induction s with
 |eps=>intro lo d i P _ _;rfl
 |leaf S=>intro lo d i P _ _;rfl
 |cat a b ia ib=>
  intro lo d i P h hm;cases h with | @cat _ _ _ x y f q=>
  have hk:T5 (fun k=>den w a i k&&den w b k (i+(Pt.two x y).wid)) (i+(Pt.two x y).wid)=i+x.wid:=by
   refine t0R (by simp only[Pt.wid];omega) ?_ fun C h1 e g=>?_
   ·have:=f.den;have e:=q.den;simp only[Pt.wid,and_eq_true];exact⟨this,by rw[<-add_assoc];exact e⟩
   ·simp only[and_eq_true]at g;obtain⟨x',o,rfl⟩:=f0Q g.1;obtain⟨y',u,z⟩:=f0Q g.2;have:=r0m (hm (.two x' y') (.cat o u) (by simp only[Pt.wid]at z ⊢;omega));omega
  simp only[M3,K2,hk];have v:=ia lo (d+1) i x f (fun x' h1 e=>s0Y e (hm (.two x' y) (.cat h1 (by rw[<-e];exact q)) (by simp only[Pt.wid];omega)));have p:=ib (lo+a.size) (d+1) (i+x.wid) y q (fun y' h1 e=>q03 (hm (.two x y') (.cat f h1) (by simp only[Pt.wid];omega)));rw[v,show i+(Pt.two x y).wid=i+x.wid+y.wid by simp only[Pt.wid];omega,p]
 |alt a b ia ib=>
  intro lo d i P h hm;cases h with
  |@altL _ _ _ x f=>
   simp only[M3,K2,Pt.wid,f.den,if_true];rw[ia lo (d+1) i x f (fun x' h1 e=>by
    rcases hm (.one x') (.altL h1) e with h|h
    ·injection h with h;exact .inl h
    ·cases h with|one h=>exact .inr h)]
  |@altR _ _ _ x f=>
   have hn:den w a i (i+x.wid)=false:=by
    cases c:den w a i (i+x.wid)with
    |false=>rfl
    |true=>
     obtain⟨x',o,I⟩:=f0Q c;rcases hm (.one x') (.altL o) (by simp only[Pt.wid];omega)with h|h
     ·cases h
     ·cases h
   simp only[M3,K2,Pt.wid,hn,if_false,false_eq_true];rw[ib (lo+a.size) (d+1) i x f (fun x' h1 e=>by
    rcases hm (.other x') (.altR h1) e with h|h
    ·injection h with h;exact .inl h
    ·cases h with|other h=>exact .inr h)]
 |star a ia=>
  intro lo d i P h hm;simp only[M3,K2];rw[show i+P.wid-i=P.wid by omega];have key:∀(n i:Nat) (P:Pt),P.wid<=n->Fit w (.star a) i P->Mn w (.star a) i P->b0r (fun i k=>M3 w a lo (d+1) i k) (den w a) n i (i+P.wid)=stE (fun k x=>K2 a lo (d+1) k x) i P:=by
   intro n
   induction n with
   |zero=>
    intro i P hn h hm;cases h with
    |star0=>rfl
    |star f hp _=>simp only[Pt.wid]at hn;omega
   |succ n ih=>
    intro i P hn h hm;cases h with
    |star0=>simp[b0r,stE,Pt.wid]
    |@star _ _ x r f hp hr=>
     have hk:T5 (fun k=>den w a i k&&K5 (den w a) k (i+(Pt.two x r).wid)) (i+(Pt.two x r).wid)=i+x.wid:=by
      refine t0R (by simp only[Pt.wid];omega) ?_ fun C h1 e g=>?_
      ·have:=f.den;have e:=hr.den;simp only[den]at e;simp only[Pt.wid,and_eq_true];exact⟨this,by rw[<-add_assoc];exact e⟩
      ·simp only[and_eq_true]at g;obtain⟨x',o,rfl⟩:=f0Q g.1;obtain⟨y',u,z⟩:=f0Q (s:=.star a) (i:=i+x'.wid) (j:=i+(Pt.two x r).wid) (by simp only[den];exact g.2);have:=r0m (hm (.two x' y') (.star o (by omega) u) (by simp only[Pt.wid]at z ⊢;omega));omega
     simp only[b0r,stE,hk];have v:=ia lo (d+1) i x f (fun x' h1 e=>s0Y e (hm (.two x' r) (.star h1 (by omega) (by rw[<-e];exact hr)) (by simp only[Pt.wid];omega)));have p:=ih (i+x.wid) r (by simp only[Pt.wid]at hn;omega) hr (fun y' h1 e=>q03 (hm (.two x y') (.star f hp h1) (by simp only[Pt.wid];omega)));rw[if_pos (by simp only[Pt.wid];omega),v,show i+(Pt.two x r).wid=i+x.wid+r.wid by simp only[Pt.wid];omega,p]
  rw[key P.wid i P (le_refl _) h hm]
 |maybe a ia=>
  intro lo d i P h hm;cases h with
  |maybe0=>simp[M3,K2,Pt.wid]
  |@maybe _ _ x f hp=>
   simp only[M3,K2];rw[if_pos (show i<i+(Pt.one x).wid by simp only[Pt.wid];omega)];simp only[Pt.wid];rw[ia lo (d+1) i x f (fun x' h1 e=>by
    rcases hm (.one x') (.maybe h1 (by omega)) e with h|h
    ·injection h with h;exact .inl h
    ·cases h with|one h=>exact .inr h)]
 |group m a ia=>
  intro lo d i P h hm;cases h with | @group _ _ _ x f=>
  simp only[M3,K2,Pt.wid];rw[ia lo (d+1) i x f (fun x' h1 e=>by
   rcases hm (.one x') (.group h1) e with h|h
   ·injection h with h;exact .inl h
   ·cases h with|one h=>exact .inr h)]
 |iter a ia=>
  intro lo d i P h hm;cases h with | @iter _ _ x f=>
  simp only[M3,K2,Pt.wid];rw[ia lo (d+1) i x f (fun x' h1 e=>by
   rcases hm (.one x') (.iter h1) e with h|h
   ·injection h with h;exact .inl h
   ·cases h with|one h=>exact .inr h)]
end
def V7 {α:Type}[Inhabited α]{o:List α}{i j:Nat}{x:α}(h:i<o.length):gt (o.set i x) (j:Int)=if j=i then x else gt o (j:Int):=by
 by_cases c:j=i
 ·subst c;rw[if_pos rfl];exact b0d h
 ·rw[if_neg c];exact X7 (Ne.symm c)
def C5:Tm->Int->Bool
 |.eps,_=>false
 |.leaf _,_=>false
 |.cat a b,g=>C5 a g||C5 b g
 |.alt a b,g=>C5 a g||C5 b g
 |.star a,g=>C5 a g
 |.maybe a,g=>C5 a g
 |.group m a,g=>m==g||C5 a g
 |.iter a,g=>C5 a g
def P9 (g:Int)(y:C0):Bool:=y.Kind==7&&y.N==g
def h0H (g:Int):∀(s:Tm) (lo:Nat),(s.flat lo).any (P9 g)=C5 s g:=by
 intro s
 induction s with
 |eps=>intro lo;rfl
 |leaf S=>intro lo;rfl
 |cat a b c d=>intro lo;simp[Tm.flat,c,d,C5,P9,Tm.node]
 |alt a b c d=>intro lo;simp[Tm.flat,c,d,C5,P9,Tm.node]
 |star a c=>intro lo;simp[Tm.flat,c,C5,P9,Tm.node]
 |maybe a c=>intro lo;simp[Tm.flat,c,C5,P9,Tm.node]
 |group m a c=>intro lo;simp[Tm.flat,c,C5,P9,Tm.node,Bool.or_comm]
 |iter a c=>intro lo;simp[Tm.flat,c,C5,P9,Tm.node]
def s0R {M0:List C0}{g:Nat}(h:g<10):(g:Int)∈c0e M0↔M0.any (P9 (g:Int))=true:=by
 unfold c0e O8;rw[List.mem_map];constructor
 ·rintro⟨n,h1,a⟩
  have:n=g:=by omega
  subst this;exact(List.mem_filter.1 h1).2
 ·intro h1;exact⟨g,List.mem_filter.2 ⟨mem_range.2 h,h1⟩,rfl⟩
section
variable {l:List C0}{t:Tm}
def n0u (hR:K1 l=true){s:Tm}{lo g:Nat}(h:At l lo s)(hg:g<10):(g:Int)∈Z3 l (s.top lo:Int)↔C5 s (g:Int)=true:=by
 have a:=h.j5;have hp:=s.size_pos;unfold Z3;rw[if_neg (by omega),s0R hg,c0P hR h];have e:I1 l (lo:Int) ((s.top lo:Int)+1)=s.flat lo:=by
  unfold I1;rw[show((s.top lo:Int)+1-(lo:Int)).toNat=s.size by unfold Tm.top;omega,Int.toNat_natCast];exact h
 rw[e,h0H]
def le_last {xs:List Int}(h:xs.Pairwise (· < ·)){x:Int}(a:x∈xs):x<=xs.getLast?.getD 0:=by
 cases c:xs.getLast? with
 |none=>rw[List.getLast?_eq_none_iff]at c;subst c;simp at a
 |some y=>
  obtain⟨ys,rfl⟩:=List.getLast?_eq_some_iff.1 c;rcases List.mem_append.1 a with h1|h1
  ·have:=(List.pairwise_append.1 h).2.2 x h1 y (by simp);simp only[Option.getD_some];omega
  ·simp only[List.mem_singleton]at h1;subst h1;simp
def o04 (hR:K1 l=true)(b:O2 l t){g:Int}(h:C5 t g=true)(h1:1<=g)(c:g<=9):g<=o9 l:=by
 obtain⟨k,rfl⟩:∃k:Nat,g=(k:Int):=⟨g.toNat,by omega⟩
 have:=(n0u hR b.at0 (g:=k) (by omega)).2 h;have a:((t.top 0:Nat):Int)=(l.length:Int)-1:=by have:=t.size_pos;have:=b.len;unfold Tm.top;omega
 rw[a]at this;refine le_last ?_ this;unfold Z3;split
 ·exact List.Pairwise.nil
 ·unfold c0e O8;rw[List.pairwise_map];exact(List.Pairwise.filter _ List.pairwise_lt_range).imp fun h=>by omega
def Ng:Tm->Prop
 |.eps=>True|.leaf _=>True|.cat a b=>Ng a/\Ng b|.alt a b=>Ng a/\Ng b
 |.star a=>Ng a|.maybe a=>Ng a|.group m a=>1<=m/\m<=9/\C5 a m=false/\Ng a|.iter a=>Ng a
def s0u:∀{n:Nat} {a:List Int},T4 l n=some a->∀j,j<n->∃b,K6 l b j=true/\gt a (j:Int)=L3 l b j
 |0,a,h,j,f=>by omega
 |n+1,a,h,j,f=>by
  simp only[T4]at h;split at h
  ·cases h
  ·rename_i b d;split at h
   ·rename_i hg;cases h;have hl:=(b0U d).len
    by_cases e:j=n
    ·subst e;exact⟨b,hg,c08 hl.symm⟩
    ·obtain⟨c,h1,g⟩:=s0u d j (by omega);exact⟨c,h1,by rw[b0u (by omega) (by omega)];exact g⟩
   ·cases h
def y00 (hR:K1 l=true){s:Tm}{lo:Nat}(h:At l lo s):∃b,K6 l b (s.top lo)=true/\L3 l b (s.top lo)=lo:=by
 have g:=h.j5;have d:=c0P hR h;have c:=hR;unfold K1 at c;unfold P4 at c d;cases e:T4 l l.length with
 |none=>rw[e]at c;simp at c
 |some a=>
  rw[e]at c d;dsimp only at c d;split at d
  ·rename_i f;rw[if_pos f]at c;simp at c
  ·obtain⟨b,i,j⟩:=s0u e (s.top lo) g;exact⟨b,i,by rw[<-j];exact d⟩
def t0c (hR:K1 l=true):∀(s:Tm) (lo:Nat),At l lo s->Ng s:=by
 intro s
 induction s with
 |eps=>intro lo _;trivial
 |leaf S=>intro lo _;trivial
 |cat a b c i=>intro lo h;obtain⟨h1,j,_⟩:=(At.bin (t:=.cat a b) rfl rfl).1 h;exact⟨c _ h1,i _ j⟩
 |alt a b c i=>intro lo h;obtain⟨h1,j,_⟩:=(At.bin (t:=.alt a b) rfl rfl).1 h;exact⟨c _ h1,i _ j⟩
 |star a c=>intro lo h;exact c _ ((At.un (t:=.star a) rfl rfl).1 h).1
 |maybe a c=>intro lo h;exact c _ ((At.un (t:=.maybe a) rfl rfl).1 h).1
 |group m a c=>
  intro lo h;have ha:=((At.un (t:=.group m a) rfl rfl).1 h).1;obtain⟨b,d,n⟩:=y00 hR h;have hg:=h.D2;unfold K6 at d;rw[hg,n,Int.toNat_natCast]at d;simp only[and_eq_true,Bool.not_eq_true',decide_eq_true_eq]at d;obtain⟨⟨_,g⟩,f⟩:=d;have e:M8 l lo (Tm.top (.group m a) lo)=a.flat lo:=by
   unfold M8;rw[show Tm.top (.group m a) lo-lo=a.size by simp only[Tm.top,Tm.size];omega];exact ha
  unfold a0O at f;rw[e]at f;have k:(a.flat lo).any (P9 m)=false:=by simpa[Tm.node,P9]using f
  rw[h0H]at k;simp only[T8,Tm.node,beq_self_eq_true,if_true,and_eq_true,decide_eq_true_eq]at g;exact⟨of_decide_eq_true g.2.1,of_decide_eq_true g.2.2,k,c _ ha⟩
 |iter a c=>intro lo h;exact c _ ((At.un (t:=.iter a) rfl rfl).1 h).1
end
def stG (F:Nat->Pt->Int×Int->Int×Int):Nat->Pt->Int×Int->Int×Int
 |k,.two x r,c=>stG F (k+x.wid) r (F k x c)
 |_,_,c=>c
def E4 (g:Int):Tm->Nat->Pt->Int×Int->Int×Int
 |.cat a b,k,.two x y,c=>E4 g b (k+x.wid) y (E4 g a k x c)
 |.alt a _,k,.one x,c=>E4 g a k x c
 |.alt _ b,k,.other x,c=>E4 g b k x c
 |.star a,k,P,c=>stG (fun k x c=>E4 g a k x c) k P c
 |.maybe a,k,.one x,c=>E4 g a k x c
 |.group m a,k,.one x,c=>if m=g then((k:Int),((k+x.wid:Nat):Int))else E4 g a k x c
 |.iter a,k,.one x,c=>E4 g a k x (if C5 a g=true then(-1,-1)else c)
 |_,_,_,c=>c
def p0u {w:List Int}{g:Int}{s:Tm}{k:Nat}{P:Pt}(h:Fit w s k P):∀c,C5 s g=false->E4 g s k P c=c:=by
 induction h with
 |eps=>intro c _;rfl
 |leaf _ _=>intro c _;rfl
 |cat _ _ i1 i2=>
  intro c h;simp only[C5,or_eq_false_iff]at h;simp only[E4,i1 c h.1,i2 c h.2]
 |altL _ a=>intro c h;simp only[C5,or_eq_false_iff]at h;exact a c h.1
 |altR _ a=>intro c h;simp only[C5,or_eq_false_iff]at h;exact a c h.2
 |star0=>intro c _;rfl
 |star _ _ _ i1 i2=>
  intro c h;have h1:=i1 c h;have b:=i2 c h;simp only[E4]at b;simp only[E4,stG,h1,b]
 |maybe0=>intro c _;rfl
 |maybe _ _ a=>intro c h;exact a c h
 |group _ a=>
  intro c h;simp only[C5,or_eq_false_iff,beq_eq_false_iff_ne]at h;simp only[E4,if_neg h.1,a c h.2]
 |iter _ a=>
  intro c h;simp only[C5]at h;simp only[E4,h,false_eq_true,if_false];exact a _ h
def Wh (c:Int×Int):Prop:=c=(-1,-1)\/(0<=c.1/\0<=c.2)
def v0F {w:List Int}{g:Int}{s:Tm}{k:Nat}{P:Pt}(h:Fit w s k P):∀c,Wh c->Wh (E4 g s k P c):=by
 induction h with
 |eps=>intro c h;exact h
 |leaf _ _=>intro c h;exact h
 |cat _ _ b i2=>intro c h;exact i2 _ (b _ h)
 |altL _ a=>intro c h;exact a _ h
 |altR _ a=>intro c h;exact a _ h
 |star0=>intro c h;exact h
 |star _ _ _ b i2=>intro c h;exact i2 _ (b _ h)
 |maybe0=>intro c h;exact h
 |maybe _ _ a=>intro c h;exact a _ h
 |group _ a=>
  intro c h;simp only[E4];split
  ·exact .inr ⟨by simp only;omega,by simp only;omega⟩
  ·exact a _ h
 |iter _ a=>
  intro c h;simp only[E4];refine a _ ?_;split
  ·exact .inl rfl
  ·exact h
