/- P. Its conditions: none. -/
import Derived.Test.YtmhooikfkhjijaaGreatYG53
import Derived.Test.YtmhooikfkhjijaaGreatYDStreamPieces
open Bool (false_eq_true)
open List (length_append drop_zero nil_append)
set_option linter.all false
namespace Go.Proofs.YtmhooikfkhjijaaGreat
open Go.V Go.RowKit Old Go.X
def a0B (ps:List a07):List Int:=ps.flatMap fun x=>x.B
def P0L {F:Nat}{ps:List a07}(hl:ps.length<=20):∀(k i fu:Nat) (n:Int),i+k=ps.length->k<fu->0<=n->n<=24*i->
  ∃r,iter (G0n F ps) fu (n,(i:Int))=some r/\∀m,r=.inr m->m=n+((a0B (ps.drop i)).length:Int)/\∀j,i<=j->j<ps.length->(gt ps (j:Int)).B.length<=24:=by
 intro k
 induction k with
 |zero=>
  intro i fu n hi d t h1;obtain⟨fu,rfl⟩:∃m,fu=m+1:=⟨fu-1,by omega⟩
  obtain rfl:i=ps.length:=by omega
  refine⟨.inr n,?_,fun m hm=>?_⟩
  ·unfold iter G0n;simp
  ·cases hm;rw[List.drop_length];exact⟨by simp[a0B],fun j g f=>by omega⟩
 |succ k ih=>
  intro i fu n hi d t h1;obtain⟨fu,rfl⟩:∃m,fu=m+1:=⟨fu-1,by omega⟩
  have c:i<ps.length:=by omega
  by_cases p:(gt ps (i:Int)).B.length<=24
  ·have e:decide (((gt ps (i:Int)).B.length:Int)>24)=false:=by simp;omega
   obtain⟨r,g,f⟩:=ih (i+1) fu (n+((gt ps (i:Int)).B.length:Int)) (by omega) (by omega) (by omega) (by omega);refine⟨r,?_,fun m hm=>?_⟩
   ·rw[<-g];refine e0m ?_;unfold G0n;simp only[q0,Pr.dec_lt c,F0M,c,e];rw[n3 (n:=n+((gt ps (i:Int)).B.length:Int)) (by omega) (by omega),Go.V.G3 (by omega)]
   ·obtain⟨q,h⟩:=f m hm;refine⟨?_,fun j u o=>?_⟩
    ·rw[q,Pr.N0q c];unfold a0B;rw[List.flatMap_cons,length_append];omega
    ·by_cases s:j=i
     ·subst s;exact p
     ·exact h j (by omega) o
  ·have e:decide (((gt ps (i:Int)).B.length:Int)>24)=true:=by simp;omega
   refine⟨.inl (),?_,fun m hm=>by cases hm⟩;unfold iter G0n;simp only[Pr.dec_lt c,F0M,c,decide_true,if_true,e]
def P0r {F:Nat}(ps:List a07)(f:2000<F):∃r,M0l F ps=some r/\(r=true->ps.length<=20/\(a0B ps).length<=24):=by
 unfold M0l
 by_cases hl:ps.length<=20
 ·have e:decide ((ps.length:Int)>20)=false:=by simp;omega
  obtain⟨r,h1,d⟩:=P0L (F:=F) hl ps.length 0 F 0 (by omega) (by omega) (by omega) (by omega);have h1:iter (G0n F ps) F (0,0)=some r:=h1;cases r with
  |inl u=>exact⟨false,by simp only[q0,e,h1],fun h=>by cases h⟩
  |inr m=>
   refine⟨decide (m<=24),by simp only[q0,e,h1],fun h=>⟨hl,?_⟩⟩;obtain⟨c,_⟩:=d m rfl;rw[drop_zero]at c;have:=of_decide_eq_true h;omega
 ·have e:decide ((ps.length:Int)>20)=true:=by simp;omega
  exact⟨false,by simp only[e,if_true],fun h=>by cases h⟩
def P0E {ps:List a07}(h:wfD en 20 (.list (.st 6)) ps):∀x∈ps,∀y∈x.B,Z5 .u8 y:=fun x c=>(h x c).2.1
def O0Z {F:Nat}:∀(k i fu:Nat) (v:List Int),i+k=v.length->k<fu->v.length<=1000->iter (M0j F) fu ((i:Int),v)=some ():=by
 intro k
 induction k with
 |zero=>
  intro i fu v hi d f;obtain⟨fu,rfl⟩:∃m,fu=m+1:=⟨fu-1,by omega⟩
  obtain rfl:i=v.length:=by omega
  unfold iter M0j;simp
 |succ k ih=>
  intro i fu v hi d f;obtain⟨fu,rfl⟩:∃m,fu=m+1:=⟨fu-1,by omega⟩
  have c:i<v.length:=by omega
  rw[<-ih (i+1) fu (v.set ((i:Int)).toNat (IntKind.u8.wrap (255-gt v (i:Int)))) (by rw[List.length_set];omega) (by omega) (by rw[List.length_set];omega)];refine e0m ?_;unfold M0j;simp only[Pr.dec_lt c,F0M,c,decide_true,if_true];rw[Go.V.G3 (by omega)]
section
variable {F:Nat}{l:List C0}{n:Nat}{a:List y0}{b:Nat->List y0}{e:Nat->y0×Bool}{z:y0×Bool}
def O0k (w:List Int):N02 F w=d0o F w:=rfl
def O0m (K:H5 l n a b e z F)(hn:n<=1000)(hw:∀x∈l,o3 x){w:List Int}(i:∀x∈w,Z5 .u8 x)(hl:w.length<=1000){h:Hs}{j:Nat}(g:f05 l n h j)(o:j<=10000){c:Int}(p:0<=c)(h1:c<=1000000):
  M0v F (⟨false,c⟩,h.C l n a b e z) w=some ((((a0i l n a b e h w).found.2,(a0i l n a b e h w).over,(a0i l n a b e h w).found.1),0),(⟨false,c+w.length⟩,(a0i l n a b e h w).C l n a b e z),w)/\∃m,m<=j+w.length/\f05 l n (a0i l n a b e h w) m:=by
 have f1:=K.f1;obtain⟨d,m,i2,i3⟩:=P0m K hn hw i hl w.length 0 F h j (by omega) (by omega) g (by omega);rw[drop_zero]at d i3;refine⟨?_,m,i2,i3⟩;have f:=N0P (F:=F) (a:=a) (b:=b) (e:=e) (z:=z) i3 hn (by omega) false (c+w.length);have k:W (c+(w.length:Int))=c+(w.length:Int):=n3 (by omega) (by omega);have d:iter (d0o F w) F (0,h.C l n a b e z)=_:=d;unfold Hs.C at d f ⊢;unfold M0v;simp only[q0,O0k,d,k,f,Bool.false_or]
def Q0d {h:Hs}{i:Nat}(g:f05 l n h i)(hn:n<=1000)(f:2000<F)(c:Int):
  G0j F (⟨false,c⟩,h.C l n a b e z)=some (((h.found.2,true,h.found.1),0),(⟨true,c⟩,h.C l n a b e z)):=by
 have d:=N0P (F:=F) (a:=a) (b:=b) (e:=e) (z:=z) g hn f true c;unfold Hs.C at d ⊢;unfold G0j;simp only[q0,d,Bool.true_or]
def told (h:Hs):a0J:=⟨h.found.2,h.over,h.found.1⟩
def N0z {h:Hs}{i:Nat}(d:f05 l n h i)(c:2000<F):I0f F (told h) (told h)=some true:=Q0e (L0F d) c
def P0X (K:H5 l n a b e z F)(hn:n<=1000)(hw:∀x∈l,o3 x){ps:List a07}(J:∀x∈ps,∀y∈x.B,Z5 .u8 y)(hp:ps.length<=20):
  ∀(k i fu:Nat) (v:List Int) (y:a0J) (m:Nat),i+k=ps.length->k<fu->(v++a0B (ps.drop i)).length<=24->m<=v.length->f05 l n (a0i l n a b e (Hs.zero l z) v) m->
   (y.Sure=true->(a0i l n a b e (Hs.zero l z) v).over=true/\y=told (a0i l n a b e (Hs.zero l z) v))->
   ∃y',iter (J0Z F ps) fu (v,(i:Int),(⟨false,(v.length:Int)⟩,(a0i l n a b e (Hs.zero l z) v).C l n a b e z),y)=some (.inr (v++a0B (ps.drop i),(⟨false,((v++a0B (ps.drop i)).length:Int)⟩,(a0i l n a b e (Hs.zero l z) (v++a0B (ps.drop i))).C l n a b e z),y'))/\
    (∃m,f05 l n (a0i l n a b e (Hs.zero l z) (v++a0B (ps.drop i))) m)/\
    (y'.Sure=true->(a0i l n a b e (Hs.zero l z) (v++a0B (ps.drop i))).over=true/\y'=told (a0i l n a b e (Hs.zero l z) (v++a0B (ps.drop i)))):=by
 intro k;have f1:=K.f1
 induction k with
 |zero=>
  intro i fu v y m hi r o hm s t;obtain⟨fu,rfl⟩:∃m,fu=m+1:=⟨fu-1,by omega⟩
  obtain rfl:i=ps.length:=by omega
  have hd:v++a0B (ps.drop ps.length)=v:=by rw[List.drop_length];simp[a0B]
  rw[hd];refine⟨y,?_,⟨m,s⟩,t⟩;unfold iter J0Z Hs.C;simp
 |succ k ih=>
  intro i fu v y m hi r o hm s t;obtain⟨fu,rfl⟩:∃m,fu=m+1:=⟨fu-1,by omega⟩
  have d:i<ps.length:=by omega
  have hd:a0B (ps.drop i)=(gt ps (i:Int)).B++a0B (ps.drop (i+1)):=by rw[Pr.N0q d];unfold a0B;rw[List.flatMap_cons]
  rw[hd,<-List.append_assoc]at o ⊢;have R:v.length+(gt ps (i:Int)).B.length<=24:=by simp only[length_append]at o;omega
  have p:=J _ (Pr.N0F d);obtain⟨s1,m2,s2,q⟩:=O0m (c:=(v.length:Int)) K hn hw p (by omega) s (by omega) (by omega) (by omega);rw[N0m]at s1 q;have w:(v.length:Int)+((gt ps (i:Int)).B.length:Int)=((v++(gt ps (i:Int)).B).length:Int):=by rw[length_append];omega
  rw[w]at s1;obtain⟨y',I,i2,i3⟩:=ih (i+1) fu (v++(gt ps (i:Int)).B) (told (a0i l n a b e (Hs.zero l z) (v++(gt ps (i:Int)).B))) m2 (by omega) (by omega) o (by rw[length_append];omega) q (fun h=>⟨h,rfl⟩);refine⟨y',?_,i2,i3⟩;rw[<-I];refine e0m ?_;have j:I0 1 ([]:List Int) (gt ps (i:Int)).B=true:=Y4 (by simp;omega);have g:I0 1 v (gt ps (i:Int)).B=true:=Y4 (by omega);have ol:iter (M0j F) F (0,(gt ps (i:Int)).B)=some ():=O0Z (F:=F) (gt ps (i:Int)).B.length 0 F (gt ps (i:Int)).B (by omega) (by omega) (by omega);have sm:=N0z (F:=F) q (by omega);unfold told at sm ⊢;unfold J0Z;unfold Hs.C at s1 ⊢;cases f:y.Sure with
  |false=>simp only[q0,Pr.dec_lt d,F0M,d,j,g,nil_append,s1,ol,show((0:Int) != 0)=false from rfl,f,Go.V.G3 (n:=i) (by omega)]
  |true=>
   obtain⟨U,u⟩:=t f;have he:a0i l n a b e (Hs.zero l z) (v++(gt ps (i:Int)).B)=a0i l n a b e (Hs.zero l z) v:=by rw[<-N0m,N0l U]
   rw[<-he]at u;unfold told at u;rw[u]at f ⊢;simp only at f;simp only[q0,Pr.dec_lt d,F0M,d,j,g,nil_append,s1,ol,show((0:Int) != 0)=false from rfl,f,Go.V.G3 (n:=i) (by omega)];rw[f]at sm;simp only[q0,sm]
end
def P0b:N0V:=by
 intro l ps u I hl b1;have hw:=D0r u;have hb:=P0E I;have f:2000<Fb:=by unfold Fb;omega
 refine⟨Fb,?_⟩;unfold M08;obtain⟨r,f1,f2⟩:=P0r (F:=Fb) ps f;rw[f1]
 by_cases a1:l.length<=40
 case neg=>
  have i:decide ((l.length:Int)>40)=true:=by simp;omega
  simp only[i,if_true,G0,m0f]
 have i:decide ((l.length:Int)>40)=false:=by simp;omega
 cases r with
 |false=>simp only[q0,i,m0f]
 |true=>
  obtain⟨s,k⟩:=f2 rfl;cases hR:K1 l with
  |false=>simp only[q0,i,(q0X hR hl (by omega)).2,m0f]
  |true=>
   obtain⟨a,b,e,z,K⟩:=known hw hR hl (by omega);obtain⟨t,ht⟩:=a04 hw hR;have hn:L0 l l.length<=1000:=by have:=c0Z l l.length;omega
   have hr:=K.TF.rR;have p:∀x∈a0B ps,Z5 .u8 x:=fun x hx=>by
    unfold a0B at hx;obtain⟨q,q1,q2⟩:=List.mem_flatMap.1 hx;exact hb q q1 x q2
   have b2:=K.f1;obtain⟨y,d,⟨m,j⟩,J⟩:=P0X K hn hw hb s ps.length 0 Fb [] ⟨false,false,[]⟩ 0 (by omega) (by omega) (by rw[drop_zero];simpa using k) (by simp) I0M (fun h=>by cases h);rw[drop_zero,nil_append]at d j J;have d:iter (J0Z Fb ps) Fb ([],0,(⟨false,0⟩,(Hs.zero l z).C l (L0 l l.length) a b e z),⟨false,false,[]⟩)=_:=d;have cl:=Q0d (F:=Fb) (a:=a) (b:=b) (e:=e) (z:=z) j hn f ((a0B ps).length:Int);have fd:=P0T (w:=a0B ps) K hw ht hl p (by omega);have sp:=h01 (fuel:=Fb) (L0F j) f;have U:b08 Fb [] []=some true:=h01 (by simp) f;have sm:=N0z (F:=Fb) j f;have o:(a0i l (L0 l l.length) a b e (Hs.zero l z) (a0B ps)).found.2=false->(a0i l (L0 l l.length) a b e (Hs.zero l z) (a0B ps)).found.1=[]:=fun h=>by
    unfold Hs.found at h ⊢;split<;>simp_all
   rw[O0x K];generalize a0i l (L0 l l.length) a b e (Hs.zero l z) (a0B ps)=h at *;unfold Hs.C at d cl ⊢;simp only[q0,i,hr,show((0:Int) != 0)=false from rfl,d,cl,fd];cases c:h.found.2 with
   |false=>
    have c2:=o c;cases v:y.Sure with
    |false=>simp only[q0,c2,show((7:Int)==0)=false from rfl,beq_self_eq_true,U,m0f]
    |true=>
     obtain⟨g,R⟩:=J v;subst R;unfold told at sm ⊢;rw[g,c,c2]at sm;simp only[q0,c,c2,g,show((7:Int)==0)=false from rfl,beq_self_eq_true,U,sm,m0f]
   |true=>
    cases v:y.Sure with
    |false=>simp only[q0,show((0:Int)==0)=true from rfl,beq_self_eq_true,sp,m0f]
    |true=>
     obtain⟨g,R⟩:=J v;subst R;unfold told at sm ⊢;rw[g,c]at sm;simp only[q0,c,g,show((0:Int)==0)=true from rfl,beq_self_eq_true,sp,sm,m0f]
