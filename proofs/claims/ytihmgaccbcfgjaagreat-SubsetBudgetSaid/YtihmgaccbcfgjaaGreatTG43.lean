/- P. Its conditions: none. -/
import Derived.Test.YtihmgaccbcfgjaaGreatTG42
import Derived.Test.YtihmgaccbcfgjaaGreatTBr2
open Nat (lt_or_ge zero_le sub_zero)
open List (mem_singleton mem_append length_cons)
set_option linter.all false
namespace Go.Proofs.YtihmgaccbcfgjaaGreat.Old
open Go.V Go.RowKit
def Ctx.down {t:Tm}:∀{s:Tm} {lo:Nat} {fs:List Fr},Ctx t lo s fs->∀i,lo<=i->i<lo+s.size->∃lo' f e,Ctx t lo' f e/\f.top lo'=i:=by
 intro s
 induction s with
 |eps=>intro lo fs h i h1 d;exact⟨lo,.eps,fs,h,by simp only[Tm.top,Tm.size]at *;omega⟩
 |leaf s=>intro lo fs h i h1 d;exact⟨lo,.leaf s,fs,h,by simp only[Tm.top,Tm.size]at *;omega⟩
 |cat a b iha ihb=>
  intro lo fs h i h1 d;simp only[Tm.size]at d;rcases lt_or_ge i (lo+a.size)with c|c
  ·exact iha (fs:=.catL b :: fs) ⟨zero_le _,h⟩ i h1 c
  ·rcases lt_or_ge i (lo+a.size+b.size)with c2|c2
   ·exact ihb (lo:=lo+a.size) (fs:=.catR a :: fs) ⟨by simp[Fr.off],by simpa[Fr.off,Fr.O2]using h⟩ i c c2
   ·exact⟨lo,_,fs,h,U'⟩
 |alt a b iha ihb=>
  intro lo fs h i h1 d;simp only[Tm.size]at d;rcases lt_or_ge i (lo+a.size)with c|c
  ·exact iha (fs:=.altL b :: fs) ⟨zero_le _,h⟩ i h1 c
  ·rcases lt_or_ge i (lo+a.size+b.size)with c2|c2
   ·exact ihb (lo:=lo+a.size) (fs:=.altR a :: fs) ⟨by simp[Fr.off],by simpa[Fr.off,Fr.O2]using h⟩ i c c2
   ·exact⟨lo,_,fs,h,U'⟩
 |star a iha=>
  intro lo fs h i h1 d;simp only[Tm.size]at d;rcases lt_or_ge i (lo+a.size)with c|c
  ·exact iha (fs:=.star :: fs) ⟨zero_le _,h⟩ i h1 c
  ·exact⟨lo,_,fs,h,U'⟩
 |maybe a iha=>
  intro lo fs h i h1 d;simp only[Tm.size]at d;rcases lt_or_ge i (lo+a.size)with c|c
  ·exact iha (fs:=.maybe :: fs) ⟨zero_le _,h⟩ i h1 c
  ·exact⟨lo,_,fs,h,U'⟩
 |group n a iha=>
  intro lo fs h i h1 d;simp only[Tm.size]at d;rcases lt_or_ge i (lo+a.size)with c|c
  ·exact iha (fs:=.group n :: fs) ⟨zero_le _,h⟩ i h1 c
  ·exact⟨lo,_,fs,h,U'⟩
 |iter a iha=>
  intro lo fs h i h1 d;simp only[Tm.size]at d;rcases lt_or_ge i (lo+a.size)with c|c
  ·exact iha (fs:=.iter :: fs) ⟨zero_le _,h⟩ i h1 c
  ·exact⟨lo,_,fs,h,U'⟩
def Ctx.at_ {l:List C0}{t:Tm}(c:I4 l t):∀{fs:List Fr} {lo:Nat} {s:Tm},Ctx t lo s fs->At l lo s
 |[],lo,s,⟨h1,d⟩=>by subst h1;subst d;exact c.at0
 |f :: fs,lo,s,⟨ho,h⟩=>by
  have h1:=Ctx.at_ c h;cases f<;>simp only[Fr.O2,Fr.off,sub_zero]at h1 ho
  case catL b=>exact((At.bin rfl rfl).1 h1).1
  case altL b=>exact((At.bin rfl rfl).1 h1).1
  case catR a=>
   have:=((At.bin rfl rfl).1 h1).2.1
   rwa [show lo-a.size+a.size=lo from O']at this
  case altR a=>
   have:=((At.bin rfl rfl).1 h1).2.1
   rwa [show lo-a.size+a.size=lo from O']at this
  all_goals exact((At.un rfl rfl).1 h1).1
structure d0u (l:List C0)(t:Tm)(p q:Nat)(S:List Int)(fs:List Fr):Prop where
 ctx:Ctx t q (.leaf S) fs
 num:N0 l q=p
 get:(G2 l l.length)[p]?=some (q:Int)
def A0R {l:List C0}{t:Tm}(b:I4 l t){p:Nat}(hp:p<N0 l l.length):∃q S fs,d0u l t p q S fs:=by
 obtain⟨q,h1,f,d,e⟩:=e05 l l.length p hp;obtain⟨lo,s,fs,c,hs⟩:=Ctx.down (t:=t) (s:=t) (lo:=0) (fs:=[]) ⟨rfl,rfl⟩ q (zero_le _) (by rw[b.len]at h1;omega);have a:=c.at_ b;have hg:=a.N3;rw[hs]at hg;cases s with
 |leaf S=>
  simp only[Tm.top,Tm.size,Nat.add_sub_cancel]at hs;subst hs;exact⟨lo,S,fs,c,e,f⟩
 |_=>rw[hg]at d;simp[Tm.node]at d
def z0z {l:List C0}{t:Tm}(a:I4 l t):N0 l l.length=t.leaves:=by
 have:=a0R a.at0;rw[Nat.zero_add,<-a.len]at this;simpa[N0]using this
def s0n (n:Nat)(h:B0):Prop:=0<=h.To/\h.To<n/\h.Steps.length<=2000000
def Tm.j0U (s:Tm):∀(lo p:Nat) (ahead:List Int),s.size<=400->ahead.length+1000*s.size<=2000000->∀h∈s.Y0 lo p ahead,(p:Int)<=h.To/\h.To<((p+s.leaves:Nat):Int)/\h.Steps.length<=2000000:=by
 induction s with
 |eps=>intro lo p ahead _ _ h c;simp[Tm.Y0]at c
 |leaf s=>intro lo p ahead _ e h c;simp only[Tm.Y0,mem_singleton]at c;subst c;simp only[Tm.leaves,Tm.size]at *;refine⟨X',Z',Z'⟩
 |cat a b d ihb=>
  intro lo p ahead hs e h c;have f:=a.j9 lo;simp only[Tm.Y0,Tm.size,Tm.leaves,mem_append]at *;rcases c with c|c
  ·have:=d lo p _ O' Z' h c;refine⟨O',O',this.2.2⟩
  ·split at c
   ·have:=ihb (lo+a.size) (p+a.leaves) _ O' Z' h c;refine⟨O',O',this.2.2⟩
   ·simp at c
 |alt a b d ihb=>
  intro lo p ahead hs e h c;simp only[Tm.Y0,Tm.size,Tm.leaves,mem_append]at *;rcases c with c|c
  ·have:=d lo p _ O' Z' h c;refine⟨O',O',this.2.2⟩
  ·have:=ihb (lo+a.size) (p+a.leaves) _ O' Z' h c;refine⟨O',O',this.2.2⟩
 |star a d|maybe a d|group _ a d|iter a d=>
  intro lo p ahead hs e h c;simp only[Tm.Y0,Tm.size,Tm.leaves]at *;exact d lo p _ O' Z' h c
structure K8 (n:Nat)(out:List B0):Prop where
 ok:∀h∈out,s0n n h
 dist:out.Pairwise fun a b=>a.To≠b.To
def p0E {n:Nat}(d:Int):∀(r out:List B0),K8 n out->(∀h∈r,s0n n h)->K8 n (Q7 d out r)
 |[],out,h,_=>h
 |x :: r,out,h,hr=>by
  simp only[Q7];refine p0E d r _ ?_ (fun y c=>hr y (by simp[c]));split
  ·exact h
  ·rename_i g;have i:=hr x X';refine⟨fun y c=>?_,?_⟩
   ·rcases mem_append.1 c with c|c
    ·exact h.ok y c
    ·simp only[mem_singleton]at c;subst c;exact i
   ·refine List.pairwise_append.2 ⟨h.dist,X',fun a ha b f=>?_⟩;simp only[mem_singleton]at f;subst f;intro e;exact g (List.any_eq_true.2 ⟨a,ha,by simpa using e⟩)
def c0W {l:List C0}{t:Tm}(g:I4 l t):∀(fs:List Fr) (lo:Nat) (s:Tm) (st:List Int) (out:List B0),Ctx t lo s fs->K8 t.leaves out->st.length+1000*fs.length<=500000->
  K8 t.leaves (V4 lo (N0 l lo) s st out fs).1/\(V4 lo (N0 l lo) s st out fs).2.1.length<=500000
 |[],lo,s,st,out,i,hw,hl=>⟨hw,by simp only[V4];simpa using hl⟩
 |f :: fs,lo,s,st,out,i,hw,hl=>by
  have c:=i.2.at_ g;have hlen:=c.len;have o:=g.le;have q:=g.len;have d:=j00 l hlen;rw[a0R c,z0z g]at d;have e:N0 l (lo-f.off)=N0 l lo-f.W9:=by
   cases f<;>simp only[Fr.O2,Fr.off,Fr.W9,sub_zero]at c ⊢
   case catR a=>
    have m:=i.1;simp only[Fr.off]at m;have:=a0R ((At.bin rfl rfl).1 c).1;rw[show lo-a.size+a.size=lo from O']at this;omega
   case altR a=>
    have m:=i.1;simp only[Fr.off]at m;have:=a0R ((At.bin rfl rfl).1 c).1;rw[show lo-a.size+a.size=lo from O']at this;omega
  simp only[length_cons]at hl;cases f with
  |catL b=>
   simp only[Fr.O2,Fr.off,sub_zero,Tm.leaves,Tm.size]at c d hlen;have p:=b.j9 (lo+s.size);have j:=p0E (n:=t.leaves) ((fs.length+1:Nat):Int) (b.Y0 (lo+s.size) (N0 l lo+s.leaves) st) out hw (fun h k=>by
    have:=b.j0U (lo+s.size) (N0 l lo+s.leaves) st O' O' h k;exact⟨O',O',this.2.2⟩)
   simp only[V4];split
   ·exact c0W g fs lo (.cat s b) _ _ i.2 j Z'
   ·exact⟨j,X'⟩
  |star=>
   simp only[Fr.O2,Fr.off,sub_zero,Tm.leaves,Tm.size]at c d hlen;have j:=p0E (n:=t.leaves) ((fs.length+1:Nat):Int) (s.Y0 lo (N0 l lo) st) out hw (fun h k=>by
    have:=s.j0U lo (N0 l lo) st O' O' h k;exact⟨O',O',this.2.2⟩)
   simp only[V4];exact c0W g fs lo (.star s) _ _ i.2 j Z'
  |catR a=>
   have:=c0W g fs (lo-(Fr.catR a).off) ((Fr.catR a).O2 s) (st++[cls (((Fr.catR a).O2 s).top (lo-(Fr.catR a).off))]) out i.2 hw Z';rw[e]at this;exact this
  |altR a=>
   have:=c0W g fs (lo-(Fr.altR a).off) ((Fr.altR a).O2 s) (st++[cls (((Fr.altR a).O2 s).top (lo-(Fr.altR a).off))]) out i.2 hw Z';rw[e]at this;exact this
  |altL b=>
   have:=c0W g fs (lo-(Fr.altL b).off) ((Fr.altL b).O2 s) (st++[cls (((Fr.altL b).O2 s).top (lo-(Fr.altL b).off))]) out i.2 hw Z';rw[e]at this;exact this
  |maybe=>
   have:=c0W g fs (lo-Fr.maybe.off) (Fr.maybe.O2 s) (st++[cls ((Fr.maybe.O2 s).top (lo-Fr.maybe.off))]) out i.2 hw Z';rw[e]at this;exact this
  |group n=>
   have:=c0W g fs (lo-(Fr.group n).off) ((Fr.group n).O2 s) (st++[cls (((Fr.group n).O2 s).top (lo-(Fr.group n).off))]) out i.2 hw Z';rw[e]at this;exact this
  |iter=>
   have:=c0W g fs (lo-Fr.iter.off) (Fr.iter.O2 s) (st++[cls ((Fr.iter.O2 s).top (lo-Fr.iter.off))]) out i.2 hw Z';rw[e]at this;exact this
def K8.b0v {n:Nat}{out:List B0}(h:K8 n out)(hn:n<=1000)(hl:out.length<=1000000):b0v B0.To out=true:=by
 simp only[Go.V.b0v,Bool.and_eq_true,List.all_eq_true,decide_eq_true_eq];refine⟨⟨O',fun x a=>?_⟩,(h04 _ _).2 h.dist⟩;have:=h.ok x a;exact⟨this.1,by have:=this.2.1;omega⟩
def x03 {α:Type}(z:α)(ys:List α):j4 (List.replicate ys.length z) ys=ys:=by
 simp[j4]
def s09 {fuel:Nat}(out:List B0)(hl:out.length<=1000000)(d:out.length<fuel)(hs:∀h∈out,h.Steps.length<=2000000):a01 fuel out=some out:=by
 have key:=H3 (step:=g0j fuel out) (fun i=>(out,(i:Int))) out out.length (fun i hi=>.inl (by
  have a:y0 out (i:Int)=true:=V0 O' O';have c:(i:Int)<(out.length:Int):=O'
  have hg:gt out (i:Int)=out[i]:=X2 (by simp[hi]);have h1:=hs out[i] (List.getElem_mem _);have b:R2 8 (out[i].Steps.length:Int)=true:=by simp[R2];omega
  unfold g0j;simp only[c,decide_true,if_true,a,hg,b,Int.toNat_natCast,x03,X1 (show i<9223372036854775807 from O')];rw[show(⟨out[i].To,out[i].Turn,out[i].Steps⟩:B0)=out[i]from rfl];simp)) (by unfold g0j;simp) out.length 0 fuel O' O'
 unfold a01;rw[show(0:Int)=((0:Nat):Int)from rfl,key];rfl
def r8 (t:Tm)(p q:Nat)(S:List Int)(fs:List Fr):List B0×List Int×Bool:=V4 q p (.leaf S) [cls q] [] fs
def w0k {l:List C0}(hw:∀x∈l,P2 x){t:Tm}(b:I4 l t)(hR:L2 l=true){fuel:Nat}(a:401<fuel):∃c,b0b fuel l=some (some c,true)/\h0E c l t:=by
 obtain⟨u,e,hu⟩:=p0m b hR a;obtain⟨d,f,hd⟩:=k0n b hR a;refine⟨⟨l,u,d,B7 l l.length,M8 l⟩,?_,⟨rfl,hu,hd,rfl,rfl⟩⟩;unfold b0b;rw[c0y l a,e,f,F0k hw a,n0E hw a];simp[hR,e0m]
def s0t {l:List C0}(hw:∀x∈l,P2 x){t:Tm}(h:I4 l t)(hR:L2 l=true){fuel:Nat}(d:401<fuel){p q:Nat}{S:List Int}{fs:List Fr}(hp:d0u l t p q S fs)(f:p<N0 l l.length):
  ∃c,b0n fuel l (p:Int)=some (some c,(q:Int),true)/\h0E c l t:=by
 obtain⟨c,e,g⟩:=w0k hw h hR d;refine⟨c,?_,g⟩;have a:b0k l=G2 l l.length:=by simp[b0k,hR]
 have i:¬((p:Int)<0):=O'
 have h1:¬((p:Int)>=((G2 l l.length).length:Int)):=by rw[K9];omega
 have b:y0 (G2 l l.length) (p:Int)=true:=V0 O' (by rw[K9];omega);unfold b0n;rw[e,l07 hw d,a];simp[i,h1,b,X2 hp.get];omega
def u0Q {l:List C0}(hw:∀x∈l,P2 x){t:Tm}(b:I4 l t)(hR:L2 l=true){c:L4}(f:h0E c l t){fuel:Nat}(m:1000001<fuel){p q:Nat}{S:List Int}{fs:List Fr}(hp:d0u l t p q S fs):
  a08 fuel c (q:Int)=some ((r8 t p q S fs).1,if(r8 t p q S fs).2.2 then(r8 t p q S fs).2.1 else[]):=by
 have h:=b.le;have k:=b.len;have a:=hp.ctx.size;have d:=hp.ctx.at_ b;have n:q<l.length:=by have:=d.len;simp only[Tm.size]at this;omega
 have e:y0 c.up (q:Int)=true:=V0 O' (by rw[f.up.len];omega);obtain⟨r,h1,g,j⟩:=E0E hw b hR f m (q:Int) fs q (.leaf S) [cls q] [] hp.ctx (by simp;simp only[Tm.size]at a;omega) (by simp;simp only[Tm.size]at a;omega) fuel (by simp only[Tm.size]at a;omega);unfold a08;rw[hp.num]at g;simp only[Tm.top,Tm.size,Nat.add_sub_cancel]at h1;simp only[e,if_true,o7 (show q<=1000000000 from O'),a0h (show q<=1000000000 from O'),h1,G0];unfold r8;rw[<-g];cases r with
 |inl y=>obtain⟨o,s⟩:=y;rfl
 |inr z=>obtain⟨i,z2⟩:=z;rw[j i z2 rfl];rfl
def s0l {l:List C0}{t:Tm}(c:I4 l t){p q:Nat}{S:List Int}{fs:List Fr}(hp:d0u l t p q S fs):K8 t.leaves (r8 t p q S fs).1/\(r8 t p q S fs).2.1.length<=500000:=by
 have a:=hp.ctx.size;have b:=c.le;have:=c0W c fs q (.leaf S) [cls q] [] hp.ctx ⟨X',List.Pairwise.nil⟩ (by simp;simp only[Tm.size]at a;omega);rw[hp.num]at this;exact this
def c01 {l:List C0}{t:Tm}(c:I4 l t):∀(fs:List Fr) (lo p:Nat) (s:Tm) (st:List Int) (out:List B0),Ctx t lo s fs->out.length+1000*fs.length<=500000->(V4 lo p s st out fs).1.length<=500000
 |[],lo,p,s,st,out,d,hl=>by simp only[V4];simpa using hl
 |f :: fs,lo,p,s,st,out,d,hl=>by
  have e:=d.2.at_ c;have hlen:=e.len;have g:=c.le;have i:=c.len;simp only[length_cons]at hl;cases f with
  |catL b=>
   simp only[Fr.O2,Fr.off,sub_zero,Tm.size]at hlen;have h1:=f0U ((fs.length+1:Nat):Int) (b.Y0 (lo+s.size) (p+s.leaves) st) out;have j:=b.b0c (lo+s.size) (p+s.leaves) st;have h:=b.b0r;simp only[V4];split
   ·exact c01 c fs lo p (.cat s b) _ _ d.2 O'
   ·dsimp only;omega
  |star=>
   simp only[Fr.O2,Fr.off,sub_zero,Tm.size]at hlen;have h1:=f0U ((fs.length+1:Nat):Int) (s.Y0 lo p st) out;have j:=s.b0c lo p st;have h:=s.b0r;simp only[V4];exact c01 c fs lo p (.star s) _ _ d.2 O'
  |catR a=>exact c01 c fs (lo-(Fr.catR a).off) (p-(Fr.catR a).W9) ((Fr.catR a).O2 s) _ out d.2 O'
  |altR a=>exact c01 c fs (lo-(Fr.altR a).off) (p-(Fr.altR a).W9) ((Fr.altR a).O2 s) _ out d.2 O'
  |altL b=>exact c01 c fs (lo-(Fr.altL b).off) (p-(Fr.altL b).W9) ((Fr.altL b).O2 s) _ out d.2 O'
  |maybe=>exact c01 c fs (lo-Fr.maybe.off) (p-Fr.maybe.W9) (Fr.maybe.O2 s) _ out d.2 O'
  |group n=>exact c01 c fs (lo-(Fr.group n).off) (p-(Fr.group n).W9) ((Fr.group n).O2 s) _ out d.2 O'
  |iter=>exact c01 c fs (lo-Fr.iter.off) (p-Fr.iter.W9) (Fr.iter.O2 s) _ out d.2 O'
def q03 {l:List C0}{t:Tm}(c:I4 l t){p q:Nat}{S:List Int}{fs:List Fr}(hp:d0u l t p q S fs):(r8 t p q S fs).1.length<=500000:=by
 have a:=hp.ctx.size;have b:=c.le;exact c01 c fs q p (.leaf S) [cls q] [] hp.ctx (by simp;simp only[Tm.size]at a;omega)
def D04 {l:List C0}(hw:∀x∈l,P2 x){t:Tm}(d:I4 l t)(hR:L2 l=true){fuel:Nat}(k:1000001<fuel){p q:Nat}{S:List Int}{fs:List Fr}(hp:d0u l t p q S fs)(f:p<N0 l l.length):
  b0M fuel l (p:Int)=some (F7 B0.To (r8 t p q S fs).1):=by
 obtain⟨c,e,i⟩:=s0t hw d hR (show 401<fuel from O') hp f;obtain⟨a,_⟩:=s0l d hp;have hl:=q03 d hp;have j:=d.lv;unfold b0M;rw[e];simp only[G0,u0Q hw d hR i k hp,a.b0v O' O',if_true];have b:=c0T B0.To (r8 t p q S fs).1;rw[s09 _ (by rw[e0c];omega) (by rw[e0c];omega) (fun h g=>(a.ok h (b.mem_iff.1 g)).2.2)];simp
def Z8 (s:List Int):B0×Bool:=if s.length=0 then(⟨0,0,[]⟩,false)else(⟨-1,0,s⟩,true)
def A0e {l:List C0}(hw:∀x∈l,P2 x){t:Tm}(b:I4 l t)(hR:L2 l=true){fuel:Nat}(f:1000001<fuel){p q:Nat}{S:List Int}{fs:List Fr}(hp:d0u l t p q S fs)(a:p<N0 l l.length):
  G9 fuel l (p:Int)=some (Z8 (if(r8 t p q S fs).2.2 then(r8 t p q S fs).2.1 else[])):=by
 obtain⟨c,e,d⟩:=s0t hw b hR (show 401<fuel from O') hp a;have h1:((p:Int)==-1)=false:=X'
 unfold G9 Z8;simp only[q0,h1,e,u0Q hw b hR d f hp];generalize (if(r8 t p q S fs).2.2=true then(r8 t p q S fs).2.1 else[])=s
 by_cases hs:s.length=0<;>simp[hs]
def u0E {l:List C0}(hw:∀x∈l,P2 x){t:Tm}(a:I4 l t)(hR:L2 l=true){fuel:Nat}(g:1000001<fuel):G9 fuel l (-1)=some (Z8 (if t.can then t.steps 0 else[]))/\o0E fuel l (-1)=some (Z8 (if t.can then t.steps 0 else[])):=by
 have c:=a.le;have f:=a.len;have hp:=t.size_pos;have d:W ((l.length:Int)-1)=(t.top 0:Int):=by rw[E3 O' O'];unfold Tm.top;omega
 have b:b0k l=G2 l l.length:=by simp[b0k,hR]
 have e:¬((-1:Int)>=((G2 l l.length).length:Int)):=O'
 constructor
 ·unfold G9 Z8;simp only[beq_self_eq_true,if_true,d,p0O hw a hR (show 401<fuel from O') a.at0,G0];generalize (if t.can=true then t.steps 0 else[])=s
  by_cases hs:s.length=0
  ·simp[hs]
  ·simp[hs]
 ·unfold o0E Z8;simp only[q0,show ¬((-1:Int) < -1)from O',e02 l (show l.length*64<=140737488351232 from O') (show l.length+1<fuel from O'),hR,y0w hw (show l.length*64<=140737488351232 from O') (show 401<fuel from O') O',b,e,beq_self_eq_true,d,H0F hw a hR (show 401<fuel from O') a.at0];generalize (if t.can=true then t.steps 0 else[])=s
  by_cases hs:s.length=0
  ·simp[hs]
  ·simp[hs]
def A0f {l:List C0}(hw:∀x∈l,P2 x){t:Tm}(a:I4 l t)(hR:L2 l=true){fuel:Nat}(q:1000001<fuel){lo:Nat}{s:Tm}(h:At l lo s):c0h fuel l (s.top lo:Int)=some (s.Y0 lo (N0 l lo) [])/\n0z fuel l (s.top lo:Int)=some (s.Y0 lo (N0 l lo) []):=by
 have g:=a.le;have o:=a.len;have d:=h.V6;have k:=h.len;have f:¬((s.top lo:Int)<0):=O'
 have h1:¬((s.top lo:Int)>=(l.length:Int)):=O'
 have j:=s.b0c lo (N0 l lo) [];have p:=s.b0r;constructor
 ·obtain⟨c,e,m⟩:=w0k hw a hR (show 401<fuel from O');unfold c0h;rw[e];simp only[Bool.not_true,Bool.false_eq_true,if_false,f,decide_false,h1,G0,p02 hw a hR m (show 401<fuel from O') s lo h fuel [] [] O' Z' Z',List.nil_append];rw[s09 _ O' O' (fun n i=>(s.j0U lo (N0 l lo) [] O' Z' n i).2.2)];rfl
 ·unfold n0z;have b:e0m l=B7 l l.length:=by simp[e0m,hR]
  rw[e02 l (show l.length*64<=140737488351232 from O') (show l.length+1<fuel from O'),hR];simp only[Bool.not_true,Bool.false_eq_true,if_false,f,decide_false,h1,G0,C0Y hw (show l.length*64<=140737488351232 from O') (show 401<fuel from O') O',t0D hw (show l.length*64<=140737488351232 from O') (show 401<fuel from O') O',b,H0Z a hR (show 401<fuel from O') s lo h fuel [] O' Z']
def N2 (B:Int)(st:List Int):Prop:=∀x∈st,0<=x/\x<=B
def N2.app {B:Int}{a b:List Int}(h:N2 B a)(k:N2 B b):N2 B (a++b):=fun x c=>(mem_append.1 c).elim (h x) (k x)
def N2.one {B x:Int}(b:0<=x)(h:x<=B):N2 B [x]:=fun y a=>by simp at a;subst a;exact⟨b,h⟩
def N2.nil {B:Int}:N2 B []:=fun _ h=>by cases h
def N2.E1 {B:Int}{q:Nat}(h:2*(q:Int)+1<=B):N2 B [E1 q]:=N2.one (by unfold Old.E1;omega) (by unfold Old.E1;omega)
def N2.cls {B:Int}{q:Nat}(h:2*(q:Int)+1<=B):N2 B [cls q]:=N2.one (by unfold Old.cls;omega) (by unfold Old.cls;omega)
def N2.two {B:Int}{q:Nat}(h:2*(q:Int)+1<=B):N2 B [Old.E1 q,Old.cls q]:=N2.app (N2.E1 h) (N2.cls h)
def Tm.n0O (t:Tm):∀(lo:Nat) (B:Int),2*((lo+t.size:Nat):Int)<=B->N2 B (t.steps lo):=by
 induction t with
 |eps=>intro lo B h;simp only[Tm.size]at h;simp only[Tm.steps];exact N2.two O'
 |leaf s=>intro lo B h;simp only[Tm.size]at h;simp only[Tm.steps];exact N2.two O'
 |cat a b c ihb=>
  intro lo B h;simp only[Tm.size]at h;simp only[Tm.steps];have d:2*((Tm.top (.cat a b) lo:Nat):Int)+1<=B:=by simp only[Tm.top,Tm.size];omega
  exact((N2.E1 d).app ((c lo B O').app (ihb (lo+a.size) B O'))).app (N2.cls d)
 |alt a b c ihb=>
  intro lo B h;simp only[Tm.size]at h;simp only[Tm.steps];have d:2*((Tm.top (.alt a b) lo:Nat):Int)+1<=B:=by simp only[Tm.top,Tm.size];omega
  refine((N2.E1 d).app ?_).app (N2.cls d);split
  ·exact c lo B O'
  ·exact ihb (lo+a.size) B O'
 |star a c=>intro lo B h;simp only[Tm.size]at h;simp only[Tm.steps];exact N2.two U'
 |maybe a c=>intro lo B h;simp only[Tm.size]at h;simp only[Tm.steps];exact N2.two U'
 |group n a c=>
  intro lo B h;simp only[Tm.size]at h;simp only[Tm.steps];have d:2*((Tm.top (.group n a) lo:Nat):Int)+1<=B:=by simp only[Tm.top,Tm.size];omega
  exact((N2.E1 d).app (c lo B O')).app (N2.cls d)
 |iter a c=>
  intro lo B h;simp only[Tm.size]at h;simp only[Tm.steps];have d:2*((Tm.top (.iter a) lo:Nat):Int)+1<=B:=by simp only[Tm.top,Tm.size];omega
  exact((N2.E1 d).app (c lo B O')).app (N2.cls d)
def p9 (B:Int)(l:List B0):Prop:=∀h∈l,N2 B h.Steps
def p9.app {B:Int}{a b:List B0}(h:p9 B a)(k:p9 B b):p9 B (a++b):=fun x c=>(mem_append.1 c).elim (h x) (k x)
def Tm.n03 (t:Tm):∀(lo p:Nat) (ahead:List Int) (B:Int),2*((lo+t.size:Nat):Int)<=B->N2 B ahead->p9 B (t.Y0 lo p ahead):=by
 induction t with
 |eps=>intro lo p ahead B h k x d;simp[Tm.Y0]at d
 |leaf s=>intro lo p ahead B h k x d;simp only[Tm.size]at h;simp only[Tm.Y0,mem_singleton]at d;subst d;exact k.app (N2.E1 O')
 |cat a b c ihb=>
  intro lo p ahead B h k;simp only[Tm.size]at h;simp only[Tm.Y0];have f:2*((Tm.top (.cat a b) lo:Nat):Int)+1<=B:=by simp only[Tm.top,Tm.size];omega
  have e:=k.app (N2.E1 f);refine(c lo p _ B O' e).app ?_;split
  ·exact ihb _ _ _ B O' (e.app (a.n0O lo B O'))
  ·intro x d;cases d
 |alt a b c ihb=>
  intro lo p ahead B h k;simp only[Tm.size]at h;simp only[Tm.Y0];have f:2*((Tm.top (.alt a b) lo:Nat):Int)+1<=B:=by simp only[Tm.top,Tm.size];omega
  have e:=k.app (N2.E1 f);exact(c lo p _ B O' e).app (ihb _ _ _ B O' e)
 |star a c|maybe a c|group n a c|iter a c=>
  intro lo p ahead B h k;simp only[Tm.size]at h;simp only[Tm.Y0];exact c lo p _ B O' (k.app (N2.E1 U'))
def j01 {B:Int}(d:Int):∀(r out:List B0),p9 B out->p9 B r->p9 B (Q7 d out r)
 |[],out,h,_=>h
 |x :: r,out,h,k=>by
  simp only[Q7];have b:p9 B r:=fun y a=>k y (List.mem_cons_of_mem _ a);split
  ·exact j01 d r out h b
  ·exact j01 d r _ (h.app fun y a=>by simp at a;subst a;exact k x X') b
def Ctx.lo_le {t:Tm}:∀{fs:List Fr} {lo:Nat} {s:Tm},Ctx t lo s fs->lo+s.size<=t.size
 |[],lo,s,⟨a,h⟩=>by subst h;omega
 |f :: fs,lo,s,⟨a,h⟩=>by
  have:=Ctx.lo_le h;cases f<;>simp[Fr.O2,Fr.off,Tm.size]at this a ⊢<;>omega
def k03 {t:Tm}{B:Int}(e:2*(t.size:Int)<=B):∀(fs:List Fr) (lo p:Nat) (s:Tm) (st:List Int) (out:List B0),Ctx t lo s fs->N2 B st->p9 B out->
  p9 B (V4 lo p s st out fs).1/\N2 B (V4 lo p s st out fs).2.1
 |[],lo,p,s,st,out,_,h,k=>by simp only[V4];exact⟨k,h⟩
 |f :: fs,lo,p,s,st,out,hx,h,k=>by
  have d:=Ctx.lo_le hx.2;have c:=hx.2;have g:=hx.1;cases f with
  |catL b=>
   simp only[Fr.O2,Fr.off,sub_zero,Tm.size]at d c g;have hs:=b.n0O (lo+s.size) B O';have hi:=b.n03 (lo+s.size) (p+s.leaves) st B O' h;have i:=j01 ((fs.length+1:Nat):Int) _ _ k hi;simp only[V4];split
   ·exact k03 e fs lo p _ _ _ c ((h.app hs).app (N2.cls U')) i
   ·exact⟨i,N2.nil⟩
  |star=>
   simp only[Fr.O2,Fr.off,sub_zero,Tm.size]at d c g;simp only[V4];exact k03 e fs lo p _ _ _ c (h.app (N2.cls U')) (j01 _ _ _ k (s.n03 lo p st B O' h))
  |catR a|altL b|altR a|maybe|group n|iter=>
   simp only[Fr.O2,Fr.off,sub_zero,Tm.size]at d c g;simp only[V4,Fr.O2,Fr.off,Fr.W9,sub_zero];exact k03 e fs _ _ _ _ _ c (h.app (N2.cls U')) k
def a0L (l:List B0):Prop:=∀h∈l,0<=h.Turn/\h.Turn<=400
def a0L.app {a b:List B0}(h:a0L a)(k:a0L b):a0L (a++b):=fun x c=>(mem_append.1 c).elim (h x) (k x)
def Tm.x0m (t:Tm):∀(lo p:Nat) (ahead:List Int),a0L (t.Y0 lo p ahead):=by
 induction t with
 |eps=>intro lo p ahead x e;simp[Tm.Y0]at e
 |leaf s=>intro lo p ahead x e;simp only[Tm.Y0,mem_singleton]at e;subst e;exact⟨Int.le_refl _,show(0:Int)<=400 from O'⟩
 |cat a b c d=>
  intro lo p ahead;simp only[Tm.Y0];refine(c lo p _).app ?_;split
  ·exact d _ _ _
  ·intro x e;cases e
 |alt a b c d=>intro lo p ahead;simp only[Tm.Y0];exact(c lo p _).app (d _ _ _)
 |star a c|maybe a c|group n a c|iter a c=>intro lo p ahead;simp only[Tm.Y0];exact c lo p _
def k0K {d:Int}(a:0<=d)(h1:d<=400):∀(r out:List B0),a0L out->a0L (Q7 d out r)
 |[],out,h=>h
 |x :: r,out,h=>by
  simp only[Q7];split
  ·exact k0K a h1 r out h
  ·exact k0K a h1 r _ (h.app fun y b=>by simp at b;subst b;exact⟨a,h1⟩)
def i03 {t:Tm}(g:t.size<=400):∀(fs:List Fr) (lo p:Nat) (s:Tm) (st:List Int) (out:List B0),Ctx t lo s fs->a0L out->a0L (V4 lo p s st out fs).1
 |[],lo,p,s,st,out,_,k=>by simp only[V4];exact k
 |f :: fs,lo,p,s,st,out,hx,k=>by
  have e:=Ctx.size hx;have c:=hx.2;have:=s.size_pos;simp only[length_cons]at e;cases f with
  |catL b=>
   simp only[Fr.O2,Fr.off,sub_zero]at c;have h:=k0K (d:=((fs.length+1:Nat):Int)) O' O' (b.Y0 (lo+s.size) (p+s.leaves) st) out k;simp only[V4];split
   ·exact i03 g fs lo p _ _ _ c h
   ·exact h
  |star=>
   simp only[Fr.O2,Fr.off,sub_zero]at c;simp only[V4];exact i03 g fs lo p _ _ _ c (k0K O' O' _ _ k)
  |catR a|altL b|altR a|maybe|group n|iter=>
   simp only[Fr.O2,Fr.off,sub_zero]at c;simp only[V4,Fr.O2,Fr.off,Fr.W9,sub_zero];exact i03 g fs _ _ _ _ _ c k
end Go.Proofs.YtihmgaccbcfgjaaGreat.Old
namespace Go.Proofs.YtihmgaccbcfgjaaGreat.Old
open Go.V Go.RowKit
def u0c {s:List Int}(h:s.length<=500000):(Z8 s).1.Steps.length<=500000:=by
 unfold Z8;split<;>simp[h]
def Tm.m0q (s:Tm):∀(lo p:Nat) (ahead:List Int),(∀h∈s.Y0 lo p ahead,(p:Int)<=h.To/\h.To<((p+s.leaves:Nat):Int))/\(s.Y0 lo p ahead).Pairwise fun a b=>a.To<b.To:=by
 induction s with
 |eps=>intro lo p ahead;simp[Tm.Y0]
 |leaf s=>intro lo p ahead;simp[Tm.Y0,Tm.leaves];omega
 |cat a b c ihb=>
  intro lo p ahead;simp only[Tm.Y0,Tm.leaves];obtain⟨h1,e⟩:=c lo p (ahead++[E1 (Tm.top (.cat a b) lo)]);split
  ·refine⟨fun h d=>?_,List.pairwise_append.2 ⟨e,(ihb _ _ _).2,fun x f y g=>?_⟩⟩
   ·rcases mem_append.1 d with d|d
    ·have:=h1 h d;omega
    ·have:=(ihb _ _ _).1 h d;omega
   ·have:=h1 x f;have:=(ihb _ _ _).1 y g;omega
  ·simp only[List.append_nil];exact⟨fun h d=>by have:=h1 h d;omega,e⟩
 |alt a b c ihb=>
  intro lo p ahead;simp only[Tm.Y0,Tm.leaves];obtain⟨h1,e⟩:=c lo p (ahead++[E1 (Tm.top (.alt a b) lo)]);obtain⟨i,j⟩:=ihb (lo+a.size) (p+a.leaves) (ahead++[E1 (Tm.top (.alt a b) lo)]);refine⟨fun h d=>?_,List.pairwise_append.2 ⟨e,j,fun x f y g=>?_⟩⟩
  ·rcases mem_append.1 d with d|d
   ·have:=h1 h d;omega
   ·have:=i h d;omega
  ·have:=h1 x f;have:=i y g;omega
 |star a c|maybe a c|group _ a c|iter a c=>
  intro lo p ahead;simp only[Tm.Y0,Tm.leaves];exact c lo p _
def D0O {l:List C0}{t:Tm}(c:I4 l t):K8 t.leaves (t.Y0 0 0 []):=by
 have b:=c.le;have d:=c.len;exact⟨fun h a=>⟨(by have:=(t.m0q 0 0 []).1 h a;omega),(by have:=(t.m0q 0 0 []).1 h a;omega),(t.j0U 0 0 [] O' Z' h a).2.2⟩,(t.m0q 0 0 []).2.imp fun h=>O'⟩
def E0r {n:Nat}{out:List B0}(h:K8 n out):K8 n (F7 B0.To out):=by
 refine⟨fun x c=>h.ok x ((c0T B0.To _).mem_iff.1 c),?_⟩;have hp:=c0T B0.To out;exact hp.symm.pairwise_iff (R:=fun a b:B0=>a.To≠b.To) (fun h=>h.symm) |>.1 h.dist
structure r0T (l:List C0)(n:Nat)(a:List B0)(b:Nat->List B0)(e:Nat->B0×Bool)(z:B0×Bool):Prop where
 n64:n<=400
 aw:K8 n a
 bw:∀p,p<n->K8 n (b p)
 el:∀p,p<n->(e p).1.Steps.length<=500000
 zl:z.1.Steps.length<=500000
 e0:∀p,p<n->(e p).2=decide ((e p).1.Steps≠[])
 z0:z.2=decide (z.1.Steps≠[])
 ab:p9 800 a
 bb:∀p,p<n->p9 800 (b p)
 eb:∀p,p<n->N2 800 (e p).1.Steps
 zb:N2 800 z.1.Steps
 al:a.length<=500000
 aT:a0L a
 bT:∀p,p<n->a0L (b p)
 bl:∀p,p<n->(b p).length<=500000
def t00 {B:Int}{s:List Int}(h:N2 B s):N2 B (Z8 s).1.Steps:=by
 unfold Z8;split
 ·exact N2.nil
 ·exact h
def s07 {l:List C0}{t:Tm}(c:I4 l t){p q:Nat}{S:List Int}{fs:List Fr}(hp:d0u l t p q S fs):p9 800 (r8 t p q S fs).1/\N2 800 (r8 t p q S fs).2.1:=by
 have b:=c.le;have a:=Ctx.lo_le hp.ctx;simp only[Tm.size]at a;exact k03 O' fs q p _ _ _ hp.ctx (N2.cls O') (fun _ h=>by cases h)
end Go.Proofs.YtihmgaccbcfgjaaGreat.Old
namespace Go.Proofs.YtihmgaccbcfgjaaGreat
open Go.V Go.RowKit Old
def o0h (s:List Int):(Z8 s).2=decide ((Z8 s).1.Steps≠[]):=by
 unfold Z8;split
 ·simp
 ·rename_i h;simp;intro e;exact h (by simp[e])
structure v0h (l:List C0)(n:Nat)(a:List B0)(b:Nat->List B0)(e:Nat->B0×Bool)(z:B0×Bool)(F:Nat):Prop where
 mR:l6 F l=some true
 rR:U6 F l=some true
 mL:C7 F l=some (G2 l l.length)
 mA:c0h F l ((l.length:Int)-1)=some a
 mZ:G9 F l (-1)=some z
 mB:∀p:Nat,p<n->b0M F l (p:Int)=some (b p)
 mE:∀p:Nat,p<n->G9 F l (p:Int)=some (e p)
def s9 {α:Type}{o n:Option α}(h:Ref o n Eq){x:α}(e:o=some x):n=some x:=by
 obtain⟨y,h1,a⟩:=h.run x e;rw[h1,a]
def q0E {l:List C0}(hw:∀x∈l,P2 x)(hl:l.length*64<=140737488351232)(hR:L2 l=true):∃a b e z,r0T l (N0 l l.length) a b e z/\∀F,1000001<F->l.length+1<F->v0h l (N0 l l.length) a b e z F:=by
 obtain⟨t,d⟩:=a0N hw hR;have m:=d.le;have r:=d.len;have hn:t.leaves=N0 l l.length:=by
  have h:=a0R d.at0;rw[Nat.zero_add,<-r]at h;rw[h];simp[N0]
 have f:∀p:Nat,∃x:List B0×(B0×Bool),p<N0 l l.length->(K8 (N0 l l.length) x.1/\x.2.1.Steps.length<=500000/\x.2.2=decide (x.2.1.Steps≠[])/\p9 800 x.1/\N2 800 x.2.1.Steps/\x.1.length<=500000/\a0L x.1/\
   ∀F,1000001<F->l.length+1<F->b0M F l (p:Int)=some x.1/\G9 F l (p:Int)=some x.2):=by
  intro p
  by_cases hp:p<N0 l l.length
  ·obtain⟨q,S,fs,c⟩:=A0R d hp;obtain⟨j,hlen⟩:=s0l d c;refine⟨(F7 B0.To (r8 t p q S fs).1,Z8 (if(r8 t p q S fs).2.2 then(r8 t p q S fs).2.1 else[])),fun _=>⟨?_,?_,o0h _,fun h n=>(s07 d c).1 h ((c0T B0.To _).mem_iff.1 n),t00 ?_,by rw[e0c];exact q03 d c,fun h n=>i03 m fs _ _ _ _ _ c.ctx (fun _ h=>by cases h) h ((c0T B0.To _).mem_iff.1 n),fun F i g=>⟨?_,?_⟩⟩⟩
   ·rw[<-hn];exact E0r j
   ·refine u0c ?_;split
    ·exact hlen
    ·simp
   ·split
    ·exact(s07 d c).2
    ·exact N2.nil
   ·exact s9 x0g (Old.D04 hw d hR i c hp)
   ·exact s9 n0P (Old.A0e hw d hR i c hp)
  ·exact⟨([],(⟨0,0,[]⟩,false)),fun h=>absurd h hp⟩
 have v:=t.j9 0;refine⟨t.Y0 0 0 [],fun p=>(Classical.choose (f p)).1,fun p=>(Classical.choose (f p)).2,Z8 (if t.can then t.steps 0 else[]),⟨?_,?_,?_,?_,?_,?_,?_,?_,?_,?_,?_,?_,?_,?_,?_⟩,fun F i g=>?_⟩
 ·have:=d0H l l.length;omega
 ·rw[<-hn];exact D0O d
 ·intro p hp;exact(Classical.choose_spec (f p) hp).1
 ·intro p hp;exact(Classical.choose_spec (f p) hp).2.1
 ·refine u0c ?_;split
  ·omega
  ·simp
 ·intro p hp;exact(Classical.choose_spec (f p) hp).2.2.1
 ·exact o0h _
 ·exact t.n03 0 0 [] 800 O' N2.nil
 ·intro p hp;exact(Classical.choose_spec (f p) hp).2.2.2.1
 ·intro p hp;exact(Classical.choose_spec (f p) hp).2.2.2.2.1
 ·refine t00 ?_;split
  ·exact t.n0O 0 800 O'
  ·exact N2.nil
 ·have:=t.b0c 0 0 [];have:=t.b0r;omega
 ·exact t.x0m 0 0 []
 ·intro p hp;exact(Classical.choose_spec (f p) hp).2.2.2.2.2.2.1
 ·intro p hp;exact(Classical.choose_spec (f p) hp).2.2.2.2.2.1
 ·have o:b0k l=G2 l l.length:=by simp[b0k,hR]
  obtain⟨h1,w⟩:=Old.u0E hw d hR i;obtain⟨s,u⟩:=Old.A0f hw d hR i d.at0;have k:((t.top 0:Nat):Int)=(l.length:Int)-1:=by have:=t.size_pos;unfold Tm.top;omega
  rw[k]at s u;exact⟨s9 i0m (by rw[Old.c0y l O',hR]),s9 o01 (by rw[Old.e02 l hl g,hR]),s9 u0l (by rw[Old.l07 hw O',o]),s9 B0J s,s9 n0P h1,
   fun p hp=>((Classical.choose_spec (f p) hp).2.2.2.2.2.2.2 F i g).1,fun p hp=>((Classical.choose_spec (f p) hp).2.2.2.2.2.2.2 F i g).2⟩
end Go.Proofs.YtihmgaccbcfgjaaGreat
