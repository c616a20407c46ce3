/- P. Its conditions: none. -/
import Derived.Test.YtihmgaccbcfgjaaGreatRG35
open Nat (lt_or_ge zero_le sub_zero)
open List (mem_append mem_singleton append_nil take_succ ext_getElem getElem_set getElem_map getElem_range)
open Bool (false_eq_true)
set_option linter.all false
namespace Go.Proofs.YtihmgaccbcfgjaaGreat.Old
open Go.V Go.RowKit
theorem Ctx.down {t:Tm}:∀{s:Tm} {lo:Nat} {fs:List Fr},Ctx t lo s fs->∀i,lo<=i->i<lo+s.size->∃lo' g f,Ctx t lo' g f/\g.top lo'=i:=by
 intro s
 induction s with
 |eps=>grind [Tm.top,Tm.size]
 |leaf s=>grind [Tm.top,Tm.size]
 |cat a b iha ihb=>
  intro lo fs h i h1 d;rcases lt_or_ge i (lo+a.size)with c|c
  ·exact iha (fs:=.catL b :: fs) ⟨zero_le _,h⟩ i h1 c
  ·rcases lt_or_ge i (lo+a.size+b.size)with c2|c2
   ·exact ihb (lo:=lo+a.size) (fs:=.catR a :: fs) ⟨by simp[Fr.off],by simp_all[Fr.off,Fr.O2]⟩ i c c2
   grind [Tm.top,Tm.size]
 |alt a b iha ihb=>
  intro lo fs h i h1 d;rcases lt_or_ge i (lo+a.size)with c|c
  ·exact iha (fs:=.altL b :: fs) ⟨zero_le _,h⟩ i h1 c
  ·rcases lt_or_ge i (lo+a.size+b.size)with c2|c2
   ·exact ihb (lo:=lo+a.size) (fs:=.altR a :: fs) ⟨by simp[Fr.off],by simp_all[Fr.off,Fr.O2]⟩ i c c2
   grind [Tm.top,Tm.size]
 |star a iha=>
  intro lo fs h i h1 d;rcases lt_or_ge i (lo+a.size)with c|c
  ·exact iha (fs:=.star :: fs) ⟨zero_le _,h⟩ i h1 c
  grind [Tm.top,Tm.size]
 |maybe a iha=>
  intro lo fs h i h1 d;rcases lt_or_ge i (lo+a.size)with c|c
  ·exact iha (fs:=.maybe :: fs) ⟨zero_le _,h⟩ i h1 c
  grind [Tm.top,Tm.size]
 |group n a iha=>
  intro lo fs h i h1 d;rcases lt_or_ge i (lo+a.size)with c|c
  ·exact iha (fs:=.group n :: fs) ⟨zero_le _,h⟩ i h1 c
  grind [Tm.top,Tm.size]
 |iter a iha=>
  intro lo fs h i h1 d;simp only[Tm.size]at d;rcases lt_or_ge i (lo+a.size)with c|c
  ·exact iha (fs:=.iter :: fs) ⟨zero_le _,h⟩ i h1 c
  grind [Tm.top,Tm.size]
def Ctx.at_ {l:List C0}{t:Tm}(c:I4 l t):∀{fs:List Fr} {lo:Nat} {s:Tm},Ctx t lo s fs->At l lo s
 |[],lo,s,⟨h1,d⟩=>by subst h1;subst d;exact c.at0
 |f :: fs,lo,s,⟨ho,h⟩=>by
  have h1:=Ctx.at_ c h;cases f<;>simp only[Fr.O2,Fr.off,sub_zero]at h1 ho
  case catL b=>exact((At.bin rfl rfl).1 h1).1
  case altL b=>exact((At.bin rfl rfl).1 h1).1
  case catR a=>
   have:=((At.bin rfl rfl).1 h1).2.1
   simp_all
  case altR a=>
   have:=((At.bin rfl rfl).1 h1).2.1
   simp_all
  all_goals exact((At.un rfl rfl).1 h1).1
structure d0u (l:List C0)(t:Tm)(p q:Nat)(S:List Int)(fs:List Fr):Prop where
 ctx:Ctx t q (.leaf S) fs
 num:N0 l q=p
 get:(G2 l l.length)[p]?=some (q:Int)
def A0R {l:List C0}{t:Tm}(d:I4 l t){p:Nat}(hp:p<N0 l l.length):∃q S fs,d0u l t p q S fs:=by
 obtain⟨q,h1,h,i,g⟩:=e05 l l.length p hp;obtain⟨lo,s,fs,f,hs⟩:=Ctx.down (t:=t) (s:=t) (lo:=0) (fs:=[]) ⟨rfl,rfl⟩ q (zero_le _) (by rw[d.len]at h1;omega);have c:=f.at_ d;have hg:=c.N3;cases s with
 |leaf S=>
  subst hs;exact⟨lo,S,fs,f,g,h⟩
 |_=>simp_all[Tm.node]
def z0z {l:List C0}{t:Tm}(c:I4 l t):N0 l l.length=t.leaves:=by
 have:=a0R c.at0;rw[Nat.zero_add,<-c.len]at this
 simp_all[N0]
def s0n (n:Nat)(h:B0):Prop:=0<=h.To/\h.To<n/\h.Steps.length<=2000000
theorem Tm.j0U (s:Tm):∀(lo p:Nat) (ahead:List Int),s.size<=400->ahead.length+1000*s.size<=2000000->∀h∈s.Y0 lo p ahead,(p:Int)<=h.To/\h.To<((p+s.leaves:Nat):Int)/\h.Steps.length<=2000000:=by
 induction s with
 |eps=>simp[Tm.Y0]
 |leaf s=>grind [Tm.Y0,Tm.leaves,Tm.size]
 |cat a b c ihb=>
  intro lo p ahead hs ho h d;have f:=a.j9 lo
  grind [Tm.Y0,Tm.size,Tm.leaves]
 |alt a b c ihb=>
  grind [Tm.Y0,Tm.size,Tm.leaves]
 |star a c|maybe a c|group _ a c|iter a c=>
  grind [Tm.Y0,Tm.size,Tm.leaves]
structure K8 (n:Nat)(out:List B0):Prop where
 ok:∀h∈out,s0n n h
 dist:out.Pairwise fun a b=>a.To≠b.To
theorem p0E {n:Nat}(d:Int):∀(r out:List B0),K8 n out->(∀h∈r,s0n n h)->K8 n (Q7 d out r)
 |[],out,h,_=>h
 |x :: r,out,h,hr=>by
  refine p0E d r _ ?_ (fun y c=>hr y (by grind));split
  ·exact h
  ·have f:=hr x Z';refine⟨fun y c=>?_,?_⟩
   ·rcases mem_append.1 c with c|c
    ·exact h.ok y c
    ·simp only[mem_singleton]at c;subst c;exact f
   ·refine List.pairwise_append.2 ⟨h.dist,Z',fun a ha b g=>?_⟩
    simp_all
theorem c0W {l:List C0}{t:Tm}(i:I4 l t):∀(fs:List Fr) (lo:Nat) (s:Tm) (st:List Int) (out:List B0),Ctx t lo s fs->K8 t.leaves out->st.length+1000*fs.length<=500000->
  K8 t.leaves (V4 lo (N0 l lo) s st out fs).1/\(V4 lo (N0 l lo) s st out fs).2.1.length<=500000
 |[],lo,s,st,out,j,hw,hl=>⟨hw,by simp_all[V4]⟩
 |f :: fs,lo,s,st,out,j,hw,hl=>by
  have c:=j.2.at_ i;have hlen:=c.len;have p:=i.le;have q:=i.len;have d:=j00 l hlen;rw[a0R c,z0z i]at d;have g:N0 l (lo-f.off)=N0 l lo-f.W9:=by
   cases f<;>simp only[Fr.O2,Fr.off,Fr.W9,sub_zero]at c ⊢
   case catR a=>
    have m:=j.1;simp only[Fr.off]at m;have:=a0R ((At.bin rfl rfl).1 c).1
    simp_all
   case altR a=>
    have m:=j.1;simp only[Fr.off]at m;have:=a0R ((At.bin rfl rfl).1 c).1
    simp_all
  cases f with
  |catL b=>
   simp only[Fr.O2,Fr.off,sub_zero,Tm.leaves,Tm.size]at c d hlen;have r:=b.j9 (lo+s.size);have k:=p0E (n:=t.leaves) ((fs.length+1:Nat):Int) (b.Y0 (lo+s.size) (N0 l lo+s.leaves) st) out hw (fun h o=>by
    have:=b.j0U (lo+s.size) (N0 l lo+s.leaves) st O' O' h o;exact⟨O',O',this.2.2⟩)
   simp only[V4];split
   ·exact c0W i fs lo (.cat s b) _ _ j.2 k (by grind)
   simp_all
  |star=>
   simp only[Fr.O2,Fr.off,sub_zero,Tm.leaves,Tm.size]at c d hlen;have k:=p0E (n:=t.leaves) ((fs.length+1:Nat):Int) (s.Y0 lo (N0 l lo) st) out hw (fun h o=>by
    have:=s.j0U lo (N0 l lo) st O' O' h o;exact⟨O',O',this.2.2⟩)
   simp only[V4];exact c0W i fs lo (.star s) _ _ j.2 k (by grind)
  |catR a=>
   have:=c0W i fs (lo-(Fr.catR a).off) ((Fr.catR a).O2 s) (st++[cls (((Fr.catR a).O2 s).top (lo-(Fr.catR a).off))]) out j.2 hw (by grind);rw[g]at this;exact this
  |altR a=>
   have:=c0W i fs (lo-(Fr.altR a).off) ((Fr.altR a).O2 s) (st++[cls (((Fr.altR a).O2 s).top (lo-(Fr.altR a).off))]) out j.2 hw (by grind);rw[g]at this;exact this
  |altL b=>
   have:=c0W i fs (lo-(Fr.altL b).off) ((Fr.altL b).O2 s) (st++[cls (((Fr.altL b).O2 s).top (lo-(Fr.altL b).off))]) out j.2 hw (by grind);rw[g]at this;exact this
  |maybe=>
   have:=c0W i fs (lo-Fr.maybe.off) (Fr.maybe.O2 s) (st++[cls ((Fr.maybe.O2 s).top (lo-Fr.maybe.off))]) out j.2 hw (by grind);rw[g]at this;exact this
  |group n=>
   have:=c0W i fs (lo-(Fr.group n).off) ((Fr.group n).O2 s) (st++[cls (((Fr.group n).O2 s).top (lo-(Fr.group n).off))]) out j.2 hw (by grind);rw[g]at this;exact this
  |iter=>
   have:=c0W i fs (lo-Fr.iter.off) (Fr.iter.O2 s) (st++[cls ((Fr.iter.O2 s).top (lo-Fr.iter.off))]) out j.2 hw (by grind);rw[g]at this;exact this
def K8.b0v {n:Nat}{out:List B0}(h:K8 n out)(hn:n<=1000)(hl:out.length<=1000000):b0v B0.To out=true:=by
 simp only[Go.V.b0v,Bool.and_eq_true,List.all_eq_true,decide_eq_true_eq];refine⟨⟨O',fun x c=>?_⟩,(h04 _ _).2 h.dist⟩;have:=h.ok x c;exact⟨this.1,by have:=this.2.1;omega⟩
def x03 {α:Type}(z:α)(ys:List α):j4 (List.replicate ys.length z) ys=ys:=by
 simp[j4]
def s09 {fuel:Nat}(out:List B0)(hl:out.length<=1000000)(g:out.length<fuel)(hs:∀h∈out,h.Steps.length<=2000000):a01 fuel out=some out:=by
 have key:=H3 (step:=m0I fuel out) (fun i=>((i:Int),out)) out out.length (fun i hi=>.inl (by
  have f:y0 out (i:Int)=true:=V0 O' O';have c:(i:Int)<(out.length:Int):=O'
  have hg:gt out (i:Int)=out[i]:=X2 (by simp[hi]);have h1:=hs out[i] (List.getElem_mem _);have d:R2 8 (out[i].Steps.length:Int)=true:=by simp[R2];omega
  unfold m0I;simp only[c,decide_true,if_true,f,hg,d,Int.toNat_natCast,x03,X1 (show i<9223372036854775807 from O')];rw[show(⟨out[i].To,out[i].Turn,out[i].Steps⟩:B0)=out[i]from rfl];simp)) (by unfold m0I;simp) out.length 0 fuel O' O'
 unfold a01;rw[show(0:Int)=((0:Nat):Int)from rfl,key];rfl
def r8 (t:Tm)(p q:Nat)(S:List Int)(fs:List Fr):List B0×List Int×Bool:=V4 q p (.leaf S) [cls q] [] fs
def w0k {l:List C0}(hw:∀x∈l,P2 x){t:Tm}(g:I4 l t)(hR:L2 l=true){fuel:Nat}(f:401<fuel):∃c,b0b fuel l=some (.inr c,true)/\h0E c l t:=by
 obtain⟨u,h,hu⟩:=p0m g hR f;obtain⟨d,i,hd⟩:=k0n g hR f;refine⟨⟨l,u,d,B7 l l.length,M8 l⟩,?_,⟨rfl,hu,hd,rfl,rfl⟩⟩;unfold b0b;rw[c0y l f,h,i,F0k hw f,n0E hw f];simp[hR,e0m]
def s0t {l:List C0}(hw:∀x∈l,P2 x){t:Tm}(h:I4 l t)(hR:L2 l=true){fuel:Nat}(g:401<fuel){p q:Nat}{S:List Int}{fs:List Fr}(hp:d0u l t p q S fs)(i:p<N0 l l.length):
  ∃c,b0n fuel l (p:Int)=some (.inr c,(q:Int),true)/\h0E c l t:=by
 obtain⟨c,e,j⟩:=w0k hw h hR g;refine⟨c,?_,j⟩;have d:b0k l=G2 l l.length:=by simp[b0k,hR]
 have k:¬((p:Int)<0):=O'
 have h1:¬((p:Int)>=((G2 l l.length).length:Int)):=by rw[K9];omega
 have f:y0 (G2 l l.length) (p:Int)=true:=V0 O' (by rw[K9];omega);unfold b0n;rw[e,l07 hw g,d];simp[k,h1,f,X2 hp.get];omega
def u0Q {l:List C0}(hw:∀x∈l,P2 x){t:Tm}(f:I4 l t)(hR:L2 l=true){c:L4}(k:h0E c l t){fuel:Nat}(o:1000001<fuel){p q:Nat}{S:List Int}{fs:List Fr}(hp:d0u l t p q S fs):
  a08 fuel c (q:Int)=some ((r8 t p q S fs).1,if(r8 t p q S fs).2.2 then(r8 t p q S fs).2.1 else[]):=by
 have i:=f.le;have m:=f.len;have d:=hp.ctx.size;have h:=hp.ctx.at_ f;have s:q<l.length:=by have:=h.len;simp only[Tm.size]at this;omega
 have g:y0 c.up (q:Int)=true:=V0 O' (by rw[k.up.len];omega);obtain⟨r,h1,j⟩:=E0E hw f hR k o fs q (.leaf S) [cls q] [] hp.ctx (by simp;simp only[Tm.size]at d;omega) (by simp;simp only[Tm.size]at d;omega) fuel (by simp only[Tm.size]at d;omega);unfold a08;rw[hp.num]at j;simp only[Tm.top,Tm.size,Nat.add_sub_cancel]at h1;simp only[g,if_true,o7 (show q<=1000000000 from O'),a0h (show q<=1000000000 from O'),h1,G0];unfold r8;rw[<-j];cases r with
 |inl y=>rfl
 |inr z=>obtain⟨u,z2⟩:=z;rfl
theorem s0l {l:List C0}{t:Tm}(c:I4 l t){p q:Nat}{S:List Int}{fs:List Fr}(hp:d0u l t p q S fs):K8 t.leaves (r8 t p q S fs).1/\(r8 t p q S fs).2.1.length<=500000:=by
 have f:=hp.ctx.size;have d:=c.le;have:=c0W c fs q (.leaf S) [cls q] [] hp.ctx ⟨Z',List.Pairwise.nil⟩ (by grind);rw[hp.num]at this;exact this
theorem c01 {l:List C0}{t:Tm}(c:I4 l t):∀(fs:List Fr) (lo p:Nat) (s:Tm) (st:List Int) (out:List B0),Ctx t lo s fs->out.length+1000*fs.length<=500000->(V4 lo p s st out fs).1.length<=500000
 |[],lo,p,s,st,out,d,hl=>by simp_all[V4]
 |f :: fs,lo,p,s,st,out,d,hl=>by
  have g:=d.2.at_ c;have hlen:=g.len;have h:=c.le;have i:=c.len;simp only[List.length_cons]at hl;cases f with
  |catL b=>
   simp only[Fr.O2,Fr.off,sub_zero,Tm.size]at hlen;have h1:=f0U ((fs.length+1:Nat):Int) (b.Y0 (lo+s.size) (p+s.leaves) st) out;have k:=b.b0c (lo+s.size) (p+s.leaves) st;have j:=b.b0r;simp only[V4];split
   ·exact c01 c fs lo p (.cat s b) _ _ d.2 O'
   grind
  |star=>
   simp only[Fr.O2,Fr.off,sub_zero,Tm.size]at hlen;have h1:=f0U ((fs.length+1:Nat):Int) (s.Y0 lo p st) out;have k:=s.b0c lo p st;have j:=s.b0r;exact c01 c fs lo p (.star s) _ _ d.2 O'
  |catR a=>exact c01 c fs (lo-(Fr.catR a).off) (p-(Fr.catR a).W9) ((Fr.catR a).O2 s) _ out d.2 O'
  |altR a=>exact c01 c fs (lo-(Fr.altR a).off) (p-(Fr.altR a).W9) ((Fr.altR a).O2 s) _ out d.2 O'
  |altL b=>exact c01 c fs (lo-(Fr.altL b).off) (p-(Fr.altL b).W9) ((Fr.altL b).O2 s) _ out d.2 O'
  |maybe=>exact c01 c fs (lo-Fr.maybe.off) (p-Fr.maybe.W9) (Fr.maybe.O2 s) _ out d.2 O'
  |group n=>exact c01 c fs (lo-(Fr.group n).off) (p-(Fr.group n).W9) ((Fr.group n).O2 s) _ out d.2 O'
  |iter=>exact c01 c fs (lo-Fr.iter.off) (p-Fr.iter.W9) (Fr.iter.O2 s) _ out d.2 O'
theorem q03 {l:List C0}{t:Tm}(c:I4 l t){p q:Nat}{S:List Int}{fs:List Fr}(hp:d0u l t p q S fs):(r8 t p q S fs).1.length<=500000:=by
 have f:=hp.ctx.size;have d:=c.le;exact c01 c fs q p (.leaf S) [cls q] [] hp.ctx (by grind)
def D04 {l:List C0}(hw:∀x∈l,P2 x){t:Tm}(g:I4 l t)(hR:L2 l=true){fuel:Nat}(k:1000001<fuel){p q:Nat}{S:List Int}{fs:List Fr}(hp:d0u l t p q S fs)(j:p<N0 l l.length):
  b0M fuel l (p:Int)=some (F7 B0.To (r8 t p q S fs).1):=by
 obtain⟨c,e,o⟩:=s0t hw g hR (show 401<fuel from O') hp j;obtain⟨d,_⟩:=s0l g hp;have hl:=q03 g hp;have m:=g.lv;unfold b0M;rw[e];have i:n0N fuel (r8 t p q S fs).1=some (F7 B0.To (r8 t p q S fs).1):=if_pos (d.b0v O' O');simp only[q0,u0Q hw g hR o k hp,i];have f:=c0T B0.To (r8 t p q S fs).1;rw[s09 _ (by rw[e0c];omega) (by rw[e0c];omega) (fun h r=>(d.ok h (f.mem_iff.1 r)).2.2)];simp
def Z8 (s:List Int):B0×Bool:=if s.length=0 then(⟨0,0,[]⟩,false)else(⟨-1,0,s⟩,true)
theorem A0e {l:List C0}(hw:∀x∈l,P2 x){t:Tm}(f:I4 l t)(hR:L2 l=true){fuel:Nat}(h:1000001<fuel){p q:Nat}{S:List Int}{fs:List Fr}(hp:d0u l t p q S fs)(d:p<N0 l l.length):
  G9 fuel l (p:Int)=some (Z8 (if(r8 t p q S fs).2.2 then(r8 t p q S fs).2.1 else[])):=by
 obtain⟨c,e,g⟩:=s0t hw f hR (show 401<fuel from O') hp d;have h1:((p:Int)==-1)=false:=Z'
 unfold G9 Z8;simp only[q0,h1,e,u0Q hw f hR g h hp]
 grind
theorem u0E {l:List C0}(hw:∀x∈l,P2 x){t:Tm}(c:I4 l t)(hR:L2 l=true){fuel:Nat}(j:1000001<fuel):G9 fuel l (-1)=some (Z8 (if t.can then t.steps 0 else[]))/\o0E fuel l (-1)=some (Z8 (if t.can then t.steps 0 else[])):=by
 have f:=c.le;have h:=c.len;have hp:=t.size_pos;have g:W ((l.length:Int)-1)=(t.top 0:Int):=by grind [E3,Tm.top]
 have d:b0k l=G2 l l.length:=by simp[b0k,hR]
 have i:¬((-1:Int)>=((G2 l l.length).length:Int)):=O'
 constructor
 ·unfold G9 Z8;simp only[beq_self_eq_true,if_true,g,p0O hw c hR (show 401<fuel from O') c.at0,G0]
  grind
 ·unfold o0E Z8;simp only[q0,show ¬((-1:Int) < -1)from O',e02 l (show l.length*64<=140737488351232 from O') (show l.length+1<fuel from O'),hR,y0w hw (show l.length*64<=140737488351232 from O') (show 401<fuel from O') O',d,i,beq_self_eq_true,g,H0F hw c hR (show 401<fuel from O') c.at0]
  grind
theorem A0f {l:List C0}(hw:∀x∈l,P2 x){t:Tm}(d:I4 l t)(hR:L2 l=true){fuel:Nat}(v:1000001<fuel){lo:Nat}{s:Tm}(h:At l lo s):c0h fuel l (s.top lo:Int)=some (s.Y0 lo (N0 l lo) [])/\n0z fuel l (s.top lo:Int)=some (s.Y0 lo (N0 l lo) []):=by
 have i:=d.le;have k:=d.len;have g:=h.V6;have m:=h.len;have j:¬((s.top lo:Int)<0):=O'
 have h1:¬((s.top lo:Int)>=(l.length:Int)):=O'
 have o:=s.b0c lo (N0 l lo) [];have u:=s.b0r;constructor
 ·obtain⟨c,e,q⟩:=w0k hw d hR (show 401<fuel from O');unfold c0h;rw[e];simp only[Bool.not_true,false_eq_true,if_false,j,decide_false,h1,G0,p02 hw d hR q (show 401<fuel from O') s lo h fuel [] [] O' (by grind) (by grind),List.nil_append];rw[s09 _ O' O' (fun p r=>(s.j0U lo (N0 l lo) [] O' (by grind) p r).2.2)];rfl
 ·unfold n0z;have f:e0m l=B7 l l.length:=by simp[e0m,hR]
  rw[e02 l (show l.length*64<=140737488351232 from O') (show l.length+1<fuel from O'),hR];simp only[Bool.not_true,false_eq_true,if_false,j,decide_false,h1,G0,C0Y hw (show l.length*64<=140737488351232 from O') (show 401<fuel from O') O',t0D hw (show l.length*64<=140737488351232 from O') (show 401<fuel from O') O',f,H0Z d hR (show 401<fuel from O') s lo h fuel [] O' (by grind)]
def N2 (B:Int)(st:List Int):Prop:=∀x∈st,0<=x/\x<=B
def N2.app {B:Int}{a b:List Int}(h:N2 B a)(k:N2 B b):N2 B (a++b):=fun x c=>(mem_append.1 c).elim (h x) (k x)
def N2.one {B x:Int}(d:0<=x)(h:x<=B):N2 B [x]:=fun y c=>by simp at c;subst c;exact⟨d,h⟩
def N2.nil {B:Int}:N2 B []:=fun _ h=>by cases h
theorem N2.E1 {B:Int}{q:Nat}(h:2*(q:Int)+1<=B):N2 B [E1 q]:=N2.one (by unfold Old.E1;omega) (by unfold Old.E1;omega)
def N2.cls {B:Int}{q:Nat}(h:2*(q:Int)+1<=B):N2 B [cls q]:=N2.one (by unfold Old.cls;omega) (by unfold Old.cls;omega)
def N2.two {B:Int}{q:Nat}(h:2*(q:Int)+1<=B):N2 B [Old.E1 q,Old.cls q]:=N2.app (N2.E1 h) (N2.cls h)
def Tm.n0O (t:Tm):∀(lo:Nat) (B:Int),2*((lo+t.size:Nat):Int)<=B->N2 B (t.steps lo):=by
 induction t with
 |eps=>intro lo B h;simp only[Tm.size]at h;simp only[Tm.steps];exact N2.two O'
 |leaf s=>intro lo B h;simp only[Tm.size]at h;simp only[Tm.steps];exact N2.two O'
 |cat a b c ihb=>
  intro lo B h;simp only[Tm.size]at h;simp only[Tm.steps];have d:2*((Tm.top (.cat a b) lo:Nat):Int)+1<=B:=by simp only[Tm.top,Tm.size];omega
  exact((N2.E1 d).app ((c lo B O').app (ihb (lo+a.size) B O'))).app (N2.cls d)
 |alt a b c ihb=>
  intro lo B h;simp only[Tm.size]at h;simp only[Tm.steps];have d:2*((Tm.top (.alt a b) lo:Nat):Int)+1<=B:=by simp only[Tm.top,Tm.size];omega
  refine((N2.E1 d).app ?_).app (N2.cls d);split
  ·exact c lo B O'
  ·exact ihb (lo+a.size) B O'
 |star a c=>intro lo B h;simp only[Tm.size]at h;simp only[Tm.steps];exact N2.two N'
 |maybe a c=>intro lo B h;simp only[Tm.size]at h;simp only[Tm.steps];exact N2.two N'
 |group n a c=>
  intro lo B h;simp only[Tm.size]at h;simp only[Tm.steps];have d:2*((Tm.top (.group n a) lo:Nat):Int)+1<=B:=by simp only[Tm.top,Tm.size];omega
  exact((N2.E1 d).app (c lo B O')).app (N2.cls d)
 |iter a c=>
  intro lo B h;simp only[Tm.size]at h;simp only[Tm.steps];have d:2*((Tm.top (.iter a) lo:Nat):Int)+1<=B:=by simp only[Tm.top,Tm.size];omega
  exact((N2.E1 d).app (c lo B O')).app (N2.cls d)
def p9 (B:Int)(l:List B0):Prop:=∀h∈l,N2 B h.Steps
def p9.app {B:Int}{a b:List B0}(h:p9 B a)(k:p9 B b):p9 B (a++b):=fun x c=>(mem_append.1 c).elim (h x) (k x)
def Tm.n03 (t:Tm):∀(lo p:Nat) (ahead:List Int) (B:Int),2*((lo+t.size:Nat):Int)<=B->N2 B ahead->p9 B (t.Y0 lo p ahead):=by
 induction t with
 |eps=>intro lo p ahead B h k x d;simp[Tm.Y0]at d
 |leaf s=>intro lo p ahead B h k x d;simp only[Tm.size]at h;simp only[Tm.Y0,mem_singleton]at d;subst d;exact k.app (N2.E1 O')
 |cat a b c ihb=>
  intro lo p ahead B h k;simp only[Tm.size]at h;simp only[Tm.Y0];have g:2*((Tm.top (.cat a b) lo:Nat):Int)+1<=B:=by simp only[Tm.top,Tm.size];omega
  have f:=k.app (N2.E1 g);refine(c lo p _ B O' f).app ?_;split
  ·exact ihb _ _ _ B O' (f.app (a.n0O lo B O'))
  ·intro x d;cases d
 |alt a b c ihb=>
  intro lo p ahead B h k;simp only[Tm.size]at h;simp only[Tm.Y0];have g:2*((Tm.top (.alt a b) lo:Nat):Int)+1<=B:=by simp only[Tm.top,Tm.size];omega
  have f:=k.app (N2.E1 g);exact(c lo p _ B O' f).app (ihb _ _ _ B O' f)
 |star a c|maybe a c|group n a c|iter a c=>
  intro lo p ahead B h k;simp only[Tm.size]at h;simp only[Tm.Y0];exact c lo p _ B O' (k.app (N2.E1 N'))
def j01 {B:Int}(d:Int):∀(r out:List B0),p9 B out->p9 B r->p9 B (Q7 d out r)
 |[],out,h,_=>h
 |x :: r,out,h,k=>by
  simp only[Q7];have f:p9 B r:=fun y c=>k y (List.mem_cons_of_mem _ c);split
  ·exact j01 d r out h f
  ·exact j01 d r _ (h.app fun y c=>by simp at c;subst c;exact k x Z') f
def Ctx.lo_le {t:Tm}:∀{fs:List Fr} {lo:Nat} {s:Tm},Ctx t lo s fs->lo+s.size<=t.size
 |[],lo,s,⟨c,h⟩=>by subst h;omega
 |f :: fs,lo,s,⟨c,h⟩=>by
  have:=Ctx.lo_le h;cases f<;>simp[Fr.O2,Fr.off,Tm.size]at this c ⊢<;>omega
def k03 {t:Tm}{B:Int}(i:2*(t.size:Int)<=B):∀(fs:List Fr) (lo p:Nat) (s:Tm) (st:List Int) (out:List B0),Ctx t lo s fs->N2 B st->p9 B out->
  p9 B (V4 lo p s st out fs).1/\N2 B (V4 lo p s st out fs).2.1
 |[],lo,p,s,st,out,_,h,k=>by simp only[V4];exact⟨k,h⟩
 |f :: fs,lo,p,s,st,out,hx,h,k=>by
  have d:=Ctx.lo_le hx.2;have c:=hx.2;have g:=hx.1;cases f with
  |catL b=>
   simp only[Fr.O2,Fr.off,sub_zero,Tm.size]at d c g;have hs:=b.n0O (lo+s.size) B O';have hi:=b.n03 (lo+s.size) (p+s.leaves) st B O' h;have j:=j01 ((fs.length+1:Nat):Int) _ _ k hi;simp only[V4];split
   ·exact k03 i fs lo p _ _ _ c ((h.app hs).app (N2.cls N')) j
   ·exact⟨j,N2.nil⟩
  |star=>
   simp only[Fr.O2,Fr.off,sub_zero,Tm.size]at d c g;simp only[V4];exact k03 i fs lo p _ _ _ c (h.app (N2.cls N')) (j01 _ _ _ k (s.n03 lo p st B O' h))
  |catR a|altL b|altR a|maybe|group n|iter=>
   simp only[Fr.O2,Fr.off,sub_zero,Tm.size]at d c g;simp only[V4,Fr.O2,Fr.off,Fr.W9,sub_zero];exact k03 i fs _ _ _ _ _ c (h.app (N2.cls N')) k
def a0L (l:List B0):Prop:=∀h∈l,0<=h.Turn/\h.Turn<=400
def a0L.app {a b:List B0}(h:a0L a)(k:a0L b):a0L (a++b):=fun x c=>(mem_append.1 c).elim (h x) (k x)
def Tm.x0m (t:Tm):∀(lo p:Nat) (ahead:List Int),a0L (t.Y0 lo p ahead):=by
 induction t with
 |eps=>intro lo p ahead x f;simp[Tm.Y0]at f
 |leaf s=>intro lo p ahead x f;simp only[Tm.Y0,mem_singleton]at f;subst f;exact⟨Int.le_refl _,show(0:Int)<=400 from O'⟩
 |cat a b c d=>
  intro lo p ahead;simp only[Tm.Y0];refine(c lo p _).app ?_;split
  ·exact d _ _ _
  ·intro x f;cases f
 |alt a b c d=>intro lo p ahead;simp only[Tm.Y0];exact(c lo p _).app (d _ _ _)
 |star a c|maybe a c|group n a c|iter a c=>intro lo p ahead;simp only[Tm.Y0];exact c lo p _
def k0K {d:Int}(c:0<=d)(h1:d<=400):∀(r out:List B0),a0L out->a0L (Q7 d out r)
 |[],out,h=>h
 |x :: r,out,h=>by
  simp only[Q7];split
  ·exact k0K c h1 r out h
  ·exact k0K c h1 r _ (h.app fun y f=>by simp at f;subst f;exact⟨c,h1⟩)
def i03 {t:Tm}(i:t.size<=400):∀(fs:List Fr) (lo p:Nat) (s:Tm) (st:List Int) (out:List B0),Ctx t lo s fs->a0L out->a0L (V4 lo p s st out fs).1
 |[],lo,p,s,st,out,_,k=>by simp only[V4];exact k
 |f :: fs,lo,p,s,st,out,hx,k=>by
  have g:=Ctx.size hx;have c:=hx.2;have:=s.size_pos;simp only[List.length_cons]at g;cases f with
  |catL b=>
   simp only[Fr.O2,Fr.off,sub_zero]at c;have h:=k0K (d:=((fs.length+1:Nat):Int)) O' O' (b.Y0 (lo+s.size) (p+s.leaves) st) out k;simp only[V4];split
   ·exact i03 i fs lo p _ _ _ c h
   ·exact h
  |star=>
   simp only[Fr.O2,Fr.off,sub_zero]at c;simp only[V4];exact i03 i fs lo p _ _ _ c (k0K O' O' _ _ k)
  |catR a|altL b|altR a|maybe|group n|iter=>
   simp only[Fr.O2,Fr.off,sub_zero]at c;simp only[V4,Fr.O2,Fr.off,Fr.W9,sub_zero];exact i03 i fs _ _ _ _ _ c k
end Go.Proofs.YtihmgaccbcfgjaaGreat.Old
namespace Go.Proofs.YtihmgaccbcfgjaaGreat.Old
open Go.V Go.RowKit
def u0c {s:List Int}(h:s.length<=500000):(Z8 s).1.Steps.length<=500000:=by
 unfold Z8;split<;>simp[h]
def Tm.m0q (s:Tm):∀(lo p:Nat) (ahead:List Int),(∀h∈s.Y0 lo p ahead,(p:Int)<=h.To/\h.To<((p+s.leaves:Nat):Int))/\(s.Y0 lo p ahead).Pairwise fun a b=>a.To<b.To:=by
 induction s with
 |eps=>intro lo p ahead;simp[Tm.Y0]
 |leaf s=>intro lo p ahead;simp[Tm.Y0,Tm.leaves];omega
 |cat a b c ihb=>
  intro lo p ahead;simp only[Tm.Y0,Tm.leaves];obtain⟨h1,f⟩:=c lo p (ahead++[E1 (Tm.top (.cat a b) lo)]);split
  ·refine⟨fun h d=>?_,List.pairwise_append.2 ⟨f,(ihb _ _ _).2,fun x g y i=>?_⟩⟩
   ·rcases mem_append.1 d with d|d
    ·have:=h1 h d;omega
    ·have:=(ihb _ _ _).1 h d;omega
   ·have:=h1 x g;have:=(ihb _ _ _).1 y i;omega
  ·simp only[append_nil];exact⟨fun h d=>by have:=h1 h d;omega,f⟩
 |alt a b c ihb=>
  intro lo p ahead;simp only[Tm.Y0,Tm.leaves];obtain⟨h1,f⟩:=c lo p (ahead++[E1 (Tm.top (.alt a b) lo)]);obtain⟨j,k⟩:=ihb (lo+a.size) (p+a.leaves) (ahead++[E1 (Tm.top (.alt a b) lo)]);refine⟨fun h d=>?_,List.pairwise_append.2 ⟨f,k,fun x g y i=>?_⟩⟩
  ·rcases mem_append.1 d with d|d
   ·have:=h1 h d;omega
   ·have:=j h d;omega
  ·have:=h1 x g;have:=j y i;omega
 |star a c|maybe a c|group _ a c|iter a c=>
  intro lo p ahead;simp only[Tm.Y0,Tm.leaves];exact c lo p _
def D0O {l:List C0}{t:Tm}(f:I4 l t):K8 t.leaves (t.Y0 0 0 []):=by
 have d:=f.le;have g:=f.len;exact⟨fun h c=>⟨(by have:=(t.m0q 0 0 []).1 h c;omega),(by have:=(t.m0q 0 0 []).1 h c;omega),(t.j0U 0 0 [] O' V' h c).2.2⟩,(t.m0q 0 0 []).2.imp fun h=>O'⟩
def E0r {n:Nat}{out:List B0}(h:K8 n out):K8 n (F7 B0.To out):=by
 refine⟨fun x c=>h.ok x ((c0T B0.To _).mem_iff.1 c),?_⟩;have hp:=c0T B0.To out;exact hp.symm.pairwise_iff (R:=fun a b:B0=>a.To≠b.To) (fun h=>h.symm) |>.1 h.dist
structure r0T (l:List C0)(n:Nat)(a:List B0)(b:Nat->List B0)(e:Nat->B0×Bool)(z:B0×Bool):Prop where
 n64:n<=400
 aw:K8 n a
 bw:∀p,p<n->K8 n (b p)
 el:∀p,p<n->(e p).1.Steps.length<=500000
 zl:z.1.Steps.length<=500000
 e0:∀p,p<n->(e p).2=decide ((e p).1.Steps≠[])
 z0:z.2=decide (z.1.Steps≠[])
 ab:p9 800 a
 bb:∀p,p<n->p9 800 (b p)
 eb:∀p,p<n->N2 800 (e p).1.Steps
 zb:N2 800 z.1.Steps
 al:a.length<=500000
 aT:a0L a
 bT:∀p,p<n->a0L (b p)
 bl:∀p,p<n->(b p).length<=500000
def t00 {B:Int}{s:List Int}(h:N2 B s):N2 B (Z8 s).1.Steps:=by
 unfold Z8;split
 ·exact N2.nil
 ·exact h
def s07 {l:List C0}{t:Tm}(f:I4 l t){p q:Nat}{S:List Int}{fs:List Fr}(hp:d0u l t p q S fs):p9 800 (r8 t p q S fs).1/\N2 800 (r8 t p q S fs).2.1:=by
 have d:=f.le;have c:=Ctx.lo_le hp.ctx;simp only[Tm.size]at c;exact k03 O' fs q p _ _ _ hp.ctx (N2.cls O') (fun _ h=>by cases h)
end Go.Proofs.YtihmgaccbcfgjaaGreat.Old
namespace Go.Proofs.YtihmgaccbcfgjaaGreat
open Go.V Go.RowKit Old
@[simp] def I8 {α:Type}(x:Option α):Option.bind x (fun r=>some r)=x:=by cases x<;>rfl
def o0h (s:List Int):(Z8 s).2=decide ((Z8 s).1.Steps≠[]):=by
 unfold Z8;split
 ·simp
 ·rename_i h;simp;intro e;exact h (by simp[e])
structure v0h (l:List C0)(n:Nat)(a:List B0)(b:Nat->List B0)(e:Nat->B0×Bool)(z:B0×Bool)(F:Nat):Prop where
 mR:l6 F l=some true
 rR:U6 F l=some true
 mL:C7 F l=some (G2 l l.length)
 mA:c0h F l ((l.length:Int)-1)=some a
 mZ:G9 F l (-1)=some z
 mB:∀p:Nat,p<n->b0M F l (p:Int)=some (b p)
 mE:∀p:Nat,p<n->G9 F l (p:Int)=some (e p)
def q0E {l:List C0}(hw:∀x∈l,P2 x)(hl:l.length*64<=140737488351232)(hR:L2 l=true):∃a b e z,r0T l (N0 l l.length) a b e z/\∀F,1000001<F->l.length+1<F->v0h l (N0 l l.length) a b e z F:=by
 obtain⟨t,d⟩:=a0N hw hR;have m:=d.le;have o:=d.len;have hn:t.leaves=N0 l l.length:=by
  have h:=a0R d.at0;rw[Nat.zero_add,<-o]at h;rw[h];simp[N0]
 have f:∀p:Nat,∃x:List B0×(B0×Bool),p<N0 l l.length->(K8 (N0 l l.length) x.1/\x.2.1.Steps.length<=500000/\x.2.2=decide (x.2.1.Steps≠[])/\p9 800 x.1/\N2 800 x.2.1.Steps/\x.1.length<=500000/\a0L x.1/\
   ∀F,1000001<F->l.length+1<F->b0M F l (p:Int)=some x.1/\G9 F l (p:Int)=some x.2):=by
  intro p
  by_cases hp:p<N0 l l.length
  ·obtain⟨r,S,fs,c⟩:=A0R d hp;obtain⟨j,hlen⟩:=s0l d c;refine⟨(F7 B0.To (r8 t p r S fs).1,Z8 (if(r8 t p r S fs).2.2 then(r8 t p r S fs).2.1 else[])),fun _=>⟨?_,?_,o0h _,fun h s=>(s07 d c).1 h ((c0T B0.To _).mem_iff.1 s),t00 ?_,by rw[e0c];exact q03 d c,fun h s=>i03 m fs _ _ _ _ _ c.ctx (fun _ h=>by cases h) h ((c0T B0.To _).mem_iff.1 s),fun F i g=>⟨?_,?_⟩⟩⟩
   ·rw[<-hn];exact E0r j
   ·refine u0c ?_;split
    ·exact hlen
    ·simp
   ·split
    ·exact(s07 d c).2
    ·exact N2.nil
   ·exact(Old.D04 hw d hR i c hp)
   ·exact(Old.A0e hw d hR i c hp)
  ·exact⟨([],(⟨0,0,[]⟩,false)),fun h=>absurd h hp⟩
 have w:=t.j9 0;refine⟨t.Y0 0 0 [],fun p=>(Classical.choose (f p)).1,fun p=>(Classical.choose (f p)).2,Z8 (if t.can then t.steps 0 else[]),⟨?_,?_,?_,?_,?_,?_,?_,?_,?_,?_,?_,?_,?_,?_,?_⟩,fun F i g=>?_⟩
 ·have:=d0H l l.length;omega
 ·rw[<-hn];exact D0O d
 ·intro p hp;exact(Classical.choose_spec (f p) hp).1
 ·intro p hp;exact(Classical.choose_spec (f p) hp).2.1
 ·refine u0c ?_;split
  ·omega
  ·simp
 ·intro p hp;exact(Classical.choose_spec (f p) hp).2.2.1
 ·exact o0h _
 ·exact t.n03 0 0 [] 800 O' N2.nil
 ·intro p hp;exact(Classical.choose_spec (f p) hp).2.2.2.1
 ·intro p hp;exact(Classical.choose_spec (f p) hp).2.2.2.2.1
 ·refine t00 ?_;split
  ·exact t.n0O 0 800 O'
  ·exact N2.nil
 ·have:=t.b0c 0 0 [];have:=t.b0r;omega
 ·exact t.x0m 0 0 []
 ·intro p hp;exact(Classical.choose_spec (f p) hp).2.2.2.2.2.2.1
 ·intro p hp;exact(Classical.choose_spec (f p) hp).2.2.2.2.2.1
 ·have q:b0k l=G2 l l.length:=by simp[b0k,hR]
  obtain⟨h1,y⟩:=Old.u0E hw d hR i;obtain⟨u,v⟩:=Old.A0f hw d hR i d.at0;have k:((t.top 0:Nat):Int)=(l.length:Int)-1:=by have:=t.size_pos;unfold Tm.top;omega
  rw[k]at u v;exact⟨(by rw[Old.c0y l O',hR]),(by rw[Old.e02 l hl g,hR]),(by rw[Old.l07 hw O',q]),u,h1,
   fun p hp=>((Classical.choose_spec (f p) hp).2.2.2.2.2.2.2 F i g).1,fun p hp=>((Classical.choose_spec (f p) hp).2.2.2.2.2.2.2 F i g).2⟩
end Go.Proofs.YtihmgaccbcfgjaaGreat
namespace Go.Proofs.YtihmgaccbcfgjaaGreat
open Go.V Go.RowKit Old
def D7 (R0:List C0)(n:Nat):Bool:=R0.any fun x=>x.Kind==7&&x.N==(n:Int)
def a0a (R0:List C0)(k:Nat):List Int:=((List.range k).filter (D7 R0)).map fun n:Nat=>(n:Int)
def t0G (R0:List C0):a0a R0 0=[]:=rfl
theorem P4 {α:Type}[Inhabited α]{l:List α}{i:Nat}(h:i<l.length):l[i]?=some (gt l (i:Int)):=by
 have:=h0D (V0 (l:=l) (i:=(i:Int)) O' O');simpa using this
def e0Y (R0:List C0):List Int:=a0a R0 10
def Gok (R0:List C0):Prop:=∀x∈R0,x.Kind=7->1<=x.N/\x.N<=9
def p05 (R0:List C0)(k:Nat):a0a R0 (k+1)=if D7 R0 k then a0a R0 k++[(k:Int)]else a0a R0 k:=by
 unfold a0a;rw[List.range_succ,List.filter_append,List.map_append];cases h:D7 R0 k<;>simp[h]
def o02 (R0:List C0)(k:Nat):(a0a R0 k).length<=k:=by
 unfold a0a;rw[List.length_map];exact Nat.le_trans (List.length_filter_le _ _) Z'
def C0q {R0:List C0}(h:Gok R0):D7 R0 0=false:=by
 unfold D7;rw[List.any_eq_false];intro x c;simp;intro d f;have:=(h x c d).1;omega
def flags (R0:List C0):List Bool:=(List.range 10).map (D7 R0)
def A0r (R0:List C0){n:Nat}(h:n<10):gt (flags R0) (n:Int)=D7 R0 n:=by
 refine X2 ?_;simp[flags,h]
def x0s {R0:List C0}{i:Nat}(hi:i<R0.length)(hk:Gok R0):flags (R0.take (i+1))=if(gt R0 (i:Int)).Kind==7 then(flags (R0.take i)).set (gt R0 (i:Int)).N.toNat true else flags (R0.take i):=by
 have f:R0[i]?=some (gt R0 (i:Int)):=P4 hi;have d:R0.take (i+1)=R0.take i++[gt R0 (i:Int)]:=by rw[take_succ,f];rfl
 have hm:=hk _ (List.mem_of_getElem? f);generalize gt R0 (i:Int)=x at *;cases c:x.Kind==7
 ·simp only[if_false,false_eq_true];unfold flags;refine List.map_congr_left fun n _=>?_;simp[D7,d,c]
 ·simp only[if_true];have hm:=hm (by simpa using c);refine ext_getElem (by simp[flags]) fun n h1 g=>?_;simp only[flags,List.length_map,List.length_range]at h1;rw[getElem_set];simp only[flags,getElem_map,getElem_range];rw[show D7 (R0.take (i+1)) n=(D7 (R0.take i) n||(x.N==(n:Int)))from by simp[D7,d,c]];split
  ·rename_i e;have:x.N=(n:Int):=O'
   simp[this]
  ·rename_i e;have:(x.N==(n:Int))=false:=by simp;omega
   simp[this]
section
variable {F:Nat}
def E01 {l:List C0}{q:Int}{low:List Int}{R0:List C0}(hs:G1 l (gt low q) (W (q+1))=R0)(hk:Gok R0)(hl:R0.length<=400)(j:401<F):
  iter (h07 F l q low (R0.length:Int)) F (0,[false,false,false,false,false,false,false,false,false,false])=some (flags R0):=by
 have f:flags (R0.take 0)=[false,false,false,false,false,false,false,false,false,false]:=by simp[flags,D7];decide
 rw[<-f];have:=H3 (step:=h07 F l q low (R0.length:Int)) (fun i=>((i:Int),flags (R0.take i))) (flags R0) R0.length (fun i hi=>.inl ?_) ?_ R0.length 0 F O' O'
 ·exact this
 ·unfold h07;have h1:(i:Int)<(R0.length:Int):=O'
  have c:y0 R0 (i:Int)=true:=V0 O' O';have hm:=hk _ (List.mem_of_getElem? (h0D c));have g:W ((i:Int)+1)=((i+1:Nat):Int):=by rw[E3 O' O'];omega
  simp only[hs,h1,decide_true,if_true,c,g];rw[x0s hi hk];cases d:(gt R0 (i:Int)).Kind==7
  ·simp only[q0]
  ·have hm:=hm (by simpa using d);have h:(decide (0<=(gt R0 (i:Int)).N)&&decide ((gt R0 (i:Int)).N<10))=true:=by simp;omega
   simp only[if_true,h,G0]
 ·unfold h07;have h1:¬((R0.length:Int)<(R0.length:Int)):=O'
  simp only[q0,h1,List.take_length]
def G0G {R0:List C0}(g:401<F):iter (h0d F (flags R0)) F ([],0)=some (e0Y R0):=by
 have:=H3 (step:=h0d F (flags R0)) (fun i=>(a0a R0 i,(i:Int))) (e0Y R0) 10 (fun i hi=>.inl ?_) ?_ 10 0 F O' O'
 ·rw[t0G]at this;exact this
 ·unfold h0d;have h1:(i:Int)<10:=O'
  have f:(0:Int)<=(i:Int):=O'
  have d:W ((i:Int)+1)=((i+1:Nat):Int):=by rw[E3 O' O'];omega
  have c:K0 8 (a0a R0 i) [(i:Int)]=true:=by have:=o02 R0 i;simp[K0];omega
  simp only[h1,f,decide_true,if_true,Bool.and_self,A0r R0 hi,d,c];rw[p05];cases D7 R0 i<;>simp only[q0]
 ·unfold h0d;simp[e0Y]
def D0y {l:List C0}{q lo:Nat}(k:q<l.length)(hl:l.length<=400)(j:lo<=q)(n:Nat)(m:401<F):
  iter (h09 F l (q:Int) (n:Int)) F (false,(lo:Int))=some (D7 (G1 l (lo:Int) ((q+1:Nat):Int)) n):=by
 have c:G1 l (lo:Int) ((q+1:Nat):Int)=(l.drop lo).take (q+1-lo):=by unfold G1;congr 1;omega
 have:=H3 (step:=h09 F l (q:Int) (n:Int)) (fun i=>(D7 ((l.drop lo).take i) n,((lo+i:Nat):Int))) (D7 (G1 l (lo:Int) ((q+1:Nat):Int)) n) (q+1-lo) (fun i hi=>.inl ?_) ?_ (q+1-lo) 0 F O' O'
 ·exact this
 ·unfold h09;have h1:((lo+i:Nat):Int)<=(q:Int):=O'
  have d:y0 l ((lo+i:Nat):Int)=true:=V0 O' O';have g:(l.drop lo)[i]?=some (gt l ((lo+i:Nat):Int)):=by rw[List.getElem?_drop];exact P4 O'
  have f:(l.drop lo).take (i+1)=(l.drop lo).take i++[gt l ((lo+i:Nat):Int)]:=by rw[take_succ,g];rfl
  have h:W (((lo+i:Nat):Int)+1)=((lo+(i+1):Nat):Int):=by rw[E3 O' O'];omega
  have hg:D7 ((l.drop lo).take (i+1)) n=(D7 ((l.drop lo).take i) n||((gt l ((lo+i:Nat):Int)).Kind==7&&(gt l ((lo+i:Nat):Int)).N==(n:Int))):=by simp[D7,f]
  rw[hg];simp only[h1,decide_true,if_true,d,h,I8];cases D7 ((l.drop lo).take i) n<;>cases(gt l ((lo+i:Nat):Int)).Kind==7<;>simp[G0]
 ·unfold h09;have h1:¬(((lo+(q+1-lo):Nat):Int)<=(q:Int)):=O'
  simp only[q0,h1,c]
def z0t {l:List C0}{q lo:Nat}{low:List Int}(h:q<l.length)(hl:l.length<=400)(d:lo<=q)(g:y0 low (q:Int)=true)(hg:gt low (q:Int)=(lo:Int))(hk:Gok (G1 l (lo:Int) ((q+1:Nat):Int)))(k:401<F):
  iter (h0O F l (q:Int) low) F ([],1)=some (e0Y (G1 l (lo:Int) ((q+1:Nat):Int))):=by
 generalize c:G1 l (lo:Int) ((q+1:Nat):Int)=R0 at *;have m:a0a R0 1=[]:=by rw[p05,C0q hk,t0G];simp
 rw[<-m];have:=H3 (step:=h0O F l (q:Int) low) (fun i=>(a0a R0 (i+1),((i+1:Nat):Int))) (e0Y R0) 9 (fun i hi=>.inl ?_) ?_ 9 0 F O' O'
 ·exact this
 ·unfold h0O;have h1:((i+1:Nat):Int)<=9:=O'
  have j:W (((i+1:Nat):Int)+1)=((i+1+1:Nat):Int):=by rw[E3 O' O'];omega
  have f:K0 8 (a0a R0 (i+1)) [((i+1:Nat):Int)]=true:=by have:=o02 R0 (i+1);simp[K0];omega
  have hi:=D0y (F:=F) h hl d (i+1) k;rw[c]at hi;simp only[q0,h1,g,hg,hi,j,f];rw[p05 R0 (i+1)];cases D7 R0 (i+1)<;>simp only[q0]
 ·unfold h0O;simp[e0Y]
def z0V {l:List C0}:∀{i:Nat} {a:List Int},R4 l i=some a->∀j:Nat,j<i->R9 (gt l (j:Int))=true:=by
 intro i
 induction i with
 |zero=>intro a _ j c;omega
 |succ i ih=>
  intro a h j c;unfold R4 at h;cases e:R4 l i with
  |none=>rw[e]at h;cases h
  |some b=>
   rw[e]at h;dsimp only at h;split at h
   ·rename_i hg;rcases lt_or_ge j i with h1|h1
    ·exact ih e j h1
    ·obtain rfl:j=i:=O'
     simp only[Z6,Bool.and_eq_true]at hg;exact hg.1.2
   ·cases h
structure s0y (l:List C0):Prop where
 ne:K4 l≠[]
 len:(K4 l).length=l.length
 rng:∀j:Nat,j<l.length->0<=gt (K4 l) (j:Int)/\gt (K4 l) (j:Int)<=j
 grp:∀x∈l,x.Kind=7->1<=x.N/\x.N<=9
 pos:0<l.length
 le:l.length<=400
def e06 {l:List C0}(hR:L2 l=true):s0y l:=by
 have c:K4 l≠[]:=by intro e;simp[L2,e]at hR
 have h:=c;unfold K4 at h;cases e:R4 l l.length with
 |none=>rw[e]at h;exact absurd rfl h
 |some a=>
  have d:=c07 e;rw[e]at h;dsimp only at h;split at h
  ·exact absurd rfl h
  ·rename_i hn;have i:K4 l=a:=by unfold K4;rw[e];dsimp only;rw[if_neg hn]
   refine⟨c,by rw[i];exact d.len,fun j f=>by rw[i];exact d.rng j f,fun x k m=>?_,O',O'⟩;obtain⟨j,f,rfl⟩:=List.getElem_of_mem k;have g:=z0V e j f;have hg:gt l (j:Int)=l[j]:=X2 (List.getElem?_eq_getElem f);rw[hg]at g;simp[R9,m]at g;exact g.2
def B9 (l:List C0)(q:Int):List Int:=if q<0\/(l.length:Int)<=q then[]else e0Y (G1 l (gt (K4 l) q) (q+1))
def r0n {l:List C0}(c:401<F):I9 F l=some (K4 l):=(Old.q08 l c)
def D0M {l:List C0}(hR:L2 l=true)(hl:l.length*64<=140737488351232)(d:l.length+1<F):o0X F l=some (K4 l):=by
 have c:h08 (K4 l)=true:=by
  cases h:K4 l with
  |nil=>exact absurd h (e06 hR).ne
  |cons x y=>rfl
 unfold o0X;rw[Old.u0g l hl d,c];rfl
def t0L {l:List C0}(h:s0y l)(a b:Int):Gok (G1 l a b):=fun x c d=>h.grp x (List.mem_of_mem_drop (List.mem_of_mem_take c)) d
def t0b {l:List C0}(hR:L2 l=true)(q:Int)(f:401<F):i0x F l q=some (B9 l q):=by
 have h:=e06 hR;have i:=h.le;have hlen:=h.len;unfold i0x B9;rw[r0n f];simp only[G0,hlen]
 by_cases d:q<0
 ·simp[d]
 ·by_cases h1:(l.length:Int)<=q
  ·have:q>=(l.length:Int):=h1;simp[d,this]
  ·obtain⟨n,rfl⟩:∃n:Nat,q=n:=⟨q.toNat,O'⟩
   have hn:n<l.length:=O'
   have m:=h.rng n hn;have j:W ((n:Int)+1)=(n:Int)+1:=E3 O' O';have k:¬((n:Int)>=(l.length:Int)):=h1;have c:P3 l (gt (K4 l) (n:Int)) ((n:Int)+1)=true:=by simp[P3];omega
   have g:y0 (K4 l) (n:Int)=true:=V0 O' O';simp only[q0,d,h1,k,g,j,c,or_self];rw[E01 (by rw[j]) (t0L h _ _) (by rw[d0b c];omega) f,G0,G0G f,G0]
theorem H0n {l:List C0}(hR:L2 l=true)(hl:l.length*64<=140737488351232)(q:Int)(j:401<F)(f:l.length+1<F):q0A F l q=some (B9 l q):=by
 have h:=e06 hR;have d:=h.le;have hlen:=h.len;unfold q0A B9;rw[D0M hR hl f];simp only[G0,hlen]
 by_cases g:q<0
 ·simp[g]
 ·by_cases h1:(l.length:Int)<=q
  ·have:q>=(l.length:Int):=h1;simp[g,this]
  ·obtain⟨n,rfl⟩:∃n:Nat,q=n:=⟨q.toNat,O'⟩
   have hn:n<l.length:=O'
   have k:=h.rng n hn;have m:¬((n:Int)>=(l.length:Int)):=h1;have i:y0 (K4 l) (n:Int)=true:=V0 O' O';obtain⟨lo,c⟩:∃lo:Nat,gt (K4 l) (n:Int)=lo:=⟨(gt (K4 l) (n:Int)).toNat,O'⟩
   rw[c]at k;simp only[q0,g,h1,m,or_self,I8,c];exact z0t hn d O' i c (t0L h _ _) j
end
theorem B0F {R0:List C0}{k:Nat}{x:Int}(h:x∈a0a R0 k):0<=x/\x<k:=by
 unfold a0a at h
 grind
def H0X {l:List C0}{q x:Int}(h:x∈B9 l q):0<=x/\x<10:=by
 unfold B9 at h;split at h
 ·cases h
 ·exact B0F h
theorem i06 (l:List C0)(q:Int):(B9 l q).length<=10:=by
 unfold B9;split
 ·simp
 ·exact o02 _ 10
def e0T (l:List C0):Int:=(B9 l ((l.length:Int)-1)).getLast?.getD 0
def C4 (l:List C0):Int:=1+2*e0T l
def n0H (l:List C0):0<=e0T l/\e0T l<10:=by
 unfold e0T;cases h:(B9 l ((l.length:Int)-1)).getLast? with
 |none=>simp
 |some x=>exact H0X (List.mem_of_getLast? h)
section
variable {F:Nat}
theorem H0B {l:List C0}(hR:L2 l=true)(f:401<F):l0a F l=some (e0T l):=by
 have h:=e06 hR;have c:=h.le;unfold l0a e0T;rw[show W ((l.length:Int)-1)=(l.length:Int)-1 from E3 O' O',t0b hR _ f,G0,I8];have d:=i06 l ((l.length:Int)-1);generalize B9 l ((l.length:Int)-1)=g at *;have:=H3 (step:=k0d F g) (fun i=>((g.take i).getLast?.getD 0,(i:Int))) (g.getLast?.getD 0) g.length (fun i hi=>.inl ?_) ?_ g.length 0 F O' O'
 ·grind
 ·unfold k0d;have k:W ((i:Int)+1)=((i+1:Nat):Int):=by grind [E3]
  have j:g.take (i+1)=g.take i++[gt g (i:Int)]:=by grind [take_succ,P4]
  simp_all[V0]
 simp[k0d]
theorem N0f {l:List C0}(hR:L2 l=true)(hl:l.length*64<=140737488351232)(j:401<F)(c:l.length+1<F):K0j F l=some (e0T l):=by
 have h:=e06 hR;unfold K0j e0T;rw[show W ((l.length:Int)-1)=(l.length:Int)-1 from E3 O' O',H0n hR hl _ j c,G0];have d:=i06 l ((l.length:Int)-1);generalize B9 l ((l.length:Int)-1)=g at *
 by_cases f:g=[]
 ·simp_all
 ·have hp:0<g.length:=List.length_pos_iff.2 f;have i:W ((g.length:Int)-1)=((g.length-1:Nat):Int):=by grind [E3]
  rw[if_neg (by simp_all),i,if_pos (V0 O' O')];simp[gt,List.getLast?_eq_getElem?]
def o0r {l:List C0}(hR:L2 l=true)(c:401<F):d0Y F l=some (C4 l):=by
 have d:=n0H l;unfold d0Y C4;rw[(Old.c0y l c),hR];simp only[q0,H0B hR c];rw[E3 (n:=2*e0T l) O' O',E3 O' O']
def c0K (l:List C0)(s:Int):List J2:=
 if s<0\/(l.length:Int)<=s / 2 then[]else
 if(gt l (s / 2)).Kind=7 then[⟨1+s % 2,(gt l (s / 2)).N⟩]else
 if(gt l (s / 2)).Kind=8/\s % 2=0 then(B9 l (s / 2)).map fun g=>⟨3,g⟩else[]
theorem p0K (l:List C0)(s:Int):(c0K l s).length<=10:=by
 grind [c0K,i06]
def a7 (l:List C0)(steps:List Int):List J2:=steps.flatMap (c0K l)
theorem w0J {g:List Int}{step:List J2×Int->Option (Q0 (List J2×Int) (List J2))}(c:∀o (i:Int),step (o,i)=if decide (i<(g.length:Int))then if y0 g i then if K0 16 o [(⟨3,gt g i⟩:J2)]then some (.next (o++[(⟨3,gt g i⟩:J2)],W (i+1)))else none else none else some (.done o))
  (hg:g.length<=10) (j:401<F) (o:List J2) (ho:o.length<=100000000):iter step F (o,0)=some (o++g.map fun g=>⟨3,g⟩):=by
 have:=H3 (step:=step) (fun i=>(o++(g.take i).map fun g=>(⟨3,g⟩:J2),(i:Int))) (o++g.map fun g=>⟨3,g⟩) g.length (fun i hi=>.inl ?_) ?_ g.length 0 F O' O'
 ·simp_all
 ·have h:W ((i:Int)+1)=((i+1:Nat):Int):=by grind [E3]
  have f:g.take (i+1)=g.take i++[gt g (i:Int)]:=by grind [take_succ,P4]
  have d:K0 16 (o++(g.take i).map fun g=>(⟨3,g⟩:J2)) [(⟨3,gt g (i:Int)⟩:J2)]=true:=by grind [K0]
  simp_all[V0]
 simp_all
def SOk (s:Int):Prop:=-9223372036854775808<=s/\s<=9223372036854775807
theorem G0z {l:List C0}(hR:L2 l=true)(d:401<F){s:Int}(hs:SOk s):k0g F l s=some (c0K l s):=by
 have h:=e06 hR;unfold k0g c0K
 by_cases w:s<0
 ·grind
 ·obtain⟨n,rfl⟩:∃n:Nat,s=n:=⟨s.toNat,O'⟩
  obtain⟨_,v⟩:=hs;have q:(n:Int).tdiv 2=((n / 2:Nat):Int):=rfl;have f:(n:Int).tmod 2=((n % 2:Nat):Int):=rfl;have p:(n:Int) / 2=((n / 2:Nat):Int):=O'
  have u:(n:Int) % 2=((n % 2:Nat):Int):=O'
  have j:W ((n / 2:Nat):Int)=((n / 2:Nat):Int):=E3 O' O';simp only[q0,q,f,p,u,j,w,false_or]
  by_cases h1:(l.length:Int)<=((n / 2:Nat):Int)
  ·grind
  ·have c:y0 l ((n / 2:Nat):Int)=true:=V0 O' O';simp only[q0,h1,c];have t:((n % 2:Nat):Int)=0\/((n % 2:Nat):Int)=1:=O'
   generalize ((n % 2:Nat):Int)=r at *;generalize ((n / 2:Nat):Int)=k at *
   by_cases x:(gt l k).Kind=7
   ·grind
   ·by_cases m:(gt l k).Kind=8
    ·rcases t with rfl|rfl
     ·simp only[m,if_true,G0,beq_self_eq_true,and_self,t0b hR _ d,I8];have:=w0J (F:=F) (g:=B9 l k) (step:=v0A F (B9 l k)) (fun o i=>rfl) (i06 _ _) d [] Z'
      simp_all
     simp_all
    simp_all
def p07 {l:List C0}(hR:L2 l=true){st:List Int}(h:st.length<=2000000)(j:2000001<F)(hs:∀s∈st,SOk s):g0w F l st=some (a7 l st):=by
 unfold g0w;rw[(Old.c0y l O'),hR];simp only[q0,I8];have hlen:∀i,i<=st.length->(a7 l (st.take i)).length<=10*i:=by
  intro i
  induction i with
  |zero=>intro _;simp[a7]
  |succ i ih=>
   intro hi;have:=ih O';have g:=p0K l (gt st (i:Int));rw[show st.take (i+1)=st.take i++[gt st (i:Int)]from by rw[take_succ,P4 O'];rfl];simp only[a7,List.flatMap_append,List.length_append,List.flatMap_cons,List.flatMap_nil,append_nil]at *;omega
 have:=H3 (step:=k0E F l st) (fun i=>(a7 l (st.take i),(i:Int))) (a7 l st) st.length (fun i hi=>.inl ?_) ?_ st.length 0 F O' O'
 ·exact this
 ·unfold k0E;have h1:(i:Int)<(st.length:Int):=O'
  have f:W ((i:Int)+1)=((i+1:Nat):Int):=by rw[E3 O' O'];omega
  have d:st.take (i+1)=st.take i++[gt st (i:Int)]:=by rw[take_succ,P4 hi];rfl
  have g:=p0K l (gt st (i:Int));have k:=hlen i O';have c:K0 16 (a7 l (st.take i)) (c0K l (gt st (i:Int)))=true:=by simp[K0];omega
  simp only[q0,h1,V0 (l:=st) (i:=(i:Int)) O' h1,f,G0z hR (show 401<F from O') (hs _ (List.mem_of_getElem? (P4 hi))),c,d,a7,List.flatMap_append,List.flatMap_cons,List.flatMap_nil,append_nil];rw[show a7 l (List.take i st)=List.flatMap (c0K l) (List.take i st)from rfl]at c;rw[if_pos c]
 ·unfold k0E;have h1:¬((st.length:Int)<(st.length:Int)):=O'
  simp only[q0,h1,List.take_length]
theorem j0K (l:List C0):∀st:List Int,(a7 l st).length<=10*st.length
 |[]=>by simp[a7]
 |x :: r=>by
  have h:=j0K l r
  grind [p0K,a7]
theorem s0q {l:List C0}(hR:L2 l=true)(hl:l.length*64<=140737488351232)(t:401<F)(f:l.length+1<F){st:List Int}{i:Nat}(hi:i<st.length)(hlen:st.length<=2000000)(hs:SOk (gt st (i:Int))){o:List J2}(ho:o.length<=50000000):
  u0q F l st (o,(i:Int))=some (.next (o++c0K l (gt st (i:Int)),((i+1:Nat):Int))):=by
 have h:=e06 hR;have c:(i:Int)<(st.length:Int):=O'
 have d:W ((i:Int)+1)=((i+1:Nat):Int):=by grind [E3]
 unfold u0q c0K;simp only[c,decide_true,if_true,V0 (l:=st) (i:=(i:Int)) O' c,d];generalize gt st (i:Int)=s at *
 by_cases U:s<0
 ·grind
 ·obtain⟨n,rfl⟩:∃n:Nat,s=n:=⟨s.toNat,O'⟩
  obtain⟨_,a1⟩:=hs;have C:(n:Int).tdiv 2=((n / 2:Nat):Int):=rfl;have u:(n:Int).tmod 2=((n % 2:Nat):Int):=rfl;have I:(n:Int) / 2=((n / 2:Nat):Int):=O'
  have R:(n:Int) % 2=((n % 2:Nat):Int):=O'
  have w:W ((n / 2:Nat):Int)=((n / 2:Nat):Int):=E3 O' O';have j:W (1+((n % 2:Nat):Int))=1+((n % 2:Nat):Int):=E3 O' O';simp only[q0,C,u,I,R,w,j,U,false_or]
  by_cases h1:(l.length:Int)<=((n / 2:Nat):Int)
  ·grind
  ·have v:¬((n / 2:Nat):Int)>=(l.length:Int):=h1;have q:y0 l ((n / 2:Nat):Int)=true:=V0 O' O';simp only[q0,h1,q];have J:((n % 2:Nat):Int)=0\/((n % 2:Nat):Int)=1:=O'
   generalize ((n % 2:Nat):Int)=r at *;generalize ((n / 2:Nat):Int)=k at *
   by_cases y:(gt l k).Kind=7
   ·grind [K0]
   ·have m:((gt l k).Kind==7)=false:=by grind
    by_cases x:(gt l k).Kind=8
    ·rcases J with rfl|rfl
     ·have p:((gt l k).Kind==8)=true:=by grind
      rw[if_neg y,if_pos (show(gt l k).Kind=8/\(0:Int)=0 from⟨x,rfl⟩)];simp only[q0,m,p,beq_self_eq_true,H0n hR hl _ t f,I8];rw[w0J (F:=F) (g:=B9 l k) (step:=s0E F (B9 l k)) (fun o i=>rfl) (i06 _ _) t o O'];simp[]
     simp_all
    simp_all
end
def N2.sok {st:List Int}(h:N2 800 st):∀s∈st,SOk s:=fun s hs=>by have:=h s hs;unfold SOk;omega
section
variable {F:Nat}
variable {l:List C0}{n:Nat}{a:List B0}{b:Nat->List B0}{e:Nat->B0×Bool}{z:B0×Bool}
end
def V2 (n:Nat)(f:Nat->Int):List Int:=(List.range n).map f
def U1 (m n:Nat)(f:Nat->Nat->Int):List (List Int):=(List.range m).map fun i=>V2 n (f i)
def U2 (n:Nat)(fB fD:Nat->Nat->Int):D2:=⟨U1 n n fB,U1 n n fD⟩
@[simp] def l0I (n:Nat)(f:Nat->Int):(V2 n f).length=n:=by simp[V2]
@[simp] def v0W (m n:Nat)(f:Nat->Nat->Int):(U1 m n f).length=m:=by simp[U1]
def b0y {n i:Nat}(f:Nat->Int)(h:i<n):gt (V2 n f) (i:Int)=f i:=X2 (by simp[V2,h])
def R8 {m n i:Nat}(f:Nat->Nat->Int)(h:i<m):gt (U1 m n f) (i:Int)=V2 n (f i):=X2 (by simp[U1,h])
def a0k {n i:Nat}(f:Nat->Int)(h:i<n):y0 (V2 n f) (i:Int)=true:=V0 O' V'
def H9 {m n i:Nat}(f:Nat->Nat->Int)(h:i<m):y0 (U1 m n f) (i:Int)=true:=V0 O' V'
theorem X1 {i:Nat}(h:i<=1000000000):W ((i:Int)+1)=((i+1:Nat):Int):=by grind [E3]
structure a0y (n:Nat)(fB fD:Nat->Nat->Int):Prop where
 b0:∀i k,i<n->k<n->0<=fB i k
 bd:∀i,i<n->fB i i=0
 dd:∀i,i<n->fD i i=0
 d1:∀i k,i<n->k<n->i≠k->fD i k=1\/fD i k=-1
 dn:∀i k,i<n->k<n->fD k i=- fD i k
section
variable {F n:Nat}{fB fD:Nat->Nat->Int}
def G02 (hn:n<=1000)(c:2000<F)(f:Nat->Nat->Int):h0W F (U1 n n f) (n:Int)=some true:=by
 unfold h0W;have:=H3 (step:=i0y F (U1 n n f) (n:Int)) (fun i=>(i:Int)) (.inr ()) n (fun i hi=>.inl ?_) ?_ n 0 F O' O'
 ·simp_all
 ·unfold i0y;have h1:(i:Int)<((U1 n n f).length:Int):=by simp;omega
  simp only[q0,h1,H9 f hi,R8 f hi,l0I,bne_self_eq_false,X1 (i:=i) O']
 simp[i0y]
theorem t01 (hn:n<=1000)(j:2000<F)(h:a0y n fB fD):i0o F (U2 n fB fD) (n:Int)=some true:=by
 unfold i0o U2;simp only[q0,G02 hn j];have:=H3 (step:=i0G F ⟨U1 n n fB,U1 n n fD⟩ (n:Int)) (fun i=>(i:Int)) (.inr ()) n (fun i hi=>.inl ?_) ?_ n 0 F O' O'
 ·simp_all
 ·have d:=H3 (step:=i0B F ⟨U1 n n fB,U1 n n fD⟩ (n:Int) (i:Int)) (fun k=>(k:Int)) (.inr ()) n (fun k hk=>.inl ?_) ?_ n 0 F O' O'
  ·have m:iter (i0B F ⟨U1 n n fB,U1 n n fD⟩ (n:Int) (i:Int)) F 0=_:=d;unfold i0G;have h1:(i:Int)<(n:Int):=O'
   simp only[q0,h1,H9 _ hi,R8 _ hi,a0k _ hi,b0y _ hi,h.bd i hi,h.dd i hi,bne_self_eq_false,m,X1 (i:=i) O']
  ·unfold i0B;have h1:(k:Int)<(n:Int):=O'
   have f:¬fB i k<0:=by have:=h.b0 i k hi hk;omega
   have hd:=h.dn i k hi hk;have g:W (0-fD i k)=- fD i k:=by
    by_cases e:i=k
    ·subst e;rw[h.dd i hi];rfl
    ·rcases h.d1 i k hi hk e with e|e<;>rw[e]<;>rfl
   simp only[q0,h1,H9 _ hi,H9 _ hk,R8 _ hi,R8 _ hk,a0k _ hi,a0k _ hk,b0y _ hi,b0y _ hk,f,I8,hd,g,bne_self_eq_false,X1 (i:=k) O']
   by_cases e:i=k
   ·grind
   ·have c:((i:Int) != (k:Int))=true:=by grind
    rcases h.d1 i k hi hk e with e2|e2<;>simp[c,e2]
  simp[i0B]
 simp[i0G]
def j0W (hn:n<=1000)(c:2000<F)(h:a0y n fB fD):e0n F (U2 n fB fD)=some true:=by
 unfold e0n;rw[I8,show((U2 n fB fD).B.length:Int)=(n:Int)from by simp[U2],t01 hn c h]
end
def x0B {n:Nat}{f g:Nat->Int}(h:∀k,k<n->f k=g k):V2 n f=V2 n g:=List.map_congr_left fun k hk=>h k (List.mem_range.1 hk)
def d0F {m n:Nat}{f g:Nat->Nat->Int}(h:∀i k,i<m->k<n->f i k=g i k):U1 m n f=U1 m n g:=
 List.map_congr_left fun i hi=>x0B fun k hk=>h i k (List.mem_range.1 hi) hk
def o0c {n k:Nat}{f:Nat->Int}{v:Int}:(V2 n f).set k v=V2 n fun j=>if j=k then v else f j:=by
 refine ext_getElem Z' fun i h1 c=>?_;simp only[V2,getElem_set,getElem_map,getElem_range];omega
theorem m0L {m n i:Nat}{f:Nat->Nat->Int}{g:Nat->Int}:(U1 m n f).set i (V2 n g)=U1 m n fun a=>if a=i then g else f a:=by
 refine ext_getElem Z' fun j h1 c=>?_;simp only[U1,getElem_set,getElem_map,getElem_range]
 grind
def G07 (n:Nat):List.replicate n (0:Int)=V2 n fun _=>0:=by
 refine ext_getElem Z' fun i h1 c=>?_;simp[V2]
def I0t (m n:Nat):List.replicate m (V2 n fun _=>0)=U1 m n fun _ _=>0:=by
 refine ext_getElem Z' fun i h1 c=>?_;simp[U1]
section
variable {F n:Nat}{fB fD:Nat->Nat->Int}
theorem u0f (hn:n<=1000)(h:2000<F):e0y F (n:Int)=some (U1 n n fun _ _=>0):=by
 unfold e0y;have g:R2 24 (n:Int)=true:=by grind [R2]
 have d:R2 8 (n:Int)=true:=by grind [R2]
 have:=H3 (step:=l0F F (n:Int) (n:Int)) (fun i=>((i:Int),List.replicate i (V2 n fun _=>0)++List.replicate (n-i) ([]:List Int))) (U1 n n fun _ _=>0) n (fun i hi=>.inl ?_) ?_ n 0 F O' O'
 ·grind
 ·unfold l0F;have h1:(i:Int)<(n:Int):=O'
  have f:y0 (List.replicate i (V2 n fun _=>0)++List.replicate (n-i) ([]:List Int)) (i:Int)=true:=V0 O' (by grind);have c:(List.replicate i (V2 n fun _=>0)++List.replicate (n-i) ([]:List Int)).set i (V2 n fun _=>0)=List.replicate (i+1) (V2 n fun _=>0)++List.replicate (n-(i+1)) ([]:List Int):=by
   rw[List.set_append_right _ _ Z',List.length_replicate,Nat.sub_self,show n-i=(n-(i+1))+1 from O',List.replicate_succ,List.set_cons_zero,List.replicate_succ' (n:=i),List.append_assoc];rfl
  simp only[h1,decide_true,if_true,d,f,Int.toNat_natCast,G07,c,X1 (i:=i) O']
 simp[l0F,I0t]
def g0x (n:Nat)(fB:Nat->Nat->Int)(i k:Nat):Int:=if i<n/\k<n then fB i k else 0
def e0R (n:Nat)(fD:Nat->Nat->Int)(i k:Nat):Int:=if i<n/\k<n then fD i k else if i<n/\k=n then 1 else if i=n/\k<n then -1 else 0
def H0m (h:a0y n fB fD):a0y (n+1) (g0x n fB) (e0R n fD) where
 b0 i k hi hk:=by unfold g0x;split;exact h.b0 i k O' O';omega
 bd i hi:=by unfold g0x;split;exact h.bd i O';rfl
 dd i hi:=by
  unfold e0R;split
  ·exact h.dd i O'
  omega
 d1 i k hi hk hne:=by
  unfold e0R
  by_cases h1:i<n/\k<n
  ·rw[if_pos h1];exact h.d1 i k h1.1 h1.2 hne
  omega
 dn i k hi hk:=by
  unfold e0R
  by_cases h1:i<n/\k<n
  ·rw[if_pos h1,if_pos ⟨h1.2,h1.1⟩];exact h.dn i k h1.1 h1.2
  omega
def D0X {m:Nat}(hm:n<=m)(f g:Nat->Int):j4 (V2 m f) (V2 n g)=V2 m fun k=>if k<n then g k else f k:=by
 unfold j4;refine ext_getElem V' fun i h1 c=>?_
 by_cases e:i<n
 ·simp_all[V2]
 simp_all[V2,if_neg]
def sB (n:Nat)(fB:Nat->Nat->Int)(i a k:Nat):Int:=if a<i/\k<n then fB a k else 0
def sD (n:Nat)(fD:Nat->Nat->Int)(i a k:Nat):Int:=if a<i/\k<n then fD a k else if a<i/\k=n then 1 else if a=n/\k<i then -1 else 0
theorem B0O (hn:n<=900)(f:2000<F)(h:a0y n fB fD):k0L F (U2 n fB fD)=some (U2 (n+1) (g0x n fB) (e0R n fD)):=by
 unfold k0L;rw[j0W O' f h];have hlen:((U2 n fB fD).B.length:Int)=(n:Int):=by simp[U2]
 simp only[q0,hlen,X1 (i:=n) O',u0f (n:=n+1) (F:=F) O' f];have:=H3 (step:=i0O F (U2 n fB fD)) (fun i=>((i:Int),U1 (n+1) (n+1) (sB n fB i),U1 (n+1) (n+1) (sD n fD i))) (U1 (n+1) (n+1) (g0x n fB),U1 (n+1) (n+1) (e0R n fD)) n (fun i hi=>.inl ?_) ?_ n 0 F O' O'
 ·have j:U1 (n+1) (n+1) (sB n fB 0)=U1 (n+1) (n+1) fun _ _=>0:=d0F fun i k _ _=>by rfl
  have g:U1 (n+1) (n+1) (sD n fD 0)=U1 (n+1) (n+1) fun _ _=>0:=d0F fun i k _ _=>by simp[sD]
  grind [U2]
 ·unfold i0O;have h1:(i:Int)<(n:Int):=O'
  have d:i<n+1:=O'
  have c:n<n+1:=O'
  simp only[hlen,h1,decide_true,if_true];simp only[U2,H9 _ hi,H9 _ d,R8 _ hi,R8 _ d,if_true,D0X (show n<=n+1 from O'),Int.toNat_natCast,m0L,H9 _ c,a0k _ c,R8 _ c,o0c,a0k _ d,X1 (i:=i) O'];congr 1;congr 1;congr 1;congr 1
  ·refine d0F fun a k ha hk=>?_;unfold sB
   by_cases e:a=i
   ·simp_all
   ·simp only[e,if_false];omega
  ·unfold sD
   grind
 ·unfold i0O;have h1:¬((n:Int)<(n:Int)):=O'
  simp only[q0,hlen,h1];congr 1
def F3 (f:Nat->Nat->Int)(g:Nat->Nat->Int)(i k a j:Nat):Int:=if a=i/\j<k then f a j else g a j
end
