/- P. Its conditions: none. -/
import Derived.Test.YtmhooikfkhjijaaGreatYG39
import Derived.Test.YtmhooikfkhjijaaGreatYBr2
open Nat (lt_or_ge zero_le sub_zero)
open List (mem_singleton mem_append length_cons)
set_option linter.all false
namespace Go.Proofs.YtmhooikfkhjijaaGreat.Old
open Go.V Go.RowKit
def Ctx.down {t:Tm}:∀{s:Tm} {lo:Nat} {fs:List Fr},Ctx t lo s fs->∀i,lo<=i->i<lo+s.size->∃lo' f e,Ctx t lo' f e/\f.top lo'=i:=by
 intro s
 induction s with
 |eps=>intro lo fs h i h1 d;exact⟨lo,.eps,fs,h,by simp only[Tm.top,Tm.size]at *;omega⟩
 |leaf s=>intro lo fs h i h1 d;exact⟨lo,.leaf s,fs,h,by simp only[Tm.top,Tm.size]at *;omega⟩
 |cat a b iha ihb=>
  intro lo fs h i h1 d;simp only[Tm.size]at d;rcases lt_or_ge i (lo+a.size)with c|c
  ·exact iha (fs:=.catL b :: fs) ⟨zero_le _,h⟩ i h1 c
  ·rcases lt_or_ge i (lo+a.size+b.size)with c2|c2
   ·exact ihb (lo:=lo+a.size) (fs:=.catR a :: fs) ⟨by simp[Fr.off],by simpa[Fr.off,Fr.E2]using h⟩ i c c2
   ·exact⟨lo,_,fs,h,by simp only[Tm.top,Tm.size];omega⟩
 |alt a b iha ihb=>
  intro lo fs h i h1 d;simp only[Tm.size]at d;rcases lt_or_ge i (lo+a.size)with c|c
  ·exact iha (fs:=.altL b :: fs) ⟨zero_le _,h⟩ i h1 c
  ·rcases lt_or_ge i (lo+a.size+b.size)with c2|c2
   ·exact ihb (lo:=lo+a.size) (fs:=.altR a :: fs) ⟨by simp[Fr.off],by simpa[Fr.off,Fr.E2]using h⟩ i c c2
   ·exact⟨lo,_,fs,h,by simp only[Tm.top,Tm.size];omega⟩
 |star a iha=>
  intro lo fs h i h1 d;simp only[Tm.size]at d;rcases lt_or_ge i (lo+a.size)with c|c
  ·exact iha (fs:=.star :: fs) ⟨zero_le _,h⟩ i h1 c
  ·exact⟨lo,_,fs,h,by simp only[Tm.top,Tm.size];omega⟩
 |maybe a iha=>
  intro lo fs h i h1 d;simp only[Tm.size]at d;rcases lt_or_ge i (lo+a.size)with c|c
  ·exact iha (fs:=.maybe :: fs) ⟨zero_le _,h⟩ i h1 c
  ·exact⟨lo,_,fs,h,by simp only[Tm.top,Tm.size];omega⟩
 |group n a iha=>
  intro lo fs h i h1 d;simp only[Tm.size]at d;rcases lt_or_ge i (lo+a.size)with c|c
  ·exact iha (fs:=.group n :: fs) ⟨zero_le _,h⟩ i h1 c
  ·exact⟨lo,_,fs,h,by simp only[Tm.top,Tm.size];omega⟩
 |iter a iha=>
  intro lo fs h i h1 d;simp only[Tm.size]at d;rcases lt_or_ge i (lo+a.size)with c|c
  ·exact iha (fs:=.iter :: fs) ⟨zero_le _,h⟩ i h1 c
  ·exact⟨lo,_,fs,h,by simp only[Tm.top,Tm.size];omega⟩
def Ctx.at_ {l:List C0}{t:Tm}(c:O2 l t):∀{fs:List Fr} {lo:Nat} {s:Tm},Ctx t lo s fs->At l lo s
 |[],lo,s,⟨h1,d⟩=>by subst h1;subst d;exact c.at0
 |f :: fs,lo,s,⟨ho,h⟩=>by
  have h1:=Ctx.at_ c h;cases f<;>simp only[Fr.E2,Fr.off,sub_zero]at h1 ho
  case catL b=>exact((At.bin rfl rfl).1 h1).1
  case altL b=>exact((At.bin rfl rfl).1 h1).1
  case catR a=>
   have:=((At.bin rfl rfl).1 h1).2.1
   rwa [show lo-a.size+a.size=lo from by omega]at this
  case altR a=>
   have:=((At.bin rfl rfl).1 h1).2.1
   rwa [show lo-a.size+a.size=lo from by omega]at this
  all_goals exact((At.un rfl rfl).1 h1).1
structure b0Y (l:List C0)(t:Tm)(p q:Nat)(S:List Int)(fs:List Fr):Prop where
 ctx:Ctx t q (.leaf S) fs
 num:L0 l q=p
 get:(L2 l l.length)[p]?=some (q:Int)
def A0j {l:List C0}{t:Tm}(c:O2 l t){p:Nat}(hp:p<L0 l l.length):∃q S fs,b0Y l t p q S fs:=by
 obtain⟨q,h1,g,d,f⟩:=c0J l l.length p hp;obtain⟨lo,s,fs,e,a⟩:=Ctx.down (t:=t) (s:=t) (lo:=0) (fs:=[]) ⟨rfl,rfl⟩ q (zero_le _) (by rw[c.len]at h1;omega);have b:=e.at_ c;have hg:=b.D2;rw[a]at hg;cases s with
 |leaf S=>
  simp only[Tm.top,Tm.size,Nat.add_sub_cancel]at a;subst a;exact⟨lo,S,fs,e,f,g⟩
 |_=>rw[hg]at d;simp[Tm.node]at d
def x0r {l:List C0}{t:Tm}(a:O2 l t):L0 l l.length=t.leaves:=by
 have:=b9 a.at0;rw[Nat.zero_add,<-a.len]at this;simpa[L0]using this
def s0h (n:Nat)(h:y0):Prop:=0<=h.To/\h.To<n/\h.Steps.length<=2000000
def Tm.i04 (s:Tm):∀(lo p:Nat) (ahead:List Int),s.size<=400->ahead.length+1000*s.size<=2000000->∀h∈s.Q0 lo p ahead,(p:Int)<=h.To/\h.To<((p+s.leaves:Nat):Int)/\h.Steps.length<=2000000:=by
 induction s with
 |eps=>intro lo p ahead _ _ h c;simp[Tm.Q0]at c
 |leaf s=>intro lo p ahead _ e h c;simp only[Tm.Q0,mem_singleton]at c;subst c;simp only[Tm.leaves,Tm.size]at *;refine⟨by simp,by simp;omega,by simp;omega⟩
 |cat a b d ihb=>
  intro lo p ahead f e h c;have g:=a.X8 lo;simp only[Tm.Q0,Tm.size,Tm.leaves,mem_append]at *;rcases c with c|c
  ·have:=d lo p _ (by omega) (by simp;omega) h c;refine⟨by omega,by omega,this.2.2⟩
  ·split at c
   ·have:=ihb (lo+a.size) (p+a.leaves) _ (by omega) (by simp;omega) h c;refine⟨by omega,by omega,this.2.2⟩
   ·simp at c
 |alt a b d ihb=>
  intro lo p ahead f e h c;simp only[Tm.Q0,Tm.size,Tm.leaves,mem_append]at *;rcases c with c|c
  ·have:=d lo p _ (by omega) (by simp;omega) h c;refine⟨by omega,by omega,this.2.2⟩
  ·have:=ihb (lo+a.size) (p+a.leaves) _ (by omega) (by simp;omega) h c;refine⟨by omega,by omega,this.2.2⟩
 |star a d|maybe a d|group _ a d|iter a d=>
  intro lo p ahead f e h c;simp only[Tm.Q0,Tm.size,Tm.leaves]at *;exact d lo p _ (by omega) (by simp;omega) h c
structure j8 (n:Nat)(out:List y0):Prop where
 ok:∀h∈out,s0h n h
 dist:out.Pairwise fun a b=>a.To≠b.To
def p0a {n:Nat}(d:Int):∀(r out:List y0),j8 n out->(∀h∈r,s0h n h)->j8 n (a6 d out r)
 |[],out,h,_=>h
 |x :: r,out,h,hr=>by
  simp only[a6];refine p0a d r _ ?_ (fun y c=>hr y (by simp[c]));split
  ·exact h
  ·rename_i g;have i:=hr x (by simp);refine⟨fun y c=>?_,?_⟩
   ·rcases mem_append.1 c with c|c
    ·exact h.ok y c
    ·simp only[mem_singleton]at c;subst c;exact i
   ·refine List.pairwise_append.2 ⟨h.dist,by simp,fun a ha b f=>?_⟩;simp only[mem_singleton]at f;subst f;intro e;exact g (List.any_eq_true.2 ⟨a,ha,by simpa using e⟩)
def c0z {l:List C0}{t:Tm}(g:O2 l t):∀(fs:List Fr) (lo:Nat) (s:Tm) (st:List Int) (out:List y0),Ctx t lo s fs->j8 t.leaves out->st.length+1000*fs.length<=500000->
  j8 t.leaves (n4 lo (L0 l lo) s st out fs).1/\(n4 lo (L0 l lo) s st out fs).2.1.length<=500000
 |[],lo,s,st,out,i,hw,hl=>⟨hw,by simp only[n4];simpa using hl⟩
 |f :: fs,lo,s,st,out,i,hw,hl=>by
  have c:=i.2.at_ g;have hlen:=c.len;have o:=g.le;have p:=g.len;have d:=h0p l hlen;rw[b9 c,x0r g]at d;have e:L0 l (lo-f.off)=L0 l lo-f.v7:=by
   cases f<;>simp only[Fr.E2,Fr.off,Fr.v7,sub_zero]at c ⊢
   case catR a=>
    have m:=i.1;simp only[Fr.off]at m;have:=b9 ((At.bin rfl rfl).1 c).1;rw[show lo-a.size+a.size=lo from by omega]at this;omega
   case altR a=>
    have m:=i.1;simp only[Fr.off]at m;have:=b9 ((At.bin rfl rfl).1 c).1;rw[show lo-a.size+a.size=lo from by omega]at this;omega
  simp only[length_cons]at hl;cases f with
  |catL b=>
   simp only[Fr.E2,Fr.off,sub_zero,Tm.leaves,Tm.size]at c d hlen;have q:=b.X8 (lo+s.size);have j:=p0a (n:=t.leaves) ((fs.length+1:Nat):Int) (b.Q0 (lo+s.size) (L0 l lo+s.leaves) st) out hw (fun h k=>by
    have:=b.i04 (lo+s.size) (L0 l lo+s.leaves) st (by omega) (by omega) h k;exact⟨by omega,by omega,this.2.2⟩)
   simp only[n4];split
   ·exact c0z g fs lo (.cat s b) _ _ i.2 j (by simp;omega)
   ·exact⟨j,by simp⟩
  |star=>
   simp only[Fr.E2,Fr.off,sub_zero,Tm.leaves,Tm.size]at c d hlen;have j:=p0a (n:=t.leaves) ((fs.length+1:Nat):Int) (s.Q0 lo (L0 l lo) st) out hw (fun h k=>by
    have:=s.i04 lo (L0 l lo) st (by omega) (by omega) h k;exact⟨by omega,by omega,this.2.2⟩)
   simp only[n4];exact c0z g fs lo (.star s) _ _ i.2 j (by simp;omega)
  |catR a=>
   have:=c0z g fs (lo-(Fr.catR a).off) ((Fr.catR a).E2 s) (st++[cls (((Fr.catR a).E2 s).top (lo-(Fr.catR a).off))]) out i.2 hw (by simp;omega);rw[e]at this;exact this
  |altR a=>
   have:=c0z g fs (lo-(Fr.altR a).off) ((Fr.altR a).E2 s) (st++[cls (((Fr.altR a).E2 s).top (lo-(Fr.altR a).off))]) out i.2 hw (by simp;omega);rw[e]at this;exact this
  |altL b=>
   have:=c0z g fs (lo-(Fr.altL b).off) ((Fr.altL b).E2 s) (st++[cls (((Fr.altL b).E2 s).top (lo-(Fr.altL b).off))]) out i.2 hw (by simp;omega);rw[e]at this;exact this
  |maybe=>
   have:=c0z g fs (lo-Fr.maybe.off) (Fr.maybe.E2 s) (st++[cls ((Fr.maybe.E2 s).top (lo-Fr.maybe.off))]) out i.2 hw (by simp;omega);rw[e]at this;exact this
  |group n=>
   have:=c0z g fs (lo-(Fr.group n).off) ((Fr.group n).E2 s) (st++[cls (((Fr.group n).E2 s).top (lo-(Fr.group n).off))]) out i.2 hw (by simp;omega);rw[e]at this;exact this
  |iter=>
   have:=c0z g fs (lo-Fr.iter.off) (Fr.iter.E2 s) (st++[cls ((Fr.iter.E2 s).top (lo-Fr.iter.off))]) out i.2 hw (by simp;omega);rw[e]at this;exact this
def j8.b0j {n:Nat}{out:List y0}(h:j8 n out)(hn:n<=1000)(hl:out.length<=1000000):b0j y0.To out=true:=by
 simp only[Go.V.b0j,Bool.and_eq_true,List.all_eq_true,decide_eq_true_eq];refine⟨⟨by omega,fun x a=>?_⟩,(l0u _ _).2 h.dist⟩;have:=h.ok x a;exact⟨this.1,by have:=this.2.1;omega⟩
def v0j {α:Type}(z:α)(ys:List α):G4 (List.replicate ys.length z) ys=ys:=by
 simp[G4]
def r0A {fuel:Nat}(out:List y0)(hl:out.length<=1000000)(e:out.length<fuel)(d:∀h∈out,h.Steps.length<=2000000):a0H fuel out=some out:=by
 have key:=R4 (step:=f0o fuel out) (fun i=>(out,(i:Int))) out out.length (fun i hi=>.inl (by
  have c:B0 out (i:Int)=true:=R0 (by omega) (by omega);have b:(i:Int)<(out.length:Int):=by omega
  have hg:gt out (i:Int)=out[i]:=B4 (by simp[hi]);have h1:=d out[i] (List.getElem_mem _);have a:V2 8 (out[i].Steps.length:Int)=true:=by simp[V2];omega
  unfold f0o;simp only[b,decide_true,if_true,c,hg,a,Int.toNat_natCast,v0j,G3 (show i<9223372036854775807 by omega)];rw[show(⟨out[i].To,out[i].Turn,out[i].Steps⟩:y0)=out[i]from rfl];simp)) (by unfold f0o;simp) out.length 0 fuel (by omega) (by omega)
 unfold a0H;rw[show(0:Int)=((0:Nat):Int)from rfl,key];rfl
def J7 (t:Tm)(p q:Nat)(S:List Int)(fs:List Fr):List y0×List Int×Bool:=n4 q p (.leaf S) [cls q] [] fs
def q0W {l:List C0}(hw:∀x∈l,o3 x){t:Tm}(b:O2 l t)(hR:K1 l=true){fuel:Nat}(a:401<fuel):∃c,a0Z fuel l=some (some c,true)/\h0m c l t:=by
 obtain⟨u,f,hu⟩:=l0S b hR a;obtain⟨d,e,hd⟩:=i0j b hR a;refine⟨⟨l,u,d,C7 l l.length,V8 l⟩,?_,⟨rfl,hu,hd,rfl,rfl⟩⟩;unfold a0Z;rw[c0Q l a,f,e,z0W hw a,s0c hw a];simp[hR,e0h]
def r08 {l:List C0}(hw:∀x∈l,o3 x){t:Tm}(h:O2 l t)(hR:K1 l=true){fuel:Nat}(d:401<fuel){p q:Nat}{S:List Int}{fs:List Fr}(hp:b0Y l t p q S fs)(g:p<L0 l l.length):
  ∃c,a0S fuel l (p:Int)=some (some c,(q:Int),true)/\h0m c l t:=by
 obtain⟨c,e,f⟩:=q0W hw h hR d;refine⟨c,?_,f⟩;have b:a0X l=L2 l l.length:=by simp[a0X,hR]
 have i:¬((p:Int)<0):=by omega
 have h1:¬((p:Int)>=((L2 l l.length).length:Int)):=by rw[I9];omega
 have a:B0 (L2 l l.length) (p:Int)=true:=R0 (by omega) (by rw[I9];omega);unfold a0S;rw[e,o0g hw d,b];simp[i,h1,a,B4 hp.get];omega
def s0y {l:List C0}(hw:∀x∈l,o3 x){t:Tm}(b:O2 l t)(hR:K1 l=true){c:U4}(f:h0m c l t){fuel:Nat}(j:1000001<fuel){p q:Nat}{S:List Int}{fs:List Fr}(hp:b0Y l t p q S fs):
  a00 fuel c (q:Int)=some ((J7 t p q S fs).1,if(J7 t p q S fs).2.2 then(J7 t p q S fs).2.1 else[]):=by
 have g:=b.le;have i:=b.len;have a:=hp.ctx.size;have e:=hp.ctx.at_ b;have n:q<l.length:=by have:=e.len;simp only[Tm.size]at this;omega
 have d:B0 c.up (q:Int)=true:=R0 (by omega) (by rw[f.up.len];omega);obtain⟨r,h1,h,k⟩:=E0h hw b hR f j (q:Int) fs q (.leaf S) [cls q] [] hp.ctx (by simp;simp only[Tm.size]at a;omega) (by simp;simp only[Tm.size]at a;omega) fuel (by simp only[Tm.size]at a;omega);unfold a00;rw[hp.num]at h;simp only[Tm.top,Tm.size,Nat.add_sub_cancel]at h1;simp only[d,if_true,o7 (show q<=1000000000 by omega),W9 (show q<=1000000000 by omega),h1,G0];unfold J7;rw[<-h];cases r with
 |inl y=>obtain⟨o,s⟩:=y;rfl
 |inr z=>obtain⟨m,z2⟩:=z;rw[k m z2 rfl];rfl
def r0o {l:List C0}{t:Tm}(b:O2 l t){p q:Nat}{S:List Int}{fs:List Fr}(hp:b0Y l t p q S fs):j8 t.leaves (J7 t p q S fs).1/\(J7 t p q S fs).2.1.length<=500000:=by
 have a:=hp.ctx.size;have c:=b.le;have:=c0z b fs q (.leaf S) [cls q] [] hp.ctx ⟨by simp,List.Pairwise.nil⟩ (by simp;simp only[Tm.size]at a;omega);rw[hp.num]at this;exact this
def c0S {l:List C0}{t:Tm}(c:O2 l t):∀(fs:List Fr) (lo p:Nat) (s:Tm) (st:List Int) (out:List y0),Ctx t lo s fs->out.length+1000*fs.length<=500000->(n4 lo p s st out fs).1.length<=500000
 |[],lo,p,s,st,out,d,hl=>by simp only[n4];simpa using hl
 |f :: fs,lo,p,s,st,out,d,hl=>by
  have e:=d.2.at_ c;have hlen:=e.len;have g:=c.le;have h:=c.len;simp only[length_cons]at hl;cases f with
  |catL b=>
   simp only[Fr.E2,Fr.off,sub_zero,Tm.size]at hlen;have h1:=f0h ((fs.length+1:Nat):Int) (b.Q0 (lo+s.size) (p+s.leaves) st) out;have j:=b.a0V (lo+s.size) (p+s.leaves) st;have i:=b.a0D;simp only[n4];split
   ·exact c0S c fs lo p (.cat s b) _ _ d.2 (by omega)
   ·dsimp only;omega
  |star=>
   simp only[Fr.E2,Fr.off,sub_zero,Tm.size]at hlen;have h1:=f0h ((fs.length+1:Nat):Int) (s.Q0 lo p st) out;have j:=s.a0V lo p st;have i:=s.a0D;simp only[n4];exact c0S c fs lo p (.star s) _ _ d.2 (by omega)
  |catR a=>exact c0S c fs (lo-(Fr.catR a).off) (p-(Fr.catR a).v7) ((Fr.catR a).E2 s) _ out d.2 (by omega)
  |altR a=>exact c0S c fs (lo-(Fr.altR a).off) (p-(Fr.altR a).v7) ((Fr.altR a).E2 s) _ out d.2 (by omega)
  |altL b=>exact c0S c fs (lo-(Fr.altL b).off) (p-(Fr.altL b).v7) ((Fr.altL b).E2 s) _ out d.2 (by omega)
  |maybe=>exact c0S c fs (lo-Fr.maybe.off) (p-Fr.maybe.v7) (Fr.maybe.E2 s) _ out d.2 (by omega)
  |group n=>exact c0S c fs (lo-(Fr.group n).off) (p-(Fr.group n).v7) ((Fr.group n).E2 s) _ out d.2 (by omega)
  |iter=>exact c0S c fs (lo-Fr.iter.off) (p-Fr.iter.v7) (Fr.iter.E2 s) _ out d.2 (by omega)
def q0A {l:List C0}{t:Tm}(b:O2 l t){p q:Nat}{S:List Int}{fs:List Fr}(hp:b0Y l t p q S fs):(J7 t p q S fs).1.length<=500000:=by
 have a:=hp.ctx.size;have c:=b.le;exact c0S b fs q p (.leaf S) [cls q] [] hp.ctx (by simp;simp only[Tm.size]at a;omega)
def u0M {l:List C0}(hw:∀x∈l,o3 x){t:Tm}(d:O2 l t)(hR:K1 l=true){fuel:Nat}(k:1000001<fuel){p q:Nat}{S:List Int}{fs:List Fr}(hp:b0Y l t p q S fs)(f:p<L0 l l.length):
  a06 fuel l (p:Int)=some (r7 y0.To (J7 t p q S fs).1):=by
 obtain⟨c,e,g⟩:=r08 hw d hR (show 401<fuel by omega) hp f;obtain⟨a,_⟩:=r0o d hp;have hl:=q0A d hp;have i:=d.lv;unfold a06;rw[e];simp only[G0,s0y hw d hR g k hp,a.b0j (by omega) (by omega),if_true];have b:=b0y y0.To (J7 t p q S fs).1;rw[r0A _ (by rw[e0j];omega) (by rw[e0j];omega) (fun h j=>(a.ok h (b.mem_iff.1 j)).2.2)];simp
def o8 (s:List Int):y0×Bool:=if s.length=0 then(⟨0,0,[]⟩,false)else(⟨-1,0,s⟩,true)
def q0j {l:List C0}(hw:∀x∈l,o3 x){t:Tm}(b:O2 l t)(hR:K1 l=true){fuel:Nat}(g:1000001<fuel){p q:Nat}{S:List Int}{fs:List Fr}(hp:b0Y l t p q S fs)(a:p<L0 l l.length):
  J9 fuel l (p:Int)=some (o8 (if(J7 t p q S fs).2.2 then(J7 t p q S fs).2.1 else[])):=by
 obtain⟨c,e,d⟩:=r08 hw b hR (show 401<fuel by omega) hp a;have h1:((p:Int)==-1)=false:=by simp
 unfold J9 o8;simp only[q0,h1,e,s0y hw b hR d g hp];generalize (if(J7 t p q S fs).2.2=true then(J7 t p q S fs).2.1 else[])=s
 by_cases f:s.length=0<;>simp[f]
def q0p {l:List C0}(hw:∀x∈l,o3 x){t:Tm}(a:O2 l t)(hR:K1 l=true){fuel:Nat}(h:1000001<fuel):J9 fuel l (-1)=some (o8 (if t.can then t.steps 0 else[]))/\m0j fuel l (-1)=some (o8 (if t.can then t.steps 0 else[])):=by
 have d:=a.le;have g:=a.len;have hp:=t.size_pos;have e:W ((l.length:Int)-1)=(t.top 0:Int):=by rw[n3 (by omega) (by omega)];unfold Tm.top;omega
 have c:a0X l=L2 l l.length:=by simp[a0X,hR]
 have f:¬((-1:Int)>=((L2 l l.length).length:Int)):=by omega
 constructor
 ·unfold J9 o8;simp only[beq_self_eq_true,if_true,e,l0k hw a hR (show 401<fuel by omega) a.at0,G0];generalize (if t.can=true then t.steps 0 else[])=s
  by_cases b:s.length=0
  ·simp[b]
  ·simp[b]
 ·unfold m0j o8;simp only[q0,show ¬((-1:Int) < -1)from by omega,e0f l (show l.length*64<=140737488351232 by omega) (show l.length+1<fuel by omega),hR,x0V hw (show l.length*64<=140737488351232 by omega) (show 401<fuel by omega) (by omega),c,f,beq_self_eq_true,e,A0A hw a hR (show 401<fuel by omega) a.at0];generalize (if t.can=true then t.steps 0 else[])=s
  by_cases b:s.length=0
  ·simp[b]
  ·simp[b]
def r00 {l:List C0}(hw:∀x∈l,o3 x){t:Tm}(a:O2 l t)(hR:K1 l=true){fuel:Nat}(q:1000001<fuel){lo:Nat}{s:Tm}(h:At l lo s):b0O fuel l (s.top lo:Int)=some (s.Q0 lo (L0 l lo) [])/\m0N fuel l (s.top lo:Int)=some (s.Q0 lo (L0 l lo) []):=by
 have d:=a.le;have j:=a.len;have g:=h.j5;have o:=h.len;have f:¬((s.top lo:Int)<0):=by omega
 have h1:¬((s.top lo:Int)>=(l.length:Int)):=by omega
 have k:=s.a0V lo (L0 l lo) [];have n:=s.a0D;constructor
 ·obtain⟨c,e,i⟩:=q0W hw a hR (show 401<fuel by omega);unfold b0O;rw[e];simp only[Bool.not_true,Bool.false_eq_true,if_false,f,decide_false,h1,G0,n05 hw a hR i (show 401<fuel by omega) s lo h fuel [] [] (by omega) (by simp;omega) (by simp;omega),List.nil_append];rw[r0A _ (by omega) (by omega) (fun p m=>(s.i04 lo (L0 l lo) [] (by omega) (by simp;omega) p m).2.2)];rfl
 ·unfold m0N;have b:e0h l=C7 l l.length:=by simp[e0h,hR]
  rw[e0f l (show l.length*64<=140737488351232 by omega) (show l.length+1<fuel by omega),hR];simp only[Bool.not_true,Bool.false_eq_true,if_false,f,decide_false,h1,G0,C00 hw (show l.length*64<=140737488351232 by omega) (show 401<fuel by omega) (by omega),q0H hw (show l.length*64<=140737488351232 by omega) (show 401<fuel by omega) (by omega),b,B00 a hR (show 401<fuel by omega) s lo h fuel [] (by omega) (by simp;omega)]
def P2 (B:Int)(st:List Int):Prop:=∀x∈st,0<=x/\x<=B
def P2.app {B:Int}{a b:List Int}(h:P2 B a)(k:P2 B b):P2 B (a++b):=fun x c=>(mem_append.1 c).elim (h x) (k x)
def P2.one {B x:Int}(b:0<=x)(h:x<=B):P2 B [x]:=fun y a=>by simp at a;subst a;exact⟨b,h⟩
def P2.nil {B:Int}:P2 B []:=fun _ h=>by cases h
def P2.O0 {B:Int}{q:Nat}(h:2*(q:Int)+1<=B):P2 B [O0 q]:=P2.one (by unfold Old.O0;omega) (by unfold Old.O0;omega)
def P2.cls {B:Int}{q:Nat}(h:2*(q:Int)+1<=B):P2 B [cls q]:=P2.one (by unfold Old.cls;omega) (by unfold Old.cls;omega)
def P2.two {B:Int}{q:Nat}(h:2*(q:Int)+1<=B):P2 B [Old.O0 q,Old.cls q]:=P2.app (P2.O0 h) (P2.cls h)
def Tm.m0I (t:Tm):∀(lo:Nat) (B:Int),2*((lo+t.size:Nat):Int)<=B->P2 B (t.steps lo):=by
 induction t with
 |eps=>intro lo B h;simp only[Tm.size]at h;simp only[Tm.steps];exact P2.two (by omega)
 |leaf s=>intro lo B h;simp only[Tm.size]at h;simp only[Tm.steps];exact P2.two (by omega)
 |cat a b c ihb=>
  intro lo B h;simp only[Tm.size]at h;simp only[Tm.steps];have d:2*((Tm.top (.cat a b) lo:Nat):Int)+1<=B:=by simp only[Tm.top,Tm.size];omega
  exact((P2.O0 d).app ((c lo B (by omega)).app (ihb (lo+a.size) B (by omega)))).app (P2.cls d)
 |alt a b c ihb=>
  intro lo B h;simp only[Tm.size]at h;simp only[Tm.steps];have d:2*((Tm.top (.alt a b) lo:Nat):Int)+1<=B:=by simp only[Tm.top,Tm.size];omega
  refine((P2.O0 d).app ?_).app (P2.cls d);split
  ·exact c lo B (by omega)
  ·exact ihb (lo+a.size) B (by omega)
 |star a c=>intro lo B h;simp only[Tm.size]at h;simp only[Tm.steps];exact P2.two (by simp only[Tm.top,Tm.size];omega)
 |maybe a c=>intro lo B h;simp only[Tm.size]at h;simp only[Tm.steps];exact P2.two (by simp only[Tm.top,Tm.size];omega)
 |group n a c=>
  intro lo B h;simp only[Tm.size]at h;simp only[Tm.steps];have d:2*((Tm.top (.group n a) lo:Nat):Int)+1<=B:=by simp only[Tm.top,Tm.size];omega
  exact((P2.O0 d).app (c lo B (by omega))).app (P2.cls d)
 |iter a c=>
  intro lo B h;simp only[Tm.size]at h;simp only[Tm.steps];have d:2*((Tm.top (.iter a) lo:Nat):Int)+1<=B:=by simp only[Tm.top,Tm.size];omega
  exact((P2.O0 d).app (c lo B (by omega))).app (P2.cls d)
def N8 (B:Int)(l:List y0):Prop:=∀h∈l,P2 B h.Steps
def N8.app {B:Int}{a b:List y0}(h:N8 B a)(k:N8 B b):N8 B (a++b):=fun x c=>(mem_append.1 c).elim (h x) (k x)
def Tm.m0Q (t:Tm):∀(lo p:Nat) (ahead:List Int) (B:Int),2*((lo+t.size:Nat):Int)<=B->P2 B ahead->N8 B (t.Q0 lo p ahead):=by
 induction t with
 |eps=>intro lo p ahead B h k x d;simp[Tm.Q0]at d
 |leaf s=>intro lo p ahead B h k x d;simp only[Tm.size]at h;simp only[Tm.Q0,mem_singleton]at d;subst d;exact k.app (P2.O0 (by omega))
 |cat a b c ihb=>
  intro lo p ahead B h k;simp only[Tm.size]at h;simp only[Tm.Q0];have f:2*((Tm.top (.cat a b) lo:Nat):Int)+1<=B:=by simp only[Tm.top,Tm.size];omega
  have e:=k.app (P2.O0 f);refine(c lo p _ B (by omega) e).app ?_;split
  ·exact ihb _ _ _ B (by omega) (e.app (a.m0I lo B (by omega)))
  ·intro x d;cases d
 |alt a b c ihb=>
  intro lo p ahead B h k;simp only[Tm.size]at h;simp only[Tm.Q0];have f:2*((Tm.top (.alt a b) lo:Nat):Int)+1<=B:=by simp only[Tm.top,Tm.size];omega
  have e:=k.app (P2.O0 f);exact(c lo p _ B (by omega) e).app (ihb _ _ _ B (by omega) e)
 |star a c|maybe a c|group n a c|iter a c=>
  intro lo p ahead B h k;simp only[Tm.size]at h;simp only[Tm.Q0];exact c lo p _ B (by omega) (k.app (P2.O0 (by simp only[Tm.top,Tm.size];omega)))
def j0h {B:Int}(d:Int):∀(r out:List y0),N8 B out->N8 B r->N8 B (a6 d out r)
 |[],out,h,_=>h
 |x :: r,out,h,k=>by
  simp only[a6];have b:N8 B r:=fun y a=>k y (List.mem_cons_of_mem _ a);split
  ·exact j0h d r out h b
  ·exact j0h d r _ (h.app fun y a=>by simp at a;subst a;exact k x (by simp)) b
def Ctx.lo_le {t:Tm}:∀{fs:List Fr} {lo:Nat} {s:Tm},Ctx t lo s fs->lo+s.size<=t.size
 |[],lo,s,⟨a,h⟩=>by subst h;omega
 |f :: fs,lo,s,⟨a,h⟩=>by
  have:=Ctx.lo_le h;cases f<;>simp[Fr.E2,Fr.off,Tm.size]at this a ⊢<;>omega
def j0p {t:Tm}{B:Int}(e:2*(t.size:Int)<=B):∀(fs:List Fr) (lo p:Nat) (s:Tm) (st:List Int) (out:List y0),Ctx t lo s fs->P2 B st->N8 B out->
  N8 B (n4 lo p s st out fs).1/\P2 B (n4 lo p s st out fs).2.1
 |[],lo,p,s,st,out,_,h,k=>by simp only[n4];exact⟨k,h⟩
 |f :: fs,lo,p,s,st,out,hx,h,k=>by
  have d:=Ctx.lo_le hx.2;have c:=hx.2;have g:=hx.1;cases f with
  |catL b=>
   simp only[Fr.E2,Fr.off,sub_zero,Tm.size]at d c g;have j:=b.m0I (lo+s.size) B (by omega);have hi:=b.m0Q (lo+s.size) (p+s.leaves) st B (by omega) h;have i:=j0h ((fs.length+1:Nat):Int) _ _ k hi;simp only[n4];split
   ·exact j0p e fs lo p _ _ _ c ((h.app j).app (P2.cls (by simp only[Tm.top,Tm.size];omega))) i
   ·exact⟨i,P2.nil⟩
  |star=>
   simp only[Fr.E2,Fr.off,sub_zero,Tm.size]at d c g;simp only[n4];exact j0p e fs lo p _ _ _ c (h.app (P2.cls (by simp only[Tm.top,Tm.size];omega))) (j0h _ _ _ k (s.m0Q lo p st B (by omega) h))
  |catR a|altL b|altR a|maybe|group n|iter=>
   simp only[Fr.E2,Fr.off,sub_zero,Tm.size]at d c g;simp only[n4,Fr.E2,Fr.off,Fr.v7,sub_zero];exact j0p e fs _ _ _ _ _ c (h.app (P2.cls (by simp only[Tm.top,Tm.size];omega))) k
def a0m (l:List y0):Prop:=∀h∈l,0<=h.Turn/\h.Turn<=400
def a0m.app {a b:List y0}(h:a0m a)(k:a0m b):a0m (a++b):=fun x c=>(mem_append.1 c).elim (h x) (k x)
def Tm.D0L (t:Tm):∀(lo p:Nat) (ahead:List Int),a0m (t.Q0 lo p ahead):=by
 induction t with
 |eps=>intro lo p ahead x e;simp[Tm.Q0]at e
 |leaf s=>intro lo p ahead x e;simp only[Tm.Q0,mem_singleton]at e;subst e;exact⟨Int.le_refl _,show(0:Int)<=400 by omega⟩
 |cat a b c d=>
  intro lo p ahead;simp only[Tm.Q0];refine(c lo p _).app ?_;split
  ·exact d _ _ _
  ·intro x e;cases e
 |alt a b c d=>intro lo p ahead;simp only[Tm.Q0];exact(c lo p _).app (d _ _ _)
 |star a c|maybe a c|group n a c|iter a c=>intro lo p ahead;simp only[Tm.Q0];exact c lo p _
def j0T {d:Int}(a:0<=d)(h1:d<=400):∀(r out:List y0),a0m out->a0m (a6 d out r)
 |[],out,h=>h
 |x :: r,out,h=>by
  simp only[a6];split
  ·exact j0T a h1 r out h
  ·exact j0T a h1 r _ (h.app fun y b=>by simp at b;subst b;exact⟨a,h1⟩)
def k0A {t:Tm}(g:t.size<=400):∀(fs:List Fr) (lo p:Nat) (s:Tm) (st:List Int) (out:List y0),Ctx t lo s fs->a0m out->a0m (n4 lo p s st out fs).1
 |[],lo,p,s,st,out,_,k=>by simp only[n4];exact k
 |f :: fs,lo,p,s,st,out,hx,k=>by
  have e:=Ctx.size hx;have c:=hx.2;have:=s.size_pos;simp only[length_cons]at e;cases f with
  |catL b=>
   simp only[Fr.E2,Fr.off,sub_zero]at c;have h:=j0T (d:=((fs.length+1:Nat):Int)) (by omega) (by omega) (b.Q0 (lo+s.size) (p+s.leaves) st) out k;simp only[n4];split
   ·exact k0A g fs lo p _ _ _ c h
   ·exact h
  |star=>
   simp only[Fr.E2,Fr.off,sub_zero]at c;simp only[n4];exact k0A g fs lo p _ _ _ c (j0T (by omega) (by omega) _ _ k)
  |catR a|altL b|altR a|maybe|group n|iter=>
   simp only[Fr.E2,Fr.off,sub_zero]at c;simp only[n4,Fr.E2,Fr.off,Fr.v7,sub_zero];exact k0A g fs _ _ _ _ _ c k
end Go.Proofs.YtmhooikfkhjijaaGreat.Old
namespace Go.Proofs.YtmhooikfkhjijaaGreat.Old
open Go.V Go.RowKit
def p0J {s:List Int}(h:s.length<=500000):(o8 s).1.Steps.length<=500000:=by
 unfold o8;split<;>simp[h]
def Tm.l0n (s:Tm):∀(lo p:Nat) (ahead:List Int),(∀h∈s.Q0 lo p ahead,(p:Int)<=h.To/\h.To<((p+s.leaves:Nat):Int))/\(s.Q0 lo p ahead).Pairwise fun a b=>a.To<b.To:=by
 induction s with
 |eps=>intro lo p ahead;simp[Tm.Q0]
 |leaf s=>intro lo p ahead;simp[Tm.Q0,Tm.leaves];omega
 |cat a b c ihb=>
  intro lo p ahead;simp only[Tm.Q0,Tm.leaves];obtain⟨h1,e⟩:=c lo p (ahead++[O0 (Tm.top (.cat a b) lo)]);split
  ·refine⟨fun h d=>?_,List.pairwise_append.2 ⟨e,(ihb _ _ _).2,fun x f y g=>?_⟩⟩
   ·rcases mem_append.1 d with d|d
    ·have:=h1 h d;omega
    ·have:=(ihb _ _ _).1 h d;omega
   ·have:=h1 x f;have:=(ihb _ _ _).1 y g;omega
  ·simp only[List.append_nil];exact⟨fun h d=>by have:=h1 h d;omega,e⟩
 |alt a b c ihb=>
  intro lo p ahead;simp only[Tm.Q0,Tm.leaves];obtain⟨h1,e⟩:=c lo p (ahead++[O0 (Tm.top (.alt a b) lo)]);obtain⟨i,j⟩:=ihb (lo+a.size) (p+a.leaves) (ahead++[O0 (Tm.top (.alt a b) lo)]);refine⟨fun h d=>?_,List.pairwise_append.2 ⟨e,j,fun x f y g=>?_⟩⟩
  ·rcases mem_append.1 d with d|d
   ·have:=h1 h d;omega
   ·have:=i h d;omega
  ·have:=h1 x f;have:=i y g;omega
 |star a c|maybe a c|group _ a c|iter a c=>
  intro lo p ahead;simp only[Tm.Q0,Tm.leaves];exact c lo p _
def v0i {l:List C0}{t:Tm}(c:O2 l t):j8 t.leaves (t.Q0 0 0 []):=by
 have b:=c.le;have d:=c.len;exact⟨fun h a=>⟨(by have:=(t.l0n 0 0 []).1 h a;omega),(by have:=(t.l0n 0 0 []).1 h a;omega),(t.i04 0 0 [] (by omega) (by simp;omega) h a).2.2⟩,(t.l0n 0 0 []).2.imp fun h=>by omega⟩
def v07 {n:Nat}{out:List y0}(h:j8 n out):j8 n (r7 y0.To out):=by
 refine⟨fun x c=>h.ok x ((b0y y0.To _).mem_iff.1 c),?_⟩;have hp:=b0y y0.To out;exact hp.symm.pairwise_iff (R:=fun a b:y0=>a.To≠b.To) (fun h=>h.symm) |>.1 h.dist
structure j06 (l:List C0)(n:Nat)(a:List y0)(b:Nat->List y0)(e:Nat->y0×Bool)(z:y0×Bool):Prop where
 n64:n<=400
 aw:j8 n a
 bw:∀p,p<n->j8 n (b p)
 el:∀p,p<n->(e p).1.Steps.length<=500000
 zl:z.1.Steps.length<=500000
 e0:∀p,p<n->(e p).2=decide ((e p).1.Steps≠[])
 z0:z.2=decide (z.1.Steps≠[])
 ab:N8 800 a
 bb:∀p,p<n->N8 800 (b p)
 eb:∀p,p<n->P2 800 (e p).1.Steps
 zb:P2 800 z.1.Steps
 al:a.length<=500000
 aT:a0m a
 bT:∀p,p<n->a0m (b p)
 bl:∀p,p<n->(b p).length<=500000
def p0W {B:Int}{s:List Int}(h:P2 B s):P2 B (o8 s).1.Steps:=by
 unfold o8;split
 ·exact P2.nil
 ·exact h
def s0Q {l:List C0}{t:Tm}(c:O2 l t){p q:Nat}{S:List Int}{fs:List Fr}(hp:b0Y l t p q S fs):N8 800 (J7 t p q S fs).1/\P2 800 (J7 t p q S fs).2.1:=by
 have b:=c.le;have a:=Ctx.lo_le hp.ctx;simp only[Tm.size]at a;exact j0p (by omega) fs q p _ _ _ hp.ctx (P2.cls (by omega)) (fun _ h=>by cases h)
end Go.Proofs.YtmhooikfkhjijaaGreat.Old
namespace Go.Proofs.YtmhooikfkhjijaaGreat
open Go.V Go.RowKit Old
def q0q (s:List Int):(o8 s).2=decide ((o8 s).1.Steps≠[]):=by
 unfold o8;split
 ·simp
 ·rename_i h;simp;intro e;exact h (by simp[e])
structure k0b (l:List C0)(n:Nat)(a:List y0)(b:Nat->List y0)(e:Nat->y0×Bool)(z:y0×Bool)(F:Nat):Prop where
 mR:c7 F l=some true
 rR:B6 F l=some true
 mL:K7 F l=some (L2 l l.length)
 mA:b0O F l ((l.length:Int)-1)=some a
 mZ:J9 F l (-1)=some z
 mB:∀p:Nat,p<n->a06 F l (p:Int)=some (b p)
 mE:∀p:Nat,p<n->J9 F l (p:Int)=some (e p)
def B8 {α:Type}{o n:Option α}(h:Ref o n Eq){x:α}(e:o=some x):n=some x:=by
 obtain⟨y,h1,a⟩:=h.run x e;rw[h1,a]
def f08 {l:List C0}(hw:∀x∈l,o3 x)(hl:l.length*64<=140737488351232)(hR:K1 l=true):∃a b e z,j06 l (L0 l l.length) a b e z/\∀F,1000001<F->l.length+1<F->k0b l (L0 l l.length) a b e z F:=by
 obtain⟨t,d⟩:=a04 hw hR;have m:=d.le;have n:=d.len;have hn:t.leaves=L0 l l.length:=by
  have h:=b9 d.at0;rw[Nat.zero_add,<-n]at h;rw[h];simp[L0]
 have f:∀p:Nat,∃x:List y0×(y0×Bool),p<L0 l l.length->(j8 (L0 l l.length) x.1/\x.2.1.Steps.length<=500000/\x.2.2=decide (x.2.1.Steps≠[])/\N8 800 x.1/\P2 800 x.2.1.Steps/\x.1.length<=500000/\a0m x.1/\
   ∀F,1000001<F->l.length+1<F->a06 F l (p:Int)=some x.1/\J9 F l (p:Int)=some x.2):=by
  intro p
  by_cases hp:p<L0 l l.length
  ·obtain⟨r,S,fs,c⟩:=A0j d hp;obtain⟨j,hlen⟩:=r0o d c;refine⟨(r7 y0.To (J7 t p r S fs).1,o8 (if(J7 t p r S fs).2.2 then(J7 t p r S fs).2.1 else[])),fun _=>⟨?_,?_,q0q _,fun h o=>(s0Q d c).1 h ((b0y y0.To _).mem_iff.1 o),p0W ?_,by rw[e0j];exact q0A d c,fun h o=>k0A m fs _ _ _ _ _ c.ctx (fun _ h=>by cases h) h ((b0y y0.To _).mem_iff.1 o),fun F i g=>⟨?_,?_⟩⟩⟩
   ·rw[<-hn];exact v07 j
   ·refine p0J ?_;split
    ·exact hlen
    ·simp
   ·split
    ·exact(s0Q d c).2
    ·exact P2.nil
   ·exact B8 t0d (Old.u0M hw d hR i c hp)
   ·exact B8 j0d (Old.q0j hw d hR i c hp)
  ·exact⟨([],(⟨0,0,[]⟩,false)),fun h=>absurd h hp⟩
 have v:=t.X8 0;refine⟨t.Q0 0 0 [],fun p=>(Classical.choose (f p)).1,fun p=>(Classical.choose (f p)).2,o8 (if t.can then t.steps 0 else[]),⟨?_,?_,?_,?_,?_,?_,?_,?_,?_,?_,?_,?_,?_,?_,?_⟩,fun F i g=>?_⟩
 ·have:=c0Z l l.length;omega
 ·rw[<-hn];exact v0i d
 ·intro p hp;exact(Classical.choose_spec (f p) hp).1
 ·intro p hp;exact(Classical.choose_spec (f p) hp).2.1
 ·refine p0J ?_;split
  ·omega
  ·simp
 ·intro p hp;exact(Classical.choose_spec (f p) hp).2.2.1
 ·exact q0q _
 ·exact t.m0Q 0 0 [] 800 (by omega) P2.nil
 ·intro p hp;exact(Classical.choose_spec (f p) hp).2.2.2.1
 ·intro p hp;exact(Classical.choose_spec (f p) hp).2.2.2.2.1
 ·refine p0W ?_;split
  ·exact t.m0I 0 800 (by omega)
  ·exact P2.nil
 ·have:=t.a0V 0 0 [];have:=t.a0D;omega
 ·exact t.D0L 0 0 []
 ·intro p hp;exact(Classical.choose_spec (f p) hp).2.2.2.2.2.2.1
 ·intro p hp;exact(Classical.choose_spec (f p) hp).2.2.2.2.2.1
 ·have q:a0X l=L2 l l.length:=by simp[a0X,hR]
  obtain⟨h1,w⟩:=Old.q0p hw d hR i;obtain⟨s,u⟩:=Old.r00 hw d hR i d.at0;have k:((t.top 0:Nat):Int)=(l.length:Int)-1:=by have:=t.size_pos;unfold Tm.top;omega
  rw[k]at s u;exact⟨B8 g0k (by rw[Old.c0Q l (by omega),hR]),B8 o0w (by rw[Old.e0f l hl g,hR]),B8 u0E (by rw[Old.o0g hw (by omega),q]),B8 q0Y s,B8 j0d h1,
   fun p hp=>((Classical.choose_spec (f p) hp).2.2.2.2.2.2.2 F i g).1,fun p hp=>((Classical.choose_spec (f p) hp).2.2.2.2.2.2.2 F i g).2⟩
end Go.Proofs.YtmhooikfkhjijaaGreat
