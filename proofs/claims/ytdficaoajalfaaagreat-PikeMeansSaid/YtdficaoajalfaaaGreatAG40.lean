/- The ways from a place, to the end, and Q0 a node: the program and the document tell the same. How great the numbers of steps may be. What the program and the document tell of a term's ways. Its conditions: none. -/
import Derived.Test.YtdficaoajalfaaaGreatAG39
import Derived.Test.YtdficaoajalfaaaGreatABr2
open Nat (lt_or_ge zero_le sub_zero)
open List (mem_singleton mem_append length_cons)
set_option linter.all false
namespace Go.Proofs.YtdficaoajalfaaaGreat.Old
open Go.V Go.RowKit
theorem Ctx.down {t:Tm}:∀ {s:Tm} {lo:Nat} {fs:List Fr},Ctx t lo s fs->∀ i,lo<=i->i<lo+s.size->∃ lo' s' fs',Ctx t lo' s' fs'/\s'.top lo'=i:=by
 intro s
 induction s with
 |eps=>intro lo fs h i h1 h2;exact ⟨lo,.eps,fs,h,by simp only [Tm.top,Tm.size] at *;omega⟩
 |leaf s=>intro lo fs h i h1 h2;exact ⟨lo,.leaf s,fs,h,by simp only [Tm.top,Tm.size] at *;omega⟩
 |
  cat a b iha ihb=>
  intro lo fs h i h1 h2;simp only [Tm.size] at h2;rcases lt_or_ge i (lo+a.size) with c | c
  ·exact iha (fs:=.catL b :: fs) ⟨zero_le _,h⟩ i h1 c
  ·rcases lt_or_ge i (lo+a.size+b.size) with c2 | c2
   ·exact ihb (lo:=lo+a.size) (fs:=.catR a :: fs) ⟨by simp [Fr.off],by simpa [Fr.off,Fr.E2] using h⟩ i c c2
   ·exact ⟨lo,_,fs,h,by simp only [Tm.top,Tm.size];omega⟩
 |
  alt a b iha ihb=>
  intro lo fs h i h1 h2;simp only [Tm.size] at h2;rcases lt_or_ge i (lo+a.size) with c | c
  ·exact iha (fs:=.altL b :: fs) ⟨zero_le _,h⟩ i h1 c
  ·rcases lt_or_ge i (lo+a.size+b.size) with c2 | c2
   ·exact ihb (lo:=lo+a.size) (fs:=.altR a :: fs) ⟨by simp [Fr.off],by simpa [Fr.off,Fr.E2] using h⟩ i c c2
   ·exact ⟨lo,_,fs,h,by simp only [Tm.top,Tm.size];omega⟩
 |
  star a iha=>
  intro lo fs h i h1 h2;simp only [Tm.size] at h2;rcases lt_or_ge i (lo+a.size) with c | c
  ·exact iha (fs:=.star :: fs) ⟨zero_le _,h⟩ i h1 c
  ·exact ⟨lo,_,fs,h,by simp only [Tm.top,Tm.size];omega⟩
 |
  maybe a iha=>
  intro lo fs h i h1 h2;simp only [Tm.size] at h2;rcases lt_or_ge i (lo+a.size) with c | c
  ·exact iha (fs:=.maybe :: fs) ⟨zero_le _,h⟩ i h1 c
  ·exact ⟨lo,_,fs,h,by simp only [Tm.top,Tm.size];omega⟩
 |
  group n a iha=>
  intro lo fs h i h1 h2;simp only [Tm.size] at h2;rcases lt_or_ge i (lo+a.size) with c | c
  ·exact iha (fs:=.group n :: fs) ⟨zero_le _,h⟩ i h1 c
  ·exact ⟨lo,_,fs,h,by simp only [Tm.top,Tm.size];omega⟩
 |
  iter a iha=>
  intro lo fs h i h1 h2;simp only [Tm.size] at h2;rcases lt_or_ge i (lo+a.size) with c | c
  ·exact iha (fs:=.iter :: fs) ⟨zero_le _,h⟩ i h1 c
  ·exact ⟨lo,_,fs,h,by simp only [Tm.top,Tm.size];omega⟩
theorem Ctx.at_ {l:List C0} {t:Tm} (ht:O2 l t):∀ {fs:List Fr} {lo:Nat} {s:Tm},Ctx t lo s fs->At l lo s
 |[],lo,s,⟨h1,h2⟩=>by subst h1;subst h2;exact ht.at0
 |
  f :: fs,lo,s,⟨ho,h⟩=>by
  have h1:=Ctx.at_ ht h;cases f<;>simp only [Fr.E2,Fr.off,sub_zero] at h1 ho
  case catL b=>exact ((At.bin rfl rfl).1 h1).1
  case altL b=>exact ((At.bin rfl rfl).1 h1).1
  case catR a=>
   have:=((At.bin rfl rfl).1 h1).2.1
   rwa [show lo-a.size+a.size=lo from by omega] at this
  case altR a=>
   have:=((At.bin rfl rfl).1 h1).2.1
   rwa [show lo-a.size+a.size=lo from by omega] at this
  all_goals exact ((At.un rfl rfl).1 h1).1
structure b0Y (l:List C0) (t:Tm) (p q:Nat) (S:List Int) (fs:List Fr):Prop where
 ctx:Ctx t q (.leaf S) fs
 num:L0 l q=p
 get:(L2 l l.length)[p]?=some (q:Int)
theorem A0j {l:List C0} {t:Tm} (ht:O2 l t) {p:Nat} (hp:p<L0 l l.length):∃ q S fs,b0Y l t p q S fs:=by
 obtain ⟨q,h1,h2,h3,h4⟩:=c0J l l.length p hp;obtain ⟨lo,s,fs,hx,hs⟩:=Ctx.down (t:=t) (s:=t) (lo:=0) (fs:=[]) ⟨rfl,rfl⟩ q (zero_le _) (by rw [ht.len] at h1;omega);have hat:=hx.at_ ht;have hg:=hat.D2;rw [hs] at hg;cases s with
 |
  leaf S=>
  simp only [Tm.top,Tm.size,Nat.add_sub_cancel] at hs;subst hs;exact ⟨lo,S,fs,hx,h4,h2⟩
 |_=>rw [hg] at h3;simp [Tm.node] at h3
theorem x0r {l:List C0} {t:Tm} (ht:O2 l t):L0 l l.length=t.leaves:=by
 have:=b9 ht.at0;rw [Nat.zero_add,<-ht.len] at this;simpa [L0] using this
def s0h (n:Nat) (h:y0):Prop:=0<=h.To/\h.To<n/\h.Steps.length<=2000000
theorem Tm.i04 (s:Tm):∀ (lo p:Nat) (ahead:List Int),s.size<=400->ahead.length+1000*s.size<=2000000->∀ h∈s.Q0 lo p ahead,(p:Int)<=h.To/\h.To<((p+s.leaves:Nat):Int)/\h.Steps.length<=2000000:=by
 induction s with
 |eps=>intro lo p ahead _ _ h hh;simp [Tm.Q0] at hh
 |leaf s=>intro lo p ahead _ ho h hh;simp only [Tm.Q0,mem_singleton] at hh;subst hh;simp only [Tm.leaves,Tm.size] at *;refine ⟨by simp,by simp;omega,by simp;omega⟩
 |
  cat a b iha ihb=>
  intro lo p ahead hs ho h hh;have sa:=a.X8 lo;simp only [Tm.Q0,Tm.size,Tm.leaves,mem_append] at *;rcases hh with hh | hh
  ·have:=iha lo p _ (by omega) (by simp;omega) h hh;refine ⟨by omega,by omega,this.2.2⟩
  ·split at hh
   ·have:=ihb (lo+a.size) (p+a.leaves) _ (by omega) (by simp;omega) h hh;refine ⟨by omega,by omega,this.2.2⟩
   ·simp at hh
 |
  alt a b iha ihb=>
  intro lo p ahead hs ho h hh;simp only [Tm.Q0,Tm.size,Tm.leaves,mem_append] at *;rcases hh with hh | hh
  ·have:=iha lo p _ (by omega) (by simp;omega) h hh;refine ⟨by omega,by omega,this.2.2⟩
  ·have:=ihb (lo+a.size) (p+a.leaves) _ (by omega) (by simp;omega) h hh;refine ⟨by omega,by omega,this.2.2⟩
 |
  star a iha | maybe a iha | group _ a iha | iter a iha=>
  intro lo p ahead hs ho h hh;simp only [Tm.Q0,Tm.size,Tm.leaves] at *;exact iha lo p _ (by omega) (by simp;omega) h hh
structure j8 (n:Nat) (out:List y0):Prop where
 ok:∀ h∈out,s0h n h
 dist:out.Pairwise fun a b=>a.To≠b.To
theorem p0a {n:Nat} (d:Int):∀ (r out:List y0),j8 n out->(∀ h∈r,s0h n h)->j8 n (a6 d out r)
 |[],out,h,_=>h
 |
  x :: r,out,h,hr=>by
  simp only [a6];refine p0a d r _ ?_ (fun y hy=>hr y (by simp [hy]));split
  ·exact h
  ·rename_i hc;have hx:=hr x (by simp);refine ⟨fun y hy=>?_,?_⟩
   ·rcases mem_append.1 hy with hy | hy
    ·exact h.ok y hy
    ·simp only [mem_singleton] at hy;subst hy;exact hx
   ·refine List.pairwise_append.2 ⟨h.dist,by simp,fun a ha b hb=>?_⟩;simp only [mem_singleton] at hb;subst hb;intro e;exact hc (List.any_eq_true.2 ⟨a,ha,by simpa using e⟩)
theorem c0z {l:List C0} {t:Tm} (ht:O2 l t):∀ (fs:List Fr) (lo:Nat) (s:Tm) (st:List Int) (out:List y0),Ctx t lo s fs->j8 t.leaves out->st.length+1000*fs.length<=500000->
  j8 t.leaves (n4 lo (L0 l lo) s st out fs).1/\(n4 lo (L0 l lo) s st out fs).2.1.length<=500000
 |[],lo,s,st,out,hx,hw,hl=>⟨hw,by simp only [n4];simpa using hl⟩
 |
  f :: fs,lo,s,st,out,hx,hw,hl=>by
  have hpar:=hx.2.at_ ht;have hlen:=hpar.len;have h400:=ht.le;have hln:=ht.len;have hmono:=h0p l hlen;rw [b9 hpar,x0r ht] at hmono;have hlv:L0 l (lo-f.off)=L0 l lo-f.v7:=by
   cases f<;>simp only [Fr.E2,Fr.off,Fr.v7,sub_zero] at hpar ⊢
   case catR a=>
    have h0:=hx.1;simp only [Fr.off] at h0;have:=b9 ((At.bin rfl rfl).1 hpar).1;rw [show lo-a.size+a.size=lo from by omega] at this;omega
   case altR a=>
    have h0:=hx.1;simp only [Fr.off] at h0;have:=b9 ((At.bin rfl rfl).1 hpar).1;rw [show lo-a.size+a.size=lo from by omega] at this;omega
  simp only [length_cons] at hl;cases f with
  |
   catL b=>
   simp only [Fr.E2,Fr.off,sub_zero,Tm.leaves,Tm.size] at hpar hmono hlen;have hbs:=b.X8 (lo+s.size);have hw':=p0a (n:=t.leaves) ((fs.length+1:Nat):Int) (b.Q0 (lo+s.size) (L0 l lo+s.leaves) st) out hw (fun h hh=>by
    have:=b.i04 (lo+s.size) (L0 l lo+s.leaves) st (by omega) (by omega) h hh;exact ⟨by omega,by omega,this.2.2⟩)
   simp only [n4];split
   ·exact c0z ht fs lo (.cat s b) _ _ hx.2 hw' (by simp;omega)
   ·exact ⟨hw',by simp⟩
  |
   star=>
   simp only [Fr.E2,Fr.off,sub_zero,Tm.leaves,Tm.size] at hpar hmono hlen;have hw':=p0a (n:=t.leaves) ((fs.length+1:Nat):Int) (s.Q0 lo (L0 l lo) st) out hw (fun h hh=>by
    have:=s.i04 lo (L0 l lo) st (by omega) (by omega) h hh;exact ⟨by omega,by omega,this.2.2⟩)
   simp only [n4];exact c0z ht fs lo (.star s) _ _ hx.2 hw' (by simp;omega)
  |
   catR a=>
   have:=c0z ht fs (lo-(Fr.catR a).off) ((Fr.catR a).E2 s) (st++[cls (((Fr.catR a).E2 s).top (lo-(Fr.catR a).off))]) out hx.2 hw (by simp;omega);rw [hlv] at this;exact this
  |
   altR a=>
   have:=c0z ht fs (lo-(Fr.altR a).off) ((Fr.altR a).E2 s) (st++[cls (((Fr.altR a).E2 s).top (lo-(Fr.altR a).off))]) out hx.2 hw (by simp;omega);rw [hlv] at this;exact this
  |
   altL b=>
   have:=c0z ht fs (lo-(Fr.altL b).off) ((Fr.altL b).E2 s) (st++[cls (((Fr.altL b).E2 s).top (lo-(Fr.altL b).off))]) out hx.2 hw (by simp;omega);rw [hlv] at this;exact this
  |
   maybe=>
   have:=c0z ht fs (lo-Fr.maybe.off) (Fr.maybe.E2 s) (st++[cls ((Fr.maybe.E2 s).top (lo-Fr.maybe.off))]) out hx.2 hw (by simp;omega);rw [hlv] at this;exact this
  |
   group n=>
   have:=c0z ht fs (lo-(Fr.group n).off) ((Fr.group n).E2 s) (st++[cls (((Fr.group n).E2 s).top (lo-(Fr.group n).off))]) out hx.2 hw (by simp;omega);rw [hlv] at this;exact this
  |
   iter=>
   have:=c0z ht fs (lo-Fr.iter.off) (Fr.iter.E2 s) (st++[cls ((Fr.iter.E2 s).top (lo-Fr.iter.off))]) out hx.2 hw (by simp;omega);rw [hlv] at this;exact this
theorem j8.b0j {n:Nat} {out:List y0} (h:j8 n out) (hn:n<=1000) (hl:out.length<=1000000):b0j y0.To out=true:=by
 simp only [Go.V.b0j,Bool.and_eq_true,List.all_eq_true,decide_eq_true_eq];refine ⟨⟨by omega,fun x hx=>?_⟩,(l0u _ _).2 h.dist⟩;have:=h.ok x hx;exact ⟨this.1,by have:=this.2.1;omega⟩
theorem v0j {α:Type} (z:α) (ys:List α):G4 (List.replicate ys.length z) ys=ys:=by
 simp [G4]
theorem r0A {fuel:Nat} (out:List y0) (hl:out.length<=1000000) (hf:out.length<fuel) (hs:∀ h∈out,h.Steps.length<=2000000):a0H fuel out=some out:=by
 have key:=R4 (step:=f0o fuel out) (fun i=>(out,(i:Int))) out out.length (fun i hi=>.inl (by
  have hin:B0 out (i:Int)=true:=R0 (by omega) (by omega);have hd1:(i:Int)<(out.length:Int):=by omega
  have hg:gt out (i:Int)=out[i]:=B4 (by simp [hi]);have h1:=hs out[i] (List.getElem_mem _);have hmk:V2 8 (out[i].Steps.length:Int)=true:=by simp [V2];omega
  unfold f0o;simp only [hd1,decide_true,if_true,hin,hg,hmk,Int.toNat_natCast,v0j,G3 (show i<9223372036854775807 by omega)];rw [show (⟨out[i].To,out[i].Turn,out[i].Steps⟩:y0)=out[i] from rfl];simp)) (by unfold f0o;simp) out.length 0 fuel (by omega) (by omega)
 unfold a0H;rw [show (0:Int)=((0:Nat):Int) from rfl,key];rfl
def J7 (t:Tm) (p q:Nat) (S:List Int) (fs:List Fr):List y0×List Int×Bool:=n4 q p (.leaf S) [cls q] [] fs
theorem q0W {l:List C0} (hw:∀ x∈l,o3 x) {t:Tm} (ht:O2 l t) (hR:K1 l=true) {fuel:Nat} (hf:401<fuel):∃ c,a0Z fuel l=some (some c,true)/\h0m c l t:=by
 obtain ⟨u,e1,hu⟩:=l0S ht hR hf;obtain ⟨d,e2,hd⟩:=i0j ht hR hf;refine ⟨⟨l,u,d,C7 l l.length,V8 l⟩,?_,⟨rfl,hu,hd,rfl,rfl⟩⟩;unfold a0Z;rw [c0Q l hf,e1,e2,z0W hw hf,s0c hw hf];simp [hR,e0h]
theorem r08 {l:List C0} (hw:∀ x∈l,o3 x) {t:Tm} (ht:O2 l t) (hR:K1 l=true) {fuel:Nat} (hf:401<fuel) {p q:Nat} {S:List Int} {fs:List Fr} (hp:b0Y l t p q S fs) (hpl:p<L0 l l.length) :
  ∃ c,a0S fuel l (p:Int)=some (some c,(q:Int),true)/\h0m c l t:=by
 obtain ⟨c,e,hc⟩:=q0W hw ht hR hf;refine ⟨c,?_,hc⟩;have hLF:a0X l=L2 l l.length:=by simp [a0X,hR]
 have h0:¬ ((p:Int)<0):=by omega
 have h1:¬ ((p:Int)>=((L2 l l.length).length:Int)):=by rw [I9];omega
 have hin:B0 (L2 l l.length) (p:Int)=true:=R0 (by omega) (by rw [I9];omega);unfold a0S;rw [e,o0g hw hf,hLF];simp [h0,h1,hin,B4 hp.get];omega
theorem s0y {l:List C0} (hw:∀ x∈l,o3 x) {t:Tm} (ht:O2 l t) (hR:K1 l=true) {c:U4} (hc:h0m c l t) {fuel:Nat} (hf:1000001<fuel) {p q:Nat} {S:List Int} {fs:List Fr} (hp:b0Y l t p q S fs) :
  a00 fuel c (q:Int)=some ((J7 t p q S fs).1,if (J7 t p q S fs).2.2 then (J7 t p q S fs).2.1 else []):=by
 have h400:=ht.le;have hln:=ht.len;have hsz:=hp.ctx.size;have hat:=hp.ctx.at_ ht;have hq:q<l.length:=by have:=hat.len;simp only [Tm.size] at this;omega
 have hiu:B0 c.up (q:Int)=true:=R0 (by omega) (by rw [hc.up.len];omega);obtain ⟨r,h1,h2,h3⟩:=E0h hw ht hR hc hf (q:Int) fs q (.leaf S) [cls q] [] hp.ctx (by simp;simp only [Tm.size] at hsz;omega) (by simp;simp only [Tm.size] at hsz;omega) fuel (by simp only [Tm.size] at hsz;omega);unfold a00;rw [hp.num] at h2;simp only [Tm.top,Tm.size,Nat.add_sub_cancel] at h1;simp only [hiu,if_true,o7 (show q<=1000000000 by omega),W9 (show q<=1000000000 by omega),h1,G0];unfold J7;rw [<-h2];cases r with
 |inl y=>obtain ⟨y1,y2⟩:=y;rfl
 |inr z=>obtain ⟨z1,z2⟩:=z;rw [h3 z1 z2 rfl];rfl
theorem r0o {l:List C0} {t:Tm} (ht:O2 l t) {p q:Nat} {S:List Int} {fs:List Fr} (hp:b0Y l t p q S fs):j8 t.leaves (J7 t p q S fs).1/\(J7 t p q S fs).2.1.length<=500000:=by
 have hsz:=hp.ctx.size;have h400:=ht.le;have:=c0z ht fs q (.leaf S) [cls q] [] hp.ctx ⟨by simp,List.Pairwise.nil⟩ (by simp;simp only [Tm.size] at hsz;omega);rw [hp.num] at this;exact this
theorem c0S {l:List C0} {t:Tm} (ht:O2 l t):∀ (fs:List Fr) (lo p:Nat) (s:Tm) (st:List Int) (out:List y0),Ctx t lo s fs->out.length+1000*fs.length<=500000->(n4 lo p s st out fs).1.length<=500000
 |[],lo,p,s,st,out,hx,hl=>by simp only [n4];simpa using hl
 |
  f :: fs,lo,p,s,st,out,hx,hl=>by
  have hpar:=hx.2.at_ ht;have hlen:=hpar.len;have h400:=ht.le;have hln:=ht.len;simp only [length_cons] at hl;cases f with
  |
   catL b=>
   simp only [Fr.E2,Fr.off,sub_zero,Tm.size] at hlen;have h1:=f0h ((fs.length+1:Nat):Int) (b.Q0 (lo+s.size) (p+s.leaves) st) out;have h2:=b.a0V (lo+s.size) (p+s.leaves) st;have h3:=b.a0D;simp only [n4];split
   ·exact c0S ht fs lo p (.cat s b) _ _ hx.2 (by omega)
   ·dsimp only;omega
  |
   star=>
   simp only [Fr.E2,Fr.off,sub_zero,Tm.size] at hlen;have h1:=f0h ((fs.length+1:Nat):Int) (s.Q0 lo p st) out;have h2:=s.a0V lo p st;have h3:=s.a0D;simp only [n4];exact c0S ht fs lo p (.star s) _ _ hx.2 (by omega)
  |catR a=>exact c0S ht fs (lo-(Fr.catR a).off) (p-(Fr.catR a).v7) ((Fr.catR a).E2 s) _ out hx.2 (by omega)
  |altR a=>exact c0S ht fs (lo-(Fr.altR a).off) (p-(Fr.altR a).v7) ((Fr.altR a).E2 s) _ out hx.2 (by omega)
  |altL b=>exact c0S ht fs (lo-(Fr.altL b).off) (p-(Fr.altL b).v7) ((Fr.altL b).E2 s) _ out hx.2 (by omega)
  |maybe=>exact c0S ht fs (lo-Fr.maybe.off) (p-Fr.maybe.v7) (Fr.maybe.E2 s) _ out hx.2 (by omega)
  |group n=>exact c0S ht fs (lo-(Fr.group n).off) (p-(Fr.group n).v7) ((Fr.group n).E2 s) _ out hx.2 (by omega)
  |iter=>exact c0S ht fs (lo-Fr.iter.off) (p-Fr.iter.v7) (Fr.iter.E2 s) _ out hx.2 (by omega)
theorem q0A {l:List C0} {t:Tm} (ht:O2 l t) {p q:Nat} {S:List Int} {fs:List Fr} (hp:b0Y l t p q S fs):(J7 t p q S fs).1.length<=500000:=by
 have hsz:=hp.ctx.size;have h400:=ht.le;exact c0S ht fs q p (.leaf S) [cls q] [] hp.ctx (by simp;simp only [Tm.size] at hsz;omega)
theorem u0M {l:List C0} (hw:∀ x∈l,o3 x) {t:Tm} (ht:O2 l t) (hR:K1 l=true) {fuel:Nat} (hf:1000001<fuel) {p q:Nat} {S:List Int} {fs:List Fr} (hp:b0Y l t p q S fs) (hpl:p<L0 l l.length) :
  a06 fuel l (p:Int)=some (r7 y0.To (J7 t p q S fs).1):=by
 obtain ⟨c,e,hc⟩:=r08 hw ht hR (show 401<fuel by omega) hp hpl;obtain ⟨hways,_⟩:=r0o ht hp;have hl:=q0A ht hp;have hlv:=ht.lv;unfold a06;rw [e];simp only [G0,s0y hw ht hR hc hf hp,hways.b0j (by omega) (by omega),if_true];have hperm:=b0y y0.To (J7 t p q S fs).1;rw [r0A _ (by rw [e0j];omega) (by rw [e0j];omega) (fun h hh=>(hways.ok h (hperm.mem_iff.1 hh)).2.2)];simp
def o8 (s:List Int):y0×Bool:=if s.length=0 then (⟨0,0,[]⟩,false) else (⟨-1,0,s⟩,true)
theorem q0j {l:List C0} (hw:∀ x∈l,o3 x) {t:Tm} (ht:O2 l t) (hR:K1 l=true) {fuel:Nat} (hf:1000001<fuel) {p q:Nat} {S:List Int} {fs:List Fr} (hp:b0Y l t p q S fs) (hpl:p<L0 l l.length) :
  J9 fuel l (p:Int)=some (o8 (if (J7 t p q S fs).2.2 then (J7 t p q S fs).2.1 else [])):=by
 obtain ⟨c,e,hc⟩:=r08 hw ht hR (show 401<fuel by omega) hp hpl;have h1:((p:Int)==-1)=false:=by simp
 unfold J9 o8;simp only [h1,Bool.false_eq_true,if_false,e,G0,if_true,s0y hw ht hR hc hf hp];generalize (if (J7 t p q S fs).2.2=true then (J7 t p q S fs).2.1 else [])=s
 by_cases hs:s.length=0<;>simp [hs]
theorem q0p {l:List C0} (hw:∀ x∈l,o3 x) {t:Tm} (ht:O2 l t) (hR:K1 l=true) {fuel:Nat} (hf:1000001<fuel):J9 fuel l (-1)=some (o8 (if t.can then t.steps 0 else []))/\m0j fuel l (-1)=some (o8 (if t.can then t.steps 0 else [])):=by
 have h400:=ht.le;have hln:=ht.len;have hp:=t.size_pos;have hW:W ((l.length:Int)-1)=(t.top 0:Int):=by rw [n3 (by omega) (by omega)];unfold Tm.top;omega
 have hLF:a0X l=L2 l l.length:=by simp [a0X,hR]
 have h3:¬ ((-1:Int)>=((L2 l l.length).length:Int)):=by omega
 constructor
 ·unfold J9 o8;simp only [beq_self_eq_true,if_true,hW,l0k hw ht hR (show 401<fuel by omega) ht.at0,G0];generalize (if t.can=true then t.steps 0 else [])=s
  by_cases hs:s.length=0
  ·simp [hs]
  ·simp [hs]
 ·unfold m0j o8;simp only [show ¬ ((-1:Int) < -1) from by omega,decide_false,Bool.false_eq_true,if_false,e0f l (show l.length*64<=140737488351232 by omega) (show l.length+1<fuel by omega),hR,Bool.not_true,G0,x0V hw (show l.length*64<=140737488351232 by omega) (show 401<fuel by omega) (by omega),hLF,h3,beq_self_eq_true,if_true,hW,A0A hw ht hR (show 401<fuel by omega) ht.at0];generalize (if t.can=true then t.steps 0 else [])=s
  by_cases hs:s.length=0
  ·simp [hs]
  ·simp [hs]
theorem r00 {l:List C0} (hw:∀ x∈l,o3 x) {t:Tm} (ht:O2 l t) (hR:K1 l=true) {fuel:Nat} (hf:1000001<fuel) {lo:Nat} {s:Tm} (h:At l lo s):b0O fuel l (s.top lo:Int)=some (s.Q0 lo (L0 l lo) [])/\m0N fuel l (s.top lo:Int)=some (s.Q0 lo (L0 l lo) []):=by
 have h400:=ht.le;have hln:=ht.len;have htop:=h.j5;have hsl:=h.len;have h0:¬ ((s.top lo:Int)<0):=by omega
 have h1:¬ ((s.top lo:Int)>=(l.length:Int)):=by omega
 have hil:=s.a0V lo (L0 l lo) [];have hls:=s.a0D;constructor
 ·obtain ⟨c,e,hc⟩:=q0W hw ht hR (show 401<fuel by omega);unfold b0O;rw [e];simp only [Bool.not_true,Bool.false_eq_true,if_false,h0,decide_false,h1,G0,n05 hw ht hR hc (show 401<fuel by omega) s lo h fuel [] [] (by omega) (by simp;omega) (by simp;omega),List.nil_append];rw [r0A _ (by omega) (by omega) (fun h' hh=>(s.i04 lo (L0 l lo) [] (by omega) (by simp;omega) h' hh).2.2)];rfl
 ·unfold m0N;have hIF:e0h l=C7 l l.length:=by simp [e0h,hR]
  rw [e0f l (show l.length*64<=140737488351232 by omega) (show l.length+1<fuel by omega),hR];simp only [Bool.not_true,Bool.false_eq_true,if_false,h0,decide_false,h1,G0,C00 hw (show l.length*64<=140737488351232 by omega) (show 401<fuel by omega) (by omega),q0H hw (show l.length*64<=140737488351232 by omega) (show 401<fuel by omega) (by omega),hIF,B00 ht hR (show 401<fuel by omega) s lo h fuel [] (by omega) (by simp;omega)]
def P2 (B:Int) (st:List Int):Prop:=∀ x∈st,0<=x/\x<=B
theorem P2.app {B:Int} {a b:List Int} (h:P2 B a) (k:P2 B b):P2 B (a++b):=fun x hx=>(mem_append.1 hx).elim (h x) (k x)
theorem P2.one {B x:Int} (h0:0<=x) (h:x<=B):P2 B [x]:=fun y hy=>by simp at hy;subst hy;exact ⟨h0,h⟩
theorem P2.nil {B:Int}:P2 B []:=fun _ h=>by cases h
theorem P2.O0 {B:Int} {q:Nat} (h:2*(q:Int)+1<=B):P2 B [O0 q]:=P2.one (by unfold Old.O0;omega) (by unfold Old.O0;omega)
theorem P2.cls {B:Int} {q:Nat} (h:2*(q:Int)+1<=B):P2 B [cls q]:=P2.one (by unfold Old.cls;omega) (by unfold Old.cls;omega)
theorem P2.two {B:Int} {q:Nat} (h:2*(q:Int)+1<=B):P2 B [Old.O0 q,Old.cls q]:=P2.app (P2.O0 h) (P2.cls h)
theorem Tm.m0I (t:Tm):∀ (lo:Nat) (B:Int),2*((lo+t.size:Nat):Int)<=B->P2 B (t.steps lo):=by
 induction t with
 |eps=>intro lo B h;simp only [Tm.size] at h;simp only [Tm.steps];exact P2.two (by omega)
 |leaf s=>intro lo B h;simp only [Tm.size] at h;simp only [Tm.steps];exact P2.two (by omega)
 |
  cat a b iha ihb=>
  intro lo B h;simp only [Tm.size] at h;simp only [Tm.steps];have ht:2*((Tm.top (.cat a b) lo:Nat):Int)+1<=B:=by simp only [Tm.top,Tm.size];omega
  exact ((P2.O0 ht).app ((iha lo B (by omega)).app (ihb (lo+a.size) B (by omega)))).app (P2.cls ht)
 |
  alt a b iha ihb=>
  intro lo B h;simp only [Tm.size] at h;simp only [Tm.steps];have ht:2*((Tm.top (.alt a b) lo:Nat):Int)+1<=B:=by simp only [Tm.top,Tm.size];omega
  refine ((P2.O0 ht).app ?_).app (P2.cls ht);split
  ·exact iha lo B (by omega)
  ·exact ihb (lo+a.size) B (by omega)
 |star a iha=>intro lo B h;simp only [Tm.size] at h;simp only [Tm.steps];exact P2.two (by simp only [Tm.top,Tm.size];omega)
 |maybe a iha=>intro lo B h;simp only [Tm.size] at h;simp only [Tm.steps];exact P2.two (by simp only [Tm.top,Tm.size];omega)
 |
  group n a iha=>
  intro lo B h;simp only [Tm.size] at h;simp only [Tm.steps];have ht:2*((Tm.top (.group n a) lo:Nat):Int)+1<=B:=by simp only [Tm.top,Tm.size];omega
  exact ((P2.O0 ht).app (iha lo B (by omega))).app (P2.cls ht)
 |
  iter a iha=>
  intro lo B h;simp only [Tm.size] at h;simp only [Tm.steps];have ht:2*((Tm.top (.iter a) lo:Nat):Int)+1<=B:=by simp only [Tm.top,Tm.size];omega
  exact ((P2.O0 ht).app (iha lo B (by omega))).app (P2.cls ht)
def N8 (B:Int) (l:List y0):Prop:=∀ h∈l,P2 B h.Steps
theorem N8.app {B:Int} {a b:List y0} (h:N8 B a) (k:N8 B b):N8 B (a++b):=fun x hx=>(mem_append.1 hx).elim (h x) (k x)
theorem Tm.m0Q (t:Tm):∀ (lo p:Nat) (ahead:List Int) (B:Int),2*((lo+t.size:Nat):Int)<=B->P2 B ahead->N8 B (t.Q0 lo p ahead):=by
 induction t with
 |eps=>intro lo p ahead B h k x hx;simp [Tm.Q0] at hx
 |leaf s=>intro lo p ahead B h k x hx;simp only [Tm.size] at h;simp only [Tm.Q0,mem_singleton] at hx;subst hx;exact k.app (P2.O0 (by omega))
 |
  cat a b iha ihb=>
  intro lo p ahead B h k;simp only [Tm.size] at h;simp only [Tm.Q0];have ht:2*((Tm.top (.cat a b) lo:Nat):Int)+1<=B:=by simp only [Tm.top,Tm.size];omega
  have k1:=k.app (P2.O0 ht);refine (iha lo p _ B (by omega) k1).app ?_;split
  ·exact ihb _ _ _ B (by omega) (k1.app (a.m0I lo B (by omega)))
  ·intro x hx;cases hx
 |
  alt a b iha ihb=>
  intro lo p ahead B h k;simp only [Tm.size] at h;simp only [Tm.Q0];have ht:2*((Tm.top (.alt a b) lo:Nat):Int)+1<=B:=by simp only [Tm.top,Tm.size];omega
  have k1:=k.app (P2.O0 ht);exact (iha lo p _ B (by omega) k1).app (ihb _ _ _ B (by omega) k1)
 |
  star a iha | maybe a iha | group n a iha | iter a iha=>
  intro lo p ahead B h k;simp only [Tm.size] at h;simp only [Tm.Q0];exact iha lo p _ B (by omega) (k.app (P2.O0 (by simp only [Tm.top,Tm.size];omega)))
theorem j0h {B:Int} (d:Int):∀ (r out:List y0),N8 B out->N8 B r->N8 B (a6 d out r)
 |[],out,h,_=>h
 |
  x :: r,out,h,k=>by
  simp only [a6];have kr:N8 B r:=fun y hy=>k y (List.mem_cons_of_mem _ hy);split
  ·exact j0h d r out h kr
  ·exact j0h d r _ (h.app fun y hy=>by simp at hy;subst hy;exact k x (by simp)) kr
theorem Ctx.lo_le {t:Tm}:∀ {fs:List Fr} {lo:Nat} {s:Tm},Ctx t lo s fs->lo+s.size<=t.size
 |[],lo,s,⟨h0,h⟩=>by subst h;omega
 |
  f :: fs,lo,s,⟨h0,h⟩=>by
  have:=Ctx.lo_le h;cases f<;>simp [Fr.E2,Fr.off,Tm.size] at this h0 ⊢<;>omega
theorem j0p {t:Tm} {B:Int} (hB:2*(t.size:Int)<=B):∀ (fs:List Fr) (lo p:Nat) (s:Tm) (st:List Int) (out:List y0),Ctx t lo s fs->P2 B st->N8 B out->
  N8 B (n4 lo p s st out fs).1/\P2 B (n4 lo p s st out fs).2.1
 |[],lo,p,s,st,out,_,h,k=>by simp only [n4];exact ⟨k,h⟩
 |
  f :: fs,lo,p,s,st,out,hx,h,k=>by
  have hlo:=Ctx.lo_le hx.2;have hx2:=hx.2;have h0:=hx.1;cases f with
  |
   catL b=>
   simp only [Fr.E2,Fr.off,sub_zero,Tm.size] at hlo hx2 h0;have hs:=b.m0I (lo+s.size) B (by omega);have hi:=b.m0Q (lo+s.size) (p+s.leaves) st B (by omega) h;have ht:=j0h ((fs.length+1:Nat):Int) _ _ k hi;simp only [n4];split
   ·exact j0p hB fs lo p _ _ _ hx2 ((h.app hs).app (P2.cls (by simp only [Tm.top,Tm.size];omega))) ht
   ·exact ⟨ht,P2.nil⟩
  |
   star=>
   simp only [Fr.E2,Fr.off,sub_zero,Tm.size] at hlo hx2 h0;simp only [n4];exact j0p hB fs lo p _ _ _ hx2 (h.app (P2.cls (by simp only [Tm.top,Tm.size];omega))) (j0h _ _ _ k (s.m0Q lo p st B (by omega) h))
  |
   catR a | altL b | altR a | maybe | group n | iter=>
   simp only [Fr.E2,Fr.off,sub_zero,Tm.size] at hlo hx2 h0;simp only [n4,Fr.E2,Fr.off,Fr.v7,sub_zero];exact j0p hB fs _ _ _ _ _ hx2 (h.app (P2.cls (by simp only [Tm.top,Tm.size];omega))) k
def a0m (l:List y0):Prop:=∀ h∈l,0<=h.Turn/\h.Turn<=400
theorem a0m.app {a b:List y0} (h:a0m a) (k:a0m b):a0m (a++b):=fun x hx=>(mem_append.1 hx).elim (h x) (k x)
theorem Tm.D0L (t:Tm):∀ (lo p:Nat) (ahead:List Int),a0m (t.Q0 lo p ahead):=by
 induction t with
 |eps=>intro lo p ahead x hx;simp [Tm.Q0] at hx
 |leaf s=>intro lo p ahead x hx;simp only [Tm.Q0,mem_singleton] at hx;subst hx;exact ⟨Int.le_refl _,show (0:Int)<=400 by omega⟩
 |
  cat a b iha ihb=>
  intro lo p ahead;simp only [Tm.Q0];refine (iha lo p _).app ?_;split
  ·exact ihb _ _ _
  ·intro x hx;cases hx
 |alt a b iha ihb=>intro lo p ahead;simp only [Tm.Q0];exact (iha lo p _).app (ihb _ _ _)
 |star a iha | maybe a iha | group n a iha | iter a iha=>intro lo p ahead;simp only [Tm.Q0];exact iha lo p _
theorem j0T {d:Int} (h0:0<=d) (h1:d<=400):∀ (r out:List y0),a0m out->a0m (a6 d out r)
 |[],out,h=>h
 |
  x :: r,out,h=>by
  simp only [a6];split
  ·exact j0T h0 h1 r out h
  ·exact j0T h0 h1 r _ (h.app fun y hy=>by simp at hy;subst hy;exact ⟨h0,h1⟩)
theorem k0A {t:Tm} (ht:t.size<=400):∀ (fs:List Fr) (lo p:Nat) (s:Tm) (st:List Int) (out:List y0),Ctx t lo s fs->a0m out->a0m (n4 lo p s st out fs).1
 |[],lo,p,s,st,out,_,k=>by simp only [n4];exact k
 |
  f :: fs,lo,p,s,st,out,hx,k=>by
  have hsz:=Ctx.size hx;have hx2:=hx.2;have:=s.size_pos;simp only [length_cons] at hsz;cases f with
  |
   catL b=>
   simp only [Fr.E2,Fr.off,sub_zero] at hx2;have h:=j0T (d:=((fs.length+1:Nat):Int)) (by omega) (by omega) (b.Q0 (lo+s.size) (p+s.leaves) st) out k;simp only [n4];split
   ·exact k0A ht fs lo p _ _ _ hx2 h
   ·exact h
  |
   star=>
   simp only [Fr.E2,Fr.off,sub_zero] at hx2;simp only [n4];exact k0A ht fs lo p _ _ _ hx2 (j0T (by omega) (by omega) _ _ k)
  |
   catR a | altL b | altR a | maybe | group n | iter=>
   simp only [Fr.E2,Fr.off,sub_zero] at hx2;simp only [n4,Fr.E2,Fr.off,Fr.v7,sub_zero];exact k0A ht fs _ _ _ _ _ hx2 k
end Go.Proofs.YtdficaoajalfaaaGreat.Old
namespace Go.Proofs.YtdficaoajalfaaaGreat.Old
open Go.V Go.RowKit
theorem p0J {s:List Int} (h:s.length<=500000):(o8 s).1.Steps.length<=500000:=by
 unfold o8;split<;>simp [h]
theorem Tm.l0n (s:Tm):∀ (lo p:Nat) (ahead:List Int),(∀ h∈s.Q0 lo p ahead,(p:Int)<=h.To/\h.To<((p+s.leaves:Nat):Int))/\(s.Q0 lo p ahead).Pairwise fun a b=>a.To<b.To:=by
 induction s with
 |eps=>intro lo p ahead;simp [Tm.Q0]
 |leaf s=>intro lo p ahead;simp [Tm.Q0,Tm.leaves];omega
 |
  cat a b iha ihb=>
  intro lo p ahead;simp only [Tm.Q0,Tm.leaves];obtain ⟨h1,h2⟩:=iha lo p (ahead++[O0 (Tm.top (.cat a b) lo)]);split
  ·refine ⟨fun h hh=>?_,List.pairwise_append.2 ⟨h2,(ihb _ _ _).2,fun x hx y hy=>?_⟩⟩
   ·rcases mem_append.1 hh with hh | hh
    ·have:=h1 h hh;omega
    ·have:=(ihb _ _ _).1 h hh;omega
   ·have:=h1 x hx;have:=(ihb _ _ _).1 y hy;omega
  ·simp only [List.append_nil];exact ⟨fun h hh=>by have:=h1 h hh;omega,h2⟩
 |
  alt a b iha ihb=>
  intro lo p ahead;simp only [Tm.Q0,Tm.leaves];obtain ⟨h1,h2⟩:=iha lo p (ahead++[O0 (Tm.top (.alt a b) lo)]);obtain ⟨h3,h4⟩:=ihb (lo+a.size) (p+a.leaves) (ahead++[O0 (Tm.top (.alt a b) lo)]);refine ⟨fun h hh=>?_,List.pairwise_append.2 ⟨h2,h4,fun x hx y hy=>?_⟩⟩
  ·rcases mem_append.1 hh with hh | hh
   ·have:=h1 h hh;omega
   ·have:=h3 h hh;omega
  ·have:=h1 x hx;have:=h3 y hy;omega
 |
  star a iha | maybe a iha | group _ a iha | iter a iha=>
  intro lo p ahead;simp only [Tm.Q0,Tm.leaves];exact iha lo p _
theorem v0i {l:List C0} {t:Tm} (ht:O2 l t):j8 t.leaves (t.Q0 0 0 []):=by
 have h400:=ht.le;have hln:=ht.len;exact ⟨fun h hh=>⟨(by have:=(t.l0n 0 0 []).1 h hh;omega),(by have:=(t.l0n 0 0 []).1 h hh;omega),(t.i04 0 0 [] (by omega) (by simp;omega) h hh).2.2⟩,(t.l0n 0 0 []).2.imp fun h=>by omega⟩
theorem v07 {n:Nat} {out:List y0} (h:j8 n out):j8 n (r7 y0.To out):=by
 refine ⟨fun x hx=>h.ok x ((b0y y0.To _).mem_iff.1 hx),?_⟩;have hp:=b0y y0.To out;exact hp.symm.pairwise_iff (R:=fun a b:y0=>a.To≠b.To) (fun h=>h.symm) |>.1 h.dist
structure j06 (l:List C0) (n:Nat) (a:List y0) (b:Nat->List y0) (e:Nat->y0×Bool) (z:y0×Bool):Prop where
 n64:n<=400
 aw:j8 n a
 bw:∀ p,p<n->j8 n (b p)
 el:∀ p,p<n->(e p).1.Steps.length<=500000
 zl:z.1.Steps.length<=500000
 e0:∀ p,p<n->(e p).2=decide ((e p).1.Steps≠[])
 z0:z.2=decide (z.1.Steps≠[])
 ab:N8 800 a
 bb:∀ p,p<n->N8 800 (b p)
 eb:∀ p,p<n->P2 800 (e p).1.Steps
 zb:P2 800 z.1.Steps
 al:a.length<=500000
 aT:a0m a
 bT:∀ p,p<n->a0m (b p)
 bl:∀ p,p<n->(b p).length<=500000
theorem p0W {B:Int} {s:List Int} (h:P2 B s):P2 B (o8 s).1.Steps:=by
 unfold o8;split
 ·exact P2.nil
 ·exact h
theorem s0Q {l:List C0} {t:Tm} (ht:O2 l t) {p q:Nat} {S:List Int} {fs:List Fr} (hp:b0Y l t p q S fs):N8 800 (J7 t p q S fs).1/\P2 800 (J7 t p q S fs).2.1:=by
 have h400:=ht.le;have hlo:=Ctx.lo_le hp.ctx;simp only [Tm.size] at hlo;exact j0p (by omega) fs q p _ _ _ hp.ctx (P2.cls (by omega)) (fun _ h=>by cases h)
end Go.Proofs.YtdficaoajalfaaaGreat.Old
namespace Go.Proofs.YtdficaoajalfaaaGreat
open Go.V Go.RowKit Old
theorem q0q (s:List Int):(o8 s).2=decide ((o8 s).1.Steps≠[]):=by
 unfold o8;split
 ·simp
 ·rename_i h;simp;intro e;exact h (by simp [e])
structure k0b (l:List C0) (n:Nat) (a:List y0) (b:Nat->List y0) (e:Nat->y0×Bool) (z:y0×Bool) (F:Nat):Prop where
 mR:c7 F l=some true
 rR:B6 F l=some true
 mL:K7 F l=some (L2 l l.length)
 mA:b0O F l ((l.length:Int)-1)=some a
 mZ:J9 F l (-1)=some z
 mB:∀ p:Nat,p<n->a06 F l (p:Int)=some (b p)
 mE:∀ p:Nat,p<n->J9 F l (p:Int)=some (e p)
theorem B8 {α:Type} {o n:Option α} (h:Ref o n Eq) {x:α} (e:o=some x):n=some x:=by
 obtain ⟨y,h1,h2⟩:=h.run x e;rw [h1,h2]
theorem f08 {l:List C0} (hw:∀ x∈l,o3 x) (hl:l.length*64<=140737488351232) (hR:K1 l=true):∃ a b e z,j06 l (L0 l l.length) a b e z/\∀ F,1000001<F->l.length+1<F->k0b l (L0 l l.length) a b e z F:=by
 obtain ⟨t,ht⟩:=a04 hw hR;have h400:=ht.le;have hln:=ht.len;have hn:t.leaves=L0 l l.length:=by
  have h:=b9 ht.at0;rw [Nat.zero_add,<-hln] at h;rw [h];simp [L0]
 have hP:∀ p:Nat,∃ x:List y0×(y0×Bool),p<L0 l l.length->(j8 (L0 l l.length) x.1/\x.2.1.Steps.length<=500000/\x.2.2=decide (x.2.1.Steps≠[])/\N8 800 x.1/\P2 800 x.2.1.Steps/\x.1.length<=500000/\a0m x.1/\
   ∀ F,1000001<F->l.length+1<F->a06 F l (p:Int)=some x.1/\J9 F l (p:Int)=some x.2):=by
  intro p
  by_cases hp:p<L0 l l.length
  ·obtain ⟨q',S,fs,hpl⟩:=A0j ht hp;obtain ⟨hways,hlen⟩:=r0o ht hpl;refine ⟨(r7 y0.To (J7 t p q' S fs).1,o8 (if (J7 t p q' S fs).2.2 then (J7 t p q' S fs).2.1 else [])),fun _=>⟨?_,?_,q0q _,fun h hh=>(s0Q ht hpl).1 h ((b0y y0.To _).mem_iff.1 hh),p0W ?_,by rw [e0j];exact q0A ht hpl,fun h hh=>k0A h400 fs _ _ _ _ _ hpl.ctx (fun _ h=>by cases h) h ((b0y y0.To _).mem_iff.1 hh),fun F hF hF2=>⟨?_,?_⟩⟩⟩
   ·rw [<-hn];exact v07 hways
   ·refine p0J ?_;split
    ·exact hlen
    ·simp
   ·split
    ·exact (s0Q ht hpl).2
    ·exact P2.nil
   ·exact B8 t0d (Old.u0M hw ht hR hF hpl hp)
   ·exact B8 j0d (Old.q0j hw ht hR hF hpl hp)
  ·exact ⟨([],(⟨0,0,[]⟩,false)),fun h=>absurd h hp⟩
 have hst:=t.X8 0;refine ⟨t.Q0 0 0 [],fun p=>(Classical.choose (hP p)).1,fun p=>(Classical.choose (hP p)).2,o8 (if t.can then t.steps 0 else []),⟨?_,?_,?_,?_,?_,?_,?_,?_,?_,?_,?_,?_,?_,?_,?_⟩,fun F hF hF2=>?_⟩
 ·have:=c0Z l l.length;omega
 ·rw [<-hn];exact v0i ht
 ·intro p hp;exact (Classical.choose_spec (hP p) hp).1
 ·intro p hp;exact (Classical.choose_spec (hP p) hp).2.1
 ·refine p0J ?_;split
  ·omega
  ·simp
 ·intro p hp;exact (Classical.choose_spec (hP p) hp).2.2.1
 ·exact q0q _
 ·exact t.m0Q 0 0 [] 800 (by omega) P2.nil
 ·intro p hp;exact (Classical.choose_spec (hP p) hp).2.2.2.1
 ·intro p hp;exact (Classical.choose_spec (hP p) hp).2.2.2.2.1
 ·refine p0W ?_;split
  ·exact t.m0I 0 800 (by omega)
  ·exact P2.nil
 ·have:=t.a0V 0 0 [];have:=t.a0D;omega
 ·exact t.D0L 0 0 []
 ·intro p hp;exact (Classical.choose_spec (hP p) hp).2.2.2.2.2.2.1
 ·intro p hp;exact (Classical.choose_spec (hP p) hp).2.2.2.2.2.1
 ·have hLF:a0X l=L2 l l.length:=by simp [a0X,hR]
  obtain ⟨h1,h2⟩:=Old.q0p hw ht hR hF;obtain ⟨h3,h4⟩:=Old.r00 hw ht hR hF ht.at0;have htop:((t.top 0:Nat):Int)=(l.length:Int)-1:=by have:=t.size_pos;unfold Tm.top;omega
  rw [htop] at h3 h4;exact ⟨B8 g0k (by rw [Old.c0Q l (by omega),hR]),B8 o0w (by rw [Old.e0f l hl hF2,hR]),B8 u0E (by rw [Old.o0g hw (by omega),hLF]),B8 q0Y h3,B8 j0d h1,
   fun p hp=>((Classical.choose_spec (hP p) hp).2.2.2.2.2.2.2 F hF hF2).1,fun p hp=>((Classical.choose_spec (hP p) hp).2.2.2.2.2.2.2 F hF hF2).2⟩
end Go.Proofs.YtdficaoajalfaaaGreat
