/- How a node is nothing, and the ways Q0 a node; by the program and by the document. The ways Q0 a node; by the program and by the document. From a place up to the root: the ways from there; by the program and by the document. From a place up to the root, by the document. Its conditions: none. -/
import Derived.Test.YtdficaoajalfaaaGreatAG38
open Nat (add_sub_cancel sub_zero)
open Bool (false_eq_true)
open List (length_append length_nil length_cons any_cons)
set_option linter.all false
namespace Go.Proofs.YtdficaoajalfaaaGreat.Old
open Go.V Go.RowKit
def O0 (q:Nat):Int:=2*(q:Int)
def cls (q:Nat):Int:=2*(q:Int)+1
def Tm.steps (lo:Nat):Tm->List Int
 |.eps=>[O0 lo,cls lo]
 |.leaf _=>[O0 lo,cls lo]
 |.cat a b=>[O0 (Tm.top (.cat a b) lo)]++(a.steps lo++b.steps (lo+a.size))++[cls (Tm.top (.cat a b) lo)]
 |.alt a b=>[O0 (Tm.top (.alt a b) lo)]++(if a.can then a.steps lo else b.steps (lo+a.size))++[cls (Tm.top (.alt a b) lo)]
 |.star a=>[O0 (Tm.top (.star a) lo),cls (Tm.top (.star a) lo)]
 |.maybe a=>[O0 (Tm.top (.maybe a) lo),cls (Tm.top (.maybe a) lo)]
 |.group n a=>[O0 (Tm.top (.group n a) lo)]++a.steps lo++[cls (Tm.top (.group n a) lo)]
 |.iter a=>[O0 (Tm.top (.iter a) lo)]++a.steps lo++[cls (Tm.top (.iter a) lo)]
theorem Tm.X8 (t:Tm):∀ lo,(t.steps lo).length<=2*t.size:=by
 induction t with
 |eps=>intro lo;simp [Tm.steps,Tm.size]
 |leaf s=>intro lo;simp [Tm.steps,Tm.size]
 |cat a b iha ihb=>intro lo;have:=iha lo;have:=ihb (lo+a.size);simp [Tm.steps,Tm.size];omega
 |alt a b iha ihb=>intro lo;have:=iha lo;have:=ihb (lo+a.size);simp only [Tm.steps,Tm.size];split<;>simp<;>omega
 |star a iha | maybe a iha=>intro lo;have:=iha lo;simp [Tm.steps,Tm.size];omega
 |group n a iha=>intro lo;have:=iha lo;simp [Tm.steps,Tm.size];omega
 |iter a iha=>intro lo;have:=iha lo;simp [Tm.steps,Tm.size];omega
theorem o7 {q:Nat} (h:q<=1000000000):W (2*(q:Int))=O0 q:=n3 (by omega) (by omega)
theorem W9 {q:Nat} (h:q<=1000000000):W (O0 q+1)=cls q:=n3 (by unfold O0;omega) (by unfold O0;omega)
theorem At.j5 {l:List C0} {lo:Nat} {s:Tm} (h:At l lo s):s.top lo<l.length:=by have:=h.len;have:=s.size_pos;unfold Tm.top;omega
structure n04 (l:List C0) (c:List Bool):Prop where
 len:c.length=l.length
 top:∀ (s:Tm) (lo:Nat),At l lo s->gt c (s.top lo:Int)=s.can
theorem g0B {l:List C0} (hR:K1 l=true):n04 l (V8 l):=by
 simp only [V8,hR,if_true];exact ⟨d03 _ _,fun s lo h=>w0k h _ (by have:=h.len;have:=s.size_pos;unfold Tm.top;omega)⟩
theorem B0U {l:List C0} {c:List Bool} (hc:n04 l c) (hl:l.length<=400) (fuel:Nat):∀ (s:Tm) (lo:Nat),At l lo s->∀ (k:Nat) (out:List Int),s.size<=k->out.length+2*s.size<=1000000000->
  X6 fuel k l c (s.top lo:Int) out=some (out++s.steps lo):=by
 intro s
 induction s with
 |
  eps | leaf _=>
  intro lo h k out hk ho;obtain ⟨k,rfl⟩:∃ q,k=q+1:=⟨k-1,by simp [Tm.size] at hk;omega⟩
  have hlen:=h.len;have hg:=h.D2;simp only [Tm.size] at hlen ho;have hin:B0 l (lo:Int)=true:=R0 (by omega) (by omega);have ap1:∀ x:Int,I0 8 out [x]=true:=fun x=>Y4 (by simp;omega);have ap2:∀ x y:Int,I0 8 (out++[x]) [y]=true:=fun x y=>Y4 (by simp;omega);simp only [Tm.top,Tm.size,add_sub_cancel] at hg ⊢;unfold X6;simp [o7 (show lo<=1000000000 by omega),W9 (show lo<=1000000000 by omega),ap1,ap2,hin,hg,Tm.node,Tm.steps]
 |
  cat a b iha ihb=>
  intro lo h k out hk ho;obtain ⟨k,rfl⟩:∃ q,k=q+1:=⟨k-1,by simp [Tm.size] at hk;omega⟩
  have hlen:=h.len;have hg:=h.D2;obtain ⟨ha,hb,_⟩:=(At.bin rfl rfl).1 h;have sa:=a.X8 lo;have sb:=b.X8 (lo+a.size);simp only [Tm.steps];simp only [Tm.size] at hlen ho hk;have htop:Tm.top (.cat a b) lo<l.length:=by simp only [Tm.top,Tm.size];omega
  generalize Tm.top (.cat a b) lo=r at *;have hin:B0 l (r:Int)=true:=R0 (by omega) (by omega);have ap1:I0 8 out [O0 r]=true:=Y4 (by simp;omega);unfold X6;simp only [o7 (show r<=1000000000 by omega),ap1,if_true,hin,hg,Tm.node];have e1:=iha lo ha k (out++[O0 r]) (by omega) (by simp;omega);have e2:=ihb (lo+a.size) hb k (out++[O0 r]++a.steps lo) (by omega) (by simp;omega);have ap2:I0 8 (out++[O0 r]++a.steps lo++b.steps (lo+a.size)) [cls r]=true:=Y4 (by simp;omega);simp only [beq_self_eq_true,if_true,e1,G0,e2,W9 (show r<=1000000000 by omega),ap2];simp
 |
  alt a b iha ihb=>
  intro lo h k out hk ho;obtain ⟨k,rfl⟩:∃ q,k=q+1:=⟨k-1,by simp [Tm.size] at hk;omega⟩
  have hlen:=h.len;have hg:=h.D2;obtain ⟨ha,hb,_⟩:=(At.bin rfl rfl).1 h;have sa:=a.X8 lo;have sb:=b.X8 (lo+a.size);simp only [Tm.steps];simp only [Tm.size] at hlen ho hk;have htop:Tm.top (.alt a b) lo<l.length:=by simp only [Tm.top,Tm.size];omega
  generalize Tm.top (.alt a b) lo=r at *;have hin:B0 l (r:Int)=true:=R0 (by omega) (by omega);have ap1:I0 8 out [O0 r]=true:=Y4 (by simp;omega);have hia:B0 c (a.top lo:Int)=true:=R0 (by omega) (by rw [hc.len];unfold Tm.top;omega);unfold X6;simp only [o7 (show r<=1000000000 by omega),ap1,if_true,hin,hg,Tm.node,hia,hc.top a lo ha];have e1:=iha lo ha k (out++[O0 r]) (by omega) (by simp;omega);have e2:=ihb (lo+a.size) hb k (out++[O0 r]) (by omega) (by simp;omega);have ap2:I0 8 (out++[O0 r]++a.steps lo) [cls r]=true:=Y4 (by simp;omega);have ap3:I0 8 (out++[O0 r]++b.steps (lo+a.size)) [cls r]=true:=Y4 (by simp;omega);rw [show ((4:Int)==3)=false from rfl,show ((4:Int)==4)=true from rfl];cases a.can
  ·simp only [false_eq_true,if_false,if_true,e2,G0,W9 (show r<=1000000000 by omega),ap3];simp
  ·simp only [false_eq_true,if_false,if_true,e1,G0,W9 (show r<=1000000000 by omega),ap2];simp
 |
  star a iha | maybe a iha=>
  intro lo h k out hk ho;obtain ⟨k,rfl⟩:∃ q,k=q+1:=⟨k-1,by simp [Tm.size] at hk;omega⟩
  have hlen:=h.len;have hg:=h.D2;simp only [Tm.steps];simp only [Tm.size] at hlen ho hk;have htop:=h.j5;generalize Tm.top _ lo=r at *;have hin:B0 l (r:Int)=true:=R0 (by omega) (by omega);have ap1:∀ x:Int,I0 8 out [x]=true:=fun x=>Y4 (by simp;omega);have ap2:∀ x y:Int,I0 8 (out++[x]) [y]=true:=fun x y=>Y4 (by simp;omega);unfold X6;simp [o7 (show r<=1000000000 by omega),W9 (show r<=1000000000 by omega),ap1,ap2,hin,hg,Tm.node]
 |
  group n a iha | iter a iha=>
  intro lo h k out hk ho;obtain ⟨k,rfl⟩:∃ q,k=q+1:=⟨k-1,by simp [Tm.size] at hk;omega⟩
  have hlen:=h.len;have hg:=h.D2;obtain ⟨ha,_⟩:=(At.un rfl rfl).1 h;have sa:=a.X8 lo;simp only [Tm.steps];simp only [Tm.size] at hlen ho hk;have htop:=h.j5;generalize Tm.top _ lo=r at *;have hin:B0 l (r:Int)=true:=R0 (by omega) (by omega);have ap1:I0 8 out [O0 r]=true:=Y4 (by simp;omega);have e1:=iha lo ha k (out++[O0 r]) (by omega) (by simp;omega);have ap2:I0 8 (out++[O0 r]++a.steps lo) [cls r]=true:=Y4 (by simp;omega);unfold X6;simp only [o7 (show r<=1000000000 by omega),ap1,if_true,hin,hg,Tm.node];simp [e1,W9 (show r<=1000000000 by omega)];simpa using ap2
theorem r0B {l:List C0} {c:List Bool} (hc:n04 l c) (hl:l.length<=400) (fuel:Nat):∀ (s:Tm) (lo:Nat),At l lo s->∀ (k:Nat),s.size<=k->
  Y5 fuel k l c (s.top lo:Int)=some (s.steps lo):=by
 intro s
 induction s with
 |
  eps | leaf _=>
  intro lo h k hk;obtain ⟨k,rfl⟩:∃ q,k=q+1:=⟨k-1,by simp [Tm.size] at hk;omega⟩
  have hlen:=h.len;have hg:=h.D2;simp only [Tm.size] at hlen;have hin:B0 l (lo:Int)=true:=R0 (by omega) (by omega);have ap2:∀ x y:Int,I0 8 [x] [y]=true:=fun x y=>Y4 (by simp);simp only [Tm.top,Tm.size,add_sub_cancel] at hg ⊢;unfold Y5;simp [o7 (show lo<=1000000000 by omega),W9 (show lo<=1000000000 by omega),ap2,hin,hg,Tm.node,Tm.steps]
 |
  cat a b iha ihb=>
  intro lo h k hk;obtain ⟨k,rfl⟩:∃ q,k=q+1:=⟨k-1,by simp [Tm.size] at hk;omega⟩
  have hlen:=h.len;have hg:=h.D2;obtain ⟨ha,hb,_⟩:=(At.bin rfl rfl).1 h;have sa:=a.X8 lo;have sb:=b.X8 (lo+a.size);simp only [Tm.steps];simp only [Tm.size] at hlen hk;have htop:Tm.top (.cat a b) lo<l.length:=by simp only [Tm.top,Tm.size];omega
  generalize Tm.top (.cat a b) lo=r at *;have hin:B0 l (r:Int)=true:=R0 (by omega) (by omega);have e1:=iha lo ha k (by omega);have e2:=ihb (lo+a.size) hb k (by omega);have ap1:I0 8 [O0 r] (a.steps lo)=true:=Y4 (by simp;omega);have ap2:I0 8 ([O0 r]++a.steps lo) (b.steps (lo+a.size))=true:=Y4 (by simp;omega);have ap3:I0 8 (([O0 r]++a.steps lo)++b.steps (lo+a.size)) [cls r]=true:=Y4 (by simp;omega);unfold Y5;simp only [o7 (show r<=1000000000 by omega),if_true,hin,hg,Tm.node,beq_self_eq_true,e1,e2,G0,ap1,ap2,W9 (show r<=1000000000 by omega),ap3];simp
 |
  alt a b iha ihb=>
  intro lo h k hk;obtain ⟨k,rfl⟩:∃ q,k=q+1:=⟨k-1,by simp [Tm.size] at hk;omega⟩
  have hlen:=h.len;have hg:=h.D2;obtain ⟨ha,hb,_⟩:=(At.bin rfl rfl).1 h;have sa:=a.X8 lo;have sb:=b.X8 (lo+a.size);simp only [Tm.steps];simp only [Tm.size] at hlen hk;have htop:Tm.top (.alt a b) lo<l.length:=by simp only [Tm.top,Tm.size];omega
  generalize Tm.top (.alt a b) lo=r at *;have hin:B0 l (r:Int)=true:=R0 (by omega) (by omega);have hia:B0 c (a.top lo:Int)=true:=R0 (by omega) (by rw [hc.len];unfold Tm.top;omega);have e1:=iha lo ha k (by omega);have e2:=ihb (lo+a.size) hb k (by omega);have ap1:I0 8 [O0 r] (a.steps lo)=true:=Y4 (by simp;omega);have ap1b:I0 8 [O0 r] (b.steps (lo+a.size))=true:=Y4 (by simp;omega);have ap3:I0 8 ([O0 r]++a.steps lo) [cls r]=true:=Y4 (by simp;omega);have ap4:I0 8 ([O0 r]++b.steps (lo+a.size)) [cls r]=true:=Y4 (by simp;omega);unfold Y5;simp only [o7 (show r<=1000000000 by omega),if_true,hin,hg,Tm.node,hia,hc.top a lo ha];rw [show ((4:Int)==3)=false from rfl,show ((4:Int)==4)=true from rfl];cases a.can
  ·simp only [false_eq_true,if_false,if_true,e2,G0,ap1b,W9 (show r<=1000000000 by omega),ap4]
  ·simp only [false_eq_true,if_false,if_true,e1,G0,ap1,W9 (show r<=1000000000 by omega),ap3]
 |
  star a iha | maybe a iha=>
  intro lo h k hk;obtain ⟨k,rfl⟩:∃ q,k=q+1:=⟨k-1,by simp [Tm.size] at hk;omega⟩
  have hlen:=h.len;have hg:=h.D2;simp only [Tm.steps];simp only [Tm.size] at hlen hk;have htop:=h.j5;generalize Tm.top _ lo=r at *;have hin:B0 l (r:Int)=true:=R0 (by omega) (by omega);have ap2:∀ x y:Int,I0 8 [x] [y]=true:=fun x y=>Y4 (by simp);unfold Y5;simp [o7 (show r<=1000000000 by omega),W9 (show r<=1000000000 by omega),ap2,hin,hg,Tm.node]
 |
  group n a iha | iter a iha=>
  intro lo h k hk;obtain ⟨k,rfl⟩:∃ q,k=q+1:=⟨k-1,by simp [Tm.size] at hk;omega⟩
  have hlen:=h.len;have hg:=h.D2;obtain ⟨ha,_⟩:=(At.un rfl rfl).1 h;have sa:=a.X8 lo;simp only [Tm.steps];simp only [Tm.size] at hlen hk;have htop:=h.j5;generalize Tm.top _ lo=r at *;have hin:B0 l (r:Int)=true:=R0 (by omega) (by omega);have e1:=iha lo ha k (by omega);have ap1:I0 8 [O0 r] (a.steps lo)=true:=Y4 (by simp;omega);have ap2:I0 8 ([O0 r]++a.steps lo) [cls r]=true:=Y4 (by simp;omega);unfold Y5;simp only [o7 (show r<=1000000000 by omega),if_true,hin,hg,Tm.node];simp [e1,ap1,W9 (show r<=1000000000 by omega)];simpa using ap2
theorem l0k {l:List C0} (hw:∀ x∈l,o3 x) {t:Tm} (ht:O2 l t) (hR:K1 l=true) {fuel:Nat} (hf:401<fuel) {lo:Nat} {s:Tm} (h:At l lo s) :
  a0f fuel l (s.top lo:Int)=some (if s.can then s.steps lo else []):=by
 have h400:=ht.le;have hlen:=ht.len;have hsl:=h.len;have hp:=s.size_pos;have hc:=g0B hR;have htl:s.top lo<l.length:=by unfold Tm.top;omega
 have hn:¬ ((s.top lo:Int)>=((V8 l).length:Int)):=by rw [hc.len];omega
 have hn0:¬ ((s.top lo:Int)<0):=by omega
 have hin:B0 (V8 l) (s.top lo:Int)=true:=R0 (by omega) (by rw [hc.len];omega);unfold a0f;rw [s0c hw hf];simp only [G0,hn0,decide_false,false_eq_true,if_false,hn,hin,if_true,hc.top s lo h];cases s.can
 ·rfl
 ·rw [B0U hc (by omega) fuel s lo h fuel [] (by omega) (by simp;omega)];rfl
theorem A0A {l:List C0} (hw:∀ x∈l,o3 x) {t:Tm} (ht:O2 l t) (hR:K1 l=true) {fuel:Nat} (hf:401<fuel) {lo:Nat} {s:Tm} (h:At l lo s) :
  c0i fuel l (s.top lo:Int)=some (if s.can then s.steps lo else []):=by
 have h400:=ht.le;have hlen:=ht.len;have hsl:=h.len;have hp:=s.size_pos;have hc:=g0B hR;have htl:s.top lo<l.length:=by unfold Tm.top;omega
 have hn:¬ ((s.top lo:Int)>=((V8 l).length:Int)):=by rw [hc.len];omega
 have hn0:¬ ((s.top lo:Int)<0):=by omega
 have hin:B0 (V8 l) (s.top lo:Int)=true:=R0 (by omega) (by rw [hc.len];omega);unfold c0i;rw [q0H hw (by omega) hf (by omega)];simp only [G0,hn0,decide_false,false_eq_true,if_false,hn,hin,if_true,hc.top s lo h];cases s.can
 ·rfl
 ·rw [r0B hc (by omega) fuel s lo h fuel (by omega)];rfl
def Tm.Q0 (lo p:Nat) (ahead:List Int):Tm->List y0
 |.eps=>[]
 |.leaf _=>[⟨(p:Int),0,ahead++[O0 lo]⟩]
 |.cat a b=>a.Q0 lo p (ahead++[O0 (Tm.top (.cat a b) lo)])++(if a.can then b.Q0 (lo+a.size) (p+a.leaves) (ahead++[O0 (Tm.top (.cat a b) lo)]++a.steps lo) else [])
 |.alt a b=>a.Q0 lo p (ahead++[O0 (Tm.top (.alt a b) lo)])++b.Q0 (lo+a.size) (p+a.leaves) (ahead++[O0 (Tm.top (.alt a b) lo)])
 |.star a=>a.Q0 lo p (ahead++[O0 (Tm.top (.star a) lo)])
 |.maybe a=>a.Q0 lo p (ahead++[O0 (Tm.top (.maybe a) lo)])
 |.group n a=>a.Q0 lo p (ahead++[O0 (Tm.top (.group n a) lo)])
 |.iter a=>a.Q0 lo p (ahead++[O0 (Tm.top (.iter a) lo)])
theorem Tm.a0V (t:Tm):∀ lo p ahead,(t.Q0 lo p ahead).length<=t.leaves:=by
 induction t with
 |eps=>intro lo p ahead;simp [Tm.Q0]
 |leaf s=>intro lo p ahead;simp [Tm.Q0,Tm.leaves]
 |
  cat a b iha ihb=>
  intro lo p ahead;have:=iha lo p (ahead++[O0 (Tm.top (.cat a b) lo)]);have:=ihb (lo+a.size) (p+a.leaves) (ahead++[O0 (Tm.top (.cat a b) lo)]++a.steps lo);simp only [Tm.Q0,Tm.leaves];split<;>simp only [length_append,length_nil]<;>omega
 |
  alt a b iha ihb=>
  intro lo p ahead;have:=iha lo p (ahead++[O0 (Tm.top (.alt a b) lo)]);have:=ihb (lo+a.size) (p+a.leaves) (ahead++[O0 (Tm.top (.alt a b) lo)]);simp only [Tm.Q0,Tm.leaves,length_append];omega
 |star a iha | maybe a iha | group _ a iha | iter a iha=>intro lo p ahead;exact iha _ _ _
theorem b9 {l:List C0}:∀ {s:Tm} {lo:Nat},At l lo s->L0 l (lo+s.size)=L0 l lo+s.leaves:=by
 intro s
 induction s with
 |eps=>intro lo h;have hg:=h.D2;simp only [Tm.top,Tm.size,add_sub_cancel] at hg;simp [Tm.size,L0,hg,Tm.node,Tm.leaves]
 |leaf s=>intro lo h;have hg:=h.D2;simp only [Tm.top,Tm.size,add_sub_cancel] at hg;simp [Tm.size,L0,hg,Tm.node,Tm.leaves]
 |
  cat a b iha ihb | alt a b iha ihb=>
  intro lo h;have hg:=h.D2;obtain ⟨ha,hb,_⟩:=(At.bin rfl rfl).1 h;simp only [Tm.top,Tm.size] at hg;have e:lo+(a.size+b.size+1)-1=lo+a.size+b.size:=by omega
  rw [e] at hg;simp only [Tm.size,<-Nat.add_assoc,L0,hg,Tm.node,Tm.leaves,ihb hb,iha ha];simp
 |
  star a iha | maybe a iha | group _ a iha | iter a iha=>
  intro lo h;have hg:=h.D2;obtain ⟨ha,_⟩:=(At.un rfl rfl).1 h;simp only [Tm.top,Tm.size] at hg;have e:lo+(a.size+1)-1=lo+a.size:=by omega
  rw [e] at hg;simp only [Tm.size,<-Nat.add_assoc,L0,hg,Tm.node,Tm.leaves,iha ha];simp
theorem d0t {fuel:Nat} {a b:List Int} (h:(a.length+b.length)*8<=140737488355328):I8 fuel a b=some (a++b):=by
 have hs:I4 a 0 (a.length:Int)=true:=by simp [I4]
 have hc:I1 a 0 (a.length:Int)=a:=by simp [I1]
 have ha:I0 8 a b=true:=Y4 h;unfold I8;simp [hs,hc,ha]
theorem e03 {fuel:Nat} {a b:List Int} (h:(a.length+b.length)*8<=140737488355328):K9 fuel a b=some (a++b):=by
 have h1:I0 8 ([]:List Int) a=true:=Y4 (by simp;omega);have h2:I0 8 a b=true:=Y4 h;unfold K9;simp [h1,h2]
structure h0m (c:U4) (l:List C0) (t:Tm):Prop where
 tl:c.l=l
 up:UpT c.up t
 deep:b00 c.deep t
 index:c.index=C7 l l.length
 can:c.can=V8 l
theorem p0L {l:List C0} {lo:Nat} {s:List Int} (h:At l lo (.leaf s)):B0 (C7 l l.length) (lo:Int)=true/\gt (C7 l l.length) (lo:Int)=(L0 l lo:Int):=by
 have hlen:=h.len;have hg:=h.D2;simp only [Tm.top,Tm.size,add_sub_cancel] at hg hlen;refine ⟨R0 (by omega) (by rw [d0d];omega),?_⟩;rw [B4 (p0e l l.length lo (by omega)),hg];simp [Tm.node]
theorem n05 {l:List C0} (hw:∀ x∈l,o3 x) {t:Tm} (ht:O2 l t) (hR:K1 l=true) {c:U4} (hc:h0m c l t) {fuel:Nat} (hf:401<fuel) :
  ∀ (s:Tm) (lo:Nat),At l lo s->∀ (k:Nat) (ahead:List Int) (out:List y0),s.size<=k->ahead.length+1000*s.size<=1000000000->out.length+s.size<=1000000000->
   e6 fuel k c (s.top lo:Int) ahead out=some (out++s.Q0 lo (L0 l lo) ahead):=by
 have h400:=ht.le;have hlen0:=ht.len;have hcl:=hc.tl;have hci:=hc.index;have hcc:=hc.can;have hct:=g0B hR;intro s
 induction s with
 |
  eps=>
  intro lo h k ahead out hk ho ho2;obtain ⟨k,rfl⟩:∃ q,k=q+1:=⟨k-1,by simp [Tm.size] at hk;omega⟩
  have htop:=h.j5;have hg:=h.D2;simp only [Tm.size] at ho ho2;generalize Tm.top _ lo=r at *;have hin:B0 l (r:Int)=true:=R0 (by omega) (by omega);unfold e6;simp only [hcl,hin,if_true,o7 (show r<=1000000000 by omega),d0t (fuel:=fuel) (a:=ahead) (b:=[O0 r]) (by simp;omega),G0,hg,Tm.node];simp [Tm.Q0]
 |
  leaf s=>
  intro lo h k ahead out hk ho ho2;obtain ⟨k,rfl⟩:∃ q,k=q+1:=⟨k-1,by simp [Tm.size] at hk;omega⟩
  have htop:=h.j5;have hg:=h.D2;obtain ⟨i1,i2⟩:=p0L h;simp only [Tm.size] at ho ho2;simp only [Tm.top,Tm.size,add_sub_cancel] at hg htop ⊢;have hin:B0 l (lo:Int)=true:=R0 (by omega) (by omega);have hap:∀ x:y0,I0 40 out [x]=true:=fun x=>Y4 (by simp;omega);unfold e6;simp only [hcl,hin,if_true,o7 (show lo<=1000000000 by omega),d0t (fuel:=fuel) (a:=ahead) (b:=[O0 lo]) (by simp;omega),G0,hg,Tm.node,hci,i1,i2,hap];simp [Tm.Q0]
 |
  cat a b iha ihb=>
  intro lo h k ahead out hk ho ho2;obtain ⟨k,rfl⟩:∃ q,k=q+1:=⟨k-1,by simp [Tm.size] at hk;omega⟩
  have htop:=h.j5;have hlen:=h.len;have hg:=h.D2;obtain ⟨ha,hb,_⟩:=(At.bin rfl rfl).1 h;have sa:=a.X8 lo;have la:=a.a0V lo (L0 l lo) (ahead++[O0 (Tm.top (.cat a b) lo)]);have lla:=a.a0D;simp only [Tm.Q0];simp only [Tm.size] at hlen ho ho2 hk;generalize Tm.top (.cat a b) lo=r at *;have hin:B0 l (r:Int)=true:=R0 (by omega) (by omega);have hia:B0 (V8 l) (a.top lo:Int)=true:=R0 (by omega) (by rw [hct.len];have:=ha.j5;omega);have e1:=iha lo ha k (ahead++[O0 r]) out (by omega) (by simp;omega) (by omega);have e2:=ihb (lo+a.size) hb k (ahead++[O0 r]++a.steps lo) (out++a.Q0 lo (L0 l lo) (ahead++[O0 r])) (by omega) (by simp;omega) (by simp;omega);rw [b9 ha] at e2;unfold e6;simp only [hcl,hin,if_true,o7 (show r<=1000000000 by omega),d0t (fuel:=fuel) (a:=ahead) (b:=[O0 r]) (by simp;omega),G0,hg,Tm.node,e1,hcc,hia,hct.top a lo ha];rw [show ((3:Int)==2)=false from rfl,show ((3:Int)==3)=true from rfl];cases hcan:a.can
  ·simp
  ·simp only [false_eq_true,if_false,if_true,l0k hw ht hR hf ha,hcan,G0,d0t (fuel:=fuel) (a:=ahead++[O0 r]) (b:=a.steps lo) (by simp;omega),e2];simp
 |
  alt a b iha ihb=>
  intro lo h k ahead out hk ho ho2;obtain ⟨k,rfl⟩:∃ q,k=q+1:=⟨k-1,by simp [Tm.size] at hk;omega⟩
  have htop:=h.j5;have hlen:=h.len;have hg:=h.D2;obtain ⟨ha,hb,_⟩:=(At.bin rfl rfl).1 h;have la:=a.a0V lo (L0 l lo) (ahead++[O0 (Tm.top (.alt a b) lo)]);have lla:=a.a0D;simp only [Tm.Q0];simp only [Tm.size] at hlen ho ho2 hk;generalize Tm.top (.alt a b) lo=r at *;have hin:B0 l (r:Int)=true:=R0 (by omega) (by omega);have e1:=iha lo ha k (ahead++[O0 r]) out (by omega) (by simp;omega) (by omega);have e2:=ihb (lo+a.size) hb k (ahead++[O0 r]) (out++a.Q0 lo (L0 l lo) (ahead++[O0 r])) (by omega) (by simp;omega) (by simp;omega);rw [b9 ha] at e2;unfold e6;simp only [hcl,hin,if_true,o7 (show r<=1000000000 by omega),d0t (fuel:=fuel) (a:=ahead) (b:=[O0 r]) (by simp;omega),G0,hg,Tm.node,e1,e2];simp
 |
  star a iha | maybe a iha | group _ a iha | iter a iha=>
  intro lo h k ahead out hk ho ho2;obtain ⟨k,rfl⟩:∃ q,k=q+1:=⟨k-1,by simp [Tm.size] at hk;omega⟩
  have htop:=h.j5;have hlen:=h.len;have hg:=h.D2;obtain ⟨ha,_⟩:=(At.un rfl rfl).1 h;simp only [Tm.Q0];simp only [Tm.size] at hlen ho ho2 hk;generalize Tm.top _ lo=r at *;have hin:B0 l (r:Int)=true:=R0 (by omega) (by omega);have e1:=iha lo ha k (ahead++[O0 r]) out (by omega) (by simp;omega) (by omega);unfold e6;simp only [hcl,hin,if_true,o7 (show r<=1000000000 by omega),d0t (fuel:=fuel) (a:=ahead) (b:=[O0 r]) (by simp;omega),G0,hg,Tm.node,e1];simp
theorem B00 {l:List C0} {t:Tm} (ht:O2 l t) (hR:K1 l=true) {fuel:Nat} (hf:401<fuel) :
  ∀ (s:Tm) (lo:Nat),At l lo s->∀ (k:Nat) (ahead:List Int),s.size<=k->ahead.length+1000*s.size<=1000000000->
   O6 fuel k l (C7 l l.length) (V8 l) (s.top lo:Int) ahead=some (s.Q0 lo (L0 l lo) ahead):=by
 have h400:=ht.le;have hlen0:=ht.len;have hct:=g0B hR;intro s
 induction s with
 |
  eps=>
  intro lo h k ahead hk ho;obtain ⟨k,rfl⟩:∃ q,k=q+1:=⟨k-1,by simp [Tm.size] at hk;omega⟩
  have htop:=h.j5;have hg:=h.D2;simp only [Tm.size] at ho;generalize Tm.top _ lo=r at *;have hin:B0 l (r:Int)=true:=R0 (by omega) (by omega);unfold O6;simp only [hin,if_true,o7 (show r<=1000000000 by omega),e03 (fuel:=fuel) (a:=ahead) (b:=[O0 r]) (by simp;omega),G0,hg,Tm.node];simp [Tm.Q0]
 |
  leaf s=>
  intro lo h k ahead hk ho;obtain ⟨k,rfl⟩:∃ q,k=q+1:=⟨k-1,by simp [Tm.size] at hk;omega⟩
  have htop:=h.j5;have hg:=h.D2;obtain ⟨i1,i2⟩:=p0L h;simp only [Tm.size] at ho;simp only [Tm.top,Tm.size,add_sub_cancel] at hg htop ⊢;have hin:B0 l (lo:Int)=true:=R0 (by omega) (by omega);unfold O6;simp only [hin,if_true,o7 (show lo<=1000000000 by omega),e03 (fuel:=fuel) (a:=ahead) (b:=[O0 lo]) (by simp;omega),G0,hg,Tm.node,i1,i2];simp [Tm.Q0]
 |
  cat a b iha ihb=>
  intro lo h k ahead hk ho;obtain ⟨k,rfl⟩:∃ q,k=q+1:=⟨k-1,by simp [Tm.size] at hk;omega⟩
  have htop:=h.j5;have hlen:=h.len;have hg:=h.D2;obtain ⟨ha,hb,_⟩:=(At.bin rfl rfl).1 h;have sa:=a.X8 lo;have la:=a.a0V lo (L0 l lo) (ahead++[O0 (Tm.top (.cat a b) lo)]);have lla:=a.a0D;have lb:=b.a0V (lo+a.size) (L0 l lo+a.leaves) (ahead++[O0 (Tm.top (.cat a b) lo)]++a.steps lo);have llb:=b.a0D;simp only [Tm.Q0];simp only [Tm.size] at hlen ho hk;generalize Tm.top (.cat a b) lo=r at *;have hin:B0 l (r:Int)=true:=R0 (by omega) (by omega);have hia:B0 (V8 l) (a.top lo:Int)=true:=R0 (by omega) (by rw [hct.len];have:=ha.j5;omega);have e1:=iha lo ha k (ahead++[O0 r]) (by omega) (by simp;omega);have e2:=ihb (lo+a.size) hb k (ahead++[O0 r]++a.steps lo) (by omega) (by simp;omega);rw [b9 ha] at e2;unfold O6;simp only [hin,if_true,o7 (show r<=1000000000 by omega),e03 (fuel:=fuel) (a:=ahead) (b:=[O0 r]) (by simp;omega),G0,hg,Tm.node,e1,hia,hct.top a lo ha];rw [show ((3:Int)==2)=false from rfl,show ((3:Int)==3)=true from rfl];cases hcan:a.can
  ·simp
  ·have hap:I0 40 (a.Q0 lo (L0 l lo) (ahead++[O0 r])) (b.Q0 (lo+a.size) (L0 l lo+a.leaves) (ahead++[O0 r]++a.steps lo))=true:=Y4 (by omega);simp only [false_eq_true,if_false,if_true,r0B hct (by omega) fuel a lo ha fuel (by omega),G0,e03 (fuel:=fuel) (a:=ahead++[O0 r]) (b:=a.steps lo) (by simp;omega),e2,hap]
 |
  alt a b iha ihb=>
  intro lo h k ahead hk ho;obtain ⟨k,rfl⟩:∃ q,k=q+1:=⟨k-1,by simp [Tm.size] at hk;omega⟩
  have htop:=h.j5;have hlen:=h.len;have hg:=h.D2;obtain ⟨ha,hb,_⟩:=(At.bin rfl rfl).1 h;have la:=a.a0V lo (L0 l lo) (ahead++[O0 (Tm.top (.alt a b) lo)]);have lla:=a.a0D;have lb:=b.a0V (lo+a.size) (L0 l lo+a.leaves) (ahead++[O0 (Tm.top (.alt a b) lo)]);have llb:=b.a0D;simp only [Tm.Q0];simp only [Tm.size] at hlen ho hk;generalize Tm.top (.alt a b) lo=r at *;have hin:B0 l (r:Int)=true:=R0 (by omega) (by omega);have e1:=iha lo ha k (ahead++[O0 r]) (by omega) (by simp;omega);have e2:=ihb (lo+a.size) hb k (ahead++[O0 r]) (by omega) (by simp;omega);rw [b9 ha] at e2;have hap:I0 40 (a.Q0 lo (L0 l lo) (ahead++[O0 r])) (b.Q0 (lo+a.size) (L0 l lo+a.leaves) (ahead++[O0 r]))=true:=Y4 (by omega);unfold O6;simp only [hin,if_true,o7 (show r<=1000000000 by omega),e03 (fuel:=fuel) (a:=ahead) (b:=[O0 r]) (by simp;omega),G0,hg,Tm.node,e1,e2,hap];simp
 |
  star a iha | maybe a iha | group _ a iha | iter a iha=>
  intro lo h k ahead hk ho;obtain ⟨k,rfl⟩:∃ q,k=q+1:=⟨k-1,by simp [Tm.size] at hk;omega⟩
  have htop:=h.j5;have hlen:=h.len;have hg:=h.D2;obtain ⟨ha,_⟩:=(At.un rfl rfl).1 h;simp only [Tm.Q0];simp only [Tm.size] at hlen ho hk;generalize Tm.top _ lo=r at *;have hin:B0 l (r:Int)=true:=R0 (by omega) (by omega);have e1:=iha lo ha k (ahead++[O0 r]) (by omega) (by simp;omega);unfold O6;simp only [hin,if_true,o7 (show r<=1000000000 by omega),e03 (fuel:=fuel) (a:=ahead) (b:=[O0 r]) (by simp;omega),G0,hg,Tm.node,e1];simp
inductive Fr where
 |catL (b:Tm) | catR (a:Tm) | altL (b:Tm) | altR (a:Tm) | star | maybe | group (n:Int) | iter
def Fr.E2 (s:Tm):Fr->Tm
 |.catL b=>.cat s b | .catR a=>.cat a s | .altL b=>.alt s b | .altR a=>.alt a s
 |.star=>.star s | .maybe=>.maybe s | .group n=>.group n s | .iter=>.iter s
def Fr.off:Fr->Nat
 |.catR a=>a.size | .altR a=>a.size | _=>0
def Fr.v7:Fr->Nat
 |.catR a=>a.leaves | .altR a=>a.leaves | _=>0
def Ctx (t:Tm):Nat->Tm->List Fr->Prop
 |lo,s,[]=>lo=0/\s=t
 |lo,s,f :: fs=>f.off<=lo/\Ctx t (lo-f.off) (f.E2 s) fs
theorem Ctx.size {t:Tm}:∀ {fs:List Fr} {lo:Nat} {s:Tm},Ctx t lo s fs->fs.length+s.size<=t.size
 |[],lo,s,⟨_,h⟩=>by subst h;simp
 |
  f :: fs,lo,s,⟨_,h⟩=>by
  have:=Ctx.size h;cases f<;>simp [Fr.E2,Tm.size] at this ⊢<;>omega
structure Part (l:List C0) (u d:List Int) (lo:Nat) (s:Tm) (k:Nat):Prop where
 at_:At l lo s
 up:J8 u lo s
 deep:G7 d lo k s
theorem Ctx.part {l:List C0} {t:Tm} {u d:List Int} (ht:O2 l t) (hu:UpT u t) (hd:b00 d t):∀ {fs:List Fr} {lo:Nat} {s:Tm},Ctx t lo s fs->Part l u d lo s (fs.length+1)
 |[],lo,s,⟨h1,h2⟩=>by subst h1;subst h2;exact ⟨ht.at0,hu.inner,hd.deep⟩
 |
  f :: fs,lo,s,⟨ho,h⟩=>by
  obtain ⟨h1,h2,h3⟩:=Ctx.part ht hu hd h;cases f<;>simp only [Fr.E2,Fr.off,sub_zero] at h1 h2 h3 ho
  case catL b=>exact ⟨((At.bin rfl rfl).1 h1).1,h2.2.2.1,h3.2.1⟩
  case altL b=>exact ⟨((At.bin rfl rfl).1 h1).1,h2.2.2.1,h3.2.1⟩
  case catR a=>
   have e:lo-a.size+a.size=lo:=by omega
   have:=((At.bin rfl rfl).1 h1).2.1;have g2:=h2.2.2.2;have g3:=h3.2.2;rw [e] at this g2 g3;exact ⟨this,g2,g3⟩
  case altR a=>
   have e:lo-a.size+a.size=lo:=by omega
   have:=((At.bin rfl rfl).1 h1).2.1;have g2:=h2.2.2.2;have g3:=h3.2.2;rw [e] at this g2 g3;exact ⟨this,g2,g3⟩
  all_goals exact ⟨((At.un rfl rfl).1 h1).1,h2.2,h3.2⟩
theorem Ctx.r0u {l:List C0} {t:Tm} {u d:List Int} (ht:O2 l t) (hu:UpT u t) (hd:b00 d t) {f:Fr} {fs:List Fr} {lo:Nat} {s:Tm} (h:Ctx t lo s (f :: fs)) :
  gt u (s.top lo:Int)=((f.E2 s).top (lo-f.off):Int):=by
 obtain ⟨ho,h⟩:=h;obtain ⟨h1,h2,h3⟩:=Ctx.part ht hu hd h;cases f<;>simp only [Fr.E2,Fr.off,sub_zero] at h1 h2 h3 ho ⊢
 case catL b=>exact h2.1
 case altL b=>exact h2.1
 case catR a=>
  have e:lo-a.size+a.size=lo:=by omega
  have:=h2.2.1
  rwa [e] at this
 case altR a=>
  have e:lo-a.size+a.size=lo:=by omega
  have:=h2.2.1
  rwa [e] at this
 all_goals exact h2.1
theorem Ctx.root {t:Tm} {u:List Int} (hu:UpT u t) {lo:Nat} {s:Tm} (h:Ctx t lo s []):gt u (s.top lo:Int)=-1:=by
 obtain ⟨rfl,rfl⟩:=h;exact hu.root
def a6 (d:Int):List y0->List y0->List y0
 |out,[]=>out
 |out,h :: r=>a6 d (if out.any (fun x=>x.To==h.To) then out else out++[⟨h.To,d,h.Steps⟩]) r
theorem f0h (d:Int):∀ (r out:List y0),(a6 d out r).length<=out.length+r.length
 |[],out=>by simp [a6]
 |
  h :: r,out=>by
  simp only [a6,length_cons];cases out.any (fun x=>x.To==h.To) with
  |true=>have:=f0h d r out;simp only [if_true];omega
  |false=>have:=f0h d r (out++[⟨h.To,d,h.Steps⟩]);simp only [false_eq_true,if_false];simp only [length_append,length_cons,length_nil] at this;omega
def n4 (lo p:Nat) (s:Tm) (st:List Int) (out:List y0):List Fr->List y0×List Int×Bool
 |[]=>(out,st,true)
 |
  .catL b :: fs=>
  if b.can then n4 lo p (.cat s b) (st++b.steps (lo+s.size)++[cls (Tm.top (.cat s b) lo)]) (a6 (fs.length+1:Nat) out (b.Q0 (lo+s.size) (p+s.leaves) st)) fs
  else (a6 (fs.length+1:Nat) out (b.Q0 (lo+s.size) (p+s.leaves) st),[],false)
 |.star :: fs=>n4 lo p (.star s) (st++[cls (Tm.top (.star s) lo)]) (a6 (fs.length+1:Nat) out (s.Q0 lo p st)) fs
 |f :: fs=>n4 (lo-f.off) (p-f.v7) (f.E2 s) (st++[cls ((f.E2 s).top (lo-f.off))]) out fs
theorem z01 {l:List C0} {t:Tm} {u d:List Int} (ht:O2 l t) (hu:UpT u t) (hd:b00 d t) {f:Fr} {fs:List Fr} {lo:Nat} {s:Tm} (h:Ctx t lo s (f :: fs)):L0 l (lo-f.off)=L0 l lo-f.v7:=by
 obtain ⟨ho,h⟩:=h;obtain ⟨h1,h2,h3⟩:=Ctx.part ht hu hd h;clear h2 h3;cases f<;>simp only [Fr.E2,Fr.off,Fr.v7,sub_zero] at h1 ho ⊢
 case catR a=>
  have:=b9 ((At.bin rfl rfl).1 h1).1;rw [show lo-a.size+a.size=lo from by omega] at this;omega
 case altR a=>
  have:=b9 ((At.bin rfl rfl).1 h1).1;rw [show lo-a.size+a.size=lo from by omega] at this;omega
theorem y0G (fuel:Nat) (out:List y0) (h:y0) (hf:out.length<fuel) (hl:out.length<=1000000000):j0G fuel out h=some (out.any fun x=>x.To==h.To):=by
 have key:∀ (k i:Nat),i+k=out.length->∀ m,k<m->∃ t,iter (d01 fuel out h) m (i:Int)=some t/\(match t with | .inl _=>(out.drop i).any (fun x=>x.To==h.To)=false | .inr r=>0<=r/\(out.drop i).any (fun x=>x.To==h.To)=true):=by
  intro k
  induction k with
  |
   zero=>
   intro i hi m hm;obtain ⟨m,rfl⟩:∃ q,m=q+1:=⟨m-1,by omega⟩
   refine ⟨.inl (),?_,?_⟩
   ·unfold iter d01;have:¬ ((i:Int)<(out.length:Int)):=by omega
    simp [this]
   ·rw [List.drop_of_length_le (by omega)];rfl
  |
   succ k ih=>
   intro i hi m hm;obtain ⟨m,rfl⟩:∃ q,m=q+1:=⟨m-1,by omega⟩
   have hlt:i<out.length:=by omega
   have hin:B0 out (i:Int)=true:=R0 (by omega) (by omega);have hg:gt out (i:Int)=out[i]:=B4 (by simp [hlt]);have hd:out.drop i=out[i] :: out.drop (i+1):=List.drop_eq_getElem_cons hlt;have hd1:(i:Int)<(out.length:Int):=by omega
   have hst:d01 fuel out h (i:Int)=if (out[i].To==h.To)=true then some (.done (.inr (i:Int))) else some (.next ((i+1:Nat):Int)):=by
    unfold d01 o0n;simp only [hd1,decide_true,if_true,hin,hg,G0,G3 (show i<9223372036854775807 by omega)]
   unfold iter;rw [hst]
   by_cases c:(out[i].To==h.To)=true
   ·rw [if_pos c];exact ⟨_,rfl,by omega,by rw [hd];simp only [any_cons,c,Bool.true_or]⟩
   ·rw [if_neg c];obtain ⟨t,h1,h2⟩:=ih (i+1) (by omega) m (by omega);refine ⟨t,h1,?_⟩;rw [hd];have c':(out[i].To==h.To)=false:=by simpa using c
    cases t with
    |inl _=>simp only [any_cons,c',Bool.false_or];exact h2
    |inr r=>simp only [any_cons,c',Bool.false_or];exact h2
 obtain ⟨t,h1,h2⟩:=key out.length 0 (by omega) fuel (by omega);unfold j0G l0M;rw [show (0:Int)=((0:Nat):Int) from rfl,h1];rw [List.drop_zero] at h2;cases t with
 |inl _=>simp only [G0];rw [h2];rfl
 |inr r=>simp only [G0];rw [h2.2];simp [h2.1]
theorem drop_cons {α:Type} [Inhabited α] {l:List α} {i:Nat} (h:i<l.length):l.drop i=gt l (i:Int) :: l.drop (i+1):=by
 rw [List.drop_eq_getElem_cons h,B4 (x:=l[i]) (by simp [h])]
theorem u0K {fuel:Nat} {c:U4} {at_:Nat} {d:Int} {goal:Int} {st:List Int} {out hops:List y0} (hinto:e6 fuel fuel c goal st []=some hops) (hd:B0 c.deep (at_:Int)=true) (hdv:gt c.deep (at_:Int)=d)
  (hb:out.length+hops.length<=1000000) (hf:1000001<fuel):a01 fuel c (at_:Int) goal st out=some (a6 d out hops):=by
 have key:∀ (k i:Nat) (o:List y0),i+k=hops.length->o.length+k<=1000000->∀ m,k<m->iter (d0H fuel c (at_:Int) out hops) m (o,(i:Int))=some (a6 d o (hops.drop i)):=by
  intro k
  induction k with
  |
   zero=>
   intro i o hi ho m hm;obtain ⟨m,rfl⟩:∃ q,m=q+1:=⟨m-1,by omega⟩
   rw [List.drop_of_length_le (by omega)];unfold iter d0H;have:¬ ((i:Int)<(hops.length:Int)):=by omega
   simp [this,a6]
  |
   succ k ih=>
   intro i o hi ho m hm;obtain ⟨m,rfl⟩:∃ q,m=q+1:=⟨m-1,by omega⟩
   have hlt:i<hops.length:=by omega
   have hin:B0 hops (i:Int)=true:=R0 (by omega) (by omega);have hd1:(i:Int)<(hops.length:Int):=by omega
   have hap:∀ x:y0,I0 40 o [x]=true:=fun x=>Y4 (by simp;omega);have hst:d0H fuel c (at_:Int) out hops (o,(i:Int))=some (.next ((if o.any (fun x=>x.To==(gt hops (i:Int)).To) then o else o++[⟨(gt hops (i:Int)).To,d,(gt hops (i:Int)).Steps⟩]),((i+1:Nat):Int))):=by
    unfold d0H;simp only [hd1,decide_true,if_true,hin,y0G fuel o (gt hops (i:Int)) (by omega) (by omega),G0,hd,hdv,hap,G3 (show i<9223372036854775807 by omega)];cases o.any (fun x=>x.To==(gt hops (i:Int)).To)<;>simp
   unfold iter;rw [hst,drop_cons hlt];simp only [a6];refine ih (i+1) _ (by omega) ?_ m (by omega);split
   ·omega
   ·simp only [length_append,length_cons,length_nil];omega
 unfold a01;rw [hinto];simp only [G0];rw [show (0:Int)=((0:Nat):Int) from rfl,key hops.length 0 out (by omega) (by omega) fuel (by omega)];simp
theorem E0h {l:List C0} (hw:∀ x∈l,o3 x) {t:Tm} (ht:O2 l t) (hR:K1 l=true) {c:U4} (hc:h0m c l t) {fuel:Nat} (hf:1000001<fuel) (p1:Int) :
  ∀ (fs:List Fr) (lo:Nat) (s:Tm) (st:List Int) (out:List y0),Ctx t lo s fs->st.length+1000*fs.length<=500000->out.length+1000*fs.length<=500000->∀ m,fs.length<m->
   ∃ r,iter (b0G fuel c p1) m ((s.top lo:Int),st,out,gt c.up (s.top lo:Int))=some r/\
    (match r with | .inl (y1,y2)=>(y2,y1,true) | .inr (z1,z2)=>(z1,z2,false))=n4 lo (L0 l lo) s st out fs/\(∀ z1 z2,r=.inr (z1,z2)->z2=[]):=by
 have h400:=ht.le;have hlen0:=ht.len;have hcl:=hc.tl;have hcc:=hc.can;have hct:=g0B hR;intro fs
 induction fs with
 |
  nil=>
  intro lo s st out hx h1 h2 m hm;obtain ⟨m,rfl⟩:∃ q,m=q+1:=⟨m-1,by omega⟩
  refine ⟨.inl (st,out),?_,rfl,fun _ _ h=>by cases h⟩;rw [hx.root hc.up];unfold iter b0G;simp
 |
  cons f fs ih=>
  intro lo s st out hx h1 h2 m hm;obtain ⟨m,rfl⟩:∃ q,m=q+1:=⟨m-1,by omega⟩
  have hpart:=hx.part ht hc.up hc.deep;have hpar:=hx.2.part ht hc.up hc.deep;have hedge:=hx.r0u ht hc.up hc.deep;have hx2:=hx.2;have hlvs:=z01 ht hc.up hc.deep hx;have hsz:=hx.size;simp only [length_cons] at h1 h2 hm hsz;rw [hedge];have htop:=hpar.at_.j5;have hg:=hpar.at_.D2;have hdp:=hpar.deep.top;generalize hlo:lo-f.off=lo' at *;generalize hr:(f.E2 s).top lo'=r at *;have hin:B0 l (r:Int)=true:=R0 (by omega) (by omega);have hiu:B0 c.up (r:Int)=true:=R0 (by omega) (by rw [hc.up.len];omega);have hid:B0 c.deep (r:Int)=true:=R0 (by omega) (by rw [hc.deep.len];omega);have hr0:(r:Int)>=0:=by omega
  have hcls:W (W (2*(r:Int))+1)=cls r:=by rw [o7 (by omega),W9 (by omega)]
  have next:∀ (st':List Int) (out':List y0),st'.length<=st.length+900->(Option.bind (I8 fuel st' [W (W (2*(r:Int))+1)]) fun x12=>if B0 c.up (r:Int)=true then (some (.next ((r:Int),x12,out',gt c.up (r:Int))):Option (V0 (Int×List Int×List y0×Int) ((List Int×List y0) ⊕ ((List y0)×(List Int))))) else none)=some (.next ((r:Int),st'++[cls r],out',gt c.up (r:Int))):=fun st' out' hs=>by
   rw [hcls,d0t (fuel:=fuel) (a:=st') (b:=[cls r]) (by simp;omega),hiu];rfl
  have plain:∀ (fs':List Fr),n4 lo (L0 l lo) s st out (f :: fs)=n4 lo' (L0 l lo') (f.E2 s) (st++[cls r]) out fs->b0G fuel c p1 ((s.top lo:Int),st,out,(r:Int))=some (.next ((r:Int),st++[cls r],out,gt c.up (r:Int)))->
    ∃ r',iter (b0G fuel c p1) (m+1) ((s.top lo:Int),st,out,(r:Int))=some r'/\(match r' with | .inl (y1,y2)=>(y2,y1,true) | .inr (z1,z2)=>(z1,z2,false))=n4 lo (L0 l lo) s st out (f :: fs)/\(∀ z1 z2,r'=.inr (z1,z2)->z2=[]):=fun _ e1 e2=>by
   unfold iter;rw [e1,e2];have:=ih lo' (f.E2 s) (st++[cls r]) out hx2 (by simp;omega) (by omega) m (by omega);rw [hr] at this;exact this
  have step0:b0G fuel c p1 ((s.top lo:Int),st,out,(r:Int))=b0G fuel c p1 ((s.top lo:Int),st,out,(r:Int)):=rfl
  conv at step0=>rhs;unfold b0G
  simp only [hr0,decide_true,if_true,hcl,hin,hg] at step0;cases f with
  |
   catL b=>
   simp only [Fr.E2,Fr.off,sub_zero] at hlo hr hg hpar step0;subst hlo;obtain ⟨hats,hatb,_⟩:=(At.bin rfl rfl).1 hpar.at_;have hbi:=b.a0V (lo+s.size) (L0 l lo+s.leaves) st;have hbl:=b.a0D;have hbs:=b.X8 (lo+s.size);have hsb:b.size<=400:=by have:=hatb.len;omega
   have hinto:=n05 hw ht hR hc (show 401<fuel by omega) b (lo+s.size) hatb fuel st [] (by omega) (by omega) (by simp;omega);rw [b9 hats,List.nil_append] at hinto;have hturn:=u0K (at_:=r) (d:=(fs.length+1:Nat)) (st:=st) (out:=out) hinto hid hdp (by omega) hf;have hbin:B0 (V8 l) (b.top (lo+s.size):Int)=true:=R0 (by omega) (by rw [hct.len];have:=hatb.j5;omega);simp only [Tm.node,beq_self_eq_true,if_true,G0,hturn,hcc,hbin,hct.top b _ hatb] at step0;have htl:=f0h ((fs.length+1:Nat):Int) (b.Q0 (lo+s.size) (L0 l lo+s.leaves) st) out;simp only [n4];cases hcan:b.can with
   |
    false=>
    simp only [hcan,Bool.not_false,if_true,G0] at step0;refine ⟨_,by unfold iter;rw [step0],?_,fun z1 z2 h=>by cases h;rfl⟩;simp
   |
    true=>
    simp only [hcan,Bool.not_true,false_eq_true,if_false,l0k hw ht hR (show 401<fuel by omega) hatb,if_true,G0,d0t (fuel:=fuel) (a:=st) (b:=b.steps (lo+s.size)) (by omega)] at step0;rw [next _ _ (by simp;omega)] at step0;unfold iter;rw [step0];have:=ih lo (.cat s b) (st++b.steps (lo+s.size)++[cls r]) (a6 ((fs.length+1:Nat):Int) out (b.Q0 (lo+s.size) (L0 l lo+s.leaves) st)) hx2 (by simp;omega) (by omega) m (by omega);rw [hr] at this;rw [if_pos rfl,hr];exact this
  |
   star=>
   simp only [Fr.E2,Fr.off,sub_zero] at hlo hr hg hpar step0;subst hlo;obtain ⟨hats,_⟩:=(At.un rfl rfl).1 hpar.at_;have hbi:=s.a0V lo (L0 l lo) st;have hbl:=s.a0D;have hsb:s.size<=400:=by have:=hats.len;omega
   have hinto:=n05 hw ht hR hc (show 401<fuel by omega) s lo hats fuel st [] (by omega) (by omega) (by simp;omega);rw [List.nil_append] at hinto;have hturn:=u0K (at_:=r) (d:=(fs.length+1:Nat)) (st:=st) (out:=out) hinto hid hdp (by omega) hf;simp only [Tm.node,show ((5:Int)==3)=false from rfl,beq_self_eq_true,false_eq_true,if_false,if_true,G0,hturn] at step0;rw [next _ _ (by omega)] at step0;have htl:=f0h ((fs.length+1:Nat):Int) (s.Q0 lo (L0 l lo) st) out;simp only [n4];unfold iter;rw [step0];have:=ih lo (.star s) (st++[cls r]) (a6 ((fs.length+1:Nat):Int) out (s.Q0 lo (L0 l lo) st)) hx2 (by simp;omega) (by omega) m (by omega);rw [hr] at this;rw [hr];exact this
  |
   catR a=>
   simp only [Fr.E2,Fr.off] at hlo hr hg hpar step0;have hps:=s.size_pos;have hne:((a.top lo':Int)==(s.top lo:Int))=false:=by
    have:=hx.1;have:=a.size_pos;simp only [Fr.off] at *;have:a.top lo'≠s.top lo:=by unfold Tm.top;omega
    simp;omega
   refine plain fs (by simp only [n4,Fr.off,Fr.v7,hlo,hlvs,Fr.E2,hr]) ?_;rw [step0];simp only [Tm.node,hne,beq_self_eq_true,if_true,G0,false_eq_true,if_false];exact next st out (by omega)
  |
   altR a=>
   simp only [Fr.E2,Fr.off] at hlo hr hg hpar step0;refine plain fs (by simp only [n4,Fr.off,Fr.v7,hlo,hlvs,Fr.E2,hr]) ?_;rw [step0];simp only [Tm.node,G0];exact next st out (by omega)
  |
   altL b | maybe | group n | iter=>
   simp only [Fr.E2,Fr.off,sub_zero] at hlo hr hg hpar step0;subst hlo;refine plain fs (by subst hr;rfl) ?_;rw [step0];simp only [Tm.node,G0];exact next st out (by omega)
