/- Loops over plain data. Machines that are right: program and document alike. Classes that are right; machines that are right. Machines that are right, whole; what is small. What is small, told; the cars. Cars: the program's and the document's. Cars: feeding; what they find. Spans; what is the same as itself. Machines that are the same: program and document alike. Its conditions: none. -/
import Derived.Test.YtihmgaccbcfgjaaGreatRMd
import Derived.Test.YtihmgaccbcfgjaaGreatRG24
open Bool (false_eq_true and_eq_true)
open List (mem_cons length_pos_iff all_eq_true length_zip)
set_option linter.all false
namespace Go.Proofs.YtihmgaccbcfgjaaGreat
open Go.V Go.RowKit Go.X
theorem i7 {S ρ:Type} {body:S->Option (T0 S ρ)} (n:Nat) (g:Nat->S) (res:ρ) (hs:∀ i,i<n->body (g i)=some (.next (g (i+1)))) (he:body (g n)=some (.done res)) {fu:Nat} (h:n<fu):iter body fu (g 0)=some res:=by
 have key:∀ (k i fu:Nat),i+k=n->k<fu->iter body fu (g i)=some res:=by
  intro k
  induction k with
  |
   zero=>
   intro i fu hi hfu;obtain ⟨fu,rfl⟩:∃ m,fu=m+1:=⟨fu-1,by omega⟩
   unfold iter;rw [show i=n by omega,he]
  |
   succ k ih=>
   intro i fu hi hfu;obtain ⟨fu,rfl⟩:∃ m,fu=m+1:=⟨fu-1,by omega⟩
   unfold iter;rw [hs i (by omega)];exact ih (i+1) fu (by omega) (by omega)
 exact key n 0 fu (by omega) h
theorem F8 {α ρ:Type} [Inhabited α] (l:List α) (p:α->Bool) (good:ρ) (bad:Nat->ρ) {body:Int->Option (T0 Int ρ)}
  (hs:∀ i:Nat,i<l.length->body (i:Int)=some (if p (gt l (i:Int)) then .next ((i+1:Nat):Int) else .done (bad i))) (he:body (l.length:Int)=some (.done good)) {fu:Nat} (h:l.length<fu) :
  ∃ k,iter body fu 0=some (if l.all p then good else bad k):=by
 have key:∀ (k i fu:Nat),i+k=l.length->k<fu->∃ j,iter body fu (i:Int)=some (if (l.drop i).all p then good else bad j):=by
  intro k
  induction k with
  |
   zero=>
   intro i fu hi hfu;obtain ⟨fu,rfl⟩:∃ m,fu=m+1:=⟨fu-1,by omega⟩
   refine ⟨0,?_⟩;unfold iter;rw [show i=l.length by omega,he];simp
  |
   succ k ih=>
   intro i fu hi hfu;obtain ⟨fu,rfl⟩:∃ m,fu=m+1:=⟨fu-1,by omega⟩
   obtain ⟨j,hj⟩:=ih (i+1) fu (by omega) (by omega);have hil:i<l.length:=by omega
   have hd:l.drop i=gt l (i:Int) :: l.drop (i+1):=by
    rw [List.drop_eq_getElem_cons hil,Y5 (x:=l[i]) (by simp [hil])]
   unfold iter;rw [hs i hil,hd]
   by_cases hp:p (gt l (i:Int))=true
   ·rw [if_pos hp];exact ⟨j,by simp only [hj,List.all_cons,hp,Bool.true_and]⟩
   ·have hp:p (gt l (i:Int))=false:=by simpa using hp
    refine ⟨i,?_⟩;simp only [hp,List.all_cons,Bool.false_and,false_eq_true,if_false]
 exact key l.length 0 fu (by omega) h
theorem K4 {α:Type} [Inhabited α] {l:List α} {i:Nat} (h:i<l.length):gt l (i:Int)∈l:=by
 rw [Y5 (x:=l[i]) (by simp [h])];exact List.getElem_mem h
theorem dec_lt {a b:Nat} (h:a<b):decide ((a:Int)<(b:Int))=true:=by simp;omega
def M4 (n regs:Int):Bool:=n==-1||(decide (0<=n)&&decide (n<regs))
def a0E (s:Z1) (tags:Int):Bool:=(s.Accept.length:Int)==0||((s.Accept.length:Int)==tags&&s.Accept.all fun n=>n==-2||M4 n s.Regs)
def L5 (d:K0) (regs:Int) (x:L2):Bool:=
 if x.To=-1 then (x.Src.length:Int)==0 else decide (0<=x.To)&&decide (x.To<(d.States.length:Int))&&(x.Src.length:Int)==(gt d.States x.To).Regs&&x.Src.all fun n=>M4 n regs
def V9 (d:K0) (k:Nat) (s:Z1):Bool:=decide (0<=s.Regs)&&decide (s.Regs<=1216)&&(s.Edges.length:Int)==(k:Int)&&a0E s d.Tags&&s.Edges.all (L5 d s.Regs)
def l7:List Int->Int->Option Int
 |[],n=>some n
 |c :: r,n=>if c<0\/n<c then none else l7 r (if c=n then n+1 else n)
def D6 (c:List Int):Bool:=(l7 c 0).isSome&&(c.length:Int)==256
def b0m:List Int->Nat->List Int->List Int
 |[],_,out=>out
 |c :: r,b,out=>b0m r (b+1) (if c=(out.length:Int) then out++[IntKind.u8.wrap (b:Int)] else out)
def N4 (c:List Int):List Int:=b0m c 0 []
def U4 (d:K0):Bool:=
 decide (1<=d.Tags)&&decide (d.Tags<=19)&&!(d.Tags.tmod 2==0)&&!((d.States.length:Int)==0)&&decide ((d.States.length:Int)<=400)&&D6 d.Class&&d.States.all (V9 d (N4 d.Class).length)&&(gt d.States 0).Regs==0
structure Sm (d:K0):Prop where
 st:d.States.length<=60
 cl:d.Class.length<=300
 ac:∀ s∈d.States,s.Accept.length<=40
 ed:∀ s∈d.States,s.Edges.length<=300
 rg:∀ s∈d.States,s.Regs<=400
 sr:∀ s∈d.States,∀ x∈s.Edges,x.Src.length<=400
variable {F:Nat}
theorem n08 (n regs:Int):c0v F n regs=some (M4 n regs):=by
 unfold c0v M4
 by_cases h:n=-1
 ·subst h;rfl
 ·have:(n==-1)=false:=by simpa using h
  rw [this]
  by_cases h2:0<=n
  ·have:decide (n>=0)=true:=by simpa using h2
   simp [this,h2]
  ·have:decide (n>=0)=false:=by simpa using h2
   simp [this,h2]
theorem m0l (n regs:Int) (may:Bool):d0k F n regs may=some (M4 n regs||(may&&n==-2)):=by
 unfold d0k M4
 by_cases h2:0<=n
 ·have e:decide (n>=0)=true:=by simpa using h2
  have h1:(n==-1)=false:=by simp;omega
  have h3:(n==-2)=false:=by simp;omega
  cases h4:decide (n<regs)<;>cases may<;>simp [e,h1,h2,h3,h4]
 ·have e:decide (n>=0)=false:=by simpa using h2
  cases h4:(n==-1)<;>cases may<;>simp [e,h2,h4]
theorem y0z (s:Z1) (tags:Int) (hl:s.Accept.length<=1000) (hF:2000<F):f0N F s tags=some (a0E s tags):=by
 unfold f0N a0E;cases h0:(s.Accept.length:Int)==0
 ·cases h1:(s.Accept.length:Int)==tags
  ·simp
  ·obtain ⟨k,hk⟩:=F8 (body:=f0q F s) s.Accept (fun n=>n==-2||M4 n s.Regs) (.inr ()) (fun i=>.inl (i:Int)) (fun i hi=>by
    unfold f0q;simp only [dec_lt hi,Y3,hi,decide_true,if_true];cases h2:gt s.Accept (i:Int)==-2
    ·have:(gt s.Accept (i:Int) != -2)=true:=by simp [bne,h2]
     simp only [this,if_true,n08,F1,Bool.false_or];cases M4 (gt s.Accept (i:Int)) s.Regs
     ·simp
     ·simp only [Bool.not_true,false_eq_true,if_false,if_true];rw [R2 (by omega)]
    ·have:(gt s.Accept (i:Int) != -2)=false:=by simp [bne,h2]
     simp only [this,false_eq_true,if_false,F1,Bool.true_or,if_true];rw [R2 (by omega)]) (by
    unfold f0q;simp) (fu:=F) (by omega)
   simp only [false_eq_true,if_false,if_true,hk,F1,Bool.false_or,Bool.true_and];cases hall:s.Accept.all fun n=>n==-2||M4 n s.Regs
   ·simp
   ·simp
 ·simp
theorem t0C (d:K0) (s:Z1) (x:L2) (hl:x.Src.length<=1000) (hF:2000<F):f0W F d s x=some (L5 d s.Regs x):=by
 unfold f0W L5
 by_cases h0:x.To=-1
 ·simp [h0]
 ·have e:(x.To==-1)=false:=by simpa using h0
  simp only [e,false_eq_true,if_false,h0]
  by_cases h1:0<=x.To
  ·have e1:decide (x.To>=0)=true:=by simpa using h1
   by_cases h2:x.To<(d.States.length:Int)
   ·have hin:y0 d.States x.To=true:=B4 h1 h2;cases h3:(x.Src.length:Int)==(gt d.States x.To).Regs
    ·simp [e1,h2,hin,h3]
    ·obtain ⟨k,hk⟩:=F8 (body:=e0g F s x) x.Src (fun n=>M4 n s.Regs) (.inr ()) (fun i=>.inl (i:Int)) (fun i hi=>by
      unfold e0g;simp only [dec_lt hi,Y3,hi,decide_true,if_true,n08,F1];cases M4 (gt x.Src (i:Int)) s.Regs
      ·simp
      ·simp only [Bool.not_true,false_eq_true,if_false,if_true];rw [R2 (by omega)]) (by
      unfold e0g;simp) (fu:=F) (by omega)
     simp only [e1,h1,h2,decide_true,if_true,F1,hin,h3,hk,Bool.true_and];cases hall:x.Src.all fun n=>M4 n s.Regs<;>simp
   ·simp [e1,h2]
  ·have e1:decide (x.To>=0)=false:=by simpa using h1
   simp [e1,h1]
theorem u0X (d:K0) (regs:Int) (x:L2) (hl:x.Src.length<=1000) (hF:2000<F):d01 F d x regs=some (L5 d regs x):=by
 unfold d01 L5
 by_cases h0:x.To=-1
 ·simp [h0]
 ·have e:(x.To==-1)=false:=by simpa using h0
  simp only [e,false_eq_true,if_false,h0]
  by_cases h1:0<=x.To
  ·have e1:decide (x.To<0)=false:=by simpa using h1
   by_cases h2:x.To<(d.States.length:Int)
   ·have hin:y0 d.States x.To=true:=B4 h1 h2;have e2:decide (x.To>=(d.States.length:Int))=false:=by simpa using h2
    cases h3:(x.Src.length:Int)==(gt d.States x.To).Regs
    ·have:((x.Src.length:Int) != (gt d.States x.To).Regs)=true:=by simp [bne,h3]
     simp [e1,e2,h2,hin,h3,this]
    ·have:((x.Src.length:Int) != (gt d.States x.To).Regs)=false:=by simp [bne,h3]
     obtain ⟨k,hk⟩:=F8 (body:=g0z F x regs) x.Src (fun n=>M4 n regs) (.inr ()) (fun i=>.inl ()) (fun i hi=>by
      unfold g0z;simp only [dec_lt hi,Y3,hi,decide_true,if_true,m0l,F1,Bool.false_and,Bool.or_false];cases M4 (gt x.Src (i:Int)) regs
      ·simp
      ·simp only [Bool.not_true,false_eq_true,if_false,if_true];rw [R2 (by omega)]) (by
      unfold g0z;simp) (fu:=F) (by omega)
     simp only [e1,e2,h1,h2,decide_true,if_true,F1,hin,h3,hk,Bool.true_and,false_eq_true,if_false,this];cases hall:x.Src.all fun n=>M4 n regs<;>simp
   ·have e2:decide (x.To>=(d.States.length:Int))=true:=by simp;omega
    simp [e1,e2,h2]
  ·have e1:decide (x.To<0)=true:=by simp;omega
   simp [e1,h1]
end Go.Proofs.YtihmgaccbcfgjaaGreat
namespace Go.Proofs.YtihmgaccbcfgjaaGreat
open Go.V Go.RowKit Go.X
variable {F:Nat}
theorem h0Z:∀ {l:List Int} {n m:Int},l7 l n=some m->n<=m/\m<=n+l.length/\∀ c∈l,0<=c/\c<m
 |[],n,m,h=>by cases h;exact ⟨Int.le_refl _,by simp,by simp⟩
 |
  c :: r,n,m,h=>by
  unfold l7 at h;split at h
  ·cases h
  ·rename_i hc;obtain ⟨h1,h2,h3⟩:=h0Z h
   by_cases e:c=n
   ·rw [if_pos e] at h1 h2;refine ⟨by omega,by simp;omega,fun x hx=>?_⟩;rcases mem_cons.1 hx with rfl | hx
    ·omega
    ·exact h3 x hx
   ·rw [if_neg e] at h1 h2;refine ⟨h1,by simp;omega,fun x hx=>?_⟩;rcases mem_cons.1 hx with rfl | hx
    ·omega
    ·exact h3 x hx
theorem n0j {α:Type} [Inhabited α] {l:List α} {i:Nat} (h:i<l.length):l.drop i=gt l (i:Int) :: l.drop (i+1):=by
 rw [List.drop_eq_getElem_cons h,Y5 (x:=l[i]) (by simp [h])]
theorem Q6 {n:Int} (h1:0<=n) (h2:n<=1000000):W n=n:=c0R (by omega) (by omega)
theorem l0Z {body:Int×Int->Option (T0 (Int×Int) (Unit ⊕ Unit))} (l:List Int) (hl:l.length<=1000)
  (hs:∀ (i:Nat) (n:Int),i<l.length->0<=n->n<=i->body (n,(i:Int))=some (if gt l (i:Int)<0\/n<gt l (i:Int) then .done (.inl ()) else .next ((if gt l (i:Int)=n then n+1 else n),((i+1:Nat):Int))))
  (he:∀ n,body (n,(l.length:Int))=some (.done (.inr ()))) (hF:2000<F):iter body F (0,0)=some (if (l7 l 0).isSome then .inr () else .inl ()):=by
 have key:∀ (k i fu:Nat) (n:Int),i+k=l.length->k<fu->0<=n->n<=i->iter body fu (n,(i:Int))=some (if (l7 (l.drop i) n).isSome then .inr () else .inl ()):=by
  intro k
  induction k with
  |
   zero=>
   intro i fu n hi hfu _ _;obtain ⟨fu,rfl⟩:∃ m,fu=m+1:=⟨fu-1,by omega⟩
   obtain rfl:i=l.length:=by omega
   unfold iter;rw [he,List.drop_length];rfl
  |
   succ k ih=>
   intro i fu n hi hfu h0 hn;obtain ⟨fu,rfl⟩:∃ m,fu=m+1:=⟨fu-1,by omega⟩
   unfold iter;rw [hs i n (by omega) h0 hn,n0j (show i<l.length by omega)];unfold l7
   by_cases hc:gt l (i:Int)<0\/n<gt l (i:Int)
   ·simp only [if_pos hc];rfl
   ·simp only [if_neg hc]
    by_cases e:gt l (i:Int)=n
    ·simp only [if_pos e];exact ih (i+1) fu (n+1) (by omega) (by omega) (by omega) (by omega)
    ·simp only [if_neg e];exact ih (i+1) fu n (by omega) (by omega) (by omega) (by omega)
 exact key l.length 0 F 0 (by omega) (by omega) (by omega) (by omega)
theorem k0E (c:List Int) (hl:c.length<=1000) (hF:2000<F):c0A F c=some (D6 c):=by
 unfold c0A;rw [l0Z c hl (fun i n hi h0 hn=>by
  unfold i0s;simp only [dec_lt hi,Y3,hi,decide_true,if_true]
  by_cases h1:gt c (i:Int)<0
  ·simp [h1]
  ·by_cases h2:n<gt c (i:Int)
   ·have:decide (gt c (i:Int)>n)=true:=by simp;omega
    simp [h1,h2,this]
   ·have e1:decide (gt c (i:Int)>n)=false:=by simp;omega
    have e2:decide (gt c (i:Int)<0)=false:=by simp;omega
    have e3:W (gt c (i:Int)+1)=gt c (i:Int)+1:=Q6 (by omega) (by omega);have e4:W ((i:Int)+1)=((i+1:Nat):Int):=R2 (by omega);simp only [e1,e2,e3,e4,F1,false_eq_true,if_false,h1,h2,or_self]
    by_cases e:gt c (i:Int)=n
    ·simp [e];intro h;omega
    ·have:¬ (gt c (i:Int)+1>n):=by omega
     simp [e,this]) (fun n=>by unfold i0s;simp) hF]
 unfold D6;cases (l7 c 0).isSome<;>simp
theorem l0f (c:List Int) (hl:c.length<=1000) (hF:2000<F):c0t F c=some (D6 c):=by
 unfold c0t;rw [l0Z c hl (fun i n hi h0 hn=>by
  unfold i0c;simp only [dec_lt hi,Y3,hi,decide_true,if_true]
  by_cases h1:gt c (i:Int)<0
  ·simp [h1]
  ·by_cases h2:n<gt c (i:Int)
   ·have:decide (gt c (i:Int)>n)=true:=by simp;omega
    simp [h1,h2,this]
   ·have e1:decide (gt c (i:Int)>n)=false:=by simp;omega
    have e2:decide (gt c (i:Int)<0)=false:=by simp;omega
    have e3:W (n+1)=n+1:=Q6 (by omega) (by omega);have e4:W ((i:Int)+1)=((i+1:Nat):Int):=R2 (by omega);simp only [e1,e2,e3,e4,F1,false_eq_true,if_false,h1,h2,or_self]
    by_cases e:gt c (i:Int)=n
    ·simp [e]
    ·have:(gt c (i:Int)==n)=false:=by simpa using e
     simp [e,this]) (fun n=>by unfold i0c;simp) hF]
 unfold D6;cases (l7 c 0).isSome<;>simp
theorem n0m {body:List Int×Int->Option (T0 (List Int×Int) (List Int))} (l:List Int) (hl:l.length<=1000)
  (hs:∀ (i:Nat) (o:List Int),i<l.length->o.length<=i->body (o,(i:Int))=some (.next ((if gt l (i:Int)=(o.length:Int) then o++[IntKind.u8.wrap (i:Int)] else o),((i+1:Nat):Int))))
  (he:∀ o,body (o,(l.length:Int))=some (.done o)) (hF:2000<F):iter body F ([],0)=some (N4 l):=by
 have key:∀ (k i fu:Nat) (o:List Int),i+k=l.length->k<fu->o.length<=i->iter body fu (o,(i:Int))=some (b0m (l.drop i) i o):=by
  intro k
  induction k with
  |
   zero=>
   intro i fu o hi hfu _;obtain ⟨fu,rfl⟩:∃ m,fu=m+1:=⟨fu-1,by omega⟩
   obtain rfl:i=l.length:=by omega
   unfold iter;rw [he,List.drop_length];rfl
  |
   succ k ih=>
   intro i fu o hi hfu ho;obtain ⟨fu,rfl⟩:∃ m,fu=m+1:=⟨fu-1,by omega⟩
   unfold iter;rw [hs i o (by omega) ho,n0j (show i<l.length by omega)];unfold b0m;exact ih (i+1) fu _ (by omega) (by omega) (by
    split
    ·simp;omega
    ·omega)
 exact key l.length 0 F [] (by omega) (by omega) (by simp)
theorem z0T (c:List Int) (hl:c.length<=1000) (hF:2000<F):c0m F c=some (if D6 c then N4 c else []):=by
 unfold c0m;rw [k0E c hl hF];cases D6 c
 ·simp
 ·simp only [F1,Bool.not_true,false_eq_true,if_false,if_true];rw [n0m c hl (fun i o hi ho=>by
   unfold j0Y;have ha:C1 1 o [IntKind.u8.wrap (i:Int)]=true:=a7 (by simp;omega);simp only [dec_lt hi,Y3,hi,decide_true,if_true,ha];rw [R2 (by omega)]
   by_cases e:gt c (i:Int)=(o.length:Int)
   ·simp [e]
   ·have:(gt c (i:Int)==(o.length:Int))=false:=by simpa using e
    simp [e,this]) (fun o=>by unfold j0Y;simp) hF]
  rfl
theorem v0t (c:List Int) (hl:c.length<=1000) (hF:2000<F):g0b F c=some (if D6 c then N4 c else []):=by
 unfold g0b;rw [l0f c hl hF];cases hc:D6 c
 ·simp
 ·have h256:c.length=256:=by
   unfold D6 at hc;simp at hc;omega
  simp only [F1,Bool.not_true,false_eq_true,if_false,if_true];rw [n0m c hl (fun i o hi ho=>by
   unfold h07;have ha:C1 1 o [IntKind.u8.wrap (i:Int)]=true:=a7 (by simp;omega);have hd:decide ((i:Int)<256)=true:=by simp;omega
   simp only [hd,Y3,hi,decide_true,if_true,ha];rw [R2 (by omega)]
   by_cases e:gt c (i:Int)=(o.length:Int)
   ·simp [e]
   ·have:(gt c (i:Int)==(o.length:Int))=false:=by simpa using e
    simp [e,this]) (fun o=>by unfold h07;simp [h256]) hF]
  rfl
theorem m0i:∀ {l:List Int} {n m:Int} {b:Nat} {o:List Int},l7 l n=some m->(o.length:Int)=n->((b0m l b o).length:Int)=m
 |[],n,m,b,o,h,ho=>by cases h;exact ho
 |
  c :: r,n,m,b,o,h,ho=>by
  unfold l7 at h;split at h
  ·cases h
  ·unfold b0m;refine m0i h ?_;rw [ho];split<;>simp [ho]
theorem x0R {c:List Int} (h:D6 c=true):∃ m:Nat,l7 c 0=some (m:Int)/\(N4 c).length=m/\m<=256/\c.length=256:=by
 unfold D6 at h;simp only [and_eq_true] at h;obtain ⟨h1,h2⟩:=h;obtain ⟨m,hm⟩:=Option.isSome_iff_exists.1 h1;have h2:c.length=256:=by simp at h2;omega
 obtain ⟨b1,b2,_⟩:=h0Z hm;have hl:=m0i (b:=0) (o:=[]) hm (by simp);refine ⟨m.toNat,by rw [hm];congr 1;omega,?_,by omega,h2⟩;unfold N4;omega
end Go.Proofs.YtihmgaccbcfgjaaGreat
namespace Go.Proofs.YtihmgaccbcfgjaaGreat
open Go.V Go.RowKit Go.X
variable {F:Nat}
theorem s0G (d:K0) (hd:Sm d) (i:Nat) (hi:i<d.States.length) (hF:2000<F):iter (d0F F d (i:Int)) F 0=some (if (gt d.States (i:Int)).Edges.all (L5 d (gt d.States (i:Int)).Regs) then .inr () else .inl ()):=by
 have hm:=K4 hi;obtain ⟨k,hk⟩:=F8 (body:=d0F F d (i:Int)) (gt d.States (i:Int)).Edges (L5 d (gt d.States (i:Int)).Regs) (.inr ()) (fun _=>.inl ()) (fun j hj=>by
  unfold d0F;have hs:=hd.sr _ hm _ (K4 hj);simp only [dec_lt hj,Y3,hj,decide_true,if_true];rw [t0C d _ _ (by omega) hF];cases L5 d (gt d.States (i:Int)).Regs (gt (gt d.States (i:Int)).Edges (j:Int))
  ·simp
  ·simp only [F1,Bool.not_true,false_eq_true,if_false,if_true];rw [R2 (by have:=hd.ed _ hm;omega)]) (by
  unfold d0F;simp) (fu:=F) (by have:=hd.ed _ hm;omega)
 exact hk
theorem q0R (d:K0) (hd:Sm d) (hF:2000<F):d0z F d=some (U4 d):=by
 unfold d0z U4
 by_cases h1:d.Tags<1
 ·simp [h1];intro h;omega
 by_cases h2:d.Tags>19
 ·simp [h1,h2];intro _ h;omega
 have e1:decide (d.Tags<1)=false:=by simpa using h1
 have e2:decide (d.Tags>19)=false:=by simpa using h2
 have e3:decide (1<=d.Tags)=true:=by simp;omega
 have e4:decide (d.Tags<=19)=true:=by simp;omega
 cases h3:d.Tags.tmod 2==0
 ·cases h4:(d.States.length:Int)==0
  ·have e5:decide ((d.States.length:Int)>400)=false:=by simp;have:=hd.st;omega
   have e6:decide ((d.States.length:Int)<=400)=true:=by simp;have:=hd.st;omega
   have hcl:=hd.cl;simp only [e1,e2,e3,e4,e5,e6,F1,false_eq_true,if_false,if_true,Bool.not_false,Bool.true_and];rw [k0E d.Class (by omega) hF,z0T d.Class (by omega) hF];cases hc:D6 d.Class
   ·simp
   ·obtain ⟨k,hk⟩:=F8 (body:=f0y F d (N4 d.Class)) d.States (V9 d (N4 d.Class).length) (.inr ()) (fun _=>.inl ()) (fun i hi=>by
     have hm:=K4 hi;have hk:=s0G (F:=F) d hd i hi hF;have hac:=y0z (F:=F) (gt d.States (i:Int)) d.Tags (by have:=hd.ac _ hm;omega) hF;unfold f0y V9;simp only [dec_lt hi,Y3,hi,decide_true,if_true]
     by_cases g1:(gt d.States (i:Int)).Regs<0
     ·have:¬ (0<=(gt d.States (i:Int)).Regs):=by omega
      simp [g1,this]
     have f1:decide ((gt d.States (i:Int)).Regs<0)=false:=by simpa using g1
     have f2:decide (0<=(gt d.States (i:Int)).Regs)=true:=by simp;omega
     have f3:decide ((gt d.States (i:Int)).Regs>1216)=false:=by simp;have:=hd.rg _ hm;omega
     have f4:decide ((gt d.States (i:Int)).Regs<=1216)=true:=by simp;have:=hd.rg _ hm;omega
     simp only [f1,f2,f3,f4,F1,false_eq_true,if_false,Bool.true_and];cases g2:((gt d.States (i:Int)).Edges.length:Int)==((N4 d.Class).length:Int)
     ·have:(((gt d.States (i:Int)).Edges.length:Int) != ((N4 d.Class).length:Int))=true:=by simp [bne,g2]
      simp [this]
     ·have:(((gt d.States (i:Int)).Edges.length:Int) != ((N4 d.Class).length:Int))=false:=by simp [bne,g2]
      simp only [this,F1,false_eq_true,if_false,Bool.true_and,hac];cases a0E (gt d.States (i:Int)) d.Tags
      ·simp
      ·simp only [Bool.not_true,false_eq_true,if_false,hk,F1,Bool.true_and];cases (gt d.States (i:Int)).Edges.all (L5 d (gt d.States (i:Int)).Regs)
       ·simp
       ·simp only [if_true];rw [R2 (by have:=hd.st;omega)]) (by
     unfold f0y;simp) (fu:=F) (by have:=hd.st;omega)
    have h0:y0 d.States 0=true:=B4 (Int.le_refl _) (by simp at h4;have:=length_pos_iff.2 h4;omega);simp only [F1,Bool.not_true,false_eq_true,if_false,if_true,hk];cases d.States.all (V9 d (N4 d.Class).length)
    ·simp
    ·simp [h0]
  ·simp [h1,h2,h3,h4]
 ·simp [h1,h2,h3]
theorem r07 (d:K0) (hd:Sm d) (i:Nat) (hi:i<d.States.length) (hF:2000<F):iter (d0O F d (i:Int)) F 0=some (if (gt d.States (i:Int)).Accept.all (fun n=>n==-2||M4 n (gt d.States (i:Int)).Regs) then .inr () else .inl ()):=by
 have hm:=K4 hi;obtain ⟨k,hk⟩:=F8 (body:=d0O F d (i:Int)) (gt d.States (i:Int)).Accept (fun n=>n==-2||M4 n (gt d.States (i:Int)).Regs) (.inr ()) (fun _=>.inl ()) (fun j hj=>by
  unfold d0O;simp only [dec_lt hj,Y3,hj,decide_true,if_true,m0l,F1,Bool.true_and,Bool.or_comm (M4 _ _)];cases (gt (gt d.States (i:Int)).Accept (j:Int)==-2||M4 (gt (gt d.States (i:Int)).Accept (j:Int)) (gt d.States (i:Int)).Regs)
  ·simp
  ·simp only [Bool.not_true,false_eq_true,if_false,if_true];rw [R2 (by have:=hd.ac _ hm;omega)]) (by
  unfold d0O;simp) (fu:=F) (by have:=hd.ac _ hm;omega)
 exact hk
theorem r0B (d:K0) (hd:Sm d) (i:Nat) (hi:i<d.States.length) (least:List Int) (hl:(gt d.States (i:Int)).Edges.length=least.length) (hF:2000<F):iter (d0I F d least (i:Int)) F 0=some (if (gt d.States (i:Int)).Edges.all (L5 d (gt d.States (i:Int)).Regs) then .inr () else .inl ()):=by
 have hm:=K4 hi;obtain ⟨k,hk⟩:=F8 (body:=d0I F d least (i:Int)) (gt d.States (i:Int)).Edges (L5 d (gt d.States (i:Int)).Regs) (.inr ()) (fun _=>.inl ()) (fun j hj=>by
  unfold d0I;have hs:=hd.sr _ hm _ (K4 hj);simp only [dec_lt (show j<least.length by omega),Y3,hj,decide_true,if_true];rw [u0X d _ _ (by omega) hF];cases L5 d (gt d.States (i:Int)).Regs (gt (gt d.States (i:Int)).Edges (j:Int))
  ·simp
  ·simp only [F1,Bool.not_true,false_eq_true,if_false,if_true];rw [R2 (by have:=hd.ed _ hm;omega)]) (by
  unfold d0I;simp [hl]) (fu:=F) (by have:=hd.ed _ hm;omega)
 exact hk
theorem e0V (d:K0) (hd:Sm d) (hF:2000<F):L9 F d=some (U4 d):=by
 unfold L9 U4
 by_cases h1:d.Tags<1
 ·simp [h1];intro h;omega
 by_cases h2:d.Tags>19
 ·simp [h1,h2];intro _ h;omega
 have e1:decide (d.Tags<1)=false:=by simpa using h1
 have e2:decide (d.Tags>19)=false:=by simpa using h2
 have e3:decide (1<=d.Tags)=true:=by simp;omega
 have e4:decide (d.Tags<=19)=true:=by simp;omega
 cases h3:d.Tags.tmod 2==0
 ·cases h4:(d.States.length:Int)==0
  ·have e5:decide ((d.States.length:Int)>400)=false:=by simp;have:=hd.st;omega
   have e6:decide ((d.States.length:Int)<=400)=true:=by simp;have:=hd.st;omega
   have e7:decide ((d.States.length:Int)<1)=false:=by simp at h4;have:=length_pos_iff.2 h4;simp;omega
   have hcl:=hd.cl;simp only [e1,e2,e3,e4,e5,e6,e7,F1,false_eq_true,if_false,if_true,Bool.not_false,Bool.true_and];rw [l0f d.Class (by omega) hF,v0t d.Class (by omega) hF];cases hc:D6 d.Class
   ·simp
   ·have h0:y0 d.States 0=true:=B4 (Int.le_refl _) (by simp at h4;have:=length_pos_iff.2 h4;omega);simp only [F1,Bool.not_true,false_eq_true,if_false,if_true,h0,Bool.true_and];cases g0:(gt d.States 0).Regs==0
    ·have:((gt d.States 0).Regs != 0)=true:=by simp [bne,g0]
     simp [this]
    ·have:((gt d.States 0).Regs != 0)=false:=by simp [bne,g0]
     obtain ⟨k,hk⟩:=F8 (body:=g0s F d (N4 d.Class)) d.States (V9 d (N4 d.Class).length) (.inr ()) (fun _=>.inl ()) (fun i hi=>by
      have hm:=K4 hi;have ha:=r07 (F:=F) d hd i hi hF;have hk:=r0B (F:=F) d hd i hi (N4 d.Class);unfold g0s V9;simp only [dec_lt hi,Y3,hi,decide_true,if_true]
      by_cases g1:(gt d.States (i:Int)).Regs<0
      ·have:¬ (0<=(gt d.States (i:Int)).Regs):=by omega
       simp [g1,this]
      have f1:decide ((gt d.States (i:Int)).Regs<0)=false:=by simpa using g1
      have f2:decide (0<=(gt d.States (i:Int)).Regs)=true:=by simp;omega
      have f3:decide ((gt d.States (i:Int)).Regs>1216)=false:=by simp;have:=hd.rg _ hm;omega
      have f4:decide ((gt d.States (i:Int)).Regs<=1216)=true:=by simp;have:=hd.rg _ hm;omega
      simp only [f1,f2,f3,f4,F1,false_eq_true,if_false,Bool.true_and,a0E];cases g3:((gt d.States (i:Int)).Accept.length:Int)==0
      ·have n3:(((gt d.States (i:Int)).Accept.length:Int) != 0)=true:=by simp [bne,g3]
       cases g4:((gt d.States (i:Int)).Accept.length:Int)==d.Tags
       ·have n4:(((gt d.States (i:Int)).Accept.length:Int) != d.Tags)=true:=by simp [bne,g4]
        simp [n3,n4]
       ·have n4:(((gt d.States (i:Int)).Accept.length:Int) != d.Tags)=false:=by simp [bne,g4]
        cases g2:((gt d.States (i:Int)).Edges.length:Int)==((N4 d.Class).length:Int)
        ·have:(((gt d.States (i:Int)).Edges.length:Int) != ((N4 d.Class).length:Int))=true:=by simp [bne,g2]
         simp [n3,n4,this]
        ·have:(((gt d.States (i:Int)).Edges.length:Int) != ((N4 d.Class).length:Int))=false:=by simp [bne,g2]
         have hk:=hk (by simp at g2;omega) hF;simp only [n3,n4,this,F1,false_eq_true,if_false,if_true,ha,Bool.false_or,Bool.true_and];cases (gt d.States (i:Int)).Accept.all (fun n=>n==-2||M4 n (gt d.States (i:Int)).Regs)
         ·simp
         ·simp only [if_true,F1,hk,Bool.true_and];cases (gt d.States (i:Int)).Edges.all (L5 d (gt d.States (i:Int)).Regs)
          ·simp
          ·simp only [if_true];rw [R2 (by have:=hd.st;omega)]
      ·have n3:(((gt d.States (i:Int)).Accept.length:Int) != 0)=false:=by simp [bne,g3]
       have hnil:(gt d.States (i:Int)).Accept=[]:=by simpa using g3
       cases g2:((gt d.States (i:Int)).Edges.length:Int)==((N4 d.Class).length:Int)
       ·have:(((gt d.States (i:Int)).Edges.length:Int) != ((N4 d.Class).length:Int))=true:=by simp [bne,g2]
        simp [n3,this]
       ·have:(((gt d.States (i:Int)).Edges.length:Int) != ((N4 d.Class).length:Int))=false:=by simp [bne,g2]
        have hk:=hk (by simp at g2;omega) hF;simp only [n3,this,F1,false_eq_true,if_false,if_true,ha,hnil,List.all_nil,Bool.true_or,Bool.true_and,hk];cases (gt d.States (i:Int)).Edges.all (L5 d (gt d.States (i:Int)).Regs)
        ·simp
        ·simp only [if_true];rw [R2 (by have:=hd.st;omega)];rfl) (by
      unfold g0s;simp) (fu:=F) (by have:=hd.st;omega)
     simp only [this,F1,Bool.not_true,false_eq_true,if_false,if_true,hk,Bool.and_true];cases d.States.all (V9 d (N4 d.Class).length)<;>simp
  ·have e7:decide ((d.States.length:Int)<1)=true:=by simp at h4;simp [h4]
   simp [h1,h2,h3,h4,e7]
 ·simp [h1,h2,h3]
end Go.Proofs.YtihmgaccbcfgjaaGreat
namespace Go.Proofs.YtihmgaccbcfgjaaGreat
open Go.V Go.RowKit Go.X
variable {F:Nat}
def a0M (d:K0):Bool:=decide (d.States.length<=60)&&decide (d.Class.length<=300)&&
 d.States.all fun s=>decide (s.Accept.length<=40)&&decide (s.Edges.length<=300)&&decide (s.Regs<=400)&&s.Edges.all fun x=>decide (x.Src.length<=400)
theorem i0x {d:K0} (h:a0M d=true):Sm d:=by
 unfold a0M at h;simp only [and_eq_true,decide_eq_true_eq,all_eq_true] at h;obtain ⟨⟨h1,h2⟩,h3⟩:=h;exact ⟨h1,h2,fun s hs=>(h3 s hs).1.1.1,fun s hs=>(h3 s hs).1.1.2,fun s hs=>(h3 s hs).1.2,fun s hs=>(h3 s hs).2⟩
theorem i0w (d:K0) (hF:2000<F):c0n F d=some (a0M d):=by
 unfold c0n a0M
 by_cases h1:d.States.length<=60
 ·have e1:decide ((d.States.length:Int)>60)=false:=by simp;omega
  by_cases h2:d.Class.length<=300
  ·have e2:decide ((d.Class.length:Int)>300)=false:=by simp;omega
   obtain ⟨k,hk⟩:=F8 (body:=d00 F d) d.States (fun s=>decide (s.Accept.length<=40)&&decide (s.Edges.length<=300)&&decide (s.Regs<=400)&&s.Edges.all fun x=>decide (x.Src.length<=400)) (.inr ()) (fun _=>.inl ()) (fun i hi=>by
    have hm:=K4 hi;unfold d00;simp only [dec_lt hi,Y3,hi,decide_true,if_true]
    by_cases g1:(gt d.States (i:Int)).Accept.length<=40
    ·have f1:decide (((gt d.States (i:Int)).Accept.length:Int)>40)=false:=by simp;omega
     by_cases g2:(gt d.States (i:Int)).Edges.length<=300
     ·have f2:decide (((gt d.States (i:Int)).Edges.length:Int)>300)=false:=by simp;omega
      by_cases g3:(gt d.States (i:Int)).Regs<=400
      ·have f3:decide ((gt d.States (i:Int)).Regs>400)=false:=by simp;omega
       obtain ⟨k,hk⟩:=F8 (body:=e0h F d (i:Int)) (gt d.States (i:Int)).Edges (fun x=>decide (x.Src.length<=400)) (Sum.inr ()) (fun _=>Sum.inl ()) (fun j hj=>by
        unfold e0h;simp only [dec_lt hj,Y3,hj,decide_true,if_true]
        by_cases g4:(gt (gt d.States (i:Int)).Edges (j:Int)).Src.length<=400
        ·have f4:decide (((gt (gt d.States (i:Int)).Edges (j:Int)).Src.length:Int)>400)=false:=by simp;omega
         simp only [f4,g4,decide_true,if_true,false_eq_true,if_false];rw [R2 (by omega)]
        ·have f4:decide (((gt (gt d.States (i:Int)).Edges (j:Int)).Src.length:Int)>400)=true:=by simp;omega
         simp [f4,g4]) (by unfold e0h;simp) (fu:=F) (by omega)
       simp only [f1,f2,f3,g1,g2,g3,decide_true,F1,false_eq_true,if_false,hk,Bool.true_and];cases (gt d.States (i:Int)).Edges.all fun x=>decide (x.Src.length<=400)
       ·simp
       ·simp only [if_true];rw [R2 (by omega)]
      ·have f3:decide ((gt d.States (i:Int)).Regs>400)=true:=by simp;omega
       simp [f1,f2,f3,g3]
     ·have f2:decide (((gt d.States (i:Int)).Edges.length:Int)>300)=true:=by simp;omega
      simp [f1,f2,g2]
    ·have f1:decide (((gt d.States (i:Int)).Accept.length:Int)>40)=true:=by simp;omega
     simp [f1,g1]) (by unfold d00;simp) (fu:=F) (by omega)
   simp only [e1,e2,h1,h2,decide_true,F1,false_eq_true,if_false,hk,Bool.true_and];cases d.States.all fun s=>decide (s.Accept.length<=40)&&decide (s.Edges.length<=300)&&decide (s.Regs<=400)&&s.Edges.all fun x=>decide (x.Src.length<=400)<;>rfl
  ·have e2:decide ((d.Class.length:Int)>300)=true:=by simp;omega
   simp [e1,e2,h2]
 ·have e1:decide ((d.States.length:Int)>60)=true:=by simp;omega
  simp [e1,h1]
end Go.Proofs.YtihmgaccbcfgjaaGreat
namespace Go.Proofs.YtihmgaccbcfgjaaGreat
open Go.V Go.RowKit Go.X
variable {F:Nat}
def e08 (k:Nat) (l:List Int):Prop:=∀ n∈l,n=-1\/n=-2\/0<=n/\n<(k:Int)
structure Rd (d:K0):Prop where
 sm:Sm d
 pos:0<d.States.length
 cl:d.Class.length=256
 r0:(gt d.States 0).Regs=0
 rg:∀ s∈d.States,0<=s.Regs
 ac:∀ s∈d.States,e08 s.Regs.toNat s.Accept/\(s.Accept=[]\/(s.Accept.length:Int)=d.Tags)
 tg:1<=d.Tags/\d.Tags<=19/\d.Tags % 2=1
 ed:∀ s∈d.States,∀ c∈d.Class,0<=c/\c<(s.Edges.length:Int)
 to:∀ s∈d.States,∀ x∈s.Edges,(x.To=-1/\x.Src=[])\/(0<=x.To/\x.To<(d.States.length:Int)/\(x.Src.length:Int)=(gt d.States x.To).Regs)
 sr:∀ s∈d.States,∀ x∈s.Edges,∀ n∈x.Src,n=-1\/0<=n/\n<s.Regs
theorem n0V {n r:Int}:M4 n r=true↔n=-1\/0<=n/\n<r:=by
 unfold M4;simp
theorem o8 {d:K0} (hs:Sm d) (h:U4 d=true):Rd d:=by
 unfold U4 at h;simp only [and_eq_true,decide_eq_true_eq,Bool.not_eq_true',all_eq_true] at h;obtain ⟨⟨⟨⟨⟨⟨⟨h1,h2⟩,h3⟩,h4⟩,h5⟩,h6⟩,h7⟩,h8⟩:=h;obtain ⟨m,hm,hl,hm2,h256⟩:=x0R h6;obtain ⟨_,_,hcb⟩:=h0Z hm;have hst:∀ s∈d.States,0<=s.Regs/\s.Edges.length=m/\a0E s d.Tags=true/\∀ x∈s.Edges,L5 d s.Regs x=true:=by
  intro s hs;have:=h7 s hs;unfold V9 at this;simp only [and_eq_true,decide_eq_true_eq,all_eq_true,beq_iff_eq] at this;obtain ⟨⟨⟨⟨g1,_⟩,g2⟩,g3⟩,g4⟩:=this;exact ⟨g1,by omega,g3,g4⟩
 refine ⟨hs,?_,h256,by simpa using h8,fun s hs=>(hst s hs).1,fun s hs=>?_,⟨h1,h2,?_⟩,fun s hs c hc=>?_,fun s hs x hx=>?_,fun s hs x hx n hn=>?_⟩
 ·simp at h4;exact length_pos_iff.2 h4
 ·have:=(hst s hs).2.2.1;have hr:=(hst s hs).1;unfold a0E at this;simp only [Bool.or_eq_true,and_eq_true,beq_iff_eq,all_eq_true] at this;rcases this with h0 | ⟨g1,g2⟩
  ·have:s.Accept=[]:=List.eq_nil_of_length_eq_zero (by omega);exact ⟨fun n hn=>by rw [this] at hn;simp at hn,.inl this⟩
  ·refine ⟨fun n hn=>?_,.inr g1⟩;rcases g2 n hn with h0 | h0
   ·exact .inr (.inl h0)
   ·rcases n0V.1 h0 with h0 | ⟨h0,h00⟩
    ·exact .inl h0
    ·exact .inr (.inr ⟨h0,by omega⟩)
 ·have h3:¬ d.Tags.tmod 2=0:=by simpa using h3
  rw [Int.tmod_eq_emod_of_nonneg (by omega)] at h3;omega
 ·rw [(hst s hs).2.1];exact hcb c hc
 ·have:=(hst s hs).2.2.2 x hx;unfold L5 at this;split at this
  ·rename_i h0;exact .inl ⟨h0,by simpa using this⟩
  ·simp only [and_eq_true,decide_eq_true_eq,beq_iff_eq] at this;exact .inr ⟨this.1.1.1,this.1.1.2,this.1.2⟩
 ·have:=(hst s hs).2.2.2 x hx;unfold L5 at this;split at this
  ·rename_i h0;have:x.Src=[]:=by simpa using this
   rw [this] at hn;simp at hn
  ·simp only [and_eq_true,all_eq_true] at this;exact n0V.1 (this.2 n hn)
end Go.Proofs.YtihmgaccbcfgjaaGreat
namespace Go.Proofs.YtihmgaccbcfgjaaGreat
open Go.V Go.RowKit Go.X
variable {F:Nat}
end Go.Proofs.YtihmgaccbcfgjaaGreat
namespace Go.Proofs.YtihmgaccbcfgjaaGreat
open Go.V Go.RowKit Go.X
theorem k0S {ρ:Type} {body:Int->Option (T0 Int ρ)} (n:Nat) (res:ρ) (hs:∀ i:Nat,i<n->body (i:Int)=some (.next ((i+1:Nat):Int))) (he:body (n:Int)=some (.done res)) {fu:Nat} (h:n<fu):iter body fu 0=some res:=
 i7 n (fun i=>(i:Int)) res hs he h
variable {F:Nat}
def eqL {α:Type} (p:α->α->Bool) (a b:List α):Bool:=a.length==b.length&&(a.zip b).all fun x=>p x.1 x.2
theorem B0g {α:Type} [Inhabited α] {a b:List α} {i:Nat} (ha:i<a.length) (hb:i<b.length):gt (a.zip b) (i:Int)=(gt a (i:Int),gt b (i:Int)):=by
 rw [Y5 (x:=a[i]) (by simp [ha]),Y5 (x:=b[i]) (by simp [hb])];exact Y5 (by simp [List.getElem?_zip_eq_some,ha,hb])
theorem d0f {α ρ:Type} [Inhabited α] (a b:List α) (p:α->α->Bool) (hl:a.length=b.length) (good bad:ρ) {body:Int->Option (T0 Int ρ)}
  (hs:∀ i:Nat,i<a.length->i<b.length->body (i:Int)=some (if p (gt a (i:Int)) (gt b (i:Int)) then .next ((i+1:Nat):Int) else .done bad)) (he:body (a.length:Int)=some (.done good)) {fu:Nat} (h:a.length<fu) :
  iter body fu 0=some (if eqL p a b then good else bad):=by
 obtain ⟨k,hk⟩:=F8 (body:=body) (a.zip b) (fun x=>p x.1 x.2) good (fun _=>bad) (fun i hi=>by
  rw [length_zip] at hi;rw [B0g (by omega) (by omega)];exact hs i (by omega) (by omega)) (by rw [length_zip,hl,Nat.min_self,<-hl];exact he) (fu:=fu) (by rw [length_zip];omega)
 rw [hk];unfold eqL;rw [hl,beq_self_eq_true,Bool.true_and]
theorem i04 {α:Type} {p:α->α->Bool} {a b:List α} (h:¬ a.length=b.length):eqL p a b=false:=by
 unfold eqL;simp [h]
theorem A0u (a b:List Int) (hl:a.length<=1000000) (hF:2000001<F):d0l F a b=some (eqL (·==·) a b):=by
 unfold d0l
 by_cases h:a.length=b.length
 ·have e:((a.length:Int) != (b.length:Int))=false:=by simp [h]
  simp only [e,false_eq_true,if_false];rw [d0f a b (·==·) h (.inr ()) (.inl ()) (fun i hi hj=>by
   unfold e0u;simp only [dec_lt hi,Y3,hi,hj,decide_true,if_true]
   by_cases g:gt a (i:Int)=gt b (i:Int)
   ·simp [g,R2 (show i<9223372036854775807 by omega)]
   ·simp [g]) (by unfold e0u;simp) (fu:=F) (by omega)]
  cases eqL (·==·) a b<;>rfl
 ·have e:((a.length:Int) != (b.length:Int))=true:=by simp;omega
  simp [e,i04 h]
theorem A0a (a b:List Int) (hl:a.length<=1000000) (hF:2000001<F):c0S F a b=some (eqL (·==·) a b):=by
 unfold c0S
 by_cases h:a.length=b.length
 ·have e:((a.length:Int) != (b.length:Int))=false:=by simp [h]
  simp only [e,false_eq_true,if_false];rw [d0f a b (·==·) h (.inr ()) (.inl ()) (fun i hi hj=>by
   unfold y0P;simp only [dec_lt hi,Y3,hi,hj,decide_true,if_true]
   by_cases g:gt a (i:Int)=gt b (i:Int)
   ·simp [g,R2 (show i<9223372036854775807 by omega)]
   ·simp [g]) (by unfold y0P;simp) (fu:=F) (by omega)]
  cases eqL (·==·) a b<;>rfl
 ·have e:((a.length:Int) != (b.length:Int))=true:=by simp;omega
  simp [e,i04 h]
def b0v (a b:L2):Bool:=a.To==b.To&&eqL (·==·) a.Src b.Src
def a0P (a b:Z1):Bool:=a.Regs==b.Regs&&eqL (·==·) a.Accept b.Accept&&eqL b0v a.Edges b.Edges
def z0Z (a b:K0):Bool:=a.Tags==b.Tags&&eqL (·==·) a.Class b.Class&&eqL a0P a.States b.States
structure Bd (d:K0):Prop where
 st:d.States.length<=1000
 cl:d.Class.length<=1000
 ac:∀ s∈d.States,s.Accept.length<=1000
 ed:∀ s∈d.States,s.Edges.length<=1000
 sr:∀ s∈d.States,∀ x∈s.Edges,x.Src.length<=100000
theorem Sm.bd {d:K0} (h:Sm d):Bd d:=⟨by have:=h.st;omega,by have:=h.cl;omega,fun s hs=>by have:=h.ac s hs;omega,fun s hs=>by have:=h.ed s hs;omega,fun s hs x hx=>by have:=h.sr s hs x hx;omega⟩
theorem B0i (a b:L2) (hl:a.Src.length<=1000000) (hF:2000001<F):z00 F a b=some (b0v a b):=by
 unfold z00 b0v;rw [A0a _ _ hl hF];cases a.To==b.To<;>simp
theorem B0O (a b:Z1) (ha:a.Accept.length<=1000) (he:a.Edges.length<=1000) (hs:∀ x∈a.Edges,x.Src.length<=100000) (hF:2000001<F):z0Y F a b=some (a0P a b):=by
 unfold z0Y a0P;rw [A0a _ _ (by omega) hF];cases a.Regs==b.Regs
 ·simp
 ·cases h1:eqL (·==·) a.Accept b.Accept
  ·simp
  ·by_cases h:a.Edges.length=b.Edges.length
   ·have e:((a.Edges.length:Int) != (b.Edges.length:Int))=false:=by simp [h]
    simp only [if_true,F1,e,false_eq_true,if_false,Bool.true_and];rw [d0f a.Edges b.Edges b0v h (.inr ()) (.inl ()) (fun i hi hj=>by
     unfold A0g;simp only [dec_lt hi,Y3,hi,hj,decide_true,if_true];rw [B0i _ _ (by have:=hs _ (K4 hi);omega) hF,R2 (show i<9223372036854775807 by omega)];cases b0v (gt a.Edges (i:Int)) (gt b.Edges (i:Int))<;>simp) (by unfold A0g;simp) (fu:=F) (by omega)]
    cases eqL b0v a.Edges b.Edges<;>rfl
   ·have e:((a.Edges.length:Int) != (b.Edges.length:Int))=true:=by simp;omega
    simp [e,i04 h]
theorem B0D (a b:K0) (ha:Bd a) (hF:2000001<F):e0n F a b=some (z0Z a b):=by
 have hst:=ha.st;have hcl:=ha.cl;unfold e0n z0Z;rw [A0a _ _ (by omega) hF];cases a.Tags==b.Tags
 ·simp
 ·cases h1:eqL (·==·) a.Class b.Class
  ·simp
  ·by_cases h:a.States.length=b.States.length
   ·have e:((a.States.length:Int) != (b.States.length:Int))=false:=by simp [h]
    simp only [if_true,F1,e,false_eq_true,if_false,Bool.true_and];rw [d0f a.States b.States a0P h (.inr ()) (.inl ()) (fun i hi hj=>by
     have hm:=K4 hi;unfold A0j;simp only [dec_lt hi,Y3,hi,hj,decide_true,if_true];rw [B0O _ _ (ha.ac _ hm) (ha.ed _ hm) (ha.sr _ hm) hF,R2 (show i<9223372036854775807 by omega)];cases a0P (gt a.States (i:Int)) (gt b.States (i:Int))<;>simp) (by unfold A0j;simp) (fu:=F) (by omega)]
    cases eqL a0P a.States b.States<;>rfl
   ·have e:((a.States.length:Int) != (b.States.length:Int))=true:=by simp;omega
    simp [e,i04 h]
theorem B0P (a b:Z1) (ha:a.Accept.length<=1000) (he:a.Edges.length<=1000) (hs:∀ x∈a.Edges,x.Src.length<=100000) (hF:2000001<F):z0V F a b=some (a0P a b):=by
 unfold z0V a0P;rw [A0u _ _ (by omega) hF]
 by_cases h0:a.Regs=b.Regs
 ·have e0:(a.Regs != b.Regs)=false:=by simp [h0]
  cases h1:eqL (·==·) a.Accept b.Accept
  ·simp [e0]
  ·by_cases h:a.Edges.length=b.Edges.length
   ·have e:((a.Edges.length:Int) != (b.Edges.length:Int))=false:=by simp [h]
    simp only [e0,F1,e,false_eq_true,if_false,Bool.not_true];rw [d0f a.Edges b.Edges b0v h (.inr ()) (.inl ()) (fun i hi hj=>by
     unfold A0v b0v;simp only [dec_lt hi,Y3,hi,hj,decide_true,if_true];rw [A0u _ _ (by have:=hs _ (K4 hi);omega) hF,R2 (show i<9223372036854775807 by omega)]
     by_cases g:(gt a.Edges (i:Int)).To=(gt b.Edges (i:Int)).To
     ·simp only [g,bne_self_eq_false,false_eq_true,if_false,F1,beq_self_eq_true,Bool.true_and];cases eqL (·==·) (gt a.Edges (i:Int)).Src (gt b.Edges (i:Int)).Src<;>simp
     ·have g1:((gt a.Edges (i:Int)).To != (gt b.Edges (i:Int)).To)=true:=by simpa using g
      have g2:((gt a.Edges (i:Int)).To==(gt b.Edges (i:Int)).To)=false:=by simpa using g
      simp [g1,g2]) (by unfold A0v;simp) (fu:=F) (by omega)]
    cases eqL b0v a.Edges b.Edges<;>simp [h0]
   ·have e:((a.Edges.length:Int) != (b.Edges.length:Int))=true:=by simp;omega
    simp [e0,e,i04 h]
 ·have e0:(a.Regs != b.Regs)=true:=by simpa using h0
  simp [e0,h0]
theorem A04 (a b:K0) (ha:Bd a) (hF:2000001<F):t01 F a b=some (z0Z a b):=by
 have hst:=ha.st;have hcl:=ha.cl;unfold t01 z0Z;rw [A0u _ _ (by omega) hF]
 by_cases h0:a.Tags=b.Tags
 ·have e0:(a.Tags != b.Tags)=false:=by simp [h0]
  cases h1:eqL (·==·) a.Class b.Class
  ·simp [e0]
  ·by_cases h:a.States.length=b.States.length
   ·have e:((a.States.length:Int) != (b.States.length:Int))=false:=by simp [h]
    simp only [e0,F1,e,false_eq_true,if_false,Bool.not_true];rw [d0f a.States b.States a0P h (.inr ()) (.inl ()) (fun i hi hj=>by
     have hm:=K4 hi;unfold z09;simp only [dec_lt hi,Y3,hi,hj,decide_true,if_true];rw [B0P _ _ (ha.ac _ hm) (ha.ed _ hm) (ha.sr _ hm) hF,R2 (show i<9223372036854775807 by omega)];cases a0P (gt a.States (i:Int)) (gt b.States (i:Int))<;>simp) (by unfold z09;simp) (fu:=F) (by omega)]
    cases eqL a0P a.States b.States<;>simp [h0]
   ·have e:((a.States.length:Int) != (b.States.length:Int))=true:=by simp;omega
    simp [e0,e,i04 h]
 ·have e0:(a.Tags != b.Tags)=true:=by simpa using h0
  simp [e0,h0]
