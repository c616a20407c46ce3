/- Loops over plain data. Machines that are right: program and document alike. Classes that are right; machines that are right. Machines that are right, whole; what is small. What is small, told; the cars. Cars: the program's and the document's. Its conditions: none. -/
import Derived.Test.YtihmgaccbcfgjaaGreatQMd
import Derived.Test.YtihmgaccbcfgjaaGreatQG24
open Bool (false_eq_true and_eq_true)
open List (mem_cons length_pos_iff all_eq_true map_id take_zero)
set_option linter.all false
namespace Go.Proofs.YtihmgaccbcfgjaaGreat
open Go.V Go.RowKit Go.X
theorem i7 {S ρ:Type} {body:S->Option (T0 S ρ)} (n:Nat) (g:Nat->S) (res:ρ) (hs:∀ i,i<n->body (g i)=some (.next (g (i+1)))) (he:body (g n)=some (.done res)) {fu:Nat} (h:n<fu):iter body fu (g 0)=some res:=by
 have key:∀ (k i fu:Nat),i+k=n->k<fu->iter body fu (g i)=some res:=by
  intro k
  induction k with
  |
   zero=>
   intro i fu hi hfu;obtain ⟨fu,rfl⟩:∃ m,fu=m+1:=⟨fu-1,by omega⟩
   unfold iter;rw [show i=n by omega,he]
  |
   succ k ih=>
   intro i fu hi hfu;obtain ⟨fu,rfl⟩:∃ m,fu=m+1:=⟨fu-1,by omega⟩
   unfold iter;rw [hs i (by omega)];exact ih (i+1) fu (by omega) (by omega)
 exact key n 0 fu (by omega) h
theorem F8 {α ρ:Type} [Inhabited α] (l:List α) (p:α->Bool) (good:ρ) (bad:Nat->ρ) {body:Int->Option (T0 Int ρ)}
  (hs:∀ i:Nat,i<l.length->body (i:Int)=some (if p (gt l (i:Int)) then .next ((i+1:Nat):Int) else .done (bad i))) (he:body (l.length:Int)=some (.done good)) {fu:Nat} (h:l.length<fu) :
  ∃ k,iter body fu 0=some (if l.all p then good else bad k):=by
 have key:∀ (k i fu:Nat),i+k=l.length->k<fu->∃ j,iter body fu (i:Int)=some (if (l.drop i).all p then good else bad j):=by
  intro k
  induction k with
  |
   zero=>
   intro i fu hi hfu;obtain ⟨fu,rfl⟩:∃ m,fu=m+1:=⟨fu-1,by omega⟩
   refine ⟨0,?_⟩;unfold iter;rw [show i=l.length by omega,he];simp
  |
   succ k ih=>
   intro i fu hi hfu;obtain ⟨fu,rfl⟩:∃ m,fu=m+1:=⟨fu-1,by omega⟩
   obtain ⟨j,hj⟩:=ih (i+1) fu (by omega) (by omega);have hil:i<l.length:=by omega
   have hd:l.drop i=gt l (i:Int) :: l.drop (i+1):=by
    rw [List.drop_eq_getElem_cons hil,Y5 (x:=l[i]) (by simp [hil])]
   unfold iter;rw [hs i hil,hd]
   by_cases hp:p (gt l (i:Int))=true
   ·rw [if_pos hp];exact ⟨j,by simp only [hj,List.all_cons,hp,Bool.true_and]⟩
   ·have hp:p (gt l (i:Int))=false:=by simpa using hp
    refine ⟨i,?_⟩;simp only [hp,List.all_cons,Bool.false_and,false_eq_true,if_false]
 exact key l.length 0 fu (by omega) h
theorem K4 {α:Type} [Inhabited α] {l:List α} {i:Nat} (h:i<l.length):gt l (i:Int)∈l:=by
 rw [Y5 (x:=l[i]) (by simp [h])];exact List.getElem_mem h
theorem c0l {α:Type} [Inhabited α] {l:List α} {i:Int} (h0:0<=i) (h:i<(l.length:Int)):gt l i∈l:=by
 obtain ⟨n,rfl⟩:∃ n:Nat,i=n:=⟨i.toNat,by omega⟩
 exact K4 (by omega)
theorem dec_lt {a b:Nat} (h:a<b):decide ((a:Int)<(b:Int))=true:=by simp;omega
theorem l0E {a b:Nat} (h:¬ a<b):decide ((a:Int)<(b:Int))=false:=by simp;omega
theorem c0G {α β:Type} [Inhabited α] (f:α->β) (l:List α) {i:Nat} (h:i<l.length):(l.take (i+1)).map f=(l.take i).map f++[f (gt l (i:Int))]:=by
 have:l[i]?=some (gt l (i:Int)):=by rw [Y5 (x:=l[i]) (by simp [h])];simp [h]
 rw [List.take_succ,this,List.map_append];rfl
def M4 (n regs:Int):Bool:=n==-1||(decide (0<=n)&&decide (n<regs))
def a0E (s:Z1) (tags:Int):Bool:=(s.Accept.length:Int)==0||((s.Accept.length:Int)==tags&&s.Accept.all fun n=>n==-2||M4 n s.Regs)
def L5 (d:K0) (regs:Int) (x:L2):Bool:=
 if x.To=-1 then (x.Src.length:Int)==0 else decide (0<=x.To)&&decide (x.To<(d.States.length:Int))&&(x.Src.length:Int)==(gt d.States x.To).Regs&&x.Src.all fun n=>M4 n regs
def V9 (d:K0) (k:Nat) (s:Z1):Bool:=decide (0<=s.Regs)&&decide (s.Regs<=1216)&&(s.Edges.length:Int)==(k:Int)&&a0E s d.Tags&&s.Edges.all (L5 d s.Regs)
def l7:List Int->Int->Option Int
 |[],n=>some n
 |c :: r,n=>if c<0\/n<c then none else l7 r (if c=n then n+1 else n)
def D6 (c:List Int):Bool:=(l7 c 0).isSome&&(c.length:Int)==256
def b0m:List Int->Nat->List Int->List Int
 |[],_,out=>out
 |c :: r,b,out=>b0m r (b+1) (if c=(out.length:Int) then out++[IntKind.u8.wrap (b:Int)] else out)
def N4 (c:List Int):List Int:=b0m c 0 []
def U4 (d:K0):Bool:=
 decide (1<=d.Tags)&&decide (d.Tags<=19)&&!(d.Tags.tmod 2==0)&&!((d.States.length:Int)==0)&&decide ((d.States.length:Int)<=400)&&D6 d.Class&&d.States.all (V9 d (N4 d.Class).length)&&(gt d.States 0).Regs==0
structure Sm (d:K0):Prop where
 st:d.States.length<=60
 cl:d.Class.length<=300
 ac:∀ s∈d.States,s.Accept.length<=40
 ed:∀ s∈d.States,s.Edges.length<=300
 rg:∀ s∈d.States,s.Regs<=400
 sr:∀ s∈d.States,∀ x∈s.Edges,x.Src.length<=400
variable {F:Nat}
theorem n08 (n regs:Int):c0v F n regs=some (M4 n regs):=by
 unfold c0v M4
 by_cases h:n=-1
 ·subst h;rfl
 ·have:(n==-1)=false:=by simpa using h
  rw [this]
  by_cases h2:0<=n
  ·have:decide (n>=0)=true:=by simpa using h2
   simp [this,h2]
  ·have:decide (n>=0)=false:=by simpa using h2
   simp [this,h2]
theorem m0l (n regs:Int) (may:Bool):d0k F n regs may=some (M4 n regs||(may&&n==-2)):=by
 unfold d0k M4
 by_cases h2:0<=n
 ·have e:decide (n>=0)=true:=by simpa using h2
  have h1:(n==-1)=false:=by simp;omega
  have h3:(n==-2)=false:=by simp;omega
  cases h4:decide (n<regs)<;>cases may<;>simp [e,h1,h2,h3,h4]
 ·have e:decide (n>=0)=false:=by simpa using h2
  cases h4:(n==-1)<;>cases may<;>simp [e,h2,h4]
theorem y0z (s:Z1) (tags:Int) (hl:s.Accept.length<=1000) (hF:2000<F):f0N F s tags=some (a0E s tags):=by
 unfold f0N a0E;cases h0:(s.Accept.length:Int)==0
 ·cases h1:(s.Accept.length:Int)==tags
  ·simp
  ·obtain ⟨k,hk⟩:=F8 (body:=f0q F s) s.Accept (fun n=>n==-2||M4 n s.Regs) (.inr ()) (fun i=>.inl (i:Int)) (fun i hi=>by
    unfold f0q;simp only [dec_lt hi,Y3,hi,decide_true,if_true];cases h2:gt s.Accept (i:Int)==-2
    ·have:(gt s.Accept (i:Int) != -2)=true:=by simp [bne,h2]
     simp only [this,if_true,n08,F1,Bool.false_or];cases M4 (gt s.Accept (i:Int)) s.Regs
     ·simp
     ·simp only [Bool.not_true,false_eq_true,if_false,if_true];rw [R2 (by omega)]
    ·have:(gt s.Accept (i:Int) != -2)=false:=by simp [bne,h2]
     simp only [this,false_eq_true,if_false,F1,Bool.true_or,if_true];rw [R2 (by omega)]) (by
    unfold f0q;simp) (fu:=F) (by omega)
   simp only [false_eq_true,if_false,if_true,hk,F1,Bool.false_or,Bool.true_and];cases hall:s.Accept.all fun n=>n==-2||M4 n s.Regs
   ·simp
   ·simp
 ·simp
theorem t0C (d:K0) (s:Z1) (x:L2) (hl:x.Src.length<=1000) (hF:2000<F):f0W F d s x=some (L5 d s.Regs x):=by
 unfold f0W L5
 by_cases h0:x.To=-1
 ·simp [h0]
 ·have e:(x.To==-1)=false:=by simpa using h0
  simp only [e,false_eq_true,if_false,h0]
  by_cases h1:0<=x.To
  ·have e1:decide (x.To>=0)=true:=by simpa using h1
   by_cases h2:x.To<(d.States.length:Int)
   ·have hin:y0 d.States x.To=true:=B4 h1 h2;cases h3:(x.Src.length:Int)==(gt d.States x.To).Regs
    ·simp [e1,h2,hin,h3]
    ·obtain ⟨k,hk⟩:=F8 (body:=e0g F s x) x.Src (fun n=>M4 n s.Regs) (.inr ()) (fun i=>.inl (i:Int)) (fun i hi=>by
      unfold e0g;simp only [dec_lt hi,Y3,hi,decide_true,if_true,n08,F1];cases M4 (gt x.Src (i:Int)) s.Regs
      ·simp
      ·simp only [Bool.not_true,false_eq_true,if_false,if_true];rw [R2 (by omega)]) (by
      unfold e0g;simp) (fu:=F) (by omega)
     simp only [e1,h1,h2,decide_true,if_true,F1,hin,h3,hk,Bool.true_and];cases hall:x.Src.all fun n=>M4 n s.Regs<;>simp
   ·simp [e1,h2]
  ·have e1:decide (x.To>=0)=false:=by simpa using h1
   simp [e1,h1]
theorem u0X (d:K0) (regs:Int) (x:L2) (hl:x.Src.length<=1000) (hF:2000<F):d01 F d x regs=some (L5 d regs x):=by
 unfold d01 L5
 by_cases h0:x.To=-1
 ·simp [h0]
 ·have e:(x.To==-1)=false:=by simpa using h0
  simp only [e,false_eq_true,if_false,h0]
  by_cases h1:0<=x.To
  ·have e1:decide (x.To<0)=false:=by simpa using h1
   by_cases h2:x.To<(d.States.length:Int)
   ·have hin:y0 d.States x.To=true:=B4 h1 h2;have e2:decide (x.To>=(d.States.length:Int))=false:=by simpa using h2
    cases h3:(x.Src.length:Int)==(gt d.States x.To).Regs
    ·have:((x.Src.length:Int) != (gt d.States x.To).Regs)=true:=by simp [bne,h3]
     simp [e1,e2,h2,hin,h3,this]
    ·have:((x.Src.length:Int) != (gt d.States x.To).Regs)=false:=by simp [bne,h3]
     obtain ⟨k,hk⟩:=F8 (body:=g0z F x regs) x.Src (fun n=>M4 n regs) (.inr ()) (fun i=>.inl ()) (fun i hi=>by
      unfold g0z;simp only [dec_lt hi,Y3,hi,decide_true,if_true,m0l,F1,Bool.false_and,Bool.or_false];cases M4 (gt x.Src (i:Int)) regs
      ·simp
      ·simp only [Bool.not_true,false_eq_true,if_false,if_true];rw [R2 (by omega)]) (by
      unfold g0z;simp) (fu:=F) (by omega)
     simp only [e1,e2,h1,h2,decide_true,if_true,F1,hin,h3,hk,Bool.true_and,false_eq_true,if_false,this];cases hall:x.Src.all fun n=>M4 n regs<;>simp
   ·have e2:decide (x.To>=(d.States.length:Int))=true:=by simp;omega
    simp [e1,e2,h2]
  ·have e1:decide (x.To<0)=true:=by simp;omega
   simp [e1,h1]
end Go.Proofs.YtihmgaccbcfgjaaGreat
namespace Go.Proofs.YtihmgaccbcfgjaaGreat
open Go.V Go.RowKit Go.X
variable {F:Nat}
theorem h0Z:∀ {l:List Int} {n m:Int},l7 l n=some m->n<=m/\m<=n+l.length/\∀ c∈l,0<=c/\c<m
 |[],n,m,h=>by cases h;exact ⟨Int.le_refl _,by simp,by simp⟩
 |
  c :: r,n,m,h=>by
  unfold l7 at h;split at h
  ·cases h
  ·rename_i hc;obtain ⟨h1,h2,h3⟩:=h0Z h
   by_cases e:c=n
   ·rw [if_pos e] at h1 h2;refine ⟨by omega,by simp;omega,fun x hx=>?_⟩;rcases mem_cons.1 hx with rfl | hx
    ·omega
    ·exact h3 x hx
   ·rw [if_neg e] at h1 h2;refine ⟨h1,by simp;omega,fun x hx=>?_⟩;rcases mem_cons.1 hx with rfl | hx
    ·omega
    ·exact h3 x hx
theorem n0j {α:Type} [Inhabited α] {l:List α} {i:Nat} (h:i<l.length):l.drop i=gt l (i:Int) :: l.drop (i+1):=by
 rw [List.drop_eq_getElem_cons h,Y5 (x:=l[i]) (by simp [h])]
theorem Q6 {n:Int} (h1:0<=n) (h2:n<=1000000):W n=n:=c0R (by omega) (by omega)
theorem l0Z {body:Int×Int->Option (T0 (Int×Int) (Unit ⊕ Unit))} (l:List Int) (hl:l.length<=1000)
  (hs:∀ (i:Nat) (n:Int),i<l.length->0<=n->n<=i->body (n,(i:Int))=some (if gt l (i:Int)<0\/n<gt l (i:Int) then .done (.inl ()) else .next ((if gt l (i:Int)=n then n+1 else n),((i+1:Nat):Int))))
  (he:∀ n,body (n,(l.length:Int))=some (.done (.inr ()))) (hF:2000<F):iter body F (0,0)=some (if (l7 l 0).isSome then .inr () else .inl ()):=by
 have key:∀ (k i fu:Nat) (n:Int),i+k=l.length->k<fu->0<=n->n<=i->iter body fu (n,(i:Int))=some (if (l7 (l.drop i) n).isSome then .inr () else .inl ()):=by
  intro k
  induction k with
  |
   zero=>
   intro i fu n hi hfu _ _;obtain ⟨fu,rfl⟩:∃ m,fu=m+1:=⟨fu-1,by omega⟩
   obtain rfl:i=l.length:=by omega
   unfold iter;rw [he,List.drop_length];rfl
  |
   succ k ih=>
   intro i fu n hi hfu h0 hn;obtain ⟨fu,rfl⟩:∃ m,fu=m+1:=⟨fu-1,by omega⟩
   unfold iter;rw [hs i n (by omega) h0 hn,n0j (show i<l.length by omega)];unfold l7
   by_cases hc:gt l (i:Int)<0\/n<gt l (i:Int)
   ·simp only [if_pos hc];rfl
   ·simp only [if_neg hc]
    by_cases e:gt l (i:Int)=n
    ·simp only [if_pos e];exact ih (i+1) fu (n+1) (by omega) (by omega) (by omega) (by omega)
    ·simp only [if_neg e];exact ih (i+1) fu n (by omega) (by omega) (by omega) (by omega)
 exact key l.length 0 F 0 (by omega) (by omega) (by omega) (by omega)
theorem k0E (c:List Int) (hl:c.length<=1000) (hF:2000<F):c0A F c=some (D6 c):=by
 unfold c0A;rw [l0Z c hl (fun i n hi h0 hn=>by
  unfold i0s;simp only [dec_lt hi,Y3,hi,decide_true,if_true]
  by_cases h1:gt c (i:Int)<0
  ·simp [h1]
  ·by_cases h2:n<gt c (i:Int)
   ·have:decide (gt c (i:Int)>n)=true:=by simp;omega
    simp [h1,h2,this]
   ·have e1:decide (gt c (i:Int)>n)=false:=by simp;omega
    have e2:decide (gt c (i:Int)<0)=false:=by simp;omega
    have e3:W (gt c (i:Int)+1)=gt c (i:Int)+1:=Q6 (by omega) (by omega);have e4:W ((i:Int)+1)=((i+1:Nat):Int):=R2 (by omega);simp only [e1,e2,e3,e4,F1,false_eq_true,if_false,h1,h2,or_self]
    by_cases e:gt c (i:Int)=n
    ·simp [e];intro h;omega
    ·have:¬ (gt c (i:Int)+1>n):=by omega
     simp [e,this]) (fun n=>by unfold i0s;simp) hF]
 unfold D6;cases (l7 c 0).isSome<;>simp
theorem l0f (c:List Int) (hl:c.length<=1000) (hF:2000<F):c0t F c=some (D6 c):=by
 unfold c0t;rw [l0Z c hl (fun i n hi h0 hn=>by
  unfold i0c;simp only [dec_lt hi,Y3,hi,decide_true,if_true]
  by_cases h1:gt c (i:Int)<0
  ·simp [h1]
  ·by_cases h2:n<gt c (i:Int)
   ·have:decide (gt c (i:Int)>n)=true:=by simp;omega
    simp [h1,h2,this]
   ·have e1:decide (gt c (i:Int)>n)=false:=by simp;omega
    have e2:decide (gt c (i:Int)<0)=false:=by simp;omega
    have e3:W (n+1)=n+1:=Q6 (by omega) (by omega);have e4:W ((i:Int)+1)=((i+1:Nat):Int):=R2 (by omega);simp only [e1,e2,e3,e4,F1,false_eq_true,if_false,h1,h2,or_self]
    by_cases e:gt c (i:Int)=n
    ·simp [e]
    ·have:(gt c (i:Int)==n)=false:=by simpa using e
     simp [e,this]) (fun n=>by unfold i0c;simp) hF]
 unfold D6;cases (l7 c 0).isSome<;>simp
theorem n0m {body:List Int×Int->Option (T0 (List Int×Int) (List Int))} (l:List Int) (hl:l.length<=1000)
  (hs:∀ (i:Nat) (o:List Int),i<l.length->o.length<=i->body (o,(i:Int))=some (.next ((if gt l (i:Int)=(o.length:Int) then o++[IntKind.u8.wrap (i:Int)] else o),((i+1:Nat):Int))))
  (he:∀ o,body (o,(l.length:Int))=some (.done o)) (hF:2000<F):iter body F ([],0)=some (N4 l):=by
 have key:∀ (k i fu:Nat) (o:List Int),i+k=l.length->k<fu->o.length<=i->iter body fu (o,(i:Int))=some (b0m (l.drop i) i o):=by
  intro k
  induction k with
  |
   zero=>
   intro i fu o hi hfu _;obtain ⟨fu,rfl⟩:∃ m,fu=m+1:=⟨fu-1,by omega⟩
   obtain rfl:i=l.length:=by omega
   unfold iter;rw [he,List.drop_length];rfl
  |
   succ k ih=>
   intro i fu o hi hfu ho;obtain ⟨fu,rfl⟩:∃ m,fu=m+1:=⟨fu-1,by omega⟩
   unfold iter;rw [hs i o (by omega) ho,n0j (show i<l.length by omega)];unfold b0m;exact ih (i+1) fu _ (by omega) (by omega) (by
    split
    ·simp;omega
    ·omega)
 exact key l.length 0 F [] (by omega) (by omega) (by simp)
theorem z0T (c:List Int) (hl:c.length<=1000) (hF:2000<F):c0m F c=some (if D6 c then N4 c else []):=by
 unfold c0m;rw [k0E c hl hF];cases D6 c
 ·simp
 ·simp only [F1,Bool.not_true,false_eq_true,if_false,if_true];rw [n0m c hl (fun i o hi ho=>by
   unfold j0Y;have ha:C1 1 o [IntKind.u8.wrap (i:Int)]=true:=a7 (by simp;omega);simp only [dec_lt hi,Y3,hi,decide_true,if_true,ha];rw [R2 (by omega)]
   by_cases e:gt c (i:Int)=(o.length:Int)
   ·simp [e]
   ·have:(gt c (i:Int)==(o.length:Int))=false:=by simpa using e
    simp [e,this]) (fun o=>by unfold j0Y;simp) hF]
  rfl
theorem v0t (c:List Int) (hl:c.length<=1000) (hF:2000<F):g0b F c=some (if D6 c then N4 c else []):=by
 unfold g0b;rw [l0f c hl hF];cases hc:D6 c
 ·simp
 ·have h256:c.length=256:=by
   unfold D6 at hc;simp at hc;omega
  simp only [F1,Bool.not_true,false_eq_true,if_false,if_true];rw [n0m c hl (fun i o hi ho=>by
   unfold h07;have ha:C1 1 o [IntKind.u8.wrap (i:Int)]=true:=a7 (by simp;omega);have hd:decide ((i:Int)<256)=true:=by simp;omega
   simp only [hd,Y3,hi,decide_true,if_true,ha];rw [R2 (by omega)]
   by_cases e:gt c (i:Int)=(o.length:Int)
   ·simp [e]
   ·have:(gt c (i:Int)==(o.length:Int))=false:=by simpa using e
    simp [e,this]) (fun o=>by unfold h07;simp [h256]) hF]
  rfl
theorem m0i:∀ {l:List Int} {n m:Int} {b:Nat} {o:List Int},l7 l n=some m->(o.length:Int)=n->((b0m l b o).length:Int)=m
 |[],n,m,b,o,h,ho=>by cases h;exact ho
 |
  c :: r,n,m,b,o,h,ho=>by
  unfold l7 at h;split at h
  ·cases h
  ·unfold b0m;refine m0i h ?_;rw [ho];split<;>simp [ho]
theorem x0R {c:List Int} (h:D6 c=true):∃ m:Nat,l7 c 0=some (m:Int)/\(N4 c).length=m/\m<=256/\c.length=256:=by
 unfold D6 at h;simp only [and_eq_true] at h;obtain ⟨h1,h2⟩:=h;obtain ⟨m,hm⟩:=Option.isSome_iff_exists.1 h1;have h2:c.length=256:=by simp at h2;omega
 obtain ⟨b1,b2,_⟩:=h0Z hm;have hl:=m0i (b:=0) (o:=[]) hm (by simp);refine ⟨m.toNat,by rw [hm];congr 1;omega,?_,by omega,h2⟩;unfold N4;omega
end Go.Proofs.YtihmgaccbcfgjaaGreat
namespace Go.Proofs.YtihmgaccbcfgjaaGreat
open Go.V Go.RowKit Go.X
variable {F:Nat}
theorem s0G (d:K0) (hd:Sm d) (i:Nat) (hi:i<d.States.length) (hF:2000<F):iter (d0F F d (i:Int)) F 0=some (if (gt d.States (i:Int)).Edges.all (L5 d (gt d.States (i:Int)).Regs) then .inr () else .inl ()):=by
 have hm:=K4 hi;obtain ⟨k,hk⟩:=F8 (body:=d0F F d (i:Int)) (gt d.States (i:Int)).Edges (L5 d (gt d.States (i:Int)).Regs) (.inr ()) (fun _=>.inl ()) (fun j hj=>by
  unfold d0F;have hs:=hd.sr _ hm _ (K4 hj);simp only [dec_lt hj,Y3,hj,decide_true,if_true];rw [t0C d _ _ (by omega) hF];cases L5 d (gt d.States (i:Int)).Regs (gt (gt d.States (i:Int)).Edges (j:Int))
  ·simp
  ·simp only [F1,Bool.not_true,false_eq_true,if_false,if_true];rw [R2 (by have:=hd.ed _ hm;omega)]) (by
  unfold d0F;simp) (fu:=F) (by have:=hd.ed _ hm;omega)
 exact hk
theorem q0R (d:K0) (hd:Sm d) (hF:2000<F):d0z F d=some (U4 d):=by
 unfold d0z U4
 by_cases h1:d.Tags<1
 ·simp [h1];intro h;omega
 by_cases h2:d.Tags>19
 ·simp [h1,h2];intro _ h;omega
 have e1:decide (d.Tags<1)=false:=by simpa using h1
 have e2:decide (d.Tags>19)=false:=by simpa using h2
 have e3:decide (1<=d.Tags)=true:=by simp;omega
 have e4:decide (d.Tags<=19)=true:=by simp;omega
 cases h3:d.Tags.tmod 2==0
 ·cases h4:(d.States.length:Int)==0
  ·have e5:decide ((d.States.length:Int)>400)=false:=by simp;have:=hd.st;omega
   have e6:decide ((d.States.length:Int)<=400)=true:=by simp;have:=hd.st;omega
   have hcl:=hd.cl;simp only [e1,e2,e3,e4,e5,e6,F1,false_eq_true,if_false,if_true,Bool.not_false,Bool.true_and];rw [k0E d.Class (by omega) hF,z0T d.Class (by omega) hF];cases hc:D6 d.Class
   ·simp
   ·obtain ⟨k,hk⟩:=F8 (body:=f0y F d (N4 d.Class)) d.States (V9 d (N4 d.Class).length) (.inr ()) (fun _=>.inl ()) (fun i hi=>by
     have hm:=K4 hi;have hk:=s0G (F:=F) d hd i hi hF;have hac:=y0z (F:=F) (gt d.States (i:Int)) d.Tags (by have:=hd.ac _ hm;omega) hF;unfold f0y V9;simp only [dec_lt hi,Y3,hi,decide_true,if_true]
     by_cases g1:(gt d.States (i:Int)).Regs<0
     ·have:¬ (0<=(gt d.States (i:Int)).Regs):=by omega
      simp [g1,this]
     have f1:decide ((gt d.States (i:Int)).Regs<0)=false:=by simpa using g1
     have f2:decide (0<=(gt d.States (i:Int)).Regs)=true:=by simp;omega
     have f3:decide ((gt d.States (i:Int)).Regs>1216)=false:=by simp;have:=hd.rg _ hm;omega
     have f4:decide ((gt d.States (i:Int)).Regs<=1216)=true:=by simp;have:=hd.rg _ hm;omega
     simp only [f1,f2,f3,f4,F1,false_eq_true,if_false,Bool.true_and];cases g2:((gt d.States (i:Int)).Edges.length:Int)==((N4 d.Class).length:Int)
     ·have:(((gt d.States (i:Int)).Edges.length:Int) != ((N4 d.Class).length:Int))=true:=by simp [bne,g2]
      simp [this]
     ·have:(((gt d.States (i:Int)).Edges.length:Int) != ((N4 d.Class).length:Int))=false:=by simp [bne,g2]
      simp only [this,F1,false_eq_true,if_false,Bool.true_and,hac];cases a0E (gt d.States (i:Int)) d.Tags
      ·simp
      ·simp only [Bool.not_true,false_eq_true,if_false,hk,F1,Bool.true_and];cases (gt d.States (i:Int)).Edges.all (L5 d (gt d.States (i:Int)).Regs)
       ·simp
       ·simp only [if_true];rw [R2 (by have:=hd.st;omega)]) (by
     unfold f0y;simp) (fu:=F) (by have:=hd.st;omega)
    have h0:y0 d.States 0=true:=B4 (Int.le_refl _) (by simp at h4;have:=length_pos_iff.2 h4;omega);simp only [F1,Bool.not_true,false_eq_true,if_false,if_true,hk];cases d.States.all (V9 d (N4 d.Class).length)
    ·simp
    ·simp [h0]
  ·simp [h1,h2,h3,h4]
 ·simp [h1,h2,h3]
theorem r07 (d:K0) (hd:Sm d) (i:Nat) (hi:i<d.States.length) (hF:2000<F):iter (d0O F d (i:Int)) F 0=some (if (gt d.States (i:Int)).Accept.all (fun n=>n==-2||M4 n (gt d.States (i:Int)).Regs) then .inr () else .inl ()):=by
 have hm:=K4 hi;obtain ⟨k,hk⟩:=F8 (body:=d0O F d (i:Int)) (gt d.States (i:Int)).Accept (fun n=>n==-2||M4 n (gt d.States (i:Int)).Regs) (.inr ()) (fun _=>.inl ()) (fun j hj=>by
  unfold d0O;simp only [dec_lt hj,Y3,hj,decide_true,if_true,m0l,F1,Bool.true_and,Bool.or_comm (M4 _ _)];cases (gt (gt d.States (i:Int)).Accept (j:Int)==-2||M4 (gt (gt d.States (i:Int)).Accept (j:Int)) (gt d.States (i:Int)).Regs)
  ·simp
  ·simp only [Bool.not_true,false_eq_true,if_false,if_true];rw [R2 (by have:=hd.ac _ hm;omega)]) (by
  unfold d0O;simp) (fu:=F) (by have:=hd.ac _ hm;omega)
 exact hk
theorem r0B (d:K0) (hd:Sm d) (i:Nat) (hi:i<d.States.length) (least:List Int) (hl:(gt d.States (i:Int)).Edges.length=least.length) (hF:2000<F):iter (d0I F d least (i:Int)) F 0=some (if (gt d.States (i:Int)).Edges.all (L5 d (gt d.States (i:Int)).Regs) then .inr () else .inl ()):=by
 have hm:=K4 hi;obtain ⟨k,hk⟩:=F8 (body:=d0I F d least (i:Int)) (gt d.States (i:Int)).Edges (L5 d (gt d.States (i:Int)).Regs) (.inr ()) (fun _=>.inl ()) (fun j hj=>by
  unfold d0I;have hs:=hd.sr _ hm _ (K4 hj);simp only [dec_lt (show j<least.length by omega),Y3,hj,decide_true,if_true];rw [u0X d _ _ (by omega) hF];cases L5 d (gt d.States (i:Int)).Regs (gt (gt d.States (i:Int)).Edges (j:Int))
  ·simp
  ·simp only [F1,Bool.not_true,false_eq_true,if_false,if_true];rw [R2 (by have:=hd.ed _ hm;omega)]) (by
  unfold d0I;simp [hl]) (fu:=F) (by have:=hd.ed _ hm;omega)
 exact hk
theorem e0V (d:K0) (hd:Sm d) (hF:2000<F):L9 F d=some (U4 d):=by
 unfold L9 U4
 by_cases h1:d.Tags<1
 ·simp [h1];intro h;omega
 by_cases h2:d.Tags>19
 ·simp [h1,h2];intro _ h;omega
 have e1:decide (d.Tags<1)=false:=by simpa using h1
 have e2:decide (d.Tags>19)=false:=by simpa using h2
 have e3:decide (1<=d.Tags)=true:=by simp;omega
 have e4:decide (d.Tags<=19)=true:=by simp;omega
 cases h3:d.Tags.tmod 2==0
 ·cases h4:(d.States.length:Int)==0
  ·have e5:decide ((d.States.length:Int)>400)=false:=by simp;have:=hd.st;omega
   have e6:decide ((d.States.length:Int)<=400)=true:=by simp;have:=hd.st;omega
   have e7:decide ((d.States.length:Int)<1)=false:=by simp at h4;have:=length_pos_iff.2 h4;simp;omega
   have hcl:=hd.cl;simp only [e1,e2,e3,e4,e5,e6,e7,F1,false_eq_true,if_false,if_true,Bool.not_false,Bool.true_and];rw [l0f d.Class (by omega) hF,v0t d.Class (by omega) hF];cases hc:D6 d.Class
   ·simp
   ·have h0:y0 d.States 0=true:=B4 (Int.le_refl _) (by simp at h4;have:=length_pos_iff.2 h4;omega);simp only [F1,Bool.not_true,false_eq_true,if_false,if_true,h0,Bool.true_and];cases g0:(gt d.States 0).Regs==0
    ·have:((gt d.States 0).Regs != 0)=true:=by simp [bne,g0]
     simp [this]
    ·have:((gt d.States 0).Regs != 0)=false:=by simp [bne,g0]
     obtain ⟨k,hk⟩:=F8 (body:=g0s F d (N4 d.Class)) d.States (V9 d (N4 d.Class).length) (.inr ()) (fun _=>.inl ()) (fun i hi=>by
      have hm:=K4 hi;have ha:=r07 (F:=F) d hd i hi hF;have hk:=r0B (F:=F) d hd i hi (N4 d.Class);unfold g0s V9;simp only [dec_lt hi,Y3,hi,decide_true,if_true]
      by_cases g1:(gt d.States (i:Int)).Regs<0
      ·have:¬ (0<=(gt d.States (i:Int)).Regs):=by omega
       simp [g1,this]
      have f1:decide ((gt d.States (i:Int)).Regs<0)=false:=by simpa using g1
      have f2:decide (0<=(gt d.States (i:Int)).Regs)=true:=by simp;omega
      have f3:decide ((gt d.States (i:Int)).Regs>1216)=false:=by simp;have:=hd.rg _ hm;omega
      have f4:decide ((gt d.States (i:Int)).Regs<=1216)=true:=by simp;have:=hd.rg _ hm;omega
      simp only [f1,f2,f3,f4,F1,false_eq_true,if_false,Bool.true_and,a0E];cases g3:((gt d.States (i:Int)).Accept.length:Int)==0
      ·have n3:(((gt d.States (i:Int)).Accept.length:Int) != 0)=true:=by simp [bne,g3]
       cases g4:((gt d.States (i:Int)).Accept.length:Int)==d.Tags
       ·have n4:(((gt d.States (i:Int)).Accept.length:Int) != d.Tags)=true:=by simp [bne,g4]
        simp [n3,n4]
       ·have n4:(((gt d.States (i:Int)).Accept.length:Int) != d.Tags)=false:=by simp [bne,g4]
        cases g2:((gt d.States (i:Int)).Edges.length:Int)==((N4 d.Class).length:Int)
        ·have:(((gt d.States (i:Int)).Edges.length:Int) != ((N4 d.Class).length:Int))=true:=by simp [bne,g2]
         simp [n3,n4,this]
        ·have:(((gt d.States (i:Int)).Edges.length:Int) != ((N4 d.Class).length:Int))=false:=by simp [bne,g2]
         have hk:=hk (by simp at g2;omega) hF;simp only [n3,n4,this,F1,false_eq_true,if_false,if_true,ha,Bool.false_or,Bool.true_and];cases (gt d.States (i:Int)).Accept.all (fun n=>n==-2||M4 n (gt d.States (i:Int)).Regs)
         ·simp
         ·simp only [if_true,F1,hk,Bool.true_and];cases (gt d.States (i:Int)).Edges.all (L5 d (gt d.States (i:Int)).Regs)
          ·simp
          ·simp only [if_true];rw [R2 (by have:=hd.st;omega)]
      ·have n3:(((gt d.States (i:Int)).Accept.length:Int) != 0)=false:=by simp [bne,g3]
       have hnil:(gt d.States (i:Int)).Accept=[]:=by simpa using g3
       cases g2:((gt d.States (i:Int)).Edges.length:Int)==((N4 d.Class).length:Int)
       ·have:(((gt d.States (i:Int)).Edges.length:Int) != ((N4 d.Class).length:Int))=true:=by simp [bne,g2]
        simp [n3,this]
       ·have:(((gt d.States (i:Int)).Edges.length:Int) != ((N4 d.Class).length:Int))=false:=by simp [bne,g2]
        have hk:=hk (by simp at g2;omega) hF;simp only [n3,this,F1,false_eq_true,if_false,if_true,ha,hnil,List.all_nil,Bool.true_or,Bool.true_and,hk];cases (gt d.States (i:Int)).Edges.all (L5 d (gt d.States (i:Int)).Regs)
        ·simp
        ·simp only [if_true];rw [R2 (by have:=hd.st;omega)];rfl) (by
      unfold g0s;simp) (fu:=F) (by have:=hd.st;omega)
     simp only [this,F1,Bool.not_true,false_eq_true,if_false,if_true,hk,Bool.and_true];cases d.States.all (V9 d (N4 d.Class).length)<;>simp
  ·have e7:decide ((d.States.length:Int)<1)=true:=by simp at h4;simp [h4]
   simp [h1,h2,h3,h4,e7]
 ·simp [h1,h2,h3]
end Go.Proofs.YtihmgaccbcfgjaaGreat
namespace Go.Proofs.YtihmgaccbcfgjaaGreat
open Go.V Go.RowKit Go.X
variable {F:Nat}
def a0M (d:K0):Bool:=decide (d.States.length<=60)&&decide (d.Class.length<=300)&&
 d.States.all fun s=>decide (s.Accept.length<=40)&&decide (s.Edges.length<=300)&&decide (s.Regs<=400)&&s.Edges.all fun x=>decide (x.Src.length<=400)
theorem i0x {d:K0} (h:a0M d=true):Sm d:=by
 unfold a0M at h;simp only [and_eq_true,decide_eq_true_eq,all_eq_true] at h;obtain ⟨⟨h1,h2⟩,h3⟩:=h;exact ⟨h1,h2,fun s hs=>(h3 s hs).1.1.1,fun s hs=>(h3 s hs).1.1.2,fun s hs=>(h3 s hs).1.2,fun s hs=>(h3 s hs).2⟩
theorem i0w (d:K0) (hF:2000<F):c0n F d=some (a0M d):=by
 unfold c0n a0M
 by_cases h1:d.States.length<=60
 ·have e1:decide ((d.States.length:Int)>60)=false:=by simp;omega
  by_cases h2:d.Class.length<=300
  ·have e2:decide ((d.Class.length:Int)>300)=false:=by simp;omega
   obtain ⟨k,hk⟩:=F8 (body:=d00 F d) d.States (fun s=>decide (s.Accept.length<=40)&&decide (s.Edges.length<=300)&&decide (s.Regs<=400)&&s.Edges.all fun x=>decide (x.Src.length<=400)) (.inr ()) (fun _=>.inl ()) (fun i hi=>by
    have hm:=K4 hi;unfold d00;simp only [dec_lt hi,Y3,hi,decide_true,if_true]
    by_cases g1:(gt d.States (i:Int)).Accept.length<=40
    ·have f1:decide (((gt d.States (i:Int)).Accept.length:Int)>40)=false:=by simp;omega
     by_cases g2:(gt d.States (i:Int)).Edges.length<=300
     ·have f2:decide (((gt d.States (i:Int)).Edges.length:Int)>300)=false:=by simp;omega
      by_cases g3:(gt d.States (i:Int)).Regs<=400
      ·have f3:decide ((gt d.States (i:Int)).Regs>400)=false:=by simp;omega
       obtain ⟨k,hk⟩:=F8 (body:=e0h F d (i:Int)) (gt d.States (i:Int)).Edges (fun x=>decide (x.Src.length<=400)) (Sum.inr ()) (fun _=>Sum.inl ()) (fun j hj=>by
        unfold e0h;simp only [dec_lt hj,Y3,hj,decide_true,if_true]
        by_cases g4:(gt (gt d.States (i:Int)).Edges (j:Int)).Src.length<=400
        ·have f4:decide (((gt (gt d.States (i:Int)).Edges (j:Int)).Src.length:Int)>400)=false:=by simp;omega
         simp only [f4,g4,decide_true,if_true,false_eq_true,if_false];rw [R2 (by omega)]
        ·have f4:decide (((gt (gt d.States (i:Int)).Edges (j:Int)).Src.length:Int)>400)=true:=by simp;omega
         simp [f4,g4]) (by unfold e0h;simp) (fu:=F) (by omega)
       simp only [f1,f2,f3,g1,g2,g3,decide_true,F1,false_eq_true,if_false,hk,Bool.true_and];cases (gt d.States (i:Int)).Edges.all fun x=>decide (x.Src.length<=400)
       ·simp
       ·simp only [if_true];rw [R2 (by omega)]
      ·have f3:decide ((gt d.States (i:Int)).Regs>400)=true:=by simp;omega
       simp [f1,f2,f3,g3]
     ·have f2:decide (((gt d.States (i:Int)).Edges.length:Int)>300)=true:=by simp;omega
      simp [f1,f2,g2]
    ·have f1:decide (((gt d.States (i:Int)).Accept.length:Int)>40)=true:=by simp;omega
     simp [f1,g1]) (by unfold d00;simp) (fu:=F) (by omega)
   simp only [e1,e2,h1,h2,decide_true,F1,false_eq_true,if_false,hk,Bool.true_and];cases d.States.all fun s=>decide (s.Accept.length<=40)&&decide (s.Edges.length<=300)&&decide (s.Regs<=400)&&s.Edges.all fun x=>decide (x.Src.length<=400)<;>rfl
  ·have e2:decide ((d.Class.length:Int)>300)=true:=by simp;omega
   simp [e1,e2,h2]
 ·have e1:decide ((d.States.length:Int)>60)=true:=by simp;omega
  simp [e1,h1]
theorem d0c (s:List Int) (h:s.length<=1000000):K6 F s=some s:=by
 unfold K6;rw [if_pos (a7 (by simp;omega))]
theorem s0w (d:K0) (hd:Sm d) (hF:2000<F):b0l F d=some d:=by
 have hcl:=hd.cl;have hst:=hd.st;unfold b0l;rw [d0c d.Class (by omega)];simp only [F1,s6];have h:=i7 (body:=b0F F d) d.States.length (fun i=>((i:Int),(d.Tags,d.Class,d.States.take i))) (d.Tags,d.Class,d.States) (fun i hi=>by
  have hm:=K4 hi;have hac:=hd.ac _ hm;have hed:=hd.ed _ hm;unfold b0F;simp only [dec_lt hi,Y3,hi,decide_true,if_true];rw [d0c _ (by omega)];simp only [F1,s6];have h:=i7 (body:=c0M F d (i:Int)) (gt d.States (i:Int)).Edges.length (fun j=>((j:Int),((gt d.States (i:Int)).Regs,(gt d.States (i:Int)).Accept,(gt d.States (i:Int)).Edges.take j))) ((gt d.States (i:Int)).Regs,(gt d.States (i:Int)).Accept,(gt d.States (i:Int)).Edges) (fun j hj=>by
   have hs:=hd.sr _ hm _ (K4 hj);unfold c0M;simp only [dec_lt hj,Y3,hj,decide_true,if_true];rw [d0c _ (by omega)];have ha:C1 32 ((gt d.States (i:Int)).Edges.take j) [(⟨(gt (gt d.States (i:Int)).Edges (j:Int)).To,(gt (gt d.States (i:Int)).Edges (j:Int)).Src⟩:L2)]=true:=a7 (by simp;omega);simp only [F1,ha,if_true];rw [R2 (by omega)];have:=c0G id (gt d.States (i:Int)).Edges hj;simp only [map_id,id] at this;rw [this]) (by unfold c0M;simp) (fu:=F) (by omega)
  simp only [take_zero,Int.natCast_zero] at h;simp only [h,F1];have ha:C1 56 (d.States.take i) [(⟨(gt d.States (i:Int)).Regs,(gt d.States (i:Int)).Accept,(gt d.States (i:Int)).Edges⟩:Z1)]=true:=a7 (by simp;omega);simp only [ha,if_true];rw [R2 (by omega)];have:=c0G id d.States hi;simp only [map_id,id] at this;rw [this]) (by unfold b0F;simp) (fu:=F) (by omega)
 simp only [take_zero,Int.natCast_zero] at h;simp only [h,F1]
end Go.Proofs.YtihmgaccbcfgjaaGreat
namespace Go.Proofs.YtihmgaccbcfgjaaGreat
open Go.V Go.RowKit Go.X
variable {F:Nat}
def a0n (at_:Int) (regs:List Int) (n:Int):Int:=if n=-1 then at_ else if n=-2 then -1 else gt regs n
def N2 (at_:Int) (regs:List Int) (l:List Int):List Int:=l.map (a0n at_ regs)
def e08 (k:Nat) (l:List Int):Prop:=∀ n∈l,n=-1\/n=-2\/0<=n/\n<(k:Int)
theorem t0O (c:X0) (n:Int) (h:n=-1\/n=-2\/0<=n/\n<(c.regs.length:Int)):e0H F c n=some (a0n c.at_ c.regs n):=by
 unfold e0H a0n;rcases h with rfl | rfl | ⟨h1,h2⟩
 ·rfl
 ·rfl
 ·have e1:(n==-1)=false:=by simp;omega
  have e2:(n==-2)=false:=by simp;omega
  simp only [e1,e2,false_eq_true,if_false,B4 h1 h2,if_true];rw [if_neg (by omega),if_neg (by omega)]
theorem o08 (c:X0) (l:List Int) (hl:l.length<=1000) (ho:e08 c.regs.length l) (hF:2000<F):b0s F c l=some (N2 c.at_ c.regs l):=by
 unfold b0s;have h:=i7 (body:=d0K F c l) l.length (fun i=>(N2 c.at_ c.regs (l.take i),(i:Int))) (N2 c.at_ c.regs l) (fun i hi=>by
  unfold d0K;simp only [dec_lt hi,Y3,hi,decide_true,if_true];rw [t0O c _ (ho _ (K4 hi))];have ha:C1 8 (N2 c.at_ c.regs (l.take i)) [a0n c.at_ c.regs (gt l (i:Int))]=true:=a7 (by simp [N2];omega);simp only [F1,ha,if_true];rw [R2 (by omega)];unfold N2;rw [c0G _ l hi]) (by unfold d0K;simp) (fu:=F) (by omega)
 simp only [take_zero,Int.natCast_zero] at h;have h:iter (d0K F c l) F ([],0)=some (N2 c.at_ c.regs l):=h;rw [h];rfl
structure Rd (d:K0):Prop where
 sm:Sm d
 pos:0<d.States.length
 cl:d.Class.length=256
 r0:(gt d.States 0).Regs=0
 rg:∀ s∈d.States,0<=s.Regs
 ac:∀ s∈d.States,e08 s.Regs.toNat s.Accept/\(s.Accept=[]\/(s.Accept.length:Int)=d.Tags)
 tg:1<=d.Tags/\d.Tags<=19/\d.Tags % 2=1
 ed:∀ s∈d.States,∀ c∈d.Class,0<=c/\c<(s.Edges.length:Int)
 to:∀ s∈d.States,∀ x∈s.Edges,(x.To=-1/\x.Src=[])\/(0<=x.To/\x.To<(d.States.length:Int)/\(x.Src.length:Int)=(gt d.States x.To).Regs)
 sr:∀ s∈d.States,∀ x∈s.Edges,∀ n∈x.Src,n=-1\/0<=n/\n<s.Regs
theorem n0V {n r:Int}:M4 n r=true↔n=-1\/0<=n/\n<r:=by
 unfold M4;simp
theorem o8 {d:K0} (hs:Sm d) (h:U4 d=true):Rd d:=by
 unfold U4 at h;simp only [and_eq_true,decide_eq_true_eq,Bool.not_eq_true',all_eq_true] at h;obtain ⟨⟨⟨⟨⟨⟨⟨h1,h2⟩,h3⟩,h4⟩,h5⟩,h6⟩,h7⟩,h8⟩:=h;obtain ⟨m,hm,hl,hm2,h256⟩:=x0R h6;obtain ⟨_,_,hcb⟩:=h0Z hm;have hst:∀ s∈d.States,0<=s.Regs/\s.Edges.length=m/\a0E s d.Tags=true/\∀ x∈s.Edges,L5 d s.Regs x=true:=by
  intro s hs;have:=h7 s hs;unfold V9 at this;simp only [and_eq_true,decide_eq_true_eq,all_eq_true,beq_iff_eq] at this;obtain ⟨⟨⟨⟨g1,_⟩,g2⟩,g3⟩,g4⟩:=this;exact ⟨g1,by omega,g3,g4⟩
 refine ⟨hs,?_,h256,by simpa using h8,fun s hs=>(hst s hs).1,fun s hs=>?_,⟨h1,h2,?_⟩,fun s hs c hc=>?_,fun s hs x hx=>?_,fun s hs x hx n hn=>?_⟩
 ·simp at h4;exact length_pos_iff.2 h4
 ·have:=(hst s hs).2.2.1;have hr:=(hst s hs).1;unfold a0E at this;simp only [Bool.or_eq_true,and_eq_true,beq_iff_eq,all_eq_true] at this;rcases this with h0 | ⟨g1,g2⟩
  ·have:s.Accept=[]:=List.eq_nil_of_length_eq_zero (by omega);exact ⟨fun n hn=>by rw [this] at hn;simp at hn,.inl this⟩
  ·refine ⟨fun n hn=>?_,.inr g1⟩;rcases g2 n hn with h0 | h0
   ·exact .inr (.inl h0)
   ·rcases n0V.1 h0 with h0 | ⟨h0,h00⟩
    ·exact .inl h0
    ·exact .inr (.inr ⟨h0,by omega⟩)
 ·have h3:¬ d.Tags.tmod 2=0:=by simpa using h3
  rw [Int.tmod_eq_emod_of_nonneg (by omega)] at h3;omega
 ·rw [(hst s hs).2.1];exact hcb c hc
 ·have:=(hst s hs).2.2.2 x hx;unfold L5 at this;split at this
  ·rename_i h0;exact .inl ⟨h0,by simpa using this⟩
  ·simp only [and_eq_true,decide_eq_true_eq,beq_iff_eq] at this;exact .inr ⟨this.1.1.1,this.1.1.2,this.1.2⟩
 ·have:=(hst s hs).2.2.2 x hx;unfold L5 at this;split at this
  ·rename_i h0;have:x.Src=[]:=by simpa using this
   rw [this] at hn;simp at hn
  ·simp only [and_eq_true,all_eq_true] at this;exact n0V.1 (this.2 n hn)
def P5 (d:K0) (c:X0):X0:=if 0<=c.state/\(gt d.States c.state).Accept≠[] then { c with last:=⟨N2 c.at_ c.regs (gt d.States c.state).Accept,c.at_⟩ } else c
def C2 (d:K0) (c:X0) (b:Int):L2:=gt (gt d.States c.state).Edges (gt d.Class b)
def H6 (d:K0) (c:X0) (b:Int):X0:=
 if 0<=c.state then { c with at_:=c.at_+1,state:=(C2 d c b).To,work:=c.work+1+((C2 d c b).Src.length:Int),regs:=N2 c.at_ c.regs (C2 d c b).Src } else { c with at_:=c.at_+1,work:=c.work+1 }
def I6 (d:K0) (c:X0) (b:Int):X0:=P5 d (H6 d c b)
def J7 (d:K0):X0:=P5 d ⟨⟨[],0⟩,d,0,0,0,[]⟩
structure CI (d:K0) (c:X0) (i:Nat):Prop where
 d_:c.d=d
 at_:c.at_=(i:Int)
 st:c.state=-1\/(0<=c.state/\c.state<(d.States.length:Int)/\(c.regs.length:Int)=(gt d.States c.state).Regs)
 rl:c.regs.length<=400
 wk:(i:Int)<=c.work/\c.work<=(i:Int)*401
 tl:c.last.tags.length<=40
def T3 (c:X0):P3:=⟨c.d,c.at_,c.state,c.regs,c.last.tags,c.last.to,!c.last.tags.isEmpty,c.work⟩
theorem n0J {d:K0} (h:Rd d) {c:X0} {i:Nat} (hc:CI d c i):CI d (P5 d c) i:=by
 unfold P5;split
 ·rename_i hh;refine ⟨hc.d_,hc.at_,hc.st,hc.rl,hc.wk,?_⟩;rcases hc.st with h0 | ⟨h1,h2,h3⟩
  ·omega
  ·show (N2 _ _ _).length<=40;unfold N2;rw [List.length_map];exact h.sm.ac _ (c0l h1 h2)
 ·exact hc
theorem l0R {d:K0} (h:Rd d) {c:X0} (h1:0<=c.state) (h2:c.state<(d.States.length:Int)) (h3:(c.regs.length:Int)=(gt d.States c.state).Regs):(gt d.States c.state).Accept.length<=40/\e08 c.regs.length (gt d.States c.state).Accept:=by
 have hm:=c0l h1 h2;refine ⟨h.sm.ac _ hm,?_⟩;have:=(h.ac _ hm).1
 rwa [<-h3,Int.toNat_natCast] at this
theorem p0s {d:K0} (h:Rd d) {c:X0} {i:Nat} (hc:CI d c i) (hF:2000<F):b05 F c=some (P5 d c):=by
 unfold b05 b0z P5;rw [hc.d_];rcases hc.st with h0 | ⟨h1,h2,h3⟩
 ·have e:decide (c.state>=0)=false:=by simp;omega
  have e2:¬ (0<=c.state/\(gt d.States c.state).Accept≠[]):=by omega
  simp [e,e2]
 ·obtain ⟨a1,a2⟩:=l0R h h1 h2 h3;have e:decide (c.state>=0)=true:=by simpa using h1
  simp only [e,if_true,B4 h1 h2,F1]
  by_cases ha:(gt d.States c.state).Accept=[]
  ·simp [ha]
  ·have:decide (((gt d.States c.state).Accept.length:Int)>0)=true:=by have:=length_pos_iff.2 ha;simp;omega
   simp only [this,if_true,F1];rw [o08 c _ (by omega) a2 hF,if_pos ⟨h1,ha⟩];obtain ⟨l,d0,a,s,w,r⟩:=c;obtain rfl:d0=d:=hc.d_;rfl
theorem o0X {d:K0} (h:Rd d) {c:X0} {i:Nat} (hc:CI d c i) (hF:2000<F):d0u F (T3 c)=some (T3 (P5 d c)):=by
 unfold d0u P5 T3;simp only [hc.d_];rcases hc.st with h0 | ⟨h1,h2,h3⟩
 ·have e:decide (c.state<0)=true:=by simp;omega
  have e2:¬ (0<=c.state/\(gt d.States c.state).Accept≠[]):=by omega
  simp [e,e2,hc.d_]
 ·obtain ⟨a1,a2⟩:=l0R h h1 h2 h3;have e:decide (c.state<0)=false:=by simpa using h1
  simp only [e,false_eq_true,if_false,B4 h1 h2,if_true,F1]
  by_cases ha:(gt d.States c.state).Accept=[]
  ·simp [ha,hc.d_]
  ·have:(((gt d.States c.state).Accept.length:Int)==0)=false:=by simp [ha]
   simp only [this,false_eq_true,if_false];have hl:=i7 (body:=d0q F ⟨d,c.at_,c.state,c.regs,c.last.tags,c.last.to,!c.last.tags.isEmpty,c.work⟩) (gt d.States c.state).Accept.length (fun j=>((j:Int),(d,c.at_,c.state,c.regs,N2 c.at_ c.regs ((gt d.States c.state).Accept.take j),c.last.to,!c.last.tags.isEmpty,c.work))) (d,c.at_,c.state,c.regs,N2 c.at_ c.regs (gt d.States c.state).Accept,c.last.to,!c.last.tags.isEmpty,c.work) (fun j hj=>by
    have hn:=a2 _ (K4 hj);have hap:∀ z:Int,C1 8 (N2 c.at_ c.regs ((gt d.States c.state).Accept.take j)) [z]=true:=fun z=>a7 (by simp [N2];omega);unfold d0q;simp only [dec_lt hj,Y3,hj,decide_true,if_true,hap];rw [R2 (by omega)];have hb:=c0G (a0n c.at_ c.regs) (gt d.States c.state).Accept hj;unfold N2;rw [hb];unfold a0n at hn ⊢;rcases hn with hn | hn | ⟨g1,g2⟩
    ·simp [hn]
    ·simp [hn]
    ·have n1:¬ gt (gt d.States c.state).Accept (j:Int)=-1:=by omega
     have n2:¬ gt (gt d.States c.state).Accept (j:Int)=-2:=by omega
     have n3:(gt (gt d.States c.state).Accept (j:Int)==-1)=false:=by simpa using n1
     have n4:(gt (gt d.States c.state).Accept (j:Int)==-2)=false:=by simpa using n2
     simp only [n1,n2,n3,n4,false_eq_true,if_false,B4 g1 g2,if_true,F1]) (by
    unfold d0q;simp) (fu:=F) (by omega)
   simp only [take_zero,Int.natCast_zero] at hl;have hl:iter (d0q F ⟨d,c.at_,c.state,c.regs,c.last.tags,c.last.to,!c.last.tags.isEmpty,c.work⟩) F (0,(d,c.at_,c.state,c.regs,[],c.last.to,!c.last.tags.isEmpty,c.work))=_:=hl;rw [hl,if_pos ⟨h1,ha⟩];have hne:(N2 c.at_ c.regs (gt d.States c.state).Accept).isEmpty=false:=by unfold N2;simp [ha]
   simp only [F1,hne,hc.d_,Bool.not_false]
