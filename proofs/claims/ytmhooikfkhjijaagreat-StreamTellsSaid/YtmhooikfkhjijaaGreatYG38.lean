/- P. Its conditions: none. -/
import Derived.Test.YtmhooikfkhjijaaGreatYMd
import Derived.Test.YtmhooikfkhjijaaGreatYG24
open Bool (false_eq_true and_eq_true)
set_option linter.all false
namespace Go.Proofs.YtmhooikfkhjijaaGreat.Pr
open Go.V Go.RowKit Go.X
def i7 {S ρ:Type}{body:S->Option (T0 S ρ)}(n:Nat)(g:Nat->S)(res:ρ)(hs:∀i,i<n->body (g i)=some (.next (g (i+1))))(he:body (g n)=some (.done res)){fu:Nat}(h:n<fu):iter body fu (g 0)=some res:=by
 have key:∀(k i fu:Nat),i+k=n->k<fu->iter body fu (g i)=some res:=by
  intro k
  induction k with
  |
   zero=>
   intro i fu hi hfu;obtain⟨fu,rfl⟩:∃m,fu=m+1:=⟨fu-1,by omega⟩
   unfold iter;rw[show i=n by omega,he]
  |
   succ k ih=>
   intro i fu hi hfu;obtain⟨fu,rfl⟩:∃m,fu=m+1:=⟨fu-1,by omega⟩
   unfold iter;rw[hs i (by omega)];exact ih (i+1) fu (by omega) (by omega)
 exact key n 0 fu (by omega) h
def F8 {α ρ:Type}[Inhabited α](l:List α)(p:α->Bool)(good:ρ)(bad:Nat->ρ){body:Int->Option (T0 Int ρ)}
  (hs:∀i:Nat,i<l.length->body (i:Int)=some (if p (gt l (i:Int))then .next ((i+1:Nat):Int)else .done (bad i))) (he:body (l.length:Int)=some (.done good)) {fu:Nat} (h:l.length<fu):
  ∃k,iter body fu 0=some (if l.all p then good else bad k):=by
 have key:∀(k i fu:Nat),i+k=l.length->k<fu->∃j,iter body fu (i:Int)=some (if(l.drop i).all p then good else bad j):=by
  intro k
  induction k with
  |
   zero=>
   intro i fu hi hfu;obtain⟨fu,rfl⟩:∃m,fu=m+1:=⟨fu-1,by omega⟩
   refine⟨0,?_⟩;unfold iter;rw[show i=l.length by omega,he];simp
  |
   succ k ih=>
   intro i fu hi hfu;obtain⟨fu,rfl⟩:∃m,fu=m+1:=⟨fu-1,by omega⟩
   obtain⟨j,hj⟩:=ih (i+1) fu (by omega) (by omega);have hil:i<l.length:=by omega
   have hd:l.drop i=gt l (i:Int) :: l.drop (i+1):=by
    rw[List.drop_eq_getElem_cons hil,Y5 (x:=l[i]) (by simp[hil])]
   unfold iter;rw[hs i hil,hd]
   by_cases hp:p (gt l (i:Int))=true
   ·rw[if_pos hp];exact⟨j,by simp only[hj,List.all_cons,hp,Bool.true_and]⟩
   ·have hp:p (gt l (i:Int))=false:=by simpa using hp
    refine⟨i,?_⟩;simp only[hp,List.all_cons,Bool.false_and,false_eq_true,if_false]
 exact key l.length 0 fu (by omega) h
def K4 {α:Type}[Inhabited α]{l:List α}{i:Nat}(h:i<l.length):gt l (i:Int)∈l:=by
 rw[Y5 (x:=l[i]) (by simp[h])];exact List.getElem_mem h
def c0l {α:Type}[Inhabited α]{l:List α}{i:Int}(h0:0<=i)(h:i<(l.length:Int)):gt l i∈l:=by
 obtain⟨n,rfl⟩:∃n:Nat,i=n:=⟨i.toNat,by omega⟩
 exact K4 (by omega)
def dec_lt {a b:Nat}(h:a<b):decide ((a:Int)<(b:Int))=true:=by simp;omega
def c0G {α β:Type}[Inhabited α](f:α->β)(l:List α){i:Nat}(h:i<l.length):(l.take (i+1)).map f=(l.take i).map f++[f (gt l (i:Int))]:=by
 have:l[i]?=some (gt l (i:Int)):=by rw[Y5 (x:=l[i]) (by simp[h])];simp[h]
 rw[List.take_succ,this,List.map_append];rfl
def l7:List Int->Int->Option Int
 |[],n=>some n
 |c :: r,n=>if c<0\/n<c then none else l7 r (if c=n then n+1 else n)
def D6 (c:List Int):Bool:=(l7 c 0).isSome&&(c.length:Int)==256
def b0m:List Int->Nat->List Int->List Int
 |[],_,out=>out
 |c :: r,b,out=>b0m r (b+1) (if c=(out.length:Int)then out++[IntKind.u8.wrap (b:Int)]else out)
def N4 (c:List Int):List Int:=b0m c 0 []
variable {F:Nat}
def h0Z:∀{l:List Int} {n m:Int},l7 l n=some m->n<=m/\m<=n+l.length/\∀c∈l,0<=c/\c<m
 |[],n,m,h=>by cases h;exact⟨Int.le_refl _,by simp,by simp⟩
 |
  c :: r,n,m,h=>by
  unfold l7 at h;split at h
  ·cases h
  ·rename_i hc;obtain⟨h1,h2,h3⟩:=h0Z h
   by_cases e:c=n
   ·rw[if_pos e]at h1 h2;refine⟨by omega,by simp;omega,fun x hx=>?_⟩;rcases List.mem_cons.1 hx with rfl|hx
    ·omega
    ·exact h3 x hx
   ·rw[if_neg e]at h1 h2;refine⟨h1,by simp;omega,fun x hx=>?_⟩;rcases List.mem_cons.1 hx with rfl|hx
    ·omega
    ·exact h3 x hx
def n0j {α:Type}[Inhabited α]{l:List α}{i:Nat}(h:i<l.length):l.drop i=gt l (i:Int) :: l.drop (i+1):=by
 rw[List.drop_eq_getElem_cons h,Y5 (x:=l[i]) (by simp[h])]
def Q6 {n:Int}(h1:0<=n)(h2:n<=1000000):W n=n:=c0R (by omega) (by omega)
def l0Z {body:Int×Int->Option (T0 (Int×Int) (Unit⊕Unit))}(l:List Int)(hl:l.length<=1000)
  (hs:∀(i:Nat) (n:Int),i<l.length->0<=n->n<=i->body (n,(i:Int))=some (if gt l (i:Int)<0\/n<gt l (i:Int)then .done (.inl ())else .next ((if gt l (i:Int)=n then n+1 else n),((i+1:Nat):Int))))
  (he:∀n,body (n,(l.length:Int))=some (.done (.inr ()))) (hF:2000<F):iter body F (0,0)=some (if(l7 l 0).isSome then .inr ()else .inl ()):=by
 have key:∀(k i fu:Nat) (n:Int),i+k=l.length->k<fu->0<=n->n<=i->iter body fu (n,(i:Int))=some (if(l7 (l.drop i) n).isSome then .inr ()else .inl ()):=by
  intro k
  induction k with
  |
   zero=>
   intro i fu n hi hfu _ _;obtain⟨fu,rfl⟩:∃m,fu=m+1:=⟨fu-1,by omega⟩
   obtain rfl:i=l.length:=by omega
   unfold iter;rw[he,List.drop_length];rfl
  |
   succ k ih=>
   intro i fu n hi hfu h0 hn;obtain⟨fu,rfl⟩:∃m,fu=m+1:=⟨fu-1,by omega⟩
   unfold iter;rw[hs i n (by omega) h0 hn,n0j (show i<l.length by omega)];unfold l7
   by_cases hc:gt l (i:Int)<0\/n<gt l (i:Int)
   ·simp only[if_pos hc];rfl
   ·simp only[if_neg hc]
    by_cases e:gt l (i:Int)=n
    ·simp only[if_pos e];exact ih (i+1) fu (n+1) (by omega) (by omega) (by omega) (by omega)
    ·simp only[if_neg e];exact ih (i+1) fu n (by omega) (by omega) (by omega) (by omega)
 exact key l.length 0 F 0 (by omega) (by omega) (by omega) (by omega)
def k0E (c:List Int)(hl:c.length<=1000)(hF:2000<F):c0A F c=some (D6 c):=by
 unfold c0A;rw[l0Z c hl (fun i n hi h0 hn=>by
  unfold i0s;simp only[dec_lt hi,Y3,hi,decide_true,if_true]
  by_cases h1:gt c (i:Int)<0
  ·simp[h1]
  ·by_cases h2:n<gt c (i:Int)
   ·have:decide (gt c (i:Int)>n)=true:=by simp;omega
    simp[h1,h2,this]
   ·have e1:decide (gt c (i:Int)>n)=false:=by simp;omega
    have e2:decide (gt c (i:Int)<0)=false:=by simp;omega
    have e3:W (gt c (i:Int)+1)=gt c (i:Int)+1:=Q6 (by omega) (by omega);have e4:W ((i:Int)+1)=((i+1:Nat):Int):=R2 (by omega);simp only[q0,e1,e2,e3,e4,h1,h2,or_self]
    by_cases e:gt c (i:Int)=n
    ·simp[e];intro h;omega
    ·have:¬(gt c (i:Int)+1>n):=by omega
     simp[e,this]) (fun n=>by unfold i0s;simp) hF]
 unfold D6;cases(l7 c 0).isSome<;>simp
def l0f (c:List Int)(hl:c.length<=1000)(hF:2000<F):c0t F c=some (D6 c):=by
 unfold c0t;rw[l0Z c hl (fun i n hi h0 hn=>by
  unfold i0c;simp only[dec_lt hi,Y3,hi,decide_true,if_true]
  by_cases h1:gt c (i:Int)<0
  ·simp[h1]
  ·by_cases h2:n<gt c (i:Int)
   ·have:decide (gt c (i:Int)>n)=true:=by simp;omega
    simp[h1,h2,this]
   ·have e1:decide (gt c (i:Int)>n)=false:=by simp;omega
    have e2:decide (gt c (i:Int)<0)=false:=by simp;omega
    have e3:W (n+1)=n+1:=Q6 (by omega) (by omega);have e4:W ((i:Int)+1)=((i+1:Nat):Int):=R2 (by omega);simp only[q0,e1,e2,e3,e4,h1,h2,or_self]
    by_cases e:gt c (i:Int)=n
    ·simp[e]
    ·have:(gt c (i:Int)==n)=false:=by simpa using e
     simp[e,this]) (fun n=>by unfold i0c;simp) hF]
 unfold D6;cases(l7 c 0).isSome<;>simp
def n0m {body:List Int×Int->Option (T0 (List Int×Int) (List Int))}(l:List Int)(hl:l.length<=1000)
  (hs:∀(i:Nat) (o:List Int),i<l.length->o.length<=i->body (o,(i:Int))=some (.next ((if gt l (i:Int)=(o.length:Int)then o++[IntKind.u8.wrap (i:Int)]else o),((i+1:Nat):Int))))
  (he:∀o,body (o,(l.length:Int))=some (.done o)) (hF:2000<F):iter body F ([],0)=some (N4 l):=by
 have key:∀(k i fu:Nat) (o:List Int),i+k=l.length->k<fu->o.length<=i->iter body fu (o,(i:Int))=some (b0m (l.drop i) i o):=by
  intro k
  induction k with
  |
   zero=>
   intro i fu o hi hfu _;obtain⟨fu,rfl⟩:∃m,fu=m+1:=⟨fu-1,by omega⟩
   obtain rfl:i=l.length:=by omega
   unfold iter;rw[he,List.drop_length];rfl
  |
   succ k ih=>
   intro i fu o hi hfu ho;obtain⟨fu,rfl⟩:∃m,fu=m+1:=⟨fu-1,by omega⟩
   unfold iter;rw[hs i o (by omega) ho,n0j (show i<l.length by omega)];unfold b0m;exact ih (i+1) fu _ (by omega) (by omega) (by
    split
    ·simp;omega
    ·omega)
 exact key l.length 0 F [] (by omega) (by omega) (by simp)
def z0T (c:List Int)(hl:c.length<=1000)(hF:2000<F):c0m F c=some (if D6 c then N4 c else[]):=by
 unfold c0m;rw[k0E c hl hF];cases D6 c
 ·simp
 ·simp only[q0];rw[n0m c hl (fun i o hi ho=>by
   unfold j0Y;have ha:C1 1 o [IntKind.u8.wrap (i:Int)]=true:=a7 (by simp;omega);simp only[dec_lt hi,Y3,hi,decide_true,if_true,ha];rw[R2 (by omega)]
   by_cases e:gt c (i:Int)=(o.length:Int)
   ·simp[e]
   ·have:(gt c (i:Int)==(o.length:Int))=false:=by simpa using e
    simp[e,this]) (fun o=>by unfold j0Y;simp) hF]
  rfl
def v0t (c:List Int)(hl:c.length<=1000)(hF:2000<F):g0b F c=some (if D6 c then N4 c else[]):=by
 unfold g0b;rw[l0f c hl hF];cases hc:D6 c
 ·simp
 ·have h256:c.length=256:=by
   unfold D6 at hc;simp at hc;omega
  simp only[q0];rw[n0m c hl (fun i o hi ho=>by
   unfold h07;have ha:C1 1 o [IntKind.u8.wrap (i:Int)]=true:=a7 (by simp;omega);have hd:decide ((i:Int)<256)=true:=by simp;omega
   simp only[hd,Y3,hi,decide_true,if_true,ha];rw[R2 (by omega)]
   by_cases e:gt c (i:Int)=(o.length:Int)
   ·simp[e]
   ·have:(gt c (i:Int)==(o.length:Int))=false:=by simpa using e
    simp[e,this]) (fun o=>by unfold h07;simp[h256]) hF]
  rfl
def m0i:∀{l:List Int} {n m:Int} {b:Nat} {o:List Int},l7 l n=some m->(o.length:Int)=n->((b0m l b o).length:Int)=m
 |[],n,m,b,o,h,ho=>by cases h;exact ho
 |
  c :: r,n,m,b,o,h,ho=>by
  unfold l7 at h;split at h
  ·cases h
  ·unfold b0m;refine m0i h ?_;rw[ho];split<;>simp[ho]
def x0R {c:List Int}(h:D6 c=true):∃m:Nat,l7 c 0=some (m:Int)/\(N4 c).length=m/\m<=256/\c.length=256:=by
 unfold D6 at h;simp only[and_eq_true]at h;obtain⟨h1,h2⟩:=h;obtain⟨m,hm⟩:=Option.isSome_iff_exists.1 h1;have h2:c.length=256:=by simp at h2;omega
 obtain⟨b1,b2,_⟩:=h0Z hm;have hl:=m0i (b:=0) (o:=[]) hm (by simp);refine⟨m.toNat,by rw[hm];congr 1;omega,?_,by omega,h2⟩;unfold N4;omega
end Go.Proofs.YtmhooikfkhjijaaGreat.Pr
namespace Go.Proofs.YtmhooikfkhjijaaGreat.Pr
open Go.V Go.RowKit Go.X
variable {F:Nat}
def or_some (a b:Bool):(if a=true then some true else some b)=some (a||b):=by cases a<;>rfl
def M00 (a b:Bool):(if a=true then some b else some false)=some (a&&b):=by cases a<;>rfl
def D04 (R:Int)(m:C0s):Bool:=decide (0<=m.To)&&decide (m.To<R)&&decide (-1<=m.From)&&decide (m.From<R)&&!(m.From==m.To)
def F0Q (p:b0D)(x:C0x):Bool:=decide (-1<=x.To)&&decide (x.To<(p.Stands.length:Int))&&(!(x.To==-1)||!(decide ((x.Moves.length:Int)>0)))&&decide ((x.Moves.length:Int)<=2*p.Regs)
def D0h (p:b0D)(x:C0x):Bool:=F0Q p x&&x.Moves.all (D04 p.Regs)
def D0i (R:Int)(n:Int):Bool:=decide (-2<=n)&&decide (n<R)
def a0E (p:b0D)(s:C05):Bool:=((s.Accept.length:Int)==0||(s.Accept.length:Int)==p.Tags)&&s.Accept.all (D0i p.Regs)
def V9 (p:b0D)(k:Nat)(s:C05):Bool:=a0E p s&&(s.c0s.length:Int)==(k:Int)&&s.c0s.all (D0h p)
def D0L (p:b0D):Bool:=decide (1<=p.Tags)&&decide (p.Tags<=19)&&!(p.Tags.tmod 2==0)&&decide (1<=p.Regs)&&decide (p.Regs<=1217)&&!((p.Stands.length:Int)==0)&&decide ((p.Stands.length:Int)<=400)&&D6 p.Class
def C0Z (p:b0D):Bool:=D0L p&&p.Stands.all (V9 p (N4 p.Class).length)
structure Sm (p:b0D):Prop where
 st:p.Stands.length<=60
 cl:p.Class.length<=300
 rg:p.Regs<=600
 ac:∀s∈p.Stands,s.Accept.length<=40
 wy:∀s∈p.Stands,s.c0s.length<=300
 mv:∀s∈p.Stands,∀x∈s.c0s,x.Moves.length<=1300
def N0H (R:Int)(m:C0s):(((decide (m.To<0)||decide (m.To>=R))||decide (m.From < -1))||decide (m.From>=R)||(m.From==m.To))=!D04 R m:=by
 unfold D04;rw[Bool.eq_iff_iff];simp
 try omega
def O0W (p:b0D)(x:C0x):(((decide (x.To < -1)||decide (x.To>=(p.Stands.length:Int)))||((x.To==-1)&&decide ((x.Moves.length:Int)>0)))||decide ((x.Moves.length:Int)>2*p.Regs))=!F0Q p x:=by
 unfold F0Q;cases h1:x.To==-1<;>cases h2:decide ((x.Moves.length:Int)>0)<;>rw[Bool.eq_iff_iff]<;>simp<;>omega
def V0M (p:b0D)(x:C0x)(h0:0<=p.Regs)(h1:p.Regs<=1217)(hl:x.Moves.length<=1300)(hF:2000<F):J0c F p x=some (D0h p x):=by
 unfold J0c;obtain⟨k,hk⟩:=F8 (body:=I0b F p x) x.Moves (D04 p.Regs) (.inr ()) (fun i=>.inl (i:Int)) (fun i hi=>by
  unfold I0b;have e:=N0H p.Regs (gt x.Moves (i:Int));simp only[q0,dec_lt hi,Y3,hi,or_some,e];cases D04 p.Regs (gt x.Moves (i:Int))
  ·simp
  ·simp only[q0];rw[R2 (by omega)]) (by unfold I0b;simp) (fu:=F) (by omega)
 have e:=O0W p x;rw[Q6 (show 0<=2*p.Regs by omega) (by omega)];simp only[or_some,M00,F1,e,hk];unfold D0h;cases F0Q p x<;>cases x.Moves.all (D04 p.Regs)<;>simp
def R02 (p:b0D)(x:C0x)(h0:0<=p.Regs)(h1:p.Regs<=1217)(hl:x.Moves.length<=1300)(hF:2000<F):I0Q F p x=some (D0h p x):=by
 unfold I0Q;obtain⟨k,hk⟩:=F8 (body:=H02 F p x) x.Moves (D04 p.Regs) (.inr ()) (fun i=>.inl ()) (fun i hi=>by
  unfold H02;have e:=N0H p.Regs (gt x.Moves (i:Int));simp only[q0,dec_lt hi,Y3,hi,or_some,e];cases D04 p.Regs (gt x.Moves (i:Int))
  ·simp
  ·simp only[q0];rw[R2 (by omega)]) (by unfold H02;simp) (fu:=F) (by omega)
 have e:=O0W p x;rw[Q6 (show 0<=2*p.Regs by omega) (by omega)];simp only[or_some,M00,F1,e,hk];unfold D0h;cases F0Q p x<;>cases x.Moves.all (D04 p.Regs)<;>simp
def M0z (R n:Int):(decide (n < -2)||decide (n>=R))=!D0i R n:=by
 unfold D0i;rw[Bool.eq_iff_iff];simp;try omega
def V08 (p:b0D)(hd:Sm p)(i:Nat)(hi:i<p.Stands.length)(hF:2000<F):∃k:Nat,iter (H0h F p (i:Int)) F 0=some (if(gt p.Stands (i:Int)).Accept.all (D0i p.Regs)then .inr ()else .inl (k:Int)):=by
 have hm:=K4 hi;exact F8 (body:=H0h F p (i:Int)) (gt p.Stands (i:Int)).Accept (D0i p.Regs) (.inr ()) (fun i=>.inl (i:Int)) (fun j hj=>by
  unfold H0h;have e:=M0z p.Regs (gt (gt p.Stands (i:Int)).Accept (j:Int));simp only[q0,dec_lt hj,Y3,hj,or_some,e];cases D0i p.Regs (gt (gt p.Stands (i:Int)).Accept (j:Int))
  ·simp
  ·simp only[q0];rw[R2 (by have:=hd.ac _ hm;omega)]) (by unfold H0h;simp) (fu:=F) (by have:=hd.ac _ hm;omega)
def V0g (p:b0D)(hd:Sm p)(h0:0<=p.Regs)(i:Nat)(hi:i<p.Stands.length)(hF:2000<F):∃k:Nat,iter (H0u F p (i:Int)) F 0=some (if(gt p.Stands (i:Int)).c0s.all (D0h p)then .inr ()else .inl (k:Int)):=by
 have hm:=K4 hi;exact F8 (body:=H0u F p (i:Int)) (gt p.Stands (i:Int)).c0s (D0h p) (.inr ()) (fun i=>.inl (i:Int)) (fun j hj=>by
  unfold H0u;have e:=V0M (F:=F) p (gt (gt p.Stands (i:Int)).c0s (j:Int)) h0 (by have:=hd.rg;omega) (hd.mv _ hm _ (K4 hj)) hF;simp only[q0,dec_lt hj,Y3,hj,e];cases D0h p (gt (gt p.Stands (i:Int)).c0s (j:Int))
  ·simp
  ·simp only[q0];rw[R2 (by have:=hd.wy _ hm;omega)]) (by unfold H0u;simp) (fu:=F) (by have:=hd.wy _ hm;omega)
def S0y (p:b0D)(hd:Sm p)(i:Nat)(hi:i<p.Stands.length)(hF:2000<F):∃k:Nat,iter (H0t F p (i:Int)) F 0=some (if(gt p.Stands (i:Int)).Accept.all (D0i p.Regs)then .inr ()else .inl ()):=by
 have hm:=K4 hi;exact F8 (body:=H0t F p (i:Int)) (gt p.Stands (i:Int)).Accept (D0i p.Regs) (.inr ()) (fun i=>.inl ()) (fun j hj=>by
  unfold H0t;have e:=M0z p.Regs (gt (gt p.Stands (i:Int)).Accept (j:Int));simp only[q0,dec_lt hj,Y3,hj,or_some,e];cases D0i p.Regs (gt (gt p.Stands (i:Int)).Accept (j:Int))
  ·simp
  ·simp only[q0];rw[R2 (by have:=hd.ac _ hm;omega)]) (by unfold H0t;simp) (fu:=F) (by have:=hd.ac _ hm;omega)
def P0c (p:b0D)(hd:Sm p)(h0:0<=p.Regs)(i:Nat)(hi:i<p.Stands.length)(least:List Int)(hl:(gt p.Stands (i:Int)).c0s.length=least.length)(hF:2000<F):∃k:Nat,iter (H0r F p least (i:Int)) F 0=some (if(gt p.Stands (i:Int)).c0s.all (D0h p)then .inr ()else .inl ()):=by
 have hm:=K4 hi;exact F8 (body:=H0r F p least (i:Int)) (gt p.Stands (i:Int)).c0s (D0h p) (.inr ()) (fun i=>.inl ()) (fun j hj=>by
  unfold H0r;have e:=R02 (F:=F) p (gt (gt p.Stands (i:Int)).c0s (j:Int)) h0 (by have:=hd.rg;omega) (hd.mv _ hm _ (K4 hj)) hF;simp only[q0,dec_lt (show j<least.length by omega),Y3,hj,e];cases D0h p (gt (gt p.Stands (i:Int)).c0s (j:Int))
  ·simp
  ·simp only[q0];rw[R2 (by have:=hd.wy _ hm;omega)]) (by unfold H0r;simp[hl]) (fu:=F) (by have:=hd.wy _ hm;omega)
def M0H (p:b0D):(((((((decide (p.Tags<1)||decide (p.Tags>19))||(p.Tags.tmod 2==0))||decide (p.Regs<1))||decide (p.Regs>1217))||((p.Stands.length:Int)==0))||decide ((p.Stands.length:Int)>400))||!D6 p.Class)=!D0L p:=by
 unfold D0L;cases h1:p.Tags.tmod 2==0<;>cases h2:D6 p.Class<;>rw[Bool.eq_iff_iff]<;>simp<;>omega
def O00 (p:b0D)(hd:Sm p)(hF:2000<F):H0S F p=some (C0Z p):=by
 have hcl:=hd.cl;have e:=M0H p;unfold H0S;simp only[or_some,F1,k0E p.Class (by omega) hF,e];unfold C0Z;cases hh:D0L p with
 |false=>simp
 |
  true=>
  have hc:D6 p.Class=true:=by unfold D0L at hh;simp only[and_eq_true]at hh;exact hh.2
  have h0:0<=p.Regs:=by unfold D0L at hh;simp only[and_eq_true,decide_eq_true_eq]at hh;omega
  obtain⟨k,hk⟩:=F8 (body:=I0c F p (N4 p.Class)) p.Stands (V9 p (N4 p.Class).length) (.inr ()) (fun _=>.inl ()) (fun i hi=>by
   obtain⟨k1,hk1⟩:=V08 (F:=F) p hd i hi hF;obtain⟨k2,hk2⟩:=V0g (F:=F) p hd h0 i hi hF;unfold I0c V9 a0E;have hw:=R2 (show i<9223372036854775807 by have:=hd.st;omega);simp only[q0,dec_lt hi,Y3,hi,hk1,hk2,hw,bne];cases(gt p.Stands (i:Int)).Accept.all (D0i p.Regs)<;>cases(gt p.Stands (i:Int)).c0s.all (D0h p)<;>cases((gt p.Stands (i:Int)).Accept.length:Int)==0<;>cases((gt p.Stands (i:Int)).Accept.length:Int)==p.Tags<;>cases((gt p.Stands (i:Int)).c0s.length:Int)==((N4 p.Class).length:Int)<;>simp) (by
   unfold I0c;simp) (fu:=F) (by have:=hd.st;omega)
  simp only[q0,z0T p.Class (by omega) hF,hc,hk];cases p.Stands.all (V9 p (N4 p.Class).length)<;>simp
def X0h (p:b0D)(hd:Sm p)(hF:2000<F):I0Y F p=some (C0Z p):=by
 have hcl:=hd.cl;have e:=M0H p;have e7:decide ((p.Stands.length:Int)<1)=((p.Stands.length:Int)==0):=by rw[Bool.eq_iff_iff];simp only[decide_eq_true_eq,beq_iff_eq];omega
 unfold I0Y;simp only[or_some,F1,l0f p.Class (by omega) hF,e7,e];unfold C0Z;cases hh:D0L p with
 |false=>simp
 |
  true=>
  have hc:D6 p.Class=true:=by unfold D0L at hh;simp only[and_eq_true]at hh;exact hh.2
  have h0:0<=p.Regs:=by unfold D0L at hh;simp only[and_eq_true,decide_eq_true_eq]at hh;omega
  obtain⟨k,hk⟩:=F8 (body:=I0s F p (N4 p.Class)) p.Stands (V9 p (N4 p.Class).length) (.inr ()) (fun _=>.inl ()) (fun i hi=>by
   obtain⟨k1,hk1⟩:=S0y (F:=F) p hd i hi hF;have hk2:=P0c (F:=F) p hd h0 i hi (N4 p.Class);unfold I0s V9 a0E;have hw:=R2 (show i<9223372036854775807 by have:=hd.st;omega);simp only[q0,dec_lt hi,Y3,hi,hk1,hw,bne];cases g:((gt p.Stands (i:Int)).c0s.length:Int)==((N4 p.Class).length:Int)
   ·cases(gt p.Stands (i:Int)).Accept.all (D0i p.Regs)<;>cases((gt p.Stands (i:Int)).Accept.length:Int)==0<;>cases((gt p.Stands (i:Int)).Accept.length:Int)==p.Tags<;>simp
   ·obtain⟨k2,hk2⟩:=hk2 (by simp at g;omega) hF;simp only[hk2,F1];cases(gt p.Stands (i:Int)).Accept.all (D0i p.Regs)<;>cases(gt p.Stands (i:Int)).c0s.all (D0h p)<;>cases((gt p.Stands (i:Int)).Accept.length:Int)==0<;>cases((gt p.Stands (i:Int)).Accept.length:Int)==p.Tags<;>simp) (by
   unfold I0s;simp) (fu:=F) (by have:=hd.st;omega)
  simp only[q0,v0t p.Class (by omega) hF,hc,hk];cases p.Stands.all (V9 p (N4 p.Class).length)<;>simp
def a0M (p:b0D):Bool:=decide (p.Stands.length<=60)&&decide (p.Class.length<=300)&&decide (p.Regs<=600)&&
 p.Stands.all fun s=>decide (s.Accept.length<=40)&&decide (s.c0s.length<=300)&&s.c0s.all fun x=>decide (x.Moves.length<=1300)
def i0x {p:b0D}(h:a0M p=true):Sm p:=by
 unfold a0M at h;simp only[and_eq_true,decide_eq_true_eq,List.all_eq_true]at h;obtain⟨⟨⟨h1,h2⟩,h3⟩,h4⟩:=h;exact⟨h1,h2,h3,fun s hs=>(h4 s hs).1.1,fun s hs=>(h4 s hs).1.2,fun s hs=>(h4 s hs).2⟩
def i0w (p:b0D)(hF:2000<F):F0y F p=some (a0M p):=by
 unfold F0y a0M;simp only[or_some,F1]
 by_cases h1:p.Stands.length<=60
 ·have e1:decide ((p.Stands.length:Int)>60)=false:=by simp;omega
  by_cases h2:p.Class.length<=300
  ·have e2:decide ((p.Class.length:Int)>300)=false:=by simp;omega
   by_cases h3:p.Regs<=600
   ·have e3:decide (p.Regs>600)=false:=by simp;omega
    obtain⟨k,hk⟩:=F8 (body:=J0D F p) p.Stands (fun s=>decide (s.Accept.length<=40)&&decide (s.c0s.length<=300)&&s.c0s.all fun x=>decide (x.Moves.length<=1300)) (.inr ()) (fun _=>.inl ()) (fun i hi=>by
     have hm:=K4 hi;unfold J0D;simp only[dec_lt hi,Y3,hi,decide_true,if_true]
     by_cases g1:(gt p.Stands (i:Int)).Accept.length<=40
     ·have f1:decide (((gt p.Stands (i:Int)).Accept.length:Int)>40)=false:=by simp;omega
      by_cases g2:(gt p.Stands (i:Int)).c0s.length<=300
      ·have f2:decide (((gt p.Stands (i:Int)).c0s.length:Int)>300)=false:=by simp;omega
       obtain⟨k,hk⟩:=F8 (body:=I0W F p (i:Int)) (gt p.Stands (i:Int)).c0s (fun x=>decide (x.Moves.length<=1300)) (Sum.inr ()) (fun _=>Sum.inl ()) (fun j hj=>by
        unfold I0W;simp only[dec_lt hj,Y3,hj,decide_true,if_true]
        by_cases g4:(gt (gt p.Stands (i:Int)).c0s (j:Int)).Moves.length<=1300
        ·have f4:decide (((gt (gt p.Stands (i:Int)).c0s (j:Int)).Moves.length:Int)>1300)=false:=by simp;omega
         simp only[q0,f4,g4];rw[R2 (by omega)]
        ·have f4:decide (((gt (gt p.Stands (i:Int)).c0s (j:Int)).Moves.length:Int)>1300)=true:=by simp;omega
         simp[f4,g4]) (by unfold I0W;simp) (fu:=F) (by omega)
       simp only[q0,f1,f2,g1,g2,hk,Bool.true_and];cases(gt p.Stands (i:Int)).c0s.all fun x=>decide (x.Moves.length<=1300)
       ·simp
       ·simp only[if_true];rw[R2 (by omega)]
      ·have f2:decide (((gt p.Stands (i:Int)).c0s.length:Int)>300)=true:=by simp;omega
       simp[f1,f2,g2]
     ·have f1:decide (((gt p.Stands (i:Int)).Accept.length:Int)>40)=true:=by simp;omega
      simp[f1,g1]) (by unfold J0D;simp) (fu:=F) (by omega)
    simp only[q0,e1,e2,e3,h1,h2,h3,Bool.or_false,hk,Bool.true_and];cases p.Stands.all fun s=>decide (s.Accept.length<=40)&&decide (s.c0s.length<=300)&&s.c0s.all fun x=>decide (x.Moves.length<=1300)<;>rfl
   ·have e3:decide (p.Regs>600)=true:=by simp;omega
    simp[e1,e2,e3,h3]
  ·have e2:decide ((p.Class.length:Int)>300)=true:=by simp;omega
   simp[e1,e2,h2]
 ·have e1:decide ((p.Stands.length:Int)>60)=true:=by simp;omega
  simp[e1,h1]
