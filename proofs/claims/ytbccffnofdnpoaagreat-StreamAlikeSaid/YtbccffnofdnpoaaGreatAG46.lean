/- P. Its conditions: none. -/
import Derived.Test.YtbccffnofdnpoaaGreatAG45
import Derived.Test.YtbccffnofdnpoaaGreatAG43
import Derived.Test.YtbccffnofdnpoaaGreatAMd
import Derived.Test.YtbccffnofdnpoaaGreatAG24
open List (mem_map mem_cons all_eq_true take_zero map_id)
open Bool (false_eq_true and_eq_true)
set_option linter.all false
namespace Go.Proofs.YtbccffnofdnpoaaGreat
open Go.V Go.RowKit Old Go.X
def z0Y {α:Type}[Inhabited α]{v:List α}{y:α}(c:y∈v):∃m:Nat,m<v.length/\gt v (m:Int)=y:=by
 obtain⟨m,hm⟩:=List.getElem?_of_mem c;exact⟨m,(List.getElem?_eq_some_iff.1 hm).1,P2 hm⟩
def F0N {s:List Int}{v:Int}(h:v≠-2->v∈s):L4 s v=-2\/(0<=L4 s v/\L4 s v<(s.length:Int)):=by
 unfold L4;split
 ·exact .inl rfl
 ·rename_i hn;have:=List.idxOf_lt_length_of_mem (h hn);exact .inr ⟨O',O'⟩
def K05 (maps:List (List Int)):∀v∈R5 maps,∀y∈v,y=-2\/(0<=y/\y<((N4 maps).length:Int)):=by
 intro v d y g;unfold R5 at d;obtain⟨r,f,rfl⟩:=mem_map.1 d;obtain⟨x,h,rfl⟩:=mem_map.1 g;refine F0N fun c=>?_;unfold N4;exact p0J c _ _ (.inl (List.mem_flatten.2 ⟨r,f,h⟩))
section
variable {F:Nat}{l:List D0}{n:Nat}{a:List B0}{b:Nat->List B0}{e:Nat->B0×Bool}{z:B0×Bool}
def C0f (K:Y2 l n a b e z F)(hw:∀x∈l,V2 x){k:Kd}(C:C4 l n k.pl k.maps k.fB k.fD){R:Int}(he:∀v∈k.maps,∀y∈v,y=-2\/0<=y)(hR:∀v∈k.maps,∀y∈v,y<R)(b_:Int)(mode:Int):∀v∈N4 ((k.step l n a b b_).a7 e mode).maps,v=-1\/(0<=v/\v<R):=by
 have p:=C.len;have base:∀s,s<H4 k.pl (!(k.flag==0))->∀y∈gt (a0J l k.maps (!(k.flag==0))) (s:Int),y=-2\/y=-1\/(0<=y/\y<R):=by
  intro s hs y f;unfold a0J at f;unfold H4 at hs
  by_cases c:s<k.pl.length
  ·rw[b0l O' O']at f;have hm:=P4 (l:=k.maps) (i:=s) O';rcases he _ hm y f with h|h
   ·exact .inl h
   ·exact .inr (.inr ⟨h,hR _ hm y f⟩)
  ·cases g:(!(k.flag==0))with
   |false=>rw[g]at hs;simp at hs;omega
   |true=>
    rw[g]at hs f;simp only[if_true]at hs f;have e:s=k.pl.length:=O'
    subst e;rw[c0Z p.symm]at f;unfold B9 at f;rcases List.mem_or_eq_of_mem_set f with h|h
    ·exact .inl (List.eq_of_mem_replicate h)
    ·exact .inr (.inl h)
 have K0:∀v∈(k.step l n a b b_).maps,∀y∈v,y=-2\/y=-1\/(0<=y/\y<R):=by
  intro v d y f;obtain⟨r,t,rfl⟩:=mem_map.1 d;obtain⟨m,m1,m2⟩:=z0Y f;have hs:O2 a b k.pl k.fB k.fD (!(k.flag==0)) r<H4 k.pl (!(k.flag==0)):=by rw[<-b0d a b];exact c0F (b0W t).2
  unfold stM at m1 m2;rw[q9]at m1;rcases l0F (-1) (-2) m (L5 l (D4 a b k.pl k.fB k.fD (!(k.flag==0)) r).Steps) (gt (a0J l k.maps (!(k.flag==0))) (O2 a b k.pl k.fB k.fD (!(k.flag==0)) r:Int))with h|h|h
  ·rw[h]at m2;rw[<-m2];exact base _ hs _ (P4 m1)
  ·rw[h]at m2;exact .inr (.inl m2.symm)
  ·rw[h]at m2;exact .inl m2.symm
 have j:∀v∈((k.step l n a b b_).a7 e mode).maps,∀y∈v,y=-2\/y=-1\/(0<=y/\y<R):=by
  intro v d;unfold Kd.a7 at d;split at d
  ·unfold Kd.cut at d;split at d
   ·exact K0 v d
   ·obtain⟨i,hi,rfl⟩:=mem_map.1 d;exact K0 _ (P4 (by rw[(m0N K hw C b_).len];exact r0q hi))
  ·exact K0 v d
 intro v d;rcases t0u _ _ d with d|⟨d,hne⟩
 ·cases d
 ·obtain⟨row,o,q⟩:=List.mem_flatten.1 d;rcases j row o v q with h|h|h
  ·exact absurd h hne
  ·exact .inl h
  ·exact .inr h
structure KOk (F:Nat)(l:List D0)(n:Nat)(k:Kd)(R:Nat):Prop where
 C:C4 l n k.pl k.maps k.fB k.fD
 f0:0<=k.flag
 f2:k.flag<=2
 rt:d0k F l k.K=some true
 rg:d0s F k.K=some (R:Int)
 en:∀v∈k.maps,∀y∈v,y=-2\/(0<=y/\y<(R:Int))
 le:R<=n*19
def Kd.next (l:List D0)(n:Nat)(a:List B0)(b:Nat->List B0)(e:Nat->B0×Bool)(mode:Int)(k:Kd)(b_:Int):Kd:=((k.step l n a b b_).a7 e mode).num
def Kd.src (l:List D0)(n:Nat)(a:List B0)(b:Nat->List B0)(e:Nat->B0×Bool)(mode:Int)(k:Kd)(b_:Int):List Int:=N4 ((k.step l n a b b_).a7 e mode).maps
def w0x (K:Y2 l n a b e z F)(hw:∀x∈l,V2 x){k:Kd}{R:Nat}(h:KOk F l n k R){mode:Int}(hm:mode=0\/mode=1){b_:Int}(s:J4 .u8 b_):
  e0i F l mode k.K b_=some ((k.next l n a b e mode b_).K,k.src l n a b e mode b_)/\KOk F l n (k.next l n a b e mode b_) (k.src l n a b e mode b_).length/\∀v∈k.src l n a b e mode b_,v=-1\/(0<=v/\v<(R:Int)):=by
 have q:=m0N K hw h.C b_;have d:=s0d (e:=e) mode q;have f:(k.step l n a b b_).flag=if k.flag==1 then 1 else 0:=rfl;have c:0<=((k.step l n a b b_).a7 e mode).flag/\((k.step l n a b b_).a7 e mode).flag<=2:=by
  have g:0<=(k.step l n a b b_).flag/\(k.step l n a b b_).flag<=2:=by rw[f];split<;>omega
  unfold Kd.a7;split
  ·unfold Kd.cut;split
   ·exact g
   ·exact⟨Int.le_refl _,by show(0:Int)<=2;omega⟩
  ·exact g
 obtain⟨o,p⟩:=x0m K d c.1 c.2;refine⟨M06 K hw h.C h.rt hm s,⟨j0m d,c.1,c.2,o,p,K05 _,?_⟩,C0f K hw h.C (fun v j y i=>(h.en v j y i).imp id And.left) (fun v j y i=>by rcases h.en v j y i with h|h<;>omega) b_ mode⟩;have u:=k7 l;have w:=m0n ((k.step l n a b b_).a7 e mode).maps 19 (fun r m=>by have:=d.row r m;omega);have g:=n0t ((k.step l n a b b_).a7 e mode).maps.flatten [];have t:=d.len;have I:=d.le;have J:((k.step l n a b b_).a7 e mode).maps.length*19<=n*19:=Nat.mul_le_mul_right _ O';simp only[List.length_nil]at g;unfold Kd.src N4;omega
def Kd.zero (z:B0×Bool)(mode:Int):Kd:=⟨if mode=1\/z.2=true then 2 else 1,[],[],fun _ _=>0,fun _ _=>0⟩
def v0o (K:Y2 l n a b e z F)(hw:∀x∈l,V2 x){mode:Int}(hm:mode=0\/mode=1):f0n F l mode=some ((Kd.zero z mode).K,0)/\KOk F l n (Kd.zero z mode) 0:=by
 have f1:=K.f1;have g:=k7 l;constructor
 ·rcases hm with rfl|rfl
  ·rw[F0X K hw];unfold Kd.zero Kd.K;cases z.2<;>rfl
  ·unfold f0n f0O;rw[K.TF.mR];rfl
 ·have C:C4 l n (Kd.zero z mode).pl (Kd.zero z mode).maps (Kd.zero z mode).fB (Kd.zero z mode).fD:=r0A l n;have f0:0<=(Kd.zero z mode).flag:=by unfold Kd.zero;simp only;split<;>omega
  have f2:(Kd.zero z mode).flag<=2:=by unfold Kd.zero;simp only;split<;>omega
  obtain⟨d,c⟩:=x0m K C f0 f2;exact⟨C,f0,f2,d,c,fun v f=>(by cases(show v∈([]:List (List Int))from f)),Nat.zero_le _⟩
def z0T (K:Y2 l n a b e z F){k:Kd}{R:Nat}(h:KOk F l n k R):d0J F l k.K=some (L7 l e z k)/\((L7 l e z k).length=0\/(L7 l e z k).length=(Z2 l).toNat)/\∀v∈L7 l e z k,v=-2\/v=-1\/(0<=v/\v<(R:Int)):=by
 refine⟨J06 K h.C h.rt,?_⟩;have d:∀(row:List Int) (ms:List R3),(∀y∈row,y=-2\/y=-1\/(0<=y/\y<(R:Int)))->∀y∈Y3 (-1) (-2) row ms,y=-2\/y=-1\/(0<=y/\y<(R:Int)):=by
  intro row ms g y c;obtain⟨m,m1,m2⟩:=z0Y c;rw[q9]at m1;rcases l0F (-1) (-2) m ms row with q|q|q
  ·rw[q]at m2;rw[<-m2];exact g _ (P4 m1)
  ·rw[q]at m2;exact .inr (.inl m2.symm)
  ·rw[q]at m2;exact .inl m2.symm
 unfold L7;rcases e0w (fD:=k.fD) (B5 e k.pl k.pl.length) (n:=k.pl.length) (fun i h=>c0c h)with hb|⟨q,hb,hq⟩
 ·rw[hb,if_pos O'];split
  ·refine⟨.inr (by rw[q9,n09]),d _ _ fun y c=>?_⟩;unfold B9 at c;rcases List.mem_or_eq_of_mem_set c with h|h
   ·exact .inl (List.eq_of_mem_replicate h)
   ·exact .inr (.inl h)
  ·exact⟨.inl rfl,fun v f=>by cases f⟩
 ·rw[hb,if_neg O'];have hm:=P4 (l:=k.maps) (i:=q) (by rw[h.C.len];exact hq);refine⟨.inr (by rw[q9];exact h.C.row _ hm),d _ _ fun y c=>?_⟩;rcases h.en _ hm y c with h|h
  ·exact .inl h
  ·exact .inr (.inr h)
end
section
variable {F:Nat}{l:List D0}{n:Nat}{a:List B0}{b:Nat->List B0}{e:Nat->B0×Bool}{z:B0×Bool}
def O00 {h1 c:Nat->Bool}{Ws:List (List B0)}{k:Nat}(h:∀r,r<k->h1 r=c r):K4 h1 Ws k=K4 c Ws k:=by
 unfold K4;refine List.filter_congr fun r d=>?_;rw[h r (List.mem_range.1 d)]
def M0u {x y:Int}(h:∀r,r<n->X1 l x r=X1 l y r)(k:Kd):k.step l n a b x=k.step l n a b y:=by
 have:∀y0,Q1 l n a b k.pl x y0=Q1 l n a b k.pl y y0:=fun y0=>O00 h;unfold Kd.step;rw[this]
def E0T {x y:Int}(h:∀r,r<n->X1 l x r=X1 l y r)(mode:Int)(k:Kd):k.next l n a b e mode x=k.next l n a b e mode y/\k.src l n a b e mode x=k.src l n a b e mode y:=by
 unfold Kd.next Kd.src;rw[M0u h];exact⟨rfl,rfl⟩
end
end Go.Proofs.YtbccffnofdnpoaaGreat
namespace Go.Proofs.YtbccffnofdnpoaaGreat
open Go.V Go.RowKit Go.X
def b0i {S ρ:Type}{body:S->Option (X0 S ρ)}(n:Nat)(g:Nat->S)(res:ρ)(hs:∀i,i<n->body (g i)=some (.next (g (i+1))))(he:body (g n)=some (.done res)){fu:Nat}(h:n<fu):iter body fu (g 0)=some res:=by
 have key:∀(k i fu:Nat),i+k=n->k<fu->iter body fu (g i)=some res:=by
  intro k
  induction k with
  |zero=>
   intro i fu hi c;obtain⟨fu,rfl⟩:∃m,fu=m+1:=⟨fu-1,O'⟩
   unfold iter;rw[show i=n from O',he]
  |succ k ih=>
   intro i fu hi c;obtain⟨fu,rfl⟩:∃m,fu=m+1:=⟨fu-1,O'⟩
   unfold iter;rw[hs i O'];exact ih (i+1) fu O' O'
 exact key n 0 fu O' h
def c0S {α ρ:Type}[Inhabited α](l:List α)(p:α->Bool)(good:ρ)(bad:Nat->ρ){body:Int->Option (X0 Int ρ)}
  (hs:∀i:Nat,i<l.length->body (i:Int)=some (if p (gt l (i:Int))then .next ((i+1:Nat):Int)else .done (bad i))) (he:body (l.length:Int)=some (.done good)) {fu:Nat} (h:l.length<fu):
  ∃k,iter body fu 0=some (if l.all p then good else bad k):=by
 have key:∀(k i fu:Nat),i+k=l.length->k<fu->∃j,iter body fu (i:Int)=some (if(l.drop i).all p then good else bad j):=by
  intro k
  induction k with
  |zero=>
   intro i fu hi d;obtain⟨fu,rfl⟩:∃m,fu=m+1:=⟨fu-1,O'⟩
   refine⟨0,?_⟩;unfold iter;rw[show i=l.length from O',he];simp
  |succ k ih=>
   intro i fu hi d;obtain⟨fu,rfl⟩:∃m,fu=m+1:=⟨fu-1,O'⟩
   obtain⟨j,f⟩:=ih (i+1) fu O' O';have c:i<l.length:=O'
   have hd:l.drop i=gt l (i:Int) :: l.drop (i+1):=by
    rw[List.drop_eq_getElem_cons c,P2 (x:=l[i]) (by simp[c])]
   unfold iter;rw[hs i c,hd]
   by_cases hp:p (gt l (i:Int))=true
   ·rw[if_pos hp];exact⟨j,by simp only[f,List.all_cons,hp,Bool.true_and]⟩
   ·have hp:p (gt l (i:Int))=false:=by simpa using hp
    refine⟨i,?_⟩;simp only[hp,List.all_cons,Bool.false_and,false_eq_true,if_false]
 exact key l.length 0 fu O' h
def a08 {α:Type}[Inhabited α]{l:List α}{i:Nat}(h:i<l.length):gt l (i:Int)∈l:=by
 rw[P2 (x:=l[i]) (by simp[h])];exact List.getElem_mem h
def B8 {α:Type}[Inhabited α]{l:List α}{i:Int}(c:0<=i)(h:i<(l.length:Int)):gt l i∈l:=by
 obtain⟨n,rfl⟩:∃n:Nat,i=n:=⟨i.toNat,O'⟩
 exact a08 O'
def dec_lt {a b:Nat}(h:a<b):decide ((a:Int)<(b:Int))=true:=by simp;omega
def p0M {α β:Type}[Inhabited α](f:α->β)(l:List α){i:Nat}(h:i<l.length):(l.take (i+1)).map f=(l.take i).map f++[f (gt l (i:Int))]:=by
 have:l[i]?=some (gt l (i:Int)):=by rw[P2 (x:=l[i]) (by simp[h])];simp[h]
 rw[List.take_succ,this,List.map_append];rfl
def okN (n regs:Int):Bool:=n==-1||(decide (0<=n)&&decide (n<regs))
def b0e (s:j7)(tags:Int):Bool:=(s.Accept.length:Int)==0||((s.Accept.length:Int)==tags&&s.Accept.all fun n=>n==-2||okN n s.Regs)
def b0x (d:E4)(regs:Int)(x:I6):Bool:=
 if x.To=-1 then(x.Src.length:Int)==0 else decide (0<=x.To)&&decide (x.To<(d.States.length:Int))&&(x.Src.length:Int)==(gt d.States x.To).Regs&&x.Src.all fun n=>okN n regs
def a0r (d:E4)(k:Nat)(s:j7):Bool:=decide (0<=s.Regs)&&decide (s.Regs<=1216)&&(s.Edges.length:Int)==(k:Int)&&b0e s d.Tags&&s.Edges.all (b0x d s.Regs)
def E7:List Int->Int->Option Int
 |[],n=>some n
 |c :: r,n=>if c<0\/n<c then none else E7 r (if c=n then n+1 else n)
def I9 (c:List Int):Bool:=(E7 c 0).isSome&&(c.length:Int)==256
def b8:List Int->Nat->List Int->List Int
 |[],_,out=>out
 |c :: r,b,out=>b8 r (b+1) (if c=(out.length:Int)then out++[IntKind.u8.wrap (b:Int)]else out)
def O0 (c:List Int):List Int:=b8 c 0 []
def d0j (d:E4):Bool:=
 decide (1<=d.Tags)&&decide (d.Tags<=19)&&!(d.Tags.tmod 2==0)&&!((d.States.length:Int)==0)&&decide ((d.States.length:Int)<=400)&&I9 d.Class&&d.States.all (a0r d (O0 d.Class).length)&&(gt d.States 0).Regs==0
structure Sm (d:E4):Prop where
 st:d.States.length<=100
 cl:d.Class.length<=300
 ac:∀s∈d.States,s.Accept.length<=40
 ed:∀s∈d.States,s.Edges.length<=300
 rg:∀s∈d.States,s.Regs<=400
 sr:∀s∈d.States,∀x∈s.Edges,x.Src.length<=400
variable {F:Nat}
def x0e (n regs:Int):i0Y F n regs=some (okN n regs):=by
 unfold i0Y okN
 by_cases h:n=-1
 ·subst h;rfl
 ·have:(n==-1)=false:=by simpa using h
  rw[this]
  by_cases c:0<=n
  ·have:decide (n>=0)=true:=by simpa using c
   simp[this,c]
  ·have:decide (n>=0)=false:=by simpa using c
   simp[this,c]
def D0H (s:j7)(tags:Int)(hl:s.Accept.length<=1000)(g:2000<F):m0j F s tags=some (b0e s tags):=by
 unfold m0j b0e;cases f:(s.Accept.length:Int)==0
 ·cases h1:(s.Accept.length:Int)==tags
  ·simp
  ·obtain⟨k,hk⟩:=c0S (body:=o0w F s) s.Accept (fun n=>n==-2||okN n s.Regs) (.inr ()) (fun i=>.inl (i:Int)) (fun i hi=>by
    unfold o0w;simp only[dec_lt hi,Q4,hi,decide_true,if_true];cases c:gt s.Accept (i:Int)==-2
    ·have:(gt s.Accept (i:Int) != -2)=true:=by simp[bne,c]
     simp only[this,if_true,x0e,F0,Bool.false_or];cases okN (gt s.Accept (i:Int)) s.Regs
     ·simp
     ·simp only[q0];rw[Go.V.K2 O']
    ·have:(gt s.Accept (i:Int) != -2)=false:=by simp[bne,c]
     simp only[q0,this,Bool.true_or];rw[Go.V.K2 O']) (by
    unfold o0w;simp) (fu:=F) O'
   simp only[q0,hk,Bool.false_or,Bool.true_and];cases d:s.Accept.all fun n=>n==-2||okN n s.Regs
   ·simp
   ·simp
 ·simp
def H0J (d:E4)(s:j7)(x:I6)(hl:x.Src.length<=1000)(o:2000<F):n0K F d s x=some (b0x d s.Regs x):=by
 unfold n0K b0x
 by_cases h:x.To=-1
 ·simp[h]
 ·have e:(x.To==-1)=false:=by simpa using h
  simp only[e,false_eq_true,if_false,h]
  by_cases h1:0<=x.To
  ·have f:decide (x.To>=0)=true:=by simpa using h1
   by_cases g:x.To<(d.States.length:Int)
   ·have c:C0 d.States x.To=true:=R0 h1 g;cases j:(x.Src.length:Int)==(gt d.States x.To).Regs
    ·simp[f,g,c,j]
    ·obtain⟨k,hk⟩:=c0S (body:=m0X F s x) x.Src (fun n=>okN n s.Regs) (.inr ()) (fun i=>.inl (i:Int)) (fun i hi=>by
      unfold m0X;simp only[q0,dec_lt hi,Q4,hi,x0e];cases okN (gt x.Src (i:Int)) s.Regs
      ·simp
      ·simp only[q0];rw[Go.V.K2 O']) (by
      unfold m0X;simp) (fu:=F) O'
     simp only[q0,f,h1,g,c,j,hk,Bool.true_and];cases m:x.Src.all fun n=>okN n s.Regs<;>simp
   ·simp[f,g]
  ·have f:decide (x.To>=0)=false:=by simpa using h1
   simp[f,h1]
end Go.Proofs.YtbccffnofdnpoaaGreat
namespace Go.Proofs.YtbccffnofdnpoaaGreat
open Go.V Go.RowKit Go.X
variable {F:Nat}
def r0M:∀{l:List Int} {n m:Int},E7 l n=some m->n<=m/\m<=n+l.length/\∀c∈l,0<=c/\c<m
 |[],n,m,h=>by cases h;exact⟨Int.le_refl _,V',V'⟩
 |c :: r,n,m,h=>by
  unfold E7 at h;split at h
  ·cases h
  ·rename_i i;obtain⟨h1,g,f⟩:=r0M h
   by_cases e:c=n
   ·rw[if_pos e]at h1 g;refine⟨O',Z',fun x d=>?_⟩;rcases mem_cons.1 d with rfl|d
    ·omega
    ·exact f x d
   ·rw[if_neg e]at h1 g;refine⟨h1,Z',fun x d=>?_⟩;rcases mem_cons.1 d with rfl|d
    ·omega
    ·exact f x d
def o0j {α:Type}[Inhabited α]{l:List α}{i:Nat}(h:i<l.length):l.drop i=gt l (i:Int) :: l.drop (i+1):=by
 rw[List.drop_eq_getElem_cons h,P2 (x:=l[i]) (by simp[h])]
def z0M {n:Int}(h1:0<=n)(c:n<=1000000):W n=n:=J3 O' O'
def H0a {body:Int×Int->Option (X0 (Int×Int) (Unit⊕Unit))}(l:List Int)(hl:l.length<=1000)
  (hs:∀(i:Nat) (n:Int),i<l.length->0<=n->n<=i->body (n,(i:Int))=some (if gt l (i:Int)<0\/n<gt l (i:Int)then .done (.inl ())else .next ((if gt l (i:Int)=n then n+1 else n),((i+1:Nat):Int))))
  (he:∀n,body (n,(l.length:Int))=some (.done (.inr ()))) (g:2000<F):iter body F (0,0)=some (if(E7 l 0).isSome then .inr ()else .inl ()):=by
 have key:∀(k i fu:Nat) (n:Int),i+k=l.length->k<fu->0<=n->n<=i->iter body fu (n,(i:Int))=some (if(E7 (l.drop i) n).isSome then .inr ()else .inl ()):=by
  intro k
  induction k with
  |zero=>
   intro i fu n hi c _ _;obtain⟨fu,rfl⟩:∃m,fu=m+1:=⟨fu-1,O'⟩
   obtain rfl:i=l.length:=O'
   unfold iter;rw[he,List.drop_length];rfl
  |succ k ih=>
   intro i fu n hi c f hn;obtain⟨fu,rfl⟩:∃m,fu=m+1:=⟨fu-1,O'⟩
   unfold iter;rw[hs i n O' f hn,o0j (show i<l.length from O')];unfold E7
   by_cases d:gt l (i:Int)<0\/n<gt l (i:Int)
   ·simp only[if_pos d];rfl
   ·simp only[if_neg d]
    by_cases e:gt l (i:Int)=n
    ·simp only[if_pos e];exact ih (i+1) fu (n+1) O' O' O' O'
    ·simp only[if_neg e];exact ih (i+1) fu n O' O' O' O'
 exact key l.length 0 F 0 O' O' O' O'
def r00 (c:List Int)(hl:c.length<=1000)(f:2000<F):g0h F c=some (I9 c):=by
 unfold g0h;rw[H0a c hl (fun i n hi o hn=>by
  unfold s0c;simp only[dec_lt hi,Q4,hi,decide_true,if_true]
  by_cases h1:gt c (i:Int)<0
  ·simp[h1]
  ·by_cases d:n<gt c (i:Int)
   ·have:decide (gt c (i:Int)>n)=true:=by simp;omega
    simp[h1,d,this]
   ·have j:decide (gt c (i:Int)>n)=false:=by simp;omega
    have g:decide (gt c (i:Int)<0)=false:=by simp;omega
    have m:W (gt c (i:Int)+1)=gt c (i:Int)+1:=z0M O' O';have k:W ((i:Int)+1)=((i+1:Nat):Int):=Go.V.K2 O';simp only[q0,j,g,m,k,h1,d,or_self]
    by_cases e:gt c (i:Int)=n
    ·simp[e];intro h;omega
    ·have:¬(gt c (i:Int)+1>n):=O'
     simp[e,this]) (fun n=>by unfold s0c;simp) f]
 unfold I9;cases(E7 c 0).isSome<;>simp
def K0w {body:List Int×Int->Option (X0 (List Int×Int) (List Int))}(l:List Int)(hl:l.length<=1000)
  (hs:∀(i:Nat) (o:List Int),i<l.length->o.length<=i->body (o,(i:Int))=some (.next ((if gt l (i:Int)=(o.length:Int)then o++[IntKind.u8.wrap (i:Int)]else o),((i+1:Nat):Int))))
  (he:∀o,body (o,(l.length:Int))=some (.done o)) (f:2000<F):iter body F ([],0)=some (O0 l):=by
 have key:∀(k i fu:Nat) (o:List Int),i+k=l.length->k<fu->o.length<=i->iter body fu (o,(i:Int))=some (b8 (l.drop i) i o):=by
  intro k
  induction k with
  |zero=>
   intro i fu o hi c _;obtain⟨fu,rfl⟩:∃m,fu=m+1:=⟨fu-1,O'⟩
   obtain rfl:i=l.length:=O'
   unfold iter;rw[he,List.drop_length];rfl
  |succ k ih=>
   intro i fu o hi c d;obtain⟨fu,rfl⟩:∃m,fu=m+1:=⟨fu-1,O'⟩
   unfold iter;rw[hs i o O' d,o0j (show i<l.length from O')];unfold b8;exact ih (i+1) fu _ O' O' (by
    split
    ·simp;omega
    ·omega)
 exact key l.length 0 F [] O' O' V'
def p0l (c:List Int)(hl:c.length<=1000)(d:2000<F):f0J F c=some (if I9 c then O0 c else[]):=by
 unfold f0J;rw[r00 c hl d];cases I9 c
 ·simp
 ·simp only[q0];rw[K0w c hl (fun i o hi f=>by
   unfold q0Q;have ha:J0 1 o [IntKind.u8.wrap (i:Int)]=true:=W4 Z';simp only[dec_lt hi,Q4,hi,decide_true,if_true,ha];rw[Go.V.K2 O']
   by_cases e:gt c (i:Int)=(o.length:Int)
   ·simp[e]
   ·have:(gt c (i:Int)==(o.length:Int))=false:=by simpa using e
    simp[e,this]) (fun o=>by unfold q0Q;simp) d]
  rfl
def z0s:∀{l:List Int} {n m:Int} {b:Nat} {o:List Int},E7 l n=some m->(o.length:Int)=n->((b8 l b o).length:Int)=m
 |[],n,m,b,o,h,d=>by cases h;exact d
 |c :: r,n,m,b,o,h,d=>by
  unfold E7 at h;split at h
  ·cases h
  ·unfold b8;refine z0s h ?_;rw[d];split<;>simp[d]
def E03 {c:List Int}(h:I9 c=true):∃m:Nat,E7 c 0=some (m:Int)/\(O0 c).length=m/\m<=256/\c.length=256:=by
 unfold I9 at h;simp only[and_eq_true]at h;obtain⟨h1,d⟩:=h;obtain⟨m,hm⟩:=Option.isSome_iff_exists.1 h1;have d:c.length=256:=by simp at d;omega
 obtain⟨f,g,_⟩:=r0M hm;have hl:=z0s (b:=0) (o:=[]) hm V';refine⟨m.toNat,by rw[hm];congr 1;omega,?_,O',d⟩;unfold O0;omega
end Go.Proofs.YtbccffnofdnpoaaGreat
namespace Go.Proofs.YtbccffnofdnpoaaGreat.Pr
open Go.V Go.RowKit Go.X
variable {F:Nat}
def or_some (a b:Bool):(if a=true then some true else some b)=some (a||b):=by cases a<;>rfl
def n0u (a b:Bool):(if a=true then some b else some false)=some (a&&b):=by cases a<;>rfl
def e0x (R:Int)(m:P1):Bool:=decide (0<=m.To)&&decide (m.To<R)&&decide (-1<=m.From)&&decide (m.From<R)&&!(m.From==m.To)
def g0B (p:N1)(x:I5):Bool:=decide (-1<=x.To)&&decide (x.To<(p.Stands.length:Int))&&(!(x.To==-1)||!(decide ((x.Moves.length:Int)>0)))&&decide ((x.Moves.length:Int)<=2*p.Regs)
def c0g (p:N1)(x:I5):Bool:=g0B p x&&x.Moves.all (e0x p.Regs)
def c0z (R:Int)(n:Int):Bool:=decide (-2<=n)&&decide (n<R)
def b0e (p:N1)(s:U6):Bool:=((s.Accept.length:Int)==0||(s.Accept.length:Int)==p.Tags)&&s.Accept.all (c0z p.Regs)
def a0r (p:N1)(k:Nat)(s:U6):Bool:=b0e p s&&(s.B2.length:Int)==(k:Int)&&s.B2.all (c0g p)
def e0n (p:N1):Bool:=decide (1<=p.Tags)&&decide (p.Tags<=19)&&!(p.Tags.tmod 2==0)&&decide (1<=p.Regs)&&decide (p.Regs<=1217)&&!((p.Stands.length:Int)==0)&&decide ((p.Stands.length:Int)<=400)&&I9 p.Class
def d03 (p:N1):Bool:=e0n p&&p.Stands.all (a0r p (O0 p.Class).length)
structure Sm (p:N1):Prop where
 st:p.Stands.length<=60
 cl:p.Class.length<=300
 rg:p.Regs<=600
 ac:∀s∈p.Stands,s.Accept.length<=40
 wy:∀s∈p.Stands,s.B2.length<=300
 mv:∀s∈p.Stands,∀x∈s.B2,x.Moves.length<=1300
def L01 (R:Int)(m:P1):(((decide (m.To<0)||decide (m.To>=R))||decide (m.From < -1))||decide (m.From>=R)||(m.From==m.To))=!e0x R m:=by
 unfold e0x;rw[Bool.eq_iff_iff];simp
 try omega
def K0O (p:N1)(x:I5):(((decide (x.To < -1)||decide (x.To>=(p.Stands.length:Int)))||((x.To==-1)&&decide ((x.Moves.length:Int)>0)))||decide ((x.Moves.length:Int)>2*p.Regs))=!g0B p x:=by
 unfold g0B;cases h1:x.To==-1<;>cases c:decide ((x.Moves.length:Int)>0)<;>rw[Bool.eq_iff_iff]<;>simp<;>omega
def I0C (p:N1)(x:I5)(c:0<=p.Regs)(h1:p.Regs<=1217)(hl:x.Moves.length<=1300)(d:2000<F):l0N F p x=some (c0g p x):=by
 unfold l0N;obtain⟨k,hk⟩:=c0S (body:=l0d F p x) x.Moves (e0x p.Regs) (.inr ()) (fun i=>.inl (i:Int)) (fun i hi=>by
  unfold l0d;have e:=L01 p.Regs (gt x.Moves (i:Int));simp only[q0,dec_lt hi,Q4,hi,or_some,e];cases e0x p.Regs (gt x.Moves (i:Int))
  ·simp
  ·simp only[q0];rw[K2 O']) (by unfold l0d;simp) (fu:=F) O'
 have e:=K0O p x;rw[z0M (show 0<=2*p.Regs from O') O'];simp only[or_some,n0u,F0,e,hk];unfold c0g;cases g0B p x<;>cases x.Moves.all (e0x p.Regs)<;>simp
def K0B (R n:Int):(decide (n < -2)||decide (n>=R))=!c0z R n:=by
 unfold c0z;rw[Bool.eq_iff_iff];simp;try omega
def N0P (p:N1)(hd:Sm p)(i:Nat)(hi:i<p.Stands.length)(d:2000<F):∃k:Nat,iter (j0r F p (i:Int)) F 0=some (if(gt p.Stands (i:Int)).Accept.all (c0z p.Regs)then .inr ()else .inl (k:Int)):=by
 have hm:=a08 hi;exact c0S (body:=j0r F p (i:Int)) (gt p.Stands (i:Int)).Accept (c0z p.Regs) (.inr ()) (fun i=>.inl (i:Int)) (fun j c=>by
  unfold j0r;have e:=K0B p.Regs (gt (gt p.Stands (i:Int)).Accept (j:Int));simp only[q0,dec_lt c,Q4,c,or_some,e];cases c0z p.Regs (gt (gt p.Stands (i:Int)).Accept (j:Int))
  ·simp
  ·simp only[q0];rw[K2 (by have:=hd.ac _ hm;omega)]) (by unfold j0r;simp) (fu:=F) (by have:=hd.ac _ hm;omega)
def N0Y (p:N1)(hd:Sm p)(d:0<=p.Regs)(i:Nat)(hi:i<p.Stands.length)(f:2000<F):∃k:Nat,iter (i0p F p (i:Int)) F 0=some (if(gt p.Stands (i:Int)).B2.all (c0g p)then .inr ()else .inl (k:Int)):=by
 have hm:=a08 hi;exact c0S (body:=i0p F p (i:Int)) (gt p.Stands (i:Int)).B2 (c0g p) (.inr ()) (fun i=>.inl (i:Int)) (fun j c=>by
  unfold i0p;have e:=I0C (F:=F) p (gt (gt p.Stands (i:Int)).B2 (j:Int)) d (by have:=hd.rg;omega) (hd.mv _ hm _ (a08 c)) f;simp only[q0,dec_lt c,Q4,c,e];cases c0g p (gt (gt p.Stands (i:Int)).B2 (j:Int))
  ·simp
  ·simp only[q0];rw[K2 (by have:=hd.wy _ hm;omega)]) (by unfold i0p;simp) (fu:=F) (by have:=hd.wy _ hm;omega)
def head_eq (p:N1):(((((((decide (p.Tags<1)||decide (p.Tags>19))||(p.Tags.tmod 2==0))||decide (p.Regs<1))||decide (p.Regs>1217))||((p.Stands.length:Int)==0))||decide ((p.Stands.length:Int)>400))||!I9 p.Class)=!e0n p:=by
 unfold e0n;cases h1:p.Tags.tmod 2==0<;>cases c:I9 p.Class<;>rw[Bool.eq_iff_iff]<;>simp<;>omega
def B0e (p:N1)(hd:Sm p)(d:2000<F):j0A F p=some (d03 p):=by
 have m:=hd.cl;have e:=head_eq p;unfold j0A;simp only[or_some,F0,r00 p.Class O' d,e];unfold d03;cases c:e0n p with
 |false=>simp
 |true=>
  have j:I9 p.Class=true:=by unfold e0n at c;simp only[and_eq_true]at c;exact c.2
  have h:0<=p.Regs:=by unfold e0n at c;simp only[and_eq_true,decide_eq_true_eq]at c;omega
  obtain⟨k,hk⟩:=c0S (body:=k0X F p (O0 p.Class)) p.Stands (a0r p (O0 p.Class).length) (.inr ()) (fun _=>.inl ()) (fun i hi=>by
   obtain⟨o,f⟩:=N0P (F:=F) p hd i hi d;obtain⟨k2,g⟩:=N0Y (F:=F) p hd h i hi d;unfold k0X a0r b0e;have hw:=Go.V.K2 (show i<9223372036854775807 by have:=hd.st;omega);simp only[q0,dec_lt hi,Q4,hi,f,g,hw,bne];cases(gt p.Stands (i:Int)).Accept.all (c0z p.Regs)<;>cases(gt p.Stands (i:Int)).B2.all (c0g p)<;>cases((gt p.Stands (i:Int)).Accept.length:Int)==0<;>cases((gt p.Stands (i:Int)).Accept.length:Int)==p.Tags<;>cases((gt p.Stands (i:Int)).B2.length:Int)==((O0 p.Class).length:Int)<;>simp) (by
   unfold k0X;simp) (fu:=F) (by have:=hd.st;omega)
  simp only[q0,p0l p.Class O' d,j,hk];cases p.Stands.all (a0r p (O0 p.Class).length)<;>simp
end Go.Proofs.YtbccffnofdnpoaaGreat.Pr
namespace Go.Proofs.YtbccffnofdnpoaaGreat.Pr
open Go.V Go.RowKit Go.X
variable {F:Nat}
def a0s (at_:Int)(regs:List Int)(n:Int):Int:=if n=-1 then at_ else if n=-2 then -1 else gt regs n
def Y3 (at_:Int)(regs:List Int)(l:List P1):List Int:=l.foldl (fun y m=>y.set m.To.toNat (a0s at_ y m.From)) regs
def q9 (at_:Int):∀(l:List P1) (regs:List Int),(Y3 at_ regs l).length=regs.length
 |[],_=>rfl
 |m :: r,regs=>by
  show(Y3 at_ (regs.set m.To.toNat (a0s at_ regs m.From)) r).length=_;rw[q9 at_ r];simp
def B0G (at_:Int)(l:List P1)(regs:List Int){i:Nat}(h:i<l.length):
  Y3 at_ regs (l.take (i+1))=(Y3 at_ regs (l.take i)).set (gt l (i:Int)).To.toNat (a0s at_ (Y3 at_ regs (l.take i)) (gt l (i:Int)).From):=by
 have:l[i]?=some (gt l (i:Int)):=by rw[P2 (x:=l[i]) (by simp[h])];simp[h]
 unfold Y3;rw[List.take_succ,this,List.foldl_append];rfl
structure RS where
 tags:List Int
 to:Int
 at_:Int
 stand:Int
 work:Int
 regs:List Int
def A0L (k:Int)(l:List Int):Prop:=∀n∈l,n=-1\/n=-2\/0<=n/\n<k
structure Rd (p:N1):Prop where
 sm:Sm p
 r0:1<=p.Regs
 pos:0<p.Stands.length
 cl:p.Class.length=256
 ac:∀s∈p.Stands,A0L p.Regs s.Accept
 wy:∀s∈p.Stands,∀c∈p.Class,0<=c/\c<(s.B2.length:Int)
 to:∀s∈p.Stands,∀x∈s.B2,-1<=x.To/\x.To<(p.Stands.length:Int)
 ln:∀s∈p.Stands,∀x∈s.B2,(x.Moves.length:Int)<=2*p.Regs
 mv:∀s∈p.Stands,∀x∈s.B2,∀m∈x.Moves,0<=m.To/\m.To<p.Regs/\-1<=m.From/\m.From<p.Regs
def n05 {p:N1}(hs:Sm p)(h:d03 p=true):Rd p:=by
 unfold d03 e0n at h;simp only[and_eq_true,decide_eq_true_eq,Bool.not_eq_true',all_eq_true]at h;obtain⟨⟨⟨⟨⟨⟨⟨⟨h1,w⟩,v⟩,r⟩,y⟩,k⟩,C⟩,u⟩,q⟩:=h;obtain⟨m,hm,hl,o,i⟩:=E03 u;obtain⟨_,_,j⟩:=r0M hm;have g:∀s∈p.Stands,(∀n∈s.Accept,c0z p.Regs n=true)/\s.B2.length=m/\∀x∈s.B2,c0g p x=true:=by
  intro s hs;have:=q s hs;unfold a0r b0e at this;simp only[and_eq_true,all_eq_true,beq_iff_eq]at this;exact⟨this.1.1.2,by have:=this.1.2;omega,this.2⟩
 have d:∀s∈p.Stands,∀x∈s.B2,(-1<=x.To/\x.To<(p.Stands.length:Int))/\(x.Moves.length:Int)<=2*p.Regs/\∀m∈x.Moves,0<=m.To/\m.To<p.Regs/\-1<=m.From/\m.From<p.Regs:=by
  intro s hs x f;have:=(g s hs).2.2 x f;unfold c0g g0B at this;simp only[and_eq_true,decide_eq_true_eq,all_eq_true]at this;refine⟨⟨this.1.1.1.1,this.1.1.1.2⟩,this.1.2,fun m hm=>?_⟩;have:=this.2 m hm;unfold e0x at this;simp only[and_eq_true,decide_eq_true_eq]at this;exact⟨this.1.1.1.1,this.1.1.1.2,this.1.1.2,this.1.2⟩
 refine⟨hs,r,?_,i,fun s hs n hn=>?_,fun s hs c t=>?_,fun s hs x f=>(d s hs x f).1,fun s hs x f=>(d s hs x f).2.1,fun s hs x f=>(d s hs x f).2.2⟩
 ·simp at k;exact List.length_pos_iff.2 k
 ·have:=(g s hs).1 n hn;unfold c0z at this;simp only[and_eq_true,decide_eq_true_eq]at this;omega
 ·rw[(g s hs).2.1];exact j c t
def c0M (p:N1)(s:RS):RS:=if 0<=s.stand/\(gt p.Stands s.stand).Accept≠[]then { s with tags:=(gt p.Stands s.stand).Accept.map (a0s s.at_ s.regs),to:=s.at_ } else s
def K6 (p:N1)(s:RS)(b:Int):I5:=gt (gt p.Stands s.stand).B2 (gt p.Class b)
def goS (p:N1)(s:RS)(b:Int):RS:=
 if 0<=s.stand then { s with at_:=s.at_+1,stand:=(K6 p s b).To,work:=s.work+1+((K6 p s b).Moves.length:Int),regs:=Y3 s.at_ s.regs (K6 p s b).Moves } else { s with at_:=s.at_+1,work:=s.work+1 }
def d04 (p:N1)(s:RS)(b:Int):RS:=c0M p (goS p s b)
def d0V (p:N1):RS:=c0M p ⟨[],0,0,0,0,List.replicate p.Regs.toNat 0⟩
def T5 (p:N1)(s:RS):V4×N1×Int×Int×Int×List Int:=(⟨s.tags,s.to⟩,p,s.at_,s.stand,s.work,s.regs)
structure RI (p:N1)(s:RS)(i:Nat):Prop where
 a0:s.at_=(i:Int)
 st:-1<=s.stand/\s.stand<(p.Stands.length:Int)
 rl:(s.regs.length:Int)=p.Regs
 w0:0<=s.work
 wk:s.work<=(i:Int)*(1+2*p.Regs)
 tl:s.tags.length<=40
def u06 {p:N1}(h:Rd p){s:RS}{i:Nat}(c:RI p s i):RI p (c0M p s) i:=by
 unfold c0M;split
 ·rename_i d;refine⟨c.a0,c.st,c.rl,c.w0,c.wk,?_⟩;show(List.map _ _).length<=40;rw[List.length_map];exact h.sm.ac _ (B8 d.1 c.st.2)
 ·exact c
def w0W {p:N1}(h:Rd p){s:RS}{i:Nat}(j:RI p s i){b:Int}(g:0<=b/\b<256)(h1:0<=s.stand):
  C0 p.Class b=true/\C0 (gt p.Stands s.stand).B2 (gt p.Class b)=true/\gt p.Stands s.stand∈p.Stands/\K6 p s b∈(gt p.Stands s.stand).B2:=by
 have hm:=B8 h1 j.st.2;have c:b<(p.Class.length:Int):=by rw[h.cl];omega
 obtain⟨f,d⟩:=h.wy _ hm _ (B8 g.1 c);exact⟨R0 g.1 c,R0 f d,hm,B8 f d⟩
def mul_succ (i:Nat)(K:Int):((i+1:Nat):Int)*K=(i:Int)*K+K:=by
 rw[show((i+1:Nat):Int)=(i:Int)+1 from rfl,Int.add_mul,Int.one_mul]
def x07 {p:N1}(h:Rd p){s:RS}{i:Nat}(c:RI p s i){b:Int}(j:0<=b/\b<256):RI p (goS p s b) (i+1):=by
 have hw:=c.wk;have f:=c.w0;have ha:=c.a0;have m:=h.r0;have k:=mul_succ i (1+2*p.Regs);unfold goS
 by_cases h1:0<=s.stand
 ·obtain⟨_,_,hm,d⟩:=w0W h c j h1;have g:=h.ln _ hm _ d;rw[if_pos h1];refine⟨by show s.at_+1=_;omega,h.to _ hm _ d,?_,?_,?_,c.tl⟩
  ·show((Y3 _ _ _).length:Int)=_;rw[q9];exact c.rl
  ·show 0<=s.work+1+((K6 p s b).Moves.length:Int);omega
  ·show s.work+1+((K6 p s b).Moves.length:Int)<=_;omega
 ·rw[if_neg h1];refine⟨by show s.at_+1=_;omega,c.st,c.rl,?_,?_,c.tl⟩
  ·show 0<=s.work+1;omega
  ·show s.work+1<=_;omega
def v0I {p:N1}(h:Rd p){s:RS}{i:Nat}(c:RI p s i){b:Int}(d:0<=b/\b<256):RI p (d04 p s b) (i+1):=u06 h (x07 h c d)
def w08 {p:N1}(h:Rd p):RI p ⟨[],0,0,0,0,List.replicate p.Regs.toNat 0⟩ 0:=by
 have hp:=h.pos;have c:=h.r0;refine⟨rfl,⟨by show(-1:Int)<=0;omega,by show(0:Int)<_;omega⟩,?_,Int.le_refl _,V',V'⟩;show((List.replicate _ _).length:Int)=_;rw[List.length_replicate];omega
def C0l {p:N1}(h:Rd p):RI p (d0V p) 0:=u06 h (w08 h)
def v0V (r:S9)(n:Int)(h:n=-1\/n=-2\/0<=n/\n<(r.regs.length:Int)):k0o F r n=some (a0s r.at_ r.regs n):=by
 unfold k0o a0s;rcases h with rfl|rfl|⟨h1,h2⟩
 ·rfl
 ·rfl
 ·have d:(n==-1)=false:=by simp;omega
  have c:(n==-2)=false:=by simp;omega
  simp only[q0,d,c,R0 h1 h2];rw[if_neg O',if_neg O']
def x0N {p:N1}(h:Rd p){s:RS}{i:Nat}(k:RI p s i)(t:2000<F):f0F F (T5 p s)=some (T5 p (c0M p s)):=by
 have c:=k.st;unfold T5 f0F q08 c0M
 by_cases h1:0<=s.stand
 ·have e:decide (s.stand>=0)=true:=by simpa using h1
  have hm:=B8 h1 c.2;have g:=R0 h1 c.2;have o:=h.sm.ac _ hm;simp only[e,if_true,g,F0]
  by_cases ha:(gt p.Stands s.stand).Accept=[]
  ·simp[ha]
  ·have:decide (((gt p.Stands s.stand).Accept.length:Int)>0)=true:=by have:=List.length_pos_iff.2 ha;simp;omega
   have hl:=b0i (body:=m0E F ⟨s.tags,s.to⟩ p s.at_ s.stand s.work s.regs) (gt p.Stands s.stand).Accept.length (fun j=>(((gt p.Stands s.stand).Accept.take j).map (a0s s.at_ s.regs),(j:Int))) ((gt p.Stands s.stand).Accept.map (a0s s.at_ s.regs)) (fun j d=>by
    unfold m0E;have hn:=h.ac _ hm _ (a08 d);have r:=v0V (F:=F) ⟨⟨s.tags,s.to⟩,p,s.at_,s.stand,s.work,s.regs⟩ (gt (gt p.Stands s.stand).Accept (j:Int)) (by have:=k.rl;show _\/_\/_/\_<(s.regs.length:Int);omega);have f:∀z:Int,J0 8 (((gt p.Stands s.stand).Accept.take j).map (a0s s.at_ s.regs)) [z]=true:=fun z=>W4 Z';simp only[q0,dec_lt d,Q4,d,r,f];rw[K2 O',p0M _ _ d]) (by unfold m0E;simp) (fu:=F) O'
   simp only[take_zero,Int.natCast_zero,List.map_nil]at hl;simp only[q0,this,hl];rw[if_pos ⟨h1,ha⟩]
 ·have e:decide (s.stand>=0)=false:=by simpa using h1
  have m:¬(0<=s.stand/\(gt p.Stands s.stand).Accept≠[]):=fun q=>h1 q.1;simp[e,m]
def I0m {p:N1}(h:Rd p){s:RS}{i:Nat}(d:RI p s i)(hi:i<=1000){b:Int}(u:0<=b/\b<256)(J:2000<F):m0x F (T5 p s) b=some (T5 p (d04 p s b)):=by
 have r:=d.st;have ha:=d.a0;have C:=d.w0;have w:s.work<=1201000:=by
  have h1:=d.wk;have U:=h.sm.rg;have R:=h.r0;have:(i:Int)*(1+2*p.Regs)<=1000*1201:=Int.mul_le_mul O' O' O' O';omega
 have c:=x0N (F:=F) h (x07 h d u) J;unfold d04;unfold T5 at c ⊢;unfold m0x
 by_cases h1:0<=s.stand
 ·obtain⟨I,i2,hm,v⟩:=w0W h d u h1;have e:decide (s.stand>=0)=true:=by simpa using h1
  have m:=R0 h1 r.2;have x:=h.sm.mv _ hm _ v;have hl:=b0i (body:=j0B F ⟨s.tags,s.to⟩ p s.at_ s.stand s.work (K6 p s b).Moves) (K6 p s b).Moves.length (fun j=>((j:Int),Y3 s.at_ s.regs ((K6 p s b).Moves.take j))) (Y3 s.at_ s.regs (K6 p s b).Moves) (fun j g=>by
   unfold j0B;have t:=h.mv _ hm _ v _ (a08 g);have hlen:=q9 s.at_ ((K6 p s b).Moves.take j) s.regs;have hr:=d.rl;have y:=v0V (F:=F) ⟨⟨s.tags,s.to⟩,p,s.at_,s.stand,W (s.work+1),Y3 s.at_ s.regs ((K6 p s b).Moves.take j)⟩ (gt (K6 p s b).Moves (j:Int)).From (by show _\/_\/_/\_<((Y3 _ _ _).length:Int);omega);have f:C0 (Y3 s.at_ s.regs ((K6 p s b).Moves.take j)) (gt (K6 p s b).Moves (j:Int)).To=true:=R0 t.1 O';simp only[q0,dec_lt g,Q4,g,y,f];rw[K2 O',B0G _ _ _ g]) (by unfold j0B;simp) (fu:=F) O'
  simp only[take_zero,Int.natCast_zero]at hl;have hl:iter (j0B F ⟨s.tags,s.to⟩ p s.at_ s.stand s.work (gt (gt p.Stands s.stand).B2 (gt p.Class b)).Moves) F (0,s.regs)=some (Y3 s.at_ s.regs (K6 p s b).Moves):=hl;have k:W (s.work+1)=s.work+1:=J3 O' O';have o:W (s.work+1+((K6 p s b).Moves.length:Int))=s.work+1+((K6 p s b).Moves.length:Int):=J3 O' O';have o:W (s.work+1+((gt (gt p.Stands s.stand).B2 (gt p.Class b)).Moves.length:Int))=s.work+1+((K6 p s b).Moves.length:Int):=o;have q:W (s.at_+1)=s.at_+1:=J3 O' O';have hg:goS p s b={ s with at_:=s.at_+1,stand:=(K6 p s b).To,work:=s.work+1+((K6 p s b).Moves.length:Int),regs:=Y3 s.at_ s.regs (K6 p s b).Moves }:=by unfold goS;rw[if_pos h1]
  rw[hg]at c ⊢;have c:f0F F (⟨s.tags,s.to⟩,p,s.at_+1,(gt (gt p.Stands s.stand).B2 (gt p.Class b)).To,s.work+1+((K6 p s b).Moves.length:Int),Y3 s.at_ s.regs (K6 p s b).Moves)=_:=c;simp only[e,if_true,m,I,i2,hl,F0,k,o,q,c]
 ·have e:decide (s.stand>=0)=false:=by simpa using h1
  have k:W (s.work+1)=s.work+1:=J3 O' O';have q:W (s.at_+1)=s.at_+1:=J3 O' O';have hg:goS p s b={ s with at_:=s.at_+1,work:=s.work+1 }:=by unfold goS;rw[if_neg h1]
  rw[hg]at c ⊢;simp only[q0,e,k,q,c]
def z0P (s:List Int)(h:s.length<=1000000):K9 F s=some s:=by
 unfold K9;rw[if_pos (W4 Z')]
def B0l (s:List P1)(h:s.length<=1000000):l0r F s=some s:=by
 unfold l0r;rw[if_pos (W4 Z')]
def M0z (p:N1)(hd:Sm p)(m:2000<F):e0P F p=some p:=by
 have k:=hd.cl;have d:=hd.st;unfold e0P;rw[z0P p.Class O'];simp only[F0,l9];have h:=b0i (body:=h07 F p) p.Stands.length (fun i=>((i:Int),(p.Tags,p.Regs,p.Class,p.Stands.take i))) (p.Tags,p.Regs,p.Class,p.Stands) (fun i hi=>by
  have hm:=a08 hi;have f:=hd.ac _ hm;have g:=hd.wy _ hm;unfold h07;simp only[dec_lt hi,Q4,hi,decide_true,if_true];rw[z0P _ O'];simp only[F0];have h:=b0i (body:=l0O F p (i:Int)) (gt p.Stands (i:Int)).B2.length (fun j=>((j:Int),((gt p.Stands (i:Int)).Accept,(gt p.Stands (i:Int)).B2.take j))) ((gt p.Stands (i:Int)).Accept,(gt p.Stands (i:Int)).B2) (fun j c=>by
   have hs:=hd.mv _ hm _ (a08 c);unfold l0O;simp only[dec_lt c,Q4,c,decide_true,if_true];rw[B0l _ O'];have ha:J0 32 ((gt p.Stands (i:Int)).B2.take j) [(⟨(gt (gt p.Stands (i:Int)).B2 (j:Int)).To,(gt (gt p.Stands (i:Int)).B2 (j:Int)).Moves⟩:I5)]=true:=W4 Z';simp only[F0,ha,if_true];rw[K2 O'];have:=p0M id (gt p.Stands (i:Int)).B2 c;simp only[map_id,id]at this;rw[this]) (by unfold l0O;simp) (fu:=F) O'
  simp only[take_zero,Int.natCast_zero]at h;simp only[h,F0];have ha:J0 48 (p.Stands.take i) [(⟨(gt p.Stands (i:Int)).Accept,(gt p.Stands (i:Int)).B2⟩:U6)]=true:=W4 Z';simp only[ha,if_true];rw[K2 O'];have:=p0M id p.Stands hi;simp only[map_id,id]at this;rw[this]) (by unfold h07;simp) (fu:=F) O'
 simp only[take_zero,Int.natCast_zero]at h;simp only[h,F0]
def F05 {p:N1}(h:Rd p):F4 8 p.Regs=true:=by
 have h1:=h.r0;have c:=h.sm.rg;unfold F4;simp;omega
def A0Z {p:N1}(hs:Sm p)(f:d03 p=true)(d:2000<F):h0b F p=some (.inr (T5 p (d0V p)),0):=by
 have h:=n05 hs f;have c:=x0N (F:=F) h (w08 h) d;unfold h0b;rw[B0e p hs d,M0z p hs d];unfold T5 at c;unfold d0V;simp only[q0,f,F05 h,l9,c];rfl
