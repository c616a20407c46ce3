/- P. Its conditions: none. -/
import Derived.Test.YtihmgaccbcfgjaaGreatQG45
import Derived.Test.YtihmgaccbcfgjaaGreatQG44
import Derived.Test.YtihmgaccbcfgjaaGreatQG31
import Derived.Test.YtihmgaccbcfgjaaGreatQPLDriveAnswers
import Derived.Test.YtihmgaccbcfgjaaGreatQMd
open List (prefix_refl length_zip length_cons length_append length_nil range_succ length_map mem_map take_length take_succ map_append map_cons map_nil)
open Nat (lt_or_ge le_of_lt le_refl)
open Bool (false_eq_true and_eq_true)
set_option linter.all false
namespace Go.Proofs.YtihmgaccbcfgjaaGreat
open Classical
section
variable {K S:Type}[Inhabited K]
noncomputable def P7 (all:List K)(x:K):List K:=if x∈all then all else all++[x]
noncomputable def X6 (all:List K)(x:K):Nat:=all.findIdx fun y=>decide (y=x)
def q0c (all:List K)(x:K):all <+: P7 all x:=by
 unfold P7;split
 ·exact prefix_refl _
 ·exact List.prefix_append _ _
def I04 (all:List K)(x:K):x∈P7 all x:=by
 unfold P7;split
 ·assumption
 ·simp
def z0K {all:List K}{x y:K}(h:y∈P7 all x):y∈all\/(y=x/\x∉all/\P7 all x=all++[x]):=by
 unfold P7 at h ⊢;split at h
 ·exact .inl h
 ·rename_i c;rcases List.mem_append.1 h with h|h
  ·exact .inl h
  ·simp at h;exact .inr ⟨h,c,if_neg c⟩
def f0Y {all:List K}{x:K}(h:x∈all):X6 all x<all.length:=by
 unfold X6;exact List.findIdx_lt_length_of_exists ⟨x,h,X'⟩
theorem h0o {all:List K}{x:K}(h:x∈all):all[X6 all x]?=some x:=by
 have hl:=f0Y h;have:=List.findIdx_getElem (xs:=all) (p:=fun y=>decide (y=x)) (w:=hl);rw[List.getElem?_eq_getElem hl];congr 1;exact of_decide_eq_true this
def v09 {all more:List K}{x:K}(h:x∈all)(hp:all <+: more):X6 more x=X6 all x:=by
 obtain⟨r,rfl⟩:=hp;have hl:=f0Y h;unfold X6 at hl ⊢;rw[List.findIdx_append,if_pos hl]
noncomputable def X3 (nxt:K->Nat->Option (K×S))(k:K)(all:List K):Nat->List K
 |0=>all
 |c+1=>match nxt k c with
  |none=>X3 nxt k all c
  |some (x,_)=>P7 (X3 nxt k all c) x
def k0S (nxt:K->Nat->Option (K×S))(k:K)(all:List K):∀c,all <+: X3 nxt k all c
 |0=>prefix_refl _
 |c+1=>by
  unfold X3;split
  ·exact k0S nxt k all c
  ·exact(k0S nxt k all c).trans (q0c _ _)
def m0f (nxt:K->Nat->Option (K×S))(k:K)(all:List K){x:K}{s:S}:∀{c d:Nat},d<c->nxt k d=some (x,s)->x∈X3 nxt k all c
 |c+1,d,h,hx=>by
  unfold X3;rcases lt_or_ge d c with h1|h1
  ·have:=m0f nxt k all h1 hx;split
   ·exact this
   ·exact(q0c _ _).subset this
  ·obtain rfl:d=c:=O'
   rw[hx];exact I04 _ _
def g0M (nxt:K->Nat->Option (K×S))(k:K)(all:List K):∀(c:Nat) {x:K},x∈X3 nxt k all c->x∈all\/(x∉all/\∃d s,d<c/\nxt k d=some (x,s))
 |0,x,h=>.inl h
 |c+1,x,h=>by
  unfold X3 at h;split at h
  ·rcases g0M nxt k all c h with h1|⟨h1,d,s,h2,h3⟩
   ·exact .inl h1
   ·exact .inr ⟨h1,d,s,O',h3⟩
  ·rename_i y s f;rcases z0K h with h0|⟨rfl,h1,_⟩
   ·rcases g0M nxt k all c h0 with h1|⟨h1,d,s,h2,h3⟩
    ·exact .inl h1
    ·exact .inr ⟨h1,d,s,O',h3⟩
   ·exact .inr ⟨fun g=>h1 ((k0S nxt k all c).subset g),c,s,O',f⟩
noncomputable def runK (nxt:K->Nat->Option (K×S))(C:Nat)(k0:K):Nat->List K
 |0=>[k0]
 |i+1=>if i<(runK nxt C k0 i).length then X3 nxt ((runK nxt C k0 i).getD i default) (runK nxt C k0 i) C else runK nxt C k0 i
variable (nxt:K->Nat->Option (K×S))(C:Nat)(k0:K)
def q05 (i:Nat):runK nxt C k0 i <+: runK nxt C k0 (i+1):=by
 rw[show runK nxt C k0 (i+1)=if i<(runK nxt C k0 i).length then X3 nxt ((runK nxt C k0 i).getD i default) (runK nxt C k0 i) C else runK nxt C k0 i from rfl];split
 ·exact k0S ..
 ·exact prefix_refl _
def d0g {i j:Nat}(h:i<=j):runK nxt C k0 i <+: runK nxt C k0 j:=by
 induction j with
 |zero=>
      obtain rfl:i=0:=O'
      exact prefix_refl _
 |succ j ih=>
  rcases lt_or_ge j i with c|c
  ·obtain rfl:i=j+1:=O'
   exact prefix_refl _
  ·exact(ih c).trans (q05 ..)
def q0x (i:Nat):0<(runK nxt C k0 i).length:=by
 have:=(d0g nxt C k0 (Nat.zero_le i)).length_le;simp[runK]at this;omega
def h0k {i j q:Nat}(c:i<=j)(h:q<(runK nxt C k0 i).length):(runK nxt C k0 j).getD q default=(runK nxt C k0 i).getD q default:=by
 obtain⟨r,d⟩:=d0g nxt C k0 c;rw[<-d,List.getD_eq_getElem?_getD,List.getD_eq_getElem?_getD,List.getElem?_append_left h]
def t0o {i j:Nat}(hi:i<j)(hl:i<(runK nxt C k0 i).length){d:Nat}(hd:d<C){x:K}{s:S}(h:nxt ((runK nxt C k0 i).getD i default) d=some (x,s)):x∈runK nxt C k0 j:=by
 refine(d0g nxt C k0 (show i+1<=j from hi)).subset ?_;rw[show runK nxt C k0 (i+1)=if i<(runK nxt C k0 i).length then X3 nxt ((runK nxt C k0 i).getD i default) (runK nxt C k0 i) C else runK nxt C k0 i from rfl,if_pos hl];exact m0f nxt _ _ hd h
def Y4 (B n:Nat):Prop:=n=(runK nxt C k0 n).length/\∀i,i<n->i<(runK nxt C k0 i).length/\(runK nxt C k0 i).length<=B
def i0N (B i:Nat):Prop:=i<(runK nxt C k0 i).length/\B<(runK nxt C k0 i).length/\∀j,j<i->j<(runK nxt C k0 j).length/\(runK nxt C k0 j).length<=B
def h0m (B:Nat):(∃n,n<=B/\Y4 nxt C k0 B n)\/∃i,i<=B/\i0N nxt C k0 B i:=by
 have key:∀m,(∀i,i<m->i<(runK nxt C k0 i).length/\(runK nxt C k0 i).length<=B)->m<=B+1->(∃n,n<=B/\Y4 nxt C k0 B n)\/∃i,i<=B/\i0N nxt C k0 B i:=by
  intro m
  induction h:B+1-m generalizing m with
  |zero=>
   intro hm hle;exfalso;have:=hm B O';omega
  |succ t ih=>
   intro hm hle
   by_cases c1:m<(runK nxt C k0 m).length
   ·by_cases c2:(runK nxt C k0 m).length<=B
    ·exact ih (m+1) O' (fun i hi=>by
      rcases lt_or_ge i m with c|c
      ·exact hm i c
      ·obtain rfl:i=m:=O'
       exact⟨c1,c2⟩) O'
    ·exact .inr ⟨m,O',c1,O',hm⟩
   ·have d:m<=(runK nxt C k0 m).length:=by
     rcases Nat.eq_zero_or_pos m with h0|h0
     ·omega
     ·have h1:=(hm (m-1) O').1;have f:=(d0g nxt C k0 (show m-1<=m from O')).length_le;omega
    exact .inl ⟨m,O',O',hm⟩
 exact key 0 (fun i h=>O') O'
def Y4.le {B n:Nat}(h:Y4 nxt C k0 B n):n<=B:=by
 obtain⟨h1,c⟩:=h;have hp:=q0x nxt C k0 n;have d:=c (n-1) O';have f:=(d0g nxt C k0 (show n-1<=n from O')).length_le;omega
theorem Y4.more {B c n:Nat}(h:Y4 nxt C k0 B n)(f:n<=c):Y4 nxt C k0 c n:=by
 obtain⟨h1,d⟩:=h;refine⟨h1,fun i hi=>⟨(d i hi).1,?_⟩⟩;have:=(d0g nxt C k0 (le_of_lt hi)).length_le;omega
def Y4.uniq {B g n d:Nat}(h:Y4 nxt C k0 B n)(f:Y4 nxt C k0 g d):n=d:=by
 rcases Nat.lt_trichotomy n d with c|c|c
 ·have:=(f.2 n c).1;have:=h.1;omega
 ·exact c
 ·have:=(h.2 d c).1;have:=f.1;omega
theorem Y4.less {B f n i:Nat}(h:Y4 nxt C k0 B n)(d:i0N nxt C k0 f i):f<n:=by
 rcases lt_or_ge i n with c|c
 ·have:=(d0g nxt C k0 (le_of_lt c)).length_le;have:=h.1;have:=d.2.1;omega
 ·rcases lt_or_ge n i with c2|c2
  ·have:=(d.2.2 n c2).1;have:=h.1;omega
  ·obtain rfl:i=n:=O'
   have:=d.1;have:=h.1;omega
def Y4.fits {B c n i:Nat}(h:Y4 nxt C k0 B n)(f:n<=c)(d:i0N nxt C k0 c i):False:=by
 have:=Y4.less nxt C k0 h d;omega
end
end Go.Proofs.YtihmgaccbcfgjaaGreat
namespace Go.Proofs.YtihmgaccbcfgjaaGreat
open Go.V Go.RowKit Go.X
variable {F:Nat}
def E8 {α:Type}(p:α->α->Bool)(a b:List α):Bool:=a.length==b.length&&(a.zip b).all fun x=>p x.1 x.2
def E09 {α:Type}[Inhabited α]{a b:List α}{i:Nat}(ha:i<a.length)(c:i<b.length):gt (a.zip b) (i:Int)=(gt a (i:Int),gt b (i:Int)):=by
 rw[X2 (x:=a[i]) (by simp[ha]),X2 (x:=b[i]) (by simp[c])];exact X2 (by simp[List.getElem?_zip_eq_some,ha,c])
def q0F {α ρ:Type}[Inhabited α](a b:List α)(p:α->α->Bool)(hl:a.length=b.length)(good bad:ρ){body:Int->Option (Q0 Int ρ)}
  (hs:∀i:Nat,i<a.length->i<b.length->body (i:Int)=some (if p (gt a (i:Int)) (gt b (i:Int))then .next ((i+1:Nat):Int)else .done bad)) (he:body (a.length:Int)=some (.done good)) {fu:Nat} (h:a.length<fu):
  iter body fu 0=some (if E8 p a b then good else bad):=by
 obtain⟨k,hk⟩:=c0H (body:=body) (a.zip b) (fun x=>p x.1 x.2) good (fun _=>bad) (fun i hi=>by
  rw[length_zip]at hi;rw[E09 O' O'];exact hs i O' O') (by rw[length_zip,hl,Nat.min_self,<-hl];exact he) (fu:=fu) (by rw[length_zip];omega)
 rw[hk];unfold E8;rw[hl,beq_self_eq_true,Bool.true_and]
def p0R {α:Type}{p:α->α->Bool}{a b:List α}(h:¬a.length=b.length):E8 p a b=false:=by
 unfold E8;simp[h]
def p0N (a b:List Int)(hl:a.length<=1000000)(d:2000001<F):f0t F a b=some (E8 (·==·) a b):=by
 unfold f0t
 by_cases h:a.length=b.length
 ·have e:((a.length:Int) != (b.length:Int))=false:=by simp[h]
  simp only[e,false_eq_true,if_false];rw[q0F a b (·==·) h (.inr ()) (.inl ()) (fun i hi c=>by
   unfold m0T;simp only[dec_lt hi,Y7,hi,c,decide_true,if_true]
   by_cases g:gt a (i:Int)=gt b (i:Int)
   ·simp[g,Go.V.X1 (show i<9223372036854775807 from O')]
   ·simp[g]) (by unfold m0T;simp) (fu:=F) O']
  cases E8 (·==·) a b<;>rfl
 ·have e:((a.length:Int) != (b.length:Int))=true:=by simp;omega
  simp[e,p0R h]
def i0P (a b:H4):Bool:=a.To==b.To&&E8 (·==·) a.Src b.Src
def e0M (a b:L3):Bool:=a.Regs==b.Regs&&E8 (·==·) a.Accept b.Accept&&E8 i0P a.Edges b.Edges
def j0v (a b:Y1):Bool:=a.Tags==b.Tags&&E8 (·==·) a.Class b.Class&&E8 e0M a.States b.States
structure Bd (d:Y1):Prop where
 st:d.States.length<=1000
 cl:d.Class.length<=1000
 ac:∀s∈d.States,s.Accept.length<=1000
 ed:∀s∈d.States,s.Edges.length<=1000
 sr:∀s∈d.States,∀x∈s.Edges,x.Src.length<=100000
def Sm.bd {d:Y1}(h:Sm d):Bd d:=⟨by have:=h.st;omega,by have:=h.cl;omega,fun s hs=>by have:=h.ac s hs;omega,fun s hs=>by have:=h.ed s hs;omega,fun s hs x c=>by have:=h.sr s hs x c;omega⟩
def D0c (a b:L3)(ha:a.Accept.length<=1000)(he:a.Edges.length<=1000)(hs:∀x∈a.Edges,x.Src.length<=100000)(d:2000001<F):k0O F a b=some (e0M a b):=by
 unfold k0O e0M;rw[p0N _ _ O' d]
 by_cases c:a.Regs=b.Regs
 ·have e0:(a.Regs != b.Regs)=false:=by simp[c]
  cases h1:E8 (·==·) a.Accept b.Accept
  ·simp[e0]
  ·by_cases h:a.Edges.length=b.Edges.length
   ·have e:((a.Edges.length:Int) != (b.Edges.length:Int))=false:=by simp[h]
    simp only[q0,e0,e];rw[q0F a.Edges b.Edges i0P h (.inr ()) (.inl ()) (fun i hi f=>by
     unfold o0A i0P;simp only[dec_lt hi,Y7,hi,f,decide_true,if_true];rw[p0N _ _ (by have:=hs _ (b0x hi);omega) d,Go.V.X1 (show i<9223372036854775807 from O')]
     by_cases g:(gt a.Edges (i:Int)).To=(gt b.Edges (i:Int)).To
     ·simp only[q0,g,bne_self_eq_false,beq_self_eq_true,Bool.true_and];cases E8 (·==·) (gt a.Edges (i:Int)).Src (gt b.Edges (i:Int)).Src<;>simp
     ·have g1:((gt a.Edges (i:Int)).To != (gt b.Edges (i:Int)).To)=true:=by simpa using g
      have g2:((gt a.Edges (i:Int)).To==(gt b.Edges (i:Int)).To)=false:=by simpa using g
      simp[g1,g2]) (by unfold o0A;simp) (fu:=F) O']
    cases E8 i0P a.Edges b.Edges<;>simp[c]
   ·have e:((a.Edges.length:Int) != (b.Edges.length:Int))=true:=by simp;omega
    simp[e0,e,p0R h]
 ·have e0:(a.Regs != b.Regs)=true:=by simpa using c
  simp[e0,c]
def D0g (a b:Y1)(ha:Bd a)(d:2000001<F):h0e F a b=some (j0v a b):=by
 have j:=ha.st;have f:=ha.cl;unfold h0e j0v;rw[p0N _ _ O' d]
 by_cases c:a.Tags=b.Tags
 ·have e0:(a.Tags != b.Tags)=false:=by simp[c]
  cases h1:E8 (·==·) a.Class b.Class
  ·simp[e0]
  ·by_cases h:a.States.length=b.States.length
   ·have e:((a.States.length:Int) != (b.States.length:Int))=false:=by simp[h]
    simp only[q0,e0,e];rw[q0F a.States b.States e0M h (.inr ()) (.inl ()) (fun i hi g=>by
     have hm:=b0x hi;unfold m09;simp only[dec_lt hi,Y7,hi,g,decide_true,if_true];rw[D0c _ _ (ha.ac _ hm) (ha.ed _ hm) (ha.sr _ hm) d,Go.V.X1 (show i<9223372036854775807 from O')];cases e0M (gt a.States (i:Int)) (gt b.States (i:Int))<;>simp) (by unfold m09;simp) (fu:=F) O']
    cases E8 e0M a.States b.States<;>simp[c]
   ·have e:((a.States.length:Int) != (b.States.length:Int))=true:=by simp;omega
    simp[e0,e,p0R h]
 ·have e0:(a.Tags != b.Tags)=true:=by simpa using c
  simp[e0,c]
def f09 {α:Type}{p:α->α->Bool}:∀{a:List α},(∀x∈a,p x x=true)->E8 p a a=true
 |[],_=>rfl
 |x :: r,h=>by
  have c:=f09 (p:=p) (a:=r) (fun y d=>h y (by simp[d]));unfold E8 at c ⊢;simp only[beq_self_eq_true,Bool.true_and]at c ⊢;simp[h x X',c]
def z07 (a:Y1):j0v a a=true:=by
 unfold j0v;simp only[beq_self_eq_true,Bool.true_and,and_eq_true];refine⟨f09 X',f09 fun s _=>?_⟩;unfold e0M;simp only[beq_self_eq_true,Bool.true_and,and_eq_true];refine⟨f09 X',f09 fun x _=>?_⟩;unfold i0P;simp only[beq_self_eq_true,Bool.true_and];exact f09 X'
end Go.Proofs.YtihmgaccbcfgjaaGreat
namespace Go.Proofs.YtihmgaccbcfgjaaGreat
open Go.V Go.RowKit Go.X
variable {F:Nat}
def tt (l:List Bool)(i:Nat):Prop:=l[i]?=some true
def o8 (l:List Bool):Nat:=l.count false
theorem f0i {l:List Bool}{i:Nat}(hi:i<l.length)(h:¬tt l i):o8 (l.set i true)+1=o8 l:=by
 unfold o8 tt at *
 grind
end Go.Proofs.YtihmgaccbcfgjaaGreat
namespace Go.Proofs.YtihmgaccbcfgjaaGreat
open Go.V Go.RowKit Go.X
open Classical
section
variable {K:Type}[Inhabited K](R:K->Int)(acc:K->List Int)(nxt:K->Nat->Option (K×List Int))(C:Nat)
noncomputable def U8 (L:List K)(k:K)(c:Nat):H4:=match nxt k c with
 |none=>⟨-1,[]⟩
 |some (x,s)=>⟨(X6 L x:Nat),s⟩
noncomputable def T9 (L:List K)(k:K):L3:=⟨R k,acc k,(List.range C).map (U8 nxt L k)⟩
noncomputable def b0F (tags:Int)(cls:List Int)(L:List K):Y1:=⟨tags,cls,L.map (T9 R acc nxt C L)⟩
structure OkL (tags:Int)(L:List K):Prop where
 rg:∀k∈L,0<=R k/\R k<=1216
 ac:∀k∈L,((acc k).length:Int)=0\/(((acc k).length:Int)=tags/\∀v∈acc k,v=-2\/v=-1\/(0<=v/\v<R k))
 nx:∀k∈L,∀c,c<C->∀x s,nxt k c=some (x,s)->x∈L/\(s.length:Int)=R x/\∀v∈s,v=-1\/(0<=v/\v<R k)
variable {R acc nxt C}
def r0E {tags:Int}{k0:K}{B n:Nat}(h:Y4 nxt C k0 B n)(P:K->Prop)(q:P k0)(hs:∀k,P k->∀c,c<C->∀x s,nxt k c=some (x,s)->P x/\(s.length:Int)=R x/\∀v∈s,v=-1\/(0<=v/\v<R k))
  (o:∀k,P k->0<=R k/\R k<=1216) (ha:∀k,P k->((acc k).length:Int)=0\/(((acc k).length:Int)=tags/\∀v∈acc k,v=-2\/v=-1\/(0<=v/\v<R k))):OkL R acc nxt C tags (runK nxt C k0 n)/\∀i,∀k∈runK nxt C k0 i,P k:=by
 have g:∀i,∀k∈runK nxt C k0 i,P k:=by
  intro i
  induction i with
  |zero=>intro k hk;simp[runK]at hk;rw[hk];exact q
  |succ i ih=>
   intro k hk;rw[show runK nxt C k0 (i+1)=if i<(runK nxt C k0 i).length then X3 nxt ((runK nxt C k0 i).getD i default) (runK nxt C k0 i) C else runK nxt C k0 i from rfl]at hk;split at hk
   ·rename_i hi;rcases g0M nxt _ _ C hk with h1|⟨_,d,s,h2,h3⟩
    ·exact ih k h1
    ·refine(hs _ (ih _ ?_) d h2 k s h3).1;rw[show(runK nxt C k0 i).getD i default=(runK nxt C k0 i)[i] by simp[List.getD,hi]];exact List.getElem_mem hi
   ·exact ih k hk
 refine⟨⟨fun k hk=>o k (g n k hk),fun k hk=>ha k (g n k hk),fun k hk c m x s e=>?_⟩,g⟩;obtain⟨r,a2,a3⟩:=hs k (g n k hk) c m x s e;refine⟨?_,a2,a3⟩;have hp:=f0Y hk;have j:=h0o hk;have f:X6 (runK nxt C k0 n) k<n:=by have:=h.1;omega
 have hl:=(h.2 _ f).1;have p:(runK nxt C k0 (X6 (runK nxt C k0 n) k)).getD (X6 (runK nxt C k0 n) k) default=k:=by
  rw[<-h0k nxt C k0 (le_of_lt f) hl];rw[List.getD_eq_getElem?_getD,j];rfl
 exact t0o nxt C k0 f hl m (by rw[p];exact e)
end
end Go.Proofs.YtihmgaccbcfgjaaGreat
namespace Go.Proofs.YtihmgaccbcfgjaaGreat
open Go.V Go.RowKit Go.X
def u8_in (x:Int):L5 .u8 (IntKind.u8.wrap x):=by
 unfold L5;have h1:IntKind.u8.wrap x=x % 256:=by rfl
 have d:IntKind.u8.min=0:=by rfl
 have c:IntKind.u8.max=255:=by rfl
 rw[h1,d,c];omega
def g0L (s:List (List Bool)×List Int)(k:List Bool):List (List Bool)×List Int:=if s.1.contains k then(s.1,s.2++[(s.1.idxOf k:Int)])else(s.1++[k],s.2++[(s.1.length:Int)])
def I3 (key:Nat->List Bool):Nat->List (List Bool)×List Int
 |0=>([],[])
 |b+1=>g0L (I3 key b) (key b)
def q0i:∀(o:List Int) (c n:Int),N6 (o++[c]) n=(N6 o n).bind fun m=>N6 [c] m
 |[],c,n=>rfl
 |x :: r,c,n=>by
  show N6 (x :: (r++[c])) n=_;unfold N6;split
  ·rfl
  ·exact q0i r c _
def n0C:∀(o:List Int) (c:Int) (b:Nat) (out:List Int),F9 (o++[c]) b out=F9 [c] (b+o.length) (F9 o b out)
 |[],c,b,out=>rfl
 |x :: r,c,b,out=>by
  show F9 (x :: (r++[c])) b out=_;rw[F9,n0C r c (b+1),length_cons,show b+(r.length+1)=b+1+r.length from O'];rfl
def j0l:∀(o:List Int) (b:Nat) (out:List Int),(∀x∈out,L5 .u8 x)->∀x∈F9 o b out,L5 .u8 x
 |[],b,out,h=>h
 |c :: r,b,out,h=>by
  rw[F9];refine j0l r (b+1) _ fun x d=>?_;split at d
  ·rcases List.mem_append.1 d with h1|h1
   ·exact h x h1
   ·simp only[List.mem_singleton]at h1;subst h1;exact u8_in _
  ·exact h x d
def k08 (key:Nat->List Bool):∀b,(I3 key b).2.length=b/\N6 (I3 key b).2 0=some ((I3 key b).1.length:Int)/\(M0 (I3 key b).2).length=(I3 key b).1.length/\(I3 key b).1.length<=b
 |0=>⟨rfl,rfl,rfl,le_refl _⟩
 |b+1=>by
  obtain⟨h1,d,c,g⟩:=k08 key b;rw[show I3 key (b+1)=g0L (I3 key b) (key b)from rfl];unfold M0 at c ⊢;unfold g0L;split
  ·rename_i f;have hi:=List.idxOf_lt_length_of_mem (List.contains_iff_mem.1 f);refine⟨by simp[h1],?_,?_,by simp only;omega⟩
   ·simp only;rw[q0i,d];show N6 [_] _=_;unfold N6;rw[if_neg O',if_neg O'];rfl
   ·simp only;rw[n0C,F9,c,if_neg O'];exact c
  ·refine⟨by simp[h1],?_,?_,by simp only[length_append,length_cons,length_nil];omega⟩
   ·simp only;rw[q0i,d];show N6 [_] _=_;unfold N6;rw[if_neg O',if_pos rfl];unfold N6;simp
   ·simp only;rw[n0C,F9,c,if_pos rfl];show(F9 _ _ _++[_]).length=_;rw[length_append,c,length_append];rfl
def u0X (key:Nat->List Bool):J8 (I3 key 256).2=true:=by
 obtain⟨h1,c,_⟩:=k08 key 256;unfold J8;rw[c,h1];rfl
def r0X {key:Nat->List Bool}{f:List (List Bool)×List Int->Nat->Option (List (List Bool)×List Int)}:∀(n:Nat),(∀b,b<n->∀s,f s b=some (g0L s (key b)))->(List.range n).foldlM f ([],[])=some (I3 key n)
 |0,h=>rfl
 |n+1,h=>by
  rw[range_succ,List.foldlM_append,r0X n (fun b c=>h b O')];show(List.foldlM f (I3 key n) [n])=_;simp only[List.foldlM,h n O'];rfl
end Go.Proofs.YtihmgaccbcfgjaaGreat
namespace Go.Proofs.YtihmgaccbcfgjaaGreat
open Go.V Go.RowKit Old Go.X
open Classical
section
variable {F:Nat}{l:List C0}{n:Nat}{a:List B0}{b:Nat->List B0}{e:Nat->B0×Bool}{z:B0×Bool}{mode:Int}
def J1 (F:Nat)(l:List C0)(mode:Int)(least:List Int)(k:F1)(c:Nat):Option (F1×List Int):=match c0Q F l mode k (gt least (c:Int))with
 |some (x,s)=>if(x.Places.length:Int)==0&&x.Flag==0 then none else some (x,s)
 |none=>none
def K6 (F:Nat)(k:F1):Int:=(c0k F k).getD 0
def V8 (F:Nat)(l:List C0)(k:F1):List Int:=(c0s F l k).getD []
def PM (F:Nat)(l:List C0)(n:Nat)(k:F1):Prop:=∃c R,k=c.K/\KOk F l n c R
def q0I (K:U3 l n a b e z F)(hw:∀x∈l,P2 x)(hm:mode=0\/mode=1):d0z F l mode=some ((Kd.zero z mode).K,0)/\PM F l n (Kd.zero z mode).K/\K6 F (Kd.zero z mode).K=0:=by
 obtain⟨h1,c⟩:=A0M K hw hm;exact⟨h1,⟨_,0,rfl,c⟩,by unfold K6;rw[c.rg];rfl⟩
def j0B (K:U3 l n a b e z F)(hw:∀x∈l,P2 x)(hm:mode=0\/mode=1){least:List Int}(i:∀x∈least,L5 .u8 x){k:F1}(h:PM F l n k){c:Nat}(g:c<least.length):
  ∃x s,c0Q F l mode k (gt least (c:Int))=some (x,s)/\PM F l n x/\(s.length:Int)=K6 F x/\∀v∈s,v=-1\/(0<=v/\v<K6 F k):=by
 obtain⟨m,R,rfl,hk⟩:=h;obtain⟨h1,d,j⟩:=x0l K hw hk hm (i _ (b8 g));refine⟨_,_,h1,⟨_,_,rfl,d⟩,?_,fun v f=>?_⟩
 ·unfold K6;rw[d.rg];rfl
 ·unfold K6;rw[hk.rg];exact j v f
def h0s (K:U3 l n a b e z F){k:F1}(h:PM F l n k):c0k F k=some (K6 F k)/\0<=K6 F k/\K6 F k<=n*19:=by
 obtain⟨c,R,rfl,hk⟩:=h;have:=hk.le;unfold K6;rw[hk.rg];refine⟨rfl,?_,?_⟩
 ·show(0:Int)<=(R:Int);omega
 ·show(R:Int)<=_;omega
def n0r (K:U3 l n a b e z F){k:F1}(h:PM F l n k):c0s F l k=some (V8 F l k)/\(((V8 F l k).length:Int)=0\/(((V8 F l k).length:Int)=C4 l/\∀v∈V8 F l k,v=-2\/v=-1\/(0<=v/\v<K6 F k))):=by
 obtain⟨d,R,rfl,hk⟩:=h;have g:=a07 l;obtain⟨h1,c,f⟩:=D0j K hk;unfold V8 K6;rw[h1,hk.rg];refine⟨rfl,?_⟩;rcases c with c|c
 ·exact .inl (by show((a06 l e z d).length:Int)=0;omega)
 ·exact .inr ⟨by show((a06 l e z d).length:Int)=C4 l;omega,f⟩
def z06 (K:U3 l n a b e z F){k:F1}(h:PM F l n k):k.Places.length<=n/\k.Maps.length=k.Places.length/\(∀r∈k.Maps,r.length<=19)/\∃fB fD,k.Rank=U2 k.Places.length fB fD:=by
 obtain⟨c,R,rfl,hk⟩:=h;have hl:=hk.C.le;have f:=a07 l;refine⟨?_,?_,fun r d=>?_,c.fB,c.fD,?_⟩
 ·show(D1 c.pl).length<=n;rw[e0b];exact hl
 ·show c.maps.length=(D1 c.pl).length;rw[e0b];exact hk.C.len
 ·have:=hk.C.row r d;omega
 ·show U2 c.pl.length c.fB c.fD=U2 (D1 c.pl).length c.fB c.fD;rw[e0b]
noncomputable def j8 (F:Nat)(l:List C0)(mode:Int)(cls:List Int)(k0:F1)(B:Nat):Y1×Int:=
 if h:∃m,Y4 (J1 F l mode (M0 cls)) (M0 cls).length k0 B m then(b0F (K6 F) (V8 F l) (J1 F l mode (M0 cls)) (M0 cls).length (C4 l) cls (runK (J1 F l mode (M0 cls)) (M0 cls).length k0 (Classical.choose h)),0)
 else(⟨0,[],[]⟩,14)
def e0k {cls:List Int}{k0:F1}{B m:Nat}(h:Y4 (J1 F l mode (M0 cls)) (M0 cls).length k0 B m):j8 F l mode cls k0 B=(b0F (K6 F) (V8 F l) (J1 F l mode (M0 cls)) (M0 cls).length (C4 l) cls (runK (J1 F l mode (M0 cls)) (M0 cls).length k0 m),0):=by
 have c:∃m,Y4 (J1 F l mode (M0 cls)) (M0 cls).length k0 B m:=⟨m,h⟩
 unfold j8;rw[dif_pos c,Y4.uniq _ _ _ (Classical.choose_spec c) h]
theorem h0Z {cls:List Int}{k0:F1}{B i:Nat}(h:i0N (J1 F l mode (M0 cls)) (M0 cls).length k0 B i):j8 F l mode cls k0 B=(⟨0,[],[]⟩,14):=by
 unfold j8;rw[dif_neg]
 rintro⟨m,hm⟩
 have h1:=Y4.less _ _ _ hm h;have c:=Y4.le _ _ _ hm;omega
end
section
variable {F:Nat}{l:List C0}{n:Nat}{a:List B0}{b:Nat->List B0}{e:Nat->B0×Bool}{z:B0×Bool}{mode:Int}
structure Mch (F:Nat)(l:List C0)(n:Nat)(mode:Int)(cls:List Int)(L:List F1)(d:Y1):Prop where
 ed:d=b0F (K6 F) (V8 F l) (J1 F l mode (M0 cls)) (M0 cls).length (C4 l) cls L
 cl:∀x,L5 .u8 x->∃c:Nat,gt cls x=(c:Int)/\c<(M0 cls).length/\L5 .u8 (gt (M0 cls) (c:Int))/\∀r,r<n->s7 l (gt (M0 cls) (c:Int)) r=s7 l x r
 nx:∀k∈L,∀c,c<(M0 cls).length->∀x s,J1 F l mode (M0 cls) k c=some (x,s)->x∈L
theorem Mch.at {cls:List Int}{L:List F1}{d:Y1}(M:Mch F l n mode cls L d){k:F1}(hk:k∈L):gt d.States ((X6 L k:Nat):Int)=T9 (K6 F) (V8 F l) (J1 F l mode (M0 cls)) (M0 cls).length L k:=by
 rw[M.ed];refine X2 ?_;show(L.map _)[X6 L k]?=_;rw[List.getElem?_map,h0o hk];rfl
def Mch.a0Z (K:U3 l n a b e z F)(hw:∀x∈l,P2 x)(hm:mode=0\/mode=1){cls:List Int}{L:List F1}{d:Y1}(M:Mch F l n mode cls L d){f:Kd}{R:Nat}(hk:KOk F l n f R)(p:f.K∈L){c:f0L}(r:c.state=((X6 L f.K:Nat):Int)){x:Int}(q:L5 .u8 x):
  KOk F l n (f.next l n a b e mode x) (f.src l n a b e mode x).length/\(((f.next l n a b e mode x).pl=[]/\(f.next l n a b e mode x).flag=0/\a0b d c x=⟨-1,[]⟩)\/(¬((f.next l n a b e mode x).pl=[]/\(f.next l n a b e mode x).flag=0)/\(f.next l n a b e mode x).K∈L/\a0b d c x=⟨((X6 L (f.next l n a b e mode x).K:Nat):Int),f.src l n a b e mode x⟩)):=by
 obtain⟨j,c1,c2,c3,c4⟩:=M.cl x q;obtain⟨k,o,_⟩:=x0l (b_:=gt (M0 cls) (j:Int)) (mode:=mode) K hw hk hm c3;obtain⟨g1,g2⟩:=P0z (a:=a) (b:=b) (e:=e) c4 mode f;rw[g1,g2]at k o;refine⟨o,?_⟩;have i:a0b d c x=U8 (J1 F l mode (M0 cls)) L f.K j:=by
  unfold a0b;rw[r,M.at p];have:d.Class=cls:=by rw[M.ed];rfl
  rw[this,c1];show gt ((List.range _).map _) (j:Int)=_;refine X2 ?_;rw[List.getElem?_map,List.getElem?_range c2];rfl
 have g:(((f.next l n a b e mode x).K.Places.length:Int)==0&&(f.next l n a b e mode x).K.Flag==0)=true↔((f.next l n a b e mode x).pl=[]/\(f.next l n a b e mode x).flag=0):=by
  have:(f.next l n a b e mode x).K.Places.length=(f.next l n a b e mode x).pl.length:=e0b _;rw[this,and_eq_true,beq_iff_eq,beq_iff_eq];constructor
  ·rintro⟨h1,m⟩;exact⟨List.eq_nil_of_length_eq_zero O',m⟩
  ·rintro⟨h1,m⟩;exact⟨by rw[h1];rfl,m⟩
 by_cases hs:(f.next l n a b e mode x).pl=[]/\(f.next l n a b e mode x).flag=0
 ·refine .inl ⟨hs.1,hs.2,?_⟩;rw[i];unfold U8 J1;rw[k];simp only;rw[if_pos (g.2 hs)]
 ·have hn:J1 F l mode (M0 cls) f.K j=some ((f.next l n a b e mode x).K,f.src l n a b e mode x):=by
   unfold J1;rw[k];simp only;rw[if_neg (fun h=>hs (g.1 h))]
  refine .inr ⟨hs,M.nx _ p j c2 _ _ hn,?_⟩;rw[i];unfold U8;rw[hn]
end
section
variable {F:Nat}{l:List C0}{n:Nat}{a:List B0}{b:Nat->List B0}{e:Nat->B0×Bool}{z:B0×Bool}{mode:Int}
end
end Go.Proofs.YtihmgaccbcfgjaaGreat
namespace Go.Proofs.YtihmgaccbcfgjaaGreat
open Go.V Go.RowKit Go.X
theorem L0M {α:Type}[Inhabited α]{a b:List α}{i:Nat}(h:i<a.length):gt (a++b) (i:Int)=gt a (i:Int):=by
 have c:gt a (i:Int)=a[i]:=X2 (List.getElem?_eq_getElem h);rw[c];exact X2 (by rw[List.getElem?_append_left h,List.getElem?_eq_getElem h])
def L0c {α:Type}[Inhabited α]{a:List α}{x:α}{i:Nat}(h:i=a.length):gt (a++[x]) (i:Int)=x:=X2 (by subst h;simp)
def L0b (key:Nat->List Bool):∀b,∀x,x<b->∃c:Nat,gt (I3 key b).2 (x:Int)=(c:Int)/\(I3 key b).1[c]?=some (key x)
 |0,x,h=>absurd h (Nat.not_lt_zero x)
 |b+1,x,h=>by
  obtain⟨h1,_,_,_⟩:=k08 key b;rw[show I3 key (b+1)=g0L (I3 key b) (key b)from rfl];unfold g0L;split
  ·rename_i f;rcases lt_or_ge x b with q|q
   ·obtain⟨c,c1,c2⟩:=L0b key b x q;exact⟨c,by simp only;rw[L0M O'];exact c1,c2⟩
   ·obtain rfl:x=b:=O'
    have hi:=List.idxOf_lt_length_of_mem (List.contains_iff_mem.1 f);refine⟨(I3 key x).1.idxOf (key x),L0c h1.symm,?_⟩;simp only;rw[List.getElem?_eq_getElem hi,List.getElem_idxOf hi]
  ·rcases lt_or_ge x b with q|q
   ·obtain⟨c,c1,c2⟩:=L0b key b x q;have d:=(List.getElem?_eq_some_iff.1 c2).1;exact⟨c,by simp only;rw[L0M O'];exact c1,by simp only;rw[List.getElem?_append_left d];exact c2⟩
   ·obtain rfl:x=b:=O'
    exact⟨(I3 key x).1.length,L0c h1.symm,X'⟩
def M09 (key:Nat->List Bool):∀b,b<=256->∀c,c<(I3 key b).1.length->∃x:Nat,x<b/\gt (M0 (I3 key b).2) (c:Int)=(x:Int)/\(I3 key b).1[c]?=some (key x)
 |0,_,c,h=>absurd h (Nat.not_lt_zero c)
 |b+1,hb,c,h=>by
  obtain⟨h1,_,f,_⟩:=k08 key b;rw[show I3 key (b+1)=g0L (I3 key b) (key b)from rfl]at h ⊢;unfold M0 at f ⊢;have g:=M09 key b O';unfold M0 at g;unfold g0L at h ⊢;split at h
  ·rename_i d;rw[if_pos d];have hi:=List.idxOf_lt_length_of_mem (List.contains_iff_mem.1 d);obtain⟨x,x1,x2,i⟩:=g c h;refine⟨x,O',?_,i⟩;simp only;rw[n0C,F9,f,if_neg O'];exact x2
  ·rename_i d;rw[if_neg d];simp only[length_append,length_cons,length_nil]at h;simp only;rw[n0C,F9,f,if_pos rfl,Nat.zero_add,h1];show ∃x:Nat,x<b+1/\gt (F9 (I3 key b).2 0 []++[IntKind.u8.wrap (b:Int)]) (c:Int)=(x:Int)/\_;rcases lt_or_ge c (I3 key b).1.length with q|q
   ·obtain⟨x,x1,x2,i⟩:=g c q;refine⟨x,O',?_,?_⟩
    ·rw[L0M O'];exact x2
    ·rw[List.getElem?_append_left q];exact i
   ·obtain rfl:c=(I3 key b).1.length:=O'
    refine⟨b,O',?_,X'⟩;rw[L0c f.symm];have:IntKind.u8.wrap (b:Int)=(b:Int) % 256:=by rfl
    rw[this];omega
def N0c (key:Nat->List Bool){x:Int}(f:L5 .u8 x):∃c:Nat,gt (I3 key 256).2 x=(c:Int)/\c<(M0 (I3 key 256).2).length/\L5 .u8 (gt (M0 (I3 key 256).2) (c:Int))/\∃y:Nat,gt (M0 (I3 key 256).2) (c:Int)=(y:Int)/\key y=key x.toNat:=by
 have i:0<=x/\x<256:=⟨f.1,by have:=f.2;rw[show IntKind.u8.max=255 from rfl]at this;omega⟩
 obtain⟨_,_,j,_⟩:=k08 key 256;obtain⟨c,c1,c2⟩:=L0b key 256 x.toNat O';have d:=(List.getElem?_eq_some_iff.1 c2).1;obtain⟨y,h,y2,g⟩:=M09 key 256 (le_refl _) c d;rw[show((x.toNat:Nat):Int)=x from O']at c1;refine⟨c,c1,O',?_,y,y2,?_⟩
 ·rw[y2];refine⟨by show(0:Int)<=_;omega,by show(y:Int)<=255;omega⟩
 ·rw[c2]at g;exact(Option.some.inj g).symm
end Go.Proofs.YtihmgaccbcfgjaaGreat
namespace Go.Proofs.YtihmgaccbcfgjaaGreat
open Go.V Go.RowKit Old Go.X
open Classical
def G0g (t:Tm):2*t.leaves<=t.size+1:=by induction t<;>simp[Tm.leaves,Tm.size]<;>omega
section
variable {F:Nat}{l:List C0}{n:Nat}{a:List B0}{b:Nat->List B0}{e:Nat->B0×Bool}{z:B0×Bool}{mode:Int}{w:List Int}{t:Tm}
def G0J (c:I4 l t):N0 l l.length=t.leaves:=by
 have h:=a0R c.at0;rw[Nat.zero_add,<-c.len]at h;rw[h];simp[N0]
def C0w (c:I4 l t):2*N0 l l.length<=l.length+1:=by
 have:=G0g t;rw[G0J c,c.len];exact this
def C09 (K:U3 l n a b e z F)(hw:∀x∈l,P2 x)(hm:mode=0\/mode=1)(hn:n<=20){cls:List Int}(f1:cls.length=256)(f3:(M0 cls).length<=256){B:Nat}(J:B<=100):Sm (j8 F l mode cls (Kd.zero z mode).K B).1:=by
 rcases h0m (J1 F l mode (M0 cls)) (M0 cls).length (Kd.zero z mode).K B with⟨m,m1,h⟩|⟨i,i1,h⟩
 ·obtain⟨_,y,z2⟩:=q0I (z:=z) K hw hm;have v:=j0l cls 0 [] (fun x d=>(by cases d));have I:=a07 l;obtain⟨ok,j⟩:=r0E (R:=K6 F) (acc:=V8 F l) (tags:=C4 l) h (PM F l n) y (fun k hk c r x s d=>by
    obtain⟨x',U,f,g,o,u⟩:=j0B (mode:=mode) K hw hm (least:=M0 cls) v hk r;unfold J1 at d;rw[f]at d;simp only at d;split at d
    ·cases d
    ·cases d;exact⟨g,o,u⟩)
   (fun k hk=>by
    obtain⟨_,f,g⟩:=h0s K hk;exact⟨f,O'⟩)
   (fun k hk=>(n0r K hk).2)
  rw[e0k h];have hlen:=h.1;refine⟨?_,?_,?_,?_,?_,?_⟩
  ·show(List.map _ _).length<=100;rw[length_map];omega
  ·show cls.length<=300;omega
  ·intro s hs;obtain⟨k,hk,rfl⟩:=mem_map.1 hs;show(V8 F l k).length<=40;rcases ok.ac k hk with q|⟨q,_⟩<;>omega
  ·intro s hs;obtain⟨k,hk,rfl⟩:=mem_map.1 hs;show((List.range _).map _).length<=300;rw[length_map,List.length_range];omega
  ·intro s hs;obtain⟨k,hk,rfl⟩:=mem_map.1 hs;show K6 F k<=400;have:=(h0s K (j m k hk)).2.2;omega
  ·intro s hs x d;obtain⟨k,hk,rfl⟩:=mem_map.1 hs;obtain⟨c,c1,rfl⟩:=mem_map.1 d;unfold U8;cases q:J1 F l mode (M0 cls) k c with
   |none=>simp
   |some p=>
    obtain⟨x,s⟩:=p;obtain⟨f,g,_⟩:=ok.nx k hk c (List.mem_range.1 c1) x s q;have:=(h0s K (j m x f)).2.2;show s.length<=400;omega
 ·rw[h0Z h];exact⟨X',X',fun s hs=>(by cases hs),fun s hs=>(by cases hs),fun s hs=>(by cases hs),fun s hs=>(by cases hs)⟩
def C0o (K:U3 l n a b e z F)(hw:∀x∈l,P2 x)(hm:mode=0\/mode=1)(hn:n<=20)(key:Nat->List Bool){B:Nat}(c:B<=100):Sm (j8 F l mode (I3 key 256).2 (Kd.zero z mode).K B).1:=by
 obtain⟨f1,f2,f3,f4⟩:=k08 key 256;exact C09 K hw hm hn f1 (Nat.le_trans (Nat.le_of_eq f3) f4) c
end
end Go.Proofs.YtihmgaccbcfgjaaGreat
namespace Go.Proofs.YtihmgaccbcfgjaaGreat
open Go.V Go.RowKit Old Go.X
def a0z (l:List C0):List (List Int):=(l.filter fun x=>x.Kind==2).map fun x=>x.Set
def a0K (l:List C0)(b:Nat):List Bool:=(a0z l).map fun s=>hasB s (b:Int)
def O0s {l:List C0}{n:Nat}(hn:n=N0 l l.length){x y:Nat}(h:a0K l x=a0K l y):∀r,r<n->s7 l (x:Int) r=s7 l (y:Int) r:=by
 intro r g;obtain⟨q,f,c,d,_⟩:=e05 l l.length r O';have e:gt (G2 l l.length) (r:Int)=(q:Int):=X2 c;show hasB (gt l (gt (G2 l l.length) (r:Int))).Set (x:Int)=hasB (gt l (gt (G2 l l.length) (r:Int))).Set (y:Int);rw[e];unfold a0K at h;refine(List.map_inj_left.1 h) _ ?_;unfold a0z;exact mem_map.2 ⟨gt l (q:Int),List.mem_filter.2 ⟨b8 f,by simpa using d⟩,rfl⟩
end Go.Proofs.YtihmgaccbcfgjaaGreat
namespace Go.Proofs.YtihmgaccbcfgjaaGreat
open Go.V Go.RowKit Old Go.X
open Classical
def k0T {α ρ:Type}[Inhabited α]{a b:List α}(hl:a.length=b.length){good bad:ρ}{body:Int->Option (Q0 Int ρ)}
  (hs:∀i:Nat,i<a.length->body (i:Int)=some (if gt a (i:Int)=gt b (i:Int)then .next ((i+1:Nat):Int)else .done bad)) (he:body (a.length:Int)=some (.done good)) {fu:Nat} (h:a.length<fu):
  iter body fu 0=some (if a=b then good else bad):=by
 have key:∀k i fu:Nat,i+k=a.length->k<fu->a.take i=b.take i->iter body fu (i:Int)=some (if a=b then good else bad):=by
  intro k
  induction k with
  |zero=>
   intro i fu hi f c;obtain⟨fu,rfl⟩:∃m,fu=m+1:=⟨fu-1,O'⟩
   obtain rfl:i=a.length:=O'
   have d:a=b:=by
    rw[take_length]at c;rw[hl,take_length]at c;exact c
   rw[if_pos d];unfold iter;rw[he]
  |succ k ih=>
   intro i fu hi f c;obtain⟨fu,rfl⟩:∃m,fu=m+1:=⟨fu-1,O'⟩
   have hs:=hs i O'
   by_cases q:gt a (i:Int)=gt b (i:Int)
   ·rw[if_pos q]at hs;rw[<-ih (i+1) fu O' O' (by rw[take_succ,take_succ,c,P4 (show i<a.length from O'),P4 (show i<b.length from O'),q])];exact n0D hs
   ·rw[if_neg q]at hs;have:¬a=b:=fun h=>q (by rw[h]);rw[if_neg this];unfold iter;rw[hs]
 exact key a.length 0 fu O' h rfl
section
variable {F:Nat}
def i0S (a b:List Int)(hl:a.length<=1000000)(d:2000001<F):b00 F a b=some (decide (a=b)):=by
 unfold b00
 by_cases h:a.length=b.length
 ·have e:((a.length:Int) != (b.length:Int))=false:=by simp[h]
  rw[k0T h (good:=.inr ()) (bad:=.inl ()) (fun i hi=>by
   unfold n0B;have h1:(i:Int)<(a.length:Int):=O'
   simp only[h1,decide_true,if_true,V0 (l:=a) (i:=(i:Int)) O' h1,V0 (l:=b) (i:=(i:Int)) O' O']
   by_cases g:gt a (i:Int)=gt b (i:Int)
   ·simp[g,X1 (i:=i) O']
   ·simp[g]) (by unfold n0B;simp) (show a.length<F from O')]
  by_cases g:a=b
  ·simp[e,g]
  ·simp[e,g]
 ·have e:((a.length:Int) != (b.length:Int))=true:=by simp;omega
  have g:¬a=b:=fun c=>h (by rw[c]);simp[e,g]
def y0d (x y:D2)(h1:x.B.length<=1000)(u:x.D.length<=1000)(p:∀r∈x.B,r.length<=1000)(o:∀r∈x.D,r.length<=1000)(j:2000001<F):l0p F x y=some (decide (x=y)):=by
 unfold l0p
 by_cases h:x.B.length=y.B.length
 ·have e:((x.B.length:Int) != (y.B.length:Int))=false:=by simp[h]
  rw[k0T h (good:=.inr ()) (bad:=.inl ()) (fun i hi=>by
   unfold m03;have h1:(i:Int)<(x.B.length:Int):=O'
   have:=p _ (b8 (l:=x.B) (i:=i) hi);simp only[q0,h1,V0 (l:=x.B) (i:=(i:Int)) O' h1,V0 (l:=y.B) (i:=(i:Int)) O' O',i0S (F:=F) (gt x.B (i:Int)) (gt y.B (i:Int)) O' j]
   by_cases g:gt x.B (i:Int)=gt y.B (i:Int)
   ·simp[g,X1 (i:=i) O']
   ·simp[g]) (by unfold m03;simp) (show x.B.length<F from O')]
  by_cases g:x.B=y.B
  ·by_cases f:x.D.length=y.D.length
   ·have e':((x.D.length:Int) != (y.D.length:Int))=false:=by simp[f]
    rw[k0T f (good:=.inr ()) (bad:=.inl ()) (fun i hi=>by
     unfold o0l;have h1:(i:Int)<(x.D.length:Int):=O'
     have:=o _ (b8 (l:=x.D) (i:=i) hi);simp only[q0,h1,V0 (l:=x.D) (i:=(i:Int)) O' h1,V0 (l:=y.D) (i:=(i:Int)) O' O',i0S (F:=F) (gt x.D (i:Int)) (gt y.D (i:Int)) O' j]
     by_cases g:gt x.D (i:Int)=gt y.D (i:Int)
     ·simp[g,X1 (i:=i) O']
     ·simp[g]) (by unfold o0l;simp) (show x.D.length<F from O')]
    obtain⟨s,k⟩:=x;obtain⟨q,m⟩:=y;simp only at g e e' ⊢;subst g
    by_cases c:k=m
    ·simp[e,e',c]
    ·simp[e,e',c]
   ·have e':((x.D.length:Int) != (y.D.length:Int))=true:=by simp;omega
    have c:¬x=y:=fun d=>f (by rw[d]);simp[e,g,e',c]
  ·have c:¬x=y:=fun d=>g (by rw[d]);simp[e,g,c]
 ·have e:((x.B.length:Int) != (y.B.length:Int))=true:=by simp;omega
  have g:¬x=y:=fun d=>h (by rw[d]);simp[e,g]
def E0t (a b:F1)(I:a.Places.length<=1000)(hm:a.Maps.length<=1000)(m:∀r∈a.Maps,r.length<=1000)(h1:a.Rank.B.length<=1000)(y:a.Rank.D.length<=1000)(v:∀r∈a.Rank.B,r.length<=1000)(s:∀r∈a.Rank.D,r.length<=1000)(j:2000001<F):h0U F a b=some (decide (a=b)):=by
 unfold h0U;have f:l06 F=some ():=rfl;rw[f,i0S _ _ O' j,y0d _ _ h1 y v s j];obtain⟨o,q,c,x⟩:=a;obtain⟨k,u,d,p⟩:=b;simp only at hm m ⊢
 by_cases c1:o=k
 ·subst c1
  by_cases c2:q=u
  ·subst c2
   by_cases h:c.length=d.length
   ·have e:((c.length:Int) != (d.length:Int))=false:=by simp[h]
    rw[k0T h (good:=.inr ()) (bad:=.inl ()) (fun i hi=>by
     unfold n0F;have h1:(i:Int)<(c.length:Int):=O'
     have:=m _ (b8 (l:=c) (i:=i) hi);simp only[q0,h1,V0 (l:=c) (i:=(i:Int)) O' h1,V0 (l:=d) (i:=(i:Int)) O' O',i0S (F:=F) (gt c (i:Int)) (gt d (i:Int)) O' j]
     by_cases g:gt c (i:Int)=gt d (i:Int)
     ·simp[g,X1 (i:=i) O']
     ·simp[g]) (by unfold n0F;simp) (show c.length<F from O')]
    by_cases c3:c=d
    ·subst c3
     by_cases c4:x=p
     ·simp[e,c4]
     ·simp[e,c4]
    ·simp[e,c3]
   ·have e:((c.length:Int) != (d.length:Int))=true:=by simp;omega
    have c3:¬c=d:=fun f=>h (by rw[f]);simp[e,c3]
  ·simp[c2]
 ·have:(o==k)=false:=by simpa using c1
  simp[this,c1]
end
section
variable {F:Nat}{l:List C0}{n:Nat}{a:List B0}{b:Nat->List B0}{e:Nat->B0×Bool}{z:B0×Bool}{mode:Int}
def y0a (K:U3 l n a b e z F){x:F1}(h:PM F l n x)(y:F1):h0U F x y=some (decide (x=y)):=by
 have f1:=K.f1;have hn:=K.T.n64;obtain⟨h1,g,f,fB,fD,d⟩:=z06 K h;refine E0t x y O' O' (fun r c=>by have:=f r c;omega) ?_ ?_ ?_ ?_ O'
 ·rw[d];simp[U2,U1];omega
 ·rw[d];simp[U2,U1];omega
 ·rw[d];intro r c;simp[U2,U1]at c;obtain⟨i,_,rfl⟩:=c;simp;omega
 ·rw[d];intro r c;simp[U2,U1]at c;obtain⟨i,_,rfl⟩:=c;simp;omega
end
def v08 {K S:Type}[Inhabited K](nxt:K->Nat->Option (K×S))(k:K)(all:List K):∀c,(X3 nxt k all c).length<=all.length+c
 |0=>le_refl _
 |c+1=>by
  have d:=v08 nxt k all c;unfold X3;split
  ·omega
  ·unfold P7;split
   ·omega
   ·simp only[length_append,length_cons,length_nil];omega
def E0Z {K S:Type}[Inhabited K](nxt:K->Nat->Option (K×S))(k:K)(all:List K){c d:Nat}(h:c<=d):X3 nxt k all c <+: X3 nxt k all d:=by
 induction d with
 |zero=>
      obtain rfl:c=0:=O'
      exact prefix_refl _
 |succ d ih=>
  rcases lt_or_ge d c with q|q
  ·obtain rfl:c=d+1:=O'
   exact prefix_refl _
  ·refine(ih q).trans ?_;rw[show X3 nxt k all (d+1)=(match nxt k d with|none=>X3 nxt k all d|some (x,_)=>P7 (X3 nxt k all d) x)from rfl];split
   ·exact prefix_refl _
   ·exact q0c _ _
def u00 {K:Type}[Inhabited K]{nxt:K->Nat->Option (K×List Int)}{k:K}{c:Nat}{L M:List K}(h:L <+: M)(d:∀x s,nxt k c=some (x,s)->x∈L):U8 nxt M k c=U8 nxt L k c:=by
 unfold U8;cases q:nxt k c with
 |none=>rfl
 |some p=>
  obtain⟨x,s⟩:=p;simp only;rw[v09 (d x s q) h]
section
variable {F:Nat}{l:List C0}{n:Nat}{a:List B0}{b:Nat->List B0}{e:Nat->B0×Bool}{z:B0×Bool}{mode:Int}
def A0T (K:U3 l n a b e z F){x:F1}(h:PM F l n x){all:List F1}(hl:all.length<=100000):iter (e0D F all x) F 0=some (if x∈all then .inl ((X6 all x:Nat):Int)else .inr ()):=by
 have f1:=K.f1;have key:∀k i fu:Nat,i+k=all.length->k<fu->(∀j,j<i->all[j]?≠some x)->iter (e0D F all x) fu (i:Int)=some (if x∈all then .inl ((X6 all x:Nat):Int)else .inr ()):=by
  intro k
  induction k with
  |zero=>
   intro i fu hi J o;obtain⟨fu,rfl⟩:∃m,fu=m+1:=⟨fu-1,O'⟩
   obtain rfl:i=all.length:=O'
   have hn:¬x∈all:=fun u=>by
    obtain⟨j,g⟩:=List.getElem?_of_mem u;exact o j (List.getElem?_eq_some_iff.1 g).1 g
   rw[if_neg hn];unfold iter e0D;simp
  |succ k ih=>
   intro i fu hi J o;obtain⟨fu,rfl⟩:∃m,fu=m+1:=⟨fu-1,O'⟩
   have f:i<all.length:=O'
   have h1:(i:Int)<(all.length:Int):=O'
   have hs:=y0a K h (gt all (i:Int));have d:all[i]?=some (gt all (i:Int)):=P4 f
   by_cases q:x=gt all (i:Int)
   ·have hm:x∈all:=by rw[q];exact b8 f
    have hp:X6 all x=i:=by
     have p1:=f0Y hm;have s:=h0o hm;rcases Nat.lt_trichotomy (X6 all x) i with c|c|c
     ·exact absurd s (o _ c)
     ·exact c
     ·exfalso;have I:decide (all[i]=x)=false:=List.not_of_lt_findIdx (p:=fun y=>decide (y=x)) c;rw[List.getElem?_eq_getElem f]at d;exact of_decide_eq_false I ((Option.some.inj d).trans q.symm)
    rw[if_pos hm,hp];unfold iter e0D;simp only[q0,h1,V0 (l:=all) (i:=(i:Int)) O' h1,hs];rw[if_pos (by simpa using q)]
   ·rw[<-ih (i+1) fu O' O' (fun j g=>by
     by_cases r:j=i
     ·subst r;rw[d];exact fun v=>q (Option.some.inj v).symm
     ·exact o j O')]
    refine n0D ?_;unfold e0D;simp only[q0,h1,V0 (l:=all) (i:=(i:Int)) O' h1,hs];rw[if_neg (by simpa using q),X1 (i:=i) O']
 exact key all.length 0 F O' O' (fun j g=>absurd g (Nat.not_lt_zero j))
def y0k (K:U3 l n a b e z F)(hw:∀x∈l,P2 x)(hm:mode=0\/mode=1){least:List Int}(o:∀x∈least,L5 .u8 x){k:F1}(h:PM F l n k){c:Nat}(m:c<least.length){all:List F1}(hl:all.length<=100000):
  f0S F (l,mode,least,all) k (c:Int)=some (U8 (J1 F l mode least) (match J1 F l mode least k c with|none=>all|some (x,_)=>P7 all x) k c,(l,mode,least,match J1 F l mode least k c with|none=>all|some (x,_)=>P7 all x)):=by
 obtain⟨x,s,h1,p,_⟩:=j0B (mode:=mode) K hw hm o h m;have hn:J1 F l mode least k c=if(x.Places.length:Int)==0&&x.Flag==0 then none else some (x,s):=by unfold J1;rw[h1]
 have g:(if(x.Places.length:Int)==0 then some (x.Flag==0)else some false)=some ((x.Places.length:Int)==0&&x.Flag==0):=by cases(x.Places.length:Int)==0<;>rfl
 unfold f0S;simp only[V0 (l:=least) (i:=(c:Int)) O' O',if_true,h1,G0,c0V,g];unfold U8;rw[hn];cases q:((x.Places.length:Int)==0&&x.Flag==0)with
 |true=>simp
 |false=>
  simp only[q0,A0T K p hl]
  by_cases d:x∈all
  ·have hp:¬((X6 all x:Nat):Int)<0:=O'
   simp only[q0,d,hp];unfold P7;rw[if_pos d]
  ·have ap:K0 104 all [x]=true:=B4 Y';have f:X6 (P7 all x) x=all.length:=by
    unfold P7;rw[if_neg d];unfold X6;rw[List.findIdx_append];have:List.findIdx (fun y=>decide (y=x)) all=all.length:=List.findIdx_eq_length.2 fun y j=>by
     simp only[decide_eq_false_iff_not];exact fun h=>d (h▸j)
    rw[this,if_neg (Nat.lt_irrefl _)];simp[List.findIdx_cons]
   simp only[q0,d,show((-1:Int)<0)=True from X',ap,f];unfold P7;rw[if_neg d]
def A0n (K:U3 l n a b e z F)(hw:∀x∈l,P2 x)(hm:mode=0\/mode=1){least:List Int}(q:∀x∈least,L5 .u8 x)(m:least.length<=256){k:F1}(h:PM F l n k){all:List F1}(hl:all.length<=1000):
  f0T F (l,mode,least,all) k=some (T9 (K6 F) (V8 F l) (J1 F l mode least) least.length (X3 (J1 F l mode least) k all least.length) k,(l,mode,least,X3 (J1 F l mode least) k all least.length)):=by
 have f1:=K.f1;have g:=(h0s K h).1;have f:=(n0r K h).1;have d:=H3 (step:=e0z F least k) (fun c=>((c:Int),(l,mode,least,X3 (J1 F l mode least) k all c),(K6 F k,V8 F l k,(List.range c).map (U8 (J1 F l mode least) (X3 (J1 F l mode least) k all least.length) k))))
  ((l,mode,least,X3 (J1 F l mode least) k all least.length),(K6 F k,V8 F l k,(List.range least.length).map (U8 (J1 F l mode least) (X3 (J1 F l mode least) k all least.length) k))) least.length (fun c p=>.inl ?_) ?_ least.length 0 F O' O'
 ·have d:iter (e0z F least k) F (0,(l,mode,least,all),(K6 F k,V8 F l k,[]))=_:=d;unfold f0T;simp only[g,f,G0,c0V,d];rfl
 ·have o:=v08 (J1 F l mode least) k all c;have he:=y0k K hw hm q h p (all:=X3 (J1 F l mode least) k all c) O';have hg:(match J1 F l mode least k c with|none=>X3 (J1 F l mode least) k all c|some (x,_)=>P7 (X3 (J1 F l mode least) k all c) x)=X3 (J1 F l mode least) k all (c+1):=by
   conv=>rhs;rw[X3]
   cases J1 F l mode least k c<;>rfl
  rw[hg]at he;have hp:U8 (J1 F l mode least) (X3 (J1 F l mode least) k all least.length) k c=U8 (J1 F l mode least) (X3 (J1 F l mode least) k all (c+1)) k c:=u00 (E0Z _ _ _ (show c+1<=least.length from O')) (fun x s j=>m0f _ k all (Nat.lt_succ_self c) j);have c1:(c:Int)<(least.length:Int):=O'
  have ap:K0 32 ((List.range c).map (U8 (J1 F l mode least) (X3 (J1 F l mode least) k all least.length) k)) [U8 (J1 F l mode least) (X3 (J1 F l mode least) k all (c+1)) k c]=true:=B4 Y';unfold e0z;simp only[q0,c1,he,ap,X1 (i:=c) O'];rw[range_succ,map_append,map_cons,map_nil,hp]
 ·have c1:¬(least.length:Int)<(least.length:Int):=O'
  unfold e0z;simp only[q0,c1]
end
section
variable {F:Nat}{l:List C0}{n:Nat}{a:List B0}{b:Nat->List B0}{e:Nat->B0×Bool}{z:B0×Bool}{mode:Int}
def z0L (K:U3 l n a b e z F)(hw:∀x∈l,P2 x)(hm:mode=0\/mode=1){least:List Int}(i:∀x∈least,L5 .u8 x){k x:F1}{s:List Int}{c:Nat}(h:PM F l n k)(g:c<least.length)(d:J1 F l mode least k c=some (x,s)):PM F l n x:=by
 obtain⟨x',m,j,f,_⟩:=j0B (mode:=mode) K hw hm i h g;unfold J1 at d;rw[j]at d;simp only at d;split at d
 ·cases d
 ·cases d;exact f
noncomputable def a0G (F:Nat)(l:List C0)(mode:Int)(least:List Int)(k0:F1)(i:Nat):List L3:=
 (List.range i).map fun q=>T9 (K6 F) (V8 F l) (J1 F l mode least) least.length (runK (J1 F l mode least) least.length k0 (q+1)) ((runK (J1 F l mode least) least.length k0 q).getD q default)
def x0N {least:List Int}{k0:F1}{m B:Nat}(h:Y4 (J1 F l mode least) least.length k0 B m):a0G F l mode least k0 m=(runK (J1 F l mode least) least.length k0 m).map (T9 (K6 F) (V8 F l) (J1 F l mode least) least.length (runK (J1 F l mode least) least.length k0 m)):=by
 have hm:=h.1;unfold a0G;refine List.ext_getElem Y' fun i f i2=>?_;have hi:i<m:=by simpa using f
 have hl:=(h.2 i hi).1;rw[List.getElem_map,List.getElem_range,List.getElem_map];have d:(runK (J1 F l mode least) least.length k0 i).getD i default=(runK (J1 F l mode least) least.length k0 m)[i]' O':=by
  rw[<-h0k _ _ _ (le_of_lt hi) hl];simp[List.getD,show i<(runK (J1 F l mode least) least.length k0 m).length from O']
 rw[<-d];unfold T9;congr 1;refine List.map_congr_left fun c j=>?_;exact(u00 (d0g _ _ _ (show i+1<=m from O')) (fun x s g=>t0o _ _ _ (Nat.lt_succ_self i) hl (List.mem_range.1 j) g)).symm
def D0G (K:U3 l n a b e z F)(hw:∀x∈l,P2 x)(hm:mode=0\/mode=1){cls:List Int}{t2:Int}(hT:f0z F l=some (cls,t2))(r:e0e F cls=some (M0 cls))(p:(M0 cls).length<=256)(y:∀x∈M0 cls,L5 .u8 x){B:Nat}(hB:B<=400):
  a05 F l mode (B:Int)=some (j8 F l mode cls (Kd.zero z mode).K B):=by
 have f1:=K.f1;obtain⟨J,U,z2⟩:=q0I (z:=z) K hw hm;have hP:∀i,∀k∈runK (J1 F l mode (M0 cls)) (M0 cls).length (Kd.zero z mode).K i,PM F l n k:=by
  intro i
  induction i with
  |zero=>intro k hk;simp[runK]at hk;rw[hk];exact U
  |succ i ih=>
   intro k hk;rw[show runK (J1 F l mode (M0 cls)) (M0 cls).length (Kd.zero z mode).K (i+1)=if i<(runK (J1 F l mode (M0 cls)) (M0 cls).length (Kd.zero z mode).K i).length then X3 (J1 F l mode (M0 cls)) ((runK (J1 F l mode (M0 cls)) (M0 cls).length (Kd.zero z mode).K i).getD i default) (runK (J1 F l mode (M0 cls)) (M0 cls).length (Kd.zero z mode).K i) (M0 cls).length else runK (J1 F l mode (M0 cls)) (M0 cls).length (Kd.zero z mode).K i from rfl]at hk;split at hk
   ·rename_i hi;rcases g0M _ _ _ _ hk with h1|⟨_,d,s,I,h3⟩
    ·exact ih k h1
    ·exact z0L K hw hm y (ih ((runK (J1 F l mode (M0 cls)) (M0 cls).length (Kd.zero z mode).K i).getD i default) (by
      rw[show(runK (J1 F l mode (M0 cls)) (M0 cls).length (Kd.zero z mode).K i).getD i default=(runK (J1 F l mode (M0 cls)) (M0 cls).length (Kd.zero z mode).K i)[i] by simp[List.getD,hi]];exact List.getElem_mem hi)) I h3
   ·exact ih k hk
 have step:∀i,i<(runK (J1 F l mode (M0 cls)) (M0 cls).length (Kd.zero z mode).K i).length->(runK (J1 F l mode (M0 cls)) (M0 cls).length (Kd.zero z mode).K i).length<=B->
   b0H F (B:Int) ((i:Int),(l,mode,M0 cls,runK (J1 F l mode (M0 cls)) (M0 cls).length (Kd.zero z mode).K i),(C4 l,cls,a0G F l mode (M0 cls) (Kd.zero z mode).K i)) =
    some (.next (((i+1:Nat):Int),(l,mode,M0 cls,runK (J1 F l mode (M0 cls)) (M0 cls).length (Kd.zero z mode).K (i+1)),(C4 l,cls,a0G F l mode (M0 cls) (Kd.zero z mode).K (i+1)))):=by
  intro i hi hb;have hg:gt (runK (J1 F l mode (M0 cls)) (M0 cls).length (Kd.zero z mode).K i) (i:Int)=(runK (J1 F l mode (M0 cls)) (M0 cls).length (Kd.zero z mode).K i).getD i default:=t0O _ _;have f:=b8 hi;have j:=A0n K hw hm y p (hP i _ f) (all:=runK (J1 F l mode (M0 cls)) (M0 cls).length (Kd.zero z mode).K i) O';have g:X3 (J1 F l mode (M0 cls)) (gt (runK (J1 F l mode (M0 cls)) (M0 cls).length (Kd.zero z mode).K i) (i:Int)) (runK (J1 F l mode (M0 cls)) (M0 cls).length (Kd.zero z mode).K i) (M0 cls).length=runK (J1 F l mode (M0 cls)) (M0 cls).length (Kd.zero z mode).K (i+1):=by
   rw[hg]
   conv=>rhs;rw[runK]
   rw[if_pos hi]
  rw[g]at j;have c1:(i:Int)<((runK (J1 F l mode (M0 cls)) (M0 cls).length (Kd.zero z mode).K i).length:Int):=O'
  have c2:¬(400:Int)<(B:Int):=O'
  have c3:¬((runK (J1 F l mode (M0 cls)) (M0 cls).length (Kd.zero z mode).K i).length:Int)>(B:Int):=O'
  have q:=V0 (l:=runK (J1 F l mode (M0 cls)) (M0 cls).length (Kd.zero z mode).K i) (i:=(i:Int)) O' c1;have ap:∀s:L3,K0 56 (a0G F l mode (M0 cls) (Kd.zero z mode).K i) [s]=true:=fun s=>B4 (by simp[a0G];omega);unfold b0H;simp only[q0,c1,c2,c3,q,j,ap,X1 (i:=i) O'];have hs:a0G F l mode (M0 cls) (Kd.zero z mode).K (i+1)=a0G F l mode (M0 cls) (Kd.zero z mode).K i++[T9 (K6 F) (V8 F l) (J1 F l mode (M0 cls)) (M0 cls).length (runK (J1 F l mode (M0 cls)) (M0 cls).length (Kd.zero z mode).K (i+1)) (gt (runK (J1 F l mode (M0 cls)) (M0 cls).length (Kd.zero z mode).K i) (i:Int))]:=by
   unfold a0G;rw[range_succ,map_append,map_cons,map_nil,hg]
  rw[hs]
 have u:iter (q0r F) F ()=some ():=by
  obtain⟨m,rfl⟩:∃m,F=m+1:=⟨F-1,O'⟩
  rfl
 have o:K0 104 ([]:List F1) [(Kd.zero z mode).K]=true:=B4 X';have v:a0G F l mode (M0 cls) (Kd.zero z mode).K 0=[]:=rfl;unfold a05;simp only[q0,J,bne_self_eq_false,hT,r,u,show((-1:Int)<0)=True from X',o,List.nil_append,o0r K.hR (show 401<F from O')];rcases h0m (J1 F l mode (M0 cls)) (M0 cls).length (Kd.zero z mode).K B with⟨m,m1,h⟩|⟨m,m1,h⟩
 ·have c:=H3 (step:=b0H F (B:Int)) (fun i=>((i:Int),(l,mode,M0 cls,runK (J1 F l mode (M0 cls)) (M0 cls).length (Kd.zero z mode).K i),(C4 l,cls,a0G F l mode (M0 cls) (Kd.zero z mode).K i))) (.inr (C4 l,cls,a0G F l mode (M0 cls) (Kd.zero z mode).K m)) m (fun i hi=>.inl (step i (h.2 i hi).1 (h.2 i hi).2)) (by
   have hm:=h.1;have c1:¬(m:Int)<((runK (J1 F l mode (M0 cls)) (M0 cls).length (Kd.zero z mode).K m).length:Int):=O'
   unfold b0H;simp only[q0,c1]) m 0 F O' O'
  have c:iter (b0H F (B:Int)) F (0,(l,mode,M0 cls,[(Kd.zero z mode).K]),(C4 l,cls,[]))=_:=c;rw[c,e0k h];simp only[G0,x0N h];rfl
 ·have c:=H3 (step:=b0H F (B:Int)) (fun i=>((i:Int),(l,mode,M0 cls,runK (J1 F l mode (M0 cls)) (M0 cls).length (Kd.zero z mode).K i),(C4 l,cls,a0G F l mode (M0 cls) (Kd.zero z mode).K i))) (.inl (14,⟨0,[],[]⟩)) m (fun i hi=>.inl (step i (h.2.2 i hi).1 (h.2.2 i hi).2)) (by
   have h1:=h.1;have I:=h.2.1;have c1:(m:Int)<((runK (J1 F l mode (M0 cls)) (M0 cls).length (Kd.zero z mode).K m).length:Int):=O'
   have c2:¬(400:Int)<(B:Int):=O'
   have c3:((runK (J1 F l mode (M0 cls)) (M0 cls).length (Kd.zero z mode).K m).length:Int)>(B:Int):=O'
   unfold b0H;simp only[q0,c1,c2,c3]) m 0 F O' O'
  have c:iter (b0H F (B:Int)) F (0,(l,mode,M0 cls,[(Kd.zero z mode).K]),(C4 l,cls,[]))=_:=c;rw[c,h0Z h];rfl
end
end Go.Proofs.YtihmgaccbcfgjaaGreat
namespace Go.Proofs.YtihmgaccbcfgjaaGreat
open Go.V Go.RowKit Old Go.X
section
variable {F:Nat}{l:List C0}{n:Nat}{a:List B0}{b:Nat->List B0}{e:Nat->B0×Bool}{z:B0×Bool}
def r0z {c:Int}(d:L5 .u8 c):∀(s:List (List Int)),(∀r∈s,r.length=4/\∀y∈r,L5 .u64 y)->d0l F c s=some (s.map fun r=>hasB r c)
 |[],_=>rfl
 |r :: s,h=>by
  unfold d0l;rw[(t0N F (h r X') d).1,r0z d s (fun x f=>h x (List.mem_cons_of_mem _ f))];rfl
def G0L {i:Nat}(h:i<l.length):a0z (l.take (i+1))=a0z (l.take i)++if(gt l (i:Int)).Kind==2 then[(gt l (i:Int)).Set]else[]:=by
 unfold a0z;rw[take_succ,P4 h];simp only[Option.toList,List.filter_append,map_append];congr 1;cases c:(gt l (i:Int)).Kind==2 with
 |true=>rw[List.filter_cons_of_pos (by simpa using c)];rfl
 |false=>rw[List.filter_cons_of_neg (by simpa using c)];rfl
def r0s:(a0z l).length<=l.length:=by
 unfold a0z;rw[length_map];exact List.length_filter_le _ _
def I0v (K:U3 l n a b e z F)(hw:∀x∈l,P2 x)(hl:l.length<=1000):f0z F l=some ((I3 (a0K l) 256).2,((I3 (a0K l) 256).1.length:Int)):=by
 have f1:=K.f1;have hs:∀r∈a0z l,r.length=4/\∀y∈r,L5 .u64 y:=fun r h=>by
  unfold a0z at h;obtain⟨x,j,rfl⟩:=mem_map.1 h;have:=hw x (List.mem_filter.1 j).1;unfold P2 at this;exact this.2.2.2.2
 have d:=H3 (step:=g08 F l) (fun i=>(a0z (l.take i),(i:Int))) (a0z l) l.length (fun i hi=>.inl ?_) ?_ l.length 0 F O' O'
 ·have d:iter (g08 F l) F ([],0)=some (a0z l):=d;have f:f0P F (a0z l)=some ((I3 (a0K l) 256).2,((I3 (a0K l) 256).1.length:Int)):=by
   have:=r0s (l:=l);unfold f0P;rw[if_pos Y',r0X (key:=a0K l) 256 (fun c k s=>?_)]
   ·rfl
   ·unfold f04;rw[r0z (c:=(c:Int)) ⟨by show(0:Int)<=_;omega,by show(c:Int)<=255;omega⟩ _ hs];show(if s.1.contains (a0K l c)then _ else _)=_;unfold g0L;split<;>rfl
  unfold f0z;simp only[q0,K.TF.mR,d,f]
 ·have c1:(i:Int)<(l.length:Int):=O'
  have g:=r0s (l:=l.take i);rw[List.length_take]at g;have ap:K0 32 (a0z (l.take i)) [(gt l (i:Int)).Set]=true:=B4 Y';unfold g08;simp only[c1,decide_true,if_true,V0 (l:=l) (i:=(i:Int)) O' c1,ap,X1 (i:=i) O'];rw[G0L hi];cases c:(gt l (i:Int)).Kind==2 with
  |true=>simp
  |false=>simp
 ·have c1:¬(l.length:Int)<(l.length:Int):=O'
  unfold g08;simp only[q0,c1,take_length]
end
