/- P. Its conditions: none. -/
import Derived.Test.YtihmgaccbcfgjaaGreatRG46
import Derived.Test.YtihmgaccbcfgjaaGreatRG45
import Derived.Test.YtihmgaccbcfgjaaGreatRG30
import Derived.Test.YtihmgaccbcfgjaaGreatRMd
open List (prefix_refl all_eq_true mem_map mem_range getElem_mem length_cons length_append range_succ length_map take_length take_succ map_append map_cons map_nil)
open Nat (lt_or_ge zero_le le_of_lt)
open Bool (and_eq_true false_eq_true)
set_option linter.all false
namespace Go.Proofs.YtihmgaccbcfgjaaGreat
open Classical
section
variable {K S:Type}[Inhabited K]
noncomputable def P7 (all:List K)(x:K):List K:=if x∈all then all else all++[x]
noncomputable def X6 (all:List K)(x:K):Nat:=all.findIdx fun y=>decide (y=x)
theorem q0c (all:List K)(x:K):all <+: P7 all x:=by
 grind [P7]
theorem I04 (all:List K)(x:K):x∈P7 all x:=by
 grind [P7]
theorem F0S {all:List K}(h:all.Nodup)(x:K):(P7 all x).Nodup:=by
 grind [P7]
theorem z0K {all:List K}{x y:K}(h:y∈P7 all x):y∈all\/(y=x/\x∉all/\P7 all x=all++[x]):=by
 unfold P7 at h ⊢
 grind
def f0Y {all:List K}{x:K}(h:x∈all):X6 all x<all.length:=by
 simp_all[X6]
theorem h0o {all:List K}{x:K}(h:x∈all):all[X6 all x]?=some x:=by
 have hl:=f0Y h;have:=List.findIdx_getElem (xs:=all) (p:=fun y=>decide (y=x)) (w:=hl);rw[List.getElem?_eq_getElem hl];congr 1;exact of_decide_eq_true this
theorem v09 {all more:List K}{x:K}(h:x∈all)(hp:all <+: more):X6 more x=X6 all x:=by
 obtain⟨r,rfl⟩:=hp
 simp_all[X6,List.findIdx_append]
noncomputable def X3 (nxt:K->Nat->Option (K×S))(k:K)(all:List K):Nat->List K
 |0=>all
 |c+1=>match nxt k c with
  |none=>X3 nxt k all c
  |some (x,_)=>P7 (X3 nxt k all c) x
theorem k0S (nxt:K->Nat->Option (K×S))(k:K)(all:List K):∀c,all <+: X3 nxt k all c
 |0=>prefix_refl _
 |c+1=>by
  unfold X3;split
  ·simp[k0S]
  ·exact(k0S nxt k all c).trans (q0c _ _)
def n0G (nxt:K->Nat->Option (K×S))(k:K){all:List K}(h:all.Nodup):∀c,(X3 nxt k all c).Nodup
 |0=>h
 |c+1=>by
  unfold X3;split
  ·simp_all[n0G]
  simp_all[F0S,n0G]
theorem m0f (nxt:K->Nat->Option (K×S))(k:K)(all:List K){x:K}{s:S}:∀{c d:Nat},d<c->nxt k d=some (x,s)->x∈X3 nxt k all c
 |c+1,d,h,hx=>by
  unfold X3;rcases lt_or_ge d c with h1|h1
  ·have:=m0f nxt k all h1 hx
   grind [q0c]
  ·obtain rfl:d=c:=O'
   simp_all[I04]
theorem g0M (nxt:K->Nat->Option (K×S))(k:K)(all:List K):∀(c:Nat) {x:K},x∈X3 nxt k all c->x∈all\/(x∉all/\∃d s,d<c/\nxt k d=some (x,s))
 |0,x,h=>.inl h
 |c+1,x,h=>by
  unfold X3 at h;split at h
  ·rcases g0M nxt k all c h with h1|⟨h1,d,s,h2,h3⟩
   ·simp_all
   grind
  ·rcases z0K h with h0|⟨rfl,h1,_⟩
   ·rcases g0M nxt k all c h0 with h1|⟨h1,d,s,h2,h3⟩
    ·simp_all
    grind
   grind
noncomputable def runK (nxt:K->Nat->Option (K×S))(C:Nat)(k0:K):Nat->List K
 |0=>[k0]
 |i+1=>if i<(runK nxt C k0 i).length then X3 nxt ((runK nxt C k0 i).getD i default) (runK nxt C k0 i) C else runK nxt C k0 i
variable (nxt:K->Nat->Option (K×S))(C:Nat)(k0:K)
theorem q05 (i:Nat):runK nxt C k0 i <+: runK nxt C k0 (i+1):=by
 rw[show runK nxt C k0 (i+1)=if i<(runK nxt C k0 i).length then X3 nxt ((runK nxt C k0 i).getD i default) (runK nxt C k0 i) C else runK nxt C k0 i from rfl]
 grind [k0S]
theorem d0g {i j:Nat}(h:i<=j):runK nxt C k0 i <+: runK nxt C k0 j:=by
 induction j with
 |zero=>simp_all
 |succ j ih=>
  rcases lt_or_ge j i with c|c
  ·grind
  grind [q05]
def o0B:∀i,(runK nxt C k0 i).Nodup
 |0=>by simp[runK]
 |i+1=>by
  rw[show runK nxt C k0 (i+1)=if i<(runK nxt C k0 i).length then X3 nxt ((runK nxt C k0 i).getD i default) (runK nxt C k0 i) C else runK nxt C k0 i from rfl];split
  ·simp[n0G,o0B]
  simp[o0B]
theorem q0x (i:Nat):0<(runK nxt C k0 i).length:=by
 have:=(d0g nxt C k0 (zero_le i)).length_le
 grind [runK]
theorem h0k {i j q:Nat}(c:i<=j)(h:q<(runK nxt C k0 i).length):(runK nxt C k0 j).getD q default=(runK nxt C k0 i).getD q default:=by
 obtain⟨r,d⟩:=d0g nxt C k0 c
 grind
theorem s0V:∀(i:Nat) {x:K},x∈runK nxt C k0 i->x=k0\/∃q d s,q<i/\q<(runK nxt C k0 q).length/\d<C/\nxt ((runK nxt C k0 q).getD q default) d=some (x,s)/\q<X6 (runK nxt C k0 i) x
 |0,x,h=>.inl (by simp_all[runK])
 |i+1,x,h=>by
  have hp:=q05 nxt C k0 i;have g:=h;rw[show runK nxt C k0 (i+1)=if i<(runK nxt C k0 i).length then X3 nxt ((runK nxt C k0 i).getD i default) (runK nxt C k0 i) C else runK nxt C k0 i from rfl]at h;have old:x∈runK nxt C k0 i->x=k0\/∃q d s,q<i+1/\q<(runK nxt C k0 q).length/\d<C/\nxt ((runK nxt C k0 q).getD q default) d=some (x,s)/\q<X6 (runK nxt C k0 (i+1)) x:=fun j=>by
   rcases s0V i j with h1|⟨q,d,s,h1,h2,h3,h4,h5⟩
   ·simp_all
   grind [v09]
  split at h
  ·rename_i hi;rcases g0M nxt _ _ C h with h1|⟨h1,d,s,h2,h3⟩
   ·simp_all
   ·refine .inr ⟨i,d,s,O',hi,h2,h3,?_⟩;have f:=h0o g;rcases lt_or_ge i (X6 (runK nxt C k0 (i+1)) x)with c|c
    ·exact c
    ·obtain⟨r,k⟩:=hp
     grind
  simp_all
theorem t0o {i j:Nat}(hi:i<j)(hl:i<(runK nxt C k0 i).length){d:Nat}(hd:d<C){x:K}{s:S}(h:nxt ((runK nxt C k0 i).getD i default) d=some (x,s)):x∈runK nxt C k0 j:=by
 refine(d0g nxt C k0 (show i+1<=j from hi)).subset ?_;rw[show runK nxt C k0 (i+1)=if i<(runK nxt C k0 i).length then X3 nxt ((runK nxt C k0 i).getD i default) (runK nxt C k0 i) C else runK nxt C k0 i from rfl,if_pos hl]
 grind [m0f]
def Y4 (B n:Nat):Prop:=n=(runK nxt C k0 n).length/\∀i,i<n->i<(runK nxt C k0 i).length/\(runK nxt C k0 i).length<=B
def i0N (B i:Nat):Prop:=i<(runK nxt C k0 i).length/\B<(runK nxt C k0 i).length/\∀j,j<i->j<(runK nxt C k0 j).length/\(runK nxt C k0 j).length<=B
theorem h0m (B:Nat):(∃n,n<=B/\Y4 nxt C k0 B n)\/∃i,i<=B/\i0N nxt C k0 B i:=by
 have key:∀m,(∀i,i<m->i<(runK nxt C k0 i).length/\(runK nxt C k0 i).length<=B)->m<=B+1->(∃n,n<=B/\Y4 nxt C k0 B n)\/∃i,i<=B/\i0N nxt C k0 B i:=by
  intro m
  induction h:B+1-m generalizing m with
  |zero=>
   intro hm hle;have:=hm B O';omega
  |succ t ih=>
   intro hm hle
   by_cases c1:m<(runK nxt C k0 m).length
   ·by_cases c2:(runK nxt C k0 m).length<=B
    ·exact ih (m+1) O' (fun i hi=>by
      grind) O'
    ·exact .inr ⟨m,O',c1,O',hm⟩
   ·have c:m<=(runK nxt C k0 m).length:=by
     rcases Nat.eq_zero_or_pos m with h0|h0
     ·omega
     ·have h1:=(hm (m-1) O').1;have d:=(d0g nxt C k0 (show m-1<=m from O')).length_le;omega
    exact .inl ⟨m,O',O',hm⟩
 exact key 0 (fun i h=>O') O'
theorem Y4.le {B n:Nat}(h:Y4 nxt C k0 B n):n<=B:=by
 obtain⟨h1,c⟩:=h
 grind
theorem Y4.more {B B' n:Nat}(h:Y4 nxt C k0 B n)(d:n<=B'):Y4 nxt C k0 B' n:=by
 obtain⟨h1,c⟩:=h;refine⟨h1,fun i hi=>⟨(c i hi).1,?_⟩⟩;have:=(d0g nxt C k0 (le_of_lt hi)).length_le;omega
def Y4.uniq {B B' n d:Nat}(h:Y4 nxt C k0 B n)(f:Y4 nxt C k0 B' d):n=d:=by
 rcases Nat.lt_trichotomy n d with c|c|c
 ·have:=(f.2 n c).1;have:=h.1;omega
 ·exact c
 ·have:=(h.2 d c).1;have:=f.1;omega
theorem Y4.less {B B' n i:Nat}(h:Y4 nxt C k0 B n)(ho:i0N nxt C k0 B' i):B'<n:=by
 rcases lt_or_ge i n with c|c
 ·have:=(d0g nxt C k0 (le_of_lt c)).length_le;have:=h.1;have:=ho.2.1;omega
 ·rcases lt_or_ge n i with c2|c2
  ·have:=(ho.2.2 n c2).1;have:=h.1;omega
  ·obtain rfl:i=n:=O'
   have:=ho.1;have:=h.1;omega
def Y4.fits {B B' n i:Nat}(h:Y4 nxt C k0 B n)(c:n<=B')(ho:i0N nxt C k0 B' i):False:=by
 have:=Y4.less nxt C k0 h ho;omega
end
end Go.Proofs.YtihmgaccbcfgjaaGreat
namespace Go.Proofs.YtihmgaccbcfgjaaGreat
open Go.V Go.RowKit Go.X
variable {F:Nat}
structure Bd (d:Y1):Prop where
 st:d.States.length<=1000
 cl:d.Class.length<=1000
 ac:∀s∈d.States,s.Accept.length<=1000
 ed:∀s∈d.States,s.Edges.length<=1000
 sr:∀s∈d.States,∀x∈s.Edges,x.Src.length<=100000
def Sm.bd {d:Y1}(h:Sm d):Bd d:=⟨by have:=h.st;omega,by have:=h.cl;omega,fun s hs=>by have:=h.ac s hs;omega,fun s hs=>by have:=h.ed s hs;omega,fun s hs x c=>by have:=h.sr s hs x c;omega⟩
end Go.Proofs.YtihmgaccbcfgjaaGreat
namespace Go.Proofs.YtihmgaccbcfgjaaGreat
open Go.V Go.RowKit Go.X
variable {F:Nat}
def i0C (d:Y1)(i j:Nat):Prop:=∃x∈(gt d.States (i:Int)).Edges,x.To=(j:Int)
inductive c0i (d:Y1):Nat->Prop
 |zero:c0i d 0
 |step {i j:Nat}:c0i d i->i0C d i j->c0i d j
def tt (l:List Bool)(i:Nat):Prop:=l[i]?=some true
def o8 (l:List Bool):Nat:=l.count false
theorem f0i {l:List Bool}{i:Nat}(hi:i<l.length)(h:¬tt l i):o8 (l.set i true)+1=o8 l:=by
 unfold o8 tt at *
 grind
end Go.Proofs.YtihmgaccbcfgjaaGreat
namespace Go.Proofs.YtihmgaccbcfgjaaGreat
open Go.V Go.RowKit Go.X
open Classical
section
variable {K:Type}[Inhabited K](R:K->Int)(acc:K->List Int)(nxt:K->Nat->Option (K×List Int))(C:Nat)
noncomputable def U8 (L:List K)(k:K)(c:Nat):H4:=match nxt k c with
 |none=>⟨-1,[]⟩
 |some (x,s)=>⟨(X6 L x:Nat),s⟩
noncomputable def T9 (L:List K)(k:K):L3:=⟨R k,acc k,(List.range C).map (U8 nxt L k)⟩
noncomputable def b0F (tags:Int)(cls:List Int)(L:List K):Y1:=⟨tags,cls,L.map (T9 R acc nxt C L)⟩
structure OkL (tags:Int)(L:List K):Prop where
 rg:∀k∈L,0<=R k/\R k<=1216
 ac:∀k∈L,((acc k).length:Int)=0\/(((acc k).length:Int)=tags/\∀v∈acc k,v=-2\/v=-1\/(0<=v/\v<R k))
 nx:∀k∈L,∀c,c<C->∀x s,nxt k c=some (x,s)->x∈L/\(s.length:Int)=R x/\∀v∈s,v=-1\/(0<=v/\v<R k)
def r0c {v r:Int}(h:v=-1\/(0<=v/\v<r)):z6 v r=true:=by
 unfold z6;rcases h with rfl|⟨h1,h2⟩
 ·rfl
 ·simp[h1,h2]
def v0y {α β:Type}[Inhabited α][Inhabited β]{L:List α}{f:α->β}{i:Nat}(h:i<L.length):gt (L.map f) (i:Int)=f (L.getD i default):=by
 refine X2 ?_;rw[List.getElem?_map,List.getElem?_eq_getElem h];simp[List.getD,h]
variable {R acc nxt C}
def C0Q {tags:Int}{cls:List Int}{L:List K}(h:OkL R acc nxt C tags L)(t1:1<=tags)(t2:tags<=19)(t3:tags.tmod 2≠0)(u:J8 cls=true)(I:C=(M0 cls).length)(h0:L≠[])(hl:L.length<=400)(J:R (L.getD 0 default)=0):a0V (b0F R acc nxt C tags cls L)=true:=by
 have o:0<L.length:=List.length_pos_iff.2 h0;have d:(b0F R acc nxt C tags cls L).States.length=L.length:=by simp[b0F]
 have e0:gt (b0F R acc nxt C tags cls L).States 0=T9 R acc nxt C L (L.getD 0 default):=v0y (i:=0) o;have m:∀k∈L,∀c,c<C->L7 (b0F R acc nxt C tags cls L) (R k) (U8 nxt L k c)=true:=by
  intro k hk c u;unfold U8;cases e:nxt k c with
  |none=>simp[L7]
  |some p=>
   obtain⟨x,s⟩:=p;obtain⟨y,a2,a3⟩:=h.nx k hk c u x s e;have hp:=f0Y y;have g:=h0o y;have hg:gt (b0F R acc nxt C tags cls L).States ((X6 L x:Nat):Int)=T9 R acc nxt C L x:=by
    refine X2 ?_;show(L.map (T9 R acc nxt C L))[X6 L x]?=_;rw[List.getElem?_map,g];rfl
   unfold L7;simp only;rw[if_neg O',hg,d];have:∀v∈s,z6 v (R k)=true:=fun v j=>r0c (a3 v j);simp only[T9,a2,beq_self_eq_true,Bool.and_true];simp only[and_eq_true,decide_eq_true_eq,all_eq_true];exact⟨⟨O',O'⟩,this⟩
 have r:∀k∈L,b0X (b0F R acc nxt C tags cls L) (M0 cls).length (T9 R acc nxt C L k)=true:=by
  intro k hk;obtain⟨r1,r2⟩:=h.rg k hk;have f:c0C (T9 R acc nxt C L k) tags=true:=by
   unfold c0C T9;rcases h.ac k hk with q|⟨q1,q2⟩
   ·simp only[q];rfl
   ·simp only[q1,beq_self_eq_true,Bool.true_and];rw[Bool.or_eq_true];right;rw[all_eq_true];intro v j;rcases q2 v j with z|z
    ·rw[z];rfl
    ·rw[r0c z,Bool.or_true]
  unfold b0X;simp only[and_eq_true,decide_eq_true_eq,all_eq_true,beq_iff_eq];refine⟨⟨⟨⟨r1,r2⟩,?_⟩,f⟩,fun x U=>?_⟩
  ·simp[T9,I]
  ·obtain⟨c,c1,rfl⟩:=mem_map.1 U;exact m k hk c (mem_range.1 c1)
 unfold a0V;rw[e0];simp only[and_eq_true,decide_eq_true_eq,all_eq_true,beq_iff_eq,Bool.not_eq_true',beq_eq_false_iff_ne,d];refine⟨⟨⟨⟨⟨⟨⟨t1,t2⟩,t3⟩,O'⟩,O'⟩,u⟩,fun s hs=>?_⟩,J⟩;obtain⟨k,hk,rfl⟩:=mem_map.1 hs;exact r k hk
def E0v {tags:Int}{cls:List Int}{k0:K}{B n:Nat}(h:Y4 nxt C k0 B n):∀q,q<n->c0i (b0F R acc nxt C tags cls (runK nxt C k0 n)) q:=by
 have hn:=h.1;intro q
 induction q using Nat.strongRecOn with
 |_ q ih=>
  intro u;have o:q<(runK nxt C k0 n).length:=O'
  have g:=o0B nxt C k0 n;have c:=getElem_mem o;have f:X6 (runK nxt C k0 n) (runK nxt C k0 n)[q]=q:=by
   have h1:=f0Y c;have k:=h0o c;rw[List.getElem?_eq_getElem h1]at k;exact(List.getElem_inj g).1 (Option.some.inj k)
  rcases s0V nxt C k0 n c with h1|⟨p,d,s,p1,p2,p3,p4,p5⟩
  ·have k:(runK nxt C k0 n).getD 0 default=k0:=by
    have:=h0k nxt C k0 (i:=0) (j:=n) (q:=0) (zero_le _) (by simp[runK]);rw[this];rfl
   have m:(runK nxt C k0 n)[0]' O'=(runK nxt C k0 n).getD 0 default:=by simp[List.getD,show 0<(runK nxt C k0 n).length from O']
   have r:=m.trans k;have:q=0:=(List.getElem_inj g).1 (by rw[h1,r]);subst this;exact .zero
  ·rw[f]at p5;refine .step (ih p p5 O') ⟨U8 nxt (runK nxt C k0 n) ((runK nxt C k0 n).getD p default) d,?_,?_⟩
   ·have:gt (b0F R acc nxt C tags cls (runK nxt C k0 n)).States (p:Int)=T9 R acc nxt C (runK nxt C k0 n) ((runK nxt C k0 n).getD p default):=v0y O';rw[this];exact mem_map.2 ⟨d,mem_range.2 p3,rfl⟩
   ·rw[h0k nxt C k0 (le_of_lt p1) p2];unfold U8;rw[p4];simp only[f]
def r0E {tags:Int}{k0:K}{B n:Nat}(h:Y4 nxt C k0 B n)(P:K->Prop)(q:P k0)(hs:∀k,P k->∀c,c<C->∀x s,nxt k c=some (x,s)->P x/\(s.length:Int)=R x/\∀v∈s,v=-1\/(0<=v/\v<R k))
  (p:∀k,P k->0<=R k/\R k<=1216) (ha:∀k,P k->((acc k).length:Int)=0\/(((acc k).length:Int)=tags/\∀v∈acc k,v=-2\/v=-1\/(0<=v/\v<R k))):OkL R acc nxt C tags (runK nxt C k0 n)/\∀i,∀k∈runK nxt C k0 i,P k:=by
 have g:∀i,∀k∈runK nxt C k0 i,P k:=by
  intro i
  induction i with
  |zero=>intro k hk;simp[runK]at hk;rw[hk];exact q
  |succ i ih=>
   intro k hk;rw[show runK nxt C k0 (i+1)=if i<(runK nxt C k0 i).length then X3 nxt ((runK nxt C k0 i).getD i default) (runK nxt C k0 i) C else runK nxt C k0 i from rfl]at hk;split at hk
   ·rename_i hi;rcases g0M nxt _ _ C hk with h1|⟨_,d,s,h2,h3⟩
    ·exact ih k h1
    ·refine(hs _ (ih _ ?_) d h2 k s h3).1;rw[show(runK nxt C k0 i).getD i default=(runK nxt C k0 i)[i] by simp[List.getD,hi]];exact getElem_mem hi
   ·exact ih k hk
 refine⟨⟨fun k hk=>p k (g n k hk),fun k hk=>ha k (g n k hk),fun k hk c m x s e=>?_⟩,g⟩;obtain⟨r,a2,a3⟩:=hs k (g n k hk) c m x s e;refine⟨?_,a2,a3⟩;have hp:=f0Y hk;have j:=h0o hk;have f:X6 (runK nxt C k0 n) k<n:=by have:=h.1;omega
 have hl:=(h.2 _ f).1;have o:(runK nxt C k0 (X6 (runK nxt C k0 n) k)).getD (X6 (runK nxt C k0 n) k) default=k:=by
  rw[<-h0k nxt C k0 (le_of_lt f) hl];rw[List.getD_eq_getElem?_getD,j];rfl
 exact t0o nxt C k0 f hl m (by rw[o];exact e)
end
end Go.Proofs.YtihmgaccbcfgjaaGreat
namespace Go.Proofs.YtihmgaccbcfgjaaGreat
open Go.V Go.RowKit Go.X
def u8_in (x:Int):L5 .u8 (IntKind.u8.wrap x):=by
 unfold L5;have h1:IntKind.u8.wrap x=x % 256:=by rfl
 have d:IntKind.u8.min=0:=by rfl
 have c:IntKind.u8.max=255:=by rfl
 rw[h1,d,c];omega
def g0L (s:List (List Bool)×List Int)(k:List Bool):List (List Bool)×List Int:=if s.1.contains k then(s.1,s.2++[(s.1.idxOf k:Int)])else(s.1++[k],s.2++[(s.1.length:Int)])
def I3 (key:Nat->List Bool):Nat->List (List Bool)×List Int
 |0=>([],[])
 |b+1=>g0L (I3 key b) (key b)
def q0i:∀(o:List Int) (c n:Int),N6 (o++[c]) n=(N6 o n).bind fun m=>N6 [c] m
 |[],c,n=>rfl
 |x :: r,c,n=>by
  show N6 (x :: (r++[c])) n=_;unfold N6;split
  ·rfl
  ·exact q0i r c _
def n0C:∀(o:List Int) (c:Int) (b:Nat) (out:List Int),F9 (o++[c]) b out=F9 [c] (b+o.length) (F9 o b out)
 |[],c,b,out=>rfl
 |x :: r,c,b,out=>by
  show F9 (x :: (r++[c])) b out=_;rw[F9,n0C r c (b+1),length_cons,show b+(r.length+1)=b+1+r.length from O'];rfl
def j0l:∀(o:List Int) (b:Nat) (out:List Int),(∀x∈out,L5 .u8 x)->∀x∈F9 o b out,L5 .u8 x
 |[],b,out,h=>h
 |c :: r,b,out,h=>by
  rw[F9];refine j0l r (b+1) _ fun x d=>?_;split at d
  ·rcases List.mem_append.1 d with h1|h1
   ·exact h x h1
   ·simp only[List.mem_singleton]at h1;subst h1;exact u8_in _
  ·exact h x d
def k08 (key:Nat->List Bool):∀b,(I3 key b).2.length=b/\N6 (I3 key b).2 0=some ((I3 key b).1.length:Int)/\(M0 (I3 key b).2).length=(I3 key b).1.length/\(I3 key b).1.length<=b
 |0=>⟨rfl,rfl,rfl,Nat.le_refl _⟩
 |b+1=>by
  obtain⟨h1,d,c,g⟩:=k08 key b;rw[show I3 key (b+1)=g0L (I3 key b) (key b)from rfl];unfold M0 at c ⊢;unfold g0L;split
  ·rename_i f;have hi:=List.idxOf_lt_length_of_mem (List.contains_iff_mem.1 f);refine⟨by simp[h1],?_,?_,by simp only;omega⟩
   ·simp only;rw[q0i,d];show N6 [_] _=_;unfold N6;rw[if_neg O',if_neg O'];rfl
   ·simp only;rw[n0C,F9,c,if_neg O'];exact c
  ·refine⟨by simp[h1],?_,?_,by simp only[length_append,length_cons,List.length_nil];omega⟩
   ·simp only;rw[q0i,d];show N6 [_] _=_;unfold N6;rw[if_neg O',if_pos rfl];unfold N6;simp
   ·simp only;rw[n0C,F9,c,if_pos rfl];show(F9 _ _ _++[_]).length=_;rw[length_append,c,length_append];rfl
def u0X (key:Nat->List Bool):J8 (I3 key 256).2=true:=by
 obtain⟨h1,c,_⟩:=k08 key 256;unfold J8;rw[c,h1];rfl
def r0X {key:Nat->List Bool}{f:List (List Bool)×List Int->Nat->Option (List (List Bool)×List Int)}:∀(n:Nat),(∀b,b<n->∀s,f s b=some (g0L s (key b)))->(List.range n).foldlM f ([],[])=some (I3 key n)
 |0,h=>rfl
 |n+1,h=>by
  rw[range_succ,List.foldlM_append,r0X n (fun b c=>h b O')];show(List.foldlM f (I3 key n) [n])=_;simp only[List.foldlM,h n O'];rfl
end Go.Proofs.YtihmgaccbcfgjaaGreat
namespace Go.Proofs.YtihmgaccbcfgjaaGreat
open Go.V Go.RowKit Old Go.X
open Classical
section
variable {F:Nat}{l:List C0}{n:Nat}{a:List B0}{b:Nat->List B0}{e:Nat->B0×Bool}{z:B0×Bool}{mode:Int}
def J1 (F:Nat)(l:List C0)(mode:Int)(least:List Int)(k:F1)(c:Nat):Option (F1×List Int):=match c0Q F l mode k (gt least (c:Int))with
 |some (x,s)=>if(x.Places.length:Int)==0&&x.Flag==0 then none else some (x,s)
 |none=>none
def K6 (F:Nat)(k:F1):Int:=(c0k F k).getD 0
def V8 (F:Nat)(l:List C0)(k:F1):List Int:=(c0s F l k).getD []
def PM (F:Nat)(l:List C0)(n:Nat)(k:F1):Prop:=∃kd R,k=kd.K/\KOk F l n kd R
def q0I (K:U3 l n a b e z F)(hw:∀x∈l,P2 x)(hm:mode=0\/mode=1):d0z F l mode=some ((Kd.zero z mode).K,0)/\PM F l n (Kd.zero z mode).K/\K6 F (Kd.zero z mode).K=0:=by
 obtain⟨h1,c⟩:=A0M K hw hm;exact⟨h1,⟨_,0,rfl,c⟩,by unfold K6;rw[c.rg];rfl⟩
def j0B (K:U3 l n a b e z F)(hw:∀x∈l,P2 x)(hm:mode=0\/mode=1){least:List Int}(g:∀x∈least,L5 .u8 x){k:F1}(h:PM F l n k){c:Nat}(j:c<least.length):
  ∃x s,c0Q F l mode k (gt least (c:Int))=some (x,s)/\PM F l n x/\(s.length:Int)=K6 F x/\∀v∈s,v=-1\/(0<=v/\v<K6 F k):=by
 obtain⟨kd,R,rfl,hk⟩:=h;obtain⟨h1,d,f⟩:=x0l K hw hk hm (g _ (b8 j));refine⟨_,_,h1,⟨_,_,rfl,d⟩,?_,fun v i=>?_⟩
 ·unfold K6;rw[d.rg];rfl
 ·unfold K6;rw[hk.rg];exact f v i
def h0s (K:U3 l n a b e z F){k:F1}(h:PM F l n k):c0k F k=some (K6 F k)/\0<=K6 F k/\K6 F k<=n*19:=by
 obtain⟨kd,R,rfl,hk⟩:=h;have:=hk.le;unfold K6;rw[hk.rg];refine⟨rfl,?_,?_⟩
 ·show(0:Int)<=(R:Int);omega
 ·show(R:Int)<=_;omega
def n0r (K:U3 l n a b e z F){k:F1}(h:PM F l n k):c0s F l k=some (V8 F l k)/\(((V8 F l k).length:Int)=0\/(((V8 F l k).length:Int)=C4 l/\∀v∈V8 F l k,v=-2\/v=-1\/(0<=v/\v<K6 F k))):=by
 obtain⟨kd,R,rfl,hk⟩:=h;have f:=a07 l;obtain⟨h1,c,d⟩:=D0j K hk;unfold V8 K6;rw[h1,hk.rg];refine⟨rfl,?_⟩;rcases c with c|c
 ·exact .inl (by show((a06 l e z kd).length:Int)=0;omega)
 ·exact .inr ⟨by show((a06 l e z kd).length:Int)=C4 l;omega,d⟩
def z06 (K:U3 l n a b e z F){k:F1}(h:PM F l n k):k.Places.length<=n/\k.Maps.length=k.Places.length/\(∀r∈k.Maps,r.length<=19)/\∃fB fD,k.Rank=U2 k.Places.length fB fD:=by
 obtain⟨kd,R,rfl,hk⟩:=h;have hl:=hk.C.le;have d:=a07 l;refine⟨?_,?_,fun r c=>?_,kd.fB,kd.fD,?_⟩
 ·show(D1 kd.pl).length<=n;rw[e0b];exact hl
 ·show kd.maps.length=(D1 kd.pl).length;rw[e0b];exact hk.C.len
 ·have:=hk.C.row r c;omega
 ·show U2 kd.pl.length kd.fB kd.fD=U2 (D1 kd.pl).length kd.fB kd.fD;rw[e0b]
noncomputable def j8 (F:Nat)(l:List C0)(mode:Int)(cls:List Int)(k0:F1)(B:Nat):Y1×Int:=
 if h:∃m,Y4 (J1 F l mode (M0 cls)) (M0 cls).length k0 B m then(b0F (K6 F) (V8 F l) (J1 F l mode (M0 cls)) (M0 cls).length (C4 l) cls (runK (J1 F l mode (M0 cls)) (M0 cls).length k0 (Classical.choose h)),0)
 else(⟨0,[],[]⟩,14)
def e0k {cls:List Int}{k0:F1}{B m:Nat}(h:Y4 (J1 F l mode (M0 cls)) (M0 cls).length k0 B m):j8 F l mode cls k0 B=(b0F (K6 F) (V8 F l) (J1 F l mode (M0 cls)) (M0 cls).length (C4 l) cls (runK (J1 F l mode (M0 cls)) (M0 cls).length k0 m),0):=by
 have c:∃m,Y4 (J1 F l mode (M0 cls)) (M0 cls).length k0 B m:=⟨m,h⟩
 unfold j8;rw[dif_pos c,Y4.uniq _ _ _ (Classical.choose_spec c) h]
def h0Z {cls:List Int}{k0:F1}{B i:Nat}(h:i0N (J1 F l mode (M0 cls)) (M0 cls).length k0 B i):j8 F l mode cls k0 B=(⟨0,[],[]⟩,14):=by
 unfold j8;rw[dif_neg]
 rintro⟨m,hm⟩
 have h1:=Y4.less _ _ _ hm h;have c:=Y4.le _ _ _ hm;omega
def t0e (K:U3 l n a b e z F)(hw:∀x∈l,P2 x)(hm:mode=0\/mode=1)(hn:n<=64){key:Nat->List Bool}{B m:Nat}(U:B<=400)(h:Y4 (J1 F l mode (M0 (I3 key 256).2)) (M0 (I3 key 256).2).length (Kd.zero z mode).K B m):
  a0V (j8 F l mode (I3 key 256).2 (Kd.zero z mode).K B).1=true/\(∀q,q<m->c0i (j8 F l mode (I3 key 256).2 (Kd.zero z mode).K B).1 q)/\(j8 F l mode (I3 key 256).2 (Kd.zero z mode).K B).1.States.length=m:=by
 have f:=a07 l;obtain⟨_,r,z2⟩:=q0I (z:=z) K hw hm;have u:=j0l (I3 key 256).2 0 [] (fun x d=>by cases d);obtain⟨ok,J⟩:=r0E (R:=K6 F) (acc:=V8 F l) (tags:=C4 l) h (PM F l n) r (fun k hk c y x s d=>by
   obtain⟨x',s',g,o,v,I⟩:=j0B (mode:=mode) K hw hm (least:=M0 (I3 key 256).2) u hk y;unfold J1 at d;rw[g]at d;simp only at d;split at d
   ·cases d
   ·cases d;exact⟨o,v,I⟩)
  (fun k hk=>by
   obtain⟨_,g,o⟩:=h0s K hk;exact⟨g,O'⟩)
  (fun k hk=>(n0r K hk).2)
 rw[e0k h];have hlen:=h.1;have hle:=Y4.le _ _ _ h;have hp:=q0x (J1 F l mode (M0 (I3 key 256).2)) (M0 (I3 key 256).2).length (Kd.zero z mode).K m;refine⟨C0Q ok f.1 f.2 ?_ (u0X key) rfl (List.length_pos_iff.1 hp) O' ?_,fun q p=>E0v h q p,?_⟩
 ·have h9:=n0H l;unfold C4 at f ⊢;rw[Int.tmod_eq_emod_of_nonneg O'];omega
 ·have:=h0k (J1 F l mode (M0 (I3 key 256).2)) (M0 (I3 key 256).2).length (Kd.zero z mode).K (i:=0) (j:=m) (q:=0) (zero_le _) (by simp[runK]);rw[this];exact z2
 ·show(List.map _ _).length=m;rw[length_map];exact hlen.symm
end
section
variable {F:Nat}{l:List C0}{n:Nat}{a:List B0}{b:Nat->List B0}{e:Nat->B0×Bool}{z:B0×Bool}{mode:Int}
end
def G0g (t:Tm):2*t.leaves<=t.size+1:=by induction t<;>simp[Tm.leaves,Tm.size]<;>omega
section
variable {F:Nat}{l:List C0}{n:Nat}{a:List B0}{b:Nat->List B0}{e:Nat->B0×Bool}{z:B0×Bool}{mode:Int}{w:List Int}{t:Tm}
def G0J (c:I4 l t):N0 l l.length=t.leaves:=by
 have h:=a0R c.at0;rw[Nat.zero_add,<-c.len]at h;rw[h];simp[N0]
def C0w (c:I4 l t):2*N0 l l.length<=l.length+1:=by
 have:=G0g t;rw[G0J c,c.len];exact this
def C09 (K:U3 l n a b e z F)(hw:∀x∈l,P2 x)(hm:mode=0\/mode=1)(hn:n<=20){cls:List Int}(f1:cls.length=256)(f3:(M0 cls).length<=256){B:Nat}(J:B<=100):Sm (j8 F l mode cls (Kd.zero z mode).K B).1:=by
 rcases h0m (J1 F l mode (M0 cls)) (M0 cls).length (Kd.zero z mode).K B with⟨m,m1,h⟩|⟨i,i1,h⟩
 ·obtain⟨_,o,z2⟩:=q0I (z:=z) K hw hm;have r:=j0l cls 0 [] (fun x d=>(by cases d));have I:=a07 l;obtain⟨ok,j⟩:=r0E (R:=K6 F) (acc:=V8 F l) (tags:=C4 l) h (PM F l n) o (fun k hk c v x s d=>by
    obtain⟨x',U,f,g,u,y⟩:=j0B (mode:=mode) K hw hm (least:=M0 cls) r hk v;unfold J1 at d;rw[f]at d;simp only at d;split at d
    ·cases d
    ·cases d;exact⟨g,u,y⟩)
   (fun k hk=>by
    obtain⟨_,f,g⟩:=h0s K hk;exact⟨f,O'⟩)
   (fun k hk=>(n0r K hk).2)
  rw[e0k h];have hlen:=h.1;refine⟨?_,?_,?_,?_,?_,?_⟩
  ·show(List.map _ _).length<=100;rw[length_map];omega
  ·show cls.length<=300;omega
  ·intro s hs;obtain⟨k,hk,rfl⟩:=mem_map.1 hs;show(V8 F l k).length<=40;rcases ok.ac k hk with q|⟨q,_⟩<;>omega
  ·intro s hs;obtain⟨k,hk,rfl⟩:=mem_map.1 hs;show((List.range _).map _).length<=300;rw[length_map,List.length_range];omega
  ·intro s hs;obtain⟨k,hk,rfl⟩:=mem_map.1 hs;show K6 F k<=400;have:=(h0s K (j m k hk)).2.2;omega
  ·intro s hs x d;obtain⟨k,hk,rfl⟩:=mem_map.1 hs;obtain⟨c,c1,rfl⟩:=mem_map.1 d;unfold U8;cases q:J1 F l mode (M0 cls) k c with
   |none=>simp
   |some p=>
    obtain⟨x,s⟩:=p;obtain⟨f,g,_⟩:=ok.nx k hk c (mem_range.1 c1) x s q;have:=(h0s K (j m x f)).2.2;show s.length<=400;omega
 ·rw[h0Z h];exact⟨Z',Z',fun s hs=>(by cases hs),fun s hs=>(by cases hs),fun s hs=>(by cases hs),fun s hs=>(by cases hs)⟩
def C0o (K:U3 l n a b e z F)(hw:∀x∈l,P2 x)(hm:mode=0\/mode=1)(hn:n<=20)(key:Nat->List Bool){B:Nat}(c:B<=100):Sm (j8 F l mode (I3 key 256).2 (Kd.zero z mode).K B).1:=by
 obtain⟨f1,f2,f3,f4⟩:=k08 key 256;exact C09 K hw hm hn f1 (Nat.le_trans (Nat.le_of_eq f3) f4) c
end
end Go.Proofs.YtihmgaccbcfgjaaGreat
namespace Go.Proofs.YtihmgaccbcfgjaaGreat
open Go.V Go.RowKit Old Go.X
def a0z (l:List C0):List (List Int):=(l.filter fun x=>x.Kind==2).map fun x=>x.Set
def a0K (l:List C0)(b:Nat):List Bool:=(a0z l).map fun s=>hasB s (b:Int)
def O0s {l:List C0}{n:Nat}(hn:n=N0 l l.length){x y:Nat}(h:a0K l x=a0K l y):∀r,r<n->s7 l (x:Int) r=s7 l (y:Int) r:=by
 intro r g;obtain⟨q,d,f,c,_⟩:=e05 l l.length r O';have e:gt (G2 l l.length) (r:Int)=(q:Int):=X2 f;show hasB (gt l (gt (G2 l l.length) (r:Int))).Set (x:Int)=hasB (gt l (gt (G2 l l.length) (r:Int))).Set (y:Int);rw[e];unfold a0K at h;refine(List.map_inj_left.1 h) _ ?_;unfold a0z;exact mem_map.2 ⟨gt l (q:Int),List.mem_filter.2 ⟨b8 d,by simpa using c⟩,rfl⟩
end Go.Proofs.YtihmgaccbcfgjaaGreat
namespace Go.Proofs.YtihmgaccbcfgjaaGreat
open Go.V Go.RowKit Old Go.X
open Classical
def k0T {α ρ:Type}[Inhabited α]{a b:List α}(hl:a.length=b.length){good bad:ρ}{body:Int->Option (Q0 Int ρ)}
  (hs:∀i:Nat,i<a.length->body (i:Int)=some (if gt a (i:Int)=gt b (i:Int)then .next ((i+1:Nat):Int)else .done bad)) (he:body (a.length:Int)=some (.done good)) {fu:Nat} (h:a.length<fu):
  iter body fu 0=some (if a=b then good else bad):=by
 have key:∀k i fu:Nat,i+k=a.length->k<fu->a.take i=b.take i->iter body fu (i:Int)=some (if a=b then good else bad):=by
  intro k
  induction k with
  |zero=>
   intro i fu hi f c;obtain⟨fu,rfl⟩:∃m,fu=m+1:=⟨fu-1,O'⟩
   obtain rfl:i=a.length:=O'
   have d:a=b:=by
    rw[take_length]at c;rw[hl,take_length]at c;exact c
   rw[if_pos d];unfold iter;rw[he]
  |succ k ih=>
   intro i fu hi f c;obtain⟨fu,rfl⟩:∃m,fu=m+1:=⟨fu-1,O'⟩
   have hs:=hs i O'
   by_cases q:gt a (i:Int)=gt b (i:Int)
   ·rw[if_pos q]at hs;rw[<-ih (i+1) fu O' O' (by rw[take_succ,take_succ,c,P4 (show i<a.length from O'),P4 (show i<b.length from O'),q])];exact n0D hs
   ·rw[if_neg q]at hs;have:¬a=b:=fun h=>q (by rw[h]);rw[if_neg this];unfold iter;rw[hs]
 exact key a.length 0 fu O' h rfl
section
variable {F:Nat}
def i0S (a b:List Int)(hl:a.length<=1000000)(d:2000001<F):b00 F a b=some (decide (a=b)):=by
 unfold b00
 by_cases h:a.length=b.length
 ·have e:((a.length:Int) != (b.length:Int))=false:=by simp[h]
  rw[k0T h (good:=.inr ()) (bad:=.inl ()) (fun i hi=>by
   unfold n0B;have h1:(i:Int)<(a.length:Int):=O'
   simp only[h1,decide_true,if_true,V0 (l:=a) (i:=(i:Int)) O' h1,V0 (l:=b) (i:=(i:Int)) O' O']
   by_cases g:gt a (i:Int)=gt b (i:Int)
   ·simp[g,X1 (i:=i) O']
   ·simp[g]) (by unfold n0B;simp) (show a.length<F from O')]
  by_cases g:a=b
  ·simp[e,g]
  ·simp[e,g]
 ·have e:((a.length:Int) != (b.length:Int))=true:=by simp;omega
  have g:¬a=b:=fun c=>h (by rw[c]);simp[e,g]
def y0d (x y:D2)(h1:x.B.length<=1000)(u:x.D.length<=1000)(p:∀r∈x.B,r.length<=1000)(k:∀r∈x.D,r.length<=1000)(j:2000001<F):l0p F x y=some (decide (x=y)):=by
 unfold l0p
 by_cases h:x.B.length=y.B.length
 ·have e:((x.B.length:Int) != (y.B.length:Int))=false:=by simp[h]
  rw[k0T h (good:=.inr ()) (bad:=.inl ()) (fun i hi=>by
   unfold m03;have h1:(i:Int)<(x.B.length:Int):=O'
   have:=p _ (b8 (l:=x.B) (i:=i) hi);simp only[q0,h1,V0 (l:=x.B) (i:=(i:Int)) O' h1,V0 (l:=y.B) (i:=(i:Int)) O' O',i0S (F:=F) (gt x.B (i:Int)) (gt y.B (i:Int)) O' j]
   by_cases g:gt x.B (i:Int)=gt y.B (i:Int)
   ·simp[g,X1 (i:=i) O']
   ·simp[g]) (by unfold m03;simp) (show x.B.length<F from O')]
  by_cases g:x.B=y.B
  ·by_cases f:x.D.length=y.D.length
   ·have e':((x.D.length:Int) != (y.D.length:Int))=false:=by simp[f]
    rw[k0T f (good:=.inr ()) (bad:=.inl ()) (fun i hi=>by
     unfold o0l;have h1:(i:Int)<(x.D.length:Int):=O'
     have:=k _ (b8 (l:=x.D) (i:=i) hi);simp only[q0,h1,V0 (l:=x.D) (i:=(i:Int)) O' h1,V0 (l:=y.D) (i:=(i:Int)) O' O',i0S (F:=F) (gt x.D (i:Int)) (gt y.D (i:Int)) O' j]
     by_cases g:gt x.D (i:Int)=gt y.D (i:Int)
     ·simp[g,X1 (i:=i) O']
     ·simp[g]) (by unfold o0l;simp) (show x.D.length<F from O')]
    obtain⟨s,o⟩:=x;obtain⟨q,m⟩:=y;simp only at g e e' ⊢;subst g
    by_cases c:o=m
    ·simp[e,e',c]
    ·simp[e,e',c]
   ·have e':((x.D.length:Int) != (y.D.length:Int))=true:=by simp;omega
    have c:¬x=y:=fun d=>f (by rw[d]);simp[e,g,e',c]
  ·have c:¬x=y:=fun d=>g (by rw[d]);simp[e,g,c]
 ·have e:((x.B.length:Int) != (y.B.length:Int))=true:=by simp;omega
  have g:¬x=y:=fun d=>h (by rw[d]);simp[e,g]
def E0t (a b:F1)(I:a.Places.length<=1000)(hm:a.Maps.length<=1000)(o:∀r∈a.Maps,r.length<=1000)(h1:a.Rank.B.length<=1000)(y:a.Rank.D.length<=1000)(s:∀r∈a.Rank.B,r.length<=1000)(q:∀r∈a.Rank.D,r.length<=1000)(f:2000001<F):h0U F a b=some (decide (a=b)):=by
 unfold h0U;have j:l06 F=some ():=rfl;rw[j,i0S _ _ O' f,y0d _ _ h1 y s q f];obtain⟨m,u,c,p⟩:=a;obtain⟨k,x,d,v⟩:=b;simp only at hm o ⊢
 by_cases c1:m=k
 ·subst c1
  by_cases c2:u=x
  ·subst c2
   by_cases h:c.length=d.length
   ·have e:((c.length:Int) != (d.length:Int))=false:=by simp[h]
    rw[k0T h (good:=.inr ()) (bad:=.inl ()) (fun i hi=>by
     unfold n0F;have h1:(i:Int)<(c.length:Int):=O'
     have:=o _ (b8 (l:=c) (i:=i) hi);simp only[q0,h1,V0 (l:=c) (i:=(i:Int)) O' h1,V0 (l:=d) (i:=(i:Int)) O' O',i0S (F:=F) (gt c (i:Int)) (gt d (i:Int)) O' f]
     by_cases g:gt c (i:Int)=gt d (i:Int)
     ·simp[g,X1 (i:=i) O']
     ·simp[g]) (by unfold n0F;simp) (show c.length<F from O')]
    by_cases c3:c=d
    ·subst c3
     by_cases c4:p=v
     ·simp[e,c4]
     ·simp[e,c4]
    ·simp[e,c3]
   ·have e:((c.length:Int) != (d.length:Int))=true:=by simp;omega
    have c3:¬c=d:=fun j=>h (by rw[j]);simp[e,c3]
  ·simp[c2]
 ·have:(m==k)=false:=by simpa using c1
  simp[this,c1]
end
section
variable {F:Nat}{l:List C0}{n:Nat}{a:List B0}{b:Nat->List B0}{e:Nat->B0×Bool}{z:B0×Bool}{mode:Int}
def y0a (K:U3 l n a b e z F){x:F1}(h:PM F l n x)(y:F1):h0U F x y=some (decide (x=y)):=by
 have f1:=K.f1;have hn:=K.T.n64;obtain⟨h1,g,f,fB,fD,d⟩:=z06 K h;refine E0t x y O' O' (fun r c=>by have:=f r c;omega) ?_ ?_ ?_ ?_ O'
 ·rw[d];simp[U2,U1];omega
 ·rw[d];simp[U2,U1];omega
 ·rw[d];intro r c;simp[U2,U1]at c;obtain⟨i,_,rfl⟩:=c;simp;omega
 ·rw[d];intro r c;simp[U2,U1]at c;obtain⟨i,_,rfl⟩:=c;simp;omega
end
def v08 {K S:Type}[Inhabited K](nxt:K->Nat->Option (K×S))(k:K)(all:List K):∀c,(X3 nxt k all c).length<=all.length+c
 |0=>Nat.le_refl _
 |c+1=>by
  have d:=v08 nxt k all c;unfold X3;split
  ·omega
  ·unfold P7;split
   ·omega
   ·simp only[length_append,length_cons,List.length_nil];omega
def E0Z {K S:Type}[Inhabited K](nxt:K->Nat->Option (K×S))(k:K)(all:List K){c d:Nat}(h:c<=d):X3 nxt k all c <+: X3 nxt k all d:=by
 induction d with
 |zero=>
      obtain rfl:c=0:=O'
      exact prefix_refl _
 |succ d ih=>
  rcases lt_or_ge d c with q|q
  ·obtain rfl:c=d+1:=O'
   exact prefix_refl _
  ·refine(ih q).trans ?_;rw[show X3 nxt k all (d+1)=(match nxt k d with|none=>X3 nxt k all d|some (x,_)=>P7 (X3 nxt k all d) x)from rfl];split
   ·exact prefix_refl _
   ·exact q0c _ _
def u00 {K:Type}[Inhabited K]{nxt:K->Nat->Option (K×List Int)}{k:K}{c:Nat}{L M:List K}(h:L <+: M)(d:∀x s,nxt k c=some (x,s)->x∈L):U8 nxt M k c=U8 nxt L k c:=by
 unfold U8;cases q:nxt k c with
 |none=>rfl
 |some p=>
  obtain⟨x,s⟩:=p;simp only;rw[v09 (d x s q) h]
section
variable {F:Nat}{l:List C0}{n:Nat}{a:List B0}{b:Nat->List B0}{e:Nat->B0×Bool}{z:B0×Bool}{mode:Int}
def A0T (K:U3 l n a b e z F){x:F1}(h:PM F l n x){all:List F1}(hl:all.length<=100000):iter (e0D F all x) F 0=some (if x∈all then .inl ((X6 all x:Nat):Int)else .inr ()):=by
 have f1:=K.f1;have key:∀k i fu:Nat,i+k=all.length->k<fu->(∀j,j<i->all[j]?≠some x)->iter (e0D F all x) fu (i:Int)=some (if x∈all then .inl ((X6 all x:Nat):Int)else .inr ()):=by
  intro k
  induction k with
  |zero=>
   intro i fu hi u o;obtain⟨fu,rfl⟩:∃m,fu=m+1:=⟨fu-1,O'⟩
   obtain rfl:i=all.length:=O'
   have hn:¬x∈all:=fun s=>by
    obtain⟨j,g⟩:=List.getElem?_of_mem s;exact o j (List.getElem?_eq_some_iff.1 g).1 g
   rw[if_neg hn];unfold iter e0D;simp
  |succ k ih=>
   intro i fu hi u o;obtain⟨fu,rfl⟩:∃m,fu=m+1:=⟨fu-1,O'⟩
   have d:i<all.length:=O'
   have h1:(i:Int)<(all.length:Int):=O'
   have hs:=y0a K h (gt all (i:Int));have f:all[i]?=some (gt all (i:Int)):=P4 d
   by_cases q:x=gt all (i:Int)
   ·have hm:x∈all:=by rw[q];exact b8 d
    have hp:X6 all x=i:=by
     have p1:=f0Y hm;have v:=h0o hm;rcases Nat.lt_trichotomy (X6 all x) i with c|c|c
     ·exact absurd v (o _ c)
     ·exact c
     ·exfalso;have I:decide (all[i]=x)=false:=List.not_of_lt_findIdx (p:=fun y=>decide (y=x)) c;rw[List.getElem?_eq_getElem d]at f;exact of_decide_eq_false I ((Option.some.inj f).trans q.symm)
    rw[if_pos hm,hp];unfold iter e0D;simp only[q0,h1,V0 (l:=all) (i:=(i:Int)) O' h1,hs];rw[if_pos (by simpa using q)]
   ·rw[<-ih (i+1) fu O' O' (fun j g=>by
     by_cases r:j=i
     ·subst r;rw[f];exact fun J=>q (Option.some.inj J).symm
     ·exact o j O')]
    refine n0D ?_;unfold e0D;simp only[q0,h1,V0 (l:=all) (i:=(i:Int)) O' h1,hs];rw[if_neg (by simpa using q),X1 (i:=i) O']
 exact key all.length 0 F O' O' (fun j g=>absurd g (Nat.not_lt_zero j))
def y0k (K:U3 l n a b e z F)(hw:∀x∈l,P2 x)(hm:mode=0\/mode=1){least:List Int}(m:∀x∈least,L5 .u8 x){k:F1}(h:PM F l n k){c:Nat}(p:c<least.length){all:List F1}(hl:all.length<=100000):
  f0S F (l,mode,least,all) k (c:Int)=some (U8 (J1 F l mode least) (match J1 F l mode least k c with|none=>all|some (x,_)=>P7 all x) k c,(l,mode,least,match J1 F l mode least k c with|none=>all|some (x,_)=>P7 all x)):=by
 obtain⟨x,s,h1,j,_⟩:=j0B (mode:=mode) K hw hm m h p;have hn:J1 F l mode least k c=if(x.Places.length:Int)==0&&x.Flag==0 then none else some (x,s):=by unfold J1;rw[h1]
 have f:(if(x.Places.length:Int)==0 then some (x.Flag==0)else some false)=some ((x.Places.length:Int)==0&&x.Flag==0):=by cases(x.Places.length:Int)==0<;>rfl
 unfold f0S;simp only[V0 (l:=least) (i:=(c:Int)) O' O',if_true,h1,G0,c0V,f];unfold U8;rw[hn];cases q:((x.Places.length:Int)==0&&x.Flag==0)with
 |true=>simp
 |false=>
  simp only[q0,A0T K j hl]
  by_cases d:x∈all
  ·have hp:¬((X6 all x:Nat):Int)<0:=O'
   simp only[q0,d,hp];unfold P7;rw[if_pos d]
  ·have ap:K0 104 all [x]=true:=B4 V';have g:X6 (P7 all x) x=all.length:=by
    unfold P7;rw[if_neg d];unfold X6;rw[List.findIdx_append];have:List.findIdx (fun y=>decide (y=x)) all=all.length:=List.findIdx_eq_length.2 fun y o=>by
     simp only[decide_eq_false_iff_not];exact fun h=>d (h▸o)
    rw[this,if_neg (Nat.lt_irrefl _)];simp[List.findIdx_cons]
   simp only[q0,d,show((-1:Int)<0)=True from Z',ap,g];unfold P7;rw[if_neg d]
def A0n (K:U3 l n a b e z F)(hw:∀x∈l,P2 x)(hm:mode=0\/mode=1){least:List Int}(o:∀x∈least,L5 .u8 x)(j:least.length<=256){k:F1}(h:PM F l n k){all:List F1}(hl:all.length<=1000):
  f0T F (l,mode,least,all) k=some (T9 (K6 F) (V8 F l) (J1 F l mode least) least.length (X3 (J1 F l mode least) k all least.length) k,(l,mode,least,X3 (J1 F l mode least) k all least.length)):=by
 have f1:=K.f1;have q:=(h0s K h).1;have f:=(n0r K h).1;have d:=H3 (step:=e0z F least k) (fun c=>((c:Int),(l,mode,least,X3 (J1 F l mode least) k all c),(K6 F k,V8 F l k,(List.range c).map (U8 (J1 F l mode least) (X3 (J1 F l mode least) k all least.length) k))))
  ((l,mode,least,X3 (J1 F l mode least) k all least.length),(K6 F k,V8 F l k,(List.range least.length).map (U8 (J1 F l mode least) (X3 (J1 F l mode least) k all least.length) k))) least.length (fun c p=>.inl ?_) ?_ least.length 0 F O' O'
 ·have d:iter (e0z F least k) F (0,(l,mode,least,all),(K6 F k,V8 F l k,[]))=_:=d;unfold f0T;simp only[q,f,G0,c0V,d];rfl
 ·have g:=v08 (J1 F l mode least) k all c;have he:=y0k K hw hm o h p (all:=X3 (J1 F l mode least) k all c) O';have hg:(match J1 F l mode least k c with|none=>X3 (J1 F l mode least) k all c|some (x,_)=>P7 (X3 (J1 F l mode least) k all c) x)=X3 (J1 F l mode least) k all (c+1):=by
   conv=>rhs;rw[X3]
   cases J1 F l mode least k c<;>rfl
  rw[hg]at he;have hp:U8 (J1 F l mode least) (X3 (J1 F l mode least) k all least.length) k c=U8 (J1 F l mode least) (X3 (J1 F l mode least) k all (c+1)) k c:=u00 (E0Z _ _ _ (show c+1<=least.length from O')) (fun x s m=>m0f _ k all (Nat.lt_succ_self c) m);have c1:(c:Int)<(least.length:Int):=O'
  have ap:K0 32 ((List.range c).map (U8 (J1 F l mode least) (X3 (J1 F l mode least) k all least.length) k)) [U8 (J1 F l mode least) (X3 (J1 F l mode least) k all (c+1)) k c]=true:=B4 V';unfold e0z;simp only[q0,c1,he,ap,X1 (i:=c) O'];rw[range_succ,map_append,map_cons,map_nil,hp]
 ·have c1:¬(least.length:Int)<(least.length:Int):=O'
  unfold e0z;simp only[q0,c1]
end
section
variable {F:Nat}{l:List C0}{n:Nat}{a:List B0}{b:Nat->List B0}{e:Nat->B0×Bool}{z:B0×Bool}{mode:Int}
def z0L (K:U3 l n a b e z F)(hw:∀x∈l,P2 x)(hm:mode=0\/mode=1){least:List Int}(j:∀x∈least,L5 .u8 x){k x:F1}{s:List Int}{c:Nat}(h:PM F l n k)(f:c<least.length)(d:J1 F l mode least k c=some (x,s)):PM F l n x:=by
 obtain⟨x',m,g,i,_⟩:=j0B (mode:=mode) K hw hm j h f;unfold J1 at d;rw[g]at d;simp only at d;split at d
 ·cases d
 ·cases d;exact i
noncomputable def a0G (F:Nat)(l:List C0)(mode:Int)(least:List Int)(k0:F1)(i:Nat):List L3:=
 (List.range i).map fun q=>T9 (K6 F) (V8 F l) (J1 F l mode least) least.length (runK (J1 F l mode least) least.length k0 (q+1)) ((runK (J1 F l mode least) least.length k0 q).getD q default)
def x0N {least:List Int}{k0:F1}{m B:Nat}(h:Y4 (J1 F l mode least) least.length k0 B m):a0G F l mode least k0 m=(runK (J1 F l mode least) least.length k0 m).map (T9 (K6 F) (V8 F l) (J1 F l mode least) least.length (runK (J1 F l mode least) least.length k0 m)):=by
 have hm:=h.1;unfold a0G;refine List.ext_getElem V' fun i d i2=>?_;have hi:i<m:=by simpa using d
 have hl:=(h.2 i hi).1;rw[List.getElem_map,List.getElem_range,List.getElem_map];have f:(runK (J1 F l mode least) least.length k0 i).getD i default=(runK (J1 F l mode least) least.length k0 m)[i]' O':=by
  rw[<-h0k _ _ _ (le_of_lt hi) hl];simp[List.getD,show i<(runK (J1 F l mode least) least.length k0 m).length from O']
 rw[<-f];unfold T9;congr 1;refine List.map_congr_left fun c g=>?_;exact(u00 (d0g _ _ _ (show i+1<=m from O')) (fun x s j=>t0o _ _ _ (Nat.lt_succ_self i) hl (mem_range.1 g) j)).symm
def D0G (K:U3 l n a b e z F)(hw:∀x∈l,P2 x)(hm:mode=0\/mode=1){cls:List Int}{t2:Int}(hT:f0z F l=some (cls,t2))(p:e0e F cls=some (M0 cls))(o:(M0 cls).length<=256)(v:∀x∈M0 cls,L5 .u8 x){B:Nat}(hB:B<=400):
  a05 F l mode (B:Int)=some (j8 F l mode cls (Kd.zero z mode).K B):=by
 have f1:=K.f1;obtain⟨h0,J,z2⟩:=q0I (z:=z) K hw hm;have U:∀i,∀k∈runK (J1 F l mode (M0 cls)) (M0 cls).length (Kd.zero z mode).K i,PM F l n k:=by
  intro i
  induction i with
  |zero=>intro k hk;simp[runK]at hk;rw[hk];exact J
  |succ i ih=>
   intro k hk;rw[show runK (J1 F l mode (M0 cls)) (M0 cls).length (Kd.zero z mode).K (i+1)=if i<(runK (J1 F l mode (M0 cls)) (M0 cls).length (Kd.zero z mode).K i).length then X3 (J1 F l mode (M0 cls)) ((runK (J1 F l mode (M0 cls)) (M0 cls).length (Kd.zero z mode).K i).getD i default) (runK (J1 F l mode (M0 cls)) (M0 cls).length (Kd.zero z mode).K i) (M0 cls).length else runK (J1 F l mode (M0 cls)) (M0 cls).length (Kd.zero z mode).K i from rfl]at hk;split at hk
   ·rename_i hi;rcases g0M _ _ _ _ hk with h1|⟨_,d,s,y,h3⟩
    ·exact ih k h1
    ·exact z0L K hw hm v (ih ((runK (J1 F l mode (M0 cls)) (M0 cls).length (Kd.zero z mode).K i).getD i default) (by
      rw[show(runK (J1 F l mode (M0 cls)) (M0 cls).length (Kd.zero z mode).K i).getD i default=(runK (J1 F l mode (M0 cls)) (M0 cls).length (Kd.zero z mode).K i)[i] by simp[List.getD,hi]];exact getElem_mem hi)) y h3
   ·exact ih k hk
 have step:∀i,i<(runK (J1 F l mode (M0 cls)) (M0 cls).length (Kd.zero z mode).K i).length->(runK (J1 F l mode (M0 cls)) (M0 cls).length (Kd.zero z mode).K i).length<=B->
   b0H F (B:Int) ((i:Int),(l,mode,M0 cls,runK (J1 F l mode (M0 cls)) (M0 cls).length (Kd.zero z mode).K i),(C4 l,cls,a0G F l mode (M0 cls) (Kd.zero z mode).K i)) =
    some (.next (((i+1:Nat):Int),(l,mode,M0 cls,runK (J1 F l mode (M0 cls)) (M0 cls).length (Kd.zero z mode).K (i+1)),(C4 l,cls,a0G F l mode (M0 cls) (Kd.zero z mode).K (i+1)))):=by
  intro i hi hb;have hg:gt (runK (J1 F l mode (M0 cls)) (M0 cls).length (Kd.zero z mode).K i) (i:Int)=(runK (J1 F l mode (M0 cls)) (M0 cls).length (Kd.zero z mode).K i).getD i default:=t0O _ _;have g:=b8 hi;have j:=A0n K hw hm v o (U i _ g) (all:=runK (J1 F l mode (M0 cls)) (M0 cls).length (Kd.zero z mode).K i) O';have f:X3 (J1 F l mode (M0 cls)) (gt (runK (J1 F l mode (M0 cls)) (M0 cls).length (Kd.zero z mode).K i) (i:Int)) (runK (J1 F l mode (M0 cls)) (M0 cls).length (Kd.zero z mode).K i) (M0 cls).length=runK (J1 F l mode (M0 cls)) (M0 cls).length (Kd.zero z mode).K (i+1):=by
   rw[hg]
   conv=>rhs;rw[runK]
   rw[if_pos hi]
  rw[f]at j;have c1:(i:Int)<((runK (J1 F l mode (M0 cls)) (M0 cls).length (Kd.zero z mode).K i).length:Int):=O'
  have c2:¬(400:Int)<(B:Int):=O'
  have c3:¬((runK (J1 F l mode (M0 cls)) (M0 cls).length (Kd.zero z mode).K i).length:Int)>(B:Int):=O'
  have q:=V0 (l:=runK (J1 F l mode (M0 cls)) (M0 cls).length (Kd.zero z mode).K i) (i:=(i:Int)) O' c1;have ap:∀s:L3,K0 56 (a0G F l mode (M0 cls) (Kd.zero z mode).K i) [s]=true:=fun s=>B4 (by simp[a0G];omega);unfold b0H;simp only[q0,c1,c2,c3,q,j,ap,X1 (i:=i) O'];have hs:a0G F l mode (M0 cls) (Kd.zero z mode).K (i+1)=a0G F l mode (M0 cls) (Kd.zero z mode).K i++[T9 (K6 F) (V8 F l) (J1 F l mode (M0 cls)) (M0 cls).length (runK (J1 F l mode (M0 cls)) (M0 cls).length (Kd.zero z mode).K (i+1)) (gt (runK (J1 F l mode (M0 cls)) (M0 cls).length (Kd.zero z mode).K i) (i:Int))]:=by
   unfold a0G;rw[range_succ,map_append,map_cons,map_nil,hg]
  rw[hs]
 have u:iter (q0r F) F ()=some ():=by
  obtain⟨m,rfl⟩:∃m,F=m+1:=⟨F-1,O'⟩
  rfl
 have r:K0 104 ([]:List F1) [(Kd.zero z mode).K]=true:=B4 Z';have I:a0G F l mode (M0 cls) (Kd.zero z mode).K 0=[]:=rfl;unfold a05;simp only[q0,h0,bne_self_eq_false,hT,p,u,show((-1:Int)<0)=True from Z',r,List.nil_append,o0r K.hR (show 401<F from O')];rcases h0m (J1 F l mode (M0 cls)) (M0 cls).length (Kd.zero z mode).K B with⟨m,m1,h⟩|⟨m,m1,h⟩
 ·have c:=H3 (step:=b0H F (B:Int)) (fun i=>((i:Int),(l,mode,M0 cls,runK (J1 F l mode (M0 cls)) (M0 cls).length (Kd.zero z mode).K i),(C4 l,cls,a0G F l mode (M0 cls) (Kd.zero z mode).K i))) (.inr (C4 l,cls,a0G F l mode (M0 cls) (Kd.zero z mode).K m)) m (fun i hi=>.inl (step i (h.2 i hi).1 (h.2 i hi).2)) (by
   have hm:=h.1;have c1:¬(m:Int)<((runK (J1 F l mode (M0 cls)) (M0 cls).length (Kd.zero z mode).K m).length:Int):=O'
   unfold b0H;simp only[q0,c1]) m 0 F O' O'
  have c:iter (b0H F (B:Int)) F (0,(l,mode,M0 cls,[(Kd.zero z mode).K]),(C4 l,cls,[]))=_:=c;rw[c,e0k h];simp only[G0,x0N h];rfl
 ·have c:=H3 (step:=b0H F (B:Int)) (fun i=>((i:Int),(l,mode,M0 cls,runK (J1 F l mode (M0 cls)) (M0 cls).length (Kd.zero z mode).K i),(C4 l,cls,a0G F l mode (M0 cls) (Kd.zero z mode).K i))) (.inl (14,⟨0,[],[]⟩)) m (fun i hi=>.inl (step i (h.2.2 i hi).1 (h.2.2 i hi).2)) (by
   have h1:=h.1;have y:=h.2.1;have c1:(m:Int)<((runK (J1 F l mode (M0 cls)) (M0 cls).length (Kd.zero z mode).K m).length:Int):=O'
   have c2:¬(400:Int)<(B:Int):=O'
   have c3:((runK (J1 F l mode (M0 cls)) (M0 cls).length (Kd.zero z mode).K m).length:Int)>(B:Int):=O'
   unfold b0H;simp only[q0,c1,c2,c3]) m 0 F O' O'
  have c:iter (b0H F (B:Int)) F (0,(l,mode,M0 cls,[(Kd.zero z mode).K]),(C4 l,cls,[]))=_:=c;rw[c,h0Z h];rfl
end
end Go.Proofs.YtihmgaccbcfgjaaGreat
namespace Go.Proofs.YtihmgaccbcfgjaaGreat
open Go.V Go.RowKit Old Go.X
section
variable {F:Nat}{l:List C0}{n:Nat}{a:List B0}{b:Nat->List B0}{e:Nat->B0×Bool}{z:B0×Bool}
def r0z {c:Int}(d:L5 .u8 c):∀(s:List (List Int)),(∀r∈s,r.length=4/\∀y∈r,L5 .u64 y)->d0l F c s=some (s.map fun r=>hasB r c)
 |[],_=>rfl
 |r :: s,h=>by
  unfold d0l;rw[(t0N F (h r Z') d).1,r0z d s (fun x f=>h x (List.mem_cons_of_mem _ f))];rfl
def G0L {i:Nat}(h:i<l.length):a0z (l.take (i+1))=a0z (l.take i)++if(gt l (i:Int)).Kind==2 then[(gt l (i:Int)).Set]else[]:=by
 unfold a0z;rw[take_succ,P4 h];simp only[Option.toList,List.filter_append,map_append];congr 1;cases c:(gt l (i:Int)).Kind==2 with
 |true=>rw[List.filter_cons_of_pos (by simpa using c)];rfl
 |false=>rw[List.filter_cons_of_neg (by simpa using c)];rfl
def r0s:(a0z l).length<=l.length:=by
 unfold a0z;rw[length_map];exact List.length_filter_le _ _
def I0v (K:U3 l n a b e z F)(hw:∀x∈l,P2 x)(hl:l.length<=1000):f0z F l=some ((I3 (a0K l) 256).2,((I3 (a0K l) 256).1.length:Int)):=by
 have f1:=K.f1;have hs:∀r∈a0z l,r.length=4/\∀y∈r,L5 .u64 y:=fun r h=>by
  unfold a0z at h;obtain⟨x,j,rfl⟩:=mem_map.1 h;have:=hw x (List.mem_filter.1 j).1;unfold P2 at this;exact this.2.2.2.2
 have d:=H3 (step:=g08 F l) (fun i=>(a0z (l.take i),(i:Int))) (a0z l) l.length (fun i hi=>.inl ?_) ?_ l.length 0 F O' O'
 ·have d:iter (g08 F l) F ([],0)=some (a0z l):=d;have f:f0P F (a0z l)=some ((I3 (a0K l) 256).2,((I3 (a0K l) 256).1.length:Int)):=by
   have:=r0s (l:=l);unfold f0P;rw[if_pos V',r0X (key:=a0K l) 256 (fun c k s=>?_)]
   ·rfl
   ·unfold f04;rw[r0z (c:=(c:Int)) ⟨by show(0:Int)<=_;omega,by show(c:Int)<=255;omega⟩ _ hs];show(if s.1.contains (a0K l c)then _ else _)=_;unfold g0L;split<;>rfl
  unfold f0z;simp only[q0,K.TF.mR,d,f]
 ·have c1:(i:Int)<(l.length:Int):=O'
  have g:=r0s (l:=l.take i);rw[List.length_take]at g;have ap:K0 32 (a0z (l.take i)) [(gt l (i:Int)).Set]=true:=B4 V';unfold g08;simp only[c1,decide_true,if_true,V0 (l:=l) (i:=(i:Int)) O' c1,ap,X1 (i:=i) O'];rw[G0L hi];cases c:(gt l (i:Int)).Kind==2 with
  |true=>simp
  |false=>simp
 ·have c1:¬(l.length:Int)<(l.length:Int):=O'
  unfold g08;simp only[q0,c1,take_length]
end
