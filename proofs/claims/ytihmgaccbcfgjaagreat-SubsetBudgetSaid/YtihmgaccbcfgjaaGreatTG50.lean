/- P. Its conditions: none. -/
import Derived.Test.YtihmgaccbcfgjaaGreatTG48
import Derived.Test.YtihmgaccbcfgjaaGreatTG49
import Derived.Test.YtihmgaccbcfgjaaGreatTG28
import Derived.Test.YtihmgaccbcfgjaaGreatTMd
open List (all_eq_true mem_map mem_range length_cons length_append length_map prefix_refl)
set_option linter.all false
namespace Go.Proofs.YtihmgaccbcfgjaaGreat
open Go.V Go.RowKit Go.X
open Classical
section
variable {K:Type}[Inhabited K](R:K->Int)(acc:K->List Int)(nxt:K->Nat->Option (K×List Int))(C:Nat)
noncomputable def U8 (L:List K)(k:K)(c:Nat):H4:=match nxt k c with
 |none=>⟨-1,[]⟩
 |some (x,s)=>⟨(X6 L x:Nat),s⟩
noncomputable def T9 (L:List K)(k:K):L3:=⟨R k,acc k,(List.range C).map (U8 nxt L k)⟩
noncomputable def b0F (tags:Int)(cls:List Int)(L:List K):Y1:=⟨tags,cls,L.map (T9 R acc nxt C L)⟩
structure OkL (tags:Int)(L:List K):Prop where
 rg:∀k∈L,0<=R k/\R k<=1216
 ac:∀k∈L,((acc k).length:Int)=0\/(((acc k).length:Int)=tags/\∀v∈acc k,v=-2\/v=-1\/(0<=v/\v<R k))
 nx:∀k∈L,∀c,c<C->∀x s,nxt k c=some (x,s)->x∈L/\(s.length:Int)=R x/\∀v∈s,v=-1\/(0<=v/\v<R k)
def r0c {v r:Int}(h:v=-1\/(0<=v/\v<r)):z6 v r=true:=by
 unfold z6;rcases h with rfl|⟨h1,h2⟩
 ·rfl
 ·simp[h1,h2]
def v0y {α β:Type}[Inhabited α][Inhabited β]{L:List α}{f:α->β}{i:Nat}(h:i<L.length):gt (L.map f) (i:Int)=f (L.getD i default):=by
 refine X2 ?_;rw[List.getElem?_map,List.getElem?_eq_getElem h];simp[List.getD,h]
variable {R acc nxt C}
def C0Q {tags:Int}{cls:List Int}{L:List K}(h:OkL R acc nxt C tags L)(t1:1<=tags)(t2:tags<=19)(t3:tags.tmod 2≠0)(m:J8 cls=true)(I:C=(M0 cls).length)(h0:L≠[])(hl:L.length<=400)(J:R (L.getD 0 default)=0):a0V (b0F R acc nxt C tags cls L)=true:=by
 have j:0<L.length:=List.length_pos_iff.2 h0;have d:(b0F R acc nxt C tags cls L).States.length=L.length:=by simp[b0F]
 have e0:gt (b0F R acc nxt C tags cls L).States 0=T9 R acc nxt C L (L.getD 0 default):=v0y (i:=0) j;have g:∀k∈L,∀c,c<C->L7 (b0F R acc nxt C tags cls L) (R k) (U8 nxt L k c)=true:=by
  intro k hk c m;unfold U8;cases e:nxt k c with
  |none=>simp[L7]
  |some p=>
   obtain⟨x,s⟩:=p;obtain⟨y,a2,a3⟩:=h.nx k hk c m x s e;have hp:=f0Y y;have r:=h0o y;have hg:gt (b0F R acc nxt C tags cls L).States ((X6 L x:Nat):Int)=T9 R acc nxt C L x:=by
    refine X2 ?_;show(L.map (T9 R acc nxt C L))[X6 L x]?=_;rw[List.getElem?_map,r];rfl
   unfold L7;simp only;rw[if_neg O',hg,d];have:∀v∈s,z6 v (R k)=true:=fun v o=>r0c (a3 v o);simp only[T9,a2,beq_self_eq_true,Bool.and_true];simp only[Bool.and_eq_true,decide_eq_true_eq,all_eq_true];exact⟨⟨O',O'⟩,this⟩
 have u:∀k∈L,b0X (b0F R acc nxt C tags cls L) (M0 cls).length (T9 R acc nxt C L k)=true:=by
  intro k hk;obtain⟨r1,r2⟩:=h.rg k hk;have f:c0C (T9 R acc nxt C L k) tags=true:=by
   unfold c0C T9;rcases h.ac k hk with q|⟨q1,q2⟩
   ·simp only[q];rfl
   ·simp only[q1,beq_self_eq_true,Bool.true_and];rw[Bool.or_eq_true];right;rw[all_eq_true];intro v o;rcases q2 v o with z|z
    ·rw[z];rfl
    ·rw[r0c z,Bool.or_true]
  unfold b0X;simp only[Bool.and_eq_true,decide_eq_true_eq,all_eq_true,beq_iff_eq];refine⟨⟨⟨⟨r1,r2⟩,?_⟩,f⟩,fun x U=>?_⟩
  ·simp[T9,I]
  ·obtain⟨c,c1,rfl⟩:=mem_map.1 U;exact g k hk c (mem_range.1 c1)
 unfold a0V;rw[e0];simp only[Bool.and_eq_true,decide_eq_true_eq,all_eq_true,beq_iff_eq,Bool.not_eq_true',beq_eq_false_iff_ne,d];refine⟨⟨⟨⟨⟨⟨⟨t1,t2⟩,t3⟩,O'⟩,O'⟩,m⟩,fun s hs=>?_⟩,J⟩;obtain⟨k,hk,rfl⟩:=mem_map.1 hs;exact u k hk
def E0v {tags:Int}{cls:List Int}{c:K}{B n:Nat}(h:Y4 nxt C c B n):∀q,q<n->c0i (b0F R acc nxt C tags cls (runK nxt C c n)) q:=by
 have hn:=h.1;intro q
 induction q using Nat.strongRecOn with
 |_ q ih=>
  intro v;have r:q<(runK nxt C c n).length:=O'
  have k:=o0B nxt C c n;have f:=List.getElem_mem r;have g:X6 (runK nxt C c n) (runK nxt C c n)[q]=q:=by
   have h1:=f0Y f;have m:=h0o f;rw[List.getElem?_eq_getElem h1]at m;exact(List.getElem_inj k).1 (Option.some.inj m)
  rcases s0V nxt C c n f with h1|⟨p,d,s,p1,p2,p3,p4,p5⟩
  ·have m:(runK nxt C c n).getD 0 default=c:=by
    have:=h0k nxt C c (i:=0) (j:=n) (q:=0) (Nat.zero_le _) (by simp[runK]);rw[this];rfl
   have o:(runK nxt C c n)[0]' O'=(runK nxt C c n).getD 0 default:=by simp[List.getD,show 0<(runK nxt C c n).length from O']
   have u:=o.trans m;have:q=0:=(List.getElem_inj k).1 (by rw[h1,u]);subst this;exact .zero
  ·rw[g]at p5;refine .step (ih p p5 O') ⟨U8 nxt (runK nxt C c n) ((runK nxt C c n).getD p default) d,?_,?_⟩
   ·have:gt (b0F R acc nxt C tags cls (runK nxt C c n)).States (p:Int)=T9 R acc nxt C (runK nxt C c n) ((runK nxt C c n).getD p default):=v0y O';rw[this];exact mem_map.2 ⟨d,mem_range.2 p3,rfl⟩
   ·rw[h0k nxt C c (Nat.le_of_lt p1) p2];unfold U8;rw[p4];simp only[g]
def r0E {tags:Int}{f:K}{B n:Nat}(h:Y4 nxt C f B n)(P:K->Prop)(r:P f)(hs:∀k,P k->∀c,c<C->∀x s,nxt k c=some (x,s)->P x/\(s.length:Int)=R x/\∀v∈s,v=-1\/(0<=v/\v<R k))
  (q:∀k,P k->0<=R k/\R k<=1216) (ha:∀k,P k->((acc k).length:Int)=0\/(((acc k).length:Int)=tags/\∀v∈acc k,v=-2\/v=-1\/(0<=v/\v<R k))):OkL R acc nxt C tags (runK nxt C f n)/\∀i,∀k∈runK nxt C f i,P k:=by
 have j:∀i,∀k∈runK nxt C f i,P k:=by
  intro i
  induction i with
  |zero=>intro k hk;simp[runK]at hk;rw[hk];exact r
  |succ i ih=>
   intro k hk;rw[show runK nxt C f (i+1)=if i<(runK nxt C f i).length then X3 nxt ((runK nxt C f i).getD i default) (runK nxt C f i) C else runK nxt C f i from rfl]at hk;split at hk
   ·rename_i hi;rcases g0M nxt _ _ C hk with h1|⟨_,d,s,h2,h3⟩
    ·exact ih k h1
    ·refine(hs _ (ih _ ?_) d h2 k s h3).1;rw[show(runK nxt C f i).getD i default=(runK nxt C f i)[i] by simp[List.getD,hi]];exact List.getElem_mem hi
   ·exact ih k hk
 refine⟨⟨fun k hk=>q k (j n k hk),fun k hk=>ha k (j n k hk),fun k hk c o x s e=>?_⟩,j⟩;obtain⟨u,a2,a3⟩:=hs k (j n k hk) c o x s e;refine⟨?_,a2,a3⟩;have hp:=f0Y hk;have m:=h0o hk;have g:X6 (runK nxt C f n) k<n:=by have:=h.1;omega
 have hl:=(h.2 _ g).1;have p:(runK nxt C f (X6 (runK nxt C f n) k)).getD (X6 (runK nxt C f n) k) default=k:=by
  rw[<-h0k nxt C f (Nat.le_of_lt g) hl];rw[List.getD_eq_getElem?_getD,m];rfl
 exact t0o nxt C f g hl o (by rw[p];exact e)
end
end Go.Proofs.YtihmgaccbcfgjaaGreat
namespace Go.Proofs.YtihmgaccbcfgjaaGreat
open Go.V Go.RowKit Go.X
def u8_in (x:Int):L5 .u8 (IntKind.u8.wrap x):=by
 unfold L5;have h1:IntKind.u8.wrap x=x % 256:=by rfl
 have c:IntKind.u8.min=0:=by rfl
 have d:IntKind.u8.max=255:=by rfl
 rw[h1,c,d];omega
def g0L (s:List (List Bool)×List Int)(k:List Bool):List (List Bool)×List Int:=if s.1.contains k then(s.1,s.2++[(s.1.idxOf k:Int)])else(s.1++[k],s.2++[(s.1.length:Int)])
def I3 (key:Nat->List Bool):Nat->List (List Bool)×List Int
 |0=>([],[])
 |b+1=>g0L (I3 key b) (key b)
def q0i:∀(o:List Int) (c n:Int),N6 (o++[c]) n=(N6 o n).bind fun m=>N6 [c] m
 |[],c,n=>rfl
 |x :: r,c,n=>by
  show N6 (x :: (r++[c])) n=_;unfold N6;split
  ·rfl
  ·exact q0i r c _
def n0C:∀(o:List Int) (c:Int) (b:Nat) (out:List Int),F9 (o++[c]) b out=F9 [c] (b+o.length) (F9 o b out)
 |[],c,b,out=>rfl
 |x :: r,c,b,out=>by
  show F9 (x :: (r++[c])) b out=_;rw[F9,n0C r c (b+1),length_cons,show b+(r.length+1)=b+1+r.length from O'];rfl
def j0l:∀(o:List Int) (b:Nat) (out:List Int),(∀x∈out,L5 .u8 x)->∀x∈F9 o b out,L5 .u8 x
 |[],b,out,h=>h
 |c :: r,b,out,h=>by
  rw[F9];refine j0l r (b+1) _ fun x d=>?_;split at d
  ·rcases List.mem_append.1 d with h1|h1
   ·exact h x h1
   ·simp only[List.mem_singleton]at h1;subst h1;exact u8_in _
  ·exact h x d
def k08 (key:Nat->List Bool):∀b,(I3 key b).2.length=b/\N6 (I3 key b).2 0=some ((I3 key b).1.length:Int)/\(M0 (I3 key b).2).length=(I3 key b).1.length/\(I3 key b).1.length<=b
 |0=>⟨rfl,rfl,rfl,Nat.le_refl _⟩
 |b+1=>by
  obtain⟨h1,d,c,g⟩:=k08 key b;rw[show I3 key (b+1)=g0L (I3 key b) (key b)from rfl];unfold M0 at c ⊢;unfold g0L;split
  ·rename_i f;have hi:=List.idxOf_lt_length_of_mem (List.contains_iff_mem.1 f);refine⟨by simp[h1],?_,?_,by simp only;omega⟩
   ·simp only;rw[q0i,d];show N6 [_] _=_;unfold N6;rw[if_neg O',if_neg O'];rfl
   ·simp only;rw[n0C,F9,c,if_neg O'];exact c
  ·refine⟨by simp[h1],?_,?_,by simp only[length_append,length_cons,List.length_nil];omega⟩
   ·simp only;rw[q0i,d];show N6 [_] _=_;unfold N6;rw[if_neg O',if_pos rfl];unfold N6;simp
   ·simp only;rw[n0C,F9,c,if_pos rfl];show(F9 _ _ _++[_]).length=_;rw[length_append,c,length_append];rfl
def u0X (key:Nat->List Bool):J8 (I3 key 256).2=true:=by
 obtain⟨h1,c,_⟩:=k08 key 256;unfold J8;rw[c,h1];rfl
def r0X {key:Nat->List Bool}{f:List (List Bool)×List Int->Nat->Option (List (List Bool)×List Int)}:∀(n:Nat),(∀b,b<n->∀s,f s b=some (g0L s (key b)))->(List.range n).foldlM f ([],[])=some (I3 key n)
 |0,h=>rfl
 |n+1,h=>by
  rw[List.range_succ,List.foldlM_append,r0X n (fun b c=>h b O')];show(List.foldlM f (I3 key n) [n])=_;simp only[List.foldlM,h n O'];rfl
end Go.Proofs.YtihmgaccbcfgjaaGreat
namespace Go.Proofs.YtihmgaccbcfgjaaGreat
open Go.V Go.RowKit Old Go.X
open Classical
section
variable {F:Nat}{l:List C0}{n:Nat}{a:List B0}{b:Nat->List B0}{e:Nat->B0×Bool}{z:B0×Bool}{mode:Int}
def J1 (F:Nat)(l:List C0)(mode:Int)(least:List Int)(k:F1)(c:Nat):Option (F1×List Int):=match c0Q F l mode k (gt least (c:Int))with
 |some (x,s)=>if(x.Places.length:Int)==0&&x.Flag==0 then none else some (x,s)
 |none=>none
def K6 (F:Nat)(k:F1):Int:=(c0k F k).getD 0
def V8 (F:Nat)(l:List C0)(k:F1):List Int:=(c0s F l k).getD []
def PM (F:Nat)(l:List C0)(n:Nat)(k:F1):Prop:=∃c R,k=c.K/\KOk F l n c R
def q0I (K:U3 l n a b e z F)(hw:∀x∈l,P2 x)(hm:mode=0\/mode=1):d0z F l mode=some ((Kd.zero z mode).K,0)/\PM F l n (Kd.zero z mode).K/\K6 F (Kd.zero z mode).K=0:=by
 obtain⟨h1,c⟩:=A0M K hw hm;exact⟨h1,⟨_,0,rfl,c⟩,by unfold K6;rw[c.rg];rfl⟩
def j0B (K:U3 l n a b e z F)(hw:∀x∈l,P2 x)(hm:mode=0\/mode=1){least:List Int}(j:∀x∈least,L5 .u8 x){k:F1}(h:PM F l n k){c:Nat}(f:c<least.length):
  ∃x s,c0Q F l mode k (gt least (c:Int))=some (x,s)/\PM F l n x/\(s.length:Int)=K6 F x/\∀v∈s,v=-1\/(0<=v/\v<K6 F k):=by
 obtain⟨m,R,rfl,hk⟩:=h;obtain⟨h1,d,i⟩:=x0l K hw hk hm (j _ (gtm f));refine⟨_,_,h1,⟨_,_,rfl,d⟩,?_,fun v g=>?_⟩
 ·unfold K6;rw[d.rg];rfl
 ·unfold K6;rw[hk.rg];exact i v g
def h0s (K:U3 l n a b e z F){k:F1}(h:PM F l n k):c0k F k=some (K6 F k)/\0<=K6 F k/\K6 F k<=n*19:=by
 obtain⟨c,R,rfl,hk⟩:=h;have:=hk.le;unfold K6;rw[hk.rg];refine⟨rfl,?_,?_⟩
 ·show(0:Int)<=(R:Int);omega
 ·show(R:Int)<=_;omega
def n0r (K:U3 l n a b e z F){k:F1}(h:PM F l n k):c0s F l k=some (V8 F l k)/\(((V8 F l k).length:Int)=0\/(((V8 F l k).length:Int)=C4 l/\∀v∈V8 F l k,v=-2\/v=-1\/(0<=v/\v<K6 F k))):=by
 obtain⟨d,R,rfl,hk⟩:=h;have g:=a07 l;obtain⟨h1,c,f⟩:=D0j K hk;unfold V8 K6;rw[h1,hk.rg];refine⟨rfl,?_⟩;rcases c with c|c
 ·exact .inl (by show((a06 l e z d).length:Int)=0;omega)
 ·exact .inr ⟨by show((a06 l e z d).length:Int)=C4 l;omega,f⟩
def z06 (K:U3 l n a b e z F){k:F1}(h:PM F l n k):k.Places.length<=n/\k.Maps.length=k.Places.length/\(∀r∈k.Maps,r.length<=19)/\∃fB fD,k.Rank=U2 k.Places.length fB fD:=by
 obtain⟨c,R,rfl,hk⟩:=h;have hl:=hk.C.le;have f:=a07 l;refine⟨?_,?_,fun r d=>?_,c.fB,c.fD,?_⟩
 ·show(D1 c.pl).length<=n;rw[e0b];exact hl
 ·show c.maps.length=(D1 c.pl).length;rw[e0b];exact hk.C.len
 ·have:=hk.C.row r d;omega
 ·show U2 c.pl.length c.fB c.fD=U2 (D1 c.pl).length c.fB c.fD;rw[e0b]
noncomputable def j8 (F:Nat)(l:List C0)(mode:Int)(cls:List Int)(k0:F1)(B:Nat):Y1×Int:=
 if h:∃m,Y4 (J1 F l mode (M0 cls)) (M0 cls).length k0 B m then(b0F (K6 F) (V8 F l) (J1 F l mode (M0 cls)) (M0 cls).length (C4 l) cls (runK (J1 F l mode (M0 cls)) (M0 cls).length k0 (Classical.choose h)),0)
 else(⟨0,[],[]⟩,14)
def e0k {cls:List Int}{c:F1}{B m:Nat}(h:Y4 (J1 F l mode (M0 cls)) (M0 cls).length c B m):j8 F l mode cls c B=(b0F (K6 F) (V8 F l) (J1 F l mode (M0 cls)) (M0 cls).length (C4 l) cls (runK (J1 F l mode (M0 cls)) (M0 cls).length c m),0):=by
 have d:∃m,Y4 (J1 F l mode (M0 cls)) (M0 cls).length c B m:=⟨m,h⟩
 unfold j8;rw[dif_pos d,Y4.uniq _ _ _ (Classical.choose_spec d) h]
def h0Z {cls:List Int}{c:F1}{B i:Nat}(h:i0N (J1 F l mode (M0 cls)) (M0 cls).length c B i):j8 F l mode cls c B=(⟨0,[],[]⟩,14):=by
 unfold j8;rw[dif_neg]
 rintro⟨m,hm⟩
 have h1:=Y4.less _ _ _ hm h;have d:=Y4.le _ _ _ hm;omega
def t0e (K:U3 l n a b e z F)(hw:∀x∈l,P2 x)(hm:mode=0\/mode=1)(hn:n<=64){key:Nat->List Bool}{B m:Nat}(J:B<=400)(h:Y4 (J1 F l mode (M0 (I3 key 256).2)) (M0 (I3 key 256).2).length (Kd.zero z mode).K B m):
  a0V (j8 F l mode (I3 key 256).2 (Kd.zero z mode).K B).1=true/\(∀q,q<m->c0i (j8 F l mode (I3 key 256).2 (Kd.zero z mode).K B).1 q)/\(j8 F l mode (I3 key 256).2 (Kd.zero z mode).K B).1.States.length=m:=by
 have g:=a07 l;obtain⟨_,p,z2⟩:=q0I (z:=z) K hw hm;have I:=j0l (I3 key 256).2 0 [] (fun x d=>by cases d);obtain⟨ok,hP⟩:=r0E (R:=K6 F) (acc:=V8 F l) (tags:=C4 l) h (PM F l n) p (fun k hk c r x s d=>by
   obtain⟨x',s',f,o,u,v⟩:=j0B (mode:=mode) K hw hm (least:=M0 (I3 key 256).2) I hk r;unfold J1 at d;rw[f]at d;simp only at d;split at d
   ·cases d
   ·cases d;exact⟨o,u,v⟩)
  (fun k hk=>by
   obtain⟨_,f,o⟩:=h0s K hk;exact⟨f,O'⟩)
  (fun k hk=>(n0r K hk).2)
 rw[e0k h];have hlen:=h.1;have hle:=Y4.le _ _ _ h;have hp:=q0x (J1 F l mode (M0 (I3 key 256).2)) (M0 (I3 key 256).2).length (Kd.zero z mode).K m;refine⟨C0Q ok g.1 g.2 ?_ (u0X key) rfl (List.length_pos_iff.1 hp) O' ?_,fun q y=>E0v h q y,?_⟩
 ·have U:=n0H l;unfold C4 at g ⊢;rw[Int.tmod_eq_emod_of_nonneg O'];omega
 ·have:=h0k (J1 F l mode (M0 (I3 key 256).2)) (M0 (I3 key 256).2).length (Kd.zero z mode).K (i:=0) (j:=m) (q:=0) (Nat.zero_le _) (by simp[runK]);rw[this];exact z2
 ·show(List.map _ _).length=m;rw[length_map];exact hlen.symm
end
section
variable {F:Nat}{l:List C0}{n:Nat}{a:List B0}{b:Nat->List B0}{e:Nat->B0×Bool}{z:B0×Bool}{mode:Int}
def F0W (K:U3 l n a b e z F)(hw:∀x∈l,P2 x)(hm:mode=0\/mode=1)(hn:n<=64)(key:Nat->List Bool){B f:Nat}(s:B<=f)(k:f<=400):
  (j8 F l mode (I3 key 256).2 (Kd.zero z mode).K B=(⟨0,[],[]⟩,14)/\(j8 F l mode (I3 key 256).2 (Kd.zero z mode).K f=(⟨0,[],[]⟩,14)\/∃d,j8 F l mode (I3 key 256).2 (Kd.zero z mode).K f=(d,0)/\B<d.States.length/\d.States.length<=f))\/
  ∃d m,j8 F l mode (I3 key 256).2 (Kd.zero z mode).K B=(d,0)/\j8 F l mode (I3 key 256).2 (Kd.zero z mode).K f=(d,0)/\a0V d=true/\(∀q,q<m->c0i d q)/\d.States.length=m/\m<=B/\0<m/\
   j8 F l mode (I3 key 256).2 (Kd.zero z mode).K (m-1)=(⟨0,[],[]⟩,14)/\j8 F l mode (I3 key 256).2 (Kd.zero z mode).K m=(d,0):=by
 rcases h0m (J1 F l mode (M0 (I3 key 256).2)) (M0 (I3 key 256).2).length (Kd.zero z mode).K B with⟨m,m1,h⟩|⟨i,i1,h⟩
 ·right;have g:=t0e K hw hm hn O' h;have h1:=e0k (F:=F) (l:=l) (mode:=mode) h;have p:=e0k (F:=F) (l:=l) (mode:=mode) (Y4.more _ _ _ h (show m<=f from O'));have o:=e0k (F:=F) (l:=l) (mode:=mode) (Y4.more _ _ _ h (Nat.le_refl m));have hp:=q0x (J1 F l mode (M0 (I3 key 256).2)) (M0 (I3 key 256).2).length (Kd.zero z mode).K m;have j:0<m:=by have:=h.1;omega
  rw[h1]at g;refine⟨_,m,h1,p,g.1,g.2.1,g.2.2,m1,j,?_,o⟩;rcases h0m (J1 F l mode (M0 (I3 key 256).2)) (M0 (I3 key 256).2).length (Kd.zero z mode).K (m-1)with⟨u,r,c⟩|⟨i,i1,c⟩
  ·have:=Y4.uniq _ _ _ h c;omega
  ·exact h0Z c
 ·left;refine⟨h0Z h,?_⟩;rcases h0m (J1 F l mode (M0 (I3 key 256).2)) (M0 (I3 key 256).2).length (Kd.zero z mode).K f with⟨m,m1,c⟩|⟨i',i1',c⟩
  ·right;have g:=t0e K hw hm hn k c;have h1:=e0k (F:=F) (l:=l) (mode:=mode) c;rw[h1]at g;refine⟨_,h1,?_,?_⟩
   ·rw[g.2.2];exact Y4.less _ _ _ c h
   ·rw[g.2.2];exact m1
  ·exact .inl (h0Z c)
end
def G0g (t:Tm):2*t.leaves<=t.size+1:=by induction t<;>simp[Tm.leaves,Tm.size]<;>omega
section
variable {F:Nat}{l:List C0}{n:Nat}{a:List B0}{b:Nat->List B0}{e:Nat->B0×Bool}{z:B0×Bool}{mode:Int}{w:List Int}{t:Tm}
def G0J (c:I4 l t):N0 l l.length=t.leaves:=by
 have h:=a0R c.at0;rw[Nat.zero_add,<-c.len]at h;rw[h];simp[N0]
def C0w (c:I4 l t):2*N0 l l.length<=l.length+1:=by
 have:=G0g t;rw[G0J c,c.len];exact this
def C09 (K:U3 l n a b e z F)(hw:∀x∈l,P2 x)(hm:mode=0\/mode=1)(hn:n<=20){cls:List Int}(f1:cls.length=256)(f3:(M0 cls).length<=256){B:Nat}(I:B<=100):Sm (j8 F l mode cls (Kd.zero z mode).K B).1:=by
 rcases h0m (J1 F l mode (M0 cls)) (M0 cls).length (Kd.zero z mode).K B with⟨m,m1,h⟩|⟨i,i1,h⟩
 ·obtain⟨_,o,z2⟩:=q0I (z:=z) K hw hm;have y:=j0l cls 0 [] (fun x d=>(by cases d));have U:=a07 l;obtain⟨ok,j⟩:=r0E (R:=K6 F) (acc:=V8 F l) (tags:=C4 l) h (PM F l n) o (fun k hk c r x s d=>by
    obtain⟨x',J,f,g,u,v⟩:=j0B (mode:=mode) K hw hm (least:=M0 cls) y hk r;unfold J1 at d;rw[f]at d;simp only at d;split at d
    ·cases d
    ·cases d;exact⟨g,u,v⟩)
   (fun k hk=>by
    obtain⟨_,f,g⟩:=h0s K hk;exact⟨f,O'⟩)
   (fun k hk=>(n0r K hk).2)
  rw[e0k h];have hlen:=h.1;refine⟨?_,?_,?_,?_,?_,?_⟩
  ·show(List.map _ _).length<=100;rw[length_map];omega
  ·show cls.length<=300;omega
  ·intro s hs;obtain⟨k,hk,rfl⟩:=mem_map.1 hs;show(V8 F l k).length<=40;rcases ok.ac k hk with q|⟨q,_⟩<;>omega
  ·intro s hs;obtain⟨k,hk,rfl⟩:=mem_map.1 hs;show((List.range _).map _).length<=300;rw[length_map,List.length_range];omega
  ·intro s hs;obtain⟨k,hk,rfl⟩:=mem_map.1 hs;show K6 F k<=400;have:=(h0s K (j m k hk)).2.2;omega
  ·intro s hs x d;obtain⟨k,hk,rfl⟩:=mem_map.1 hs;obtain⟨c,c1,rfl⟩:=mem_map.1 d;unfold U8;cases q:J1 F l mode (M0 cls) k c with
   |none=>simp
   |some p=>
    obtain⟨x,s⟩:=p;obtain⟨f,g,_⟩:=ok.nx k hk c (mem_range.1 c1) x s q;have:=(h0s K (j m x f)).2.2;show s.length<=400;omega
 ·rw[h0Z h];exact⟨X',X',fun s hs=>(by cases hs),fun s hs=>(by cases hs),fun s hs=>(by cases hs),fun s hs=>(by cases hs)⟩
def C0o (K:U3 l n a b e z F)(hw:∀x∈l,P2 x)(hm:mode=0\/mode=1)(hn:n<=20)(key:Nat->List Bool){B:Nat}(c:B<=100):Sm (j8 F l mode (I3 key 256).2 (Kd.zero z mode).K B).1:=by
 obtain⟨f1,f2,f3,f4⟩:=k08 key 256;exact C09 K hw hm hn f1 (Nat.le_trans (Nat.le_of_eq f3) f4) c
end
end Go.Proofs.YtihmgaccbcfgjaaGreat
namespace Go.Proofs.YtihmgaccbcfgjaaGreat
open Go.V Go.RowKit Old Go.X
def a0z (l:List C0):List (List Int):=(l.filter fun x=>x.Kind==2).map fun x=>x.Set
def a0K (l:List C0)(b:Nat):List Bool:=(a0z l).map fun s=>hasB s (b:Int)
end Go.Proofs.YtihmgaccbcfgjaaGreat
namespace Go.Proofs.YtihmgaccbcfgjaaGreat
open Go.V Go.RowKit Old Go.X
open Classical
def k0T {α ρ:Type}[Inhabited α]{a b:List α}(hl:a.length=b.length){good bad:ρ}{body:Int->Option (Q0 Int ρ)}
  (hs:∀i:Nat,i<a.length->body (i:Int)=some (if gt a (i:Int)=gt b (i:Int)then .next ((i+1:Nat):Int)else .done bad)) (he:body (a.length:Int)=some (.done good)) {fu:Nat} (h:a.length<fu):
  iter body fu 0=some (if a=b then good else bad):=by
 have key:∀k i fu:Nat,i+k=a.length->k<fu->a.take i=b.take i->iter body fu (i:Int)=some (if a=b then good else bad):=by
  intro k
  induction k with
  |zero=>
   intro i fu hi f c;obtain⟨fu,rfl⟩:∃m,fu=m+1:=⟨fu-1,O'⟩
   obtain rfl:i=a.length:=O'
   have d:a=b:=by
    rw[List.take_length]at c;rw[hl,List.take_length]at c;exact c
   rw[if_pos d];unfold iter;rw[he]
  |succ k ih=>
   intro i fu hi f c;obtain⟨fu,rfl⟩:∃m,fu=m+1:=⟨fu-1,O'⟩
   have hs:=hs i O'
   by_cases q:gt a (i:Int)=gt b (i:Int)
   ·rw[if_pos q]at hs;rw[<-ih (i+1) fu O' O' (by rw[List.take_succ,List.take_succ,c,P4 (show i<a.length from O'),P4 (show i<b.length from O'),q])];exact n0D hs
   ·rw[if_neg q]at hs;have:¬a=b:=fun h=>q (by rw[h]);rw[if_neg this];unfold iter;rw[hs]
 exact key a.length 0 fu O' h rfl
section
variable {F:Nat}
def i0S (a b:List Int)(hl:a.length<=1000000)(d:2000001<F):b00 F a b=some (decide (a=b)):=by
 unfold b00
 by_cases h:a.length=b.length
 ·have e:((a.length:Int) != (b.length:Int))=false:=by simp[h]
  rw[k0T h (good:=.inr ()) (bad:=.inl ()) (fun i hi=>by
   unfold n0B;have h1:(i:Int)<(a.length:Int):=O'
   simp only[h1,decide_true,if_true,V0 (l:=a) (i:=(i:Int)) O' h1,V0 (l:=b) (i:=(i:Int)) O' O']
   by_cases g:gt a (i:Int)=gt b (i:Int)
   ·simp[g,X1 (i:=i) O']
   ·simp[g]) (by unfold n0B;simp) (show a.length<F from O')]
  by_cases g:a=b
  ·simp[e,g]
  ·simp[e,g]
 ·have e:((a.length:Int) != (b.length:Int))=true:=by simp;omega
  have g:¬a=b:=fun c=>h (by rw[c]);simp[e,g]
def y0d (x y:D2)(h1:x.B.length<=1000)(s:x.D.length<=1000)(p:∀r∈x.B,r.length<=1000)(k:∀r∈x.D,r.length<=1000)(j:2000001<F):l0p F x y=some (decide (x=y)):=by
 unfold l0p
 by_cases h:x.B.length=y.B.length
 ·have e:((x.B.length:Int) != (y.B.length:Int))=false:=by simp[h]
  rw[k0T h (good:=.inr ()) (bad:=.inl ()) (fun i hi=>by
   unfold m03;have h1:(i:Int)<(x.B.length:Int):=O'
   have:=p _ (gtm (l:=x.B) (i:=i) hi);simp only[q0,h1,V0 (l:=x.B) (i:=(i:Int)) O' h1,V0 (l:=y.B) (i:=(i:Int)) O' O',i0S (F:=F) (gt x.B (i:Int)) (gt y.B (i:Int)) O' j]
   by_cases g:gt x.B (i:Int)=gt y.B (i:Int)
   ·simp[g,X1 (i:=i) O']
   ·simp[g]) (by unfold m03;simp) (show x.B.length<F from O')]
  by_cases g:x.B=y.B
  ·by_cases f:x.D.length=y.D.length
   ·have e':((x.D.length:Int) != (y.D.length:Int))=false:=by simp[f]
    rw[k0T f (good:=.inr ()) (bad:=.inl ()) (fun i hi=>by
     unfold o0l;have h1:(i:Int)<(x.D.length:Int):=O'
     have:=k _ (gtm (l:=x.D) (i:=i) hi);simp only[q0,h1,V0 (l:=x.D) (i:=(i:Int)) O' h1,V0 (l:=y.D) (i:=(i:Int)) O' O',i0S (F:=F) (gt x.D (i:Int)) (gt y.D (i:Int)) O' j]
     by_cases g:gt x.D (i:Int)=gt y.D (i:Int)
     ·simp[g,X1 (i:=i) O']
     ·simp[g]) (by unfold o0l;simp) (show x.D.length<F from O')]
    obtain⟨q,o⟩:=x;obtain⟨u,m⟩:=y;simp only at g e e' ⊢;subst g
    by_cases c:o=m
    ·simp[e,e',c]
    ·simp[e,e',c]
   ·have e':((x.D.length:Int) != (y.D.length:Int))=true:=by simp;omega
    have c:¬x=y:=fun d=>f (by rw[d]);simp[e,g,e',c]
  ·have c:¬x=y:=fun d=>g (by rw[d]);simp[e,g,c]
 ·have e:((x.B.length:Int) != (y.B.length:Int))=true:=by simp;omega
  have g:¬x=y:=fun d=>h (by rw[d]);simp[e,g]
def E0t (a b:F1)(I:a.Places.length<=1000)(hm:a.Maps.length<=1000)(m:∀r∈a.Maps,r.length<=1000)(h1:a.Rank.B.length<=1000)(y:a.Rank.D.length<=1000)(x:∀r∈a.Rank.B,r.length<=1000)(p:∀r∈a.Rank.D,r.length<=1000)(j:2000001<F):h0U F a b=some (decide (a=b)):=by
 unfold h0U;have f:l06 F=some ():=rfl;rw[f,i0S _ _ O' j,y0d _ _ h1 y x p j];obtain⟨k,s,c,q⟩:=a;obtain⟨o,u,d,v⟩:=b;simp only at hm m ⊢
 by_cases c1:k=o
 ·subst c1
  by_cases c2:s=u
  ·subst c2
   by_cases h:c.length=d.length
   ·have e:((c.length:Int) != (d.length:Int))=false:=by simp[h]
    rw[k0T h (good:=.inr ()) (bad:=.inl ()) (fun i hi=>by
     unfold n0F;have h1:(i:Int)<(c.length:Int):=O'
     have:=m _ (gtm (l:=c) (i:=i) hi);simp only[q0,h1,V0 (l:=c) (i:=(i:Int)) O' h1,V0 (l:=d) (i:=(i:Int)) O' O',i0S (F:=F) (gt c (i:Int)) (gt d (i:Int)) O' j]
     by_cases g:gt c (i:Int)=gt d (i:Int)
     ·simp[g,X1 (i:=i) O']
     ·simp[g]) (by unfold n0F;simp) (show c.length<F from O')]
    by_cases c3:c=d
    ·subst c3
     by_cases c4:q=v
     ·simp[e,c4]
     ·simp[e,c4]
    ·simp[e,c3]
   ·have e:((c.length:Int) != (d.length:Int))=true:=by simp;omega
    have c3:¬c=d:=fun f=>h (by rw[f]);simp[e,c3]
  ·simp[c2]
 ·have:(k==o)=false:=by simpa using c1
  simp[this,c1]
end
section
variable {F:Nat}{l:List C0}{n:Nat}{a:List B0}{b:Nat->List B0}{e:Nat->B0×Bool}{z:B0×Bool}{mode:Int}
def y0a (K:U3 l n a b e z F){x:F1}(h:PM F l n x)(y:F1):h0U F x y=some (decide (x=y)):=by
 have f1:=K.f1;have hn:=K.T.n64;obtain⟨h1,g,f,fB,fD,d⟩:=z06 K h;refine E0t x y O' O' (fun r c=>by have:=f r c;omega) ?_ ?_ ?_ ?_ O'
 ·rw[d];simp[U2,U1];omega
 ·rw[d];simp[U2,U1];omega
 ·rw[d];intro r c;simp[U2,U1]at c;obtain⟨i,_,rfl⟩:=c;simp;omega
 ·rw[d];intro r c;simp[U2,U1]at c;obtain⟨i,_,rfl⟩:=c;simp;omega
end
def v08 {K S:Type}[Inhabited K](nxt:K->Nat->Option (K×S))(k:K)(all:List K):∀c,(X3 nxt k all c).length<=all.length+c
 |0=>Nat.le_refl _
 |c+1=>by
  have d:=v08 nxt k all c;unfold X3;split
  ·omega
  ·unfold P7;split
   ·omega
   ·simp only[length_append,length_cons,List.length_nil];omega
def E0Z {K S:Type}[Inhabited K](nxt:K->Nat->Option (K×S))(k:K)(all:List K){c d:Nat}(h:c<=d):X3 nxt k all c <+: X3 nxt k all d:=by
 induction d with
 |zero=>
      obtain rfl:c=0:=O'
      exact prefix_refl _
 |succ d ih=>
  rcases Nat.lt_or_ge d c with q|q
  ·obtain rfl:c=d+1:=O'
   exact prefix_refl _
  ·refine(ih q).trans ?_;rw[show X3 nxt k all (d+1)=(match nxt k d with|none=>X3 nxt k all d|some (x,_)=>P7 (X3 nxt k all d) x)from rfl];split
   ·exact prefix_refl _
   ·exact q0c _ _
def u00 {K:Type}[Inhabited K]{nxt:K->Nat->Option (K×List Int)}{k:K}{c:Nat}{L M:List K}(h:L <+: M)(d:∀x s,nxt k c=some (x,s)->x∈L):U8 nxt M k c=U8 nxt L k c:=by
 unfold U8;cases q:nxt k c with
 |none=>rfl
 |some p=>
  obtain⟨x,s⟩:=p;simp only;rw[v09 (d x s q) h]
section
variable {F:Nat}{l:List C0}{n:Nat}{a:List B0}{b:Nat->List B0}{e:Nat->B0×Bool}{z:B0×Bool}{mode:Int}
def A0T (K:U3 l n a b e z F){x:F1}(h:PM F l n x){all:List F1}(hl:all.length<=100000):iter (e0D F all x) F 0=some (if x∈all then .inl ((X6 all x:Nat):Int)else .inr ()):=by
 have f1:=K.f1;have key:∀k i fu:Nat,i+k=all.length->k<fu->(∀j,j<i->all[j]?≠some x)->iter (e0D F all x) fu (i:Int)=some (if x∈all then .inl ((X6 all x:Nat):Int)else .inr ()):=by
  intro k
  induction k with
  |zero=>
   intro i fu hi I o;obtain⟨fu,rfl⟩:∃m,fu=m+1:=⟨fu-1,O'⟩
   obtain rfl:i=all.length:=O'
   have hn:¬x∈all:=fun v=>by
    obtain⟨j,g⟩:=List.getElem?_of_mem v;exact o j (List.getElem?_eq_some_iff.1 g).1 g
   rw[if_neg hn];unfold iter e0D;simp
  |succ k ih=>
   intro i fu hi I o;obtain⟨fu,rfl⟩:∃m,fu=m+1:=⟨fu-1,O'⟩
   have d:i<all.length:=O'
   have h1:(i:Int)<(all.length:Int):=O'
   have hs:=y0a K h (gt all (i:Int));have f:all[i]?=some (gt all (i:Int)):=P4 d
   by_cases q:x=gt all (i:Int)
   ·have hm:x∈all:=by rw[q];exact gtm d
    have hp:X6 all x=i:=by
     have p1:=f0Y hm;have u:=h0o hm;rcases Nat.lt_trichotomy (X6 all x) i with c|c|c
     ·exact absurd u (o _ c)
     ·exact c
     ·exfalso;have J:decide (all[i]=x)=false:=List.not_of_lt_findIdx (p:=fun y=>decide (y=x)) c;rw[List.getElem?_eq_getElem d]at f;exact of_decide_eq_false J ((Option.some.inj f).trans q.symm)
    rw[if_pos hm,hp];unfold iter e0D;simp only[q0,h1,V0 (l:=all) (i:=(i:Int)) O' h1,hs];rw[if_pos (by simpa using q)]
   ·rw[<-ih (i+1) fu O' O' (fun j g=>by
     by_cases r:j=i
     ·subst r;rw[f];exact fun s=>q (Option.some.inj s).symm
     ·exact o j O')]
    refine n0D ?_;unfold e0D;simp only[q0,h1,V0 (l:=all) (i:=(i:Int)) O' h1,hs];rw[if_neg (by simpa using q),X1 (i:=i) O']
 exact key all.length 0 F O' O' (fun j g=>absurd g (Nat.not_lt_zero j))
def y0k (K:U3 l n a b e z F)(hw:∀x∈l,P2 x)(hm:mode=0\/mode=1){least:List Int}(p:∀x∈least,L5 .u8 x){k:F1}(h:PM F l n k){c:Nat}(j:c<least.length){all:List F1}(hl:all.length<=100000):
  f0S F (l,mode,least,all) k (c:Int)=some (U8 (J1 F l mode least) (match J1 F l mode least k c with|none=>all|some (x,_)=>P7 all x) k c,(l,mode,least,match J1 F l mode least k c with|none=>all|some (x,_)=>P7 all x)):=by
 obtain⟨x,s,h1,o,_⟩:=j0B (mode:=mode) K hw hm p h j;have hn:J1 F l mode least k c=if(x.Places.length:Int)==0&&x.Flag==0 then none else some (x,s):=by unfold J1;rw[h1]
 have f:(if(x.Places.length:Int)==0 then some (x.Flag==0)else some false)=some ((x.Places.length:Int)==0&&x.Flag==0):=by cases(x.Places.length:Int)==0<;>rfl
 unfold f0S;simp only[V0 (l:=least) (i:=(c:Int)) O' O',if_true,h1,G0,c0V,f];unfold U8;rw[hn];cases q:((x.Places.length:Int)==0&&x.Flag==0)with
 |true=>simp
 |false=>
  simp only[q0,A0T K o hl]
  by_cases d:x∈all
  ·have hp:¬((X6 all x:Nat):Int)<0:=O'
   simp only[q0,d,hp];unfold P7;rw[if_pos d]
  ·have ap:K0 104 all [x]=true:=B4 Z';have g:X6 (P7 all x) x=all.length:=by
    unfold P7;rw[if_neg d];unfold X6;rw[List.findIdx_append];have:List.findIdx (fun y=>decide (y=x)) all=all.length:=List.findIdx_eq_length.2 fun y m=>by
     simp only[decide_eq_false_iff_not];exact fun h=>d (h▸m)
    rw[this,if_neg (Nat.lt_irrefl _)];simp[List.findIdx_cons]
   simp only[q0,d,show((-1:Int)<0)=True from X',ap,g];unfold P7;rw[if_neg d]
def A0n (K:U3 l n a b e z F)(hw:∀x∈l,P2 x)(hm:mode=0\/mode=1){least:List Int}(q:∀x∈least,L5 .u8 x)(p:least.length<=256){k:F1}(h:PM F l n k){all:List F1}(hl:all.length<=1000):
  f0T F (l,mode,least,all) k=some (T9 (K6 F) (V8 F l) (J1 F l mode least) least.length (X3 (J1 F l mode least) k all least.length) k,(l,mode,least,X3 (J1 F l mode least) k all least.length)):=by
 have f1:=K.f1;have m:=(h0s K h).1;have f:=(n0r K h).1;have d:=H3 (step:=e0z F least k) (fun c=>((c:Int),(l,mode,least,X3 (J1 F l mode least) k all c),(K6 F k,V8 F l k,(List.range c).map (U8 (J1 F l mode least) (X3 (J1 F l mode least) k all least.length) k))))
  ((l,mode,least,X3 (J1 F l mode least) k all least.length),(K6 F k,V8 F l k,(List.range least.length).map (U8 (J1 F l mode least) (X3 (J1 F l mode least) k all least.length) k))) least.length (fun c g=>.inl ?_) ?_ least.length 0 F O' O'
 ·have d:iter (e0z F least k) F (0,(l,mode,least,all),(K6 F k,V8 F l k,[]))=_:=d;unfold f0T;simp only[m,f,G0,c0V,d];rfl
 ·have o:=v08 (J1 F l mode least) k all c;have he:=y0k K hw hm q h g (all:=X3 (J1 F l mode least) k all c) O';have hg:(match J1 F l mode least k c with|none=>X3 (J1 F l mode least) k all c|some (x,_)=>P7 (X3 (J1 F l mode least) k all c) x)=X3 (J1 F l mode least) k all (c+1):=by
   conv=>rhs;rw[X3]
   cases J1 F l mode least k c<;>rfl
  rw[hg]at he;have hp:U8 (J1 F l mode least) (X3 (J1 F l mode least) k all least.length) k c=U8 (J1 F l mode least) (X3 (J1 F l mode least) k all (c+1)) k c:=u00 (E0Z _ _ _ (show c+1<=least.length from O')) (fun x s j=>m0f _ k all (Nat.lt_succ_self c) j);have c1:(c:Int)<(least.length:Int):=O'
  have ap:K0 32 ((List.range c).map (U8 (J1 F l mode least) (X3 (J1 F l mode least) k all least.length) k)) [U8 (J1 F l mode least) (X3 (J1 F l mode least) k all (c+1)) k c]=true:=B4 Z';unfold e0z;simp only[q0,c1,he,ap,X1 (i:=c) O'];rw[List.range_succ,List.map_append,List.map_cons,List.map_nil,hp]
 ·have c1:¬(least.length:Int)<(least.length:Int):=O'
  unfold e0z;simp only[q0,c1]
end
