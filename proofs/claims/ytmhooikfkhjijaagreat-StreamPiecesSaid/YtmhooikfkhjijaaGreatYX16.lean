/- P. Its conditions: none. -/
import Derived.Test.YtmhooikfkhjijaaGreatYX17
import Derived.Test.YtmhooikfkhjijaaGreatYVSort
set_option linter.all false
namespace Go.X
open Go.V Go.RowKit Go.Sort Go.Shelf Go.Proofs
section
variable {α:Type}{T:Ty α}{key:α->Int}
def F0b {P:Program}{ρ:Ren}{f g:FuncId}(L:SlLaysF0.n6 P ρ)(hf:ρ.f 6=f)(h:∀w,(isAgg (ρ.t 24)).run P w=.ok true w)(l:∀w,(Go.sizeOf (ρ.t 24)).run P w=.ok 3 w)(eg:∀args w,(callFunc g args).run P w=.ok (.enter g args) w)
  (m:∀(x y:J3) (w:World),Calls P g #[.agg x.cells.toArray,.agg y.cells.toArray] w fun e w'=>e=.returned (.int .i64 (x.to-y.to))/\∃q s,w'=grow (w.drewN q) s)
  {w:World} {S:D0} {e:TypeId} {v:Value} {xs:List α} {cs:List Value} (r:∀(S:D0) cs x,T.R w.heap S cs x->∃turn st,cs=[.int .i64 (key x),.int .i64 turn,st]) (z:T.sz=3)
  (b:Row w.heap e T.sz v xs.length cs) (i:U1 T w.heap S cs xs) (J:∀k,D1 v=some k->S k) (p:b0j key xs=true):
  Calls P f #[v,.func (.func g) #[] #[]] w fun u w1=>u=.returned (.tuple #[])/\w1.os=w.os/\w1.tape=w.tape/\w1.output=w.output/\w.heap.size<=w1.heap.size/\
   (∀k,k<w.heap.size->D1 v≠some k->w1.heap[k]?=w.heap[k]?)/\∀S1,U0 w.heap S w1.heap S1->(∀k,S k->S1 k)->∃d,Row w1.heap e T.sz v (r7 key xs).length d/\U1 T w1.heap S1 d (r7 key xs):=by
 subst hf;rcases b.o0k with⟨hV,j⟩|⟨h0,hc0,hnone,a0,hv⟩
 ·obtain⟨A,c,a⟩:=Row.form b;have o:Ow T e (fun _=>True) w.heap S (.slice A xs.length c) xs:=by
   rw[<-a];exact⟨fun k hk=>⟨J k (by rw[<-j];exact hk),trivial⟩,cs,hV,i⟩
  rw[a];refine(C0r L h l eg m r z o p).mono ?_
  rintro u w1 ⟨rfl,h1,h2,h3,h4,h5,h6⟩
  refine⟨rfl,h1,h2,h3,h4,fun k hk hn=>h5 k hk (fun e=>hn (by rw[<-a,<-j,a];exact e)),fun S1 kp C=>?_⟩;obtain⟨_,n,U,h8⟩:=h6 S1 kp C;exact⟨n,Row.ofV U,h8⟩
 ·subst hv;subst hc0;have I:xs=[]:=List.eq_nil_of_length_eq_zero h0;subst I;refine(AnyF.slices_SortFunc_none L (some a0) 0 _ w).mono ?_
  rintro u w1 ⟨rfl,rfl⟩
  exact⟨rfl,rfl,rfl,rfl,Nat.le_refl _,fun _ _ _=>rfl,fun S1 _ _=>⟨[],⟨by simp[r7],.inl ⟨rfl,_,rfl⟩⟩,U1.nil⟩⟩
end
def A0v {E:Env}{ρ:Ren}{f g i e:Nat}{key:E.D i->Int}(L:SlLaysF0.n6 E.P ρ)(hf:ρ.f 6=f)(o:∀w,(isAgg (ρ.t 24)).run E.P w=.ok true w)(p:∀w,(Go.sizeOf (ρ.t 24)).run E.P w=.ok 3 w)(eg:∀args w,(callFunc g args).run E.P w=.ok (.enter g args) w)
  (I:∀(x y:J3) (w:World),Calls E.P g #[.agg x.cells.toArray,.agg y.cells.toArray] w fun e w'=>e=.returned (.int .i64 (x.to-y.to))/\∃q b1,w'=grow (w.drewN q) b1)
  (a1:∀(H:K0) (S:D0) cs x,(E.ty i).R H S cs x->∃turn st,cs=[.int .i64 (key x),.int .i64 turn,st]) (b4:(E.ty i).sz=3):
  C1 E ⟨f,[.own e (.st i),.fn g []],.tup [],[(0,.own e (.st i))],fun x=>if b0j key x then some (r7 key x)else none⟩:=by
 intro w S us pl x y hm j hS b3 c0;have hm:(if b0j key x then some (r7 key x)else none)=some y:=hm;split at hm<;>try cases hm
 rename_i U;have j:I3 E w.heap S [.own e (.st i),.fn g []] x us pl:=j;unfold I3 at j;obtain⟨c,u,c3,p1,p2,rfl,rfl,e1,h1,C⟩:=j;unfold I3 at C;obtain⟨c',u',b5,p3,p4,rfl,rfl,e2,h3,h4⟩:=C;obtain⟨rfl,rfl⟩:=d04 h4;unfold SR at h1 h3;obtain⟨v,cs,rfl,rfl,h5,d,r⟩:=h1;obtain⟨us,rfl,h6⟩:=h3;obtain⟨rfl,rfl⟩:=d04 h6;have e1:u=v:=e1;have e2:u'=.func (.func g) #[] #[]:=e2;subst e1;subst e2;have m:∀k,D1 u=some k->S k:=fun k hk=>b3 k ⟨u,by simp,(by obtain⟨A,c,n⟩:=Row.form d;rw[n]at hk ⊢;exact hk)⟩;refine(F0b (T:=E.ty i) L hf o p eg I (a1 w.heap) b4 d r m U).mono ?_
 rintro ee w1 ⟨rfl,q1,q2,q3,q4,q5,q6⟩
 have kp:U0 w.heap S w1.heap S:=⟨q4,fun b l hn=>⟨hn,q5 b l (fun e=>hn (m b e))⟩⟩
 obtain⟨J,q7,q8⟩:=q6 S kp (fun _ h=>h);obtain⟨A,cc,n⟩:=Row.form d;have s:∀k,Bk u k↔D1 u=some k:=fun k=>by rw[n];exact Iff.rfl
 refine⟨_,S,[u],rfl,?_,⟨q1,q2,q3,q4,fun k hk hn=>q5 k hk (fun e=>hn ⟨u,by simp,(s k).2 e⟩)⟩,kp,fun b l _=>l,fun b l=>Nat.lt_of_lt_of_le (hS b l) q4,?_,?_⟩
 ·show I3 E w1.heap S [.tup [],.own e (.st i)] (r7 key x) [.tuple #[],u] [u];refine e0i ⟨[.tuple #[]],.tuple #[],[u],[],[u],rfl,rfl,rfl,?_,e0i ⟨[u],u,[],[u],[],rfl,rfl,rfl,?_,d0N⟩⟩
  ·unfold SR;exact⟨[],rfl,d0N⟩
  ·unfold SR;exact⟨u,J,rfl,rfl,h5,q7,q8⟩
 ·intro a b v1 v2 b2 h1 C;have e:∀{q:Nat} {z:Value},[u][q]?=some z->q=0:=fun {q z} h=>by
   cases q with
   |zero=>rfl
   |succ q=>simp at h
  exact absurd ((e h1).trans (e C).symm) b2
 ·rintro b ⟨v1,hv1,l⟩
  simp at hv1;subst hv1;exact⟨m b ((s b).1 l),.inl ⟨v1,by simp,l⟩⟩
