/- P. Its conditions: none. -/
import Derived.Test.YtihmgaccbcfgjaaGreatRX17
import Derived.Test.YtihmgaccbcfgjaaGreatRG25
set_option linter.all false
namespace Go.X
open Go.V Go.RowKit Go.Sort Go.Shelf Go.Proofs
section
variable {α:Type}{T:Ty α}{key:α->Int}
def E0y {P:Program}{ρ:Ren}{f g:FuncId}(L:SlLaysF0.n6 P ρ)(I:ρ.f 6=f)(h:∀w,(isAgg (ρ.t 24)).run P w=.ok true w)(d:∀w,(Go.sizeOf (ρ.t 24)).run P w=.ok 3 w)(eg:∀args w,(callFunc g args).run P w=.ok (.enter g args) w)
  (r:∀(x y:Y2) (w:World),Calls P g #[.agg x.cells.toArray,.agg y.cells.toArray] w fun e w'=>e=.returned (.int .i64 (x.to-y.to))/\∃q n,w'=grow (w.drewN q) n)
  {w:World} {S:D0} {e:TypeId} {v:Value} {xs:List α} {cs:List Value} (z:∀(S:D0) cs x,T.R w.heap S cs x->∃turn st,cs=[.int .i64 (key x),.int .i64 turn,st]) (s:T.sz=3)
  (b:Row w.heap e T.sz v xs.length cs) (l:R1 T w.heap S cs xs) (hS:∀k,B1 v=some k->S k) (u:b0v key xs=true):
  Calls P f #[v,.func (.func g) #[] #[]] w fun m w1=>m=.returned (.tuple #[])/\w1.os=w.os/\w1.tape=w.tape/\w1.output=w.output/\w.heap.size<=w1.heap.size/\
   (∀k,k<w.heap.size->B1 v≠some k->w1.heap[k]?=w.heap[k]?)/\∀S1,P0 w.heap S w1.heap S1->(∀k,S k->S1 k)->∃j,Row w1.heap e T.sz v (F7 key xs).length j/\R1 T w1.heap S1 j (F7 key xs):=by
 subst I;rcases b.m0j with⟨U,i⟩|⟨h0,hc0,hnone,a0,hv⟩
 ·obtain⟨A,c,a⟩:=Row.form b;have o:Ow T e (fun _=>True) w.heap S (.slice A xs.length c) xs:=by
   rw[<-a];exact⟨fun k hk=>⟨hS k (by rw[<-i];exact hk),trivial⟩,cs,U,l⟩
  rw[a];refine(C05 L h d eg r z s o u).mono ?_
  rintro m w1 ⟨rfl,h1,h2,h3,h4,h5,h6⟩
  refine⟨rfl,h1,h2,h3,h4,fun k hk hn=>h5 k hk (fun e=>hn (by rw[<-a,<-i,a];exact e)),fun S1 kp hs=>?_⟩;obtain⟨_,p,J,h8⟩:=h6 S1 kp hs;exact⟨p,Row.ofV J,h8⟩
 ·subst hv;subst hc0;have C:xs=[]:=List.eq_nil_of_length_eq_zero h0;subst C;refine(AnyF.slices_SortFunc_none L (some a0) 0 _ w).mono ?_
  rintro m w1 ⟨rfl,rfl⟩
  exact⟨rfl,rfl,rfl,rfl,Nat.le_refl _,fun _ _ _=>rfl,fun S1 _ _=>⟨[],⟨by simp[F7],.inl ⟨rfl,_,rfl⟩⟩,R1.nil⟩⟩
end
def F0y {E:Env}{ρ:Ren}{f g i e:Nat}{key:E.D i->Int}(L:SlLaysF0.n6 E.P ρ)(hf:ρ.f 6=f)(s:∀w,(isAgg (ρ.t 24)).run E.P w=.ok true w)(r:∀w,(Go.sizeOf (ρ.t 24)).run E.P w=.ok 3 w)(eg:∀args w,(callFunc g args).run E.P w=.ok (.enter g args) w)
  (b2:∀(x y:Y2) (w:World),Calls E.P g #[.agg x.cells.toArray,.agg y.cells.toArray] w fun e w'=>e=.returned (.int .i64 (x.to-y.to))/\∃q b1,w'=grow (w.drewN q) b1)
  (b5:∀(H:I0) (S:D0) cs x,(E.ty i).R H S cs x->∃turn st,cs=[.int .i64 (key x),.int .i64 turn,st]) (b3:(E.ty i).sz=3):
  U0 E ⟨f,[.own e (.st i),.fn g []],.tup [],[(0,.own e (.st i))],fun x=>if b0v key x then some (F7 key x)else none⟩:=by
 intro w S us pl x y hm j hS a1 c3;have hm:(if b0v key x then some (F7 key x)else none)=some y:=hm;split at hm<;>try cases hm
 rename_i U;have j:E2 E w.heap S [.own e (.st i),.fn g []] x us pl:=j;unfold E2 at j;obtain⟨c,u,c4,p1,p2,rfl,rfl,I,h1,C⟩:=j;unfold E2 at C;obtain⟨c',u',c0,p3,p4,rfl,rfl,e2,h3,h4⟩:=C;obtain⟨rfl,rfl⟩:=c0e h4;unfold SR at h1 h3;obtain⟨v,cs,rfl,rfl,h5,d,p⟩:=h1;obtain⟨us,rfl,h6⟩:=h3;obtain⟨rfl,rfl⟩:=c0e h6;have I:u=v:=I;have e2:u'=.func (.func g) #[] #[]:=e2;subst I;subst e2;have m:∀k,B1 u=some k->S k:=fun k hk=>a1 k ⟨u,Z',(by obtain⟨A,c,n⟩:=Row.form d;rw[n]at hk ⊢;exact hk)⟩;refine(E0y (T:=E.ty i) L hf s r eg b2 (b5 w.heap) b3 d p m U).mono ?_
 rintro ee w1 ⟨rfl,q1,q2,q3,q4,q5,q6⟩
 have kp:P0 w.heap S w1.heap S:=⟨q4,fun b l hn=>⟨hn,q5 b l (fun e=>hn (m b e))⟩⟩
 obtain⟨J,q7,q8⟩:=q6 S kp (fun _ h=>h);obtain⟨A,cc,n⟩:=Row.form d;have o:∀k,Bk u k↔B1 u=some k:=fun k=>by rw[n];exact Iff.rfl
 refine⟨_,S,[u],rfl,?_,⟨q1,q2,q3,q4,fun k hk hn=>q5 k hk (fun e=>hn ⟨u,Z',(o k).2 e⟩)⟩,kp,fun b l _=>l,fun b l=>Nat.lt_of_lt_of_le (hS b l) q4,?_,?_⟩
 ·show E2 E w1.heap S [.tup [],.own e (.st i)] (F7 key x) [.tuple #[],u] [u];refine U9 ⟨[.tuple #[]],.tuple #[],[u],[],[u],rfl,rfl,rfl,?_,U9 ⟨[u],u,[],[u],[],rfl,rfl,rfl,?_,a0M⟩⟩
  ·unfold SR;exact⟨[],rfl,a0M⟩
  ·unfold SR;exact⟨u,J,rfl,rfl,h5,q7,q8⟩
 ·intro a b v1 v2 b4 h1 C;have e:∀{q:Nat} {z:Value},[u][q]?=some z->q=0:=fun {q z} h=>by
   cases q with
   |zero=>rfl
   |succ q=>simp at h
  exact absurd ((e h1).trans (e C).symm) b4
 ·rintro b ⟨v1,hv1,l⟩
  simp at hv1;subst hv1;exact⟨m b ((o b).1 l),.inl ⟨v1,Z',l⟩⟩
