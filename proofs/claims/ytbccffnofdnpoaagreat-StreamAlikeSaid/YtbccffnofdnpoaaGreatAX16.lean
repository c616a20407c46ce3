/- P. Its conditions: none. -/
import Derived.Test.YtbccffnofdnpoaaGreatAX17
import Derived.Test.YtbccffnofdnpoaaGreatAG26
set_option linter.all false
namespace Go.X
open Go.V Go.RowKit Go.Sort Go.Shelf Go.Proofs
section
variable {α:Type}{T:Ty α}{key:α->Int}
def B01 {P:Program}{ρ:Ren}{f g:FuncId}(L:SlLaysF0.n6 P ρ)(C:ρ.f 6=f)(j:∀w,(isAgg (ρ.t 24)).run P w=.ok true w)(l:∀w,(Go.sizeOf (ρ.t 24)).run P w=.ok 3 w)(eg:∀args w,(callFunc g args).run P w=.ok (.enter g args) w)
  (p:∀(x y:X3) (w:World),Calls P g #[.agg x.cells.toArray,.agg y.cells.toArray] w fun e w'=>e=.returned (.int .i64 (x.to-y.to))/\∃q s,w'=grow (w.drewN q) s)
  {w:World} {S:E0} {e:TypeId} {v:Value} {xs:List α} {cs:List Value} (z:∀(S:E0) cs x,T.R w.heap S cs x->∃turn st,cs=[.int .i64 (key x),.int .i64 turn,st]) (o:T.sz=3)
  (b:Row w.heap e T.sz v xs.length cs) (d:V1 T w.heap S cs xs) (I:∀k,D1 v=some k->S k) (r:c0P key xs=true) (he:e<Qe):
  Calls P f #[v,.func (.func g) #[] #[]] w fun u w1=>u=.returned (.tuple #[])/\w1.os=w.os/\w1.tape=w.tape/\w1.output=w.output/\w.heap.size<=w1.heap.size/\
   (∀k,k<w.heap.size->D1 v≠some k->w1.heap[k]?=w.heap[k]?)/\∀S1,Y0 w.heap S w1.heap S1->(∀k,S k->S1 k)->∃i,Row w1.heap e T.sz v (j5 key xs).length i/\V1 T w1.heap S1 i (j5 key xs):=by
 subst C;rcases b.h0Z he with⟨hV,h⟩|⟨h0,hc0,hnone,a0,hv⟩
 ·obtain⟨A,c,a⟩:=Row.form b;have m:Ow T e (fun _=>True) w.heap S (.slice A xs.length c) xs:=by
   rw[<-a];exact⟨fun k hk=>⟨I k (by rw[<-h];exact hk),trivial⟩,cs,hV,d⟩
  rw[a];refine(M0e L j l eg p z o m r).mono ?_
  rintro u w1 ⟨rfl,h1,h2,h3,h4,h5,h6⟩
  refine⟨rfl,h1,h2,h3,h4,fun k hk hn=>h5 k hk (fun e=>hn (by rw[<-a,<-h,a];exact e)),fun S1 kp hs=>?_⟩;obtain⟨_,n,h7,U⟩:=h6 S1 kp hs;exact⟨n,Row.ofV he h7,U⟩
 ·subst hv;subst hc0;have J:xs=[]:=List.eq_nil_of_length_eq_zero h0;subst J;refine(AnyF.slices_SortFunc_none L (some a0) 0 _ w).mono ?_
  rintro u w1 ⟨rfl,rfl⟩
  exact⟨rfl,rfl,rfl,rfl,Nat.le_refl _,fun _ _ _=>rfl,fun S1 _ _=>⟨[],⟨by simp[j5],.inl ⟨rfl,_,rfl⟩⟩,V1.nil⟩⟩
end
def B05 {E:Env}{ρ:Ren}{f g i e:Nat}{key:E.D i->Int}(L:SlLaysF0.n6 E.P ρ)(hf:ρ.f 6=f)(s:∀w,(isAgg (ρ.t 24)).run E.P w=.ok true w)(p:∀w,(Go.sizeOf (ρ.t 24)).run E.P w=.ok 3 w)(eg:∀args w,(callFunc g args).run E.P w=.ok (.enter g args) w)
  (b4:∀(x y:X3) (w:World),Calls E.P g #[.agg x.cells.toArray,.agg y.cells.toArray] w fun e w'=>e=.returned (.int .i64 (x.to-y.to))/\∃q c4,w'=grow (w.drewN q) c4)
  (b1:∀(H:M0) (S:E0) cs x,(E.ty i).R H S cs x->∃turn st,cs=[.int .i64 (key x),.int .i64 turn,st]) (U:(E.ty i).sz=3) (he:e<Qe:=by unfold Qe;omega):
  N0 E ⟨f,[.own e (.st i),.fn g []],.tup [],[(0,.own e (.st i))],fun x=>if c0P key x then some (j5 key x)else none⟩:=by
 intro w S us pl x y hm j hS b3 c6;have hm:(if c0P key x then some (j5 key x)else none)=some y:=hm;split at hm<;>try cases hm
 rename_i c3;have j:G3 E w.heap S [.own e (.st i),.fn g []] x us pl:=j;unfold G3 at j;obtain⟨c,u,c8,p1,p2,rfl,rfl,I,h1,C⟩:=j;unfold G3 at C;obtain⟨c',u',c5,p3,p4,rfl,rfl,J,h3,h4⟩:=C;obtain⟨rfl,rfl⟩:=c0y h4;unfold SR at h1 h3;obtain⟨v,cs,rfl,rfl,h5,d,r⟩:=h1;obtain⟨us,rfl,h6⟩:=h3;obtain⟨rfl,rfl⟩:=c0y h6;have I:u=v:=I;have J:u'=.func (.func g) #[] #[]:=J;subst I;subst J;have m:∀k,D1 u=some k->S k:=fun k hk=>b3 k ⟨u,V',(by obtain⟨A,c,n⟩:=Row.form d;rw[n]at hk ⊢;exact hk)⟩;refine(B01 (T:=E.ty i) L hf s p eg b4 (b1 w.heap) U d r m c3 he).mono ?_
 rintro ee w1 ⟨rfl,q1,q2,q3,q4,q5,q6⟩
 have kp:Y0 w.heap S w1.heap S:=⟨q4,fun b l hn=>⟨hn,q5 b l (fun e=>hn (m b e))⟩⟩
 obtain⟨b2,q7,q8⟩:=q6 S kp (fun _ h=>h);obtain⟨A,cc,n⟩:=Row.form d;have o:∀k,Bk u k↔D1 u=some k:=fun k=>by rw[n];exact Iff.rfl
 refine⟨_,S,[u],rfl,?_,⟨q1,q2,q3,q4,fun k hk hn=>q5 k hk (fun e=>hn ⟨u,V',(o k).2 e⟩)⟩,kp,fun b l _=>l,fun b l=>Nat.lt_of_lt_of_le (hS b l) q4,?_,?_⟩
 ·show G3 E w1.heap S [.tup [],.own e (.st i)] (j5 key x) [.tuple #[],u] [u];refine a0f ⟨[.tuple #[]],.tuple #[],[u],[],[u],rfl,rfl,rfl,?_,a0f ⟨[u],u,[],[u],[],rfl,rfl,rfl,?_,a04⟩⟩
  ·unfold SR;exact⟨[],rfl,a04⟩
  ·unfold SR;exact⟨u,b2,rfl,rfl,h5,q7,q8⟩
 ·intro a b v1 v2 a1 h1 C;have e:∀{q:Nat} {z:Value},[u][q]?=some z->q=0:=fun {q z} h=>by
   cases q with
   |zero=>rfl
   |succ q=>simp at h
  exact absurd ((e h1).trans (e C).symm) a1
 ·rintro b ⟨v1,hv1,l⟩
  simp at hv1;subst hv1;exact⟨m b ((o b).1 l),.inl ⟨v1,V',l⟩⟩
