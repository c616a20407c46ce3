/- The sort of a library, as a contract. Its conditions: none. -/
import Derived.Test.YtdficaoajalfaaaGreatAX17
import Derived.Test.YtdficaoajalfaaaGreatAG26
set_option linter.all false
namespace Go.X
open Go.V Go.RowKit Go.Sort Go.Shelf Go.Proofs
section
variable {α:Type} {T:Ty α} {key:α->Int}
theorem F0b {P:Program} {ρ:Ren} {f g:FuncId} (L:SlLaysF0.n6 P ρ) (hf:ρ.f 6=f) (hagg:∀ w,(isAgg (ρ.t 24)).run P w=.ok true w) (hszt:∀ w,(Go.sizeOf (ρ.t 24)).run P w=.ok 3 w) (eg:∀ args w,(callFunc g args).run P w=.ok (.enter g args) w)
  (hcl:∀ (x y:J3) (w:World),Calls P g #[.agg x.cells.toArray,.agg y.cells.toArray] w fun e w'=>e=.returned (.int .i64 (x.to-y.to))/\∃ q os',w'=grow (w.drewN q) os')
  {w:World} {S:D0} {e:TypeId} {v:Value} {xs:List α} {cs:List Value} (hsh:∀ (S:D0) cs x,T.R w.heap S cs x->∃ turn st,cs=[.int .i64 (key x),.int .i64 turn,st]) (hsz:T.sz=3)
  (hrow:Row w.heap e T.sz v xs.length cs) (hels:U1 T w.heap S cs xs) (hS:∀ k,D1 v=some k->S k) (hok:b0j key xs=true) :
  Calls P f #[v,.func (.func g) #[] #[]] w fun ee w1=>ee=.returned (.tuple #[])/\w1.os=w.os/\w1.tape=w.tape/\w1.output=w.output/\w.heap.size<=w1.heap.size/\
   (∀ k,k<w.heap.size->D1 v≠some k->w1.heap[k]?=w.heap[k]?)/\∀ S1,U0 w.heap S w1.heap S1->(∀ k,S k->S1 k)->∃ cs',Row w1.heap e T.sz v (r7 key xs).length cs'/\U1 T w1.heap S1 cs' (r7 key xs):=by
 subst hf;rcases hrow.o0k with ⟨hV,hob⟩ | ⟨h0,hc0,hnone,a0,hv⟩
 ·obtain ⟨A,c,hfo⟩:=Row.form hrow;have how:Ow T e (fun _=>True) w.heap S (.slice A xs.length c) xs:=by
   rw [<-hfo];exact ⟨fun k hk=>⟨hS k (by rw [<-hob];exact hk),trivial⟩,cs,hV,hels⟩
  rw [hfo];refine (C0r L hagg hszt eg hcl hsh hsz how hok).mono ?_
  rintro ee w1 ⟨rfl,h1,h2,h3,h4,h5,h6⟩
  refine ⟨rfl,h1,h2,h3,h4,fun k hk hn=>h5 k hk (fun e=>hn (by rw [<-hfo,<-hob,hfo];exact e)),fun S1 kp hs=>?_⟩;obtain ⟨_,cs2,h7,h8⟩:=h6 S1 kp hs;exact ⟨cs2,Row.ofV h7,h8⟩
 ·subst hv;subst hc0;have hx:xs=[]:=List.eq_nil_of_length_eq_zero h0;subst hx;refine (AnyF.slices_SortFunc_none L (some a0) 0 _ w).mono ?_
  rintro ee w1 ⟨rfl,rfl⟩
  exact ⟨rfl,rfl,rfl,rfl,Nat.le_refl _,fun _ _ _=>rfl,fun S1 _ _=>⟨[],⟨by simp [r7],.inl ⟨rfl,_,rfl⟩⟩,U1.nil⟩⟩
end
theorem A0v {E:Env} {ρ:Ren} {f g i e:Nat} {key:E.D i->Int} (L:SlLaysF0.n6 E.P ρ) (hf:ρ.f 6=f) (hagg:∀ w,(isAgg (ρ.t 24)).run E.P w=.ok true w) (hszt:∀ w,(Go.sizeOf (ρ.t 24)).run E.P w=.ok 3 w) (eg:∀ args w,(callFunc g args).run E.P w=.ok (.enter g args) w)
  (hcl:∀ (x y:J3) (w:World),Calls E.P g #[.agg x.cells.toArray,.agg y.cells.toArray] w fun e w'=>e=.returned (.int .i64 (x.to-y.to))/\∃ q os',w'=grow (w.drewN q) os')
  (hsh:∀ (H:K0) (S:D0) cs x,(E.ty i).R H S cs x->∃ turn st,cs=[.int .i64 (key x),.int .i64 turn,st]) (hsz:(E.ty i).sz=3) :
  C1 E ⟨f,[.own e (.st i),.fn g []],.tup [],[(0,.own e (.st i))],fun x=>if b0j key x then some (r7 key x) else none⟩:=by
 intro w S us pl x y hm hsr hS hpl hap;have hm:(if b0j key x then some (r7 key x) else none)=some y:=hm;split at hm<;>try cases hm
 rename_i hok;have hsr:I3 E w.heap S [.own e (.st i),.fn g []] x us pl:=hsr;unfold I3 at hsr;obtain ⟨c,u,us',p1,p2,rfl,rfl,e1,h1,h2⟩:=hsr;unfold I3 at h2;obtain ⟨c',u',us'',p3,p4,rfl,rfl,e2,h3,h4⟩:=h2;obtain ⟨rfl,rfl⟩:=d04 h4;unfold SR at h1 h3;obtain ⟨v,cs,rfl,rfl,h5,hrow,hels⟩:=h1;obtain ⟨us,rfl,h6⟩:=h3;obtain ⟨rfl,rfl⟩:=d04 h6;have e1:u=v:=e1;have e2:u'=.func (.func g) #[] #[]:=e2;subst e1;subst e2;have hob:∀ k,D1 u=some k->S k:=fun k hk=>hpl k ⟨u,by simp,(by obtain ⟨A,c,hfo⟩:=Row.form hrow;rw [hfo] at hk ⊢;exact hk)⟩;refine (F0b (T:=E.ty i) L hf hagg hszt eg hcl (hsh w.heap) hsz hrow hels hob hok).mono ?_
 rintro ee w1 ⟨rfl,q1,q2,q3,q4,q5,q6⟩
 have kp:U0 w.heap S w1.heap S:=⟨q4,fun b hb hn=>⟨hn,q5 b hb (fun e=>hn (hob b e))⟩⟩
 obtain ⟨cs2,q7,q8⟩:=q6 S kp (fun _ h=>h);obtain ⟨A,cc,hfo⟩:=Row.form hrow;have hbk:∀ k,Bk u k↔D1 u=some k:=fun k=>by rw [hfo];exact Iff.rfl
 refine ⟨_,S,[u],rfl,?_,⟨q1,q2,q3,q4,fun k hk hn=>q5 k hk (fun e=>hn ⟨u,by simp,(hbk k).2 e⟩)⟩,kp,fun b hb _=>hb,fun b hb=>Nat.lt_of_lt_of_le (hS b hb) q4,?_,?_⟩
 ·show I3 E w1.heap S [.tup [],.own e (.st i)] (r7 key x) [.tuple #[],u] [u];refine e0i ⟨[.tuple #[]],.tuple #[],[u],[],[u],rfl,rfl,rfl,?_,e0i ⟨[u],u,[],[u],[],rfl,rfl,rfl,?_,d0N⟩⟩
  ·unfold SR;exact ⟨[],rfl,d0N⟩
  ·unfold SR;exact ⟨u,cs2,rfl,rfl,h5,q7,q8⟩
 ·intro a b v1 v2 hne h1 h2;have e:∀ {q:Nat} {z:Value},[u][q]?=some z->q=0:=fun {q z} h=>by
   cases q with
   |zero=>rfl
   |succ q=>simp at h
  exact absurd ((e h1).trans (e h2).symm) hne
 ·rintro b ⟨v1,hv1,hb⟩
  simp at hv1;subst hv1;exact ⟨hob b ((hbk b).1 hb),.inl ⟨v1,by simp,hb⟩⟩
