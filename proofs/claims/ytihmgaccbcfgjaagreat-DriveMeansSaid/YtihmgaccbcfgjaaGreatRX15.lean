/- P. Its conditions: none. -/
import Derived.Test.YtihmgaccbcfgjaaGreatRX13
import Derived.Test.YtihmgaccbcfgjaaGreatRG30
set_option linter.all false
namespace Go.X
open Go.V Go.RowKit Go.ChangeShapes Go.WideShapes Go.ChangeAt
section
variable (E:Env)
def wfF {D:Nat->Type}(r:(t:U)->Den D t->Prop):(ts:List U)->HL D ts->Prop
 |[],_=>True
 |t :: ts,h=>r t h.1/\wfF r ts h.2
def wfD:Nat->(t:U)->Den E.D t->Prop
 |0,_,_=>True
 |_+1,.int k,x=>L5 k x
 |n+1,.list t,l=>∀x∈(show List (Den E.D t)from l),wfD n t x
 |n+1,.st i,x=>wfF (wfD n) (E.fs i) (E.un i x)
 |n+1,.arr m t,l=>(show List (Den E.D t)from l).length=m/\∀x∈(show List (Den E.D t)from l),wfD n t x
 |_+1,_,_=>True
def g0i (r:Nat->U->Bool):List Field->List U->Nat->Bool
 |[],[],_=>true
 |f :: fs,t :: ts,o=>Nat.beq f.offset o&&(Nat.beq (E.P.cellsOf f.type) (K2 E t)&&(r f.type t&&g0i r fs ts (o+K2 E t)))
 |_,_,_=>false
def h0u:List U->Nat
 |[]=>0
 |t :: ts=>K2 E t+h0u ts
def a0f:Nat->Nat->U->Bool
 |0,_,_=>false
 |n+1,T,t=>match E.P.underlying T,t with
  |some (.int k),.int b=>decide (k=b)
  |some .bool,.bool=>true
  |some (.slice e),.list t=>Nat.beq (E.P.cellsOf e) (K2 E t)&&(Nat.blt 0 (K2 E t)&&a0f n e t)
  |some (.struct fs),.st i=>Nat.beq (E.P.cellsOf T) (h0u E (E.fs i))&&g0i E (a0f n) fs.toList (E.fs i) 0
  |some (.array m e),.arr a t=>Nat.beq m a&&(Nat.beq (E.P.cellsOf T) (m*K2 E t)&&(Nat.beq (E.P.cellsOf e) (K2 E t)&&a0f n e t))
  |_,_=>false
end
section
variable {E:Env}
def v0J {n:Nat}(c:∀(T:Nat) (t:U),a0f E n T t=true->Rd E.P T (J0 E t) (wfD E n t)){H:Type}{enc:TypeId×Value->H}{W:World}{sp:Nat->Bool}{held:Bool}{cs:List Value}:
  ∀(fs:List Field) (ts:List U) (o:Nat),g0i E (a0f E n) fs ts o=true->cs.length=o+h0u E ts->(∀f∈fs,∃n j b,DataW.trod enc E.P W 0 sp held n f.type ((cs.drop f.offset).take (E.P.cellsOf f.type))=some (j,b)/\∀p∈b,p.block<W.heap.size)->
  ∃h:HL E.D ts,(a0S E ts).R W.heap C3 (cs.drop o) h/\wfF (wfD E n) ts h
 |[],[],o,_,hl,_=>⟨(),by show cs.drop o=[];simp[h0u]at hl;exact List.drop_of_length_le O',trivial⟩
 |f :: fs,t :: ts,o,a,hl,hg=>by
  simp only[g0i,Bool.and_eq_true,Nat.beq_eq]at a;obtain⟨rfl,i,k,e⟩:=a;obtain⟨x,d,l⟩:=Rd.field (c _ _ k) (hg f Z');rw[i]at d;obtain⟨h,q,m⟩:=v0J c fs ts _ e (by simp only[h0u]at hl;omega) (fun f g=>hg f (by simp[g]));refine⟨(x,h),⟨_,_,?_,d,q⟩,l,m⟩;rw[<-List.drop_drop,List.take_append_drop]
 |[],_ :: _,_,a,_,_=>by simp[g0i]at a
 |_ :: _,[],_,a,_,_=>by simp[g0i]at a
def u0r (o:T1 E):∀(n T:Nat) (t:U),a0f E n T t=true->Rd E.P T (J0 E t) (wfD E n t)
 |0,_,_,h=>by simp[a0f]at h
 |n+1,T,t,h=>by
  have g:=u0r o n;unfold a0f at h;split at h
  ·rename_i k k' a;rw[decide_eq_true_eq]at h;subst h;exact Rd.int a
  ·rename_i a;exact Rd.bool a
  ·rename_i e t a;simp only[Bool.and_eq_true,Nat.beq_eq,Nat.blt_eq]at h;exact Rd.slice a h.1 h.2.1 (g _ _ h.2.2)
  ·rename_i fs i a;simp only[Bool.and_eq_true,Nat.beq_eq]at h;refine⟨fun {H enc W sp held fuel cs d ps} z hp=>?_⟩;obtain⟨hl,C⟩:=D0J a z hp;rw[h.1]at hl;obtain⟨x,h1,h2⟩:=v0J (cs:=cs) (sp:=sp) (held:=held) (enc:=enc) g fs.toList (E.fs i) 0 h.2 O' (fun f w=>by
    obtain⟨j,I⟩:=List.getElem?_of_mem w;exact C j f (by rw[<-Array.getElem?_toList];exact I))
   refine⟨E.mkS i x,(o.st i _ _ _ _).2 (by rw[o.unmk];exact h1),?_⟩;show wfF (wfD E n) (E.fs i) (E.un i (E.mkS i x));rw[o.unmk];exact h2
  ·rename_i m e m' t a;simp only[Bool.and_eq_true,Nat.beq_eq]at h;obtain⟨rfl,s,v,z⟩:=h;have g:=g _ _ z;refine⟨fun {H enc W sp held fuel cs d ps} y hp=>?_⟩;obtain⟨xs,q,rfl,r,hl,J,c⟩:=DataW.trod_array a y;cases r;rw[s]at hl;have key:∀i,i<m->∃x,(J0 E t).R W.heap C3 ((cs.drop (i*K2 E t)).take (K2 E t)) x/\wfD E n t x:=fun i hi=>by
    have:=c i hi;rw[List.getElem?_eq_getElem O',v]at this;exact g.get this fun p u=>hp p (List.mem_flatMap.2 ⟨_,List.getElem_mem _,u⟩)
   obtain⟨ys,b,l⟩:=m0M m key;refine⟨ys,⟨b,⟨by rw[hl,b];rfl,fun i x hi=>(l i x hi).1⟩⟩,b,fun x r=>?_⟩;obtain⟨i,hi⟩:=List.getElem?_of_mem r;exact(l i x hi).2
  ·cases h
def c0j:(us:List U)->HL E.D us->J4 E.D (us.map Sh.d)
 |[],_=>()
 |u :: us,x=>e0q false (J5 (us.map Sh.d)) x.1 (c0j us x.2)
def e03 (W:World):(us:List U)->List Value->HL E.D us->Prop
 |[],vs,_=>vs=[]
 |u :: us,vs,x=>∃c v a,vs=v :: a/\v=M3 (L8 u) c/\(J0 E u).R W.heap C3 c x.1/\e03 W us a x.2
def z0p {H:I0}{S:D0}{x:J4 E.D []}:E2 E H S [] x [] []:=by simp[E2]
def v00 {W:World}:∀(us:List U) (vs:List Value) (x:HL E.D us),e03 W us vs x->E2 E W.heap C3 (us.map Sh.d) (c0j us x) vs []
 |[],vs,x,h=>by unfold e03 at h;subst h;exact z0p
 |u :: us,vs,x,h=>by
  unfold e03 at h;obtain⟨c,v,a,rfl,h1,f,i⟩:=h;have g:=v00 us a x.2 i;have j:∀(p:Bool) (d:Den E.D u) (b:J4 E.D (us.map Sh.d)),c0G (B:=J4 E.D (us.map Sh.d)) false p d (e0q false p x.1 b)=x.1:=fun p d b=>by cases p<;>rfl
  have e:e0t (A:=Den E.D u) false (J5 (us.map Sh.d)) (c0M E (us.map Sh.d)) (e0q false (J5 (us.map Sh.d)) x.1 (c0j us x.2))=c0j us x.2:=by
   cases us with
   |nil=>rfl
   |cons t ts=>rfl
  show E2 E W.heap C3 (Sh.d u :: us.map Sh.d) (c0j (u :: us) x) (v :: a) [];unfold E2;refine⟨c,v,a,[],[],rfl,rfl,h1,?_,?_⟩
  ·unfold SR;exact⟨rfl,by rw[show c0G (Z5 (Sh.d u)) (J5 (us.map Sh.d)) (b0W E (Sh.d u)) (c0j (u :: us) x)=x.1 from j _ _ _];exact f⟩
  ·rw[show e0t (Z5 (Sh.d u)) (J5 (us.map Sh.d)) (c0M E (us.map Sh.d)) (c0j (u :: us) x)=c0j us x.2 from e];exact g
def F0b {f:Nat}{us:List U}{m:J4 E.D (us.map Sh.d)->Option Bool}(l:U0 E ⟨f,us.map Sh.d,.d .bool,[],m⟩){W:World}{vs:List Value}{x:HL E.D us}(r:e03 W us vs x)(h:m (c0j us x)=some true):
  Calls E.P f vs.toArray W fun e w1=>e=.returned (.bool true)/\Below W.heap.size W w1:=by
 refine(l W C3 vs [] (c0j us x) true h (v00 us vs x r) (fun b g=>g.elim) (fun b g=>by obtain⟨v,a,_⟩:=g;cases a) (fun i j v w _ a=>by simp at a)).mono ?_
 rintro e w1 ⟨v,S1,pl1,rfl,h1,h2,_⟩
 have h1:E2 E w1.heap S1 [.d .bool] true [v] pl1:=h1;unfold E2 at h1;obtain⟨c,u,p,p1,t,n,_,q,o,_⟩:=h1;unfold SR at o;have s:c=[.bool true]:=o.2;subst s;simp only[List.cons.injEq]at n;refine⟨by rw[n.1,q];rfl,h2.os,h2.tape,h2.output,h2.size,fun k hk=>h2.block k hk (fun g=>by obtain⟨v,a,_⟩:=g;cases a)⟩
def g0l:(Nat->U->Bool)->List Nat->List U->Bool
 |_,[],[]=>true
 |r,t :: ts,u :: us=>r t u&&g0l r ts us
 |_,_,_=>false
def u0y:U->Bool
 |.int _|.bool|.list _|.st _|.arr _ _=>true
 |_=>false
def w0V (E:Env)(N t:Nat):(u:U)->Den E.D u->Prop
 |.list u,x=>(match E.P.underlying t with|some (.slice e)=>(show List (Den E.D u)from x).length*E.P.bytesOf e<=N|_=>True)
 |_,_=>True
def n0I (E:Env)(N:Nat):List Nat->(us:List U)->HL E.D us->Prop
 |t :: ts,u :: us,x=>w0V E N t u x.1/\n0I E N ts us x.2
 |_,_,_=>True
def u0t (hE:T1 E){n:Nat}{H:Type}{enc:TypeId×Value->H}{W:World}{held:Bool}{base N:Nat}:∀(ts:List Nat) (us:List U) (vs:List Value) (I:List (DataW H)) (ps:List MemPlace),
  g0l (fun t u=>u0y u&&a0f E n t u) ts us=true->(∀(j:Nat) t v,ts[j]?=some t->vs[j]?=some v->Value.okWide E.P W .any base t v)->DataW.TrodAll enc E.P W 0 (fun _=>true) held ts vs I ps->(∀p∈ps,p.block<W.heap.size)->
  (∀(j:Nat) t d,ts[j]?=some t->I[j]?=some d->∀e q c A fuel a1,E.P.underlying t=some (.slice e)->DataW.trod enc E.P W 0 (fun _=>true) held fuel t (Value.slice A q c).cells.toList=some (d,a1)->q*E.P.bytesOf e<=N)->
  ∃x:HL E.D us,e03 W us vs x/\wfF (wfD E n) us x/\n0I E N ts us x
 |[],[],vs,I,ps,_,_,hA,_,_=>by
  obtain⟨rfl,rfl,rfl⟩:=trodAll_nil hA;exact⟨(),rfl,trivial,trivial⟩
 |t :: ts,u :: us,vs,I,ps,o,hval,hA,hp,hsz=>by
  simp only[g0l,Bool.and_eq_true]at o;obtain⟨⟨s,b⟩,b2⟩:=o;obtain⟨v,r,d,b1,p,q,rfl,rfl,rfl,h1,h2⟩:=trodAll_cons hA;obtain⟨xs,h3,h4,w⟩:=u0t hE ts us r b1 q b2 (fun j t v J g=>hval (j+1) t v (by simpa using J) (by simpa using g)) h2 (fun x C=>hp x (List.mem_append_right _ C)) (fun j t d J hd=>hsz (j+1) t d (by simpa using J) (by simpa using hd));obtain⟨fuel,hf⟩:=h1;obtain⟨x,C,hw⟩:=(u0r hE n t u b).get hf (fun y hy=>hp y (List.mem_append_left _ hy));have g:=hval 0 t v rfl rfl;have h0:=hsz 0 t d rfl rfl;refine⟨(x,xs),⟨v.cells.toList,v,r,rfl,?_,C,h3⟩,⟨hw,h4⟩,?_⟩
  ·cases n with
   |zero=>simp[a0f]at b
   |succ n=>
    unfold a0f at b;split at b<;>try (first|cases b|cases s)
    ·rename_i k k' f;obtain⟨z,rfl⟩:=okWide_int f g;rfl
    ·rename_i f;obtain⟨z,rfl⟩:=okWide_bool f g;rfl
    ·rename_i e R f;obtain⟨a,l,c,rfl⟩:=okWide_slice f g;rfl
    ·rename_i fs i f;obtain⟨c,rfl,_⟩:=okWide_struct f g;simp[Value.cells,M3,L8]
    ·rename_i m e m' R f;have:∃c,v=.agg c:=by
      simp only[Value.okWide,f]at g;obtain⟨c,h,_⟩:=g;exact⟨c,h⟩
     obtain⟨c,rfl⟩:=this;simp[Value.cells,M3,L8]
  ·cases n with
   |zero=>simp[a0f]at b
   |succ n=>
    unfold a0f at b;split at b
    ·exact⟨trivial,w⟩
    ·exact⟨trivial,w⟩
    ·rename_i e R f;refine⟨?_,w⟩;unfold w0V;obtain⟨a,l,c,rfl⟩:=okWide_slice f g;rw[f];obtain⟨A',c',e1,_⟩:=C;simp[Value.cells]at e1;obtain⟨_,e2,_⟩:=e1;show List.length (show List (Den E.D R)from x)*_<=N;rw[<-e2];exact h0 e l c a fuel p f hf
    ·exact⟨trivial,w⟩
    ·exact⟨trivial,w⟩
    ·cases b
 |[],_ :: _,_,_,_,o,_,_,_,_=>by simp[g0l]at o
 |_ :: _,[],_,_,_,o,_,_,_,_=>by simp[g0l]at o
end
