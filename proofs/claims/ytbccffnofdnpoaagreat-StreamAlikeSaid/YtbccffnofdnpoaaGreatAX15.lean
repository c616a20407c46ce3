/- P. Its conditions: none. -/
import Derived.Test.YtbccffnofdnpoaaGreatAX13
import Derived.Test.YtbccffnofdnpoaaGreatAG33
set_option linter.all false
namespace Go.X
open Go.V Go.RowKit Go.ChangeShapes Go.WideShapes Go.ChangeAt
section
variable (E:Env)
def wfF {D:Nat->Type}(r:(t:U)->Den D t->Prop):(ts:List U)->HL D ts->Prop
 |[],_=>True
 |t :: ts,h=>r t h.1/\wfF r ts h.2
def wfD:Nat->(t:U)->Den E.D t->Prop
 |0,_,_=>True
 |_+1,.int k,x=>J4 k x
 |n+1,.list t,l=>∀x∈(show List (Den E.D t)from l),wfD n t x
 |n+1,.st i,x=>wfF (wfD n) (E.fs i) (E.un i x)
 |n+1,.arr m t,l=>(show List (Den E.D t)from l).length=m/\∀x∈(show List (Den E.D t)from l),wfD n t x
 |_+1,_,_=>True
def f0W (r:Nat->U->Bool):List Field->List U->Nat->Bool
 |[],[],_=>true
 |f :: fs,t :: ts,o=>Nat.beq f.offset o&&(Nat.beq (E.P.cellsOf f.type) (K3 E t)&&(r f.type t&&f0W r fs ts (o+K3 E t)))
 |_,_,_=>false
def i0b:List U->Nat
 |[]=>0
 |t :: ts=>K3 E t+i0b ts
def a0C:Nat->Nat->U->Bool
 |0,_,_=>false
 |n+1,T,t=>match E.P.underlying T,t with
  |some (.int k),.int a=>decide (k=a)
  |some .bool,.bool=>true
  |some (.slice e),.list t=>Nat.beq (E.P.cellsOf e) (K3 E t)&&(Nat.blt 0 (K3 E t)&&a0C n e t)
  |some (.struct fs),.st i=>Nat.beq (E.P.cellsOf T) (i0b E (E.fs i))&&f0W E (a0C n) fs.toList (E.fs i) 0
  |some (.array m e),.arr b t=>Nat.beq m b&&(Nat.beq (E.P.cellsOf T) (m*K3 E t)&&(Nat.beq (E.P.cellsOf e) (K3 E t)&&a0C n e t))
  |_,_=>false
end
section
variable {E:Env}
def w0Z {n:Nat}(d:∀(T:Nat) (t:U),a0C E n T t=true->Rd E.P T (L0 E t) (wfD E n t)){H:Type}{enc:TypeId×Value->H}{W:World}{sp:Nat->Bool}{held:Bool}{cs:List Value}:
  ∀(fs:List Field) (ts:List U) (o:Nat),f0W E (a0C E n) fs ts o=true->cs.length=o+i0b E ts->(∀f∈fs,∃n q b,DataW.trod enc E.P W 0 sp held n f.type ((cs.drop f.offset).take (E.P.cellsOf f.type))=some (q,b)/\∀p∈b,p.block<W.heap.size)->
  ∃h:HL E.D ts,(a0O E ts).R W.heap C6 (cs.drop o) h/\wfF (wfD E n) ts h
 |[],[],o,_,hl,_=>⟨(),by show cs.drop o=[];simp[i0b]at hl;exact List.drop_of_length_le O',trivial⟩
 |f :: fs,t :: ts,o,a,hl,hg=>by
  simp only[f0W,Bool.and_eq_true,Nat.beq_eq]at a;obtain⟨rfl,l,g,j⟩:=a;obtain⟨x,c,m⟩:=Rd.field (d _ _ g) (hg f V');rw[l]at c;obtain⟨h,i,k⟩:=w0Z d fs ts _ j (by simp only[i0b]at hl;omega) (fun f e=>hg f (by simp[e]));refine⟨(x,h),⟨_,_,?_,c,i⟩,m,k⟩;rw[<-List.drop_drop,List.take_append_drop]
 |[],_ :: _,_,a,_,_=>by simp[f0W]at a
 |_ :: _,[],_,a,_,_=>by simp[f0W]at a
def u0p (o:G2 E):∀(n T:Nat) (t:U),a0C E n T t=true->Rd E.P T (L0 E t) (wfD E n t)
 |0,_,_,h=>by simp[a0C]at h
 |n+1,T,t,h=>by
  have l:=u0p o n;unfold a0C at h;split at h
  ·rename_i k k' a;rw[decide_eq_true_eq]at h;subst h;exact Rd.int a
  ·rename_i a;exact Rd.bool a
  ·rename_i e t a;simp only[Bool.and_eq_true,Nat.beq_eq,Nat.blt_eq]at h;exact Rd.slice a h.1 h.2.1 (l _ _ h.2.2)
  ·rename_i fs i a;simp only[Bool.and_eq_true,Nat.beq_eq]at h;refine⟨fun {H enc W sp held fuel cs d ps} s hp=>?_⟩;obtain⟨hl,C⟩:=J0m a s hp;rw[h.1]at hl;obtain⟨x,h1,h2⟩:=w0Z (cs:=cs) (sp:=sp) (held:=held) (enc:=enc) l fs.toList (E.fs i) 0 h.2 O' (fun f z=>by
    obtain⟨j,I⟩:=List.getElem?_of_mem z;exact C j f (by rw[<-Array.getElem?_toList];exact I))
   refine⟨E.mkS i x,(o.st i _ _ _ _).2 (by rw[o.unmk];exact h1),?_⟩;show wfF (wfD E n) (E.fs i) (E.un i (E.mkS i x));rw[o.unmk];exact h2
  ·rename_i m e m' t a;simp only[Bool.and_eq_true,Nat.beq_eq]at h;obtain⟨rfl,v,u,s⟩:=h;have l:=l _ _ s;refine⟨fun {H enc W sp held fuel cs d ps} w hp=>?_⟩;obtain⟨xs,q,rfl,y,hl,J,c⟩:=DataW.trod_array a w;cases y;rw[v]at hl;have key:∀i,i<m->∃x,(L0 E t).R W.heap C6 ((cs.drop (i*K3 E t)).take (K3 E t)) x/\wfD E n t x:=fun i hi=>by
    have:=c i hi;rw[List.getElem?_eq_getElem O',u]at this;exact l.get this fun p r=>hp p (List.mem_flatMap.2 ⟨_,List.getElem_mem _,r⟩)
   obtain⟨ys,b,g⟩:=t0t m key;refine⟨ys,⟨b,⟨by rw[hl,b];rfl,fun i x hi=>(g i x hi).1⟩⟩,b,fun x y=>?_⟩;obtain⟨i,hi⟩:=List.getElem?_of_mem y;exact(g i x hi).2
  ·cases h
def c0a:(us:List U)->HL E.D us->F5 E.D (us.map Sh.d)
 |[],_=>()
 |u :: us,x=>e0N false (A6 (us.map Sh.d)) x.1 (c0a us x.2)
def f0k (W:World):(us:List U)->List Value->HL E.D us->Prop
 |[],vs,_=>vs=[]
 |u :: us,vs,x=>∃c v a,vs=v :: a/\v=O4 (c9 u) c/\(L0 E u).R W.heap C6 c x.1/\f0k W us a x.2
def E07 {H:M0}{S:E0}{x:F5 E.D []}:G3 E H S [] x [] []:=by simp[G3]
def w0P {W:World}:∀(us:List U) (vs:List Value) (x:HL E.D us),f0k W us vs x->G3 E W.heap C6 (us.map Sh.d) (c0a us x) vs []
 |[],vs,x,h=>by unfold f0k at h;subst h;exact E07
 |u :: us,vs,x,h=>by
  unfold f0k at h;obtain⟨c,v,a,rfl,h1,i,e⟩:=h;have j:=w0P us a x.2 e;have g:∀(p:Bool) (d:Den E.D u) (b:F5 E.D (us.map Sh.d)),d0y (B:=F5 E.D (us.map Sh.d)) false p d (e0N false p x.1 b)=x.1:=fun p d b=>by cases p<;>rfl
  have f:e03 (A:=Den E.D u) false (A6 (us.map Sh.d)) (d0m E (us.map Sh.d)) (e0N false (A6 (us.map Sh.d)) x.1 (c0a us x.2))=c0a us x.2:=by
   cases us with
   |nil=>rfl
   |cons t ts=>rfl
  show G3 E W.heap C6 (Sh.d u :: us.map Sh.d) (c0a (u :: us) x) (v :: a) [];unfold G3;refine⟨c,v,a,[],[],rfl,rfl,h1,?_,?_⟩
  ·unfold SR;exact⟨rfl,by rw[show d0y (Z6 (Sh.d u)) (A6 (us.map Sh.d)) (b05 E (Sh.d u)) (c0a (u :: us) x)=x.1 from g _ _ _];exact i⟩
  ·rw[show e03 (Z6 (Sh.d u)) (A6 (us.map Sh.d)) (d0m E (us.map Sh.d)) (c0a (u :: us) x)=c0a us x.2 from f];exact j
def A0A {f:Nat}{us:List U}{m:F5 E.D (us.map Sh.d)->Option Bool}(l:N0 E ⟨f,us.map Sh.d,.d .bool,[],m⟩){W:World}{vs:List Value}{x:HL E.D us}(q:f0k W us vs x)(h:m (c0a us x)=some true):
  Calls E.P f vs.toArray W fun e w1=>e=.returned (.bool true)/\Below W.heap.size W w1:=by
 refine(l W C6 vs [] (c0a us x) true h (w0P us vs x q) (fun b a=>a.elim) (fun b a=>by obtain⟨v,g,_⟩:=a;cases g) (fun i j v t _ g=>by simp at g)).mono ?_
 rintro e w1 ⟨v,S1,pl1,rfl,h1,h2,_⟩
 have h1:G3 E w1.heap S1 [.d .bool] true [v] pl1:=h1;unfold G3 at h1;obtain⟨c,u,p,p1,w,n,_,r,o,_⟩:=h1;unfold SR at o;have s:c=[.bool true]:=o.2;subst s;simp only[List.cons.injEq]at n;refine⟨by rw[n.1,r];rfl,h2.os,h2.tape,h2.output,h2.size,fun k hk=>h2.block k hk (fun a=>by obtain⟨v,g,_⟩:=a;cases g)⟩
def g0T:(Nat->U->Bool)->List Nat->List U->Bool
 |_,[],[]=>true
 |r,t :: ts,u :: us=>r t u&&g0T r ts us
 |_,_,_=>false
def v0N:U->Bool
 |.int _|.bool|.list _|.st _|.arr _ _=>true
 |_=>false
def A0o (E:Env)(N t:Nat):(u:U)->Den E.D u->Prop
 |.list u,x=>(match E.P.underlying t with|some (.slice e)=>(show List (Den E.D u)from x).length*E.P.bytesOf e<=N|_=>True)
 |_,_=>True
def s0Y (E:Env)(N:Nat):List Nat->(us:List U)->HL E.D us->Prop
 |t :: ts,u :: us,x=>A0o E N t u x.1/\s0Y E N ts us x.2
 |_,_,_=>True
def y0D (hE:G2 E){n:Nat}{H:Type}{enc:TypeId×Value->H}{W:World}{held:Bool}{base N:Nat}:∀(ts:List Nat) (us:List U) (vs:List Value) (C:List (DataW H)) (ps:List MemPlace),
  g0T (fun t u=>v0N u&&a0C E n t u) ts us=true->(∀(j:Nat) t v,ts[j]?=some t->vs[j]?=some v->Value.okWide E.P W .any base t v)->DataW.TrodAll enc E.P W 0 (fun _=>true) held ts vs C ps->(∀p∈ps,p.block<W.heap.size)->
  (∀(j:Nat) t d,ts[j]?=some t->C[j]?=some d->∀e q c A fuel b1,E.P.underlying t=some (.slice e)->DataW.trod enc E.P W 0 (fun _=>true) held fuel t (Value.slice A q c).cells.toList=some (d,b1)->q*E.P.bytesOf e<=N)->
  ∃x:HL E.D us,f0k W us vs x/\wfF (wfD E n) us x/\s0Y E N ts us x
 |[],[],vs,C,ps,_,_,hA,_,_=>by
  obtain⟨rfl,rfl,rfl⟩:=trodAll_nil hA;exact⟨(),rfl,trivial,trivial⟩
 |t :: ts,u :: us,vs,C,ps,o,hval,hA,hp,hsz=>by
  simp only[g0T,Bool.and_eq_true]at o;obtain⟨⟨s,b⟩,a1⟩:=o;obtain⟨v,w,d,R,p,q,rfl,rfl,rfl,h1,h2⟩:=trodAll_cons hA;obtain⟨xs,h3,h4,r⟩:=y0D hE ts us w R q a1 (fun j t v ht g=>hval (j+1) t v (by simpa using ht) (by simpa using g)) h2 (fun x I=>hp x (List.mem_append_right _ I)) (fun j t d ht hd=>hsz (j+1) t d (by simpa using ht) (by simpa using hd));obtain⟨fuel,hf⟩:=h1;obtain⟨x,I,hw⟩:=(u0p hE n t u b).get hf (fun y hy=>hp y (List.mem_append_left _ hy));have g:=hval 0 t v rfl rfl;have h0:=hsz 0 t d rfl rfl;refine⟨(x,xs),⟨v.cells.toList,v,w,rfl,?_,I,h3⟩,⟨hw,h4⟩,?_⟩
  ·cases n with
   |zero=>simp[a0C]at b
   |succ n=>
    unfold a0C at b;split at b<;>try (first|cases b|cases s)
    ·rename_i k k' f;obtain⟨z,rfl⟩:=okWide_int f g;rfl
    ·rename_i f;obtain⟨z,rfl⟩:=okWide_bool f g;rfl
    ·rename_i e J f;obtain⟨a,l,c,rfl⟩:=okWide_slice f g;rfl
    ·rename_i fs i f;obtain⟨c,rfl,_⟩:=okWide_struct f g;simp[Value.cells,O4,c9]
    ·rename_i m e m' J f;have:∃c,v=.agg c:=by
      simp only[Value.okWide,f]at g;obtain⟨c,h,_⟩:=g;exact⟨c,h⟩
     obtain⟨c,rfl⟩:=this;simp[Value.cells,O4,c9]
  ·cases n with
   |zero=>simp[a0C]at b
   |succ n=>
    unfold a0C at b;split at b
    ·exact⟨trivial,r⟩
    ·exact⟨trivial,r⟩
    ·rename_i e J f;refine⟨?_,r⟩;unfold A0o;obtain⟨a,l,c,rfl⟩:=okWide_slice f g;rw[f];obtain⟨A',c',e1,_⟩:=I;simp[Value.cells]at e1;obtain⟨_,e2,_⟩:=e1;show List.length (show List (Den E.D J)from x)*_<=N;rw[<-e2];exact h0 e l c a fuel p f hf
    ·exact⟨trivial,r⟩
    ·exact⟨trivial,r⟩
    ·cases b
 |[],_ :: _,_,_,_,o,_,_,_,_=>by simp[g0T]at o
 |_ :: _,[],_,_,_,o,_,_,_,_=>by simp[g0T]at o
end
