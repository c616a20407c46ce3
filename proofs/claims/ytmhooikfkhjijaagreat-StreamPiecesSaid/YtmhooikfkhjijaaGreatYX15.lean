/- P. Its conditions: none. -/
import Derived.Test.YtmhooikfkhjijaaGreatYX13
import Derived.Test.YtmhooikfkhjijaaGreatYG26
set_option linter.all false
namespace Go.X
open Go.V Go.RowKit Go.ChangeShapes Go.WideShapes Go.ChangeAt
section
variable (E:Env)
def wfF {D:Nat->Type}(r:(t:U)->Den D t->Prop):(ts:List U)->HL D ts->Prop
 |[],_=>True
 |t :: ts,h=>r t h.1/\wfF r ts h.2
def wfD:Nat->(t:U)->Den E.D t->Prop
 |0,_,_=>True
 |_+1,.int k,x=>Z5 k x
 |n+1,.list t,l=>∀x∈(show List (Den E.D t)from l),wfD n t x
 |n+1,.st i,x=>wfF (wfD n) (E.fs i) (E.un i x)
 |n+1,.arr m t,l=>(show List (Den E.D t)from l).length=m/\∀x∈(show List (Den E.D t)from l),wfD n t x
 |_+1,_,_=>True
def f0a (r:Nat->U->Bool):List Field->List U->Nat->Bool
 |[],[],_=>true
 |f :: fs,t :: ts,o=>Nat.beq f.offset o&&(Nat.beq (E.P.cellsOf f.type) (X2 E t)&&(r f.type t&&f0a r fs ts (o+X2 E t)))
 |_,_,_=>false
def h0g:List U->Nat
 |[]=>0
 |t :: ts=>X2 E t+h0g ts
def T9:Nat->Nat->U->Bool
 |0,_,_=>false
 |n+1,T,t=>match E.P.underlying T,t with
  |some (.int k),.int b=>decide (k=b)
  |some .bool,.bool=>true
  |some (.slice e),.list t=>Nat.beq (E.P.cellsOf e) (X2 E t)&&(Nat.blt 0 (X2 E t)&&T9 n e t)
  |some (.struct fs),.st i=>Nat.beq (E.P.cellsOf T) (h0g E (E.fs i))&&f0a E (T9 n) fs.toList (E.fs i) 0
  |some (.array m e),.arr a t=>Nat.beq m a&&(Nat.beq (E.P.cellsOf T) (m*X2 E t)&&(Nat.beq (E.P.cellsOf e) (X2 E t)&&T9 n e t))
  |_,_=>false
end
section
variable {E:Env}
def t0r {n:Nat}(d:∀(T:Nat) (t:U),T9 E n T t=true->Rd E.P T (J0 E t) (wfD E n t)){H:Type}{enc:TypeId×Value->H}{W:World}{sp:Nat->Bool}{held:Bool}{cs:List Value}:
  ∀(fs:List Field) (ts:List U) (o:Nat),f0a E (T9 E n) fs ts o=true->cs.length=o+h0g E ts->(∀f∈fs,∃n l b,DataW.trod enc E.P W 0 sp held n f.type ((cs.drop f.offset).take (E.P.cellsOf f.type))=some (l,b)/\∀p∈b,p.block<W.heap.size)->
  ∃h:HL E.D ts,(a0r E ts).R W.heap Q5 (cs.drop o) h/\wfF (wfD E n) ts h
 |[],[],o,_,hl,_=>⟨(),by show cs.drop o=[];simp[h0g]at hl;exact List.drop_of_length_le (by omega),trivial⟩
 |f :: fs,t :: ts,o,a,hl,hg=>by
  simp only[f0a,Bool.and_eq_true,Nat.beq_eq]at a;obtain⟨rfl,m,j,g⟩:=a;obtain⟨x,c,k⟩:=Rd.field (d _ _ j) (hg f (by simp));rw[m]at c;obtain⟨h,e,q⟩:=t0r d fs ts _ g (by simp only[h0g]at hl;omega) (fun f i=>hg f (by simp[i]));refine⟨(x,h),⟨_,_,?_,c,e⟩,k,q⟩;rw[<-List.drop_drop,List.take_append_drop]
 |[],_ :: _,_,a,_,_=>by simp[f0a]at a
 |_ :: _,[],_,a,_,_=>by simp[f0a]at a
def p0P (o:Q1 E):∀(n T:Nat) (t:U),T9 E n T t=true->Rd E.P T (J0 E t) (wfD E n t)
 |0,_,_,h=>by simp[T9]at h
 |n+1,T,t,h=>by
  have g:=p0P o n;unfold T9 at h;split at h
  ·rename_i k k' a;rw[decide_eq_true_eq]at h;subst h;exact Rd.int a
  ·rename_i a;exact Rd.bool a
  ·rename_i e t a;simp only[Bool.and_eq_true,Nat.beq_eq,Nat.blt_eq]at h;exact Rd.slice a h.1 h.2.1 (g _ _ h.2.2)
  ·rename_i fs i a;simp only[Bool.and_eq_true,Nat.beq_eq]at h;refine⟨fun {H enc W sp held fuel cs d ps} w hp=>?_⟩;obtain⟨hl,J⟩:=v0g a w hp;rw[h.1]at hl;obtain⟨x,h1,C⟩:=t0r (cs:=cs) (sp:=sp) (held:=held) (enc:=enc) g fs.toList (E.fs i) 0 h.2 (by omega) (fun f r=>by
    obtain⟨j,hj⟩:=List.getElem?_of_mem r;exact J j f (by rw[<-Array.getElem?_toList];exact hj))
   refine⟨E.mkS i x,(o.st i _ _ _ _).2 (by rw[o.unmk];exact h1),?_⟩;show wfF (wfD E n) (E.fs i) (E.un i (E.mkS i x));rw[o.unmk];exact C
  ·rename_i m e m' t a;simp only[Bool.and_eq_true,Nat.beq_eq]at h;obtain⟨rfl,y,s,w⟩:=h;have g:=g _ _ w;refine⟨fun {H enc W sp held fuel cs d ps} z hp=>?_⟩;obtain⟨xs,q,rfl,u,hl,I,c⟩:=DataW.trod_array a z;cases u;rw[y]at hl;have key:∀i,i<m->∃x,(J0 E t).R W.heap Q5 ((cs.drop (i*X2 E t)).take (X2 E t)) x/\wfD E n t x:=fun i hi=>by
    have:=c i hi;rw[List.getElem?_eq_getElem (by omega),s]at this;exact g.get this fun p v=>hp p (List.mem_flatMap.2 ⟨_,List.getElem_mem _,v⟩)
   obtain⟨ys,b,l⟩:=o0b m key;refine⟨ys,⟨b,⟨by rw[hl,b];rfl,fun i x hi=>(l i x hi).1⟩⟩,b,fun x u=>?_⟩;obtain⟨i,hi⟩:=List.getElem?_of_mem u;exact(l i x hi).2
  ·cases h
def b0H:(us:List U)->HL E.D us->S4 E.D (us.map Sh.d)
 |[],_=>()
 |u :: us,x=>e0E false (U5 (us.map Sh.d)) x.1 (b0H us x.2)
def e0T (W:World):(us:List U)->List Value->HL E.D us->Prop
 |[],vs,_=>vs=[]
 |u :: us,vs,x=>∃c v a,vs=v :: a/\v=H4 (Y8 u) c/\(J0 E u).R W.heap Q5 c x.1/\e0T W us a x.2
def F0B {H:K0}{S:D0}{x:S4 E.D []}:I3 E H S [] x [] []:=by simp[I3]
def p06 {W:World}:∀(us:List U) (vs:List Value) (x:HL E.D us),e0T W us vs x->I3 E W.heap Q5 (us.map Sh.d) (b0H us x) vs []
 |[],vs,x,h=>by unfold e0T at h;subst h;exact F0B
 |u :: us,vs,x,h=>by
  unfold e0T at h;obtain⟨c,v,a,rfl,h1,j,f⟩:=h;have e:=p06 us a x.2 f;have i:∀(p:Bool) (d:Den E.D u) (b:S4 E.D (us.map Sh.d)),c0R (B:=S4 E.D (us.map Sh.d)) false p d (e0E false p x.1 b)=x.1:=fun p d b=>by cases p<;>rfl
  have g:d0E (A:=Den E.D u) false (U5 (us.map Sh.d)) (c0s E (us.map Sh.d)) (e0E false (U5 (us.map Sh.d)) x.1 (b0H us x.2))=b0H us x.2:=by
   cases us with
   |nil=>rfl
   |cons t ts=>rfl
  show I3 E W.heap Q5 (Sh.d u :: us.map Sh.d) (b0H (u :: us) x) (v :: a) [];unfold I3;refine⟨c,v,a,[],[],rfl,rfl,h1,?_,?_⟩
  ·unfold SR;exact⟨rfl,by rw[show c0R (J6 (Sh.d u)) (U5 (us.map Sh.d)) (b0f E (Sh.d u)) (b0H (u :: us) x)=x.1 from i _ _ _];exact j⟩
  ·rw[show d0E (J6 (Sh.d u)) (U5 (us.map Sh.d)) (c0s E (us.map Sh.d)) (b0H (u :: us) x)=b0H us x.2 from g];exact e
def z08 {f:Nat}{us:List U}{m:S4 E.D (us.map Sh.d)->Option Bool}(l:C1 E ⟨f,us.map Sh.d,.d .bool,[],m⟩){W:World}{vs:List Value}{x:HL E.D us}(r:e0T W us vs x)(h:m (b0H us x)=some true):
  Calls E.P f vs.toArray W fun e w1=>e=.returned (.bool true)/\Below W.heap.size W w1:=by
 refine(l W Q5 vs [] (b0H us x) true h (p06 us vs x r) (fun b g=>g.elim) (fun b g=>by obtain⟨v,a,_⟩:=g;cases a) (fun i j v w _ a=>by simp at a)).mono ?_
 rintro e w1 ⟨v,S1,pl1,rfl,h1,h2,_⟩
 have h1:I3 E w1.heap S1 [.d .bool] true [v] pl1:=h1;unfold I3 at h1;obtain⟨c,u,p,p1,t,o,_,s,n,_⟩:=h1;unfold SR at n;have q:c=[.bool true]:=n.2;subst q;simp only[List.cons.injEq]at o;refine⟨by rw[o.1,s];rfl,h2.os,h2.tape,h2.output,h2.size,fun k hk=>h2.block k hk (fun g=>by obtain⟨v,a,_⟩:=g;cases a)⟩
def f0r:(Nat->U->Bool)->List Nat->List U->Bool
 |_,[],[]=>true
 |r,t :: ts,u :: us=>r t u&&f0r r ts us
 |_,_,_=>false
def p03:U->Bool
 |.int _|.bool|.list _|.st _=>true
 |_=>false
def r0s (E:Env)(N t:Nat):(u:U)->Den E.D u->Prop
 |.list u,x=>(match E.P.underlying t with|some (.slice e)=>(show List (Den E.D u)from x).length*E.P.bytesOf e<=N|_=>True)
 |_,_=>True
def l0r (E:Env)(N:Nat):List Nat->(us:List U)->HL E.D us->Prop
 |t :: ts,u :: us,x=>r0s E N t u x.1/\l0r E N ts us x.2
 |_,_,_=>True
def q0Q (hE:Q1 E){n:Nat}{H:Type}{enc:TypeId×Value->H}{W:World}{held:Bool}{base N:Nat}:∀(ts:List Nat) (us:List U) (vs:List Value) (w:List (DataW H)) (ps:List MemPlace),
  f0r (fun t u=>p03 u&&T9 E n t u) ts us=true->(∀(j:Nat) t v,ts[j]?=some t->vs[j]?=some v->Value.okWide E.P W .any base t v)->DataW.TrodAll enc E.P W 0 (fun _=>true) held ts vs w ps->(∀p∈ps,p.block<W.heap.size)->
  (∀(j:Nat) t d,ts[j]?=some t->w[j]?=some d->∀e q c A fuel J,E.P.underlying t=some (.slice e)->DataW.trod enc E.P W 0 (fun _=>true) held fuel t (Value.slice A q c).cells.toList=some (d,J)->q*E.P.bytesOf e<=N)->
  ∃x:HL E.D us,e0T W us vs x/\wfF (wfD E n) us x/\l0r E N ts us x
 |[],[],vs,w,ps,_,_,hA,_,_=>by
  obtain⟨rfl,rfl,rfl⟩:=trodAll_nil hA;exact⟨(),rfl,trivial,trivial⟩
 |t :: ts,u :: us,vs,w,ps,m,hval,hA,hp,hsz=>by
  simp only[f0r,Bool.and_eq_true]at m;obtain⟨⟨g,b⟩,C⟩:=m;obtain⟨v,o,d,I,p,q,rfl,rfl,rfl,h1,h2⟩:=trodAll_cons hA;obtain⟨xs,h3,h4,r⟩:=q0Q hE ts us o I q C (fun j t v R h=>hval (j+1) t v (by simpa using R) (by simpa using h)) h2 (fun x s=>hp x (List.mem_append_right _ s)) (fun j t d R hd=>hsz (j+1) t d (by simpa using R) (by simpa using hd));obtain⟨fuel,hf⟩:=h1;obtain⟨x,s,hw⟩:=(p0P hE n t u b).get hf (fun y hy=>hp y (List.mem_append_left _ hy));have h:=hval 0 t v rfl rfl;have h0:=hsz 0 t d rfl rfl;refine⟨(x,xs),⟨v.cells.toList,v,o,rfl,?_,s,h3⟩,⟨hw,h4⟩,?_⟩
  ·cases n with
   |zero=>simp[T9]at b
   |succ n=>
    unfold T9 at b;split at b<;>try (first|cases b|cases g)
    ·rename_i k k' f;obtain⟨z,rfl⟩:=okWide_int f h;rfl
    ·rename_i f;obtain⟨z,rfl⟩:=okWide_bool f h;rfl
    ·rename_i e t' f;obtain⟨a,l,c,rfl⟩:=okWide_slice f h;rfl
    ·rename_i fs i f;obtain⟨c,rfl,_⟩:=okWide_struct f h;simp[Value.cells,H4,Y8]
  ·cases n with
   |zero=>simp[T9]at b
   |succ n=>
    unfold T9 at b;split at b
    ·exact⟨trivial,r⟩
    ·exact⟨trivial,r⟩
    ·rename_i e t' f;refine⟨?_,r⟩;unfold r0s;obtain⟨a,l,c,rfl⟩:=okWide_slice f h;rw[f];obtain⟨A',c',e1,_⟩:=s;simp[Value.cells]at e1;obtain⟨_,e2,_⟩:=e1;show List.length (show List (Den E.D t')from x)*_<=N;rw[<-e2];exact h0 e l c a fuel p f hf
    ·exact⟨trivial,r⟩
    ·cases g
    ·cases b
 |[],_ :: _,_,_,_,m,_,_,_,_=>by simp[f0r]at m
 |_ :: _,[],_,_,_,m,_,_,_,_=>by simp[f0r]at m
end
