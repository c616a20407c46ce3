/- P. Its conditions: none. -/
import Derived.Test.YtmhooikfkhjijaaGreatYX13
import Derived.Test.YtmhooikfkhjijaaGreatYG26
set_option linter.all false
namespace Go.X
open Go.V Go.RowKit Go.ChangeShapes Go.WideShapes Go.ChangeAt
section
variable (E:Env)
def O9 {D:Nat->Type}(r:(t:U)->Den D t->Prop):(ts:List U)->HL D ts->Prop
 |[],_=>True
 |t :: ts,h=>r t h.1/\O9 r ts h.2
def V4:Nat->(t:U)->Den E.D t->Prop
 |0,_,_=>True
 |_+1,.int k,x=>inK k x
 |n+1,.list t,l=>∀x∈(show List (Den E.D t)from l),V4 n t x
 |n+1,.st i,x=>O9 (V4 n) (E.fs i) (E.un i x)
 |n+1,.arr m t,l=>(show List (Den E.D t)from l).length=m/\∀x∈(show List (Den E.D t)from l),V4 n t x
 |_+1,_,_=>True
def b0h (r:Nat->U->Bool):List Field->List U->Nat->Bool
 |[],[],_=>true
 |f :: fs,t :: ts,o=>Nat.beq f.offset o&&(Nat.beq (E.P.cellsOf f.type) (O1 E t)&&(r f.type t&&b0h r fs ts (o+O1 E t)))
 |_,_,_=>false
def c0r:List U->Nat
 |[]=>0
 |t :: ts=>O1 E t+c0r ts
def U5:Nat->Nat->U->Bool
 |0,_,_=>false
 |
  n+1,T,t=>match E.P.underlying T,t with
  |some (.int k),.int k'=>decide (k=k')
  |some .bool,.bool=>true
  |some (.slice e),.list t=>Nat.beq (E.P.cellsOf e) (O1 E t)&&(Nat.blt 0 (O1 E t)&&U5 n e t)
  |some (.struct fs),.st i=>Nat.beq (E.P.cellsOf T) (c0r E (E.fs i))&&b0h E (U5 n) fs.toList (E.fs i) 0
  |some (.array m e),.arr m' t=>Nat.beq m m'&&(Nat.beq (E.P.cellsOf T) (m*O1 E t)&&(Nat.beq (E.P.cellsOf e) (O1 E t)&&U5 n e t))
  |_,_=>false
end
section
variable {E:Env}
def p0A {n:Nat}(ih:∀(T:Nat) (t:U),U5 E n T t=true->Rd E.P T (D0 E t) (V4 E n t)){H:Type}{enc:TypeId×Value->H}{W:World}{sp:Nat->Bool}{held:Bool}{cs:List Value}:
  ∀(fs:List Field) (ts:List U) (o:Nat),b0h E (U5 E n) fs ts o=true->cs.length=o+c0r E ts->(∀f∈fs,∃n d' ps',DataW.trod enc E.P W 0 sp held n f.type ((cs.drop f.offset).take (E.P.cellsOf f.type))=some (d',ps')/\∀p∈ps',p.block<W.heap.size)->
  ∃h:HL E.D ts,(S6 E ts).R W.heap L3 (cs.drop o) h/\O9 (V4 E n) ts h
 |[],[],o,_,hl,_=>⟨(),by show cs.drop o=[];simp[c0r]at hl;exact List.drop_of_length_le (by omega),trivial⟩
 |
  f :: fs,t :: ts,o,hc,hl,hg=>by
  simp only[b0h,Bool.and_eq_true,Nat.beq_eq]at hc;obtain⟨rfl,h2,h3,h4⟩:=hc;obtain⟨x,h5,h6⟩:=Rd.field (ih _ _ h3) (hg f (by simp));rw[h2]at h5;obtain⟨h,h7,h8⟩:=p0A ih fs ts _ h4 (by simp only[c0r]at hl;omega) (fun f hf=>hg f (by simp[hf]));refine⟨(x,h),⟨_,_,?_,h5,h7⟩,h6,h8⟩;rw[<-List.drop_drop,List.take_append_drop]
 |[],_ :: _,_,hc,_,_=>by simp[b0h]at hc
 |_ :: _,[],_,hc,_,_=>by simp[b0h]at hc
def l0u (hE:B1 E):∀(n T:Nat) (t:U),U5 E n T t=true->Rd E.P T (D0 E t) (V4 E n t)
 |0,_,_,h=>by simp[U5]at h
 |
  n+1,T,t,h=>by
  have ih:=l0u hE n;unfold U5 at h;split at h
  ·rename_i k k' hT;rw[decide_eq_true_eq]at h;subst h;exact Rd.int hT
  ·rename_i hT;exact Rd.bool hT
  ·rename_i e t hT;simp only[Bool.and_eq_true,Nat.beq_eq,Nat.blt_eq]at h;exact Rd.slice hT h.1 h.2.1 (ih _ _ h.2.2)
  ·rename_i fs i hT;simp only[Bool.and_eq_true,Nat.beq_eq]at h;refine⟨fun {H enc W sp held fuel cs d ps} hr hp=>?_⟩;obtain⟨hl,hf⟩:=v0M hT hr hp;rw[h.1]at hl;obtain⟨x,h1,h2⟩:=p0A (cs:=cs) (sp:=sp) (held:=held) (enc:=enc) ih fs.toList (E.fs i) 0 h.2 (by omega) (fun f hf'=>by
    obtain⟨j,hj⟩:=List.getElem?_of_mem hf';exact hf j f (by rw[<-Array.getElem?_toList];exact hj))
   refine⟨E.mkS i x,(hE.st i _ _ _ _).2 (by rw[hE.unmk];exact h1),?_⟩;show O9 (V4 E n) (E.fs i) (E.un i (E.mkS i x));rw[hE.unmk];exact h2
  ·rename_i m e m' t hT;simp only[Bool.and_eq_true,Nat.beq_eq]at h;obtain⟨rfl,hcT,hce,hr⟩:=h;have ih:=ih _ _ hr;refine⟨fun {H enc W sp held fuel cs d ps} hrd hp=>?_⟩;obtain⟨xs,q,rfl,hx,hl,hxl,hget⟩:=DataW.trod_array hT hrd;cases hx;rw[hcT]at hl;have key:∀i,i<m->∃x,(D0 E t).R W.heap L3 ((cs.drop (i*O1 E t)).take (O1 E t)) x/\V4 E n t x:=fun i hi=>by
    have:=hget i hi;rw[List.getElem?_eq_getElem (by omega),hce]at this;exact ih.get this fun p hp'=>hp p (List.mem_flatMap.2 ⟨_,List.getElem_mem _,hp'⟩)
   obtain⟨ys,hyl,hys⟩:=h0B m key;refine⟨ys,⟨hyl,⟨by rw[hl,hyl];rfl,fun i x hi=>(hys i x hi).1⟩⟩,hyl,fun x hx=>?_⟩;obtain⟨i,hi⟩:=List.getElem?_of_mem hx;exact(hys i x hi).2
  ·cases h
def D8:(us:List U)->HL E.D us->O2 E.D (us.map Sh.d)
 |[],_=>()
 |u :: us,x=>a0N false (K3 (us.map Sh.d)) x.1 (D8 us x.2)
def c9 (W:World):(us:List U)->List Value->HL E.D us->Prop
 |[],vs,_=>vs=[]
 |u :: us,vs,x=>∃c v vs',vs=v :: vs'/\v=B2 (j6 u) c/\(D0 E u).R W.heap L3 c x.1/\c9 W us vs' x.2
def x0F {H:F0}{S:B0}{x:O2 E.D []}:N1 E H S [] x [] []:=by simp[N1]
def l0l {W:World}:∀(us:List U) (vs:List Value) (x:HL E.D us),c9 W us vs x->N1 E W.heap L3 (us.map Sh.d) (D8 us x) vs []
 |[],vs,x,h=>by unfold c9 at h;subst h;exact x0F
 |
  u :: us,vs,x,h=>by
  unfold c9 at h;obtain⟨c,v,vs',rfl,h1,h2,h3⟩:=h;have ih:=l0l us vs' x.2 h3;have e1:∀(p:Bool) (d:Den E.D u) (b:O2 E.D (us.map Sh.d)),D9 (B:=O2 E.D (us.map Sh.d)) false p d (a0N false p x.1 b)=x.1:=fun p d b=>by cases p<;>rfl
  have e2:a0W (A:=Den E.D u) false (K3 (us.map Sh.d)) (k9 E (us.map Sh.d)) (a0N false (K3 (us.map Sh.d)) x.1 (D8 us x.2))=D8 us x.2:=by
   cases us with
   |nil=>rfl
   |cons t ts=>rfl
  show N1 E W.heap L3 (Sh.d u :: us.map Sh.d) (D8 (u :: us) x) (v :: vs') [];unfold N1;refine⟨c,v,vs',[],[],rfl,rfl,h1,?_,?_⟩
  ·unfold SR;exact⟨rfl,by rw[show D9 (j4 (Sh.d u)) (K3 (us.map Sh.d)) (K7 E (Sh.d u)) (D8 (u :: us) x)=x.1 from e1 _ _ _];exact h2⟩
  ·rw[show a0W (j4 (Sh.d u)) (K3 (us.map Sh.d)) (k9 E (us.map Sh.d)) (D8 (u :: us) x)=D8 us x.2 from e2];exact ih
def g0L {f:Nat}{us:List U}{m:O2 E.D (us.map Sh.d)->Option Bool}(hsm:G0 E ⟨f,us.map Sh.d,.d .bool,[],m⟩){W:World}{vs:List Value}{x:HL E.D us}(hx:c9 W us vs x)(h:m (D8 us x)=some true):
  Calls E.P f vs.toArray W fun e w1=>e=.returned (.bool true)/\Below W.heap.size W w1:=by
 refine(hsm W L3 vs [] (D8 us x) true h (l0l us vs x hx) (fun b hb=>hb.elim) (fun b hb=>by obtain⟨v,hv,_⟩:=hb;cases hv) (fun i j v v' _ hv=>by simp at hv)).mono ?_
 rintro e w1 ⟨v,S1,pl1,rfl,h1,h2,_⟩
 have h1:N1 E w1.heap S1 [.d .bool] true [v] pl1:=h1;unfold N1 at h1;obtain⟨c,u,us',p1,p2,e1,_,e2,e3,_⟩:=h1;unfold SR at e3;have e4:c=[.bool true]:=e3.2;subst e4;simp only[List.cons.injEq]at e1;refine⟨by rw[e1.1,e2];rfl,h2.os,h2.tape,h2.output,h2.size,fun k hk=>h2.block k hk (fun hb=>by obtain⟨v,hv,_⟩:=hb;cases hv)⟩
def a0e:(Nat->U->Bool)->List Nat->List U->Bool
 |_,[],[]=>true
 |r,t :: ts,u :: us=>r t u&&a0e r ts us
 |_,_,_=>false
def f0J:U->Bool
 |.int _|.bool|.list _|.st _=>true
 |_=>false
def m0b (E:Env)(N t:Nat):(u:U)->Den E.D u->Prop
 |.list u,x=>(match E.P.underlying t with|some (.slice e)=>(show List (Den E.D u)from x).length*E.P.bytesOf e<=N|_=>True)
 |_,_=>True
def d0j (E:Env)(N:Nat):List Nat->(us:List U)->HL E.D us->Prop
 |t :: ts,u :: us,x=>m0b E N t u x.1/\d0j E N ts us x.2
 |_,_,_=>True
def d08 (hE:B1 E){n:Nat}{H:Type}{enc:TypeId×Value->H}{W:World}{held:Bool}{base N:Nat}:∀(ts:List Nat) (us:List U) (vs:List Value) (ds:List (DataW H)) (ps:List MemPlace),
  a0e (fun t u=>f0J u&&U5 E n t u) ts us=true->(∀(j:Nat) t v,ts[j]?=some t->vs[j]?=some v->Value.okWide E.P W .any base t v)->DataW.TrodAll enc E.P W 0 (fun _=>true) held ts vs ds ps->(∀p∈ps,p.block<W.heap.size)->
  (∀(j:Nat) t d,ts[j]?=some t->ds[j]?=some d->∀e q c A fuel ps',E.P.underlying t=some (.slice e)->DataW.trod enc E.P W 0 (fun _=>true) held fuel t (Value.slice A q c).cells.toList=some (d,ps')->q*E.P.bytesOf e<=N)->
  ∃x:HL E.D us,c9 W us vs x/\O9 (V4 E n) us x/\d0j E N ts us x
 |
  [],[],vs,ds,ps,_,_,hA,_,_=>by
  obtain⟨rfl,rfl,rfl⟩:=trodAll_nil hA;exact⟨(),rfl,trivial,trivial⟩
 |
  t :: ts,u :: us,vs,ds,ps,hr,hval,hA,hp,hsz=>by
  simp only[a0e,Bool.and_eq_true]at hr;obtain⟨⟨htop,hr1⟩,hr2⟩:=hr;obtain⟨v,vs',d,ds',p,q,rfl,rfl,rfl,h1,h2⟩:=trodAll_cons hA;obtain⟨xs,h3,h4,h5⟩:=d08 hE ts us vs' ds' q hr2 (fun j t v ht hv=>hval (j+1) t v (by simpa using ht) (by simpa using hv)) h2 (fun x hx=>hp x (List.mem_append_right _ hx)) (fun j t d ht hd=>hsz (j+1) t d (by simpa using ht) (by simpa using hd));obtain⟨fuel,hf⟩:=h1;obtain⟨x,hx,hw⟩:=(l0u hE n t u hr1).get hf (fun y hy=>hp y (List.mem_append_left _ hy));have hv:=hval 0 t v rfl rfl;have h0:=hsz 0 t d rfl rfl;refine⟨(x,xs),⟨v.cells.toList,v,vs',rfl,?_,hx,h3⟩,⟨hw,h4⟩,?_⟩
  ·cases n with
   |zero=>simp[U5]at hr1
   |
    succ n=>
    unfold U5 at hr1;split at hr1<;>try (first|cases hr1|cases htop)
    ·rename_i k k' hT;obtain⟨z,rfl⟩:=okWide_int hT hv;rfl
    ·rename_i hT;obtain⟨z,rfl⟩:=okWide_bool hT hv;rfl
    ·rename_i e t' hT;obtain⟨a,l,c,rfl⟩:=okWide_slice hT hv;rfl
    ·rename_i fs i hT;obtain⟨c,rfl,_⟩:=okWide_struct hT hv;simp[Value.cells,B2,j6]
  ·cases n with
   |zero=>simp[U5]at hr1
   |
    succ n=>
    unfold U5 at hr1;split at hr1
    ·exact⟨trivial,h5⟩
    ·exact⟨trivial,h5⟩
    ·rename_i e t' hT;refine⟨?_,h5⟩;unfold m0b;obtain⟨a,l,c,rfl⟩:=okWide_slice hT hv;rw[hT];obtain⟨A',c',e1,_⟩:=hx;simp[Value.cells]at e1;obtain⟨_,e2,_⟩:=e1;show List.length (show List (Den E.D t')from x)*_<=N;rw[<-e2];exact h0 e l c a fuel p hT hf
    ·exact⟨trivial,h5⟩
    ·cases htop
    ·cases hr1
 |[],_ :: _,_,_,_,hr,_,_,_,_=>by simp[a0e]at hr
 |_ :: _,[],_,_,_,hr,_,_,_,_=>by simp[a0e]at hr
end
