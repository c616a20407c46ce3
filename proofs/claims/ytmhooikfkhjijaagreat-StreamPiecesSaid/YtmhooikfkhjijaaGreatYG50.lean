/- P. Its conditions: none. -/
import Derived.Test.YtmhooikfkhjijaaGreatYG49
import Derived.Test.YtmhooikfkhjijaaGreatYG48
open List (foldl_cons mem_cons_of_mem any_eq_true foldl_nil foldl_append length_replicate length_cons)
open Nat (lt_or_ge mul_le_mul mul_add add_mul le_refl)
set_option linter.all false
namespace Go.Proofs.YtmhooikfkhjijaaGreat
open Go.V Go.RowKit Old Go.X
def pr (v:List Int)(g:Nat):Int×Int:=(gt v ((2*g-1:Nat):Int),gt v ((2*g:Nat):Int))
section
variable {l:List C0}{t:Tm}{T g:Nat}
def j0m (k:Int)(v:List Int)(ms:List G2):(S6 k (-1) v ms).length=v.length:=h0s ..
def o0Q {k:Int}{v:List Int}(i:v.length=1+2*T)(h1:1<=g)(q:g<=T)(K G:Int)(h:K=1\/K=2\/K=3):
  pr (o5 k (-1) v ⟨K,G⟩) g=if G=(g:Int)then(if K=1 then(k,(pr v g).2)else if K=2 then((pr v g).1,k)else(-1,-1))else pr v g:=by
 unfold o5;simp only;have j:((v.length:Int)-1) / 2=T:=by rw[i];omega
 rw[j]
 by_cases c:G<1\/(T:Int)<G
 ·rw[if_pos c,if_neg (show ¬G=(g:Int) by omega)]
 ·rw[if_neg c];obtain⟨d,rfl⟩:∃n:Nat,G=(n:Int):=⟨G.toNat,by omega⟩
  have p:(2*(d:Int)-1).toNat=2*d-1:=by omega
  have o:(2*(d:Int)).toNat=2*d:=by omega
  rw[p,o];have f:2*d-1<v.length:=by omega
  have i2:2*d<v.length:=by omega
  have i3:∀x:Int,2*d<(v.set (2*d-1) x).length:=fun x=>by simpa using i2
  unfold pr
  by_cases e:d=g
  ·subst e;rw[if_pos rfl];rcases h with rfl|rfl|rfl
   ·simp only[if_true];rw[V7 f,V7 f,if_pos rfl,if_neg (by omega)]
   ·simp only[show ¬(2:Int)=1 by omega,if_false,if_true];rw[V7 i2,V7 i2,if_neg (by omega),if_pos rfl]
   ·simp only[show ¬(3:Int)=1 by omega,show ¬(3:Int)=2 by omega,if_false,if_true];rw[V7 (i3 _),V7 (i3 _),V7 f,if_neg (by omega),if_pos rfl,if_pos rfl]
  ·rw[if_neg (show ¬(d:Int)=(g:Int) by omega)];rcases h with rfl|rfl|rfl
   ·simp only[if_true];rw[V7 f,V7 f,if_neg (by omega),if_neg (by omega)]
   ·simp only[show ¬(2:Int)=1 by omega,if_false,if_true];rw[V7 i2,V7 i2,if_neg (by omega),if_neg (by omega)]
   ·simp only[show ¬(3:Int)=1 by omega,show ¬(3:Int)=2 by omega,if_false,if_true];rw[V7 (i3 _),V7 (i3 _),V7 f,V7 f,if_neg (by omega),if_neg (by omega),if_neg (by omega),if_neg (by omega)]
def E0e (k:Int){v:List Int}(f:v.length=1+2*T)(m:G2):gt (o5 k (-1) v m) 0=gt v 0:=by
 unfold o5;have d:∀(o:List Int) (i:Nat) (x:Int),1<=i->gt (o.set i x) 0=gt o 0:=fun o i x h=>X7 (j:=0) (by omega);split
 ·rfl
 ·rename_i c;split
  ·exact d _ _ _ (by omega)
  ·split
   ·exact d _ _ _ (by omega)
   ·split
    ·rw[d _ _ _ (by omega),d _ _ _ (by omega)]
    ·rfl
def u0d (H7:List (Nat×Int)):∀v,(r8 l v H7).length=v.length:=by
 induction H7 with
 |nil=>intro v;rfl
 |cons e r c=>intro v;exact(c _).trans (j0m _ _ _)
def B05 (H7:List (Nat×Int)):∀v,v.length=1+2*T->gt (r8 l v H7) 0=gt v 0:=by
 have one:∀(ms:List G2) (k:Int) (v:List Int),v.length=1+2*T->gt (S6 k (-1) v ms) 0=gt v 0:=by
  intro ms
  induction ms with
  |nil=>intro k v _;rfl
  |cons m r c=>intro k v h;exact(c k _ (by rw[m0K];exact h)).trans (E0e k h m)
 induction H7 with
 |nil=>intro v _;rfl
 |cons e r c=>intro v h;exact(c _ (by rw[j0m];exact h)).trans (one _ _ v h)
def b0D (k:Nat)(x:Int)(r:List (Nat×Int))(v:List Int):r8 l v ((k,x) :: r)=r8 l (S6 (k:Int) (-1) v (N4 l [x])) r:=rfl
def o0o (q:Nat)(c:q<l.length):N9 l (O0 q)=if(gt l (q:Int)).Kind=7 then[⟨1,(gt l (q:Int)).N⟩]else if(gt l (q:Int)).Kind=8 then(Z3 l (q:Int)).map fun g=>⟨3,g⟩else[]:=by
 unfold N9 O0;rw[show 2*(q:Int) / 2=q by omega,show 2*(q:Int) % 2=0 by omega,if_neg (by omega)];simp
def m0X (q:Nat)(c:q<l.length):N9 l (cls q)=if(gt l (q:Int)).Kind=7 then[⟨2,(gt l (q:Int)).N⟩]else[]:=by
 unfold N9 cls;rw[show(2*(q:Int)+1) / 2=q by omega,show(2*(q:Int)+1) % 2=1 by omega,if_neg (by omega)];simp
def f0T (x:Int):N4 l [x]=N9 l x:=by simp[N4]
def x0B (k:Int)(v:List Int):S6 k (-1) v []=v:=rfl
def r0C {k:Int}(h1:1<=g)(d:g<=T):∀(gs:List Int) (v:List Int),v.length=1+2*T->pr (S6 k (-1) v (gs.map fun g=>⟨3,g⟩)) g=if(g:Int)∈gs then(-1,-1)else pr v g
 |[],v,_=>by simp[S6]
 |x :: r,v,hv=>by
  have h:=r0C (k:=k) h1 d r (o5 k (-1) v ⟨3,x⟩) (by rw[m0K];exact hv);have e:pr (o5 k (-1) v ⟨3,x⟩) g=if x=(g:Int)then(-1,-1)else pr v g:=o0Q (k:=k) hv h1 d 3 x (.inr (.inr rfl));unfold S6 at h ⊢;rw[List.map_cons,foldl_cons,h,e]
  by_cases c:(g:Int)∈r
  ·rw[if_pos c,if_pos (mem_cons_of_mem _ c)]
  ·rw[if_neg c]
   by_cases c2:x=(g:Int)
   ·rw[if_pos c2,if_pos (show(g:Int)∈x :: r by rw[c2];simp)]
   ·rw[if_neg c2,if_neg (show ¬(g:Int)∈x :: r by simp[c];omega)]
def f06 {s:Tm}{lo:Nat}(h:At l lo s)(c:(s.node lo).Kind≠7)(d:(s.node lo).Kind≠8)(k:Int)(v:List Int):S6 k (-1) v (N4 l [O0 (s.top lo)])=v/\S6 k (-1) v (N4 l [cls (s.top lo)])=v:=by
 rw[f0T,f0T,o0o _ h.j5,m0X _ h.j5,h.D2,if_neg c,if_neg d,if_neg c];exact⟨rfl,rfl⟩
def w0r (hR:K1 l=true)(h1:1<=g)(q:g<=T)(R:T<=9){w:List Int}:∀{s:Tm} {lo k:Nat} {P:Pt} {v:List Int},At l lo s->Fit w s k P->v.length=1+2*T->pr (r8 l v (U3 s lo k P)) g=E4 (g:Int) s k P (pr v g):=by
 intro s;have o:∀{H7:List (Nat×Int)} {v:List Int},v.length=1+2*T->(r8 l v H7).length=1+2*T:=fun h=>by rw[u0d];exact h
 have nil:∀v:List Int,r8 l v []=v:=fun _=>rfl
 induction s with
 |eps=>
  intro lo k P v h f d;cases f;have e:Tm.top .eps lo=lo:=by simp[Tm.top,Tm.size]
  have p:=fun k v=>f06 h (by simp[Tm.node]) (by simp[Tm.node]) k v;rw[e]at p;simp only[U3,b0D,(p _ _).1,(p _ _).2,nil,E4]
 |leaf S=>
  intro lo k P v h f d;cases f;have e:Tm.top (.leaf S) lo=lo:=by simp[Tm.top,Tm.size]
  have p:=fun k v=>f06 h (by simp[Tm.node]) (by simp[Tm.node]) k v;rw[e]at p;simp only[U3,b0D,(p _ _).1,(p _ _).2,nil,E4]
 |cat a b ia ib=>
  intro lo k P v h f d;cases f with | @cat _ _ _ x y f1 f2=>
  obtain⟨ha,C,_⟩:=(At.bin (t:=.cat a b) rfl rfl).1 h;have p:=fun k v=>f06 h (by simp[Tm.node]) (by simp[Tm.node]) k v;simp only[U3,b0D,b0i,(p _ _).1,(p _ _).2,nil,E4];rw[ib C f2 (o d),ia ha f1 d]
 |alt a b ia ib=>
  intro lo k P v h f d;obtain⟨ha,C,_⟩:=(At.bin (t:=.alt a b) rfl rfl).1 h;have p:=fun k v=>f06 h (by simp[Tm.node]) (by simp[Tm.node]) k v;cases f with
  |altL f=>
   simp only[U3,b0D,b0i,(p _ _).1,(p _ _).2,nil,E4];exact ia ha f d
  |altR f=>
   simp only[U3,b0D,b0i,(p _ _).1,(p _ _).2,nil,E4];exact ib C f d
 |star a ia=>
  intro lo k P v h f d;have ha:=((At.un (t:=.star a) rfl rfl).1 h).1;have p:=fun k v=>f06 h (by simp[Tm.node]) (by simp[Tm.node]) k v;simp only[U3,b0D,b0i,(p _ _).1,(p _ _).2,nil,E4];have key:∀(P:Pt) (k:Nat) (v:List Int),Fit w (.star a) k P->v.length=1+2*T->pr (r8 l v (stw (fun k x=>U3 a lo k x) k P)) g=stG (fun k x c=>E4 (g:Int) a k x c) k P (pr v g):=by
   intro P
   induction P with
   |nil=>intro k v _ _;rfl
   |byte=>intro k v f _;cases f
   |one x _=>intro k v f _;cases f
   |other x _=>intro k v f _;cases f
   |two x r _ ir=>
    intro k v f d;cases f with|star f1 _ f2=>
    simp only[stw,stG,b0i];rw[ir _ _ f2 (o d),ia ha f1 d]
  exact key P k v f d
 |maybe a ia=>
  intro lo k P v h f d;have ha:=((At.un (t:=.maybe a) rfl rfl).1 h).1;have p:=fun k v=>f06 h (by simp[Tm.node]) (by simp[Tm.node]) k v;cases f with
  |maybe0=>simp only[U3,b0D,b0i,(p _ _).1,(p _ _).2,nil,E4]
  |maybe f=>
   simp only[U3,b0D,b0i,(p _ _).1,(p _ _).2,nil,E4];exact ia ha f d
 |group m a ia=>
  intro lo k P v h f d;have ha:=((At.un (t:=.group m a) rfl rfl).1 h).1;have hn:=t0c hR _ _ h;cases f with | @group _ _ _ x f=>
  have u:N4 l [O0 (Tm.top (.group m a) lo)]=[⟨1,m⟩]:=by rw[f0T,o0o _ h.j5,h.D2];rfl
  have j:N4 l [cls (Tm.top (.group m a) lo)]=[⟨2,m⟩]:=by rw[f0T,m0X _ h.j5,h.D2];rfl
  have J:∀(k:Int) (v:List Int),v.length=1+2*T->pr (S6 k (-1) v [⟨1,m⟩]) g=if m=(g:Int)then(k,(pr v g).2)else pr v g:=fun k v d=>o0Q d h1 q 1 m (.inl rfl);have I:∀(k:Int) (v:List Int),v.length=1+2*T->pr (S6 k (-1) v [⟨2,m⟩]) g=if m=(g:Int)then((pr v g).1,k)else pr v g:=fun k v d=>o0Q d h1 q 2 m (.inr (.inl rfl));have i:(S6 (k:Int) (-1) v [⟨1,m⟩]).length=1+2*T:=by rw[j0m];exact d
  simp only[U3,b0D,b0i,nil,E4,u,j];rw[I _ _ (o i),ia ha f i,J _ _ d]
  by_cases c:m=(g:Int)
  ·rw[if_pos c,if_pos c,if_pos c,p0u f _ (by rw[<-c];exact hn.2.2.1)];simp only[Pt.wid]
  ·rw[if_neg c,if_neg c,if_neg c]
 |iter a ia=>
  intro lo k P v h f d;have ha:=((At.un (t:=.iter a) rfl rfl).1 h).1;cases f with | @iter _ _ x f=>
  have u:N4 l [O0 (Tm.top (.iter a) lo)]=(Z3 l (Tm.top (.iter a) lo:Int)).map fun g=>⟨3,g⟩:=by rw[f0T,o0o _ h.j5,h.D2];rfl
  have j:N4 l [cls (Tm.top (.iter a) lo)]=[]:=by rw[f0T,m0X _ h.j5,h.D2];rfl
  have hg:=n0u hR h (g:=g) (by omega);simp only[C5]at hg;simp only[U3,b0D,b0i,nil,E4,u,j,x0B];rw[ia ha f (by rw[j0m];exact d),r0C h1 q _ _ d];congr 1
  by_cases c:C5 a (g:Int)=true
  ·rw[if_pos c,if_pos (hg.2 c)]
  ·rw[if_neg c,if_neg (fun h=>c (hg.1 h))]
end
def Y7 (y:List G1)(gs:List Int):List G1:=gs.foldl (fun y g=>y.set g.toNat ⟨-1,-1⟩) y
def M7 (l:List C0)(y:List G1)(e:Z1):List G1:=
 if(gt l e.Node).Kind=8 then Y7 (if(gt l e.Node).Kind=7 then y.set (gt l e.Node).N.toNat ⟨e.From,e.To⟩else y) (Z3 l e.Node)
 else if(gt l e.Node).Kind=7 then y.set (gt l e.Node).N.toNat ⟨e.From,e.To⟩else y
def k0g:∀(gs:List Int) (y:List G1),(Y7 y gs).length=y.length
 |[],y=>rfl
 |g :: r,y=>by unfold Y7;rw[foldl_cons];exact(k0g r _).trans (by simp)
def q08 (l:List C0)(y:List G1)(e:Z1):(M7 l y e).length=y.length:=by
 unfold M7;split
 ·rw[k0g];split<;>simp
 ·split<;>simp
def i0w (l:List C0)(es:List Z1):∀y,(es.foldl (M7 l) y).length=y.length:=by
 induction es with
 |nil=>intro y;rfl
 |cons e r c=>intro y;exact(c _).trans (q08 l y e)
def pm (x:G1):Int×Int:=(x.From,x.To)
section
variable {l:List C0}{t:Tm}{T g:Nat}{F:Nat}
def t0S {g:Nat}:∀(gs:List Int) (y:List G1),(∀x∈gs,0<=x/\x<y.length)->pm (gt (Y7 y gs) (g:Int))=if(g:Int)∈gs then(-1,-1)else pm (gt y (g:Int))
 |[],y,_=>by simp[Y7]
 |x :: r,y,h=>by
  have i:=h x (by simp);have d:=t0S (g:=g) r (y.set x.toNat ⟨-1,-1⟩) (fun z f=>by rw[List.length_set];exact h z (mem_cons_of_mem _ f));have e:Y7 y (x :: r)=Y7 (y.set x.toNat ⟨-1,-1⟩) r:=rfl;rw[e,d,V7 (by omega)]
  by_cases c:(g:Int)∈r
  ·rw[if_pos c,if_pos (mem_cons_of_mem _ c)]
  ·rw[if_neg c]
   by_cases c2:g=x.toNat
   ·rw[if_pos c2,if_pos (show(g:Int)∈x :: r by rw[show(g:Int)=x by omega];simp)];rfl
   ·rw[if_neg c2,if_neg (show ¬(g:Int)∈x :: r by simp[c];omega)]
def l0T (hR:K1 l=true)(f:O2 l t)(p:o9 l=T){q x:Int}(h:x∈Z3 l q):1<=x/\x<=T:=by
 have u:=r0v h;obtain⟨k,rfl⟩:∃k:Nat,x=(k:Int):=⟨x.toNat,by omega⟩
 have o:=a0M hR;have c:∃y∈l,P9 (k:Int) y=true:=by
  unfold Z3 at h;split at h
  ·cases h
  ·rw[s0R (by omega),any_eq_true]at h;obtain⟨y,h1,d⟩:=h;exact⟨y,List.mem_of_mem_drop (List.mem_of_mem_take h1),d⟩
 obtain⟨y,h1,d⟩:=c;have j:y.Kind=7/\y.N=(k:Int):=by simpa[P9]using d
 have r:=o.grp y h1 j.1;have i:C5 t (k:Int)=true:=by
  rw[<-h0H (k:Int) t 0,<-f.eq,any_eq_true];exact⟨y,h1,d⟩
 have:=o04 hR f i (by omega) (by omega);omega
def d0y {s:Tm}{lo:Nat}(h:At l lo s)(c:(s.node lo).Kind≠7)(f:(s.node lo).Kind≠8)(d a b:Int)(y:List G1):M7 l y ⟨d,(s.top lo:Int),a,b⟩=y:=by
 unfold M7;simp only[h.D2,if_neg c,if_neg f]
def C0I (hR:K1 l=true)(q:O2 l t)(I:o9 l=T)(h1:1<=g)(U:g<=T){w:List Int}:∀{s:Tm} {lo d k:Nat} {P:Pt} {y:List G1},At l lo s->Fit w s k P->y.length=T+1->pm (gt ((K2 s lo d k P).foldl (M7 l) y) (g:Int))=E4 (g:Int) s k P (pm (gt y (g:Int))):=by
 have h9:T<=9:=by have:=g0o l;omega
 intro s;have v:∀{es:List Z1} {y:List G1},y.length=T+1->(es.foldl (M7 l) y).length=T+1:=fun h=>by rw[i0w];exact h
 induction s with
 |eps=>
  intro lo d k P y h f i;cases f;simp only[K2,foldl_cons,foldl_nil,E4,d0y h (by simp[Tm.node]) (by simp[Tm.node])]
 |leaf S=>
  intro lo d k P y h f i;cases f;simp only[K2,foldl_cons,foldl_nil,E4,d0y h (by simp[Tm.node]) (by simp[Tm.node])]
 |cat a b ia ib=>
  intro lo d k P y h f i;cases f with | @cat _ _ _ x x' f1 f2=>
  obtain⟨ha,u,_⟩:=(At.bin (t:=.cat a b) rfl rfl).1 h;simp only[K2,foldl_cons,foldl_append,E4,d0y h (by simp[Tm.node]) (by simp[Tm.node])];rw[ib u f2 (v i),ia ha f1 i]
 |alt a b ia ib=>
  intro lo d k P y h f i;obtain⟨ha,u,_⟩:=(At.bin (t:=.alt a b) rfl rfl).1 h;cases f with
  |altL f=>
   simp only[K2,foldl_cons,E4,d0y h (by simp[Tm.node]) (by simp[Tm.node])];exact ia ha f i
  |altR f=>
   simp only[K2,foldl_cons,E4,d0y h (by simp[Tm.node]) (by simp[Tm.node])];exact ib u f i
 |star a ia=>
  intro lo d k P y h f i;have ha:=((At.un (t:=.star a) rfl rfl).1 h).1;simp only[K2,foldl_cons,E4,d0y h (by simp[Tm.node]) (by simp[Tm.node])];have key:∀(P:Pt) (k:Nat) (y:List G1),Fit w (.star a) k P->y.length=T+1->pm (gt ((stE (fun k x=>K2 a lo (d+1) k x) k P).foldl (M7 l) y) (g:Int))=stG (fun k x c=>E4 (g:Int) a k x c) k P (pm (gt y (g:Int))):=by
   intro P
   induction P with
   |nil=>intro k y _ _;rfl
   |byte=>intro k y f _;cases f
   |one x _=>intro k y f _;cases f
   |other x _=>intro k y f _;cases f
   |two x r _ ir=>
    intro k y f i;cases f with|star f1 _ f2=>
    simp only[stE,stG,foldl_append];rw[ir _ _ f2 (v i),ia ha f1 i]
  exact key P k y f i
 |maybe a ia=>
  intro lo d k P y h f i;have ha:=((At.un (t:=.maybe a) rfl rfl).1 h).1;cases f with
  |maybe0=>simp only[K2,foldl_cons,foldl_nil,E4,d0y h (by simp[Tm.node]) (by simp[Tm.node])]
  |maybe f=>
   simp only[K2,foldl_cons,E4,d0y h (by simp[Tm.node]) (by simp[Tm.node])];exact ia ha f i
 |group m a ia=>
  intro lo d k P y h f i;have ha:=((At.un (t:=.group m a) rfl rfl).1 h).1;have hn:=t0c hR _ _ h;cases f with | @group _ _ _ x f=>
  have e:∀o j b',M7 l y ⟨o,(Tm.top (.group m a) lo:Int),j,b'⟩=y.set m.toNat ⟨j,b'⟩:=fun o j b'=>by
   unfold M7;simp only[h.D2,Tm.node];simp
  have p:C5 t m=true:=by
   have C:(gt l (Tm.top (.group m a) lo:Int))∈l:=gtm h.j5;rw[<-h0H m t 0,<-q.eq,any_eq_true];exact⟨_,C,by rw[h.D2];simp[P9,Tm.node]⟩
  have hm:=o04 hR q p hn.1 hn.2.1;simp only[K2,foldl_cons,E4,e];rw[ia ha f (by simpa using i),V7 (by omega)];have R:=hn.1
  by_cases c:m=(g:Int)
  ·rw[if_pos (by omega),if_pos c,p0u f _ (by rw[<-c];exact hn.2.2.1)];simp only[pm,Pt.wid]
  ·rw[if_neg (by omega),if_neg c]
 |iter a ia=>
  intro lo d k P y h f i;have ha:=((At.un (t:=.iter a) rfl rfl).1 h).1;cases f with | @iter _ _ x f=>
  have e:∀o j b',M7 l y ⟨o,(Tm.top (.iter a) lo:Int),j,b'⟩=Y7 y (Z3 l (Tm.top (.iter a) lo:Int)):=fun o j b'=>by
   unfold M7;simp only[h.D2,Tm.node];simp
  have hg:=n0u hR h (g:=g) (by omega);simp only[C5]at hg;simp only[K2,foldl_cons,E4,e];rw[ia ha f (by rw[k0g];exact i),t0S _ _ (fun x J=>by have:=l0T hR q I J;omega)];congr 1
  by_cases c:C5 a (g:Int)=true
  ·rw[if_pos c,if_pos (hg.2 c)]
  ·rw[if_neg c,if_neg (fun h=>c (hg.1 h))]
def t0M (hR:K1 l=true)(f:O2 l t)(k:o9 l=T):∀(es:List Z1) (y:List G1),y.length=T+1->(∀e∈es,0<=e.Node/\e.Node<(l.length:Int))->gt (es.foldl (M7 l) y) 0=gt y 0
 |[],y,_,_=>rfl
 |e :: r,y,hy,h=>by
  rw[foldl_cons,t0M hR f k r _ (by rw[q08];exact hy) (fun e he=>h e (mem_cons_of_mem _ he))];have v:=a0M hR;obtain⟨q,C⟩:∃q:Nat,e.Node=(q:Int):=⟨e.Node.toNat,by have:=h e (by simp);omega⟩
  have d:q<l.length:=by have:=h e (by simp);omega
  have i:(gt l e.Node).Kind=7->gt (y.set (gt l e.Node).N.toNat ⟨e.From,e.To⟩) 0=gt y 0:=fun c=>by
   have:=(v.grp _ (by rw[C];exact gtm d) c).1;exact X7 (j:=0) (by omega)
  have p:∀(gs:List Int) (y:List G1),(∀x∈gs,1<=x)->gt (Y7 y gs) 0=gt y 0:=by
   intro gs
   induction gs with
   |nil=>intro y _;rfl
   |cons x r ih=>
    intro y h;have o:=h x (by simp);have e:Y7 y (x :: r)=Y7 (y.set x.toNat ⟨-1,-1⟩) r:=rfl;rw[e,ih _ (fun z u=>h z (mem_cons_of_mem _ u))];exact X7 (j:=0) (by omega)
  unfold M7;split
  ·rw[p _ _ (fun x o=>(l0T hR f k o).1)];split
   ·rename_i c;exact i c
   ·rfl
  ·split
   ·rename_i c;exact i c
   ·rfl
def B0T {w:List Int}{s:Tm}{k:Nat}{P:Pt}(f:Fit w s k P):∀{lo d:Nat},At l lo s->∀e∈K2 s lo d k P,0<=e.Node/\e.Node<(l.length:Int):=by
 have top:∀{s:Tm} {lo:Nat},At l lo s->∀d a b:Int,∀r:List Z1,(∀e∈r,0<=e.Node/\e.Node<(l.length:Int))->∀e∈(⟨d,(s.top lo:Int),a,b⟩:Z1) :: r,0<=e.Node/\e.Node<(l.length:Int):=by
  intro s lo h d a b r i e he;rcases List.mem_cons.1 he with rfl|he
  ·have:=h.j5;simp only;omega
  ·exact i e he
 have no:∀e∈([]:List Z1),0<=e.Node/\e.Node<(l.length:Int):=by intro e he;simp at he
 induction f with
 |eps=>intro lo d h;exact top h _ _ _ _ no
 |leaf _ _=>intro lo d h;exact top h _ _ _ _ no
 |@cat a b _ _ _ _ _ i1 i2=>
  intro lo d h;obtain⟨ha,j,_⟩:=(At.bin (t:=.cat a b) rfl rfl).1 h;refine top h _ _ _ _ fun e he=>?_;rcases List.mem_append.1 he with he|he
  ·exact i1 ha e he
  ·exact i2 j e he
 |@altL a b _ _ _ c=>intro lo d h;exact top h _ _ _ _ (c ((At.bin (t:=.alt a b) rfl rfl).1 h).1)
 |@altR a b _ _ _ c=>intro lo d h;exact top h _ _ _ _ (c ((At.bin (t:=.alt a b) rfl rfl).1 h).2.1)
 |star0=>intro lo d h;exact top h _ _ _ _ no
 |@star a _ _ _ _ _ _ i1 i2=>
  intro lo d h;refine top h _ _ _ _ fun e he=>?_;rcases List.mem_append.1 he with he|he
  ·exact i1 ((At.un (t:=.star a) rfl rfl).1 h).1 e he
  ·exact i2 h e (mem_cons_of_mem _ he)
 |maybe0=>intro lo d h;exact top h _ _ _ _ no
 |@maybe a _ _ _ _ c=>intro lo d h;exact top h _ _ _ _ (c ((At.un (t:=.maybe a) rfl rfl).1 h).1)
 |@group m a _ _ _ c=>intro lo d h;exact top h _ _ _ _ (c ((At.un (t:=.group m a) rfl rfl).1 h).1)
 |@iter a _ _ _ c=>intro lo d h;exact top h _ _ _ _ (c ((At.un (t:=.iter a) rfl rfl).1 h).1)
def y0I (s:Tm)(lo d k:Nat)(P:Pt):∃r,K2 s lo d k P=(⟨(d:Int),(s.top lo:Int),(k:Int),((k+P.wid:Nat):Int)⟩:Z1) :: r:=by
 cases s<;>exact⟨_,rfl⟩
def y0x (hR:K1 l=true)(r:O2 l t)(J:o9 l=T)(hl:l.length*64<=140737488351232)(hf:401<F)(j:l.length+1<F){es:List Z1}{i:Nat}(hi:i<es.length)(he:0<=(gt es (i:Int)).Node/\(gt es (i:Int)).Node<(l.length:Int))(hb:i<=1000000000){y:List G1}(hy:y.length=T+1):
  f03 F l es ((i:Int),y)=some (.next (((i+1:Nat):Int),M7 l y (gt es (i:Int)))):=by
 have hL:=a0M hR;have h9:T<=9:=by have:=g0o l;omega
 have d1:(i:Int)<(es.length:Int):=by omega
 have o:B0 es (i:Int)=true:=R0 (by omega) d1;unfold f03;dsimp only;generalize gt es (i:Int)=e at *;have d2:¬e.Node<0:=by omega
 have d3:¬e.Node>=(l.length:Int):=by omega
 have d:B0 l e.Node=true:=R0 he.1 he.2;obtain⟨q,hq⟩:∃q:Nat,e.Node=(q:Int):=⟨e.Node.toNat,by omega⟩
 have c:gt l e.Node∈l:=by rw[hq];exact gtm (by omega)
 simp only[q0,d1,o,d2,d3,d,G3 (i:=i) (by omega)];have p:∀y':List G1,y'.length=T+1->iter (g08 F (Z3 l e.Node)) F (0,y')=some (Y7 y' (Z3 l e.Node)):=fun y' R=>by
  have a1:=f0F l e.Node;have:=R4 (step:=g08 F (Z3 l e.Node)) (fun k=>((k:Int),Y7 y' ((Z3 l e.Node).take k))) (Y7 y' (Z3 l e.Node)) (Z3 l e.Node).length (fun k hk=>.inl ?_) ?_ (Z3 l e.Node).length 0 F (by omega) (by omega)
  ·simpa[Y7]using this
  ·unfold g08;have C:(k:Int)<((Z3 l e.Node).length:Int):=by omega
   have k2:=l0T hR r J (gtm hk);have v:(Z3 l e.Node).take (k+1)=(Z3 l e.Node).take k++[gt (Z3 l e.Node) (k:Int)]:=by rw[List.take_succ,u6 hk];rfl
   have k3:B0 (Y7 y' ((Z3 l e.Node).take k)) (gt (Z3 l e.Node) (k:Int))=true:=R0 (by omega) (by rw[k0g];omega);have U:Y7 y' ((Z3 l e.Node).take (k+1))=(Y7 y' ((Z3 l e.Node).take k)).set (gt (Z3 l e.Node) (k:Int)).toNat ⟨-1,-1⟩:=by rw[v];simp[Y7]
   simp only[C,decide_true,if_true,R0 (l:=Z3 l e.Node) (i:=(k:Int)) (by omega) C,k3,G3 (i:=k) (by omega),U]
  ·unfold g08;simp
 unfold M7
 by_cases h:(gt l e.Node).Kind=7
 ·have x:=hL.grp _ c h;have b1:(gt l e.Node).N<=T:=by
   have f:C5 t (gt l e.Node).N=true:=by
    rw[<-h0H _ t 0,<-r.eq,any_eq_true];exact⟨_,c,by simp[P9,h]⟩
   have:=o04 hR r f x.1 x.2;omega
  have u:B0 y (gt l e.Node).N=true:=R0 (by omega) (by omega);simp[h,u]
 ·by_cases I:(gt l e.Node).Kind=8
  ·simp[I,n0z hR hl _ hf j,p y hy]
  ·simp[h,I]
def z0A (hR:K1 l=true)(u:O2 l t)(hl:l.length*64<=140737488351232)(hf:2000<F)(x:l.length+1<F)(c6:B6 F l=some true){w:List Int}{i:Nat}{P:Pt}(f:Fit w t i P)(hlen:(K2 t 0 1 i P).length<F)(c8:(K2 t 0 1 i P).length<=1000000000):
  i0k F l (K2 t 0 1 i P)=some (a0x (r8 l (O7 l (i:Int)) (U3 t 0 i P)) ((i+P.wid:Nat):Int)):=by
 have e4:=g0o l;obtain⟨T,y⟩:∃T:Nat,o9 l=T:=⟨(o9 l).toNat,by omega⟩
 have h9:T<=9:=by omega
 unfold i0k;rw[c6,E0F hR hl (by omega) x,y];have hW:W ((T:Int)+1)=((T+1:Nat):Int):=G3 (by omega);have b5:V2 16 ((T+1:Nat):Int)=true:=by simp[V2];omega
 simp only[q0,hW,b5,Int.toNat_natCast];have h5:iter (h0I F) F (0,List.replicate (T+1) (⟨0,0⟩:G1))=some (List.replicate (T+1) (⟨-1,-1⟩:G1)):=by
  have:=R4 (step:=h0I F) (fun k=>((k:Int),List.replicate k (⟨-1,-1⟩:G1)++List.replicate (T+1-k) (⟨0,0⟩:G1))) (List.replicate (T+1) (⟨-1,-1⟩:G1)) (T+1) (fun k hk=>.inl ?_) ?_ (T+1) 0 F (by omega) (by omega)
  ·simpa using this
  ·unfold h0I;have hlen:(List.replicate k (⟨-1,-1⟩:G1)++List.replicate (T+1-k) (⟨0,0⟩:G1)).length=T+1:=by simp;omega
   have J:(k:Int)<((List.replicate k (⟨-1,-1⟩:G1)++List.replicate (T+1-k) (⟨0,0⟩:G1)).length:Int):=by rw[hlen];omega
   simp only[J,decide_true,if_true,R0 (by omega) J,G3 (i:=k) (by omega),Int.toNat_natCast];have k2:(List.replicate k (⟨-1,-1⟩:G1)++List.replicate (T+1-k) (⟨0,0⟩:G1)).set k ⟨-1,-1⟩=List.replicate (k+1) (⟨-1,-1⟩:G1)++List.replicate (T+1-(k+1)) (⟨0,0⟩:G1):=by
    rw[show T+1-k=(T+1-(k+1))+1 by omega,List.replicate_succ,List.set_append_right _ _ (by simp),length_replicate,Nat.sub_self,List.set_cons_zero];rw[show List.replicate (k+1) (⟨-1,-1⟩:G1)=List.replicate k ⟨-1,-1⟩++[⟨-1,-1⟩]from List.replicate_succ'];simp
   rw[k2]
  ·unfold h0I;have J:¬(((T+1:Nat):Int)<((List.replicate (T+1) (⟨-1,-1⟩:G1)++List.replicate (T+1-(T+1)) (⟨0,0⟩:G1)).length:Int)):=by simp
   simp only[q0,J];simp
 rw[h5];obtain⟨r,hr⟩:=y0I t 0 1 i P;have c3:gt (K2 t 0 1 i P) 0=⟨1,(t.top 0:Int),(i:Int),((i+P.wid:Nat):Int)⟩:=by rw[hr];rfl
 have C:((K2 t 0 1 i P).length:Int)>0:=by rw[hr,length_cons];omega
 have c4:B0 (K2 t 0 1 i P) 0=true:=R0 (by omega) (by omega);have a1:B0 (List.replicate (T+1) (⟨-1,-1⟩:G1)) 0=true:=R0 (by omega) (by rw[length_replicate];omega);simp only[q0,C,c4,a1,c3,show(0:Int).toNat=0 from rfl];have o:((List.replicate (T+1) (⟨-1,-1⟩:G1)).set 0 ⟨(i:Int),((i+P.wid:Nat):Int)⟩).length=T+1:=by simp
 generalize hY:(List.replicate (T+1) (⟨-1,-1⟩:G1)).set 0 ⟨(i:Int),((i+P.wid:Nat):Int)⟩=Y at *;have p:=B0T f (l:=l) (d:=1) u.at0;have q:iter (f03 F l (K2 t 0 1 i P)) F (0,Y)=some ((K2 t 0 1 i P).foldl (M7 l) Y):=by
  have:=R4 (step:=f03 F l (K2 t 0 1 i P)) (fun k=>((k:Int),((K2 t 0 1 i P).take k).foldl (M7 l) Y)) ((K2 t 0 1 i P).foldl (M7 l) Y) (K2 t 0 1 i P).length (fun k hk=>.inl ?_) ?_ (K2 t 0 1 i P).length 0 F (by omega) (by omega)
  ·simpa using this
  ·have c5:(K2 t 0 1 i P).take (k+1)=(K2 t 0 1 i P).take k++[gt (K2 t 0 1 i P) (k:Int)]:=by rw[List.take_succ,u6 hk];rfl
   rw[c5,foldl_append];exact y0x hR u y hl (by omega) x hk (p _ (gtm hk)) (by omega) (by rw[i0w];exact o)
  ·unfold f03;simp
 rw[q];simp only[G0,Option.some.injEq];have hv:(O7 l (i:Int)).length=1+2*T:=by rw[k0w];unfold l5;rw[y];omega
 have b3:(r8 l (O7 l (i:Int)) (U3 t 0 i P)).length=1+2*T:=by rw[u0d];exact hv
 unfold a0x;rw[b3,if_neg (by omega),show(1+2*T) / 2=T by omega];have b1:∀(v:List Int) (to:Int) (k g:Nat),g<=k->(R9 v to k)[g]?=some (if g=0 then a0v (gt v 0) to else a0v (pr v g).1 (pr v g).2):=by
  intro v to k
  induction k with
  |zero=>
       intro g hg;obtain rfl:g=0:=by omega
       rfl
  |succ k ih=>
   intro g hg;simp only[R9];rcases lt_or_ge k g with c|c
   ·obtain rfl:g=k+1:=by omega
    rw[List.getElem?_append_right (by rw[e0a];omega),e0a,Nat.sub_self,if_neg (by omega)];unfold pr;rw[show 2*(k+1)-1=2*k+1 by omega,show 2*(k+1)=2*k+2 by omega];rfl
   ·rw[List.getElem?_append_left (by rw[e0a];omega)];exact ih g c
 apply List.ext_getElem?;intro g;rcases lt_or_ge T g with c|c
 ·rw[List.getElem?_eq_none (by rw[i0w,o];omega),List.getElem?_eq_none (by rw[e0a];omega)]
 ·rw[b1 _ _ _ _ c,u6 (by rw[i0w,o];omega)]
  by_cases c0:g=0
  ·subst c0;rw[if_pos rfl];have e0:=t0M hR u y (K2 t 0 1 i P) Y o p;rw[show((0:Nat):Int)=0 from rfl,e0,B05 (T:=T) _ _ hv];have R:gt Y 0=⟨(i:Int),((i+P.wid:Nat):Int)⟩:=by
    rw[<-hY];exact b0d (i:=0) (by simp)
   have e2:gt (O7 l (i:Int)) 0=(i:Int):=by
    unfold O7;exact b0d (i:=0) (by simp;unfold l5;omega)
   rw[R,e2];unfold a0v;rw[if_neg (by omega)]
  ·rw[if_neg c0,w0r hR (show 1<=g by omega) c h9 u.at0 f hv];have R:=C0I (d:=1) hR u y (show 1<=g by omega) c u.at0 f o;have e2:pm (gt Y (g:Int))=(-1,-1):=by
    have:gt Y (g:Int)=⟨-1,-1⟩:=by
     rw[<-hY,V7 (by rw[length_replicate];omega),if_neg c0];exact B4 (by rw[List.getElem?_replicate,if_pos (by omega)])
    rw[this];rfl
   have e3:pr (O7 l (i:Int)) g=(-1,-1):=by
    have h:∀j:Nat,1<=j->j<1+2*T->gt (O7 l (i:Int)) (j:Int)=-1:=fun j h1 h2=>by
     have b4:(l5 l).toNat=1+2*T:=by unfold l5;omega
     unfold O7;rw[b4,V7 (by rw[length_replicate];omega),if_neg (by omega)];exact B4 (by rw[List.getElem?_replicate,if_pos (by omega)])
    unfold pr;rw[h _ (by omega) (by omega),h _ (by omega) (by omega)]
   rw[e2]at R;rw[e3];have I:=v0F (g:=(g:Int)) f (-1,-1) (.inl rfl);rw[<-R]at I ⊢;generalize gt ((K2 t 0 1 i P).foldl (M7 l) Y) (g:Int)=sp at *;obtain⟨x1,U⟩:=sp;have hs:a0v x1 U=⟨x1,U⟩:=by
    have b2:Wh (x1,U):=I;unfold a0v;rcases b2 with h|⟨h,h'⟩
    ·cases h;rfl
    ·simp only at h h';rw[if_neg (by omega)]
   exact congrArg some hs.symm
end
def Fit.more {w v:List Int}{k:Nat}(hk:∀j,j<k->j<w.length->j<v.length/\gt v (j:Int)=gt w (j:Int)){s:Tm}{i:Nat}{P:Pt}(h:Fit w s i P):i+P.wid<=k->Fit v s i P:=by
 induction h with
 |eps=>exact fun _=>.eps
 |@leaf S i h1 h2=>
  intro h;simp only[Pt.wid]at h;obtain⟨f,o⟩:=hk i (by omega) h1;exact .leaf f (by rw[o];exact h2)
 |cat _ _ d i2=>intro h;simp only[Pt.wid]at h;exact .cat (d (by omega)) (i2 (by omega))
 |altL _ c=>exact fun h=>.altL (c h)
 |altR _ c=>exact fun h=>.altR (c h)
 |star0=>exact fun _=>.star0
 |star _ hp _ d i2=>intro h;simp only[Pt.wid]at h;exact .star (d (by omega)) hp (i2 (by omega))
 |maybe0=>exact fun _=>.maybe0
 |maybe _ hp c=>exact fun h=>.maybe (c h) hp
 |group _ c=>exact fun h=>.group (c h)
 |iter _ c=>exact fun h=>.iter (c h)
def Fit.end {w:List Int}{s:Tm}{i:Nat}{P:Pt}(h:Fit w s i P):0<P.wid->i+P.wid<=w.length:=by
 induction h with
 |eps=>intro h;simp[Pt.wid]at h
 |leaf h1 _=>intro _;simp only[Pt.wid];omega
 |@cat _ _ _ x y _ _ i1 i2=>
  intro h;simp only[Pt.wid]at h ⊢
  by_cases c:0<y.wid
  ·have:=i2 c;omega
  ·have:=i1 (by omega);omega
 |altL _ d=>exact d
 |altR _ d=>exact d
 |star0=>intro h;simp[Pt.wid]at h
 |@star _ _ x r _ _ _ i1 i2=>
  intro h;simp only[Pt.wid]at h ⊢
  by_cases c:0<r.wid
  ·have:=i2 c;omega
  ·have:=i1 (by omega);omega
 |maybe0=>intro h;simp[Pt.wid]at h
 |maybe _ _ d=>exact d
 |group _ d=>exact d
 |iter _ d=>exact d
def y0E {w:List Int}{s:Tm}{k:Nat}{P:Pt}(f:Fit w s k P):∀lo d,(K2 s lo d k P).length<=s.size+s.size*s.size*P.wid:=by
 have mono:∀{a b c:Nat},a<=b->a*a*c<=b*b*c:=fun h=>Nat.mul_le_mul_right _ (mul_le_mul h h)
 induction f with
 |eps=>intro lo d;simp[K2,Tm.size]
 |leaf _ _=>intro lo d;simp[K2,Tm.size]
 |@cat a b i x y _ _ i1 i2=>
  intro lo d;have h1:=i1 lo (d+1);have j:=i2 (lo+a.size) (d+1);have m1:=mono (c:=x.wid) (show a.size<=a.size+b.size+1 by omega);have m2:=mono (c:=y.wid) (show b.size<=a.size+b.size+1 by omega);simp only[K2,length_cons,List.length_append,Tm.size,Pt.wid];rw[mul_add ((a.size+b.size+1)*(a.size+b.size+1)) x.wid y.wid];omega
 |@altL a b i x _ ih=>
  intro lo d;have h1:=ih lo (d+1);have m1:=mono (c:=x.wid) (show a.size<=a.size+b.size+1 by omega);simp only[K2,length_cons,Tm.size,Pt.wid];omega
 |@altR a b i x _ ih=>
  intro lo d;have h1:=ih (lo+a.size) (d+1);have m1:=mono (c:=x.wid) (show b.size<=a.size+b.size+1 by omega);simp only[K2,length_cons,Tm.size,Pt.wid];omega
 |star0=>intro lo d;simp[K2,stE,Tm.size,Pt.wid]
 |@star a i x r _ hp _ i1 i2=>
  intro lo d;have h1:=i1 lo (d+1);have j:=i2 lo d;have m1:a.size+a.size*a.size*x.wid<=(a.size+1)*(a.size+1)*x.wid:=by
   have e:(a.size+1)*(a.size+1)*x.wid=a.size*a.size*x.wid+a.size*x.wid+(a.size+1)*x.wid:=by
    rw[show(a.size+1)*(a.size+1)=a.size*a.size+a.size+(a.size+1) by rw[add_mul,mul_add];omega];rw[add_mul,add_mul]
   have:a.size<=a.size*x.wid:=Nat.le_mul_of_pos_right _ hp;omega
  simp only[K2,length_cons,List.length_append,stE,Tm.size,Pt.wid]at j ⊢;rw[mul_add ((a.size+1)*(a.size+1)) x.wid r.wid];omega
 |maybe0=>intro lo d;simp[K2,Tm.size,Pt.wid]
 |@maybe a i x _ _ ih=>
  intro lo d;have h1:=ih lo (d+1);have m1:=mono (c:=x.wid) (show a.size<=a.size+1 by omega);simp only[K2,length_cons,Tm.size,Pt.wid];omega
 |@group m a i x _ ih=>
  intro lo d;have h1:=ih lo (d+1);have m1:=mono (c:=x.wid) (show a.size<=a.size+1 by omega);simp only[K2,length_cons,Tm.size,Pt.wid];omega
 |@iter a i x _ ih=>
  intro lo d;have h1:=ih lo (d+1);have m1:=mono (c:=x.wid) (show a.size<=a.size+1 by omega);simp only[K2,length_cons,Tm.size,Pt.wid];omega
section
variable {F:Nat}{l:List C0}{n:Nat}{a:List y0}{b:Nat->List y0}{e:Nat->y0×Bool}{z:y0×Bool}{t:Tm}{w:List Int}
def z0y (k:O2 l t){w:List Int}(j:w.length<=64){i:Nat}{P:Pt}(f:Fit w t i P):(K2 t 0 1 i P).length<=100000000:=by
 have h:=y0E f 0 1;have d:=k.le;have hw:P.wid<=64:=by
  by_cases c:0<P.wid
  ·have:=f.end c;omega
  ·omega
 have h1:t.size*t.size<=400*400:=mul_le_mul d d;have o:t.size*t.size*P.wid<=400*400*64:=mul_le_mul h1 hw;omega
def E06 (K:H5 l n a b e z F)(hw:∀x∈l,o3 x)(h:O2 l t)(w:List Int):((U8 l z 0).2=t.can)/\(t.can=true->Fit w t 0 (emp t)/\(emp t).wid=0/\Mn w t 0 (emp t)/\(U8 l z 0).1=r8 l (O7 l 0) (U3 t 0 0 (emp t))):=by
 have j:=(m0u K hw h).2;have f:t.steps 0≠[]:=by cases t<;>simp[Tm.steps]
 have d:z.2=t.can/\(t.can=true->z.1.Steps=t.steps 0):=by
  rw[j];cases t.can<;>simp[o8,f]
 unfold U8;cases c:t.can with
 |false=>rw[d.1,c];simp
 |true=>
  rw[d.1,c,d.2 c];refine⟨rfl,fun _=>⟨(F9 c).fit w 0,(F9 c).wid,fun Q h1 i=>o0S (h1.emp (by rw[<-i];exact(F9 c).wid)),?_⟩⟩;rw[o0v 0 0 c,i0c];rfl
end
section
variable {F:Nat}{l:List C0}{n:Nat}{a:List y0}{b:Nat->List y0}{e:Nat->y0×Bool}{z:y0×Bool}{t:Tm}{w:List Int}{m:Nat}{s:Cs}{G:Nat->Nat×Pp}{A B:Nat->Prop}
def G0Y (i:Nat)(H7:List (Nat×Int)):gt (r8 l (O7 l (i:Int)) H7) 0=(i:Int):=by
 have f:=g0o l;obtain⟨T,c⟩:∃T:Nat,o9 l=T:=⟨(o9 l).toNat,by omega⟩
 have d:(O7 l (i:Int)).length=1+2*T:=by rw[k0w];unfold l5;rw[c];omega
 rw[B05 (T:=T) _ _ d];unfold O7;exact b0d (i:=0) (by rw[length_replicate];unfold l5;omega)
def R7.L1 (I:R7 w l n t m s G A B)(c:Nat){A' B':Nat->Prop}(hA:∀i,A i->i<=c->A' i)(hB:∀i,B' i->B i/\i<=c):∃G',R7 w l n t m (s.L1 (c:Int)) G' A' B':=by
 have o:∀k,k<(w0h s.vals (c:Int) s.pl.length).length->(w0h s.vals (c:Int) s.pl.length).getD k 0∈w0h s.vals (c:Int) s.pl.length:=fun k hk=>by
  simp only[List.getD,List.getElem?_eq_getElem hk,Option.getD_some];exact List.getElem_mem hk
 have f:=fun k hk=>F0X (o k hk);have d:∀k,k<s.pl.length->gt (gt s.vals (k:Int)) 0=((G k).1:Int):=fun k hk=>by
  obtain⟨j,_,_,_,_,hv⟩:=I.run k hk;rw[hv];exact G0Y _ _
 have hlen:(s.L1 (c:Int)).pl.length=(w0h s.vals (c:Int) s.pl.length).length:=by simp[Cs.L1]
 have p:∀k,k<(w0h s.vals (c:Int) s.pl.length).length->(s.L1 (c:Int)).pl.getD k 0=s.pl.getD ((w0h s.vals (c:Int) s.pl.length).getD k 0) 0:=fun k hk=>D0e _ hk;refine⟨fun k=>G ((w0h s.vals (c:Int) s.pl.length).getD k 0),fun k hk=>?_,I.at_,F0s I.ok (I0b s.vals (c:Int) s.pl.length) (fun i h=>F0X h),fun k hk=>?_,fun k k' hk r hD=>?_,fun i j Y hj y hY=>?_⟩
 ·rw[hlen]at hk;have h1:=f k hk;have h2:=(List.mem_filter.1 (o k hk)).2;have h3:gt (gt s.vals (((w0h s.vals (c:Int) s.pl.length).getD k 0:Nat):Int)) 0<=(c:Int):=by simpa using h2
  rw[d _ h1]at h3;exact hA _ (I.st0 _ h1) (by omega)
 ·rw[hlen]at hk;obtain⟨j,e1,e2,R,e4,e5⟩:=I.run _ (f k hk);refine⟨j,e1,e2,R,by rw[p k hk];exact e4,?_⟩;have h:gt (s.L1 (c:Int)).vals (k:Int)=gt s.vals (((w0h s.vals (c:Int) s.pl.length).getD k 0:Nat):Int):=p0H (fun i:Nat=>gt s.vals (i:Int)) hk;rw[h];exact e5
 ·rw[hlen]at hk r;exact I.rel _ _ (f k hk) (f k' r) hD
 ·obtain⟨b1,b2⟩:=hB i y;obtain⟨k,C,U,J⟩:=I.cov i j Y hj b1 hY;have v:k∈w0h s.vals (c:Int) s.pl.length:=by
   refine List.mem_filter.2 ⟨List.mem_range.2 C,?_⟩;have:gt (gt s.vals (k:Int)) 0<=(c:Int):=by
    rw[d k C];rcases J with h|⟨h,_⟩
    ·simp only at h;omega
    ·simp only at h;omega
   simpa using this
  obtain⟨q,x,eq⟩:=List.getElem_of_mem v;have u:(w0h s.vals (c:Int) s.pl.length).getD q 0=k:=by simp only[List.getD,List.getElem?_eq_getElem x,Option.getD_some];exact eq
  refine⟨q,by rw[hlen];exact x,by rw[p q x,u];exact U,?_⟩;rw[u];exact J
structure H0U (w:List Int)(l:List C0)(t:Tm)(m:Nat)(tags:List Int)(i c:Nat)(P:Pt):Prop where
 fit:Fit w t i P
 wid:i+P.wid=c
 le:c<=m
 mn:Mn w t i P
 tag:tags=r8 l (O7 l (i:Int)) (U3 t 0 i P)
 all:∀i' Q,Fit w t i' Q->i'+Q.wid<=m->i<i'\/(i=i'/\i'+Q.wid<=c)
structure HsI (w:List Int)(l:List C0)(n:Nat)(t:Tm)(m:Nat)(h:Hs):Prop where
 no:h.is=false->t.can=false/\(∃G,R7 w l n t m h.c G (fun _=>True) (fun _=>True))/\∀i P,Fit w t i P->i+P.wid<=m->False
 yes:h.is=true->∃i c P,h.to=((c:Nat):Int)/\H0U w l t m h.tags i c P/\(t.can=true->i=0)/\∃G,R7 w l n t m h.c G (fun j=>j<=i) (fun j=>j<=i)
def Fit.zero {s:Tm}{i:Nat}{Q:Pt}(h:Fit w s i Q)(c:Q.wid=0):s.can=true:=(h.emp c).can
def K0r (K:H5 l n a b e z F)(hw:∀x∈l,o3 x)(j:O2 l t)(w:List Int):HsI w l n t 0 (Hs.zero l z):=by
 obtain⟨h1,q⟩:=E06 K hw j w;refine⟨fun h=>?_,fun h=>?_⟩
 ·have c:t.can=false:=by rw[<-h1];exact h
  refine⟨c,⟨fun _=>(0,.leaf),.zero _ _ _ _ _ _ _⟩,fun i P f k=>?_⟩;rw[f.zero (by omega)]at c;cases c
 ·have c:t.can=true:=by rw[<-h1];exact h
  obtain⟨p,u,d,o⟩:=q c;exact⟨0,0,emp t,rfl,⟨p,by omega,le_refl _,d,o,fun r Q f k=>.inr ⟨by omega,by omega⟩⟩,fun _=>rfl,fun _=>(0,.leaf),.zero _ _ _ _ _ _ _⟩
def L0T (K:H5 l n a b e z F)(hw:∀x∈l,o3 x)(y:O2 l t){h:Hs}(H:HsI w l n t m h)(b3:h.c.at_=m)(hm:m<w.length):HsI w l n t (m+1) (h.feed l n a b e (gt w (m:Int))):=by
 unfold Hs.feed;have a1:h.R1 l n a b (gt w (m:Int))=h.c.step l n a b (gt w (m:Int)) (h.c.at_==0||!h.is):=rfl;rw[a1];cases v:h.is with
 |false=>
  obtain⟨p,⟨G,I⟩,u⟩:=H.no v;have hb:(h.c.at_==0||!false)=true:=by simp
  rw[hb];obtain⟨G1,I1⟩:=I.step K hw y hm true (A':=fun _=>True) (B':=fun _=>True) (fun _ _=>trivial) (fun _=>trivial) (fun _ _ _=>trivial) (fun _=>rfl);obtain⟨b1,J⟩:=I1.K3 K hw y;cases r:((h.c.step l n a b (gt w (m:Int)) true).K3 l e).2 with
  |false=>
   rw[if_neg (by simp)];refine⟨fun _=>⟨p,⟨G1,I1⟩,fun i P f q=>?_⟩,fun h=>absurd h (by simp)⟩
   by_cases c1:P.wid=0
   ·rw[f.zero c1]at p;cases p
   ·by_cases c2:i+P.wid<=m
    ·exact u i P f c2
    ·exact J r i P trivial f (by omega) (by omega)
  |true=>
   rw[if_pos rfl];refine⟨fun h=>absurd h (by simp),fun _=>?_⟩;obtain⟨k,P,hk,R⟩:=b1 r;have C:gt ((h.c.step l n a b (gt w (m:Int)) true).K3 l e).1 0=((G1 k).1:Int):=by rw[R.tag];exact G0Y _ _
   rw[C];obtain⟨G2,I2⟩:=I1.L1 (G1 k).1 (A':=fun j=>j<=(G1 k).1) (B':=fun j=>j<=(G1 k).1) (fun _ _ h=>h) (fun _ h=>⟨trivial,h⟩);refine⟨(G1 k).1,m+1,P,I1.at_,⟨R.fit,R.wid,le_refl _,fun Q q1 q2=>?_,R.tag,fun d Q f q=>?_⟩,fun h=>(by rw[p]at h;cases h),G2,I2⟩
   ·have:=R.wid;have:=R.pos;rcases R.all _ Q trivial q1 (by omega) (by omega)with h|⟨_,h⟩
    ·omega
    ·exact h
   ·by_cases c1:Q.wid=0
    ·rw[f.zero c1]at p;cases p
    ·by_cases c2:d+Q.wid<=m
     ·exact(u d Q f c2).elim
     ·rcases R.all d Q trivial f (by omega) (by omega)with h|⟨h,_⟩
      ·exact .inl h
      ·exact .inr ⟨h,by omega⟩
 |true=>
  obtain⟨i0,c0,P0,U,Fn,o,G,I⟩:=H.yes v;have hb:(h.c.at_==0||!true)=(m==0):=by rw[b3,Bool.not_true,Bool.or_false,Bool.eq_iff_iff];simp
  rw[hb];have b5:m=0->i0=0:=fun C=>by have:=Fn.wid;have:=Fn.le;omega
  obtain⟨G1,I1⟩:=I.step K hw y hm (m==0) (A':=fun j=>j<=i0) (B':=fun j=>j<=i0) (fun _ h=>h) (fun h=>(show m<=i0 by have b4:m=0:=(by simpa using h);omega)) (fun _ _ h=>h) (fun h=>by
    have:=Fn.wid;have:=Fn.le;have:m=0:=by
     rcases Nat.eq_zero_or_pos m with h|h
     ·exact h
     ·-- what is found began by m
      have hz:P0.wid=0:=by omega
      have:=o (Fn.fit.zero hz);omega
    simp[this])
  obtain⟨b1,J⟩:=I1.K3 K hw y;have old:∀d Q,Fit w t d Q->d+Q.wid<=m+1->Q.wid=0\/i0<d\/(d+Q.wid<=m/\i0=d/\d+Q.wid<=c0)\/(d+Q.wid=m+1/\d<=i0/\0<Q.wid):=fun d Q f q=>by
   by_cases c2:d+Q.wid<=m
   ·rcases Fn.all d Q f c2 with h|⟨h,h'⟩
    ·exact .inr (.inl h)
    ·exact .inr (.inr (.inl ⟨c2,h,h'⟩))
   ·by_cases c3:i0<d
    ·exact .inr (.inl c3)
    ·by_cases c1:Q.wid=0
     ·exact .inl c1
     ·exact .inr (.inr (.inr ⟨by omega,by omega,by omega⟩))
  have c4:c0<=m:=Fn.le;cases r:((h.c.step l n a b (gt w (m:Int)) (m==0)).K3 l e).2 with
  |false=>
   rw[if_neg (by simp)];refine⟨fun h=>absurd h (by simp),fun _=>⟨i0,c0,P0,U,⟨Fn.fit,Fn.wid,by omega,Fn.mn,Fn.tag,fun d Q f q=>?_⟩,o,G1,I1⟩⟩;rcases old d Q f q with h|h|⟨_,h⟩|⟨h1,h2,h3⟩
   ·have hz:=o (f.zero h);have:=Fn.wid;rcases Nat.eq_zero_or_pos d with h4|h4
    ·exact .inr ⟨by omega,by omega⟩
    ·exact .inl (by omega)
   ·exact .inl h
   ·exact .inr h
   ·exact(J r d Q h2 f h1 h3).elim
  |true=>
   rw[if_pos rfl];refine⟨fun h=>absurd h (by simp),fun _=>?_⟩;obtain⟨k,P,hk,R⟩:=b1 r;have hA:(G1 k).1<=i0:=I1.st0 k hk;have C:gt ((h.c.step l n a b (gt w (m:Int)) (m==0)).K3 l e).1 0=((G1 k).1:Int):=by rw[R.tag];exact G0Y _ _
   rw[C];obtain⟨G2,I2⟩:=I1.L1 (G1 k).1 (A':=fun j=>j<=(G1 k).1) (B':=fun j=>j<=(G1 k).1) (fun _ _ h=>h) (fun j h=>⟨by omega,h⟩);refine⟨(G1 k).1,m+1,P,I1.at_,⟨R.fit,R.wid,le_refl _,fun Q q1 q2=>?_,R.tag,fun d Q f q=>?_⟩,fun h=>(by have:=o h;omega),G2,I2⟩
   ·have:=R.wid;have:=R.pos;rcases R.all _ Q hA q1 (by omega) (by omega)with h|⟨_,h⟩
    ·omega
    ·exact h
   ·rcases old d Q f q with h|h|⟨_,h,_⟩|⟨h1,h2,h3⟩
    ·rcases lt_or_ge (G1 k).1 d with h4|h4
     ·exact .inl h4
     ·refine .inr ⟨?_,by omega⟩;have:=o (f.zero h);omega
    ·exact .inl (by omega)
    ·rcases lt_or_ge (G1 k).1 d with h4|h4
     ·exact .inl h4
     ·exact .inr ⟨by omega,by omega⟩
    ·rcases R.all d Q h2 f h1 h3 with h|⟨h,_⟩
     ·exact .inl h
     ·exact .inr ⟨h,by omega⟩
end
