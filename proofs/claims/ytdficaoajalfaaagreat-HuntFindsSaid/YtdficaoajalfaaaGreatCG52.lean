/- P. Its conditions: none. -/
import Derived.Test.YtdficaoajalfaaaGreatCG51
open List (mem_append foldl_cons mem_cons_of_mem any_eq_true foldl_nil foldl_append length_replicate length_cons)
set_option linter.all false
theorem Go.V9 {P:Prop}(h:P:=by simp[Tm.node]):P:=h
namespace Go.Proofs.YtdficaoajalfaaaGreat
open Go.V Go.RowKit Old Go.X
def V7 {α:Type}[Inhabited α]{o:List α}{i j:Nat}{x:α}(h:i<o.length):gt (o.set i x) (j:Int)=if j=i then x else gt o (j:Int):=by
 by_cases c:j=i
 ·subst c;rw[if_pos rfl];exact b0d h
 ·rw[if_neg c];exact X7 (Ne.symm c)
def C5:Tm->Int->Bool
 |.eps,_=>false
 |.leaf _,_=>false
 |.cat a b,g=>C5 a g||C5 b g
 |.alt a b,g=>C5 a g||C5 b g
 |.star a,g=>C5 a g
 |.maybe a,g=>C5 a g
 |.group m a,g=>m==g||C5 a g
 |.iter a,g=>C5 a g
def P9 (g:Int)(y:C0):Bool:=y.Kind==7&&y.N==g
def h0H (g:Int):∀(s:Tm) (lo:Nat),(s.flat lo).any (P9 g)=C5 s g:=by
 intro s
 induction s with
 |eps=>intro lo;rfl
 |leaf S=>intro lo;rfl
 |cat a b c d=>intro lo;simp[Tm.flat,c,d,C5,P9,Tm.node]
 |alt a b c d=>intro lo;simp[Tm.flat,c,d,C5,P9,Tm.node]
 |star a c=>intro lo;simp[Tm.flat,c,C5,P9,Tm.node]
 |maybe a c=>intro lo;simp[Tm.flat,c,C5,P9,Tm.node]
 |group m a c=>intro lo;simp[Tm.flat,c,C5,P9,Tm.node,Bool.or_comm]
 |iter a c=>intro lo;simp[Tm.flat,c,C5,P9,Tm.node]
def s0R {M0:List C0}{g:Nat}(h:g<10):(g:Int)∈c0e M0↔M0.any (P9 (g:Int))=true:=by
 unfold c0e O8;rw[List.mem_map];constructor
 ·rintro⟨n,h1,c⟩
  have:n=g:=O'
  subst this;exact(List.mem_filter.1 h1).2
 ·intro h1;exact⟨g,List.mem_filter.2 ⟨List.mem_range.2 h,h1⟩,rfl⟩
section
variable {l:List C0}{t:Tm}
def n0u (hR:K1 l=true){s:Tm}{lo g:Nat}(h:At l lo s)(hg:g<10):(g:Int)∈Z3 l (s.top lo:Int)↔C5 s (g:Int)=true:=by
 have c:=h.j5;have hp:=s.size_pos;unfold Z3;rw[if_neg O',s0R hg,c0P hR h];have e:I1 l (lo:Int) ((s.top lo:Int)+1)=s.flat lo:=by
  unfold I1;rw[show((s.top lo:Int)+1-(lo:Int)).toNat=s.size from U',Int.toNat_natCast];exact h
 rw[e,h0H]
def le_last {xs:List Int}(h:xs.Pairwise (· < ·)){x:Int}(d:x∈xs):x<=xs.getLast?.getD 0:=by
 cases c:xs.getLast? with
 |none=>rw[List.getLast?_eq_none_iff]at c;subst c;simp at d
 |some y=>
  obtain⟨ys,rfl⟩:=List.getLast?_eq_some_iff.1 c;rcases mem_append.1 d with h1|h1
  ·have:=(List.pairwise_append.1 h).2.2 x h1 y Z9;simp only[Option.getD_some];omega
  ·simp only[List.mem_singleton]at h1;subst h1;simp
def o04 (hR:K1 l=true)(d:O2 l t){g:Int}(h:C5 t g=true)(h1:1<=g)(f:g<=9):g<=o9 l:=by
 obtain⟨k,rfl⟩:∃k:Nat,g=(k:Int):=⟨g.toNat,O'⟩
 have:=(n0u hR d.at0 (g:=k) O').2 h;have c:((t.top 0:Nat):Int)=(l.length:Int)-1:=by have:=t.size_pos;have:=d.len;unfold Tm.top;omega
 rw[c]at this;refine le_last ?_ this;unfold Z3;split
 ·exact List.Pairwise.nil
 ·unfold c0e O8;rw[List.pairwise_map];exact(List.Pairwise.filter _ List.pairwise_lt_range).imp fun h=>O'
def Ng:Tm->Prop
 |.eps=>True|.leaf _=>True|.cat a b=>Ng a/\Ng b|.alt a b=>Ng a/\Ng b
 |.star a=>Ng a|.maybe a=>Ng a|.group m a=>1<=m/\m<=9/\C5 a m=false/\Ng a|.iter a=>Ng a
def s0u:∀{n:Nat} {a:List Int},T4 l n=some a->∀j,j<n->∃b,K6 l b j=true/\gt a (j:Int)=L3 l b j
 |0,a,h,j,f=>O'
 |n+1,a,h,j,f=>by
  simp only[T4]at h;split at h
  ·cases h
  ·rename_i b d;split at h
   ·rename_i hg;cases h;have hl:=(b0U d).len
    by_cases e:j=n
    ·subst e;exact⟨b,hg,c08 hl.symm⟩
    ·obtain⟨c,h1,i⟩:=s0u d j O';exact⟨c,h1,by rw[b0u O' O'];exact i⟩
   ·cases h
def y00 (hR:K1 l=true){s:Tm}{lo:Nat}(h:At l lo s):∃b,K6 l b (s.top lo)=true/\L3 l b (s.top lo)=lo:=by
 have k:=h.j5;have d:=c0P hR h;have c:=hR;unfold K1 at c;unfold P4 at c d;cases e:T4 l l.length with
 |none=>rw[e]at c;simp at c
 |some a=>
  rw[e]at c d;dsimp only at c d;split at d
  ·rename_i j;rw[if_pos j]at c;simp at c
  ·obtain⟨b,f,i⟩:=s0u e (s.top lo) k;exact⟨b,f,by rw[<-i];exact d⟩
def t0c (hR:K1 l=true):∀(s:Tm) (lo:Nat),At l lo s->Ng s:=by
 intro s
 induction s with
 |eps=>intro lo _;trivial
 |leaf S=>intro lo _;trivial
 |cat a b c j=>intro lo h;obtain⟨h1,f,_⟩:=(At.bin (t:=.cat a b) rfl rfl).1 h;exact⟨c _ h1,j _ f⟩
 |alt a b c j=>intro lo h;obtain⟨h1,f,_⟩:=(At.bin (t:=.alt a b) rfl rfl).1 h;exact⟨c _ h1,j _ f⟩
 |star a c=>intro lo h;exact c _ ((At.un (t:=.star a) rfl rfl).1 h).1
 |maybe a c=>intro lo h;exact c _ ((At.un (t:=.maybe a) rfl rfl).1 h).1
 |group m a c=>
  intro lo h;have ha:=((At.un (t:=.group m a) rfl rfl).1 h).1;obtain⟨b,d,p⟩:=y00 hR h;have hg:=h.D2;unfold K6 at d;rw[hg,p,Int.toNat_natCast]at d;simp only[Bool.and_eq_true,Bool.not_eq_true',decide_eq_true_eq]at d;obtain⟨⟨_,k⟩,i⟩:=d;have e:M8 l lo (Tm.top (.group m a) lo)=a.flat lo:=by
   unfold M8;rw[show Tm.top (.group m a) lo-lo=a.size from J'];exact ha
  unfold a0O at i;rw[e]at i;have o:(a.flat lo).any (P9 m)=false:=by simpa[Tm.node,P9]using i
  rw[h0H]at o;simp only[T8,Tm.node,beq_self_eq_true,if_true,Bool.and_eq_true,decide_eq_true_eq]at k;exact⟨of_decide_eq_true k.2.1,of_decide_eq_true k.2.2,o,c _ ha⟩
 |iter a c=>intro lo h;exact c _ ((At.un (t:=.iter a) rfl rfl).1 h).1
end
def stG (F:Nat->Pt->Int×Int->Int×Int):Nat->Pt->Int×Int->Int×Int
 |k,.two x r,c=>stG F (k+x.wid) r (F k x c)
 |_,_,c=>c
def E4 (g:Int):Tm->Nat->Pt->Int×Int->Int×Int
 |.cat a b,k,.two x y,c=>E4 g b (k+x.wid) y (E4 g a k x c)
 |.alt a _,k,.one x,c=>E4 g a k x c
 |.alt _ b,k,.other x,c=>E4 g b k x c
 |.star a,k,P,c=>stG (fun k x c=>E4 g a k x c) k P c
 |.maybe a,k,.one x,c=>E4 g a k x c
 |.group m a,k,.one x,c=>if m=g then((k:Int),((k+x.wid:Nat):Int))else E4 g a k x c
 |.iter a,k,.one x,c=>E4 g a k x (if C5 a g=true then(-1,-1)else c)
 |_,_,_,c=>c
def p0u {w:List Int}{g:Int}{s:Tm}{k:Nat}{P:Pt}(h:Fit w s k P):∀c,C5 s g=false->E4 g s k P c=c:=by
 induction h with
 |eps=>intro c _;rfl
 |leaf _ _=>intro c _;rfl
 |cat _ _ i1 i2=>
  intro c h;simp only[C5,Bool.or_eq_false_iff]at h;simp only[E4,i1 c h.1,i2 c h.2]
 |altL _ d=>intro c h;simp only[C5,Bool.or_eq_false_iff]at h;exact d c h.1
 |altR _ d=>intro c h;simp only[C5,Bool.or_eq_false_iff]at h;exact d c h.2
 |star0=>intro c _;rfl
 |star _ _ _ i1 i2=>
  intro c h;have h1:=i1 c h;have f:=i2 c h;simp only[E4]at f;simp only[E4,stG,h1,f]
 |maybe0=>intro c _;rfl
 |maybe _ _ d=>intro c h;exact d c h
 |group _ d=>
  intro c h;simp only[C5,Bool.or_eq_false_iff,beq_eq_false_iff_ne]at h;simp only[E4,if_neg h.1,d c h.2]
 |iter _ d=>
  intro c h;simp only[C5]at h;simp only[E4,h,Bool.false_eq_true,if_false];exact d _ h
def Wh (c:Int×Int):Prop:=c=(-1,-1)\/(0<=c.1/\0<=c.2)
def v0F {w:List Int}{g:Int}{s:Tm}{k:Nat}{P:Pt}(h:Fit w s k P):∀c,Wh c->Wh (E4 g s k P c):=by
 induction h with
 |eps=>intro c h;exact h
 |leaf _ _=>intro c h;exact h
 |cat _ _ f i2=>intro c h;exact i2 _ (f _ h)
 |altL _ d=>intro c h;exact d _ h
 |altR _ d=>intro c h;exact d _ h
 |star0=>intro c h;exact h
 |star _ _ _ f i2=>intro c h;exact i2 _ (f _ h)
 |maybe0=>intro c h;exact h
 |maybe _ _ d=>intro c h;exact d _ h
 |group _ d=>
  intro c h;simp only[E4];split
  ·exact .inr ⟨by simp only;omega,by simp only;omega⟩
  ·exact d _ h
 |iter _ d=>
  intro c h;simp only[E4];refine d _ ?_;split
  ·exact .inl rfl
  ·exact h
def pr (v:List Int)(g:Nat):Int×Int:=(gt v ((2*g-1:Nat):Int),gt v ((2*g:Nat):Int))
section
variable {l:List C0}{t:Tm}{T g:Nat}
def j0m (k:Int)(v:List Int)(ms:List G2):(S6 k (-1) v ms).length=v.length:=h0s ..
def o0Q {k:Int}{v:List Int}(m:v.length=1+2*T)(h1:1<=g)(p:g<=T)(K G:Int)(h:K=1\/K=2\/K=3):
  pr (o5 k (-1) v ⟨K,G⟩) g=if G=(g:Int)then(if K=1 then(k,(pr v g).2)else if K=2 then((pr v g).1,k)else(-1,-1))else pr v g:=by
 unfold o5;simp only;have i:((v.length:Int)-1) / 2=T:=by rw[m];omega
 rw[i]
 by_cases c:G<1\/(T:Int)<G
 ·rw[if_pos c,if_neg (show ¬G=(g:Int) from O')]
 ·rw[if_neg c];obtain⟨d,rfl⟩:∃n:Nat,G=(n:Int):=⟨G.toNat,O'⟩
  have o:(2*(d:Int)-1).toNat=2*d-1:=O'
  have j:(2*(d:Int)).toNat=2*d:=O'
  rw[o,j];have f:2*d-1<v.length:=O'
  have i2:2*d<v.length:=O'
  have i3:∀x:Int,2*d<(v.set (2*d-1) x).length:=fun x=>by simpa using i2
  unfold pr
  by_cases e:d=g
  ·subst e;rw[if_pos rfl];rcases h with rfl|rfl|rfl
   ·simp only[if_true];rw[V7 f,V7 f,if_pos rfl,if_neg O']
   ·simp only[show ¬(2:Int)=1 from O',if_false,if_true];rw[V7 i2,V7 i2,if_neg O',if_pos rfl]
   ·simp only[show ¬(3:Int)=1 from O',show ¬(3:Int)=2 from O',if_false,if_true];rw[V7 (i3 _),V7 (i3 _),V7 f,if_neg O',if_pos rfl,if_pos rfl]
  ·rw[if_neg (show ¬(d:Int)=(g:Int) from O')];rcases h with rfl|rfl|rfl
   ·simp only[if_true];rw[V7 f,V7 f,if_neg O',if_neg O']
   ·simp only[show ¬(2:Int)=1 from O',if_false,if_true];rw[V7 i2,V7 i2,if_neg O',if_neg O']
   ·simp only[show ¬(3:Int)=1 from O',show ¬(3:Int)=2 from O',if_false,if_true];rw[V7 (i3 _),V7 (i3 _),V7 f,V7 f,if_neg O',if_neg O',if_neg O',if_neg O']
def E0e (k:Int){v:List Int}(f:v.length=1+2*T)(m:G2):gt (o5 k (-1) v m) 0=gt v 0:=by
 unfold o5;have d:∀(o:List Int) (i:Nat) (x:Int),1<=i->gt (o.set i x) 0=gt o 0:=fun o i x h=>X7 (j:=0) O';split
 ·rfl
 ·rename_i c;split
  ·exact d _ _ _ O'
  ·split
   ·exact d _ _ _ O'
   ·split
    ·rw[d _ _ _ O',d _ _ _ O']
    ·rfl
def u0d (H7:List (Nat×Int)):∀v,(r8 l v H7).length=v.length:=by
 induction H7 with
 |nil=>intro v;rfl
 |cons e r c=>intro v;exact(c _).trans (j0m _ _ _)
def B05 (H7:List (Nat×Int)):∀v,v.length=1+2*T->gt (r8 l v H7) 0=gt v 0:=by
 have one:∀(ms:List G2) (k:Int) (v:List Int),v.length=1+2*T->gt (S6 k (-1) v ms) 0=gt v 0:=by
  intro ms
  induction ms with
  |nil=>intro k v _;rfl
  |cons m r c=>intro k v h;exact(c k _ (by rw[m0K];exact h)).trans (E0e k h m)
 induction H7 with
 |nil=>intro v _;rfl
 |cons e r c=>intro v h;exact(c _ (by rw[j0m];exact h)).trans (one _ _ v h)
def b0D (k:Nat)(x:Int)(r:List (Nat×Int))(v:List Int):r8 l v ((k,x) :: r)=r8 l (S6 (k:Int) (-1) v (N4 l [x])) r:=rfl
def o0o (q:Nat)(c:q<l.length):N9 l (O0 q)=if(gt l (q:Int)).Kind=7 then[⟨1,(gt l (q:Int)).N⟩]else if(gt l (q:Int)).Kind=8 then(Z3 l (q:Int)).map fun g=>⟨3,g⟩else[]:=by
 unfold N9 O0;rw[show 2*(q:Int) / 2=q from O',show 2*(q:Int) % 2=0 from O',if_neg O'];simp
def m0X (q:Nat)(c:q<l.length):N9 l (cls q)=if(gt l (q:Int)).Kind=7 then[⟨2,(gt l (q:Int)).N⟩]else[]:=by
 unfold N9 cls;rw[show(2*(q:Int)+1) / 2=q from O',show(2*(q:Int)+1) % 2=1 from O',if_neg O'];simp
def f0T (x:Int):N4 l [x]=N9 l x:=by simp[N4]
def x0B (k:Int)(v:List Int):S6 k (-1) v []=v:=rfl
def r0C {k:Int}(h1:1<=g)(d:g<=T):∀(gs:List Int) (v:List Int),v.length=1+2*T->pr (S6 k (-1) v (gs.map fun g=>⟨3,g⟩)) g=if(g:Int)∈gs then(-1,-1)else pr v g
 |[],v,_=>by simp[S6]
 |x :: r,v,hv=>by
  have h:=r0C (k:=k) h1 d r (o5 k (-1) v ⟨3,x⟩) (by rw[m0K];exact hv);have e:pr (o5 k (-1) v ⟨3,x⟩) g=if x=(g:Int)then(-1,-1)else pr v g:=o0Q (k:=k) hv h1 d 3 x (.inr (.inr rfl));unfold S6 at h ⊢;rw[List.map_cons,foldl_cons,h,e]
  by_cases c:(g:Int)∈r
  ·rw[if_pos c,if_pos (mem_cons_of_mem _ c)]
  ·rw[if_neg c]
   by_cases c2:x=(g:Int)
   ·rw[if_pos c2,if_pos (show(g:Int)∈x :: r by rw[c2];simp)]
   ·rw[if_neg c2,if_neg (show ¬(g:Int)∈x :: r by simp[c];omega)]
def f06 {s:Tm}{lo:Nat}(h:At l lo s)(c:(s.node lo).Kind≠7)(d:(s.node lo).Kind≠8)(k:Int)(v:List Int):S6 k (-1) v (N4 l [O0 (s.top lo)])=v/\S6 k (-1) v (N4 l [cls (s.top lo)])=v:=by
 rw[f0T,f0T,o0o _ h.j5,m0X _ h.j5,h.D2,if_neg c,if_neg d,if_neg c];exact⟨rfl,rfl⟩
def w0r (hR:K1 l=true)(h1:1<=g)(u:g<=T)(R:T<=9){w:List Int}:∀{s:Tm} {lo k:Nat} {P:Pt} {v:List Int},At l lo s->Fit w s k P->v.length=1+2*T->pr (r8 l v (U3 s lo k P)) g=E4 (g:Int) s k P (pr v g):=by
 intro s;have C:∀{H7:List (Nat×Int)} {v:List Int},v.length=1+2*T->(r8 l v H7).length=1+2*T:=fun h=>by rw[u0d];exact h
 have nil:∀v:List Int,r8 l v []=v:=fun _=>rfl
 induction s with
 |eps=>
  intro lo k P v h f d;cases f;have e:Tm.top .eps lo=lo:=by simp[Tm.top,Tm.size]
  have p:=fun k v=>f06 h V9 V9 k v;rw[e]at p;simp only[U3,b0D,(p _ _).1,(p _ _).2,nil,E4]
 |leaf S=>
  intro lo k P v h f d;cases f;have e:Tm.top (.leaf S) lo=lo:=by simp[Tm.top,Tm.size]
  have p:=fun k v=>f06 h V9 V9 k v;rw[e]at p;simp only[U3,b0D,(p _ _).1,(p _ _).2,nil,E4]
 |cat a b ia ib=>
  intro lo k P v h f d;cases f with | @cat _ _ _ x y f1 f2=>
  obtain⟨ha,j,_⟩:=(At.bin (t:=.cat a b) rfl rfl).1 h;have p:=fun k v=>f06 h V9 V9 k v;simp only[U3,b0D,b0i,(p _ _).1,(p _ _).2,nil,E4];rw[ib j f2 (C d),ia ha f1 d]
 |alt a b ia ib=>
  intro lo k P v h f d;obtain⟨ha,j,_⟩:=(At.bin (t:=.alt a b) rfl rfl).1 h;have p:=fun k v=>f06 h V9 V9 k v;cases f with
  |altL f=>
   simp only[U3,b0D,b0i,(p _ _).1,(p _ _).2,nil,E4];exact ia ha f d
  |altR f=>
   simp only[U3,b0D,b0i,(p _ _).1,(p _ _).2,nil,E4];exact ib j f d
 |star a ia=>
  intro lo k P v h f d;have ha:=((At.un (t:=.star a) rfl rfl).1 h).1;have p:=fun k v=>f06 h V9 V9 k v;simp only[U3,b0D,b0i,(p _ _).1,(p _ _).2,nil,E4];have key:∀(P:Pt) (k:Nat) (v:List Int),Fit w (.star a) k P->v.length=1+2*T->pr (r8 l v (stw (fun k x=>U3 a lo k x) k P)) g=stG (fun k x c=>E4 (g:Int) a k x c) k P (pr v g):=by
   intro P
   induction P with
   |nil=>intro k v _ _;rfl
   |byte=>intro k v f _;cases f
   |one x _=>intro k v f _;cases f
   |other x _=>intro k v f _;cases f
   |two x r _ ir=>
    intro k v f d;cases f with|star f1 _ f2=>
    simp only[stw,stG,b0i];rw[ir _ _ f2 (C d),ia ha f1 d]
  exact key P k v f d
 |maybe a ia=>
  intro lo k P v h f d;have ha:=((At.un (t:=.maybe a) rfl rfl).1 h).1;have p:=fun k v=>f06 h V9 V9 k v;cases f with
  |maybe0=>simp only[U3,b0D,b0i,(p _ _).1,(p _ _).2,nil,E4]
  |maybe f=>
   simp only[U3,b0D,b0i,(p _ _).1,(p _ _).2,nil,E4];exact ia ha f d
 |group m a ia=>
  intro lo k P v h f d;have ha:=((At.un (t:=.group m a) rfl rfl).1 h).1;have hn:=t0c hR _ _ h;cases f with | @group _ _ _ x f=>
  have o:N4 l [O0 (Tm.top (.group m a) lo)]=[⟨1,m⟩]:=by rw[f0T,o0o _ h.j5,h.D2];rfl
  have q:N4 l [cls (Tm.top (.group m a) lo)]=[⟨2,m⟩]:=by rw[f0T,m0X _ h.j5,h.D2];rfl
  have J:∀(k:Int) (v:List Int),v.length=1+2*T->pr (S6 k (-1) v [⟨1,m⟩]) g=if m=(g:Int)then(k,(pr v g).2)else pr v g:=fun k v d=>o0Q d h1 u 1 m (.inl rfl);have I:∀(k:Int) (v:List Int),v.length=1+2*T->pr (S6 k (-1) v [⟨2,m⟩]) g=if m=(g:Int)then((pr v g).1,k)else pr v g:=fun k v d=>o0Q d h1 u 2 m (.inr (.inl rfl));have i:(S6 (k:Int) (-1) v [⟨1,m⟩]).length=1+2*T:=by rw[j0m];exact d
  simp only[U3,b0D,b0i,nil,E4,o,q];rw[I _ _ (C i),ia ha f i,J _ _ d]
  by_cases c:m=(g:Int)
  ·rw[if_pos c,if_pos c,if_pos c,p0u f _ (by rw[<-c];exact hn.2.2.1)];simp only[Pt.wid]
  ·rw[if_neg c,if_neg c,if_neg c]
 |iter a ia=>
  intro lo k P v h f d;have ha:=((At.un (t:=.iter a) rfl rfl).1 h).1;cases f with | @iter _ _ x f=>
  have o:N4 l [O0 (Tm.top (.iter a) lo)]=(Z3 l (Tm.top (.iter a) lo:Int)).map fun g=>⟨3,g⟩:=by rw[f0T,o0o _ h.j5,h.D2];rfl
  have q:N4 l [cls (Tm.top (.iter a) lo)]=[]:=by rw[f0T,m0X _ h.j5,h.D2];rfl
  have hg:=n0u hR h (g:=g) O';simp only[C5]at hg;simp only[U3,b0D,b0i,nil,E4,o,q,x0B];rw[ia ha f (by rw[j0m];exact d),r0C h1 u _ _ d];congr 1
  by_cases c:C5 a (g:Int)=true
  ·rw[if_pos c,if_pos (hg.2 c)]
  ·rw[if_neg c,if_neg (fun h=>c (hg.1 h))]
end
def Y7 (y:List G1)(gs:List Int):List G1:=gs.foldl (fun y g=>y.set g.toNat ⟨-1,-1⟩) y
def M7 (l:List C0)(y:List G1)(e:Z1):List G1:=
 if(gt l e.Node).Kind=8 then Y7 (if(gt l e.Node).Kind=7 then y.set (gt l e.Node).N.toNat ⟨e.From,e.To⟩else y) (Z3 l e.Node)
 else if(gt l e.Node).Kind=7 then y.set (gt l e.Node).N.toNat ⟨e.From,e.To⟩else y
def k0g:∀(gs:List Int) (y:List G1),(Y7 y gs).length=y.length
 |[],y=>rfl
 |g :: r,y=>by unfold Y7;rw[foldl_cons];exact(k0g r _).trans Z9
def q08 (l:List C0)(y:List G1)(e:Z1):(M7 l y e).length=y.length:=by
 unfold M7;split
 ·rw[k0g];split<;>simp
 ·split<;>simp
def i0w (l:List C0)(es:List Z1):∀y,(es.foldl (M7 l) y).length=y.length:=by
 induction es with
 |nil=>intro y;rfl
 |cons e r c=>intro y;exact(c _).trans (q08 l y e)
def pm (x:G1):Int×Int:=(x.From,x.To)
section
variable {l:List C0}{t:Tm}{T g:Nat}{F:Nat}
def t0S {g:Nat}:∀(gs:List Int) (y:List G1),(∀x∈gs,0<=x/\x<y.length)->pm (gt (Y7 y gs) (g:Int))=if(g:Int)∈gs then(-1,-1)else pm (gt y (g:Int))
 |[],y,_=>by simp[Y7]
 |x :: r,y,h=>by
  have i:=h x Z9;have d:=t0S (g:=g) r (y.set x.toNat ⟨-1,-1⟩) (fun z f=>by rw[List.length_set];exact h z (mem_cons_of_mem _ f));have e:Y7 y (x :: r)=Y7 (y.set x.toNat ⟨-1,-1⟩) r:=rfl;rw[e,d,V7 O']
  by_cases c:(g:Int)∈r
  ·rw[if_pos c,if_pos (mem_cons_of_mem _ c)]
  ·rw[if_neg c]
   by_cases c2:g=x.toNat
   ·rw[if_pos c2,if_pos (show(g:Int)∈x :: r by rw[show(g:Int)=x from O'];simp)];rfl
   ·rw[if_neg c2,if_neg (show ¬(g:Int)∈x :: r by simp[c];omega)]
def l0T (hR:K1 l=true)(f:O2 l t)(o:o9 l=T){q x:Int}(h:x∈Z3 l q):1<=x/\x<=T:=by
 have r:=r0v h;obtain⟨k,rfl⟩:∃k:Nat,x=(k:Int):=⟨x.toNat,O'⟩
 have j:=a0M hR;have c:∃y∈l,P9 (k:Int) y=true:=by
  unfold Z3 at h;split at h
  ·cases h
  ·rw[s0R O',any_eq_true]at h;obtain⟨y,h1,d⟩:=h;exact⟨y,List.mem_of_mem_drop (List.mem_of_mem_take h1),d⟩
 obtain⟨y,h1,d⟩:=c;have m:y.Kind=7/\y.N=(k:Int):=by simpa[P9]using d
 have p:=j.grp y h1 m.1;have i:C5 t (k:Int)=true:=by
  rw[<-h0H (k:Int) t 0,<-f.eq,any_eq_true];exact⟨y,h1,d⟩
 have:=o04 hR f i O' O';omega
def d0y {s:Tm}{lo:Nat}(h:At l lo s)(f:(s.node lo).Kind≠7)(c:(s.node lo).Kind≠8)(d a b:Int)(y:List G1):M7 l y ⟨d,(s.top lo:Int),a,b⟩=y:=by
 unfold M7;simp only[h.D2,if_neg f,if_neg c]
def C0I (hR:K1 l=true)(q:O2 l t)(C:o9 l=T)(h1:1<=g)(U:g<=T){w:List Int}:∀{s:Tm} {lo d k:Nat} {P:Pt} {y:List G1},At l lo s->Fit w s k P->y.length=T+1->pm (gt ((K2 s lo d k P).foldl (M7 l) y) (g:Int))=E4 (g:Int) s k P (pm (gt y (g:Int))):=by
 have h9:T<=9:=by have:=g0o l;omega
 intro s;have v:∀{es:List Z1} {y:List G1},y.length=T+1->(es.foldl (M7 l) y).length=T+1:=fun h=>by rw[i0w];exact h
 induction s with
 |eps=>
  intro lo d k P y h f i;cases f;simp only[K2,foldl_cons,foldl_nil,E4,d0y h V9 V9]
 |leaf S=>
  intro lo d k P y h f i;cases f;simp only[K2,foldl_cons,foldl_nil,E4,d0y h V9 V9]
 |cat a b ia ib=>
  intro lo d k P y h f i;cases f with | @cat _ _ _ x x' f1 f2=>
  obtain⟨ha,p,_⟩:=(At.bin (t:=.cat a b) rfl rfl).1 h;simp only[K2,foldl_cons,foldl_append,E4,d0y h V9 V9];rw[ib p f2 (v i),ia ha f1 i]
 |alt a b ia ib=>
  intro lo d k P y h f i;obtain⟨ha,p,_⟩:=(At.bin (t:=.alt a b) rfl rfl).1 h;cases f with
  |altL f=>
   simp only[K2,foldl_cons,E4,d0y h V9 V9];exact ia ha f i
  |altR f=>
   simp only[K2,foldl_cons,E4,d0y h V9 V9];exact ib p f i
 |star a ia=>
  intro lo d k P y h f i;have ha:=((At.un (t:=.star a) rfl rfl).1 h).1;simp only[K2,foldl_cons,E4,d0y h V9 V9];have key:∀(P:Pt) (k:Nat) (y:List G1),Fit w (.star a) k P->y.length=T+1->pm (gt ((stE (fun k x=>K2 a lo (d+1) k x) k P).foldl (M7 l) y) (g:Int))=stG (fun k x c=>E4 (g:Int) a k x c) k P (pm (gt y (g:Int))):=by
   intro P
   induction P with
   |nil=>intro k y _ _;rfl
   |byte=>intro k y f _;cases f
   |one x _=>intro k y f _;cases f
   |other x _=>intro k y f _;cases f
   |two x r _ ir=>
    intro k y f i;cases f with|star f1 _ f2=>
    simp only[stE,stG,foldl_append];rw[ir _ _ f2 (v i),ia ha f1 i]
  exact key P k y f i
 |maybe a ia=>
  intro lo d k P y h f i;have ha:=((At.un (t:=.maybe a) rfl rfl).1 h).1;cases f with
  |maybe0=>simp only[K2,foldl_cons,foldl_nil,E4,d0y h V9 V9]
  |maybe f=>
   simp only[K2,foldl_cons,E4,d0y h V9 V9];exact ia ha f i
 |group m a ia=>
  intro lo d k P y h f i;have ha:=((At.un (t:=.group m a) rfl rfl).1 h).1;have hn:=t0c hR _ _ h;cases f with | @group _ _ _ x f=>
  have e:∀o j b',M7 l y ⟨o,(Tm.top (.group m a) lo:Int),j,b'⟩=y.set m.toNat ⟨j,b'⟩:=fun o j b'=>by
   unfold M7;simp only[h.D2,Tm.node];simp
  have u:C5 t m=true:=by
   have I:(gt l (Tm.top (.group m a) lo:Int))∈l:=gtm h.j5;rw[<-h0H m t 0,<-q.eq,any_eq_true];exact⟨_,I,by rw[h.D2];simp[P9,Tm.node]⟩
  have hm:=o04 hR q u hn.1 hn.2.1;simp only[K2,foldl_cons,E4,e];rw[ia ha f (by simpa using i),V7 O'];have J:=hn.1
  by_cases c:m=(g:Int)
  ·rw[if_pos O',if_pos c,p0u f _ (by rw[<-c];exact hn.2.2.1)];simp only[pm,Pt.wid]
  ·rw[if_neg O',if_neg c]
 |iter a ia=>
  intro lo d k P y h f i;have ha:=((At.un (t:=.iter a) rfl rfl).1 h).1;cases f with | @iter _ _ x f=>
  have e:∀o j b',M7 l y ⟨o,(Tm.top (.iter a) lo:Int),j,b'⟩=Y7 y (Z3 l (Tm.top (.iter a) lo:Int)):=fun o j b'=>by
   unfold M7;simp only[h.D2,Tm.node];simp
  have hg:=n0u hR h (g:=g) O';simp only[C5]at hg;simp only[K2,foldl_cons,E4,e];rw[ia ha f (by rw[k0g];exact i),t0S _ _ (fun x R=>by have:=l0T hR q C R;omega)];congr 1
  by_cases c:C5 a (g:Int)=true
  ·rw[if_pos c,if_pos (hg.2 c)]
  ·rw[if_neg c,if_neg (fun h=>c (hg.1 h))]
def t0M (hR:K1 l=true)(k:O2 l t)(i:o9 l=T):∀(es:List Z1) (y:List G1),y.length=T+1->(∀e∈es,0<=e.Node/\e.Node<(l.length:Int))->gt (es.foldl (M7 l) y) 0=gt y 0
 |[],y,_,_=>rfl
 |e :: r,y,hy,h=>by
  rw[foldl_cons,t0M hR k i r _ (by rw[q08];exact hy) (fun e he=>h e (mem_cons_of_mem _ he))];have p:=a0M hR;obtain⟨q,u⟩:∃q:Nat,e.Node=(q:Int):=⟨e.Node.toNat,by have:=h e Z9;omega⟩
  have d:q<l.length:=by have:=h e Z9;omega
  have m:(gt l e.Node).Kind=7->gt (y.set (gt l e.Node).N.toNat ⟨e.From,e.To⟩) 0=gt y 0:=fun c=>by
   have:=(p.grp _ (by rw[u];exact gtm d) c).1;exact X7 (j:=0) O'
  have s:∀(gs:List Int) (y:List G1),(∀x∈gs,1<=x)->gt (Y7 y gs) 0=gt y 0:=by
   intro gs
   induction gs with
   |nil=>intro y _;rfl
   |cons x r ih=>
    intro y h;have f:=h x Z9;have e:Y7 y (x :: r)=Y7 (y.set x.toNat ⟨-1,-1⟩) r:=rfl;rw[e,ih _ (fun z o=>h z (mem_cons_of_mem _ o))];exact X7 (j:=0) O'
  unfold M7;split
  ·rw[s _ _ (fun x f=>(l0T hR k i f).1)];split
   ·rename_i c;exact m c
   ·rfl
  ·split
   ·rename_i c;exact m c
   ·rfl
def B0T {w:List Int}{s:Tm}{k:Nat}{P:Pt}(f:Fit w s k P):∀{lo d:Nat},At l lo s->∀e∈K2 s lo d k P,0<=e.Node/\e.Node<(l.length:Int):=by
 have top:∀{s:Tm} {lo:Nat},At l lo s->∀d a b:Int,∀r:List Z1,(∀e∈r,0<=e.Node/\e.Node<(l.length:Int))->∀e∈(⟨d,(s.top lo:Int),a,b⟩:Z1) :: r,0<=e.Node/\e.Node<(l.length:Int):=by
  intro s lo h d a b r j e he;rcases List.mem_cons.1 he with rfl|he
  ·have:=h.j5;simp only;omega
  ·exact j e he
 have no:∀e∈([]:List Z1),0<=e.Node/\e.Node<(l.length:Int):=by intro e he;simp at he
 induction f with
 |eps=>intro lo d h;exact top h _ _ _ _ no
 |leaf _ _=>intro lo d h;exact top h _ _ _ _ no
 |@cat a b _ _ _ _ _ i1 i2=>
  intro lo d h;obtain⟨ha,i,_⟩:=(At.bin (t:=.cat a b) rfl rfl).1 h;refine top h _ _ _ _ fun e he=>?_;rcases mem_append.1 he with he|he
  ·exact i1 ha e he
  ·exact i2 i e he
 |@altL a b _ _ _ c=>intro lo d h;exact top h _ _ _ _ (c ((At.bin (t:=.alt a b) rfl rfl).1 h).1)
 |@altR a b _ _ _ c=>intro lo d h;exact top h _ _ _ _ (c ((At.bin (t:=.alt a b) rfl rfl).1 h).2.1)
 |star0=>intro lo d h;exact top h _ _ _ _ no
 |@star a _ _ _ _ _ _ i1 i2=>
  intro lo d h;refine top h _ _ _ _ fun e he=>?_;rcases mem_append.1 he with he|he
  ·exact i1 ((At.un (t:=.star a) rfl rfl).1 h).1 e he
  ·exact i2 h e (mem_cons_of_mem _ he)
 |maybe0=>intro lo d h;exact top h _ _ _ _ no
 |@maybe a _ _ _ _ c=>intro lo d h;exact top h _ _ _ _ (c ((At.un (t:=.maybe a) rfl rfl).1 h).1)
 |@group m a _ _ _ c=>intro lo d h;exact top h _ _ _ _ (c ((At.un (t:=.group m a) rfl rfl).1 h).1)
 |@iter a _ _ _ c=>intro lo d h;exact top h _ _ _ _ (c ((At.un (t:=.iter a) rfl rfl).1 h).1)
def y0I (s:Tm)(lo d k:Nat)(P:Pt):∃r,K2 s lo d k P=(⟨(d:Int),(s.top lo:Int),(k:Int),((k+P.wid:Nat):Int)⟩:Z1) :: r:=by
 cases s<;>exact⟨_,rfl⟩
def y0x (hR:K1 l=true)(m:O2 l t)(C:o9 l=T)(hl:l.length*64<=140737488351232)(hf:401<F)(o:l.length+1<F){es:List Z1}{i:Nat}(hi:i<es.length)(he:0<=(gt es (i:Int)).Node/\(gt es (i:Int)).Node<(l.length:Int))(hb:i<=1000000000){y:List G1}(hy:y.length=T+1):
  f03 F l es ((i:Int),y)=some (.next (((i+1:Nat):Int),M7 l y (gt es (i:Int)))):=by
 have R:=a0M hR;have h9:T<=9:=by have:=g0o l;omega
 have d1:(i:Int)<(es.length:Int):=O'
 have r:B0 es (i:Int)=true:=R0 O' d1;unfold f03;dsimp only;generalize gt es (i:Int)=e at *;have d2:¬e.Node<0:=O'
 have d3:¬e.Node>=(l.length:Int):=O'
 have d:B0 l e.Node=true:=R0 he.1 he.2;obtain⟨q,U⟩:∃q:Nat,e.Node=(q:Int):=⟨e.Node.toNat,O'⟩
 have c:gt l e.Node∈l:=by rw[U];exact gtm O'
 simp only[q0,d1,r,d2,d3,d,G3 (i:=i) O'];have s:∀y':List G1,y'.length=T+1->iter (g08 F (Z3 l e.Node)) F (0,y')=some (Y7 y' (Z3 l e.Node)):=fun y' a1=>by
  have b1:=f0F l e.Node;have:=R4 (step:=g08 F (Z3 l e.Node)) (fun k=>((k:Int),Y7 y' ((Z3 l e.Node).take k))) (Y7 y' (Z3 l e.Node)) (Z3 l e.Node).length (fun k hk=>.inl ?_) ?_ (Z3 l e.Node).length 0 F O' O'
  ·simpa[Y7]using this
  ·unfold g08;have x:(k:Int)<((Z3 l e.Node).length:Int):=O'
   have k2:=l0T hR m C (gtm hk);have j:(Z3 l e.Node).take (k+1)=(Z3 l e.Node).take k++[gt (Z3 l e.Node) (k:Int)]:=by rw[List.take_succ,u6 hk];rfl
   have I:B0 (Y7 y' ((Z3 l e.Node).take k)) (gt (Z3 l e.Node) (k:Int))=true:=R0 O' (by rw[k0g];omega);have k4:Y7 y' ((Z3 l e.Node).take (k+1))=(Y7 y' ((Z3 l e.Node).take k)).set (gt (Z3 l e.Node) (k:Int)).toNat ⟨-1,-1⟩:=by rw[j];simp[Y7]
   simp only[x,decide_true,if_true,R0 (l:=Z3 l e.Node) (i:=(k:Int)) O' x,I,G3 (i:=k) O',k4]
  ·unfold g08;simp
 unfold M7
 by_cases h:(gt l e.Node).Kind=7
 ·have v:=R.grp _ c h;have J:(gt l e.Node).N<=T:=by
   have f:C5 t (gt l e.Node).N=true:=by
    rw[<-h0H _ t 0,<-m.eq,any_eq_true];exact⟨_,c,by simp[P9,h]⟩
   have:=o04 hR m f v.1 v.2;omega
  have p:B0 y (gt l e.Node).N=true:=R0 O' O';simp[h,p]
 ·by_cases u:(gt l e.Node).Kind=8
  ·simp[u,n0z hR hl _ hf o,s y hy]
  ·simp[h,u]
def z0A (hR:K1 l=true)(q:O2 l t)(hl:l.length*64<=140737488351232)(hf:2000<F)(x:l.length+1<F)(c5:B6 F l=some true){w:List Int}{i:Nat}{P:Pt}(f:Fit w t i P)(hlen:(K2 t 0 1 i P).length<F)(c3:(K2 t 0 1 i P).length<=1000000000):
  i0k F l (K2 t 0 1 i P)=some (a0x (r8 l (O7 l (i:Int)) (U3 t 0 i P)) ((i+P.wid:Nat):Int)):=by
 have c6:=g0o l;obtain⟨T,s⟩:∃T:Nat,o9 l=T:=⟨(o9 l).toNat,O'⟩
 have h9:T<=9:=O'
 unfold i0k;rw[c5,E0F hR hl O' x,s];have hW:W ((T:Int)+1)=((T+1:Nat):Int):=G3 O';have R:V2 16 ((T+1:Nat):Int)=true:=by simp[V2];omega
 simp only[q0,hW,R,Int.toNat_natCast];have h5:iter (h0I F) F (0,List.replicate (T+1) (⟨0,0⟩:G1))=some (List.replicate (T+1) (⟨-1,-1⟩:G1)):=by
  have:=R4 (step:=h0I F) (fun k=>((k:Int),List.replicate k (⟨-1,-1⟩:G1)++List.replicate (T+1-k) (⟨0,0⟩:G1))) (List.replicate (T+1) (⟨-1,-1⟩:G1)) (T+1) (fun k hk=>.inl ?_) ?_ (T+1) 0 F O' O'
  ·simpa using this
  ·unfold h0I;have hlen:(List.replicate k (⟨-1,-1⟩:G1)++List.replicate (T+1-k) (⟨0,0⟩:G1)).length=T+1:=by simp;omega
   have I:(k:Int)<((List.replicate k (⟨-1,-1⟩:G1)++List.replicate (T+1-k) (⟨0,0⟩:G1)).length:Int):=by rw[hlen];omega
   simp only[I,decide_true,if_true,R0 O' I,G3 (i:=k) O',Int.toNat_natCast];have k2:(List.replicate k (⟨-1,-1⟩:G1)++List.replicate (T+1-k) (⟨0,0⟩:G1)).set k ⟨-1,-1⟩=List.replicate (k+1) (⟨-1,-1⟩:G1)++List.replicate (T+1-(k+1)) (⟨0,0⟩:G1):=by
    rw[show T+1-k=(T+1-(k+1))+1 from O',List.replicate_succ,List.set_append_right _ _ Z9,length_replicate,Nat.sub_self,List.set_cons_zero];rw[show List.replicate (k+1) (⟨-1,-1⟩:G1)=List.replicate k ⟨-1,-1⟩++[⟨-1,-1⟩]from List.replicate_succ'];simp
   rw[k2]
  ·unfold h0I;have I:¬(((T+1:Nat):Int)<((List.replicate (T+1) (⟨-1,-1⟩:G1)++List.replicate (T+1-(T+1)) (⟨0,0⟩:G1)).length:Int)):=Z9
   simp only[q0,I];simp
 rw[h5];obtain⟨r,hr⟩:=y0I t 0 1 i P;have c4:gt (K2 t 0 1 i P) 0=⟨1,(t.top 0:Int),(i:Int),((i+P.wid:Nat):Int)⟩:=by rw[hr];rfl
 have u:((K2 t 0 1 i P).length:Int)>0:=by rw[hr,length_cons];omega
 have b1:B0 (K2 t 0 1 i P) 0=true:=R0 O' O';have b5:B0 (List.replicate (T+1) (⟨-1,-1⟩:G1)) 0=true:=R0 O' (by rw[length_replicate];omega);simp only[q0,u,b1,b5,c4,show(0:Int).toNat=0 from rfl];have m:((List.replicate (T+1) (⟨-1,-1⟩:G1)).set 0 ⟨(i:Int),((i+P.wid:Nat):Int)⟩).length=T+1:=Z9
 generalize hY:(List.replicate (T+1) (⟨-1,-1⟩:G1)).set 0 ⟨(i:Int),((i+P.wid:Nat):Int)⟩=Y at *;have o:=B0T f (l:=l) (d:=1) q.at0;have p:iter (f03 F l (K2 t 0 1 i P)) F (0,Y)=some ((K2 t 0 1 i P).foldl (M7 l) Y):=by
  have:=R4 (step:=f03 F l (K2 t 0 1 i P)) (fun k=>((k:Int),((K2 t 0 1 i P).take k).foldl (M7 l) Y)) ((K2 t 0 1 i P).foldl (M7 l) Y) (K2 t 0 1 i P).length (fun k hk=>.inl ?_) ?_ (K2 t 0 1 i P).length 0 F O' O'
  ·simpa using this
  ·have J:(K2 t 0 1 i P).take (k+1)=(K2 t 0 1 i P).take k++[gt (K2 t 0 1 i P) (k:Int)]:=by rw[List.take_succ,u6 hk];rfl
   rw[J,foldl_append];exact y0x hR q s hl O' x hk (o _ (gtm hk)) O' (by rw[i0w];exact m)
  ·unfold f03;simp
 rw[p];simp only[G0,Option.some.injEq];have hv:(O7 l (i:Int)).length=1+2*T:=by rw[k0w];unfold l5;rw[s];omega
 have b3:(r8 l (O7 l (i:Int)) (U3 t 0 i P)).length=1+2*T:=by rw[u0d];exact hv
 unfold a0x;rw[b3,if_neg O',show(1+2*T) / 2=T from O'];have b4:∀(v:List Int) (to:Int) (k g:Nat),g<=k->(R9 v to k)[g]?=some (if g=0 then a0v (gt v 0) to else a0v (pr v g).1 (pr v g).2):=by
  intro v to k
  induction k with
  |zero=>
       intro g hg;obtain rfl:g=0:=O'
       rfl
  |succ k ih=>
   intro g hg;simp only[R9];rcases Nat.lt_or_ge k g with c|c
   ·obtain rfl:g=k+1:=O'
    rw[List.getElem?_append_right (by rw[e0a];omega),e0a,Nat.sub_self,if_neg O'];unfold pr;rw[show 2*(k+1)-1=2*k+1 from O',show 2*(k+1)=2*k+2 from O'];rfl
   ·rw[List.getElem?_append_left (by rw[e0a];omega)];exact ih g c
 apply List.ext_getElem?;intro g;rcases Nat.lt_or_ge T g with c|c
 ·rw[List.getElem?_eq_none (by rw[i0w,m];omega),List.getElem?_eq_none (by rw[e0a];omega)]
 ·rw[b4 _ _ _ _ c,u6 (by rw[i0w,m];omega)]
  by_cases c0:g=0
  ·subst c0;rw[if_pos rfl];have e0:=t0M hR q s (K2 t 0 1 i P) Y m o;rw[show((0:Nat):Int)=0 from rfl,e0,B05 (T:=T) _ _ hv];have C:gt Y 0=⟨(i:Int),((i+P.wid:Nat):Int)⟩:=by
    rw[<-hY];exact b0d (i:=0) Z9
   have U:gt (O7 l (i:Int)) 0=(i:Int):=by
    unfold O7;exact b0d (i:=0) (by simp;unfold l5;omega)
   rw[C,U];unfold a0v;rw[if_neg O']
  ·rw[if_neg c0,w0r hR (show 1<=g from O') c h9 q.at0 f hv];have C:=C0I (d:=1) hR q s (show 1<=g from O') c q.at0 f m;have U:pm (gt Y (g:Int))=(-1,-1):=by
    have:gt Y (g:Int)=⟨-1,-1⟩:=by
     rw[<-hY,V7 (by rw[length_replicate];omega),if_neg c0];exact B4 (by rw[List.getElem?_replicate,if_pos O'])
    rw[this];rfl
   have e3:pr (O7 l (i:Int)) g=(-1,-1):=by
    have h:∀j:Nat,1<=j->j<1+2*T->gt (O7 l (i:Int)) (j:Int)=-1:=fun j h1 h2=>by
     have b2:(l5 l).toNat=1+2*T:=by unfold l5;omega
     unfold O7;rw[b2,V7 (by rw[length_replicate];omega),if_neg O'];exact B4 (by rw[List.getElem?_replicate,if_pos O'])
    unfold pr;rw[h _ O' O',h _ O' O']
   rw[U]at C;rw[e3];have y:=v0F (g:=(g:Int)) f (-1,-1) (.inl rfl);rw[<-C]at y ⊢;generalize gt ((K2 t 0 1 i P).foldl (M7 l) Y) (g:Int)=sp at *;obtain⟨x1,x2⟩:=sp;have hs:a0v x1 x2=⟨x1,x2⟩:=by
    have a1:Wh (x1,x2):=y;unfold a0v;rcases a1 with h|⟨h,h'⟩
    ·cases h;rfl
    ·simp only at h h';rw[if_neg O']
   exact congrArg some hs.symm
end
def Fit.more {w v:List Int}{k:Nat}(hk:∀j,j<k->j<w.length->j<v.length/\gt v (j:Int)=gt w (j:Int)){s:Tm}{i:Nat}{P:Pt}(h:Fit w s i P):i+P.wid<=k->Fit v s i P:=by
 induction h with
 |eps=>exact fun _=>.eps
 |@leaf S i h1 h2=>
  intro h;simp only[Pt.wid]at h;obtain⟨m,f⟩:=hk i O' h1;exact .leaf m (by rw[f];exact h2)
 |cat _ _ d i2=>intro h;simp only[Pt.wid]at h;exact .cat (d O') (i2 O')
 |altL _ c=>exact fun h=>.altL (c h)
 |altR _ c=>exact fun h=>.altR (c h)
 |star0=>exact fun _=>.star0
 |star _ hp _ d i2=>intro h;simp only[Pt.wid]at h;exact .star (d O') hp (i2 O')
 |maybe0=>exact fun _=>.maybe0
 |maybe _ hp c=>exact fun h=>.maybe (c h) hp
 |group _ c=>exact fun h=>.group (c h)
 |iter _ c=>exact fun h=>.iter (c h)
def Fit.end {w:List Int}{s:Tm}{i:Nat}{P:Pt}(h:Fit w s i P):0<P.wid->i+P.wid<=w.length:=by
 induction h with
 |eps=>intro h;simp[Pt.wid]at h
 |leaf h1 _=>intro _;simp only[Pt.wid];omega
 |@cat _ _ _ x y _ _ i1 i2=>
  intro h;simp only[Pt.wid]at h ⊢
  by_cases c:0<y.wid
  ·have:=i2 c;omega
  ·have:=i1 O';omega
 |altL _ d=>exact d
 |altR _ d=>exact d
 |star0=>intro h;simp[Pt.wid]at h
 |@star _ _ x r _ _ _ i1 i2=>
  intro h;simp only[Pt.wid]at h ⊢
  by_cases c:0<r.wid
  ·have:=i2 c;omega
  ·have:=i1 O';omega
 |maybe0=>intro h;simp[Pt.wid]at h
 |maybe _ _ d=>exact d
 |group _ d=>exact d
 |iter _ d=>exact d
def y0E {w:List Int}{s:Tm}{k:Nat}{P:Pt}(f:Fit w s k P):∀lo d,(K2 s lo d k P).length<=s.size+s.size*s.size*P.wid:=by
 have mono:∀{a b c:Nat},a<=b->a*a*c<=b*b*c:=fun h=>Nat.mul_le_mul_right _ (Nat.mul_le_mul h h)
 induction f with
 |eps=>intro lo d;simp[K2,Tm.size]
 |leaf _ _=>intro lo d;simp[K2,Tm.size]
 |@cat a b i x y _ _ i1 i2=>
  intro lo d;have h1:=i1 lo (d+1);have j:=i2 (lo+a.size) (d+1);have m1:=mono (c:=x.wid) (show a.size<=a.size+b.size+1 from O');have m2:=mono (c:=y.wid) (show b.size<=a.size+b.size+1 from O');simp only[K2,length_cons,List.length_append,Tm.size,Pt.wid];rw[Nat.mul_add ((a.size+b.size+1)*(a.size+b.size+1)) x.wid y.wid];omega
 |@altL a b i x _ ih=>
  intro lo d;have h1:=ih lo (d+1);have m1:=mono (c:=x.wid) (show a.size<=a.size+b.size+1 from O');simp only[K2,length_cons,Tm.size,Pt.wid];omega
 |@altR a b i x _ ih=>
  intro lo d;have h1:=ih (lo+a.size) (d+1);have m1:=mono (c:=x.wid) (show b.size<=a.size+b.size+1 from O');simp only[K2,length_cons,Tm.size,Pt.wid];omega
 |star0=>intro lo d;simp[K2,stE,Tm.size,Pt.wid]
 |@star a i x r _ hp _ i1 i2=>
  intro lo d;have h1:=i1 lo (d+1);have j:=i2 lo d;have m1:a.size+a.size*a.size*x.wid<=(a.size+1)*(a.size+1)*x.wid:=by
   have e:(a.size+1)*(a.size+1)*x.wid=a.size*a.size*x.wid+a.size*x.wid+(a.size+1)*x.wid:=by
    rw[show(a.size+1)*(a.size+1)=a.size*a.size+a.size+(a.size+1) by rw[Nat.add_mul,Nat.mul_add];omega];rw[Nat.add_mul,Nat.add_mul]
   have:a.size<=a.size*x.wid:=Nat.le_mul_of_pos_right _ hp;omega
  simp only[K2,length_cons,List.length_append,stE,Tm.size,Pt.wid]at j ⊢;rw[Nat.mul_add ((a.size+1)*(a.size+1)) x.wid r.wid];omega
 |maybe0=>intro lo d;simp[K2,Tm.size,Pt.wid]
 |@maybe a i x _ _ ih=>
  intro lo d;have h1:=ih lo (d+1);have m1:=mono (c:=x.wid) (show a.size<=a.size+1 from O');simp only[K2,length_cons,Tm.size,Pt.wid];omega
 |@group m a i x _ ih=>
  intro lo d;have h1:=ih lo (d+1);have m1:=mono (c:=x.wid) (show a.size<=a.size+1 from O');simp only[K2,length_cons,Tm.size,Pt.wid];omega
 |@iter a i x _ ih=>
  intro lo d;have h1:=ih lo (d+1);have m1:=mono (c:=x.wid) (show a.size<=a.size+1 from O');simp only[K2,length_cons,Tm.size,Pt.wid];omega
section
variable {F:Nat}{l:List C0}{n:Nat}{a:List y0}{b:Nat->List y0}{e:Nat->y0×Bool}{z:y0×Bool}{t:Tm}{w:List Int}
def z0y (k:O2 l t){w:List Int}(j:w.length<=64){i:Nat}{P:Pt}(f:Fit w t i P):(K2 t 0 1 i P).length<=100000000:=by
 have h:=y0E f 0 1;have d:=k.le;have hw:P.wid<=64:=by
  by_cases c:0<P.wid
  ·have:=f.end c;omega
  ·omega
 have h1:t.size*t.size<=400*400:=Nat.mul_le_mul d d;have m:t.size*t.size*P.wid<=400*400*64:=Nat.mul_le_mul h1 hw;omega
def E06 (K:H5 l n a b e z F)(hw:∀x∈l,o3 x)(i:O2 l t)(w:List Int):((U8 l z 0).2=t.can)/\(t.can=true->Fit w t 0 (emp t)/\(emp t).wid=0/\Mn w t 0 (emp t)/\(U8 l z 0).1=r8 l (O7 l 0) (U3 t 0 0 (emp t))):=by
 have j:=(m0u K hw i).2;have f:t.steps 0≠[]:=by cases t<;>simp[Tm.steps]
 have d:z.2=t.can/\(t.can=true->z.1.Steps=t.steps 0):=by
  rw[j];cases t.can<;>simp[o8,f]
 unfold U8;cases c:t.can with
 |false=>rw[d.1,c];simp
 |true=>
  rw[d.1,c,d.2 c];refine⟨rfl,fun _=>⟨(F9 c).fit w 0,(F9 c).wid,fun Q h1 h=>o0S (h1.emp (by rw[<-h];exact(F9 c).wid)),?_⟩⟩;rw[o0v 0 0 c,i0c];rfl
end
