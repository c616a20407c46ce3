/- P. Its conditions: none. -/
import Derived.Test.YtihmgaccbcfgjaaGreatRG39
import Derived.Test.YtihmgaccbcfgjaaGreatRG41
import Derived.Test.YtihmgaccbcfgjaaGreatRG40
open List (any_eq_true mem_range mem_filter foldl_cons)
open Bool (and_eq_true or_eq_true false_eq_true or_eq_false_iff)
set_option linter.all false
namespace Go.Proofs.YtihmgaccbcfgjaaGreat
open Go.V Go.RowKit Old Go.X
section
variable {w:List Int}
theorem Fit.den {s:Tm}{i:Nat}{P:Pt}(h:Fit w s i P):Go.Proofs.YtihmgaccbcfgjaaGreat.den w s i (i+P.wid)=true:=by
 induction h with
 |eps=>simp[Go.Proofs.YtihmgaccbcfgjaaGreat.den,Pt.wid]
 |leaf h1 d=>simp_all[Go.Proofs.YtihmgaccbcfgjaaGreat.den,Pt.wid]
 |@cat a b i x y _ _ i1 i2=>
  simp only[Go.Proofs.YtihmgaccbcfgjaaGreat.den,Pt.wid,any_eq_true,mem_range,and_eq_true,decide_eq_true_eq]
  grind
 |altL _ c=>simp_all[Go.Proofs.YtihmgaccbcfgjaaGreat.den,Pt.wid]
 |altR _ c=>simp_all[Go.Proofs.YtihmgaccbcfgjaaGreat.den,Pt.wid]
 |star0=>simp only[Go.Proofs.YtihmgaccbcfgjaaGreat.den];grind [R0q,Pt.wid]
 |@star a i x r _ hp _ i1 i2=>
  simp only[Go.Proofs.YtihmgaccbcfgjaaGreat.den]at i2 ⊢;rw[R0q];simp only[Pt.wid,or_eq_true,any_eq_true,mem_range,and_eq_true,decide_eq_true_eq]
  grind
 |maybe0=>simp[Go.Proofs.YtihmgaccbcfgjaaGreat.den,Pt.wid]
 |maybe _ _ c=>simp_all[Go.Proofs.YtihmgaccbcfgjaaGreat.den,Pt.wid]
 |group _ c=>exact c
 |iter _ c=>exact c
theorem M0X:∀{s:Tm} {i j:Nat},den w s i j=true->∃P,Fit w s i P/\i+P.wid=j:=by
 intro s
 induction s with
 |eps=>intro i j h;exact⟨.nil,.eps,by simp_all[den,Pt.wid]⟩
 |leaf S=>
  intro i j h;simp only[den,and_eq_true,beq_iff_eq,decide_eq_true_eq]at h;exact⟨.byte,.leaf h.2.1 h.2.2,h.1.symm⟩
 |cat a b f ib=>
  intro i j h;simp only[den,any_eq_true,mem_range,and_eq_true,decide_eq_true_eq]at h;obtain⟨k,_,_,h1,p⟩:=h;obtain⟨x,d,rfl⟩:=f h1;obtain⟨y,q,rfl⟩:=ib p;exact⟨.two x y,.cat d q,by grind [Pt.wid]⟩
 |alt a b f ib=>
  intro i j h;simp only[den,or_eq_true]at h;rcases h with h|h
  ·obtain⟨x,d,o⟩:=f h;exact⟨.one x,.altL d,o⟩
  ·obtain⟨x,d,o⟩:=ib h;exact⟨.other x,.altR d,o⟩
 |star a f=>
  have key:∀(n i j:Nat),j-i<=n->den w (.star a) i j=true->∃P,Fit w (.star a) i P/\i+P.wid=j:=by
   intro n
   induction n with
   |zero=>
    intro i j hn h;have hle:=L0Z w _ _ _ h;exact⟨.nil,.star0,by grind [Pt.wid]⟩
   |succ n ih=>
    intro i j hn h;simp only[den]at h;rw[R0q]at h;simp only[or_eq_true,beq_iff_eq,any_eq_true,mem_range,and_eq_true,decide_eq_true_eq]at h;rcases h with h|⟨k,h1,p,h3,h4⟩
    ·exact⟨.nil,.star0,by simp_all[Pt.wid]⟩
    ·obtain⟨x,d,rfl⟩:=f h3;obtain⟨r,r1,r2⟩:=ih (i+x.wid) j O' (by simp_all[den]);exact⟨.two x r,.star d O' r1,by grind [Pt.wid]⟩
  intro i j h;exact key (j-i) i j (Nat.le_refl _) h
 |maybe a f=>
  intro i j h;simp only[den,or_eq_true,beq_iff_eq]at h
  by_cases c:i=j
  ·exact⟨.nil,.maybe0,by simp_all[Pt.wid]⟩
  ·rcases h with h|h
   ·omega
   ·obtain⟨x,d,o⟩:=f h;exact⟨.one x,.maybe d O',o⟩
 |group m a f=>intro i j h;obtain⟨x,d,o⟩:=f (show den w a i j=true from h);exact⟨.one x,.group d,o⟩
 |iter a f=>intro i j h;obtain⟨x,d,o⟩:=f (show den w a i j=true from h);exact⟨.one x,.iter d,o⟩
def Mn (w:List Int)(s:Tm)(i:Nat)(P:Pt):Prop:=∀Q,Fit w s i Q->P.wid=Q.wid->P=Q\/PA P Q
def stE (F:Nat->Pt->List g0A):Nat->Pt->List g0A
 |k,.two x r=>F k x++stE F (k+x.wid) r
 |_,_=>[]
def o4:Tm->Nat->Nat->Nat->Pt->List g0A
 |.eps,lo,d,k,P=>[⟨(d:Int),(Tm.top .eps lo:Int),(k:Int),((k+P.wid:Nat):Int)⟩]
 |.leaf S,lo,d,k,P=>[⟨(d:Int),(Tm.top (.leaf S) lo:Int),(k:Int),((k+P.wid:Nat):Int)⟩]
 |.cat a b,lo,d,k,P=>(⟨(d:Int),(Tm.top (.cat a b) lo:Int),(k:Int),((k+P.wid:Nat):Int)⟩:g0A) :: (match P with|.two x y=>o4 a lo (d+1) k x++o4 b (lo+a.size) (d+1) (k+x.wid) y|_=>[])
 |.alt a b,lo,d,k,P=>(⟨(d:Int),(Tm.top (.alt a b) lo:Int),(k:Int),((k+P.wid:Nat):Int)⟩:g0A) :: (match P with|.one x=>o4 a lo (d+1) k x|.other x=>o4 b (lo+a.size) (d+1) k x|_=>[])
 |.star a,lo,d,k,P=>(⟨(d:Int),(Tm.top (.star a) lo:Int),(k:Int),((k+P.wid:Nat):Int)⟩:g0A) :: stE (fun k x=>o4 a lo (d+1) k x) k P
 |.maybe a,lo,d,k,P=>(⟨(d:Int),(Tm.top (.maybe a) lo:Int),(k:Int),((k+P.wid:Nat):Int)⟩:g0A) :: (match P with|.one x=>o4 a lo (d+1) k x|_=>[])
 |.group m a,lo,d,k,P=>(⟨(d:Int),(Tm.top (.group m a) lo:Int),(k:Int),((k+P.wid:Nat):Int)⟩:g0A) :: (match P with|.one x=>o4 a lo (d+1) k x|_=>[])
 |.iter a,lo,d,k,P=>(⟨(d:Int),(Tm.top (.iter a) lo:Int),(k:Int),((k+P.wid:Nat):Int)⟩:g0A) :: (match P with|.one x=>o4 a lo (d+1) k x|_=>[])
def U0v {c:Nat->Bool}{j k:Nat}(h:k<=j)(f:c k=true)(hm:∀d,k<=d->d<=j->c d=true->d=k):A8 c j=k:=by
 obtain⟨h1,i,o⟩:=S0w h f
 simp_all
def U0p {x x' y y':Pt}(h:Pt.two x y=.two x' y'\/PA (.two x y) (.two x' y')):x'.wid<=x.wid:=by
 rcases h with h|h
 ·simp_all
 ·cases h with
  |wid h=>omega
  |fst h _=>omega
  |snd _=>omega
def T02 {x x' y y':Pt}(hw:x.wid=x'.wid)(h:Pt.two x y=.two x' y'\/PA (.two x y) (.two x' y')):x=x'\/PA x x':=by
 rcases h with h|h
 ·simp_all
 ·cases h with
  |wid h=>omega
  |fst _ h=>simp_all
  |snd _=>simp
theorem PA.irr {x:Pt}(h:PA x x):False:=by
 induction x with
 |nil=>cases h
 |byte=>cases h
 |two x y c iy=>
  cases h with
  |wid h=>omega
  |fst _ h=>grind
  |snd h=>grind
 |one x c=>cases h with|one h=>grind
 |other x c=>cases h with|other h=>grind
def U0X {x y y':Pt}(h:Pt.two x y=.two x y'\/PA (.two x y) (.two x y')):y=y'\/PA y y':=by
 rcases h with h|h
 ·simp_all
 ·cases h with
  |wid h=>omega
  |fst _ h=>exact h.irr.elim
  |snd h=>simp_all
theorem U0k:∀(s:Tm) (lo d i:Nat) (P:Pt),Fit w s i P->Mn w s i P->A5 w s lo d i (i+P.wid)=o4 s lo d i P:=by
 intro s
 induction s with
 |eps=>intro lo d i P _ _;rfl
 |leaf S=>intro lo d i P _ _;rfl
 |cat a b ia ib=>
  intro lo d i P h hm;cases h with | @cat _ _ _ x y f v=>
  have hk:A8 (fun k=>den w a i k&&den w b k (i+(Pt.two x y).wid)) (i+(Pt.two x y).wid)=i+x.wid:=by
   refine U0v (by simp[Pt.wid]) ?_ fun J h1 o p=>?_
   ·have:=f.den;have o:=v.den
    simp_all[Pt.wid,Nat.add_assoc]
   ·simp only[and_eq_true]at p;obtain⟨x',q,rfl⟩:=M0X p.1;obtain⟨y',u,R⟩:=M0X p.2;have:=U0p (hm (.two x' y') (.cat q u) (by grind [Pt.wid]));omega
  simp only[A5,o4,hk];have C:=ia lo (d+1) i x f (fun x' h1 o=>T02 o (hm (.two x' y) (.cat h1 (by simp_all)) (by simp_all[Pt.wid])));have I:=ib (lo+a.size) (d+1) (i+x.wid) y v (fun y' h1 o=>U0X (hm (.two x y') (.cat f h1) (by simp_all[Pt.wid])))
  grind [Pt.wid]
 |alt a b ia ib=>
  intro lo d i P h hm;cases h with
  |@altL _ _ _ x f=>
   simp only[A5,o4,Pt.wid,f.den,if_true];rw[ia lo (d+1) i x f (fun x' h1 o=>by
    rcases hm (.one x') (.altL h1) o with h|h
    ·simp_all
    ·cases h with|one h=>simp_all)]
  |@altR _ _ _ x f=>
   have hn:den w a i (i+x.wid)=false:=by
    cases c:den w a i (i+x.wid)with
    |false=>rfl
    |true=>
     obtain⟨x',q,U⟩:=M0X c;rcases hm (.one x') (.altL q) (by simp_all[Pt.wid])with h|h
     ·cases h
     ·cases h
   simp only[A5,o4,Pt.wid,hn,if_false,false_eq_true];rw[ib (lo+a.size) (d+1) i x f (fun x' h1 o=>by
    rcases hm (.other x') (.altR h1) o with h|h
    ·simp_all
    ·cases h with|other h=>simp_all)]
 |star a ia=>
  intro lo d i P h hm;simp only[A5,o4];rw[show i+P.wid-i=P.wid from O'];have key:∀(n i:Nat) (P:Pt),P.wid<=n->Fit w (.star a) i P->Mn w (.star a) i P->m0i (fun i k=>A5 w a lo (d+1) i k) (den w a) n i (i+P.wid)=stE (fun k x=>o4 a lo (d+1) k x) i P:=by
   intro n
   induction n with
   |zero=>
    intro i P hn h hm;cases h with
    |star0=>rfl
    |star f hp _=>simp_all[Pt.wid]
   |succ n ih=>
    intro i P hn h hm;cases h with
    |star0=>simp[m0i,stE,Pt.wid]
    |@star _ _ x r f hp hr=>
     have hk:A8 (fun k=>den w a i k&&w8 (den w a) k (i+(Pt.two x r).wid)) (i+(Pt.two x r).wid)=i+x.wid:=by
      refine U0v (by simp[Pt.wid]) ?_ fun J h1 o p=>?_
      ·have:=f.den;have o:=hr.den
       simp_all[den,Pt.wid,Nat.add_assoc]
      ·simp only[and_eq_true]at p;obtain⟨x',q,rfl⟩:=M0X p.1;obtain⟨y',u,R⟩:=M0X (s:=.star a) (i:=i+x'.wid) (j:=i+(Pt.two x r).wid) (by simp only[den];exact p.2);have:=U0p (hm (.two x' y') (.star q O' u) (by grind [Pt.wid]));omega
     simp only[m0i,stE,hk];have C:=ia lo (d+1) i x f (fun x' h1 o=>T02 o (hm (.two x' r) (.star h1 O' (by simp_all)) (by simp_all[Pt.wid])));have I:=ih (i+x.wid) r (by grind [Pt.wid]) hr (fun y' h1 o=>U0X (hm (.two x y') (.star f hp h1) (by simp_all[Pt.wid])));rw[if_pos (by grind [Pt.wid]),C,show i+(Pt.two x r).wid=i+x.wid+r.wid by grind [Pt.wid],I]
  simp_all
 |maybe a ia=>
  intro lo d i P h hm;cases h with
  |maybe0=>simp[A5,o4,Pt.wid]
  |@maybe _ _ x f hp=>
   simp only[A5,o4];rw[if_pos (show i<i+(Pt.one x).wid by simp_all[Pt.wid])];simp only[Pt.wid];rw[ia lo (d+1) i x f (fun x' h1 o=>by
    rcases hm (.one x') (.maybe h1 O') o with h|h
    ·simp_all
    ·cases h with|one h=>simp_all)]
 |group m a ia=>
  intro lo d i P h hm;cases h with | @group _ _ _ x f=>
  simp only[A5,o4,Pt.wid];rw[ia lo (d+1) i x f (fun x' h1 o=>by
   rcases hm (.one x') (.group h1) o with h|h
   ·simp_all
   ·cases h with|one h=>simp_all)]
 |iter a ia=>
  intro lo d i P h hm;cases h with | @iter _ _ x f=>
  simp only[A5,o4,Pt.wid];rw[ia lo (d+1) i x f (fun x' h1 o=>by
   rcases hm (.one x') (.iter h1) o with h|h
   ·simp_all
   ·cases h with|one h=>simp_all)]
end
def c0d {α:Type}[Inhabited α]{o:List α}{i j:Nat}{x:α}(h:i<o.length):gt (o.set i x) (j:Int)=if j=i then x else gt o (j:Int):=by
 by_cases c:j=i
 ·subst c;rw[if_pos rfl];exact d0x h
 ·rw[if_neg c];exact Y9 (Ne.symm c)
def A7:Tm->Int->Bool
 |.eps,_=>false
 |.leaf _,_=>false
 |.cat a b,g=>A7 a g||A7 b g
 |.alt a b,g=>A7 a g||A7 b g
 |.star a,g=>A7 a g
 |.maybe a,g=>A7 a g
 |.group m a,g=>m==g||A7 a g
 |.iter a,g=>A7 a g
def isG (g:Int)(y:C0):Bool:=y.Kind==7&&y.N==g
def S0m (g:Int):∀(s:Tm) (lo:Nat),(s.flat lo).any (isG g)=A7 s g:=by
 intro s
 induction s with
 |eps=>intro lo;rfl
 |leaf S=>intro lo;rfl
 |cat a b c d=>intro lo;simp[Tm.flat,c,d,A7,isG,Tm.node]
 |alt a b c d=>intro lo;simp[Tm.flat,c,d,A7,isG,Tm.node]
 |star a c=>intro lo;simp[Tm.flat,c,A7,isG,Tm.node]
 |maybe a c=>intro lo;simp[Tm.flat,c,A7,isG,Tm.node]
 |group m a c=>intro lo;simp[Tm.flat,c,A7,isG,Tm.node,Bool.or_comm]
 |iter a c=>intro lo;simp[Tm.flat,c,A7,isG,Tm.node]
def U0H {R0:List C0}{g:Nat}(h:g<10):(g:Int)∈e0Y R0↔R0.any (isG (g:Int))=true:=by
 unfold e0Y a0a;rw[List.mem_map];constructor
 ·rintro⟨n,h1,c⟩
  have:n=g:=O'
  subst this;exact(mem_filter.1 h1).2
 ·intro h1;exact⟨g,mem_filter.2 ⟨mem_range.2 h,h1⟩,rfl⟩
section
variable {l:List C0}{t:Tm}
def T0w (hR:L2 l=true){s:Tm}{lo g:Nat}(h:At l lo s)(hg:g<10):(g:Int)∈B9 l (s.top lo:Int)↔A7 s (g:Int)=true:=by
 have c:=h.V6;have hp:=s.size_pos;unfold B9;rw[if_neg O',U0H hg,g0v hR h];have e:G1 l (lo:Int) ((s.top lo:Int)+1)=s.flat lo:=by
  unfold G1;rw[show((s.top lo:Int)+1-(lo:Int)).toNat=s.size from J',Int.toNat_natCast];exact h
 rw[e,S0m]
def le_last {xs:List Int}(h:xs.Pairwise (· < ·)){x:Int}(d:x∈xs):x<=xs.getLast?.getD 0:=by
 cases c:xs.getLast? with
 |none=>rw[List.getLast?_eq_none_iff]at c;subst c;simp at d
 |some y=>
  obtain⟨ys,rfl⟩:=List.getLast?_eq_some_iff.1 c;rcases List.mem_append.1 d with h1|h1
  ·have:=(List.pairwise_append.1 h).2.2 x h1 y Z';simp only[Option.getD_some];omega
  ·simp only[List.mem_singleton]at h1;subst h1;simp
def T0N (hR:L2 l=true)(d:I4 l t){g:Int}(h:A7 t g=true)(h1:1<=g)(f:g<=9):g<=e0T l:=by
 obtain⟨k,rfl⟩:∃k:Nat,g=(k:Int):=⟨g.toNat,O'⟩
 have:=(T0w hR d.at0 (g:=k) O').2 h;have c:((t.top 0:Nat):Int)=(l.length:Int)-1:=by have:=t.size_pos;have:=d.len;unfold Tm.top;omega
 rw[c]at this;refine le_last ?_ this;unfold B9;split
 ·exact List.Pairwise.nil
 ·unfold e0Y a0a;rw[List.pairwise_map];exact(List.Pairwise.filter _ List.pairwise_lt_range).imp fun h=>O'
def Ng:Tm->Prop
 |.eps=>True|.leaf _=>True|.cat a b=>Ng a/\Ng b|.alt a b=>Ng a/\Ng b
 |.star a=>Ng a|.maybe a=>Ng a|.group m a=>1<=m/\m<=9/\A7 a m=false/\Ng a|.iter a=>Ng a
def T0X:∀{n:Nat} {a:List Int},R4 l n=some a->∀j,j<n->∃b,Z6 l b j=true/\gt a (j:Int)=D3 l b j
 |0,a,h,j,f=>O'
 |n+1,a,h,j,f=>by
  simp only[R4]at h;split at h
  ·cases h
  ·rename_i b d;split at h
   ·rename_i hg;cases h;have hl:=(c07 d).len
    by_cases e:j=n
    ·subst e;exact⟨b,hg,e0v hl.symm⟩
    ·obtain⟨c,h1,i⟩:=T0X d j O';exact⟨c,h1,by rw[b0Y O' O'];exact i⟩
   ·cases h
def W0O (hR:L2 l=true){s:Tm}{lo:Nat}(h:At l lo s):∃b,Z6 l b (s.top lo)=true/\D3 l b (s.top lo)=lo:=by
 have f:=h.V6;have d:=g0v hR h;have c:=hR;unfold L2 at c;unfold K4 at c d;cases e:R4 l l.length with
 |none=>rw[e]at c;simp at c
 |some a=>
  rw[e]at c d;dsimp only at c d;split at d
  ·rename_i i;rw[if_pos i]at c;simp at c
  ·obtain⟨b,j,k⟩:=T0X e (s.top lo) f;exact⟨b,j,by rw[<-k];exact d⟩
def U0w (hR:L2 l=true):∀(s:Tm) (lo:Nat),At l lo s->Ng s:=by
 intro s
 induction s with
 |eps=>intro lo _;trivial
 |leaf S=>intro lo _;trivial
 |cat a b c f=>intro lo h;obtain⟨h1,i,_⟩:=(At.bin (t:=.cat a b) rfl rfl).1 h;exact⟨c _ h1,f _ i⟩
 |alt a b c f=>intro lo h;obtain⟨h1,i,_⟩:=(At.bin (t:=.alt a b) rfl rfl).1 h;exact⟨c _ h1,f _ i⟩
 |star a c=>intro lo h;exact c _ ((At.un (t:=.star a) rfl rfl).1 h).1
 |maybe a c=>intro lo h;exact c _ ((At.un (t:=.maybe a) rfl rfl).1 h).1
 |group m a c=>
  intro lo h;have ha:=((At.un (t:=.group m a) rfl rfl).1 h).1;obtain⟨b,d,p⟩:=W0O hR h;have hg:=h.N3;unfold Z6 at d;rw[hg,p,Int.toNat_natCast]at d;simp only[and_eq_true,Bool.not_eq_true',decide_eq_true_eq]at d;obtain⟨⟨_,k⟩,j⟩:=d;have e:V9 l lo (Tm.top (.group m a) lo)=a.flat lo:=by
   unfold V9;rw[show Tm.top (.group m a) lo-lo=a.size from N'];exact ha
  unfold b0L at j;rw[e]at j;have o:(a.flat lo).any (isG m)=false:=by simpa[Tm.node,isG]using j
  rw[S0m]at o;simp only[R9,Tm.node,beq_self_eq_true,if_true,and_eq_true,decide_eq_true_eq]at k;exact⟨of_decide_eq_true k.2.1,of_decide_eq_true k.2.2,o,c _ ha⟩
 |iter a c=>intro lo h;exact c _ ((At.un (t:=.iter a) rfl rfl).1 h).1
end
def stG (F:Nat->Pt->Int×Int->Int×Int):Nat->Pt->Int×Int->Int×Int
 |k,.two x r,c=>stG F (k+x.wid) r (F k x c)
 |_,_,c=>c
def S6 (g:Int):Tm->Nat->Pt->Int×Int->Int×Int
 |.cat a b,k,.two x y,c=>S6 g b (k+x.wid) y (S6 g a k x c)
 |.alt a _,k,.one x,c=>S6 g a k x c
 |.alt _ b,k,.other x,c=>S6 g b k x c
 |.star a,k,P,c=>stG (fun k x c=>S6 g a k x c) k P c
 |.maybe a,k,.one x,c=>S6 g a k x c
 |.group m a,k,.one x,c=>if m=g then((k:Int),((k+x.wid:Nat):Int))else S6 g a k x c
 |.iter a,k,.one x,c=>S6 g a k x (if A7 a g=true then(-1,-1)else c)
 |_,_,_,c=>c
def U0Z {w:List Int}{g:Int}{s:Tm}{k:Nat}{P:Pt}(h:Fit w s k P):∀c,A7 s g=false->S6 g s k P c=c:=by
 induction h with
 |eps=>intro c _;rfl
 |leaf _ _=>intro c _;rfl
 |cat _ _ i1 i2=>
  intro c h;simp only[A7,or_eq_false_iff]at h;simp only[S6,i1 c h.1,i2 c h.2]
 |altL _ d=>intro c h;simp only[A7,or_eq_false_iff]at h;exact d c h.1
 |altR _ d=>intro c h;simp only[A7,or_eq_false_iff]at h;exact d c h.2
 |star0=>intro c _;rfl
 |star _ _ _ i1 i2=>
  intro c h;have h1:=i1 c h;have f:=i2 c h;simp only[S6]at f;simp only[S6,stG,h1,f]
 |maybe0=>intro c _;rfl
 |maybe _ _ d=>intro c h;exact d c h
 |group _ d=>
  intro c h;simp only[A7,or_eq_false_iff,beq_eq_false_iff_ne]at h;simp only[S6,if_neg h.1,d c h.2]
 |iter _ d=>
  intro c h;simp only[A7]at h;simp only[S6,h,false_eq_true,if_false];exact d _ h
def Wh (c:Int×Int):Prop:=c=(-1,-1)\/(0<=c.1/\0<=c.2)
def W0a {w:List Int}{g:Int}{s:Tm}{k:Nat}{P:Pt}(h:Fit w s k P):∀c,Wh c->Wh (S6 g s k P c):=by
 induction h with
 |eps=>intro c h;exact h
 |leaf _ _=>intro c h;exact h
 |cat _ _ f i2=>intro c h;exact i2 _ (f _ h)
 |altL _ d=>intro c h;exact d _ h
 |altR _ d=>intro c h;exact d _ h
 |star0=>intro c h;exact h
 |star _ _ _ f i2=>intro c h;exact i2 _ (f _ h)
 |maybe0=>intro c h;exact h
 |maybe _ _ d=>intro c h;exact d _ h
 |group _ d=>
  intro c h;simp only[S6];split
  ·exact .inr ⟨by simp only;omega,by simp only;omega⟩
  ·exact d _ h
 |iter _ d=>
  intro c h;simp only[S6];refine d _ ?_;split
  ·exact .inl rfl
  ·exact h
def pr (v:List Int)(g:Nat):Int×Int:=(gt v ((2*g-1:Nat):Int),gt v ((2*g:Nat):Int))
section
variable {l:List C0}{t:Tm}{T g:Nat}
theorem S0s (k:Int)(v:List Int)(ms:List J2):(Z9 k (-1) v ms).length=v.length:=e0V ..
theorem T0m {k:Int}{v:List Int}(p:v.length=1+2*T)(h1:1<=g)(q:g<=T)(K G:Int)(h:K=1\/K=2\/K=3):
  pr (T4 k (-1) v ⟨K,G⟩) g=if G=(g:Int)then(if K=1 then(k,(pr v g).2)else if K=2 then((pr v g).1,k)else(-1,-1))else pr v g:=by
 unfold T4;have o:((v.length:Int)-1) / 2=T:=O'
 rw[o]
 by_cases c:G<1\/(T:Int)<G
 ·grind
 ·rw[if_neg c];obtain⟨d,rfl⟩:∃n:Nat,G=(n:Int):=⟨G.toNat,O'⟩
  have j:(2*(d:Int)-1).toNat=2*d-1:=O'
  have i:(2*(d:Int)).toNat=2*d:=O'
  rw[j,i];have f:2*d-1<v.length:=O'
  have i2:2*d<v.length:=O'
  have i3:∀x:Int,2*d<(v.set (2*d-1) x).length:=fun x=>by simp_all
  unfold pr
  by_cases e:d=g
  ·subst e;rcases h with rfl|rfl|rfl
   ·simp only[if_true];rw[c0d f,c0d f,if_pos rfl,if_neg O']
   ·simp only[show ¬(2:Int)=1 from O',if_false,if_true];rw[c0d i2,c0d i2,if_neg O',if_pos rfl]
   ·simp only[show ¬(3:Int)=1 from O',show ¬(3:Int)=2 from O',if_false,if_true];rw[c0d (i3 _),c0d (i3 _),c0d f,if_neg O',if_pos rfl,if_pos rfl]
  ·rw[if_neg (show ¬(d:Int)=(g:Int) from O')];rcases h with rfl|rfl|rfl
   ·simp only[if_true];rw[c0d f,c0d f,if_neg O',if_neg O']
   ·simp only[show ¬(2:Int)=1 from O',if_false,if_true];rw[c0d i2,c0d i2,if_neg O',if_neg O']
   ·simp only[show ¬(3:Int)=1 from O',show ¬(3:Int)=2 from O',if_false,if_true];rw[c0d (i3 _),c0d (i3 _),c0d f,c0d f,if_neg O',if_neg O',if_neg O',if_neg O']
theorem V0h (k:Int){v:List Int}(c:v.length=1+2*T)(m:J2):gt (T4 k (-1) v m) 0=gt v 0:=by
 unfold T4;have d:∀(o:List Int) (i:Nat) (x:Int),1<=i->gt (o.set i x) 0=gt o 0:=fun o i x h=>Y9 (j:=0) O'
 grind
theorem T0T (evs:List (Nat×Int)):∀v,(b0Q l v evs).length=v.length:=by
 induction evs with
 |nil=>intro v;rfl
 |cons e r c=>intro v;exact(c _).trans (S0s _ _ _)
theorem T08 (evs:List (Nat×Int)):∀v,v.length=1+2*T->gt (b0Q l v evs) 0=gt v 0:=by
 have one:∀(ms:List J2) (k:Int) (v:List Int),v.length=1+2*T->gt (Z9 k (-1) v ms) 0=gt v 0:=by
  intro ms
  induction ms with
  |nil=>intro k v _;rfl
  |cons m r c=>intro k v h;exact(c k _ (by grind [A0z])).trans (V0h k h m)
 induction evs with
 |nil=>intro v _;rfl
 |cons e r c=>intro v h;exact(c _ (by grind [S0s])).trans (one _ _ v h)
theorem J0A (k:Nat)(x:Int)(r:List (Nat×Int))(v:List Int):b0Q l v ((k,x) :: r)=b0Q l (Z9 (k:Int) (-1) v (a7 l [x])) r:=rfl
theorem T0Q (q:Nat)(c:q<l.length):c0K l (E1 q)=if(gt l (q:Int)).Kind=7 then[⟨1,(gt l (q:Int)).N⟩]else if(gt l (q:Int)).Kind=8 then(B9 l (q:Int)).map fun g=>⟨3,g⟩else[]:=by
 unfold c0K E1
 grind
theorem T0P (q:Nat)(c:q<l.length):c0K l (cls q)=if(gt l (q:Int)).Kind=7 then[⟨2,(gt l (q:Int)).N⟩]else[]:=by
 unfold c0K cls
 grind
def R0X (x:Int):a7 l [x]=c0K l x:=by simp[a7]
def V0u (k:Int)(v:List Int):Z9 k (-1) v []=v:=rfl
theorem U0W {k:Int}(h1:1<=g)(c:g<=T):∀(gs:List Int) (v:List Int),v.length=1+2*T->pr (Z9 k (-1) v (gs.map fun g=>⟨3,g⟩)) g=if(g:Int)∈gs then(-1,-1)else pr v g
 |[],v,_=>by rfl
 |x :: r,v,hv=>by
  have h:=U0W (k:=k) h1 c r (T4 k (-1) v ⟨3,x⟩) (by simp_all[A0z]);have e:pr (T4 k (-1) v ⟨3,x⟩) g=if x=(g:Int)then(-1,-1)else pr v g:=T0m (k:=k) hv h1 c 3 x (.inr (.inr rfl));unfold Z9 at h ⊢
  grind
theorem R02 {s:Tm}{lo:Nat}(h:At l lo s)(c:(s.node lo).Kind≠7)(d:(s.node lo).Kind≠8)(k:Int)(v:List Int):Z9 k (-1) v (a7 l [E1 (s.top lo)])=v/\Z9 k (-1) v (a7 l [cls (s.top lo)])=v:=by
 rw[R0X,R0X,T0Q _ h.V6,T0P _ h.V6,h.N3,if_neg c,if_neg d,if_neg c];exact⟨rfl,rfl⟩
theorem V0y (hR:L2 l=true)(h1:1<=g)(j:g<=T)(J:T<=9){w:List Int}:∀{s:Tm} {lo k:Nat} {P:Pt} {v:List Int},At l lo s->Fit w s k P->v.length=1+2*T->pr (b0Q l v (o6 s lo k P)) g=S6 (g:Int) s k P (pr v g):=by
 intro s;have q:∀{evs:List (Nat×Int)} {v:List Int},v.length=1+2*T->(b0Q l v evs).length=1+2*T:=fun h=>by grind [T0T]
 have nil:∀v:List Int,b0Q l v []=v:=fun _=>rfl
 induction s with
 |eps=>
  intro lo k P v h f d;have e:Tm.top .eps lo=lo:=by rfl
  grind [R02,Tm.node,o6,J0A,S6]
 |leaf S=>
  intro lo k P v h f d;have e:Tm.top (.leaf S) lo=lo:=by rfl
  have p:=fun k v=>R02 h (by simp[Tm.node]) (by simp[Tm.node]) k v
  simp_all[o6,J0A,S6]
 |cat a b ia ib=>
  intro lo k P v h f d;cases f with | @cat _ _ _ x y f1 f2=>
  obtain⟨ha,I,_⟩:=(At.bin (t:=.cat a b) rfl rfl).1 h;have p:=fun k v=>R02 h (by simp[Tm.node]) (by simp[Tm.node]) k v
  simp_all[o6,J0A,u0B,S6]
 |alt a b ia ib=>
  intro lo k P v h f d;obtain⟨ha,I,_⟩:=(At.bin (t:=.alt a b) rfl rfl).1 h;have p:=fun k v=>R02 h (by simp[Tm.node]) (by simp[Tm.node]) k v;cases f with
  |altL f=>
   simp_all[o6,J0A,u0B,S6]
  |altR f=>
   simp_all[o6,J0A,u0B,S6]
 |star a ia=>
  intro lo k P v h f d;have ha:=((At.un (t:=.star a) rfl rfl).1 h).1;have p:=fun k v=>R02 h (by simp[Tm.node]) (by simp[Tm.node]) k v;simp only[o6,J0A,u0B,(p _ _).1,(p _ _).2,nil,S6];have key:∀(P:Pt) (k:Nat) (v:List Int),Fit w (.star a) k P->v.length=1+2*T->pr (b0Q l v (stw (fun k x=>o6 a lo k x) k P)) g=stG (fun k x c=>S6 (g:Int) a k x c) k P (pr v g):=by
   intro P
   induction P with
   |nil=>intro k v _ _;rfl
   |byte=>intro k v f _;cases f
   |one x _=>intro k v f _;cases f
   |other x _=>intro k v f _;cases f
   |two x r _ ir=>
    intro k v f d;cases f with|star f1 _ f2=>
    simp_all[stw,stG,u0B]
  simp_all
 |maybe a ia=>
  intro lo k P v h f d;have ha:=((At.un (t:=.maybe a) rfl rfl).1 h).1;have p:=fun k v=>R02 h (by simp[Tm.node]) (by simp[Tm.node]) k v;cases f with
  |maybe0=>simp_all[o6,J0A,S6]
  |maybe f=>
   simp_all[o6,J0A,u0B,S6]
 |group m a ia=>
  intro lo k P v h f d;have ha:=((At.un (t:=.group m a) rfl rfl).1 h).1;have hn:=U0w hR _ _ h;cases f with | @group _ _ _ x f=>
  have ho:a7 l [E1 (Tm.top (.group m a) lo)]=[⟨1,m⟩]:=by rw[R0X,T0Q _ h.V6,h.N3];rfl
  have o:a7 l [cls (Tm.top (.group m a) lo)]=[⟨2,m⟩]:=by rw[R0X,T0P _ h.V6,h.N3];rfl
  have u:∀(k:Int) (v:List Int),v.length=1+2*T->pr (Z9 k (-1) v [⟨1,m⟩]) g=if m=(g:Int)then(k,(pr v g).2)else pr v g:=fun k v d=>T0m d h1 j 1 m (.inl rfl);have C:∀(k:Int) (v:List Int),v.length=1+2*T->pr (Z9 k (-1) v [⟨2,m⟩]) g=if m=(g:Int)then((pr v g).1,k)else pr v g:=fun k v d=>T0m d h1 j 2 m (.inr (.inl rfl));have i:(Z9 (k:Int) (-1) v [⟨1,m⟩]).length=1+2*T:=by simp_all[S0s]
  simp only[o6,J0A,u0B,nil,S6,ho,o];rw[C _ _ (q i),ia ha f i,u _ _ d]
  by_cases c:m=(g:Int)
  ·rw[if_pos c,if_pos c,if_pos c,U0Z f _ (by rw[<-c];exact hn.2.2.1)];rfl
  simp_all
 |iter a ia=>
  intro lo k P v h f d;have ha:=((At.un (t:=.iter a) rfl rfl).1 h).1;cases f with | @iter _ _ x f=>
  have ho:a7 l [E1 (Tm.top (.iter a) lo)]=(B9 l (Tm.top (.iter a) lo:Int)).map fun g=>⟨3,g⟩:=by rw[R0X,T0Q _ h.V6,h.N3];rfl
  have o:a7 l [cls (Tm.top (.iter a) lo)]=[]:=by rw[R0X,T0P _ h.V6,h.N3];rfl
  have hg:=T0w hR h (g:=g) O';simp only[A7]at hg;simp only[o6,J0A,u0B,nil,S6,ho,o,V0u];rw[ia ha f (by simp_all[S0s]),U0W h1 j _ _ d]
  simp_all
end
def unS (y:List g0p)(gs:List Int):List g0p:=gs.foldl (fun y g=>y.set g.toNat ⟨-1,-1⟩) y
def b0N (l:List C0)(y:List g0p)(e:g0A):List g0p:=
 if(gt l e.Node).Kind=8 then unS (if(gt l e.Node).Kind=7 then y.set (gt l e.Node).N.toNat ⟨e.From,e.To⟩else y) (B9 l e.Node)
 else if(gt l e.Node).Kind=7 then y.set (gt l e.Node).N.toNat ⟨e.From,e.To⟩else y
theorem S0v:∀(gs:List Int) (y:List g0p),(unS y gs).length=y.length
 |[],y=>rfl
 |g :: r,y=>by unfold unS;exact(S0v r _).trans Z'
theorem U0m (l:List C0)(y:List g0p)(e:g0A):(b0N l y e).length=y.length:=by
 grind [b0N,S0v]
theorem S0V (l:List C0)(es:List g0A):∀y,(es.foldl (b0N l) y).length=y.length:=by
 induction es with
 |nil=>simp
 |cons e r c=>simp_all[U0m]
def pm (x:g0p):Int×Int:=(x.From,x.To)
section
variable {l:List C0}{t:Tm}{T g:Nat}{F:Nat}
theorem U05 {g:Nat}:∀(gs:List Int) (y:List g0p),(∀x∈gs,0<=x/\x<y.length)->pm (gt (unS y gs) (g:Int))=if(g:Int)∈gs then(-1,-1)else pm (gt y (g:Int))
 |[],y,_=>by simp[unS]
 |x :: r,y,h=>by
  have i:=h x Z';have d:=U05 (g:=g) r (y.set x.toNat ⟨-1,-1⟩) (fun z f=>by simp_all);have e:unS y (x :: r)=unS (y.set x.toNat ⟨-1,-1⟩) r:=rfl;rw[e,d,c0d O']
  by_cases c:(g:Int)∈r
  ·simp_all
  ·rw[if_neg c]
   by_cases c2:g=x.toNat
   ·rw[if_pos c2,if_pos (show(g:Int)∈x :: r by grind)];rfl
   grind
theorem T0d (hR:L2 l=true)(d:I4 l t)(u:e0T l=T){q x:Int}(h:x∈B9 l q):1<=x/\x<=T:=by
 have r:=H0X h;obtain⟨k,rfl⟩:∃k:Nat,x=(k:Int):=⟨x.toNat,O'⟩
 have o:=e06 hR;have c:∃y∈l,isG (k:Int) y=true:=by
  unfold B9 at h;split at h
  ·cases h
  ·rw[U0H O',any_eq_true]at h;obtain⟨y,h1,f⟩:=h;exact⟨y,List.mem_of_mem_drop (List.mem_of_mem_take h1),f⟩
 obtain⟨y,h1,f⟩:=c;have i:y.Kind=7/\y.N=(k:Int):=by simp_all[isG]
 have p:=o.grp y h1 i.1;have j:A7 t (k:Int)=true:=by
  rw[<-S0m (k:Int) t 0,<-d.eq,any_eq_true]
  grind
 have:=T0N hR d j O' O';omega
theorem M0j {s:Tm}{lo:Nat}(h:At l lo s)(c:(s.node lo).Kind≠7)(f:(s.node lo).Kind≠8)(d a b:Int)(y:List g0p):b0N l y ⟨d,(s.top lo:Int),a,b⟩=y:=by
 unfold b0N;simp only[h.N3,if_neg c,if_neg f]
theorem W0k (hR:L2 l=true)(p:I4 l t)(J:e0T l=T)(h1:1<=g)(U:g<=T){w:List Int}:∀{s:Tm} {lo d k:Nat} {P:Pt} {y:List g0p},At l lo s->Fit w s k P->y.length=T+1->pm (gt ((o4 s lo d k P).foldl (b0N l) y) (g:Int))=S6 (g:Int) s k P (pm (gt y (g:Int))):=by
 have h9:T<=9:=by have:=n0H l;omega
 intro s;have R:∀{es:List g0A} {y:List g0p},y.length=T+1->(es.foldl (b0N l) y).length=T+1:=fun h=>by grind [S0V]
 induction s with
 |eps=>
  grind [o4,S6,M0j,Tm.node]
 |leaf S=>
  grind [o4,S6,M0j,Tm.node]
 |cat a b ia ib=>
  intro lo d k P y h f i;cases f with | @cat _ _ _ x x' f1 f2=>
  obtain⟨ha,I,_⟩:=(At.bin (t:=.cat a b) rfl rfl).1 h
  grind [o4,S6,M0j,Tm.node]
 |alt a b ia ib=>
  intro lo d k P y h f i;obtain⟨ha,I,_⟩:=(At.bin (t:=.alt a b) rfl rfl).1 h;cases f with
  |altL f=>
   grind [o4,S6,M0j,Tm.node]
  |altR f=>
   grind [o4,S6,M0j,Tm.node]
 |star a ia=>
  intro lo d k P y h f i;have ha:=((At.un (t:=.star a) rfl rfl).1 h).1;simp only[o4,foldl_cons,S6,M0j h (by simp[Tm.node]) (by simp[Tm.node])];have key:∀(P:Pt) (k:Nat) (y:List g0p),Fit w (.star a) k P->y.length=T+1->pm (gt ((stE (fun k x=>o4 a lo (d+1) k x) k P).foldl (b0N l) y) (g:Int))=stG (fun k x c=>S6 (g:Int) a k x c) k P (pm (gt y (g:Int))):=by
   intro P
   induction P with
   |nil=>intro k y _ _;rfl
   |byte=>intro k y f _;cases f
   |one x _=>intro k y f _;cases f
   |other x _=>intro k y f _;cases f
   |two x r _ ir=>
    intro k y f i;cases f with|star f1 _ f2=>
    simp_all[stE,stG]
  simp_all
 |maybe a ia=>
  intro lo d k P y h f i;have ha:=((At.un (t:=.maybe a) rfl rfl).1 h).1;cases f with
  |maybe0=>grind [o4,S6,M0j,Tm.node]
  |maybe f=>
   grind [o4,S6,M0j,Tm.node]
 |group m a ia=>
  intro lo d k P y h f i;have ha:=((At.un (t:=.group m a) rfl rfl).1 h).1;have hn:=U0w hR _ _ h;cases f with | @group _ _ _ x f=>
  have e:∀o j b',b0N l y ⟨o,(Tm.top (.group m a) lo:Int),j,b'⟩=y.set m.toNat ⟨j,b'⟩:=fun o j b'=>by
   unfold b0N;simp only[h.N3,Tm.node];simp
  have q:A7 t m=true:=by
   have C:(gt l (Tm.top (.group m a) lo:Int))∈l:=b8 h.V6;rw[<-S0m m t 0,<-p.eq,any_eq_true];exact⟨_,C,by rw[h.N3];simp[isG,Tm.node]⟩
  have hm:=T0N hR p q hn.1 hn.2.1;simp only[o4,foldl_cons,S6,e];rw[ia ha f (by simp_all),c0d O'];have v:=hn.1
  by_cases c:m=(g:Int)
  ·rw[if_pos O',if_pos c,U0Z f _ (by rw[<-c];exact hn.2.2.1)];simp only[pm,Pt.wid]
  grind
 |iter a ia=>
  intro lo d k P y h f i;have ha:=((At.un (t:=.iter a) rfl rfl).1 h).1;cases f with | @iter _ _ x f=>
  have e:∀o j b',b0N l y ⟨o,(Tm.top (.iter a) lo:Int),j,b'⟩=unS y (B9 l (Tm.top (.iter a) lo:Int)):=fun o j b'=>by
   unfold b0N;simp only[h.N3,Tm.node];simp
  have hg:=T0w hR h (g:=g) O';simp only[A7]at hg;simp only[o4,foldl_cons,S6,e];rw[ia ha f (by rw[S0v];exact i),U05 _ _ (fun x u=>by have:=T0d hR p J u;omega)];congr 1
  by_cases c:A7 a (g:Int)=true
  ·rw[if_pos c,if_pos (hg.2 c)]
  ·rw[if_neg c,if_neg (fun h=>c (hg.1 h))]
theorem V0a (hR:L2 l=true)(c:I4 l t)(f:e0T l=T):∀(es:List g0A) (y:List g0p),y.length=T+1->(∀e∈es,0<=e.Node/\e.Node<(l.length:Int))->gt (es.foldl (b0N l) y) 0=gt y 0
 |[],y,_,_=>rfl
 |e :: r,y,hy,h=>by
  rw[foldl_cons,V0a hR c f r _ (by simp_all[U0m]) (fun e he=>h e (List.mem_cons_of_mem _ he))];have k:=e06 hR;obtain⟨q,p⟩:∃q:Nat,e.Node=(q:Int):=⟨e.Node.toNat,by grind⟩
  have j:q<l.length:=by simp_all
  have s7:(gt l e.Node).Kind=7->gt (y.set (gt l e.Node).N.toNat ⟨e.From,e.To⟩) 0=gt y 0:=fun o=>by
   have:=(k.grp _ (by simp_all[b8]) o).1
   grind [Y9]
  have i:∀(gs:List Int) (y:List g0p),(∀x∈gs,1<=x)->gt (unS y gs) 0=gt y 0:=by
   intro gs
   induction gs with
   |nil=>intro y _;rfl
   |cons x r ih=>
    intro y h;have d:=h x Z';have e:unS y (x :: r)=unS (y.set x.toNat ⟨-1,-1⟩) r:=rfl
    grind [Y9]
  unfold b0N;split
  ·rw[i _ _ (fun x d=>(T0d hR c f d).1)]
   simp_all
  grind
theorem V0n {w:List Int}{s:Tm}{k:Nat}{P:Pt}(f:Fit w s k P):∀{lo d:Nat},At l lo s->∀e∈o4 s lo d k P,0<=e.Node/\e.Node<(l.length:Int):=by
 have top:∀{s:Tm} {lo:Nat},At l lo s->∀d a b:Int,∀r:List g0A,(∀e∈r,0<=e.Node/\e.Node<(l.length:Int))->∀e∈(⟨d,(s.top lo:Int),a,b⟩:g0A) :: r,0<=e.Node/\e.Node<(l.length:Int):=by
  intro s lo h d a b r i e he;rcases List.mem_cons.1 he with rfl|he
  ·have:=h.V6;simp_all
  simp_all
 have no:∀e∈([]:List g0A),0<=e.Node/\e.Node<(l.length:Int):=Z'
 induction f with
 |eps=>intro lo d h;exact top h _ _ _ _ no
 |leaf _ _=>intro lo d h;exact top h _ _ _ _ no
 |@cat a b _ _ _ _ _ i1 i2=>
  intro lo d h;obtain⟨ha,j,_⟩:=(At.bin (t:=.cat a b) rfl rfl).1 h;refine top h _ _ _ _ fun e he=>?_
  grind
 |@altL a b _ _ _ c=>intro lo d h;exact top h _ _ _ _ (c ((At.bin (t:=.alt a b) rfl rfl).1 h).1)
 |@altR a b _ _ _ c=>intro lo d h;exact top h _ _ _ _ (c ((At.bin (t:=.alt a b) rfl rfl).1 h).2.1)
 |star0=>intro lo d h;exact top h _ _ _ _ no
 |@star a _ _ _ _ _ _ i1 i2=>
  intro lo d h;refine top h _ _ _ _ fun e he=>?_;rcases List.mem_append.1 he with he|he
  ·exact i1 ((At.un (t:=.star a) rfl rfl).1 h).1 e he
  ·exact i2 h e (List.mem_cons_of_mem _ he)
 |maybe0=>intro lo d h;exact top h _ _ _ _ no
 |@maybe a _ _ _ _ c=>intro lo d h;exact top h _ _ _ _ (c ((At.un (t:=.maybe a) rfl rfl).1 h).1)
 |@group m a _ _ _ c=>intro lo d h;exact top h _ _ _ _ (c ((At.un (t:=.group m a) rfl rfl).1 h).1)
 |@iter a _ _ _ c=>intro lo d h;exact top h _ _ _ _ (c ((At.un (t:=.iter a) rfl rfl).1 h).1)
def V0X (s:Tm)(lo d k:Nat)(P:Pt):∃r,o4 s lo d k P=(⟨(d:Int),(s.top lo:Int),(k:Int),((k+P.wid:Nat):Int)⟩:g0A) :: r:=by
 cases s<;>exact⟨_,rfl⟩
theorem W0B (hR:L2 l=true)(h:I4 l t)(hT:e0T l=T)(hl:l.length*64<=140737488351232)(hf:401<F)(v:l.length+1<F){es:List g0A}{i:Nat}(hi:i<es.length)(he:0<=(gt es (i:Int)).Node/\(gt es (i:Int)).Node<(l.length:Int))(hb:i<=1000000000){y:List g0p}(hy:y.length=T+1):
  Q0V F l es ((i:Int),y)=some (.next (((i+1:Nat):Int),b0N l y (gt es (i:Int)))):=by
 have C:=e06 hR;have d1:(i:Int)<(es.length:Int):=O'
 have j:y0 es (i:Int)=true:=V0 O' d1;unfold Q0V;dsimp only;generalize gt es (i:Int)=e at *;have d2:¬e.Node<0:=O'
 have d3:¬e.Node>=(l.length:Int):=O'
 have c:y0 l e.Node=true:=V0 he.1 he.2;obtain⟨q,hq⟩:∃q:Nat,e.Node=(q:Int):=⟨e.Node.toNat,O'⟩
 have d:gt l e.Node∈l:=by simp_all[b8]
 simp only[q0,d1,j,d2,d3,c,X1 (i:=i) O'];have U:∀y':List g0p,y'.length=T+1->iter (S0d F (B9 l e.Node)) F (0,y')=some (unS y' (B9 l e.Node)):=fun y' a1=>by
  have r:=i06 l e.Node;have:=H3 (step:=S0d F (B9 l e.Node)) (fun k=>((k:Int),unS y' ((B9 l e.Node).take k))) (unS y' (B9 l e.Node)) (B9 l e.Node).length (fun k hk=>.inl ?_) ?_ (B9 l e.Node).length 0 F O' O'
  ·simp_all[unS]
  ·unfold S0d;have p:(k:Int)<((B9 l e.Node).length:Int):=O'
   have k2:=T0d hR h hT (b8 hk);have R:(B9 l e.Node).take (k+1)=(B9 l e.Node).take k++[gt (B9 l e.Node) (k:Int)]:=by grind [List.take_succ,P4]
   have J:y0 (unS y' ((B9 l e.Node).take k)) (gt (B9 l e.Node) (k:Int))=true:=V0 O' (by grind [S0v]);have u:unS y' ((B9 l e.Node).take (k+1))=(unS y' ((B9 l e.Node).take k)).set (gt (B9 l e.Node) (k:Int)).toNat ⟨-1,-1⟩:=by simp_all[unS]
   simp only[p,decide_true,if_true,V0 (l:=B9 l e.Node) (i:=(k:Int)) O' p,J,X1 (i:=k) O',u]
  simp[S0d]
 unfold b0N
 by_cases I:(gt l e.Node).Kind=7
 ·have o:=C.grp _ d I;have x:(gt l e.Node).N<=T:=by
   have f:A7 t (gt l e.Node).N=true:=by
    rw[<-S0m _ t 0,<-h.eq,any_eq_true]
    grind [isG]
   have:=T0N hR h f o.1 o.2;omega
  grind [V0]
 grind [H0n]
theorem U0t (hR:L2 l=true)(u:I4 l t)(hl:l.length*64<=140737488351232)(hf:2000<F)(x:l.length+1<F)(R:U6 F l=some true){w:List Int}{i:Nat}{P:Pt}(f:Fit w t i P)(hlen:(o4 t 0 1 i P).length<F)(c3:(o4 t 0 1 i P).length<=1000000000):
  Q0R F l (o4 t 0 1 i P)=some (f02 (b0Q l (k0o l (i:Int)) (o6 t 0 i P)) ((i+P.wid:Nat):Int)):=by
 have c6:=n0H l;obtain⟨T,I⟩:∃T:Nat,e0T l=T:=⟨(e0T l).toNat,O'⟩
 have h9:T<=9:=O'
 unfold Q0R;rw[R,N0f hR hl O' x,I];have hW:W ((T:Int)+1)=((T+1:Nat):Int):=X1 O';have b5:R2 16 ((T+1:Nat):Int)=true:=by grind [R2]
 simp only[q0,hW,b5,Int.toNat_natCast];have h5:iter (S0h F) F (0,List.replicate (T+1) (⟨0,0⟩:g0p))=some (List.replicate (T+1) (⟨-1,-1⟩:g0p)):=by
  have:=H3 (step:=S0h F) (fun k=>((k:Int),List.replicate k (⟨-1,-1⟩:g0p)++List.replicate (T+1-k) (⟨0,0⟩:g0p))) (List.replicate (T+1) (⟨-1,-1⟩:g0p)) (T+1) (fun k hk=>.inl ?_) ?_ (T+1) 0 F O' O'
  ·simp_all
  ·unfold S0h;have hlen:(List.replicate k (⟨-1,-1⟩:g0p)++List.replicate (T+1-k) (⟨0,0⟩:g0p)).length=T+1:=by grind
   have k1:(k:Int)<((List.replicate k (⟨-1,-1⟩:g0p)++List.replicate (T+1-k) (⟨0,0⟩:g0p)).length:Int):=O'
   simp only[k1,decide_true,if_true,V0 O' k1,X1 (i:=k) O',Int.toNat_natCast];have k2:(List.replicate k (⟨-1,-1⟩:g0p)++List.replicate (T+1-k) (⟨0,0⟩:g0p)).set k ⟨-1,-1⟩=List.replicate (k+1) (⟨-1,-1⟩:g0p)++List.replicate (T+1-(k+1)) (⟨0,0⟩:g0p):=by
    rw[show T+1-k=(T+1-(k+1))+1 from O',List.replicate_succ,List.set_append_right _ _ Z',List.length_replicate,Nat.sub_self,List.set_cons_zero]
    grind [List.replicate_succ']
   rw[k2]
  simp[S0h]
 rw[h5];obtain⟨r,hr⟩:=V0X t 0 1 i P;have U:gt (o4 t 0 1 i P) 0=⟨1,(t.top 0:Int),(i:Int),((i+P.wid:Nat):Int)⟩:=by rw[hr];rfl
 have C:((o4 t 0 1 i P).length:Int)>0:=by simp_all
 have b2:y0 (o4 t 0 1 i P) 0=true:=V0 O' O';have b4:y0 (List.replicate (T+1) (⟨-1,-1⟩:g0p)) 0=true:=V0 O' Z';simp only[q0,C,b2,b4,U,show(0:Int).toNat=0 from rfl];have o:((List.replicate (T+1) (⟨-1,-1⟩:g0p)).set 0 ⟨(i:Int),((i+P.wid:Nat):Int)⟩).length=T+1:=Z'
 generalize hY:(List.replicate (T+1) (⟨-1,-1⟩:g0p)).set 0 ⟨(i:Int),((i+P.wid:Nat):Int)⟩=Y at *;have p:=V0n f (l:=l) (d:=1) u.at0;have q:iter (Q0V F l (o4 t 0 1 i P)) F (0,Y)=some ((o4 t 0 1 i P).foldl (b0N l) Y):=by
  have:=H3 (step:=Q0V F l (o4 t 0 1 i P)) (fun k=>((k:Int),((o4 t 0 1 i P).take k).foldl (b0N l) Y)) ((o4 t 0 1 i P).foldl (b0N l) Y) (o4 t 0 1 i P).length (fun k hk=>.inl ?_) ?_ (o4 t 0 1 i P).length 0 F O' O'
  ·simp_all
  ·have c4:(o4 t 0 1 i P).take (k+1)=(o4 t 0 1 i P).take k++[gt (o4 t 0 1 i P) (k:Int)]:=by rw[List.take_succ,P4 hk];rfl
   rw[c4,List.foldl_append];exact W0B hR u I hl O' x hk (p _ (b8 hk)) O' (by rw[S0V];exact o)
  simp[Q0V]
 rw[q];simp only[G0,Option.some.injEq];have hv:(k0o l (i:Int)).length=1+2*T:=by rw[B0S];unfold C4;rw[I];omega
 have b3:(b0Q l (k0o l (i:Int)) (o6 t 0 i P)).length=1+2*T:=by rw[T0T];exact hv
 unfold f02;rw[b3,if_neg O',show(1+2*T) / 2=T from O'];have b1:∀(v:List Int) (to:Int) (k g:Nat),g<=k->(b0u v to k)[g]?=some (if g=0 then f0e (gt v 0) to else f0e (pr v g).1 (pr v g).2):=by
  intro v to k
  induction k with
  |zero=>
       intro g hg;obtain rfl:g=0:=O'
       rfl
  |succ k ih=>
   intro g hg;simp only[b0u];rcases Nat.lt_or_ge k g with c|c
   ·obtain rfl:g=k+1:=O'
    rw[List.getElem?_append_right (by rw[K0v];omega),K0v,Nat.sub_self,if_neg O'];unfold pr;rw[show 2*(k+1)-1=2*k+1 from O',show 2*(k+1)=2*k+2 from O'];rfl
   ·rw[List.getElem?_append_left (by rw[K0v];omega)];exact ih g c
 apply List.ext_getElem?;intro g;rcases Nat.lt_or_ge T g with c|c
 ·rw[List.getElem?_eq_none (by rw[S0V,o];omega),List.getElem?_eq_none (by rw[K0v];omega)]
 ·rw[b1 _ _ _ _ c,P4 (by rw[S0V,o];omega)]
  by_cases c0:g=0
  ·subst c0;rw[if_pos rfl];have e0:=V0a hR u I (o4 t 0 1 i P) Y o p;rw[show((0:Nat):Int)=0 from rfl,e0,T08 (T:=T) _ _ hv];have J:gt Y 0=⟨(i:Int),((i+P.wid:Nat):Int)⟩:=by
    rw[<-hY];exact d0x (i:=0) Z'
   have e2:gt (k0o l (i:Int)) 0=(i:Int):=by
    unfold k0o;exact d0x (i:=0) (by simp;unfold C4;omega)
   rw[J,e2];unfold f0e;rw[if_neg O']
  ·rw[if_neg c0,V0y hR (show 1<=g from O') c h9 u.at0 f hv];have J:=W0k (d:=1) hR u I (show 1<=g from O') c u.at0 f o;have e2:pm (gt Y (g:Int))=(-1,-1):=by
    have:gt Y (g:Int)=⟨-1,-1⟩:=by
     rw[<-hY,c0d (by rw[List.length_replicate];omega),if_neg c0];exact X2 (by rw[List.getElem?_replicate,if_pos O'])
    rw[this];rfl
   have e3:pr (k0o l (i:Int)) g=(-1,-1):=by
    have h:∀j:Nat,1<=j->j<1+2*T->gt (k0o l (i:Int)) (j:Int)=-1:=fun j h1 h2=>by
     have a1:(C4 l).toNat=1+2*T:=by unfold C4;omega
     unfold k0o;rw[a1,c0d (by rw[List.length_replicate];omega),if_neg O'];exact X2 (by rw[List.getElem?_replicate,if_pos O'])
    unfold pr;rw[h _ O' O',h _ O' O']
   rw[e2]at J;rw[e3];have y:=W0a (g:=(g:Int)) f (-1,-1) (.inl rfl);rw[<-J]at y ⊢;generalize gt ((o4 t 0 1 i P).foldl (b0N l) Y) (g:Int)=sp at *;obtain⟨x1,x2⟩:=sp;have hs:f0e x1 x2=⟨x1,x2⟩:=by
    have c5:Wh (x1,x2):=y;unfold f0e;rcases c5 with h|⟨h,h'⟩
    ·cases h;rfl
    ·simp only at h h';rw[if_neg O']
   exact congrArg some hs.symm
end
theorem Fit.more {w v:List Int}{k:Nat}(hk:∀j,j<k->j<w.length->j<v.length/\gt v (j:Int)=gt w (j:Int)){s:Tm}{i:Nat}{P:Pt}(h:Fit w s i P):i+P.wid<=k->Fit v s i P:=by
 induction h with
 |eps=>exact fun _=>.eps
 |@leaf S i h1 h2=>
  grind [Pt.wid,leaf]
 |cat _ _ d i2=>intro h;simp only[Pt.wid]at h;exact .cat (d O') (i2 O')
 |altL _ c=>exact fun h=>.altL (c h)
 |altR _ c=>exact fun h=>.altR (c h)
 |star0=>exact fun _=>.star0
 |star _ hp _ d i2=>intro h;simp only[Pt.wid]at h;exact .star (d O') hp (i2 O')
 |maybe0=>exact fun _=>.maybe0
 |maybe _ hp c=>exact fun h=>.maybe (c h) hp
 |group _ c=>exact fun h=>.group (c h)
 |iter _ c=>exact fun h=>.iter (c h)
theorem Fit.end {w:List Int}{s:Tm}{i:Nat}{P:Pt}(h:Fit w s i P):0<P.wid->i+P.wid<=w.length:=by
 induction h with
 |eps=>simp[Pt.wid]
 |leaf h1 _=>grind [Pt.wid]
 |@cat _ _ _ x y _ _ i1 i2=>
  grind [Pt.wid]
 |altL _ c=>exact c
 |altR _ c=>exact c
 |star0=>simp[Pt.wid]
 |@star _ _ x r _ _ _ i1 i2=>
  grind [Pt.wid]
 |maybe0=>simp[Pt.wid]
 |maybe _ _ c=>exact c
 |group _ c=>exact c
 |iter _ c=>exact c
theorem X0d {w:List Int}{s:Tm}{k:Nat}{P:Pt}(f:Fit w s k P):∀lo d,(o4 s lo d k P).length<=s.size+s.size*s.size*P.wid:=by
 have mono:∀{a b c:Nat},a<=b->a*a*c<=b*b*c:=fun h=>Nat.mul_le_mul_right _ (Nat.mul_le_mul h h)
 induction f with
 |eps=>simp[o4,Tm.size]
 |leaf _ _=>simp[o4,Tm.size]
 |@cat a b i x y _ _ i1 i2=>
  intro lo d;have m1:=mono (c:=x.wid) (show a.size<=a.size+b.size+1 from O');have m2:=mono (c:=y.wid) (show b.size<=a.size+b.size+1 from O')
  grind [o4,Tm.size,Pt.wid,Nat.mul_add]
 |@altL a b i x _ ih=>
  intro lo d;have m1:=mono (c:=x.wid) (show a.size<=a.size+b.size+1 from O')
  grind [o4,Tm.size,Pt.wid]
 |@altR a b i x _ ih=>
  intro lo d;have m1:=mono (c:=x.wid) (show b.size<=a.size+b.size+1 from O')
  grind [o4,Tm.size,Pt.wid]
 |star0=>simp[o4,stE,Tm.size,Pt.wid]
 |@star a i x r _ hp _ i1 i2=>
  intro lo d;have j:=i2 lo d;have m1:a.size+a.size*a.size*x.wid<=(a.size+1)*(a.size+1)*x.wid:=by
   have e:(a.size+1)*(a.size+1)*x.wid=a.size*a.size*x.wid+a.size*x.wid+(a.size+1)*x.wid:=by
    grind
   have:a.size<=a.size*x.wid:=Nat.le_mul_of_pos_right _ hp;omega
  grind [o4,stE,Tm.size,Pt.wid,Nat.mul_add]
 |maybe0=>simp[o4,Tm.size,Pt.wid]
 |@maybe a i x _ _ ih=>
  intro lo d;have h1:=ih lo (d+1);have m1:=mono (c:=x.wid) (show a.size<=a.size+1 from O')
  grind [o4,Tm.size,Pt.wid]
 |@group m a i x _ ih=>
  intro lo d;have h1:=ih lo (d+1);have m1:=mono (c:=x.wid) (show a.size<=a.size+1 from O')
  grind [o4,Tm.size,Pt.wid]
 |@iter a i x _ ih=>
  intro lo d;have h1:=ih lo (d+1);have m1:=mono (c:=x.wid) (show a.size<=a.size+1 from O')
  grind [o4,Tm.size,Pt.wid]
section
variable {F:Nat}{l:List C0}{n:Nat}{a:List B0}{b:Nat->List B0}{e:Nat->B0×Bool}{z:B0×Bool}{t:Tm}{w:List Int}
def U0S (K:U3 l n a b e z F)(hw:∀x∈l,P2 x)(c:I4 l t):∀m,m<=w.length->∃G,CrI w l n t m (R08 l n a b w m) G (fun i=>i=0) (fun i=>i=0)
 |0,_=>⟨fun _=>(0,.leaf),.zero _ _ _ _ _ _ _⟩
 |m+1,h=>by
  obtain⟨G,I⟩:=U0S K hw c m O';exact I.step K hw c O' (m==0) (fun _ h=>h) (fun h=>by simp_all) (fun _ _ h=>h) (fun h=>by simp_all)
def U08 (k:I4 l t){w:List Int}(j:w.length<=64){i:Nat}{P:Pt}(f:Fit w t i P):(o4 t 0 1 i P).length<=100000000:=by
 have h:=X0d f 0 1;have d:=k.le;have hw:P.wid<=64:=by
  by_cases c:0<P.wid
  ·have:=f.end c;omega
  ·omega
 have h1:t.size*t.size<=400*400:=Nat.mul_le_mul d d;have o:t.size*t.size*P.wid<=400*400*64:=Nat.mul_le_mul h1 hw;omega
theorem T01 (K:U3 l n a b e z F)(hw:∀x∈l,P2 x)(h:I4 l t)(w:List Int):((s0N l z 0).2=t.can)/\(t.can=true->Fit w t 0 (emp t)/\(emp t).wid=0/\Mn w t 0 (emp t)/\(s0N l z 0).1=b0Q l (k0o l 0) (o6 t 0 0 (emp t))):=by
 have j:=(T0H K hw h).2;have f:t.steps 0≠[]:=by cases t<;>simp[Tm.steps]
 have d:z.2=t.can/\(t.can=true->z.1.Steps=t.steps 0):=by
  grind [Z8]
 unfold s0N;cases c:t.can with
 |false=>simp_all
 |true=>
  rw[d.1,c,d.2 c];refine⟨rfl,fun _=>⟨(f0j c).fit w 0,(f0j c).wid,fun Q h1 i=>T0D (h1.emp (by rw[<-i];exact(f0j c).wid)),?_⟩⟩
  simp_all[T0h,S0Y]
def i0U (l:List C0)(n:Nat)(a:List B0)(b:Nat->List B0)(e:Nat->B0×Bool)(z:B0×Bool)(w:List Int)(m:Nat):List Int×Bool:=if m=0 then s0N l z 0 else(R08 l n a b w m).P6 l e
theorem V00 (K:U3 l n a b e z F)(hw:∀x∈l,P2 x)(f:I4 l t){m:Nat}(hm:m<=w.length):
  ((i0U l n a b e z w m).2=true->∃P,Fit w t 0 P/\P.wid=m/\Mn w t 0 P/\(i0U l n a b e z w m).1=b0Q l (k0o l 0) (o6 t 0 0 P))/\((i0U l n a b e z w m).2=false->∀P,Fit w t 0 P->P.wid=m->False):=by
 unfold i0U
 by_cases c:m=0
 ·rw[if_pos c];obtain⟨h1,p⟩:=T01 K hw f w;rw[h1];refine⟨fun h=>?_,fun h P i q=>?_⟩
  ·grind
  ·rw[(i.emp O').can]at h;cases h
 ·rw[if_neg c];obtain⟨G,I⟩:=U0S (w:=w) K hw f m hm;obtain⟨h1,p⟩:=I.P6 K hw f;refine⟨fun h=>?_,fun h P i q=>p h 0 P rfl i O' O'⟩;obtain⟨k,P,hk,B⟩:=h1 h;have r:(G k).1=0:=I.st0 k hk;have o:=B.fit;have j:=B.wid;have d:=B.tag;rw[r]at o j d;refine⟨P,o,O',fun Q u v=>?_,d⟩;have:=B.all 0 Q rfl u O' O'
  simp_all
def X0p (w:List Int){m:Nat}(hm:m<=w.length):G1 w 0 (m:Int)=w.take m:=by rfl
theorem X0G (K:U3 l n a b e z F)(hw:∀x∈l,P2 x)(f:I4 l t)(hl:l.length*64<=140737488351232)(I:∀x∈w,L5 .u8 x)(u:w.length<=64){m:Nat}(hm:m<=w.length):
  R03 F l (G1 w 0 (m:Int))=some (if(i0U l n a b e z w m).2 then(f02 (i0U l n a b e z w m).1 (m:Int),0)else([],7)):=by
 have f3:=K.f3;rw[X0p w hm];have hlen:(w.take m).length=m:=by simp_all
 have d:∀j,j<m->gt (w.take m) (j:Int)=gt w (j:Int):=fun j J=>by
  grind [t0O]
 have up:∀{s:Tm} {i:Nat} {P:Pt},Fit (w.take m) s i P->i+P.wid<=m->Fit w s i P:=fun h r=>h.more (fun j h1 p=>⟨O',(d j h1).symm⟩) r;have dn:∀{s:Tm} {i:Nat} {P:Pt},Fit w s i P->i+P.wid<=m->Fit (w.take m) s i P:=fun h r=>h.more (fun j h1 p=>⟨O',d j h1⟩) r;have q:∀x∈w.take m,L5 .u8 x:=fun x v=>I x (List.mem_of_mem_take v);obtain⟨r1,r2⟩:=V00 (w:=w) K hw f hm;unfold R03;rw[V0l f hw q O' O' K.TF.rR,hlen];cases c:(i0U l n a b e z w m).2 with
 |false=>
  grind [M0X]
 |true=>
  obtain⟨P,p1,R,y,U⟩:=r1 c;have k:=dn p1 O';have hd:den (w.take m) t 0 m=true:=by have:=k.den;simp_all
  have o:Mn (w.take m) t 0 P:=fun Q h1 p=>y Q (up h1 O') p;have hg:=U0k t 0 1 0 P k o;have C:=U08 f (show(w.take m).length<=64 from O') k;have hs:=U0t (F:=F) K.hR f hl O' K.f2 K.TF.rR k O' O'
  simp_all
end
section
variable {F:Nat}{l:List C0}{n:Nat}{a:List B0}{b:Nat->List B0}{e:Nat->B0×Bool}{z:B0×Bool}{t:Tm}{w:List Int}{m:Nat}{s:Cs}{G:Nat->Nat×Pp}{A B:Nat->Prop}
theorem T0e (i:Nat)(evs:List (Nat×Int)):gt (b0Q l (k0o l (i:Int)) evs) 0=(i:Int):=by
 have c:=n0H l;obtain⟨T,f⟩:∃T:Nat,e0T l=T:=⟨(e0T l).toNat,O'⟩
 have d:(k0o l (i:Int)).length=1+2*T:=by grind [B0S,C4]
 rw[T08 (T:=T) _ _ d]
 grind [k0o,d0x,C4]
def CrI.L0 (I:CrI w l n t m s G A B)(c:Nat){A' B':Nat->Prop}(hA:∀i,A i->i<=c->A' i)(hB:∀i,B' i->B i/\i<=c):∃G',CrI w l n t m (s.L0 (c:Int)) G' A' B':=by
 have p:∀k,k<(A0v s.vals (c:Int) s.pl.length).length->(A0v s.vals (c:Int) s.pl.length).getD k 0∈A0v s.vals (c:Int) s.pl.length:=fun k hk=>by
  simp_all
 have f:=fun k hk=>Q0X (p k hk);have d:∀k,k<s.pl.length->gt (gt s.vals (k:Int)) 0=((G k).1:Int):=fun k hk=>by
  obtain⟨j,_,_,_,_,hv⟩:=I.run k hk;rw[hv];exact T0e _ _
 have hlen:(s.L0 (c:Int)).pl.length=(A0v s.vals (c:Int) s.pl.length).length:=by simp[Cs.L0]
 have y:∀k,k<(A0v s.vals (c:Int) s.pl.length).length->(s.L0 (c:Int)).pl.getD k 0=s.pl.getD ((A0v s.vals (c:Int) s.pl.length).getD k 0) 0:=fun k hk=>U0E _ hk;refine⟨fun k=>G ((A0v s.vals (c:Int) s.pl.length).getD k 0),fun k hk=>?_,I.at_,x0y I.ok (T0i s.vals (c:Int) s.pl.length) (fun i h=>Q0X h),fun k hk=>?_,fun k U hk o hD=>?_,fun i j Y hj v R=>?_⟩
 ·rw[hlen]at hk;have h1:=f k hk;have h2:=(mem_filter.1 (p k hk)).2;have h3:gt (gt s.vals (((A0v s.vals (c:Int) s.pl.length).getD k 0:Nat):Int)) 0<=(c:Int):=by simp_all
  rw[d _ h1]at h3;exact hA _ (I.st0 _ h1) O'
 ·rw[hlen]at hk;obtain⟨j,e1,e2,e3,e4,e5⟩:=I.run _ (f k hk);have h:gt (s.L0 (c:Int)).vals (k:Int)=gt s.vals (((A0v s.vals (c:Int) s.pl.length).getD k 0:Nat):Int):=T0C (fun i:Nat=>gt s.vals (i:Int)) hk
  simp_all
 ·rw[hlen]at hk o;exact I.rel _ _ (f k hk) (f U o) hD
 ·obtain⟨b1,b2⟩:=hB i v;obtain⟨k,J,k2,C⟩:=I.cov i j Y hj b1 R;have x:k∈A0v s.vals (c:Int) s.pl.length:=by
   refine mem_filter.2 ⟨mem_range.2 J,?_⟩;have:gt (gt s.vals (k:Int)) 0<=(c:Int):=by
    rw[d k J];rcases C with h|⟨h,_⟩
    ·omega
    ·omega
   simpa using this
  obtain⟨q,u,eq⟩:=List.getElem_of_mem x;have r:(A0v s.vals (c:Int) s.pl.length).getD q 0=k:=by simp only[List.getD,List.getElem?_eq_getElem u,Option.getD_some];exact eq
  refine⟨q,by rw[hlen];exact u,by rw[y q u,r];exact k2,?_⟩;rw[r];exact C
structure U0l (w:List Int)(l:List C0)(t:Tm)(m:Nat)(tags:List Int)(i c:Nat)(P:Pt):Prop where
 fit:Fit w t i P
 wid:i+P.wid=c
 le:c<=m
 mn:Mn w t i P
 tag:tags=b0Q l (k0o l (i:Int)) (o6 t 0 i P)
 all:∀i' Q,Fit w t i' Q->i'+Q.wid<=m->i<i'\/(i=i'/\i'+Q.wid<=c)
structure HsI (w:List Int)(l:List C0)(n:Nat)(t:Tm)(m:Nat)(h:Hs):Prop where
 no:h.is=false->t.can=false/\(∃G,CrI w l n t m h.c G (fun _=>True) (fun _=>True))/\∀i P,Fit w t i P->i+P.wid<=m->False
 yes:h.is=true->∃i c P,h.to=((c:Nat):Int)/\U0l w l t m h.tags i c P/\(t.can=true->i=0)/\∃G,CrI w l n t m h.c G (fun j=>j<=i) (fun j=>j<=i)
theorem Fit.zero {s:Tm}{i:Nat}{Q:Pt}(h:Fit w s i Q)(c:Q.wid=0):s.can=true:=(h.emp c).can
def W08 (K:U3 l n a b e z F)(hw:∀x∈l,P2 x)(d:I4 l t)(w:List Int):HsI w l n t 0 (Hs.zero l z):=by
 obtain⟨h1,j⟩:=T01 K hw d w;refine⟨fun h=>?_,fun h=>?_⟩
 ·have c:t.can=false:=by rw[<-h1];exact h
  refine⟨c,⟨fun _=>(0,.leaf),.zero _ _ _ _ _ _ _⟩,fun i P f q=>?_⟩;rw[f.zero O']at c;cases c
 ·have c:t.can=true:=by rw[<-h1];exact h
  obtain⟨o,r,k,p⟩:=j c;exact⟨0,0,emp t,rfl,⟨o,O',Nat.le_refl _,k,p,fun u Q f q=>.inr ⟨O',O'⟩⟩,fun _=>rfl,fun _=>(0,.leaf),.zero _ _ _ _ _ _ _⟩
theorem X0w (K:U3 l n a b e z F)(hw:∀x∈l,P2 x)(u:I4 l t){h:Hs}(H:HsI w l n t m h)(b4:h.c.at_=m)(hm:m<w.length):HsI w l n t (m+1) (h.feed l n a b e (gt w (m:Int))):=by
 unfold Hs.feed;have a1:h.j0o l n a b (gt w (m:Int))=h.c.step l n a b (gt w (m:Int)) (h.c.at_==0||!h.is):=rfl;rw[a1];cases q:h.is with
 |false=>
  obtain⟨r,⟨G,I⟩,b3⟩:=H.no q;have hb:(h.c.at_==0||!false)=true:=Z'
  rw[hb];obtain⟨G1,I1⟩:=I.step K hw u hm true (A':=fun _=>True) (B':=fun _=>True) (fun _ _=>trivial) (fun _=>trivial) (fun _ _ _=>trivial) (fun _=>rfl);obtain⟨y,b2⟩:=I1.P6 K hw u;cases C:((h.c.step l n a b (gt w (m:Int)) true).P6 l e).2 with
  |false=>
   refine⟨fun _=>⟨r,⟨G1,I1⟩,fun i P f p=>?_⟩,fun h=>absurd h Z'⟩
   by_cases c1:P.wid=0
   ·rw[f.zero c1]at r;cases r
   grind
  |true=>
   refine⟨fun h=>absurd h Z',fun _=>?_⟩;obtain⟨k,P,hk,R⟩:=y C;have v:gt ((h.c.step l n a b (gt w (m:Int)) true).P6 l e).1 0=((G1 k).1:Int):=by rw[R.tag];exact T0e _ _
   rw[v];obtain⟨G2,I2⟩:=I1.L0 (G1 k).1 (A':=fun j=>j<=(G1 k).1) (B':=fun j=>j<=(G1 k).1) (fun _ _ h=>h) (fun _ h=>⟨trivial,h⟩);refine⟨(G1 k).1,m+1,P,I1.at_,⟨R.fit,R.wid,Nat.le_refl _,fun Q J q2=>?_,R.tag,fun d Q f p=>?_⟩,fun h=>(by simp_all),G2,I2⟩
   ·have:=R.wid;have:=R.pos;rcases R.all _ Q trivial J O' O' with h|⟨_,h⟩
    ·omega
    omega
   ·by_cases c1:Q.wid=0
    ·rw[f.zero c1]at r;cases r
    ·by_cases c2:d+Q.wid<=m
     ·grind
     ·rcases R.all d Q trivial f O' O' with h|⟨h,_⟩
      ·omega
      omega
 |true=>
  obtain⟨i0,c0,P0,U,Fn,o,G,I⟩:=H.yes q;have hb:(h.c.at_==0||!true)=(m==0):=by grind
  rw[hb];have b5:m=0->i0=0:=fun v=>by have:=Fn.wid;have:=Fn.le;omega
  obtain⟨G1,I1⟩:=I.step K hw u hm (m==0) (A':=fun j=>j<=i0) (B':=fun j=>j<=i0) (fun _ h=>h) (fun h=>(show m<=i0 by simp_all)) (fun _ _ h=>h) (fun h=>by
    have:=Fn.wid;have:=Fn.le;have:m=0:=by
     rcases Nat.eq_zero_or_pos m with h|h
     ·exact h
     ·-- what is found began by m
      have hz:P0.wid=0:=O'
      have:=o (Fn.fit.zero hz);omega
    grind)
  obtain⟨y,b2⟩:=I1.P6 K hw u;have old:∀d Q,Fit w t d Q->d+Q.wid<=m+1->Q.wid=0\/i0<d\/(d+Q.wid<=m/\i0=d/\d+Q.wid<=c0)\/(d+Q.wid=m+1/\d<=i0/\0<Q.wid):=fun d Q f p=>by
   by_cases c2:d+Q.wid<=m
   ·rcases Fn.all d Q f c2 with h|⟨h,h'⟩
    ·omega
    omega
   omega
  have c3:c0<=m:=Fn.le;cases C:((h.c.step l n a b (gt w (m:Int)) (m==0)).P6 l e).2 with
  |false=>
   rw[if_neg Z'];refine⟨fun h=>absurd h Z',fun _=>⟨i0,c0,P0,U,⟨Fn.fit,Fn.wid,O',Fn.mn,Fn.tag,fun d Q f p=>?_⟩,o,G1,I1⟩⟩;rcases old d Q f p with h|h|⟨_,h⟩|⟨h1,h2,h3⟩
   ·have hz:=o (f.zero h);omega
   ·omega
   ·omega
   grind
  |true=>
   rw[if_pos rfl];refine⟨fun h=>absurd h Z',fun _=>?_⟩;obtain⟨k,P,hk,R⟩:=y C;have hA:(G1 k).1<=i0:=I1.st0 k hk;have v:gt ((h.c.step l n a b (gt w (m:Int)) (m==0)).P6 l e).1 0=((G1 k).1:Int):=by rw[R.tag];exact T0e _ _
   rw[v];obtain⟨G2,I2⟩:=I1.L0 (G1 k).1 (A':=fun j=>j<=(G1 k).1) (B':=fun j=>j<=(G1 k).1) (fun _ _ h=>h) (fun j h=>⟨O',h⟩);refine⟨(G1 k).1,m+1,P,I1.at_,⟨R.fit,R.wid,Nat.le_refl _,fun Q J q2=>?_,R.tag,fun d Q f p=>?_⟩,fun h=>(by simp_all),G2,I2⟩
   ·have:=R.wid;have:=R.pos;rcases R.all _ Q hA J O' O' with h|⟨_,h⟩
    ·omega
    omega
   ·rcases old d Q f p with h|h|⟨_,h,_⟩|⟨h1,h2,h3⟩
    ·rcases Nat.lt_or_ge (G1 k).1 d with h4|h4
     ·omega
     ·refine .inr ⟨?_,O'⟩;have:=o (f.zero h);omega
    ·omega
    ·omega
    ·rcases R.all d Q h2 f h1 h3 with h|⟨h,_⟩
     ·omega
     omega
end
