/- P. Its conditions: none. -/
import Derived.Test.YtmhooikfkhjijaaGreatYG45
open List (mem_singleton mem_append cons_append nil_append append_assoc append_nil singleton_append length_cons)
open Nat (add_assoc add_zero add_sub_cancel sub_zero zero_le zero_add)
set_option linter.all false
namespace Go.Proofs.YtmhooikfkhjijaaGreat
open Go.V Go.RowKit Old
def j6:Tm->Nat->Pp->List Int
 |.leaf _,lo,.leaf=>[O0 lo]
 |.cat a b,lo,.catL p=>O0 (Tm.top (.cat a b) lo) :: j6 a lo p
 |.cat a b,lo,.catR _ p=>O0 (Tm.top (.cat a b) lo) :: (a.steps lo++j6 b (lo+a.size) p)
 |.alt a b,lo,.altL p=>O0 (Tm.top (.alt a b) lo) :: j6 a lo p
 |.alt a b,lo,.altR p=>O0 (Tm.top (.alt a b) lo) :: j6 b (lo+a.size) p
 |.star a,lo,.item p=>O0 (Tm.top (.star a) lo) :: j6 a lo p
 |.maybe a,lo,.one p=>O0 (Tm.top (.maybe a) lo) :: j6 a lo p
 |.group m a,lo,.one p=>O0 (Tm.top (.group m a) lo) :: j6 a lo p
 |.iter a,lo,.one p=>O0 (Tm.top (.iter a) lo) :: j6 a lo p
 |_,_,_=>[]
def n02:∀{s:Tm} {lo f:Nat} {ahead:List Int} {h:y0},h∈s.Q0 lo f ahead->∃p,En O5 s p/\h=⟨((f+Y0 s p:Nat):Int),0,ahead++j6 s lo p⟩:=by
 intro s
 induction s with
 |eps=>intro lo f ahead h c;simp[Tm.Q0]at c
 |leaf S=>intro lo f ahead h c;simp only[Tm.Q0,mem_singleton]at c;exact⟨.leaf,.leaf,by rw[c];rfl⟩
 |cat a b iha ihb=>
  intro lo f ahead h c;simp only[Tm.Q0,mem_append]at c;rcases c with c|c
  ·obtain⟨p,h1,d⟩:=iha c;exact⟨.catL p,.catL h1,by rw[d];simp[Y0,j6]⟩
  ·split at c
   ·rename_i g;obtain⟨p,h1,d⟩:=ihb c;exact⟨.catR (emp a) p,.catR ⟨g,rfl⟩ h1,by rw[d];simp[Y0,j6,add_assoc]⟩
   ·simp at c
 |alt a b iha ihb=>
  intro lo f ahead h c;simp only[Tm.Q0,mem_append]at c;rcases c with c|c
  ·obtain⟨p,h1,d⟩:=iha c;exact⟨.altL p,.altL h1,by rw[d];simp[Y0,j6]⟩
  ·obtain⟨p,h1,d⟩:=ihb c;exact⟨.altR p,.altR h1,by rw[d];simp[Y0,j6,add_assoc]⟩
 |star a iha=>
  intro lo f ahead h c;simp only[Tm.Q0]at c;obtain⟨p,h1,d⟩:=iha c;exact⟨.item p,.item h1,by rw[d];simp[Y0,j6]⟩
 |maybe a iha=>
  intro lo f ahead h c;simp only[Tm.Q0]at c;obtain⟨p,h1,d⟩:=iha c;exact⟨.one p,.maybe h1,by rw[d];simp[Y0,j6]⟩
 |group m a iha=>
  intro lo f ahead h c;simp only[Tm.Q0]at c;obtain⟨p,h1,d⟩:=iha c;exact⟨.one p,.group h1,by rw[d];simp[Y0,j6]⟩
 |iter a iha=>
  intro lo f ahead h c;simp only[Tm.Q0]at c;obtain⟨p,h1,d⟩:=iha c;exact⟨.one p,.iter h1,by rw[d];simp[Y0,j6]⟩
def m0W {s:Tm}{q:Pp}(h:En P3 s q):∀(lo c:Nat) (ahead:List Int),∃h∈s.Q0 lo c ahead,h.To=((c+Y0 s q:Nat):Int):=by
 induction h with
 |leaf=>intro lo c ahead;exact⟨_,by simp only[Tm.Q0];exact mem_singleton.2 rfl,rfl⟩
 |catL _ d=>intro lo c ahead;obtain⟨h,h1,f⟩:=d lo c _;exact⟨h,List.mem_append_left _ h1,f⟩
 |@catR a b x p hx _ d=>
  intro lo c ahead;obtain⟨h,h1,f⟩:=d (lo+a.size) (c+a.leaves) _;refine⟨h,?_,by rw[f];simp only[Y0,add_assoc]⟩;simp only[Tm.Q0];rw[if_pos hx.can];exact List.mem_append_right _ h1
 |altL _ d=>intro lo c ahead;obtain⟨h,h1,f⟩:=d lo c _;exact⟨h,List.mem_append_left _ h1,f⟩
 |@altR a b p _ d=>
  intro lo c ahead;obtain⟨h,h1,f⟩:=d (lo+a.size) (c+a.leaves) _;exact⟨h,List.mem_append_right _ h1,by rw[f];simp only[Y0,add_assoc]⟩
 |item _ d=>intro lo c ahead;exact d lo c _
 |maybe _ d=>intro lo c ahead;exact d lo c _
 |group _ d=>intro lo c ahead;exact d lo c _
 |iter _ d=>intro lo c ahead;exact d lo c _
def stw (F:Nat->Pt->List (Nat×Int)):Nat->Pt->List (Nat×Int)
 |k,.two x r=>F k x++stw F (k+x.wid) r
 |_,_=>[]
def U3:Tm->Nat->Nat->Pt->List (Nat×Int)
 |.eps,lo,k,_=>[(k,O0 lo),(k,cls lo)]
 |.leaf _,lo,k,_=>[(k,O0 lo),(k+1,cls lo)]
 |.cat a b,lo,k,P=>(k,O0 (Tm.top (.cat a b) lo)) :: ((match P with|.two x y=>U3 a lo k x++U3 b (lo+a.size) (k+x.wid) y|_=>[])++[(k+P.wid,cls (Tm.top (.cat a b) lo))])
 |.alt a b,lo,k,P=>(k,O0 (Tm.top (.alt a b) lo)) :: ((match P with|.one x=>U3 a lo k x|.other x=>U3 b (lo+a.size) k x|_=>[])++[(k+P.wid,cls (Tm.top (.alt a b) lo))])
 |.star a,lo,k,P=>(k,O0 (Tm.top (.star a) lo)) :: (stw (fun k x=>U3 a lo k x) k P++[(k+P.wid,cls (Tm.top (.star a) lo))])
 |.maybe a,lo,k,P=>(k,O0 (Tm.top (.maybe a) lo)) :: ((match P with|.one x=>U3 a lo k x|_=>[])++[(k+P.wid,cls (Tm.top (.maybe a) lo))])
 |.group m a,lo,k,P=>(k,O0 (Tm.top (.group m a) lo)) :: ((match P with|.one x=>U3 a lo k x|_=>[])++[(k+P.wid,cls (Tm.top (.group m a) lo))])
 |.iter a,lo,k,P=>(k,O0 (Tm.top (.iter a) lo)) :: ((match P with|.one x=>U3 a lo k x|_=>[])++[(k+P.wid,cls (Tm.top (.iter a) lo))])
def R3:Tm->Nat->Nat->Pp->List (Nat×Int)
 |.cat a _,lo,k,.catL p=>(k,O0 (a.top lo)) :: R3 a lo k p
 |.cat a b,lo,k,.catR x p=>U3 a lo k x++(k+x.wid,O0 (b.top (lo+a.size))) :: R3 b (lo+a.size) (k+x.wid) p
 |.alt a _,lo,k,.altL p=>(k,O0 (a.top lo)) :: R3 a lo k p
 |.alt a b,lo,k,.altR p=>(k,O0 (b.top (lo+a.size))) :: R3 b (lo+a.size) k p
 |.star a,lo,k,.item p=>(k,O0 (a.top lo)) :: R3 a lo k p
 |.star a,lo,k,.more x p=>U3 a lo k x++R3 (.star a) lo (k+x.wid) p
 |.maybe a,lo,k,.one p=>(k,O0 (a.top lo)) :: R3 a lo k p
 |.group _ a,lo,k,.one p=>(k,O0 (a.top lo)) :: R3 a lo k p
 |.iter a,lo,k,.one p=>(k,O0 (a.top lo)) :: R3 a lo k p
 |_,_,_,_=>[]
def L4:Tm->Nat->Pp->List Int
 |.leaf _,lo,.leaf=>[cls lo]
 |.cat a b,lo,.catL p=>L4 a lo p++b.steps (lo+a.size)++[cls (Tm.top (.cat a b) lo)]
 |.cat a b,lo,.catR _ p=>L4 b (lo+a.size) p++[cls (Tm.top (.cat a b) lo)]
 |.alt a b,lo,.altL p=>L4 a lo p++[cls (Tm.top (.alt a b) lo)]
 |.alt a b,lo,.altR p=>L4 b (lo+a.size) p++[cls (Tm.top (.alt a b) lo)]
 |.star a,lo,.item p=>L4 a lo p++[cls (Tm.top (.star a) lo)]
 |.star a,lo,.more _ p=>L4 (.star a) lo p
 |.maybe a,lo,.one p=>L4 a lo p++[cls (Tm.top (.maybe a) lo)]
 |.group m a,lo,.one p=>L4 a lo p++[cls (Tm.top (.group m a) lo)]
 |.iter a,lo,.one p=>L4 a lo p++[cls (Tm.top (.iter a) lo)]
 |_,_,_=>[]
def X4:Tm->Pp->Bool
 |.leaf _,.leaf=>true
 |.cat a b,.catL p=>X4 a p&&b.can
 |.cat _ b,.catR _ p=>X4 b p
 |.alt a _,.altL p=>X4 a p
 |.alt _ b,.altR p=>X4 b p
 |.star a,.item p=>X4 a p
 |.star a,.more _ p=>X4 (.star a) p
 |.maybe a,.one p=>X4 a p
 |.group _ a,.one p=>X4 a p
 |.iter a,.one p=>X4 a p
 |_,_=>false
def Cl.may {s:Tm}{p:Pp}{P:Pt}(h:Cl P3 s p P):X4 s p=true:=by
 induction h with
 |catL _ e c=>simp only[X4,c,e.can,Bool.and_self]
 |_=>first|rfl|assumption
def PU.cl {w:List Int}{s:Tm}{i j:Nat}{p:Pp}(h:PU w s i j p):X4 s p=true->∃P,Cl O5 s p P:=by
 induction h with
 |leaf=>exact fun _=>⟨_,.leaf⟩
 |catL _ d=>
  intro c;simp only[X4,Bool.and_eq_true]at c;obtain⟨P,h⟩:=d c.1;exact⟨_,.catL h ⟨c.2,rfl⟩⟩
 |catR _ _ d=>exact fun c=>(d c).elim fun P h=>⟨_,.catR h⟩
 |altL _ d=>exact fun c=>(d c).elim fun P h=>⟨_,.altL h⟩
 |altR _ d=>exact fun c=>(d c).elim fun P h=>⟨_,.altR h⟩
 |item _ d=>exact fun c=>(d c).elim fun P h=>⟨_,.item h⟩
 |more _ _ _ d=>exact fun c=>(d c).elim fun P h=>⟨_,.more h⟩
 |maybe _ d=>exact fun c=>(d c).elim fun P h=>⟨_,.maybe h⟩
 |group _ d=>exact fun c=>(d c).elim fun P h=>⟨_,.group h⟩
 |iter _ d=>exact fun c=>(d c).elim fun P h=>⟨_,.iter h⟩
def tm (k:Nat)(st:List Int):List (Nat×Int):=st.map fun x=>(k,x)
def k9 (k:Nat)(a b:List Int):tm k (a++b)=tm k a++tm k b:=by simp[tm]
def z7 (k:Nat)(x:Int)(b:List Int):tm k (x :: b)=(k,x) :: tm k b:=rfl
def a0t (k:Nat):tm k []=[]:=rfl
def o0v:∀{s:Tm} (lo k:Nat),s.can=true->U3 s lo k (emp s)=tm k (s.steps lo):=by
 intro s
 induction s with
 |eps=>intro lo k _;rfl
 |leaf S=>intro lo k h;simp[Tm.can]at h
 |cat a b ia ib=>
  intro lo k h;simp only[Tm.can,Bool.and_eq_true]at h;simp only[U3,emp,Tm.steps,k9,z7,a0t,ia lo k h.1,(F9 h.1).wid,add_zero,ib (lo+a.size) k h.2,(F9 h.2).wid,Pt.wid,cons_append,nil_append,append_assoc]
 |alt a b ia ib=>
  intro lo k h;simp only[U3,emp,Tm.steps]
  by_cases c:a.can=true
  ·simp only[c,if_true,k9,z7,a0t,ia lo k c,(F9 c).wid,Pt.wid,add_zero,cons_append,nil_append]
  ·have f:b.can=true:=by simpa[Tm.can,c]using h
   simp only[c,if_false,k9,z7,a0t,ib (lo+a.size) k f,(F9 f).wid,Pt.wid,add_zero,cons_append,nil_append,Bool.false_eq_true]
 |star a _=>intro lo k _;simp[U3,emp,stw,Tm.steps,tm,Pt.wid]
 |maybe a _=>intro lo k _;simp[U3,emp,Tm.steps,tm,Pt.wid]
 |group m a ia=>
  intro lo k h;have d:a.can=true:=h;simp only[U3,emp,Tm.steps,k9,z7,a0t,ia lo k d,(F9 d).wid,Pt.wid,add_zero,cons_append,nil_append]
 |iter a ia=>
  intro lo k h;have d:a.can=true:=h;simp only[U3,emp,Tm.steps,k9,z7,a0t,ia lo k d,(F9 d).wid,Pt.wid,add_zero,cons_append,nil_append]
def k0Q {s:Tm}{p:Pp}(h:En O5 s p):∀(lo k:Nat),(k,O0 (s.top lo)) :: R3 s lo k p=tm k (j6 s lo p):=by
 induction h with
 |leaf=>intro lo k;simp[R3,j6,tm,Tm.top,Tm.size]
 |catL _ c=>intro lo k;simp only[R3,j6,c lo k,z7]
 |catR e _ c=>
  intro lo k;obtain⟨e,rfl⟩:=e;simp only[R3,j6,o0v lo k e,(F9 e).wid,add_zero,c _ k,z7,k9]
 |altL _ c=>intro lo k;simp only[R3,j6,c lo k,z7]
 |altR _ c=>intro lo k;simp only[R3,j6,c _ k,z7]
 |item _ c=>intro lo k;simp only[R3,j6,c lo k,z7]
 |maybe _ c=>intro lo k;simp only[R3,j6,c lo k,z7]
 |group _ c=>intro lo k;simp only[R3,j6,c lo k,z7]
 |iter _ c=>intro lo k;simp only[R3,j6,c lo k,z7]
def n0e {w:List Int}{s:Tm}{i j:Nat}{p:Pp}(h:PU w s i j p):∀{P:Pt} (lo:Nat),Cl O5 s p P->U3 s lo i P=(i,O0 (s.top lo)) :: (R3 s lo i p++tm (j+1) (L4 s lo p)):=by
 induction h with
 |leaf=>intro P lo c;cases c;simp[U3,R3,L4,tm,Tm.top,Tm.size]
 |@catL a b i j p u d=>
  intro P lo c;cases c with|catL c e=>
  obtain⟨e,rfl⟩:=e;have hw:=c.wid zC u;simp only[U3,R3,L4,d lo c,hw,o0v _ _ e,(F9 e).wid,Pt.wid,add_zero,k9,z7,a0t,append_assoc,cons_append,nil_append]
 |@catR a b i j x p f u d=>
  intro P lo c;cases c with|catR c=>
  have hw:=c.wid zC u;simp only[U3,R3,L4,d _ c,<-hw,Pt.wid,add_assoc,k9,z7,a0t,append_assoc,cons_append,nil_append]
 |altL u d=>intro P lo c;cases c with|altL c=>
   have hw:=c.wid zC u;simp only[U3,R3,L4,d lo c,hw,Pt.wid,k9,z7,a0t,append_assoc,cons_append,nil_append]
 |altR u d=>intro P lo c;cases c with|altR c=>
   have hw:=c.wid zC u;simp only[U3,R3,L4,d _ c,hw,Pt.wid,k9,z7,a0t,append_assoc,cons_append,nil_append]
 |item u d=>intro P lo c;cases c with|item c=>
   have hw:=c.wid zC u;simp only[U3,stw,R3,L4,d lo c,hw,Pt.wid,k9,z7,a0t,append_assoc,cons_append,nil_append,add_zero,append_nil]
 |@more a i j x p f hp u d=>intro P lo c;cases c with|more c=>
   have:=d lo c;simp only[U3,List.cons.injEq,true_and]at this;simp only[U3,stw,R3,L4,Pt.wid,append_assoc,List.cons.injEq,true_and,List.append_cancel_left_eq];rw[<-add_assoc];exact this
 |maybe u d=>intro P lo c;cases c with|maybe c=>
   have hw:=c.wid zC u;simp only[U3,R3,L4,d lo c,hw,Pt.wid,k9,z7,a0t,append_assoc,cons_append,nil_append]
 |group u d=>intro P lo c;cases c with|group c=>
   have hw:=c.wid zC u;simp only[U3,R3,L4,d lo c,hw,Pt.wid,k9,z7,a0t,append_assoc,cons_append,nil_append]
 |iter u d=>intro P lo c;cases c with|iter c=>
   have hw:=c.wid zC u;simp only[U3,R3,L4,d lo c,hw,Pt.wid,k9,z7,a0t,append_assoc,cons_append,nil_append]
def Y3:Tm->Nat->Nat->Nat->Pp->List y0
 |.cat a b,lo,c,d,.catL p=>if X4 a p then a6 (d:Int) (Y3 a lo c (d+1) p) (b.Q0 (lo+a.size) (c+a.leaves) (L4 a lo p))else Y3 a lo c (d+1) p
 |.cat a b,lo,c,d,.catR _ p=>Y3 b (lo+a.size) (c+a.leaves) (d+1) p
 |.alt a _,lo,c,d,.altL p=>Y3 a lo c (d+1) p
 |.alt a b,lo,c,d,.altR p=>Y3 b (lo+a.size) (c+a.leaves) (d+1) p
 |.star a,lo,c,d,.item p=>if X4 a p then a6 (d:Int) (Y3 a lo c (d+1) p) (a.Q0 lo c (L4 a lo p))else Y3 a lo c (d+1) p
 |.star a,lo,c,d,.more _ p=>Y3 (.star a) lo c d p
 |.maybe a,lo,c,d,.one p=>Y3 a lo c (d+1) p
 |.group _ a,lo,c,d,.one p=>Y3 a lo c (d+1) p
 |.iter a,lo,c,d,.one p=>Y3 a lo c (d+1) p
 |_,_,_,_,_=>[]
def n0o {d:Int}:∀{r out:List y0} {h:y0},h∈a6 d out r->h∈out\/∃x∈r,h=⟨x.To,d,x.Steps⟩
 |[],out,h,c=>.inl c
 |x :: r,out,h,c=>by
  simp only[a6]at c;rcases n0o c with h1|⟨y,h1,h2⟩
  ·split at h1
   ·exact .inl h1
   ·rcases mem_append.1 h1 with h1|h1
    ·exact .inl h1
    ·exact .inr ⟨x,by simp,by simpa using h1⟩
  ·exact .inr ⟨y,by simp[h1],h2⟩
def g0N {d:Int}:∀{r out:List y0} {h:y0},h∈out->h∈a6 d out r
 |[],out,h,c=>c
 |x :: r,out,h,c=>by
  simp only[a6];refine g0N ?_;split
  ·exact c
  ·exact List.mem_append_left _ c
def j0y {d:Int}:∀{r out:List y0} {x:y0},x∈r->∃h∈a6 d out r,h.To=x.To/\(h∈out\/h.Turn=d)
 |[],out,x,g=>by simp at g
 |y :: r,out,x,g=>by
  simp only[a6];rcases List.mem_cons.1 g with rfl|g
  ·by_cases c:(out.any fun z=>z.To==x.To)=true
   ·rw[if_pos c];obtain⟨h,h1,i⟩:=List.any_eq_true.1 c;exact⟨h,g0N h1,by simpa using i,.inl h1⟩
   ·rw[if_neg c];exact⟨⟨x.To,d,x.Steps⟩,g0N (by simp),rfl,.inr rfl⟩
  ·by_cases c:(out.any fun z=>z.To==y.To)=true
   ·rw[if_pos c];exact j0y g
   ·rw[if_neg c];obtain⟨h,h1,i,f⟩:=j0y (d:=d) (out:=out++[⟨y.To,d,y.Steps⟩]) g;refine⟨h,h1,i,?_⟩;rcases f with f|f
    ·rcases mem_append.1 f with f|f
     ·exact .inl f
     ·exact .inr (by have:=mem_singleton.1 f;rw[this])
    ·exact .inr f
def l01 {w:List Int}{s:Tm}{i j:Nat}{p:Pp}(u:PU w s i j p):∀{lo k d:Nat} {h:y0},h∈Y3 s lo k d p->∃n p',Go O5 s n p p'/\h.Turn=((d+n:Nat):Int)/\h.To=((k+Y0 s p':Nat):Int)/\R3 s lo i p'=R3 s lo i p++tm (j+1) h.Steps:=by
 induction u with
 |leaf=>intro lo k d h g;simp[Y3]at g
 |@catL a b i j p u ih=>
  intro lo k d h g;have down:h∈Y3 a lo k (d+1) p->∃n p',Go O5 (.cat a b) n (.catL p) p'/\h.Turn=((d+n:Nat):Int)/\h.To=((k+Y0 (.cat a b) p':Nat):Int)/\R3 (.cat a b) lo i p'=R3 (.cat a b) lo i (.catL p)++tm (j+1) h.Steps:=fun h1=>by
   obtain⟨n,p',g1,g2,g3,g4⟩:=ih h1;exact⟨n+1,.catL p',.catLd g1,by rw[g2];congr 1;omega,g3,by simp only[R3,g4,cons_append]⟩
  simp only[Y3]at g
  by_cases c:X4 a p=true
  ·rw[if_pos c]at g;rcases n0o g with h1|⟨x,h1,h2⟩
   ·exact down h1
   ·obtain⟨P,m⟩:=u.cl c;obtain⟨q,r,o⟩:=n02 h1;have hw:=m.wid zC u;refine⟨0,.catR P q,.catT m r,by rw[h2];rfl,by rw[h2,o];simp only[Y0,add_assoc],?_⟩;have y:=n0e u lo m;have v:=k0Q r (lo+a.size) (j+1);rw[h2,o];simp only[R3,y,hw,v,k9,cons_append,append_assoc]
  ·rw[if_neg c]at g;exact down g
 |catR f u ih=>
  intro lo k d h g;obtain⟨n,p',g1,g2,g3,g4⟩:=ih (show h∈Y3 _ _ _ _ _ from g);exact⟨n+1,.catR _ p',.catRd g1,by rw[g2];congr 1;omega,by rw[g3];simp only[Y0,add_assoc],by simp only[R3,g4,cons_append,append_assoc]⟩
 |altL u ih=>
  intro lo k d h g;obtain⟨n,p',g1,g2,g3,g4⟩:=ih (show h∈Y3 _ _ _ _ _ from g);exact⟨n+1,.altL p',.altLd g1,by rw[g2];congr 1;omega,g3,by simp only[R3,g4,cons_append]⟩
 |altR u ih=>
  intro lo k d h g;obtain⟨n,p',g1,g2,g3,g4⟩:=ih (show h∈Y3 _ _ _ _ _ from g);exact⟨n+1,.altR p',.altRd g1,by rw[g2];congr 1;omega,by rw[g3];simp only[Y0,add_assoc],by simp only[R3,g4,cons_append]⟩
 |@item a i j p u ih=>
  intro lo k d h g;have down:h∈Y3 a lo k (d+1) p->∃n p',Go O5 (.star a) n (.item p) p'/\h.Turn=((d+n:Nat):Int)/\h.To=((k+Y0 (.star a) p':Nat):Int)/\R3 (.star a) lo i p'=R3 (.star a) lo i (.item p)++tm (j+1) h.Steps:=fun h1=>by
   obtain⟨n,p',g1,g2,g3,g4⟩:=ih h1;exact⟨n+1,.item p',.itemd g1,by rw[g2];congr 1;omega,g3,by simp only[R3,g4,cons_append]⟩
  simp only[Y3]at g
  by_cases c:X4 a p=true
  ·rw[if_pos c]at g;rcases n0o g with h1|⟨x,h1,h2⟩
   ·exact down h1
   ·obtain⟨P,m⟩:=u.cl c;obtain⟨q,r,o⟩:=n02 h1;have hw:=m.wid zC u;refine⟨0,.more P (.item q),.itemT m r,by rw[h2];rfl,by rw[h2,o];rfl,?_⟩;have y:=n0e u lo m;have v:=k0Q r lo (j+1);rw[h2,o];simp only[R3,y,hw,v,k9,cons_append,append_assoc]
  ·rw[if_neg c]at g;exact down g
 |more f hp u ih=>
  intro lo k d h g;obtain⟨n,p',g1,g2,g3,g4⟩:=ih (show h∈Y3 _ _ _ _ _ from g);exact⟨n,.more _ p',.mored g1,g2,g3,by simp only[R3,g4,append_assoc]⟩
 |maybe u ih=>
  intro lo k d h g;obtain⟨n,p',g1,g2,g3,g4⟩:=ih (show h∈Y3 _ _ _ _ _ from g);exact⟨n+1,.one p',.maybe g1,by rw[g2];congr 1;omega,g3,by simp only[R3,g4,cons_append]⟩
 |group u ih=>
  intro lo k d h g;obtain⟨n,p',g1,g2,g3,g4⟩:=ih (show h∈Y3 _ _ _ _ _ from g);exact⟨n+1,.one p',.group g1,by rw[g2];congr 1;omega,g3,by simp only[R3,g4,cons_append]⟩
 |iter u ih=>
  intro lo k d h g;obtain⟨n,p',g1,g2,g3,g4⟩:=ih (show h∈Y3 _ _ _ _ _ from g);exact⟨n+1,.one p',.iter g1,by rw[g2];congr 1;omega,g3,by simp only[R3,g4,cons_append]⟩
def y0u {w:List Int}{s:Tm}{n:Nat}{p p':Pp}(g:Go P3 s n p p'):∀{i j:Nat} (lo f d:Nat),PU w s i j p->∃h∈Y3 s lo f d p,h.To=((f+Y0 s p':Nat):Int)/\((d+n:Nat):Int)<=h.Turn:=by
 induction g with
 |@catLd a b n p q g ih=>
  intro i j lo f d u;cases u with|catL u=>
  obtain⟨h,h1,k,m⟩:=ih lo f (d+1) u;refine⟨h,?_,k,by omega⟩;simp only[Y3];split
  ·exact g0N h1
  ·exact h1
 |@catT a b p q P c e=>
  intro i j lo f d u;cases u with|catL u=>
  obtain⟨x,r,o⟩:=m0W e (lo+a.size) (f+a.leaves) (L4 a lo p);obtain⟨h,h1,k,m⟩:=j0y (d:=(d:Int)) (out:=Y3 a lo f (d+1) p) r;refine⟨h,by simp only[Y3];rw[if_pos c.may];exact h1,by rw[k,o];simp only[Y0,add_assoc],?_⟩;rcases m with m|m
  ·obtain⟨n,_,_,g2,_⟩:=l01 u m;rw[g2];omega
  ·omega
 |catRd g ih=>
  intro i j lo f d u;cases u with|catR _ u=>
  obtain⟨h,h1,k,m⟩:=ih (lo+_) (f+_) (d+1) u;exact⟨h,h1,by rw[k];simp only[Y0,add_assoc],by omega⟩
 |altLd g ih=>
  intro i j lo f d u;cases u with|altL u=>
  obtain⟨h,h1,k,m⟩:=ih lo f (d+1) u;exact⟨h,h1,k,by omega⟩
 |altRd g ih=>
  intro i j lo f d u;cases u with|altR u=>
  obtain⟨h,h1,k,m⟩:=ih (lo+_) (f+_) (d+1) u;exact⟨h,h1,by rw[k];simp only[Y0,add_assoc],by omega⟩
 |@itemd a n p q g ih=>
  intro i j lo f d u;cases u with|item u=>
  obtain⟨h,h1,k,m⟩:=ih lo f (d+1) u;refine⟨h,?_,k,by omega⟩;simp only[Y3];split
  ·exact g0N h1
  ·exact h1
 |@itemT a p q P c e=>
  intro i j lo f d u;cases u with|item u=>
  obtain⟨x,r,o⟩:=m0W e lo f (L4 a lo p);obtain⟨h,h1,k,m⟩:=j0y (d:=(d:Int)) (out:=Y3 a lo f (d+1) p) r;refine⟨h,by simp only[Y3];rw[if_pos c.may];exact h1,by rw[k,o];rfl,?_⟩;rcases m with m|m
  ·obtain⟨n,_,_,g2,_⟩:=l01 u m;rw[g2];omega
  ·omega
 |mored g ih=>
  intro i j lo f d u;cases u with|more _ _ u=>exact ih lo f d u
 |maybe g ih=>
  intro i j lo f d u;cases u with|maybe u=>
  obtain⟨h,h1,k,m⟩:=ih lo f (d+1) u;exact⟨h,h1,k,by omega⟩
 |group g ih=>
  intro i j lo f d u;cases u with|group u=>
  obtain⟨h,h1,k,m⟩:=ih lo f (d+1) u;exact⟨h,h1,k,by omega⟩
 |iter g ih=>
  intro i j lo f d u;cases u with|iter u=>
  obtain⟨h,h1,k,m⟩:=ih lo f (d+1) u;exact⟨h,h1,k,by omega⟩
def E5:Tm->Pp->List Fr
 |.cat a b,.catL p=>E5 a p++[.catL b]
 |.cat a b,.catR _ p=>E5 b p++[.catR a]
 |.alt a b,.altL p=>E5 a p++[.altL b]
 |.alt a b,.altR p=>E5 b p++[.altR a]
 |.star a,.item p=>E5 a p++[.star]
 |.star a,.more _ p=>E5 (.star a) p
 |.maybe a,.one p=>E5 a p++[.maybe]
 |.group m a,.one p=>E5 a p++[.group m]
 |.iter a,.one p=>E5 a p++[.iter]
 |_,_=>[]
def H3:Tm->Nat->Pp->Nat
 |.cat a _,lo,.catL p=>H3 a lo p
 |.cat a b,lo,.catR _ p=>H3 b (lo+a.size) p
 |.alt a _,lo,.altL p=>H3 a lo p
 |.alt a b,lo,.altR p=>H3 b (lo+a.size) p
 |.star a,lo,.item p=>H3 a lo p
 |.star a,lo,.more _ p=>H3 (.star a) lo p
 |.maybe a,lo,.one p=>H3 a lo p
 |.group _ a,lo,.one p=>H3 a lo p
 |.iter a,lo,.one p=>H3 a lo p
 |_,lo,_=>lo
def v0q {w:List Int}{s:Tm}{i j:Nat}{p:Pp}(u:PU w s i j p):∀(lo d:Nat) (fs:List Fr),
  n4 (H3 s lo p) (d+Y0 s p) (.leaf (b6 s p)) [cls (H3 s lo p)] [] (E5 s p++fs)=if X4 s p then n4 lo d s (L4 s lo p) (Y3 s lo d (fs.length+1) p) fs else(Y3 s lo d (fs.length+1) p,[],false):=by
 induction u with
 |leaf=>intro lo d fs;simp[H3,Y0,b6,E5,X4,L4,Y3]
 |@catL a b i j p u g=>
  intro lo d fs;simp only[H3,Y0,b6,E5,append_assoc,singleton_append];rw[g lo d (.catL b :: fs)];simp only[X4,Y3,length_cons]
  by_cases c:X4 a p=true
  ·rw[if_pos c];simp only[n4,c,Bool.true_and,if_true,L4]
  ·simp[c]
 |@catR a b i j x p f u g=>
  intro lo d fs;simp only[H3,Y0,b6,E5,append_assoc,singleton_append];rw[<-add_assoc,g (lo+a.size) (d+a.leaves) (.catR a :: fs)];simp only[X4,Y3,length_cons,L4,n4,Fr.off,Fr.v7,Fr.E2,add_sub_cancel];rfl
 |@altL a b i j p u g=>
  intro lo d fs;simp only[H3,Y0,b6,E5,append_assoc,singleton_append];rw[g lo d (.altL b :: fs)];simp only[X4,Y3,length_cons,L4,n4,Fr.off,Fr.v7,Fr.E2,sub_zero];rfl
 |@altR a b i j p u g=>
  intro lo d fs;simp only[H3,Y0,b6,E5,append_assoc,singleton_append];rw[<-add_assoc,g (lo+a.size) (d+a.leaves) (.altR a :: fs)];simp only[X4,Y3,length_cons,L4,n4,Fr.off,Fr.v7,Fr.E2,add_sub_cancel];rfl
 |@item a i j p u g=>
  intro lo d fs;simp only[H3,Y0,b6,E5,append_assoc,singleton_append];rw[g lo d (.star :: fs)];simp only[X4,Y3,length_cons,L4,n4]
  by_cases c:X4 a p=true
  ·simp only[c,if_true]
  ·simp[c]
 |more f hp u g=>intro lo d fs;exact g lo d fs
 |@maybe a i j p u g=>
  intro lo d fs;simp only[H3,Y0,b6,E5,append_assoc,singleton_append];rw[g lo d (.maybe :: fs)];simp only[X4,Y3,length_cons,L4,n4,Fr.off,Fr.v7,Fr.E2,sub_zero];rfl
 |@group m a i j p u g=>
  intro lo d fs;simp only[H3,Y0,b6,E5,append_assoc,singleton_append];rw[g lo d (.group m :: fs)];simp only[X4,Y3,length_cons,L4,n4,Fr.off,Fr.v7,Fr.E2,sub_zero];rfl
 |@iter a i j p u g=>
  intro lo d fs;simp only[H3,Y0,b6,E5,append_assoc,singleton_append];rw[g lo d (.iter :: fs)];simp only[X4,Y3,length_cons,L4,n4,Fr.off,Fr.v7,Fr.E2,sub_zero];rfl
def E0Y {w:List Int}{t s:Tm}{i j:Nat}{p:Pp}(u:PU w s i j p):∀{lo:Nat} {fs:List Fr},Ctx t lo s fs->Ctx t (H3 s lo p) (.leaf (b6 s p)) (E5 s p++fs):=by
 induction u with
 |leaf=>intro lo fs h;exact h
 |catL _ c=>intro lo fs h;simp only[E5,append_assoc,singleton_append];exact c (fs:=.catL _ :: fs) ⟨zero_le _,h⟩
 |catR _ _ c=>intro lo fs h;simp only[E5,append_assoc,singleton_append];exact c (fs:=.catR _ :: fs) ⟨Nat.le_add_left _ _,by simpa[Fr.off,Fr.E2]using h⟩
 |altL _ c=>intro lo fs h;simp only[E5,append_assoc,singleton_append];exact c (fs:=.altL _ :: fs) ⟨zero_le _,h⟩
 |altR _ c=>intro lo fs h;simp only[E5,append_assoc,singleton_append];exact c (fs:=.altR _ :: fs) ⟨Nat.le_add_left _ _,by simpa[Fr.off,Fr.E2]using h⟩
 |item _ c=>intro lo fs h;simp only[E5,append_assoc,singleton_append];exact c (fs:=.star :: fs) ⟨zero_le _,h⟩
 |more _ _ _ c=>intro lo fs h;exact c h
 |maybe _ c=>intro lo fs h;simp only[E5,append_assoc,singleton_append];exact c (fs:=.maybe :: fs) ⟨zero_le _,h⟩
 |group _ c=>intro lo fs h;simp only[E5,append_assoc,singleton_append];exact c (fs:=.group _ :: fs) ⟨zero_le _,h⟩
 |iter _ c=>intro lo fs h;simp only[E5,append_assoc,singleton_append];exact c (fs:=.iter :: fs) ⟨zero_le _,h⟩
def p0p {w:List Int}{l:List C0}{s:Tm}{i j:Nat}{p:Pp}(u:PU w s i j p):∀{lo:Nat},At l lo s->L0 l (H3 s lo p)=L0 l lo+Y0 s p/\At l (H3 s lo p) (.leaf (b6 s p)):=by
 induction u with
 |leaf=>intro lo h;exact⟨rfl,h⟩
 |catL _ c=>intro lo h;exact c ((At.bin rfl rfl).1 h).1
 |catR _ _ c=>
  intro lo h;obtain⟨h1,d,_⟩:=(At.bin rfl rfl).1 h;have:=c d;rw[b9 h1]at this;exact⟨by simp only[H3,Y0];omega,this.2⟩
 |altL _ c=>intro lo h;exact c ((At.bin rfl rfl).1 h).1
 |altR _ c=>
  intro lo h;obtain⟨h1,d,_⟩:=(At.bin rfl rfl).1 h;have:=c d;rw[b9 h1]at this;exact⟨by simp only[H3,Y0];omega,this.2⟩
 |item _ c=>intro lo h;exact c ((At.un rfl rfl).1 h).1
 |more _ _ _ c=>intro lo h;exact c h
 |maybe _ c=>intro lo h;exact c ((At.un rfl rfl).1 h).1
 |group _ c=>intro lo h;exact c ((At.un rfl rfl).1 h).1
 |iter _ c=>intro lo h;exact c ((At.un rfl rfl).1 h).1
def z06 {l:List C0}{t:Tm}(h:O2 l t){q:Nat}{S:List Int}{fs:List Fr}(f:Ctx t q (.leaf S) fs):b0Y l t (L0 l q) q S fs:=by
 have c:=f.at_ h;have d:=c.j5;have hk:=c.D2;simp only[Tm.top,Tm.size,add_sub_cancel]at d hk;have h1:=b9 c;have m:=h0p l (show q+1<=l.length by omega);simp only[Tm.size,Tm.leaves]at h1;obtain⟨o,k,j,g,i⟩:=c0J l l.length (L0 l q) (by omega);have:=u0X l g (by rw[hk];rfl) i;subst this;exact⟨f,rfl,j⟩
section
variable {l:List C0}{n:Nat}{a:List y0}{b:Nat->List y0}{e:Nat->y0×Bool}{z:y0×Bool}{F:Nat}{t:Tm}{w:List Int}
def u0z (c:O2 l t):L0 l l.length=t.leaves:=by
 have h:=b9 c.at0;rw[zero_add,<-c.len]at h;rw[h];simp[L0]
def PU.place (c:O2 l t){i j:Nat}{p:Pp}(u:PU w t i j p):b0Y l t (Y0 t p) (H3 t 0 p) (b6 t p) (E5 t p):=by
 have h:=z06 c (E0Y u (fs:=[]) ⟨rfl,rfl⟩);have d:=(p0p u c.at0).1;rw[d,append_nil]at h;have f:L0 l 0=0:=rfl;rw[f,zero_add]at h;exact h
def PU.ways (K:H5 l n a b e z F)(hw:∀x∈l,o3 x)(c:O2 l t){i j:Nat}{p:Pp}(u:PU w t i j p):
  b (Y0 t p)=r7 y0.To (Y3 t 0 0 1 p)/\e (Y0 t p)=o8 (if X4 t p then L4 t 0 p else[])/\Y0 t p<n:=by
 have hp:=u.place c;have hl:Y0 t p<L0 l l.length:=by rw[u0z c];exact u.plt
 have g:=v0q u 0 0 [];rw[zero_add,append_nil]at g;have f:J7 t (Y0 t p) (H3 t 0 p) (b6 t p) (E5 t p)=if X4 t p then(Y3 t 0 0 1 p,L4 t 0 p,true)else(Y3 t 0 0 1 p,[],false):=by
  unfold J7;rw[g];rfl
 have f1:=K.f1;have h1:=B8 t0d (Old.u0M hw c K.hR (show 1000001<F by omega) hp hl);have d:=B8 j0d (Old.q0j hw c K.hR (show 1000001<F by omega) hp hl);rw[K.TF.mB _ (by rw[K.hn];exact hl)]at h1;rw[K.TF.mE _ (by rw[K.hn];exact hl)]at d;rw[f]at h1 d;refine⟨?_,?_,by rw[K.hn];exact hl⟩
 ·have:=Option.some.inj h1;rw[this];split<;>rfl
 ·have:=Option.some.inj d;rw[this];cases X4 t p<;>rfl
def m0u (K:H5 l n a b e z F)(hw:∀x∈l,o3 x)(d:O2 l t):a=t.Q0 0 0 []/\z=o8 (if t.can then t.steps 0 else[]):=by
 have f1:=K.f1;have c:((t.top 0:Nat):Int)=(l.length:Int)-1:=by have:=t.size_pos;have:=d.len;unfold Tm.top;omega
 have h1:=B8 q0Y (Old.r00 hw d K.hR (show 1000001<F by omega) d.at0).1;have f:=B8 j0d (Old.q0p hw d K.hR (show 1000001<F by omega)).1;rw[c,K.TF.mA]at h1;rw[K.TF.mZ]at f;exact⟨Option.some.inj h1,Option.some.inj f⟩
def PU.has (f:O2 l t){i j:Nat}{p:Pp}(u:PU w t i j p)(c:Int):Z2 l c (Y0 t p)=hasB (b6 t p) c:=by
 have hp:=u.place f;have d:=(p0p u f.at0).2;have hg:=d.D2;simp only[Tm.top,Tm.size,add_sub_cancel]at hg;unfold Z2;rw[B4 hp.get,hg];rfl
end
def Cl.all {s:Tm}{p:Pp}{P:Pt}(h:Cl O5 s p P):Cl P3 s p P:=by
 induction h with
 |leaf=>exact .leaf
 |catL _ e c=>exact .catL c e.emp
 |catR _ c=>exact .catR c
 |altL _ c=>exact .altL c
 |altR _ c=>exact .altR c
 |item _ c=>exact .item c
 |more _ c=>exact .more c
 |maybe _ c=>exact .maybe c
 |group _ c=>exact .group c
 |iter _ c=>exact .iter c
def Go.all {s:Tm}{n:Nat}{p q:Pp}(h:Go O5 s n p q):Go P3 s n p q:=by
 have en:∀{s:Tm} {p:Pp},En O5 s p->En P3 s p:=by
  intro s p h
  induction h with
  |leaf=>exact .leaf
  |catL _ d=>exact .catL d
  |catR e _ d=>exact .catR e.emp d
  |altL _ d=>exact .altL d
  |altR _ d=>exact .altR d
  |item _ d=>exact .item d
  |maybe _ d=>exact .maybe d
  |group _ d=>exact .group d
  |iter _ d=>exact .iter d
 induction h with
 |catLd _ d=>exact .catLd d
 |catT c e=>exact .catT c.all (en e)
 |catRd _ d=>exact .catRd d
 |altLd _ d=>exact .altLd d
 |altRd _ d=>exact .altRd d
 |itemd _ d=>exact .itemd d
 |itemT c e=>exact .itemT c.all (en e)
 |mored _ d=>exact .mored d
 |maybe _ d=>exact .maybe d
 |group _ d=>exact .group d
 |iter _ d=>exact .iter d
def PU.rng {w:List Int}{s:Tm}{i j:Nat}{p:Pp}(u:PU w s i j p):∀lo,lo<=H3 s lo p/\H3 s lo p<lo+s.size:=by
 induction u with
 |leaf=>intro lo;simp[H3,Tm.size]
 |catL _ c=>intro lo;have:=c lo;simp only[H3,Tm.size];omega
 |@catR a b i j x p _ _ c=>intro lo;have:=c (lo+a.size);simp only[H3,Tm.size];omega
 |altL _ c=>intro lo;have:=c lo;simp only[H3,Tm.size];omega
 |@altR a b i j p _ c=>intro lo;have:=c (lo+a.size);simp only[H3,Tm.size];omega
 |item _ c=>intro lo;have:=c lo;simp only[H3,Tm.size];omega
 |more _ _ _ c=>intro lo;exact c lo
 |maybe _ c=>intro lo;have:=c lo;simp only[H3,Tm.size];omega
 |group _ c=>intro lo;have:=c lo;simp only[H3,Tm.size];omega
 |iter _ c=>intro lo;have:=c lo;simp only[H3,Tm.size];omega
def e0O (l:List C0)(D:List Int)(k:Nat)(s:Tm)(lo:Nat)(p q:Pp):Prop:=
 ∃d r,Ah d p q/\r<l.length/\l6 l (H3 s lo p) (H3 s lo q) r=true/\(∀r',r'<r->l6 l (H3 s lo p) (H3 s lo q) r'=false)/\gt D (r:Int)=((k+d:Nat):Int)
def e0O.lift {l:List C0}{D:List Int}{k:Nat}{s c:Tm}{lo lo':Nat}{p q p' f:Pp}(h:e0O l D (k+1) s lo p q)(hp:H3 c lo' p'=H3 s lo p)(g:H3 c lo' f=H3 s lo q)(ha:∀d,Ah d p q->Ah (d+1) p' f):e0O l D k c lo' p' f:=by
 obtain⟨d,r,h1,o,m,j,i⟩:=h;exact⟨d+1,r,ha d h1,o,by rw[hp,g];exact m,by rw[hp,g];exact j,by rw[i];congr 1;omega⟩
def r06 {l:List C0}(hR:K1 l=true){D:List Int}{k lo:Nat}{s a b:Tm}{p q p' f:Pp}{w:List Int}{i j o m:Nat}(C:s.size=a.size+b.size+1)(d:At l lo s)(ha:At l lo a)(u:At l (lo+a.size) b)(r:gt D (s.top lo:Int)=(k:Int))
  (up:PU w a i j p) (x:PU w b o m q) (hp:H3 s lo p'=H3 a lo p) (g:H3 s lo f=H3 b (lo+a.size) q) (y:Ah 0 p' f):e0O l D k s lo p' f:=by
 have r1:=up.rng lo;have r2:=x.rng (lo+a.size);have c:=c0P hR d;have e:s.top lo=lo+a.size+b.size:=by unfold Tm.top;omega
 refine⟨0,s.top lo,y,d.j5,?_,fun r' v=>?_,by rw[r];rfl⟩
 ·rw[hp,g];exact b0L.2 ⟨by rw[c];omega,by omega,by rw[c];omega,by omega⟩
 ·rw[hp,g];have:¬l6 l (H3 a lo p) (H3 b (lo+a.size) q) r'=true:=fun h=>by
   obtain⟨p1,J,R,I⟩:=b0L.1 h;have:=o0i hR u (q:=r') (by omega) (by omega);omega
  simpa using this
def k0M {l:List C0}(hR:K1 l=true){D:List Int}{s:Tm}{p:Pp}(h:En O5 s p):∀{q:Pp} {lo k:Nat},En O5 s q->Y0 s p<Y0 s q->At l lo s->G7 D lo k s->e0O l D k s lo p q:=by
 induction h with
 |leaf=>intro q lo k g hl;cases g;simp[Y0]at hl
 |@catL a b p h ih=>
  intro q lo k g hl c hd;obtain⟨ha,f,_⟩:=(At.bin (t:=.cat a b) rfl rfl).1 c;cases g with
  |catL g=>exact(ih g hl ha hd.2.1).lift rfl rfl (fun d h=>.catL h)
  |catR e g=>exact r06 hR (w:=[]) rfl c ha f hd.1 (h.pu e1C 0) (g.pu e1C 0) rfl rfl .cc
 |@catR a b x p e h ih=>
  intro q lo k g hl c hd;obtain⟨ha,f,_⟩:=(At.bin (t:=.cat a b) rfl rfl).1 c;cases g with
  |catL g=>have:=g.plt;simp only[Y0]at hl;omega
  |catR e' g=>
   obtain⟨_,rfl⟩:=e;obtain⟨_,rfl⟩:=e';simp only[Y0]at hl;exact(ih g (by omega) f hd.2.2).lift rfl rfl (fun d h=>.catR h)
 |@altL a b p h ih=>
  intro q lo k g hl c hd;obtain⟨ha,f,_⟩:=(At.bin (t:=.alt a b) rfl rfl).1 c;cases g with
  |altL g=>exact(ih g hl ha hd.2.1).lift rfl rfl (fun d h=>.altL h)
  |altR g=>exact r06 hR (w:=[]) rfl c ha f hd.1 (h.pu e1C 0) (g.pu e1C 0) rfl rfl .aa
 |@altR a b p h ih=>
  intro q lo k g hl c hd;obtain⟨ha,f,_⟩:=(At.bin (t:=.alt a b) rfl rfl).1 c;cases g with
  |altL g=>have:=g.plt;simp only[Y0]at hl;omega
  |altR g=>
   simp only[Y0]at hl;exact(ih g (by omega) f hd.2.2).lift rfl rfl (fun d h=>.altR h)
 |item h ih=>
  intro q lo k g hl c hd;cases g with|item g=>exact(ih g hl ((At.un rfl rfl).1 c).1 hd.2).lift rfl rfl (fun d h=>.item h)
 |maybe h ih=>
  intro q lo k g hl c hd;cases g with|maybe g=>exact(ih g hl ((At.un rfl rfl).1 c).1 hd.2).lift rfl rfl (fun d h=>.one h)
 |group h ih=>
  intro q lo k g hl c hd;cases g with|group g=>exact(ih g hl ((At.un rfl rfl).1 c).1 hd.2).lift rfl rfl (fun d h=>.one h)
 |iter h ih=>
  intro q lo k g hl c hd;cases g with|iter g=>exact(ih g hl ((At.un rfl rfl).1 c).1 hd.2).lift rfl rfl (fun d h=>.one h)
def Cl.det {s:Tm}{p:Pp}{P:Pt}(h:Cl O5 s p P):∀{Q:Pt},Cl O5 s p Q->P=Q:=by
 induction h with
 |leaf=>intro Q g;cases g;rfl
 |catL _ e c=>intro Q g;cases g with|catL g e'=>obtain⟨_,rfl⟩:=e;obtain⟨_,rfl⟩:=e';rw[c g]
 |catR _ c=>intro Q g;cases g with|catR g=>rw[c g]
 |altL _ c=>intro Q g;cases g with|altL g=>rw[c g]
 |altR _ c=>intro Q g;cases g with|altR g=>rw[c g]
 |item _ c=>intro Q g;cases g with|item g=>rw[c g]
 |more _ c=>intro Q g;cases g with|more g=>rw[c g]
 |maybe _ c=>intro Q g;cases g with|maybe g=>rw[c g]
 |group _ c=>intro Q g;cases g with|group g=>rw[c g]
 |iter _ c=>intro Q g;cases g with|iter g=>rw[c g]
def w0p {l:List C0}(hR:K1 l=true){D:List Int}{s:Tm}{n:Nat}{x p:Pp}(h:Go O5 s n x p):∀{q:Pp} {lo k:Nat},Go O5 s n x q->Y0 s p<Y0 s q->At l lo s->G7 D lo k s->e0O l D k s lo p q:=by
 induction h with
 |catLd h ih=>
  intro q lo k g hl f hd;cases g with|catLd g=>exact(ih g hl ((At.bin rfl rfl).1 f).1 hd.2.1).lift rfl rfl (fun d h=>.catL h)
 |catT c e=>
  intro q lo k g hl f hd;cases g with|catT c' e'=>
  obtain rfl:=c.det c';simp only[Y0]at hl;exact(k0M hR e e' (by omega) ((At.bin rfl rfl).1 f).2.1 hd.2.2).lift rfl rfl (fun d h=>.catR h)
 |catRd h ih=>
  intro q lo k g hl f hd;cases g with|catRd g=>
  simp only[Y0]at hl;exact(ih g (by omega) ((At.bin rfl rfl).1 f).2.1 hd.2.2).lift rfl rfl (fun d h=>.catR h)
 |altLd h ih=>
  intro q lo k g hl f hd;cases g with|altLd g=>exact(ih g hl ((At.bin rfl rfl).1 f).1 hd.2.1).lift rfl rfl (fun d h=>.altL h)
 |altRd h ih=>
  intro q lo k g hl f hd;cases g with|altRd g=>
  simp only[Y0]at hl;exact(ih g (by omega) ((At.bin rfl rfl).1 f).2.1 hd.2.2).lift rfl rfl (fun d h=>.altR h)
 |itemd h ih=>
  intro q lo k g hl f hd;cases g with|itemd g=>exact(ih g hl ((At.un rfl rfl).1 f).1 hd.2).lift rfl rfl (fun d h=>.item h)
 |itemT c e=>
  intro q lo k g hl f hd;cases g with|itemT c' e'=>
  obtain rfl:=c.det c';exact(k0M hR e e' hl ((At.un rfl rfl).1 f).1 hd.2).lift rfl rfl (fun d h=>.more (.item h))
 |mored h ih=>
  intro q lo k g hl f hd;cases g with|mored g=>
  obtain⟨d,r,h1,o,m,j,i⟩:=ih g hl f hd;exact⟨d,r,.more h1,o,m,j,i⟩
 |maybe h ih=>
  intro q lo k g hl f hd;cases g with|maybe g=>exact(ih g hl ((At.un rfl rfl).1 f).1 hd.2).lift rfl rfl (fun d h=>.one h)
 |group h ih=>
  intro q lo k g hl f hd;cases g with|group g=>exact(ih g hl ((At.un rfl rfl).1 f).1 hd.2).lift rfl rfl (fun d h=>.one h)
 |iter h ih=>
  intro q lo k g hl f hd;cases g with|iter g=>exact(ih g hl ((At.un rfl rfl).1 f).1 hd.2).lift rfl rfl (fun d h=>.one h)
def Wy (t:Tm)(o:Option Pp)(T:Int)(p:Pp):Prop:=match o with
 |none=>T=0/\En O5 t p
 |some x=>∃n:Nat,T=n+1/\Go O5 t n x p
def c0M (g h:Nat×Pp)(f c:Int):Prop:=(g.1<h.1/\f=0/\c=0)\/(g.1=h.1/\∃d:Nat,Ah d g.2 h.2/\c=d+2/\(d:Int)+2<=f)
section
variable {l:List C0}{t:Tm}{w:List Int}
def B01 (c:O2 l t)(hR:K1 l=true){o:Option Pp}{T:Int}{p q:Pp}(h:Wy t o T p)(g:Wy t o T q)(hl:Y0 t p<Y0 t q):e0O l (a0n l) 1 t 0 p q:=by
 have hd:=(k0W c hR).deep;cases o with
 |none=>exact k0M hR h.2 g.2 hl c.at0 hd
 |some x=>
  obtain⟨n,h1,d⟩:=h;obtain⟨m,g1,g2⟩:=g;have:n=m:=by omega
  subst this;exact w0p hR d g2 hl c.at0 hd
def x0h (k:O2 l t)(hR:K1 l=true){i U j1 i2 I:Nat}{o:Option Pp}{x y:y0}{p q:Pp}(g:Wy t o x.Turn p)(f:Wy t o y.Turn q)(up:PU w t U j1 p)(uq:PU w t i2 I q)(J:x.To=(Y0 t p:Int))(ty:y.To=(Y0 t q:Int))(h:x.To≠y.To)(c:(u7 l x y).2.2=1):
  c0M (i,p) (i,q) (u7 l x y).1 (u7 l y x).1:=by
 have v:=j0v l x y h;rw[v];refine .inr ⟨rfl,?_⟩;unfold u7 at c ⊢
 by_cases c1:x.Turn>y.Turn
 ·rw[if_pos c1];cases o with
  |none=>have:=g.1;have:=f.1;omega
  |some u=>
   obtain⟨m,h1,j⟩:=g;obtain⟨n,g1,g2⟩:=f;exact⟨n,g2.deep j (by omega),by simp only;omega,by simp only;omega⟩
 ·rw[if_neg c1]at c ⊢
  by_cases c2:x.Turn<y.Turn
  ·rw[if_pos c2]at c;simp at c
  ·rw[if_neg c2]at c ⊢;have eT:x.Turn=y.Turn:=by omega
   by_cases c3:x.To>y.To
   ·rw[if_pos c3]at c;simp at c
   ·rw[if_neg c3];rw[<-eT]at f;obtain⟨d,r,h1,j,h3,h4,C⟩:=B01 k hR g f (by omega);have g1:=up.place k;have g2:=uq.place k;have e1:gt (L2 l l.length) x.To=((H3 t 0 p:Nat):Int):=by rw[J];exact B4 g1.get
    have R:gt (L2 l l.length) y.To=((H3 t 0 q:Nat):Int):=by rw[ty];exact B4 g2.get
    have s:M9 l x y=(d:Int)+2:=by
     unfold M9;rw[e1,R,Int.toNat_natCast,Int.toNat_natCast,q05 j h3 h4,C];omega
    refine⟨d,h1,by simp only[s],?_⟩;simp only[s];split<;>omega
def q0F {g h:Nat×Option Pp}{k f i Ty:Int}{p q:Pp}(U:(g.1<h.1/\k=0/\f=0)\/(g.1=h.1/\∃u v,g.2=some u/\h.2=some v/\∃d:Nat,Ah d u v/\f=d+2/\(d:Int)+2<=k))(I:Wy t g.2 i p)(J:Wy t h.2 Ty q){j:Nat}(ug:∀u,g.2=some u->PU w t g.1 j u)(uh:∀u,h.2=some u->PU w t h.1 j u)
  (tx:0<=i/\i<=400) (ty:0<=Ty/\Ty<=400):
  (J4 f Ty<=J4 k i->c0M (g.1,p) (h.1,q) (J4 k i) (J4 f Ty))/\(J4 k i<J4 f Ty->c0M (h.1,q) (g.1,p) (J4 f Ty) (J4 k i)):=by
 have w1:W (i+1)=i+1:=n3 (by omega) (by omega);have R:W (Ty+1)=Ty+1:=n3 (by omega) (by omega);rcases U with⟨h1,rfl,rfl⟩|⟨h1,u,v,e1,e2,d,h2,rfl,h3⟩
 ·have s:J4 0 i=0:=by unfold J4;rw[w1,if_neg (by omega)]
  have r:J4 0 Ty=0:=by unfold J4;rw[R,if_neg (by omega)]
  rw[s,r];exact⟨fun _=>.inl ⟨h1,rfl,rfl⟩,fun h=>by omega⟩
 ·rw[e1]at I;rw[e2]at J;obtain⟨m,C,y⟩:=I;obtain⟨n,o,x⟩:=J;have M:=h2.move zC (ug u e1) (by rw[h1];exact uh v e2) y x;have s:J4 k i=if(m:Int)+2<k then(m:Int)+2 else k:=by unfold J4;rw[w1,C];rfl
  have r:J4 ((d:Int)+2) Ty=if n<d then(n:Int)+2 else(d:Int)+2:=by
   unfold J4;rw[R,o]
   by_cases c:n<d
   ·rw[if_pos (by omega),if_pos c];omega
   ·rw[if_neg (by omega),if_neg c]
  rw[s,r]
  by_cases c1:n<d
  ·rw[if_pos c1];rcases Nat.lt_trichotomy n m with c2|c2|c2
   ·refine⟨fun _=>.inr ⟨h1,n,M.up c1 c2,rfl,?_⟩,fun h=>?_⟩
    ·split<;>omega
    ·revert h;split<;>omega
   ·subst c2;refine⟨fun _=>.inr ⟨h1,n,M.both rfl c1,rfl,?_⟩,fun h=>?_⟩
    ·split<;>omega
    ·revert h;split<;>omega
   ·refine⟨fun h=>?_,fun _=>.inr ⟨h1.symm,m,M.down (by omega) c2,?_,by omega⟩⟩
    ·revert h;split<;>omega
    ·rw[if_pos (by omega)]
  ·rw[if_neg c1];rcases Nat.lt_or_ge m d with c2|c2
   ·refine⟨fun h=>?_,fun _=>.inr ⟨h1.symm,m,M.down c2 (by omega),?_,by omega⟩⟩
    ·revert h;split<;>omega
    ·rw[if_pos (by omega)]
   ·refine⟨fun _=>.inr ⟨h1,d,M.far c2 (by omega),rfl,?_⟩,fun h=>?_⟩
    ·split<;>omega
    ·revert h;split<;>omega
end
