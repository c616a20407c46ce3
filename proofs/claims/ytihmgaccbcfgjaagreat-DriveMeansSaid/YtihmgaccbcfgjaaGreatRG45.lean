/- P. Its conditions: none. -/
import Derived.Test.YtihmgaccbcfgjaaGreatRG41
import Derived.Test.YtihmgaccbcfgjaaGreatRG40
import Derived.Test.YtihmgaccbcfgjaaGreatRG38
import Derived.Test.YtihmgaccbcfgjaaGreatRMd
import Derived.Test.YtihmgaccbcfgjaaGreatRG23
open List (mem_cons mem_flatten getElem_mem mem_map)
open Bool (false_eq_true)
set_option linter.all false
namespace Go.Proofs.YtihmgaccbcfgjaaGreat
open Go.V Go.RowKit Old Go.X
def h0G (P:Int->Int->Prop)(E V:List Int):Prop:=E.length=V.length/\∀m:Nat,m<E.length->P (gt E (m:Int)) (gt V (m:Int))
def U0O {o:List Int}{j:Nat}{x:Int}(h:j<o.length):gt (o.set j x) (j:Int)=x:=X2 (List.getElem?_set_self h)
def U0K {o:List Int}{j m:Nat}{x:Int}(h:¬j=m):gt (o.set j x) (m:Int)=gt o (m:Int):=by
 unfold gt;rw[List.getD_eq_getElem?_getD,List.getD_eq_getElem?_getD,Int.toNat_natCast,List.getElem?_set_ne h]
def R04 {P:Int->Int->Prop}{E V:List Int}(h:h0G P E V){x y:Int}(hp:P x y)(j:Nat):h0G P (E.set j x) (V.set j y):=by
 refine⟨by simp[h.1],fun m hm=>?_⟩;rw[List.length_set]at hm
 by_cases e:j=m
 ·subst e;rw[U0O hm,U0O (by rw[<-h.1];exact hm)];exact hp
 ·rw[U0K e,U0K e];exact h.2 m hm
def W0u {P:Int->Int->Prop}{E V:List Int}(h:h0G P E V){g f d c:Int}(hn:P g f)(hu:P d c)(k:J2):h0G P (T4 g d E k) (T4 f c V k):=by
 unfold T4;rw[<-h.1];split
 ·exact h
 ·split
  ·exact R04 h hn _
  ·split
   ·exact R04 h hn _
   ·split
    ·exact R04 (R04 h hu _) hu _
    ·exact h
def Q0u {P:Int->Int->Prop}{g f d c:Int}(hn:P g f)(hu:P d c):∀(marks:List J2) {E V:List Int},h0G P E V->h0G P (Z9 g d E marks) (Z9 f c V marks)
 |[],_,_,h=>h
 |k :: r,E,V,h=>Q0u hn hu r (W0u h hn hu k)
def w0v (regs:List Int)(now:Int)(e v:Int):Prop:=(e=-2/\v=-1)\/(e=-1/\v=now)\/(0<=e/\e<(regs.length:Int)/\v=gt regs e)
def q0n (regs:List Int)(e v:Int):Prop:=(e=-2/\v=-1)\/(0<=e/\e<(regs.length:Int)/\v=gt regs e)
def q0n.n {regs:List Int}{e v:Int}(h:q0n regs e v)(now:Int):w0v regs now e v:=by
 rcases h with h|h
 ·exact .inl h
 ·exact .inr (.inr h)
def h0G.mono {P Q:Int->Int->Prop}(h:∀e v,P e v->Q e v){E V:List Int}(c:h0G P E V):h0G Q E V:=⟨c.1,fun m hm=>h _ _ (c.2 m hm)⟩
theorem T0J (l:List C0)(regs:List Int)(now:Int):h0G (w0v regs now) (b0I l) (k0o l now):=by
 unfold b0I k0o;refine R04 ⟨Z',fun m hm=>?_⟩ (.inr (.inl ⟨rfl,rfl⟩)) 0;have hm:m<(C4 l).toNat:=by simpa using hm
 rw[X2 (x:=(-2:Int)) (by simp[hm]),X2 (x:=(-1:Int)) (by simp[hm])];exact .inl ⟨rfl,rfl⟩
theorem r0I {x:Int}(c:x≠-2):∀(r s:List Int),(x∈r\/x∈s)->x∈Z2 s r
 |[],s,h=>by
  rcases h with h|h
  ·cases h
  ·exact h
 |v :: r,s,h=>by
  refine r0I c r (M6 s v) ?_;rcases h with h|h
  ·rcases mem_cons.1 h with h|h
   ·subst h;refine .inr ?_;unfold M6
    by_cases hm:x∈s
    ·rw[if_pos (.inr hm)];exact hm
    ·rw[if_neg (by rintro(h|h);exact c h;exact hm h)];simp
   ·exact .inl h
  ·exact .inr ((v04 s v).subset h)
def f0l (regs src:List Int)(now:Int):List Int:=src.map fun v=>if v=-1 then now else gt regs v
def V0H (regs src:List Int)(now:Int):(f0l regs src now).length=src.length:=by simp[f0l]
def X0a {regs src:List Int}{now e v:Int}(h:w0v regs now e v)(hm:e≠-2->e∈src):q0n (f0l regs src now) (O3 src e) v:=by
 unfold O3
 by_cases f:e=-2
 ·rw[if_pos f];rcases h with⟨_,h⟩|⟨h,_⟩|⟨h,_⟩
  ·exact .inl ⟨rfl,h⟩
  ·omega
  ·omega
 ·rw[if_neg f];have d:=hm f;have c:=List.idxOf_lt_length_of_mem d;refine .inr ⟨O',by rw[V0H];omega,?_⟩;have hg:gt (f0l regs src now) (src.idxOf e:Int)=if e=-1 then now else gt regs e:=by
   refine X2 ?_;unfold f0l;rw[List.getElem?_map,List.getElem?_eq_getElem c,List.getElem_idxOf c];rfl
  rw[hg];rcases h with⟨h,_⟩|⟨h,h3⟩|⟨h,_,h3⟩
  ·exact absurd h f
  ·rw[if_pos h];exact h3
  ·rw[if_neg O'];exact h3
section
variable {F:Nat}
end
section
variable {F:Nat}{l:List C0}{n:Nat}{a:List B0}{b:Nat->List B0}{e:Nat->B0×Bool}{z:B0×Bool}
end
theorem W0V {maps:List (List Int)}{r:Nat}(h:r<maps.length):gt (X5 maps) (r:Int)=(gt maps (r:Int)).map (O3 (M4 maps)):=X2 (by grind [X5,P4])
theorem W0h {maps:List (List Int)}{r m:Nat}(d:r<maps.length)(hm:m<(gt maps (r:Int)).length)(c:gt (gt maps (r:Int)) (m:Int)≠-2):gt (gt maps (r:Int)) (m:Int)∈M4 maps:=by
 grind [M4,r0I,mem_flatten,b8]
theorem S0U {maps V:List (List Int)}{regs:List Int}{now:Int}(h:∀r,r<maps.length->h0G (w0v regs now) (gt maps (r:Int)) (gt V (r:Int))):∀r,r<maps.length->h0G (q0n (f0l regs (M4 maps) now)) (gt (X5 maps) (r:Int)) (gt V (r:Int)):=by
 intro r c;obtain⟨h1,d⟩:=h r c;rw[W0V c];refine⟨by grind,fun m hm=>?_⟩;have hg:gt ((gt maps (r:Int)).map (O3 (M4 maps))) (m:Int)=O3 (M4 maps) (gt (gt maps (r:Int)) (m:Int)):=X2 (by grind [P4])
 simp_all[X0a,W0h]
def T0c {maps V:List (List Int)}{regs:List Int}{now:Int}(h:∀r,r<maps.length->h0G (w0v regs now) (gt maps (r:Int)) (gt V (r:Int))):∀v∈M4 maps,v=-1\/(0<=v/\v<(regs.length:Int)):=by
 intro v d;rcases t0z _ _ d with d|⟨d,hne⟩
 ·cases d
 ·obtain⟨row,c,f⟩:=mem_flatten.1 d;obtain⟨r,i⟩:=List.getElem?_of_mem c;obtain⟨m,hm⟩:=List.getElem?_of_mem f;have g:=(List.getElem?_eq_some_iff.1 i).1;have k:gt maps (r:Int)=row:=X2 i;have o:=(List.getElem?_eq_some_iff.1 hm).1;have j:gt row (m:Int)=v:=X2 hm;have:=(h r g).2 m (by simp_all);rw[k,j]at this;rcases this with⟨h1,_⟩|⟨h1,_⟩|⟨h1,h2,_⟩
  ·omega
  ·omega
  omega
structure O6 (l:List C0)(n:Nat)(e:Nat->B0×Bool)(z:B0×Bool)(h:Hs)(k:Kd)(regs:List Int)(i:Nat):Prop where
 hs:B0U l n h i
 inv:Inv l (fun _=>true) i h.c.vals h.c.fB h.c.fD
 sm:E0Y h.c.vals h.c.fB
 tol:h.to<=(i:Int)
 pl:k.pl=h.c.pl
 fB:k.fB=h.c.fB
 fD:k.fD=h.c.fD
 C:R3 l n k.pl k.maps k.fB k.fD
 rel:∀r,r<k.maps.length->h0G (q0n regs) (gt k.maps (r:Int)) (gt h.c.vals (r:Int))
 fl:k.flag=if h.is then(if i=0 then 2 else 0)else 1
 acc:if h.is=true/\h.to=(i:Int)then h0G (w0v regs (i:Int)) (a06 l e z k) h.tags/\(a06 l e z k).length=(C4 l).toNat else a06 l e z k=[]
section
variable {F:Nat}{l:List C0}{n:Nat}{a:List B0}{b:Nat->List B0}{e:Nat->B0×Bool}{z:B0×Bool}
theorem V0t (l:List C0)(n:Nat)(e:Nat->B0×Bool)(z:B0×Bool):O6 l n e z (Hs.zero l z) ⟨if z.2 then 2 else 1,[],[],fun _ _=>0,fun _ _=>0⟩ [] 0 where
 hs:=U09
 inv:=⟨(fun v h=>by cases h),(fun v h=>by cases h),(fun k m h=>by simp[Hs.zero,Cs.zero])⟩
 sm:=fun k m h=>by simp[Hs.zero,Cs.zero]
 tol:=Int.le_refl _
 pl:=rfl
 fB:=rfl
 fD:=rfl
 C:=B0r l n
 rel:=fun r h=>by grind
 fl:=by
  show(if z.2=true then(2:Int)else 1)=if(s0N l z 0).2=true then _ else _
  grind [s0N]
 acc:=by
  have c:a06 l e z ⟨if z.2 then 2 else 1,[],[],fun _ _=>0,fun _ _=>0⟩=if z.2&&((if z.2 then(2:Int)else 1)==2&&true)then Z9 (-1) (-2) (b0I l) (a7 l z.1.Steps)else[]:=rfl;rw[c];unfold Hs.zero s0N;cases f:z.2 with
  |false=>rfl
  |true=>
   have d:(if(true&&((if true then(2:Int)else 1)==2&&true))=true then Z9 (-1) (-2) (b0I l) (a7 l z.1.Steps)else[])=Z9 (-1) (-2) (b0I l) (a7 l z.1.Steps):=rfl;rw[d];refine⟨?_,by rw[e0V,q0p]⟩;exact Q0u (P:=w0v [] ((0:Nat):Int)) (.inr (.inl ⟨rfl,rfl⟩)) (.inl ⟨rfl,rfl⟩) _ (T0J l [] _)
def O6.f0 {h:Hs}{k:Kd}{regs:List Int}{i:Nat}(S:O6 l n e z h k regs i):0<=k.flag/\k.flag<=2:=by
 rw[S.fl];omega
theorem O6.E0 {h:Hs}{k:Kd}{regs:List Int}{i:Nat}(S:O6 l n e z h k regs i):(!(k.flag==0))=(h.c.at_==0||!h.is):=by
 rw[S.fl,S.hs.c.a0]
 grind
theorem U0U {maps V:List (List Int)}{regs:List Int}{pl:List Nat}{at_:Int}{E0:Bool}(hm:maps.length=pl.length)(f:V.length=pl.length)(h:∀r,r<maps.length->h0G (q0n regs) (gt maps (r:Int)) (gt V (r:Int))){s:Nat}(hs:s<C5 pl E0):
  h0G (w0v regs at_) (gt (a0F l maps E0) (s:Int)) (gt (goV l at_ V E0) (s:Int)):=by
 unfold a0F goV;unfold C5 at hs
 by_cases c:s<pl.length
 ·rw[b0Y O' O',b0Y O' O'];exact(h s O').mono (fun e v d=>d.n at_)
 ·cases E0 with
  |false=>grind
  |true=>
   grind [e0v,T0J]
theorem V0U (K:U3 l n a b e z F)(hw:∀x∈l,P2 x){h:Hs}{k:Kd}{regs:List Int}{i:Nat}(S:O6 l n e z h k regs i)(hi:i<=100000){b_:Int}(hb:L5 .u8 b_):
  O6 l n e z (h.feed l n a b e b_) ((k.step l n a b b_).K7 e 0).num (f0l regs (M4 ((k.step l n a b b_).K7 e 0).maps) (i:Int)) (i+1)/\∀v∈M4 ((k.step l n a b b_).K7 e 0).maps,v=-1\/(0<=v/\v<(regs.length:Int)):=by
 have I:=T0F (e:=e) K hw S.hs b_;have d:=S.E0;have h8:=S.hs.c.a0;have C1:=o0m K hw S.C b_;have C2:=t0R (e:=e) 0 C1;have I1:Inv l (fun _=>true) (i+1) (h.j0o l n a b b_).vals (h.j0o l n a b b_).fB (h.j0o l n a b b_).fD:=X0K K S.hs.c S.inv b_ (h.c.at_==0||!h.is) (fun _=>rfl);have M1:E0Y (h.j0o l n a b b_).vals (h.j0o l n a b b_).fB:=W0F K hw S.hs.c S.inv S.sm b_ (h.c.at_==0||!h.is);have a1:w04 l n (h.j0o l n a b b_) (i+1):=S0Q K hw S.hs.c b_ (h.c.at_==0||!h.is);have j2:=S.hs.c.ok.len;have k1:=S.C.len;have f:(k.step l n a b b_).pl=(h.j0o l n a b b_).pl:=by
  show Z3 l n a b k.pl b_ (!(k.flag==0))=Z3 l n a b h.c.pl b_ (h.c.at_==0||!h.is);rw[d,S.pl]
 have o:(k.step l n a b b_).fB=(h.j0o l n a b b_).fB:=by
  unfold Kd.step Hs.j0o Cs.step;simp only[d,S.pl,S.fB,S.fD]
 have u:(k.step l n a b b_).fD=(h.j0o l n a b b_).fD:=by
  unfold Kd.step Hs.j0o Cs.step;simp only[d,S.pl,S.fB,S.fD]
 have e9:(k.step l n a b b_).maps.length=(k.step l n a b b_).pl.length:=C1.len;have s:∀r,r<(k.step l n a b b_).maps.length->h0G (w0v regs (i:Int)) (gt (k.step l n a b b_).maps (r:Int)) (gt (h.j0o l n a b b_).vals (r:Int)):=by
  intro r m;rw[e9]at m;have k3:r<(Z3 l n a b k.pl b_ (!(k.flag==0))).length:=m;have e1:gt (k.step l n a b b_).maps (r:Int)=stM l a b k.pl k.maps k.fB k.fD (!(k.flag==0)) (Z3 l n a b k.pl b_ (!(k.flag==0)))[r]:=X2 (by grind [Kd.step]);have R:r<(Z3 l n a b h.c.pl b_ (h.c.at_==0||!h.is)).length:=by rw[<-S.pl,<-d];omega
  have e2:gt (h.j0o l n a b b_).vals (r:Int)=stV l a b h.c.at_ h.c.pl h.c.vals h.c.fB h.c.fD (h.c.at_==0||!h.is) (Z3 l n a b h.c.pl b_ (h.c.at_==0||!h.is))[r]:=X2 (by grind [Hs.j0o,Cs.step]);have h5:=getElem_mem R;rw[e1,e2];unfold stM stV;simp only[d,S.pl,S.fB,S.fD];rw[<-h8];refine Q0u (P:=w0v regs h.c.at_) (.inr (.inl ⟨rfl,rfl⟩)) (.inl ⟨rfl,rfl⟩) _ ?_;exact U0U (pl:=h.c.pl) (by rw[<-S.pl];omega) j2 S.rel (by rw[<-d0B a b];exact e0o (c09 h5).2)
 have U:(k.step l n a b b_).flag=if k.flag==1 then 1 else 0:=rfl;have b3:(h.j0o l n a b b_).at_=((i+1:Nat):Int):=a1.a0;have k0:((((i+1:Nat):Int))==0)=false:=by rfl
 rcases j07 (fD:=(h.j0o l n a b b_).fD) (E7 e (h.j0o l n a b b_).pl (h.j0o l n a b b_).pl.length) (n:=(h.j0o l n a b b_).pl.length) (fun i h=>j0P h)with hB|⟨q,hB,hq⟩
 ·-- nothing is found
  have c0:((h.j0o l n a b b_).P6 l e).2=false:=by simp_all[Cs.P6,B0o]
  have hF:h.feed l n a b e b_=⟨h.j0o l n a b b_,h.tags,h.to,h.is⟩:=by simp_all[Hs.feed]
  have p:(k.step l n a b b_).K7 e 0=k.step l n a b b_:=by
   show(if(0:Int)==0 then _ else _)=_
   simp_all[Kd.cut]
  rw[p]at C2 ⊢;rw[hF]at I ⊢;refine⟨⟨I,I1,M1,by show h.to<=_;have:=S.tol;omega,f,o,u,v0n C1,fun r m=>S0U s r (by simp_all[Kd.num,X5]),?_,?_⟩,T0c s⟩
  ·show(k.step l n a b b_).flag=if h.is then(if i+1=0 then 2 else 0)else 1;rw[U,S.fl,if_neg (show ¬i+1=0 from O')]
   grind
  ·have h4:¬(h.is=true/\h.to=((i+1:Nat):Int)):=fun hh=>by have:=S.tol;omega
   show if h.is=true/\h.to=((i+1:Nat):Int)then _ else _;rw[if_neg h4];show a06 l e z (k.step l n a b b_).num=[];unfold a06 Kd.num
   grind
 ·-- the run q is found
  have i1:¬(q:Int)<0:=O'
  have c0:(h.j0o l n a b b_).P6 l e=(Z9 (h.j0o l n a b b_).at_ (-1) (gt (h.j0o l n a b b_).vals (q:Int)) (a7 l (e ((h.j0o l n a b b_).pl.getD q 0)).1.Steps),true):=by
   simp_all[Cs.P6,B0o]
  have hF:h.feed l n a b e b_=⟨(h.j0o l n a b b_).L0 (q0O (h.j0o l n a b b_).vals q),Z9 (h.j0o l n a b b_).at_ (-1) (gt (h.j0o l n a b b_).vals (q:Int)) (a7 l (e ((h.j0o l n a b b_).pl.getD q 0)).1.Steps),(h.j0o l n a b b_).at_,true⟩:=by
   simp_all[Hs.feed,Q0E]
  have p:(k.step l n a b b_).K7 e 0=(k.step l n a b b_).of 0 (A0v (h.j0o l n a b b_).vals (q0O (h.j0o l n a b b_).vals q) (h.j0o l n a b b_).pl.length):=by
   show(k.step l n a b b_).cut e=_;unfold Kd.cut;rw[f,u,hB,if_neg i1,o,Int.toNat_natCast,V06 a1 I1 M1 hq]
  rw[p]at C2 ⊢;rw[hF]at I ⊢;obtain⟨I2,M2⟩:=W0t a1 I1 M1 (q0O (h.j0o l n a b b_).vals q);have t:=a1.ok.len;have J:∀j∈A0v (h.j0o l n a b b_).vals (q0O (h.j0o l n a b b_).vals q) (h.j0o l n a b b_).pl.length,j<(h.j0o l n a b b_).pl.length:=fun j g=>Q0X g;have c5:(A0v (h.j0o l n a b b_).vals (q0O (h.j0o l n a b b_).vals q) (h.j0o l n a b b_).pl.length).filter (fun i=>(e ((h.j0o l n a b b_).pl.getD i 0)).2)=(E7 e (h.j0o l n a b b_).pl (h.j0o l n a b b_).pl.length).filter fun x=>decide (q0O (h.j0o l n a b b_).vals x<=q0O (h.j0o l n a b b_).vals q):=by
   simp[A0v,E7,Bool.and_comm]
  have e5:=W0j (vals:=(h.j0o l n a b b_).vals) (fD:=(h.j0o l n a b b_).fD) (fun x y hx hy j1=>(I1.ahead x y hx hy j1).2) (C:=E7 e (h.j0o l n a b b_).pl (h.j0o l n a b b_).pl.length) (fun x hx=>by rw[t];exact j0P hx) hB;rw[<-c5]at e5;have e7:((h.j0o l n a b b_).L0 (q0O (h.j0o l n a b b_).vals q)).vals=(A0v (h.j0o l n a b b_).vals (q0O (h.j0o l n a b b_).vals q) (h.j0o l n a b b_).pl.length).map fun i:Nat=>gt (h.j0o l n a b b_).vals (i:Int):=rfl;have j3:=V0N e (h.j0o l n a b b_).pl _ J;have b2:((k.step l n a b b_).of 0 (A0v (h.j0o l n a b b_).vals (q0O (h.j0o l n a b b_).vals q) (h.j0o l n a b b_).pl.length)).pl=(A0v (h.j0o l n a b b_).vals (q0O (h.j0o l n a b b_).vals q) (h.j0o l n a b b_).pl.length).map fun i=>(h.j0o l n a b b_).pl.getD i 0:=by unfold Kd.of;rw[f]
  have c8:((k.step l n a b b_).of 0 (A0v (h.j0o l n a b b_).vals (q0O (h.j0o l n a b b_).vals q) (h.j0o l n a b b_).pl.length)).fB=fun i j=>(h.j0o l n a b b_).fB ((A0v (h.j0o l n a b b_).vals (q0O (h.j0o l n a b b_).vals q) (h.j0o l n a b b_).pl.length).getD i 0) ((A0v (h.j0o l n a b b_).vals (q0O (h.j0o l n a b b_).vals q) (h.j0o l n a b b_).pl.length).getD j 0):=by unfold Kd.of;rw[o]
  have b4:((k.step l n a b b_).of 0 (A0v (h.j0o l n a b b_).vals (q0O (h.j0o l n a b b_).vals q) (h.j0o l n a b b_).pl.length)).fD=fun i j=>(h.j0o l n a b b_).fD ((A0v (h.j0o l n a b b_).vals (q0O (h.j0o l n a b b_).vals q) (h.j0o l n a b b_).pl.length).getD i 0) ((A0v (h.j0o l n a b b_).vals (q0O (h.j0o l n a b b_).vals q) (h.j0o l n a b b_).pl.length).getD j 0):=by unfold Kd.of;rw[u]
  have c4:((k.step l n a b b_).of 0 (A0v (h.j0o l n a b b_).vals (q0O (h.j0o l n a b b_).vals q) (h.j0o l n a b b_).pl.length)).maps=(A0v (h.j0o l n a b b_).vals (q0O (h.j0o l n a b b_).vals q) (h.j0o l n a b b_).pl.length).map fun i:Nat=>gt (k.step l n a b b_).maps (i:Int):=rfl;have h9:((k.step l n a b b_).of 0 (A0v (h.j0o l n a b b_).vals (q0O (h.j0o l n a b b_).vals q) (h.j0o l n a b b_).pl.length)).flag=0:=rfl;have j0:((h.j0o l n a b b_).L0 (q0O (h.j0o l n a b b_).vals q)).pl=(A0v (h.j0o l n a b b_).vals (q0O (h.j0o l n a b b_).vals q) (h.j0o l n a b b_).pl.length).map fun i=>(h.j0o l n a b b_).pl.getD i 0:=rfl;generalize k4:(k.step l n a b b_).of 0 (A0v (h.j0o l n a b b_).vals (q0O (h.j0o l n a b b_).vals q) (h.j0o l n a b b_).pl.length)=k2 at *;generalize b5:A0v (h.j0o l n a b b_).vals (q0O (h.j0o l n a b b_).vals q) (h.j0o l n a b b_).pl.length=st at *;have w:∀r,r<k2.maps.length->h0G (w0v regs (i:Int)) (gt k2.maps (r:Int)) (gt ((h.j0o l n a b b_).L0 (q0O (h.j0o l n a b b_).vals q)).vals (r:Int)):=by
   intro r m;have R:r<st.length:=by rw[c4]at m;simpa using m
   obtain⟨e1,e2⟩:=S0M (vals:=(k.step l n a b b_).maps) (fun j g=>by rw[e9,f];exact J j g) R;obtain⟨e3,e4⟩:=S0M (vals:=(h.j0o l n a b b_).vals) (fun j g=>by rw[t];exact J j g) R;rw[c4,e7,e1,e3];exact s _ e2
  refine⟨⟨I,I2,M2,by show(h.j0o l n a b b_).at_<=_;omega,?_,?_,?_,v0n C2,fun r m=>S0U w r (by simpa[Kd.num,X5]using m),?_,?_⟩,T0c w⟩
  ·show k2.pl=_;rw[b2,j0]
  ·show k2.fB=_;rw[c8];show _=fun i j=>(h.j0o l n a b b_).fB ((A0v (h.j0o l n a b b_).vals (q0O (h.j0o l n a b b_).vals q) (h.j0o l n a b b_).pl.length).getD i 0) ((A0v (h.j0o l n a b b_).vals (q0O (h.j0o l n a b b_).vals q) (h.j0o l n a b b_).pl.length).getD j 0);rw[b5]
  ·show k2.fD=_;rw[b4];show _=fun i j=>(h.j0o l n a b b_).fD ((A0v (h.j0o l n a b b_).vals (q0O (h.j0o l n a b b_).vals q) (h.j0o l n a b b_).pl.length).getD i 0) ((A0v (h.j0o l n a b b_).vals (q0O (h.j0o l n a b b_).vals q) (h.j0o l n a b b_).pl.length).getD j 0);rw[b5]
  ·show k2.flag=if true then(if i+1=0 then 2 else 0)else 1;rw[h9];rfl
  ·show if true=true/\(h.j0o l n a b b_).at_=((i+1:Nat):Int)then _ else _;rw[if_pos ⟨rfl,b3⟩];have c3:=U0D (h.j0o l n a b b_).fD st (E7 e (st.map fun i=>(h.j0o l n a b b_).pl.getD i 0) (st.map fun i=>(h.j0o l n a b b_).pl.getD i 0).length) (-1) (fun _=>trivial) (-1) (.inl ⟨O',O'⟩);rw[j3]at c3;have h3:(st.filter fun i=>(e ((h.j0o l n a b b_).pl.getD i 0)).2).foldl (e09 (h.j0o l n a b b_).fD) (-1)=(q:Int):=e5;rw[h3]at c3;rcases c3 with⟨_,h2⟩|⟨h1,h2⟩
   ·omega
   ·have h6:=j07 (fD:=fun i j=>(h.j0o l n a b b_).fD (st.getD i 0) (st.getD j 0)) (E7 e (st.map fun i=>(h.j0o l n a b b_).pl.getD i 0) (st.map fun i=>(h.j0o l n a b b_).pl.getD i 0).length) (n:=(st.map fun i=>(h.j0o l n a b b_).pl.getD i 0).length) (fun i h=>j0P h);have h0:D8 (fun i j=>(h.j0o l n a b b_).fD (st.getD i 0) (st.getD j 0)) (E7 e (st.map fun i=>(h.j0o l n a b b_).pl.getD i 0) (st.map fun i=>(h.j0o l n a b b_).pl.getD i 0).length)=(E7 e (st.map fun i=>(h.j0o l n a b b_).pl.getD i 0) (st.map fun i=>(h.j0o l n a b b_).pl.getD i 0).length).foldl (e09 fun i j=>(h.j0o l n a b b_).fD (st.getD i 0) (st.getD j 0)) (-1):=rfl;rw[<-h0]at h1 h2;rcases h6 with m|⟨j,m,g⟩
    ·rw[m]at h1;omega
    ·rw[m,Int.toNat_natCast]at h2;have g:j<st.length:=by simpa using g
     have e6:q=st.getD j 0:=O'
     have h7:a06 l e z k2.num=Z9 (-1) (-2) (gt (X5 k2.maps) (j:Int)) (a7 l (e ((h.j0o l n a b b_).pl.getD q 0)).1.Steps):=by
      unfold a06 Kd.num;simp only[b2,b4];rw[m,if_neg O',Int.toNat_natCast];have:(st.map fun i=>(h.j0o l n a b b_).pl.getD i 0).getD j 0=(h.j0o l n a b b_).pl.getD q 0:=by
       rw[e6];simp[List.getD,g]
      rw[this]
     have c6:j<k2.maps.length:=by rw[c4];simpa using g
     have b1:=S0U w j c6;obtain⟨e3,_⟩:=S0M (vals:=(h.j0o l n a b b_).vals) (fun j g=>by rw[t];exact J j g) g;rw[e7,e3,<-e6]at b1;rw[h7];refine⟨?_,?_⟩
     ·rw[b3];exact Q0u (P:=w0v (f0l regs (M4 k2.maps) (i:Int)) ((i+1:Nat):Int)) (.inr (.inl ⟨rfl,rfl⟩)) (.inl ⟨rfl,rfl⟩) _ (b1.mono (fun e v hh=>hh.n _))
     ·rw[e0V];have:=(v0n C2).row (gt (X5 k2.maps) (j:Int)) (b8 (by show j<(X5 k2.maps).length;simpa[X5]using c6));exact this
end
def r0Y {α:Type}[Inhabited α]{v:List α}{y:α}(c:y∈v):∃m:Nat,m<v.length/\gt v (m:Int)=y:=by
 obtain⟨m,hm⟩:=List.getElem?_of_mem c;exact⟨m,(List.getElem?_eq_some_iff.1 hm).1,X2 hm⟩
def w07 {s:List Int}{v:Int}(h:v≠-2->v∈s):O3 s v=-2\/(0<=O3 s v/\O3 s v<(s.length:Int)):=by
 unfold O3;split
 ·exact .inl rfl
 ·rename_i hn;have:=List.idxOf_lt_length_of_mem (h hn);exact .inr ⟨O',O'⟩
def G0H (maps:List (List Int)):∀v∈X5 maps,∀y∈v,y=-2\/(0<=y/\y<((M4 maps).length:Int)):=by
 intro v d y f;unfold X5 at d;obtain⟨r,g,rfl⟩:=mem_map.1 d;obtain⟨x,h,rfl⟩:=mem_map.1 f;refine w07 fun c=>?_;unfold M4;exact r0I c _ _ (.inl (mem_flatten.2 ⟨r,g,h⟩))
section
variable {F:Nat}{l:List C0}{n:Nat}{a:List B0}{b:Nat->List B0}{e:Nat->B0×Bool}{z:B0×Bool}
def B0C (K:U3 l n a b e z F)(hw:∀x∈l,P2 x){k:Kd}(C:R3 l n k.pl k.maps k.fB k.fD){R:Int}(he:∀v∈k.maps,∀y∈v,y=-2\/0<=y)(hR:∀v∈k.maps,∀y∈v,y<R)(b_:Int)(mode:Int):∀v∈M4 ((k.step l n a b b_).K7 e mode).maps,v=-1\/(0<=v/\v<R):=by
 have p:=C.len;have base:∀s,s<C5 k.pl (!(k.flag==0))->∀y∈gt (a0F l k.maps (!(k.flag==0))) (s:Int),y=-2\/y=-1\/(0<=y/\y<R):=by
  intro s hs y f;unfold a0F at f;unfold C5 at hs
  by_cases c:s<k.pl.length
  ·rw[b0Y O' O']at f;have hm:=b8 (l:=k.maps) (i:=s) O';rcases he _ hm y f with h|h
   ·exact .inl h
   ·exact .inr (.inr ⟨h,hR _ hm y f⟩)
  ·cases g:(!(k.flag==0))with
   |false=>rw[g]at hs;simp at hs;omega
   |true=>
    rw[g]at hs f;simp only[if_true]at hs f;have e:s=k.pl.length:=O'
    subst e;rw[e0v p.symm]at f;unfold b0I at f;rcases List.mem_or_eq_of_mem_set f with h|h
    ·exact .inl (List.eq_of_mem_replicate h)
    ·exact .inr (.inl h)
 have j0o:∀v∈(k.step l n a b b_).maps,∀y∈v,y=-2\/y=-1\/(0<=y/\y<R):=by
  intro v d y f;obtain⟨r,t,rfl⟩:=mem_map.1 d;obtain⟨m,m1,m2⟩:=r0Y f;have hs:T5 a b k.pl k.fB k.fD (!(k.flag==0)) r<C5 k.pl (!(k.flag==0)):=by rw[<-d0B a b];exact e0o (c09 t).2
  unfold stM at m1 m2;rw[e0V]at m1;rcases q0e (-1) (-2) m (a7 l (V5 a b k.pl k.fB k.fD (!(k.flag==0)) r).Steps) (gt (a0F l k.maps (!(k.flag==0))) (T5 a b k.pl k.fB k.fD (!(k.flag==0)) r:Int))with h|h|h
  ·rw[h]at m2;rw[<-m2];exact base _ hs _ (b8 m1)
  ·rw[h]at m2;exact .inr (.inl m2.symm)
  ·rw[h]at m2;exact .inl m2.symm
 have j:∀v∈((k.step l n a b b_).K7 e mode).maps,∀y∈v,y=-2\/y=-1\/(0<=y/\y<R):=by
  intro v d;unfold Kd.K7 at d;split at d
  ·unfold Kd.cut at d;split at d
   ·exact j0o v d
   ·obtain⟨i,hi,rfl⟩:=mem_map.1 d;exact j0o _ (b8 (by rw[(o0m K hw C b_).len];exact n01 hi))
  ·exact j0o v d
 intro v d;rcases t0z _ _ d with d|⟨d,hne⟩
 ·cases d
 ·obtain⟨row,o,q⟩:=mem_flatten.1 d;rcases j row o v q with h|h|h
  ·exact absurd h hne
  ·exact .inl h
  ·exact .inr h
structure KOk (F:Nat)(l:List C0)(n:Nat)(k:Kd)(R:Nat):Prop where
 C:R3 l n k.pl k.maps k.fB k.fD
 f0:0<=k.flag
 f2:k.flag<=2
 rt:c0P F l k.K=some true
 rg:c0k F k.K=some (R:Int)
 en:∀v∈k.maps,∀y∈v,y=-2\/(0<=y/\y<(R:Int))
 le:R<=n*19
def Kd.next (l:List C0)(n:Nat)(a:List B0)(b:Nat->List B0)(e:Nat->B0×Bool)(mode:Int)(k:Kd)(b_:Int):Kd:=((k.step l n a b b_).K7 e mode).num
def Kd.src (l:List C0)(n:Nat)(a:List B0)(b:Nat->List B0)(e:Nat->B0×Bool)(mode:Int)(k:Kd)(b_:Int):List Int:=M4 ((k.step l n a b b_).K7 e mode).maps
def x0l (K:U3 l n a b e z F)(hw:∀x∈l,P2 x){k:Kd}{R:Nat}(h:KOk F l n k R){mode:Int}(hm:mode=0\/mode=1){b_:Int}(p:L5 .u8 b_):
  c0Q F l mode k.K b_=some ((k.next l n a b e mode b_).K,k.src l n a b e mode b_)/\KOk F l n (k.next l n a b e mode b_) (k.src l n a b e mode b_).length/\∀v∈k.src l n a b e mode b_,v=-1\/(0<=v/\v<(R:Int)):=by
 have m:=o0m K hw h.C b_;have f:=t0R (e:=e) mode m;have d:(k.step l n a b b_).flag=if k.flag==1 then 1 else 0:=rfl;have c:0<=((k.step l n a b b_).K7 e mode).flag/\((k.step l n a b b_).K7 e mode).flag<=2:=by
  have g:0<=(k.step l n a b b_).flag/\(k.step l n a b b_).flag<=2:=by rw[d];split<;>omega
  unfold Kd.K7;split
  ·unfold Kd.cut;split
   ·exact g
   ·exact⟨Int.le_refl _,by show(0:Int)<=2;omega⟩
  ·exact g
 obtain⟨q,s⟩:=w0O K f c.1 c.2;refine⟨F0p K hw h.C h.rt hm p,⟨v0n f,c.1,c.2,q,s,G0H _,?_⟩,B0C K hw h.C (fun v j y i=>(h.en v j y i).imp id And.left) (fun v j y i=>by rcases h.en v j y i with h|h<;>omega) b_ mode⟩;have t:=a07 l;have J:=j0f ((k.step l n a b b_).K7 e mode).maps 19 (fun r o=>by have:=f.row r o;omega);have g:=l0c ((k.step l n a b b_).K7 e mode).maps.flatten [];have u:=f.len;have I:=f.le;have w:((k.step l n a b b_).K7 e mode).maps.length*19<=n*19:=Nat.mul_le_mul_right _ O';simp only[List.length_nil]at g;unfold Kd.src M4;omega
def Kd.zero (z:B0×Bool)(mode:Int):Kd:=⟨if mode=1\/z.2=true then 2 else 1,[],[],fun _ _=>0,fun _ _=>0⟩
def A0M (K:U3 l n a b e z F)(hw:∀x∈l,P2 x){mode:Int}(hm:mode=0\/mode=1):d0z F l mode=some ((Kd.zero z mode).K,0)/\KOk F l n (Kd.zero z mode) 0:=by
 have f1:=K.f1;have g:=a07 l;constructor
 ·rcases hm with rfl|rfl
  ·rw[x06 K hw];unfold Kd.zero Kd.K;cases z.2<;>rfl
  ·unfold d0z f0d;rw[K.TF.mR];rfl
 ·have C:R3 l n (Kd.zero z mode).pl (Kd.zero z mode).maps (Kd.zero z mode).fB (Kd.zero z mode).fD:=B0r l n;have f0:0<=(Kd.zero z mode).flag:=by unfold Kd.zero;simp only;split<;>omega
  have f2:(Kd.zero z mode).flag<=2:=by unfold Kd.zero;simp only;split<;>omega
  obtain⟨d,f⟩:=w0O K C f0 f2;exact⟨C,f0,f2,d,f,fun v c=>(by cases(show v∈([]:List (List Int))from c)),Nat.zero_le _⟩
def D0j (K:U3 l n a b e z F){k:Kd}{R:Nat}(h:KOk F l n k R):c0s F l k.K=some (a06 l e z k)/\((a06 l e z k).length=0\/(a06 l e z k).length=(C4 l).toNat)/\∀v∈a06 l e z k,v=-2\/v=-1\/(0<=v/\v<(R:Int)):=by
 refine⟨E0B K h.C h.rt,?_⟩;have d:∀(row:List Int) (ms:List J2),(∀y∈row,y=-2\/y=-1\/(0<=y/\y<(R:Int)))->∀y∈Z9 (-1) (-2) row ms,y=-2\/y=-1\/(0<=y/\y<(R:Int)):=by
  intro row ms g y c;obtain⟨m,m1,m2⟩:=r0Y c;rw[e0V]at m1;rcases q0e (-1) (-2) m ms row with q|q|q
  ·rw[q]at m2;rw[<-m2];exact g _ (b8 m1)
  ·rw[q]at m2;exact .inr (.inl m2.symm)
  ·rw[q]at m2;exact .inl m2.symm
 unfold a06;rcases j07 (fD:=k.fD) (E7 e k.pl k.pl.length) (n:=k.pl.length) (fun i h=>j0P h)with hb|⟨q,hb,hq⟩
 ·rw[hb,if_pos O'];split
  ·refine⟨.inr (by rw[e0V,q0p]),d _ _ fun y c=>?_⟩;unfold b0I at c;rcases List.mem_or_eq_of_mem_set c with h|h
   ·exact .inl (List.eq_of_mem_replicate h)
   ·exact .inr (.inl h)
  ·exact⟨.inl rfl,fun v f=>by cases f⟩
 ·rw[hb,if_neg O'];have hm:=b8 (l:=k.maps) (i:=q) (by rw[h.C.len];exact hq);refine⟨.inr (by rw[e0V];exact h.C.row _ hm),d _ _ fun y c=>?_⟩;rcases h.en _ hm y c with h|h
  ·exact .inl h
  ·exact .inr (.inr h)
end
section
variable {F:Nat}{l:List C0}{n:Nat}{a:List B0}{b:Nat->List B0}{e:Nat->B0×Bool}{z:B0×Bool}
def P0l {h1 c:Nat->Bool}{Ws:List (List B0)}{k:Nat}(h:∀r,r<k->h1 r=c r):H6 h1 Ws k=H6 c Ws k:=by
 unfold H6;refine List.filter_congr fun r d=>?_;rw[h r (List.mem_range.1 d)]
def Q0d {x y:Int}(h:∀r,r<n->s7 l x r=s7 l y r)(k:Kd):k.step l n a b x=k.step l n a b y:=by
 have:∀E0,Z3 l n a b k.pl x E0=Z3 l n a b k.pl y E0:=fun E0=>P0l h;unfold Kd.step;rw[this]
def P0z {x y:Int}(h:∀r,r<n->s7 l x r=s7 l y r)(mode:Int)(k:Kd):k.next l n a b e mode x=k.next l n a b e mode y/\k.src l n a b e mode x=k.src l n a b e mode y:=by
 unfold Kd.next Kd.src;rw[Q0d h];exact⟨rfl,rfl⟩
structure R0Z (l:List C0)(n:Nat)(c:Cs)(k:Kd)(regs:List Int)(i:Nat):Prop where
 ok:w04 l n c i
 pl:k.pl=c.pl
 fB:k.fB=c.fB
 fD:k.fD=c.fD
 C:R3 l n k.pl k.maps k.fB k.fD
 rel:∀r,r<k.maps.length->h0G (q0n regs) (gt k.maps (r:Int)) (gt c.vals (r:Int))
 fl:k.flag=if i=0 then 2 else 0
def W0g (l:List C0)(n:Nat)(z:B0×Bool):R0Z l n Cs.zero (Kd.zero z 1) [] 0 where
 ok:=U0z l n
 pl:=rfl
 fB:=rfl
 fD:=rfl
 C:=B0r l n
 rel:=fun r h=>absurd h (Nat.not_lt_zero r)
 fl:=rfl
def V0w (K:U3 l n a b e z F)(hw:∀x∈l,P2 x){c:Cs}{k:Kd}{regs:List Int}{i:Nat}(S:R0Z l n c k regs i)(b_:Int):
  R0Z l n (c.step l n a b b_ (i==0)) (k.next l n a b e 1 b_) (f0l regs (k.src l n a b e 1 b_) (i:Int)) (i+1)/\∀v∈k.src l n a b e 1 b_,v=-1\/(0<=v/\v<(regs.length:Int)):=by
 have d:(!(k.flag==0))=(i==0):=by
  rw[S.fl]
  by_cases h:i=0
  ·subst h;rfl
  ·rw[if_neg h];simpa using h
 have I:=S.ok.a0;have R:=o0m K hw S.C b_;have q:(k.step l n a b b_).K7 e 1=k.step l n a b b_:=rfl;have w:=S.ok.ok.len;have J:=S.C.len;have p:(k.step l n a b b_).pl=(c.step l n a b b_ (i==0)).pl:=by
  show Z3 l n a b k.pl b_ (!(k.flag==0))=Z3 l n a b c.pl b_ (i==0);rw[d,S.pl]
 have s:(k.step l n a b b_).fB=(c.step l n a b b_ (i==0)).fB:=by
  unfold Kd.step Cs.step;simp only[d,S.pl,S.fB,S.fD]
 have o:(k.step l n a b b_).fD=(c.step l n a b b_ (i==0)).fD:=by
  unfold Kd.step Cs.step;simp only[d,S.pl,S.fB,S.fD]
 have y:(k.step l n a b b_).maps.length=(k.step l n a b b_).pl.length:=R.len;have g:∀r,r<(k.step l n a b b_).maps.length->h0G (w0v regs (i:Int)) (gt (k.step l n a b b_).maps (r:Int)) (gt (c.step l n a b b_ (i==0)).vals (r:Int)):=by
  intro r u;rw[y]at u;have j:r<(Z3 l n a b k.pl b_ (!(k.flag==0))).length:=u;have e1:gt (k.step l n a b b_).maps (r:Int)=stM l a b k.pl k.maps k.fB k.fD (!(k.flag==0)) (Z3 l n a b k.pl b_ (!(k.flag==0)))[r]:=X2 (by simp[Kd.step,j]);have t:r<(Z3 l n a b c.pl b_ (i==0)).length:=by rw[<-S.pl,<-d];exact j
  have U:gt (c.step l n a b b_ (i==0)).vals (r:Int)=stV l a b c.at_ c.pl c.vals c.fB c.fD (i==0) (Z3 l n a b c.pl b_ (i==0))[r]:=X2 (by simp[Cs.step,t]);have m:=getElem_mem t;rw[e1,U];unfold stM stV;simp only[d,S.pl,S.fB,S.fD];rw[<-I];refine Q0u (P:=w0v regs c.at_) (.inr (.inl ⟨rfl,rfl⟩)) (.inl ⟨rfl,rfl⟩) _ ?_;exact U0U (pl:=c.pl) (by rw[<-S.pl];exact J) w S.rel (by rw[<-d0B a b];exact e0o (c09 m).2)
 have f:(k.step l n a b b_).flag=0:=by
  show(if k.flag==1 then(1:Int)else 0)=0;rw[S.fl]
  by_cases h:i=0
  ·rw[if_pos h];rfl
  ·rw[if_neg h];rfl
 unfold Kd.next Kd.src;rw[q];exact⟨⟨S0Q K hw S.ok b_ _,p,s,o,v0n R,fun r u=>S0U g r (by simpa[Kd.num,X5]using u),by show(k.step l n a b b_).flag=_;rw[f,if_neg O']⟩,T0c g⟩
def W09 {c:Cs}{k:Kd}{regs:List Int}{i:Nat}(S:R0Z l n c k regs i)(h:i≠0):
  ((c.P6 l e).2=true->h0G (w0v regs (i:Int)) (a06 l e z k) (c.P6 l e).1)/\((c.P6 l e).2=false->a06 l e z k=[]):=by
 have d:=S.ok.a0;have f:k.flag=0:=by rw[S.fl,if_neg h]
 unfold Cs.P6 B0o a06;rw[S.pl,S.fD];rcases j07 (fD:=c.fD) (E7 e c.pl c.pl.length) (n:=c.pl.length) (fun i h=>j0P h)with hB|⟨q,hB,hq⟩
 ·rw[hB];simp only[q0,show((-1:Int)<0)=True from Z',f,show((0:Int)==2)=false from rfl,Bool.false_and,Bool.and_false];exact⟨fun h=>(by cases h),fun _=>trivial⟩
 ·rw[hB,if_neg O',if_neg O',d];refine⟨fun _=>Q0u (P:=w0v regs (i:Int)) (.inr (.inl ⟨rfl,rfl⟩)) (.inl ⟨rfl,rfl⟩) _ ?_,fun h=>by cases h⟩;exact(S.rel q (by rw[S.C.len,S.pl];exact hq)).mono fun e v g=>g.n _
def W0G:((s0N l z 0).2=true->h0G (w0v [] 0) (a06 l e z (Kd.zero z 1)) (s0N l z 0).1)/\((s0N l z 0).2=false->a06 l e z (Kd.zero z 1)=[]):=by
 have d:D8 (Kd.zero z 1).fD (E7 e (Kd.zero z 1).pl (Kd.zero z 1).pl.length)=-1:=rfl;have c:((Kd.zero z 1).flag==2&&(Kd.zero z 1).pl.length==0)=true:=rfl;unfold s0N a06;rw[d,if_pos (show(-1:Int)<0 from O'),c];cases z.2 with
 |false=>exact⟨fun h=>(by cases h),fun _=>rfl⟩
 |true=>
  refine⟨fun _=>?_,fun h=>by cases h⟩;exact Q0u (P:=w0v [] 0) (.inr (.inl ⟨rfl,rfl⟩)) (.inl ⟨rfl,rfl⟩) _ (T0J l [] 0)
end
end Go.Proofs.YtihmgaccbcfgjaaGreat
namespace Go.Proofs.YtihmgaccbcfgjaaGreat
open Go.V Go.RowKit Go.X
def j0i {S ρ:Type}{body:S->Option (Q0 S ρ)}(n:Nat)(g:Nat->S)(res:ρ)(hs:∀i,i<n->body (g i)=some (.next (g (i+1))))(he:body (g n)=some (.done res)){fu:Nat}(h:n<fu):iter body fu (g 0)=some res:=by
 have key:∀(k i fu:Nat),i+k=n->k<fu->iter body fu (g i)=some res:=by
  intro k
  induction k with
  |zero=>
   intro i fu hi c;obtain⟨fu,rfl⟩:∃m,fu=m+1:=⟨fu-1,O'⟩
   unfold iter;rw[show i=n from O',he]
  |succ k ih=>
   intro i fu hi c;obtain⟨fu,rfl⟩:∃m,fu=m+1:=⟨fu-1,O'⟩
   unfold iter;rw[hs i O'];exact ih (i+1) fu O' O'
 exact key n 0 fu O' h
def c0H {α ρ:Type}[Inhabited α](l:List α)(p:α->Bool)(good:ρ)(bad:Nat->ρ){body:Int->Option (Q0 Int ρ)}
  (hs:∀i:Nat,i<l.length->body (i:Int)=some (if p (gt l (i:Int))then .next ((i+1:Nat):Int)else .done (bad i))) (he:body (l.length:Int)=some (.done good)) {fu:Nat} (h:l.length<fu):
  ∃k,iter body fu 0=some (if l.all p then good else bad k):=by
 have key:∀(k i fu:Nat),i+k=l.length->k<fu->∃j,iter body fu (i:Int)=some (if(l.drop i).all p then good else bad j):=by
  intro k
  induction k with
  |zero=>
   intro i fu hi d;obtain⟨fu,rfl⟩:∃m,fu=m+1:=⟨fu-1,O'⟩
   refine⟨0,?_⟩;unfold iter;rw[show i=l.length from O',he];simp
  |succ k ih=>
   intro i fu hi d;obtain⟨fu,rfl⟩:∃m,fu=m+1:=⟨fu-1,O'⟩
   obtain⟨j,f⟩:=ih (i+1) fu O' O';have c:i<l.length:=O'
   have hd:l.drop i=gt l (i:Int) :: l.drop (i+1):=by
    rw[List.drop_eq_getElem_cons c,X2 (x:=l[i]) (by simp[c])]
   unfold iter;rw[hs i c,hd]
   by_cases hp:p (gt l (i:Int))=true
   ·rw[if_pos hp];exact⟨j,by simp only[f,List.all_cons,hp,Bool.true_and]⟩
   ·have hp:p (gt l (i:Int))=false:=by simpa using hp
    refine⟨i,?_⟩;simp only[hp,List.all_cons,Bool.false_and,false_eq_true,if_false]
 exact key l.length 0 fu O' h
def b0x {α:Type}[Inhabited α]{l:List α}{i:Nat}(h:i<l.length):gt l (i:Int)∈l:=by
 rw[X2 (x:=l[i]) (by simp[h])];exact getElem_mem h
def J0H {α:Type}[Inhabited α]{l:List α}{i:Int}(c:0<=i)(h:i<(l.length:Int)):gt l i∈l:=by
 obtain⟨n,rfl⟩:∃n:Nat,i=n:=⟨i.toNat,O'⟩
 exact b0x O'
def dec_lt {a b:Nat}(h:a<b):decide ((a:Int)<(b:Int))=true:=by simp;omega
def J0W {α β:Type}[Inhabited α](f:α->β)(l:List α){i:Nat}(h:i<l.length):(l.take (i+1)).map f=(l.take i).map f++[f (gt l (i:Int))]:=by
 have:l[i]?=some (gt l (i:Int)):=by rw[X2 (x:=l[i]) (by simp[h])];simp[h]
 rw[List.take_succ,this,List.map_append];rfl
def z6 (n regs:Int):Bool:=n==-1||(decide (0<=n)&&decide (n<regs))
def c0C (s:L3)(tags:Int):Bool:=(s.Accept.length:Int)==0||((s.Accept.length:Int)==tags&&s.Accept.all fun n=>n==-2||z6 n s.Regs)
def L7 (d:Y1)(regs:Int)(x:H4):Bool:=
 if x.To=-1 then(x.Src.length:Int)==0 else decide (0<=x.To)&&decide (x.To<(d.States.length:Int))&&(x.Src.length:Int)==(gt d.States x.To).Regs&&x.Src.all fun n=>z6 n regs
def b0X (d:Y1)(k:Nat)(s:L3):Bool:=decide (0<=s.Regs)&&decide (s.Regs<=1216)&&(s.Edges.length:Int)==(k:Int)&&c0C s d.Tags&&s.Edges.all (L7 d s.Regs)
def N6:List Int->Int->Option Int
 |[],n=>some n
 |c :: r,n=>if c<0\/n<c then none else N6 r (if c=n then n+1 else n)
def J8 (c:List Int):Bool:=(N6 c 0).isSome&&(c.length:Int)==256
def F9:List Int->Nat->List Int->List Int
 |[],_,out=>out
 |c :: r,b,out=>F9 r (b+1) (if c=(out.length:Int)then out++[IntKind.u8.wrap (b:Int)]else out)
def M0 (c:List Int):List Int:=F9 c 0 []
def a0V (d:Y1):Bool:=
 decide (1<=d.Tags)&&decide (d.Tags<=19)&&!(d.Tags.tmod 2==0)&&!((d.States.length:Int)==0)&&decide ((d.States.length:Int)<=400)&&J8 d.Class&&d.States.all (b0X d (M0 d.Class).length)&&(gt d.States 0).Regs==0
structure Sm (d:Y1):Prop where
 st:d.States.length<=100
 cl:d.Class.length<=300
 ac:∀s∈d.States,s.Accept.length<=40
 ed:∀s∈d.States,s.Edges.length<=300
 rg:∀s∈d.States,s.Regs<=400
 sr:∀s∈d.States,∀x∈s.Edges,x.Src.length<=400
variable {F:Nat}
def v0f (n regs:Int):h0r F n regs=some (z6 n regs):=by
 unfold h0r z6
 by_cases h:n=-1
 ·subst h;rfl
 ·have:(n==-1)=false:=by simpa using h
  rw[this]
  by_cases c:0<=n
  ·have:decide (n>=0)=true:=by simpa using c
   simp[this,c]
  ·have:decide (n>=0)=false:=by simpa using c
   simp[this,c]
def w0h (n regs:Int)(may:Bool):i0A F n regs may=some (z6 n regs||(may&&n==-2)):=by
 unfold i0A z6
 by_cases c:0<=n
 ·have e:decide (n>=0)=true:=by simpa using c
  have h1:(n==-1)=false:=by simp;omega
  have f:(n==-2)=false:=by simp;omega
  cases d:decide (n<regs)<;>cases may<;>simp[e,h1,c,f,d]
 ·have e:decide (n>=0)=false:=by simpa using c
  cases d:(n==-1)<;>cases may<;>simp[e,c,d]
def E0a (s:L3)(tags:Int)(hl:s.Accept.length<=1000)(f:2000<F):l0l F s tags=some (c0C s tags):=by
 unfold l0l c0C;cases g:(s.Accept.length:Int)==0
 ·cases h1:(s.Accept.length:Int)==tags
  ·simp
  ·obtain⟨k,hk⟩:=c0H (body:=k0m F s) s.Accept (fun n=>n==-2||z6 n s.Regs) (.inr ()) (fun i=>.inl (i:Int)) (fun i hi=>by
    unfold k0m;simp only[dec_lt hi,Y7,hi,decide_true,if_true];cases d:gt s.Accept (i:Int)==-2
    ·have:(gt s.Accept (i:Int) != -2)=true:=by simp[bne,d]
     simp only[this,if_true,v0f,G0,Bool.false_or];cases z6 (gt s.Accept (i:Int)) s.Regs
     ·simp
     ·simp only[q0];rw[Go.V.X1 O']
    ·have:(gt s.Accept (i:Int) != -2)=false:=by simp[bne,d]
     simp only[q0,this,Bool.true_or];rw[Go.V.X1 O']) (by
    unfold k0m;simp) (fu:=F) O'
   simp only[q0,hk,Bool.false_or,Bool.true_and];cases c:s.Accept.all fun n=>n==-2||z6 n s.Regs
   ·simp
   ·simp
 ·simp
def I0e (d:Y1)(s:L3)(x:H4)(hl:x.Src.length<=1000)(o:2000<F):k0u F d s x=some (L7 d s.Regs x):=by
 unfold k0u L7
 by_cases h:x.To=-1
 ·simp[h]
 ·have e:(x.To==-1)=false:=by simpa using h
  simp only[e,false_eq_true,if_false,h]
  by_cases h1:0<=x.To
  ·have c:decide (x.To>=0)=true:=by simpa using h1
   by_cases g:x.To<(d.States.length:Int)
   ·have f:y0 d.States x.To=true:=V0 h1 g;cases m:(x.Src.length:Int)==(gt d.States x.To).Regs
    ·simp[c,g,f,m]
    ·obtain⟨k,hk⟩:=c0H (body:=j0j F s x) x.Src (fun n=>z6 n s.Regs) (.inr ()) (fun i=>.inl (i:Int)) (fun i hi=>by
      unfold j0j;simp only[q0,dec_lt hi,Y7,hi,v0f];cases z6 (gt x.Src (i:Int)) s.Regs
      ·simp
      ·simp only[q0];rw[Go.V.X1 O']) (by
      unfold j0j;simp) (fu:=F) O'
     simp only[q0,c,h1,g,f,m,hk,Bool.true_and];cases j:x.Src.all fun n=>z6 n s.Regs<;>simp
   ·simp[c,g]
  ·have c:decide (x.To>=0)=false:=by simpa using h1
   simp[c,h1]
def y0n (d:Y1)(regs:Int)(x:H4)(hl:x.Src.length<=1000)(p:2000<F):l0m F d x regs=some (L7 d regs x):=by
 unfold l0m L7
 by_cases m:x.To=-1
 ·simp[m]
 ·have e:(x.To==-1)=false:=by simpa using m
  simp only[e,false_eq_true,if_false,m]
  by_cases h1:0<=x.To
  ·have c:decide (x.To<0)=false:=by simpa using h1
   by_cases g:x.To<(d.States.length:Int)
   ·have f:y0 d.States x.To=true:=V0 h1 g;have h:decide (x.To>=(d.States.length:Int))=false:=by simpa using g
    cases j:(x.Src.length:Int)==(gt d.States x.To).Regs
    ·have:((x.Src.length:Int) != (gt d.States x.To).Regs)=true:=by simp[bne,j]
     simp[c,h,g,f,j,this]
    ·have:((x.Src.length:Int) != (gt d.States x.To).Regs)=false:=by simp[bne,j]
     obtain⟨k,hk⟩:=c0H (body:=k02 F x regs) x.Src (fun n=>z6 n regs) (.inr ()) (fun i=>.inl ()) (fun i hi=>by
      unfold k02;simp only[q0,dec_lt hi,Y7,hi,w0h,Bool.false_and,Bool.or_false];cases z6 (gt x.Src (i:Int)) regs
      ·simp
      ·simp only[q0];rw[Go.V.X1 O']) (by
      unfold k02;simp) (fu:=F) O'
     simp only[q0,c,h,h1,g,f,j,hk,Bool.true_and,this];cases o:x.Src.all fun n=>z6 n regs<;>simp
   ·have h:decide (x.To>=(d.States.length:Int))=true:=by simp;omega
    simp[c,h,g]
  ·have c:decide (x.To<0)=true:=by simp;omega
   simp[c,h1]
end Go.Proofs.YtihmgaccbcfgjaaGreat
namespace Go.Proofs.YtihmgaccbcfgjaaGreat
open Go.V Go.RowKit Go.X
variable {F:Nat}
def q0m:∀{l:List Int} {n m:Int},N6 l n=some m->n<=m/\m<=n+l.length/\∀c∈l,0<=c/\c<m
 |[],n,m,h=>by cases h;exact⟨Int.le_refl _,Z',Z'⟩
 |c :: r,n,m,h=>by
  unfold N6 at h;split at h
  ·cases h
  ·rename_i i;obtain⟨h1,f,g⟩:=q0m h
   by_cases e:c=n
   ·rw[if_pos e]at h1 f;refine⟨O',V',fun x d=>?_⟩;rcases mem_cons.1 d with rfl|d
    ·omega
    ·exact g x d
   ·rw[if_neg e]at h1 f;refine⟨h1,V',fun x d=>?_⟩;rcases mem_cons.1 d with rfl|d
    ·omega
    ·exact g x d
def v0b {α:Type}[Inhabited α]{l:List α}{i:Nat}(h:i<l.length):l.drop i=gt l (i:Int) :: l.drop (i+1):=by
 rw[List.drop_eq_getElem_cons h,X2 (x:=l[i]) (by simp[h])]
def r0K {n:Int}(h1:0<=n)(c:n<=1000000):W n=n:=E3 O' O'
def r09 {body:Int×Int->Option (Q0 (Int×Int) (Unit⊕Unit))}(l:List Int)(hl:l.length<=1000)
  (hs:∀(i:Nat) (n:Int),i<l.length->0<=n->n<=i->body (n,(i:Int))=some (if gt l (i:Int)<0\/n<gt l (i:Int)then .done (.inl ())else .next ((if gt l (i:Int)=n then n+1 else n),((i+1:Nat):Int))))
  (he:∀n,body (n,(l.length:Int))=some (.done (.inr ()))) (g:2000<F):iter body F (0,0)=some (if(N6 l 0).isSome then .inr ()else .inl ()):=by
 have key:∀(k i fu:Nat) (n:Int),i+k=l.length->k<fu->0<=n->n<=i->iter body fu (n,(i:Int))=some (if(N6 (l.drop i) n).isSome then .inr ()else .inl ()):=by
  intro k
  induction k with
  |zero=>
   intro i fu n hi c _ _;obtain⟨fu,rfl⟩:∃m,fu=m+1:=⟨fu-1,O'⟩
   obtain rfl:i=l.length:=O'
   unfold iter;rw[he,List.drop_length];rfl
  |succ k ih=>
   intro i fu n hi c f hn;obtain⟨fu,rfl⟩:∃m,fu=m+1:=⟨fu-1,O'⟩
   unfold iter;rw[hs i n O' f hn,v0b (show i<l.length from O')];unfold N6
   by_cases d:gt l (i:Int)<0\/n<gt l (i:Int)
   ·simp only[if_pos d];rfl
   ·simp only[if_neg d]
    by_cases e:gt l (i:Int)=n
    ·simp only[if_pos e];exact ih (i+1) fu (n+1) O' O' O' O'
    ·simp only[if_neg e];exact ih (i+1) fu n O' O' O' O'
 exact key l.length 0 F 0 O' O' O' O'
def w0L (c:List Int)(hl:c.length<=1000)(m:2000<F):g09 F c=some (J8 c):=by
 unfold g09;rw[r09 c hl (fun i n hi o hn=>by
  unfold m0o;simp only[dec_lt hi,Y7,hi,decide_true,if_true]
  by_cases h1:gt c (i:Int)<0
  ·simp[h1]
  ·by_cases d:n<gt c (i:Int)
   ·have:decide (gt c (i:Int)>n)=true:=by simp;omega
    simp[h1,d,this]
   ·have j:decide (gt c (i:Int)>n)=false:=by simp;omega
    have f:decide (gt c (i:Int)<0)=false:=by simp;omega
    have g:W (gt c (i:Int)+1)=gt c (i:Int)+1:=r0K O' O';have k:W ((i:Int)+1)=((i+1:Nat):Int):=Go.V.X1 O';simp only[q0,j,f,g,k,h1,d,or_self]
    by_cases e:gt c (i:Int)=n
    ·simp[e];intro h;omega
    ·have:¬(gt c (i:Int)+1>n):=O'
     simp[e,this]) (fun n=>by unfold m0o;simp) m]
 unfold J8;cases(N6 c 0).isSome<;>simp
def w0D (c:List Int)(hl:c.length<=1000)(k:2000<F):i0J F c=some (J8 c):=by
 unfold i0J;rw[r09 c hl (fun i n hi m hn=>by
  unfold n0w;simp only[dec_lt hi,Y7,hi,decide_true,if_true]
  by_cases h1:gt c (i:Int)<0
  ·simp[h1]
  ·by_cases d:n<gt c (i:Int)
   ·have:decide (gt c (i:Int)>n)=true:=by simp;omega
    simp[h1,d,this]
   ·have h:decide (gt c (i:Int)>n)=false:=by simp;omega
    have f:decide (gt c (i:Int)<0)=false:=by simp;omega
    have g:W (n+1)=n+1:=r0K O' O';have j:W ((i:Int)+1)=((i+1:Nat):Int):=Go.V.X1 O';simp only[q0,h,f,g,j,h1,d,or_self]
    by_cases e:gt c (i:Int)=n
    ·simp[e]
    ·have:(gt c (i:Int)==n)=false:=by simpa using e
     simp[e,this]) (fun n=>by unfold n0w;simp) k]
 unfold J8;cases(N6 c 0).isSome<;>simp
def u0A {body:List Int×Int->Option (Q0 (List Int×Int) (List Int))}(l:List Int)(hl:l.length<=1000)
  (hs:∀(i:Nat) (o:List Int),i<l.length->o.length<=i->body (o,(i:Int))=some (.next ((if gt l (i:Int)=(o.length:Int)then o++[IntKind.u8.wrap (i:Int)]else o),((i+1:Nat):Int))))
  (he:∀o,body (o,(l.length:Int))=some (.done o)) (d:2000<F):iter body F ([],0)=some (M0 l):=by
 have key:∀(k i fu:Nat) (o:List Int),i+k=l.length->k<fu->o.length<=i->iter body fu (o,(i:Int))=some (F9 (l.drop i) i o):=by
  intro k
  induction k with
  |zero=>
   intro i fu o hi c _;obtain⟨fu,rfl⟩:∃m,fu=m+1:=⟨fu-1,O'⟩
   obtain rfl:i=l.length:=O'
   unfold iter;rw[he,List.drop_length];rfl
  |succ k ih=>
   intro i fu o hi c ho;obtain⟨fu,rfl⟩:∃m,fu=m+1:=⟨fu-1,O'⟩
   unfold iter;rw[hs i o O' ho,v0b (show i<l.length from O')];unfold F9;exact ih (i+1) fu _ O' O' (by
    split
    ·simp;omega
    ·omega)
 exact key l.length 0 F [] O' O' Z'
def s0O (c:List Int)(hl:c.length<=1000)(d:2000<F):e0e F c=some (if J8 c then M0 c else[]):=by
 unfold e0e;rw[w0L c hl d];cases J8 c
 ·simp
 ·simp only[q0];rw[u0A c hl (fun i o hi ho=>by
   unfold p0d;have ha:K0 1 o [IntKind.u8.wrap (i:Int)]=true:=B4 V';simp only[dec_lt hi,Y7,hi,decide_true,if_true,ha];rw[Go.V.X1 O']
   by_cases e:gt c (i:Int)=(o.length:Int)
   ·simp[e]
   ·have:(gt c (i:Int)==(o.length:Int))=false:=by simpa using e
    simp[e,this]) (fun o=>by unfold p0d;simp) d]
  rfl
def A0G (c:List Int)(hl:c.length<=1000)(g:2000<F):j0R F c=some (if J8 c then M0 c else[]):=by
 unfold j0R;rw[w0D c hl g];cases f:J8 c
 ·simp
 ·have d:c.length=256:=by
   unfold J8 at f;simp at f;omega
  simp only[q0];rw[u0A c hl (fun i o hi ho=>by
   unfold q0G;have ha:K0 1 o [IntKind.u8.wrap (i:Int)]=true:=B4 V';have hd:decide ((i:Int)<256)=true:=by simp;omega
   simp only[hd,Y7,hi,decide_true,if_true,ha];rw[Go.V.X1 O']
   by_cases e:gt c (i:Int)=(o.length:Int)
   ·simp[e]
   ·have:(gt c (i:Int)==(o.length:Int))=false:=by simpa using e
    simp[e,this]) (fun o=>by unfold q0G;simp[d]) g]
  rfl
def w0l:∀{l:List Int} {n m:Int} {b:Nat} {o:List Int},N6 l n=some m->(o.length:Int)=n->((F9 l b o).length:Int)=m
 |[],n,m,b,o,h,ho=>by cases h;exact ho
 |c :: r,n,m,b,o,h,ho=>by
  unfold N6 at h;split at h
  ·cases h
  ·unfold F9;refine w0l h ?_;rw[ho];split<;>simp[ho]
def z0k {c:List Int}(h:J8 c=true):∃m:Nat,N6 c 0=some (m:Int)/\(M0 c).length=m/\m<=256/\c.length=256:=by
 unfold J8 at h;simp only[Bool.and_eq_true]at h;obtain⟨h1,d⟩:=h;obtain⟨m,hm⟩:=Option.isSome_iff_exists.1 h1;have d:c.length=256:=by simp at d;omega
 obtain⟨f,g,_⟩:=q0m hm;have hl:=w0l (b:=0) (o:=[]) hm Z';refine⟨m.toNat,by rw[hm];congr 1;omega,?_,O',d⟩;unfold M0;omega
end Go.Proofs.YtihmgaccbcfgjaaGreat
namespace Go.Proofs.YtihmgaccbcfgjaaGreat
open Go.V Go.RowKit Go.X
variable {F:Nat}
def F01 (d:Y1)(hd:Sm d)(i:Nat)(hi:i<d.States.length)(f:2000<F):iter (h0X F d (i:Int)) F 0=some (if(gt d.States (i:Int)).Edges.all (L7 d (gt d.States (i:Int)).Regs)then .inr ()else .inl ()):=by
 have hm:=b0x hi;obtain⟨k,hk⟩:=c0H (body:=h0X F d (i:Int)) (gt d.States (i:Int)).Edges (L7 d (gt d.States (i:Int)).Regs) (.inr ()) (fun _=>.inl ()) (fun j c=>by
  unfold h0X;have hs:=hd.sr _ hm _ (b0x c);simp only[dec_lt c,Y7,c,decide_true,if_true];rw[I0e d _ _ O' f];cases L7 d (gt d.States (i:Int)).Regs (gt (gt d.States (i:Int)).Edges (j:Int))
  ·simp
  ·simp only[q0];rw[Go.V.X1 (by have:=hd.ed _ hm;omega)]) (by
  unfold h0X;simp) (fu:=F) (by have:=hd.ed _ hm;omega)
 exact hk
def I07 (d:Y1)(hd:Sm d)(f:2000<F):e0X F d=some (a0V d):=by
 unfold e0X a0V
 by_cases h1:d.Tags<1
 ·simp[h1];intro h;omega
 by_cases c:d.Tags>19
 ·simp[h1,c];intro _ h;omega
 have o:decide (d.Tags<1)=false:=by simpa using h1
 have s:decide (d.Tags>19)=false:=by simpa using c
 have u:decide (1<=d.Tags)=true:=by simp;omega
 have p:decide (d.Tags<=19)=true:=by simp;omega
 cases m:d.Tags.tmod 2==0
 ·cases g:(d.States.length:Int)==0
  ·have v:decide ((d.States.length:Int)>400)=false:=by simp;have:=hd.st;omega
   have t:decide ((d.States.length:Int)<=400)=true:=by simp;have:=hd.st;omega
   have r:=hd.cl;simp only[q0,o,s,u,p,v,t,Bool.true_and];rw[w0L d.Class O' f,s0O d.Class O' f];cases w:J8 d.Class
   ·simp
   ·obtain⟨k,hk⟩:=c0H (body:=k0q F d (M0 d.Class)) d.States (b0X d (M0 d.Class).length) (.inr ()) (fun _=>.inl ()) (fun i hi=>by
     have hm:=b0x hi;have hk:=F01 (F:=F) d hd i hi f;have j:=E0a (F:=F) (gt d.States (i:Int)) d.Tags (by have:=hd.ac _ hm;omega) f;unfold k0q b0X;simp only[dec_lt hi,Y7,hi,decide_true,if_true]
     by_cases g1:(gt d.States (i:Int)).Regs<0
     ·have:¬(0<=(gt d.States (i:Int)).Regs):=O'
      simp[g1,this]
     have f1:decide ((gt d.States (i:Int)).Regs<0)=false:=by simpa using g1
     have f2:decide (0<=(gt d.States (i:Int)).Regs)=true:=by simp;omega
     have f3:decide ((gt d.States (i:Int)).Regs>1216)=false:=by simp;have:=hd.rg _ hm;omega
     have f4:decide ((gt d.States (i:Int)).Regs<=1216)=true:=by simp;have:=hd.rg _ hm;omega
     simp only[q0,f1,f2,f3,f4,Bool.true_and];cases g2:((gt d.States (i:Int)).Edges.length:Int)==((M0 d.Class).length:Int)
     ·have:(((gt d.States (i:Int)).Edges.length:Int) != ((M0 d.Class).length:Int))=true:=by simp[bne,g2]
      simp[this]
     ·have:(((gt d.States (i:Int)).Edges.length:Int) != ((M0 d.Class).length:Int))=false:=by simp[bne,g2]
      simp only[q0,this,Bool.true_and,j];cases c0C (gt d.States (i:Int)) d.Tags
      ·simp
      ·simp only[q0,hk,Bool.true_and];cases(gt d.States (i:Int)).Edges.all (L7 d (gt d.States (i:Int)).Regs)
       ·simp
       ·simp only[if_true];rw[Go.V.X1 (by have:=hd.st;omega)]) (by
     unfold k0q;simp) (fu:=F) (by have:=hd.st;omega)
    have q:y0 d.States 0=true:=V0 (Int.le_refl _) (by simp at g;have:=List.length_pos_iff.2 g;omega);simp only[q0,hk];cases d.States.all (b0X d (M0 d.Class).length)
    ·simp
    ·simp[q]
  ·simp[h1,c,m,g]
 ·simp[h1,c,m]
def G0D (d:Y1)(hd:Sm d)(i:Nat)(hi:i<d.States.length)(f:2000<F):iter (i0D F d (i:Int)) F 0=some (if(gt d.States (i:Int)).Accept.all (fun n=>n==-2||z6 n (gt d.States (i:Int)).Regs)then .inr ()else .inl ()):=by
 have hm:=b0x hi;obtain⟨k,hk⟩:=c0H (body:=i0D F d (i:Int)) (gt d.States (i:Int)).Accept (fun n=>n==-2||z6 n (gt d.States (i:Int)).Regs) (.inr ()) (fun _=>.inl ()) (fun j c=>by
  unfold i0D;simp only[q0,dec_lt c,Y7,c,w0h,Bool.true_and,Bool.or_comm (z6 _ _)];cases(gt (gt d.States (i:Int)).Accept (j:Int)==-2||z6 (gt (gt d.States (i:Int)).Accept (j:Int)) (gt d.States (i:Int)).Regs)
  ·simp
  ·simp only[q0];rw[Go.V.X1 (by have:=hd.ac _ hm;omega)]) (by
  unfold i0D;simp) (fu:=F) (by have:=hd.ac _ hm;omega)
 exact hk
def y0c (d:Y1)(hd:Sm d)(i:Nat)(hi:i<d.States.length)(least:List Int)(hl:(gt d.States (i:Int)).Edges.length=least.length)(f:2000<F):iter (h0b F d least (i:Int)) F 0=some (if(gt d.States (i:Int)).Edges.all (L7 d (gt d.States (i:Int)).Regs)then .inr ()else .inl ()):=by
 have hm:=b0x hi;obtain⟨k,hk⟩:=c0H (body:=h0b F d least (i:Int)) (gt d.States (i:Int)).Edges (L7 d (gt d.States (i:Int)).Regs) (.inr ()) (fun _=>.inl ()) (fun j c=>by
  unfold h0b;have hs:=hd.sr _ hm _ (b0x c);simp only[dec_lt (show j<least.length from O'),Y7,c,decide_true,if_true];rw[y0n d _ _ O' f];cases L7 d (gt d.States (i:Int)).Regs (gt (gt d.States (i:Int)).Edges (j:Int))
  ·simp
  ·simp only[q0];rw[Go.V.X1 (by have:=hd.ed _ hm;omega)]) (by
  unfold h0b;simp[hl]) (fu:=F) (by have:=hd.ed _ hm;omega)
 exact hk
def F0f (d:Y1)(hd:Sm d)(j:2000<F):i04 F d=some (a0V d):=by
 unfold i04 a0V
 by_cases h1:d.Tags<1
 ·simp[h1];intro h;omega
 by_cases o:d.Tags>19
 ·simp[h1,o];intro _ h;omega
 have r:decide (d.Tags<1)=false:=by simpa using h1
 have v:decide (d.Tags>19)=false:=by simpa using o
 have x:decide (1<=d.Tags)=true:=by simp;omega
 have s:decide (d.Tags<=19)=true:=by simp;omega
 cases q:d.Tags.tmod 2==0
 ·cases c:(d.States.length:Int)==0
  ·have y:decide ((d.States.length:Int)>400)=false:=by simp;have:=hd.st;omega
   have w:decide ((d.States.length:Int)<=400)=true:=by simp;have:=hd.st;omega
   have p:decide ((d.States.length:Int)<1)=false:=by simp at c;have:=List.length_pos_iff.2 c;simp;omega
   have u:=hd.cl;simp only[q0,r,v,x,s,y,w,p,Bool.true_and];rw[w0D d.Class O' j,A0G d.Class O' j];cases C:J8 d.Class
   ·simp
   ·have t:y0 d.States 0=true:=V0 (Int.le_refl _) (by simp at c;have:=List.length_pos_iff.2 c;omega);simp only[q0,t,Bool.true_and];cases g0:(gt d.States 0).Regs==0
    ·have:((gt d.States 0).Regs != 0)=true:=by simp[bne,g0]
     simp[this]
    ·have:((gt d.States 0).Regs != 0)=false:=by simp[bne,g0]
     obtain⟨k,hk⟩:=c0H (body:=k0V F d (M0 d.Class)) d.States (b0X d (M0 d.Class).length) (.inr ()) (fun _=>.inl ()) (fun i hi=>by
      have hm:=b0x hi;have ha:=G0D (F:=F) d hd i hi j;have hk:=y0c (F:=F) d hd i hi (M0 d.Class);unfold k0V b0X;simp only[dec_lt hi,Y7,hi,decide_true,if_true]
      by_cases g1:(gt d.States (i:Int)).Regs<0
      ·have:¬(0<=(gt d.States (i:Int)).Regs):=O'
       simp[g1,this]
      have f1:decide ((gt d.States (i:Int)).Regs<0)=false:=by simpa using g1
      have f2:decide (0<=(gt d.States (i:Int)).Regs)=true:=by simp;omega
      have f3:decide ((gt d.States (i:Int)).Regs>1216)=false:=by simp;have:=hd.rg _ hm;omega
      have f4:decide ((gt d.States (i:Int)).Regs<=1216)=true:=by simp;have:=hd.rg _ hm;omega
      simp only[q0,f1,f2,f3,f4,Bool.true_and,c0C];cases g3:((gt d.States (i:Int)).Accept.length:Int)==0
      ·have f:(((gt d.States (i:Int)).Accept.length:Int) != 0)=true:=by simp[bne,g3]
       cases g4:((gt d.States (i:Int)).Accept.length:Int)==d.Tags
       ·have m:(((gt d.States (i:Int)).Accept.length:Int) != d.Tags)=true:=by simp[bne,g4]
        simp[f,m]
       ·have m:(((gt d.States (i:Int)).Accept.length:Int) != d.Tags)=false:=by simp[bne,g4]
        cases g2:((gt d.States (i:Int)).Edges.length:Int)==((M0 d.Class).length:Int)
        ·have:(((gt d.States (i:Int)).Edges.length:Int) != ((M0 d.Class).length:Int))=true:=by simp[bne,g2]
         simp[f,m,this]
        ·have:(((gt d.States (i:Int)).Edges.length:Int) != ((M0 d.Class).length:Int))=false:=by simp[bne,g2]
         have hk:=hk (by simp at g2;omega) j;simp only[q0,f,m,this,ha,Bool.false_or,Bool.true_and];cases(gt d.States (i:Int)).Accept.all (fun n=>n==-2||z6 n (gt d.States (i:Int)).Regs)
         ·simp
         ·simp only[if_true,G0,hk,Bool.true_and];cases(gt d.States (i:Int)).Edges.all (L7 d (gt d.States (i:Int)).Regs)
          ·simp
          ·simp only[if_true];rw[Go.V.X1 (by have:=hd.st;omega)]
      ·have f:(((gt d.States (i:Int)).Accept.length:Int) != 0)=false:=by simp[bne,g3]
       have g:(gt d.States (i:Int)).Accept=[]:=by simpa using g3
       cases g2:((gt d.States (i:Int)).Edges.length:Int)==((M0 d.Class).length:Int)
       ·have:(((gt d.States (i:Int)).Edges.length:Int) != ((M0 d.Class).length:Int))=true:=by simp[bne,g2]
        simp[f,this]
       ·have:(((gt d.States (i:Int)).Edges.length:Int) != ((M0 d.Class).length:Int))=false:=by simp[bne,g2]
        have hk:=hk (by simp at g2;omega) j;simp only[q0,f,this,ha,g,List.all_nil,Bool.true_or,Bool.true_and,hk];cases(gt d.States (i:Int)).Edges.all (L7 d (gt d.States (i:Int)).Regs)
        ·simp
        ·simp only[if_true];rw[Go.V.X1 (by have:=hd.st;omega)];rfl) (by
      unfold k0V;simp) (fu:=F) (by have:=hd.st;omega)
     simp only[q0,this,hk,Bool.and_true];cases d.States.all (b0X d (M0 d.Class).length)<;>simp
  ·have p:decide ((d.States.length:Int)<1)=true:=by simp at c;simp[c]
   simp[h1,o,q,c,p]
 ·simp[h1,o,q]
