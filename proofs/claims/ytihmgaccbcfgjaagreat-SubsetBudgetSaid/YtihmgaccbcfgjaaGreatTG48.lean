/- P. Its conditions: none. -/
import Derived.Test.YtihmgaccbcfgjaaGreatTG47
import Derived.Test.YtihmgaccbcfgjaaGreatTG46
import Derived.Test.YtihmgaccbcfgjaaGreatTMd
import Derived.Test.YtihmgaccbcfgjaaGreatTG24
open Bool (false_eq_true)
open List (mem_map prefix_refl)
set_option linter.all false
namespace Go.Proofs.YtihmgaccbcfgjaaGreat
open Go.V Go.RowKit Old Go.X
def G06 (t:Old.Tm)(lo:Nat):t.steps lo≠[]:=by cases t<;>simp[Old.Tm.steps]
section
variable {F:Nat}{l:List C0}{n:Nat}{a:List B0}{b:Nat->List B0}{e:Nat->B0×Bool}{z:B0×Bool}
def E0U (K:U3 l n a b e z F)(hw:∀x∈l,P2 x):∃can,a0v F l=some can/\y0 can (W ((l.length:Int)-1))=true/\gt can (W ((l.length:Int)-1))=z.2:=by
 have f1:=K.f1;obtain⟨t,c⟩:=Old.a0N hw K.hR;have g:=c.le;have k:=c.len;have hp:=t.size_pos;have h:=Old.f05 K.hR;have d:W ((l.length:Int)-1)=(t.top 0:Int):=by rw[E3 O' O'];unfold Old.Tm.top;omega
 have i:t.top 0<l.length:=by unfold Old.Tm.top;omega
 refine⟨Old.M8 l,s9 v0O (Old.n0E hw (show 401<F from O')),V0 (by rw[d];omega) (by rw[d,h.len];omega),?_⟩;rw[d,h.top t 0 c.at0];have h1:=K.TF.mZ;have f:=s9 n0P (Old.u0E hw c K.hR (show 1000001<F from O')).1;rw[h1]at f;have j:=Option.some.inj f;rw[j];have hs:=G06 t 0;cases t.can
 ·rfl
 ·simp only[if_true,o0h];unfold Z8;rw[if_neg (by simpa using hs)];simpa using hs
def x06 (K:U3 l n a b e z F)(hw:∀x∈l,P2 x):d0z F l 0=some (z8 (if z.2 then 2 else 1) [] [] (fun _ _=>0) (fun _ _=>0),0):=by
 obtain⟨can,h1,d,c⟩:=E0U K hw;unfold d0z f0d;rw[K.TF.mR];simp only[q0,beq_self_eq_true,show((0:Int)==1)=false from rfl,h1,d,c];cases z.2<;>rfl
def H0s {pl:List Nat}(hp:∀p∈pl,p<n)(ha:pl.Pairwise fun a b=>a<b)(hl:pl.length<=1000)(j:2000<F):i0v F (D1 pl) (n:Int)=some true:=by
 unfold i0v;have:=H3 (step:=h0V F (D1 pl) (n:Int)) (fun i=>(if i=0 then -1 else((pl.getD (i-1) 0:Nat):Int),(i:Int))) (.inr ()) pl.length (fun i hi=>.inl ?_) ?_ pl.length 0 F O' O'
 ·have d:iter (h0V F (D1 pl) (n:Int)) F (-1,0)=some (.inr ()):=this;rw[d];rfl
 ·unfold h0V;have h1:(i:Int)<((D1 pl).length:Int):=by simp;omega
  have h:=hp _ (List.getElem_mem hi);have d:¬((pl[i]:Nat):Int)<=(if i=0 then -1 else((pl.getD (i-1) 0:Nat):Int)):=by
   by_cases c:i=0
   ·rw[if_pos c];omega
   ·rw[if_neg c];have:=List.pairwise_iff_getElem.1 ha (i-1) i O' hi O';have e:pl.getD (i-1) 0=pl[i-1]:=by simp[List.getD,show i-1<pl.length from O']
    rw[e];omega
  have g:¬((pl[i]:Nat):Int)>=(n:Int):=O'
  have f:(if i+1=0 then(-1:Int)else((pl.getD (i+1-1) 0:Nat):Int))=((pl[i]:Nat):Int):=by
   rw[if_neg O',Nat.add_sub_cancel];simp[List.getD,hi]
  simp only[q0,h1,q9 hi,h0N hi,d,g,X1 (i:=i) O',f]
 ·unfold h0V;have h1:¬(pl.length:Int)<((D1 pl).length:Int):=X'
  simp only[q0,h1]
def E0R (K:U3 l n a b e z F){k:Kd}(C:R3 l n k.pl k.maps k.fB k.fD)(i:0<=k.flag)(h:k.flag<=2)(c:g07 F k.maps (C4 l)=some true):c0P F l k.K=some true:=by
 have f1:=K.f1;have hm:=C.le;have hn:=K.T.n64;have d:=C.len;have g:=K9 l l.length;have f:=K.hn;unfold c0P Kd.K z8;have c1:¬k.flag<0:=O'
 have c2:¬k.flag>2:=O'
 have c3:((k.maps.length:Int) != (k.pl.length:Int))=false:=by simp[d]
 have c4:i0v F (D1 k.pl) ((G2 l l.length).length:Int)=some true:=by
  have:=H0s (F:=F) (n:=n) C.pln C.asc O' O';rw[show((G2 l l.length).length:Int)=(n:Int) from O'];exact this
 simp only[q0,K.TF.mR,c1,c2,c3,K.TF.mL,c4,o0r K.hR (show 401<F from O'),c,e0b,t01 (show k.pl.length<=1000 from O') (show 2000<F from O') C.rk]
def Kd.step (l:List C0)(n:Nat)(a:List B0)(b:Nat->List B0)(k:Kd)(b_:Int):Kd:=
 ⟨if k.flag==1 then 1 else 0,Z3 l n a b k.pl b_ (!(k.flag==0)),(Z3 l n a b k.pl b_ (!(k.flag==0))).map (stM l a b k.pl k.maps k.fB k.fD (!(k.flag==0))),
  u6 l (F5 k.pl (!(k.flag==0)) k.fB) ((Z3 l n a b k.pl b_ (!(k.flag==0))).map (T5 a b k.pl k.fB k.fD (!(k.flag==0)))) ((Z3 l n a b k.pl b_ (!(k.flag==0))).map (V5 a b k.pl k.fB k.fD (!(k.flag==0)))),
  Q6 l (F5 k.pl (!(k.flag==0)) k.fB) (a6 k.pl (!(k.flag==0)) k.fD) ((Z3 l n a b k.pl b_ (!(k.flag==0))).map (T5 a b k.pl k.fB k.fD (!(k.flag==0)))) ((Z3 l n a b k.pl b_ (!(k.flag==0))).map (V5 a b k.pl k.fB k.fD (!(k.flag==0))))⟩
def Kd.K7 (e:Nat->B0×Bool)(mode:Int)(k:Kd):Kd:=if mode==0 then k.cut e else k
def Kd.num (k:Kd):Kd:=⟨k.flag,k.pl,X5 k.maps,k.fB,k.fD⟩
def o0m (K:U3 l n a b e z F)(hw:∀x∈l,P2 x){k:Kd}(C:R3 l n k.pl k.maps k.fB k.fD)(b_:Int):R3 l n (k.step l n a b b_).pl (k.step l n a b b_).maps (k.step l n a b b_).fB (k.step l n a b b_).fD:=by
 have h:=C0W (at_:=0) K C hw b_ (!(k.flag==0));refine⟨by simp[Kd.step],h.pln,h.asc,fun v c=>?_,h.rk⟩;obtain⟨r,d,rfl⟩:=mem_map.1 c;unfold stM;rw[e0V];exact(m07 (w0K C _) (s0j C _) (by rw[<-d0B a b];exact e0o (c09 d).2)).1
def t0R {k:Kd}(mode:Int)(C:R3 l n k.pl k.maps k.fB k.fD):R3 l n (k.K7 e mode).pl (k.K7 e mode).maps (k.K7 e mode).fB (k.K7 e mode).fD:=by
 unfold Kd.K7;split
 ·exact d0N C
 ·exact C
def v0n {k:Kd}(C:R3 l n k.pl k.maps k.fB k.fD):R3 l n k.num.pl k.num.maps k.num.fB k.num.fD:=by
 refine⟨by simp[Kd.num,X5,C.len],C.pln,C.asc,fun v c=>?_,C.rk⟩;unfold Kd.num X5 at c;obtain⟨r,d,rfl⟩:=mem_map.1 c;rw[List.length_map];exact C.row r d
def w0O (K:U3 l n a b e z F){k:Kd}(C:R3 l n k.pl k.maps k.fB k.fD)(f:0<=k.flag)(d:k.flag<=2):c0P F l k.num.K=some true/\c0k F k.num.K=some ((M4 k.maps).length:Int):=by
 have f1:=K.f1;have hm:=C.le;have hn:=K.T.n64;have c:=C.len;have g:=a07 l;have hk:=A07 (F:=F) (maps:=k.maps) (tags:=(C4 l).toNat) C.row O' O' O' k.num.K;have e:(((C4 l).toNat:Nat):Int)=C4 l:=O'
 rw[e]at hk;exact⟨E0R K (v0n C) f d hk.1,hk.2⟩
def F0p (K:U3 l n a b e z F)(hw:∀x∈l,P2 x){k:Kd}(C:R3 l n k.pl k.maps k.fB k.fD)(hR:c0P F l k.K=some true){mode:Int}(c:mode=0\/mode=1){b_:Int}(v:L5 .u8 b_):
  c0Q F l mode k.K b_=some (((k.step l n a b b_).K7 e mode).num.K,M4 ((k.step l n a b b_).K7 e mode).maps):=by
 have f1:=K.f1;have hn:=K.T.n64;have y:=a07 l;have t:=o0m K hw C b_;have s:=t0R (e:=e) mode t;have I:=t0H K C (!(k.flag==0));have h:f0d F mode=some true:=by
  unfold f0d;rcases c with rfl|rfl<;>rfl
 have hg:=y0j (flag:=k.flag) K C (E0:=!(k.flag==0)) X';have j:(if k.flag==1 then some ((1,[],[],(⟨[],[]⟩:D2)):Int×List Int×List (List Int)×D2)else some (0,[],[],(⟨[],[]⟩:D2)))=some ((k.step l n a b b_).flag,[],[],(⟨[],[]⟩:D2)):=by
  unfold Kd.step;cases k.flag==1<;>rfl
 have i:=H0h K C hw v (!(k.flag==0)) (k.step l n a b b_).flag (⟨[],[]⟩:D2);have o:=A0k (F:=F) hw K.hR K.hn (show 2000<F from O') K.TF.mL (show C5 k.pl (!(k.flag==0))<=1000 from O') (l0W C (!(k.flag==0))) (w0s K C b_ (!(k.flag==0)));have u:(k.step l n a b b_).T=((k.step l n a b b_).flag,D1 (Z3 l n a b k.pl b_ (!(k.flag==0))),(Z3 l n a b k.pl b_ (!(k.flag==0))).map (stM l a b k.pl k.maps k.fB k.fD (!(k.flag==0))),U2 (Z3 l n a b k.pl b_ (!(k.flag==0))).length (u6 l (F5 k.pl (!(k.flag==0)) k.fB) ((Z3 l n a b k.pl b_ (!(k.flag==0))).map (T5 a b k.pl k.fB k.fD (!(k.flag==0)))) ((Z3 l n a b k.pl b_ (!(k.flag==0))).map (V5 a b k.pl k.fB k.fD (!(k.flag==0))))) (Q6 l (F5 k.pl (!(k.flag==0)) k.fB) (a6 k.pl (!(k.flag==0)) k.fD) ((Z3 l n a b k.pl b_ (!(k.flag==0))).map (T5 a b k.pl k.fB k.fD (!(k.flag==0)))) ((Z3 l n a b k.pl b_ (!(k.flag==0))).map (V5 a b k.pl k.fB k.fD (!(k.flag==0)))))):=rfl;have f:=F0Q K t;rw[u]at f;have p:k.K.Flag=k.flag:=rfl;have d:∀q:Kd,R3 l n q.pl q.maps q.fB q.fD->Option.bind (g0N F q.T) (fun x=>some (x.1,x.2))=some (q.num.K,M4 q.maps):=fun q m=>by
  unfold Kd.T;rw[B0a (F:=F) (fun r w=>by have:=m.row r w;omega) (by have:=m.len;have:=m.le;omega) O'];rfl
 unfold c0Q;rw[h,hR];simp only[q0];rw[show i0L F l k.K=_ from hg];simp only[G0,p,j,K.TF.mL,i,o,List.length_map];rcases c with rfl|rfl
 ·simp only[beq_self_eq_true,if_true,f,G0];have g:=d _ s;unfold Kd.K7 at g ⊢;simp only[beq_self_eq_true,if_true]at g ⊢;exact g
 ·simp only[q0,show((1:Int)==0)=false from rfl];have g:=d _ s;unfold Kd.K7 at g ⊢;simp only[show((1:Int)==0)=false from rfl,false_eq_true,if_false]at g ⊢;exact g
def a06 (l:List C0)(e:Nat->B0×Bool)(z:B0×Bool)(k:Kd):List Int:=
 if D8 k.fD (E7 e k.pl k.pl.length)<0 then(if z.2&&(k.flag==2&&k.pl.length==0)then Z9 (-1) (-2) (b0I l) (a7 l z.1.Steps)else[])
 else Z9 (-1) (-2) (gt k.maps (D8 k.fD (E7 e k.pl k.pl.length))) (a7 l (e (k.pl.getD (D8 k.fD (E7 e k.pl k.pl.length)).toNat 0)).1.Steps)
def E0B (K:U3 l n a b e z F){k:Kd}(C:R3 l n k.pl k.maps k.fB k.fD)(hR:c0P F l k.K=some true):c0s F l k.K=some (a06 l e z k):=by
 have f1:=K.f1;have hm:=C.le;have hn:=K.T.n64;have p:=a07 l;unfold c0s a06;rw[hR,show f0G F l k.K=_ from s0W (flag:=k.flag) K C];simp only[q0];rcases j07 (fD:=k.fD) (E7 e k.pl k.pl.length) (n:=k.pl.length) (fun i h=>j0P h)with hb|⟨q,hb,hq⟩
 ·rw[hb];have g:=j0K l z.1.Steps;have j:=K.T.zl;have c:((k.K.Places.length:Int)==0)=(k.pl.length==0):=by rw[<-B0i];simp[Kd.K,z8]
  have d:k.K.Flag=k.flag:=rfl;have h1:¬(-1:Int)>=0:=O'
  simp only[h1,decide_false,false_eq_true,if_false,K.TF.mZ,G0,show((-1:Int)<0)=True from X',if_true,c,d,t0l K,p07 K.hR (show z.1.Steps.length<=2000000 from O') K.f1 (N2.sok K.T.zb),o0k (F:=F) (tags:=b0I l) (marks:=a7 l z.1.Steps) (now:=-1) (none_:=-2) (by rw[q0p];omega) O'];cases z.2
  ·simp only[q0,Bool.false_and]
  ·simp only[if_true,Bool.true_and];cases k.flag==2
   ·simp only[q0,Bool.false_and]
   ·simp only[if_true,Bool.true_and,G0];cases k.pl.length==0<;>rfl
 ·have hp:=P8 C.pln hq;have g:=j0K l (e (k.pl.getD q 0)).1.Steps;have o:=K.T.el _ hp;have h1:(q:Int)>=0:=O'
  have m:¬(q:Int)<0:=O'
  have f:y0 k.maps (q:Int)=true:=V0 O' (by rw[C.len];omega);rw[hb];simp only[q0,h1,m,Kd.K,z8,q9 hq,a0T hq,K.TF.mE _ hp,f,p07 K.hR (show(e (k.pl.getD q 0)).1.Steps.length<=2000000 from O') K.f1 (N2.sok (K.T.eb _ hp)),Int.toNat_natCast];rw[o0k (I0B C hq) O'];rfl
end
def h0G (P:Int->Int->Prop)(E V:List Int):Prop:=E.length=V.length/\∀m:Nat,m<E.length->P (gt E (m:Int)) (gt V (m:Int))
def w0v (regs:List Int)(now:Int)(e v:Int):Prop:=(e=-2/\v=-1)\/(e=-1/\v=now)\/(0<=e/\e<(regs.length:Int)/\v=gt regs e)
def q0n (regs:List Int)(e v:Int):Prop:=(e=-2/\v=-1)\/(0<=e/\e<(regs.length:Int)/\v=gt regs e)
def q0n.n {regs:List Int}{e v:Int}(h:q0n regs e v)(now:Int):w0v regs now e v:=by
 rcases h with h|h
 ·exact .inl h
 ·exact .inr (.inr h)
def h0G.mono {P Q:Int->Int->Prop}(h:∀e v,P e v->Q e v){E V:List Int}(c:h0G P E V):h0G Q E V:=⟨c.1,fun m hm=>h _ _ (c.2 m hm)⟩
def r0I {x:Int}(c:x≠-2):∀(r s:List Int),(x∈r\/x∈s)->x∈Z2 s r
 |[],s,h=>by
  rcases h with h|h
  ·cases h
  ·exact h
 |v :: r,s,h=>by
  refine r0I c r (M6 s v) ?_;rcases h with h|h
  ·rcases List.mem_cons.1 h with h|h
   ·subst h;refine .inr ?_;unfold M6
    by_cases hm:x∈s
    ·rw[if_pos (.inr hm)];exact hm
    ·rw[if_neg (by rintro(h|h);exact c h;exact hm h)];simp
   ·exact .inl h
  ·exact .inr ((v04 s v).subset h)
section
variable {F:Nat}
end
section
variable {F:Nat}{l:List C0}{n:Nat}{a:List B0}{b:Nat->List B0}{e:Nat->B0×Bool}{z:B0×Bool}
end
structure O6 (l:List C0)(n:Nat)(e:Nat->B0×Bool)(z:B0×Bool)(h:Hs)(k:Kd)(regs:List Int)(i:Nat):Prop where
 hs:B0U l n h i
 inv:Inv l (fun _=>true) i h.c.vals h.c.fB h.c.fD
 sm:E0Y h.c.vals h.c.fB
 tol:h.to<=(i:Int)
 pl:k.pl=h.c.pl
 fB:k.fB=h.c.fB
 fD:k.fD=h.c.fD
 C:R3 l n k.pl k.maps k.fB k.fD
 rel:∀r,r<k.maps.length->h0G (q0n regs) (gt k.maps (r:Int)) (gt h.c.vals (r:Int))
 fl:k.flag=if h.is then(if i=0 then 2 else 0)else 1
 acc:if h.is=true/\h.to=(i:Int)then h0G (w0v regs (i:Int)) (a06 l e z k) h.tags/\(a06 l e z k).length=(C4 l).toNat else a06 l e z k=[]
section
variable {F:Nat}{l:List C0}{n:Nat}{a:List B0}{b:Nat->List B0}{e:Nat->B0×Bool}{z:B0×Bool}
def O6.f0 {h:Hs}{k:Kd}{regs:List Int}{i:Nat}(S:O6 l n e z h k regs i):0<=k.flag/\k.flag<=2:=by
 rw[S.fl];split
 ·split<;>omega
 ·omega
def O6.E0 {h:Hs}{k:Kd}{regs:List Int}{i:Nat}(S:O6 l n e z h k regs i):(!(k.flag==0))=(h.c.at_==0||!h.is):=by
 rw[S.fl,S.hs.c.a0];cases h.is with
 |false=>simp
 |true=>
  simp only[if_true,Bool.not_true,Bool.or_false]
  by_cases c:i=0
  ·subst c;rfl
  ·rw[if_neg c];have:(((i:Nat):Int)==0)=false:=by rw[beq_eq_false_iff_ne];omega
   rw[this];rfl
end
def r0Y {α:Type}[Inhabited α]{v:List α}{y:α}(c:y∈v):∃m:Nat,m<v.length/\gt v (m:Int)=y:=by
 obtain⟨m,hm⟩:=List.getElem?_of_mem c;exact⟨m,(List.getElem?_eq_some_iff.1 hm).1,X2 hm⟩
def w07 {s:List Int}{v:Int}(h:v≠-2->v∈s):O3 s v=-2\/(0<=O3 s v/\O3 s v<(s.length:Int)):=by
 unfold O3;split
 ·exact .inl rfl
 ·rename_i hn;have:=List.idxOf_lt_length_of_mem (h hn);exact .inr ⟨O',O'⟩
def G0H (maps:List (List Int)):∀v∈X5 maps,∀y∈v,y=-2\/(0<=y/\y<((M4 maps).length:Int)):=by
 intro v d y f;unfold X5 at d;obtain⟨r,g,rfl⟩:=mem_map.1 d;obtain⟨x,h,rfl⟩:=mem_map.1 f;refine w07 fun c=>?_;unfold M4;exact r0I c _ _ (.inl (List.mem_flatten.2 ⟨r,g,h⟩))
section
variable {F:Nat}{l:List C0}{n:Nat}{a:List B0}{b:Nat->List B0}{e:Nat->B0×Bool}{z:B0×Bool}
def B0C (K:U3 l n a b e z F)(hw:∀x∈l,P2 x){k:Kd}(C:R3 l n k.pl k.maps k.fB k.fD){R:Int}(he:∀v∈k.maps,∀y∈v,y=-2\/0<=y)(hR:∀v∈k.maps,∀y∈v,y<R)(b_:Int)(mode:Int):∀v∈M4 ((k.step l n a b b_).K7 e mode).maps,v=-1\/(0<=v/\v<R):=by
 have q:=C.len;have base:∀s,s<C5 k.pl (!(k.flag==0))->∀y∈gt (a0F l k.maps (!(k.flag==0))) (s:Int),y=-2\/y=-1\/(0<=y/\y<R):=by
  intro s hs y f;unfold a0F at f;unfold C5 at hs
  by_cases c:s<k.pl.length
  ·rw[b0Y O' O']at f;have hm:=gtm (l:=k.maps) (i:=s) O';rcases he _ hm y f with h|h
   ·exact .inl h
   ·exact .inr (.inr ⟨h,hR _ hm y f⟩)
  ·cases g:(!(k.flag==0))with
   |false=>rw[g]at hs;simp at hs;omega
   |true=>
    rw[g]at hs f;simp only[if_true]at hs f;have e:s=k.pl.length:=O'
    subst e;rw[e0v q.symm]at f;unfold b0I at f;rcases List.mem_or_eq_of_mem_set f with h|h
    ·exact .inl (List.eq_of_mem_replicate h)
    ·exact .inr (.inl h)
 have j0o:∀v∈(k.step l n a b b_).maps,∀y∈v,y=-2\/y=-1\/(0<=y/\y<R):=by
  intro v d y f;obtain⟨r,t,rfl⟩:=mem_map.1 d;obtain⟨m,m1,m2⟩:=r0Y f;have hs:T5 a b k.pl k.fB k.fD (!(k.flag==0)) r<C5 k.pl (!(k.flag==0)):=by rw[<-d0B a b];exact e0o (c09 t).2
  unfold stM at m1 m2;rw[e0V]at m1;rcases q0e (-1) (-2) m (a7 l (V5 a b k.pl k.fB k.fD (!(k.flag==0)) r).Steps) (gt (a0F l k.maps (!(k.flag==0))) (T5 a b k.pl k.fB k.fD (!(k.flag==0)) r:Int))with h|h|h
  ·rw[h]at m2;rw[<-m2];exact base _ hs _ (gtm m1)
  ·rw[h]at m2;exact .inr (.inl m2.symm)
  ·rw[h]at m2;exact .inl m2.symm
 have j:∀v∈((k.step l n a b b_).K7 e mode).maps,∀y∈v,y=-2\/y=-1\/(0<=y/\y<R):=by
  intro v d;unfold Kd.K7 at d;split at d
  ·unfold Kd.cut at d;split at d
   ·exact j0o v d
   ·obtain⟨i,hi,rfl⟩:=mem_map.1 d;exact j0o _ (gtm (by rw[(o0m K hw C b_).len];exact n01 hi))
  ·exact j0o v d
 intro v d;rcases t0z _ _ d with d|⟨d,hne⟩
 ·cases d
 ·obtain⟨row,o,p⟩:=List.mem_flatten.1 d;rcases j row o v p with h|h|h
  ·exact absurd h hne
  ·exact .inl h
  ·exact .inr h
structure KOk (F:Nat)(l:List C0)(n:Nat)(k:Kd)(R:Nat):Prop where
 C:R3 l n k.pl k.maps k.fB k.fD
 f0:0<=k.flag
 f2:k.flag<=2
 rt:c0P F l k.K=some true
 rg:c0k F k.K=some (R:Int)
 en:∀v∈k.maps,∀y∈v,y=-2\/(0<=y/\y<(R:Int))
 le:R<=n*19
def Kd.next (l:List C0)(n:Nat)(a:List B0)(b:Nat->List B0)(e:Nat->B0×Bool)(mode:Int)(k:Kd)(b_:Int):Kd:=((k.step l n a b b_).K7 e mode).num
def Kd.src (l:List C0)(n:Nat)(a:List B0)(b:Nat->List B0)(e:Nat->B0×Bool)(mode:Int)(k:Kd)(b_:Int):List Int:=M4 ((k.step l n a b b_).K7 e mode).maps
def x0l (K:U3 l n a b e z F)(hw:∀x∈l,P2 x){k:Kd}{R:Nat}(h:KOk F l n k R){mode:Int}(hm:mode=0\/mode=1){b_:Int}(o:L5 .u8 b_):
  c0Q F l mode k.K b_=some ((k.next l n a b e mode b_).K,k.src l n a b e mode b_)/\KOk F l n (k.next l n a b e mode b_) (k.src l n a b e mode b_).length/\∀v∈k.src l n a b e mode b_,v=-1\/(0<=v/\v<(R:Int)):=by
 have s:=o0m K hw h.C b_;have f:=t0R (e:=e) mode s;have d:(k.step l n a b b_).flag=if k.flag==1 then 1 else 0:=rfl;have c:0<=((k.step l n a b b_).K7 e mode).flag/\((k.step l n a b b_).K7 e mode).flag<=2:=by
  have g:0<=(k.step l n a b b_).flag/\(k.step l n a b b_).flag<=2:=by rw[d];split<;>omega
  unfold Kd.K7;split
  ·unfold Kd.cut;split
   ·exact g
   ·exact⟨Int.le_refl _,by show(0:Int)<=2;omega⟩
  ·exact g
 obtain⟨p,m⟩:=w0O K f c.1 c.2;refine⟨F0p K hw h.C h.rt hm o,⟨v0n f,c.1,c.2,p,m,G0H _,?_⟩,B0C K hw h.C (fun v i y j=>(h.en v i y j).imp id And.left) (fun v i y j=>by rcases h.en v i y j with h|h<;>omega) b_ mode⟩;have u:=a07 l;have J:=j0f ((k.step l n a b b_).K7 e mode).maps 19 (fun r q=>by have:=f.row r q;omega);have g:=l0c ((k.step l n a b b_).K7 e mode).maps.flatten [];have t:=f.len;have w:=f.le;have I:((k.step l n a b b_).K7 e mode).maps.length*19<=n*19:=Nat.mul_le_mul_right _ O';simp only[List.length_nil]at g;unfold Kd.src M4;omega
def Kd.zero (z:B0×Bool)(mode:Int):Kd:=⟨if mode=1\/z.2=true then 2 else 1,[],[],fun _ _=>0,fun _ _=>0⟩
def A0M (K:U3 l n a b e z F)(hw:∀x∈l,P2 x){mode:Int}(hm:mode=0\/mode=1):d0z F l mode=some ((Kd.zero z mode).K,0)/\KOk F l n (Kd.zero z mode) 0:=by
 have f1:=K.f1;have g:=a07 l;constructor
 ·rcases hm with rfl|rfl
  ·rw[x06 K hw];unfold Kd.zero Kd.K;cases z.2<;>rfl
  ·unfold d0z f0d;rw[K.TF.mR];rfl
 ·have C:R3 l n (Kd.zero z mode).pl (Kd.zero z mode).maps (Kd.zero z mode).fB (Kd.zero z mode).fD:=B0r l n;have f0:0<=(Kd.zero z mode).flag:=by unfold Kd.zero;simp only;split<;>omega
  have f2:(Kd.zero z mode).flag<=2:=by unfold Kd.zero;simp only;split<;>omega
  obtain⟨d,f⟩:=w0O K C f0 f2;exact⟨C,f0,f2,d,f,fun v c=>(by cases(show v∈([]:List (List Int))from c)),Nat.zero_le _⟩
def D0j (K:U3 l n a b e z F){k:Kd}{R:Nat}(h:KOk F l n k R):c0s F l k.K=some (a06 l e z k)/\((a06 l e z k).length=0\/(a06 l e z k).length=(C4 l).toNat)/\∀v∈a06 l e z k,v=-2\/v=-1\/(0<=v/\v<(R:Int)):=by
 refine⟨E0B K h.C h.rt,?_⟩;have d:∀(row:List Int) (ms:List J2),(∀y∈row,y=-2\/y=-1\/(0<=y/\y<(R:Int)))->∀y∈Z9 (-1) (-2) row ms,y=-2\/y=-1\/(0<=y/\y<(R:Int)):=by
  intro row ms g y c;obtain⟨m,m1,m2⟩:=r0Y c;rw[e0V]at m1;rcases q0e (-1) (-2) m ms row with q|q|q
  ·rw[q]at m2;rw[<-m2];exact g _ (gtm m1)
  ·rw[q]at m2;exact .inr (.inl m2.symm)
  ·rw[q]at m2;exact .inl m2.symm
 unfold a06;rcases j07 (fD:=k.fD) (E7 e k.pl k.pl.length) (n:=k.pl.length) (fun i h=>j0P h)with hb|⟨q,hb,hq⟩
 ·rw[hb,if_pos O'];split
  ·refine⟨.inr (by rw[e0V,q0p]),d _ _ fun y c=>?_⟩;unfold b0I at c;rcases List.mem_or_eq_of_mem_set c with h|h
   ·exact .inl (List.eq_of_mem_replicate h)
   ·exact .inr (.inl h)
  ·exact⟨.inl rfl,fun v f=>by cases f⟩
 ·rw[hb,if_neg O'];have hm:=gtm (l:=k.maps) (i:=q) (by rw[h.C.len];exact hq);refine⟨.inr (by rw[e0V];exact h.C.row _ hm),d _ _ fun y c=>?_⟩;rcases h.en _ hm y c with h|h
  ·exact .inl h
  ·exact .inr (.inr h)
end
end Go.Proofs.YtihmgaccbcfgjaaGreat
namespace Go.Proofs.YtihmgaccbcfgjaaGreat
open Classical
section
variable {K S:Type}[Inhabited K]
noncomputable def P7 (all:List K)(x:K):List K:=if x∈all then all else all++[x]
noncomputable def X6 (all:List K)(x:K):Nat:=all.findIdx fun y=>decide (y=x)
def q0c (all:List K)(x:K):all <+: P7 all x:=by
 unfold P7;split
 ·exact prefix_refl _
 ·exact List.prefix_append _ _
def I04 (all:List K)(x:K):x∈P7 all x:=by
 unfold P7;split
 ·assumption
 ·simp
def F0S {all:List K}(h:all.Nodup)(x:K):(P7 all x).Nodup:=by
 unfold P7;split
 ·exact h
 ·rename_i d;rw[List.nodup_append];exact⟨h,X',fun a ha b c=>by simp at c;subst c;exact fun e=>d (e▸ha)⟩
def z0K {all:List K}{x y:K}(h:y∈P7 all x):y∈all\/(y=x/\x∉all/\P7 all x=all++[x]):=by
 unfold P7 at h ⊢;split at h
 ·exact .inl h
 ·rename_i c;rcases List.mem_append.1 h with h|h
  ·exact .inl h
  ·simp at h;exact .inr ⟨h,c,if_neg c⟩
def f0Y {all:List K}{x:K}(h:x∈all):X6 all x<all.length:=by
 unfold X6;exact List.findIdx_lt_length_of_exists ⟨x,h,X'⟩
def h0o {all:List K}{x:K}(h:x∈all):all[X6 all x]?=some x:=by
 have hl:=f0Y h;have:=List.findIdx_getElem (xs:=all) (p:=fun y=>decide (y=x)) (w:=hl);rw[List.getElem?_eq_getElem hl];congr 1;exact of_decide_eq_true this
def v09 {all more:List K}{x:K}(h:x∈all)(hp:all <+: more):X6 more x=X6 all x:=by
 obtain⟨r,rfl⟩:=hp;have hl:=f0Y h;unfold X6 at hl ⊢;rw[List.findIdx_append,if_pos hl]
noncomputable def X3 (nxt:K->Nat->Option (K×S))(k:K)(all:List K):Nat->List K
 |0=>all
 |c+1=>match nxt k c with
  |none=>X3 nxt k all c
  |some (x,_)=>P7 (X3 nxt k all c) x
def k0S (nxt:K->Nat->Option (K×S))(k:K)(all:List K):∀c,all <+: X3 nxt k all c
 |0=>prefix_refl _
 |c+1=>by
  unfold X3;split
  ·exact k0S nxt k all c
  ·exact(k0S nxt k all c).trans (q0c _ _)
def n0G (nxt:K->Nat->Option (K×S))(k:K){all:List K}(h:all.Nodup):∀c,(X3 nxt k all c).Nodup
 |0=>h
 |c+1=>by
  unfold X3;split
  ·exact n0G nxt k h c
  ·exact F0S (n0G nxt k h c) _
def m0f (nxt:K->Nat->Option (K×S))(k:K)(all:List K){x:K}{s:S}:∀{c d:Nat},d<c->nxt k d=some (x,s)->x∈X3 nxt k all c
 |c+1,d,h,hx=>by
  unfold X3;rcases Nat.lt_or_ge d c with h1|h1
  ·have:=m0f nxt k all h1 hx;split
   ·exact this
   ·exact(q0c _ _).subset this
  ·obtain rfl:d=c:=O'
   rw[hx];exact I04 _ _
def g0M (nxt:K->Nat->Option (K×S))(k:K)(all:List K):∀(c:Nat) {x:K},x∈X3 nxt k all c->x∈all\/(x∉all/\∃d s,d<c/\nxt k d=some (x,s))
 |0,x,h=>.inl h
 |c+1,x,h=>by
  unfold X3 at h;split at h
  ·rcases g0M nxt k all c h with h1|⟨h1,d,s,h2,h3⟩
   ·exact .inl h1
   ·exact .inr ⟨h1,d,s,O',h3⟩
  ·rename_i y s f;rcases z0K h with h0|⟨rfl,h1,_⟩
   ·rcases g0M nxt k all c h0 with h1|⟨h1,d,s,h2,h3⟩
    ·exact .inl h1
    ·exact .inr ⟨h1,d,s,O',h3⟩
   ·exact .inr ⟨fun g=>h1 ((k0S nxt k all c).subset g),c,s,O',f⟩
noncomputable def runK (nxt:K->Nat->Option (K×S))(C:Nat)(k0:K):Nat->List K
 |0=>[k0]
 |i+1=>if i<(runK nxt C k0 i).length then X3 nxt ((runK nxt C k0 i).getD i default) (runK nxt C k0 i) C else runK nxt C k0 i
variable (nxt:K->Nat->Option (K×S))(C:Nat)(k0:K)
def q05 (i:Nat):runK nxt C k0 i <+: runK nxt C k0 (i+1):=by
 rw[show runK nxt C k0 (i+1)=if i<(runK nxt C k0 i).length then X3 nxt ((runK nxt C k0 i).getD i default) (runK nxt C k0 i) C else runK nxt C k0 i from rfl];split
 ·exact k0S ..
 ·exact prefix_refl _
def d0g {i j:Nat}(h:i<=j):runK nxt C k0 i <+: runK nxt C k0 j:=by
 induction j with
 |zero=>
      obtain rfl:i=0:=O'
      exact prefix_refl _
 |succ j ih=>
  rcases Nat.lt_or_ge j i with c|c
  ·obtain rfl:i=j+1:=O'
   exact prefix_refl _
  ·exact(ih c).trans (q05 ..)
def o0B:∀i,(runK nxt C k0 i).Nodup
 |0=>by simp[runK]
 |i+1=>by
  rw[show runK nxt C k0 (i+1)=if i<(runK nxt C k0 i).length then X3 nxt ((runK nxt C k0 i).getD i default) (runK nxt C k0 i) C else runK nxt C k0 i from rfl];split
  ·exact n0G nxt _ (o0B i) C
  ·exact o0B i
def q0x (i:Nat):0<(runK nxt C k0 i).length:=by
 have:=(d0g nxt C k0 (Nat.zero_le i)).length_le;simp[runK]at this;omega
def h0k {i j q:Nat}(c:i<=j)(h:q<(runK nxt C k0 i).length):(runK nxt C k0 j).getD q default=(runK nxt C k0 i).getD q default:=by
 obtain⟨r,d⟩:=d0g nxt C k0 c;rw[<-d,List.getD_eq_getElem?_getD,List.getD_eq_getElem?_getD,List.getElem?_append_left h]
def s0V:∀(i:Nat) {x:K},x∈runK nxt C k0 i->x=k0\/∃q d s,q<i/\q<(runK nxt C k0 q).length/\d<C/\nxt ((runK nxt C k0 q).getD q default) d=some (x,s)/\q<X6 (runK nxt C k0 i) x
 |0,x,h=>.inl (by simpa[runK]using h)
 |i+1,x,h=>by
  have hp:=q05 nxt C k0 i;have k:=h;rw[show runK nxt C k0 (i+1)=if i<(runK nxt C k0 i).length then X3 nxt ((runK nxt C k0 i).getD i default) (runK nxt C k0 i) C else runK nxt C k0 i from rfl]at h;have old:x∈runK nxt C k0 i->x=k0\/∃q d s,q<i+1/\q<(runK nxt C k0 q).length/\d<C/\nxt ((runK nxt C k0 q).getD q default) d=some (x,s)/\q<X6 (runK nxt C k0 (i+1)) x:=fun j=>by
   rcases s0V i j with h1|⟨q,d,s,h1,h2,h3,h4,h5⟩
   ·exact .inl h1
   ·exact .inr ⟨q,d,s,O',h2,h3,h4,by rw[v09 j hp];exact h5⟩
  split at h
  ·rename_i hi;rcases g0M nxt _ _ C h with h1|⟨h1,d,s,h2,h3⟩
   ·exact old h1
   ·refine .inr ⟨i,d,s,O',hi,h2,h3,?_⟩;have f:=h0o k;rcases Nat.lt_or_ge i (X6 (runK nxt C k0 (i+1)) x)with c|c
    ·exact c
    ·obtain⟨r,g⟩:=hp;rw[<-g,List.getElem?_append_left (by rw[g];omega)]at f;rw[g]at f;exact absurd (List.mem_of_getElem? f) h1
  ·exact old h
def t0o {i j:Nat}(hi:i<j)(hl:i<(runK nxt C k0 i).length){d:Nat}(hd:d<C){x:K}{s:S}(h:nxt ((runK nxt C k0 i).getD i default) d=some (x,s)):x∈runK nxt C k0 j:=by
 refine(d0g nxt C k0 (show i+1<=j from hi)).subset ?_;rw[show runK nxt C k0 (i+1)=if i<(runK nxt C k0 i).length then X3 nxt ((runK nxt C k0 i).getD i default) (runK nxt C k0 i) C else runK nxt C k0 i from rfl,if_pos hl];exact m0f nxt _ _ hd h
def Y4 (B n:Nat):Prop:=n=(runK nxt C k0 n).length/\∀i,i<n->i<(runK nxt C k0 i).length/\(runK nxt C k0 i).length<=B
def i0N (B i:Nat):Prop:=i<(runK nxt C k0 i).length/\B<(runK nxt C k0 i).length/\∀j,j<i->j<(runK nxt C k0 j).length/\(runK nxt C k0 j).length<=B
def h0m (B:Nat):(∃n,n<=B/\Y4 nxt C k0 B n)\/∃i,i<=B/\i0N nxt C k0 B i:=by
 have key:∀m,(∀i,i<m->i<(runK nxt C k0 i).length/\(runK nxt C k0 i).length<=B)->m<=B+1->(∃n,n<=B/\Y4 nxt C k0 B n)\/∃i,i<=B/\i0N nxt C k0 B i:=by
  intro m
  induction h:B+1-m generalizing m with
  |zero=>
   intro hm hle;exfalso;have:=hm B O';omega
  |succ t ih=>
   intro hm hle
   by_cases c1:m<(runK nxt C k0 m).length
   ·by_cases c2:(runK nxt C k0 m).length<=B
    ·exact ih (m+1) O' (fun i hi=>by
      rcases Nat.lt_or_ge i m with c|c
      ·exact hm i c
      ·obtain rfl:i=m:=O'
       exact⟨c1,c2⟩) O'
    ·exact .inr ⟨m,O',c1,O',hm⟩
   ·have d:m<=(runK nxt C k0 m).length:=by
     rcases Nat.eq_zero_or_pos m with h0|h0
     ·omega
     ·have h1:=(hm (m-1) O').1;have f:=(d0g nxt C k0 (show m-1<=m from O')).length_le;omega
    exact .inl ⟨m,O',O',hm⟩
 exact key 0 (fun i h=>O') O'
def Y4.le {B n:Nat}(h:Y4 nxt C k0 B n):n<=B:=by
 obtain⟨h1,c⟩:=h;have hp:=q0x nxt C k0 n;have d:=c (n-1) O';have f:=(d0g nxt C k0 (show n-1<=n from O')).length_le;omega
def Y4.more {B c n:Nat}(h:Y4 nxt C k0 B n)(f:n<=c):Y4 nxt C k0 c n:=by
 obtain⟨h1,d⟩:=h;refine⟨h1,fun i hi=>⟨(d i hi).1,?_⟩⟩;have:=(d0g nxt C k0 (Nat.le_of_lt hi)).length_le;omega
def Y4.uniq {B g n d:Nat}(h:Y4 nxt C k0 B n)(f:Y4 nxt C k0 g d):n=d:=by
 rcases Nat.lt_trichotomy n d with c|c|c
 ·have:=(f.2 n c).1;have:=h.1;omega
 ·exact c
 ·have:=(h.2 d c).1;have:=f.1;omega
def Y4.less {B f n i:Nat}(h:Y4 nxt C k0 B n)(d:i0N nxt C k0 f i):f<n:=by
 rcases Nat.lt_or_ge i n with c|c
 ·have:=(d0g nxt C k0 (Nat.le_of_lt c)).length_le;have:=h.1;have:=d.2.1;omega
 ·rcases Nat.lt_or_ge n i with c2|c2
  ·have:=(d.2.2 n c2).1;have:=h.1;omega
  ·obtain rfl:i=n:=O'
   have:=d.1;have:=h.1;omega
def Y4.fits {B c n i:Nat}(h:Y4 nxt C k0 B n)(f:n<=c)(d:i0N nxt C k0 c i):False:=by
 have:=Y4.less nxt C k0 h d;omega
end
end Go.Proofs.YtihmgaccbcfgjaaGreat
namespace Go.Proofs.YtihmgaccbcfgjaaGreat
open Go.V Go.RowKit Go.X
def c0H {α ρ:Type}[Inhabited α](l:List α)(p:α->Bool)(good:ρ)(bad:Nat->ρ){body:Int->Option (Q0 Int ρ)}
  (hs:∀i:Nat,i<l.length->body (i:Int)=some (if p (gt l (i:Int))then .next ((i+1:Nat):Int)else .done (bad i))) (he:body (l.length:Int)=some (.done good)) {fu:Nat} (h:l.length<fu):
  ∃k,iter body fu 0=some (if l.all p then good else bad k):=by
 have key:∀(k i fu:Nat),i+k=l.length->k<fu->∃j,iter body fu (i:Int)=some (if(l.drop i).all p then good else bad j):=by
  intro k
  induction k with
  |zero=>
   intro i fu hi d;obtain⟨fu,rfl⟩:∃m,fu=m+1:=⟨fu-1,O'⟩
   refine⟨0,?_⟩;unfold iter;rw[show i=l.length from O',he];simp
  |succ k ih=>
   intro i fu hi d;obtain⟨fu,rfl⟩:∃m,fu=m+1:=⟨fu-1,O'⟩
   obtain⟨j,f⟩:=ih (i+1) fu O' O';have c:i<l.length:=O'
   have hd:l.drop i=gt l (i:Int) :: l.drop (i+1):=by
    rw[List.drop_eq_getElem_cons c,X2 (x:=l[i]) (by simp[c])]
   unfold iter;rw[hs i c,hd]
   by_cases hp:p (gt l (i:Int))=true
   ·rw[if_pos hp];exact⟨j,by simp only[f,List.all_cons,hp,Bool.true_and]⟩
   ·have hp:p (gt l (i:Int))=false:=by simpa using hp
    refine⟨i,?_⟩;simp only[hp,List.all_cons,Bool.false_and,false_eq_true,if_false]
 exact key l.length 0 fu O' h
def b0x {α:Type}[Inhabited α]{l:List α}{i:Nat}(h:i<l.length):gt l (i:Int)∈l:=by
 rw[X2 (x:=l[i]) (by simp[h])];exact List.getElem_mem h
def dec_lt {a b:Nat}(h:a<b):decide ((a:Int)<(b:Int))=true:=by simp;omega
def z6 (n regs:Int):Bool:=n==-1||(decide (0<=n)&&decide (n<regs))
def c0C (s:L3)(tags:Int):Bool:=(s.Accept.length:Int)==0||((s.Accept.length:Int)==tags&&s.Accept.all fun n=>n==-2||z6 n s.Regs)
def L7 (d:Y1)(regs:Int)(x:H4):Bool:=
 if x.To=-1 then(x.Src.length:Int)==0 else decide (0<=x.To)&&decide (x.To<(d.States.length:Int))&&(x.Src.length:Int)==(gt d.States x.To).Regs&&x.Src.all fun n=>z6 n regs
def b0X (d:Y1)(k:Nat)(s:L3):Bool:=decide (0<=s.Regs)&&decide (s.Regs<=1216)&&(s.Edges.length:Int)==(k:Int)&&c0C s d.Tags&&s.Edges.all (L7 d s.Regs)
def N6:List Int->Int->Option Int
 |[],n=>some n
 |c :: r,n=>if c<0\/n<c then none else N6 r (if c=n then n+1 else n)
def J8 (c:List Int):Bool:=(N6 c 0).isSome&&(c.length:Int)==256
def F9:List Int->Nat->List Int->List Int
 |[],_,out=>out
 |c :: r,b,out=>F9 r (b+1) (if c=(out.length:Int)then out++[IntKind.u8.wrap (b:Int)]else out)
def M0 (c:List Int):List Int:=F9 c 0 []
def a0V (d:Y1):Bool:=
 decide (1<=d.Tags)&&decide (d.Tags<=19)&&!(d.Tags.tmod 2==0)&&!((d.States.length:Int)==0)&&decide ((d.States.length:Int)<=400)&&J8 d.Class&&d.States.all (b0X d (M0 d.Class).length)&&(gt d.States 0).Regs==0
structure Sm (d:Y1):Prop where
 st:d.States.length<=100
 cl:d.Class.length<=300
 ac:∀s∈d.States,s.Accept.length<=40
 ed:∀s∈d.States,s.Edges.length<=300
 rg:∀s∈d.States,s.Regs<=400
 sr:∀s∈d.States,∀x∈s.Edges,x.Src.length<=400
variable {F:Nat}
def v0f (n regs:Int):h0r F n regs=some (z6 n regs):=by
 unfold h0r z6
 by_cases h:n=-1
 ·subst h;rfl
 ·have:(n==-1)=false:=by simpa using h
  rw[this]
  by_cases c:0<=n
  ·have:decide (n>=0)=true:=by simpa using c
   simp[this,c]
  ·have:decide (n>=0)=false:=by simpa using c
   simp[this,c]
def w0h (n regs:Int)(may:Bool):i0A F n regs may=some (z6 n regs||(may&&n==-2)):=by
 unfold i0A z6
 by_cases c:0<=n
 ·have e:decide (n>=0)=true:=by simpa using c
  have h1:(n==-1)=false:=by simp;omega
  have f:(n==-2)=false:=by simp;omega
  cases d:decide (n<regs)<;>cases may<;>simp[e,h1,c,f,d]
 ·have e:decide (n>=0)=false:=by simpa using c
  cases d:(n==-1)<;>cases may<;>simp[e,c,d]
def E0a (s:L3)(tags:Int)(hl:s.Accept.length<=1000)(g:2000<F):l0l F s tags=some (c0C s tags):=by
 unfold l0l c0C;cases f:(s.Accept.length:Int)==0
 ·cases h1:(s.Accept.length:Int)==tags
  ·simp
  ·obtain⟨k,hk⟩:=c0H (body:=k0m F s) s.Accept (fun n=>n==-2||z6 n s.Regs) (.inr ()) (fun i=>.inl (i:Int)) (fun i hi=>by
    unfold k0m;simp only[dec_lt hi,Y7,hi,decide_true,if_true];cases d:gt s.Accept (i:Int)==-2
    ·have:(gt s.Accept (i:Int) != -2)=true:=by simp[bne,d]
     simp only[this,if_true,v0f,G0,Bool.false_or];cases z6 (gt s.Accept (i:Int)) s.Regs
     ·simp
     ·simp only[q0];rw[Go.V.X1 O']
    ·have:(gt s.Accept (i:Int) != -2)=false:=by simp[bne,d]
     simp only[q0,this,Bool.true_or];rw[Go.V.X1 O']) (by
    unfold k0m;simp) (fu:=F) O'
   simp only[q0,hk,Bool.false_or,Bool.true_and];cases c:s.Accept.all fun n=>n==-2||z6 n s.Regs
   ·simp
   ·simp
 ·simp
def I0e (d:Y1)(s:L3)(x:H4)(hl:x.Src.length<=1000)(o:2000<F):k0u F d s x=some (L7 d s.Regs x):=by
 unfold k0u L7
 by_cases h:x.To=-1
 ·simp[h]
 ·have e:(x.To==-1)=false:=by simpa using h
  simp only[e,false_eq_true,if_false,h]
  by_cases h1:0<=x.To
  ·have c:decide (x.To>=0)=true:=by simpa using h1
   by_cases g:x.To<(d.States.length:Int)
   ·have f:y0 d.States x.To=true:=V0 h1 g;cases m:(x.Src.length:Int)==(gt d.States x.To).Regs
    ·simp[c,g,f,m]
    ·obtain⟨k,hk⟩:=c0H (body:=j0j F s x) x.Src (fun n=>z6 n s.Regs) (.inr ()) (fun i=>.inl (i:Int)) (fun i hi=>by
      unfold j0j;simp only[q0,dec_lt hi,Y7,hi,v0f];cases z6 (gt x.Src (i:Int)) s.Regs
      ·simp
      ·simp only[q0];rw[Go.V.X1 O']) (by
      unfold j0j;simp) (fu:=F) O'
     simp only[q0,c,h1,g,f,m,hk,Bool.true_and];cases j:x.Src.all fun n=>z6 n s.Regs<;>simp
   ·simp[c,g]
  ·have c:decide (x.To>=0)=false:=by simpa using h1
   simp[c,h1]
def y0n (d:Y1)(regs:Int)(x:H4)(hl:x.Src.length<=1000)(p:2000<F):l0m F d x regs=some (L7 d regs x):=by
 unfold l0m L7
 by_cases m:x.To=-1
 ·simp[m]
 ·have e:(x.To==-1)=false:=by simpa using m
  simp only[e,false_eq_true,if_false,m]
  by_cases h1:0<=x.To
  ·have c:decide (x.To<0)=false:=by simpa using h1
   by_cases g:x.To<(d.States.length:Int)
   ·have f:y0 d.States x.To=true:=V0 h1 g;have h:decide (x.To>=(d.States.length:Int))=false:=by simpa using g
    cases j:(x.Src.length:Int)==(gt d.States x.To).Regs
    ·have:((x.Src.length:Int) != (gt d.States x.To).Regs)=true:=by simp[bne,j]
     simp[c,h,g,f,j,this]
    ·have:((x.Src.length:Int) != (gt d.States x.To).Regs)=false:=by simp[bne,j]
     obtain⟨k,hk⟩:=c0H (body:=k02 F x regs) x.Src (fun n=>z6 n regs) (.inr ()) (fun i=>.inl ()) (fun i hi=>by
      unfold k02;simp only[q0,dec_lt hi,Y7,hi,w0h,Bool.false_and,Bool.or_false];cases z6 (gt x.Src (i:Int)) regs
      ·simp
      ·simp only[q0];rw[Go.V.X1 O']) (by
      unfold k02;simp) (fu:=F) O'
     simp only[q0,c,h,h1,g,f,j,hk,Bool.true_and,this];cases o:x.Src.all fun n=>z6 n regs<;>simp
   ·have h:decide (x.To>=(d.States.length:Int))=true:=by simp;omega
    simp[c,h,g]
  ·have c:decide (x.To<0)=true:=by simp;omega
   simp[c,h1]
