/- P. Its conditions: none. -/
import Derived.Test.YtbccffnofdnpoaaGreatAG44
open Int (toNat_natCast le_refl)
set_option linter.all false
namespace Go.Proofs.YtbccffnofdnpoaaGreat
open Go.V Go.RowKit Old Go.X
theorem M07 {l:List D0}(hw:∀x∈l,V2 x)(hR:N3 l=true){n:Nat}(hn:n=Z0 l l.length){x y:B0}(c:O8 n x)(j:O8 n y):0<(J8 l x y).1:=by
 have hq:1<=a0E l x y:=by
  obtain⟨h1,i,d,f⟩:=c;obtain⟨m,k2,k,o⟩:=j;obtain⟨p,hp,g,_⟩:=b0N l l.length x.To.toNat O';obtain⟨q,hq,h,_⟩:=b0N l l.length y.To.toNat O'
  grind [m0y,t0C,m0h,a0E,toNat_natCast]
 obtain⟨h1,i,d,f⟩:=c
 grind [J8]
theorem L0B {b t:Int}(d:0<b)(c:0<=t)(h1:t<=400):0<j9 b t:=by
 grind [j9,J3]
abbrev X2 (vals:List (List Int))(x:Nat):Int:=gt (gt vals (x:Int)) 0
def f0A (vals:List (List Int))(fB:Nat->Nat->Int):Prop:=∀k m:Nat,k<vals.length->m<vals.length->k≠m->X2 vals k=X2 vals m->0<fB k m
section
variable {F:Nat}{l:List D0}{n:Nat}{a:List B0}{b:Nat->List B0}{e:Nat->B0×Bool}{z:B0×Bool}
theorem L09 (K:Y2 l n a b e z F)(hw:∀x∈l,V2 x){s:Cs}{i:Nat}(h:b9 l n s i){may:Nat->Bool}(w:Inv l may i s.vals s.fB s.fD)(hs:f0A s.vals s.fB)(b_:Int)(y0:Bool):
  f0A (s.step l n a b b_ y0).vals (s.step l n a b b_ y0).fB:=by
 have J:=h.a0;have a1:=h.ok.len;have c:∀r,gt (O7 l a b s.at_ s.pl s.vals s.fB s.fD y0 r) 0=gt (gt (z6 l s.at_ s.vals y0) (O2 a b s.pl s.fB s.fD y0 r:Int)) 0:=fun r=>by simp[O7,f0R]
 intro k m hk hm v heq;have hlen:(s.step l n a b b_ y0).vals.length=(Q1 l n a b s.pl b_ y0).length:=by simp[Cs.step]
 rw[hlen]at hk hm;have t:=List.getElem_mem hk;have u:=List.getElem_mem hm;have y:∀q (hq:q<(Q1 l n a b s.pl b_ y0).length),gt (s.step l n a b b_ y0).vals (q:Int)=O7 l a b s.at_ s.pl s.vals s.fB s.fD y0 (Q1 l n a b s.pl b_ y0)[q]:=fun q hq=>P2 (by simp[Cs.step,hq]);unfold X2 at heq;rw[y k hk,y m hm,c,c]at heq;generalize b1:(Q1 l n a b s.pl b_ y0)[k]=rk at *;generalize R:(Q1 l n a b s.pl b_ y0)[m]=rm at *;have g:=j05 K h.ok b_ y0;have a0I:O8 n (gt ((Q1 l n a b s.pl b_ y0).map (D4 a b s.pl s.fB s.fD y0)) (k:Int)):=c0t g.hop (by simp_all);have f:O8 n (gt ((Q1 l n a b s.pl b_ y0).map (D4 a b s.pl s.fB s.fD y0)) (m:Int)):=c0t g.hop (by simp_all);have fk:((Q1 l n a b s.pl b_ y0).map (O2 a b s.pl s.fB s.fD y0)).getD k 0=O2 a b s.pl s.fB s.fD y0 rk:=by simp_all
 have fm:((Q1 l n a b s.pl b_ y0).map (O2 a b s.pl s.fB s.fD y0)).getD m 0=O2 a b s.pl s.fB s.fD y0 rm:=by simp_all
 show 0<b6 l _ _ _ k m;unfold b6;rw[if_neg v,fk,fm]
 by_cases d:O2 a b s.pl s.fB s.fD y0 rk=O2 a b s.pl s.fB s.fD y0 rm
 ·rw[if_pos d];exact M07 hw K.hR K.hn a0I f
 ·rw[if_neg d];refine L0B ?_ a0I.t0 a0I.t1;rcases h0G (at_:=s.at_) h.ok t with⟨h1,p⟩|⟨h1,h1',p⟩<;>rcases h0G (at_:=s.at_) h.ok u with⟨C,o⟩|⟨C,h3',o⟩
  ·rw[p,o]at heq;have:=hs _ _ O' O' d heq;unfold Q3 c0i;cases y0 with
   |false=>grind
   |true=>simp_all
  ·rw[p,o,e0X]at heq;obtain⟨j,U,I,_⟩:=w.first _ (P4 (l:=s.vals) (i:=O2 a b s.pl s.fB s.fD y0 rk) O')
   omega
  ·rw[p,o,e0X]at heq;obtain⟨j,U,I,_⟩:=w.first _ (P4 (l:=s.vals) (i:=O2 a b s.pl s.fB s.fD y0 rm) O')
   omega
  omega
def m0s {vals:List (List Int)}{st:List Nat}(h:∀i∈st,i<vals.length){k:Nat}(hk:k<st.length):gt (st.map fun i:Nat=>gt vals (i:Int)) (k:Int)=gt vals (st.getD k 0:Int)/\st.getD k 0<vals.length:=by
 simp_all[P2]
theorem D0z {s:Cs}{i:Nat}(h:b9 l n s i){may:Nat->Bool}(j:Inv l may i s.vals s.fB s.fD)(hs:f0A s.vals s.fB)(from_:Int):Inv l may i (s.J1 from_).vals (s.J1 from_).fB (s.J1 from_).fD/\f0A (s.J1 from_).vals (s.J1 from_).fB:=by
 have o:∀i∈U4 s.vals from_ s.pl.length,i<s.vals.length:=fun i hi=>by rw[h.ok.len];exact g05 hi
 have r:=q09 s.vals from_ s.pl.length;have t:(s.J1 from_).vals.length=(U4 s.vals from_ s.pl.length).length:=by simp[Cs.J1]
 have d:∀v∈(s.J1 from_).vals,v∈s.vals:=fun v j=>(s0o h.ok.len v j).1;have c:∀k,k<(s.J1 from_).vals.length->gt (s.J1 from_).vals (k:Int)=gt s.vals ((U4 s.vals from_ s.pl.length).getD k 0:Int)/\(U4 s.vals from_ s.pl.length).getD k 0<s.vals.length:=fun k hk=>m0s o O';refine⟨⟨fun v f=>j.first v (d v f),fun v f=>j.rest v (d v f),fun k m hk hm g=>?_⟩,fun k m hk hm q heq=>?_⟩
 ·obtain⟨p,k2⟩:=c k hk;obtain⟨m1,m2⟩:=c m hm;rw[p,m1]at g ⊢;exact j.ahead _ _ k2 m2 g
 ·obtain⟨p,k2⟩:=c k hk;obtain⟨m1,m2⟩:=c m hm;unfold X2 at heq;rw[p,m1]at heq;refine hs _ _ k2 m2 (fun e=>q ?_) heq
  grind [List.pairwise_iff_getElem]
theorem C0b {s:Cs}{i:Nat}(h:b9 l n s i){may:Nat->Bool}(g:Inv l may i s.vals s.fB s.fD)(hs:f0A s.vals s.fB){q:Nat}(hq:q<s.pl.length):C9 s.fB s.fD q s.pl.length=U4 s.vals (X2 s.vals q) s.pl.length:=by
 have f:=h.ok.len;refine List.filter_congr fun x c=>?_;have c:x<s.pl.length:=List.mem_range.1 c;unfold i0A
 by_cases e:x=q
 ·simp_all
 ·have j:(x==q)=false:=by simp_all
  by_cases d:X2 s.vals x=X2 s.vals q
  ·have:=hs x q O' O' e d
   simp_all
  ·obtain⟨p1,k⟩:=g.ahead x q O' O' d;have hd:=h.ok.rk.dn x q c hq
   grind
end
section
variable {vals:List (List Int)}{fD:Nat->Nat->Int}
def s07 (vals:List (List Int))(fD:Nat->Nat->Int):Prop:=∀k m:Nat,k<vals.length->m<vals.length->X2 vals k≠X2 vals m->(0<fD k m↔X2 vals k<X2 vals m)
theorem u09 (i:s07 vals fD):∀(C:List Nat) (b:Nat),(∀x∈C,x<vals.length)->b<vals.length->∃q:Nat,C.foldl (E5 fD) (b:Int)=q/\q<vals.length/\X2 vals q<=X2 vals b/\∀x∈C,X2 vals q<=X2 vals x
 |[],b,_,d=>⟨b,rfl,d,le_refl _,fun _ h=>by cases h⟩
 |x :: r,b,hC,d=>by
  have g:=hC x V';have c:∃b':Nat,E5 fD (b:Int) x=b'/\b'<vals.length/\X2 vals b'<=X2 vals b/\X2 vals b'<=X2 vals x:=by
   unfold E5;rw[if_neg O',toNat_natCast]
   by_cases hd:0<fD x b
   ·rw[if_pos hd];refine⟨x,rfl,g,?_,le_refl _⟩
    by_cases f:X2 vals x=X2 vals b
    ·omega
    ·have:=(i x b g d f).1 hd;omega
   ·rw[if_neg hd];refine⟨b,rfl,d,le_refl _,?_⟩
    by_cases f:X2 vals x=X2 vals b
    ·omega
    ·have:¬X2 vals x<X2 vals b:=fun h=>hd ((i x b g d f).2 h);omega
  obtain⟨b',o,h1,s,k⟩:=c;obtain⟨q,m,t,k2,p⟩:=u09 i r b' (fun y j=>hC y (List.mem_cons_of_mem _ j)) h1
  grind
def b0Z (vals:List (List Int))(T:Int)(b:Int):Int:=if 0<=b/\X2 vals b.toNat<=T then b else -1
theorem x0i (q:s07 vals fD)(T:Int):∀(C:List Nat) (b:Int),(∀x∈C,x<vals.length/\T<=X2 vals x)->(0<=b->b.toNat<vals.length/\T<=X2 vals b.toNat)->
  b0Z vals T (C.foldl (E5 fD) b)=(C.filter fun x=>decide (X2 vals x<=T)).foldl (E5 fD) (b0Z vals T b)
 |[],b,_,_=>rfl
 |x :: r,b,hC,hb=>by
  obtain⟨t,w⟩:=hC x V';have s:0<=E5 fD b x->(E5 fD b x).toNat<vals.length/\T<=X2 vals (E5 fD b x).toNat:=fun k=>by
   unfold E5 at k ⊢
   grind
  have I:=x0i q T r (E5 fD b x) (fun y J=>hC y (List.mem_cons_of_mem _ J)) s;rw[List.foldl_cons,I,List.filter_cons];have d:∀c:Int,c<0->E5 fD c x=x:=fun c h=>by unfold E5;omega
  have i:∀c:Int,0<=c->0<fD x c.toNat->E5 fD c x=x:=fun c h u=>by simp_all[E5]
  have g:∀c:Int,0<=c->¬0<fD x c.toNat->E5 fD c x=c:=fun c h u=>by simp_all[E5,if_neg]
  have j:∀c:Int,c<0->b0Z vals T c=-1:=fun c h=>by unfold b0Z;omega
  have f:∀c:Int,T<X2 vals c.toNat->b0Z vals T c=-1:=fun c h=>by simp_all[b0Z,if_neg]
  have m:∀c:Int,0<=c->X2 vals c.toNat<=T->b0Z vals T c=c:=fun c h u=>by simp_all[b0Z]
  have xT:(x:Int).toNat=x:=toNat_natCast x
  by_cases v:X2 vals x<=T
  ·rw[if_pos (by simp_all),List.foldl_cons];have rx:b0Z vals T (x:Int)=x:=m _ O' (by simp_all)
   by_cases k:b<0
   ·rw[d b k,j b k,rx,d (-1) O']
   ·obtain⟨p,R⟩:=hb O'
    by_cases o:X2 vals x=X2 vals b.toNat
    ·rw[m b O' O']
     by_cases hd:0<fD x b.toNat
     ·rw[i b O' hd,rx]
     ·rw[g b O' hd,m b O' O']
    ·have hd:0<fD x b.toNat:=(q x _ t p o).2 O';rw[i b O' hd,rx,f b O',d (-1) O']
  ·rw[if_neg (by simpa using v)];congr 1;have rx:b0Z vals T (x:Int)=-1:=f _ (by rw[xT];omega)
   by_cases k:b<0
   ·rw[d b k,j b k,rx]
   ·obtain⟨p,R⟩:=hb O'
    by_cases hd:0<fD x b.toNat
    ·rw[i b O' hd,rx]
     by_cases o:X2 vals x=X2 vals b.toNat
     ·rw[f b O']
     ·have:=(q x _ t p o).1 hd;rw[f b O']
    ·rw[g b O' hd]
theorem D0P (f:s07 vals fD){C:List Nat}(c:∀x∈C,x<vals.length){q:Nat}(hq:l7 fD C=q):l7 fD (C.filter fun x=>decide (X2 vals x<=X2 vals q))=q:=by
 cases C with
 |nil=>simp_all
 |cons x r=>
  have h1:l7 fD (x :: r)=r.foldl (E5 fD) (x:Int):=by
   rfl
  obtain⟨i,k,j,k2,m⟩:=u09 f r x (fun y d=>c y (List.mem_cons_of_mem _ d)) (c x V');have e:q=i:=O'
  have:=x0i f (X2 vals q) (x :: r) (-1) (fun y d=>⟨c y d,by
   grind⟩) (fun h=>O')
  have g:(x :: r).foldl (E5 fD) (-1)=(q:Int):=hq;rw[g]at this;unfold b0Z at this;rw[if_pos ⟨O',V'⟩,if_neg O']at this;exact this.symm
end
theorem x08 (fD:Nat->Nat->Int)(st:List Nat):∀(C:List Nat) (b:Int),(0<=b->True)->∀b':Int,((b<0/\b'<0)\/(0<=b/\b'=(st.getD b.toNat 0:Nat)))->
  (C.foldl (E5 fun i j=>fD (st.getD i 0) (st.getD j 0)) b<0/\(C.map fun j=>st.getD j 0).foldl (E5 fD) b'<0)\/(0<=C.foldl (E5 fun i j=>fD (st.getD i 0) (st.getD j 0)) b/\(C.map fun j=>st.getD j 0).foldl (E5 fD) b'=(st.getD (C.foldl (E5 fun i j=>fD (st.getD i 0) (st.getD j 0)) b).toNat 0:Nat))
 |[],b,_,b',h=>h
 |x :: r,b,_,b',h=>by
  refine x08 fD st r _ (fun _=>trivial) _ ?_;rcases h with⟨h1,c⟩|⟨h1,c⟩
  ·simp_all[E5]
  ·have f:E5 (fun i j=>fD (st.getD i 0) (st.getD j 0)) b x=if 0<fD (st.getD x 0) (st.getD b.toNat 0)then(x:Int)else b:=by simp_all[E5,if_neg]
   have d:E5 fD b' (st.getD x 0)=if 0<fD (st.getD x 0) (st.getD b.toNat 0)then((st.getD x 0:Nat):Int)else b':=by simp_all[E5,if_neg]
   grind
theorem B0B (e:Nat->B0×Bool)(pl st:List Nat)(c:∀i∈st,i<pl.length):(B5 e (st.map fun i=>pl.getD i 0) (st.map fun i=>pl.getD i 0).length).map (fun j=>st.getD j 0)=st.filter fun i=>(e (pl.getD i 0)).2:=by
 unfold B5;have h1:(List.range (st.map fun i=>pl.getD i 0).length).map (fun j=>st.getD j 0)=st:=by
  refine List.ext_getElem V' fun j h1 d=>?_
  simp_all
 grind [List.filter_congr]
def M0m (t:Old.Tm)(lo:Nat):t.steps lo≠[]:=by cases t<;>simp[Old.Tm.steps]
section
variable {F:Nat}{l:List D0}{n:Nat}{a:List B0}{b:Nat->List B0}{e:Nat->B0×Bool}{z:B0×Bool}
def I0u (K:Y2 l n a b e z F)(hw:∀x∈l,V2 x):∃can,f0a F l=some can/\C0 can (W ((l.length:Int)-1))=true/\gt can (W ((l.length:Int)-1))=z.2:=by
 have f1:=K.f1;obtain⟨t,c⟩:=Old.c0v hw K.hR;have g:=c.le;have j:=c.len;have hp:=t.size_pos;have h:=Old.k0x K.hR;have d:W ((l.length:Int)-1)=(t.top 0:Int):=by rw[J3 O' O'];unfold Old.Tm.top;omega
 have k:t.top 0<l.length:=by unfold Old.Tm.top;omega
 refine⟨Old.b0T l,(Old.s0J hw (show 401<F from O')),R0 (by rw[d];omega) (by rw[d,h.len];omega),?_⟩;rw[d,h.top t 0 c.at0];have h1:=K.TF.mZ;have f:=(Old.t0Y hw c K.hR (show 1000001<F from O')).1;rw[h1]at f;have i:=Option.some.inj f;rw[i];have hs:=M0m t 0;cases t.can
 ·rfl
 ·simp only[if_true,r0z];unfold a0B;rw[if_neg (by simpa using hs)];simpa using hs
def F0X (K:Y2 l n a b e z F)(hw:∀x∈l,V2 x):f0n F l 0=some (K8 (if z.2 then 2 else 1) [] [] (fun _ _=>0) (fun _ _=>0),0):=by
 obtain⟨can,h1,c,d⟩:=I0u K hw;unfold f0n f0O;rw[K.TF.mR];simp only[q0,beq_self_eq_true,show((0:Int)==1)=false from rfl,h1,c,d];cases z.2<;>rfl
theorem B0M {pl:List Nat}(hp:∀p∈pl,p<n)(ha:pl.Pairwise fun a b=>a<b)(hl:pl.length<=1000)(j:2000<F):k0t F (Q0 pl) (n:Int)=some true:=by
 unfold k0t;have:=V3 (step:=n0N F (Q0 pl) (n:Int)) (fun i=>(if i=0 then -1 else((pl.getD (i-1) 0:Nat):Int),(i:Int))) (.inr ()) pl.length (fun i hi=>.inl ?_) ?_ pl.length 0 F O' O'
 ·simp_all
 ·unfold n0N;have h1:(i:Int)<((Q0 pl).length:Int):=by simp;omega
  have h:=hp _ (List.getElem_mem hi);have f:¬((pl[i]:Nat):Int)<=(if i=0 then -1 else((pl.getD (i-1) 0:Nat):Int)):=by
   by_cases c:i=0
   ·omega
   ·grind [List.pairwise_iff_getElem]
  have d:¬((pl[i]:Nat):Int)>=(n:Int):=O'
  have g:(if i+1=0 then(-1:Int)else((pl.getD (i+1-1) 0:Nat):Int))=((pl[i]:Nat):Int):=by
   simp_all
  simp only[q0,h1,v7 hi,f0h hi,f,d,K2 (i:=i) O',g]
 simp[n0N]
theorem F0i (K:Y2 l n a b e z F){k:Kd}(C:C4 l n k.pl k.maps k.fB k.fD)(h:0<=k.flag)(i:k.flag<=2)(c:j0n F k.maps (Z2 l)=some true):d0k F l k.K=some true:=by
 have f1:=K.f1;have hm:=C.le;have hn:=K.T.n64;have f:=C.len;have g:=Y9 l l.length;have d:=K.hn;unfold d0k Kd.K K8;have c1:¬k.flag<0:=O'
 have c2:¬k.flag>2:=O'
 have c3:((k.maps.length:Int) != (k.pl.length:Int))=false:=by grind
 have c4:k0t F (Q0 k.pl) ((C3 l l.length).length:Int)=some true:=by
  have:=B0M (F:=F) (n:=n) C.pln C.asc O' O'
  simp_all
 simp only[q0,K.TF.mR,c1,c2,c3,K.TF.mL,c4,l0u K.hR (show 401<F from O'),c,c0Q,x0p (show k.pl.length<=1000 from O') (show 2000<F from O') C.rk]
def Kd.step (l:List D0)(n:Nat)(a:List B0)(b:Nat->List B0)(k:Kd)(b_:Int):Kd:=
 ⟨if k.flag==1 then 1 else 0,Q1 l n a b k.pl b_ (!(k.flag==0)),(Q1 l n a b k.pl b_ (!(k.flag==0))).map (stM l a b k.pl k.maps k.fB k.fD (!(k.flag==0))),
  b6 l (Q3 k.pl (!(k.flag==0)) k.fB) ((Q1 l n a b k.pl b_ (!(k.flag==0))).map (O2 a b k.pl k.fB k.fD (!(k.flag==0)))) ((Q1 l n a b k.pl b_ (!(k.flag==0))).map (D4 a b k.pl k.fB k.fD (!(k.flag==0)))),
  M6 l (Q3 k.pl (!(k.flag==0)) k.fB) (I4 k.pl (!(k.flag==0)) k.fD) ((Q1 l n a b k.pl b_ (!(k.flag==0))).map (O2 a b k.pl k.fB k.fD (!(k.flag==0)))) ((Q1 l n a b k.pl b_ (!(k.flag==0))).map (D4 a b k.pl k.fB k.fD (!(k.flag==0))))⟩
def Kd.a7 (e:Nat->B0×Bool)(mode:Int)(k:Kd):Kd:=if mode==0 then k.cut e else k
def Kd.num (k:Kd):Kd:=⟨k.flag,k.pl,R5 k.maps,k.fB,k.fD⟩
def m0N (K:Y2 l n a b e z F)(hw:∀x∈l,V2 x){k:Kd}(C:C4 l n k.pl k.maps k.fB k.fD)(b_:Int):C4 l n (k.step l n a b b_).pl (k.step l n a b b_).maps (k.step l n a b b_).fB (k.step l n a b b_).fD:=by
 have h:=q0A (at_:=0) K C hw b_ (!(k.flag==0));refine⟨by simp[Kd.step],h.pln,h.asc,fun v d=>?_,h.rk⟩;obtain⟨r,c,rfl⟩:=List.mem_map.1 d;unfold stM;rw[q9];exact(m0i (v0U C _) (u0u C _) (by rw[<-b0d a b];exact c0F (b0W c).2)).1
theorem s0d {k:Kd}(mode:Int)(C:C4 l n k.pl k.maps k.fB k.fD):C4 l n (k.a7 e mode).pl (k.a7 e mode).maps (k.a7 e mode).fB (k.a7 e mode).fD:=by
 grind [Kd.a7,d0T]
def j0m {k:Kd}(C:C4 l n k.pl k.maps k.fB k.fD):C4 l n k.num.pl k.num.maps k.num.fB k.num.fD:=by
 refine⟨by simp[Kd.num,R5,C.len],C.pln,C.asc,fun v d=>?_,C.rk⟩;obtain⟨r,c,rfl⟩:=List.mem_map.1 d;rw[List.length_map];exact C.row r c
def x0m (K:Y2 l n a b e z F){k:Kd}(C:C4 l n k.pl k.maps k.fB k.fD)(c:0<=k.flag)(d:k.flag<=2):d0k F l k.num.K=some true/\d0s F k.num.K=some ((N4 k.maps).length:Int):=by
 have f1:=K.f1;have hm:=C.le;have hn:=K.T.n64;have f:=C.len;have g:=k7 l;have hk:=G0x (F:=F) (maps:=k.maps) (tags:=(Z2 l).toNat) C.row O' O' O' k.num.K;have e:(((Z2 l).toNat:Nat):Int)=Z2 l:=O'
 rw[e]at hk;exact⟨F0i K (j0m C) c d hk.1,hk.2⟩
theorem M06 (K:Y2 l n a b e z F)(hw:∀x∈l,V2 x){k:Kd}(C:C4 l n k.pl k.maps k.fB k.fD)(hR:d0k F l k.K=some true){mode:Int}(c:mode=0\/mode=1){b_:Int}(u:J4 .u8 b_):
  e0i F l mode k.K b_=some (((k.step l n a b b_).a7 e mode).num.K,N4 ((k.step l n a b b_).a7 e mode).maps):=by
 have f1:=K.f1;have hn:=K.T.n64;have y:=k7 l;have m:=m0N K hw C b_;have t:=s0d (e:=e) mode m;have I:=l0o K C (!(k.flag==0));have s:f0O F mode=some true:=by
  unfold f0O
  grind
 have hg:=J0E (flag:=k.flag) K C (y0:=!(k.flag==0)) V';have h:(if k.flag==1 then some ((1,[],[],(⟨[],[]⟩:J2)):Int×List Int×List (List Int)×J2)else some (0,[],[],(⟨[],[]⟩:J2)))=some ((k.step l n a b b_).flag,[],[],(⟨[],[]⟩:J2)):=by
  grind [Kd.step]
 have j:=K0V K C hw u (!(k.flag==0)) (k.step l n a b b_).flag (⟨[],[]⟩:J2);have f:=y0o (F:=F) hw K.hR K.hn (show 2000<F from O') K.TF.mL (show H4 k.pl (!(k.flag==0))<=1000 from O') (i0z C (!(k.flag==0))) (j05 K C b_ (!(k.flag==0)));have w:(k.step l n a b b_).T=((k.step l n a b b_).flag,Q0 (Q1 l n a b k.pl b_ (!(k.flag==0))),(Q1 l n a b k.pl b_ (!(k.flag==0))).map (stM l a b k.pl k.maps k.fB k.fD (!(k.flag==0))),R2 (Q1 l n a b k.pl b_ (!(k.flag==0))).length (b6 l (Q3 k.pl (!(k.flag==0)) k.fB) ((Q1 l n a b k.pl b_ (!(k.flag==0))).map (O2 a b k.pl k.fB k.fD (!(k.flag==0)))) ((Q1 l n a b k.pl b_ (!(k.flag==0))).map (D4 a b k.pl k.fB k.fD (!(k.flag==0))))) (M6 l (Q3 k.pl (!(k.flag==0)) k.fB) (I4 k.pl (!(k.flag==0)) k.fD) ((Q1 l n a b k.pl b_ (!(k.flag==0))).map (O2 a b k.pl k.fB k.fD (!(k.flag==0)))) ((Q1 l n a b k.pl b_ (!(k.flag==0))).map (D4 a b k.pl k.fB k.fD (!(k.flag==0)))))):=rfl;have o:=L0K K m;have g:k.K.Flag=k.flag:=rfl;have d:∀q:Kd,C4 l n q.pl q.maps q.fB q.fD->Option.bind (i0U F q.T) (fun x=>some (x.1,x.2))=some (q.num.K,N4 q.maps):=fun q i=>by
  unfold Kd.T;rw[I0V (F:=F) (fun r v=>by have:=i.row r v;omega) (by have:=i.len;have:=i.le;omega) O'];rfl
 unfold e0i;rw[show j0E F l k.K=_ from hg];simp only[F0,g,h,K.TF.mL,j,f,List.length_map];rcases c with rfl|rfl
 ·simp_all[Kd.a7]
 ·have p:=d _ t;unfold Kd.a7 at p ⊢
  simp_all
def L7 (l:List D0)(e:Nat->B0×Bool)(z:B0×Bool)(k:Kd):List Int:=
 if l7 k.fD (B5 e k.pl k.pl.length)<0 then(if z.2&&(k.flag==2&&k.pl.length==0)then Y3 (-1) (-2) (B9 l) (L5 l z.1.Steps)else[])
 else Y3 (-1) (-2) (gt k.maps (l7 k.fD (B5 e k.pl k.pl.length))) (L5 l (e (k.pl.getD (l7 k.fD (B5 e k.pl k.pl.length)).toNat 0)).1.Steps)
theorem J06 (K:Y2 l n a b e z F){k:Kd}(C:C4 l n k.pl k.maps k.fB k.fD)(hR:d0k F l k.K=some true):d0J F l k.K=some (L7 l e z k):=by
 have p:=k7 l;unfold d0J L7;rw[hR,show g03 F l k.K=_ from w0A (flag:=k.flag) K C];rcases e0w (fD:=k.fD) (B5 e k.pl k.pl.length) (n:=k.pl.length) (fun i h=>c0c h)with hb|⟨q,hb,hq⟩
 ·have d:=f0u l z.1.Steps;have m:=K.T.zl;have c:((k.K.Places.length:Int)==0)=(k.pl.length==0):=by simp[w0i,Kd.K,K8]
  have g:k.K.Flag=k.flag:=rfl;have h1:¬(-1:Int)>=0:=O'
  simp only[h1,decide_false,Bool.false_eq_true,if_false,K.TF.mZ,F0,show((-1:Int)<0)=True from V',if_true,c,g,w0a K,g09 K.hR (show z.1.Steps.length<=2000000 from O') K.f1 (F3.sok K.T.zb),h0j (F:=F) (tags:=B9 l) (marks:=L5 l z.1.Steps) (now:=-1) (none_:=-2) (by grind [n09]) O']
  grind
 ·have hp:=T7 C.pln hq;have d:=f0u l (e (k.pl.getD q 0)).1.Steps;have o:=K.T.el _ hp;have h1:(q:Int)>=0:=O'
  have j:¬(q:Int)<0:=O'
  have f:C0 k.maps (q:Int)=true:=R0 O' (by rw[C.len];omega);rw[hb];simp only[q0,h1,j,Kd.K,K8,v7 hq,L8 hq,K.TF.mE _ hp,f,g09 K.hR (show(e (k.pl.getD q 0)).1.Steps.length<=2000000 from O') K.f1 (F3.sok (K.T.eb _ hp)),toNat_natCast]
  grind [h0j,A0q]
end
def Q7 (P:Int->Int->Prop)(E V:List Int):Prop:=E.length=V.length/\∀m:Nat,m<E.length->P (gt E (m:Int)) (gt V (m:Int))
def A0l {o:List Int}{j:Nat}{x:Int}(h:j<o.length):gt (o.set j x) (j:Int)=x:=P2 (List.getElem?_set_self h)
def y0v {o:List Int}{j m:Nat}{x:Int}(h:¬j=m):gt (o.set j x) (m:Int)=gt o (m:Int):=by
 unfold gt;rw[List.getD_eq_getElem?_getD,List.getD_eq_getElem?_getD,toNat_natCast,List.getElem?_set_ne h]
def i0o {P:Int->Int->Prop}{E V:List Int}(h:Q7 P E V){x y:Int}(hp:P x y)(j:Nat):Q7 P (E.set j x) (V.set j y):=by
 refine⟨by simp[h.1],fun m hm=>?_⟩;rw[List.length_set]at hm
 by_cases e:j=m
 ·subst e;rw[A0l hm,A0l (by rw[<-h.1];exact hm)];exact hp
 ·rw[y0v e,y0v e];exact h.2 m hm
def I0v {P:Int->Int->Prop}{E V:List Int}(h:Q7 P E V){g c f d:Int}(hn:P g c)(hu:P f d)(k:R3):Q7 P (s5 g f E k) (s5 c d V k):=by
 unfold s5;rw[<-h.1];split
 ·exact h
 ·split
  ·exact i0o h hn _
  ·split
   ·exact i0o h hn _
   ·split
    ·exact i0o (i0o h hu _) hu _
    ·exact h
def o0t {P:Int->Int->Prop}{g c f d:Int}(hn:P g c)(hu:P f d):∀(marks:List R3) {E V:List Int},Q7 P E V->Q7 P (Y3 g f E marks) (Y3 c d V marks)
 |[],_,_,h=>h
 |k :: r,E,V,h=>o0t hn hu r (I0v h hn hu k)
def a0Q (regs:List Int)(now:Int)(e v:Int):Prop:=(e=-2/\v=-1)\/(e=-1/\v=now)\/(0<=e/\e<(regs.length:Int)/\v=gt regs e)
def f0U (regs:List Int)(e v:Int):Prop:=(e=-2/\v=-1)\/(0<=e/\e<(regs.length:Int)/\v=gt regs e)
def f0U.n {regs:List Int}{e v:Int}(h:f0U regs e v)(now:Int):a0Q regs now e v:=by
 rcases h with h|h
 ·exact .inl h
 ·exact .inr (.inr h)
def Q7.mono {P Q:Int->Int->Prop}(h:∀e v,P e v->Q e v){E V:List Int}(c:Q7 P E V):Q7 Q E V:=⟨c.1,fun m hm=>h _ _ (c.2 m hm)⟩
theorem z0j (l:List D0)(regs:List Int)(now:Int):Q7 (a0Q regs now) (B9 l) (a0A l now):=by
 unfold B9 a0A;refine i0o ⟨V',fun m hm=>?_⟩ (.inr (.inl ⟨rfl,rfl⟩)) 0;have hm:m<(Z2 l).toNat:=by simpa using hm
 rw[P2 (x:=(-2:Int)) (by simp[hm]),P2 (x:=(-1:Int)) (by simp[hm])];exact .inl ⟨rfl,rfl⟩
theorem p0J {x:Int}(c:x≠-2):∀(r s:List Int),(x∈r\/x∈s)->x∈R4 s r
 |[],s,h=>by
  rcases h with h|h
  ·cases h
  ·exact h
 |v :: r,s,h=>by
  refine p0J c r (A7 s v) ?_;rcases h with h|h
  ·rcases List.mem_cons.1 h with h|h
   ·subst h;refine .inr ?_;unfold A7
    by_cases hm:x∈s
    ·rw[if_pos (.inr hm)];exact hm
    ·rw[if_neg (by rintro(h|h);exact c h;exact hm h)];simp
   ·exact .inl h
  ·exact .inr ((v0M s v).subset h)
def a0p (regs src:List Int)(now:Int):List Int:=src.map fun v=>if v=-1 then now else gt regs v
def M0E (regs src:List Int)(now:Int):(a0p regs src now).length=src.length:=by simp[a0p]
def E0o {regs src:List Int}{now e v:Int}(h:a0Q regs now e v)(hm:e≠-2->e∈src):f0U (a0p regs src now) (L4 src e) v:=by
 unfold L4
 by_cases f:e=-2
 ·rw[if_pos f];rcases h with⟨_,h⟩|⟨h,_⟩|⟨h,_⟩
  ·exact .inl ⟨rfl,h⟩
  ·omega
  ·omega
 ·rw[if_neg f];have d:=hm f;have c:=List.idxOf_lt_length_of_mem d;refine .inr ⟨O',by rw[M0E];omega,?_⟩;have hg:gt (a0p regs src now) (src.idxOf e:Int)=if e=-1 then now else gt regs e:=by
   refine P2 ?_;unfold a0p;rw[List.getElem?_map,List.getElem?_eq_getElem c,List.getElem_idxOf c];rfl
  rw[hg];rcases h with⟨h,_⟩|⟨h,h3⟩|⟨h,_,h3⟩
  ·exact absurd h f
  ·rw[if_pos h];exact h3
  ·rw[if_neg O'];exact h3
section
variable {F:Nat}
end
section
variable {F:Nat}{l:List D0}{n:Nat}{a:List B0}{b:Nat->List B0}{e:Nat->B0×Bool}{z:B0×Bool}
end
theorem K0t {maps:List (List Int)}{r:Nat}(h:r<maps.length):gt (R5 maps) (r:Int)=(gt maps (r:Int)).map (L4 (N4 maps)):=P2 (by grind [R5,X4])
theorem B0K {maps:List (List Int)}{r m:Nat}(d:r<maps.length)(hm:m<(gt maps (r:Int)).length)(c:gt (gt maps (r:Int)) (m:Int)≠-2):gt (gt maps (r:Int)) (m:Int)∈N4 maps:=by
 grind [N4,p0J,List.mem_flatten,P4]
theorem r08 {maps V:List (List Int)}{regs:List Int}{now:Int}(h:∀r,r<maps.length->Q7 (a0Q regs now) (gt maps (r:Int)) (gt V (r:Int))):∀r,r<maps.length->Q7 (f0U (a0p regs (N4 maps) now)) (gt (R5 maps) (r:Int)) (gt V (r:Int)):=by
 intro r c;obtain⟨h1,d⟩:=h r c;rw[K0t c];refine⟨by grind,fun m hm=>?_⟩;have hg:gt ((gt maps (r:Int)).map (L4 (N4 maps))) (m:Int)=L4 (N4 maps) (gt (gt maps (r:Int)) (m:Int)):=P2 (by grind [X4])
 simp_all[E0o,B0K]
def z0g {maps V:List (List Int)}{regs:List Int}{now:Int}(h:∀r,r<maps.length->Q7 (a0Q regs now) (gt maps (r:Int)) (gt V (r:Int))):∀v∈N4 maps,v=-1\/(0<=v/\v<(regs.length:Int)):=by
 intro v d;rcases t0u _ _ d with d|⟨d,hne⟩
 ·cases d
 ·obtain⟨row,c,f⟩:=List.mem_flatten.1 d;obtain⟨r,i⟩:=List.getElem?_of_mem c;obtain⟨m,hm⟩:=List.getElem?_of_mem f;have g:=(List.getElem?_eq_some_iff.1 i).1;have k:gt maps (r:Int)=row:=P2 i;have o:=(List.getElem?_eq_some_iff.1 hm).1;have j:gt row (m:Int)=v:=P2 hm;have:=(h r g).2 m (by simp_all);rw[k,j]at this;rcases this with⟨h1,_⟩|⟨h1,_⟩|⟨h1,h2,_⟩
  ·omega
  ·omega
  omega
structure l6 (l:List D0)(n:Nat)(e:Nat->B0×Bool)(z:B0×Bool)(h:Hs)(k:Kd)(regs:List Int)(i:Nat):Prop where
 hs:P7 l n h i
 inv:Inv l (fun _=>true) i h.c.vals h.c.fB h.c.fD
 sm:f0A h.c.vals h.c.fB
 tol:h.to<=(i:Int)
 pl:k.pl=h.c.pl
 fB:k.fB=h.c.fB
 fD:k.fD=h.c.fD
 C:C4 l n k.pl k.maps k.fB k.fD
 rel:∀r,r<k.maps.length->Q7 (f0U regs) (gt k.maps (r:Int)) (gt h.c.vals (r:Int))
 fl:k.flag=if h.is then(if i=0 then 2 else 0)else 1
 acc:if h.is=true/\h.to=(i:Int)then Q7 (a0Q regs (i:Int)) (L7 l e z k) h.tags/\(L7 l e z k).length=(Z2 l).toNat else L7 l e z k=[]
section
variable {F:Nat}{l:List D0}{n:Nat}{a:List B0}{b:Nat->List B0}{e:Nat->B0×Bool}{z:B0×Bool}
theorem N08 (l:List D0)(n:Nat)(e:Nat->B0×Bool)(z:B0×Bool):l6 l n e z (Hs.zero l z) ⟨if z.2 then 2 else 1,[],[],fun _ _=>0,fun _ _=>0⟩ [] 0 where
 hs:=H0r
 inv:=⟨(fun v h=>by cases h),(fun v h=>by cases h),(fun k m h=>by simp[Hs.zero,Cs.zero])⟩
 sm:=fun k m h=>by simp[Hs.zero,Cs.zero]
 tol:=le_refl _
 pl:=rfl
 fB:=rfl
 fD:=rfl
 C:=r0A l n
 rel:=fun r h=>by grind
 fl:=by
  show(if z.2=true then(2:Int)else 1)=if(a0v l z 0).2=true then _ else _
  grind [a0v]
 acc:=by
  have c:L7 l e z ⟨if z.2 then 2 else 1,[],[],fun _ _=>0,fun _ _=>0⟩=if z.2&&((if z.2 then(2:Int)else 1)==2&&true)then Y3 (-1) (-2) (B9 l) (L5 l z.1.Steps)else[]:=rfl;rw[c];unfold Hs.zero a0v;cases f:z.2 with
  |false=>rfl
  |true=>
   have d:(if(true&&((if true then(2:Int)else 1)==2&&true))=true then Y3 (-1) (-2) (B9 l) (L5 l z.1.Steps)else[])=Y3 (-1) (-2) (B9 l) (L5 l z.1.Steps):=rfl;rw[d];refine⟨?_,by rw[q9,n09]⟩;exact o0t (P:=a0Q [] ((0:Nat):Int)) (.inr (.inl ⟨rfl,rfl⟩)) (.inl ⟨rfl,rfl⟩) _ (z0j l [] _)
def l6.f0 {h:Hs}{k:Kd}{regs:List Int}{i:Nat}(S:l6 l n e z h k regs i):0<=k.flag/\k.flag<=2:=by
 rw[S.fl];omega
theorem l6.y0 {h:Hs}{k:Kd}{regs:List Int}{i:Nat}(S:l6 l n e z h k regs i):(!(k.flag==0))=(h.c.at_==0||!h.is):=by
 rw[S.fl,S.hs.c.a0]
 grind
theorem D0f {maps V:List (List Int)}{regs:List Int}{pl:List Nat}{at_:Int}{y0:Bool}(hm:maps.length=pl.length)(f:V.length=pl.length)(h:∀r,r<maps.length->Q7 (f0U regs) (gt maps (r:Int)) (gt V (r:Int))){s:Nat}(hs:s<H4 pl y0):
  Q7 (a0Q regs at_) (gt (a0J l maps y0) (s:Int)) (gt (z6 l at_ V y0) (s:Int)):=by
 unfold a0J z6;unfold H4 at hs
 by_cases c:s<pl.length
 ·rw[b0l O' O',b0l O' O'];exact(h s O').mono (fun e v d=>d.n at_)
 ·cases y0 with
  |false=>grind
  |true=>
   grind [c0Z,z0j]
theorem C0d (K:Y2 l n a b e z F)(hw:∀x∈l,V2 x){h:Hs}{k:Kd}{regs:List Int}{i:Nat}(S:l6 l n e z h k regs i)(hi:i<=100000){b_:Int}(hb:J4 .u8 b_):
  l6 l n e z (h.feed l n a b e b_) ((k.step l n a b b_).a7 e 0).num (a0p regs (N4 ((k.step l n a b b_).a7 e 0).maps) (i:Int)) (i+1)/\∀v∈N4 ((k.step l n a b b_).a7 e 0).maps,v=-1\/(0<=v/\v<(regs.length:Int)):=by
 have a1:=B08 (e:=e) K hw S.hs b_;have d:=S.y0;have j0:=S.hs.c.a0;have C1:=m0N K hw S.C b_;have C2:=s0d (e:=e) 0 C1;have I1:Inv l (fun _=>true) (i+1) (h.K0 l n a b b_).vals (h.K0 l n a b b_).fB (h.K0 l n a b b_).fD:=I00 K S.hs.c S.inv b_ (h.c.at_==0||!h.is) (fun _=>rfl);have M1:f0A (h.K0 l n a b b_).vals (h.K0 l n a b b_).fB:=L09 K hw S.hs.c S.inv S.sm b_ (h.c.at_==0||!h.is);have R:b9 l n (h.K0 l n a b b_) (i+1):=v0Q K hw S.hs.c b_ (h.c.at_==0||!h.is);have k0:=S.hs.c.ok.len;have k4:=S.C.len;have f:(k.step l n a b b_).pl=(h.K0 l n a b b_).pl:=by
  show Q1 l n a b k.pl b_ (!(k.flag==0))=Q1 l n a b h.c.pl b_ (h.c.at_==0||!h.is);rw[d,S.pl]
 have s:(k.step l n a b b_).fB=(h.K0 l n a b b_).fB:=by
  unfold Kd.step Hs.K0 Cs.step;simp only[d,S.pl,S.fB,S.fD]
 have u:(k.step l n a b b_).fD=(h.K0 l n a b b_).fD:=by
  unfold Kd.step Hs.K0 Cs.step;simp only[d,S.pl,S.fB,S.fD]
 have h8:(k.step l n a b b_).maps.length=(k.step l n a b b_).pl.length:=C1.len;have t:∀r,r<(k.step l n a b b_).maps.length->Q7 (a0Q regs (i:Int)) (gt (k.step l n a b b_).maps (r:Int)) (gt (h.K0 l n a b b_).vals (r:Int)):=by
  intro r m;rw[h8]at m;have k3:r<(Q1 l n a b k.pl b_ (!(k.flag==0))).length:=m;have e1:gt (k.step l n a b b_).maps (r:Int)=stM l a b k.pl k.maps k.fB k.fD (!(k.flag==0)) (Q1 l n a b k.pl b_ (!(k.flag==0)))[r]:=P2 (by grind [Kd.step]);have I:r<(Q1 l n a b h.c.pl b_ (h.c.at_==0||!h.is)).length:=by rw[<-S.pl,<-d];omega
  have e2:gt (h.K0 l n a b b_).vals (r:Int)=O7 l a b h.c.at_ h.c.pl h.c.vals h.c.fB h.c.fD (h.c.at_==0||!h.is) (Q1 l n a b h.c.pl b_ (h.c.at_==0||!h.is))[r]:=P2 (by grind [Hs.K0,Cs.step]);have e6:=List.getElem_mem I;rw[e1,e2];unfold stM O7;simp only[d,S.pl,S.fB,S.fD];rw[<-j0];refine o0t (P:=a0Q regs h.c.at_) (.inr (.inl ⟨rfl,rfl⟩)) (.inl ⟨rfl,rfl⟩) _ ?_;exact D0f (pl:=h.c.pl) (by rw[<-S.pl];omega) k0 S.rel (by rw[<-b0d a b];exact c0F (b0W e6).2)
 have U:(k.step l n a b b_).flag=if k.flag==1 then 1 else 0:=rfl;have b2:(h.K0 l n a b b_).at_=((i+1:Nat):Int):=R.a0;have k1:((((i+1:Nat):Int))==0)=false:=by rfl
 rcases e0w (fD:=(h.K0 l n a b b_).fD) (B5 e (h.K0 l n a b b_).pl (h.K0 l n a b b_).pl.length) (n:=(h.K0 l n a b b_).pl.length) (fun i h=>c0c h)with hB|⟨q,hB,hq⟩
 ·-- nothing is found
  have c4:((h.K0 l n a b b_).Q2 l e).2=false:=by simp_all[Cs.Q2,d0C]
  have hF:h.feed l n a b e b_=⟨h.K0 l n a b b_,h.tags,h.to,h.is⟩:=by simp_all[Hs.feed]
  have w:(k.step l n a b b_).a7 e 0=k.step l n a b b_:=by
   show(if(0:Int)==0 then _ else _)=_
   simp_all[Kd.cut]
  rw[w]at C2 ⊢;rw[hF]at a1 ⊢;refine⟨⟨a1,I1,M1,by show h.to<=_;have:=S.tol;omega,f,s,u,j0m C1,fun r m=>r08 t r (by simp_all[Kd.num,R5]),?_,?_⟩,z0g t⟩
  ·show(k.step l n a b b_).flag=if h.is then(if i+1=0 then 2 else 0)else 1;rw[U,S.fl,if_neg (show ¬i+1=0 from O')]
   grind
  ·have h9:¬(h.is=true/\h.to=((i+1:Nat):Int)):=fun hh=>by have:=S.tol;omega
   show if h.is=true/\h.to=((i+1:Nat):Int)then _ else _;rw[if_neg h9];show L7 l e z (k.step l n a b b_).num=[];unfold L7 Kd.num
   grind
 ·-- the run q is found
  have j3:¬(q:Int)<0:=O'
  have c4:(h.K0 l n a b b_).Q2 l e=(Y3 (h.K0 l n a b b_).at_ (-1) (gt (h.K0 l n a b b_).vals (q:Int)) (L5 l (e ((h.K0 l n a b b_).pl.getD q 0)).1.Steps),true):=by
   simp_all[Cs.Q2,d0C]
  have hF:h.feed l n a b e b_=⟨(h.K0 l n a b b_).J1 (X2 (h.K0 l n a b b_).vals q),Y3 (h.K0 l n a b b_).at_ (-1) (gt (h.K0 l n a b b_).vals (q:Int)) (L5 l (e ((h.K0 l n a b b_).pl.getD q 0)).1.Steps),(h.K0 l n a b b_).at_,true⟩:=by
   simp_all[Hs.feed,f0R]
  have w:(k.step l n a b b_).a7 e 0=(k.step l n a b b_).of 0 (U4 (h.K0 l n a b b_).vals (X2 (h.K0 l n a b b_).vals q) (h.K0 l n a b b_).pl.length):=by
   show(k.step l n a b b_).cut e=_;unfold Kd.cut;rw[f,u,hB,if_neg j3,s,toNat_natCast,C0b R I1 M1 hq]
  rw[w]at C2 ⊢;rw[hF]at a1 ⊢;obtain⟨I2,M2⟩:=D0z R I1 M1 (X2 (h.K0 l n a b b_).vals q);have p:=R.ok.len;have J:∀j∈U4 (h.K0 l n a b b_).vals (X2 (h.K0 l n a b b_).vals q) (h.K0 l n a b b_).pl.length,j<(h.K0 l n a b b_).pl.length:=fun j g=>g05 g;have e7:(U4 (h.K0 l n a b b_).vals (X2 (h.K0 l n a b b_).vals q) (h.K0 l n a b b_).pl.length).filter (fun i=>(e ((h.K0 l n a b b_).pl.getD i 0)).2)=(B5 e (h.K0 l n a b b_).pl (h.K0 l n a b b_).pl.length).filter fun x=>decide (X2 (h.K0 l n a b b_).vals x<=X2 (h.K0 l n a b b_).vals q):=by
   simp[U4,B5,Bool.and_comm]
  have h5:=D0P (vals:=(h.K0 l n a b b_).vals) (fD:=(h.K0 l n a b b_).fD) (fun x y hx hy j2=>(I1.ahead x y hx hy j2).2) (C:=B5 e (h.K0 l n a b b_).pl (h.K0 l n a b b_).pl.length) (fun x hx=>by rw[p];exact c0c hx) hB;rw[<-e7]at h5;have e9:((h.K0 l n a b b_).J1 (X2 (h.K0 l n a b b_).vals q)).vals=(U4 (h.K0 l n a b b_).vals (X2 (h.K0 l n a b b_).vals q) (h.K0 l n a b b_).pl.length).map fun i:Nat=>gt (h.K0 l n a b b_).vals (i:Int):=rfl;have j4:=B0B e (h.K0 l n a b b_).pl _ J;have c3:((k.step l n a b b_).of 0 (U4 (h.K0 l n a b b_).vals (X2 (h.K0 l n a b b_).vals q) (h.K0 l n a b b_).pl.length)).pl=(U4 (h.K0 l n a b b_).vals (X2 (h.K0 l n a b b_).vals q) (h.K0 l n a b b_).pl.length).map fun i=>(h.K0 l n a b b_).pl.getD i 0:=by unfold Kd.of;rw[f]
  have h7:((k.step l n a b b_).of 0 (U4 (h.K0 l n a b b_).vals (X2 (h.K0 l n a b b_).vals q) (h.K0 l n a b b_).pl.length)).fB=fun i j=>(h.K0 l n a b b_).fB ((U4 (h.K0 l n a b b_).vals (X2 (h.K0 l n a b b_).vals q) (h.K0 l n a b b_).pl.length).getD i 0) ((U4 (h.K0 l n a b b_).vals (X2 (h.K0 l n a b b_).vals q) (h.K0 l n a b b_).pl.length).getD j 0):=by unfold Kd.of;rw[s]
  have b3:((k.step l n a b b_).of 0 (U4 (h.K0 l n a b b_).vals (X2 (h.K0 l n a b b_).vals q) (h.K0 l n a b b_).pl.length)).fD=fun i j=>(h.K0 l n a b b_).fD ((U4 (h.K0 l n a b b_).vals (X2 (h.K0 l n a b b_).vals q) (h.K0 l n a b b_).pl.length).getD i 0) ((U4 (h.K0 l n a b b_).vals (X2 (h.K0 l n a b b_).vals q) (h.K0 l n a b b_).pl.length).getD j 0):=by unfold Kd.of;rw[u]
  have c5:((k.step l n a b b_).of 0 (U4 (h.K0 l n a b b_).vals (X2 (h.K0 l n a b b_).vals q) (h.K0 l n a b b_).pl.length)).maps=(U4 (h.K0 l n a b b_).vals (X2 (h.K0 l n a b b_).vals q) (h.K0 l n a b b_).pl.length).map fun i:Nat=>gt (k.step l n a b b_).maps (i:Int):=rfl;have i1:((k.step l n a b b_).of 0 (U4 (h.K0 l n a b b_).vals (X2 (h.K0 l n a b b_).vals q) (h.K0 l n a b b_).pl.length)).flag=0:=rfl;have j1:((h.K0 l n a b b_).J1 (X2 (h.K0 l n a b b_).vals q)).pl=(U4 (h.K0 l n a b b_).vals (X2 (h.K0 l n a b b_).vals q) (h.K0 l n a b b_).pl.length).map fun i=>(h.K0 l n a b b_).pl.getD i 0:=rfl;generalize k5:(k.step l n a b b_).of 0 (U4 (h.K0 l n a b b_).vals (X2 (h.K0 l n a b b_).vals q) (h.K0 l n a b b_).pl.length)=k2 at *;generalize b4:U4 (h.K0 l n a b b_).vals (X2 (h.K0 l n a b b_).vals q) (h.K0 l n a b b_).pl.length=st at *;have o:∀r,r<k2.maps.length->Q7 (a0Q regs (i:Int)) (gt k2.maps (r:Int)) (gt ((h.K0 l n a b b_).J1 (X2 (h.K0 l n a b b_).vals q)).vals (r:Int)):=by
   intro r m;have I:r<st.length:=by rw[c5]at m;simpa using m
   obtain⟨e1,e2⟩:=m0s (vals:=(k.step l n a b b_).maps) (fun j g=>by rw[h8,f];exact J j g) I;obtain⟨e3,e4⟩:=m0s (vals:=(h.K0 l n a b b_).vals) (fun j g=>by rw[p];exact J j g) I;rw[c5,e9,e1,e3];exact t _ e2
  refine⟨⟨a1,I2,M2,by show(h.K0 l n a b b_).at_<=_;omega,?_,?_,?_,j0m C2,fun r m=>r08 o r (by simpa[Kd.num,R5]using m),?_,?_⟩,z0g o⟩
  ·show k2.pl=_;rw[c3,j1]
  ·show k2.fB=_;rw[h7];show _=fun i j=>(h.K0 l n a b b_).fB ((U4 (h.K0 l n a b b_).vals (X2 (h.K0 l n a b b_).vals q) (h.K0 l n a b b_).pl.length).getD i 0) ((U4 (h.K0 l n a b b_).vals (X2 (h.K0 l n a b b_).vals q) (h.K0 l n a b b_).pl.length).getD j 0);rw[b4]
  ·show k2.fD=_;rw[b3];show _=fun i j=>(h.K0 l n a b b_).fD ((U4 (h.K0 l n a b b_).vals (X2 (h.K0 l n a b b_).vals q) (h.K0 l n a b b_).pl.length).getD i 0) ((U4 (h.K0 l n a b b_).vals (X2 (h.K0 l n a b b_).vals q) (h.K0 l n a b b_).pl.length).getD j 0);rw[b4]
  ·show k2.flag=if true then(if i+1=0 then 2 else 0)else 1;rw[i1];rfl
  ·show if true=true/\(h.K0 l n a b b_).at_=((i+1:Nat):Int)then _ else _;rw[if_pos ⟨rfl,b2⟩];have c6:=x08 (h.K0 l n a b b_).fD st (B5 e (st.map fun i=>(h.K0 l n a b b_).pl.getD i 0) (st.map fun i=>(h.K0 l n a b b_).pl.getD i 0).length) (-1) (fun _=>trivial) (-1) (.inl ⟨O',O'⟩);rw[j4]at c6;have c8:(st.filter fun i=>(e ((h.K0 l n a b b_).pl.getD i 0)).2).foldl (E5 (h.K0 l n a b b_).fD) (-1)=(q:Int):=h5;rw[c8]at c6;rcases c6 with⟨_,h2⟩|⟨h1,h2⟩
   ·omega
   ·have h0:=e0w (fD:=fun i j=>(h.K0 l n a b b_).fD (st.getD i 0) (st.getD j 0)) (B5 e (st.map fun i=>(h.K0 l n a b b_).pl.getD i 0) (st.map fun i=>(h.K0 l n a b b_).pl.getD i 0).length) (n:=(st.map fun i=>(h.K0 l n a b b_).pl.getD i 0).length) (fun i h=>c0c h);have h3:l7 (fun i j=>(h.K0 l n a b b_).fD (st.getD i 0) (st.getD j 0)) (B5 e (st.map fun i=>(h.K0 l n a b b_).pl.getD i 0) (st.map fun i=>(h.K0 l n a b b_).pl.getD i 0).length)=(B5 e (st.map fun i=>(h.K0 l n a b b_).pl.getD i 0) (st.map fun i=>(h.K0 l n a b b_).pl.getD i 0).length).foldl (E5 fun i j=>(h.K0 l n a b b_).fD (st.getD i 0) (st.getD j 0)) (-1):=rfl;rw[<-h3]at h1 h2;rcases h0 with m|⟨j,m,g⟩
    ·rw[m]at h1;omega
    ·rw[m,toNat_natCast]at h2;have g:j<st.length:=by simpa using g
     have e5:q=st.getD j 0:=O'
     have h4:L7 l e z k2.num=Y3 (-1) (-2) (gt (R5 k2.maps) (j:Int)) (L5 l (e ((h.K0 l n a b b_).pl.getD q 0)).1.Steps):=by
      unfold L7 Kd.num;simp only[c3,b3];rw[m,if_neg O',toNat_natCast];have:(st.map fun i=>(h.K0 l n a b b_).pl.getD i 0).getD j 0=(h.K0 l n a b b_).pl.getD q 0:=by
       rw[e5];simp[List.getD,g]
      rw[this]
     have h6:j<k2.maps.length:=by rw[c5];simpa using g
     have b1:=r08 o j h6;obtain⟨e3,_⟩:=m0s (vals:=(h.K0 l n a b b_).vals) (fun j g=>by rw[p];exact J j g) g;rw[e9,e3,<-e5]at b1;rw[h4];refine⟨?_,?_⟩
     ·rw[b2];exact o0t (P:=a0Q (a0p regs (N4 k2.maps) (i:Int)) ((i+1:Nat):Int)) (.inr (.inl ⟨rfl,rfl⟩)) (.inl ⟨rfl,rfl⟩) _ (b1.mono (fun e v hh=>hh.n _))
     ·rw[q9];have:=(j0m C2).row (gt (R5 k2.maps) (j:Int)) (P4 (by show j<(R5 k2.maps).length;simpa[R5]using h6));exact this
end
