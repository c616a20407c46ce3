/- P. Its conditions: none. -/
import Derived.Test.YtihmgaccbcfgjaaGreatQG43
import Derived.Test.YtihmgaccbcfgjaaGreatQG42
import Derived.Test.YtihmgaccbcfgjaaGreatQMd
import Derived.Test.YtihmgaccbcfgjaaGreatQG23
open List (mem_map length_nil ext_getElem take_succ length_append length_cons take_length map_append map_cons map_nil)
open Bool (false_eq_true)
set_option linter.all false
namespace Go.Proofs.YtihmgaccbcfgjaaGreat
open Go.V Go.RowKit Old Go.X
section
variable {F:Nat}{l:List C0}{n:Nat}{a:List B0}{b:Nat->List B0}{e:Nat->B0×Bool}{z:B0×Bool}
end
structure O6 (l:List C0)(n:Nat)(e:Nat->B0×Bool)(z:B0×Bool)(h:Hs)(k:Kd)(regs:List Int)(i:Nat):Prop where
 hs:B0U l n h i
 inv:Inv l (fun _=>true) i h.c.vals h.c.fB h.c.fD
 sm:E0Y h.c.vals h.c.fB
 tol:h.to<=(i:Int)
 pl:k.pl=h.c.pl
 fB:k.fB=h.c.fB
 fD:k.fD=h.c.fD
 C:R3 l n k.pl k.maps k.fB k.fD
 rel:∀r,r<k.maps.length->h0G (q0n regs) (gt k.maps (r:Int)) (gt h.c.vals (r:Int))
 fl:k.flag=if h.is then(if i=0 then 2 else 0)else 1
 acc:if h.is=true/\h.to=(i:Int)then h0G (w0v regs (i:Int)) (a06 l e z k) h.tags/\(a06 l e z k).length=(C4 l).toNat else a06 l e z k=[]
section
variable {F:Nat}{l:List C0}{n:Nat}{a:List B0}{b:Nat->List B0}{e:Nat->B0×Bool}{z:B0×Bool}
def O6.f0 {h:Hs}{k:Kd}{regs:List Int}{i:Nat}(S:O6 l n e z h k regs i):0<=k.flag/\k.flag<=2:=by
 rw[S.fl];omega
theorem O6.E0 {h:Hs}{k:Kd}{regs:List Int}{i:Nat}(S:O6 l n e z h k regs i):(!(k.flag==0))=(h.c.at_==0||!h.is):=by
 rw[S.fl,S.hs.c.a0]
 grind
end
def r0Y {α:Type}[Inhabited α]{v:List α}{y:α}(c:y∈v):∃m:Nat,m<v.length/\gt v (m:Int)=y:=by
 obtain⟨m,hm⟩:=List.getElem?_of_mem c;exact⟨m,(List.getElem?_eq_some_iff.1 hm).1,X2 hm⟩
def w07 {s:List Int}{v:Int}(h:v≠-2->v∈s):O3 s v=-2\/(0<=O3 s v/\O3 s v<(s.length:Int)):=by
 unfold O3;split
 ·exact .inl rfl
 ·rename_i hn;have:=List.idxOf_lt_length_of_mem (h hn);exact .inr ⟨O',O'⟩
def G0H (maps:List (List Int)):∀v∈X5 maps,∀y∈v,y=-2\/(0<=y/\y<((M4 maps).length:Int)):=by
 intro v d y f;unfold X5 at d;obtain⟨r,g,rfl⟩:=mem_map.1 d;obtain⟨x,h,rfl⟩:=mem_map.1 f;refine w07 fun c=>?_;unfold M4;exact r0I c _ _ (.inl (List.mem_flatten.2 ⟨r,g,h⟩))
section
variable {F:Nat}{l:List C0}{n:Nat}{a:List B0}{b:Nat->List B0}{e:Nat->B0×Bool}{z:B0×Bool}
def B0C (K:U3 l n a b e z F)(hw:∀x∈l,P2 x){k:Kd}(C:R3 l n k.pl k.maps k.fB k.fD){R:Int}(he:∀v∈k.maps,∀y∈v,y=-2\/0<=y)(hR:∀v∈k.maps,∀y∈v,y<R)(b_:Int)(mode:Int):∀v∈M4 ((k.step l n a b b_).K7 e mode).maps,v=-1\/(0<=v/\v<R):=by
 have p:=C.len;have base:∀s,s<C5 k.pl (!(k.flag==0))->∀y∈gt (a0F l k.maps (!(k.flag==0))) (s:Int),y=-2\/y=-1\/(0<=y/\y<R):=by
  intro s hs y f;unfold a0F at f;unfold C5 at hs
  by_cases c:s<k.pl.length
  ·rw[b0Y O' O']at f;have hm:=b8 (l:=k.maps) (i:=s) O';rcases he _ hm y f with h|h
   ·exact .inl h
   ·exact .inr (.inr ⟨h,hR _ hm y f⟩)
  ·cases g:(!(k.flag==0))with
   |false=>rw[g]at hs;simp at hs;omega
   |true=>
    rw[g]at hs f;simp only[if_true]at hs f;have e:s=k.pl.length:=O'
    subst e;rw[e0v p.symm]at f;unfold b0I at f;rcases List.mem_or_eq_of_mem_set f with h|h
    ·exact .inl (List.eq_of_mem_replicate h)
    ·exact .inr (.inl h)
 have j0o:∀v∈(k.step l n a b b_).maps,∀y∈v,y=-2\/y=-1\/(0<=y/\y<R):=by
  intro v d y f;obtain⟨r,t,rfl⟩:=mem_map.1 d;obtain⟨m,m1,m2⟩:=r0Y f;have hs:T5 a b k.pl k.fB k.fD (!(k.flag==0)) r<C5 k.pl (!(k.flag==0)):=by rw[<-d0B a b];exact e0o (c09 t).2
  unfold stM at m1 m2;rw[e0V]at m1;rcases q0e (-1) (-2) m (a7 l (V5 a b k.pl k.fB k.fD (!(k.flag==0)) r).Steps) (gt (a0F l k.maps (!(k.flag==0))) (T5 a b k.pl k.fB k.fD (!(k.flag==0)) r:Int))with h|h|h
  ·rw[h]at m2;rw[<-m2];exact base _ hs _ (b8 m1)
  ·rw[h]at m2;exact .inr (.inl m2.symm)
  ·rw[h]at m2;exact .inl m2.symm
 have j:∀v∈((k.step l n a b b_).K7 e mode).maps,∀y∈v,y=-2\/y=-1\/(0<=y/\y<R):=by
  intro v d;unfold Kd.K7 at d;split at d
  ·unfold Kd.cut at d;split at d
   ·exact j0o v d
   ·obtain⟨i,hi,rfl⟩:=mem_map.1 d;exact j0o _ (b8 (by rw[(o0m K hw C b_).len];exact n01 hi))
  ·exact j0o v d
 intro v d;rcases t0z _ _ d with d|⟨d,hne⟩
 ·cases d
 ·obtain⟨row,o,q⟩:=List.mem_flatten.1 d;rcases j row o v q with h|h|h
  ·exact absurd h hne
  ·exact .inl h
  ·exact .inr h
structure KOk (F:Nat)(l:List C0)(n:Nat)(k:Kd)(R:Nat):Prop where
 C:R3 l n k.pl k.maps k.fB k.fD
 f0:0<=k.flag
 f2:k.flag<=2
 rt:c0P F l k.K=some true
 rg:c0k F k.K=some (R:Int)
 en:∀v∈k.maps,∀y∈v,y=-2\/(0<=y/\y<(R:Int))
 le:R<=n*19
def Kd.next (l:List C0)(n:Nat)(a:List B0)(b:Nat->List B0)(e:Nat->B0×Bool)(mode:Int)(k:Kd)(b_:Int):Kd:=((k.step l n a b b_).K7 e mode).num
def Kd.src (l:List C0)(n:Nat)(a:List B0)(b:Nat->List B0)(e:Nat->B0×Bool)(mode:Int)(k:Kd)(b_:Int):List Int:=M4 ((k.step l n a b b_).K7 e mode).maps
def x0l (K:U3 l n a b e z F)(hw:∀x∈l,P2 x){k:Kd}{R:Nat}(h:KOk F l n k R){mode:Int}(hm:mode=0\/mode=1){b_:Int}(q:L5 .u8 b_):
  c0Q F l mode k.K b_=some ((k.next l n a b e mode b_).K,k.src l n a b e mode b_)/\KOk F l n (k.next l n a b e mode b_) (k.src l n a b e mode b_).length/\∀v∈k.src l n a b e mode b_,v=-1\/(0<=v/\v<(R:Int)):=by
 have m:=o0m K hw h.C b_;have f:=t0R (e:=e) mode m;have d:(k.step l n a b b_).flag=if k.flag==1 then 1 else 0:=rfl;have c:0<=((k.step l n a b b_).K7 e mode).flag/\((k.step l n a b b_).K7 e mode).flag<=2:=by
  have g:0<=(k.step l n a b b_).flag/\(k.step l n a b b_).flag<=2:=by rw[d];split<;>omega
  unfold Kd.K7;split
  ·unfold Kd.cut;split
   ·exact g
   ·exact⟨Int.le_refl _,by show(0:Int)<=2;omega⟩
  ·exact g
 obtain⟨p,s⟩:=w0O K f c.1 c.2;refine⟨F0p K hw h.C h.rt hm q,⟨v0n f,c.1,c.2,p,s,G0H _,?_⟩,B0C K hw h.C (fun v i y j=>(h.en v i y j).imp id And.left) (fun v i y j=>by rcases h.en v i y j with h|h<;>omega) b_ mode⟩;have t:=a07 l;have J:=j0f ((k.step l n a b b_).K7 e mode).maps 19 (fun r o=>by have:=f.row r o;omega);have g:=l0c ((k.step l n a b b_).K7 e mode).maps.flatten [];have w:=f.len;have u:=f.le;have I:((k.step l n a b b_).K7 e mode).maps.length*19<=n*19:=Nat.mul_le_mul_right _ O';simp only[length_nil]at g;unfold Kd.src M4;omega
def Kd.zero (z:B0×Bool)(mode:Int):Kd:=⟨if mode=1\/z.2=true then 2 else 1,[],[],fun _ _=>0,fun _ _=>0⟩
def A0M (K:U3 l n a b e z F)(hw:∀x∈l,P2 x){mode:Int}(hm:mode=0\/mode=1):d0z F l mode=some ((Kd.zero z mode).K,0)/\KOk F l n (Kd.zero z mode) 0:=by
 have f1:=K.f1;have g:=a07 l;constructor
 ·rcases hm with rfl|rfl
  ·rw[x06 K hw];unfold Kd.zero Kd.K;cases z.2<;>rfl
  ·unfold d0z f0d;rw[K.TF.mR];rfl
 ·have C:R3 l n (Kd.zero z mode).pl (Kd.zero z mode).maps (Kd.zero z mode).fB (Kd.zero z mode).fD:=B0r l n;have f0:0<=(Kd.zero z mode).flag:=by unfold Kd.zero;simp only;split<;>omega
  have f2:(Kd.zero z mode).flag<=2:=by unfold Kd.zero;simp only;split<;>omega
  obtain⟨f,d⟩:=w0O K C f0 f2;exact⟨C,f0,f2,f,d,fun v c=>(by cases(show v∈([]:List (List Int))from c)),Nat.zero_le _⟩
def D0j (K:U3 l n a b e z F){k:Kd}{R:Nat}(h:KOk F l n k R):c0s F l k.K=some (a06 l e z k)/\((a06 l e z k).length=0\/(a06 l e z k).length=(C4 l).toNat)/\∀v∈a06 l e z k,v=-2\/v=-1\/(0<=v/\v<(R:Int)):=by
 refine⟨E0B K h.C h.rt,?_⟩;have d:∀(row:List Int) (ms:List J2),(∀y∈row,y=-2\/y=-1\/(0<=y/\y<(R:Int)))->∀y∈Z9 (-1) (-2) row ms,y=-2\/y=-1\/(0<=y/\y<(R:Int)):=by
  intro row ms g y c;obtain⟨m,m1,m2⟩:=r0Y c;rw[e0V]at m1;rcases q0e (-1) (-2) m ms row with q|q|q
  ·rw[q]at m2;rw[<-m2];exact g _ (b8 m1)
  ·rw[q]at m2;exact .inr (.inl m2.symm)
  ·rw[q]at m2;exact .inl m2.symm
 unfold a06;rcases j07 (fD:=k.fD) (E7 e k.pl k.pl.length) (n:=k.pl.length) (fun i h=>j0P h)with hb|⟨q,hb,hq⟩
 ·rw[hb,if_pos O'];split
  ·refine⟨.inr (by rw[e0V,q0p]),d _ _ fun y c=>?_⟩;unfold b0I at c;rcases List.mem_or_eq_of_mem_set c with h|h
   ·exact .inl (List.eq_of_mem_replicate h)
   ·exact .inr (.inl h)
  ·exact⟨.inl rfl,fun v f=>by cases f⟩
 ·rw[hb,if_neg O'];have hm:=b8 (l:=k.maps) (i:=q) (by rw[h.C.len];exact hq);refine⟨.inr (by rw[e0V];exact h.C.row _ hm),d _ _ fun y c=>?_⟩;rcases h.en _ hm y c with h|h
  ·exact .inl h
  ·exact .inr (.inr h)
end
section
variable {F:Nat}{l:List C0}{n:Nat}{a:List B0}{b:Nat->List B0}{e:Nat->B0×Bool}{z:B0×Bool}
def P0l {h1 c:Nat->Bool}{Ws:List (List B0)}{k:Nat}(h:∀r,r<k->h1 r=c r):H6 h1 Ws k=H6 c Ws k:=by
 unfold H6;refine List.filter_congr fun r d=>?_;rw[h r (List.mem_range.1 d)]
def Q0d {x y:Int}(h:∀r,r<n->s7 l x r=s7 l y r)(k:Kd):k.step l n a b x=k.step l n a b y:=by
 have:∀E0,Z3 l n a b k.pl x E0=Z3 l n a b k.pl y E0:=fun E0=>P0l h;unfold Kd.step;rw[this]
def P0z {x y:Int}(h:∀r,r<n->s7 l x r=s7 l y r)(mode:Int)(k:Kd):k.next l n a b e mode x=k.next l n a b e mode y/\k.src l n a b e mode x=k.src l n a b e mode y:=by
 unfold Kd.next Kd.src;rw[Q0d h];exact⟨rfl,rfl⟩
end
def a0p (p:Nat->Bool)(m i:Nat):List Bool:=(List.range m).map fun x=>if x<i then p x else false
theorem K0D (p:Nat->Bool)(m i:Nat):(a0p p m i).length=m:=by simp[a0p]
theorem P01 (p:Nat->Bool){m i:Nat}:(a0p p m i).set i (p i)=a0p p m (i+1):=by
 refine ext_getElem (by simp[a0p]) fun j h1 c=>?_;simp only[a0p,List.getElem_set,List.getElem_map,List.getElem_range]
 grind
def O0D (p:Nat->Bool)(m:Nat):List.replicate m false=a0p p m 0:=by
 refine ext_getElem (by simp[a0p]) fun j h1 c=>?_;simp[a0p]
def M0h (p:Nat->Bool){m i:Nat}(h:i<m):gt (a0p p m m) (i:Int)=p i:=by
 simp_all[X2,a0p]
section
variable {F:Nat}{l:List C0}{n:Nat}{a:List B0}{b:Nat->List B0}{e:Nat->B0×Bool}{z:B0×Bool}{pl:List Nat}{maps:List (List Int)}{fB fD:Nat->Nat->Int}{flag:Int}
theorem M07 (K:U3 l n a b e z F):D0n F l=some (b0I l):=by
 have f1:=K.f1;have d:=a07 l;obtain⟨t,c⟩:∃t:Nat,C4 l=t:=⟨(C4 l).toNat,O'⟩
 unfold D0n b0I;rw[M0b K.hR K.hl O' K.f2,c];simp only[G0,Q0r (F:=F) (n:=t) (x:=-2) O' O',Int.toNat_natCast];rw[if_pos (V0 O' (by grind))];rfl
theorem M0l (K:U3 l n a b e z F)(C:R3 l n pl maps fB fD):q0v F l (z8 flag pl maps fB fD)=some (D8 fD (E7 e pl pl.length)):=by
 have f1:=K.f1;have hm:=C.le;have hn:=K.T.n64;unfold q0v;have:=H3 (step:=J0J F l (z8 flag pl maps fB fD)) (fun i=>(D1 (E7 e pl i),(i:Int))) (D1 (E7 e pl pl.length)) pl.length (fun i hi=>.inl ?_) ?_ pl.length 0 F O' O'
 ·have d:iter (J0J F l (z8 flag pl maps fB fD)) F ([],0)=_:=this;rw[d];simp only[G0,z8];rw[O0U O' O' C.rk _ (by grind [w0M]) (fun i h=>j0P h)];rfl
 ·unfold J0J;have h1:(i:Int)<((D1 pl).length:Int):=by simp;omega
  have hp:=P8 C.pln hi;have c:K0 8 (D1 (E7 e pl i)) [(i:Int)]=true:=by have:=w0M e pl i;simp[K0];omega
  simp only[q0,z8,h1,q9 hi,a0T hi,K.TF.rE _ hp,c,X1 (i:=i) O',F0K]
  by_cases d:(e (pl.getD i 0)).2=true
  ·simp_all[g0m]
  simp_all
 simp[J0J,z8]
theorem kst {fB fD:Nat->Nat->Int}{q:Nat}{β:Type}(g:Nat->β)(k:Nat):(a0d fB fD q (k+1)).map g=if j0e fB fD q k=true then(a0d fB fD q k).map g++[g k]else(a0d fB fD q k).map g:=by
 rw[F0A]
 grind
theorem N0d (C:R3 l n pl maps fB fD)(hm:pl.length<=1000)(v:2000<F)(q:Nat)(fl:Int):
  K01 F (z8 fl pl maps fB fD) (a0p (j0e fB fD q) pl.length pl.length)=some ((Kd.of ⟨fl,pl,maps,fB,fD⟩ fl (a0d fB fD q pl.length)).K):=by
 have r:=C.len;have inner:∀i,i<pl.length->iter (J04 F (z8 fl pl maps fB fD) (a0p (j0e fB fD q) pl.length pl.length) (i:Int)) F ([],[],0)=some ((a0d fB fD q pl.length).map (fB i),(a0d fB fD q pl.length).map (fD i)):=fun i hi=>by
  have:=H3 (step:=J04 F (z8 fl pl maps fB fD) (a0p (j0e fB fD q) pl.length pl.length) (i:Int)) (fun k=>((a0d fB fD q k).map (fB i),(a0d fB fD q k).map (fD i),(k:Int))) ((a0d fB fD q pl.length).map (fB i),(a0d fB fD q pl.length).map (fD i)) pl.length (fun k hk=>.inl ?_) ?_ pl.length 0 F O' O'
  ·exact this
  ·unfold J04;have h1:(k:Int)<((D1 pl).length:Int):=by simp;omega
   have c:y0 (a0p (j0e fB fD q) pl.length pl.length) (k:Int)=true:=V0 O' (by grind [K0D]);have hl:=r0i fB fD q k;have o:K0 8 ((a0d fB fD q k).map (fB i)) [fB i k]=true:=by grind [K0]
   have p:K0 8 ((a0d fB fD q k).map (fD i)) [fD i k]=true:=by grind [K0]
   simp only[z8,U2,h1,decide_true,if_true,c,M0h _ hk,H9 _ hi,R8 _ hi,a0k _ hk,b0y _ hk,o,p,kst,X1 (i:=k) O']
   grind
  simp[J04,z8]
 unfold K01;have:=H3 (step:=K0b F (z8 fl pl maps fB fD) (a0p (j0e fB fD q) pl.length pl.length)) (fun i=>((i:Int),(fl,(a0d fB fD q i).map (fun j=>((pl.getD j 0:Nat):Int)),(a0d fB fD q i).map (fun j:Nat=>gt maps (j:Int)),((a0d fB fD q i).map (fun j=>(a0d fB fD q pl.length).map (fB j)),(a0d fB fD q i).map (fun j=>(a0d fB fD q pl.length).map (fD j))))))
  (fl,(a0d fB fD q pl.length).map (fun j=>((pl.getD j 0:Nat):Int)),(a0d fB fD q pl.length).map (fun j:Nat=>gt maps (j:Int)),((a0d fB fD q pl.length).map (fun j=>(a0d fB fD q pl.length).map (fB j)),(a0d fB fD q pl.length).map (fun j=>(a0d fB fD q pl.length).map (fD j)))) pl.length (fun i hi=>.inl ?_) ?_ pl.length 0 F O' O'
 ·have t:iter (K0b F (z8 fl pl maps fB fD) (a0p (j0e fB fD q) pl.length pl.length)) F (0,((z8 fl pl maps fB fD).Flag,[],[],([],[])))=_:=this;have em:∀(st:List Nat) (f:Nat->Nat->Int),(st.map fun j=>st.map (f j))=U1 st.length st.length (fun i k=>f (st.getD i 0) (st.getD k 0)):=fun st f=>by
   refine ext_getElem X' fun j h1 t=>?_;simp only[U1,List.getElem_map,List.getElem_range];refine ext_getElem X' fun k w u=>?_
   grind [V2]
  simp_all[Kd.of,Kd.K,z8,U2,D1]
 ·unfold K0b;have h1:(i:Int)<((D1 pl).length:Int):=by simp;omega
  have c:y0 (a0p (j0e fB fD q) pl.length pl.length) (i:Int)=true:=V0 O' (by grind [K0D]);have s:=r0i fB fD q i;have hk:=inner i hi;have h:K0 8 ((a0d fB fD q i).map (fun j=>((pl.getD j 0:Nat):Int))) [((pl.getD i 0:Nat):Int)]=true:=by grind [K0]
  have m:K0 24 ((a0d fB fD q i).map (fun j:Nat=>gt maps (j:Int))) [gt maps (i:Int)]=true:=by grind [K0]
  have d:K0 24 ((a0d fB fD q i).map (fun j=>(a0d fB fD q pl.length).map (fB j))) [(a0d fB fD q pl.length).map (fB i)]=true:=by simp[K0];omega
  have g:K0 24 ((a0d fB fD q i).map (fun j=>(a0d fB fD q pl.length).map (fD j))) [(a0d fB fD q pl.length).map (fD i)]=true:=by simp[K0];omega
  simp only[hk,kst];simp only[q0,z8,h1,c,M0h _ hi,V0 (l:=maps) (i:=(i:Int)) O' O',q9 hi,a0T hi,h,m,d,g,X1 (i:=i) O']
  grind
 simp[K0b,z8]
theorem Q0q (K:U3 l n a b e z F){k:Kd}(C:R3 l n k.pl k.maps k.fB k.fD):K0J F l k.K=some (k.cut e).K:=by
 have f1:=K.f1;have hm:=C.le;have hn:=K.T.n64;unfold K0J Kd.K;rw[M0l K C];simp only[G0];unfold Kd.cut;rcases j07 (fD:=k.fD) (E7 e k.pl k.pl.length) (n:=k.pl.length) (fun i h=>j0P h)with hb|⟨q,hb,hq⟩
 ·simp_all
 ·have g:¬((q:Int)<0):=O'
  rw[hb];simp only[q0,g,Int.toNat_natCast];have mk:R2 1 ((z8 k.flag k.pl k.maps k.fB k.fD).Places.length:Int)=true:=by simp[R2,z8];omega
  have c:iter (J0I F (z8 k.flag k.pl k.maps k.fB k.fD) (q:Int)) F (0,a0p (j0e k.fB k.fD q) k.pl.length 0)=some (a0p (j0e k.fB k.fD q) k.pl.length k.pl.length):=by
   have:=H3 (step:=J0I F (z8 k.flag k.pl k.maps k.fB k.fD) (q:Int)) (fun i=>((i:Int),a0p (j0e k.fB k.fD q) k.pl.length i)) (a0p (j0e k.fB k.fD q) k.pl.length k.pl.length) k.pl.length (fun i hi=>.inl ?_) ?_ k.pl.length 0 F O' O'
   ·omega
   ·unfold J0I;have h1:(i:Int)<((a0p (j0e k.fB k.fD q) k.pl.length i).length:Int):=by grind [K0D]
    have f:y0 (a0p (j0e k.fB k.fD q) k.pl.length i) (i:Int)=true:=V0 O' h1;have heq:((i:Int)==(q:Int))=(i==q):=by grind
    have hs:=P01 (j0e k.fB k.fD q) (m:=k.pl.length) (i:=i);simp only[h1,decide_true,if_true,z8,U2,H9 _ hi,H9 _ hq,R8 _ hi,R8 _ hq,a0k _ hi,a0k _ hq,b0y _ hi,b0y _ hq,heq,f,Int.toNat_natCast,X1 (i:=i) O',<-hs];unfold j0e
    grind
   simp[J0I,K0D]
  have d:List.replicate (z8 k.flag k.pl k.maps k.fB k.fD).Places.length false=a0p (j0e k.fB k.fD q) k.pl.length 0:=by
   rw[<-O0D];simp[z8]
  rw[if_pos mk,d,c];simp only[G0];have:=N0d (F:=F) C O' O' q 0;simp only[z8]at this ⊢;rw[this];rfl
theorem P0g {s y2:List Int}{t:Nat}(h:t<y2.length)(hs:s.Nodup)(hl:s.length<=1000000)(g:1000001<F):
  iter (K0i F s (t:Int) y2) F (-1,0)=some (if gt y2 (t:Int)∈s then(s.idxOf (gt y2 (t:Int)):Int)else -1):=by
 have c:y0 y2 (t:Int)=true:=V0 O' O';have:=H3 (step:=K0i F s (t:Int) y2) (fun i=>(if gt y2 (t:Int)∈s.take i then(s.idxOf (gt y2 (t:Int)):Int)else -1,(i:Int))) (if gt y2 (t:Int)∈s then(s.idxOf (gt y2 (t:Int)):Int)else -1) s.length (fun i hi=>.inl ?_) ?_ s.length 0 F O' O'
 ·simp_all
 ·have h1:(i:Int)<(s.length:Int):=O'
  have f:y0 s (i:Int)=true:=V0 O' h1;have hg:s[i]?=some (gt s (i:Int)):=P4 hi;have d:s.take (i+1)=s.take i++[gt s (i:Int)]:=by grind [take_succ]
  unfold K0i;simp only[h1,decide_true,if_true,f,c,X1 (i:=i) O',d,List.mem_append,List.mem_singleton]
  grind
 simp[K0i]
theorem N05 {src t:List Int}(hs:src.Nodup){row:List Int}(I:Z2 src row <+: t)(hlen:t.length<=1000000)(J:row.length<=1000)(U:2000001<F)(y:List (List Int)):
  iter (J0w F) F (src,0,y,row)=some (Z2 src row,y,row.map (O3 t)):=by
 have:=H3 (step:=J0w F) (fun j=>(Z2 src (row.take j),(j:Int),y,(row.take j).map (O3 t)++row.drop j)) (Z2 src row,y,row.map (O3 t)) row.length (fun j C=>.inl ?_) ?_ row.length 0 F O' O'
 ·exact this
 ·have R:((row.take j).map (O3 t)++row.drop j).length=row.length:=by grind
  have x:(j:Int)<(((row.take j).map (O3 t)++row.drop j).length:Int):=O'
  have u:y0 ((row.take j).map (O3 t)++row.drop j) (j:Int)=true:=V0 O' O';have d:gt ((row.take j).map (O3 t)++row.drop j) (j:Int)=gt row (j:Int):=by
   refine X2 ?_
   grind [P4]
  have r:=i0Q (s:=src) C;have hp:M6 (Z2 src (row.take j)) (gt row (j:Int)) <+: t:=by
   grind [h0F,List.take_append_drop,k0W]
  have c:=E0H (f:=O3 t) C;have h:=hp.length_le;have w:=L06 (row.take j) src hs;have g:(Z2 src (row.take j)).length<=1000000:=by
   grind [v04]
  have q:=P0g (F:=F) (s:=Z2 src (row.take j)) (y2:=(row.take j).map (O3 t)++row.drop j) (t:=j) O' w g O';unfold J0w;simp only[q0,x,u,d,r,X1 (i:=j) O',q];generalize Z2 src (row.take j)=s at *;generalize gt row (j:Int)=v at *;rcases m0b hp with⟨h1,o,k⟩|⟨h1,o,k,h4,h5⟩|⟨h1,o,k,h4⟩
  ·have m:(v==-2)=true:=by simp_all
   have:((row.take j).map (O3 t)++row.drop j).set j (-2)=(row.take j).map (O3 t)++row.drop j:=by
    refine List.ext_getElem? fun i=>?_
    by_cases e:j=i
    ·subst e;rw[List.getElem?_set_self O',P4 O',d,h1]
    ·rw[List.getElem?_set_ne e]
   simp_all
  ·have m:(v==-2)=false:=by simpa using h1
   have hn:¬((s.idxOf v:Nat):Int)<0:=O'
   rw[k];rw[h4]at c;simp only[q0,m,o,hn,Int.toNat_natCast,c]
  ·have m:(v==-2)=false:=by simpa using h1
   rw[k]at h ⊢;simp only[length_append,length_cons,length_nil]at h;have p:K0 8 s [v]=true:=by simp[K0];omega
   rw[h4]at c;simp only[q0,m,o,show((-1:Int)<0)=True from X',p,Int.toNat_natCast,c]
 simp[J0w]
theorem P0j {k:F1}(m:∀r∈k.Maps,r.length<=1000)(hm:k.Maps.length<=1000)(q:2000001<F):
  J0Y F k=some (⟨k.Flag,k.Places,X5 k.Maps,k.Rank⟩,M4 k.Maps):=by
 have p:=j0f k.Maps 1000 m;have c:(M4 k.Maps).length<=1000000:=by
  grind [l0c,M4]
 unfold J0Y;have:=H3 (step:=J02 F k) (fun i=>(Z2 [] (k.Maps.take i).flatten,(k.Maps.take i).map (fun r=>r.map (O3 (M4 k.Maps))),(i:Int))) (M4 k.Maps,X5 k.Maps) k.Maps.length (fun i hi=>.inl ?_) ?_ k.Maps.length 0 F O' O'
 ·have u:iter (J02 F k) F ([],[],0)=some (M4 k.Maps,X5 k.Maps):=this
  simp_all
 ·have h1:(i:Int)<(k.Maps.length:Int):=O'
  have j:y0 k.Maps (i:Int)=true:=V0 O' h1;have h:=m _ (List.mem_of_getElem? (P4 hi));have g:K0 8 ([]:List Int) (gt k.Maps (i:Int))=true:=by grind [K0]
  have d:=N05 (F:=F) (src:=Z2 [] (k.Maps.take i).flatten) (t:=M4 k.Maps) (L06 _ _ List.nodup_nil) (row:=gt k.Maps (i:Int)) (by simp_all[h0A,w0R]) c h q ((k.Maps.take i).map (fun r=>r.map (O3 (M4 k.Maps))));have f:K0 24 ((k.Maps.take i).map (fun r=>r.map (O3 (M4 k.Maps)))) [(gt k.Maps (i:Int)).map (O3 (M4 k.Maps))]=true:=by grind [K0]
  have s:k.Maps.take (i+1)=k.Maps.take i++[gt k.Maps (i:Int)]:=by grind [take_succ,P4]
  have o:=h0A hi;unfold J02;simp only[q0,h1,j,g,List.nil_append,d,f,X1 (i:=i) O']
  simp_all
 ·have h1:¬(k.Maps.length:Int)<(k.Maps.length:Int):=O'
  unfold J02;simp only[q0,h1,take_length];rfl
end
theorem N0j {F:Nat}{k:F1}{src t:List Int}{x:Nat}{row:List Int}(u:y0 k.Maps (x:Int)=true)(g:gt k.Maps (x:Int)=row.map (O3 t))(C:Z2 src row <+: t)(hlen:t.length<=1000000)(I:row.length<=1000)(U:2000<F):
  iter (J06 F k (x:Int)) F ((src.length:Int),0)=some (.inr ((Z2 src row).length:Int))/\iter (K0c F k (x:Int)) F ((src.length:Int),0)=some ((Z2 src row).length:Int):=by
 have hp:∀j,j<row.length->M6 (Z2 src (row.take j)) (gt row (j:Int)) <+: t:=fun j m=>by
  rw[<-i0Q m]
  grind [h0F,List.take_append_drop,k0W]
 have J:(row.map (O3 t)).length=row.length:=X'
 have r:∀j,j<row.length->gt (row.map (O3 t)) (j:Int)=O3 t (gt row (j:Int)):=fun j m=>X2 (by grind [P4]);refine⟨?_,?_⟩
 ·have:=H3 (step:=J06 F k (x:Int)) (fun j=>(((Z2 src (row.take j)).length:Int),(j:Int))) (.inr ((Z2 src row).length:Int)) row.length (fun j m=>.inl ?_) ?_ row.length 0 F O' O'
  ·exact this
  ·have c:(j:Int)<((row.map (O3 t)).length:Int):=O'
   have p:y0 (row.map (O3 t)) (j:Int)=true:=V0 O' c;have f:=hp j m;have d:=f.length_le;unfold J06;simp only[u,g,c,decide_true,if_true,p,r j m,i0Q (s:=src) m,X1 (i:=j) O'];generalize Z2 src (row.take j)=s at *;generalize gt row (j:Int)=v at *;rcases m0b f with⟨h1,q,h⟩|⟨h1,q,h,h4,h5⟩|⟨h1,q,h,h4⟩
   ·simp_all
   ·have o:(((s.idxOf v:Nat):Int)==-2)=false:=by rfl
    have y:¬((s.idxOf v:Nat):Int)<0:=O'
    have w:¬((s.idxOf v:Nat):Int)>(s.length:Int):=O'
    have R:(((s.idxOf v:Nat):Int)==(s.length:Int))=false:=by grind
    grind
   ·have o:(((s.length:Nat):Int)==-2)=false:=by rw[beq_eq_false_iff_ne];omega
    have y:¬((s.length:Nat):Int)<0:=O'
    have w:¬((s.length:Nat):Int)>(s.length:Int):=O'
    rw[h]at d;simp only[length_append,length_cons,length_nil]at d;rw[h4,h];simp only[q0,o,y,w,beq_self_eq_true,X1 (i:=s.length) O',length_append,length_cons,length_nil]
  simp_all[J06]
 ·have:=H3 (step:=K0c F k (x:Int)) (fun j=>(((Z2 src (row.take j)).length:Int),(j:Int))) ((Z2 src row).length:Int) row.length (fun j m=>.inl ?_) ?_ row.length 0 F O' O'
  ·exact this
  ·have c:(j:Int)<((row.map (O3 t)).length:Int):=O'
   have p:y0 (row.map (O3 t)) (j:Int)=true:=V0 O' c;have f:=hp j m;have d:=f.length_le;unfold K0c;simp only[u,g,c,decide_true,if_true,p,r j m,i0Q (s:=src) m,X1 (i:=j) O'];generalize Z2 src (row.take j)=s at *;generalize gt row (j:Int)=v at *;rcases m0b f with⟨h1,q,h⟩|⟨h1,q,h,h4,h5⟩|⟨h1,q,h,h4⟩
   ·have o:¬((-2:Int)>=(s.length:Int)):=O'
    rw[q,h];simp only[q0,o]
   ·have o:¬(((s.idxOf v:Nat):Int)>=(s.length:Int)):=O'
    rw[h4,h];simp only[q0,o]
   ·rw[h]at d;simp only[length_append,length_cons,length_nil]at d;have o:(((s.length:Nat):Int)>=(s.length:Int)):=O'
    rw[h4,h];simp only[q0,o,X1 (i:=s.length) O',length_append,length_cons,length_nil]
  ·have c:¬(row.length:Int)<((row.map (O3 t)).length:Int):=O'
   unfold K0c;simp only[q0,u,g,c,take_length]
section
variable {F:Nat}{l:List C0}{n:Nat}{a:List B0}{b:Nat->List B0}{e:Nat->B0×Bool}{z:B0×Bool}
theorem M0w (K:U3 l n a b e z F){k:Kd}(C:R3 l n k.pl k.maps k.fB k.fD)(h0:0<=k.flag)(h2:k.flag<=2):i0i F l k.num.K=some true/\J0r F k.num.K=some ((M4 k.maps).length:Int):=by
 have f1:=K.f1;have hm:=C.le;have hn:=K.T.n64;have v:=C.len;have ht:=a07 l;have R:=K9 l l.length;have a1:=K.hn;have b1:=j0f k.maps 19 (fun r h=>by have:=C.row r h;omega);have m:(M4 k.maps).length<=1000000:=by
  grind [l0c,M4]
 have y:(X5 k.maps).length=k.maps.length:=by simp[X5]
 have f:∀i,i<k.maps.length->gt (X5 k.maps) (i:Int)=(gt k.maps (i:Int)).map (O3 (M4 k.maps)):=fun i hi=>X2 (by grind [X5,P4]);have o:∀i,i<k.maps.length->y0 k.num.K.Maps (i:Int)=true:=fun i hi=>V0 O' (by show(i:Int)<((X5 k.maps).length:Int);omega);have d:∀i,i<k.maps.length->_:=fun i hi=>N0j (F:=F) (k:=k.num.K) (src:=Z2 [] (k.maps.take i).flatten) (t:=M4 k.maps) (x:=i) (o i hi) (f i hi) (by simp_all[h0A,w0R]) m (by have:=C.row _ (List.mem_of_getElem? (P4 hi));omega) O';have g:Z2 [] (k.maps.take k.maps.length).flatten=M4 k.maps:=by rw[take_length];rfl
 have s:k.num.K.Maps=X5 k.maps:=rfl;have u:k.num.K.Places=D1 k.pl:=rfl;constructor
 ·unfold i0i;have:=H3 (step:=J07 F l k.num.K) (fun i=>(((Z2 [] (k.maps.take i).flatten).length:Int),(i:Int))) (.inr ()) k.maps.length (fun i hi=>.inl ?_) ?_ k.maps.length 0 F O' O'
  ·have q:iter (J07 F l k.num.K) F (0,0)=some (.inr ()):=this;have c1:¬k.num.K.Flag<0:=by show ¬k.flag<0;omega
   have c2:¬k.num.K.Flag>2:=by show ¬k.flag>2;omega
   have c3:((k.num.K.Maps.length:Int) != (k.num.K.Places.length:Int))=false:=by simp_all
   have c4:g0e F k.num.K.Rank (k.num.K.Places.length:Int)=some true:=by
    rw[u,e0b];exact j0J (show k.pl.length<=1000 from O') (show 2000<F from O') C.rk
   simp only[q0,K.TF.rR,c1,c2,c3,c4,q]
  ·have c:i<k.pl.length:=O'
   have h1:(i:Int)<((D1 k.pl).length:Int):=by simp;omega
   have hp:=P8 C.pln c;have h3:¬((k.pl.getD i 0:Nat):Int)<0:=O'
   have I:¬((k.pl.getD i 0:Nat):Int)>=((G2 l l.length).length:Int):=O'
   have hl:=C.row _ (List.mem_of_getElem? (P4 hi));have p:(((gt (X5 k.maps) (i:Int)).length:Int) != C4 l)=false:=by rw[f i hi];simp[hl];omega
   have h5:(if decide ((i:Int)>0)then(if y0 (D1 k.pl) (W ((i:Int)-1))then some (decide (((k.pl.getD i 0:Nat):Int)<=gt (D1 k.pl) (W ((i:Int)-1))))else none)else some false)=some false:=by
    cases i with
    |zero=>rfl
    |succ j=>
     have hW:W (((j+1:Nat):Int)-1)=(j:Int):=by rw[E3 O' O'];omega
     have w:=o0q C.asc c (Nat.lt_succ_self j);have U:¬((k.pl.getD (j+1) 0:Nat):Int)<=((k.pl.getD j 0:Nat):Int):=O'
     have J:(((j+1:Nat):Int)>0):=O'
     rw[hW,q9 (show j<k.pl.length from O'),a0T (show j<k.pl.length from O')];simp only[q0,J,U]
   unfold J07;simp only[q0,u,s,h1,q9 c,a0T c,h3,K.TF.rL,I,h5,show y0 (X5 k.maps) (i:Int)=true from o i hi,M0b K.hR K.hl (show 401<F from O') K.f2,p,(d i hi).1,h0A hi,X1 (i:=i) O']
  simp_all[J07]
 ·unfold J0r;have:=H3 (step:=J0s F k.num.K) (fun i=>(((Z2 [] (k.maps.take i).flatten).length:Int),(i:Int))) ((M4 k.maps).length:Int) k.maps.length (fun i hi=>.inl ?_) ?_ k.maps.length 0 F O' O'
  ·have q:iter (J0s F k.num.K) F (0,0)=some ((M4 k.maps).length:Int):=this;rw[q];rfl
  ·have h1:(i:Int)<((X5 k.maps).length:Int):=O'
   unfold J0s;simp only[q0,s,h1,(d i hi).2,h0A hi,X1 (i:=i) O']
  ·have h1:¬(k.maps.length:Int)<((X5 k.maps).length:Int):=O'
   unfold J0s;simp only[q0,s,h1,g]
def N0T (K:U3 l n a b e z F)(hw:∀x∈l,P2 x){mode:Int}(hm:mode=0\/mode=1):f0X F l mode=some ((Kd.zero z mode).K,0):=by
 obtain⟨can,h1,f,d⟩:=E0U K hw;have c:a0U F l=some can:=by
  have f1:=K.f1;have c1:=(Old.n0E hw (show 401<F from O'))
  rw[h1]at c1;rw[Option.some.inj c1];exact(Old.t0D hw K.hl (show 401<F from O') K.f2)
 unfold f0X;rw[K.TF.rR];rcases hm with rfl|rfl
 ·simp only[q0,show((0:Int) != 0)=false from rfl,show((0:Int)==1)=false from rfl,c,f,d];unfold Kd.zero Kd.K;cases z.2<;>rfl
 ·rfl
theorem O09 {ws:List B0}(hl:ws.length<=1000000)(w:2000001<F)(r:Nat):K06 F ws (r:Int)=some (c02 ws r,(F8 ws r).isSome):=by
 unfold K06;have key:∀k i,i+k=ws.length->(∀j y,j<i->ws[j]?=some y->(y.To==(r:Int))=false)->∀m,k<m->
   iter (q0t F ws (r:Int)) m (i:Int)=some (match F8 ws r with|some y=>.inl y|none=>.inr ()):=by
  intro k
  induction k with
  |zero=>
   intro i hi g m hm;obtain⟨m,rfl⟩:∃q,m=q+1:=⟨m-1,O'⟩
   have d:F8 ws r=none:=by
    unfold F8;rw[List.find?_eq_none];intro x t;obtain⟨j,u,he⟩:=List.mem_iff_getElem.1 t;have:=g j x O' (by simp_all)
    grind
   simp_all[u0x,q0t]
  |succ k ih=>
   intro i hi g m hm;obtain⟨m,rfl⟩:∃q,m=q+1:=⟨m-1,O'⟩
   have f:i<ws.length:=O'
   have h1:(i:Int)<(ws.length:Int):=O'
   have h:y0 ws (i:Int)=true:=V0 O' h1;cases p:((gt ws (i:Int)).To==(r:Int))with
   |true=>
    have o:F8 ws r=some (gt ws (i:Int)):=M0G ws i _ (P4 f) p g
    simp_all[u0x,q0t]
   |false=>
    have hn:=ih (i+1) O' (fun j y s v=>by
     rcases Nat.lt_or_ge j i with c|c
     ·grind
     ·grind [P4]) m O'
    rw[<-hn];refine n0D ?_;unfold q0t;simp only[q0,h1,h,p,X1 (i:=i) O']
 have C:iter (q0t F ws (r:Int)) F 0=_:=key ws.length 0 O' O' F O'
 grind [c02]
theorem O0j (hw:∀x∈l,P2 x)(hn:n=N0 l l.length){Ws:List (List B0)}(u:∀i,i<Ws.length->(Ws.getD i []).length<=500000)(w:Ws.length<=1000)(m:2000001<F){b_:Int}(k:L5 .u8 b_){r:Nat}(f:r<n)(y2:List Int)(c:List B0):
  iter (j02 F l b_ Ws (G2 l l.length) (r:Int)) F ([],[],0,y2,c)=some (if s7 l b_ r then D1 (T3 Ws r Ws.length)else[],if s7 l b_ r then l7 Ws r Ws.length else[],y2,c):=by
 obtain⟨q,v,s,o⟩:=l0e l hn (x:=(r:Int)) O' O';obtain⟨_,_,p⟩:=setOf l hn hw f;have hH:hasB (gt l (gt (G2 l l.length) (r:Int))).Set b_=s7 l b_ r:=rfl;have:=H3 (step:=j02 F l b_ Ws (G2 l l.length) (r:Int)) (fun i=>(if s7 l b_ r then D1 (T3 Ws r i)else[],if s7 l b_ r then l7 Ws r i else[],(i:Int),y2,c)) (if s7 l b_ r then D1 (T3 Ws r Ws.length)else[],if s7 l b_ r then l7 Ws r Ws.length else[],y2,c) Ws.length (fun i hi=>.inl ?_) ?_ Ws.length 0 F O' O'
 ·simp_all[D1,T3,l7]
 ·have h1:(i:Int)<(Ws.length:Int):=O'
  have hg:gt Ws (i:Int)=Ws.getD i []:=by
   rfl
  have j:=s0Q Ws r i;have g:=s06 Ws r i;have d:K0 8 (D1 (T3 Ws r i)) [(i:Int)]=true:=by simp[K0];omega
  have h:K0 40 (l7 Ws r i) [c02 (Ws.getD i []) r]=true:=by grind [K0]
  unfold j02;simp only[h1,decide_true,if_true,V0 (l:=Ws) (i:=(i:Int)) O' h1,hg,O09 (show(Ws.getD i []).length<=1000000 by grind) m,G0,t04,y0S,X1 (i:=i) O',o,V0 (l:=l) (i:=gt (G2 l l.length) (r:Int)) O' O',(t0N F p k).2,hH];cases y:(F8 (Ws.getD i []) r).isSome with
  |false=>simp
  |true=>
   cases t:s7 l b_ r with
   |false=>rfl
   |true=>simp_all[g0m]
 simp[j02]
end
section
variable {F:Nat}{l:List C0}{n:Nat}{a:List B0}{b:Nat->List B0}{e:Nat->B0×Bool}{z:B0×Bool}{pl:List Nat}{maps:List (List Int)}{fB fD:Nat->Nat->Int}
set_option maxHeartbeats 2000000 in
theorem Q0j (K:U3 l n a b e z F)(C:R3 l n pl maps fB fD)(hw:∀x∈l,P2 x){b_:Int}(hb:L5 .u8 b_)(E0:Bool){fl:Int}{rk:D2}{r:Nat}(hr:r<n):
  o0s F l b_ (a0F l maps E0) (Z1 a b pl E0) (U2 (C5 pl E0) (F5 pl E0 fB) (a6 pl E0 fD)) (G2 l l.length)
   (D1 ((H6 (s7 l b_) (Z1 a b pl E0) r).map (T5 a b pl fB fD E0)),(H6 (s7 l b_) (Z1 a b pl E0) r).map (V5 a b pl fB fD E0),(r:Int),(fl,D1 (H6 (s7 l b_) (Z1 a b pl E0) r),(H6 (s7 l b_) (Z1 a b pl E0) r).map (stM l a b pl maps fB fD E0),rk)) =
  some (.next (D1 ((H6 (s7 l b_) (Z1 a b pl E0) (r+1)).map (T5 a b pl fB fD E0)),(H6 (s7 l b_) (Z1 a b pl E0) (r+1)).map (V5 a b pl fB fD E0),((r+1:Nat):Int),(fl,D1 (H6 (s7 l b_) (Z1 a b pl E0) (r+1)),(H6 (s7 l b_) (Z1 a b pl E0) (r+1)).map (stM l a b pl maps fB fD E0),rk))):=by
 have f1:=K.f1;have f3:=K.f3;have hn:=K.T.n64;have hM:=t0H K C E0;have s:=d0B a b pl E0;obtain⟨b4,y⟩:=A0d K C E0 r;have u:=s06 (Z1 a b pl E0) r (Z1 a b pl E0).length;have a1:=w0W (s7 l b_) (Z1 a b pl E0) r;have ht:=a07 l;have b2:=K9 l l.length;have b3:=K.hn;have hx:(r:Int)<((G2 l l.length).length:Int):=O'
 have g:=l0W C E0;have o:∀y2 R,iter (j02 F l b_ (Z1 a b pl E0) (G2 l l.length) (r:Int)) F ([],[],0,y2,R)=_:=fun y2 R=>O0j (F:=F) hw K.hn (fun i hi=>(l0d K C E0 i hi).2.1) O' f1 hb hr y2 R;unfold o0s;simp only[q0,hx,A0A,X1 (i:=r) O',o];cases hP:s7 l b_ r with
 |false=>
  have c:u0a F (U2 (C5 pl E0) (F5 pl E0 fB) (a6 pl E0 fD)) [] []=some (-1):=by
   have:=M0P (F:=F) (n:=C5 pl E0) (fB:=F5 pl E0 fB) (fD:=a6 pl E0 fD) (fr:=[]) (hops:=[]) O' O' g rfl X' (fun i hi=>by cases hi);exact this
  grind
 |true=>
  simp only[if_true,Bool.true_and];have c:=M0P (F:=F) (n:=C5 pl E0) (fB:=F5 pl E0 fB) (fD:=a6 pl E0 fD) (fr:=T3 (Z1 a b pl E0) r (Z1 a b pl E0).length) (hops:=l7 (Z1 a b pl E0) r (Z1 a b pl E0).length) O' O' g u O' y
  by_cases d:T3 (Z1 a b pl E0) r (Z1 a b pl E0).length=[]
  ·have U:u0a F (U2 (C5 pl E0) (F5 pl E0 fB) (a6 pl E0 fD)) (D1 (T3 (Z1 a b pl E0) r (Z1 a b pl E0).length)) (l7 (Z1 a b pl E0) r (Z1 a b pl E0).length)=some (-1):=by
    grind [A0s]
   grind
  ·obtain⟨k1,k2⟩:=l0V (fB:=F5 pl E0 fB) (fD:=a6 pl E0 fD) d;have p:(T3 (Z1 a b pl E0) r (Z1 a b pl E0).length).isEmpty=false:=by simpa using d
   rw[k1]at c;have k3:¬((b0T (F5 pl E0 fB) (a6 pl E0 fD) (Z1 a b pl E0) r:Nat):Int)<0:=O'
   have w:T5 a b pl fB fD E0 r<C5 pl E0:=by rw[<-s];exact e0o d
   obtain⟨v1,v2⟩:=m07 (w0K C E0) (s0j C E0) w;obtain⟨p1,p2⟩:=H0f K C (b_:=b_) (E0:=E0) d;have h:(((T3 (Z1 a b pl E0) r (Z1 a b pl E0).length).getD (b0T (F5 pl E0 fB) (a6 pl E0 fD) (Z1 a b pl E0) r) 0:Nat):Int)=(T5 a b pl fB fD E0 r:Int):=rfl;have k:gt (l7 (Z1 a b pl E0) r (Z1 a b pl E0).length) ((b0T (F5 pl E0 fB) (a6 pl E0 fD) (Z1 a b pl E0) r:Nat):Int)=V5 a b pl fB fD E0 r:=H0C d;have j:y0 (l7 (Z1 a b pl E0) r (Z1 a b pl E0).length) ((b0T (F5 pl E0 fB) (a6 pl E0 fD) (Z1 a b pl E0) r:Nat):Int)=true:=V0 O' O';have m:K0 8 (D1 (H6 (s7 l b_) (Z1 a b pl E0) r)) [(r:Int)]=true:=by simp[K0];omega
   have t:K0 24 ((H6 (s7 l b_) (Z1 a b pl E0) r).map (stM l a b pl maps fB fD E0)) [stM l a b pl maps fB fD E0 r]=true:=by simp[K0];omega
   have J:K0 8 (D1 ((H6 (s7 l b_) (Z1 a b pl E0) r).map (T5 a b pl fB fD E0))) [(T5 a b pl fB fD E0 r:Int)]=true:=by simp[K0];omega
   have v:K0 40 ((H6 (s7 l b_) (Z1 a b pl E0) r).map (V5 a b pl fB fD E0)) [V5 a b pl fB fD E0 r]=true:=by simp[K0];omega
   have b1:=j0K l (V5 a b pl fB fD E0 r).Steps;have q:=L0r K.hR K.hl p1 K.f1 K.f2 (N2.sok p2);have f:=L0R (F:=F) (marks:=a7 l (V5 a b pl fB fD E0 r).Steps) (now:=-1) (none_:=-2) (show(gt (a0F l maps E0) (T5 a b pl fB fD E0 r:Int)).length<=1000 from O') O' O';have I:Z9 (-1) (-2) (gt (a0F l maps E0) (T5 a b pl fB fD E0 r:Int)) (a7 l (V5 a b pl fB fD E0 r).Steps)=stM l a b pl maps fB fD E0 r:=rfl;rw[I]at f;simp only[q0,c,k3,m,q9 k2,a0T k2,h,v2,j,k,q,f,t,J,v,p,g0m,map_append,map_cons,map_nil]
theorem O0L (K:U3 l n a b e z F)(hw:∀x∈l,P2 x){k:Kd}(C:R3 l n k.pl k.maps k.fB k.fD)(hR:i0i F l k.K=some true){mode:Int}(d:mode=0\/mode=1){b_:Int}(hb:L5 .u8 b_):
  J0N F l mode k.K b_=some (((k.step l n a b b_).K7 e mode).num.K,M4 ((k.step l n a b b_).K7 e mode).maps):=by
 have f3:=K.f3;have hm:=C.le;have hn:=K.T.n64;have hl:=K.hl;have ht:=a07 l;have a1:=C.len;have C1:=o0m K hw C b_;have C2:=t0R (e:=e) mode C1;have hM:=t0H K C (!(k.flag==0));have b1:=K9 l l.length;have b2:=K.hn;have kM:k.K.Maps=k.maps:=rfl;have kP:k.K.Places=D1 k.pl:=rfl;have kF:k.K.Flag=k.flag:=rfl;have kR:k.K.Rank=U2 k.pl.length k.fB k.fD:=rfl;have u:(if mode != 0 then some (mode != 1)else some false)=some false:=by
  grind
 have l6:=H3 (step:=J03 F l k.K) (fun i=>((k.pl.take i).map b,(i:Int))) (k.pl.map b) k.pl.length (fun i hi=>.inl ?_) ?_ k.pl.length 0 F O' O'
 ·have e6:iter (J03 F l k.K) F ([],0)=some (k.pl.map b):=l6;have m:(Option.bind (α:=((List (List Int))×(List (List B0))×D2)) (
    if k.flag != 0 then
     if K0 24 ([]:List (List Int)) k.maps then
      Option.bind (D0n F l) fun begun=>
      if K0 24 ([]++k.maps) [begun]then
       Option.bind (n0z F l (W ((l.length:Int)-1))) fun first=>
       if K0 24 (k.pl.map b) [first]then
        Option.bind (K0a F (U2 k.pl.length k.fB k.fD)) fun g=>
        some (([]++k.maps)++[begun],k.pl.map b++[first],g)
       else none
      else none
     else none
    else
     some (k.maps,k.pl.map b,U2 k.pl.length k.fB k.fD)) (fun r=>some r))=some (a0F l k.maps (!(k.flag==0)),Z1 a b k.pl (!(k.flag==0)),U2 (C5 k.pl (!(k.flag==0))) (F5 k.pl (!(k.flag==0)) k.fB) (a6 k.pl (!(k.flag==0)) k.fD)):=by
   unfold a0F Z1 C5 F5 a6;cases s:k.flag==0 with
   |true=>simp_all
   |false=>
    have I:K0 24 ([]:List (List Int)) k.maps=true:=by grind [K0]
    have p:K0 24 k.maps [b0I l]=true:=by grind [K0]
    have R:K0 24 (k.pl.map b) [a]=true:=by grind [K0]
    have hW:W ((l.length:Int)-1)=(l.length:Int)-1:=E3 O' O';simp only[q0,bne,s,M07 K,I,p,R,hW,K.TF.rA,P08 (show k.pl.length<=900 from O') (show 2000<F from O') C.rk,List.nil_append]
  rw[I8]at m;have J:(if k.flag==1 then some ((1,[],[],(⟨[],[]⟩:D2)):Int×List Int×List (List Int)×D2)else some (0,[],[],(⟨[],[]⟩:D2)))=some ((k.step l n a b b_).flag,[],[],(⟨[],[]⟩:D2)):=by
   grind [Kd.step]
  have f:=H3 (step:=o0s F l b_ (a0F l k.maps (!(k.flag==0))) (Z1 a b k.pl (!(k.flag==0))) (U2 (C5 k.pl (!(k.flag==0))) (F5 k.pl (!(k.flag==0)) k.fB) (a6 k.pl (!(k.flag==0)) k.fD)) (G2 l l.length))
   (fun r=>(D1 ((H6 (s7 l b_) (Z1 a b k.pl (!(k.flag==0))) r).map (T5 a b k.pl k.fB k.fD (!(k.flag==0)))),(H6 (s7 l b_) (Z1 a b k.pl (!(k.flag==0))) r).map (V5 a b k.pl k.fB k.fD (!(k.flag==0))),(r:Int),((k.step l n a b b_).flag,D1 (H6 (s7 l b_) (Z1 a b k.pl (!(k.flag==0))) r),(H6 (s7 l b_) (Z1 a b k.pl (!(k.flag==0))) r).map (stM l a b k.pl k.maps k.fB k.fD (!(k.flag==0))),(⟨[],[]⟩:D2))))
   (D1 ((Z3 l n a b k.pl b_ (!(k.flag==0))).map (T5 a b k.pl k.fB k.fD (!(k.flag==0)))),(Z3 l n a b k.pl b_ (!(k.flag==0))).map (V5 a b k.pl k.fB k.fD (!(k.flag==0))),((k.step l n a b b_).flag,D1 (Z3 l n a b k.pl b_ (!(k.flag==0))),(Z3 l n a b k.pl b_ (!(k.flag==0))).map (stM l a b k.pl k.maps k.fB k.fD (!(k.flag==0))),(⟨[],[]⟩:D2))) n
   (fun r y=>.inl (Q0j K C hw hb _ y)) ?_ n 0 F O' O'
  ·have h2:iter (o0s F l b_ (a0F l k.maps (!(k.flag==0))) (Z1 a b k.pl (!(k.flag==0))) (U2 (C5 k.pl (!(k.flag==0))) (F5 k.pl (!(k.flag==0)) k.fB) (a6 k.pl (!(k.flag==0)) k.fD)) (G2 l l.length)) F ([],[],0,((k.step l n a b b_).flag,[],[],(⟨[],[]⟩:D2)))=_:=f;have U:=P0W (F:=F) hw K.hR K.hn K.hl (show 2000<F from O') K.f2 K.TF.rL (show C5 k.pl (!(k.flag==0))<=1000 from O') (l0W C (!(k.flag==0))) (w0s K C b_ (!(k.flag==0)));have h:(⟨(k.step l n a b b_).flag,D1 (Z3 l n a b k.pl b_ (!(k.flag==0))),(Z3 l n a b k.pl b_ (!(k.flag==0))).map (stM l a b k.pl k.maps k.fB k.fD (!(k.flag==0))),U2 (Z3 l n a b k.pl b_ (!(k.flag==0))).length (u6 l (F5 k.pl (!(k.flag==0)) k.fB) ((Z3 l n a b k.pl b_ (!(k.flag==0))).map (T5 a b k.pl k.fB k.fD (!(k.flag==0)))) ((Z3 l n a b k.pl b_ (!(k.flag==0))).map (V5 a b k.pl k.fB k.fD (!(k.flag==0))))) (Q6 l (F5 k.pl (!(k.flag==0)) k.fB) (a6 k.pl (!(k.flag==0)) k.fD) ((Z3 l n a b k.pl b_ (!(k.flag==0))).map (T5 a b k.pl k.fB k.fD (!(k.flag==0)))) ((Z3 l n a b k.pl b_ (!(k.flag==0))).map (V5 a b k.pl k.fB k.fD (!(k.flag==0)))))⟩:F1)=(k.step l n a b b_).K:=rfl;have j:=Q0q K C1;have c:∀q:Kd,R3 l n q.pl q.maps q.fB q.fD->J0Y F q.K=some (q.num.K,M4 q.maps):=fun q v=>by
    rw[P0j (F:=F) (k:=q.K) (fun r y=>by have:=v.row r y;omega) (by have:=v.len;have:=v.le;show q.maps.length<=1000;omega) O'];rfl
   unfold J0N;rw[u];simp only[q0,hR,e6,kM,kF,kR,m,J,K.TF.rL,h2,U,List.length_map];rcases d with rfl|rfl
   ·have w:=c _ C2;simp only[beq_self_eq_true,if_true];rw[h,j];simp only[G0];unfold Kd.K7 at w ⊢
    simp_all
   ·have w:=c _ C2;simp only[q0,show((1:Int)==0)=false from rfl];rw[h];unfold Kd.K7 at w ⊢
    simp_all
  ·unfold o0s;have h1:¬((n:Int)<((G2 l l.length).length:Int)):=O'
   simp only[q0,h1];rfl
 ·unfold J03;have h1:(i:Int)<((D1 k.pl).length:Int):=by simp;omega
  have hp:=P8 C.pln hi;have t:K0 24 ((k.pl.take i).map b) [b (k.pl.getD i 0)]=true:=by grind [K0]
  have o:k.pl.take (i+1)=k.pl.take i++[k.pl.getD i 0]:=by simp_all
  simp only[q0,kP,h1,q9 hi,a0T hi,K.TF.rB _ hp,t,o,map_append,map_cons,map_nil,X1 (i:=i) O']
 simp_all[J03]
theorem L0I (K:U3 l n a b e z F){k:Kd}(C:R3 l n k.pl k.maps k.fB k.fD)(hR:i0i F l k.K=some true):K0l F l k.K=some (a06 l e z k):=by
 have f3:=K.f3;have p:=a07 l;unfold K0l a06;rw[hR,show q0v F l k.K=_ from M0l (flag:=k.flag) K C];rcases j07 (fD:=k.fD) (E7 e k.pl k.pl.length) (n:=k.pl.length) (fun i h=>j0P h)with hb|⟨q,hb,hq⟩
 ·have d:=j0K l z.1.Steps;have j:=K.T.zl;have c:((k.K.Places.length:Int)==0)=(k.pl.length==0):=by simp[B0i,Kd.K,z8]
  have f:k.K.Flag=k.flag:=rfl;have h1:¬(-1:Int)>=0:=O'
  simp only[h1,decide_false,false_eq_true,if_false,K.TF.rZ,G0,show((-1:Int)<0)=True from X',if_true,c,f,M07 K,L0r K.hR K.hl (show z.1.Steps.length<=2000000 from O') K.f1 K.f2 (N2.sok K.T.zb),L0R (F:=F) (tags:=b0I l) (marks:=a7 l z.1.Steps) (now:=-1) (none_:=-2) (by grind [q0p]) O' O']
  grind
 ·have hp:=P8 C.pln hq;have d:=j0K l (e (k.pl.getD q 0)).1.Steps;have m:=K.T.el _ hp;have h1:(q:Int)>=0:=O'
  have o:¬(q:Int)<0:=O'
  have g:y0 k.maps (q:Int)=true:=V0 O' (by rw[C.len];omega);rw[hb];simp only[q0,h1,o,Kd.K,z8,q9 hq,a0T hq,K.TF.rE _ hp,g,L0r K.hR K.hl (show(e (k.pl.getD q 0)).1.Steps.length<=2000000 from O') K.f1 K.f2 (N2.sok (K.T.eb _ hp)),Int.toNat_natCast]
  grind [L0R,I0B]
end
end Go.Proofs.YtihmgaccbcfgjaaGreat
namespace Go.Proofs.YtihmgaccbcfgjaaGreat
open Go.V Go.RowKit Go.X
def j0i {S ρ:Type}{body:S->Option (Q0 S ρ)}(n:Nat)(g:Nat->S)(res:ρ)(hs:∀i,i<n->body (g i)=some (.next (g (i+1))))(he:body (g n)=some (.done res)){fu:Nat}(h:n<fu):iter body fu (g 0)=some res:=by
 have key:∀(k i fu:Nat),i+k=n->k<fu->iter body fu (g i)=some res:=by
  intro k
  induction k with
  |zero=>
   intro i fu hi c;obtain⟨fu,rfl⟩:∃m,fu=m+1:=⟨fu-1,O'⟩
   unfold iter;rw[show i=n from O',he]
  |succ k ih=>
   intro i fu hi c;obtain⟨fu,rfl⟩:∃m,fu=m+1:=⟨fu-1,O'⟩
   unfold iter;rw[hs i O'];exact ih (i+1) fu O' O'
 exact key n 0 fu O' h
def c0H {α ρ:Type}[Inhabited α](l:List α)(p:α->Bool)(good:ρ)(bad:Nat->ρ){body:Int->Option (Q0 Int ρ)}
  (hs:∀i:Nat,i<l.length->body (i:Int)=some (if p (gt l (i:Int))then .next ((i+1:Nat):Int)else .done (bad i))) (he:body (l.length:Int)=some (.done good)) {fu:Nat} (h:l.length<fu):
  ∃k,iter body fu 0=some (if l.all p then good else bad k):=by
 have key:∀(k i fu:Nat),i+k=l.length->k<fu->∃j,iter body fu (i:Int)=some (if(l.drop i).all p then good else bad j):=by
  intro k
  induction k with
  |zero=>
   intro i fu hi d;obtain⟨fu,rfl⟩:∃m,fu=m+1:=⟨fu-1,O'⟩
   refine⟨0,?_⟩;unfold iter;rw[show i=l.length from O',he];simp
  |succ k ih=>
   intro i fu hi d;obtain⟨fu,rfl⟩:∃m,fu=m+1:=⟨fu-1,O'⟩
   obtain⟨j,f⟩:=ih (i+1) fu O' O';have c:i<l.length:=O'
   have hd:l.drop i=gt l (i:Int) :: l.drop (i+1):=by
    rw[List.drop_eq_getElem_cons c,X2 (x:=l[i]) (by simp[c])]
   unfold iter;rw[hs i c,hd]
   by_cases hp:p (gt l (i:Int))=true
   ·rw[if_pos hp];exact⟨j,by simp only[f,List.all_cons,hp,Bool.true_and]⟩
   ·have hp:p (gt l (i:Int))=false:=by simpa using hp
    refine⟨i,?_⟩;simp only[hp,List.all_cons,Bool.false_and,false_eq_true,if_false]
 exact key l.length 0 fu O' h
def b0x {α:Type}[Inhabited α]{l:List α}{i:Nat}(h:i<l.length):gt l (i:Int)∈l:=by
 rw[X2 (x:=l[i]) (by simp[h])];exact List.getElem_mem h
def J0H {α:Type}[Inhabited α]{l:List α}{i:Int}(c:0<=i)(h:i<(l.length:Int)):gt l i∈l:=by
 obtain⟨n,rfl⟩:∃n:Nat,i=n:=⟨i.toNat,O'⟩
 exact b0x O'
def dec_lt {a b:Nat}(h:a<b):decide ((a:Int)<(b:Int))=true:=by simp;omega
def J0W {α β:Type}[Inhabited α](f:α->β)(l:List α){i:Nat}(h:i<l.length):(l.take (i+1)).map f=(l.take i).map f++[f (gt l (i:Int))]:=by
 have:l[i]?=some (gt l (i:Int)):=by rw[X2 (x:=l[i]) (by simp[h])];simp[h]
 rw[take_succ,this,map_append];rfl
def z6 (n regs:Int):Bool:=n==-1||(decide (0<=n)&&decide (n<regs))
def c0C (s:L3)(tags:Int):Bool:=(s.Accept.length:Int)==0||((s.Accept.length:Int)==tags&&s.Accept.all fun n=>n==-2||z6 n s.Regs)
def L7 (d:Y1)(regs:Int)(x:H4):Bool:=
 if x.To=-1 then(x.Src.length:Int)==0 else decide (0<=x.To)&&decide (x.To<(d.States.length:Int))&&(x.Src.length:Int)==(gt d.States x.To).Regs&&x.Src.all fun n=>z6 n regs
def b0X (d:Y1)(k:Nat)(s:L3):Bool:=decide (0<=s.Regs)&&decide (s.Regs<=1216)&&(s.Edges.length:Int)==(k:Int)&&c0C s d.Tags&&s.Edges.all (L7 d s.Regs)
def N6:List Int->Int->Option Int
 |[],n=>some n
 |c :: r,n=>if c<0\/n<c then none else N6 r (if c=n then n+1 else n)
def J8 (c:List Int):Bool:=(N6 c 0).isSome&&(c.length:Int)==256
def F9:List Int->Nat->List Int->List Int
 |[],_,out=>out
 |c :: r,b,out=>F9 r (b+1) (if c=(out.length:Int)then out++[IntKind.u8.wrap (b:Int)]else out)
def M0 (c:List Int):List Int:=F9 c 0 []
def a0V (d:Y1):Bool:=
 decide (1<=d.Tags)&&decide (d.Tags<=19)&&!(d.Tags.tmod 2==0)&&!((d.States.length:Int)==0)&&decide ((d.States.length:Int)<=400)&&J8 d.Class&&d.States.all (b0X d (M0 d.Class).length)&&(gt d.States 0).Regs==0
structure Sm (d:Y1):Prop where
 st:d.States.length<=100
 cl:d.Class.length<=300
 ac:∀s∈d.States,s.Accept.length<=40
 ed:∀s∈d.States,s.Edges.length<=300
 rg:∀s∈d.States,s.Regs<=400
 sr:∀s∈d.States,∀x∈s.Edges,x.Src.length<=400
variable {F:Nat}
def v0f (n regs:Int):h0r F n regs=some (z6 n regs):=by
 unfold h0r z6
 by_cases h:n=-1
 ·subst h;rfl
 ·have:(n==-1)=false:=by simpa using h
  rw[this]
  by_cases c:0<=n
  ·have:decide (n>=0)=true:=by simpa using c
   simp[this,c]
  ·have:decide (n>=0)=false:=by simpa using c
   simp[this,c]
def w0h (n regs:Int)(may:Bool):i0A F n regs may=some (z6 n regs||(may&&n==-2)):=by
 unfold i0A z6
 by_cases c:0<=n
 ·have e:decide (n>=0)=true:=by simpa using c
  have h1:(n==-1)=false:=by simp;omega
  have f:(n==-2)=false:=by simp;omega
  cases d:decide (n<regs)<;>cases may<;>simp[e,h1,c,f,d]
 ·have e:decide (n>=0)=false:=by simpa using c
  cases d:(n==-1)<;>cases may<;>simp[e,c,d]
def E0a (s:L3)(tags:Int)(hl:s.Accept.length<=1000)(g:2000<F):l0l F s tags=some (c0C s tags):=by
 unfold l0l c0C;cases f:(s.Accept.length:Int)==0
 ·cases h1:(s.Accept.length:Int)==tags
  ·simp
  ·obtain⟨k,hk⟩:=c0H (body:=k0m F s) s.Accept (fun n=>n==-2||z6 n s.Regs) (.inr ()) (fun i=>.inl (i:Int)) (fun i hi=>by
    unfold k0m;simp only[dec_lt hi,Y7,hi,decide_true,if_true];cases d:gt s.Accept (i:Int)==-2
    ·have:(gt s.Accept (i:Int) != -2)=true:=by simp[bne,d]
     simp only[this,if_true,v0f,G0,Bool.false_or];cases z6 (gt s.Accept (i:Int)) s.Regs
     ·simp
     ·simp only[q0];rw[Go.V.X1 O']
    ·have:(gt s.Accept (i:Int) != -2)=false:=by simp[bne,d]
     simp only[q0,this,Bool.true_or];rw[Go.V.X1 O']) (by
    unfold k0m;simp) (fu:=F) O'
   simp only[q0,hk,Bool.false_or,Bool.true_and];cases c:s.Accept.all fun n=>n==-2||z6 n s.Regs
   ·simp
   ·simp
 ·simp
def I0e (d:Y1)(s:L3)(x:H4)(hl:x.Src.length<=1000)(o:2000<F):k0u F d s x=some (L7 d s.Regs x):=by
 unfold k0u L7
 by_cases h:x.To=-1
 ·simp[h]
 ·have e:(x.To==-1)=false:=by simpa using h
  simp only[e,false_eq_true,if_false,h]
  by_cases h1:0<=x.To
  ·have c:decide (x.To>=0)=true:=by simpa using h1
   by_cases g:x.To<(d.States.length:Int)
   ·have f:y0 d.States x.To=true:=V0 h1 g;cases m:(x.Src.length:Int)==(gt d.States x.To).Regs
    ·simp[c,g,f,m]
    ·obtain⟨k,hk⟩:=c0H (body:=j0j F s x) x.Src (fun n=>z6 n s.Regs) (.inr ()) (fun i=>.inl (i:Int)) (fun i hi=>by
      unfold j0j;simp only[q0,dec_lt hi,Y7,hi,v0f];cases z6 (gt x.Src (i:Int)) s.Regs
      ·simp
      ·simp only[q0];rw[Go.V.X1 O']) (by
      unfold j0j;simp) (fu:=F) O'
     simp only[q0,c,h1,g,f,m,hk,Bool.true_and];cases j:x.Src.all fun n=>z6 n s.Regs<;>simp
   ·simp[c,g]
  ·have c:decide (x.To>=0)=false:=by simpa using h1
   simp[c,h1]
def y0n (d:Y1)(regs:Int)(x:H4)(hl:x.Src.length<=1000)(p:2000<F):l0m F d x regs=some (L7 d regs x):=by
 unfold l0m L7
 by_cases m:x.To=-1
 ·simp[m]
 ·have e:(x.To==-1)=false:=by simpa using m
  simp only[e,false_eq_true,if_false,m]
  by_cases h1:0<=x.To
  ·have c:decide (x.To<0)=false:=by simpa using h1
   by_cases g:x.To<(d.States.length:Int)
   ·have f:y0 d.States x.To=true:=V0 h1 g;have j:decide (x.To>=(d.States.length:Int))=false:=by simpa using g
    cases h:(x.Src.length:Int)==(gt d.States x.To).Regs
    ·have:((x.Src.length:Int) != (gt d.States x.To).Regs)=true:=by simp[bne,h]
     simp[c,j,g,f,h,this]
    ·have:((x.Src.length:Int) != (gt d.States x.To).Regs)=false:=by simp[bne,h]
     obtain⟨k,hk⟩:=c0H (body:=k02 F x regs) x.Src (fun n=>z6 n regs) (.inr ()) (fun i=>.inl ()) (fun i hi=>by
      unfold k02;simp only[q0,dec_lt hi,Y7,hi,w0h,Bool.false_and,Bool.or_false];cases z6 (gt x.Src (i:Int)) regs
      ·simp
      ·simp only[q0];rw[Go.V.X1 O']) (by
      unfold k02;simp) (fu:=F) O'
     simp only[q0,c,j,h1,g,f,h,hk,Bool.true_and,this];cases o:x.Src.all fun n=>z6 n regs<;>simp
   ·have j:decide (x.To>=(d.States.length:Int))=true:=by simp;omega
    simp[c,j,g]
  ·have c:decide (x.To<0)=true:=by simp;omega
   simp[c,h1]
