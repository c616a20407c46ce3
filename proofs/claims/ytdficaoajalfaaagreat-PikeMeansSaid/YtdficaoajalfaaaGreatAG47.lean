/- What tags say that groups span; runs over bytes. Runs over bytes, by the program and by the document. A crowd has at each place the run that is ahead of all. One byte more: a crowd has still at each place the run that is ahead of all. Its conditions: none. -/
import Derived.Test.YtdficaoajalfaaaGreatAG44
import Derived.Test.YtdficaoajalfaaaGreatAG46
open Bool (false_eq_true)
open Nat (lt_or_ge zero_add)
open Option (getD_some map_some)
set_option linter.all false
namespace Go.Proofs.YtdficaoajalfaaaGreat
open Go.V Go.RowKit Old Go.X
theorem n0U {S ρ:Type} {body:S->Option (V0 S ρ)} (n:Nat) (g:Nat->S) (res:ρ) (hs:∀ i,i<n->body (g i)=some (.next (g (i+1)))) (he:body (g n)=some (.done res)) {fu:Nat} (h:n<fu):iter body fu (g 0)=some res:=by
 have key:∀ (k i fu:Nat),i+k=n->k<fu->iter body fu (g i)=some res:=by
  intro k
  induction k with
  |
   zero=>
   intro i fu hi hfu;obtain ⟨fu,rfl⟩:∃ m,fu=m+1:=⟨fu-1,by omega⟩
   unfold iter;rw [show i=n by omega,he]
  |
   succ k ih=>
   intro i fu hi hfu;obtain ⟨fu,rfl⟩:∃ m,fu=m+1:=⟨fu-1,by omega⟩
   unfold iter;rw [hs i (by omega)];exact ih (i+1) fu (by omega) (by omega)
 exact key n 0 fu (by omega) h
theorem x0n {ρ:Type} {body:Int->Option (V0 Int ρ)} (n:Nat) (res:ρ) (hs:∀ i:Nat,i<n->body (i:Int)=some (.next ((i+1:Nat):Int))) (he:body (n:Int)=some (.done res)) {fu:Nat} (h:n<fu):iter body fu 0=some res:=
 n0U n (fun i=>(i:Int)) res hs he h
def a0v (a b:Int):G1:=if a<0\/b<0 then ⟨-1,-1⟩ else ⟨a,b⟩
def R9 (tags:List Int) (to:Int):Nat->List G1
 |0=>[a0v (gt tags 0) to]
 |k+1=>R9 tags to k++[a0v (gt tags ((2*k+1:Nat):Int)) (gt tags ((2*k+2:Nat):Int))]
def a0x (tags:List Int) (to:Int):List G1:=if tags.length % 2=0 then [] else R9 tags to (tags.length / 2)
theorem e0a (tags:List Int) (to:Int):∀ k,(R9 tags to k).length=k+1
 |0=>rfl
 |k+1=>by simp [R9,e0a tags to k]
theorem p0M (n:Nat):Int.tmod (n:Int) 2=((n % 2:Nat):Int):=rfl
theorem B0A {tags:List Int} {to:Int} {fuel:Nat} (hl:tags.length<=1000) (hf:2000<fuel):h0P fuel tags to=some (a0x tags to):=by
 unfold h0P a0x;rw [p0M]
 by_cases c:tags.length % 2=0
 ·simp [c]
 have c':(((tags.length % 2:Nat):Int)==0)=false:=by rw [beq_eq_false_iff_ne];omega
 rw [if_neg c];simp only [c',false_eq_true,if_false];have hodd:tags.length % 2=1:=by omega
 have h:=n0U (body:=g0v fuel tags to) (fu:=fuel) tags.length (fun i=>((if i=0 then [] else R9 tags to (i / 2)),(i:Int))) (R9 tags to (tags.length / 2)) (fun i hi=>by
  have hin:B0 tags (i:Int)=true:=R0 (by omega) (by omega);have hd:(i:Int)<(tags.length:Int):=by omega
  unfold g0v;simp only [hd,decide_true,if_true,hin,G3 (show i<=1000000000 by omega),p0M,Nat.succ_ne_zero,if_false]
  by_cases c0:i=0
  ·subst c0;have e1:¬ ((0:Nat):Int)>0:=by omega
   by_cases n1:gt tags 0<0
   ·simp [n1,R9,a0v,Y4]
   ·by_cases n2:to<0
    ·simp [n1,n2,R9,a0v,Y4]
    ·simp [n1,n2,R9,a0v,Y4]
  ·have e1:(i:Int)>0:=by omega
   simp only [e1,decide_true,if_true,G0,c0,if_false]
   by_cases c2:i % 2=0
   ·have c2':(((i % 2:Nat):Int)==0)=true:=by simp [c2]
    have e2:(i+1) / 2=i / 2:=by omega
    simp only [c2',if_true,G0,e2]
   ·have c2':(((i % 2:Nat):Int)==0)=false:=by rw [beq_eq_false_iff_ne];omega
    have hin2:B0 tags ((i+1:Nat):Int)=true:=R0 (by omega) (by omega);have e2:(i+1) / 2=i / 2+1:=by omega
    have e3:2*(i / 2)+1=i:=by omega
    have e4:2*(i / 2)+2=i+1:=by omega
    have hap:∀ y,I0 16 (R9 tags to (i / 2)) [y]=true:=fun y=>Y4 (by rw [e0a];simp;omega);simp only [c2',false_eq_true,if_false,hin2,if_true,e2,R9,e3,e4]
    by_cases n1:gt tags (i:Int)<0
    ·simp [n1,a0v,hap]
    ·by_cases n2:gt tags ((i+1:Nat):Int)<0
     ·simp only [n1,n2,decide_false,decide_true,false_eq_true,if_false,if_true,G0,hap,a0v,or_true]
     ·simp only [n1,n2,decide_false,false_eq_true,if_false,if_true,G0,hap,a0v,or_self]) (by
  unfold g0v;have:¬ tags.length=0:=by omega
  simp [this]) (by omega)
 have h0:iter (g0v fuel tags to) fuel (([]:List G1),0)=some (R9 tags to (tags.length / 2)):=h;rw [h0];rfl
theorem B0O (tags:List Int) (to:Int) (h:tags.length<=1000):(a0x tags to).length<=1000:=by
 unfold a0x;split
 ·simp
 ·rw [e0a];omega
theorem h01 {a:List G1} {fuel:Nat} (hl:a.length<=1000) (hf:2000<fuel):b08 fuel a a=some true:=by
 unfold b08;have h:=x0n (body:=i0s fuel a a) (fu:=fuel) a.length (.inr ()) (fun i hi=>by
  have hin:B0 a (i:Int)=true:=R0 (by omega) (by omega);have hd:(i:Int)<(a.length:Int):=by omega
  unfold i0s;simp [hd,hin,G3 (show i<=1000000000 by omega)]) (by unfold i0s;simp) (by omega)
 simp [h]
structure Cs where
 at_:Int
 work:Int
 pl:List Nat
 vals:List (List Int)
 fB:Nat->Nat->Int
 fD:Nat->Nat->Int
def Cs.zero:Cs:=⟨0,0,[],[],fun _ _=>0,fun _ _=>0⟩
def Cs.step (l:List C0) (n:Nat) (a:List y0) (b:Nat->List y0) (s:Cs) (b_:Int) (beg:Bool):Cs:=
 ⟨s.at_+1,s.work+stW l n a b s.pl b_ beg,F1 l n a b s.pl b_ beg,(F1 l n a b s.pl b_ beg).map (stV l a b s.at_ s.pl s.vals s.fB s.fD beg),
  P5 l (Y2 s.pl beg s.fB) ((F1 l n a b s.pl b_ beg).map (F4 a b s.pl s.fB s.fD beg)) ((F1 l n a b s.pl b_ beg).map (K4 a b s.pl s.fB s.fD beg)),
  N6 l (Y2 s.pl beg s.fB) (j4 s.pl beg s.fD) ((F1 l n a b s.pl b_ beg).map (F4 a b s.pl s.fB s.fD beg)) ((F1 l n a b s.pl b_ beg).map (K4 a b s.pl s.fB s.fD beg))⟩
def Cs.L1 (s:Cs) (from_:Int):Cs:=
 let st:=w0h s.vals from_ s.pl.length
 ⟨s.at_,s.work,st.map fun i=>s.pl.getD i 0,st.map fun i:Nat=>gt s.vals (i:Int),fun i k=>s.fB (st.getD i 0) (st.getD k 0),fun i k=>s.fD (st.getD i 0) (st.getD k 0)⟩
section
variable (l:List C0) (n:Nat) (a:List y0) (b:Nat->List y0) (e:Nat->y0×Bool) (z:y0×Bool)
def Cs.C (s:Cs):N3:=B7 l n a b e z s.at_ s.work s.pl s.vals s.fB s.fD
def Cs.X (s:Cs):c0b:=mkX l n a b e s.at_ s.work s.pl s.vals s.fB s.fD
def Cs.K3 (s:Cs):List Int×Bool:=e0c l e s.at_ s.pl s.vals s.fD
end
structure h0B (l:List C0) (n:Nat) (s:Cs) (i:Nat):Prop where
 ok:F6 l n s.pl s.vals s.fB s.fD
 a0:s.at_=i
 w0:0<=s.work
 w1:s.work<=1000000*i
section
variable {F:Nat} {l:List C0} {n:Nat} {a:List y0} {b:Nat->List y0} {e:Nat->y0×Bool} {z:y0×Bool}
theorem y0F (l:List C0) (n:Nat):h0B l n Cs.zero 0:=⟨u0i l n,rfl,Int.le_refl _,by show (0:Int)<=_;omega⟩
theorem r0c (K:H5 l n a b e z F) (hw:∀ x∈l,o3 x) {s:Cs} {i:Nat} (h:h0B l n s i) (hi:i<=100000) {b_:Int} (hb:Z5 .u8 b_) (beg:Bool) :
  e0e F (s.C l n a b e z) b_ beg=some ((s.step l n a b b_ beg).C l n a b e z)/\h0B l n (s.step l n a b b_ beg) (i+1):=by
 have h0:=h.a0;have h1:=h.w0;have h2:=h.w1;have hr:=t09 K h.ok b_ beg;refine ⟨y0b K h.ok hw hb beg (by omega) (by omega) h1 (by omega),p0i K h.ok hw b_ beg,?_,?_,?_⟩
 ·show s.at_+1=_;omega
 ·show 0<=s.work+_;omega
 ·show s.work+_<=_;omega
theorem C0B (K:H5 l n a b e z F) {s:Cs} {i:Nat} (h:h0B l n s i):g0f F (s.C l n a b e z)=some (s.K3 l e):=y0C K h.ok
def V9 (l:List C0) (n:Nat) (a:List y0) (b:Nat->List y0) (w:List Int):Nat->Cs
 |0=>Cs.zero
 |i+1=>(V9 l n a b w i).step l n a b (gt w (i:Int)) (i==0)
def I6 (l:List C0) (n:Nat) (a:List y0) (b:Nat->List y0) (e:Nat->y0×Bool) (z:y0×Bool) (w:List Int) (whole:Bool):Nat->List Int×Bool×Int
 |0=>((U8 l z 0).1,(U8 l z 0).2,0)
 |i+1=>if ((V9 l n a b w (i+1)).K3 l e).2||whole then (((V9 l n a b w (i+1)).K3 l e).1,((V9 l n a b w (i+1)).K3 l e).2,((i+1:Nat):Int)) else I6 l n a b e z w whole i
def a0e (r:List Int×Bool×Int):List G1×Int:=if r.2.1 then (a0x r.1 r.2.2,0) else ([],7)
theorem k03 (K:H5 l n a b e z F) (hw:∀ x∈l,o3 x) {w:List Int} (hb:∀ x∈w,Z5 .u8 x):∀ i,i<=w.length->i<=100000->h0B l n (V9 l n a b w i) i
 |0,_,_=>y0F l n
 |i+1,h,h2=>(r0c K hw (k03 K hw hb i (by omega) (by omega)) (by omega) (hb _ (gtm (by omega))) (i==0)).2
theorem m0n (K:H5 l n a b e z F) (hw:∀ x∈l,o3 x) {w:List Int} (hb:∀ x∈w,Z5 .u8 x) (whole:Bool):∀ i,i<=w.length->i<=100000->(I6 l n a b e z w whole i).1.length<=1000
 |0,_,_=>B0Q
 |
  i+1,h,h2=>by
  unfold I6;split
  ·exact A0r (k03 K hw hb (i+1) h h2).ok
  ·exact m0n K hw hb whole i (by omega) (by omega)
theorem t0I (K:H5 l n a b e z F) (hw:∀ x∈l,o3 x) {w:List Int} (hb:∀ x∈w,Z5 .u8 x) (hl:w.length<=100000) (whole:Bool):b0J F l w whole=some (a0e (I6 l n a b e z w whole w.length)):=by
 have f1:=K.f1;unfold b0J;rw [x0i K.hR K.hn K.T K.f1 K.TF];have h0:(⟨Y6 l n a b e z,0,0,[],[],⟨[],[]⟩⟩:N3)=B7 l n a b e z 0 0 [] [] (fun _ _=>0) (fun _ _=>0):=rfl;simp only [G0,show ((0:Int) != 0)=false from rfl,false_eq_true,if_false,h0,x0K K];have:=R4 (step:=e0H F w whole) (fun i=>((I6 l n a b e z w whole i).1,(I6 l n a b e z w whole i).2.1,(I6 l n a b e z w whole i).2.2,(i:Int),(V9 l n a b w i).C l n a b e z)) (I6 l n a b e z w whole w.length) w.length (fun i hi=>.inl ?_) ?_ w.length 0 F (by omega) (by omega)
 ·have h2:iter (e0H F w whole) F ((U8 l z 0).1,(U8 l z 0).2,0,0,B7 l n a b e z 0 0 [] [] (fun _ _=>0) (fun _ _=>0))=_:=this;rw [h2];have hs:=m0n K hw hb whole w.length (Nat.le_refl _) hl;unfold a0e;generalize I6 l n a b e z w whole w.length=r at *;obtain ⟨r1,r2,r3⟩:=r;cases r2 with
  |false=>rfl
  |true=>simp only [G0,Bool.not_true,false_eq_true,if_false,if_true,B0A hs (show 2000<F by omega)]
 ·have hok:=k03 K hw hb i (by omega) (by omega);have hby:=hb _ (gtm (l:=w) (i:=i) hi);obtain ⟨s1,s3⟩:=r0c K hw hok (by omega) hby (i==0);have h1:(i:Int)<(w.length:Int):=by omega
  have h2:((i:Int)==0)=(i==0):=by rw [Bool.eq_iff_iff];simp only [beq_iff_eq];omega
  have hb2:=C0B K s3;have hat:((V9 l n a b w (i+1)).C l n a b e z).at_=((i+1:Nat):Int):=s3.a0;unfold e0H;simp only [h1,decide_true,if_true,R0 (l:=w) (i:=(i:Int)) (by omega) h1,h2,s1,G0,hb2,G3 (i:=i) (by omega)];have e1:(V9 l n a b w i).step l n a b (gt w (i:Int)) (i==0)=V9 l n a b w (i+1):=rfl;rw [e1];simp only [I6];cases c1:((V9 l n a b w (i+1)).K3 l e).2
  ·cases whole
   ·simp only [false_eq_true,if_false,G0,Bool.or_self]
   ·simp only [false_eq_true,if_false,G0,Bool.false_or,if_true,hat]
  ·simp only [if_true,G0,Bool.true_or,hat]
 ·unfold e0H;have h1:¬ ((w.length:Int)<(w.length:Int)):=by omega
  simp only [h1,decide_false,false_eq_true,if_false]
end
def LT (g h:Nat×Pp):Prop:=g.1<h.1\/(g.1=h.1/\∃ d,Ah d g.2 h.2)
def LE (g h:Nat×Pp):Prop:=g.1<h.1\/(g.1=h.1/\(g.2=h.2\/∃ d,Ah d g.2 h.2))
theorem LT.trans {g h k:Nat×Pp} (a:LT g h) (b:LT h k):LT g k:=by
 rcases a with a | ⟨a,d,a'⟩<;>rcases b with b | ⟨b,e,b'⟩
 ·exact .inl (by omega)
 ·exact .inl (by omega)
 ·exact .inl (by omega)
 ·exact .inr ⟨by omega,a'.trans b'⟩
theorem LT.le {g h k:Nat×Pp} (a:LT g h) (b:LE h k):LE g k:=by
 rcases a with a | ⟨a,d,a'⟩<;>rcases b with b | ⟨b,b'⟩
 ·exact .inl (by omega)
 ·exact .inl (by omega)
 ·exact .inl (by omega)
 ·refine .inr ⟨by omega,.inr ?_⟩;rcases b' with b' | ⟨e,b'⟩
  ·exact ⟨d,by rw [<-b'];exact a'⟩
  ·exact a'.trans b'
theorem c0M.lt {g h:Nat×Pp} {b c:Int} (r:c0M g h b c):LT g h:=by
 rcases r with ⟨h1,_⟩ | ⟨h1,d,h2,_⟩
 ·exact .inl h1
 ·exact .inr ⟨h1,d,h2⟩
theorem E0X {fB fD:Nat->Nat->Int} {fr:List Nat} {hops:List y0} {N:Nat->Nat×Pp} {len:Nat}
  (h1:∀ i k,i<len->k<len->i≠k->0<i7 fB fD (fr.getD i 0) (fr.getD k 0) (gt hops (i:Int)) (gt hops (k:Int))->LT (N i) (N k))
  (h2:∀ i k,i<len->k<len->i≠k->¬ 0<i7 fB fD (fr.getD i 0) (fr.getD k 0) (gt hops (i:Int)) (gt hops (k:Int))->LT (N k) (N i)) :
  ∀ k,k<=len->∀ j:Nat,c0a fB fD fr hops k=(j:Int)->∀ i,i<k->i=j\/LT (N j) (N i):=by
 intro k
 induction k with
 |zero=>intro _ j _ i hi;omega
 |
  succ k ih=>
  intro hk j hj i hi;rw [i0n] at hj;unfold e0A at hj;rcases l0Q fB fD fr hops k with e | ⟨j0,e,hj0⟩
  ·rw [e,if_pos (by omega)] at hj;have hk0:k=0:=by
    rcases Nat.eq_zero_or_pos k with h | h
    ·exact h
    ·obtain ⟨j',e',_⟩:=s0Z (fB:=fB) (fD:=fD) (fr:=fr) (hops:=hops) k h;rw [e] at e';omega
   exact .inl (by omega)
  ·rw [e,if_neg (by omega),Int.toNat_natCast] at hj;have hall:=ih (by omega) j0 e
   by_cases c:0<i7 fB fD (fr.getD k 0) (fr.getD j0 0) (gt hops (k:Int)) (gt hops (j0:Int))
   ·rw [if_pos c] at hj;have:k=j:=by omega
    subst this;have hlt:=h1 k j0 (by omega) (by omega) (by omega) c;rcases lt_or_ge i k with c2 | c2
    ·rcases hall i c2 with h | h
     ·rw [h];exact .inr hlt
     ·exact .inr (hlt.trans h)
    ·exact .inl (by omega)
   ·rw [if_neg c] at hj;have:j0=j:=by omega
    subst this;rcases lt_or_ge i k with c2 | c2
    ·exact hall i c2
    ·have:i=k:=by omega
     subst this;exact .inr (h2 i j0 (by omega) (by omega) (by omega) c)
def fwd (t:Tm) (g:Nat×Pp):List (Nat×Int):=(g.1,O0 (t.top 0)) :: R3 t 0 g.1 g.2
def r8 (l:List C0) (v:List Int) (H7:List (Nat×Int)):List Int:=H7.foldl (fun v e=>S6 (e.1:Int) (-1) v (N4 l [e.2])) v
theorem b0i (l:List C0) (v:List Int) (a b:List (Nat×Int)):r8 l v (a++b)=r8 l (r8 l v a) b:=List.foldl_append ..
theorem i0c (l:List C0) (k:Nat):∀ (st:List Int) (v:List Int),r8 l v (tm k st)=S6 (k:Int) (-1) v (N4 l st)
 |[],v=>rfl
 |
  x :: st,v=>by
  have h:=i0c l k st (S6 (k:Int) (-1) v (N4 l [x]));have e:N4 l (x :: st)=N4 l [x]++N4 l st:=by simp [N4]
  rw [e];unfold S6 at h ⊢;rw [List.foldl_append];exact h
def l0i (l:List C0) (t:Tm) (g:Nat×Pp):List Int:=r8 l (O7 l (g.1:Int)) (fwd t g)
structure R7 (w:List Int) (l:List C0) (n:Nat) (t:Tm) (m:Nat) (s:Cs) (G:Nat->Nat×Pp) (A B:Nat->Prop):Prop where
 st0:∀ k,k<s.pl.length->A (G k).1
 at_:s.at_=m
 ok:F6 l n s.pl s.vals s.fB s.fD
 run:∀ k,k<s.pl.length->∃ j,m=j+1/\PU w t (G k).1 j (G k).2/\Rd w t j (G k).2/\s.pl.getD k 0=Y0 t (G k).2/\gt s.vals (k:Int)=l0i l t (G k)
 rel:∀ k k',k<s.pl.length->k'<s.pl.length->s.fD k k'=1->c0M (G k) (G k') (s.fB k k') (s.fB k' k)
 cov:∀ i j Y,m=j+1->B i->Rch w t i j Y->∃ k,k<s.pl.length/\s.pl.getD k 0=Y0 t Y/\LE (G k) (i,Y)
theorem R7.zero (w:List Int) (l:List C0) (n:Nat) (t:Tm) (G:Nat->Nat×Pp) (A B:Nat->Prop):R7 w l n t 0 Cs.zero G A B where
 st0 k h:=by simp [Cs.zero] at h
 at_:=rfl
 ok:=u0i l n
 run k h:=by simp [Cs.zero] at h
 rel k k' h:=by simp [Cs.zero] at h
 cov i j Y h:=by omega
theorem R7.less {w:List Int} {l:List C0} {n:Nat} {t:Tm} {m:Nat} {s:Cs} {G:Nat->Nat×Pp} {A B B':Nat->Prop} (h:R7 w l n t m s G A B) (hb:∀ i,B' i->B i):R7 w l n t m s G A B':=⟨h.st0,h.at_,h.ok,h.run,h.rel,fun i j Y a b c=>h.cov i j Y a (hb i b) c⟩
section
variable {F:Nat} {l:List C0} {n:Nat} {a:List y0} {b:Nat->List y0} {e:Nat->y0×Bool} {z:y0×Bool} {t:Tm} {w:List Int} {m:Nat} {s:Cs} {G:Nat->Nat×Pp} {A B:Nat->Prop}
def B3 (m np:Nat) (G:Nat->Nat×Pp) (q:Nat):Nat×Option Pp:=if q<np then ((G q).1,some (G q).2) else (m,none)
def fwo (t:Tm):Nat×Option Pp->List (Nat×Int)
 |(_,none)=>[]
 |(i,some p)=>fwd t (i,p)
theorem g0P {pl:List Nat} {beg:Bool} {q:Nat} (h:q<(F0 a b pl beg).length):(q<pl.length/\(F0 a b pl beg).getD q []=b (pl.getD q 0))\/(q=pl.length/\beg=true/\(F0 a b pl beg).getD q []=a):=by
 have hl:=b0b a b pl beg;unfold A5 at hl;rcases lt_or_ge q pl.length with c | c
 ·refine .inl ⟨c,?_⟩;unfold F0;rw [List.getD_eq_getElem?_getD,List.getElem?_append_left (by simpa using c)];simp [List.getD,c]
 ·cases beg with
  |false=>simp only [false_eq_true,if_false] at hl;omega
  |
   true=>
   simp only [if_true] at hl;have:q=pl.length:=by omega
   subst this;refine .inr ⟨rfl,rfl,?_⟩;unfold F0;rw [List.getD_eq_getElem?_getD,List.getElem?_append_right (by simp)];simp
theorem R7.way (I:R7 w l n t m s G A B) (K:H5 l n a b e z F) (hw:∀ x∈l,o3 x) (ht:O2 l t) {beg:Bool} {q:Nat} (hq:q<(F0 a b s.pl beg).length) {h:y0} (hh:h∈(F0 a b s.pl beg).getD q []) :
  ∃ p',Wy t (B3 m s.pl.length G q).2 h.Turn p'/\h.To=(Y0 t p':Int)/\PU w t (B3 m s.pl.length G q).1 m p'/\fwd t ((B3 m s.pl.length G q).1,p')=fwo t (B3 m s.pl.length G q)++tm m h.Steps:=by
 rcases g0P hq with ⟨c,e1⟩ | ⟨c,_,e1⟩
 ·rw [e1] at hh;obtain ⟨j,hj,u,r,hp,_⟩:=I.run q c;obtain ⟨b1,_,_⟩:=u.ways K hw ht;rw [hp,b1] at hh;obtain ⟨k,p',g1,g2,g3,g4⟩:=l01 u ((b0y y0.To _).mem_iff.1 hh);unfold B3;rw [if_pos c,hj];refine ⟨p',⟨k,by rw [g2];omega,g1⟩,by rw [g3,zero_add],g1.pu e1C u r,?_⟩;simp only [fwd,fwo,g4,List.cons_append]
 ·rw [e1,(m0u K hw ht).1] at hh;obtain ⟨p,h1,h2⟩:=n02 hh;unfold B3;rw [if_neg (by omega)];have hn:=k0Q h1 0 m;exact ⟨p,⟨by rw [h2],h1⟩,by rw [h2,zero_add],h1.pu e1C m,by simp only [fwd,fwo,hn,h2,List.nil_append]⟩
theorem R7.src (I:R7 w l n t m s G A B) {beg:Bool} {q q':Nat} (hq:q<A5 s.pl beg) (hq':q'<A5 s.pl beg) (hne:q≠q') (hD:j4 s.pl beg s.fD q q'=1) :
  ((B3 m s.pl.length G q).1<(B3 m s.pl.length G q').1/\Y2 s.pl beg s.fB q q'=0/\Y2 s.pl beg s.fB q' q=0)\/
  ((B3 m s.pl.length G q).1=(B3 m s.pl.length G q').1/\∃ u v,(B3 m s.pl.length G q).2=some u/\(B3 m s.pl.length G q').2=some v/\∃ d:Nat,Ah d u v/\Y2 s.pl beg s.fB q' q=d+2/\(d:Int)+2<=Y2 s.pl beg s.fB q q'):=by
 have old:q<s.pl.length->q'<s.pl.length->s.fD q q'=1->((B3 m s.pl.length G q).1<(B3 m s.pl.length G q').1/\s.fB q q'=0/\s.fB q' q=0)\/
  ((B3 m s.pl.length G q).1=(B3 m s.pl.length G q').1/\∃ u v,(B3 m s.pl.length G q).2=some u/\(B3 m s.pl.length G q').2=some v/\∃ d:Nat,Ah d u v/\s.fB q' q=d+2/\(d:Int)+2<=s.fB q q'):=fun c c' hd=>by
  unfold B3;rw [if_pos c,if_pos c'];rcases I.rel q q' c c' hd with ⟨h1,h2,h3⟩ | ⟨h1,d,h2,h3,h4⟩
  ·exact .inl ⟨h1,h2,h3⟩
  ·exact .inr ⟨h1,_,_,rfl,rfl,d,h2,h3,h4⟩
 cases beg with
 |false=>exact old hq hq' hD
 |
  true=>
  simp only [A5,if_true] at hq hq';simp only [Y2,j4,if_true] at hD ⊢
  by_cases c:q<s.pl.length
  ·by_cases c':q'<s.pl.length
   ·have e1:c0E s.pl.length s.fD q q'=s.fD q q':=if_pos ⟨c,c'⟩;have e2:c06 s.pl.length s.fB q q'=s.fB q q':=if_pos ⟨c,c'⟩;have e3:c06 s.pl.length s.fB q' q=s.fB q' q:=if_pos ⟨c',c⟩;rw [e1] at hD;rw [e2,e3];exact old c c' hD
   ·obtain ⟨j,hj,u,_⟩:=I.run q c;have:=u.le;refine .inl ⟨?_,if_neg (by omega),if_neg (by omega)⟩;unfold B3;rw [if_pos c,if_neg c'];simp only;omega
  ·unfold c0E at hD;rw [if_neg (by omega),if_neg (by omega)] at hD;split at hD<;>omega
theorem R7.ag (I:R7 w l n t m s G A B) {beg:Bool} {q q':Nat} (hq:q<A5 s.pl beg) (hq':q'<A5 s.pl beg) (hne:q≠q') {x y:y0} {p p':Pp} (hx:Wy t (B3 m s.pl.length G q).2 x.Turn p) (hy:Wy t (B3 m s.pl.length G q').2 y.Turn p')
  (tx:0<=x.Turn/\x.Turn<=400) (ty:0<=y.Turn/\y.Turn<=400) (hag:i7 (Y2 s.pl beg s.fB) (j4 s.pl beg s.fD) q q' x y=1) :
  c0M ((B3 m s.pl.length G q).1,p) ((B3 m s.pl.length G q').1,p') (J4 (Y2 s.pl beg s.fB q q') x.Turn) (J4 (Y2 s.pl beg s.fB q' q) y.Turn):=by
 have hok:=g03 I.ok beg;have hsrc:∀ q,∃ j,∀ u,(B3 m s.pl.length G q).2=some u->m=j+1/\PU w t (B3 m s.pl.length G q).1 j u:=fun q=>by
  by_cases c:q<s.pl.length
  ·obtain ⟨j,hj,u,_⟩:=I.run q c;refine ⟨j,fun v hv=>?_⟩;unfold B3 at hv ⊢;rw [if_pos c] at hv ⊢;simp only [Option.some.injEq] at hv;subst hv;exact ⟨hj,u⟩
  ·refine ⟨0,fun v hv=>?_⟩;unfold B3 at hv;rw [if_neg c] at hv;cases hv
 obtain ⟨j1,s1⟩:=hsrc q;obtain ⟨j2,s2⟩:=hsrc q';have main:∀ {j:Nat},(∀ u,(B3 m s.pl.length G q).2=some u->PU w t (B3 m s.pl.length G q).1 j u)->(∀ u,(B3 m s.pl.length G q').2=some u->PU w t (B3 m s.pl.length G q').1 j u)->c0M ((B3 m s.pl.length G q).1,p) ((B3 m s.pl.length G q').1,p') (J4 (Y2 s.pl beg s.fB q q') x.Turn) (J4 (Y2 s.pl beg s.fB q' q) y.Turn):=by
  intro j u1 u2;unfold i7 at hag;rcases hok.d1 q q' hq hq' hne with d | d
  ·have R:=q0F (I.src hq hq' hne d) hx hy u1 u2 tx ty;refine R.1 ?_
   by_cases c1:J4 (Y2 s.pl beg s.fB q q') x.Turn>J4 (Y2 s.pl beg s.fB q' q) y.Turn
   ·omega
   ·rw [if_neg c1] at hag
    by_cases c2:J4 (Y2 s.pl beg s.fB q q') x.Turn<J4 (Y2 s.pl beg s.fB q' q) y.Turn
    ·rw [if_pos c2] at hag;omega
    ·omega
  ·have d':j4 s.pl beg s.fD q' q=1:=by rw [hok.dn q q' hq hq',d];rfl
   have R:=q0F (I.src hq' hq (Ne.symm hne) d') hy hx u2 u1 ty tx;refine R.2 ?_
   by_cases c1:J4 (Y2 s.pl beg s.fB q q') x.Turn>J4 (Y2 s.pl beg s.fB q' q) y.Turn
   ·exact c1
   ·rw [if_neg c1] at hag;split at hag<;>omega
 rcases Nat.eq_zero_or_pos m with h0 | h0
 ·exact main (j:=0) (fun u hu=>by have:=(s1 u hu).1;omega) (fun u hu=>by have:=(s2 u hu).1;omega)
 ·refine main (j:=m-1) (fun u hu=>?_) (fun u hu=>?_)
  ·obtain ⟨e,h⟩:=s1 u hu;rw [show m-1=j1 by omega];exact h
  ·obtain ⟨e,h⟩:=s2 u hu;rw [show m-1=j2 by omega];exact h
end
section
variable {F:Nat} {l:List C0} {n:Nat} {a:List y0} {b:Nat->List y0} {e:Nat->y0×Bool} {z:y0×Bool} {t:Tm} {w:List Int} {m:Nat} {s:Cs} {G:Nat->Nat×Pp} {A B:Nat->Prop}
theorem s0T {n:Nat} {ws:List y0} (hd:j8 n ws) {h:y0} (hh:h∈ws) {r:Nat} (hr:h.To=(r:Int)):J5 ws r=some h:=by
 cases c:J5 ws r with
 |
  none=>
  unfold J5 at c;rw [List.find?_eq_none] at c;exact absurd (by simpa using hr) (c h hh)
 |
  some x=>
  have h1:=List.mem_of_find?_eq_some c;have h2:x.To=(r:Int):=by simpa using List.find?_some c
  by_cases e:x=h
  ·rw [e]
  ·exfalso;have hp:=hd.dist;have:∀ {ws:List y0},ws.Pairwise (fun a b=>a.To≠b.To)->x∈ws->h∈ws->False:=by
    intro ws
    induction ws with
    |nil=>intro _ h1 _;simp at h1
    |
     cons y r ih=>
     intro hp h1 h2';obtain ⟨p1,p2⟩:=List.pairwise_cons.1 hp;rcases List.mem_cons.1 h1 with m1 | m1<;>rcases List.mem_cons.1 h2' with m2 | m2
     ·exact e (m1.trans m2.symm)
     ·exact p1 h m2 (by rw [<-m1,h2,hr])
     ·exact p1 x m1 (by rw [<-m2,h2,hr])
     ·exact ih p2 m1 m2
   exact this hp h1 hh
theorem o0A {xs:List Nat} (h:xs.Nodup) {i k:Nat} (hi:i<xs.length) (hk:k<xs.length) (e:xs.getD i 0=xs.getD k 0):i=k:=by
 simp only [List.getD,List.getElem?_eq_getElem hi,List.getElem?_eq_getElem hk,getD_some] at e;exact (List.getElem_inj h).1 e
theorem D0e {xs:List Nat} (f:Nat->Nat) {k:Nat} (h:k<xs.length):(xs.map f).getD k 0=f (xs.getD k 0):=by
 simp only [List.getD,List.getElem?_map,List.getElem?_eq_getElem h,map_some,getD_some]
theorem p0H {β:Type} [Inhabited β] {xs:List Nat} (f:Nat->β) {k:Nat} (h:k<xs.length):gt (xs.map f) (k:Int)=f (xs.getD k 0):=
 B4 (by simp only [List.getD,List.getElem?_map,List.getElem?_eq_getElem h,map_some,getD_some])
theorem Rch.inv {i j:Nat} {Y:Pp} (h:Rch w t i j Y):(i=j/\En P3 t Y)\/∃ j0 k p,j=j0+1/\Rch w t i j0 p/\Go P3 t k p Y:=by
 cases h with
 |beg e _=>exact .inl ⟨rfl,e⟩
 |step h g _=>exact .inr ⟨_,_,_,rfl,h,g⟩
theorem t0O (Ws:List (List y0)) (r k:Nat):(N1 Ws r k).Nodup:=List.Pairwise.filter _ List.nodup_range
theorem u0f {Ws:List (List y0)} {r k i:Nat} (h:i<(N1 Ws r k).length):gt (n5 Ws r k) (i:Int)=l7 (Ws.getD ((N1 Ws r k).getD i 0) []) r:=by
 refine B4 ?_;unfold n5;simp [List.getD,h]
theorem R7.news (I:R7 w l n t m s G A B) (K:H5 l n a b e z F) (hw:∀ x∈l,o3 x) (ht:O2 l t) (beg:Bool):∃ f:Nat->Nat->Pp,∀ q r,q<(F0 a b s.pl beg).length->(J5 ((F0 a b s.pl beg).getD q []) r).isSome=true->
  Wy t (B3 m s.pl.length G q).2 (l7 ((F0 a b s.pl beg).getD q []) r).Turn (f q r)/\r=Y0 t (f q r)/\PU w t (B3 m s.pl.length G q).1 m (f q r)/\fwd t ((B3 m s.pl.length G q).1,f q r)=fwo t (B3 m s.pl.length G q)++tm m (l7 ((F0 a b s.pl beg).getD q []) r).Steps/\
  (l7 ((F0 a b s.pl beg).getD q []) r)∈(F0 a b s.pl beg).getD q []:=by
 have:∀ q r,∃ p,q<(F0 a b s.pl beg).length->(J5 ((F0 a b s.pl beg).getD q []) r).isSome=true->
  Wy t (B3 m s.pl.length G q).2 (l7 ((F0 a b s.pl beg).getD q []) r).Turn p/\r=Y0 t p/\PU w t (B3 m s.pl.length G q).1 m p/\fwd t ((B3 m s.pl.length G q).1,p)=fwo t (B3 m s.pl.length G q)++tm m (l7 ((F0 a b s.pl beg).getD q []) r).Steps/\
  (l7 ((F0 a b s.pl beg).getD q []) r)∈(F0 a b s.pl beg).getD q []:=fun q r=>by
  by_cases c:q<(F0 a b s.pl beg).length/\(J5 ((F0 a b s.pl beg).getD q []) r).isSome=true
  ·obtain ⟨h1,h2⟩:=j0a c.2;obtain ⟨p,p1,p2,p3,p4⟩:=I.way K hw ht c.1 h1;exact ⟨p,fun _ _=>⟨p1,by rw [h2] at p2;omega,p3,p4,h1⟩⟩
  ·exact ⟨.leaf,fun h1 h2=>absurd ⟨h1,h2⟩ c⟩
 exact ⟨fun q r=>Classical.choose (this q r),fun q r=>Classical.choose_spec (this q r)⟩
theorem R7.step (I:R7 w l n t m s G A B) (K:H5 l n a b e z F) (hw:∀ x∈l,o3 x) (ht:O2 l t) (hm:m<w.length) (beg:Bool) {A' B':Nat->Prop} (hA:∀ i,A i->A' i) (hA2:beg=true->A' m) (hB:∀ i,i<m->B' i->B i) (hB2:B' m->beg=true) :
  ∃ G',R7 w l n t (m+1) (s.step l n a b (gt w (m:Int)) beg) G' A' B':=by
 obtain ⟨f,hf⟩:=I.news K hw ht beg;have hWl:=b0b a b s.pl beg;have hC:=p0i (at_:=s.at_) K I.ok hw (gt w (m:Int)) beg;have hgo:=g0i K I.ok beg;have N:=fun q r=>((B3 m s.pl.length G q).1,f q r)
 have hne:∀ r,r∈F1 l n a b s.pl (gt w (m:Int)) beg->N1 (F0 a b s.pl beg) r (F0 a b s.pl beg).length≠[]:=fun r hr=>(d0n hr).2;have hcome:∀ q r,q∈N1 (F0 a b s.pl beg) r (F0 a b s.pl beg).length->q<(F0 a b s.pl beg).length/\(J5 ((F0 a b s.pl beg).getD q []) r).isSome=true:=fun q r h=>⟨l0Y h,(List.mem_filter.1 h).2⟩
 have trn:∀ {q:Nat} {h:y0},q<(F0 a b s.pl beg).length->h∈(F0 a b s.pl beg).getD q []->0<=h.Turn/\h.Turn<=400:=fun hq hh=>by
  have:=(hgo _ hq).2.2.1 _ hh;exact ⟨this.t0,this.t1⟩
 have K3:∀ r q,N1 (F0 a b s.pl beg) r (F0 a b s.pl beg).length≠[]->q∈N1 (F0 a b s.pl beg) r (F0 a b s.pl beg).length->
   LE ((B3 m s.pl.length G (F4 a b s.pl s.fB s.fD beg r)).1,f (F4 a b s.pl s.fB s.fD beg r) r) ((B3 m s.pl.length G q).1,f q r):=by
  intro r q hn hq;obtain ⟨k1,k2⟩:=i09 (fB:=Y2 s.pl beg s.fB) (fD:=j4 s.pl beg s.fD) hn;have el:∀ i,i<(N1 (F0 a b s.pl beg) r (F0 a b s.pl beg).length).length->(N1 (F0 a b s.pl beg) r (F0 a b s.pl beg).length).getD i 0∈N1 (F0 a b s.pl beg) r (F0 a b s.pl beg).length:=fun i hi=>by
   simp only [List.getD,List.getElem?_eq_getElem hi,getD_some];exact List.getElem_mem hi
  have ag1:∀ i k,i<(N1 (F0 a b s.pl beg) r (F0 a b s.pl beg).length).length->k<(N1 (F0 a b s.pl beg) r (F0 a b s.pl beg).length).length->i≠k->
    i7 (Y2 s.pl beg s.fB) (j4 s.pl beg s.fD) ((N1 (F0 a b s.pl beg) r (F0 a b s.pl beg).length).getD i 0) ((N1 (F0 a b s.pl beg) r (F0 a b s.pl beg).length).getD k 0) (gt (n5 (F0 a b s.pl beg) r (F0 a b s.pl beg).length) (i:Int)) (gt (n5 (F0 a b s.pl beg) r (F0 a b s.pl beg).length) (k:Int))=1->
    LT ((B3 m s.pl.length G ((N1 (F0 a b s.pl beg) r (F0 a b s.pl beg).length).getD i 0)).1,f ((N1 (F0 a b s.pl beg) r (F0 a b s.pl beg).length).getD i 0) r) ((B3 m s.pl.length G ((N1 (F0 a b s.pl beg) r (F0 a b s.pl beg).length).getD k 0)).1,f ((N1 (F0 a b s.pl beg) r (F0 a b s.pl beg).length).getD k 0) r):=by
   intro i k hi hk hik hag;rw [u0f hi,u0f hk] at hag;obtain ⟨i1,i2⟩:=hcome _ _ (el i hi);obtain ⟨j1,j2⟩:=hcome _ _ (el k hk);have x:=hf _ r i1 i2;have y:=hf _ r j1 j2;have hne':(N1 (F0 a b s.pl beg) r (F0 a b s.pl beg).length).getD i 0≠(N1 (F0 a b s.pl beg) r (F0 a b s.pl beg).length).getD k 0:=fun h=>hik (o0A (t0O _ _ _) hi hk h);exact (I.ag (by rw [<-hWl];exact i1) (by rw [<-hWl];exact j1) hne' x.1 y.1 (trn i1 x.2.2.2.2) (trn j1 y.2.2.2.2) hag).lt
  have hrk:=g03 I.ok beg;have one:∀ i k,i<(N1 (F0 a b s.pl beg) r (F0 a b s.pl beg).length).length->k<(N1 (F0 a b s.pl beg) r (F0 a b s.pl beg).length).length->i≠k->∀ x y,i7 (Y2 s.pl beg s.fB) (j4 s.pl beg s.fD) ((N1 (F0 a b s.pl beg) r (F0 a b s.pl beg).length).getD i 0) ((N1 (F0 a b s.pl beg) r (F0 a b s.pl beg).length).getD k 0) x y=1\/
    (i7 (Y2 s.pl beg s.fB) (j4 s.pl beg s.fD) ((N1 (F0 a b s.pl beg) r (F0 a b s.pl beg).length).getD i 0) ((N1 (F0 a b s.pl beg) r (F0 a b s.pl beg).length).getD k 0) x y=-1/\i7 (Y2 s.pl beg s.fB) (j4 s.pl beg s.fD) ((N1 (F0 a b s.pl beg) r (F0 a b s.pl beg).length).getD k 0) ((N1 (F0 a b s.pl beg) r (F0 a b s.pl beg).length).getD i 0) y x=1):=by
   intro i k hi hk hik x y;have i1:=Nat.lt_of_lt_of_eq (hcome _ _ (el i hi)).1 hWl;have j1:=Nat.lt_of_lt_of_eq (hcome _ _ (el k hk)).1 hWl;have hne':(N1 (F0 a b s.pl beg) r (F0 a b s.pl beg).length).getD i 0≠(N1 (F0 a b s.pl beg) r (F0 a b s.pl beg).length).getD k 0:=fun h=>hik (o0A (t0O _ _ _) hi hk h);have hneg:=t0B (fB:=Y2 s.pl beg s.fB) (fD:=j4 s.pl beg s.fD) (p:=x) (q:=y) (hrk.dn _ _ i1 j1);rcases p0F (fB:=Y2 s.pl beg s.fB) (fD:=j4 s.pl beg s.fD) (p:=x) (q:=y) (hrk.d1 _ _ i1 j1 hne') with h | h
   ·exact .inl h
   ·exact .inr ⟨h,by rw [hneg,h];rfl⟩
  have hq2:∃ i,i<(N1 (F0 a b s.pl beg) r (F0 a b s.pl beg).length).length/\(N1 (F0 a b s.pl beg) r (F0 a b s.pl beg).length).getD i 0=q:=by
   obtain ⟨i,hi,e⟩:=List.getElem_of_mem hq;exact ⟨i,hi,by simp only [List.getD,List.getElem?_eq_getElem hi,getD_some];exact e⟩
  obtain ⟨i,hi,rfl⟩:=hq2;have hlen:(n5 (F0 a b s.pl beg) r (F0 a b s.pl beg).length).length=(N1 (F0 a b s.pl beg) r (F0 a b s.pl beg).length).length:=n0a _ _ _;have:=E0X (fB:=Y2 s.pl beg s.fB) (fD:=j4 s.pl beg s.fD) (fr:=N1 (F0 a b s.pl beg) r (F0 a b s.pl beg).length) (hops:=n5 (F0 a b s.pl beg) r (F0 a b s.pl beg).length) (len:=(N1 (F0 a b s.pl beg) r (F0 a b s.pl beg).length).length)
   (N:=fun i=>((B3 m s.pl.length G ((N1 (F0 a b s.pl beg) r (F0 a b s.pl beg).length).getD i 0)).1,f ((N1 (F0 a b s.pl beg) r (F0 a b s.pl beg).length).getD i 0) r))
   (fun i k hi hk hik h=>ag1 i k hi hk hik (by rcases one i k hi hk hik (gt (n5 (F0 a b s.pl beg) r (F0 a b s.pl beg).length) (i:Int)) (gt (n5 (F0 a b s.pl beg) r (F0 a b s.pl beg).length) (k:Int)) with h' | h'<;>omega))
   (fun i k hi hk hik h=>ag1 k i hk hi (Ne.symm hik) (by rcases one i k hi hk hik (gt (n5 (F0 a b s.pl beg) r (F0 a b s.pl beg).length) (i:Int)) (gt (n5 (F0 a b s.pl beg) r (F0 a b s.pl beg).length) (k:Int)) with h' | h'<;>omega))
   _ (Nat.le_refl _) _ k1 i hi
  rcases this with h | h
  ·refine .inr ⟨?_,.inl ?_⟩<;>(rw [h];rfl)
  ·rcases h with h | ⟨h,h'⟩
   ·exact .inl h
   ·exact .inr ⟨h,.inr h'⟩
 refine ⟨fun k=>((B3 m s.pl.length G (F4 a b s.pl s.fB s.fD beg ((F1 l n a b s.pl (gt w (m:Int)) beg).getD k 0))).1,f (F4 a b s.pl s.fB s.fD beg ((F1 l n a b s.pl (gt w (m:Int)) beg).getD k 0)) ((F1 l n a b s.pl (gt w (m:Int)) beg).getD k 0)),?_⟩;have hmem:∀ k,k<(F1 l n a b s.pl (gt w (m:Int)) beg).length->(F1 l n a b s.pl (gt w (m:Int)) beg).getD k 0∈F1 l n a b s.pl (gt w (m:Int)) beg:=fun k hk=>by
  simp only [List.getD,List.getElem?_eq_getElem hk,getD_some];exact List.getElem_mem hk
 have hS:∀ r,r∈F1 l n a b s.pl (gt w (m:Int)) beg->F4 a b s.pl s.fB s.fD beg r<(F0 a b s.pl beg).length/\(J5 ((F0 a b s.pl beg).getD (F4 a b s.pl s.fB s.fD beg r) []) r).isSome=true:=fun r hr=>hcome _ _ (m0s (hne r hr));have hmapS:∀ k,k<(F1 l n a b s.pl (gt w (m:Int)) beg).length->((F1 l n a b s.pl (gt w (m:Int)) beg).map (F4 a b s.pl s.fB s.fD beg)).getD k 0=F4 a b s.pl s.fB s.fD beg ((F1 l n a b s.pl (gt w (m:Int)) beg).getD k 0):=fun k hk=>D0e _ hk;have hmapH:∀ k,k<(F1 l n a b s.pl (gt w (m:Int)) beg).length->gt ((F1 l n a b s.pl (gt w (m:Int)) beg).map (K4 a b s.pl s.fB s.fD beg)) (k:Int)=K4 a b s.pl s.fB s.fD beg ((F1 l n a b s.pl (gt w (m:Int)) beg).getD k 0):=fun k hk=>p0H _ hk;refine ⟨fun k hk=>?_,by show s.at_+1=_;rw [I.at_];omega,hC,fun k hk=>?_,fun k k' hk hk' hD=>?_,fun i j Y hj hBi hY=>?_⟩
 ·obtain ⟨s1,_⟩:=hS _ (hmem k hk);simp only;rcases g0P s1 with ⟨c,_⟩ | ⟨c,hb,_⟩
  ·unfold B3;rw [if_pos c];exact hA _ (I.st0 _ c)
  ·unfold B3;rw [if_neg (by omega)];exact hA2 hb
 ·-- each run
  obtain ⟨s1,s2⟩:=hS _ (hmem k hk);obtain ⟨f1,f2,f3,f4,f5⟩:=hf _ _ s1 s2;have hpos:=u0u (hmem k hk);refine ⟨m,rfl,f3,⟨hm,?_⟩,f2,?_⟩
  ·have h1:=PU.has ht f3 (gt w (m:Int));rw [<-f2] at h1;rw [<-h1];exact hpos.1
  ·have e1:gt ((F1 l n a b s.pl (gt w (m:Int)) beg).map (stV l a b s.at_ s.pl s.vals s.fB s.fD beg)) (k:Int)=stV l a b s.at_ s.pl s.vals s.fB s.fD beg ((F1 l n a b s.pl (gt w (m:Int)) beg).getD k 0):=p0H _ hk;refine e1.trans ?_;unfold stV l0i;rw [f4,b0i,i0c,I.at_];have e3:K4 a b s.pl s.fB s.fD beg ((F1 l n a b s.pl (gt w (m:Int)) beg).getD k 0)=l7 ((F0 a b s.pl beg).getD (F4 a b s.pl s.fB s.fD beg ((F1 l n a b s.pl (gt w (m:Int)) beg).getD k 0)) []) ((F1 l n a b s.pl (gt w (m:Int)) beg).getD k 0):=rfl;rw [e3];congr 1;generalize F4 a b s.pl s.fB s.fD beg ((F1 l n a b s.pl (gt w (m:Int)) beg).getD k 0)=q at *;rcases g0P s1 with ⟨c,_⟩ | ⟨c,hb,_⟩
   ·obtain ⟨j,hj,_,_,_,hv⟩:=I.run q c;have e4:B3 m s.pl.length G q=((G q).1,some (G q).2):=if_pos c;rw [e4];have e5:gt (E9 l (m:Int) s.vals beg) (q:Int)=gt s.vals (q:Int):=b0u (by omega) (by rw [I.ok.len];omega);rw [e5,hv];rfl
   ·have e4:B3 m s.pl.length G q=(m,none):=if_neg (by omega);rw [e4];have e5:gt (E9 l (m:Int) s.vals beg) (q:Int)=O7 l (m:Int):=by
     subst hb;exact c08 (by rw [I.ok.len,c])
    rw [e5];rfl
 ·-- which one is ahead
  have hk0:k<(F1 l n a b s.pl (gt w (m:Int)) beg).length:=hk;have hk0':k'<(F1 l n a b s.pl (gt w (m:Int)) beg).length:=hk';have hkk:k≠k':=fun h=>by
   subst h;have:=hC.rk.dd k hk;have e:(s.step l n a b (gt w (m:Int)) beg).fD k k=0:=this;rw [e] at hD;omega
  obtain ⟨s1,s2⟩:=hS _ (hmem k hk);obtain ⟨s1',s2'⟩:=hS _ (hmem k' hk');have x:=hf _ _ s1 s2;have y:=hf _ _ s1' s2';have hrr:(F1 l n a b s.pl (gt w (m:Int)) beg).getD k 0≠(F1 l n a b s.pl (gt w (m:Int)) beg).getD k' 0:=fun h=>hkk (o0A ((n0W _ _ _).imp fun h=>Nat.ne_of_lt h) hk hk' h);have hD':N6 l (Y2 s.pl beg s.fB) (j4 s.pl beg s.fD) ((F1 l n a b s.pl (gt w (m:Int)) beg).map (F4 a b s.pl s.fB s.fD beg)) ((F1 l n a b s.pl (gt w (m:Int)) beg).map (K4 a b s.pl s.fB s.fD beg)) k k'=1:=hD;show c0M _ _ (P5 l (Y2 s.pl beg s.fB) ((F1 l n a b s.pl (gt w (m:Int)) beg).map (F4 a b s.pl s.fB s.fD beg)) ((F1 l n a b s.pl (gt w (m:Int)) beg).map (K4 a b s.pl s.fB s.fD beg)) k k') (P5 l (Y2 s.pl beg s.fB) ((F1 l n a b s.pl (gt w (m:Int)) beg).map (F4 a b s.pl s.fB s.fD beg)) ((F1 l n a b s.pl (gt w (m:Int)) beg).map (K4 a b s.pl s.fB s.fD beg)) k' k);unfold N6 at hD';unfold P5;rw [if_neg hkk,hmapS k hk0,hmapS k' hk0',hmapH k hk0,hmapH k' hk0'] at hD';rw [if_neg hkk,if_neg (Ne.symm hkk),hmapS k hk0,hmapS k' hk0',hmapH k hk0,hmapH k' hk0'];generalize (F1 l n a b s.pl (gt w (m:Int)) beg).getD k 0=r at *;generalize (F1 l n a b s.pl (gt w (m:Int)) beg).getD k' 0=r' at *;have ex:K4 a b s.pl s.fB s.fD beg r=l7 ((F0 a b s.pl beg).getD (F4 a b s.pl s.fB s.fD beg r) []) r:=rfl;have ey:K4 a b s.pl s.fB s.fD beg r'=l7 ((F0 a b s.pl beg).getD (F4 a b s.pl s.fB s.fD beg r') []) r':=rfl;rw [ex,ey] at hD' ⊢;have tx:=(j0a s2).2;have ty:=(j0a s2').2
  by_cases hsame:F4 a b s.pl s.fB s.fD beg r=F4 a b s.pl s.fB s.fD beg r'
  ·rw [if_pos hsame] at hD';rw [if_pos hsame,if_pos hsame.symm];rw [<-hsame] at y hD' s2' ty ⊢;exact x0h ht K.hR x.1 y.1 x.2.2.1 y.2.2.1 (by rw [tx,<-x.2.1]) (by rw [ty,<-y.2.1]) (by rw [tx,ty];omega) hD'
  ·rw [if_neg hsame] at hD';rw [if_neg hsame,if_neg (Ne.symm hsame)];exact I.ag (by rw [<-hWl];exact s1) (by rw [<-hWl];exact s1') hsame x.1 y.1 (trn s1 x.2.2.2.2) (trn s1' y.2.2.2.2) hD'
 ·-- all that come
  have hjm:j=m:=by omega
  subst hjm;obtain ⟨uY,rY⟩:=hY.ok;have hr1:Z2 l (gt w (j:Int)) (Y0 t Y)=true:=by rw [PU.has ht uY];exact rY.2
  have hrn:Y0 t Y<n:=by rw [K.hn,u0z ht];exact uY.plt
  have fin:∀ q,q<(F0 a b s.pl beg).length->(J5 ((F0 a b s.pl beg).getD q []) (Y0 t Y)).isSome=true->LE ((B3 j s.pl.length G q).1,f q (Y0 t Y)) (i,Y)->
    ∃ k,k<(F1 l n a b s.pl (gt w (j:Int)) beg).length/\(F1 l n a b s.pl (gt w (j:Int)) beg).getD k 0=Y0 t Y/\LE ((B3 j s.pl.length G (F4 a b s.pl s.fB s.fD beg ((F1 l n a b s.pl (gt w (j:Int)) beg).getD k 0))).1,f (F4 a b s.pl s.fB s.fD beg ((F1 l n a b s.pl (gt w (j:Int)) beg).getD k 0)) ((F1 l n a b s.pl (gt w (j:Int)) beg).getD k 0)) (i,Y):=by
   intro q q1 q2 q3;have hqm:q∈N1 (F0 a b s.pl beg) (Y0 t Y) (F0 a b s.pl beg).length:=List.mem_filter.2 ⟨List.mem_range.2 q1,q2⟩;have hn:N1 (F0 a b s.pl beg) (Y0 t Y) (F0 a b s.pl beg).length≠[]:=fun h=>by rw [h] at hqm;simp at hqm
   have hmemr:Y0 t Y∈F1 l n a b s.pl (gt w (j:Int)) beg:=by
    refine List.mem_filter.2 ⟨List.mem_range.2 hrn,?_⟩;have hi:(N1 (F0 a b s.pl beg) (Y0 t Y) (F0 a b s.pl beg).length).isEmpty=false:=by
     cases c:N1 (F0 a b s.pl beg) (Y0 t Y) (F0 a b s.pl beg).length with
     |nil=>exact absurd c hn
     |cons _ _=>rfl
    rw [hr1,hi];rfl
   obtain ⟨k,hk,ek⟩:=List.getElem_of_mem hmemr;have ek':(F1 l n a b s.pl (gt w (j:Int)) beg).getD k 0=Y0 t Y:=by simp only [List.getD,List.getElem?_eq_getElem hk,getD_some];exact ek
   refine ⟨k,hk,ek',?_⟩;rw [ek'];have hb:=K3 (Y0 t Y) q hn hqm;rcases hb with h | ⟨h,h'⟩
   ·rcases q3 with g | ⟨g,_⟩
    ·exact .inl (by simp only at h g ⊢;omega)
    ·exact .inl (by simp only at h g ⊢;omega)
   ·rcases h' with h' | ⟨d,h'⟩
    ·simp only at h h';rw [h,h'];exact q3
    ·exact (show LT _ _ from .inr ⟨h,d,h'⟩).le q3
  rcases hY.inv with ⟨rfl,e⟩ | ⟨j0,k0,p,rfl,hp,g⟩
  ·
   have hbeg:=hB2 hBi;subst hbeg;have hq:s.pl.length<(F0 a b s.pl true).length:=by rw [hWl];simp [A5]
   have eW:(F0 a b s.pl true).getD s.pl.length []=a:=by
    rcases g0P (a:=a) (b:=b) hq with ⟨c,_⟩ | ⟨_,_,h⟩
    ·omega
    ·exact h
   obtain ⟨h,h1,h2⟩:=m0W e 0 0 [];rw [zero_add] at h2;have h1':h∈(F0 a b s.pl true).getD s.pl.length []:=by rw [eW,(m0u K hw ht).1];exact h1
   have hwf:=s0T (hgo _ hq).1 h1' h2;have hsome:(J5 ((F0 a b s.pl true).getD s.pl.length []) (Y0 t Y)).isSome=true:=by rw [hwf];rfl
   obtain ⟨f1,f2,_⟩:=hf _ _ hq hsome;refine fin _ hq hsome ?_;have e4:B3 i s.pl.length G s.pl.length=(i,none):=if_neg (by omega);rw [e4] at f1 ⊢;rcases e.first f1.2 f2.symm with h3 | h3
   ·exact .inr ⟨rfl,.inl h3⟩
   ·exact .inr ⟨rfl,.inr h3⟩
  ·
   obtain ⟨up,rp⟩:=hp.ok;have hle:=up.le;obtain ⟨q,q1,q2,q3⟩:=I.cov i j0 p rfl (hB i (by omega) hBi) hp;obtain ⟨h,h1,h2,h3⟩:=y0u g 0 0 1 up;rw [zero_add] at h2;have hq:q<(F0 a b s.pl beg).length:=by
    have:=b0b a b s.pl beg;unfold A5 at this;split at this<;>omega
   have eW:(F0 a b s.pl beg).getD q []=b (s.pl.getD q 0):=by
    rcases g0P (a:=a) (b:=b) hq with ⟨_,h⟩ | ⟨c,_⟩
    ·exact h
    ·omega
   have h1':h∈(F0 a b s.pl beg).getD q []:=by
    rw [eW,q2,(up.ways K hw ht).1];exact (b0y y0.To _).mem_iff.2 h1
   have hwf:=s0T (hgo _ hq).1 h1' h2;have hsome:(J5 ((F0 a b s.pl beg).getD q []) (Y0 t Y)).isSome=true:=by rw [hwf];rfl
   obtain ⟨f1,f2,_⟩:=hf _ _ hq hsome;have hwd:l7 ((F0 a b s.pl beg).getD q []) (Y0 t Y)=h:=by unfold l7;rw [hwf];rfl
   rw [hwd] at f1;refine fin _ hq hsome ?_;have e4:B3 (j0+1) s.pl.length G q=((G q).1,some (G q).2):=if_pos q1;rw [e4] at f1 ⊢;obtain ⟨mm,m1,m2⟩:=f1;have hmn:k0<=mm:=by omega
   rcases q3 with h4 | ⟨h4,h5⟩
   ·exact .inl h4
   ·refine .inr ⟨h4,?_⟩;simp only at h4 h5 ⊢;rcases h5 with h5 | ⟨d,h5⟩
    ·rw [h5] at m2;rcases lt_or_ge k0 mm with c | c
     ·exact .inr ⟨_,g.deep m2 c⟩
     ·have:k0=mm:=by omega
      subst this;exact g.first m2 f2.symm
    ·obtain ⟨j1,hj1,u1,r1,_⟩:=I.run q q1;have hj0:j1=j0:=by omega
     subst hj0;rw [h4] at u1;have M:=h5.move zE u1 up m2.all g;refine .inr ?_;rcases lt_or_ge k0 d with c | c
     ·rcases lt_or_ge k0 mm with c2 | c2
      ·exact ⟨_,M.up c c2⟩
      ·exact ⟨_,M.both (by omega) (by omega)⟩
     ·exact ⟨_,M.far (by omega) c⟩
end
