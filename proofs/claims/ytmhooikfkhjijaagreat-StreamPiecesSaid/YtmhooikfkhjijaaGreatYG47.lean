/- P. Its conditions: none. -/
import Derived.Test.YtmhooikfkhjijaaGreatYG44
import Derived.Test.YtmhooikfkhjijaaGreatYG46
open Nat (lt_or_ge zero_add)
open List (mem_cons mem_filter mem_range mem_cons_of_mem)
open Option (getD_some map_some)
set_option linter.all false
namespace Go.Proofs.YtmhooikfkhjijaaGreat
open Go.V Go.RowKit Old Go.X
def n0U {S ρ:Type}{body:S->Option (V0 S ρ)}(n:Nat)(g:Nat->S)(res:ρ)(d:∀i,i<n->body (g i)=some (.next (g (i+1))))(he:body (g n)=some (.done res)){fu:Nat}(h:n<fu):iter body fu (g 0)=some res:=by
 have key:∀(k i fu:Nat),i+k=n->k<fu->iter body fu (g i)=some res:=by
  intro k
  induction k with
  |zero=>
   intro i fu hi c;obtain⟨fu,rfl⟩:∃m,fu=m+1:=⟨fu-1,by omega⟩
   unfold iter;rw[show i=n by omega,he]
  |succ k ih=>
   intro i fu hi c;obtain⟨fu,rfl⟩:∃m,fu=m+1:=⟨fu-1,by omega⟩
   unfold iter;rw[d i (by omega)];exact ih (i+1) fu (by omega) (by omega)
 exact key n 0 fu (by omega) h
def x0n {ρ:Type}{body:Int->Option (V0 Int ρ)}(n:Nat)(res:ρ)(c:∀i:Nat,i<n->body (i:Int)=some (.next ((i+1:Nat):Int)))(he:body (n:Int)=some (.done res)){fu:Nat}(h:n<fu):iter body fu 0=some res:=
 n0U n (fun i=>(i:Int)) res c he h
def a0v (a b:Int):G1:=if a<0\/b<0 then⟨-1,-1⟩else⟨a,b⟩
def R9 (tags:List Int)(to:Int):Nat->List G1
 |0=>[a0v (gt tags 0) to]
 |k+1=>R9 tags to k++[a0v (gt tags ((2*k+1:Nat):Int)) (gt tags ((2*k+2:Nat):Int))]
def a0x (tags:List Int)(to:Int):List G1:=if tags.length % 2=0 then[]else R9 tags to (tags.length / 2)
def e0a (tags:List Int)(to:Int):∀k,(R9 tags to k).length=k+1
 |0=>rfl
 |k+1=>by simp[R9,e0a tags to k]
def p0M (n:Nat):Int.tmod (n:Int) 2=((n % 2:Nat):Int):=rfl
def B0A {tags:List Int}{to:Int}{fuel:Nat}(hl:tags.length<=1000)(I:2000<fuel):h0P fuel tags to=some (a0x tags to):=by
 unfold h0P a0x;rw[p0M]
 by_cases c:tags.length % 2=0
 ·simp[c]
 have c':(((tags.length % 2:Nat):Int)==0)=false:=by rw[beq_eq_false_iff_ne];omega
 rw[if_neg c];simp only[c',Bool.false_eq_true,if_false];have q:tags.length % 2=1:=by omega
 have h:=n0U (body:=g0v fuel tags to) (fu:=fuel) tags.length (fun i=>((if i=0 then[]else R9 tags to (i / 2)),(i:Int))) (R9 tags to (tags.length / 2)) (fun i hi=>by
  have o:B0 tags (i:Int)=true:=R0 (by omega) (by omega);have hd:(i:Int)<(tags.length:Int):=by omega
  unfold g0v;simp only[q0,hd,o,G3 (show i<=1000000000 by omega),p0M,Nat.succ_ne_zero]
  by_cases r:i=0
  ·subst r;have u:¬((0:Nat):Int)>0:=by omega
   by_cases d:gt tags 0<0
   ·simp[d,R9,a0v,Y4]
   ·by_cases k:to<0
    ·simp[d,k,R9,a0v,Y4]
    ·simp[d,k,R9,a0v,Y4]
  ·have u:(i:Int)>0:=by omega
   simp only[q0,u,r]
   by_cases c2:i % 2=0
   ·have g:(((i % 2:Nat):Int)==0)=true:=by simp[c2]
    have p:(i+1) / 2=i / 2:=by omega
    simp only[g,if_true,G0,p]
   ·have g:(((i % 2:Nat):Int)==0)=false:=by rw[beq_eq_false_iff_ne];omega
    have j:B0 tags ((i+1:Nat):Int)=true:=R0 (by omega) (by omega);have p:(i+1) / 2=i / 2+1:=by omega
    have v:2*(i / 2)+1=i:=by omega
    have x:2*(i / 2)+2=i+1:=by omega
    have f:∀y,I0 16 (R9 tags to (i / 2)) [y]=true:=fun y=>Y4 (by rw[e0a];simp;omega);simp only[q0,g,j,p,R9,v,x]
    by_cases d:gt tags (i:Int)<0
    ·simp[d,a0v,f]
    ·by_cases k:gt tags ((i+1:Nat):Int)<0
     ·simp only[q0,d,k,f,a0v,or_true]
     ·simp only[q0,d,k,f,a0v,or_self]) (by
  unfold g0v;have:¬tags.length=0:=by omega
  simp[this]) (by omega)
 have C:iter (g0v fuel tags to) fuel (([]:List G1),0)=some (R9 tags to (tags.length / 2)):=h;rw[C];rfl
def B0O (tags:List Int)(to:Int)(h:tags.length<=1000):(a0x tags to).length<=1000:=by
 unfold a0x;split
 ·simp
 ·rw[e0a];omega
def h01 {a:List G1}{fuel:Nat}(hl:a.length<=1000)(d:2000<fuel):b08 fuel a a=some true:=by
 unfold b08;have h:=x0n (body:=i0s fuel a a) (fu:=fuel) a.length (.inr ()) (fun i hi=>by
  have c:B0 a (i:Int)=true:=R0 (by omega) (by omega);have hd:(i:Int)<(a.length:Int):=by omega
  unfold i0s;simp[hd,c,G3 (show i<=1000000000 by omega)]) (by unfold i0s;simp) (by omega)
 simp[h]
structure Cs where
 at_:Int
 work:Int
 pl:List Nat
 vals:List (List Int)
 fB:Nat->Nat->Int
 fD:Nat->Nat->Int
def Cs.zero:Cs:=⟨0,0,[],[],fun _ _=>0,fun _ _=>0⟩
def Cs.step (l:List C0)(n:Nat)(a:List y0)(b:Nat->List y0)(s:Cs)(b_:Int)(beg:Bool):Cs:=
 ⟨s.at_+1,s.work+stW l n a b s.pl b_ beg,F1 l n a b s.pl b_ beg,(F1 l n a b s.pl b_ beg).map (stV l a b s.at_ s.pl s.vals s.fB s.fD beg),
  P5 l (Y2 s.pl beg s.fB) ((F1 l n a b s.pl b_ beg).map (F4 a b s.pl s.fB s.fD beg)) ((F1 l n a b s.pl b_ beg).map (K4 a b s.pl s.fB s.fD beg)),
  N6 l (Y2 s.pl beg s.fB) (j4 s.pl beg s.fD) ((F1 l n a b s.pl b_ beg).map (F4 a b s.pl s.fB s.fD beg)) ((F1 l n a b s.pl b_ beg).map (K4 a b s.pl s.fB s.fD beg))⟩
def Cs.L1 (s:Cs)(from_:Int):Cs:=
 let st:=w0h s.vals from_ s.pl.length
 ⟨s.at_,s.work,st.map fun i=>s.pl.getD i 0,st.map fun i:Nat=>gt s.vals (i:Int),fun i k=>s.fB (st.getD i 0) (st.getD k 0),fun i k=>s.fD (st.getD i 0) (st.getD k 0)⟩
section
variable (l:List C0)(n:Nat)(a:List y0)(b:Nat->List y0)(e:Nat->y0×Bool)(z:y0×Bool)
def Cs.C (s:Cs):N3:=B7 l n a b e z s.at_ s.work s.pl s.vals s.fB s.fD
def Cs.X (s:Cs):c0b:=R2 l n a b e s.at_ s.work s.pl s.vals s.fB s.fD
def Cs.K3 (s:Cs):List Int×Bool:=e0c l e s.at_ s.pl s.vals s.fD
end
structure h0B (l:List C0)(n:Nat)(s:Cs)(i:Nat):Prop where
 ok:F6 l n s.pl s.vals s.fB s.fD
 a0:s.at_=i
 w0:0<=s.work
 w1:s.work<=1000000*i
section
variable {F:Nat}{l:List C0}{n:Nat}{a:List y0}{b:Nat->List y0}{e:Nat->y0×Bool}{z:y0×Bool}
def y0F (l:List C0)(n:Nat):h0B l n Cs.zero 0:=⟨u0i l n,rfl,Int.le_refl _,by show(0:Int)<=_;omega⟩
def r0c (K:H5 l n a b e z F)(hw:∀x∈l,o3 x){s:Cs}{i:Nat}(h:h0B l n s i)(hi:i<=100000){b_:Int}(c:Z5 .u8 b_)(beg:Bool):
  e0e F (s.C l n a b e z) b_ beg=some ((s.step l n a b b_ beg).C l n a b e z)/\h0B l n (s.step l n a b b_ beg) (i+1):=by
 have g:=h.a0;have h1:=h.w0;have f:=h.w1;have d:=t09 K h.ok b_ beg;refine⟨y0b K h.ok hw c beg (by omega) (by omega) h1 (by omega),p0i K h.ok hw b_ beg,?_,?_,?_⟩
 ·show s.at_+1=_;omega
 ·show 0<=s.work+_;omega
 ·show s.work+_<=_;omega
def O09 (K:H5 l n a b e z F){s:Cs}{i:Nat}(h:h0B l n s i)(from_:Int):
  h0l F (s.C l n a b e z) from_=some ((s.L1 from_).C l n a b e z)/\h0B l n (s.L1 from_) i:=by
 have s1:=J0o (at_:=s.at_) (work:=s.work) K h.ok from_ rfl;rw[h.ok.len]at s1;exact⟨s1,F0s h.ok (I0b s.vals from_ s.pl.length) (fun i h=>F0X h),h.a0,h.w0,h.w1⟩
def C0B (K:H5 l n a b e z F){s:Cs}{i:Nat}(h:h0B l n s i):g0f F (s.C l n a b e z)=some (s.K3 l e):=y0C K h.ok
end
def LT (g h:Nat×Pp):Prop:=g.1<h.1\/(g.1=h.1/\∃d,Ah d g.2 h.2)
def LE (g h:Nat×Pp):Prop:=g.1<h.1\/(g.1=h.1/\(g.2=h.2\/∃d,Ah d g.2 h.2))
def LT.trans {g h k:Nat×Pp}(a:LT g h)(b:LT h k):LT g k:=by
 rcases a with a|⟨a,d,a'⟩<;>rcases b with b|⟨b,e,b'⟩
 ·exact .inl (by omega)
 ·exact .inl (by omega)
 ·exact .inl (by omega)
 ·exact .inr ⟨by omega,a'.trans b'⟩
def LT.le {g h k:Nat×Pp}(a:LT g h)(b:LE h k):LE g k:=by
 rcases a with a|⟨a,d,a'⟩<;>rcases b with b|⟨b,b'⟩
 ·exact .inl (by omega)
 ·exact .inl (by omega)
 ·exact .inl (by omega)
 ·refine .inr ⟨by omega,.inr ?_⟩;rcases b' with b'|⟨e,b'⟩
  ·exact⟨d,by rw[<-b'];exact a'⟩
  ·exact a'.trans b'
def c0M.lt {g h:Nat×Pp}{b c:Int}(r:c0M g h b c):LT g h:=by
 rcases r with⟨h1,_⟩|⟨h1,d,h2,_⟩
 ·exact .inl h1
 ·exact .inr ⟨h1,d,h2⟩
def E0X {fB fD:Nat->Nat->Int}{fr:List Nat}{hops:List y0}{N:Nat->Nat×Pp}{len:Nat}
  (h1:∀i k,i<len->k<len->i≠k->0<i7 fB fD (fr.getD i 0) (fr.getD k 0) (gt hops (i:Int)) (gt hops (k:Int))->LT (N i) (N k))
  (q:∀i k,i<len->k<len->i≠k->¬0<i7 fB fD (fr.getD i 0) (fr.getD k 0) (gt hops (i:Int)) (gt hops (k:Int))->LT (N k) (N i)):
  ∀k,k<=len->∀j:Nat,c0a fB fD fr hops k=(j:Int)->∀i,i<k->i=j\/LT (N j) (N i):=by
 intro k
 induction k with
 |zero=>intro _ j _ i hi;omega
 |succ k ih=>
  intro hk j g i hi;rw[i0n]at g;unfold e0A at g;rcases l0Q fB fD fr hops k with e|⟨f,e,hj0⟩
  ·rw[e,if_pos (by omega)]at g;have p:k=0:=by
    rcases Nat.eq_zero_or_pos k with h|h
    ·exact h
    ·obtain⟨r,e',_⟩:=s0Z (fB:=fB) (fD:=fD) (fr:=fr) (hops:=hops) k h;rw[e]at e';omega
   exact .inl (by omega)
  ·rw[e,if_neg (by omega),Int.toNat_natCast]at g;have d:=ih (by omega) f e
   by_cases c:0<i7 fB fD (fr.getD k 0) (fr.getD f 0) (gt hops (k:Int)) (gt hops (f:Int))
   ·rw[if_pos c]at g;have:k=j:=by omega
    subst this;have o:=h1 k f (by omega) (by omega) (by omega) c;rcases lt_or_ge i k with c2|c2
    ·rcases d i c2 with h|h
     ·rw[h];exact .inr o
     ·exact .inr (o.trans h)
    ·exact .inl (by omega)
   ·rw[if_neg c]at g;have:f=j:=by omega
    subst this;rcases lt_or_ge i k with c2|c2
    ·exact d i c2
    ·have:i=k:=by omega
     subst this;exact .inr (q i f (by omega) (by omega) (by omega) c)
def fwd (t:Tm)(g:Nat×Pp):List (Nat×Int):=(g.1,O0 (t.top 0)) :: R3 t 0 g.1 g.2
def r8 (l:List C0)(v:List Int)(H7:List (Nat×Int)):List Int:=H7.foldl (fun v e=>S6 (e.1:Int) (-1) v (N4 l [e.2])) v
def b0i (l:List C0)(v:List Int)(a b:List (Nat×Int)):r8 l v (a++b)=r8 l (r8 l v a) b:=List.foldl_append ..
def i0c (l:List C0)(k:Nat):∀(st:List Int) (v:List Int),r8 l v (tm k st)=S6 (k:Int) (-1) v (N4 l st)
 |[],v=>rfl
 |x :: st,v=>by
  have h:=i0c l k st (S6 (k:Int) (-1) v (N4 l [x]));have e:N4 l (x :: st)=N4 l [x]++N4 l st:=by simp[N4]
  rw[e];unfold S6 at h ⊢;rw[List.foldl_append];exact h
def l0i (l:List C0)(t:Tm)(g:Nat×Pp):List Int:=r8 l (O7 l (g.1:Int)) (fwd t g)
structure R7 (w:List Int)(l:List C0)(n:Nat)(t:Tm)(m:Nat)(s:Cs)(G:Nat->Nat×Pp)(A B:Nat->Prop):Prop where
 st0:∀k,k<s.pl.length->A (G k).1
 at_:s.at_=m
 ok:F6 l n s.pl s.vals s.fB s.fD
 run:∀k,k<s.pl.length->∃j,m=j+1/\PU w t (G k).1 j (G k).2/\Rd w t j (G k).2/\s.pl.getD k 0=Y0 t (G k).2/\gt s.vals (k:Int)=l0i l t (G k)
 rel:∀k k',k<s.pl.length->k'<s.pl.length->s.fD k k'=1->c0M (G k) (G k') (s.fB k k') (s.fB k' k)
 cov:∀i j Y,m=j+1->B i->Rch w t i j Y->∃k,k<s.pl.length/\s.pl.getD k 0=Y0 t Y/\LE (G k) (i,Y)
def R7.zero (w:List Int)(l:List C0)(n:Nat)(t:Tm)(G:Nat->Nat×Pp)(A B:Nat->Prop):R7 w l n t 0 Cs.zero G A B where
 st0 k h:=by simp[Cs.zero]at h
 at_:=rfl
 ok:=u0i l n
 run k h:=by simp[Cs.zero]at h
 rel k k' h:=by simp[Cs.zero]at h
 cov i j Y h:=by omega
def R7.less {w:List Int}{l:List C0}{n:Nat}{t:Tm}{m:Nat}{s:Cs}{G:Nat->Nat×Pp}{A B B':Nat->Prop}(h:R7 w l n t m s G A B)(d:∀i,B' i->B i):R7 w l n t m s G A B':=⟨h.st0,h.at_,h.ok,h.run,h.rel,fun i j Y a b c=>h.cov i j Y a (d i b) c⟩
section
variable {F:Nat}{l:List C0}{n:Nat}{a:List y0}{b:Nat->List y0}{e:Nat->y0×Bool}{z:y0×Bool}{t:Tm}{w:List Int}{m:Nat}{s:Cs}{G:Nat->Nat×Pp}{A B:Nat->Prop}
def B3 (m c:Nat)(G:Nat->Nat×Pp)(q:Nat):Nat×Option Pp:=if q<c then((G q).1,some (G q).2)else(m,none)
def fwo (t:Tm):Nat×Option Pp->List (Nat×Int)
 |(_,none)=>[]
 |(i,some p)=>fwd t (i,p)
def g0P {pl:List Nat}{beg:Bool}{q:Nat}(h:q<(F0 a b pl beg).length):(q<pl.length/\(F0 a b pl beg).getD q []=b (pl.getD q 0))\/(q=pl.length/\beg=true/\(F0 a b pl beg).getD q []=a):=by
 have hl:=b0b a b pl beg;unfold A5 at hl;rcases lt_or_ge q pl.length with c|c
 ·refine .inl ⟨c,?_⟩;unfold F0;rw[List.getD_eq_getElem?_getD,List.getElem?_append_left (by simpa using c)];simp[List.getD,c]
 ·cases beg with
  |false=>simp only[Bool.false_eq_true,if_false]at hl;omega
  |true=>
   simp only[if_true]at hl;have:q=pl.length:=by omega
   subst this;refine .inr ⟨rfl,rfl,?_⟩;unfold F0;rw[List.getD_eq_getElem?_getD,List.getElem?_append_right (by simp)];simp
def R7.way (I:R7 w l n t m s G A B)(K:H5 l n a b e z F)(hw:∀x∈l,o3 x)(i:O2 l t){beg:Bool}{q:Nat}(y:q<(F0 a b s.pl beg).length){h:y0}(d:h∈(F0 a b s.pl beg).getD q []):
  ∃p',Wy t (B3 m s.pl.length G q).2 h.Turn p'/\h.To=(Y0 t p':Int)/\PU w t (B3 m s.pl.length G q).1 m p'/\fwd t ((B3 m s.pl.length G q).1,p')=fwo t (B3 m s.pl.length G q)++tm m h.Steps:=by
 rcases g0P y with⟨c,f⟩|⟨c,_,f⟩
 ·rw[f]at d;obtain⟨j,v,u,r,hp,_⟩:=I.run q c;obtain⟨o,_,_⟩:=u.ways K hw i;rw[hp,o]at d;obtain⟨k,p',g1,g2,g3,g4⟩:=l01 u ((b0y y0.To _).mem_iff.1 d);unfold B3;rw[if_pos c,v];refine⟨p',⟨k,by rw[g2];omega,g1⟩,by rw[g3,zero_add],g1.pu e1C u r,?_⟩;simp only[fwd,fwo,g4,List.cons_append]
 ·rw[f,(m0u K hw i).1]at d;obtain⟨p,h1,g⟩:=n02 d;unfold B3;rw[if_neg (by omega)];have hn:=k0Q h1 0 m;exact⟨p,⟨by rw[g],h1⟩,by rw[g,zero_add],h1.pu e1C m,by simp only[fwd,fwo,hn,g,List.nil_append]⟩
def R7.src (I:R7 w l n t m s G A B){beg:Bool}{q f:Nat}(o:q<A5 s.pl beg)(h:f<A5 s.pl beg)(r:q≠f)(g:j4 s.pl beg s.fD q f=1):
  ((B3 m s.pl.length G q).1<(B3 m s.pl.length G f).1/\Y2 s.pl beg s.fB q f=0/\Y2 s.pl beg s.fB f q=0)\/
  ((B3 m s.pl.length G q).1=(B3 m s.pl.length G f).1/\∃u v,(B3 m s.pl.length G q).2=some u/\(B3 m s.pl.length G f).2=some v/\∃d:Nat,Ah d u v/\Y2 s.pl beg s.fB f q=d+2/\(d:Int)+2<=Y2 s.pl beg s.fB q f):=by
 have old:q<s.pl.length->f<s.pl.length->s.fD q f=1->((B3 m s.pl.length G q).1<(B3 m s.pl.length G f).1/\s.fB q f=0/\s.fB f q=0)\/
  ((B3 m s.pl.length G q).1=(B3 m s.pl.length G f).1/\∃u v,(B3 m s.pl.length G q).2=some u/\(B3 m s.pl.length G f).2=some v/\∃d:Nat,Ah d u v/\s.fB f q=d+2/\(d:Int)+2<=s.fB q f):=fun c c' hd=>by
  unfold B3;rw[if_pos c,if_pos c'];rcases I.rel q f c c' hd with⟨h1,k,i⟩|⟨h1,d,k,i,h4⟩
  ·exact .inl ⟨h1,k,i⟩
  ·exact .inr ⟨h1,_,_,rfl,rfl,d,k,i,h4⟩
 cases beg with
 |false=>exact old o h g
 |true=>
  simp only[A5,if_true]at o h;simp only[Y2,j4,if_true]at g ⊢
  by_cases c:q<s.pl.length
  ·by_cases c':f<s.pl.length
   ·have y:c0E s.pl.length s.fD q f=s.fD q f:=if_pos ⟨c,c'⟩;have x:c06 s.pl.length s.fB q f=s.fB q f:=if_pos ⟨c,c'⟩;have p:c06 s.pl.length s.fB f q=s.fB f q:=if_pos ⟨c',c⟩;rw[y]at g;rw[x,p];exact old c c' g
   ·obtain⟨j,C,u,_⟩:=I.run q c;have:=u.le;refine .inl ⟨?_,if_neg (by omega),if_neg (by omega)⟩;unfold B3;rw[if_pos c,if_neg c'];simp only;omega
  ·unfold c0E at g;rw[if_neg (by omega),if_neg (by omega)]at g;split at g<;>omega
def R7.ag (I:R7 w l n t m s G A B){beg:Bool}{q f:Nat}(J:q<A5 s.pl beg)(i:f<A5 s.pl beg)(r:q≠f){x y:y0}{p p':Pp}(hx:Wy t (B3 m s.pl.length G q).2 x.Turn p)(hy:Wy t (B3 m s.pl.length G f).2 y.Turn p')
  (tx:0<=x.Turn/\x.Turn<=400) (ty:0<=y.Turn/\y.Turn<=400) (g:i7 (Y2 s.pl beg s.fB) (j4 s.pl beg s.fD) q f x y=1):
  c0M ((B3 m s.pl.length G q).1,p) ((B3 m s.pl.length G f).1,p') (J4 (Y2 s.pl beg s.fB q f) x.Turn) (J4 (Y2 s.pl beg s.fB f q) y.Turn):=by
 have C:=g03 I.ok beg;have o:∀q,∃j,∀u,(B3 m s.pl.length G q).2=some u->m=j+1/\PU w t (B3 m s.pl.length G q).1 j u:=fun q=>by
  by_cases c:q<s.pl.length
  ·obtain⟨j,hj,u,_⟩:=I.run q c;refine⟨j,fun v k=>?_⟩;unfold B3 at k ⊢;rw[if_pos c]at k ⊢;simp only[Option.some.injEq]at k;subst k;exact⟨hj,u⟩
  ·refine⟨0,fun v k=>?_⟩;unfold B3 at k;rw[if_neg c]at k;cases k
 obtain⟨j1,s1⟩:=o q;obtain⟨j2,s2⟩:=o f;have main:∀{j:Nat},(∀u,(B3 m s.pl.length G q).2=some u->PU w t (B3 m s.pl.length G q).1 j u)->(∀u,(B3 m s.pl.length G f).2=some u->PU w t (B3 m s.pl.length G f).1 j u)->c0M ((B3 m s.pl.length G q).1,p) ((B3 m s.pl.length G f).1,p') (J4 (Y2 s.pl beg s.fB q f) x.Turn) (J4 (Y2 s.pl beg s.fB f q) y.Turn):=by
  intro j U u2;unfold i7 at g;rcases C.d1 q f J i r with d|d
  ·have R:=q0F (I.src J i r d) hx hy U u2 tx ty;refine R.1 ?_
   by_cases c1:J4 (Y2 s.pl beg s.fB q f) x.Turn>J4 (Y2 s.pl beg s.fB f q) y.Turn
   ·omega
   ·rw[if_neg c1]at g
    by_cases c2:J4 (Y2 s.pl beg s.fB q f) x.Turn<J4 (Y2 s.pl beg s.fB f q) y.Turn
    ·rw[if_pos c2]at g;omega
    ·omega
  ·have d':j4 s.pl beg s.fD f q=1:=by rw[C.dn q f J i,d];rfl
   have R:=q0F (I.src i J (Ne.symm r) d') hy hx u2 U ty tx;refine R.2 ?_
   by_cases c1:J4 (Y2 s.pl beg s.fB q f) x.Turn>J4 (Y2 s.pl beg s.fB f q) y.Turn
   ·exact c1
   ·rw[if_neg c1]at g;split at g<;>omega
 rcases Nat.eq_zero_or_pos m with h0|h0
 ·exact main (j:=0) (fun u hu=>by have:=(s1 u hu).1;omega) (fun u hu=>by have:=(s2 u hu).1;omega)
 ·refine main (j:=m-1) (fun u hu=>?_) (fun u hu=>?_)
  ·obtain⟨e,h⟩:=s1 u hu;rw[show m-1=j1 by omega];exact h
  ·obtain⟨e,h⟩:=s2 u hu;rw[show m-1=j2 by omega];exact h
end
section
variable {F:Nat}{l:List C0}{n:Nat}{a:List y0}{b:Nat->List y0}{e:Nat->y0×Bool}{z:y0×Bool}{t:Tm}{w:List Int}{m:Nat}{s:Cs}{G:Nat->Nat×Pp}{A B:Nat->Prop}
def s0T {n:Nat}{ws:List y0}(hd:j8 n ws){h:y0}(g:h∈ws){r:Nat}(d:h.To=(r:Int)):J5 ws r=some h:=by
 cases c:J5 ws r with
 |none=>
  unfold J5 at c;rw[List.find?_eq_none]at c;exact absurd (by simpa using d) (c h g)
 |some x=>
  have h1:=List.mem_of_find?_eq_some c;have i:x.To=(r:Int):=by simpa using List.find?_some c
  by_cases e:x=h
  ·rw[e]
  ·exfalso;have hp:=hd.dist;have:∀{ws:List y0},ws.Pairwise (fun a b=>a.To≠b.To)->x∈ws->h∈ws->False:=by
    intro ws
    induction ws with
    |nil=>intro _ h1 _;simp at h1
    |cons y r ih=>
     intro hp h1 f;obtain⟨p1,j⟩:=List.pairwise_cons.1 hp;rcases mem_cons.1 h1 with m1|m1<;>rcases mem_cons.1 f with m2|m2
     ·exact e (m1.trans m2.symm)
     ·exact p1 h m2 (by rw[<-m1,i,d])
     ·exact p1 x m1 (by rw[<-m2,i,d])
     ·exact ih j m1 m2
   exact this hp h1 g
def o0A {xs:List Nat}(h:xs.Nodup){i k:Nat}(hi:i<xs.length)(hk:k<xs.length)(e:xs.getD i 0=xs.getD k 0):i=k:=by
 simp only[List.getD,List.getElem?_eq_getElem hi,List.getElem?_eq_getElem hk,getD_some]at e;exact(List.getElem_inj h).1 e
def D0e {xs:List Nat}(f:Nat->Nat){k:Nat}(h:k<xs.length):(xs.map f).getD k 0=f (xs.getD k 0):=by
 simp only[List.getD,List.getElem?_map,List.getElem?_eq_getElem h,map_some,getD_some]
def p0H {β:Type}[Inhabited β]{xs:List Nat}(f:Nat->β){k:Nat}(h:k<xs.length):gt (xs.map f) (k:Int)=f (xs.getD k 0):=
 B4 (by simp only[List.getD,List.getElem?_map,List.getElem?_eq_getElem h,map_some,getD_some])
def Rch.inv {i j:Nat}{Y:Pp}(h:Rch w t i j Y):(i=j/\En P3 t Y)\/∃c k p,j=c+1/\Rch w t i c p/\Go P3 t k p Y:=by
 cases h with
 |beg e _=>exact .inl ⟨rfl,e⟩
 |step h g _=>exact .inr ⟨_,_,_,rfl,h,g⟩
def t0O (c:List (List y0))(r k:Nat):(N1 c r k).Nodup:=List.Pairwise.filter _ List.nodup_range
def u0f {c:List (List y0)}{r k i:Nat}(h:i<(N1 c r k).length):gt (n5 c r k) (i:Int)=l7 (c.getD ((N1 c r k).getD i 0) []) r:=by
 refine B4 ?_;unfold n5;simp[List.getD,h]
def L0L {fB fD:Nat->Nat->Int}{c:List (List y0)}{r M:Nat}{N:Nat->Nat×Pp}(j:a0s M fB fD)(d:∀q,q∈N1 c r c.length->q<M)
  (o:∀q u,q∈N1 c r c.length->u∈N1 c r c.length->q≠u->i7 fB fD q u (l7 (c.getD q []) r) (l7 (c.getD u []) r)=1->LT (N q) (N u)) {q:Nat} (v:q∈N1 c r c.length):LE (N (d0W fB fD c r)) (N q):=by
 have hn:N1 c r c.length≠[]:=fun h=>by rw[h]at v;simp at v
 obtain⟨x,y⟩:=i09 (fB:=fB) (fD:=fD) hn;have hH:=fun i (hi:i<(N1 c r c.length).length)=>u0f hi;unfold d0W;have hd:=t0O c r c.length;generalize a0K fB fD c r=pk at *;generalize n5 c r c.length=H at *;generalize N1 c r c.length=C at *;have el:∀i,i<C.length->C.getD i 0∈C:=fun i hi=>by
  simp only[List.getD,List.getElem?_eq_getElem hi,getD_some];exact List.getElem_mem hi
 have ne:∀i k,i<C.length->k<C.length->i≠k->C.getD i 0≠C.getD k 0:=fun i k hi hk h g=>h (o0A hd hi hk g);obtain⟨i,hi,rfl⟩:∃i,i<C.length/\C.getD i 0=q:=by
  obtain⟨i,hi,e⟩:=List.getElem_of_mem v;exact⟨i,hi,by simp only[List.getD,List.getElem?_eq_getElem hi,getD_some];exact e⟩
 have:=E0X (fB:=fB) (fD:=fD) (fr:=C) (hops:=H) (len:=C.length) (N:=fun i=>N (C.getD i 0)) (fun i k hi hk f h=>?_) (fun i k hi hk f h=>?_) _ (Nat.le_refl _) _ x i hi
 ·rcases this with h|h
  ·exact .inr ⟨by rw[h],.inl (by rw[h])⟩
  ·rcases h with h|⟨h,g⟩
   ·exact .inl h
   ·exact .inr ⟨h,.inr g⟩
 ·rw[hH i hi,hH k hk]at h;refine o _ _ (el i hi) (el k hk) (ne i k hi hk f) ?_;rcases p0F (fB:=fB) (fD:=fD) (p:=l7 (c.getD (C.getD i 0) []) r) (q:=l7 (c.getD (C.getD k 0) []) r) (j.d1 _ _ (d _ (el i hi)) (d _ (el k hk)) (ne i k hi hk f))with g|g
  ·exact g
  ·omega
 ·rw[hH i hi,hH k hk]at h;refine o _ _ (el k hk) (el i hi) (ne k i hk hi (Ne.symm f)) ?_;rw[t0B (j.dn _ _ (d _ (el i hi)) (d _ (el k hk)))];rcases p0F (fB:=fB) (fD:=fD) (p:=l7 (c.getD (C.getD i 0) []) r) (q:=l7 (c.getD (C.getD k 0) []) r) (j.d1 _ _ (d _ (el i hi)) (d _ (el k hk)) (ne i k hi hk f))with g|g
  ·omega
  ·rw[g];rfl
def R7.news (I:R7 w l n t m s G A B)(K:H5 l n a b e z F)(hw:∀x∈l,o3 x)(h:O2 l t)(beg:Bool):∃f:Nat->Nat->Pp,∀q r,q<(F0 a b s.pl beg).length->(J5 ((F0 a b s.pl beg).getD q []) r).isSome=true->
  Wy t (B3 m s.pl.length G q).2 (l7 ((F0 a b s.pl beg).getD q []) r).Turn (f q r)/\r=Y0 t (f q r)/\PU w t (B3 m s.pl.length G q).1 m (f q r)/\fwd t ((B3 m s.pl.length G q).1,f q r)=fwo t (B3 m s.pl.length G q)++tm m (l7 ((F0 a b s.pl beg).getD q []) r).Steps/\
  (l7 ((F0 a b s.pl beg).getD q []) r)∈(F0 a b s.pl beg).getD q []:=by
 have:∀q r,∃p,q<(F0 a b s.pl beg).length->(J5 ((F0 a b s.pl beg).getD q []) r).isSome=true->
  Wy t (B3 m s.pl.length G q).2 (l7 ((F0 a b s.pl beg).getD q []) r).Turn p/\r=Y0 t p/\PU w t (B3 m s.pl.length G q).1 m p/\fwd t ((B3 m s.pl.length G q).1,p)=fwo t (B3 m s.pl.length G q)++tm m (l7 ((F0 a b s.pl beg).getD q []) r).Steps/\
  (l7 ((F0 a b s.pl beg).getD q []) r)∈(F0 a b s.pl beg).getD q []:=fun q r=>by
  by_cases c:q<(F0 a b s.pl beg).length/\(J5 ((F0 a b s.pl beg).getD q []) r).isSome=true
  ·obtain⟨h1,d⟩:=j0a c.2;obtain⟨p,p1,i,j,g⟩:=I.way K hw h c.1 h1;exact⟨p,fun _ _=>⟨p1,by rw[d]at i;omega,j,g,h1⟩⟩
  ·exact⟨.leaf,fun h1 d=>absurd ⟨h1,d⟩ c⟩
 exact⟨fun q r=>Classical.choose (this q r),fun q r=>Classical.choose_spec (this q r)⟩
def R7.step (I:R7 w l n t m s G A B)(K:H5 l n a b e z F)(hw:∀x∈l,o3 x)(ht:O2 l t)(hm:m<w.length)(beg:Bool){A' B':Nat->Prop}(hA:∀i,A i->A' i)(j3:beg=true->A' m)(hB:∀i,i<m->B' i->B i)(k3:B' m->beg=true):
  ∃G',R7 w l n t (m+1) (s.step l n a b (gt w (m:Int)) beg) G' A' B':=by
 obtain⟨f,hf⟩:=I.news K hw ht beg;have b1:=b0b a b s.pl beg;have hC:=p0i (at_:=s.at_) K I.ok hw (gt w (m:Int)) beg;have c6:=g0i K I.ok beg;have c8:∀r,r∈F1 l n a b s.pl (gt w (m:Int)) beg->N1 (F0 a b s.pl beg) r (F0 a b s.pl beg).length≠[]:=fun r hr=>(d0n hr).2;have v:∀q r,q∈N1 (F0 a b s.pl beg) r (F0 a b s.pl beg).length->q<(F0 a b s.pl beg).length/\(J5 ((F0 a b s.pl beg).getD q []) r).isSome=true:=fun q r h=>⟨l0Y h,(mem_filter.1 h).2⟩
 have b3:∀{q:Nat} {h:y0},q<(F0 a b s.pl beg).length->h∈(F0 a b s.pl beg).getD q []->0<=h.Turn/\h.Turn<=400:=fun hq hh=>by
  have:=(c6 _ hq).2.2.1 _ hh;exact⟨this.t0,this.t1⟩
 have K3:∀r q,q∈N1 (F0 a b s.pl beg) r (F0 a b s.pl beg).length->
   LE ((B3 m s.pl.length G (F4 a b s.pl s.fB s.fD beg r)).1,f (F4 a b s.pl s.fB s.fD beg r) r) ((B3 m s.pl.length G q).1,f q r):=fun r q hq=>
  L0L (N:=fun q=>((B3 m s.pl.length G q).1,f q r)) (g03 I.ok beg) (fun q h=>Nat.lt_of_lt_of_eq (v _ _ h).1 b1) (fun q q' h h' c8 k2=>by
   obtain⟨i1,i2⟩:=v _ _ h;obtain⟨j1,j2⟩:=v _ _ h';have x:=hf _ r i1 i2;have y:=hf _ r j1 j2;exact(I.ag (Nat.lt_of_lt_of_eq i1 b1) (Nat.lt_of_lt_of_eq j1 b1) c8 x.1 y.1 (b3 i1 x.2.2.2.2) (b3 j1 y.2.2.2.2) k2).lt) hq
 refine⟨fun k=>((B3 m s.pl.length G (F4 a b s.pl s.fB s.fD beg ((F1 l n a b s.pl (gt w (m:Int)) beg).getD k 0))).1,f (F4 a b s.pl s.fB s.fD beg ((F1 l n a b s.pl (gt w (m:Int)) beg).getD k 0)) ((F1 l n a b s.pl (gt w (m:Int)) beg).getD k 0)),?_⟩;have U:∀k,k<(F1 l n a b s.pl (gt w (m:Int)) beg).length->(F1 l n a b s.pl (gt w (m:Int)) beg).getD k 0∈F1 l n a b s.pl (gt w (m:Int)) beg:=fun k hk=>by
  simp only[List.getD,List.getElem?_eq_getElem hk,getD_some];exact List.getElem_mem hk
 have hS:∀r,r∈F1 l n a b s.pl (gt w (m:Int)) beg->F4 a b s.pl s.fB s.fD beg r<(F0 a b s.pl beg).length/\(J5 ((F0 a b s.pl beg).getD (F4 a b s.pl s.fB s.fD beg r) []) r).isSome=true:=fun r hr=>v _ _ (m0s (c8 r hr));have C:∀k,k<(F1 l n a b s.pl (gt w (m:Int)) beg).length->((F1 l n a b s.pl (gt w (m:Int)) beg).map (F4 a b s.pl s.fB s.fD beg)).getD k 0=F4 a b s.pl s.fB s.fD beg ((F1 l n a b s.pl (gt w (m:Int)) beg).getD k 0):=fun k hk=>D0e _ hk;have J:∀k,k<(F1 l n a b s.pl (gt w (m:Int)) beg).length->gt ((F1 l n a b s.pl (gt w (m:Int)) beg).map (K4 a b s.pl s.fB s.fD beg)) (k:Int)=K4 a b s.pl s.fB s.fD beg ((F1 l n a b s.pl (gt w (m:Int)) beg).getD k 0):=fun k hk=>p0H _ hk;refine⟨fun k hk=>?_,by show s.at_+1=_;rw[I.at_];omega,hC,fun k hk=>?_,fun k k' hk e9 hD=>?_,fun i j Y hj h8 hY=>?_⟩
 ·obtain⟨s1,_⟩:=hS _ (U k hk);simp only;rcases g0P s1 with⟨c,_⟩|⟨c,hb,_⟩
  ·unfold B3;rw[if_pos c];exact hA _ (I.st0 _ c)
  ·unfold B3;rw[if_neg (by omega)];exact j3 hb
 ·-- each run
  obtain⟨s1,s2⟩:=hS _ (U k hk);obtain⟨f1,f2,f3,f4,f5⟩:=hf _ _ s1 s2;have h0:=u0u (U k hk);refine⟨m,rfl,f3,⟨hm,?_⟩,f2,?_⟩
  ·have h1:=PU.has ht f3 (gt w (m:Int));rw[<-f2]at h1;rw[<-h1];exact h0.1
  ·have e1:gt ((F1 l n a b s.pl (gt w (m:Int)) beg).map (stV l a b s.at_ s.pl s.vals s.fB s.fD beg)) (k:Int)=stV l a b s.at_ s.pl s.vals s.fB s.fD beg ((F1 l n a b s.pl (gt w (m:Int)) beg).getD k 0):=p0H _ hk;refine e1.trans ?_;unfold stV l0i;rw[f4,b0i,i0c,I.at_];have e3:K4 a b s.pl s.fB s.fD beg ((F1 l n a b s.pl (gt w (m:Int)) beg).getD k 0)=l7 ((F0 a b s.pl beg).getD (F4 a b s.pl s.fB s.fD beg ((F1 l n a b s.pl (gt w (m:Int)) beg).getD k 0)) []) ((F1 l n a b s.pl (gt w (m:Int)) beg).getD k 0):=rfl;rw[e3];congr 1;generalize F4 a b s.pl s.fB s.fD beg ((F1 l n a b s.pl (gt w (m:Int)) beg).getD k 0)=q at *;rcases g0P s1 with⟨c,_⟩|⟨c,hb,_⟩
   ·obtain⟨j,hj,_,_,_,hv⟩:=I.run q c;have e4:B3 m s.pl.length G q=((G q).1,some (G q).2):=if_pos c;rw[e4];have e5:gt (E9 l (m:Int) s.vals beg) (q:Int)=gt s.vals (q:Int):=b0u (by omega) (by rw[I.ok.len];omega);rw[e5,hv];rfl
   ·have e4:B3 m s.pl.length G q=(m,none):=if_neg (by omega);rw[e4];have e5:gt (E9 l (m:Int) s.vals beg) (q:Int)=O7 l (m:Int):=by
     subst hb;exact c08 (by rw[I.ok.len,c])
    rw[e5];rfl
 ·-- which one is ahead
  have b5:k<(F1 l n a b s.pl (gt w (m:Int)) beg).length:=hk;have a1:k'<(F1 l n a b s.pl (gt w (m:Int)) beg).length:=e9;have b4:k≠k':=fun h=>by
   subst h;have:=hC.rk.dd k hk;have e:(s.step l n a b (gt w (m:Int)) beg).fD k k=0:=this;rw[e]at hD;omega
  obtain⟨s1,s2⟩:=hS _ (U k hk);obtain⟨c3,c4⟩:=hS _ (U k' e9);have x:=hf _ _ s1 s2;have y:=hf _ _ c3 c4;have k8:(F1 l n a b s.pl (gt w (m:Int)) beg).getD k 0≠(F1 l n a b s.pl (gt w (m:Int)) beg).getD k' 0:=fun h=>b4 (o0A ((n0W _ _ _).imp fun h=>Nat.ne_of_lt h) hk e9 h);have R:N6 l (Y2 s.pl beg s.fB) (j4 s.pl beg s.fD) ((F1 l n a b s.pl (gt w (m:Int)) beg).map (F4 a b s.pl s.fB s.fD beg)) ((F1 l n a b s.pl (gt w (m:Int)) beg).map (K4 a b s.pl s.fB s.fD beg)) k k'=1:=hD;show c0M _ _ (P5 l (Y2 s.pl beg s.fB) ((F1 l n a b s.pl (gt w (m:Int)) beg).map (F4 a b s.pl s.fB s.fD beg)) ((F1 l n a b s.pl (gt w (m:Int)) beg).map (K4 a b s.pl s.fB s.fD beg)) k k') (P5 l (Y2 s.pl beg s.fB) ((F1 l n a b s.pl (gt w (m:Int)) beg).map (F4 a b s.pl s.fB s.fD beg)) ((F1 l n a b s.pl (gt w (m:Int)) beg).map (K4 a b s.pl s.fB s.fD beg)) k' k);unfold N6 at R;unfold P5;rw[if_neg b4,C k b5,C k' a1,J k b5,J k' a1]at R;rw[if_neg b4,if_neg (Ne.symm b4),C k b5,C k' a1,J k b5,J k' a1];generalize (F1 l n a b s.pl (gt w (m:Int)) beg).getD k 0=r at *;generalize (F1 l n a b s.pl (gt w (m:Int)) beg).getD k' 0=r' at *;have ex:K4 a b s.pl s.fB s.fD beg r=l7 ((F0 a b s.pl beg).getD (F4 a b s.pl s.fB s.fD beg r) []) r:=rfl;have ey:K4 a b s.pl s.fB s.fD beg r'=l7 ((F0 a b s.pl beg).getD (F4 a b s.pl s.fB s.fD beg r') []) r':=rfl;rw[ex,ey]at R ⊢;have tx:=(j0a s2).2;have ty:=(j0a c4).2
  by_cases o:F4 a b s.pl s.fB s.fD beg r=F4 a b s.pl s.fB s.fD beg r'
  ·rw[if_pos o]at R;rw[if_pos o,if_pos o.symm];rw[<-o]at y R c4 ty ⊢;exact x0h ht K.hR x.1 y.1 x.2.2.1 y.2.2.1 (by rw[tx,<-x.2.1]) (by rw[ty,<-y.2.1]) (by rw[tx,ty];omega) R
  ·rw[if_neg o]at R;rw[if_neg o,if_neg (Ne.symm o)];exact I.ag (by rw[<-b1];exact s1) (by rw[<-b1];exact c3) o x.1 y.1 (b3 s1 x.2.2.2.2) (b3 c3 y.2.2.2.2) R
 ·-- all that come
  have h9:j=m:=by omega
  subst h9;obtain⟨uY,rY⟩:=hY.ok;have k1:Z2 l (gt w (j:Int)) (Y0 t Y)=true:=by rw[PU.has ht uY];exact rY.2
  have k4:Y0 t Y<n:=by rw[K.hn,u0z ht];exact uY.plt
  have fin:∀q,q<(F0 a b s.pl beg).length->(J5 ((F0 a b s.pl beg).getD q []) (Y0 t Y)).isSome=true->LE ((B3 j s.pl.length G q).1,f q (Y0 t Y)) (i,Y)->
    ∃k,k<(F1 l n a b s.pl (gt w (j:Int)) beg).length/\(F1 l n a b s.pl (gt w (j:Int)) beg).getD k 0=Y0 t Y/\LE ((B3 j s.pl.length G (F4 a b s.pl s.fB s.fD beg ((F1 l n a b s.pl (gt w (j:Int)) beg).getD k 0))).1,f (F4 a b s.pl s.fB s.fD beg ((F1 l n a b s.pl (gt w (j:Int)) beg).getD k 0)) ((F1 l n a b s.pl (gt w (j:Int)) beg).getD k 0)) (i,Y):=by
   intro q q1 q2 q3;have c0:q∈N1 (F0 a b s.pl beg) (Y0 t Y) (F0 a b s.pl beg).length:=mem_filter.2 ⟨mem_range.2 q1,q2⟩;have hn:N1 (F0 a b s.pl beg) (Y0 t Y) (F0 a b s.pl beg).length≠[]:=fun h=>by rw[h]at c0;simp at c0
   have e2:Y0 t Y∈F1 l n a b s.pl (gt w (j:Int)) beg:=by
    refine mem_filter.2 ⟨mem_range.2 k4,?_⟩;have hi:(N1 (F0 a b s.pl beg) (Y0 t Y) (F0 a b s.pl beg).length).isEmpty=false:=by
     cases c:N1 (F0 a b s.pl beg) (Y0 t Y) (F0 a b s.pl beg).length with
     |nil=>exact absurd c hn
     |cons _ _=>rfl
    rw[k1,hi];rfl
   obtain⟨k,hk,ek⟩:=List.getElem_of_mem e2;have h7:(F1 l n a b s.pl (gt w (j:Int)) beg).getD k 0=Y0 t Y:=by simp only[List.getD,List.getElem?_eq_getElem hk,getD_some];exact ek
   refine⟨k,hk,h7,?_⟩;rw[h7];have hb:=K3 (Y0 t Y) q c0;rcases hb with h|⟨h,h'⟩
   ·rcases q3 with g|⟨g,_⟩
    ·exact .inl (by simp only at h g ⊢;omega)
    ·exact .inl (by simp only at h g ⊢;omega)
   ·rcases h' with h'|⟨d,h'⟩
    ·simp only at h h';rw[h,h'];exact q3
    ·exact(show LT _ _ from .inr ⟨h,d,h'⟩).le q3
  rcases hY.inv with⟨rfl,e⟩|⟨j0,k0,p,rfl,hp,g⟩
  ·
   have h6:=k3 h8;subst h6;have hq:s.pl.length<(F0 a b s.pl true).length:=by rw[b1];simp[A5]
   have eW:(F0 a b s.pl true).getD s.pl.length []=a:=by
    rcases g0P (a:=a) (b:=b) hq with⟨c,_⟩|⟨_,_,h⟩
    ·omega
    ·exact h
   obtain⟨h,h1,h2⟩:=m0W e 0 0 [];rw[zero_add]at h2;have c5:h∈(F0 a b s.pl true).getD s.pl.length []:=by rw[eW,(m0u K hw ht).1];exact h1
   have b2:=s0T (c6 _ hq).1 c5 h2;have u:(J5 ((F0 a b s.pl true).getD s.pl.length []) (Y0 t Y)).isSome=true:=by rw[b2];rfl
   obtain⟨f1,f2,_⟩:=hf _ _ hq u;refine fin _ hq u ?_;have e4:B3 i s.pl.length G s.pl.length=(i,none):=if_neg (by omega);rw[e4]at f1 ⊢;rcases e.first f1.2 f2.symm with h3|h3
   ·exact .inr ⟨rfl,.inl h3⟩
   ·exact .inr ⟨rfl,.inr h3⟩
  ·
   obtain⟨up,rp⟩:=hp.ok;have hle:=up.le;obtain⟨q,q1,q2,q3⟩:=I.cov i j0 p rfl (hB i (by omega) h8) hp;obtain⟨h,h1,h2,h3⟩:=y0u g 0 0 1 up;rw[zero_add]at h2;have hq:q<(F0 a b s.pl beg).length:=by
    have:=b0b a b s.pl beg;unfold A5 at this;split at this<;>omega
   have eW:(F0 a b s.pl beg).getD q []=b (s.pl.getD q 0):=by
    rcases g0P (a:=a) (b:=b) hq with⟨_,h⟩|⟨c,_⟩
    ·exact h
    ·omega
   have c5:h∈(F0 a b s.pl beg).getD q []:=by
    rw[eW,q2,(up.ways K hw ht).1];exact(b0y y0.To _).mem_iff.2 h1
   have b2:=s0T (c6 _ hq).1 c5 h2;have u:(J5 ((F0 a b s.pl beg).getD q []) (Y0 t Y)).isSome=true:=by rw[b2];rfl
   obtain⟨f1,f2,_⟩:=hf _ _ hq u;have k6:l7 ((F0 a b s.pl beg).getD q []) (Y0 t Y)=h:=by unfold l7;rw[b2];rfl
   rw[k6]at f1;refine fin _ hq u ?_;have e4:B3 (j0+1) s.pl.length G q=((G q).1,some (G q).2):=if_pos q1;rw[e4]at f1 ⊢;obtain⟨mm,m1,m2⟩:=f1;have l1:k0<=mm:=by omega
   rcases q3 with h4|⟨h4,h5⟩
   ·exact .inl h4
   ·refine .inr ⟨h4,?_⟩;simp only at h4 h5 ⊢;rcases h5 with h5|⟨d,h5⟩
    ·rw[h5]at m2;rcases lt_or_ge k0 mm with c|c
     ·exact .inr ⟨_,g.deep m2 c⟩
     ·have:k0=mm:=by omega
      subst this;exact g.first m2 f2.symm
    ·obtain⟨j1,l0,u1,r1,_⟩:=I.run q q1;have k5:j1=j0:=by omega
     subst k5;rw[h4]at u1;have M:=h5.move zE u1 up m2.all g;refine .inr ?_;rcases lt_or_ge k0 d with c|c
     ·rcases lt_or_ge k0 mm with c2|c2
      ·exact⟨_,M.up c c2⟩
      ·exact⟨_,M.both (by omega) (by omega)⟩
     ·exact⟨_,M.far (by omega) c⟩
end
def m09 {fD:Nat->Nat->Int}{N:Nat->Nat×Pp}:∀(of:List Nat) (d:Nat),(∀i k,i∈d :: of->k∈d :: of->i≠k->(0<fD i k->LT (N i) (N k))/\(¬0<fD i k->LT (N k) (N i)))->
  ∃j:Nat,of.foldl (a0U fD) (d:Int)=(j:Int)/\j∈d :: of/\∀i,i∈d :: of->i=j\/LT (N j) (N i)
 |[],d,_=>⟨d,rfl,by simp,fun i hi=>.inl (by simpa using hi)⟩
 |x :: r,d,h=>by
  have u:¬((d:Int)<0):=by omega
  have q:a0U fD (d:Int) x=if 0<fD x d then(x:Int)else(d:Int):=by unfold a0U;rw[if_neg u,Int.toNat_natCast]
  rw[List.foldl_cons,q]
  by_cases c:0<fD x d
  ·rw[if_pos c];obtain⟨j,p,o,f⟩:=m09 r x (fun i k hi hk=>h i k (mem_cons_of_mem _ hi) (mem_cons_of_mem _ hk));refine⟨j,p,mem_cons_of_mem _ o,fun i hi=>?_⟩;rcases mem_cons.1 hi with rfl|hi
   ·by_cases g:x=i
    ·subst g;exact f x (by simp)
    ·have h1:=(h x i (by simp) (by simp) g).1 c;rcases f x (by simp)with e|e
     ·exact .inr (by rw[<-e];exact h1)
     ·exact .inr (e.trans h1)
   ·exact f i hi
  ·rw[if_neg c];obtain⟨j,p,o,f⟩:=m09 r d (fun i k hi hk=>h i k (by rcases mem_cons.1 hi with rfl|hi<;>simp[*]) (by rcases mem_cons.1 hk with rfl|hk<;>simp[*]));refine⟨j,p,by rcases mem_cons.1 o with rfl|o<;>simp[*],fun i hi=>?_⟩;rcases mem_cons.1 hi with rfl|hi
   ·exact f i (by simp)
   ·rcases mem_cons.1 hi with rfl|hi
    ·by_cases g:i=d
     ·subst g;exact f i (by simp)
     ·have h1:=(h i d (by simp) (by simp) g).2 c;rcases f d (by simp)with e|e
      ·exact .inr (by rw[<-e];exact h1)
      ·exact .inr (e.trans h1)
    ·exact f i (mem_cons_of_mem _ hi)
section
variable {F:Nat}{l:List C0}{n:Nat}{a:List y0}{b:Nat->List y0}{e:Nat->y0×Bool}{z:y0×Bool}{t:Tm}{w:List Int}{m:Nat}{s:Cs}{G:Nat->Nat×Pp}{A B:Nat->Prop}
def v0u {w:List Int}{s:Tm}{i j:Nat}{p:Pp}(u:PU w s i j p):∀lo,L4 s lo p≠[]:=by
 induction u with
 |more _ _ _ c=>exact c
 |_=>intro lo;simp[L4]
def PU.ends (K:H5 l n a b e z F)(hw:∀x∈l,o3 x)(c:O2 l t){i j:Nat}{p:Pp}(u:PU w t i j p):(e (Y0 t p)).2=X4 t p/\(X4 t p=true->(e (Y0 t p)).1.Steps=L4 t 0 p):=by
 rw[(u.ways K hw c).2.1];have h:=v0u u 0;cases X4 t p<;>simp[o8,h]
structure y0i (w:List Int)(l:List C0)(t:Tm)(m:Nat)(B:Nat->Prop)(tags:List Int)(i:Nat)(P:Pt):Prop where
 fit:Fit w t i P
 wid:i+P.wid=m
 pos:0<P.wid
 tag:tags=r8 l (O7 l (i:Int)) (U3 t 0 i P)
 all:∀i' Q,B i'->Fit w t i' Q->i'+Q.wid=m->0<Q.wid->i<i'\/(i=i'/\(P=Q\/PA P Q))
def R7.K3 (I:R7 w l n t m s G A B)(K:H5 l n a b e z F)(hw:∀x∈l,o3 x)(ht:O2 l t):
  ((s.K3 l e).2=true->∃k P,k<s.pl.length/\y0i w l t m B (s.K3 l e).1 (G k).1 P)/\((s.K3 l e).2=false->∀i Q,B i->Fit w t i Q->i+Q.wid=m->0<Q.wid->False):=by
 have p:∀k,k<s.pl.length->((e (s.pl.getD k 0)).2=true->∃P,Cl O5 t (G k).2 P):=fun k hk h=>by
  obtain⟨j,_,u,_,hp,_⟩:=I.run k hk;rw[hp,(u.ends K hw ht).1]at h;exact u.cl h
 have cover:∀i Q,B i->Fit w t i Q->i+Q.wid=m->0<Q.wid->∃k,k∈W7 e s.pl s.pl.length/\∀P,Cl O5 t (G k).2 P->(G k).1<i\/((G k).1=i/\(P=Q\/PA P Q)):=by
  intro i Q hB hQ hm a1;obtain⟨Y,j,y1,y2,y3⟩:=hQ.rch a1;obtain⟨uY,rY⟩:=y1.ok;obtain⟨k,o,k2,y⟩:=I.cov i j Y (by omega) hB y1;have R:=(uY.ends K hw ht).1;rw[y3.may,<-k2]at R;refine⟨k,mem_filter.2 ⟨mem_range.2 o,R⟩,fun P g=>?_⟩;rcases y with y|⟨y,k4⟩
  ·exact .inl y
  ·refine .inr ⟨y,?_⟩;simp only at y k4;rcases k4 with k4|⟨d,k4⟩
   ·rw[k4]at g;exact(y3.first g).2
   ·obtain⟨j',b5,u,_⟩:=I.run k o;have:j'=j:=by omega
    subst this;rw[y]at u;exact .inr (k4.close zE u uY g.all y3)
 cases U:W7 e s.pl s.pl.length with
 |nil=>
  have hb:s.K3 l e=([],false):=by unfold Cs.K3 e0c;rw[U];rfl
  rw[hb];refine⟨fun h=>absurd h (by simp),fun _ i Q h1 R h3 h4=>?_⟩;obtain⟨k,o,_⟩:=cover i Q h1 R h3 h4;rw[U]at o;simp at o
 |cons j0 of=>
  have c:∀k,k∈j0 :: of->k<s.pl.length/\(e (s.pl.getD k 0)).2=true:=fun k hk=>by
   rw[<-U]at hk;exact⟨j0D hk,(mem_filter.1 hk).2⟩
  have c0:∀i k,i<s.pl.length->k<s.pl.length->i≠k->0<s.fD i k->LT (G i) (G k):=fun i k hi hk f h=>by
   rcases I.ok.rk.d1 i k hi hk f with h1|h1
   ·exact(I.rel i k hi hk h1).lt
   ·omega
  have c4:∀i k,i<s.pl.length->k<s.pl.length->i≠k->¬0<s.fD i k->LT (G k) (G i):=fun i k hi hk f h=>by
   rcases I.ok.rk.d1 i k hi hk f with h1|h1
   ·omega
   ·exact(I.rel k i hk hi (by rw[I.ok.rk.dn i k hi hk,h1];rfl)).lt
  obtain⟨j,e1,e2,e3⟩:=m09 (fD:=s.fD) (N:=G) of j0 (fun i k hi hk f=>⟨c0 i k (c i hi).1 (c k hk).1 f,c4 i k (c i hi).1 (c k hk).1 f⟩);have c3:q9 s.fD (W7 e s.pl s.pl.length)=(j:Int):=by
   rw[U];unfold q9;rw[List.foldl_cons];have:a0U s.fD (-1) j0=(j0:Int):=by unfold a0U;rw[if_pos (by omega)]
   rw[this];exact e1
  obtain⟨hj,q⟩:=c j e2;obtain⟨P,g⟩:=p j hj q;obtain⟨jj,b4,u,r,hp,hv⟩:=I.run j hj;have C:s.K3 l e=(S6 s.at_ (-1) (gt s.vals (j:Int)) (N4 l (e (s.pl.getD j 0)).1.Steps),true):=by
   unfold Cs.K3 e0c;rw[c3,if_neg (by omega),Int.toNat_natCast]
  rw[C];refine⟨fun _=>⟨j,P,hj,?_⟩,fun h=>absurd h (by simp)⟩;have c5:=g.wid zC u;refine⟨g.fit e1C u r,by omega,g.pos zC u,?_,fun i' Q h1 R h3 h4=>?_⟩
  ·have b2:=n0e u 0 g;rw[hp,(u.ends K hw ht).1]at q;simp only;rw[hp,(u.ends K hw ht).2 q,hv,I.at_,b2,<-b4];unfold l0i fwd;rw[<-List.cons_append,b0i,i0c]
  ·obtain⟨k,o,k2⟩:=cover i' Q h1 R h3 h4;rw[U]at o;obtain⟨hk,b3⟩:=c k o;obtain⟨P',J⟩:=p k hk b3;have v:=k2 P' J;rcases e3 k o with h5|h5
   ·subst h5;rw[g.det J];exact v
   ·rcases h5 with h5|⟨h5,d,h6⟩
    ·rcases v with v|⟨v,_⟩
     ·exact .inl (by omega)
     ·exact .inl (by omega)
    ·rcases v with v|⟨v,hq2⟩
     ·exact .inl (by omega)
     ·obtain⟨j',b5,u',_⟩:=I.run k hk;have:j'=jj:=by omega
      subst this;rw[<-h5]at u';have b1:=h6.close zC u u' g J;refine .inr ⟨by omega,.inr ?_⟩;rcases hq2 with hq2|hq2
      ·rw[<-hq2];exact b1
      ·exact b1.trans hq2
end
