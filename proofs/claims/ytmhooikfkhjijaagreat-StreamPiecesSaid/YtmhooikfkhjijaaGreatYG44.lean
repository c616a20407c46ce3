/- P. Its conditions: none. -/
import Derived.Test.YtmhooikfkhjijaaGreatYG43
import Derived.Test.YtmhooikfkhjijaaGreatYX15
open List (any_cons any_eq_false mem_range)
set_option linter.all false
namespace Go.Proofs.YtmhooikfkhjijaaGreat
open Go.V Go.RowKit Old Go.X
section
variable {F:Nat}{l:List C0}{n:Nat}{a:List y0}{b:Nat->List y0}{e:Nat->y0×Bool}{z:y0×Bool}{at_ work:Int}{pl:List Nat}{vals:List (List Int)}{fB fD:Nat->Nat->Int}
def D0R (K:H5 l n a b e z F)(C:F6 l n pl vals fB fD)(beg:Bool)(r:Nat):(N1 (F0 a b pl beg) r (F0 a b pl beg).length).length<=500/\∀i∈N1 (F0 a b pl beg) r (F0 a b pl beg).length,i<A5 pl beg:=by
 have hm:=C.le;have hn:=K.T.n64;have h1:=n0s (F0 a b pl beg) r (F0 a b pl beg).length;rw[b0b]at h1;refine⟨by
       have:A5 pl beg<=pl.length+1:=by unfold A5;split<;>omega
       rw[b0b];omega,fun i hi=>?_⟩
 rw[<-b0b a b];exact l0Y hi
def t0m (K:H5 l n a b e z F)(C:F6 l n pl vals fB fD)(beg:Bool):A5 pl beg<=401:=by
 have hm:=C.le;have hn:=K.T.n64;unfold A5;split<;>omega
def F0r (K:H5 l n a b e z F)(C:F6 l n pl vals fB fD){b_:Int}{beg:Bool}{r:Nat}(h:N1 (F0 a b pl beg) r (F0 a b pl beg).length≠[]):(K4 a b pl fB fD beg r).Steps.length<=2000000/\P2 800 (K4 a b pl fB fD beg r).Steps:=by
 have hm:=j08 (fB:=Y2 pl beg fB) (fD:=j4 pl beg fD) h;have hw:=g0i K C beg _ (g0V (fB:=Y2 pl beg fB) (fD:=j4 pl beg fD) h);exact⟨(hw.1.ok _ hm.1).2.2,hw.2.2.2 _ hm.1⟩
set_option maxHeartbeats 2000000 in
def w0C (K:H5 l n a b e z F)(C:F6 l n pl vals fB fD)(b_:Int)(beg:Bool)(b5:0<=work)(b2:work<=1000000000000){r:Nat}(hr:r<n):
  d0R F ⟨E9 l at_ vals beg,(F0 a b pl beg).map (fun w=>w.map (Q2 l)),D3 (A5 pl beg) (Y2 pl beg fB) (j4 pl beg fD)⟩ ((List.range n).map (A6 l (Z2 l b_) (F0 a b pl beg) (F0 a b pl beg).length 0))
   (J2 (X5 (Z2 l b_) (F0 a b pl beg) r),(X5 (Z2 l b_) (F0 a b pl beg) r).map (stV l a b at_ pl vals fB fD beg),(r:Int),⟨Y6 l n a b e z,at_,work+(Q7 (Z2 l b_) (F0 a b pl beg) r:Int),J2 pl,vals,D3 pl.length fB fD⟩,
    (J2 ((X5 (Z2 l b_) (F0 a b pl beg) r).map (F4 a b pl fB fD beg)),(X5 (Z2 l b_) (F0 a b pl beg) r).map (fun r=>Q2 l (K4 a b pl fB fD beg r)),(X5 (Z2 l b_) (F0 a b pl beg) r).map (K4 a b pl fB fD beg))) =
  some (.next (J2 (X5 (Z2 l b_) (F0 a b pl beg) (r+1)),(X5 (Z2 l b_) (F0 a b pl beg) (r+1)).map (stV l a b at_ pl vals fB fD beg),((r+1:Nat):Int),⟨Y6 l n a b e z,at_,work+(Q7 (Z2 l b_) (F0 a b pl beg) (r+1):Int),J2 pl,vals,D3 pl.length fB fD⟩,
    (J2 ((X5 (Z2 l b_) (F0 a b pl beg) (r+1)).map (F4 a b pl fB fD beg)),(X5 (Z2 l b_) (F0 a b pl beg) (r+1)).map (fun r=>Q2 l (K4 a b pl fB fD beg r)),(X5 (Z2 l b_) (F0 a b pl beg) (r+1)).map (K4 a b pl fB fD beg)))):=by
 have f1:=K.f1;have hn:=K.T.n64;have hM:=t0m K C beg;have q:=b0b a b pl beg;obtain⟨b3,u⟩:=D0R K C beg r;have J:=n0a (F0 a b pl beg) r (F0 a b pl beg).length;have b4:=t0k (Z2 l b_) (F0 a b pl beg) r;have b1:=n0M (Z2 l b_) (F0 a b pl beg) r;have a1:r*(F0 a b pl beg).length<=400*401:=Nat.mul_le_mul (by omega) (by omega);have ht:=f0m l;have hx:(r:Int)<(((List.range n).map (A6 l (Z2 l b_) (F0 a b pl beg) (F0 a b pl beg).length 0)).length:Int):=by simp;omega
 have j:=g03 C beg;unfold d0R;simp only[hx,decide_true,if_true,g0n hr,g0l hr,p0g,B0k,Q7,G3 (i:=r) (by omega)];cases hP:Z2 l b_ r with
 |false=>
  have d:=r0T (F:=F) (n:=A5 pl beg) (fB:=Y2 pl beg fB) (fD:=j4 pl beg fD) (fr:=[]) (hops:=[]) (by omega) (by omega) j rfl (by simp) (by simp);have c:f0V F (D3 (A5 pl beg) (Y2 pl beg fB) (j4 pl beg fD)) [] []=some (-1):=by rw[<-s0j (fB:=Y2 pl beg fB) (fD:=j4 pl beg fD) (hops:=[])];exact d
  have f:W (work+(Q7 (Z2 l b_) (F0 a b pl beg) r:Int)+((([]:List Int).length:Nat):Int))=work+(Q7 (Z2 l b_) (F0 a b pl beg) r:Int):=by rw[n3 (by simp;omega) (by simp;omega)];simp
  simp only[q0,c,show decide ((-1:Int)<0)=true from rfl,f,Bool.false_and,List.append_nil,Nat.add_zero]
 |true=>
  simp only[if_true,Bool.true_and];have f:W (work+(Q7 (Z2 l b_) (F0 a b pl beg) r:Int)+(((J2 (N1 (F0 a b pl beg) r (F0 a b pl beg).length)).length:Nat):Int))=work+((Q7 (Z2 l b_) (F0 a b pl beg) r+(N1 (F0 a b pl beg) r (F0 a b pl beg).length).length:Nat):Int):=by rw[n3 (by simp;omega) (by simp;omega)];simp;omega
  simp only[f];have d:=r0T (F:=F) (n:=A5 pl beg) (fB:=Y2 pl beg fB) (fD:=j4 pl beg fD) (fr:=N1 (F0 a b pl beg) r (F0 a b pl beg).length) (hops:=n5 (F0 a b pl beg) r (F0 a b pl beg).length) (by omega) (by omega) j J (by omega) u
  by_cases h:N1 (F0 a b pl beg) r (F0 a b pl beg).length=[]
  ·have c:f0V F (D3 (A5 pl beg) (Y2 pl beg fB) (j4 pl beg fD)) (J2 (N1 (F0 a b pl beg) r (F0 a b pl beg).length)) (n5 (F0 a b pl beg) r (F0 a b pl beg).length)=some (-1):=by
    rw[d,h,s0j]
   simp only[c,G0,show decide ((-1:Int)<0)=true from rfl,if_true];simp only[q0,h,List.isEmpty_nil,List.append_nil]
  ·obtain⟨k1,U⟩:=i09 (fB:=Y2 pl beg fB) (fD:=j4 pl beg fD) h;have s:(N1 (F0 a b pl beg) r (F0 a b pl beg).length).isEmpty=false:=by simpa using h
   rw[k1]at d;have k3:¬((a0K (Y2 pl beg fB) (j4 pl beg fD) (F0 a b pl beg) r:Nat):Int)<0:=by omega
   have t:F4 a b pl fB fD beg r<A5 pl beg:=by rw[<-q];exact g0V h
   obtain⟨v1,v2⟩:=r0W (u0H (at_:=at_) C beg) (r0P C beg) t;have m:(((N1 (F0 a b pl beg) r (F0 a b pl beg).length).getD (a0K (Y2 pl beg fB) (j4 pl beg fD) (F0 a b pl beg) r) 0:Nat):Int)=(F4 a b pl fB fD beg r:Int):=rfl;have g:gt ((n5 (F0 a b pl beg) r (F0 a b pl beg).length).map (Q2 l)) ((a0K (Y2 pl beg fB) (j4 pl beg fD) (F0 a b pl beg) r:Nat):Int)=Q2 l (K4 a b pl fB fD beg r):=by
    refine B4 ?_;rw[List.getElem?_map,u6 (show a0K (Y2 pl beg fB) (j4 pl beg fD) (F0 a b pl beg) r<(n5 (F0 a b pl beg) r (F0 a b pl beg).length).length by omega),A0B h];rfl
   have k:B0 ((n5 (F0 a b pl beg) r (F0 a b pl beg).length).map (Q2 l)) ((a0K (Y2 pl beg fB) (j4 pl beg fD) (F0 a b pl beg) r:Nat):Int)=true:=R0 (by omega) (by simp;omega);have I:I0 8 (J2 (X5 (Z2 l b_) (F0 a b pl beg) r)) [(r:Int)]=true:=by simp[I0];omega
   have v:I0 24 ((X5 (Z2 l b_) (F0 a b pl beg) r).map (stV l a b at_ pl vals fB fD beg)) [stV l a b at_ pl vals fB fD beg r]=true:=by simp[I0];omega
   have y:I0 8 (J2 ((X5 (Z2 l b_) (F0 a b pl beg) r).map (F4 a b pl fB fD beg))) [(F4 a b pl fB fD beg r:Int)]=true:=by simp[I0];omega
   have p:I0 64 ((X5 (Z2 l b_) (F0 a b pl beg) r).map (fun r=>Q2 l (K4 a b pl fB fD beg r))) [Q2 l (K4 a b pl fB fD beg r)]=true:=by simp[I0];omega
   have x:I0 40 ((X5 (Z2 l b_) (F0 a b pl beg) r).map (K4 a b pl fB fD beg)) [(Q2 l (K4 a b pl fB fD beg r)).Hop]=true:=by simp[I0];omega
   have o:=m04 (F:=F) (marks:=(Q2 l (K4 a b pl fB fD beg r)).marks) (now:=at_) (none_:=-1) (show(gt (E9 l at_ vals beg) (F4 a b pl fB fD beg r:Int)).length<=1000 by omega) (show(N4 l (K4 a b pl fB fD beg r).Steps).length<=1000000000 by have:=(F0r K C (b_:=b_) (beg:=beg) h).1;have:=i0I l (K4 a b pl fB fD beg r).Steps;omega);have R:S6 at_ (-1) (gt (E9 l at_ vals beg) (F4 a b pl fB fD beg r:Int)) (Q2 l (K4 a b pl fB fD beg r)).marks=stV l a b at_ pl vals fB fD beg r:=rfl;rw[R]at o;simp only[q0,d,k3,I,a0h U,a0G U,m,v2,k,g,o,v,y,p,x,s,o0h,List.map_append,List.map_cons,List.map_nil];rfl
set_option maxHeartbeats 2000000 in
def y0b (K:H5 l n a b e z F)(C:F6 l n pl vals fB fD)(hw:∀x∈l,o3 x){b_:Int}(y:Z5 .u8 b_)(beg:Bool)(u:0<=at_)(t:at_<=1000000)(o:0<=work)(m:work<=1000000000000):
  e0e F (B7 l n a b e z at_ work pl vals fB fD) b_ beg=some (B7 l n a b e z (at_+1) (work+stW l n a b pl b_ beg) (F1 l n a b pl b_ beg) ((F1 l n a b pl b_ beg).map (stV l a b at_ pl vals fB fD beg))
   (P5 l (Y2 pl beg fB) ((F1 l n a b pl b_ beg).map (F4 a b pl fB fD beg)) ((F1 l n a b pl b_ beg).map (K4 a b pl fB fD beg))) (N6 l (Y2 pl beg fB) (j4 pl beg fD) ((F1 l n a b pl b_ beg).map (F4 a b pl fB fD beg)) ((F1 l n a b pl b_ beg).map (K4 a b pl fB fD beg)))):=by
 have f1:=K.f1;have hn:=K.T.n64;have hM:=t0m K C beg;have q:=b0b a b pl beg;have f:=t09 K C b_ beg;have p:=D0M (F:=F) (c:=B7 l n a b e z at_ work pl vals fB fD) (g:=⟨E9 l at_ vals beg,(F0 a b pl beg).map (fun w=>w.map (Q2 l)),D3 (A5 pl beg) (Y2 pl beg fB) (j4 pl beg fD)⟩) hw K.hn hn f1 rfl y (fun i hi=>⟨(g0i K C beg i hi).1,(g0i K C beg i hi).2.1⟩) (by omega) rfl;have d:=R4 (step:=d0R F ⟨E9 l at_ vals beg,(F0 a b pl beg).map (fun w=>w.map (Q2 l)),D3 (A5 pl beg) (Y2 pl beg fB) (j4 pl beg fD)⟩ ((List.range n).map (A6 l (Z2 l b_) (F0 a b pl beg) (F0 a b pl beg).length 0)))
  (fun r=>(J2 (X5 (Z2 l b_) (F0 a b pl beg) r),(X5 (Z2 l b_) (F0 a b pl beg) r).map (stV l a b at_ pl vals fB fD beg),(r:Int),⟨Y6 l n a b e z,at_,work+(Q7 (Z2 l b_) (F0 a b pl beg) r:Int),J2 pl,vals,D3 pl.length fB fD⟩,
    (J2 ((X5 (Z2 l b_) (F0 a b pl beg) r).map (F4 a b pl fB fD beg)),(X5 (Z2 l b_) (F0 a b pl beg) r).map (fun r=>Q2 l (K4 a b pl fB fD beg r)),(X5 (Z2 l b_) (F0 a b pl beg) r).map (K4 a b pl fB fD beg))))
  (J2 (F1 l n a b pl b_ beg),(F1 l n a b pl b_ beg).map (stV l a b at_ pl vals fB fD beg),⟨Y6 l n a b e z,at_,work+(Q7 (Z2 l b_) (F0 a b pl beg) n:Int),J2 pl,vals,D3 pl.length fB fD⟩,
    (J2 ((F1 l n a b pl b_ beg).map (F4 a b pl fB fD beg)),(F1 l n a b pl b_ beg).map (fun r=>Q2 l (K4 a b pl fB fD beg r)),(F1 l n a b pl b_ beg).map (K4 a b pl fB fD beg))) n
  (fun r v=>.inl (w0C K C b_ beg o m v)) ?_ n 0 F (by omega) (by omega)
 ·have I:work+(Q7 (Z2 l b_) (F0 a b pl beg) 0:Int)=work:=by simp[Q7]
  rw[I]at d;have s:iter (d0R F ⟨E9 l at_ vals beg,(F0 a b pl beg).map (fun w=>w.map (Q2 l)),D3 (A5 pl beg) (Y2 pl beg fB) (j4 pl beg fD)⟩ ((List.range n).map (A6 l (Z2 l b_) (F0 a b pl beg) (F0 a b pl beg).length 0))) F ([],[],0,B7 l n a b e z at_ work pl vals fB fD,([],[],[]))=_:=d;unfold e0e;rw[y0e K C beg];simp only[G0,p,s];have hl:(Y6 l n a b e z).l=l:=rfl;have h:=v0I (F:=F) hw K.hR K.hn (show 2000<F by omega) K.TF.mL (show A5 pl beg<=1000 by omega) (g03 C beg) (u0q K C b_ beg);simp only[hl,h,G0,List.length_map,i0f];have k:(Y6 l n a b e z).tags=l5 l:=rfl;obtain⟨q1,q2,q3,q4,J,U,R⟩:=f;rw[k,n3 (n:=at_+1) (by omega) (by omega),n3 (n:=((F1 l n a b pl b_ beg).length:Int)*l5 l) (by omega) (by omega),n3 (n:=((F1 l n a b pl b_ beg).length:Int)*((F1 l n a b pl b_ beg).length:Int)) (by omega) (by omega),n3 (n:=((F1 l n a b pl b_ beg).length:Int)*l5 l+((F1 l n a b pl b_ beg).length:Int)*((F1 l n a b pl b_ beg).length:Int)) (by omega) (by omega)];rw[n3 (n:=work+(Q7 (Z2 l b_) (F0 a b pl beg) n:Int)+(((F1 l n a b pl b_ beg).length:Int)*l5 l+((F1 l n a b pl b_ beg).length:Int)*((F1 l n a b pl b_ beg).length:Int))) (by omega) (by omega)];have j:work+(Q7 (Z2 l b_) (F0 a b pl beg) n:Int)+(((F1 l n a b pl b_ beg).length:Int)*l5 l+((F1 l n a b pl b_ beg).length:Int)*((F1 l n a b pl b_ beg).length:Int))=work+stW l n a b pl b_ beg:=by unfold stW;omega
  rw[j];rfl
 ·unfold d0R;have h1:¬((n:Int)<(((List.range n).map (A6 l (Z2 l b_) (F0 a b pl beg) (F0 a b pl beg).length 0)).length:Int)):=by simp
  simp only[q0,h1];rfl
end
section
variable {F:Nat}{l:List C0}{n:Nat}{a:List y0}{b:Nat->List y0}{e:Nat->y0×Bool}{z:y0×Bool}{at_ work:Int}{pl:List Nat}{vals:List (List Int)}{fB fD:Nat->Nat->Int}
abbrev xT (l:List C0)(n:Nat)(a:List y0)(b:Nat->List y0)(e:Nat->y0×Bool)(at_ work:Int)(places:List Int)(tags:List (List Int))(rank:T3):(List C0)×(List Int)×(List y0)×(List (List y0))×(List (List Int))×Int×Int×(List Int)×(List (List Int))×T3:=
 (l,L2 l l.length,a,(List.range n).map b,(List.range n).map fun p=>(e p).1.Steps,at_,work,places,tags,rank)
end
abbrev Fb:Nat:=10000000000000
def D0r {p:List C0}(h:wfD en 20 (.list (.st 0)) p):∀x∈p,o3 x:=fun x f=>by
 obtain⟨h1,i,d,j,⟨c,g⟩,_⟩:=h x f;exact⟨h1,i,d,j,c,g⟩
def gtm {α:Type}[Inhabited α]{l:List α}{i:Nat}(h:i<l.length):gt l (i:Int)∈l:=List.mem_of_getElem? (u6 h)
section
variable {l:List C0}
def q0X (hR:K1 l=false)(hl:l.length*64<=140737488351232)(c:l.length<=1000):c7 Fb l=some false/\B6 Fb l=some false:=by
 refine⟨B8 g0k (by rw[Old.c0Q l (show 401<Fb by unfold Fb;omega),hR]),B8 o0w (by rw[Old.e0f l hl (show l.length+1<Fb by unfold Fb;omega),hR])⟩
def known (hw:∀x∈l,o3 x)(hR:K1 l=true)(hl:l.length*64<=140737488351232)(c:l.length<=1000):∃a b e z,H5 l (L0 l l.length) a b e z Fb:=by
 obtain⟨a,b,e,z,T,TF⟩:=f08 hw hl hR;exact⟨a,b,e,z,hR,hl,rfl,T,by unfold Fb;omega,by unfold Fb;omega,by unfold Fb;omega,TF Fb (by unfold Fb;omega) (by unfold Fb;omega)⟩
def u0i (l:List C0)(n:Nat):F6 l n [] [] (fun _ _=>0) (fun _ _=>0) where
 len:=rfl
 pln:=by intro p h;cases h
 asc:=List.Pairwise.nil
 row:=by intro v h;cases h
 rk:=⟨fun i k h=>by simp at h,fun i h=>rfl,fun i h=>rfl,fun i k h=>by simp at h,fun i k h=>by simp at h⟩
end
def k0a {α:Type}{p q:α->Bool}:∀{l:List α},(∀x∈l,p x=q x)->l.any p=l.any q
 |[],_=>rfl
 |x :: r,h=>by rw[any_cons,any_cons,h x (by simp),k0a fun y c=>h y (List.mem_cons_of_mem _ c)]
def b0X (f:Nat->Nat->Bool):Nat->Nat->Nat->Bool
 |0,i,j=>i==j
 |n+1,i,j=>i==j||(List.range (j+1)).any fun k=>decide (i<k)&&(f i k&&b0X f n k j)
def x0b (f:Nat->Nat->Bool):∀(n m i j:Nat),j-i<=n->j-i<=m->b0X f n i j=b0X f m i j:=by
 intro n
 induction n with
 |zero=>
  intro m i j h1 d;cases m with
  |zero=>rfl
  |succ m=>
   unfold b0X;have:((List.range (j+1)).any fun k=>decide (i<k)&&(f i k&&b0X f m k j))=false:=by
    rw[any_eq_false];intro k hk;have:=mem_range.1 hk;simp;omega
   rw[this,Bool.or_false]
 |succ n ih=>
  intro m i j h1 d;cases m with
  |zero=>
   unfold b0X;have:((List.range (j+1)).any fun k=>decide (i<k)&&(f i k&&b0X f n k j))=false:=by
    rw[any_eq_false];intro k hk;have:=mem_range.1 hk;simp;omega
   rw[this,Bool.or_false]
  |succ m=>
   unfold b0X;congr 1;refine k0a fun k hk=>?_;have hk:=mem_range.1 hk
   by_cases c:i<k
   ·rw[ih m k j (by omega) (by omega)]
   ·simp[c]
def K5 (f:Nat->Nat->Bool)(i j:Nat):Bool:=b0X f (j-i) i j
def f0k (f:Nat->Nat->Bool)(i j:Nat):K5 f i j=(i==j||(List.range (j+1)).any fun k=>decide (i<k)&&(f i k&&K5 f k j)):=by
 unfold K5;cases h:j-i with
 |zero=>
  show(i==j)=_;have:((List.range (j+1)).any fun k=>decide (i<k)&&(f i k&&b0X f (j-k) k j))=false:=by
   rw[any_eq_false];intro k hk;have:=mem_range.1 hk;simp;omega
  rw[this,Bool.or_false]
 |succ n=>
  show(i==j||_)=_;congr 1;refine k0a fun k hk=>?_;have hk:=mem_range.1 hk
  by_cases c:i<k
  ·rw[x0b f n (j-k) k j (by omega) (by omega)]
  ·simp[c]
def den (w:List Int):Old.Tm->Nat->Nat->Bool
 |.eps=>fun i j=>i==j
 |.leaf s=>fun i j=>j==i+1&&(decide (i<w.length)&&hasB s (gt w (i:Int)))
 |.cat a b=>fun i j=>(List.range (j+1)).any fun k=>decide (i<=k)&&(den w a i k&&den w b k j)
 |.alt a b=>fun i j=>den w a i j||den w b i j
 |.star a=>K5 (den w a)
 |.maybe a=>fun i j=>i==j||den w a i j
 |.group _ a=>den w a
 |.iter a=>den w a
section
variable {F:Nat}
def t0F {step:Int->Option (V0 Int (Unit⊕Unit))}{lo hi:Nat}(c:Nat->Bool)(j:∀k,lo<=k->k<hi->step (k:Int)=some (if c k then .done (.inl ())else .next ((k+1:Nat):Int)))(hd:step (hi:Int)=some (.done (.inr ())))(i:lo<=hi){fu:Nat}(o:hi-lo<fu):
  iter step fu (lo:Int)=some (if(List.range hi).any fun k=>decide (lo<=k)&&c k then .inl ()else .inr ()):=by
 have key:∀(t k fu:Nat),k+t=hi->lo<=k->t<fu->iter step fu (k:Int)=some (if(List.range hi).any fun q=>decide (k<=q)&&c q then .inl ()else .inr ()):=by
  intro t
  induction t with
  |zero=>
   intro k fu hk hl f;obtain⟨fu,rfl⟩:∃m,fu=m+1:=⟨fu-1,by omega⟩
   have e:k=hi:=by omega
   subst e;rw[a0o hd];have:((List.range k).any fun q=>decide (k<=q)&&c q)=false:=by
    rw[any_eq_false];intro q g;have:=mem_range.1 g;simp;omega
   rw[this];rfl
  |succ t ih=>
   intro k fu hk hl f;obtain⟨fu,rfl⟩:∃m,fu=m+1:=⟨fu-1,by omega⟩
   have h:=j k hl (by omega);cases d:c k with
   |true=>
    rw[d]at h;rw[a0o h];have:((List.range hi).any fun q=>decide (k<=q)&&c q)=true:=by
     rw[List.any_eq_true];exact⟨k,mem_range.2 (by omega),by simp[d]⟩
    rw[this];rfl
   |false=>
    rw[d]at h;rw[e0m h,ih (k+1) fu (by omega) (by omega) (by omega)];have:((List.range hi).any fun q=>decide (k+1<=q)&&c q)=((List.range hi).any fun q=>decide (k<=q)&&c q):=by
     refine k0a fun q g=>?_
     by_cases e:q=k
     ·subst e;simp[d]
     ·have:decide (k+1<=q)=decide (k<=q):=by
       rw[Bool.eq_iff_iff];simp;omega
      rw[this]
    rw[this]
 exact key (hi-lo) lo fu (by omega) (Nat.le_refl _) o
end
end Go.Proofs.YtmhooikfkhjijaaGreat
namespace Go.Proofs.YtmhooikfkhjijaaGreat
open Go.V Go.RowKit Old
inductive Pt where
 |nil|byte|two (x y:Pt)|one (x:Pt)|other (x:Pt)
def Pt.wid:Pt->Nat
 |.nil=>0|.byte=>1|.two x y=>x.wid+y.wid|.one x=>x.wid|.other x=>x.wid
inductive PA:Pt->Pt->Prop
 |wid {x x' y y':Pt}:y.wid<x.wid->PA (.two x x') (.two y y')
 |fst {x x' y y':Pt}:x.wid=y.wid->PA x y->PA (.two x x') (.two y y')
 |snd {x x' y':Pt}:PA x' y'->PA (.two x x') (.two x y')
 |one {x y:Pt}:PA x y->PA (.one x) (.one y)
 |other {x y:Pt}:PA x y->PA (.other x) (.other y)
 |oo {x y:Pt}:PA (.one x) (.other y)
def PA.trans {p q r:Pt}(h:PA p q)(g:PA q r):PA p r:=by
 induction h generalizing r with
 |wid h1=>
  cases g with
  |wid d=>exact .wid (by omega)
  |fst d _=>exact .wid (by omega)
  |snd _=>exact .wid h1
 |fst h1 d f=>
  cases g with
  |wid c=>exact .wid (by omega)
  |fst c i=>exact .fst (by omega) (f i)
  |snd c=>exact .fst h1 d
 |snd h1 f=>
  cases g with
  |wid c=>exact .wid c
  |fst c i=>exact .fst c i
  |snd c=>exact .snd (f c)
 |one h1 f=>
  cases g with
  |one d=>exact .one (f d)
  |oo=>exact .oo
 |other h1 f=>cases g with|other d=>exact .other (f d)
 |oo=>cases g with|other d=>exact .oo
inductive Pp where
 |leaf|catL (p:Pp)|catR (x:Pt) (p:Pp)|altL (p:Pp)|altR (p:Pp)|item (p:Pp)|more (x:Pt) (p:Pp)|one (p:Pp)
def BA (x y:Pt):Prop:=y.wid<x.wid\/(x.wid=y.wid/\PA x y)
def BA.trans {p q r:Pt}(h:BA p q)(g:BA q r):BA p r:=by
 rcases h with h|⟨h,h'⟩<;>rcases g with g|⟨g,g'⟩
 ·exact .inl (by omega)
 ·exact .inl (by omega)
 ·exact .inl (by omega)
 ·exact .inr ⟨by omega,h'.trans g'⟩
inductive Ah:Nat->Pp->Pp->Prop
 |cc {p:Pp} {x:Pt} {q:Pp}:Ah 0 (.catL p) (.catR x q)
 |cd {x y:Pt} {p q:Pp}:BA x y->Ah 0 (.catR x p) (.catR y q)
 |aa {p q:Pp}:Ah 0 (.altL p) (.altR q)
 |im {p:Pp} {x:Pt} {q:Pp}:Ah 0 (.item p) (.more x q)
 |mm {x y:Pt} {p q:Pp}:BA x y->Ah 0 (.more x p) (.more y q)
 |catL {n:Nat} {p q:Pp}:Ah n p q->Ah (n+1) (.catL p) (.catL q)
 |catR {n:Nat} {x:Pt} {p q:Pp}:Ah n p q->Ah (n+1) (.catR x p) (.catR x q)
 |altL {n:Nat} {p q:Pp}:Ah n p q->Ah (n+1) (.altL p) (.altL q)
 |altR {n:Nat} {p q:Pp}:Ah n p q->Ah (n+1) (.altR p) (.altR q)
 |item {n:Nat} {p q:Pp}:Ah n p q->Ah (n+1) (.item p) (.item q)
 |more {n:Nat} {x:Pt} {p q:Pp}:Ah n p q->Ah n (.more x p) (.more x q)
 |one {n:Nat} {p q:Pp}:Ah n p q->Ah (n+1) (.one p) (.one q)
def Ah.trans {m:Nat}{p q:Pp}(h:Ah m p q):∀{n:Nat} {r:Pp},Ah n q r->∃k,Ah k p r:=by
 induction h with
 |cc=>intro n r g;cases g<;>exact⟨_,.cc⟩
 |cd h=>intro n r g;cases g with
  |cd g=>exact⟨_,.cd (h.trans g)⟩
  |catR g=>exact⟨_,.cd h⟩
 |aa=>intro n r g;cases g;exact⟨_,.aa⟩
 |im=>intro n r g;cases g<;>exact⟨_,.im⟩
 |mm h=>intro n r g;cases g with
  |mm g=>exact⟨_,.mm (h.trans g)⟩
  |more g=>exact⟨_,.mm h⟩
 |catL h ih=>intro n r g;cases g with
  |cc=>exact⟨_,.cc⟩
  |catL g=>obtain⟨k,hk⟩:=ih g;exact⟨_,.catL hk⟩
 |catR h ih=>intro n r g;cases g with
  |cd g=>exact⟨_,.cd g⟩
  |catR g=>obtain⟨k,hk⟩:=ih g;exact⟨_,.catR hk⟩
 |altL h ih=>intro n r g;cases g with
  |aa=>exact⟨_,.aa⟩
  |altL g=>obtain⟨k,hk⟩:=ih g;exact⟨_,.altL hk⟩
 |altR h ih=>intro n r g;cases g with
  |altR g=>obtain⟨k,hk⟩:=ih g;exact⟨_,.altR hk⟩
 |item h ih=>intro n r g;cases g with
  |im=>exact⟨_,.im⟩
  |item g=>obtain⟨k,hk⟩:=ih g;exact⟨_,.item hk⟩
 |more h ih=>intro n r g;cases g with
  |mm g=>exact⟨_,.mm g⟩
  |more g=>obtain⟨k,hk⟩:=ih g;exact⟨_,.more hk⟩
 |one h ih=>intro n r g;cases g with
  |one g=>obtain⟨k,hk⟩:=ih g;exact⟨_,.one hk⟩
inductive Fit (w:List Int):Tm->Nat->Pt->Prop
 |eps {i:Nat}:Fit w .eps i .nil
 |leaf {S:List Int} {i:Nat}:i<w.length->hasB S (gt w (i:Int))=true->Fit w (.leaf S) i .byte
 |cat {a b:Tm} {i:Nat} {x y:Pt}:Fit w a i x->Fit w b (i+x.wid) y->Fit w (.cat a b) i (.two x y)
 |altL {a b:Tm} {i:Nat} {x:Pt}:Fit w a i x->Fit w (.alt a b) i (.one x)
 |altR {a b:Tm} {i:Nat} {x:Pt}:Fit w b i x->Fit w (.alt a b) i (.other x)
 |star0 {a:Tm} {i:Nat}:Fit w (.star a) i .nil
 |star {a:Tm} {i:Nat} {x r:Pt}:Fit w a i x->0<x.wid->Fit w (.star a) (i+x.wid) r->Fit w (.star a) i (.two x r)
 |maybe0 {a:Tm} {i:Nat}:Fit w (.maybe a) i .nil
 |maybe {a:Tm} {i:Nat} {x:Pt}:Fit w a i x->0<x.wid->Fit w (.maybe a) i (.one x)
 |group {m:Int} {a:Tm} {i:Nat} {x:Pt}:Fit w a i x->Fit w (.group m a) i (.one x)
 |iter {a:Tm} {i:Nat} {x:Pt}:Fit w a i x->Fit w (.iter a) i (.one x)
inductive P3:Tm->Pt->Prop
 |eps:P3 .eps .nil
 |cat {a b:Tm} {x y:Pt}:P3 a x->P3 b y->P3 (.cat a b) (.two x y)
 |altL {a b:Tm} {x:Pt}:P3 a x->P3 (.alt a b) (.one x)
 |altR {a b:Tm} {x:Pt}:P3 b x->P3 (.alt a b) (.other x)
 |star {a:Tm}:P3 (.star a) .nil
 |maybe {a:Tm}:P3 (.maybe a) .nil
 |group {m:Int} {a:Tm} {x:Pt}:P3 a x->P3 (.group m a) (.one x)
 |iter {a:Tm} {x:Pt}:P3 a x->P3 (.iter a) (.one x)
def P3.wid {s:Tm}{x:Pt}(h:P3 s x):x.wid=0:=by induction h<;>simp[Pt.wid, *]
def P3.fit {s:Tm}{x:Pt}(h:P3 s x)(w:List Int):∀i,Fit w s i x:=by
 induction h with
 |eps=>exact fun i=>.eps
 |cat h1 f d i2=>exact fun i=>.cat (d i) (by rw[h1.wid];exact i2 i)
 |altL _ c=>exact fun i=>.altL (c i)
 |altR _ c=>exact fun i=>.altR (c i)
 |star=>exact fun i=>.star0
 |maybe=>exact fun i=>.maybe0
 |group _ c=>exact fun i=>.group (c i)
 |iter _ c=>exact fun i=>.iter (c i)
def Fit.emp {w:List Int}{s:Tm}{i:Nat}{x:Pt}(h:Fit w s i x):x.wid=0->P3 s x:=by
 induction h with
 |eps=>exact fun _=>.eps
 |leaf _ _=>intro h;simp[Pt.wid]at h
 |cat _ _ d i2=>intro h;simp only[Pt.wid]at h;exact .cat (d (by omega)) (i2 (by omega))
 |altL _ c=>exact fun h=>.altL (c h)
 |altR _ c=>exact fun h=>.altR (c h)
 |star0=>exact fun _=>.star
 |star _ h1 _ _ _=>intro h;simp only[Pt.wid]at h;omega
 |maybe0=>exact fun _=>.maybe
 |maybe _ h1 _=>intro h;simp only[Pt.wid]at h;omega
 |group _ c=>exact fun h=>.group (c h)
 |iter _ c=>exact fun h=>.iter (c h)
def P3.can {s:Tm}{x:Pt}(h:P3 s x):s.can=true:=by induction h<;>simp[Tm.can, *]
def emp:Tm->Pt
 |.eps=>.nil|.leaf _=>.nil|.cat a b=>.two (emp a) (emp b)
 |.alt a b=>if a.can then .one (emp a)else .other (emp b)
 |.star _=>.nil|.maybe _=>.nil|.group _ a=>.one (emp a)|.iter a=>.one (emp a)
def O5 (s:Tm)(x:Pt):Prop:=s.can=true/\x=emp s
def F9:∀{s:Tm},s.can=true->P3 s (emp s):=by
 intro s
 induction s with
 |eps=>exact fun _=>.eps
 |leaf S=>intro h;simp[Tm.can]at h
 |cat a b d f=>intro h;simp only[Tm.can,Bool.and_eq_true]at h;exact .cat (d h.1) (f h.2)
 |alt a b d f=>
  intro h;unfold emp
  by_cases c:a.can=true
  ·rw[if_pos c];exact .altL (d c)
  ·rw[if_neg c];exact .altR (f (by simpa[Tm.can,c]using h))
 |star a d=>exact fun _=>.star
 |maybe a d=>exact fun _=>.maybe
 |group m a d=>intro h;exact .group (d h)
 |iter a d=>intro h;exact .iter (d h)
def O5.emp {s:Tm}{x:Pt}(h:O5 s x):P3 s x:=by obtain⟨h,rfl⟩:=h;exact F9 h
def o0S {s:Tm}{y:Pt}(h:P3 s y):emp s=y\/PA (emp s) y:=by
 induction h with
 |eps=>exact .inl rfl
 |@cat a b x y h1 h2 i1 i2=>
  show Pt.two _ _=_\/PA (Pt.two _ _) _;rcases i1 with e|e
  ·rw[e];rcases i2 with e2|e2
   ·rw[e2];exact .inl rfl
   ·exact .inr (.snd e2)
  ·exact .inr (.fst (by rw[h1.wid,(F9 h1.can).wid]) e)
 |@altL a b x h ih=>
  unfold emp;rw[if_pos h.can];rcases ih with e|e
  ·rw[e];exact .inl rfl
  ·exact .inr (.one e)
 |@altR a b x h ih=>
  unfold emp
  by_cases c:a.can=true
  ·rw[if_pos c];exact .inr .oo
  ·rw[if_neg c];rcases ih with e|e
   ·rw[e];exact .inl rfl
   ·exact .inr (.other e)
 |star=>exact .inl rfl
 |maybe=>exact .inl rfl
 |group h ih=>
  show Pt.one _=_\/PA (Pt.one _) _;rcases ih with e|e
  ·rw[e];exact .inl rfl
  ·exact .inr (.one e)
 |iter h ih=>
  show Pt.one _=_\/PA (Pt.one _) _;rcases ih with e|e
  ·rw[e];exact .inl rfl
  ·exact .inr (.one e)
inductive PU (w:List Int):Tm->Nat->Nat->Pp->Prop
 |leaf {S:List Int} {i:Nat}:PU w (.leaf S) i i .leaf
 |catL {a b:Tm} {i j:Nat} {p:Pp}:PU w a i j p->PU w (.cat a b) i j (.catL p)
 |catR {a b:Tm} {i j:Nat} {x:Pt} {p:Pp}:Fit w a i x->PU w b (i+x.wid) j p->PU w (.cat a b) i j (.catR x p)
 |altL {a b:Tm} {i j:Nat} {p:Pp}:PU w a i j p->PU w (.alt a b) i j (.altL p)
 |altR {a b:Tm} {i j:Nat} {p:Pp}:PU w b i j p->PU w (.alt a b) i j (.altR p)
 |item {a:Tm} {i j:Nat} {p:Pp}:PU w a i j p->PU w (.star a) i j (.item p)
 |more {a:Tm} {i j:Nat} {x:Pt} {p:Pp}:Fit w a i x->0<x.wid->PU w (.star a) (i+x.wid) j p->PU w (.star a) i j (.more x p)
 |maybe {a:Tm} {i j:Nat} {p:Pp}:PU w a i j p->PU w (.maybe a) i j (.one p)
 |group {m:Int} {a:Tm} {i j:Nat} {p:Pp}:PU w a i j p->PU w (.group m a) i j (.one p)
 |iter {a:Tm} {i j:Nat} {p:Pp}:PU w a i j p->PU w (.iter a) i j (.one p)
def PU.le {w:List Int}{s:Tm}{i j:Nat}{p:Pp}(h:PU w s i j p):i<=j:=by induction h<;>omega
def b6:Tm->Pp->List Int
 |.leaf S,.leaf=>S
 |.cat a _,.catL p=>b6 a p
 |.cat _ b,.catR _ p=>b6 b p
 |.alt a _,.altL p=>b6 a p
 |.alt _ b,.altR p=>b6 b p
 |.star a,.item p=>b6 a p
 |.star a,.more _ p=>b6 (.star a) p
 |.maybe a,.one p=>b6 a p
 |.group _ a,.one p=>b6 a p
 |.iter a,.one p=>b6 a p
 |_,_=>[]
def Rd (w:List Int)(s:Tm)(j:Nat)(p:Pp):Prop:=j<w.length/\hasB (b6 s p) (gt w (j:Int))=true
inductive Cl (E:Tm->Pt->Prop):Tm->Pp->Pt->Prop
 |leaf {S:List Int}:Cl E (.leaf S) .leaf .byte
 |catL {a b:Tm} {p:Pp} {P y:Pt}:Cl E a p P->E b y->Cl E (.cat a b) (.catL p) (.two P y)
 |catR {a b:Tm} {x:Pt} {p:Pp} {P:Pt}:Cl E b p P->Cl E (.cat a b) (.catR x p) (.two x P)
 |altL {a b:Tm} {p:Pp} {P:Pt}:Cl E a p P->Cl E (.alt a b) (.altL p) (.one P)
 |altR {a b:Tm} {p:Pp} {P:Pt}:Cl E b p P->Cl E (.alt a b) (.altR p) (.other P)
 |item {a:Tm} {p:Pp} {P:Pt}:Cl E a p P->Cl E (.star a) (.item p) (.two P .nil)
 |more {a:Tm} {x:Pt} {p:Pp} {P:Pt}:Cl E (.star a) p P->Cl E (.star a) (.more x p) (.two x P)
 |maybe {a:Tm} {p:Pp} {P:Pt}:Cl E a p P->Cl E (.maybe a) (.one p) (.one P)
 |group {m:Int} {a:Tm} {p:Pp} {P:Pt}:Cl E a p P->Cl E (.group m a) (.one p) (.one P)
 |iter {a:Tm} {p:Pp} {P:Pt}:Cl E a p P->Cl E (.iter a) (.one p) (.one P)
inductive En (E:Tm->Pt->Prop):Tm->Pp->Prop
 |leaf {S:List Int}:En E (.leaf S) .leaf
 |catL {a b:Tm} {p:Pp}:En E a p->En E (.cat a b) (.catL p)
 |catR {a b:Tm} {x:Pt} {p:Pp}:E a x->En E b p->En E (.cat a b) (.catR x p)
 |altL {a b:Tm} {p:Pp}:En E a p->En E (.alt a b) (.altL p)
 |altR {a b:Tm} {p:Pp}:En E b p->En E (.alt a b) (.altR p)
 |item {a:Tm} {p:Pp}:En E a p->En E (.star a) (.item p)
 |maybe {a:Tm} {p:Pp}:En E a p->En E (.maybe a) (.one p)
 |group {m:Int} {a:Tm} {p:Pp}:En E a p->En E (.group m a) (.one p)
 |iter {a:Tm} {p:Pp}:En E a p->En E (.iter a) (.one p)
inductive Go (E:Tm->Pt->Prop):Tm->Nat->Pp->Pp->Prop
 |catLd {a b:Tm} {n:Nat} {p q:Pp}:Go E a n p q->Go E (.cat a b) (n+1) (.catL p) (.catL q)
 |catT {a b:Tm} {p q:Pp} {P:Pt}:Cl E a p P->En E b q->Go E (.cat a b) 0 (.catL p) (.catR P q)
 |catRd {a b:Tm} {n:Nat} {x:Pt} {p q:Pp}:Go E b n p q->Go E (.cat a b) (n+1) (.catR x p) (.catR x q)
 |altLd {a b:Tm} {n:Nat} {p q:Pp}:Go E a n p q->Go E (.alt a b) (n+1) (.altL p) (.altL q)
 |altRd {a b:Tm} {n:Nat} {p q:Pp}:Go E b n p q->Go E (.alt a b) (n+1) (.altR p) (.altR q)
 |itemd {a:Tm} {n:Nat} {p q:Pp}:Go E a n p q->Go E (.star a) (n+1) (.item p) (.item q)
 |itemT {a:Tm} {p q:Pp} {P:Pt}:Cl E a p P->En E a q->Go E (.star a) 0 (.item p) (.more P (.item q))
 |mored {a:Tm} {n:Nat} {x:Pt} {p q:Pp}:Go E (.star a) n p q->Go E (.star a) n (.more x p) (.more x q)
 |maybe {a:Tm} {n:Nat} {p q:Pp}:Go E a n p q->Go E (.maybe a) (n+1) (.one p) (.one q)
 |group {m:Int} {a:Tm} {n:Nat} {p q:Pp}:Go E a n p q->Go E (.group m a) (n+1) (.one p) (.one q)
 |iter {a:Tm} {n:Nat} {p q:Pp}:Go E a n p q->Go E (.iter a) (n+1) (.one p) (.one q)
