/- P. Its conditions: none. -/
import Derived.Test.YtihmgaccbcfgjaaGreatRG46
import Derived.Test.YtihmgaccbcfgjaaGreatRDDriveAnswers
open Bool (false_eq_true)
open Nat (le_refl)
set_option linter.all false
namespace Go.Proofs.YtihmgaccbcfgjaaGreat
open Go.V Go.RowKit Go.X
variable {F:Nat}
theorem M05 {d:Y1}(hS:Sm d){w:List Int}(hw:∀x∈w,0<=x/\x<256)(h40:w.length<=1000)(hF:2000<F):J0m F d w=some (if a0V d then(.inr (a0n d w w.length),0)else(.inl (),11)):=by
 unfold J0m;rw[P0P hS hF];cases b:a0V d
 ·rfl
 have h:=I0Q hS b;simp only[q0,bne_self_eq_false];have hl:=j0i (body:=p0B F w) w.length (fun i=>((i:Int),a0n d w i)) (a0n d w w.length) (fun i hi=>by
  have a:=g0h h hw i O';unfold p0B;simp only[q0,dec_lt hi,Y7,hi,O0J (F:=F) h a O' (hw _ (b0x hi)) hF,Go.V.X1 (show i<9223372036854775807 from O'),L04 d w hi]) (by
  unfold p0B;simp) (fu:=F) O'
 have hl:iter (p0B F w) F (0,J0h d)=some (a0n d w w.length):=hl;rw[hl];rfl
theorem M0K {d:Y1}(h:RdD d){w:List Int}(hw:∀x∈w,0<=x/\x<256)(h40:w.length<=1000)(hF:2000<F):K0n F d w=some (a0C (a0n d w w.length)):=by
 unfold K0n;rw[Q0n h hF];simp only[G0];have hl:=j0i (body:=J0V F w) w.length (fun i=>((i:Int),a0C (a0n d w i))) (a0C (a0n d w w.length)) (fun i hi=>by
  have a:=g0h h hw i O';unfold J0V;simp only[q0,dec_lt hi,Y7,hi,N01 (F:=F) h a O' (hw _ (b0x hi)) hF,Go.V.X1 (show i<9223372036854775807 from O'),L04 d w hi]) (by
  unfold J0V;simp) (fu:=F) O'
 have hl:iter (J0V F w) F (0,a0C (J0h d))=some (a0C (a0n d w w.length)):=hl;rw[hl];rfl
def h03 (c:f0L):List g0p×Int:=if c.last.tags.isEmpty then([],7)else(f02 c.last.tags c.last.to,0)
theorem M0d {c:f0L}(h:c.last.tags.length<=40)(hF:2000<F):J0j F c=some (h03 c):=by
 unfold J0j;rw[P0p h hF];unfold m0G h03;cases c.last.tags.isEmpty<;>rfl
def J0n (d:Y1)(w:List Int):List g0p×Int:=if a0V d then h03 (a0n d w w.length)else([],11)
def C0b (d:Y1)(w:List Int):List g0p×Int:=if a0V d then(if 0<=(a0n d w w.length).state/\(gt d.States (a0n d w w.length).state).Accept≠[]then h03 (a0n d w w.length)else([],7))else([],11)
section
variable {d:Y1}(hS:Sm d){w:List Int}(hw:∀x∈w,0<=x/\x<256)(h40:w.length<=1000)(hF:2000<F)
include hS hw h40 hF
theorem N02:o0J F d w=some (J0n d w):=by
 unfold o0J J0n;rw[M05 hS hw h40 hF];cases b:a0V d
 ·rfl
 have h:=I0Q hS b;have a:=g0h h hw w.length (le_refl _);simp only[q0,bne_self_eq_false,M0d a.tl hF]
theorem N0u:L0Y F d w=some (J0n d w):=by
 unfold L0Y J0n;rw[F0f d hS hF];cases b:a0V d
 ·rfl
 have h:=I0Q hS b;have a:=g0h h hw w.length (le_refl _);simp only[q0,M0K h hw h40 hF,M0y a.tl hF];unfold m0G h03;cases(a0n d w w.length).last.tags.isEmpty<;>rfl
theorem O0A:B0X F d w=some (C0b d w):=by
 unfold B0X C0b;rw[M05 hS hw h40 hF];cases c:a0V d
 ·rfl
 have h:=I0Q hS c;have a:=g0h h hw w.length (le_refl _);simp only[q0,bne_self_eq_false,M0d a.tl hF];unfold J0u;rw[a.d_];rcases a.st with h0|⟨h1,h2,h3⟩
 ·have e:decide ((a0n d w w.length).state>=0)=false:=by simp;omega
  have b:¬(0<=(a0n d w w.length).state/\(gt d.States (a0n d w w.length).state).Accept≠[]):=O'
  simp[e,b]
 ·have e:decide ((a0n d w w.length).state>=0)=true:=by simpa using h1
  simp only[e,if_true,V0 h1 h2,G0]
  by_cases ha:(gt d.States (a0n d w w.length).state).Accept=[]
  ·simp[ha]
  ·have:decide (((gt d.States (a0n d w w.length).state).Accept.length:Int)>0)=true:=by have:=List.length_pos_iff.2 ha;simp;omega
   simp only[q0,this];rw[if_pos ⟨h1,ha⟩]
theorem O0T {c:f0L}(h:0<=(a02 d c).state/\(gt d.States (a02 d c).state).Accept≠[]):(a02 d c).last.tags.isEmpty=false:=by
 by_cases a:0<=c.state/\(gt d.States c.state).Accept≠[]
 ·unfold a02;rw[if_pos a];show(a0j _ _ _).isEmpty=false;unfold a0j;simp[a.2]
 ·have e:a02 d c=c:=by unfold a02;rw[if_neg a]
  rw[e]at h;exact absurd h a
theorem P0t (i:Nat):∃c,a0n d w i=a02 d c:=by
 unfold a0n;generalize w.take i=l;rcases List.eq_nil_or_concat l with rfl|⟨a,x,rfl⟩
 ·exact⟨_,rfl⟩
 ·rw[List.concat_eq_append,List.foldl_append];exact⟨_,rfl⟩
theorem O0O:L07 F d w=some (C0b d w):=by
 unfold L07 C0b;rw[F0f d hS hF];cases g:a0V d
 ·rfl
 have h:=I0Q hS g;have b:=g0h h hw w.length (le_refl _);simp only[q0,M0K h hw h40 hF,M0y b.tl hF];have e0:(a0C (a0n d w w.length)).State=(a0n d w w.length).state:=rfl;rw[e0];rcases b.st with h0|⟨h1,h2,h3⟩
 ·have e:decide ((a0n d w w.length).state<0)=true:=by simp;omega
  have f:¬(0<=(a0n d w w.length).state/\(gt d.States (a0n d w w.length).state).Accept≠[]):=O'
  simp[e,f]
 ·have e:decide ((a0n d w w.length).state<0)=false:=by simpa using h1
  simp only[q0,e,V0 h1 h2]
  by_cases ha:(gt d.States (a0n d w w.length).state).Accept=[]
  ·simp[ha]
  ·have:(((gt d.States (a0n d w w.length).state).Accept.length:Int)==0)=false:=by simp[ha]
   simp only[this,false_eq_true,if_false];rw[if_pos ⟨h1,ha⟩];obtain⟨c,a⟩:=P0t (F:=F) hS hw h40 hF w.length;have hn:=O0T (F:=F) (c:=c) hS hw h40 hF (by rw[<-a];exact⟨h1,ha⟩);rw[<-a]at hn;unfold m0G h03;simp[hn]
end
theorem M0V {c:f0L}(h:c.last.tags.length<=40):(h03 c).1.length<=1000:=by
 unfold h03;split
 ·simp
 ·exact N0X _ _ O'
theorem driveAnswers:N0P:=by
 intro d w hd hw _;have hw:=N0s hw;refine⟨Fb,?_⟩;have hF:2000<Fb:=by unfold Fb;omega
 unfold M0I;rw[P0O d hF];cases hs:J0y d
 ·simp[L0W]
 have hS:=Q0c hs
 by_cases h40:w.length<=40
 rotate_left
 ·have:decide ((w.length:Int)>40)=true:=by simp;omega
  simp[L0W,this]
 have b:decide ((w.length:Int)>40)=false:=by simp;omega
 have e:(J0n d w).1.length<=1000:=by
  unfold J0n;cases a:a0V d
  ·simp
  ·exact M0V (g0h (I0Q hS a) hw _ (le_refl _)).tl
 have c:(C0b d w).1.length<=1000:=by
  unfold C0b;cases a:a0V d
  ·simp
  ·simp only[if_true];split
   ·exact M0V (g0h (I0Q hS a) hw _ (le_refl _)).tl
   ·simp
 simp only[q0,b,N02 hS hw O' hF,N0u hS hw O' hF,O0A hS hw O' hF,O0O hS hw O' hF,M0o e hF,M0o c hF,beq_self_eq_true,L0W]
