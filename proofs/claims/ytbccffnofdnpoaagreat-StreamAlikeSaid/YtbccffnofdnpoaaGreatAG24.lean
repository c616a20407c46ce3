/- P. Its conditions: none. -/
import Derived.Test.YtbccffnofdnpoaaGreatAEn
import Derived.Test.YtbccffnofdnpoaaGreatAX13
import Derived.Test.YtbccffnofdnpoaaGreatAVMap
set_option linter.all false
set_option maxRecDepth 100000
namespace Go.Proofs.YtbccffnofdnpoaaGreat
open Go.V Go.RowKit Go.X
def r0J:∀i H S cs x,(en.ty i).R H S cs x↔(a0O en (en.fs i)).R H S cs (en.un i x)
 |0,_,_,_,_=>Iff.rfl
 |1,_,_,_,_=>Iff.rfl
 |2,_,_,_,_=>Iff.rfl
 |3,_,_,_,_=>Iff.rfl
 |4,_,_,_,_=>Iff.rfl
 |5,_,_,_,_=>Iff.rfl
 |6,_,_,_,_=>Iff.rfl
 |7,_,_,_,_=>Iff.rfl
 |8,_,_,_,_=>Iff.rfl
 |9,_,_,_,_=>Iff.rfl
 |10,_,_,_,_=>Iff.rfl
 |11,_,_,_,_=>Iff.rfl
 |12,_,_,_,_=>Iff.rfl
 |13,_,_,_,_=>Iff.rfl
 |14,_,_,_,_=>Iff.rfl
 |15,_,_,_,_=>Iff.rfl
 |16,_,_,_,_=>Iff.rfl
 |17,_,_,_,_=>Iff.rfl
 |18,_,_,_,_=>Iff.rfl
 |19,_,_,_,_=>Iff.rfl
 |20,_,_,_,_=>Iff.rfl
 |21,_,_,_,_=>Iff.rfl
 |22,_,_,_,_=>Iff.rfl
 |23,_,_,_,_=>Iff.rfl
 |24,_,_,_,_=>Iff.rfl
 |25,_,_,_,_=>Iff.rfl
 |26,_,_,_,_=>Iff.rfl
 |27,_,_,_,_=>Iff.rfl
 |28,_,_,_,_=>Iff.rfl
 |29,_,_,_,_=>Iff.rfl
 |30,_,_,_,_=>Iff.rfl
 |31,_,_,_,_=>Iff.rfl
 |32,_,_,_,_=>Iff.rfl
 |33,_,_,_,_=>Iff.rfl
 |_+34,_,_,_,_=>Iff.rfl
def B0d:∀i,(en.ty i).sz=(a0O en (en.fs i)).sz
 |0=>rfl
 |1=>rfl
 |2=>rfl
 |3=>rfl
 |4=>rfl
 |5=>rfl
 |6=>rfl
 |7=>rfl
 |8=>rfl
 |9=>rfl
 |10=>rfl
 |11=>rfl
 |12=>rfl
 |13=>rfl
 |14=>rfl
 |15=>rfl
 |16=>rfl
 |17=>rfl
 |18=>rfl
 |19=>rfl
 |20=>rfl
 |21=>rfl
 |22=>rfl
 |23=>rfl
 |24=>rfl
 |25=>rfl
 |26=>rfl
 |27=>rfl
 |28=>rfl
 |29=>rfl
 |30=>rfl
 |31=>rfl
 |32=>rfl
 |33=>rfl
 |_+34=>rfl
def C0j:∀i h,en.un i (en.mkS i h)=h
 |0,_=>rfl
 |1,_=>rfl
 |2,_=>rfl
 |3,_=>rfl
 |4,_=>rfl
 |5,_=>rfl
 |6,_=>rfl
 |7,_=>rfl
 |8,_=>rfl
 |9,_=>rfl
 |10,_=>rfl
 |11,_=>rfl
 |12,_=>rfl
 |13,_=>rfl
 |14,_=>rfl
 |15,_=>rfl
 |16,_=>rfl
 |17,_=>rfl
 |18,_=>rfl
 |19,_=>rfl
 |20,_=>rfl
 |21,_=>rfl
 |22,_=>rfl
 |23,_=>rfl
 |24,_=>rfl
 |25,_=>rfl
 |26,_=>rfl
 |27,_=>rfl
 |28,_=>rfl
 |29,_=>rfl
 |30,_=>rfl
 |31,_=>rfl
 |32,_=>rfl
 |33,_=>rfl
 |_+34,_=>rfl
def b0j:G2 en:=⟨r0J,B0d,C0j,Y'⟩
end Go.Proofs.YtbccffnofdnpoaaGreat
namespace Go.V
open Go.RowKit
theorem J3 {n:Int}(h1:-9223372036854775808<=n)(a:n<=9223372036854775807):W n=n:=by
 simp[W,IntKind.wrap,IntKind.bits,IntKind.signed];omega
def x0Q {n:Nat}(a:n<=9223372036854775807):W (n:Int)=n:=J3 O' O'
theorem K2 {n:Nat}(a:n<9223372036854775807):W ((n:Int)+1)=((n+1:Nat):Int):=by rw[J3 O' O'];rfl
def u0K {σ τ:Type}{step:σ->Option (X0 σ τ)}:∀{k:Nat} {s:σ} {t:τ} {m:Nat},iter step k s=some t->k<=m->iter step m s=some t
 |0,s,t,m,h,_=>by simp[iter]at h
 |k+1,s,t,m,h,hm=>by
  obtain⟨m,rfl⟩:∃q,m=q+1:=⟨m-1,O'⟩
  unfold iter at h ⊢;split at h
  ·cases h
  ·exact u0K h O'
  ·exact h
def V3 {σ τ:Type}{step:σ->Option (X0 σ τ)}(st:Nat->σ)(r:τ)(n:Nat)(hs:∀i,i<n->step (st i)=some (.next (st (i+1)))\/step (st i)=some (.done r))(hd:step (st n)=some (.done r)):
  ∀(k i fuel:Nat),i+k=n->k<fuel->iter step fuel (st i)=some r:=by
 intro k
 induction k with
 |zero=>
  intro i fuel h a;obtain rfl:i=n:=O'
  cases fuel with
  |zero=>omega
  |succ f=>unfold iter;rw[hd]
 |succ k ih=>
  intro i fuel h a;cases fuel with
  |zero=>omega
  |succ f=>
   unfold iter;rcases hs i O' with h1|h1
   ·rw[h1];exact ih (i+1) f O' O'
   ·rw[h1]
def x0o {α:Type}[Inhabited α](l:List α)(i:Nat):gt l (i:Int)=l.getD i default:=rfl
theorem P2 {α:Type}[Inhabited α]{l:List α}{i:Nat}{x:α}(h:l[i]?=some x):gt l (i:Int)=x:=by
 rw[x0o,List.getD_eq_getElem?_getD,h];rfl
theorem m0y {α:Type}[Inhabited α]{l:List α}{i:Int}{x:α}(h:l[i.toNat]?=some x):gt l i=x:=by
 unfold gt;rw[List.getD_eq_getElem?_getD,h];rfl
def Q4 {α:Type}(l:List α)(i:Nat):C0 l (i:Int)=decide (i<l.length):=by
 simp[C0]
theorem R0 {α:Type}{l:List α}{i:Int}(a:0<=i)(h:i<l.length):C0 l i=true:=by simp[C0,a,h]
def W4 {α:Type}{b:Nat}{xs ys:List α}(h:(xs.length+ys.length)*b<=140737488355328):J0 b xs ys=true:=by simpa[J0]using h
@[simp] def F0 {α β:Type _}(x:α)(f:α->Option β):Option.bind (some x) f=f x:=rfl
theorem q0:(∀{α:Type}{h:Decidable True}(a b:α),@ite α True h a b=a)/\(∀{α:Type}{h:Decidable False}(a b:α),@ite α False h a b=b)/\((false=true)=False)/\(∀{h:Decidable True},@decide True h=true)/\(∀{h:Decidable False},@decide False h=false)/\((!true)=false)/\((!false)=true)/\(∀{α β:Type}(x:α)(f:α->Option β),Option.bind (some x) f=f x):=⟨fun _ _=>if_pos trivial,fun _ _=>if_neg id,V',V',V',rfl,rfl,fun _ _=>rfl⟩
theorem b0l {α:Type}[Inhabited α]{l m:List α}{i:Int}(a:0<=i)(h:i<l.length):gt (l++m) i=gt l i:=by
 unfold gt;rw[List.getD_eq_getElem?_getD,List.getD_eq_getElem?_getD,List.getElem?_append_left O']
theorem c0Z {α:Type}[Inhabited α]{l m:List α}{x:α}{i:Nat}(h:i=l.length):gt (l++x :: m) (i:Int)=x:=by
 subst h;exact P2 V'
def y0l {α:Type}{l m:List α}{x y:α}{i:Nat}(h:i=l.length):(l++x :: m).set i y=l++y :: m:=by
 subst h;simp
def p0b {α:Type}{n i:Nat}(h:i<n)(x:α):List.replicate (n-i) x=x :: List.replicate (n-(i+1)) x:=by
 rw[show n-i=(n-(i+1))+1 from O',List.replicate_succ]
