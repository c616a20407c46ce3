/- P. Its conditions: none. -/
import Derived.Test.YtbccffnofdnpoaaGreatAX13
set_option linter.all false
namespace Go.X
open Go.V Go.RowKit
def gtZ (n:Nat)(xs:List (List Int))(i:Int):List Int:=@gt _ ⟨List.replicate n 0⟩ xs i
def l9 {α:Type}(a:Option α):same a a=a:=by unfold same;simp
def m01 {α:Type}{b:Nat}{xs y:List α}(h:(if J0 b ([]:List α) xs then some xs else none)=some y):
  (if xs.isEmpty then same (some []) (if J0 b ([]:List α) xs then some ([]++xs)else none)else if J0 b ([]:List α) xs then some ([]++xs)else none)=some y:=by
 split at h
 ·rename_i a;cases h;rw[if_pos a];cases xs with
  |nil=>simp[l9]
  |cons x xs=>simp
 ·cases h
def Row.inv {H:M0}{e sz n:Nat}{v:Value}{cs:List Value}(h:Row H e sz v n cs)(he:e<Qe:=by unfold Qe;omega):cs.length=n*sz/\((n=0/\∃a,v=.slice a 0 0)\/
  ∃g cap cur,v=.slice (some ⟨g,0,none⟩) n cap/\0<cap/\H[g]?=some (.cells cur e (0,0))/\n<=cap/\cap<=maxLen/\cur.size=cap*sz/\cur.toList.take (n*sz)=cs):=by
 obtain⟨b,h1|⟨g,o,cap,cur,i,hp,hg,r2,f,d,c,j⟩⟩:=h
 ·exact⟨b,.inl h1⟩
 ·obtain rfl:=j he;rw[Nat.zero_mul]at i c;rw[if_pos he]at hg;rw[Nat.zero_add]at f d;exact⟨b,.inr ⟨g,cap,cur,i,hp,hg,r2,f,d,c⟩⟩
