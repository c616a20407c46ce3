/- Moves: what the parts of the program compute. Its conditions: none. -/
import Derived.Test.YtjkoiijpmiibpaaGreatPIt
set_option autoImplicit false
namespace Go.Proofs.YtjkoiijpmiibpaaGreat
open Go.V Go.RowKit

/-! Maps. -/
theorem mhas_iff (m : List (Int × Int)) (j : Int) : mhas m j = true ↔ j ∈ m.map Prod.fst := by
  induction m with
  | nil => simp [mhas]
  | cons p m ih => obtain ⟨a, b⟩ := p; simp only [mhas, Bool.or_eq_true, beq_iff_eq, ih, List.map_cons, List.mem_cons]; exact ⟨fun h => h.elim (fun h => .inl h.symm) .inr, fun h => h.elim (fun h => .inl h.symm) .inr⟩
theorem mdel_keys (m : List (Int × Int)) (k : Int) : (mdel m k).map Prod.fst = (m.map Prod.fst).erase k := by
  induction m with
  | nil => rfl
  | cons p m ih =>
    obtain ⟨a, b⟩ := p
    simp only [mdel]
    by_cases c : a = k
    · subst c; simp
    · have c' : ¬ (a == k) = true := by simpa using c
      simp only [beq_eq_false_iff_ne.2 c, Bool.false_eq_true, if_false, List.map_cons, ih]
      rw [List.erase_cons_tail c']
theorem mget_del {m : List (Int × Int)} {k j : Int} (h : j ≠ k) : mget (mdel m k) j = mget m j := by
  induction m with
  | nil => rfl
  | cons p m ih =>
    obtain ⟨a, b⟩ := p
    simp only [mdel]
    by_cases c : a = k
    · subst c; simp [mget, Ne.symm h]
    · simp only [beq_eq_false_iff_ne.2 c, Bool.false_eq_true, if_false, mget, ih]

/-! The parts. -/
def waitsB (o : MMovesOrder) (reg : Int) : Bool := o.keys.any fun t => mhas o.left t && mget o.left t == reg
def putO (o : MMovesOrder) (t : Int) : MMovesOrder := ⟨mdel o.left t, o.keys, o.spare, o.out ++ [⟨t, mget o.left t⟩]⟩
end Go.Proofs.YtjkoiijpmiibpaaGreat
