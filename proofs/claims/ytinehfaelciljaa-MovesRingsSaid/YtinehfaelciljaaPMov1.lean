/- Moves: what the parts of the program compute. Its conditions: none. -/
import Derived.Test.YtinehfaelciljaaMo
import Derived.Test.YtinehfaelciljaaVPl
set_option autoImplicit false
namespace Go.Proofs.Ytinehfaelciljaa
open Go.V Go.RowKit

/-! Maps. -/
theorem mget_put (m : List (Int × Int)) (k v j : Int) : mget (mput m k v) j = if k = j then v else mget m j := by
  induction m with
  | nil => by_cases h : k = j <;> simp [mput, mget, h]
  | cons p m ih =>
    obtain ⟨a, b⟩ := p
    simp only [mput]
    by_cases h : a = k
    · subst h
      by_cases h2 : a = j <;> simp [mget, h2]
    · simp only [beq_eq_false_iff_ne.2 h, Bool.false_eq_true, if_false, mget]
      by_cases h2 : a = j
      · subst h2; simp [Ne.symm h]
      · simp [h2, ih]
theorem mhas_iff (m : List (Int × Int)) (j : Int) : mhas m j = true ↔ j ∈ m.map Prod.fst := by
  induction m with
  | nil => simp [mhas]
  | cons p m ih => obtain ⟨a, b⟩ := p; simp only [mhas, Bool.or_eq_true, beq_iff_eq, ih, List.map_cons, List.mem_cons]; exact ⟨fun h => h.elim (fun h => .inl h.symm) .inr, fun h => h.elim (fun h => .inl h.symm) .inr⟩
theorem keys_put_new (m : List (Int × Int)) (k v : Int) (h : mhas m k = false) : mput m k v = m ++ [(k, v)] := by
  induction m with
  | nil => rfl
  | cons p m ih =>
    obtain ⟨a, b⟩ := p
    simp only [mhas, Bool.or_eq_false_iff] at h
    simp only [mput, h.1, Bool.false_eq_true, if_false, ih h.2, List.cons_append]
theorem keys_put_old (m : List (Int × Int)) (k v : Int) (h : mhas m k = true) : (mput m k v).map Prod.fst = m.map Prod.fst := by
  induction m with
  | nil => simp [mhas] at h
  | cons p m ih =>
    obtain ⟨a, b⟩ := p
    simp only [mput]
    by_cases c : a = k
    · subst c; simp
    · simp only [mhas, beq_eq_false_iff_ne.2 c, Bool.false_or] at h
      simp [beq_eq_false_iff_ne.2 c, ih h]
theorem mdel_keys (m : List (Int × Int)) (k : Int) : (mdel m k).map Prod.fst = (m.map Prod.fst).erase k := by
  induction m with
  | nil => rfl
  | cons p m ih =>
    obtain ⟨a, b⟩ := p
    simp only [mdel]
    by_cases c : a = k
    · subst c; simp
    · have c' : ¬ (a == k) = true := by simpa using c
      simp only [beq_eq_false_iff_ne.2 c, Bool.false_eq_true, if_false, List.map_cons, ih]
      rw [List.erase_cons_tail c']
theorem mget_del {m : List (Int × Int)} {k j : Int} (h : j ≠ k) : mget (mdel m k) j = mget m j := by
  induction m with
  | nil => rfl
  | cons p m ih =>
    obtain ⟨a, b⟩ := p
    simp only [mdel]
    by_cases c : a = k
    · subst c; simp [mget, Ne.symm h]
    · simp only [beq_eq_false_iff_ne.2 c, Bool.false_eq_true, if_false, mget, ih]

/-! The parts. -/
def waitsB (o : MMovesOrder) (reg : Int) : Bool := o.keys.any fun t => mhas o.left t && mget o.left t == reg
theorem any_drop {α : Type} [Inhabited α] (p : α → Bool) (l : List α) {i : Nat} (h : i < l.length) : (l.drop i).any p = (p (gt l (i : Int)) || (l.drop (i + 1)).any p) := by
  rw [List.drop_eq_getElem_cons h, List.any_cons, gt_get_nat (x := l[i]) (by simp [h])]
theorem m_waits {fuel : Nat} {o : MMovesOrder} (reg : Int) (hl : o.keys.length ≤ 1000) (hf : 1000 < fuel) : m_moves_order_waits fuel o reg = some (waitsB o reg, o) := by
  have key : ∀ (n i fu : Nat), i + n = o.keys.length → n < fu → iter (m_moves_order_waits_l1 fuel o reg) fu (i : Int) = some (if (o.keys.drop i).any (fun t => mhas o.left t && mget o.left t == reg) then .inr (true, o) else .inl ()) := by
    intro n
    induction n with
    | zero =>
      intro i fu hi hfu
      obtain ⟨fu, rfl⟩ : ∃ m, fu = m + 1 := ⟨fu - 1, by omega⟩
      unfold iter m_moves_order_waits_l1
      rw [List.drop_of_length_le (by omega)]
      simp [show ¬ ((i : Int) < (o.keys.length : Int)) by omega]
    | succ n ih =>
      intro i fu hi hfu
      obtain ⟨fu, rfl⟩ : ∃ m, fu = m + 1 := ⟨fu - 1, by omega⟩
      have hin : inb o.keys (i : Int) = true := inb_true (by omega) (by omega)
      have hd : (i : Int) < (o.keys.length : Int) := by omega
      have ih' := ih (i + 1) fu (by omega) (by omega)
      rw [any_drop _ _ (show i < o.keys.length by omega)]
      unfold iter
      have hst : m_moves_order_waits_l1 fuel o reg (i : Int) = if (mhas o.left (gt o.keys (i : Int)) && mget o.left (gt o.keys (i : Int)) == reg) then some (.done (.inr (true, o))) else some (.next ((i + 1 : Nat) : Int)) := by
        unfold m_moves_order_waits_l1
        simp only [hd, decide_true, if_true, hin, W_succ (show i < 9223372036854775807 by omega)]
        cases mhas o.left (gt o.keys (i : Int)) <;> simp
      rw [hst]
      cases c : (mhas o.left (gt o.keys (i : Int)) && mget o.left (gt o.keys (i : Int)) == reg) with
      | true => simp
      | false => simpa using ih'
  have := key o.keys.length 0 fuel (by omega) (by omega)
  rw [List.drop_zero] at this
  unfold m_moves_order_waits waitsB
  rw [show (0 : Int) = ((0 : Nat) : Int) from rfl, this]
  split <;> simp [*]
def putO (o : MMovesOrder) (t : Int) : MMovesOrder := ⟨mdel o.left t, o.keys, o.spare, o.out ++ [⟨t, mget o.left t⟩]⟩
theorem m_put {fuel : Nat} {o : MMovesOrder} (t : Int) (hl : o.out.length ≤ 1000) : m_moves_order_put fuel o t = some (putO o t) := by
  unfold m_moves_order_put
  rw [if_pos (apOk_true (by simp; omega))]; rfl
def freeS (s : MMovesOrder × Bool) (t : Int) : MMovesOrder × Bool := if mhas s.1.left t && !waitsB s.1 t then (putO s.1 t, true) else s
theorem freeS_keys (ks : List Int) : ∀ s : MMovesOrder × Bool, (ks.foldl freeS s).1.keys = s.1.keys ∧ (ks.foldl freeS s).1.spare = s.1.spare ∧ (ks.foldl freeS s).1.out.length ≤ s.1.out.length + ks.length := by
  induction ks with
  | nil => intro s; exact ⟨rfl, rfl, Nat.le_refl _⟩
  | cons t ks ih =>
    intro s
    obtain ⟨h1, h2, h3⟩ := ih (freeS s t)
    have : (freeS s t).1.keys = s.1.keys ∧ (freeS s t).1.spare = s.1.spare ∧ (freeS s t).1.out.length ≤ s.1.out.length + 1 := by
      unfold freeS; split <;> simp [putO]
    simp only [List.foldl_cons, List.length_cons]
    exact ⟨h1.trans this.1, h2.trans this.2.1, by omega⟩
theorem m_free {fuel : Nat} {o : MMovesOrder} (hl : o.keys.length ≤ 1000) (ho : o.out.length + o.keys.length ≤ 1000) (hf : 1000 < fuel) : m_moves_order_free fuel o = some ((o.keys.foldl freeS (o, false)).2, (o.keys.foldl freeS (o, false)).1) := by
  have key : ∀ (n i : Nat) (s : MMovesOrder × Bool) (fu : Nat), i + n = o.keys.length → n < fu → s.1.keys = o.keys → s.1.out.length ≤ o.out.length + i → iter (m_moves_order_free_l1 fuel o) fu (s.1, s.2, (i : Int)) = some ((o.keys.drop i).foldl freeS s) := by
    intro n
    induction n with
    | zero =>
      intro i s fu hi hfu hk ho2
      obtain ⟨fu, rfl⟩ : ∃ m, fu = m + 1 := ⟨fu - 1, by omega⟩
      unfold iter m_moves_order_free_l1
      rw [List.drop_of_length_le (by omega)]
      simp [show ¬ ((i : Int) < (o.keys.length : Int)) by omega]
    | succ n ih =>
      intro i s fu hi hfu hk ho2
      obtain ⟨fu, rfl⟩ : ∃ m, fu = m + 1 := ⟨fu - 1, by omega⟩
      have hin : inb o.keys (i : Int) = true := inb_true (by omega) (by omega)
      have hd : (i : Int) < (o.keys.length : Int) := by omega
      have hg : gt o.keys (i : Int) = o.keys[i]'(by omega) := gt_get_nat (by simp [show i < o.keys.length by omega])
      have hfk := freeS_keys [o.keys[i]'(by omega)] s
      simp only [List.foldl_cons, List.foldl_nil, List.length_singleton] at hfk
      rw [List.drop_eq_getElem_cons (show i < o.keys.length by omega), List.foldl_cons]
      have ih' := ih (i + 1) (freeS s (o.keys[i]'(by omega))) fu (by omega) (by omega) (hfk.1.trans hk) (by omega)
      unfold iter
      have hst : m_moves_order_free_l1 fuel o (s.1, s.2, (i : Int)) = some (.next ((freeS s (o.keys[i]'(by omega))).1, (freeS s (o.keys[i]'(by omega))).2, ((i + 1 : Nat) : Int))) := by
        unfold m_moves_order_free_l1 freeS
        simp only [hd, decide_true, if_true, hin, hg, W_succ (show i < 9223372036854775807 by omega), m_waits (fuel := fuel) (o := s.1) (o.keys[i]'(by omega)) (by rw [hk]; omega) hf, bind_some']
        cases h1 : mhas s.1.left (o.keys[i]'(by omega)) with
        | false => simp
        | true =>
          cases h2 : waitsB s.1 (o.keys[i]'(by omega)) with
          | true => simp
          | false => simp [m_put (fuel := fuel) (o := s.1) (o.keys[i]'(by omega)) (by omega)]
      rw [hst]
      exact ih'
  have := key o.keys.length 0 (o, false) fuel (by omega) (by omega) rfl (Nat.le_refl _)
  rw [List.drop_zero] at this
  unfold m_moves_order_free
  rw [show (0 : Int) = ((0 : Nat) : Int) from rfl, this]
  simp
def ringS (at_ : Int) (o : MMovesOrder) (t : Int) : MMovesOrder := if mhas o.left t && mget o.left t == at_ then ⟨mput o.left t o.spare, o.keys, o.spare, o.out⟩ else o
def ringO (o : MMovesOrder) : MMovesOrder := match o.keys.find? fun t => mhas o.left t with
  | none => o
  | some a => o.keys.foldl (ringS a) ⟨o.left, o.keys, o.spare, o.out ++ [⟨o.spare, a⟩]⟩
theorem ring_in {fuel : Nat} {x1 p0 : MMovesOrder} {x2 a : Int} (ha : gt p0.keys x2 = a) (hl : x1.keys.length ≤ 1000) (hf : 1000 < fuel) (o : MMovesOrder) : iter (m_moves_order_ring_l2 fuel x1 p0 x2) fuel (o, 0) = some (x1.keys.foldl (ringS a) o) := by
  have key : ∀ (n i : Nat) (s : MMovesOrder) (fu : Nat), i + n = x1.keys.length → n < fu → iter (m_moves_order_ring_l2 fuel x1 p0 x2) fu (s, (i : Int)) = some ((x1.keys.drop i).foldl (ringS a) s) := by
    intro n
    induction n with
    | zero =>
      intro i s fu hi hfu
      obtain ⟨fu, rfl⟩ : ∃ m, fu = m + 1 := ⟨fu - 1, by omega⟩
      unfold iter m_moves_order_ring_l2
      rw [List.drop_of_length_le (by omega)]
      simp [show ¬ ((i : Int) < (x1.keys.length : Int)) by omega]
    | succ n ih =>
      intro i s fu hi hfu
      obtain ⟨fu, rfl⟩ : ∃ m, fu = m + 1 := ⟨fu - 1, by omega⟩
      have hin : inb x1.keys (i : Int) = true := inb_true (by omega) (by omega)
      have hd : (i : Int) < (x1.keys.length : Int) := by omega
      have hg : gt x1.keys (i : Int) = x1.keys[i]'(by omega) := gt_get_nat (by simp [show i < x1.keys.length by omega])
      rw [List.drop_eq_getElem_cons (show i < x1.keys.length by omega), List.foldl_cons]
      unfold iter
      have hst : m_moves_order_ring_l2 fuel x1 p0 x2 (s, (i : Int)) = some (.next (ringS a s (x1.keys[i]'(by omega)), ((i + 1 : Nat) : Int))) := by
        unfold m_moves_order_ring_l2 ringS
        simp only [hd, decide_true, if_true, hin, hg, ha, W_succ (show i < 9223372036854775807 by omega)]
        cases mhas s.left (x1.keys[i]'(by omega)) <;> simp
        split <;> simp
      rw [hst]
      exact ih (i + 1) _ fu (by omega) (by omega)
  have := key x1.keys.length 0 o fuel (by omega) (by omega)
  rwa [List.drop_zero] at this
theorem m_ring {fuel : Nat} {o : MMovesOrder} (hl : o.keys.length ≤ 1000) (ho : o.out.length ≤ 1000) (hf : 1000 < fuel) : m_moves_order_ring fuel o = some (ringO o) := by
  have key : ∀ (n i : Nat) (fu : Nat), i + n = o.keys.length → n < fu → iter (m_moves_order_ring_l1 fuel o) fu (o, (i : Int)) = some (match (o.keys.drop i).find? fun t => mhas o.left t with | none => .inl o | some a => .inr (o.keys.foldl (ringS a) ⟨o.left, o.keys, o.spare, o.out ++ [⟨o.spare, a⟩]⟩)) := by
    intro n
    induction n with
    | zero =>
      intro i fu hi hfu
      obtain ⟨fu, rfl⟩ : ∃ m, fu = m + 1 := ⟨fu - 1, by omega⟩
      unfold iter m_moves_order_ring_l1
      rw [List.drop_of_length_le (by omega)]
      simp [show ¬ ((i : Int) < (o.keys.length : Int)) by omega]
    | succ n ih =>
      intro i fu hi hfu
      obtain ⟨fu, rfl⟩ : ∃ m, fu = m + 1 := ⟨fu - 1, by omega⟩
      have hin : inb o.keys (i : Int) = true := inb_true (by omega) (by omega)
      have hd : (i : Int) < (o.keys.length : Int) := by omega
      have hg : gt o.keys (i : Int) = o.keys[i]'(by omega) := gt_get_nat (by simp [show i < o.keys.length by omega])
      have hap : apOk 16 o.out [(⟨o.spare, o.keys[i]'(by omega)⟩ : MMove)] = true := apOk_true (by simp; omega)
      rw [List.drop_eq_getElem_cons (show i < o.keys.length by omega), List.find?_cons]
      unfold iter
      cases c : mhas o.left (o.keys[i]'(by omega)) with
      | true =>
        have hst : m_moves_order_ring_l1 fuel o (o, (i : Int)) = some (.done (.inr (o.keys.foldl (ringS (o.keys[i]'(by omega))) ⟨o.left, o.keys, o.spare, o.out ++ [⟨o.spare, o.keys[i]'(by omega)⟩]⟩))) := by
          unfold m_moves_order_ring_l1
          simp only [hd, decide_true, if_true, hin, hg, c, Bool.not_true, Bool.false_eq_true, if_false, hap, ring_in hg hl hf, bind_some']
        rw [hst]
      | false =>
        have hst : m_moves_order_ring_l1 fuel o (o, (i : Int)) = some (.next (o, ((i + 1 : Nat) : Int))) := by
          unfold m_moves_order_ring_l1
          simp only [hd, decide_true, if_true, hin, hg, c, Bool.not_false, W_succ (show i < 9223372036854775807 by omega)]
        rw [hst]
        exact ih (i + 1) fu (by omega) (by omega)
  have := key o.keys.length 0 fuel (by omega) (by omega)
  rw [List.drop_zero] at this
  unfold m_moves_order_ring ringO
  rw [show (0 : Int) = ((0 : Nat) : Int) from rfl, this]
  cases o.keys.find? fun t => mhas o.left t <;> rfl
end Go.Proofs.Ytinehfaelciljaa
