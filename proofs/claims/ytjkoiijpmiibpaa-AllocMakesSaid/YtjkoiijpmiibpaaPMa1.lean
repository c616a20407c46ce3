/- Moves: what the parts of the program compute. Its conditions: none. -/
import Derived.Test.YtjkoiijpmiibpaaPIt
set_option autoImplicit false
namespace Go.Proofs.Ytjkoiijpmiibpaa
open Go.V Go.RowKit

/-! Maps. -/
theorem mget_put (m : List (Int × Int)) (k v j : Int) : mget (mput m k v) j = if k = j then v else mget m j := by
  induction m with
  | nil => by_cases h : k = j <;> simp [mput, mget, h]
  | cons p m ih =>
    obtain ⟨a, b⟩ := p
    simp only [mput]
    by_cases h : a = k
    · subst h
      by_cases h2 : a = j <;> simp [mget, h2]
    · simp only [beq_eq_false_iff_ne.2 h, Bool.false_eq_true, if_false, mget]
      by_cases h2 : a = j
      · subst h2; simp [Ne.symm h]
      · simp [h2, ih]
theorem mhas_iff (m : List (Int × Int)) (j : Int) : mhas m j = true ↔ j ∈ m.map Prod.fst := by
  induction m with
  | nil => simp [mhas]
  | cons p m ih => obtain ⟨a, b⟩ := p; simp only [mhas, Bool.or_eq_true, beq_iff_eq, ih, List.map_cons, List.mem_cons]; exact ⟨fun h => h.elim (fun h => .inl h.symm) .inr, fun h => h.elim (fun h => .inl h.symm) .inr⟩
theorem keys_put_new (m : List (Int × Int)) (k v : Int) (h : mhas m k = false) : mput m k v = m ++ [(k, v)] := by
  induction m with
  | nil => rfl
  | cons p m ih =>
    obtain ⟨a, b⟩ := p
    simp only [mhas, Bool.or_eq_false_iff] at h
    simp only [mput, h.1, Bool.false_eq_true, if_false, ih h.2, List.cons_append]
theorem keys_put_old (m : List (Int × Int)) (k v : Int) (h : mhas m k = true) : (mput m k v).map Prod.fst = m.map Prod.fst := by
  induction m with
  | nil => simp [mhas] at h
  | cons p m ih =>
    obtain ⟨a, b⟩ := p
    simp only [mput]
    by_cases c : a = k
    · subst c; simp
    · simp only [mhas, beq_eq_false_iff_ne.2 c, Bool.false_or] at h
      simp [beq_eq_false_iff_ne.2 c, ih h]
theorem mdel_keys (m : List (Int × Int)) (k : Int) : (mdel m k).map Prod.fst = (m.map Prod.fst).erase k := by
  induction m with
  | nil => rfl
  | cons p m ih =>
    obtain ⟨a, b⟩ := p
    simp only [mdel]
    by_cases c : a = k
    · subst c; simp
    · have c' : ¬ (a == k) = true := by simpa using c
      simp only [beq_eq_false_iff_ne.2 c, Bool.false_eq_true, if_false, List.map_cons, ih]
      rw [List.erase_cons_tail c']
theorem mget_del {m : List (Int × Int)} {k j : Int} (h : j ≠ k) : mget (mdel m k) j = mget m j := by
  induction m with
  | nil => rfl
  | cons p m ih =>
    obtain ⟨a, b⟩ := p
    simp only [mdel]
    by_cases c : a = k
    · subst c; simp [mget, Ne.symm h]
    · simp only [beq_eq_false_iff_ne.2 c, Bool.false_eq_true, if_false, mget, ih]

/-! The parts. -/
def waitsB (o : MMovesOrder) (reg : Int) : Bool := o.keys.any fun t => mhas o.left t && mget o.left t == reg
theorem any_drop {α : Type} [Inhabited α] (p : α → Bool) (l : List α) {i : Nat} (h : i < l.length) : (l.drop i).any p = (p (gt l (i : Int)) || (l.drop (i + 1)).any p) := by
  rw [List.drop_eq_getElem_cons h, List.any_cons, gt_get_nat (x := l[i]) (by simp [h])]
theorem m_waits {fuel : Nat} {o : MMovesOrder} (reg : Int) (hl : o.keys.length ≤ 5000) (hf : 5000 < fuel) : m_moves_order_waits fuel o reg = some (waitsB o reg, o) := by
  have key : ∀ (n i fu : Nat), i + n = o.keys.length → n < fu → iter (m_moves_order_waits_l1 fuel o reg) fu (i : Int) = some (if (o.keys.drop i).any (fun t => mhas o.left t && mget o.left t == reg) then .inr (true, o) else .inl ()) := by
    intro n
    induction n with
    | zero =>
      intro i fu hi hfu
      obtain ⟨fu, rfl⟩ : ∃ m, fu = m + 1 := ⟨fu - 1, by omega⟩
      unfold iter m_moves_order_waits_l1
      rw [List.drop_of_length_le (by omega)]
      simp [show ¬ ((i : Int) < (o.keys.length : Int)) by omega]
    | succ n ih =>
      intro i fu hi hfu
      obtain ⟨fu, rfl⟩ : ∃ m, fu = m + 1 := ⟨fu - 1, by omega⟩
      have hin : inb o.keys (i : Int) = true := inb_true (by omega) (by omega)
      have hd : (i : Int) < (o.keys.length : Int) := by omega
      have ih' := ih (i + 1) fu (by omega) (by omega)
      rw [any_drop _ _ (show i < o.keys.length by omega)]
      unfold iter
      have hst : m_moves_order_waits_l1 fuel o reg (i : Int) = if (mhas o.left (gt o.keys (i : Int)) && mget o.left (gt o.keys (i : Int)) == reg) then some (.done (.inr (true, o))) else some (.next ((i + 1 : Nat) : Int)) := by
        unfold m_moves_order_waits_l1
        simp only [hd, decide_true, if_true, hin, W_succ (show i < 9223372036854775807 by omega)]
        cases mhas o.left (gt o.keys (i : Int)) <;> simp
      rw [hst]
      cases c : (mhas o.left (gt o.keys (i : Int)) && mget o.left (gt o.keys (i : Int)) == reg) with
      | true => simp
      | false => simpa using ih'
  have := key o.keys.length 0 fuel (by omega) (by omega)
  rw [List.drop_zero] at this
  unfold m_moves_order_waits waitsB
  rw [show (0 : Int) = ((0 : Nat) : Int) from rfl, this]
  split <;> simp [*]
def putO (o : MMovesOrder) (t : Int) : MMovesOrder := ⟨mdel o.left t, o.keys, o.spare, o.out ++ [⟨t, mget o.left t⟩]⟩
theorem m_put {fuel : Nat} {o : MMovesOrder} (t : Int) (hl : o.out.length ≤ 5000) : m_moves_order_put fuel o t = some (putO o t) := by
  unfold m_moves_order_put
  rw [if_pos (apOk_true (by simp; omega))]; rfl
def freeS (s : MMovesOrder × Bool) (t : Int) : MMovesOrder × Bool := if mhas s.1.left t && !waitsB s.1 t then (putO s.1 t, true) else s
theorem freeS_keys (ks : List Int) : ∀ s : MMovesOrder × Bool, (ks.foldl freeS s).1.keys = s.1.keys ∧ (ks.foldl freeS s).1.spare = s.1.spare ∧ (ks.foldl freeS s).1.out.length ≤ s.1.out.length + ks.length := by
  induction ks with
  | nil => intro s; exact ⟨rfl, rfl, Nat.le_refl _⟩
  | cons t ks ih =>
    intro s
    obtain ⟨h1, h2, h3⟩ := ih (freeS s t)
    have : (freeS s t).1.keys = s.1.keys ∧ (freeS s t).1.spare = s.1.spare ∧ (freeS s t).1.out.length ≤ s.1.out.length + 1 := by
      unfold freeS; split <;> simp [putO]
    simp only [List.foldl_cons, List.length_cons]
    exact ⟨h1.trans this.1, h2.trans this.2.1, by omega⟩
theorem m_free {fuel : Nat} {o : MMovesOrder} (hl : o.keys.length ≤ 5000) (ho : o.out.length + o.keys.length ≤ 5000) (hf : 5000 < fuel) : m_moves_order_free fuel o = some ((o.keys.foldl freeS (o, false)).2, (o.keys.foldl freeS (o, false)).1) := by
  have key : ∀ (n i : Nat) (s : MMovesOrder × Bool) (fu : Nat), i + n = o.keys.length → n < fu → s.1.keys = o.keys → s.1.out.length ≤ o.out.length + i → iter (m_moves_order_free_l1 fuel o) fu (s.1, s.2, (i : Int)) = some ((o.keys.drop i).foldl freeS s) := by
    intro n
    induction n with
    | zero =>
      intro i s fu hi hfu hk ho2
      obtain ⟨fu, rfl⟩ : ∃ m, fu = m + 1 := ⟨fu - 1, by omega⟩
      unfold iter m_moves_order_free_l1
      rw [List.drop_of_length_le (by omega)]
      simp [show ¬ ((i : Int) < (o.keys.length : Int)) by omega]
    | succ n ih =>
      intro i s fu hi hfu hk ho2
      obtain ⟨fu, rfl⟩ : ∃ m, fu = m + 1 := ⟨fu - 1, by omega⟩
      have hin : inb o.keys (i : Int) = true := inb_true (by omega) (by omega)
      have hd : (i : Int) < (o.keys.length : Int) := by omega
      have hg : gt o.keys (i : Int) = o.keys[i]'(by omega) := gt_get_nat (by simp [show i < o.keys.length by omega])
      have hfk := freeS_keys [o.keys[i]'(by omega)] s
      simp only [List.foldl_cons, List.foldl_nil, List.length_singleton] at hfk
      rw [List.drop_eq_getElem_cons (show i < o.keys.length by omega), List.foldl_cons]
      have ih' := ih (i + 1) (freeS s (o.keys[i]'(by omega))) fu (by omega) (by omega) (hfk.1.trans hk) (by omega)
      unfold iter
      have hst : m_moves_order_free_l1 fuel o (s.1, s.2, (i : Int)) = some (.next ((freeS s (o.keys[i]'(by omega))).1, (freeS s (o.keys[i]'(by omega))).2, ((i + 1 : Nat) : Int))) := by
        unfold m_moves_order_free_l1 freeS
        simp only [hd, decide_true, if_true, hin, hg, W_succ (show i < 9223372036854775807 by omega), m_waits (fuel := fuel) (o := s.1) (o.keys[i]'(by omega)) (by rw [hk]; omega) hf, bind_some']
        cases h1 : mhas s.1.left (o.keys[i]'(by omega)) with
        | false => simp
        | true =>
          cases h2 : waitsB s.1 (o.keys[i]'(by omega)) with
          | true => simp
          | false => simp [m_put (fuel := fuel) (o := s.1) (o.keys[i]'(by omega)) (by omega)]
      rw [hst]
      exact ih'
  have := key o.keys.length 0 (o, false) fuel (by omega) (by omega) rfl (Nat.le_refl _)
  rw [List.drop_zero] at this
  unfold m_moves_order_free
  rw [show (0 : Int) = ((0 : Nat) : Int) from rfl, this]
  simp
def ringS (at_ : Int) (o : MMovesOrder) (t : Int) : MMovesOrder := if mhas o.left t && mget o.left t == at_ then ⟨mput o.left t o.spare, o.keys, o.spare, o.out⟩ else o
def ringO (o : MMovesOrder) : MMovesOrder := match o.keys.find? fun t => mhas o.left t with
  | none => o
  | some a => o.keys.foldl (ringS a) ⟨o.left, o.keys, o.spare, o.out ++ [⟨o.spare, a⟩]⟩
theorem ring_in {fuel : Nat} {x1 p0 : MMovesOrder} {x2 a : Int} (ha : gt p0.keys x2 = a) (hl : x1.keys.length ≤ 5000) (hf : 5000 < fuel) (o : MMovesOrder) : iter (m_moves_order_ring_l2 fuel x1 p0 x2) fuel (o, 0) = some (x1.keys.foldl (ringS a) o) := by
  have key : ∀ (n i : Nat) (s : MMovesOrder) (fu : Nat), i + n = x1.keys.length → n < fu → iter (m_moves_order_ring_l2 fuel x1 p0 x2) fu (s, (i : Int)) = some ((x1.keys.drop i).foldl (ringS a) s) := by
    intro n
    induction n with
    | zero =>
      intro i s fu hi hfu
      obtain ⟨fu, rfl⟩ : ∃ m, fu = m + 1 := ⟨fu - 1, by omega⟩
      unfold iter m_moves_order_ring_l2
      rw [List.drop_of_length_le (by omega)]
      simp [show ¬ ((i : Int) < (x1.keys.length : Int)) by omega]
    | succ n ih =>
      intro i s fu hi hfu
      obtain ⟨fu, rfl⟩ : ∃ m, fu = m + 1 := ⟨fu - 1, by omega⟩
      have hin : inb x1.keys (i : Int) = true := inb_true (by omega) (by omega)
      have hd : (i : Int) < (x1.keys.length : Int) := by omega
      have hg : gt x1.keys (i : Int) = x1.keys[i]'(by omega) := gt_get_nat (by simp [show i < x1.keys.length by omega])
      rw [List.drop_eq_getElem_cons (show i < x1.keys.length by omega), List.foldl_cons]
      unfold iter
      have hst : m_moves_order_ring_l2 fuel x1 p0 x2 (s, (i : Int)) = some (.next (ringS a s (x1.keys[i]'(by omega)), ((i + 1 : Nat) : Int))) := by
        unfold m_moves_order_ring_l2 ringS
        simp only [hd, decide_true, if_true, hin, hg, ha, W_succ (show i < 9223372036854775807 by omega)]
        cases mhas s.left (x1.keys[i]'(by omega)) <;> simp
        split <;> simp
      rw [hst]
      exact ih (i + 1) _ fu (by omega) (by omega)
  have := key x1.keys.length 0 o fuel (by omega) (by omega)
  rwa [List.drop_zero] at this
theorem m_ring {fuel : Nat} {o : MMovesOrder} (hl : o.keys.length ≤ 5000) (ho : o.out.length ≤ 5000) (hf : 5000 < fuel) : m_moves_order_ring fuel o = some (ringO o) := by
  have key : ∀ (n i : Nat) (fu : Nat), i + n = o.keys.length → n < fu → iter (m_moves_order_ring_l1 fuel o) fu (o, (i : Int)) = some (match (o.keys.drop i).find? fun t => mhas o.left t with | none => .inl o | some a => .inr (o.keys.foldl (ringS a) ⟨o.left, o.keys, o.spare, o.out ++ [⟨o.spare, a⟩]⟩)) := by
    intro n
    induction n with
    | zero =>
      intro i fu hi hfu
      obtain ⟨fu, rfl⟩ : ∃ m, fu = m + 1 := ⟨fu - 1, by omega⟩
      unfold iter m_moves_order_ring_l1
      rw [List.drop_of_length_le (by omega)]
      simp [show ¬ ((i : Int) < (o.keys.length : Int)) by omega]
    | succ n ih =>
      intro i fu hi hfu
      obtain ⟨fu, rfl⟩ : ∃ m, fu = m + 1 := ⟨fu - 1, by omega⟩
      have hin : inb o.keys (i : Int) = true := inb_true (by omega) (by omega)
      have hd : (i : Int) < (o.keys.length : Int) := by omega
      have hg : gt o.keys (i : Int) = o.keys[i]'(by omega) := gt_get_nat (by simp [show i < o.keys.length by omega])
      have hap : apOk 16 o.out [(⟨o.spare, o.keys[i]'(by omega)⟩ : MMove)] = true := apOk_true (by simp; omega)
      rw [List.drop_eq_getElem_cons (show i < o.keys.length by omega), List.find?_cons]
      unfold iter
      cases c : mhas o.left (o.keys[i]'(by omega)) with
      | true =>
        have hst : m_moves_order_ring_l1 fuel o (o, (i : Int)) = some (.done (.inr (o.keys.foldl (ringS (o.keys[i]'(by omega))) ⟨o.left, o.keys, o.spare, o.out ++ [⟨o.spare, o.keys[i]'(by omega)⟩]⟩))) := by
          unfold m_moves_order_ring_l1
          simp only [hd, decide_true, if_true, hin, hg, c, Bool.not_true, Bool.false_eq_true, if_false, hap, ring_in hg hl hf, bind_some']
        rw [hst]
      | false =>
        have hst : m_moves_order_ring_l1 fuel o (o, (i : Int)) = some (.next (o, ((i + 1 : Nat) : Int))) := by
          unfold m_moves_order_ring_l1
          simp only [hd, decide_true, if_true, hin, hg, c, Bool.not_false, W_succ (show i < 9223372036854775807 by omega)]
        rw [hst]
        exact ih (i + 1) fu (by omega) (by omega)
  have := key o.keys.length 0 fuel (by omega) (by omega)
  rw [List.drop_zero] at this
  unfold m_moves_order_ring ringO
  rw [show (0 : Int) = ((0 : Nat) : Int) from rfl, this]
  cases o.keys.find? fun t => mhas o.left t <;> rfl
/-! Lists of registers. -/
theorem nodup_len {l m : List Int} (hn : l.Nodup) (hs : ∀ x ∈ l, x ∈ m) : l.length ≤ m.length := by
  induction l generalizing m with
  | nil => simp
  | cons a l ih =>
    have h1 := List.nodup_cons.1 hn
    have ha : a ∈ m := hs a (by simp)
    have := ih (m := m.erase a) h1.2 (fun x hx => (List.mem_erase_of_ne (fun e : x = a => h1.1 (e ▸ hx))).2 (hs x (by simp [hx])))
    rw [List.length_erase_of_mem ha] at this
    have := List.length_pos_of_mem ha
    simp only [List.length_cons]; omega
theorem nodup_perm {l m : List Int} (hn : l.Nodup) (hs : ∀ x ∈ l, x ∈ m) (hl : m.length ≤ l.length) : l.Perm m := by
  induction l generalizing m with
  | nil => cases m with
    | nil => exact List.Perm.refl _
    | cons a m => simp at hl
  | cons a l ih =>
    have h1 := List.nodup_cons.1 hn
    have ha : a ∈ m := hs a (by simp)
    have := ih (m := m.erase a) h1.2 (fun x hx => (List.mem_erase_of_ne (fun e : x = a => h1.1 (e ▸ hx))).2 (hs x (by simp [hx]))) (by rw [List.length_erase_of_mem ha]; simp only [List.length_cons] at hl; omega)
    exact (this.cons a).trans (List.perm_cons_erase ha).symm
theorem inj_map {g : Int → Int} {l : List Int} (h : (l.map g).Nodup) : ∀ x ∈ l, ∀ y ∈ l, g x = g y → x = y := by
  induction l with
  | nil => intro x hx; simp at hx
  | cons a l ih =>
    rw [List.map_cons, List.nodup_cons] at h
    intro x hx y hy e
    rcases List.mem_cons.1 hx with hx | hx <;> rcases List.mem_cons.1 hy with hy | hy
    · rw [hx, hy]
    · exact absurd (List.mem_map.2 ⟨y, hy, by rw [← e, hx]⟩) h.1
    · exact absurd (List.mem_map.2 ⟨x, hx, by rw [e, hy]⟩) h.1
    · exact ih h.2 x hx y hy e
theorem countP_same {l : List Int} {p q : Int → Bool} (h : ∀ x ∈ l, p x = q x) : l.countP p = l.countP q := by
  induction l with
  | nil => rfl
  | cons b l ih => simp only [List.countP_cons, h b (by simp), ih (fun x hx => h x (by simp [hx]))]
theorem countP_drop {l : List Int} {p q : Int → Bool} {a : Int} (hn : l.Nodup) (ha : a ∈ l) (hp : p a = true) (hq : q a = false) (h : ∀ x ∈ l, x ≠ a → p x = q x) : l.countP p = l.countP q + 1 := by
  induction l with
  | nil => simp at ha
  | cons b l ih =>
    have h1 := List.nodup_cons.1 hn
    by_cases e : b = a
    · subst e
      simp only [List.countP_cons, hp, hq, countP_same (fun x hx => h x (List.mem_cons_of_mem _ hx) (fun e => h1.1 (e ▸ hx)))]
      simp
    · have ha' : a ∈ l := (List.mem_cons.1 ha).resolve_left (Ne.symm e)
      have := ih h1.2 ha' (fun x hx => h x (by simp [hx]))
      simp only [List.countP_cons, h b (by simp) e, this]; omega

/-! Steps along f. -/
def it (f : Int → Int) : Nat → Int → Int
  | 0, x => x
  | n + 1, x => f (it f n x)
theorem it_add (f : Int → Int) (i j : Nat) (x : Int) : it f (i + j) x = it f i (it f j x) := by
  induction i with
  | zero => rw [Nat.zero_add]; rfl
  | succ i ih => rw [Nat.succ_add]; simp only [it, ih]
theorem it_mul {f : Int → Int} {p : Nat} {m : Int} (h : it f p m = m) : ∀ k, it f (k * p) m = m
  | 0 => by rw [Nat.zero_mul]; rfl
  | k + 1 => by rw [Nat.succ_mul, it_add, h, it_mul h k]
theorem it_mod {f : Int → Int} {p : Nat} {m : Int} (h : it f p m = m) (j : Nat) : it f j m = it f (j % p) m := by
  have e : j = j % p + (j / p) * p := by rw [Nat.mul_comm]; exact (Nat.mod_add_div j p).symm
  have : it f (j % p + (j / p) * p) m = it f (j % p) m := by rw [it_add, it_mul h]
  rw [← e] at this; exact this
theorem it_hole {f : Int → Int} {P : List Int} {a : Int} (hin : ∀ j, it f j a ∈ P) (hinj : ∀ x ∈ P, ∀ y ∈ P, f x = f y → x = y) : ∃ p, 1 ≤ p ∧ p ≤ P.length ∧ it f p a = a := by
  have hc : ∃ i j, i < j ∧ j < P.length + 1 ∧ it f i a = it f j a := by
    refine Classical.byContradiction fun hno => ?_
    have hno' : ∀ i j, i < j → j < P.length + 1 → it f i a ≠ it f j a := fun i j h1 h2 h3 => hno ⟨i, j, h1, h2, h3⟩
    have hnd : ((List.range (P.length + 1)).map fun j => it f j a).Nodup := by
      unfold List.Nodup
      rw [List.pairwise_map]
      exact List.pairwise_lt_range.imp_of_mem (fun ha hb hlt => hno' _ _ hlt (List.mem_range.1 hb))
    have := nodup_len hnd (m := P) (by intro x hx; obtain ⟨j, _, rfl⟩ := List.mem_map.1 hx; exact hin j)
    simp at this
    omega
  obtain ⟨i, j, h1, h2, h3⟩ := hc
  have key : ∀ i d, it f i a = it f (i + d) a → it f d a = a := by
    intro i
    induction i with
    | zero => intro d h; rw [Nat.zero_add] at h; exact h.symm
    | succ i ih =>
      intro d h
      rw [Nat.succ_add] at h
      exact ih d (hinj _ (hin _) _ (hin _) h)
  exact ⟨j - i, by omega, by omega, key i (j - i) (by rw [show i + (j - i) = j by omega]; exact h3)⟩

/-! What the registers hold. -/
def valE (now : Int) (r : Int → Int) (x : Int) : Int := if x = -1 then now else r x
def stepE (now : Int) (r : Int → Int) (m : MMove) : Int → Int := fun x => if x = m.To then valE now r m.From else r x
def runE (now : Int) (r : Int → Int) (out : List MMove) : Int → Int := out.foldl (stepE now) r
theorem runE_app (now : Int) (r : Int → Int) (out : List MMove) (m : MMove) : runE now r (out ++ [m]) = stepE now (runE now r out) m := by simp [runE]
theorem val_step {now : Int} {r : Int → Int} {m : MMove} {x : Int} (h : x ≠ m.To) : valE now (stepE now r m) x = valE now r x := by
  unfold valE stepE; simp only [if_neg h]

/-! The state. -/
structure MSet (f : Int → Int) (K : List Int) (sp : Int) (n : Nat) : Prop where
  nd : K.Nodup
  st : K.Pairwise (fun a b => a ≤ b)
  ne : ∀ t ∈ K, f t ≠ t
  spK : sp ∉ K
  spf : ∀ t ∈ K, f t ≠ sp
  m1 : (-1 : Int) ∉ K
  sp1 : sp ≠ -1
  cl : ∀ x, x ∉ K → f x ∉ K
  hn : K.length ≤ n
def Pk (o : MMovesOrder) : List Int := o.left.map Prod.fst
def Ring (f : Int → Int) (n : Nat) (m : Int) : Prop := ∃ p, 1 ≤ p ∧ p ≤ n ∧ it f p m = m ∧ ∀ j, m ≤ it f j m
def Whole (f : Int → Int) (o : MMovesOrder) (m : Int) : Prop := ∀ j, it f j m ∈ Pk o ∧ mget o.left (it f j m) = it f (j + 1) m
open Classical in
noncomputable def cntW (f : Int → Int) (K : List Int) (n : Nat) (o : MMovesOrder) : Nat := K.countP fun m => decide (Ring f n m ∧ Whole f o m)
open Classical in
noncomputable def rings (f : Int → Int) (K : List Int) (n : Nat) : Nat := K.countP fun m => decide (Ring f n m)
structure MInv (f : Int → Int) (K : List Int) (sp : Int) (n : Nat) (now : Int) (r0 : Int → Int) (o : MMovesOrder) (q : Nat) : Prop where
  keys : o.keys = K
  spare : o.spare = sp
  nd : (Pk o).Nodup
  sub : ∀ t ∈ Pk o, t ∈ K
  lf : ∀ t ∈ Pk o, mget o.left t = f t ∨ mget o.left t = sp
  pend : ∀ t ∈ Pk o, valE now (runE now r0 o.out) (mget o.left t) = valE now r0 (f t)
  done : ∀ t ∈ K, t ∉ Pk o → runE now r0 o.out t = valE now r0 (f t)
  oth : ∀ t, t ∉ K → t ≠ sp → runE now r0 o.out t = r0 t
  ne : ∀ m ∈ o.out, m.To ≠ m.From
  rg : ∀ m ∈ o.out, m.To = sp → 0 < q
  fr : ∀ m ∈ o.out, (m.To ∈ K ∨ m.To = sp) ∧ (m.From = sp ∨ m.From ∈ K ∨ ∃ t ∈ K, m.From = f t)
  len : o.out.length + o.left.length = K.length + q
  cnt : q + cntW f K n o = rings f K n
variable {f : Int → Int} {K : List Int} {sp now : Int} {n : Nat} {r0 : Int → Int}
theorem MInv.put (S : MSet f K sp n) {o : MMovesOrder} {q : Nat} (I : MInv f K sp n now r0 o q) {t : Int} (ht : t ∈ Pk o) (hw : ∀ s ∈ Pk o, mget o.left s ≠ t) : MInv f K sp n now r0 (putO o t) q := by
  have hP : Pk (putO o t) = (Pk o).erase t := mdel_keys _ _
  have hm : ∀ s, s ∈ Pk (putO o t) ↔ s ≠ t ∧ s ∈ Pk o := fun s => by rw [hP]; exact I.nd.mem_erase_iff
  have hg : ∀ s, s ≠ t → mget (putO o t).left s = mget o.left s := fun s h => mget_del h
  have tK := I.sub t ht
  have hout : (putO o t).out = o.out ++ [⟨t, mget o.left t⟩] := rfl
  refine ⟨I.keys, I.spare, hP ▸ I.nd.erase t, fun s hs => I.sub s ((hm s).1 hs).2, fun s hs => ?_, fun s hs => ?_, fun s hs hs2 => ?_, fun s hs hs2 => ?_, fun m hmm => ?_, fun m hmm e => ?_, fun m hmm => ?_, ?_, ?_⟩
  · rw [hg s ((hm s).1 hs).1]; exact I.lf s ((hm s).1 hs).2
  · obtain ⟨h1, h2⟩ := (hm s).1 hs
    rw [hg s h1, hout, runE_app, val_step (hw s h2)]
    exact I.pend s h2
  · rw [hout, runE_app]
    unfold stepE
    by_cases e : s = t
    · subst e; rw [if_pos rfl]; exact I.pend s ht
    · rw [if_neg e]
      exact I.done s hs (fun h => hs2 ((hm s).2 ⟨e, h⟩))
  · rw [hout, runE_app]
    unfold stepE
    rw [if_neg (show ¬ s = t from fun e => hs (e ▸ tK))]
    exact I.oth s hs hs2
  · rw [hout] at hmm
    rcases List.mem_append.1 hmm with h | h
    · exact I.ne m h
    · rw [List.mem_singleton.1 h]; exact (hw t ht).symm
  · rw [hout] at hmm
    rcases List.mem_append.1 hmm with h | h
    · exact I.rg m h e
    · rw [List.mem_singleton.1 h] at e; exact absurd (show t = sp from e) (fun e => S.spK (e ▸ tK))
  · rw [hout] at hmm
    rcases List.mem_append.1 hmm with h | h
    · exact I.fr m h
    · rw [List.mem_singleton.1 h]
      refine ⟨.inl tK, ?_⟩
      rcases I.lf t ht with e | e
      · exact .inr (.inr ⟨t, tK, e⟩)
      · exact .inl e
  · have h1 : (putO o t).left.length = o.left.length - 1 := by
      have := congrArg List.length hP
      rw [List.length_erase_of_mem ht] at this
      simpa [Pk] using this
    have h2 : 0 < o.left.length := by have := List.length_pos_of_mem ht; simpa [Pk] using this
    have := I.len
    rw [hout, h1]; simp only [List.length_append, List.length_singleton]; omega
  · rw [← I.cnt]
    congr 1
    unfold cntW
    refine countP_same fun m _ => decide_eq_decide.2 ⟨fun ⟨R, W⟩ => ⟨R, fun j => ?_⟩, fun ⟨R, W⟩ => ⟨R, fun j => ?_⟩⟩
    · have h := W j
      have h3 := (hm _).1 h.1
      rw [hg _ h3.1] at h
      exact ⟨h3.2, h.2⟩
    · have hne : it f j m ≠ t := by
        intro e
        obtain ⟨p, p1, _, p2, _⟩ := R
        have h4 : it f (j + p - 1 + 1) m = t := by rw [show j + p - 1 + 1 = j + p by omega, it_add, p2, e]
        have h5 := W (j + p - 1)
        exact hw _ h5.1 (h5.2.trans h4)
      exact ⟨(hm _).2 ⟨hne, (W j).1⟩, by rw [hg _ hne]; exact (W j).2⟩
theorem ring_fold (a : Int) (ks : List Int) : ∀ s : MMovesOrder, s.spare ≠ a → Pk (ks.foldl (ringS a) s) = Pk s ∧ (ks.foldl (ringS a) s).keys = s.keys ∧ (ks.foldl (ringS a) s).spare = s.spare ∧ (ks.foldl (ringS a) s).out = s.out ∧ ∀ j, mget (ks.foldl (ringS a) s).left j = if j ∈ ks ∧ j ∈ Pk s ∧ mget s.left j = a then s.spare else mget s.left j := by
  induction ks with
  | nil => intro s _; simp
  | cons t ks ih =>
    intro s hs
    rw [List.foldl_cons]
    by_cases c : (mhas s.left t && mget s.left t == a) = true
    · have e : ringS a s t = ⟨mput s.left t s.spare, s.keys, s.spare, s.out⟩ := by unfold ringS; rw [if_pos c]
      rw [e]
      simp only [Bool.and_eq_true, beq_iff_eq] at c
      have hk : Pk ⟨mput s.left t s.spare, s.keys, s.spare, s.out⟩ = Pk s := keys_put_old _ _ _ c.1
      have htP : t ∈ Pk s := (mhas_iff _ _).1 c.1
      obtain ⟨h1, h2, h3, h4, h5⟩ := ih ⟨mput s.left t s.spare, s.keys, s.spare, s.out⟩ hs
      refine ⟨h1.trans hk, h2, h3, h4, fun j => ?_⟩
      rw [h5 j, hk, mget_put]
      by_cases ej : t = j
      · subst ej; rw [if_pos rfl, if_neg (fun h => hs h.2.2), if_pos ⟨List.mem_cons_self .., htP, c.2⟩]
      · rw [if_neg ej]
        have : (j ∈ t :: ks) ↔ j ∈ ks := ⟨fun h => (List.mem_cons.1 h).resolve_left (Ne.symm ej), fun h => List.mem_cons_of_mem _ h⟩
        simp only [this]
    · have e : ringS a s t = s := by unfold ringS; rw [if_neg c]
      rw [e]
      obtain ⟨h1, h2, h3, h4, h5⟩ := ih s hs
      refine ⟨h1, h2, h3, h4, fun j => ?_⟩
      rw [h5 j]
      by_cases ej : j = t
      · subst ej
        have hno : ¬ (j ∈ Pk s ∧ mget s.left j = a) := by
          intro h; apply c; rw [(mhas_iff _ _).2 h.1, h.2]; simp
        rw [if_neg (fun h => hno h.2), if_neg (fun h => hno h.2)]
      · have : (j ∈ t :: ks) ↔ j ∈ ks := ⟨fun h => (List.mem_cons.1 h).resolve_left ej, fun h => List.mem_cons_of_mem _ h⟩
        simp only [this]
theorem find_least {K : List Int} {p : Int → Bool} {a : Int} (hs : K.Pairwise (fun a b => a ≤ b)) (h : K.find? p = some a) : a ∈ K ∧ p a = true ∧ ∀ t ∈ K, p t = true → a ≤ t := by
  obtain ⟨h1, l1, l2, rfl, h2⟩ := List.find?_eq_some_iff_append.1 h
  refine ⟨by simp, h1, fun t ht hp => ?_⟩
  rcases List.mem_append.1 ht with h3 | h3
  · have := h2 t h3; simp [hp] at this
  · rcases List.mem_cons.1 h3 with rfl | h3
    · exact Int.le_refl _
    · exact (List.pairwise_cons.1 (List.pairwise_append.1 hs).2.1).1 t h3
open Classical in
theorem MInv.ring (S : MSet f K sp n) {o : MMovesOrder} {q : Nat} (I : MInv f K sp n now r0 o q) (hall : ∀ t ∈ Pk o, ∃ s ∈ Pk o, mget o.left s = t) (hne : o.left ≠ []) : MInv f K sp n now r0 (ringO o) (q + 1) ∧ Pk (ringO o) = Pk o ∧ ∃ t ∈ Pk (ringO o), ∀ s ∈ Pk (ringO o), mget (ringO o).left s ≠ t := by
  have hperm : (Pk o).Perm ((Pk o).map (mget o.left)) := nodup_perm I.nd (fun t ht => by obtain ⟨s, h1, h2⟩ := hall t ht; exact List.mem_map.2 ⟨s, h1, h2⟩) (by simp)
  have hin : ∀ s ∈ Pk o, mget o.left s ∈ Pk o := fun s hs => hperm.mem_iff.2 (List.mem_map.2 ⟨s, hs, rfl⟩)
  have hlf : ∀ s ∈ Pk o, mget o.left s = f s := fun s hs => (I.lf s hs).resolve_right (fun e => S.spK (e ▸ I.sub _ (hin s hs)))
  have hinj : ∀ x ∈ Pk o, ∀ y ∈ Pk o, f x = f y → x = y := by
    intro x hx y hy e
    exact inj_map (hperm.nodup_iff.1 I.nd) x hx y hy (by rw [hlf x hx, hlf y hy, e])
  have horb : ∀ x ∈ Pk o, ∀ j, it f j x ∈ Pk o := by
    intro x hx j
    induction j with
    | zero => exact hx
    | succ j ih => have := hin _ ih; rw [hlf _ ih] at this; exact this
  have hwh : ∀ x ∈ Pk o, Whole f o x := fun x hx j => ⟨horb x hx j, hlf _ (horb x hx j)⟩
  have hPle : (Pk o).length ≤ n := Nat.le_trans (nodup_len I.nd I.sub) S.hn
  obtain ⟨b, hb⟩ : ∃ b, b ∈ Pk o := by
    cases hl : o.left with
    | nil => exact absurd hl hne
    | cons b l => exact ⟨b.1, by simp [Pk, hl]⟩
  obtain ⟨a, ha⟩ : ∃ a, o.keys.find? (fun t => mhas o.left t) = some a := by
    cases h : o.keys.find? (fun t => mhas o.left t) with
    | some a => exact ⟨a, rfl⟩
    | none =>
      have := List.find?_eq_none.1 h b (by rw [I.keys]; exact I.sub b hb)
      exact absurd ((mhas_iff _ _).2 hb) this
  obtain ⟨aK, haP, hleast⟩ := find_least (by rw [I.keys]; exact S.st) ha
  rw [I.keys] at aK
  have aP : a ∈ Pk o := (mhas_iff _ _).1 haP
  have hmin : ∀ t ∈ Pk o, a ≤ t := fun t ht => hleast t (by rw [I.keys]; exact I.sub t ht) ((mhas_iff _ _).2 ht)
  have hspa : sp ≠ a := fun e => S.spK (e ▸ aK)
  obtain ⟨p, p1, p2, p3⟩ := it_hole (horb a aP) hinj
  have Ra : Ring f n a := ⟨p, p1, Nat.le_trans p2 hPle, p3, fun j => hmin _ (horb a aP j)⟩
  have eR : ringO o = o.keys.foldl (ringS a) ⟨o.left, o.keys, o.spare, o.out ++ [⟨o.spare, a⟩]⟩ := by unfold ringO; rw [ha]
  obtain ⟨h1, h2, h3, h4, h5⟩ := ring_fold a o.keys ⟨o.left, o.keys, o.spare, o.out ++ [⟨o.spare, a⟩]⟩ (by rw [I.spare]; exact hspa)
  rw [← eR] at h1 h2 h3 h4 h5
  have hP : Pk (ringO o) = Pk o := h1
  have hg : ∀ j ∈ Pk o, mget (ringO o).left j = if mget o.left j = a then sp else mget o.left j := by
    intro j hj
    rw [h5 j]
    have : j ∈ o.keys := by rw [I.keys]; exact I.sub j hj
    simp only [this, true_and, I.spare]
    have hj' : j ∈ Pk ⟨o.left, o.keys, sp, o.out ++ [⟨sp, a⟩]⟩ := hj
    simp only [hj', true_and]
  simp only [I.spare] at h4
  refine ⟨⟨h2.trans I.keys, h3.trans I.spare, hP ▸ I.nd, fun t ht => I.sub t (hP ▸ ht), fun t ht => ?_, fun t ht => ?_, fun t ht ht2 => ?_, fun t ht ht2 => ?_, fun m hm => ?_, fun m hm e => by omega, fun m hm => ?_, ?_, ?_⟩, hP, a, hP ▸ aP, fun s hs => ?_⟩
  · rw [hP] at ht
    rw [hg t ht]
    split
    · exact .inr rfl
    · exact .inl (hlf t ht)
  · rw [hP] at ht
    rw [hg t ht, h4, runE_app]
    by_cases c : mget o.left t = a
    · rw [if_pos c]
      have hp := I.pend t ht
      rw [c] at hp
      rw [← hp]
      unfold valE stepE
      rw [if_neg S.sp1, if_pos rfl]
      rfl
    · rw [if_neg c, val_step (fun e => S.spK (by have := I.sub _ (hin t ht); rw [e] at this; exact this))]
      exact I.pend t ht
  · rw [hP] at ht2
    rw [h4, runE_app]
    unfold stepE
    rw [if_neg (show ¬ t = sp from fun e => S.spK (e ▸ ht))]
    exact I.done t ht ht2
  · rw [h4, runE_app]
    unfold stepE
    rw [if_neg (show ¬ t = sp from ht2)]
    exact I.oth t ht ht2
  · rw [h4] at hm
    rcases List.mem_append.1 hm with h | h
    · exact I.ne m h
    · rw [List.mem_singleton.1 h]; exact hspa
  · rw [h4] at hm
    rcases List.mem_append.1 hm with h | h
    · exact I.fr m h
    · rw [List.mem_singleton.1 h]; exact ⟨.inr rfl, .inr (.inl aK)⟩
  · have hl : (ringO o).left.length = o.left.length := by simpa [Pk] using congrArg List.length hP
    have := I.len
    rw [h4, hl]; simp only [List.length_append, List.length_singleton]; omega
  · have hc : cntW f K n o = cntW f K n (ringO o) + 1 := by
      unfold cntW
      refine countP_drop S.nd aK (decide_eq_true ⟨Ra, hwh a aP⟩) (decide_eq_false ?_) fun m hm hma => decide_eq_decide.2 ⟨fun ⟨R, W⟩ => ⟨R, fun j => ?_⟩, fun ⟨R, W⟩ => ⟨R, fun j => ?_⟩⟩
      · intro h
        have hw := (h.2 (p - 1)).2
        have hq : f (it f (p - 1) a) = a := by have := p3; rw [show p = p - 1 + 1 by omega] at this; exact this
        rw [show it f (p - 1 + 1) a = a from hq, hg _ (horb a aP _), hlf _ (horb a aP _), if_pos hq] at hw
        exact hspa hw
      · have hj := W j
        refine ⟨hP ▸ hj.1, ?_⟩
        rw [hg _ hj.1, if_neg, hj.2]
        intro e
        have e2 : it f (j + 1) m = a := hj.2.symm.trans e
        obtain ⟨d, d1, _, d2, d3⟩ := R
        have hd : (j + 1) ≤ (j + 1) * d := Nat.le_mul_of_pos_right _ d1
        have e3 : it f ((j + 1) * d - (j + 1)) a = m := by
          rw [← e2, ← it_add, show (j + 1) * d - (j + 1) + (j + 1) = (j + 1) * d by omega]
          exact it_mul d2 _
        have h6 : a ≤ m := by rw [← e3]; exact hmin _ (horb a aP _)
        have h7 : m ≤ a := by have := d3 (j + 1); rw [e2] at this; exact this
        exact hma (Int.le_antisymm h7 h6)
      · have hj := W j
        rw [hP] at hj
        refine ⟨hj.1, ?_⟩
        have hjj := hj.2
        rw [hg _ hj.1] at hjj
        split at hjj
        · have := (W (j + 1)).1
          rw [hP, ← hjj] at this
          exact absurd (I.sub _ this) S.spK
        · exact hjj
    have := I.cnt
    omega
  · rw [hP] at hs
    rw [hg s hs]
    split
    · exact hspa
    · assumption
variable {f : Int → Int} {K : List Int} {sp now : Int} {n : Nat} {r0 : Int → Int}
theorem MInv.waits {o : MMovesOrder} {q : Nat} (I : MInv f K sp n now r0 o q) {t : Int} : waitsB o t = true ↔ ∃ s ∈ Pk o, mget o.left s = t := by
  unfold waitsB
  rw [List.any_eq_true]
  constructor
  · rintro ⟨s, hs, h⟩
    simp only [Bool.and_eq_true, beq_iff_eq] at h
    exact ⟨s, (mhas_iff _ _).1 h.1, h.2⟩
  · rintro ⟨s, hs, h⟩
    exact ⟨s, by rw [I.keys]; exact I.sub s hs, by rw [(mhas_iff _ _).2 hs, h]; simp⟩
theorem free_step (S : MSet f K sp n) {s : MMovesOrder × Bool} {q : Nat} (I : MInv f K sp n now r0 s.1 q) (t : Int) : MInv f K sp n now r0 (freeS s t).1 q := by
  unfold freeS
  split
  · rename_i c
    simp only [Bool.and_eq_true, Bool.not_eq_true'] at c
    exact I.put S ((mhas_iff _ _).1 c.1) (fun x hx e => by have := I.waits.2 ⟨x, hx, e⟩; rw [c.2] at this; cases this)
  · exact I
theorem free_inv (S : MSet f K sp n) {q : Nat} (ks : List Int) : ∀ s : MMovesOrder × Bool, MInv f K sp n now r0 s.1 q → MInv f K sp n now r0 (ks.foldl freeS s).1 q := by
  induction ks with
  | nil => intro s I; exact I
  | cons t ks ih => intro s I; exact ih _ (free_step S I t)
theorem free_true (ks : List Int) : ∀ s : MMovesOrder × Bool, s.2 = true → (ks.foldl freeS s).2 = true := by
  induction ks with
  | nil => intro s h; exact h
  | cons t ks ih => intro s h; exact ih _ (by unfold freeS; split <;> first | rfl | exact h)
theorem free_false (ks : List Int) : ∀ s : MMovesOrder × Bool, (ks.foldl freeS s).2 = false → ks.foldl freeS s = s ∧ ∀ t ∈ ks, mhas s.1.left t = true → waitsB s.1 t = true := by
  induction ks with
  | nil => intro s h; exact ⟨rfl, fun t ht => by simp at ht⟩
  | cons t ks ih =>
    intro s h
    rw [List.foldl_cons] at h ⊢
    have e : ¬ (mhas s.1.left t && !waitsB s.1 t) = true := by
      intro c
      have : (freeS s t).2 = true := by unfold freeS; rw [if_pos c]
      rw [free_true ks _ this] at h; cases h
    have e2 : freeS s t = s := by unfold freeS; rw [if_neg e]
    rw [e2] at h ⊢
    refine ⟨(ih s h).1, fun u hu hm => ?_⟩
    rcases List.mem_cons.1 hu with rfl | hu
    · rw [hm] at e; simpa using e
    · exact (ih s h).2 u hu hm
theorem mdel_len {m : List (Int × Int)} {k : Int} (h : mhas m k = true) : (mdel m k).length < m.length := by
  have h1 := (mhas_iff _ _).1 h
  have := congrArg List.length (mdel_keys m k)
  rw [List.length_erase_of_mem h1] at this
  have h2 := List.length_pos_of_mem h1
  simp only [List.length_map] at this h2
  omega
theorem free_less (ks : List Int) : ∀ s : MMovesOrder × Bool, (ks.foldl freeS s).1.left.length ≤ s.1.left.length ∧ (s.2 = false → (ks.foldl freeS s).2 = true → (ks.foldl freeS s).1.left.length < s.1.left.length) := by
  induction ks with
  | nil => intro s; exact ⟨Nat.le_refl _, fun h1 h2 => by rw [List.foldl_nil] at h2; rw [h1] at h2; cases h2⟩
  | cons t ks ih =>
    intro s
    rw [List.foldl_cons]
    obtain ⟨h1, h2⟩ := ih (freeS s t)
    by_cases c : (mhas s.1.left t && !waitsB s.1 t) = true
    · have e : freeS s t = (putO s.1 t, true) := by unfold freeS; rw [if_pos c]
      simp only [Bool.and_eq_true] at c
      have h3 : (freeS s t).1.left.length < s.1.left.length := by rw [e]; exact mdel_len c.1
      exact ⟨by omega, fun _ _ => by omega⟩
    · have e : freeS s t = s := by unfold freeS; rw [if_neg c]
      rw [e] at h1 h2 ⊢
      exact ⟨h1, h2⟩
def measO (o : MMovesOrder) : Nat := 2 * o.left.length + (if (o.keys.foldl freeS (o, false)).2 = true then 0 else 1)
theorem MInv.small {o : MMovesOrder} {q : Nat} (I : MInv f K sp n now r0 o q) (hK : K.length ≤ 400) : q ≤ K.length ∧ o.out.length ≤ 800 := by
  have h1 := I.cnt
  have h2 : rings f K n ≤ K.length := List.countP_le_length
  have h3 := I.len
  exact ⟨by omega, by omega⟩
theorem m_run {fuel : Nat} (S : MSet f K sp n) (hK : K.length ≤ 400) (hf : 5000 < fuel) (p0 : MMovesOrder) : ∀ (k : Nat) (o : MMovesOrder) (q fu : Nat), measO o < k → k ≤ fu → MInv f K sp n now r0 o q → ∃ o' q', iter (m_moves_order_run_l1 fuel p0) fu o = some o' ∧ MInv f K sp n now r0 o' q' ∧ o'.left = [] := by
  intro k
  induction k with
  | zero => intro o q fu h; omega
  | succ k ih =>
    intro o q fu hm hfu I
    obtain ⟨fu, rfl⟩ : ∃ m, fu = m + 1 := ⟨fu - 1, by omega⟩
    obtain ⟨_, ho⟩ := I.small hK
    have hkl : o.keys.length ≤ 400 := by rw [I.keys]; exact hK
    by_cases hl : o.left = []
    · refine ⟨o, q, ?_, I, hl⟩
      unfold iter m_moves_order_run_l1
      simp [hl]
    · have hpos : ((o.left.length : Int) > 0) := by
        have : o.left.length ≠ 0 := fun h => hl (List.length_eq_zero_iff.1 h)
        omega
      have hfree := m_free (fuel := fuel) (o := o) (by omega) (by omega) hf
      cases c : (o.keys.foldl freeS (o, false)).2 with
      | true =>
        have hst : m_moves_order_run_l1 fuel p0 o = some (.next (o.keys.foldl freeS (o, false)).1) := by
          unfold m_moves_order_run_l1
          simp only [hpos, decide_true, if_true, hfree, bind_some', c, Bool.not_true, Bool.false_eq_true, if_false]
        have hlt := (free_less o.keys (o, false)).2 rfl c
        simp only at hlt
        obtain ⟨o', q', h1, h2⟩ := ih (o.keys.foldl freeS (o, false)).1 q fu (by
          unfold measO at hm ⊢
          rw [if_pos c] at hm
          split <;> omega) (by omega) (free_inv S o.keys (o, false) I)
        refine ⟨o', q', ?_, h2⟩
        unfold iter
        rw [hst]
        exact h1
      | false =>
        obtain ⟨e, hw⟩ := free_false o.keys (o, false) c
        have hring := m_ring (fuel := fuel) (o := o) (by omega) (by omega) hf
        have hst : m_moves_order_run_l1 fuel p0 o = some (.next (ringO o)) := by
          unfold m_moves_order_run_l1
          simp only [hpos, decide_true, if_true, hfree, bind_some', e, Bool.not_false, hring]
        obtain ⟨I2, hP, t, ht, hno⟩ := I.ring S (fun t ht => I.waits.1 (hw t (by rw [I.keys]; exact I.sub t ht) ((mhas_iff _ _).2 ht))) hl
        have hlen : (ringO o).left.length = o.left.length := by simpa [Pk] using congrArg List.length hP
        have c2 : ((ringO o).keys.foldl freeS (ringO o, false)).2 = true := by
          cases c2 : ((ringO o).keys.foldl freeS (ringO o, false)).2 with
          | true => rfl
          | false =>
            have := (free_false _ _ c2).2 t (by rw [I2.keys]; exact I2.sub t ht) ((mhas_iff _ _).2 ht)
            obtain ⟨s, hs, h⟩ := I2.waits.1 this
            exact absurd h (hno s hs)
        obtain ⟨o', q', h1, h2⟩ := ih (ringO o) (q + 1) fu (by
          unfold measO at hm ⊢
          rw [if_neg (by rw [c]; simp)] at hm
          rw [if_pos c2, hlen]
          omega) (by omega) I2
        refine ⟨o', q', ?_, h2⟩
        unfold iter
        rw [hst]
        exact h1
end Go.Proofs.Ytjkoiijpmiibpaa
