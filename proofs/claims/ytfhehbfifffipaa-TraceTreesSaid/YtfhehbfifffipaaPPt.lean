/- Parse trees, and the words that they are: what is open and done on the way of a run. Its conditions: none. -/
import Derived.Test.YtfhehbfifffipaaPTot
import Derived.Test.YtfhehbfifffipaaPTrc2
set_option autoImplicit false
namespace Go.Proofs.Ytfhehbfifffipaa
open Go.V Go.RowKit

inductive Pt where
  | nil | byte | two (x y : Pt) | one (x : Pt) | other (x : Pt)
def Pt.wid : Pt → Nat
  | .nil => 0 | .byte => 1 | .two x y => x.wid + y.wid | .one x => x.wid | .other x => x.wid
def starV (V : Pt → Prop) : Pt → Prop
  | .nil => True
  | .two x r => V x ∧ 0 < x.wid ∧ starV V r
  | _ => False
/-- A parse of a part. -/
def Tm.val : Tm → Pt → Prop
  | .eps, p => p = .nil
  | .leaf _, p => p = .byte
  | .cat a b, p => ∃ x y, p = .two x y ∧ a.val x ∧ b.val y
  | .alt a b, p => (∃ x, p = .one x ∧ a.val x) ∨ ∃ x, p = .other x ∧ b.val x
  | .star a, p => starV a.val p
  | .maybe a, p => p = .nil ∨ ∃ x, p = .one x ∧ a.val x ∧ 0 < x.wid
  | .group _ a, p => ∃ x, p = .one x ∧ a.val x
  | .iter a, p => ∃ x, p = .one x ∧ a.val x
/-- Steps, and between them bytes, each of a Leaf. -/
abbrev Wd := List (Int ⊕ Nat)
def sw (xs : List Int) : Wd := xs.map .inl
def wrap (q : Nat) (w : Wd) : Wd := .inl (opn q) :: (w ++ [.inl (cls q)])
def starW (F : Pt → Wd) : Pt → Wd
  | .two x r => F x ++ starW F r
  | _ => []
def Tm.word : Tm → Nat → Pt → Wd
  | .eps, lo, _ => wrap lo []
  | .leaf _, lo, _ => wrap lo [.inr lo]
  | .cat a b, lo, p => wrap (Tm.top (.cat a b) lo) (match p with | .two x y => a.word lo x ++ b.word (lo + a.size) y | _ => [])
  | .alt a b, lo, p => wrap (Tm.top (.alt a b) lo) (match p with | .one x => a.word lo x | .other x => b.word (lo + a.size) x | _ => [])
  | .star a, lo, p => wrap (Tm.top (.star a) lo) (starW (fun x => a.word lo x) p)
  | .maybe a, lo, p => wrap (Tm.top (.maybe a) lo) (match p with | .one x => a.word lo x | _ => [])
  | .group n a, lo, p => wrap (Tm.top (.group n a) lo) (match p with | .one x => a.word lo x | _ => [])
  | .iter a, lo, p => wrap (Tm.top (.iter a) lo) (match p with | .one x => a.word lo x | _ => [])
theorem sw_append (a b : List Int) : sw (a ++ b) = sw a ++ sw b := by simp [sw]
/-- A part that can be nothing is so by its steps. -/
theorem steps_val (t : Tm) : ∀ lo, t.can = true → ∃ P, t.val P ∧ P.wid = 0 ∧ t.word lo P = sw (t.steps lo) := by
  induction t with
  | eps => intro lo _; exact ⟨.nil, rfl, rfl, rfl⟩
  | leaf S => intro lo h; simp [Tm.can] at h
  | cat a b iha ihb =>
    intro lo h
    simp only [Tm.can, Bool.and_eq_true] at h
    obtain ⟨x, h1, h2, h3⟩ := iha lo h.1
    obtain ⟨y, h4, h5, h6⟩ := ihb (lo + a.size) h.2
    exact ⟨.two x y, ⟨x, y, rfl, h1, h4⟩, by simp [Pt.wid, h2, h5], by simp [Tm.word, wrap, h3, h6, Tm.steps, sw]⟩
  | alt a b iha ihb =>
    intro lo h
    by_cases hc : a.can = true
    · obtain ⟨x, h1, h2, h3⟩ := iha lo hc
      exact ⟨.one x, .inl ⟨x, rfl, h1⟩, by simp [Pt.wid, h2], by simp [Tm.word, wrap, h3, Tm.steps, sw, hc]⟩
    · have hb : b.can = true := by simpa [Tm.can, hc] using h
      obtain ⟨x, h1, h2, h3⟩ := ihb (lo + a.size) hb
      exact ⟨.other x, .inr ⟨x, rfl, h1⟩, by simp [Pt.wid, h2], by simp [Tm.word, wrap, h3, Tm.steps, sw, hc]⟩
  | star a iha => intro lo _; exact ⟨.nil, trivial, rfl, by simp [Tm.word, wrap, starW, Tm.steps, sw]⟩
  | maybe a iha => intro lo _; exact ⟨.nil, .inl rfl, rfl, by simp [Tm.word, wrap, Tm.steps, sw]⟩
  | group n a iha =>
    intro lo h
    obtain ⟨x, h1, h2, h3⟩ := iha lo h
    exact ⟨.one x, ⟨x, rfl, h1⟩, by simp [Pt.wid, h2], by simp [Tm.word, wrap, h3, Tm.steps, sw]⟩
  | iter a iha =>
    intro lo h
    obtain ⟨x, h1, h2, h3⟩ := iha lo h
    exact ⟨.one x, ⟨x, rfl, h1⟩, by simp [Pt.wid, h2], by simp [Tm.word, wrap, h3, Tm.steps, sw]⟩
/-- What is done of a node ahead of a part of it. -/
def PartOk : Fr → Tm → Nat → Wd → Prop
  | .catR a, _, lo, w => ∃ x, a.val x ∧ w = a.word (lo - a.size) x
  | .star, s, lo, w => ∃ xs : List Pt, (∀ x ∈ xs, s.val x ∧ 0 < x.wid) ∧ w = (xs.map (s.word lo)).flatten
  | _, _, _, w => w = []
/-- What is done ahead of a part. -/
def Pre : Nat → Tm → List Fr → Wd → Prop
  | _, _, [], W => W = []
  | lo, s, f :: fs, W => ∃ W0 w, Pre (lo - f.off) (f.plug s) fs W0 ∧ PartOk f s lo w ∧ W = W0 ++ .inl (opn ((f.plug s).top (lo - f.off))) :: w
/-- .. and that part, which is not nothing. -/
def Dn (lo : Nat) (s : Tm) (fs : List Fr) (X : Wd) : Prop := ∃ W P, Pre lo s fs W ∧ s.val P ∧ 0 < P.wid ∧ X = W ++ s.word lo P
theorem starV_list {V : Pt → Prop} (x : Pt) (hx : V x ∧ 0 < x.wid) : ∀ xs : List Pt, (∀ x ∈ xs, V x ∧ 0 < x.wid) → ∃ P, starV V P ∧ 0 < P.wid ∧ ∀ F : Pt → Wd, starW F P = (xs.map F).flatten ++ F x
  | [], _ => ⟨.two x .nil, ⟨hx.1, hx.2, trivial⟩, by simp [Pt.wid, hx.2], fun F => by simp [starW]⟩
  | y :: ys, h => by
    obtain ⟨P, h1, h2, h3⟩ := starV_list x hx ys (fun z hz => h z (by simp [hz]))
    have := h y (by simp)
    exact ⟨.two y P, ⟨this.1, this.2, h1⟩, by simp [Pt.wid]; omega, fun F => by simp [starW, h3]⟩
theorem Dn.up {lo : Nat} {s : Tm} {f : Fr} {fs : List Fr} {X : Wd} (hf : ∀ b, f ≠ .catL b) (hlo : f.off ≤ lo) (h : Dn lo s (f :: fs) X) : Dn (lo - f.off) (f.plug s) fs (X ++ [.inl (cls ((f.plug s).top (lo - f.off)))]) := by
  obtain ⟨W, P, ⟨W0, w, h1, h2, rfl⟩, h3, h4, rfl⟩ := h
  cases f with
  | catL b => exact absurd rfl (hf b)
  | catR a =>
    obtain ⟨x, h5, rfl⟩ := h2
    simp only [Fr.off] at hlo
    exact ⟨W0, .two x P, h1, ⟨x, P, rfl, h5, h3⟩, by simp [Pt.wid]; omega, by simp [Fr.plug, Fr.off, Tm.word, wrap, show lo - a.size + a.size = lo by omega]⟩
  | altL b => simp only [PartOk] at h2; subst h2; exact ⟨W0, .one P, h1, .inl ⟨P, rfl, h3⟩, h4, by simp [Fr.plug, Fr.off, Tm.word, wrap]⟩
  | altR a =>
    simp only [PartOk] at h2; subst h2
    simp only [Fr.off] at hlo
    exact ⟨W0, .other P, h1, .inr ⟨P, rfl, h3⟩, h4, by simp [Fr.plug, Fr.off, Tm.word, wrap, show lo - a.size + a.size = lo by omega]⟩
  | star =>
    obtain ⟨xs, h5, rfl⟩ := h2
    obtain ⟨Q, h6, h7, h8⟩ := starV_list (V := s.val) P ⟨h3, h4⟩ xs h5
    exact ⟨W0, Q, h1, h6, h7, by simp [Fr.plug, Fr.off, Tm.word, wrap, h8]⟩
  | maybe => simp only [PartOk] at h2; subst h2; exact ⟨W0, .one P, h1, .inr ⟨P, rfl, h3, h4⟩, h4, by simp [Fr.plug, Fr.off, Tm.word, wrap]⟩
  | group n => simp only [PartOk] at h2; subst h2; exact ⟨W0, .one P, h1, ⟨P, rfl, h3⟩, h4, by simp [Fr.plug, Fr.off, Tm.word, wrap]⟩
  | iter => simp only [PartOk] at h2; subst h2; exact ⟨W0, .one P, h1, ⟨P, rfl, h3⟩, h4, by simp [Fr.plug, Fr.off, Tm.word, wrap]⟩
theorem Dn.cat {lo : Nat} {s b : Tm} {fs : List Fr} {X : Wd} (h : Dn lo s (.catL b :: fs) X) : Pre (lo + s.size) b (.catR s :: fs) X := by
  obtain ⟨W, P, ⟨W0, w, h1, h2, rfl⟩, h3, h4, rfl⟩ := h
  simp only [PartOk] at h2; subst h2
  refine ⟨W0, s.word lo P, by simpa [Fr.off, Fr.plug] using h1, ⟨P, h3, by simp⟩, by simp [Fr.off, Fr.plug]⟩
theorem Dn.cat_can {lo : Nat} {s b : Tm} {fs : List Fr} {X : Wd} (h : Dn lo s (.catL b :: fs) X) (hb : b.can = true) : Dn lo (.cat s b) fs (X ++ sw (b.steps (lo + s.size)) ++ [.inl (cls (Tm.top (.cat s b) lo))]) := by
  obtain ⟨W, P, ⟨W0, w, h1, h2, rfl⟩, h3, h4, rfl⟩ := h
  simp only [PartOk] at h2; subst h2
  obtain ⟨Q, h5, h6, h7⟩ := steps_val b (lo + s.size) hb
  exact ⟨W0, .two P Q, by simpa [Fr.off, Fr.plug] using h1, ⟨P, Q, rfl, h3, h5⟩, by simp [Pt.wid]; omega, by simp [Tm.word, wrap, h7, Fr.off, Fr.plug]⟩
theorem Dn.star {lo : Nat} {s : Tm} {fs : List Fr} {X : Wd} (h : Dn lo s (.star :: fs) X) : Pre lo s (.star :: fs) X := by
  obtain ⟨W, P, ⟨W0, w, h1, ⟨xs, h5, rfl⟩, rfl⟩, h3, h4, rfl⟩ := h
  refine ⟨W0, _, h1, ⟨xs ++ [P], ?_, rfl⟩, by simp⟩
  intro x hx
  rcases List.mem_append.1 hx with hx | hx
  · exact h5 x hx
  · simp only [List.mem_singleton] at hx; subst hx; exact ⟨h3, h4⟩
/-- At a place, its byte not yet read. -/
def AtP (l : List MTerm) (t : Tm) (p : Int) (X : Wd) : Prop := ∃ (n q : Nat) (S : List Int) (fs : List Fr) (W : Wd), p = n ∧ IsPlace l t n q S fs ∧ Pre q (.leaf S) fs W ∧ X = W ++ [.inl (opn q)]
theorem into_pre {l : List MTerm} {t : Tm} (ht : IsT l t) : ∀ (s : Tm) (lo : Nat) (fs : List Fr) (ahead : List Int) (X : Wd), Ctx t lo s fs → Pre lo s fs (X ++ sw ahead) → ∀ h ∈ s.into lo (leavesN l lo) ahead, AtP l t h.To (X ++ sw h.Steps) := by
  intro s
  induction s with
  | eps => intro lo fs ahead X _ _ h hh; simp [Tm.into] at hh
  | leaf S =>
    intro lo fs ahead X hx ho h hh
    simp only [Tm.into, List.mem_singleton] at hh
    subst hh
    exact ⟨leavesN l lo, lo, S, fs, _, rfl, place_at ht hx, ho, by simp [sw]⟩
  | cat a b iha ihb =>
    intro lo fs ahead X hx ho h hh
    have hxa : Ctx t lo a (.catL b :: fs) := ⟨Nat.zero_le _, hx⟩
    have hxb : Ctx t (lo + a.size) b (.catR a :: fs) := ⟨Nat.le_add_left _ _, by simpa [Fr.off, Fr.plug] using hx⟩
    have hln := leavesN_at (hxa.at_ ht)
    simp only [Tm.into, List.mem_append] at hh
    rcases hh with hh | hh
    · exact iha lo _ _ X hxa ⟨X ++ sw ahead, [], ho, rfl, by simp [sw, Fr.plug, Fr.off]⟩ h hh
    · split at hh
      · rename_i hca
        rw [← hln] at hh
        refine ihb (lo + a.size) _ _ X hxb ?_ h hh
        obtain ⟨P, h1, h2, h3⟩ := steps_val a lo hca
        exact ⟨X ++ sw ahead, a.word lo P, by simpa [Fr.off, Fr.plug] using ho, ⟨P, h1, by simp⟩, by rw [h3]; simp [sw, Fr.plug, Fr.off]⟩
      · simp at hh
  | alt a b iha ihb =>
    intro lo fs ahead X hx ho h hh
    have hxa : Ctx t lo a (.altL b :: fs) := ⟨Nat.zero_le _, hx⟩
    have hxb : Ctx t (lo + a.size) b (.altR a :: fs) := ⟨Nat.le_add_left _ _, by simpa [Fr.off, Fr.plug] using hx⟩
    have hln := leavesN_at (hxa.at_ ht)
    simp only [Tm.into, List.mem_append] at hh
    rcases hh with hh | hh
    · exact iha lo _ _ X hxa ⟨X ++ sw ahead, [], ho, rfl, by simp [sw, Fr.plug, Fr.off]⟩ h hh
    · rw [← hln] at hh
      exact ihb (lo + a.size) _ _ X hxb ⟨X ++ sw ahead, [], by simpa [Fr.off, Fr.plug] using ho, rfl, by simp [sw, Fr.plug, Fr.off]⟩ h hh
  | star a iha =>
    intro lo fs ahead X hx ho h hh
    exact iha lo (.star :: fs) _ X ⟨Nat.zero_le _, hx⟩ ⟨X ++ sw ahead, [], ho, ⟨[], by simp, rfl⟩, by simp [sw, Fr.plug, Fr.off]⟩ h hh
  | maybe a iha =>
    intro lo fs ahead X hx ho h hh
    exact iha lo (.maybe :: fs) _ X ⟨Nat.zero_le _, hx⟩ ⟨X ++ sw ahead, [], ho, rfl, by simp [sw, Fr.plug, Fr.off]⟩ h hh
  | group n a iha =>
    intro lo fs ahead X hx ho h hh
    exact iha lo (.group n :: fs) _ X ⟨Nat.zero_le _, hx⟩ ⟨X ++ sw ahead, [], ho, rfl, by simp [sw, Fr.plug, Fr.off]⟩ h hh
  | iter a iha =>
    intro lo fs ahead X hx ho h hh
    exact iha lo (.iter :: fs) _ X ⟨Nat.zero_le _, hx⟩ ⟨X ++ sw ahead, [], ho, rfl, by simp [sw, Fr.plug, Fr.off]⟩ h hh
theorem turnsF_all {Q : MHop → Prop} {d : Int} (hQ : ∀ h : MHop, Q h → Q ⟨h.To, d, h.Steps⟩) : ∀ (r out : List MHop), (∀ h ∈ out, Q h) → (∀ h ∈ r, Q h) → ∀ h ∈ turnsF d out r, Q h
  | [], out, h, _ => h
  | x :: r, out, h, hr => by
    simp only [turnsF]
    refine turnsF_all hQ r _ ?_ (fun y hy => hr y (by simp [hy]))
    split
    · exact h
    · intro y hy
      rcases List.mem_append.1 hy with hy | hy
      · exact h y hy
      · simp only [List.mem_singleton] at hy; subst hy; exact hQ _ (hr x (by simp))
/-- What a climb needs of the leaves' numbers. -/
theorem climb_lvs {l : List MTerm} {t : Tm} (ht : IsT l t) {f : Fr} {fs : List Fr} {lo : Nat} {s : Tm} (hx : Ctx t lo s (f :: fs)) : leavesN l (lo - f.off) = leavesN l lo - f.lvs := by
  have hpar := hx.2.at_ ht
  cases f <;> simp only [Fr.plug, Fr.off, Fr.lvs, Nat.sub_zero] at hpar ⊢
  case catR a =>
    have h0 := hx.1; simp only [Fr.off] at h0
    have := leavesN_at ((At.bin rfl rfl).1 hpar).1
    rw [show lo - a.size + a.size = lo from by omega] at this; omega
  case altR a =>
    have h0 := hx.1; simp only [Fr.off] at h0
    have := leavesN_at ((At.bin rfl rfl).1 hpar).1
    rw [show lo - a.size + a.size = lo from by omega] at this; omega
theorem climbF_pre {l : List MTerm} {t : Tm} (ht : IsT l t) (X : Wd) : ∀ (fs : List Fr) (lo : Nat) (s : Tm) (st : List Int) (out : List MHop), Ctx t lo s fs → Dn lo s fs (X ++ sw st) → (∀ h ∈ out, AtP l t h.To (X ++ sw h.Steps)) →
    (∀ h ∈ (climbF lo (leavesN l lo) s st out fs).1, AtP l t h.To (X ++ sw h.Steps)) ∧ ((climbF lo (leavesN l lo) s st out fs).2.2 = true → Dn 0 t [] (X ++ sw (climbF lo (leavesN l lo) s st out fs).2.1))
  | [], lo, s, st, out, hx, hn, hg => ⟨hg, fun _ => by obtain ⟨rfl, rfl⟩ := hx; exact hn⟩
  | f :: fs, lo, s, st, out, hx, hn, hg => by
    have hln := leavesN_at (hx.at_ ht)
    have hlv := climb_lvs ht hx
    have ap : ∀ xs : List Int, X ++ sw (st ++ xs) = X ++ sw st ++ sw xs := fun xs => by rw [sw_append, List.append_assoc]
    have go : (∀ b, f ≠ .catL b) → Dn (lo - f.off) (f.plug s) fs (X ++ sw (st ++ [cls ((f.plug s).top (lo - f.off))])) := fun hf => by rw [ap]; exact hn.up hf hx.1
    cases f with
    | catL b =>
      have hxb : Ctx t (lo + s.size) b (.catR s :: fs) := ⟨Nat.le_add_left _ _, by simpa [Fr.off, Fr.plug] using hx.2⟩
      have hg' := turnsF_all (Q := fun h => AtP l t h.To (X ++ sw h.Steps)) (d := ((fs.length + 1 : Nat) : Int)) (fun _ h => h) (b.into (lo + s.size) (leavesN l lo + s.leaves) st) out hg (by rw [← hln]; exact into_pre ht b _ _ st X hxb hn.cat)
      simp only [climbF]
      split
      · rename_i hcb
        refine climbF_pre ht X fs lo (.cat s b) _ _ hx.2 ?_ hg'
        have := hn.cat_can hcb
        simpa [sw] using this
      · exact ⟨hg', fun h => by simp at h⟩
    | star =>
      have hg' := turnsF_all (Q := fun h => AtP l t h.To (X ++ sw h.Steps)) (d := ((fs.length + 1 : Nat) : Int)) (fun _ h => h) (s.into lo (leavesN l lo) st) out hg (into_pre ht s lo _ st X hx hn.star)
      simp only [climbF]
      exact climbF_pre ht X fs lo (.star s) _ _ hx.2 (go (by intro b h; cases h)) hg'
    | catR a =>
      have := climbF_pre ht X fs (lo - (Fr.catR a).off) ((Fr.catR a).plug s) _ out hx.2 (go (by intro b h; cases h)) hg
      rw [hlv] at this; exact this
    | altR a =>
      have := climbF_pre ht X fs (lo - (Fr.altR a).off) ((Fr.altR a).plug s) _ out hx.2 (go (by intro b h; cases h)) hg
      rw [hlv] at this; exact this
    | altL b =>
      have := climbF_pre ht X fs (lo - (Fr.altL b).off) ((Fr.altL b).plug s) _ out hx.2 (go (by intro b h; cases h)) hg
      rw [hlv] at this; exact this
    | maybe =>
      have := climbF_pre ht X fs (lo - Fr.maybe.off) (Fr.maybe.plug s) _ out hx.2 (go (by intro b h; cases h)) hg
      rw [hlv] at this; exact this
    | group n =>
      have := climbF_pre ht X fs (lo - (Fr.group n).off) ((Fr.group n).plug s) _ out hx.2 (go (by intro b h; cases h)) hg
      rw [hlv] at this; exact this
    | iter =>
      have := climbF_pre ht X fs (lo - Fr.iter.off) (Fr.iter.plug s) _ out hx.2 (go (by intro b h; cases h)) hg
      rw [hlv] at this; exact this
/-- The Leaf of a place. -/
def leafAt (l : List MTerm) (p : Int) : Nat := (gt (leavesL l l.length) p).toNat
theorem IsPlace.leaf {l : List MTerm} {t : Tm} {p q : Nat} {S : List Int} {fs : List Fr} (h : IsPlace l t p q S fs) : leafAt l (p : Int) = q := by
  unfold leafAt; rw [gt_get_nat h.get]; rfl
/-- Where a run stands, its place's byte read. -/
def Stand (l : List MTerm) (t : Tm) (p : Int) (X : Wd) : Prop := (p = -1 ∧ X = []) ∨ ∃ Y, AtP l t p Y ∧ X = Y ++ [.inr (leafAt l p)]
theorem ways_pre {l : List MTerm} (hw : ∀ x ∈ l, wfTerm x) {t : Tm} (ht : IsT l t) (hR : RightB l = true) {fuel : Nat} (hf : 1000001 < fuel) {p : Int} {X : Wd} (ho : Stand l t p X) :
    (∀ h ∈ wayL fuel l p, AtP l t h.To (X ++ sw h.Steps)) ∧ ((endL fuel l p).2 = true → ∃ P, t.val P ∧ X ++ sw (endL fuel l p).1.Steps = t.word 0 P) := by
  have h400 := ht.le; have hln := ht.len; have hsp := t.size_pos
  rcases ho with ⟨rfl, rfl⟩ | ⟨Y, ⟨n, q, S, fs, W0, rfl, hp, hpre, rfl⟩, rfl⟩
  · have hW : W ((l.length : Int) - 1) = (t.top 0 : Int) := by rw [W_id (by omega) (by omega)]; unfold Tm.top; omega
    obtain ⟨h1, _⟩ := m_First hw ht hR hf ht.at0
    obtain ⟨h2, _⟩ := m_End_begin hw ht hR hf
    constructor
    · intro h hh
      unfold wayL at hh
      rw [if_pos (by omega), hW, h1] at hh
      exact into_pre ht t 0 [] [] [] ⟨rfl, rfl⟩ rfl h (by simpa using hh)
    · intro he
      unfold endL at he ⊢
      rw [h2] at he ⊢
      by_cases hc : t.can = true
      · obtain ⟨P, h3, h4, h5⟩ := steps_val t 0 hc
        refine ⟨P, h3, ?_⟩
        simp only [hc, if_true, Option.getD_some] at he ⊢
        unfold EndR at he ⊢
        split at he
        · simp at he
        · rename_i hz; rw [if_neg hz]; simpa using h5.symm
      · simp [hc, EndR] at he
  · have hpl : n < leavesN l l.length := by
      have := (List.getElem?_eq_some_iff.1 hp.get).1
      rw [leavesL_len] at this; exact this
    have h1 := m_From hw ht hR hf hp hpl
    have h2 := m_End hw ht hR hf hp hpl
    rw [hp.leaf]
    have hc := climbF_pre ht (W0 ++ [.inl (opn q)] ++ [.inr q]) fs q (.leaf S) [cls q] [] hp.ctx ⟨W0, .byte, hpre, rfl, by simp [Pt.wid], by simp [Tm.word, wrap, sw]⟩ (by simp)
    rw [hp.num] at hc
    replace hc : (∀ h ∈ (climbP t n q S fs).1, AtP l t h.To (W0 ++ [.inl (opn q)] ++ [.inr q] ++ sw h.Steps)) ∧ ((climbP t n q S fs).2.2 = true → Dn 0 t [] (W0 ++ [.inl (opn q)] ++ [.inr q] ++ sw (climbP t n q S fs).2.1)) := hc
    constructor
    · intro h hh
      unfold wayL at hh
      rw [if_neg (by omega), h1] at hh
      exact hc.1 h ((sortK_perm MHop.To _).mem_iff.1 (by simpa using hh))
    · intro he
      unfold endL at he ⊢
      rw [h2] at he ⊢
      simp only [Option.getD_some] at he ⊢
      by_cases hb : (climbP t n q S fs).2.2 = true
      · obtain ⟨W1, P, h3, h4, h5, h6⟩ := hc.2 hb
        simp only [Pre] at h3; subst h3
        refine ⟨P, h4, ?_⟩
        simp only [hb, if_true] at he ⊢
        unfold EndR at he ⊢
        split at he
        · simp at he
        · rename_i hz; rw [if_neg hz]; simpa using h6
      · simp [hb, EndR] at he
/-- The word of frames, and of the places between them. -/
def runW (l : List MTerm) : List (List Int) → List Int → Wd
  | f :: fs, p :: ps => sw f ++ .inr (leafAt l p) :: runW l fs ps
  | _, _ => []
theorem run_pre {l : List MTerm} (hw : ∀ x ∈ l, wfTerm x) {t : Tm} (ht : IsT l t) (hR : RightB l = true) {fuel : Nat} (hf : 1000001 < fuel) : ∀ (run : List Int) (at_ : Int) (X : Wd) (gs : List (List Int)) (at' : Int), Stand l t at_ X → framesR fuel l at_ run = some (gs, at') → Stand l t at' (X ++ runW l gs run)
  | [], at_, X, gs, at', ho, h => by
    simp only [framesR, Option.some.injEq, Prod.mk.injEq] at h
    obtain ⟨rfl, rfl⟩ := h
    simpa [runW] using ho
  | p :: ps, at_, X, gs, at', ho, h => by
    simp only [framesR] at h
    cases c : wayTo (wayL fuel l at_) p with
    | none => rw [c] at h; cases h
    | some y =>
      rw [c] at h
      cases c4 : framesR fuel l p ps with
      | none => rw [c4] at h; cases h
      | some r =>
        rw [c4] at h
        simp only [Option.map_some, Option.some.injEq, Prod.mk.injEq] at h
        obtain ⟨rfl, rfl⟩ := h
        have hy : y.To = p := by simpa using List.find?_some c
        have h1 := (ways_pre hw ht hR hf ho).1 y (List.mem_of_find?_eq_some c)
        rw [hy] at h1
        have h2 := run_pre hw ht hR hf ps p (X ++ sw y.Steps ++ [.inr (leafAt l p)]) r.1 r.2 (.inr ⟨_, h1, rfl⟩) c4
        simpa [runW] using h2
/-- A run to the end is the word of a parse. -/
theorem run_word {l : List MTerm} (hw : ∀ x ∈ l, wfTerm x) {t : Tm} (ht : IsT l t) (hR : RightB l = true) {fuel : Nat} (hf : 1000001 < fuel) {run : List Int} {gs : List (List Int)} {at' : Int} (h : framesR fuel l (-1) run = some (gs, at')) (he : (endL fuel l at').2 = true) :
    ∃ P, t.val P ∧ runW l gs run ++ sw (endL fuel l at').1.Steps = t.word 0 P := by
  have h1 := run_pre hw ht hR hf run (-1) [] gs at' (.inl ⟨rfl, rfl⟩) h
  exact (ways_pre hw ht hR hf h1).2 he
def starE (F : Int → Pt → List MEntry) : Int → Pt → List MEntry
  | k, .two x r => F k x ++ starE F (k + x.wid) r
  | _, _ => []
/-- The entries of a parse, from some depth and place on. -/
def Tm.ents : Tm → Nat → Int → Int → Pt → List MEntry
  | .eps, lo, d, k, p => [⟨d, (lo : Int), k, k + p.wid⟩]
  | .leaf _, lo, d, k, p => [⟨d, (lo : Int), k, k + p.wid⟩]
  | .cat a b, lo, d, k, p => ⟨d, (Tm.top (.cat a b) lo : Int), k, k + p.wid⟩ :: (match p with | .two x y => a.ents lo (d + 1) k x ++ b.ents (lo + a.size) (d + 1) (k + x.wid) y | _ => [])
  | .alt a b, lo, d, k, p => ⟨d, (Tm.top (.alt a b) lo : Int), k, k + p.wid⟩ :: (match p with | .one x => a.ents lo (d + 1) k x | .other x => b.ents (lo + a.size) (d + 1) k x | _ => [])
  | .star a, lo, d, k, p => ⟨d, (Tm.top (.star a) lo : Int), k, k + p.wid⟩ :: starE (fun k x => a.ents lo (d + 1) k x) k p
  | .maybe a, lo, d, k, p => ⟨d, (Tm.top (.maybe a) lo : Int), k, k + p.wid⟩ :: (match p with | .one x => a.ents lo (d + 1) k x | _ => [])
  | .group n a, lo, d, k, p => ⟨d, (Tm.top (.group n a) lo : Int), k, k + p.wid⟩ :: (match p with | .one x => a.ents lo (d + 1) k x | _ => [])
  | .iter a, lo, d, k, p => ⟨d, (Tm.top (.iter a) lo : Int), k, k + p.wid⟩ :: (match p with | .one x => a.ents lo (d + 1) k x | _ => [])
/-- A step, or a byte: then the next frame begins. -/
def gW (s : Grow × Int) : Int ⊕ Nat → Option (Grow × Int)
  | .inl x => match growT s.2 s.1 x with | .inl s' => some (s', s.2) | .inr _ => none
  | .inr _ => if doneB s.1 then none else some (s.1, s.2 + 1)
def gWs : Grow × Int → Wd → Option (Grow × Int)
  | s, [] => some s
  | s, x :: xs => (gW s x).bind fun s' => gWs s' xs
theorem gWs_append : ∀ (xs ys : Wd) (s : Grow × Int), gWs s (xs ++ ys) = (gWs s xs).bind fun s' => gWs s' ys
  | [], ys, s => rfl
  | x :: xs, ys, s => by
    simp only [List.cons_append, gWs]
    cases gW s x with
    | none => rfl
    | some s' => simpa using gWs_append xs ys s'
theorem gW_opn {out : List MEntry} {op : List Int} {k : Int} {q : Nat} (hq : q ≤ 1000000) (h : op ≠ [] ∨ out = []) : gW ((out, op), k) (.inl (opn q)) = some ((out ++ [⟨((op.length + 1 : Nat) : Int), (q : Int), k, 0⟩], op ++ [(out.length : Int)]), k) := by
  have h1 := opn_div q
  have hW : W (q : Int) = q := W_nat (by omega)
  have h0 : ¬ (opn q < 0 ∨ (op.length = 0 ∧ 0 < out.length)) := by
    rintro (h2 | ⟨h2, h3⟩)
    · unfold opn at h2; omega
    · rcases h with h | h
      · exact h (List.eq_nil_of_length_eq_zero h2)
      · subst h; simp at h3
  simp only [gW, growT]
  rw [if_neg h0, if_pos h1.2, h1.1, hW]
theorem gW_cls {out : List MEntry} {op : List Int} {k : Int} {q : Nat} (hq : q ≤ 1000000) (d f : Int) (E : List MEntry) :
    gW ((out ++ ⟨d, (q : Int), f, 0⟩ :: E, op ++ [(out.length : Int)]), k) (.inl (cls q)) = some ((out ++ ⟨d, (q : Int), f, k⟩ :: E, op), k) := by
  have h1 := cls_div q
  have hW : W (q : Int) = q := W_nat (by omega)
  have hlen : (op ++ [(out.length : Int)]).length = op.length + 1 := by simp
  have h0 : ¬ (cls q < 0 ∨ ((op ++ [(out.length : Int)]).length = 0 ∧ 0 < (out ++ (⟨d, (q : Int), f, 0⟩ : MEntry) :: E).length)) := by
    rintro (h2 | ⟨h2, h3⟩)
    · unfold cls at h2; omega
    · omega
  have g1 : gt (op ++ [(out.length : Int)]) (((op ++ [(out.length : Int)]).length - 1 : Nat) : Int) = (out.length : Int) := gt_append_right (by simp)
  have g2 : gt (out ++ (⟨d, (q : Int), f, 0⟩ : MEntry) :: E) (out.length : Int) = ⟨d, (q : Int), f, 0⟩ := gt_append_right rfl
  simp only [gW, growT]
  rw [if_neg h0, if_neg (by rw [h1.2]; omega), if_neg (by omega), g1, g2, h1.1, hW, if_pos rfl, Int.toNat_natCast, set_mid rfl]
  simp
theorem wrap_grow {out : List MEntry} {op : List Int} {k k' : Int} {q : Nat} {w : Wd} {E : List MEntry} (hq : q ≤ 1000000) (h : op ≠ [] ∨ out = [])
    (hi : ∀ e : MEntry, gWs ((out ++ [e], op ++ [(out.length : Int)]), k) w = some ((out ++ [e] ++ E, op ++ [(out.length : Int)]), k')) :
    gWs ((out, op), k) (wrap q w) = some ((out ++ ⟨((op.length + 1 : Nat) : Int), (q : Int), k, k'⟩ :: E, op), k') := by
  unfold wrap
  rw [show (Sum.inl (opn q) :: (w ++ [Sum.inl (cls q)]) : Wd) = [Sum.inl (opn q)] ++ (w ++ [Sum.inl (cls q)]) from rfl, gWs_append]
  have e1 : gWs ((out, op), k) [Sum.inl (opn q)] = some ((out ++ [⟨((op.length + 1 : Nat) : Int), (q : Int), k, 0⟩], op ++ [(out.length : Int)]), k) := by simp [gWs, gW_opn hq h]
  rw [e1, Option.bind_some, gWs_append, hi, Option.bind_some]
  have e2 := gW_cls (out := out) (op := op) (k := k') hq ((op.length + 1 : Nat) : Int) k E
  rw [show out ++ [(⟨((op.length + 1 : Nat) : Int), (q : Int), k, 0⟩ : MEntry)] ++ E = out ++ (⟨((op.length + 1 : Nat) : Int), (q : Int), k, 0⟩ : MEntry) :: E from by simp]
  simp only [gWs, e2, Option.bind_some]
theorem star_grow {V : Pt → Prop} {F : Pt → Wd} {FE : Int → Pt → List MEntry} {op : List Int} (hF : ∀ x, V x → ∀ (out : List MEntry) (k : Int), gWs ((out, op), k) (F x) = some ((out ++ FE k x, op), k + x.wid)) :
    ∀ (P : Pt), starV V P → ∀ (out : List MEntry) (k : Int), gWs ((out, op), k) (starW F P) = some ((out ++ starE FE k P, op), k + P.wid)
  | .nil, _, out, k => by simp [starW, starE, gWs, Pt.wid]
  | .two x r, h, out, k => by
    obtain ⟨h1, _, h3⟩ := h
    simp only [starW, starE, gWs_append, hF x h1, Option.bind_some, star_grow hF r h3, Pt.wid]
    simp [Int.add_assoc]
  | .byte, h, _, _ => by simp [starV] at h
  | .one _, h, _, _ => by simp [starV] at h
  | .other _, h, _, _ => by simp [starV] at h
theorem word_grow : ∀ (s : Tm) (lo : Nat) (P : Pt), s.val P → lo + s.size ≤ 1000000 → ∀ (out : List MEntry) (op : List Int) (k : Int), op ≠ [] ∨ out = [] → gWs ((out, op), k) (s.word lo P) = some ((out ++ s.ents lo ((op.length + 1 : Nat) : Int) k P, op), k + P.wid) := by
  intro s
  have hop : ∀ (op : List Int) (out : List MEntry), op ++ [(out.length : Int)] ≠ [] := by intro op out h; simp at h
  have hd : ∀ (op : List Int) (out : List MEntry), (((op ++ [(out.length : Int)]).length + 1 : Nat) : Int) = ((op.length + 1 : Nat) : Int) + 1 := by intro op out; simp
  have htop : ∀ (t : Tm) (lo : Nat), lo + t.size ≤ 1000000 → t.top lo ≤ 1000000 := by intro t lo h; unfold Tm.top; omega
  induction s with
  | eps =>
    intro lo P hv hl out op k h
    cases hv
    exact wrap_grow (by simp [Tm.size] at hl; omega) h (fun e => by simp [gWs, Pt.wid])
  | leaf S =>
    intro lo P hv hl out op k h
    cases hv
    refine wrap_grow (by simp [Tm.size] at hl; omega) h (fun e => ?_)
    simp [gWs, gW, doneB, Pt.wid]
  | cat a b iha ihb =>
    intro lo P hv hl out op k h
    obtain ⟨x, y, rfl, h1, h2⟩ := hv
    refine wrap_grow (htop _ _ hl) h (fun e => ?_)
    simp only [Tm.size] at hl
    simp only [gWs_append, iha lo x h1 (by omega) _ _ _ (.inl (hop op out)), Option.bind_some, ihb (lo + a.size) y h2 (by omega) _ _ _ (.inl (hop op out)), hd]
    simp [Pt.wid, Int.add_assoc]
  | alt a b iha ihb =>
    intro lo P hv hl out op k h
    have hl' := hl
    simp only [Tm.size] at hl'
    rcases hv with ⟨x, rfl, h1⟩ | ⟨x, rfl, h1⟩
    · refine wrap_grow (htop _ _ hl) h (fun e => ?_)
      simp only [iha lo x h1 (by omega) _ _ _ (.inl (hop op out)), hd, Pt.wid]
    · refine wrap_grow (htop _ _ hl) h (fun e => ?_)
      simp only [ihb (lo + a.size) x h1 (by omega) _ _ _ (.inl (hop op out)), hd, Pt.wid]
  | star a iha =>
    intro lo P hv hl out op k h
    have hl' := hl
    simp only [Tm.size] at hl'
    refine wrap_grow (htop _ _ hl) h (fun e => ?_)
    rw [star_grow (V := a.val) (F := fun x => a.word lo x) (FE := fun k x => a.ents lo (((op.length + 1 : Nat) : Int) + 1) k x) (fun x hx out' k' => ?_) P hv]
    rw [iha lo x hx (by omega) _ _ _ (.inl (hop op out)), hd]
  | maybe a iha =>
    intro lo P hv hl out op k h
    have hl' := hl
    simp only [Tm.size] at hl'
    rcases hv with rfl | ⟨x, rfl, h1, _⟩
    · exact wrap_grow (htop _ _ hl) h (fun e => by simp [gWs, Pt.wid])
    · refine wrap_grow (htop _ _ hl) h (fun e => ?_)
      simp only [iha lo x h1 (by omega) _ _ _ (.inl (hop op out)), hd, Pt.wid]
  | group n a iha =>
    intro lo P hv hl out op k h
    obtain ⟨x, rfl, h1⟩ := hv
    refine wrap_grow (htop _ _ hl) h (fun e => ?_)
    simp only [Tm.size] at hl
    simp only [iha lo x h1 (by omega) _ _ _ (.inl (hop op out)), hd, Pt.wid]
  | iter a iha =>
    intro lo P hv hl out op k h
    obtain ⟨x, rfl, h1⟩ := hv
    refine wrap_grow (htop _ _ hl) h (fun e => ?_)
    simp only [Tm.size] at hl
    simp only [iha lo x h1 (by omega) _ _ _ (.inl (hop op out)), hd, Pt.wid]
theorem gWs_sw : ∀ (f : List Int) (s : Grow × Int), gWs s (sw f) = match foldE (growT s.2) s.1 f with | .inl s' => some (s', s.2) | .inr _ => none
  | [], s => rfl
  | x :: f, s => by
    simp only [sw, List.map_cons, gWs, gW, foldE]
    cases growT s.2 s.1 x with
    | inr t => rfl
    | inl s' => simpa [sw] using gWs_sw f (s', s.2)
theorem run_frames {l : List MTerm} {n : Nat} : ∀ (gs : List (List Int)) (run : List Int) (s s' : Grow × Int) (i : Nat), gs.length = run.length → s.2 = (i : Int) → i + gs.length + 1 = n → gWs s (runW l gs run) = some s' → foldE (frameT n) s gs = .inl s' ∧ s'.2 = ((i + gs.length : Nat) : Int)
  | [], [], s, s', i, _, hs, hn, h => by
    simp only [runW, gWs, Option.some.injEq] at h
    subst h; exact ⟨rfl, by simpa using hs⟩
  | [], _ :: _, _, _, _, h, _, _, _ => by simp at h
  | _ :: _, [], _, _, _, h, _, _, _ => by simp at h
  | f :: gs, p :: run, s, s', i, hl, hs, hn, h => by
    simp only [runW, gWs_append, gWs_sw] at h
    simp only [foldE, frameT]
    cases c : foldE (growT s.2) s.1 f with
    | inr t => rw [c] at h; cases h
    | inl s1 =>
      rw [c] at h
      simp only [Option.bind_some, gWs, gW] at h
      cases hd : doneB s1 with
      | true => simp [hd] at h
      | false =>
        simp only [hd, Bool.false_eq_true, if_false, Option.bind_some] at h
        simp only [hd, Bool.false_and, Bool.false_eq_true, if_false]
        have := run_frames (n := n) gs run (s1, s.2 + 1) s' (i + 1) (by simpa using hl) (by simp [hs]) (by simp only [List.length_cons] at hn; omega) h
        refine ⟨this.1, ?_⟩
        rw [this.2]; simp; omega
/-- The tree of a run's frames is that of its parse. -/
theorem Of_word {l : List MTerm} {gs : List (List Int)} {run last : List Int} {s : Tm} {P : Pt} (hl : gs.length = run.length) (hv : s.val P) (hs : s.size ≤ 1000000) (h : runW l gs run ++ sw last = s.word 0 P) : OfF (gs ++ [last]) = (s.ents 0 1 0 P, true) := by
  have hg := word_grow s 0 P hv (by omega) [] [] 0 (.inr rfl)
  rw [← h, gWs_append] at hg
  cases c : gWs (([], []), 0) (runW l gs run) with
  | none => rw [c] at hg; cases hg
  | some s1 =>
    rw [c] at hg
    simp only [Option.bind_some, gWs_sw] at hg
    obtain ⟨h1, h2⟩ := run_frames (n := gs.length + 1) gs run _ s1 0 hl rfl (by omega) c
    have hne : (s.ents 0 1 0 P).length ≠ 0 := by cases s <;> simp [Tm.ents]
    unfold OfF
    rw [foldE_append]
    simp only [List.length_append, List.length_singleton, h1, foldE, frameT]
    cases c2 : foldE (growT s1.2) s1.1 last with
    | inr t => rw [c2] at hg; cases hg
    | inl s2 =>
      rw [c2] at hg
      simp only [Option.some.injEq, Prod.mk.injEq] at hg
      obtain ⟨e1, e2⟩ := hg
      have hlt : ¬ (s1.2 < ((gs.length + 1 : Nat) : Int) - 1) := by rw [h2]; omega
      simp only [hlt, decide_false, Bool.and_false, Bool.false_eq_true, if_false, e1]
      have hd : doneB (([] : List MEntry) ++ s.ents 0 (((([] : List Int).length + 1 : Nat)) : Int) 0 P, ([] : List Int)) = true := by simp [doneB]; omega
      rw [if_pos hd]
      simp
/-- Each run to the end has a tree: that of a parse. -/
theorem tree_ok {l : List MTerm} (hw : ∀ x ∈ l, wfTerm x) {fuel : Nat} (hf : 1000001 < fuel) {run : List Int} (h : (FramesF fuel l run true).2 = true) : RightB l = true ∧ ∃ t P, IsT l t ∧ t.val P ∧ OfF (FramesF fuel l run true).1 = (t.ents 0 1 0 P, true) := by
  have hR : RightB l = true := by
    cases hR : RightB l with
    | true => rfl
    | false => simp [FramesF, hR] at h
  obtain ⟨t, ht⟩ := tree_of hw hR
  obtain ⟨gs, at', h1, h2⟩ := FramesF_R h
  have he : (endL fuel l at').2 = true := by
    unfold FramesF at h
    simp only [hR, if_true] at h
    unfold runF at h
    cases c : foldE (stepF fuel l) ([], -1) run with
    | inl s =>
      obtain ⟨fs, a⟩ := s
      rw [c] at h
      obtain ⟨gs', h3, h4⟩ := fold_framesR run _ _ _ _ c
      rw [h1] at h3
      simp only [Option.some.injEq, Prod.mk.injEq] at h3
      simp only [outE] at h
      rw [h3.2]
      cases ce : (endL fuel l a).2 with
      | false => simp [ce] at h
      | true => rfl
    | inr r =>
      exfalso
      have : ∀ (xs : List Int) (s : List (List Int) × Int) (u : List (List Int) × Int), framesR fuel l s.2 xs = some u → foldE (stepF fuel l) s xs ≠ .inr r := by
        intro xs
        induction xs with
        | nil => intro s u _ h; simp [foldE] at h
        | cons x xs ih =>
          intro s u hu h
          simp only [framesR] at hu
          simp only [foldE] at h
          cases hw : wayTo (wayL fuel l s.2) x with
          | none => rw [hw] at hu; cases hu
          | some y =>
            rw [hw] at hu
            simp only [stepF, hw] at h
            cases c4 : framesR fuel l x xs with
            | none => rw [c4] at hu; cases hu
            | some v => exact ih _ v c4 h
      exact this run _ _ h1 c
  obtain ⟨P, h3, h4⟩ := run_word hw ht hR hf h1 he
  have h400 := ht.le; have hln := ht.len
  refine ⟨hR, t, P, ht, h3, ?_⟩
  rw [h2]
  exact Of_word (framesR_len _ _ _ _ h1) h3 (by omega) h4
end Go.Proofs.Ytfhehbfifffipaa
