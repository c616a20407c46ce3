/- Steps open and close nodes as a stack does: what is open behind each way. Its conditions: none. -/
import Derived.Test.YtfhehbfifffipaaPTrc1
set_option autoImplicit false
namespace Go.Proofs.Ytfhehbfifffipaa
open Go.V Go.RowKit

def stepN (N : Nat) (s : List Nat) (x : Int) : Option (List Nat) :=
  if 0 ≤ x ∧ x < 2 * (N : Int) then
    if Int.tmod x 2 = 0 then some ((Int.tdiv x 2).toNat :: s)
    else match s with
      | [] => none
      | q :: r => if (q : Int) = Int.tdiv x 2 then some r else none
  else none
def nestS (N : Nat) : List Nat → List Int → Option (List Nat)
  | s, [] => some s
  | s, x :: xs => (stepN N s x).bind fun s' => nestS N s' xs
theorem opn_div (q : Nat) : Int.tdiv (opn q) 2 = q ∧ Int.tmod (opn q) 2 = 0 := by
  unfold opn; rw [Int.tdiv_eq_ediv_of_nonneg (by omega), Int.tmod_eq_emod_of_nonneg (by omega)]; omega
theorem cls_div (q : Nat) : Int.tdiv (cls q) 2 = q ∧ Int.tmod (cls q) 2 = 1 := by
  unfold cls; rw [Int.tdiv_eq_ediv_of_nonneg (by omega), Int.tmod_eq_emod_of_nonneg (by omega)]; omega
theorem stepN_opn {N q : Nat} (s : List Nat) (h : q < N) : stepN N s (opn q) = some (q :: s) := by
  have h1 := opn_div q
  have h2 : 0 ≤ opn q ∧ opn q < 2 * (N : Int) := by unfold opn; omega
  unfold stepN
  rw [if_pos h2, if_pos h1.2, h1.1, Int.toNat_natCast]
theorem stepN_cls {N q : Nat} (s : List Nat) (h : q < N) : stepN N (q :: s) (cls q) = some s := by
  have h1 := cls_div q
  have h2 : 0 ≤ cls q ∧ cls q < 2 * (N : Int) := by unfold cls; omega
  unfold stepN
  rw [if_pos h2, if_neg (by rw [h1.2]; omega), h1.1]
  simp
theorem nestS_append (N : Nat) : ∀ (xs ys : List Int) (s : List Nat), nestS N s (xs ++ ys) = (nestS N s xs).bind fun s' => nestS N s' ys
  | [], ys, s => rfl
  | x :: xs, ys, s => by
    simp only [List.cons_append, nestS]
    cases stepN N s x with
    | none => rfl
    | some s' => simpa using nestS_append N xs ys s'
theorem nestS_opn {N q : Nat} {s s0 : List Nat} {xs : List Int} (h : q < N) (hx : nestS N s0 xs = some s) : nestS N s0 (xs ++ [opn q]) = some (q :: s) := by
  rw [nestS_append, hx]; simp [nestS, stepN_opn s h]
theorem nestS_cls {N q : Nat} {s s0 : List Nat} {xs : List Int} (h : q < N) (hx : nestS N s0 xs = some (q :: s)) : nestS N s0 (xs ++ [cls q]) = some s := by
  rw [nestS_append, hx]; simp [nestS, stepN_cls s h]
/-- A whole part opens and closes alike. -/
theorem Tm.steps_nest (t : Tm) : ∀ (N lo : Nat) (s : List Nat), lo + t.size ≤ N → nestS N s (t.steps lo) = some s := by
  induction t with
  | eps => intro N lo s h; simp only [Tm.size] at h; simp [Tm.steps, nestS, stepN_opn s (show lo < N by omega), stepN_cls s (show lo < N by omega)]
  | leaf S => intro N lo s h; simp only [Tm.size] at h; simp [Tm.steps, nestS, stepN_opn s (show lo < N by omega), stepN_cls s (show lo < N by omega)]
  | cat a b iha ihb =>
    intro N lo s h
    have hp := Tm.size_pos (.cat a b)
    have hq : Tm.top (.cat a b) lo < N := by unfold Tm.top; omega
    simp only [Tm.size] at h
    simp only [Tm.steps, nestS_append, nestS, stepN_opn s hq, Option.bind_some, iha N lo _ (by omega), ihb N (lo + a.size) _ (by omega), stepN_cls s hq]
  | alt a b iha ihb =>
    intro N lo s h
    have hp := Tm.size_pos (.alt a b)
    have hq : Tm.top (.alt a b) lo < N := by unfold Tm.top; omega
    simp only [Tm.size] at h
    simp only [Tm.steps, nestS_append, nestS, stepN_opn s hq, Option.bind_some]
    split
    · simp only [iha N lo _ (by omega), Option.bind_some, stepN_cls s hq]
    · simp only [ihb N (lo + a.size) _ (by omega), Option.bind_some, stepN_cls s hq]
  | star a iha =>
    intro N lo s h
    have hp := Tm.size_pos (.star a)
    have hq : Tm.top (.star a) lo < N := by unfold Tm.top; omega
    simp [Tm.steps, nestS, stepN_opn s hq, stepN_cls s hq]
  | maybe a iha =>
    intro N lo s h
    have hp := Tm.size_pos (.maybe a)
    have hq : Tm.top (.maybe a) lo < N := by unfold Tm.top; omega
    simp [Tm.steps, nestS, stepN_opn s hq, stepN_cls s hq]
  | group n a iha =>
    intro N lo s h
    have hp := Tm.size_pos (.group n a)
    have hq : Tm.top (.group n a) lo < N := by unfold Tm.top; omega
    simp only [Tm.size] at h
    simp only [Tm.steps, nestS_append, nestS, stepN_opn s hq, Option.bind_some, iha N lo _ (by omega), stepN_cls s hq]
  | iter a iha =>
    intro N lo s h
    have hp := Tm.size_pos (.iter a)
    have hq : Tm.top (.iter a) lo < N := by unfold Tm.top; omega
    simp only [Tm.size] at h
    simp only [Tm.steps, nestS_append, nestS, stepN_opn s hq, Option.bind_some, iha N lo _ (by omega), stepN_cls s hq]

/-- The nodes that a part is in, the nearest first. -/
def ancs : Nat → Tm → List Fr → List Nat
  | _, _, [] => []
  | lo, s, f :: fs => (f.plug s).top (lo - f.off) :: ancs (lo - f.off) (f.plug s) fs
theorem place_at {l : List MTerm} {t : Tm} (ht : IsT l t) {q : Nat} {S : List Int} {fs : List Fr} (hx : Ctx t q (.leaf S) fs) : IsPlace l t (leavesN l q) q S fs := by
  have hat := hx.at_ ht
  have hlt := hat.top_lt
  have hk := hat.gt_top
  simp only [Tm.top, Tm.size, Nat.add_sub_cancel] at hlt hk
  have h1 := leavesN_at hat
  have h2 := leavesN_mono l (show q + 1 ≤ l.length by omega)
  simp only [Tm.size, Tm.leaves] at h1
  obtain ⟨q', h3, h4, h5, h6⟩ := leavesL_get l l.length (leavesN l q) (by omega)
  have := leaf_inj l h5 (by rw [hk]; rfl) h6
  subst this
  exact ⟨hx, rfl, h4⟩
/-- A way: to a place, and what is open behind it. -/
def Good (l : List MTerm) (t : Tm) (s0 : List Nat) (h : MHop) : Prop := ∃ (p q : Nat) (S : List Int) (fs : List Fr), h.To = p ∧ IsPlace l t p q S fs ∧ nestS l.length s0 h.Steps = some (q :: ancs q (.leaf S) fs)
theorem into_good {l : List MTerm} {t : Tm} (ht : IsT l t) {s0 : List Nat} : ∀ (s : Tm) (lo : Nat) (fs : List Fr) (ahead : List Int), Ctx t lo s fs → nestS l.length s0 ahead = some (ancs lo s fs) → ∀ h ∈ s.into lo (leavesN l lo) ahead, Good l t s0 h := by
  intro s
  induction s with
  | eps => intro lo fs ahead _ _ h hh; simp [Tm.into] at hh
  | leaf S =>
    intro lo fs ahead hx ho h hh
    have htop := (hx.at_ ht).top_lt
    simp only [Tm.into, List.mem_singleton] at hh
    subst hh
    exact ⟨leavesN l lo, lo, S, fs, rfl, place_at ht hx, nestS_opn (by simpa [Tm.top, Tm.size] using htop) ho⟩
  | cat a b iha ihb =>
    intro lo fs ahead hx ho h hh
    have htop := (hx.at_ ht).top_lt
    have hxa : Ctx t lo a (.catL b :: fs) := ⟨Nat.zero_le _, hx⟩
    have hxb : Ctx t (lo + a.size) b (.catR a :: fs) := ⟨Nat.le_add_left _ _, by simpa [Fr.off, Fr.plug] using hx⟩
    have hln := leavesN_at (hxa.at_ ht)
    have h1 := nestS_opn htop ho
    simp only [Tm.into, List.mem_append] at hh
    rcases hh with hh | hh
    · exact iha lo _ _ hxa h1 h hh
    · split at hh
      · rw [← hln] at hh
        refine ihb (lo + a.size) _ _ hxb ?_ h hh
        have hs := (hxa.at_ ht).len
        rw [nestS_append, h1, Option.bind_some, a.steps_nest _ _ _ hs]
        simp [ancs, Fr.off, Fr.plug]
      · simp at hh
  | alt a b iha ihb =>
    intro lo fs ahead hx ho h hh
    have htop := (hx.at_ ht).top_lt
    have hxa : Ctx t lo a (.altL b :: fs) := ⟨Nat.zero_le _, hx⟩
    have hxb : Ctx t (lo + a.size) b (.altR a :: fs) := ⟨Nat.le_add_left _ _, by simpa [Fr.off, Fr.plug] using hx⟩
    have hln := leavesN_at (hxa.at_ ht)
    have h1 := nestS_opn htop ho
    simp only [Tm.into, List.mem_append] at hh
    rcases hh with hh | hh
    · exact iha lo _ _ hxa h1 h hh
    · rw [← hln] at hh
      refine ihb (lo + a.size) _ _ hxb ?_ h hh
      rw [h1]
      simp [ancs, Fr.off, Fr.plug]
  | star a iha =>
    intro lo fs ahead hx ho h hh
    exact iha lo (.star :: fs) _ ⟨Nat.zero_le _, hx⟩ (nestS_opn (hx.at_ ht).top_lt ho) h hh
  | maybe a iha =>
    intro lo fs ahead hx ho h hh
    exact iha lo (.maybe :: fs) _ ⟨Nat.zero_le _, hx⟩ (nestS_opn (hx.at_ ht).top_lt ho) h hh
  | group n a iha =>
    intro lo fs ahead hx ho h hh
    exact iha lo (.group n :: fs) _ ⟨Nat.zero_le _, hx⟩ (nestS_opn (hx.at_ ht).top_lt ho) h hh
  | iter a iha =>
    intro lo fs ahead hx ho h hh
    exact iha lo (.iter :: fs) _ ⟨Nat.zero_le _, hx⟩ (nestS_opn (hx.at_ ht).top_lt ho) h hh
theorem turnsF_good {l : List MTerm} {t : Tm} {s0 : List Nat} (d : Int) : ∀ (r out : List MHop), (∀ h ∈ out, Good l t s0 h) → (∀ h ∈ r, Good l t s0 h) → ∀ h ∈ turnsF d out r, Good l t s0 h
  | [], out, h, _ => h
  | x :: r, out, h, hr => by
    simp only [turnsF]
    refine turnsF_good d r _ ?_ (fun y hy => hr y (by simp [hy]))
    split
    · exact h
    · intro y hy
      rcases List.mem_append.1 hy with hy | hy
      · exact h y hy
      · simp only [List.mem_singleton] at hy; subst hy; exact hr x (by simp)
theorem climbF_good {l : List MTerm} {t : Tm} (ht : IsT l t) {s0 : List Nat} : ∀ (fs : List Fr) (lo : Nat) (s : Tm) (st : List Int) (out : List MHop), Ctx t lo s fs → nestS l.length s0 st = some (ancs lo s fs) → (∀ h ∈ out, Good l t s0 h) →
    (∀ h ∈ (climbF lo (leavesN l lo) s st out fs).1, Good l t s0 h) ∧ ((climbF lo (leavesN l lo) s st out fs).2.2 = true → nestS l.length s0 (climbF lo (leavesN l lo) s st out fs).2.1 = some [])
  | [], lo, s, st, out, hx, hn, hg => ⟨hg, fun _ => hn⟩
  | f :: fs, lo, s, st, out, hx, hn, hg => by
    have hpar := hx.2.at_ ht
    have htop := hpar.top_lt
    have hself := hx.at_ ht
    have hln := leavesN_at hself
    have hlv : leavesN l (lo - f.off) = leavesN l lo - f.lvs := by
      cases f <;> simp only [Fr.plug, Fr.off, Fr.lvs, Nat.sub_zero] at hpar ⊢
      case catR a =>
        have h0 := hx.1; simp only [Fr.off] at h0
        have := leavesN_at ((At.bin rfl rfl).1 hpar).1
        rw [show lo - a.size + a.size = lo from by omega] at this; omega
      case altR a =>
        have h0 := hx.1; simp only [Fr.off] at h0
        have := leavesN_at ((At.bin rfl rfl).1 hpar).1
        rw [show lo - a.size + a.size = lo from by omega] at this; omega
    have hc : nestS l.length s0 (st ++ [cls ((f.plug s).top (lo - f.off))]) = some (ancs (lo - f.off) (f.plug s) fs) := nestS_cls htop hn
    cases f with
    | catL b =>
      have hxb : Ctx t (lo + s.size) b (.catR s :: fs) := ⟨Nat.le_add_left _ _, by simpa [Fr.off, Fr.plug] using hx.2⟩
      have hanc : ancs (lo + s.size) b (.catR s :: fs) = ancs lo s (.catL b :: fs) := by simp [ancs, Fr.off, Fr.plug]
      have hg' := turnsF_good (l := l) (t := t) (s0 := s0) ((fs.length + 1 : Nat) : Int) (b.into (lo + s.size) (leavesN l lo + s.leaves) st) out hg (by rw [← hln]; exact into_good ht b _ _ st hxb (hn.trans (by rw [hanc])))
      simp only [climbF]
      split
      · refine climbF_good ht fs lo (.cat s b) _ _ hx.2 ?_ hg'
        have hbl := (hxb.at_ ht).len
        refine nestS_cls (q := Tm.top (.cat s b) lo) htop ?_
        rw [nestS_append, hn, Option.bind_some, b.steps_nest _ _ _ hbl]
        rfl
      · exact ⟨hg', fun h => by simp at h⟩
    | star =>
      have hg' := turnsF_good (l := l) (t := t) (s0 := s0) ((fs.length + 1 : Nat) : Int) (s.into lo (leavesN l lo) st) out hg (into_good ht s lo _ st hx hn)
      simp only [climbF]
      exact climbF_good ht fs lo (.star s) _ _ hx.2 hc hg'
    | catR a =>
      have := climbF_good ht fs (lo - (Fr.catR a).off) ((Fr.catR a).plug s) _ out hx.2 hc hg
      rw [hlv] at this; exact this
    | altR a =>
      have := climbF_good ht fs (lo - (Fr.altR a).off) ((Fr.altR a).plug s) _ out hx.2 hc hg
      rw [hlv] at this; exact this
    | altL b =>
      have := climbF_good ht fs (lo - (Fr.altL b).off) ((Fr.altL b).plug s) _ out hx.2 hc hg
      rw [hlv] at this; exact this
    | maybe =>
      have := climbF_good ht fs (lo - Fr.maybe.off) (Fr.maybe.plug s) _ out hx.2 hc hg
      rw [hlv] at this; exact this
    | group n =>
      have := climbF_good ht fs (lo - (Fr.group n).off) ((Fr.group n).plug s) _ out hx.2 hc hg
      rw [hlv] at this; exact this
    | iter =>
      have := climbF_good ht fs (lo - Fr.iter.off) (Fr.iter.plug s) _ out hx.2 hc hg
      rw [hlv] at this; exact this
/-- What a node is in is told by the node. -/
theorem ancs_uniq {l : List MTerm} {t : Tm} {u d : List Int} (ht : IsT l t) (hu : UpT u t) (hd : DeepT d t) : ∀ (fs : List Fr) (lo : Nat) (s : Tm) (fs' : List Fr) (lo' : Nat) (s' : Tm), Ctx t lo s fs → Ctx t lo' s' fs' → s.top lo = s'.top lo' → ancs lo s fs = ancs lo' s' fs'
  | [], lo, s, [], lo', s', _, _, _ => rfl
  | [], lo, s, f' :: fs', lo', s', hx, hx', he => by
    have h1 := hx.root hu
    have h2 := hx'.edge ht hu hd
    rw [he, h2] at h1
    omega
  | f :: fs, lo, s, [], lo', s', hx, hx', he => by
    have h1 := hx'.root hu
    have h2 := hx.edge ht hu hd
    rw [← he, h2] at h1
    omega
  | f :: fs, lo, s, f' :: fs', lo', s', hx, hx', he => by
    have h1 := hx.edge ht hu hd
    have h2 := hx'.edge ht hu hd
    rw [he, h2] at h1
    have h3 : (f.plug s).top (lo - f.off) = (f'.plug s').top (lo' - f'.off) := by omega
    simp only [ancs]
    rw [h3, ancs_uniq ht hu hd fs _ _ fs' _ _ hx.2 hx'.2 h3]

/-- What is open at a place; at -1: nothing. -/
def Open (l : List MTerm) (t : Tm) (p : Int) (s : List Nat) : Prop := (p = -1 ∧ s = []) ∨ ∃ (n q : Nat) (S : List Int) (fs : List Fr), p = n ∧ IsPlace l t n q S fs ∧ s = q :: ancs q (.leaf S) fs
theorem open_uniq {l : List MTerm} {t : Tm} (ht : IsT l t) (hR : RightB l = true) {p : Int} {s s' : List Nat} (h : Open l t p s) (h' : Open l t p s') : s = s' := by
  obtain ⟨u, _, hu⟩ := m_Up ht hR (show 401 < 402 by omega)
  obtain ⟨d, _, hd⟩ := m_Deep ht hR (show 401 < 402 by omega)
  rcases h with ⟨h1, rfl⟩ | ⟨n, q, S, fs, h1, h2, rfl⟩
  · rcases h' with ⟨_, rfl⟩ | ⟨n, q, S, fs, h3, _, _⟩
    · rfl
    · omega
  · rcases h' with ⟨h3, _⟩ | ⟨n', q', S', fs', h3, h4, rfl⟩
    · omega
    · obtain rfl : n = n' := by omega
      have hq : q = q' := by
        have := h2.get.symm.trans h4.get
        simp at this; omega
      subst hq
      rw [ancs_uniq ht hu hd fs q (.leaf S) fs' q (.leaf S') h2.ctx h4.ctx rfl]
theorem endR_nest {N : Nat} {s0 : List Nat} {b : Bool} {xs : List Int} (h : b = true → nestS N s0 xs = some []) (he : (EndR (if b = true then xs else [])).2 = true) : nestS N s0 (EndR (if b = true then xs else [])).1.Steps = some [] := by
  cases b with
  | false => simp [EndR] at he
  | true =>
    simp only [if_true] at he ⊢
    unfold EndR at he ⊢
    by_cases hz : xs.length = 0
    · simp [hz] at he
    · rw [if_neg hz]; exact h rfl
/-- Behind a way just what is at its place is open. -/
theorem ways_good {l : List MTerm} (hw : ∀ x ∈ l, wfTerm x) {t : Tm} (ht : IsT l t) (hR : RightB l = true) {fuel : Nat} (hf : 1000001 < fuel) {p : Int} {s : List Nat} (ho : Open l t p s) :
    (∀ h ∈ wayL fuel l p, ∃ s', Open l t h.To s' ∧ nestS l.length s h.Steps = some s') ∧ ((endL fuel l p).2 = true → nestS l.length s (endL fuel l p).1.Steps = some []) := by
  have h400 := ht.le; have hln := ht.len; have hsp := t.size_pos
  have hgood : ∀ h, Good l t s h → ∃ s', Open l t h.To s' ∧ nestS l.length s h.Steps = some s' := by
    rintro h ⟨n, q, S, fs, h1, h2, h3⟩
    exact ⟨_, .inr ⟨n, q, S, fs, h1, h2, rfl⟩, h3⟩
  rcases ho with ⟨rfl, rfl⟩ | ⟨n, q, S, fs, rfl, hp, rfl⟩
  · have hW : W ((l.length : Int) - 1) = (t.top 0 : Int) := by rw [W_id (by omega) (by omega)]; unfold Tm.top; omega
    obtain ⟨h1, _⟩ := m_First hw ht hR hf ht.at0
    obtain ⟨h2, _⟩ := m_End_begin hw ht hR hf
    constructor
    · intro h hh
      unfold wayL at hh
      rw [if_pos (by omega), hW, h1] at hh
      exact hgood h (into_good ht t 0 [] [] ⟨rfl, rfl⟩ rfl h (by simpa using hh))
    · intro he
      unfold endL at he ⊢
      rw [h2] at he ⊢
      exact endR_nest (fun _ => t.steps_nest l.length 0 [] (by omega)) he
  · have hpl : n < leavesN l l.length := by
      have := (List.getElem?_eq_some_iff.1 hp.get).1
      rw [leavesL_len] at this; exact this
    have h1 := m_From hw ht hR hf hp hpl
    have h2 := m_End hw ht hR hf hp hpl
    have hq := (hp.ctx.at_ ht).top_lt
    simp only [Tm.top, Tm.size, Nat.add_sub_cancel] at hq
    have hc := climbF_good ht (s0 := q :: ancs q (.leaf S) fs) fs q (.leaf S) [cls q] [] hp.ctx (by simp [nestS, stepN_cls _ hq]) (by simp)
    rw [hp.num] at hc
    replace hc : (∀ h ∈ (climbP t n q S fs).1, Good l t (q :: ancs q (.leaf S) fs) h) ∧ ((climbP t n q S fs).2.2 = true → nestS l.length (q :: ancs q (.leaf S) fs) (climbP t n q S fs).2.1 = some []) := hc
    constructor
    · intro h hh
      unfold wayL at hh
      rw [if_neg (by omega), h1] at hh
      exact hgood h (hc.1 h ((sortK_perm MHop.To _).mem_iff.1 (by simpa using hh)))
    · intro he
      unfold endL at he ⊢
      rw [h2] at he ⊢
      exact endR_nest hc.2 he
theorem fold_nest {l : List MTerm} (hw : ∀ x ∈ l, wfTerm x) {t : Tm} (ht : IsT l t) (hR : RightB l = true) {fuel : Nat} (hf : 1000001 < fuel) : ∀ (run : List Int) (a b : List (List Int) × Int) (s : List Nat), Open l t a.2 s → nestS l.length [] a.1.flatten = some s →
    foldE (stepF fuel l) a run = .inl b → ∃ s', Open l t b.2 s' ∧ nestS l.length [] b.1.flatten = some s'
  | [], a, b, s, ho, hn, h => by
    simp only [foldE, Sum.inl.injEq] at h; subst h; exact ⟨s, ho, hn⟩
  | x :: xs, a, b, s, ho, hn, h => by
    simp only [foldE] at h
    cases c : wayTo (wayL fuel l a.2) x with
    | none => simp [stepF, c] at h
    | some y =>
      obtain ⟨s', h1, h2⟩ := (ways_good hw ht hR hf ho).1 y (List.mem_of_find?_eq_some c)
      have hy : y.To = x := by simpa using List.find?_some c
      refine fold_nest hw ht hR hf xs (a.1 ++ [y.Steps], x) b s' (hy ▸ h1) ?_ (by simpa [stepF, c] using h)
      simp [nestS_append, hn, h2]
/-- The frames of a run open and close as they should. -/
theorem frames_nest {l : List MTerm} (hw : ∀ x ∈ l, wfTerm x) {fuel : Nat} (hf : 1000001 < fuel) {run : List Int} {fin : Bool} (h : (FramesF fuel l run fin).2 = true) : ∃ s, nestS l.length [] (FramesF fuel l run fin).1.flatten = some s ∧ (fin = true → s = []) := by
  unfold FramesF at h ⊢
  cases hR : RightB l with
  | false => simp [hR] at h
  | true =>
    obtain ⟨t, ht⟩ := tree_of hw hR
    simp only [hR, if_true] at h ⊢
    unfold runF at h ⊢
    cases c : foldE (stepF fuel l) ([], -1) run with
    | inl b =>
      obtain ⟨fs, at_⟩ := b
      rw [c] at h
      obtain ⟨s, h1, h2⟩ := fold_nest hw ht hR hf run _ _ [] (.inl ⟨rfl, rfl⟩) rfl c
      simp only [outE] at h ⊢
      cases fin with
      | false => exact ⟨s, h2, fun h => by simp at h⟩
      | true =>
        simp only [if_true] at h ⊢
        cases ce : (endL fuel l at_).2 with
        | false => simp [ce] at h
        | true =>
          refine ⟨[], ?_, fun _ => rfl⟩
          have := (ways_good hw ht hR hf h1).2 ce
          simp only [if_true, List.flatten_append, List.flatten_cons, List.flatten_nil, List.append_nil, nestS_append] at h2 ⊢
          rw [h2]; exact this
    | inr r =>
      exfalso
      rw [c] at h
      simp only [outE, id] at h
      have : ∀ (xs : List Int) s, foldE (stepF fuel l) s xs = .inr r → r = .inr ([], false) := by
        intro xs
        induction xs with
        | nil => intro s h; simp [foldE] at h
        | cons x xs ih =>
          intro s
          simp only [foldE]
          cases hw : wayTo (wayL fuel l s.2) x with
          | some y => simpa [stepF, hw] using ih _
          | none => simp [stepF, hw]; exact fun h => h.symm
      have := this _ _ c
      subst this
      simp at h
end Go.Proofs.Ytfhehbfifffipaa
