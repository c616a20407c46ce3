/- Rules of code over frames of known slots: sequences, tests, loops by a step, returns. Its conditions: none. -/
import Derived.Test.YtjkoiijpmiibpaaVFrame
namespace Go.V

inductive Ctl (σ τ : Type) where
  | next (s : σ)
  | done (t : τ)

def iter {σ τ : Type} (step : σ → Option (Ctl σ τ)) : Nat → σ → Option τ
  | 0, _ => none
  | k + 1, s => match step s with
    | none => none
    | some (.next s') => iter step k s'
    | some (.done t) => some t

section
variable {P : Program} {n : Nat} {Q : Exit → Act → World → Prop}

theorem reg {id : Nat} {xs : List Oper} {a : Act} {w : World} (h : wpList P xs.toArray Q xs a w) : (Code.region id xs.toArray false).wp P Q a w := wp_region_lit h

theorem cond_t {c : Operand} {x y : Code} {l : FL} {a : Act} {w : World} (ha : Ag n l a) (hk : (knows l c && (lk l c matches .bool true)) = true) (h : x.wp P Q a w) : (Code.cond c x y).wp P Q a w := by
  simp only [Bool.and_eq_true] at hk
  refine wp_cond_true ?_ h
  rw [ha.eval hk.1]
  have := hk.2
  split at this <;> simp_all
theorem cond_f {c : Operand} {x y : Code} {l : FL} {a : Act} {w : World} (ha : Ag n l a) (hk : (knows l c && (lk l c matches .bool false)) = true) (h : y.wp P Q a w) : (Code.cond c x y).wp P Q a w := by
  simp only [Bool.and_eq_true] at hk
  refine wp_cond_false ?_ h
  rw [ha.eval hk.1]
  have := hk.2
  split at this <;> simp_all
theorem cond_b {t : Nat} {b : Bool} {x y : Code} {l : FL} {a : Act} {w : World} (ha : Ag n l a) (hk : look? l t = some (.bool b)) (ht : b = true → x.wp P Q a w) (hf : b = false → y.wp P Q a w) : (Code.cond (.tmp t) x y).wp P Q a w := by
  have he : a.eval (.tmp t) = .bool b := by rw [ha.eval (by simp [knows, hk])]; simp [lk, hk]
  cases b with
  | true => exact wp_cond_true he (ht rfl)
  | false => exact wp_cond_false he (hf rfl)

theorem wp_iter {σ τ : Type} {step : σ → Option (Ctl σ τ)} {body : Code} {I : σ → Act → World → Prop} {D : τ → Exit → Act → World → Prop}
    (round : ∀ s c a w, I s a w → step s = some c → body.wp P (Exit.then (fun a' w' => ∃ s', c = .next s' ∧ I s' a' w') (fun e a' w' => ∃ t, c = .done t ∧ D t e a' w')) a w) :
    ∀ (k : Nat) (s : σ) (t : τ) (a : Act) (w : World), iter step k s = some t → I s a w → (Code.loop body).wp P (D t) a w := by
  intro k s t a w hk hI b ks cs
  have key : ∀ (k : Nat) (s : σ) (a : Act) (w : World), iter step k s = some t → I s a w →
      ∃ e a' w', D t e a' w' ∧ Arrives P (lone (b.at a (.code body :: .inLoop body :: ks)) cs w) b ks cs e a' w' := by
    intro k
    induction k with
    | zero => intro s a w h _; simp [iter] at h
    | succ k ih =>
      intro s a w h hI
      unfold iter at h
      cases hs : step s with
      | none => simp [hs] at h
      | some c =>
        obtain ⟨e, a₁, w₁, hq, harr⟩ := round s c a w hI hs b (.inLoop body :: ks) cs
        cases e with
        | normal =>
          obtain ⟨s', rfl, hI'⟩ := hq
          simp only [hs] at h
          obtain ⟨e₂, a₂, w₂, hq₂, harr₂⟩ := ih s' a₁ w₁ h hI'
          exact ⟨e₂, a₂, w₂, hq₂, .of_steps (Steps.trans harr (.one step_inLoop)) harr₂⟩
        | _ =>
          obtain ⟨t', rfl, hd⟩ := hq
          simp only [hs, Option.some.injEq] at h
          subst h
          exact ⟨_, a₁, w₁, hd, .pass (x := .inLoop body) rfl (fun _ _ => .inl (by simp)) harr⟩
  obtain ⟨e, a', w', hq, harr⟩ := key k s a w hk hI
  exact ⟨e, a', w', hq, .of_steps (.one step_loop) harr⟩

theorem ret0 {fn : Func} {R : Ending → World → Prop} {a : Act} {w : World} {l : FL} {e : Exit} (ha : Ag n l a) (hf : fn.results = #[]) (he : e = .ret ∨ e = .normal)
    (h : R (.returned (.tuple #[])) w) : bodyPost P fn R e a w := by
  rcases he with rfl | rfl <;> exact ⟨ha.defers, _, results_none hf _ _ _, h⟩
def argsL (vs : List Value) : Nat → FL :=
  match vs with
  | [] => fun _ => []
  | v :: r => fun k => (k, v) :: argsL r (k + 1)
theorem look_argsL : ∀ (vs : List Value) (i k : Nat) (v : Value), look? (argsL vs i) k = some v → i ≤ k ∧ vs[k - i]? = some v
  | [], i, k, v, h => by simp [argsL, look?] at h
  | x :: r, i, k, v, h => by
    simp only [argsL, look?] at h
    by_cases e : i = k
    · subst e; simp only [if_true, Option.some.injEq] at h; subst h; simp
    · rw [if_neg e] at h
      obtain ⟨h1, h2⟩ := look_argsL r (i + 1) k v h
      refine ⟨by omega, ?_⟩
      have : k - i = (k - (i + 1)) + 1 := by omega
      rw [this]; simpa using h2

theorem enterL {f : FuncId} {fn : Func} {c : Code} {vs : List Value} {w : World} {R : Ending → World → Prop} (hf : P.funcs[f]? = some fn) (hb : fn.body = some c) (hn : (decide (vs.length ≤ fn.ntmps)) = true)
    (h : ∀ a, Ag fn.ntmps (argsL vs 0) a → c.wp P (bodyPost P fn R) a w) : Calls P f vs.toArray w R :=
  calls_of_wp hf hb (h _ ⟨by simp at hn ⊢; omega, rfl, fun k v hk => by
    obtain ⟨_, h2⟩ := look_argsL vs 0 k v hk
    simp only [Nat.sub_zero] at h2
    rw [Array.getElem?_append_left (by
      rcases Nat.lt_or_ge k vs.length with hl | hl
      · simpa using hl
      · rw [List.getElem?_eq_none hl] at h2; cases h2)]
    simpa using h2⟩)

theorem enter {f : FuncId} {fn : Func} {c : Code} {args : Array Value} {w : World} {R : Ending → World → Prop} (hf : P.funcs[f]? = some fn) (hb : fn.body = some c) {l : FL}
    (hl : ∀ k v, look? l k = some v → (args ++ Array.replicate (fn.ntmps - args.size) undef)[k]? = some v) (hn : args.size ≤ fn.ntmps)
    (h : ∀ a, Ag fn.ntmps l a → c.wp P (bodyPost P fn R) a w) : Calls P f args w R :=
  calls_of_wp hf hb (h _ ⟨by simp; omega, rfl, hl⟩)


theorem noP_body (fn : Func) (R : Value → World → Prop) : ∀ c a w, ¬ bodyPost P fn (fun e w' => ∃ v, e = .returned v ∧ R v w') (.panic c) a w := by
  rintro c a w ⟨_, v, h, _⟩; cases h
end
end Go.V
