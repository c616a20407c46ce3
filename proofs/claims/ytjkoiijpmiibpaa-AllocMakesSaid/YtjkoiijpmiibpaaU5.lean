/- Regions that draw, variables, lengths, and calls of functions that are told the older way; over all that a call holds. Its conditions: none. -/
import Derived.Test.YtjkoiijpmiibpaaU4
import Derived.Test.YtjkoiijpmiibpaaVDraw
namespace Go.V
open Go.RowKit

abbrev rK (H0 : Heap) (S0 : Off) : RP := fun H S => Keep H0 S0 H S
theorem rK_k {H0 : Heap} {S0 : Off} : RKeep (rK H0 S0) := fun _ _ _ _ k h => h.trans k
section
variable {P : Program} {Q : Exit → Act → World → Prop} {a : Act} {w w1 w2 : World} {w0 : World} {W0 S0 S : Off} {R : List RP} {O rst : List OE} {up : OE → List OE} {α : Type}
/-- Where a region began. -/
theorem HB.aK (h : HB w0 W0 S0 w S R O) : HB w0 W0 S0 w S (rK w.heap S :: R) O := h.ad rK_k (Keep.refl _ _)
theorem HB.gS (h : HB w0 W0 S0 w S R O) : ∃ S1, HB w0 W0 S0 w S1 R O := ⟨S, h⟩
theorem udr {id : Nat} {xs : List Oper} (hp : HB w0 W0 S0 w S R O) (m : Nat) (hm : P.follows .mixedOrders = true)
    (h : ∀ w1, HB w0 W0 S0 w1 S R O → wpS P xs.toArray Q (Sd m S w1) xs.toArray.size (Array.replicate xs.toArray.size false) a w1) : (Code.region id xs.toArray true).wp P Q a w :=
  dr_start m S hm fun w1 _ hb => h w1 (hp.ext hb)
/-- A variable that is laid and filled at once, and not written to. -/
theorem uv {ops : Array Oper} {n : Nat} {l : FL} {o o2 : Oper} {rest : List Oper} {T : TypeId} {y : Operand} (hp : HB w0 W0 S0 w S R O) (d : Nat) (z vs : List Value) (v : Value) (ha : Ag n l a)
    (k : ∀ b w1, Below w.heap.size w w1 → HB w0 W0 S0 w1 S (rB b T vs :: R) O → ∀ a', Ag n (putL l (some d) (vP b)) a' → wpList P ops Q rest a' w1)
    (hr : (execOp (lk l) o).run P w = .ok (.value (.pointer (some ⟨w.heap.size, 0, none⟩))) (w.alloc (.cells z.toArray T)) := by kernel_rfl)
    (hf2 : ∀ b, (gate ops (putL l (some d) (.pointer (some ⟨b, 0, none⟩))) o2 == some true && fit n (putL l (some d) (.pointer (some ⟨b, 0, none⟩))) o2) = true := by intro _; kernel_rfl) (ho2 : o2.op = .store T (.tmp d) y := by rfl) (hd2 : o2.dst = none := by rfl)
    (hy : ∀ b, lk (putL l (some d) (.pointer (some ⟨b, 0, none⟩))) y = v := by intro _; kernel_rfl) (hv : v.cells = vs.toArray := by kernel_rfl) (hl : (decide (vs.length = z.length) && vs.all (·.oneCell')) = true := by kernel_rfl) (hsz : (P.info? T).map (·.size) = some vs.length := by kernel_rfl)
    (hd : o.dst = some d := by rfl) (hf : (gate ops l o == some true && fit n l o) = true := by kernel_rfl) : wpList P ops Q (o :: o2 :: rest) a w :=
  op_var ha hp.cx hf hd hr hf2 ho2 hd2 hy hv hl hsz fun w1 b _ hb f a' ha' => k b w1 hb ((hp.ext hb).aB f) a' ha'
theorem inbn {xs : List α} {i : Int} {nn : Nat} (hl : nn = xs.length) (h : inb xs i = true) : i < nn := by rw [hl]; exact (inb_iff h).2
theorem inb_of {α β : Type} {xs : List α} {ys : List β} {i : Int} (hl : xs.length = ys.length) (h : inb ys i = true) : inb xs i = true := by have := inb_iff h; simp [inb]; omega
theorem ob_len {f : Operand → Value} {o : Oper} {nn m : Nat} (hl : nn = m) (h : (execOp f o).run P w = .ok (.value (.int .i64 nn)) w) : (execOp f o).run P w = .ok (.value (.int .i64 m)) w := hl ▸ h

/-! Functions that are told the older way. -/
theorem nS_nil {b : Nat} (h : S b) : nS S [] [] b := .inl ⟨h, fun ⟨_, h, _⟩ => by cases h⟩
theorem Back.below0 {R' : List RP} {O' : List OE} (h : Back w S [] w1 R' O') : Below w.heap.size w w1 := h.bel.nil
theorem Back.rd0 {R' : List RP} {T : Ty α} {A : Option Addr} {c : Nat} {xs : List α} (h : Back w S [] w1 R' []) (hr : rS T A c xs ∈ R') : Sl T w1.heap S A c xs := (h.ro _ hr).2.keep (Keep.less fun _ hb => nS_nil hb)
theorem Back.nil (hb : Below w.heap.size w w1) : Back w S [] w1 [] [] := ⟨⟨hb.os, hb.tape, hb.output, hb.size, fun k hk _ => hb.block k hk⟩, fun _ h => (by cases h), fun _ h => (by cases h), List.Pairwise.nil⟩
theorem adV {f : FuncId} {args : Array Value} {v0 : Value} (h : Calls P f args w fun e w1 => ∃ v, e = .returned v ∧ Below w.heap.size w w1 ∧ v = v0) : Calls P f args w (RQ w S [] (fun v R O => v = v0 ∧ R = [] ∧ O = [])) :=
  h.mono (by rintro e w1 ⟨v, rfl, hb, rfl⟩; exact ⟨_, rfl, [], [], ⟨rfl, rfl, rfl⟩, .nil hb⟩)
theorem adO {f : FuncId} {args : Array Value} {T : Ty α} {e : TypeId} {r : List α} (h : Calls P f args w fun e' w1 => ∃ v, e' = .returned v ∧ Below w.heap.size w w1 ∧ ∃ (A : Option Addr) (c : Nat), v = .slice A r.length c ∧ Ow T e (Wr nob w) w1.heap (inV v S) v r) :
    Calls P f args w (RQ w S [] (qO T e r)) :=
  h.mono (by
    rintro e' w1 ⟨v, rfl, hb, A, c, rfl, ho⟩
    refine ⟨_, rfl, [], _, ⟨A, r.length, c, rfl, rfl, rfl⟩, ⟨hb.os, hb.tape, hb.output, hb.size, fun k hk _ => hb.block k hk⟩, fun _ h => (by cases h), fun o ho2 => ?_, by simp⟩
    rw [List.mem_singleton] at ho2
    subst ho2
    refine ⟨oS_l, (oS_l (T := T) (e := e) (A := A) (n := r.length) (c := c)).keep (Keep.less fun b hb2 => ?_) (fun _ _ => rfl) ho.2, fun k hk => .inr (((ho.1 k hk).2).elim (fun h => h.elim) (fun h => h))⟩
    rcases hb2 with h | ⟨o, hm, hB⟩
    · exact .inr h.1
    · rw [List.mem_singleton] at hm; subst hm; exact .inl hB)
end
end Go.V
