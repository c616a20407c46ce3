/- Operations that change memory, over all that a call holds. Its conditions: none. -/
import Derived.Test.YtjkoiijpmiibpaaU1
import Derived.Test.YtjkoiijpmiibpaaVArr
namespace Go.V
open Go.RowKit

abbrev vL (A : Option Addr) (n c : Nat) : Value := .slice A n c
section
variable {P : Program} {ops : Array Oper} {n : Nat} {Q : Exit → Act → World → Prop} {l : FL} {a : Act} {w : World} {o : Oper} {rest : List Oper}
variable {w0 : World} {W0 S0 S : Off} {R : List RP} {O rst : List OE} {up : OE → List OE} {α : Type}

/-- A new variable of the call's own. -/
theorem un (hp : HB w0 W0 S0 w S R O) (cs : List Value) (T : TypeId) (ha : Ag n l a)
    (k : ∀ b w1, Below w.heap.size w w1 → w.heap.size = b → HB w0 W0 S0 w1 (fun k => b = k ∨ S k) R (oB b T cs :: O) → ∀ a', Ag n (putL l o.dst (vP b)) a' → wpList P ops Q rest a' w1)
    (hr : (execOp (lk l) o).run P w = .ok (.value (vP w.heap.size)) (w.alloc (.cells cs.toArray T)) := by kernel_rfl)
    (hf : (gate ops l o == some true && fit n l o) = true := by kernel_rfl) : wpList P ops Q (o :: rest) a w :=
  op_new (V := fun b => vP b) ha hf hr fun w1 b hb h1 e1 _ a' ha' => k b w1 hb e1 (hp.push (o' := oB b T cs) hb oB_l h1 (fun k hk => by have hk : b = k := hk; omega)) a' ha'
/-- .. that nobody writes to. -/
theorem ur (hp : HB w0 W0 S0 w S R O) (cs : List Value) (T : TypeId) (ha : Ag n l a)
    (k : ∀ b w1, Below w.heap.size w w1 → HB w0 W0 S0 w1 S (rB b T cs :: R) O → ∀ a', Ag n (putL l o.dst (vP b)) a' → wpList P ops Q rest a' w1)
    (hr : (execOp (lk l) o).run P w = .ok (.value (vP w.heap.size)) (w.alloc (.cells cs.toArray T)) := by kernel_rfl)
    (hf : (gate ops l o == some true && fit n l o) = true := by kernel_rfl) : wpList P ops Q (o :: rest) a w :=
  op_new (V := fun b => vP b) ha hf hr fun w1 b hb h1 e1 _ a' ha' => k b w1 hb ((hp.ext hb).aB (Bx.new hp.cx h1 e1)) a' ha'
/-- A literal slice. -/
theorem ul {T : Ty α} {e : TypeId} {xs : List α} (hp : HB w0 W0 S0 w S R O) (m : Nat) (cs : List Value) (hels : Els T w.heap S cs xs) (ha : Ag n l a) (hm : m = xs.length)
    (k : ∀ b w1, Below w.heap.size w w1 → w.heap.size = b → HB w0 W0 S0 w1 (fun k => obs (vL (some ⟨b, 0, none⟩) m m) k ∨ S k) R (oS T e (some ⟨b, 0, none⟩) m m xs :: O) → ∀ a', Ag n (putL l o.dst (vL (some ⟨b, 0, none⟩) m m)) a' → wpList P ops Q rest a' w1)
    (hr : (execOp (lk l) o).run P w = .ok (.value (vL (some ⟨w.heap.size, 0, none⟩) m m)) (w.alloc (.cells cs.toArray e)) := by kernel_rfl) (hmax : decide (m ≤ 1000000) = true := by kernel_rfl)
    (hf : (gate ops l o == some true && fit n l o) = true := by kernel_rfl) : wpList P ops Q (o :: rest) a w :=
  op_new (V := fun b => vL (some ⟨b, 0, none⟩) m m) ha hf hr fun w1 b hb h1 e1 _ a' ha' => k b w1 hb e1 (hp.push (o' := oS T e (some ⟨b, 0, none⟩) m m xs) hb oS_l (lit_ow hp.cx hb h1 e1 hm hmax hels).2 (fun k hk => by
    have hk : (vL (some ⟨b, 0, none⟩) m m).ownBlock = some k := hk
    simp [Value.ownBlock] at hk; omega)) a' ha'
/-- make([]T, m). -/
theorem um {T : Ty α} {t e : TypeId} {bytes : Nat} {z : Value} {zx : α} {x y : Operand} {k : IntKind} {m : Int} (hp : HB w0 W0 S0 w S R O) (ha : Ag n l a)
    (ho : o.op = .makeSlice t x y) (hx : lk l x = .int k m) (hy : lk l y = .int k m)
    (ht : P.underlying t = some (.slice e)) (hE : (P.info? e).map (fun i => (i.zero, i.size, i.bytes)) = some (some z, T.sz, bytes)) (hzs : (decide (z.cells.size = T.sz) && decide (0 < T.sz) && decide (0 < bytes)) = true)
    (hz : ∀ (H : Heap) (S : Off), T.R H S z.cells.toList zx) (hfit : mkOk bytes m = true)
    (k : ∀ A1 n1 c1 S1 w1, Below w.heap.size w w1 → (∀ k, obs (vL A1 n1 c1) k → w.heap.size ≤ k) → HB w0 W0 S0 w1 S1 R (oS T e A1 n1 c1 (List.replicate m.toNat zx) :: O) → ∀ a', Ag n (putL l o.dst (vL A1 n1 c1)) a' → wpList P ops Q rest a' w1)
    (hf : (gate ops l o == some true && fit n l o) = true := by kernel_rfl) : wpList P ops Q (o :: rest) a w :=
  op_make ha hp.cx hf ho hx hy ht hE hzs hz hfit fun w1 S1 A1 c1 cx hb kp hs hn ow a' ha' =>
    k A1 _ c1 _ w1 hb hn (hp.push (o' := oS T e A1 (List.replicate m.toNat zx).length c1 (List.replicate m.toNat zx)) hb oS_l (by
      refine (oS_l (T := T) (e := e) (A := A1) (n := (List.replicate m.toNat zx).length) (c := c1)).keep (Keep.less fun b hb2 => hb2.elim (fun hk => (ow.1 b hk).1) (hs b)) (fun _ _ => rfl) ow.2) hn) a' ha'
/-- A store into a field of a variable of the call's own. -/
theorem us {T : TypeId} {x y : Operand} {b : Nat} {t : TypeId} {cs : List Value} {ad : Addr} (hp : HB w0 W0 S0 w S R O) (F : Foc O (oB b t cs) up rst) (off : Nat) (v : Value) (ha : Ag n l a) (ho : o.op = .store T x y)
    (hx : lk l x = .pointer (some ad)) (hy : lk l y = v) (had : ad = ⟨b, off, none⟩)
    (k : ∀ w1, Only b w w1 → HB w0 W0 S0 w1 S R (up (oB b t (cs.set off v))) → ∀ a', Ag n (putL l o.dst undef) a' → wpList P ops Q rest a' w1)
    (hoff : (decide (off < cs.length) && v.oneCell') = true := by kernel_rfl) (hsz : (P.info? T).map (·.size) = some 1 := by kernel_rfl)
    (hf : (gate ops l o == some true && fit n l o) = true := by kernel_rfl) : wpList P ops Q (o :: rest) a w :=
  op_set1 ha hf ho hx hy (hp.at F).2.1 hoff had hsz fun w1 on h1 a' ha' => k w1 on (hp.only F on rfl oB_l h1 (fun _ h => h)) a' ha'
theorem usA {T : TypeId} {x y : Operand} {b : Nat} {t : TypeId} {cs : List Value} (hp : HB w0 W0 S0 w S R O) (F : Foc O (oB b t cs) up rst) (vs : List Value) (v : Value) (ha : Ag n l a) (ho : o.op = .store T x y)
    (hx : lk l x = .pointer (some ⟨b, 0, none⟩)) (hy : lk l y = v) (hv : v.cells = vs.toArray)
    (k : ∀ w1, Only b w w1 → HB w0 W0 S0 w1 S R (up (oB b t vs)) → ∀ a', Ag n (putL l o.dst undef) a' → wpList P ops Q rest a' w1)
    (hl : (decide (vs.length = cs.length) && vs.all (·.oneCell')) = true := by kernel_rfl) (hsz : (P.info? T).map (·.size) = some vs.length := by kernel_rfl)
    (hf : (gate ops l o == some true && fit n l o) = true := by kernel_rfl) : wpList P ops Q (o :: rest) a w :=
  op_setAll ha hf ho hx hy hv (hp.at F).2.1 hl hsz fun w1 on _ h1 a' ha' => k w1 on (hp.only F on rfl oB_l h1 (fun _ h => h)) a' ha'
/-- A store into one cell of an element of an own slice. -/
theorem ue [Inhabited α] {T : Ty α} {t e : TypeId} {nn c b off : Nat} {i : Int} {x y : Operand} {ad : Addr} {xs : List α} (hp : HB w0 W0 S0 w S R O) (F : Foc O (oS T e (some ⟨b, off, none⟩) nn c xs) up rst) (f : Nat) (x' : α) (v : Value) (ha : Ag n l a)
    (ho : o.op = .store t x y) (hx : lk l x = .pointer (some ad)) (hy : lk l y = v) (hi : inb xs i = true) (had : ad = ⟨b, off + i.toNat * T.sz + f, none⟩)
    (hr : ∀ (H' : Heap) ecs, Keep w.heap S H' S → T.R w.heap S ecs (gt xs i) → T.R H' S (ecs.set f v) x')
    (k : ∀ w1, Only b w w1 → HB w0 W0 S0 w1 S R (up (oS T e (some ⟨b, off, none⟩) nn c (xs.set i.toNat x'))) → ∀ a', Ag n (putL l o.dst undef) a' → wpList P ops Q rest a' w1)
    (hf1 : (decide (f < T.sz) && v.oneCell') = true := by kernel_rfl) (hsz : (P.info? t).map (·.size) = some 1 := by kernel_rfl)
    (hf : (gate ops l o == some true && fit n l o) = true := by kernel_rfl) : wpList P ops Q (o :: rest) a w := by
  have ho0 := hp.oS F
  have hb : off = 0 := by
    obtain ⟨_, cs, ⟨_, h1⟩, _⟩ := ho0
    rcases h1 with ⟨hv, _⟩ | ⟨g, cap, cur, hv, _⟩
    · cases hv
    · simp at hv; exact hv.1.2
  exact op_setEl ha hp.cx hf ho hx hy (fun _ h => h) ho0 hi hf1 had hsz hr fun w1 _ on _ ow a' ha' => k w1 on (hp.only F on (by show (Value.slice _ _ _).ownBlock = some b; rw [hb]; rfl) oS_l ow.2 (fun _ h => h)) a' ha'
/-- append onto an own slice. -/
theorem ua {T : Ty α} {t e : TypeId} {bytes : Nat} {z : Value} {x y : Operand} {A B : Option Addr} {nn m c d : Nat} {xs ys : List α} (hp : HB w0 W0 S0 w S R O) (F : Foc O (oS T e A nn c xs) up rst) (ha : Ag n l a)
    (ho : o.op = .call { callee := .builtin .append, args := #[x, y], argTypes := #[t, t] }) (hx : lk l x = vL A nn c) (hy : lk l y = vL B m d) (hm : m = ys.length)
    (ht : P.underlying t = some (.slice e)) (hE : (P.info? e).map (fun i => (i.zero, i.size, i.bytes)) = some (some z, T.sz, bytes)) (hzs : (decide (z.cells.size = T.sz) && decide (0 < T.sz) && decide (0 < bytes)) = true)
    (hys : Rdb T w.heap S B ys) (hfit : apOk bytes xs ys = true)
    (k : ∀ A1 n1 c1 S1 w1, (∀ k, k < w.heap.size → ¬ obs (vL A nn c) k → w1.heap[k]? = w.heap[k]?) → (∀ k, obs (vL A1 n1 c1) k → obs (vL A nn c) k ∨ w.heap.size ≤ k) → HB w0 W0 S0 w1 S1 R (up (oS T e A1 n1 c1 (xs ++ ys))) → ∀ a', Ag n (putL l o.dst (vL A1 n1 c1)) a' → wpList P ops Q rest a' w1)
    (hf : (gate ops l o == some true && fit n l o) = true := by kernel_rfl) : wpList P ops Q (o :: rest) a w := by
  subst hm
  exact op_append ha hp.cx hf ho hx hy ht hE hzs (fun _ h => h) (hp.oS F) hys hfit fun w1 S1 A1 c1 cx kp hs hb hn ow a' ha' =>
    k A1 _ c1 S1 w1 hb hn (hp.put F cx kp hs hb oS_l ow.2 (fun k hk => ⟨(ow.1 k hk).1, fun h0 => (hn k hk).elim (fun h => ((hp.at F).2.2 k h).2.1 h0) (fun h => by have := hp.cx.lt0 k h0; have := hp.cx.size; omega), (ow.1 k hk).2⟩) hn) a' ha'
/-! Maps. -/
/-! Calls. -/
def bl (O : List OE) : Off := fun k => ∃ o ∈ O, o.B k
def mi (S : Off) (O : List OE) : Off := fun k => S k ∧ ¬ bl O k
def nS (S : Off) (O O' : List OE) : Off := fun k => mi S O k ∨ bl O' k
/-- Own things that are handed over. -/
structure OQ (w : World) (S : Off) (O : List OE) : Prop where
  ow : ∀ o ∈ O, OLaw o ∧ o.ok w.heap S ∧ ∀ k, o.B k → S k
  dj : O.Pairwise fun a b => ∀ k, a.B k → ¬ b.B k
/-- What comes back. -/
structure Back (w : World) (S : Off) (O : List OE) (w1 : World) (R' : List RP) (O' : List OE) : Prop where
  bel : BelW (bl O) w w1
  ro : ∀ r ∈ R', RKeep r ∧ r w1.heap (nS S O O')
  ow : ∀ o ∈ O', OLaw o ∧ o.ok w1.heap (nS S O O') ∧ ∀ k, o.B k → bl O k ∨ w.heap.size ≤ k
  dj : O'.Pairwise fun a b => ∀ k, a.B k → ¬ b.B k
abbrev QP := Value → List RP → List OE → Prop
def RQ (w : World) (S : Off) (O : List OE) (q : QP) : Ending → World → Prop := fun e w1 => ∃ v, e = .returned v ∧ ∃ R' O', q v R' O' ∧ Back w S O w1 R' O'
def qO (T : Ty α) (e : TypeId) (r : List α) : QP := fun v R O => ∃ A n c, v = vL A n c ∧ R = [] ∧ O = [oS T e A n c r]
theorem OQ.nil : OQ w S [] := ⟨fun _ h => (by cases h), List.Pairwise.nil⟩
theorem OQ.st {O : List OE} (h : OQ w S O) (hS : ∀ b, S b → b < w.heap.size) : HB w (bl O) (mi S O) w S [] O :=
  ⟨⟨BelW.refl _ _, fun _ h => h.1, hS, fun b h => hS b h.1⟩, fun _ h => (by cases h), fun o ho => ⟨(h.ow o ho).1, (h.ow o ho).2.1, fun k hk => ⟨(h.ow o ho).2.2 k hk, fun hm => hm.2 ⟨o, ho, hk⟩, .inl ⟨o, ho, hk⟩⟩⟩, h.dj⟩
theorem HB.back {w1 : World} {S1 : Off} {Oh : List OE} (hp : HB w (bl Oh) (mi S Oh) w1 S1 R O) : Back w S Oh w1 R O := by
  have hk : Keep w1.heap S1 w1.heap (nS S Oh O) := Keep.less fun b hb => hb.elim (hp.cx.sub b) (fun ⟨o, ho, hB⟩ => ((hp.ow o ho).2.2 b hB).1)
  exact ⟨hp.cx.bel, fun r hr => ⟨(hp.ro r hr).1, (hp.ro r hr).1 hk (hp.ro r hr).2⟩, fun o ho => ⟨(hp.ow o ho).1, (hp.ow o ho).1.keep hk (fun _ _ => rfl) (hp.ow o ho).2.1, fun k hB => ((hp.ow o ho).2.2 k hB).2.2⟩, hp.dj⟩
/-- Some of the own things, and the others. -/
structure Sel (O Oh Or : List OE) : Prop where
  pm : O.Perm (Oh ++ Or)
theorem Sel.nil : Sel O [] O := ⟨List.Perm.refl _⟩
theorem Sel.f {x : OE} {Oh Or : List OE} (F : Foc O x up rst) (s : Sel rst Oh Or) : Sel O (x :: Oh) Or := by
  obtain ⟨p, q, rfl, rfl, _⟩ := F.ex
  exact ⟨List.perm_middle.trans (s.pm.cons x)⟩
theorem Sel.dj {Oh Or : List OE} (s : Sel O Oh Or) (h : O.Pairwise fun a b => ∀ k, a.B k → ¬ b.B k) : (Oh ++ Or).Pairwise fun a b => ∀ k, a.B k → ¬ b.B k :=
  (s.pm.pairwise_iff (fun h k hk hk' => h k hk' hk)).1 h
theorem HB.come {w1 : World} {Oh Or : List OE} {R' : List RP} {O' : List OE} (hp : HB w0 W0 S0 w S R O) (s : Sel O Oh Or) (hb : Back w S Oh w1 R' O') : HB w0 W0 S0 w1 (nS S Oh O') (R' ++ R) (O' ++ Or) := by
  have hd := s.dj hp.dj
  rw [List.pairwise_append] at hd
  have hin : ∀ o ∈ Oh, o ∈ O := fun o ho => s.pm.mem_iff.2 (by simp [ho])
  have hir : ∀ o ∈ Or, o ∈ O := fun o ho => s.pm.mem_iff.2 (by simp [ho])
  have hbl : ∀ k, bl Oh k → S k ∧ ¬ S0 k ∧ Wr W0 w0 k := fun k ⟨o, ho, hk⟩ => (hp.ow o (hin o ho)).2.2 k hk
  have hnew : ∀ o ∈ O', ∀ k, o.B k → bl Oh k ∨ w.heap.size ≤ k := fun o ho k hk => (hb.ow o ho).2.2 k hk
  have hS : ∀ k, nS S Oh O' k → S k ∨ w.heap.size ≤ k := fun k hk => hk.elim (fun h => .inl h.1) (fun ⟨o, ho, hB⟩ => (hnew o ho k hB).elim (fun h => .inl (hbl k h).1) .inr)
  have hk : Keep w.heap S w1.heap (nS S Oh O') := ⟨hb.bel.size, fun b hlt hn => ⟨fun h => (hS b h).elim hn (fun h => by omega), hb.bel.block b hlt (fun h => hn (hbl b h).1)⟩⟩
  refine ⟨⟨⟨hb.bel.os.trans hp.cx.bel.os, hb.bel.tape.trans hp.cx.bel.tape, hb.bel.output.trans hp.cx.bel.output, Nat.le_trans hp.cx.bel.size hb.bel.size, fun k hlt hn => ?_⟩, fun b h0 => .inl ⟨hp.cx.sub b h0, fun h => (hbl b h).2.1 h0⟩, fun b hb2 => ?_, hp.cx.lt0⟩, fun r hr => ?_, fun o ho => ?_, ?_⟩
  · refine (hb.bel.block k (by have := hp.cx.size; omega) (fun h => ?_)).trans (hp.cx.bel.block k hlt hn)
    rcases (hbl k h).2.2 with h2 | h2
    · exact hn h2
    · omega
  · rcases hb2 with h | ⟨o, ho, hB⟩
    · exact Nat.lt_of_lt_of_le (hp.cx.lt b h.1) hb.bel.size
    · exact (hb.ow o ho).1.live (hb.ow o ho).2.1 b hB
  · rcases List.mem_append.1 hr with hr | hr
    · exact hb.ro r hr
    · exact ⟨(hp.ro r hr).1, (hp.ro r hr).1 hk (hp.ro r hr).2⟩
  · rcases List.mem_append.1 ho with ho | ho
    · refine ⟨(hb.ow o ho).1, (hb.ow o ho).2.1, fun k hB => ⟨.inr ⟨o, ho, hB⟩, ?_⟩⟩
      rcases hnew o ho k hB with h | h
      · exact (hbl k h).2
      · exact ⟨fun h0 => by have := hp.cx.lt0 k h0; have := hp.cx.size; omega, .inr (by have := hp.cx.size; omega)⟩
    · obtain ⟨l1, l2, l3⟩ := hp.ow o (hir o ho)
      have hno : ∀ k, o.B k → ¬ bl Oh k := fun k hB ⟨x, hx, hxB⟩ => hd.2.2 x hx o ho k hxB hB
      exact ⟨l1, l1.keep hk (fun k hB => hb.bel.block k (l1.live l2 k hB) (hno k hB)) l2, fun k hB => ⟨.inl ⟨(l3 k hB).1, hno k hB⟩, (l3 k hB).2⟩⟩
  · refine List.pairwise_append.2 ⟨hb.dj, hd.2.1, fun x hx y hy k hxB hyB => ?_⟩
    rcases hnew x hx k hxB with ⟨z, hz, hzB⟩ | h
    · exact hd.2.2 z hz y hy k hzB hyB
    · have := (hp.ow y (hir y hy)).1.live (hp.ow y (hir y hy)).2.1 k hyB; omega
/-- A call. -/
theorem ucall {f : FuncId} {args : Array Value} {Oh Or : List OE} {q : QP} (hp : HB w0 W0 S0 w S R O) (s : Sel O Oh Or) (ha : Ag n l a) (hc : Calls P f args w (RQ w S Oh q))
    (k : ∀ v R' O' w1, BelW (bl Oh) w w1 → q v R' O' → HB w0 W0 S0 w1 (nS S Oh O') (R' ++ R) (O' ++ Or) → ∀ a', Ag n (putL l o.dst v) a' → wpList P ops Q rest a' w1)
    (hr : (execOp (lk l) o).run P w = .ok (.enter f args) w := by kernel_rfl)
    (hf : (gate ops l o == some true && fit n l o) = true := by kernel_rfl) : wpList P ops Q (o :: rest) a w := by
  refine op_call ha hf hr hc ?_
  rintro v w1 ⟨R', O', hq, hb⟩ a' ha'
  exact k v R' O' w1 hb.bel hq (hp.come s hb) a' ha'
end
end Go.V
