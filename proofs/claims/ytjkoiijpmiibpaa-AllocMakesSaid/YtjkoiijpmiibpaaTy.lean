/- How the types of the program read. Its conditions: none. -/
import Derived.Test.YtjkoiijpmiibpaaMo
import Derived.Test.YtjkoiijpmiibpaaRows
set_option maxRecDepth 20000
set_option autoImplicit false
namespace Go.Proofs.Ytjkoiijpmiibpaa
open Go.V Go.RowKit
set_option linter.unusedVariables false
def tEdge : Ty MEdge where
  sz := 2
  R := fun H S cs x => ∃ (A1 : Option Addr) (c1 : Nat), cs = [.int .i64 x.To, .slice A1 x.Src.length c1] ∧ Sl (tInt .i64) H S A1 c1 x.Src
  len := by rintro _ _ _ _ ⟨_, _, rfl, _⟩; rfl
  one := by rintro _ _ _ _ ⟨_, _, rfl, _⟩ v hv; simp only [List.mem_cons, List.not_mem_nil, or_false] at hv; rcases hv with rfl | rfl <;> rfl
  keep := fun k ⟨A1, c1, h, h0⟩ => ⟨A1, c1, h, h0.keep k⟩
def tState : Ty MState where
  sz := 3
  R := fun H S cs x => ∃ (A1 : Option Addr) (c1 : Nat), ∃ (A2 : Option Addr) (c2 : Nat), cs = [.int .i64 x.Regs, .slice A1 x.Accept.length c1, .slice A2 x.Edges.length c2] ∧ Sl (tInt .i64) H S A1 c1 x.Accept ∧ Sl tEdge H S A2 c2 x.Edges
  len := by rintro _ _ _ _ ⟨_, _, _, _, rfl, _, _⟩; rfl
  one := by rintro _ _ _ _ ⟨_, _, _, _, rfl, _, _⟩ v hv; simp only [List.mem_cons, List.not_mem_nil, or_false] at hv; rcases hv with rfl | rfl | rfl <;> rfl
  keep := fun k ⟨A1, c1, A2, c2, h, h0, h1⟩ => ⟨A1, c1, A2, c2, h, h0.keep k, h1.keep k⟩
def tDfa : Ty MDfa where
  sz := 3
  R := fun H S cs x => ∃ (A1 : Option Addr) (c1 : Nat), ∃ (A2 : Option Addr) (c2 : Nat), cs = [.int .i64 x.Tags, .slice A1 x.Class.length c1, .slice A2 x.States.length c2] ∧ Sl (tInt .i64) H S A1 c1 x.Class ∧ Sl tState H S A2 c2 x.States
  len := by rintro _ _ _ _ ⟨_, _, _, _, rfl, _, _⟩; rfl
  one := by rintro _ _ _ _ ⟨_, _, _, _, rfl, _, _⟩ v hv; simp only [List.mem_cons, List.not_mem_nil, or_false] at hv; rcases hv with rfl | rfl | rfl <;> rfl
  keep := fun k ⟨A1, c1, A2, c2, h, h0, h1⟩ => ⟨A1, c1, A2, c2, h, h0.keep k, h1.keep k⟩
def tAllocMaker : Ty MAllocMaker where
  sz := 5
  R := fun H S cs x => ∃ (A1 : Option Addr) (c1 : Nat), ∃ (A2 : Option Addr) (c2 : Nat), ∃ (A3 : Option Addr) (c3 : Nat), cs = [.int .i64 x.d.Tags, .slice A1 x.d.Class.length c1, .slice A2 x.d.States.length c2, .slice A3 x.homes.length c3, .int .i64 x.many] ∧ Sl (tInt .i64) H S A1 c1 x.d.Class ∧ Sl tState H S A2 c2 x.d.States ∧ Sl (tSl (tInt .i64)) H S A3 c3 x.homes
  len := by rintro _ _ _ _ ⟨_, _, _, _, _, _, rfl, _, _, _⟩; rfl
  one := by rintro _ _ _ _ ⟨_, _, _, _, _, _, rfl, _, _, _⟩ v hv; simp only [List.mem_cons, List.not_mem_nil, or_false] at hv; rcases hv with rfl | rfl | rfl | rfl | rfl <;> rfl
  keep := fun k ⟨A1, c1, A2, c2, A3, c3, h, h0, h1, h2⟩ => ⟨A1, c1, A2, c2, A3, c3, h, h0.keep k, h1.keep k, h2.keep k⟩
def tMove : Ty MMove where
  sz := 2
  R := fun _ _ cs x => cs = [.int .i64 x.To, .int .i64 x.From]
  len := by rintro _ _ _ _ rfl; rfl
  one := by rintro _ _ _ _ rfl v hv; simp only [List.mem_cons, List.not_mem_nil, or_false] at hv; rcases hv with rfl | rfl <;> rfl
  keep := fun _ h => h
def tWay : Ty MWay where
  sz := 2
  R := fun H S cs x => ∃ (A1 : Option Addr) (c1 : Nat), cs = [.int .i64 x.To, .slice A1 x.Moves.length c1] ∧ Sl tMove H S A1 c1 x.Moves
  len := by rintro _ _ _ _ ⟨_, _, rfl, _⟩; rfl
  one := by rintro _ _ _ _ ⟨_, _, rfl, _⟩ v hv; simp only [List.mem_cons, List.not_mem_nil, or_false] at hv; rcases hv with rfl | rfl <;> rfl
  keep := fun k ⟨A1, c1, h, h0⟩ => ⟨A1, c1, h, h0.keep k⟩
def tStand : Ty MStand where
  sz := 2
  R := fun H S cs x => ∃ (A0 : Option Addr) (c0 : Nat), ∃ (A1 : Option Addr) (c1 : Nat), cs = [.slice A0 x.Accept.length c0, .slice A1 x.Ways.length c1] ∧ Sl (tInt .i64) H S A0 c0 x.Accept ∧ Sl tWay H S A1 c1 x.Ways
  len := by rintro _ _ _ _ ⟨_, _, _, _, rfl, _, _⟩; rfl
  one := by rintro _ _ _ _ ⟨_, _, _, _, rfl, _, _⟩ v hv; simp only [List.mem_cons, List.not_mem_nil, or_false] at hv; rcases hv with rfl | rfl <;> rfl
  keep := fun k ⟨A0, c0, A1, c1, h, h0, h1⟩ => ⟨A0, c0, A1, c1, h, h0.keep k, h1.keep k⟩
def tProg : Ty MProg where
  sz := 4
  R := fun H S cs x => ∃ (A2 : Option Addr) (c2 : Nat), ∃ (A3 : Option Addr) (c3 : Nat), cs = [.int .i64 x.Tags, .int .i64 x.Regs, .slice A2 x.Class.length c2, .slice A3 x.Stands.length c3] ∧ Sl (tInt .i64) H S A2 c2 x.Class ∧ Sl tStand H S A3 c3 x.Stands
  len := by rintro _ _ _ _ ⟨_, _, _, _, rfl, _, _⟩; rfl
  one := by rintro _ _ _ _ ⟨_, _, _, _, rfl, _, _⟩ v hv; simp only [List.mem_cons, List.not_mem_nil, or_false] at hv; rcases hv with rfl | rfl | rfl | rfl <;> rfl
  keep := fun k ⟨A2, c2, A3, c3, h, h0, h1⟩ => ⟨A2, c2, A3, c3, h, h0.keep k, h1.keep k⟩
def tAllocLast : Ty MAllocLast where
  sz := 2
  R := fun H S cs x => ∃ (A0 : Option Addr) (c0 : Nat), cs = [.slice A0 x.tags.length c0, .int .i64 x.to] ∧ Sl (tInt .i64) H S A0 c0 x.tags
  len := by rintro _ _ _ _ ⟨_, _, rfl, _⟩; rfl
  one := by rintro _ _ _ _ ⟨_, _, rfl, _⟩ v hv; simp only [List.mem_cons, List.not_mem_nil, or_false] at hv; rcases hv with rfl | rfl <;> rfl
  keep := fun k ⟨A0, c0, h, h0⟩ => ⟨A0, c0, h, h0.keep k⟩
def tAllocRun : Ty MAllocRun where
  sz := 10
  R := fun H S cs x => ∃ (A0 : Option Addr) (c0 : Nat), ∃ (A4 : Option Addr) (c4 : Nat), ∃ (A5 : Option Addr) (c5 : Nat), ∃ (A9 : Option Addr) (c9 : Nat), cs = [.slice A0 x.last.tags.length c0, .int .i64 x.last.to, .int .i64 x.p.Tags, .int .i64 x.p.Regs, .slice A4 x.p.Class.length c4, .slice A5 x.p.Stands.length c5, .int .i64 x.at_, .int .i64 x.stand, .int .i64 x.work, .slice A9 x.regs.length c9] ∧ Sl (tInt .i64) H S A0 c0 x.last.tags ∧ Sl (tInt .i64) H S A4 c4 x.p.Class ∧ Sl tStand H S A5 c5 x.p.Stands ∧ Sl (tInt .i64) H S A9 c9 x.regs
  len := by rintro _ _ _ _ ⟨_, _, _, _, _, _, _, _, rfl, _, _, _, _⟩; rfl
  one := by rintro _ _ _ _ ⟨_, _, _, _, _, _, _, _, rfl, _, _, _, _⟩ v hv; simp only [List.mem_cons, List.not_mem_nil, or_false] at hv; rcases hv with rfl | rfl | rfl | rfl | rfl | rfl | rfl | rfl | rfl | rfl <;> rfl
  keep := fun k ⟨A0, c0, A4, c4, A5, c5, A9, c9, h, h0, h1, h2, h3⟩ => ⟨A0, c0, A4, c4, A5, c5, A9, c9, h, h0.keep k, h1.keep k, h2.keep k, h3.keep k⟩
def tSpan : Ty MSpan where
  sz := 2
  R := fun _ _ cs x => cs = [.int .i64 x.From, .int .i64 x.To]
  len := by rintro _ _ _ _ rfl; rfl
  one := by rintro _ _ _ _ rfl v hv; simp only [List.mem_cons, List.not_mem_nil, or_false] at hv; rcases hv with rfl | rfl <;> rfl
  keep := fun _ h => h
theorem eqL51 (a0 : Int) (a1 : Int) (b0 : Int) (b1 : Int) (w : World) : (Op.equal 51 (.agg #[.int .i64 a0, .int .i64 a1]) (.agg #[.int .i64 b0, .int .i64 b1])).run Try.prog w = .ok ((a0 == b0) && (a1 == b1)) w := by
  simp [Op.equal, Op.maxDepth, go_sem]
  by_cases h0 : a0 = b0 <;> by_cases h1 : a1 = b1 <;> simp [h0, h1]
theorem eqL70 (a0 : Int) (a1 : Int) (b0 : Int) (b1 : Int) (w : World) : (Op.equal 70 (.agg #[.int .i64 a0, .int .i64 a1]) (.agg #[.int .i64 b0, .int .i64 b1])).run Try.prog w = .ok ((a0 == b0) && (a1 == b1)) w := by
  simp [Op.equal, Op.maxDepth, go_sem]
  by_cases h0 : a0 = b0 <;> by_cases h1 : a1 = b1 <;> simp [h0, h1]
end Go.Proofs.Ytjkoiijpmiibpaa
