/- How the types of the program read. Its conditions: none. -/
import Derived.Test.YtjkoiijpmiibpaaGreatMo
import Derived.Test.YtjkoiijpmiibpaaGreatRows
set_option maxRecDepth 20000
set_option autoImplicit false
namespace Go.Proofs.YtjkoiijpmiibpaaGreat
open Go.V Go.RowKit
set_option linter.unusedVariables false
def tMove : Ty MMove where
  sz := 2
  R := fun _ _ cs x => cs = [.int .i64 x.To, .int .i64 x.From]
  len := by rintro _ _ _ _ rfl; rfl
  one := by rintro _ _ _ _ rfl v hv; simp only [List.mem_cons, List.not_mem_nil, or_false] at hv; rcases hv with rfl | rfl <;> rfl
  keep := fun _ h => h
def tWay : Ty MWay where
  sz := 2
  R := fun H S cs x => ∃ (A1 : Option Addr) (c1 : Nat), cs = [.int .i64 x.To, .slice A1 x.Moves.length c1] ∧ Sl tMove H S A1 c1 x.Moves
  len := by rintro _ _ _ _ ⟨_, _, rfl, _⟩; rfl
  one := by rintro _ _ _ _ ⟨_, _, rfl, _⟩ v hv; simp only [List.mem_cons, List.not_mem_nil, or_false] at hv; rcases hv with rfl | rfl <;> rfl
  keep := fun k ⟨A1, c1, h, h0⟩ => ⟨A1, c1, h, h0.keep k⟩
def tStand : Ty MStand where
  sz := 2
  R := fun H S cs x => ∃ (A0 : Option Addr) (c0 : Nat), ∃ (A1 : Option Addr) (c1 : Nat), cs = [.slice A0 x.Accept.length c0, .slice A1 x.Ways.length c1] ∧ Sl (tInt .i64) H S A0 c0 x.Accept ∧ Sl tWay H S A1 c1 x.Ways
  len := by rintro _ _ _ _ ⟨_, _, _, _, rfl, _, _⟩; rfl
  one := by rintro _ _ _ _ ⟨_, _, _, _, rfl, _, _⟩ v hv; simp only [List.mem_cons, List.not_mem_nil, or_false] at hv; rcases hv with rfl | rfl <;> rfl
  keep := fun k ⟨A0, c0, A1, c1, h, h0, h1⟩ => ⟨A0, c0, A1, c1, h, h0.keep k, h1.keep k⟩
def tProg : Ty MProg where
  sz := 4
  R := fun H S cs x => ∃ (A2 : Option Addr) (c2 : Nat), ∃ (A3 : Option Addr) (c3 : Nat), cs = [.int .i64 x.Tags, .int .i64 x.Regs, .slice A2 x.Class.length c2, .slice A3 x.Stands.length c3] ∧ Sl (tInt .i64) H S A2 c2 x.Class ∧ Sl tStand H S A3 c3 x.Stands
  len := by rintro _ _ _ _ ⟨_, _, _, _, rfl, _, _⟩; rfl
  one := by rintro _ _ _ _ ⟨_, _, _, _, rfl, _, _⟩ v hv; simp only [List.mem_cons, List.not_mem_nil, or_false] at hv; rcases hv with rfl | rfl | rfl | rfl <;> rfl
  keep := fun k ⟨A2, c2, A3, c3, h, h0, h1⟩ => ⟨A2, c2, A3, c3, h, h0.keep k, h1.keep k⟩
theorem eqL97 (a0 : Int) (a1 : Int) (b0 : Int) (b1 : Int) (w : World) : (Op.equal 97 (.agg #[.int .i64 a0, .int .i64 a1]) (.agg #[.int .i64 b0, .int .i64 b1])).run Tryz.prog w = .ok ((a0 == b0) && (a1 == b1)) w := by
  simp [Op.equal, Op.maxDepth, go_sem]
  by_cases h0 : a0 = b0 <;> by_cases h1 : a1 = b1 <;> simp [h0, h1]
def tAllocLast : Ty MAllocLast where
  sz := 2
  R := fun H S cs x => ∃ (A0 : Option Addr) (c0 : Nat), cs = [.slice A0 x.tags.length c0, .int .i64 x.to] ∧ Sl (tInt .i64) H S A0 c0 x.tags
  len := by rintro _ _ _ _ ⟨_, _, rfl, _⟩; rfl
  one := by rintro _ _ _ _ ⟨_, _, rfl, _⟩ v hv; simp only [List.mem_cons, List.not_mem_nil, or_false] at hv; rcases hv with rfl | rfl <;> rfl
  keep := fun k ⟨A0, c0, h, h0⟩ => ⟨A0, c0, h, h0.keep k⟩
def tAllocRun : Ty MAllocRun where
  sz := 10
  R := fun H S cs x => ∃ (A0 : Option Addr) (c0 : Nat), ∃ (A4 : Option Addr) (c4 : Nat), ∃ (A5 : Option Addr) (c5 : Nat), ∃ (A9 : Option Addr) (c9 : Nat), cs = [.slice A0 x.last.tags.length c0, .int .i64 x.last.to, .int .i64 x.p.Tags, .int .i64 x.p.Regs, .slice A4 x.p.Class.length c4, .slice A5 x.p.Stands.length c5, .int .i64 x.at_, .int .i64 x.stand, .int .i64 x.work, .slice A9 x.regs.length c9] ∧ Sl (tInt .i64) H S A0 c0 x.last.tags ∧ Sl (tInt .i64) H S A4 c4 x.p.Class ∧ Sl tStand H S A5 c5 x.p.Stands ∧ Sl (tInt .i64) H S A9 c9 x.regs
  len := by rintro _ _ _ _ ⟨_, _, _, _, _, _, _, _, rfl, _, _, _, _⟩; rfl
  one := by rintro _ _ _ _ ⟨_, _, _, _, _, _, _, _, rfl, _, _, _, _⟩ v hv; simp only [List.mem_cons, List.not_mem_nil, or_false] at hv; rcases hv with rfl | rfl | rfl | rfl | rfl | rfl | rfl | rfl | rfl | rfl <;> rfl
  keep := fun k ⟨A0, c0, A4, c4, A5, c5, A9, c9, h, h0, h1, h2, h3⟩ => ⟨A0, c0, A4, c4, A5, c5, A9, c9, h, h0.keep k, h1.keep k, h2.keep k, h3.keep k⟩
def tSpan : Ty MSpan where
  sz := 2
  R := fun _ _ cs x => cs = [.int .i64 x.From, .int .i64 x.To]
  len := by rintro _ _ _ _ rfl; rfl
  one := by rintro _ _ _ _ rfl v hv; simp only [List.mem_cons, List.not_mem_nil, or_false] at hv; rcases hv with rfl | rfl <;> rfl
  keep := fun _ h => h
theorem eqL80 (a0 : Int) (a1 : Int) (b0 : Int) (b1 : Int) (w : World) : (Op.equal 80 (.agg #[.int .i64 a0, .int .i64 a1]) (.agg #[.int .i64 b0, .int .i64 b1])).run Tryz.prog w = .ok ((a0 == b0) && (a1 == b1)) w := by
  simp [Op.equal, Op.maxDepth, go_sem]
  by_cases h0 : a0 = b0 <;> by_cases h1 : a1 = b1 <;> simp [h0, h1]
def tEdge : Ty MEdge where
  sz := 2
  R := fun H S cs x => ∃ (A1 : Option Addr) (c1 : Nat), cs = [.int .i64 x.To, .slice A1 x.Src.length c1] ∧ Sl (tInt .i64) H S A1 c1 x.Src
  len := by rintro _ _ _ _ ⟨_, _, rfl, _⟩; rfl
  one := by rintro _ _ _ _ ⟨_, _, rfl, _⟩ v hv; simp only [List.mem_cons, List.not_mem_nil, or_false] at hv; rcases hv with rfl | rfl <;> rfl
  keep := fun k ⟨A1, c1, h, h0⟩ => ⟨A1, c1, h, h0.keep k⟩
def tState : Ty MState where
  sz := 3
  R := fun H S cs x => ∃ (A1 : Option Addr) (c1 : Nat), ∃ (A2 : Option Addr) (c2 : Nat), cs = [.int .i64 x.Regs, .slice A1 x.Accept.length c1, .slice A2 x.Edges.length c2] ∧ Sl (tInt .i64) H S A1 c1 x.Accept ∧ Sl tEdge H S A2 c2 x.Edges
  len := by rintro _ _ _ _ ⟨_, _, _, _, rfl, _, _⟩; rfl
  one := by rintro _ _ _ _ ⟨_, _, _, _, rfl, _, _⟩ v hv; simp only [List.mem_cons, List.not_mem_nil, or_false] at hv; rcases hv with rfl | rfl | rfl <;> rfl
  keep := fun k ⟨A1, c1, A2, c2, h, h0, h1⟩ => ⟨A1, c1, A2, c2, h, h0.keep k, h1.keep k⟩
def tDfa : Ty MDfa where
  sz := 3
  R := fun H S cs x => ∃ (A1 : Option Addr) (c1 : Nat), ∃ (A2 : Option Addr) (c2 : Nat), cs = [.int .i64 x.Tags, .slice A1 x.Class.length c1, .slice A2 x.States.length c2] ∧ Sl (tInt .i64) H S A1 c1 x.Class ∧ Sl tState H S A2 c2 x.States
  len := by rintro _ _ _ _ ⟨_, _, _, _, rfl, _, _⟩; rfl
  one := by rintro _ _ _ _ ⟨_, _, _, _, rfl, _, _⟩ v hv; simp only [List.mem_cons, List.not_mem_nil, or_false] at hv; rcases hv with rfl | rfl | rfl <;> rfl
  keep := fun k ⟨A1, c1, A2, c2, h, h0, h1⟩ => ⟨A1, c1, A2, c2, h, h0.keep k, h1.keep k⟩
def tAllocMaker : Ty MAllocMaker where
  sz := 5
  R := fun H S cs x => ∃ (A1 : Option Addr) (c1 : Nat), ∃ (A2 : Option Addr) (c2 : Nat), ∃ (A3 : Option Addr) (c3 : Nat), cs = [.int .i64 x.d.Tags, .slice A1 x.d.Class.length c1, .slice A2 x.d.States.length c2, .slice A3 x.homes.length c3, .int .i64 x.many] ∧ Sl (tInt .i64) H S A1 c1 x.d.Class ∧ Sl tState H S A2 c2 x.d.States ∧ Sl (tSl (tInt .i64)) H S A3 c3 x.homes
  len := by rintro _ _ _ _ ⟨_, _, _, _, _, _, rfl, _, _, _⟩; rfl
  one := by rintro _ _ _ _ ⟨_, _, _, _, _, _, rfl, _, _, _⟩ v hv; simp only [List.mem_cons, List.not_mem_nil, or_false] at hv; rcases hv with rfl | rfl | rfl | rfl | rfl <;> rfl
  keep := fun k ⟨A1, c1, A2, c2, A3, c3, h, h0, h1, h2⟩ => ⟨A1, c1, A2, c2, A3, c3, h, h0.keep k, h1.keep k, h2.keep k⟩
def tGimletref28Run : Ty MGimletref28Run where
  sz := 11
  R := fun H S cs x => ∃ (A2 : Option Addr) (c2 : Nat), ∃ (A3 : Option Addr) (c3 : Nat), ∃ (A6 : Option Addr) (c6 : Nat), ∃ (A7 : Option Addr) (c7 : Nat), cs = [.int .i64 x.P.Tags, .int .i64 x.P.Regs, .slice A2 x.P.Class.length c2, .slice A3 x.P.Stands.length c3, .int .i64 x.At, .int .i64 x.Stand, .slice A6 x.Regs.length c6, .slice A7 x.Tags.length c7, .int .i64 x.To, .bool x.Is, .int .i64 x.Work] ∧ Sl (tInt .i64) H S A2 c2 x.P.Class ∧ Sl tStand H S A3 c3 x.P.Stands ∧ Sl (tInt .i64) H S A6 c6 x.Regs ∧ Sl (tInt .i64) H S A7 c7 x.Tags
  len := by rintro _ _ _ _ ⟨_, _, _, _, _, _, _, _, rfl, _, _, _, _⟩; rfl
  one := by rintro _ _ _ _ ⟨_, _, _, _, _, _, _, _, rfl, _, _, _, _⟩ v hv; simp only [List.mem_cons, List.not_mem_nil, or_false] at hv; rcases hv with rfl | rfl | rfl | rfl | rfl | rfl | rfl | rfl | rfl | rfl | rfl <;> rfl
  keep := fun k ⟨A2, c2, A3, c3, A6, c6, A7, c7, h, h0, h1, h2, h3⟩ => ⟨A2, c2, A3, c3, A6, c6, A7, c7, h, h0.keep k, h1.keep k, h2.keep k, h3.keep k⟩
def tDriveLast : Ty MDriveLast where
  sz := 2
  R := fun H S cs x => ∃ (A0 : Option Addr) (c0 : Nat), cs = [.slice A0 x.tags.length c0, .int .i64 x.to] ∧ Sl (tInt .i64) H S A0 c0 x.tags
  len := by rintro _ _ _ _ ⟨_, _, rfl, _⟩; rfl
  one := by rintro _ _ _ _ ⟨_, _, rfl, _⟩ v hv; simp only [List.mem_cons, List.not_mem_nil, or_false] at hv; rcases hv with rfl | rfl <;> rfl
  keep := fun k ⟨A0, c0, h, h0⟩ => ⟨A0, c0, h, h0.keep k⟩
def tDriveCar : Ty MDriveCar where
  sz := 9
  R := fun H S cs x => ∃ (A0 : Option Addr) (c0 : Nat), ∃ (A3 : Option Addr) (c3 : Nat), ∃ (A4 : Option Addr) (c4 : Nat), ∃ (A8 : Option Addr) (c8 : Nat), cs = [.slice A0 x.last.tags.length c0, .int .i64 x.last.to, .int .i64 x.d.Tags, .slice A3 x.d.Class.length c3, .slice A4 x.d.States.length c4, .int .i64 x.at_, .int .i64 x.state, .int .i64 x.work, .slice A8 x.regs.length c8] ∧ Sl (tInt .i64) H S A0 c0 x.last.tags ∧ Sl (tInt .i64) H S A3 c3 x.d.Class ∧ Sl tState H S A4 c4 x.d.States ∧ Sl (tInt .i64) H S A8 c8 x.regs
  len := by rintro _ _ _ _ ⟨_, _, _, _, _, _, _, _, rfl, _, _, _, _⟩; rfl
  one := by rintro _ _ _ _ ⟨_, _, _, _, _, _, _, _, rfl, _, _, _, _⟩ v hv; simp only [List.mem_cons, List.not_mem_nil, or_false] at hv; rcases hv with rfl | rfl | rfl | rfl | rfl | rfl | rfl | rfl | rfl <;> rfl
  keep := fun k ⟨A0, c0, A3, c3, A4, c4, A8, c8, h, h0, h1, h2, h3⟩ => ⟨A0, c0, A3, c3, A4, c4, A8, c8, h, h0.keep k, h1.keep k, h2.keep k, h3.keep k⟩
def tGimletref25Car : Ty MGimletref25Car where
  sz := 10
  R := fun H S cs x => ∃ (A1 : Option Addr) (c1 : Nat), ∃ (A2 : Option Addr) (c2 : Nat), ∃ (A5 : Option Addr) (c5 : Nat), ∃ (A6 : Option Addr) (c6 : Nat), cs = [.int .i64 x.D.Tags, .slice A1 x.D.Class.length c1, .slice A2 x.D.States.length c2, .int .i64 x.At, .int .i64 x.State, .slice A5 x.Regs.length c5, .slice A6 x.Tags.length c6, .int .i64 x.To, .bool x.Is, .int .i64 x.Work] ∧ Sl (tInt .i64) H S A1 c1 x.D.Class ∧ Sl tState H S A2 c2 x.D.States ∧ Sl (tInt .i64) H S A5 c5 x.Regs ∧ Sl (tInt .i64) H S A6 c6 x.Tags
  len := by rintro _ _ _ _ ⟨_, _, _, _, _, _, _, _, rfl, _, _, _, _⟩; rfl
  one := by rintro _ _ _ _ ⟨_, _, _, _, _, _, _, _, rfl, _, _, _, _⟩ v hv; simp only [List.mem_cons, List.not_mem_nil, or_false] at hv; rcases hv with rfl | rfl | rfl | rfl | rfl | rfl | rfl | rfl | rfl | rfl <;> rfl
  keep := fun k ⟨A1, c1, A2, c2, A5, c5, A6, c6, h, h0, h1, h2, h3⟩ => ⟨A1, c1, A2, c2, A5, c5, A6, c6, h, h0.keep k, h1.keep k, h2.keep k, h3.keep k⟩
end Go.Proofs.YtjkoiijpmiibpaaGreat
