/- How the types of the program read. Its conditions: none. -/
import Derived.Test.YtfhehbfifffipaaMo
import Derived.Test.YtfhehbfifffipaaRows
set_option maxRecDepth 20000
set_option autoImplicit false
namespace Go.Proofs.Ytfhehbfifffipaa
open Go.V Go.RowKit
set_option linter.unusedVariables false
def tTerm : Ty MTerm where
  sz := 8
  R := fun _ _ cs x => cs = [.int .i64 x.Kind, .int .i64 x.A, .int .i64 x.B, .int .i64 x.N, .int .u64 (gt x.Set 0), .int .u64 (gt x.Set 1), .int .u64 (gt x.Set 2), .int .u64 (gt x.Set 3)] ∧ x.Set.length = 4
  len := by rintro _ _ _ _ ⟨rfl, _⟩; rfl
  one := by rintro _ _ _ _ ⟨rfl, _⟩ v hv; simp only [List.mem_cons, List.not_mem_nil, or_false] at hv; rcases hv with rfl | rfl | rfl | rfl | rfl | rfl | rfl | rfl <;> rfl
  keep := fun _ h => h
theorem eqL40 (a0 : Int) (a1 : Int) (a2 : Int) (a3 : Int) (b0 : Int) (b1 : Int) (b2 : Int) (b3 : Int) (w : World) : (Op.equal 40 (.agg #[.int .u64 a0, .int .u64 a1, .int .u64 a2, .int .u64 a3]) (.agg #[.int .u64 b0, .int .u64 b1, .int .u64 b2, .int .u64 b3])).run Try.prog w = .ok ((a0 == b0) && ((a1 == b1) && ((a2 == b2) && (a3 == b3)))) w := eq_arr4 _ _ _ _ Try.underlying40 Try.underlying38 (by kernel_rfl) a0 a1 a2 a3 b0 b1 b2 b3 w
def tFollowChart : Ty MFollowChart where
  sz := 5
  R := fun H S cs x => ∃ (A0 : Option Addr) (c0 : Nat), ∃ (A1 : Option Addr) (c1 : Nat), ∃ (A2 : Option Addr) (c2 : Nat), ∃ (A3 : Option Addr) (c3 : Nat), ∃ (A4 : Option Addr) (c4 : Nat), cs = [.slice A0 x.l.length c0, .slice A1 x.up.length c1, .slice A2 x.deep.length c2, .slice A3 x.index.length c3, .slice A4 x.can.length c4] ∧ Sl tTerm H S A0 c0 x.l ∧ Sl (tInt .i64) H S A1 c1 x.up ∧ Sl (tInt .i64) H S A2 c2 x.deep ∧ Sl (tInt .i64) H S A3 c3 x.index ∧ Sl tBool H S A4 c4 x.can
  len := by rintro _ _ _ _ ⟨_, _, _, _, _, _, _, _, _, _, rfl, _, _, _, _, _⟩; rfl
  one := by rintro _ _ _ _ ⟨_, _, _, _, _, _, _, _, _, _, rfl, _, _, _, _, _⟩ v hv; simp only [List.mem_cons, List.not_mem_nil, or_false] at hv; rcases hv with rfl | rfl | rfl | rfl | rfl <;> rfl
  keep := fun k ⟨A0, c0, A1, c1, A2, c2, A3, c3, A4, c4, h, h0, h1, h2, h3, h4⟩ => ⟨A0, c0, A1, c1, A2, c2, A3, c3, A4, c4, h, h0.keep k, h1.keep k, h2.keep k, h3.keep k, h4.keep k⟩
def tHop : Ty MHop where
  sz := 3
  R := fun H S cs x => ∃ (A2 : Option Addr) (c2 : Nat), cs = [.int .i64 x.To, .int .i64 x.Turn, .slice A2 x.Steps.length c2] ∧ Sl (tInt .i64) H S A2 c2 x.Steps
  len := by rintro _ _ _ _ ⟨_, _, rfl, _⟩; rfl
  one := by rintro _ _ _ _ ⟨_, _, rfl, _⟩ v hv; simp only [List.mem_cons, List.not_mem_nil, or_false] at hv; rcases hv with rfl | rfl | rfl <;> rfl
  keep := fun k ⟨A2, c2, h, h0⟩ => ⟨A2, c2, h, h0.keep k⟩
def tEntry : Ty MEntry where
  sz := 4
  R := fun _ _ cs x => cs = [.int .i64 x.Depth, .int .i64 x.Node, .int .i64 x.From, .int .i64 x.To]
  len := by rintro _ _ _ _ rfl; rfl
  one := by rintro _ _ _ _ rfl v hv; simp only [List.mem_cons, List.not_mem_nil, or_false] at hv; rcases hv with rfl | rfl | rfl | rfl <;> rfl
  keep := fun _ h => h
def post58 (w : World) (S : Off) (r : (Int)) (v : Value) (w1 : World) : Prop := v = .int .i64 r
abbrev R58 (w : World) (S : Off) (r : (Int)) : Ending → World → Prop := fun e w1 => ∃ v, e = .returned v ∧ Below w.heap.size w w1 ∧ post58 w S r v w1
theorem eqL49 (a0 : Int) (a1 : Int) (a2 : Int) (a3 : Int) (b0 : Int) (b1 : Int) (b2 : Int) (b3 : Int) (w : World) : (Op.equal 49 (.agg #[.int .i64 a0, .int .i64 a1, .int .i64 a2, .int .i64 a3]) (.agg #[.int .i64 b0, .int .i64 b1, .int .i64 b2, .int .i64 b3])).run Try.prog w = .ok ((a0 == b0) && ((a1 == b1) && ((a2 == b2) && (a3 == b3)))) w := by
  simp [Op.equal, Op.maxDepth, go_sem]
  by_cases h0 : a0 = b0 <;> by_cases h1 : a1 = b1 <;> by_cases h2 : a2 = b2 <;> by_cases h3 : a3 = b3 <;> simp [h0, h1, h2, h3]
def tTreeGrower : Ty MTreeGrower where
  sz := 2
  R := fun H S cs x => ∃ (A0 : Option Addr) (c0 : Nat), ∃ (A1 : Option Addr) (c1 : Nat), cs = [.slice A0 x.out.length c0, .slice A1 x.open_.length c1] ∧ Sl tEntry H S A0 c0 x.out ∧ Sl (tInt .i64) H S A1 c1 x.open_
  len := by rintro _ _ _ _ ⟨_, _, _, _, rfl, _, _⟩; rfl
  one := by rintro _ _ _ _ ⟨_, _, _, _, rfl, _, _⟩ v hv; simp only [List.mem_cons, List.not_mem_nil, or_false] at hv; rcases hv with rfl | rfl <;> rfl
  keep := fun k ⟨A0, c0, A1, c1, h, h0, h1⟩ => ⟨A0, c0, A1, c1, h, h0.keep k, h1.keep k⟩
def tTraceFork : Ty MTraceFork where
  sz := 2
  R := fun _ _ cs x => cs = [.int .i64 x.frame, .int .i64 x.step]
  len := by rintro _ _ _ _ rfl; rfl
  one := by rintro _ _ _ _ rfl v hv; simp only [List.mem_cons, List.not_mem_nil, or_false] at hv; rcases hv with rfl | rfl <;> rfl
  keep := fun _ h => h
def tTraceDepth : Ty MTraceDepth where
  sz := 1
  R := fun _ _ cs x => cs = [.int .i64 x.n]
  len := by rintro _ _ _ _ rfl; rfl
  one := by rintro _ _ _ _ rfl v hv; simp only [List.mem_cons, List.not_mem_nil, or_false] at hv; rcases hv with rfl <;> rfl
  keep := fun _ h => h
def tTraceCloser : Ty MTraceCloser where
  sz := 2
  R := fun _ _ cs x => cs = [.int .i64 x.depth.n, .int .i64 x.low]
  len := by rintro _ _ _ _ rfl; rfl
  one := by rintro _ _ _ _ rfl v hv; simp only [List.mem_cons, List.not_mem_nil, or_false] at hv; rcases hv with rfl | rfl <;> rfl
  keep := fun _ h => h
def tGimletlaw18Two : Ty MGimletlaw18Two where
  sz := 2
  R := fun H S cs x => ∃ (A0 : Option Addr) (c0 : Nat), ∃ (A1 : Option Addr) (c1 : Nat), cs = [.slice A0 x.A.length c0, .slice A1 x.B.length c1] ∧ Sl (tInt .i64) H S A0 c0 x.A ∧ Sl (tInt .i64) H S A1 c1 x.B
  len := by rintro _ _ _ _ ⟨_, _, _, _, rfl, _, _⟩; rfl
  one := by rintro _ _ _ _ ⟨_, _, _, _, rfl, _, _⟩ v hv; simp only [List.mem_cons, List.not_mem_nil, or_false] at hv; rcases hv with rfl | rfl <;> rfl
  keep := fun k ⟨A0, c0, A1, c1, h, h0, h1⟩ => ⟨A0, c0, A1, c1, h, h0.keep k, h1.keep k⟩
end Go.Proofs.Ytfhehbfifffipaa
