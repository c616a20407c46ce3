/-
  DERIVED: THE SHELF's CONTRACTS AT THIS DUMP, IN PLAIN WORDS (tools/lay-plain.mjs out of 'YtfhehbfifffipaaShelf.lean', which tools/lay-shelf.mjs wrote): THE SAME DECLARATIONS UNDER THE SAME NAMES: 'import', 'namespace', 'open', 'def', 'theorem' AND NOTHING ELSE: no command of the shelf's: FOR A HAND-IN. Each laying: the table of numbers ('.._ren') and one theorem, a field a fact of the dump's own or the kernel's comparison; each contract: ONE APPLICATION.
-/
import Derived.Shelf.SlSortCmp.NoneTotal
import Derived.Ground.SlsfProg
import Derived.Test.YtfhehbfifffipaaProg
import Derived.Test.YtfhehbfifffipaaVSort
namespace Go.Proofs
open Go.Shelf
def Try.srtL_ren : Go.Shelf.Ren := ⟨fun | 6 => 56 | 15 => 90 | 14 => 89 | 28 => 108 | 29 => 109 | 20 => 100 | 21 => 101 | 22 => 102 | 23 => 103 | 24 => 104 | 25 => 105 | 26 => 106 | 27 => 107 | 46 => 114 | 47 => 115 | 48 => 116 | 49 => 117 | 50 => 118 | 57 => 119 | n => n, fun | 22 => 31 | 24 => 27 | 25 => 87 | 3 => 3 | 39 => 119 | 0 => 0 | 53 => 143 | 55 => 38 | 4 => 4 | 46 => 136 | 45 => 135 | 50 => 140 | 5 => 5 | 9 => 9 | 66 => 150 | 70 => 154 | 76 => 157 | 77 => 131 | n => n, fun | n => n⟩
theorem Try.srtL : Go.Proofs.SlLaysF0.n6 Try.prog Try.srtL_ren := {
  mixed := by kernel_rfl
  f6 := ⟨Try.f56.name, by decide, Try.func56.trans (congrArg some (by kernel_rfl))⟩
  f14 := ⟨Try.f89.name, by decide, Try.func89.trans (congrArg some (by kernel_rfl))⟩
  f15 := Try.func90.trans (congrArg some (by kernel_rfl))
  f20 := ⟨Try.f100.name, by decide, Try.func100.trans (congrArg some (by kernel_rfl))⟩
  f21 := ⟨Try.f101.name, by decide, Try.func101.trans (congrArg some (by kernel_rfl))⟩
  f22 := ⟨Try.f102.name, by decide, Try.func102.trans (congrArg some (by kernel_rfl))⟩
  f23 := ⟨Try.f103.name, by decide, Try.func103.trans (congrArg some (by kernel_rfl))⟩
  f24 := ⟨Try.f104.name, by decide, Try.func104.trans (congrArg some (by kernel_rfl))⟩
  f25 := ⟨Try.f105.name, by decide, Try.func105.trans (congrArg some (by kernel_rfl))⟩
  f26 := ⟨Try.f106.name, by decide, Try.func106.trans (congrArg some (by kernel_rfl))⟩
  f27 := ⟨Try.f107.name, by decide, Try.func107.trans (congrArg some (by kernel_rfl))⟩
  f28 := Try.func108.trans (congrArg some (by kernel_rfl))
  f29 := Try.func109.trans (congrArg some (by kernel_rfl))
  f46 := ⟨Try.f114.name, by decide, Try.func114.trans (congrArg some (by kernel_rfl))⟩
  f47 := Try.func115.trans (congrArg some (by kernel_rfl))
  f48 := Try.func116.trans (congrArg some (by kernel_rfl))
  f49 := ⟨Try.f117.name, by decide, Try.func117.trans (congrArg some (by kernel_rfl))⟩
  f50 := ⟨Try.f118.name, by decide, Try.func118.trans (congrArg some (by kernel_rfl))⟩
  f57 := ⟨Try.f119.name, by decide, Try.func119.trans (congrArg some (by kernel_rfl))⟩
  t0 := Try.underlying0
  a0 := Try.isAgg0
  z0 := Try.sizeOf0
  v0 := Try.zeroValue0
  t3 := Try.underlying3
  a3 := Try.isAgg3
  z3 := Try.sizeOf3
  v3 := Try.zeroValue3
  t4 := Try.underlying4
  a4 := Try.isAgg4
  z4 := Try.sizeOf4
  v4 := Try.zeroValue4
  t5 := Try.underlying5
  a5 := Try.isAgg5
  z5 := Try.sizeOf5
  v5 := Try.zeroValue5
  t9 := Try.underlying9
  a9 := Try.isAgg9
  z9 := Try.sizeOf9
  v9 := Try.zeroValue9
  t22 := Try.underlying31
  a22 := Try.isAgg31
  z22 := Try.sizeOf31
  v22 := Try.zeroValue31
  t25 := Try.underlying87
  a25 := Try.isAgg87
  z25 := Try.sizeOf87
  v25 := Try.zeroValue87
  t39 := Try.underlying119
  a39 := Try.isAgg119
  z39 := Try.sizeOf119
  v39 := Try.zeroValue119
  t45 := Try.underlying135
  a45 := Try.isAgg135
  z45 := Try.sizeOf135
  v45 := Try.zeroValue135
  t46 := Try.underlying136
  a46 := Try.isAgg136
  z46 := Try.sizeOf136
  v46 := Try.zeroValue136
  t50 := Try.underlying140
  a50 := Try.isAgg140
  z50 := Try.sizeOf140
  v50 := Try.zeroValue140
  t53 := Try.underlying143
  a53 := Try.isAgg143
  z53 := Try.sizeOf143
  v53 := Try.zeroValue143
  t55 := Try.underlying38
  a55 := Try.isAgg38
  z55 := Try.sizeOf38
  v55 := Try.zeroValue38
  t66 := Try.underlying150
  a66 := Try.isAgg150
  z66 := Try.sizeOf150
  v66 := Try.zeroValue150
  t70 := Try.underlying154
  a70 := Try.isAgg154
  z70 := Try.sizeOf154
  v70 := Try.zeroValue154
  t76 := Try.underlying157
  a76 := Try.isAgg157
  z76 := Try.sizeOf157
  v76 := Try.zeroValue157
  t77 := Try.underlying131
  a77 := Try.isAgg131
  z77 := Try.sizeOf131
  v77 := Try.zeroValue131 }
open Go.V Go.Sort Go.RowKit
set_option maxRecDepth 20000
theorem Try.srtA : ∀ w, (isAgg (Try.srtL_ren.t 24)).run Try.prog w = .ok true w := Try.isAgg27
theorem Try.srtZ : ∀ w, (Go.sizeOf (Try.srtL_ren.t 24)).run Try.prog w = .ok 3 w := Try.sizeOf27
theorem Try.srtE : ∀ args w, (callFunc 57 args).run Try.prog w = .ok (.enter 57 args) w := enters_of Try.func57 (by kernel_rfl) rfl
theorem Try.srtC (x y : RawHop) (w : World) : Calls Try.prog 57 #[.agg x.cells.toArray, .agg y.cells.toArray] w fun e w' => e = .returned (.int .i64 (x.to - y.to)) ∧ ∃ q os', w' = grow (w.drewN q) os' := by
  have hw := x.wrap y
  obtain ⟨a, b, c, h1, h2, h3⟩ := x
  obtain ⟨d, e, f, h4, h5, h6⟩ := y
  simp only [RawHop.cells] at *
  refine enterL (vs := [.agg #[.int .i64 a, .int .i64 b, c], .agg #[.int .i64 d, .int .i64 e, f]]) Try.func57 rfl rfl ?_
  intro aa ha
  refine wp_seq_k (fun K hK => ?_)
  refine reg ?_
  refine op_val (v := .pointer (some ⟨w.heap.size, 0, none⟩)) (w' := w.alloc (.cells #[.int .i64 a, .int .i64 b, c] 27)) ha (by kernel_rfl) (by kernel_rfl) ?_
  intro aa ha
  refine op_val (v := .pointer (some ⟨(w.alloc (.cells #[.int .i64 a, .int .i64 b, c] 27)).heap.size, 0, none⟩)) (w' := (w.alloc (.cells #[.int .i64 a, .int .i64 b, c] 27)).alloc (.cells #[.int .i64 d, .int .i64 e, f] 27)) ha (by kernel_rfl) (by kernel_rfl) ?_
  intro aa ha
  generalize hW : (w.alloc (.cells #[.int .i64 a, .int .i64 b, c] 27)).alloc (.cells #[.int .i64 d, .int .i64 e, f] 27) = W at *
  have k1 : W.heap[w.heap.size]? = some (.cells #[.int .i64 a, .int .i64 b, c] 27 (0, 0)) := by
    subst hW; exact ((Below.new (w.alloc (.cells #[.int .i64 a, .int .i64 b, c] 27)) _).block _ (by simp)).trans (heap_alloc_new w _)
  have k2 : W.heap[(w.alloc (.cells #[.int .i64 a, .int .i64 b, c] 27)).heap.size]? = some (.cells #[.int .i64 d, .int .i64 e, f] 27 (0, 0)) := by
    subst hW; exact heap_alloc_new (w.alloc (.cells #[.int .i64 a, .int .i64 b, c] 27)) _
  have c1 : W.cell? ((⟨w.heap.size, 0, none⟩ : Addr).add 0) = some (.int .i64 a) := (cell_add1 _ _ _ _).trans (by unfold cellH; rw [k1]; rfl)
  have c2 : W.cell? ((⟨(w.alloc (.cells #[.int .i64 a, .int .i64 b, c] 27)).heap.size, 0, none⟩ : Addr).add 0) = some (.int .i64 d) := (cell_add1 _ _ _ _).trans (by unfold cellH; rw [k2]; rfl)
  have hg : W = grow (w.drewN 0) #[.cells #[.int .i64 a, .int .i64 b, c] 27, .cells #[.int .i64 d, .int .i64 e, f] 27] := by subst hW; rw [alloc_eq_grow, alloc_eq_grow, grow_grow]; rfl
  generalize (w.alloc (.cells #[.int .i64 a, .int .i64 b, c] 27)).heap.size = p2 at *
  generalize w.heap.size = p1 at *
  refine segs_sound ha (k := 1) (ks := [2, 3]) (l' := [(2, .pointer (some ⟨p1, 0, none⟩)), (3, .pointer (some ⟨p2, 0, none⟩))]) (w' := W) (by kernel_rfl) ?_
  intro aa ha
  refine hK _ _ ?_
  clear hK
  refine wp_seq_k (fun K hK => ?_)
  refine reg ?_
  refine segs_sound ha (k := 1) (ks := [3, 5]) (l' := [(3, .pointer (some ⟨p2, 0, none⟩)), (5, .pointer (some ((⟨p1, 0, none⟩ : Addr).add 0)))]) (w' := W) (by kernel_rfl) ?_
  intro aa ha
  refine op_val (v := .int .i64 a) ha (by kernel_rfl) (ob_load W rfl rfl Try.underlying3 rfl c1) ?_
  intro aa ha
  refine segs_sound ha (k := 1) (ks := [6, 7]) (l' := [(6, .int .i64 a), (7, .pointer (some ((⟨p2, 0, none⟩ : Addr).add 0)))]) (w' := W) (by kernel_rfl) ?_
  intro aa ha
  refine op_val (v := .int .i64 d) ha (by kernel_rfl) (ob_load W rfl rfl Try.underlying3 rfl c2) ?_
  intro aa ha
  refine segs_sound ha (k := 2) (ks := [4]) (l' := [(4, .int .i64 (IntKind.wrap .i64 (a - d)))]) (w' := W) (by kernel_rfl) ?_
  intro aa ha
  refine hK _ _ ?_
  refine wp_ret ?_
  refine ret_1 (r1 := .tmp 4) (v1 := .int .i64 (IntKind.wrap .i64 (a - d))) ha rfl (.inl rfl) rfl ⟨by rw [hw], 0, _, hg⟩
end Go.Proofs
