/- The tables of math/bits, out of a row's list; two numbers of 32 bits, opened; a world that holds the tables. -/
import Derived.Test.YtjckoflcjkajiaaDoorCards
import Derived.Test.YtjckoflcjkajiaaDoorTie
import Derived.Test.YtjckoflcjkajiaaDoorRowKit
import Derived.Test.YtjckoflcjkajiaaDoorWavD
import Derived.Deep.DeepHandedRow
import Derived.Lib.LaidTab
import Derived.LaidMore
set_option linter.unusedVariables false
set_option maxRecDepth 100000
namespace Go.Proofs.YtjckoflcjkajiaaDoor
open Go.ChangeShapes Go.WideShapes Go.ChangeAt Go.RowKit Go.Joins Go.Pen

theorem gTz : Tryd.prog.globalNamed "math/bits.deBruijn64tab" = some 2 := by kernel_rfl
theorem gTzT : (Tryd.prog.globals[2]?).map (·.type) = some 70 := by kernel_rfl
theorem cTz : Tryd.prog.cellsOf 70 = 64 := by kernel_rfl
theorem cU8 : Tryd.prog.cellsOf 5 = 1 := by kernel_rfl
theorem cA2 : Tryd.prog.cellsOf 22 = 2 := by kernel_rfl
theorem cI32 : Tryd.prog.cellsOf 21 = 1 := by kernel_rfl

/-- What the rows' list gives: the table's cells. -/
theorem tz_laid {W : World} (h : laidMetH Tryd.prog [("math/bits.deBruijn32tab", Rows.laid_math_bits_deBruijn32tab), ("math/bits.deBruijn64tab", Rows.laid_math_bits_deBruijn64tab)] W) : TzT W := by
  rw [MakeChecks.laidMetH_plain _ _ _ (by kernel_rfl)] at h
  obtain ⟨ps, ⟨g0, t0, cs0, f0, p0, q0, hg0, ht0, hv0, hd0, ⟨g', t', cs, fuel, p, q, hg', ht', hvar, hd, _, _⟩, _⟩, _, _⟩ := h
  obtain rfl := Option.some.inj (gTz.symm.trans hg')
  obtain rfl := Option.some.inj (gTzT.symm.trans ht')
  have hT : Lib.TabIs Tryd.prog W "math/bits.deBruijn64tab" .u8 tzTab := by
    unfold Lib.TabIs
    rw [hvar, ← Lib.cells_of_tab Tryd.underlying70 Tryd.underlying5 cU8 cTz (zs := tzTab) hd]
  refine ⟨fun i v hi => ?_⟩
  have hl : i < tzTab.length := (List.getElem?_eq_some_iff.1 hi).1
  have := hT.cell gTz i hl
  rw [List.getD_eq_getElem?_getD, hi] at this
  rw [Nat.zero_add, Nat.mul_one]
  exact this

/-- Two numbers of 32 bits, opened. -/
theorem open_pair32 {H : Type} {enc : TypeId × Value → H} {W : World} {base : Nat} {v : Value} {d : DataW H} {p : List MemPlace} (hv : Value.okWide Tryd.prog W .any base 22 v) (h : DataW.Trod enc Tryd.prog W 0 (fun _ => true) true 22 v d p) :
    ∃ a b : Int, v = .agg #[.int .i32 a, .int .i32 b] ∧ (-2147483648 ≤ a ∧ a ≤ 2147483647) ∧ (-2147483648 ≤ b ∧ b ≤ 2147483647) := by
  simp only [Value.okWide, Tryd.underlying22] at hv
  obtain ⟨cs, rfl, hsz, _⟩ := hv
  rw [cA2] at hsz
  obtain ⟨c0, c1, rfl⟩ := array2 hsz
  obtain ⟨fuel, hf⟩ := h
  obtain ⟨xs, m, rfl, hx, _, hn, hel⟩ := DataW.trod_array Tryd.underlying22 hf
  rw [cI32] at hel
  match xs, hn, hel with
  | [x0, x1], _, hel =>
    obtain ⟨a, ea, _, wa⟩ := DataW.trod_int Tryd.underlying21 (hel 0 (by decide))
    obtain ⟨b, eb, _, wb⟩ := DataW.trod_int Tryd.underlying21 (hel 1 (by decide))
    simp [Value.cells] at ea eb
    subst ea eb
    exact ⟨a, b, rfl, bounds_i32 wa, bounds_i32 wb⟩
def tzTab32 : List Int := [0, 1, 28, 2, 29, 14, 24, 3, 30, 22, 20, 15, 25, 17, 4, 8, 31, 27, 13, 23, 21, 19, 16, 7, 26, 12, 18, 6, 11, 5, 10, 9]
def putTab (zs : List Int) : Obj → Obj
  | .cells _ t frozen => .cells (zs.map fun z => Value.int .u8 z).toArray t frozen
  | o => o
/-- A world for the witness: the settled one, the two tables as their initialisers lay them. -/
noncomputable def laidWorld (os : Os) : World :=
  { World.holding Tryd.prog os ⟨#[], #[], []⟩ with heap := ((World.holding Tryd.prog os ⟨#[], #[], []⟩).heap.modify 2 (putTab tzTab)).modify 1 (putTab tzTab32) }
end Go.Proofs.YtjckoflcjkajiaaDoor
