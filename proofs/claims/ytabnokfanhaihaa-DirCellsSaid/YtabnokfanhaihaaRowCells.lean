/-
  DirCells: for every side and direction the law returns true, and the arguments read as they did. No condition.
-/
import Derived.Test.YtabnokfanhaihaaRowKit
import Derived.Test.YtabnokfanhaihaaDirW
set_option linter.unusedVariables false
namespace Go.Proofs.Ytabnokfanhaihaa
open Go.ChangeShapes Go.WideShapes Go.ChangeAt Go.RowKit Go.Joins Go.Pen

theorem cells32 : Try.prog.cellsOf 30 = 2 := by kernel_rfl

set_option maxRecDepth 100000 in
theorem cells_lifted (os : Os) (started : os.Started) (H : Type) (enc : TypeId × Value → H) :
    ReturnsInHanded {} Try.checked os 6 .any (Rows.dirCellsSpec.pre6 enc Try.prog Try.f6 Rows.dirCellsRow.domain false) (Rows.dirCellsSpec.post enc Try.prog Try.f6 false true false false) := by
  refine returnsInHanded_of_change (C := Try.checked) own started (by kernel_rfl) Try.func6
    (ChangeSpec.witness6 (enc := enc) (C := Try.checked) false ⟨#[], #[.int .i64 0, .agg #[.int .i64 0, .int .i64 0]], []⟩ 8 (by kernel_rfl) (by kernel_rfl) (by kernel_rfl) (by kernel_rfl)) ?_
  intro W base args ds gs before hval0 hW hcnd _
  have hval : ∀ (j : Nat) t v, Try.f6.params[j]? = some t → args[j]? = some v → Value.okWide Try.prog W .any base t v := hval0
  have hW' := hW
  obtain ⟨p, q, hA0, hV, rfl, hfz, hnd⟩ := hW
  have hA : DataW.TrodAll enc Try.prog W 0 (fun _ => true) true Try.f6.params.toList args.toList ds p := hA0
  rw [Try.params6] at hA hval
  obtain ⟨v0, vs0, d0, ds0, p0, q0, hargs, rfl, rfl, h0, r0⟩ := trodAll_cons hA
  obtain ⟨v1, vs1, d1, ds1, p1, q1, rfl, rfl, rfl, h1, r1⟩ := trodAll_cons r0
  obtain ⟨rfl, rfl, rfl⟩ := trodAll_nil r1
  obtain rfl : args = #[v0, v1] := by cases args; simp_all
  obtain ⟨rfl, rfl⟩ := trodVars_none hV
  obtain ⟨s, rfl, rfl, rfl, ws⟩ := open_int Try.underlying3 (hval 0 3 v0 rfl rfl) h0
  have bs := bounds_i64 ws
  obtain ⟨c2, c3, y2, y3, m', rfl, rfl, rfl, hy2, hy3⟩ := open_agg2 Try.underlying30 (by kernel_rfl) cells32 (hval 1 30 v1 rfl rfl) h1
  obtain ⟨c, e2, rfl, wc⟩ := DataW.trod_int Try.underlying3 hy2
  obtain ⟨d, e3, rfl, wd⟩ := DataW.trod_int Try.underlying3 hy3
  simp at e2 e3
  subst e2 e3
  clear hA0 hval0
  have bc := bounds_i64 wc
  have bd := bounds_i64 wd
  refine ((DirCells_fn s c d bs.1 bs.2 bc.1 bc.2 bd.1 bd.2 W).out).mono fun e W' ⟨v, Γ, he, ⟨hv, hΓ⟩, hst⟩ => ?_
  subst he; subst hv; subst hΓ
  exact ⟨_, rfl, post_law laidOut hW' hst.below rfl Try.underlying4 rfl rfl rfl rfl (by kernel_rfl)⟩

theorem DirCells_holds : Rows.DirCellsSaid :=
  OpenClaim.holds_of_wide 6 Try.f6 rfl rfl rfl rfl rfl rfl rfl ⟨rfl, rfl, rfl, rfl, rfl⟩ rfl rfl rfl rfl rfl (by kernel_rfl) Try.func6 (by kernel_rfl)
    (of_decide_eq_true (by kernel_rfl)) (by unfold Func.isWrapper; first | (rw [if_pos (by decide +kernel)]; kernel_rfl) | (rw [if_neg (by decide +kernel)]; exact ⟨rfl, rfl⟩))
    (fun os started H enc _ => cells_lifted os started H enc)
#print axioms DirCells_holds
end Go.Proofs.Ytabnokfanhaihaa
