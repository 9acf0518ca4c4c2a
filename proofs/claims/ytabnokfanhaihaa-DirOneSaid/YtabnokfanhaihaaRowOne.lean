/-
  DirOne: for every three directions the law returns true, and the arguments read as they did. No condition.
-/
import Derived.Test.YtabnokfanhaihaaRowKit
import Derived.Test.YtabnokfanhaihaaDirO
set_option linter.unusedVariables false
namespace Go.Proofs.Ytabnokfanhaihaa
open Go.ChangeShapes Go.WideShapes Go.ChangeAt Go.RowKit Go.Joins Go.Pen

theorem cells31 : Try.prog.cellsOf 30 = 2 := by kernel_rfl

set_option maxRecDepth 100000 in
theorem one_lifted (os : Os) (started : os.Started) (H : Type) (enc : TypeId × Value → H) :
    ReturnsInHanded {} Try.checked os 5 .any (Rows.dirOneSpec.pre6 enc Try.prog Try.f5 Rows.dirOneRow.domain false) (Rows.dirOneSpec.post enc Try.prog Try.f5 false true false false) := by
  refine returnsInHanded_of_change (C := Try.checked) own started (by kernel_rfl) Try.func5
    (ChangeSpec.witness6 (enc := enc) (C := Try.checked) false ⟨#[], #[.agg #[.int .i64 0, .int .i64 0], .agg #[.int .i64 0, .int .i64 0], .agg #[.int .i64 0, .int .i64 0]], []⟩ 8 (by kernel_rfl) (by kernel_rfl) (by kernel_rfl) (by kernel_rfl)) ?_
  intro W base args ds gs before hval0 hW hcnd _
  have hval : ∀ (j : Nat) t v, Try.f5.params[j]? = some t → args[j]? = some v → Value.okWide Try.prog W .any base t v := hval0
  have hW' := hW
  obtain ⟨p, q, hA0, hV, rfl, hfz, hnd⟩ := hW
  have hA : DataW.TrodAll enc Try.prog W 0 (fun _ => true) true Try.f5.params.toList args.toList ds p := hA0
  rw [Try.params5] at hA hval
  obtain ⟨v0, vs0, d0, ds0, p0, q0, hargs, rfl, rfl, h0, r0⟩ := trodAll_cons hA
  obtain ⟨v1, vs1, d1, ds1, p1, q1, rfl, rfl, rfl, h1, r1⟩ := trodAll_cons r0
  obtain ⟨v2, vs2, d2, ds2, p2, q2, rfl, rfl, rfl, h2, r2⟩ := trodAll_cons r1
  obtain ⟨rfl, rfl, rfl⟩ := trodAll_nil r2
  obtain rfl : args = #[v0, v1, v2] := by cases args; simp_all
  obtain ⟨rfl, rfl⟩ := trodVars_none hV
  obtain ⟨c0, c1, y0, y1, m, rfl, rfl, rfl, hy0, hy1⟩ := open_agg2 Try.underlying30 (by kernel_rfl) cells31 (hval 0 30 v0 rfl rfl) h0
  obtain ⟨a, e0, rfl, wa⟩ := DataW.trod_int Try.underlying3 hy0
  obtain ⟨b, e1, rfl, wb⟩ := DataW.trod_int Try.underlying3 hy1
  obtain ⟨c2, c3, y2, y3, m', rfl, rfl, rfl, hy2, hy3⟩ := open_agg2 Try.underlying30 (by kernel_rfl) cells31 (hval 1 30 v1 rfl rfl) h1
  obtain ⟨c, e2, rfl, wc⟩ := DataW.trod_int Try.underlying3 hy2
  obtain ⟨d, e3, rfl, wd⟩ := DataW.trod_int Try.underlying3 hy3
  obtain ⟨c4, c5, y4, y5, m'', rfl, rfl, rfl, hy4, hy5⟩ := open_agg2 Try.underlying30 (by kernel_rfl) cells31 (hval 2 30 v2 rfl rfl) h2
  obtain ⟨e, e4, rfl, we⟩ := DataW.trod_int Try.underlying3 hy4
  obtain ⟨f, e5, rfl, wf⟩ := DataW.trod_int Try.underlying3 hy5
  simp at e0 e1 e2 e3 e4 e5
  subst e0 e1 e2 e3 e4 e5
  clear hA0 hval0
  have ba := bounds_i64 wa
  have bb := bounds_i64 wb
  have bc := bounds_i64 wc
  have bd := bounds_i64 wd
  have be := bounds_i64 we
  have bf := bounds_i64 wf
  refine ((DirOne_fn a b c d e f ba.1 ba.2 bb.1 bb.2 bc.1 bc.2 bd.1 bd.2 be.1 be.2 bf.1 bf.2 W).out).mono fun ex W' ⟨v, Γ, he, ⟨hv, hΓ⟩, hst⟩ => ?_
  subst he; subst hv; subst hΓ
  exact ⟨_, rfl, post_law laidOut hW' hst.below rfl Try.underlying4 rfl rfl rfl rfl (by kernel_rfl)⟩

theorem DirOne_holds : Rows.DirOneSaid :=
  OpenClaim.holds_of_wide 5 Try.f5 rfl rfl rfl rfl rfl rfl rfl ⟨rfl, rfl, rfl, rfl, rfl⟩ rfl rfl rfl rfl rfl (by kernel_rfl) Try.func5 (by kernel_rfl)
    (of_decide_eq_true (by kernel_rfl)) (by unfold Func.isWrapper; first | (rw [if_pos (by decide +kernel)]; kernel_rfl) | (rw [if_neg (by decide +kernel)]; exact ⟨rfl, rfl⟩))
    (fun os started H enc _ => one_lifted os started H enc)
#print axioms DirOne_holds
end Go.Proofs.Ytabnokfanhaihaa
