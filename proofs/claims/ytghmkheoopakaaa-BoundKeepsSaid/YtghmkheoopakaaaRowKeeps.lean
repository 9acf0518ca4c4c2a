/-
  BoundKeeps: whatever the number and the two lists: true, and the arguments read as they did. The lists are of at most 2^47 bytes (the form's own reach).
-/
import Derived.Test.YtghmkheoopakaaaRowInts
import Derived.Test.YtghmkheoopakaaaBndO
set_option linter.unusedVariables false
namespace Go.Proofs.Ytghmkheoopakaaa
open Go.ChangeShapes Go.WideShapes Go.ChangeAt Go.RowKit Go.Joins Go.Pen

theorem cellsBoundsK : Try.prog.cellsOf 24 = 2 := by kernel_rfl

set_option maxRecDepth 100000 in
theorem keeps_lifted (os : Os) (started : os.Started) (H : Type) (enc : TypeId × Value → H) :
    ReturnsInHanded {} Try.checked os 3 .any (Rows.boundKeepsSpec.pre6 enc Try.prog Try.f3 Rows.boundKeepsRow.domain false) (Rows.boundKeepsSpec.post enc Try.prog Try.f3 false true false false) := by
  refine returnsInHanded_of_change_sized (C := Try.checked) own started (by kernel_rfl) Try.func3
    (ChangeSpec.witness6 (enc := enc) (C := Try.checked) false ⟨#[], #[.int .i64 0, .agg #[.slice none 0 0, .slice none 0 0]], []⟩ 8 (by kernel_rfl) (by kernel_rfl) (by kernel_rfl) (by kernel_rfl)) ?_
  intro W base args ds gs before hval0 hW hcnd hsz _
  have hval : ∀ (j : Nat) t v, Try.f3.params[j]? = some t → args[j]? = some v → Value.okWide Try.prog W .any base t v := hval0
  have hW' := hW
  obtain ⟨p, q, hA0, hV, rfl, hfz, hnd⟩ := hW
  have hA : DataW.TrodAll enc Try.prog W 0 (fun _ => true) true Try.f3.params.toList args.toList ds p := hA0
  rw [Try.params3] at hA hval hsz
  obtain ⟨v0, vs0, d0, ds0, p0, q0, hargs, rfl, rfl, h0, r0⟩ := trodAll_cons hA
  obtain ⟨v1, vs1, d1, ds1, p1, q1, rfl, rfl, rfl, h1, r1⟩ := trodAll_cons r0
  obtain ⟨rfl, rfl, rfl⟩ := trodAll_nil r1
  obtain rfl : args = #[v0, v1] := by cases args; simp_all
  obtain ⟨rfl, rfl⟩ := trodVars_none hV
  obtain ⟨c0, c1, y0, y1, m, rfl, rfl, rfl, hy0, hy1⟩ := open_agg2 Try.underlying24 (by kernel_rfl) cellsBoundsK (hval 1 24 v1 rfl rfl) h1
  obtain ⟨a, n, c, b, o, f, e0, ha, hr, hl⟩ := open_intL hy0
  obtain ⟨a', n', c', b', o', g, e1, ha', hr', hl'⟩ := open_intL hy1
  simp at e0 e1
  subst e0 e1
  obtain ⟨s, rfl, rfl, rfl, ws⟩ := open_int Try.underlying3 (hval 0 3 v0 rfl rfl) h0
  have bs := bounds_i64 ws
  have hbytes : Try.checked.prog.bytesOf 3 = 8 := bytesIntL
  have h47 : reachBytes = 140737488351232 := by decide
  have hn : n ≤ 17592186044415 := by
    rcases hl with rfl | ⟨el, sp, e, hle⟩
    · omega
    · have := List.all_eq_true.1 hsz _ (DataW.weights_mem_each (j := 1) rfl rfl ((el.length + sp.length) * Try.checked.prog.bytesOf 3) (by
        rw [e]; simp [DataW.weights, DataW.weightsEach, show Try.checked.prog.underlying 24 = _ from Try.underlying24, show Try.checked.prog.underlying 22 = _ from Try.underlying22]))
      rw [hbytes] at this
      have := of_decide_eq_true this
      omega
  have hn' : n' ≤ 17592186044415 := by
    rcases hl' with rfl | ⟨el, sp, e, hle⟩
    · omega
    · have := List.all_eq_true.1 hsz _ (DataW.weights_mem_each (j := 1) rfl rfl ((el.length + sp.length) * Try.checked.prog.bytesOf 3) (by
        rw [e]; simp [DataW.weights, DataW.weightsEach, show Try.checked.prog.underlying 24 = _ from Try.underlying24, show Try.checked.prog.underlying 22 = _ from Try.underlying22]))
      rw [hbytes] at this
      have := of_decide_eq_true this
      omega
  clear hA0 hval0
  refine ((BoundKeeps_fn s a a' n n' c c' b b' o o' f g W bs.1 bs.2 ha ha' hn hn' hr hr').out).mono fun ex W' ⟨v, Γ, he, ⟨hv, hΓ⟩, hst⟩ => ?_
  subst he; subst hv; subst hΓ
  exact ⟨_, rfl, post_law laidOut hW' hst.below rfl Try.underlying4 rfl rfl rfl rfl (by kernel_rfl)⟩

theorem BoundKeeps_holds : Rows.BoundKeepsSaid :=
  OpenClaim.holds_of_wide 3 Try.f3 rfl rfl rfl rfl rfl rfl rfl ⟨rfl, rfl, rfl, rfl, rfl⟩ rfl rfl rfl rfl rfl (by kernel_rfl) Try.func3 (by kernel_rfl)
    (of_decide_eq_true (by kernel_rfl)) (by unfold Func.isWrapper; first | (rw [if_pos (by decide +kernel)]; kernel_rfl) | (rw [if_neg (by decide +kernel)]; exact ⟨rfl, rfl⟩))
    (fun os started H enc _ => keeps_lifted os started H enc)
#print axioms BoundKeeps_holds
end Go.Proofs.Ytghmkheoopakaaa
