/-
  WaveFirst: whatever the number and the length: true, and the arguments read as they did. The row lists the two tables of math/bits.
-/
import Derived.Test.YtjckoflcjkajiaaDoorRowTab
import Derived.Test.YtjckoflcjkajiaaDoorWavK
set_option linter.unusedVariables false
set_option maxRecDepth 100000
namespace Go.Proofs.YtjckoflcjkajiaaDoor
open Go.ChangeShapes Go.WideShapes Go.ChangeAt Go.RowKit Go.Joins Go.Pen

theorem first_contract (H : Type) (enc : TypeId × Value → H) (W : World) (base : Nat) (args : Array Value) (ds gs : List (DataW H)) (before : List MemPlace)
    (hval : ∀ (j : Nat) t v, Tryd.f3.params[j]? = some t → args[j]? = some v → Value.okWide Tryd.prog W .any base t v)
    (hW : DataW.Whole enc Tryd.prog Tryd.f3.params.toList Rows.waveFirstSpec.vars false W args.toList ds gs before) (hL : laidMetH Tryd.prog Rows.waveFirstRow.laid W) :
    Calls Tryd.prog 3 args W fun e W' => ∃ v, e = .returned v ∧ Rows.waveFirstSpec.post enc Tryd.prog Tryd.f3 false true false false W args v W' := by
  have hW' := hW
  obtain ⟨p, q, hA0, hV, rfl, hfz, hnd⟩ := hW
  have hA : DataW.TrodAll enc Tryd.prog W 0 (fun _ => true) true Tryd.f3.params.toList args.toList ds p := hA0
  rw [Tryd.params3] at hA hval
  obtain ⟨v0, vs0, d0, ds0, p0, q0, hargs, rfl, rfl, h0, r0⟩ := trodAll_cons hA
  obtain ⟨v1, vs1, d1, ds1, p1, q1, rfl, rfl, rfl, h1, r1⟩ := trodAll_cons r0
  obtain ⟨rfl, rfl, rfl⟩ := trodAll_nil r1
  obtain rfl : args = #[v0, v1] := by cases args; simp_all
  obtain ⟨rfl, rfl⟩ := trodVars_none hV
  obtain ⟨a0, a1, rfl, b0, b1⟩ := open_pair32 (hval 0 22 v0 rfl rfl) h0
  obtain ⟨n, rfl, rfl, rfl, wn⟩ := open_int Tryd.underlying3 (hval 1 3 v1 rfl rfl) h1
  clear hA0 hval
  refine ((WaveFirst_fn a0 a1 n b0 b1 W (tz_laid hL)).out).mono fun ex W' ⟨v, Γ, he, ⟨hv, hΓ⟩, hst⟩ => ?_
  subst he; subst hv; subst hΓ
  exact ⟨_, rfl, post_law laidOut hW' hst.below rfl Tryd.underlying4 rfl rfl rfl rfl (by kernel_rfl)⟩

theorem first_met (os : Os) : laidMet Tryd.prog Rows.waveFirstRow.laid ((laidWorld os).forCall (fun _ _ => 0) ⟨#[], #[.agg #[.int .i32 0, .int .i32 0], .int .i64 0], []⟩).memory :=
  laidMet_of_run' 8 (by kernel_rfl) (by kernel_rfl)
theorem first_reads (os : Os) {H : Type} (enc : TypeId × Value → H) : ∃ places, DataW.whole enc Tryd.prog ((laidWorld os).forCall (fun _ _ => 0) ⟨#[], #[.agg #[.int .i32 0, .int .i32 0], .int .i64 0], []⟩).memory Tryd.f3.params.toList Rows.waveFirstSpec.vars false #[Value.agg #[.int .i32 0, .int .i32 0], .int .i64 0].toList 8 = some ([.agg [.lit (.int .i32 0), .lit (.int .i32 0)], .lit (.int .i64 0)], [], places) :=
  ⟨[], by kernel_rfl⟩
theorem first_lifted (os : Os) (started : os.Started) (H : Type) (enc : TypeId × Value → H) (F : Stop.Interp) :
    ReturnsInHanded {} Tryd.checked os 3 .any ((OpenSpec.ofChange Rows.waveFirstSpec).preRow enc Tryd.prog Tryd.f3 Rows.waveFirstRow.domain false Rows.waveFirstRow.laid) (((OpenSpec.ofChange Rows.waveFirstSpec).at F).post enc Tryd.prog Tryd.f3 false true false false) := by
  obtain ⟨places, hx⟩ := first_reads os enc
  refine returnsInHanded_of_row (C := Tryd.checked) (s := OpenSpec.ofChange Rows.waveFirstSpec) own started (by kernel_rfl) Tryd.func3
    (witness_row_at (enc := enc) (C := Tryd.checked) false (laidWorld os) #[.agg #[.int .i32 0, .int .i32 0], .int .i64 0] rfl (by kernel_rfl) (by kernel_rfl) (by kernel_rfl)
      (OpenSpec.preRow_of_cond 8 hx (by kernel_rfl) (fun k hk => by cases hk) (by kernel_rfl) (first_met os))) ?_
  intro W base args ds gs before hval hW _ _ _ hL _ _
  exact first_contract H enc W base args ds gs before hval hW hL
theorem WaveFirst_row : Rows.WaveFirstSaid :=
  OpenClaim.holds_of_cond 3 Tryd.f3 rfl rfl rfl rfl rfl rfl rfl ⟨rfl, rfl, rfl, rfl, rfl⟩ rfl rfl rfl rfl rfl (by kernel_rfl) Tryd.func3 (by kernel_rfl)
    (of_decide_eq_true (by kernel_rfl)) (by unfold Func.isWrapper; first | (rw [if_pos (by decide +kernel)]; kernel_rfl) | (rw [if_neg (by decide +kernel)]; exact ⟨rfl, rfl⟩))
    (fun os started H enc _ F => by rw [OpenClaim.pre_eq_preRow]; exact first_lifted os started H enc F)
theorem first_plain (f : FuncId) (fn : Func) (hf : Tryd.pinned.checked.prog.funcNamed "penumbra/penumbralaw03.WaveFirst" = some f) (hfn : Tryd.pinned.checked.prog.funcs[f]? = some fn) :
    false = Tryd.pinned.checked.prog.looks [] ∧ ∀ (j : Nat) t, fn.params[j]? = some t → Tryd.pinned.checked.prog.wantsStandIn t = false := by
  obtain rfl : f = 3 := Option.some.inj ((show Tryd.prog.funcNamed "penumbra/penumbralaw03.WaveFirst" = some 3 by kernel_rfl).symm.trans hf) |>.symm
  obtain rfl : fn = Tryd.f3 := (Option.some.inj (Tryd.func3.symm.trans hfn)).symm
  refine ⟨by kernel_rfl, fun j t ht => ?_⟩
  rw [Tryd.params3] at ht
  have hm : t ∈ [22, 3] := by simpa using Array.mem_of_getElem? ht
  have hall : ([22, 3].all fun u => !Tryd.prog.wantsStandIn u) = true := by kernel_rfl
  exact (show Tryd.prog.wantsStandIn t = false by simpa using List.all_eq_true.1 hall t hm)
theorem WaveFirstCard_holds : Rows.WaveFirstCardSaid :=
  Claim7.holds_tied_plain_at .later [] _ _ _ _ WaveFirst_row (fun _ h => by cases h) (by kernel_rfl) (fun _ h => by cases h) waveFirst_row_tie rfl ⟨rfl, rfl⟩ (by kernel_rfl) rfl first_plain (by kernel_rfl)
#print axioms WaveFirstCard_holds
end Go.Proofs.YtjckoflcjkajiaaDoor
