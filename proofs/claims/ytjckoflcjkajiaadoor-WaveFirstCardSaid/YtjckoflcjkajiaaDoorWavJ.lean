/- Layer 4: alive, walked. %compact -/
import Derived.Test.YtjckoflcjkajiaaDoorWavI
set_option linter.unusedVariables false
set_option maxRecDepth 100000
namespace Go.Proofs.YtjckoflcjkajiaaDoor
open Go.Pen Go.Flt Go.Wav

def alX : List Cx := [(4607182418800017408, 0), (4611686018427387904, 0), (4613937818241073152, 0), (4616189618054758400, 0)]
def alY : List Cx := [(4621819117588971520, 0), (13835058055282163712, 4611686018427387904), (13835058055282163712, 0), (13835058055282163712, 13835058055282163712)]
theorem alF : forwardC 2 alX = some alY := by decide +kernel
theorem alB : backC 1 [(two, 0), (0, 0)] = some [(two, 0), (two, 0)] := by decide +kernel
theorem alS : ∀ a ∈ [((two, 0) : Cx), (two, 0)], ∀ w, Does Tryd.prog 29 #[.complex .f64 a.1 a.2, .int .i64 (-((1 : Nat) : Int))] [] w fun v Γ => v = .complex .f64 one 0 ∧ Γ = [] := by
  intro a ha w
  have e : a = (two, 0) := by simpa using ha
  subst e
  exact Scale2_fn w
set_option maxHeartbeats 4000000 in
theorem alive3_fn (w : World) (hT : TzT w) : Does Tryd.prog 7 #[] [] w fun v Γ => v = .bool true ∧ Γ = [] := by
  have hF := fun b o c w hr hT => Forward_fn 2 (by decide) alX alY rfl alF b o c w hr hT
  have hB := fun b o c w hr hT => Back_fn 1 (by decide) [(two, 0), (0, 0)] _ rfl alB (fun _ => (one, 0)) alS b o c w hr hT
  rw [show 2 ^ 2 = 4 from rfl] at hF
  rw [show 2 ^ 1 = 2 from rfl] at hB
  refine Does.enter Tryd.func7 rfl Tryd.ntmps7 rfl (St.start w) ?_
  repeat' (first | refine OP.indexAddr (j := 0) rfl rfl rfl rfl (by decide) ?_ | refine OP.indexAddr (j := 2) rfl rfl rfl rfl (by decide) ?_ | refine Fin.tail ?_ | refine Fin.then_normal ?_ | refine Fin.then_exit ?_ | refine Fin.then_ret ?_ | refine Fin.block_normal ?_ | refine Fin.block_ret ?_ | refine Fin.block_hit ?_ | refine Fin.block_miss rfl ?_ | refine Fin.loop_exit ?_ | refine Fin.loop_ret ?_ | refine WP.seq ?_ | (refine WP.regionQ (by kernel_rfl) (by kernel_rfl) ?_) | refine WP.block ?_ | refine WP.region ?_ | refine WP.skip ?_ | refine WP.exit ?_ | refine WP.ret ?_ | refine WP.label ?_ | refine WP.cond_true rfl ?_ | refine WP.cond_false rfl ?_ | (refine WP.cond_dec rfl (fun h => ?_) (fun h => ?_) <;> (try (exfalso; omega))) | (refine WP.cond_bool rfl (fun h => ?_) (fun h => ?_)) | refine WL.nil ?_ | refine WL.cons ?_ | (show OP _ _ _ _ _ _ _ ⟨_, _, _, _, _, some _⟩ _ _; first | refine OP.guard_yes rfl rfl ?_ | refine OP.guard_no rfl rfl rfl rfl ?_ | refine OP.guard_un rfl rfl rfl ?_ | refine OP.guard_no0 rfl rfl rfl ?_ | (refine OP.guard_dec rfl rfl (fun h => ?_) (fun h => ?_) <;> (try (exfalso; omega))) | refine OP.guard_bool rfl rfl (fun h => ?_) (fun h => ?_)) | (show OP _ _ _ _ _ _ _ ⟨_, .move _, _, _, _, none⟩ _ _; first | refine OP.mI rfl rfl ?_ | refine OP.mB rfl rfl ?_ | refine OP.mC rfl rfl ?_ | refine OP.mF rfl rfl ?_ | refine OP.mS rfl rfl ?_ | refine OP.mP rfl rfl ?_ | refine OP.mA rfl rfl ?_ | refine OP.mT rfl rfl ?_ | refine OP.mM rfl rfl ?_ | refine OP.mU rfl rfl ?_ | refine OP.move rfl rfl ?_) | (show OP _ _ _ _ _ _ _ ⟨_, .assign _, _, _, _, none⟩ _ _; first | refine OP.aI rfl rfl ?_ | refine OP.aB rfl rfl ?_ | refine OP.aC rfl rfl ?_ | refine OP.aF rfl rfl ?_ | refine OP.aS rfl rfl ?_ | refine OP.aP rfl rfl ?_ | refine OP.aA rfl rfl ?_ | refine OP.aT rfl rfl ?_ | refine OP.aM rfl rfl ?_ | refine OP.aU rfl rfl ?_ | refine OP.assign rfl rfl ?_) | (show OP _ _ _ _ _ _ _ ⟨_, .call _, _, _, _, none⟩ _ _; first | (refine OP.call rfl (fun w' hst => hF _ _ _ w' (RdC.own (l := alX) (sp := []) hst (List.Mem.head _)) (hT.over hst (by simp))) (fun _ _ hR => ?_); obtain ⟨q, rfl, rfl⟩ := hR) | (refine OP.call rfl (fun w' hst => hB _ _ _ w' (RdC.own (l := [(two, 0), (0, 0)]) (sp := []) hst (List.Mem.head _)) (hT.over hst (by simp))) (fun _ _ hR => ?_); obtain ⟨q, rfl, rfl⟩ := hR) | refine OP.len rfl rfl rfl ?_) | (show OP _ _ _ _ _ _ _ ⟨_, .binOp _ _ _ _ _, _, _, _, none⟩ _ _; first | refine OP.ceql (r := true) (by decide +kernel) rfl rfl rfl ?_ | refine OP.eql rfl rfl rfl ?_ | refine OP.eql2 rfl rfl rfl ?_ | refine OP.eqd rfl rfl rfl ?_ | refine OP.eqlb rfl rfl rfl ?_) | (show OP _ _ _ _ _ _ _ ⟨_, .pick _ _ _, _, _, _, none⟩ _ _; first | refine OP.pick_true rfl rfl ?_ | refine OP.pick_false rfl rfl ?_) | refine OP.extract rfl rfl rfl ?_ | (show OP _ _ _ _ _ _ _ ⟨_, .load _ _, _, _, _, none⟩ _ _; first | refine OP.ld rfl rfl inferInstance rfl ?_ | refine OP.load rfl rfl (Sees.old0 (by assumption)) ?_ | refine OP.ldA rfl rfl inferInstance rfl ?_) | (refine OP.buildSlice rfl rfl ?_ rfl rfl (fun bs => ?_); (decide)) | refine OP.buildSlice0 rfl rfl (fun bs => ?_))
  all_goals refine Fin.drop (List.nil_sublist _) ?_
  refine Fin.ret1 (h0 := .inl rfl) rfl rfl ?_
  exact ⟨rfl, rfl⟩
end Go.Proofs.YtjckoflcjkajiaaDoor
