/- The reference's roots, walked. %compact -/
import Derived.Test.YtjckoflcjkajiaaDoorRefA
import Derived.Test.YtjckoflcjkajiaaDoorRefP
set_option linter.unusedVariables false
set_option maxRecDepth 100000
namespace Go.Proofs.YtjckoflcjkajiaaDoor
open Go.Pen Go.Flt Go.Wav

set_option maxHeartbeats 4000000 in
theorem RAt_fn (k : Nat) : ∀ (m : Nat) (f : List Cx) (r : Cx), m ≤ 12 → eighthC m = some f → k < 2 ^ m → atC (2 ^ m) k f = some r → ∀ w, Does Tryd.prog 58 #[.int .i64 ((2 ^ m : Nat) : Int), .int .i64 (k : Int)] [] w fun v Γ => v = .complex .f64 r.1 r.2 ∧ Γ = [] := by
  induction k using Nat.strongRecOn with
  | _ k ih =>
  intro m f r hm hf hk hr w
  have hp := pow_bd hm
  have hwf := wf_eighth hf
  have hh := eighth_head hf
  have hpow : 3 ≤ m → 2 ^ m = 8 * 2 ^ (m - 3) := fun h => by rw [show 8 = 2 ^ 3 from rfl, ← Nat.pow_add]; congr 1; omega
  have hpow2 : 2 ≤ m → 2 ^ m = 4 * 2 ^ (m - 2) := fun h => by rw [show 4 = 2 ^ 2 from rfl, ← Nat.pow_add]; congr 1; omega
  have hsm : m < 2 → 2 ^ m = 1 ∨ 2 ^ m = 2 := fun h => by rcases (by omega : m = 0 ∨ m = 1) with rfl | rfl <;> simp
  have ihm := fun k' hk' r' h1 h2 => ih k' hk' m f r' hm hf h1 h2
  obtain ⟨N, hN⟩ : ∃ N, N = 2 ^ m := ⟨_, rfl⟩
  rw [← hN] at hp hk hr hpow hpow2 hsm ihm ⊢
  have c4 : (4 : Int) = ((4 : Nat) : Int) := rfl
  by_cases hA : 4 ≤ N ∧ N / 4 ≤ k
  · obtain ⟨a, ha, rfl⟩ := at_turn hA.1 hA.2 hr
    have hwa := wf_at hwf ha
    have hrec : ∀ w, Does Tryd.prog 58 #[.int .i64 (N : Int), .int .i64 ((k : Int) - ((N / 4 : Nat) : Int))] [] w fun v Γ => v = .complex .f64 a.1 a.2 ∧ Γ = [] := fun w => by
      rw [show ((k : Int) - ((N / 4 : Nat) : Int)) = ((k - N / 4 : Nat) : Int) by omega]
      exact ihm (k - N / 4) (by omega) a (by omega) ha w
    obtain ⟨hA1, hA2⟩ := hA
    refine Does.enter Tryd.func58 rfl Tryd.ntmps58 rfl (St.start w) ?_
    repeat' (first | refine Fin.tail ?_ | refine Fin.then_normal ?_ | refine Fin.then_exit ?_ | refine Fin.then_ret ?_ | refine Fin.block_normal ?_ | refine Fin.block_ret ?_ | refine Fin.block_hit ?_ | refine Fin.block_miss rfl ?_ | refine Fin.loop_exit ?_ | refine Fin.loop_ret ?_ | refine WP.seq ?_ | (refine WP.regionQ (by kernel_rfl) (by kernel_rfl) ?_) | refine WP.block ?_ | refine WP.region ?_ | refine WP.skip ?_ | refine WP.exit ?_ | refine WP.ret ?_ | refine WP.label ?_ | refine WP.cond_true rfl ?_ | refine WP.cond_false rfl ?_ | (refine WP.cond_dec rfl (fun h => ?_) (fun h => ?_) <;> (try (exfalso; omega))) | (refine WP.cond_bool rfl (fun h => ?_) (fun h => ?_)) | refine WL.nil ?_ | refine WL.cons ?_ | (show OP _ _ _ _ _ _ _ ⟨_, _, _, _, _, some _⟩ _ _; first | refine OP.guard_yes rfl rfl ?_ | refine OP.guard_no rfl rfl rfl rfl ?_ | refine OP.guard_un rfl rfl rfl ?_ | refine OP.guard_no0 rfl rfl rfl ?_ | (refine OP.guard_dec rfl rfl (fun h => ?_) (fun h => ?_) <;> (try (exfalso; omega))) | refine OP.guard_bool rfl rfl (fun h => ?_) (fun h => ?_)) | (show OP _ _ _ _ _ _ _ ⟨_, .move _, _, _, _, none⟩ _ _; first | refine OP.mI rfl rfl ?_ | refine OP.mB rfl rfl ?_ | refine OP.mC rfl rfl ?_ | refine OP.mF rfl rfl ?_ | refine OP.mS rfl rfl ?_ | refine OP.mP rfl rfl ?_ | refine OP.mA rfl rfl ?_ | refine OP.mT rfl rfl ?_ | refine OP.mM rfl rfl ?_ | refine OP.mU rfl rfl ?_ | refine OP.move rfl rfl ?_) | (show OP _ _ _ _ _ _ _ ⟨_, .assign _, _, _, _, none⟩ _ _; first | refine OP.aI rfl rfl ?_ | refine OP.aB rfl rfl ?_ | refine OP.aC rfl rfl ?_ | refine OP.aF rfl rfl ?_ | refine OP.aS rfl rfl ?_ | refine OP.aP rfl rfl ?_ | refine OP.aA rfl rfl ?_ | refine OP.aT rfl rfl ?_ | refine OP.aM rfl rfl ?_ | refine OP.aU rfl rfl ?_ | refine OP.assign rfl rfl ?_) | (show OP _ _ _ _ _ _ _ ⟨_, .call _, _, _, _, none⟩ _ _; first | refine OP.callq _ rfl (fun w _ => hrec w) (fun _ _ h => h.1) ?_ | refine OP.callq _ rfl (fun w _ => RTurn_fn a hwa w) (fun _ _ h => h.1) ?_ | refine OP.callq _ rfl (fun w _ => RPlain_fn (turnC a) (wf_turn hwa) w) (fun _ _ h => h.1) ?_ | refine OP.real rfl rfl ?_ | refine OP.imag rfl rfl ?_ | refine OP.complex rfl rfl rfl ?_) | (show OP _ _ _ _ _ _ _ ⟨_, .binOp _ _ _ _ _, _, _, _, none⟩ _ _; first | refine OP.quoR (b := 4) (by decide) (qq (b := 4) (by omega)) rfl rfl rfl ?_ | (refine OP.sub rfl rfl rfl ?_ ?_ ?_; omega; omega) | refine OP.eql rfl rfl rfl ?_ | refine OP.gtr rfl rfl rfl ?_ | refine OP.geq rfl rfl rfl ?_ | refine OP.eql2 rfl rfl rfl ?_ | refine OP.eqd rfl rfl rfl ?_ | refine OP.eqlb rfl rfl rfl ?_ | (refine OP.quoN rfl rfl rfl ?_ ?_ ?_ ?_; omega; omega; omega) | (refine OP.quo rfl rfl rfl ?_ ?_ ?_ ?_ ?_; omega; omega; omega; omega) | (refine OP.remN rfl rfl rfl ?_ ?_; omega) | (refine OP.rem rfl rfl rfl ?_ ?_ ?_; omega; omega)) | (show OP _ _ _ _ _ _ _ ⟨_, .pick _ _ _, _, _, _, none⟩ _ _; first | refine OP.pick_true rfl rfl ?_ | refine OP.pick_false rfl rfl ?_) | refine OP.extract rfl rfl rfl ?_)
    all_goals refine Fin.ret1 (h0 := .inl rfl) rfl rfl ?_
    all_goals exact ⟨rfl, rfl⟩
  · have m2 : ¬ N < 4 → 2 ≤ m := fun hn => by
      rcases Nat.lt_or_ge m 2 with h1 | h1
      · have := hsm h1; omega
      · exact h1
    by_cases h0 : k = 0
    · subst h0
      have er : r = (one, 0) := by
        by_cases h4 : 4 ≤ N
        · rw [at_small h4 (Nat.zero_le _) (by omega), hh] at hr
          exact (Option.some.inj hr).symm
        · unfold atC at hr
          rw [if_pos (by omega)] at hr
          simpa using hr.symm
      subst er
      clear hh hwf ih ihm
      by_cases h4 : 4 ≤ N
      · have hq : ¬ N / 4 ≤ 0 := fun h => hA ⟨h4, h⟩
        refine Does.enter Tryd.func58 rfl Tryd.ntmps58 rfl (St.start w) ?_
        repeat' (first | refine Fin.tail ?_ | refine Fin.then_normal ?_ | refine Fin.then_exit ?_ | refine Fin.then_ret ?_ | refine Fin.block_normal ?_ | refine Fin.block_ret ?_ | refine Fin.block_hit ?_ | refine Fin.block_miss rfl ?_ | refine Fin.loop_exit ?_ | refine Fin.loop_ret ?_ | refine WP.seq ?_ | (refine WP.regionQ (by kernel_rfl) (by kernel_rfl) ?_) | refine WP.block ?_ | refine WP.region ?_ | refine WP.skip ?_ | refine WP.exit ?_ | refine WP.ret ?_ | refine WP.label ?_ | refine WP.cond_true rfl ?_ | refine WP.cond_false rfl ?_ | (refine WP.cond_dec rfl (fun h => ?_) (fun h => ?_) <;> (try (exfalso; omega))) | (refine WP.cond_bool rfl (fun h => ?_) (fun h => ?_)) | refine WL.nil ?_ | refine WL.cons ?_ | (show OP _ _ _ _ _ _ _ ⟨_, _, _, _, _, some _⟩ _ _; first | refine OP.guard_yes rfl rfl ?_ | refine OP.guard_no rfl rfl rfl rfl ?_ | refine OP.guard_un rfl rfl rfl ?_ | refine OP.guard_no0 rfl rfl rfl ?_ | (refine OP.guard_dec rfl rfl (fun h => ?_) (fun h => ?_) <;> (try (exfalso; omega))) | refine OP.guard_bool rfl rfl (fun h => ?_) (fun h => ?_)) | (show OP _ _ _ _ _ _ _ ⟨_, .move _, _, _, _, none⟩ _ _; first | refine OP.mI rfl rfl ?_ | refine OP.mB rfl rfl ?_ | refine OP.mC rfl rfl ?_ | refine OP.mF rfl rfl ?_ | refine OP.mS rfl rfl ?_ | refine OP.mP rfl rfl ?_ | refine OP.mA rfl rfl ?_ | refine OP.mT rfl rfl ?_ | refine OP.mM rfl rfl ?_ | refine OP.mU rfl rfl ?_ | refine OP.move rfl rfl ?_) | (show OP _ _ _ _ _ _ _ ⟨_, .assign _, _, _, _, none⟩ _ _; first | refine OP.aI rfl rfl ?_ | refine OP.aB rfl rfl ?_ | refine OP.aC rfl rfl ?_ | refine OP.aF rfl rfl ?_ | refine OP.aS rfl rfl ?_ | refine OP.aP rfl rfl ?_ | refine OP.aA rfl rfl ?_ | refine OP.aT rfl rfl ?_ | refine OP.aM rfl rfl ?_ | refine OP.aU rfl rfl ?_ | refine OP.assign rfl rfl ?_) | (show OP _ _ _ _ _ _ _ ⟨_, .call _, _, _, _, none⟩ _ _; first | refine OP.real rfl rfl ?_ | refine OP.imag rfl rfl ?_ | refine OP.complex rfl rfl rfl ?_) | (show OP _ _ _ _ _ _ _ ⟨_, .binOp _ _ _ _ _, _, _, _, none⟩ _ _; first | refine OP.quoR (b := 4) (by decide) (qq (b := 4) (by omega)) rfl rfl rfl ?_ | (refine OP.sub rfl rfl rfl ?_ ?_ ?_; omega; omega) | refine OP.eql rfl rfl rfl ?_ | refine OP.gtr rfl rfl rfl ?_ | refine OP.geq rfl rfl rfl ?_ | refine OP.eql2 rfl rfl rfl ?_ | refine OP.eqd rfl rfl rfl ?_ | refine OP.eqlb rfl rfl rfl ?_ | (refine OP.quoN rfl rfl rfl ?_ ?_ ?_ ?_; omega; omega; omega) | (refine OP.quo rfl rfl rfl ?_ ?_ ?_ ?_ ?_; omega; omega; omega; omega) | (refine OP.remN rfl rfl rfl ?_ ?_; omega) | (refine OP.rem rfl rfl rfl ?_ ?_ ?_; omega; omega)) | (show OP _ _ _ _ _ _ _ ⟨_, .pick _ _ _, _, _, _, none⟩ _ _; first | refine OP.pick_true rfl rfl ?_ | refine OP.pick_false rfl rfl ?_) | refine OP.extract rfl rfl rfl ?_)
        all_goals refine Fin.ret1 (h0 := .inl rfl) rfl rfl ?_
        all_goals exact ⟨rfl, rfl⟩
      · refine Does.enter Tryd.func58 rfl Tryd.ntmps58 rfl (St.start w) ?_
        repeat' (first | refine Fin.tail ?_ | refine Fin.then_normal ?_ | refine Fin.then_exit ?_ | refine Fin.then_ret ?_ | refine Fin.block_normal ?_ | refine Fin.block_ret ?_ | refine Fin.block_hit ?_ | refine Fin.block_miss rfl ?_ | refine Fin.loop_exit ?_ | refine Fin.loop_ret ?_ | refine WP.seq ?_ | (refine WP.regionQ (by kernel_rfl) (by kernel_rfl) ?_) | refine WP.block ?_ | refine WP.region ?_ | refine WP.skip ?_ | refine WP.exit ?_ | refine WP.ret ?_ | refine WP.label ?_ | refine WP.cond_true rfl ?_ | refine WP.cond_false rfl ?_ | (refine WP.cond_dec rfl (fun h => ?_) (fun h => ?_) <;> (try (exfalso; omega))) | (refine WP.cond_bool rfl (fun h => ?_) (fun h => ?_)) | refine WL.nil ?_ | refine WL.cons ?_ | (show OP _ _ _ _ _ _ _ ⟨_, _, _, _, _, some _⟩ _ _; first | refine OP.guard_yes rfl rfl ?_ | refine OP.guard_no rfl rfl rfl rfl ?_ | refine OP.guard_un rfl rfl rfl ?_ | refine OP.guard_no0 rfl rfl rfl ?_ | (refine OP.guard_dec rfl rfl (fun h => ?_) (fun h => ?_) <;> (try (exfalso; omega))) | refine OP.guard_bool rfl rfl (fun h => ?_) (fun h => ?_)) | (show OP _ _ _ _ _ _ _ ⟨_, .move _, _, _, _, none⟩ _ _; first | refine OP.mI rfl rfl ?_ | refine OP.mB rfl rfl ?_ | refine OP.mC rfl rfl ?_ | refine OP.mF rfl rfl ?_ | refine OP.mS rfl rfl ?_ | refine OP.mP rfl rfl ?_ | refine OP.mA rfl rfl ?_ | refine OP.mT rfl rfl ?_ | refine OP.mM rfl rfl ?_ | refine OP.mU rfl rfl ?_ | refine OP.move rfl rfl ?_) | (show OP _ _ _ _ _ _ _ ⟨_, .assign _, _, _, _, none⟩ _ _; first | refine OP.aI rfl rfl ?_ | refine OP.aB rfl rfl ?_ | refine OP.aC rfl rfl ?_ | refine OP.aF rfl rfl ?_ | refine OP.aS rfl rfl ?_ | refine OP.aP rfl rfl ?_ | refine OP.aA rfl rfl ?_ | refine OP.aT rfl rfl ?_ | refine OP.aM rfl rfl ?_ | refine OP.aU rfl rfl ?_ | refine OP.assign rfl rfl ?_) | (show OP _ _ _ _ _ _ _ ⟨_, .call _, _, _, _, none⟩ _ _; first | refine OP.real rfl rfl ?_ | refine OP.imag rfl rfl ?_ | refine OP.complex rfl rfl rfl ?_) | (show OP _ _ _ _ _ _ _ ⟨_, .binOp _ _ _ _ _, _, _, _, none⟩ _ _; first | refine OP.quoR (b := 4) (by decide) (qq (b := 4) (by omega)) rfl rfl rfl ?_ | (refine OP.sub rfl rfl rfl ?_ ?_ ?_; omega; omega) | refine OP.eql rfl rfl rfl ?_ | refine OP.gtr rfl rfl rfl ?_ | refine OP.geq rfl rfl rfl ?_ | refine OP.eql2 rfl rfl rfl ?_ | refine OP.eqd rfl rfl rfl ?_ | refine OP.eqlb rfl rfl rfl ?_ | (refine OP.quoN rfl rfl rfl ?_ ?_ ?_ ?_; omega; omega; omega) | (refine OP.quo rfl rfl rfl ?_ ?_ ?_ ?_ ?_; omega; omega; omega; omega) | (refine OP.remN rfl rfl rfl ?_ ?_; omega) | (refine OP.rem rfl rfl rfl ?_ ?_ ?_; omega; omega)) | (show OP _ _ _ _ _ _ _ ⟨_, .pick _ _ _, _, _, _, none⟩ _ _; first | refine OP.pick_true rfl rfl ?_ | refine OP.pick_false rfl rfl ?_) | refine OP.extract rfl rfl rfl ?_)
        all_goals refine Fin.ret1 (h0 := .inl rfl) rfl rfl ?_
        all_goals exact ⟨rfl, rfl⟩
    · by_cases h4 : N < 4
      · have e2 : N = 2 ∧ k = 1 := by
          rcases Nat.lt_or_ge m 2 with h1 | h1
          · have := hsm h1; omega
          · have := hpow2 h1; have := Nat.two_pow_pos (m - 2); omega
        obtain ⟨e2, rfl⟩ := e2
        have er : r = (13830554455654793216, 0) := by
          unfold atC at hr
          rw [if_pos h4] at hr
          simpa using hr.symm
        subst er
        clear hN hpow hpow2 hsm ihm ih
        subst e2
        refine Does.enter Tryd.func58 rfl Tryd.ntmps58 rfl (St.start w) ?_
        repeat' (first | refine Fin.tail ?_ | refine Fin.then_normal ?_ | refine Fin.then_exit ?_ | refine Fin.then_ret ?_ | refine Fin.block_normal ?_ | refine Fin.block_ret ?_ | refine Fin.block_hit ?_ | refine Fin.block_miss rfl ?_ | refine Fin.loop_exit ?_ | refine Fin.loop_ret ?_ | refine WP.seq ?_ | (refine WP.regionQ (by kernel_rfl) (by kernel_rfl) ?_) | refine WP.block ?_ | refine WP.region ?_ | refine WP.skip ?_ | refine WP.exit ?_ | refine WP.ret ?_ | refine WP.label ?_ | refine WP.cond_true rfl ?_ | refine WP.cond_false rfl ?_ | (refine WP.cond_dec rfl (fun h => ?_) (fun h => ?_) <;> (try (exfalso; omega))) | (refine WP.cond_bool rfl (fun h => ?_) (fun h => ?_)) | refine WL.nil ?_ | refine WL.cons ?_ | (show OP _ _ _ _ _ _ _ ⟨_, _, _, _, _, some _⟩ _ _; first | refine OP.guard_yes rfl rfl ?_ | refine OP.guard_no rfl rfl rfl rfl ?_ | refine OP.guard_un rfl rfl rfl ?_ | refine OP.guard_no0 rfl rfl rfl ?_ | (refine OP.guard_dec rfl rfl (fun h => ?_) (fun h => ?_) <;> (try (exfalso; omega))) | refine OP.guard_bool rfl rfl (fun h => ?_) (fun h => ?_)) | (show OP _ _ _ _ _ _ _ ⟨_, .move _, _, _, _, none⟩ _ _; first | refine OP.mI rfl rfl ?_ | refine OP.mB rfl rfl ?_ | refine OP.mC rfl rfl ?_ | refine OP.mF rfl rfl ?_ | refine OP.mS rfl rfl ?_ | refine OP.mP rfl rfl ?_ | refine OP.mA rfl rfl ?_ | refine OP.mT rfl rfl ?_ | refine OP.mM rfl rfl ?_ | refine OP.mU rfl rfl ?_ | refine OP.move rfl rfl ?_) | (show OP _ _ _ _ _ _ _ ⟨_, .assign _, _, _, _, none⟩ _ _; first | refine OP.aI rfl rfl ?_ | refine OP.aB rfl rfl ?_ | refine OP.aC rfl rfl ?_ | refine OP.aF rfl rfl ?_ | refine OP.aS rfl rfl ?_ | refine OP.aP rfl rfl ?_ | refine OP.aA rfl rfl ?_ | refine OP.aT rfl rfl ?_ | refine OP.aM rfl rfl ?_ | refine OP.aU rfl rfl ?_ | refine OP.assign rfl rfl ?_) | (show OP _ _ _ _ _ _ _ ⟨_, .call _, _, _, _, none⟩ _ _; first | refine OP.real rfl rfl ?_ | refine OP.imag rfl rfl ?_ | refine OP.complex rfl rfl rfl ?_) | (show OP _ _ _ _ _ _ _ ⟨_, .binOp _ _ _ _ _, _, _, _, none⟩ _ _; first | refine OP.quoR (b := 4) (by decide) (qq (b := 4) (by omega)) rfl rfl rfl ?_ | (refine OP.sub rfl rfl rfl ?_ ?_ ?_; omega; omega) | refine OP.eql rfl rfl rfl ?_ | refine OP.gtr rfl rfl rfl ?_ | refine OP.geq rfl rfl rfl ?_ | refine OP.eql2 rfl rfl rfl ?_ | refine OP.eqd rfl rfl rfl ?_ | refine OP.eqlb rfl rfl rfl ?_ | (refine OP.quoN rfl rfl rfl ?_ ?_ ?_ ?_; omega; omega; omega) | (refine OP.quo rfl rfl rfl ?_ ?_ ?_ ?_ ?_; omega; omega; omega; omega) | (refine OP.remN rfl rfl rfl ?_ ?_; omega) | (refine OP.rem rfl rfl rfl ?_ ?_ ?_; omega; omega)) | (show OP _ _ _ _ _ _ _ ⟨_, .pick _ _ _, _, _, _, none⟩ _ _; first | refine OP.pick_true rfl rfl ?_ | refine OP.pick_false rfl rfl ?_) | refine OP.extract rfl rfl rfl ?_)
        all_goals refine Fin.ret1 (h0 := .inl rfl) rfl rfl ?_
        all_goals exact ⟨rfl, rfl⟩
      · have hm2 := m2 h4
        have hk4 : k < N / 4 := by omega
        have hm3 : 3 ≤ m := by
          rcases Nat.lt_or_ge m 3 with h1 | h1
          · obtain rfl : m = 2 := by omega
            rw [hN] at hk4; omega
          · exact h1
        have h8 := hpow hm3
        by_cases hs : k ≤ N / 8
        · rw [at_small (by omega) hs hk4] at hr
          have hkf : k < f.length := (List.getElem?_eq_some_iff.1 hr).1
          by_cases hev : k % 2 = 0
          · have hm4 : 4 ≤ m := by
              rcases Nat.lt_or_ge m 4 with h1 | h1
              · obtain rfl : m = 3 := by omega
                rw [hN] at hs; omega
              · exact h1
            obtain ⟨t, rfl⟩ : ∃ t, m = t + 4 := ⟨m - 4, by omega⟩
            obtain ⟨g, s, g1, g2, g3, g4, g5⟩ := eighth_get hf
            have hN2 : N / 2 = 2 ^ (t + 3) := by rw [hN, Nat.pow_succ]; omega
            have hg : g[k / 2]? = some r := by
              rw [← g4 (k / 2) (by omega), show 2 * (k / 2) = k by omega]; exact hr
            have hrec : ∀ w, Does Tryd.prog 58 #[.int .i64 ((N / 2 : Nat) : Int), .int .i64 ((k / 2 : Nat) : Int)] [] w fun v Γ => v = .complex .f64 r.1 r.2 ∧ Γ = [] := fun w => by
              rw [hN2]
              refine ih (k / 2) (by omega) (t + 3) g r (by omega) g1 (by rw [← hN2]; omega) ?_ w
              rw [← hN2, at_small (by omega) (by omega) (by omega)]
              exact hg
            clear ihm ih
            refine Does.enter Tryd.func58 rfl Tryd.ntmps58 rfl (St.start w) ?_
            repeat' (first | refine Fin.tail ?_ | refine Fin.then_normal ?_ | refine Fin.then_exit ?_ | refine Fin.then_ret ?_ | refine Fin.block_normal ?_ | refine Fin.block_ret ?_ | refine Fin.block_hit ?_ | refine Fin.block_miss rfl ?_ | refine Fin.loop_exit ?_ | refine Fin.loop_ret ?_ | refine WP.seq ?_ | (refine WP.regionQ (by kernel_rfl) (by kernel_rfl) ?_) | refine WP.block ?_ | refine WP.region ?_ | refine WP.skip ?_ | refine WP.exit ?_ | refine WP.ret ?_ | refine WP.label ?_ | refine WP.cond_true rfl ?_ | refine WP.cond_false rfl ?_ | (refine WP.cond_dec rfl (fun h => ?_) (fun h => ?_) <;> (try (exfalso; omega))) | (refine WP.cond_bool rfl (fun h => ?_) (fun h => ?_)) | refine WL.nil ?_ | refine WL.cons ?_ | (show OP _ _ _ _ _ _ _ ⟨_, _, _, _, _, some _⟩ _ _; first | refine OP.guard_yes rfl rfl ?_ | refine OP.guard_no rfl rfl rfl rfl ?_ | refine OP.guard_un rfl rfl rfl ?_ | refine OP.guard_no0 rfl rfl rfl ?_ | (refine OP.guard_dec rfl rfl (fun h => ?_) (fun h => ?_) <;> (try (exfalso; omega))) | refine OP.guard_bool rfl rfl (fun h => ?_) (fun h => ?_)) | (show OP _ _ _ _ _ _ _ ⟨_, .move _, _, _, _, none⟩ _ _; first | refine OP.mI rfl rfl ?_ | refine OP.mB rfl rfl ?_ | refine OP.mC rfl rfl ?_ | refine OP.mF rfl rfl ?_ | refine OP.mS rfl rfl ?_ | refine OP.mP rfl rfl ?_ | refine OP.mA rfl rfl ?_ | refine OP.mT rfl rfl ?_ | refine OP.mM rfl rfl ?_ | refine OP.mU rfl rfl ?_ | refine OP.move rfl rfl ?_) | (show OP _ _ _ _ _ _ _ ⟨_, .assign _, _, _, _, none⟩ _ _; first | refine OP.aI rfl rfl ?_ | refine OP.aB rfl rfl ?_ | refine OP.aC rfl rfl ?_ | refine OP.aF rfl rfl ?_ | refine OP.aS rfl rfl ?_ | refine OP.aP rfl rfl ?_ | refine OP.aA rfl rfl ?_ | refine OP.aT rfl rfl ?_ | refine OP.aM rfl rfl ?_ | refine OP.aU rfl rfl ?_ | refine OP.assign rfl rfl ?_) | (show OP _ _ _ _ _ _ _ ⟨_, .call _, _, _, _, none⟩ _ _; first | refine OP.callq _ rfl (fun w _ => hrec w) (fun _ _ h => h.1) ?_ | refine OP.real rfl rfl ?_ | refine OP.imag rfl rfl ?_ | refine OP.complex rfl rfl rfl ?_) | (show OP _ _ _ _ _ _ _ ⟨_, .binOp _ _ _ _ _, _, _, _, none⟩ _ _; first | refine OP.quoR (b := 4) (by decide) (qq (b := 4) (by omega)) rfl rfl rfl ?_ | refine OP.quoR (b := 8) (by decide) (qq (b := 8) (by omega)) rfl rfl rfl ?_ | refine OP.quoR (b := 2) (by decide) (qq (b := 2) (by omega)) rfl rfl rfl ?_ | refine OP.remR (b := 2) (by decide) (rr k 2) rfl rfl rfl ?_ | (refine OP.sub rfl rfl rfl ?_ ?_ ?_; omega; omega) | refine OP.eql rfl rfl rfl ?_ | refine OP.gtr rfl rfl rfl ?_ | refine OP.geq rfl rfl rfl ?_ | refine OP.eql2 rfl rfl rfl ?_ | refine OP.eqd rfl rfl rfl ?_ | refine OP.eqlb rfl rfl rfl ?_ | (refine OP.quoN rfl rfl rfl ?_ ?_ ?_ ?_; omega; omega; omega) | (refine OP.quo rfl rfl rfl ?_ ?_ ?_ ?_ ?_; omega; omega; omega; omega) | (refine OP.remN rfl rfl rfl ?_ ?_; omega) | (refine OP.rem rfl rfl rfl ?_ ?_ ?_; omega; omega)) | (show OP _ _ _ _ _ _ _ ⟨_, .pick _ _ _, _, _, _, none⟩ _ _; first | refine OP.pick_true rfl rfl ?_ | refine OP.pick_false rfl rfl ?_) | refine OP.extract rfl rfl rfl ?_)
            all_goals refine Fin.ret1 (h0 := .inl rfl) rfl rfl ?_
            all_goals exact ⟨rfl, rfl⟩
          · obtain ⟨a, s, mm, ha, hs8, hmm, rfl⟩ : ∃ a s mm, f[k - 1]? = some a ∧ stepC (m - 3) = some s ∧ mulC a s = some mm ∧ r = plainC mm := by
              rcases (by omega : m = 3 ∨ 4 ≤ m) with rfl | hm4
              · have k1 : k = 1 := by rw [hN] at hs; omega
                subst k1
                unfold eighthC at hf
                simp only [Option.bind_eq_some_iff, Option.some.injEq] at hf
                obtain ⟨s, s1, mm, s2, rfl⟩ := hf
                exact ⟨(one, 0), s, mm, rfl, s1, s2, by simpa using hr.symm⟩
              · obtain ⟨t, rfl⟩ : ∃ t, m = t + 4 := ⟨m - 4, by omega⟩
                obtain ⟨g, s, g1, g2, g3, g4, g5⟩ := eighth_get hf
                obtain ⟨a, mm, q1, q2, q3, q4⟩ := g5 (k / 2) (by omega)
                refine ⟨a, s, mm, by rw [show k - 1 = 2 * (k / 2) by omega]; exact q3, by rw [show t + 4 - 3 = t + 1 by omega]; exact g2, q2, ?_⟩
                rw [show 2 * (k / 2) + 1 = k by omega, hr] at q4
                exact Option.some.inj q4
            have hwm := wf_mul hmm
            have hst := fun w => rstep_fn (m - 3) s (by omega) hs8 w
            rw [← h8] at hst
            have hrec : ∀ w, Does Tryd.prog 58 #[.int .i64 (N : Int), .int .i64 ((k : Int) - 1)] [] w fun v Γ => v = .complex .f64 a.1 a.2 ∧ Γ = [] := fun w => by
              rw [show ((k : Int) - 1) = ((k - 1 : Nat) : Int) by omega]
              exact ihm (k - 1) (by omega) a (by omega) (by rw [at_small (by omega) (by omega) (by omega)]; exact ha) w
            clear ihm ih
            refine Does.enter Tryd.func58 rfl Tryd.ntmps58 rfl (St.start w) ?_
            repeat' (first | refine Fin.tail ?_ | refine Fin.then_normal ?_ | refine Fin.then_exit ?_ | refine Fin.then_ret ?_ | refine Fin.block_normal ?_ | refine Fin.block_ret ?_ | refine Fin.block_hit ?_ | refine Fin.block_miss rfl ?_ | refine Fin.loop_exit ?_ | refine Fin.loop_ret ?_ | refine WP.seq ?_ | (refine WP.regionQ (by kernel_rfl) (by kernel_rfl) ?_) | refine WP.block ?_ | refine WP.region ?_ | refine WP.skip ?_ | refine WP.exit ?_ | refine WP.ret ?_ | refine WP.label ?_ | refine WP.cond_true rfl ?_ | refine WP.cond_false rfl ?_ | (refine WP.cond_dec rfl (fun h => ?_) (fun h => ?_) <;> (try (exfalso; omega))) | (refine WP.cond_bool rfl (fun h => ?_) (fun h => ?_)) | refine WL.nil ?_ | refine WL.cons ?_ | (show OP _ _ _ _ _ _ _ ⟨_, _, _, _, _, some _⟩ _ _; first | refine OP.guard_yes rfl rfl ?_ | refine OP.guard_no rfl rfl rfl rfl ?_ | refine OP.guard_un rfl rfl rfl ?_ | refine OP.guard_no0 rfl rfl rfl ?_ | (refine OP.guard_dec rfl rfl (fun h => ?_) (fun h => ?_) <;> (try (exfalso; omega))) | refine OP.guard_bool rfl rfl (fun h => ?_) (fun h => ?_)) | (show OP _ _ _ _ _ _ _ ⟨_, .move _, _, _, _, none⟩ _ _; first | refine OP.mI rfl rfl ?_ | refine OP.mB rfl rfl ?_ | refine OP.mC rfl rfl ?_ | refine OP.mF rfl rfl ?_ | refine OP.mS rfl rfl ?_ | refine OP.mP rfl rfl ?_ | refine OP.mA rfl rfl ?_ | refine OP.mT rfl rfl ?_ | refine OP.mM rfl rfl ?_ | refine OP.mU rfl rfl ?_ | refine OP.move rfl rfl ?_) | (show OP _ _ _ _ _ _ _ ⟨_, .assign _, _, _, _, none⟩ _ _; first | refine OP.aI rfl rfl ?_ | refine OP.aB rfl rfl ?_ | refine OP.aC rfl rfl ?_ | refine OP.aF rfl rfl ?_ | refine OP.aS rfl rfl ?_ | refine OP.aP rfl rfl ?_ | refine OP.aA rfl rfl ?_ | refine OP.aT rfl rfl ?_ | refine OP.aM rfl rfl ?_ | refine OP.aU rfl rfl ?_ | refine OP.assign rfl rfl ?_) | (show OP _ _ _ _ _ _ _ ⟨_, .call _, _, _, _, none⟩ _ _; first | refine OP.callq _ rfl (fun w _ => hst w) (fun _ _ h => h.1) ?_ | refine OP.callq _ rfl (fun w _ => hrec w) (fun _ _ h => h.1) ?_ | refine OP.callq _ rfl (fun w _ => RMul_fn a s mm hmm w) (fun _ _ h => h.1) ?_ | refine OP.callq _ rfl (fun w _ => RPlain_fn mm hwm w) (fun _ _ h => h.1) ?_ | refine OP.real rfl rfl ?_ | refine OP.imag rfl rfl ?_ | refine OP.complex rfl rfl rfl ?_) | (show OP _ _ _ _ _ _ _ ⟨_, .binOp _ _ _ _ _, _, _, _, none⟩ _ _; first | refine OP.quoR (b := 4) (by decide) (qq (b := 4) (by omega)) rfl rfl rfl ?_ | refine OP.quoR (b := 8) (by decide) (qq (b := 8) (by omega)) rfl rfl rfl ?_ | refine OP.remR (b := 2) (by decide) (rr k 2) rfl rfl rfl ?_ | (refine OP.sub rfl rfl rfl ?_ ?_ ?_; omega; omega) | refine OP.eql rfl rfl rfl ?_ | refine OP.gtr rfl rfl rfl ?_ | refine OP.geq rfl rfl rfl ?_ | refine OP.eql2 rfl rfl rfl ?_ | refine OP.eqd rfl rfl rfl ?_ | refine OP.eqlb rfl rfl rfl ?_ | (refine OP.quoN rfl rfl rfl ?_ ?_ ?_ ?_; omega; omega; omega) | (refine OP.quo rfl rfl rfl ?_ ?_ ?_ ?_ ?_; omega; omega; omega; omega) | (refine OP.remN rfl rfl rfl ?_ ?_; omega) | (refine OP.rem rfl rfl rfl ?_ ?_ ?_; omega; omega)) | (show OP _ _ _ _ _ _ _ ⟨_, .pick _ _ _, _, _, _, none⟩ _ _; first | refine OP.pick_true rfl rfl ?_ | refine OP.pick_false rfl rfl ?_) | refine OP.extract rfl rfl rfl ?_)
            all_goals refine Fin.ret1 (h0 := .inl rfl) rfl rfl ?_
            all_goals exact ⟨rfl, rfl⟩
        · obtain ⟨a, ha, rfl⟩ := at_swap (by omega) (by omega) hs hk4 hr
          have hrec : ∀ w, Does Tryd.prog 58 #[.int .i64 (N : Int), .int .i64 (((N / 4 : Nat) : Int) - (k : Int))] [] w fun v Γ => v = .complex .f64 a.1 a.2 ∧ Γ = [] := fun w => by
            rw [show (((N / 4 : Nat) : Int) - (k : Int)) = ((N / 4 - k : Nat) : Int) by omega]
            exact ihm (N / 4 - k) (by omega) a (by omega) ha w
          clear ihm ih
          refine Does.enter Tryd.func58 rfl Tryd.ntmps58 rfl (St.start w) ?_
          repeat' (first | refine Fin.tail ?_ | refine Fin.then_normal ?_ | refine Fin.then_exit ?_ | refine Fin.then_ret ?_ | refine Fin.block_normal ?_ | refine Fin.block_ret ?_ | refine Fin.block_hit ?_ | refine Fin.block_miss rfl ?_ | refine Fin.loop_exit ?_ | refine Fin.loop_ret ?_ | refine WP.seq ?_ | (refine WP.regionQ (by kernel_rfl) (by kernel_rfl) ?_) | refine WP.block ?_ | refine WP.region ?_ | refine WP.skip ?_ | refine WP.exit ?_ | refine WP.ret ?_ | refine WP.label ?_ | refine WP.cond_true rfl ?_ | refine WP.cond_false rfl ?_ | (refine WP.cond_dec rfl (fun h => ?_) (fun h => ?_) <;> (try (exfalso; omega))) | (refine WP.cond_bool rfl (fun h => ?_) (fun h => ?_)) | refine WL.nil ?_ | refine WL.cons ?_ | (show OP _ _ _ _ _ _ _ ⟨_, _, _, _, _, some _⟩ _ _; first | refine OP.guard_yes rfl rfl ?_ | refine OP.guard_no rfl rfl rfl rfl ?_ | refine OP.guard_un rfl rfl rfl ?_ | refine OP.guard_no0 rfl rfl rfl ?_ | (refine OP.guard_dec rfl rfl (fun h => ?_) (fun h => ?_) <;> (try (exfalso; omega))) | refine OP.guard_bool rfl rfl (fun h => ?_) (fun h => ?_)) | (show OP _ _ _ _ _ _ _ ⟨_, .move _, _, _, _, none⟩ _ _; first | refine OP.mI rfl rfl ?_ | refine OP.mB rfl rfl ?_ | refine OP.mC rfl rfl ?_ | refine OP.mF rfl rfl ?_ | refine OP.mS rfl rfl ?_ | refine OP.mP rfl rfl ?_ | refine OP.mA rfl rfl ?_ | refine OP.mT rfl rfl ?_ | refine OP.mM rfl rfl ?_ | refine OP.mU rfl rfl ?_ | refine OP.move rfl rfl ?_) | (show OP _ _ _ _ _ _ _ ⟨_, .assign _, _, _, _, none⟩ _ _; first | refine OP.aI rfl rfl ?_ | refine OP.aB rfl rfl ?_ | refine OP.aC rfl rfl ?_ | refine OP.aF rfl rfl ?_ | refine OP.aS rfl rfl ?_ | refine OP.aP rfl rfl ?_ | refine OP.aA rfl rfl ?_ | refine OP.aT rfl rfl ?_ | refine OP.aM rfl rfl ?_ | refine OP.aU rfl rfl ?_ | refine OP.assign rfl rfl ?_) | (show OP _ _ _ _ _ _ _ ⟨_, .call _, _, _, _, none⟩ _ _; first | refine OP.callq _ rfl (fun w _ => hrec w) (fun _ _ h => h.1) ?_ | refine OP.real rfl rfl ?_ | refine OP.imag rfl rfl ?_ | refine OP.complex rfl rfl rfl ?_) | (show OP _ _ _ _ _ _ _ ⟨_, .binOp _ _ _ _ _, _, _, _, none⟩ _ _; first | refine OP.quoR (b := 4) (by decide) (qq (b := 4) (by omega)) rfl rfl rfl ?_ | refine OP.quoR (b := 8) (by decide) (qq (b := 8) (by omega)) rfl rfl rfl ?_ | (refine OP.sub rfl rfl rfl ?_ ?_ ?_; omega; omega) | refine OP.eql rfl rfl rfl ?_ | refine OP.gtr rfl rfl rfl ?_ | refine OP.geq rfl rfl rfl ?_ | refine OP.eql2 rfl rfl rfl ?_ | refine OP.eqd rfl rfl rfl ?_ | refine OP.eqlb rfl rfl rfl ?_ | (refine OP.quoN rfl rfl rfl ?_ ?_ ?_ ?_; omega; omega; omega) | (refine OP.quo rfl rfl rfl ?_ ?_ ?_ ?_ ?_; omega; omega; omega; omega) | (refine OP.remN rfl rfl rfl ?_ ?_; omega) | (refine OP.rem rfl rfl rfl ?_ ?_ ?_; omega; omega)) | (show OP _ _ _ _ _ _ _ ⟨_, .pick _ _ _, _, _, _, none⟩ _ _; first | refine OP.pick_true rfl rfl ?_ | refine OP.pick_false rfl rfl ?_) | refine OP.extract rfl rfl rfl ?_)
          all_goals refine Fin.ret1 (h0 := .inl rfl) rfl rfl ?_
          all_goals exact ⟨rfl, rfl⟩
end Go.Proofs.YtjckoflcjkajiaaDoor
