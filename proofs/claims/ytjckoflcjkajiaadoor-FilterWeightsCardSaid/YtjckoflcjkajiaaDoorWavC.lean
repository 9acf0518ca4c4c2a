/- Layer 2: the first eighth and the table, walked. %compact -/
import Derived.Test.YtjckoflcjkajiaaDoorWavB
set_option linter.unusedVariables false
set_option maxRecDepth 100000
namespace Go.Proofs.YtjckoflcjkajiaaDoor
open Go.Pen Go.Flt Go.Wav

theorem wv_len {s : Cx} {h : List Cx} : ∀ {i : Nat} {l : List Cx}, i ≤ h.length → wv s h i = some l → l.length ≤ 2 * i ∧ i ≤ l.length
  | 0, l, _, e => by
    obtain rfl : [] = l := by simpa [wv] using e
    simp
  | i + 1, l, hi, e => by
    unfold wv at e
    simp only [Option.bind_eq_some_iff] at e
    obtain ⟨l', h1, b, h2, h3⟩ := e
    have := wv_len (by omega) h1
    split at h3
    · simp only [Option.bind_eq_some_iff, Option.some.injEq] at h3
      obtain ⟨m, h4, rfl⟩ := h3
      simp only [List.length_append, List.length_cons, List.length_nil]; omega
    · obtain rfl : l' ++ [b] = l := by simpa using h3
      simp only [List.length_append, List.length_cons, List.length_nil]; omega
theorem wv_some {s : Cx} {h : List Cx} : ∀ {i j : Nat} {l : List Cx}, i ≤ j → wv s h j = some l → ∃ l', wv s h i = some l'
  | i, 0, l, hij, e => by obtain rfl : i = 0 := by omega
                          exact ⟨l, e⟩
  | i, j + 1, l, hij, e => by
    by_cases h' : i = j + 1
    · subst h'; exact ⟨l, e⟩
    · unfold wv at e
      simp only [Option.bind_eq_some_iff] at e
      obtain ⟨l', h1, _⟩ := e
      exact wv_some (by omega) h1
theorem eighth_len : ∀ {m : Nat} {l : List Cx}, eighthC m = some l → 1 ≤ l.length ∧ l.length ≤ 2 ^ m
  | 0, l, e => by
    obtain rfl : [(one, 0)] = l := by simpa [eighthC] using e
    simp
  | 1, l, e => by
    obtain rfl : [(one, 0)] = l := by simpa [eighthC] using e
    simp
  | 2, l, e => by
    obtain rfl : [(one, 0)] = l := by simpa [eighthC] using e
    simp
  | 3, l, e => by
    unfold eighthC at e
    simp only [Option.bind_eq_some_iff, Option.some.injEq] at e
    obtain ⟨s, _, m, h2, rfl⟩ := e
    simp
  | m + 4, l, e => by
    unfold eighthC at e
    simp only [Option.bind_eq_some_iff] at e
    obtain ⟨h, h1, s, h2, h3⟩ := e
    have g := eighth_len h1
    have w := wv_len (Nat.le_refl _) h3
    rw [Nat.pow_succ]; omega

set_option maxHeartbeats 4000000 in
theorem eighth_fn : ∀ (m : Nat) (l : List Cx), m ≤ 12 → eighthC m = some l → ∀ w, Does Tryd.prog 40 #[.int .i64 ((2 ^ m : Nat) : Int)] [] w fun v Γ => ∃ b cap sp, v = .slice (some ⟨b, 0, none⟩) l.length cap ∧ Γ = [(b, .cells (cxs l ++ sp).toArray 31 (0, 0))]
  | 0, l, hm, h8, w => by
    obtain rfl : [(one, 0)] = l := by simpa [eighthC] using h8
    refine Does.enter Tryd.func40 rfl Tryd.ntmps40 rfl (St.start w) ?_
    repeat' (first | refine Fin.tail ?_ | refine Fin.then_normal ?_ | refine Fin.then_exit ?_ | refine Fin.then_ret ?_ | refine Fin.block_normal ?_ | refine Fin.block_ret ?_ | refine Fin.block_hit ?_ | refine Fin.block_miss rfl ?_ | refine Fin.loop_exit ?_ | refine Fin.loop_ret ?_ | refine WP.seq ?_ | (refine WP.regionQ (by kernel_rfl) (by kernel_rfl) ?_) | refine WP.block ?_ | refine WP.region ?_ | refine WP.skip ?_ | refine WP.exit ?_ | refine WP.ret ?_ | refine WP.label ?_ | refine WP.cond_true rfl ?_ | refine WP.cond_false rfl ?_ | (refine WP.cond_dec rfl (fun h => ?_) (fun h => ?_) <;> (try (exfalso; omega))) | (refine WP.cond_bool rfl (fun h => ?_) (fun h => ?_)) | refine WL.nil ?_ | refine WL.cons ?_ | (show OP _ _ _ _ _ _ _ ⟨_, .move _, _, _, _, none⟩ _ _; first | refine OP.mI rfl rfl ?_ | refine OP.mB rfl rfl ?_ | refine OP.mC rfl rfl ?_ | refine OP.mF rfl rfl ?_ | refine OP.mS rfl rfl ?_ | refine OP.mP rfl rfl ?_ | refine OP.mA rfl rfl ?_ | refine OP.mT rfl rfl ?_ | refine OP.mM rfl rfl ?_ | refine OP.mU rfl rfl ?_ | refine OP.move rfl rfl ?_) | (show OP _ _ _ _ _ _ _ ⟨_, .assign _, _, _, _, none⟩ _ _; first | refine OP.aI rfl rfl ?_ | refine OP.aB rfl rfl ?_ | refine OP.aC rfl rfl ?_ | refine OP.aF rfl rfl ?_ | refine OP.aS rfl rfl ?_ | refine OP.aP rfl rfl ?_ | refine OP.aA rfl rfl ?_ | refine OP.aT rfl rfl ?_ | refine OP.aM rfl rfl ?_ | refine OP.aU rfl rfl ?_ | refine OP.assign rfl rfl ?_) | refine OP.len rfl rfl rfl ?_ | (show OP _ _ _ _ _ _ _ ⟨_, .binOp _ _ _ _ _, _, _, _, none⟩ _ _; first | (refine OP.add rfl rfl rfl ?_ ?_ ?_; omega; omega) | (refine OP.sub rfl rfl rfl ?_ ?_ ?_; omega; omega) | refine OP.lss rfl rfl rfl ?_ | (refine OP.quoN rfl rfl rfl ?_ ?_ ?_ ?_; omega; omega; omega) | (refine OP.quo rfl rfl rfl ?_ ?_ ?_ ?_ ?_; omega; omega; omega; omega)) | (show OP _ _ _ _ _ _ _ ⟨_, .load _ _, _, _, _, none⟩ _ _; first | refine OP.ld rfl rfl inferInstance rfl ?_ | refine OP.load rfl rfl (Sees.old0 (by assumption)) ?_ | refine OP.ldA rfl rfl inferInstance rfl ?_) | (refine OP.buildSlice rfl rfl ?_ rfl rfl (fun bs => ?_); (decide)) | refine OP.buildSlice0 rfl rfl (fun bs => ?_))
    refine Fin.ret1 (h0 := .inl rfl) rfl rfl ?_
    exact ⟨bs, 1, [], rfl, rfl⟩
  | 1, l, hm, h8, w => by
    obtain rfl : [(one, 0)] = l := by simpa [eighthC] using h8
    refine Does.enter Tryd.func40 rfl Tryd.ntmps40 rfl (St.start w) ?_
    repeat' (first | refine Fin.tail ?_ | refine Fin.then_normal ?_ | refine Fin.then_exit ?_ | refine Fin.then_ret ?_ | refine Fin.block_normal ?_ | refine Fin.block_ret ?_ | refine Fin.block_hit ?_ | refine Fin.block_miss rfl ?_ | refine Fin.loop_exit ?_ | refine Fin.loop_ret ?_ | refine WP.seq ?_ | (refine WP.regionQ (by kernel_rfl) (by kernel_rfl) ?_) | refine WP.block ?_ | refine WP.region ?_ | refine WP.skip ?_ | refine WP.exit ?_ | refine WP.ret ?_ | refine WP.label ?_ | refine WP.cond_true rfl ?_ | refine WP.cond_false rfl ?_ | (refine WP.cond_dec rfl (fun h => ?_) (fun h => ?_) <;> (try (exfalso; omega))) | (refine WP.cond_bool rfl (fun h => ?_) (fun h => ?_)) | refine WL.nil ?_ | refine WL.cons ?_ | (show OP _ _ _ _ _ _ _ ⟨_, .move _, _, _, _, none⟩ _ _; first | refine OP.mI rfl rfl ?_ | refine OP.mB rfl rfl ?_ | refine OP.mC rfl rfl ?_ | refine OP.mF rfl rfl ?_ | refine OP.mS rfl rfl ?_ | refine OP.mP rfl rfl ?_ | refine OP.mA rfl rfl ?_ | refine OP.mT rfl rfl ?_ | refine OP.mM rfl rfl ?_ | refine OP.mU rfl rfl ?_ | refine OP.move rfl rfl ?_) | (show OP _ _ _ _ _ _ _ ⟨_, .assign _, _, _, _, none⟩ _ _; first | refine OP.aI rfl rfl ?_ | refine OP.aB rfl rfl ?_ | refine OP.aC rfl rfl ?_ | refine OP.aF rfl rfl ?_ | refine OP.aS rfl rfl ?_ | refine OP.aP rfl rfl ?_ | refine OP.aA rfl rfl ?_ | refine OP.aT rfl rfl ?_ | refine OP.aM rfl rfl ?_ | refine OP.aU rfl rfl ?_ | refine OP.assign rfl rfl ?_) | refine OP.len rfl rfl rfl ?_ | (show OP _ _ _ _ _ _ _ ⟨_, .binOp _ _ _ _ _, _, _, _, none⟩ _ _; first | (refine OP.add rfl rfl rfl ?_ ?_ ?_; omega; omega) | (refine OP.sub rfl rfl rfl ?_ ?_ ?_; omega; omega) | refine OP.lss rfl rfl rfl ?_ | (refine OP.quoN rfl rfl rfl ?_ ?_ ?_ ?_; omega; omega; omega) | (refine OP.quo rfl rfl rfl ?_ ?_ ?_ ?_ ?_; omega; omega; omega; omega)) | (show OP _ _ _ _ _ _ _ ⟨_, .load _ _, _, _, _, none⟩ _ _; first | refine OP.ld rfl rfl inferInstance rfl ?_ | refine OP.load rfl rfl (Sees.old0 (by assumption)) ?_ | refine OP.ldA rfl rfl inferInstance rfl ?_) | (refine OP.buildSlice rfl rfl ?_ rfl rfl (fun bs => ?_); (decide)) | refine OP.buildSlice0 rfl rfl (fun bs => ?_))
    refine Fin.ret1 (h0 := .inl rfl) rfl rfl ?_
    exact ⟨bs, 1, [], rfl, rfl⟩
  | 2, l, hm, h8, w => by
    obtain rfl : [(one, 0)] = l := by simpa [eighthC] using h8
    refine Does.enter Tryd.func40 rfl Tryd.ntmps40 rfl (St.start w) ?_
    repeat' (first | refine Fin.tail ?_ | refine Fin.then_normal ?_ | refine Fin.then_exit ?_ | refine Fin.then_ret ?_ | refine Fin.block_normal ?_ | refine Fin.block_ret ?_ | refine Fin.block_hit ?_ | refine Fin.block_miss rfl ?_ | refine Fin.loop_exit ?_ | refine Fin.loop_ret ?_ | refine WP.seq ?_ | (refine WP.regionQ (by kernel_rfl) (by kernel_rfl) ?_) | refine WP.block ?_ | refine WP.region ?_ | refine WP.skip ?_ | refine WP.exit ?_ | refine WP.ret ?_ | refine WP.label ?_ | refine WP.cond_true rfl ?_ | refine WP.cond_false rfl ?_ | (refine WP.cond_dec rfl (fun h => ?_) (fun h => ?_) <;> (try (exfalso; omega))) | (refine WP.cond_bool rfl (fun h => ?_) (fun h => ?_)) | refine WL.nil ?_ | refine WL.cons ?_ | (show OP _ _ _ _ _ _ _ ⟨_, .move _, _, _, _, none⟩ _ _; first | refine OP.mI rfl rfl ?_ | refine OP.mB rfl rfl ?_ | refine OP.mC rfl rfl ?_ | refine OP.mF rfl rfl ?_ | refine OP.mS rfl rfl ?_ | refine OP.mP rfl rfl ?_ | refine OP.mA rfl rfl ?_ | refine OP.mT rfl rfl ?_ | refine OP.mM rfl rfl ?_ | refine OP.mU rfl rfl ?_ | refine OP.move rfl rfl ?_) | (show OP _ _ _ _ _ _ _ ⟨_, .assign _, _, _, _, none⟩ _ _; first | refine OP.aI rfl rfl ?_ | refine OP.aB rfl rfl ?_ | refine OP.aC rfl rfl ?_ | refine OP.aF rfl rfl ?_ | refine OP.aS rfl rfl ?_ | refine OP.aP rfl rfl ?_ | refine OP.aA rfl rfl ?_ | refine OP.aT rfl rfl ?_ | refine OP.aM rfl rfl ?_ | refine OP.aU rfl rfl ?_ | refine OP.assign rfl rfl ?_) | refine OP.len rfl rfl rfl ?_ | (show OP _ _ _ _ _ _ _ ⟨_, .binOp _ _ _ _ _, _, _, _, none⟩ _ _; first | (refine OP.add rfl rfl rfl ?_ ?_ ?_; omega; omega) | (refine OP.sub rfl rfl rfl ?_ ?_ ?_; omega; omega) | refine OP.lss rfl rfl rfl ?_ | (refine OP.quoN rfl rfl rfl ?_ ?_ ?_ ?_; omega; omega; omega) | (refine OP.quo rfl rfl rfl ?_ ?_ ?_ ?_ ?_; omega; omega; omega; omega)) | (show OP _ _ _ _ _ _ _ ⟨_, .load _ _, _, _, _, none⟩ _ _; first | refine OP.ld rfl rfl inferInstance rfl ?_ | refine OP.load rfl rfl (Sees.old0 (by assumption)) ?_ | refine OP.ldA rfl rfl inferInstance rfl ?_) | (refine OP.buildSlice rfl rfl ?_ rfl rfl (fun bs => ?_); (decide)) | refine OP.buildSlice0 rfl rfl (fun bs => ?_))
    refine Fin.ret1 (h0 := .inl rfl) rfl rfl ?_
    exact ⟨bs, 1, [], rfl, rfl⟩
  | 3, l, hm, h8, w => by
    unfold eighthC at h8
    simp only [Option.bind_eq_some_iff, Option.some.injEq] at h8
    obtain ⟨s, hs, q, hq, rfl⟩ := h8
    have hwq := wf_mul hq
    refine Does.enter Tryd.func40 rfl Tryd.ntmps40 rfl (St.start w) ?_
    repeat' (first | refine Fin.tail ?_ | refine Fin.then_normal ?_ | refine Fin.then_exit ?_ | refine Fin.then_ret ?_ | refine Fin.block_normal ?_ | refine Fin.block_ret ?_ | refine Fin.block_hit ?_ | refine Fin.block_miss rfl ?_ | refine Fin.loop_exit ?_ | refine Fin.loop_ret ?_ | refine WP.seq ?_ | (refine WP.regionQ (by kernel_rfl) (by kernel_rfl) ?_) | refine WP.block ?_ | refine WP.region ?_ | refine WP.skip ?_ | refine WP.exit ?_ | refine WP.ret ?_ | refine WP.label ?_ | refine WP.cond_true rfl ?_ | refine WP.cond_false rfl ?_ | (refine WP.cond_dec rfl (fun h => ?_) (fun h => ?_) <;> (try (exfalso; omega))) | (refine WP.cond_bool rfl (fun h => ?_) (fun h => ?_)) | refine WL.nil ?_ | refine WL.cons ?_ | (show OP _ _ _ _ _ _ _ ⟨_, .move _, _, _, _, none⟩ _ _; first | refine OP.mI rfl rfl ?_ | refine OP.mB rfl rfl ?_ | refine OP.mC rfl rfl ?_ | refine OP.mF rfl rfl ?_ | refine OP.mS rfl rfl ?_ | refine OP.mP rfl rfl ?_ | refine OP.mA rfl rfl ?_ | refine OP.mT rfl rfl ?_ | refine OP.mM rfl rfl ?_ | refine OP.mU rfl rfl ?_ | refine OP.move rfl rfl ?_) | (show OP _ _ _ _ _ _ _ ⟨_, .assign _, _, _, _, none⟩ _ _; first | refine OP.aI rfl rfl ?_ | refine OP.aB rfl rfl ?_ | refine OP.aC rfl rfl ?_ | refine OP.aF rfl rfl ?_ | refine OP.aS rfl rfl ?_ | refine OP.aP rfl rfl ?_ | refine OP.aA rfl rfl ?_ | refine OP.aT rfl rfl ?_ | refine OP.aM rfl rfl ?_ | refine OP.aU rfl rfl ?_ | refine OP.assign rfl rfl ?_) | (show OP _ _ _ _ _ _ _ ⟨_, .call _, _, _, _, none⟩ _ _; first | refine OP.callq _ rfl (fun w _ => step_fn 0 s (by decide) hs w) (fun _ _ h => h.1) ?_ | refine OP.callq _ rfl (fun w _ => Mul_fn (one, 0) s q hq w) (fun _ _ h => h.1) ?_ | refine OP.callq _ rfl (fun w _ => Plain_fn q hwq.1 hwq.2 w) (fun _ _ h => h.1) ?_ | refine OP.len rfl rfl rfl ?_) | (show OP _ _ _ _ _ _ _ ⟨_, .binOp _ _ _ _ _, _, _, _, none⟩ _ _; first | (refine OP.add rfl rfl rfl ?_ ?_ ?_; omega; omega) | (refine OP.sub rfl rfl rfl ?_ ?_ ?_; omega; omega) | refine OP.lss rfl rfl rfl ?_ | (refine OP.quoN rfl rfl rfl ?_ ?_ ?_ ?_; omega; omega; omega) | (refine OP.quo rfl rfl rfl ?_ ?_ ?_ ?_ ?_; omega; omega; omega; omega)) | (show OP _ _ _ _ _ _ _ ⟨_, .load _ _, _, _, _, none⟩ _ _; first | refine OP.ld rfl rfl inferInstance rfl ?_ | refine OP.load rfl rfl (Sees.old0 (by assumption)) ?_ | refine OP.ldA rfl rfl inferInstance rfl ?_) | (refine OP.buildSlice rfl rfl ?_ rfl rfl (fun bs => ?_); (decide)) | refine OP.buildSlice0 rfl rfl (fun bs => ?_))
    refine Fin.ret1 (h0 := .inl rfl) rfl rfl ?_
    exact ⟨bs, 2, [], rfl, rfl⟩
  | m + 4, l, hm, h8, w => by
    unfold eighthC at h8
    simp only [Option.bind_eq_some_iff] at h8
    obtain ⟨g, hg, s, hs, hl⟩ := h8
    have hp := pow_bd (show m + 4 ≤ 12 by omega)
    have hp0 : 16 ≤ 2 ^ (m + 4) := by rw [show m + 4 = m + 4 from rfl, Nat.pow_add]; have := Nat.two_pow_pos m; omega
    have hh := quo_nat (a := 2 ^ (m + 4)) (b := 2) (c := 2 ^ (m + 3)) (by rw [Nat.pow_succ]; omega) (by omega)
    have e8 : ((2 ^ (m + 4) : Nat) : Int) = ((8 * 2 ^ (m + 1) : Nat) : Int) := by rw [show m + 4 = m + 1 + 3 from rfl, Nat.pow_add _ _ 3]; omega
    have gl := eighth_len hg
    have g3 : 2 ^ (m + 3) ≤ 4096 := pow_bd (by omega)
    have hwg := wf_eighth hg
    have st := step_fn (m + 1) s (by omega) hs
    rw [← e8] at st
    refine Does.enter Tryd.func40 rfl Tryd.ntmps40 rfl (St.start w) ?_
    repeat' (first | refine Fin.tail ?_ | refine Fin.then_normal ?_ | refine Fin.then_exit ?_ | refine Fin.then_ret ?_ | refine Fin.block_normal ?_ | refine Fin.block_ret ?_ | refine Fin.block_hit ?_ | refine Fin.block_miss rfl ?_ | refine Fin.loop_exit ?_ | refine Fin.loop_ret ?_ | refine WP.seq ?_ | (refine WP.regionQ (by kernel_rfl) (by kernel_rfl) ?_) | refine WP.block ?_ | refine WP.region ?_ | refine WP.skip ?_ | refine WP.exit ?_ | refine WP.ret ?_ | refine WP.label ?_ | refine WP.cond_true rfl ?_ | refine WP.cond_false rfl ?_ | (refine WP.cond_dec rfl (fun h => ?_) (fun h => ?_) <;> (try (exfalso; omega))) | (refine WP.cond_bool rfl (fun h => ?_) (fun h => ?_)) | refine WL.nil ?_ | refine WL.cons ?_ | (show OP _ _ _ _ _ _ _ ⟨_, .move _, _, _, _, none⟩ _ _; first | refine OP.mI rfl rfl ?_ | refine OP.mB rfl rfl ?_ | refine OP.mC rfl rfl ?_ | refine OP.mF rfl rfl ?_ | refine OP.mS rfl rfl ?_ | refine OP.mP rfl rfl ?_ | refine OP.mA rfl rfl ?_ | refine OP.mT rfl rfl ?_ | refine OP.mM rfl rfl ?_ | refine OP.mU rfl rfl ?_ | refine OP.move rfl rfl ?_) | (show OP _ _ _ _ _ _ _ ⟨_, .assign _, _, _, _, none⟩ _ _; first | refine OP.aI rfl rfl ?_ | refine OP.aB rfl rfl ?_ | refine OP.aC rfl rfl ?_ | refine OP.aF rfl rfl ?_ | refine OP.aS rfl rfl ?_ | refine OP.aP rfl rfl ?_ | refine OP.aA rfl rfl ?_ | refine OP.aT rfl rfl ?_ | refine OP.aM rfl rfl ?_ | refine OP.aU rfl rfl ?_ | refine OP.assign rfl rfl ?_) | (show OP _ _ _ _ _ _ _ ⟨_, .call _, _, _, _, none⟩ _ _; first | (refine OP.call rfl (fun w _ => eighth_fn (m + 3) g (by omega) hg w) (fun _ _ hR => ?_); obtain ⟨hb, hcap, hsp, rfl, rfl⟩ := hR) | refine OP.callq _ rfl (fun w _ => st w) (fun _ _ h => h.1) ?_ | refine OP.len rfl rfl rfl ?_) | (show OP _ _ _ _ _ _ _ ⟨_, .binOp _ _ _ _ _, _, _, _, none⟩ _ _; first | refine OP.quoR (b := 2) (by decide) hh rfl rfl rfl ?_ | (refine OP.add rfl rfl rfl ?_ ?_ ?_; omega; omega) | (refine OP.sub rfl rfl rfl ?_ ?_ ?_; omega; omega) | refine OP.lss rfl rfl rfl ?_ | (refine OP.quoN rfl rfl rfl ?_ ?_ ?_ ?_; omega; omega; omega) | (refine OP.quo rfl rfl rfl ?_ ?_ ?_ ?_ ?_; omega; omega; omega; omega)) | (show OP _ _ _ _ _ _ _ ⟨_, .load _ _, _, _, _, none⟩ _ _; first | refine OP.ld rfl rfl inferInstance rfl ?_ | refine OP.load rfl rfl (Sees.old0 (by assumption)) ?_ | refine OP.ldA rfl rfl inferInstance rfl ?_) | (refine OP.buildSlice rfl rfl ?_ rfl rfl (fun bs => ?_); (decide)) | refine OP.buildSlice0 rfl rfl (fun bs => ?_))
    refine WP.loop [5, 6, 7, 24, 25, 26, 27, 28, 29, 30, 31, 32, 33, 34, 35, 36, 37, 38, 39, 40, 41, 42, 43, 44, 45] (fun z : Nat × List Cx × Nat × Nat × List Value => [(24, .int .i64 z.1), (5, rowV z.2.1.length z.2.2.1 z.2.2.2.1)]) (fun z => [(hb, .cells (cxs g ++ hsp).toArray 31 (0, 0))] ++ (rowM z.2.1.length z.2.2.1 (cxs z.2.1) z.2.2.2.2 31 ++ []))
      (fun z => z.1 ≤ g.length ∧ wv s g z.1 = some z.2.1 ∧ (z.2.1.length = 0 ∨ (cxs z.2.1).length + z.2.2.2.2.length = z.2.2.2.1 * 1)) (fun z => g.length - z.1) (0, [], 0, 0, []) ⟨by dsimp only; omega, rfl, .inl rfl⟩ rfl ⟨rfl, rfl, trivial⟩ ?_
    rintro ⟨i, o, ob, ocap, osp⟩ ji ⟨i1, i2, i3⟩
    dsimp only [updL] at i1 i2 i3 ⊢
    by_cases hi : i < g.length
    · obtain ⟨a, ha⟩ : ∃ a, g[i]? = some a := ⟨g[i], List.getElem?_eq_getElem hi⟩
      have wl := wv_len i1 i2
      have hca := cxs_at (sp := hsp) ha
      obtain ⟨o', ho'⟩ := wv_some (show i + 1 ≤ g.length by omega) hl
      have ho2 := ho'
      unfold wv at ho2
      rw [i2, ha] at ho2
      simp only [Option.bind_some] at ho2
      repeat' (first | refine OP.indexAddr (j := i) rfl rfl rfl rfl hi ?_ | refine OP.load rfl rfl (Sees.own (List.Mem.head _) hca) ?_ | refine Fin.tail ?_ | refine Fin.then_normal ?_ | refine Fin.then_exit ?_ | refine Fin.then_ret ?_ | refine Fin.block_normal ?_ | refine Fin.block_ret ?_ | refine Fin.block_hit ?_ | refine Fin.block_miss rfl ?_ | refine Fin.loop_exit ?_ | refine Fin.loop_ret ?_ | refine WP.seq ?_ | (refine WP.regionQ (by kernel_rfl) (by kernel_rfl) ?_) | refine WP.block ?_ | refine WP.region ?_ | refine WP.skip ?_ | refine WP.exit ?_ | refine WP.ret ?_ | refine WP.label ?_ | refine WP.cond_true rfl ?_ | refine WP.cond_false rfl ?_ | (refine WP.cond_dec rfl (fun h => ?_) (fun h => ?_) <;> (try (exfalso; omega))) | (refine WP.cond_bool rfl (fun h => ?_) (fun h => ?_)) | refine WL.nil ?_ | refine WL.cons ?_ | (show OP _ _ _ _ _ _ _ ⟨_, .move _, _, _, _, none⟩ _ _; first | refine OP.mI rfl rfl ?_ | refine OP.mB rfl rfl ?_ | refine OP.mC rfl rfl ?_ | refine OP.mF rfl rfl ?_ | refine OP.mS rfl rfl ?_ | refine OP.mP rfl rfl ?_ | refine OP.mA rfl rfl ?_ | refine OP.mT rfl rfl ?_ | refine OP.mM rfl rfl ?_ | refine OP.mU rfl rfl ?_ | refine OP.move rfl rfl ?_) | (show OP _ _ _ _ _ _ _ ⟨_, .assign _, _, _, _, none⟩ _ _; first | refine OP.aI rfl rfl ?_ | refine OP.aB rfl rfl ?_ | refine OP.aC rfl rfl ?_ | refine OP.aF rfl rfl ?_ | refine OP.aS rfl rfl ?_ | refine OP.aP rfl rfl ?_ | refine OP.aA rfl rfl ?_ | refine OP.aT rfl rfl ?_ | refine OP.aM rfl rfl ?_ | refine OP.aU rfl rfl ?_ | refine OP.assign rfl rfl ?_) | refine OP.len rfl rfl rfl ?_ | (show OP _ _ _ _ _ _ _ ⟨_, .binOp _ _ _ _ _, _, _, _, none⟩ _ _; first | (refine OP.add rfl rfl rfl ?_ ?_ ?_; omega; omega) | (refine OP.sub rfl rfl rfl ?_ ?_ ?_; omega; omega) | refine OP.lss rfl rfl rfl ?_ | (refine OP.quoN rfl rfl rfl ?_ ?_ ?_ ?_; omega; omega; omega) | (refine OP.quo rfl rfl rfl ?_ ?_ ?_ ?_ ?_; omega; omega; omega; omega)) | (show OP _ _ _ _ _ _ _ ⟨_, .load _ _, _, _, _, none⟩ _ _; first | refine OP.ld rfl rfl inferInstance rfl ?_ | refine OP.load rfl rfl (Sees.old0 (by assumption)) ?_ | refine OP.ldA rfl rfl inferInstance rfl ?_) | (refine OP.buildSlice rfl rfl ?_ rfl rfl (fun bs => ?_); (decide)) | refine OP.buildSlice0 rfl rfl (fun bs => ?_))
      refine OP.pushP (m := 1) (bytes := 16) (z := .complex .f64 0 0) (Γ1 := [_]) (len := o.length) (b := ob) (cap := ocap) (xs := cxs o) (sp := osp)
        (vs := [.complex .f64 a.1 a.2]) WL.slack rfl rfl rfl rfl rfl rfl rfl (by rw [cxs_len]; omega) i3 (by omega) (by omega) (fun b1 sp1 cap1 hl1 => ?_)
      have ex : cxs o ++ [Value.complex .f64 a.1 a.2] = cxs (o ++ [a]) := by rw [cxs_append]; rfl
      rw [ex] at hl1 ⊢
      by_cases hlast : i + 1 < g.length
      · rw [if_pos hlast] at ho2
        simp only [Option.bind_eq_some_iff, Option.some.injEq] at ho2
        obtain ⟨q, hq, rfl⟩ := ho2
        have hwq := wf_mul hq
        repeat' (first | refine Fin.tail ?_ | refine Fin.then_normal ?_ | refine Fin.then_exit ?_ | refine Fin.then_ret ?_ | refine Fin.block_normal ?_ | refine Fin.block_ret ?_ | refine Fin.block_hit ?_ | refine Fin.block_miss rfl ?_ | refine Fin.loop_exit ?_ | refine Fin.loop_ret ?_ | refine WP.seq ?_ | (refine WP.regionQ (by kernel_rfl) (by kernel_rfl) ?_) | refine WP.block ?_ | refine WP.region ?_ | refine WP.skip ?_ | refine WP.exit ?_ | refine WP.ret ?_ | refine WP.label ?_ | refine WP.cond_true rfl ?_ | refine WP.cond_false rfl ?_ | (refine WP.cond_dec rfl (fun h => ?_) (fun h => ?_) <;> (try (exfalso; omega))) | (refine WP.cond_bool rfl (fun h => ?_) (fun h => ?_)) | refine WL.nil ?_ | refine WL.cons ?_ | (show OP _ _ _ _ _ _ _ ⟨_, .move _, _, _, _, none⟩ _ _; first | refine OP.mI rfl rfl ?_ | refine OP.mB rfl rfl ?_ | refine OP.mC rfl rfl ?_ | refine OP.mF rfl rfl ?_ | refine OP.mS rfl rfl ?_ | refine OP.mP rfl rfl ?_ | refine OP.mA rfl rfl ?_ | refine OP.mT rfl rfl ?_ | refine OP.mM rfl rfl ?_ | refine OP.mU rfl rfl ?_ | refine OP.move rfl rfl ?_) | (show OP _ _ _ _ _ _ _ ⟨_, .assign _, _, _, _, none⟩ _ _; first | refine OP.aI rfl rfl ?_ | refine OP.aB rfl rfl ?_ | refine OP.aC rfl rfl ?_ | refine OP.aF rfl rfl ?_ | refine OP.aS rfl rfl ?_ | refine OP.aP rfl rfl ?_ | refine OP.aA rfl rfl ?_ | refine OP.aT rfl rfl ?_ | refine OP.aM rfl rfl ?_ | refine OP.aU rfl rfl ?_ | refine OP.assign rfl rfl ?_) | (show OP _ _ _ _ _ _ _ ⟨_, .call _, _, _, _, none⟩ _ _; first | refine OP.callq _ rfl (fun w _ => Mul_fn a s q hq w) (fun _ _ h => h.1) ?_ | refine OP.callq _ rfl (fun w _ => Plain_fn q hwq.1 hwq.2 w) (fun _ _ h => h.1) ?_ | refine OP.len rfl rfl rfl ?_) | (show OP _ _ _ _ _ _ _ ⟨_, .binOp _ _ _ _ _, _, _, _, none⟩ _ _; first | (refine OP.add rfl rfl rfl ?_ ?_ ?_; omega; omega) | (refine OP.sub rfl rfl rfl ?_ ?_ ?_; omega; omega) | refine OP.lss rfl rfl rfl ?_ | (refine OP.quoN rfl rfl rfl ?_ ?_ ?_ ?_; omega; omega; omega) | (refine OP.quo rfl rfl rfl ?_ ?_ ?_ ?_ ?_; omega; omega; omega; omega)) | (show OP _ _ _ _ _ _ _ ⟨_, .load _ _, _, _, _, none⟩ _ _; first | refine OP.ld rfl rfl inferInstance rfl ?_ | refine OP.load rfl rfl (Sees.old0 (by assumption)) ?_ | refine OP.ldA rfl rfl inferInstance rfl ?_) | (refine OP.buildSlice rfl rfl ?_ rfl rfl (fun bs => ?_); (decide)) | refine OP.buildSlice0 rfl rfl (fun bs => ?_))
        refine OP.pushP (m := 1) (bytes := 16) (z := .complex .f64 0 0) (Γ1 := [_]) (len := o.length + 1) (b := b1) (cap := cap1) (xs := cxs (o ++ [a])) (sp := sp1)
          (vs := [.complex .f64 (plainC q).1 (plainC q).2]) WL.slack rfl rfl rfl rfl rfl rfl rfl (by rw [cxs_len, List.length_append]; simp) hl1 (by omega) (by omega) (fun b2 sp2 cap2 hl2 => ?_)
        have ex2 : cxs (o ++ [a]) ++ [Value.complex .f64 (plainC q).1 (plainC q).2] = cxs (o ++ [a, plainC q]) := by rw [cxs_append, cxs_append]; simp [cxs]
        rw [ex2] at hl2 ⊢
        repeat' (first | refine Fin.tail ?_ | refine Fin.then_normal ?_ | refine Fin.then_exit ?_ | refine Fin.then_ret ?_ | refine Fin.block_normal ?_ | refine Fin.block_ret ?_ | refine Fin.block_hit ?_ | refine Fin.block_miss rfl ?_ | refine Fin.loop_exit ?_ | refine Fin.loop_ret ?_ | refine WP.seq ?_ | (refine WP.regionQ (by kernel_rfl) (by kernel_rfl) ?_) | refine WP.block ?_ | refine WP.region ?_ | refine WP.skip ?_ | refine WP.exit ?_ | refine WP.ret ?_ | refine WP.label ?_ | refine WP.cond_true rfl ?_ | refine WP.cond_false rfl ?_ | (refine WP.cond_dec rfl (fun h => ?_) (fun h => ?_) <;> (try (exfalso; omega))) | (refine WP.cond_bool rfl (fun h => ?_) (fun h => ?_)) | refine WL.nil ?_ | refine WL.cons ?_ | (show OP _ _ _ _ _ _ _ ⟨_, .move _, _, _, _, none⟩ _ _; first | refine OP.mI rfl rfl ?_ | refine OP.mB rfl rfl ?_ | refine OP.mC rfl rfl ?_ | refine OP.mF rfl rfl ?_ | refine OP.mS rfl rfl ?_ | refine OP.mP rfl rfl ?_ | refine OP.mA rfl rfl ?_ | refine OP.mT rfl rfl ?_ | refine OP.mM rfl rfl ?_ | refine OP.mU rfl rfl ?_ | refine OP.move rfl rfl ?_) | (show OP _ _ _ _ _ _ _ ⟨_, .assign _, _, _, _, none⟩ _ _; first | refine OP.aI rfl rfl ?_ | refine OP.aB rfl rfl ?_ | refine OP.aC rfl rfl ?_ | refine OP.aF rfl rfl ?_ | refine OP.aS rfl rfl ?_ | refine OP.aP rfl rfl ?_ | refine OP.aA rfl rfl ?_ | refine OP.aT rfl rfl ?_ | refine OP.aM rfl rfl ?_ | refine OP.aU rfl rfl ?_ | refine OP.assign rfl rfl ?_) | refine OP.len rfl rfl rfl ?_ | (show OP _ _ _ _ _ _ _ ⟨_, .binOp _ _ _ _ _, _, _, _, none⟩ _ _; first | (refine OP.add rfl rfl rfl ?_ ?_ ?_; omega; omega) | (refine OP.sub rfl rfl rfl ?_ ?_ ?_; omega; omega) | refine OP.lss rfl rfl rfl ?_ | (refine OP.quoN rfl rfl rfl ?_ ?_ ?_ ?_; omega; omega; omega) | (refine OP.quo rfl rfl rfl ?_ ?_ ?_ ?_ ?_; omega; omega; omega; omega)) | (show OP _ _ _ _ _ _ _ ⟨_, .load _ _, _, _, _, none⟩ _ _; first | refine OP.ld rfl rfl inferInstance rfl ?_ | refine OP.load rfl rfl (Sees.old0 (by assumption)) ?_ | refine OP.ldA rfl rfl inferInstance rfl ?_) | (refine OP.buildSlice rfl rfl ?_ rfl rfl (fun bs => ?_); (decide)) | refine OP.buildSlice0 rfl rfl (fun bs => ?_))
        have el : (o ++ [a, plainC q]).length = o.length + 1 + 1 := by simp
        refine Fin.loop_normal fun w' hst => ⟨(i + 1, o ++ [a, plainC q], b2, cap2, sp2), ⟨by dsimp only; omega, ho', ?_⟩, by dsimp only; omega, by (repeat' (first | exact Agree.refl _ _ | refine Agree.upd rfl ?_ | refine Agree.hav rfl ?_)), ⟨rfl, ?_, trivial⟩, ?_⟩
        · dsimp only; rw [el]; exact hl2
        · dsimp only; rw [el]; rfl
        · dsimp only; rw [el]; exact hst
      · rw [if_neg hlast] at ho2
        obtain rfl : o ++ [a] = o' := by simpa using ho2
        repeat' (first | refine Fin.tail ?_ | refine Fin.then_normal ?_ | refine Fin.then_exit ?_ | refine Fin.then_ret ?_ | refine Fin.block_normal ?_ | refine Fin.block_ret ?_ | refine Fin.block_hit ?_ | refine Fin.block_miss rfl ?_ | refine Fin.loop_exit ?_ | refine Fin.loop_ret ?_ | refine WP.seq ?_ | (refine WP.regionQ (by kernel_rfl) (by kernel_rfl) ?_) | refine WP.block ?_ | refine WP.region ?_ | refine WP.skip ?_ | refine WP.exit ?_ | refine WP.ret ?_ | refine WP.label ?_ | refine WP.cond_true rfl ?_ | refine WP.cond_false rfl ?_ | (refine WP.cond_dec rfl (fun h => ?_) (fun h => ?_) <;> (try (exfalso; omega))) | (refine WP.cond_bool rfl (fun h => ?_) (fun h => ?_)) | refine WL.nil ?_ | refine WL.cons ?_ | (show OP _ _ _ _ _ _ _ ⟨_, .move _, _, _, _, none⟩ _ _; first | refine OP.mI rfl rfl ?_ | refine OP.mB rfl rfl ?_ | refine OP.mC rfl rfl ?_ | refine OP.mF rfl rfl ?_ | refine OP.mS rfl rfl ?_ | refine OP.mP rfl rfl ?_ | refine OP.mA rfl rfl ?_ | refine OP.mT rfl rfl ?_ | refine OP.mM rfl rfl ?_ | refine OP.mU rfl rfl ?_ | refine OP.move rfl rfl ?_) | (show OP _ _ _ _ _ _ _ ⟨_, .assign _, _, _, _, none⟩ _ _; first | refine OP.aI rfl rfl ?_ | refine OP.aB rfl rfl ?_ | refine OP.aC rfl rfl ?_ | refine OP.aF rfl rfl ?_ | refine OP.aS rfl rfl ?_ | refine OP.aP rfl rfl ?_ | refine OP.aA rfl rfl ?_ | refine OP.aT rfl rfl ?_ | refine OP.aM rfl rfl ?_ | refine OP.aU rfl rfl ?_ | refine OP.assign rfl rfl ?_) | refine OP.len rfl rfl rfl ?_ | (show OP _ _ _ _ _ _ _ ⟨_, .binOp _ _ _ _ _, _, _, _, none⟩ _ _; first | (refine OP.add rfl rfl rfl ?_ ?_ ?_; omega; omega) | (refine OP.sub rfl rfl rfl ?_ ?_ ?_; omega; omega) | refine OP.lss rfl rfl rfl ?_ | (refine OP.quoN rfl rfl rfl ?_ ?_ ?_ ?_; omega; omega; omega) | (refine OP.quo rfl rfl rfl ?_ ?_ ?_ ?_ ?_; omega; omega; omega; omega)) | (show OP _ _ _ _ _ _ _ ⟨_, .load _ _, _, _, _, none⟩ _ _; first | refine OP.ld rfl rfl inferInstance rfl ?_ | refine OP.load rfl rfl (Sees.old0 (by assumption)) ?_ | refine OP.ldA rfl rfl inferInstance rfl ?_) | (refine OP.buildSlice rfl rfl ?_ rfl rfl (fun bs => ?_); (decide)) | refine OP.buildSlice0 rfl rfl (fun bs => ?_))
        have el : (o ++ [a]).length = o.length + 1 := by simp
        refine Fin.loop_normal fun w' hst => ⟨(i + 1, o ++ [a], b1, cap1, sp1), ⟨by dsimp only; omega, ho', ?_⟩, by dsimp only; omega, by (repeat' (first | exact Agree.refl _ _ | refine Agree.upd rfl ?_ | refine Agree.hav rfl ?_)), ⟨rfl, ?_, trivial⟩, ?_⟩
        · dsimp only; rw [el]; exact hl1
        · dsimp only; rw [el]; rfl
        · dsimp only; rw [el]; exact hst
    · have ei : i = g.length := by omega
      subst ei
      obtain rfl : o = l := by rw [i2] at hl; exact Option.some.inj hl
      have wl := wv_len i1 i2
      repeat' (first | refine Fin.tail ?_ | refine Fin.then_normal ?_ | refine Fin.then_exit ?_ | refine Fin.then_ret ?_ | refine Fin.block_normal ?_ | refine Fin.block_ret ?_ | refine Fin.block_hit ?_ | refine Fin.block_miss rfl ?_ | refine Fin.loop_exit ?_ | refine Fin.loop_ret ?_ | refine WP.seq ?_ | (refine WP.regionQ (by kernel_rfl) (by kernel_rfl) ?_) | refine WP.block ?_ | refine WP.region ?_ | refine WP.skip ?_ | refine WP.exit ?_ | refine WP.ret ?_ | refine WP.label ?_ | refine WP.cond_true rfl ?_ | refine WP.cond_false rfl ?_ | (refine WP.cond_dec rfl (fun h => ?_) (fun h => ?_) <;> (try (exfalso; omega))) | (refine WP.cond_bool rfl (fun h => ?_) (fun h => ?_)) | refine WL.nil ?_ | refine WL.cons ?_ | (show OP _ _ _ _ _ _ _ ⟨_, .move _, _, _, _, none⟩ _ _; first | refine OP.mI rfl rfl ?_ | refine OP.mB rfl rfl ?_ | refine OP.mC rfl rfl ?_ | refine OP.mF rfl rfl ?_ | refine OP.mS rfl rfl ?_ | refine OP.mP rfl rfl ?_ | refine OP.mA rfl rfl ?_ | refine OP.mT rfl rfl ?_ | refine OP.mM rfl rfl ?_ | refine OP.mU rfl rfl ?_ | refine OP.move rfl rfl ?_) | (show OP _ _ _ _ _ _ _ ⟨_, .assign _, _, _, _, none⟩ _ _; first | refine OP.aI rfl rfl ?_ | refine OP.aB rfl rfl ?_ | refine OP.aC rfl rfl ?_ | refine OP.aF rfl rfl ?_ | refine OP.aS rfl rfl ?_ | refine OP.aP rfl rfl ?_ | refine OP.aA rfl rfl ?_ | refine OP.aT rfl rfl ?_ | refine OP.aM rfl rfl ?_ | refine OP.aU rfl rfl ?_ | refine OP.assign rfl rfl ?_) | refine OP.len rfl rfl rfl ?_ | (show OP _ _ _ _ _ _ _ ⟨_, .binOp _ _ _ _ _, _, _, _, none⟩ _ _; first | (refine OP.add rfl rfl rfl ?_ ?_ ?_; omega; omega) | (refine OP.sub rfl rfl rfl ?_ ?_ ?_; omega; omega) | refine OP.lss rfl rfl rfl ?_ | (refine OP.quoN rfl rfl rfl ?_ ?_ ?_ ?_; omega; omega; omega) | (refine OP.quo rfl rfl rfl ?_ ?_ ?_ ?_ ?_; omega; omega; omega; omega)) | (show OP _ _ _ _ _ _ _ ⟨_, .load _ _, _, _, _, none⟩ _ _; first | refine OP.ld rfl rfl inferInstance rfl ?_ | refine OP.load rfl rfl (Sees.old0 (by assumption)) ?_ | refine OP.ldA rfl rfl inferInstance rfl ?_) | (refine OP.buildSlice rfl rfl ?_ rfl rfl (fun bs => ?_); (decide)) | refine OP.buildSlice0 rfl rfl (fun bs => ?_))
      refine Fin.drop (Γ' := rowM o.length ob (cxs o) osp 31) (List.Sublist.cons _ (by rw [List.append_nil]; exact List.Sublist.refl _)) ?_
      refine Fin.ret1 (h0 := .inl rfl) rfl rfl ?_
      cases ho : o.length with
      | zero => omega
      | succ q => exact ⟨ob, ocap, osp, rfl, rfl⟩

theorem tabTo_len {n : Nat} {f : List Cx} : ∀ {k : Nat} {l : List Cx}, tabTo n f k = some l → l.length = k
  | 0, l, e => by
    obtain rfl : [] = l := by simpa [tabTo] using e
    rfl
  | k + 1, l, e => by
    unfold tabTo at e
    simp only [Option.bind_eq_some_iff, Option.some.injEq] at e
    obtain ⟨l', h1, a, h2, rfl⟩ := e
    simp [tabTo_len h1]
theorem tabTo_some {n : Nat} {f : List Cx} : ∀ {i j : Nat} {l : List Cx}, i ≤ j → tabTo n f j = some l → ∃ l', tabTo n f i = some l'
  | i, 0, l, hij, e => by obtain rfl : i = 0 := by omega
                          exact ⟨l, e⟩
  | i, j + 1, l, hij, e => by
    by_cases h' : i = j + 1
    · subst h'; exact ⟨l, e⟩
    · unfold tabTo at e
      simp only [Option.bind_eq_some_iff] at e
      obtain ⟨l', h1, _⟩ := e
      exact tabTo_some (by omega) h1
theorem cxs_fill (l : List Cx) (k : Nat) (a : Cx) : setN (cxs (l ++ List.replicate (k + 1) (0, 0)) ++ []).toArray (0 + l.length * 1) [.complex .f64 a.1 a.2] = (cxs ((l ++ [a]) ++ List.replicate k (0, 0)) ++ []).toArray := by
  rw [cxs_set _ _ _ _ (by simp), List.set_append_right _ _ (Nat.le_refl _), Nat.sub_self, List.replicate_succ, List.set_cons_zero]; simp

set_option maxHeartbeats 4000000 in
theorem Table_fn (m : Nat) (l : List Cx) (hm : m ≤ 12) (ht : tabC m = some l) (w : World) :
    Does Tryd.prog 24 #[.int .i64 ((2 ^ m : Nat) : Int)] [] w fun v Γ => ∃ b, v = .tuple #[.slice (some ⟨b, 0, none⟩) l.length l.length, .int .i64 0] ∧ l.length = 2 ^ m ∧ Γ = [(b, .cells (cxs l ++ []).toArray 31 (0, 0))] := by
  unfold tabC at ht
  simp only [Option.bind_eq_some_iff] at ht
  obtain ⟨f, hf, hl⟩ := ht
  have hp := pow_bd hm
  have hp0 := Nat.two_pow_pos m
  have ll := tabTo_len hl
  have hwf := wf_eighth hf
  have h24 : 2 ^ m < 4 → 2 ^ m ≤ 2 := fun h => by
    rcases (by omega : m = 0 ∨ m = 1 ∨ 2 ≤ m) with rfl | rfl | h2
    · decide
    · decide
    · have := Nat.pow_le_pow_right (n := 2) (by decide) h2; omega
  have hri := right_of hm
  have mk : (cxs (List.replicate (2 ^ m) ((0, 0) : Cx)) ++ []).toArray = Array.replicate (2 ^ m) (Value.complex .f64 0 0) := by apply Array.ext'; simp [cxs]
  have hef := eighth_fn m f hm hf
  have hat := fun (k : Nat) (hk : k < 2 ^ m) (b o c : Nat) (r : Cx) (h : atC (2 ^ m) k f = some r) (w : World) (hr : RdC w b o f) => at_fn (2 ^ m) k hp hk f hwf b o c r h w hr h24
  obtain ⟨N, hN⟩ : ∃ N, N = 2 ^ m := ⟨_, rfl⟩
  rw [← hN] at hp hp0 ll hri mk hef hat hl ⊢
  refine Does.enter Tryd.func24 rfl Tryd.ntmps24 rfl (St.start w) ?_
  repeat' (first | refine Fin.tail ?_ | refine Fin.then_normal ?_ | refine Fin.then_exit ?_ | refine Fin.then_ret ?_ | refine Fin.block_normal ?_ | refine Fin.block_ret ?_ | refine Fin.block_hit ?_ | refine Fin.block_miss rfl ?_ | refine Fin.loop_exit ?_ | refine Fin.loop_ret ?_ | refine WP.seq ?_ | (refine WP.regionQ (by kernel_rfl) (by kernel_rfl) ?_) | refine WP.block ?_ | refine WP.region ?_ | refine WP.skip ?_ | refine WP.exit ?_ | refine WP.ret ?_ | refine WP.label ?_ | refine WP.cond_true rfl ?_ | refine WP.cond_false rfl ?_ | (refine WP.cond_dec rfl (fun h => ?_) (fun h => ?_) <;> (try (exfalso; omega))) | (refine WP.cond_bool rfl (fun h => ?_) (fun h => ?_)) | refine WL.nil ?_ | refine WL.cons ?_ | (show OP _ _ _ _ _ _ _ ⟨_, .move _, _, _, _, none⟩ _ _; first | refine OP.mI rfl rfl ?_ | refine OP.mB rfl rfl ?_ | refine OP.mC rfl rfl ?_ | refine OP.mF rfl rfl ?_ | refine OP.mS rfl rfl ?_ | refine OP.mP rfl rfl ?_ | refine OP.mA rfl rfl ?_ | refine OP.mT rfl rfl ?_ | refine OP.mM rfl rfl ?_ | refine OP.mU rfl rfl ?_ | refine OP.move rfl rfl ?_) | (show OP _ _ _ _ _ _ _ ⟨_, .assign _, _, _, _, none⟩ _ _; first | refine OP.aI rfl rfl ?_ | refine OP.aB rfl rfl ?_ | refine OP.aC rfl rfl ?_ | refine OP.aF rfl rfl ?_ | refine OP.aS rfl rfl ?_ | refine OP.aP rfl rfl ?_ | refine OP.aA rfl rfl ?_ | refine OP.aT rfl rfl ?_ | refine OP.aM rfl rfl ?_ | refine OP.aU rfl rfl ?_ | refine OP.assign rfl rfl ?_) | (show OP _ _ _ _ _ _ _ ⟨_, .call _, _, _, _, none⟩ _ _; first | refine OP.callq (.bool true) rfl (fun w' hst => right_fn (N : Int) (by omega) (by omega) w') (fun _ _ h => by rw [h.1, hri]) ?_ | (refine OP.call rfl (fun w _ => hef w) (fun _ _ hR => ?_); obtain ⟨fb, fcap, fsp, rfl, rfl⟩ := hR)) | (show OP _ _ _ _ _ _ _ ⟨_, .binOp _ _ _ _ _, _, _, _, none⟩ _ _; first | (refine OP.add rfl rfl rfl ?_ ?_ ?_; omega; omega) | refine OP.lss rfl rfl rfl ?_) | (show OP _ _ _ _ _ _ _ ⟨_, .unOp _ _ _, _, _, _, none⟩ _ _; first | refine OP.notd rfl rfl ?_ | refine OP.not rfl rfl ?_ | (refine OP.neg rfl rfl ?_ ?_ ?_; omega; omega)) | (show OP _ _ _ _ _ _ _ ⟨_, .store _ _ _, _, _, _, none⟩ _ _; first | refine OP.stI rfl rfl inferInstance rfl ?_ | refine OP.stB rfl rfl inferInstance rfl ?_ | refine OP.stC rfl rfl inferInstance rfl ?_ | refine OP.stF rfl rfl inferInstance rfl ?_ | refine OP.stS rfl rfl inferInstance rfl ?_ | refine OP.stP rfl rfl inferInstance rfl ?_ | refine OP.stM rfl rfl inferInstance rfl ?_ | refine OP.stU rfl rfl inferInstance rfl ?_ | refine OP.st (vs := [_]) rfl rfl inferInstance rfl rfl rfl ?_ | refine OP.st (vs := [_, _]) rfl rfl inferInstance rfl rfl rfl ?_ | refine OP.st (vs := [_, _, _]) rfl rfl inferInstance rfl rfl rfl ?_))
  refine OP.make1 (z := .complex .f64 0 0) (l := N) rfl rfl rfl rfl rfl (by omega) (by omega) (fun b => ?_)
  rw [← mk]
  repeat' (first | refine Fin.tail ?_ | refine Fin.then_normal ?_ | refine Fin.then_exit ?_ | refine Fin.then_ret ?_ | refine Fin.block_normal ?_ | refine Fin.block_ret ?_ | refine Fin.block_hit ?_ | refine Fin.block_miss rfl ?_ | refine Fin.loop_exit ?_ | refine Fin.loop_ret ?_ | refine WP.seq ?_ | (refine WP.regionQ (by kernel_rfl) (by kernel_rfl) ?_) | refine WP.block ?_ | refine WP.region ?_ | refine WP.skip ?_ | refine WP.exit ?_ | refine WP.ret ?_ | refine WP.label ?_ | refine WP.cond_true rfl ?_ | refine WP.cond_false rfl ?_ | (refine WP.cond_dec rfl (fun h => ?_) (fun h => ?_) <;> (try (exfalso; omega))) | (refine WP.cond_bool rfl (fun h => ?_) (fun h => ?_)) | refine WL.nil ?_ | refine WL.cons ?_ | (show OP _ _ _ _ _ _ _ ⟨_, .move _, _, _, _, none⟩ _ _; first | refine OP.mI rfl rfl ?_ | refine OP.mB rfl rfl ?_ | refine OP.mC rfl rfl ?_ | refine OP.mF rfl rfl ?_ | refine OP.mS rfl rfl ?_ | refine OP.mP rfl rfl ?_ | refine OP.mA rfl rfl ?_ | refine OP.mT rfl rfl ?_ | refine OP.mM rfl rfl ?_ | refine OP.mU rfl rfl ?_ | refine OP.move rfl rfl ?_) | (show OP _ _ _ _ _ _ _ ⟨_, .assign _, _, _, _, none⟩ _ _; first | refine OP.aI rfl rfl ?_ | refine OP.aB rfl rfl ?_ | refine OP.aC rfl rfl ?_ | refine OP.aF rfl rfl ?_ | refine OP.aS rfl rfl ?_ | refine OP.aP rfl rfl ?_ | refine OP.aA rfl rfl ?_ | refine OP.aT rfl rfl ?_ | refine OP.aM rfl rfl ?_ | refine OP.aU rfl rfl ?_ | refine OP.assign rfl rfl ?_) | (show OP _ _ _ _ _ _ _ ⟨_, .binOp _ _ _ _ _, _, _, _, none⟩ _ _; first | (refine OP.add rfl rfl rfl ?_ ?_ ?_; omega; omega) | refine OP.lss rfl rfl rfl ?_) | (show OP _ _ _ _ _ _ _ ⟨_, .unOp _ _ _, _, _, _, none⟩ _ _; first | refine OP.notd rfl rfl ?_ | refine OP.not rfl rfl ?_ | (refine OP.neg rfl rfl ?_ ?_ ?_; omega; omega)) | (show OP _ _ _ _ _ _ _ ⟨_, .store _ _ _, _, _, _, none⟩ _ _; first | refine OP.stI rfl rfl inferInstance rfl ?_ | refine OP.stB rfl rfl inferInstance rfl ?_ | refine OP.stC rfl rfl inferInstance rfl ?_ | refine OP.stF rfl rfl inferInstance rfl ?_ | refine OP.stS rfl rfl inferInstance rfl ?_ | refine OP.stP rfl rfl inferInstance rfl ?_ | refine OP.stM rfl rfl inferInstance rfl ?_ | refine OP.stU rfl rfl inferInstance rfl ?_ | refine OP.st (vs := [_]) rfl rfl inferInstance rfl rfl rfl ?_ | refine OP.st (vs := [_, _]) rfl rfl inferInstance rfl rfl rfl ?_ | refine OP.st (vs := [_, _, _]) rfl rfl inferInstance rfl rfl rfl ?_))
  refine WP.loop [6, 15, 16, 17, 18, 19, 20, 21, 22, 23, 24, 25] (fun k : Nat => [(15, .int .i64 k)]) (fun k => match tabTo N f k with | some o => [(b, .cells (cxs (o ++ List.replicate (N - k) (0, 0)) ++ []).toArray 31 (0, 0)), (fb, .cells (cxs f ++ fsp).toArray 31 (0, 0))] | none => []) (fun k => k ≤ N) (fun k => N - k) 0 (by omega) rfl ⟨rfl, trivial⟩ ?_
  rintro k jk k1
  dsimp only [updL]
  obtain ⟨o, ho⟩ := tabTo_some (show k ≤ N by omega) hl
  have ol := tabTo_len ho
  rw [ho]
  dsimp only
  by_cases hk : k < N
  · obtain ⟨o', ho'⟩ := tabTo_some (show k + 1 ≤ N by omega) hl
    have ho2 := ho'
    unfold tabTo at ho2
    rw [ho] at ho2
    simp only [Option.bind_some, Option.bind_eq_some_iff, Option.some.injEq] at ho2
    obtain ⟨a, ha, rfl⟩ := ho2
    obtain ⟨R, hR⟩ : ∃ R, N - k = R + 1 := ⟨N - k - 1, by omega⟩
    rw [hR]
    have hset := cxs_fill o R a
    rw [ol] at hset
    have hsz := cxs_size (l := o ++ List.replicate (R + 1) ((0, 0) : Cx)) (sp := []) (i := k) (by rw [List.length_append, ol, List.length_replicate]; omega)
    repeat' (first | refine OP.indexAddr (j := k) rfl rfl rfl rfl hk ?_ | (refine OP.store0 (vs := [.complex .f64 a.1 a.2]) rfl rfl rfl rfl hsz ?_; rw [hset]) | refine Fin.tail ?_ | refine Fin.then_normal ?_ | refine Fin.then_exit ?_ | refine Fin.then_ret ?_ | refine Fin.block_normal ?_ | refine Fin.block_ret ?_ | refine Fin.block_hit ?_ | refine Fin.block_miss rfl ?_ | refine Fin.loop_exit ?_ | refine Fin.loop_ret ?_ | refine WP.seq ?_ | (refine WP.regionQ (by kernel_rfl) (by kernel_rfl) ?_) | refine WP.block ?_ | refine WP.region ?_ | refine WP.skip ?_ | refine WP.exit ?_ | refine WP.ret ?_ | refine WP.label ?_ | refine WP.cond_true rfl ?_ | refine WP.cond_false rfl ?_ | (refine WP.cond_dec rfl (fun h => ?_) (fun h => ?_) <;> (try (exfalso; omega))) | (refine WP.cond_bool rfl (fun h => ?_) (fun h => ?_)) | refine WL.nil ?_ | refine WL.cons ?_ | (show OP _ _ _ _ _ _ _ ⟨_, .move _, _, _, _, none⟩ _ _; first | refine OP.mI rfl rfl ?_ | refine OP.mB rfl rfl ?_ | refine OP.mC rfl rfl ?_ | refine OP.mF rfl rfl ?_ | refine OP.mS rfl rfl ?_ | refine OP.mP rfl rfl ?_ | refine OP.mA rfl rfl ?_ | refine OP.mT rfl rfl ?_ | refine OP.mM rfl rfl ?_ | refine OP.mU rfl rfl ?_ | refine OP.move rfl rfl ?_) | (show OP _ _ _ _ _ _ _ ⟨_, .assign _, _, _, _, none⟩ _ _; first | refine OP.aI rfl rfl ?_ | refine OP.aB rfl rfl ?_ | refine OP.aC rfl rfl ?_ | refine OP.aF rfl rfl ?_ | refine OP.aS rfl rfl ?_ | refine OP.aP rfl rfl ?_ | refine OP.aA rfl rfl ?_ | refine OP.aT rfl rfl ?_ | refine OP.aM rfl rfl ?_ | refine OP.aU rfl rfl ?_ | refine OP.assign rfl rfl ?_) | refine OP.callq _ rfl (fun w' hst => hat k hk fb 0 fcap a ha w' (RdC.own hst (List.Mem.tail _ (List.Mem.head _)))) (fun _ _ h => h.1) ?_ | (show OP _ _ _ _ _ _ _ ⟨_, .binOp _ _ _ _ _, _, _, _, none⟩ _ _; first | (refine OP.add rfl rfl rfl ?_ ?_ ?_; omega; omega) | refine OP.lss rfl rfl rfl ?_) | (show OP _ _ _ _ _ _ _ ⟨_, .unOp _ _ _, _, _, _, none⟩ _ _; first | refine OP.notd rfl rfl ?_ | refine OP.not rfl rfl ?_ | (refine OP.neg rfl rfl ?_ ?_ ?_; omega; omega)) | (show OP _ _ _ _ _ _ _ ⟨_, .store _ _ _, _, _, _, none⟩ _ _; first | refine OP.stI rfl rfl inferInstance rfl ?_ | refine OP.stB rfl rfl inferInstance rfl ?_ | refine OP.stC rfl rfl inferInstance rfl ?_ | refine OP.stF rfl rfl inferInstance rfl ?_ | refine OP.stS rfl rfl inferInstance rfl ?_ | refine OP.stP rfl rfl inferInstance rfl ?_ | refine OP.stM rfl rfl inferInstance rfl ?_ | refine OP.stU rfl rfl inferInstance rfl ?_ | refine OP.st (vs := [_]) rfl rfl inferInstance rfl rfl rfl ?_ | refine OP.st (vs := [_, _]) rfl rfl inferInstance rfl rfl rfl ?_ | refine OP.st (vs := [_, _, _]) rfl rfl inferInstance rfl rfl rfl ?_))
    refine Fin.loop_normal fun w' hst => ⟨k + 1, by omega, by omega, by (repeat' (first | exact Agree.refl _ _ | refine Agree.upd rfl ?_ | refine Agree.hav rfl ?_)), ⟨rfl, trivial⟩, by rw [ho', show N - (k + 1) = R by omega]; exact hst⟩
  · have ek : k = N := by omega
    subst ek
    obtain rfl : o = l := by rw [ho] at hl; exact Option.some.inj hl
    rw [Nat.sub_self, List.replicate_zero, List.append_nil]
    repeat' (first | refine Fin.tail ?_ | refine Fin.then_normal ?_ | refine Fin.then_exit ?_ | refine Fin.then_ret ?_ | refine Fin.block_normal ?_ | refine Fin.block_ret ?_ | refine Fin.block_hit ?_ | refine Fin.block_miss rfl ?_ | refine Fin.loop_exit ?_ | refine Fin.loop_ret ?_ | refine WP.seq ?_ | (refine WP.regionQ (by kernel_rfl) (by kernel_rfl) ?_) | refine WP.block ?_ | refine WP.region ?_ | refine WP.skip ?_ | refine WP.exit ?_ | refine WP.ret ?_ | refine WP.label ?_ | refine WP.cond_true rfl ?_ | refine WP.cond_false rfl ?_ | (refine WP.cond_dec rfl (fun h => ?_) (fun h => ?_) <;> (try (exfalso; omega))) | (refine WP.cond_bool rfl (fun h => ?_) (fun h => ?_)) | refine WL.nil ?_ | refine WL.cons ?_ | (show OP _ _ _ _ _ _ _ ⟨_, .move _, _, _, _, none⟩ _ _; first | refine OP.mI rfl rfl ?_ | refine OP.mB rfl rfl ?_ | refine OP.mC rfl rfl ?_ | refine OP.mF rfl rfl ?_ | refine OP.mS rfl rfl ?_ | refine OP.mP rfl rfl ?_ | refine OP.mA rfl rfl ?_ | refine OP.mT rfl rfl ?_ | refine OP.mM rfl rfl ?_ | refine OP.mU rfl rfl ?_ | refine OP.move rfl rfl ?_) | (show OP _ _ _ _ _ _ _ ⟨_, .assign _, _, _, _, none⟩ _ _; first | refine OP.aI rfl rfl ?_ | refine OP.aB rfl rfl ?_ | refine OP.aC rfl rfl ?_ | refine OP.aF rfl rfl ?_ | refine OP.aS rfl rfl ?_ | refine OP.aP rfl rfl ?_ | refine OP.aA rfl rfl ?_ | refine OP.aT rfl rfl ?_ | refine OP.aM rfl rfl ?_ | refine OP.aU rfl rfl ?_ | refine OP.assign rfl rfl ?_) | (show OP _ _ _ _ _ _ _ ⟨_, .binOp _ _ _ _ _, _, _, _, none⟩ _ _; first | (refine OP.add rfl rfl rfl ?_ ?_ ?_; omega; omega) | refine OP.lss rfl rfl rfl ?_) | (show OP _ _ _ _ _ _ _ ⟨_, .unOp _ _ _, _, _, _, none⟩ _ _; first | refine OP.notd rfl rfl ?_ | refine OP.not rfl rfl ?_ | (refine OP.neg rfl rfl ?_ ?_ ?_; omega; omega)) | (show OP _ _ _ _ _ _ _ ⟨_, .store _ _ _, _, _, _, none⟩ _ _; first | refine OP.stI rfl rfl inferInstance rfl ?_ | refine OP.stB rfl rfl inferInstance rfl ?_ | refine OP.stC rfl rfl inferInstance rfl ?_ | refine OP.stF rfl rfl inferInstance rfl ?_ | refine OP.stS rfl rfl inferInstance rfl ?_ | refine OP.stP rfl rfl inferInstance rfl ?_ | refine OP.stM rfl rfl inferInstance rfl ?_ | refine OP.stU rfl rfl inferInstance rfl ?_ | refine OP.st (vs := [_]) rfl rfl inferInstance rfl rfl rfl ?_ | refine OP.st (vs := [_, _]) rfl rfl inferInstance rfl rfl rfl ?_ | refine OP.st (vs := [_, _, _]) rfl rfl inferInstance rfl rfl rfl ?_))
    refine Fin.drop (List.Sublist.cons_cons _ (List.nil_sublist _)) ?_
    refine Fin.ret2 (h0 := .inl rfl) rfl rfl rfl ?_
    exact ⟨b, by rw [ll]; rfl, ll, by simp⟩
end Go.Proofs.YtjckoflcjkajiaaDoor
