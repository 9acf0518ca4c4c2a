/- Texts joined: RowTab, WavE, WavF, Flw, Flx, Err, Qc, Exa, Ldx, Ldw, Brv, E12. -/
import Derived.Test.YthecbhegjdcjfaaDoorJp13
import Derived.Test.YthecbhegjdcjfaaDoorCards
import Derived.Test.YthecbhegjdcjfaaDoorTie
import Derived.Deep.DeepHandedRow
import Derived.Lib.LaidTab
import Derived.LaidMore
section
/- The tables of math/bits, out of a row's list; two numbers of 32 bits, opened; a world that holds the tables. -/
set_option linter.unusedVariables false
set_option maxRecDepth 100000
namespace Go.Proofs.YthecbhegjdcjfaaDoor
open Go.ChangeShapes Go.WideShapes Go.ChangeAt Go.RowKit Go.Joins Go.Pen

theorem gTz : Tryd.prog.globalNamed "math/bits.deBruijn64tab" = some 2 := by kernel_rfl
theorem gTzT : (Tryd.prog.globals[2]?).map (·.type) = some 76 := by kernel_rfl
theorem cTz : Tryd.prog.cellsOf 76 = 64 := by kernel_rfl
theorem cU8 : Tryd.prog.cellsOf 5 = 1 := by kernel_rfl
theorem cA2 : Tryd.prog.cellsOf 43 = 2 := by kernel_rfl
theorem cI32 : Tryd.prog.cellsOf 21 = 1 := by kernel_rfl

/-- What the rows' list gives: the table's cells. -/
theorem tz_laid {W : World} (h : laidMetH Tryd.prog [("math/bits.deBruijn32tab", Rows.laid_math_bits_deBruijn32tab), ("math/bits.deBruijn64tab", Rows.laid_math_bits_deBruijn64tab)] W) : TzT W := by
  rw [MakeChecks.laidMetH_plain _ _ _ (by kernel_rfl)] at h
  obtain ⟨ps, ⟨g0, t0, cs0, f0, p0, q0, hg0, ht0, hv0, hd0, ⟨g', t', cs, fuel, p, q, hg', ht', hvar, hd, _, _⟩, _⟩, _, _⟩ := h
  obtain rfl := Option.some.inj (gTz.symm.trans hg')
  obtain rfl := Option.some.inj (gTzT.symm.trans ht')
  have hT : Lib.TabIs Tryd.prog W "math/bits.deBruijn64tab" .u8 tzTab := by
    unfold Lib.TabIs
    rw [hvar, ← Lib.cells_of_tab Tryd.underlying76 Tryd.underlying5 cU8 cTz (zs := tzTab) hd]
  refine ⟨fun i v hi => ?_⟩
  have hl : i < tzTab.length := (List.getElem?_eq_some_iff.1 hi).1
  have := hT.cell gTz i hl
  rw [List.getD_eq_getElem?_getD, hi] at this
  rw [Nat.zero_add, Nat.mul_one]
  exact this

/-- Two numbers of 32 bits, opened. -/
theorem open_pair32 {H : Type} {enc : TypeId × Value → H} {W : World} {base : Nat} {v : Value} {d : DataW H} {p : List MemPlace} (hv : Value.okWide Tryd.prog W .any base 43 v) (h : DataW.Trod enc Tryd.prog W 0 (fun _ => true) true 43 v d p) :
    ∃ a b : Int, v = .agg #[.int .i32 a, .int .i32 b] ∧ (-2147483648 ≤ a ∧ a ≤ 2147483647) ∧ (-2147483648 ≤ b ∧ b ≤ 2147483647) := by
  simp only [Value.okWide, Tryd.underlying43] at hv
  obtain ⟨cs, rfl, hsz, _⟩ := hv
  rw [cA2] at hsz
  obtain ⟨c0, c1, rfl⟩ := array2 hsz
  obtain ⟨fuel, hf⟩ := h
  obtain ⟨xs, m, rfl, hx, _, hn, hel⟩ := DataW.trod_array Tryd.underlying43 hf
  rw [cI32] at hel
  match xs, hn, hel with
  | [x0, x1], _, hel =>
    obtain ⟨a, ea, _, wa⟩ := DataW.trod_int Tryd.underlying21 (hel 0 (by decide))
    obtain ⟨b, eb, _, wb⟩ := DataW.trod_int Tryd.underlying21 (hel 1 (by decide))
    simp [Value.cells] at ea eb
    subst ea eb
    exact ⟨a, b, rfl, bounds_i32 wa, bounds_i32 wb⟩
def tzTab32 : List Int := [0, 1, 28, 2, 29, 14, 24, 3, 30, 22, 20, 15, 25, 17, 4, 8, 31, 27, 13, 23, 21, 19, 16, 7, 26, 12, 18, 6, 11, 5, 10, 9]
def putTab (zs : List Int) : Obj → Obj
  | .cells _ t frozen => .cells (zs.map fun z => Value.int .u8 z).toArray t frozen
  | o => o
/-- A world for the witness: the settled one, the two tables as their initialisers lay them. -/
noncomputable def laidWorld (os : Os) : World :=
  { World.holding Tryd.prog os ⟨#[], #[], []⟩ with heap := ((World.holding Tryd.prog os ⟨#[], #[], []⟩).heap.modify 2 (putTab tzTab)).modify 1 (putTab tzTab32) }
end Go.Proofs.YthecbhegjdcjfaaDoor
end
section
/- Layer 3: the butterflies, walked. %compact -/
set_option linter.unusedVariables false
set_option maxRecDepth 100000
namespace Go.Proofs.YthecbhegjdcjfaaDoor
open Go.Pen Go.Flt Go.Wav

set_option maxHeartbeats 8000000 in
theorem butterflies_fn (m : Nat) (hm : m ≤ 12) (y0 ws r : List Cx) (hy : y0.length = 2 ^ m) (hws : ws.length = 2 ^ m) (hr : bfS ws (2 ^ m) y0 m = some r) (yb c wb wo wc : Nat) (sp : List Value) (w : World)
    (hmm : ∀ x ∈ [(yb, Obj.cells (cxs y0 ++ sp).toArray 28 (0, 0))], w.heap[x.1]? = some x.2) (hn : (keys [(yb, Obj.cells (cxs y0 ++ sp).toArray 28 (0, 0))]).Nodup) (hw : RdC w wb wo ws) (hne : wb ∉ keys [(yb, Obj.cells (cxs y0 ++ sp).toArray 28 (0, 0))]) :
    Does Tryd.prog 31 #[.slice (some ⟨yb, 0, none⟩) (2 ^ m) c, .slice (some ⟨wb, wo, none⟩) (2 ^ m) wc] (keys [(yb, Obj.cells (cxs y0 ++ sp).toArray 28 (0, 0))]) w fun v Γ => v = .tuple #[] ∧ Γ = [(yb, .cells (cxs r ++ sp).toArray 28 (0, 0))] := by
  have hp := pow_bd hm
  have hp0 := Nat.two_pow_pos m
  have hpow : ∀ s, s < m → 2 ^ (s + 1) = 2 * 2 ^ s ∧ 2 ^ m = 2 ^ (m - (s + 1)) * 2 ^ (s + 1) ∧ 0 < 2 ^ s ∧ 0 < 2 ^ (m - (s + 1)) := fun s hs => by
    refine ⟨by rw [Nat.pow_succ, Nat.mul_comm], ?_, Nat.two_pow_pos _, Nat.two_pow_pos _⟩
    rw [← Nat.pow_add]; congr 1; omega
  have hpm : ∀ s, s ≤ m → (2 ^ (s + 1) ≤ 2 ^ m ↔ s < m) := fun s hs => by
    constructor
    · intro h
      rcases Nat.lt_or_ge s m with h1 | h1
      · exact h1
      · have : s = m := by omega
        subst this
        rw [Nat.pow_succ] at h; omega
    · intro h; exact Nat.pow_le_pow_right (by decide) h
  obtain ⟨N, hN⟩ : ∃ N, N = 2 ^ m := ⟨_, rfl⟩
  rw [← hN] at hp hp0 hpow hpm hy hws hr ⊢
  refine Does.enter Tryd.func31 rfl Tryd.ntmps31 rfl (St.startI hmm hn) ?_
  repeat' (first | refine Fin.tail ?_ | refine Fin.then_normal ?_ | refine Fin.then_exit ?_ | refine Fin.then_ret ?_ | refine Fin.block_normal ?_ | refine Fin.block_ret ?_ | refine Fin.block_hit ?_ | refine Fin.block_miss rfl ?_ | refine Fin.loop_exit ?_ | refine Fin.loop_ret ?_ | refine WP.seq ?_ | (refine WP.regionQ (by kernel_rfl) (by kernel_rfl) ?_) | refine WP.block ?_ | refine WP.region ?_ | refine WP.skip ?_ | refine WP.exit ?_ | refine WP.ret ?_ | refine WP.label ?_ | refine WP.cond_true rfl ?_ | refine WP.cond_false rfl ?_ | (refine WP.cond_dec rfl (fun h => ?_) (fun h => ?_) <;> (try (exfalso; omega))) | (refine WP.cond_bool rfl (fun h => ?_) (fun h => ?_)) | refine WL.nil ?_ | refine WL.cons ?_ | (show OP _ _ _ _ _ _ _ ⟨_, .move _, _, _, _, none⟩ _ _; first | refine OP.mI rfl rfl ?_ | refine OP.mB rfl rfl ?_ | refine OP.mC rfl rfl ?_ | refine OP.mF rfl rfl ?_ | refine OP.mS rfl rfl ?_ | refine OP.mP rfl rfl ?_ | refine OP.mA rfl rfl ?_ | refine OP.mT rfl rfl ?_ | refine OP.mM rfl rfl ?_ | refine OP.mU rfl rfl ?_ | refine OP.move rfl rfl ?_) | (show OP _ _ _ _ _ _ _ ⟨_, .assign _, _, _, _, none⟩ _ _; first | refine OP.aI rfl rfl ?_ | refine OP.aB rfl rfl ?_ | refine OP.aC rfl rfl ?_ | refine OP.aF rfl rfl ?_ | refine OP.aS rfl rfl ?_ | refine OP.aP rfl rfl ?_ | refine OP.aA rfl rfl ?_ | refine OP.aT rfl rfl ?_ | refine OP.aM rfl rfl ?_ | refine OP.aU rfl rfl ?_ | refine OP.assign rfl rfl ?_) | refine OP.len rfl rfl rfl ?_ | (show OP _ _ _ _ _ _ _ ⟨_, .binOp _ _ _ _ _, _, _, _, none⟩ _ _; first | (refine OP.add rfl rfl rfl ?_ ?_ ?_; omega; omega) | refine OP.lss rfl rfl rfl ?_ | refine OP.leq rfl rfl rfl ?_ | (refine OP.mul rfl rfl rfl ?_ ?_ ?_; omega; omega) | (refine OP.quoN rfl rfl rfl ?_ ?_ ?_ ?_; omega; omega; omega) | (refine OP.quo rfl rfl rfl ?_ ?_ ?_ ?_ ?_; omega; omega; omega; omega)) | (show OP _ _ _ _ _ _ _ ⟨_, .load _ _, _, _, _, none⟩ _ _; first | refine OP.ld rfl rfl inferInstance rfl ?_ | refine OP.load rfl rfl (Sees.old0 (by assumption)) ?_ | refine OP.ldA rfl rfl inferInstance rfl ?_) | (show OP _ _ _ _ _ _ _ ⟨_, .store _ _ _, _, _, _, none⟩ _ _; first | refine OP.stI rfl rfl inferInstance rfl ?_ | refine OP.stB rfl rfl inferInstance rfl ?_ | refine OP.stC rfl rfl inferInstance rfl ?_ | refine OP.stF rfl rfl inferInstance rfl ?_ | refine OP.stS rfl rfl inferInstance rfl ?_ | refine OP.stP rfl rfl inferInstance rfl ?_ | refine OP.stM rfl rfl inferInstance rfl ?_ | refine OP.stU rfl rfl inferInstance rfl ?_ | refine OP.st (vs := [_]) rfl rfl inferInstance rfl rfl rfl ?_ | refine OP.st (vs := [_, _]) rfl rfl inferInstance rfl rfl rfl ?_ | refine OP.st (vs := [_, _, _]) rfl rfl inferInstance rfl rfl rfl ?_) | refine OP.alI rfl (fun al => ?_) | refine OP.alA rfl (fun al => ?_) | refine OP.alloc rfl rfl (fun al => ?_) | refine OP.build rfl rfl ?_)
  refine WP.loop [4, 5, 6, 7, 8, 9, 10, 11, 12, 13, 14, 15, 16, 17, 18, 19, 20, 21, 22, 23, 24, 25, 26, 27, 28, 29, 30, 31, 32, 33, 34, 35, 36, 37, 38, 39, 40, 41, 42, 43, 44, 45, 46, 47, 48, 49, 50, 51, 52, 53, 54, 55, 56, 57, 58, 59, 60, 61, 62, 63, 64, 65, 66, 67, 68, 69, 70, 71, 72, 73, 74, 75] (fun z : Nat × List Cx => [(4, .int .i64 ((2 ^ (z.1 + 1) : Nat) : Int))]) (fun z => [(yb, .cells (cxs z.2 ++ sp).toArray 28 (0, 0))]) (fun z => z.1 ≤ m ∧ bfS ws N y0 z.1 = some z.2) (fun z => m - z.1) (0, y0) ⟨by dsimp only; omega, rfl⟩ rfl ⟨rfl, trivial⟩ ?_
  rintro ⟨s, ys⟩ js ⟨s1, s2⟩
  dsimp only [updL] at s1 s2 ⊢
  have yl := bfS_len s2
  have hps := hpm s s1
  by_cases hs : s < m
  · obtain ⟨u1, u2, u3, u4⟩ := hpow s hs
    obtain ⟨ys', hs'⟩ := bfS_some (show s + 1 ≤ m by omega) hr
    have hs2 := hs'
    unfold bfS at hs2
    rw [s2, Option.bind_some] at hs2
    obtain ⟨S, hS⟩ : ∃ S, S = 2 ^ (s + 1) := ⟨_, rfl⟩
    obtain ⟨H, hH⟩ : ∃ H, H = 2 ^ s := ⟨_, rfl⟩
    obtain ⟨q, hq⟩ : ∃ q, q = 2 ^ (m - (s + 1)) := ⟨_, rfl⟩
    have hS2 : 2 ^ (s + 1 + 1) = S * 2 := by rw [hS]; exact Nat.pow_succ _ _
    rw [← hS] at hs2 u1 u2 hps ⊢
    rw [← hH] at u1 u3
    rw [← hq] at u2 u4
    have nq : N / S = q := by rw [u2]; exact Nat.mul_div_cancel _ (by omega)
    rw [nq] at hs2
    have h2 : S / 2 = H := by omega
    repeat' (first | refine Fin.tail ?_ | refine Fin.then_normal ?_ | refine Fin.then_exit ?_ | refine Fin.then_ret ?_ | refine Fin.block_normal ?_ | refine Fin.block_ret ?_ | refine Fin.block_hit ?_ | refine Fin.block_miss rfl ?_ | refine Fin.loop_exit ?_ | refine Fin.loop_ret ?_ | refine WP.seq ?_ | (refine WP.regionQ (by kernel_rfl) (by kernel_rfl) ?_) | refine WP.block ?_ | refine WP.region ?_ | refine WP.skip ?_ | refine WP.exit ?_ | refine WP.ret ?_ | refine WP.label ?_ | refine WP.cond_true rfl ?_ | refine WP.cond_false rfl ?_ | (refine WP.cond_dec rfl (fun h => ?_) (fun h => ?_) <;> (try (exfalso; omega))) | (refine WP.cond_bool rfl (fun h => ?_) (fun h => ?_)) | refine WL.nil ?_ | refine WL.cons ?_ | (show OP _ _ _ _ _ _ _ ⟨_, .move _, _, _, _, none⟩ _ _; first | refine OP.mI rfl rfl ?_ | refine OP.mB rfl rfl ?_ | refine OP.mC rfl rfl ?_ | refine OP.mF rfl rfl ?_ | refine OP.mS rfl rfl ?_ | refine OP.mP rfl rfl ?_ | refine OP.mA rfl rfl ?_ | refine OP.mT rfl rfl ?_ | refine OP.mM rfl rfl ?_ | refine OP.mU rfl rfl ?_ | refine OP.move rfl rfl ?_) | (show OP _ _ _ _ _ _ _ ⟨_, .assign _, _, _, _, none⟩ _ _; first | refine OP.aI rfl rfl ?_ | refine OP.aB rfl rfl ?_ | refine OP.aC rfl rfl ?_ | refine OP.aF rfl rfl ?_ | refine OP.aS rfl rfl ?_ | refine OP.aP rfl rfl ?_ | refine OP.aA rfl rfl ?_ | refine OP.aT rfl rfl ?_ | refine OP.aM rfl rfl ?_ | refine OP.aU rfl rfl ?_ | refine OP.assign rfl rfl ?_) | refine OP.len rfl rfl rfl ?_ | (show OP _ _ _ _ _ _ _ ⟨_, .binOp _ _ _ _ _, _, _, _, none⟩ _ _; first | (refine OP.add rfl rfl rfl ?_ ?_ ?_; omega; omega) | refine OP.lss rfl rfl rfl ?_ | refine OP.leq rfl rfl rfl ?_ | (refine OP.mul rfl rfl rfl ?_ ?_ ?_; omega; omega) | (refine OP.quoN rfl rfl rfl ?_ ?_ ?_ ?_; omega; omega; omega) | (refine OP.quo rfl rfl rfl ?_ ?_ ?_ ?_ ?_; omega; omega; omega; omega)) | (show OP _ _ _ _ _ _ _ ⟨_, .load _ _, _, _, _, none⟩ _ _; first | refine OP.ld rfl rfl inferInstance rfl ?_ | refine OP.load rfl rfl (Sees.old0 (by assumption)) ?_ | refine OP.ldA rfl rfl inferInstance rfl ?_) | (show OP _ _ _ _ _ _ _ ⟨_, .store _ _ _, _, _, _, none⟩ _ _; first | refine OP.stI rfl rfl inferInstance rfl ?_ | refine OP.stB rfl rfl inferInstance rfl ?_ | refine OP.stC rfl rfl inferInstance rfl ?_ | refine OP.stF rfl rfl inferInstance rfl ?_ | refine OP.stS rfl rfl inferInstance rfl ?_ | refine OP.stP rfl rfl inferInstance rfl ?_ | refine OP.stM rfl rfl inferInstance rfl ?_ | refine OP.stU rfl rfl inferInstance rfl ?_ | refine OP.st (vs := [_]) rfl rfl inferInstance rfl rfl rfl ?_ | refine OP.st (vs := [_, _]) rfl rfl inferInstance rfl rfl rfl ?_ | refine OP.st (vs := [_, _, _]) rfl rfl inferInstance rfl rfl rfl ?_) | refine OP.alI rfl (fun al => ?_) | refine OP.alA rfl (fun al => ?_) | refine OP.alloc rfl rfl (fun al => ?_) | refine OP.build rfl rfl ?_)
    refine WP.loop [5, 6, 7, 8, 15, 16, 17, 18, 19, 20, 21, 22, 23, 24, 25, 26, 27, 28, 29, 30, 31, 32, 33, 34, 35, 36, 37, 38, 39, 40, 41, 42, 43, 44, 45, 46, 47, 48, 49, 50, 51, 52, 53, 54, 55, 56, 57, 58, 59, 60, 61, 62, 63, 64, 65, 66, 67, 68, 69, 70, 71, 72, 73, 74, 75] (fun z : Nat × List Cx => [(5, .int .i64 ((z.1 * S : Nat) : Int))]) (fun z => [(yb, .cells (cxs z.2 ++ sp).toArray 28 (0, 0))]) (fun z => z.1 ≤ q ∧ bfF ws N S ys z.1 = some z.2) (fun z => q - z.1) (0, ys) ⟨by dsimp only; omega, rfl⟩ rfl ⟨by rw [Nat.zero_mul]; rfl, trivial⟩ ?_
    rintro ⟨j, yj⟩ jj ⟨j1, j2⟩
    dsimp only [updL] at j1 j2 ⊢
    have yjl := bfF_len j2
    have jS : j < q → j * S + S ≤ N := fun h => by
      have := Nat.mul_le_mul_right S (show j + 1 ≤ q from h)
      rw [Nat.add_mul, Nat.one_mul] at this; omega
    have jS2 : ¬ j < q → j * S = N := fun h => by
      have : j = q := by omega
      rw [this]; omega
    by_cases hj : j < q
    · have jb := jS hj
      obtain ⟨yj', hj'⟩ := bfF_some (show j + 1 ≤ q by omega) hs2
      have hj2 := hj'
      unfold bfF at hj2
      rw [j2, Option.bind_some, h2] at hj2
      have hjm : (j + 1) * S = j * S + S := by rw [Nat.add_mul, Nat.one_mul]
      obtain ⟨F, hF⟩ : ∃ F, F = j * S := ⟨_, rfl⟩
      rw [← hF] at hj2 jb hjm ⊢
      repeat' (first | refine Fin.tail ?_ | refine Fin.then_normal ?_ | refine Fin.then_exit ?_ | refine Fin.then_ret ?_ | refine Fin.block_normal ?_ | refine Fin.block_ret ?_ | refine Fin.block_hit ?_ | refine Fin.block_miss rfl ?_ | refine Fin.loop_exit ?_ | refine Fin.loop_ret ?_ | refine WP.seq ?_ | (refine WP.regionQ (by kernel_rfl) (by kernel_rfl) ?_) | refine WP.block ?_ | refine WP.region ?_ | refine WP.skip ?_ | refine WP.exit ?_ | refine WP.ret ?_ | refine WP.label ?_ | refine WP.cond_true rfl ?_ | refine WP.cond_false rfl ?_ | (refine WP.cond_dec rfl (fun h => ?_) (fun h => ?_) <;> (try (exfalso; omega))) | (refine WP.cond_bool rfl (fun h => ?_) (fun h => ?_)) | refine WL.nil ?_ | refine WL.cons ?_ | (show OP _ _ _ _ _ _ _ ⟨_, .move _, _, _, _, none⟩ _ _; first | refine OP.mI rfl rfl ?_ | refine OP.mB rfl rfl ?_ | refine OP.mC rfl rfl ?_ | refine OP.mF rfl rfl ?_ | refine OP.mS rfl rfl ?_ | refine OP.mP rfl rfl ?_ | refine OP.mA rfl rfl ?_ | refine OP.mT rfl rfl ?_ | refine OP.mM rfl rfl ?_ | refine OP.mU rfl rfl ?_ | refine OP.move rfl rfl ?_) | (show OP _ _ _ _ _ _ _ ⟨_, .assign _, _, _, _, none⟩ _ _; first | refine OP.aI rfl rfl ?_ | refine OP.aB rfl rfl ?_ | refine OP.aC rfl rfl ?_ | refine OP.aF rfl rfl ?_ | refine OP.aS rfl rfl ?_ | refine OP.aP rfl rfl ?_ | refine OP.aA rfl rfl ?_ | refine OP.aT rfl rfl ?_ | refine OP.aM rfl rfl ?_ | refine OP.aU rfl rfl ?_ | refine OP.assign rfl rfl ?_) | refine OP.len rfl rfl rfl ?_ | (show OP _ _ _ _ _ _ _ ⟨_, .binOp _ _ _ _ _, _, _, _, none⟩ _ _; first | refine OP.quoR (b := 2) (by decide) (quo_nat (b := 2) h2 (by omega)) rfl rfl rfl ?_ | (refine OP.add rfl rfl rfl ?_ ?_ ?_; omega; omega) | refine OP.lss rfl rfl rfl ?_ | refine OP.leq rfl rfl rfl ?_ | (refine OP.mul rfl rfl rfl ?_ ?_ ?_; omega; omega) | (refine OP.quoN rfl rfl rfl ?_ ?_ ?_ ?_; omega; omega; omega) | (refine OP.quo rfl rfl rfl ?_ ?_ ?_ ?_ ?_; omega; omega; omega; omega)) | (show OP _ _ _ _ _ _ _ ⟨_, .load _ _, _, _, _, none⟩ _ _; first | refine OP.ld rfl rfl inferInstance rfl ?_ | refine OP.load rfl rfl (Sees.old0 (by assumption)) ?_ | refine OP.ldA rfl rfl inferInstance rfl ?_) | (show OP _ _ _ _ _ _ _ ⟨_, .store _ _ _, _, _, _, none⟩ _ _; first | refine OP.stI rfl rfl inferInstance rfl ?_ | refine OP.stB rfl rfl inferInstance rfl ?_ | refine OP.stC rfl rfl inferInstance rfl ?_ | refine OP.stF rfl rfl inferInstance rfl ?_ | refine OP.stS rfl rfl inferInstance rfl ?_ | refine OP.stP rfl rfl inferInstance rfl ?_ | refine OP.stM rfl rfl inferInstance rfl ?_ | refine OP.stU rfl rfl inferInstance rfl ?_ | refine OP.st (vs := [_]) rfl rfl inferInstance rfl rfl rfl ?_ | refine OP.st (vs := [_, _]) rfl rfl inferInstance rfl rfl rfl ?_ | refine OP.st (vs := [_, _, _]) rfl rfl inferInstance rfl rfl rfl ?_) | refine OP.alI rfl (fun al => ?_) | refine OP.alA rfl (fun al => ?_) | refine OP.alloc rfl rfl (fun al => ?_) | refine OP.build rfl rfl ?_)
      refine WP.loop [6, 7, 8, 24, 25, 26, 27, 28, 29, 30, 31, 32, 33, 34, 35, 36, 37, 38, 39, 40, 41, 42, 43, 44, 45, 46, 47, 48, 49, 50, 51, 52, 53, 54, 55, 56, 57, 58, 59, 60, 61, 62, 63, 64, 65, 66, 67, 68, 69, 70, 71, 72, 73, 74, 75] (fun z : Nat × List Cx => [(24, .int .i64 z.1)]) (fun z => [(yb, .cells (cxs z.2 ++ sp).toArray 28 (0, 0))]) (fun z => z.1 ≤ H ∧ bfK ws N S F yj z.1 = some z.2) (fun z => H - z.1) (0, yj) ⟨by dsimp only; omega, rfl⟩ rfl ⟨rfl, trivial⟩ ?_
      rintro ⟨k, y⟩ jk ⟨k1, k2⟩
      dsimp only [updL] at k1 k2 ⊢
      have ykl := bfK_len k2
      by_cases hk : k < H
      · obtain ⟨y', hk'⟩ := bfK_some (show k + 1 ≤ H by omega) hj2
        have hk2 := hk'
        unfold bfK at hk2
        rw [k2, Option.bind_some] at hk2
        unfold bf1 at hk2
        rw [nq, h2] at hk2
        simp only [Option.bind_eq_some_iff, Option.some.injEq] at hk2
        obtain ⟨a, ha, o, ho, t, ht, e, he, p, hpp, d, hd, rfl⟩ := hk2
        have kq : k * q < N := (List.getElem?_eq_some_iff.1 ha).1 |> fun h => by omega
        have ha' := hw.c _ _ ha
        have lo := cxs_at (sp := sp) ho
        have le := cxs_at (sp := sp) he
        have sz0 := cxs_size (l := y) (sp := sp) (i := F + k) (by omega)
        have st0 := cxs_set y sp (F + k) p (by omega)
        have sz1 := cxs_size (l := y.set (F + k) p) (sp := sp) (i := F + k + H) (by rw [List.length_set]; omega)
        have st1 := cxs_set (y.set (F + k) p) sp (F + k + H) d (by rw [List.length_set]; omega)
        repeat' (first | refine OP.indexAddr (j := k * q) rfl rfl rfl (Int.natCast_mul k q).symm kq ?_ | refine OP.indexAddr (j := F + k + H) rfl rfl rfl (by omega) (by omega) ?_ | refine OP.indexArr (j := 1) rfl rfl rfl rfl (by decide) ?_ | refine OP.load rfl rfl (Sees.old ha' hne) ?_ | refine OP.load rfl rfl (Sees.own (List.Mem.tail _ (List.Mem.head _)) lo) ?_ | (show WP _ _ _ _ _ (.region 11 _ _) _ _; refine WP.perm (List.Perm.swap _ _ _) ?_; refine WP.regionH [_] [_] rfl (by kernel_rfl) ?_) | refine Fin.tail ?_ | refine Fin.then_normal ?_ | refine Fin.then_exit ?_ | refine Fin.then_ret ?_ | refine Fin.block_normal ?_ | refine Fin.block_ret ?_ | refine Fin.block_hit ?_ | refine Fin.block_miss rfl ?_ | refine Fin.loop_exit ?_ | refine Fin.loop_ret ?_ | refine WP.seq ?_ | (refine WP.regionQ (by kernel_rfl) (by kernel_rfl) ?_) | refine WP.block ?_ | refine WP.region ?_ | refine WP.skip ?_ | refine WP.exit ?_ | refine WP.ret ?_ | refine WP.label ?_ | refine WP.cond_true rfl ?_ | refine WP.cond_false rfl ?_ | (refine WP.cond_dec rfl (fun h => ?_) (fun h => ?_) <;> (try (exfalso; omega))) | (refine WP.cond_bool rfl (fun h => ?_) (fun h => ?_)) | refine WL.nil ?_ | refine WL.cons ?_ | (show OP _ _ _ _ _ _ _ ⟨_, .move _, _, _, _, none⟩ _ _; first | refine OP.mI rfl rfl ?_ | refine OP.mB rfl rfl ?_ | refine OP.mC rfl rfl ?_ | refine OP.mF rfl rfl ?_ | refine OP.mS rfl rfl ?_ | refine OP.mP rfl rfl ?_ | refine OP.mA rfl rfl ?_ | refine OP.mT rfl rfl ?_ | refine OP.mM rfl rfl ?_ | refine OP.mU rfl rfl ?_ | refine OP.move rfl rfl ?_) | (show OP _ _ _ _ _ _ _ ⟨_, .assign _, _, _, _, none⟩ _ _; first | refine OP.aI rfl rfl ?_ | refine OP.aB rfl rfl ?_ | refine OP.aC rfl rfl ?_ | refine OP.aF rfl rfl ?_ | refine OP.aS rfl rfl ?_ | refine OP.aP rfl rfl ?_ | refine OP.aA rfl rfl ?_ | refine OP.aT rfl rfl ?_ | refine OP.aM rfl rfl ?_ | refine OP.aU rfl rfl ?_ | refine OP.assign rfl rfl ?_) | (show OP _ _ _ _ _ _ _ ⟨_, .call _, _, _, _, none⟩ _ _; first | refine OP.callq _ rfl (fun w _ => Mul_fn a o t ht w) (fun _ _ h => h.1) ?_ | refine OP.len rfl rfl rfl ?_) | (show OP _ _ _ _ _ _ _ ⟨_, .binOp _ _ _ _ _, _, _, _, none⟩ _ _; first | refine OP.quoR (b := 2) (by decide) (quo_nat (b := 2) h2 (by omega)) rfl rfl rfl ?_ | refine OP.quoR (by omega) (quo_nat (b := S) nq (by omega)) rfl rfl rfl ?_ | (refine OP.add rfl rfl rfl ?_ ?_ ?_; omega; omega) | refine OP.lss rfl rfl rfl ?_ | refine OP.leq rfl rfl rfl ?_ | (refine OP.mul rfl rfl rfl ?_ ?_ ?_; omega; omega) | (refine OP.quoN rfl rfl rfl ?_ ?_ ?_ ?_; omega; omega; omega) | (refine OP.quo rfl rfl rfl ?_ ?_ ?_ ?_ ?_; omega; omega; omega; omega)) | (show OP _ _ _ _ _ _ _ ⟨_, .load _ _, _, _, _, none⟩ _ _; first | refine OP.ld rfl rfl inferInstance rfl ?_ | refine OP.load rfl rfl (Sees.old0 (by assumption)) ?_ | refine OP.ldA rfl rfl inferInstance rfl ?_) | (show OP _ _ _ _ _ _ _ ⟨_, .store _ _ _, _, _, _, none⟩ _ _; first | refine OP.stI rfl rfl inferInstance rfl ?_ | refine OP.stB rfl rfl inferInstance rfl ?_ | refine OP.stC rfl rfl inferInstance rfl ?_ | refine OP.stF rfl rfl inferInstance rfl ?_ | refine OP.stS rfl rfl inferInstance rfl ?_ | refine OP.stP rfl rfl inferInstance rfl ?_ | refine OP.stM rfl rfl inferInstance rfl ?_ | refine OP.stU rfl rfl inferInstance rfl ?_ | refine OP.st (vs := [_]) rfl rfl inferInstance rfl rfl rfl ?_ | refine OP.st (vs := [_, _]) rfl rfl inferInstance rfl rfl rfl ?_ | refine OP.st (vs := [_, _, _]) rfl rfl inferInstance rfl rfl rfl ?_) | refine OP.alI rfl (fun al => ?_) | refine OP.alA rfl (fun al => ?_) | refine OP.alloc rfl rfl (fun al => ?_) | refine OP.build rfl rfl ?_)
        refine WH.take (i := 0) rfl (by kernel_rfl) (by kernel_rfl) (by kernel_rfl) rfl ?_
        (first | refine OP.indexArr (j := 0) rfl rfl rfl rfl (by decide) ?_ | refine OP.indexArr (j := 1) rfl rfl rfl rfl (by decide) ?_ | refine OP.indexAddr (j := F + k) rfl rfl rfl (by omega) (by omega) ?_ | refine OP.indexAddr (j := F + k + H) rfl rfl rfl (by omega) (by omega) ?_ | refine OP.load rfl rfl (Sees.own (List.Mem.head _) le) ?_ | (refine OP.store0 (vs := [.complex .f64 p.1 p.2]) rfl rfl rfl rfl sz0 ?_; rw [st0]) | (refine OP.store0 (vs := [.complex .f64 d.1 d.2]) rfl rfl rfl rfl sz1 ?_; rw [st1]) | refine OP.mI rfl rfl ?_ | refine OP.mB rfl rfl ?_ | refine OP.mC rfl rfl ?_ | refine OP.mF rfl rfl ?_ | refine OP.mS rfl rfl ?_ | refine OP.mP rfl rfl ?_ | refine OP.mA rfl rfl ?_ | refine OP.mT rfl rfl ?_ | refine OP.mM rfl rfl ?_ | refine OP.mU rfl rfl ?_ | refine OP.move rfl rfl ?_)
        refine WH.take (i := 1) rfl (by kernel_rfl) (by kernel_rfl) (by kernel_rfl) rfl ?_
        (first | refine OP.indexArr (j := 0) rfl rfl rfl rfl (by decide) ?_ | refine OP.indexArr (j := 1) rfl rfl rfl rfl (by decide) ?_ | refine OP.indexAddr (j := F + k) rfl rfl rfl (by omega) (by omega) ?_ | refine OP.indexAddr (j := F + k + H) rfl rfl rfl (by omega) (by omega) ?_ | refine OP.load rfl rfl (Sees.own (List.Mem.head _) le) ?_ | (refine OP.store0 (vs := [.complex .f64 p.1 p.2]) rfl rfl rfl rfl sz0 ?_; rw [st0]) | (refine OP.store0 (vs := [.complex .f64 d.1 d.2]) rfl rfl rfl rfl sz1 ?_; rw [st1]))
        refine WH.take (i := 2) rfl (by kernel_rfl) (by kernel_rfl) (by kernel_rfl) rfl ?_
        (first | refine OP.indexArr (j := 0) rfl rfl rfl rfl (by decide) ?_ | refine OP.indexArr (j := 1) rfl rfl rfl rfl (by decide) ?_ | refine OP.indexAddr (j := F + k) rfl rfl rfl (by omega) (by omega) ?_ | refine OP.indexAddr (j := F + k + H) rfl rfl rfl (by omega) (by omega) ?_ | refine OP.load rfl rfl (Sees.own (List.Mem.head _) le) ?_ | (refine OP.store0 (vs := [.complex .f64 p.1 p.2]) rfl rfl rfl rfl sz0 ?_; rw [st0]) | (refine OP.store0 (vs := [.complex .f64 d.1 d.2]) rfl rfl rfl rfl sz1 ?_; rw [st1]) | refine OP.ld rfl rfl inferInstance rfl ?_ | refine OP.load rfl rfl (Sees.old0 (by assumption)) ?_ | refine OP.ldA rfl rfl inferInstance rfl ?_)
        refine WH.take (i := 3) rfl (by kernel_rfl) (by kernel_rfl) (by kernel_rfl) rfl ?_
        (first | refine OP.indexArr (j := 0) rfl rfl rfl rfl (by decide) ?_ | refine OP.indexArr (j := 1) rfl rfl rfl rfl (by decide) ?_ | refine OP.indexAddr (j := F + k) rfl rfl rfl (by omega) (by omega) ?_ | refine OP.indexAddr (j := F + k + H) rfl rfl rfl (by omega) (by omega) ?_ | refine OP.load rfl rfl (Sees.own (List.Mem.head _) le) ?_ | (refine OP.store0 (vs := [.complex .f64 p.1 p.2]) rfl rfl rfl rfl sz0 ?_; rw [st0]) | (refine OP.store0 (vs := [.complex .f64 d.1 d.2]) rfl rfl rfl rfl sz1 ?_; rw [st1]) | refine OP.mI rfl rfl ?_ | refine OP.mB rfl rfl ?_ | refine OP.mC rfl rfl ?_ | refine OP.mF rfl rfl ?_ | refine OP.mS rfl rfl ?_ | refine OP.mP rfl rfl ?_ | refine OP.mA rfl rfl ?_ | refine OP.mT rfl rfl ?_ | refine OP.mM rfl rfl ?_ | refine OP.mU rfl rfl ?_ | refine OP.move rfl rfl ?_)
        refine WH.take (i := 4) rfl (by kernel_rfl) (by kernel_rfl) (by kernel_rfl) rfl ?_
        (first | refine OP.indexArr (j := 0) rfl rfl rfl rfl (by decide) ?_ | refine OP.indexArr (j := 1) rfl rfl rfl rfl (by decide) ?_ | refine OP.indexAddr (j := F + k) rfl rfl rfl (by omega) (by omega) ?_ | refine OP.indexAddr (j := F + k + H) rfl rfl rfl (by omega) (by omega) ?_ | refine OP.load rfl rfl (Sees.own (List.Mem.head _) le) ?_ | (refine OP.store0 (vs := [.complex .f64 p.1 p.2]) rfl rfl rfl rfl sz0 ?_; rw [st0]) | (refine OP.store0 (vs := [.complex .f64 d.1 d.2]) rfl rfl rfl rfl sz1 ?_; rw [st1]))
        refine WH.take (i := 5) rfl (by kernel_rfl) (by kernel_rfl) (by kernel_rfl) rfl ?_
        (first | refine OP.indexArr (j := 0) rfl rfl rfl rfl (by decide) ?_ | refine OP.indexArr (j := 1) rfl rfl rfl rfl (by decide) ?_ | refine OP.indexAddr (j := F + k) rfl rfl rfl (by omega) (by omega) ?_ | refine OP.indexAddr (j := F + k + H) rfl rfl rfl (by omega) (by omega) ?_ | refine OP.load rfl rfl (Sees.own (List.Mem.head _) le) ?_ | (refine OP.store0 (vs := [.complex .f64 p.1 p.2]) rfl rfl rfl rfl sz0 ?_; rw [st0]) | (refine OP.store0 (vs := [.complex .f64 d.1 d.2]) rfl rfl rfl rfl sz1 ?_; rw [st1]) | refine OP.ld rfl rfl inferInstance rfl ?_ | refine OP.load rfl rfl (Sees.old0 (by assumption)) ?_ | refine OP.ldA rfl rfl inferInstance rfl ?_)
        refine WH.take (i := 6) rfl (by kernel_rfl) (by kernel_rfl) (by kernel_rfl) rfl ?_
        (first | refine OP.indexArr (j := 0) rfl rfl rfl rfl (by decide) ?_ | refine OP.indexArr (j := 1) rfl rfl rfl rfl (by decide) ?_ | refine OP.indexAddr (j := F + k) rfl rfl rfl (by omega) (by omega) ?_ | refine OP.indexAddr (j := F + k + H) rfl rfl rfl (by omega) (by omega) ?_ | refine OP.load rfl rfl (Sees.own (List.Mem.head _) le) ?_ | (refine OP.store0 (vs := [.complex .f64 p.1 p.2]) rfl rfl rfl rfl sz0 ?_; rw [st0]) | (refine OP.store0 (vs := [.complex .f64 d.1 d.2]) rfl rfl rfl rfl sz1 ?_; rw [st1]) | refine OP.mI rfl rfl ?_ | refine OP.mB rfl rfl ?_ | refine OP.mC rfl rfl ?_ | refine OP.mF rfl rfl ?_ | refine OP.mS rfl rfl ?_ | refine OP.mP rfl rfl ?_ | refine OP.mA rfl rfl ?_ | refine OP.mT rfl rfl ?_ | refine OP.mM rfl rfl ?_ | refine OP.mU rfl rfl ?_ | refine OP.move rfl rfl ?_)
        refine WH.take (i := 7) rfl (by kernel_rfl) (by kernel_rfl) (by kernel_rfl) rfl ?_
        (first | refine OP.indexArr (j := 0) rfl rfl rfl rfl (by decide) ?_ | refine OP.indexArr (j := 1) rfl rfl rfl rfl (by decide) ?_ | refine OP.indexAddr (j := F + k) rfl rfl rfl (by omega) (by omega) ?_ | refine OP.indexAddr (j := F + k + H) rfl rfl rfl (by omega) (by omega) ?_ | refine OP.load rfl rfl (Sees.own (List.Mem.head _) le) ?_ | (refine OP.store0 (vs := [.complex .f64 p.1 p.2]) rfl rfl rfl rfl sz0 ?_; rw [st0]) | (refine OP.store0 (vs := [.complex .f64 d.1 d.2]) rfl rfl rfl rfl sz1 ?_; rw [st1]))
        refine WH.take (i := 8) rfl (by kernel_rfl) (by kernel_rfl) (by kernel_rfl) rfl ?_
        (first | refine OP.indexArr (j := 0) rfl rfl rfl rfl (by decide) ?_ | refine OP.indexArr (j := 1) rfl rfl rfl rfl (by decide) ?_ | refine OP.indexAddr (j := F + k) rfl rfl rfl (by omega) (by omega) ?_ | refine OP.indexAddr (j := F + k + H) rfl rfl rfl (by omega) (by omega) ?_ | refine OP.load rfl rfl (Sees.own (List.Mem.head _) le) ?_ | (refine OP.store0 (vs := [.complex .f64 p.1 p.2]) rfl rfl rfl rfl sz0 ?_; rw [st0]) | (refine OP.store0 (vs := [.complex .f64 d.1 d.2]) rfl rfl rfl rfl sz1 ?_; rw [st1]) | refine OP.ld rfl rfl inferInstance rfl ?_ | refine OP.load rfl rfl (Sees.old0 (by assumption)) ?_ | refine OP.ldA rfl rfl inferInstance rfl ?_)
        refine WH.take (i := 9) rfl (by kernel_rfl) (by kernel_rfl) (by kernel_rfl) rfl ?_
        (first | refine OP.indexArr (j := 0) rfl rfl rfl rfl (by decide) ?_ | refine OP.indexArr (j := 1) rfl rfl rfl rfl (by decide) ?_ | refine OP.indexAddr (j := F + k) rfl rfl rfl (by omega) (by omega) ?_ | refine OP.indexAddr (j := F + k + H) rfl rfl rfl (by omega) (by omega) ?_ | refine OP.load rfl rfl (Sees.own (List.Mem.head _) le) ?_ | (refine OP.store0 (vs := [.complex .f64 p.1 p.2]) rfl rfl rfl rfl sz0 ?_; rw [st0]) | (refine OP.store0 (vs := [.complex .f64 d.1 d.2]) rfl rfl rfl rfl sz1 ?_; rw [st1]))
        refine WH.take (i := 11) rfl (by kernel_rfl) (by kernel_rfl) (by kernel_rfl) rfl ?_
        (first | refine OP.indexArr (j := 0) rfl rfl rfl rfl (by decide) ?_ | refine OP.indexArr (j := 1) rfl rfl rfl rfl (by decide) ?_ | refine OP.indexAddr (j := F + k) rfl rfl rfl (by omega) (by omega) ?_ | refine OP.indexAddr (j := F + k + H) rfl rfl rfl (by omega) (by omega) ?_ | refine OP.load rfl rfl (Sees.own (List.Mem.head _) le) ?_ | (refine OP.store0 (vs := [.complex .f64 p.1 p.2]) rfl rfl rfl rfl sz0 ?_; rw [st0]) | (refine OP.store0 (vs := [.complex .f64 d.1 d.2]) rfl rfl rfl rfl sz1 ?_; rw [st1]) | refine OP.mI rfl rfl ?_ | refine OP.mB rfl rfl ?_ | refine OP.mC rfl rfl ?_ | refine OP.mF rfl rfl ?_ | refine OP.mS rfl rfl ?_ | refine OP.mP rfl rfl ?_ | refine OP.mA rfl rfl ?_ | refine OP.mT rfl rfl ?_ | refine OP.mM rfl rfl ?_ | refine OP.mU rfl rfl ?_ | refine OP.move rfl rfl ?_)
        refine WH.take (i := 13) rfl (by kernel_rfl) (by kernel_rfl) (by kernel_rfl) rfl ?_
        (first | refine OP.indexArr (j := 0) rfl rfl rfl rfl (by decide) ?_ | refine OP.indexArr (j := 1) rfl rfl rfl rfl (by decide) ?_ | refine OP.indexAddr (j := F + k) rfl rfl rfl (by omega) (by omega) ?_ | refine OP.indexAddr (j := F + k + H) rfl rfl rfl (by omega) (by omega) ?_ | refine OP.load rfl rfl (Sees.own (List.Mem.head _) le) ?_ | (refine OP.store0 (vs := [.complex .f64 p.1 p.2]) rfl rfl rfl rfl sz0 ?_; rw [st0]) | (refine OP.store0 (vs := [.complex .f64 d.1 d.2]) rfl rfl rfl rfl sz1 ?_; rw [st1]) | refine OP.mI rfl rfl ?_ | refine OP.mB rfl rfl ?_ | refine OP.mC rfl rfl ?_ | refine OP.mF rfl rfl ?_ | refine OP.mS rfl rfl ?_ | refine OP.mP rfl rfl ?_ | refine OP.mA rfl rfl ?_ | refine OP.mT rfl rfl ?_ | refine OP.mM rfl rfl ?_ | refine OP.mU rfl rfl ?_ | refine OP.move rfl rfl ?_)
        refine WH.take (i := 14) rfl (by kernel_rfl) (by kernel_rfl) (by kernel_rfl) rfl ?_
        (first | refine OP.indexArr (j := 0) rfl rfl rfl rfl (by decide) ?_ | refine OP.indexArr (j := 1) rfl rfl rfl rfl (by decide) ?_ | refine OP.indexAddr (j := F + k) rfl rfl rfl (by omega) (by omega) ?_ | refine OP.indexAddr (j := F + k + H) rfl rfl rfl (by omega) (by omega) ?_ | refine OP.load rfl rfl (Sees.own (List.Mem.head _) le) ?_ | (refine OP.store0 (vs := [.complex .f64 p.1 p.2]) rfl rfl rfl rfl sz0 ?_; rw [st0]) | (refine OP.store0 (vs := [.complex .f64 d.1 d.2]) rfl rfl rfl rfl sz1 ?_; rw [st1]))
        refine WH.take (i := 15) rfl (by kernel_rfl) (by kernel_rfl) (by kernel_rfl) rfl ?_
        (first | refine OP.indexArr (j := 0) rfl rfl rfl rfl (by decide) ?_ | refine OP.indexArr (j := 1) rfl rfl rfl rfl (by decide) ?_ | refine OP.indexAddr (j := F + k) rfl rfl rfl (by omega) (by omega) ?_ | refine OP.indexAddr (j := F + k + H) rfl rfl rfl (by omega) (by omega) ?_ | refine OP.load rfl rfl (Sees.own (List.Mem.head _) le) ?_ | (refine OP.store0 (vs := [.complex .f64 p.1 p.2]) rfl rfl rfl rfl sz0 ?_; rw [st0]) | (refine OP.store0 (vs := [.complex .f64 d.1 d.2]) rfl rfl rfl rfl sz1 ?_; rw [st1]) | refine OP.ld rfl rfl inferInstance rfl ?_ | refine OP.load rfl rfl (Sees.old0 (by assumption)) ?_ | refine OP.ldA rfl rfl inferInstance rfl ?_)
        refine WH.take (i := 16) rfl (by kernel_rfl) (by kernel_rfl) (by kernel_rfl) rfl ?_
        (first | refine OP.indexArr (j := 0) rfl rfl rfl rfl (by decide) ?_ | refine OP.indexArr (j := 1) rfl rfl rfl rfl (by decide) ?_ | refine OP.indexAddr (j := F + k) rfl rfl rfl (by omega) (by omega) ?_ | refine OP.indexAddr (j := F + k + H) rfl rfl rfl (by omega) (by omega) ?_ | refine OP.load rfl rfl (Sees.own (List.Mem.head _) le) ?_ | (refine OP.store0 (vs := [.complex .f64 p.1 p.2]) rfl rfl rfl rfl sz0 ?_; rw [st0]) | (refine OP.store0 (vs := [.complex .f64 d.1 d.2]) rfl rfl rfl rfl sz1 ?_; rw [st1]))
        refine WH.take (i := 18) rfl (by kernel_rfl) (by kernel_rfl) (by kernel_rfl) rfl ?_
        (first | refine OP.indexArr (j := 0) rfl rfl rfl rfl (by decide) ?_ | refine OP.indexArr (j := 1) rfl rfl rfl rfl (by decide) ?_ | refine OP.indexAddr (j := F + k) rfl rfl rfl (by omega) (by omega) ?_ | refine OP.indexAddr (j := F + k + H) rfl rfl rfl (by omega) (by omega) ?_ | refine OP.load rfl rfl (Sees.own (List.Mem.head _) le) ?_ | (refine OP.store0 (vs := [.complex .f64 p.1 p.2]) rfl rfl rfl rfl sz0 ?_; rw [st0]) | (refine OP.store0 (vs := [.complex .f64 d.1 d.2]) rfl rfl rfl rfl sz1 ?_; rw [st1]) | refine OP.mI rfl rfl ?_ | refine OP.mB rfl rfl ?_ | refine OP.mC rfl rfl ?_ | refine OP.mF rfl rfl ?_ | refine OP.mS rfl rfl ?_ | refine OP.mP rfl rfl ?_ | refine OP.mA rfl rfl ?_ | refine OP.mT rfl rfl ?_ | refine OP.mM rfl rfl ?_ | refine OP.mU rfl rfl ?_ | refine OP.move rfl rfl ?_)
        refine WH.step (rs := [10, 17]) (by kernel_rfl) rfl (all_cons ⟨_, rfl, ?_⟩ (all_cons ⟨_, rfl, ?_⟩ all_nil))
        (first | refine OP.indexArr (j := 0) rfl rfl rfl rfl (by decide) ?_ | refine OP.indexArr (j := 1) rfl rfl rfl rfl (by decide) ?_ | refine OP.indexAddr (j := F + k) rfl rfl rfl (by omega) (by omega) ?_ | refine OP.indexAddr (j := F + k + H) rfl rfl rfl (by omega) (by omega) ?_ | refine OP.load rfl rfl (Sees.own (List.Mem.head _) le) ?_ | (refine OP.store0 (vs := [.complex .f64 p.1 p.2]) rfl rfl rfl rfl sz0 ?_; rw [st0]) | (refine OP.store0 (vs := [.complex .f64 d.1 d.2]) rfl rfl rfl rfl sz1 ?_; rw [st1]) | refine OP.ld rfl rfl inferInstance rfl ?_ | refine OP.load rfl rfl (Sees.old0 (by assumption)) ?_ | refine OP.ldA rfl rfl inferInstance rfl ?_)
        refine next.mk (_ :: []) rfl ?_
        refine WH.step (rs := [12, 17]) (by kernel_rfl) rfl (all_cons ⟨_, rfl, ?_⟩ (all_cons ⟨_, rfl, ?_⟩ all_nil))
        (first | refine OP.indexArr (j := 0) rfl rfl rfl rfl (by decide) ?_ | refine OP.indexArr (j := 1) rfl rfl rfl rfl (by decide) ?_ | refine OP.indexAddr (j := F + k) rfl rfl rfl (by omega) (by omega) ?_ | refine OP.indexAddr (j := F + k + H) rfl rfl rfl (by omega) (by omega) ?_ | refine OP.load rfl rfl (Sees.own (List.Mem.head _) le) ?_ | (refine OP.store0 (vs := [.complex .f64 p.1 p.2]) rfl rfl rfl rfl sz0 ?_; rw [st0]) | (refine OP.store0 (vs := [.complex .f64 d.1 d.2]) rfl rfl rfl rfl sz1 ?_; rw [st1]) | refine OP.callq _ rfl (fun w _ => Add_fn e t p hpp w) (fun _ _ h => h.1) ?_ | refine OP.callq _ rfl (fun w _ => Sub_fn e t d hd w) (fun _ _ h => h.1) ?_)
        refine next.mk (_ :: []) rfl ?_
        refine WH.step (rs := [17]) (by kernel_rfl) rfl (all_cons ⟨_, rfl, ?_⟩ all_nil)
        (first | refine OP.indexArr (j := 0) rfl rfl rfl rfl (by decide) ?_ | refine OP.indexArr (j := 1) rfl rfl rfl rfl (by decide) ?_ | refine OP.indexAddr (j := F + k) rfl rfl rfl (by omega) (by omega) ?_ | refine OP.indexAddr (j := F + k + H) rfl rfl rfl (by omega) (by omega) ?_ | refine OP.load rfl rfl (Sees.own (List.Mem.head _) le) ?_ | (refine OP.store0 (vs := [.complex .f64 p.1 p.2]) rfl rfl rfl rfl sz0 ?_; rw [st0]) | (refine OP.store0 (vs := [.complex .f64 d.1 d.2]) rfl rfl rfl rfl sz1 ?_; rw [st1]) | refine OP.ld rfl rfl inferInstance rfl ?_ | refine OP.load rfl rfl (Sees.old0 (by assumption)) ?_ | refine OP.ldA rfl rfl inferInstance rfl ?_)
        refine next.mk (_ :: []) rfl ?_
        refine WH.step (rs := [19]) (by kernel_rfl) rfl (all_cons ⟨_, rfl, ?_⟩ all_nil)
        (first | refine OP.indexArr (j := 0) rfl rfl rfl rfl (by decide) ?_ | refine OP.indexArr (j := 1) rfl rfl rfl rfl (by decide) ?_ | refine OP.indexAddr (j := F + k) rfl rfl rfl (by omega) (by omega) ?_ | refine OP.indexAddr (j := F + k + H) rfl rfl rfl (by omega) (by omega) ?_ | refine OP.load rfl rfl (Sees.own (List.Mem.head _) le) ?_ | (refine OP.store0 (vs := [.complex .f64 p.1 p.2]) rfl rfl rfl rfl sz0 ?_; rw [st0]) | (refine OP.store0 (vs := [.complex .f64 d.1 d.2]) rfl rfl rfl rfl sz1 ?_; rw [st1]) | refine OP.callq _ rfl (fun w _ => Add_fn e t p hpp w) (fun _ _ h => h.1) ?_ | refine OP.callq _ rfl (fun w _ => Sub_fn e t d hd w) (fun _ _ h => h.1) ?_)
        refine next.mk (_ :: []) rfl ?_
        refine WH.take (i := 20) rfl (by kernel_rfl) (by kernel_rfl) (by kernel_rfl) rfl ?_
        (first | refine OP.indexArr (j := 0) rfl rfl rfl rfl (by decide) ?_ | refine OP.indexArr (j := 1) rfl rfl rfl rfl (by decide) ?_ | refine OP.indexAddr (j := F + k) rfl rfl rfl (by omega) (by omega) ?_ | refine OP.indexAddr (j := F + k + H) rfl rfl rfl (by omega) (by omega) ?_ | refine OP.load rfl rfl (Sees.own (List.Mem.head _) le) ?_ | (refine OP.store0 (vs := [.complex .f64 p.1 p.2]) rfl rfl rfl rfl sz0 ?_; rw [st0]) | (refine OP.store0 (vs := [.complex .f64 d.1 d.2]) rfl rfl rfl rfl sz1 ?_; rw [st1]))
        refine WH.step (rs := [21]) (by kernel_rfl) rfl (all_cons ⟨_, rfl, ?_⟩ all_nil)
        (first | refine OP.indexArr (j := 0) rfl rfl rfl rfl (by decide) ?_ | refine OP.indexArr (j := 1) rfl rfl rfl rfl (by decide) ?_ | refine OP.indexAddr (j := F + k) rfl rfl rfl (by omega) (by omega) ?_ | refine OP.indexAddr (j := F + k + H) rfl rfl rfl (by omega) (by omega) ?_ | refine OP.load rfl rfl (Sees.own (List.Mem.head _) le) ?_ | (refine OP.store0 (vs := [.complex .f64 p.1 p.2]) rfl rfl rfl rfl sz0 ?_; rw [st0]) | (refine OP.store0 (vs := [.complex .f64 d.1 d.2]) rfl rfl rfl rfl sz1 ?_; rw [st1]) | refine OP.stI rfl rfl inferInstance rfl ?_ | refine OP.stB rfl rfl inferInstance rfl ?_ | refine OP.stC rfl rfl inferInstance rfl ?_ | refine OP.stF rfl rfl inferInstance rfl ?_ | refine OP.stS rfl rfl inferInstance rfl ?_ | refine OP.stP rfl rfl inferInstance rfl ?_ | refine OP.stM rfl rfl inferInstance rfl ?_ | refine OP.stU rfl rfl inferInstance rfl ?_ | refine OP.st (vs := [_]) rfl rfl inferInstance rfl rfl rfl ?_ | refine OP.st (vs := [_, _]) rfl rfl inferInstance rfl rfl rfl ?_ | refine OP.st (vs := [_, _, _]) rfl rfl inferInstance rfl rfl rfl ?_)
        refine next.mk (_ :: []) rfl ?_
        refine WH.take (i := 22) rfl (by kernel_rfl) (by kernel_rfl) (by kernel_rfl) rfl ?_
        (first | refine OP.indexArr (j := 0) rfl rfl rfl rfl (by decide) ?_ | refine OP.indexArr (j := 1) rfl rfl rfl rfl (by decide) ?_ | refine OP.indexAddr (j := F + k) rfl rfl rfl (by omega) (by omega) ?_ | refine OP.indexAddr (j := F + k + H) rfl rfl rfl (by omega) (by omega) ?_ | refine OP.load rfl rfl (Sees.own (List.Mem.head _) le) ?_ | (refine OP.store0 (vs := [.complex .f64 p.1 p.2]) rfl rfl rfl rfl sz0 ?_; rw [st0]) | (refine OP.store0 (vs := [.complex .f64 d.1 d.2]) rfl rfl rfl rfl sz1 ?_; rw [st1]))
        refine WH.step (rs := [23]) (by kernel_rfl) rfl (all_cons ⟨_, rfl, ?_⟩ all_nil)
        (first | refine OP.indexArr (j := 0) rfl rfl rfl rfl (by decide) ?_ | refine OP.indexArr (j := 1) rfl rfl rfl rfl (by decide) ?_ | refine OP.indexAddr (j := F + k) rfl rfl rfl (by omega) (by omega) ?_ | refine OP.indexAddr (j := F + k + H) rfl rfl rfl (by omega) (by omega) ?_ | refine OP.load rfl rfl (Sees.own (List.Mem.head _) le) ?_ | (refine OP.store0 (vs := [.complex .f64 p.1 p.2]) rfl rfl rfl rfl sz0 ?_; rw [st0]) | (refine OP.store0 (vs := [.complex .f64 d.1 d.2]) rfl rfl rfl rfl sz1 ?_; rw [st1]) | refine OP.stI rfl rfl inferInstance rfl ?_ | refine OP.stB rfl rfl inferInstance rfl ?_ | refine OP.stC rfl rfl inferInstance rfl ?_ | refine OP.stF rfl rfl inferInstance rfl ?_ | refine OP.stS rfl rfl inferInstance rfl ?_ | refine OP.stP rfl rfl inferInstance rfl ?_ | refine OP.stM rfl rfl inferInstance rfl ?_ | refine OP.stU rfl rfl inferInstance rfl ?_ | refine OP.st (vs := [_]) rfl rfl inferInstance rfl rfl rfl ?_ | refine OP.st (vs := [_, _]) rfl rfl inferInstance rfl rfl rfl ?_ | refine OP.st (vs := [_, _, _]) rfl rfl inferInstance rfl rfl rfl ?_)
        refine next.mk (_ :: []) rfl ?_
        refine WH.done (by kernel_rfl) ?_
        rotate_left
        (first | refine OP.indexArr (j := 0) rfl rfl rfl rfl (by decide) ?_ | refine OP.indexArr (j := 1) rfl rfl rfl rfl (by decide) ?_ | refine OP.indexAddr (j := F + k) rfl rfl rfl (by omega) (by omega) ?_ | refine OP.indexAddr (j := F + k + H) rfl rfl rfl (by omega) (by omega) ?_ | refine OP.load rfl rfl (Sees.own (List.Mem.head _) le) ?_ | (refine OP.store0 (vs := [.complex .f64 p.1 p.2]) rfl rfl rfl rfl sz0 ?_; rw [st0]) | (refine OP.store0 (vs := [.complex .f64 d.1 d.2]) rfl rfl rfl rfl sz1 ?_; rw [st1]) | refine OP.ld rfl rfl inferInstance rfl ?_ | refine OP.load rfl rfl (Sees.old0 (by assumption)) ?_ | refine OP.ldA rfl rfl inferInstance rfl ?_)
        refine next.mk (_ :: []) rfl ?_
        refine WH.step (rs := [12]) (by kernel_rfl) rfl (all_cons ⟨_, rfl, ?_⟩ all_nil)
        (first | refine OP.indexArr (j := 0) rfl rfl rfl rfl (by decide) ?_ | refine OP.indexArr (j := 1) rfl rfl rfl rfl (by decide) ?_ | refine OP.indexAddr (j := F + k) rfl rfl rfl (by omega) (by omega) ?_ | refine OP.indexAddr (j := F + k + H) rfl rfl rfl (by omega) (by omega) ?_ | refine OP.load rfl rfl (Sees.own (List.Mem.head _) le) ?_ | (refine OP.store0 (vs := [.complex .f64 p.1 p.2]) rfl rfl rfl rfl sz0 ?_; rw [st0]) | (refine OP.store0 (vs := [.complex .f64 d.1 d.2]) rfl rfl rfl rfl sz1 ?_; rw [st1]) | refine OP.callq _ rfl (fun w _ => Add_fn e t p hpp w) (fun _ _ h => h.1) ?_ | refine OP.callq _ rfl (fun w _ => Sub_fn e t d hd w) (fun _ _ h => h.1) ?_)
        refine next.mk (_ :: []) rfl ?_
        refine WH.step (rs := [19]) (by kernel_rfl) rfl (all_cons ⟨_, rfl, ?_⟩ all_nil)
        (first | refine OP.indexArr (j := 0) rfl rfl rfl rfl (by decide) ?_ | refine OP.indexArr (j := 1) rfl rfl rfl rfl (by decide) ?_ | refine OP.indexAddr (j := F + k) rfl rfl rfl (by omega) (by omega) ?_ | refine OP.indexAddr (j := F + k + H) rfl rfl rfl (by omega) (by omega) ?_ | refine OP.load rfl rfl (Sees.own (List.Mem.head _) le) ?_ | (refine OP.store0 (vs := [.complex .f64 p.1 p.2]) rfl rfl rfl rfl sz0 ?_; rw [st0]) | (refine OP.store0 (vs := [.complex .f64 d.1 d.2]) rfl rfl rfl rfl sz1 ?_; rw [st1]) | refine OP.callq _ rfl (fun w _ => Add_fn e t p hpp w) (fun _ _ h => h.1) ?_ | refine OP.callq _ rfl (fun w _ => Sub_fn e t d hd w) (fun _ _ h => h.1) ?_)
        refine next.mk (_ :: []) rfl ?_
        refine WH.take (i := 20) rfl (by kernel_rfl) (by kernel_rfl) (by kernel_rfl) rfl ?_
        (first | refine OP.indexArr (j := 0) rfl rfl rfl rfl (by decide) ?_ | refine OP.indexArr (j := 1) rfl rfl rfl rfl (by decide) ?_ | refine OP.indexAddr (j := F + k) rfl rfl rfl (by omega) (by omega) ?_ | refine OP.indexAddr (j := F + k + H) rfl rfl rfl (by omega) (by omega) ?_ | refine OP.load rfl rfl (Sees.own (List.Mem.head _) le) ?_ | (refine OP.store0 (vs := [.complex .f64 p.1 p.2]) rfl rfl rfl rfl sz0 ?_; rw [st0]) | (refine OP.store0 (vs := [.complex .f64 d.1 d.2]) rfl rfl rfl rfl sz1 ?_; rw [st1]))
        refine WH.step (rs := [21]) (by kernel_rfl) rfl (all_cons ⟨_, rfl, ?_⟩ all_nil)
        (first | refine OP.indexArr (j := 0) rfl rfl rfl rfl (by decide) ?_ | refine OP.indexArr (j := 1) rfl rfl rfl rfl (by decide) ?_ | refine OP.indexAddr (j := F + k) rfl rfl rfl (by omega) (by omega) ?_ | refine OP.indexAddr (j := F + k + H) rfl rfl rfl (by omega) (by omega) ?_ | refine OP.load rfl rfl (Sees.own (List.Mem.head _) le) ?_ | (refine OP.store0 (vs := [.complex .f64 p.1 p.2]) rfl rfl rfl rfl sz0 ?_; rw [st0]) | (refine OP.store0 (vs := [.complex .f64 d.1 d.2]) rfl rfl rfl rfl sz1 ?_; rw [st1]) | refine OP.stI rfl rfl inferInstance rfl ?_ | refine OP.stB rfl rfl inferInstance rfl ?_ | refine OP.stC rfl rfl inferInstance rfl ?_ | refine OP.stF rfl rfl inferInstance rfl ?_ | refine OP.stS rfl rfl inferInstance rfl ?_ | refine OP.stP rfl rfl inferInstance rfl ?_ | refine OP.stM rfl rfl inferInstance rfl ?_ | refine OP.stU rfl rfl inferInstance rfl ?_ | refine OP.st (vs := [_]) rfl rfl inferInstance rfl rfl rfl ?_ | refine OP.st (vs := [_, _]) rfl rfl inferInstance rfl rfl rfl ?_ | refine OP.st (vs := [_, _, _]) rfl rfl inferInstance rfl rfl rfl ?_)
        refine next.mk (_ :: []) rfl ?_
        refine WH.take (i := 22) rfl (by kernel_rfl) (by kernel_rfl) (by kernel_rfl) rfl ?_
        (first | refine OP.indexArr (j := 0) rfl rfl rfl rfl (by decide) ?_ | refine OP.indexArr (j := 1) rfl rfl rfl rfl (by decide) ?_ | refine OP.indexAddr (j := F + k) rfl rfl rfl (by omega) (by omega) ?_ | refine OP.indexAddr (j := F + k + H) rfl rfl rfl (by omega) (by omega) ?_ | refine OP.load rfl rfl (Sees.own (List.Mem.head _) le) ?_ | (refine OP.store0 (vs := [.complex .f64 p.1 p.2]) rfl rfl rfl rfl sz0 ?_; rw [st0]) | (refine OP.store0 (vs := [.complex .f64 d.1 d.2]) rfl rfl rfl rfl sz1 ?_; rw [st1]))
        refine WH.step (rs := [23]) (by kernel_rfl) rfl (all_cons ⟨_, rfl, ?_⟩ all_nil)
        (first | refine OP.indexArr (j := 0) rfl rfl rfl rfl (by decide) ?_ | refine OP.indexArr (j := 1) rfl rfl rfl rfl (by decide) ?_ | refine OP.indexAddr (j := F + k) rfl rfl rfl (by omega) (by omega) ?_ | refine OP.indexAddr (j := F + k + H) rfl rfl rfl (by omega) (by omega) ?_ | refine OP.load rfl rfl (Sees.own (List.Mem.head _) le) ?_ | (refine OP.store0 (vs := [.complex .f64 p.1 p.2]) rfl rfl rfl rfl sz0 ?_; rw [st0]) | (refine OP.store0 (vs := [.complex .f64 d.1 d.2]) rfl rfl rfl rfl sz1 ?_; rw [st1]) | refine OP.stI rfl rfl inferInstance rfl ?_ | refine OP.stB rfl rfl inferInstance rfl ?_ | refine OP.stC rfl rfl inferInstance rfl ?_ | refine OP.stF rfl rfl inferInstance rfl ?_ | refine OP.stS rfl rfl inferInstance rfl ?_ | refine OP.stP rfl rfl inferInstance rfl ?_ | refine OP.stM rfl rfl inferInstance rfl ?_ | refine OP.stU rfl rfl inferInstance rfl ?_ | refine OP.st (vs := [_]) rfl rfl inferInstance rfl rfl rfl ?_ | refine OP.st (vs := [_, _]) rfl rfl inferInstance rfl rfl rfl ?_ | refine OP.st (vs := [_, _, _]) rfl rfl inferInstance rfl rfl rfl ?_)
        refine next.mk (_ :: []) rfl ?_
        refine WH.done (by kernel_rfl) ?_
        rotate_left
        (first | refine OP.indexArr (j := 0) rfl rfl rfl rfl (by decide) ?_ | refine OP.indexArr (j := 1) rfl rfl rfl rfl (by decide) ?_ | refine OP.indexAddr (j := F + k) rfl rfl rfl (by omega) (by omega) ?_ | refine OP.indexAddr (j := F + k + H) rfl rfl rfl (by omega) (by omega) ?_ | refine OP.load rfl rfl (Sees.own (List.Mem.head _) le) ?_ | (refine OP.store0 (vs := [.complex .f64 p.1 p.2]) rfl rfl rfl rfl sz0 ?_; rw [st0]) | (refine OP.store0 (vs := [.complex .f64 d.1 d.2]) rfl rfl rfl rfl sz1 ?_; rw [st1]) | refine OP.ld rfl rfl inferInstance rfl ?_ | refine OP.load rfl rfl (Sees.old0 (by assumption)) ?_ | refine OP.ldA rfl rfl inferInstance rfl ?_)
        refine next.mk (_ :: []) rfl ?_
        refine WH.step (rs := [10]) (by kernel_rfl) rfl (all_cons ⟨_, rfl, ?_⟩ all_nil)
        (first | refine OP.indexArr (j := 0) rfl rfl rfl rfl (by decide) ?_ | refine OP.indexArr (j := 1) rfl rfl rfl rfl (by decide) ?_ | refine OP.indexAddr (j := F + k) rfl rfl rfl (by omega) (by omega) ?_ | refine OP.indexAddr (j := F + k + H) rfl rfl rfl (by omega) (by omega) ?_ | refine OP.load rfl rfl (Sees.own (List.Mem.head _) le) ?_ | (refine OP.store0 (vs := [.complex .f64 p.1 p.2]) rfl rfl rfl rfl sz0 ?_; rw [st0]) | (refine OP.store0 (vs := [.complex .f64 d.1 d.2]) rfl rfl rfl rfl sz1 ?_; rw [st1]) | refine OP.ld rfl rfl inferInstance rfl ?_ | refine OP.load rfl rfl (Sees.old0 (by assumption)) ?_ | refine OP.ldA rfl rfl inferInstance rfl ?_)
        refine next.mk (_ :: []) rfl ?_
        refine WH.step (rs := [12]) (by kernel_rfl) rfl (all_cons ⟨_, rfl, ?_⟩ all_nil)
        (first | refine OP.indexArr (j := 0) rfl rfl rfl rfl (by decide) ?_ | refine OP.indexArr (j := 1) rfl rfl rfl rfl (by decide) ?_ | refine OP.indexAddr (j := F + k) rfl rfl rfl (by omega) (by omega) ?_ | refine OP.indexAddr (j := F + k + H) rfl rfl rfl (by omega) (by omega) ?_ | refine OP.load rfl rfl (Sees.own (List.Mem.head _) le) ?_ | (refine OP.store0 (vs := [.complex .f64 p.1 p.2]) rfl rfl rfl rfl sz0 ?_; rw [st0]) | (refine OP.store0 (vs := [.complex .f64 d.1 d.2]) rfl rfl rfl rfl sz1 ?_; rw [st1]) | refine OP.callq _ rfl (fun w _ => Add_fn e t p hpp w) (fun _ _ h => h.1) ?_ | refine OP.callq _ rfl (fun w _ => Sub_fn e t d hd w) (fun _ _ h => h.1) ?_)
        refine next.mk (_ :: []) rfl ?_
        refine WH.step (rs := [19]) (by kernel_rfl) rfl (all_cons ⟨_, rfl, ?_⟩ all_nil)
        (first | refine OP.indexArr (j := 0) rfl rfl rfl rfl (by decide) ?_ | refine OP.indexArr (j := 1) rfl rfl rfl rfl (by decide) ?_ | refine OP.indexAddr (j := F + k) rfl rfl rfl (by omega) (by omega) ?_ | refine OP.indexAddr (j := F + k + H) rfl rfl rfl (by omega) (by omega) ?_ | refine OP.load rfl rfl (Sees.own (List.Mem.head _) le) ?_ | (refine OP.store0 (vs := [.complex .f64 p.1 p.2]) rfl rfl rfl rfl sz0 ?_; rw [st0]) | (refine OP.store0 (vs := [.complex .f64 d.1 d.2]) rfl rfl rfl rfl sz1 ?_; rw [st1]) | refine OP.callq _ rfl (fun w _ => Add_fn e t p hpp w) (fun _ _ h => h.1) ?_ | refine OP.callq _ rfl (fun w _ => Sub_fn e t d hd w) (fun _ _ h => h.1) ?_)
        refine next.mk (_ :: []) rfl ?_
        refine WH.take (i := 20) rfl (by kernel_rfl) (by kernel_rfl) (by kernel_rfl) rfl ?_
        (first | refine OP.indexArr (j := 0) rfl rfl rfl rfl (by decide) ?_ | refine OP.indexArr (j := 1) rfl rfl rfl rfl (by decide) ?_ | refine OP.indexAddr (j := F + k) rfl rfl rfl (by omega) (by omega) ?_ | refine OP.indexAddr (j := F + k + H) rfl rfl rfl (by omega) (by omega) ?_ | refine OP.load rfl rfl (Sees.own (List.Mem.head _) le) ?_ | (refine OP.store0 (vs := [.complex .f64 p.1 p.2]) rfl rfl rfl rfl sz0 ?_; rw [st0]) | (refine OP.store0 (vs := [.complex .f64 d.1 d.2]) rfl rfl rfl rfl sz1 ?_; rw [st1]))
        refine WH.step (rs := [21]) (by kernel_rfl) rfl (all_cons ⟨_, rfl, ?_⟩ all_nil)
        (first | refine OP.indexArr (j := 0) rfl rfl rfl rfl (by decide) ?_ | refine OP.indexArr (j := 1) rfl rfl rfl rfl (by decide) ?_ | refine OP.indexAddr (j := F + k) rfl rfl rfl (by omega) (by omega) ?_ | refine OP.indexAddr (j := F + k + H) rfl rfl rfl (by omega) (by omega) ?_ | refine OP.load rfl rfl (Sees.own (List.Mem.head _) le) ?_ | (refine OP.store0 (vs := [.complex .f64 p.1 p.2]) rfl rfl rfl rfl sz0 ?_; rw [st0]) | (refine OP.store0 (vs := [.complex .f64 d.1 d.2]) rfl rfl rfl rfl sz1 ?_; rw [st1]) | refine OP.stI rfl rfl inferInstance rfl ?_ | refine OP.stB rfl rfl inferInstance rfl ?_ | refine OP.stC rfl rfl inferInstance rfl ?_ | refine OP.stF rfl rfl inferInstance rfl ?_ | refine OP.stS rfl rfl inferInstance rfl ?_ | refine OP.stP rfl rfl inferInstance rfl ?_ | refine OP.stM rfl rfl inferInstance rfl ?_ | refine OP.stU rfl rfl inferInstance rfl ?_ | refine OP.st (vs := [_]) rfl rfl inferInstance rfl rfl rfl ?_ | refine OP.st (vs := [_, _]) rfl rfl inferInstance rfl rfl rfl ?_ | refine OP.st (vs := [_, _, _]) rfl rfl inferInstance rfl rfl rfl ?_)
        refine next.mk (_ :: []) rfl ?_
        refine WH.take (i := 22) rfl (by kernel_rfl) (by kernel_rfl) (by kernel_rfl) rfl ?_
        (first | refine OP.indexArr (j := 0) rfl rfl rfl rfl (by decide) ?_ | refine OP.indexArr (j := 1) rfl rfl rfl rfl (by decide) ?_ | refine OP.indexAddr (j := F + k) rfl rfl rfl (by omega) (by omega) ?_ | refine OP.indexAddr (j := F + k + H) rfl rfl rfl (by omega) (by omega) ?_ | refine OP.load rfl rfl (Sees.own (List.Mem.head _) le) ?_ | (refine OP.store0 (vs := [.complex .f64 p.1 p.2]) rfl rfl rfl rfl sz0 ?_; rw [st0]) | (refine OP.store0 (vs := [.complex .f64 d.1 d.2]) rfl rfl rfl rfl sz1 ?_; rw [st1]))
        refine WH.step (rs := [23]) (by kernel_rfl) rfl (all_cons ⟨_, rfl, ?_⟩ all_nil)
        (first | refine OP.indexArr (j := 0) rfl rfl rfl rfl (by decide) ?_ | refine OP.indexArr (j := 1) rfl rfl rfl rfl (by decide) ?_ | refine OP.indexAddr (j := F + k) rfl rfl rfl (by omega) (by omega) ?_ | refine OP.indexAddr (j := F + k + H) rfl rfl rfl (by omega) (by omega) ?_ | refine OP.load rfl rfl (Sees.own (List.Mem.head _) le) ?_ | (refine OP.store0 (vs := [.complex .f64 p.1 p.2]) rfl rfl rfl rfl sz0 ?_; rw [st0]) | (refine OP.store0 (vs := [.complex .f64 d.1 d.2]) rfl rfl rfl rfl sz1 ?_; rw [st1]) | refine OP.stI rfl rfl inferInstance rfl ?_ | refine OP.stB rfl rfl inferInstance rfl ?_ | refine OP.stC rfl rfl inferInstance rfl ?_ | refine OP.stF rfl rfl inferInstance rfl ?_ | refine OP.stS rfl rfl inferInstance rfl ?_ | refine OP.stP rfl rfl inferInstance rfl ?_ | refine OP.stM rfl rfl inferInstance rfl ?_ | refine OP.stU rfl rfl inferInstance rfl ?_ | refine OP.st (vs := [_]) rfl rfl inferInstance rfl rfl rfl ?_ | refine OP.st (vs := [_, _]) rfl rfl inferInstance rfl rfl rfl ?_ | refine OP.st (vs := [_, _, _]) rfl rfl inferInstance rfl rfl rfl ?_)
        refine next.mk (_ :: []) rfl ?_
        refine WH.done (by kernel_rfl) ?_
        rotate_left
        all_goals repeat' (first | refine Fin.tail ?_ | refine Fin.then_normal ?_ | refine Fin.then_exit ?_ | refine Fin.then_ret ?_ | refine Fin.block_normal ?_ | refine Fin.block_ret ?_ | refine Fin.block_hit ?_ | refine Fin.block_miss rfl ?_ | refine Fin.loop_exit ?_ | refine Fin.loop_ret ?_ | refine WP.seq ?_ | (refine WP.regionQ (by kernel_rfl) (by kernel_rfl) ?_) | refine WP.block ?_ | refine WP.region ?_ | refine WP.skip ?_ | refine WP.exit ?_ | refine WP.ret ?_ | refine WP.label ?_ | refine WP.cond_true rfl ?_ | refine WP.cond_false rfl ?_ | (refine WP.cond_dec rfl (fun h => ?_) (fun h => ?_) <;> (try (exfalso; omega))) | (refine WP.cond_bool rfl (fun h => ?_) (fun h => ?_)) | refine WL.nil ?_ | refine WL.cons ?_ | (show OP _ _ _ _ _ _ _ ⟨_, .move _, _, _, _, none⟩ _ _; first | refine OP.mI rfl rfl ?_ | refine OP.mB rfl rfl ?_ | refine OP.mC rfl rfl ?_ | refine OP.mF rfl rfl ?_ | refine OP.mS rfl rfl ?_ | refine OP.mP rfl rfl ?_ | refine OP.mA rfl rfl ?_ | refine OP.mT rfl rfl ?_ | refine OP.mM rfl rfl ?_ | refine OP.mU rfl rfl ?_ | refine OP.move rfl rfl ?_) | (show OP _ _ _ _ _ _ _ ⟨_, .assign _, _, _, _, none⟩ _ _; first | refine OP.aI rfl rfl ?_ | refine OP.aB rfl rfl ?_ | refine OP.aC rfl rfl ?_ | refine OP.aF rfl rfl ?_ | refine OP.aS rfl rfl ?_ | refine OP.aP rfl rfl ?_ | refine OP.aA rfl rfl ?_ | refine OP.aT rfl rfl ?_ | refine OP.aM rfl rfl ?_ | refine OP.aU rfl rfl ?_ | refine OP.assign rfl rfl ?_) | refine OP.len rfl rfl rfl ?_ | (show OP _ _ _ _ _ _ _ ⟨_, .binOp _ _ _ _ _, _, _, _, none⟩ _ _; first | (refine OP.add rfl rfl rfl ?_ ?_ ?_; omega; omega) | refine OP.lss rfl rfl rfl ?_ | refine OP.leq rfl rfl rfl ?_ | (refine OP.mul rfl rfl rfl ?_ ?_ ?_; omega; omega) | (refine OP.quoN rfl rfl rfl ?_ ?_ ?_ ?_; omega; omega; omega) | (refine OP.quo rfl rfl rfl ?_ ?_ ?_ ?_ ?_; omega; omega; omega; omega)) | (show OP _ _ _ _ _ _ _ ⟨_, .load _ _, _, _, _, none⟩ _ _; first | refine OP.ld rfl rfl inferInstance rfl ?_ | refine OP.load rfl rfl (Sees.old0 (by assumption)) ?_ | refine OP.ldA rfl rfl inferInstance rfl ?_) | (show OP _ _ _ _ _ _ _ ⟨_, .store _ _ _, _, _, _, none⟩ _ _; first | refine OP.stI rfl rfl inferInstance rfl ?_ | refine OP.stB rfl rfl inferInstance rfl ?_ | refine OP.stC rfl rfl inferInstance rfl ?_ | refine OP.stF rfl rfl inferInstance rfl ?_ | refine OP.stS rfl rfl inferInstance rfl ?_ | refine OP.stP rfl rfl inferInstance rfl ?_ | refine OP.stM rfl rfl inferInstance rfl ?_ | refine OP.stU rfl rfl inferInstance rfl ?_ | refine OP.st (vs := [_]) rfl rfl inferInstance rfl rfl rfl ?_ | refine OP.st (vs := [_, _]) rfl rfl inferInstance rfl rfl rfl ?_ | refine OP.st (vs := [_, _, _]) rfl rfl inferInstance rfl rfl rfl ?_) | refine OP.alI rfl (fun al => ?_) | refine OP.alA rfl (fun al => ?_) | refine OP.alloc rfl rfl (fun al => ?_) | refine OP.build rfl rfl ?_)
        all_goals refine Fin.drop (Γ' := [(yb, .cells (cxs ((y.set (F + k) p).set (F + k + H) d) ++ sp).toArray 28 (0, 0))]) (List.Sublist.cons_cons _ (List.nil_sublist _)) ?_
        all_goals refine Fin.loop_normal fun w' hst => ⟨(k + 1, (y.set (F + k) p).set (F + k + H) d), ⟨by dsimp only; omega, hk'⟩, by dsimp only; omega, by (repeat' (first | exact Agree.refl _ _ | refine Agree.upd rfl ?_ | refine Agree.hav rfl ?_)), ⟨rfl, trivial⟩, hst⟩
      · have ek : k = H := by omega
        subst ek
        obtain rfl : y = yj' := by rw [k2] at hj2; exact Option.some.inj hj2
        repeat' (first | refine Fin.tail ?_ | refine Fin.then_normal ?_ | refine Fin.then_exit ?_ | refine Fin.then_ret ?_ | refine Fin.block_normal ?_ | refine Fin.block_ret ?_ | refine Fin.block_hit ?_ | refine Fin.block_miss rfl ?_ | refine Fin.loop_exit ?_ | refine Fin.loop_ret ?_ | refine WP.seq ?_ | (refine WP.regionQ (by kernel_rfl) (by kernel_rfl) ?_) | refine WP.block ?_ | refine WP.region ?_ | refine WP.skip ?_ | refine WP.exit ?_ | refine WP.ret ?_ | refine WP.label ?_ | refine WP.cond_true rfl ?_ | refine WP.cond_false rfl ?_ | (refine WP.cond_dec rfl (fun h => ?_) (fun h => ?_) <;> (try (exfalso; omega))) | (refine WP.cond_bool rfl (fun h => ?_) (fun h => ?_)) | refine WL.nil ?_ | refine WL.cons ?_ | (show OP _ _ _ _ _ _ _ ⟨_, .move _, _, _, _, none⟩ _ _; first | refine OP.mI rfl rfl ?_ | refine OP.mB rfl rfl ?_ | refine OP.mC rfl rfl ?_ | refine OP.mF rfl rfl ?_ | refine OP.mS rfl rfl ?_ | refine OP.mP rfl rfl ?_ | refine OP.mA rfl rfl ?_ | refine OP.mT rfl rfl ?_ | refine OP.mM rfl rfl ?_ | refine OP.mU rfl rfl ?_ | refine OP.move rfl rfl ?_) | (show OP _ _ _ _ _ _ _ ⟨_, .assign _, _, _, _, none⟩ _ _; first | refine OP.aI rfl rfl ?_ | refine OP.aB rfl rfl ?_ | refine OP.aC rfl rfl ?_ | refine OP.aF rfl rfl ?_ | refine OP.aS rfl rfl ?_ | refine OP.aP rfl rfl ?_ | refine OP.aA rfl rfl ?_ | refine OP.aT rfl rfl ?_ | refine OP.aM rfl rfl ?_ | refine OP.aU rfl rfl ?_ | refine OP.assign rfl rfl ?_) | refine OP.len rfl rfl rfl ?_ | (show OP _ _ _ _ _ _ _ ⟨_, .binOp _ _ _ _ _, _, _, _, none⟩ _ _; first | (refine OP.add rfl rfl rfl ?_ ?_ ?_; omega; omega) | refine OP.lss rfl rfl rfl ?_ | refine OP.leq rfl rfl rfl ?_ | (refine OP.mul rfl rfl rfl ?_ ?_ ?_; omega; omega) | (refine OP.quoN rfl rfl rfl ?_ ?_ ?_ ?_; omega; omega; omega) | (refine OP.quo rfl rfl rfl ?_ ?_ ?_ ?_ ?_; omega; omega; omega; omega)) | (show OP _ _ _ _ _ _ _ ⟨_, .load _ _, _, _, _, none⟩ _ _; first | refine OP.ld rfl rfl inferInstance rfl ?_ | refine OP.load rfl rfl (Sees.old0 (by assumption)) ?_ | refine OP.ldA rfl rfl inferInstance rfl ?_) | (show OP _ _ _ _ _ _ _ ⟨_, .store _ _ _, _, _, _, none⟩ _ _; first | refine OP.stI rfl rfl inferInstance rfl ?_ | refine OP.stB rfl rfl inferInstance rfl ?_ | refine OP.stC rfl rfl inferInstance rfl ?_ | refine OP.stF rfl rfl inferInstance rfl ?_ | refine OP.stS rfl rfl inferInstance rfl ?_ | refine OP.stP rfl rfl inferInstance rfl ?_ | refine OP.stM rfl rfl inferInstance rfl ?_ | refine OP.stU rfl rfl inferInstance rfl ?_ | refine OP.st (vs := [_]) rfl rfl inferInstance rfl rfl rfl ?_ | refine OP.st (vs := [_, _]) rfl rfl inferInstance rfl rfl rfl ?_ | refine OP.st (vs := [_, _, _]) rfl rfl inferInstance rfl rfl rfl ?_) | refine OP.alI rfl (fun al => ?_) | refine OP.alA rfl (fun al => ?_) | refine OP.alloc rfl rfl (fun al => ?_) | refine OP.build rfl rfl ?_)
        refine Fin.loop_normal fun w' hst => ⟨(j + 1, y), ⟨by dsimp only; omega, hj'⟩, by dsimp only; omega, by (repeat' (first | exact Agree.refl _ _ | refine Agree.upd rfl ?_ | refine Agree.hav rfl ?_)), ⟨?_, trivial⟩, hst⟩
        dsimp only
        rw [hjm, Int.natCast_add]; rfl
    · have ej : j = q := by omega
      have jN := jS2 hj
      rw [jN]
      subst ej
      obtain rfl : yj = ys' := by rw [j2] at hs2; exact Option.some.inj hs2
      repeat' (first | refine Fin.tail ?_ | refine Fin.then_normal ?_ | refine Fin.then_exit ?_ | refine Fin.then_ret ?_ | refine Fin.block_normal ?_ | refine Fin.block_ret ?_ | refine Fin.block_hit ?_ | refine Fin.block_miss rfl ?_ | refine Fin.loop_exit ?_ | refine Fin.loop_ret ?_ | refine WP.seq ?_ | (refine WP.regionQ (by kernel_rfl) (by kernel_rfl) ?_) | refine WP.block ?_ | refine WP.region ?_ | refine WP.skip ?_ | refine WP.exit ?_ | refine WP.ret ?_ | refine WP.label ?_ | refine WP.cond_true rfl ?_ | refine WP.cond_false rfl ?_ | (refine WP.cond_dec rfl (fun h => ?_) (fun h => ?_) <;> (try (exfalso; omega))) | (refine WP.cond_bool rfl (fun h => ?_) (fun h => ?_)) | refine WL.nil ?_ | refine WL.cons ?_ | (show OP _ _ _ _ _ _ _ ⟨_, .move _, _, _, _, none⟩ _ _; first | refine OP.mI rfl rfl ?_ | refine OP.mB rfl rfl ?_ | refine OP.mC rfl rfl ?_ | refine OP.mF rfl rfl ?_ | refine OP.mS rfl rfl ?_ | refine OP.mP rfl rfl ?_ | refine OP.mA rfl rfl ?_ | refine OP.mT rfl rfl ?_ | refine OP.mM rfl rfl ?_ | refine OP.mU rfl rfl ?_ | refine OP.move rfl rfl ?_) | (show OP _ _ _ _ _ _ _ ⟨_, .assign _, _, _, _, none⟩ _ _; first | refine OP.aI rfl rfl ?_ | refine OP.aB rfl rfl ?_ | refine OP.aC rfl rfl ?_ | refine OP.aF rfl rfl ?_ | refine OP.aS rfl rfl ?_ | refine OP.aP rfl rfl ?_ | refine OP.aA rfl rfl ?_ | refine OP.aT rfl rfl ?_ | refine OP.aM rfl rfl ?_ | refine OP.aU rfl rfl ?_ | refine OP.assign rfl rfl ?_) | refine OP.len rfl rfl rfl ?_ | (show OP _ _ _ _ _ _ _ ⟨_, .binOp _ _ _ _ _, _, _, _, none⟩ _ _; first | (refine OP.add rfl rfl rfl ?_ ?_ ?_; omega; omega) | refine OP.lss rfl rfl rfl ?_ | refine OP.leq rfl rfl rfl ?_ | (refine OP.mul rfl rfl rfl ?_ ?_ ?_; omega; omega) | (refine OP.quoN rfl rfl rfl ?_ ?_ ?_ ?_; omega; omega; omega) | (refine OP.quo rfl rfl rfl ?_ ?_ ?_ ?_ ?_; omega; omega; omega; omega)) | (show OP _ _ _ _ _ _ _ ⟨_, .load _ _, _, _, _, none⟩ _ _; first | refine OP.ld rfl rfl inferInstance rfl ?_ | refine OP.load rfl rfl (Sees.old0 (by assumption)) ?_ | refine OP.ldA rfl rfl inferInstance rfl ?_) | (show OP _ _ _ _ _ _ _ ⟨_, .store _ _ _, _, _, _, none⟩ _ _; first | refine OP.stI rfl rfl inferInstance rfl ?_ | refine OP.stB rfl rfl inferInstance rfl ?_ | refine OP.stC rfl rfl inferInstance rfl ?_ | refine OP.stF rfl rfl inferInstance rfl ?_ | refine OP.stS rfl rfl inferInstance rfl ?_ | refine OP.stP rfl rfl inferInstance rfl ?_ | refine OP.stM rfl rfl inferInstance rfl ?_ | refine OP.stU rfl rfl inferInstance rfl ?_ | refine OP.st (vs := [_]) rfl rfl inferInstance rfl rfl rfl ?_ | refine OP.st (vs := [_, _]) rfl rfl inferInstance rfl rfl rfl ?_ | refine OP.st (vs := [_, _, _]) rfl rfl inferInstance rfl rfl rfl ?_) | refine OP.alI rfl (fun al => ?_) | refine OP.alA rfl (fun al => ?_) | refine OP.alloc rfl rfl (fun al => ?_) | refine OP.build rfl rfl ?_)
      refine Fin.loop_normal fun w' hst => ⟨(s + 1, yj), ⟨by dsimp only; omega, hs'⟩, by dsimp only; omega, by (repeat' (first | exact Agree.refl _ _ | refine Agree.upd rfl ?_ | refine Agree.hav rfl ?_)), ⟨?_, trivial⟩, hst⟩
      dsimp only
      rw [hS2, Int.natCast_mul]; rfl
  · have es : s = m := by omega
    subst es
    obtain rfl : ys = r := by rw [s2] at hr; exact Option.some.inj hr
    repeat' (first | refine Fin.tail ?_ | refine Fin.then_normal ?_ | refine Fin.then_exit ?_ | refine Fin.then_ret ?_ | refine Fin.block_normal ?_ | refine Fin.block_ret ?_ | refine Fin.block_hit ?_ | refine Fin.block_miss rfl ?_ | refine Fin.loop_exit ?_ | refine Fin.loop_ret ?_ | refine WP.seq ?_ | (refine WP.regionQ (by kernel_rfl) (by kernel_rfl) ?_) | refine WP.block ?_ | refine WP.region ?_ | refine WP.skip ?_ | refine WP.exit ?_ | refine WP.ret ?_ | refine WP.label ?_ | refine WP.cond_true rfl ?_ | refine WP.cond_false rfl ?_ | (refine WP.cond_dec rfl (fun h => ?_) (fun h => ?_) <;> (try (exfalso; omega))) | (refine WP.cond_bool rfl (fun h => ?_) (fun h => ?_)) | refine WL.nil ?_ | refine WL.cons ?_ | (show OP _ _ _ _ _ _ _ ⟨_, .move _, _, _, _, none⟩ _ _; first | refine OP.mI rfl rfl ?_ | refine OP.mB rfl rfl ?_ | refine OP.mC rfl rfl ?_ | refine OP.mF rfl rfl ?_ | refine OP.mS rfl rfl ?_ | refine OP.mP rfl rfl ?_ | refine OP.mA rfl rfl ?_ | refine OP.mT rfl rfl ?_ | refine OP.mM rfl rfl ?_ | refine OP.mU rfl rfl ?_ | refine OP.move rfl rfl ?_) | (show OP _ _ _ _ _ _ _ ⟨_, .assign _, _, _, _, none⟩ _ _; first | refine OP.aI rfl rfl ?_ | refine OP.aB rfl rfl ?_ | refine OP.aC rfl rfl ?_ | refine OP.aF rfl rfl ?_ | refine OP.aS rfl rfl ?_ | refine OP.aP rfl rfl ?_ | refine OP.aA rfl rfl ?_ | refine OP.aT rfl rfl ?_ | refine OP.aM rfl rfl ?_ | refine OP.aU rfl rfl ?_ | refine OP.assign rfl rfl ?_) | refine OP.len rfl rfl rfl ?_ | (show OP _ _ _ _ _ _ _ ⟨_, .binOp _ _ _ _ _, _, _, _, none⟩ _ _; first | (refine OP.add rfl rfl rfl ?_ ?_ ?_; omega; omega) | refine OP.lss rfl rfl rfl ?_ | refine OP.leq rfl rfl rfl ?_ | (refine OP.mul rfl rfl rfl ?_ ?_ ?_; omega; omega) | (refine OP.quoN rfl rfl rfl ?_ ?_ ?_ ?_; omega; omega; omega) | (refine OP.quo rfl rfl rfl ?_ ?_ ?_ ?_ ?_; omega; omega; omega; omega)) | (show OP _ _ _ _ _ _ _ ⟨_, .load _ _, _, _, _, none⟩ _ _; first | refine OP.ld rfl rfl inferInstance rfl ?_ | refine OP.load rfl rfl (Sees.old0 (by assumption)) ?_ | refine OP.ldA rfl rfl inferInstance rfl ?_) | (show OP _ _ _ _ _ _ _ ⟨_, .store _ _ _, _, _, _, none⟩ _ _; first | refine OP.stI rfl rfl inferInstance rfl ?_ | refine OP.stB rfl rfl inferInstance rfl ?_ | refine OP.stC rfl rfl inferInstance rfl ?_ | refine OP.stF rfl rfl inferInstance rfl ?_ | refine OP.stS rfl rfl inferInstance rfl ?_ | refine OP.stP rfl rfl inferInstance rfl ?_ | refine OP.stM rfl rfl inferInstance rfl ?_ | refine OP.stU rfl rfl inferInstance rfl ?_ | refine OP.st (vs := [_]) rfl rfl inferInstance rfl rfl rfl ?_ | refine OP.st (vs := [_, _]) rfl rfl inferInstance rfl rfl rfl ?_ | refine OP.st (vs := [_, _, _]) rfl rfl inferInstance rfl rfl rfl ?_) | refine OP.alI rfl (fun al => ?_) | refine OP.alA rfl (fun al => ?_) | refine OP.alloc rfl rfl (fun al => ?_) | refine OP.build rfl rfl ?_)
    refine Fin.ret0 (h0 := .inr rfl) rfl ?_
    exact ⟨rfl, rfl⟩
end Go.Proofs.YthecbhegjdcjfaaDoor
end
section
/- Layer 3: Forward, walked. %compact -/
set_option linter.unusedVariables false
set_option maxRecDepth 100000
namespace Go.Proofs.YthecbhegjdcjfaaDoor
open Go.Pen Go.Flt Go.Wav

theorem tab_wf {m : Nat} {l : List Cx} (h : tabC m = some l) : ∀ a ∈ l, Wf a := by
  unfold tabC at h
  rw [Option.bind_eq_some_iff] at h
  obtain ⟨f, hf, hl⟩ := h
  have go : ∀ (k : Nat) (l : List Cx), tabTo (2 ^ m) f k = some l → ∀ a ∈ l, Wf a := by
    intro k
    induction k with
    | zero => intro l e a ha; obtain rfl : [] = l := by simpa [tabTo] using e
              cases ha
    | succ k ih =>
      intro l e a ha
      unfold tabTo at e
      simp only [Option.bind_eq_some_iff, Option.some.injEq] at e
      obtain ⟨l', h1, r, h2, rfl⟩ := e
      rcases List.mem_append.1 ha with ha | ha
      · exact ih l' h1 a ha
      · rw [List.mem_singleton.1 ha]; exact wf_at (wf_eighth hf) h2
  exact go _ l hl
theorem tab_len {m : Nat} {l : List Cx} (h : tabC m = some l) : l.length = 2 ^ m := by
  unfold tabC at h
  rw [Option.bind_eq_some_iff] at h
  obtain ⟨f, hf, hl⟩ := h
  exact tabTo_len hl
theorem Table2_fn (m : Nat) (l : List Cx) (hm : m ≤ 12) (ht : tabC m = some l) (w : World) :
    Does Tryd.prog 29 #[.int .i64 ((2 ^ m : Nat) : Int)] [] w fun v Γ => ∃ b, v = .tuple #[.slice (some ⟨b, 0, none⟩) (2 ^ m) (2 ^ m), .int .i64 0] ∧ Γ = [(b, .cells (cxs l ++ []).toArray 28 (0, 0))] :=
  (Table_fn m l hm ht w).mono fun v Γ ⟨b, h1, h2, h3⟩ => ⟨b, by rw [h1, h2], h3⟩
theorem conj2_fn (m : Nat) (l : List Cx) (hm : m ≤ 12) (hll : l.length = 2 ^ m) (hwf : ∀ a ∈ l, Wf a) (b c : Nat) (sp : List Value) (w : World) (hmm : ∀ x ∈ [(b, Obj.cells (cxs l ++ sp).toArray 28 (0, 0))], w.heap[x.1]? = some x.2) (hn : (keys [(b, Obj.cells (cxs l ++ sp).toArray 28 (0, 0))]).Nodup) :
    Does Tryd.prog 32 #[.slice (some ⟨b, 0, none⟩) (2 ^ m) c] (keys [(b, Obj.cells (cxs l ++ sp).toArray 28 (0, 0))]) w fun v Γ => v = .slice (some ⟨b, 0, none⟩) (2 ^ m) c ∧ Γ = [(b, .cells (cxs (conjs l) ++ sp).toArray 28 (0, 0))] := by
  have := conjugates_fn l hwf (by rw [hll]; exact pow_bd hm) b c sp w hmm hn
  rw [hll] at this
  exact this
theorem turned2_fn (m : Nat) (hm : m ≤ 12) (x : List Cx) (hx : x.length = 2 ^ m) (b o c : Nat) (w : World) (hr : RdC w b o x) (hT : TzT w) :
    Does Tryd.prog 30 #[.slice (some ⟨b, o, none⟩) (2 ^ m) c] [] w fun v Γ => ∃ q, v = .slice (some ⟨q, 0, none⟩) (2 ^ m) (2 ^ m) ∧ Γ = [(q, .cells (cxs (trn m x) ++ []).toArray 28 (0, 0))] := by
  have := turned_fn m hm x hx b o c w hr hT
  rw [hx] at this
  exact this

set_option maxHeartbeats 4000000 in
theorem Forward_fn (m : Nat) (hm : m ≤ 12) (x r : List Cx) (hx : x.length = 2 ^ m) (hf : forwardC m x = some r) (b o c : Nat) (w : World) (hr : RdC w b o x) (hT : TzT w) :
    Does Tryd.prog 19 #[.slice (some ⟨b, o, none⟩) (2 ^ m) c] [] w fun v Γ => ∃ q, v = .tuple #[.slice (some ⟨q, 0, none⟩) (2 ^ m) (2 ^ m), .int .i64 0] ∧ Γ = [(q, .cells (cxs r ++ []).toArray 28 (0, 0))] := by
  unfold forwardC waveC at hf
  rw [Option.bind_eq_some_iff] at hf
  obtain ⟨l, hl, hb⟩ := hf
  have hlw := tab_wf hl
  have hll := tab_len hl
  have htl : (trn m x).length = 2 ^ m := trnTo_len m x _
  have hcl : (conjs l).length = 2 ^ m := by unfold conjs; rw [List.length_map, hll]
  have ht2 := fun w => Table2_fn m l hm hl w
  have htu := fun w hr hT => turned2_fn m hm x hx b o c w hr hT
  have hco := conj2_fn m l hm hll hlw
  have hbu := butterflies_fn m hm (trn m x) (conjs l) r htl hcl hb
  have hp := pow_bd hm
  generalize 2 ^ m = N at *
  refine Does.enter Tryd.func19 rfl Tryd.ntmps19 rfl (St.start w) ?_
  repeat' (first | refine Fin.tail ?_ | refine Fin.then_normal ?_ | refine Fin.then_exit ?_ | refine Fin.then_ret ?_ | refine Fin.block_normal ?_ | refine Fin.block_ret ?_ | refine Fin.block_hit ?_ | refine Fin.block_miss rfl ?_ | refine Fin.loop_exit ?_ | refine Fin.loop_ret ?_ | refine WP.seq ?_ | (refine WP.regionQ (by kernel_rfl) (by kernel_rfl) ?_) | refine WP.block ?_ | refine WP.region ?_ | refine WP.skip ?_ | refine WP.exit ?_ | refine WP.ret ?_ | refine WP.label ?_ | refine WP.cond_true rfl ?_ | refine WP.cond_false rfl ?_ | (refine WP.cond_dec rfl (fun h => ?_) (fun h => ?_) <;> (try (exfalso; omega))) | (refine WP.cond_bool rfl (fun h => ?_) (fun h => ?_)) | refine WL.nil ?_ | refine WL.cons ?_ | (show OP _ _ _ _ _ _ _ ⟨_, .move _, _, _, _, none⟩ _ _; first | refine OP.mI rfl rfl ?_ | refine OP.mB rfl rfl ?_ | refine OP.mC rfl rfl ?_ | refine OP.mF rfl rfl ?_ | refine OP.mS rfl rfl ?_ | refine OP.mP rfl rfl ?_ | refine OP.mA rfl rfl ?_ | refine OP.mT rfl rfl ?_ | refine OP.mM rfl rfl ?_ | refine OP.mU rfl rfl ?_ | refine OP.move rfl rfl ?_) | (show OP _ _ _ _ _ _ _ ⟨_, .assign _, _, _, _, none⟩ _ _; first | refine OP.aI rfl rfl ?_ | refine OP.aB rfl rfl ?_ | refine OP.aC rfl rfl ?_ | refine OP.aF rfl rfl ?_ | refine OP.aS rfl rfl ?_ | refine OP.aP rfl rfl ?_ | refine OP.aA rfl rfl ?_ | refine OP.aT rfl rfl ?_ | refine OP.aM rfl rfl ?_ | refine OP.aU rfl rfl ?_ | refine OP.assign rfl rfl ?_) | (show OP _ _ _ _ _ _ _ ⟨_, .call _, _, _, _, none⟩ _ _; first | (refine OP.call rfl (fun w' _ => ht2 w') (fun _ _ hR => ?_); obtain ⟨tb, rfl, rfl⟩ := hR) | (refine OP.call rfl (fun w' hst => htu w' (hr.over hst (by simp)) (hT.over hst (by simp))) (fun _ _ hR => ?_); obtain ⟨q, rfl, rfl⟩ := hR) | (refine OP.callI (f := 32) (Γb := [(tb, .cells (cxs l ++ []).toArray 28 (0, 0))]) (Γr := [(q, .cells (cxs (trn m x) ++ []).toArray 28 (0, 0))]) rfl rfl rfl (perm_places _ [1, 0] rfl) (fun w' hm hn _ => hco tb N [] w' hm hn) (fun _ _ hR => ?_); obtain ⟨rfl, rfl⟩ := hR) | (refine OP.callI (f := 31) (Γb := [(q, .cells (cxs (trn m x) ++ []).toArray 28 (0, 0))]) (Γr := [(tb, .cells (cxs (conjs l) ++ []).toArray 28 (0, 0))]) rfl rfl rfl (perm_places _ [1, 0] rfl) (fun w' hm hn hst => hbu q N tb 0 N [] w' hm hn (RdC.own hst (List.Mem.tail _ (List.Mem.head _))) (fun h => by have := hst.nodup; simp [keys] at h this; exact this h.symm)) (fun _ _ hR => ?_); obtain ⟨rfl, rfl⟩ := hR) | refine OP.len rfl rfl rfl ?_) | (show OP _ _ _ _ _ _ _ ⟨_, .binOp _ _ _ _ _, _, _, _, none⟩ _ _; first | refine OP.neq rfl rfl rfl ?_ | refine OP.neq2 rfl rfl rfl ?_ | refine OP.neqd rfl rfl rfl ?_) | refine OP.extract rfl rfl rfl ?_)
  refine Fin.drop (List.Sublist.cons_cons _ (List.nil_sublist _)) ?_
  refine Fin.ret2 (h0 := .inl rfl) rfl rfl rfl ?_
  exact ⟨q, rfl, rfl⟩

theorem scale_step (l : List Cx) (f : Cx → Cx) (k : Nat) (a : Cx) (h : l[k]? = some a) : ((l.map f).take k ++ l.drop k).set k (f a) = (l.map f).take (k + 1) ++ l.drop (k + 1) := by
  have hk : k < l.length := (List.getElem?_eq_some_iff.1 h).1
  have e : l[k] = a := (List.getElem?_eq_some_iff.1 h).2
  rw [List.set_append_right _ _ (by simp; omega)]
  have e1 : k - ((l.map f).take k).length = 0 := by simp; omega
  rw [e1, List.drop_eq_getElem_cons hk, List.set_cons_zero, List.take_add_one]
  simp [hk, e]
/-- The way back but for the scaling. -/
def backC (m : Nat) (x : List Cx) : Option (List Cx) := (tabC m).bind fun w => waveC m w x

set_option maxHeartbeats 4000000 in
theorem Back_fn (m : Nat) (hm : m ≤ 12) (x r : List Cx) (hx : x.length = 2 ^ m) (hf : backC m x = some r) (sc : Cx → Cx) (hsc : ∀ a ∈ r, ∀ w, Does Tryd.prog 41 #[.complex .f64 a.1 a.2, .int .i64 (-(m : Int))] [] w fun v Γ => v = .complex .f64 (sc a).1 (sc a).2 ∧ Γ = [])
    (b o c : Nat) (w : World) (hr : RdC w b o x) (hT : TzT w) :
    Does Tryd.prog 24 #[.slice (some ⟨b, o, none⟩) (2 ^ m) c] [] w fun v Γ => ∃ q, v = .tuple #[.slice (some ⟨q, 0, none⟩) (2 ^ m) (2 ^ m), .int .i64 0] ∧ Γ = [(q, .cells (cxs (r.map sc) ++ []).toArray 28 (0, 0))] := by
  unfold backC waveC at hf
  rw [Option.bind_eq_some_iff] at hf
  obtain ⟨l, hl, hb⟩ := hf
  have hll := tab_len hl
  have htl : (trn m x).length = 2 ^ m := trnTo_len m x _
  have hrl : r.length = 2 ^ m := by rw [bfS_len hb, htl]
  have ht2 := fun w => Table2_fn m l hm hl w
  have htu := fun w hr hT => turned2_fn m hm x hx b o c w hr hT
  have hbu := butterflies_fn m hm (trn m x) l r htl hll hb
  have htz := fun w h => tz_fn m hm w h
  have hp := pow_bd hm
  generalize 2 ^ m = N at *
  refine Does.enter Tryd.func24 rfl Tryd.ntmps24 rfl (St.start w) ?_
  repeat' (first | refine Fin.tail ?_ | refine Fin.then_normal ?_ | refine Fin.then_exit ?_ | refine Fin.then_ret ?_ | refine Fin.block_normal ?_ | refine Fin.block_ret ?_ | refine Fin.block_hit ?_ | refine Fin.block_miss rfl ?_ | refine Fin.loop_exit ?_ | refine Fin.loop_ret ?_ | refine WP.seq ?_ | (refine WP.regionQ (by kernel_rfl) (by kernel_rfl) ?_) | refine WP.block ?_ | refine WP.region ?_ | refine WP.skip ?_ | refine WP.exit ?_ | refine WP.ret ?_ | refine WP.label ?_ | refine WP.cond_true rfl ?_ | refine WP.cond_false rfl ?_ | (refine WP.cond_dec rfl (fun h => ?_) (fun h => ?_) <;> (try (exfalso; omega))) | (refine WP.cond_bool rfl (fun h => ?_) (fun h => ?_)) | refine WL.nil ?_ | refine WL.cons ?_ | (show OP _ _ _ _ _ _ _ ⟨_, .move _, _, _, _, none⟩ _ _; first | refine OP.mI rfl rfl ?_ | refine OP.mB rfl rfl ?_ | refine OP.mC rfl rfl ?_ | refine OP.mF rfl rfl ?_ | refine OP.mS rfl rfl ?_ | refine OP.mP rfl rfl ?_ | refine OP.mA rfl rfl ?_ | refine OP.mT rfl rfl ?_ | refine OP.mM rfl rfl ?_ | refine OP.mU rfl rfl ?_ | refine OP.move rfl rfl ?_) | (show OP _ _ _ _ _ _ _ ⟨_, .assign _, _, _, _, none⟩ _ _; first | refine OP.aI rfl rfl ?_ | refine OP.aB rfl rfl ?_ | refine OP.aC rfl rfl ?_ | refine OP.aF rfl rfl ?_ | refine OP.aS rfl rfl ?_ | refine OP.aP rfl rfl ?_ | refine OP.aA rfl rfl ?_ | refine OP.aT rfl rfl ?_ | refine OP.aM rfl rfl ?_ | refine OP.aU rfl rfl ?_ | refine OP.assign rfl rfl ?_) | (show OP _ _ _ _ _ _ _ ⟨_, .call _, _, _, _, none⟩ _ _; first | (refine OP.call rfl (fun w' _ => ht2 w') (fun _ _ hR => ?_); obtain ⟨tb, rfl, rfl⟩ := hR) | (refine OP.call rfl (fun w' hst => htu w' (hr.over hst (by simp)) (hT.over hst (by simp))) (fun _ _ hR => ?_); obtain ⟨q, rfl, rfl⟩ := hR) | (refine OP.callI (f := 31) (Γb := [(q, .cells (cxs (trn m x) ++ []).toArray 28 (0, 0))]) (Γr := [(tb, .cells (cxs l ++ []).toArray 28 (0, 0))]) rfl rfl rfl (List.Perm.refl _) (fun w' hm hn hst => hbu q N tb 0 N [] w' hm hn (RdC.own hst (List.Mem.tail _ (List.Mem.head _))) (fun h => by have := hst.nodup; simp [keys] at h this; exact this h.symm)) (fun _ _ hR => ?_); obtain ⟨rfl, rfl⟩ := hR) | refine OP.callq _ rfl (fun w' hst => htz w' (hT.over hst (by simp))) (fun _ _ h => h.1) ?_ | refine OP.len rfl rfl rfl ?_) | (show OP _ _ _ _ _ _ _ ⟨_, .binOp _ _ _ _ _, _, _, _, none⟩ _ _; first | (refine OP.add rfl rfl rfl ?_ ?_ ?_; omega; omega) | refine OP.lss rfl rfl rfl ?_ | refine OP.neq rfl rfl rfl ?_ | refine OP.neq2 rfl rfl rfl ?_ | refine OP.neqd rfl rfl rfl ?_) | (show OP _ _ _ _ _ _ _ ⟨_, .unOp _ _ _, _, _, _, none⟩ _ _; first | refine OP.notd rfl rfl ?_ | refine OP.not rfl rfl ?_ | (refine OP.neg rfl rfl ?_ ?_ ?_; omega; omega)) | (refine OP.conv rfl rfl ?_ ?_ ?_; omega; omega) | refine OP.extract rfl rfl rfl ?_ | (show OP _ _ _ _ _ _ _ ⟨_, .load _ _, _, _, _, none⟩ _ _; first | refine OP.ld rfl rfl inferInstance rfl ?_ | refine OP.load rfl rfl (Sees.old0 (by assumption)) ?_ | refine OP.ldA rfl rfl inferInstance rfl ?_) | (show OP _ _ _ _ _ _ _ ⟨_, .store _ _ _, _, _, _, none⟩ _ _; first | refine OP.stI rfl rfl inferInstance rfl ?_ | refine OP.stB rfl rfl inferInstance rfl ?_ | refine OP.stC rfl rfl inferInstance rfl ?_ | refine OP.stF rfl rfl inferInstance rfl ?_ | refine OP.stS rfl rfl inferInstance rfl ?_ | refine OP.stP rfl rfl inferInstance rfl ?_ | refine OP.stM rfl rfl inferInstance rfl ?_ | refine OP.stU rfl rfl inferInstance rfl ?_ | refine OP.st (vs := [_]) rfl rfl inferInstance rfl rfl rfl ?_ | refine OP.st (vs := [_, _]) rfl rfl inferInstance rfl rfl rfl ?_ | refine OP.st (vs := [_, _, _]) rfl rfl inferInstance rfl rfl rfl ?_))
  refine WP.drop (Γ' := [(q, .cells (cxs r ++ []).toArray 28 (0, 0))]) (List.Sublist.cons_cons _ (List.nil_sublist _)) ?_
  refine WP.loop [8, 9, 30, 31, 32, 33, 34, 35, 36, 37, 38, 39, 40, 41, 42] (fun k : Nat => [(30, .int .i64 k)]) (fun k => [(q, .cells (cxs ((r.map sc).take k ++ r.drop k) ++ []).toArray 28 (0, 0))]) (fun k => k ≤ N) (fun k => N - k) 0 (by omega) rfl ⟨rfl, trivial⟩ ?_
  rintro k jk k1
  dsimp only [updL]
  have hcl : ((r.map sc).take k ++ r.drop k).length = N := by simp; omega
  by_cases hk : k < N
  · obtain ⟨a, ha⟩ : ∃ a, r[k]? = some a := ⟨r[k], List.getElem?_eq_getElem (by omega)⟩
    have hwa := hsc a (List.mem_of_getElem? ha)
    have hca : ((r.map sc).take k ++ r.drop k)[k]? = some a := by
      rw [List.getElem?_append_right (by simp; omega)]
      have e1 : k - ((r.map sc).take k).length = 0 := by simp; omega
      rw [e1, List.getElem?_drop]; exact ha
    have hld := cxs_at (sp := []) hca
    have hsz := cxs_size (l := (r.map sc).take k ++ r.drop k) (sp := []) (i := k) (by omega)
    have hset : setN (cxs ((r.map sc).take k ++ r.drop k) ++ []).toArray (0 + k * 1) [.complex .f64 (sc a).1 (sc a).2] = (cxs ((r.map sc).take (k + 1) ++ r.drop (k + 1)) ++ []).toArray := by rw [cxs_set _ _ _ _ (by omega), scale_step r sc k a ha]
    repeat' (first | refine OP.indexAddr (j := k) rfl rfl rfl rfl hk ?_ | refine OP.load rfl rfl (Sees.own (List.Mem.head _) hld) ?_ | (refine OP.store0 (vs := [.complex .f64 (sc a).1 (sc a).2]) rfl rfl rfl rfl hsz ?_; rw [hset]) | refine Fin.tail ?_ | refine Fin.then_normal ?_ | refine Fin.then_exit ?_ | refine Fin.then_ret ?_ | refine Fin.block_normal ?_ | refine Fin.block_ret ?_ | refine Fin.block_hit ?_ | refine Fin.block_miss rfl ?_ | refine Fin.loop_exit ?_ | refine Fin.loop_ret ?_ | refine WP.seq ?_ | (refine WP.regionQ (by kernel_rfl) (by kernel_rfl) ?_) | refine WP.block ?_ | refine WP.region ?_ | refine WP.skip ?_ | refine WP.exit ?_ | refine WP.ret ?_ | refine WP.label ?_ | refine WP.cond_true rfl ?_ | refine WP.cond_false rfl ?_ | (refine WP.cond_dec rfl (fun h => ?_) (fun h => ?_) <;> (try (exfalso; omega))) | (refine WP.cond_bool rfl (fun h => ?_) (fun h => ?_)) | refine WL.nil ?_ | refine WL.cons ?_ | (show OP _ _ _ _ _ _ _ ⟨_, .move _, _, _, _, none⟩ _ _; first | refine OP.mI rfl rfl ?_ | refine OP.mB rfl rfl ?_ | refine OP.mC rfl rfl ?_ | refine OP.mF rfl rfl ?_ | refine OP.mS rfl rfl ?_ | refine OP.mP rfl rfl ?_ | refine OP.mA rfl rfl ?_ | refine OP.mT rfl rfl ?_ | refine OP.mM rfl rfl ?_ | refine OP.mU rfl rfl ?_ | refine OP.move rfl rfl ?_) | (show OP _ _ _ _ _ _ _ ⟨_, .assign _, _, _, _, none⟩ _ _; first | refine OP.aI rfl rfl ?_ | refine OP.aB rfl rfl ?_ | refine OP.aC rfl rfl ?_ | refine OP.aF rfl rfl ?_ | refine OP.aS rfl rfl ?_ | refine OP.aP rfl rfl ?_ | refine OP.aA rfl rfl ?_ | refine OP.aT rfl rfl ?_ | refine OP.aM rfl rfl ?_ | refine OP.aU rfl rfl ?_ | refine OP.assign rfl rfl ?_) | (show OP _ _ _ _ _ _ _ ⟨_, .call _, _, _, _, none⟩ _ _; first | refine OP.callq _ rfl (fun w _ => hwa w) (fun _ _ h => h.1) ?_ | refine OP.len rfl rfl rfl ?_) | (show OP _ _ _ _ _ _ _ ⟨_, .binOp _ _ _ _ _, _, _, _, none⟩ _ _; first | (refine OP.add rfl rfl rfl ?_ ?_ ?_; omega; omega) | refine OP.lss rfl rfl rfl ?_ | refine OP.neq rfl rfl rfl ?_ | refine OP.neq2 rfl rfl rfl ?_ | refine OP.neqd rfl rfl rfl ?_) | (show OP _ _ _ _ _ _ _ ⟨_, .unOp _ _ _, _, _, _, none⟩ _ _; first | refine OP.notd rfl rfl ?_ | refine OP.not rfl rfl ?_ | (refine OP.neg rfl rfl ?_ ?_ ?_; omega; omega)) | (refine OP.conv rfl rfl ?_ ?_ ?_; omega; omega) | refine OP.extract rfl rfl rfl ?_ | (show OP _ _ _ _ _ _ _ ⟨_, .load _ _, _, _, _, none⟩ _ _; first | refine OP.ld rfl rfl inferInstance rfl ?_ | refine OP.load rfl rfl (Sees.old0 (by assumption)) ?_ | refine OP.ldA rfl rfl inferInstance rfl ?_) | (show OP _ _ _ _ _ _ _ ⟨_, .store _ _ _, _, _, _, none⟩ _ _; first | refine OP.stI rfl rfl inferInstance rfl ?_ | refine OP.stB rfl rfl inferInstance rfl ?_ | refine OP.stC rfl rfl inferInstance rfl ?_ | refine OP.stF rfl rfl inferInstance rfl ?_ | refine OP.stS rfl rfl inferInstance rfl ?_ | refine OP.stP rfl rfl inferInstance rfl ?_ | refine OP.stM rfl rfl inferInstance rfl ?_ | refine OP.stU rfl rfl inferInstance rfl ?_ | refine OP.st (vs := [_]) rfl rfl inferInstance rfl rfl rfl ?_ | refine OP.st (vs := [_, _]) rfl rfl inferInstance rfl rfl rfl ?_ | refine OP.st (vs := [_, _, _]) rfl rfl inferInstance rfl rfl rfl ?_))
    refine Fin.loop_normal fun w' hst => ⟨k + 1, by omega, by omega, by (repeat' (first | exact Agree.refl _ _ | refine Agree.upd rfl ?_ | refine Agree.hav rfl ?_)), ⟨rfl, trivial⟩, hst⟩
  · have ek : k = N := by omega
    have e1 : (r.map sc).take k = r.map sc := List.take_of_length_le (by simp; omega)
    have e2 : r.drop k = [] := List.drop_of_length_le (by omega)
    rw [e1, e2]
    repeat' (first | refine Fin.tail ?_ | refine Fin.then_normal ?_ | refine Fin.then_exit ?_ | refine Fin.then_ret ?_ | refine Fin.block_normal ?_ | refine Fin.block_ret ?_ | refine Fin.block_hit ?_ | refine Fin.block_miss rfl ?_ | refine Fin.loop_exit ?_ | refine Fin.loop_ret ?_ | refine WP.seq ?_ | (refine WP.regionQ (by kernel_rfl) (by kernel_rfl) ?_) | refine WP.block ?_ | refine WP.region ?_ | refine WP.skip ?_ | refine WP.exit ?_ | refine WP.ret ?_ | refine WP.label ?_ | refine WP.cond_true rfl ?_ | refine WP.cond_false rfl ?_ | (refine WP.cond_dec rfl (fun h => ?_) (fun h => ?_) <;> (try (exfalso; omega))) | (refine WP.cond_bool rfl (fun h => ?_) (fun h => ?_)) | refine WL.nil ?_ | refine WL.cons ?_ | (show OP _ _ _ _ _ _ _ ⟨_, .move _, _, _, _, none⟩ _ _; first | refine OP.mI rfl rfl ?_ | refine OP.mB rfl rfl ?_ | refine OP.mC rfl rfl ?_ | refine OP.mF rfl rfl ?_ | refine OP.mS rfl rfl ?_ | refine OP.mP rfl rfl ?_ | refine OP.mA rfl rfl ?_ | refine OP.mT rfl rfl ?_ | refine OP.mM rfl rfl ?_ | refine OP.mU rfl rfl ?_ | refine OP.move rfl rfl ?_) | (show OP _ _ _ _ _ _ _ ⟨_, .assign _, _, _, _, none⟩ _ _; first | refine OP.aI rfl rfl ?_ | refine OP.aB rfl rfl ?_ | refine OP.aC rfl rfl ?_ | refine OP.aF rfl rfl ?_ | refine OP.aS rfl rfl ?_ | refine OP.aP rfl rfl ?_ | refine OP.aA rfl rfl ?_ | refine OP.aT rfl rfl ?_ | refine OP.aM rfl rfl ?_ | refine OP.aU rfl rfl ?_ | refine OP.assign rfl rfl ?_) | refine OP.len rfl rfl rfl ?_ | (show OP _ _ _ _ _ _ _ ⟨_, .binOp _ _ _ _ _, _, _, _, none⟩ _ _; first | (refine OP.add rfl rfl rfl ?_ ?_ ?_; omega; omega) | refine OP.lss rfl rfl rfl ?_ | refine OP.neq rfl rfl rfl ?_ | refine OP.neq2 rfl rfl rfl ?_ | refine OP.neqd rfl rfl rfl ?_) | (show OP _ _ _ _ _ _ _ ⟨_, .unOp _ _ _, _, _, _, none⟩ _ _; first | refine OP.notd rfl rfl ?_ | refine OP.not rfl rfl ?_ | (refine OP.neg rfl rfl ?_ ?_ ?_; omega; omega)) | (refine OP.conv rfl rfl ?_ ?_ ?_; omega; omega) | refine OP.extract rfl rfl rfl ?_ | (show OP _ _ _ _ _ _ _ ⟨_, .load _ _, _, _, _, none⟩ _ _; first | refine OP.ld rfl rfl inferInstance rfl ?_ | refine OP.load rfl rfl (Sees.old0 (by assumption)) ?_ | refine OP.ldA rfl rfl inferInstance rfl ?_) | (show OP _ _ _ _ _ _ _ ⟨_, .store _ _ _, _, _, _, none⟩ _ _; first | refine OP.stI rfl rfl inferInstance rfl ?_ | refine OP.stB rfl rfl inferInstance rfl ?_ | refine OP.stC rfl rfl inferInstance rfl ?_ | refine OP.stF rfl rfl inferInstance rfl ?_ | refine OP.stS rfl rfl inferInstance rfl ?_ | refine OP.stP rfl rfl inferInstance rfl ?_ | refine OP.stM rfl rfl inferInstance rfl ?_ | refine OP.stU rfl rfl inferInstance rfl ?_ | refine OP.st (vs := [_]) rfl rfl inferInstance rfl rfl rfl ?_ | refine OP.st (vs := [_, _]) rfl rfl inferInstance rfl rfl rfl ?_ | refine OP.st (vs := [_, _, _]) rfl rfl inferInstance rfl rfl rfl ?_))
    refine Fin.ret2 (h0 := .inl rfl) rfl rfl rfl ?_
    exact ⟨q, rfl, by simp⟩
end Go.Proofs.YthecbhegjdcjfaaDoor
end
section
/- Floats that hold whole numbers: rounding of what is scaled, noughts, sums. Nothing of the program. -/
set_option linter.unusedVariables false
set_option maxRecDepth 100000
namespace Go.Flt
open Ieee

theorem log_scale {m : Nat} (h : m ≠ 0) (j : Nat) : (m * 2 ^ j).log2 = m.log2 + j := by
  have p := Nat.two_pow_pos j
  have h0 : m * 2 ^ j ≠ 0 := by
    intro e
    rcases Nat.mul_eq_zero.1 e with e | e
    · exact h e
    · omega
  have a := Nat.log2_self_le h
  have b : m < 2 ^ (m.log2 + 1) := Nat.lt_log2_self
  have l1 : m.log2 + j ≤ (m * 2 ^ j).log2 := (Nat.le_log2 h0).2 (by rw [Nat.pow_add]; exact Nat.mul_le_mul_right _ a)
  have l2 : (m * 2 ^ j).log2 < m.log2 + 1 + j := (Nat.log2_lt h0).2 (by rw [Nat.pow_add]; exact Nat.mul_lt_mul_of_pos_right b p)
  omega
theorem cut_scale (s : Bool) {n : Nat} (hn : n ≠ 0) (d j : Nat) : Toward.even.cut s (n * 2 ^ j) (d + j) = Toward.even.cut s n d := by
  have p := Nat.two_pow_pos j
  unfold Toward.cut
  rw [log_scale hn]
  have e0 : min (d + j) (n.log2 + j + 2) = min d (n.log2 + 2) + j := by omega
  have e1 : (1 <<< (min d (n.log2 + 2) + j) : Nat) = (1 <<< min d (n.log2 + 2)) * 2 ^ j := by rw [Nat.shiftLeft_eq, Nat.shiftLeft_eq, Nat.pow_add, Nat.mul_assoc]
  rw [e0, e1]
  generalize (1 <<< min d (n.log2 + 2) : Nat) = g
  simp only [Nat.mul_div_mul_right _ _ p, Nat.mul_mod_mul_right]
  have c1 : decide (g * 2 ^ j < 2 * (n % g * 2 ^ j)) = decide (g < 2 * (n % g)) := by
    rw [decide_eq_decide, ← Nat.mul_assoc]
    exact Nat.mul_lt_mul_right p
  have c2 : (g * 2 ^ j == 2 * (n % g * 2 ^ j)) = (g == 2 * (n % g)) := by
    rw [← Nat.mul_assoc]
    by_cases h : g = 2 * (n % g)
    · rw [← h]; simp
    · have h' : g * 2 ^ j ≠ 2 * (n % g) * 2 ^ j := fun e => h (Nat.eq_of_mul_eq_mul_right p e)
      rw [beq_eq_false_iff_ne.2 h, beq_eq_false_iff_ne.2 h']
  rw [c1, c2]
theorem cut_whole (s : Bool) (n d : Nat) : Toward.even.cut s (n * 2 ^ d) d = n := by
  by_cases hn : n = 0
  · subst hn
    unfold Toward.cut
    simp
  · have := cut_scale s hn 0 d
    rw [Nat.zero_add] at this
    rw [this, cut_zero]
/-- The same number, written with a lower last place. -/
theorem nearest_scale (s : Bool) {m : Nat} (hm : m ≠ 0) (p : Int) (j : Nat) : double.nearest s (m * 2 ^ j) (p - j) = double.nearest s m p := by
  have q := Nat.two_pow_pos j
  have h0 : m * 2 ^ j ≠ 0 := by
    intro e
    rcases Nat.mul_eq_zero.1 e with e | e
    · exact hm e
    · omega
  unfold Format.nearest
  rw [if_neg h0, if_neg hm, log_scale hm]
  have e1 : max (p - (j : Int) + ((m.log2 + j : Nat) : Int) - (double.fractionBits : Int)) double.leastPlace = max (p + (m.log2 : Int) - (double.fractionBits : Int)) double.leastPlace := by congr 1; omega
  simp only [e1]
  generalize max (p + (m.log2 : Int) - (double.fractionBits : Int)) double.leastPlace = L
  have key : Toward.even.cut s ((m * 2 ^ j) <<< (p - (j : Int) - L).toNat) (L - (p - (j : Int))).toNat = Toward.even.cut s (m <<< (p - L).toNat) (L - p).toNat := by
    rw [Nat.shiftLeft_eq, Nat.shiftLeft_eq]
    rcases Int.lt_or_le (p - L) 0 with h | h
    · have a1 : (p - (j : Int) - L).toNat = 0 := by omega
      have a2 : (p - L).toNat = 0 := by omega
      have a3 : (L - (p - (j : Int))).toNat = (L - p).toNat + j := by omega
      rw [a1, a2, a3, Nat.pow_zero, Nat.mul_one, Nat.mul_one]
      exact cut_scale s hm _ _
    · have a2 : (L - p).toNat = 0 := by omega
      rw [a2, cut_zero]
      rcases Int.lt_or_le (p - L) j with h' | h'
      · have a1 : (p - (j : Int) - L).toNat = 0 := by omega
        have a3 : (L - (p - (j : Int))).toNat = j - (p - L).toNat := by omega
        have a4 : m * 2 ^ j = (m * 2 ^ (p - L).toNat) * 2 ^ (j - (p - L).toNat) := by rw [Nat.mul_assoc, ← Nat.pow_add]; congr 2; omega
        rw [a1, a3, Nat.pow_zero, Nat.mul_one, a4]
        exact cut_whole s _ _
      · have a3 : (L - (p - (j : Int))).toNat = 0 := by omega
        rw [a3, cut_zero, Nat.mul_assoc, ← Nat.pow_add]
        congr 2; omega
  rw [key]

/-! ## Whole numbers with a sign -/
/-- The bits of a whole number, below 2^53 without its sign. -/
def flI (z : Int) : Nat := if z < 0 then 9223372036854775808 + fl z.natAbs else fl z.natAbs
theorem nearest_sign (s : Bool) (m : Nat) (p : Int) : double.nearest s m p = (if s then 9223372036854775808 else 0) + double.nearest false m p := by
  have hc : ∀ n d, Toward.even.cut s n d = Toward.even.cut false n d := fun n d => rfl
  unfold Format.nearest
  simp only [hc]
  cases s
  · simp
  · split
    · simp only [Format.word, sw]; simp
    · simp only [Format.word, sw]; simp
theorem write_int {z : Int} (h : z.natAbs < 9007199254740992) : double.write (.number (z < 0) z.natAbs 0) = flI z := by
  show double.nearest (decide (z < 0)) z.natAbs 0 = _
  rw [nearest_sign]
  have := write_nat h
  rw [show double.nearest false z.natAbs 0 = fl z.natAbs from this]
  unfold flI
  by_cases hz : z < 0
  · simp [hz]
  · simp [hz]
theorem read_sign {x : Nat} (h : x < 9223372036854775808) : double.read (9223372036854775808 + x) = (double.read x).opposite := by
  unfold Format.read
  rw [sw, bn, ir, lp]
  have e1 : (9223372036854775808 + x) / 9223372036854775808 % 2 = 1 := by omega
  have e2 : (9223372036854775808 + x) % 9223372036854775808 = x := by omega
  have e3 : x / 9223372036854775808 % 2 = 0 := by omega
  have e4 : x % 9223372036854775808 = x := Nat.mod_eq_of_lt h
  simp only [e1, e2, e3, e4]
  split
  · rfl
  · split
    · rfl
    · split
      · rfl
      · rfl
theorem read_int {z : Int} (h0 : z ≠ 0) (h : z.natAbs < 9007199254740992) : double.read (flI z) = .number (decide (z < 0)) (z.natAbs * 2 ^ (52 - z.natAbs.log2)) ((z.natAbs.log2 : Int) - 52) := by
  have h0' : z.natAbs ≠ 0 := by omega
  unfold flI
  by_cases hz : z < 0
  · rw [if_pos hz, read_sign (Nat.lt_trans (fl_bd h) (by decide)), fl_read h0' h, decide_eq_true hz]; rfl
  · rw [if_neg hz, fl_read h0' h, decide_eq_false hz]
theorem flI_zero : flI 0 = 0 := rfl

/-- A nought, of whichever sign. -/
def isZ (p : Nat) : Prop := p = 0 ∨ p = 9223372036854775808
theorem isZ_read {p : Nat} (h : isZ p) : ∃ s, double.read p = .number s 0 (-1074) := by
  rcases h with rfl | rfl
  · exact ⟨false, by decide⟩
  · exact ⟨true, by decide⟩
theorem isZ_write (s : Bool) (p : Int) : isZ (double.write (.number s 0 p)) := by
  show isZ (double.nearest s 0 p)
  unfold Format.nearest
  rw [if_pos rfl]
  cases s
  · left; rfl
  · right; decide
theorem isZ_opp {p : Nat} (h : isZ p) : ∃ s, (double.read p).opposite = .number s 0 (-1074) := by
  obtain ⟨s, e⟩ := isZ_read h
  exact ⟨!s, by rw [e]; rfl⟩
/-- The number p is z (a nought of whichever sign where z is 0). -/
def isI (p : Nat) (z : Int) : Prop := if z = 0 then isZ p else p = flI z
theorem isI_zero {p : Nat} {z : Int} (h : z = 0) : isI p z ↔ isZ p := by unfold isI; rw [if_pos h]
theorem isI_of {p : Nat} {z : Int} (h : z ≠ 0) : isI p z ↔ p = flI z := by unfold isI; rw [if_neg h]
theorem sum_zero (z : Int) (h0 : z ≠ 0) (h : z.natAbs < 9007199254740992) (t : Bool) : ((double.read (flI z)).sum (.number t 0 (-1074))).map double.write = some (flI z) := by
  have h0' : z.natAbs ≠ 0 := by omega
  have l := log_le h0' h
  have b := man_bd h0' h
  rw [read_int h0 h]
  unfold Datum.sum
  have e0 : min ((z.natAbs.log2 : Int) - 52) (-1074) = -1074 := by omega
  have e1 : ((z.natAbs.log2 : Int) - 52 - -1074).toNat = z.natAbs.log2 + 1022 := by omega
  simp only [e0, e1, Int.sub_self, Int.toNat_zero, Option.map_some, Option.some.injEq]
  have ez : signed t 0 0 = 0 := by unfold signed; cases t <;> simp
  rw [ez, Int.add_zero]
  have q : 0 < 2 ^ (z.natAbs.log2 + 1022) := Nat.two_pow_pos _
  have hM : z.natAbs * 2 ^ (52 - z.natAbs.log2) ≠ 0 := by omega
  have hw : double.nearest (decide (z < 0)) (z.natAbs * 2 ^ (52 - z.natAbs.log2) * 2 ^ (z.natAbs.log2 + 1022)) (-1074) = flI z := by
    rw [← write_int h]
    have s1 := nearest_scale (decide (z < 0)) hM ((z.natAbs.log2 : Int) - 52) (z.natAbs.log2 + 1022)
    have s2 := nearest_scale (decide (z < 0)) h0' 0 (52 - z.natAbs.log2)
    rw [show ((z.natAbs.log2 : Int) - 52 - ((z.natAbs.log2 + 1022 : Nat) : Int)) = -1074 by omega] at s1
    rw [show ((0 : Int) - ((52 - z.natAbs.log2 : Nat) : Int)) = (z.natAbs.log2 : Int) - 52 by omega] at s2
    rw [s1, s2]; rfl
  have hpos : 0 < z.natAbs * 2 ^ (52 - z.natAbs.log2) * 2 ^ (z.natAbs.log2 + 1022) := Nat.mul_pos (by omega) q
  by_cases hz : z < 0
  · rw [decide_eq_true hz] at hw ⊢
    have es : signed true (z.natAbs * 2 ^ (52 - z.natAbs.log2)) (z.natAbs.log2 + 1022) = -((z.natAbs * 2 ^ (52 - z.natAbs.log2) * 2 ^ (z.natAbs.log2 + 1022) : Nat) : Int) := by unfold signed; rw [Nat.shiftLeft_eq]; rfl
    rw [es]
    generalize z.natAbs * 2 ^ (52 - z.natAbs.log2) * 2 ^ (z.natAbs.log2 + 1022) = X at *
    have e5 : ¬ (-(X : Int) = 0) := by omega
    rw [if_neg e5, Int.natAbs_neg, Int.natAbs_natCast, decide_eq_true (by omega : -(X : Int) < 0)]
    exact hw
  · rw [decide_eq_false hz] at hw ⊢
    have es : signed false (z.natAbs * 2 ^ (52 - z.natAbs.log2)) (z.natAbs.log2 + 1022) = ((z.natAbs * 2 ^ (52 - z.natAbs.log2) * 2 ^ (z.natAbs.log2 + 1022) : Nat) : Int) := by unfold signed; rw [Nat.shiftLeft_eq]; rfl
    rw [es]
    generalize z.natAbs * 2 ^ (52 - z.natAbs.log2) * 2 ^ (z.natAbs.log2 + 1022) = X at *
    have e5 : ¬ ((X : Int) = 0) := by omega
    rw [if_neg e5, Int.natAbs_natCast, decide_eq_false (by omega : ¬ (X : Int) < 0)]
    exact hw
theorem zero_zero (s t : Bool) : ∃ r, ((Datum.number s 0 (-1074)).sum (.number t 0 (-1074))).map double.write = some r ∧ isZ r := by
  refine ⟨_, rfl, ?_⟩
  cases s <;> cases t <;> first | (left; decide) | (right; decide)
theorem add_zero {p t : Nat} {z : Int} (h : z.natAbs < 9007199254740992) (hp : isI p z) (ht : isZ t) : ∃ r, double.add p t = some r ∧ isI r z := by
  obtain ⟨s, es⟩ := isZ_read ht
  by_cases h0 : z = 0
  · rw [isI_zero h0] at hp
    obtain ⟨s', es'⟩ := isZ_read hp
    unfold Format.add
    rw [es, es']
    obtain ⟨r, h1, h2⟩ := zero_zero s' s
    exact ⟨r, h1, (isI_zero h0).2 h2⟩
  · rw [isI_of h0] at hp
    subst hp
    exact ⟨_, by unfold Format.add; rw [es]; exact sum_zero z h0 h s, (isI_of h0).2 rfl⟩
theorem sub_zero {p t : Nat} {z : Int} (h : z.natAbs < 9007199254740992) (hp : isI p z) (ht : isZ t) : ∃ r, double.sub p t = some r ∧ isI r z := by
  obtain ⟨s, es⟩ := isZ_opp ht
  by_cases h0 : z = 0
  · rw [isI_zero h0] at hp
    obtain ⟨s', es'⟩ := isZ_read hp
    unfold Format.sub
    rw [es, es']
    obtain ⟨r, h1, h2⟩ := zero_zero s' s
    exact ⟨r, h1, (isI_zero h0).2 h2⟩
  · rw [isI_of h0] at hp
    subst hp
    exact ⟨_, by unfold Format.sub; rw [es]; exact sum_zero z h0 h s, (isI_of h0).2 rfl⟩
/-- Finite. -/
def finB (p : Nat) : Bool := decide (p % 9223372036854775808 < 9218868437227405312)
theorem fin_read {p : Nat} (h : finB p = true) : ∃ s m e, double.read p = .number s m e := by
  have h := of_decide_eq_true h
  unfold Format.read
  rw [sw, bn, ir, lp]
  dsimp only
  split
  · exact ⟨_, _, _, rfl⟩
  · exact ⟨_, _, _, rfl⟩
theorem mul_zero {p t : Nat} (h : finB p = true) (ht : isZ t) : ∃ r, double.mul p t = some r ∧ isZ r := by
  obtain ⟨s, m, e, er⟩ := fin_read h
  obtain ⟨s', es⟩ := isZ_read ht
  unfold Format.mul
  rw [er, es]
  unfold Datum.product
  exact ⟨_, rfl, by rw [Nat.mul_zero]; exact isZ_write _ _⟩
theorem order_isI {p : Nat} {z : Int} (h : z.natAbs < 9007199254740992) (hp : isI p z) : double.order p (flI z) = some .eq := by
  unfold isI at hp
  by_cases h0 : z = 0
  · rw [if_pos h0] at hp
    subst h0
    rcases hp with rfl | rfl <;> decide
  · rw [if_neg h0] at hp
    subst hp
    unfold Format.order
    rw [read_int h0 h]
    unfold Datum.order
    simp
end Go.Flt
end
section
/- Floats: bounds that rounding keeps. Nothing of the program. -/
set_option linter.unusedVariables false
set_option maxRecDepth 100000
namespace Go.Flt
open Ieee

theorem cut_le {s : Bool} {n d M : Nat} (h : n ≤ M * 2 ^ d) : Toward.even.cut s n d ≤ M := by
  unfold Toward.cut
  by_cases hd : d ≤ n.log2 + 2
  · rw [Nat.min_eq_left hd, Nat.shiftLeft_eq, Nat.one_mul]
    have p := Nat.two_pow_pos d
    generalize 2 ^ d = g at h p
    dsimp only
    have hdm := Nat.div_add_mod n g
    have hlt := Nat.mod_lt n p
    by_cases hlow : n / g < M
    · have : (decide (g < 2 * (n % g)) || g == 2 * (n % g) && n / g % 2 == 1).toNat ≤ 1 := Bool.toNat_le _
      omega
    · have h1 : n / g ≤ M := by
        have := Nat.div_le_div_right (c := g) h
        rwa [Nat.mul_div_cancel _ p] at this
      have h2 : n / g = M := by omega
      have h3 : n % g = 0 := by rw [h2, Nat.mul_comm] at hdm; omega
      rw [h3]
      have e1 : ¬ g < 2 * 0 := by omega
      have e2 : ¬ g = 2 * 0 := by omega
      have e3 : (g == 0) = false := beq_eq_false_iff_ne.2 (by omega)
      simp [h2, e3]
  · rw [Nat.min_eq_right (by omega), Nat.shiftLeft_eq, Nat.one_mul]
    have hn : n < 2 ^ (n.log2 + 1) := Nat.lt_log2_self
    have e : 2 ^ (n.log2 + 2) = 2 ^ (n.log2 + 1) * 2 := Nat.pow_succ _ _
    generalize 2 ^ (n.log2 + 2) = g at e
    generalize 2 ^ (n.log2 + 1) = g1 at e hn
    dsimp only
    rw [Nat.div_eq_of_lt (by omega), Nat.mod_eq_of_lt (by omega)]
    have e1 : ¬ g < 2 * n := by omega
    have e2 : ¬ g = 2 * n := by omega
    simp [e1, beq_eq_false_iff_ne.2 e2]
/-- What is at most 2^k is written at most as 2^k. -/
theorem nearest_le {m j k : Nat} (hm : m ≤ 2 ^ (j + k)) : double.nearest false m (-(j : Int)) ≤ (1023 + k) * 4503599627370496 := by
  unfold Format.nearest
  by_cases h0 : m = 0
  · rw [if_pos h0]; exact Nat.zero_le _
  · rw [if_neg h0, lp, bn, ir, fb]
    dsimp only [Format.word]
    rw [if_neg (by decide)]
    have l1 := Nat.log2_self_le h0
    have l2 : m < 2 ^ (m.log2 + 1) := Nat.lt_log2_self
    obtain ⟨L, hL⟩ : ∃ L : Int, L = max (-(j : Int) + (m.log2 : Int) - ((52 : Nat) : Int)) (-1074) := ⟨_, rfl⟩
    rw [← hL]
    obtain ⟨d, hd⟩ : ∃ d, d = (L - -(j : Int)).toNat := ⟨_, rfl⟩
    obtain ⟨u, hu⟩ : ∃ u, u = (-(j : Int) - L).toNat := ⟨_, rfl⟩
    rw [← hd, ← hu]
    refine Nat.le_trans (Nat.min_le_left _ _) ?_
    rw [Nat.shiftLeft_eq]
    have hlg : m.log2 ≤ j + k := by
      have : m.log2 < j + k + 1 := (Nat.log2_lt h0).2 (Nat.lt_of_le_of_lt hm (Nat.pow_lt_pow_right (by decide) (by omega)))
      omega
    by_cases hlt : m.log2 < j + k
    · have hc : Toward.even.cut false (m * 2 ^ u) d ≤ 2 ^ 53 := by
        refine cut_le ?_
        rw [← Nat.pow_add]
        calc m * 2 ^ u ≤ 2 ^ (m.log2 + 1) * 2 ^ u := Nat.mul_le_mul_right _ (Nat.le_of_lt l2)
          _ = 2 ^ (m.log2 + 1 + u) := (Nat.pow_add _ _ _).symm
          _ ≤ _ := Nat.pow_le_pow_right (by decide) (by omega)
      have h3 : (L - -1074).toNat ≤ 1021 + k := by omega
      have hm2 := Nat.mul_le_mul_right 4503599627370496 h3
      have hc2 : Toward.even.cut false (m * 2 ^ u) d ≤ 2 * 4503599627370496 := Nat.le_trans hc (by decide)
      refine Nat.le_trans (Nat.add_le_add hm2 hc2) ?_
      rw [← Nat.add_mul]
      exact Nat.mul_le_mul_right _ (by omega)
    · have hmm : m = 2 ^ (j + k) := by
        have e : m.log2 = j + k := by omega
        rw [e] at l1
        exact Nat.le_antisymm hm l1
      have hc : Toward.even.cut false (m * 2 ^ u) d ≤ 2 ^ 52 := by
        refine cut_le ?_
        rw [hmm, ← Nat.pow_add, ← Nat.pow_add]
        exact Nat.pow_le_pow_right (by decide) (by omega)
      have h3 : (L - -1074).toNat ≤ 1022 + k := by omega
      have hm2 := Nat.mul_le_mul_right 4503599627370496 h3
      have hc2 : Toward.even.cut false (m * 2 ^ u) d ≤ 1 * 4503599627370496 := Nat.le_trans hc (by decide)
      refine Nat.le_trans (Nat.add_le_add hm2 hc2) ?_
      rw [← Nat.add_mul]
      exact Nat.mul_le_mul_right _ (by omega)
/-- Bits that are at most those of 2^k read as a number that is at most 2^k. -/
theorem read_le {p k : Nat} (hk : k ≤ 1) (h : p ≤ (1023 + k) * 4503599627370496) : ∃ m j : Nat, double.read p = .number false m (-(j : Int)) ∧ m ≤ 2 ^ (j + k) := by
  by_cases hs : p < 4503599627370496
  · refine ⟨p, 1074, ?_, ?_⟩
    · unfold Format.read
      rw [sw, bn, ir, lp]
      have e1 : p / 9223372036854775808 % 2 = 0 := by omega
      have e2 : p % 9223372036854775808 = p := Nat.mod_eq_of_lt (by omega)
      simp only [e1, e2]
      rw [if_pos hs]; rfl
    · exact Nat.le_trans (Nat.le_of_lt hs) (Nat.le_trans (show 4503599627370496 ≤ 2 ^ 52 by decide) (Nat.pow_le_pow_right (by decide) (by omega)))
  · refine ⟨4503599627370496 + p % 4503599627370496, 1075 - p / 4503599627370496, ?_, ?_⟩
    · rw [read_pos (by omega) (by omega)]
      congr 1
      omega
    · by_cases he : p / 4503599627370496 ≤ 1022 + k
      · exact Nat.le_trans (show 4503599627370496 + p % 4503599627370496 ≤ 2 ^ 53 by omega) (Nat.pow_le_pow_right (by decide) (by omega))
      · exact Nat.le_trans (show 4503599627370496 + p % 4503599627370496 ≤ 2 ^ 52 by omega) (Nat.pow_le_pow_right (by decide) (by omega))
def one' : Nat := 4607182418800017408
theorem order_selfB {p : Nat} (h : p ≤ one') : double.order p p = some .eq := by
  obtain ⟨m, j, e, _⟩ := read_le (p := p) (k := 0) (by decide) (by unfold one' at h; omega)
  unfold Format.order
  rw [e]
  unfold Datum.order
  simp
theorem order_nonneg {p : Nat} (h : p ≤ one') : (double.order p 0 == some .lt) = false := by
  obtain ⟨m, j, e, _⟩ := read_le (p := p) (k := 0) (by decide) (by unfold one' at h; omega)
  unfold Format.order
  rw [e, read_zero]
  unfold Datum.order
  simp only [signed, Bool.false_eq_true, if_false, Nat.zero_shiftLeft]
  generalize m <<< _ = X
  have hc : compare ((X : Nat) : Int) ((0 : Nat) : Int) ≠ .lt := by
    intro hc
    rw [Int.compare_eq_lt] at hc; omega
  cases hcc : compare ((X : Nat) : Int) ((0 : Nat) : Int) with
  | lt => exact absurd hcc hc
  | eq => rfl
  | gt => rfl
theorem read_one : double.read one' = .number false (2 ^ 52) (-52) := by decide
theorem order_one {p : Nat} (h : p ≤ one') : (double.order p one' == some .gt) = false := by
  obtain ⟨m, j, e, hm⟩ := read_le (p := p) (k := 0) (by decide) (by unfold one' at h; omega)
  unfold Format.order
  rw [e, read_one]
  unfold Datum.order
  simp only [signed, Bool.false_eq_true, if_false, Nat.shiftLeft_eq]
  have key : m * 2 ^ (-(j : Int) - min (-(j : Int)) (-52)).toNat ≤ 2 ^ 52 * 2 ^ ((-52 : Int) - min (-(j : Int)) (-52)).toNat := by
    rw [← Nat.pow_add]
    calc _ ≤ 2 ^ (j + 0) * 2 ^ (-(j : Int) - min (-(j : Int)) (-52)).toNat := Nat.mul_le_mul_right _ hm
      _ = 2 ^ (j + 0 + (-(j : Int) - min (-(j : Int)) (-52)).toNat) := (Nat.pow_add _ _ _).symm
      _ ≤ _ := Nat.pow_le_pow_right (by decide) (by omega)
  generalize m * 2 ^ (-(j : Int) - min (-(j : Int)) (-52)).toNat = X at key ⊢
  generalize 2 ^ 52 * 2 ^ ((-52 : Int) - min (-(j : Int)) (-52)).toNat = Y at key ⊢
  have hc : compare ((X : Nat) : Int) ((Y : Nat) : Int) ≠ .gt := by
    intro hc
    rw [Int.compare_eq_gt] at hc; omega
  cases hcc : compare ((X : Nat) : Int) ((Y : Nat) : Int) with
  | lt => rfl
  | eq => rfl
  | gt => exact absurd hcc hc
end Go.Flt
end
section
/- What rounding errs: floats as fractions, sums and products within half a last place. Nothing of the program. -/
set_option linter.unusedVariables false
set_option maxRecDepth 100000
set_option exponentiation.threshold 3000
namespace Go.Flt
open Ieee

/-- The float in units of 2^-1074. -/
def val (p : Nat) : Int := match double.read p with
  | .number s m e => signed s m (e + 1074).toNat
  | _ => 0
theorem aux_mul (b g : Nat) : (b + 0) * (g * 2) = b * 2 * g := by rw [Nat.add_zero, Nat.mul_comm g 2, Nat.mul_assoc]
theorem ax1 {A c : Nat} (hA2 : A ≤ 1921) (hc2 : c ≤ 9007199254740992) : min (A * 4503599627370496 + c) 9218868437227405312 = A * 4503599627370496 + c := by omega
theorem ax2 {A c : Nat} (hc : c = 9007199254740992) : (A * 4503599627370496 + c) % 4503599627370496 = 0 := by omega
theorem ax3 {A c : Nat} (hc : c = 9007199254740992) : ((-1074 : Int) + ((A * 4503599627370496 + c) / 4503599627370496 - 1 : Nat) + 1074).toNat = A + 1 := by omega
theorem ax4 {c : Nat} (hc : c = 9007199254740992) : c = 4503599627370496 * 2 := by omega
theorem ax5 {A c : Nat} (h1 : A = 0 ∨ 4503599627370496 ≤ c) (hs : ¬ A * 4503599627370496 + c < 4503599627370496) (hc2 : ¬ 4503599627370496 ≤ c) : False := by omega
theorem ax6 {A c : Nat} (hs : A * 4503599627370496 + c < 4503599627370496) : A = 0 := by omega
theorem ax7 {A c : Nat} (h2 : c ≤ 9007199254740992) (hc2 : 4503599627370496 ≤ c) (hc : ¬ c = 9007199254740992) : 4503599627370496 + (A * 4503599627370496 + c) % 4503599627370496 = c := by omega
theorem ax8 {A c : Nat} (h2 : c ≤ 9007199254740992) (hc2 : 4503599627370496 ≤ c) (hc : ¬ c = 9007199254740992) : ((-1074 : Int) + ((A * 4503599627370496 + c) / 4503599627370496 - 1 : Nat) + 1074).toNat = A := by omega
theorem ax9 {A c : Nat} (hA : A ≤ 2040) (h2 : c ≤ 9007199254740992) : A * 4503599627370496 + c < 9218868437227405312 := by omega
theorem val_sub {c : Nat} (h : c < 4503599627370496) : val c = (c : Int) := by
  have e : double.read c = .number false c (-1074) := by
    unfold Format.read
    rw [sw, bn, ir, lp]
    have e1 : c / 9223372036854775808 % 2 = 0 := by omega
    have e2 : c % 9223372036854775808 = c := by omega
    simp only [e1, e2]
    rw [if_pos h]; rfl
  unfold val
  rw [e]
  simp [signed]
theorem val_norm {x : Nat} (h : x < 9218868437227405312) (h2 : 4503599627370496 ≤ x) : val x = (((4503599627370496 + x % 4503599627370496) * 2 ^ ((-1074 : Int) + (x / 4503599627370496 - 1 : Nat) + 1074).toNat : Nat) : Int) := by
  unfold val
  rw [read_pos h h2]
  dsimp only [signed]
  rw [if_neg (by decide), Nat.shiftLeft_eq]
/-- What a rung written from its last place reads as. -/
theorem val_rung {A c : Nat} (hA : A ≤ 2040) (h1 : A = 0 ∨ 4503599627370496 ≤ c) (h2 : c ≤ 9007199254740992) : val (A * 4503599627370496 + c) = ((c * 2 ^ A : Nat) : Int) := by
  by_cases hs : A * 4503599627370496 + c < 4503599627370496
  · rw [val_sub hs]
    have hA0 := ax6 hs
    rw [hA0, Nat.zero_mul, Nat.zero_add, Nat.pow_zero, Nat.mul_one]
  · rw [val_norm (ax9 hA h2) (Nat.le_of_not_lt hs)]
    by_cases hc : c = 9007199254740992
    · rw [ax2 hc, ax3 hc, Nat.pow_succ, aux_mul, ← ax4 hc]
    · by_cases hc2 : 4503599627370496 ≤ c
      · rw [ax7 h2 hc2 hc, ax8 h2 hc2 hc]
      · exact absurd (ax5 h1 hs hc2) id
/-- A cut errs by half a unit at most. -/
theorem cut_err (s : Bool) (n d : Nat) : 2 * (Toward.even.cut s n d * 2 ^ d) ≤ 2 * n + 2 ^ d ∧ 2 * n ≤ 2 * (Toward.even.cut s n d * 2 ^ d) + 2 ^ d := by
  unfold Toward.cut
  by_cases hd : d ≤ n.log2 + 2
  · rw [Nat.min_eq_left hd, Nat.shiftLeft_eq, Nat.one_mul]
    have p := Nat.two_pow_pos d
    generalize 2 ^ d = g at p ⊢
    dsimp only
    have hdm := Nat.div_add_mod n g
    have hlt := Nat.mod_lt n p
    rw [Nat.mul_comm] at hdm
    generalize n / g = q at hdm ⊢
    generalize n % g = r at hdm hlt ⊢
    rw [Nat.add_mul]
    generalize hQ : q * g = Q at hdm ⊢
    by_cases h1 : g < 2 * r
    · rw [decide_eq_true h1]; simp only [Bool.true_or, Bool.toNat_true, Nat.one_mul]; omega
    · rw [decide_eq_false h1, Bool.false_or]
      by_cases h2 : g = 2 * r
      · cases hb : (g == 2 * r && q % 2 == 1)
        · simp only [Bool.toNat_false, Nat.zero_mul]; omega
        · simp only [Bool.toNat_true, Nat.one_mul]; omega
      · rw [beq_eq_false_iff_ne.2 h2, Bool.false_and]; simp only [Bool.toNat_false, Nat.zero_mul]; omega
  · rw [Nat.min_eq_right (by omega), Nat.shiftLeft_eq, Nat.one_mul]
    have hn : n < 2 ^ (n.log2 + 1) := Nat.lt_log2_self
    have e : 2 ^ (n.log2 + 2) = 2 ^ (n.log2 + 1) * 2 := Nat.pow_succ _ _
    have hle : 2 ^ (n.log2 + 2) ≤ 2 ^ d := Nat.pow_le_pow_right (by decide) (by omega)
    generalize 2 ^ (n.log2 + 2) = g at e hle
    generalize 2 ^ (n.log2 + 1) = g1 at e hn
    generalize 2 ^ d = D at hle ⊢
    dsimp only
    rw [Nat.div_eq_of_lt (by omega), Nat.mod_eq_of_lt (by omega), decide_eq_false (by omega), beq_eq_false_iff_ne.2 (by omega)]
    simp only [Bool.false_and, Bool.false_or, Bool.toNat_false]
    omega
theorem cut_sign (s : Bool) (n d : Nat) : Toward.even.cut s n d = Toward.even.cut false n d := rfl
theorem val_sign {p : Nat} (h : p < 9223372036854775808) : val (9223372036854775808 + p) = - val p := by
  unfold val
  rw [read_sign h]
  cases double.read p with
  | number s m e => cases s <;> simp [Datum.opposite, signed]
  | infinity s => rfl
  | nan s t => rfl
def sgn (s : Bool) (m : Nat) : Int := if s then -(m : Int) else m
/-- The number nearest to m units of 2^-2148. -/
theorem near_err (s : Bool) {m k : Nat} (hk : k ≤ 900) (h : m < 2 ^ (k + 2148)) :
    finB (double.nearest s m (-2148)) = true ∧ double.nearest s m (-2148) < 18446744073709551616 ∧ 2 ^ 1074 * val (double.nearest s m (-2148)) ≤ sgn s m + 2 ^ (k + 2094) ∧ sgn s m ≤ 2 ^ 1074 * val (double.nearest s m (-2148)) + 2 ^ (k + 2094) := by
  by_cases h0 : m = 0
  · subst h0
    have e : double.nearest s 0 (-2148) = double.word s 0 := by unfold Format.nearest; rw [if_pos rfl]
    rw [e]
    have hv : val (double.word s 0) = 0 := by cases s <;> decide
    have p : (0 : Int) < 2 ^ (k + 2094) := Int.pow_pos (by decide)
    have hs : sgn s 0 = 0 := by cases s <;> rfl
    rw [hv, hs]
    refine ⟨by cases s <;> decide, by cases s <;> decide, ?_, ?_⟩
    · rw [Int.mul_zero, Int.zero_add]; exact Int.le_of_lt p
    · rw [Int.mul_zero, Int.zero_add]; exact Int.le_of_lt p
  · obtain ⟨L, hL⟩ : ∃ L, L = m.log2 := ⟨_, rfl⟩
    have l1 := Nat.log2_self_le h0
    have l2 : m < 2 ^ (m.log2 + 1) := Nat.lt_log2_self
    rw [← hL] at l1 l2
    have hLk : L < k + 2148 := by rw [hL]; exact (Nat.log2_lt h0).2 h
    obtain ⟨A, hA⟩ : ∃ A, A = L - 1126 := ⟨_, rfl⟩
    have hD : Toward.even.cut false m (A + 1074) = Toward.even.cut false m (A + 1074) := rfl
    obtain ⟨c, hc⟩ : ∃ c, c = Toward.even.cut false m (A + 1074) := ⟨_, rfl⟩
    have hce := cut_err false m (A + 1074)
    rw [← hc] at hce
    have hc2 : c ≤ 9007199254740992 := by
      rw [hc]
      refine cut_le ?_
      refine Nat.le_trans (Nat.le_of_lt l2) ?_
      rw [show (9007199254740992 : Nat) = 2 ^ 53 by decide, ← Nat.pow_add]
      exact Nat.pow_le_pow_right (by decide) (by omega)
    have hc1 : A = 0 ∨ 4503599627370496 ≤ c := by
      by_cases hA0 : A = 0
      · exact .inl hA0
      · right
        have e1 : 2 ^ L = 4503599627370496 * 2 ^ (A + 1074) := by
          rw [show (4503599627370496 : Nat) = 2 ^ 52 by decide, ← Nat.pow_add]; congr 1; omega
        rw [e1] at l1
        have hp := Nat.two_pow_pos (A + 1074)
        generalize 2 ^ (A + 1074) = g at l1 hce hp
        apply Nat.le_of_not_lt
        intro hlt
        have := Nat.mul_le_mul_right g (show c ≤ 4503599627370495 by omega)
        generalize c * g = cg at *
        omega
    have hA2 : A ≤ 1921 := by omega
    have hn : double.nearest false m (-2148) = A * 4503599627370496 + c := by
      unfold Format.nearest
      rw [if_neg h0, lp, bn, ir, fb, ← hL]
      have e1 : max ((-2148 : Int) + (L : Int) - ((52 : Nat) : Int)) (-1074) = (A : Int) - 1074 := by omega
      simp only [e1]
      have e2 : ((-2148 : Int) - ((A : Int) - 1074)).toNat = 0 := by omega
      have e3 : ((A : Int) - 1074 - -2148).toNat = A + 1074 := by omega
      have e4 : ((A : Int) - 1074 - -1074).toNat = A := by omega
      rw [e2, e3, e4, Nat.shiftLeft_zero, ← hc]
      unfold Format.word
      simp only [Bool.false_eq_true, if_false]
      exact ax1 hA2 hc2
    have hv := val_rung (Nat.le_trans hA2 (by decide)) hc1 hc2
    rw [← hn] at hv
    have hlt : double.nearest false m (-2148) < 9218868437227405312 := by rw [hn]; omega
    -- the bound on the last place
    have hb : 2 ^ (A + 1074) ≤ 2 ^ (k + 2095) := Nat.pow_le_pow_right (by decide) (by omega)
    have hb2 : (2 : Nat) ^ (k + 2095) = 2 * 2 ^ (k + 2094) := by rw [Nat.pow_succ, Nat.mul_comm]
    have hcA : c * 2 ^ (A + 1074) = 2 ^ 1074 * (c * 2 ^ A) := by rw [Nat.pow_add, Nat.mul_comm (2 ^ 1074), Nat.mul_assoc]
    rw [hcA] at hce
    have key : 2 ^ 1074 * (c * 2 ^ A) ≤ m + 2 ^ (k + 2094) ∧ m ≤ 2 ^ 1074 * (c * 2 ^ A) + 2 ^ (k + 2094) := by
      generalize 2 ^ 1074 * (c * 2 ^ A) = X at hce ⊢
      generalize 2 ^ (k + 2094) = Y at hb2 ⊢
      generalize 2 ^ (k + 2095) = Z at hb2 hb
      generalize 2 ^ (A + 1074) = V at hb hce
      omega
    have kI1 : (2 : Int) ^ 1074 * ((c * 2 ^ A : Nat) : Int) ≤ (m : Int) + 2 ^ (k + 2094) := by
      have := Int.ofNat_le.2 key.1
      rw [Int.natCast_mul, Int.natCast_add, Int.natCast_pow, Int.natCast_pow] at this
      exact this
    have kI2 : (m : Int) ≤ (2 : Int) ^ 1074 * ((c * 2 ^ A : Nat) : Int) + 2 ^ (k + 2094) := by
      have := Int.ofNat_le.2 key.2
      rw [Int.natCast_add, Int.natCast_mul, Int.natCast_pow, Int.natCast_pow] at this
      exact this
    rw [← hv] at kI1 kI2
    rw [nearest_sign]
    cases s
    · simp only [Bool.false_eq_true, if_false, Nat.zero_add, sgn]
      exact ⟨decide_eq_true (by omega), by omega, kI1, kI2⟩
    · simp only [if_true, sgn]
      rw [val_sign (by omega), Int.mul_neg]
      generalize (2 : Int) ^ 1074 * val (double.nearest false m (-2148)) = X at kI1 kI2 ⊢
      generalize (2 : Int) ^ (k + 2094) = Y at kI1 kI2 ⊢
      exact ⟨decide_eq_true (by omega), by omega, by omega, by omega⟩
theorem fin_num {p : Nat} (h : finB p = true) : ∃ s m e, double.read p = .number s m e ∧ -1074 ≤ e := by
  have h := of_decide_eq_true h
  unfold Format.read
  rw [sw, bn, ir, lp]
  dsimp only
  split
  · exact ⟨_, _, _, rfl, by omega⟩
  · exact ⟨_, _, _, rfl, by omega⟩
theorem signed_sgn (s : Bool) (m u : Nat) : signed s m u = sgn s (m * 2 ^ u) := by
  unfold signed sgn
  rw [Nat.shiftLeft_eq]
theorem sgn_pow (s : Bool) (m : Nat) (u v : Nat) : sgn s (m * 2 ^ (u + v)) = sgn s (m * 2 ^ u) * 2 ^ v := by
  unfold sgn
  rw [Nat.pow_add, ← Nat.mul_assoc, Int.natCast_mul (m * 2 ^ u) (2 ^ v), Int.natCast_pow]
  cases s
  · rfl
  · simp only [if_true]; rw [Int.neg_mul]; rfl
theorem nearest_low (s : Bool) (m : Nat) (p : Int) (h : -2148 ≤ p) : double.nearest s m p = double.nearest s (m * 2 ^ (p + 2148).toNat) (-2148) := by
  by_cases h0 : m = 0
  · subst h0
    rw [Nat.zero_mul]
    unfold Format.nearest
    rw [if_pos rfl, if_pos rfl]
  · have := nearest_scale s h0 p (p + 2148).toNat
    rw [show p - ((p + 2148).toNat : Int) = -2148 by omega] at this
    exact this.symm
theorem sgn_abs (t : Int) (b : Bool) : sgn (if t = 0 then b else decide (t < 0)) t.natAbs = t := by
  unfold sgn
  by_cases h : t = 0
  · subst h; cases b <;> rfl
  · rw [if_neg h]
    by_cases h2 : t < 0
    · rw [decide_eq_true h2, if_pos rfl]; omega
    · rw [decide_eq_false h2]; simp only [Bool.false_eq_true, if_false]; omega
/-- A sum of finite floats, in whole units. -/
theorem add_units {x y k : Nat} (hk : k ≤ 900) (hx : finB x = true) (hy : finB y = true) (h : (val x + val y).natAbs < 2 ^ (k + 1074)) :
    ∃ r, double.add x y = some r ∧ finB r = true ∧ r < 18446744073709551616 ∧ 2 ^ 1074 * val r ≤ 2 ^ 1074 * (val x + val y) + 2 ^ (k + 2094) ∧ 2 ^ 1074 * (val x + val y) ≤ 2 ^ 1074 * val r + 2 ^ (k + 2094) := by
  obtain ⟨s, m, i, ex, hi⟩ := fin_num hx
  obtain ⟨t, n, j, ey, hj⟩ := fin_num hy
  obtain ⟨base, hb⟩ : ∃ b, b = min i j := ⟨_, rfl⟩
  obtain ⟨T, hT⟩ : ∃ T, T = signed s m (i - base).toNat + signed t n (j - base).toNat := ⟨_, rfl⟩
  have hv : val x + val y = T * 2 ^ (base + 1074).toNat := by
    unfold val
    rw [ex, ey, hT, Int.add_mul]
    dsimp only
    rw [signed_sgn, signed_sgn, signed_sgn, signed_sgn, ← sgn_pow, ← sgn_pow]
    congr 3 <;> congr 1 <;> omega
  refine ⟨double.nearest (if T = 0 then s && t else decide (T < 0)) T.natAbs base, ?_, ?_⟩
  · unfold Format.add
    rw [ex, ey]
    unfold Datum.sum
    simp only [← hb, ← hT]
    rfl
  · have hl := nearest_low (if T = 0 then s && t else decide (T < 0)) T.natAbs base (by omega)
    have e1 : (base + 2148).toNat = (base + 1074).toNat + 1074 := by omega
    rw [hl]
    have hsg : sgn (if T = 0 then s && t else decide (T < 0)) (T.natAbs * 2 ^ (base + 2148).toNat) = 2 ^ 1074 * (val x + val y) := by
      rw [e1, sgn_pow, hv]
      have := sgn_pow (if T = 0 then s && t else decide (T < 0)) T.natAbs 0 (base + 1074).toNat
      rw [Nat.zero_add, Nat.pow_zero, Nat.mul_one, sgn_abs] at this
      rw [this, Int.mul_comm]
    have hlt : T.natAbs * 2 ^ (base + 2148).toNat < 2 ^ (k + 2148) := by
      rw [hv, Int.natAbs_mul, Int.natAbs_pow] at h
      rw [e1, Nat.pow_add 2 _ 1074, ← Nat.mul_assoc, show k + 2148 = k + 1074 + 1074 by omega, Nat.pow_add 2 (k + 1074) 1074]
      exact Nat.mul_lt_mul_of_pos_right h (Nat.two_pow_pos _)
    have := near_err (if T = 0 then s && t else decide (T < 0)) hk hlt
    rw [hsg] at this
    exact this
theorem opp_fin {y : Nat} (h : y < 18446744073709551616) : ∃ z, z = y ^^^ 9223372036854775808 ∧ double.read z = (double.read y).opposite := by
  refine ⟨_, rfl, ?_⟩
  by_cases hlt : y < 9223372036854775808
  · have e : y ^^^ 9223372036854775808 = 9223372036854775808 + y := by
      have := Nat.two_pow_add_eq_or_of_lt (i := 63) (b := y) (by simpa using hlt) 1
      rw [Nat.mul_one] at this
      rw [show (9223372036854775808 : Nat) = 2 ^ 63 by decide, this]
      apply Nat.eq_of_testBit_eq
      intro i
      rw [Nat.testBit_xor, Nat.testBit_or, Nat.testBit_two_pow]
      by_cases hi : 63 = i
      · subst hi
        have : y.testBit 63 = false := Nat.testBit_lt_two_pow (by simpa using hlt)
        rw [this]; rfl
      · simp [hi]
    rw [e, read_sign hlt]
  · obtain ⟨z, rfl⟩ : ∃ z, y = 9223372036854775808 + z := ⟨y - 9223372036854775808, by omega⟩
    have hz : z < 9223372036854775808 := by omega
    have e : (9223372036854775808 + z) ^^^ 9223372036854775808 = z := by
      have e2 : z ^^^ 9223372036854775808 = 9223372036854775808 + z := by
        have := Nat.two_pow_add_eq_or_of_lt (i := 63) (b := z) (by simpa using hz) 1
        rw [Nat.mul_one] at this
        rw [show (9223372036854775808 : Nat) = 2 ^ 63 by decide, this]
        apply Nat.eq_of_testBit_eq
        intro i
        rw [Nat.testBit_xor, Nat.testBit_or, Nat.testBit_two_pow]
        by_cases hi : 63 = i
        · subst hi
          have : z.testBit 63 = false := Nat.testBit_lt_two_pow (by simpa using hz)
          rw [this]; rfl
        · simp [hi]
      rw [← e2, Nat.xor_assoc, Nat.xor_self, Nat.xor_zero]
    rw [e, read_sign hz]
    cases double.read z with
    | number s m e => simp [Datum.opposite]
    | infinity s => simp [Datum.opposite]
    | nan s t => simp [Datum.opposite]
/-- The sign turned. -/
def flipN (p : Nat) : Nat := p ^^^ 9223372036854775808
theorem val_flip {y : Nat} (h : y < 18446744073709551616) : val (flipN y) = - val y := by
  obtain ⟨z, hz, e⟩ := opp_fin h
  unfold flipN
  rw [← hz]
  unfold val
  rw [e]
  cases double.read y with
  | number s m e => cases s <;> simp [Datum.opposite, signed]
  | infinity s => rfl
  | nan s t => rfl
theorem fin_flip {y : Nat} : finB (flipN y) = finB y := by
  have := Nat.xor_mod_two_pow (a := y) (b := 9223372036854775808) (n := 63)
  rw [show (2 : Nat) ^ 63 = 9223372036854775808 by decide, Nat.mod_self, Nat.xor_zero] at this
  unfold finB flipN
  rw [this]
theorem sub_add {x y : Nat} (h : y < 18446744073709551616) : double.sub x y = double.add x (flipN y) := by
  obtain ⟨z, hz, e⟩ := opp_fin h
  unfold Format.sub Format.add flipN
  rw [← hz, e]
theorem sgn_mul (s t : Bool) (m n : Nat) : sgn (s ^^ t) (m * n) = sgn s m * sgn t n := by
  unfold sgn
  rw [Int.natCast_mul]
  cases s <;> cases t <;> simp [Int.mul_neg, Int.neg_mul]
/-- A product of finite floats, in whole units. -/
theorem mul_units {x y k : Nat} (hk : k ≤ 900) (hx : finB x = true) (hy : finB y = true) (h : (val x * val y).natAbs < 2 ^ (k + 2148)) :
    ∃ r, double.mul x y = some r ∧ finB r = true ∧ r < 18446744073709551616 ∧ 2 ^ 1074 * val r ≤ val x * val y + 2 ^ (k + 2094) ∧ val x * val y ≤ 2 ^ 1074 * val r + 2 ^ (k + 2094) := by
  obtain ⟨s, m, i, ex, hi⟩ := fin_num hx
  obtain ⟨t, n, j, ey, hj⟩ := fin_num hy
  have hv : val x * val y = sgn (s ^^ t) (m * n * 2 ^ (i + j + 2148).toNat) := by
    unfold val
    rw [ex, ey]
    dsimp only
    rw [signed_sgn, signed_sgn, ← sgn_mul]
    congr 1
    rw [show (i + j + 2148).toNat = (i + 1074).toNat + (j + 1074).toNat by omega, Nat.pow_add]
    generalize 2 ^ (i + 1074).toNat = a
    generalize 2 ^ (j + 1074).toNat = b
    rw [Nat.mul_assoc m a, Nat.mul_left_comm a n b, ← Nat.mul_assoc m n]
  refine ⟨double.nearest (s ^^ t) (m * n) (i + j), ?_, ?_⟩
  · unfold Format.mul
    rw [ex, ey]
    rfl
  · rw [nearest_low (s ^^ t) (m * n) (i + j) (by omega)]
    have hlt : m * n * 2 ^ (i + j + 2148).toNat < 2 ^ (k + 2148) := by
      rw [hv] at h
      unfold sgn at h
      cases hs : (s ^^ t) <;> rw [hs] at h
      · simp only [Bool.false_eq_true, if_false, Int.natAbs_natCast] at h; exact h
      · simp only [if_true, Int.natAbs_neg, Int.natAbs_natCast] at h; exact h
    have := near_err (s ^^ t) hk hlt
    rw [← hv] at this
    exact this

/-! ## As fractions -/
def P74 : Int := 2 ^ 1074
def Pq : Rat := (P74 : Rat)
/-- The float as a fraction. -/
def rv (p : Nat) : Rat := (val p : Rat) / Pq
def bd (v B : Rat) : Prop := -B ≤ v ∧ v ≤ B
theorem Pq_pos : 0 < Pq := Rat.intCast_pos.2 (Int.pow_pos (by decide))
theorem rv_P (p : Nat) : rv p * Pq = (val p : Rat) := Rat.div_mul_cancel (Rat.ne_of_gt Pq_pos)
theorem pow_cast (k : Nat) : ((2 ^ (k + 1074) : Int) : Rat) = 2 ^ k * Pq := by
  unfold Pq P74
  rw [Int.pow_add, Rat.intCast_mul, Rat.intCast_pow]; rfl
theorem pow_cast2 (k : Nat) : ((2 ^ (k + 2094) : Int) : Rat) = 2 ^ k * (1 / 18014398509481984) * (Pq * Pq) := by
  have e : (2 ^ (k + 2094) * 18014398509481984 : Int) = 2 ^ k * (P74 * P74) := by
    unfold P74
    rw [show (18014398509481984 : Int) = 2 ^ 54 by decide, ← Int.pow_add, ← Int.pow_add, ← Int.pow_add]
  have e2 := congrArg (fun z : Int => (z : Rat)) e
  simp only [Rat.intCast_mul] at e2
  have e3 : ((2 ^ k : Int) : Rat) = 2 ^ k := by rw [Rat.intCast_pow]; rfl
  rw [e3] at e2
  show _ = 2 ^ k * (1 / 18014398509481984) * ((P74 : Rat) * (P74 : Rat))
  generalize ((2 ^ (k + 2094) : Int) : Rat) = X at *
  generalize (P74 : Rat) = Q at *
  generalize (2 : Rat) ^ k = K at *
  have e4 : ((18014398509481984 : Int) : Rat) = 18014398509481984 := rfl
  rw [e4] at e2
  grind
theorem abs_lt_cast {v : Int} {B : Int} (h1 : (v : Rat) < (B : Rat)) (h2 : -(B : Rat) < (v : Rat)) : v.natAbs < B.toNat := by
  have a := Rat.intCast_lt_intCast.1 h1
  rw [← Rat.intCast_neg] at h2
  have b := Rat.intCast_lt_intCast.1 h2
  omega
theorem scaled_le {a b P : Rat} (hP : 0 < P) (h : a * P ≤ b * P) : a ≤ b := Rat.le_of_mul_le_mul_right h hP
theorem scaled_lt {a b P : Rat} (hP : 0 < P) (h : a < b) : a * P < b * P := Rat.mul_lt_mul_of_pos_right h hP
/-- The half of a last place of numbers below 2^k. -/
def ulp (k : Nat) : Rat := 2 ^ k * (1 / 18014398509481984)
theorem toNat_pow (k : Nat) : ((2 : Int) ^ k).toNat = 2 ^ k := by
  have : ((2 : Int) ^ k) = ((2 ^ k : Nat) : Int) := by rw [Int.natCast_pow]; rfl
  rw [this]; rfl
theorem add_err {x y : Nat} (k : Nat) (hk : k ≤ 900) (hx : finB x = true) (hy : finB y = true) {B : Rat} (h : bd (rv x + rv y) B) (hB : B < 2 ^ k) :
    ∃ r, double.add x y = some r ∧ finB r = true ∧ r < 18446744073709551616 ∧ bd (rv r - (rv x + rv y)) (ulp k) := by
  have hxP := rv_P x
  have hyP := rv_P y
  have hP := Pq_pos
  have a1 : rv x + rv y < 2 ^ k := by have := h.2; grind
  have a2 : -(2 ^ k) < rv x + rv y := by have := h.1; grind
  have b1 := scaled_lt hP a1
  have b2 := scaled_lt hP a2
  have c := pow_cast k
  have hn : (val x + val y).natAbs < 2 ^ (k + 1074) := by
    have := abs_lt_cast (v := val x + val y) (B := 2 ^ (k + 1074)) (by rw [c, Rat.intCast_add]; grind) (by rw [c, Rat.intCast_add]; grind)
    rwa [toNat_pow] at this
  obtain ⟨r, e, hf, hw, u1, u2⟩ := add_units hk hx hy hn
  refine ⟨r, e, hf, hw, ?_⟩
  have hrP := rv_P r
  have v1 := Rat.intCast_le_intCast.2 u1
  have v2 := Rat.intCast_le_intCast.2 u2
  rw [Rat.intCast_add, Rat.intCast_mul, Rat.intCast_mul, Rat.intCast_add, pow_cast2] at v1
  rw [Rat.intCast_add, Rat.intCast_mul, Rat.intCast_mul, Rat.intCast_add, pow_cast2] at v2
  have eP : (((2 ^ 1074 : Int)) : Rat) = Pq := rfl
  rw [eP, ← hrP, ← hxP, ← hyP] at v1 v2
  have hPP : 0 < Pq * Pq := Rat.mul_pos hP hP
  unfold ulp
  constructor
  · refine scaled_le hPP ?_
    generalize Pq = P at *
    generalize (2 : Rat) ^ k = K at *
    grind
  · refine scaled_le hPP ?_
    generalize Pq = P at *
    generalize (2 : Rat) ^ k = K at *
    grind
theorem rv_flip {y : Nat} (h : y < 18446744073709551616) : rv (flipN y) = - rv y := by
  unfold rv
  rw [val_flip h, Rat.intCast_neg, Rat.div_def, Rat.neg_mul, ← Rat.div_def]
theorem sub_err {x y : Nat} (k : Nat) (hk : k ≤ 900) (hx : finB x = true) (hy : finB y = true) (hyw : y < 18446744073709551616) {B : Rat} (h : bd (rv x - rv y) B) (hB : B < 2 ^ k) :
    ∃ r, double.sub x y = some r ∧ finB r = true ∧ r < 18446744073709551616 ∧ bd (rv r - (rv x - rv y)) (ulp k) := by
  rw [sub_add hyw]
  have := add_err (x := x) (y := flipN y) k hk hx (by rw [fin_flip]; exact hy) (B := B) (by rw [rv_flip hyw, ← Rat.sub_eq_add_neg]; exact h) hB
  rwa [rv_flip hyw, ← Rat.sub_eq_add_neg] at this
theorem mul_err {x y : Nat} (k : Nat) (hk : k ≤ 900) (hx : finB x = true) (hy : finB y = true) {B : Rat} (h : bd (rv x * rv y) B) (hB : B < 2 ^ k) :
    ∃ r, double.mul x y = some r ∧ finB r = true ∧ r < 18446744073709551616 ∧ bd (rv r - rv x * rv y) (ulp k) := by
  have hxP := rv_P x
  have hyP := rv_P y
  have hP := Pq_pos
  have hPP : 0 < Pq * Pq := Rat.mul_pos hP hP
  have a1 : rv x * rv y < 2 ^ k := by have := h.2; grind
  have a2 : -(2 ^ k) < rv x * rv y := by have := h.1; grind
  have b1 := scaled_lt hPP a1
  have b2 := scaled_lt hPP a2
  have c : ((2 ^ (k + 2148) : Int) : Rat) = 2 ^ k * (Pq * Pq) := by
    rw [show k + 2148 = k + 1074 + 1074 by omega, Int.pow_add, Rat.intCast_mul, pow_cast, Rat.mul_assoc]; rfl
  have hn : (val x * val y).natAbs < 2 ^ (k + 2148) := by
    have := abs_lt_cast (v := val x * val y) (B := 2 ^ (k + 2148)) (by rw [c, Rat.intCast_mul, ← hxP, ← hyP]; grind) (by rw [c, Rat.intCast_mul, ← hxP, ← hyP]; grind)
    rwa [toNat_pow] at this
  obtain ⟨r, e, hf, hw, u1, u2⟩ := mul_units hk hx hy hn
  refine ⟨r, e, hf, hw, ?_⟩
  have hrP := rv_P r
  have v1 := Rat.intCast_le_intCast.2 u1
  have v2 := Rat.intCast_le_intCast.2 u2
  rw [Rat.intCast_add, Rat.intCast_mul, Rat.intCast_mul, pow_cast2] at v1
  rw [Rat.intCast_add, Rat.intCast_mul, Rat.intCast_mul, pow_cast2] at v2
  have eP : (((2 ^ 1074 : Int)) : Rat) = Pq := rfl
  rw [eP, ← hrP, ← hxP, ← hyP] at v1 v2
  unfold ulp
  constructor
  · refine scaled_le hPP ?_
    generalize Pq = P at *
    generalize (2 : Rat) ^ k = K at *
    grind
  · refine scaled_le hPP ?_
    generalize Pq = P at *
    generalize (2 : Rat) ^ k = K at *
    grind
end Go.Flt
end
section
/- Complex fractions: sums, bounds of their parts. Nothing of the program. -/
set_option linter.unusedVariables false
set_option maxRecDepth 100000
namespace Go.Qc
open Go.Flt

@[ext] structure Q2 where
  re : Rat
  im : Rat
instance : Add Q2 := ⟨fun a b => ⟨a.re + b.re, a.im + b.im⟩⟩
instance : Sub Q2 := ⟨fun a b => ⟨a.re - b.re, a.im - b.im⟩⟩
instance : Mul Q2 := ⟨fun a b => ⟨a.re * b.re - a.im * b.im, a.re * b.im + a.im * b.re⟩⟩
instance : Neg Q2 := ⟨fun a => ⟨-a.re, -a.im⟩⟩
def q0 : Q2 := ⟨0, 0⟩
def q1 : Q2 := ⟨1, 0⟩
def qi : Q2 := ⟨0, 1⟩
def bar (a : Q2) : Q2 := ⟨a.re, -a.im⟩
/-- Times a fraction. -/
def sc (c : Rat) (a : Q2) : Q2 := ⟨c * a.re, c * a.im⟩
@[simp] theorem add_re (a b : Q2) : (a + b).re = a.re + b.re := rfl
@[simp] theorem add_im (a b : Q2) : (a + b).im = a.im + b.im := rfl
@[simp] theorem sub_re (a b : Q2) : (a - b).re = a.re - b.re := rfl
@[simp] theorem sub_im (a b : Q2) : (a - b).im = a.im - b.im := rfl
@[simp] theorem mul_re (a b : Q2) : (a * b).re = a.re * b.re - a.im * b.im := rfl
@[simp] theorem mul_im (a b : Q2) : (a * b).im = a.re * b.im + a.im * b.re := rfl
@[simp] theorem neg_re (a : Q2) : (-a).re = -a.re := rfl
@[simp] theorem neg_im (a : Q2) : (-a).im = -a.im := rfl
@[simp] theorem bar_re (a : Q2) : (bar a).re = a.re := rfl
@[simp] theorem bar_im (a : Q2) : (bar a).im = -a.im := rfl
@[simp] theorem q0_re : q0.re = 0 := rfl
@[simp] theorem q0_im : q0.im = 0 := rfl
@[simp] theorem q1_re : q1.re = 1 := rfl
@[simp] theorem q1_im : q1.im = 0 := rfl
@[simp] theorem qi_re : qi.re = 0 := rfl
@[simp] theorem qi_im : qi.im = 1 := rfl
@[simp] theorem sc_re (c : Rat) (a : Q2) : (sc c a).re = c * a.re := rfl
@[simp] theorem sc_im (c : Rat) (a : Q2) : (sc c a).im = c * a.im := rfl
theorem mul_assoc (a b c : Q2) : a * b * c = a * (b * c) := by ext <;> simp <;> grind
theorem mul_comm (a b : Q2) : a * b = b * a := by ext <;> simp <;> grind
theorem mul_add (a b c : Q2) : a * (b + c) = a * b + a * c := by ext <;> simp <;> grind
theorem one_mul (a : Q2) : q1 * a = a := by ext <;> simp <;> grind
theorem mul_one (a : Q2) : a * q1 = a := by ext <;> simp <;> grind
theorem mul_zero (a : Q2) : a * q0 = q0 := by ext <;> simp <;> grind
theorem zero_add (a : Q2) : q0 + a = a := by ext <;> simp <;> grind
theorem add_zero (a : Q2) : a + q0 = a := by ext <;> simp <;> grind
theorem add_assoc (a b c : Q2) : a + b + c = a + (b + c) := by ext <;> simp <;> grind
theorem add_comm (a b : Q2) : a + b = b + a := by ext <;> simp <;> grind
theorem bar_mul (a b : Q2) : bar (a * b) = bar a * bar b := by ext <;> simp <;> grind
theorem bar_bar (a : Q2) : bar (bar a) = a := by ext <;> simp

/-! bounds of the parts -/
theorem bd_mul {a x A B : Rat} (ha : bd a A) (hx : bd x B) : bd (a * x) (A * B) := by
  have h1 := Rat.mul_nonneg (show 0 ≤ A - a by have := ha.2; grind) (show 0 ≤ B - x by have := hx.2; grind)
  have h2 := Rat.mul_nonneg (show 0 ≤ A + a by have := ha.1; grind) (show 0 ≤ B + x by have := hx.1; grind)
  have h3 := Rat.mul_nonneg (show 0 ≤ A - a by have := ha.2; grind) (show 0 ≤ B + x by have := hx.1; grind)
  have h4 := Rat.mul_nonneg (show 0 ≤ A + a by have := ha.1; grind) (show 0 ≤ B - x by have := hx.2; grind)
  unfold bd
  grind
theorem bd_nn {a A : Rat} (h : bd a A) : 0 ≤ A := by unfold bd at h; grind
theorem bd_mono {a A B : Rat} (h : bd a A) (hB : A ≤ B) : bd a B := by unfold bd at *; grind
theorem bd_add {a b A B : Rat} (ha : bd a A) (hb : bd b B) : bd (a + b) (A + B) := by unfold bd at *; grind
theorem bd_sub {a b A B : Rat} (ha : bd a A) (hb : bd b B) : bd (a - b) (A + B) := by unfold bd at *; grind
theorem bd_neg {a A : Rat} (ha : bd a A) : bd (-a) A := by unfold bd at *; grind
structure bq (z : Q2) (B : Rat) : Prop where
  r : bd z.re B
  i : bd z.im B
theorem bq.nn {z : Q2} {A : Rat} (h : bq z A) : 0 ≤ A := bd_nn h.r
theorem bq.mono {z : Q2} {A B : Rat} (h : bq z A) (hB : A ≤ B) : bq z B := ⟨bd_mono h.r hB, bd_mono h.i hB⟩
theorem bq.add {a b : Q2} {A B : Rat} (ha : bq a A) (hb : bq b B) : bq (a + b) (A + B) := ⟨bd_add ha.r hb.r, bd_add ha.i hb.i⟩
theorem bq.sub {a b : Q2} {A B : Rat} (ha : bq a A) (hb : bq b B) : bq (a - b) (A + B) := ⟨bd_sub ha.r hb.r, bd_sub ha.i hb.i⟩
theorem bq.neg {a : Q2} {A : Rat} (ha : bq a A) : bq (-a) A := ⟨bd_neg ha.r, bd_neg ha.i⟩
theorem bq.bar {a : Q2} {A : Rat} (ha : bq a A) : bq (bar a) A := ⟨ha.r, bd_neg ha.i⟩
theorem bq.zero : bq q0 0 := ⟨⟨by decide, by decide⟩, ⟨by decide, by decide⟩⟩
theorem bq.tri {a b c : Q2} {A B : Rat} (h1 : bq (a - b) A) (h2 : bq (b - c) B) : bq (a - c) (A + B) := by
  have := h1.add h2
  have e : a - b + (b - c) = a - c := by ext <;> simp <;> grind
  rwa [e] at this
theorem bq.swap {a b : Q2} {A : Rat} (h : bq (a - b) A) : bq (b - a) A := by
  have := h.neg
  have e : -(a - b) = b - a := by ext <;> simp <;> grind
  rwa [e] at this
theorem bq.of {a b : Q2} {A B : Rat} (h : bq (a - b) A) (hb : bq b B) : bq a (A + B) := by
  have := h.add hb
  have e : a - b + b = a := by ext <;> simp <;> grind
  rwa [e] at this
/-- The parts' sizes add up to C at most. -/
def n1 (w : Q2) (C : Rat) : Prop := ∃ α β, bd w.re α ∧ bd w.im β ∧ α + β ≤ C
theorem n1.mono {w : Q2} {C D : Rat} (h : n1 w C) (hC : C ≤ D) : n1 w D := by
  obtain ⟨α, β, h1, h2, h3⟩ := h
  exact ⟨α, β, h1, h2, Rat.le_trans h3 hC⟩
theorem n1.of {w : Q2} {B : Rat} (h : bq w B) : n1 w (B + B) := ⟨B, B, h.r, h.i, Rat.le_refl⟩
theorem n1.neg {w : Q2} {C : Rat} (h : n1 w C) : n1 (-w) C := by
  obtain ⟨α, β, h1, h2, h3⟩ := h
  exact ⟨α, β, bd_neg h1, bd_neg h2, h3⟩
theorem n1.bar {w : Q2} {C : Rat} (h : n1 w C) : n1 (bar w) C := by
  obtain ⟨α, β, h1, h2, h3⟩ := h
  exact ⟨α, β, h1, bd_neg h2, h3⟩
theorem bq_mul {w z : Q2} {C B : Rat} (hw : n1 w C) (hz : bq z B) : bq (w * z) (C * B) := by
  obtain ⟨α, β, h1, h2, h3⟩ := hw
  have hB := hz.nn
  have e : (α + β) * B ≤ C * B := Rat.mul_le_mul_of_nonneg_right h3 hB
  have e' : (α + β) * B = α * B + β * B := Rat.add_mul α β B
  constructor
  · exact bd_mono (bd_sub (bd_mul h1 hz.r) (bd_mul h2 hz.i)) (by grind)
  · exact bd_mono (bd_add (bd_mul h1 hz.i) (bd_mul h2 hz.r)) (by grind)
theorem bq_mul' {w z : Q2} {C B : Rat} (hw : n1 w C) (hz : bq z B) : bq (z * w) (C * B) := by rw [mul_comm]; exact bq_mul hw hz
def nsq (w : Q2) : Rat := w.re * w.re + w.im * w.im
theorem nsq_mul (a b : Q2) : nsq (a * b) = nsq a * nsq b := by unfold nsq; simp; grind
theorem nsq_bar (a : Q2) : nsq (bar a) = nsq a := by unfold nsq; simp; grind
theorem nsq_neg (a : Q2) : nsq (-a) = nsq a := by unfold nsq; simp; grind
theorem sq_nn (x : Rat) : 0 ≤ x * x := by
  by_cases h : 0 ≤ x
  · exact Rat.mul_nonneg h h
  · have h' : 0 ≤ -x := by grind
    have := Rat.mul_nonneg h' h'
    grind
theorem bd_sq {x : Rat} {B : Rat} (hB : 0 ≤ B) (h : x * x ≤ B * B) : bd x B := by
  constructor
  · apply Rat.not_lt.1
    intro hl
    have a : B < -x := by grind
    have := Rat.mul_pos (show 0 < -x - B by grind) (show 0 < -x + B by grind)
    grind
  · apply Rat.not_lt.1
    intro hl
    have := Rat.mul_pos (show 0 < x - B by grind) (show 0 < x + B by grind)
    grind
/-- A number within the circle of 1. -/
theorem unit_bq {w : Q2} (h : nsq w ≤ 1) : bq w 1 := by
  unfold nsq at h
  have a := sq_nn w.re
  have b := sq_nn w.im
  exact ⟨bd_sq (by decide) (by grind), bd_sq (by decide) (by grind)⟩
theorem ab_bd (x : Rat) : ∃ α, 0 ≤ α ∧ bd x α ∧ α * α = x * x := by
  by_cases h : 0 ≤ x
  · exact ⟨x, h, ⟨by grind, by grind⟩, rfl⟩
  · exact ⟨-x, by grind, ⟨by grind, by grind⟩, by grind⟩
theorem unit_n1 {w : Q2} (h : nsq w ≤ 1) : n1 w (3 / 2) := by
  obtain ⟨α, a0, a1, a2⟩ := ab_bd w.re
  obtain ⟨β, b0, b1, b2⟩ := ab_bd w.im
  refine ⟨α, β, a1, b1, ?_⟩
  unfold nsq at h
  rw [← a2, ← b2] at h
  have d := sq_nn (α - β)
  have hs : (α + β) * (α + β) ≤ (3 / 2) * (3 / 2) := by grind
  exact (bd_sq (by grind) hs).2

/-! sums -/
def qsum (f : Nat → Q2) : Nat → Q2
  | 0 => q0
  | n + 1 => qsum f n + f n
theorem qsum_congr {f g : Nat → Q2} : ∀ {n}, (∀ i, i < n → f i = g i) → qsum f n = qsum g n
  | 0, _ => rfl
  | n + 1, h => by
    unfold qsum
    rw [qsum_congr (fun i hi => h i (by omega)), h n (by omega)]
theorem qsum_add (f g : Nat → Q2) : ∀ n, qsum (fun i => f i + g i) n = qsum f n + qsum g n
  | 0 => by ext <;> simp [qsum] <;> grind
  | n + 1 => by
    unfold qsum
    rw [qsum_add f g n]
    ext <;> simp <;> grind
theorem qsum_sub (f g : Nat → Q2) : ∀ n, qsum (fun i => f i - g i) n = qsum f n - qsum g n
  | 0 => by ext <;> simp [qsum] <;> grind
  | n + 1 => by
    unfold qsum
    rw [qsum_sub f g n]
    ext <;> simp <;> grind
theorem qsum_neg (f : Nat → Q2) : ∀ n, qsum (fun i => - f i) n = - qsum f n
  | 0 => by ext <;> simp [qsum]
  | n + 1 => by
    unfold qsum
    rw [qsum_neg f n]
    ext <;> simp <;> grind
theorem qsum_mul (c : Q2) (f : Nat → Q2) : ∀ n, qsum (fun i => c * f i) n = c * qsum f n
  | 0 => (mul_zero c).symm
  | n + 1 => by
    unfold qsum
    rw [qsum_mul c f n, mul_add]
theorem qsum_mul' (c : Q2) (f : Nat → Q2) (n : Nat) : qsum (fun i => f i * c) n = qsum f n * c := by
  rw [mul_comm _ c, ← qsum_mul]
  exact qsum_congr fun i _ => mul_comm _ _
theorem qsum_zero : ∀ n, qsum (fun _ => q0) n = q0
  | 0 => rfl
  | n + 1 => by unfold qsum; rw [qsum_zero n, add_zero]
theorem qsum_exch (f : Nat → Nat → Q2) (m : Nat) : ∀ n, qsum (fun i => qsum (fun j => f i j) m) n = qsum (fun j => qsum (fun i => f i j) n) m
  | 0 => by
    show q0 = _
    rw [show (fun j => qsum (fun i => f i j) 0) = fun _ => q0 from rfl, qsum_zero]
  | n + 1 => by
    show qsum _ n + _ = _
    rw [qsum_exch f m n, ← qsum_add]
    rfl
theorem qsum_bd {f : Nat → Q2} {B : Rat} : ∀ {n : Nat}, (∀ i, i < n → bq (f i) B) → bq (qsum f n) (n * B)
  | 0, _ => by
    have : ((0 : Nat) : Rat) * B = 0 := by rw [show ((0 : Nat) : Rat) = 0 from rfl, Rat.zero_mul]
    rw [this]; exact bq.zero
  | n + 1, h => by
    have a := qsum_bd (n := n) (fun i hi => h i (by omega))
    have b := a.add (h n (by omega))
    have e : ((n + 1 : Nat) : Rat) * B = n * B + B := by rw [Rat.natCast_add, Rat.add_mul]; congr 1; exact Rat.one_mul B
    rw [e]; exact b
/-- Evens and odds. -/
theorem qsum_two (f : Nat → Q2) : ∀ n, qsum f (2 * n) = qsum (fun i => f (2 * i)) n + qsum (fun i => f (2 * i + 1)) n
  | 0 => by ext <;> simp [qsum] <;> grind
  | n + 1 => by
    rw [show 2 * (n + 1) = 2 * n + 1 + 1 by omega]
    show qsum f (2 * n) + f (2 * n) + f (2 * n + 1) = qsum (fun i => f (2 * i)) n + f (2 * n) + (qsum (fun i => f (2 * i + 1)) n + f (2 * n + 1))
    rw [qsum_two f n]
    ext <;> simp <;> grind
/-- The first half, then the rest. -/
theorem qsum_split (f : Nat → Q2) (a : Nat) : ∀ b, qsum f (a + b) = qsum f a + qsum (fun i => f (a + i)) b
  | 0 => (add_zero _).symm
  | b + 1 => by
    show qsum f (a + b) + f (a + b) = _ + (_ + _)
    rw [qsum_split f a b, add_assoc]
theorem qsum_one {f : Nat → Q2} {j : Nat} : ∀ {n : Nat}, j < n → (∀ i, i < n → i ≠ j → f i = q0) → qsum f n = f j
  | 0, h, _ => by omega
  | n + 1, h, hz => by
    show qsum f n + f n = _
    by_cases e : j = n
    · subst e
      rw [qsum_congr (g := fun _ => q0) (fun i hi => hz i (by omega) (by omega)), qsum_zero, zero_add]
    · rw [hz n (by omega) (fun h => e h.symm), add_zero]
      exact qsum_one (by omega) fun i hi hne => hz i (by omega) hne
end Go.Qc
end
section
/- Floats: how they stand to each other by their units; sums and products that are whole; the nearest whole number. Nothing of the program. -/
set_option linter.unusedVariables false
set_option maxRecDepth 100000
set_option exponentiation.threshold 3000
namespace Go.Flt
open Ieee

theorem val_read {p : Nat} {s : Bool} {m : Nat} {e : Int} (h : double.read p = .number s m e) : val p = sgn s (m * 2 ^ (e + 1074).toNat) := by
  unfold val
  rw [h]
  exact signed_sgn s m _
theorem compare_scale {a b : Int} {g : Nat} (hg : 0 < g) : compare (a * (g : Int)) (b * (g : Int)) = compare a b := by
  have hg' : (0 : Int) < (g : Int) := by omega
  rcases Int.lt_trichotomy a b with h | h | h
  · rw [Int.compare_eq_lt.2 h, Int.compare_eq_lt.2 (Int.mul_lt_mul_of_pos_right h hg')]
  · subst h; rw [Int.compare_eq_eq.2 rfl, Int.compare_eq_eq.2 rfl]
  · rw [Int.compare_eq_gt.2 h, Int.compare_eq_gt.2 (Int.mul_lt_mul_of_pos_right h hg')]
theorem order_val {x y : Nat} (hx : finB x = true) (hy : finB y = true) : double.order x y = some (compare (val x) (val y)) := by
  obtain ⟨s, m, i, ex, hi⟩ := fin_num hx
  obtain ⟨t, n, j, ey, hj⟩ := fin_num hy
  unfold Format.order
  rw [ex, ey]
  unfold Datum.order
  simp only [Option.some.injEq]
  rw [val_read ex, val_read ey, signed_sgn, signed_sgn]
  have e1 : (i + 1074).toNat = (i - min i j).toNat + (min i j + 1074).toNat := by omega
  have e2 : (j + 1074).toNat = (j - min i j).toNat + (min i j + 1074).toNat := by omega
  rw [e1, e2, sgn_pow, sgn_pow]
  have e3 : ((2 : Int) ^ (min i j + 1074).toNat) = ((2 ^ (min i j + 1074).toNat : Nat) : Int) := by rw [Int.natCast_pow]; rfl
  rw [e3]
  exact (compare_scale (Nat.two_pow_pos _)).symm
theorem order_lt {x y : Nat} (hx : finB x = true) (hy : finB y = true) (h : rv x < rv y) : double.order x y = some .lt := by
  rw [order_val hx hy]
  congr 1
  rw [Int.compare_eq_lt]
  have := scaled_lt Pq_pos h
  rw [rv_P, rv_P] at this
  exact Rat.intCast_lt_intCast.1 this
theorem order_eq {x y : Nat} (hx : finB x = true) (hy : finB y = true) (h : rv x = rv y) : double.order x y = some .eq := by
  rw [order_val hx hy]
  congr 1
  rw [Int.compare_eq_eq]
  have : rv x * Pq = rv y * Pq := by rw [h]
  rw [rv_P, rv_P] at this
  exact Rat.intCast_inj.1 this

/-! ## Whole numbers -/
theorem P74_eq : P74 = ((2 ^ 1074 : Nat) : Int) := by unfold P74; rw [Int.natCast_pow]; rfl
theorem isZ_fin {p : Nat} (h : isZ p) : finB p = true ∧ val p = 0 ∧ p < 18446744073709551616 := by
  rcases h with rfl | rfl
  · exact ⟨by decide, by decide, by decide⟩
  · exact ⟨by decide, by decide, by decide⟩
theorem fl_fin {v : Nat} (h : v < 9007199254740992) : finB (fl v) = true := by
  have := fl_bd h
  exact decide_eq_true (by rw [Nat.mod_eq_of_lt (by omega)]; omega)
theorem flI_lt {z : Int} (h : z.natAbs < 9007199254740992) : finB (flI z) = true ∧ flI z < 18446744073709551616 := by
  have := fl_bd h
  unfold flI
  split
  · exact ⟨decide_eq_true (by rw [Nat.add_mod_left, Nat.mod_eq_of_lt (by omega)]; omega), by omega⟩
  · exact ⟨fl_fin h, by omega⟩
theorem val_flI {z : Int} (h : z.natAbs < 9007199254740992) : val (flI z) = z * P74 := by
  by_cases h0 : z = 0
  · subst h0; rw [Int.zero_mul]; decide
  · have hl := log_le (v := z.natAbs) (by omega) h
    rw [val_read (read_int h0 h)]
    have e1 : z.natAbs * 2 ^ (52 - z.natAbs.log2) * 2 ^ ((z.natAbs.log2 : Int) - 52 + 1074).toNat = z.natAbs * 2 ^ 1074 := by
      rw [Nat.mul_assoc, ← Nat.pow_add]; congr 2; omega
    rw [e1, P74_eq]
    unfold sgn
    by_cases hz : z < 0
    · rw [decide_eq_true hz, if_pos rfl, Int.natCast_mul, ← Int.neg_mul]
      congr 1; omega
    · rw [decide_eq_false hz, if_neg (by decide), Int.natCast_mul]
      congr 1; omega
theorem isI_val {p : Nat} {z : Int} (h : z.natAbs < 9007199254740992) (hp : isI p z) : finB p = true ∧ p < 18446744073709551616 ∧ val p = z * P74 := by
  unfold isI at hp
  by_cases h0 : z = 0
  · rw [if_pos h0] at hp
    obtain ⟨a, b, c⟩ := isZ_fin hp
    subst h0
    exact ⟨a, c, by rw [b, Int.zero_mul]⟩
  · rw [if_neg h0] at hp
    subst hp
    obtain ⟨a, b⟩ := flI_lt h
    exact ⟨a, b, val_flI h⟩
theorem isI_rv {p : Nat} {z : Int} (h : z.natAbs < 9007199254740992) (hp : isI p z) : finB p = true ∧ p < 18446744073709551616 ∧ rv p = (z : Rat) := by
  obtain ⟨a, b, c⟩ := isI_val h hp
  refine ⟨a, b, ?_⟩
  unfold rv
  rw [c, Rat.intCast_mul]
  exact Rat.mul_div_cancel (Rat.ne_of_gt Pq_pos)
/-- What is written of a whole number of 2^-2148. -/
theorem nearest_whole {sg : Bool} {z : Int} (h : z.natAbs < 9007199254740992) {M : Nat} (hM : M = z.natAbs * 2 ^ 2148) (hs : z ≠ 0 → sg = decide (z < 0)) : isI (double.nearest sg M (-2148)) z := by
  by_cases h0 : z = 0
  · subst h0
    rw [isI_zero rfl, hM]
    simp only [Int.natAbs_zero, Nat.zero_mul]
    exact isZ_write sg (-2148)
  · rw [isI_of h0, hs h0, hM]
    have := nearest_scale (decide (z < 0)) (m := z.natAbs) (by omega) 0 2148
    rw [show (0 : Int) - ((2148 : Nat) : Int) = -2148 by omega] at this
    rw [this]
    exact write_int h
theorem sgn_eq {s : Bool} {m : Nat} {z : Int} {g : Nat} (hg : 0 < g) (h : sgn s m = z * (g : Int)) : m = z.natAbs * g ∧ (z ≠ 0 → s = decide (z < 0)) := by
  have hm : (sgn s m).natAbs = m := by
    unfold sgn
    cases s
    · simp only [Bool.false_eq_true, if_false, Int.natAbs_natCast]
    · simp only [if_true, Int.natAbs_neg, Int.natAbs_natCast]
  refine ⟨by rw [← hm, h, Int.natAbs_mul, Int.natAbs_natCast], fun h0 => ?_⟩
  have hg' : (0 : Int) < (g : Int) := by omega
  by_cases hz : z < 0
  · rw [decide_eq_true hz]
    have := Int.mul_lt_mul_of_pos_right hz hg'
    rw [← h, Int.zero_mul] at this
    unfold sgn at this
    cases s
    · simp only [Bool.false_eq_true, if_false] at this; omega
    · rfl
  · rw [decide_eq_false hz]
    have := Int.mul_lt_mul_of_pos_right (show 0 < z by omega) hg'
    rw [← h, Int.zero_mul] at this
    unfold sgn at this
    cases s
    · rfl
    · simp only [if_true] at this; omega
theorem add_exact {x y : Nat} {z : Int} (h : z.natAbs < 9007199254740992) (hx : finB x = true) (hy : finB y = true) (hv : val x + val y = z * P74) : ∃ r, double.add x y = some r ∧ isI r z := by
  obtain ⟨s, m, i, ex, hi⟩ := fin_num hx
  obtain ⟨t, n, j, ey, hj⟩ := fin_num hy
  obtain ⟨base, hb⟩ : ∃ b, b = min i j := ⟨_, rfl⟩
  obtain ⟨T, hT⟩ : ∃ T, T = signed s m (i - base).toNat + signed t n (j - base).toNat := ⟨_, rfl⟩
  have hv2 : val x + val y = T * 2 ^ (base + 1074).toNat := by
    rw [val_read ex, val_read ey, hT, Int.add_mul, signed_sgn, signed_sgn, ← sgn_pow, ← sgn_pow]
    congr 3 <;> congr 1 <;> omega
  refine ⟨double.nearest (if T = 0 then s && t else decide (T < 0)) T.natAbs base, ?_, ?_⟩
  · unfold Format.add
    rw [ex, ey]
    unfold Datum.sum
    simp only [← hb, ← hT]
    rfl
  · rw [nearest_low _ T.natAbs base (by omega)]
    have e1 : (base + 2148).toNat = (base + 1074).toNat + 1074 := by omega
    have hsg : sgn (if T = 0 then s && t else decide (T < 0)) (T.natAbs * 2 ^ (base + 2148).toNat) = z * ((2 ^ 2148 : Nat) : Int) := by
      rw [e1, sgn_pow]
      have := sgn_pow (if T = 0 then s && t else decide (T < 0)) T.natAbs 0 (base + 1074).toNat
      rw [Nat.zero_add, Nat.pow_zero, Nat.mul_one, sgn_abs] at this
      rw [this, ← hv2, hv, P74_eq, Int.mul_assoc]
      congr 1
    obtain ⟨a, b⟩ := sgn_eq (Nat.two_pow_pos 2148) hsg
    exact nearest_whole h a b
theorem sub_exact {x y : Nat} {z : Int} (h : z.natAbs < 9007199254740992) (hx : finB x = true) (hy : finB y = true) (hyw : y < 18446744073709551616) (hv : val x - val y = z * P74) : ∃ r, double.sub x y = some r ∧ isI r z := by
  rw [sub_add hyw]
  exact add_exact h hx (by rw [fin_flip]; exact hy) (by rw [val_flip hyw, ← Int.sub_eq_add_neg]; exact hv)
theorem mul_exact {x y : Nat} {z : Int} (h : z.natAbs < 9007199254740992) (hx : finB x = true) (hy : finB y = true) (hv : val x * val y = z * P74 * P74) : ∃ r, double.mul x y = some r ∧ isI r z := by
  obtain ⟨s, m, i, ex, hi⟩ := fin_num hx
  obtain ⟨t, n, j, ey, hj⟩ := fin_num hy
  have hv2 : val x * val y = sgn (s ^^ t) (m * n * 2 ^ (i + j + 2148).toNat) := by
    rw [val_read ex, val_read ey, ← sgn_mul]
    congr 1
    rw [show (i + j + 2148).toNat = (i + 1074).toNat + (j + 1074).toNat by omega, Nat.pow_add]
    generalize 2 ^ (i + 1074).toNat = a
    generalize 2 ^ (j + 1074).toNat = b
    rw [Nat.mul_assoc m a, Nat.mul_left_comm a n b, ← Nat.mul_assoc m n]
  refine ⟨double.nearest (s ^^ t) (m * n) (i + j), ?_, ?_⟩
  · unfold Format.mul
    rw [ex, ey]
    rfl
  · rw [nearest_low (s ^^ t) (m * n) (i + j) (by omega)]
    have hsg : sgn (s ^^ t) (m * n * 2 ^ (i + j + 2148).toNat) = z * ((2 ^ 2148 : Nat) : Int) := by
      rw [← hv2, hv, P74_eq, Int.mul_assoc]
      congr 1
    obtain ⟨a, b⟩ := sgn_eq (Nat.two_pow_pos 2148) hsg
    exact nearest_whole h a b

/-! ## The nearest whole number -/
/-- Rounded to the nearest whole number. -/
def rte (p : Nat) : Nat := double.write ((double.read p).integral .even)
theorem rte_near {p : Nat} {z : Int} (h : z.natAbs < 4503599627370496) (hp : finB p = true) (h1 : 2 * (val p - z * P74) < P74) (h2 : -P74 < 2 * (val p - z * P74)) : isI (rte p) z := by
  obtain ⟨s, m, e, er, he⟩ := fin_num hp
  rw [val_read er] at h1 h2
  unfold rte
  rw [er]
  unfold Datum.integral
  dsimp only
  obtain ⟨c, hc⟩ : ∃ c, c = Toward.even.cut s (m <<< e.toNat) (-e).toNat := ⟨_, rfl⟩
  rw [← hc]
  have hce := cut_err s (m <<< e.toNat) (-e).toNat
  rw [← hc, Nat.shiftLeft_eq] at hce
  have e1 : m * 2 ^ (e + 1074).toNat = m * 2 ^ e.toNat * 2 ^ (1074 - (-e).toNat) := by
    rw [Nat.mul_assoc, ← Nat.pow_add]; congr 2; omega
  have e2 : 2 ^ 1074 = 2 ^ (-e).toNat * 2 ^ (1074 - (-e).toNat) := by
    rw [← Nat.pow_add]; congr 1; omega
  have hg := Nat.two_pow_pos (1074 - (-e).toNat)
  have k1 := Nat.mul_le_mul_right (2 ^ (1074 - (-e).toNat)) hce.1
  have k2 := Nat.mul_le_mul_right (2 ^ (1074 - (-e).toNat)) hce.2
  have k3 : 2 * (c * 2 ^ 1074) ≤ 2 * (m * 2 ^ (e + 1074).toNat) + 2 ^ 1074 := by
    rw [e1]
    rw [Nat.add_mul, Nat.mul_assoc 2, Nat.mul_assoc 2, Nat.mul_assoc c, ← e2] at k1
    exact k1
  have k4 : 2 * (m * 2 ^ (e + 1074).toNat) ≤ 2 * (c * 2 ^ 1074) + 2 ^ 1074 := by
    rw [e1]
    rw [Nat.add_mul, Nat.mul_assoc 2, Nat.mul_assoc 2, Nat.mul_assoc c, ← e2] at k2
    exact k2
  rw [P74_eq] at h1 h2
  generalize m * 2 ^ (e + 1074).toNat = M at *
  have hP := Nat.two_pow_pos 1074
  generalize 2 ^ 1074 = P at *
  have hcz : c = z.natAbs ∧ (z ≠ 0 → s = decide (z < 0)) := by
    unfold sgn at h1 h2
    by_cases hz : z < 0
    · obtain ⟨w, hw⟩ : ∃ w : Nat, z = -(w : Int) := ⟨z.natAbs, by omega⟩
      subst hw
      have e3 : (-(w : Int)) * (P : Int) = -((w * P : Nat) : Int) := by rw [Int.neg_mul, Int.natCast_mul]
      rw [e3] at h1 h2
      have hw1 : P ≤ w * P := Nat.le_mul_of_pos_left _ (by omega)
      cases s
      · exfalso
        simp only [Bool.false_eq_true, if_false] at h1 h2
        generalize w * P = wP at *
        omega
      · simp only [if_true] at h1 h2
        refine ⟨?_, fun _ => by rw [decide_eq_true hz]⟩
        rw [Int.natAbs_neg, Int.natAbs_natCast]
        apply Nat.le_antisymm
        · apply Nat.le_of_not_lt
          intro hl
          have := Nat.mul_le_mul_right P (show w + 1 ≤ c by omega)
          rw [Nat.add_mul, Nat.one_mul] at this
          generalize w * P = wP at *
          generalize c * P = cP at *
          omega
        · apply Nat.le_of_not_lt
          intro hl
          have := Nat.mul_le_mul_right P (show c + 1 ≤ w by omega)
          rw [Nat.add_mul, Nat.one_mul] at this
          generalize w * P = wP at *
          generalize c * P = cP at *
          omega
    · obtain ⟨w, hw⟩ : ∃ w : Nat, z = (w : Int) := ⟨z.natAbs, by omega⟩
      subst hw
      have e3 : (w : Int) * (P : Int) = ((w * P : Nat) : Int) := by rw [Int.natCast_mul]
      rw [e3] at h1 h2
      rw [Int.natAbs_natCast]
      cases s
      · simp only [Bool.false_eq_true, if_false] at h1 h2
        refine ⟨?_, fun _ => by rw [decide_eq_false hz]⟩
        apply Nat.le_antisymm
        · apply Nat.le_of_not_lt
          intro hl
          have := Nat.mul_le_mul_right P (show w + 1 ≤ c by omega)
          rw [Nat.add_mul, Nat.one_mul] at this
          generalize w * P = wP at *
          generalize c * P = cP at *
          omega
        · apply Nat.le_of_not_lt
          intro hl
          have := Nat.mul_le_mul_right P (show c + 1 ≤ w by omega)
          rw [Nat.add_mul, Nat.one_mul] at this
          generalize w * P = wP at *
          generalize c * P = cP at *
          omega
      · simp only [if_true] at h1 h2
        have hw0 : w = 0 := by
          rcases Nat.eq_zero_or_pos w with h | h
          · exact h
          · exfalso
            have hw1 : P ≤ w * P := Nat.le_mul_of_pos_left _ h
            generalize w * P = wP at *
            omega
        subst hw0
        refine ⟨?_, fun h => absurd rfl h⟩
        rw [Nat.zero_mul] at h1 h2
        apply Nat.le_antisymm
        · apply Nat.le_of_not_lt
          intro hl
          have := Nat.mul_le_mul_right P (show 0 + 1 ≤ c by omega)
          rw [Nat.add_mul, Nat.one_mul, Nat.zero_mul] at this
          generalize c * P = cP at *
          omega
        · exact Nat.zero_le _
  obtain ⟨hcz1, hcz2⟩ := hcz
  rw [hcz1]
  by_cases h0 : z = 0
  · subst h0
    rw [isI_zero rfl]
    exact isZ_write s 0
  · rw [isI_of h0, hcz2 h0]
    exact write_int (by omega)
theorem rte_rv {p : Nat} {z : Int} (h : z.natAbs < 4503599627370496) (hp : finB p = true) (hb : bd (rv p - (z : Rat)) (1 / 4)) : isI (rte p) z := by
  have hP := Pq_pos
  have hr := rv_P p
  have eP : (P74 : Rat) = Pq := rfl
  refine rte_near h hp ?_ ?_
  · rw [← Rat.intCast_lt_intCast, Rat.intCast_mul, Rat.intCast_sub, Rat.intCast_mul, ← hr, eP]
    have e2 : ((2 : Int) : Rat) = 2 := rfl
    rw [e2]
    have := Rat.mul_lt_mul_of_pos_right (show rv p - (z : Rat) < 1 / 2 by have := hb.2; grind) hP
    grind
  · rw [← Rat.intCast_lt_intCast, Rat.intCast_mul, Rat.intCast_sub, Rat.intCast_mul, Rat.intCast_neg, ← hr, eP]
    have e2 : ((2 : Int) : Rat) = 2 := rfl
    rw [e2]
    have := Rat.mul_lt_mul_of_pos_right (show -(1 / 2) < rv p - (z : Rat) by have := hb.1; grind) hP
    grind
end Go.Flt
end
section
/- Scaling by a small power of two, in plain numbers; how near it is. Nothing of the program. -/
set_option linter.unusedVariables false
set_option maxRecDepth 100000
set_option exponentiation.threshold 3000
namespace Go.Flt
open Ieee

def B63 : Nat := 9223372036854775808
def B52 : Nat := 4503599627370496
/-- The exponent's bits. -/
def expo (f : Nat) : Nat := f / 4503599627370496 % 2048
/-- The exponent's bits replaced. -/
def setE (f E : Nat) : Nat := (f / 9223372036854775808 * 9223372036854775808 + f % 4503599627370496) ||| (E * 4503599627370496)
theorem and_top {f : Nat} (h : f < 18446744073709551616) : f &&& 2 ^ 63 = f / 2 ^ 63 * 2 ^ 63 := by
  rw [← Nat.shiftRight_eq_div_pow, ← Nat.shiftLeft_eq]
  apply Nat.eq_of_testBit_eq
  intro i
  rw [Nat.testBit_and, Nat.testBit_two_pow, Nat.testBit_shiftLeft, Nat.testBit_shiftRight]
  rcases Nat.lt_trichotomy i 63 with h1 | h1 | h1
  · simp [show ¬ 63 = i by omega, show ¬ i ≥ 63 by omega]
  · subst h1; simp
  · have e3 : f.testBit i = false := Nat.testBit_lt_two_pow (Nat.lt_of_lt_of_le h (Nat.pow_le_pow_right (n := 2) (by decide) (show 64 ≤ i by omega)))
    rw [show 63 + (i - 63) = i by omega, e3]; simp
theorem and_mask {f : Nat} (h : f < 18446744073709551616) : f &&& 9227875636482146303 = f / 9223372036854775808 * 9223372036854775808 + f % 4503599627370496 := by
  have e : (9227875636482146303 : Nat) = 2 ^ 63 ||| (2 ^ 52 - 1) := by decide
  rw [e, Nat.and_or_distrib_left, Nat.and_two_pow_sub_one_eq_mod, and_top h]
  have hl : f % 2 ^ 52 < 2 ^ 63 := Nat.lt_of_lt_of_le (Nat.mod_lt _ (Nat.two_pow_pos _)) (by decide)
  have := Nat.shiftLeft_add_eq_or_of_lt hl (f / 2 ^ 63)
  rw [Nat.shiftLeft_eq] at this
  exact this.symm
theorem setE_eq {f E : Nat} (hE : E < 2048) : setE f E = f / 9223372036854775808 * 9223372036854775808 + (E * 4503599627370496 + f % 4503599627370496) := by
  unfold setE
  have hf : f % 4503599627370496 < 2 ^ 52 := Nat.mod_lt _ (by decide)
  have h1 := Nat.shiftLeft_add_eq_or_of_lt (i := 63) (b := f % 4503599627370496) (Nat.lt_of_lt_of_le hf (by decide)) (f / 9223372036854775808)
  have h2 := Nat.shiftLeft_add_eq_or_of_lt hf E
  have h3 := Nat.shiftLeft_add_eq_or_of_lt (i := 63) (b := E * 4503599627370496 + f % 4503599627370496) (by
    have : f % 4503599627370496 < 4503599627370496 := Nat.mod_lt _ (by decide)
    show _ < 9223372036854775808
    omega) (f / 9223372036854775808)
  rw [Nat.shiftLeft_eq] at h1 h2 h3
  rw [show (2 : Nat) ^ 63 = 9223372036854775808 by decide] at h1 h3
  rw [show (2 : Nat) ^ 52 = 4503599627370496 by decide] at h2
  rw [h1, h3, h2, Nat.or_assoc, Nat.or_comm (f % _)]
theorem setE_lt {f E : Nat} (hf : f < 18446744073709551616) (hE : E < 2048) : setE f E < 18446744073709551616 := by
  rw [setE_eq hE]
  have : f % 4503599627370496 < 4503599627370496 := Nat.mod_lt _ (by decide)
  omega
theorem setE_fin {f E : Nat} (hf : f < 18446744073709551616) (hE : E < 2047) : finB (setE f E) = true := by
  rw [setE_eq (by omega)]
  have : f % 4503599627370496 < 4503599627370496 := Nat.mod_lt _ (by decide)
  exact decide_eq_true (by omega)
/-- A number by its sign, its exponent and the rest. -/
theorem val_parts {S E F : Nat} (hS : S < 2) (hE0 : 1 ≤ E) (hE : E < 2047) (hF : F < 4503599627370496) : val (S * 9223372036854775808 + (E * 4503599627370496 + F)) = (if S = 0 then 1 else -1) * (((4503599627370496 + F) * 2 ^ (E - 1) : Nat) : Int) := by
  have hx : E * 4503599627370496 + F < 9218868437227405312 := by omega
  have hv := val_norm hx (by omega)
  have e1 : (E * 4503599627370496 + F) % 4503599627370496 = F := by omega
  have e2 : ((-1074 : Int) + ((E * 4503599627370496 + F) / 4503599627370496 - 1 : Nat) + 1074).toNat = E - 1 := by omega
  rw [e1, e2] at hv
  rcases (by omega : S = 0 ∨ S = 1) with rfl | rfl
  · rw [Nat.zero_mul, Nat.zero_add, hv, if_pos rfl, Int.one_mul]
  · rw [Nat.one_mul, val_sign (by omega), hv, if_neg (by decide), Int.neg_mul, Int.one_mul]
theorem val_setE {f E : Nat} (hf : f < 18446744073709551616) (hE0 : 1 ≤ E) (hE : E < 2047) : val (setE f E) = (if f / 9223372036854775808 = 0 then 1 else -1) * (((4503599627370496 + f % 4503599627370496) * 2 ^ (E - 1) : Nat) : Int) := by
  rw [setE_eq (by omega)]
  exact val_parts (by omega) hE0 hE (Nat.mod_lt _ (by decide))
theorem parts_of {f : Nat} (hf : f < 18446744073709551616) : f = f / 9223372036854775808 * 9223372036854775808 + (expo f * 4503599627370496 + f % 4503599627370496) := by
  unfold expo; omega
theorem expo_lt (f : Nat) : expo f < 2048 := Nat.mod_lt _ (by decide)
theorem expo_fin {f : Nat} (h : finB f = true) : expo f < 2047 := by
  have h := of_decide_eq_true h
  unfold expo; omega
/-- The code's numbers: 1, 2^52, 2^-53. -/
def c52 : Nat := 4841369599423283200
def c53 : Nat := 4368491638549381120
def nrm (p : Nat) : Nat × Int := if expo p = 0 then ((double.mul p c52).getD 0, -52) else (p, 0)
/-- The sign of q, the rest of p. -/
def cpS (p q : Nat) : Nat := (p &&& 9223372036854775807) ||| (q &&& 9223372036854775808)
def ldR (m f : Nat) (e : Int) : Nat :=
  if -(m : Int) + e + ((expo f : Int) - 1023) < -1075 then cpS 0 f
  else if -(m : Int) + e + ((expo f : Int) - 1023) < -1022 then (double.mul c53 (setE f (-(m : Int) + e + ((expo f : Int) - 1023) + 53 + 1023).toNat)).getD 0
  else (double.mul one' (setE f (-(m : Int) + e + ((expo f : Int) - 1023) + 1023).toNat)).getD 0
def ldx (m p : Nat) : Nat := if p % 9223372036854775808 = 0 then p else ldR m (nrm p).1 (nrm p).2
theorem rv_one' : rv one' = 1 := by decide +kernel
theorem rv_c52 : rv c52 = 4503599627370496 := by decide +kernel
theorem rv_c53 : rv c53 = 1 / 9007199254740992 := by decide +kernel
theorem cast_pow' (s : Nat) : ((2 ^ s : Nat) : Rat) = 2 ^ s := by rw [Rat.natCast_pow]; rfl
theorem rv_of {p : Nat} {z : Int} (h : val p = z) : rv p = (z : Rat) / Pq := by unfold rv; rw [h]
theorem mul_get {c w k : Nat} (hk : k ≤ 900) (hc : finB c = true) (hw : finB w = true) {B v : Rat} (hv : rv c * rv w = v) (h : bd v B) (hB : B < 2 ^ k) : finB ((double.mul c w).getD 0) = true ∧ (double.mul c w).getD 0 < 18446744073709551616 ∧ bd (rv ((double.mul c w).getD 0) - v) (ulp k) := by
  obtain ⟨r, e, f, w', b⟩ := mul_err k hk hc hw (by rw [hv]; exact h) hB
  rw [e]
  rw [hv] at b
  exact ⟨f, w', b⟩
/-- A normal number scaled down. -/
theorem ldx_norm {m p k : Nat} (hm : m ≤ 12) (hk : k ≤ 900) (hp : p < 18446744073709551616) (hf : finB p = true) (hE : expo p ≠ 0) {B : Rat} (hB : bd (rv p / 2 ^ m) B) (hB2 : B < 2 ^ k) :
    finB (ldR m p 0) = true ∧ ldR m p 0 < 18446744073709551616 ∧ bd (rv (ldR m p 0) - rv p / 2 ^ m) (ulp k) := by
  have hE2 := expo_fin hf
  have hpp := parts_of hp
  have hvp : val p = (if p / 9223372036854775808 = 0 then 1 else -1) * (((4503599627370496 + p % 4503599627370496) * 2 ^ (expo p - 1) : Nat) : Int) := by
    have := val_parts (S := p / 9223372036854775808) (E := expo p) (F := p % 4503599627370496) (by omega) (by omega) hE2 (Nat.mod_lt _ (by decide))
    rwa [← hpp] at this
  have h2m : (2 : Rat) ^ m ≠ 0 := Rat.ne_of_gt (Rat.pow_pos (by decide))
  have key : ∀ (E j : Nat), 1 ≤ E → E < 2047 → E + m = expo p + j → rv (setE p E) = rv p / 2 ^ m * 2 ^ j := by
    intro E j h1 h2 h3
    have hv := val_setE hp h1 h2
    have : val (setE p E) * (2 ^ m : Nat) = val p * (2 ^ j : Nat) := by
      rw [hv, hvp, Int.mul_assoc, Int.mul_assoc, ← Int.natCast_mul, ← Int.natCast_mul, Nat.mul_assoc, Nat.mul_assoc, ← Nat.pow_add, ← Nat.pow_add, show E - 1 + m = expo p - 1 + j by omega]
    have h4 := congrArg (fun z : Int => (z : Rat)) this
    simp only [Rat.intCast_mul, Rat.intCast_natCast, cast_pow'] at h4
    rw [← rv_P, ← rv_P] at h4
    have hP := Rat.ne_of_gt Pq_pos
    generalize rv (setE p E) = a at *
    generalize rv p = b at *
    generalize (2 : Rat) ^ m = q at *
    generalize (2 : Rat) ^ j = t at *
    generalize Pq = P at *
    have : a * q = b * t := by
      have : (a * q) * P = (b * t) * P := by grind
      have := congrArg (· / P) this
      simp only [Rat.mul_div_cancel hP] at this
      exact this
    grind
  unfold ldR
  by_cases h1 : -(m : Int) + 0 + ((expo p : Int) - 1023) < -1022
  · rw [if_neg (by omega), if_pos h1]
    have e : (-(m : Int) + 0 + ((expo p : Int) - 1023) + 53 + 1023).toNat = expo p + 53 - m := by omega
    rw [e]
    have hk := key (expo p + 53 - m) 53 (by omega) (by omega) (by omega)
    exact mul_get (by omega) (by decide) (setE_fin hp (by omega)) (v := rv p / 2 ^ m) (by rw [rv_c53, hk]; have : (2 : Rat) ^ 53 = 9007199254740992 := by decide +kernel
                                                                                          rw [this]; generalize rv p / 2 ^ m = v; grind) hB hB2
  · rw [if_neg (by omega), if_neg h1]
    have e : (-(m : Int) + 0 + ((expo p : Int) - 1023) + 1023).toNat = expo p - m := by omega
    rw [e]
    have hk := key (expo p - m) 0 (by omega) (by omega) (by omega)
    exact mul_get (by omega) (by decide) (setE_fin hp (by omega)) (v := rv p / 2 ^ m) (by rw [rv_one', hk, Rat.pow_zero, Rat.mul_one, Rat.one_mul]) hB hB2
theorem bd_of_val {w j : Nat} (h : (val w).natAbs < 2 ^ j) {t : Rat} (ht : ((2 ^ j : Nat) : Rat) = t * Pq) : bd (rv w) t := by
  have hP := Pq_pos
  have h1 : val w < ((2 ^ j : Nat) : Int) := by omega
  have h2 : -((2 ^ j : Nat) : Int) < val w := by omega
  have k1 := Rat.intCast_lt_intCast.2 h1
  have k2 := Rat.intCast_lt_intCast.2 h2
  rw [Rat.intCast_natCast, ht, ← rv_P] at k1
  rw [Rat.intCast_neg, Rat.intCast_natCast, ht, ← rv_P] at k2
  constructor
  · refine scaled_le hP ?_; grind
  · refine scaled_le hP ?_; grind
theorem P_cast : Pq = ((2 ^ 1074 : Nat) : Rat) := by unfold Pq; rw [P74_eq]; rfl
/-- A number so small that its exponent's bits are 0. -/
theorem small_rv {p : Nat} (hp : p < 18446744073709551616) (hE : expo p = 0) : bd (rv p) (1 / 4503599627370496 / 4503599627370496 / 8) := by
  have hpp := parts_of hp
  rw [hE, Nat.zero_mul, Nat.zero_add] at hpp
  have hF : p % 4503599627370496 < 4503599627370496 := Nat.mod_lt _ (by decide)
  have hv : (val p).natAbs < 2 ^ 52 := by
    rcases (by omega : p / 9223372036854775808 = 0 ∨ p / 9223372036854775808 = 1) with h | h
    · rw [h, Nat.zero_mul, Nat.zero_add] at hpp
      rw [val_sub (by omega)]
      show p < 4503599627370496
      omega
    · rw [h, Nat.one_mul] at hpp
      rw [hpp, val_sign (by omega), val_sub hF, Int.natAbs_neg]
      exact hF
  have := bd_of_val (t := ((2 ^ 52 : Nat) : Rat) / Pq) hv (Rat.div_mul_cancel (Rat.ne_of_gt Pq_pos)).symm
  have hle : ((2 ^ 52 : Nat) : Rat) / Pq ≤ 1 / 4503599627370496 / 4503599627370496 / 8 := by rw [P_cast]; decide +kernel
  exact ⟨by have := this.1; grind, by have := this.2; grind⟩
theorem expo_small {f : Nat} (hf : f < 18446744073709551616) (hfin : finB f = true) (h : bd (rv f) (1 / 9007199254740992)) : expo f ≤ 970 := by
  apply Nat.le_of_not_lt
  intro hl
  have hE := expo_fin hfin
  have hpp := parts_of hf
  have hv := val_parts (S := f / 9223372036854775808) (E := expo f) (F := f % 4503599627370496) (by omega) (by omega) hE (Nat.mod_lt _ (by decide))
  rw [← hpp] at hv
  have hge : 2 ^ 1022 ≤ (val f).natAbs := by
    have e1 : (val f).natAbs = (4503599627370496 + f % 4503599627370496) * 2 ^ (expo f - 1) := by
      rw [hv, Int.natAbs_mul, Int.natAbs_natCast]
      split
      · exact Nat.one_mul _
      · exact Nat.one_mul _
    rw [e1]
    calc 2 ^ 1022 = 2 ^ 52 * 2 ^ 970 := by rw [← Nat.pow_add]
      _ ≤ _ := Nat.mul_le_mul (by omega) (Nat.pow_le_pow_right (by decide) (by omega))
  have hP := Pq_pos
  have hr := rv_P f
  have k : (1 / 4503599627370496) * Pq ≤ ((2 ^ 1022 : Nat) : Rat) := by rw [P_cast]; decide +kernel
  have m1 := Rat.mul_le_mul_of_nonneg_right h.2 (Rat.le_of_lt hP)
  have m2 := Rat.mul_le_mul_of_nonneg_right h.1 (Rat.le_of_lt hP)
  rw [hr] at m1 m2
  have hge2 := Rat.natCast_le_natCast.2 hge
  rcases Int.le_total 0 (val f) with h0 | h0
  · have e2 : ((val f).natAbs : Rat) = ((val f : Int) : Rat) := by rw [← Rat.intCast_natCast, Int.natAbs_of_nonneg h0]
    rw [e2] at hge2
    grind
  · have e2 : ((val f).natAbs : Rat) = -((val f : Int) : Rat) := by
      rw [← Rat.intCast_natCast, ← Rat.intCast_neg]
      congr 1; omega
    rw [e2] at hge2
    grind
theorem cpS_zero {f : Nat} (hf : f < 18446744073709551616) : isZ (cpS 0 f) := by
  unfold cpS
  rw [Nat.zero_and, Nat.zero_or, show (9223372036854775808 : Nat) = 2 ^ 63 by decide, and_top hf]
  rcases (by omega : f / 2 ^ 63 = 0 ∨ f / 2 ^ 63 = 1) with h | h <;> rw [h]
  · left; rfl
  · right; rfl
/-- What is very small stays so. -/
theorem ldR_small {m f : Nat} (hm : m ≤ 12) (hf : f < 18446744073709551616) (hfin : finB f = true) (h : bd (rv f) (1 / 9007199254740992)) :
    finB (ldR m f (-52)) = true ∧ ldR m f (-52) < 18446744073709551616 ∧ bd (rv (ldR m f (-52))) (1 / 4503599627370496) := by
  have hE := expo_small hf hfin h
  have hF : f % 4503599627370496 < 4503599627370496 := Nat.mod_lt _ (by decide)
  have key : ∀ E, 1 ≤ E → E ≤ 970 → bd (rv (setE f E)) (1 / 4503599627370496 * 2) := by
    intro E h1 h2
    have hv := val_setE hf h1 (by omega)
    have hl : (val (setE f E)).natAbs < 2 ^ 1023 := by
      have e1 : (val (setE f E)).natAbs = (4503599627370496 + f % 4503599627370496) * 2 ^ (E - 1) := by
        rw [hv, Int.natAbs_mul, Int.natAbs_natCast]
        split
        · exact Nat.one_mul _
        · exact Nat.one_mul _
      rw [e1]
      calc _ < 2 ^ 53 * 2 ^ (E - 1) := Nat.mul_lt_mul_of_pos_right (by omega) (Nat.two_pow_pos _)
        _ = 2 ^ (53 + (E - 1)) := (Nat.pow_add _ _ _).symm
        _ ≤ _ := Nat.pow_le_pow_right (by decide) (by omega)
    exact bd_of_val hl (by rw [P_cast]; decide +kernel)
  have hc53 : finB c53 = true := by decide
  have hone : finB one' = true := by decide
  have hu : ulp 0 = 1 / 18014398509481984 := by unfold ulp; decide +kernel
  unfold ldR
  by_cases h0 : -(m : Int) + -52 + ((expo f : Int) - 1023) < -1075
  · rw [if_pos h0]
    have hz := cpS_zero hf
    obtain ⟨a, b, c⟩ := isZ_fin hz
    refine ⟨a, c, ?_⟩
    have : rv (cpS 0 f) = 0 := by unfold rv; rw [b, Rat.intCast_zero, Rat.div_def, Rat.zero_mul]
    rw [this]
    exact ⟨by decide +kernel, by decide +kernel⟩
  · rw [if_neg h0]
    by_cases h1 : -(m : Int) + -52 + ((expo f : Int) - 1023) < -1022
    · rw [if_pos h1]
      obtain ⟨E, hE'⟩ : ∃ E, E = (-(m : Int) + -52 + ((expo f : Int) - 1023) + 53 + 1023).toNat := ⟨_, rfl⟩
      rw [← hE']
      have hk := key E (by omega) (by omega)
      obtain ⟨a, b, c⟩ := mul_get (c := c53) (w := setE f E) (k := 0) (B := 1 / 4503599627370496 / 4503599627370496) (by omega) hc53 (setE_fin hf (by omega)) rfl (by
        rw [rv_c53]
        constructor
        · have := hk.1; grind
        · have := hk.2; grind) (by decide +kernel)
      refine ⟨a, b, ?_⟩
      rw [rv_c53, hu] at c
      constructor
      · have := c.1; have := hk.1; grind
      · have := c.2; have := hk.2; grind
    · rw [if_neg h1]
      obtain ⟨E, hE'⟩ : ∃ E, E = (-(m : Int) + -52 + ((expo f : Int) - 1023) + 1023).toNat := ⟨_, rfl⟩
      rw [← hE']
      have hk : bd (rv (setE f E)) (1 / 18014398509481984) := by
        have hv := val_setE hf (show 1 ≤ E by omega) (show E < 2047 by omega)
        have hl : (val (setE f E)).natAbs < 2 ^ 1020 := by
          have e1 : (val (setE f E)).natAbs = (4503599627370496 + f % 4503599627370496) * 2 ^ (E - 1) := by
            rw [hv, Int.natAbs_mul, Int.natAbs_natCast]
            split
            · exact Nat.one_mul _
            · exact Nat.one_mul _
          rw [e1]
          calc _ < 2 ^ 53 * 2 ^ (E - 1) := Nat.mul_lt_mul_of_pos_right (by omega) (Nat.two_pow_pos _)
            _ = 2 ^ (53 + (E - 1)) := (Nat.pow_add _ _ _).symm
            _ ≤ _ := Nat.pow_le_pow_right (by decide) (by omega)
        exact bd_of_val hl (by rw [P_cast]; decide +kernel)
      obtain ⟨a, b, c⟩ := mul_get (c := one') (w := setE f E) (k := 0) (B := 1 / 18014398509481984) (by omega) hone (setE_fin hf (by omega)) rfl (by
        rw [rv_one', Rat.one_mul]; exact hk) (by decide +kernel)
      refine ⟨a, b, ?_⟩
      rw [rv_one', Rat.one_mul, hu] at c
      constructor
      · have := c.1; have := hk.1; grind
      · have := c.2; have := hk.2; grind
/-- A finite number scaled down. -/
theorem ldx_err {m p k : Nat} (hm : m ≤ 12) (hk : k ≤ 900) (hp : p < 18446744073709551616) (hf : finB p = true) {B : Rat} (hB : bd (rv p / 2 ^ m) B) (hB2 : B < 2 ^ k) :
    finB (ldx m p) = true ∧ ldx m p < 18446744073709551616 ∧ bd (rv (ldx m p) - rv p / 2 ^ m) (ulp k + 1 / 2251799813685248) := by
  have hul : 0 ≤ ulp k := Rat.le_of_lt (Rat.mul_pos (Rat.pow_pos (by decide)) (by decide +kernel))
  unfold ldx
  by_cases h0 : p % 9223372036854775808 = 0
  · rw [if_pos h0]
    have hz : isZ p := by
      unfold isZ; omega
    obtain ⟨a, b, c⟩ := isZ_fin hz
    refine ⟨a, c, ?_⟩
    have : rv p = 0 := by unfold rv; rw [b, Rat.intCast_zero, Rat.div_def, Rat.zero_mul]
    rw [this, Rat.div_def, Rat.zero_mul]
    constructor <;> grind
  · rw [if_neg h0]
    unfold nrm
    by_cases hE : expo p = 0
    · rw [if_pos hE]
      have hs := small_rv hp hE
      have h52 : finB c52 = true := by decide
      have hu : ulp 0 = 1 / 18014398509481984 := by unfold ulp; decide +kernel
      obtain ⟨a, b, c⟩ := mul_get (c := p) (w := c52) (k := 0) (B := 1 / 4503599627370496) (by omega) hf h52 rfl (by
        rw [rv_c52]
        constructor
        · have := hs.1; grind
        · have := hs.2; grind) (by decide +kernel)
      have hfb : bd (rv ((double.mul p c52).getD 0)) (1 / 9007199254740992) := by
        have hs' : bd (rv p * rv c52) (1 / 4503599627370496 / 8) := by
          rw [rv_c52]
          constructor
          · have := hs.1; grind
          · have := hs.2; grind
        rw [hu] at c
        constructor
        · have := c.1; have := hs'.1; grind
        · have := c.2; have := hs'.2; grind
      obtain ⟨x, y, z⟩ := ldR_small hm b a hfb
      refine ⟨x, y, ?_⟩
      have hq : (1 : Rat) ≤ 2 ^ m := by
        rw [← cast_pow']
        have : ((1 : Nat) : Rat) ≤ ((2 ^ m : Nat) : Rat) := Rat.natCast_le_natCast.2 (Nat.two_pow_pos m)
        exact this
      have hpm : bd (rv p / 2 ^ m) (1 / 4503599627370496 / 4503599627370496) := by
        have h2m : 0 < (2 : Rat) ^ m := Rat.pow_pos (by decide)
        have e : rv p / 2 ^ m * 2 ^ m = rv p := Rat.div_mul_cancel (Rat.ne_of_gt h2m)
        have g := Rat.mul_le_mul_of_nonneg_left hq (show 0 ≤ (1 : Rat) / 4503599627370496 / 4503599627370496 by decide +kernel)
        constructor
        · refine scaled_le h2m ?_
          rw [e]; have := hs.1; grind
        · refine scaled_le h2m ?_
          rw [e]; have := hs.2; grind
      constructor
      · have := z.1; have := hpm.2; grind
      · have := z.2; have := hpm.1; grind
    · rw [if_neg hE]
      obtain ⟨a, b, c⟩ := ldx_norm hm hk hp hf hE hB hB2
      exact ⟨a, b, by have := c.1; grind, by have := c.2; grind⟩
end Go.Flt
end
section
/- Scaling by a small power of two, walked at any finite number. %compact -/
set_option linter.unusedVariables false
set_option maxRecDepth 100000
set_option exponentiation.threshold 3000
namespace Go.Proofs.YthecbhegjdcjfaaDoor
open Go.Pen Go.Flt Go.Wav

/-- Without its sign. -/
def abF (p : Nat) : Nat := p % 9223372036854775808
theorem abF_lt (p : Nat) : abF p < 9223372036854775808 := Nat.mod_lt _ (by decide)
theorem andnot_ab {x : Nat} (h : x < 18446744073709551616) : bits .andNot .u64 (x : Int) 9223372036854775808 = ((abF x : Nat) : Int) :=
  (u64_andNot_nat x 9223372036854775808 h (by decide)).trans (congrArg Nat.cast (Nat.and_two_pow_sub_one_eq_mod x 63))
set_option maxHeartbeats 1000000 in
theorem AbsG_fn (x : Nat) (h : x < 18446744073709551616) (w : World) : Does Tryd.prog 54 #[.float .f64 x] [] w fun r Γ => r = .float .f64 (abF x) ∧ Γ = [] := by
  refine Does.enter Tryd.func54 rfl Tryd.ntmps54 rfl (St.start w) ?_
  repeat' (first | refine Fin.tail ?_ | refine Fin.then_normal ?_ | refine Fin.then_exit ?_ | refine Fin.then_ret ?_ | refine Fin.block_normal ?_ | refine Fin.block_ret ?_ | refine Fin.block_hit ?_ | refine Fin.block_miss rfl ?_ | refine Fin.loop_exit ?_ | refine Fin.loop_ret ?_ | refine WP.seq ?_ | (refine WP.regionQ (by kernel_rfl) (by kernel_rfl) ?_) | refine WP.block ?_ | refine WP.region ?_ | refine WP.skip ?_ | refine WP.exit ?_ | refine WP.ret ?_ | refine WP.label ?_ | refine WP.cond_true rfl ?_ | refine WP.cond_false rfl ?_ | (refine WP.cond_dec rfl (fun h => ?_) (fun h => ?_) <;> (try (exfalso; omega))) | (refine WP.cond_bool rfl (fun h => ?_) (fun h => ?_)) | refine WL.nil ?_ | refine WL.cons ?_ | (show OP _ _ _ _ _ _ _ ⟨_, .move _, _, _, _, none⟩ _ _; first | refine OP.mI rfl rfl ?_ | refine OP.mB rfl rfl ?_ | refine OP.mC rfl rfl ?_ | refine OP.mF rfl rfl ?_ | refine OP.mS rfl rfl ?_ | refine OP.mP rfl rfl ?_ | refine OP.mA rfl rfl ?_ | refine OP.mT rfl rfl ?_ | refine OP.mM rfl rfl ?_ | refine OP.mU rfl rfl ?_ | refine OP.move rfl rfl ?_) | (show OP _ _ _ _ _ _ _ ⟨_, .assign _, _, _, _, none⟩ _ _; first | refine OP.aI rfl rfl ?_ | refine OP.aB rfl rfl ?_ | refine OP.aC rfl rfl ?_ | refine OP.aF rfl rfl ?_ | refine OP.aS rfl rfl ?_ | refine OP.aP rfl rfl ?_ | refine OP.aA rfl rfl ?_ | refine OP.aT rfl rfl ?_ | refine OP.aM rfl rfl ?_ | refine OP.aU rfl rfl ?_ | refine OP.assign rfl rfl ?_) | (show OP _ _ _ _ _ _ _ ⟨_, .call _, _, _, _, none⟩ _ _; first | refine OP.callx (f := 37) (.int .u64 x) rfl rfl (fun w => by exact bits_bits x w) ?_ | refine OP.callx (f := 36) (.float .f64 (abF x)) rfl rfl (fun w => by exact bits_frombits _ w) ?_) | refine OP.bitop (r := (abF x : Int)) (.inr (.inr (.inr rfl))) rfl rfl rfl (andnot_ab h) ?_)
  all_goals refine Fin.ret1 (h0 := .inl rfl) rfl rfl ?_
  exact ⟨rfl, rfl⟩
theorem abF_fin {p : Nat} (h : finB p = true) : finB (abF p) = true := by
  have := of_decide_eq_true h
  exact decide_eq_true (by unfold abF; rw [Nat.mod_mod]; exact this)
theorem val_abF {p : Nat} (hp : p < 18446744073709551616) : val (abF p) = ((val p).natAbs : Int) := by
  rcases Nat.lt_or_ge p 9223372036854775808 with h | h
  · have e : abF p = p := Nat.mod_eq_of_lt h
    rw [e]
    have : 0 ≤ val p := by
      unfold val
      unfold Ieee.Format.read
      rw [sw, bn, ir, lp]
      have e1 : p / 9223372036854775808 % 2 = 0 := by omega
      simp only [e1]
      split
      · rename_i h1
        split at h1
        · injection h1 with h2 h3 h4; subst h2; exact Int.natCast_nonneg _
        · split at h1
          · injection h1 with h2 h3 h4; subst h2; exact Int.natCast_nonneg _
          · split at h1 <;> cases h1
      · exact Int.le_refl _
    omega
  · obtain ⟨q, rfl⟩ : ∃ q, p = 9223372036854775808 + q := ⟨p - 9223372036854775808, by omega⟩
    have hq : q < 9223372036854775808 := by omega
    have e : abF (9223372036854775808 + q) = q := by unfold abF; omega
    rw [e, val_sign hq, Int.natAbs_neg]
    have : 0 ≤ val q := by
      unfold val
      unfold Ieee.Format.read
      rw [sw, bn, ir, lp]
      have e1 : q / 9223372036854775808 % 2 = 0 := by omega
      simp only [e1]
      split
      · rename_i h1
        split at h1
        · injection h1 with h2 h3 h4; subst h2; exact Int.natCast_nonneg _
        · split at h1
          · injection h1 with h2 h3 h4; subst h2; exact Int.natCast_nonneg _
          · split at h1 <;> cases h1
      · exact Int.le_refl _
    omega
theorem abF_val {p : Nat} (hf : finB p = true) : val (abF p) = if expo p = 0 then ((abF p : Nat) : Int) else (((4503599627370496 + p % 4503599627370496) * 2 ^ (expo p - 1) : Nat) : Int) := by
  have hfa := of_decide_eq_true (abF_fin hf)
  have hl := abF_lt p
  by_cases hE : expo p = 0
  · rw [if_pos hE, val_sub]
    unfold abF expo at *; omega
  · rw [if_neg hE, val_norm (by unfold abF at *; omega) (by unfold abF expo at *; omega)]
    have e1 : abF p % 4503599627370496 = p % 4503599627370496 := by unfold abF; omega
    have e2 : ((-1074 : Int) + (abF p / 4503599627370496 - 1 : Nat) + 1074).toNat = expo p - 1 := by unfold abF expo; omega
    rw [e1, e2]
def VM : Nat := 9007199254740991 * 2 ^ 2045
theorem val_max : val 9218868437227405311 = (VM : Int) := by decide +kernel
theorem VM_ge {E F : Nat} (hE : E < 2047) (hF : F < 4503599627370496) : (4503599627370496 + F) * 2 ^ (E - 1) ≤ VM := by
  unfold VM
  exact Nat.mul_le_mul (by omega) (Nat.pow_le_pow_right (by decide) (by omega))
theorem VM_big : 4503599627370496 ≤ VM := by decide +kernel
theorem val_B52 : val 4503599627370496 = 4503599627370496 := by decide +kernel
theorem abF_max {p : Nat} (hf : finB p = true) : val (abF p) ≤ (VM : Int) := by
  rw [abF_val hf]
  split
  · rename_i h0
    have hl : abF p < 4503599627370496 := by
      have := of_decide_eq_true hf
      unfold abF expo at *; omega
    have := VM_big
    omega
  · exact Int.ofNat_le.2 (VM_ge (expo_fin hf) (Nat.mod_lt _ (by decide)))
theorem cmp_le {o : Option Ordering} {X Y : Int} (ho : o = some (compare X Y)) (hle : X ≤ Y) : (o == some Ordering.gt) = false := by
  subst ho
  have hc : compare X Y ≠ .gt := by
    intro hc
    rw [Int.compare_eq_gt] at hc; omega
  cases hcc : compare X Y with
  | lt => rfl
  | eq => rfl
  | gt => exact absurd hcc hc
theorem max_le {p : Nat} (hf : finB p = true) : val (abF p) ≤ val 9218868437227405311 := Int.le_trans (abF_max hf) (Int.le_of_eq val_max.symm)
theorem not_inf {p : Nat} (hf : finB p = true) : (Ieee.double.order (abF p) 9218868437227405311 == some .gt) = false :=
  cmp_le (order_val (abF_fin hf) (by decide)) (max_le hf)
theorem self_eq {p : Nat} (hf : finB p = true) : Ieee.double.order p p = some .eq := by
  rw [order_val hf hf, Int.compare_eq_eq.2 rfl]
theorem order_ltv {x y : Nat} (hx : finB x = true) (hy : finB y = true) (h : val x < val y) : Ieee.double.order x y = some .lt := by
  rw [order_val hx hy, Int.compare_eq_lt.2 h]
theorem cmp_ge {o : Option Ordering} {X Y : Int} (ho : o = some (compare X Y)) (hle : Y ≤ X) : (o == some Ordering.lt) = false := by
  subst ho
  have hc : compare X Y ≠ .lt := by
    intro hc
    rw [Int.compare_eq_lt] at hc; omega
  cases hcc : compare X Y with
  | lt => exact absurd hcc hc
  | eq => rfl
  | gt => rfl
theorem norm_lt {p : Nat} (hf : finB p = true) (hE : expo p = 0) : Ieee.double.order (abF p) 4503599627370496 = some .lt := by
  have h2 : val (abF p) = ((abF p : Nat) : Int) := by rw [abF_val hf, if_pos hE]
  have h3 : ((abF p : Nat) : Int) < 4503599627370496 := by
    have := of_decide_eq_true hf
    unfold abF expo at *; omega
  exact order_ltv (abF_fin hf) (by decide) (Int.lt_of_le_of_lt (Int.le_of_eq h2) (Int.lt_of_lt_of_le h3 (Int.le_of_eq val_B52.symm)))
theorem norm_ge {p : Nat} (hf : finB p = true) (hE : expo p ≠ 0) : (Ieee.double.order (abF p) 4503599627370496 == some .lt) = false := by
  have h2 : val (abF p) = (((4503599627370496 + p % 4503599627370496) * 2 ^ (expo p - 1) : Nat) : Int) := by rw [abF_val hf, if_neg hE]
  have hle : (4503599627370496 : Int) ≤ (((4503599627370496 + p % 4503599627370496) * 2 ^ (expo p - 1) : Nat) : Int) := by
    have := Nat.mul_le_mul (show 4503599627370496 ≤ 4503599627370496 + p % 4503599627370496 by omega) (Nat.two_pow_pos (expo p - 1))
    rw [Nat.mul_one] at this
    exact Int.ofNat_le.2 this
  exact cmp_ge (order_val (abF_fin hf) (by decide)) (Int.le_trans (Int.le_of_eq val_B52) (Int.le_trans hle (Int.le_of_eq h2.symm)))
theorem not_zero {p : Nat} (hp : p < 18446744073709551616) (hf : finB p = true) (h0 : p % 9223372036854775808 ≠ 0) : (Ieee.double.order p 0 == some .eq) = false := by
  rw [order_val hf (by decide), show val 0 = 0 by decide]
  have hne : val p ≠ 0 := by
    intro h
    have h1 := val_abF hp
    rw [h, abF_val hf] at h1
    split at h1
    · have : abF p = p % 9223372036854775808 := rfl
      omega
    · have := Nat.mul_pos (show 0 < 4503599627370496 + p % 4503599627370496 by omega) (Nat.two_pow_pos (expo p - 1))
      omega
  have hc : compare (val p) 0 ≠ .eq := by
    intro hc
    rw [Int.compare_eq_eq] at hc; exact hne hc
  cases hcc : compare (val p) 0 with
  | lt => rfl
  | eq => exact absurd hcc hc
  | gt => rfl
theorem is_zero {p : Nat} (hp : p < 18446744073709551616) (h0 : p % 9223372036854775808 = 0) : (Ieee.double.order p 0 == some .eq) = true := by
  rcases (by omega : p = 0 ∨ p = 9223372036854775808) with rfl | rfl <;> decide
section
variable (p : Nat) (hp : p < 18446744073709551616) (hf : finB p = true)
include hp hf
set_option maxHeartbeats 1000000 in
theorem isInfG_fn (w : World) : Does Tryd.prog 69 #[.float .f64 p, .int .i64 0] [] w fun r Γ => r = .bool false ∧ Γ = [] := by
  have h := not_inf hf
  refine Does.enter Tryd.func69 rfl Tryd.ntmps69 rfl (St.start w) ?_
  repeat' (first | refine Fin.tail ?_ | refine Fin.then_normal ?_ | refine Fin.then_exit ?_ | refine Fin.then_ret ?_ | refine Fin.block_normal ?_ | refine Fin.block_ret ?_ | refine Fin.block_hit ?_ | refine Fin.block_miss rfl ?_ | refine Fin.loop_exit ?_ | refine Fin.loop_ret ?_ | refine WP.seq ?_ | (refine WP.regionQ (by kernel_rfl) (by kernel_rfl) ?_) | refine WP.block ?_ | refine WP.region ?_ | refine WP.skip ?_ | refine WP.exit ?_ | refine WP.ret ?_ | refine WP.label ?_ | refine WP.cond_true rfl ?_ | refine WP.cond_false rfl ?_ | (refine WP.cond_dec rfl (fun h => ?_) (fun h => ?_) <;> (try (exfalso; omega))) | (refine WP.cond_bool rfl (fun h => ?_) (fun h => ?_)) | refine WL.nil ?_ | refine WL.cons ?_ | (show OP _ _ _ _ _ _ _ ⟨_, .move _, _, _, _, none⟩ _ _; first | refine OP.mI rfl rfl ?_ | refine OP.mB rfl rfl ?_ | refine OP.mC rfl rfl ?_ | refine OP.mF rfl rfl ?_ | refine OP.mS rfl rfl ?_ | refine OP.mP rfl rfl ?_ | refine OP.mA rfl rfl ?_ | refine OP.mT rfl rfl ?_ | refine OP.mM rfl rfl ?_ | refine OP.mU rfl rfl ?_ | refine OP.move rfl rfl ?_) | (show OP _ _ _ _ _ _ _ ⟨_, .assign _, _, _, _, none⟩ _ _; first | refine OP.aI rfl rfl ?_ | refine OP.aB rfl rfl ?_ | refine OP.aC rfl rfl ?_ | refine OP.aF rfl rfl ?_ | refine OP.aS rfl rfl ?_ | refine OP.aP rfl rfl ?_ | refine OP.aA rfl rfl ?_ | refine OP.aT rfl rfl ?_ | refine OP.aM rfl rfl ?_ | refine OP.aU rfl rfl ?_ | refine OP.assign rfl rfl ?_) | refine OP.callq _ rfl (fun w _ => AbsG_fn p hp w) (fun _ _ h => h.1) ?_ | (show OP _ _ _ _ _ _ _ ⟨_, .binOp _ _ _ _ _, _, _, _, none⟩ _ _; first | refine OP.fcmpK (r := false) _ rfl rfl rfl rfl (by rw [h]) ?_ | refine OP.lss rfl rfl rfl ?_ | refine OP.eql rfl rfl rfl ?_ | refine OP.gtr rfl rfl rfl ?_ | refine OP.eql2 rfl rfl rfl ?_ | refine OP.eqd rfl rfl rfl ?_ | refine OP.eqlb rfl rfl rfl ?_) | (show OP _ _ _ _ _ _ _ ⟨_, .unOp _ _ _, _, _, _, none⟩ _ _; first | refine OP.notd rfl rfl ?_ | refine OP.not rfl rfl ?_ | (refine OP.neg rfl rfl ?_ ?_ ?_; omega; omega)))
  all_goals refine Fin.ret1 (h0 := .inl rfl) rfl rfl ?_
  exact ⟨rfl, rfl⟩
omit hp in
set_option maxHeartbeats 1000000 in
theorem isNaNG_fn (w : World) : Does Tryd.prog 70 #[.float .f64 p] [] w fun r Γ => r = .bool false ∧ Γ = [] := by
  have h := self_eq hf
  refine Does.enter Tryd.func70 rfl Tryd.ntmps70 rfl (St.start w) ?_
  repeat' (first | refine Fin.tail ?_ | refine Fin.then_normal ?_ | refine Fin.then_exit ?_ | refine Fin.then_ret ?_ | refine Fin.block_normal ?_ | refine Fin.block_ret ?_ | refine Fin.block_hit ?_ | refine Fin.block_miss rfl ?_ | refine Fin.loop_exit ?_ | refine Fin.loop_ret ?_ | refine WP.seq ?_ | (refine WP.regionQ (by kernel_rfl) (by kernel_rfl) ?_) | refine WP.block ?_ | refine WP.region ?_ | refine WP.skip ?_ | refine WP.exit ?_ | refine WP.ret ?_ | refine WP.label ?_ | refine WP.cond_true rfl ?_ | refine WP.cond_false rfl ?_ | (refine WP.cond_dec rfl (fun h => ?_) (fun h => ?_) <;> (try (exfalso; omega))) | (refine WP.cond_bool rfl (fun h => ?_) (fun h => ?_)) | refine WL.nil ?_ | refine WL.cons ?_ | (show OP _ _ _ _ _ _ _ ⟨_, .move _, _, _, _, none⟩ _ _; first | refine OP.mI rfl rfl ?_ | refine OP.mB rfl rfl ?_ | refine OP.mC rfl rfl ?_ | refine OP.mF rfl rfl ?_ | refine OP.mS rfl rfl ?_ | refine OP.mP rfl rfl ?_ | refine OP.mA rfl rfl ?_ | refine OP.mT rfl rfl ?_ | refine OP.mM rfl rfl ?_ | refine OP.mU rfl rfl ?_ | refine OP.move rfl rfl ?_) | (show OP _ _ _ _ _ _ _ ⟨_, .assign _, _, _, _, none⟩ _ _; first | refine OP.aI rfl rfl ?_ | refine OP.aB rfl rfl ?_ | refine OP.aC rfl rfl ?_ | refine OP.aF rfl rfl ?_ | refine OP.aS rfl rfl ?_ | refine OP.aP rfl rfl ?_ | refine OP.aA rfl rfl ?_ | refine OP.aT rfl rfl ?_ | refine OP.aM rfl rfl ?_ | refine OP.aU rfl rfl ?_ | refine OP.assign rfl rfl ?_) | (show OP _ _ _ _ _ _ _ ⟨_, .binOp _ _ _ _ _, _, _, _, none⟩ _ _; first | refine OP.fcmpK (r := false) _ rfl rfl rfl rfl (by rw [h]; rfl) ?_ | refine OP.neq rfl rfl rfl ?_ | refine OP.neq2 rfl rfl rfl ?_ | refine OP.neqd rfl rfl rfl ?_))
  all_goals refine Fin.ret1 (h0 := .inl rfl) rfl rfl ?_
  exact ⟨rfl, rfl⟩
set_option maxHeartbeats 1000000 in
theorem normG_fn (w : World) : Does Tryd.prog 71 #[.float .f64 p] [] w fun r Γ => r = .tuple #[.float .f64 (nrm p).1, .int .i64 (nrm p).2] ∧ Γ = [] := by
  by_cases hE : expo p = 0
  · have h := norm_lt hf hE
    have hs := small_rv hp hE
    obtain ⟨r, e, _, _, _⟩ := mul_err (x := p) (y := c52) 0 (by decide) hf (by decide) (B := 1 / 4503599627370496) (by
      rw [rv_c52]
      constructor
      · have := hs.1; grind
      · have := hs.2; grind) (by decide +kernel)
    have hn : nrm p = (r, -52) := by unfold nrm; rw [if_pos hE, e]; rfl
    rw [hn]
    refine Does.enter Tryd.func71 rfl Tryd.ntmps71 rfl (St.start w) ?_
    repeat' (first | refine Fin.tail ?_ | refine Fin.then_normal ?_ | refine Fin.then_exit ?_ | refine Fin.then_ret ?_ | refine Fin.block_normal ?_ | refine Fin.block_ret ?_ | refine Fin.block_hit ?_ | refine Fin.block_miss rfl ?_ | refine Fin.loop_exit ?_ | refine Fin.loop_ret ?_ | refine WP.seq ?_ | (refine WP.regionQ (by kernel_rfl) (by kernel_rfl) ?_) | refine WP.block ?_ | refine WP.region ?_ | refine WP.skip ?_ | refine WP.exit ?_ | refine WP.ret ?_ | refine WP.label ?_ | refine WP.cond_true rfl ?_ | refine WP.cond_false rfl ?_ | (refine WP.cond_dec rfl (fun h => ?_) (fun h => ?_) <;> (try (exfalso; omega))) | (refine WP.cond_bool rfl (fun h => ?_) (fun h => ?_)) | refine WL.nil ?_ | refine WL.cons ?_ | (show OP _ _ _ _ _ _ _ ⟨_, .move _, _, _, _, none⟩ _ _; first | refine OP.mI rfl rfl ?_ | refine OP.mB rfl rfl ?_ | refine OP.mC rfl rfl ?_ | refine OP.mF rfl rfl ?_ | refine OP.mS rfl rfl ?_ | refine OP.mP rfl rfl ?_ | refine OP.mA rfl rfl ?_ | refine OP.mT rfl rfl ?_ | refine OP.mM rfl rfl ?_ | refine OP.mU rfl rfl ?_ | refine OP.move rfl rfl ?_) | (show OP _ _ _ _ _ _ _ ⟨_, .assign _, _, _, _, none⟩ _ _; first | refine OP.aI rfl rfl ?_ | refine OP.aB rfl rfl ?_ | refine OP.aC rfl rfl ?_ | refine OP.aF rfl rfl ?_ | refine OP.aS rfl rfl ?_ | refine OP.aP rfl rfl ?_ | refine OP.aA rfl rfl ?_ | refine OP.aT rfl rfl ?_ | refine OP.aM rfl rfl ?_ | refine OP.aU rfl rfl ?_ | refine OP.assign rfl rfl ?_) | refine OP.callq _ rfl (fun w _ => AbsG_fn p hp w) (fun _ _ h => h.1) ?_ | (show OP _ _ _ _ _ _ _ ⟨_, .binOp _ _ _ _ _, _, _, _, none⟩ _ _; first | refine OP.fcmpK (r := true) _ rfl rfl rfl rfl (by rw [h]; rfl) ?_ | refine OP.farith (r := r) rfl rfl rfl e ?_ | refine OP.lss rfl rfl rfl ?_ | (refine OP.mul rfl rfl rfl ?_ ?_ ?_; omega; omega)))
    all_goals refine Fin.ret2 (h0 := .inl rfl) rfl rfl rfl ?_
    exact ⟨rfl, rfl⟩
  · have h := norm_ge hf hE
    have hn : nrm p = (p, 0) := by unfold nrm; rw [if_neg hE]
    rw [hn]
    refine Does.enter Tryd.func71 rfl Tryd.ntmps71 rfl (St.start w) ?_
    repeat' (first | refine Fin.tail ?_ | refine Fin.then_normal ?_ | refine Fin.then_exit ?_ | refine Fin.then_ret ?_ | refine Fin.block_normal ?_ | refine Fin.block_ret ?_ | refine Fin.block_hit ?_ | refine Fin.block_miss rfl ?_ | refine Fin.loop_exit ?_ | refine Fin.loop_ret ?_ | refine WP.seq ?_ | (refine WP.regionQ (by kernel_rfl) (by kernel_rfl) ?_) | refine WP.block ?_ | refine WP.region ?_ | refine WP.skip ?_ | refine WP.exit ?_ | refine WP.ret ?_ | refine WP.label ?_ | refine WP.cond_true rfl ?_ | refine WP.cond_false rfl ?_ | (refine WP.cond_dec rfl (fun h => ?_) (fun h => ?_) <;> (try (exfalso; omega))) | (refine WP.cond_bool rfl (fun h => ?_) (fun h => ?_)) | refine WL.nil ?_ | refine WL.cons ?_ | (show OP _ _ _ _ _ _ _ ⟨_, .move _, _, _, _, none⟩ _ _; first | refine OP.mI rfl rfl ?_ | refine OP.mB rfl rfl ?_ | refine OP.mC rfl rfl ?_ | refine OP.mF rfl rfl ?_ | refine OP.mS rfl rfl ?_ | refine OP.mP rfl rfl ?_ | refine OP.mA rfl rfl ?_ | refine OP.mT rfl rfl ?_ | refine OP.mM rfl rfl ?_ | refine OP.mU rfl rfl ?_ | refine OP.move rfl rfl ?_) | (show OP _ _ _ _ _ _ _ ⟨_, .assign _, _, _, _, none⟩ _ _; first | refine OP.aI rfl rfl ?_ | refine OP.aB rfl rfl ?_ | refine OP.aC rfl rfl ?_ | refine OP.aF rfl rfl ?_ | refine OP.aS rfl rfl ?_ | refine OP.aP rfl rfl ?_ | refine OP.aA rfl rfl ?_ | refine OP.aT rfl rfl ?_ | refine OP.aM rfl rfl ?_ | refine OP.aU rfl rfl ?_ | refine OP.assign rfl rfl ?_) | refine OP.callq _ rfl (fun w _ => AbsG_fn p hp w) (fun _ _ h => h.1) ?_ | (show OP _ _ _ _ _ _ _ ⟨_, .binOp _ _ _ _ _, _, _, _, none⟩ _ _; first | refine OP.fcmpK (r := false) _ rfl rfl rfl rfl (by rw [h]) ?_ | refine OP.lss rfl rfl rfl ?_ | (refine OP.mul rfl rfl rfl ?_ ?_ ?_; omega; omega)))
    all_goals refine Fin.ret2 (h0 := .inl rfl) rfl rfl rfl ?_
    exact ⟨rfl, rfl⟩
end
theorem and_expo {f : Nat} (h : f < 18446744073709551616) : bits .and .i64 ((f / 2 ^ 52 : Nat) : Int) 2047 = ((expo f : Nat) : Int) := by
  have h7 : (BitVec.ofInt 64 2047).toNat = 2 ^ 11 - 1 := by decide
  have key : (BitVec.ofInt 64 ((f / 2 ^ 52 : Nat) : Int) &&& BitVec.ofInt 64 2047).toNat = (((f / 2 ^ 52 : Nat) : Int) % ((2 ^ 64 : Nat) : Int)).toNat % 2 ^ 11 := by
    rw [BitVec.toNat_and, BitVec.toNat_ofInt, h7, Nat.and_two_pow_sub_one_eq_mod]
  show IntKind.i64.wrap ((BitVec.ofInt 64 ((f / 2 ^ 52 : Nat) : Int) &&& BitVec.ofInt 64 2047).toNat : Nat) = _
  rw [key, IntKind.wrap_i64]
  unfold expo
  omega
theorem andnot_expo {f : Nat} (h : f < 18446744073709551616) : bits .andNot .u64 (f : Int) 9218868437227405312 = ((f / 9223372036854775808 * 9223372036854775808 + f % 4503599627370496 : Nat) : Int) :=
  (u64_andNot_nat f 9218868437227405312 h (by decide)).trans (congrArg Nat.cast (and_mask h))
theorem or_expo {f E : Nat} (h : f < 18446744073709551616) (hE : E < 2048) : bits .or .u64 ((f / 9223372036854775808 * 9223372036854775808 + f % 4503599627370496 : Nat) : Int) ((E * 4503599627370496 : Nat) : Int) = ((setE f E : Nat) : Int) :=
  u64_or_nat _ _ (by omega) (by omega)
theorem shl_expo {z : Int} {E : Nat} (hz : z = (E : Int)) (hE : E < 2048) : IntKind.u64.wrap (z * 2 ^ 52) = ((E * 4503599627370496 : Nat) : Int) := by
  subst hz
  rw [IntKind.wrap_u64]
  omega
theorem mul_some {x y : Nat} (hx : finB x = true) (hy : finB y = true) : ∃ r, Ieee.double.mul x y = some r := by
  obtain ⟨s, m, i, ex, hi⟩ := fin_num hx
  obtain ⟨t, n, j, ey, hj⟩ := fin_num hy
  unfold Ieee.Format.mul
  rw [ex, ey]
  exact ⟨_, rfl⟩
/-- The branches behind the normal form. -/
theorem mul_some1 {m f : Nat} {e : Int} (hm : m ≤ 12) (hf : f < 18446744073709551616) (he : e = 0 ∨ e = -52) (hE : expo f < 2047) (h0 : ¬ -(m : Int) + e + ((expo f : Int) - 1023) < -1075) (h1 : -(m : Int) + e + ((expo f : Int) - 1023) < -1022) :
    ∃ E : Nat, E < 2048 ∧ -(m : Int) + e + ((expo f : Int) - 1023) + 53 + 1023 = (E : Int) ∧ Ieee.double.mul c53 (setE f E) = some (ldR m f e) := by
  obtain ⟨E, hE'⟩ : ∃ E : Nat, E = (-(m : Int) + e + ((expo f : Int) - 1023) + 53 + 1023).toNat := ⟨_, rfl⟩
  obtain ⟨r, e1⟩ := mul_some (x := c53) (y := setE f E) (by decide) (setE_fin hf (by omega))
  refine ⟨E, by omega, by omega, ?_⟩
  unfold ldR
  rw [if_neg h0, if_pos h1, ← hE', e1]; rfl
theorem mul_some2 {m f : Nat} {e : Int} (hm : m ≤ 12) (hf : f < 18446744073709551616) (he : e = 0 ∨ e = -52) (hE : expo f < 2047) (h1 : ¬ -(m : Int) + e + ((expo f : Int) - 1023) < -1022) :
    ∃ E : Nat, E < 2047 ∧ -(m : Int) + e + ((expo f : Int) - 1023) + 1023 = (E : Int) ∧ Ieee.double.mul one (setE f E) = some (ldR m f e) := by
  obtain ⟨E, hE'⟩ : ∃ E : Nat, E = (-(m : Int) + e + ((expo f : Int) - 1023) + 1023).toNat := ⟨_, rfl⟩
  obtain ⟨r, e1⟩ := mul_some (x := one) (y := setE f E) (by decide) (setE_fin hf (by omega))
  refine ⟨E, by omega, by omega, ?_⟩
  unfold ldR
  rw [if_neg (by omega), if_neg h1, ← hE', show one' = one from rfl, e1]; rfl
theorem nrm_e (p : Nat) : (nrm p).2 = 0 ∨ (nrm p).2 = -52 := by
  unfold nrm; split
  · exact .inr rfl
  · exact .inl rfl
theorem nrm_fin {p : Nat} (hp : p < 18446744073709551616) (hf : finB p = true) : finB (nrm p).1 = true ∧ (nrm p).1 < 18446744073709551616 := by
  unfold nrm
  split
  · rename_i hE
    have hs := small_rv hp hE
    obtain ⟨a, b, c⟩ := mul_get (c := p) (w := c52) (k := 0) (B := 1 / 4503599627370496) (by omega) hf (by decide) rfl (by
      rw [rv_c52]
      constructor
      · have := hs.1; grind
      · have := hs.2; grind) (by decide +kernel)
    exact ⟨a, b⟩
  · exact ⟨hf, hp⟩
section
variable (m p : Nat) (hm : m ≤ 12) (hp : p < 18446744073709551616) (hf : finB p = true)
include hm hp hf
set_option maxHeartbeats 4000000 in
theorem ldexpG_fn (w : World) : Does Tryd.prog 67 #[.float .f64 p, .int .i64 (-(m : Int))] [] w fun r Γ => r = .float .f64 (ldx m p) ∧ Γ = [] := by
  by_cases h0 : p % 9223372036854775808 = 0
  · have hz := is_zero hp h0
    have hl : ldx m p = p := by unfold ldx; rw [if_pos h0]
    rw [hl]
    refine Does.enter Tryd.func67 rfl Tryd.ntmps67 rfl (St.start w) ?_
    repeat' (first | refine Fin.tail ?_ | refine Fin.then_normal ?_ | refine Fin.then_exit ?_ | refine Fin.then_ret ?_ | refine Fin.block_normal ?_ | refine Fin.block_ret ?_ | refine Fin.block_hit ?_ | refine Fin.block_miss rfl ?_ | refine Fin.loop_exit ?_ | refine Fin.loop_ret ?_ | refine WP.seq ?_ | (refine WP.regionQ (by kernel_rfl) (by kernel_rfl) ?_) | refine WP.block ?_ | refine WP.region ?_ | refine WP.skip ?_ | refine WP.exit ?_ | refine WP.ret ?_ | refine WP.label ?_ | refine WP.cond_true rfl ?_ | refine WP.cond_false rfl ?_ | (refine WP.cond_dec rfl (fun h => ?_) (fun h => ?_) <;> (try (exfalso; omega))) | (refine WP.cond_bool rfl (fun h => ?_) (fun h => ?_)) | refine WL.nil ?_ | refine WL.cons ?_ | (show OP _ _ _ _ _ _ _ ⟨_, _, _, _, _, some _⟩ _ _; first | refine OP.guard_yes rfl rfl ?_ | refine OP.guard_no rfl rfl rfl rfl ?_ | refine OP.guard_un rfl rfl rfl ?_ | refine OP.guard_no0 rfl rfl rfl ?_ | (refine OP.guard_dec rfl rfl (fun h => ?_) (fun h => ?_) <;> (try (exfalso; omega))) | refine OP.guard_bool rfl rfl (fun h => ?_) (fun h => ?_)) | (show OP _ _ _ _ _ _ _ ⟨_, .move _, _, _, _, none⟩ _ _; first | refine OP.mI rfl rfl ?_ | refine OP.mB rfl rfl ?_ | refine OP.mC rfl rfl ?_ | refine OP.mF rfl rfl ?_ | refine OP.mS rfl rfl ?_ | refine OP.mP rfl rfl ?_ | refine OP.mA rfl rfl ?_ | refine OP.mT rfl rfl ?_ | refine OP.mM rfl rfl ?_ | refine OP.mU rfl rfl ?_ | refine OP.move rfl rfl ?_) | (show OP _ _ _ _ _ _ _ ⟨_, .assign _, _, _, _, none⟩ _ _; first | refine OP.aI rfl rfl ?_ | refine OP.aB rfl rfl ?_ | refine OP.aC rfl rfl ?_ | refine OP.aF rfl rfl ?_ | refine OP.aS rfl rfl ?_ | refine OP.aP rfl rfl ?_ | refine OP.aA rfl rfl ?_ | refine OP.aT rfl rfl ?_ | refine OP.aM rfl rfl ?_ | refine OP.aU rfl rfl ?_ | refine OP.assign rfl rfl ?_) | (show OP _ _ _ _ _ _ _ ⟨_, .binOp _ _ _ _ _, _, _, _, none⟩ _ _; first | refine OP.fcmpK (r := true) _ rfl rfl rfl rfl (by rw [hz]) ?_ | (refine OP.add rfl rfl rfl ?_ ?_ ?_; omega; omega) | (refine OP.sub rfl rfl rfl ?_ ?_ ?_; omega; omega) | refine OP.lss rfl rfl rfl ?_ | refine OP.eql rfl rfl rfl ?_ | refine OP.gtr rfl rfl rfl ?_ | refine OP.eql2 rfl rfl rfl ?_ | refine OP.eqd rfl rfl rfl ?_ | refine OP.eqlb rfl rfl rfl ?_ | (refine OP.mul rfl rfl rfl ?_ ?_ ?_; omega; omega)) | (refine OP.conv rfl rfl ?_ ?_ ?_; omega; omega) | (show OP _ _ _ _ _ _ _ ⟨_, .pick _ _ _, _, _, _, none⟩ _ _; first | refine OP.pick_true rfl rfl ?_ | refine OP.pick_false rfl rfl ?_) | refine OP.extract rfl rfl rfl ?_)
    all_goals refine Fin.ret1 (h0 := .inl rfl) rfl rfl ?_
    all_goals exact ⟨rfl, rfl⟩
  · have hz := not_zero hp hf h0
    have hl : ldx m p = ldR m (nrm p).1 (nrm p).2 := by unfold ldx; rw [if_neg h0]
    rw [hl]
    obtain ⟨hff, hfw⟩ := nrm_fin hp hf
    have he := nrm_e p
    have hn := fun w => normG_fn p hp hf w
    generalize (nrm p).1 = f at *
    generalize (nrm p).2 = e at *
    have hE := expo_fin hff
    have ha := and_expo hfw
    have hao := andnot_expo hfw
    refine Does.enter Tryd.func67 rfl Tryd.ntmps67 rfl (St.start w) ?_
    repeat' (first | refine Fin.tail ?_ | refine Fin.then_normal ?_ | refine Fin.then_exit ?_ | refine Fin.then_ret ?_ | refine Fin.block_normal ?_ | refine Fin.block_ret ?_ | refine Fin.block_hit ?_ | refine Fin.block_miss rfl ?_ | refine Fin.loop_exit ?_ | refine Fin.loop_ret ?_ | refine WP.seq ?_ | (refine WP.regionQ (by kernel_rfl) (by kernel_rfl) ?_) | refine WP.block ?_ | refine WP.region ?_ | refine WP.skip ?_ | refine WP.exit ?_ | refine WP.ret ?_ | refine WP.label ?_ | refine WP.cond_true rfl ?_ | refine WP.cond_false rfl ?_ | (refine WP.cond_dec rfl (fun h => ?_) (fun h => ?_) <;> (try (exfalso; omega))) | (refine WP.cond_bool rfl (fun h => ?_) (fun h => ?_)) | refine WL.nil ?_ | refine WL.cons ?_ | (show OP _ _ _ _ _ _ _ ⟨_, _, _, _, _, some _⟩ _ _; first | refine OP.guard_yes rfl rfl ?_ | refine OP.guard_no rfl rfl rfl rfl ?_ | refine OP.guard_un rfl rfl rfl ?_ | refine OP.guard_no0 rfl rfl rfl ?_ | (refine OP.guard_dec rfl rfl (fun h => ?_) (fun h => ?_) <;> (try (exfalso; omega))) | refine OP.guard_bool rfl rfl (fun h => ?_) (fun h => ?_)) | (show OP _ _ _ _ _ _ _ ⟨_, .move _, _, _, _, none⟩ _ _; first | refine OP.mI rfl rfl ?_ | refine OP.mB rfl rfl ?_ | refine OP.mC rfl rfl ?_ | refine OP.mF rfl rfl ?_ | refine OP.mS rfl rfl ?_ | refine OP.mP rfl rfl ?_ | refine OP.mA rfl rfl ?_ | refine OP.mT rfl rfl ?_ | refine OP.mM rfl rfl ?_ | refine OP.mU rfl rfl ?_ | refine OP.move rfl rfl ?_) | (show OP _ _ _ _ _ _ _ ⟨_, .assign _, _, _, _, none⟩ _ _; first | refine OP.aI rfl rfl ?_ | refine OP.aB rfl rfl ?_ | refine OP.aC rfl rfl ?_ | refine OP.aF rfl rfl ?_ | refine OP.aS rfl rfl ?_ | refine OP.aP rfl rfl ?_ | refine OP.aA rfl rfl ?_ | refine OP.aT rfl rfl ?_ | refine OP.aM rfl rfl ?_ | refine OP.aU rfl rfl ?_ | refine OP.assign rfl rfl ?_) | (show OP _ _ _ _ _ _ _ ⟨_, .call _, _, _, _, none⟩ _ _; first | refine OP.callq _ rfl (fun w _ => isInfG_fn p hp hf w) (fun _ _ h => h.1) ?_ | refine OP.callq _ rfl (fun w _ => isNaNG_fn p hf w) (fun _ _ h => h.1) ?_ | refine OP.callq _ rfl (fun w _ => hn w) (fun _ _ h => h.1) ?_ | refine OP.callx (f := 37) (.int .u64 f) rfl rfl (fun w => by exact bits_bits f w) ?_) | (show OP _ _ _ _ _ _ _ ⟨_, .binOp _ _ _ _ _, _, _, _, none⟩ _ _; first | refine OP.fcmpK (r := false) _ rfl rfl rfl rfl (by rw [hz]) ?_ | refine OP.shrN (c := 52) rfl rfl rfl rfl (by decide) ?_ | refine OP.bitop (r := (expo f : Int)) (.inl rfl) rfl rfl rfl ha ?_ | refine OP.bitop (.inr (.inr (.inr rfl))) rfl rfl rfl hao ?_ | (refine OP.add rfl rfl rfl ?_ ?_ ?_; omega; omega) | (refine OP.sub rfl rfl rfl ?_ ?_ ?_; omega; omega) | refine OP.lss rfl rfl rfl ?_ | refine OP.eql rfl rfl rfl ?_ | refine OP.gtr rfl rfl rfl ?_ | refine OP.eql2 rfl rfl rfl ?_ | refine OP.eqd rfl rfl rfl ?_ | refine OP.eqlb rfl rfl rfl ?_ | (refine OP.mul rfl rfl rfl ?_ ?_ ?_; omega; omega)) | (refine OP.conv rfl rfl ?_ ?_ ?_; omega; omega) | (show OP _ _ _ _ _ _ _ ⟨_, .pick _ _ _, _, _, _, none⟩ _ _; first | refine OP.pick_true rfl rfl ?_ | refine OP.pick_false rfl rfl ?_) | refine OP.extract rfl rfl rfl ?_)
    · have hr : ldR m f e = cpF 0 f := by unfold ldR; rw [if_pos h]; rfl
      rw [hr]
      repeat' (first | refine Fin.tail ?_ | refine Fin.then_normal ?_ | refine Fin.then_exit ?_ | refine Fin.then_ret ?_ | refine Fin.block_normal ?_ | refine Fin.block_ret ?_ | refine Fin.block_hit ?_ | refine Fin.block_miss rfl ?_ | refine Fin.loop_exit ?_ | refine Fin.loop_ret ?_ | refine WP.seq ?_ | (refine WP.regionQ (by kernel_rfl) (by kernel_rfl) ?_) | refine WP.block ?_ | refine WP.region ?_ | refine WP.skip ?_ | refine WP.exit ?_ | refine WP.ret ?_ | refine WP.label ?_ | refine WP.cond_true rfl ?_ | refine WP.cond_false rfl ?_ | (refine WP.cond_dec rfl (fun h => ?_) (fun h => ?_) <;> (try (exfalso; omega))) | (refine WP.cond_bool rfl (fun h => ?_) (fun h => ?_)) | refine WL.nil ?_ | refine WL.cons ?_ | (show OP _ _ _ _ _ _ _ ⟨_, _, _, _, _, some _⟩ _ _; first | refine OP.guard_yes rfl rfl ?_ | refine OP.guard_no rfl rfl rfl rfl ?_ | refine OP.guard_un rfl rfl rfl ?_ | refine OP.guard_no0 rfl rfl rfl ?_ | (refine OP.guard_dec rfl rfl (fun h => ?_) (fun h => ?_) <;> (try (exfalso; omega))) | refine OP.guard_bool rfl rfl (fun h => ?_) (fun h => ?_)) | (show OP _ _ _ _ _ _ _ ⟨_, .move _, _, _, _, none⟩ _ _; first | refine OP.mI rfl rfl ?_ | refine OP.mB rfl rfl ?_ | refine OP.mC rfl rfl ?_ | refine OP.mF rfl rfl ?_ | refine OP.mS rfl rfl ?_ | refine OP.mP rfl rfl ?_ | refine OP.mA rfl rfl ?_ | refine OP.mT rfl rfl ?_ | refine OP.mM rfl rfl ?_ | refine OP.mU rfl rfl ?_ | refine OP.move rfl rfl ?_) | (show OP _ _ _ _ _ _ _ ⟨_, .assign _, _, _, _, none⟩ _ _; first | refine OP.aI rfl rfl ?_ | refine OP.aB rfl rfl ?_ | refine OP.aC rfl rfl ?_ | refine OP.aF rfl rfl ?_ | refine OP.aS rfl rfl ?_ | refine OP.aP rfl rfl ?_ | refine OP.aA rfl rfl ?_ | refine OP.aT rfl rfl ?_ | refine OP.aM rfl rfl ?_ | refine OP.aU rfl rfl ?_ | refine OP.assign rfl rfl ?_) | refine OP.callq _ rfl (fun w _ => Copysign_fn 0 f (by decide) hfw w) (fun _ _ h => h.1) ?_ | (show OP _ _ _ _ _ _ _ ⟨_, .binOp _ _ _ _ _, _, _, _, none⟩ _ _; first | (refine OP.add rfl rfl rfl ?_ ?_ ?_; omega; omega) | (refine OP.sub rfl rfl rfl ?_ ?_ ?_; omega; omega) | refine OP.lss rfl rfl rfl ?_ | refine OP.eql rfl rfl rfl ?_ | refine OP.gtr rfl rfl rfl ?_ | refine OP.eql2 rfl rfl rfl ?_ | refine OP.eqd rfl rfl rfl ?_ | refine OP.eqlb rfl rfl rfl ?_ | (refine OP.mul rfl rfl rfl ?_ ?_ ?_; omega; omega)) | (refine OP.conv rfl rfl ?_ ?_ ?_; omega; omega) | (show OP _ _ _ _ _ _ _ ⟨_, .pick _ _ _, _, _, _, none⟩ _ _; first | refine OP.pick_true rfl rfl ?_ | refine OP.pick_false rfl rfl ?_) | refine OP.extract rfl rfl rfl ?_)
      all_goals refine Fin.ret1 (h0 := .inl rfl) rfl rfl ?_
      exact ⟨rfl, rfl⟩
    · rename_i h1 h2
      obtain ⟨E, k1, k2, k3⟩ := mul_some1 hm hfw he hE h1 h
      have hsh := shl_expo k2 k1
      have hor := or_expo hfw k1
      repeat' (first | refine Fin.tail ?_ | refine Fin.then_normal ?_ | refine Fin.then_exit ?_ | refine Fin.then_ret ?_ | refine Fin.block_normal ?_ | refine Fin.block_ret ?_ | refine Fin.block_hit ?_ | refine Fin.block_miss rfl ?_ | refine Fin.loop_exit ?_ | refine Fin.loop_ret ?_ | refine WP.seq ?_ | (refine WP.regionQ (by kernel_rfl) (by kernel_rfl) ?_) | refine WP.block ?_ | refine WP.region ?_ | refine WP.skip ?_ | refine WP.exit ?_ | refine WP.ret ?_ | refine WP.label ?_ | refine WP.cond_true rfl ?_ | refine WP.cond_false rfl ?_ | (refine WP.cond_dec rfl (fun h => ?_) (fun h => ?_) <;> (try (exfalso; omega))) | (refine WP.cond_bool rfl (fun h => ?_) (fun h => ?_)) | refine WL.nil ?_ | refine WL.cons ?_ | (show OP _ _ _ _ _ _ _ ⟨_, _, _, _, _, some _⟩ _ _; first | refine OP.guard_yes rfl rfl ?_ | refine OP.guard_no rfl rfl rfl rfl ?_ | refine OP.guard_un rfl rfl rfl ?_ | refine OP.guard_no0 rfl rfl rfl ?_ | (refine OP.guard_dec rfl rfl (fun h => ?_) (fun h => ?_) <;> (try (exfalso; omega))) | refine OP.guard_bool rfl rfl (fun h => ?_) (fun h => ?_)) | (show OP _ _ _ _ _ _ _ ⟨_, .move _, _, _, _, none⟩ _ _; first | refine OP.mI rfl rfl ?_ | refine OP.mB rfl rfl ?_ | refine OP.mC rfl rfl ?_ | refine OP.mF rfl rfl ?_ | refine OP.mS rfl rfl ?_ | refine OP.mP rfl rfl ?_ | refine OP.mA rfl rfl ?_ | refine OP.mT rfl rfl ?_ | refine OP.mM rfl rfl ?_ | refine OP.mU rfl rfl ?_ | refine OP.move rfl rfl ?_) | (show OP _ _ _ _ _ _ _ ⟨_, .assign _, _, _, _, none⟩ _ _; first | refine OP.aI rfl rfl ?_ | refine OP.aB rfl rfl ?_ | refine OP.aC rfl rfl ?_ | refine OP.aF rfl rfl ?_ | refine OP.aS rfl rfl ?_ | refine OP.aP rfl rfl ?_ | refine OP.aA rfl rfl ?_ | refine OP.aT rfl rfl ?_ | refine OP.aM rfl rfl ?_ | refine OP.aU rfl rfl ?_ | refine OP.assign rfl rfl ?_) | refine OP.callx (f := 36) (.float .f64 (setE f E)) rfl rfl (fun w => by exact bits_frombits _ w) ?_ | (show OP _ _ _ _ _ _ _ ⟨_, .binOp _ _ _ _ _, _, _, _, none⟩ _ _; first | refine OP.shlI (c := 52) rfl rfl rfl rfl (by decide) hsh ?_ | refine OP.bitop (.inr (.inl rfl)) rfl rfl rfl hor ?_ | refine OP.farith rfl rfl rfl k3 ?_ | (refine OP.add rfl rfl rfl ?_ ?_ ?_; omega; omega) | (refine OP.sub rfl rfl rfl ?_ ?_ ?_; omega; omega) | refine OP.lss rfl rfl rfl ?_ | refine OP.eql rfl rfl rfl ?_ | refine OP.gtr rfl rfl rfl ?_ | refine OP.eql2 rfl rfl rfl ?_ | refine OP.eqd rfl rfl rfl ?_ | refine OP.eqlb rfl rfl rfl ?_ | (refine OP.mul rfl rfl rfl ?_ ?_ ?_; omega; omega)) | (refine OP.conv rfl rfl ?_ ?_ ?_; omega; omega) | (show OP _ _ _ _ _ _ _ ⟨_, .pick _ _ _, _, _, _, none⟩ _ _; first | refine OP.pick_true rfl rfl ?_ | refine OP.pick_false rfl rfl ?_) | refine OP.extract rfl rfl rfl ?_)
      all_goals refine Fin.ret1 (h0 := .inl rfl) rfl rfl ?_
      exact ⟨rfl, rfl⟩
    · rename_i h1 h2
      obtain ⟨E, k1, k2, k3⟩ := mul_some2 hm hfw he hE h
      have hsh := shl_expo k2 (Nat.lt_succ_of_lt k1)
      have hor := or_expo hfw (Nat.lt_succ_of_lt k1)
      repeat' (first | refine Fin.tail ?_ | refine Fin.then_normal ?_ | refine Fin.then_exit ?_ | refine Fin.then_ret ?_ | refine Fin.block_normal ?_ | refine Fin.block_ret ?_ | refine Fin.block_hit ?_ | refine Fin.block_miss rfl ?_ | refine Fin.loop_exit ?_ | refine Fin.loop_ret ?_ | refine WP.seq ?_ | (refine WP.regionQ (by kernel_rfl) (by kernel_rfl) ?_) | refine WP.block ?_ | refine WP.region ?_ | refine WP.skip ?_ | refine WP.exit ?_ | refine WP.ret ?_ | refine WP.label ?_ | refine WP.cond_true rfl ?_ | refine WP.cond_false rfl ?_ | (refine WP.cond_dec rfl (fun h => ?_) (fun h => ?_) <;> (try (exfalso; omega))) | (refine WP.cond_bool rfl (fun h => ?_) (fun h => ?_)) | refine WL.nil ?_ | refine WL.cons ?_ | (show OP _ _ _ _ _ _ _ ⟨_, _, _, _, _, some _⟩ _ _; first | refine OP.guard_yes rfl rfl ?_ | refine OP.guard_no rfl rfl rfl rfl ?_ | refine OP.guard_un rfl rfl rfl ?_ | refine OP.guard_no0 rfl rfl rfl ?_ | (refine OP.guard_dec rfl rfl (fun h => ?_) (fun h => ?_) <;> (try (exfalso; omega))) | refine OP.guard_bool rfl rfl (fun h => ?_) (fun h => ?_)) | (show OP _ _ _ _ _ _ _ ⟨_, .move _, _, _, _, none⟩ _ _; first | refine OP.mI rfl rfl ?_ | refine OP.mB rfl rfl ?_ | refine OP.mC rfl rfl ?_ | refine OP.mF rfl rfl ?_ | refine OP.mS rfl rfl ?_ | refine OP.mP rfl rfl ?_ | refine OP.mA rfl rfl ?_ | refine OP.mT rfl rfl ?_ | refine OP.mM rfl rfl ?_ | refine OP.mU rfl rfl ?_ | refine OP.move rfl rfl ?_) | (show OP _ _ _ _ _ _ _ ⟨_, .assign _, _, _, _, none⟩ _ _; first | refine OP.aI rfl rfl ?_ | refine OP.aB rfl rfl ?_ | refine OP.aC rfl rfl ?_ | refine OP.aF rfl rfl ?_ | refine OP.aS rfl rfl ?_ | refine OP.aP rfl rfl ?_ | refine OP.aA rfl rfl ?_ | refine OP.aT rfl rfl ?_ | refine OP.aM rfl rfl ?_ | refine OP.aU rfl rfl ?_ | refine OP.assign rfl rfl ?_) | refine OP.callx (f := 36) (.float .f64 (setE f E)) rfl rfl (fun w => by exact bits_frombits _ w) ?_ | (show OP _ _ _ _ _ _ _ ⟨_, .binOp _ _ _ _ _, _, _, _, none⟩ _ _; first | refine OP.shlI (c := 52) rfl rfl rfl rfl (by decide) hsh ?_ | refine OP.bitop (.inr (.inl rfl)) rfl rfl rfl hor ?_ | refine OP.farith rfl rfl rfl k3 ?_ | (refine OP.add rfl rfl rfl ?_ ?_ ?_; omega; omega) | (refine OP.sub rfl rfl rfl ?_ ?_ ?_; omega; omega) | refine OP.lss rfl rfl rfl ?_ | refine OP.eql rfl rfl rfl ?_ | refine OP.gtr rfl rfl rfl ?_ | refine OP.eql2 rfl rfl rfl ?_ | refine OP.eqd rfl rfl rfl ?_ | refine OP.eqlb rfl rfl rfl ?_ | (refine OP.mul rfl rfl rfl ?_ ?_ ?_; omega; omega)) | (refine OP.conv rfl rfl ?_ ?_ ?_; omega; omega) | (show OP _ _ _ _ _ _ _ ⟨_, .pick _ _ _, _, _, _, none⟩ _ _; first | refine OP.pick_true rfl rfl ?_ | refine OP.pick_false rfl rfl ?_) | refine OP.extract rfl rfl rfl ?_)
      all_goals refine Fin.ret1 (h0 := .inl rfl) rfl rfl ?_
      exact ⟨rfl, rfl⟩
set_option maxHeartbeats 1000000 in
theorem LdexpG_fn (w : World) : Does Tryd.prog 59 #[.float .f64 p, .int .i64 (-(m : Int))] [] w fun r Γ => r = .float .f64 (ldx m p) ∧ Γ = [] := by
  refine Does.enter Tryd.func59 rfl Tryd.ntmps59 rfl (St.start w) ?_
  repeat' (first | refine Fin.tail ?_ | refine Fin.then_normal ?_ | refine Fin.then_exit ?_ | refine Fin.then_ret ?_ | refine Fin.block_normal ?_ | refine Fin.block_ret ?_ | refine Fin.block_hit ?_ | refine Fin.block_miss rfl ?_ | refine Fin.loop_exit ?_ | refine Fin.loop_ret ?_ | refine WP.seq ?_ | (refine WP.regionQ (by kernel_rfl) (by kernel_rfl) ?_) | refine WP.block ?_ | refine WP.region ?_ | refine WP.skip ?_ | refine WP.exit ?_ | refine WP.ret ?_ | refine WP.label ?_ | refine WP.cond_true rfl ?_ | refine WP.cond_false rfl ?_ | (refine WP.cond_dec rfl (fun h => ?_) (fun h => ?_) <;> (try (exfalso; omega))) | (refine WP.cond_bool rfl (fun h => ?_) (fun h => ?_)) | refine WL.nil ?_ | refine WL.cons ?_ | (show OP _ _ _ _ _ _ _ ⟨_, .move _, _, _, _, none⟩ _ _; first | refine OP.mI rfl rfl ?_ | refine OP.mB rfl rfl ?_ | refine OP.mC rfl rfl ?_ | refine OP.mF rfl rfl ?_ | refine OP.mS rfl rfl ?_ | refine OP.mP rfl rfl ?_ | refine OP.mA rfl rfl ?_ | refine OP.mT rfl rfl ?_ | refine OP.mM rfl rfl ?_ | refine OP.mU rfl rfl ?_ | refine OP.move rfl rfl ?_) | (show OP _ _ _ _ _ _ _ ⟨_, .assign _, _, _, _, none⟩ _ _; first | refine OP.aI rfl rfl ?_ | refine OP.aB rfl rfl ?_ | refine OP.aC rfl rfl ?_ | refine OP.aF rfl rfl ?_ | refine OP.aS rfl rfl ?_ | refine OP.aP rfl rfl ?_ | refine OP.aA rfl rfl ?_ | refine OP.aT rfl rfl ?_ | refine OP.aM rfl rfl ?_ | refine OP.aU rfl rfl ?_ | refine OP.assign rfl rfl ?_) | refine OP.callq _ rfl (fun w _ => ldexpG_fn m p hm hp hf w) (fun _ _ h => h.1) ?_)
  all_goals refine Fin.ret1 (h0 := .inl rfl) rfl rfl ?_
  all_goals exact ⟨rfl, rfl⟩
set_option maxHeartbeats 1000000 in
theorem sclG_fn (b : Nat) (w : World) (hc : w.cell? ⟨b, 0, none⟩ = some (.int .i64 (-(m : Int)))) : Does Tryd.prog 58 #[.float .f64 p, .pointer (some ⟨b, 0, none⟩)] [] w fun r Γ => r = .float .f64 (ldx m p) ∧ Γ = [] := by
  refine Does.enter Tryd.func58 rfl Tryd.ntmps58 rfl (St.start w) ?_
  repeat' (first | refine Fin.tail ?_ | refine Fin.then_normal ?_ | refine Fin.then_exit ?_ | refine Fin.then_ret ?_ | refine Fin.block_normal ?_ | refine Fin.block_ret ?_ | refine Fin.block_hit ?_ | refine Fin.block_miss rfl ?_ | refine Fin.loop_exit ?_ | refine Fin.loop_ret ?_ | refine WP.seq ?_ | (refine WP.regionQ (by kernel_rfl) (by kernel_rfl) ?_) | refine WP.block ?_ | refine WP.region ?_ | refine WP.skip ?_ | refine WP.exit ?_ | refine WP.ret ?_ | refine WP.label ?_ | refine WP.cond_true rfl ?_ | refine WP.cond_false rfl ?_ | (refine WP.cond_dec rfl (fun h => ?_) (fun h => ?_) <;> (try (exfalso; omega))) | (refine WP.cond_bool rfl (fun h => ?_) (fun h => ?_)) | refine WL.nil ?_ | refine WL.cons ?_ | (show OP _ _ _ _ _ _ _ ⟨_, .move _, _, _, _, none⟩ _ _; first | refine OP.mI rfl rfl ?_ | refine OP.mB rfl rfl ?_ | refine OP.mC rfl rfl ?_ | refine OP.mF rfl rfl ?_ | refine OP.mS rfl rfl ?_ | refine OP.mP rfl rfl ?_ | refine OP.mA rfl rfl ?_ | refine OP.mT rfl rfl ?_ | refine OP.mM rfl rfl ?_ | refine OP.mU rfl rfl ?_ | refine OP.move rfl rfl ?_) | (show OP _ _ _ _ _ _ _ ⟨_, .assign _, _, _, _, none⟩ _ _; first | refine OP.aI rfl rfl ?_ | refine OP.aB rfl rfl ?_ | refine OP.aC rfl rfl ?_ | refine OP.aF rfl rfl ?_ | refine OP.aS rfl rfl ?_ | refine OP.aP rfl rfl ?_ | refine OP.aA rfl rfl ?_ | refine OP.aT rfl rfl ?_ | refine OP.aM rfl rfl ?_ | refine OP.aU rfl rfl ?_ | refine OP.assign rfl rfl ?_) | refine OP.callq _ rfl (fun w _ => LdexpG_fn m p hm hp hf w) (fun _ _ h => h.1) ?_ | (show OP _ _ _ _ _ _ _ ⟨_, .load _ _, _, _, _, none⟩ _ _; first | refine OP.ld rfl rfl inferInstance rfl ?_ | refine OP.load rfl rfl (Sees.old0 (by assumption)) ?_ | refine OP.ldA rfl rfl inferInstance rfl ?_))
  all_goals refine Fin.ret1 (h0 := .inl rfl) rfl rfl ?_
  all_goals exact ⟨rfl, rfl⟩
end
/-- Both parts scaled down. -/
def sclC (m : Nat) (a : Cx) : Cx := (ldx m a.1, ldx m a.2)
section
variable (m : Nat) (a : Cx) (hm : m ≤ 12) (h1 : finB a.1 = true) (h2 : finB a.2 = true) (hw : Wf a)
include hm h1 h2 hw
set_option maxHeartbeats 1000000 in
theorem eachG_fn (b : Nat) (w : World) (hc : w.cell? ⟨b, 0, none⟩ = some (.int .i64 (-(m : Int)))) : Does Tryd.prog 42 #[.complex .f64 a.1 a.2, .func (.func 58) #[] #[.pointer (some ⟨b, 0, none⟩)]] [] w fun v Γ => v = .complex .f64 (ldx m a.1) (ldx m a.2) ∧ Γ = [] := by
  refine Does.enter Tryd.func42 rfl Tryd.ntmps42 rfl (St.start w) ?_
  repeat' (first | refine Fin.tail ?_ | refine Fin.then_normal ?_ | refine Fin.then_exit ?_ | refine Fin.then_ret ?_ | refine Fin.block_normal ?_ | refine Fin.block_ret ?_ | refine Fin.block_hit ?_ | refine Fin.block_miss rfl ?_ | refine Fin.loop_exit ?_ | refine Fin.loop_ret ?_ | refine WP.seq ?_ | (refine WP.regionQ (by kernel_rfl) (by kernel_rfl) ?_) | refine WP.block ?_ | refine WP.region ?_ | refine WP.skip ?_ | refine WP.exit ?_ | refine WP.ret ?_ | refine WP.label ?_ | refine WP.cond_true rfl ?_ | refine WP.cond_false rfl ?_ | (refine WP.cond_dec rfl (fun h => ?_) (fun h => ?_) <;> (try (exfalso; omega))) | (refine WP.cond_bool rfl (fun h => ?_) (fun h => ?_)) | refine WL.nil ?_ | refine WL.cons ?_ | (show OP _ _ _ _ _ _ _ ⟨_, .move _, _, _, _, none⟩ _ _; first | refine OP.mI rfl rfl ?_ | refine OP.mB rfl rfl ?_ | refine OP.mC rfl rfl ?_ | refine OP.mF rfl rfl ?_ | refine OP.mS rfl rfl ?_ | refine OP.mP rfl rfl ?_ | refine OP.mA rfl rfl ?_ | refine OP.mT rfl rfl ?_ | refine OP.mM rfl rfl ?_ | refine OP.mU rfl rfl ?_ | refine OP.move rfl rfl ?_) | (show OP _ _ _ _ _ _ _ ⟨_, .assign _, _, _, _, none⟩ _ _; first | refine OP.aI rfl rfl ?_ | refine OP.aB rfl rfl ?_ | refine OP.aC rfl rfl ?_ | refine OP.aF rfl rfl ?_ | refine OP.aS rfl rfl ?_ | refine OP.aP rfl rfl ?_ | refine OP.aA rfl rfl ?_ | refine OP.aT rfl rfl ?_ | refine OP.aM rfl rfl ?_ | refine OP.aU rfl rfl ?_ | refine OP.assign rfl rfl ?_) | (show OP _ _ _ _ _ _ _ ⟨_, .call _, _, _, _, none⟩ _ _; first | refine OP.callvq (f := 58) (.float .f64 (ldx m a.1)) rfl rfl rfl (fun w' hst => sclG_fn m a.1 hm hw.1 h1 b w' (hst.old hc (by simp))) (fun _ _ h => h.1) ?_ | refine OP.callvq (f := 58) (.float .f64 (ldx m a.2)) rfl rfl rfl (fun w' hst => sclG_fn m a.2 hm hw.2 h2 b w' (hst.old hc (by simp))) (fun _ _ h => h.1) ?_ | refine OP.real rfl rfl ?_ | refine OP.imag rfl rfl ?_ | refine OP.complex rfl rfl rfl ?_))
  all_goals refine Fin.ret1 (h0 := .inl rfl) rfl rfl ?_
  exact ⟨rfl, rfl⟩
set_option maxHeartbeats 1000000 in
theorem ScaleG_fn (w : World) : Does Tryd.prog 41 #[.complex .f64 a.1 a.2, .int .i64 (-(m : Int))] [] w fun v Γ => v = .complex .f64 (sclC m a).1 (sclC m a).2 ∧ Γ = [] := by
  have e1 : min 2200 (-(m : Int)) = -(m : Int) := by omega
  have e2 : max (-2200) (-(m : Int)) = -(m : Int) := by omega
  refine Does.enter Tryd.func41 rfl Tryd.ntmps41 rfl (St.start w) ?_
  repeat' (first | refine Fin.tail ?_ | refine Fin.then_normal ?_ | refine Fin.then_exit ?_ | refine Fin.then_ret ?_ | refine Fin.block_normal ?_ | refine Fin.block_ret ?_ | refine Fin.block_hit ?_ | refine Fin.block_miss rfl ?_ | refine Fin.loop_exit ?_ | refine Fin.loop_ret ?_ | refine WP.seq ?_ | (refine WP.regionQ (by kernel_rfl) (by kernel_rfl) ?_) | refine WP.block ?_ | refine WP.region ?_ | refine WP.skip ?_ | refine WP.exit ?_ | refine WP.ret ?_ | refine WP.label ?_ | refine WP.cond_true rfl ?_ | refine WP.cond_false rfl ?_ | (refine WP.cond_dec rfl (fun h => ?_) (fun h => ?_) <;> (try (exfalso; omega))) | (refine WP.cond_bool rfl (fun h => ?_) (fun h => ?_)) | refine WL.nil ?_ | refine WL.cons ?_ | (show OP _ _ _ _ _ _ _ ⟨_, .move _, _, _, _, none⟩ _ _; first | refine OP.mI rfl rfl ?_ | refine OP.mB rfl rfl ?_ | refine OP.mC rfl rfl ?_ | refine OP.mF rfl rfl ?_ | refine OP.mS rfl rfl ?_ | refine OP.mP rfl rfl ?_ | refine OP.mA rfl rfl ?_ | refine OP.mT rfl rfl ?_ | refine OP.mM rfl rfl ?_ | refine OP.mU rfl rfl ?_ | refine OP.move rfl rfl ?_) | (show OP _ _ _ _ _ _ _ ⟨_, .assign _, _, _, _, none⟩ _ _; first | refine OP.aI rfl rfl ?_ | refine OP.aB rfl rfl ?_ | refine OP.aC rfl rfl ?_ | refine OP.aF rfl rfl ?_ | refine OP.aS rfl rfl ?_ | refine OP.aP rfl rfl ?_ | refine OP.aA rfl rfl ?_ | refine OP.aT rfl rfl ?_ | refine OP.aM rfl rfl ?_ | refine OP.aU rfl rfl ?_ | refine OP.assign rfl rfl ?_) | (show OP _ _ _ _ _ _ _ ⟨_, .call _, _, _, _, none⟩ _ _; first | refine OP.max2 rfl rfl rfl ?_ | refine OP.min2 rfl rfl rfl ?_) | (show OP _ _ _ _ _ _ _ ⟨_, .load _ _, _, _, _, none⟩ _ _; first | refine OP.ld rfl rfl inferInstance rfl ?_ | refine OP.load rfl rfl (Sees.old0 (by assumption)) ?_ | refine OP.ldA rfl rfl inferInstance rfl ?_) | (show OP _ _ _ _ _ _ _ ⟨_, .store _ _ _, _, _, _, none⟩ _ _; first | refine OP.stI rfl rfl inferInstance rfl ?_ | refine OP.stB rfl rfl inferInstance rfl ?_ | refine OP.stC rfl rfl inferInstance rfl ?_ | refine OP.stF rfl rfl inferInstance rfl ?_ | refine OP.stS rfl rfl inferInstance rfl ?_ | refine OP.stP rfl rfl inferInstance rfl ?_ | refine OP.stM rfl rfl inferInstance rfl ?_ | refine OP.stU rfl rfl inferInstance rfl ?_ | refine OP.st (vs := [_]) rfl rfl inferInstance rfl rfl rfl ?_ | refine OP.st (vs := [_, _]) rfl rfl inferInstance rfl rfl rfl ?_ | refine OP.st (vs := [_, _, _]) rfl rfl inferInstance rfl rfl rfl ?_) | (show OP _ _ _ _ _ _ _ ⟨_, .box _ _, _, _, _, none⟩ _ _; first | refine OP.bxI rfl rfl (fun bx => ?_) | refine OP.bxB rfl rfl (fun bx => ?_) | refine OP.bxC rfl rfl (fun bx => ?_) | refine OP.bxF rfl rfl (fun bx => ?_) | refine OP.bxS rfl rfl (fun bx => ?_) | refine OP.bxP rfl rfl (fun bx => ?_) | refine OP.bxA rfl rfl (fun bx => ?_) | refine OP.bxM rfl rfl (fun bx => ?_) | refine OP.bxU rfl rfl (fun bx => ?_) | refine OP.box rfl rfl (fun bx => ?_)) | refine OP.makeFunc rfl ?_)
  rw [e1, e2]
  repeat' (first | refine Fin.tail ?_ | refine Fin.then_normal ?_ | refine Fin.then_exit ?_ | refine Fin.then_ret ?_ | refine Fin.block_normal ?_ | refine Fin.block_ret ?_ | refine Fin.block_hit ?_ | refine Fin.block_miss rfl ?_ | refine Fin.loop_exit ?_ | refine Fin.loop_ret ?_ | refine WP.seq ?_ | (refine WP.regionQ (by kernel_rfl) (by kernel_rfl) ?_) | refine WP.block ?_ | refine WP.region ?_ | refine WP.skip ?_ | refine WP.exit ?_ | refine WP.ret ?_ | refine WP.label ?_ | refine WP.cond_true rfl ?_ | refine WP.cond_false rfl ?_ | (refine WP.cond_dec rfl (fun h => ?_) (fun h => ?_) <;> (try (exfalso; omega))) | (refine WP.cond_bool rfl (fun h => ?_) (fun h => ?_)) | refine WL.nil ?_ | refine WL.cons ?_ | (show OP _ _ _ _ _ _ _ ⟨_, .move _, _, _, _, none⟩ _ _; first | refine OP.mI rfl rfl ?_ | refine OP.mB rfl rfl ?_ | refine OP.mC rfl rfl ?_ | refine OP.mF rfl rfl ?_ | refine OP.mS rfl rfl ?_ | refine OP.mP rfl rfl ?_ | refine OP.mA rfl rfl ?_ | refine OP.mT rfl rfl ?_ | refine OP.mM rfl rfl ?_ | refine OP.mU rfl rfl ?_ | refine OP.move rfl rfl ?_) | (show OP _ _ _ _ _ _ _ ⟨_, .assign _, _, _, _, none⟩ _ _; first | refine OP.aI rfl rfl ?_ | refine OP.aB rfl rfl ?_ | refine OP.aC rfl rfl ?_ | refine OP.aF rfl rfl ?_ | refine OP.aS rfl rfl ?_ | refine OP.aP rfl rfl ?_ | refine OP.aA rfl rfl ?_ | refine OP.aT rfl rfl ?_ | refine OP.aM rfl rfl ?_ | refine OP.aU rfl rfl ?_ | refine OP.assign rfl rfl ?_) | (show OP _ _ _ _ _ _ _ ⟨_, .call _, _, _, _, none⟩ _ _; first | refine OP.callq (.complex .f64 (ldx m a.1) (ldx m a.2)) rfl (fun w' hst => eachG_fn m a hm h1 h2 hw bx w' ((Sees.own (List.Mem.head _) rfl).out w' hst)) (fun _ _ h => h.1) ?_ | refine OP.max2 rfl rfl rfl ?_ | refine OP.min2 rfl rfl rfl ?_) | (show OP _ _ _ _ _ _ _ ⟨_, .load _ _, _, _, _, none⟩ _ _; first | refine OP.ld rfl rfl inferInstance rfl ?_ | refine OP.load rfl rfl (Sees.old0 (by assumption)) ?_ | refine OP.ldA rfl rfl inferInstance rfl ?_) | (show OP _ _ _ _ _ _ _ ⟨_, .store _ _ _, _, _, _, none⟩ _ _; first | refine OP.stI rfl rfl inferInstance rfl ?_ | refine OP.stB rfl rfl inferInstance rfl ?_ | refine OP.stC rfl rfl inferInstance rfl ?_ | refine OP.stF rfl rfl inferInstance rfl ?_ | refine OP.stS rfl rfl inferInstance rfl ?_ | refine OP.stP rfl rfl inferInstance rfl ?_ | refine OP.stM rfl rfl inferInstance rfl ?_ | refine OP.stU rfl rfl inferInstance rfl ?_ | refine OP.st (vs := [_]) rfl rfl inferInstance rfl rfl rfl ?_ | refine OP.st (vs := [_, _]) rfl rfl inferInstance rfl rfl rfl ?_ | refine OP.st (vs := [_, _, _]) rfl rfl inferInstance rfl rfl rfl ?_) | (show OP _ _ _ _ _ _ _ ⟨_, .box _ _, _, _, _, none⟩ _ _; first | refine OP.bxI rfl rfl (fun bx => ?_) | refine OP.bxB rfl rfl (fun bx => ?_) | refine OP.bxC rfl rfl (fun bx => ?_) | refine OP.bxF rfl rfl (fun bx => ?_) | refine OP.bxS rfl rfl (fun bx => ?_) | refine OP.bxP rfl rfl (fun bx => ?_) | refine OP.bxA rfl rfl (fun bx => ?_) | refine OP.bxM rfl rfl (fun bx => ?_) | refine OP.bxU rfl rfl (fun bx => ?_) | refine OP.box rfl rfl (fun bx => ?_)) | refine OP.makeFunc rfl ?_)
  all_goals refine Fin.drop (List.nil_sublist _) ?_
  all_goals refine Fin.ret1 (h0 := .inl rfl) rfl rfl ?_
  all_goals exact ⟨rfl, rfl⟩
end
end Go.Proofs.YthecbhegjdcjfaaDoor
end
section
/- Places with their bits reversed; what a round of butterflies leaves at each place. Nothing of the program. -/
set_option linter.unusedVariables false
set_option maxRecDepth 100000
namespace Go.Wav
open Go.Pen

theorem brev_top : ∀ (m b i : Nat), b < 2 → i < 2 ^ m → brev (m + 1) (b * 2 ^ m + i) = 2 * brev m i + b
  | 0, b, i, hb, hi => by
    obtain rfl : i = 0 := by simpa using hi
    show (b * 2 ^ 0 + 0) % 2 * 2 ^ 0 + brev 0 _ = 2 * brev 0 0 + b
    unfold brev
    omega
  | m + 1, b, i, hb, hi => by
    have hi2 : i / 2 < 2 ^ m := by rw [Nat.pow_succ] at hi; omega
    have ih := brev_top m b (i / 2) hb hi2
    show (b * 2 ^ (m + 1) + i) % 2 * 2 ^ (m + 1) + brev (m + 1) ((b * 2 ^ (m + 1) + i) / 2) = 2 * ((i % 2) * 2 ^ m + brev m (i / 2)) + b
    have e1 : (b * 2 ^ (m + 1) + i) % 2 = i % 2 := by rw [Nat.pow_succ, ← Nat.mul_assoc]; omega
    have e2 : (b * 2 ^ (m + 1) + i) / 2 = b * 2 ^ m + i / 2 := by rw [Nat.pow_succ, ← Nat.mul_assoc]; omega
    rw [e1, e2, ih, Nat.pow_succ, ← Nat.mul_assoc]
    generalize i % 2 * 2 ^ m = g
    omega
theorem brev_brev : ∀ (m i : Nat), i < 2 ^ m → brev m (brev m i) = i
  | 0, i, h => by
    obtain rfl : i = 0 := by simpa using h
    rfl
  | m + 1, i, h => by
    have h2 : i / 2 < 2 ^ m := by rw [Nat.pow_succ] at h; omega
    show brev (m + 1) ((i % 2) * 2 ^ m + brev m (i / 2)) = i
    rw [brev_top m (i % 2) _ (Nat.mod_lt _ (by decide)) (brev_lt _ _), brev_brev m _ h2]
    omega
theorem brev_even (c F : Nat) : brev (c + 1) (2 * F) = brev c F := by
  show (2 * F) % 2 * 2 ^ c + brev c ((2 * F) / 2) = _
  rw [Nat.mul_mod_right, Nat.mul_div_cancel_left _ (by decide), Nat.zero_mul, Nat.zero_add]
theorem brev_odd (c F : Nat) : brev (c + 1) (2 * F + 1) = 2 ^ c + brev c F := by
  have e1 : (2 * F + 1) % 2 = 1 := by omega
  have e2 : (2 * F + 1) / 2 = F := by omega
  show (2 * F + 1) % 2 * 2 ^ c + brev c ((2 * F + 1) / 2) = _
  rw [e1, e2, Nat.one_mul]
theorem trnTo_get {m : Nat} {x : List Cx} : ∀ {k : Nat}, k ≤ 2 ^ m → ∀ j, j < k → (trnTo m x k)[brev m j]? = some (x.getD j (0, 0))
  | 0, _, j, hj => absurd hj (by omega)
  | k + 1, hk, j, hj => by
    unfold trnTo
    rw [List.getElem?_set]
    by_cases e : j = k
    · subst e
      rw [if_pos rfl, if_pos (by rw [trnTo_len]; exact brev_lt _ _)]
    · have hne : brev m k ≠ brev m j := fun h => by
        have := congrArg (brev m) h
        rw [brev_brev _ _ (by omega), brev_brev _ _ (by omega)] at this
        exact e this.symm
      rw [if_neg hne]
      exact trnTo_get (by omega) j (by omega)
theorem trn_get {m : Nat} {x : List Cx} {F : Nat} (h : F < 2 ^ m) : (trn m x)[F]? = some (x.getD (brev m F) (0, 0)) := by
  have := trnTo_get (m := m) (x := x) (Nat.le_refl _) (brev m F) (brev_lt _ _)
  rwa [brev_brev _ _ h] at this

/-- One butterfly's two numbers. -/
def bt (a e o : Cx) : Option (Cx × Cx) := (mulC a o).bind fun t => (addC e t).bind fun p => (subC e t).bind fun d => some (p, d)
theorem place_inj {S a b x y : Nat} (hx : x < S) (hy : y < S) (h : a * S + x = b * S + y) : a = b ∧ x = y := by
  have hS : 0 < S := by omega
  have e1 : (a * S + x) / S = a := by rw [Nat.mul_comm, Nat.mul_add_div hS, Nat.div_eq_of_lt hx, Nat.add_zero]
  have e2 : (b * S + y) / S = b := by rw [Nat.mul_comm, Nat.mul_add_div hS, Nat.div_eq_of_lt hy, Nat.add_zero]
  have : a = b := by rw [← e1, ← e2, h]
  subst this
  exact ⟨rfl, by omega⟩
section
variable {w y : List Cx} {n S H q : Nat} {Pr : Nat → Nat → Cx → Cx → Prop}
/-- The blocks before j are done, of block j the first k. -/
def Part (y : List Cx) (n S H q : Nat) (Pr : Nat → Nat → Cx → Cx → Prop) (j k : Nat) (r : List Cx) : Prop :=
  r.length = n ∧ ∀ j' k', j' < q → k' < H →
    ((j' < j ∨ j' = j ∧ k' < k) → ∃ p d, r[j' * S + k']? = some p ∧ r[j' * S + k' + H]? = some d ∧ Pr j' k' p d) ∧
    (¬ (j' < j ∨ j' = j ∧ k' < k) → r[j' * S + k']? = y[j' * S + k']? ∧ r[j' * S + k' + H]? = y[j' * S + k' + H]?)
variable (hS : S = 2 * H) (hn : n = q * S) (hy : y.length = n)
  (hbt : ∀ j k, j < q → k < H → ∃ a e o p d, w[k * (n / S)]? = some a ∧ y[j * S + k]? = some e ∧ y[j * S + k + H]? = some o ∧ bt a e o = some (p, d) ∧ Pr j k p d)
include hS hn hy hbt
theorem part1 {j k : Nat} (hj : j < q) (hk : k < H) {r : List Cx} (hr : Part y n S H q Pr j k r) : ∃ r', bf1 w n S (j * S) k r = some r' ∧ Part y n S H q Pr j (k + 1) r' := by
  obtain ⟨a, e, o, p, d, ha, he, ho, hb, hp⟩ := hbt j k hj hk
  have hu := (hr.2 j k hj hk).2 (by omega)
  have h2 : S / 2 = H := by omega
  unfold bt at hb
  simp only [Option.bind_eq_some_iff, Option.some.injEq, Prod.mk.injEq] at hb
  obtain ⟨t, ht, p', hp', d', hd', rfl, rfl⟩ := hb
  refine ⟨(r.set (j * S + k) p').set (j * S + k + H) d', ?_, ?_, ?_⟩
  · unfold bf1
    rw [h2, ha, Option.bind_some, hu.2, ho, Option.bind_some, ht, Option.bind_some, hu.1, he, Option.bind_some, hp', Option.bind_some, hd', Option.bind_some]
  · simp [hr.1]
  · intro j' k' hj' hk'
    have hjS : j * S + S ≤ n := by
      rw [hn]
      have := Nat.mul_le_mul_right S (show j + 1 ≤ q by omega)
      rwa [Nat.add_mul, Nat.one_mul] at this
    by_cases hs : j' = j ∧ k' = k
    · obtain ⟨rfl, rfl⟩ := hs
      refine ⟨fun _ => ⟨p', d', ?_, ?_, hp⟩, fun h => absurd (.inr ⟨rfl, by omega⟩) h⟩
      · rw [List.getElem?_set_ne (by omega), List.getElem?_set_self (by rw [hr.1]; omega)]
      · rw [List.getElem?_set_self (by rw [List.length_set, hr.1]; omega)]
    · have n1 : j * S + k ≠ j' * S + k' := fun h => by
        have := place_inj (by omega) (by omega) h
        exact hs ⟨this.1.symm, this.2.symm⟩
      have n2 : j * S + k ≠ j' * S + k' + H := fun h => by
        have := place_inj (S := S) (a := j) (b := j') (x := k) (y := k' + H) (by omega) (by omega) (by omega)
        omega
      have n3 : j * S + k + H ≠ j' * S + k' := fun h => by
        have := place_inj (S := S) (a := j) (b := j') (x := k + H) (y := k') (by omega) (by omega) (by omega)
        omega
      have n4 : j * S + k + H ≠ j' * S + k' + H := fun h => n1 (by omega)
      rw [List.getElem?_set_ne n3, List.getElem?_set_ne n1, List.getElem?_set_ne n4, List.getElem?_set_ne n2]
      have old := hr.2 j' k' hj' hk'
      exact ⟨fun h => old.1 (by omega), fun h => old.2 (by omega)⟩
theorem partK {j : Nat} (hj : j < q) {r : List Cx} (hr : Part y n S H q Pr j 0 r) : ∀ k, k ≤ H → ∃ r', bfK w n S (j * S) r k = some r' ∧ Part y n S H q Pr j k r'
  | 0, _ => ⟨r, rfl, hr⟩
  | k + 1, hk => by
    obtain ⟨r', e, h⟩ := partK hj hr k (by omega)
    obtain ⟨r2, e2, h2⟩ := part1 hS hn hy hbt hj (by omega) h
    exact ⟨r2, by unfold bfK; rw [e, Option.bind_some, e2], h2⟩
theorem partF : ∀ j, j ≤ q → ∃ r, bfF w n S y j = some r ∧ Part y n S H q Pr j 0 r
  | 0, _ => ⟨y, rfl, hy, fun j' k' _ _ => ⟨fun h => by omega, fun _ => ⟨rfl, rfl⟩⟩⟩
  | j + 1, hj => by
    obtain ⟨r, e, h⟩ := partF j (by omega)
    obtain ⟨r2, e2, h2⟩ := partK hS hn hy hbt (by omega) h H (Nat.le_refl _)
    refine ⟨r2, by unfold bfF; rw [e, Option.bind_some, show S / 2 = H by omega, e2], h2.1, fun j' k' hj' hk' => ?_⟩
    have old := h2.2 j' k' hj' hk'
    exact ⟨fun h => old.1 (by omega), fun h => old.2 (by omega)⟩
/-- A whole round. -/
theorem round_get : ∃ r, bfF w n S y q = some r ∧ r.length = n ∧ ∀ j k, j < q → k < H → ∃ p d, r[j * S + k]? = some p ∧ r[j * S + k + H]? = some d ∧ Pr j k p d := by
  obtain ⟨r, e, h⟩ := partF hS hn hy hbt q (Nat.le_refl _)
  exact ⟨r, e, h.1, fun j k hj hk => (h.2 j k hj hk).1 (.inl hj)⟩
end
end Go.Wav
end
section
/- The first eighth of order 4096, as its bits (printed by 'eighthC 12'; checked in WgtG). Nothing of the program. -/
namespace Go.Wav
def E12 : List (Nat × Nat) := [
(4607182418800017408, 0), (4607182408202612454, 4564717057876576046), (4607182376410422530, 4569220649180767419), (4607182323423522444, 4571955681740560060), (4607182249242036882, 4573724215515480178), (4607182153866140398, 4575492732644139975), (4607182037296057422, 4576459225186735876), (4607181899532062254, 4577343460862592482),
(4607181740574479067, 4578227681973159813), (4607181560423681902, 4579111886437780185), (4607181359080094673, 4579996072175835083), (4607181136544191159, 4580520529071272243), (4607180892816495008, 4580962600092897022), (4607180627897579737, 4581404658630453276), (4607180341788068726, 4581846703643734566), (4607180034488635217, 4582288734092566276),
(4607179706000002317, 4582730748936808062), (4607179356322942988, 4583172747136356298), (4607178985458280057, 4583614727651146524), (4607178593406886202, 4584056689441155897), (4607178180169683961, 4584498631466405633), (4607177745747645717, 4584802486675064192), (4607177290141793711, 4585023436363055487), (4607176813353200025, 4585244374608843206),
(4607176315382986589, 4585465300892538317), (4607175796232325176, 4585686214694279932), (4607175255902437397, 4585907115494236537), (4607174694394594700, 4586128002772607210), (4607174111710118368, 4586348876009622852), (4607173507850379513, 4586569734685547396), (4607172882816799077, 4586790578280679046), (4607172236610847822, 4587011406275351490),
(4607171569234046334, 4587232218149935124), (4607170880687965015, 4587453013384838279), (4607170170974224082, 4587673791460508438), (4607169440094493559, 4587894551857433464), (4607168688050493275, 4588115294056142819), (4607167914843992864, 4588336017537208784), (4607167120476811756, 4588556721781247689), (4607166304950819172, 4588777406268921128),
(4607165468267934125, 4588998070480937184), (4607164610430125409, 4589193367094293537), (4607163731439411601, 4589303678145802340), (4607162831297861049, 4589413978280690151), (4607161910007591875, 4589524267239410099), (4607160967570771963, 4589634544762441611), (4607160003989618959, 4589744810590291021), (4607159019266400260, 4589855064463492186),
(4607158013403433019, 4589965306122607094), (4607156986403084124, 4590075535308226470), (4607155938267770210, 4590185751760970393), (4607154868999957637, 4590295955221488904), (4607153778602162497, 4590406145430462614), (4607152667076950602, 4590516322128603318), (4607151534426937479, 4590626485056654603), (4607150380654788361, 4590736633955392457),
(4607149205763218186, 4590846768565625880), (4607148009754991587, 4590956888628197499), (4607146792632922889, 4591066993883984168), (4607145554399876094, 4591177084073897584), (4607144295058764887, 4591287158938884897), (4607143014612552618, 4591397218219929315), (4607141713064252301, 4591507261658050720), (4607140390416926605, 4591617288994306271),
(4607139046673687846, 4591727299969791020), (4607137681837697982, 4591837294325638512), (4607136295912168607, 4591947271803021405), (4607134888900360933, 4592057232143152069), (4607133460805585796, 4592167175087283203), (4607132011631203642, 4592277100376708440), (4607130541380624520, 4592387007752762956), (4607129050057308067, 4592496896956824078),
(4607127537664763515, 4592606767730311893), (4607126004206549667, 4592716619814689858), (4607124449686274900, 4592826452951465409), (4607122874107597149, 4592936266882190564), (4607121277474223905, 4593046061348462537), (4607119659789912198, 4593155836091924342), (4607118021058468598, 4593265590854265407), (4607116361283749196, 4593375325377222171),
(4607114680469659604, 4593485039402578702), (4607112978620154938, 4593594732672167302), (4607111255739239817, 4593688012422887515), (4607109511830968343, 4593742837914760318), (4607107746899444102, 4593797652641645341), (4607105960948820150, 4593852456474558237), (4607104153983298999, 4593907249284540293), (4607102326007132615, 4593962030942658735),
(4607100477024622401, 4594016801320007031), (4607098607040119192, 4594071560287705190), (4607096716058023245, 4594126307716900072), (4607094804082784219, 4594181043478765688), (4607092871118901178, 4594235767444503503), (4607090917170922574, 4594290479485342740), (4607088942243446235, 4594345179472540682), (4607086946341119355, 4594399867277382974),
(4607084929468638487, 4594454542771183930), (4607082891630749524, 4594509205825286831), (4607080832832247698, 4594563856311064231), (4607078753077977558, 4594618494099918257), (4607076652372832969, 4594673119063280916), (4607074530721757092, 4594727731072614390), (4607072388129742378, 4594782329999411348), (4607070224601830552, 4594836915715195239),
(4607068040143112603, 4594891488091520602), (4607065834758728775, 4594946046999973364), (4607063608453868552, 4595000592312171145), (4607061361233770642, 4595055123899763553), (4607059093103722971, 4595109641634432498), (4607056804069062669, 4595164145387892483), (4607054494135176056, 4595218635031890910), (4607052163307498629, 4595273110438208384),
(4607049811591515050, 4595327571478659015), (4607047438992759134, 4595382018025090709), (4607045045516813837, 4595436449949385486), (4607042631169311237, 4595490867123459769), (4607040195955932527, 4595545269419264691), (4607037739882408000, 4595599656708786395), (4607035262954517035, 4595654028864046336), (4607032765178088081, 4595708385757101579),
(4607030246558998647, 4595762727260045106), (4607027707103175289, 4595817053245006109), (4607025146816593590, 4595871363584150300), (4607022565705278152, 4595925658149680203), (4607019963775302582, 4595979936813835462), (4607017341032789469, 4596034199448893137), (4607014697483910381, 4596088445927168004), (4607012033134885843, 4596142676121012862),
(4607009347991985328, 4596196889902818827), (4607006642061527234, 4596251087145015631), (4607003915349878876, 4596305267720071930), (4607001167863456472, 4596359431500495596), (4606998399608725123, 4596413578358834022), (4606995610592198799, 4596467708167674420), (4606992800820440326, 4596521820799644122), (4606989970300061367, 4596575916127410876),
(4606987119037722413, 4596629994023683153), (4606984247040132756, 4596684054361210437), (4606981354314050485, 4596738097012783532), (4606978440866282464, 4596792121851234859), (4606975506703684316, 4596846128749438755), (4606972551833160411, 4596900117580311771), (4606969576261663844, 4596954088216812974), (4606966579996196422, 4597008040531944241),
(4606963563043808649, 4597061974398750563), (4606960525411599702, 4597115889690320344), (4606957467106717425, 4597169786279785693), (4606954388136358304, 4597223664040322729), (4606951288507767453, 4597277522845151878), (4606948168228238599, 4597331362567538169), (4606945027305114062, 4597385183080791535), (4606941865745784735, 4597438984258267108),
(4606938683557690073, 4597492765973365521), (4606935480748318074, 4597546528099533205), (4606932257325205255, 4597600270510262682), (4606929013295936644, 4597653993079092869), (4606925748668145756, 4597707695679609371), (4606922463449514573, 4597761378185444783), (4606919157647773534, 4597815040470278984), (4606915831270701508, 4597868682407839432),
(4606912484326125783, 4597922303871901467), (4606909116821922042, 4597975904736288605), (4606905728766014348, 4598029484874872834), (4606902320166375124, 4598083044161574912), (4606898891031025132, 4598136582470364665), (4606895441368033462, 4598182659610268848), (4606891971185517503, 4598209407597805010), (4606888480491642930, 4598236144907488428),
(4606884969294623682, 4598262871476403630), (4606881437602721945, 4598289587241660418), (4606877885424248132, 4598316292140394014), (4606874312767560861, 4598342986109765213), (4606870719641066939, 4598369669086960528), (4606867106053221339, 4598396341009192334), (4606863472012527184, 4598423001813699022), (4606859817527535721, 4598449651437745144),
(4606856142606846307, 4598476289818621559), (4606852447259106385, 4598502916893645585), (4606848731493011465, 4598529532600161144), (4606844995317305104, 4598556136875538905), (4606841238740778883, 4598582729657176439), (4606837461772272391, 4598609310882498361), (4606833664420673201, 4598635880488956484), (4606829846694916845, 4598662438414029953),
(4606826008603986804, 4598688984595225405), (4606822150156914473, 4598715518970077115), (4606818271362779154, 4598742041476147133), (4606814372230708021, 4598768552051025441), (4606810452769876109, 4598795050632330096), (4606806512989506290, 4598821537157707376), (4606802552898869247, 4598848011564831929), (4606798572507283456, 4598874473791406916),
(4606794571824115162, 4598900923775164166), (4606790550858778359, 4598927361453864306), (4606786509620734768, 4598953786765296929), (4606782448119493811, 4598980199647280722), (4606778366364612593, 4599006600037663623), (4606774264365695878, 4599032987874322964), (4606770142132396067, 4599059363095165615), (4606765999674413171, 4599085725638128135),
(4606761837001494796, 4599112075441176914), (4606757654123436110, 4599138412442308319), (4606753451050079834, 4599164736579548843), (4606749227791316201, 4599191047790955247), (4606744984357082947, 4599217346014614711), (4606740720757365285, 4599243631188644973), (4606736437002195878, 4599269903251194481), (4606732133101654813, 4599296162140442532),
(4606727809065869585, 4599322407794599426), (4606723464905015067, 4599348640151906600), (4606719100629313490, 4599374859150636786), (4606714716249034415, 4599401064729094145), (4606710311774494715, 4599427256825614420), (4606705887216058541, 4599453435378565080), (4606701442584137310, 4599479600326345459), (4606696977889189666, 4599505751607386909),
(4606692493141721469, 4599531889160152938), (4606687988352285764, 4599558012923139361), (4606683463531482755, 4599584122834874439), (4606678918689959783, 4599610218833919028), (4606674353838411299, 4599636300858866723), (4606669768987578839, 4599662368848343998), (4606665164148251001, 4599688422741010356), (4606660539331263415, 4599714462475558471),
(4606655894547498725, 4599740487990714334), (4606651229807886552, 4599766499225237390), (4606646545123403482, 4599792496117920695), (4606641840505073028, 4599818478607591048), (4606637115963965612, 4599844446633109140), (4606632371511198536, 4599870400133369700), (4606627607157935957, 4599896339047301635), (4606622822915388856, 4599922263313868174),
(4606618018794815018, 4599948172872067015), (4606613194807519005, 4599974067660930463), (4606608350964852124, 4599999947619525580), (4606603487278212403, 4600025812686954322), (4606598603759044569, 4600051662802353688), (4606593700418840013, 4600077497904895858), (4606588777269136769, 4600103317933788344), (4606583834321519483, 4600129122828274119),
(4606578871587619389, 4600154912527631776), (4606573889079114278, 4600180686971175661), (4606568886807728474, 4600206446098256019), (4606563864785232805, 4600232189848259135), (4606558823023444576, 4600257918160607480), (4606553761534227539, 4600283630974759848), (4606548680329491866, 4600309328230211504), (4606543579421194124, 4600335009866494324),
(4606538458821337243, 4600360675823176936), (4606533318541970488, 4600386326039864867), (4606528158595189433, 4600411960456200677), (4606522978993135932, 4600437579011864110), (4606517779747998088, 4600463181646572229), (4606512560872010228, 4600488768300079562), (4606507322377452871, 4600514338912178241), (4606502064276652700, 4600539893422698146),
(4606496786581982534, 4600565431771507043), (4606491489305861299, 4600590953898510734), (4606486172460754000, 4600616459743653189), (4606480836059171683, 4600641949246916687), (4606475480113671417, 4600667422348321968), (4606470104636856260, 4600692878987928362), (4606464709641375231, 4600718319105833938), (4606459295139923271, 4600743742642175640),
(4606453861145241226, 4600769149537129431), (4606448407670115812, 4600794539730910435), (4606442934727379582, 4600819913163773071), (4606437442329910898, 4600845269776011202), (4606431930490633904, 4600870609507958270), (4606426399222518488, 4600895932299987438), (4606420848538580260, 4600921238092511729), (4606415278451880513, 4600946526825984171),
(4606409688975526202, 4600971798440897931), (4606404080122669902, 4600997052877786456), (4606398451906509788, 4601022290077223617), (4606392804340289594, 4601047509979823846), (4606387137437298591, 4601072712526242277), (4606381451210871548, 4601097897657174883), (4606375745674388704, 4601123065313358619), (4606370020841275739, 4601148215435571558),
(4606364276725003740, 4601173347964633034), (4606358513339089164, 4601198462841403777), (4606352730697093817, 4601223560006786057), (4606346928812624812, 4601248639401723819), (4606341107699334546, 4601273700967202825), (4606335267370920660, 4601298744644250789), (4606329407841126010, 4601323770373937523), (4606323529123738637, 4601348778097375064),
(4606317631232591731, 4601373767755717825), (4606311714181563598, 4601398739290162725), (4606305777984577632, 4601423692641949332), (4606299822655602276, 4601448627752359999), (4606293848208650998, 4601473544562720002), (4606287854657782245, 4601498443014397679), (4606281842017099424, 4601523323048804570), (4606275810300750857, 4601548184607395549),
(4606269759522929756, 4601573027631668968), (4606263689697874186, 4601597852063166790), (4606257600839867033, 4601622657843474731), (4606251492963235965, 4601647444914222392), (4606245366082353408, 4601672213217083404), (4606239220211636504, 4601696962693775555), (4606233055365547080, 4601721693286060939), (4606226871558591615, 4601746404935746080),
(4606220668805321206, 4601771097584682079), (4606214447120331526, 4601795771174764750), (4606208206518262804, 4601820425647934754), (4606201947013799778, 4601845060946177731), (4606195668621671668, 4601869677011524443), (4606189371356652136, 4601894273786050915), (4606183055233559256, 4601918851211878557), (4606176720267255474, 4601943409231174314),
(4606170366472647579, 4601967947786150794), (4606163993864686663, 4601992466819066406), (4606157602458368090, 4602016966272225498), (4606151192268731454, 4602041446087978489), (4606144763310860551, 4602065906208722009), (4606138315599883340, 4602090346576899031), (4606131849150971908, 4602114767134999006), (4606125363979342434, 4602139167825558004),
(4606118860100255153, 4602163548591158844), (4606112337529014320, 4602187909374431227), (4606105796280968178, 4602212250118051878), (4606099236371508912, 4602236570764744675), (4606092657816072623, 4602260871257280788), (4606086060630139290, 4602285151538478811), (4606079444829232727, 4602309411551204897), (4606072810428920553, 4602333651238372891),
(4606066157444814153, 4602357870542944470), (4606059485892568641, 4602382069407929269), (4606052795787882823, 4602406247776385023), (4606046087146499162, 4602430405591417693), (4606039359984203741, 4602454542796181608), (4606032614316826220, 4602478659333879594), (4606025850160239809, 4602502755147763108), (4606019067530361219, 4602526830181132372),
(4606012266443150634, 4602550884377336507), (4606005446914611669, 4602574917679773666), (4605998608960791335, 4602598930031891167), (4605991752597779997, 4602622921377185626), (4605984877841711338, 4602646891659203088), (4605977984708762324, 4602670840821539167), (4605971073215153165, 4602686793990243041), (4605964143377147270, 4602698747367222572),
(4605957195211051219, 4602710690099904183), (4605950228733214716, 4602722622160185470), (4605943243960030559, 4602734543519989141), (4605936240907934592, 4602746454151263087), (4605929219593405673, 4602758354025980442), (4605922180032965635, 4602770243116139650), (4605915122243179242, 4602782121393764535), (4605908046240654156, 4602793988830904361),
(4605900952042040894, 4602805845399633902), (4605893839664032791, 4602817691072053507), (4605886709123365960, 4602829525820289165), (4605879560436819251, 4602841349616492569), (4605872393621214213, 4602853162432841185), (4605865208693415058, 4602864964241538315), (4605858005670328613, 4602876755014813164), (4605850784568904289, 4602888534724920903),
(4605843545406134034, 4602900303344142735), (4605836288199052297, 4602912060844785964), (4605829012964735988, 4602923807199184054), (4605821719720304435, 4602935542379696699), (4605814408482919349, 4602947266358709886), (4605807079269784775, 4602958979108635959), (4605799732098147062, 4602970680601913688), (4605792366985294812, 4602982370811008326),
(4605784983948558848, 4602994049708411683), (4605777583005312169, 4603005717266642186), (4605770164172969911, 4603017373458244943), (4605762727468989300, 4603029018255791809), (4605755272910869620, 4603040651631881452), (4605747800516152167, 4603052273559139412), (4605740310302420207, 4603063884010218173), (4605732802287298937, 4603075482957797222),
(4605725276488455441, 4603087070374583113), (4605717732923598651, 4603098646233309537), (4605710171610479304, 4603110210506737381), (4605702592566889899, 4603121763167654791), (4605694995810664660, 4603133304188877240), (4605687381359679487, 4603144833543247591), (4605679749231851918, 4603156351203636159), (4605672099445141087, 4603167857142940777),
(4605664432017547682, 4603179351334086856), (4605656746967113900, 4603190833750027457), (4605649044311923409, 4603202304363743346), (4605641324070101298, 4603213763148243059), (4605633586259814043, 4603225210076562970), (4605625830899269459, 4603236645121767352), (4605618058006716659, 4603248068256948437), (4605610267600446009, 4603259479455226487),
(4605602459698789089, 4603270878689749848), (4605594634320118644, 4603282265933695021), (4605586791482848546, 4603293641160266721), (4605578931205433749, 4603305004342697941), (4605571053506370247, 4603316355454250014), (4605563158404195024, 4603327694468212680), (4605555245917486020, 4603339021357904143), (4605547316064862080, 4603350336096671138),
(4605539368864982913, 4603361638657888990), (4605531404336549048, 4603372929014961682), (4605523422498301789, 4603384207141321913), (4605515423369023173, 4603395473010431162), (4605507406967535925, 4603406726595779751), (4605499373312703411, 4603417967870886906), (4605491322423429597, 4603429196809300823), (4605483254318659003, 4603440413384598723),
(4605475169017376659, 4603451617570386921), (4605467066538608059, 4603462809340300886), (4605458946901419121, 4603473988668005303), (4605450810124916132, 4603485155527194133), (4605442656228245716, 4603496309891590677), (4605434485230594778, 4603507451734947640), (4605426297151190465, 4603518581031047188), (4605418092009300119, 4603529697753701011),
(4605409869824231232, 4603540801876750389), (4605401630615331398, 4603551893374066244), (4605393374401988274, 4603562972219549215), (4605385101203629525, 4603574038387129706), (4605376811039722785, 4603585091850767959), (4605368503929775613, 4603596132584454103), (4605360179893335443, 4603607160562208226), (4605351838949989532, 4603618175758080431),
(4605343481119364929, 4603629178146150898), (4605335106421128415, 4603640167700529946), (4605326714874986465, 4603651144395358093), (4605318306500685196, 4603662108204806113), (4605309881318010325, 4603673059103075105), (4605301439346787123, 4603683997064396547), (4605292980606880363, 4603694922063032360), (4605284505118194276, 4603705834073274967),
(4605276012900672507, 4603716733069447353), (4605267503974298062, 4603727619025903127), (4605258978359093268, 4603738491917026583), (4605250436075119721, 4603749351717232757), (4605241877142478242, 4603760198400967491), (4605233301581308824, 4603771031942707489), (4605224709411790591, 4603781852316960383), (4605216100654141748, 4603792659498264785),
(4605207475328619533, 4603803453461190356), (4605198833455520171, 4603814234180337856), (4605190175055178825, 4603825001630339212), (4605181500147969545, 4603835755785857574), (4605172808754305228, 4603846496621587377), (4605164100894637561, 4603857224112254395), (4605155376589456981, 4603867938232615808), (4605146635859292618, 4603878638957460254),
(4605137878724712256, 4603889326261607894), (4605129105206322279, 4603900000119910470), (4605120315324767623, 4603910660507251362), (4605111509100731727, 4603921307398545648), (4605102686554936489, 4603931940768740167), (4605093847708142210, 4603942560592813569), (4605084992581147552, 4603953166845776383), (4605076121194789482, 4603963759502671071),
(4605067233569943230, 4603974338538572088), (4605058329727522236, 4603984903928585942), (4605049409688478100, 4603995455647851248), (4605040473473800537, 4604005993671538792), (4605031521104517323, 4604016517974851587), (4605022552601694247, 4604027028533024930), (4605013567986435064, 4604037525321326462), (4605004567279881440, 4604048008315056227),
(4604995550503212909, 4604058477489546729), (4604986517677646815, 4604068932820162986), (4604977468824438271, 4604079374282302598), (4604968403964880100, 4604089801851395794), (4604959323120302795, 4604100215502905499), (4604950226312074460, 4604110615212327383), (4604941113561600762, 4604121000955189926), (4604931984890324884, 4604131372707054471),
(4604922840319727472, 4604141730443515286), (4604913679871326582, 4604152074140199614), (4604904503566677638, 4604162403772767740), (4604895311427373367, 4604172719316913039), (4604886103475043761, 4604183020748362039), (4604876879731356024, 4604193308042874478), (4604867640218014513, 4604203581176243358), (4604858384956760697, 4604213840124295004),
(4604849113969373102, 4604224084862889119), (4604839827277667252, 4604234315367918845), (4604830524903495634, 4604244531615310814), (4604821206868747629, 4604254733581025210), (4604811873195349475, 4604264921241055824), (4604802523905264208, 4604275094571430105), (4604793159020491609, 4604285253548209223), (4604783778563068157, 4604295398147488127),
(4604774382555066976, 4604305528345395595), (4604764971018597778, 4604315644118094291), (4604755543975806819, 4604325745441780827), (4604746101448876840, 4604335832292685810), (4604736643460027019, 4604345904647073907), (4604727170031512919, 4604355962481243894), (4604717681185626432, 4604366005771528719), (4604708176944695728, 4604376034494295545),
(4604698657331085205, 4604386048625945823), (4604689122367195432, 4604396048142915330), (4604679572075463102, 4604406033021674240), (4604670006478360972, 4604416003238727166), (4604660425598397816, 4604425958770613225), (4604650829458118371, 4604435899593906089), (4604641218080103283, 4604445825685214043), (4604631591486969051, 4604455737021180032),
(4604621949701367981, 4604465633578481726), (4604612292745988122, 4604475515333831570), (4604602620643553228, 4604485382263976839), (4604592933416822685, 4604495234345699693), (4604583231088591476, 4604505071555817232), (4604573513681690116, 4604514893871181551), (4604563781218984603, 4604524701268679793), (4604554033723376360, 4604534493725234204),
(4604544271217802189, 4604544271217802189)]
end Go.Wav
end
