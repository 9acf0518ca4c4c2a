/- Floats: bounds that rounding keeps. Nothing of the program. -/
import Derived.Test.YtjckoflcjkajiaaDoorFlw
set_option linter.unusedVariables false
set_option maxRecDepth 100000
namespace Go.Flt
open Ieee

theorem cut_le {s : Bool} {n d M : Nat} (h : n ≤ M * 2 ^ d) : Toward.even.cut s n d ≤ M := by
  unfold Toward.cut
  by_cases hd : d ≤ n.log2 + 2
  · rw [Nat.min_eq_left hd, Nat.shiftLeft_eq, Nat.one_mul]
    have p := Nat.two_pow_pos d
    generalize 2 ^ d = g at h p
    dsimp only
    have hdm := Nat.div_add_mod n g
    have hlt := Nat.mod_lt n p
    by_cases hlow : n / g < M
    · have : (decide (g < 2 * (n % g)) || g == 2 * (n % g) && n / g % 2 == 1).toNat ≤ 1 := Bool.toNat_le _
      omega
    · have h1 : n / g ≤ M := by
        have := Nat.div_le_div_right (c := g) h
        rwa [Nat.mul_div_cancel _ p] at this
      have h2 : n / g = M := by omega
      have h3 : n % g = 0 := by rw [h2, Nat.mul_comm] at hdm; omega
      rw [h3]
      have e1 : ¬ g < 2 * 0 := by omega
      have e2 : ¬ g = 2 * 0 := by omega
      have e3 : (g == 0) = false := beq_eq_false_iff_ne.2 (by omega)
      simp [h2, e3]
  · rw [Nat.min_eq_right (by omega), Nat.shiftLeft_eq, Nat.one_mul]
    have hn : n < 2 ^ (n.log2 + 1) := Nat.lt_log2_self
    have e : 2 ^ (n.log2 + 2) = 2 ^ (n.log2 + 1) * 2 := Nat.pow_succ _ _
    generalize 2 ^ (n.log2 + 2) = g at e
    generalize 2 ^ (n.log2 + 1) = g1 at e hn
    dsimp only
    rw [Nat.div_eq_of_lt (by omega), Nat.mod_eq_of_lt (by omega)]
    have e1 : ¬ g < 2 * n := by omega
    have e2 : ¬ g = 2 * n := by omega
    simp [e1, beq_eq_false_iff_ne.2 e2]
/-- What is at most 2^k is written at most as 2^k. -/
theorem nearest_le {m j k : Nat} (hm : m ≤ 2 ^ (j + k)) : double.nearest false m (-(j : Int)) ≤ (1023 + k) * 4503599627370496 := by
  unfold Format.nearest
  by_cases h0 : m = 0
  · rw [if_pos h0]; exact Nat.zero_le _
  · rw [if_neg h0, lp, bn, ir, fb]
    dsimp only [Format.word]
    rw [if_neg (by decide)]
    have l1 := Nat.log2_self_le h0
    have l2 : m < 2 ^ (m.log2 + 1) := Nat.lt_log2_self
    obtain ⟨L, hL⟩ : ∃ L : Int, L = max (-(j : Int) + (m.log2 : Int) - ((52 : Nat) : Int)) (-1074) := ⟨_, rfl⟩
    rw [← hL]
    obtain ⟨d, hd⟩ : ∃ d, d = (L - -(j : Int)).toNat := ⟨_, rfl⟩
    obtain ⟨u, hu⟩ : ∃ u, u = (-(j : Int) - L).toNat := ⟨_, rfl⟩
    rw [← hd, ← hu]
    refine Nat.le_trans (Nat.min_le_left _ _) ?_
    rw [Nat.shiftLeft_eq]
    have hlg : m.log2 ≤ j + k := by
      have : m.log2 < j + k + 1 := (Nat.log2_lt h0).2 (Nat.lt_of_le_of_lt hm (Nat.pow_lt_pow_right (by decide) (by omega)))
      omega
    by_cases hlt : m.log2 < j + k
    · have hc : Toward.even.cut false (m * 2 ^ u) d ≤ 2 ^ 53 := by
        refine cut_le ?_
        rw [← Nat.pow_add]
        calc m * 2 ^ u ≤ 2 ^ (m.log2 + 1) * 2 ^ u := Nat.mul_le_mul_right _ (Nat.le_of_lt l2)
          _ = 2 ^ (m.log2 + 1 + u) := (Nat.pow_add _ _ _).symm
          _ ≤ _ := Nat.pow_le_pow_right (by decide) (by omega)
      have h3 : (L - -1074).toNat ≤ 1021 + k := by omega
      have hm2 := Nat.mul_le_mul_right 4503599627370496 h3
      have hc2 : Toward.even.cut false (m * 2 ^ u) d ≤ 2 * 4503599627370496 := Nat.le_trans hc (by decide)
      refine Nat.le_trans (Nat.add_le_add hm2 hc2) ?_
      rw [← Nat.add_mul]
      exact Nat.mul_le_mul_right _ (by omega)
    · have hmm : m = 2 ^ (j + k) := by
        have e : m.log2 = j + k := by omega
        rw [e] at l1
        exact Nat.le_antisymm hm l1
      have hc : Toward.even.cut false (m * 2 ^ u) d ≤ 2 ^ 52 := by
        refine cut_le ?_
        rw [hmm, ← Nat.pow_add, ← Nat.pow_add]
        exact Nat.pow_le_pow_right (by decide) (by omega)
      have h3 : (L - -1074).toNat ≤ 1022 + k := by omega
      have hm2 := Nat.mul_le_mul_right 4503599627370496 h3
      have hc2 : Toward.even.cut false (m * 2 ^ u) d ≤ 1 * 4503599627370496 := Nat.le_trans hc (by decide)
      refine Nat.le_trans (Nat.add_le_add hm2 hc2) ?_
      rw [← Nat.add_mul]
      exact Nat.mul_le_mul_right _ (by omega)
/-- Bits that are at most those of 2^k read as a number that is at most 2^k. -/
theorem read_le {p k : Nat} (hk : k ≤ 1) (h : p ≤ (1023 + k) * 4503599627370496) : ∃ m j : Nat, double.read p = .number false m (-(j : Int)) ∧ m ≤ 2 ^ (j + k) := by
  by_cases hs : p < 4503599627370496
  · refine ⟨p, 1074, ?_, ?_⟩
    · unfold Format.read
      rw [sw, bn, ir, lp]
      have e1 : p / 9223372036854775808 % 2 = 0 := by omega
      have e2 : p % 9223372036854775808 = p := Nat.mod_eq_of_lt (by omega)
      simp only [e1, e2]
      rw [if_pos hs]; rfl
    · exact Nat.le_trans (Nat.le_of_lt hs) (Nat.le_trans (show 4503599627370496 ≤ 2 ^ 52 by decide) (Nat.pow_le_pow_right (by decide) (by omega)))
  · refine ⟨4503599627370496 + p % 4503599627370496, 1075 - p / 4503599627370496, ?_, ?_⟩
    · rw [read_pos (by omega) (by omega)]
      congr 1
      omega
    · by_cases he : p / 4503599627370496 ≤ 1022 + k
      · exact Nat.le_trans (show 4503599627370496 + p % 4503599627370496 ≤ 2 ^ 53 by omega) (Nat.pow_le_pow_right (by decide) (by omega))
      · exact Nat.le_trans (show 4503599627370496 + p % 4503599627370496 ≤ 2 ^ 52 by omega) (Nat.pow_le_pow_right (by decide) (by omega))
def one' : Nat := 4607182418800017408
theorem order_selfB {p : Nat} (h : p ≤ one') : double.order p p = some .eq := by
  obtain ⟨m, j, e, _⟩ := read_le (p := p) (k := 0) (by decide) (by unfold one' at h; omega)
  unfold Format.order
  rw [e]
  unfold Datum.order
  simp
theorem order_nonneg {p : Nat} (h : p ≤ one') : (double.order p 0 == some .lt) = false := by
  obtain ⟨m, j, e, _⟩ := read_le (p := p) (k := 0) (by decide) (by unfold one' at h; omega)
  unfold Format.order
  rw [e, read_zero]
  unfold Datum.order
  simp only [signed, Bool.false_eq_true, if_false, Nat.zero_shiftLeft]
  generalize m <<< _ = X
  have hc : compare ((X : Nat) : Int) ((0 : Nat) : Int) ≠ .lt := by
    intro hc
    rw [Int.compare_eq_lt] at hc; omega
  cases hcc : compare ((X : Nat) : Int) ((0 : Nat) : Int) with
  | lt => exact absurd hcc hc
  | eq => rfl
  | gt => rfl
theorem read_one : double.read one' = .number false (2 ^ 52) (-52) := by decide
theorem order_one {p : Nat} (h : p ≤ one') : (double.order p one' == some .gt) = false := by
  obtain ⟨m, j, e, hm⟩ := read_le (p := p) (k := 0) (by decide) (by unfold one' at h; omega)
  unfold Format.order
  rw [e, read_one]
  unfold Datum.order
  simp only [signed, Bool.false_eq_true, if_false, Nat.shiftLeft_eq]
  have key : m * 2 ^ (-(j : Int) - min (-(j : Int)) (-52)).toNat ≤ 2 ^ 52 * 2 ^ ((-52 : Int) - min (-(j : Int)) (-52)).toNat := by
    rw [← Nat.pow_add]
    calc _ ≤ 2 ^ (j + 0) * 2 ^ (-(j : Int) - min (-(j : Int)) (-52)).toNat := Nat.mul_le_mul_right _ hm
      _ = 2 ^ (j + 0 + (-(j : Int) - min (-(j : Int)) (-52)).toNat) := (Nat.pow_add _ _ _).symm
      _ ≤ _ := Nat.pow_le_pow_right (by decide) (by omega)
  generalize m * 2 ^ (-(j : Int) - min (-(j : Int)) (-52)).toNat = X at key ⊢
  generalize 2 ^ 52 * 2 ^ ((-52 : Int) - min (-(j : Int)) (-52)).toNat = Y at key ⊢
  have hc : compare ((X : Nat) : Int) ((Y : Nat) : Int) ≠ .gt := by
    intro hc
    rw [Int.compare_eq_gt] at hc; omega
  cases hcc : compare ((X : Nat) : Int) ((Y : Nat) : Int) with
  | lt => rfl
  | eq => rfl
  | gt => exact absurd hcc hc
end Go.Flt
