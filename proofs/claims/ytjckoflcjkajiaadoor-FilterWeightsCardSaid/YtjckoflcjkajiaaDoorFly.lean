/- Floats from 0 to 1: products, half of one more, quotients. Nothing of the program. -/
import Derived.Test.YtjckoflcjkajiaaDoorFlx
set_option linter.unusedVariables false
set_option maxRecDepth 100000
namespace Go.Flt
open Ieee

theorem one_b {p : Nat} (h : p ≤ one') : p ≤ (1023 + 0) * 4503599627370496 := Nat.le_trans h (by decide)
theorem mul_le1 {p q : Nat} (hp : p ≤ one') (hq : q ≤ one') : ∃ r, double.mul p q = some r ∧ r ≤ one' := by
  obtain ⟨m, j, e1, h1⟩ := read_le (k := 0) (by decide) (one_b hp)
  obtain ⟨n, i, e2, h2⟩ := read_le (k := 0) (by decide) (one_b hq)
  unfold Format.mul
  rw [e1, e2]
  refine ⟨_, rfl, ?_⟩
  show double.nearest (false ^^ false) (m * n) (-(j : Int) + -(i : Int)) ≤ one'
  rw [show -(j : Int) + -(i : Int) = -((j + i : Nat) : Int) by omega]
  refine Nat.le_trans (nearest_le (k := 0) ?_) (by decide)
  rw [show j + i + 0 = (j + 0) + (i + 0) by omega, Nat.pow_add]
  exact Nat.mul_le_mul h1 h2
theorem read_half : double.read 4602678819172646912 = .number false (2 ^ 52) (-53) := by decide
theorem half_le {s : Nat} (hs : s ≤ (1023 + 1) * 4503599627370496) : ∃ x, double.mul 4602678819172646912 s = some x ∧ x ≤ one' := by
  obtain ⟨m, j, e, hm⟩ := read_le (k := 1) (by decide) hs
  unfold Format.mul
  rw [e, read_half]
  refine ⟨_, rfl, ?_⟩
  show double.nearest (false ^^ false) (2 ^ 52 * m) (-53 + -(j : Int)) ≤ one'
  rw [show (-53 : Int) + -(j : Int) = -((j + 53 : Nat) : Int) by omega]
  refine Nat.le_trans (nearest_le (k := 0) ?_) (by decide)
  rw [show j + 53 + 0 = 52 + (j + 1) by omega, Nat.pow_add]
  exact Nat.mul_le_mul_left _ hm
theorem addone_le {p : Nat} (hp : p < 18446744073709551616) (ha : p % 9223372036854775808 ≤ one') : ∃ s, double.add one' p = some s ∧ s ≤ (1023 + 1) * 4503599627370496 := by
  obtain ⟨sg, m, j, e, hm⟩ : ∃ sg m, ∃ j : Nat, double.read p = .number sg m (-(j : Int)) ∧ m ≤ 2 ^ j := by
    by_cases hs : p < 9223372036854775808
    · rw [Nat.mod_eq_of_lt hs] at ha
      obtain ⟨m, j, e, h⟩ := read_le (k := 0) (by decide) (one_b ha)
      exact ⟨false, m, j, e, h⟩
    · have e0 : p = 9223372036854775808 + p % 9223372036854775808 := by omega
      obtain ⟨m, j, e, h⟩ := read_le (k := 0) (by decide) (one_b ha)
      refine ⟨true, m, j, ?_, h⟩
      rw [e0, read_sign (Nat.mod_lt _ (by decide)), e]; rfl
  unfold Format.add
  rw [read_one, e]
  unfold Datum.sum
  obtain ⟨b, hb⟩ : ∃ b : Nat, b = max 52 j := ⟨_, rfl⟩
  have eb : min (-52 : Int) (-(j : Int)) = -(b : Int) := by omega
  simp only [eb, Option.map_some, Option.some.injEq]
  obtain ⟨u, hu⟩ : ∃ u, u = ((-52 : Int) - -(b : Int)).toNat := ⟨_, rfl⟩
  obtain ⟨v, hv⟩ : ∃ v, v = (-(j : Int) - -(b : Int)).toNat := ⟨_, rfl⟩
  rw [← hu, ← hv]
  have hT : 2 ^ 52 * 2 ^ u = 2 ^ b := by rw [← Nat.pow_add]; congr 1; omega
  have hX : m * 2 ^ v ≤ 2 ^ b := by
    calc m * 2 ^ v ≤ 2 ^ j * 2 ^ v := Nat.mul_le_mul_right _ hm
      _ = 2 ^ (j + v) := (Nat.pow_add _ _ _).symm
      _ = 2 ^ b := by congr 1; omega
  have h2 : 2 ^ (b + 1) = 2 ^ b * 2 := Nat.pow_succ _ _
  have hp0 := Nat.two_pow_pos b
  obtain ⟨t, ht, htb⟩ : ∃ t : Nat, signed false (2 ^ 52) u + signed sg m v = (t : Int) ∧ t ≤ 2 ^ (b + 1) := by
    unfold signed
    rw [Nat.shiftLeft_eq, Nat.shiftLeft_eq, hT]
    rw [h2]
    generalize m * 2 ^ v = X at hX ⊢
    clear hT h2
    generalize 2 ^ b = T at hX hp0 ⊢
    cases sg
    · exact ⟨T + X, by simp only [Bool.false_eq_true, if_false]; omega, by omega⟩
    · exact ⟨T - X, by simp only [Bool.false_eq_true, if_false, if_true]; omega, by omega⟩
  rw [ht]
  refine ⟨_, rfl, ?_⟩
  have es : (if ((t : Nat) : Int) = 0 then (false && sg) else decide (((t : Nat) : Int) < 0)) = false := by
    split
    · rfl
    · exact decide_eq_false (by omega)
  rw [es, Int.natAbs_natCast]
  exact nearest_le htb
theorem tri_le {a N : Nat} (ha : a ≤ N) (hN : 0 < N) (hb : N < 9007199254740992) : ∃ t, double.div (fl a) (fl N) = some t ∧ t ≤ one' := by
  have hN0 : N ≠ 0 := by omega
  have bN := man_bd hN0 hb
  have lN := log_le hN0 hb
  unfold Format.div
  rw [fl_read hN0 hb]
  by_cases h0 : a = 0
  · subst h0
    rw [fl_zero, read_zero]
    unfold Datum.quotient
    dsimp only
    rw [if_neg (by omega)]
    refine ⟨_, rfl, ?_⟩
    simp only [Nat.zero_shiftLeft, Nat.zero_div, Nat.zero_mod]
    show double.nearest (false ^^ false) 0 _ ≤ one'
    unfold Format.nearest
    rw [if_pos rfl]
    decide
  · have hb' : a < 9007199254740992 := by omega
    have ba := man_bd h0 hb'
    have la := log_le h0 hb'
    have hlog : a.log2 ≤ N.log2 := (Nat.le_log2 hN0).2 (Nat.le_trans (Nat.log2_self_le h0) ha)
    rw [fl_read h0 hb']
    unfold Datum.quotient
    dsimp only
    rw [if_neg (by omega)]
    refine ⟨_, rfl, ?_⟩
    rw [log_man hN0 hb, log_man h0 hb']
    show double.nearest (false ^^ false) _ _ ≤ one'
    have em : double.fractionBits + 2 + 52 - 52 = 54 := rfl
    rw [em, Nat.shiftLeft_eq]
    obtain ⟨K, hK⟩ : ∃ K, K = N.log2 - a.log2 + 54 := ⟨_, rfl⟩
    have ep : ((a.log2 : Int) - 52 - ((N.log2 : Int) - 52) - ((54 : Nat) : Int) - 1) = -((K + 1 : Nat) : Int) := by omega
    rw [ep]
    have hD : a * 2 ^ (52 - a.log2) * 2 ^ 54 ≤ N * 2 ^ (52 - N.log2) * 2 ^ K := by
      rw [Nat.mul_assoc, Nat.mul_assoc, ← Nat.pow_add, ← Nat.pow_add, show 52 - a.log2 + 54 = 52 - N.log2 + K by omega]
      exact Nat.mul_le_mul_right _ ha
    generalize a * 2 ^ (52 - a.log2) * 2 ^ 54 = Dd at hD ⊢
    have hn : 0 < N * 2 ^ (52 - N.log2) := by omega
    generalize N * 2 ^ (52 - N.log2) = n at hD hn ⊢
    refine Nat.le_trans (nearest_le (k := 0) ?_) (by decide)
    rw [Nat.add_zero, Nat.pow_succ]
    have hdm := Nat.div_add_mod Dd n
    have hlt := Nat.mod_lt Dd hn
    by_cases hq : Dd / n < 2 ^ K
    · have : (Dd % n != 0).toNat ≤ 1 := Bool.toNat_le _
      omega
    · have h1 : Dd / n ≤ 2 ^ K := by
        have := Nat.div_le_div_right (c := n) hD
        rwa [Nat.mul_comm, Nat.mul_div_cancel _ hn] at this
      have h2 : Dd / n = 2 ^ K := by omega
      have h3 : Dd % n = 0 := by rw [h2] at hdm; omega
      rw [h3, h2]
      simp; omega
end Go.Flt
