/- Texts joined: Flt. -/
import Derived.Test.YthecbhegjdcjfaaDoorJp8
import Derived.Laws.FloatArith
section
/- Floats that hold natural numbers below 2^53: their bits, how they read, how they stand. Nothing of the program. -/
set_option linter.unusedVariables false
namespace Go.Flt
open Ieee

theorem sw : double.signWeight = 9223372036854775808 := by decide
theorem bn : double.binade = 4503599627370496 := by decide
theorem ir : double.infRung = 9218868437227405312 := by decide
theorem lp : double.leastPlace = -1074 := by decide
theorem fb : double.fractionBits = 52 := rfl

theorem read_pos {x : Nat} (h : x < 9218868437227405312) (h2 : 4503599627370496 ≤ x) :
    double.read x = .number false (4503599627370496 + x % 4503599627370496) (-1074 + (x / 4503599627370496 - 1 : Nat)) := by
  unfold Format.read
  rw [sw, bn, ir, lp]
  have e1 : x / 9223372036854775808 % 2 = 0 := by omega
  have e2 : x % 9223372036854775808 = x := Nat.mod_eq_of_lt (by omega)
  simp only [e1, e2]
  rw [if_neg (by omega), if_pos h]
  rfl
theorem read_zero : double.read 0 = .number false 0 (-1074) := by decide

/-- The bits of the natural number v (below 2^53). -/
def fl (v : Nat) : Nat := if v = 0 then 0 else (v.log2 + 1022) * 4503599627370496 + v * 2 ^ (52 - v.log2)
theorem fl_zero : fl 0 = 0 := rfl
theorem fl_pos {v : Nat} (h : v ≠ 0) : fl v = (v.log2 + 1022) * 4503599627370496 + v * 2 ^ (52 - v.log2) := if_neg h

theorem log_le {v : Nat} (h0 : v ≠ 0) (h : v < 9007199254740992) : v.log2 ≤ 52 := by
  have := (Nat.log2_lt h0 (k := 53)).2 h
  omega
theorem man_bd {v : Nat} (h0 : v ≠ 0) (h : v < 9007199254740992) : 4503599627370496 ≤ v * 2 ^ (52 - v.log2) ∧ v * 2 ^ (52 - v.log2) < 9007199254740992 := by
  have l := log_le h0 h
  have l1 := Nat.log2_self_le h0
  have l2 : v < 2 ^ (v.log2 + 1) := Nat.lt_log2_self
  have e1 : 2 ^ v.log2 * 2 ^ (52 - v.log2) = 2 ^ 52 := by rw [← Nat.pow_add]; congr 1; omega
  have e2 : 2 ^ (v.log2 + 1) * 2 ^ (52 - v.log2) = 2 ^ 53 := by rw [← Nat.pow_add]; congr 1; omega
  have p : 0 < 2 ^ (52 - v.log2) := Nat.two_pow_pos _
  constructor
  · calc 4503599627370496 = 2 ^ v.log2 * 2 ^ (52 - v.log2) := by rw [e1]
      _ ≤ _ := Nat.mul_le_mul_right _ l1
  · calc _ < 2 ^ (v.log2 + 1) * 2 ^ (52 - v.log2) := Nat.mul_lt_mul_of_pos_right l2 p
      _ = 9007199254740992 := by rw [e2]
theorem fl_bd {v : Nat} (h : v < 9007199254740992) : fl v < 4845873199050653696 := by
  by_cases h0 : v = 0
  · subst h0; decide
  · rw [fl_pos h0]
    have := man_bd h0 h
    have := log_le h0 h
    omega
theorem fl_read {v : Nat} (h0 : v ≠ 0) (h : v < 9007199254740992) : double.read (fl v) = .number false (v * 2 ^ (52 - v.log2)) ((v.log2 : Int) - 52) := by
  have l := log_le h0 h
  have b := man_bd h0 h
  have hb := fl_bd h
  rw [fl_pos h0] at hb ⊢
  rw [read_pos (by omega) (by omega)]
  congr 1
  · omega
  · omega

theorem cut_zero (w : Toward) (s : Bool) (n : Nat) : w.cut s n 0 = n := by
  unfold Toward.cut
  simp only [Nat.zero_min, Nat.shiftLeft_zero, Nat.div_one, Nat.mod_one]
  cases w <;> simp
theorem log_man {v : Nat} (h0 : v ≠ 0) (h : v < 9007199254740992) : (v * 2 ^ (52 - v.log2)).log2 = 52 := by
  have b := man_bd h0 h
  have h1 := (Nat.log2_lt (n := v * 2 ^ (52 - v.log2)) (k := 53) (by omega)).2 (by omega)
  have h2 := (Nat.le_log2 (n := v * 2 ^ (52 - v.log2)) (k := 52) (by omega)).2 (by omega)
  omega
/-- A number below 2^53 is written as it is. -/
theorem write_nat {v : Nat} (h : v < 9007199254740992) : double.write (.number false v 0) = fl v := by
  show double.nearest false v 0 = _
  unfold Format.nearest
  by_cases h0 : v = 0
  · subst h0; rfl
  · have l := log_le h0 h
    have b := man_bd h0 h
    rw [if_neg h0, fl_pos h0, lp, bn, ir, fb]
    have e1 : max ((0 : Int) + (v.log2 : Int) - ((52 : Nat) : Int)) (-1074) = (v.log2 : Int) - 52 := by omega
    simp only [e1]
    have e2 : ((0 : Int) - ((v.log2 : Int) - 52)).toNat = 52 - v.log2 := by omega
    have e3 : ((v.log2 : Int) - 52 - 0).toNat = 0 := by omega
    have e4 : ((v.log2 : Int) - 52 - -1074).toNat = v.log2 + 1022 := by omega
    rw [e2, e3, e4, cut_zero, Nat.shiftLeft_eq]
    unfold Format.word
    simp only [Bool.false_eq_true, if_false]
    omega
theorem int_down (w : Toward) {v : Nat} (h0 : v ≠ 0) (h : v < 9007199254740992) : (double.read (fl v)).integral w = .number false v 0 := by
  rw [fl_read h0 h]
  unfold Datum.integral
  have l := log_le h0 h
  have e1 : ((v.log2 : Int) - 52).toNat = 0 := by omega
  have e2 : (-((v.log2 : Int) - 52)).toNat = 52 - v.log2 := by omega
  simp only [e1, e2, Nat.shiftLeft_zero]
  congr 1
  unfold Toward.cut
  have e3 : min (52 - v.log2) ((v * 2 ^ (52 - v.log2)).log2 + 2) = 52 - v.log2 := by rw [log_man h0 h]; omega
  have p : 0 < 2 ^ (52 - v.log2) := Nat.two_pow_pos _
  simp only [e3, Nat.shiftLeft_eq, Nat.one_mul, Nat.mul_div_cancel _ p, Nat.mul_mod_left]
  cases w <;> simp
theorem floor_nat {v : Nat} (h : v < 9007199254740992) (w : Toward) : double.write ((double.read (fl v)).integral w) = fl v := by
  by_cases h0 : v = 0
  · subst h0; cases w <;> decide
  · rw [int_down w h0 h, write_nat h]
theorem int_nat {v : Nat} (h : v < 9007199254740992) : floatToIntVal .f64 (fl v) .i64 = some (v : Int) := by
  unfold floatToIntVal
  by_cases h0 : v = 0
  · subst h0; decide
  · have e : (FloatKind.f64.decode (fl v)).toInt .zero = some (v : Int) := by
      show Datum.toInt .zero (double.read (fl v)) = _
      unfold Datum.toInt
      rw [int_down .zero h0 h]
      simp [signed]
    rw [e]
    simp only [IntKind.min, IntKind.max, IntKind.signed, IntKind.bits]
    rw [if_pos (by constructor <;> simp <;> omega)]
theorem order_self {v : Nat} (h : v < 9007199254740992) : double.order (fl v) (fl v) = some .eq := by
  by_cases h0 : v = 0
  · subst h0; decide
  · unfold Format.order
    rw [fl_read h0 h]
    unfold Datum.order
    simp
theorem order_big {v : Nat} (h : v < 9007199254740992) : double.order (fl v) 4890909195324358656 = some .lt := by
  by_cases h0 : v = 0
  · subst h0; decide
  · unfold Format.order
    have l := log_le h0 h
    have b := man_bd h0 h
    rw [fl_read h0 h, show double.read 4890909195324358656 = .number false 4503599627370496 11 by decide]
    unfold Datum.order
    have e0 : min ((v.log2 : Int) - 52) 11 = (v.log2 : Int) - 52 := by omega
    have e1 : ((v.log2 : Int) - 52 - ((v.log2 : Int) - 52)).toNat = 0 := by omega
    have e2 : (11 - ((v.log2 : Int) - 52)).toNat = 63 - v.log2 := by omega
    simp only [e0, e1, e2, signed, Bool.false_eq_true, if_false, Nat.shiftLeft_eq]
    have p : 2 ^ 11 ≤ 2 ^ (63 - v.log2) := Nat.pow_le_pow_right (by omega) (by omega)
    have q : 4503599627370496 * 2 ^ 11 ≤ 4503599627370496 * 2 ^ (63 - v.log2) := Nat.mul_le_mul_left _ p
    congr 1
    rw [Int.compare_eq_lt]
    omega
theorem order_zero {v : Nat} (h : v < 9007199254740992) : double.order (fl v) 0 = some (if v = 0 then .eq else .gt) := by
  by_cases h0 : v = 0
  · subst h0; decide
  · rw [if_neg h0]
    unfold Format.order
    have l := log_le h0 h
    have b := man_bd h0 h
    rw [fl_read h0 h, read_zero]
    unfold Datum.order
    have e0 : min ((v.log2 : Int) - 52) (-1074) = -1074 := by omega
    have e1 : ((v.log2 : Int) - 52 - -1074).toNat = v.log2 + 1022 := by omega
    simp only [e0, e1, signed, Bool.false_eq_true, if_false, Nat.shiftLeft_eq, Nat.zero_mul]
    have p0 : 0 < v * 2 ^ (52 - v.log2) := Nat.lt_of_lt_of_le (by decide) b.1
    have p1 : 0 < 2 ^ (v.log2 + 1022) := Nat.two_pow_pos _
    generalize v * 2 ^ (52 - v.log2) = A at *
    generalize 2 ^ (v.log2 + 1022) = C at *
    have p : 0 < A * C := Nat.mul_pos p0 p1
    congr 1
    rw [Int.compare_eq_gt]
    omega
end Go.Flt
end
