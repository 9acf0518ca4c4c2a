/- Floats that hold whole numbers: rounding of what is scaled, noughts, sums. Nothing of the program. -/
import Derived.Test.YtjckoflcjkajiaaDoorFlt
set_option linter.unusedVariables false
set_option maxRecDepth 100000
namespace Go.Flt
open Ieee

theorem log_scale {m : Nat} (h : m ≠ 0) (j : Nat) : (m * 2 ^ j).log2 = m.log2 + j := by
  have p := Nat.two_pow_pos j
  have h0 : m * 2 ^ j ≠ 0 := by
    intro e
    rcases Nat.mul_eq_zero.1 e with e | e
    · exact h e
    · omega
  have a := Nat.log2_self_le h
  have b : m < 2 ^ (m.log2 + 1) := Nat.lt_log2_self
  have l1 : m.log2 + j ≤ (m * 2 ^ j).log2 := (Nat.le_log2 h0).2 (by rw [Nat.pow_add]; exact Nat.mul_le_mul_right _ a)
  have l2 : (m * 2 ^ j).log2 < m.log2 + 1 + j := (Nat.log2_lt h0).2 (by rw [Nat.pow_add]; exact Nat.mul_lt_mul_of_pos_right b p)
  omega
theorem cut_scale (s : Bool) {n : Nat} (hn : n ≠ 0) (d j : Nat) : Toward.even.cut s (n * 2 ^ j) (d + j) = Toward.even.cut s n d := by
  have p := Nat.two_pow_pos j
  unfold Toward.cut
  rw [log_scale hn]
  have e0 : min (d + j) (n.log2 + j + 2) = min d (n.log2 + 2) + j := by omega
  have e1 : (1 <<< (min d (n.log2 + 2) + j) : Nat) = (1 <<< min d (n.log2 + 2)) * 2 ^ j := by rw [Nat.shiftLeft_eq, Nat.shiftLeft_eq, Nat.pow_add, Nat.mul_assoc]
  rw [e0, e1]
  generalize (1 <<< min d (n.log2 + 2) : Nat) = g
  simp only [Nat.mul_div_mul_right _ _ p, Nat.mul_mod_mul_right]
  have c1 : decide (g * 2 ^ j < 2 * (n % g * 2 ^ j)) = decide (g < 2 * (n % g)) := by
    rw [decide_eq_decide, ← Nat.mul_assoc]
    exact Nat.mul_lt_mul_right p
  have c2 : (g * 2 ^ j == 2 * (n % g * 2 ^ j)) = (g == 2 * (n % g)) := by
    rw [← Nat.mul_assoc]
    by_cases h : g = 2 * (n % g)
    · rw [← h]; simp
    · have h' : g * 2 ^ j ≠ 2 * (n % g) * 2 ^ j := fun e => h (Nat.eq_of_mul_eq_mul_right p e)
      rw [beq_eq_false_iff_ne.2 h, beq_eq_false_iff_ne.2 h']
  rw [c1, c2]
theorem cut_whole (s : Bool) (n d : Nat) : Toward.even.cut s (n * 2 ^ d) d = n := by
  by_cases hn : n = 0
  · subst hn
    unfold Toward.cut
    simp
  · have := cut_scale s hn 0 d
    rw [Nat.zero_add] at this
    rw [this, cut_zero]
/-- The same number, written with a lower last place. -/
theorem nearest_scale (s : Bool) {m : Nat} (hm : m ≠ 0) (p : Int) (j : Nat) : double.nearest s (m * 2 ^ j) (p - j) = double.nearest s m p := by
  have q := Nat.two_pow_pos j
  have h0 : m * 2 ^ j ≠ 0 := by
    intro e
    rcases Nat.mul_eq_zero.1 e with e | e
    · exact hm e
    · omega
  unfold Format.nearest
  rw [if_neg h0, if_neg hm, log_scale hm]
  have e1 : max (p - (j : Int) + ((m.log2 + j : Nat) : Int) - (double.fractionBits : Int)) double.leastPlace = max (p + (m.log2 : Int) - (double.fractionBits : Int)) double.leastPlace := by congr 1; omega
  simp only [e1]
  generalize max (p + (m.log2 : Int) - (double.fractionBits : Int)) double.leastPlace = L
  have key : Toward.even.cut s ((m * 2 ^ j) <<< (p - (j : Int) - L).toNat) (L - (p - (j : Int))).toNat = Toward.even.cut s (m <<< (p - L).toNat) (L - p).toNat := by
    rw [Nat.shiftLeft_eq, Nat.shiftLeft_eq]
    rcases Int.lt_or_le (p - L) 0 with h | h
    · have a1 : (p - (j : Int) - L).toNat = 0 := by omega
      have a2 : (p - L).toNat = 0 := by omega
      have a3 : (L - (p - (j : Int))).toNat = (L - p).toNat + j := by omega
      rw [a1, a2, a3, Nat.pow_zero, Nat.mul_one, Nat.mul_one]
      exact cut_scale s hm _ _
    · have a2 : (L - p).toNat = 0 := by omega
      rw [a2, cut_zero]
      rcases Int.lt_or_le (p - L) j with h' | h'
      · have a1 : (p - (j : Int) - L).toNat = 0 := by omega
        have a3 : (L - (p - (j : Int))).toNat = j - (p - L).toNat := by omega
        have a4 : m * 2 ^ j = (m * 2 ^ (p - L).toNat) * 2 ^ (j - (p - L).toNat) := by rw [Nat.mul_assoc, ← Nat.pow_add]; congr 2; omega
        rw [a1, a3, Nat.pow_zero, Nat.mul_one, a4]
        exact cut_whole s _ _
      · have a3 : (L - (p - (j : Int))).toNat = 0 := by omega
        rw [a3, cut_zero, Nat.mul_assoc, ← Nat.pow_add]
        congr 2; omega
  rw [key]

/-! ## Whole numbers with a sign -/
/-- The bits of a whole number, below 2^53 without its sign. -/
def flI (z : Int) : Nat := if z < 0 then 9223372036854775808 + fl z.natAbs else fl z.natAbs
theorem nearest_sign (s : Bool) (m : Nat) (p : Int) : double.nearest s m p = (if s then 9223372036854775808 else 0) + double.nearest false m p := by
  have hc : ∀ n d, Toward.even.cut s n d = Toward.even.cut false n d := fun n d => rfl
  unfold Format.nearest
  simp only [hc]
  cases s
  · simp
  · split
    · simp only [Format.word, sw]; simp
    · simp only [Format.word, sw]; simp
theorem write_int {z : Int} (h : z.natAbs < 9007199254740992) : double.write (.number (z < 0) z.natAbs 0) = flI z := by
  show double.nearest (decide (z < 0)) z.natAbs 0 = _
  rw [nearest_sign]
  have := write_nat h
  rw [show double.nearest false z.natAbs 0 = fl z.natAbs from this]
  unfold flI
  by_cases hz : z < 0
  · simp [hz]
  · simp [hz]
theorem read_sign {x : Nat} (h : x < 9223372036854775808) : double.read (9223372036854775808 + x) = (double.read x).opposite := by
  unfold Format.read
  rw [sw, bn, ir, lp]
  have e1 : (9223372036854775808 + x) / 9223372036854775808 % 2 = 1 := by omega
  have e2 : (9223372036854775808 + x) % 9223372036854775808 = x := by omega
  have e3 : x / 9223372036854775808 % 2 = 0 := by omega
  have e4 : x % 9223372036854775808 = x := Nat.mod_eq_of_lt h
  simp only [e1, e2, e3, e4]
  split
  · rfl
  · split
    · rfl
    · split
      · rfl
      · rfl
theorem read_int {z : Int} (h0 : z ≠ 0) (h : z.natAbs < 9007199254740992) : double.read (flI z) = .number (decide (z < 0)) (z.natAbs * 2 ^ (52 - z.natAbs.log2)) ((z.natAbs.log2 : Int) - 52) := by
  have h0' : z.natAbs ≠ 0 := by omega
  unfold flI
  by_cases hz : z < 0
  · rw [if_pos hz, read_sign (Nat.lt_trans (fl_bd h) (by decide)), fl_read h0' h, decide_eq_true hz]; rfl
  · rw [if_neg hz, fl_read h0' h, decide_eq_false hz]
theorem flI_zero : flI 0 = 0 := rfl

/-- A nought, of whichever sign. -/
def isZ (p : Nat) : Prop := p = 0 ∨ p = 9223372036854775808
theorem isZ_read {p : Nat} (h : isZ p) : ∃ s, double.read p = .number s 0 (-1074) := by
  rcases h with rfl | rfl
  · exact ⟨false, by decide⟩
  · exact ⟨true, by decide⟩
theorem isZ_write (s : Bool) (p : Int) : isZ (double.write (.number s 0 p)) := by
  show isZ (double.nearest s 0 p)
  unfold Format.nearest
  rw [if_pos rfl]
  cases s
  · left; rfl
  · right; decide
theorem isZ_opp {p : Nat} (h : isZ p) : ∃ s, (double.read p).opposite = .number s 0 (-1074) := by
  obtain ⟨s, e⟩ := isZ_read h
  exact ⟨!s, by rw [e]; rfl⟩
/-- The number p is z (a nought of whichever sign where z is 0). -/
def isI (p : Nat) (z : Int) : Prop := if z = 0 then isZ p else p = flI z
theorem isI_zero {p : Nat} {z : Int} (h : z = 0) : isI p z ↔ isZ p := by unfold isI; rw [if_pos h]
theorem isI_of {p : Nat} {z : Int} (h : z ≠ 0) : isI p z ↔ p = flI z := by unfold isI; rw [if_neg h]
theorem sum_zero (z : Int) (h0 : z ≠ 0) (h : z.natAbs < 9007199254740992) (t : Bool) : ((double.read (flI z)).sum (.number t 0 (-1074))).map double.write = some (flI z) := by
  have h0' : z.natAbs ≠ 0 := by omega
  have l := log_le h0' h
  have b := man_bd h0' h
  rw [read_int h0 h]
  unfold Datum.sum
  have e0 : min ((z.natAbs.log2 : Int) - 52) (-1074) = -1074 := by omega
  have e1 : ((z.natAbs.log2 : Int) - 52 - -1074).toNat = z.natAbs.log2 + 1022 := by omega
  simp only [e0, e1, Int.sub_self, Int.toNat_zero, Option.map_some, Option.some.injEq]
  have ez : signed t 0 0 = 0 := by unfold signed; cases t <;> simp
  rw [ez, Int.add_zero]
  have q : 0 < 2 ^ (z.natAbs.log2 + 1022) := Nat.two_pow_pos _
  have hM : z.natAbs * 2 ^ (52 - z.natAbs.log2) ≠ 0 := by omega
  have hw : double.nearest (decide (z < 0)) (z.natAbs * 2 ^ (52 - z.natAbs.log2) * 2 ^ (z.natAbs.log2 + 1022)) (-1074) = flI z := by
    rw [← write_int h]
    have s1 := nearest_scale (decide (z < 0)) hM ((z.natAbs.log2 : Int) - 52) (z.natAbs.log2 + 1022)
    have s2 := nearest_scale (decide (z < 0)) h0' 0 (52 - z.natAbs.log2)
    rw [show ((z.natAbs.log2 : Int) - 52 - ((z.natAbs.log2 + 1022 : Nat) : Int)) = -1074 by omega] at s1
    rw [show ((0 : Int) - ((52 - z.natAbs.log2 : Nat) : Int)) = (z.natAbs.log2 : Int) - 52 by omega] at s2
    rw [s1, s2]; rfl
  have hpos : 0 < z.natAbs * 2 ^ (52 - z.natAbs.log2) * 2 ^ (z.natAbs.log2 + 1022) := Nat.mul_pos (by omega) q
  by_cases hz : z < 0
  · rw [decide_eq_true hz] at hw ⊢
    have es : signed true (z.natAbs * 2 ^ (52 - z.natAbs.log2)) (z.natAbs.log2 + 1022) = -((z.natAbs * 2 ^ (52 - z.natAbs.log2) * 2 ^ (z.natAbs.log2 + 1022) : Nat) : Int) := by unfold signed; rw [Nat.shiftLeft_eq]; rfl
    rw [es]
    generalize z.natAbs * 2 ^ (52 - z.natAbs.log2) * 2 ^ (z.natAbs.log2 + 1022) = X at *
    have e5 : ¬ (-(X : Int) = 0) := by omega
    rw [if_neg e5, Int.natAbs_neg, Int.natAbs_natCast, decide_eq_true (by omega : -(X : Int) < 0)]
    exact hw
  · rw [decide_eq_false hz] at hw ⊢
    have es : signed false (z.natAbs * 2 ^ (52 - z.natAbs.log2)) (z.natAbs.log2 + 1022) = ((z.natAbs * 2 ^ (52 - z.natAbs.log2) * 2 ^ (z.natAbs.log2 + 1022) : Nat) : Int) := by unfold signed; rw [Nat.shiftLeft_eq]; rfl
    rw [es]
    generalize z.natAbs * 2 ^ (52 - z.natAbs.log2) * 2 ^ (z.natAbs.log2 + 1022) = X at *
    have e5 : ¬ ((X : Int) = 0) := by omega
    rw [if_neg e5, Int.natAbs_natCast, decide_eq_false (by omega : ¬ (X : Int) < 0)]
    exact hw
theorem zero_zero (s t : Bool) : ∃ r, ((Datum.number s 0 (-1074)).sum (.number t 0 (-1074))).map double.write = some r ∧ isZ r := by
  refine ⟨_, rfl, ?_⟩
  cases s <;> cases t <;> first | (left; decide) | (right; decide)
theorem add_zero {p t : Nat} {z : Int} (h : z.natAbs < 9007199254740992) (hp : isI p z) (ht : isZ t) : ∃ r, double.add p t = some r ∧ isI r z := by
  obtain ⟨s, es⟩ := isZ_read ht
  by_cases h0 : z = 0
  · rw [isI_zero h0] at hp
    obtain ⟨s', es'⟩ := isZ_read hp
    unfold Format.add
    rw [es, es']
    obtain ⟨r, h1, h2⟩ := zero_zero s' s
    exact ⟨r, h1, (isI_zero h0).2 h2⟩
  · rw [isI_of h0] at hp
    subst hp
    exact ⟨_, by unfold Format.add; rw [es]; exact sum_zero z h0 h s, (isI_of h0).2 rfl⟩
theorem sub_zero {p t : Nat} {z : Int} (h : z.natAbs < 9007199254740992) (hp : isI p z) (ht : isZ t) : ∃ r, double.sub p t = some r ∧ isI r z := by
  obtain ⟨s, es⟩ := isZ_opp ht
  by_cases h0 : z = 0
  · rw [isI_zero h0] at hp
    obtain ⟨s', es'⟩ := isZ_read hp
    unfold Format.sub
    rw [es, es']
    obtain ⟨r, h1, h2⟩ := zero_zero s' s
    exact ⟨r, h1, (isI_zero h0).2 h2⟩
  · rw [isI_of h0] at hp
    subst hp
    exact ⟨_, by unfold Format.sub; rw [es]; exact sum_zero z h0 h s, (isI_of h0).2 rfl⟩
/-- Finite. -/
def finB (p : Nat) : Bool := decide (p % 9223372036854775808 < 9218868437227405312)
theorem fin_read {p : Nat} (h : finB p = true) : ∃ s m e, double.read p = .number s m e := by
  have h := of_decide_eq_true h
  unfold Format.read
  rw [sw, bn, ir, lp]
  dsimp only
  split
  · exact ⟨_, _, _, rfl⟩
  · exact ⟨_, _, _, rfl⟩
theorem mul_zero {p t : Nat} (h : finB p = true) (ht : isZ t) : ∃ r, double.mul p t = some r ∧ isZ r := by
  obtain ⟨s, m, e, er⟩ := fin_read h
  obtain ⟨s', es⟩ := isZ_read ht
  unfold Format.mul
  rw [er, es]
  unfold Datum.product
  exact ⟨_, rfl, by rw [Nat.mul_zero]; exact isZ_write _ _⟩
theorem order_isI {p : Nat} {z : Int} (h : z.natAbs < 9007199254740992) (hp : isI p z) : double.order p (flI z) = some .eq := by
  unfold isI at hp
  by_cases h0 : z = 0
  · rw [if_pos h0] at hp
    subst h0
    rcases hp with rfl | rfl <;> decide
  · rw [if_neg h0] at hp
    subst hp
    unfold Format.order
    rw [read_int h0 h]
    unfold Datum.order
    simp
end Go.Flt
