/- Layer 3 in plain numbers: places with their bits reversed; the butterflies. Nothing of the program. -/
import Derived.Test.YtjckoflcjkajiaaDoorWavP
set_option linter.unusedVariables false
set_option maxRecDepth 100000
namespace Go.Wav
open Go.Pen

def revS (c : Nat) (A x : Int) : Int := bits .or .u64 (bits .and .u64 (x.fdiv (2 ^ c)) A) (IntKind.u64.wrap (bits .and .u64 x A * 2 ^ c))
def revB (x : Int) : Int :=
  bits .or .u64 ((revS 16 281470681808895 (revS 8 71777214294589695 x)).fdiv (2 ^ 32)) (IntKind.u64.wrap (revS 16 281470681808895 (revS 8 71777214294589695 x) * 2 ^ 32))
def revI (x : Int) : Int := revB (revS 4 1085102592571150095 (revS 2 3689348814741910323 (revS 1 6148914691236517205 x)))
def brev : Nat → Nat → Nat
  | 0, _ => 0
  | m + 1, i => (i % 2) * 2 ^ m + brev m (i / 2)
theorem rev_all : ((List.range 4096).all fun i => decide (revI (i : Int) = ((brev 12 i * 4503599627370496 : Nat) : Int))) = true := by decide +kernel
theorem brev_lt : ∀ (m i : Nat), brev m i < 2 ^ m
  | 0, i => by simp [brev]
  | m + 1, i => by
    have := brev_lt m (i / 2)
    unfold brev
    rw [Nat.pow_succ]
    rcases (by omega : i % 2 = 0 ∨ i % 2 = 1) with h | h <;> rw [h] <;> omega
theorem brev_up : ∀ (m i : Nat), i < 2 ^ m → brev (m + 1) i = brev m i * 2
  | 0, i, h => by
    obtain rfl : i = 0 := by simpa using h
    rfl
  | m + 1, i, h => by
    have h2 : i / 2 < 2 ^ m := by rw [Nat.pow_succ] at h; omega
    have ih := brev_up m (i / 2) h2
    show (i % 2) * 2 ^ (m + 1) + brev (m + 1) (i / 2) = ((i % 2) * 2 ^ m + brev m (i / 2)) * 2
    rw [ih, Nat.pow_succ, Nat.add_mul, Nat.mul_assoc]
theorem brev_12 : ∀ (d m i : Nat), i < 2 ^ m → brev (m + d) i = brev m i * 2 ^ d
  | 0, m, i, h => by simp
  | d + 1, m, i, h => by
    have h2 : i < 2 ^ (m + d) := Nat.lt_of_lt_of_le h (Nat.pow_le_pow_right (by decide) (by omega))
    rw [← Nat.add_assoc, brev_up _ _ h2, brev_12 d m i h, Nat.pow_succ, Nat.mul_assoc]
/-- What the walk makes of a place. -/
theorem rev_place {m i : Nat} (hm : m ≤ 12) (hi : i < 2 ^ m) : (revI (i : Int)).fdiv (2 ^ (64 - m)) = ((brev m i : Nat) : Int) := by
  have h12 : i < 4096 := Nat.lt_of_lt_of_le hi (Nat.le_trans (Nat.pow_le_pow_right (by decide) hm) (by decide))
  have h1 := of_decide_eq_true (List.all_eq_true.1 rev_all i (List.mem_range.2 h12))
  have h2 := brev_12 (12 - m) m i hi
  rw [show m + (12 - m) = 12 by omega] at h2
  have e : brev 12 i * 4503599627370496 = brev m i * 2 ^ (64 - m) := by
    rw [h2, Nat.mul_assoc, show (4503599627370496 : Nat) = 2 ^ 52 by decide, ← Nat.pow_add]
    congr 2; omega
  rw [h1, e, Int.fdiv_eq_ediv_of_nonneg _ (by exact Int.le_of_lt (Int.pow_pos (by decide)))]
  rw [show ((2 : Int) ^ (64 - m)) = ((2 ^ (64 - m) : Nat) : Int) by rw [Int.natCast_pow]; rfl, ← Int.natCast_ediv, Nat.mul_div_cancel _ (Nat.two_pow_pos _)]

/-- The list in the order in which the butterflies want it: the first k numbers laid. -/
def trnTo (m : Nat) (x : List Cx) : Nat → List Cx
  | 0 => List.replicate (2 ^ m) (0, 0)
  | k + 1 => (trnTo m x k).set (brev m k) (x.getD k (0, 0))
def trn (m : Nat) (x : List Cx) : List Cx := trnTo m x (2 ^ m)
theorem trnTo_len (m : Nat) (x : List Cx) : ∀ k, (trnTo m x k).length = 2 ^ m
  | 0 => by simp [trnTo]
  | k + 1 => by simp [trnTo, trnTo_len m x k]

/-- One butterfly. -/
def bf1 (w : List Cx) (n size frm k : Nat) (y : List Cx) : Option (List Cx) :=
  (w[k * (n / size)]?).bind fun a => (y[frm + k + size / 2]?).bind fun o => (mulC a o).bind fun t => (y[frm + k]?).bind fun e =>
  (addC e t).bind fun p => (subC e t).bind fun q => some ((y.set (frm + k) p).set (frm + k + size / 2) q)
def bfK (w : List Cx) (n size frm : Nat) (y : List Cx) : Nat → Option (List Cx)
  | 0 => some y
  | k + 1 => (bfK w n size frm y k).bind (bf1 w n size frm k)
def bfF (w : List Cx) (n size : Nat) (y : List Cx) : Nat → Option (List Cx)
  | 0 => some y
  | j + 1 => (bfF w n size y j).bind fun y => bfK w n size (j * size) y (size / 2)
def bfS (w : List Cx) (n : Nat) (y : List Cx) : Nat → Option (List Cx)
  | 0 => some y
  | s + 1 => (bfS w n y s).bind fun y => bfF w n (2 ^ (s + 1)) y (n / 2 ^ (s + 1))
theorem bf1_len {w : List Cx} {n size frm k : Nat} {y r : List Cx} (h : bf1 w n size frm k y = some r) : r.length = y.length := by
  unfold bf1 at h
  simp only [Option.bind_eq_some_iff, Option.some.injEq] at h
  obtain ⟨a, _, o, _, t, _, e, _, p, _, q, _, rfl⟩ := h
  simp
theorem bfK_len {w : List Cx} {n size frm : Nat} {y : List Cx} : ∀ {k : Nat} {r : List Cx}, bfK w n size frm y k = some r → r.length = y.length
  | 0, r, h => by obtain rfl : y = r := by simpa [bfK] using h
                  rfl
  | k + 1, r, h => by
    unfold bfK at h
    rw [Option.bind_eq_some_iff] at h
    obtain ⟨z, h1, h2⟩ := h
    rw [bf1_len h2, bfK_len h1]
theorem bfF_len {w : List Cx} {n size : Nat} {y : List Cx} : ∀ {k : Nat} {r : List Cx}, bfF w n size y k = some r → r.length = y.length
  | 0, r, h => by obtain rfl : y = r := by simpa [bfF] using h
                  rfl
  | k + 1, r, h => by
    unfold bfF at h
    rw [Option.bind_eq_some_iff] at h
    obtain ⟨z, h1, h2⟩ := h
    rw [bfK_len h2, bfF_len h1]
theorem bfS_len {w : List Cx} {n : Nat} {y : List Cx} : ∀ {k : Nat} {r : List Cx}, bfS w n y k = some r → r.length = y.length
  | 0, r, h => by obtain rfl : y = r := by simpa [bfS] using h
                  rfl
  | k + 1, r, h => by
    unfold bfS at h
    rw [Option.bind_eq_some_iff] at h
    obtain ⟨z, h1, h2⟩ := h
    rw [bfF_len h2, bfS_len h1]
theorem bfK_some {w : List Cx} {n size frm : Nat} {y : List Cx} : ∀ {i k : Nat} {r : List Cx}, i ≤ k → bfK w n size frm y k = some r → ∃ z, bfK w n size frm y i = some z
  | i, 0, r, h, e => by obtain rfl : i = 0 := by omega
                        exact ⟨r, e⟩
  | i, k + 1, r, h, e => by
    by_cases h' : i = k + 1
    · subst h'; exact ⟨r, e⟩
    · unfold bfK at e
      rw [Option.bind_eq_some_iff] at e
      obtain ⟨z, h1, _⟩ := e
      exact bfK_some (by omega) h1
theorem bfF_some {w : List Cx} {n size : Nat} {y : List Cx} : ∀ {i k : Nat} {r : List Cx}, i ≤ k → bfF w n size y k = some r → ∃ z, bfF w n size y i = some z
  | i, 0, r, h, e => by obtain rfl : i = 0 := by omega
                        exact ⟨r, e⟩
  | i, k + 1, r, h, e => by
    by_cases h' : i = k + 1
    · subst h'; exact ⟨r, e⟩
    · unfold bfF at e
      rw [Option.bind_eq_some_iff] at e
      obtain ⟨z, h1, _⟩ := e
      exact bfF_some (by omega) h1
theorem bfS_some {w : List Cx} {n : Nat} {y : List Cx} : ∀ {i k : Nat} {r : List Cx}, i ≤ k → bfS w n y k = some r → ∃ z, bfS w n y i = some z
  | i, 0, r, h, e => by obtain rfl : i = 0 := by omega
                        exact ⟨r, e⟩
  | i, k + 1, r, h, e => by
    by_cases h' : i = k + 1
    · subst h'; exact ⟨r, e⟩
    · unfold bfS at e
      rw [Option.bind_eq_some_iff] at e
      obtain ⟨z, h1, _⟩ := e
      exact bfS_some (by omega) h1
/-- The transform of a list of 2 ^ m numbers by these roots. -/
def waveC (m : Nat) (w x : List Cx) : Option (List Cx) := bfS w (2 ^ m) (trn m x) m
def conjs (w : List Cx) : List Cx := w.map fun a => plainC (conjC a)
def forwardC (m : Nat) (x : List Cx) : Option (List Cx) := (tabC m).bind fun w => waveC m (conjs w) x
end Go.Wav
