/- Layer 2 in plain numbers: a root by halves, as the reference has it. Nothing of the program. -/
import Derived.Test.YtjckoflcjkajiaaDoorWavC
set_option linter.unusedVariables false
set_option maxRecDepth 100000
namespace Go.Wav
open Go.Flt Go.Pen

theorem wv_get {s : Cx} {h : List Cx} : ∀ {i : Nat} {l : List Cx}, i < h.length → wv s h i = some l → l.length = 2 * i ∧ ∀ j, j < i → ∃ a mm, h[j]? = some a ∧ mulC a s = some mm ∧ l[2 * j]? = some a ∧ l[2 * j + 1]? = some (plainC mm)
  | 0, l, _, e => by
    obtain rfl : [] = l := by simpa [wv] using e
    exact ⟨rfl, fun j hj => absurd hj (by omega)⟩
  | i + 1, l, hi, e => by
    unfold wv at e
    simp only [Option.bind_eq_some_iff] at e
    obtain ⟨l', h1, b, h2, h3⟩ := e
    rw [if_pos hi] at h3
    simp only [Option.bind_eq_some_iff, Option.some.injEq] at h3
    obtain ⟨m, h4, rfl⟩ := h3
    obtain ⟨g1, g2⟩ := wv_get (by omega) h1
    refine ⟨by simp [g1]; omega, fun j hj => ?_⟩
    by_cases hji : j < i
    · obtain ⟨a, mm, q1, q2, q3, q4⟩ := g2 j hji
      exact ⟨a, mm, q1, q2, by rw [List.getElem?_append_left (by omega)]; exact q3, by rw [List.getElem?_append_left (by omega)]; exact q4⟩
    · obtain rfl : j = i := by omega
      refine ⟨b, m, h2, h4, ?_, ?_⟩
      · rw [List.getElem?_append_right (by omega), g1, Nat.sub_self]; rfl
      · rw [List.getElem?_append_right (by omega), g1, show 2 * j + 1 - 2 * j = 1 by omega]; rfl
theorem eighth_get {m : Nat} {f : List Cx} (h : eighthC (m + 4) = some f) : ∃ g s, eighthC (m + 3) = some g ∧ stepC (m + 1) = some s ∧ f.length + 1 = 2 * g.length ∧ (∀ j, j < g.length → f[2 * j]? = g[j]?) ∧
    ∀ j, 2 * j + 1 < f.length → ∃ a mm, g[j]? = some a ∧ mulC a s = some mm ∧ f[2 * j]? = some a ∧ f[2 * j + 1]? = some (plainC mm) := by
  unfold eighthC at h
  simp only [Option.bind_eq_some_iff] at h
  obtain ⟨g, h1, s, h2, h3⟩ := h
  refine ⟨g, s, h1, h2, ?_⟩
  obtain ⟨i, hi⟩ : ∃ i, g.length = i + 1 := ⟨g.length - 1, by have := (Go.Proofs.YtjckoflcjkajiaaDoor.eighth_len h1).1; omega⟩
  rw [hi] at h3
  unfold wv at h3
  simp only [Option.bind_eq_some_iff] at h3
  obtain ⟨l', e1, b, e2, e3⟩ := h3
  rw [if_neg (by omega)] at e3
  obtain rfl : l' ++ [b] = f := by simpa using e3
  obtain ⟨g1, g2⟩ := wv_get (by omega) e1
  refine ⟨by simp [g1]; omega, fun j hj => ?_, fun j hj => ?_⟩
  · by_cases hji : j < i
    · obtain ⟨a, mm, q1, q2, q3, q4⟩ := g2 j hji
      rw [List.getElem?_append_left (by omega), q3, q1]
    · obtain rfl : j = i := by omega
      rw [List.getElem?_append_right (by omega), g1, Nat.sub_self, e2]; rfl
  · have hji : j < i := by simp [g1] at hj; omega
    obtain ⟨a, mm, q1, q2, q3, q4⟩ := g2 j hji
    exact ⟨a, mm, q1, q2, by rw [List.getElem?_append_left (by omega)]; exact q3, by rw [List.getElem?_append_left (by omega)]; exact q4⟩
theorem eighth_head : ∀ {m : Nat} {f : List Cx}, eighthC m = some f → f[0]? = some (one, 0)
  | 0, f, h => by
    obtain rfl : [(one, 0)] = f := by simpa [eighthC] using h
    rfl
  | 1, f, h => by
    obtain rfl : [(one, 0)] = f := by simpa [eighthC] using h
    rfl
  | 2, f, h => by
    obtain rfl : [(one, 0)] = f := by simpa [eighthC] using h
    rfl
  | 3, f, h => by
    unfold eighthC at h
    simp only [Option.bind_eq_some_iff, Option.some.injEq] at h
    obtain ⟨_, _, _, _, rfl⟩ := h
    rfl
  | m + 4, f, h => by
    obtain ⟨g, s, h1, h2, h3, h4, h5⟩ := eighth_get h
    have := h4 0 (by omega)
    rw [Nat.mul_zero] at this
    rw [this, eighth_head h1]
/-- A quarter turned. -/
theorem at_turn {n k : Nat} {f : List Cx} {r : Cx} (hn : 4 ≤ n) (hk : n / 4 ≤ k) (h : atC n k f = some r) : ∃ a, atC n (k - n / 4) f = some a ∧ r = plainC (turnC a) := by
  have hq : 0 < n / 4 := by omega
  obtain ⟨Q, hQ⟩ : ∃ Q, Q = n / 4 := ⟨_, rfl⟩
  unfold atC at h ⊢
  rw [← hQ] at hk hq h ⊢
  rw [if_neg (by omega)] at h ⊢
  have e1 : (k - Q) % Q = k % Q := by rw [← Nat.mod_eq_sub_mod hk]
  have e2 : k / Q = (k - Q) / Q + 1 := by rw [Nat.div_eq_sub_div hq hk]
  rw [e1]
  rw [e2, Option.map_eq_some_iff] at h
  obtain ⟨a, ha, rfl⟩ := h
  exact ⟨_, by rw [ha]; rfl, rfl⟩
theorem at_small {n k : Nat} {f : List Cx} (hn : 4 ≤ n) (hk : k ≤ n / 8) (hk4 : k < n / 4) : atC n k f = f[k]? := by
  unfold atC quarterC
  rw [if_neg (by omega), Nat.mod_eq_of_lt hk4, Nat.div_eq_of_lt hk4, if_pos hk]
  cases f[k]? <;> rfl
theorem at_swap {n k : Nat} {f : List Cx} {r : Cx} (hn : 4 ≤ n) (h4 : n / 4 = 2 * (n / 8)) (hk : ¬ k ≤ n / 8) (hk4 : k < n / 4) (h : atC n k f = some r) : ∃ a, atC n (n / 4 - k) f = some a ∧ r = (a.2, a.1) := by
  rw [at_small hn (by omega) (by omega)]
  unfold atC quarterC at h
  rw [if_neg (by omega), Nat.mod_eq_of_lt hk4, Nat.div_eq_of_lt hk4, if_neg hk] at h
  cases ha : f[n / 4 - k]? with
  | none => rw [ha] at h; cases h
  | some a =>
    rw [ha] at h
    simp only [Option.map_some, Option.some.injEq] at h
    exact ⟨a, rfl, h.symm⟩
end Go.Wav
