/- Directions, in plain numbers: the one form, the look at it, the order. Nothing of the program. -/
import Derived.Below
set_option linter.unusedVariables false
namespace Go.Proofs.Ytghmkheoopakaaa

/-- The one form: P, Q, the error. -/
def nrm (p q : Int) : Int × Int × Int :=
  if Nat.gcd p.natAbs q.natAbs = 0 then (0, 0, 1)
  else if 16 < p.natAbs / Nat.gcd p.natAbs q.natAbs ∨ 16 < q.natAbs / Nat.gcd p.natAbs q.natAbs then (0, 0, 60)
  else ((if (p < 0 ∧ 0 < q) ∨ (0 < p ∧ q < 0) then -((p.natAbs / Nat.gcd p.natAbs q.natAbs : Nat) : Int) else ((p.natAbs / Nat.gcd p.natAbs q.natAbs : Nat) : Int)), ((q.natAbs / Nat.gcd p.natAbs q.natAbs : Nat) : Int), 0)
theorem nrm_zero {p q : Int} (h : Nat.gcd p.natAbs q.natAbs = 0) : nrm p q = (0, 0, 1) := by unfold nrm; rw [if_pos h]
theorem nrm_far {p q : Int} (h : Nat.gcd p.natAbs q.natAbs ≠ 0) (h' : 16 < p.natAbs / Nat.gcd p.natAbs q.natAbs ∨ 16 < q.natAbs / Nat.gcd p.natAbs q.natAbs) : nrm p q = (0, 0, 60) := by unfold nrm; rw [if_neg h, if_pos h']
theorem nrm_neg {p q : Int} (h : Nat.gcd p.natAbs q.natAbs ≠ 0) (h1 : p.natAbs / Nat.gcd p.natAbs q.natAbs ≤ 16) (h2 : q.natAbs / Nat.gcd p.natAbs q.natAbs ≤ 16) (h' : (p < 0 ∧ 0 < q) ∨ (0 < p ∧ q < 0)) :
    nrm p q = (-((p.natAbs / Nat.gcd p.natAbs q.natAbs : Nat) : Int), ((q.natAbs / Nat.gcd p.natAbs q.natAbs : Nat) : Int), 0) := by unfold nrm; rw [if_neg h, if_neg (by omega), if_pos h']
theorem nrm_pos {p q : Int} (h : Nat.gcd p.natAbs q.natAbs ≠ 0) (h1 : p.natAbs / Nat.gcd p.natAbs q.natAbs ≤ 16) (h2 : q.natAbs / Nat.gcd p.natAbs q.natAbs ≤ 16) (h' : ¬ ((p < 0 ∧ 0 < q) ∨ (0 < p ∧ q < 0))) :
    nrm p q = (((p.natAbs / Nat.gcd p.natAbs q.natAbs : Nat) : Int), ((q.natAbs / Nat.gcd p.natAbs q.natAbs : Nat) : Int), 0) := by unfold nrm; rw [if_neg h, if_neg (by omega), if_neg h']

/-- In its one form? -/
def isDir (p q : Int) : Bool := nrm p q = (p, q, 0)
def chk (p q : Int) : Int := if isDir p q then 0 else 60
/-- What a direction is, said by its parts. -/
theorem isDir_iff (p q : Int) : isDir p q = true ↔ (0 ≤ q ∧ q ≤ 16 ∧ p.natAbs ≤ 16 ∧ Nat.gcd p.natAbs q.natAbs = 1 ∧ (q = 0 → p = 1)) := by
  unfold isDir
  rw [decide_eq_true_iff]
  constructor
  · intro h
    by_cases g0 : Nat.gcd p.natAbs q.natAbs = 0
    · rw [nrm_zero g0] at h; simp at h
    · by_cases hf : 16 < p.natAbs / Nat.gcd p.natAbs q.natAbs ∨ 16 < q.natAbs / Nat.gcd p.natAbs q.natAbs
      · rw [nrm_far g0 hf] at h; simp at h
      · have hpos : 0 < Nat.gcd p.natAbs q.natAbs := Nat.pos_of_ne_zero g0
        have e : nrm p q = ((if (p < 0 ∧ 0 < q) ∨ (0 < p ∧ q < 0) then -((p.natAbs / Nat.gcd p.natAbs q.natAbs : Nat) : Int) else ((p.natAbs / Nat.gcd p.natAbs q.natAbs : Nat) : Int)), ((q.natAbs / Nat.gcd p.natAbs q.natAbs : Nat) : Int), 0) := by
          unfold nrm; rw [if_neg g0, if_neg hf]
        rw [e] at h
        simp only [Prod.mk.injEq] at h
        have l1 : Nat.gcd p.natAbs q.natAbs = 1 ∨ 1 < Nat.gcd p.natAbs q.natAbs ∧ (p.natAbs = 0 ∨ p.natAbs / Nat.gcd p.natAbs q.natAbs < p.natAbs) := by
          by_cases h1 : Nat.gcd p.natAbs q.natAbs = 1
          · exact .inl h1
          · right
            refine ⟨by omega, ?_⟩
            rcases Nat.eq_zero_or_pos p.natAbs with hz | hz
            · exact .inl hz
            · exact .inr (Nat.div_lt_self hz (by omega))
        have l2 : Nat.gcd p.natAbs q.natAbs = 1 ∨ 1 < Nat.gcd p.natAbs q.natAbs ∧ (q.natAbs = 0 ∨ q.natAbs / Nat.gcd p.natAbs q.natAbs < q.natAbs) := by
          by_cases h1 : Nat.gcd p.natAbs q.natAbs = 1
          · exact .inl h1
          · right
            refine ⟨by omega, ?_⟩
            rcases Nat.eq_zero_or_pos q.natAbs with hz | hz
            · exact .inl hz
            · exact .inr (Nat.div_lt_self hz (by omega))
        have lz : p.natAbs = 0 → q.natAbs = 0 → False := fun a b => g0 (by rw [a, b]; rfl)
        have lg : q.natAbs = 0 → Nat.gcd p.natAbs q.natAbs = p.natAbs := fun a => by rw [a]; simp
        have lg' : p.natAbs = 0 → Nat.gcd p.natAbs q.natAbs = q.natAbs := fun a => by rw [a]; simp
        have l3 : q.natAbs = 0 → p.natAbs / Nat.gcd p.natAbs q.natAbs = 1 := fun a => by
          rw [a]; simp; exact Nat.div_self (Nat.pos_of_ne_zero fun b => lz b a)
        have l4 : p.natAbs = 0 → q.natAbs / Nat.gcd p.natAbs q.natAbs = 1 := fun a => by
          rw [a]; simp; exact Nat.div_self (Nat.pos_of_ne_zero fun b => lz a b)
        clear e
        generalize p.natAbs / Nat.gcd p.natAbs q.natAbs = A at *
        generalize q.natAbs / Nat.gcd p.natAbs q.natAbs = C at *
        generalize Nat.gcd p.natAbs q.natAbs = g at *
        obtain ⟨h1, h2, _⟩ := h
        split at h1
        · omega
        · omega
  · rintro ⟨h1, h2, h3, g1, h4⟩
    have g0 : Nat.gcd p.natAbs q.natAbs ≠ 0 := by omega
    by_cases hs : (p < 0 ∧ 0 < q) ∨ (0 < p ∧ q < 0)
    · rw [nrm_neg g0 (by rw [g1]; omega) (by rw [g1]; omega) hs, g1]
      simp only [Nat.div_one, Prod.mk.injEq]
      exact ⟨by omega, by omega, trivial⟩
    · rw [nrm_pos g0 (by rw [g1]; omega) (by rw [g1]; omega) hs, g1]
      simp only [Nat.div_one, Prod.mk.injEq]
      refine ⟨?_, by omega, trivial⟩
      by_cases hq : q = 0
      · have := h4 hq; omega
      · omega
theorem isDir_bd {p q : Int} (h : isDir p q = true) : 0 ≤ q ∧ q ≤ 16 ∧ -16 ≤ p ∧ p ≤ 16 := by
  have := (isDir_iff p q).1 h; omega
/-- The order of two. -/
def cmpD (a b c d : Int) : Int :=
  if isDir a b = true ∧ isDir c d = true then (if 0 < a * d - b * c then -1 else if a * d - b * c < 0 then 1 else 0) else 0
end Go.Proofs.Ytghmkheoopakaaa
