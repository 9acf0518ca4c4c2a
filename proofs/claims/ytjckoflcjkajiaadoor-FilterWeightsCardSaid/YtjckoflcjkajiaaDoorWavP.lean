/- Layers 1 to 3 in plain numbers: a float is its bits, a complex number two of them. Nothing of the program. -/
import Derived.Test.YtjckoflcjkajiaaDoorPenL
set_option linter.unusedVariables false
set_option maxRecDepth 100000
namespace Go.Wav
open Go.Flt Go.Pen

/-- The sign turned. -/
def flipF (p : Nat) : Nat := p ^^^ 9223372036854775808
/-- A nought without its sign. -/
def plainF (p : Nat) : Nat := if p = 0 ∨ p = 9223372036854775808 then 0 else p
def plainC (a : Cx) : Cx := (plainF a.1, plainF a.2)
def conjC (a : Cx) : Cx := (a.1, flipF a.2)
/-- Times i. -/
def turnC (a : Cx) : Cx := (flipF a.2, a.1)
def addC (a b : Cx) : Option Cx := cSumBits .add .f64 a.1 a.2 b.1 b.2
def subC (a b : Cx) : Option Cx := cSumBits .sub .f64 a.1 a.2 b.1 b.2
def mulC (a b : Cx) : Option Cx :=
  (Ieee.double.mul a.1 b.1).bind fun pu => (Ieee.double.mul a.2 b.2).bind fun qv => (Ieee.double.sub pu qv).bind fun re =>
  (Ieee.double.mul a.1 b.2).bind fun pv => (Ieee.double.mul a.2 b.1).bind fun qu => (Ieee.double.add pv qu).bind fun im => some (re, im)
theorem mulC_some {a b r : Cx} (h : mulC a b = some r) : ∃ pu qv pv qu, Ieee.double.mul a.1 b.1 = some pu ∧ Ieee.double.mul a.2 b.2 = some qv ∧ Ieee.double.sub pu qv = some r.1 ∧ Ieee.double.mul a.1 b.2 = some pv ∧ Ieee.double.mul a.2 b.1 = some qu ∧ Ieee.double.add pv qu = some r.2 := by
  unfold mulC at h
  simp only [Option.bind_eq_some_iff, Option.some.injEq] at h
  obtain ⟨pu, h1, qv, h2, re, h3, pv, h4, qu, h5, im, h6, rfl⟩ := h
  exact ⟨pu, qv, pv, qu, h1, h2, h3, h4, h5, h6⟩

def one : Nat := 4607182418800017408
def half : Nat := 4602678819172646912
def two : Nat := 4611686018427387904
/-- The step of order 8 * 2 ^ k. -/
def stepC : Nat → Option Cx
  | 0 => (Ieee.double.sqrt half).bind fun c => some (c, c)
  | k + 1 => (stepC k).bind fun h => (Ieee.double.add one h.1).bind fun a => (Ieee.double.mul half a).bind fun b => (Ieee.double.sqrt b).bind fun c => (Ieee.double.mul two c).bind fun e => (Ieee.double.div h.2 e).bind fun s => some (c, s)
/-- One of each two taken from the half: the first i of them. -/
def wv (s : Cx) (h : List Cx) : Nat → Option (List Cx)
  | 0 => some []
  | i + 1 => (wv s h i).bind fun l => (h[i]?).bind fun a => if i + 1 < h.length then (mulC a s).bind fun m => some (l ++ [a, plainC m]) else some (l ++ [a])
/-- The first eighth of order 2 ^ m. -/
def eighthC : Nat → Option (List Cx)
  | 0 | 1 | 2 => some [(one, 0)]
  | 3 => (stepC 0).bind fun s => (mulC (one, 0) s).bind fun m => some [(one, 0), plainC m]
  | m + 4 => (eighthC (m + 3)).bind fun h => (stepC (m + 1)).bind fun s => wv s h h.length
def turns : Nat → Cx → Cx
  | 0, a => a
  | j + 1, a => plainC (turnC (turns j a))
def quarterC (n k : Nat) (first : List Cx) : Option Cx := if k ≤ n / 8 then first[k]? else first[n / 4 - k]?.map fun a => (a.2, a.1)
def atC (n k : Nat) (first : List Cx) : Option Cx :=
  if n < 4 then some (if k = 0 then (one, 0) else (13830554455654793216, 0)) else (quarterC n (k % (n / 4)) first).map (turns (k / (n / 4)))
def tabTo (n : Nat) (first : List Cx) : Nat → Option (List Cx)
  | 0 => some []
  | k + 1 => (tabTo n first k).bind fun l => (atC n k first).bind fun a => some (l ++ [a])
/-- The table of order 2 ^ m. -/
def tabC (m : Nat) : Option (List Cx) := (eighthC m).bind fun f => tabTo (2 ^ m) f (2 ^ m)

/-! bits stay below 2^64 -/
def Wf (a : Cx) : Prop := a.1 < 18446744073709551616 ∧ a.2 < 18446744073709551616
theorem wf_add {a b r : Cx} (h : addC a b = some r) : Wf r := by
  unfold addC cSumBits at h
  simp only [Option.bind_eq_some_iff, Option.some.injEq] at h
  obtain ⟨x, h1, y, h2, rfl⟩ := h
  exact ⟨Ieee.Format.add_lt _ h1, Ieee.Format.add_lt _ h2⟩
theorem wf_sub {a b r : Cx} (h : subC a b = some r) : Wf r := by
  unfold subC cSumBits at h
  simp only [Option.bind_eq_some_iff, Option.some.injEq] at h
  obtain ⟨x, h1, y, h2, rfl⟩ := h
  exact ⟨Ieee.Format.sub_lt _ h1, Ieee.Format.sub_lt _ h2⟩
theorem wf_mul {a b r : Cx} (h : mulC a b = some r) : Wf r := by
  obtain ⟨pu, qv, pv, qu, h1, h2, h3, h4, h5, h6⟩ := mulC_some h
  exact ⟨Ieee.Format.sub_lt _ h3, Ieee.Format.add_lt _ h6⟩
theorem flip_lt {p : Nat} (hp : p < 18446744073709551616) : flipF p < 18446744073709551616 := Nat.xor_lt_two_pow (n := 64) hp (by decide)
theorem plain_lt {p : Nat} (hp : p < 18446744073709551616) : plainF p < 18446744073709551616 := by unfold plainF; split <;> omega
theorem wf_plain {a : Cx} (h : Wf a) : Wf (plainC a) := ⟨plain_lt h.1, plain_lt h.2⟩
theorem wf_turn {a : Cx} (h : Wf a) : Wf (turnC a) := ⟨flip_lt h.2, h.1⟩
theorem wf_conj {a : Cx} (h : Wf a) : Wf (conjC a) := ⟨h.1, flip_lt h.2⟩
theorem wf_turns {a : Cx} (h : Wf a) : ∀ j, Wf (turns j a)
  | 0 => h
  | j + 1 => wf_plain (wf_turn (wf_turns h j))
theorem wf_one : Wf (one, 0) := ⟨by decide, by decide⟩
theorem wf_step : ∀ {k : Nat} {r : Cx}, stepC k = some r → Wf r
  | 0, r, h => by
    unfold stepC at h
    simp only [Option.bind_eq_some_iff, Option.some.injEq] at h
    obtain ⟨c, h1, rfl⟩ := h
    exact ⟨Ieee.Format.sqrt_lt _ h1, Ieee.Format.sqrt_lt _ h1⟩
  | k + 1, r, h => by
    unfold stepC at h
    simp only [Option.bind_eq_some_iff, Option.some.injEq] at h
    obtain ⟨g, _, a, _, b, _, c, h1, e, _, s, h2, rfl⟩ := h
    exact ⟨Ieee.Format.sqrt_lt _ h1, Ieee.Format.div_lt _ h2⟩
theorem wf_wv {s : Cx} {h : List Cx} (hh : ∀ a ∈ h, Wf a) : ∀ {i : Nat} {l : List Cx}, wv s h i = some l → ∀ a ∈ l, Wf a
  | 0, l, e, a, ha => by
    unfold wv at e
    obtain rfl : [] = l := by simpa using e
    cases ha
  | i + 1, l, e, a, ha => by
    unfold wv at e
    simp only [Option.bind_eq_some_iff] at e
    obtain ⟨l', h1, b, h2, h3⟩ := e
    have hb := hh b (List.mem_of_getElem? h2)
    split at h3
    · simp only [Option.bind_eq_some_iff, Option.some.injEq] at h3
      obtain ⟨m, h4, rfl⟩ := h3
      rcases List.mem_append.1 ha with ha | ha
      · exact wf_wv hh h1 a ha
      · rcases List.mem_cons.1 ha with rfl | ha
        · exact hb
        · rw [List.mem_singleton.1 ha]; exact wf_plain (wf_mul h4)
    · obtain rfl : l' ++ [b] = l := by simpa using h3
      rcases List.mem_append.1 ha with ha | ha
      · exact wf_wv hh h1 a ha
      · rw [List.mem_singleton.1 ha]; exact hb
theorem wf_eighth : ∀ {m : Nat} {l : List Cx}, eighthC m = some l → ∀ a ∈ l, Wf a
  | 0, l, e, a, ha => by
    obtain rfl : [(one, 0)] = l := by simpa [eighthC] using e
    rw [List.mem_singleton.1 ha]; exact wf_one
  | 1, l, e, a, ha => by
    obtain rfl : [(one, 0)] = l := by simpa [eighthC] using e
    rw [List.mem_singleton.1 ha]; exact wf_one
  | 2, l, e, a, ha => by
    obtain rfl : [(one, 0)] = l := by simpa [eighthC] using e
    rw [List.mem_singleton.1 ha]; exact wf_one
  | 3, l, e, a, ha => by
    unfold eighthC at e
    simp only [Option.bind_eq_some_iff, Option.some.injEq] at e
    obtain ⟨s, _, m, h2, rfl⟩ := e
    rcases List.mem_cons.1 ha with rfl | ha
    · exact wf_one
    · rw [List.mem_singleton.1 ha]; exact wf_plain (wf_mul h2)
  | m + 4, l, e, a, ha => by
    unfold eighthC at e
    simp only [Option.bind_eq_some_iff] at e
    obtain ⟨h, h1, s, h2, h3⟩ := e
    exact wf_wv (wf_eighth h1) h3 a ha
theorem wf_at {n k : Nat} {first : List Cx} (hf : ∀ a ∈ first, Wf a) {r : Cx} (h : atC n k first = some r) : Wf r := by
  unfold atC at h
  split at h
  · simp only [Option.some.injEq] at h
    subst h
    split
    · exact wf_one
    · exact ⟨by decide, by decide⟩
  · rw [Option.map_eq_some_iff] at h
    obtain ⟨a, h1, rfl⟩ := h
    refine wf_turns ?_ _
    unfold quarterC at h1
    split at h1
    · exact hf a (List.mem_of_getElem? h1)
    · rw [Option.map_eq_some_iff] at h1
      obtain ⟨b, h2, rfl⟩ := h1
      have := hf b (List.mem_of_getElem? h2)
      exact ⟨this.2, this.1⟩
end Go.Wav
