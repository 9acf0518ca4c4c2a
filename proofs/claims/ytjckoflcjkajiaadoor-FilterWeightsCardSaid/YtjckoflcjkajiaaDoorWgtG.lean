/- The first eighths, out of the literal; tables stand for all orders. Nothing of the program. -/
import Derived.Test.YtjckoflcjkajiaaDoorRefP
import Derived.Test.YtjckoflcjkajiaaDoorE12
import Derived.Test.YtjckoflcjkajiaaDoorFly
set_option linter.unusedVariables false
set_option maxRecDepth 100000
namespace Go.Wav
open Go.Flt Go.Pen
def evens : List Cx → List Cx
  | a :: _ :: t => a :: evens t
  | l => l
theorem evens_get : ∀ (l : List Cx) (i : Nat), (evens l)[i]? = l[2 * i]?
  | [], i => by simp [evens]
  | [a], i => by
    cases i with
    | zero => rfl
    | succ i => simp [evens]
  | a :: b :: t, i => by
    cases i with
    | zero => rfl
    | succ i =>
      show (evens t)[i]? = _
      rw [evens_get t i, show 2 * (i + 1) = 2 * i + 1 + 1 by omega, List.getElem?_cons_succ, List.getElem?_cons_succ]
theorem evens_len : ∀ (l : List Cx), (evens l).length = (l.length + 1) / 2
  | [] => by simp [evens]
  | [a] => by simp [evens]
  | a :: b :: t => by
    show (evens t).length + 1 = _
    rw [evens_len t]; simp only [List.length_cons]; omega
theorem evens_mem : ∀ (l : List Cx) (a : Cx), a ∈ evens l → a ∈ l := fun l a h => by
  obtain ⟨i, hi⟩ := List.mem_iff_getElem?.1 h
  rw [evens_get] at hi
  exact List.mem_of_getElem? hi
def stepOk (s : Cx) : List Cx → Bool
  | a :: b :: t => (match mulC a s with | some mm => plainC mm == b | none => false) && stepOk s t
  | _ => true
theorem stepOk_get {s : Cx} : ∀ (i : Nat) (l : List Cx), stepOk s l = true → 2 * i + 1 < l.length → ∃ a mm, l[2 * i]? = some a ∧ mulC a s = some mm ∧ l[2 * i + 1]? = some (plainC mm)
  | i, [], _, h => by simp at h
  | i, [_], _, h => by simp at h
  | 0, a :: b :: t, ok, _ => by
    unfold stepOk at ok
    rw [Bool.and_eq_true] at ok
    cases hm : mulC a s with
    | none => rw [hm] at ok; cases ok.1
    | some mm =>
      rw [hm] at ok
      have : plainC mm = b := by simpa using ok.1
      exact ⟨a, mm, rfl, hm, by rw [this]; rfl⟩
  | i + 1, a :: b :: t, ok, h => by
    unfold stepOk at ok
    rw [Bool.and_eq_true] at ok
    obtain ⟨x, mm, h1, h2, h3⟩ := stepOk_get i t ok.2 (by simp only [List.length_cons] at h; omega)
    refine ⟨x, mm, ?_, h2, ?_⟩
    · rw [show 2 * (i + 1) = 2 * i + 1 + 1 by omega, List.getElem?_cons_succ, List.getElem?_cons_succ]; exact h1
    · rw [show 2 * (i + 1) + 1 = 2 * i + 1 + 1 + 1 by omega, List.getElem?_cons_succ, List.getElem?_cons_succ]; exact h3
theorem wv_take {s : Cx} {l : List Cx} {n : Nat} (hl : l.length = 2 * n + 1) (ok : stepOk s l = true) : ∀ i, i ≤ n → wv s (evens l) i = some (l.take (2 * i))
  | 0, _ => by simp [wv]
  | i + 1, hi => by
    have he := evens_len l
    obtain ⟨a, mm, h1, h2, h3⟩ := stepOk_get i l ok (by omega)
    unfold wv
    rw [wv_take hl ok i (by omega), Option.bind_some, evens_get, h1, Option.bind_some, if_pos (by omega), h2, Option.bind_some]
    rw [show 2 * (i + 1) = 2 * i + 1 + 1 by omega, List.take_add_one, List.take_add_one, h1, h3]
    simp
theorem wv_all {s : Cx} {l : List Cx} {n : Nat} (hl : l.length = 2 * n + 1) (ok : stepOk s l = true) : wv s (evens l) (evens l).length = some l := by
  have he := evens_len l
  have e1 : (evens l).length = n + 1 := by omega
  rw [e1]
  unfold wv
  have hg : l[2 * n]? = some (l[2 * n]'(by omega)) := List.getElem?_eq_getElem _
  rw [wv_take hl ok n (Nat.le_refl _), Option.bind_some, evens_get, hg, Option.bind_some, if_neg (by omega)]
  congr 1
  rw [show l.take (2 * n) ++ [l[2 * n]'(by omega)] = l.take (2 * n + 1) by rw [List.take_add_one, hg]; rfl]
  exact List.take_of_length_le (by omega)
/-- The first eighths: 'lev d' is that of order 2^(12-d). -/
def lev : Nat → List Cx
  | 0 => E12
  | d + 1 => evens (lev d)
def levOk (d : Nat) : Bool := match stepC (9 - d) with | some s => stepOk s (lev d) | none => false
theorem lev_ok : ((List.range 9).all levOk) = true := by decide +kernel
theorem lev_len : ∀ d, d ≤ 9 → (lev d).length = 2 ^ (9 - d) + 1
  | 0, _ => by decide +kernel
  | d + 1, h => by
    show (evens (lev d)).length = _
    rw [evens_len, lev_len d (by omega), show 9 - d = 9 - (d + 1) + 1 by omega, Nat.pow_succ]
    omega
theorem eighth_lev9 : eighthC 3 = some (lev 9) := by decide +kernel
theorem eighth_lev : ∀ (t : Nat), t ≤ 9 → eighthC (t + 3) = some (lev (9 - t))
  | 0, _ => eighth_lev9
  | t + 1, h => by
    have ok := List.all_eq_true.1 lev_ok (9 - (t + 1)) (List.mem_range.2 (by omega))
    unfold levOk at ok
    have hl := lev_len (9 - (t + 1)) (by omega)
    rw [show 9 - (9 - (t + 1)) = t + 1 by omega] at ok hl
    have ih := eighth_lev t (by omega)
    have e : lev (9 - t) = evens (lev (9 - (t + 1))) := by rw [show 9 - t = 9 - (t + 1) + 1 by omega]; rfl
    cases hs : stepC (t + 1) with
    | none => rw [hs] at ok; cases ok
    | some s =>
      rw [hs] at ok
      show ((eighthC (t + 3)).bind fun h => (stepC (t + 1)).bind fun s => wv s h h.length) = _
      rw [ih, Option.bind_some, hs, Option.bind_some, e]
      exact wv_all (n := 2 ^ t) (by rw [hl, Nat.pow_succ, Nat.mul_comm]) ok
/-- All parts of the first eighth lie from 0 to 1. -/
theorem E12_bd : (E12.all fun a => decide (a.1 ≤ one) && decide (a.2 ≤ one)) = true := by decide +kernel
theorem lev_mem : ∀ d a, a ∈ lev d → a ∈ E12
  | 0, a, h => h
  | d + 1, a, h => lev_mem d a (evens_mem _ a h)
def Bd (a : Cx) : Prop := a.1 ≤ one ∧ a.2 ≤ one
theorem lev_bd {d : Nat} {a : Cx} (h : a ∈ lev d) : Bd a := by
  have := List.all_eq_true.1 E12_bd a (lev_mem d a h)
  simpa [Bd] using this
/-- The last one's parts are alike. -/
theorem lev_last : ∀ d, d ≤ 9 → ∃ c, (lev d)[2 ^ (9 - d)]? = some (c, c)
  | 0, _ => ⟨4604544271217802189, by decide +kernel⟩
  | d + 1, h => by
    obtain ⟨c, hc⟩ := lev_last d (by omega)
    refine ⟨c, ?_⟩
    show (evens (lev d))[_]? = _
    rw [evens_get, ← hc, show 9 - d = 9 - (d + 1) + 1 by omega, Nat.pow_succ, Nat.mul_comm]
/-- What is known of the first eighth of each order. -/
theorem eighth_all {m : Nat} (hm : m ≤ 12) : ∃ f, eighthC m = some f ∧ (∀ a ∈ f, Bd a) ∧ (f.length = 2 ^ m / 8 + 1) ∧ (3 ≤ m → ∃ c, f[2 ^ m / 8]? = some (c, c)) := by
  by_cases h3 : 3 ≤ m
  · obtain ⟨t, rfl⟩ : ∃ t, m = t + 3 := ⟨m - 3, by omega⟩
    have e8 : 2 ^ (t + 3) / 8 = 2 ^ t := by rw [Nat.pow_add]; exact Nat.mul_div_cancel _ (by decide)
    have hl := lev_len (9 - t) (by omega)
    obtain ⟨c, hc⟩ := lev_last (9 - t) (by omega)
    rw [show 9 - (9 - t) = t by omega] at hl hc
    rw [e8]
    exact ⟨_, eighth_lev t (by omega), fun a ha => lev_bd ha, hl, fun _ => ⟨c, hc⟩⟩
  · refine ⟨[(one, 0)], ?_, ?_, ?_, fun h => absurd h h3⟩
    · rcases (by omega : m = 0 ∨ m = 1 ∨ m = 2) with rfl | rfl | rfl <;> rfl
    · intro a ha
      rw [List.mem_singleton.1 ha]
      exact ⟨Nat.le_refl _, by decide⟩
    · rcases (by omega : m = 0 ∨ m = 1 ∨ m = 2) with rfl | rfl | rfl <;> rfl
end Go.Wav
