/- Layer 3 in plain numbers: a list that is 0 but at its first place has one number at all places of its transform. Nothing of the program. -/
import Derived.Test.YtjckoflcjkajiaaDoorWavQ
import Derived.Test.YtjckoflcjkajiaaDoorFlw
set_option linter.unusedVariables false
set_option maxRecDepth 100000
namespace Go.Wav
open Go.Flt Go.Pen

/-- A complex number that is u (noughts of whichever sign). -/
def cls (v : Cx) (u : Int × Int) : Prop := isI v.1 u.1 ∧ isI v.2 u.2
def fin2 (a : Cx) : Bool := finB a.1 && finB a.2
theorem isZ_of {p : Nat} (h : isI p 0) : isZ p := (isI_zero rfl).1 h
theorem zero_isZ {r : Nat} (h : isZ r) : isI r 0 := (isI_zero rfl).2 h
theorem bf_val {a o e : Cx} {u : Int × Int} (ha : fin2 a = true) (ho : cls o (0, 0)) (he : cls e u) (h1 : u.1.natAbs < 9007199254740992) (h2 : u.2.natAbs < 9007199254740992) :
    ∃ t p q, mulC a o = some t ∧ addC e t = some p ∧ subC e t = some q ∧ cls p u ∧ cls q u := by
  unfold fin2 at ha
  rw [Bool.and_eq_true] at ha
  obtain ⟨pu, a1, b1⟩ := mul_zero ha.1 (isZ_of ho.1)
  obtain ⟨qv, a2, b2⟩ := mul_zero ha.2 (isZ_of ho.2)
  obtain ⟨pv, a3, b3⟩ := mul_zero ha.1 (isZ_of ho.2)
  obtain ⟨qu, a4, b4⟩ := mul_zero ha.2 (isZ_of ho.1)
  obtain ⟨t1, c1, d1⟩ := sub_zero (z := 0) (by decide) (zero_isZ b1) b2
  obtain ⟨t2, c2, d2⟩ := add_zero (z := 0) (by decide) (zero_isZ b3) b4
  obtain ⟨p1, e1, f1⟩ := add_zero h1 he.1 (isZ_of d1)
  obtain ⟨p2, e2, f2⟩ := add_zero h2 he.2 (isZ_of d2)
  obtain ⟨q1, e3, f3⟩ := sub_zero h1 he.1 (isZ_of d1)
  obtain ⟨q2, e4, f4⟩ := sub_zero h2 he.2 (isZ_of d2)
  refine ⟨(t1, t2), (p1, p2), (q1, q2), ?_, ?_, ?_, ⟨f1, f2⟩, ⟨f3, f4⟩⟩
  · unfold mulC; simp only [a1, a2, a3, a4, c1, c2, Option.bind_some]
  · unfold addC cSumBits floatBits; simp only [FloatKind.format, e1, e2, Option.bind_some]
  · unfold subC cSumBits floatBits; simp only [FloatKind.format, e3, e4, Option.bind_some]
/-- The first B numbers are u, the others 0. -/
def Cl (u : Int × Int) (B : Nat) (y : List Cx) : Prop := ∀ (i : Nat) (v : Cx), y[i]? = some v → cls v (if i < B then u else (0, 0))
theorem Cl.set2 {u : Int × Int} {B B' p0 p1 : Nat} {y : List Cx} {p q : Cx} (h : Cl u B y) (h0 : cls p (if p0 < B' then u else (0, 0))) (h1 : cls q (if p1 < B' then u else (0, 0)))
    (hB : ∀ i, i ≠ p0 → i ≠ p1 → (i < B ↔ i < B')) : Cl u B' ((y.set p0 p).set p1 q) := by
  intro i v hi
  rw [List.getElem?_set] at hi
  by_cases e1 : p1 = i
  · rw [if_pos e1] at hi
    split at hi
    · obtain rfl : q = v := Option.some.inj hi
      rw [← e1]; exact h1
    · cases hi
  · rw [if_neg e1, List.getElem?_set] at hi
    by_cases e0 : p0 = i
    · rw [if_pos e0] at hi
      split at hi
      · obtain rfl : p = v := Option.some.inj hi
        rw [← e0]; exact h0
      · cases hi
    · rw [if_neg e0] at hi
      have := h i v hi
      have hb := hB i (fun e => e0 e.symm) (fun e => e1 e.symm)
      by_cases hlt : i < B
      · rw [if_pos hlt] at this; rw [if_pos (hb.1 hlt)]; exact this
      · rw [if_neg hlt] at this; rw [if_neg (fun c => hlt (hb.2 c))]; exact this
section
variable {w : List Cx} {n S H q : Nat} {u : Int × Int} (hf : ∀ a ∈ w, fin2 a = true) (hS : S = 2 * H) (hH : 0 < H) (hq : n = q * S) (hw : w.length = n)
  (u1 : u.1.natAbs < 9007199254740992) (u2 : u.2.natAbs < 9007199254740992)
include hf hS hH hq hw u1 u2
theorem bf1_first {k : Nat} {y : List Cx} (hk : k < H) (hy : y.length = n) (hn : S ≤ n) (hc : Cl u (H + k) y) : ∃ y', bf1 w n S 0 k y = some y' ∧ Cl u (H + (k + 1)) y' := by
  have nq : n / S = q := by rw [hq]; exact Nat.mul_div_cancel _ (by omega)
  have h2 : S / 2 = H := by omega
  have hkq : k * q < w.length := by
    rw [hw, hq, Nat.mul_comm q]
    rcases Nat.eq_zero_or_pos q with h0 | h0
    · subst h0; omega
    · exact Nat.mul_lt_mul_of_pos_right (by omega) h0
  have ha := hf _ (List.getElem_mem hkq)
  have hl1 : 0 + k + H < y.length := by omega
  have hl0 : 0 + k < y.length := by omega
  have g1 := hc _ _ (List.getElem?_eq_getElem hl1)
  have g0 := hc _ _ (List.getElem?_eq_getElem hl0)
  rw [if_neg (by omega)] at g1
  rw [if_pos (by omega)] at g0
  obtain ⟨t, p, d, e1, e2, e3, f1, f2⟩ := bf_val ha g1 g0 u1 u2
  refine ⟨(y.set (0 + k) p).set (0 + k + H) d, ?_, ?_⟩
  · unfold bf1
    rw [nq, h2]
    simp only [List.getElem?_eq_getElem hkq, List.getElem?_eq_getElem hl1, List.getElem?_eq_getElem hl0, Option.bind_some, e1, e2, e3]
  · refine hc.set2 ?_ ?_ (fun i h0 h1 => by omega)
    · rw [if_pos (by omega)]; exact f1
    · rw [if_pos (by omega)]; exact f2
theorem bf1_rest {F k : Nat} {y : List Cx} (hk : k < H) (hy : y.length = n) (hF : S ≤ F) (hn : F + S ≤ n) (hc : Cl u S y) : ∃ y', bf1 w n S F k y = some y' ∧ Cl u S y' := by
  have _ := u1; have _ := u2
  have nq : n / S = q := by rw [hq]; exact Nat.mul_div_cancel _ (by omega)
  have h2 : S / 2 = H := by omega
  have hkq : k * q < w.length := by
    rw [hw, hq, Nat.mul_comm q]
    rcases Nat.eq_zero_or_pos q with h0 | h0
    · subst h0; omega
    · exact Nat.mul_lt_mul_of_pos_right (by omega) h0
  have ha := hf _ (List.getElem_mem hkq)
  have hl1 : F + k + H < y.length := by omega
  have hl0 : F + k < y.length := by omega
  have g1 := hc _ _ (List.getElem?_eq_getElem hl1)
  have g0 := hc _ _ (List.getElem?_eq_getElem hl0)
  rw [if_neg (by omega)] at g1 g0
  obtain ⟨t, p, d, e1, e2, e3, f1, f2⟩ := bf_val ha g1 g0 (by decide) (by decide)
  refine ⟨(y.set (F + k) p).set (F + k + H) d, ?_, ?_⟩
  · unfold bf1
    rw [nq, h2]
    simp only [List.getElem?_eq_getElem hkq, List.getElem?_eq_getElem hl1, List.getElem?_eq_getElem hl0, Option.bind_some, e1, e2, e3]
  · refine hc.set2 ?_ ?_ (fun i h0 h1 => Iff.rfl)
    · rw [if_neg (by omega)]; exact f1
    · rw [if_neg (by omega)]; exact f2
theorem bfK_first {y : List Cx} (hy : y.length = n) (hn : S ≤ n) (hc : Cl u H y) : ∀ k, k ≤ H → ∃ y', bfK w n S 0 y k = some y' ∧ Cl u (H + k) y'
  | 0, _ => ⟨y, rfl, hc⟩
  | k + 1, hk => by
    obtain ⟨y', e, c⟩ := bfK_first hy hn hc k (by omega)
    obtain ⟨z, e2, c2⟩ := bf1_first hf hS hH hq hw u1 u2 (k := k) (by omega) (by rw [bfK_len e, hy]) hn c
    exact ⟨z, by unfold bfK; rw [e, Option.bind_some, e2], c2⟩
theorem bfK_rest {F : Nat} {y : List Cx} (hy : y.length = n) (hF : S ≤ F) (hn : F + S ≤ n) (hc : Cl u S y) : ∀ k, k ≤ H → ∃ y', bfK w n S F y k = some y' ∧ Cl u S y'
  | 0, _ => ⟨y, rfl, hc⟩
  | k + 1, hk => by
    obtain ⟨y', e, c⟩ := bfK_rest hy hF hn hc k (by omega)
    obtain ⟨z, e2, c2⟩ := bf1_rest hf hS hH hq hw u1 u2 (k := k) (by omega) (by rw [bfK_len e, hy]) hF hn c
    exact ⟨z, by unfold bfK; rw [e, Option.bind_some, e2], c2⟩
theorem bfF_all {y : List Cx} (hy : y.length = n) (hc : Cl u H y) : ∀ j, 1 ≤ j → j ≤ q → ∃ y', bfF w n S y j = some y' ∧ Cl u S y'
  | 0, h, _ => by omega
  | 1, _, hj => by
    have hn : S ≤ n := by rw [hq]; exact Nat.le_mul_of_pos_left _ (by omega)
    have h2 : S / 2 = H := by omega
    obtain ⟨y', e, c⟩ := bfK_first hf hS hH hq hw u1 u2 hy hn hc H (Nat.le_refl _)
    refine ⟨y', ?_, by rw [show H + H = S by omega] at c; exact c⟩
    show (some y).bind _ = _
    rw [Option.bind_some, h2, Nat.zero_mul, e]
  | j + 2, _, hj => by
    have h2 : S / 2 = H := by omega
    obtain ⟨y', e, c⟩ := bfF_all hy hc (j + 1) (by omega) (by omega)
    have hF : S ≤ (j + 1) * S := Nat.le_mul_of_pos_left _ (by omega)
    have hn : (j + 1) * S + S ≤ n := by
      rw [hq]
      have := Nat.mul_le_mul_right S hj
      rw [Nat.add_mul (j + 1) 1 S, Nat.one_mul] at this
      exact this
    obtain ⟨z, e2, c2⟩ := bfK_rest hf hS hH hq hw u1 u2 (F := (j + 1) * S) (by rw [bfF_len e, hy]) hF hn c H (Nat.le_refl _)
    refine ⟨z, ?_, c2⟩
    show (bfF w n S y (j + 1)).bind _ = _
    rw [e, Option.bind_some, h2, e2]
end
theorem bfS_all {w : List Cx} {m : Nat} {u : Int × Int} (hf : ∀ a ∈ w, fin2 a = true) (hw : w.length = 2 ^ m) (u1 : u.1.natAbs < 9007199254740992) (u2 : u.2.natAbs < 9007199254740992) {y : List Cx} (hy : y.length = 2 ^ m) (hc : Cl u 1 y) :
    ∀ s, s ≤ m → ∃ y', bfS w (2 ^ m) y s = some y' ∧ Cl u (2 ^ s) y'
  | 0, _ => ⟨y, rfl, hc⟩
  | s + 1, hs => by
    obtain ⟨y', e, c⟩ := bfS_all hf hw u1 u2 hy hc s (by omega)
    have hq : 2 ^ m = 2 ^ (m - (s + 1)) * 2 ^ (s + 1) := by rw [← Nat.pow_add]; congr 1; omega
    have hdiv : 2 ^ m / 2 ^ (s + 1) = 2 ^ (m - (s + 1)) := by rw [hq]; exact Nat.mul_div_cancel _ (Nat.two_pow_pos _)
    obtain ⟨z, e2, c2⟩ := bfF_all hf (show 2 ^ (s + 1) = 2 * 2 ^ s by rw [Nat.pow_succ, Nat.mul_comm]) (Nat.two_pow_pos s) hq hw u1 u2 (by rw [bfS_len e, hy]) c (2 ^ (m - (s + 1))) (Nat.two_pow_pos _) (Nat.le_refl _)
    exact ⟨z, by unfold bfS; rw [e, Option.bind_some, hdiv, e2], c2⟩

theorem brev_zero {m i : Nat} (hi : i < 2 ^ m) (h : brev m i = 0) : i = 0 := by
  induction m generalizing i with
  | zero => simpa using hi
  | succ m ih =>
    unfold brev at h
    have p := Nat.two_pow_pos m
    have h0 : i % 2 = 0 := by
      rcases (by omega : i % 2 = 0 ∨ i % 2 = 1) with h1 | h1
      · exact h1
      · rw [h1] at h; omega
    have h2 := ih (i := i / 2) (by rw [Nat.pow_succ] at hi; omega) (by rw [h0] at h; omega)
    omega
theorem trn_cl {m : Nat} {a : Cx} {u : Int × Int} (ha : cls a u) : ∀ k, 1 ≤ k → k ≤ 2 ^ m → Cl u 1 (trnTo m (a :: List.replicate (2 ^ m - 1) (0, 0)) k)
  | 0, h, _ => by omega
  | 1, _, hk => by
    have hb : brev m 0 = 0 := by
      have : ∀ m, brev m 0 = 0 := fun m => by induction m with
        | zero => rfl
        | succ m ih => unfold brev; simp [ih]
      exact this m
    intro i v hi
    unfold trnTo trnTo at hi
    rw [hb, List.getElem?_set] at hi
    by_cases e : 0 = i
    · subst e
      rw [if_pos rfl] at hi
      split at hi
      · obtain rfl := Option.some.inj hi
        exact ha
      · cases hi
    · rw [if_neg e, List.getElem?_replicate] at hi
      split at hi
      · obtain rfl := Option.some.inj hi
        rw [if_neg (by omega)]
        exact ⟨zero_isZ (.inl rfl), zero_isZ (.inl rfl)⟩
      · cases hi
  | k + 2, _, hk => by
    have ih := trn_cl (m := m) ha (k + 1) (by omega) (by omega)
    have hb : brev m (k + 1) ≠ 0 := fun h => by have := brev_zero (m := m) (i := k + 1) (show k + 1 < 2 ^ m by omega) h; omega
    have hz : (a :: List.replicate (2 ^ m - 1) ((0, 0) : Cx)).getD (k + 1) (0, 0) = (0, 0) := by
      rw [List.getD_eq_getElem?_getD, List.getElem?_cons_succ, List.getElem?_replicate]
      split <;> rfl
    intro i v hi
    unfold trnTo at hi
    rw [hz, List.getElem?_set] at hi
    by_cases e : brev m (k + 1) = i
    · rw [if_pos e] at hi
      split at hi
      · obtain rfl := Option.some.inj hi
        rw [if_neg (by omega)]
        exact ⟨zero_isZ (.inl rfl), zero_isZ (.inl rfl)⟩
      · cases hi
    · rw [if_neg e] at hi
      exact ih i v hi
theorem tab7 : ((List.range 8).all fun m => match tabC m with | some l => (conjs l).all fin2 && decide (l.length = 2 ^ m) | none => false) = true := by decide +kernel
/-- The transform of a list that is 0 but at its first place. -/
theorem first_wave {m : Nat} (hm : m ≤ 7) {a : Cx} {u : Int × Int} (ha : cls a u) (u1 : u.1.natAbs < 9007199254740992) (u2 : u.2.natAbs < 9007199254740992) :
    ∃ r, forwardC m (a :: List.replicate (2 ^ m - 1) (0, 0)) = some r ∧ r.length = 2 ^ m ∧ ∀ (i : Nat) (v : Cx), r[i]? = some v → cls v u := by
  have ht := List.all_eq_true.1 tab7 m (List.mem_range.2 (by omega))
  unfold forwardC
  cases hl : tabC m with
  | none => rw [hl] at ht; cases ht
  | some l =>
    rw [hl] at ht
    simp only [Bool.and_eq_true, decide_eq_true_eq] at ht
    rw [Option.bind_some]
    unfold waveC trn
    have htl := trnTo_len m (a :: List.replicate (2 ^ m - 1) ((0, 0) : Cx)) (2 ^ m)
    obtain ⟨r, e, c⟩ := bfS_all (fun a ha => List.all_eq_true.1 ht.1 a ha) (by unfold conjs; rw [List.length_map]; exact ht.2) u1 u2 htl (trn_cl ha (2 ^ m) (Nat.two_pow_pos m) (Nat.le_refl _)) m (Nat.le_refl _)
    have hrl := bfS_len e
    refine ⟨r, e, by rw [hrl, htl], fun i v hi => ?_⟩
    have hil : i < r.length := (List.getElem?_eq_some_iff.1 hi).1
    have := c i v hi
    rw [if_pos (by omega)] at this
    exact this
end Go.Wav
