/- The weights in plain numbers: they stand, lie from 0 to 1, and read alike from both ends. Nothing of the program. -/
import Derived.Test.YtjckoflcjkajiaaDoorWgtG
import Derived.Test.YtjckoflcjkajiaaDoorWgtB
set_option linter.unusedVariables false
set_option maxRecDepth 100000
namespace Go.Wav
open Go.Flt Go.Pen
theorem one_lt : one < 9223372036854775808 := by decide
theorem plain_bd {p : Nat} (h : p ≤ one) : plainF p = p := by
  unfold plainF
  have := one_lt
  split
  · omega
  · rfl
theorem flip_flip (p : Nat) : flipF (flipF p) = p := by unfold flipF; rw [Nat.xor_assoc, Nat.xor_self, Nat.xor_zero]
theorem flip_mod (p : Nat) : flipF p % 9223372036854775808 = p % 9223372036854775808 := by
  have := Nat.xor_mod_two_pow (a := p) (b := 9223372036854775808) (n := 63)
  unfold flipF
  rw [show (2 : Nat) ^ 63 = 9223372036854775808 by decide] at this
  rw [this, Nat.mod_self, Nat.xor_zero]
theorem plain_mod {p : Nat} {b : Nat} (h : p % 9223372036854775808 ≤ b) : plainF p % 9223372036854775808 ≤ b := by
  unfold plainF
  split
  · exact Nat.zero_le _
  · exact h
def Mb (a : Cx) : Prop := a.1 % 9223372036854775808 ≤ one ∧ a.2 % 9223372036854775808 ≤ one
theorem mb_turns {a : Cx} (h : Mb a) : ∀ j, Mb (turns j a)
  | 0 => h
  | j + 1 => ⟨plain_mod (by show flipF _ % _ ≤ _; rw [flip_mod]; exact (mb_turns h j).2), plain_mod (mb_turns h j).1⟩
theorem bd_mb {a : Cx} (h : Bd a) : Mb a := ⟨Nat.le_trans (Nat.mod_le _ _) h.1, Nat.le_trans (Nat.mod_le _ _) h.2⟩

section
variable {m : Nat} {f : List Cx} (hm : m ≤ 12) (hb : ∀ a ∈ f, Bd a) (hl : f.length = 2 ^ m / 8 + 1)
include hm hb hl
/-- A quarter's number stands. -/
theorem quarter_some (h2 : 2 ≤ m) {k : Nat} (hk : k < 2 ^ m / 4) : ∃ a, quarterC (2 ^ m) k f = some a ∧ Bd a := by
  have hq : 2 ^ m / 4 ≤ 2 * (2 ^ m / 8) ∨ 2 ^ m / 4 = 1 := by
    rcases (by omega : m = 2 ∨ 3 ≤ m) with rfl | h3
    · right; rfl
    · left
      obtain ⟨t, rfl⟩ : ∃ t, m = t + 3 := ⟨m - 3, by omega⟩
      rw [Nat.pow_add]; omega
  unfold quarterC
  by_cases h8 : k ≤ 2 ^ m / 8
  · rw [if_pos h8]
    have : k < f.length := by omega
    exact ⟨f[k], List.getElem?_eq_getElem this, hb _ (List.getElem_mem this)⟩
  · rw [if_neg h8]
    have : 2 ^ m / 4 - k < f.length := by omega
    have hbd := hb _ (List.getElem_mem this)
    exact ⟨(f[2 ^ m / 4 - k].2, f[2 ^ m / 4 - k].1), by rw [List.getElem?_eq_getElem this]; rfl, hbd.2, hbd.1⟩
theorem at_some {k : Nat} (hk : k < 2 ^ m) : ∃ a, atC (2 ^ m) k f = some a ∧ Mb a := by
  unfold atC
  by_cases h4 : 2 ^ m < 4
  · rw [if_pos h4]
    refine ⟨_, rfl, ?_⟩
    split
    · exact ⟨by decide, by decide⟩
    · exact ⟨by decide, by decide⟩
  · rw [if_neg h4]
    have h2 : 2 ≤ m := by
      rcases Nat.lt_or_ge m 2 with h | h
      · exfalso
        rcases (by omega : m = 0 ∨ m = 1) with rfl | rfl <;> simp at h4
      · exact h
    obtain ⟨a, ha, hbd⟩ := quarter_some hm hb hl h2 (k := k % (2 ^ m / 4)) (Nat.mod_lt _ (by omega))
    rw [ha]
    exact ⟨_, rfl, mb_turns (bd_mb hbd) _⟩
theorem tab_some : ∃ l, tabTo (2 ^ m) f (2 ^ m) = some l := by
  have go : ∀ k, k ≤ 2 ^ m → ∃ l, tabTo (2 ^ m) f k = some l := by
    intro k
    induction k with
    | zero => intro _; exact ⟨[], rfl⟩
    | succ k ih =>
      intro hk
      obtain ⟨l, hl'⟩ := ih (by omega)
      obtain ⟨a, ha, _⟩ := at_some hm hb hl (k := k) (by omega)
      exact ⟨l ++ [a], by unfold tabTo; rw [hl', Option.bind_some, ha, Option.bind_some]⟩
  exact go _ (Nat.le_refl _)
end
/-- The table of every order stands. -/
theorem tabC_some {m : Nat} (hm : m ≤ 12) : ∃ l, tabC m = some l := by
  obtain ⟨f, hf, hb, hl, _⟩ := eighth_all hm
  obtain ⟨l, h⟩ := tab_some hm hb hl
  exact ⟨l, by unfold tabC; rw [hf, Option.bind_some, h]⟩
theorem one_eq : one' = one := rfl
theorem half_some {a : Cx} (hw : Wf a) (h : Mb a) : ∃ x, halfC a = some x ∧ x ≤ one := by
  obtain ⟨s, h1, h2⟩ := addone_le (p := a.1) hw.1 h.1
  obtain ⟨x, h3, h4⟩ := half_le h2
  refine ⟨x, ?_, h4⟩
  unfold halfC
  rw [show one = one' from rfl, h1, Option.bind_some]; exact h3
theorem tri_some {N i : Nat} (hN : 0 < N) (hb : N ≤ 4096) (hi : i < N) : ∃ t, triC N i = some t ∧ t ≤ one := tri_le (by omega) hN (by omega)
theorem wgt_some {kind N i : Nat} {a : Cx} (hN : 0 < N) (hb : N ≤ 4096) (hi : i < N) (hw : Wf a) (h : Mb a) : ∃ r, wgtC kind N i a = some r ∧ r ≤ one := by
  obtain ⟨t, h1, h2⟩ := tri_some hN hb hi
  obtain ⟨x, h3, h4⟩ := half_some hw h
  unfold wgtC
  by_cases k1 : kind = 1
  · rw [if_pos k1]; exact ⟨one, rfl, Nat.le_refl _⟩
  · rw [if_neg k1]
    by_cases k2 : kind = 2
    · rw [if_pos k2]; exact ⟨t, h1, h2⟩
    · rw [if_neg k2, h1, Option.bind_some, h3, Option.bind_some]
      exact mul_le1 h2 h4
theorem plain_plain (p : Nat) : plainF (plainF p) = plainF p := by
  unfold plainF
  split
  · rfl
  · rfl
theorem pfpf {p : Nat} (h : p ≤ one) : plainF (flipF (plainF (flipF p))) = p := by
  by_cases h0 : p = 0
  · subst h0; decide
  · have := one_lt
    have e : plainF (flipF p) = flipF p := by
      unfold plainF
      split
      · rename_i hz
        exfalso
        have hm := flip_mod p
        rw [Nat.mod_eq_of_lt (a := p) (by omega)] at hm
        rcases hz with hz | hz <;> rw [hz] at hm <;> omega
      · rfl
    rw [e, flip_flip, plain_bd h]
theorem turn_sym {c s : Nat} (hc : c ≤ one) (hs : s ≤ one) : ∀ q, q ≤ 3 → (turns q (c, s)).1 = (turns (3 - q) (s, c)).1 := by
  intro q hq
  rcases (by omega : q = 0 ∨ q = 1 ∨ q = 2 ∨ q = 3) with rfl | rfl | rfl | rfl
  · show c = plainF (flipF (plainF (plainF (flipF c))))
    rw [plain_plain, pfpf hc]
  · show plainF (flipF s) = plainF (flipF (plainF s))
    rw [plain_bd hs]
  · show plainF (flipF (plainF c)) = plainF (flipF c)
    rw [plain_bd hc]
  · show plainF (flipF (plainF (plainF (flipF s)))) = s
    rw [plain_plain, pfpf hs]
theorem quarter_swap {m : Nat} {f : List Cx} {Q E : Nat} (hQ : 2 ^ m / 4 = Q) (hE : 2 ^ m / 8 = E) (h2 : Q = 2 * E) (hlast : ∃ c, f[E]? = some (c, c)) {r : Nat} (hr0 : 0 < r) (hr : r < Q) {a : Cx} (h : quarterC (2 ^ m) r f = some a) : quarterC (2 ^ m) (Q - r) f = some (a.2, a.1) := by
  unfold quarterC at h ⊢
  rw [hQ, hE] at h ⊢
  by_cases h8 : r ≤ E
  · rw [if_pos h8] at h
    by_cases he : r = E
    · obtain ⟨c, hc⟩ := hlast
      subst he
      rw [if_pos (by omega), show Q - r = r by omega, hc]
      rw [hc] at h
      obtain rfl := Option.some.inj h
      rfl
    · rw [if_neg (by omega), show Q - (Q - r) = r by omega, h]; rfl
  · rw [if_neg h8, Option.map_eq_some_iff] at h
    obtain ⟨b, hb, rfl⟩ := h
    rw [if_pos (by omega), hb]
theorem at_sym {m : Nat} (hm : m ≤ 12) {f : List Cx} (hf : eighthC m = some f) (hb : ∀ a ∈ f, Bd a) (hl : f.length = 2 ^ m / 8 + 1) (hlast : 3 ≤ m → ∃ c, f[2 ^ m / 8]? = some (c, c)) {i : Nat} (h0 : 0 < i) (hi : i < 2 ^ m) {a b : Cx} (ha : atC (2 ^ m) i f = some a) (hb' : atC (2 ^ m) (2 ^ m - i) f = some b) : a.1 = b.1 := by
  by_cases h4 : 2 ^ m < 4
  · have : 2 ^ m = 2 := by
      rcases (by omega : m = 0 ∨ m = 1 ∨ 2 ≤ m) with rfl | rfl | h
      · simp at hi; omega
      · rfl
      · have := Nat.pow_le_pow_right (n := 2) (by decide) h; omega
    obtain rfl : i = 1 := by omega
    rw [this] at ha hb'
    rw [ha] at hb'
    rw [Option.some.inj hb']
  · have hm2 : 2 ≤ m := by
      rcases Nat.lt_or_ge m 2 with h | h
      · exfalso
        rcases (by omega : m = 0 ∨ m = 1) with rfl | rfl <;> simp at h4
      · exact h
    have hN : 2 ^ m = 4 * (2 ^ m / 4) := by
      obtain ⟨t, rfl⟩ : ∃ t, m = t + 2 := ⟨m - 2, by omega⟩
      rw [Nat.pow_add]; omega
    have hqs := fun k (hk : k < 2 ^ m / 4) => quarter_some hm hb hl hm2 hk
    have hsw : ∀ r, 0 < r → r < 2 ^ m / 4 → ∀ a, quarterC (2 ^ m) r f = some a → quarterC (2 ^ m) (2 ^ m / 4 - r) f = some (a.2, a.1) := by
      intro r hr0 hr a h
      have hm3 : 3 ≤ m := by
        rcases (by omega : m = 2 ∨ 3 ≤ m) with rfl | h
        · simp at hr; omega
        · exact h
      have h2 : 2 ^ m / 4 = 2 * (2 ^ m / 8) := by
        obtain ⟨t, rfl⟩ : ∃ t, m = t + 3 := ⟨m - 3, by omega⟩
        rw [Nat.pow_add]; omega
      exact quarter_swap rfl rfl h2 (hlast hm3) hr0 hr h
    have hz : quarterC (2 ^ m) 0 f = some (one, 0) := by
      unfold quarterC
      rw [if_pos (Nat.zero_le _)]
      exact eighth_head hf
    unfold atC at ha hb'
    rw [if_neg h4] at ha hb'
    generalize 2 ^ m / 4 = Q at *
    have hdm := Nat.div_add_mod i Q
    have hQ0 : 0 < Q := by omega
    have hlt := Nat.mod_lt i hQ0
    obtain ⟨q, hq⟩ : ∃ q, q = i / Q := ⟨_, rfl⟩
    obtain ⟨r, hr⟩ : ∃ r, r = i % Q := ⟨_, rfl⟩
    rw [← hq, ← hr] at ha hdm
    rw [← hr] at hlt
    have hq4 : q < 4 := by
      rw [hq]; exact Nat.div_lt_of_lt_mul (by rw [Nat.mul_comm]; omega)
    by_cases hr0 : r = 0
    · subst hr0
      have e1 : 2 ^ m - i = Q * (4 - q) := by rw [← hdm, hN, Nat.mul_sub, Nat.mul_comm 4 Q]; omega
      rw [e1, Nat.mul_mod_right, Nat.mul_div_cancel_left _ hQ0, hz] at hb'
      rw [hz] at ha
      obtain rfl := Option.some.inj ha
      obtain rfl := Option.some.inj hb'
      have hq1 : 1 ≤ q := by
        rcases Nat.eq_zero_or_pos q with h | h
        · subst h; omega
        · exact h
      rcases (by omega : q = 1 ∨ q = 2 ∨ q = 3) with rfl | rfl | rfl <;> decide
    · have e1 : 2 ^ m - i = Q * (3 - q) + (Q - r) := by
        have : Q * (3 - q) + Q * q + Q = 4 * Q := by
          rw [← Nat.mul_add, show 3 - q + q = 3 by omega]; omega
        omega
      have e2 : (Q * (3 - q) + (Q - r)) % Q = Q - r := by rw [Nat.mul_add_mod, Nat.mod_eq_of_lt (by omega)]
      have e3 : (Q * (3 - q) + (Q - r)) / Q = 3 - q := by rw [Nat.mul_add_div hQ0, Nat.div_eq_of_lt (by omega), Nat.add_zero]
      rw [e1, e2, e3] at hb'
      obtain ⟨c, hc, hbd⟩ := hqs r hlt
      rw [hsw r (by omega) hlt c hc] at hb'
      rw [hc] at ha
      obtain rfl := Option.some.inj ha
      obtain rfl := Option.some.inj hb'
      exact turn_sym hbd.1 hbd.2 q (by omega)
theorem wgtTo_get {kind N : Nat} {l : List Cx} : ∀ {k : Nat} {ws : List Nat}, wgtTo kind N l k = some ws → ∀ j, j < k → ∃ a r, l[j]? = some a ∧ wgtC kind N j a = some r ∧ ws[j]? = some r
  | 0, ws, e, j, hj => absurd hj (by omega)
  | k + 1, ws, e, j, hj => by
    unfold wgtTo at e
    simp only [Option.bind_eq_some_iff, Option.some.injEq] at e
    obtain ⟨o, h1, a, h2, r, h3, rfl⟩ := e
    have hl := wgtTo_len h1
    by_cases hjk : j < k
    · obtain ⟨a', r', g1, g2, g3⟩ := wgtTo_get h1 j hjk
      exact ⟨a', r', g1, g2, by rw [List.getElem?_append_left (by omega)]; exact g3⟩
    · obtain rfl : j = k := by omega
      exact ⟨a, r, h2, h3, by rw [List.getElem?_append_right (by omega), hl, Nat.sub_self]; rfl⟩
/-- The weights of every kind and order. -/
theorem wgts_all {kind m : Nat} (hm : m ≤ 12) : ∃ ws, wgtsC kind m = some ws ∧ ws.length = 2 ^ m ∧ (∀ (i r : Nat), ws[i]? = some r → r ≤ one) ∧ ∀ i, 0 < i → i < 2 ^ m → ∀ r r', ws[i]? = some r → ws[2 ^ m - i]? = some r' → r = r' := by
  obtain ⟨f, hf, hb, hl, hlast⟩ := eighth_all hm
  obtain ⟨l, ht⟩ := tab_some hm hb hl
  have hN := Nat.two_pow_pos m
  have hN4 : 2 ^ m ≤ 4096 := Nat.le_trans (Nat.pow_le_pow_right (by decide) hm) (by decide)
  have hg : ∀ j, j < 2 ^ m → ∃ a, l[j]? = some a ∧ atC (2 ^ m) j f = some a ∧ Wf a ∧ Mb a := by
    intro j hj
    obtain ⟨a, ha, hmb⟩ := at_some hm hb hl hj
    have hgj : l[j]? = atC (2 ^ m) j f := by
      have go : ∀ {k : Nat} {l : List Cx}, tabTo (2 ^ m) f k = some l → ∀ j, j < k → l[j]? = atC (2 ^ m) j f := by
        intro k
        induction k with
        | zero => intro l _ j hj; omega
        | succ k ih =>
          intro l e j hj
          unfold tabTo at e
          simp only [Option.bind_eq_some_iff, Option.some.injEq] at e
          obtain ⟨l', h1, a, h2, rfl⟩ := e
          have hl := Go.Proofs.YtjckoflcjkajiaaDoor.tabTo_len h1
          by_cases hjk : j < k
          · rw [List.getElem?_append_left (by omega)]; exact ih h1 j hjk
          · obtain rfl : j = k := by omega
            rw [List.getElem?_append_right (by omega), hl, Nat.sub_self, h2]; rfl
      exact go ht j hj
    exact ⟨a, by rw [hgj, ha], ha, wf_at (wf_eighth hf) ha, hmb⟩
  have ex : ∀ k, k ≤ 2 ^ m → ∃ ws, wgtTo kind (2 ^ m) l k = some ws := by
    intro k
    induction k with
    | zero => intro _; exact ⟨[], rfl⟩
    | succ k ih =>
      intro hk
      obtain ⟨ws, hw⟩ := ih (by omega)
      obtain ⟨a, h1, _, h2, h3⟩ := hg k (by omega)
      obtain ⟨r, hr, _⟩ := wgt_some (kind := kind) hN hN4 (show k < 2 ^ m by omega) h2 h3
      exact ⟨ws ++ [r], by unfold wgtTo; rw [hw, Option.bind_some, h1, Option.bind_some, hr, Option.bind_some]⟩
  obtain ⟨ws, hw⟩ := ex _ (Nat.le_refl _)
  have hwl := wgtTo_len hw
  refine ⟨ws, by unfold wgtsC tabC; rw [hf, Option.bind_some, ht, Option.bind_some, hw], hwl, fun i r hi => ?_, fun i h0 hi r r' hr hr' => ?_⟩
  · have hlt : i < 2 ^ m := by rw [← hwl]; exact (List.getElem?_eq_some_iff.1 hi).1
    obtain ⟨a, r2, g1, g2, g3⟩ := wgtTo_get hw i hlt
    obtain ⟨a', q1, _, q2, q3⟩ := hg i hlt
    obtain rfl : a = a' := by rw [g1] at q1; exact Option.some.inj q1
    obtain ⟨r3, k1, k2⟩ := wgt_some (kind := kind) hN hN4 hlt q2 q3
    obtain rfl : r2 = r3 := by rw [g2] at k1; exact Option.some.inj k1
    obtain rfl : r = r2 := by rw [hi] at g3; exact Option.some.inj g3
    exact k2
  · obtain ⟨a, r2, g1, g2, g3⟩ := wgtTo_get hw i hi
    obtain ⟨b, r3, p1, p2, p3⟩ := wgtTo_get hw (2 ^ m - i) (by omega)
    obtain ⟨a', q1, qa, _⟩ := hg i hi
    obtain ⟨b', s1, sa, _⟩ := hg (2 ^ m - i) (by omega)
    obtain rfl : a = a' := by rw [g1] at q1; exact Option.some.inj q1
    obtain rfl : b = b' := by rw [p1] at s1; exact Option.some.inj s1
    obtain rfl : r = r2 := by rw [hr] at g3; exact Option.some.inj g3
    obtain rfl : r' = r3 := by rw [hr'] at p3; exact Option.some.inj p3
    have hre := at_sym hm hf hb hl hlast h0 hi qa sa
    have htri : triC (2 ^ m) i = triC (2 ^ m) (2 ^ m - i) := by
      unfold triC
      rw [show 2 ^ m - (2 ^ m - i) = i by omega, Nat.min_comm]
    have hhalf : halfC a = halfC b := by unfold halfC; rw [hre]
    have : wgtC kind (2 ^ m) i a = wgtC kind (2 ^ m) (2 ^ m - i) b := by unfold wgtC; rw [htri, hhalf]
    rw [g2, p2] at this
    exact Option.some.inj this
end Go.Wav
