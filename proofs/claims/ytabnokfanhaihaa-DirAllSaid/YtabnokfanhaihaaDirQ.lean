/- Directions, in plain numbers: multiples, the direction across, the order as an order. Nothing of the program. -/
import Derived.Test.YtabnokfanhaihaaDirP
set_option linter.unusedVariables false
namespace Go.Proofs.Ytabnokfanhaihaa

/-- Every multiple of a direction has its one form. -/
theorem nrm_mul {p q k : Int} (h : isDir p q = true) (hk : k ≠ 0) : nrm (k * p) (k * q) = (p, q, 0) := by
  obtain ⟨h1, h2, h3, g1, h4⟩ := (isDir_iff p q).1 h
  have hg : Nat.gcd (k * p).natAbs (k * q).natAbs = k.natAbs := by
    rw [Int.natAbs_mul, Int.natAbs_mul, Nat.gcd_mul_left, g1, Nat.mul_one]
  have hk' : 0 < k.natAbs := by omega
  have dp : (k * p).natAbs / k.natAbs = p.natAbs := by rw [Int.natAbs_mul, Nat.mul_div_cancel_left _ hk']
  have dq : (k * q).natAbs / k.natAbs = q.natAbs := by rw [Int.natAbs_mul, Nat.mul_div_cancel_left _ hk']
  have s1 : ∀ x : Int, (k * x < 0 ↔ (k < 0 ∧ 0 < x) ∨ (0 < k ∧ x < 0)) := fun x => by
    rcases Int.lt_or_gt_of_ne hk with hk | hk
    · rcases Int.lt_trichotomy x 0 with hx | hx | hx
      · have := Int.mul_pos_of_neg_of_neg hk hx; omega
      · subst hx; simp
      · have := Int.mul_neg_of_neg_of_pos hk hx; omega
    · rcases Int.lt_trichotomy x 0 with hx | hx | hx
      · have := Int.mul_neg_of_pos_of_neg hk hx; omega
      · subst hx; simp
      · have := Int.mul_pos hk hx; omega
  have s2 : ∀ x : Int, (0 < k * x ↔ (k < 0 ∧ x < 0) ∨ (0 < k ∧ 0 < x)) := fun x => by
    rcases Int.lt_or_gt_of_ne hk with hk | hk
    · rcases Int.lt_trichotomy x 0 with hx | hx | hx
      · have := Int.mul_pos_of_neg_of_neg hk hx; omega
      · subst hx; simp
      · have := Int.mul_neg_of_neg_of_pos hk hx; omega
    · rcases Int.lt_trichotomy x 0 with hx | hx | hx
      · have := Int.mul_neg_of_pos_of_neg hk hx; omega
      · subst hx; simp
      · have := Int.mul_pos hk hx; omega
  have p1 := s1 p
  have p2 := s2 p
  have q1 := s1 q
  have q2 := s2 q
  have hq0 : q = 0 ∨ 0 < q := by omega
  by_cases hs : (k * p < 0 ∧ 0 < k * q) ∨ (0 < k * p ∧ k * q < 0)
  · rw [nrm_neg (by rw [hg]; omega) (by rw [hg, dp]; omega) (by rw [hg, dq]; omega) hs, hg, dp, dq]
    have : p < 0 := by
      rcases hs with ⟨a, b⟩ | ⟨a, b⟩
      · have a' := p1.1 a; have b' := q2.1 b; omega
      · have a' := p2.1 a; have b' := q1.1 b; omega
    rw [Int.natAbs_of_nonneg h1, Int.ofNat_natAbs_of_nonpos (Int.le_of_lt this), Int.neg_neg]
  · rw [nrm_pos (by rw [hg]; omega) (by rw [hg, dp]; omega) (by rw [hg, dq]; omega) hs, hg, dp, dq]
    have : 0 ≤ p := by
      rcases hq0 with hq | hq
      · have := h4 hq; omega
      · rcases (by omega : p < 0 ∨ 0 ≤ p) with hp | hp
        · exact absurd (by
            rcases Int.lt_or_gt_of_ne hk with hk | hk
            · exact .inr ⟨p2.2 (.inl ⟨hk, hp⟩), q1.2 (.inl ⟨hk, hq⟩)⟩
            · exact .inl ⟨p1.2 (.inr ⟨hk, hp⟩), q2.2 (.inr ⟨hk, hq⟩)⟩) hs
        · exact hp
    rw [Int.natAbs_of_nonneg this, Int.natAbs_of_nonneg h1]

/-- The direction across, by its parts. -/
def acP (p q : Int) : Int := if 0 < q ∧ 0 < p then -q else q
def acQ (p q : Int) : Int := if 0 < p then p else -p
theorem acP_of (p q : Int) : (0 < q ∧ 0 < p ∧ acP p q = -q) ∨ (¬ (0 < q ∧ 0 < p) ∧ acP p q = q) := by unfold acP; split <;> omega
theorem acQ_of (p q : Int) : (0 < p ∧ acQ p q = p) ∨ (¬ 0 < p ∧ acQ p q = -p) := by unfold acQ; split <;> omega
theorem nrm_across {p q : Int} (h : isDir p q = true) : nrm (-q) p = (acP p q, acQ p q, 0) := by
  obtain ⟨h1, h2, h3, g1, h4⟩ := (isDir_iff p q).1 h
  have hg : Nat.gcd (-q).natAbs p.natAbs = 1 := by rw [Int.natAbs_neg, Nat.gcd_comm]; exact g1
  have u := acP_of p q
  have v := acQ_of p q
  by_cases hs : (-q < 0 ∧ 0 < p) ∨ (0 < -q ∧ p < 0)
  · rw [nrm_neg (by rw [hg]; omega) (by rw [hg, Nat.div_one]; omega) (by rw [hg, Nat.div_one]; omega) hs, hg, Nat.div_one, Nat.div_one]
    exact Prod.ext (by show -(((-q).natAbs : Nat) : Int) = acP p q; omega) (Prod.ext (by show ((p.natAbs : Nat) : Int) = acQ p q; omega) rfl)
  · rw [nrm_pos (by rw [hg]; omega) (by rw [hg, Nat.div_one]; omega) (by rw [hg, Nat.div_one]; omega) hs, hg, Nat.div_one, Nat.div_one]
    exact Prod.ext (by show (((-q).natAbs : Nat) : Int) = acP p q; omega) (Prod.ext (by show ((p.natAbs : Nat) : Int) = acQ p q; omega) rfl)
theorem across_dir {p q : Int} (h : isDir p q = true) : isDir (acP p q) (acQ p q) = true := by
  obtain ⟨h1, h2, h3, g1, h4⟩ := (isDir_iff p q).1 h
  rw [isDir_iff]
  have gz : p = 0 → q = 1 := fun hp => by subst hp; simp at g1; omega
  have u := acP_of p q
  have v := acQ_of p q
  have a1 : (acP p q).natAbs = q.natAbs := by omega
  have a2 : (acQ p q).natAbs = p.natAbs := by omega
  refine ⟨by omega, by omega, by omega, by rw [a1, a2, Nat.gcd_comm]; exact g1, ?_⟩
  intro hz
  have := gz (by omega)
  omega
theorem across_twice {p q : Int} (h : isDir p q = true) : acP (acP p q) (acQ p q) = p ∧ acQ (acP p q) (acQ p q) = q := by
  obtain ⟨h1, h2, h3, g1, h4⟩ := (isDir_iff p q).1 h
  have gz : p = 0 → q = 1 := fun hp => by subst hp; simp at g1; omega
  have u := acP_of p q
  have v := acQ_of p q
  have u' := acP_of (acP p q) (acQ p q)
  have v' := acQ_of (acP p q) (acQ p q)
  generalize acP (acP p q) (acQ p q) = A at *
  generalize acQ (acP p q) (acQ p q) = C at *
  generalize acP p q = A' at *
  generalize acQ p q = C' at *
  omega
theorem across_right {p q : Int} (h : isDir p q = true) : acP p q * p + acQ p q * q = 0 := by
  obtain ⟨h1, h2, h3, g1, h4⟩ := (isDir_iff p q).1 h
  rcases acP_of p q with ⟨a, b, e⟩ | ⟨a, e⟩ <;> rcases acQ_of p q with ⟨c, e'⟩ | ⟨c, e'⟩ <;> rw [e, e']
  · rw [Int.neg_mul, Int.mul_comm p q]; omega
  · omega
  · have : q = 0 := by omega
    subst this; simp
  · rw [Int.neg_mul, Int.mul_comm p q]; omega
theorem across_bd {p q : Int} (h : isDir p q = true) : -16 ≤ acP p q ∧ acP p q ≤ 16 ∧ 0 ≤ acQ p q ∧ acQ p q ≤ 16 := by
  have := isDir_bd (across_dir h); omega

/-! the order -/
def crs (a b c d : Int) : Int := a * d - b * c
theorem cmp_crs {a b c d : Int} (h : isDir a b = true) (h' : isDir c d = true) : cmpD a b c d = if 0 < crs a b c d then -1 else if crs a b c d < 0 then 1 else 0 := by
  unfold cmpD crs; rw [if_pos ⟨h, h'⟩]
theorem crs_anti (a b c d : Int) : crs c d a b = -crs a b c d := by
  unfold crs; rw [Int.mul_comm c b, Int.mul_comm d a]; omega
theorem crs_zero {a b c d : Int} (h : isDir a b = true) (h' : isDir c d = true) : crs a b c d = 0 ↔ (a = c ∧ b = d) := by
  obtain ⟨h1, h2, h3, g1, h4⟩ := (isDir_iff a b).1 h
  obtain ⟨k1, k2, k3, g2, k4⟩ := (isDir_iff c d).1 h'
  constructor
  · intro hz
    have hz : a * d = b * c := by unfold crs at hz; omega
    by_cases hb : b = 0
    · have ha := h4 hb
      subst hb ha
      have hd : d = 0 := by simpa using hz
      exact ⟨(k4 hd).symm, hd.symm⟩
    · have hb' : 0 < b := by omega
      by_cases hd : d = 0
      · have hc := k4 hd
        subst hd hc
        simp at hz; omega
      · have hd' : 0 < d := by omega
        have hn : a.natAbs * d.natAbs = b.natAbs * c.natAbs := by rw [← Int.natAbs_mul, ← Int.natAbs_mul, hz]
        have l1 : b.natAbs ∣ d.natAbs := Nat.Coprime.dvd_of_dvd_mul_left (k := b.natAbs) (m := a.natAbs) (by rw [Nat.Coprime, Nat.gcd_comm]; exact g1) ⟨c.natAbs, hn⟩
        have l2 : d.natAbs ∣ b.natAbs := Nat.Coprime.dvd_of_dvd_mul_right (k := d.natAbs) (n := c.natAbs) (by rw [Nat.Coprime, Nat.gcd_comm]; exact g2) ⟨a.natAbs, by rw [Nat.mul_comm d.natAbs]; exact hn.symm⟩
        have e : b.natAbs = d.natAbs := Nat.dvd_antisymm l1 l2
        have e' : b = d := by omega
        subst e'
        refine ⟨?_, rfl⟩
        rw [Int.mul_comm a b] at hz
        exact Int.eq_of_mul_eq_mul_left hb hz
  · rintro ⟨rfl, rfl⟩
    unfold crs; rw [Int.mul_comm]; omega
theorem crs_ident (a b c d e f : Int) : crs a b e f * d = crs a b c d * f + crs c d e f * b := by
  unfold crs
  simp only [Int.sub_mul]
  have e1 : a * f * d = a * d * f := by rw [Int.mul_assoc, Int.mul_comm f d, ← Int.mul_assoc]
  have e2 : b * e * d = d * e * b := by rw [Int.mul_comm b e, Int.mul_assoc, Int.mul_comm b d, ← Int.mul_assoc, Int.mul_comm e d]
  have e3 : b * c * f = c * f * b := by rw [Int.mul_comm b c, Int.mul_assoc, Int.mul_comm b f, ← Int.mul_assoc]
  omega
/-- From angle to angle. -/
theorem crs_trans {a b c d e f : Int} (h : isDir a b = true) (h' : isDir c d = true) (h'' : isDir e f = true) (u : 0 ≤ crs a b c d) (v : 0 ≤ crs c d e f) :
    0 < crs a b e f ∨ (crs a b e f = 0 ∧ crs a b c d = 0 ∧ crs c d e f = 0) := by
  obtain ⟨a1, a2, a3, a4, a5⟩ := (isDir_iff a b).1 h
  obtain ⟨c1, c2, c3, c4, c5⟩ := (isDir_iff c d).1 h'
  obtain ⟨e1, e2, e3, e4, e5⟩ := (isDir_iff e f).1 h''
  by_cases hd : d = 0
  · have hc := c5 hd
    subst hd hc
    have hb : b = 0 := by unfold crs at u; simp at u; omega
    have ha := a5 hb
    subst hb ha
    have : crs 1 0 1 0 = 0 := by decide
    omega
  · have hd' : 0 < d := by omega
    have id := crs_ident a b c d e f
    have t1 : 0 ≤ crs a b c d * f := Int.mul_nonneg u e1
    have t2 : 0 ≤ crs c d e f * b := Int.mul_nonneg v a1
    rcases Int.lt_trichotomy (crs a b e f) 0 with hn | hz | hp
    · have := Int.mul_neg_of_neg_of_pos hn hd'; omega
    · rw [hz] at id
      have z1 : crs a b c d * f = 0 := by omega
      have z2 : crs c d e f * b = 0 := by omega
      by_cases hf : f = 0
      · have he := e5 hf
        subst hf he
        unfold crs at v; simp at v; omega
      · have u0 : crs a b c d = 0 := (Int.mul_eq_zero.1 z1).resolve_right hf
        have := (crs_zero h h').1 u0
        obtain ⟨rfl, rfl⟩ := this
        exact .inr ⟨hz, u0, hz⟩
    · exact .inl hp
/-- What the law asks of the order. -/
theorem cmp_order {a b c d e f : Int} (h : isDir a b = true) (h' : isDir c d = true) (h'' : isDir e f = true) :
    cmpD c d a b = -cmpD a b c d ∧ (cmpD a b c d = 0 ↔ (a = c ∧ b = d)) ∧
    (0 < cmpD a b c d ∨ 0 < cmpD c d e f ∨ (cmpD a b e f ≤ 0 ∧ (cmpD a b e f < 0 ∨ (cmpD a b c d = 0 ∧ cmpD c d e f = 0)))) := by
  rw [cmp_crs h' h, cmp_crs h h', cmp_crs h' h'', cmp_crs h h'', crs_anti a b c d]
  have z := crs_zero h h'
  have t := crs_trans h h' h''
  generalize crs a b c d = x at *
  generalize crs c d e f = y at *
  generalize crs a b e f = w at *
  refine ⟨?_, ?_, ?_⟩
  · by_cases c1 : 0 < x
    · rw [if_neg (by omega), if_pos (by omega), if_pos c1]; rfl
    · by_cases c2 : x < 0
      · rw [if_pos (by omega), if_neg c1, if_pos c2]
      · rw [if_neg (by omega), if_neg (by omega), if_neg c1, if_neg c2]; rfl
  · rw [← z]
    by_cases c1 : 0 < x
    · rw [if_pos c1]; omega
    · by_cases c2 : x < 0
      · rw [if_neg c1, if_pos c2]; omega
      · rw [if_neg c1, if_neg c2]; omega
  · by_cases c1 : x < 0
    · left; rw [if_neg (by omega), if_pos c1]; omega
    · by_cases c2 : y < 0
      · right; left; rw [if_neg (by omega), if_pos c2]; omega
      · right; right
        rcases t (by omega) (by omega) with hp | ⟨h0, h1, h2⟩
        · rw [if_pos hp]; omega
        · subst h0 h1 h2; simp
end Go.Proofs.Ytabnokfanhaihaa
