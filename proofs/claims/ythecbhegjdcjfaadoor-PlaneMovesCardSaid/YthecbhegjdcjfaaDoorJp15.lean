/- Texts joined: Cyc, Chr, RefP, Fly, WgtG, WavH, Tbl, Fft, Inv, Drc. -/
import Derived.Test.YthecbhegjdcjfaaDoorJp14
section
/- The roots of one as fractions: a number whose powers go round almost, how near the first eighth lies to them. Nothing of the program. -/
set_option linter.unusedVariables false
set_option maxRecDepth 100000
set_option exponentiation.threshold 3000
namespace Go.Cyc
open Go.Flt Go.Qc

def ua : Nat := 340281966562298792572160534645360975659
def ub : Nat := 521986408598802148050493966777353034
def ud : Nat := 340282366920938463463374607431768211456
/-- The number next to 1. -/
def u : Q2 := ⟨(ua : Rat) / (ud : Rat), (ub : Rat) / (ud : Rat)⟩
def qpow (z : Q2) : Nat → Q2
  | 0 => q1
  | n + 1 => qpow z n * z
theorem qpow_add (z : Q2) (a : Nat) : ∀ b, qpow z (a + b) = qpow z a * qpow z b
  | 0 => (mul_one _).symm
  | b + 1 => by
    show qpow z (a + b) * z = qpow z a * (qpow z b * z)
    rw [qpow_add z a b, mul_assoc]
theorem qpow_nsq {z : Q2} (h : nsq z ≤ 1) : ∀ n, nsq (qpow z n) ≤ 1
  | 0 => by unfold qpow nsq; decide +kernel
  | n + 1 => by
    show nsq (qpow z n * z) ≤ 1
    rw [nsq_mul]
    have a := qpow_nsq h n
    have z0 : 0 ≤ nsq z := by unfold nsq; have := sq_nn z.re; have := sq_nn z.im; grind
    have b := Rat.mul_le_mul_of_nonneg_right a z0
    rw [Rat.one_mul] at b
    exact Rat.le_trans b h
/-- A and B, over S, are the parts of the k-th power. -/
structure At (k A B S : Nat) : Prop where
  pos : 0 < S
  re : (qpow u k).re * (S : Rat) = (A : Rat)
  im : (qpow u k).im * (S : Rat) = (B : Rat)
theorem ud_ne : ((ud : Nat) : Rat) ≠ 0 := by decide +kernel
theorem u_re : u.re * (ud : Rat) = (ua : Rat) := Rat.div_mul_cancel ud_ne
theorem u_im : u.im * (ud : Rat) = (ub : Rat) := Rat.div_mul_cancel ud_ne
theorem At.next {k A B S : Nat} (h : At k A B S) (hs : B * ub ≤ A * ua) : At (k + 1) (A * ua - B * ub) (A * ub + B * ua) (S * ud) := by
  have e1 : ((A * ua - B * ub : Nat) : Rat) = (A : Rat) * ua - (B : Rat) * ub := by
    have : ((A * ua - B * ub : Nat) : Rat) + ((B * ub : Nat) : Rat) = ((A * ua : Nat) : Rat) := by rw [← Rat.natCast_add, Nat.sub_add_cancel hs]
    rw [Rat.natCast_mul, Rat.natCast_mul] at this
    grind
  refine ⟨Nat.mul_pos h.pos (by decide +kernel), ?_, ?_⟩
  · show ((qpow u k).re * u.re - (qpow u k).im * u.im) * _ = _
    rw [e1, Rat.natCast_mul, ← h.re, ← h.im, ← u_re, ← u_im]
    grind
  · show ((qpow u k).re * u.im + (qpow u k).im * u.re) * _ = _
    rw [Rat.natCast_add, Rat.natCast_mul, Rat.natCast_mul, Rat.natCast_mul, ← h.re, ← h.im, ← u_re, ← u_im]
    grind
theorem At.zero : At 0 1 0 1 := ⟨by decide, by decide +kernel, by decide +kernel⟩
/-- How far a number of the list may lie off: 45/64 of 2^-51, in units of 2^-1074 times S. -/
def okP (v A S : Nat) : Bool := decide (v * S * 2 ^ 57 ≤ A * 2 ^ 1131 + 45 * S * 2 ^ 1074) && decide (A * 2 ^ 1131 ≤ v * S * 2 ^ 57 + 45 * S * 2 ^ 1074)
def okE (e : Nat × Nat) (A B S : Nat) : Bool := finB e.1 && finB e.2 && decide (0 ≤ val e.1) && decide (0 ≤ val e.2) && okP (val e.1).toNat A S && okP (val e.2).toNat B S
def chk : List (Nat × Nat) → Nat → Nat → Nat → Bool
  | [], _, _, _ => true
  | e :: t, A, B, S => okE e A B S && Nat.ble (B * ub) (A * ua) && chk t (A * ua - B * ub) (A * ub + B * ua) (S * ud)
/-- The first quarter of a turn, of order 4096. -/
def qtab : List (Nat × Nat) := Wav.E12 ++ Wav.E12.tail.reverse.tail.map fun a => (a.2, a.1)
theorem chk_all : chk qtab 1 0 1 = true := by decide +kernel
theorem chk_get : ∀ {l : List (Nat × Nat)} {k A B S : Nat}, At k A B S → chk l A B S = true → ∀ (i : Nat) (e : Nat × Nat), l[i]? = some e → ∃ A B S, At (k + i) A B S ∧ okE e A B S = true
  | [], _, _, _, _, _, _, i, e, hi => by simp at hi
  | x :: t, k, A, B, S, hA, hc, i, e, hi => by
    unfold chk at hc
    rw [Bool.and_eq_true, Bool.and_eq_true] at hc
    cases i with
    | zero =>
      obtain rfl : x = e := by simpa using hi
      exact ⟨A, B, S, hA, hc.1.1⟩
    | succ i =>
      obtain ⟨A', B', S', h1, h2⟩ := chk_get (hA.next (Nat.le_of_ble_eq_true hc.1.2)) hc.2 i e (by simpa using hi)
      exact ⟨A', B', S', by rw [show k + (i + 1) = k + 1 + i by omega]; exact h1, h2⟩
def tau0 : Rat := 45 / 144115188075855872
theorem okP_bd {v A S : Nat} {x : Rat} (hS : 0 < S) (hx : x * (S : Rat) = (A : Rat)) (h : okP v A S = true) : bd ((v : Rat) / Pq - x) tau0 := by
  unfold okP at h
  rw [Bool.and_eq_true, decide_eq_true_eq, decide_eq_true_eq] at h
  have h1 := Rat.natCast_le_natCast.2 h.1
  have h2 := Rat.natCast_le_natCast.2 h.2
  have hv : (v : Rat) / Pq * Pq = v := Rat.div_mul_cancel (Rat.ne_of_gt Pq_pos)
  have hS' : 0 < (S : Rat) := Rat.natCast_pos.2 hS
  have e0 : ((2 ^ 1074 : Nat) : Rat) = Pq := rfl
  have e1 : ((2 ^ 1131 : Nat) : Rat) = Pq * 144115188075855872 := by
    rw [show (2 : Nat) ^ 1131 = 2 ^ 1074 * 144115188075855872 by decide +kernel, Rat.natCast_mul, e0]; rfl
  have e2 : ((2 ^ 57 : Nat) : Rat) = 144115188075855872 := rfl
  have e3 : ((45 : Nat) : Rat) = 45 := rfl
  simp only [Rat.natCast_add, Rat.natCast_mul, e0, e1, e2, e3] at h1 h2
  rw [← hx, ← hv] at h1 h2
  have hP := Rat.mul_pos Pq_pos hS'
  generalize (v : Rat) / Pq = y at *
  generalize Pq = P at *
  generalize (S : Rat) = T at *
  unfold tau0
  constructor
  · refine scaled_le hP ?_
    grind
  · refine scaled_le hP ?_
    grind
/-- The complex number of a pair of floats. -/
def cv (a : Nat × Nat) : Q2 := ⟨rv a.1, rv a.2⟩
theorem quarter_near {i : Nat} {e : Nat × Nat} (hi : qtab[i]? = some e) : finB e.1 = true ∧ finB e.2 = true ∧ bq (cv e - qpow u i) tau0 := by
  obtain ⟨A, B, S, hA, ok⟩ := chk_get At.zero chk_all i e hi
  rw [Nat.zero_add] at hA
  unfold okE at ok
  simp only [Bool.and_eq_true, decide_eq_true_eq] at ok
  obtain ⟨⟨⟨⟨⟨f1, f2⟩, n1⟩, n2⟩, o1⟩, o2⟩ := ok
  have b1 := okP_bd hA.pos hA.re o1
  have b2 := okP_bd hA.pos hA.im o2
  have c1 : (((val e.1).toNat : Nat) : Rat) = ((val e.1 : Int) : Rat) := by
    rw [← Rat.intCast_natCast, Int.toNat_of_nonneg n1]
  have c2 : (((val e.2).toNat : Nat) : Rat) = ((val e.2 : Int) : Rat) := by
    rw [← Rat.intCast_natCast, Int.toNat_of_nonneg n2]
  rw [c1] at b1
  rw [c2] at b2
  exact ⟨f1, f2, b1, b2⟩
end Go.Cyc
end
section
/- The roots of one as fractions: numbers that go round in 4096 steps, turn their sign in 2048, and multiply almost. Nothing of the program. -/
set_option linter.unusedVariables false
set_option maxRecDepth 100000
set_option exponentiation.threshold 3000
namespace Go.Cyc
open Go.Flt Go.Qc

def eta : Rat := 1 / 1267650600228229401496703205376
/-- The half of the powers, the other half with the sign turned. -/
def h (j : Nat) : Q2 := if j % 4096 < 2048 then qpow u (j % 4096) else - qpow u (j % 4096 - 2048)
/-- What the transforms ask of their roots. -/
structure Ch (h : Nat → Q2) : Prop where
  zero : h 0 = q1
  anti : ∀ j, h (j + 2048) = - h j
  unit : ∀ j, nsq (h j) ≤ 1
  mul : ∀ a b, bq (h (a + b) - h a * h b) (5 * eta)
theorem neg_neg (a : Q2) : - - a = a := by ext <;> simp
theorem Ch.per {h : Nat → Q2} (c : Ch h) (j : Nat) : h (j + 4096) = h j := by
  rw [show j + 4096 = j + 2048 + 2048 by omega, c.anti, c.anti, neg_neg]
theorem Ch.pers {h : Nat → Q2} (c : Ch h) (j : Nat) : ∀ t, h (j + 4096 * t) = h j
  | 0 => rfl
  | t + 1 => by rw [Nat.mul_add, ← Nat.add_assoc, Nat.mul_one, c.per, c.pers j t]
theorem Ch.antis {h : Nat → Q2} (c : Ch h) (j t : Nat) : h (j + 2048 + 4096 * t) = - h j := by rw [c.pers, c.anti]
theorem Ch.bar {h : Nat → Q2} (c : Ch h) : Ch fun j => bar (h j) where
  zero := by show Qc.bar (h 0) = q1; rw [c.zero]; ext <;> simp
  anti j := by show Qc.bar _ = - Qc.bar _; rw [c.anti]; ext <;> simp
  unit j := by rw [nsq_bar]; exact c.unit j
  mul a b := by
    have := (c.mul a b).bar
    have e : Qc.bar (h (a + b) - h a * h b) = Qc.bar (h (a + b)) - Qc.bar (h a) * Qc.bar (h b) := by ext <;> simp <;> grind
    rwa [e] at this

/-! the powers -/
theorem u_unit : nsq u ≤ 1 := by decide +kernel
theorem pow_unit (n : Nat) : nsq (qpow u n) ≤ 1 := qpow_nsq u_unit n
/-- Squared again and again, over the square of the foot. -/
def sqs : Nat → Int × Int × Int
  | 0 => ((ua : Int), (ub : Int), (ud : Int))
  | n + 1 => ((sqs n).1 * (sqs n).1 - (sqs n).2.1 * (sqs n).2.1, 2 * ((sqs n).1 * (sqs n).2.1), (sqs n).2.2 * (sqs n).2.2)
theorem sqs_at : ∀ n, (qpow u (2 ^ n)).re * ((sqs n).2.2 : Rat) = ((sqs n).1 : Rat) ∧ (qpow u (2 ^ n)).im * ((sqs n).2.2 : Rat) = ((sqs n).2.1 : Rat)
  | 0 => by
    have e : qpow u (2 ^ 0) = u := one_mul u
    rw [e]
    exact ⟨u_re, u_im⟩
  | n + 1 => by
    obtain ⟨h1, h2⟩ := sqs_at n
    have e : qpow u (2 ^ (n + 1)) = qpow u (2 ^ n) * qpow u (2 ^ n) := by rw [← qpow_add, Nat.pow_succ, Nat.mul_two]
    rw [e]
    unfold sqs
    simp only [mul_re, mul_im, Rat.intCast_mul, Rat.intCast_sub]
    rw [← h1, ← h2]
    have e2 : ((2 : Int) : Rat) = 2 := rfl
    rw [e2]
    constructor <;> grind
def sqOk : Bool := decide (0 < (sqs 10).2.2) && decide ((sqs 10).1 * 1267650600228229401496703205376 ≤ (sqs 10).2.2) && decide (-(sqs 10).2.2 ≤ (sqs 10).1 * 1267650600228229401496703205376) && decide (((sqs 10).2.1 - (sqs 10).2.2) * 1267650600228229401496703205376 ≤ (sqs 10).2.2) && decide (-(sqs 10).2.2 ≤ ((sqs 10).2.1 - (sqs 10).2.2) * 1267650600228229401496703205376)
theorem sq_ok : sqOk = true := by decide +kernel
/-- The quarter of a turn. -/
theorem u_quarter : bq (qpow u 1024 - qi) eta := by
  obtain ⟨h1, h2⟩ := sqs_at 10
  have ok := sq_ok
  unfold sqOk at ok
  simp only [Bool.and_eq_true, decide_eq_true_eq] at ok
  generalize sqs 10 = s at *
  obtain ⟨⟨⟨⟨o0, o1⟩, o2⟩, o3⟩, o4⟩ := ok
  have p0 := Rat.intCast_lt_intCast.2 o0
  have p1 := Rat.intCast_le_intCast.2 o1
  have p2 := Rat.intCast_le_intCast.2 o2
  have p3 := Rat.intCast_le_intCast.2 o3
  have p4 := Rat.intCast_le_intCast.2 o4
  have e2 : ((1267650600228229401496703205376 : Int) : Rat) = 1267650600228229401496703205376 := rfl
  simp only [Rat.intCast_mul, Rat.intCast_sub, Rat.intCast_neg, e2] at p0 p1 p2 p3 p4
  rw [show (2 : Nat) ^ 10 = 1024 by decide] at h1 h2
  rw [← h1] at p1 p2
  rw [← h2] at p3 p4
  have p0' : 0 < (s.2.2 : Rat) := p0
  generalize (s.2.2 : Rat) = P at *
  unfold eta
  constructor
  · show bd ((qpow u 1024).re - 0) _
    generalize (qpow u 1024).re = x at *
    constructor
    · refine scaled_le p0' ?_; grind
    · refine scaled_le p0' ?_; grind
  · show bd ((qpow u 1024).im - 1) _
    generalize (qpow u 1024).im = x at *
    constructor
    · refine scaled_le p0' ?_; grind
    · refine scaled_le p0' ?_; grind
theorem eta_pos : 0 < eta := by decide +kernel
theorem bq.qi {a : Q2} {A : Rat} (h : bq a A) : bq (Qc.qi * a) A := by
  constructor
  · have := bd_neg h.i
    rw [show (Qc.qi * a).re = - a.im by simp; grind]; exact this
  · have := h.r
    rw [show (Qc.qi * a).im = a.re by simp; grind]; exact this
/-- The half. -/
theorem u_half : bq (qpow u 2048 + q1) (3 * eta) := by
  have e : qpow u 2048 = qpow u 1024 * qpow u 1024 := by rw [← qpow_add]
  have b := u_quarter
  have c := bq_mul (unit_n1 (pow_unit 1024)) b
  have d := bq.qi b
  have e2 : qpow u 2048 + q1 = qpow u 1024 * (qpow u 1024 - qi) + qi * (qpow u 1024 - qi) := by rw [e]; ext <;> simp <;> grind
  rw [e2]
  exact (c.add d).mono (by have := eta_pos; grind)
theorem h_red (a : Nat) : ∃ (s : Nat) (x : Nat), s < 2 ∧ x < 2048 ∧ a % 4096 = x + 2048 * s ∧ h a = if s = 0 then qpow u x else - qpow u x := by
  by_cases hl : a % 4096 < 2048
  · exact ⟨0, a % 4096, by omega, hl, by omega, by unfold h; rw [if_pos hl, if_pos rfl]⟩
  · exact ⟨1, a % 4096 - 2048, by omega, by omega, by omega, by unfold h; rw [if_neg hl, if_neg (by decide)]⟩
theorem h_of {a s x : Nat} (hx : x < 2048) (e : a % 4096 = (x + 2048 * s) % 4096) : h a = if s % 2 = 0 then qpow u x else - qpow u x := by
  unfold h
  by_cases hs : s % 2 = 0
  · rw [if_pos hs, if_pos (by omega)]
    congr 1; omega
  · rw [if_neg hs, if_neg (by omega)]
    congr 2; omega
theorem h_mul (a b : Nat) : bq (h (a + b) - h a * h b) (5 * eta) := by
  obtain ⟨s, x, s2, hx, ea, ha⟩ := h_red a
  obtain ⟨t, y, t2, hy, eb, hb⟩ := h_red b
  have e0 := eta_pos
  by_cases hxy : x + y < 2048
  · have hab := h_of (a := a + b) (s := s + t) hxy (by omega)
    have ez : h (a + b) - h a * h b = q0 := by
      rw [ha, hb, hab, qpow_add]
      rcases (by omega : s = 0 ∨ s = 1) with rfl | rfl <;> rcases (by omega : t = 0 ∨ t = 1) with rfl | rfl <;> (ext <;> simp <;> grind)
    rw [ez]
    exact bq.zero.mono (by grind)
  · have hab := h_of (a := a + b) (s := s + t + 1) (x := x + y - 2048) (by omega) (by omega)
    have hp : qpow u x * qpow u y = qpow u 2048 * qpow u (x + y - 2048) := by rw [← qpow_add, ← qpow_add]; congr 1; omega
    have b1 := bq_mul' (unit_n1 (pow_unit (x + y - 2048))) u_half
    have b2 := b1.mono (B := 5 * eta) (by grind)
    rw [ha, hb, hab]
    rcases (by omega : s = 0 ∨ s = 1) with rfl | rfl <;> rcases (by omega : t = 0 ∨ t = 1) with rfl | rfl <;> simp only [Nat.reduceAdd, Nat.reduceMod, if_true, if_false, Nat.reduceEqDiff]
    · have e : - qpow u (x + y - 2048) - qpow u x * qpow u y = - ((qpow u 2048 + q1) * qpow u (x + y - 2048)) := by rw [hp]; ext <;> simp <;> grind
      rw [e]; exact b2.neg
    · have e : qpow u (x + y - 2048) - qpow u x * - qpow u y = (qpow u 2048 + q1) * qpow u (x + y - 2048) := by
        have e3 : qpow u x * - qpow u y = - (qpow u x * qpow u y) := by ext <;> simp <;> grind
        rw [e3, hp]; ext <;> simp <;> grind
      rw [e]; exact b2
    · have e : qpow u (x + y - 2048) - - qpow u x * qpow u y = (qpow u 2048 + q1) * qpow u (x + y - 2048) := by
        have e3 : - qpow u x * qpow u y = - (qpow u x * qpow u y) := by ext <;> simp <;> grind
        rw [e3, hp]; ext <;> simp <;> grind
      rw [e]; exact b2
    · have e : - qpow u (x + y - 2048) - - qpow u x * - qpow u y = - ((qpow u 2048 + q1) * qpow u (x + y - 2048)) := by
        have e3 : - qpow u x * - qpow u y = qpow u x * qpow u y := by ext <;> simp <;> grind
        rw [e3, hp]; ext <;> simp <;> grind
      rw [e]; exact b2.neg
theorem h_ch : Ch h where
  zero := rfl
  anti j := by
    obtain ⟨s, x, s2, hx, ea, ha⟩ := h_red j
    rw [ha, h_of (a := j + 2048) (s := s + 1) hx (by omega)]
    rcases (by omega : s = 0 ∨ s = 1) with rfl | rfl
    · rfl
    · exact (neg_neg _).symm
  unit j := by
    unfold h
    split
    · exact pow_unit _
    · rw [nsq_neg]; exact pow_unit _
  mul := h_mul
/-- The conjugate is almost the inverse. -/
theorem pow_low {a : Nat} (ha : a < 2048) : 1 - 7 * eta ≤ nsq (qpow u a) := by
  have e : qpow u 2048 = qpow u a * qpow u (2048 - a) := by rw [← qpow_add]; congr 1; omega
  have h1 : nsq (qpow u 2048) ≤ nsq (qpow u a) := by
    rw [e, nsq_mul]
    have z0 : 0 ≤ nsq (qpow u a) := by unfold nsq; have := sq_nn (qpow u a).re; have := sq_nn (qpow u a).im; grind
    have := Rat.mul_le_mul_of_nonneg_left (pow_unit (2048 - a)) z0
    rwa [Rat.mul_one] at this
  have h2 : 1 - 6 * eta ≤ nsq (qpow u 2048) := by
    have b := u_half.r
    have b1 : (qpow u 2048).re + 1 ≤ 3 * eta := b.2
    have e1 : eta ≤ 1 / 1000 := by decide +kernel
    have sq1 := sq_nn ((qpow u 2048).re + 1)
    have sq2 := sq_nn (qpow u 2048).im
    unfold nsq
    grind
  have := eta_pos
  grind
theorem h_low (a : Nat) : 1 - 7 * eta ≤ nsq (h a) := by
  obtain ⟨s, x, s2, hx, ea, ha⟩ := h_red a
  rw [ha]
  split
  · exact pow_low hx
  · rw [nsq_neg]; exact pow_low hx
theorem h_inv {a b : Nat} (hab : a ≤ b) : bq (bar (h a) * h b - h (b - a)) (15 * eta) := by
  have e0 := eta_pos
  have hm := h_mul (b - a) a
  rw [Nat.sub_add_cancel hab] at hm
  have h1 := bq_mul (n1.bar (unit_n1 (h_ch.unit a))) hm
  have hl := h_low a
  have hu := h_ch.unit a
  have h2 : bq (sc (nsq (h a) - 1) (h (b - a))) (7 * eta * 1) := by
    have := unit_bq (h_ch.unit (b - a))
    have hc : bd (nsq (h a) - 1) (7 * eta) := ⟨by grind, by grind⟩
    exact ⟨bd_mul hc this.r, bd_mul hc this.i⟩
  have h3 := h1.add h2
  have e : bar (h a) * (h b - h (b - a) * h a) + sc (nsq (h a) - 1) (h (b - a)) = bar (h a) * h b - h (b - a) := by
    unfold nsq; ext <;> simp <;> grind
  rw [e] at h3
  exact h3.mono (by grind)
/-- The sum over a round is 0. -/
theorem round_zero {h : Nat → Q2} (c : Ch h) : ∀ (m : Nat), m ≤ 12 → ∀ (d : Nat), ¬ 2 ^ m ∣ d → qsum (fun k => h (d * k * 2 ^ (12 - m))) (2 ^ m) = q0
  | 0, _, d, hd => absurd (Nat.one_dvd d) hd
  | m + 1, hm, d, hd => by
    have e2 : 2 ^ (m + 1) = 2 ^ m + 2 ^ m := by rw [Nat.pow_succ, Nat.mul_two]
    have eS : 2 ^ m * 2 ^ (12 - (m + 1)) = 2048 := by rw [← Nat.pow_add, show m + (12 - (m + 1)) = 11 by omega]
    rw [e2, qsum_split]
    by_cases ho : d % 2 = 1
    · obtain ⟨t, rfl⟩ : ∃ t, d = 2 * t + 1 := ⟨d / 2, by omega⟩
      have e : qsum (fun i => h ((2 * t + 1) * (2 ^ m + i) * 2 ^ (12 - (m + 1)))) (2 ^ m) = qsum (fun i => - h ((2 * t + 1) * i * 2 ^ (12 - (m + 1)))) (2 ^ m) := by
        refine qsum_congr fun i _ => ?_
        rw [← c.antis _ t]
        congr 1
        rw [Nat.mul_add, Nat.add_mul, Nat.mul_assoc _ (2 ^ m), eS]
        omega
      rw [e, qsum_neg]
      ext <;> simp <;> grind
    · obtain ⟨t, rfl⟩ : ∃ t, d = 2 * t := ⟨d / 2, by omega⟩
      have ih := round_zero c m (by omega) t (fun ⟨q, hq⟩ => hd ⟨q, by rw [hq, Nat.pow_succ, Nat.mul_right_comm, Nat.mul_comm 2]⟩)
      have e1 : ∀ i, 2 * t * i * 2 ^ (12 - (m + 1)) = t * i * 2 ^ (12 - m) := fun i => by
        rw [show 12 - m = 12 - (m + 1) + 1 by omega, Nat.pow_succ, ← Nat.mul_assoc, Nat.mul_comm (t * i * _) 2, ← Nat.mul_assoc, ← Nat.mul_assoc]
      have e3 : qsum (fun i => h (2 * t * (2 ^ m + i) * 2 ^ (12 - (m + 1)))) (2 ^ m) = qsum (fun i => h (t * i * 2 ^ (12 - m))) (2 ^ m) := by
        refine qsum_congr fun i _ => ?_
        rw [← c.pers (t * i * 2 ^ (12 - m)) t, ← e1, Nat.mul_add, Nat.add_mul, Nat.mul_assoc (2 * t) (2 ^ m), eS]
        congr 1
        omega
      rw [e3, qsum_congr (fun i _ => congrArg h (e1 i)), ih, Qc.add_zero]
end Go.Cyc
end
section
/- Layer 2 in plain numbers: a root by halves, as the reference has it. Nothing of the program. -/
set_option linter.unusedVariables false
set_option maxRecDepth 100000
namespace Go.Wav
open Go.Flt Go.Pen

theorem wv_get {s : Cx} {h : List Cx} : ∀ {i : Nat} {l : List Cx}, i < h.length → wv s h i = some l → l.length = 2 * i ∧ ∀ j, j < i → ∃ a mm, h[j]? = some a ∧ mulC a s = some mm ∧ l[2 * j]? = some a ∧ l[2 * j + 1]? = some (plainC mm)
  | 0, l, _, e => by
    obtain rfl : [] = l := by simpa [wv] using e
    exact ⟨rfl, fun j hj => absurd hj (by omega)⟩
  | i + 1, l, hi, e => by
    unfold wv at e
    simp only [Option.bind_eq_some_iff] at e
    obtain ⟨l', h1, b, h2, h3⟩ := e
    rw [if_pos hi] at h3
    simp only [Option.bind_eq_some_iff, Option.some.injEq] at h3
    obtain ⟨m, h4, rfl⟩ := h3
    obtain ⟨g1, g2⟩ := wv_get (by omega) h1
    refine ⟨by simp [g1]; omega, fun j hj => ?_⟩
    by_cases hji : j < i
    · obtain ⟨a, mm, q1, q2, q3, q4⟩ := g2 j hji
      exact ⟨a, mm, q1, q2, by rw [List.getElem?_append_left (by omega)]; exact q3, by rw [List.getElem?_append_left (by omega)]; exact q4⟩
    · obtain rfl : j = i := by omega
      refine ⟨b, m, h2, h4, ?_, ?_⟩
      · rw [List.getElem?_append_right (by omega), g1, Nat.sub_self]; rfl
      · rw [List.getElem?_append_right (by omega), g1, show 2 * j + 1 - 2 * j = 1 by omega]; rfl
theorem eighth_get {m : Nat} {f : List Cx} (h : eighthC (m + 4) = some f) : ∃ g s, eighthC (m + 3) = some g ∧ stepC (m + 1) = some s ∧ f.length + 1 = 2 * g.length ∧ (∀ j, j < g.length → f[2 * j]? = g[j]?) ∧
    ∀ j, 2 * j + 1 < f.length → ∃ a mm, g[j]? = some a ∧ mulC a s = some mm ∧ f[2 * j]? = some a ∧ f[2 * j + 1]? = some (plainC mm) := by
  unfold eighthC at h
  simp only [Option.bind_eq_some_iff] at h
  obtain ⟨g, h1, s, h2, h3⟩ := h
  refine ⟨g, s, h1, h2, ?_⟩
  obtain ⟨i, hi⟩ : ∃ i, g.length = i + 1 := ⟨g.length - 1, by have := (Go.Proofs.YthecbhegjdcjfaaDoor.eighth_len h1).1; omega⟩
  rw [hi] at h3
  unfold wv at h3
  simp only [Option.bind_eq_some_iff] at h3
  obtain ⟨l', e1, b, e2, e3⟩ := h3
  rw [if_neg (by omega)] at e3
  obtain rfl : l' ++ [b] = f := by simpa using e3
  obtain ⟨g1, g2⟩ := wv_get (by omega) e1
  refine ⟨by simp [g1]; omega, fun j hj => ?_, fun j hj => ?_⟩
  · by_cases hji : j < i
    · obtain ⟨a, mm, q1, q2, q3, q4⟩ := g2 j hji
      rw [List.getElem?_append_left (by omega), q3, q1]
    · obtain rfl : j = i := by omega
      rw [List.getElem?_append_right (by omega), g1, Nat.sub_self, e2]; rfl
  · have hji : j < i := by simp [g1] at hj; omega
    obtain ⟨a, mm, q1, q2, q3, q4⟩ := g2 j hji
    exact ⟨a, mm, q1, q2, by rw [List.getElem?_append_left (by omega)]; exact q3, by rw [List.getElem?_append_left (by omega)]; exact q4⟩
theorem eighth_head : ∀ {m : Nat} {f : List Cx}, eighthC m = some f → f[0]? = some (one, 0)
  | 0, f, h => by
    obtain rfl : [(one, 0)] = f := by simpa [eighthC] using h
    rfl
  | 1, f, h => by
    obtain rfl : [(one, 0)] = f := by simpa [eighthC] using h
    rfl
  | 2, f, h => by
    obtain rfl : [(one, 0)] = f := by simpa [eighthC] using h
    rfl
  | 3, f, h => by
    unfold eighthC at h
    simp only [Option.bind_eq_some_iff, Option.some.injEq] at h
    obtain ⟨_, _, _, _, rfl⟩ := h
    rfl
  | m + 4, f, h => by
    obtain ⟨g, s, h1, h2, h3, h4, h5⟩ := eighth_get h
    have := h4 0 (by omega)
    rw [Nat.mul_zero] at this
    rw [this, eighth_head h1]
/-- A quarter turned. -/
theorem at_turn {n k : Nat} {f : List Cx} {r : Cx} (hn : 4 ≤ n) (hk : n / 4 ≤ k) (h : atC n k f = some r) : ∃ a, atC n (k - n / 4) f = some a ∧ r = plainC (turnC a) := by
  have hq : 0 < n / 4 := by omega
  obtain ⟨Q, hQ⟩ : ∃ Q, Q = n / 4 := ⟨_, rfl⟩
  unfold atC at h ⊢
  rw [← hQ] at hk hq h ⊢
  rw [if_neg (by omega)] at h ⊢
  have e1 : (k - Q) % Q = k % Q := by rw [← Nat.mod_eq_sub_mod hk]
  have e2 : k / Q = (k - Q) / Q + 1 := by rw [Nat.div_eq_sub_div hq hk]
  rw [e1]
  rw [e2, Option.map_eq_some_iff] at h
  obtain ⟨a, ha, rfl⟩ := h
  exact ⟨_, by rw [ha]; rfl, rfl⟩
theorem at_small {n k : Nat} {f : List Cx} (hn : 4 ≤ n) (hk : k ≤ n / 8) (hk4 : k < n / 4) : atC n k f = f[k]? := by
  unfold atC quarterC
  rw [if_neg (by omega), Nat.mod_eq_of_lt hk4, Nat.div_eq_of_lt hk4, if_pos hk]
  cases f[k]? <;> rfl
theorem at_swap {n k : Nat} {f : List Cx} {r : Cx} (hn : 4 ≤ n) (h4 : n / 4 = 2 * (n / 8)) (hk : ¬ k ≤ n / 8) (hk4 : k < n / 4) (h : atC n k f = some r) : ∃ a, atC n (n / 4 - k) f = some a ∧ r = (a.2, a.1) := by
  rw [at_small hn (by omega) (by omega)]
  unfold atC quarterC at h
  rw [if_neg (by omega), Nat.mod_eq_of_lt hk4, Nat.div_eq_of_lt hk4, if_neg hk] at h
  cases ha : f[n / 4 - k]? with
  | none => rw [ha] at h; cases h
  | some a =>
    rw [ha] at h
    simp only [Option.map_some, Option.some.injEq] at h
    exact ⟨a, rfl, h.symm⟩
end Go.Wav
end
section
/- Floats from 0 to 1: products, half of one more, quotients. Nothing of the program. -/
set_option linter.unusedVariables false
set_option maxRecDepth 100000
namespace Go.Flt
open Ieee

theorem one_b {p : Nat} (h : p ≤ one') : p ≤ (1023 + 0) * 4503599627370496 := Nat.le_trans h (by decide)
theorem mul_le1 {p q : Nat} (hp : p ≤ one') (hq : q ≤ one') : ∃ r, double.mul p q = some r ∧ r ≤ one' := by
  obtain ⟨m, j, e1, h1⟩ := read_le (k := 0) (by decide) (one_b hp)
  obtain ⟨n, i, e2, h2⟩ := read_le (k := 0) (by decide) (one_b hq)
  unfold Format.mul
  rw [e1, e2]
  refine ⟨_, rfl, ?_⟩
  show double.nearest (false ^^ false) (m * n) (-(j : Int) + -(i : Int)) ≤ one'
  rw [show -(j : Int) + -(i : Int) = -((j + i : Nat) : Int) by omega]
  refine Nat.le_trans (nearest_le (k := 0) ?_) (by decide)
  rw [show j + i + 0 = (j + 0) + (i + 0) by omega, Nat.pow_add]
  exact Nat.mul_le_mul h1 h2
theorem read_half : double.read 4602678819172646912 = .number false (2 ^ 52) (-53) := by decide
theorem half_le {s : Nat} (hs : s ≤ (1023 + 1) * 4503599627370496) : ∃ x, double.mul 4602678819172646912 s = some x ∧ x ≤ one' := by
  obtain ⟨m, j, e, hm⟩ := read_le (k := 1) (by decide) hs
  unfold Format.mul
  rw [e, read_half]
  refine ⟨_, rfl, ?_⟩
  show double.nearest (false ^^ false) (2 ^ 52 * m) (-53 + -(j : Int)) ≤ one'
  rw [show (-53 : Int) + -(j : Int) = -((j + 53 : Nat) : Int) by omega]
  refine Nat.le_trans (nearest_le (k := 0) ?_) (by decide)
  rw [show j + 53 + 0 = 52 + (j + 1) by omega, Nat.pow_add]
  exact Nat.mul_le_mul_left _ hm
theorem addone_le {p : Nat} (hp : p < 18446744073709551616) (ha : p % 9223372036854775808 ≤ one') : ∃ s, double.add one' p = some s ∧ s ≤ (1023 + 1) * 4503599627370496 := by
  obtain ⟨sg, m, j, e, hm⟩ : ∃ sg m, ∃ j : Nat, double.read p = .number sg m (-(j : Int)) ∧ m ≤ 2 ^ j := by
    by_cases hs : p < 9223372036854775808
    · rw [Nat.mod_eq_of_lt hs] at ha
      obtain ⟨m, j, e, h⟩ := read_le (k := 0) (by decide) (one_b ha)
      exact ⟨false, m, j, e, h⟩
    · have e0 : p = 9223372036854775808 + p % 9223372036854775808 := by omega
      obtain ⟨m, j, e, h⟩ := read_le (k := 0) (by decide) (one_b ha)
      refine ⟨true, m, j, ?_, h⟩
      rw [e0, read_sign (Nat.mod_lt _ (by decide)), e]; rfl
  unfold Format.add
  rw [read_one, e]
  unfold Datum.sum
  obtain ⟨b, hb⟩ : ∃ b : Nat, b = max 52 j := ⟨_, rfl⟩
  have eb : min (-52 : Int) (-(j : Int)) = -(b : Int) := by omega
  simp only [eb, Option.map_some, Option.some.injEq]
  obtain ⟨u, hu⟩ : ∃ u, u = ((-52 : Int) - -(b : Int)).toNat := ⟨_, rfl⟩
  obtain ⟨v, hv⟩ : ∃ v, v = (-(j : Int) - -(b : Int)).toNat := ⟨_, rfl⟩
  rw [← hu, ← hv]
  have hT : 2 ^ 52 * 2 ^ u = 2 ^ b := by rw [← Nat.pow_add]; congr 1; omega
  have hX : m * 2 ^ v ≤ 2 ^ b := by
    calc m * 2 ^ v ≤ 2 ^ j * 2 ^ v := Nat.mul_le_mul_right _ hm
      _ = 2 ^ (j + v) := (Nat.pow_add _ _ _).symm
      _ = 2 ^ b := by congr 1; omega
  have h2 : 2 ^ (b + 1) = 2 ^ b * 2 := Nat.pow_succ _ _
  have hp0 := Nat.two_pow_pos b
  obtain ⟨t, ht, htb⟩ : ∃ t : Nat, signed false (2 ^ 52) u + signed sg m v = (t : Int) ∧ t ≤ 2 ^ (b + 1) := by
    unfold signed
    rw [Nat.shiftLeft_eq, Nat.shiftLeft_eq, hT]
    rw [h2]
    generalize m * 2 ^ v = X at hX ⊢
    clear hT h2
    generalize 2 ^ b = T at hX hp0 ⊢
    cases sg
    · exact ⟨T + X, by simp only [Bool.false_eq_true, if_false]; omega, by omega⟩
    · exact ⟨T - X, by simp only [Bool.false_eq_true, if_false, if_true]; omega, by omega⟩
  rw [ht]
  refine ⟨_, rfl, ?_⟩
  have es : (if ((t : Nat) : Int) = 0 then (false && sg) else decide (((t : Nat) : Int) < 0)) = false := by
    split
    · rfl
    · exact decide_eq_false (by omega)
  rw [es, Int.natAbs_natCast]
  exact nearest_le htb
theorem tri_le {a N : Nat} (ha : a ≤ N) (hN : 0 < N) (hb : N < 9007199254740992) : ∃ t, double.div (fl a) (fl N) = some t ∧ t ≤ one' := by
  have hN0 : N ≠ 0 := by omega
  have bN := man_bd hN0 hb
  have lN := log_le hN0 hb
  unfold Format.div
  rw [fl_read hN0 hb]
  by_cases h0 : a = 0
  · subst h0
    rw [fl_zero, read_zero]
    unfold Datum.quotient
    dsimp only
    rw [if_neg (by omega)]
    refine ⟨_, rfl, ?_⟩
    simp only [Nat.zero_shiftLeft, Nat.zero_div, Nat.zero_mod]
    show double.nearest (false ^^ false) 0 _ ≤ one'
    unfold Format.nearest
    rw [if_pos rfl]
    decide
  · have hb' : a < 9007199254740992 := by omega
    have ba := man_bd h0 hb'
    have la := log_le h0 hb'
    have hlog : a.log2 ≤ N.log2 := (Nat.le_log2 hN0).2 (Nat.le_trans (Nat.log2_self_le h0) ha)
    rw [fl_read h0 hb']
    unfold Datum.quotient
    dsimp only
    rw [if_neg (by omega)]
    refine ⟨_, rfl, ?_⟩
    rw [log_man hN0 hb, log_man h0 hb']
    show double.nearest (false ^^ false) _ _ ≤ one'
    have em : double.fractionBits + 2 + 52 - 52 = 54 := rfl
    rw [em, Nat.shiftLeft_eq]
    obtain ⟨K, hK⟩ : ∃ K, K = N.log2 - a.log2 + 54 := ⟨_, rfl⟩
    have ep : ((a.log2 : Int) - 52 - ((N.log2 : Int) - 52) - ((54 : Nat) : Int) - 1) = -((K + 1 : Nat) : Int) := by omega
    rw [ep]
    have hD : a * 2 ^ (52 - a.log2) * 2 ^ 54 ≤ N * 2 ^ (52 - N.log2) * 2 ^ K := by
      rw [Nat.mul_assoc, Nat.mul_assoc, ← Nat.pow_add, ← Nat.pow_add, show 52 - a.log2 + 54 = 52 - N.log2 + K by omega]
      exact Nat.mul_le_mul_right _ ha
    generalize a * 2 ^ (52 - a.log2) * 2 ^ 54 = Dd at hD ⊢
    have hn : 0 < N * 2 ^ (52 - N.log2) := by omega
    generalize N * 2 ^ (52 - N.log2) = n at hD hn ⊢
    refine Nat.le_trans (nearest_le (k := 0) ?_) (by decide)
    rw [Nat.add_zero, Nat.pow_succ]
    have hdm := Nat.div_add_mod Dd n
    have hlt := Nat.mod_lt Dd hn
    by_cases hq : Dd / n < 2 ^ K
    · have : (Dd % n != 0).toNat ≤ 1 := Bool.toNat_le _
      omega
    · have h1 : Dd / n ≤ 2 ^ K := by
        have := Nat.div_le_div_right (c := n) hD
        rwa [Nat.mul_comm, Nat.mul_div_cancel _ hn] at this
      have h2 : Dd / n = 2 ^ K := by omega
      have h3 : Dd % n = 0 := by rw [h2] at hdm; omega
      rw [h3, h2]
      simp; omega
end Go.Flt
end
section
/- The first eighths, out of the literal; tables stand for all orders. Nothing of the program. -/
set_option linter.unusedVariables false
set_option maxRecDepth 100000
namespace Go.Wav
open Go.Flt Go.Pen
def evens : List Cx → List Cx
  | a :: _ :: t => a :: evens t
  | l => l
theorem evens_get : ∀ (l : List Cx) (i : Nat), (evens l)[i]? = l[2 * i]?
  | [], i => by simp [evens]
  | [a], i => by
    cases i with
    | zero => rfl
    | succ i => simp [evens]
  | a :: b :: t, i => by
    cases i with
    | zero => rfl
    | succ i =>
      show (evens t)[i]? = _
      rw [evens_get t i, show 2 * (i + 1) = 2 * i + 1 + 1 by omega, List.getElem?_cons_succ, List.getElem?_cons_succ]
theorem evens_len : ∀ (l : List Cx), (evens l).length = (l.length + 1) / 2
  | [] => by simp [evens]
  | [a] => by simp [evens]
  | a :: b :: t => by
    show (evens t).length + 1 = _
    rw [evens_len t]; simp only [List.length_cons]; omega
theorem evens_mem : ∀ (l : List Cx) (a : Cx), a ∈ evens l → a ∈ l := fun l a h => by
  obtain ⟨i, hi⟩ := List.mem_iff_getElem?.1 h
  rw [evens_get] at hi
  exact List.mem_of_getElem? hi
def stepOk (s : Cx) : List Cx → Bool
  | a :: b :: t => (match mulC a s with | some mm => plainC mm == b | none => false) && stepOk s t
  | _ => true
theorem stepOk_get {s : Cx} : ∀ (i : Nat) (l : List Cx), stepOk s l = true → 2 * i + 1 < l.length → ∃ a mm, l[2 * i]? = some a ∧ mulC a s = some mm ∧ l[2 * i + 1]? = some (plainC mm)
  | i, [], _, h => by simp at h
  | i, [_], _, h => by simp at h
  | 0, a :: b :: t, ok, _ => by
    unfold stepOk at ok
    rw [Bool.and_eq_true] at ok
    cases hm : mulC a s with
    | none => rw [hm] at ok; cases ok.1
    | some mm =>
      rw [hm] at ok
      have : plainC mm = b := by simpa using ok.1
      exact ⟨a, mm, rfl, hm, by rw [this]; rfl⟩
  | i + 1, a :: b :: t, ok, h => by
    unfold stepOk at ok
    rw [Bool.and_eq_true] at ok
    obtain ⟨x, mm, h1, h2, h3⟩ := stepOk_get i t ok.2 (by simp only [List.length_cons] at h; omega)
    refine ⟨x, mm, ?_, h2, ?_⟩
    · rw [show 2 * (i + 1) = 2 * i + 1 + 1 by omega, List.getElem?_cons_succ, List.getElem?_cons_succ]; exact h1
    · rw [show 2 * (i + 1) + 1 = 2 * i + 1 + 1 + 1 by omega, List.getElem?_cons_succ, List.getElem?_cons_succ]; exact h3
theorem wv_take {s : Cx} {l : List Cx} {n : Nat} (hl : l.length = 2 * n + 1) (ok : stepOk s l = true) : ∀ i, i ≤ n → wv s (evens l) i = some (l.take (2 * i))
  | 0, _ => by simp [wv]
  | i + 1, hi => by
    have he := evens_len l
    obtain ⟨a, mm, h1, h2, h3⟩ := stepOk_get i l ok (by omega)
    unfold wv
    rw [wv_take hl ok i (by omega), Option.bind_some, evens_get, h1, Option.bind_some, if_pos (by omega), h2, Option.bind_some]
    rw [show 2 * (i + 1) = 2 * i + 1 + 1 by omega, List.take_add_one, List.take_add_one, h1, h3]
    simp
theorem wv_all {s : Cx} {l : List Cx} {n : Nat} (hl : l.length = 2 * n + 1) (ok : stepOk s l = true) : wv s (evens l) (evens l).length = some l := by
  have he := evens_len l
  have e1 : (evens l).length = n + 1 := by omega
  rw [e1]
  unfold wv
  have hg : l[2 * n]? = some (l[2 * n]'(by omega)) := List.getElem?_eq_getElem _
  rw [wv_take hl ok n (Nat.le_refl _), Option.bind_some, evens_get, hg, Option.bind_some, if_neg (by omega)]
  congr 1
  rw [show l.take (2 * n) ++ [l[2 * n]'(by omega)] = l.take (2 * n + 1) by rw [List.take_add_one, hg]; rfl]
  exact List.take_of_length_le (by omega)
/-- The first eighths: 'lev d' is that of order 2^(12-d). -/
def lev : Nat → List Cx
  | 0 => E12
  | d + 1 => evens (lev d)
def levOk (d : Nat) : Bool := match stepC (9 - d) with | some s => stepOk s (lev d) | none => false
theorem lev_ok : ((List.range 9).all levOk) = true := by decide +kernel
theorem lev_len : ∀ d, d ≤ 9 → (lev d).length = 2 ^ (9 - d) + 1
  | 0, _ => by decide +kernel
  | d + 1, h => by
    show (evens (lev d)).length = _
    rw [evens_len, lev_len d (by omega), show 9 - d = 9 - (d + 1) + 1 by omega, Nat.pow_succ]
    omega
theorem eighth_lev9 : eighthC 3 = some (lev 9) := by decide +kernel
theorem eighth_lev : ∀ (t : Nat), t ≤ 9 → eighthC (t + 3) = some (lev (9 - t))
  | 0, _ => eighth_lev9
  | t + 1, h => by
    have ok := List.all_eq_true.1 lev_ok (9 - (t + 1)) (List.mem_range.2 (by omega))
    unfold levOk at ok
    have hl := lev_len (9 - (t + 1)) (by omega)
    rw [show 9 - (9 - (t + 1)) = t + 1 by omega] at ok hl
    have ih := eighth_lev t (by omega)
    have e : lev (9 - t) = evens (lev (9 - (t + 1))) := by rw [show 9 - t = 9 - (t + 1) + 1 by omega]; rfl
    cases hs : stepC (t + 1) with
    | none => rw [hs] at ok; cases ok
    | some s =>
      rw [hs] at ok
      show ((eighthC (t + 3)).bind fun h => (stepC (t + 1)).bind fun s => wv s h h.length) = _
      rw [ih, Option.bind_some, hs, Option.bind_some, e]
      exact wv_all (n := 2 ^ t) (by rw [hl, Nat.pow_succ, Nat.mul_comm]) ok
/-- All parts of the first eighth lie from 0 to 1. -/
theorem E12_bd : (E12.all fun a => decide (a.1 ≤ one) && decide (a.2 ≤ one)) = true := by decide +kernel
theorem lev_mem : ∀ d a, a ∈ lev d → a ∈ E12
  | 0, a, h => h
  | d + 1, a, h => lev_mem d a (evens_mem _ a h)
def Bd (a : Cx) : Prop := a.1 ≤ one ∧ a.2 ≤ one
theorem lev_bd {d : Nat} {a : Cx} (h : a ∈ lev d) : Bd a := by
  have := List.all_eq_true.1 E12_bd a (lev_mem d a h)
  simpa [Bd] using this
/-- The last one's parts are alike. -/
theorem lev_last : ∀ d, d ≤ 9 → ∃ c, (lev d)[2 ^ (9 - d)]? = some (c, c)
  | 0, _ => ⟨4604544271217802189, by decide +kernel⟩
  | d + 1, h => by
    obtain ⟨c, hc⟩ := lev_last d (by omega)
    refine ⟨c, ?_⟩
    show (evens (lev d))[_]? = _
    rw [evens_get, ← hc, show 9 - d = 9 - (d + 1) + 1 by omega, Nat.pow_succ, Nat.mul_comm]
/-- What is known of the first eighth of each order. -/
theorem eighth_all {m : Nat} (hm : m ≤ 12) : ∃ f, eighthC m = some f ∧ (∀ a ∈ f, Bd a) ∧ (f.length = 2 ^ m / 8 + 1) ∧ (3 ≤ m → ∃ c, f[2 ^ m / 8]? = some (c, c)) := by
  by_cases h3 : 3 ≤ m
  · obtain ⟨t, rfl⟩ : ∃ t, m = t + 3 := ⟨m - 3, by omega⟩
    have e8 : 2 ^ (t + 3) / 8 = 2 ^ t := by rw [Nat.pow_add]; exact Nat.mul_div_cancel _ (by decide)
    have hl := lev_len (9 - t) (by omega)
    obtain ⟨c, hc⟩ := lev_last (9 - t) (by omega)
    rw [show 9 - (9 - t) = t by omega] at hl hc
    rw [e8]
    exact ⟨_, eighth_lev t (by omega), fun a ha => lev_bd ha, hl, fun _ => ⟨c, hc⟩⟩
  · refine ⟨[(one, 0)], ?_, ?_, ?_, fun h => absurd h h3⟩
    · rcases (by omega : m = 0 ∨ m = 1 ∨ m = 2) with rfl | rfl | rfl <;> rfl
    · intro a ha
      rw [List.mem_singleton.1 ha]
      exact ⟨Nat.le_refl _, by decide⟩
    · rcases (by omega : m = 0 ∨ m = 1 ∨ m = 2) with rfl | rfl | rfl <;> rfl
end Go.Wav
end
section
/- Layer 3 in plain numbers: a list that is 0 but at its first place has one number at all places of its transform. Nothing of the program. -/
set_option linter.unusedVariables false
set_option maxRecDepth 100000
namespace Go.Wav
open Go.Flt Go.Pen

/-- A complex number that is u (noughts of whichever sign). -/
def cls (v : Cx) (u : Int × Int) : Prop := isI v.1 u.1 ∧ isI v.2 u.2
def fin2 (a : Cx) : Bool := finB a.1 && finB a.2
theorem isZ_of {p : Nat} (h : isI p 0) : isZ p := (isI_zero rfl).1 h
theorem zero_isZ {r : Nat} (h : isZ r) : isI r 0 := (isI_zero rfl).2 h
theorem bf_val {a o e : Cx} {u : Int × Int} (ha : fin2 a = true) (ho : cls o (0, 0)) (he : cls e u) (h1 : u.1.natAbs < 9007199254740992) (h2 : u.2.natAbs < 9007199254740992) :
    ∃ t p q, mulC a o = some t ∧ addC e t = some p ∧ subC e t = some q ∧ cls p u ∧ cls q u := by
  unfold fin2 at ha
  rw [Bool.and_eq_true] at ha
  obtain ⟨pu, a1, b1⟩ := mul_zero ha.1 (isZ_of ho.1)
  obtain ⟨qv, a2, b2⟩ := mul_zero ha.2 (isZ_of ho.2)
  obtain ⟨pv, a3, b3⟩ := mul_zero ha.1 (isZ_of ho.2)
  obtain ⟨qu, a4, b4⟩ := mul_zero ha.2 (isZ_of ho.1)
  obtain ⟨t1, c1, d1⟩ := sub_zero (z := 0) (by decide) (zero_isZ b1) b2
  obtain ⟨t2, c2, d2⟩ := add_zero (z := 0) (by decide) (zero_isZ b3) b4
  obtain ⟨p1, e1, f1⟩ := add_zero h1 he.1 (isZ_of d1)
  obtain ⟨p2, e2, f2⟩ := add_zero h2 he.2 (isZ_of d2)
  obtain ⟨q1, e3, f3⟩ := sub_zero h1 he.1 (isZ_of d1)
  obtain ⟨q2, e4, f4⟩ := sub_zero h2 he.2 (isZ_of d2)
  refine ⟨(t1, t2), (p1, p2), (q1, q2), ?_, ?_, ?_, ⟨f1, f2⟩, ⟨f3, f4⟩⟩
  · unfold mulC; simp only [a1, a2, a3, a4, c1, c2, Option.bind_some]
  · unfold addC cSumBits floatBits; simp only [FloatKind.format, e1, e2, Option.bind_some]
  · unfold subC cSumBits floatBits; simp only [FloatKind.format, e3, e4, Option.bind_some]
/-- The first B numbers are u, the others 0. -/
def Cl (u : Int × Int) (B : Nat) (y : List Cx) : Prop := ∀ (i : Nat) (v : Cx), y[i]? = some v → cls v (if i < B then u else (0, 0))
theorem Cl.set2 {u : Int × Int} {B B' p0 p1 : Nat} {y : List Cx} {p q : Cx} (h : Cl u B y) (h0 : cls p (if p0 < B' then u else (0, 0))) (h1 : cls q (if p1 < B' then u else (0, 0)))
    (hB : ∀ i, i ≠ p0 → i ≠ p1 → (i < B ↔ i < B')) : Cl u B' ((y.set p0 p).set p1 q) := by
  intro i v hi
  rw [List.getElem?_set] at hi
  by_cases e1 : p1 = i
  · rw [if_pos e1] at hi
    split at hi
    · obtain rfl : q = v := Option.some.inj hi
      rw [← e1]; exact h1
    · cases hi
  · rw [if_neg e1, List.getElem?_set] at hi
    by_cases e0 : p0 = i
    · rw [if_pos e0] at hi
      split at hi
      · obtain rfl : p = v := Option.some.inj hi
        rw [← e0]; exact h0
      · cases hi
    · rw [if_neg e0] at hi
      have := h i v hi
      have hb := hB i (fun e => e0 e.symm) (fun e => e1 e.symm)
      by_cases hlt : i < B
      · rw [if_pos hlt] at this; rw [if_pos (hb.1 hlt)]; exact this
      · rw [if_neg hlt] at this; rw [if_neg (fun c => hlt (hb.2 c))]; exact this
section
variable {w : List Cx} {n S H q : Nat} {u : Int × Int} (hf : ∀ a ∈ w, fin2 a = true) (hS : S = 2 * H) (hH : 0 < H) (hq : n = q * S) (hw : w.length = n)
  (u1 : u.1.natAbs < 9007199254740992) (u2 : u.2.natAbs < 9007199254740992)
include hf hS hH hq hw u1 u2
theorem bf1_first {k : Nat} {y : List Cx} (hk : k < H) (hy : y.length = n) (hn : S ≤ n) (hc : Cl u (H + k) y) : ∃ y', bf1 w n S 0 k y = some y' ∧ Cl u (H + (k + 1)) y' := by
  have nq : n / S = q := by rw [hq]; exact Nat.mul_div_cancel _ (by omega)
  have h2 : S / 2 = H := by omega
  have hkq : k * q < w.length := by
    rw [hw, hq, Nat.mul_comm q]
    rcases Nat.eq_zero_or_pos q with h0 | h0
    · subst h0; omega
    · exact Nat.mul_lt_mul_of_pos_right (by omega) h0
  have ha := hf _ (List.getElem_mem hkq)
  have hl1 : 0 + k + H < y.length := by omega
  have hl0 : 0 + k < y.length := by omega
  have g1 := hc _ _ (List.getElem?_eq_getElem hl1)
  have g0 := hc _ _ (List.getElem?_eq_getElem hl0)
  rw [if_neg (by omega)] at g1
  rw [if_pos (by omega)] at g0
  obtain ⟨t, p, d, e1, e2, e3, f1, f2⟩ := bf_val ha g1 g0 u1 u2
  refine ⟨(y.set (0 + k) p).set (0 + k + H) d, ?_, ?_⟩
  · unfold bf1
    rw [nq, h2]
    simp only [List.getElem?_eq_getElem hkq, List.getElem?_eq_getElem hl1, List.getElem?_eq_getElem hl0, Option.bind_some, e1, e2, e3]
  · refine hc.set2 ?_ ?_ (fun i h0 h1 => by omega)
    · rw [if_pos (by omega)]; exact f1
    · rw [if_pos (by omega)]; exact f2
theorem bf1_rest {F k : Nat} {y : List Cx} (hk : k < H) (hy : y.length = n) (hF : S ≤ F) (hn : F + S ≤ n) (hc : Cl u S y) : ∃ y', bf1 w n S F k y = some y' ∧ Cl u S y' := by
  have _ := u1; have _ := u2
  have nq : n / S = q := by rw [hq]; exact Nat.mul_div_cancel _ (by omega)
  have h2 : S / 2 = H := by omega
  have hkq : k * q < w.length := by
    rw [hw, hq, Nat.mul_comm q]
    rcases Nat.eq_zero_or_pos q with h0 | h0
    · subst h0; omega
    · exact Nat.mul_lt_mul_of_pos_right (by omega) h0
  have ha := hf _ (List.getElem_mem hkq)
  have hl1 : F + k + H < y.length := by omega
  have hl0 : F + k < y.length := by omega
  have g1 := hc _ _ (List.getElem?_eq_getElem hl1)
  have g0 := hc _ _ (List.getElem?_eq_getElem hl0)
  rw [if_neg (by omega)] at g1 g0
  obtain ⟨t, p, d, e1, e2, e3, f1, f2⟩ := bf_val ha g1 g0 (by decide) (by decide)
  refine ⟨(y.set (F + k) p).set (F + k + H) d, ?_, ?_⟩
  · unfold bf1
    rw [nq, h2]
    simp only [List.getElem?_eq_getElem hkq, List.getElem?_eq_getElem hl1, List.getElem?_eq_getElem hl0, Option.bind_some, e1, e2, e3]
  · refine hc.set2 ?_ ?_ (fun i h0 h1 => Iff.rfl)
    · rw [if_neg (by omega)]; exact f1
    · rw [if_neg (by omega)]; exact f2
theorem bfK_first {y : List Cx} (hy : y.length = n) (hn : S ≤ n) (hc : Cl u H y) : ∀ k, k ≤ H → ∃ y', bfK w n S 0 y k = some y' ∧ Cl u (H + k) y'
  | 0, _ => ⟨y, rfl, hc⟩
  | k + 1, hk => by
    obtain ⟨y', e, c⟩ := bfK_first hy hn hc k (by omega)
    obtain ⟨z, e2, c2⟩ := bf1_first hf hS hH hq hw u1 u2 (k := k) (by omega) (by rw [bfK_len e, hy]) hn c
    exact ⟨z, by unfold bfK; rw [e, Option.bind_some, e2], c2⟩
theorem bfK_rest {F : Nat} {y : List Cx} (hy : y.length = n) (hF : S ≤ F) (hn : F + S ≤ n) (hc : Cl u S y) : ∀ k, k ≤ H → ∃ y', bfK w n S F y k = some y' ∧ Cl u S y'
  | 0, _ => ⟨y, rfl, hc⟩
  | k + 1, hk => by
    obtain ⟨y', e, c⟩ := bfK_rest hy hF hn hc k (by omega)
    obtain ⟨z, e2, c2⟩ := bf1_rest hf hS hH hq hw u1 u2 (k := k) (by omega) (by rw [bfK_len e, hy]) hF hn c
    exact ⟨z, by unfold bfK; rw [e, Option.bind_some, e2], c2⟩
theorem bfF_all {y : List Cx} (hy : y.length = n) (hc : Cl u H y) : ∀ j, 1 ≤ j → j ≤ q → ∃ y', bfF w n S y j = some y' ∧ Cl u S y'
  | 0, h, _ => by omega
  | 1, _, hj => by
    have hn : S ≤ n := by rw [hq]; exact Nat.le_mul_of_pos_left _ (by omega)
    have h2 : S / 2 = H := by omega
    obtain ⟨y', e, c⟩ := bfK_first hf hS hH hq hw u1 u2 hy hn hc H (Nat.le_refl _)
    refine ⟨y', ?_, by rw [show H + H = S by omega] at c; exact c⟩
    show (some y).bind _ = _
    rw [Option.bind_some, h2, Nat.zero_mul, e]
  | j + 2, _, hj => by
    have h2 : S / 2 = H := by omega
    obtain ⟨y', e, c⟩ := bfF_all hy hc (j + 1) (by omega) (by omega)
    have hF : S ≤ (j + 1) * S := Nat.le_mul_of_pos_left _ (by omega)
    have hn : (j + 1) * S + S ≤ n := by
      rw [hq]
      have := Nat.mul_le_mul_right S hj
      rw [Nat.add_mul (j + 1) 1 S, Nat.one_mul] at this
      exact this
    obtain ⟨z, e2, c2⟩ := bfK_rest hf hS hH hq hw u1 u2 (F := (j + 1) * S) (by rw [bfF_len e, hy]) hF hn c H (Nat.le_refl _)
    refine ⟨z, ?_, c2⟩
    show (bfF w n S y (j + 1)).bind _ = _
    rw [e, Option.bind_some, h2, e2]
end
theorem bfS_all {w : List Cx} {m : Nat} {u : Int × Int} (hf : ∀ a ∈ w, fin2 a = true) (hw : w.length = 2 ^ m) (u1 : u.1.natAbs < 9007199254740992) (u2 : u.2.natAbs < 9007199254740992) {y : List Cx} (hy : y.length = 2 ^ m) (hc : Cl u 1 y) :
    ∀ s, s ≤ m → ∃ y', bfS w (2 ^ m) y s = some y' ∧ Cl u (2 ^ s) y'
  | 0, _ => ⟨y, rfl, hc⟩
  | s + 1, hs => by
    obtain ⟨y', e, c⟩ := bfS_all hf hw u1 u2 hy hc s (by omega)
    have hq : 2 ^ m = 2 ^ (m - (s + 1)) * 2 ^ (s + 1) := by rw [← Nat.pow_add]; congr 1; omega
    have hdiv : 2 ^ m / 2 ^ (s + 1) = 2 ^ (m - (s + 1)) := by rw [hq]; exact Nat.mul_div_cancel _ (Nat.two_pow_pos _)
    obtain ⟨z, e2, c2⟩ := bfF_all hf (show 2 ^ (s + 1) = 2 * 2 ^ s by rw [Nat.pow_succ, Nat.mul_comm]) (Nat.two_pow_pos s) hq hw u1 u2 (by rw [bfS_len e, hy]) c (2 ^ (m - (s + 1))) (Nat.two_pow_pos _) (Nat.le_refl _)
    exact ⟨z, by unfold bfS; rw [e, Option.bind_some, hdiv, e2], c2⟩

theorem brev_zero {m i : Nat} (hi : i < 2 ^ m) (h : brev m i = 0) : i = 0 := by
  induction m generalizing i with
  | zero => simpa using hi
  | succ m ih =>
    unfold brev at h
    have p := Nat.two_pow_pos m
    have h0 : i % 2 = 0 := by
      rcases (by omega : i % 2 = 0 ∨ i % 2 = 1) with h1 | h1
      · exact h1
      · rw [h1] at h; omega
    have h2 := ih (i := i / 2) (by rw [Nat.pow_succ] at hi; omega) (by rw [h0] at h; omega)
    omega
theorem trn_cl {m : Nat} {a : Cx} {u : Int × Int} (ha : cls a u) : ∀ k, 1 ≤ k → k ≤ 2 ^ m → Cl u 1 (trnTo m (a :: List.replicate (2 ^ m - 1) (0, 0)) k)
  | 0, h, _ => by omega
  | 1, _, hk => by
    have hb : brev m 0 = 0 := by
      have : ∀ m, brev m 0 = 0 := fun m => by induction m with
        | zero => rfl
        | succ m ih => unfold brev; simp [ih]
      exact this m
    intro i v hi
    unfold trnTo trnTo at hi
    rw [hb, List.getElem?_set] at hi
    by_cases e : 0 = i
    · subst e
      rw [if_pos rfl] at hi
      split at hi
      · obtain rfl := Option.some.inj hi
        exact ha
      · cases hi
    · rw [if_neg e, List.getElem?_replicate] at hi
      split at hi
      · obtain rfl := Option.some.inj hi
        rw [if_neg (by omega)]
        exact ⟨zero_isZ (.inl rfl), zero_isZ (.inl rfl)⟩
      · cases hi
  | k + 2, _, hk => by
    have ih := trn_cl (m := m) ha (k + 1) (by omega) (by omega)
    have hb : brev m (k + 1) ≠ 0 := fun h => by have := brev_zero (m := m) (i := k + 1) (show k + 1 < 2 ^ m by omega) h; omega
    have hz : (a :: List.replicate (2 ^ m - 1) ((0, 0) : Cx)).getD (k + 1) (0, 0) = (0, 0) := by
      rw [List.getD_eq_getElem?_getD, List.getElem?_cons_succ, List.getElem?_replicate]
      split <;> rfl
    intro i v hi
    unfold trnTo at hi
    rw [hz, List.getElem?_set] at hi
    by_cases e : brev m (k + 1) = i
    · rw [if_pos e] at hi
      split at hi
      · obtain rfl := Option.some.inj hi
        rw [if_neg (by omega)]
        exact ⟨zero_isZ (.inl rfl), zero_isZ (.inl rfl)⟩
      · cases hi
    · rw [if_neg e] at hi
      exact ih i v hi
theorem tab7 : ((List.range 8).all fun m => match tabC m with | some l => (conjs l).all fin2 && decide (l.length = 2 ^ m) | none => false) = true := by decide +kernel
/-- The transform of a list that is 0 but at its first place. -/
theorem first_wave {m : Nat} (hm : m ≤ 7) {a : Cx} {u : Int × Int} (ha : cls a u) (u1 : u.1.natAbs < 9007199254740992) (u2 : u.2.natAbs < 9007199254740992) :
    ∃ r, forwardC m (a :: List.replicate (2 ^ m - 1) (0, 0)) = some r ∧ r.length = 2 ^ m ∧ ∀ (i : Nat) (v : Cx), r[i]? = some v → cls v u := by
  have ht := List.all_eq_true.1 tab7 m (List.mem_range.2 (by omega))
  unfold forwardC
  cases hl : tabC m with
  | none => rw [hl] at ht; cases ht
  | some l =>
    rw [hl] at ht
    simp only [Bool.and_eq_true, decide_eq_true_eq] at ht
    rw [Option.bind_some]
    unfold waveC trn
    have htl := trnTo_len m (a :: List.replicate (2 ^ m - 1) ((0, 0) : Cx)) (2 ^ m)
    obtain ⟨r, e, c⟩ := bfS_all (fun a ha => List.all_eq_true.1 ht.1 a ha) (by unfold conjs; rw [List.length_map]; exact ht.2) u1 u2 htl (trn_cl ha (2 ^ m) (Nat.two_pow_pos m) (Nat.le_refl _)) m (Nat.le_refl _)
    have hrl := bfS_len e
    refine ⟨r, e, by rw [hrl, htl], fun i v hi => ?_⟩
    have hil : i < r.length := (List.getElem?_eq_some_iff.1 hi).1
    have := c i v hi
    rw [if_pos (by omega)] at this
    exact this
end Go.Wav
end
section
/- The table of every order lies near the roots of one. Nothing of the program. -/
set_option linter.unusedVariables false
set_option maxRecDepth 100000
namespace Go.Cyc
open Go.Flt Go.Qc Go.Wav Go.Pen

def tau : Rat := 1 / 2251799813685248
theorem lev_get : ∀ (d i : Nat), (lev d)[i]? = E12[i * 2 ^ d]?
  | 0, i => by rw [Nat.pow_zero, Nat.mul_one]; rfl
  | d + 1, i => by
    show (evens (lev d))[i]? = _
    rw [evens_get, lev_get d, Nat.pow_succ, Nat.mul_comm (2 ^ d), ← Nat.mul_assoc, Nat.mul_comm i 2]
theorem E12_len : E12.length = 513 := lev_len 0 (by decide)
theorem qtab_low {i : Nat} (h : i ≤ 512) : qtab[i]? = E12[i]? := by
  unfold qtab
  exact List.getElem?_append_left (by rw [E12_len]; omega)
theorem qtab_high {i : Nat} (h : 512 < i) (h2 : i < 1024) : qtab[i]? = E12[1024 - i]?.map fun a => (a.2, a.1) := by
  unfold qtab
  have hl := E12_len
  have e1 : E12.tail.length = 512 := by rw [List.length_tail, hl]
  rw [List.getElem?_append_right (by omega), List.getElem?_map, List.getElem?_tail, List.getElem?_reverse (by omega), List.getElem?_tail, hl, e1]
  congr 2
  omega
theorem quarter_tab {m k : Nat} (h3 : 3 ≤ m) (hm : m ≤ 12) (hk : k < 2 ^ m / 4) : quarterC (2 ^ m) k (lev (12 - m)) = qtab[k * 2 ^ (12 - m)]? := by
  obtain ⟨t, rfl⟩ : ∃ t, m = t + 3 := ⟨m - 3, by omega⟩
  have e8 : 2 ^ (t + 3) / 8 = 2 ^ t := by rw [Nat.pow_add]; exact Nat.mul_div_cancel _ (by decide)
  have e4 : 2 ^ (t + 3) / 4 = 2 * 2 ^ t := by rw [Nat.pow_add]; omega
  have eS : 2 ^ t * 2 ^ (12 - (t + 3)) = 512 := by rw [← Nat.pow_add, show t + (12 - (t + 3)) = 9 by omega]
  have hp := Nat.two_pow_pos (12 - (t + 3))
  rw [e4] at hk
  unfold quarterC
  rw [e8, e4]
  generalize 2 ^ t = T at *
  by_cases hl : k ≤ T
  · rw [if_pos hl, lev_get]
    have := Nat.mul_le_mul_right (2 ^ (12 - (t + 3))) hl
    rw [qtab_low (by omega)]
  · rw [if_neg hl, lev_get]
    have h1 := Nat.mul_lt_mul_of_pos_right (show T < k by omega) hp
    have h2 := Nat.mul_lt_mul_of_pos_right hk hp
    have e5 : 2 * T * 2 ^ (12 - (t + 3)) = 1024 := by rw [Nat.mul_assoc, eS]
    rw [eS] at h1
    rw [e5] at h2
    rw [qtab_high h1 h2, Nat.sub_mul, e5]
theorem tab_get {m : Nat} {f l : List Cx} (hf : eighthC m = some f) (hl : tabC m = some l) : l.length = 2 ^ m ∧ ∀ k, k < 2 ^ m → l[k]? = atC (2 ^ m) k f := by
  unfold tabC at hl
  rw [hf, Option.bind_some] at hl
  have go : ∀ (k : Nat) (l : List Cx), tabTo (2 ^ m) f k = some l → l.length = k ∧ ∀ j, j < k → l[j]? = atC (2 ^ m) j f := by
    intro k
    induction k with
    | zero =>
      intro l e
      obtain rfl : [] = l := by simpa [tabTo] using e
      exact ⟨rfl, fun j hj => absurd hj (by omega)⟩
    | succ k ih =>
      intro l e
      unfold tabTo at e
      simp only [Option.bind_eq_some_iff, Option.some.injEq] at e
      obtain ⟨l', h1, a, h2, rfl⟩ := e
      obtain ⟨i1, i2⟩ := ih l' h1
      refine ⟨by simp [i1], fun j hj => ?_⟩
      by_cases hjk : j < k
      · rw [List.getElem?_append_left (by omega)]; exact i2 j hjk
      · obtain rfl : j = k := by omega
        rw [List.getElem?_append_right (by omega), i1, Nat.sub_self, h2]; rfl
  exact go _ l hl

/-! turning -/
theorem rv_plain (p : Nat) : rv (plainF p) = rv p := by
  unfold plainF
  split
  · rename_i h
    rcases h with rfl | rfl
    · rfl
    · unfold rv; congr 1
  · rfl
theorem fin_plain (p : Nat) : finB (plainF p) = finB p := by
  unfold plainF
  split
  · rename_i h
    rcases h with rfl | rfl <;> decide
  · rfl
theorem cv_plain (a : Cx) : cv (plainC a) = cv a := by unfold cv plainC; rw [rv_plain, rv_plain]
theorem cv_turn {a : Cx} (hw : Wf a) : cv (plainC (turnC a)) = qi * cv a := by
  rw [cv_plain]
  unfold turnC cv
  have : rv (flipF a.2) = - rv a.2 := rv_flip hw.2
  ext
  · simp [this]; grind
  · simp; exact (Rat.zero_add _).symm
theorem fin_turn {a : Cx} (h : fin2 a = true) : fin2 (plainC (turnC a)) = true := by
  unfold fin2 at *
  rw [Bool.and_eq_true] at *
  refine ⟨?_, ?_⟩
  · show finB (plainF (flipF a.2)) = true
    rw [fin_plain]
    have := fin_flip (y := a.2)
    unfold flipN at this
    unfold flipF
    rw [this]; exact h.2
  · show finB (plainF a.1) = true
    rw [fin_plain]; exact h.1
theorem h_turn (j : Nat) : bq (qi * h j - h (1024 + j)) (7 * eta) := by
  have e0 := eta_pos
  have e1 : h 1024 = qpow u 1024 := by unfold h; rw [if_pos (by decide)]
  have a := (h_mul 1024 j).swap
  have b := bq_mul' (unit_n1 (h_ch.unit j)) u_quarter.swap
  rw [← e1] at b
  have c := b.add a
  have e : (qi - h 1024) * h j + (h 1024 * h j - h (1024 + j)) = qi * h j - h (1024 + j) := by ext <;> simp <;> grind
  rw [e] at c
  exact c.mono (by grind)
theorem turns_near {a : Cx} {j : Nat} {A : Rat} (hw : Wf a) (hf : fin2 a = true) (hb : bq (cv a - h j) A) : ∀ q : Nat, fin2 (turns q a) = true ∧ Wf (turns q a) ∧ bq (cv (turns q a) - h (1024 * q + j)) (A + q * (7 * eta))
  | 0 => ⟨hf, hw, by
    rw [Nat.mul_zero, Nat.zero_add]
    refine hb.mono ?_
    rw [show ((0 : Nat) : Rat) = 0 from rfl, Rat.zero_mul, Rat.add_zero]; exact Rat.le_refl⟩
  | q + 1 => by
    obtain ⟨f, w, b⟩ := turns_near hw hf hb q
    refine ⟨fin_turn f, wf_plain (wf_turn w), ?_⟩
    show bq (cv (plainC (turnC (turns q a))) - _) _
    rw [cv_turn w]
    have c := (bq.qi b).add (h_turn (1024 * q + j))
    have e : qi * (cv (turns q a) - h (1024 * q + j)) + (qi * h (1024 * q + j) - h (1024 + (1024 * q + j))) = qi * cv (turns q a) - h (1024 * (q + 1) + j) := by
      rw [show 1024 * (q + 1) + j = 1024 + (1024 * q + j) by omega]
      ext <;> simp <;> grind
    rw [e] at c
    refine c.mono ?_
    rw [Rat.natCast_add]
    have : ((1 : Nat) : Rat) = 1 := rfl
    rw [this]
    grind
theorem h_low_eq {i : Nat} (hi : i < 2048) : h i = qpow u i := by
  unfold h
  rw [if_pos (by omega), Nat.mod_eq_of_lt (by omega)]
/-- What is known of each root of each order. -/
theorem at_near {m : Nat} (hm : m ≤ 12) {f : List Cx} (hf : eighthC m = some f) {k : Nat} (hk : k < 2 ^ m) : ∃ a, atC (2 ^ m) k f = some a ∧ fin2 a = true ∧ Wf a ∧ bq (cv a - h (k * 2 ^ (12 - m))) tau := by
  have e0 := eta_pos
  have et : tau0 + 3 * (7 * eta) ≤ tau := by decide +kernel
  have one_cv : cv (one, 0) = q1 := by
    unfold cv
    ext
    · show rv one = 1
      decide +kernel
    · show rv 0 = 0
      decide +kernel
  by_cases h2 : m < 2
  · unfold atC
    have hlt4 : 2 ^ m < 4 := by rcases (by omega : m = 0 ∨ m = 1) with rfl | rfl <;> decide
    rw [if_pos hlt4]
    by_cases hk0 : k = 0
    · subst hk0
      rw [if_pos rfl, Nat.zero_mul]
      refine ⟨_, rfl, by decide, ⟨by decide, by decide⟩, ?_⟩
      rw [one_cv]
      have : q1 - h 0 = q0 := by rw [h_ch.zero]; ext <;> simp <;> grind
      rw [this]
      exact bq.zero.mono (by decide +kernel)
    · have hm1 : m = 1 := by
        rcases (by omega : m = 0 ∨ m = 1) with rfl | rfl
        · simp at hk; omega
        · rfl
      subst hm1
      have hk1 : k = 1 := by simp at hk; omega
      subst hk1
      rw [if_neg (by decide)]
      refine ⟨_, rfl, by decide, ⟨by decide, by decide⟩, ?_⟩
      have : cv (13830554455654793216, 0) - h (1 * 2 ^ (12 - 1)) = q0 := by
        rw [show 1 * 2 ^ (12 - 1) = 0 + 2048 by decide, h_ch.anti, h_ch.zero]
        unfold cv
        ext
        · show rv 13830554455654793216 - -1 = 0
          decide +kernel
        · show rv 0 - -0 = 0
          decide +kernel
      rw [this]
      exact bq.zero.mono (by decide +kernel)
  · have hN : 2 ^ m = 4 * (2 ^ m / 4) := by
      obtain ⟨t, rfl⟩ : ∃ t, m = t + 2 := ⟨m - 2, by omega⟩
      rw [Nat.pow_add]; omega
    have hQS : 2 ^ m / 4 * 2 ^ (12 - m) = 1024 := by
      obtain ⟨t, rfl⟩ : ∃ t, m = t + 2 := ⟨m - 2, by omega⟩
      rw [Nat.pow_add, Nat.mul_div_cancel _ (by decide), ← Nat.pow_add, show t + (12 - (t + 2)) = 10 by omega]
    have h4 : ¬ 2 ^ m < 4 := by
      have := Nat.pow_le_pow_right (n := 2) (by decide) (show 2 ≤ m by omega)
      omega
    -- the number in its quarter
    have hq : ∀ r, r < 2 ^ m / 4 → ∃ a, quarterC (2 ^ m) r f = some a ∧ fin2 a = true ∧ Wf a ∧ bq (cv a - h (r * 2 ^ (12 - m))) tau0 := by
      intro r hr
      by_cases h3 : 3 ≤ m
      · obtain ⟨t, rfl⟩ : ∃ t, m = t + 3 := ⟨m - 3, by omega⟩
        have hfe : f = lev (12 - (t + 3)) := by
          have := eighth_lev t (by omega)
          rw [hf] at this
          rw [Option.some.inj this]
          congr 1; omega
        have hi : r * 2 ^ (12 - (t + 3)) < 1024 := by
          rw [← hQS]; exact Nat.mul_lt_mul_of_pos_right hr (Nat.two_pow_pos _)
        have hqt := quarter_tab h3 hm hr
        rw [← hfe] at hqt
        have hlt : r * 2 ^ (12 - (t + 3)) < qtab.length := by
          have : qtab.length = 1024 := by
            unfold qtab
            rw [List.length_append, List.length_map, List.length_tail, List.length_reverse, List.length_tail, E12_len]
          omega
        obtain ⟨e, he⟩ : ∃ e, qtab[r * 2 ^ (12 - (t + 3))]? = some e := ⟨_, List.getElem?_eq_getElem hlt⟩
        obtain ⟨f1, f2, b⟩ := quarter_near he
        have hw : Wf e := by
          have hqe : quarterC (2 ^ (t + 3)) r f = some e := by rw [hqt, he]
          have hall := wf_eighth hf
          unfold quarterC at hqe
          split at hqe
          · exact hall _ (List.mem_of_getElem? hqe)
          · rw [Option.map_eq_some_iff] at hqe
            obtain ⟨c, hc, rfl⟩ := hqe
            have := hall _ (List.mem_of_getElem? hc)
            exact ⟨this.2, this.1⟩
        refine ⟨e, by rw [hqt, he], by unfold fin2; rw [f1, f2]; rfl, hw, ?_⟩
        rw [h_low_eq (by omega)]
        exact b
      · obtain rfl : m = 2 := by omega
        have hr0 : r = 0 := by simp at hr; omega
        subst hr0
        have hfe : f = [(one, 0)] := by
          have : eighthC 2 = some [(one, 0)] := rfl
          rw [hf] at this
          exact Option.some.inj this
        subst hfe
        refine ⟨(one, 0), rfl, by decide, wf_one, ?_⟩
        rw [one_cv, Nat.zero_mul]
        have : q1 - h 0 = q0 := by rw [h_ch.zero]; ext <;> simp <;> grind
        rw [this]
        exact bq.zero.mono (by decide +kernel)
    unfold atC
    rw [if_neg h4]
    have hQ0 : 0 < 2 ^ m / 4 := by omega
    obtain ⟨a, ha, hfa, hwa, hba⟩ := hq (k % (2 ^ m / 4)) (Nat.mod_lt _ hQ0)
    rw [ha]
    have hq4 : k / (2 ^ m / 4) < 4 := Nat.div_lt_of_lt_mul (by rw [Nat.mul_comm]; omega)
    obtain ⟨t1, t2, t3⟩ := turns_near hwa hfa hba (k / (2 ^ m / 4))
    refine ⟨_, rfl, t1, t2, ?_⟩
    have ek : 1024 * (k / (2 ^ m / 4)) + k % (2 ^ m / 4) * 2 ^ (12 - m) = k * 2 ^ (12 - m) := by
      have hdm := Nat.div_add_mod k (2 ^ m / 4)
      generalize k / (2 ^ m / 4) = q at *
      generalize k % (2 ^ m / 4) = r at *
      rw [← hdm, Nat.add_mul, Nat.mul_right_comm, hQS]
    rw [ek] at t3
    refine t3.mono ?_
    have h3 : ((k / (2 ^ m / 4) : Nat) : Rat) ≤ 3 := by
      have : ((k / (2 ^ m / 4) : Nat) : Rat) ≤ ((3 : Nat) : Rat) := Rat.natCast_le_natCast.2 (by omega)
      exact this
    have := Rat.mul_le_mul_of_nonneg_right h3 (show 0 ≤ 7 * eta by grind)
    grind
/-- What is known of the table of each order. -/
theorem tab_near {m : Nat} (hm : m ≤ 12) {l : List Cx} (hl : tabC m = some l) : l.length = 2 ^ m ∧ ∀ k, k < 2 ^ m → ∃ a, l[k]? = some a ∧ fin2 a = true ∧ Wf a ∧ bq (cv a - h (k * 2 ^ (12 - m))) tau := by
  obtain ⟨f, hf, hb, hfl, _⟩ := eighth_all hm
  obtain ⟨hlen, hg⟩ := tab_get hf hl
  refine ⟨hlen, fun k hk => ?_⟩
  rw [hg k hk]
  exact at_near hm hf hk
/-- The table of every order stands. -/
theorem tab_ex {m : Nat} (hm : m ≤ 12) : ∃ l, tabC m = some l := by
  obtain ⟨f, hf, hb, hl, _⟩ := eighth_all hm
  have go : ∀ k, k ≤ 2 ^ m → ∃ l, tabTo (2 ^ m) f k = some l := by
    intro k
    induction k with
    | zero => intro _; exact ⟨[], rfl⟩
    | succ k ih =>
      intro hk
      obtain ⟨l, hl'⟩ := ih (by omega)
      obtain ⟨a, ha, _⟩ := at_near hm hf (k := k) (by omega)
      exact ⟨l ++ [a], by unfold tabTo; rw [hl', Option.bind_some, ha, Option.bind_some]⟩
  obtain ⟨l, h⟩ := go _ (Nat.le_refl _)
  exact ⟨l, by unfold tabC; rw [hf, Option.bind_some, h]⟩
end Go.Cyc
end
section
/- The butterflies lie near the sums that define the transform. Nothing of the program. -/
set_option linter.unusedVariables false
set_option maxRecDepth 100000
namespace Go.Cyc
open Go.Flt Go.Qc Go.Wav Go.Pen

/-! one operation -/
theorem ulp_next (k : Nat) : ulp (k + 1) = 2 * ulp k := by unfold ulp; rw [Rat.pow_succ]; grind
theorem ulp_lt (k : Nat) : ulp k = 2 ^ k * (1 / 18014398509481984) := rfl
theorem pow_pos2 (k : Nat) : 0 < (2 : Rat) ^ k := Rat.pow_pos (by decide)
/-- A number that is finite. -/
structure Ok (a : Cx) : Prop where
  f : fin2 a = true
  w : Wf a
theorem Ok.f1 {a : Cx} (h : Ok a) : finB a.1 = true := by have := h.f; unfold fin2 at this; rw [Bool.and_eq_true] at this; exact this.1
theorem Ok.f2 {a : Cx} (h : Ok a) : finB a.2 = true := by have := h.f; unfold fin2 at this; rw [Bool.and_eq_true] at this; exact this.2
theorem Ok.of {a : Cx} (h1 : finB a.1 = true) (h2 : finB a.2 = true) (h3 : a.1 < 18446744073709551616) (h4 : a.2 < 18446744073709551616) : Ok a :=
  ⟨by unfold fin2; rw [h1, h2]; rfl, h3, h4⟩
theorem mulC_err {a b : Cx} (k : Nat) (hk : k ≤ 800) (ha : Ok a) (hb : Ok b) {A B : Rat} (h1 : bq (cv a) A) (h2 : bq (cv b) B) (hB : A * B ≤ 15 / 16 * 2 ^ k) :
    ∃ t, mulC a b = some t ∧ Ok t ∧ bq (cv t - cv a * cv b) (4 * ulp k) := by
  have hp := pow_pos2 k
  have hlt : A * B < 2 ^ k := by grind
  have c1 : bd (rv a.1) A := h1.r
  have c2 : bd (rv a.2) A := h1.i
  have d1 : bd (rv b.1) B := h2.r
  have d2 : bd (rv b.2) B := h2.i
  obtain ⟨pu, e1, f1, w1, b1⟩ := mul_err k (by omega) ha.f1 hb.f1 (bd_mul c1 d1) hlt
  obtain ⟨qv, e2, f2, w2, b2⟩ := mul_err k (by omega) ha.f2 hb.f2 (bd_mul c2 d2) hlt
  obtain ⟨pv, e3, f3, w3, b3⟩ := mul_err k (by omega) ha.f1 hb.f2 (bd_mul c1 d2) hlt
  obtain ⟨qu, e4, f4, w4, b4⟩ := mul_err k (by omega) ha.f2 hb.f1 (bd_mul c2 d1) hlt
  have m1 := bd_mul c1 d1
  have m2 := bd_mul c2 d2
  have m3 := bd_mul c1 d2
  have m4 := bd_mul c2 d1
  have hbig : 2 * (A * B) + 2 * ulp k < 2 ^ (k + 1) := by rw [Rat.pow_succ]; unfold ulp; grind
  obtain ⟨re, e5, f5, w5, b5⟩ := sub_err (x := pu) (y := qv) (k + 1) (by omega) f1 f2 w2 (B := 2 * (A * B) + 2 * ulp k) (by unfold bd at *; grind) hbig
  obtain ⟨im, e6, f6, w6, b6⟩ := add_err (x := pv) (y := qu) (k + 1) (by omega) f3 f4 (B := 2 * (A * B) + 2 * ulp k) (by unfold bd at *; grind) hbig
  refine ⟨(re, im), ?_, Ok.of f5 f6 w5 w6, ?_, ?_⟩
  · unfold mulC
    simp only [e1, e2, e3, e4, e5, e6, Option.bind_some]
  · show bd (rv re - (rv a.1 * rv b.1 - rv a.2 * rv b.2)) _
    rw [ulp_next] at b5
    unfold bd at *
    grind
  · show bd (rv im - (rv a.1 * rv b.2 + rv a.2 * rv b.1)) _
    rw [ulp_next] at b6
    unfold bd at *
    grind
theorem addC_err {a b : Cx} (k : Nat) (hk : k ≤ 800) (ha : Ok a) (hb : Ok b) {B : Rat} (h : bq (cv a + cv b) B) (hB : B < 2 ^ k) :
    ∃ t, addC a b = some t ∧ Ok t ∧ bq (cv t - (cv a + cv b)) (ulp k) := by
  obtain ⟨re, e1, f1, w1, b1⟩ := add_err (x := a.1) (y := b.1) k (by omega) ha.f1 hb.f1 h.r hB
  obtain ⟨im, e2, f2, w2, b2⟩ := add_err (x := a.2) (y := b.2) k (by omega) ha.f2 hb.f2 h.i hB
  refine ⟨(re, im), ?_, Ok.of f1 f2 w1 w2, b1, b2⟩
  unfold addC cSumBits floatBits
  simp only [FloatKind.format, e1, e2, Option.bind_some]
theorem subC_err {a b : Cx} (k : Nat) (hk : k ≤ 800) (ha : Ok a) (hb : Ok b) {B : Rat} (h : bq (cv a - cv b) B) (hB : B < 2 ^ k) :
    ∃ t, subC a b = some t ∧ Ok t ∧ bq (cv t - (cv a - cv b)) (ulp k) := by
  obtain ⟨re, e1, f1, w1, b1⟩ := sub_err (x := a.1) (y := b.1) k (by omega) ha.f1 hb.f1 hb.w.1 h.r hB
  obtain ⟨im, e2, f2, w2, b2⟩ := sub_err (x := a.2) (y := b.2) k (by omega) ha.f2 hb.f2 hb.w.2 h.i hB
  refine ⟨(re, im), ?_, Ok.of f1 f2 w1 w2, b1, b2⟩
  unfold subC cSumBits floatBits
  simp only [FloatKind.format, e1, e2, Option.bind_some]

/-! one butterfly -/
theorem tau_eta : 0 < eta ∧ eta ≤ 1 / 2 ^ 60 ∧ tau = 1 / 2251799813685248 := by refine ⟨eta_pos, ?_, rfl⟩; decide +kernel
theorem bt_err {a e o : Cx} {ha Re Ro : Q2} {E Q : Rat} (k : Nat) (hk : k ≤ 700) (hQ : Q = 2 ^ k) (oa : Ok a) (oe : Ok e) (oo : Ok o)
    (ba : bq (cv a - ha) tau) (ua : nsq ha ≤ 1) (be : bq (cv e - Re) E) (bo : bq (cv o - Ro) E) (hE : E ≤ Q / 4) (hRe : bq Re (3 / 2 * Q)) (hRo : bq Ro (3 / 2 * Q)) :
    ∃ p d, bt a e o = some (p, d) ∧ Ok p ∧ Ok d ∧ bq (cv p - (Re + ha * Ro)) (5 / 2 * E + 11 / 2 * Q / 2251799813685248) ∧ bq (cv d - (Re - ha * Ro)) (5 / 2 * E + 11 / 2 * Q / 2251799813685248) := by
  have hq : 0 < Q := by rw [hQ]; exact pow_pos2 k
  have E0 := be.nn
  have et : tau = 1 / 2251799813685248 := rfl
  have ce : bq (cv e) (7 / 4 * Q) := (be.of hRe).mono (by grind)
  have co : bq (cv o) (7 / 4 * Q) := (bo.of hRo).mono (by grind)
  have ca : bq (cv a) (1 + tau) := (ba.of (unit_bq ua)).mono (by grind)
  have k1 : (2 : Rat) ^ (k + 1) = 2 * Q := by rw [Rat.pow_succ, ← hQ]; grind
  have k3 : (2 : Rat) ^ (k + 3) = 8 * Q := by rw [Rat.pow_succ, Rat.pow_succ, Rat.pow_succ, ← hQ]; grind
  have u1 : ulp (k + 1) = Q / 9007199254740992 := by unfold ulp; rw [k1]; grind
  have u3 : ulp (k + 3) = Q / 2251799813685248 := by unfold ulp; rw [k3]; grind
  obtain ⟨t, e1, ot, b1⟩ := mulC_err (k + 1) (by omega) oa oo ca co (by rw [k1, et]; grind)
  rw [u1] at b1
  have b2 : bq (cv a * cv o - ha * Ro) (2 * tau * (7 / 4 * Q) + 3 / 2 * E) := by
    have x1 := bq_mul (n1.of ba) co
    have x2 := bq_mul (unit_n1 ua) bo
    have x3 := x1.add x2
    have e : (cv a - ha) * cv o + ha * (cv o - Ro) = cv a * cv o - ha * Ro := by ext <;> simp <;> grind
    rw [e] at x3
    exact x3.mono (by grind)
  have b3 : bq (cv t - ha * Ro) (3 / 2 * E + 9 / 2 * Q / 2251799813685248) := (b1.tri b2).mono (by rw [et]; grind)
  have hR := bq_mul (unit_n1 ua) hRo
  have ct : bq (cv t) (11 / 4 * Q) := (b3.of hR).mono (by grind)
  obtain ⟨p, e2, op, b4⟩ := addC_err (k + 3) (by omega) oe ot (ce.add ct) (by rw [k3]; grind)
  obtain ⟨d, e3, od, b5⟩ := subC_err (k + 3) (by omega) oe ot (ce.sub ct) (by rw [k3]; grind)
  rw [u3] at b4 b5
  refine ⟨p, d, ?_, op, od, ?_, ?_⟩
  · unfold bt
    rw [e1, Option.bind_some, e2, Option.bind_some, e3]; rfl
  · have x := b4.add (be.add b3)
    have e : cv p - (cv e + cv t) + (cv e - Re + (cv t - ha * Ro)) = cv p - (Re + ha * Ro) := by ext <;> simp <;> grind
    rw [e] at x
    exact x.mono (by grind)
  · have x := b5.add (be.sub b3)
    have e : cv d - (cv e - cv t) + (cv e - Re - (cv t - ha * Ro)) = cv d - (Re - ha * Ro) := by ext <;> simp <;> grind
    rw [e] at x
    exact x.mono (by grind)

/-! the sums of a block -/
/-- The sum of block F, at k, when blocks hold 2^s numbers and 2^c of them stand. -/
def R (h : Nat → Q2) (X : Nat → Q2) (c s F k : Nat) : Q2 := qsum (fun i => X (i * 2 ^ c + brev c F) * h (i * k * 2 ^ (12 - s))) (2 ^ s)
theorem cast_pow (s : Nat) : ((2 ^ s : Nat) : Rat) = 2 ^ s := by rw [Rat.natCast_pow]; rfl
theorem R_bd {h X : Nat → Q2} (ch : Ch h) {M : Rat} (hX : ∀ j, bq (X j) M) (c s F k : Nat) : bq (R h X c s F k) (3 / 2 * (2 ^ s * M)) := by
  have := qsum_bd (f := fun i => X (i * 2 ^ c + brev c F) * h (i * k * 2 ^ (12 - s))) (n := 2 ^ s) (B := 3 / 2 * M) (fun i _ => bq_mul' (unit_n1 (ch.unit _)) (hX _))
  rw [cast_pow] at this
  exact this.mono (by grind)
section
variable {h X : Nat → Q2} (ch : Ch h) {M : Rat} (hX : ∀ j, bq (X j) M)
include ch hX
theorem odd_part (c s F k : Nat) (hs : s ≤ 11) : bq (qsum (fun i => X (i * 2 ^ (c + 1) + brev (c + 1) (2 * F + 1)) * h (i * k * 2 ^ (12 - s) + k * 2 ^ (11 - s))) (2 ^ s) - h (k * 2 ^ (11 - s)) * R h X (c + 1) s (2 * F + 1) k) (2 ^ s * (10 * eta * M)) := by
  unfold R
  rw [← qsum_mul, ← qsum_sub]
  have := qsum_bd (f := fun i => X (i * 2 ^ (c + 1) + brev (c + 1) (2 * F + 1)) * h (i * k * 2 ^ (12 - s) + k * 2 ^ (11 - s)) - h (k * 2 ^ (11 - s)) * (X (i * 2 ^ (c + 1) + brev (c + 1) (2 * F + 1)) * h (i * k * 2 ^ (12 - s)))) (n := 2 ^ s) (B := 10 * eta * M) (fun i _ => ?_)
  · rwa [cast_pow] at this
  · have a := bq_mul' (n1.of (ch.mul (i * k * 2 ^ (12 - s)) (k * 2 ^ (11 - s)))) (hX (i * 2 ^ (c + 1) + brev (c + 1) (2 * F + 1)))
    have e : X (i * 2 ^ (c + 1) + brev (c + 1) (2 * F + 1)) * (h (i * k * 2 ^ (12 - s) + k * 2 ^ (11 - s)) - h (i * k * 2 ^ (12 - s)) * h (k * 2 ^ (11 - s))) = X (i * 2 ^ (c + 1) + brev (c + 1) (2 * F + 1)) * h (i * k * 2 ^ (12 - s) + k * 2 ^ (11 - s)) - h (k * 2 ^ (11 - s)) * (X (i * 2 ^ (c + 1) + brev (c + 1) (2 * F + 1)) * h (i * k * 2 ^ (12 - s))) := by
      generalize X (i * 2 ^ (c + 1) + brev (c + 1) (2 * F + 1)) = x
      generalize h (i * k * 2 ^ (12 - s) + k * 2 ^ (11 - s)) = y
      generalize h (i * k * 2 ^ (12 - s)) = z
      generalize h (k * 2 ^ (11 - s)) = v
      ext <;> simp <;> grind
    rw [e] at a
    exact a.mono (by grind)
omit ch hX in
theorem R_two (c s F k : Nat) (hs : s ≤ 11) : R h X c (s + 1) F k = qsum (fun i => X (i * 2 ^ (c + 1) + brev (c + 1) (2 * F)) * h (i * k * 2 ^ (12 - s))) (2 ^ s) + qsum (fun i => X (i * 2 ^ (c + 1) + brev (c + 1) (2 * F + 1)) * h (i * k * 2 ^ (12 - s) + k * 2 ^ (11 - s))) (2 ^ s) := by
  unfold R
  rw [Nat.pow_succ 2 s, Nat.mul_comm (2 ^ s) 2, qsum_two]
  have e12 : 12 - s = 11 - s + 1 := by omega
  have e11 : 12 - (s + 1) = 11 - s := by omega
  rw [e11, brev_even, brev_odd]
  congr 1
  · refine qsum_congr fun i _ => ?_
    rw [show 2 * i * 2 ^ c = i * 2 ^ (c + 1) by rw [Nat.pow_succ, Nat.mul_comm 2 i, Nat.mul_assoc, Nat.mul_comm 2]]
    congr 2
    rw [e12, Nat.pow_succ, Nat.mul_assoc 2 i k, Nat.mul_assoc 2, Nat.mul_comm 2, Nat.mul_assoc]
  · refine qsum_congr fun i _ => ?_
    rw [show (2 * i + 1) * 2 ^ c + brev c F = i * 2 ^ (c + 1) + (2 ^ c + brev c F) by rw [Nat.pow_succ, Nat.add_mul, Nat.one_mul, Nat.mul_comm 2 i, Nat.mul_assoc, Nat.mul_comm 2, Nat.add_assoc]]
    congr 2
    rw [e12, Nat.pow_succ, Nat.add_mul, Nat.add_mul, Nat.one_mul, Nat.mul_assoc 2 i k, Nat.mul_assoc 2, Nat.mul_comm 2, Nat.mul_assoc]
theorem R_low (c s F k : Nat) (hs : s ≤ 11) : bq (R h X (c + 1) s (2 * F) k + h (k * 2 ^ (11 - s)) * R h X (c + 1) s (2 * F + 1) k - R h X c (s + 1) F k) (2 ^ s * (10 * eta * M)) := by
  have a := (odd_part ch hX c s F k hs).swap
  rw [R_two c s F k hs]
  show bq (qsum _ _ + _ - _) _
  have e : R h X (c + 1) s (2 * F) k + h (k * 2 ^ (11 - s)) * R h X (c + 1) s (2 * F + 1) k - (qsum (fun i => X (i * 2 ^ (c + 1) + brev (c + 1) (2 * F)) * h (i * k * 2 ^ (12 - s))) (2 ^ s) + qsum (fun i => X (i * 2 ^ (c + 1) + brev (c + 1) (2 * F + 1)) * h (i * k * 2 ^ (12 - s) + k * 2 ^ (11 - s))) (2 ^ s)) = h (k * 2 ^ (11 - s)) * R h X (c + 1) s (2 * F + 1) k - qsum (fun i => X (i * 2 ^ (c + 1) + brev (c + 1) (2 * F + 1)) * h (i * k * 2 ^ (12 - s) + k * 2 ^ (11 - s))) (2 ^ s) := by
    show qsum (fun i => X (i * 2 ^ (c + 1) + brev (c + 1) (2 * F)) * h (i * k * 2 ^ (12 - s))) (2 ^ s) + _ - (_ + _) = _
    generalize qsum (fun i => X (i * 2 ^ (c + 1) + brev (c + 1) (2 * F)) * h (i * k * 2 ^ (12 - s))) (2 ^ s) = A
    generalize h (k * 2 ^ (11 - s)) * R h X (c + 1) s (2 * F + 1) k = B
    generalize qsum (fun i => X (i * 2 ^ (c + 1) + brev (c + 1) (2 * F + 1)) * h (i * k * 2 ^ (12 - s) + k * 2 ^ (11 - s))) (2 ^ s) = C
    ext <;> simp <;> grind
  exact e ▸ a
theorem R_high (c s F k : Nat) (hs : s ≤ 11) : bq (R h X (c + 1) s (2 * F) k - h (k * 2 ^ (11 - s)) * R h X (c + 1) s (2 * F + 1) k - R h X c (s + 1) F (k + 2 ^ s)) (2 ^ s * (10 * eta * M)) := by
  have a := odd_part ch hX c s F k hs
  rw [R_two c s F (k + 2 ^ s) hs]
  have hp : 2 ^ s * 2 ^ (12 - s) = 4096 := by rw [← Nat.pow_add, show s + (12 - s) = 12 by omega]
  have hp2 : 2 ^ s * 2 ^ (11 - s) = 2048 := by rw [← Nat.pow_add, show s + (11 - s) = 11 by omega]
  have e1 : qsum (fun i => X (i * 2 ^ (c + 1) + brev (c + 1) (2 * F)) * h (i * (k + 2 ^ s) * 2 ^ (12 - s))) (2 ^ s) = R h X (c + 1) s (2 * F) k := by
    refine qsum_congr fun i _ => ?_
    congr 1
    rw [← ch.pers (i * k * 2 ^ (12 - s)) i, Nat.mul_add, Nat.add_mul, Nat.mul_assoc i (2 ^ s), hp, Nat.mul_comm i 4096]
  have e2 : qsum (fun i => X (i * 2 ^ (c + 1) + brev (c + 1) (2 * F + 1)) * h (i * (k + 2 ^ s) * 2 ^ (12 - s) + (k + 2 ^ s) * 2 ^ (11 - s))) (2 ^ s) = - qsum (fun i => X (i * 2 ^ (c + 1) + brev (c + 1) (2 * F + 1)) * h (i * k * 2 ^ (12 - s) + k * 2 ^ (11 - s))) (2 ^ s) := by
    rw [← qsum_neg]
    refine qsum_congr fun i _ => ?_
    have : h (i * (k + 2 ^ s) * 2 ^ (12 - s) + (k + 2 ^ s) * 2 ^ (11 - s)) = - h (i * k * 2 ^ (12 - s) + k * 2 ^ (11 - s)) := by
      rw [← ch.antis _ i]
      congr 1
      rw [Nat.mul_add, Nat.add_mul, Nat.add_mul, Nat.mul_assoc i (2 ^ s), hp, hp2]
      omega
    rw [this]
    ext <;> simp <;> grind
  rw [e1, e2]
  generalize R h X (c + 1) s (2 * F) k = A at *
  generalize h (k * 2 ^ (11 - s)) * R h X (c + 1) s (2 * F + 1) k = B at *
  generalize qsum (fun i => X (i * 2 ^ (c + 1) + brev (c + 1) (2 * F + 1)) * h (i * k * 2 ^ (12 - s) + k * 2 ^ (11 - s))) (2 ^ s) = C at *
  have e : A - B - (A + -C) = C - B := by ext <;> simp <;> grind
  rw [e]; exact a
end

/-! all rounds -/
/-- The error after s rounds, for numbers of at most 1. -/
def G : Nat → Rat
  | 0 => 0
  | s + 1 => 5 / 2 * G s + 2 ^ s / 281474976710656
theorem G_le : ∀ s, s < 13 → G s ≤ 2 ^ s / 4 := by decide +kernel
/-- What the transforms ask of a table. -/
structure Tab (h : Nat → Q2) (m : Nat) (w : List Cx) : Prop where
  len : w.length = 2 ^ m
  at_ : ∀ k, k < 2 ^ m → ∃ a, w[k]? = some a ∧ Ok a ∧ bq (cv a - h (k * 2 ^ (12 - m))) tau
/-- After s rounds. -/
structure Inv (h X : Nat → Q2) (M : Rat) (m s : Nat) (y : List Cx) : Prop where
  len : y.length = 2 ^ m
  at_ : ∀ F k, F < 2 ^ (m - s) → k < 2 ^ s → ∃ a, y[F * 2 ^ s + k]? = some a ∧ Ok a ∧ bq (cv a - R h X (m - s) s F k) (M * G s)
/-- What a round does at each place. -/
def Desc (w y : List Cx) (m s : Nat) (r : List Cx) : Prop := ∀ F k, F < 2 ^ (m - (s + 1)) → k < 2 ^ s → ∃ a e o p d, w[k * 2 ^ (m - (s + 1))]? = some a ∧ y[F * 2 ^ (s + 1) + k]? = some e ∧ y[F * 2 ^ (s + 1) + k + 2 ^ s]? = some o ∧ bt a e o = some (p, d) ∧ r[F * 2 ^ (s + 1) + k]? = some p ∧ r[F * 2 ^ (s + 1) + k + 2 ^ s]? = some d
theorem ar1 {M g t : Rat} (h : M * g ≤ M * (t / 4)) : M * g ≤ t * M / 4 := by grind
theorem ar3 {M g t : Rat} : M * (5 / 2 * g + t / 281474976710656) = 5 / 2 * (M * g) + t * M / 281474976710656 := by grind
theorem ar2 {E t M e : Rat} (h : 10 * e * (t * M) ≤ 1 / 4503599627370496 * (t * M)) (hQ : 0 < t * M) : 5 / 2 * E + 11 / 2 * (t * M) / 2251799813685248 + t * (10 * e * M) ≤ 5 / 2 * E + t * M / 281474976710656 := by grind
theorem inv_next {h X : Nat → Q2} (ch : Ch h) {M : Rat} {P : Nat} (hP : P ≤ 500) (hM : M = 2 ^ P) (hX : ∀ j, bq (X j) M) {m s : Nat} (hm : m ≤ 12) (hs : s < m) {w y : List Cx} (tw : Tab h m w) (iy : Inv h X M m s y) :
    ∃ r, bfF w (2 ^ m) (2 ^ (s + 1)) y (2 ^ m / 2 ^ (s + 1)) = some r ∧ Inv h X M m (s + 1) r ∧ Desc w y m s r := by
  obtain ⟨c, rfl⟩ : ∃ c, m = c + 1 + s := ⟨m - s - 1, by omega⟩
  have hc1 : c + 1 + s - s = c + 1 := by omega
  have hc0 : c + 1 + s - (s + 1) = c := by omega
  have hq : 2 ^ (c + 1 + s) = 2 ^ c * 2 ^ (s + 1) := by rw [← Nat.pow_add]; congr 1; omega
  have hdiv : 2 ^ (c + 1 + s) / 2 ^ (s + 1) = 2 ^ c := by rw [hq]; exact Nat.mul_div_cancel _ (Nat.two_pow_pos _)
  have hS : 2 ^ (s + 1) = 2 * 2 ^ s := by rw [Nat.pow_succ, Nat.mul_comm]
  have hM0 : 0 < M := by rw [hM]; exact pow_pos2 P
  have hQ : (2 : Rat) ^ s * M = 2 ^ (s + P) := by
    rw [hM, ← cast_pow, ← cast_pow, ← cast_pow, ← Rat.natCast_mul, ← Nat.pow_add]
  have hG := G_le s (by omega)
  have hps := pow_pos2 s
  have hg2 : M * G s ≤ 2 ^ s * M / 4 := by
    exact ar1 (Rat.mul_le_mul_of_nonneg_left hG (Rat.le_of_lt hM0))
  have hG1 : M * G (s + 1) = 5 / 2 * (M * G s) + 2 ^ s * M / 281474976710656 := ar3
  have he := tau_eta
  obtain ⟨r, e, hl, hr⟩ := round_get (w := w) (y := y) (n := 2 ^ (c + 1 + s)) (S := 2 ^ (s + 1)) (H := 2 ^ s) (q := 2 ^ c)
    (Pr := fun F k p d => (∃ a e o, w[k * 2 ^ c]? = some a ∧ y[F * 2 ^ (s + 1) + k]? = some e ∧ y[F * 2 ^ (s + 1) + k + 2 ^ s]? = some o ∧ bt a e o = some (p, d)) ∧ Ok p ∧ Ok d ∧ bq (cv p - R h X c (s + 1) F k) (M * G (s + 1)) ∧ bq (cv d - R h X c (s + 1) F (k + 2 ^ s)) (M * G (s + 1))) hS hq iy.len (fun F k hF hk => by
      have hp := Nat.two_pow_pos c
      have hk1 : k * 2 ^ c < 2 ^ (c + 1 + s) := by
        rw [show c + 1 + s = s + c + 1 by omega, Nat.pow_succ, Nat.pow_add]
        have := Nat.mul_lt_mul_of_pos_right hk hp
        omega
      obtain ⟨a, ha, oa, ba⟩ := tw.at_ (k * 2 ^ c) hk1
      have e12 : k * 2 ^ c * 2 ^ (12 - (c + 1 + s)) = k * 2 ^ (11 - s) := by
        rw [Nat.mul_assoc, ← Nat.pow_add]; congr 2; omega
      rw [e12] at ba
      have hF2 : 2 * F + 1 < 2 ^ (c + 1) := by rw [Nat.pow_succ]; omega
      obtain ⟨x, hx, ox, bx⟩ := iy.at_ (2 * F) k (by rw [hc1]; omega) hk
      obtain ⟨o, ho, oo, bo⟩ := iy.at_ (2 * F + 1) k (by rw [hc1]; omega) hk
      rw [hc1] at bx bo
      have p1 : 2 * F * 2 ^ s + k = F * 2 ^ (s + 1) + k := by rw [hS, Nat.mul_comm 2 F, Nat.mul_assoc]
      have p2 : (2 * F + 1) * 2 ^ s + k = F * 2 ^ (s + 1) + k + 2 ^ s := by rw [hS, Nat.add_mul, Nat.mul_comm 2 F, Nat.mul_assoc]; omega
      rw [p1] at hx
      rw [p2] at ho
      obtain ⟨p, d, h1, h2, h3, h4, h5⟩ := bt_err (Q := 2 ^ s * M) (s + P) (by omega) hQ oa ox oo ba (ch.unit _) bx bo hg2 (R_bd ch hX _ _ _ _) (R_bd ch hX _ _ _ _)
      refine ⟨a, x, o, p, d, by rw [hdiv]; exact ha, hx, ho, h1, ⟨a, x, o, ha, hx, ho, h1⟩, h2, h3, ?_, ?_⟩
      · refine (h4.tri (R_low ch hX c s F k (by omega))).mono ?_
        rw [hG1]
        exact ar2 (Rat.mul_le_mul_of_nonneg_right (by decide +kernel) (Rat.le_of_lt (Rat.mul_pos hps hM0))) (Rat.mul_pos hps hM0)
      · refine (h5.tri (R_high ch hX c s F k (by omega))).mono ?_
        rw [hG1]
        exact ar2 (Rat.mul_le_mul_of_nonneg_right (by decide +kernel) (Rat.le_of_lt (Rat.mul_pos hps hM0))) (Rat.mul_pos hps hM0))
  refine ⟨r, by rw [hdiv]; exact e, ⟨hl, fun F k hF hk => ?_⟩, fun F k hF hk => ?_⟩
  · rw [hc0] at hF ⊢
    by_cases hk2 : k < 2 ^ s
    · obtain ⟨p, d, g1, g2, _, g3, g4, g5, g6⟩ := hr F k hF hk2
      exact ⟨p, g1, g3, g5⟩
    · obtain ⟨p, d, g1, g2, _, g3, g4, g5, g6⟩ := hr F (k - 2 ^ s) hF (by omega)
      rw [show k - 2 ^ s + 2 ^ s = k by omega] at g6
      rw [show F * 2 ^ (s + 1) + (k - 2 ^ s) + 2 ^ s = F * 2 ^ (s + 1) + k by omega] at g2
      exact ⟨d, g2, g4, g6⟩
  · rw [hc0] at hF ⊢
    obtain ⟨p, d, g1, g2, ⟨a, e, o, k1, k2, k3, k4⟩, _⟩ := hr F k hF hk
    exact ⟨a, e, o, p, d, k1, k2, k3, k4, g1, g2⟩
/-- The transform lies near the sums that define it; what each round keeps holds at the end. -/
theorem wave_ext {h X : Nat → Q2} (ch : Ch h) {P : Nat} (hP : P ≤ 500) {m : Nat} (hm : m ≤ 12) {w x : List Cx} (tw : Tab h m w) (hxl : x.length = 2 ^ m)
    (hx : ∀ (j : Nat) (a : Cx), x[j]? = some a → Ok a ∧ cv a = X j) (hX : ∀ j, bq (X j) (2 ^ P)) (Ext : Nat → List Cx → Prop) (h0 : Ext 0 (trn m x)) (hs : ∀ s, s < m → ∀ y r, Ext s y → Desc w y m s r → Ext (s + 1) r) :
    ∃ r, waveC m w x = some r ∧ r.length = 2 ^ m ∧ Ext m r ∧ ∀ k, k < 2 ^ m → ∃ a, r[k]? = some a ∧ Ok a ∧ bq (cv a - qsum (fun i => X i * h (i * k * 2 ^ (12 - m))) (2 ^ m)) (2 ^ P * G m) := by
  have go : ∀ s, s ≤ m → ∃ r, bfS w (2 ^ m) (trn m x) s = some r ∧ Inv h X (2 ^ P) m s r ∧ Ext s r := by
    intro s
    induction s with
    | zero =>
      intro _
      refine ⟨trn m x, rfl, ⟨trnTo_len _ _ _, fun F k hF hk => ?_⟩, h0⟩
      have hk0 : k = 0 := by omega
      subst hk0
      rw [Nat.sub_zero] at hF
      have hlt : brev m F < x.length := by rw [hxl]; exact brev_lt _ _
      obtain ⟨o1, o2⟩ := hx (brev m F) x[brev m F] (List.getElem?_eq_getElem hlt)
      refine ⟨x[brev m F], ?_, o1, ?_⟩
      · rw [Nat.pow_zero, Nat.mul_one, Nat.add_zero, trn_get hF, List.getD_eq_getElem?_getD, List.getElem?_eq_getElem hlt]; rfl
      · rw [o2]
        have e : R h X (m - 0) 0 F 0 = X (brev m F) := by
          unfold R
          show q0 + X (0 * 2 ^ m + brev m F) * h (0 * 0 * 2 ^ (12 - 0)) = _
          rw [Qc.zero_add, Nat.zero_mul, Nat.zero_mul, ch.zero, Nat.zero_add, Qc.mul_one]
        rw [e]
        have e2 : X (brev m F) - X (brev m F) = q0 := by ext <;> simp <;> grind
        rw [e2]
        unfold G
        rw [Rat.mul_zero]
        exact bq.zero
    | succ s ih =>
      intro hsm
      obtain ⟨r, e, i, x1⟩ := ih (by omega)
      obtain ⟨r2, e2, i2, d2⟩ := inv_next ch hP rfl hX hm (by omega) tw i
      exact ⟨r2, by unfold bfS; rw [e, Option.bind_some, e2], i2, hs s (by omega) r r2 x1 d2⟩
  obtain ⟨r, e, i, x1⟩ := go m (Nat.le_refl _)
  refine ⟨r, e, i.len, x1, fun k hk => ?_⟩
  obtain ⟨a, h1, h2, h3⟩ := i.at_ 0 k (Nat.two_pow_pos _) hk
  rw [Nat.zero_mul, Nat.zero_add] at h1
  refine ⟨a, h1, h2, ?_⟩
  have e : R h X (m - m) m 0 k = qsum (fun i => X i * h (i * k * 2 ^ (12 - m))) (2 ^ m) := by
    unfold R
    refine qsum_congr fun i _ => ?_
    rw [Nat.sub_self, Nat.pow_zero, Nat.mul_one]; rfl
  rw [e] at h3
  exact h3
theorem wave_err {h X : Nat → Q2} (ch : Ch h) {P : Nat} (hP : P ≤ 500) {m : Nat} (hm : m ≤ 12) {w x : List Cx} (tw : Tab h m w) (hxl : x.length = 2 ^ m)
    (hx : ∀ (j : Nat) (a : Cx), x[j]? = some a → Ok a ∧ cv a = X j) (hX : ∀ j, bq (X j) (2 ^ P)) :
    ∃ r, waveC m w x = some r ∧ r.length = 2 ^ m ∧ ∀ k, k < 2 ^ m → ∃ a, r[k]? = some a ∧ Ok a ∧ bq (cv a - qsum (fun i => X i * h (i * k * 2 ^ (12 - m))) (2 ^ m)) (2 ^ P * G m) := by
  obtain ⟨r, h1, h2, _, h3⟩ := wave_ext ch hP hm tw hxl hx hX (fun _ _ => True) trivial (fun _ _ _ _ _ _ => trivial)
  exact ⟨r, h1, h2, h3⟩
end Go.Cyc
end
section
/- There and back: whole numbers come back from the transform, nearly. Nothing of the program. -/
set_option linter.unusedVariables false
set_option maxRecDepth 100000
namespace Go.Cyc
open Go.Flt Go.Qc Go.Wav Go.Pen

/-- The way back but for the scaling. -/
def backT (m : Nat) (x : List Cx) : Option (List Cx) := (tabC m).bind fun w => waveC m w x
theorem conj_cv {a : Cx} (h : Ok a) : Ok (plainC (conjC a)) ∧ cv (plainC (conjC a)) = bar (cv a) := by
  refine ⟨⟨?_, wf_plain (wf_conj h.w)⟩, ?_⟩
  · unfold fin2
    rw [Bool.and_eq_true]
    refine ⟨?_, ?_⟩
    · show finB (plainF a.1) = true
      rw [fin_plain]; exact h.f1
    · show finB (plainF (flipF a.2)) = true
      rw [fin_plain]
      have := fin_flip (y := a.2)
      unfold flipN at this
      unfold flipF
      rw [this]; exact h.f2
  · rw [cv_plain]
    unfold conjC cv
    have : rv (flipF a.2) = - rv a.2 := rv_flip h.w.2
    ext
    · simp
    · simp [this]
theorem tab_there {m : Nat} (hm : m ≤ 12) {l : List Cx} (hl : tabC m = some l) : Tab (fun j => bar (h j)) m (conjs l) := by
  obtain ⟨h1, h2⟩ := tab_near hm hl
  refine ⟨by unfold conjs; rw [List.length_map, h1], fun k hk => ?_⟩
  obtain ⟨a, g1, g2, g3, g4⟩ := h2 k hk
  have hc := conj_cv ⟨g2, g3⟩
  refine ⟨plainC (conjC a), by unfold conjs; rw [List.getElem?_map, g1]; rfl, hc.1, ?_⟩
  rw [hc.2]
  have := g4.bar
  have e : bar (cv a - h (k * 2 ^ (12 - m))) = bar (cv a) - bar (h (k * 2 ^ (12 - m))) := by ext <;> simp <;> grind
  rwa [e] at this
theorem tab_back {m : Nat} (hm : m ≤ 12) {l : List Cx} (hl : tabC m = some l) : Tab h m l := by
  obtain ⟨h1, h2⟩ := tab_near hm hl
  refine ⟨h1, fun k hk => ?_⟩
  obtain ⟨a, g1, g2, g3, g4⟩ := h2 k hk
  exact ⟨a, g1, ⟨g2, g3⟩, g4⟩
/-- The sums of the transform, and of the way back but for the scaling. -/
def Fw (X : Nat → Q2) (m k : Nat) : Q2 := qsum (fun i => X i * bar (h (i * k * 2 ^ (12 - m)))) (2 ^ m)
def Bk (Y : Nat → Q2) (m k : Nat) : Q2 := qsum (fun i => Y i * h (i * k * 2 ^ (12 - m))) (2 ^ m)
/-- A list of numbers that are X. -/
structure Is (x : List Cx) (m : Nat) (X : Nat → Q2) : Prop where
  len : x.length = 2 ^ m
  at_ : ∀ (j : Nat) (a : Cx), x[j]? = some a → Ok a ∧ cv a = X j
/-- A list of numbers that are near to X. -/
structure Near (x : List Cx) (m : Nat) (X : Nat → Q2) (E : Rat) : Prop where
  len : x.length = 2 ^ m
  at_ : ∀ k, k < 2 ^ m → ∃ a, x[k]? = some a ∧ Ok a ∧ bq (cv a - X k) E
theorem Near.is {x : List Cx} {m : Nat} {X : Nat → Q2} {E : Rat} (n : Near x m X E) : Is x m fun j => cv (x.getD j (0, 0)) :=
  ⟨n.len, fun j a h => by
    have hj : j < x.length := (List.getElem?_eq_some_iff.1 h).1
    obtain ⟨b, h1, h2, _⟩ := n.at_ j (by rw [← n.len]; exact hj)
    rw [h] at h1
    obtain rfl := Option.some.inj h1
    refine ⟨h2, ?_⟩
    show _ = cv (x.getD j (0, 0))
    rw [List.getD_eq_getElem?_getD, h]; rfl⟩
theorem zero_cv : cv (0, 0) = q0 := by
  unfold cv
  ext
  · show rv 0 = 0
    decide +kernel
  · show rv 0 = 0
    decide +kernel
theorem Near.bd {x : List Cx} {m : Nat} {X : Nat → Q2} {E B : Rat} (n : Near x m X E) (hX : ∀ j, j < 2 ^ m → bq (X j) B) (hB : 0 ≤ E + B) (j : Nat) : bq (cv (x.getD j (0, 0))) (E + B) := by
  by_cases hj : j < 2 ^ m
  · obtain ⟨b, h1, h2, h3⟩ := n.at_ j hj
    rw [List.getD_eq_getElem?_getD, h1]
    exact h3.of (hX j hj)
  · rw [List.getD_eq_getElem?_getD, List.getElem?_eq_none (by rw [n.len]; omega)]
    show bq (cv (0, 0)) _
    rw [zero_cv]
    exact bq.zero.mono hB
theorem forward_err {X : Nat → Q2} {P : Nat} (hP : P ≤ 500) {m : Nat} (hm : m ≤ 12) {x : List Cx} (hx : Is x m X) (hX : ∀ j, bq (X j) (2 ^ P)) :
    ∃ r, forwardC m x = some r ∧ Near r m (Fw X m) (2 ^ P * G m) := by
  obtain ⟨l, hl⟩ := tab_ex hm
  obtain ⟨r, h1, h2, h3⟩ := wave_err (h_ch.bar) hP hm (tab_there hm hl) hx.len hx.at_ hX
  exact ⟨r, by unfold forwardC; rw [hl, Option.bind_some, h1], h2, h3⟩
theorem back_err {X : Nat → Q2} {P : Nat} (hP : P ≤ 500) {m : Nat} (hm : m ≤ 12) {x : List Cx} (hx : Is x m X) (hX : ∀ j, bq (X j) (2 ^ P)) :
    ∃ r, backT m x = some r ∧ Near r m (Bk X m) (2 ^ P * G m) := by
  obtain ⟨l, hl⟩ := tab_ex hm
  obtain ⟨r, h1, h2, h3⟩ := wave_err h_ch hP hm (tab_back hm hl) hx.len hx.at_ hX
  exact ⟨r, by unfold backT; rw [hl, Option.bind_some, h1], h2, h3⟩

/-! the two ways, exactly -/
theorem sum_bd {X : Nat → Q2} {g : Nat → Q2} (hg : ∀ j, nsq (g j) ≤ 1) {m : Nat} {B : Rat} (hX : ∀ j, j < 2 ^ m → bq (X j) B) : bq (qsum (fun i => X i * g i) (2 ^ m)) (3 / 2 * (2 ^ m * B)) := by
  have := qsum_bd (f := fun i => X i * g i) (n := 2 ^ m) (B := 3 / 2 * B) (fun i hi => bq_mul' (unit_n1 (hg i)) (hX i hi))
  rw [cast_pow] at this
  exact this.mono (by generalize (2 : Rat) ^ m = q; grind)
theorem Fw_bd {X : Nat → Q2} {m k : Nat} {B : Rat} (hX : ∀ j, j < 2 ^ m → bq (X j) B) : bq (Fw X m k) (3 / 2 * (2 ^ m * B)) := sum_bd (g := fun i => bar (h (i * k * 2 ^ (12 - m)))) (fun j => (h_ch.bar).unit _) hX
theorem Bk_bd {X : Nat → Q2} {m k : Nat} {B : Rat} (hX : ∀ j, j < 2 ^ m → bq (X j) B) : bq (Bk X m k) (3 / 2 * (2 ^ m * B)) := sum_bd (g := fun i => h (i * k * 2 ^ (12 - m))) (fun j => h_ch.unit _) hX
theorem Bk_sub {X Y : Nat → Q2} {m k : Nat} : Bk X m k - Bk Y m k = Bk (fun i => X i - Y i) m k := by
  unfold Bk
  rw [← qsum_sub]
  refine qsum_congr fun i _ => ?_
  ext <;> simp <;> grind
theorem Fw_sub {X Y : Nat → Q2} {m k : Nat} : Fw X m k - Fw Y m k = Fw (fun i => X i - Y i) m k := by
  unfold Fw
  rw [← qsum_sub]
  refine qsum_congr fun i _ => ?_
  ext <;> simp <;> grind
theorem qsum_ones : ∀ n : Nat, qsum (fun _ => q1) n = ⟨(n : Rat), 0⟩
  | 0 => rfl
  | n + 1 => by
    unfold qsum
    rw [qsum_ones n]
    ext
    · simp
    · simp; grind
theorem not_dvd_of {N i j : Nat} (hi : i < N) (hj : j < N) (hne : j ≠ i) : ¬ N ∣ i + N - j := by
  rintro ⟨t, ht⟩
  rcases (by omega : t = 0 ∨ t = 1 ∨ 2 ≤ t) with rfl | rfl | h2
  · omega
  · omega
  · have := Nat.mul_le_mul_left N h2
    omega
/-- Two lines of roots are almost at right angles. -/
theorem cross {m i j : Nat} (hm : m ≤ 12) (hi : i < 2 ^ m) (hj : j < 2 ^ m) : bq (qsum (fun k => bar (h (j * k * 2 ^ (12 - m))) * h (k * i * 2 ^ (12 - m))) (2 ^ m) - (if j = i then ⟨2 ^ m, 0⟩ else q0)) (2 ^ m * (15 * eta)) := by
  have hs : 2 ^ m * 2 ^ (12 - m) = 4096 := by rw [← Nat.pow_add, show m + (12 - m) = 12 by omega]
  have e1 : (if j = i then (⟨2 ^ m, 0⟩ : Q2) else q0) = qsum (fun k => h ((i + 2 ^ m - j) * k * 2 ^ (12 - m))) (2 ^ m) := by
    by_cases hji : j = i
    · subst hji
      rw [if_pos rfl]
      have : qsum (fun k => h ((j + 2 ^ m - j) * k * 2 ^ (12 - m))) (2 ^ m) = qsum (fun _ => q1) (2 ^ m) := by
        refine qsum_congr fun k _ => ?_
        rw [show (j + 2 ^ m - j) * k * 2 ^ (12 - m) = 0 + 4096 * k by rw [Nat.add_sub_cancel_left, Nat.mul_right_comm, hs, Nat.zero_add], h_ch.pers, h_ch.zero]
      rw [this, qsum_ones, cast_pow]
    · rw [if_neg hji, round_zero h_ch m hm _ (not_dvd_of hi hj hji)]
  rw [e1, ← qsum_sub]
  have := qsum_bd (f := fun k => bar (h (j * k * 2 ^ (12 - m))) * h (k * i * 2 ^ (12 - m)) - h ((i + 2 ^ m - j) * k * 2 ^ (12 - m))) (n := 2 ^ m) (B := 15 * eta) (fun k _ => ?_)
  · rwa [cast_pow] at this
  · have e2 : h (k * i * 2 ^ (12 - m)) = h ((i + 2 ^ m) * k * 2 ^ (12 - m)) := by
      rw [Nat.add_mul, Nat.add_mul, Nat.mul_right_comm (2 ^ m), hs, h_ch.pers, Nat.mul_comm i k]
    have hle : j * k * 2 ^ (12 - m) ≤ (i + 2 ^ m) * k * 2 ^ (12 - m) := Nat.mul_le_mul_right _ (Nat.mul_le_mul_right _ (by omega))
    have e3 : (i + 2 ^ m - j) * k * 2 ^ (12 - m) = (i + 2 ^ m) * k * 2 ^ (12 - m) - j * k * 2 ^ (12 - m) := by rw [Nat.sub_mul, Nat.sub_mul]
    rw [e2, e3]
    exact h_inv hle
theorem back_there {X : Nat → Q2} {m i : Nat} {B : Rat} (hm : m ≤ 12) (hi : i < 2 ^ m) (hX : ∀ j, j < 2 ^ m → bq (X j) B) : bq (Bk (Fw X m) m i - sc (2 ^ m) (X i)) (2 ^ m * (2 ^ m * (30 * eta) * B)) := by
  have e1 : Bk (Fw X m) m i = qsum (fun j => X j * qsum (fun k => bar (h (j * k * 2 ^ (12 - m))) * h (k * i * 2 ^ (12 - m))) (2 ^ m)) (2 ^ m) := by
    unfold Bk Fw
    rw [qsum_congr (g := fun k => qsum (fun j => X j * bar (h (j * k * 2 ^ (12 - m))) * h (k * i * 2 ^ (12 - m))) (2 ^ m)) (fun k _ => (qsum_mul' _ _ _).symm), qsum_exch]
    refine qsum_congr fun j _ => ?_
    rw [← qsum_mul]
    exact qsum_congr fun k _ => mul_assoc _ _ _
  have e2 : sc (2 ^ m) (X i) = qsum (fun j => X j * (if j = i then ⟨2 ^ m, 0⟩ else q0)) (2 ^ m) := by
    rw [qsum_one (j := i) hi (fun j _ hne => by rw [if_neg hne, Qc.mul_zero]), if_pos rfl]
    ext <;> simp <;> grind
  rw [e1, e2, ← qsum_sub]
  have := qsum_bd (f := fun j => X j * qsum (fun k => bar (h (j * k * 2 ^ (12 - m))) * h (k * i * 2 ^ (12 - m))) (2 ^ m) - X j * (if j = i then ⟨2 ^ m, 0⟩ else q0)) (n := 2 ^ m) (B := 2 ^ m * (30 * eta) * B) (fun j hj => ?_)
  · rwa [cast_pow] at this
  · have a := bq_mul' (n1.of (cross hm hi hj)) (hX j hj)
    generalize qsum (fun k => bar (h (j * k * 2 ^ (12 - m))) * h (k * i * 2 ^ (12 - m))) (2 ^ m) = T at *
    generalize (if j = i then (⟨2 ^ m, 0⟩ : Q2) else q0) = D at *
    have e : X j * (T - D) = X j * T - X j * D := by ext <;> simp <;> grind
    rw [e] at a
    refine a.mono ?_
    generalize (2 : Rat) ^ m = q
    grind
/-- What comes back from what came near to the transform. -/
theorem there_back {X Y : Nat → Q2} {m P : Nat} {z : List Cx} (hm : m ≤ 12) (hX : ∀ j, j < 2 ^ m → bq (X j) (2 ^ P)) (hY : ∀ k, k < 2 ^ m → bq (Y k - Fw X m k) (2 ^ P * G m)) (hz : Near z m (Bk Y m) (2 ^ (P + m + 1) * G m)) :
    ∀ i, i < 2 ^ m → ∃ a, z[i]? = some a ∧ Ok a ∧ bq (cv a - sc (2 ^ m) (X i)) (2 ^ m * (2 ^ P * (7 / 2 * G m + 2 ^ m * (30 * eta)))) := by
  intro i hi
  obtain ⟨a, h1, h2, h3⟩ := hz.at_ i hi
  refine ⟨a, h1, h2, ?_⟩
  have b1 : bq (Bk Y m i - Bk (Fw X m) m i) (3 / 2 * (2 ^ m * (2 ^ P * G m))) := by
    rw [Bk_sub]; exact Bk_bd hY
  have b2 := back_there hm hi hX
  have := (h3.tri b1).tri b2
  refine this.mono ?_
  rw [Rat.pow_succ, ← cast_pow (P + m), Nat.pow_add, Rat.natCast_mul, cast_pow, cast_pow]
  generalize (2 : Rat) ^ m = q
  generalize (2 : Rat) ^ P = p
  grind
theorem G_nn : ∀ s, s < 13 → 0 ≤ G s ∧ G s ≤ 1 / 1073741824 := by decide +kernel
/-- The transform's numbers are no greater than the sums, and a bit. -/
theorem Fw_size {X Y : Nat → Q2} {m P k : Nat} (hm : m ≤ 12) (hX : ∀ j, j < 2 ^ m → bq (X j) (2 ^ P)) (hY : bq (Y k - Fw X m k) (2 ^ P * G m)) : bq (Y k) (2 ^ (P + m + 1)) := by
  have h1 := hY.of (Fw_bd (k := k) hX)
  refine h1.mono ?_
  obtain ⟨g1, g2⟩ := G_nn m (by omega)
  rw [Rat.pow_succ, ← cast_pow (P + m), Nat.pow_add, Rat.natCast_mul, cast_pow, cast_pow]
  have hp := pow_pos2 P
  have hq : 1 ≤ (2 : Rat) ^ m := by
    rw [← cast_pow]
    have : ((1 : Nat) : Rat) ≤ ((2 ^ m : Nat) : Rat) := Rat.natCast_le_natCast.2 (Nat.two_pow_pos m)
    exact this
  generalize (2 : Rat) ^ m = q at *
  generalize (2 : Rat) ^ P = p at *
  have e1 := Rat.mul_le_mul_of_nonneg_left g2 (Rat.le_of_lt hp)
  have e2 := Rat.mul_le_mul_of_nonneg_left hq (Rat.le_of_lt hp)
  grind
end Go.Cyc
end
section
/- The transform by its definition, in plain numbers; whole numbers there and back. Nothing of the program. -/
set_option linter.unusedVariables false
set_option maxRecDepth 100000
set_option exponentiation.threshold 3000
namespace Go.Cyc
open Go.Flt Go.Qc Go.Wav Go.Pen

/-- The sum for one place, over the first j numbers. -/
def dirTo (w x : List Cx) (n k : Nat) : Nat → Option Cx
  | 0 => some (0, 0)
  | j + 1 => (dirTo w x n k j).bind fun s => (x[j]?).bind fun a => (w[j * k % n]?).bind fun r => (mulC a r).bind fun t => addC s t
/-- The first i places. -/
def dirL (w x : List Cx) (n : Nat) : Nat → Option (List Cx)
  | 0 => some []
  | i + 1 => (dirL w x n i).bind fun l => (dirTo w x n i n).bind fun s => some (l ++ [s])
def directC (m : Nat) (x : List Cx) : Option (List Cx) := (tabC m).bind fun w => dirL (conjs w) x (2 ^ m) (2 ^ m)
theorem dirTo_err {X : Nat → Q2} {m : Nat} (hm : m ≤ 8) {w x : List Cx} (tw : Tab (fun j => bar (h j)) m w) (hx : Is x m X) (hX : ∀ j, bq (X j) (2 ^ 20)) {k : Nat} :
    ∀ j, j ≤ 2 ^ m → ∃ s, dirTo w x (2 ^ m) k j = some s ∧ Ok s ∧ bq (cv s - qsum (fun i => X i * bar (h (i * k * 2 ^ (12 - m)))) j) (j * (1 / 8388608))
  | 0, _ => ⟨(0, 0), rfl, ⟨by decide, by decide, by decide⟩, by
      rw [zero_cv]
      have e : q0 - qsum (fun i => X i * bar (h (i * k * 2 ^ (12 - m)))) 0 = q0 := by ext <;> simp [qsum] <;> grind
      rw [e]
      exact bq.zero.mono (by rw [show ((0 : Nat) : Rat) = 0 from rfl, Rat.zero_mul]; exact Rat.le_refl)⟩
  | j + 1, hj => by
    obtain ⟨s, e, os, bs⟩ := dirTo_err hm tw hx hX (k := k) j (by omega)
    have hlt : j < x.length := by rw [hx.len]; omega
    obtain ⟨oa, ca⟩ := hx.at_ j x[j] (List.getElem?_eq_getElem hlt)
    obtain ⟨r, hr, orr, br⟩ := tw.at_ (j * k % 2 ^ m) (Nat.mod_lt _ (Nat.two_pow_pos m))
    have hs : 2 ^ m * 2 ^ (12 - m) = 4096 := by rw [← Nat.pow_add, show m + (12 - m) = 12 by omega]
    have hper : h (j * k % 2 ^ m * 2 ^ (12 - m)) = h (j * k * 2 ^ (12 - m)) := by
      have := Nat.div_add_mod (j * k) (2 ^ m)
      rw [← h_ch.pers (j * k % 2 ^ m * 2 ^ (12 - m)) (j * k / 2 ^ m)]
      congr 1
      generalize j * k / 2 ^ m = q at *
      generalize j * k % 2 ^ m = t at *
      rw [← this, Nat.add_mul, Nat.mul_right_comm, hs]; omega
    have br' : bq (cv r - bar (h (j * k * 2 ^ (12 - m)))) tau := by rw [← hper]; exact br
    clear br
    have hu := (h_ch.bar).unit (j * k * 2 ^ (12 - m))
    have hu' : nsq (bar (h (j * k * 2 ^ (12 - m)))) ≤ 1 := hu
    have et : tau = 1 / 2251799813685248 := rfl
    have p20 : (2 : Rat) ^ 20 = 1048576 := by decide +kernel
    have p21 : (2 : Rat) ^ 21 = 2097152 := by decide +kernel
    have p30 : (2 : Rat) ^ 30 = 1073741824 := by decide +kernel
    have ba : bq (cv x[j]) 1048576 := by rw [ca, ← p20]; exact hX j
    have cr : bq (cv r) (1 + tau) := (br'.of (unit_bq hu')).mono (by grind)
    obtain ⟨t, e1, ot, bt⟩ := mulC_err 21 (by decide) oa orr ba cr (by rw [p21, et]; decide +kernel)
    have u21 : ulp 21 = 1 / 8589934592 := by unfold ulp; rw [p21]; decide +kernel
    have u30 : ulp 30 = 1 / 16777216 := by unfold ulp; rw [p30]; decide +kernel
    rw [u21] at bt
    have b2 : bq (cv x[j] * cv r - X j * bar (h (j * k * 2 ^ (12 - m)))) (2 * tau * 1048576) := by
      have x1 := bq_mul' (n1.of br') ba
      rw [ca] at x1 ⊢
      have e : X j * (cv r - bar (h (j * k * 2 ^ (12 - m)))) = X j * cv r - X j * bar (h (j * k * 2 ^ (12 - m))) := by
        generalize bar (h (j * k * 2 ^ (12 - m))) = y
        ext <;> simp <;> grind
      rw [e] at x1
      exact x1.mono (by grind)
    have b3 : bq (cv t - X j * bar (h (j * k * 2 ^ (12 - m)))) (1 / 536870912) := (bt.tri b2).mono (by rw [et]; grind)
    have hjn : ((j : Nat) : Rat) ≤ 255 := by
      have hm8 : 2 ^ m ≤ 256 := Nat.le_trans (Nat.pow_le_pow_right (by decide) hm) (by decide)
      have : ((j : Nat) : Rat) ≤ ((255 : Nat) : Rat) := Rat.natCast_le_natCast.2 (by omega)
      exact this
    have hj0 : 0 ≤ ((j : Nat) : Rat) := Rat.natCast_nonneg
    have sumb : bq (qsum (fun i => X i * bar (h (i * k * 2 ^ (12 - m)))) j) (j * (3 / 2 * 1048576)) := by
      refine qsum_bd fun i _ => ?_
      rw [← p20]
      exact bq_mul' (unit_n1 ((h_ch.bar).unit (i * k * 2 ^ (12 - m)))) (hX i)
    have cs := bs.of sumb
    have ct := b3.of (bq_mul' (unit_n1 hu') (by rw [← p20]; exact hX j : bq (X j) 1048576))
    obtain ⟨z, e2, oz, bz⟩ := addC_err 30 (by decide) os ot (cs.add ct) (by rw [p30]; grind)
    rw [u30] at bz
    refine ⟨z, ?_, oz, ?_⟩
    · unfold dirTo
      rw [e, Option.bind_some, List.getElem?_eq_getElem hlt, Option.bind_some, hr, Option.bind_some, e1, Option.bind_some, e2]
    · have b4 := bz.add (bs.add b3)
      show bq (cv z - (qsum (fun i => X i * bar (h (i * k * 2 ^ (12 - m)))) j + X j * bar (h (j * k * 2 ^ (12 - m))))) _
      have e : cv z - (cv s + cv t) + (cv s - qsum (fun i => X i * bar (h (i * k * 2 ^ (12 - m)))) j + (cv t - X j * bar (h (j * k * 2 ^ (12 - m))))) = cv z - (qsum (fun i => X i * bar (h (i * k * 2 ^ (12 - m)))) j + X j * bar (h (j * k * 2 ^ (12 - m)))) := by
        generalize bar (h (j * k * 2 ^ (12 - m))) = y
        generalize qsum (fun i => X i * bar (h (i * k * 2 ^ (12 - m)))) j = q
        ext <;> simp <;> grind
      rw [e] at b4
      refine b4.mono ?_
      rw [Rat.natCast_add, show ((1 : Nat) : Rat) = 1 from rfl]
      grind
theorem direct_err {X : Nat → Q2} {m : Nat} (hm : m ≤ 8) {x : List Cx} (hx : Is x m X) (hX : ∀ j, bq (X j) (2 ^ 20)) :
    ∃ r, directC m x = some r ∧ Near r m (Fw X m) (1 / 32768) := by
  obtain ⟨l, hl⟩ := tab_ex (m := m) (by omega)
  have tw := tab_there (by omega) hl
  have hs := fun k => dirTo_err hm tw hx hX (k := k) (2 ^ m) (Nat.le_refl _)
  have go : ∀ i, i ≤ 2 ^ m → ∃ r, dirL (conjs l) x (2 ^ m) i = some r ∧ r.length = i ∧ ∀ k, k < i → ∃ a, r[k]? = some a ∧ Ok a ∧ bq (cv a - Fw X m k) (1 / 32768) := by
    intro i
    induction i with
    | zero => intro _; exact ⟨[], rfl, rfl, fun k hk => absurd hk (by omega)⟩
    | succ i ih =>
      intro hi
      obtain ⟨r, e, hl, hr⟩ := ih (by omega)
      obtain ⟨s, e1, os, bs⟩ := hs i
      refine ⟨r ++ [s], by unfold dirL; rw [e, Option.bind_some, e1, Option.bind_some], by simp [hl], fun k hk => ?_⟩
      by_cases hki : k < i
      · rw [List.getElem?_append_left (by omega)]; exact hr k hki
      · obtain rfl : k = i := by omega
        refine ⟨s, by rw [List.getElem?_append_right (by omega), hl, Nat.sub_self]; rfl, os, bs.mono ?_⟩
        have hm8 : 2 ^ m ≤ 256 := Nat.le_trans (Nat.pow_le_pow_right (by decide) hm) (by decide)
        have : ((2 ^ m : Nat) : Rat) ≤ ((256 : Nat) : Rat) := Rat.natCast_le_natCast.2 hm8
        have e3 : ((256 : Nat) : Rat) = 256 := rfl
        rw [e3] at this
        grind
  obtain ⟨r, e, h1, h2⟩ := go _ (Nat.le_refl _)
  exact ⟨r, by unfold directC; rw [hl, Option.bind_some, e], h1, h2⟩

/-! whole numbers there and back -/
/-- A list of whole numbers. -/
structure Wh (x : List Cx) (m : Nat) (U : Nat → Int × Int) : Prop where
  len : x.length = 2 ^ m
  at_ : ∀ (j : Nat) (a : Cx), x[j]? = some a → cls a (U j)
def uq (u : Int × Int) : Q2 := ⟨(u.1 : Rat), (u.2 : Rat)⟩
theorem cls_ok {a : Cx} {u : Int × Int} (ha : cls a u) (h1 : u.1.natAbs < 9007199254740992) (h2 : u.2.natAbs < 9007199254740992) : Ok a ∧ cv a = uq u := by
  obtain ⟨a1, a2, a3⟩ := isI_rv h1 ha.1
  obtain ⟨b1, b2, b3⟩ := isI_rv h2 ha.2
  refine ⟨Ok.of a1 b1 a2 b2, ?_⟩
  unfold cv uq
  rw [a3, b3]
/-- The parts are small. -/
def Sm (u : Int × Int) (B : Nat) : Prop := u.1.natAbs ≤ B ∧ u.2.natAbs ≤ B
theorem int_bd {z : Int} {B : Nat} (h : z.natAbs ≤ B) : bd (z : Rat) (B : Rat) := by
  constructor
  · have : ((-(B : Int) : Int) : Rat) ≤ (z : Rat) := Rat.intCast_le_intCast.2 (by omega)
    rwa [Rat.intCast_neg, Rat.intCast_natCast] at this
  · have : (z : Rat) ≤ ((B : Int) : Rat) := Rat.intCast_le_intCast.2 (by omega)
    rwa [Rat.intCast_natCast] at this
theorem uq_bd {u : Int × Int} {B : Nat} (h : Sm u B) : bq (uq u) (B : Rat) := ⟨int_bd h.1, int_bd h.2⟩
theorem Wh.is {x : List Cx} {m : Nat} {U : Nat → Int × Int} (hw : Wh x m U) {B : Nat} (hB : B < 9007199254740992) (hU : ∀ j, Sm (U j) B) : Is x m fun j => uq (U j) :=
  ⟨hw.len, fun j a hj => by
    have := hU j
    exact cls_ok (hw.at_ j a hj) (by have := this.1; omega) (by have := this.2; omega)⟩
theorem div_cancel' {a q : Rat} (hq : q ≠ 0) : a / q * q = a := Rat.div_mul_cancel hq
/-- Scaled down. -/
theorem scl_err {m k : Nat} (hm : m ≤ 12) (hk : k ≤ 900) {a : Cx} (ha : Ok a) {V : Q2} {E B : Rat} (hE : bq (cv a - sc (2 ^ m) V) (2 ^ m * E)) (hV : bq V B) (hB : B + E < 2 ^ k) :
    Ok (ldx m a.1, ldx m a.2) ∧ bq (cv (ldx m a.1, ldx m a.2) - V) (E + (ulp k + 1 / 2251799813685248)) := by
  have hq : 0 < (2 : Rat) ^ m := pow_pos2 m
  have key : ∀ (p : Nat) (v : Rat), finB p = true → p < 18446744073709551616 → bd (rv p - 2 ^ m * v) (2 ^ m * E) → bd v B → finB (ldx m p) = true ∧ ldx m p < 18446744073709551616 ∧ bd (rv (ldx m p) - v) (E + (ulp k + 1 / 2251799813685248)) := by
    intro p v f w b bv
    have e : rv p / 2 ^ m * 2 ^ m = rv p := Rat.div_mul_cancel (Rat.ne_of_gt hq)
    have b1 : bd (rv p / 2 ^ m - v) E := by
      constructor
      · refine scaled_le hq ?_
        have := b.1
        generalize rv p / 2 ^ m = y at *
        grind
      · refine scaled_le hq ?_
        have := b.2
        generalize rv p / 2 ^ m = y at *
        grind
    obtain ⟨x, y, z⟩ := ldx_err hm hk w f (B := B + E) (by
      constructor
      · have := b1.1; have := bv.1; grind
      · have := b1.2; have := bv.2; grind) hB
    refine ⟨x, y, ?_⟩
    constructor
    · have := z.1; have := b1.1; grind
    · have := z.2; have := b1.2; grind
  obtain ⟨x1, x2, x3⟩ := key a.1 V.re ha.f1 ha.w.1 hE.r hV.r
  obtain ⟨y1, y2, y3⟩ := key a.2 V.im ha.f2 ha.w.2 hE.i hV.i
  exact ⟨Ok.of x1 y1 x2 y2, x3, y3⟩
def sclL (m : Nat) (l : List Cx) : List Cx := l.map fun a => (ldx m a.1, ldx m a.2)
/-- Rounded to whole numbers, noughts without a sign. -/
def whC (a : Cx) : Cx := plainC (rte a.1, rte a.2)
theorem P74_ne : P74 ≠ 0 := Int.ne_of_gt (Int.pow_pos (by decide))
theorem plain_isI {p : Nat} {z : Int} (hb : z.natAbs < 9007199254740992) (hp : isI p z) : isI (plainF p) z := by
  unfold plainF
  split
  · rename_i h0
    have hz : z = 0 := by
      have hv := (isI_val hb hp).2.2
      rw [(isZ_fin h0).2.1] at hv
      rcases Int.mul_eq_zero.1 hv.symm with h' | h'
      · exact h'
      · exact absurd h' P74_ne
    subst hz
    exact (isI_zero rfl).2 (.inl rfl)
  · exact hp
theorem whC_near {a : Cx} {u : Int × Int} {B : Nat} (hB : B < 4503599627370496) (hu : Sm u B) (ha : Ok a) (hb : bq (cv a - uq u) (1 / 4)) : cls (whC a) u := by
  have h1 := hu.1
  have h2 := hu.2
  exact ⟨plain_isI (by omega) (rte_rv (by omega) ha.f1 hb.r), plain_isI (by omega) (rte_rv (by omega) ha.f2 hb.i)⟩
theorem E_le : ∀ m, m < 13 → 2 ^ 20 * (7 / 2 * G m + 2 ^ m * (30 * eta)) + (ulp 21 + 1 / 2251799813685248) ≤ 1 / 640 ∧ (2 : Rat) ^ 20 * (7 / 2 * G m + 2 ^ m * (30 * eta)) ≤ 1 := by decide +kernel
theorem Sm20 {u : Int × Int} (h : Sm u 1048576) : bq (uq u) (2 ^ 20) := by
  have := uq_bd h
  have e : ((1048576 : Nat) : Rat) = 2 ^ 20 := by decide +kernel
  rwa [e] at this
/-- What is known of whole numbers that go there and back. -/
theorem whole_back {m : Nat} (hm : m ≤ 12) {x : List Cx} {U : Nat → Int × Int} (hw : Wh x m U) (hU : ∀ j, Sm (U j) 1048576) :
    ∃ y z, forwardC m x = some y ∧ y.length = 2 ^ m ∧ backT m y = some z ∧ z.length = 2 ^ m ∧ (∀ (i : Nat) (a : Cx), y[i]? = some a → Ok a) ∧ (∀ (i : Nat) (a : Cx), z[i]? = some a → Ok a) ∧
      Near y m (Fw (fun j => uq (U j)) m) (2 ^ 20 * G m) ∧ Near (sclL m z) m (fun j => uq (U j)) (1 / 640) := by
  have hX : ∀ j, bq (uq (U j)) (2 ^ 20) := fun j => Sm20 (hU j)
  obtain ⟨y, hy, ny⟩ := forward_err (P := 20) (by decide) hm (hw.is (by decide) hU) hX
  have hY : ∀ k, k < 2 ^ m → bq (cv (y.getD k (0, 0)) - Fw (fun j => uq (U j)) m k) (2 ^ 20 * G m) := by
    intro k hk
    obtain ⟨a, h1, h2, h3⟩ := ny.at_ k hk
    rw [List.getD_eq_getElem?_getD, h1]; exact h3
  have hYb : ∀ j, bq (cv (y.getD j (0, 0))) (2 ^ (20 + m + 1)) := by
    intro j
    by_cases hj : j < 2 ^ m
    · exact Fw_size (Y := fun j => cv (y.getD j (0, 0))) hm (fun j _ => hX j) (hY j hj)
    · rw [List.getD_eq_getElem?_getD, List.getElem?_eq_none (by rw [ny.len]; omega)]
      show bq (cv (0, 0)) _
      rw [zero_cv]
      exact bq.zero.mono (Rat.le_of_lt (pow_pos2 _))
  obtain ⟨z, hz, nz⟩ := back_err (P := 20 + m + 1) (by omega) hm ny.is hYb
  have tb := there_back (P := 20) hm (fun j _ => hX j) hY nz
  obtain ⟨e1, e2⟩ := E_le m (by omega)
  refine ⟨y, z, hy, ny.len, hz, nz.len, fun i a h => (ny.is.at_ i a h).1, fun i a h => (nz.is.at_ i a h).1, ny, by unfold sclL; rw [List.length_map, nz.len], fun i hi => ?_⟩
  obtain ⟨a, h1, h2, h3⟩ := tb i hi
  obtain ⟨s1, s2⟩ := scl_err (k := 21) hm (by decide) h2 h3 (hX i) (by
    have : (2 : Rat) ^ 21 = 2 ^ 20 + 2 ^ 20 := by decide +kernel
    rw [this]
    have : (1 : Rat) < 2 ^ 20 := by decide +kernel
    grind)
  exact ⟨_, by unfold sclL; rw [List.getElem?_map, h1]; rfl, s1, s2.mono e1⟩
end Go.Cyc
end
