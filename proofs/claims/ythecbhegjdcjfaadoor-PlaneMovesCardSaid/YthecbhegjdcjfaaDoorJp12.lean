/- Texts joined: PenL, WavP, WavA, WavB, WavC, WavQ. -/
import Derived.Test.YthecbhegjdcjfaaDoorJp11
import Derived.Laws.ComplexArith
section
/- The pen's rules, more: complex numbers, signs of floats, whole numbers made floats, shifts. -/
set_option linter.unusedVariables false
set_option linter.unusedSimpArgs false
namespace Go.Pen
section
variable {P : Program} {n : Nat} {B : World} {I : List Nat} {Γ : List (Nat × Obj)} {ρ : Env} {ops : Array Oper} {md : Bool} {K : List (Nat × Obj) → Env → Prop}
  {d : Nat} {ty : TypeId} {pos : String} {af : Array Edge} {t t' e : TypeId} {x y : Operand} {k k' : IntKind}

theorem OP.csum {op : BinOp} {a b c e re im : Nat} (hop : op = .add ∨ op = .sub) (hd : Nat.blt d n = true) (hx : ev ρ x = .complex .f64 a b) (hy : ev ρ y = .complex .f64 c e) (hr : cSumBits op .f64 a b c e = some (re, im)) (h : K Γ (upd ρ d (.complex .f64 re im))) :
    OP P n B I Γ md ops ⟨some d, .binOp op t x y t', ty, pos, af, none⟩ K ρ :=
  OP.pure1 _ hd (fun w _ => by
    have h1 := eqGuard_cx (P := P) op t x y a b c e w
    have h2 := run_complex_sum (P := P) w op hop t .f64 a b c e re im hr
    simp only [execOp, hx, hy, Sem.run_bind, h1, h2, Result.andThen_ok, Sem.run_pure]) h
theorem OP.fneg {a : Nat} (hd : Nat.blt d n = true) (hx : ev ρ x = .float .f64 a) (h : K Γ (upd ρ d (.float .f64 (a ^^^ 9223372036854775808)))) :
    OP P n B I Γ md ops ⟨some d, .unOp .neg t x, ty, pos, af, none⟩ K ρ :=
  OP.pure1 _ hd (fun w _ => by simp only [execOp, hx]; rfl) h
theorem OP.convIF {s : TypeId} {a : Int} {r : Nat} [hs : TInt P s k] (ht : P.underlying t = some (.float .f64)) (hd : Nat.blt d n = true) (hx : ev ρ x = .int k a) (hr : Ieee.double.write (.number (a < 0) a.natAbs 0) = r) (h : K Γ (upd ρ d (.float .f64 r))) :
    OP P n B I Γ md ops ⟨some d, .convert s t x, ty, pos, af, none⟩ K ρ :=
  OP.pure1 _ hd (fun w _ => by
    have e : (convert s t (.int k a)).run P w = .ok (.float .f64 r) w := by
      subst hr
      simp [convert, run_underlying hs.out, run_underlying ht, Conv.intToFloat]
      rfl
    simp only [execOp, hx, Sem.run_bind, e, Result.andThen_ok, Sem.run_pure]) h
theorem OP.quoR {a b r : Int} (hb : b ≠ 0) (hr : k.wrap (a.tdiv b) = r) (hd : Nat.blt d n = true) (hx : ev ρ x = .int k a) (hy : ev ρ y = .int k b) (h : K Γ (upd ρ d (.int k r))) :
    OP P n B I Γ md ops ⟨some d, .binOp .quo t x y t', ty, pos, af, none⟩ K ρ := OP.quot hd hx hy hb (by rw [hr]; exact h)
theorem OP.remR {a b r : Int} (hb : b ≠ 0) (hr : a.tmod b = r) (hd : Nat.blt d n = true) (hx : ev ρ x = .int k a) (hy : ev ρ y = .int k b) (h : K Γ (upd ρ d (.int k r))) :
    OP P n B I Γ md ops ⟨some d, .binOp .rem t x y t', ty, pos, af, none⟩ K ρ := OP.remt hd hx hy hb (by rw [hr]; exact h)
theorem quo_nat {a b c : Nat} (hc : a / b = c) (ha : a ≤ 9223372036854775807) : IntKind.i64.wrap ((a : Int).tdiv (b : Int)) = (c : Int) := by
  have h1 : a / b ≤ a := Nat.div_le_self a b
  rw [Int.tdiv_eq_ediv_of_nonneg (by omega), ← Int.natCast_ediv, hc]
  exact Fits.mem _ (by omega) (by omega)
theorem rem_nat {a b c : Nat} (hc : a % b = c) : (a : Int).tmod (b : Int) = (c : Int) := by
  rw [Int.tmod_eq_emod_of_nonneg (by omega), ← Int.natCast_emod, hc]
theorem run_shr (a : Int) (c : Nat) (hc : c ≤ k.bits) (w : World) : (binOp .shr t (.int k a) (.int k' (c : Int))).run P w = .ok (.int k (a.fdiv (2 ^ c))) w := by
  have : ¬ ((c : Int) < 0) := by omega
  simp only [binOp, Op.shift, if_neg this, Int.toNat_natCast, Nat.min_eq_left hc]
  rfl
theorem OP.shrN {a c : Nat} {cc : Int} (hcc : cc = (c : Int)) (hd : Nat.blt d n = true) (hx : ev ρ x = .int k (a : Int)) (hy : ev ρ y = .int k' cc) (hc : c ≤ k.bits) (h : K Γ (upd ρ d (.int k ((a / 2 ^ c : Nat) : Int)))) :
    OP P n B I Γ md ops ⟨some d, .binOp .shr t x y t', ty, pos, af, none⟩ K ρ := by
  subst hcc
  refine OP.pure1 _ hd (fun w _ => ?_) h
  have h1 := eqGuard_int (P := P) .shr t x y k k' (a : Int) (c : Int) w
  have h2 := run_shr (P := P) (t := t) (k := k) (k' := k') (a : Int) c hc w
  have e : (a : Int).fdiv (2 ^ c) = ((a / 2 ^ c : Nat) : Int) := by
    rw [Int.fdiv_eq_ediv_of_nonneg _ (by exact Int.le_of_lt (Int.pow_pos (by decide)))]
    rw [show ((2 : Int) ^ c) = ((2 ^ c : Nat) : Int) by rw [Int.natCast_pow]; rfl, ← Int.natCast_ediv]
  rw [e] at h2
  simp only [execOp, hx, hy, Sem.run_bind, h1, h2, Result.andThen_ok, Sem.run_pure]
theorem run_shl (a : Int) (c : Nat) (hc : c ≤ k.bits) (w : World) : (binOp .shl t (.int k a) (.int k' (c : Int))).run P w = .ok (.int k (k.wrap (a * 2 ^ c))) w := by
  have : ¬ ((c : Int) < 0) := by omega
  simp only [binOp, Op.shift, if_neg this, Int.toNat_natCast, Nat.min_eq_left hc]
  rfl
theorem OP.shlI {a cc r : Int} {c : Nat} (hcc : cc = (c : Int)) (hd : Nat.blt d n = true) (hx : ev ρ x = .int k a) (hy : ev ρ y = .int k' cc) (hc : c ≤ k.bits) (hr : k.wrap (a * 2 ^ c) = r) (h : K Γ (upd ρ d (.int k r))) :
    OP P n B I Γ md ops ⟨some d, .binOp .shl t x y t', ty, pos, af, none⟩ K ρ := by
  subst hcc
  refine OP.pure1 _ hd (fun w _ => ?_) h
  have h1 := eqGuard_int (P := P) .shl t x y k k' a (c : Int) w
  have h2 := run_shl (P := P) (t := t) (k := k) (k' := k') a c hc w
  rw [hr] at h2
  simp only [execOp, hx, hy, Sem.run_bind, h1, h2, Result.andThen_ok, Sem.run_pure]
theorem sqrt_run {P : Program} {x r : Nat} (h : Ieee.double.sqrt x = some r) (w : World) : (Go.Extern.MathSqrt.sqrt #[.float .f64 x]).run P w = .ok (.float .f64 r) w := by
  have e : FloatKind.f64.format.sqrt x = some r := h
  have key : Go.Extern.MathSqrt.sqrt #[.float .f64 x] = Go.Extern.MathSqrt.sqrt.match_1 (motive := fun _ => Sem Value) (FloatKind.f64.format.sqrt x) (fun r => pure (.float .f64 r)) (fun _ => _) := rfl
  rw [key, e]; rfl
end

/-! ## A row of complex numbers -/
abbrev Cx := Nat × Nat
def cxs (l : List Cx) : List Value := l.map fun c => .complex .f64 c.1 c.2
theorem cxs_len (l : List Cx) : (cxs l).length = l.length := by simp [cxs]
theorem cxs_at {l : List Cx} {sp : List Value} {i : Nat} {v : Cx} (h : l[i]? = some v) : (cxs l ++ sp).toArray[0 + i * 1]? = some (.complex .f64 v.1 v.2) := by
  have hi : i < l.length := (List.getElem?_eq_some_iff.1 h).1
  rw [List.getElem?_toArray, Nat.zero_add, Nat.mul_one, List.getElem?_append_left (by rw [cxs_len]; exact hi)]
  simp [cxs, h]
theorem cxs_set (l : List Cx) (sp : List Value) (i : Nat) (v : Cx) (h : i < l.length) : setN (cxs l ++ sp).toArray (0 + i * 1) [.complex .f64 v.1 v.2] = (cxs (l.set i v) ++ sp).toArray := by
  apply Array.ext'
  simp only [setN, Nat.zero_add, Nat.mul_one, Array.toList_setIfInBounds]
  rw [List.set_append_left _ _ (by rw [cxs_len]; exact h)]
  simp [cxs]
theorem cxs_size {l : List Cx} {sp : List Value} {i : Nat} (h : i < l.length) : Nat.ble (0 + i * 1 + 1) (cxs l ++ sp).toArray.size = true := by
  rw [Nat.ble_eq]; simp [cxs_len]; omega
theorem cxs_one (l : List Cx) : ∀ u ∈ cxs l, u.oneCell' = true := fun u hu => by
  unfold cxs at hu
  rw [List.mem_map] at hu
  obtain ⟨i, _, rfl⟩ := hu; rfl
/-- Complex numbers, read at one place. -/
structure RdC (w : World) (b o : Nat) (l : List Cx) : Prop where
  c : ∀ (i : Nat) (v : Cx), l[i]? = some v → w.cell? ⟨b, o + i * 1, none⟩ = some (.complex .f64 v.1 v.2)
theorem RdC.over {w w' : World} {b o : Nat} {l : List Cx} {Γ : List (Nat × Obj)} {I : List Nat} (h : RdC w b o l) (hw : St w I Γ w') (hb : b ∉ I) : RdC w' b o l := ⟨fun i v hi => hw.old (h.c i v hi) hb⟩
theorem RdC.see {w : World} {b o : Nat} {l : List Cx} (h : RdC w b o l) {i : Nat} {v : Cx} (hi : l[i]? = some v) (Γ : List (Nat × Obj)) : Sees w [] Γ b (o + i * 1) (.complex .f64 v.1 v.2) := Sees.old0 (h.c i v hi)
theorem RdC.own {w B : World} {I : List Nat} {Γ : List (Nat × Obj)} {b : Nat} {l : List Cx} {sp : List Value} {T : TypeId} (hw : St B I Γ w) (hm : (b, .cells (cxs l ++ sp).toArray T (0, 0)) ∈ Γ) : RdC w b 0 l := ⟨fun i v hi => cell_of (hw.has _ hm) (cxs_at hi)⟩
theorem cxs_append (l l' : List Cx) : cxs (l ++ l') = cxs l ++ cxs l' := by simp [cxs]
end Go.Pen
end
section
/- Layers 1 to 3 in plain numbers: a float is its bits, a complex number two of them. Nothing of the program. -/
set_option linter.unusedVariables false
set_option maxRecDepth 100000
namespace Go.Wav
open Go.Flt Go.Pen

/-- The sign turned. -/
def flipF (p : Nat) : Nat := p ^^^ 9223372036854775808
/-- A nought without its sign. -/
def plainF (p : Nat) : Nat := if p = 0 ∨ p = 9223372036854775808 then 0 else p
def plainC (a : Cx) : Cx := (plainF a.1, plainF a.2)
def conjC (a : Cx) : Cx := (a.1, flipF a.2)
/-- Times i. -/
def turnC (a : Cx) : Cx := (flipF a.2, a.1)
def addC (a b : Cx) : Option Cx := cSumBits .add .f64 a.1 a.2 b.1 b.2
def subC (a b : Cx) : Option Cx := cSumBits .sub .f64 a.1 a.2 b.1 b.2
def mulC (a b : Cx) : Option Cx :=
  (Ieee.double.mul a.1 b.1).bind fun pu => (Ieee.double.mul a.2 b.2).bind fun qv => (Ieee.double.sub pu qv).bind fun re =>
  (Ieee.double.mul a.1 b.2).bind fun pv => (Ieee.double.mul a.2 b.1).bind fun qu => (Ieee.double.add pv qu).bind fun im => some (re, im)
theorem mulC_some {a b r : Cx} (h : mulC a b = some r) : ∃ pu qv pv qu, Ieee.double.mul a.1 b.1 = some pu ∧ Ieee.double.mul a.2 b.2 = some qv ∧ Ieee.double.sub pu qv = some r.1 ∧ Ieee.double.mul a.1 b.2 = some pv ∧ Ieee.double.mul a.2 b.1 = some qu ∧ Ieee.double.add pv qu = some r.2 := by
  unfold mulC at h
  simp only [Option.bind_eq_some_iff, Option.some.injEq] at h
  obtain ⟨pu, h1, qv, h2, re, h3, pv, h4, qu, h5, im, h6, rfl⟩ := h
  exact ⟨pu, qv, pv, qu, h1, h2, h3, h4, h5, h6⟩

def one : Nat := 4607182418800017408
def half : Nat := 4602678819172646912
def two : Nat := 4611686018427387904
/-- The step of order 8 * 2 ^ k. -/
def stepC : Nat → Option Cx
  | 0 => (Ieee.double.sqrt half).bind fun c => some (c, c)
  | k + 1 => (stepC k).bind fun h => (Ieee.double.add one h.1).bind fun a => (Ieee.double.mul half a).bind fun b => (Ieee.double.sqrt b).bind fun c => (Ieee.double.mul two c).bind fun e => (Ieee.double.div h.2 e).bind fun s => some (c, s)
/-- One of each two taken from the half: the first i of them. -/
def wv (s : Cx) (h : List Cx) : Nat → Option (List Cx)
  | 0 => some []
  | i + 1 => (wv s h i).bind fun l => (h[i]?).bind fun a => if i + 1 < h.length then (mulC a s).bind fun m => some (l ++ [a, plainC m]) else some (l ++ [a])
/-- The first eighth of order 2 ^ m. -/
def eighthC : Nat → Option (List Cx)
  | 0 | 1 | 2 => some [(one, 0)]
  | 3 => (stepC 0).bind fun s => (mulC (one, 0) s).bind fun m => some [(one, 0), plainC m]
  | m + 4 => (eighthC (m + 3)).bind fun h => (stepC (m + 1)).bind fun s => wv s h h.length
def turns : Nat → Cx → Cx
  | 0, a => a
  | j + 1, a => plainC (turnC (turns j a))
def quarterC (n k : Nat) (first : List Cx) : Option Cx := if k ≤ n / 8 then first[k]? else first[n / 4 - k]?.map fun a => (a.2, a.1)
def atC (n k : Nat) (first : List Cx) : Option Cx :=
  if n < 4 then some (if k = 0 then (one, 0) else (13830554455654793216, 0)) else (quarterC n (k % (n / 4)) first).map (turns (k / (n / 4)))
def tabTo (n : Nat) (first : List Cx) : Nat → Option (List Cx)
  | 0 => some []
  | k + 1 => (tabTo n first k).bind fun l => (atC n k first).bind fun a => some (l ++ [a])
/-- The table of order 2 ^ m. -/
def tabC (m : Nat) : Option (List Cx) := (eighthC m).bind fun f => tabTo (2 ^ m) f (2 ^ m)

/-! bits stay below 2^64 -/
def Wf (a : Cx) : Prop := a.1 < 18446744073709551616 ∧ a.2 < 18446744073709551616
theorem wf_add {a b r : Cx} (h : addC a b = some r) : Wf r := by
  unfold addC cSumBits at h
  simp only [Option.bind_eq_some_iff, Option.some.injEq] at h
  obtain ⟨x, h1, y, h2, rfl⟩ := h
  exact ⟨Ieee.Format.add_lt _ h1, Ieee.Format.add_lt _ h2⟩
theorem wf_sub {a b r : Cx} (h : subC a b = some r) : Wf r := by
  unfold subC cSumBits at h
  simp only [Option.bind_eq_some_iff, Option.some.injEq] at h
  obtain ⟨x, h1, y, h2, rfl⟩ := h
  exact ⟨Ieee.Format.sub_lt _ h1, Ieee.Format.sub_lt _ h2⟩
theorem wf_mul {a b r : Cx} (h : mulC a b = some r) : Wf r := by
  obtain ⟨pu, qv, pv, qu, h1, h2, h3, h4, h5, h6⟩ := mulC_some h
  exact ⟨Ieee.Format.sub_lt _ h3, Ieee.Format.add_lt _ h6⟩
theorem flip_lt {p : Nat} (hp : p < 18446744073709551616) : flipF p < 18446744073709551616 := Nat.xor_lt_two_pow (n := 64) hp (by decide)
theorem plain_lt {p : Nat} (hp : p < 18446744073709551616) : plainF p < 18446744073709551616 := by unfold plainF; split <;> omega
theorem wf_plain {a : Cx} (h : Wf a) : Wf (plainC a) := ⟨plain_lt h.1, plain_lt h.2⟩
theorem wf_turn {a : Cx} (h : Wf a) : Wf (turnC a) := ⟨flip_lt h.2, h.1⟩
theorem wf_conj {a : Cx} (h : Wf a) : Wf (conjC a) := ⟨h.1, flip_lt h.2⟩
theorem wf_turns {a : Cx} (h : Wf a) : ∀ j, Wf (turns j a)
  | 0 => h
  | j + 1 => wf_plain (wf_turn (wf_turns h j))
theorem wf_one : Wf (one, 0) := ⟨by decide, by decide⟩
theorem wf_step : ∀ {k : Nat} {r : Cx}, stepC k = some r → Wf r
  | 0, r, h => by
    unfold stepC at h
    simp only [Option.bind_eq_some_iff, Option.some.injEq] at h
    obtain ⟨c, h1, rfl⟩ := h
    exact ⟨Ieee.Format.sqrt_lt _ h1, Ieee.Format.sqrt_lt _ h1⟩
  | k + 1, r, h => by
    unfold stepC at h
    simp only [Option.bind_eq_some_iff, Option.some.injEq] at h
    obtain ⟨g, _, a, _, b, _, c, h1, e, _, s, h2, rfl⟩ := h
    exact ⟨Ieee.Format.sqrt_lt _ h1, Ieee.Format.div_lt _ h2⟩
theorem wf_wv {s : Cx} {h : List Cx} (hh : ∀ a ∈ h, Wf a) : ∀ {i : Nat} {l : List Cx}, wv s h i = some l → ∀ a ∈ l, Wf a
  | 0, l, e, a, ha => by
    unfold wv at e
    obtain rfl : [] = l := by simpa using e
    cases ha
  | i + 1, l, e, a, ha => by
    unfold wv at e
    simp only [Option.bind_eq_some_iff] at e
    obtain ⟨l', h1, b, h2, h3⟩ := e
    have hb := hh b (List.mem_of_getElem? h2)
    split at h3
    · simp only [Option.bind_eq_some_iff, Option.some.injEq] at h3
      obtain ⟨m, h4, rfl⟩ := h3
      rcases List.mem_append.1 ha with ha | ha
      · exact wf_wv hh h1 a ha
      · rcases List.mem_cons.1 ha with rfl | ha
        · exact hb
        · rw [List.mem_singleton.1 ha]; exact wf_plain (wf_mul h4)
    · obtain rfl : l' ++ [b] = l := by simpa using h3
      rcases List.mem_append.1 ha with ha | ha
      · exact wf_wv hh h1 a ha
      · rw [List.mem_singleton.1 ha]; exact hb
theorem wf_eighth : ∀ {m : Nat} {l : List Cx}, eighthC m = some l → ∀ a ∈ l, Wf a
  | 0, l, e, a, ha => by
    obtain rfl : [(one, 0)] = l := by simpa [eighthC] using e
    rw [List.mem_singleton.1 ha]; exact wf_one
  | 1, l, e, a, ha => by
    obtain rfl : [(one, 0)] = l := by simpa [eighthC] using e
    rw [List.mem_singleton.1 ha]; exact wf_one
  | 2, l, e, a, ha => by
    obtain rfl : [(one, 0)] = l := by simpa [eighthC] using e
    rw [List.mem_singleton.1 ha]; exact wf_one
  | 3, l, e, a, ha => by
    unfold eighthC at e
    simp only [Option.bind_eq_some_iff, Option.some.injEq] at e
    obtain ⟨s, _, m, h2, rfl⟩ := e
    rcases List.mem_cons.1 ha with rfl | ha
    · exact wf_one
    · rw [List.mem_singleton.1 ha]; exact wf_plain (wf_mul h2)
  | m + 4, l, e, a, ha => by
    unfold eighthC at e
    simp only [Option.bind_eq_some_iff] at e
    obtain ⟨h, h1, s, h2, h3⟩ := e
    exact wf_wv (wf_eighth h1) h3 a ha
theorem wf_at {n k : Nat} {first : List Cx} (hf : ∀ a ∈ first, Wf a) {r : Cx} (h : atC n k first = some r) : Wf r := by
  unfold atC at h
  split at h
  · simp only [Option.some.injEq] at h
    subst h
    split
    · exact wf_one
    · exact ⟨by decide, by decide⟩
  · rw [Option.map_eq_some_iff] at h
    obtain ⟨a, h1, rfl⟩ := h
    refine wf_turns ?_ _
    unfold quarterC at h1
    split at h1
    · exact hf a (List.mem_of_getElem? h1)
    · rw [Option.map_eq_some_iff] at h1
      obtain ⟨b, h2, rfl⟩ := h1
      have := hf b (List.mem_of_getElem? h2)
      exact ⟨this.2, this.1⟩
end Go.Wav
end
section
/- Layers 1 and 2: complex numbers by their parts, walked. %compact -/
set_option linter.unusedVariables false
set_option maxRecDepth 100000
namespace Go.Proofs.YthecbhegjdcjfaaDoor
open Go.Pen Go.Flt Go.Wav

theorem bits_frombits (x : Nat) (w : World) : (callFunc 36 #[.int .u64 x]).run Tryd.prog w = .ok (.value (.float .f64 x)) w := by kernel_rfl
theorem bits_bits (x : Nat) (w : World) : (callFunc 37 #[.float .f64 x]).run Tryd.prog w = .ok (.value (.int .u64 x)) w := by kernel_rfl

def cpF (p q : Nat) : Nat := (p &&& 9223372036854775807) ||| (q &&& 9223372036854775808)
theorem cpF_lt {p q : Nat} (hp : p < 18446744073709551616) (hq : q < 18446744073709551616) : cpF p q < 18446744073709551616 :=
  Nat.or_lt_two_pow (n := 64) (Nat.and_lt_two_pow _ (by decide)) (Nat.and_lt_two_pow _ (by decide))
theorem b63 (i : Nat) : Nat.testBit 9223372036854775808 i = decide (63 = i) := Nat.testBit_two_pow (n := 63) (m := i)
theorem m63 (i : Nat) : Nat.testBit 9223372036854775807 i = decide (i < 63) := Nat.testBit_two_pow_sub_one 63 i
theorem flip_of {p : Nat} (hp : p < 18446744073709551616) : cpF p (cpF 4607182418800017408 p ^^^ 9223372036854775808) = flipF p := by
  apply Nat.eq_of_testBit_eq
  intro i
  have one63 : Nat.testBit 4607182418800017408 63 = false := by decide
  simp only [cpF, flipF, Nat.testBit_or, Nat.testBit_and, Nat.testBit_xor, b63, m63]
  rcases Nat.lt_trichotomy i 63 with h | h | h
  · have e1 : ¬ 63 = i := by omega
    simp [h, e1]
  · subst h; simp [one63]
  · have e1 : ¬ 63 = i := by omega
    have e2 : ¬ i < 63 := by omega
    have e3 : p.testBit i = false := Nat.testBit_lt_two_pow (Nat.lt_of_lt_of_le hp (Nat.pow_le_pow_right (n := 2) (by decide) (show 64 ≤ i by omega)))
    simp [e1, e2, e3]
theorem and_s (x : Nat) (h : x < 18446744073709551616) : bits .and .u64 (x : Int) 9223372036854775808 = ((x &&& 9223372036854775808 : Nat) : Int) := u64_and_nat x 9223372036854775808 h (by decide)
theorem andnot_s (x : Nat) (h : x < 18446744073709551616) : bits .andNot .u64 (x : Int) 9223372036854775808 = ((x &&& 9223372036854775807 : Nat) : Int) := u64_andNot_nat x 9223372036854775808 h (by decide)
theorem or_s (p q : Nat) : bits .or .u64 ((p &&& 9223372036854775807 : Nat) : Int) ((q &&& 9223372036854775808 : Nat) : Int) = ((cpF p q : Nat) : Int) :=
  u64_or_nat _ _ (Nat.lt_of_le_of_lt Nat.and_le_right (by decide)) (Nat.lt_of_le_of_lt Nat.and_le_right (by decide))

set_option maxHeartbeats 1000000 in
theorem Copysign_fn (p q : Nat) (hp : p < 18446744073709551616) (hq : q < 18446744073709551616) (w : World) : Does Tryd.prog 68 #[.float .f64 p, .float .f64 q] [] w fun v Γ => v = .float .f64 (cpF p q) ∧ Γ = [] := by
  refine Does.enter Tryd.func68 rfl Tryd.ntmps68 rfl (St.start w) ?_
  repeat' (first | refine Fin.tail ?_ | refine Fin.then_normal ?_ | refine Fin.then_exit ?_ | refine Fin.then_ret ?_ | refine Fin.block_normal ?_ | refine Fin.block_ret ?_ | refine Fin.block_hit ?_ | refine Fin.block_miss rfl ?_ | refine Fin.loop_exit ?_ | refine Fin.loop_ret ?_ | refine WP.seq ?_ | (refine WP.regionQ (by kernel_rfl) (by kernel_rfl) ?_) | refine WP.block ?_ | refine WP.region ?_ | refine WP.skip ?_ | refine WP.exit ?_ | refine WP.ret ?_ | refine WP.label ?_ | refine WP.cond_true rfl ?_ | refine WP.cond_false rfl ?_ | (refine WP.cond_dec rfl (fun h => ?_) (fun h => ?_) <;> (try (exfalso; omega))) | (refine WP.cond_bool rfl (fun h => ?_) (fun h => ?_)) | refine WL.nil ?_ | refine WL.cons ?_ | (show OP _ _ _ _ _ _ _ ⟨_, .move _, _, _, _, none⟩ _ _; first | refine OP.mI rfl rfl ?_ | refine OP.mB rfl rfl ?_ | refine OP.mC rfl rfl ?_ | refine OP.mF rfl rfl ?_ | refine OP.mS rfl rfl ?_ | refine OP.mP rfl rfl ?_ | refine OP.mA rfl rfl ?_ | refine OP.mT rfl rfl ?_ | refine OP.mM rfl rfl ?_ | refine OP.mU rfl rfl ?_ | refine OP.move rfl rfl ?_) | (show OP _ _ _ _ _ _ _ ⟨_, .assign _, _, _, _, none⟩ _ _; first | refine OP.aI rfl rfl ?_ | refine OP.aB rfl rfl ?_ | refine OP.aC rfl rfl ?_ | refine OP.aF rfl rfl ?_ | refine OP.aS rfl rfl ?_ | refine OP.aP rfl rfl ?_ | refine OP.aA rfl rfl ?_ | refine OP.aT rfl rfl ?_ | refine OP.aM rfl rfl ?_ | refine OP.aU rfl rfl ?_ | refine OP.assign rfl rfl ?_) | (show OP _ _ _ _ _ _ _ ⟨_, .call _, _, _, _, none⟩ _ _; first | refine OP.callx (f := 37) (.int .u64 p) rfl rfl (fun w => by exact bits_bits p w) ?_ | refine OP.callx (f := 37) (.int .u64 q) rfl rfl (fun w => by exact bits_bits q w) ?_ | refine OP.callx (f := 36) (.float .f64 (cpF p q)) rfl rfl (fun w => by exact bits_frombits _ w) ?_) | (show OP _ _ _ _ _ _ _ ⟨_, .binOp _ _ _ _ _, _, _, _, none⟩ _ _; first | refine OP.bitop (r := ((p &&& 9223372036854775807 : Nat) : Int)) (.inr (.inr (.inr rfl))) rfl rfl rfl (andnot_s p hp) ?_ | refine OP.bitop (r := ((q &&& 9223372036854775808 : Nat) : Int)) (.inl rfl) rfl rfl rfl (and_s q hq) ?_ | refine OP.bitop (r := ((cpF p q : Nat) : Int)) (.inr (.inl rfl)) rfl rfl rfl (or_s p q) ?_))
  refine Fin.ret1 (h0 := .inl rfl) rfl rfl ?_
  exact ⟨rfl, rfl⟩
theorem flipF_lt {p : Nat} (hp : p < 18446744073709551616) : flipF p < 18446744073709551616 := Nat.xor_lt_two_pow (n := 64) hp (by decide)
set_option maxHeartbeats 1000000 in
theorem flip_fn (p : Nat) (hp : p < 18446744073709551616) (w : World) : Does Tryd.prog 64 #[.float .f64 p] [] w fun v Γ => v = .float .f64 (flipF p) ∧ Γ = [] := by
  have h2 : cpF 4607182418800017408 p ^^^ 9223372036854775808 < 18446744073709551616 := Nat.xor_lt_two_pow (n := 64) (cpF_lt (by decide) hp) (by decide)
  refine Does.enter Tryd.func64 rfl Tryd.ntmps64 rfl (St.start w) ?_
  repeat' (first | refine Fin.tail ?_ | refine Fin.then_normal ?_ | refine Fin.then_exit ?_ | refine Fin.then_ret ?_ | refine Fin.block_normal ?_ | refine Fin.block_ret ?_ | refine Fin.block_hit ?_ | refine Fin.block_miss rfl ?_ | refine Fin.loop_exit ?_ | refine Fin.loop_ret ?_ | refine WP.seq ?_ | (refine WP.regionQ (by kernel_rfl) (by kernel_rfl) ?_) | refine WP.block ?_ | refine WP.region ?_ | refine WP.skip ?_ | refine WP.exit ?_ | refine WP.ret ?_ | refine WP.label ?_ | refine WP.cond_true rfl ?_ | refine WP.cond_false rfl ?_ | (refine WP.cond_dec rfl (fun h => ?_) (fun h => ?_) <;> (try (exfalso; omega))) | (refine WP.cond_bool rfl (fun h => ?_) (fun h => ?_)) | refine WL.nil ?_ | refine WL.cons ?_ | (show OP _ _ _ _ _ _ _ ⟨_, .move _, _, _, _, none⟩ _ _; first | refine OP.mI rfl rfl ?_ | refine OP.mB rfl rfl ?_ | refine OP.mC rfl rfl ?_ | refine OP.mF rfl rfl ?_ | refine OP.mS rfl rfl ?_ | refine OP.mP rfl rfl ?_ | refine OP.mA rfl rfl ?_ | refine OP.mT rfl rfl ?_ | refine OP.mM rfl rfl ?_ | refine OP.mU rfl rfl ?_ | refine OP.move rfl rfl ?_) | (show OP _ _ _ _ _ _ _ ⟨_, .assign _, _, _, _, none⟩ _ _; first | refine OP.aI rfl rfl ?_ | refine OP.aB rfl rfl ?_ | refine OP.aC rfl rfl ?_ | refine OP.aF rfl rfl ?_ | refine OP.aS rfl rfl ?_ | refine OP.aP rfl rfl ?_ | refine OP.aA rfl rfl ?_ | refine OP.aT rfl rfl ?_ | refine OP.aM rfl rfl ?_ | refine OP.aU rfl rfl ?_ | refine OP.assign rfl rfl ?_) | (show OP _ _ _ _ _ _ _ ⟨_, .call _, _, _, _, none⟩ _ _; first | refine OP.callq _ rfl (fun w _ => Copysign_fn 4607182418800017408 p (by decide) hp w) (fun _ _ h => h.1) ?_ | refine OP.callq _ rfl (fun w _ => Copysign_fn p _ hp h2 w) (fun _ _ h => h.1) ?_) | (show OP _ _ _ _ _ _ _ ⟨_, .unOp _ _ _, _, _, _, none⟩ _ _; first | refine OP.notd rfl rfl ?_ | refine OP.not rfl rfl ?_ | (refine OP.neg rfl rfl ?_ ?_ ?_; omega; omega) | refine OP.fneg rfl rfl ?_))
  refine Fin.ret1 (h0 := .inl rfl) rfl rfl ?_
  exact ⟨by rw [← flip_of hp]; rfl, rfl⟩
set_option maxHeartbeats 1000000 in
theorem Turn_fn (a : Cx) (h1 : a.1 < 18446744073709551616) (h2 : a.2 < 18446744073709551616) (w : World) : Does Tryd.prog 62 #[.complex .f64 a.1 a.2, .int .i64 1] [] w fun v Γ => v = .complex .f64 (turnC a).1 (turnC a).2 ∧ Γ = [] := by
  refine Does.enter Tryd.func62 rfl Tryd.ntmps62 rfl (St.start w) ?_
  repeat' (first | refine Fin.tail ?_ | refine Fin.then_normal ?_ | refine Fin.then_exit ?_ | refine Fin.then_ret ?_ | refine Fin.block_normal ?_ | refine Fin.block_ret ?_ | refine Fin.block_hit ?_ | refine Fin.block_miss rfl ?_ | refine Fin.loop_exit ?_ | refine Fin.loop_ret ?_ | refine WP.seq ?_ | (refine WP.regionQ (by kernel_rfl) (by kernel_rfl) ?_) | refine WP.block ?_ | refine WP.region ?_ | refine WP.skip ?_ | refine WP.exit ?_ | refine WP.ret ?_ | refine WP.label ?_ | refine WP.cond_true rfl ?_ | refine WP.cond_false rfl ?_ | (refine WP.cond_dec rfl (fun h => ?_) (fun h => ?_) <;> (try (exfalso; omega))) | (refine WP.cond_bool rfl (fun h => ?_) (fun h => ?_)) | refine WL.nil ?_ | refine WL.cons ?_ | (show OP _ _ _ _ _ _ _ ⟨_, .move _, _, _, _, none⟩ _ _; first | refine OP.mI rfl rfl ?_ | refine OP.mB rfl rfl ?_ | refine OP.mC rfl rfl ?_ | refine OP.mF rfl rfl ?_ | refine OP.mS rfl rfl ?_ | refine OP.mP rfl rfl ?_ | refine OP.mA rfl rfl ?_ | refine OP.mT rfl rfl ?_ | refine OP.mM rfl rfl ?_ | refine OP.mU rfl rfl ?_ | refine OP.move rfl rfl ?_) | (show OP _ _ _ _ _ _ _ ⟨_, .assign _, _, _, _, none⟩ _ _; first | refine OP.aI rfl rfl ?_ | refine OP.aB rfl rfl ?_ | refine OP.aC rfl rfl ?_ | refine OP.aF rfl rfl ?_ | refine OP.aS rfl rfl ?_ | refine OP.aP rfl rfl ?_ | refine OP.aA rfl rfl ?_ | refine OP.aT rfl rfl ?_ | refine OP.aM rfl rfl ?_ | refine OP.aU rfl rfl ?_ | refine OP.assign rfl rfl ?_) | (show OP _ _ _ _ _ _ _ ⟨_, .call _, _, _, _, none⟩ _ _; first | refine OP.callq _ rfl (fun w _ => flip_fn _ h2 w) (fun _ _ h => h.1) ?_ | refine OP.real rfl rfl ?_ | refine OP.imag rfl rfl ?_ | refine OP.complex rfl rfl rfl ?_) | (show OP _ _ _ _ _ _ _ ⟨_, .binOp _ _ _ _ _, _, _, _, none⟩ _ _; first | refine OP.bitop (r := 1) (.inl rfl) rfl rfl rfl (by kernel_rfl) ?_ | refine OP.eql rfl rfl rfl ?_ | refine OP.eql2 rfl rfl rfl ?_ | refine OP.eqd rfl rfl rfl ?_ | refine OP.eqlb rfl rfl rfl ?_))
  all_goals refine Fin.ret1 (h0 := .inl rfl) rfl rfl ?_
  exact ⟨rfl, rfl⟩
set_option maxHeartbeats 1000000 in
theorem Conj_fn (a : Cx) (h2 : a.2 < 18446744073709551616) (w : World) : Does Tryd.prog 51 #[.complex .f64 a.1 a.2] [] w fun v Γ => v = .complex .f64 (conjC a).1 (conjC a).2 ∧ Γ = [] := by
  refine Does.enter Tryd.func51 rfl Tryd.ntmps51 rfl (St.start w) ?_
  repeat' (first | refine Fin.tail ?_ | refine Fin.then_normal ?_ | refine Fin.then_exit ?_ | refine Fin.then_ret ?_ | refine Fin.block_normal ?_ | refine Fin.block_ret ?_ | refine Fin.block_hit ?_ | refine Fin.block_miss rfl ?_ | refine Fin.loop_exit ?_ | refine Fin.loop_ret ?_ | refine WP.seq ?_ | (refine WP.regionQ (by kernel_rfl) (by kernel_rfl) ?_) | refine WP.block ?_ | refine WP.region ?_ | refine WP.skip ?_ | refine WP.exit ?_ | refine WP.ret ?_ | refine WP.label ?_ | refine WP.cond_true rfl ?_ | refine WP.cond_false rfl ?_ | (refine WP.cond_dec rfl (fun h => ?_) (fun h => ?_) <;> (try (exfalso; omega))) | (refine WP.cond_bool rfl (fun h => ?_) (fun h => ?_)) | refine WL.nil ?_ | refine WL.cons ?_ | (show OP _ _ _ _ _ _ _ ⟨_, .move _, _, _, _, none⟩ _ _; first | refine OP.mI rfl rfl ?_ | refine OP.mB rfl rfl ?_ | refine OP.mC rfl rfl ?_ | refine OP.mF rfl rfl ?_ | refine OP.mS rfl rfl ?_ | refine OP.mP rfl rfl ?_ | refine OP.mA rfl rfl ?_ | refine OP.mT rfl rfl ?_ | refine OP.mM rfl rfl ?_ | refine OP.mU rfl rfl ?_ | refine OP.move rfl rfl ?_) | (show OP _ _ _ _ _ _ _ ⟨_, .assign _, _, _, _, none⟩ _ _; first | refine OP.aI rfl rfl ?_ | refine OP.aB rfl rfl ?_ | refine OP.aC rfl rfl ?_ | refine OP.aF rfl rfl ?_ | refine OP.aS rfl rfl ?_ | refine OP.aP rfl rfl ?_ | refine OP.aA rfl rfl ?_ | refine OP.aT rfl rfl ?_ | refine OP.aM rfl rfl ?_ | refine OP.aU rfl rfl ?_ | refine OP.assign rfl rfl ?_) | (show OP _ _ _ _ _ _ _ ⟨_, .call _, _, _, _, none⟩ _ _; first | refine OP.callq _ rfl (fun w _ => flip_fn _ h2 w) (fun _ _ h => h.1) ?_ | refine OP.real rfl rfl ?_ | refine OP.imag rfl rfl ?_ | refine OP.complex rfl rfl rfl ?_))
  refine Fin.ret1 (h0 := .inl rfl) rfl rfl ?_
  exact ⟨rfl, rfl⟩

theorem plain_yes {p : Nat} (h : p = 0 ∨ p = 9223372036854775808) : plainF p = 0 := if_pos h
theorem plain_no {p : Nat} (h : ¬ (p = 0 ∨ p = 9223372036854775808)) : plainF p = p := if_neg h
/-- Only a nought equals 0. -/
theorem order_zero_iff {p : Nat} (hp : p < 18446744073709551616) : (Ieee.double.order p 0 == some .eq) = decide (p = 0 ∨ p = 9223372036854775808) := by
  by_cases h : p = 0 ∨ p = 9223372036854775808
  · rw [decide_eq_true h]
    rcases h with rfl | rfl <;> decide
  · rw [decide_eq_false h]
    unfold Ieee.Format.order
    rw [read_zero]
    unfold Ieee.Format.read
    rw [sw, bn, ir, lp]
    dsimp only
    split
    · rename_i h1
      unfold Ieee.Datum.order
      have e0 : min (-1074 : Int) (-1074) = -1074 := by omega
      simp only [e0, Int.sub_self, Int.toNat_zero, Ieee.signed, Nat.shiftLeft_zero]
      cases hb : (p / 9223372036854775808 % 2 == 1)
      · have : p / 9223372036854775808 % 2 ≠ 1 := by simpa using hb
        simp only [Bool.false_eq_true, if_false]
        have hc : compare ((p % 9223372036854775808 : Nat) : Int) ((0 : Nat) : Int) = .gt := by rw [Int.compare_eq_gt]; omega
        rw [hc]; rfl
      · have : p / 9223372036854775808 % 2 = 1 := by simpa using hb
        simp only [if_true, Bool.false_eq_true, if_false]
        have hc : compare (-((p % 9223372036854775808 : Nat) : Int)) ((0 : Nat) : Int) = .lt := by rw [Int.compare_eq_lt]; omega
        rw [hc]; rfl
    · split
      · rename_i h1 h2
        unfold Ieee.Datum.order
        have e0 : min ((-1074 : Int) + ((p % 9223372036854775808 / 4503599627370496 - 1 : Nat) : Int)) (-1074) = -1074 := by omega
        simp only [e0, Ieee.signed, Nat.zero_shiftLeft]
        generalize hk : ((-1074 : Int) + ((p % 9223372036854775808 / 4503599627370496 - 1 : Nat) : Int) - -1074).toNat = k
        have hpos : 0 < (4503599627370496 + p % 9223372036854775808 % 4503599627370496) <<< k := by
          rw [Nat.shiftLeft_eq]; exact Nat.mul_pos (by omega) (Nat.two_pow_pos _)
        generalize (4503599627370496 + p % 9223372036854775808 % 4503599627370496) <<< k = X at hpos
        cases hb : (p / 9223372036854775808 % 2 == 1)
        · simp only [Bool.false_eq_true, if_false]
          have hc : compare (X : Int) ((0 : Nat) : Int) = .gt := by rw [Int.compare_eq_gt]; omega
          rw [hc]; rfl
        · simp only [if_true, Bool.false_eq_true, if_false]
          have hc : compare (-(X : Int)) ((0 : Nat) : Int) = .lt := by rw [Int.compare_eq_lt]; omega
          rw [hc]; rfl
      · split
        · cases (p / 9223372036854775808 % 2 == 1) <;> rfl
        · rfl

set_option maxHeartbeats 1000000 in
theorem plain1_fn (p : Nat) (hp : p < 18446744073709551616) (w : World) : Does Tryd.prog 43 #[.float .f64 p] [] w fun v Γ => v = .float .f64 (plainF p) ∧ Γ = [] := by
  have ho := order_zero_iff hp
  by_cases h : p = 0 ∨ p = 9223372036854775808
  · rw [decide_eq_true h] at ho
    rw [plain_yes h]
    refine Does.enter Tryd.func43 rfl Tryd.ntmps43 rfl (St.start w) ?_
    repeat' (first | refine Fin.tail ?_ | refine Fin.then_normal ?_ | refine Fin.then_exit ?_ | refine Fin.then_ret ?_ | refine Fin.block_normal ?_ | refine Fin.block_ret ?_ | refine Fin.block_hit ?_ | refine Fin.block_miss rfl ?_ | refine Fin.loop_exit ?_ | refine Fin.loop_ret ?_ | refine WP.seq ?_ | (refine WP.regionQ (by kernel_rfl) (by kernel_rfl) ?_) | refine WP.block ?_ | refine WP.region ?_ | refine WP.skip ?_ | refine WP.exit ?_ | refine WP.ret ?_ | refine WP.label ?_ | refine WP.cond_true rfl ?_ | refine WP.cond_false rfl ?_ | (refine WP.cond_dec rfl (fun h => ?_) (fun h => ?_) <;> (try (exfalso; omega))) | (refine WP.cond_bool rfl (fun h => ?_) (fun h => ?_)) | refine WL.nil ?_ | refine WL.cons ?_ | (show OP _ _ _ _ _ _ _ ⟨_, .move _, _, _, _, none⟩ _ _; first | refine OP.mI rfl rfl ?_ | refine OP.mB rfl rfl ?_ | refine OP.mC rfl rfl ?_ | refine OP.mF rfl rfl ?_ | refine OP.mS rfl rfl ?_ | refine OP.mP rfl rfl ?_ | refine OP.mA rfl rfl ?_ | refine OP.mT rfl rfl ?_ | refine OP.mM rfl rfl ?_ | refine OP.mU rfl rfl ?_ | refine OP.move rfl rfl ?_) | (show OP _ _ _ _ _ _ _ ⟨_, .assign _, _, _, _, none⟩ _ _; first | refine OP.aI rfl rfl ?_ | refine OP.aB rfl rfl ?_ | refine OP.aC rfl rfl ?_ | refine OP.aF rfl rfl ?_ | refine OP.aS rfl rfl ?_ | refine OP.aP rfl rfl ?_ | refine OP.aA rfl rfl ?_ | refine OP.aT rfl rfl ?_ | refine OP.aM rfl rfl ?_ | refine OP.aU rfl rfl ?_ | refine OP.assign rfl rfl ?_) | (show OP _ _ _ _ _ _ _ ⟨_, .binOp _ _ _ _ _, _, _, _, none⟩ _ _; first | refine OP.fcmpK (r := true) _ rfl rfl rfl rfl (congrArg some ho) ?_ | refine OP.eql rfl rfl rfl ?_ | refine OP.eql2 rfl rfl rfl ?_ | refine OP.eqd rfl rfl rfl ?_ | refine OP.eqlb rfl rfl rfl ?_))
    all_goals refine Fin.ret1 (h0 := .inl rfl) rfl rfl ?_
    exact ⟨rfl, rfl⟩
  · rw [decide_eq_false h] at ho
    rw [plain_no h]
    refine Does.enter Tryd.func43 rfl Tryd.ntmps43 rfl (St.start w) ?_
    repeat' (first | refine Fin.tail ?_ | refine Fin.then_normal ?_ | refine Fin.then_exit ?_ | refine Fin.then_ret ?_ | refine Fin.block_normal ?_ | refine Fin.block_ret ?_ | refine Fin.block_hit ?_ | refine Fin.block_miss rfl ?_ | refine Fin.loop_exit ?_ | refine Fin.loop_ret ?_ | refine WP.seq ?_ | (refine WP.regionQ (by kernel_rfl) (by kernel_rfl) ?_) | refine WP.block ?_ | refine WP.region ?_ | refine WP.skip ?_ | refine WP.exit ?_ | refine WP.ret ?_ | refine WP.label ?_ | refine WP.cond_true rfl ?_ | refine WP.cond_false rfl ?_ | (refine WP.cond_dec rfl (fun h => ?_) (fun h => ?_) <;> (try (exfalso; omega))) | (refine WP.cond_bool rfl (fun h => ?_) (fun h => ?_)) | refine WL.nil ?_ | refine WL.cons ?_ | (show OP _ _ _ _ _ _ _ ⟨_, .move _, _, _, _, none⟩ _ _; first | refine OP.mI rfl rfl ?_ | refine OP.mB rfl rfl ?_ | refine OP.mC rfl rfl ?_ | refine OP.mF rfl rfl ?_ | refine OP.mS rfl rfl ?_ | refine OP.mP rfl rfl ?_ | refine OP.mA rfl rfl ?_ | refine OP.mT rfl rfl ?_ | refine OP.mM rfl rfl ?_ | refine OP.mU rfl rfl ?_ | refine OP.move rfl rfl ?_) | (show OP _ _ _ _ _ _ _ ⟨_, .assign _, _, _, _, none⟩ _ _; first | refine OP.aI rfl rfl ?_ | refine OP.aB rfl rfl ?_ | refine OP.aC rfl rfl ?_ | refine OP.aF rfl rfl ?_ | refine OP.aS rfl rfl ?_ | refine OP.aP rfl rfl ?_ | refine OP.aA rfl rfl ?_ | refine OP.aT rfl rfl ?_ | refine OP.aM rfl rfl ?_ | refine OP.aU rfl rfl ?_ | refine OP.assign rfl rfl ?_) | (show OP _ _ _ _ _ _ _ ⟨_, .binOp _ _ _ _ _, _, _, _, none⟩ _ _; first | refine OP.fcmpK (r := false) _ rfl rfl rfl rfl (congrArg some ho) ?_ | refine OP.eql rfl rfl rfl ?_ | refine OP.eql2 rfl rfl rfl ?_ | refine OP.eqd rfl rfl rfl ?_ | refine OP.eqlb rfl rfl rfl ?_))
    all_goals refine Fin.ret1 (h0 := .inl rfl) rfl rfl ?_
    exact ⟨rfl, rfl⟩
set_option maxHeartbeats 1000000 in
theorem eachPlain_fn (a : Cx) (h1 : a.1 < 18446744073709551616) (h2 : a.2 < 18446744073709551616) (w : World) : Does Tryd.prog 42 #[.complex .f64 a.1 a.2, .func (.func 43) #[] #[]] [] w fun v Γ => v = .complex .f64 (plainC a).1 (plainC a).2 ∧ Γ = [] := by
  refine Does.enter Tryd.func42 rfl Tryd.ntmps42 rfl (St.start w) ?_
  repeat' (first | refine Fin.tail ?_ | refine Fin.then_normal ?_ | refine Fin.then_exit ?_ | refine Fin.then_ret ?_ | refine Fin.block_normal ?_ | refine Fin.block_ret ?_ | refine Fin.block_hit ?_ | refine Fin.block_miss rfl ?_ | refine Fin.loop_exit ?_ | refine Fin.loop_ret ?_ | refine WP.seq ?_ | (refine WP.regionQ (by kernel_rfl) (by kernel_rfl) ?_) | refine WP.block ?_ | refine WP.region ?_ | refine WP.skip ?_ | refine WP.exit ?_ | refine WP.ret ?_ | refine WP.label ?_ | refine WP.cond_true rfl ?_ | refine WP.cond_false rfl ?_ | (refine WP.cond_dec rfl (fun h => ?_) (fun h => ?_) <;> (try (exfalso; omega))) | (refine WP.cond_bool rfl (fun h => ?_) (fun h => ?_)) | refine WL.nil ?_ | refine WL.cons ?_ | (show OP _ _ _ _ _ _ _ ⟨_, .move _, _, _, _, none⟩ _ _; first | refine OP.mI rfl rfl ?_ | refine OP.mB rfl rfl ?_ | refine OP.mC rfl rfl ?_ | refine OP.mF rfl rfl ?_ | refine OP.mS rfl rfl ?_ | refine OP.mP rfl rfl ?_ | refine OP.mA rfl rfl ?_ | refine OP.mT rfl rfl ?_ | refine OP.mM rfl rfl ?_ | refine OP.mU rfl rfl ?_ | refine OP.move rfl rfl ?_) | (show OP _ _ _ _ _ _ _ ⟨_, .assign _, _, _, _, none⟩ _ _; first | refine OP.aI rfl rfl ?_ | refine OP.aB rfl rfl ?_ | refine OP.aC rfl rfl ?_ | refine OP.aF rfl rfl ?_ | refine OP.aS rfl rfl ?_ | refine OP.aP rfl rfl ?_ | refine OP.aA rfl rfl ?_ | refine OP.aT rfl rfl ?_ | refine OP.aM rfl rfl ?_ | refine OP.aU rfl rfl ?_ | refine OP.assign rfl rfl ?_) | (show OP _ _ _ _ _ _ _ ⟨_, .call _, _, _, _, none⟩ _ _; first | refine OP.callvq (f := 43) (.float .f64 (plainF a.1)) rfl rfl rfl (fun w _ => plain1_fn _ h1 w) (fun _ _ h => h.1) ?_ | refine OP.callvq (f := 43) (.float .f64 (plainF a.2)) rfl rfl rfl (fun w _ => plain1_fn _ h2 w) (fun _ _ h => h.1) ?_ | refine OP.real rfl rfl ?_ | refine OP.imag rfl rfl ?_ | refine OP.complex rfl rfl rfl ?_))
  all_goals refine Fin.ret1 (h0 := .inl rfl) rfl rfl ?_
  exact ⟨rfl, rfl⟩
set_option maxHeartbeats 1000000 in
theorem Plain_fn (a : Cx) (h1 : a.1 < 18446744073709551616) (h2 : a.2 < 18446744073709551616) (w : World) : Does Tryd.prog 25 #[.complex .f64 a.1 a.2] [] w fun v Γ => v = .complex .f64 (plainC a).1 (plainC a).2 ∧ Γ = [] := by
  refine Does.enter Tryd.func25 rfl Tryd.ntmps25 rfl (St.start w) ?_
  repeat' (first | refine Fin.tail ?_ | refine Fin.then_normal ?_ | refine Fin.then_exit ?_ | refine Fin.then_ret ?_ | refine Fin.block_normal ?_ | refine Fin.block_ret ?_ | refine Fin.block_hit ?_ | refine Fin.block_miss rfl ?_ | refine Fin.loop_exit ?_ | refine Fin.loop_ret ?_ | refine WP.seq ?_ | (refine WP.regionQ (by kernel_rfl) (by kernel_rfl) ?_) | refine WP.block ?_ | refine WP.region ?_ | refine WP.skip ?_ | refine WP.exit ?_ | refine WP.ret ?_ | refine WP.label ?_ | refine WP.cond_true rfl ?_ | refine WP.cond_false rfl ?_ | (refine WP.cond_dec rfl (fun h => ?_) (fun h => ?_) <;> (try (exfalso; omega))) | (refine WP.cond_bool rfl (fun h => ?_) (fun h => ?_)) | refine WL.nil ?_ | refine WL.cons ?_ | (show OP _ _ _ _ _ _ _ ⟨_, .move _, _, _, _, none⟩ _ _; first | refine OP.mI rfl rfl ?_ | refine OP.mB rfl rfl ?_ | refine OP.mC rfl rfl ?_ | refine OP.mF rfl rfl ?_ | refine OP.mS rfl rfl ?_ | refine OP.mP rfl rfl ?_ | refine OP.mA rfl rfl ?_ | refine OP.mT rfl rfl ?_ | refine OP.mM rfl rfl ?_ | refine OP.mU rfl rfl ?_ | refine OP.move rfl rfl ?_) | (show OP _ _ _ _ _ _ _ ⟨_, .assign _, _, _, _, none⟩ _ _; first | refine OP.aI rfl rfl ?_ | refine OP.aB rfl rfl ?_ | refine OP.aC rfl rfl ?_ | refine OP.aF rfl rfl ?_ | refine OP.aS rfl rfl ?_ | refine OP.aP rfl rfl ?_ | refine OP.aA rfl rfl ?_ | refine OP.aT rfl rfl ?_ | refine OP.aM rfl rfl ?_ | refine OP.aU rfl rfl ?_ | refine OP.assign rfl rfl ?_) | refine OP.callq _ rfl (fun w _ => eachPlain_fn a h1 h2 w) (fun _ _ h => h.1) ?_)
  all_goals refine Fin.ret1 (h0 := .inl rfl) rfl rfl ?_
  exact ⟨rfl, rfl⟩
theorem isAdd : BinOp.add = .add ∨ BinOp.add = .sub := .inl rfl
theorem isSub : BinOp.sub = .add ∨ BinOp.sub = .sub := .inr rfl
set_option maxHeartbeats 1000000 in
theorem Add_fn (a b r : Cx) (h : addC a b = some r) (w : World) : Does Tryd.prog 49 #[.complex .f64 a.1 a.2, .complex .f64 b.1 b.2] [] w fun v Γ => v = .complex .f64 r.1 r.2 ∧ Γ = [] := by
  refine Does.enter Tryd.func49 rfl Tryd.ntmps49 rfl (St.start w) ?_
  repeat' (first | refine Fin.tail ?_ | refine Fin.then_normal ?_ | refine Fin.then_exit ?_ | refine Fin.then_ret ?_ | refine Fin.block_normal ?_ | refine Fin.block_ret ?_ | refine Fin.block_hit ?_ | refine Fin.block_miss rfl ?_ | refine Fin.loop_exit ?_ | refine Fin.loop_ret ?_ | refine WP.seq ?_ | (refine WP.regionQ (by kernel_rfl) (by kernel_rfl) ?_) | refine WP.block ?_ | refine WP.region ?_ | refine WP.skip ?_ | refine WP.exit ?_ | refine WP.ret ?_ | refine WP.label ?_ | refine WP.cond_true rfl ?_ | refine WP.cond_false rfl ?_ | (refine WP.cond_dec rfl (fun h => ?_) (fun h => ?_) <;> (try (exfalso; omega))) | (refine WP.cond_bool rfl (fun h => ?_) (fun h => ?_)) | refine WL.nil ?_ | refine WL.cons ?_ | (show OP _ _ _ _ _ _ _ ⟨_, .move _, _, _, _, none⟩ _ _; first | refine OP.mI rfl rfl ?_ | refine OP.mB rfl rfl ?_ | refine OP.mC rfl rfl ?_ | refine OP.mF rfl rfl ?_ | refine OP.mS rfl rfl ?_ | refine OP.mP rfl rfl ?_ | refine OP.mA rfl rfl ?_ | refine OP.mT rfl rfl ?_ | refine OP.mM rfl rfl ?_ | refine OP.mU rfl rfl ?_ | refine OP.move rfl rfl ?_) | (show OP _ _ _ _ _ _ _ ⟨_, .assign _, _, _, _, none⟩ _ _; first | refine OP.aI rfl rfl ?_ | refine OP.aB rfl rfl ?_ | refine OP.aC rfl rfl ?_ | refine OP.aF rfl rfl ?_ | refine OP.aS rfl rfl ?_ | refine OP.aP rfl rfl ?_ | refine OP.aA rfl rfl ?_ | refine OP.aT rfl rfl ?_ | refine OP.aM rfl rfl ?_ | refine OP.aU rfl rfl ?_ | refine OP.assign rfl rfl ?_) | (show OP _ _ _ _ _ _ _ ⟨_, .binOp _ _ _ _ _, _, _, _, none⟩ _ _; first | refine OP.csum isAdd rfl rfl rfl h ?_ | (refine OP.add rfl rfl rfl ?_ ?_ ?_; omega; omega)))
  all_goals refine Fin.ret1 (h0 := .inl rfl) rfl rfl ?_
  exact ⟨rfl, rfl⟩
set_option maxHeartbeats 1000000 in
theorem Sub_fn (a b r : Cx) (h : subC a b = some r) (w : World) : Does Tryd.prog 50 #[.complex .f64 a.1 a.2, .complex .f64 b.1 b.2] [] w fun v Γ => v = .complex .f64 r.1 r.2 ∧ Γ = [] := by
  refine Does.enter Tryd.func50 rfl Tryd.ntmps50 rfl (St.start w) ?_
  repeat' (first | refine Fin.tail ?_ | refine Fin.then_normal ?_ | refine Fin.then_exit ?_ | refine Fin.then_ret ?_ | refine Fin.block_normal ?_ | refine Fin.block_ret ?_ | refine Fin.block_hit ?_ | refine Fin.block_miss rfl ?_ | refine Fin.loop_exit ?_ | refine Fin.loop_ret ?_ | refine WP.seq ?_ | (refine WP.regionQ (by kernel_rfl) (by kernel_rfl) ?_) | refine WP.block ?_ | refine WP.region ?_ | refine WP.skip ?_ | refine WP.exit ?_ | refine WP.ret ?_ | refine WP.label ?_ | refine WP.cond_true rfl ?_ | refine WP.cond_false rfl ?_ | (refine WP.cond_dec rfl (fun h => ?_) (fun h => ?_) <;> (try (exfalso; omega))) | (refine WP.cond_bool rfl (fun h => ?_) (fun h => ?_)) | refine WL.nil ?_ | refine WL.cons ?_ | (show OP _ _ _ _ _ _ _ ⟨_, .move _, _, _, _, none⟩ _ _; first | refine OP.mI rfl rfl ?_ | refine OP.mB rfl rfl ?_ | refine OP.mC rfl rfl ?_ | refine OP.mF rfl rfl ?_ | refine OP.mS rfl rfl ?_ | refine OP.mP rfl rfl ?_ | refine OP.mA rfl rfl ?_ | refine OP.mT rfl rfl ?_ | refine OP.mM rfl rfl ?_ | refine OP.mU rfl rfl ?_ | refine OP.move rfl rfl ?_) | (show OP _ _ _ _ _ _ _ ⟨_, .assign _, _, _, _, none⟩ _ _; first | refine OP.aI rfl rfl ?_ | refine OP.aB rfl rfl ?_ | refine OP.aC rfl rfl ?_ | refine OP.aF rfl rfl ?_ | refine OP.aS rfl rfl ?_ | refine OP.aP rfl rfl ?_ | refine OP.aA rfl rfl ?_ | refine OP.aT rfl rfl ?_ | refine OP.aM rfl rfl ?_ | refine OP.aU rfl rfl ?_ | refine OP.assign rfl rfl ?_) | (show OP _ _ _ _ _ _ _ ⟨_, .binOp _ _ _ _ _, _, _, _, none⟩ _ _; first | refine OP.csum isSub rfl rfl rfl h ?_ | (refine OP.sub rfl rfl rfl ?_ ?_ ?_; omega; omega)))
  all_goals refine Fin.ret1 (h0 := .inl rfl) rfl rfl ?_
  exact ⟨rfl, rfl⟩
set_option maxHeartbeats 1000000 in
theorem Mul_fn (a b r : Cx) (h : mulC a b = some r) (w : World) : Does Tryd.prog 48 #[.complex .f64 a.1 a.2, .complex .f64 b.1 b.2] [] w fun v Γ => v = .complex .f64 r.1 r.2 ∧ Γ = [] := by
  obtain ⟨pu, qv, pv, qu, h1, h2, h3, h4, h5, h6⟩ := mulC_some h
  refine Does.enter Tryd.func48 rfl Tryd.ntmps48 rfl (St.start w) ?_
  repeat' (first | refine Fin.tail ?_ | refine Fin.then_normal ?_ | refine Fin.then_exit ?_ | refine Fin.then_ret ?_ | refine Fin.block_normal ?_ | refine Fin.block_ret ?_ | refine Fin.block_hit ?_ | refine Fin.block_miss rfl ?_ | refine Fin.loop_exit ?_ | refine Fin.loop_ret ?_ | refine WP.seq ?_ | (refine WP.regionQ (by kernel_rfl) (by kernel_rfl) ?_) | refine WP.block ?_ | refine WP.region ?_ | refine WP.skip ?_ | refine WP.exit ?_ | refine WP.ret ?_ | refine WP.label ?_ | refine WP.cond_true rfl ?_ | refine WP.cond_false rfl ?_ | (refine WP.cond_dec rfl (fun h => ?_) (fun h => ?_) <;> (try (exfalso; omega))) | (refine WP.cond_bool rfl (fun h => ?_) (fun h => ?_)) | refine WL.nil ?_ | refine WL.cons ?_ | (show OP _ _ _ _ _ _ _ ⟨_, .move _, _, _, _, none⟩ _ _; first | refine OP.mI rfl rfl ?_ | refine OP.mB rfl rfl ?_ | refine OP.mC rfl rfl ?_ | refine OP.mF rfl rfl ?_ | refine OP.mS rfl rfl ?_ | refine OP.mP rfl rfl ?_ | refine OP.mA rfl rfl ?_ | refine OP.mT rfl rfl ?_ | refine OP.mM rfl rfl ?_ | refine OP.mU rfl rfl ?_ | refine OP.move rfl rfl ?_) | (show OP _ _ _ _ _ _ _ ⟨_, .assign _, _, _, _, none⟩ _ _; first | refine OP.aI rfl rfl ?_ | refine OP.aB rfl rfl ?_ | refine OP.aC rfl rfl ?_ | refine OP.aF rfl rfl ?_ | refine OP.aS rfl rfl ?_ | refine OP.aP rfl rfl ?_ | refine OP.aA rfl rfl ?_ | refine OP.aT rfl rfl ?_ | refine OP.aM rfl rfl ?_ | refine OP.aU rfl rfl ?_ | refine OP.assign rfl rfl ?_) | (show OP _ _ _ _ _ _ _ ⟨_, .call _, _, _, _, none⟩ _ _; first | refine OP.real rfl rfl ?_ | refine OP.imag rfl rfl ?_ | refine OP.complex rfl rfl rfl ?_) | (show OP _ _ _ _ _ _ _ ⟨_, .binOp _ _ _ _ _, _, _, _, none⟩ _ _; first | refine OP.farith (r := pu) rfl rfl rfl h1 ?_ | refine OP.farith (r := qv) rfl rfl rfl h2 ?_ | refine OP.farith (r := r.1) rfl rfl rfl h3 ?_ | refine OP.farith (r := pv) rfl rfl rfl h4 ?_ | refine OP.farith (r := qu) rfl rfl rfl h5 ?_ | refine OP.farith (r := r.2) rfl rfl rfl h6 ?_ | (refine OP.add rfl rfl rfl ?_ ?_ ?_; omega; omega) | (refine OP.sub rfl rfl rfl ?_ ?_ ?_; omega; omega) | (refine OP.mul rfl rfl rfl ?_ ?_ ?_; omega; omega)))
  all_goals refine Fin.ret1 (h0 := .inl rfl) rfl rfl ?_
  exact ⟨rfl, rfl⟩
end Go.Proofs.YthecbhegjdcjfaaDoor
end
section
/- Layer 2: the roots of one, walked. %compact -/
set_option linter.unusedVariables false
set_option maxRecDepth 100000
namespace Go.Proofs.YthecbhegjdcjfaaDoor
open Go.Pen Go.Flt Go.Wav

def rightB (n : Int) : Bool := decide (0 < n) && (decide (n ≤ 4096) && decide (bits .and .i64 n (n - 1) = 0))
set_option maxHeartbeats 1000000 in
theorem right_fn (n : Int) (h1 : -9223372036854775808 ≤ n) (h2 : n ≤ 9223372036854775807) (w : World) : Does Tryd.prog 44 #[.int .i64 n] [] w fun v Γ => v = .bool (rightB n) ∧ Γ = [] := by
  refine Does.enter Tryd.func44 rfl Tryd.ntmps44 rfl (St.start w) ?_
  repeat' (first | refine Fin.tail ?_ | refine Fin.then_normal ?_ | refine Fin.then_exit ?_ | refine Fin.then_ret ?_ | refine Fin.block_normal ?_ | refine Fin.block_ret ?_ | refine Fin.block_hit ?_ | refine Fin.block_miss rfl ?_ | refine Fin.loop_exit ?_ | refine Fin.loop_ret ?_ | refine WP.seq ?_ | (refine WP.regionQ (by kernel_rfl) (by kernel_rfl) ?_) | refine WP.block ?_ | refine WP.region ?_ | refine WP.skip ?_ | refine WP.exit ?_ | refine WP.ret ?_ | refine WP.label ?_ | refine WP.cond_true rfl ?_ | refine WP.cond_false rfl ?_ | (refine WP.cond_dec rfl (fun h => ?_) (fun h => ?_) <;> (try (exfalso; omega))) | (refine WP.cond_bool rfl (fun h => ?_) (fun h => ?_)) | refine WL.nil ?_ | refine WL.cons ?_ | (show OP _ _ _ _ _ _ _ ⟨_, _, _, _, _, some _⟩ _ _; first | refine OP.guard_yes rfl rfl ?_ | refine OP.guard_no rfl rfl rfl rfl ?_ | refine OP.guard_un rfl rfl rfl ?_ | refine OP.guard_no0 rfl rfl rfl ?_ | (refine OP.guard_dec rfl rfl (fun h => ?_) (fun h => ?_) <;> (try (exfalso; omega))) | refine OP.guard_bool rfl rfl (fun h => ?_) (fun h => ?_)) | (show OP _ _ _ _ _ _ _ ⟨_, .move _, _, _, _, none⟩ _ _; first | refine OP.mI rfl rfl ?_ | refine OP.mB rfl rfl ?_ | refine OP.mC rfl rfl ?_ | refine OP.mF rfl rfl ?_ | refine OP.mS rfl rfl ?_ | refine OP.mP rfl rfl ?_ | refine OP.mA rfl rfl ?_ | refine OP.mT rfl rfl ?_ | refine OP.mM rfl rfl ?_ | refine OP.mU rfl rfl ?_ | refine OP.move rfl rfl ?_) | (show OP _ _ _ _ _ _ _ ⟨_, .assign _, _, _, _, none⟩ _ _; first | refine OP.aI rfl rfl ?_ | refine OP.aB rfl rfl ?_ | refine OP.aC rfl rfl ?_ | refine OP.aF rfl rfl ?_ | refine OP.aS rfl rfl ?_ | refine OP.aP rfl rfl ?_ | refine OP.aA rfl rfl ?_ | refine OP.aT rfl rfl ?_ | refine OP.aM rfl rfl ?_ | refine OP.aU rfl rfl ?_ | refine OP.assign rfl rfl ?_) | (show OP _ _ _ _ _ _ _ ⟨_, .binOp _ _ _ _ _, _, _, _, none⟩ _ _; first | refine OP.bitop (.inl rfl) rfl rfl rfl rfl ?_ | (refine OP.sub rfl rfl rfl ?_ ?_ ?_; omega; omega) | refine OP.eql rfl rfl rfl ?_ | refine OP.gtr rfl rfl rfl ?_ | refine OP.leq rfl rfl rfl ?_ | refine OP.eql2 rfl rfl rfl ?_ | refine OP.eqd rfl rfl rfl ?_ | refine OP.eqlb rfl rfl rfl ?_) | (show OP _ _ _ _ _ _ _ ⟨_, .pick _ _ _, _, _, _, none⟩ _ _; first | refine OP.pick_true rfl rfl ?_ | refine OP.pick_false rfl rfl ?_))
  all_goals refine Fin.drop (List.nil_sublist _) ?_
  all_goals refine Fin.ret1 (h0 := .inl rfl) rfl rfl ?_
  all_goals refine ⟨?_, rfl⟩
  all_goals unfold rightB
  · rw [decide_eq_true (by assumption : 0 < n), decide_eq_true (by assumption : n ≤ 4096)]; rfl
  · rw [decide_eq_true (by assumption : 0 < n), decide_eq_false (by assumption : ¬ n ≤ 4096)]; rfl
  · rw [decide_eq_false (by assumption : ¬ 0 < n)]; rfl
theorem right_all : ((List.range 4097).all fun k => !rightB (k : Int) || [1, 2, 4, 8, 16, 32, 64, 128, 256, 512, 1024, 2048, 4096].contains k) = true := by decide +kernel
theorem right_yes : ((List.range 13).all fun m => rightB ((2 ^ m : Nat) : Int)) = true := by decide +kernel
theorem right_pow {n : Int} (h : rightB n = true) : ∃ m, m ≤ 12 ∧ n = ((2 ^ m : Nat) : Int) := by
  have h0 : 0 < n ∧ n ≤ 4096 := by
    unfold rightB at h
    simp only [Bool.and_eq_true, decide_eq_true_eq] at h
    exact ⟨h.1, h.2.1⟩
  obtain ⟨k, rfl⟩ := Int.eq_ofNat_of_zero_le (Int.le_of_lt h0.1)
  have := List.all_eq_true.1 right_all k (List.mem_range.2 (by omega))
  rw [show rightB (k : Int) = true from h] at this
  simp only [Bool.not_true, Bool.false_or, List.contains_eq_mem, List.mem_cons, List.not_mem_nil, or_false, decide_eq_true_eq] at this
  rcases this with rfl | rfl | rfl | rfl | rfl | rfl | rfl | rfl | rfl | rfl | rfl | rfl | rfl
  · exact ⟨0, by decide, rfl⟩
  · exact ⟨1, by decide, rfl⟩
  · exact ⟨2, by decide, rfl⟩
  · exact ⟨3, by decide, rfl⟩
  · exact ⟨4, by decide, rfl⟩
  · exact ⟨5, by decide, rfl⟩
  · exact ⟨6, by decide, rfl⟩
  · exact ⟨7, by decide, rfl⟩
  · exact ⟨8, by decide, rfl⟩
  · exact ⟨9, by decide, rfl⟩
  · exact ⟨10, by decide, rfl⟩
  · exact ⟨11, by decide, rfl⟩
  · exact ⟨12, by decide, rfl⟩
theorem right_of {m : Nat} (h : m ≤ 12) : rightB ((2 ^ m : Nat) : Int) = true := List.all_eq_true.1 right_yes m (List.mem_range.2 (by omega))

theorem sqrt_call {x r : Nat} (h : Ieee.double.sqrt x = some r) (w : World) : (callFunc 65 #[.float .f64 x]).run Tryd.prog w = .ok (.value (.float .f64 r)) w := by
  rw [run_callFunc_extern (e := Go.Extern.MathSqrt.sqrt) Tryd.func65 (by kernel_rfl) rfl (by kernel_rfl) (by kernel_rfl), sqrt_run h]; rfl
set_option maxHeartbeats 1000000 in
theorem Sqrt_fn (x r : Nat) (h : Ieee.double.sqrt x = some r) (w : World) : Does Tryd.prog 53 #[.float .f64 x] [] w fun v Γ => v = .float .f64 r ∧ Γ = [] := by
  refine Does.enter Tryd.func53 rfl Tryd.ntmps53 rfl (St.start w) ?_
  repeat' (first | refine Fin.tail ?_ | refine Fin.then_normal ?_ | refine Fin.then_exit ?_ | refine Fin.then_ret ?_ | refine Fin.block_normal ?_ | refine Fin.block_ret ?_ | refine Fin.block_hit ?_ | refine Fin.block_miss rfl ?_ | refine Fin.loop_exit ?_ | refine Fin.loop_ret ?_ | refine WP.seq ?_ | (refine WP.regionQ (by kernel_rfl) (by kernel_rfl) ?_) | refine WP.block ?_ | refine WP.region ?_ | refine WP.skip ?_ | refine WP.exit ?_ | refine WP.ret ?_ | refine WP.label ?_ | refine WP.cond_true rfl ?_ | refine WP.cond_false rfl ?_ | (refine WP.cond_dec rfl (fun h => ?_) (fun h => ?_) <;> (try (exfalso; omega))) | (refine WP.cond_bool rfl (fun h => ?_) (fun h => ?_)) | refine WL.nil ?_ | refine WL.cons ?_ | (show OP _ _ _ _ _ _ _ ⟨_, .move _, _, _, _, none⟩ _ _; first | refine OP.mI rfl rfl ?_ | refine OP.mB rfl rfl ?_ | refine OP.mC rfl rfl ?_ | refine OP.mF rfl rfl ?_ | refine OP.mS rfl rfl ?_ | refine OP.mP rfl rfl ?_ | refine OP.mA rfl rfl ?_ | refine OP.mT rfl rfl ?_ | refine OP.mM rfl rfl ?_ | refine OP.mU rfl rfl ?_ | refine OP.move rfl rfl ?_) | (show OP _ _ _ _ _ _ _ ⟨_, .assign _, _, _, _, none⟩ _ _; first | refine OP.aI rfl rfl ?_ | refine OP.aB rfl rfl ?_ | refine OP.aC rfl rfl ?_ | refine OP.aF rfl rfl ?_ | refine OP.aS rfl rfl ?_ | refine OP.aP rfl rfl ?_ | refine OP.aA rfl rfl ?_ | refine OP.aT rfl rfl ?_ | refine OP.aM rfl rfl ?_ | refine OP.aU rfl rfl ?_ | refine OP.assign rfl rfl ?_) | refine OP.callx (f := 65) (.float .f64 r) rfl rfl (fun w => by exact sqrt_call h w) ?_)
  refine Fin.ret1 (h0 := .inl rfl) rfl rfl ?_
  exact ⟨rfl, rfl⟩

theorem pow_bd {k : Nat} (h : k ≤ 12) : 2 ^ k ≤ 4096 := Nat.le_trans (Nat.pow_le_pow_right (by decide) h) (by decide)
set_option maxHeartbeats 1000000 in
theorem step_fn : ∀ (k : Nat) (r : Cx), k ≤ 9 → stepC k = some r → ∀ w, Does Tryd.prog 60 #[.int .i64 ((8 * 2 ^ k : Nat) : Int)] [] w fun v Γ => v = .complex .f64 r.1 r.2 ∧ Γ = []
  | 0, r, hk, h, w => by
    unfold stepC at h
    simp only [Option.bind_eq_some_iff, Option.some.injEq] at h
    obtain ⟨c, h1, rfl⟩ := h
    refine Does.enter Tryd.func60 rfl Tryd.ntmps60 rfl (St.start w) ?_
    repeat' (first | refine Fin.tail ?_ | refine Fin.then_normal ?_ | refine Fin.then_exit ?_ | refine Fin.then_ret ?_ | refine Fin.block_normal ?_ | refine Fin.block_ret ?_ | refine Fin.block_hit ?_ | refine Fin.block_miss rfl ?_ | refine Fin.loop_exit ?_ | refine Fin.loop_ret ?_ | refine WP.seq ?_ | (refine WP.regionQ (by kernel_rfl) (by kernel_rfl) ?_) | refine WP.block ?_ | refine WP.region ?_ | refine WP.skip ?_ | refine WP.exit ?_ | refine WP.ret ?_ | refine WP.label ?_ | refine WP.cond_true rfl ?_ | refine WP.cond_false rfl ?_ | (refine WP.cond_dec rfl (fun h => ?_) (fun h => ?_) <;> (try (exfalso; omega))) | (refine WP.cond_bool rfl (fun h => ?_) (fun h => ?_)) | refine WL.nil ?_ | refine WL.cons ?_ | (show OP _ _ _ _ _ _ _ ⟨_, .move _, _, _, _, none⟩ _ _; first | refine OP.mI rfl rfl ?_ | refine OP.mB rfl rfl ?_ | refine OP.mC rfl rfl ?_ | refine OP.mF rfl rfl ?_ | refine OP.mS rfl rfl ?_ | refine OP.mP rfl rfl ?_ | refine OP.mA rfl rfl ?_ | refine OP.mT rfl rfl ?_ | refine OP.mM rfl rfl ?_ | refine OP.mU rfl rfl ?_ | refine OP.move rfl rfl ?_) | (show OP _ _ _ _ _ _ _ ⟨_, .assign _, _, _, _, none⟩ _ _; first | refine OP.aI rfl rfl ?_ | refine OP.aB rfl rfl ?_ | refine OP.aC rfl rfl ?_ | refine OP.aF rfl rfl ?_ | refine OP.aS rfl rfl ?_ | refine OP.aP rfl rfl ?_ | refine OP.aA rfl rfl ?_ | refine OP.aT rfl rfl ?_ | refine OP.aM rfl rfl ?_ | refine OP.aU rfl rfl ?_ | refine OP.assign rfl rfl ?_) | (show OP _ _ _ _ _ _ _ ⟨_, .call _, _, _, _, none⟩ _ _; first | refine OP.callq _ rfl (fun w _ => Sqrt_fn _ _ h1 w) (fun _ _ h => h.1) ?_ | refine OP.real rfl rfl ?_ | refine OP.imag rfl rfl ?_ | refine OP.complex rfl rfl rfl ?_) | (show OP _ _ _ _ _ _ _ ⟨_, .binOp _ _ _ _ _, _, _, _, none⟩ _ _; first | (refine OP.add rfl rfl rfl ?_ ?_ ?_; omega; omega) | refine OP.eql rfl rfl rfl ?_ | refine OP.eql2 rfl rfl rfl ?_ | refine OP.eqd rfl rfl rfl ?_ | refine OP.eqlb rfl rfl rfl ?_ | (refine OP.mul rfl rfl rfl ?_ ?_ ?_; omega; omega) | (refine OP.quoN rfl rfl rfl ?_ ?_ ?_ ?_; omega; omega; omega) | (refine OP.quo rfl rfl rfl ?_ ?_ ?_ ?_ ?_; omega; omega; omega; omega)))
    all_goals refine Fin.ret1 (h0 := .inl rfl) rfl rfl ?_
    exact ⟨rfl, rfl⟩
  | k + 1, r, hk, h, w => by
    unfold stepC at h
    simp only [Option.bind_eq_some_iff, Option.some.injEq] at h
    obtain ⟨g, h1, a, h2, b, h3, c, h4, e, h5, s, h6, rfl⟩ := h
    have hp := pow_bd (show k + 1 ≤ 12 by omega)
    have hp0 : 2 ≤ 2 ^ (k + 1) := by rw [Nat.pow_succ]; have := Nat.two_pow_pos k; omega
    have hq := quo_nat (a := 8 * 2 ^ (k + 1)) (b := 2) (c := 8 * 2 ^ k) (by rw [Nat.pow_succ]; omega) (by omega)
    obtain ⟨c0, hc0⟩ : ∃ c0, Ieee.double.sqrt half = some c0 := ⟨4604544271217802189, by decide +kernel⟩
    refine Does.enter Tryd.func60 rfl Tryd.ntmps60 rfl (St.start w) ?_
    repeat' (first | refine Fin.tail ?_ | refine Fin.then_normal ?_ | refine Fin.then_exit ?_ | refine Fin.then_ret ?_ | refine Fin.block_normal ?_ | refine Fin.block_ret ?_ | refine Fin.block_hit ?_ | refine Fin.block_miss rfl ?_ | refine Fin.loop_exit ?_ | refine Fin.loop_ret ?_ | refine WP.seq ?_ | (refine WP.regionQ (by kernel_rfl) (by kernel_rfl) ?_) | refine WP.block ?_ | refine WP.region ?_ | refine WP.skip ?_ | refine WP.exit ?_ | refine WP.ret ?_ | refine WP.label ?_ | refine WP.cond_true rfl ?_ | refine WP.cond_false rfl ?_ | (refine WP.cond_dec rfl (fun h => ?_) (fun h => ?_) <;> (try (exfalso; omega))) | (refine WP.cond_bool rfl (fun h => ?_) (fun h => ?_)) | refine WL.nil ?_ | refine WL.cons ?_ | (show OP _ _ _ _ _ _ _ ⟨_, .move _, _, _, _, none⟩ _ _; first | refine OP.mI rfl rfl ?_ | refine OP.mB rfl rfl ?_ | refine OP.mC rfl rfl ?_ | refine OP.mF rfl rfl ?_ | refine OP.mS rfl rfl ?_ | refine OP.mP rfl rfl ?_ | refine OP.mA rfl rfl ?_ | refine OP.mT rfl rfl ?_ | refine OP.mM rfl rfl ?_ | refine OP.mU rfl rfl ?_ | refine OP.move rfl rfl ?_) | (show OP _ _ _ _ _ _ _ ⟨_, .assign _, _, _, _, none⟩ _ _; first | refine OP.aI rfl rfl ?_ | refine OP.aB rfl rfl ?_ | refine OP.aC rfl rfl ?_ | refine OP.aF rfl rfl ?_ | refine OP.aS rfl rfl ?_ | refine OP.aP rfl rfl ?_ | refine OP.aA rfl rfl ?_ | refine OP.aT rfl rfl ?_ | refine OP.aM rfl rfl ?_ | refine OP.aU rfl rfl ?_ | refine OP.assign rfl rfl ?_) | (show OP _ _ _ _ _ _ _ ⟨_, .call _, _, _, _, none⟩ _ _; first | refine OP.callq _ rfl (fun w _ => Sqrt_fn _ _ hc0 w) (fun _ _ h => h.1) ?_ | refine OP.callq _ rfl (fun w _ => Sqrt_fn _ _ h4 w) (fun _ _ h => h.1) ?_ | refine OP.callq _ rfl (fun w _ => step_fn k g (by omega) h1 w) (fun _ _ h => h.1) ?_ | refine OP.real rfl rfl ?_ | refine OP.imag rfl rfl ?_ | refine OP.complex rfl rfl rfl ?_) | (show OP _ _ _ _ _ _ _ ⟨_, .binOp _ _ _ _ _, _, _, _, none⟩ _ _; first | refine OP.quoR (by decide) hq rfl rfl rfl ?_ | refine OP.farith (r := a) rfl rfl rfl h2 ?_ | refine OP.farith (r := b) rfl rfl rfl h3 ?_ | refine OP.farith (r := e) rfl rfl rfl h5 ?_ | refine OP.farith (r := s) rfl rfl rfl h6 ?_ | (refine OP.add rfl rfl rfl ?_ ?_ ?_; omega; omega) | refine OP.eql rfl rfl rfl ?_ | refine OP.eql2 rfl rfl rfl ?_ | refine OP.eqd rfl rfl rfl ?_ | refine OP.eqlb rfl rfl rfl ?_ | (refine OP.mul rfl rfl rfl ?_ ?_ ?_; omega; omega) | (refine OP.quoN rfl rfl rfl ?_ ?_ ?_ ?_; omega; omega; omega) | (refine OP.quo rfl rfl rfl ?_ ?_ ?_ ?_ ?_; omega; omega; omega; omega)))
    all_goals refine Fin.ret1 (h0 := .inl rfl) rfl rfl ?_
    exact ⟨rfl, rfl⟩

theorem qq {a b : Nat} (ha : a ≤ 9223372036854775807) : IntKind.i64.wrap ((a : Int).tdiv (b : Int)) = ((a / b : Nat) : Int) := quo_nat rfl ha
theorem rr (a b : Nat) : (a : Int).tmod (b : Int) = ((a % b : Nat) : Int) := rem_nat rfl

set_option maxHeartbeats 1000000 in
theorem quarter_fn (n k : Nat) (hn : n ≤ 4096) (hk : k ≤ n / 4) (first : List Cx) (b o c : Nat) (r : Cx) (hq : quarterC n k first = some r) (w : World) (hr : RdC w b o first) :
    Does Tryd.prog 61 #[.int .i64 (n : Int), .int .i64 (k : Int), .slice (some ⟨b, o, none⟩) first.length c] [] w fun v Γ => v = .complex .f64 r.1 r.2 ∧ Γ = [] := by
  have q8 : n / 8 ≤ n := Nat.div_le_self _ _
  have q4 : n / 4 ≤ n := Nat.div_le_self _ _
  unfold quarterC at hq
  by_cases h8 : k ≤ n / 8
  · rw [if_pos h8] at hq
    have hl : k < first.length := (List.getElem?_eq_some_iff.1 hq).1
    refine Does.enter Tryd.func61 rfl Tryd.ntmps61 rfl (St.start w) ?_
    repeat' (first | refine OP.indexAddr (j := k) rfl rfl rfl rfl hl ?_ | refine OP.load rfl rfl (hr.see hq _) ?_ | refine Fin.tail ?_ | refine Fin.then_normal ?_ | refine Fin.then_exit ?_ | refine Fin.then_ret ?_ | refine Fin.block_normal ?_ | refine Fin.block_ret ?_ | refine Fin.block_hit ?_ | refine Fin.block_miss rfl ?_ | refine Fin.loop_exit ?_ | refine Fin.loop_ret ?_ | refine WP.seq ?_ | (refine WP.regionQ (by kernel_rfl) (by kernel_rfl) ?_) | refine WP.block ?_ | refine WP.region ?_ | refine WP.skip ?_ | refine WP.exit ?_ | refine WP.ret ?_ | refine WP.label ?_ | refine WP.cond_true rfl ?_ | refine WP.cond_false rfl ?_ | (refine WP.cond_dec rfl (fun h => ?_) (fun h => ?_) <;> (try (exfalso; omega))) | (refine WP.cond_bool rfl (fun h => ?_) (fun h => ?_)) | refine WL.nil ?_ | refine WL.cons ?_ | (show OP _ _ _ _ _ _ _ ⟨_, .move _, _, _, _, none⟩ _ _; first | refine OP.mI rfl rfl ?_ | refine OP.mB rfl rfl ?_ | refine OP.mC rfl rfl ?_ | refine OP.mF rfl rfl ?_ | refine OP.mS rfl rfl ?_ | refine OP.mP rfl rfl ?_ | refine OP.mA rfl rfl ?_ | refine OP.mT rfl rfl ?_ | refine OP.mM rfl rfl ?_ | refine OP.mU rfl rfl ?_ | refine OP.move rfl rfl ?_) | (show OP _ _ _ _ _ _ _ ⟨_, .assign _, _, _, _, none⟩ _ _; first | refine OP.aI rfl rfl ?_ | refine OP.aB rfl rfl ?_ | refine OP.aC rfl rfl ?_ | refine OP.aF rfl rfl ?_ | refine OP.aS rfl rfl ?_ | refine OP.aP rfl rfl ?_ | refine OP.aA rfl rfl ?_ | refine OP.aT rfl rfl ?_ | refine OP.aM rfl rfl ?_ | refine OP.aU rfl rfl ?_ | refine OP.assign rfl rfl ?_) | (show OP _ _ _ _ _ _ _ ⟨_, .call _, _, _, _, none⟩ _ _; first | refine OP.real rfl rfl ?_ | refine OP.imag rfl rfl ?_ | refine OP.complex rfl rfl rfl ?_) | (show OP _ _ _ _ _ _ _ ⟨_, .binOp _ _ _ _ _, _, _, _, none⟩ _ _; first | refine OP.quoR (b := 8) (by decide) (qq (b := 8) (by omega)) rfl rfl rfl ?_ | (refine OP.sub rfl rfl rfl ?_ ?_ ?_; omega; omega) | refine OP.leq rfl rfl rfl ?_ | (refine OP.quoN rfl rfl rfl ?_ ?_ ?_ ?_; omega; omega; omega) | (refine OP.quo rfl rfl rfl ?_ ?_ ?_ ?_ ?_; omega; omega; omega; omega)) | (show OP _ _ _ _ _ _ _ ⟨_, .load _ _, _, _, _, none⟩ _ _; first | refine OP.ld rfl rfl inferInstance rfl ?_ | refine OP.load rfl rfl (Sees.old0 (by assumption)) ?_ | refine OP.ldA rfl rfl inferInstance rfl ?_))
    all_goals refine Fin.ret1 (h0 := .inl rfl) rfl rfl ?_
    exact ⟨rfl, rfl⟩
  · rw [if_neg h8, Option.map_eq_some_iff] at hq
    obtain ⟨a, ha, rfl⟩ := hq
    have hl : n / 4 - k < first.length := (List.getElem?_eq_some_iff.1 ha).1
    refine Does.enter Tryd.func61 rfl Tryd.ntmps61 rfl (St.start w) ?_
    repeat' (first | refine OP.indexAddr (j := n / 4 - k) rfl rfl rfl (by omega) hl ?_ | refine OP.load rfl rfl (hr.see ha _) ?_ | refine Fin.tail ?_ | refine Fin.then_normal ?_ | refine Fin.then_exit ?_ | refine Fin.then_ret ?_ | refine Fin.block_normal ?_ | refine Fin.block_ret ?_ | refine Fin.block_hit ?_ | refine Fin.block_miss rfl ?_ | refine Fin.loop_exit ?_ | refine Fin.loop_ret ?_ | refine WP.seq ?_ | (refine WP.regionQ (by kernel_rfl) (by kernel_rfl) ?_) | refine WP.block ?_ | refine WP.region ?_ | refine WP.skip ?_ | refine WP.exit ?_ | refine WP.ret ?_ | refine WP.label ?_ | refine WP.cond_true rfl ?_ | refine WP.cond_false rfl ?_ | (refine WP.cond_dec rfl (fun h => ?_) (fun h => ?_) <;> (try (exfalso; omega))) | (refine WP.cond_bool rfl (fun h => ?_) (fun h => ?_)) | refine WL.nil ?_ | refine WL.cons ?_ | (show OP _ _ _ _ _ _ _ ⟨_, .move _, _, _, _, none⟩ _ _; first | refine OP.mI rfl rfl ?_ | refine OP.mB rfl rfl ?_ | refine OP.mC rfl rfl ?_ | refine OP.mF rfl rfl ?_ | refine OP.mS rfl rfl ?_ | refine OP.mP rfl rfl ?_ | refine OP.mA rfl rfl ?_ | refine OP.mT rfl rfl ?_ | refine OP.mM rfl rfl ?_ | refine OP.mU rfl rfl ?_ | refine OP.move rfl rfl ?_) | (show OP _ _ _ _ _ _ _ ⟨_, .assign _, _, _, _, none⟩ _ _; first | refine OP.aI rfl rfl ?_ | refine OP.aB rfl rfl ?_ | refine OP.aC rfl rfl ?_ | refine OP.aF rfl rfl ?_ | refine OP.aS rfl rfl ?_ | refine OP.aP rfl rfl ?_ | refine OP.aA rfl rfl ?_ | refine OP.aT rfl rfl ?_ | refine OP.aM rfl rfl ?_ | refine OP.aU rfl rfl ?_ | refine OP.assign rfl rfl ?_) | (show OP _ _ _ _ _ _ _ ⟨_, .call _, _, _, _, none⟩ _ _; first | refine OP.real rfl rfl ?_ | refine OP.imag rfl rfl ?_ | refine OP.complex rfl rfl rfl ?_) | (show OP _ _ _ _ _ _ _ ⟨_, .binOp _ _ _ _ _, _, _, _, none⟩ _ _; first | refine OP.quoR (b := 8) (by decide) (qq (b := 8) (by omega)) rfl rfl rfl ?_ | refine OP.quoR (b := 4) (by decide) (qq (b := 4) (by omega)) rfl rfl rfl ?_ | (refine OP.sub rfl rfl rfl ?_ ?_ ?_; omega; omega) | refine OP.leq rfl rfl rfl ?_ | (refine OP.quoN rfl rfl rfl ?_ ?_ ?_ ?_; omega; omega; omega) | (refine OP.quo rfl rfl rfl ?_ ?_ ?_ ?_ ?_; omega; omega; omega; omega)) | (show OP _ _ _ _ _ _ _ ⟨_, .load _ _, _, _, _, none⟩ _ _; first | refine OP.ld rfl rfl inferInstance rfl ?_ | refine OP.load rfl rfl (Sees.old0 (by assumption)) ?_ | refine OP.ldA rfl rfl inferInstance rfl ?_))
    all_goals refine Fin.ret1 (h0 := .inl rfl) rfl rfl ?_
    exact ⟨rfl, rfl⟩

set_option maxHeartbeats 2000000 in
theorem at_fn (n k : Nat) (hn : n ≤ 4096) (hk : k < n) (first : List Cx) (hf : ∀ a ∈ first, Wf a) (b o c : Nat) (r : Cx) (h : atC n k first = some r) (w : World) (hr : RdC w b o first) (hn4 : n < 4 → n ≤ 2) :
    Does Tryd.prog 46 #[.int .i64 (n : Int), .int .i64 (k : Int), .slice (some ⟨b, o, none⟩) first.length c] [] w fun v Γ => v = .complex .f64 r.1 r.2 ∧ Γ = [] := by
  have q4 : n / 4 ≤ n := Nat.div_le_self _ _
  unfold atC at h
  by_cases h4 : n < 4
  · rw [if_pos h4, Option.some.injEq] at h
    subst h
    have := hn4 h4
    rcases (by omega : k = 0 ∨ k = 1) with rfl | rfl
    · refine Does.enter Tryd.func46 rfl Tryd.ntmps46 rfl (St.start w) ?_
      repeat' (first | refine Fin.tail ?_ | refine Fin.then_normal ?_ | refine Fin.then_exit ?_ | refine Fin.then_ret ?_ | refine Fin.block_normal ?_ | refine Fin.block_ret ?_ | refine Fin.block_hit ?_ | refine Fin.block_miss rfl ?_ | refine Fin.loop_exit ?_ | refine Fin.loop_ret ?_ | refine WP.seq ?_ | (refine WP.regionQ (by kernel_rfl) (by kernel_rfl) ?_) | refine WP.block ?_ | refine WP.region ?_ | refine WP.skip ?_ | refine WP.exit ?_ | refine WP.ret ?_ | refine WP.label ?_ | refine WP.cond_true rfl ?_ | refine WP.cond_false rfl ?_ | (refine WP.cond_dec rfl (fun h => ?_) (fun h => ?_) <;> (try (exfalso; omega))) | (refine WP.cond_bool rfl (fun h => ?_) (fun h => ?_)) | refine WL.nil ?_ | refine WL.cons ?_ | (show OP _ _ _ _ _ _ _ ⟨_, .move _, _, _, _, none⟩ _ _; first | refine OP.mI rfl rfl ?_ | refine OP.mB rfl rfl ?_ | refine OP.mC rfl rfl ?_ | refine OP.mF rfl rfl ?_ | refine OP.mS rfl rfl ?_ | refine OP.mP rfl rfl ?_ | refine OP.mA rfl rfl ?_ | refine OP.mT rfl rfl ?_ | refine OP.mM rfl rfl ?_ | refine OP.mU rfl rfl ?_ | refine OP.move rfl rfl ?_) | (show OP _ _ _ _ _ _ _ ⟨_, .assign _, _, _, _, none⟩ _ _; first | refine OP.aI rfl rfl ?_ | refine OP.aB rfl rfl ?_ | refine OP.aC rfl rfl ?_ | refine OP.aF rfl rfl ?_ | refine OP.aS rfl rfl ?_ | refine OP.aP rfl rfl ?_ | refine OP.aA rfl rfl ?_ | refine OP.aT rfl rfl ?_ | refine OP.aM rfl rfl ?_ | refine OP.aU rfl rfl ?_ | refine OP.assign rfl rfl ?_) | refine OP.complex rfl rfl rfl ?_ | (show OP _ _ _ _ _ _ _ ⟨_, .binOp _ _ _ _ _, _, _, _, none⟩ _ _; first | (refine OP.add rfl rfl rfl ?_ ?_ ?_; omega; omega) | (refine OP.sub rfl rfl rfl ?_ ?_ ?_; omega; omega) | refine OP.lss rfl rfl rfl ?_ | (refine OP.mul rfl rfl rfl ?_ ?_ ?_; omega; omega) | (refine OP.quoN rfl rfl rfl ?_ ?_ ?_ ?_; omega; omega; omega) | (refine OP.quo rfl rfl rfl ?_ ?_ ?_ ?_ ?_; omega; omega; omega; omega) | (refine OP.remN rfl rfl rfl ?_ ?_; omega) | (refine OP.rem rfl rfl rfl ?_ ?_ ?_; omega; omega)) | (show OP _ _ _ _ _ _ _ ⟨_, .convert _ _ _, _, _, _, none⟩ _ _; first | refine OP.convIF (r := one) (by kernel_rfl) rfl rfl (by kernel_rfl) ?_ | (refine OP.conv rfl rfl ?_ ?_ ?_; omega; omega)))
      all_goals refine Fin.ret1 (h0 := .inl rfl) rfl rfl ?_
      exact ⟨rfl, rfl⟩
    · refine Does.enter Tryd.func46 rfl Tryd.ntmps46 rfl (St.start w) ?_
      repeat' (first | refine Fin.tail ?_ | refine Fin.then_normal ?_ | refine Fin.then_exit ?_ | refine Fin.then_ret ?_ | refine Fin.block_normal ?_ | refine Fin.block_ret ?_ | refine Fin.block_hit ?_ | refine Fin.block_miss rfl ?_ | refine Fin.loop_exit ?_ | refine Fin.loop_ret ?_ | refine WP.seq ?_ | (refine WP.regionQ (by kernel_rfl) (by kernel_rfl) ?_) | refine WP.block ?_ | refine WP.region ?_ | refine WP.skip ?_ | refine WP.exit ?_ | refine WP.ret ?_ | refine WP.label ?_ | refine WP.cond_true rfl ?_ | refine WP.cond_false rfl ?_ | (refine WP.cond_dec rfl (fun h => ?_) (fun h => ?_) <;> (try (exfalso; omega))) | (refine WP.cond_bool rfl (fun h => ?_) (fun h => ?_)) | refine WL.nil ?_ | refine WL.cons ?_ | (show OP _ _ _ _ _ _ _ ⟨_, .move _, _, _, _, none⟩ _ _; first | refine OP.mI rfl rfl ?_ | refine OP.mB rfl rfl ?_ | refine OP.mC rfl rfl ?_ | refine OP.mF rfl rfl ?_ | refine OP.mS rfl rfl ?_ | refine OP.mP rfl rfl ?_ | refine OP.mA rfl rfl ?_ | refine OP.mT rfl rfl ?_ | refine OP.mM rfl rfl ?_ | refine OP.mU rfl rfl ?_ | refine OP.move rfl rfl ?_) | (show OP _ _ _ _ _ _ _ ⟨_, .assign _, _, _, _, none⟩ _ _; first | refine OP.aI rfl rfl ?_ | refine OP.aB rfl rfl ?_ | refine OP.aC rfl rfl ?_ | refine OP.aF rfl rfl ?_ | refine OP.aS rfl rfl ?_ | refine OP.aP rfl rfl ?_ | refine OP.aA rfl rfl ?_ | refine OP.aT rfl rfl ?_ | refine OP.aM rfl rfl ?_ | refine OP.aU rfl rfl ?_ | refine OP.assign rfl rfl ?_) | refine OP.complex rfl rfl rfl ?_ | (show OP _ _ _ _ _ _ _ ⟨_, .binOp _ _ _ _ _, _, _, _, none⟩ _ _; first | (refine OP.add rfl rfl rfl ?_ ?_ ?_; omega; omega) | (refine OP.sub rfl rfl rfl ?_ ?_ ?_; omega; omega) | refine OP.lss rfl rfl rfl ?_ | (refine OP.mul rfl rfl rfl ?_ ?_ ?_; omega; omega) | (refine OP.quoN rfl rfl rfl ?_ ?_ ?_ ?_; omega; omega; omega) | (refine OP.quo rfl rfl rfl ?_ ?_ ?_ ?_ ?_; omega; omega; omega; omega) | (refine OP.remN rfl rfl rfl ?_ ?_; omega) | (refine OP.rem rfl rfl rfl ?_ ?_ ?_; omega; omega)) | (show OP _ _ _ _ _ _ _ ⟨_, .convert _ _ _, _, _, _, none⟩ _ _; first | refine OP.convIF (r := 13830554455654793216) (by kernel_rfl) rfl rfl (by kernel_rfl) ?_ | (refine OP.conv rfl rfl ?_ ?_ ?_; omega; omega)))
      all_goals refine Fin.ret1 (h0 := .inl rfl) rfl rfl ?_
      exact ⟨rfl, rfl⟩
  · rw [if_neg h4, Option.map_eq_some_iff] at h
    obtain ⟨a, ha, rfl⟩ := h
    have hwa : Wf a := by
      unfold quarterC at ha
      split at ha
      · exact hf a (List.mem_of_getElem? ha)
      · rw [Option.map_eq_some_iff] at ha
        obtain ⟨b, h2, rfl⟩ := ha
        have := hf b (List.mem_of_getElem? h2)
        exact ⟨this.2, this.1⟩
    have p4 : 0 < n / 4 := Nat.div_pos (by omega) (by decide)
    have hm : k % (n / 4) < n / 4 := Nat.mod_lt _ p4
    have hd : k / (n / 4) ≤ k := Nat.div_le_self _ _
    obtain ⟨T, hT⟩ : ∃ T, T = k / (n / 4) := ⟨_, rfl⟩
    have qT := quo_nat (a := k) (b := n / 4) (c := T) hT.symm (by omega)
    rw [← hT] at hd ⊢
    refine Does.enter Tryd.func46 rfl Tryd.ntmps46 rfl (St.start w) ?_
    repeat' (first | refine Fin.tail ?_ | refine Fin.then_normal ?_ | refine Fin.then_exit ?_ | refine Fin.then_ret ?_ | refine Fin.block_normal ?_ | refine Fin.block_ret ?_ | refine Fin.block_hit ?_ | refine Fin.block_miss rfl ?_ | refine Fin.loop_exit ?_ | refine Fin.loop_ret ?_ | refine WP.seq ?_ | (refine WP.regionQ (by kernel_rfl) (by kernel_rfl) ?_) | refine WP.block ?_ | refine WP.region ?_ | refine WP.skip ?_ | refine WP.exit ?_ | refine WP.ret ?_ | refine WP.label ?_ | refine WP.cond_true rfl ?_ | refine WP.cond_false rfl ?_ | (refine WP.cond_dec rfl (fun h => ?_) (fun h => ?_) <;> (try (exfalso; omega))) | (refine WP.cond_bool rfl (fun h => ?_) (fun h => ?_)) | refine WL.nil ?_ | refine WL.cons ?_ | (show OP _ _ _ _ _ _ _ ⟨_, .move _, _, _, _, none⟩ _ _; first | refine OP.mI rfl rfl ?_ | refine OP.mB rfl rfl ?_ | refine OP.mC rfl rfl ?_ | refine OP.mF rfl rfl ?_ | refine OP.mS rfl rfl ?_ | refine OP.mP rfl rfl ?_ | refine OP.mA rfl rfl ?_ | refine OP.mT rfl rfl ?_ | refine OP.mM rfl rfl ?_ | refine OP.mU rfl rfl ?_ | refine OP.move rfl rfl ?_) | (show OP _ _ _ _ _ _ _ ⟨_, .assign _, _, _, _, none⟩ _ _; first | refine OP.aI rfl rfl ?_ | refine OP.aB rfl rfl ?_ | refine OP.aC rfl rfl ?_ | refine OP.aF rfl rfl ?_ | refine OP.aS rfl rfl ?_ | refine OP.aP rfl rfl ?_ | refine OP.aA rfl rfl ?_ | refine OP.aT rfl rfl ?_ | refine OP.aM rfl rfl ?_ | refine OP.aU rfl rfl ?_ | refine OP.assign rfl rfl ?_) | (show OP _ _ _ _ _ _ _ ⟨_, .call _, _, _, _, none⟩ _ _; first | refine OP.callq _ rfl (fun w' hst => quarter_fn n (k % (n / 4)) hn (by omega) first b o c a ha w' (hr.over hst (by simp))) (fun _ _ h => h.1) ?_ | refine OP.complex rfl rfl rfl ?_) | (show OP _ _ _ _ _ _ _ ⟨_, .binOp _ _ _ _ _, _, _, _, none⟩ _ _; first | refine OP.quoR (b := 4) (by decide) (qq (b := 4) (by omega)) rfl rfl rfl ?_ | refine OP.quoR (by omega) qT rfl rfl rfl ?_ | refine OP.remR (by omega) (rr k (n / 4)) rfl rfl rfl ?_ | (refine OP.add rfl rfl rfl ?_ ?_ ?_; omega; omega) | (refine OP.sub rfl rfl rfl ?_ ?_ ?_; omega; omega) | refine OP.lss rfl rfl rfl ?_ | (refine OP.mul rfl rfl rfl ?_ ?_ ?_; omega; omega) | (refine OP.quoN rfl rfl rfl ?_ ?_ ?_ ?_; omega; omega; omega) | (refine OP.quo rfl rfl rfl ?_ ?_ ?_ ?_ ?_; omega; omega; omega; omega) | (refine OP.remN rfl rfl rfl ?_ ?_; omega) | (refine OP.rem rfl rfl rfl ?_ ?_ ?_; omega; omega)) | (refine OP.conv rfl rfl ?_ ?_ ?_; omega; omega))
    refine WP.loop [7, 26, 27, 28, 29, 30, 31] (fun j : Nat => [(26, .int .i64 j), (7, .complex .f64 (turns j a).1 (turns j a).2)]) (fun _ => []) (fun j => j ≤ T) (fun j => T - j) 0 (by omega) rfl ⟨rfl, rfl, trivial⟩ ?_
    rintro j jj j1
    dsimp only [updL]
    have hwj := wf_turns hwa j
    by_cases hj : j < T
    · repeat' (first | refine Fin.tail ?_ | refine Fin.then_normal ?_ | refine Fin.then_exit ?_ | refine Fin.then_ret ?_ | refine Fin.block_normal ?_ | refine Fin.block_ret ?_ | refine Fin.block_hit ?_ | refine Fin.block_miss rfl ?_ | refine Fin.loop_exit ?_ | refine Fin.loop_ret ?_ | refine WP.seq ?_ | (refine WP.regionQ (by kernel_rfl) (by kernel_rfl) ?_) | refine WP.block ?_ | refine WP.region ?_ | refine WP.skip ?_ | refine WP.exit ?_ | refine WP.ret ?_ | refine WP.label ?_ | refine WP.cond_true rfl ?_ | refine WP.cond_false rfl ?_ | (refine WP.cond_dec rfl (fun h => ?_) (fun h => ?_) <;> (try (exfalso; omega))) | (refine WP.cond_bool rfl (fun h => ?_) (fun h => ?_)) | refine WL.nil ?_ | refine WL.cons ?_ | (show OP _ _ _ _ _ _ _ ⟨_, .move _, _, _, _, none⟩ _ _; first | refine OP.mI rfl rfl ?_ | refine OP.mB rfl rfl ?_ | refine OP.mC rfl rfl ?_ | refine OP.mF rfl rfl ?_ | refine OP.mS rfl rfl ?_ | refine OP.mP rfl rfl ?_ | refine OP.mA rfl rfl ?_ | refine OP.mT rfl rfl ?_ | refine OP.mM rfl rfl ?_ | refine OP.mU rfl rfl ?_ | refine OP.move rfl rfl ?_) | (show OP _ _ _ _ _ _ _ ⟨_, .assign _, _, _, _, none⟩ _ _; first | refine OP.aI rfl rfl ?_ | refine OP.aB rfl rfl ?_ | refine OP.aC rfl rfl ?_ | refine OP.aF rfl rfl ?_ | refine OP.aS rfl rfl ?_ | refine OP.aP rfl rfl ?_ | refine OP.aA rfl rfl ?_ | refine OP.aT rfl rfl ?_ | refine OP.aM rfl rfl ?_ | refine OP.aU rfl rfl ?_ | refine OP.assign rfl rfl ?_) | (show OP _ _ _ _ _ _ _ ⟨_, .call _, _, _, _, none⟩ _ _; first | refine OP.callq _ rfl (fun w _ => Turn_fn (turns j a) hwj.1 hwj.2 w) (fun _ _ h => h.1) ?_ | refine OP.callq _ rfl (fun w _ => Plain_fn (turnC (turns j a)) (wf_turn hwj).1 (wf_turn hwj).2 w) (fun _ _ h => h.1) ?_ | refine OP.complex rfl rfl rfl ?_) | (show OP _ _ _ _ _ _ _ ⟨_, .binOp _ _ _ _ _, _, _, _, none⟩ _ _; first | (refine OP.add rfl rfl rfl ?_ ?_ ?_; omega; omega) | (refine OP.sub rfl rfl rfl ?_ ?_ ?_; omega; omega) | refine OP.lss rfl rfl rfl ?_ | (refine OP.mul rfl rfl rfl ?_ ?_ ?_; omega; omega) | (refine OP.quoN rfl rfl rfl ?_ ?_ ?_ ?_; omega; omega; omega) | (refine OP.quo rfl rfl rfl ?_ ?_ ?_ ?_ ?_; omega; omega; omega; omega) | (refine OP.remN rfl rfl rfl ?_ ?_; omega) | (refine OP.rem rfl rfl rfl ?_ ?_ ?_; omega; omega)) | (refine OP.conv rfl rfl ?_ ?_ ?_; omega; omega))
      refine Fin.loop_normal fun w' hst => ⟨j + 1, by omega, by omega, by (repeat' (first | exact Agree.refl _ _ | refine Agree.upd rfl ?_ | refine Agree.hav rfl ?_)), ⟨rfl, rfl, trivial⟩, hst⟩
    · have e : j = T := by omega
      subst e
      repeat' (first | refine Fin.tail ?_ | refine Fin.then_normal ?_ | refine Fin.then_exit ?_ | refine Fin.then_ret ?_ | refine Fin.block_normal ?_ | refine Fin.block_ret ?_ | refine Fin.block_hit ?_ | refine Fin.block_miss rfl ?_ | refine Fin.loop_exit ?_ | refine Fin.loop_ret ?_ | refine WP.seq ?_ | (refine WP.regionQ (by kernel_rfl) (by kernel_rfl) ?_) | refine WP.block ?_ | refine WP.region ?_ | refine WP.skip ?_ | refine WP.exit ?_ | refine WP.ret ?_ | refine WP.label ?_ | refine WP.cond_true rfl ?_ | refine WP.cond_false rfl ?_ | (refine WP.cond_dec rfl (fun h => ?_) (fun h => ?_) <;> (try (exfalso; omega))) | (refine WP.cond_bool rfl (fun h => ?_) (fun h => ?_)) | refine WL.nil ?_ | refine WL.cons ?_ | (show OP _ _ _ _ _ _ _ ⟨_, .move _, _, _, _, none⟩ _ _; first | refine OP.mI rfl rfl ?_ | refine OP.mB rfl rfl ?_ | refine OP.mC rfl rfl ?_ | refine OP.mF rfl rfl ?_ | refine OP.mS rfl rfl ?_ | refine OP.mP rfl rfl ?_ | refine OP.mA rfl rfl ?_ | refine OP.mT rfl rfl ?_ | refine OP.mM rfl rfl ?_ | refine OP.mU rfl rfl ?_ | refine OP.move rfl rfl ?_) | (show OP _ _ _ _ _ _ _ ⟨_, .assign _, _, _, _, none⟩ _ _; first | refine OP.aI rfl rfl ?_ | refine OP.aB rfl rfl ?_ | refine OP.aC rfl rfl ?_ | refine OP.aF rfl rfl ?_ | refine OP.aS rfl rfl ?_ | refine OP.aP rfl rfl ?_ | refine OP.aA rfl rfl ?_ | refine OP.aT rfl rfl ?_ | refine OP.aM rfl rfl ?_ | refine OP.aU rfl rfl ?_ | refine OP.assign rfl rfl ?_) | refine OP.complex rfl rfl rfl ?_ | (show OP _ _ _ _ _ _ _ ⟨_, .binOp _ _ _ _ _, _, _, _, none⟩ _ _; first | (refine OP.add rfl rfl rfl ?_ ?_ ?_; omega; omega) | (refine OP.sub rfl rfl rfl ?_ ?_ ?_; omega; omega) | refine OP.lss rfl rfl rfl ?_ | (refine OP.mul rfl rfl rfl ?_ ?_ ?_; omega; omega) | (refine OP.quoN rfl rfl rfl ?_ ?_ ?_ ?_; omega; omega; omega) | (refine OP.quo rfl rfl rfl ?_ ?_ ?_ ?_ ?_; omega; omega; omega; omega) | (refine OP.remN rfl rfl rfl ?_ ?_; omega) | (refine OP.rem rfl rfl rfl ?_ ?_ ?_; omega; omega)) | (refine OP.conv rfl rfl ?_ ?_ ?_; omega; omega))
      refine Fin.ret1 (h0 := .inl rfl) rfl rfl ?_
      exact ⟨rfl, rfl⟩
end Go.Proofs.YthecbhegjdcjfaaDoor
end
section
/- Layer 2: the first eighth and the table, walked. %compact -/
set_option linter.unusedVariables false
set_option maxRecDepth 100000
namespace Go.Proofs.YthecbhegjdcjfaaDoor
open Go.Pen Go.Flt Go.Wav

theorem wv_len {s : Cx} {h : List Cx} : ∀ {i : Nat} {l : List Cx}, i ≤ h.length → wv s h i = some l → l.length ≤ 2 * i ∧ i ≤ l.length
  | 0, l, _, e => by
    obtain rfl : [] = l := by simpa [wv] using e
    simp
  | i + 1, l, hi, e => by
    unfold wv at e
    simp only [Option.bind_eq_some_iff] at e
    obtain ⟨l', h1, b, h2, h3⟩ := e
    have := wv_len (by omega) h1
    split at h3
    · simp only [Option.bind_eq_some_iff, Option.some.injEq] at h3
      obtain ⟨m, h4, rfl⟩ := h3
      simp only [List.length_append, List.length_cons, List.length_nil]; omega
    · obtain rfl : l' ++ [b] = l := by simpa using h3
      simp only [List.length_append, List.length_cons, List.length_nil]; omega
theorem wv_some {s : Cx} {h : List Cx} : ∀ {i j : Nat} {l : List Cx}, i ≤ j → wv s h j = some l → ∃ l', wv s h i = some l'
  | i, 0, l, hij, e => by obtain rfl : i = 0 := by omega
                          exact ⟨l, e⟩
  | i, j + 1, l, hij, e => by
    by_cases h' : i = j + 1
    · subst h'; exact ⟨l, e⟩
    · unfold wv at e
      simp only [Option.bind_eq_some_iff] at e
      obtain ⟨l', h1, _⟩ := e
      exact wv_some (by omega) h1
theorem eighth_len : ∀ {m : Nat} {l : List Cx}, eighthC m = some l → 1 ≤ l.length ∧ l.length ≤ 2 ^ m
  | 0, l, e => by
    obtain rfl : [(one, 0)] = l := by simpa [eighthC] using e
    simp
  | 1, l, e => by
    obtain rfl : [(one, 0)] = l := by simpa [eighthC] using e
    simp
  | 2, l, e => by
    obtain rfl : [(one, 0)] = l := by simpa [eighthC] using e
    simp
  | 3, l, e => by
    unfold eighthC at e
    simp only [Option.bind_eq_some_iff, Option.some.injEq] at e
    obtain ⟨s, _, m, h2, rfl⟩ := e
    simp
  | m + 4, l, e => by
    unfold eighthC at e
    simp only [Option.bind_eq_some_iff] at e
    obtain ⟨h, h1, s, h2, h3⟩ := e
    have g := eighth_len h1
    have w := wv_len (Nat.le_refl _) h3
    rw [Nat.pow_succ]; omega

set_option maxHeartbeats 4000000 in
theorem eighth_fn : ∀ (m : Nat) (l : List Cx), m ≤ 12 → eighthC m = some l → ∀ w, Does Tryd.prog 45 #[.int .i64 ((2 ^ m : Nat) : Int)] [] w fun v Γ => ∃ b cap sp, v = .slice (some ⟨b, 0, none⟩) l.length cap ∧ Γ = [(b, .cells (cxs l ++ sp).toArray 28 (0, 0))]
  | 0, l, hm, h8, w => by
    obtain rfl : [(one, 0)] = l := by simpa [eighthC] using h8
    refine Does.enter Tryd.func45 rfl Tryd.ntmps45 rfl (St.start w) ?_
    repeat' (first | refine Fin.tail ?_ | refine Fin.then_normal ?_ | refine Fin.then_exit ?_ | refine Fin.then_ret ?_ | refine Fin.block_normal ?_ | refine Fin.block_ret ?_ | refine Fin.block_hit ?_ | refine Fin.block_miss rfl ?_ | refine Fin.loop_exit ?_ | refine Fin.loop_ret ?_ | refine WP.seq ?_ | (refine WP.regionQ (by kernel_rfl) (by kernel_rfl) ?_) | refine WP.block ?_ | refine WP.region ?_ | refine WP.skip ?_ | refine WP.exit ?_ | refine WP.ret ?_ | refine WP.label ?_ | refine WP.cond_true rfl ?_ | refine WP.cond_false rfl ?_ | (refine WP.cond_dec rfl (fun h => ?_) (fun h => ?_) <;> (try (exfalso; omega))) | (refine WP.cond_bool rfl (fun h => ?_) (fun h => ?_)) | refine WL.nil ?_ | refine WL.cons ?_ | (show OP _ _ _ _ _ _ _ ⟨_, .move _, _, _, _, none⟩ _ _; first | refine OP.mI rfl rfl ?_ | refine OP.mB rfl rfl ?_ | refine OP.mC rfl rfl ?_ | refine OP.mF rfl rfl ?_ | refine OP.mS rfl rfl ?_ | refine OP.mP rfl rfl ?_ | refine OP.mA rfl rfl ?_ | refine OP.mT rfl rfl ?_ | refine OP.mM rfl rfl ?_ | refine OP.mU rfl rfl ?_ | refine OP.move rfl rfl ?_) | (show OP _ _ _ _ _ _ _ ⟨_, .assign _, _, _, _, none⟩ _ _; first | refine OP.aI rfl rfl ?_ | refine OP.aB rfl rfl ?_ | refine OP.aC rfl rfl ?_ | refine OP.aF rfl rfl ?_ | refine OP.aS rfl rfl ?_ | refine OP.aP rfl rfl ?_ | refine OP.aA rfl rfl ?_ | refine OP.aT rfl rfl ?_ | refine OP.aM rfl rfl ?_ | refine OP.aU rfl rfl ?_ | refine OP.assign rfl rfl ?_) | refine OP.len rfl rfl rfl ?_ | (show OP _ _ _ _ _ _ _ ⟨_, .binOp _ _ _ _ _, _, _, _, none⟩ _ _; first | (refine OP.add rfl rfl rfl ?_ ?_ ?_; omega; omega) | (refine OP.sub rfl rfl rfl ?_ ?_ ?_; omega; omega) | refine OP.lss rfl rfl rfl ?_ | (refine OP.quoN rfl rfl rfl ?_ ?_ ?_ ?_; omega; omega; omega) | (refine OP.quo rfl rfl rfl ?_ ?_ ?_ ?_ ?_; omega; omega; omega; omega)) | (show OP _ _ _ _ _ _ _ ⟨_, .load _ _, _, _, _, none⟩ _ _; first | refine OP.ld rfl rfl inferInstance rfl ?_ | refine OP.load rfl rfl (Sees.old0 (by assumption)) ?_ | refine OP.ldA rfl rfl inferInstance rfl ?_) | (refine OP.buildSlice rfl rfl ?_ rfl rfl (fun bs => ?_); (decide)) | refine OP.buildSlice0 rfl rfl (fun bs => ?_))
    refine Fin.ret1 (h0 := .inl rfl) rfl rfl ?_
    exact ⟨bs, 1, [], rfl, rfl⟩
  | 1, l, hm, h8, w => by
    obtain rfl : [(one, 0)] = l := by simpa [eighthC] using h8
    refine Does.enter Tryd.func45 rfl Tryd.ntmps45 rfl (St.start w) ?_
    repeat' (first | refine Fin.tail ?_ | refine Fin.then_normal ?_ | refine Fin.then_exit ?_ | refine Fin.then_ret ?_ | refine Fin.block_normal ?_ | refine Fin.block_ret ?_ | refine Fin.block_hit ?_ | refine Fin.block_miss rfl ?_ | refine Fin.loop_exit ?_ | refine Fin.loop_ret ?_ | refine WP.seq ?_ | (refine WP.regionQ (by kernel_rfl) (by kernel_rfl) ?_) | refine WP.block ?_ | refine WP.region ?_ | refine WP.skip ?_ | refine WP.exit ?_ | refine WP.ret ?_ | refine WP.label ?_ | refine WP.cond_true rfl ?_ | refine WP.cond_false rfl ?_ | (refine WP.cond_dec rfl (fun h => ?_) (fun h => ?_) <;> (try (exfalso; omega))) | (refine WP.cond_bool rfl (fun h => ?_) (fun h => ?_)) | refine WL.nil ?_ | refine WL.cons ?_ | (show OP _ _ _ _ _ _ _ ⟨_, .move _, _, _, _, none⟩ _ _; first | refine OP.mI rfl rfl ?_ | refine OP.mB rfl rfl ?_ | refine OP.mC rfl rfl ?_ | refine OP.mF rfl rfl ?_ | refine OP.mS rfl rfl ?_ | refine OP.mP rfl rfl ?_ | refine OP.mA rfl rfl ?_ | refine OP.mT rfl rfl ?_ | refine OP.mM rfl rfl ?_ | refine OP.mU rfl rfl ?_ | refine OP.move rfl rfl ?_) | (show OP _ _ _ _ _ _ _ ⟨_, .assign _, _, _, _, none⟩ _ _; first | refine OP.aI rfl rfl ?_ | refine OP.aB rfl rfl ?_ | refine OP.aC rfl rfl ?_ | refine OP.aF rfl rfl ?_ | refine OP.aS rfl rfl ?_ | refine OP.aP rfl rfl ?_ | refine OP.aA rfl rfl ?_ | refine OP.aT rfl rfl ?_ | refine OP.aM rfl rfl ?_ | refine OP.aU rfl rfl ?_ | refine OP.assign rfl rfl ?_) | refine OP.len rfl rfl rfl ?_ | (show OP _ _ _ _ _ _ _ ⟨_, .binOp _ _ _ _ _, _, _, _, none⟩ _ _; first | (refine OP.add rfl rfl rfl ?_ ?_ ?_; omega; omega) | (refine OP.sub rfl rfl rfl ?_ ?_ ?_; omega; omega) | refine OP.lss rfl rfl rfl ?_ | (refine OP.quoN rfl rfl rfl ?_ ?_ ?_ ?_; omega; omega; omega) | (refine OP.quo rfl rfl rfl ?_ ?_ ?_ ?_ ?_; omega; omega; omega; omega)) | (show OP _ _ _ _ _ _ _ ⟨_, .load _ _, _, _, _, none⟩ _ _; first | refine OP.ld rfl rfl inferInstance rfl ?_ | refine OP.load rfl rfl (Sees.old0 (by assumption)) ?_ | refine OP.ldA rfl rfl inferInstance rfl ?_) | (refine OP.buildSlice rfl rfl ?_ rfl rfl (fun bs => ?_); (decide)) | refine OP.buildSlice0 rfl rfl (fun bs => ?_))
    refine Fin.ret1 (h0 := .inl rfl) rfl rfl ?_
    exact ⟨bs, 1, [], rfl, rfl⟩
  | 2, l, hm, h8, w => by
    obtain rfl : [(one, 0)] = l := by simpa [eighthC] using h8
    refine Does.enter Tryd.func45 rfl Tryd.ntmps45 rfl (St.start w) ?_
    repeat' (first | refine Fin.tail ?_ | refine Fin.then_normal ?_ | refine Fin.then_exit ?_ | refine Fin.then_ret ?_ | refine Fin.block_normal ?_ | refine Fin.block_ret ?_ | refine Fin.block_hit ?_ | refine Fin.block_miss rfl ?_ | refine Fin.loop_exit ?_ | refine Fin.loop_ret ?_ | refine WP.seq ?_ | (refine WP.regionQ (by kernel_rfl) (by kernel_rfl) ?_) | refine WP.block ?_ | refine WP.region ?_ | refine WP.skip ?_ | refine WP.exit ?_ | refine WP.ret ?_ | refine WP.label ?_ | refine WP.cond_true rfl ?_ | refine WP.cond_false rfl ?_ | (refine WP.cond_dec rfl (fun h => ?_) (fun h => ?_) <;> (try (exfalso; omega))) | (refine WP.cond_bool rfl (fun h => ?_) (fun h => ?_)) | refine WL.nil ?_ | refine WL.cons ?_ | (show OP _ _ _ _ _ _ _ ⟨_, .move _, _, _, _, none⟩ _ _; first | refine OP.mI rfl rfl ?_ | refine OP.mB rfl rfl ?_ | refine OP.mC rfl rfl ?_ | refine OP.mF rfl rfl ?_ | refine OP.mS rfl rfl ?_ | refine OP.mP rfl rfl ?_ | refine OP.mA rfl rfl ?_ | refine OP.mT rfl rfl ?_ | refine OP.mM rfl rfl ?_ | refine OP.mU rfl rfl ?_ | refine OP.move rfl rfl ?_) | (show OP _ _ _ _ _ _ _ ⟨_, .assign _, _, _, _, none⟩ _ _; first | refine OP.aI rfl rfl ?_ | refine OP.aB rfl rfl ?_ | refine OP.aC rfl rfl ?_ | refine OP.aF rfl rfl ?_ | refine OP.aS rfl rfl ?_ | refine OP.aP rfl rfl ?_ | refine OP.aA rfl rfl ?_ | refine OP.aT rfl rfl ?_ | refine OP.aM rfl rfl ?_ | refine OP.aU rfl rfl ?_ | refine OP.assign rfl rfl ?_) | refine OP.len rfl rfl rfl ?_ | (show OP _ _ _ _ _ _ _ ⟨_, .binOp _ _ _ _ _, _, _, _, none⟩ _ _; first | (refine OP.add rfl rfl rfl ?_ ?_ ?_; omega; omega) | (refine OP.sub rfl rfl rfl ?_ ?_ ?_; omega; omega) | refine OP.lss rfl rfl rfl ?_ | (refine OP.quoN rfl rfl rfl ?_ ?_ ?_ ?_; omega; omega; omega) | (refine OP.quo rfl rfl rfl ?_ ?_ ?_ ?_ ?_; omega; omega; omega; omega)) | (show OP _ _ _ _ _ _ _ ⟨_, .load _ _, _, _, _, none⟩ _ _; first | refine OP.ld rfl rfl inferInstance rfl ?_ | refine OP.load rfl rfl (Sees.old0 (by assumption)) ?_ | refine OP.ldA rfl rfl inferInstance rfl ?_) | (refine OP.buildSlice rfl rfl ?_ rfl rfl (fun bs => ?_); (decide)) | refine OP.buildSlice0 rfl rfl (fun bs => ?_))
    refine Fin.ret1 (h0 := .inl rfl) rfl rfl ?_
    exact ⟨bs, 1, [], rfl, rfl⟩
  | 3, l, hm, h8, w => by
    unfold eighthC at h8
    simp only [Option.bind_eq_some_iff, Option.some.injEq] at h8
    obtain ⟨s, hs, q, hq, rfl⟩ := h8
    have hwq := wf_mul hq
    refine Does.enter Tryd.func45 rfl Tryd.ntmps45 rfl (St.start w) ?_
    repeat' (first | refine Fin.tail ?_ | refine Fin.then_normal ?_ | refine Fin.then_exit ?_ | refine Fin.then_ret ?_ | refine Fin.block_normal ?_ | refine Fin.block_ret ?_ | refine Fin.block_hit ?_ | refine Fin.block_miss rfl ?_ | refine Fin.loop_exit ?_ | refine Fin.loop_ret ?_ | refine WP.seq ?_ | (refine WP.regionQ (by kernel_rfl) (by kernel_rfl) ?_) | refine WP.block ?_ | refine WP.region ?_ | refine WP.skip ?_ | refine WP.exit ?_ | refine WP.ret ?_ | refine WP.label ?_ | refine WP.cond_true rfl ?_ | refine WP.cond_false rfl ?_ | (refine WP.cond_dec rfl (fun h => ?_) (fun h => ?_) <;> (try (exfalso; omega))) | (refine WP.cond_bool rfl (fun h => ?_) (fun h => ?_)) | refine WL.nil ?_ | refine WL.cons ?_ | (show OP _ _ _ _ _ _ _ ⟨_, .move _, _, _, _, none⟩ _ _; first | refine OP.mI rfl rfl ?_ | refine OP.mB rfl rfl ?_ | refine OP.mC rfl rfl ?_ | refine OP.mF rfl rfl ?_ | refine OP.mS rfl rfl ?_ | refine OP.mP rfl rfl ?_ | refine OP.mA rfl rfl ?_ | refine OP.mT rfl rfl ?_ | refine OP.mM rfl rfl ?_ | refine OP.mU rfl rfl ?_ | refine OP.move rfl rfl ?_) | (show OP _ _ _ _ _ _ _ ⟨_, .assign _, _, _, _, none⟩ _ _; first | refine OP.aI rfl rfl ?_ | refine OP.aB rfl rfl ?_ | refine OP.aC rfl rfl ?_ | refine OP.aF rfl rfl ?_ | refine OP.aS rfl rfl ?_ | refine OP.aP rfl rfl ?_ | refine OP.aA rfl rfl ?_ | refine OP.aT rfl rfl ?_ | refine OP.aM rfl rfl ?_ | refine OP.aU rfl rfl ?_ | refine OP.assign rfl rfl ?_) | (show OP _ _ _ _ _ _ _ ⟨_, .call _, _, _, _, none⟩ _ _; first | refine OP.callq _ rfl (fun w _ => step_fn 0 s (by decide) hs w) (fun _ _ h => h.1) ?_ | refine OP.callq _ rfl (fun w _ => Mul_fn (one, 0) s q hq w) (fun _ _ h => h.1) ?_ | refine OP.callq _ rfl (fun w _ => Plain_fn q hwq.1 hwq.2 w) (fun _ _ h => h.1) ?_ | refine OP.len rfl rfl rfl ?_) | (show OP _ _ _ _ _ _ _ ⟨_, .binOp _ _ _ _ _, _, _, _, none⟩ _ _; first | (refine OP.add rfl rfl rfl ?_ ?_ ?_; omega; omega) | (refine OP.sub rfl rfl rfl ?_ ?_ ?_; omega; omega) | refine OP.lss rfl rfl rfl ?_ | (refine OP.quoN rfl rfl rfl ?_ ?_ ?_ ?_; omega; omega; omega) | (refine OP.quo rfl rfl rfl ?_ ?_ ?_ ?_ ?_; omega; omega; omega; omega)) | (show OP _ _ _ _ _ _ _ ⟨_, .load _ _, _, _, _, none⟩ _ _; first | refine OP.ld rfl rfl inferInstance rfl ?_ | refine OP.load rfl rfl (Sees.old0 (by assumption)) ?_ | refine OP.ldA rfl rfl inferInstance rfl ?_) | (refine OP.buildSlice rfl rfl ?_ rfl rfl (fun bs => ?_); (decide)) | refine OP.buildSlice0 rfl rfl (fun bs => ?_))
    refine Fin.ret1 (h0 := .inl rfl) rfl rfl ?_
    exact ⟨bs, 2, [], rfl, rfl⟩
  | m + 4, l, hm, h8, w => by
    unfold eighthC at h8
    simp only [Option.bind_eq_some_iff] at h8
    obtain ⟨g, hg, s, hs, hl⟩ := h8
    have hp := pow_bd (show m + 4 ≤ 12 by omega)
    have hp0 : 16 ≤ 2 ^ (m + 4) := by rw [show m + 4 = m + 4 from rfl, Nat.pow_add]; have := Nat.two_pow_pos m; omega
    have hh := quo_nat (a := 2 ^ (m + 4)) (b := 2) (c := 2 ^ (m + 3)) (by rw [Nat.pow_succ]; omega) (by omega)
    have e8 : ((2 ^ (m + 4) : Nat) : Int) = ((8 * 2 ^ (m + 1) : Nat) : Int) := by rw [show m + 4 = m + 1 + 3 from rfl, Nat.pow_add _ _ 3]; omega
    have gl := eighth_len hg
    have g3 : 2 ^ (m + 3) ≤ 4096 := pow_bd (by omega)
    have hwg := wf_eighth hg
    have st := step_fn (m + 1) s (by omega) hs
    rw [← e8] at st
    refine Does.enter Tryd.func45 rfl Tryd.ntmps45 rfl (St.start w) ?_
    repeat' (first | refine Fin.tail ?_ | refine Fin.then_normal ?_ | refine Fin.then_exit ?_ | refine Fin.then_ret ?_ | refine Fin.block_normal ?_ | refine Fin.block_ret ?_ | refine Fin.block_hit ?_ | refine Fin.block_miss rfl ?_ | refine Fin.loop_exit ?_ | refine Fin.loop_ret ?_ | refine WP.seq ?_ | (refine WP.regionQ (by kernel_rfl) (by kernel_rfl) ?_) | refine WP.block ?_ | refine WP.region ?_ | refine WP.skip ?_ | refine WP.exit ?_ | refine WP.ret ?_ | refine WP.label ?_ | refine WP.cond_true rfl ?_ | refine WP.cond_false rfl ?_ | (refine WP.cond_dec rfl (fun h => ?_) (fun h => ?_) <;> (try (exfalso; omega))) | (refine WP.cond_bool rfl (fun h => ?_) (fun h => ?_)) | refine WL.nil ?_ | refine WL.cons ?_ | (show OP _ _ _ _ _ _ _ ⟨_, .move _, _, _, _, none⟩ _ _; first | refine OP.mI rfl rfl ?_ | refine OP.mB rfl rfl ?_ | refine OP.mC rfl rfl ?_ | refine OP.mF rfl rfl ?_ | refine OP.mS rfl rfl ?_ | refine OP.mP rfl rfl ?_ | refine OP.mA rfl rfl ?_ | refine OP.mT rfl rfl ?_ | refine OP.mM rfl rfl ?_ | refine OP.mU rfl rfl ?_ | refine OP.move rfl rfl ?_) | (show OP _ _ _ _ _ _ _ ⟨_, .assign _, _, _, _, none⟩ _ _; first | refine OP.aI rfl rfl ?_ | refine OP.aB rfl rfl ?_ | refine OP.aC rfl rfl ?_ | refine OP.aF rfl rfl ?_ | refine OP.aS rfl rfl ?_ | refine OP.aP rfl rfl ?_ | refine OP.aA rfl rfl ?_ | refine OP.aT rfl rfl ?_ | refine OP.aM rfl rfl ?_ | refine OP.aU rfl rfl ?_ | refine OP.assign rfl rfl ?_) | (show OP _ _ _ _ _ _ _ ⟨_, .call _, _, _, _, none⟩ _ _; first | (refine OP.call rfl (fun w _ => eighth_fn (m + 3) g (by omega) hg w) (fun _ _ hR => ?_); obtain ⟨hb, hcap, hsp, rfl, rfl⟩ := hR) | refine OP.callq _ rfl (fun w _ => st w) (fun _ _ h => h.1) ?_ | refine OP.len rfl rfl rfl ?_) | (show OP _ _ _ _ _ _ _ ⟨_, .binOp _ _ _ _ _, _, _, _, none⟩ _ _; first | refine OP.quoR (b := 2) (by decide) hh rfl rfl rfl ?_ | (refine OP.add rfl rfl rfl ?_ ?_ ?_; omega; omega) | (refine OP.sub rfl rfl rfl ?_ ?_ ?_; omega; omega) | refine OP.lss rfl rfl rfl ?_ | (refine OP.quoN rfl rfl rfl ?_ ?_ ?_ ?_; omega; omega; omega) | (refine OP.quo rfl rfl rfl ?_ ?_ ?_ ?_ ?_; omega; omega; omega; omega)) | (show OP _ _ _ _ _ _ _ ⟨_, .load _ _, _, _, _, none⟩ _ _; first | refine OP.ld rfl rfl inferInstance rfl ?_ | refine OP.load rfl rfl (Sees.old0 (by assumption)) ?_ | refine OP.ldA rfl rfl inferInstance rfl ?_) | (refine OP.buildSlice rfl rfl ?_ rfl rfl (fun bs => ?_); (decide)) | refine OP.buildSlice0 rfl rfl (fun bs => ?_))
    refine WP.loop [5, 6, 7, 24, 25, 26, 27, 28, 29, 30, 31, 32, 33, 34, 35, 36, 37, 38, 39, 40, 41, 42, 43, 44, 45] (fun z : Nat × List Cx × Nat × Nat × List Value => [(24, .int .i64 z.1), (5, rowV z.2.1.length z.2.2.1 z.2.2.2.1)]) (fun z => [(hb, .cells (cxs g ++ hsp).toArray 28 (0, 0))] ++ (rowM z.2.1.length z.2.2.1 (cxs z.2.1) z.2.2.2.2 28 ++ []))
      (fun z => z.1 ≤ g.length ∧ wv s g z.1 = some z.2.1 ∧ (z.2.1.length = 0 ∨ (cxs z.2.1).length + z.2.2.2.2.length = z.2.2.2.1 * 1)) (fun z => g.length - z.1) (0, [], 0, 0, []) ⟨by dsimp only; omega, rfl, .inl rfl⟩ rfl ⟨rfl, rfl, trivial⟩ ?_
    rintro ⟨i, o, ob, ocap, osp⟩ ji ⟨i1, i2, i3⟩
    dsimp only [updL] at i1 i2 i3 ⊢
    by_cases hi : i < g.length
    · obtain ⟨a, ha⟩ : ∃ a, g[i]? = some a := ⟨g[i], List.getElem?_eq_getElem hi⟩
      have wl := wv_len i1 i2
      have hca := cxs_at (sp := hsp) ha
      obtain ⟨o', ho'⟩ := wv_some (show i + 1 ≤ g.length by omega) hl
      have ho2 := ho'
      unfold wv at ho2
      rw [i2, ha] at ho2
      simp only [Option.bind_some] at ho2
      repeat' (first | refine OP.indexAddr (j := i) rfl rfl rfl rfl hi ?_ | refine OP.load rfl rfl (Sees.own (List.Mem.head _) hca) ?_ | refine Fin.tail ?_ | refine Fin.then_normal ?_ | refine Fin.then_exit ?_ | refine Fin.then_ret ?_ | refine Fin.block_normal ?_ | refine Fin.block_ret ?_ | refine Fin.block_hit ?_ | refine Fin.block_miss rfl ?_ | refine Fin.loop_exit ?_ | refine Fin.loop_ret ?_ | refine WP.seq ?_ | (refine WP.regionQ (by kernel_rfl) (by kernel_rfl) ?_) | refine WP.block ?_ | refine WP.region ?_ | refine WP.skip ?_ | refine WP.exit ?_ | refine WP.ret ?_ | refine WP.label ?_ | refine WP.cond_true rfl ?_ | refine WP.cond_false rfl ?_ | (refine WP.cond_dec rfl (fun h => ?_) (fun h => ?_) <;> (try (exfalso; omega))) | (refine WP.cond_bool rfl (fun h => ?_) (fun h => ?_)) | refine WL.nil ?_ | refine WL.cons ?_ | (show OP _ _ _ _ _ _ _ ⟨_, .move _, _, _, _, none⟩ _ _; first | refine OP.mI rfl rfl ?_ | refine OP.mB rfl rfl ?_ | refine OP.mC rfl rfl ?_ | refine OP.mF rfl rfl ?_ | refine OP.mS rfl rfl ?_ | refine OP.mP rfl rfl ?_ | refine OP.mA rfl rfl ?_ | refine OP.mT rfl rfl ?_ | refine OP.mM rfl rfl ?_ | refine OP.mU rfl rfl ?_ | refine OP.move rfl rfl ?_) | (show OP _ _ _ _ _ _ _ ⟨_, .assign _, _, _, _, none⟩ _ _; first | refine OP.aI rfl rfl ?_ | refine OP.aB rfl rfl ?_ | refine OP.aC rfl rfl ?_ | refine OP.aF rfl rfl ?_ | refine OP.aS rfl rfl ?_ | refine OP.aP rfl rfl ?_ | refine OP.aA rfl rfl ?_ | refine OP.aT rfl rfl ?_ | refine OP.aM rfl rfl ?_ | refine OP.aU rfl rfl ?_ | refine OP.assign rfl rfl ?_) | refine OP.len rfl rfl rfl ?_ | (show OP _ _ _ _ _ _ _ ⟨_, .binOp _ _ _ _ _, _, _, _, none⟩ _ _; first | (refine OP.add rfl rfl rfl ?_ ?_ ?_; omega; omega) | (refine OP.sub rfl rfl rfl ?_ ?_ ?_; omega; omega) | refine OP.lss rfl rfl rfl ?_ | (refine OP.quoN rfl rfl rfl ?_ ?_ ?_ ?_; omega; omega; omega) | (refine OP.quo rfl rfl rfl ?_ ?_ ?_ ?_ ?_; omega; omega; omega; omega)) | (show OP _ _ _ _ _ _ _ ⟨_, .load _ _, _, _, _, none⟩ _ _; first | refine OP.ld rfl rfl inferInstance rfl ?_ | refine OP.load rfl rfl (Sees.old0 (by assumption)) ?_ | refine OP.ldA rfl rfl inferInstance rfl ?_) | (refine OP.buildSlice rfl rfl ?_ rfl rfl (fun bs => ?_); (decide)) | refine OP.buildSlice0 rfl rfl (fun bs => ?_))
      refine OP.pushP (m := 1) (bytes := 16) (z := .complex .f64 0 0) (Γ1 := [_]) (len := o.length) (b := ob) (cap := ocap) (xs := cxs o) (sp := osp)
        (vs := [.complex .f64 a.1 a.2]) WL.slack rfl rfl rfl rfl rfl rfl rfl (by rw [cxs_len]; omega) i3 (by omega) (by omega) (fun b1 sp1 cap1 hl1 => ?_)
      have ex : cxs o ++ [Value.complex .f64 a.1 a.2] = cxs (o ++ [a]) := by rw [cxs_append]; rfl
      rw [ex] at hl1 ⊢
      by_cases hlast : i + 1 < g.length
      · rw [if_pos hlast] at ho2
        simp only [Option.bind_eq_some_iff, Option.some.injEq] at ho2
        obtain ⟨q, hq, rfl⟩ := ho2
        have hwq := wf_mul hq
        repeat' (first | refine Fin.tail ?_ | refine Fin.then_normal ?_ | refine Fin.then_exit ?_ | refine Fin.then_ret ?_ | refine Fin.block_normal ?_ | refine Fin.block_ret ?_ | refine Fin.block_hit ?_ | refine Fin.block_miss rfl ?_ | refine Fin.loop_exit ?_ | refine Fin.loop_ret ?_ | refine WP.seq ?_ | (refine WP.regionQ (by kernel_rfl) (by kernel_rfl) ?_) | refine WP.block ?_ | refine WP.region ?_ | refine WP.skip ?_ | refine WP.exit ?_ | refine WP.ret ?_ | refine WP.label ?_ | refine WP.cond_true rfl ?_ | refine WP.cond_false rfl ?_ | (refine WP.cond_dec rfl (fun h => ?_) (fun h => ?_) <;> (try (exfalso; omega))) | (refine WP.cond_bool rfl (fun h => ?_) (fun h => ?_)) | refine WL.nil ?_ | refine WL.cons ?_ | (show OP _ _ _ _ _ _ _ ⟨_, .move _, _, _, _, none⟩ _ _; first | refine OP.mI rfl rfl ?_ | refine OP.mB rfl rfl ?_ | refine OP.mC rfl rfl ?_ | refine OP.mF rfl rfl ?_ | refine OP.mS rfl rfl ?_ | refine OP.mP rfl rfl ?_ | refine OP.mA rfl rfl ?_ | refine OP.mT rfl rfl ?_ | refine OP.mM rfl rfl ?_ | refine OP.mU rfl rfl ?_ | refine OP.move rfl rfl ?_) | (show OP _ _ _ _ _ _ _ ⟨_, .assign _, _, _, _, none⟩ _ _; first | refine OP.aI rfl rfl ?_ | refine OP.aB rfl rfl ?_ | refine OP.aC rfl rfl ?_ | refine OP.aF rfl rfl ?_ | refine OP.aS rfl rfl ?_ | refine OP.aP rfl rfl ?_ | refine OP.aA rfl rfl ?_ | refine OP.aT rfl rfl ?_ | refine OP.aM rfl rfl ?_ | refine OP.aU rfl rfl ?_ | refine OP.assign rfl rfl ?_) | (show OP _ _ _ _ _ _ _ ⟨_, .call _, _, _, _, none⟩ _ _; first | refine OP.callq _ rfl (fun w _ => Mul_fn a s q hq w) (fun _ _ h => h.1) ?_ | refine OP.callq _ rfl (fun w _ => Plain_fn q hwq.1 hwq.2 w) (fun _ _ h => h.1) ?_ | refine OP.len rfl rfl rfl ?_) | (show OP _ _ _ _ _ _ _ ⟨_, .binOp _ _ _ _ _, _, _, _, none⟩ _ _; first | (refine OP.add rfl rfl rfl ?_ ?_ ?_; omega; omega) | (refine OP.sub rfl rfl rfl ?_ ?_ ?_; omega; omega) | refine OP.lss rfl rfl rfl ?_ | (refine OP.quoN rfl rfl rfl ?_ ?_ ?_ ?_; omega; omega; omega) | (refine OP.quo rfl rfl rfl ?_ ?_ ?_ ?_ ?_; omega; omega; omega; omega)) | (show OP _ _ _ _ _ _ _ ⟨_, .load _ _, _, _, _, none⟩ _ _; first | refine OP.ld rfl rfl inferInstance rfl ?_ | refine OP.load rfl rfl (Sees.old0 (by assumption)) ?_ | refine OP.ldA rfl rfl inferInstance rfl ?_) | (refine OP.buildSlice rfl rfl ?_ rfl rfl (fun bs => ?_); (decide)) | refine OP.buildSlice0 rfl rfl (fun bs => ?_))
        refine OP.pushP (m := 1) (bytes := 16) (z := .complex .f64 0 0) (Γ1 := [_]) (len := o.length + 1) (b := b1) (cap := cap1) (xs := cxs (o ++ [a])) (sp := sp1)
          (vs := [.complex .f64 (plainC q).1 (plainC q).2]) WL.slack rfl rfl rfl rfl rfl rfl rfl (by rw [cxs_len, List.length_append]; simp) hl1 (by omega) (by omega) (fun b2 sp2 cap2 hl2 => ?_)
        have ex2 : cxs (o ++ [a]) ++ [Value.complex .f64 (plainC q).1 (plainC q).2] = cxs (o ++ [a, plainC q]) := by rw [cxs_append, cxs_append]; simp [cxs]
        rw [ex2] at hl2 ⊢
        repeat' (first | refine Fin.tail ?_ | refine Fin.then_normal ?_ | refine Fin.then_exit ?_ | refine Fin.then_ret ?_ | refine Fin.block_normal ?_ | refine Fin.block_ret ?_ | refine Fin.block_hit ?_ | refine Fin.block_miss rfl ?_ | refine Fin.loop_exit ?_ | refine Fin.loop_ret ?_ | refine WP.seq ?_ | (refine WP.regionQ (by kernel_rfl) (by kernel_rfl) ?_) | refine WP.block ?_ | refine WP.region ?_ | refine WP.skip ?_ | refine WP.exit ?_ | refine WP.ret ?_ | refine WP.label ?_ | refine WP.cond_true rfl ?_ | refine WP.cond_false rfl ?_ | (refine WP.cond_dec rfl (fun h => ?_) (fun h => ?_) <;> (try (exfalso; omega))) | (refine WP.cond_bool rfl (fun h => ?_) (fun h => ?_)) | refine WL.nil ?_ | refine WL.cons ?_ | (show OP _ _ _ _ _ _ _ ⟨_, .move _, _, _, _, none⟩ _ _; first | refine OP.mI rfl rfl ?_ | refine OP.mB rfl rfl ?_ | refine OP.mC rfl rfl ?_ | refine OP.mF rfl rfl ?_ | refine OP.mS rfl rfl ?_ | refine OP.mP rfl rfl ?_ | refine OP.mA rfl rfl ?_ | refine OP.mT rfl rfl ?_ | refine OP.mM rfl rfl ?_ | refine OP.mU rfl rfl ?_ | refine OP.move rfl rfl ?_) | (show OP _ _ _ _ _ _ _ ⟨_, .assign _, _, _, _, none⟩ _ _; first | refine OP.aI rfl rfl ?_ | refine OP.aB rfl rfl ?_ | refine OP.aC rfl rfl ?_ | refine OP.aF rfl rfl ?_ | refine OP.aS rfl rfl ?_ | refine OP.aP rfl rfl ?_ | refine OP.aA rfl rfl ?_ | refine OP.aT rfl rfl ?_ | refine OP.aM rfl rfl ?_ | refine OP.aU rfl rfl ?_ | refine OP.assign rfl rfl ?_) | refine OP.len rfl rfl rfl ?_ | (show OP _ _ _ _ _ _ _ ⟨_, .binOp _ _ _ _ _, _, _, _, none⟩ _ _; first | (refine OP.add rfl rfl rfl ?_ ?_ ?_; omega; omega) | (refine OP.sub rfl rfl rfl ?_ ?_ ?_; omega; omega) | refine OP.lss rfl rfl rfl ?_ | (refine OP.quoN rfl rfl rfl ?_ ?_ ?_ ?_; omega; omega; omega) | (refine OP.quo rfl rfl rfl ?_ ?_ ?_ ?_ ?_; omega; omega; omega; omega)) | (show OP _ _ _ _ _ _ _ ⟨_, .load _ _, _, _, _, none⟩ _ _; first | refine OP.ld rfl rfl inferInstance rfl ?_ | refine OP.load rfl rfl (Sees.old0 (by assumption)) ?_ | refine OP.ldA rfl rfl inferInstance rfl ?_) | (refine OP.buildSlice rfl rfl ?_ rfl rfl (fun bs => ?_); (decide)) | refine OP.buildSlice0 rfl rfl (fun bs => ?_))
        have el : (o ++ [a, plainC q]).length = o.length + 1 + 1 := by simp
        refine Fin.loop_normal fun w' hst => ⟨(i + 1, o ++ [a, plainC q], b2, cap2, sp2), ⟨by dsimp only; omega, ho', ?_⟩, by dsimp only; omega, by (repeat' (first | exact Agree.refl _ _ | refine Agree.upd rfl ?_ | refine Agree.hav rfl ?_)), ⟨rfl, ?_, trivial⟩, ?_⟩
        · dsimp only; rw [el]; exact hl2
        · dsimp only; rw [el]; rfl
        · dsimp only; rw [el]; exact hst
      · rw [if_neg hlast] at ho2
        obtain rfl : o ++ [a] = o' := by simpa using ho2
        repeat' (first | refine Fin.tail ?_ | refine Fin.then_normal ?_ | refine Fin.then_exit ?_ | refine Fin.then_ret ?_ | refine Fin.block_normal ?_ | refine Fin.block_ret ?_ | refine Fin.block_hit ?_ | refine Fin.block_miss rfl ?_ | refine Fin.loop_exit ?_ | refine Fin.loop_ret ?_ | refine WP.seq ?_ | (refine WP.regionQ (by kernel_rfl) (by kernel_rfl) ?_) | refine WP.block ?_ | refine WP.region ?_ | refine WP.skip ?_ | refine WP.exit ?_ | refine WP.ret ?_ | refine WP.label ?_ | refine WP.cond_true rfl ?_ | refine WP.cond_false rfl ?_ | (refine WP.cond_dec rfl (fun h => ?_) (fun h => ?_) <;> (try (exfalso; omega))) | (refine WP.cond_bool rfl (fun h => ?_) (fun h => ?_)) | refine WL.nil ?_ | refine WL.cons ?_ | (show OP _ _ _ _ _ _ _ ⟨_, .move _, _, _, _, none⟩ _ _; first | refine OP.mI rfl rfl ?_ | refine OP.mB rfl rfl ?_ | refine OP.mC rfl rfl ?_ | refine OP.mF rfl rfl ?_ | refine OP.mS rfl rfl ?_ | refine OP.mP rfl rfl ?_ | refine OP.mA rfl rfl ?_ | refine OP.mT rfl rfl ?_ | refine OP.mM rfl rfl ?_ | refine OP.mU rfl rfl ?_ | refine OP.move rfl rfl ?_) | (show OP _ _ _ _ _ _ _ ⟨_, .assign _, _, _, _, none⟩ _ _; first | refine OP.aI rfl rfl ?_ | refine OP.aB rfl rfl ?_ | refine OP.aC rfl rfl ?_ | refine OP.aF rfl rfl ?_ | refine OP.aS rfl rfl ?_ | refine OP.aP rfl rfl ?_ | refine OP.aA rfl rfl ?_ | refine OP.aT rfl rfl ?_ | refine OP.aM rfl rfl ?_ | refine OP.aU rfl rfl ?_ | refine OP.assign rfl rfl ?_) | refine OP.len rfl rfl rfl ?_ | (show OP _ _ _ _ _ _ _ ⟨_, .binOp _ _ _ _ _, _, _, _, none⟩ _ _; first | (refine OP.add rfl rfl rfl ?_ ?_ ?_; omega; omega) | (refine OP.sub rfl rfl rfl ?_ ?_ ?_; omega; omega) | refine OP.lss rfl rfl rfl ?_ | (refine OP.quoN rfl rfl rfl ?_ ?_ ?_ ?_; omega; omega; omega) | (refine OP.quo rfl rfl rfl ?_ ?_ ?_ ?_ ?_; omega; omega; omega; omega)) | (show OP _ _ _ _ _ _ _ ⟨_, .load _ _, _, _, _, none⟩ _ _; first | refine OP.ld rfl rfl inferInstance rfl ?_ | refine OP.load rfl rfl (Sees.old0 (by assumption)) ?_ | refine OP.ldA rfl rfl inferInstance rfl ?_) | (refine OP.buildSlice rfl rfl ?_ rfl rfl (fun bs => ?_); (decide)) | refine OP.buildSlice0 rfl rfl (fun bs => ?_))
        have el : (o ++ [a]).length = o.length + 1 := by simp
        refine Fin.loop_normal fun w' hst => ⟨(i + 1, o ++ [a], b1, cap1, sp1), ⟨by dsimp only; omega, ho', ?_⟩, by dsimp only; omega, by (repeat' (first | exact Agree.refl _ _ | refine Agree.upd rfl ?_ | refine Agree.hav rfl ?_)), ⟨rfl, ?_, trivial⟩, ?_⟩
        · dsimp only; rw [el]; exact hl1
        · dsimp only; rw [el]; rfl
        · dsimp only; rw [el]; exact hst
    · have ei : i = g.length := by omega
      subst ei
      obtain rfl : o = l := by rw [i2] at hl; exact Option.some.inj hl
      have wl := wv_len i1 i2
      repeat' (first | refine Fin.tail ?_ | refine Fin.then_normal ?_ | refine Fin.then_exit ?_ | refine Fin.then_ret ?_ | refine Fin.block_normal ?_ | refine Fin.block_ret ?_ | refine Fin.block_hit ?_ | refine Fin.block_miss rfl ?_ | refine Fin.loop_exit ?_ | refine Fin.loop_ret ?_ | refine WP.seq ?_ | (refine WP.regionQ (by kernel_rfl) (by kernel_rfl) ?_) | refine WP.block ?_ | refine WP.region ?_ | refine WP.skip ?_ | refine WP.exit ?_ | refine WP.ret ?_ | refine WP.label ?_ | refine WP.cond_true rfl ?_ | refine WP.cond_false rfl ?_ | (refine WP.cond_dec rfl (fun h => ?_) (fun h => ?_) <;> (try (exfalso; omega))) | (refine WP.cond_bool rfl (fun h => ?_) (fun h => ?_)) | refine WL.nil ?_ | refine WL.cons ?_ | (show OP _ _ _ _ _ _ _ ⟨_, .move _, _, _, _, none⟩ _ _; first | refine OP.mI rfl rfl ?_ | refine OP.mB rfl rfl ?_ | refine OP.mC rfl rfl ?_ | refine OP.mF rfl rfl ?_ | refine OP.mS rfl rfl ?_ | refine OP.mP rfl rfl ?_ | refine OP.mA rfl rfl ?_ | refine OP.mT rfl rfl ?_ | refine OP.mM rfl rfl ?_ | refine OP.mU rfl rfl ?_ | refine OP.move rfl rfl ?_) | (show OP _ _ _ _ _ _ _ ⟨_, .assign _, _, _, _, none⟩ _ _; first | refine OP.aI rfl rfl ?_ | refine OP.aB rfl rfl ?_ | refine OP.aC rfl rfl ?_ | refine OP.aF rfl rfl ?_ | refine OP.aS rfl rfl ?_ | refine OP.aP rfl rfl ?_ | refine OP.aA rfl rfl ?_ | refine OP.aT rfl rfl ?_ | refine OP.aM rfl rfl ?_ | refine OP.aU rfl rfl ?_ | refine OP.assign rfl rfl ?_) | refine OP.len rfl rfl rfl ?_ | (show OP _ _ _ _ _ _ _ ⟨_, .binOp _ _ _ _ _, _, _, _, none⟩ _ _; first | (refine OP.add rfl rfl rfl ?_ ?_ ?_; omega; omega) | (refine OP.sub rfl rfl rfl ?_ ?_ ?_; omega; omega) | refine OP.lss rfl rfl rfl ?_ | (refine OP.quoN rfl rfl rfl ?_ ?_ ?_ ?_; omega; omega; omega) | (refine OP.quo rfl rfl rfl ?_ ?_ ?_ ?_ ?_; omega; omega; omega; omega)) | (show OP _ _ _ _ _ _ _ ⟨_, .load _ _, _, _, _, none⟩ _ _; first | refine OP.ld rfl rfl inferInstance rfl ?_ | refine OP.load rfl rfl (Sees.old0 (by assumption)) ?_ | refine OP.ldA rfl rfl inferInstance rfl ?_) | (refine OP.buildSlice rfl rfl ?_ rfl rfl (fun bs => ?_); (decide)) | refine OP.buildSlice0 rfl rfl (fun bs => ?_))
      refine Fin.drop (Γ' := rowM o.length ob (cxs o) osp 28) (List.Sublist.cons _ (by rw [List.append_nil]; exact List.Sublist.refl _)) ?_
      refine Fin.ret1 (h0 := .inl rfl) rfl rfl ?_
      cases ho : o.length with
      | zero => omega
      | succ q => exact ⟨ob, ocap, osp, rfl, rfl⟩

theorem tabTo_len {n : Nat} {f : List Cx} : ∀ {k : Nat} {l : List Cx}, tabTo n f k = some l → l.length = k
  | 0, l, e => by
    obtain rfl : [] = l := by simpa [tabTo] using e
    rfl
  | k + 1, l, e => by
    unfold tabTo at e
    simp only [Option.bind_eq_some_iff, Option.some.injEq] at e
    obtain ⟨l', h1, a, h2, rfl⟩ := e
    simp [tabTo_len h1]
theorem tabTo_some {n : Nat} {f : List Cx} : ∀ {i j : Nat} {l : List Cx}, i ≤ j → tabTo n f j = some l → ∃ l', tabTo n f i = some l'
  | i, 0, l, hij, e => by obtain rfl : i = 0 := by omega
                          exact ⟨l, e⟩
  | i, j + 1, l, hij, e => by
    by_cases h' : i = j + 1
    · subst h'; exact ⟨l, e⟩
    · unfold tabTo at e
      simp only [Option.bind_eq_some_iff] at e
      obtain ⟨l', h1, _⟩ := e
      exact tabTo_some (by omega) h1
theorem cxs_fill (l : List Cx) (k : Nat) (a : Cx) : setN (cxs (l ++ List.replicate (k + 1) (0, 0)) ++ []).toArray (0 + l.length * 1) [.complex .f64 a.1 a.2] = (cxs ((l ++ [a]) ++ List.replicate k (0, 0)) ++ []).toArray := by
  rw [cxs_set _ _ _ _ (by simp), List.set_append_right _ _ (Nat.le_refl _), Nat.sub_self, List.replicate_succ, List.set_cons_zero]; simp

set_option maxHeartbeats 4000000 in
theorem Table_fn (m : Nat) (l : List Cx) (hm : m ≤ 12) (ht : tabC m = some l) (w : World) :
    Does Tryd.prog 29 #[.int .i64 ((2 ^ m : Nat) : Int)] [] w fun v Γ => ∃ b, v = .tuple #[.slice (some ⟨b, 0, none⟩) l.length l.length, .int .i64 0] ∧ l.length = 2 ^ m ∧ Γ = [(b, .cells (cxs l ++ []).toArray 28 (0, 0))] := by
  unfold tabC at ht
  simp only [Option.bind_eq_some_iff] at ht
  obtain ⟨f, hf, hl⟩ := ht
  have hp := pow_bd hm
  have hp0 := Nat.two_pow_pos m
  have ll := tabTo_len hl
  have hwf := wf_eighth hf
  have h24 : 2 ^ m < 4 → 2 ^ m ≤ 2 := fun h => by
    rcases (by omega : m = 0 ∨ m = 1 ∨ 2 ≤ m) with rfl | rfl | h2
    · decide
    · decide
    · have := Nat.pow_le_pow_right (n := 2) (by decide) h2; omega
  have hri := right_of hm
  have mk : (cxs (List.replicate (2 ^ m) ((0, 0) : Cx)) ++ []).toArray = Array.replicate (2 ^ m) (Value.complex .f64 0 0) := by apply Array.ext'; simp [cxs]
  have hef := eighth_fn m f hm hf
  have hat := fun (k : Nat) (hk : k < 2 ^ m) (b o c : Nat) (r : Cx) (h : atC (2 ^ m) k f = some r) (w : World) (hr : RdC w b o f) => at_fn (2 ^ m) k hp hk f hwf b o c r h w hr h24
  obtain ⟨N, hN⟩ : ∃ N, N = 2 ^ m := ⟨_, rfl⟩
  rw [← hN] at hp hp0 ll hri mk hef hat hl ⊢
  refine Does.enter Tryd.func29 rfl Tryd.ntmps29 rfl (St.start w) ?_
  repeat' (first | refine Fin.tail ?_ | refine Fin.then_normal ?_ | refine Fin.then_exit ?_ | refine Fin.then_ret ?_ | refine Fin.block_normal ?_ | refine Fin.block_ret ?_ | refine Fin.block_hit ?_ | refine Fin.block_miss rfl ?_ | refine Fin.loop_exit ?_ | refine Fin.loop_ret ?_ | refine WP.seq ?_ | (refine WP.regionQ (by kernel_rfl) (by kernel_rfl) ?_) | refine WP.block ?_ | refine WP.region ?_ | refine WP.skip ?_ | refine WP.exit ?_ | refine WP.ret ?_ | refine WP.label ?_ | refine WP.cond_true rfl ?_ | refine WP.cond_false rfl ?_ | (refine WP.cond_dec rfl (fun h => ?_) (fun h => ?_) <;> (try (exfalso; omega))) | (refine WP.cond_bool rfl (fun h => ?_) (fun h => ?_)) | refine WL.nil ?_ | refine WL.cons ?_ | (show OP _ _ _ _ _ _ _ ⟨_, .move _, _, _, _, none⟩ _ _; first | refine OP.mI rfl rfl ?_ | refine OP.mB rfl rfl ?_ | refine OP.mC rfl rfl ?_ | refine OP.mF rfl rfl ?_ | refine OP.mS rfl rfl ?_ | refine OP.mP rfl rfl ?_ | refine OP.mA rfl rfl ?_ | refine OP.mT rfl rfl ?_ | refine OP.mM rfl rfl ?_ | refine OP.mU rfl rfl ?_ | refine OP.move rfl rfl ?_) | (show OP _ _ _ _ _ _ _ ⟨_, .assign _, _, _, _, none⟩ _ _; first | refine OP.aI rfl rfl ?_ | refine OP.aB rfl rfl ?_ | refine OP.aC rfl rfl ?_ | refine OP.aF rfl rfl ?_ | refine OP.aS rfl rfl ?_ | refine OP.aP rfl rfl ?_ | refine OP.aA rfl rfl ?_ | refine OP.aT rfl rfl ?_ | refine OP.aM rfl rfl ?_ | refine OP.aU rfl rfl ?_ | refine OP.assign rfl rfl ?_) | (show OP _ _ _ _ _ _ _ ⟨_, .call _, _, _, _, none⟩ _ _; first | refine OP.callq (.bool true) rfl (fun w' hst => right_fn (N : Int) (by omega) (by omega) w') (fun _ _ h => by rw [h.1, hri]) ?_ | (refine OP.call rfl (fun w _ => hef w) (fun _ _ hR => ?_); obtain ⟨fb, fcap, fsp, rfl, rfl⟩ := hR)) | (show OP _ _ _ _ _ _ _ ⟨_, .binOp _ _ _ _ _, _, _, _, none⟩ _ _; first | (refine OP.add rfl rfl rfl ?_ ?_ ?_; omega; omega) | refine OP.lss rfl rfl rfl ?_) | (show OP _ _ _ _ _ _ _ ⟨_, .unOp _ _ _, _, _, _, none⟩ _ _; first | refine OP.notd rfl rfl ?_ | refine OP.not rfl rfl ?_ | (refine OP.neg rfl rfl ?_ ?_ ?_; omega; omega)) | (show OP _ _ _ _ _ _ _ ⟨_, .store _ _ _, _, _, _, none⟩ _ _; first | refine OP.stI rfl rfl inferInstance rfl ?_ | refine OP.stB rfl rfl inferInstance rfl ?_ | refine OP.stC rfl rfl inferInstance rfl ?_ | refine OP.stF rfl rfl inferInstance rfl ?_ | refine OP.stS rfl rfl inferInstance rfl ?_ | refine OP.stP rfl rfl inferInstance rfl ?_ | refine OP.stM rfl rfl inferInstance rfl ?_ | refine OP.stU rfl rfl inferInstance rfl ?_ | refine OP.st (vs := [_]) rfl rfl inferInstance rfl rfl rfl ?_ | refine OP.st (vs := [_, _]) rfl rfl inferInstance rfl rfl rfl ?_ | refine OP.st (vs := [_, _, _]) rfl rfl inferInstance rfl rfl rfl ?_))
  refine OP.make1 (z := .complex .f64 0 0) (l := N) rfl rfl rfl rfl rfl (by omega) (by omega) (fun b => ?_)
  rw [← mk]
  repeat' (first | refine Fin.tail ?_ | refine Fin.then_normal ?_ | refine Fin.then_exit ?_ | refine Fin.then_ret ?_ | refine Fin.block_normal ?_ | refine Fin.block_ret ?_ | refine Fin.block_hit ?_ | refine Fin.block_miss rfl ?_ | refine Fin.loop_exit ?_ | refine Fin.loop_ret ?_ | refine WP.seq ?_ | (refine WP.regionQ (by kernel_rfl) (by kernel_rfl) ?_) | refine WP.block ?_ | refine WP.region ?_ | refine WP.skip ?_ | refine WP.exit ?_ | refine WP.ret ?_ | refine WP.label ?_ | refine WP.cond_true rfl ?_ | refine WP.cond_false rfl ?_ | (refine WP.cond_dec rfl (fun h => ?_) (fun h => ?_) <;> (try (exfalso; omega))) | (refine WP.cond_bool rfl (fun h => ?_) (fun h => ?_)) | refine WL.nil ?_ | refine WL.cons ?_ | (show OP _ _ _ _ _ _ _ ⟨_, .move _, _, _, _, none⟩ _ _; first | refine OP.mI rfl rfl ?_ | refine OP.mB rfl rfl ?_ | refine OP.mC rfl rfl ?_ | refine OP.mF rfl rfl ?_ | refine OP.mS rfl rfl ?_ | refine OP.mP rfl rfl ?_ | refine OP.mA rfl rfl ?_ | refine OP.mT rfl rfl ?_ | refine OP.mM rfl rfl ?_ | refine OP.mU rfl rfl ?_ | refine OP.move rfl rfl ?_) | (show OP _ _ _ _ _ _ _ ⟨_, .assign _, _, _, _, none⟩ _ _; first | refine OP.aI rfl rfl ?_ | refine OP.aB rfl rfl ?_ | refine OP.aC rfl rfl ?_ | refine OP.aF rfl rfl ?_ | refine OP.aS rfl rfl ?_ | refine OP.aP rfl rfl ?_ | refine OP.aA rfl rfl ?_ | refine OP.aT rfl rfl ?_ | refine OP.aM rfl rfl ?_ | refine OP.aU rfl rfl ?_ | refine OP.assign rfl rfl ?_) | (show OP _ _ _ _ _ _ _ ⟨_, .binOp _ _ _ _ _, _, _, _, none⟩ _ _; first | (refine OP.add rfl rfl rfl ?_ ?_ ?_; omega; omega) | refine OP.lss rfl rfl rfl ?_) | (show OP _ _ _ _ _ _ _ ⟨_, .unOp _ _ _, _, _, _, none⟩ _ _; first | refine OP.notd rfl rfl ?_ | refine OP.not rfl rfl ?_ | (refine OP.neg rfl rfl ?_ ?_ ?_; omega; omega)) | (show OP _ _ _ _ _ _ _ ⟨_, .store _ _ _, _, _, _, none⟩ _ _; first | refine OP.stI rfl rfl inferInstance rfl ?_ | refine OP.stB rfl rfl inferInstance rfl ?_ | refine OP.stC rfl rfl inferInstance rfl ?_ | refine OP.stF rfl rfl inferInstance rfl ?_ | refine OP.stS rfl rfl inferInstance rfl ?_ | refine OP.stP rfl rfl inferInstance rfl ?_ | refine OP.stM rfl rfl inferInstance rfl ?_ | refine OP.stU rfl rfl inferInstance rfl ?_ | refine OP.st (vs := [_]) rfl rfl inferInstance rfl rfl rfl ?_ | refine OP.st (vs := [_, _]) rfl rfl inferInstance rfl rfl rfl ?_ | refine OP.st (vs := [_, _, _]) rfl rfl inferInstance rfl rfl rfl ?_))
  refine WP.loop [6, 15, 16, 17, 18, 19, 20, 21, 22, 23, 24, 25] (fun k : Nat => [(15, .int .i64 k)]) (fun k => match tabTo N f k with | some o => [(b, .cells (cxs (o ++ List.replicate (N - k) (0, 0)) ++ []).toArray 28 (0, 0)), (fb, .cells (cxs f ++ fsp).toArray 28 (0, 0))] | none => []) (fun k => k ≤ N) (fun k => N - k) 0 (by omega) rfl ⟨rfl, trivial⟩ ?_
  rintro k jk k1
  dsimp only [updL]
  obtain ⟨o, ho⟩ := tabTo_some (show k ≤ N by omega) hl
  have ol := tabTo_len ho
  rw [ho]
  dsimp only
  by_cases hk : k < N
  · obtain ⟨o', ho'⟩ := tabTo_some (show k + 1 ≤ N by omega) hl
    have ho2 := ho'
    unfold tabTo at ho2
    rw [ho] at ho2
    simp only [Option.bind_some, Option.bind_eq_some_iff, Option.some.injEq] at ho2
    obtain ⟨a, ha, rfl⟩ := ho2
    obtain ⟨R, hR⟩ : ∃ R, N - k = R + 1 := ⟨N - k - 1, by omega⟩
    rw [hR]
    have hset := cxs_fill o R a
    rw [ol] at hset
    have hsz := cxs_size (l := o ++ List.replicate (R + 1) ((0, 0) : Cx)) (sp := []) (i := k) (by rw [List.length_append, ol, List.length_replicate]; omega)
    repeat' (first | refine OP.indexAddr (j := k) rfl rfl rfl rfl hk ?_ | (refine OP.store0 (vs := [.complex .f64 a.1 a.2]) rfl rfl rfl rfl hsz ?_; rw [hset]) | refine Fin.tail ?_ | refine Fin.then_normal ?_ | refine Fin.then_exit ?_ | refine Fin.then_ret ?_ | refine Fin.block_normal ?_ | refine Fin.block_ret ?_ | refine Fin.block_hit ?_ | refine Fin.block_miss rfl ?_ | refine Fin.loop_exit ?_ | refine Fin.loop_ret ?_ | refine WP.seq ?_ | (refine WP.regionQ (by kernel_rfl) (by kernel_rfl) ?_) | refine WP.block ?_ | refine WP.region ?_ | refine WP.skip ?_ | refine WP.exit ?_ | refine WP.ret ?_ | refine WP.label ?_ | refine WP.cond_true rfl ?_ | refine WP.cond_false rfl ?_ | (refine WP.cond_dec rfl (fun h => ?_) (fun h => ?_) <;> (try (exfalso; omega))) | (refine WP.cond_bool rfl (fun h => ?_) (fun h => ?_)) | refine WL.nil ?_ | refine WL.cons ?_ | (show OP _ _ _ _ _ _ _ ⟨_, .move _, _, _, _, none⟩ _ _; first | refine OP.mI rfl rfl ?_ | refine OP.mB rfl rfl ?_ | refine OP.mC rfl rfl ?_ | refine OP.mF rfl rfl ?_ | refine OP.mS rfl rfl ?_ | refine OP.mP rfl rfl ?_ | refine OP.mA rfl rfl ?_ | refine OP.mT rfl rfl ?_ | refine OP.mM rfl rfl ?_ | refine OP.mU rfl rfl ?_ | refine OP.move rfl rfl ?_) | (show OP _ _ _ _ _ _ _ ⟨_, .assign _, _, _, _, none⟩ _ _; first | refine OP.aI rfl rfl ?_ | refine OP.aB rfl rfl ?_ | refine OP.aC rfl rfl ?_ | refine OP.aF rfl rfl ?_ | refine OP.aS rfl rfl ?_ | refine OP.aP rfl rfl ?_ | refine OP.aA rfl rfl ?_ | refine OP.aT rfl rfl ?_ | refine OP.aM rfl rfl ?_ | refine OP.aU rfl rfl ?_ | refine OP.assign rfl rfl ?_) | refine OP.callq _ rfl (fun w' hst => hat k hk fb 0 fcap a ha w' (RdC.own hst (List.Mem.tail _ (List.Mem.head _)))) (fun _ _ h => h.1) ?_ | (show OP _ _ _ _ _ _ _ ⟨_, .binOp _ _ _ _ _, _, _, _, none⟩ _ _; first | (refine OP.add rfl rfl rfl ?_ ?_ ?_; omega; omega) | refine OP.lss rfl rfl rfl ?_) | (show OP _ _ _ _ _ _ _ ⟨_, .unOp _ _ _, _, _, _, none⟩ _ _; first | refine OP.notd rfl rfl ?_ | refine OP.not rfl rfl ?_ | (refine OP.neg rfl rfl ?_ ?_ ?_; omega; omega)) | (show OP _ _ _ _ _ _ _ ⟨_, .store _ _ _, _, _, _, none⟩ _ _; first | refine OP.stI rfl rfl inferInstance rfl ?_ | refine OP.stB rfl rfl inferInstance rfl ?_ | refine OP.stC rfl rfl inferInstance rfl ?_ | refine OP.stF rfl rfl inferInstance rfl ?_ | refine OP.stS rfl rfl inferInstance rfl ?_ | refine OP.stP rfl rfl inferInstance rfl ?_ | refine OP.stM rfl rfl inferInstance rfl ?_ | refine OP.stU rfl rfl inferInstance rfl ?_ | refine OP.st (vs := [_]) rfl rfl inferInstance rfl rfl rfl ?_ | refine OP.st (vs := [_, _]) rfl rfl inferInstance rfl rfl rfl ?_ | refine OP.st (vs := [_, _, _]) rfl rfl inferInstance rfl rfl rfl ?_))
    refine Fin.loop_normal fun w' hst => ⟨k + 1, by omega, by omega, by (repeat' (first | exact Agree.refl _ _ | refine Agree.upd rfl ?_ | refine Agree.hav rfl ?_)), ⟨rfl, trivial⟩, by rw [ho', show N - (k + 1) = R by omega]; exact hst⟩
  · have ek : k = N := by omega
    subst ek
    obtain rfl : o = l := by rw [ho] at hl; exact Option.some.inj hl
    rw [Nat.sub_self, List.replicate_zero, List.append_nil]
    repeat' (first | refine Fin.tail ?_ | refine Fin.then_normal ?_ | refine Fin.then_exit ?_ | refine Fin.then_ret ?_ | refine Fin.block_normal ?_ | refine Fin.block_ret ?_ | refine Fin.block_hit ?_ | refine Fin.block_miss rfl ?_ | refine Fin.loop_exit ?_ | refine Fin.loop_ret ?_ | refine WP.seq ?_ | (refine WP.regionQ (by kernel_rfl) (by kernel_rfl) ?_) | refine WP.block ?_ | refine WP.region ?_ | refine WP.skip ?_ | refine WP.exit ?_ | refine WP.ret ?_ | refine WP.label ?_ | refine WP.cond_true rfl ?_ | refine WP.cond_false rfl ?_ | (refine WP.cond_dec rfl (fun h => ?_) (fun h => ?_) <;> (try (exfalso; omega))) | (refine WP.cond_bool rfl (fun h => ?_) (fun h => ?_)) | refine WL.nil ?_ | refine WL.cons ?_ | (show OP _ _ _ _ _ _ _ ⟨_, .move _, _, _, _, none⟩ _ _; first | refine OP.mI rfl rfl ?_ | refine OP.mB rfl rfl ?_ | refine OP.mC rfl rfl ?_ | refine OP.mF rfl rfl ?_ | refine OP.mS rfl rfl ?_ | refine OP.mP rfl rfl ?_ | refine OP.mA rfl rfl ?_ | refine OP.mT rfl rfl ?_ | refine OP.mM rfl rfl ?_ | refine OP.mU rfl rfl ?_ | refine OP.move rfl rfl ?_) | (show OP _ _ _ _ _ _ _ ⟨_, .assign _, _, _, _, none⟩ _ _; first | refine OP.aI rfl rfl ?_ | refine OP.aB rfl rfl ?_ | refine OP.aC rfl rfl ?_ | refine OP.aF rfl rfl ?_ | refine OP.aS rfl rfl ?_ | refine OP.aP rfl rfl ?_ | refine OP.aA rfl rfl ?_ | refine OP.aT rfl rfl ?_ | refine OP.aM rfl rfl ?_ | refine OP.aU rfl rfl ?_ | refine OP.assign rfl rfl ?_) | (show OP _ _ _ _ _ _ _ ⟨_, .binOp _ _ _ _ _, _, _, _, none⟩ _ _; first | (refine OP.add rfl rfl rfl ?_ ?_ ?_; omega; omega) | refine OP.lss rfl rfl rfl ?_) | (show OP _ _ _ _ _ _ _ ⟨_, .unOp _ _ _, _, _, _, none⟩ _ _; first | refine OP.notd rfl rfl ?_ | refine OP.not rfl rfl ?_ | (refine OP.neg rfl rfl ?_ ?_ ?_; omega; omega)) | (show OP _ _ _ _ _ _ _ ⟨_, .store _ _ _, _, _, _, none⟩ _ _; first | refine OP.stI rfl rfl inferInstance rfl ?_ | refine OP.stB rfl rfl inferInstance rfl ?_ | refine OP.stC rfl rfl inferInstance rfl ?_ | refine OP.stF rfl rfl inferInstance rfl ?_ | refine OP.stS rfl rfl inferInstance rfl ?_ | refine OP.stP rfl rfl inferInstance rfl ?_ | refine OP.stM rfl rfl inferInstance rfl ?_ | refine OP.stU rfl rfl inferInstance rfl ?_ | refine OP.st (vs := [_]) rfl rfl inferInstance rfl rfl rfl ?_ | refine OP.st (vs := [_, _]) rfl rfl inferInstance rfl rfl rfl ?_ | refine OP.st (vs := [_, _, _]) rfl rfl inferInstance rfl rfl rfl ?_))
    refine Fin.drop (List.Sublist.cons_cons _ (List.nil_sublist _)) ?_
    refine Fin.ret2 (h0 := .inl rfl) rfl rfl rfl ?_
    exact ⟨b, by rw [ll]; rfl, ll, by simp⟩
end Go.Proofs.YthecbhegjdcjfaaDoor
end
section
/- Layer 3 in plain numbers: places with their bits reversed; the butterflies. Nothing of the program. -/
set_option linter.unusedVariables false
set_option maxRecDepth 100000
namespace Go.Wav
open Go.Pen

def revS (c : Nat) (A x : Int) : Int := bits .or .u64 (bits .and .u64 (x.fdiv (2 ^ c)) A) (IntKind.u64.wrap (bits .and .u64 x A * 2 ^ c))
def revB (x : Int) : Int :=
  bits .or .u64 ((revS 16 281470681808895 (revS 8 71777214294589695 x)).fdiv (2 ^ 32)) (IntKind.u64.wrap (revS 16 281470681808895 (revS 8 71777214294589695 x) * 2 ^ 32))
def revI (x : Int) : Int := revB (revS 4 1085102592571150095 (revS 2 3689348814741910323 (revS 1 6148914691236517205 x)))
def brev : Nat → Nat → Nat
  | 0, _ => 0
  | m + 1, i => (i % 2) * 2 ^ m + brev m (i / 2)
theorem rev_all : ((List.range 4096).all fun i => decide (revI (i : Int) = ((brev 12 i * 4503599627370496 : Nat) : Int))) = true := by decide +kernel
theorem brev_lt : ∀ (m i : Nat), brev m i < 2 ^ m
  | 0, i => by simp [brev]
  | m + 1, i => by
    have := brev_lt m (i / 2)
    unfold brev
    rw [Nat.pow_succ]
    rcases (by omega : i % 2 = 0 ∨ i % 2 = 1) with h | h <;> rw [h] <;> omega
theorem brev_up : ∀ (m i : Nat), i < 2 ^ m → brev (m + 1) i = brev m i * 2
  | 0, i, h => by
    obtain rfl : i = 0 := by simpa using h
    rfl
  | m + 1, i, h => by
    have h2 : i / 2 < 2 ^ m := by rw [Nat.pow_succ] at h; omega
    have ih := brev_up m (i / 2) h2
    show (i % 2) * 2 ^ (m + 1) + brev (m + 1) (i / 2) = ((i % 2) * 2 ^ m + brev m (i / 2)) * 2
    rw [ih, Nat.pow_succ, Nat.add_mul, Nat.mul_assoc]
theorem brev_12 : ∀ (d m i : Nat), i < 2 ^ m → brev (m + d) i = brev m i * 2 ^ d
  | 0, m, i, h => by simp
  | d + 1, m, i, h => by
    have h2 : i < 2 ^ (m + d) := Nat.lt_of_lt_of_le h (Nat.pow_le_pow_right (by decide) (by omega))
    rw [← Nat.add_assoc, brev_up _ _ h2, brev_12 d m i h, Nat.pow_succ, Nat.mul_assoc]
/-- What the walk makes of a place. -/
theorem rev_place {m i : Nat} (hm : m ≤ 12) (hi : i < 2 ^ m) : (revI (i : Int)).fdiv (2 ^ (64 - m)) = ((brev m i : Nat) : Int) := by
  have h12 : i < 4096 := Nat.lt_of_lt_of_le hi (Nat.le_trans (Nat.pow_le_pow_right (by decide) hm) (by decide))
  have h1 := of_decide_eq_true (List.all_eq_true.1 rev_all i (List.mem_range.2 h12))
  have h2 := brev_12 (12 - m) m i hi
  rw [show m + (12 - m) = 12 by omega] at h2
  have e : brev 12 i * 4503599627370496 = brev m i * 2 ^ (64 - m) := by
    rw [h2, Nat.mul_assoc, show (4503599627370496 : Nat) = 2 ^ 52 by decide, ← Nat.pow_add]
    congr 2; omega
  rw [h1, e, Int.fdiv_eq_ediv_of_nonneg _ (by exact Int.le_of_lt (Int.pow_pos (by decide)))]
  rw [show ((2 : Int) ^ (64 - m)) = ((2 ^ (64 - m) : Nat) : Int) by rw [Int.natCast_pow]; rfl, ← Int.natCast_ediv, Nat.mul_div_cancel _ (Nat.two_pow_pos _)]

/-- The list in the order in which the butterflies want it: the first k numbers laid. -/
def trnTo (m : Nat) (x : List Cx) : Nat → List Cx
  | 0 => List.replicate (2 ^ m) (0, 0)
  | k + 1 => (trnTo m x k).set (brev m k) (x.getD k (0, 0))
def trn (m : Nat) (x : List Cx) : List Cx := trnTo m x (2 ^ m)
theorem trnTo_len (m : Nat) (x : List Cx) : ∀ k, (trnTo m x k).length = 2 ^ m
  | 0 => by simp [trnTo]
  | k + 1 => by simp [trnTo, trnTo_len m x k]

/-- One butterfly. -/
def bf1 (w : List Cx) (n size frm k : Nat) (y : List Cx) : Option (List Cx) :=
  (w[k * (n / size)]?).bind fun a => (y[frm + k + size / 2]?).bind fun o => (mulC a o).bind fun t => (y[frm + k]?).bind fun e =>
  (addC e t).bind fun p => (subC e t).bind fun q => some ((y.set (frm + k) p).set (frm + k + size / 2) q)
def bfK (w : List Cx) (n size frm : Nat) (y : List Cx) : Nat → Option (List Cx)
  | 0 => some y
  | k + 1 => (bfK w n size frm y k).bind (bf1 w n size frm k)
def bfF (w : List Cx) (n size : Nat) (y : List Cx) : Nat → Option (List Cx)
  | 0 => some y
  | j + 1 => (bfF w n size y j).bind fun y => bfK w n size (j * size) y (size / 2)
def bfS (w : List Cx) (n : Nat) (y : List Cx) : Nat → Option (List Cx)
  | 0 => some y
  | s + 1 => (bfS w n y s).bind fun y => bfF w n (2 ^ (s + 1)) y (n / 2 ^ (s + 1))
theorem bf1_len {w : List Cx} {n size frm k : Nat} {y r : List Cx} (h : bf1 w n size frm k y = some r) : r.length = y.length := by
  unfold bf1 at h
  simp only [Option.bind_eq_some_iff, Option.some.injEq] at h
  obtain ⟨a, _, o, _, t, _, e, _, p, _, q, _, rfl⟩ := h
  simp
theorem bfK_len {w : List Cx} {n size frm : Nat} {y : List Cx} : ∀ {k : Nat} {r : List Cx}, bfK w n size frm y k = some r → r.length = y.length
  | 0, r, h => by obtain rfl : y = r := by simpa [bfK] using h
                  rfl
  | k + 1, r, h => by
    unfold bfK at h
    rw [Option.bind_eq_some_iff] at h
    obtain ⟨z, h1, h2⟩ := h
    rw [bf1_len h2, bfK_len h1]
theorem bfF_len {w : List Cx} {n size : Nat} {y : List Cx} : ∀ {k : Nat} {r : List Cx}, bfF w n size y k = some r → r.length = y.length
  | 0, r, h => by obtain rfl : y = r := by simpa [bfF] using h
                  rfl
  | k + 1, r, h => by
    unfold bfF at h
    rw [Option.bind_eq_some_iff] at h
    obtain ⟨z, h1, h2⟩ := h
    rw [bfK_len h2, bfF_len h1]
theorem bfS_len {w : List Cx} {n : Nat} {y : List Cx} : ∀ {k : Nat} {r : List Cx}, bfS w n y k = some r → r.length = y.length
  | 0, r, h => by obtain rfl : y = r := by simpa [bfS] using h
                  rfl
  | k + 1, r, h => by
    unfold bfS at h
    rw [Option.bind_eq_some_iff] at h
    obtain ⟨z, h1, h2⟩ := h
    rw [bfF_len h2, bfS_len h1]
theorem bfK_some {w : List Cx} {n size frm : Nat} {y : List Cx} : ∀ {i k : Nat} {r : List Cx}, i ≤ k → bfK w n size frm y k = some r → ∃ z, bfK w n size frm y i = some z
  | i, 0, r, h, e => by obtain rfl : i = 0 := by omega
                        exact ⟨r, e⟩
  | i, k + 1, r, h, e => by
    by_cases h' : i = k + 1
    · subst h'; exact ⟨r, e⟩
    · unfold bfK at e
      rw [Option.bind_eq_some_iff] at e
      obtain ⟨z, h1, _⟩ := e
      exact bfK_some (by omega) h1
theorem bfF_some {w : List Cx} {n size : Nat} {y : List Cx} : ∀ {i k : Nat} {r : List Cx}, i ≤ k → bfF w n size y k = some r → ∃ z, bfF w n size y i = some z
  | i, 0, r, h, e => by obtain rfl : i = 0 := by omega
                        exact ⟨r, e⟩
  | i, k + 1, r, h, e => by
    by_cases h' : i = k + 1
    · subst h'; exact ⟨r, e⟩
    · unfold bfF at e
      rw [Option.bind_eq_some_iff] at e
      obtain ⟨z, h1, _⟩ := e
      exact bfF_some (by omega) h1
theorem bfS_some {w : List Cx} {n : Nat} {y : List Cx} : ∀ {i k : Nat} {r : List Cx}, i ≤ k → bfS w n y k = some r → ∃ z, bfS w n y i = some z
  | i, 0, r, h, e => by obtain rfl : i = 0 := by omega
                        exact ⟨r, e⟩
  | i, k + 1, r, h, e => by
    by_cases h' : i = k + 1
    · subst h'; exact ⟨r, e⟩
    · unfold bfS at e
      rw [Option.bind_eq_some_iff] at e
      obtain ⟨z, h1, _⟩ := e
      exact bfS_some (by omega) h1
/-- The transform of a list of 2 ^ m numbers by these roots. -/
def waveC (m : Nat) (w x : List Cx) : Option (List Cx) := bfS w (2 ^ m) (trn m x) m
def conjs (w : List Cx) : List Cx := w.map fun a => plainC (conjC a)
def forwardC (m : Nat) (x : List Cx) : Option (List Cx) := (tabC m).bind fun w => waveC m (conjs w) x
end Go.Wav
end
