/- Texts joined: RowPairs, Pln, Plt, Plm, Plw, Ply, RefA, RefB, Plz, Plu. -/
import Derived.Test.YthecbhegjdcjfaaDoorJp17
import Derived.SizedLaws
import Derived.Deep.SlicePairs
section
/- A list of pairs of numbers of 32 bits, opened. -/
set_option linter.unusedVariables false
set_option maxRecDepth 100000
namespace Go.Proofs.YthecbhegjdcjfaaDoor
open Go.ChangeShapes Go.WideShapes Go.ChangeAt Go.RowKit Go.Joins Go.Pen Go.Deep Go.Wav

theorem bytesA2 : Tryd.prog.bytesOf 43 = 8 := by kernel_rfl
/-- A list of pairs, opened. -/
theorem open_pairs32 {H : Type} {enc : TypeId × Value → H} {W : World} {fuel : Nat} {cs : List Value} {x : DataW H × List MemPlace} (h : DataW.trod enc Tryd.prog W 0 (fun _ => true) true fuel 22 cs = some x) :
    ∃ (a : Option Addr) (xs : List (Int × Int)) (c b o : Nat), cs = [.slice a xs.length c] ∧ (0 < xs.length → a = some ⟨b, o, none⟩) ∧ RdP W b o xs ∧ In32 xs ∧
      (xs.length = 0 ∨ ∃ el sp, x.1 = .slice el sp ∧ xs.length ≤ el.length) := by
  rcases open_slice Tryd.underlying22 h with ⟨rfl, rfl⟩ | ⟨a, len, cap, m, q, D, Pl, rfl, hb, hl, hm, hmm, rfl, hx⟩
  · exact ⟨none, [], 0, 0, 0, rfl, fun h => absurd h (by simp), ⟨fun i v h => by simp at h⟩, fun v h => by simp at h, .inl rfl⟩
  · have hm' : m = cap := by rw [hmm, if_pos rfl]
    subst hm'
    have key : ∀ i, i < len → ∃ p : Int × Int, W.cell? (a.add (i * 2)) = some (.int .i32 p.1) ∧ W.cell? (a.add (i * 2 + 1)) = some (.int .i32 p.2) ∧
        (-2147483648 ≤ p.1 ∧ p.1 ≤ 2147483647) ∧ (-2147483648 ≤ p.2 ∧ p.2 ≤ 2147483647) := by
      intro i hi
      obtain ⟨cs', h1, h2⟩ := hx i (by omega)
      rw [cA2] at h1
      obtain ⟨_, hlen, hcell⟩ := World.cells?_some h1
      obtain ⟨ys, k, rfl, hxe, _, hn, hel⟩ := DataW.trod_array Tryd.underlying43 h2
      rw [cI32] at hel
      match ys, hn, cs', hlen with
      | [y0, y1], _, [v0, v1], _ =>
        obtain ⟨u, eu, _, wu⟩ := DataW.trod_int Tryd.underlying21 (hel 0 (by decide))
        obtain ⟨v, ev, _, wv⟩ := DataW.trod_int Tryd.underlying21 (hel 1 (by decide))
        simp at eu ev
        subst eu ev
        have e0 := hcell 0 (by omega)
        have e1 := hcell 1 (by omega)
        rw [add_add] at e0 e1
        exact ⟨(u, v), by simpa using e0, by simpa using e1, bounds_i32 wu, bounds_i32 wv⟩
    obtain ⟨pf, hpf⟩ := choose_lt key
    have hspot : 0 < len → a = ⟨a.block, a.off, none⟩ := by
      intro h0
      have := (hpf 0 h0).1
      have e : a.spot = none := by
        obtain ⟨ab, ao, sp⟩ := a
        cases sp with
        | none => rfl
        | some s =>
          exfalso
          have h := this
          unfold World.cell? at h
          cases hb : W.heap[(({ block := ab, off := ao, spot := some s } : Addr).add (0 * 2)).block]? with
          | none => rw [hb] at h; cases h
          | some o =>
            rw [hb] at h
            cases o with
            | cells c _ _ => cases h
            | _ => cases h
      obtain ⟨ab, ao, sp⟩ := a
      simp only at e; subst e; rfl
    have hxl : ((List.range len).map pf).length = len := by simp
    refine ⟨some a, (List.range len).map pf, m, a.block, a.off, by rw [hxl], fun h => by rw [hxl] at h; rw [hspot h], ⟨fun i v hv => ?_⟩, fun v hv => ?_, .inr ⟨_, _, rfl, by rw [hxl, List.length_map, List.length_range]; exact Nat.le_refl _⟩⟩
    · have hi : i < len := by rw [← hxl]; exact (List.getElem?_eq_some_iff.1 hv).1
      rw [List.getElem?_map, List.getElem?_range hi] at hv
      obtain rfl := Option.some.inj hv
      have h1 := (hpf i hi).1
      have h2 := (hpf i hi).2.1
      rw [hspot (by omega), add_mk] at h1 h2
      refine ⟨?_, ?_⟩
      · rw [Nat.zero_mul, Nat.add_zero]; exact h1
      · rw [Nat.one_mul, Nat.add_assoc]; exact h2
    · rw [List.mem_map] at hv
      obtain ⟨i, hi, rfl⟩ := hv
      exact (hpf i (List.mem_range.1 hi)).2.2
end Go.Proofs.YthecbhegjdcjfaaDoor
end
section
/- Fields in plain numbers: rows and columns by a transform. Nothing of the program. -/
set_option linter.unusedVariables false
set_option maxRecDepth 100000
namespace Go.Cyc
open Go.Flt Go.Qc Go.Wav Go.Pen

/-! lanes -/
def lanL (N : Nat) (pos : Nat → Nat → Nat) (c : List Cx) (i : Nat) : List Cx := (List.range N).map fun k => c.getD (pos i k) (0, 0)
def putL (pos : Nat → Nat → Nat) (i : Nat) (r c : List Cx) : Nat → List Cx
  | 0 => c
  | k + 1 => (putL pos i r c k).set (pos i k) (r.getD k (0, 0))
/-- The first i lanes by a transform. -/
def lanTo (f : List Cx → Option (List Cx)) (N : Nat) (pos : Nat → Nat → Nat) (c : List Cx) : Nat → Option (List Cx)
  | 0 => some c
  | i + 1 => (lanTo f N pos c i).bind fun d => (f (lanL N pos d i)).bind fun r => some (putL pos i r d N)
theorem lanL_len (N : Nat) (pos : Nat → Nat → Nat) (c : List Cx) (i : Nat) : (lanL N pos c i).length = N := by simp [lanL]
theorem lanL_get {N : Nat} {pos : Nat → Nat → Nat} {c : List Cx} {i k : Nat} (h : k < N) : (lanL N pos c i)[k]? = some (c.getD (pos i k) (0, 0)) := by
  unfold lanL
  rw [List.getElem?_map, List.getElem?_range h]; rfl
theorem putL_len (pos : Nat → Nat → Nat) (i : Nat) (r c : List Cx) : ∀ k, (putL pos i r c k).length = c.length
  | 0 => rfl
  | k + 1 => by unfold putL; rw [List.length_set, putL_len pos i r c k]
/-- Places of lanes: no two alike, all within the field. -/
structure Lay (N : Nat) (pos : Nat → Nat → Nat) : Prop where
  inj : ∀ i k i' k', i < N → k < N → i' < N → k' < N → pos i k = pos i' k' → i = i' ∧ k = k'
  lt : ∀ i k, i < N → k < N → pos i k < N * N
theorem putL_get {N : Nat} {pos : Nat → Nat → Nat} (hp : Lay N pos) {i : Nat} (hi : i < N) {r c : List Cx} (hc : c.length = N * N) : ∀ k, k ≤ N → ∀ i' k', i' < N → k' < N →
    (putL pos i r c k)[pos i' k']? = if i' = i ∧ k' < k then some (r.getD k' (0, 0)) else c[pos i' k']?
  | 0, _, i', k', _, _ => by rw [if_neg (by omega)]; rfl
  | k + 1, hk, i', k', hi', hk' => by
    have ih := putL_get hp hi (r := r) hc k (by omega) i' k' hi' hk'
    unfold putL
    by_cases he : i' = i ∧ k' = k
    · obtain ⟨rfl, rfl⟩ := he
      rw [List.getElem?_set_self (by rw [putL_len, hc]; exact hp.lt _ _ hi' hk'), if_pos ⟨rfl, by omega⟩]
    · rw [List.getElem?_set_ne (fun h => by
        have := hp.inj i k i' k' hi (by omega) hi' hk' h
        exact he ⟨this.1.symm, this.2.symm⟩), ih]
      by_cases hh : i' = i ∧ k' < k
      · rw [if_pos hh, if_pos ⟨hh.1, by omega⟩]
      · rw [if_neg hh, if_neg (by omega)]
/-- All lanes done: what holds of each. -/
theorem lan_get {f : List Cx → Option (List Cx)} {N : Nat} {pos : Nat → Nat → Nat} (hp : Lay N pos) {c : List Cx} (hc : c.length = N * N) {Pr : Nat → List Cx → Prop}
    (hf : ∀ i, i < N → ∃ r, f (lanL N pos c i) = some r ∧ r.length = N ∧ Pr i r) :
    ∃ d, lanTo f N pos c N = some d ∧ d.length = N * N ∧ ∀ i, i < N → ∃ r, f (lanL N pos c i) = some r ∧ r.length = N ∧ Pr i r ∧ ∀ k, k < N → d[pos i k]? = r[k]? := by
  have go : ∀ j, j ≤ N → ∃ d, lanTo f N pos c j = some d ∧ d.length = N * N ∧ (∀ i, i < j → ∃ r, f (lanL N pos c i) = some r ∧ r.length = N ∧ Pr i r ∧ ∀ k, k < N → d[pos i k]? = r[k]?) ∧ ∀ i k, j ≤ i → i < N → k < N → d[pos i k]? = c[pos i k]? := by
    intro j
    induction j with
    | zero => intro _; exact ⟨c, rfl, hc, fun i hi => absurd hi (by omega), fun i k _ _ _ => rfl⟩
    | succ j ih =>
      intro hj
      obtain ⟨d, e, dl, d1, d2⟩ := ih (by omega)
      obtain ⟨r, hr, rl, pr⟩ := hf j (by omega)
      have hl : lanL N pos d j = lanL N pos c j := by
        unfold lanL
        refine List.map_congr_left fun k hk => ?_
        rw [List.mem_range] at hk
        rw [List.getD_eq_getElem?_getD, List.getD_eq_getElem?_getD, d2 j k (by omega) (by omega) hk]
      refine ⟨putL pos j r d N, by unfold lanTo; rw [e, Option.bind_some, hl, hr, Option.bind_some], by rw [putL_len, dl], fun i hi => ?_, fun i k h1 h2 h3 => ?_⟩
      · by_cases hij : i < j
        · obtain ⟨r', g1, g2, g3, g4⟩ := d1 i hij
          refine ⟨r', g1, g2, g3, fun k hk => ?_⟩
          rw [putL_get hp (by omega) dl N (Nat.le_refl _) i k (by omega) hk, if_neg (by omega)]
          exact g4 k hk
        · obtain rfl : i = j := by omega
          refine ⟨r, hr, rl, pr, fun k hk => ?_⟩
          rw [putL_get hp (by omega) dl N (Nat.le_refl _) i k (by omega) hk, if_pos ⟨rfl, hk⟩, List.getD_eq_getElem?_getD, List.getElem?_eq_getElem (by omega)]
          rfl
      · rw [putL_get hp (by omega) dl N (Nat.le_refl _) i k h2 h3, if_neg (by omega)]
        exact d2 i k (by omega) h2 h3
  obtain ⟨d, e, dl, d1, _⟩ := go N (Nat.le_refl _)
  exact ⟨d, e, dl, d1⟩
def rowP (N : Nat) (i k : Nat) : Nat := i * N + k * 1
def colP (N : Nat) (i k : Nat) : Nat := i * 1 + k * N
theorem row_lay (N : Nat) : Lay N (rowP N) where
  inj i k i' k' h1 h2 h3 h4 h := by unfold rowP at h; rw [Nat.mul_one, Nat.mul_one] at h; exact place_inj h2 h4 h
  lt i k h1 h2 := by
    unfold rowP
    have := Nat.mul_le_mul_right N (show i + 1 ≤ N by omega)
    rw [Nat.add_mul, Nat.one_mul] at this; omega
theorem col_lay (N : Nat) : Lay N (colP N) where
  inj i k i' k' h1 h2 h3 h4 h := by
    unfold colP at h
    rw [Nat.mul_one, Nat.mul_one, Nat.add_comm i, Nat.add_comm i'] at h
    have := place_inj h1 h3 h
    exact ⟨this.2, this.1⟩
  lt i k h1 h2 := by
    unfold colP
    have := Nat.mul_le_mul_right N (show k + 1 ≤ N by omega)
    rw [Nat.add_mul, Nat.one_mul] at this; omega
theorem col_row (N i k : Nat) : colP N i k = rowP N k i := by unfold colP rowP; omega
/-- Rows, then columns. -/
def bothC (f : List Cx → Option (List Cx)) (N : Nat) (c : List Cx) : Option (List Cx) := (lanTo f N (rowP N) c N).bind fun d => lanTo f N (colP N) d N

/-! fields -/
/-- A field whose numbers are near to X y x. -/
structure NearG (c : List Cx) (m : Nat) (X : Nat → Nat → Q2) (E : Rat) : Prop where
  len : c.length = 2 ^ m * 2 ^ m
  at_ : ∀ y x, y < 2 ^ m → x < 2 ^ m → ∃ a, c[rowP (2 ^ m) y x]? = some a ∧ Ok a ∧ bq (cv a - X y x) E
/-- A transform of lists. -/
structure Opr (f : List Cx → Option (List Cx)) (m : Nat) (T : (Nat → Q2) → Nat → Q2) (P : Nat) (E g : Rat) : Prop where
  run : ∀ x Xl, Is x m Xl → (∀ j, j < 2 ^ m → bq (Xl j) (2 ^ P)) → ∃ r, f x = some r ∧ Near r m (T Xl) E
  lin : ∀ A B e k, k < 2 ^ m → (∀ j, j < 2 ^ m → bq (A j - B j) e) → bq (T A k - T B k) (g * e)
theorem rows_near {f : List Cx → Option (List Cx)} {m P : Nat} {T : (Nat → Q2) → Nat → Q2} {E g : Rat} (hf : Opr f m T P E g) {c : List Cx} {X : Nat → Nat → Q2} {E0 B : Rat} (hc : NearG c m X E0) (hX : ∀ y x, y < 2 ^ m → x < 2 ^ m → bq (X y x) B) (hB : E0 + B ≤ 2 ^ P) :
    ∃ d, lanTo f (2 ^ m) (rowP (2 ^ m)) c (2 ^ m) = some d ∧ NearG d m (fun y u => T (X y) u) (E + g * E0) := by
  obtain ⟨d, h1, h2, h3⟩ := lan_get (f := f) (row_lay (2 ^ m)) hc.len (Pr := fun y r => Near r m (T (X y)) (E + g * E0)) (fun y hy => by
    have hget : ∀ x, x < 2 ^ m → ∃ a, (lanL (2 ^ m) (rowP (2 ^ m)) c y)[x]? = some a ∧ Ok a ∧ bq (cv a - X y x) E0 := fun x hx => by
      obtain ⟨a, g1, g2, g3⟩ := hc.at_ y x hy hx
      exact ⟨a, by rw [lanL_get hx, List.getD_eq_getElem?_getD, g1]; rfl, g2, g3⟩
    have hn : Near (lanL (2 ^ m) (rowP (2 ^ m)) c y) m (X y) E0 := ⟨lanL_len _ _ _ _, hget⟩
    have hd : ∀ j, j < 2 ^ m → bq (cv ((lanL (2 ^ m) (rowP (2 ^ m)) c y).getD j (0, 0)) - X y j) E0 := fun j hj => by
      obtain ⟨a, g1, g2, g3⟩ := hget j hj
      rw [List.getD_eq_getElem?_getD, g1]; exact g3
    obtain ⟨r, r1, r2⟩ := hf.run _ _ hn.is (fun j hj => ((hd j hj).of (hX y j hy hj)).mono hB)
    refine ⟨r, r1, r2.len, r2.len, fun k hk => ?_⟩
    obtain ⟨a, g1, g2, g3⟩ := r2.at_ k hk
    exact ⟨a, g1, g2, g3.tri (hf.lin _ _ _ k hk hd)⟩)
  refine ⟨d, h1, h2, fun y x hy hx => ?_⟩
  obtain ⟨r, _, _, r3, r4⟩ := h3 y hy
  obtain ⟨a, g1, g2, g3⟩ := r3.at_ x hx
  exact ⟨a, by rw [r4 x hx, g1], g2, g3⟩
theorem cols_near {f : List Cx → Option (List Cx)} {m P : Nat} {T : (Nat → Q2) → Nat → Q2} {E g : Rat} (hf : Opr f m T P E g) {c : List Cx} {X : Nat → Nat → Q2} {E0 B : Rat} (hc : NearG c m X E0) (hX : ∀ y x, y < 2 ^ m → x < 2 ^ m → bq (X y x) B) (hB : E0 + B ≤ 2 ^ P) :
    ∃ d, lanTo f (2 ^ m) (colP (2 ^ m)) c (2 ^ m) = some d ∧ NearG d m (fun v u => T (fun y => X y u) v) (E + g * E0) := by
  obtain ⟨d, h1, h2, h3⟩ := lan_get (f := f) (col_lay (2 ^ m)) hc.len (Pr := fun u r => Near r m (T (fun y => X y u)) (E + g * E0)) (fun u hu => by
    have hget : ∀ y, y < 2 ^ m → ∃ a, (lanL (2 ^ m) (colP (2 ^ m)) c u)[y]? = some a ∧ Ok a ∧ bq (cv a - X y u) E0 := fun y hy => by
      obtain ⟨a, g1, g2, g3⟩ := hc.at_ y u hy hu
      exact ⟨a, by rw [lanL_get hy, List.getD_eq_getElem?_getD, col_row, g1]; rfl, g2, g3⟩
    have hn : Near (lanL (2 ^ m) (colP (2 ^ m)) c u) m (fun y => X y u) E0 := ⟨lanL_len _ _ _ _, hget⟩
    have hd : ∀ j, j < 2 ^ m → bq (cv ((lanL (2 ^ m) (colP (2 ^ m)) c u).getD j (0, 0)) - X j u) E0 := fun j hj => by
      obtain ⟨a, g1, g2, g3⟩ := hget j hj
      rw [List.getD_eq_getElem?_getD, g1]; exact g3
    obtain ⟨r, r1, r2⟩ := hf.run _ _ hn.is (fun j hj => ((hd j hj).of (hX j u hj hu)).mono hB)
    refine ⟨r, r1, r2.len, r2.len, fun k hk => ?_⟩
    obtain ⟨a, g1, g2, g3⟩ := r2.at_ k hk
    exact ⟨a, g1, g2, g3.tri (hf.lin _ (fun y => X y u) _ k hk hd)⟩)
  refine ⟨d, h1, h2, fun y x hy hx => ?_⟩
  obtain ⟨r, _, _, r3, r4⟩ := h3 x hx
  obtain ⟨a, g1, g2, g3⟩ := r3.at_ y hy
  exact ⟨a, by rw [← col_row, r4 y hy, g1], g2, g3⟩
/-- The transform there. -/
theorem opr_there {m P : Nat} (hm : m ≤ 12) (hP : P ≤ 500) : Opr (forwardC m) m (fun X k => Fw X m k) P (2 ^ P * G m) (3 / 2 * 2 ^ m) where
  run x Xl hx hb := by
    have hx' : Is x m fun j => cv (x.getD j (0, 0)) := ⟨hx.len, fun j a ha => ⟨(hx.at_ j a ha).1, by
      show _ = cv (x.getD j (0, 0))
      rw [List.getD_eq_getElem?_getD, ha]; rfl⟩⟩
    have he : ∀ j, j < 2 ^ m → cv (x.getD j (0, 0)) = Xl j := fun j hj => by
      have hlt : j < x.length := by rw [hx.len]; exact hj
      rw [List.getD_eq_getElem?_getD, List.getElem?_eq_getElem hlt]
      exact (hx.at_ j _ (List.getElem?_eq_getElem hlt)).2
    obtain ⟨r, r1, r2⟩ := forward_err hP hm hx' (fun j => by
      by_cases hj : j < 2 ^ m
      · rw [he j hj]; exact hb j hj
      · rw [List.getD_eq_getElem?_getD, List.getElem?_eq_none (by rw [hx.len]; omega)]
        show bq (cv (0, 0)) _
        rw [zero_cv]; exact bq.zero.mono (Rat.le_of_lt (pow_pos2 P)))
    refine ⟨r, r1, r2.len, fun k hk => ?_⟩
    obtain ⟨a, g1, g2, g3⟩ := r2.at_ k hk
    refine ⟨a, g1, g2, ?_⟩
    have : Fw (fun j => cv (x.getD j (0, 0))) m k = Fw Xl m k := by
      unfold Fw
      exact qsum_congr fun i hi => by dsimp only; rw [he i hi]
    rw [this] at g3
    exact g3
  lin A B e k hk h := by
    show bq (Fw A m k - Fw B m k) _
    rw [Fw_sub]
    have := Fw_bd (k := k) h
    exact this.mono (by generalize (2 : Rat) ^ m = q; grind)
/-- The way back, scaled. -/
def okB (a : Cx) : Bool := fin2 a && decide (a.1 < 18446744073709551616) && decide (a.2 < 18446744073709551616)
def backS (m : Nat) (x : List Cx) : Option (List Cx) := (backT m x).bind fun z => if z.all okB = true then some (sclL m z) else none
theorem okB_of {a : Cx} (h : Ok a) : okB a = true := by
  unfold okB
  rw [h.f, decide_eq_true h.w.1, decide_eq_true h.w.2]; rfl
theorem ok_okB {a : Cx} (h : okB a = true) : Ok a := by
  unfold okB at h
  simp only [Bool.and_eq_true, decide_eq_true_eq] at h
  exact ⟨h.1.1, h.1.2, h.2⟩
theorem opr_back {m P k0 : Nat} (hm : m ≤ 12) (hP : P ≤ 500) (hk0 : k0 ≤ 900) (hlt : 3 / 2 * 2 ^ P + 2 ^ P * G m / 2 ^ m < 2 ^ k0) :
    Opr (backS m) m (fun X k => sc (1 / 2 ^ m) (Bk X m k)) P (2 ^ P * G m / 2 ^ m + (ulp k0 + 1 / 2251799813685248)) (3 / 2) where
  run x Xl hx hb := by
    have hx' : Is x m fun j => cv (x.getD j (0, 0)) := ⟨hx.len, fun j a ha => ⟨(hx.at_ j a ha).1, by
      show _ = cv (x.getD j (0, 0))
      rw [List.getD_eq_getElem?_getD, ha]; rfl⟩⟩
    have he : ∀ j, j < 2 ^ m → cv (x.getD j (0, 0)) = Xl j := fun j hj => by
      have hl : j < x.length := by rw [hx.len]; exact hj
      rw [List.getD_eq_getElem?_getD, List.getElem?_eq_getElem hl]
      exact (hx.at_ j _ (List.getElem?_eq_getElem hl)).2
    obtain ⟨r, r1, r2⟩ := back_err hP hm hx' (fun j => by
      by_cases hj : j < 2 ^ m
      · rw [he j hj]; exact hb j hj
      · rw [List.getD_eq_getElem?_getD, List.getElem?_eq_none (by rw [hx.len]; omega)]
        show bq (cv (0, 0)) _
        rw [zero_cv]; exact bq.zero.mono (Rat.le_of_lt (pow_pos2 P)))
    have hall : r.all okB = true := List.all_eq_true.2 fun a ha => by
      obtain ⟨i, hi⟩ := List.mem_iff_getElem?.1 ha
      exact okB_of (r2.is.at_ i a hi).1
    refine ⟨sclL m r, by unfold backS; rw [r1, Option.bind_some, if_pos hall], by unfold sclL; rw [List.length_map, r2.len], fun k hk => ?_⟩
    obtain ⟨a, g1, g2, g3⟩ := r2.at_ k hk
    have hBk : Bk (fun j => cv (x.getD j (0, 0))) m k = Bk Xl m k := by
      unfold Bk
      exact qsum_congr fun i hi => by dsimp only; rw [he i hi]
    rw [hBk] at g3
    have hq := pow_pos2 m
    have hsc : sc (2 ^ m) (sc (1 / 2 ^ m) (Bk Xl m k)) = Bk Xl m k := by
      have e1 : (2 : Rat) ^ m * (1 / 2 ^ m) = 1 := by rw [Rat.mul_comm]; exact Rat.div_mul_cancel (Rat.ne_of_gt hq)
      generalize (2 : Rat) ^ m = q at *
      generalize (1 : Rat) / q = t at *
      ext <;> simp <;> grind
    have hV : bq (sc (1 / 2 ^ m) (Bk Xl m k)) (3 / 2 * 2 ^ P) := by
      have b := Bk_bd (k := k) hb
      have e1 : (2 : Rat) ^ m * (1 / 2 ^ m) = 1 := by rw [Rat.mul_comm]; exact Rat.div_mul_cancel (Rat.ne_of_gt hq)
      have ht : bd (1 / (2 : Rat) ^ m) (1 / 2 ^ m) := by
        have h0 : 0 < 1 / (2 : Rat) ^ m := by
          rw [Rat.div_def, Rat.one_mul]; exact Rat.inv_pos.2 hq
        exact ⟨by grind, Rat.le_refl⟩
      have e2 : 1 / (2 : Rat) ^ m * (3 / 2 * (2 ^ m * 2 ^ P)) = 3 / 2 * 2 ^ P := by
        generalize (1 : Rat) / 2 ^ m = t at *
        generalize (2 : Rat) ^ m = q at *
        generalize (2 : Rat) ^ P = p at *
        have : t * (3 / 2 * (q * p)) = 3 / 2 * ((q * t) * p) := by grind
        rw [this, e1]; grind
      have b1 := bd_mul ht b.r
      have b2 := bd_mul ht b.i
      rw [e2] at b1 b2
      exact ⟨b1, b2⟩
    have hE : bq (cv a - sc (2 ^ m) (sc (1 / 2 ^ m) (Bk Xl m k))) (2 ^ m * (2 ^ P * G m / 2 ^ m)) := by
      rw [hsc]
      have e1 : (2 : Rat) ^ m * (2 ^ P * G m / 2 ^ m) = 2 ^ P * G m := by rw [Rat.mul_comm]; exact Rat.div_mul_cancel (Rat.ne_of_gt hq)
      rw [e1]; exact g3
    obtain ⟨s1, s2⟩ := scl_err (k := k0) hm hk0 g2 hE hV hlt
    exact ⟨_, by unfold sclL; rw [List.getElem?_map, g1]; rfl, s1, s2⟩
  lin A B e k hk h := by
    show bq (sc (1 / 2 ^ m) (Bk A m k) - sc (1 / 2 ^ m) (Bk B m k)) _
    have e0 : sc (1 / 2 ^ m) (Bk A m k) - sc (1 / 2 ^ m) (Bk B m k) = sc (1 / 2 ^ m) (Bk A m k - Bk B m k) := by
      generalize (1 : Rat) / 2 ^ m = t
      ext <;> simp <;> grind
    rw [e0, Bk_sub]
    have b := Bk_bd (k := k) h
    have hq := pow_pos2 m
    have e1 : (2 : Rat) ^ m * (1 / 2 ^ m) = 1 := by rw [Rat.mul_comm]; exact Rat.div_mul_cancel (Rat.ne_of_gt hq)
    have ht : bd (1 / (2 : Rat) ^ m) (1 / 2 ^ m) := by
      have h0 : 0 < 1 / (2 : Rat) ^ m := by
        rw [Rat.div_def, Rat.one_mul]; exact Rat.inv_pos.2 hq
      exact ⟨by grind, Rat.le_refl⟩
    have e2 : 1 / (2 : Rat) ^ m * (3 / 2 * (2 ^ m * e)) = 3 / 2 * e := by
      generalize (1 : Rat) / 2 ^ m = t at *
      generalize (2 : Rat) ^ m = q at *
      have : t * (3 / 2 * (q * e)) = 3 / 2 * ((q * t) * e) := by grind
      rw [this, e1]; grind
    have b1 := bd_mul ht b.r
    have b2 := bd_mul ht b.i
    rw [e2] at b1 b2
    exact ⟨b1, b2⟩
end Go.Cyc
end
section
/- Fields of whole numbers, there and back; rows and columns exchanged. Nothing of the program. -/
set_option linter.unusedVariables false
set_option maxRecDepth 100000
namespace Go.Cyc
open Go.Flt Go.Qc Go.Wav Go.Pen

/-- The sums of the transform of a field. -/
def F2 (X : Nat → Nat → Q2) (m v u : Nat) : Q2 := Fw (fun y => Fw (X y) m u) m v
def Bs (X : Nat → Q2) (m k : Nat) : Q2 := sc (1 / 2 ^ m) (Bk X m k)
/-- The error of a field's transform. -/
def E2 (m : Nat) : Rat := 2 ^ (21 + m) * G m + 3 / 2 * 2 ^ m * (2 ^ 20 * G m)
theorem p21 (m : Nat) : (2 : Rat) ^ (21 + m) = 2097152 * 2 ^ m := by
  rw [← cast_pow, Nat.pow_add, Rat.natCast_mul, cast_pow m]
  congr 1
theorem one_le_pow (m : Nat) : 1 ≤ (2 : Rat) ^ m := by
  rw [← cast_pow]
  have : ((1 : Nat) : Rat) ≤ ((2 ^ m : Nat) : Rat) := Rat.natCast_le_natCast.2 (Nat.two_pow_pos m)
  exact this
theorem G5 : ∀ m, m < 6 → 2 ^ 20 * G m ≤ 1 / 1048576 ∧ E2 m ≤ 1 / 8192 := by decide +kernel
theorem plane_there {m : Nat} (hm : m ≤ 5) {c : List Cx} {X : Nat → Nat → Q2} (hc : NearG c m X 0) (hX : ∀ y x, y < 2 ^ m → x < 2 ^ m → bq (X y x) (2 ^ 20)) :
    ∃ d y, lanTo (forwardC m) (2 ^ m) (rowP (2 ^ m)) c (2 ^ m) = some d ∧ lanTo (forwardC m) (2 ^ m) (colP (2 ^ m)) d (2 ^ m) = some y ∧ NearG d m (fun y u => Fw (X y) m u) (2 ^ 20 * G m) ∧ NearG y m (F2 X m) (E2 m) := by
  obtain ⟨d, d1, d2⟩ := rows_near (opr_there (m := m) (P := 20) (by omega) (by decide)) hc hX (by rw [Rat.zero_add]; exact Rat.le_refl)
  have d3 : NearG d m (fun y u => Fw (X y) m u) (2 ^ 20 * G m) := ⟨d2.len, fun y x hy hx => by
    obtain ⟨a, g1, g2, g3⟩ := d2.at_ y x hy hx
    exact ⟨a, g1, g2, g3.mono (by rw [Rat.mul_zero, Rat.add_zero]; exact Rat.le_refl)⟩⟩
  obtain ⟨g1, g2⟩ := G5 m (by omega)
  obtain ⟨y, y1, y2⟩ := cols_near (opr_there (m := m) (P := 21 + m) (by omega) (by omega)) d3 (B := 3 / 2 * (2 ^ m * 2 ^ 20)) (fun y x hy hx => Fw_bd (k := x) (fun j hj => hX y j hy hj)) (by
    rw [p21]
    have e20 : (2 : Rat) ^ 20 = 1048576 := by decide +kernel
    have := one_le_pow m
    rw [e20] at g1 ⊢
    grind)
  exact ⟨d, y, d1, y1, d3, y2⟩
theorem bk_fw (A : Nat → Nat → Q2) (m v x : Nat) : Bk (fun u => Fw (fun y => A y u) m v) m x = Fw (fun y => Bk (fun u => A y u) m x) m v := by
  unfold Bk Fw
  rw [qsum_congr (g := fun u => qsum (fun y => A y u * bar (h (y * v * 2 ^ (12 - m))) * h (u * x * 2 ^ (12 - m))) (2 ^ m)) (fun u _ => (qsum_mul' _ _ _).symm), qsum_exch]
  refine qsum_congr fun y _ => ?_
  rw [← qsum_mul']
  refine qsum_congr fun u _ => ?_
  rw [mul_assoc, mul_comm (bar _), ← mul_assoc]
theorem sc_fw (t : Rat) (A : Nat → Q2) (m v : Nat) : sc t (Fw A m v) = Fw (fun y => sc t (A y)) m v := by
  unfold Fw
  have : ∀ n, sc t (qsum (fun i => A i * bar (h (i * v * 2 ^ (12 - m)))) n) = qsum (fun i => sc t (A i) * bar (h (i * v * 2 ^ (12 - m)))) n := by
    intro n
    induction n with
    | zero => ext <;> simp [qsum]
    | succ n ih =>
      unfold qsum
      rw [← ih]
      generalize qsum (fun i => A i * bar (h (i * v * 2 ^ (12 - m)))) n = q
      generalize bar (h (n * v * 2 ^ (12 - m))) = b
      ext <;> simp <;> grind
  exact this _
theorem inv_pow (m : Nat) : (2 : Rat) ^ m * (1 / 2 ^ m) = 1 := by rw [Rat.mul_comm]; exact Rat.div_mul_cancel (Rat.ne_of_gt (pow_pos2 m))
theorem inv_bd (m : Nat) : bd (1 / (2 : Rat) ^ m) (1 / 2 ^ m) := by
  have h0 : 0 < 1 / (2 : Rat) ^ m := by
    rw [Rat.div_def, Rat.one_mul]; exact Rat.inv_pos.2 (pow_pos2 m)
  exact ⟨by grind, Rat.le_refl⟩
theorem Bs_lin {A B : Nat → Q2} {m k : Nat} {e : Rat} (h : ∀ j, j < 2 ^ m → bq (A j - B j) e) : bq (Bs A m k - Bs B m k) (3 / 2 * e) := by
  have e0 : Bs A m k - Bs B m k = sc (1 / 2 ^ m) (Bk A m k - Bk B m k) := by
    unfold Bs
    generalize (1 : Rat) / 2 ^ m = t
    ext <;> simp <;> grind
  rw [e0, Bk_sub]
  have b := Bk_bd (k := k) h
  have e2 : 1 / (2 : Rat) ^ m * (3 / 2 * (2 ^ m * e)) = 3 / 2 * e := by
    have e1 := inv_pow m
    generalize (1 : Rat) / 2 ^ m = t at *
    generalize (2 : Rat) ^ m = q at *
    have : t * (3 / 2 * (q * e)) = 3 / 2 * ((q * t) * e) := by grind
    rw [this, e1]; grind
  have b1 := bd_mul (inv_bd m) b.r
  have b2 := bd_mul (inv_bd m) b.i
  rw [e2] at b1 b2
  exact ⟨b1, b2⟩
theorem Fw_lin {A B : Nat → Q2} {m k : Nat} {e : Rat} (h : ∀ j, j < 2 ^ m → bq (A j - B j) e) : bq (Fw A m k - Fw B m k) (3 / 2 * (2 ^ m * e)) := by
  rw [Fw_sub]; exact Fw_bd h
/-- There and back in one line. -/
theorem Bs_Fw {X : Nat → Q2} {m i : Nat} {B : Rat} (hm : m ≤ 12) (hi : i < 2 ^ m) (hX : ∀ j, j < 2 ^ m → bq (X j) B) : bq (Bs (Fw X m) m i - X i) (2 ^ m * (30 * eta) * B) := by
  have b := back_there hm hi hX
  have e0 : Bs (Fw X m) m i - X i = sc (1 / 2 ^ m) (Bk (Fw X m) m i - sc (2 ^ m) (X i)) := by
    unfold Bs
    have e1 := inv_pow m
    generalize (1 : Rat) / 2 ^ m = t at *
    generalize (2 : Rat) ^ m = q at *
    ext <;> simp <;> grind
  rw [e0]
  have e2 : 1 / (2 : Rat) ^ m * (2 ^ m * (2 ^ m * (30 * eta) * B)) = 2 ^ m * (30 * eta) * B := by
    have e1 := inv_pow m
    generalize (1 : Rat) / 2 ^ m = t at *
    generalize (2 : Rat) ^ m = q at *
    have : t * (q * (q * (30 * eta) * B)) = (q * t) * (q * (30 * eta) * B) := by grind
    rw [this, e1]; grind
  have b1 := bd_mul (inv_bd m) b.r
  have b2 := bd_mul (inv_bd m) b.i
  rw [e2] at b1 b2
  exact ⟨b1, b2⟩
def tiny (m : Nat) : Rat := 2 ^ m * (30 * eta) * 2 ^ 20
theorem tiny_le : ∀ m, m < 6 → tiny m ≤ 1 / 1073741824 ∧ 3 / 2 * (2 ^ m * tiny m) ≤ 1 / 1073741824 := by decide +kernel
/-- The rows' way back undoes the rows' transform. -/
theorem Br_F2 {X : Nat → Nat → Q2} {m v x : Nat} (hm : m ≤ 5) (hx : x < 2 ^ m) (hX : ∀ y x, y < 2 ^ m → x < 2 ^ m → bq (X y x) (2 ^ 20)) : bq (Bs (fun u => F2 X m v u) m x - Fw (fun y => X y x) m v) (3 / 2 * (2 ^ m * tiny m)) := by
  have e : Bs (fun u => F2 X m v u) m x = Fw (fun y => Bs (Fw (X y) m) m x) m v := by
    unfold Bs F2
    rw [bk_fw, sc_fw]
  rw [e]
  exact Fw_lin fun y hy => Bs_Fw (by omega) hx (fun j hj => hX y j hy hj)
def M3 (m : Nat) : Rat := 9 / 4 * (2 ^ m * 2 ^ m * 2 ^ 20)
theorem plane_back {m : Nat} (hm : m ≤ 5) {c : List Cx} {X : Nat → Nat → Q2} (hc : NearG c m (F2 X m) (E2 m)) (hX : ∀ y x, y < 2 ^ m → x < 2 ^ m → bq (X y x) (2 ^ 20)) :
    ∃ d z, lanTo (backS m) (2 ^ m) (rowP (2 ^ m)) c (2 ^ m) = some d ∧ lanTo (backS m) (2 ^ m) (colP (2 ^ m)) d (2 ^ m) = some z ∧ NearG z m X (1 / 8) := by
  obtain ⟨g1, g2⟩ := G5 m (by omega)
  obtain ⟨t1, t2⟩ := tiny_le m (by omega)
  have hq1 := one_le_pow m
  have e20 : (2 : Rat) ^ 20 = 1048576 := by decide +kernel
  have e32 : (2 : Rat) ^ 32 = 4294967296 := by decide +kernel
  have hq32 : (2 : Rat) ^ m ≤ 32 := by
    rw [← cast_pow]
    have h2 : 2 ^ m ≤ 32 := Nat.le_trans (Nat.pow_le_pow_right (by decide) hm) (by decide)
    have : ((2 ^ m : Nat) : Rat) ≤ ((32 : Nat) : Rat) := Rat.natCast_le_natCast.2 h2
    exact this
  have hF2 : ∀ v u, v < 2 ^ m → u < 2 ^ m → bq (F2 X m v u) (3 / 2 * (2 ^ m * (3 / 2 * (2 ^ m * 2 ^ 20)))) := fun v u _ _ => Fw_bd (k := v) fun y hy => Fw_bd (k := u) fun j hj => hX y j hy hj
  have hqq : (2 : Rat) ^ m * 2 ^ m ≤ 1024 := by
    have := Rat.mul_le_mul_of_nonneg_left hq32 (show 0 ≤ (2 : Rat) ^ m by grind)
    grind
  have k1 : ∀ m, m < 6 → 3 / 2 * (2 : Rat) ^ 32 + 2 ^ 32 * G m / 2 ^ m < 2 ^ 33 ∧ (2 : Rat) ^ 32 * G m / 2 ^ m + (ulp 33 + 1 / 2251799813685248) ≤ 1 / 256 := by decide +kernel
  have k2 : ∀ m, m < 6 → 3 / 2 * (2 : Rat) ^ 28 + 2 ^ 28 * G m / 2 ^ m < 2 ^ 29 ∧ (2 : Rat) ^ 28 * G m / 2 ^ m + (ulp 29 + 1 / 2251799813685248) ≤ 1 / 256 := by decide +kernel
  obtain ⟨k1a, k1b⟩ := k1 m (by omega)
  obtain ⟨k2a, k2b⟩ := k2 m (by omega)
  obtain ⟨d, d1, d2⟩ := rows_near (opr_back (m := m) (P := 32) (k0 := 33) (by omega) (by decide) (by decide) k1a) hc hF2 (by
    rw [e32, e20]
    grind)
  -- the rows, by columns' sums alone
  have d3 : NearG d m (fun v x => Fw (fun y => X y x) m v) (1 / 128) := ⟨d2.len, fun v x hv hx => by
    obtain ⟨a, h1, h2, h3⟩ := d2.at_ v x hv hx
    exact ⟨a, h1, h2, (h3.tri (Br_F2 hm hx hX)).mono (by grind)⟩⟩
  obtain ⟨z, z1, z2⟩ := cols_near (opr_back (m := m) (P := 28) (k0 := 29) (by omega) (by decide) (by decide) k2a) d3 (B := 3 / 2 * (2 ^ m * 2 ^ 20)) (fun v x hv hx => Fw_bd (k := v) fun y hy => hX y x hy hx) (by
    have e28 : (2 : Rat) ^ 28 = 268435456 := by decide +kernel
    rw [e28, e20]
    grind)
  refine ⟨d, z, d1, z1, z2.len, fun y x hy hx => ?_⟩
  obtain ⟨a, h1, h2, h3⟩ := z2.at_ y x hy hx
  have h4 := Bs_Fw (X := fun y => X y x) (m := m) (by omega) hy (fun j hj => hX j x hj hx)
  exact ⟨a, h1, h2, (h3.tri h4).mono (by unfold tiny at t1; grind)⟩
/-- Rows and columns exchanged. -/
theorem F2_across (X : Nat → Nat → Q2) (m v u : Nat) : F2 (fun y x => X x y) m v u = F2 X m u v := by
  unfold F2 Fw
  rw [qsum_congr (g := fun i => qsum (fun j => X j i * bar (h (j * u * 2 ^ (12 - m))) * bar (h (i * v * 2 ^ (12 - m)))) (2 ^ m)) (fun i _ => (qsum_mul' _ _ _).symm), qsum_exch]
  refine qsum_congr fun j _ => ?_
  rw [← qsum_mul']
  refine qsum_congr fun i _ => ?_
  rw [mul_assoc, mul_comm (bar _), ← mul_assoc]
end Go.Cyc
end
section
/- Fields of whole numbers: the first cell is the sum; a field moved round. Nothing of the program. -/
set_option linter.unusedVariables false
set_option maxRecDepth 100000
namespace Go.Cyc
open Go.Flt Go.Qc Go.Wav Go.Pen

/-- A field of whole numbers. -/
structure WhG (c : List Cx) (m : Nat) (U : Nat → Nat → Int × Int) : Prop where
  len : c.length = 2 ^ m * 2 ^ m
  at_ : ∀ y x, y < 2 ^ m → x < 2 ^ m → ∃ a, c[rowP (2 ^ m) y x]? = some a ∧ cls a (U y x)
theorem WhG.near {c : List Cx} {m : Nat} {U : Nat → Nat → Int × Int} (h : WhG c m U) (hU : ∀ y x, Sm (U y x) 1048576) : NearG c m (fun y x => uq (U y x)) 0 := ⟨h.len, fun y x hy hx => by
  obtain ⟨a, g1, g2⟩ := h.at_ y x hy hx
  have := hU y x
  obtain ⟨o, c'⟩ := cls_ok g2 (by have := this.1; omega) (by have := this.2; omega)
  refine ⟨a, g1, o, ?_⟩
  rw [c']
  have e : uq (U y x) - uq (U y x) = q0 := by ext <;> simp <;> grind
  rw [e]; exact bq.zero⟩
theorem lan_det {f : List Cx → Option (List Cx)} {N : Nat} {pos : Nat → Nat → Nat} {c d d' : List Cx} {n : Nat} (h : lanTo f N pos c n = some d) (h' : lanTo f N pos c n = some d') : d = d' := by rw [h] at h'; exact Option.some.inj h'
/-- The first cell is the sum of all. -/
theorem plane_first {m : Nat} (hm : m ≤ 5) {c d y : List Cx} {U : Nat → Nat → Int × Int} (hc : WhG c m U) (hU : ∀ y x, Sm (U y x) 1048576)
    (hd : lanTo (forwardC m) (2 ^ m) (rowP (2 ^ m)) c (2 ^ m) = some d) (hy : lanTo (forwardC m) (2 ^ m) (colP (2 ^ m)) d (2 ^ m) = some y) (hcols : ∀ u, u < 2 ^ m → ∃ r, forwardC m (lanL (2 ^ m) (colP (2 ^ m)) d u) = some r ∧ r.length = 2 ^ m) :
    ∃ a, y[0]? = some a ∧ cls a (isum (fun j => isum (U j) (2 ^ m)) (2 ^ m)) := by
  have hp := Nat.two_pow_pos m
  obtain ⟨d', h1, h2, h3⟩ := lan_get (f := forwardC m) (row_lay (2 ^ m)) hc.len (Pr := fun j r => ∃ a, r[0]? = some a ∧ cls a (isum (U j) (2 ^ m))) (fun j hj => by
    have hw : Wh (lanL (2 ^ m) (rowP (2 ^ m)) c j) m (U j) := ⟨lanL_len _ _ _ _, fun x a ha => by
      have hx : x < 2 ^ m := by
        have := (List.getElem?_eq_some_iff.1 ha).1
        rwa [lanL_len] at this
      obtain ⟨b, g1, g2⟩ := hc.at_ j x hj hx
      rw [lanL_get hx, List.getD_eq_getElem?_getD, g1] at ha
      obtain rfl := Option.some.inj ha
      exact g2⟩
    obtain ⟨r, r1, r2, r3⟩ := forward_whole (P := 20) (by omega) hw (by decide) (fun x => hU j x)
    exact ⟨r, r1, r2.len, r3⟩)
  obtain rfl := lan_det hd h1
  obtain ⟨y', k1, k2, k3⟩ := lan_get (f := forwardC m) (col_lay (2 ^ m)) h2 (Pr := fun u r => u = 0 → ∃ a, r[0]? = some a ∧ cls a (isum (fun j => isum (U j) (2 ^ m)) (2 ^ m))) (fun u hu => by
    obtain ⟨r, r1, r2⟩ := hcols u hu
    refine ⟨r, r1, r2, fun h0 => ?_⟩
    subst h0
    have hw : Wh (lanL (2 ^ m) (colP (2 ^ m)) d 0) m (fun j => isum (U j) (2 ^ m)) := ⟨lanL_len _ _ _ _, fun j a ha => by
      have hj : j < 2 ^ m := by
        have := (List.getElem?_eq_some_iff.1 ha).1
        rwa [lanL_len] at this
      obtain ⟨r, _, _, ⟨b, b1, b2⟩, r4⟩ := h3 j hj
      rw [lanL_get hj, List.getD_eq_getElem?_getD, col_row, r4 0 hp, b1] at ha
      obtain rfl := Option.some.inj ha
      exact b2⟩
    have hsm : ∀ j, Sm (isum (U j) (2 ^ m)) (2 ^ 25) := fun j => by
      have := isum_sm (fun x => hU j x) (2 ^ m)
      have h2 : 2 ^ m * 1048576 ≤ 32 * 1048576 := Nat.mul_le_mul_right _ (Nat.le_trans (Nat.pow_le_pow_right (by decide) hm) (by decide))
      unfold Sm at this ⊢
      have e : 2 ^ 25 = 33554432 := by decide
      omega
    obtain ⟨r', q1, _, q3⟩ := forward_whole (P := 25) (by omega) hw (by decide) hsm
    rw [r1] at q1
    obtain rfl := Option.some.inj q1
    exact q3)
  obtain rfl := lan_det hy k1
  obtain ⟨r, _, _, r3, r4⟩ := k3 0 hp
  obtain ⟨a, a1, a2⟩ := r3 rfl
  refine ⟨a, ?_, a2⟩
  rw [← a1, ← r4 0 hp]
  congr 1
  unfold colP; omega
theorem isum_flat (V : Nat → Int × Int) (N : Nat) : ∀ k, isum V (k * N) = isum (fun y => isum (fun x => V (y * N + x)) N) k
  | 0 => by rw [Nat.zero_mul]; rfl
  | k + 1 => by
    have hs : ∀ b, isum V (k * N + b) = ad (isum V (k * N)) (isum (fun x => V (k * N + x)) b) := by
      intro b
      induction b with
      | zero => unfold ad; simp [isum]
      | succ b ih =>
        show ad (isum V (k * N + b)) (V (k * N + b)) = ad _ (ad _ _)
        rw [ih, ad_assoc]
    rw [Nat.add_mul, Nat.one_mul, hs, isum_flat V N k]; rfl

/-! moved round -/
theorem qsum_rot (f : Nat → Nat → Q2) {n u : Nat} (hu : u < n) : qsum (fun j => f ((j + n - u) % n) j) n = qsum (fun i => f i ((i + u) % n)) n := by
  have e1 : qsum (fun j => f ((j + n - u) % n) j) n = qsum (fun j => f (j + n - u) j) u + qsum (fun i => f i (u + i)) (n - u) := by
    have := qsum_split (fun j => f ((j + n - u) % n) j) u (n - u)
    rw [show u + (n - u) = n by omega] at this
    rw [this]
    congr 1
    · exact qsum_congr fun j hj => by rw [Nat.mod_eq_of_lt (by omega)]
    · exact qsum_congr fun i hi => by
        rw [show u + i + n - u = i + n by omega, Nat.add_mod_right, Nat.mod_eq_of_lt (by omega)]
  have e2 : qsum (fun i => f i ((i + u) % n)) n = qsum (fun i => f i (u + i)) (n - u) + qsum (fun j => f (j + n - u) j) u := by
    have := qsum_split (fun i => f i ((i + u) % n)) (n - u) u
    rw [show n - u + u = n by omega] at this
    rw [this]
    congr 1
    · exact qsum_congr fun i hi => by rw [Nat.mod_eq_of_lt (by omega), Nat.add_comm]
    · exact qsum_congr fun j hj => by
        rw [show n - u + j + u = j + n by omega, Nat.add_mod_right, Nat.mod_eq_of_lt (by omega), show n - u + j = j + n - u by omega]
  rw [e1, e2, add_comm]
/-- A line moved round. -/
theorem Fw_rot {A : Nat → Q2} {m u k : Nat} {B : Rat} (hm : m ≤ 12) (hu : u < 2 ^ m) (hA : ∀ j, j < 2 ^ m → bq (A j) B) :
    bq (Fw (fun j => A ((j + 2 ^ m - u) % 2 ^ m)) m k - bar (h (u * k * 2 ^ (12 - m))) * Fw A m k) (2 ^ m * (10 * eta * B)) := by
  have hs : 2 ^ m * 2 ^ (12 - m) = 4096 := by rw [← Nat.pow_add, show m + (12 - m) = 12 by omega]
  have e1 : Fw (fun j => A ((j + 2 ^ m - u) % 2 ^ m)) m k = qsum (fun i => A i * bar (h ((i + u) * k * 2 ^ (12 - m)))) (2 ^ m) := by
    unfold Fw
    rw [qsum_rot (fun i j => A i * bar (h (j * k * 2 ^ (12 - m)))) hu]
    refine qsum_congr fun i hi => ?_
    congr 2
    have := Nat.div_add_mod (i + u) (2 ^ m)
    rw [← h_ch.pers ((i + u) % 2 ^ m * k * 2 ^ (12 - m)) ((i + u) / 2 ^ m * k)]
    congr 1
    generalize (i + u) / 2 ^ m = q at *
    generalize (i + u) % 2 ^ m = r at *
    rw [← this, Nat.add_mul, Nat.add_mul, Nat.add_comm (r * k * _)]
    congr 1
    rw [Nat.mul_assoc (2 ^ m) q k, Nat.mul_right_comm (2 ^ m), hs]
  rw [e1]
  unfold Fw
  rw [← qsum_mul, ← qsum_sub]
  have := qsum_bd (f := fun i => A i * bar (h ((i + u) * k * 2 ^ (12 - m))) - bar (h (u * k * 2 ^ (12 - m))) * (A i * bar (h (i * k * 2 ^ (12 - m))))) (n := 2 ^ m) (B := 10 * eta * B) (fun i hi => ?_)
  · rwa [cast_pow] at this
  · have hmul := (h_ch.bar).mul (i * k * 2 ^ (12 - m)) (u * k * 2 ^ (12 - m))
    have a := bq_mul' (n1.of hmul) (hA i hi)
    rw [show i * k * 2 ^ (12 - m) + u * k * 2 ^ (12 - m) = (i + u) * k * 2 ^ (12 - m) by rw [Nat.add_mul, Nat.add_mul]] at a
    have e : A i * (bar (h ((i + u) * k * 2 ^ (12 - m))) - bar (h (i * k * 2 ^ (12 - m))) * bar (h (u * k * 2 ^ (12 - m)))) = A i * bar (h ((i + u) * k * 2 ^ (12 - m))) - bar (h (u * k * 2 ^ (12 - m))) * (A i * bar (h (i * k * 2 ^ (12 - m)))) := by
      generalize A i = a
      generalize bar (h ((i + u) * k * 2 ^ (12 - m))) = x
      generalize bar (h (i * k * 2 ^ (12 - m))) = y
      generalize bar (h (u * k * 2 ^ (12 - m))) = z
      ext <;> simp <;> grind
    rw [e] at a
    exact a.mono (by grind)
theorem Fw_mul (q : Q2) (A : Nat → Q2) (m k : Nat) : Fw (fun j => q * A j) m k = q * Fw A m k := by
  unfold Fw
  rw [← qsum_mul]
  exact qsum_congr fun i _ => mul_assoc _ _ _
/-- The field moved by u and v. -/
def mov (N u v : Nat) (X : Nat → Nat → Q2) (y x : Nat) : Q2 := X ((y + N - v) % N) ((x + N - u) % N)
def mv (m : Nat) : Rat := 3 / 2 * (2 ^ m * (2 ^ m * (10 * eta * 2 ^ 20))) + 3 / 2 * (2 ^ m * (10 * eta * (3 / 2 * (2 ^ m * 2 ^ 20)))) + 10 * eta * (3 / 2 * (2 ^ m * (3 / 2 * (2 ^ m * 2 ^ 20))))
theorem mv_le : ∀ m, m < 6 → mv m ≤ 1 / 1048576 := by decide +kernel
theorem F2_mov {X : Nat → Nat → Q2} {m u v V W : Nat} (hm : m ≤ 5) (hu : u < 2 ^ m) (hv : v < 2 ^ m) (hX : ∀ y x, y < 2 ^ m → x < 2 ^ m → bq (X y x) (2 ^ 20)) :
    bq (F2 (mov (2 ^ m) u v X) m V W - bar (h ((W * u + V * v) * 2 ^ (12 - m))) * F2 X m V W) (mv m) := by
  have hp := Nat.two_pow_pos m
  -- the rows
  have r1 : ∀ y, y < 2 ^ m → bq (Fw (mov (2 ^ m) u v X y) m W - (fun j => bar (h (u * W * 2 ^ (12 - m))) * Fw (X ((j + 2 ^ m - v) % 2 ^ m)) m W) y) (2 ^ m * (10 * eta * 2 ^ 20)) := fun y hy =>
    Fw_rot (A := X ((y + 2 ^ m - v) % 2 ^ m)) (by omega) hu (fun j hj => hX _ j (Nat.mod_lt _ hp) hj)
  have s1 := Fw_lin (k := V) r1
  -- the columns
  have s2 := Fw_rot (A := fun y => Fw (X y) m W) (m := m) (u := v) (k := V) (by omega) hv (fun y hy => Fw_bd (k := W) fun j hj => hX y j hy hj)
  have hn := unit_n1 ((h_ch.bar).unit (u * W * 2 ^ (12 - m)))
  have s3 := bq_mul hn s2
  have e1 : Fw (fun j => bar (h (u * W * 2 ^ (12 - m))) * Fw (X ((j + 2 ^ m - v) % 2 ^ m)) m W) m V = bar (h (u * W * 2 ^ (12 - m))) * Fw (fun j => Fw (X ((j + 2 ^ m - v) % 2 ^ m)) m W) m V := Fw_mul _ _ _ _
  -- the roots
  have hmul := (h_ch.bar).mul (u * W * 2 ^ (12 - m)) (v * V * 2 ^ (12 - m))
  have hF : bq (F2 X m V W) (3 / 2 * (2 ^ m * (3 / 2 * (2 ^ m * 2 ^ 20)))) := Fw_bd (k := V) fun y hy => Fw_bd (k := W) fun j hj => hX y j hy hj
  have s4 := bq_mul (n1.of hmul.swap) hF
  rw [show u * W * 2 ^ (12 - m) + v * V * 2 ^ (12 - m) = (W * u + V * v) * 2 ^ (12 - m) by rw [← Nat.add_mul, Nat.mul_comm u, Nat.mul_comm v]] at s4
  have t := (s1.add s3).add s4
  have e : F2 (mov (2 ^ m) u v X) m V W - bar (h ((W * u + V * v) * 2 ^ (12 - m))) * F2 X m V W =
      Fw (fun y => Fw (mov (2 ^ m) u v X y) m W) m V - Fw (fun j => bar (h (u * W * 2 ^ (12 - m))) * Fw (X ((j + 2 ^ m - v) % 2 ^ m)) m W) m V + bar (h (u * W * 2 ^ (12 - m))) * (Fw (fun j => Fw (X ((j + 2 ^ m - v) % 2 ^ m)) m W) m V - bar (h (v * V * 2 ^ (12 - m))) * Fw (fun y => Fw (X y) m W) m V) + (bar (h (u * W * 2 ^ (12 - m))) * bar (h (v * V * 2 ^ (12 - m))) - bar (h ((W * u + V * v) * 2 ^ (12 - m)))) * F2 X m V W := by
    rw [e1]
    show Fw (fun y => Fw (mov (2 ^ m) u v X y) m W) m V - _ = _
    unfold F2
    generalize Fw (fun y => Fw (mov (2 ^ m) u v X y) m W) m V = a
    generalize Fw (fun j => Fw (X ((j + 2 ^ m - v) % 2 ^ m)) m W) m V = b
    generalize Fw (fun y => Fw (X y) m W) m V = c
    generalize bar (h (u * W * 2 ^ (12 - m))) = p
    generalize bar (h (v * V * 2 ^ (12 - m))) = q
    generalize bar (h ((W * u + V * v) * 2 ^ (12 - m))) = r
    ext <;> simp <;> grind
  rw [e]
  exact t.mono (by unfold mv; grind)
end Go.Cyc
end
section
/- Layer 4: lanes, walked. %compact -/
set_option linter.unusedVariables false
set_option maxRecDepth 100000
namespace Go.Proofs.YthecbhegjdcjfaaDoor
open Go.Pen Go.Flt Go.Wav Go.Cyc

theorem lanTo_some {f : List Cx → Option (List Cx)} {N : Nat} {pos : Nat → Nat → Nat} {c : List Cx} : ∀ {i j : Nat} {d : List Cx}, i ≤ j → lanTo f N pos c j = some d → ∃ e, lanTo f N pos c i = some e
  | i, 0, d, h, e => by obtain rfl : i = 0 := by omega
                        exact ⟨d, e⟩
  | i, j + 1, d, h, e => by
    by_cases h' : i = j + 1
    · subst h'; exact ⟨d, e⟩
    · unfold lanTo at e
      rw [Option.bind_eq_some_iff] at e
      obtain ⟨z, h1, _⟩ := e
      exact lanTo_some (by omega) h1
theorem lanTo_len {f : List Cx → Option (List Cx)} {N : Nat} {pos : Nat → Nat → Nat} {c : List Cx} : ∀ {j : Nat} {d : List Cx}, lanTo f N pos c j = some d → d.length = c.length
  | 0, d, e => by
    unfold lanTo at e
    rw [← Option.some.inj e]
  | j + 1, d, e => by
    unfold lanTo at e
    simp only [Option.bind_eq_some_iff, Option.some.injEq] at e
    obtain ⟨z, h1, r, h2, rfl⟩ := e
    rw [putL_len, lanTo_len h1]
def posOf (gap step i k : Nat) : Nat := i * gap + k * step
/-- What a transform's code does with a list. -/
def ByOk (F : FuncId) (f : List Cx → Option (List Cx)) (N : Nat) : Prop :=
  ∀ (x r : List Cx), x.length = N → f x = some r → r.length = N ∧ ∀ (b c : Nat) (w : World), RdC w b 0 x → TzT w → Does Tryd.prog F #[.slice (some ⟨b, 0, none⟩) N c] [] w fun v Γ => ∃ q, v = .tuple #[.slice (some ⟨q, 0, none⟩) N N, .int .i64 0] ∧ Γ = [(q, .cells (cxs r ++ []).toArray 28 (0, 0))]
theorem wrap_nat {z : Nat} (h : z ≤ 9223372036854775807) : IntKind.i64.wrap (z : Int) = (z : Int) := wrap_id (by show (-9223372036854775808 : Int) ≤ _; omega) (by show _ ≤ (9223372036854775807 : Int); omega)
set_option maxHeartbeats 8000000 in
theorem lanes_fn (F : FuncId) [hB : Body Tryd.prog F] (f : List Cx → Option (List Cx)) (N gap step : Nat) (hN : N ≤ 64) (hg : gap ≤ 64) (hst : step ≤ 64) (hF : ByOk F f N) (hl : Lay N (posOf gap step)) (c d : List Cx) (hc : c.length = N * N) (hd : lanTo f N (posOf gap step) c N = some d)
    (cb cap : Nat) (sp : List Value) (w : World) (hmm : ∀ x ∈ [(cb, Obj.cells (cxs c ++ sp).toArray 28 (0, 0))], w.heap[x.1]? = some x.2) (hn : (keys [(cb, Obj.cells (cxs c ++ sp).toArray 28 (0, 0))]).Nodup) (hT : TzT w) (hTb : 2 ∉ keys [(cb, Obj.cells (cxs c ++ sp).toArray 28 (0, 0))]) :
    Does Tryd.prog 28 #[.slice (some ⟨cb, 0, none⟩) (N * N) cap, .int .i64 (N : Int), .int .i64 (gap : Int), .int .i64 (step : Int), .func (.func F) #[] #[]] (keys [(cb, Obj.cells (cxs c ++ sp).toArray 28 (0, 0))]) w fun v Γ => v = .tuple #[] ∧ Γ = [(cb, .cells (cxs d ++ sp).toArray 28 (0, 0))] := by
  have hNN : N * N ≤ 64 * 64 := Nat.mul_le_mul hN hN
  refine Does.enter Tryd.func28 rfl Tryd.ntmps28 rfl (St.startI hmm hn) ?_
  repeat' (first | refine Fin.tail ?_ | refine Fin.then_normal ?_ | refine Fin.then_exit ?_ | refine Fin.then_ret ?_ | refine Fin.block_normal ?_ | refine Fin.block_ret ?_ | refine Fin.block_hit ?_ | refine Fin.block_miss rfl ?_ | refine Fin.loop_exit ?_ | refine Fin.loop_ret ?_ | refine WP.seq ?_ | (refine WP.regionQ (by kernel_rfl) (by kernel_rfl) ?_) | refine WP.block ?_ | refine WP.region ?_ | refine WP.skip ?_ | refine WP.exit ?_ | refine WP.ret ?_ | refine WP.label ?_ | refine WP.cond_true rfl ?_ | refine WP.cond_false rfl ?_ | (refine WP.cond_dec rfl (fun h => ?_) (fun h => ?_) <;> (try (exfalso; omega))) | (refine WP.cond_bool rfl (fun h => ?_) (fun h => ?_)) | refine WL.nil ?_ | refine WL.cons ?_ | (show OP _ _ _ _ _ _ _ ⟨_, .move _, _, _, _, none⟩ _ _; first | refine OP.mI rfl rfl ?_ | refine OP.mB rfl rfl ?_ | refine OP.mC rfl rfl ?_ | refine OP.mF rfl rfl ?_ | refine OP.mS rfl rfl ?_ | refine OP.mP rfl rfl ?_ | refine OP.mA rfl rfl ?_ | refine OP.mT rfl rfl ?_ | refine OP.mM rfl rfl ?_ | refine OP.mU rfl rfl ?_ | refine OP.move rfl rfl ?_) | (show OP _ _ _ _ _ _ _ ⟨_, .assign _, _, _, _, none⟩ _ _; first | refine OP.aI rfl rfl ?_ | refine OP.aB rfl rfl ?_ | refine OP.aC rfl rfl ?_ | refine OP.aF rfl rfl ?_ | refine OP.aS rfl rfl ?_ | refine OP.aP rfl rfl ?_ | refine OP.aA rfl rfl ?_ | refine OP.aT rfl rfl ?_ | refine OP.aM rfl rfl ?_ | refine OP.aU rfl rfl ?_ | refine OP.assign rfl rfl ?_) | refine OP.len rfl rfl rfl ?_ | (show OP _ _ _ _ _ _ _ ⟨_, .binOp _ _ _ _ _, _, _, _, none⟩ _ _; first | (refine OP.add rfl rfl rfl ?_ ?_ ?_; omega; omega) | refine OP.lss rfl rfl rfl ?_ | (refine OP.mul rfl rfl rfl ?_ ?_ ?_; omega; omega)) | refine OP.extract rfl rfl rfl ?_ | (show OP _ _ _ _ _ _ _ ⟨_, .load _ _, _, _, _, none⟩ _ _; first | refine OP.ld rfl rfl inferInstance rfl ?_ | refine OP.load rfl rfl (Sees.old0 (by assumption)) ?_ | refine OP.ldA rfl rfl inferInstance rfl ?_) | (show OP _ _ _ _ _ _ _ ⟨_, .store _ _ _, _, _, _, none⟩ _ _; first | refine OP.stI rfl rfl inferInstance rfl ?_ | refine OP.stB rfl rfl inferInstance rfl ?_ | refine OP.stC rfl rfl inferInstance rfl ?_ | refine OP.stF rfl rfl inferInstance rfl ?_ | refine OP.stS rfl rfl inferInstance rfl ?_ | refine OP.stP rfl rfl inferInstance rfl ?_ | refine OP.stM rfl rfl inferInstance rfl ?_ | refine OP.stU rfl rfl inferInstance rfl ?_ | refine OP.st (vs := [_]) rfl rfl inferInstance rfl rfl rfl ?_ | refine OP.st (vs := [_, _]) rfl rfl inferInstance rfl rfl rfl ?_ | refine OP.st (vs := [_, _, _]) rfl rfl inferInstance rfl rfl rfl ?_))
  refine WP.loop [10, 11, 12, 13, 14, 16, 17, 18, 19, 20, 21, 22, 23, 24, 25, 26, 27, 28, 29, 30, 31, 32, 33, 34, 35, 36, 37, 38, 39, 40, 41, 42, 43, 44, 45, 46, 47, 48, 49, 50, 51, 52, 53, 54, 55, 56, 57, 58, 59, 60, 61, 62, 63, 64] (fun z : Nat × List Cx => [(16, .int .i64 z.1)]) (fun z => [(cb, .cells (cxs z.2 ++ sp).toArray 28 (0, 0))]) (fun z => z.1 ≤ N ∧ lanTo f N (posOf gap step) c z.1 = some z.2) (fun z => N - z.1) (0, c) ⟨by dsimp only; omega, rfl⟩ rfl ⟨rfl, trivial⟩ ?_
  rintro ⟨i, e⟩ ji ⟨i1, i2⟩
  dsimp only [updL] at i1 i2 ⊢
  have hel := lanTo_len i2
  by_cases hi : i < N
  · obtain ⟨e', hd'⟩ := lanTo_some (show i + 1 ≤ N by omega) hd
    have hd2 := hd'
    unfold lanTo at hd2
    rw [i2, Option.bind_some] at hd2
    simp only [Option.bind_eq_some_iff, Option.some.injEq] at hd2
    obtain ⟨r, hr, hput⟩ := hd2
    obtain ⟨L, hL⟩ : ∃ L, L = lanL N (posOf gap step) e i := ⟨_, rfl⟩
    have hLl : L.length = N := by rw [hL]; exact lanL_len _ _ _ _
    rw [← hL] at hr
    obtain ⟨hrl, hby⟩ := hF L r hLl hr
    have hig : i * gap ≤ 64 * 64 := Nat.mul_le_mul (by omega) hg
    have hgi : IntKind.i64.wrap ((i : Int) * (gap : Int)) = ((i * gap : Nat) : Int) := by rw [← Int.natCast_mul]; exact wrap_nat (by omega)
    repeat' (first | refine Fin.tail ?_ | refine Fin.then_normal ?_ | refine Fin.then_exit ?_ | refine Fin.then_ret ?_ | refine Fin.block_normal ?_ | refine Fin.block_ret ?_ | refine Fin.block_hit ?_ | refine Fin.block_miss rfl ?_ | refine Fin.loop_exit ?_ | refine Fin.loop_ret ?_ | refine WP.seq ?_ | (refine WP.regionQ (by kernel_rfl) (by kernel_rfl) ?_) | refine WP.block ?_ | refine WP.region ?_ | refine WP.skip ?_ | refine WP.exit ?_ | refine WP.ret ?_ | refine WP.label ?_ | refine WP.cond_true rfl ?_ | refine WP.cond_false rfl ?_ | (refine WP.cond_dec rfl (fun h => ?_) (fun h => ?_) <;> (try (exfalso; omega))) | (refine WP.cond_bool rfl (fun h => ?_) (fun h => ?_)) | refine WL.nil ?_ | refine WL.cons ?_ | (show OP _ _ _ _ _ _ _ ⟨_, .move _, _, _, _, none⟩ _ _; first | refine OP.mI rfl rfl ?_ | refine OP.mB rfl rfl ?_ | refine OP.mC rfl rfl ?_ | refine OP.mF rfl rfl ?_ | refine OP.mS rfl rfl ?_ | refine OP.mP rfl rfl ?_ | refine OP.mA rfl rfl ?_ | refine OP.mT rfl rfl ?_ | refine OP.mM rfl rfl ?_ | refine OP.mU rfl rfl ?_ | refine OP.move rfl rfl ?_) | (show OP _ _ _ _ _ _ _ ⟨_, .assign _, _, _, _, none⟩ _ _; first | refine OP.aI rfl rfl ?_ | refine OP.aB rfl rfl ?_ | refine OP.aC rfl rfl ?_ | refine OP.aF rfl rfl ?_ | refine OP.aS rfl rfl ?_ | refine OP.aP rfl rfl ?_ | refine OP.aA rfl rfl ?_ | refine OP.aT rfl rfl ?_ | refine OP.aM rfl rfl ?_ | refine OP.aU rfl rfl ?_ | refine OP.assign rfl rfl ?_) | refine OP.len rfl rfl rfl ?_ | (show OP _ _ _ _ _ _ _ ⟨_, .binOp _ _ _ _ _, _, _, _, none⟩ _ _; first | (refine OP.add rfl rfl rfl ?_ ?_ ?_; omega; omega) | refine OP.lss rfl rfl rfl ?_ | (refine OP.mul rfl rfl rfl ?_ ?_ ?_; omega; omega)) | refine OP.extract rfl rfl rfl ?_ | (show OP _ _ _ _ _ _ _ ⟨_, .load _ _, _, _, _, none⟩ _ _; first | refine OP.ld rfl rfl inferInstance rfl ?_ | refine OP.load rfl rfl (Sees.old0 (by assumption)) ?_ | refine OP.ldA rfl rfl inferInstance rfl ?_) | (show OP _ _ _ _ _ _ _ ⟨_, .store _ _ _, _, _, _, none⟩ _ _; first | refine OP.stI rfl rfl inferInstance rfl ?_ | refine OP.stB rfl rfl inferInstance rfl ?_ | refine OP.stC rfl rfl inferInstance rfl ?_ | refine OP.stF rfl rfl inferInstance rfl ?_ | refine OP.stS rfl rfl inferInstance rfl ?_ | refine OP.stP rfl rfl inferInstance rfl ?_ | refine OP.stM rfl rfl inferInstance rfl ?_ | refine OP.stU rfl rfl inferInstance rfl ?_ | refine OP.st (vs := [_]) rfl rfl inferInstance rfl rfl rfl ?_ | refine OP.st (vs := [_, _]) rfl rfl inferInstance rfl rfl rfl ?_ | refine OP.st (vs := [_, _, _]) rfl rfl inferInstance rfl rfl rfl ?_))
    refine OP.make1 (z := .complex .f64 0 0) (l := N) rfl rfl rfl rfl rfl (by omega) (by omega) (fun ln => ?_)
    have hfl := fun k hk => filC_len L (k := k) hk
    rw [cxs_rep, ← hLl, ← filC_zero, hLl]
    repeat' (first | refine Fin.tail ?_ | refine Fin.then_normal ?_ | refine Fin.then_exit ?_ | refine Fin.then_ret ?_ | refine Fin.block_normal ?_ | refine Fin.block_ret ?_ | refine Fin.block_hit ?_ | refine Fin.block_miss rfl ?_ | refine Fin.loop_exit ?_ | refine Fin.loop_ret ?_ | refine WP.seq ?_ | (refine WP.regionQ (by kernel_rfl) (by kernel_rfl) ?_) | refine WP.block ?_ | refine WP.region ?_ | refine WP.skip ?_ | refine WP.exit ?_ | refine WP.ret ?_ | refine WP.label ?_ | refine WP.cond_true rfl ?_ | refine WP.cond_false rfl ?_ | (refine WP.cond_dec rfl (fun h => ?_) (fun h => ?_) <;> (try (exfalso; omega))) | (refine WP.cond_bool rfl (fun h => ?_) (fun h => ?_)) | refine WL.nil ?_ | refine WL.cons ?_ | (show OP _ _ _ _ _ _ _ ⟨_, .move _, _, _, _, none⟩ _ _; first | refine OP.mI rfl rfl ?_ | refine OP.mB rfl rfl ?_ | refine OP.mC rfl rfl ?_ | refine OP.mF rfl rfl ?_ | refine OP.mS rfl rfl ?_ | refine OP.mP rfl rfl ?_ | refine OP.mA rfl rfl ?_ | refine OP.mT rfl rfl ?_ | refine OP.mM rfl rfl ?_ | refine OP.mU rfl rfl ?_ | refine OP.move rfl rfl ?_) | (show OP _ _ _ _ _ _ _ ⟨_, .assign _, _, _, _, none⟩ _ _; first | refine OP.aI rfl rfl ?_ | refine OP.aB rfl rfl ?_ | refine OP.aC rfl rfl ?_ | refine OP.aF rfl rfl ?_ | refine OP.aS rfl rfl ?_ | refine OP.aP rfl rfl ?_ | refine OP.aA rfl rfl ?_ | refine OP.aT rfl rfl ?_ | refine OP.aM rfl rfl ?_ | refine OP.aU rfl rfl ?_ | refine OP.assign rfl rfl ?_) | refine OP.len rfl rfl rfl ?_ | (show OP _ _ _ _ _ _ _ ⟨_, .binOp _ _ _ _ _, _, _, _, none⟩ _ _; first | (refine OP.add rfl rfl rfl ?_ ?_ ?_; omega; omega) | refine OP.lss rfl rfl rfl ?_ | (refine OP.mul rfl rfl rfl ?_ ?_ ?_; omega; omega)) | refine OP.extract rfl rfl rfl ?_ | (show OP _ _ _ _ _ _ _ ⟨_, .load _ _, _, _, _, none⟩ _ _; first | refine OP.ld rfl rfl inferInstance rfl ?_ | refine OP.load rfl rfl (Sees.old0 (by assumption)) ?_ | refine OP.ldA rfl rfl inferInstance rfl ?_) | (show OP _ _ _ _ _ _ _ ⟨_, .store _ _ _, _, _, _, none⟩ _ _; first | refine OP.stI rfl rfl inferInstance rfl ?_ | refine OP.stB rfl rfl inferInstance rfl ?_ | refine OP.stC rfl rfl inferInstance rfl ?_ | refine OP.stF rfl rfl inferInstance rfl ?_ | refine OP.stS rfl rfl inferInstance rfl ?_ | refine OP.stP rfl rfl inferInstance rfl ?_ | refine OP.stM rfl rfl inferInstance rfl ?_ | refine OP.stU rfl rfl inferInstance rfl ?_ | refine OP.st (vs := [_]) rfl rfl inferInstance rfl rfl rfl ?_ | refine OP.st (vs := [_, _]) rfl rfl inferInstance rfl rfl rfl ?_ | refine OP.st (vs := [_, _, _]) rfl rfl inferInstance rfl rfl rfl ?_))
    refine WP.loop [12, 23, 24, 25, 26, 27, 28, 29, 30, 31, 32, 33, 34, 35, 36, 37, 38, 39] (fun k : Nat => [(23, .int .i64 k)]) (fun k => [(ln, .cells (cxs (filC L k) ++ []).toArray 28 (0, 0)), (cb, .cells (cxs e ++ sp).toArray 28 (0, 0))]) (fun k => k ≤ N) (fun k => N - k) 0 (by omega) rfl ⟨rfl, trivial⟩ ?_
    rintro k jk k1
    dsimp only [updL]
    by_cases hk : k < N
    · have hks : k * step ≤ 64 * 64 := Nat.mul_le_mul (by omega) hst
      have hsk : IntKind.i64.wrap ((k : Int) * (step : Int)) = ((k * step : Nat) : Int) := by rw [← Int.natCast_mul]; exact wrap_nat (by omega)
      have hlt : i * gap + k * step < N * N := hl.lt i k hi hk
      obtain ⟨a, ha⟩ : ∃ a, e[i * gap + k * step]? = some a := ⟨e[i * gap + k * step]'(by omega), List.getElem?_eq_getElem _⟩
      have hLk : L[k]? = some a := by rw [hL, lanL_get hk, List.getD_eq_getElem?_getD]; show some ((e[i * gap + k * step]?).getD _) = _; rw [ha]; rfl
      have la := cxs_at (sp := sp) ha
      have hfk := hfl k (by omega)
      have sz := cxs_size (l := filC L k) (sp := []) (i := k) (by omega)
      have st := cxs_set (filC L k) [] k a (by omega)
      rw [filC_set _ hLk] at st
      repeat' (first | refine OP.indexAddr (j := i * gap + k * step) rfl rfl rfl (Int.natCast_add _ _).symm hlt ?_ | refine OP.indexAddr (j := k) rfl rfl rfl rfl hk ?_ | refine OP.load rfl rfl (Sees.own (List.Mem.tail _ (List.Mem.head _)) la) ?_ | (refine OP.store0 (vs := [.complex .f64 a.1 a.2]) rfl rfl rfl rfl sz ?_; rw [st]) | refine Fin.tail ?_ | refine Fin.then_normal ?_ | refine Fin.then_exit ?_ | refine Fin.then_ret ?_ | refine Fin.block_normal ?_ | refine Fin.block_ret ?_ | refine Fin.block_hit ?_ | refine Fin.block_miss rfl ?_ | refine Fin.loop_exit ?_ | refine Fin.loop_ret ?_ | refine WP.seq ?_ | (refine WP.regionQ (by kernel_rfl) (by kernel_rfl) ?_) | refine WP.block ?_ | refine WP.region ?_ | refine WP.skip ?_ | refine WP.exit ?_ | refine WP.ret ?_ | refine WP.label ?_ | refine WP.cond_true rfl ?_ | refine WP.cond_false rfl ?_ | (refine WP.cond_dec rfl (fun h => ?_) (fun h => ?_) <;> (try (exfalso; omega))) | (refine WP.cond_bool rfl (fun h => ?_) (fun h => ?_)) | refine WL.nil ?_ | refine WL.cons ?_ | (show OP _ _ _ _ _ _ _ ⟨_, .move _, _, _, _, none⟩ _ _; first | refine OP.mI rfl rfl ?_ | refine OP.mB rfl rfl ?_ | refine OP.mC rfl rfl ?_ | refine OP.mF rfl rfl ?_ | refine OP.mS rfl rfl ?_ | refine OP.mP rfl rfl ?_ | refine OP.mA rfl rfl ?_ | refine OP.mT rfl rfl ?_ | refine OP.mM rfl rfl ?_ | refine OP.mU rfl rfl ?_ | refine OP.move rfl rfl ?_) | (show OP _ _ _ _ _ _ _ ⟨_, .assign _, _, _, _, none⟩ _ _; first | refine OP.aI rfl rfl ?_ | refine OP.aB rfl rfl ?_ | refine OP.aC rfl rfl ?_ | refine OP.aF rfl rfl ?_ | refine OP.aS rfl rfl ?_ | refine OP.aP rfl rfl ?_ | refine OP.aA rfl rfl ?_ | refine OP.aT rfl rfl ?_ | refine OP.aM rfl rfl ?_ | refine OP.aU rfl rfl ?_ | refine OP.assign rfl rfl ?_) | refine OP.len rfl rfl rfl ?_ | (show OP _ _ _ _ _ _ _ ⟨_, .binOp _ _ _ _ _, _, _, _, none⟩ _ _; first | refine OP.mulR hgi rfl rfl rfl ?_ | refine OP.mulR hsk rfl rfl rfl ?_ | (refine OP.add rfl rfl rfl ?_ ?_ ?_; omega; omega) | refine OP.lss rfl rfl rfl ?_ | (refine OP.mul rfl rfl rfl ?_ ?_ ?_; omega; omega)) | refine OP.extract rfl rfl rfl ?_ | (show OP _ _ _ _ _ _ _ ⟨_, .load _ _, _, _, _, none⟩ _ _; first | refine OP.ld rfl rfl inferInstance rfl ?_ | refine OP.load rfl rfl (Sees.old0 (by assumption)) ?_ | refine OP.ldA rfl rfl inferInstance rfl ?_) | (show OP _ _ _ _ _ _ _ ⟨_, .store _ _ _, _, _, _, none⟩ _ _; first | refine OP.stI rfl rfl inferInstance rfl ?_ | refine OP.stB rfl rfl inferInstance rfl ?_ | refine OP.stC rfl rfl inferInstance rfl ?_ | refine OP.stF rfl rfl inferInstance rfl ?_ | refine OP.stS rfl rfl inferInstance rfl ?_ | refine OP.stP rfl rfl inferInstance rfl ?_ | refine OP.stM rfl rfl inferInstance rfl ?_ | refine OP.stU rfl rfl inferInstance rfl ?_ | refine OP.st (vs := [_]) rfl rfl inferInstance rfl rfl rfl ?_ | refine OP.st (vs := [_, _]) rfl rfl inferInstance rfl rfl rfl ?_ | refine OP.st (vs := [_, _, _]) rfl rfl inferInstance rfl rfl rfl ?_))
      refine Fin.loop_normal fun w' hst => ⟨k + 1, by omega, by omega, by (repeat' (first | exact Agree.refl _ _ | refine Agree.upd rfl ?_ | refine Agree.hav rfl ?_)), ⟨rfl, trivial⟩, hst⟩
    · have ek : k = N := by omega
      have hall : filC L k = L := by rw [ek, ← hLl]; exact filC_all L
      rw [hall]
      repeat' (first | refine Fin.tail ?_ | refine Fin.then_normal ?_ | refine Fin.then_exit ?_ | refine Fin.then_ret ?_ | refine Fin.block_normal ?_ | refine Fin.block_ret ?_ | refine Fin.block_hit ?_ | refine Fin.block_miss rfl ?_ | refine Fin.loop_exit ?_ | refine Fin.loop_ret ?_ | refine WP.seq ?_ | (refine WP.regionQ (by kernel_rfl) (by kernel_rfl) ?_) | refine WP.block ?_ | refine WP.region ?_ | refine WP.skip ?_ | refine WP.exit ?_ | refine WP.ret ?_ | refine WP.label ?_ | refine WP.cond_true rfl ?_ | refine WP.cond_false rfl ?_ | (refine WP.cond_dec rfl (fun h => ?_) (fun h => ?_) <;> (try (exfalso; omega))) | (refine WP.cond_bool rfl (fun h => ?_) (fun h => ?_)) | refine WL.nil ?_ | refine WL.cons ?_ | (show OP _ _ _ _ _ _ _ ⟨_, .move _, _, _, _, none⟩ _ _; first | refine OP.mI rfl rfl ?_ | refine OP.mB rfl rfl ?_ | refine OP.mC rfl rfl ?_ | refine OP.mF rfl rfl ?_ | refine OP.mS rfl rfl ?_ | refine OP.mP rfl rfl ?_ | refine OP.mA rfl rfl ?_ | refine OP.mT rfl rfl ?_ | refine OP.mM rfl rfl ?_ | refine OP.mU rfl rfl ?_ | refine OP.move rfl rfl ?_) | (show OP _ _ _ _ _ _ _ ⟨_, .assign _, _, _, _, none⟩ _ _; first | refine OP.aI rfl rfl ?_ | refine OP.aB rfl rfl ?_ | refine OP.aC rfl rfl ?_ | refine OP.aF rfl rfl ?_ | refine OP.aS rfl rfl ?_ | refine OP.aP rfl rfl ?_ | refine OP.aA rfl rfl ?_ | refine OP.aT rfl rfl ?_ | refine OP.aM rfl rfl ?_ | refine OP.aU rfl rfl ?_ | refine OP.assign rfl rfl ?_) | (show OP _ _ _ _ _ _ _ ⟨_, .call _, _, _, _, none⟩ _ _; first | (refine OP.callv (f := F) rfl rfl rfl (fun w' hst' => hby ln N w' (RdC.own hst' (List.Mem.head _)) (hT.over hst' hTb)) (fun _ _ hR => ?_); obtain ⟨q, rfl, rfl⟩ := hR) | refine OP.len rfl rfl rfl ?_) | (show OP _ _ _ _ _ _ _ ⟨_, .binOp _ _ _ _ _, _, _, _, none⟩ _ _; first | (refine OP.add rfl rfl rfl ?_ ?_ ?_; omega; omega) | refine OP.lss rfl rfl rfl ?_ | (refine OP.mul rfl rfl rfl ?_ ?_ ?_; omega; omega)) | refine OP.extract rfl rfl rfl ?_ | (show OP _ _ _ _ _ _ _ ⟨_, .load _ _, _, _, _, none⟩ _ _; first | refine OP.ld rfl rfl inferInstance rfl ?_ | refine OP.load rfl rfl (Sees.old0 (by assumption)) ?_ | refine OP.ldA rfl rfl inferInstance rfl ?_) | (show OP _ _ _ _ _ _ _ ⟨_, .store _ _ _, _, _, _, none⟩ _ _; first | refine OP.stI rfl rfl inferInstance rfl ?_ | refine OP.stB rfl rfl inferInstance rfl ?_ | refine OP.stC rfl rfl inferInstance rfl ?_ | refine OP.stF rfl rfl inferInstance rfl ?_ | refine OP.stS rfl rfl inferInstance rfl ?_ | refine OP.stP rfl rfl inferInstance rfl ?_ | refine OP.stM rfl rfl inferInstance rfl ?_ | refine OP.stU rfl rfl inferInstance rfl ?_ | refine OP.st (vs := [_]) rfl rfl inferInstance rfl rfl rfl ?_ | refine OP.st (vs := [_, _]) rfl rfl inferInstance rfl rfl rfl ?_ | refine OP.st (vs := [_, _, _]) rfl rfl inferInstance rfl rfl rfl ?_))
      have hpl := fun k => putL_len (posOf gap step) i r e k
      refine WP.loop [13, 14, 48, 49, 50, 51, 52, 53, 54, 55, 56, 57, 58, 59, 60, 61, 62, 63] (fun k : Nat => [(48, .int .i64 k)]) (fun k => [(q, .cells (cxs r ++ []).toArray 28 (0, 0)), (ln, .cells (cxs L ++ []).toArray 28 (0, 0)), (cb, .cells (cxs (putL (posOf gap step) i r e k) ++ sp).toArray 28 (0, 0))]) (fun k => k ≤ N) (fun k => N - k) 0 (by omega) rfl ⟨rfl, trivial⟩ ?_
      rintro k2 jk2 k21
      dsimp only [updL]
      by_cases hk2 : k2 < N
      · have hks : k2 * step ≤ 64 * 64 := Nat.mul_le_mul (by omega) hst
        have hsk : IntKind.i64.wrap ((k2 : Int) * (step : Int)) = ((k2 * step : Nat) : Int) := by rw [← Int.natCast_mul]; exact wrap_nat (by omega)
        have hlt : i * gap + k2 * step < N * N := hl.lt i k2 hi hk2
        obtain ⟨a, ha⟩ : ∃ a, r[k2]? = some a := ⟨r[k2]'(by omega), List.getElem?_eq_getElem _⟩
        have la := cxs_at (sp := []) ha
        have hpk := hpl k2
        have sz := cxs_size (l := putL (posOf gap step) i r e k2) (sp := sp) (i := i * gap + k2 * step) (by omega)
        have st := cxs_set (putL (posOf gap step) i r e k2) sp (i * gap + k2 * step) a (by omega)
        have hnx : (putL (posOf gap step) i r e k2).set (i * gap + k2 * step) a = putL (posOf gap step) i r e (k2 + 1) := by
          show _ = (putL (posOf gap step) i r e k2).set (i * gap + k2 * step) (r.getD k2 (0, 0))
          rw [List.getD_eq_getElem?_getD, ha]; rfl
        rw [hnx] at st
        repeat' (first | refine OP.indexAddr (j := i * gap + k2 * step) rfl rfl rfl (Int.natCast_add _ _).symm hlt ?_ | refine OP.indexAddr (j := k2) rfl rfl rfl rfl hk2 ?_ | refine OP.load rfl rfl (Sees.own (List.Mem.head _) la) ?_ | (refine OP.store2 (vs := [.complex .f64 a.1 a.2]) rfl rfl rfl rfl sz ?_; rw [st]) | refine Fin.tail ?_ | refine Fin.then_normal ?_ | refine Fin.then_exit ?_ | refine Fin.then_ret ?_ | refine Fin.block_normal ?_ | refine Fin.block_ret ?_ | refine Fin.block_hit ?_ | refine Fin.block_miss rfl ?_ | refine Fin.loop_exit ?_ | refine Fin.loop_ret ?_ | refine WP.seq ?_ | (refine WP.regionQ (by kernel_rfl) (by kernel_rfl) ?_) | refine WP.block ?_ | refine WP.region ?_ | refine WP.skip ?_ | refine WP.exit ?_ | refine WP.ret ?_ | refine WP.label ?_ | refine WP.cond_true rfl ?_ | refine WP.cond_false rfl ?_ | (refine WP.cond_dec rfl (fun h => ?_) (fun h => ?_) <;> (try (exfalso; omega))) | (refine WP.cond_bool rfl (fun h => ?_) (fun h => ?_)) | refine WL.nil ?_ | refine WL.cons ?_ | (show OP _ _ _ _ _ _ _ ⟨_, .move _, _, _, _, none⟩ _ _; first | refine OP.mI rfl rfl ?_ | refine OP.mB rfl rfl ?_ | refine OP.mC rfl rfl ?_ | refine OP.mF rfl rfl ?_ | refine OP.mS rfl rfl ?_ | refine OP.mP rfl rfl ?_ | refine OP.mA rfl rfl ?_ | refine OP.mT rfl rfl ?_ | refine OP.mM rfl rfl ?_ | refine OP.mU rfl rfl ?_ | refine OP.move rfl rfl ?_) | (show OP _ _ _ _ _ _ _ ⟨_, .assign _, _, _, _, none⟩ _ _; first | refine OP.aI rfl rfl ?_ | refine OP.aB rfl rfl ?_ | refine OP.aC rfl rfl ?_ | refine OP.aF rfl rfl ?_ | refine OP.aS rfl rfl ?_ | refine OP.aP rfl rfl ?_ | refine OP.aA rfl rfl ?_ | refine OP.aT rfl rfl ?_ | refine OP.aM rfl rfl ?_ | refine OP.aU rfl rfl ?_ | refine OP.assign rfl rfl ?_) | refine OP.len rfl rfl rfl ?_ | (show OP _ _ _ _ _ _ _ ⟨_, .binOp _ _ _ _ _, _, _, _, none⟩ _ _; first | refine OP.mulR hgi rfl rfl rfl ?_ | refine OP.mulR hsk rfl rfl rfl ?_ | (refine OP.add rfl rfl rfl ?_ ?_ ?_; omega; omega) | refine OP.lss rfl rfl rfl ?_ | (refine OP.mul rfl rfl rfl ?_ ?_ ?_; omega; omega)) | refine OP.extract rfl rfl rfl ?_ | (show OP _ _ _ _ _ _ _ ⟨_, .load _ _, _, _, _, none⟩ _ _; first | refine OP.ld rfl rfl inferInstance rfl ?_ | refine OP.load rfl rfl (Sees.old0 (by assumption)) ?_ | refine OP.ldA rfl rfl inferInstance rfl ?_) | (show OP _ _ _ _ _ _ _ ⟨_, .store _ _ _, _, _, _, none⟩ _ _; first | refine OP.stI rfl rfl inferInstance rfl ?_ | refine OP.stB rfl rfl inferInstance rfl ?_ | refine OP.stC rfl rfl inferInstance rfl ?_ | refine OP.stF rfl rfl inferInstance rfl ?_ | refine OP.stS rfl rfl inferInstance rfl ?_ | refine OP.stP rfl rfl inferInstance rfl ?_ | refine OP.stM rfl rfl inferInstance rfl ?_ | refine OP.stU rfl rfl inferInstance rfl ?_ | refine OP.st (vs := [_]) rfl rfl inferInstance rfl rfl rfl ?_ | refine OP.st (vs := [_, _]) rfl rfl inferInstance rfl rfl rfl ?_ | refine OP.st (vs := [_, _, _]) rfl rfl inferInstance rfl rfl rfl ?_))
        refine Fin.loop_normal fun w' hst => ⟨k2 + 1, by omega, by omega, by (repeat' (first | exact Agree.refl _ _ | refine Agree.upd rfl ?_ | refine Agree.hav rfl ?_)), ⟨rfl, trivial⟩, hst⟩
      · have ek2 : k2 = N := by omega
        rw [ek2, hput]
        repeat' (first | refine Fin.tail ?_ | refine Fin.then_normal ?_ | refine Fin.then_exit ?_ | refine Fin.then_ret ?_ | refine Fin.block_normal ?_ | refine Fin.block_ret ?_ | refine Fin.block_hit ?_ | refine Fin.block_miss rfl ?_ | refine Fin.loop_exit ?_ | refine Fin.loop_ret ?_ | refine WP.seq ?_ | (refine WP.regionQ (by kernel_rfl) (by kernel_rfl) ?_) | refine WP.block ?_ | refine WP.region ?_ | refine WP.skip ?_ | refine WP.exit ?_ | refine WP.ret ?_ | refine WP.label ?_ | refine WP.cond_true rfl ?_ | refine WP.cond_false rfl ?_ | (refine WP.cond_dec rfl (fun h => ?_) (fun h => ?_) <;> (try (exfalso; omega))) | (refine WP.cond_bool rfl (fun h => ?_) (fun h => ?_)) | refine WL.nil ?_ | refine WL.cons ?_ | (show OP _ _ _ _ _ _ _ ⟨_, .move _, _, _, _, none⟩ _ _; first | refine OP.mI rfl rfl ?_ | refine OP.mB rfl rfl ?_ | refine OP.mC rfl rfl ?_ | refine OP.mF rfl rfl ?_ | refine OP.mS rfl rfl ?_ | refine OP.mP rfl rfl ?_ | refine OP.mA rfl rfl ?_ | refine OP.mT rfl rfl ?_ | refine OP.mM rfl rfl ?_ | refine OP.mU rfl rfl ?_ | refine OP.move rfl rfl ?_) | (show OP _ _ _ _ _ _ _ ⟨_, .assign _, _, _, _, none⟩ _ _; first | refine OP.aI rfl rfl ?_ | refine OP.aB rfl rfl ?_ | refine OP.aC rfl rfl ?_ | refine OP.aF rfl rfl ?_ | refine OP.aS rfl rfl ?_ | refine OP.aP rfl rfl ?_ | refine OP.aA rfl rfl ?_ | refine OP.aT rfl rfl ?_ | refine OP.aM rfl rfl ?_ | refine OP.aU rfl rfl ?_ | refine OP.assign rfl rfl ?_) | refine OP.len rfl rfl rfl ?_ | (show OP _ _ _ _ _ _ _ ⟨_, .binOp _ _ _ _ _, _, _, _, none⟩ _ _; first | (refine OP.add rfl rfl rfl ?_ ?_ ?_; omega; omega) | refine OP.lss rfl rfl rfl ?_ | (refine OP.mul rfl rfl rfl ?_ ?_ ?_; omega; omega)) | refine OP.extract rfl rfl rfl ?_ | (show OP _ _ _ _ _ _ _ ⟨_, .load _ _, _, _, _, none⟩ _ _; first | refine OP.ld rfl rfl inferInstance rfl ?_ | refine OP.load rfl rfl (Sees.old0 (by assumption)) ?_ | refine OP.ldA rfl rfl inferInstance rfl ?_) | (show OP _ _ _ _ _ _ _ ⟨_, .store _ _ _, _, _, _, none⟩ _ _; first | refine OP.stI rfl rfl inferInstance rfl ?_ | refine OP.stB rfl rfl inferInstance rfl ?_ | refine OP.stC rfl rfl inferInstance rfl ?_ | refine OP.stF rfl rfl inferInstance rfl ?_ | refine OP.stS rfl rfl inferInstance rfl ?_ | refine OP.stP rfl rfl inferInstance rfl ?_ | refine OP.stM rfl rfl inferInstance rfl ?_ | refine OP.stU rfl rfl inferInstance rfl ?_ | refine OP.st (vs := [_]) rfl rfl inferInstance rfl rfl rfl ?_ | refine OP.st (vs := [_, _]) rfl rfl inferInstance rfl rfl rfl ?_ | refine OP.st (vs := [_, _, _]) rfl rfl inferInstance rfl rfl rfl ?_))
        refine Fin.drop (Γ' := [(cb, .cells (cxs e' ++ sp).toArray 28 (0, 0))]) (.cons _ (.cons _ (List.Sublist.refl _))) ?_
        refine Fin.loop_normal fun w' hst => ⟨(i + 1, e'), ⟨by dsimp only; omega, hd'⟩, by dsimp only; omega, by (repeat' (first | exact Agree.refl _ _ | refine Agree.upd rfl ?_ | refine Agree.hav rfl ?_)), ⟨rfl, trivial⟩, hst⟩
  · have ei : i = N := by omega
    subst ei
    obtain rfl : e = d := by rw [i2] at hd; exact Option.some.inj hd
    repeat' (first | refine Fin.tail ?_ | refine Fin.then_normal ?_ | refine Fin.then_exit ?_ | refine Fin.then_ret ?_ | refine Fin.block_normal ?_ | refine Fin.block_ret ?_ | refine Fin.block_hit ?_ | refine Fin.block_miss rfl ?_ | refine Fin.loop_exit ?_ | refine Fin.loop_ret ?_ | refine WP.seq ?_ | (refine WP.regionQ (by kernel_rfl) (by kernel_rfl) ?_) | refine WP.block ?_ | refine WP.region ?_ | refine WP.skip ?_ | refine WP.exit ?_ | refine WP.ret ?_ | refine WP.label ?_ | refine WP.cond_true rfl ?_ | refine WP.cond_false rfl ?_ | (refine WP.cond_dec rfl (fun h => ?_) (fun h => ?_) <;> (try (exfalso; omega))) | (refine WP.cond_bool rfl (fun h => ?_) (fun h => ?_)) | refine WL.nil ?_ | refine WL.cons ?_ | (show OP _ _ _ _ _ _ _ ⟨_, .move _, _, _, _, none⟩ _ _; first | refine OP.mI rfl rfl ?_ | refine OP.mB rfl rfl ?_ | refine OP.mC rfl rfl ?_ | refine OP.mF rfl rfl ?_ | refine OP.mS rfl rfl ?_ | refine OP.mP rfl rfl ?_ | refine OP.mA rfl rfl ?_ | refine OP.mT rfl rfl ?_ | refine OP.mM rfl rfl ?_ | refine OP.mU rfl rfl ?_ | refine OP.move rfl rfl ?_) | (show OP _ _ _ _ _ _ _ ⟨_, .assign _, _, _, _, none⟩ _ _; first | refine OP.aI rfl rfl ?_ | refine OP.aB rfl rfl ?_ | refine OP.aC rfl rfl ?_ | refine OP.aF rfl rfl ?_ | refine OP.aS rfl rfl ?_ | refine OP.aP rfl rfl ?_ | refine OP.aA rfl rfl ?_ | refine OP.aT rfl rfl ?_ | refine OP.aM rfl rfl ?_ | refine OP.aU rfl rfl ?_ | refine OP.assign rfl rfl ?_) | refine OP.len rfl rfl rfl ?_ | (show OP _ _ _ _ _ _ _ ⟨_, .binOp _ _ _ _ _, _, _, _, none⟩ _ _; first | (refine OP.add rfl rfl rfl ?_ ?_ ?_; omega; omega) | refine OP.lss rfl rfl rfl ?_ | (refine OP.mul rfl rfl rfl ?_ ?_ ?_; omega; omega)) | refine OP.extract rfl rfl rfl ?_ | (show OP _ _ _ _ _ _ _ ⟨_, .load _ _, _, _, _, none⟩ _ _; first | refine OP.ld rfl rfl inferInstance rfl ?_ | refine OP.load rfl rfl (Sees.old0 (by assumption)) ?_ | refine OP.ldA rfl rfl inferInstance rfl ?_) | (show OP _ _ _ _ _ _ _ ⟨_, .store _ _ _, _, _, _, none⟩ _ _; first | refine OP.stI rfl rfl inferInstance rfl ?_ | refine OP.stB rfl rfl inferInstance rfl ?_ | refine OP.stC rfl rfl inferInstance rfl ?_ | refine OP.stF rfl rfl inferInstance rfl ?_ | refine OP.stS rfl rfl inferInstance rfl ?_ | refine OP.stP rfl rfl inferInstance rfl ?_ | refine OP.stM rfl rfl inferInstance rfl ?_ | refine OP.stU rfl rfl inferInstance rfl ?_ | refine OP.st (vs := [_]) rfl rfl inferInstance rfl rfl rfl ?_ | refine OP.st (vs := [_, _]) rfl rfl inferInstance rfl rfl rfl ?_ | refine OP.st (vs := [_, _, _]) rfl rfl inferInstance rfl rfl rfl ?_))
    refine Fin.ret0 (h0 := .inr rfl) rfl ?_
    exact ⟨rfl, rfl⟩
end Go.Proofs.YthecbhegjdcjfaaDoor
end
section
/- Layer 4: right, both, Forward, Back, walked. %compact -/
set_option linter.unusedVariables false
set_option maxRecDepth 100000
namespace Go.Proofs.YthecbhegjdcjfaaDoor
open Go.Pen Go.Flt Go.Wav Go.Cyc

/-- A grid's value. -/
def gV (N b len cap : Nat) : Value := .agg #[.int .i64 (N : Int), .slice (some ⟨b, 0, none⟩) len cap]
theorem and_pow5 {m : Nat} (hm : m ≤ 5) : bits .and .i64 ((2 ^ m : Nat) : Int) (((2 ^ m : Nat) : Int) - 1) = 0 := by
  rcases (by omega : m = 0 ∨ m = 1 ∨ m = 2 ∨ m = 3 ∨ m = 4 ∨ m = 5) with rfl | rfl | rfl | rfl | rfl | rfl <;> decide
theorem pow32 {m : Nat} (hm : m ≤ 5) : 2 ^ m ≤ 32 := Nat.le_trans (Nat.pow_le_pow_right (by decide) hm) (by decide)
theorem sq_cast {N : Nat} (h : N ≤ 32) : IntKind.i64.wrap ((N : Int) * (N : Int)) = ((N * N : Nat) : Int) := by
  rw [← Int.natCast_mul]
  have := Nat.mul_le_mul h h
  exact wrap_nat (by omega)
theorem tz_fresh {B w : World} {Γ : List (Nat × Obj)} (hT : TzT B) (h : St B [] Γ w) : ∀ p ∈ Γ, 2 ≠ p.1 := by
  intro p hp he
  have h1 := hT.c 0 0 rfl
  have hlt : 2 < B.heap.size := by
    rcases Nat.lt_or_ge 2 B.heap.size with h2 | h2
    · exact h2
    · exfalso
      unfold World.cell? at h1
      have hn : B.heap[2]? = none := Array.getElem?_eq_none h2
      dsimp only at h1
      rw [hn] at h1
      cases h1
  rcases h.own p hp with h2 | h2
  · cases h2
  · omega
set_option maxHeartbeats 2000000 in
theorem pright_fn (m : Nat) (hm : m ≤ 5) (b cap : Nat) (w : World) : Does Tryd.prog 27 #[gV (2 ^ m) b (2 ^ m * 2 ^ m) cap] [] w fun v Γ => v = .bool true ∧ Γ = [] := by
  have hand := and_pow5 hm
  have hp := pow32 hm
  have hp0 := Nat.two_pow_pos m
  have hsq := sq_cast hp
  generalize 2 ^ m = N at *
  refine Does.enter Tryd.func27 rfl Tryd.ntmps27 rfl (St.start w) ?_
  repeat' (first | refine Fin.tail ?_ | refine Fin.then_normal ?_ | refine Fin.then_exit ?_ | refine Fin.then_ret ?_ | refine Fin.block_normal ?_ | refine Fin.block_ret ?_ | refine Fin.block_hit ?_ | refine Fin.block_miss rfl ?_ | refine Fin.loop_exit ?_ | refine Fin.loop_ret ?_ | refine WP.seq ?_ | (refine WP.regionQ (by kernel_rfl) (by kernel_rfl) ?_) | refine WP.block ?_ | refine WP.region ?_ | refine WP.skip ?_ | refine WP.exit ?_ | refine WP.ret ?_ | refine WP.label ?_ | refine WP.cond_true rfl ?_ | refine WP.cond_false rfl ?_ | (refine WP.cond_dec rfl (fun h => ?_) (fun h => ?_) <;> (try (exfalso; omega))) | (refine WP.cond_bool rfl (fun h => ?_) (fun h => ?_)) | refine WL.nil ?_ | refine WL.cons ?_ | (show OP _ _ _ _ _ _ _ ⟨_, _, _, _, _, some _⟩ _ _; first | refine OP.guard_yes rfl rfl ?_ | refine OP.guard_no rfl rfl rfl rfl ?_ | refine OP.guard_un rfl rfl rfl ?_ | refine OP.guard_no0 rfl rfl rfl ?_ | (refine OP.guard_dec rfl rfl (fun h => ?_) (fun h => ?_) <;> (try (exfalso; omega))) | refine OP.guard_bool rfl rfl (fun h => ?_) (fun h => ?_)) | (show OP _ _ _ _ _ _ _ ⟨_, .move _, _, _, _, none⟩ _ _; first | refine OP.mI rfl rfl ?_ | refine OP.mB rfl rfl ?_ | refine OP.mC rfl rfl ?_ | refine OP.mF rfl rfl ?_ | refine OP.mS rfl rfl ?_ | refine OP.mP rfl rfl ?_ | refine OP.mA rfl rfl ?_ | refine OP.mT rfl rfl ?_ | refine OP.mM rfl rfl ?_ | refine OP.mU rfl rfl ?_ | refine OP.move rfl rfl ?_) | (show OP _ _ _ _ _ _ _ ⟨_, .assign _, _, _, _, none⟩ _ _; first | refine OP.aI rfl rfl ?_ | refine OP.aB rfl rfl ?_ | refine OP.aC rfl rfl ?_ | refine OP.aF rfl rfl ?_ | refine OP.aS rfl rfl ?_ | refine OP.aP rfl rfl ?_ | refine OP.aA rfl rfl ?_ | refine OP.aT rfl rfl ?_ | refine OP.aM rfl rfl ?_ | refine OP.aU rfl rfl ?_ | refine OP.assign rfl rfl ?_) | refine OP.len rfl rfl rfl ?_ | (show OP _ _ _ _ _ _ _ ⟨_, .binOp _ _ _ _ _, _, _, _, none⟩ _ _; first | refine OP.bitop (r := 0) (.inl rfl) rfl rfl rfl hand ?_ | refine OP.mulR hsq rfl rfl rfl ?_ | (refine OP.sub rfl rfl rfl ?_ ?_ ?_; omega; omega) | refine OP.eql rfl rfl rfl ?_ | refine OP.gtr rfl rfl rfl ?_ | refine OP.leq rfl rfl rfl ?_ | refine OP.eql2 rfl rfl rfl ?_ | refine OP.eqd rfl rfl rfl ?_ | refine OP.eqlb rfl rfl rfl ?_ | (refine OP.mul rfl rfl rfl ?_ ?_ ?_; omega; omega)) | (show OP _ _ _ _ _ _ _ ⟨_, .pick _ _ _, _, _, _, none⟩ _ _; first | refine OP.pick_true rfl rfl ?_ | refine OP.pick_false rfl rfl ?_) | refine OP.fieldAddr rfl rfl ?_ | (show OP _ _ _ _ _ _ _ ⟨_, .load _ _, _, _, _, none⟩ _ _; first | refine OP.ld rfl rfl inferInstance rfl ?_ | refine OP.load rfl rfl (Sees.old0 (by assumption)) ?_ | refine OP.ldA rfl rfl inferInstance rfl ?_) | (show OP _ _ _ _ _ _ _ ⟨_, .box _ _, _, _, _, none⟩ _ _; first | refine OP.bxI rfl rfl (fun bx => ?_) | refine OP.bxB rfl rfl (fun bx => ?_) | refine OP.bxC rfl rfl (fun bx => ?_) | refine OP.bxF rfl rfl (fun bx => ?_) | refine OP.bxS rfl rfl (fun bx => ?_) | refine OP.bxP rfl rfl (fun bx => ?_) | refine OP.bxA rfl rfl (fun bx => ?_) | refine OP.bxM rfl rfl (fun bx => ?_) | refine OP.bxU rfl rfl (fun bx => ?_) | refine OP.box rfl rfl (fun bx => ?_)))
  all_goals refine Fin.drop (List.nil_sublist _) ?_
  all_goals refine Fin.ret1 (h0 := .inl rfl) rfl rfl ?_
  all_goals exact ⟨congrArg Value.bool (decide_eq_true rfl), rfl⟩
/-- Both ways of a field, whatever the transform. -/
theorem bothC_parts {f : List Cx → Option (List Cx)} {N : Nat} {c y : List Cx} (h : bothC f N c = some y) : ∃ d, lanTo f N (rowP N) c N = some d ∧ lanTo f N (colP N) d N = some y := by
  unfold bothC at h
  rw [Option.bind_eq_some_iff] at h
  exact h
set_option maxHeartbeats 8000000 in
theorem both_fn (F : FuncId) [hB : Body Tryd.prog F] (f : List Cx → Option (List Cx)) (m : Nat) (hm : m ≤ 5) (hF : ByOk F f (2 ^ m)) (c y : List Cx) (hc : c.length = 2 ^ m * 2 ^ m) (hy : bothC f (2 ^ m) c = some y) (b cap : Nat) (w : World) (hr : RdC w b 0 c) (hT : TzT w) :
    Does Tryd.prog 18 #[gV (2 ^ m) b (2 ^ m * 2 ^ m) cap, .func (.func F) #[] #[]] [] w fun v Γ => ∃ q, v = .tuple #[gV (2 ^ m) q (2 ^ m * 2 ^ m) (2 ^ m * 2 ^ m), .int .i64 0] ∧ Γ = [(q, .cells (cxs y ++ []).toArray 28 (0, 0))] := by
  obtain ⟨d, hd, hyd⟩ := bothC_parts hy
  have hri := fun w => pright_fn m hm b cap w
  have hp := pow32 hm
  have hp0 := Nat.two_pow_pos m
  have hdl := lanTo_len hd
  have hyl := lanTo_len hyd
  have hrow : Lay (2 ^ m) (posOf (2 ^ m) 1) := row_lay (2 ^ m)
  have hcol : Lay (2 ^ m) (posOf 1 (2 ^ m)) := col_lay (2 ^ m)
  have hl1 := fun cb cap sp w hmm hn hT hTb => lanes_fn F f (2 ^ m) (2 ^ m) 1 (by omega) (by omega) (by decide) hF hrow c d hc hd cb cap sp w hmm hn hT hTb
  have hl2 := fun cb cap sp w hmm hn hT hTb => lanes_fn F f (2 ^ m) 1 (2 ^ m) (by omega) (by decide) (by omega) hF hcol d y (by rw [hdl, hc]) hyd cb cap sp w hmm hn hT hTb
  have hNN : 2 ^ m * 2 ^ m ≤ 32 * 32 := Nat.mul_le_mul hp hp
  unfold gV at *
  generalize hN : 2 ^ m = N at *
  generalize hNNe : N * N = NN at *
  have hcp : (cxs c ++ (cxs (List.replicate NN ((0, 0) : Cx)) ++ []).drop (cxs c).length).toArray = (cxs c ++ []).toArray := by
    rw [List.append_nil, List.drop_of_length_le (by rw [cxs_len, cxs_len, List.length_replicate]; omega)]
  refine Does.enter Tryd.func18 rfl Tryd.ntmps18 rfl (St.start w) ?_
  repeat' (first | refine Fin.tail ?_ | refine Fin.then_normal ?_ | refine Fin.then_exit ?_ | refine Fin.then_ret ?_ | refine Fin.block_normal ?_ | refine Fin.block_ret ?_ | refine Fin.block_hit ?_ | refine Fin.block_miss rfl ?_ | refine Fin.loop_exit ?_ | refine Fin.loop_ret ?_ | refine WP.seq ?_ | (refine WP.regionQ (by kernel_rfl) (by kernel_rfl) ?_) | refine WP.block ?_ | refine WP.region ?_ | refine WP.skip ?_ | refine WP.exit ?_ | refine WP.ret ?_ | refine WP.label ?_ | refine WP.cond_true rfl ?_ | refine WP.cond_false rfl ?_ | (refine WP.cond_dec rfl (fun h => ?_) (fun h => ?_) <;> (try (exfalso; omega))) | (refine WP.cond_bool rfl (fun h => ?_) (fun h => ?_)) | refine WL.nil ?_ | refine WL.cons ?_ | (show OP _ _ _ _ _ _ _ ⟨_, .move _, _, _, _, none⟩ _ _; first | refine OP.mI rfl rfl ?_ | refine OP.mB rfl rfl ?_ | refine OP.mC rfl rfl ?_ | refine OP.mF rfl rfl ?_ | refine OP.mS rfl rfl ?_ | refine OP.mP rfl rfl ?_ | refine OP.mA rfl rfl ?_ | refine OP.mT rfl rfl ?_ | refine OP.mM rfl rfl ?_ | refine OP.mU rfl rfl ?_ | refine OP.move rfl rfl ?_) | (show OP _ _ _ _ _ _ _ ⟨_, .assign _, _, _, _, none⟩ _ _; first | refine OP.aI rfl rfl ?_ | refine OP.aB rfl rfl ?_ | refine OP.aC rfl rfl ?_ | refine OP.aF rfl rfl ?_ | refine OP.aS rfl rfl ?_ | refine OP.aP rfl rfl ?_ | refine OP.aA rfl rfl ?_ | refine OP.aT rfl rfl ?_ | refine OP.aM rfl rfl ?_ | refine OP.aU rfl rfl ?_ | refine OP.assign rfl rfl ?_) | (show OP _ _ _ _ _ _ _ ⟨_, .call _, _, _, _, none⟩ _ _; first | refine OP.callq _ rfl (fun w _ => hri w) (fun _ _ h => h.1) ?_ | refine OP.len rfl rfl rfl ?_) | (show OP _ _ _ _ _ _ _ ⟨_, .unOp _ _ _, _, _, _, none⟩ _ _; first | refine OP.notd rfl rfl ?_ | refine OP.not rfl rfl ?_ | (refine OP.neg rfl rfl ?_ ?_ ?_; omega; omega)) | refine OP.fieldAddr rfl rfl ?_ | (show OP _ _ _ _ _ _ _ ⟨_, .load _ _, _, _, _, none⟩ _ _; first | refine OP.ld rfl rfl inferInstance rfl ?_ | refine OP.load rfl rfl (Sees.old0 (by assumption)) ?_ | refine OP.ldA rfl rfl inferInstance rfl ?_) | (show OP _ _ _ _ _ _ _ ⟨_, .store _ _ _, _, _, _, none⟩ _ _; first | refine OP.stI rfl rfl inferInstance rfl ?_ | refine OP.stB rfl rfl inferInstance rfl ?_ | refine OP.stC rfl rfl inferInstance rfl ?_ | refine OP.stF rfl rfl inferInstance rfl ?_ | refine OP.stS rfl rfl inferInstance rfl ?_ | refine OP.stP rfl rfl inferInstance rfl ?_ | refine OP.stM rfl rfl inferInstance rfl ?_ | refine OP.stU rfl rfl inferInstance rfl ?_ | refine OP.st (vs := [_]) rfl rfl inferInstance rfl rfl rfl ?_ | refine OP.st (vs := [_, _]) rfl rfl inferInstance rfl rfl rfl ?_ | refine OP.st (vs := [_, _, _]) rfl rfl inferInstance rfl rfl rfl ?_) | (show OP _ _ _ _ _ _ _ ⟨_, .box _ _, _, _, _, none⟩ _ _; first | refine OP.bxI rfl rfl (fun bx => ?_) | refine OP.bxB rfl rfl (fun bx => ?_) | refine OP.bxC rfl rfl (fun bx => ?_) | refine OP.bxF rfl rfl (fun bx => ?_) | refine OP.bxS rfl rfl (fun bx => ?_) | refine OP.bxP rfl rfl (fun bx => ?_) | refine OP.bxA rfl rfl (fun bx => ?_) | refine OP.bxM rfl rfl (fun bx => ?_) | refine OP.bxU rfl rfl (fun bx => ?_) | refine OP.box rfl rfl (fun bx => ?_)) | refine OP.alI rfl (fun al => ?_) | refine OP.alA rfl (fun al => ?_) | refine OP.alloc rfl rfl (fun al => ?_) | refine OP.build rfl rfl ?_)
  refine OP.make1 (z := .complex .f64 0 0) (l := NN) rfl rfl rfl rfl rfl (by omega) (by omega) (fun q => ?_)
  rw [cxs_rep]
  repeat' (first | refine Fin.tail ?_ | refine Fin.then_normal ?_ | refine Fin.then_exit ?_ | refine Fin.then_ret ?_ | refine Fin.block_normal ?_ | refine Fin.block_ret ?_ | refine Fin.block_hit ?_ | refine Fin.block_miss rfl ?_ | refine Fin.loop_exit ?_ | refine Fin.loop_ret ?_ | refine WP.seq ?_ | (refine WP.regionQ (by kernel_rfl) (by kernel_rfl) ?_) | refine WP.block ?_ | refine WP.region ?_ | refine WP.skip ?_ | refine WP.exit ?_ | refine WP.ret ?_ | refine WP.label ?_ | refine WP.cond_true rfl ?_ | refine WP.cond_false rfl ?_ | (refine WP.cond_dec rfl (fun h => ?_) (fun h => ?_) <;> (try (exfalso; omega))) | (refine WP.cond_bool rfl (fun h => ?_) (fun h => ?_)) | refine WL.nil ?_ | refine WL.cons ?_ | (show OP _ _ _ _ _ _ _ ⟨_, .move _, _, _, _, none⟩ _ _; first | refine OP.mI rfl rfl ?_ | refine OP.mB rfl rfl ?_ | refine OP.mC rfl rfl ?_ | refine OP.mF rfl rfl ?_ | refine OP.mS rfl rfl ?_ | refine OP.mP rfl rfl ?_ | refine OP.mA rfl rfl ?_ | refine OP.mT rfl rfl ?_ | refine OP.mM rfl rfl ?_ | refine OP.mU rfl rfl ?_ | refine OP.move rfl rfl ?_) | (show OP _ _ _ _ _ _ _ ⟨_, .assign _, _, _, _, none⟩ _ _; first | refine OP.aI rfl rfl ?_ | refine OP.aB rfl rfl ?_ | refine OP.aC rfl rfl ?_ | refine OP.aF rfl rfl ?_ | refine OP.aS rfl rfl ?_ | refine OP.aP rfl rfl ?_ | refine OP.aA rfl rfl ?_ | refine OP.aT rfl rfl ?_ | refine OP.aM rfl rfl ?_ | refine OP.aU rfl rfl ?_ | refine OP.assign rfl rfl ?_) | (show OP _ _ _ _ _ _ _ ⟨_, .call _, _, _, _, none⟩ _ _; first | (refine OP.copy1 (vs := cxs c) (cur := cxs (List.replicate NN ((0, 0) : Cx)) ++ []) rfl rfl rfl rfl (by rw [cxs_len, hc]; exact (Nat.min_self _).symm) (by rw [List.append_nil, cxs_len, cxs_len, List.length_replicate]; omega) (cxs_sees hr _) (cxs_one _) ?_; rw [hcp]) | refine OP.len rfl rfl rfl ?_) | (show OP _ _ _ _ _ _ _ ⟨_, .unOp _ _ _, _, _, _, none⟩ _ _; first | refine OP.notd rfl rfl ?_ | refine OP.not rfl rfl ?_ | (refine OP.neg rfl rfl ?_ ?_ ?_; omega; omega)) | refine OP.fieldAddr rfl rfl ?_ | (show OP _ _ _ _ _ _ _ ⟨_, .load _ _, _, _, _, none⟩ _ _; first | refine OP.ld rfl rfl inferInstance rfl ?_ | refine OP.load rfl rfl (Sees.old0 (by assumption)) ?_ | refine OP.ldA rfl rfl inferInstance rfl ?_) | (show OP _ _ _ _ _ _ _ ⟨_, .store _ _ _, _, _, _, none⟩ _ _; first | refine OP.stI rfl rfl inferInstance rfl ?_ | refine OP.stB rfl rfl inferInstance rfl ?_ | refine OP.stC rfl rfl inferInstance rfl ?_ | refine OP.stF rfl rfl inferInstance rfl ?_ | refine OP.stS rfl rfl inferInstance rfl ?_ | refine OP.stP rfl rfl inferInstance rfl ?_ | refine OP.stM rfl rfl inferInstance rfl ?_ | refine OP.stU rfl rfl inferInstance rfl ?_ | refine OP.st (vs := [_]) rfl rfl inferInstance rfl rfl rfl ?_ | refine OP.st (vs := [_, _]) rfl rfl inferInstance rfl rfl rfl ?_ | refine OP.st (vs := [_, _, _]) rfl rfl inferInstance rfl rfl rfl ?_) | (show OP _ _ _ _ _ _ _ ⟨_, .box _ _, _, _, _, none⟩ _ _; first | refine OP.bxI rfl rfl (fun bx => ?_) | refine OP.bxB rfl rfl (fun bx => ?_) | refine OP.bxC rfl rfl (fun bx => ?_) | refine OP.bxF rfl rfl (fun bx => ?_) | refine OP.bxS rfl rfl (fun bx => ?_) | refine OP.bxP rfl rfl (fun bx => ?_) | refine OP.bxA rfl rfl (fun bx => ?_) | refine OP.bxM rfl rfl (fun bx => ?_) | refine OP.bxU rfl rfl (fun bx => ?_) | refine OP.box rfl rfl (fun bx => ?_)) | refine OP.alI rfl (fun al => ?_) | refine OP.alA rfl (fun al => ?_) | refine OP.alloc rfl rfl (fun al => ?_) | refine OP.build rfl rfl ?_)
  repeat' (first | refine Fin.tail ?_ | refine Fin.then_normal ?_ | refine Fin.then_exit ?_ | refine Fin.then_ret ?_ | refine Fin.block_normal ?_ | refine Fin.block_ret ?_ | refine Fin.block_hit ?_ | refine Fin.block_miss rfl ?_ | refine Fin.loop_exit ?_ | refine Fin.loop_ret ?_ | refine WP.seq ?_ | (refine WP.regionQ (by kernel_rfl) (by kernel_rfl) ?_) | refine WP.block ?_ | refine WP.region ?_ | refine WP.skip ?_ | refine WP.exit ?_ | refine WP.ret ?_ | refine WP.label ?_ | refine WP.cond_true rfl ?_ | refine WP.cond_false rfl ?_ | (refine WP.cond_dec rfl (fun h => ?_) (fun h => ?_) <;> (try (exfalso; omega))) | (refine WP.cond_bool rfl (fun h => ?_) (fun h => ?_)) | refine WL.nil ?_ | refine WL.cons ?_ | (show OP _ _ _ _ _ _ _ ⟨_, .move _, _, _, _, none⟩ _ _; first | refine OP.mI rfl rfl ?_ | refine OP.mB rfl rfl ?_ | refine OP.mC rfl rfl ?_ | refine OP.mF rfl rfl ?_ | refine OP.mS rfl rfl ?_ | refine OP.mP rfl rfl ?_ | refine OP.mA rfl rfl ?_ | refine OP.mT rfl rfl ?_ | refine OP.mM rfl rfl ?_ | refine OP.mU rfl rfl ?_ | refine OP.move rfl rfl ?_) | (show OP _ _ _ _ _ _ _ ⟨_, .assign _, _, _, _, none⟩ _ _; first | refine OP.aI rfl rfl ?_ | refine OP.aB rfl rfl ?_ | refine OP.aC rfl rfl ?_ | refine OP.aF rfl rfl ?_ | refine OP.aS rfl rfl ?_ | refine OP.aP rfl rfl ?_ | refine OP.aA rfl rfl ?_ | refine OP.aT rfl rfl ?_ | refine OP.aM rfl rfl ?_ | refine OP.aU rfl rfl ?_ | refine OP.assign rfl rfl ?_) | (show OP _ _ _ _ _ _ _ ⟨_, .call _, _, _, _, none⟩ _ _; first | (refine OP.callI (f := 28) (Γb := [(q, .cells (cxs c ++ []).toArray 28 (0, 0))]) (Γr := [(al, .cells #[.int .i64 0, .slice none 0 0] 26 (0, 0)), (bx, .cells #[.int .i64 (N : Int), .slice (some ⟨b, 0, none⟩) NN cap] 26 (0, 0))]) rfl rfl rfl (List.Perm.refl _) (fun w' hm hn hst => hl1 q NN [] w' hm hn (hT.over hst (by simp)) (fun h => by simp [keys] at h; exact tz_fresh hT hst _ (List.Mem.head _) h)) (fun _ _ hR => ?_); obtain ⟨rfl, rfl⟩ := hR) | (refine OP.callI (f := 28) (Γb := [(q, .cells (cxs d ++ []).toArray 28 (0, 0))]) (Γr := [(al, .cells #[.int .i64 0, .slice none 0 0] 26 (0, 0)), (bx, .cells #[.int .i64 (N : Int), .slice (some ⟨b, 0, none⟩) NN cap] 26 (0, 0))]) rfl rfl rfl (List.Perm.refl _) (fun w' hm hn hst => hl2 q NN [] w' hm hn (hT.over hst (by simp)) (fun h => by simp [keys] at h; exact tz_fresh hT hst _ (List.Mem.head _) h)) (fun _ _ hR => ?_); obtain ⟨rfl, rfl⟩ := hR) | refine OP.len rfl rfl rfl ?_) | (show OP _ _ _ _ _ _ _ ⟨_, .unOp _ _ _, _, _, _, none⟩ _ _; first | refine OP.notd rfl rfl ?_ | refine OP.not rfl rfl ?_ | (refine OP.neg rfl rfl ?_ ?_ ?_; omega; omega)) | refine OP.fieldAddr rfl rfl ?_ | (show OP _ _ _ _ _ _ _ ⟨_, .load _ _, _, _, _, none⟩ _ _; first | refine OP.ld rfl rfl inferInstance rfl ?_ | refine OP.load rfl rfl (Sees.old0 (by assumption)) ?_ | refine OP.ldA rfl rfl inferInstance rfl ?_) | (show OP _ _ _ _ _ _ _ ⟨_, .store _ _ _, _, _, _, none⟩ _ _; first | refine OP.stI rfl rfl inferInstance rfl ?_ | refine OP.stB rfl rfl inferInstance rfl ?_ | refine OP.stC rfl rfl inferInstance rfl ?_ | refine OP.stF rfl rfl inferInstance rfl ?_ | refine OP.stS rfl rfl inferInstance rfl ?_ | refine OP.stP rfl rfl inferInstance rfl ?_ | refine OP.stM rfl rfl inferInstance rfl ?_ | refine OP.stU rfl rfl inferInstance rfl ?_ | refine OP.st (vs := [_]) rfl rfl inferInstance rfl rfl rfl ?_ | refine OP.st (vs := [_, _]) rfl rfl inferInstance rfl rfl rfl ?_ | refine OP.st (vs := [_, _, _]) rfl rfl inferInstance rfl rfl rfl ?_) | (show OP _ _ _ _ _ _ _ ⟨_, .box _ _, _, _, _, none⟩ _ _; first | refine OP.bxI rfl rfl (fun bx => ?_) | refine OP.bxB rfl rfl (fun bx => ?_) | refine OP.bxC rfl rfl (fun bx => ?_) | refine OP.bxF rfl rfl (fun bx => ?_) | refine OP.bxS rfl rfl (fun bx => ?_) | refine OP.bxP rfl rfl (fun bx => ?_) | refine OP.bxA rfl rfl (fun bx => ?_) | refine OP.bxM rfl rfl (fun bx => ?_) | refine OP.bxU rfl rfl (fun bx => ?_) | refine OP.box rfl rfl (fun bx => ?_)) | refine OP.alI rfl (fun al => ?_) | refine OP.alA rfl (fun al => ?_) | refine OP.alloc rfl rfl (fun al => ?_) | refine OP.build rfl rfl ?_)
  all_goals refine Fin.retA2 (h0 := .inl rfl) (Γ' := [(q, .cells (cxs y ++ []).toArray 28 (0, 0))]) rfl rfl (SeesN.own 2 (List.Mem.tail _ (List.Mem.head _)) rfl) rfl rfl (.cons_cons _ (List.nil_sublist _)) ?_
  all_goals exact ⟨q, rfl, rfl⟩
theorem by_there {m : Nat} (hm : m ≤ 12) : ByOk 19 (forwardC m) (2 ^ m) := fun x r hx hr => by
  have hl : r.length = 2 ^ m := by
    unfold forwardC waveC at hr
    rw [Option.bind_eq_some_iff] at hr
    obtain ⟨l, _, hb⟩ := hr
    rw [bfS_len hb]; exact trnTo_len _ _ _
  exact ⟨hl, fun b c w h hT => Forward_fn m hm x r hx hr b 0 c w h hT⟩
theorem by_back {m : Nat} (hm : m ≤ 12) : ByOk 24 (backS m) (2 ^ m) := fun x r hx hr => by
  unfold backS at hr
  rw [Option.bind_eq_some_iff] at hr
  obtain ⟨z, hz, hr⟩ := hr
  split at hr
  · rename_i hall
    obtain rfl := Option.some.inj hr
    have hzl : z.length = 2 ^ m := by
      have hz' := hz
      unfold backT waveC at hz'
      rw [Option.bind_eq_some_iff] at hz'
      obtain ⟨l, _, hb⟩ := hz'
      rw [bfS_len hb]; exact trnTo_len _ _ _
    refine ⟨by unfold sclL; rw [List.length_map, hzl], fun b c w h hT => Back_fn m hm x z hx hz (sclC m) (fun a ha w => ?_) b 0 c w h hT⟩
    have := ok_okB (List.all_eq_true.1 hall a ha)
    exact ScaleG_fn m a hm this.f1 this.f2 this.w w
  · cases hr
set_option maxHeartbeats 2000000 in
theorem PForward_fn (m : Nat) (hm : m ≤ 5) (c y : List Cx) (hc : c.length = 2 ^ m * 2 ^ m) (hy : bothC (forwardC m) (2 ^ m) c = some y) (b cap : Nat) (w : World) (hr : RdC w b 0 c) (hT : TzT w) :
    Does Tryd.prog 7 #[gV (2 ^ m) b (2 ^ m * 2 ^ m) cap] [] w fun v Γ => ∃ q, v = .tuple #[gV (2 ^ m) q (2 ^ m * 2 ^ m) (2 ^ m * 2 ^ m), .int .i64 0] ∧ Γ = [(q, .cells (cxs y ++ []).toArray 28 (0, 0))] := by
  have hb := fun w hr hT => both_fn 19 (forwardC m) m hm (by_there (by omega)) c y hc hy b cap w hr hT
  unfold gV at *
  generalize 2 ^ m = N at *
  generalize N * N = NN at *
  refine Does.enter Tryd.func7 rfl Tryd.ntmps7 rfl (St.start w) ?_
  repeat' (first | refine Fin.tail ?_ | refine Fin.then_normal ?_ | refine Fin.then_exit ?_ | refine Fin.then_ret ?_ | refine Fin.block_normal ?_ | refine Fin.block_ret ?_ | refine Fin.block_hit ?_ | refine Fin.block_miss rfl ?_ | refine Fin.loop_exit ?_ | refine Fin.loop_ret ?_ | refine WP.seq ?_ | (refine WP.regionQ (by kernel_rfl) (by kernel_rfl) ?_) | refine WP.block ?_ | refine WP.region ?_ | refine WP.skip ?_ | refine WP.exit ?_ | refine WP.ret ?_ | refine WP.label ?_ | refine WP.cond_true rfl ?_ | refine WP.cond_false rfl ?_ | (refine WP.cond_dec rfl (fun h => ?_) (fun h => ?_) <;> (try (exfalso; omega))) | (refine WP.cond_bool rfl (fun h => ?_) (fun h => ?_)) | refine WL.nil ?_ | refine WL.cons ?_ | (show OP _ _ _ _ _ _ _ ⟨_, .assign _, _, _, _, none⟩ _ _; first | refine OP.aI rfl rfl ?_ | refine OP.aB rfl rfl ?_ | refine OP.aC rfl rfl ?_ | refine OP.aF rfl rfl ?_ | refine OP.aS rfl rfl ?_ | refine OP.aP rfl rfl ?_ | refine OP.aA rfl rfl ?_ | refine OP.aT rfl rfl ?_ | refine OP.aM rfl rfl ?_ | refine OP.aU rfl rfl ?_ | refine OP.assign rfl rfl ?_) | (refine OP.call rfl (fun w' hst => hb w' (hr.over hst (by simp)) (hT.over hst (by simp))) (fun _ _ hR => ?_); obtain ⟨q, rfl, rfl⟩ := hR) | refine OP.extract rfl rfl rfl ?_ | (show OP _ _ _ _ _ _ _ ⟨_, .load _ _, _, _, _, none⟩ _ _; first | refine OP.ld rfl rfl inferInstance rfl ?_ | refine OP.load rfl rfl (Sees.old0 (by assumption)) ?_ | refine OP.ldA rfl rfl inferInstance rfl ?_) | (show OP _ _ _ _ _ _ _ ⟨_, .store _ _ _, _, _, _, none⟩ _ _; first | refine OP.stI rfl rfl inferInstance rfl ?_ | refine OP.stB rfl rfl inferInstance rfl ?_ | refine OP.stC rfl rfl inferInstance rfl ?_ | refine OP.stF rfl rfl inferInstance rfl ?_ | refine OP.stS rfl rfl inferInstance rfl ?_ | refine OP.stP rfl rfl inferInstance rfl ?_ | refine OP.stM rfl rfl inferInstance rfl ?_ | refine OP.stU rfl rfl inferInstance rfl ?_ | refine OP.st (vs := [_]) rfl rfl inferInstance rfl rfl rfl ?_ | refine OP.st (vs := [_, _]) rfl rfl inferInstance rfl rfl rfl ?_ | refine OP.st (vs := [_, _, _]) rfl rfl inferInstance rfl rfl rfl ?_) | (show OP _ _ _ _ _ _ _ ⟨_, .box _ _, _, _, _, none⟩ _ _; first | refine OP.bxI rfl rfl (fun bx => ?_) | refine OP.bxB rfl rfl (fun bx => ?_) | refine OP.bxC rfl rfl (fun bx => ?_) | refine OP.bxF rfl rfl (fun bx => ?_) | refine OP.bxS rfl rfl (fun bx => ?_) | refine OP.bxP rfl rfl (fun bx => ?_) | refine OP.bxA rfl rfl (fun bx => ?_) | refine OP.bxM rfl rfl (fun bx => ?_) | refine OP.bxU rfl rfl (fun bx => ?_) | refine OP.box rfl rfl (fun bx => ?_)) | refine OP.alI rfl (fun al => ?_) | refine OP.alA rfl (fun al => ?_) | refine OP.alloc rfl rfl (fun al => ?_))
  all_goals refine Fin.retA2 (h0 := .inl rfl) (Γ' := [(q, .cells (cxs y ++ []).toArray 28 (0, 0))]) rfl rfl (SeesN.own 2 (List.Mem.tail _ (List.Mem.head _)) rfl) rfl rfl (.cons_cons _ (List.nil_sublist _)) ?_
  all_goals exact ⟨q, rfl, rfl⟩
set_option maxHeartbeats 2000000 in
theorem PBack_fn (m : Nat) (hm : m ≤ 5) (c y : List Cx) (hc : c.length = 2 ^ m * 2 ^ m) (hy : bothC (backS m) (2 ^ m) c = some y) (b cap : Nat) (w : World) (hr : RdC w b 0 c) (hT : TzT w) :
    Does Tryd.prog 13 #[gV (2 ^ m) b (2 ^ m * 2 ^ m) cap] [] w fun v Γ => ∃ q, v = .tuple #[gV (2 ^ m) q (2 ^ m * 2 ^ m) (2 ^ m * 2 ^ m), .int .i64 0] ∧ Γ = [(q, .cells (cxs y ++ []).toArray 28 (0, 0))] := by
  have hb := fun w hr hT => both_fn 24 (backS m) m hm (by_back (by omega)) c y hc hy b cap w hr hT
  unfold gV at *
  generalize 2 ^ m = N at *
  generalize N * N = NN at *
  refine Does.enter Tryd.func13 rfl Tryd.ntmps13 rfl (St.start w) ?_
  repeat' (first | refine Fin.tail ?_ | refine Fin.then_normal ?_ | refine Fin.then_exit ?_ | refine Fin.then_ret ?_ | refine Fin.block_normal ?_ | refine Fin.block_ret ?_ | refine Fin.block_hit ?_ | refine Fin.block_miss rfl ?_ | refine Fin.loop_exit ?_ | refine Fin.loop_ret ?_ | refine WP.seq ?_ | (refine WP.regionQ (by kernel_rfl) (by kernel_rfl) ?_) | refine WP.block ?_ | refine WP.region ?_ | refine WP.skip ?_ | refine WP.exit ?_ | refine WP.ret ?_ | refine WP.label ?_ | refine WP.cond_true rfl ?_ | refine WP.cond_false rfl ?_ | (refine WP.cond_dec rfl (fun h => ?_) (fun h => ?_) <;> (try (exfalso; omega))) | (refine WP.cond_bool rfl (fun h => ?_) (fun h => ?_)) | refine WL.nil ?_ | refine WL.cons ?_ | (show OP _ _ _ _ _ _ _ ⟨_, .assign _, _, _, _, none⟩ _ _; first | refine OP.aI rfl rfl ?_ | refine OP.aB rfl rfl ?_ | refine OP.aC rfl rfl ?_ | refine OP.aF rfl rfl ?_ | refine OP.aS rfl rfl ?_ | refine OP.aP rfl rfl ?_ | refine OP.aA rfl rfl ?_ | refine OP.aT rfl rfl ?_ | refine OP.aM rfl rfl ?_ | refine OP.aU rfl rfl ?_ | refine OP.assign rfl rfl ?_) | (refine OP.call rfl (fun w' hst => hb w' (hr.over hst (by simp)) (hT.over hst (by simp))) (fun _ _ hR => ?_); obtain ⟨q, rfl, rfl⟩ := hR) | refine OP.extract rfl rfl rfl ?_ | (show OP _ _ _ _ _ _ _ ⟨_, .load _ _, _, _, _, none⟩ _ _; first | refine OP.ld rfl rfl inferInstance rfl ?_ | refine OP.load rfl rfl (Sees.old0 (by assumption)) ?_ | refine OP.ldA rfl rfl inferInstance rfl ?_) | (show OP _ _ _ _ _ _ _ ⟨_, .store _ _ _, _, _, _, none⟩ _ _; first | refine OP.stI rfl rfl inferInstance rfl ?_ | refine OP.stB rfl rfl inferInstance rfl ?_ | refine OP.stC rfl rfl inferInstance rfl ?_ | refine OP.stF rfl rfl inferInstance rfl ?_ | refine OP.stS rfl rfl inferInstance rfl ?_ | refine OP.stP rfl rfl inferInstance rfl ?_ | refine OP.stM rfl rfl inferInstance rfl ?_ | refine OP.stU rfl rfl inferInstance rfl ?_ | refine OP.st (vs := [_]) rfl rfl inferInstance rfl rfl rfl ?_ | refine OP.st (vs := [_, _]) rfl rfl inferInstance rfl rfl rfl ?_ | refine OP.st (vs := [_, _, _]) rfl rfl inferInstance rfl rfl rfl ?_) | (show OP _ _ _ _ _ _ _ ⟨_, .box _ _, _, _, _, none⟩ _ _; first | refine OP.bxI rfl rfl (fun bx => ?_) | refine OP.bxB rfl rfl (fun bx => ?_) | refine OP.bxC rfl rfl (fun bx => ?_) | refine OP.bxF rfl rfl (fun bx => ?_) | refine OP.bxS rfl rfl (fun bx => ?_) | refine OP.bxP rfl rfl (fun bx => ?_) | refine OP.bxA rfl rfl (fun bx => ?_) | refine OP.bxM rfl rfl (fun bx => ?_) | refine OP.bxU rfl rfl (fun bx => ?_) | refine OP.box rfl rfl (fun bx => ?_)) | refine OP.alI rfl (fun al => ?_) | refine OP.alA rfl (fun al => ?_) | refine OP.alloc rfl rfl (fun al => ?_))
  all_goals refine Fin.retA2 (h0 := .inl rfl) (Γ' := [(q, .cells (cxs y ++ []).toArray 28 (0, 0))]) rfl rfl (SeesN.own 2 (List.Mem.tail _ (List.Mem.head _)) rfl) rfl rfl (.cons_cons _ (List.nil_sublist _)) ?_
  all_goals exact ⟨q, rfl, rfl⟩
end Go.Proofs.YthecbhegjdcjfaaDoor
end
section
/- The references' complex numbers and steps, walked. %compact -/
set_option linter.unusedVariables false
set_option maxRecDepth 100000
namespace Go.Proofs.YthecbhegjdcjfaaDoor
open Go.Pen Go.Flt Go.Wav

theorem xor_s (x : Nat) (h : x < 18446744073709551616) : bits .xor .u64 (x : Int) 9223372036854775808 = ((flipF x : Nat) : Int) := u64_xor_nat x 9223372036854775808 h (by decide)
set_option maxHeartbeats 1000000 in
theorem rturned_fn (p : Nat) (hp : p < 18446744073709551616) (w : World) : Does Tryd.prog 22 #[.float .f64 p] [] w fun v Γ => v = .float .f64 (flipF p) ∧ Γ = [] := by
  refine Does.enter Tryd.func22 rfl Tryd.ntmps22 rfl (St.start w) ?_
  repeat' (first | refine Fin.tail ?_ | refine Fin.then_normal ?_ | refine Fin.then_exit ?_ | refine Fin.then_ret ?_ | refine Fin.block_normal ?_ | refine Fin.block_ret ?_ | refine Fin.block_hit ?_ | refine Fin.block_miss rfl ?_ | refine Fin.loop_exit ?_ | refine Fin.loop_ret ?_ | refine Fin.rounds ?_ | refine Fin.rounds_exit ?_ | refine Fin.rounds_ret ?_ | refine WR.succ ?_ | refine WP.seq ?_ | (refine WP.regionQ (by kernel_rfl) (by kernel_rfl) ?_) | refine WP.block ?_ | refine WP.region ?_ | refine WP.skip ?_ | refine WP.exit ?_ | refine WP.ret ?_ | refine WP.label ?_ | refine WP.cond_true rfl ?_ | refine WP.cond_false rfl ?_ | (refine WP.cond_dec rfl (fun h => ?_) (fun h => ?_) <;> (try (exfalso; omega))) | (refine WP.cond_bool rfl (fun h => ?_) (fun h => ?_)) | refine WL.nil ?_ | refine WL.cons ?_ | (show OP _ _ _ _ _ _ _ ⟨_, .move _, _, _, _, none⟩ _ _; first | refine OP.mI rfl rfl ?_ | refine OP.mB rfl rfl ?_ | refine OP.mC rfl rfl ?_ | refine OP.mF rfl rfl ?_ | refine OP.mS rfl rfl ?_ | refine OP.mP rfl rfl ?_ | refine OP.mA rfl rfl ?_ | refine OP.mT rfl rfl ?_ | refine OP.mM rfl rfl ?_ | refine OP.mU rfl rfl ?_ | refine OP.move rfl rfl ?_) | (show OP _ _ _ _ _ _ _ ⟨_, .assign _, _, _, _, none⟩ _ _; first | refine OP.aI rfl rfl ?_ | refine OP.aB rfl rfl ?_ | refine OP.aC rfl rfl ?_ | refine OP.aF rfl rfl ?_ | refine OP.aS rfl rfl ?_ | refine OP.aP rfl rfl ?_ | refine OP.aA rfl rfl ?_ | refine OP.aT rfl rfl ?_ | refine OP.aM rfl rfl ?_ | refine OP.aU rfl rfl ?_ | refine OP.assign rfl rfl ?_) | (show OP _ _ _ _ _ _ _ ⟨_, .call _, _, _, _, none⟩ _ _; first | refine OP.callx (f := 37) (.int .u64 p) rfl rfl (fun w => by exact bits_bits p w) ?_ | refine OP.callx (f := 36) (.float .f64 (flipF p)) rfl rfl (fun w => by exact bits_frombits _ w) ?_) | refine OP.bitop (.inr (.inr (.inl rfl))) rfl rfl rfl (xor_s p hp) ?_)
  refine Fin.ret1 (h0 := .inl rfl) rfl rfl ?_
  exact ⟨rfl, rfl⟩
set_option maxHeartbeats 1000000 in
theorem rplain_fn (p : Nat) (hp : p < 18446744073709551616) (w : World) : Does Tryd.prog 52 #[.float .f64 p] [] w fun v Γ => v = .float .f64 (plainF p) ∧ Γ = [] := by
  have ho := order_zero_iff hp
  by_cases h : p = 0 ∨ p = 9223372036854775808
  · rw [decide_eq_true h] at ho
    rw [plain_yes h]
    refine Does.enter Tryd.func52 rfl Tryd.ntmps52 rfl (St.start w) ?_
    repeat' (first | refine Fin.tail ?_ | refine Fin.then_normal ?_ | refine Fin.then_exit ?_ | refine Fin.then_ret ?_ | refine Fin.block_normal ?_ | refine Fin.block_ret ?_ | refine Fin.block_hit ?_ | refine Fin.block_miss rfl ?_ | refine Fin.loop_exit ?_ | refine Fin.loop_ret ?_ | refine Fin.rounds ?_ | refine Fin.rounds_exit ?_ | refine Fin.rounds_ret ?_ | refine WR.succ ?_ | refine WP.seq ?_ | (refine WP.regionQ (by kernel_rfl) (by kernel_rfl) ?_) | refine WP.block ?_ | refine WP.region ?_ | refine WP.skip ?_ | refine WP.exit ?_ | refine WP.ret ?_ | refine WP.label ?_ | refine WP.cond_true rfl ?_ | refine WP.cond_false rfl ?_ | (refine WP.cond_dec rfl (fun h => ?_) (fun h => ?_) <;> (try (exfalso; omega))) | (refine WP.cond_bool rfl (fun h => ?_) (fun h => ?_)) | refine WL.nil ?_ | refine WL.cons ?_ | (show OP _ _ _ _ _ _ _ ⟨_, .move _, _, _, _, none⟩ _ _; first | refine OP.mI rfl rfl ?_ | refine OP.mB rfl rfl ?_ | refine OP.mC rfl rfl ?_ | refine OP.mF rfl rfl ?_ | refine OP.mS rfl rfl ?_ | refine OP.mP rfl rfl ?_ | refine OP.mA rfl rfl ?_ | refine OP.mT rfl rfl ?_ | refine OP.mM rfl rfl ?_ | refine OP.mU rfl rfl ?_ | refine OP.move rfl rfl ?_) | (show OP _ _ _ _ _ _ _ ⟨_, .assign _, _, _, _, none⟩ _ _; first | refine OP.aI rfl rfl ?_ | refine OP.aB rfl rfl ?_ | refine OP.aC rfl rfl ?_ | refine OP.aF rfl rfl ?_ | refine OP.aS rfl rfl ?_ | refine OP.aP rfl rfl ?_ | refine OP.aA rfl rfl ?_ | refine OP.aT rfl rfl ?_ | refine OP.aM rfl rfl ?_ | refine OP.aU rfl rfl ?_ | refine OP.assign rfl rfl ?_) | (show OP _ _ _ _ _ _ _ ⟨_, .binOp _ _ _ _ _, _, _, _, none⟩ _ _; first | refine OP.fcmpK (r := true) _ rfl rfl rfl rfl (congrArg some ho) ?_ | refine OP.eql rfl rfl rfl ?_ | refine OP.eql2 rfl rfl rfl ?_ | refine OP.eqd rfl rfl rfl ?_ | refine OP.eqlb rfl rfl rfl ?_))
    all_goals refine Fin.ret1 (h0 := .inl rfl) rfl rfl ?_
    exact ⟨rfl, rfl⟩
  · rw [decide_eq_false h] at ho
    rw [plain_no h]
    refine Does.enter Tryd.func52 rfl Tryd.ntmps52 rfl (St.start w) ?_
    repeat' (first | refine Fin.tail ?_ | refine Fin.then_normal ?_ | refine Fin.then_exit ?_ | refine Fin.then_ret ?_ | refine Fin.block_normal ?_ | refine Fin.block_ret ?_ | refine Fin.block_hit ?_ | refine Fin.block_miss rfl ?_ | refine Fin.loop_exit ?_ | refine Fin.loop_ret ?_ | refine Fin.rounds ?_ | refine Fin.rounds_exit ?_ | refine Fin.rounds_ret ?_ | refine WR.succ ?_ | refine WP.seq ?_ | (refine WP.regionQ (by kernel_rfl) (by kernel_rfl) ?_) | refine WP.block ?_ | refine WP.region ?_ | refine WP.skip ?_ | refine WP.exit ?_ | refine WP.ret ?_ | refine WP.label ?_ | refine WP.cond_true rfl ?_ | refine WP.cond_false rfl ?_ | (refine WP.cond_dec rfl (fun h => ?_) (fun h => ?_) <;> (try (exfalso; omega))) | (refine WP.cond_bool rfl (fun h => ?_) (fun h => ?_)) | refine WL.nil ?_ | refine WL.cons ?_ | (show OP _ _ _ _ _ _ _ ⟨_, .move _, _, _, _, none⟩ _ _; first | refine OP.mI rfl rfl ?_ | refine OP.mB rfl rfl ?_ | refine OP.mC rfl rfl ?_ | refine OP.mF rfl rfl ?_ | refine OP.mS rfl rfl ?_ | refine OP.mP rfl rfl ?_ | refine OP.mA rfl rfl ?_ | refine OP.mT rfl rfl ?_ | refine OP.mM rfl rfl ?_ | refine OP.mU rfl rfl ?_ | refine OP.move rfl rfl ?_) | (show OP _ _ _ _ _ _ _ ⟨_, .assign _, _, _, _, none⟩ _ _; first | refine OP.aI rfl rfl ?_ | refine OP.aB rfl rfl ?_ | refine OP.aC rfl rfl ?_ | refine OP.aF rfl rfl ?_ | refine OP.aS rfl rfl ?_ | refine OP.aP rfl rfl ?_ | refine OP.aA rfl rfl ?_ | refine OP.aT rfl rfl ?_ | refine OP.aM rfl rfl ?_ | refine OP.aU rfl rfl ?_ | refine OP.assign rfl rfl ?_) | (show OP _ _ _ _ _ _ _ ⟨_, .binOp _ _ _ _ _, _, _, _, none⟩ _ _; first | refine OP.fcmpK (r := false) _ rfl rfl rfl rfl (congrArg some ho) ?_ | refine OP.eql rfl rfl rfl ?_ | refine OP.eql2 rfl rfl rfl ?_ | refine OP.eqd rfl rfl rfl ?_ | refine OP.eqlb rfl rfl rfl ?_))
    all_goals refine Fin.ret1 (h0 := .inl rfl) rfl rfl ?_
    exact ⟨rfl, rfl⟩
set_option maxHeartbeats 1000000 in
theorem RPlain_fn (a : Cx) (h : Wf a) (w : World) : Does Tryd.prog 33 #[.complex .f64 a.1 a.2] [] w fun v Γ => v = .complex .f64 (plainC a).1 (plainC a).2 ∧ Γ = [] := by
  refine Does.enter Tryd.func33 rfl Tryd.ntmps33 rfl (St.start w) ?_
  repeat' (first | refine Fin.tail ?_ | refine Fin.then_normal ?_ | refine Fin.then_exit ?_ | refine Fin.then_ret ?_ | refine Fin.block_normal ?_ | refine Fin.block_ret ?_ | refine Fin.block_hit ?_ | refine Fin.block_miss rfl ?_ | refine Fin.loop_exit ?_ | refine Fin.loop_ret ?_ | refine Fin.rounds ?_ | refine Fin.rounds_exit ?_ | refine Fin.rounds_ret ?_ | refine WR.succ ?_ | refine WP.seq ?_ | (refine WP.regionQ (by kernel_rfl) (by kernel_rfl) ?_) | refine WP.block ?_ | refine WP.region ?_ | refine WP.skip ?_ | refine WP.exit ?_ | refine WP.ret ?_ | refine WP.label ?_ | refine WP.cond_true rfl ?_ | refine WP.cond_false rfl ?_ | (refine WP.cond_dec rfl (fun h => ?_) (fun h => ?_) <;> (try (exfalso; omega))) | (refine WP.cond_bool rfl (fun h => ?_) (fun h => ?_)) | refine WL.nil ?_ | refine WL.cons ?_ | (show OP _ _ _ _ _ _ _ ⟨_, .move _, _, _, _, none⟩ _ _; first | refine OP.mI rfl rfl ?_ | refine OP.mB rfl rfl ?_ | refine OP.mC rfl rfl ?_ | refine OP.mF rfl rfl ?_ | refine OP.mS rfl rfl ?_ | refine OP.mP rfl rfl ?_ | refine OP.mA rfl rfl ?_ | refine OP.mT rfl rfl ?_ | refine OP.mM rfl rfl ?_ | refine OP.mU rfl rfl ?_ | refine OP.move rfl rfl ?_) | (show OP _ _ _ _ _ _ _ ⟨_, .assign _, _, _, _, none⟩ _ _; first | refine OP.aI rfl rfl ?_ | refine OP.aB rfl rfl ?_ | refine OP.aC rfl rfl ?_ | refine OP.aF rfl rfl ?_ | refine OP.aS rfl rfl ?_ | refine OP.aP rfl rfl ?_ | refine OP.aA rfl rfl ?_ | refine OP.aT rfl rfl ?_ | refine OP.aM rfl rfl ?_ | refine OP.aU rfl rfl ?_ | refine OP.assign rfl rfl ?_) | (show OP _ _ _ _ _ _ _ ⟨_, .call _, _, _, _, none⟩ _ _; first | refine OP.callq _ rfl (fun w _ => rplain_fn _ h.1 w) (fun _ _ h => h.1) ?_ | refine OP.callq _ rfl (fun w _ => rplain_fn _ h.2 w) (fun _ _ h => h.1) ?_ | refine OP.real rfl rfl ?_ | refine OP.imag rfl rfl ?_ | refine OP.complex rfl rfl rfl ?_))
  all_goals refine Fin.ret1 (h0 := .inl rfl) rfl rfl ?_
  exact ⟨rfl, rfl⟩
set_option maxHeartbeats 1000000 in
theorem RTurn_fn (a : Cx) (hw : Wf a) (w : World) : Does Tryd.prog 34 #[.complex .f64 a.1 a.2, .int .i64 1] [] w fun v Γ => v = .complex .f64 (turnC a).1 (turnC a).2 ∧ Γ = [] := by
  refine Does.enter Tryd.func34 rfl Tryd.ntmps34 rfl (St.start w) ?_
  repeat' (first | refine WP.rounds 2 ?_ | refine Fin.tail ?_ | refine Fin.then_normal ?_ | refine Fin.then_exit ?_ | refine Fin.then_ret ?_ | refine Fin.block_normal ?_ | refine Fin.block_ret ?_ | refine Fin.block_hit ?_ | refine Fin.block_miss rfl ?_ | refine Fin.loop_exit ?_ | refine Fin.loop_ret ?_ | refine Fin.rounds ?_ | refine Fin.rounds_exit ?_ | refine Fin.rounds_ret ?_ | refine WR.succ ?_ | refine WP.seq ?_ | (refine WP.regionQ (by kernel_rfl) (by kernel_rfl) ?_) | refine WP.block ?_ | refine WP.region ?_ | refine WP.skip ?_ | refine WP.exit ?_ | refine WP.ret ?_ | refine WP.label ?_ | refine WP.cond_true rfl ?_ | refine WP.cond_false rfl ?_ | (refine WP.cond_dec rfl (fun h => ?_) (fun h => ?_) <;> (try (exfalso; omega))) | (refine WP.cond_bool rfl (fun h => ?_) (fun h => ?_)) | refine WL.nil ?_ | refine WL.cons ?_ | (show OP _ _ _ _ _ _ _ ⟨_, .move _, _, _, _, none⟩ _ _; first | refine OP.mI rfl rfl ?_ | refine OP.mB rfl rfl ?_ | refine OP.mC rfl rfl ?_ | refine OP.mF rfl rfl ?_ | refine OP.mS rfl rfl ?_ | refine OP.mP rfl rfl ?_ | refine OP.mA rfl rfl ?_ | refine OP.mT rfl rfl ?_ | refine OP.mM rfl rfl ?_ | refine OP.mU rfl rfl ?_ | refine OP.move rfl rfl ?_) | (show OP _ _ _ _ _ _ _ ⟨_, .assign _, _, _, _, none⟩ _ _; first | refine OP.aI rfl rfl ?_ | refine OP.aB rfl rfl ?_ | refine OP.aC rfl rfl ?_ | refine OP.aF rfl rfl ?_ | refine OP.aS rfl rfl ?_ | refine OP.aP rfl rfl ?_ | refine OP.aA rfl rfl ?_ | refine OP.aT rfl rfl ?_ | refine OP.aM rfl rfl ?_ | refine OP.aU rfl rfl ?_ | refine OP.assign rfl rfl ?_) | (show OP _ _ _ _ _ _ _ ⟨_, .call _, _, _, _, none⟩ _ _; first | refine OP.callq _ rfl (fun w _ => rturned_fn _ hw.2 w) (fun _ _ h => h.1) ?_ | refine OP.real rfl rfl ?_ | refine OP.imag rfl rfl ?_ | refine OP.complex rfl rfl rfl ?_) | (show OP _ _ _ _ _ _ _ ⟨_, .binOp _ _ _ _ _, _, _, _, none⟩ _ _; first | refine OP.bitop (r := 1) (.inl rfl) rfl rfl rfl (by kernel_rfl) ?_ | (refine OP.sub rfl rfl rfl ?_ ?_ ?_; omega; omega) | refine OP.gtr rfl rfl rfl ?_))
  all_goals refine Fin.ret1 (h0 := .inl rfl) rfl rfl ?_
  all_goals exact ⟨rfl, rfl⟩
set_option maxHeartbeats 1000000 in
theorem RMul_fn (a b r : Cx) (h : mulC a b = some r) (w : World) : Does Tryd.prog 9 #[.complex .f64 a.1 a.2, .complex .f64 b.1 b.2] [] w fun v Γ => v = .complex .f64 r.1 r.2 ∧ Γ = [] := by
  obtain ⟨pu, qv, pv, qu, h1, h2, h3, h4, h5, h6⟩ := mulC_some h
  refine Does.enter Tryd.func9 rfl Tryd.ntmps9 rfl (St.start w) ?_
  repeat' (first | refine Fin.tail ?_ | refine Fin.then_normal ?_ | refine Fin.then_exit ?_ | refine Fin.then_ret ?_ | refine Fin.block_normal ?_ | refine Fin.block_ret ?_ | refine Fin.block_hit ?_ | refine Fin.block_miss rfl ?_ | refine Fin.loop_exit ?_ | refine Fin.loop_ret ?_ | refine Fin.rounds ?_ | refine Fin.rounds_exit ?_ | refine Fin.rounds_ret ?_ | refine WR.succ ?_ | refine WP.seq ?_ | (refine WP.regionQ (by kernel_rfl) (by kernel_rfl) ?_) | refine WP.block ?_ | refine WP.region ?_ | refine WP.skip ?_ | refine WP.exit ?_ | refine WP.ret ?_ | refine WP.label ?_ | refine WP.cond_true rfl ?_ | refine WP.cond_false rfl ?_ | (refine WP.cond_dec rfl (fun h => ?_) (fun h => ?_) <;> (try (exfalso; omega))) | (refine WP.cond_bool rfl (fun h => ?_) (fun h => ?_)) | refine WL.nil ?_ | refine WL.cons ?_ | (show OP _ _ _ _ _ _ _ ⟨_, .move _, _, _, _, none⟩ _ _; first | refine OP.mI rfl rfl ?_ | refine OP.mB rfl rfl ?_ | refine OP.mC rfl rfl ?_ | refine OP.mF rfl rfl ?_ | refine OP.mS rfl rfl ?_ | refine OP.mP rfl rfl ?_ | refine OP.mA rfl rfl ?_ | refine OP.mT rfl rfl ?_ | refine OP.mM rfl rfl ?_ | refine OP.mU rfl rfl ?_ | refine OP.move rfl rfl ?_) | (show OP _ _ _ _ _ _ _ ⟨_, .assign _, _, _, _, none⟩ _ _; first | refine OP.aI rfl rfl ?_ | refine OP.aB rfl rfl ?_ | refine OP.aC rfl rfl ?_ | refine OP.aF rfl rfl ?_ | refine OP.aS rfl rfl ?_ | refine OP.aP rfl rfl ?_ | refine OP.aA rfl rfl ?_ | refine OP.aT rfl rfl ?_ | refine OP.aM rfl rfl ?_ | refine OP.aU rfl rfl ?_ | refine OP.assign rfl rfl ?_) | (show OP _ _ _ _ _ _ _ ⟨_, .call _, _, _, _, none⟩ _ _; first | refine OP.real rfl rfl ?_ | refine OP.imag rfl rfl ?_ | refine OP.complex rfl rfl rfl ?_) | (show OP _ _ _ _ _ _ _ ⟨_, .binOp _ _ _ _ _, _, _, _, none⟩ _ _; first | refine OP.farith (r := pu) rfl rfl rfl h1 ?_ | refine OP.farith (r := qv) rfl rfl rfl h2 ?_ | refine OP.farith (r := r.1) rfl rfl rfl h3 ?_ | refine OP.farith (r := pv) rfl rfl rfl h4 ?_ | refine OP.farith (r := qu) rfl rfl rfl h5 ?_ | refine OP.farith (r := r.2) rfl rfl rfl h6 ?_ | (refine OP.add rfl rfl rfl ?_ ?_ ?_; omega; omega) | (refine OP.sub rfl rfl rfl ?_ ?_ ?_; omega; omega) | (refine OP.mul rfl rfl rfl ?_ ?_ ?_; omega; omega)))
  all_goals refine Fin.ret1 (h0 := .inl rfl) rfl rfl ?_
  exact ⟨rfl, rfl⟩
theorem stepC_some {k : Nat} {r : Cx} : ∀ {j : Nat}, j ≤ k → stepC k = some r → ∃ s, stepC j = some s := by
  induction k generalizing r with
  | zero => intro j hj h; obtain rfl : j = 0 := by omega
            exact ⟨r, h⟩
  | succ k ih =>
    intro j hj h
    by_cases e : j = k + 1
    · subst e; exact ⟨r, h⟩
    · unfold stepC at h
      rw [Option.bind_eq_some_iff] at h
      obtain ⟨g, hg, _⟩ := h
      exact ih (by omega) hg
set_option maxHeartbeats 2000000 in
theorem rstep_fn (k : Nat) (r : Cx) (hk : k ≤ 9) (hr : stepC k = some r) (w : World) : Does Tryd.prog 35 #[.int .i64 ((8 * 2 ^ k : Nat) : Int)] [] w fun v Γ => v = .tuple #[.float .f64 r.1, .float .f64 r.2] ∧ Γ = [] := by
  obtain ⟨s0, hs0⟩ := stepC_some (Nat.zero_le k) hr
  have hs0' := hs0
  unfold stepC at hs0'
  simp only [Option.bind_eq_some_iff, Option.some.injEq] at hs0'
  obtain ⟨c0, hc0, rfl⟩ := hs0'
  have hpk := pow_bd (show k ≤ 12 by omega)
  have hpw : ∀ j, j ≤ k → (8 * 2 ^ (j + 1) ≤ 8 * 2 ^ k ↔ j < k) := fun j hj => by
    constructor
    · intro h
      rcases Nat.lt_or_ge j k with h1 | h1
      · exact h1
      · have : j = k := by omega
        subst this
        rw [Nat.pow_succ] at h; have := Nat.two_pow_pos j; omega
    · intro h; exact Nat.mul_le_mul_left 8 (Nat.pow_le_pow_right (by decide) h)
  have hdb : ∀ j, 8 * 2 ^ (j + 1 + 1) = 8 * 2 ^ (j + 1) * 2 := fun j => by rw [Nat.pow_succ 2 (j + 1), Nat.mul_assoc]
  obtain ⟨N, hN⟩ : ∃ N, N = 8 * 2 ^ k := ⟨_, rfl⟩
  rw [← hN] at hpw ⊢
  refine Does.enter Tryd.func35 rfl Tryd.ntmps35 rfl (St.start w) ?_
  repeat' (first | refine Fin.tail ?_ | refine Fin.then_normal ?_ | refine Fin.then_exit ?_ | refine Fin.then_ret ?_ | refine Fin.block_normal ?_ | refine Fin.block_ret ?_ | refine Fin.block_hit ?_ | refine Fin.block_miss rfl ?_ | refine Fin.loop_exit ?_ | refine Fin.loop_ret ?_ | refine Fin.rounds ?_ | refine Fin.rounds_exit ?_ | refine Fin.rounds_ret ?_ | refine WR.succ ?_ | refine WP.seq ?_ | (refine WP.regionQ (by kernel_rfl) (by kernel_rfl) ?_) | refine WP.block ?_ | refine WP.region ?_ | refine WP.skip ?_ | refine WP.exit ?_ | refine WP.ret ?_ | refine WP.label ?_ | refine WP.cond_true rfl ?_ | refine WP.cond_false rfl ?_ | (refine WP.cond_dec rfl (fun h => ?_) (fun h => ?_) <;> (try (exfalso; omega))) | (refine WP.cond_bool rfl (fun h => ?_) (fun h => ?_)) | refine WL.nil ?_ | refine WL.cons ?_ | (show OP _ _ _ _ _ _ _ ⟨_, .move _, _, _, _, none⟩ _ _; first | refine OP.mI rfl rfl ?_ | refine OP.mB rfl rfl ?_ | refine OP.mC rfl rfl ?_ | refine OP.mF rfl rfl ?_ | refine OP.mS rfl rfl ?_ | refine OP.mP rfl rfl ?_ | refine OP.mA rfl rfl ?_ | refine OP.mT rfl rfl ?_ | refine OP.mM rfl rfl ?_ | refine OP.mU rfl rfl ?_ | refine OP.move rfl rfl ?_) | (show OP _ _ _ _ _ _ _ ⟨_, .assign _, _, _, _, none⟩ _ _; first | refine OP.aI rfl rfl ?_ | refine OP.aB rfl rfl ?_ | refine OP.aC rfl rfl ?_ | refine OP.aF rfl rfl ?_ | refine OP.aS rfl rfl ?_ | refine OP.aP rfl rfl ?_ | refine OP.aA rfl rfl ?_ | refine OP.aT rfl rfl ?_ | refine OP.aM rfl rfl ?_ | refine OP.aU rfl rfl ?_ | refine OP.assign rfl rfl ?_) | refine OP.callq _ rfl (fun w _ => Sqrt_fn _ _ hc0 w) (fun _ _ h => h.1) ?_ | (show OP _ _ _ _ _ _ _ ⟨_, .binOp _ _ _ _ _, _, _, _, none⟩ _ _; first | (refine OP.add rfl rfl rfl ?_ ?_ ?_; omega; omega) | refine OP.leq rfl rfl rfl ?_ | (refine OP.mul rfl rfl rfl ?_ ?_ ?_; omega; omega) | (refine OP.quoN rfl rfl rfl ?_ ?_ ?_ ?_; omega; omega; omega) | (refine OP.quo rfl rfl rfl ?_ ?_ ?_ ?_ ?_; omega; omega; omega; omega)))
  refine WP.loop [4, 5, 6, 9, 10, 11, 12, 13, 14, 15, 16, 17, 18, 19, 20, 21] (fun z : Nat × Cx => [(6, .int .i64 ((8 * 2 ^ (z.1 + 1) : Nat) : Int)), (4, .float .f64 z.2.1), (5, .float .f64 z.2.2)]) (fun z => []) (fun z => z.1 ≤ k ∧ stepC z.1 = some z.2) (fun z => k - z.1) (0, (c0, c0)) ⟨Nat.zero_le _, hs0⟩ rfl ⟨rfl, rfl, rfl, trivial⟩ ?_
  rintro ⟨j, s⟩ jj ⟨j1, j2⟩
  dsimp only [updL] at j1 j2 ⊢
  have hpj := hpw j j1
  have hdj := hdb j
  by_cases hj : j < k
  · obtain ⟨s', hs'⟩ := stepC_some (show j + 1 ≤ k from hj) hr
    have hs2 := hs'
    unfold stepC at hs2
    simp only [Option.bind_eq_some_iff, Option.some.injEq] at hs2
    obtain ⟨g, h1, a, h2, b, h3, c, h4, e, h5, q, h6, rfl⟩ := hs2
    obtain rfl : s = g := by rw [j2] at h1; exact Option.some.inj h1
    have hle := hpj.2 hj
    generalize 8 * 2 ^ (j + 1) = X at hle hdj hpj ⊢
    repeat' (first | refine Fin.tail ?_ | refine Fin.then_normal ?_ | refine Fin.then_exit ?_ | refine Fin.then_ret ?_ | refine Fin.block_normal ?_ | refine Fin.block_ret ?_ | refine Fin.block_hit ?_ | refine Fin.block_miss rfl ?_ | refine Fin.loop_exit ?_ | refine Fin.loop_ret ?_ | refine Fin.rounds ?_ | refine Fin.rounds_exit ?_ | refine Fin.rounds_ret ?_ | refine WR.succ ?_ | refine WP.seq ?_ | (refine WP.regionQ (by kernel_rfl) (by kernel_rfl) ?_) | refine WP.block ?_ | refine WP.region ?_ | refine WP.skip ?_ | refine WP.exit ?_ | refine WP.ret ?_ | refine WP.label ?_ | refine WP.cond_true rfl ?_ | refine WP.cond_false rfl ?_ | (refine WP.cond_dec rfl (fun h => ?_) (fun h => ?_) <;> (try (exfalso; omega))) | (refine WP.cond_bool rfl (fun h => ?_) (fun h => ?_)) | refine WL.nil ?_ | refine WL.cons ?_ | (show OP _ _ _ _ _ _ _ ⟨_, .move _, _, _, _, none⟩ _ _; first | refine OP.mI rfl rfl ?_ | refine OP.mB rfl rfl ?_ | refine OP.mC rfl rfl ?_ | refine OP.mF rfl rfl ?_ | refine OP.mS rfl rfl ?_ | refine OP.mP rfl rfl ?_ | refine OP.mA rfl rfl ?_ | refine OP.mT rfl rfl ?_ | refine OP.mM rfl rfl ?_ | refine OP.mU rfl rfl ?_ | refine OP.move rfl rfl ?_) | (show OP _ _ _ _ _ _ _ ⟨_, .assign _, _, _, _, none⟩ _ _; first | refine OP.aI rfl rfl ?_ | refine OP.aB rfl rfl ?_ | refine OP.aC rfl rfl ?_ | refine OP.aF rfl rfl ?_ | refine OP.aS rfl rfl ?_ | refine OP.aP rfl rfl ?_ | refine OP.aA rfl rfl ?_ | refine OP.aT rfl rfl ?_ | refine OP.aM rfl rfl ?_ | refine OP.aU rfl rfl ?_ | refine OP.assign rfl rfl ?_) | refine OP.callq _ rfl (fun w _ => Sqrt_fn _ _ h4 w) (fun _ _ h => h.1) ?_ | (show OP _ _ _ _ _ _ _ ⟨_, .binOp _ _ _ _ _, _, _, _, none⟩ _ _; first | refine OP.farith (r := a) rfl rfl rfl h2 ?_ | refine OP.farith (r := b) rfl rfl rfl h3 ?_ | refine OP.farith (r := e) rfl rfl rfl h5 ?_ | refine OP.farith (r := q) rfl rfl rfl h6 ?_ | (refine OP.add rfl rfl rfl ?_ ?_ ?_; omega; omega) | refine OP.leq rfl rfl rfl ?_ | (refine OP.mul rfl rfl rfl ?_ ?_ ?_; omega; omega) | (refine OP.quoN rfl rfl rfl ?_ ?_ ?_ ?_; omega; omega; omega) | (refine OP.quo rfl rfl rfl ?_ ?_ ?_ ?_ ?_; omega; omega; omega; omega)))
    refine Fin.loop_normal fun w' hst => ⟨(j + 1, (c, q)), ⟨hj, hs'⟩, by dsimp only; omega, by (repeat' (first | exact Agree.refl _ _ | refine Agree.upd rfl ?_ | refine Agree.hav rfl ?_)), ⟨?_, rfl, rfl, trivial⟩, hst⟩
    dsimp only
    rw [hdj, Int.natCast_mul]; rfl
  · obtain rfl : j = k := by omega
    obtain rfl : s = r := by rw [j2] at hr; exact Option.some.inj hr
    have hgt : ¬ 8 * 2 ^ (j + 1) ≤ N := fun h => hj (hpj.1 h)
    generalize 8 * 2 ^ (j + 1) = X at hgt ⊢
    repeat' (first | refine Fin.tail ?_ | refine Fin.then_normal ?_ | refine Fin.then_exit ?_ | refine Fin.then_ret ?_ | refine Fin.block_normal ?_ | refine Fin.block_ret ?_ | refine Fin.block_hit ?_ | refine Fin.block_miss rfl ?_ | refine Fin.loop_exit ?_ | refine Fin.loop_ret ?_ | refine Fin.rounds ?_ | refine Fin.rounds_exit ?_ | refine Fin.rounds_ret ?_ | refine WR.succ ?_ | refine WP.seq ?_ | (refine WP.regionQ (by kernel_rfl) (by kernel_rfl) ?_) | refine WP.block ?_ | refine WP.region ?_ | refine WP.skip ?_ | refine WP.exit ?_ | refine WP.ret ?_ | refine WP.label ?_ | refine WP.cond_true rfl ?_ | refine WP.cond_false rfl ?_ | (refine WP.cond_dec rfl (fun h => ?_) (fun h => ?_) <;> (try (exfalso; omega))) | (refine WP.cond_bool rfl (fun h => ?_) (fun h => ?_)) | refine WL.nil ?_ | refine WL.cons ?_ | (show OP _ _ _ _ _ _ _ ⟨_, .move _, _, _, _, none⟩ _ _; first | refine OP.mI rfl rfl ?_ | refine OP.mB rfl rfl ?_ | refine OP.mC rfl rfl ?_ | refine OP.mF rfl rfl ?_ | refine OP.mS rfl rfl ?_ | refine OP.mP rfl rfl ?_ | refine OP.mA rfl rfl ?_ | refine OP.mT rfl rfl ?_ | refine OP.mM rfl rfl ?_ | refine OP.mU rfl rfl ?_ | refine OP.move rfl rfl ?_) | (show OP _ _ _ _ _ _ _ ⟨_, .assign _, _, _, _, none⟩ _ _; first | refine OP.aI rfl rfl ?_ | refine OP.aB rfl rfl ?_ | refine OP.aC rfl rfl ?_ | refine OP.aF rfl rfl ?_ | refine OP.aS rfl rfl ?_ | refine OP.aP rfl rfl ?_ | refine OP.aA rfl rfl ?_ | refine OP.aT rfl rfl ?_ | refine OP.aM rfl rfl ?_ | refine OP.aU rfl rfl ?_ | refine OP.assign rfl rfl ?_) | (show OP _ _ _ _ _ _ _ ⟨_, .binOp _ _ _ _ _, _, _, _, none⟩ _ _; first | (refine OP.add rfl rfl rfl ?_ ?_ ?_; omega; omega) | refine OP.leq rfl rfl rfl ?_ | (refine OP.mul rfl rfl rfl ?_ ?_ ?_; omega; omega) | (refine OP.quoN rfl rfl rfl ?_ ?_ ?_ ?_; omega; omega; omega) | (refine OP.quo rfl rfl rfl ?_ ?_ ?_ ?_ ?_; omega; omega; omega; omega)))
    refine Fin.ret2 (h0 := .inl rfl) rfl rfl rfl ?_
    exact ⟨rfl, rfl⟩
end Go.Proofs.YthecbhegjdcjfaaDoor
end
section
/- The reference's roots, walked. %compact -/
set_option linter.unusedVariables false
set_option maxRecDepth 100000
namespace Go.Proofs.YthecbhegjdcjfaaDoor
open Go.Pen Go.Flt Go.Wav

set_option maxHeartbeats 4000000 in
theorem RAt_fn (k : Nat) : ∀ (m : Nat) (f : List Cx) (r : Cx), m ≤ 12 → eighthC m = some f → k < 2 ^ m → atC (2 ^ m) k f = some r → ∀ w, Does Tryd.prog 21 #[.int .i64 ((2 ^ m : Nat) : Int), .int .i64 (k : Int)] [] w fun v Γ => v = .complex .f64 r.1 r.2 ∧ Γ = [] := by
  induction k using Nat.strongRecOn with
  | _ k ih =>
  intro m f r hm hf hk hr w
  have hp := pow_bd hm
  have hwf := wf_eighth hf
  have hh := eighth_head hf
  have hpow : 3 ≤ m → 2 ^ m = 8 * 2 ^ (m - 3) := fun h => by rw [show 8 = 2 ^ 3 from rfl, ← Nat.pow_add]; congr 1; omega
  have hpow2 : 2 ≤ m → 2 ^ m = 4 * 2 ^ (m - 2) := fun h => by rw [show 4 = 2 ^ 2 from rfl, ← Nat.pow_add]; congr 1; omega
  have hsm : m < 2 → 2 ^ m = 1 ∨ 2 ^ m = 2 := fun h => by rcases (by omega : m = 0 ∨ m = 1) with rfl | rfl <;> simp
  have ihm := fun k' hk' r' h1 h2 => ih k' hk' m f r' hm hf h1 h2
  obtain ⟨N, hN⟩ : ∃ N, N = 2 ^ m := ⟨_, rfl⟩
  rw [← hN] at hp hk hr hpow hpow2 hsm ihm ⊢
  have c4 : (4 : Int) = ((4 : Nat) : Int) := rfl
  by_cases hA : 4 ≤ N ∧ N / 4 ≤ k
  · obtain ⟨a, ha, rfl⟩ := at_turn hA.1 hA.2 hr
    have hwa := wf_at hwf ha
    have hrec : ∀ w, Does Tryd.prog 21 #[.int .i64 (N : Int), .int .i64 ((k : Int) - ((N / 4 : Nat) : Int))] [] w fun v Γ => v = .complex .f64 a.1 a.2 ∧ Γ = [] := fun w => by
      rw [show ((k : Int) - ((N / 4 : Nat) : Int)) = ((k - N / 4 : Nat) : Int) by omega]
      exact ihm (k - N / 4) (by omega) a (by omega) ha w
    obtain ⟨hA1, hA2⟩ := hA
    refine Does.enter Tryd.func21 rfl Tryd.ntmps21 rfl (St.start w) ?_
    repeat' (first | refine Fin.tail ?_ | refine Fin.then_normal ?_ | refine Fin.then_exit ?_ | refine Fin.then_ret ?_ | refine Fin.block_normal ?_ | refine Fin.block_ret ?_ | refine Fin.block_hit ?_ | refine Fin.block_miss rfl ?_ | refine Fin.loop_exit ?_ | refine Fin.loop_ret ?_ | refine WP.seq ?_ | (refine WP.regionQ (by kernel_rfl) (by kernel_rfl) ?_) | refine WP.block ?_ | refine WP.region ?_ | refine WP.skip ?_ | refine WP.exit ?_ | refine WP.ret ?_ | refine WP.label ?_ | refine WP.cond_true rfl ?_ | refine WP.cond_false rfl ?_ | (refine WP.cond_dec rfl (fun h => ?_) (fun h => ?_) <;> (try (exfalso; omega))) | (refine WP.cond_bool rfl (fun h => ?_) (fun h => ?_)) | refine WL.nil ?_ | refine WL.cons ?_ | (show OP _ _ _ _ _ _ _ ⟨_, _, _, _, _, some _⟩ _ _; first | refine OP.guard_yes rfl rfl ?_ | refine OP.guard_no rfl rfl rfl rfl ?_ | refine OP.guard_un rfl rfl rfl ?_ | refine OP.guard_no0 rfl rfl rfl ?_ | (refine OP.guard_dec rfl rfl (fun h => ?_) (fun h => ?_) <;> (try (exfalso; omega))) | refine OP.guard_bool rfl rfl (fun h => ?_) (fun h => ?_)) | (show OP _ _ _ _ _ _ _ ⟨_, .move _, _, _, _, none⟩ _ _; first | refine OP.mI rfl rfl ?_ | refine OP.mB rfl rfl ?_ | refine OP.mC rfl rfl ?_ | refine OP.mF rfl rfl ?_ | refine OP.mS rfl rfl ?_ | refine OP.mP rfl rfl ?_ | refine OP.mA rfl rfl ?_ | refine OP.mT rfl rfl ?_ | refine OP.mM rfl rfl ?_ | refine OP.mU rfl rfl ?_ | refine OP.move rfl rfl ?_) | (show OP _ _ _ _ _ _ _ ⟨_, .assign _, _, _, _, none⟩ _ _; first | refine OP.aI rfl rfl ?_ | refine OP.aB rfl rfl ?_ | refine OP.aC rfl rfl ?_ | refine OP.aF rfl rfl ?_ | refine OP.aS rfl rfl ?_ | refine OP.aP rfl rfl ?_ | refine OP.aA rfl rfl ?_ | refine OP.aT rfl rfl ?_ | refine OP.aM rfl rfl ?_ | refine OP.aU rfl rfl ?_ | refine OP.assign rfl rfl ?_) | (show OP _ _ _ _ _ _ _ ⟨_, .call _, _, _, _, none⟩ _ _; first | refine OP.callq _ rfl (fun w _ => hrec w) (fun _ _ h => h.1) ?_ | refine OP.callq _ rfl (fun w _ => RTurn_fn a hwa w) (fun _ _ h => h.1) ?_ | refine OP.callq _ rfl (fun w _ => RPlain_fn (turnC a) (wf_turn hwa) w) (fun _ _ h => h.1) ?_ | refine OP.real rfl rfl ?_ | refine OP.imag rfl rfl ?_ | refine OP.complex rfl rfl rfl ?_) | (show OP _ _ _ _ _ _ _ ⟨_, .binOp _ _ _ _ _, _, _, _, none⟩ _ _; first | refine OP.quoR (b := 4) (by decide) (qq (b := 4) (by omega)) rfl rfl rfl ?_ | (refine OP.sub rfl rfl rfl ?_ ?_ ?_; omega; omega) | refine OP.eql rfl rfl rfl ?_ | refine OP.gtr rfl rfl rfl ?_ | refine OP.geq rfl rfl rfl ?_ | refine OP.eql2 rfl rfl rfl ?_ | refine OP.eqd rfl rfl rfl ?_ | refine OP.eqlb rfl rfl rfl ?_ | (refine OP.quoN rfl rfl rfl ?_ ?_ ?_ ?_; omega; omega; omega) | (refine OP.quo rfl rfl rfl ?_ ?_ ?_ ?_ ?_; omega; omega; omega; omega) | (refine OP.remN rfl rfl rfl ?_ ?_; omega) | (refine OP.rem rfl rfl rfl ?_ ?_ ?_; omega; omega)) | (show OP _ _ _ _ _ _ _ ⟨_, .pick _ _ _, _, _, _, none⟩ _ _; first | refine OP.pick_true rfl rfl ?_ | refine OP.pick_false rfl rfl ?_) | refine OP.extract rfl rfl rfl ?_)
    all_goals refine Fin.ret1 (h0 := .inl rfl) rfl rfl ?_
    all_goals exact ⟨rfl, rfl⟩
  · have m2 : ¬ N < 4 → 2 ≤ m := fun hn => by
      rcases Nat.lt_or_ge m 2 with h1 | h1
      · have := hsm h1; omega
      · exact h1
    by_cases h0 : k = 0
    · subst h0
      have er : r = (one, 0) := by
        by_cases h4 : 4 ≤ N
        · rw [at_small h4 (Nat.zero_le _) (by omega), hh] at hr
          exact (Option.some.inj hr).symm
        · unfold atC at hr
          rw [if_pos (by omega)] at hr
          simpa using hr.symm
      subst er
      clear hh hwf ih ihm
      by_cases h4 : 4 ≤ N
      · have hq : ¬ N / 4 ≤ 0 := fun h => hA ⟨h4, h⟩
        refine Does.enter Tryd.func21 rfl Tryd.ntmps21 rfl (St.start w) ?_
        repeat' (first | refine Fin.tail ?_ | refine Fin.then_normal ?_ | refine Fin.then_exit ?_ | refine Fin.then_ret ?_ | refine Fin.block_normal ?_ | refine Fin.block_ret ?_ | refine Fin.block_hit ?_ | refine Fin.block_miss rfl ?_ | refine Fin.loop_exit ?_ | refine Fin.loop_ret ?_ | refine WP.seq ?_ | (refine WP.regionQ (by kernel_rfl) (by kernel_rfl) ?_) | refine WP.block ?_ | refine WP.region ?_ | refine WP.skip ?_ | refine WP.exit ?_ | refine WP.ret ?_ | refine WP.label ?_ | refine WP.cond_true rfl ?_ | refine WP.cond_false rfl ?_ | (refine WP.cond_dec rfl (fun h => ?_) (fun h => ?_) <;> (try (exfalso; omega))) | (refine WP.cond_bool rfl (fun h => ?_) (fun h => ?_)) | refine WL.nil ?_ | refine WL.cons ?_ | (show OP _ _ _ _ _ _ _ ⟨_, _, _, _, _, some _⟩ _ _; first | refine OP.guard_yes rfl rfl ?_ | refine OP.guard_no rfl rfl rfl rfl ?_ | refine OP.guard_un rfl rfl rfl ?_ | refine OP.guard_no0 rfl rfl rfl ?_ | (refine OP.guard_dec rfl rfl (fun h => ?_) (fun h => ?_) <;> (try (exfalso; omega))) | refine OP.guard_bool rfl rfl (fun h => ?_) (fun h => ?_)) | (show OP _ _ _ _ _ _ _ ⟨_, .move _, _, _, _, none⟩ _ _; first | refine OP.mI rfl rfl ?_ | refine OP.mB rfl rfl ?_ | refine OP.mC rfl rfl ?_ | refine OP.mF rfl rfl ?_ | refine OP.mS rfl rfl ?_ | refine OP.mP rfl rfl ?_ | refine OP.mA rfl rfl ?_ | refine OP.mT rfl rfl ?_ | refine OP.mM rfl rfl ?_ | refine OP.mU rfl rfl ?_ | refine OP.move rfl rfl ?_) | (show OP _ _ _ _ _ _ _ ⟨_, .assign _, _, _, _, none⟩ _ _; first | refine OP.aI rfl rfl ?_ | refine OP.aB rfl rfl ?_ | refine OP.aC rfl rfl ?_ | refine OP.aF rfl rfl ?_ | refine OP.aS rfl rfl ?_ | refine OP.aP rfl rfl ?_ | refine OP.aA rfl rfl ?_ | refine OP.aT rfl rfl ?_ | refine OP.aM rfl rfl ?_ | refine OP.aU rfl rfl ?_ | refine OP.assign rfl rfl ?_) | (show OP _ _ _ _ _ _ _ ⟨_, .call _, _, _, _, none⟩ _ _; first | refine OP.real rfl rfl ?_ | refine OP.imag rfl rfl ?_ | refine OP.complex rfl rfl rfl ?_) | (show OP _ _ _ _ _ _ _ ⟨_, .binOp _ _ _ _ _, _, _, _, none⟩ _ _; first | refine OP.quoR (b := 4) (by decide) (qq (b := 4) (by omega)) rfl rfl rfl ?_ | (refine OP.sub rfl rfl rfl ?_ ?_ ?_; omega; omega) | refine OP.eql rfl rfl rfl ?_ | refine OP.gtr rfl rfl rfl ?_ | refine OP.geq rfl rfl rfl ?_ | refine OP.eql2 rfl rfl rfl ?_ | refine OP.eqd rfl rfl rfl ?_ | refine OP.eqlb rfl rfl rfl ?_ | (refine OP.quoN rfl rfl rfl ?_ ?_ ?_ ?_; omega; omega; omega) | (refine OP.quo rfl rfl rfl ?_ ?_ ?_ ?_ ?_; omega; omega; omega; omega) | (refine OP.remN rfl rfl rfl ?_ ?_; omega) | (refine OP.rem rfl rfl rfl ?_ ?_ ?_; omega; omega)) | (show OP _ _ _ _ _ _ _ ⟨_, .pick _ _ _, _, _, _, none⟩ _ _; first | refine OP.pick_true rfl rfl ?_ | refine OP.pick_false rfl rfl ?_) | refine OP.extract rfl rfl rfl ?_)
        all_goals refine Fin.ret1 (h0 := .inl rfl) rfl rfl ?_
        all_goals exact ⟨rfl, rfl⟩
      · refine Does.enter Tryd.func21 rfl Tryd.ntmps21 rfl (St.start w) ?_
        repeat' (first | refine Fin.tail ?_ | refine Fin.then_normal ?_ | refine Fin.then_exit ?_ | refine Fin.then_ret ?_ | refine Fin.block_normal ?_ | refine Fin.block_ret ?_ | refine Fin.block_hit ?_ | refine Fin.block_miss rfl ?_ | refine Fin.loop_exit ?_ | refine Fin.loop_ret ?_ | refine WP.seq ?_ | (refine WP.regionQ (by kernel_rfl) (by kernel_rfl) ?_) | refine WP.block ?_ | refine WP.region ?_ | refine WP.skip ?_ | refine WP.exit ?_ | refine WP.ret ?_ | refine WP.label ?_ | refine WP.cond_true rfl ?_ | refine WP.cond_false rfl ?_ | (refine WP.cond_dec rfl (fun h => ?_) (fun h => ?_) <;> (try (exfalso; omega))) | (refine WP.cond_bool rfl (fun h => ?_) (fun h => ?_)) | refine WL.nil ?_ | refine WL.cons ?_ | (show OP _ _ _ _ _ _ _ ⟨_, _, _, _, _, some _⟩ _ _; first | refine OP.guard_yes rfl rfl ?_ | refine OP.guard_no rfl rfl rfl rfl ?_ | refine OP.guard_un rfl rfl rfl ?_ | refine OP.guard_no0 rfl rfl rfl ?_ | (refine OP.guard_dec rfl rfl (fun h => ?_) (fun h => ?_) <;> (try (exfalso; omega))) | refine OP.guard_bool rfl rfl (fun h => ?_) (fun h => ?_)) | (show OP _ _ _ _ _ _ _ ⟨_, .move _, _, _, _, none⟩ _ _; first | refine OP.mI rfl rfl ?_ | refine OP.mB rfl rfl ?_ | refine OP.mC rfl rfl ?_ | refine OP.mF rfl rfl ?_ | refine OP.mS rfl rfl ?_ | refine OP.mP rfl rfl ?_ | refine OP.mA rfl rfl ?_ | refine OP.mT rfl rfl ?_ | refine OP.mM rfl rfl ?_ | refine OP.mU rfl rfl ?_ | refine OP.move rfl rfl ?_) | (show OP _ _ _ _ _ _ _ ⟨_, .assign _, _, _, _, none⟩ _ _; first | refine OP.aI rfl rfl ?_ | refine OP.aB rfl rfl ?_ | refine OP.aC rfl rfl ?_ | refine OP.aF rfl rfl ?_ | refine OP.aS rfl rfl ?_ | refine OP.aP rfl rfl ?_ | refine OP.aA rfl rfl ?_ | refine OP.aT rfl rfl ?_ | refine OP.aM rfl rfl ?_ | refine OP.aU rfl rfl ?_ | refine OP.assign rfl rfl ?_) | (show OP _ _ _ _ _ _ _ ⟨_, .call _, _, _, _, none⟩ _ _; first | refine OP.real rfl rfl ?_ | refine OP.imag rfl rfl ?_ | refine OP.complex rfl rfl rfl ?_) | (show OP _ _ _ _ _ _ _ ⟨_, .binOp _ _ _ _ _, _, _, _, none⟩ _ _; first | refine OP.quoR (b := 4) (by decide) (qq (b := 4) (by omega)) rfl rfl rfl ?_ | (refine OP.sub rfl rfl rfl ?_ ?_ ?_; omega; omega) | refine OP.eql rfl rfl rfl ?_ | refine OP.gtr rfl rfl rfl ?_ | refine OP.geq rfl rfl rfl ?_ | refine OP.eql2 rfl rfl rfl ?_ | refine OP.eqd rfl rfl rfl ?_ | refine OP.eqlb rfl rfl rfl ?_ | (refine OP.quoN rfl rfl rfl ?_ ?_ ?_ ?_; omega; omega; omega) | (refine OP.quo rfl rfl rfl ?_ ?_ ?_ ?_ ?_; omega; omega; omega; omega) | (refine OP.remN rfl rfl rfl ?_ ?_; omega) | (refine OP.rem rfl rfl rfl ?_ ?_ ?_; omega; omega)) | (show OP _ _ _ _ _ _ _ ⟨_, .pick _ _ _, _, _, _, none⟩ _ _; first | refine OP.pick_true rfl rfl ?_ | refine OP.pick_false rfl rfl ?_) | refine OP.extract rfl rfl rfl ?_)
        all_goals refine Fin.ret1 (h0 := .inl rfl) rfl rfl ?_
        all_goals exact ⟨rfl, rfl⟩
    · by_cases h4 : N < 4
      · have e2 : N = 2 ∧ k = 1 := by
          rcases Nat.lt_or_ge m 2 with h1 | h1
          · have := hsm h1; omega
          · have := hpow2 h1; have := Nat.two_pow_pos (m - 2); omega
        obtain ⟨e2, rfl⟩ := e2
        have er : r = (13830554455654793216, 0) := by
          unfold atC at hr
          rw [if_pos h4] at hr
          simpa using hr.symm
        subst er
        clear hN hpow hpow2 hsm ihm ih
        subst e2
        refine Does.enter Tryd.func21 rfl Tryd.ntmps21 rfl (St.start w) ?_
        repeat' (first | refine Fin.tail ?_ | refine Fin.then_normal ?_ | refine Fin.then_exit ?_ | refine Fin.then_ret ?_ | refine Fin.block_normal ?_ | refine Fin.block_ret ?_ | refine Fin.block_hit ?_ | refine Fin.block_miss rfl ?_ | refine Fin.loop_exit ?_ | refine Fin.loop_ret ?_ | refine WP.seq ?_ | (refine WP.regionQ (by kernel_rfl) (by kernel_rfl) ?_) | refine WP.block ?_ | refine WP.region ?_ | refine WP.skip ?_ | refine WP.exit ?_ | refine WP.ret ?_ | refine WP.label ?_ | refine WP.cond_true rfl ?_ | refine WP.cond_false rfl ?_ | (refine WP.cond_dec rfl (fun h => ?_) (fun h => ?_) <;> (try (exfalso; omega))) | (refine WP.cond_bool rfl (fun h => ?_) (fun h => ?_)) | refine WL.nil ?_ | refine WL.cons ?_ | (show OP _ _ _ _ _ _ _ ⟨_, _, _, _, _, some _⟩ _ _; first | refine OP.guard_yes rfl rfl ?_ | refine OP.guard_no rfl rfl rfl rfl ?_ | refine OP.guard_un rfl rfl rfl ?_ | refine OP.guard_no0 rfl rfl rfl ?_ | (refine OP.guard_dec rfl rfl (fun h => ?_) (fun h => ?_) <;> (try (exfalso; omega))) | refine OP.guard_bool rfl rfl (fun h => ?_) (fun h => ?_)) | (show OP _ _ _ _ _ _ _ ⟨_, .move _, _, _, _, none⟩ _ _; first | refine OP.mI rfl rfl ?_ | refine OP.mB rfl rfl ?_ | refine OP.mC rfl rfl ?_ | refine OP.mF rfl rfl ?_ | refine OP.mS rfl rfl ?_ | refine OP.mP rfl rfl ?_ | refine OP.mA rfl rfl ?_ | refine OP.mT rfl rfl ?_ | refine OP.mM rfl rfl ?_ | refine OP.mU rfl rfl ?_ | refine OP.move rfl rfl ?_) | (show OP _ _ _ _ _ _ _ ⟨_, .assign _, _, _, _, none⟩ _ _; first | refine OP.aI rfl rfl ?_ | refine OP.aB rfl rfl ?_ | refine OP.aC rfl rfl ?_ | refine OP.aF rfl rfl ?_ | refine OP.aS rfl rfl ?_ | refine OP.aP rfl rfl ?_ | refine OP.aA rfl rfl ?_ | refine OP.aT rfl rfl ?_ | refine OP.aM rfl rfl ?_ | refine OP.aU rfl rfl ?_ | refine OP.assign rfl rfl ?_) | (show OP _ _ _ _ _ _ _ ⟨_, .call _, _, _, _, none⟩ _ _; first | refine OP.real rfl rfl ?_ | refine OP.imag rfl rfl ?_ | refine OP.complex rfl rfl rfl ?_) | (show OP _ _ _ _ _ _ _ ⟨_, .binOp _ _ _ _ _, _, _, _, none⟩ _ _; first | refine OP.quoR (b := 4) (by decide) (qq (b := 4) (by omega)) rfl rfl rfl ?_ | (refine OP.sub rfl rfl rfl ?_ ?_ ?_; omega; omega) | refine OP.eql rfl rfl rfl ?_ | refine OP.gtr rfl rfl rfl ?_ | refine OP.geq rfl rfl rfl ?_ | refine OP.eql2 rfl rfl rfl ?_ | refine OP.eqd rfl rfl rfl ?_ | refine OP.eqlb rfl rfl rfl ?_ | (refine OP.quoN rfl rfl rfl ?_ ?_ ?_ ?_; omega; omega; omega) | (refine OP.quo rfl rfl rfl ?_ ?_ ?_ ?_ ?_; omega; omega; omega; omega) | (refine OP.remN rfl rfl rfl ?_ ?_; omega) | (refine OP.rem rfl rfl rfl ?_ ?_ ?_; omega; omega)) | (show OP _ _ _ _ _ _ _ ⟨_, .pick _ _ _, _, _, _, none⟩ _ _; first | refine OP.pick_true rfl rfl ?_ | refine OP.pick_false rfl rfl ?_) | refine OP.extract rfl rfl rfl ?_)
        all_goals refine Fin.ret1 (h0 := .inl rfl) rfl rfl ?_
        all_goals exact ⟨rfl, rfl⟩
      · have hm2 := m2 h4
        have hk4 : k < N / 4 := by omega
        have hm3 : 3 ≤ m := by
          rcases Nat.lt_or_ge m 3 with h1 | h1
          · obtain rfl : m = 2 := by omega
            rw [hN] at hk4; omega
          · exact h1
        have h8 := hpow hm3
        by_cases hs : k ≤ N / 8
        · rw [at_small (by omega) hs hk4] at hr
          have hkf : k < f.length := (List.getElem?_eq_some_iff.1 hr).1
          by_cases hev : k % 2 = 0
          · have hm4 : 4 ≤ m := by
              rcases Nat.lt_or_ge m 4 with h1 | h1
              · obtain rfl : m = 3 := by omega
                rw [hN] at hs; omega
              · exact h1
            obtain ⟨t, rfl⟩ : ∃ t, m = t + 4 := ⟨m - 4, by omega⟩
            obtain ⟨g, s, g1, g2, g3, g4, g5⟩ := eighth_get hf
            have hN2 : N / 2 = 2 ^ (t + 3) := by rw [hN, Nat.pow_succ]; omega
            have hg : g[k / 2]? = some r := by
              rw [← g4 (k / 2) (by omega), show 2 * (k / 2) = k by omega]; exact hr
            have hrec : ∀ w, Does Tryd.prog 21 #[.int .i64 ((N / 2 : Nat) : Int), .int .i64 ((k / 2 : Nat) : Int)] [] w fun v Γ => v = .complex .f64 r.1 r.2 ∧ Γ = [] := fun w => by
              rw [hN2]
              refine ih (k / 2) (by omega) (t + 3) g r (by omega) g1 (by rw [← hN2]; omega) ?_ w
              rw [← hN2, at_small (by omega) (by omega) (by omega)]
              exact hg
            clear ihm ih
            refine Does.enter Tryd.func21 rfl Tryd.ntmps21 rfl (St.start w) ?_
            repeat' (first | refine Fin.tail ?_ | refine Fin.then_normal ?_ | refine Fin.then_exit ?_ | refine Fin.then_ret ?_ | refine Fin.block_normal ?_ | refine Fin.block_ret ?_ | refine Fin.block_hit ?_ | refine Fin.block_miss rfl ?_ | refine Fin.loop_exit ?_ | refine Fin.loop_ret ?_ | refine WP.seq ?_ | (refine WP.regionQ (by kernel_rfl) (by kernel_rfl) ?_) | refine WP.block ?_ | refine WP.region ?_ | refine WP.skip ?_ | refine WP.exit ?_ | refine WP.ret ?_ | refine WP.label ?_ | refine WP.cond_true rfl ?_ | refine WP.cond_false rfl ?_ | (refine WP.cond_dec rfl (fun h => ?_) (fun h => ?_) <;> (try (exfalso; omega))) | (refine WP.cond_bool rfl (fun h => ?_) (fun h => ?_)) | refine WL.nil ?_ | refine WL.cons ?_ | (show OP _ _ _ _ _ _ _ ⟨_, _, _, _, _, some _⟩ _ _; first | refine OP.guard_yes rfl rfl ?_ | refine OP.guard_no rfl rfl rfl rfl ?_ | refine OP.guard_un rfl rfl rfl ?_ | refine OP.guard_no0 rfl rfl rfl ?_ | (refine OP.guard_dec rfl rfl (fun h => ?_) (fun h => ?_) <;> (try (exfalso; omega))) | refine OP.guard_bool rfl rfl (fun h => ?_) (fun h => ?_)) | (show OP _ _ _ _ _ _ _ ⟨_, .move _, _, _, _, none⟩ _ _; first | refine OP.mI rfl rfl ?_ | refine OP.mB rfl rfl ?_ | refine OP.mC rfl rfl ?_ | refine OP.mF rfl rfl ?_ | refine OP.mS rfl rfl ?_ | refine OP.mP rfl rfl ?_ | refine OP.mA rfl rfl ?_ | refine OP.mT rfl rfl ?_ | refine OP.mM rfl rfl ?_ | refine OP.mU rfl rfl ?_ | refine OP.move rfl rfl ?_) | (show OP _ _ _ _ _ _ _ ⟨_, .assign _, _, _, _, none⟩ _ _; first | refine OP.aI rfl rfl ?_ | refine OP.aB rfl rfl ?_ | refine OP.aC rfl rfl ?_ | refine OP.aF rfl rfl ?_ | refine OP.aS rfl rfl ?_ | refine OP.aP rfl rfl ?_ | refine OP.aA rfl rfl ?_ | refine OP.aT rfl rfl ?_ | refine OP.aM rfl rfl ?_ | refine OP.aU rfl rfl ?_ | refine OP.assign rfl rfl ?_) | (show OP _ _ _ _ _ _ _ ⟨_, .call _, _, _, _, none⟩ _ _; first | refine OP.callq _ rfl (fun w _ => hrec w) (fun _ _ h => h.1) ?_ | refine OP.real rfl rfl ?_ | refine OP.imag rfl rfl ?_ | refine OP.complex rfl rfl rfl ?_) | (show OP _ _ _ _ _ _ _ ⟨_, .binOp _ _ _ _ _, _, _, _, none⟩ _ _; first | refine OP.quoR (b := 4) (by decide) (qq (b := 4) (by omega)) rfl rfl rfl ?_ | refine OP.quoR (b := 8) (by decide) (qq (b := 8) (by omega)) rfl rfl rfl ?_ | refine OP.quoR (b := 2) (by decide) (qq (b := 2) (by omega)) rfl rfl rfl ?_ | refine OP.remR (b := 2) (by decide) (rr k 2) rfl rfl rfl ?_ | (refine OP.sub rfl rfl rfl ?_ ?_ ?_; omega; omega) | refine OP.eql rfl rfl rfl ?_ | refine OP.gtr rfl rfl rfl ?_ | refine OP.geq rfl rfl rfl ?_ | refine OP.eql2 rfl rfl rfl ?_ | refine OP.eqd rfl rfl rfl ?_ | refine OP.eqlb rfl rfl rfl ?_ | (refine OP.quoN rfl rfl rfl ?_ ?_ ?_ ?_; omega; omega; omega) | (refine OP.quo rfl rfl rfl ?_ ?_ ?_ ?_ ?_; omega; omega; omega; omega) | (refine OP.remN rfl rfl rfl ?_ ?_; omega) | (refine OP.rem rfl rfl rfl ?_ ?_ ?_; omega; omega)) | (show OP _ _ _ _ _ _ _ ⟨_, .pick _ _ _, _, _, _, none⟩ _ _; first | refine OP.pick_true rfl rfl ?_ | refine OP.pick_false rfl rfl ?_) | refine OP.extract rfl rfl rfl ?_)
            all_goals refine Fin.ret1 (h0 := .inl rfl) rfl rfl ?_
            all_goals exact ⟨rfl, rfl⟩
          · obtain ⟨a, s, mm, ha, hs8, hmm, rfl⟩ : ∃ a s mm, f[k - 1]? = some a ∧ stepC (m - 3) = some s ∧ mulC a s = some mm ∧ r = plainC mm := by
              rcases (by omega : m = 3 ∨ 4 ≤ m) with rfl | hm4
              · have k1 : k = 1 := by rw [hN] at hs; omega
                subst k1
                unfold eighthC at hf
                simp only [Option.bind_eq_some_iff, Option.some.injEq] at hf
                obtain ⟨s, s1, mm, s2, rfl⟩ := hf
                exact ⟨(one, 0), s, mm, rfl, s1, s2, by simpa using hr.symm⟩
              · obtain ⟨t, rfl⟩ : ∃ t, m = t + 4 := ⟨m - 4, by omega⟩
                obtain ⟨g, s, g1, g2, g3, g4, g5⟩ := eighth_get hf
                obtain ⟨a, mm, q1, q2, q3, q4⟩ := g5 (k / 2) (by omega)
                refine ⟨a, s, mm, by rw [show k - 1 = 2 * (k / 2) by omega]; exact q3, by rw [show t + 4 - 3 = t + 1 by omega]; exact g2, q2, ?_⟩
                rw [show 2 * (k / 2) + 1 = k by omega, hr] at q4
                exact Option.some.inj q4
            have hwm := wf_mul hmm
            have hst := fun w => rstep_fn (m - 3) s (by omega) hs8 w
            rw [← h8] at hst
            have hrec : ∀ w, Does Tryd.prog 21 #[.int .i64 (N : Int), .int .i64 ((k : Int) - 1)] [] w fun v Γ => v = .complex .f64 a.1 a.2 ∧ Γ = [] := fun w => by
              rw [show ((k : Int) - 1) = ((k - 1 : Nat) : Int) by omega]
              exact ihm (k - 1) (by omega) a (by omega) (by rw [at_small (by omega) (by omega) (by omega)]; exact ha) w
            clear ihm ih
            refine Does.enter Tryd.func21 rfl Tryd.ntmps21 rfl (St.start w) ?_
            repeat' (first | refine Fin.tail ?_ | refine Fin.then_normal ?_ | refine Fin.then_exit ?_ | refine Fin.then_ret ?_ | refine Fin.block_normal ?_ | refine Fin.block_ret ?_ | refine Fin.block_hit ?_ | refine Fin.block_miss rfl ?_ | refine Fin.loop_exit ?_ | refine Fin.loop_ret ?_ | refine WP.seq ?_ | (refine WP.regionQ (by kernel_rfl) (by kernel_rfl) ?_) | refine WP.block ?_ | refine WP.region ?_ | refine WP.skip ?_ | refine WP.exit ?_ | refine WP.ret ?_ | refine WP.label ?_ | refine WP.cond_true rfl ?_ | refine WP.cond_false rfl ?_ | (refine WP.cond_dec rfl (fun h => ?_) (fun h => ?_) <;> (try (exfalso; omega))) | (refine WP.cond_bool rfl (fun h => ?_) (fun h => ?_)) | refine WL.nil ?_ | refine WL.cons ?_ | (show OP _ _ _ _ _ _ _ ⟨_, _, _, _, _, some _⟩ _ _; first | refine OP.guard_yes rfl rfl ?_ | refine OP.guard_no rfl rfl rfl rfl ?_ | refine OP.guard_un rfl rfl rfl ?_ | refine OP.guard_no0 rfl rfl rfl ?_ | (refine OP.guard_dec rfl rfl (fun h => ?_) (fun h => ?_) <;> (try (exfalso; omega))) | refine OP.guard_bool rfl rfl (fun h => ?_) (fun h => ?_)) | (show OP _ _ _ _ _ _ _ ⟨_, .move _, _, _, _, none⟩ _ _; first | refine OP.mI rfl rfl ?_ | refine OP.mB rfl rfl ?_ | refine OP.mC rfl rfl ?_ | refine OP.mF rfl rfl ?_ | refine OP.mS rfl rfl ?_ | refine OP.mP rfl rfl ?_ | refine OP.mA rfl rfl ?_ | refine OP.mT rfl rfl ?_ | refine OP.mM rfl rfl ?_ | refine OP.mU rfl rfl ?_ | refine OP.move rfl rfl ?_) | (show OP _ _ _ _ _ _ _ ⟨_, .assign _, _, _, _, none⟩ _ _; first | refine OP.aI rfl rfl ?_ | refine OP.aB rfl rfl ?_ | refine OP.aC rfl rfl ?_ | refine OP.aF rfl rfl ?_ | refine OP.aS rfl rfl ?_ | refine OP.aP rfl rfl ?_ | refine OP.aA rfl rfl ?_ | refine OP.aT rfl rfl ?_ | refine OP.aM rfl rfl ?_ | refine OP.aU rfl rfl ?_ | refine OP.assign rfl rfl ?_) | (show OP _ _ _ _ _ _ _ ⟨_, .call _, _, _, _, none⟩ _ _; first | refine OP.callq _ rfl (fun w _ => hst w) (fun _ _ h => h.1) ?_ | refine OP.callq _ rfl (fun w _ => hrec w) (fun _ _ h => h.1) ?_ | refine OP.callq _ rfl (fun w _ => RMul_fn a s mm hmm w) (fun _ _ h => h.1) ?_ | refine OP.callq _ rfl (fun w _ => RPlain_fn mm hwm w) (fun _ _ h => h.1) ?_ | refine OP.real rfl rfl ?_ | refine OP.imag rfl rfl ?_ | refine OP.complex rfl rfl rfl ?_) | (show OP _ _ _ _ _ _ _ ⟨_, .binOp _ _ _ _ _, _, _, _, none⟩ _ _; first | refine OP.quoR (b := 4) (by decide) (qq (b := 4) (by omega)) rfl rfl rfl ?_ | refine OP.quoR (b := 8) (by decide) (qq (b := 8) (by omega)) rfl rfl rfl ?_ | refine OP.remR (b := 2) (by decide) (rr k 2) rfl rfl rfl ?_ | (refine OP.sub rfl rfl rfl ?_ ?_ ?_; omega; omega) | refine OP.eql rfl rfl rfl ?_ | refine OP.gtr rfl rfl rfl ?_ | refine OP.geq rfl rfl rfl ?_ | refine OP.eql2 rfl rfl rfl ?_ | refine OP.eqd rfl rfl rfl ?_ | refine OP.eqlb rfl rfl rfl ?_ | (refine OP.quoN rfl rfl rfl ?_ ?_ ?_ ?_; omega; omega; omega) | (refine OP.quo rfl rfl rfl ?_ ?_ ?_ ?_ ?_; omega; omega; omega; omega) | (refine OP.remN rfl rfl rfl ?_ ?_; omega) | (refine OP.rem rfl rfl rfl ?_ ?_ ?_; omega; omega)) | (show OP _ _ _ _ _ _ _ ⟨_, .pick _ _ _, _, _, _, none⟩ _ _; first | refine OP.pick_true rfl rfl ?_ | refine OP.pick_false rfl rfl ?_) | refine OP.extract rfl rfl rfl ?_)
            all_goals refine Fin.ret1 (h0 := .inl rfl) rfl rfl ?_
            all_goals exact ⟨rfl, rfl⟩
        · obtain ⟨a, ha, rfl⟩ := at_swap (by omega) (by omega) hs hk4 hr
          have hrec : ∀ w, Does Tryd.prog 21 #[.int .i64 (N : Int), .int .i64 (((N / 4 : Nat) : Int) - (k : Int))] [] w fun v Γ => v = .complex .f64 a.1 a.2 ∧ Γ = [] := fun w => by
            rw [show (((N / 4 : Nat) : Int) - (k : Int)) = ((N / 4 - k : Nat) : Int) by omega]
            exact ihm (N / 4 - k) (by omega) a (by omega) ha w
          clear ihm ih
          refine Does.enter Tryd.func21 rfl Tryd.ntmps21 rfl (St.start w) ?_
          repeat' (first | refine Fin.tail ?_ | refine Fin.then_normal ?_ | refine Fin.then_exit ?_ | refine Fin.then_ret ?_ | refine Fin.block_normal ?_ | refine Fin.block_ret ?_ | refine Fin.block_hit ?_ | refine Fin.block_miss rfl ?_ | refine Fin.loop_exit ?_ | refine Fin.loop_ret ?_ | refine WP.seq ?_ | (refine WP.regionQ (by kernel_rfl) (by kernel_rfl) ?_) | refine WP.block ?_ | refine WP.region ?_ | refine WP.skip ?_ | refine WP.exit ?_ | refine WP.ret ?_ | refine WP.label ?_ | refine WP.cond_true rfl ?_ | refine WP.cond_false rfl ?_ | (refine WP.cond_dec rfl (fun h => ?_) (fun h => ?_) <;> (try (exfalso; omega))) | (refine WP.cond_bool rfl (fun h => ?_) (fun h => ?_)) | refine WL.nil ?_ | refine WL.cons ?_ | (show OP _ _ _ _ _ _ _ ⟨_, _, _, _, _, some _⟩ _ _; first | refine OP.guard_yes rfl rfl ?_ | refine OP.guard_no rfl rfl rfl rfl ?_ | refine OP.guard_un rfl rfl rfl ?_ | refine OP.guard_no0 rfl rfl rfl ?_ | (refine OP.guard_dec rfl rfl (fun h => ?_) (fun h => ?_) <;> (try (exfalso; omega))) | refine OP.guard_bool rfl rfl (fun h => ?_) (fun h => ?_)) | (show OP _ _ _ _ _ _ _ ⟨_, .move _, _, _, _, none⟩ _ _; first | refine OP.mI rfl rfl ?_ | refine OP.mB rfl rfl ?_ | refine OP.mC rfl rfl ?_ | refine OP.mF rfl rfl ?_ | refine OP.mS rfl rfl ?_ | refine OP.mP rfl rfl ?_ | refine OP.mA rfl rfl ?_ | refine OP.mT rfl rfl ?_ | refine OP.mM rfl rfl ?_ | refine OP.mU rfl rfl ?_ | refine OP.move rfl rfl ?_) | (show OP _ _ _ _ _ _ _ ⟨_, .assign _, _, _, _, none⟩ _ _; first | refine OP.aI rfl rfl ?_ | refine OP.aB rfl rfl ?_ | refine OP.aC rfl rfl ?_ | refine OP.aF rfl rfl ?_ | refine OP.aS rfl rfl ?_ | refine OP.aP rfl rfl ?_ | refine OP.aA rfl rfl ?_ | refine OP.aT rfl rfl ?_ | refine OP.aM rfl rfl ?_ | refine OP.aU rfl rfl ?_ | refine OP.assign rfl rfl ?_) | (show OP _ _ _ _ _ _ _ ⟨_, .call _, _, _, _, none⟩ _ _; first | refine OP.callq _ rfl (fun w _ => hrec w) (fun _ _ h => h.1) ?_ | refine OP.real rfl rfl ?_ | refine OP.imag rfl rfl ?_ | refine OP.complex rfl rfl rfl ?_) | (show OP _ _ _ _ _ _ _ ⟨_, .binOp _ _ _ _ _, _, _, _, none⟩ _ _; first | refine OP.quoR (b := 4) (by decide) (qq (b := 4) (by omega)) rfl rfl rfl ?_ | refine OP.quoR (b := 8) (by decide) (qq (b := 8) (by omega)) rfl rfl rfl ?_ | (refine OP.sub rfl rfl rfl ?_ ?_ ?_; omega; omega) | refine OP.eql rfl rfl rfl ?_ | refine OP.gtr rfl rfl rfl ?_ | refine OP.geq rfl rfl rfl ?_ | refine OP.eql2 rfl rfl rfl ?_ | refine OP.eqd rfl rfl rfl ?_ | refine OP.eqlb rfl rfl rfl ?_ | (refine OP.quoN rfl rfl rfl ?_ ?_ ?_ ?_; omega; omega; omega) | (refine OP.quo rfl rfl rfl ?_ ?_ ?_ ?_ ?_; omega; omega; omega; omega) | (refine OP.remN rfl rfl rfl ?_ ?_; omega) | (refine OP.rem rfl rfl rfl ?_ ?_ ?_; omega; omega)) | (show OP _ _ _ _ _ _ _ ⟨_, .pick _ _ _, _, _, _, none⟩ _ _; first | refine OP.pick_true rfl rfl ?_ | refine OP.pick_false rfl rfl ?_) | refine OP.extract rfl rfl rfl ?_)
          all_goals refine Fin.ret1 (h0 := .inl rfl) rfl rfl ?_
          all_goals exact ⟨rfl, rfl⟩
end Go.Proofs.YthecbhegjdcjfaaDoor
end
section
/- Layer 4: alive, copied, near, the lists of whole numbers; the references' Root and Conj. Walked. %compact -/
set_option linter.unusedVariables false
set_option maxRecDepth 100000
namespace Go.Proofs.YthecbhegjdcjfaaDoor
open Go.Pen Go.Flt Go.Wav Go.Cyc Go.Qc

def al4X : List Cx := [(4607182418800017408, 0), (4611686018427387904, 0), (4613937818241073152, 0), (4616189618054758400, 0)]
theorem al4F : (bothC (forwardC 1) 2 al4X).map (fun y => (y.length, y[0]?, y[2]?.map fun a => (a.1, a.2 % 9223372036854775808))) = some (4, some (4621819117588971520, 0), some (13839561654909534208, 0)) := by decide +kernel
theorem al4 : ∃ y y2, bothC (forwardC 1) 2 al4X = some y ∧ y[0]? = some (4621819117588971520, 0) ∧ y[2]? = some y2 ∧ ((Ieee.double.order y2.1 13839561654909534208 == some .eq) && (Ieee.double.order y2.2 0 == some .eq)) = true := by
  have h := al4F
  rw [Option.map_eq_some_iff] at h
  obtain ⟨y, hy, he⟩ := h
  rw [Prod.mk.injEq, Prod.mk.injEq] at he
  obtain ⟨_, h0, h2⟩ := he
  rw [Option.map_eq_some_iff] at h2
  obtain ⟨y2, g1, g2⟩ := h2
  rw [Prod.mk.injEq] at g2
  refine ⟨y, y2, hy, h0, g1, ?_⟩
  rw [g2.1]
  have hz : y2.2 % 9223372036854775808 = 0 := g2.2
  have hlt : y2.2 < 18446744073709551616 := by
    have hw := g1
    obtain ⟨d, hd, hyd⟩ := bothC_parts hy
    exact (fun (h : Wf y2) => h.2) (by
      have : y.all (fun a => decide (a.1 < 18446744073709551616) && decide (a.2 < 18446744073709551616)) = true := by
        have hk : (bothC (forwardC 1) 2 al4X).map (fun y => y.all (fun a => decide (a.1 < 18446744073709551616) && decide (a.2 < 18446744073709551616))) = some true := by decide +kernel
        rw [hy] at hk
        exact Option.some.inj hk
      have := List.all_eq_true.1 this y2 (List.mem_of_getElem? g1)
      simp only [Bool.and_eq_true, decide_eq_true_eq] at this
      exact this)
  rw [is_zero hlt hz]
  decide
set_option maxHeartbeats 4000000 in
theorem alive4_fn (w : World) (hT : TzT w) : Does Tryd.prog 5 #[] [] w fun v Γ => v = .bool true ∧ Γ = [] := by
  obtain ⟨y, y2, e1, e2, e3, e4⟩ := al4
  have hF := fun b c w hr hT => PForward_fn 1 (by decide) al4X y rfl e1 b c w hr hT
  simp only [show 2 ^ 1 = 2 from rfl, show 2 * 2 = 4 from rfl, gV] at hF
  have l0 := cxs_at (sp := []) e2
  have l2 := cxs_at (sp := []) e3
  refine Does.enter Tryd.func5 rfl Tryd.ntmps5 rfl (St.start w) ?_
  repeat' (first | refine OP.indexAddr (j := 0) rfl rfl rfl rfl (by decide) ?_ | refine OP.indexAddr (j := 2) rfl rfl rfl rfl (by decide) ?_ | refine OP.load rfl rfl (Sees.own (List.Mem.tail _ (List.Mem.head _)) l0) ?_ | refine OP.load rfl rfl (Sees.own (List.Mem.tail _ (List.Mem.head _)) l2) ?_ | refine Fin.tail ?_ | refine Fin.then_normal ?_ | refine Fin.then_exit ?_ | refine Fin.then_ret ?_ | refine Fin.block_normal ?_ | refine Fin.block_ret ?_ | refine Fin.block_hit ?_ | refine Fin.block_miss rfl ?_ | refine Fin.loop_exit ?_ | refine Fin.loop_ret ?_ | refine WP.seq ?_ | (refine WP.regionQ (by kernel_rfl) (by kernel_rfl) ?_) | refine WP.block ?_ | refine WP.region ?_ | refine WP.skip ?_ | refine WP.exit ?_ | refine WP.ret ?_ | refine WP.label ?_ | refine WP.cond_true rfl ?_ | refine WP.cond_false rfl ?_ | (refine WP.cond_dec rfl (fun h => ?_) (fun h => ?_) <;> (try (exfalso; omega))) | (refine WP.cond_bool rfl (fun h => ?_) (fun h => ?_)) | refine WL.nil ?_ | refine WL.cons ?_ | (show OP _ _ _ _ _ _ _ ⟨_, _, _, _, _, some _⟩ _ _; first | refine OP.guard_yes rfl rfl ?_ | refine OP.guard_no rfl rfl rfl rfl ?_ | refine OP.guard_un rfl rfl rfl ?_ | refine OP.guard_no0 rfl rfl rfl ?_ | (refine OP.guard_dec rfl rfl (fun h => ?_) (fun h => ?_) <;> (try (exfalso; omega))) | refine OP.guard_bool rfl rfl (fun h => ?_) (fun h => ?_)) | (show OP _ _ _ _ _ _ _ ⟨_, .move _, _, _, _, none⟩ _ _; first | refine OP.mI rfl rfl ?_ | refine OP.mB rfl rfl ?_ | refine OP.mC rfl rfl ?_ | refine OP.mF rfl rfl ?_ | refine OP.mS rfl rfl ?_ | refine OP.mP rfl rfl ?_ | refine OP.mA rfl rfl ?_ | refine OP.mT rfl rfl ?_ | refine OP.mM rfl rfl ?_ | refine OP.mU rfl rfl ?_ | refine OP.move rfl rfl ?_) | (show OP _ _ _ _ _ _ _ ⟨_, .assign _, _, _, _, none⟩ _ _; first | refine OP.aI rfl rfl ?_ | refine OP.aB rfl rfl ?_ | refine OP.aC rfl rfl ?_ | refine OP.aF rfl rfl ?_ | refine OP.aS rfl rfl ?_ | refine OP.aP rfl rfl ?_ | refine OP.aA rfl rfl ?_ | refine OP.aT rfl rfl ?_ | refine OP.aM rfl rfl ?_ | refine OP.aU rfl rfl ?_ | refine OP.assign rfl rfl ?_) | (show OP _ _ _ _ _ _ _ ⟨_, .call _, _, _, _, none⟩ _ _; first | (refine OP.call rfl (fun w' hst => hF _ _ w' (RdC.own (l := al4X) (sp := []) hst (List.Mem.head _)) (hT.over hst (by simp))) (fun _ _ hR => ?_); obtain ⟨q, rfl, rfl⟩ := hR) | refine OP.len rfl rfl rfl ?_) | (show OP _ _ _ _ _ _ _ ⟨_, .binOp _ _ _ _ _, _, _, _, none⟩ _ _; first | refine OP.ceql (r := true) (by decide +kernel) rfl rfl rfl ?_ | refine OP.ceql (r := true) e4 rfl rfl rfl ?_ | refine OP.eql rfl rfl rfl ?_ | refine OP.eql2 rfl rfl rfl ?_ | refine OP.eqd rfl rfl rfl ?_ | refine OP.eqlb rfl rfl rfl ?_) | (show OP _ _ _ _ _ _ _ ⟨_, .pick _ _ _, _, _, _, none⟩ _ _; first | refine OP.pick_true rfl rfl ?_ | refine OP.pick_false rfl rfl ?_) | refine OP.extract rfl rfl rfl ?_ | refine OP.fieldAddr rfl rfl ?_ | (show OP _ _ _ _ _ _ _ ⟨_, .load _ _, _, _, _, none⟩ _ _; first | refine OP.ld rfl rfl inferInstance rfl ?_ | refine OP.load rfl rfl (Sees.old0 (by assumption)) ?_ | refine OP.ldA rfl rfl inferInstance rfl ?_) | (show OP _ _ _ _ _ _ _ ⟨_, .store _ _ _, _, _, _, none⟩ _ _; first | refine OP.stI rfl rfl inferInstance rfl ?_ | refine OP.stB rfl rfl inferInstance rfl ?_ | refine OP.stC rfl rfl inferInstance rfl ?_ | refine OP.stF rfl rfl inferInstance rfl ?_ | refine OP.stS rfl rfl inferInstance rfl ?_ | refine OP.stP rfl rfl inferInstance rfl ?_ | refine OP.stM rfl rfl inferInstance rfl ?_ | refine OP.stU rfl rfl inferInstance rfl ?_ | refine OP.st (vs := [_]) rfl rfl inferInstance rfl rfl rfl ?_ | refine OP.st (vs := [_, _]) rfl rfl inferInstance rfl rfl rfl ?_ | refine OP.st (vs := [_, _, _]) rfl rfl inferInstance rfl rfl rfl ?_) | refine OP.alI rfl (fun al => ?_) | refine OP.alA rfl (fun al => ?_) | refine OP.alloc rfl rfl (fun al => ?_) | refine OP.build rfl rfl ?_ | (refine OP.buildSlice rfl rfl ?_ rfl rfl (fun bs => ?_); (decide)) | refine OP.buildSlice0 rfl rfl (fun bs => ?_))
  all_goals refine Fin.drop (List.nil_sublist _) ?_
  all_goals refine Fin.ret1 (h0 := .inl rfl) rfl rfl ?_
  all_goals exact ⟨rfl, rfl⟩
set_option maxHeartbeats 2000000 in
theorem copied4_fn (N NN : Nat) (l : List Cx) (hl : l.length = NN) (hNN : NN ≤ 4096) (b cap : Nat) (w : World) (hr : RdC w b 0 l) :
    Does Tryd.prog 12 #[gV N b NN cap] [] w fun v Γ => ∃ q c sp, v = gV N q NN c ∧ Γ = [(q, .cells (cxs l ++ sp).toArray 28 (0, 0))] := by
  unfold gV
  refine Does.enter Tryd.func12 rfl Tryd.ntmps12 rfl (St.start w) ?_
  repeat' (first | (show WP _ _ _ _ _ (.region 1 _ _) _ _; refine WP.regionH [_] [_] rfl (by kernel_rfl) ?_) | refine Fin.tail ?_ | refine Fin.then_normal ?_ | refine Fin.then_exit ?_ | refine Fin.then_ret ?_ | refine Fin.block_normal ?_ | refine Fin.block_ret ?_ | refine Fin.block_hit ?_ | refine Fin.block_miss rfl ?_ | refine Fin.loop_exit ?_ | refine Fin.loop_ret ?_ | refine WP.seq ?_ | (refine WP.regionQ (by kernel_rfl) (by kernel_rfl) ?_) | refine WP.block ?_ | refine WP.region ?_ | refine WP.skip ?_ | refine WP.exit ?_ | refine WP.ret ?_ | refine WP.label ?_ | refine WP.cond_true rfl ?_ | refine WP.cond_false rfl ?_ | (refine WP.cond_dec rfl (fun h => ?_) (fun h => ?_) <;> (try (exfalso; omega))) | (refine WP.cond_bool rfl (fun h => ?_) (fun h => ?_)) | refine WL.nil ?_ | refine WL.cons ?_ | refine OP.fieldAddr rfl rfl ?_ | (show OP _ _ _ _ _ _ _ ⟨_, .load _ _, _, _, _, none⟩ _ _; first | refine OP.ld rfl rfl inferInstance rfl ?_ | refine OP.load rfl rfl (Sees.old0 (by assumption)) ?_ | refine OP.ldA rfl rfl inferInstance rfl ?_) | (show OP _ _ _ _ _ _ _ ⟨_, .store _ _ _, _, _, _, none⟩ _ _; first | refine OP.stI rfl rfl inferInstance rfl ?_ | refine OP.stB rfl rfl inferInstance rfl ?_ | refine OP.stC rfl rfl inferInstance rfl ?_ | refine OP.stF rfl rfl inferInstance rfl ?_ | refine OP.stS rfl rfl inferInstance rfl ?_ | refine OP.stP rfl rfl inferInstance rfl ?_ | refine OP.stM rfl rfl inferInstance rfl ?_ | refine OP.stU rfl rfl inferInstance rfl ?_ | refine OP.st (vs := [_]) rfl rfl inferInstance rfl rfl rfl ?_ | refine OP.st (vs := [_, _]) rfl rfl inferInstance rfl rfl rfl ?_ | refine OP.st (vs := [_, _, _]) rfl rfl inferInstance rfl rfl rfl ?_) | (show OP _ _ _ _ _ _ _ ⟨_, .box _ _, _, _, _, none⟩ _ _; first | refine OP.bxI rfl rfl (fun bx => ?_) | refine OP.bxB rfl rfl (fun bx => ?_) | refine OP.bxC rfl rfl (fun bx => ?_) | refine OP.bxF rfl rfl (fun bx => ?_) | refine OP.bxS rfl rfl (fun bx => ?_) | refine OP.bxP rfl rfl (fun bx => ?_) | refine OP.bxA rfl rfl (fun bx => ?_) | refine OP.bxM rfl rfl (fun bx => ?_) | refine OP.bxU rfl rfl (fun bx => ?_) | refine OP.box rfl rfl (fun bx => ?_)) | refine OP.alI rfl (fun al => ?_) | refine OP.alA rfl (fun al => ?_) | refine OP.alloc rfl rfl (fun al => ?_) | refine OP.build rfl rfl ?_ | (refine OP.buildSlice rfl rfl ?_ rfl rfl (fun bs => ?_); (decide)) | refine OP.buildSlice0 rfl rfl (fun bs => ?_))
  refine WH.take (i := 0) rfl (by kernel_rfl) (by kernel_rfl) (by kernel_rfl) rfl ?_
  (first | refine OP.fieldAddr rfl rfl ?_)
  refine WH.take (i := 1) rfl (by kernel_rfl) (by kernel_rfl) (by kernel_rfl) rfl ?_
  (first | refine OP.ld rfl rfl inferInstance rfl ?_ | refine OP.load rfl rfl (Sees.old0 (by assumption)) ?_ | refine OP.ldA rfl rfl inferInstance rfl ?_)
  refine WH.take (i := 3) rfl (by kernel_rfl) (by kernel_rfl) (by kernel_rfl) rfl ?_
  (first | refine OP.fieldAddr rfl rfl ?_)
  refine WH.take (i := 4) rfl (by kernel_rfl) (by kernel_rfl) (by kernel_rfl) rfl ?_
  (first | refine OP.ld rfl rfl inferInstance rfl ?_ | refine OP.load rfl rfl (Sees.old0 (by assumption)) ?_ | refine OP.ldA rfl rfl inferInstance rfl ?_)
  refine WH.step (rs := [2]) (by kernel_rfl) rfl (all_cons ⟨_, rfl, ?_⟩ all_nil)
  (first | (refine OP.buildSlice rfl rfl ?_ rfl rfl (fun bs => ?_); (decide)) | refine OP.buildSlice0 rfl rfl (fun bs => ?_))
  refine next.mk (_ :: _ :: []) rfl ?_
  refine WH.step (rs := [5]) (by kernel_rfl) rfl (all_cons ⟨_, rfl, ?_⟩ all_nil)
  (refine OP.appendO (m := 1) (bytes := 16) (z := .complex .f64 0 0) (Γ1 := []) (sn := 0) (sc := 0) (xs := []) (sp := []) (vs := cxs l) rfl rfl rfl rfl rfl (fun _ => rfl) rfl rfl (cxs_sees hr _) (by rw [cxs_len, hl, Nat.mul_one]) (cxs_one l) (by omega) (by omega) (by omega) (fun q sp cap hsp hcap => ?_))
  refine next.mk (_ :: _ :: []) rfl ?_
  refine WH.take (i := 6) rfl (by kernel_rfl) (by kernel_rfl) (by kernel_rfl) rfl ?_
  (first | refine OP.build rfl rfl ?_)
  refine WH.step (rs := [7]) (by kernel_rfl) rfl (all_cons ⟨_, rfl, ?_⟩ all_nil)
  (first | refine OP.stI rfl rfl inferInstance rfl ?_ | refine OP.stB rfl rfl inferInstance rfl ?_ | refine OP.stC rfl rfl inferInstance rfl ?_ | refine OP.stF rfl rfl inferInstance rfl ?_ | refine OP.stS rfl rfl inferInstance rfl ?_ | refine OP.stP rfl rfl inferInstance rfl ?_ | refine OP.stM rfl rfl inferInstance rfl ?_ | refine OP.stU rfl rfl inferInstance rfl ?_ | refine OP.st (vs := [_]) rfl rfl inferInstance rfl rfl rfl ?_ | refine OP.st (vs := [_, _]) rfl rfl inferInstance rfl rfl rfl ?_ | refine OP.st (vs := [_, _, _]) rfl rfl inferInstance rfl rfl rfl ?_)
  refine next.mk (_ :: _ :: []) rfl ?_
  refine WH.done (by kernel_rfl) ?_
  rotate_left
  all_goals repeat' (first | refine Fin.tail ?_ | refine Fin.then_normal ?_ | refine Fin.then_exit ?_ | refine Fin.then_ret ?_ | refine Fin.block_normal ?_ | refine Fin.block_ret ?_ | refine Fin.block_hit ?_ | refine Fin.block_miss rfl ?_ | refine Fin.loop_exit ?_ | refine Fin.loop_ret ?_ | refine WP.seq ?_ | (refine WP.regionQ (by kernel_rfl) (by kernel_rfl) ?_) | refine WP.block ?_ | refine WP.region ?_ | refine WP.skip ?_ | refine WP.exit ?_ | refine WP.ret ?_ | refine WP.label ?_ | refine WP.cond_true rfl ?_ | refine WP.cond_false rfl ?_ | (refine WP.cond_dec rfl (fun h => ?_) (fun h => ?_) <;> (try (exfalso; omega))) | (refine WP.cond_bool rfl (fun h => ?_) (fun h => ?_)) | refine WL.nil ?_ | refine WL.cons ?_ | refine OP.fieldAddr rfl rfl ?_ | (show OP _ _ _ _ _ _ _ ⟨_, .load _ _, _, _, _, none⟩ _ _; first | refine OP.ld rfl rfl inferInstance rfl ?_ | refine OP.load rfl rfl (Sees.old0 (by assumption)) ?_ | refine OP.ldA rfl rfl inferInstance rfl ?_) | (show OP _ _ _ _ _ _ _ ⟨_, .store _ _ _, _, _, _, none⟩ _ _; first | refine OP.stI rfl rfl inferInstance rfl ?_ | refine OP.stB rfl rfl inferInstance rfl ?_ | refine OP.stC rfl rfl inferInstance rfl ?_ | refine OP.stF rfl rfl inferInstance rfl ?_ | refine OP.stS rfl rfl inferInstance rfl ?_ | refine OP.stP rfl rfl inferInstance rfl ?_ | refine OP.stM rfl rfl inferInstance rfl ?_ | refine OP.stU rfl rfl inferInstance rfl ?_ | refine OP.st (vs := [_]) rfl rfl inferInstance rfl rfl rfl ?_ | refine OP.st (vs := [_, _]) rfl rfl inferInstance rfl rfl rfl ?_ | refine OP.st (vs := [_, _, _]) rfl rfl inferInstance rfl rfl rfl ?_) | (show OP _ _ _ _ _ _ _ ⟨_, .box _ _, _, _, _, none⟩ _ _; first | refine OP.bxI rfl rfl (fun bx => ?_) | refine OP.bxB rfl rfl (fun bx => ?_) | refine OP.bxC rfl rfl (fun bx => ?_) | refine OP.bxF rfl rfl (fun bx => ?_) | refine OP.bxS rfl rfl (fun bx => ?_) | refine OP.bxP rfl rfl (fun bx => ?_) | refine OP.bxA rfl rfl (fun bx => ?_) | refine OP.bxM rfl rfl (fun bx => ?_) | refine OP.bxU rfl rfl (fun bx => ?_) | refine OP.box rfl rfl (fun bx => ?_)) | refine OP.alI rfl (fun al => ?_) | refine OP.alA rfl (fun al => ?_) | refine OP.alloc rfl rfl (fun al => ?_) | refine OP.build rfl rfl ?_ | (refine OP.buildSlice rfl rfl ?_ rfl rfl (fun bs => ?_); (decide)) | refine OP.buildSlice0 rfl rfl (fun bs => ?_))
  all_goals refine Fin.retA1 (h0 := .inl rfl) (Γ' := [(q, .cells (cxs l ++ sp).toArray 28 (0, 0))]) rfl rfl (SeesN.own 2 (List.Mem.tail _ (List.Mem.head _)) rfl) rfl (.cons_cons _ (List.nil_sublist _)) ?_
  all_goals exact ⟨q, cap, sp, (by show Value.agg #[.int .i64 (N : Int), .slice (some ⟨q, 0, none⟩) (0 + NN) cap] = _; rw [Nat.zero_add]), rfl⟩
set_option maxHeartbeats 4000000 in
theorem near4_fn (N NN bb : Nat) (hNN : NN ≤ 4096) (x y : List Cx) (hx : x.length = NN) (hy : y.length = NN) (hn : ∀ (i : Nat) (a e : Cx), x[i]? = some a → y[i]? = some e → ∃ d, subC a e = some d ∧ Ok d ∧ (Ieee.double.order (sizeF d) bb == some .lt) = true)
    (b c b' c' : Nat) (w : World) (hr : RdC w b 0 x) (hr' : RdC w b' 0 y) :
    Does Tryd.prog 11 #[gV N b NN c, gV N b' NN c', .float .f64 bb] [] w fun v Γ => v = .bool true ∧ Γ = [] := by
  unfold gV
  refine Does.enter Tryd.func11 rfl Tryd.ntmps11 rfl (St.start w) ?_
  repeat' (first | refine Fin.tail ?_ | refine Fin.then_normal ?_ | refine Fin.then_exit ?_ | refine Fin.then_ret ?_ | refine Fin.block_normal ?_ | refine Fin.block_ret ?_ | refine Fin.block_hit ?_ | refine Fin.block_miss rfl ?_ | refine Fin.loop_exit ?_ | refine Fin.loop_ret ?_ | refine WP.seq ?_ | (refine WP.regionQ (by kernel_rfl) (by kernel_rfl) ?_) | refine WP.block ?_ | refine WP.region ?_ | refine WP.skip ?_ | refine WP.exit ?_ | refine WP.ret ?_ | refine WP.label ?_ | refine WP.cond_true rfl ?_ | refine WP.cond_false rfl ?_ | (refine WP.cond_dec rfl (fun h => ?_) (fun h => ?_) <;> (try (exfalso; omega))) | (refine WP.cond_bool rfl (fun h => ?_) (fun h => ?_)) | refine WL.nil ?_ | refine WL.cons ?_ | (show OP _ _ _ _ _ _ _ ⟨_, _, _, _, _, some _⟩ _ _; first | refine OP.guard_yes rfl rfl ?_ | refine OP.guard_no rfl rfl rfl rfl ?_ | refine OP.guard_un rfl rfl rfl ?_ | refine OP.guard_no0 rfl rfl rfl ?_ | (refine OP.guard_dec rfl rfl (fun h => ?_) (fun h => ?_) <;> (try (exfalso; omega))) | refine OP.guard_bool rfl rfl (fun h => ?_) (fun h => ?_)) | (show OP _ _ _ _ _ _ _ ⟨_, .move _, _, _, _, none⟩ _ _; first | refine OP.mI rfl rfl ?_ | refine OP.mB rfl rfl ?_ | refine OP.mC rfl rfl ?_ | refine OP.mF rfl rfl ?_ | refine OP.mS rfl rfl ?_ | refine OP.mP rfl rfl ?_ | refine OP.mA rfl rfl ?_ | refine OP.mT rfl rfl ?_ | refine OP.mM rfl rfl ?_ | refine OP.mU rfl rfl ?_ | refine OP.move rfl rfl ?_) | (show OP _ _ _ _ _ _ _ ⟨_, .assign _, _, _, _, none⟩ _ _; first | refine OP.aI rfl rfl ?_ | refine OP.aB rfl rfl ?_ | refine OP.aC rfl rfl ?_ | refine OP.aF rfl rfl ?_ | refine OP.aS rfl rfl ?_ | refine OP.aP rfl rfl ?_ | refine OP.aA rfl rfl ?_ | refine OP.aT rfl rfl ?_ | refine OP.aM rfl rfl ?_ | refine OP.aU rfl rfl ?_ | refine OP.assign rfl rfl ?_) | refine OP.len rfl rfl rfl ?_ | (show OP _ _ _ _ _ _ _ ⟨_, .binOp _ _ _ _ _, _, _, _, none⟩ _ _; first | (refine OP.add rfl rfl rfl ?_ ?_ ?_; omega; omega) | refine OP.lss rfl rfl rfl ?_ | refine OP.neq rfl rfl rfl ?_ | refine OP.neq2 rfl rfl rfl ?_ | refine OP.neqd rfl rfl rfl ?_) | (show OP _ _ _ _ _ _ _ ⟨_, .unOp _ _ _, _, _, _, none⟩ _ _; first | refine OP.notd rfl rfl ?_ | refine OP.not rfl rfl ?_ | (refine OP.neg rfl rfl ?_ ?_ ?_; omega; omega)) | (show OP _ _ _ _ _ _ _ ⟨_, .pick _ _ _, _, _, _, none⟩ _ _; first | refine OP.pick_true rfl rfl ?_ | refine OP.pick_false rfl rfl ?_) | refine OP.fieldAddr rfl rfl ?_ | (show OP _ _ _ _ _ _ _ ⟨_, .load _ _, _, _, _, none⟩ _ _; first | refine OP.ld rfl rfl inferInstance rfl ?_ | refine OP.load rfl rfl (Sees.old0 (by assumption)) ?_ | refine OP.ldA rfl rfl inferInstance rfl ?_) | (show OP _ _ _ _ _ _ _ ⟨_, .box _ _, _, _, _, none⟩ _ _; first | refine OP.bxI rfl rfl (fun bx => ?_) | refine OP.bxB rfl rfl (fun bx => ?_) | refine OP.bxC rfl rfl (fun bx => ?_) | refine OP.bxF rfl rfl (fun bx => ?_) | refine OP.bxS rfl rfl (fun bx => ?_) | refine OP.bxP rfl rfl (fun bx => ?_) | refine OP.bxA rfl rfl (fun bx => ?_) | refine OP.bxM rfl rfl (fun bx => ?_) | refine OP.bxU rfl rfl (fun bx => ?_) | refine OP.box rfl rfl (fun bx => ?_)))
  refine WP.loop [7, 22, 23, 24, 25, 26, 27, 28, 29, 30, 31, 32, 33, 34, 35, 36, 37, 38, 39, 40, 41, 42] (fun k : Nat => [(7, .int .i64 k)]) (fun k => _) (fun k => k ≤ NN) (fun k => NN - k) 0 (by omega) rfl ⟨rfl, trivial⟩ ?_
  rintro k jk k1
  dsimp only [updL]
  by_cases hk : k < NN
  · obtain ⟨a, ha⟩ : ∃ a, x[k]? = some a := ⟨x[k], List.getElem?_eq_getElem (by omega)⟩
    obtain ⟨e, he⟩ : ∃ e, y[k]? = some e := ⟨y[k], List.getElem?_eq_getElem (by omega)⟩
    obtain ⟨d, d1, d2, d3⟩ := hn k a e ha he
    have la := hr.see ha
    have le := hr'.see he
    repeat' (first | refine OP.indexAddr (j := k) rfl rfl rfl rfl hk ?_ | refine OP.load rfl rfl (la _) ?_ | refine OP.load rfl rfl (le _) ?_ | refine Fin.tail ?_ | refine Fin.then_normal ?_ | refine Fin.then_exit ?_ | refine Fin.then_ret ?_ | refine Fin.block_normal ?_ | refine Fin.block_ret ?_ | refine Fin.block_hit ?_ | refine Fin.block_miss rfl ?_ | refine Fin.loop_exit ?_ | refine Fin.loop_ret ?_ | refine WP.seq ?_ | (refine WP.regionQ (by kernel_rfl) (by kernel_rfl) ?_) | refine WP.block ?_ | refine WP.region ?_ | refine WP.skip ?_ | refine WP.exit ?_ | refine WP.ret ?_ | refine WP.label ?_ | refine WP.cond_true rfl ?_ | refine WP.cond_false rfl ?_ | (refine WP.cond_dec rfl (fun h => ?_) (fun h => ?_) <;> (try (exfalso; omega))) | (refine WP.cond_bool rfl (fun h => ?_) (fun h => ?_)) | refine WL.nil ?_ | refine WL.cons ?_ | (show OP _ _ _ _ _ _ _ ⟨_, _, _, _, _, some _⟩ _ _; first | refine OP.guard_yes rfl rfl ?_ | refine OP.guard_no rfl rfl rfl rfl ?_ | refine OP.guard_un rfl rfl rfl ?_ | refine OP.guard_no0 rfl rfl rfl ?_ | (refine OP.guard_dec rfl rfl (fun h => ?_) (fun h => ?_) <;> (try (exfalso; omega))) | refine OP.guard_bool rfl rfl (fun h => ?_) (fun h => ?_)) | (show OP _ _ _ _ _ _ _ ⟨_, .move _, _, _, _, none⟩ _ _; first | refine OP.mI rfl rfl ?_ | refine OP.mB rfl rfl ?_ | refine OP.mC rfl rfl ?_ | refine OP.mF rfl rfl ?_ | refine OP.mS rfl rfl ?_ | refine OP.mP rfl rfl ?_ | refine OP.mA rfl rfl ?_ | refine OP.mT rfl rfl ?_ | refine OP.mM rfl rfl ?_ | refine OP.mU rfl rfl ?_ | refine OP.move rfl rfl ?_) | (show OP _ _ _ _ _ _ _ ⟨_, .assign _, _, _, _, none⟩ _ _; first | refine OP.aI rfl rfl ?_ | refine OP.aB rfl rfl ?_ | refine OP.aC rfl rfl ?_ | refine OP.aF rfl rfl ?_ | refine OP.aS rfl rfl ?_ | refine OP.aP rfl rfl ?_ | refine OP.aA rfl rfl ?_ | refine OP.aT rfl rfl ?_ | refine OP.aM rfl rfl ?_ | refine OP.aU rfl rfl ?_ | refine OP.assign rfl rfl ?_) | (show OP _ _ _ _ _ _ _ ⟨_, .call _, _, _, _, none⟩ _ _; first | refine OP.callq _ rfl (fun w _ => RFar_fn a e d d1 d2 w) (fun _ _ h => h.1) ?_ | refine OP.len rfl rfl rfl ?_) | (show OP _ _ _ _ _ _ _ ⟨_, .binOp _ _ _ _ _, _, _, _, none⟩ _ _; first | refine OP.fcmpK (r := true) _ rfl rfl rfl rfl (by rw [d3]) ?_ | (refine OP.add rfl rfl rfl ?_ ?_ ?_; omega; omega) | refine OP.lss rfl rfl rfl ?_ | refine OP.neq rfl rfl rfl ?_ | refine OP.neq2 rfl rfl rfl ?_ | refine OP.neqd rfl rfl rfl ?_) | (show OP _ _ _ _ _ _ _ ⟨_, .unOp _ _ _, _, _, _, none⟩ _ _; first | refine OP.notd rfl rfl ?_ | refine OP.not rfl rfl ?_ | (refine OP.neg rfl rfl ?_ ?_ ?_; omega; omega)) | (show OP _ _ _ _ _ _ _ ⟨_, .pick _ _ _, _, _, _, none⟩ _ _; first | refine OP.pick_true rfl rfl ?_ | refine OP.pick_false rfl rfl ?_) | refine OP.fieldAddr rfl rfl ?_ | (show OP _ _ _ _ _ _ _ ⟨_, .load _ _, _, _, _, none⟩ _ _; first | refine OP.ld rfl rfl inferInstance rfl ?_ | refine OP.load rfl rfl (Sees.old0 (by assumption)) ?_ | refine OP.ldA rfl rfl inferInstance rfl ?_) | (show OP _ _ _ _ _ _ _ ⟨_, .box _ _, _, _, _, none⟩ _ _; first | refine OP.bxI rfl rfl (fun bx => ?_) | refine OP.bxB rfl rfl (fun bx => ?_) | refine OP.bxC rfl rfl (fun bx => ?_) | refine OP.bxF rfl rfl (fun bx => ?_) | refine OP.bxS rfl rfl (fun bx => ?_) | refine OP.bxP rfl rfl (fun bx => ?_) | refine OP.bxA rfl rfl (fun bx => ?_) | refine OP.bxM rfl rfl (fun bx => ?_) | refine OP.bxU rfl rfl (fun bx => ?_) | refine OP.box rfl rfl (fun bx => ?_)))
    refine Fin.loop_normal fun w' hst => ⟨k + 1, by omega, by omega, by (repeat' (first | exact Agree.refl _ _ | refine Agree.upd rfl ?_ | refine Agree.hav rfl ?_)), ⟨rfl, trivial⟩, hst⟩
  · repeat' (first | refine Fin.tail ?_ | refine Fin.then_normal ?_ | refine Fin.then_exit ?_ | refine Fin.then_ret ?_ | refine Fin.block_normal ?_ | refine Fin.block_ret ?_ | refine Fin.block_hit ?_ | refine Fin.block_miss rfl ?_ | refine Fin.loop_exit ?_ | refine Fin.loop_ret ?_ | refine WP.seq ?_ | (refine WP.regionQ (by kernel_rfl) (by kernel_rfl) ?_) | refine WP.block ?_ | refine WP.region ?_ | refine WP.skip ?_ | refine WP.exit ?_ | refine WP.ret ?_ | refine WP.label ?_ | refine WP.cond_true rfl ?_ | refine WP.cond_false rfl ?_ | (refine WP.cond_dec rfl (fun h => ?_) (fun h => ?_) <;> (try (exfalso; omega))) | (refine WP.cond_bool rfl (fun h => ?_) (fun h => ?_)) | refine WL.nil ?_ | refine WL.cons ?_ | (show OP _ _ _ _ _ _ _ ⟨_, _, _, _, _, some _⟩ _ _; first | refine OP.guard_yes rfl rfl ?_ | refine OP.guard_no rfl rfl rfl rfl ?_ | refine OP.guard_un rfl rfl rfl ?_ | refine OP.guard_no0 rfl rfl rfl ?_ | (refine OP.guard_dec rfl rfl (fun h => ?_) (fun h => ?_) <;> (try (exfalso; omega))) | refine OP.guard_bool rfl rfl (fun h => ?_) (fun h => ?_)) | (show OP _ _ _ _ _ _ _ ⟨_, .move _, _, _, _, none⟩ _ _; first | refine OP.mI rfl rfl ?_ | refine OP.mB rfl rfl ?_ | refine OP.mC rfl rfl ?_ | refine OP.mF rfl rfl ?_ | refine OP.mS rfl rfl ?_ | refine OP.mP rfl rfl ?_ | refine OP.mA rfl rfl ?_ | refine OP.mT rfl rfl ?_ | refine OP.mM rfl rfl ?_ | refine OP.mU rfl rfl ?_ | refine OP.move rfl rfl ?_) | (show OP _ _ _ _ _ _ _ ⟨_, .assign _, _, _, _, none⟩ _ _; first | refine OP.aI rfl rfl ?_ | refine OP.aB rfl rfl ?_ | refine OP.aC rfl rfl ?_ | refine OP.aF rfl rfl ?_ | refine OP.aS rfl rfl ?_ | refine OP.aP rfl rfl ?_ | refine OP.aA rfl rfl ?_ | refine OP.aT rfl rfl ?_ | refine OP.aM rfl rfl ?_ | refine OP.aU rfl rfl ?_ | refine OP.assign rfl rfl ?_) | refine OP.len rfl rfl rfl ?_ | (show OP _ _ _ _ _ _ _ ⟨_, .binOp _ _ _ _ _, _, _, _, none⟩ _ _; first | (refine OP.add rfl rfl rfl ?_ ?_ ?_; omega; omega) | refine OP.lss rfl rfl rfl ?_ | refine OP.neq rfl rfl rfl ?_ | refine OP.neq2 rfl rfl rfl ?_ | refine OP.neqd rfl rfl rfl ?_) | (show OP _ _ _ _ _ _ _ ⟨_, .unOp _ _ _, _, _, _, none⟩ _ _; first | refine OP.notd rfl rfl ?_ | refine OP.not rfl rfl ?_ | (refine OP.neg rfl rfl ?_ ?_ ?_; omega; omega)) | (show OP _ _ _ _ _ _ _ ⟨_, .pick _ _ _, _, _, _, none⟩ _ _; first | refine OP.pick_true rfl rfl ?_ | refine OP.pick_false rfl rfl ?_) | refine OP.fieldAddr rfl rfl ?_ | (show OP _ _ _ _ _ _ _ ⟨_, .load _ _, _, _, _, none⟩ _ _; first | refine OP.ld rfl rfl inferInstance rfl ?_ | refine OP.load rfl rfl (Sees.old0 (by assumption)) ?_ | refine OP.ldA rfl rfl inferInstance rfl ?_) | (show OP _ _ _ _ _ _ _ ⟨_, .box _ _, _, _, _, none⟩ _ _; first | refine OP.bxI rfl rfl (fun bx => ?_) | refine OP.bxB rfl rfl (fun bx => ?_) | refine OP.bxC rfl rfl (fun bx => ?_) | refine OP.bxF rfl rfl (fun bx => ?_) | refine OP.bxS rfl rfl (fun bx => ?_) | refine OP.bxP rfl rfl (fun bx => ?_) | refine OP.bxA rfl rfl (fun bx => ?_) | refine OP.bxM rfl rfl (fun bx => ?_) | refine OP.bxU rfl rfl (fun bx => ?_) | refine OP.box rfl rfl (fun bx => ?_)))
    refine Fin.drop (List.nil_sublist _) ?_
    refine Fin.ret1 (h0 := .inl rfl) rfl rfl ?_
    exact ⟨rfl, rfl⟩
/-! the references' roots -/
theorem i64_andm (n : Int) {c : Nat} (hc : c ≤ 5) : bits .and .i64 n (((2 ^ c : Nat) : Int) - 1) = n % ((2 ^ c : Nat) : Int) := by
  have h7 : (BitVec.ofInt 64 (((2 ^ c : Nat) : Int) - 1)).toNat = 2 ^ c - 1 := by
    rcases (by omega : c = 0 ∨ c = 1 ∨ c = 2 ∨ c = 3 ∨ c = 4 ∨ c = 5) with rfl | rfl | rfl | rfl | rfl | rfl <;> decide
  have key : (BitVec.ofInt 64 n &&& BitVec.ofInt 64 (((2 ^ c : Nat) : Int) - 1)).toNat = (n % ((2 ^ 64 : Nat) : Int)).toNat % 2 ^ c := by
    rw [BitVec.toNat_and, BitVec.toNat_ofInt, h7, Nat.and_two_pow_sub_one_eq_mod]
  show IntKind.i64.wrap ((BitVec.ofInt 64 n &&& BitVec.ofInt 64 (((2 ^ c : Nat) : Int) - 1)).toNat : Nat) = _
  rw [key, IntKind.wrap_i64]
  rcases (by omega : c = 0 ∨ c = 1 ∨ c = 2 ∨ c = 3 ∨ c = 4 ∨ c = 5) with rfl | rfl | rfl | rfl | rfl | rfl <;> omega
set_option maxHeartbeats 1000000 in
theorem RLength5_fn (m : Nat) (hm : m ≤ 5) (w : World) : Does Tryd.prog 20 #[.int .i64 ((2 ^ m : Nat) : Int)] [] w fun v Γ => v = .bool true ∧ Γ = [] := by
  have hand := and_pow5 hm
  have hp := pow32 hm
  have hp0 := Nat.two_pow_pos m
  generalize 2 ^ m = N at *
  refine Does.enter Tryd.func20 rfl Tryd.ntmps20 rfl (St.start w) ?_
  repeat' (first | refine Fin.tail ?_ | refine Fin.then_normal ?_ | refine Fin.then_exit ?_ | refine Fin.then_ret ?_ | refine Fin.block_normal ?_ | refine Fin.block_ret ?_ | refine Fin.block_hit ?_ | refine Fin.block_miss rfl ?_ | refine Fin.loop_exit ?_ | refine Fin.loop_ret ?_ | refine WP.seq ?_ | (refine WP.regionQ (by kernel_rfl) (by kernel_rfl) ?_) | refine WP.block ?_ | refine WP.region ?_ | refine WP.skip ?_ | refine WP.exit ?_ | refine WP.ret ?_ | refine WP.label ?_ | refine WP.cond_true rfl ?_ | refine WP.cond_false rfl ?_ | (refine WP.cond_dec rfl (fun h => ?_) (fun h => ?_) <;> (try (exfalso; omega))) | (refine WP.cond_bool rfl (fun h => ?_) (fun h => ?_)) | refine WL.nil ?_ | refine WL.cons ?_ | (show OP _ _ _ _ _ _ _ ⟨_, _, _, _, _, some _⟩ _ _; first | refine OP.guard_yes rfl rfl ?_ | refine OP.guard_no rfl rfl rfl rfl ?_ | refine OP.guard_un rfl rfl rfl ?_ | refine OP.guard_no0 rfl rfl rfl ?_ | (refine OP.guard_dec rfl rfl (fun h => ?_) (fun h => ?_) <;> (try (exfalso; omega))) | refine OP.guard_bool rfl rfl (fun h => ?_) (fun h => ?_)) | (show OP _ _ _ _ _ _ _ ⟨_, .move _, _, _, _, none⟩ _ _; first | refine OP.mI rfl rfl ?_ | refine OP.mB rfl rfl ?_ | refine OP.mC rfl rfl ?_ | refine OP.mF rfl rfl ?_ | refine OP.mS rfl rfl ?_ | refine OP.mP rfl rfl ?_ | refine OP.mA rfl rfl ?_ | refine OP.mT rfl rfl ?_ | refine OP.mM rfl rfl ?_ | refine OP.mU rfl rfl ?_ | refine OP.move rfl rfl ?_) | (show OP _ _ _ _ _ _ _ ⟨_, .assign _, _, _, _, none⟩ _ _; first | refine OP.aI rfl rfl ?_ | refine OP.aB rfl rfl ?_ | refine OP.aC rfl rfl ?_ | refine OP.aF rfl rfl ?_ | refine OP.aS rfl rfl ?_ | refine OP.aP rfl rfl ?_ | refine OP.aA rfl rfl ?_ | refine OP.aT rfl rfl ?_ | refine OP.aM rfl rfl ?_ | refine OP.aU rfl rfl ?_ | refine OP.assign rfl rfl ?_) | (show OP _ _ _ _ _ _ _ ⟨_, .binOp _ _ _ _ _, _, _, _, none⟩ _ _; first | refine OP.bitop (r := 0) (.inl rfl) rfl rfl rfl hand ?_ | (refine OP.sub rfl rfl rfl ?_ ?_ ?_; omega; omega) | refine OP.eql rfl rfl rfl ?_ | refine OP.geq rfl rfl rfl ?_ | refine OP.leq rfl rfl rfl ?_ | refine OP.eql2 rfl rfl rfl ?_ | refine OP.eqd rfl rfl rfl ?_ | refine OP.eqlb rfl rfl rfl ?_) | (show OP _ _ _ _ _ _ _ ⟨_, .pick _ _ _, _, _, _, none⟩ _ _; first | refine OP.pick_true rfl rfl ?_ | refine OP.pick_false rfl rfl ?_))
  all_goals refine Fin.ret1 (h0 := .inl rfl) rfl rfl ?_
  all_goals exact ⟨rfl, rfl⟩
set_option maxHeartbeats 1000000 in
theorem Root_fn (m k : Nat) (hm : m ≤ 5) (f : List Cx) (r : Cx) (hf : eighthC m = some f) (hr : atC (2 ^ m) (k % 2 ^ m) f = some r) (w : World) : Does Tryd.prog 8 #[.int .i64 ((2 ^ m : Nat) : Int), .int .i64 (k : Int)] [] w fun v Γ => v = .tuple #[.complex .f64 r.1 r.2, .int .i64 0] ∧ Γ = [] := by
  have hand : bits .and .i64 (k : Int) (((2 ^ m : Nat) : Int) - 1) = ((k % 2 ^ m : Nat) : Int) := by rw [i64_andm _ hm, Int.natCast_emod]
  have hat := fun w => RAt_fn (k % 2 ^ m) m f r (by omega) hf (Nat.mod_lt _ (Nat.two_pow_pos m)) hr w
  have hlen := fun w => RLength5_fn m hm w
  have hp := pow32 hm
  have hp0 := Nat.two_pow_pos m
  generalize k % 2 ^ m = j at *
  generalize 2 ^ m = N at *
  refine Does.enter Tryd.func8 rfl Tryd.ntmps8 rfl (St.start w) ?_
  repeat' (first | refine Fin.tail ?_ | refine Fin.then_normal ?_ | refine Fin.then_exit ?_ | refine Fin.then_ret ?_ | refine Fin.block_normal ?_ | refine Fin.block_ret ?_ | refine Fin.block_hit ?_ | refine Fin.block_miss rfl ?_ | refine Fin.loop_exit ?_ | refine Fin.loop_ret ?_ | refine WP.seq ?_ | (refine WP.regionQ (by kernel_rfl) (by kernel_rfl) ?_) | refine WP.block ?_ | refine WP.region ?_ | refine WP.skip ?_ | refine WP.exit ?_ | refine WP.ret ?_ | refine WP.label ?_ | refine WP.cond_true rfl ?_ | refine WP.cond_false rfl ?_ | (refine WP.cond_dec rfl (fun h => ?_) (fun h => ?_) <;> (try (exfalso; omega))) | (refine WP.cond_bool rfl (fun h => ?_) (fun h => ?_)) | refine WL.nil ?_ | refine WL.cons ?_ | (show OP _ _ _ _ _ _ _ ⟨_, .move _, _, _, _, none⟩ _ _; first | refine OP.mI rfl rfl ?_ | refine OP.mB rfl rfl ?_ | refine OP.mC rfl rfl ?_ | refine OP.mF rfl rfl ?_ | refine OP.mS rfl rfl ?_ | refine OP.mP rfl rfl ?_ | refine OP.mA rfl rfl ?_ | refine OP.mT rfl rfl ?_ | refine OP.mM rfl rfl ?_ | refine OP.mU rfl rfl ?_ | refine OP.move rfl rfl ?_) | (show OP _ _ _ _ _ _ _ ⟨_, .assign _, _, _, _, none⟩ _ _; first | refine OP.aI rfl rfl ?_ | refine OP.aB rfl rfl ?_ | refine OP.aC rfl rfl ?_ | refine OP.aF rfl rfl ?_ | refine OP.aS rfl rfl ?_ | refine OP.aP rfl rfl ?_ | refine OP.aA rfl rfl ?_ | refine OP.aT rfl rfl ?_ | refine OP.aM rfl rfl ?_ | refine OP.aU rfl rfl ?_ | refine OP.assign rfl rfl ?_) | (show OP _ _ _ _ _ _ _ ⟨_, .call _, _, _, _, none⟩ _ _; first | refine OP.callq _ rfl (fun w _ => hlen w) (fun _ _ h => h.1) ?_ | refine OP.callq _ rfl (fun w _ => hat w) (fun _ _ h => h.1) ?_) | (show OP _ _ _ _ _ _ _ ⟨_, .binOp _ _ _ _ _, _, _, _, none⟩ _ _; first | refine OP.bitop (.inl rfl) rfl rfl rfl hand ?_ | (refine OP.sub rfl rfl rfl ?_ ?_ ?_; omega; omega)) | (show OP _ _ _ _ _ _ _ ⟨_, .unOp _ _ _, _, _, _, none⟩ _ _; first | refine OP.notd rfl rfl ?_ | refine OP.not rfl rfl ?_ | (refine OP.neg rfl rfl ?_ ?_ ?_; omega; omega)))
  all_goals refine Fin.ret2 (h0 := .inl rfl) rfl rfl rfl ?_
  all_goals exact ⟨rfl, rfl⟩
set_option maxHeartbeats 1000000 in
theorem RConj_fn (a : Cx) (h : Wf a) (w : World) : Does Tryd.prog 10 #[.complex .f64 a.1 a.2] [] w fun v Γ => v = .complex .f64 (conjC a).1 (conjC a).2 ∧ Γ = [] := by
  refine Does.enter Tryd.func10 rfl Tryd.ntmps10 rfl (St.start w) ?_
  repeat' (first | refine Fin.tail ?_ | refine Fin.then_normal ?_ | refine Fin.then_exit ?_ | refine Fin.then_ret ?_ | refine Fin.block_normal ?_ | refine Fin.block_ret ?_ | refine Fin.block_hit ?_ | refine Fin.block_miss rfl ?_ | refine Fin.loop_exit ?_ | refine Fin.loop_ret ?_ | refine WP.seq ?_ | (refine WP.regionQ (by kernel_rfl) (by kernel_rfl) ?_) | refine WP.block ?_ | refine WP.region ?_ | refine WP.skip ?_ | refine WP.exit ?_ | refine WP.ret ?_ | refine WP.label ?_ | refine WP.cond_true rfl ?_ | refine WP.cond_false rfl ?_ | (refine WP.cond_dec rfl (fun h => ?_) (fun h => ?_) <;> (try (exfalso; omega))) | (refine WP.cond_bool rfl (fun h => ?_) (fun h => ?_)) | refine WL.nil ?_ | refine WL.cons ?_ | (show OP _ _ _ _ _ _ _ ⟨_, .move _, _, _, _, none⟩ _ _; first | refine OP.mI rfl rfl ?_ | refine OP.mB rfl rfl ?_ | refine OP.mC rfl rfl ?_ | refine OP.mF rfl rfl ?_ | refine OP.mS rfl rfl ?_ | refine OP.mP rfl rfl ?_ | refine OP.mA rfl rfl ?_ | refine OP.mT rfl rfl ?_ | refine OP.mM rfl rfl ?_ | refine OP.mU rfl rfl ?_ | refine OP.move rfl rfl ?_) | (show OP _ _ _ _ _ _ _ ⟨_, .assign _, _, _, _, none⟩ _ _; first | refine OP.aI rfl rfl ?_ | refine OP.aB rfl rfl ?_ | refine OP.aC rfl rfl ?_ | refine OP.aF rfl rfl ?_ | refine OP.aS rfl rfl ?_ | refine OP.aP rfl rfl ?_ | refine OP.aA rfl rfl ?_ | refine OP.aT rfl rfl ?_ | refine OP.aM rfl rfl ?_ | refine OP.aU rfl rfl ?_ | refine OP.assign rfl rfl ?_) | (show OP _ _ _ _ _ _ _ ⟨_, .call _, _, _, _, none⟩ _ _; first | refine OP.callq _ rfl (fun w _ => rturned_fn a.2 h.2 w) (fun _ _ h => h.1) ?_ | refine OP.real rfl rfl ?_ | refine OP.imag rfl rfl ?_ | refine OP.complex rfl rfl rfl ?_))
  all_goals refine Fin.ret1 (h0 := .inl rfl) rfl rfl ?_
  all_goals exact ⟨rfl, rfl⟩
end Go.Proofs.YthecbhegjdcjfaaDoor
end
section
/- Layer 4: the fields of whole numbers; rows and columns exchanged. Walked. %compact -/
set_option linter.unusedVariables false
set_option maxRecDepth 100000
namespace Go.Proofs.YthecbhegjdcjfaaDoor
open Go.Pen Go.Flt Go.Wav Go.Cyc Go.Qc

set_option maxHeartbeats 4000000 in
theorem wholes4_fn (xs : List (Int × Int)) (h32 : In32 xs) (hl : xs.length ≤ 1152921504606846976) (a : Option Addr) (b o c : Nat) (ha : 0 < xs.length → a = some ⟨b, o, none⟩) (w : World) (hr : RdP w b o xs) :
    Does Tryd.prog 6 #[.slice a xs.length c] [] w fun v Γ => ∃ m q, m ≤ 5 ∧ v = gV (2 ^ m) q (2 ^ m * 2 ^ m) (2 ^ m * 2 ^ m) ∧ Γ = [(q, .cells (cxs (whl xs (m + m)) ++ []).toArray 28 (0, 0))] := by
  unfold gV
  refine Does.enter Tryd.func6 rfl Tryd.ntmps6 rfl (St.start w) ?_
  repeat' (first | refine Fin.tail ?_ | refine Fin.then_normal ?_ | refine Fin.then_exit ?_ | refine Fin.then_ret ?_ | refine Fin.block_normal ?_ | refine Fin.block_ret ?_ | refine Fin.block_hit ?_ | refine Fin.block_miss rfl ?_ | refine Fin.loop_exit ?_ | refine Fin.loop_ret ?_ | refine WP.seq ?_ | (refine WP.regionQ (by kernel_rfl) (by kernel_rfl) ?_) | refine WP.block ?_ | refine WP.region ?_ | refine WP.skip ?_ | refine WP.exit ?_ | refine WP.ret ?_ | refine WP.label ?_ | refine WP.cond_true rfl ?_ | refine WP.cond_false rfl ?_ | (refine WP.cond_dec rfl (fun h => ?_) (fun h => ?_) <;> (try (exfalso; omega))) | (refine WP.cond_bool rfl (fun h => ?_) (fun h => ?_)) | refine WL.nil ?_ | refine WL.cons ?_ | (show OP _ _ _ _ _ _ _ ⟨_, _, _, _, _, some _⟩ _ _; first | refine OP.guard_yes rfl rfl ?_ | refine OP.guard_no rfl rfl rfl rfl ?_ | refine OP.guard_un rfl rfl rfl ?_ | refine OP.guard_no0 rfl rfl rfl ?_ | (refine OP.guard_dec rfl rfl (fun h => ?_) (fun h => ?_) <;> (try (exfalso; omega))) | refine OP.guard_bool rfl rfl (fun h => ?_) (fun h => ?_)) | (show OP _ _ _ _ _ _ _ ⟨_, .move _, _, _, _, none⟩ _ _; first | refine OP.mI rfl rfl ?_ | refine OP.mB rfl rfl ?_ | refine OP.mC rfl rfl ?_ | refine OP.mF rfl rfl ?_ | refine OP.mS rfl rfl ?_ | refine OP.mP rfl rfl ?_ | refine OP.mA rfl rfl ?_ | refine OP.mT rfl rfl ?_ | refine OP.mM rfl rfl ?_ | refine OP.mU rfl rfl ?_ | refine OP.move rfl rfl ?_) | (show OP _ _ _ _ _ _ _ ⟨_, .assign _, _, _, _, none⟩ _ _; first | refine OP.aI rfl rfl ?_ | refine OP.aB rfl rfl ?_ | refine OP.aC rfl rfl ?_ | refine OP.aF rfl rfl ?_ | refine OP.aS rfl rfl ?_ | refine OP.aP rfl rfl ?_ | refine OP.aA rfl rfl ?_ | refine OP.aT rfl rfl ?_ | refine OP.aM rfl rfl ?_ | refine OP.aU rfl rfl ?_ | refine OP.assign rfl rfl ?_) | (show OP _ _ _ _ _ _ _ ⟨_, .call _, _, _, _, none⟩ _ _; first | refine OP.len rfl rfl rfl ?_ | refine OP.complex rfl rfl rfl ?_) | (show OP _ _ _ _ _ _ _ ⟨_, .binOp _ _ _ _ _, _, _, _, none⟩ _ _; first | (refine OP.add rfl rfl rfl ?_ ?_ ?_; omega; omega) | refine OP.lss rfl rfl rfl ?_ | refine OP.leq rfl rfl rfl ?_ | (refine OP.mul rfl rfl rfl ?_ ?_ ?_; omega; omega)) | (refine OP.conv rfl rfl ?_ ?_ ?_; omega; omega) | (show OP _ _ _ _ _ _ _ ⟨_, .pick _ _ _, _, _, _, none⟩ _ _; first | refine OP.pick_true rfl rfl ?_ | refine OP.pick_false rfl rfl ?_) | refine OP.fieldAddr rfl rfl ?_ | (show OP _ _ _ _ _ _ _ ⟨_, .load _ _, _, _, _, none⟩ _ _; first | refine OP.ld rfl rfl inferInstance rfl ?_ | refine OP.load rfl rfl (Sees.old0 (by assumption)) ?_ | refine OP.ldA rfl rfl inferInstance rfl ?_) | (show OP _ _ _ _ _ _ _ ⟨_, .store _ _ _, _, _, _, none⟩ _ _; first | refine OP.stI rfl rfl inferInstance rfl ?_ | refine OP.stB rfl rfl inferInstance rfl ?_ | refine OP.stC rfl rfl inferInstance rfl ?_ | refine OP.stF rfl rfl inferInstance rfl ?_ | refine OP.stS rfl rfl inferInstance rfl ?_ | refine OP.stP rfl rfl inferInstance rfl ?_ | refine OP.stM rfl rfl inferInstance rfl ?_ | refine OP.stU rfl rfl inferInstance rfl ?_ | refine OP.st (vs := [_]) rfl rfl inferInstance rfl rfl rfl ?_ | refine OP.st (vs := [_, _]) rfl rfl inferInstance rfl rfl rfl ?_ | refine OP.st (vs := [_, _, _]) rfl rfl inferInstance rfl rfl rfl ?_) | refine OP.alI rfl (fun al => ?_) | refine OP.alA rfl (fun al => ?_) | refine OP.alloc rfl rfl (fun al => ?_) | refine OP.build rfl rfl ?_)
  revert al
  intro al0
  refine WP.loop [3, 4, 5, 6, 7, 8, 9, 10, 11, 12, 13, 14, 15, 16, 17, 18, 19, 20, 21, 22, 23, 24, 25, 26, 27, 28, 29, 30, 31, 32, 33, 34, 35, 36, 37, 38, 39, 40, 41, 42, 43, 44, 45, 46, 47, 48, 49, 50, 51, 52, 53, 54, 55, 56, 57] (fun k : Nat => [(3, .int .i64 ((2 ^ k : Nat) : Int))]) (fun k => _) (fun k => k ≤ 5 ∧ (k = 0 ∨ 2 ^ k * 2 ^ k ≤ xs.length)) (fun k => 5 - k) 0 ⟨by omega, .inl rfl⟩ rfl ⟨rfl, trivial⟩ ?_
  rintro k jk ⟨k1, k2⟩
  dsimp only [updL]
  have hp := pow32 k1
  have hp0 := Nat.two_pow_pos k
  have hnx : 2 ^ (k + 1) = 2 ^ k * 2 := Nat.pow_succ _ _
  have hk5 : 2 ^ k < 32 ↔ k < 5 := by
    rcases (by omega : k = 0 ∨ k = 1 ∨ k = 2 ∨ k = 3 ∨ k = 4 ∨ k = 5) with rfl | rfl | rfl | rfl | rfl | rfl <;> decide
  have hsq := sq_cast hp
  have hwl := whl_len xs (k + k)
  rw [Nat.pow_add] at hwl
  have h4 : IntKind.i64.wrap (4 * ((2 ^ k : Nat) : Int) * ((2 ^ k : Nat) : Int)) = ((4 * (2 ^ k * 2 ^ k) : Nat) : Int) := by
    have e : 4 * ((2 ^ k : Nat) : Int) * ((2 ^ k : Nat) : Int) = ((4 * (2 ^ k * 2 ^ k) : Nat) : Int) := by rw [Int.mul_assoc, ← Int.natCast_mul, Int.natCast_mul]; rfl
    rw [e]
    have := Nat.mul_le_mul hp hp
    exact wrap_nat (by omega)
  have hNN := Nat.mul_le_mul hp hp
  have hNN0 : 0 < 2 ^ k * 2 ^ k := Nat.mul_pos hp0 hp0
  have hnn2 : 2 ^ (k + 1) * 2 ^ (k + 1) = 4 * (2 ^ k * 2 ^ k) := by rw [hnx]; generalize 2 ^ k = g; rw [Nat.mul_mul_mul_comm]; omega
  generalize hn : 2 ^ k = n at *
  generalize hnn : n * n = nn at *
  by_cases hgo : 4 * nn ≤ xs.length ∧ n < 32
  · obtain ⟨g1, g2⟩ := hgo
    have g3 := hk5.1 g2
    repeat' (first | refine Fin.tail ?_ | refine Fin.then_normal ?_ | refine Fin.then_exit ?_ | refine Fin.then_ret ?_ | refine Fin.block_normal ?_ | refine Fin.block_ret ?_ | refine Fin.block_hit ?_ | refine Fin.block_miss rfl ?_ | refine Fin.loop_exit ?_ | refine Fin.loop_ret ?_ | refine WP.seq ?_ | (refine WP.regionQ (by kernel_rfl) (by kernel_rfl) ?_) | refine WP.block ?_ | refine WP.region ?_ | refine WP.skip ?_ | refine WP.exit ?_ | refine WP.ret ?_ | refine WP.label ?_ | refine WP.cond_true rfl ?_ | refine WP.cond_false rfl ?_ | (refine WP.cond_dec rfl (fun h => ?_) (fun h => ?_) <;> (try (exfalso; omega))) | (refine WP.cond_bool rfl (fun h => ?_) (fun h => ?_)) | refine WL.nil ?_ | refine WL.cons ?_ | (show OP _ _ _ _ _ _ _ ⟨_, _, _, _, _, some _⟩ _ _; first | refine OP.guard_yes rfl rfl ?_ | refine OP.guard_no rfl rfl rfl rfl ?_ | refine OP.guard_un rfl rfl rfl ?_ | refine OP.guard_no0 rfl rfl rfl ?_ | (refine OP.guard_dec rfl rfl (fun h => ?_) (fun h => ?_) <;> (try (exfalso; omega))) | refine OP.guard_bool rfl rfl (fun h => ?_) (fun h => ?_)) | (show OP _ _ _ _ _ _ _ ⟨_, .move _, _, _, _, none⟩ _ _; first | refine OP.mI rfl rfl ?_ | refine OP.mB rfl rfl ?_ | refine OP.mC rfl rfl ?_ | refine OP.mF rfl rfl ?_ | refine OP.mS rfl rfl ?_ | refine OP.mP rfl rfl ?_ | refine OP.mA rfl rfl ?_ | refine OP.mT rfl rfl ?_ | refine OP.mM rfl rfl ?_ | refine OP.mU rfl rfl ?_ | refine OP.move rfl rfl ?_) | (show OP _ _ _ _ _ _ _ ⟨_, .assign _, _, _, _, none⟩ _ _; first | refine OP.aI rfl rfl ?_ | refine OP.aB rfl rfl ?_ | refine OP.aC rfl rfl ?_ | refine OP.aF rfl rfl ?_ | refine OP.aS rfl rfl ?_ | refine OP.aP rfl rfl ?_ | refine OP.aA rfl rfl ?_ | refine OP.aT rfl rfl ?_ | refine OP.aM rfl rfl ?_ | refine OP.aU rfl rfl ?_ | refine OP.assign rfl rfl ?_) | (show OP _ _ _ _ _ _ _ ⟨_, .call _, _, _, _, none⟩ _ _; first | refine OP.len rfl rfl rfl ?_ | refine OP.complex rfl rfl rfl ?_) | (show OP _ _ _ _ _ _ _ ⟨_, .binOp _ _ _ _ _, _, _, _, none⟩ _ _; first | refine OP.mulR h4 rfl rfl rfl ?_ | (refine OP.add rfl rfl rfl ?_ ?_ ?_; omega; omega) | refine OP.lss rfl rfl rfl ?_ | refine OP.leq rfl rfl rfl ?_ | (refine OP.mul rfl rfl rfl ?_ ?_ ?_; omega; omega)) | (refine OP.conv rfl rfl ?_ ?_ ?_; omega; omega) | (show OP _ _ _ _ _ _ _ ⟨_, .pick _ _ _, _, _, _, none⟩ _ _; first | refine OP.pick_true rfl rfl ?_ | refine OP.pick_false rfl rfl ?_) | refine OP.fieldAddr rfl rfl ?_ | (show OP _ _ _ _ _ _ _ ⟨_, .load _ _, _, _, _, none⟩ _ _; first | refine OP.ld rfl rfl inferInstance rfl ?_ | refine OP.load rfl rfl (Sees.old0 (by assumption)) ?_ | refine OP.ldA rfl rfl inferInstance rfl ?_) | (show OP _ _ _ _ _ _ _ ⟨_, .store _ _ _, _, _, _, none⟩ _ _; first | refine OP.stI rfl rfl inferInstance rfl ?_ | refine OP.stB rfl rfl inferInstance rfl ?_ | refine OP.stC rfl rfl inferInstance rfl ?_ | refine OP.stF rfl rfl inferInstance rfl ?_ | refine OP.stS rfl rfl inferInstance rfl ?_ | refine OP.stP rfl rfl inferInstance rfl ?_ | refine OP.stM rfl rfl inferInstance rfl ?_ | refine OP.stU rfl rfl inferInstance rfl ?_ | refine OP.st (vs := [_]) rfl rfl inferInstance rfl rfl rfl ?_ | refine OP.st (vs := [_, _]) rfl rfl inferInstance rfl rfl rfl ?_ | refine OP.st (vs := [_, _, _]) rfl rfl inferInstance rfl rfl rfl ?_) | refine OP.alI rfl (fun al => ?_) | refine OP.alA rfl (fun al => ?_) | refine OP.alloc rfl rfl (fun al => ?_) | refine OP.build rfl rfl ?_)
    refine Fin.loop_normal fun w' hst => ⟨k + 1, ⟨by omega, .inr (by omega)⟩, by omega, by (repeat' (first | exact Agree.refl _ _ | refine Agree.upd rfl ?_ | refine Agree.hav rfl ?_)), ⟨?_, trivial⟩, hst⟩
    rw [hnx, Int.natCast_mul]; rfl
  · repeat' (first | refine Fin.tail ?_ | refine Fin.then_normal ?_ | refine Fin.then_exit ?_ | refine Fin.then_ret ?_ | refine Fin.block_normal ?_ | refine Fin.block_ret ?_ | refine Fin.block_hit ?_ | refine Fin.block_miss rfl ?_ | refine Fin.loop_exit ?_ | refine Fin.loop_ret ?_ | refine WP.seq ?_ | (refine WP.regionQ (by kernel_rfl) (by kernel_rfl) ?_) | refine WP.block ?_ | refine WP.region ?_ | refine WP.skip ?_ | refine WP.exit ?_ | refine WP.ret ?_ | refine WP.label ?_ | refine WP.cond_true rfl ?_ | refine WP.cond_false rfl ?_ | (refine WP.cond_dec rfl (fun h => ?_) (fun h => ?_) <;> (try (exfalso; omega))) | (refine WP.cond_bool rfl (fun h => ?_) (fun h => ?_)) | refine WL.nil ?_ | refine WL.cons ?_ | (show OP _ _ _ _ _ _ _ ⟨_, _, _, _, _, some _⟩ _ _; first | refine OP.guard_yes rfl rfl ?_ | refine OP.guard_no rfl rfl rfl rfl ?_ | refine OP.guard_un rfl rfl rfl ?_ | refine OP.guard_no0 rfl rfl rfl ?_ | (refine OP.guard_dec rfl rfl (fun h => ?_) (fun h => ?_) <;> (try (exfalso; omega))) | refine OP.guard_bool rfl rfl (fun h => ?_) (fun h => ?_)) | (show OP _ _ _ _ _ _ _ ⟨_, .move _, _, _, _, none⟩ _ _; first | refine OP.mI rfl rfl ?_ | refine OP.mB rfl rfl ?_ | refine OP.mC rfl rfl ?_ | refine OP.mF rfl rfl ?_ | refine OP.mS rfl rfl ?_ | refine OP.mP rfl rfl ?_ | refine OP.mA rfl rfl ?_ | refine OP.mT rfl rfl ?_ | refine OP.mM rfl rfl ?_ | refine OP.mU rfl rfl ?_ | refine OP.move rfl rfl ?_) | (show OP _ _ _ _ _ _ _ ⟨_, .assign _, _, _, _, none⟩ _ _; first | refine OP.aI rfl rfl ?_ | refine OP.aB rfl rfl ?_ | refine OP.aC rfl rfl ?_ | refine OP.aF rfl rfl ?_ | refine OP.aS rfl rfl ?_ | refine OP.aP rfl rfl ?_ | refine OP.aA rfl rfl ?_ | refine OP.aT rfl rfl ?_ | refine OP.aM rfl rfl ?_ | refine OP.aU rfl rfl ?_ | refine OP.assign rfl rfl ?_) | (show OP _ _ _ _ _ _ _ ⟨_, .call _, _, _, _, none⟩ _ _; first | refine OP.len rfl rfl rfl ?_ | refine OP.complex rfl rfl rfl ?_) | (show OP _ _ _ _ _ _ _ ⟨_, .binOp _ _ _ _ _, _, _, _, none⟩ _ _; first | refine OP.mulR h4 rfl rfl rfl ?_ | refine OP.mulR hsq rfl rfl rfl ?_ | (refine OP.add rfl rfl rfl ?_ ?_ ?_; omega; omega) | refine OP.lss rfl rfl rfl ?_ | refine OP.leq rfl rfl rfl ?_ | (refine OP.mul rfl rfl rfl ?_ ?_ ?_; omega; omega)) | (refine OP.conv rfl rfl ?_ ?_ ?_; omega; omega) | (show OP _ _ _ _ _ _ _ ⟨_, .pick _ _ _, _, _, _, none⟩ _ _; first | refine OP.pick_true rfl rfl ?_ | refine OP.pick_false rfl rfl ?_) | refine OP.fieldAddr rfl rfl ?_ | (show OP _ _ _ _ _ _ _ ⟨_, .load _ _, _, _, _, none⟩ _ _; first | refine OP.ld rfl rfl inferInstance rfl ?_ | refine OP.load rfl rfl (Sees.old0 (by assumption)) ?_ | refine OP.ldA rfl rfl inferInstance rfl ?_) | (show OP _ _ _ _ _ _ _ ⟨_, .store _ _ _, _, _, _, none⟩ _ _; first | refine OP.stI rfl rfl inferInstance rfl ?_ | refine OP.stB rfl rfl inferInstance rfl ?_ | refine OP.stC rfl rfl inferInstance rfl ?_ | refine OP.stF rfl rfl inferInstance rfl ?_ | refine OP.stS rfl rfl inferInstance rfl ?_ | refine OP.stP rfl rfl inferInstance rfl ?_ | refine OP.stM rfl rfl inferInstance rfl ?_ | refine OP.stU rfl rfl inferInstance rfl ?_ | refine OP.st (vs := [_]) rfl rfl inferInstance rfl rfl rfl ?_ | refine OP.st (vs := [_, _]) rfl rfl inferInstance rfl rfl rfl ?_ | refine OP.st (vs := [_, _, _]) rfl rfl inferInstance rfl rfl rfl ?_) | refine OP.alI rfl (fun al => ?_) | refine OP.alA rfl (fun al => ?_) | refine OP.alloc rfl rfl (fun al => ?_) | refine OP.build rfl rfl ?_)
    all_goals (
      refine OP.make1 (z := .complex .f64 0 0) (l := nn) rfl rfl rfl rfl rfl (by omega) (by omega) (fun q => ?_)
      rw [cxs_rep, ← hwl, ← filC_zero]
      have hfl := fun i hi => filC_len (whl xs (k + k)) (k := i) hi
      repeat' (first | refine Fin.tail ?_ | refine Fin.then_normal ?_ | refine Fin.then_exit ?_ | refine Fin.then_ret ?_ | refine Fin.block_normal ?_ | refine Fin.block_ret ?_ | refine Fin.block_hit ?_ | refine Fin.block_miss rfl ?_ | refine Fin.loop_exit ?_ | refine Fin.loop_ret ?_ | refine WP.seq ?_ | (refine WP.regionQ (by kernel_rfl) (by kernel_rfl) ?_) | refine WP.block ?_ | refine WP.region ?_ | refine WP.skip ?_ | refine WP.exit ?_ | refine WP.ret ?_ | refine WP.label ?_ | refine WP.cond_true rfl ?_ | refine WP.cond_false rfl ?_ | (refine WP.cond_dec rfl (fun h => ?_) (fun h => ?_) <;> (try (exfalso; omega))) | (refine WP.cond_bool rfl (fun h => ?_) (fun h => ?_)) | refine WL.nil ?_ | refine WL.cons ?_ | (show OP _ _ _ _ _ _ _ ⟨_, _, _, _, _, some _⟩ _ _; first | refine OP.guard_yes rfl rfl ?_ | refine OP.guard_no rfl rfl rfl rfl ?_ | refine OP.guard_un rfl rfl rfl ?_ | refine OP.guard_no0 rfl rfl rfl ?_ | (refine OP.guard_dec rfl rfl (fun h => ?_) (fun h => ?_) <;> (try (exfalso; omega))) | refine OP.guard_bool rfl rfl (fun h => ?_) (fun h => ?_)) | (show OP _ _ _ _ _ _ _ ⟨_, .move _, _, _, _, none⟩ _ _; first | refine OP.mI rfl rfl ?_ | refine OP.mB rfl rfl ?_ | refine OP.mC rfl rfl ?_ | refine OP.mF rfl rfl ?_ | refine OP.mS rfl rfl ?_ | refine OP.mP rfl rfl ?_ | refine OP.mA rfl rfl ?_ | refine OP.mT rfl rfl ?_ | refine OP.mM rfl rfl ?_ | refine OP.mU rfl rfl ?_ | refine OP.move rfl rfl ?_) | (show OP _ _ _ _ _ _ _ ⟨_, .assign _, _, _, _, none⟩ _ _; first | refine OP.aI rfl rfl ?_ | refine OP.aB rfl rfl ?_ | refine OP.aC rfl rfl ?_ | refine OP.aF rfl rfl ?_ | refine OP.aS rfl rfl ?_ | refine OP.aP rfl rfl ?_ | refine OP.aA rfl rfl ?_ | refine OP.aT rfl rfl ?_ | refine OP.aM rfl rfl ?_ | refine OP.aU rfl rfl ?_ | refine OP.assign rfl rfl ?_) | (show OP _ _ _ _ _ _ _ ⟨_, .call _, _, _, _, none⟩ _ _; first | refine OP.len rfl rfl rfl ?_ | refine OP.complex rfl rfl rfl ?_) | (show OP _ _ _ _ _ _ _ ⟨_, .binOp _ _ _ _ _, _, _, _, none⟩ _ _; first | (refine OP.add rfl rfl rfl ?_ ?_ ?_; omega; omega) | refine OP.lss rfl rfl rfl ?_ | refine OP.leq rfl rfl rfl ?_ | (refine OP.mul rfl rfl rfl ?_ ?_ ?_; omega; omega)) | (refine OP.conv rfl rfl ?_ ?_ ?_; omega; omega) | (show OP _ _ _ _ _ _ _ ⟨_, .pick _ _ _, _, _, _, none⟩ _ _; first | refine OP.pick_true rfl rfl ?_ | refine OP.pick_false rfl rfl ?_) | refine OP.fieldAddr rfl rfl ?_ | (show OP _ _ _ _ _ _ _ ⟨_, .load _ _, _, _, _, none⟩ _ _; first | refine OP.ld rfl rfl inferInstance rfl ?_ | refine OP.load rfl rfl (Sees.old0 (by assumption)) ?_ | refine OP.ldA rfl rfl inferInstance rfl ?_) | (show OP _ _ _ _ _ _ _ ⟨_, .store _ _ _, _, _, _, none⟩ _ _; first | refine OP.stI rfl rfl inferInstance rfl ?_ | refine OP.stB rfl rfl inferInstance rfl ?_ | refine OP.stC rfl rfl inferInstance rfl ?_ | refine OP.stF rfl rfl inferInstance rfl ?_ | refine OP.stS rfl rfl inferInstance rfl ?_ | refine OP.stP rfl rfl inferInstance rfl ?_ | refine OP.stM rfl rfl inferInstance rfl ?_ | refine OP.stU rfl rfl inferInstance rfl ?_ | refine OP.st (vs := [_]) rfl rfl inferInstance rfl rfl rfl ?_ | refine OP.st (vs := [_, _]) rfl rfl inferInstance rfl rfl rfl ?_ | refine OP.st (vs := [_, _, _]) rfl rfl inferInstance rfl rfl rfl ?_) | refine OP.alI rfl (fun al => ?_) | refine OP.alA rfl (fun al => ?_) | refine OP.alloc rfl rfl (fun al => ?_) | refine OP.build rfl rfl ?_)
      refine WP.perm (List.Perm.swap _ _ _) ?_
      refine WP.loop [5, 25, 26, 27, 28, 29, 30, 31, 32, 33, 34, 35, 36, 37, 38, 39, 40, 41, 42, 43, 44, 45, 46, 47, 48, 49, 50, 51, 52, 53, 54, 55, 56] (fun i : Nat => [(5, .int .i64 i)]) (fun i => [(q, .cells (cxs (filC (whl xs (k + k)) i) ++ []).toArray 28 (0, 0)), (al, .cells #[.int .i64 (n : Int), .slice (some ⟨q, 0, none⟩) (whl xs (k + k)).length (whl xs (k + k)).length] 26 (0, 0)), (al0, .cells #[.int .i64 0, .slice none 0 0] 26 (0, 0))]) (fun i => i ≤ (whl xs (k + k)).length ∧ (0 < i → i ≤ xs.length)) (fun i => (whl xs (k + k)).length - i) 0 ⟨by omega, by omega⟩ rfl ⟨rfl, trivial⟩ ?_
      rintro i ji ⟨i1, i2⟩
      dsimp only [updL]
      by_cases hi : i < (whl xs (k + k)).length ∧ i < xs.length
      · obtain ⟨i3, i4⟩ := hi
        obtain rfl := ha (by omega)
        obtain ⟨v, hv⟩ : ∃ v, xs[i]? = some v := ⟨xs[i], List.getElem?_eq_getElem i4⟩
        obtain ⟨⟨v1, v2⟩, v3, v4⟩ := h32 v (List.mem_of_getElem? hv)
        obtain ⟨hc0, hc1⟩ := hr.c i v hv
        have b1 := fd_bd v1 v2
        have b2 := fd_bd v3 v4
        have e0 := write_int (z := v.1.fdiv (2 ^ 11)) (by omega)
        have e1 := write_int (z := v.2.fdiv (2 ^ 11)) (by omega)
        have hg : (whl xs (k + k))[i]? = some (w11' v.1, w11' v.2) := by rw [whl_get xs (by rw [← whl_len xs]; exact i3), hv]
        have hfi := hfl i (by omega)
        have sz := cxs_size (l := filC (whl xs (k + k)) i) (sp := []) (i := i) (by omega)
        have st := cxs_set (filC (whl xs (k + k)) i) [] i (w11' v.1, w11' v.2) (by omega)
        rw [filC_set _ hg] at st
        have hsq' : IntKind.i64.wrap ((n : Int) * (n : Int)) = (((whl xs (k + k)).length : Nat) : Int) := by rw [hwl]; exact hsq
        repeat' (first | (show WP _ _ _ _ _ (.region 8 _ _) _ _; refine WP.regionH [_] [_, _] rfl (by kernel_rfl) ?_) | refine Fin.tail ?_ | refine Fin.then_normal ?_ | refine Fin.then_exit ?_ | refine Fin.then_ret ?_ | refine Fin.block_normal ?_ | refine Fin.block_ret ?_ | refine Fin.block_hit ?_ | refine Fin.block_miss rfl ?_ | refine Fin.loop_exit ?_ | refine Fin.loop_ret ?_ | refine WP.seq ?_ | (refine WP.regionQ (by kernel_rfl) (by kernel_rfl) ?_) | refine WP.block ?_ | refine WP.region ?_ | refine WP.skip ?_ | refine WP.exit ?_ | refine WP.ret ?_ | refine WP.label ?_ | refine WP.cond_true rfl ?_ | refine WP.cond_false rfl ?_ | (refine WP.cond_dec rfl (fun h => ?_) (fun h => ?_) <;> (try (exfalso; omega))) | (refine WP.cond_bool rfl (fun h => ?_) (fun h => ?_)) | refine WL.nil ?_ | refine WL.cons ?_ | (show OP _ _ _ _ _ _ _ ⟨_, _, _, _, _, some _⟩ _ _; first | refine OP.guard_yes rfl rfl ?_ | refine OP.guard_no rfl rfl rfl rfl ?_ | refine OP.guard_un rfl rfl rfl ?_ | refine OP.guard_no0 rfl rfl rfl ?_ | (refine OP.guard_dec rfl rfl (fun h => ?_) (fun h => ?_) <;> (try (exfalso; omega))) | refine OP.guard_bool rfl rfl (fun h => ?_) (fun h => ?_)) | (show OP _ _ _ _ _ _ _ ⟨_, .move _, _, _, _, none⟩ _ _; first | refine OP.mI rfl rfl ?_ | refine OP.mB rfl rfl ?_ | refine OP.mC rfl rfl ?_ | refine OP.mF rfl rfl ?_ | refine OP.mS rfl rfl ?_ | refine OP.mP rfl rfl ?_ | refine OP.mA rfl rfl ?_ | refine OP.mT rfl rfl ?_ | refine OP.mM rfl rfl ?_ | refine OP.mU rfl rfl ?_ | refine OP.move rfl rfl ?_) | (show OP _ _ _ _ _ _ _ ⟨_, .assign _, _, _, _, none⟩ _ _; first | refine OP.aI rfl rfl ?_ | refine OP.aB rfl rfl ?_ | refine OP.aC rfl rfl ?_ | refine OP.aF rfl rfl ?_ | refine OP.aS rfl rfl ?_ | refine OP.aP rfl rfl ?_ | refine OP.aA rfl rfl ?_ | refine OP.aT rfl rfl ?_ | refine OP.aM rfl rfl ?_ | refine OP.aU rfl rfl ?_ | refine OP.assign rfl rfl ?_) | (show OP _ _ _ _ _ _ _ ⟨_, .call _, _, _, _, none⟩ _ _; first | refine OP.len rfl rfl rfl ?_ | refine OP.complex rfl rfl rfl ?_) | (show OP _ _ _ _ _ _ _ ⟨_, .binOp _ _ _ _ _, _, _, _, none⟩ _ _; first | refine OP.mulR hsq' rfl rfl rfl ?_ | (refine OP.add rfl rfl rfl ?_ ?_ ?_; omega; omega) | refine OP.lss rfl rfl rfl ?_ | refine OP.leq rfl rfl rfl ?_ | (refine OP.mul rfl rfl rfl ?_ ?_ ?_; omega; omega)) | (refine OP.conv rfl rfl ?_ ?_ ?_; omega; omega) | (show OP _ _ _ _ _ _ _ ⟨_, .pick _ _ _, _, _, _, none⟩ _ _; first | refine OP.pick_true rfl rfl ?_ | refine OP.pick_false rfl rfl ?_) | refine OP.fieldAddr rfl rfl ?_ | (show OP _ _ _ _ _ _ _ ⟨_, .load _ _, _, _, _, none⟩ _ _; first | refine OP.ld rfl rfl inferInstance rfl ?_ | refine OP.load rfl rfl (Sees.old0 (by assumption)) ?_ | refine OP.ldA rfl rfl inferInstance rfl ?_) | (show OP _ _ _ _ _ _ _ ⟨_, .store _ _ _, _, _, _, none⟩ _ _; first | refine OP.stI rfl rfl inferInstance rfl ?_ | refine OP.stB rfl rfl inferInstance rfl ?_ | refine OP.stC rfl rfl inferInstance rfl ?_ | refine OP.stF rfl rfl inferInstance rfl ?_ | refine OP.stS rfl rfl inferInstance rfl ?_ | refine OP.stP rfl rfl inferInstance rfl ?_ | refine OP.stM rfl rfl inferInstance rfl ?_ | refine OP.stU rfl rfl inferInstance rfl ?_ | refine OP.st (vs := [_]) rfl rfl inferInstance rfl rfl rfl ?_ | refine OP.st (vs := [_, _]) rfl rfl inferInstance rfl rfl rfl ?_ | refine OP.st (vs := [_, _, _]) rfl rfl inferInstance rfl rfl rfl ?_) | refine OP.alI rfl (fun al => ?_) | refine OP.alA rfl (fun al => ?_) | refine OP.alloc rfl rfl (fun al => ?_) | refine OP.build rfl rfl ?_)
        refine WH.take (i := 0) rfl (by kernel_rfl) (by kernel_rfl) (by kernel_rfl) rfl ?_
        (first | refine OP.indexAddr (j := i) rfl rfl rfl rfl i3 ?_ | refine OP.indexAddr (j := i) rfl rfl rfl rfl i4 ?_ | refine OP.indexArr (j := 0) rfl rfl rfl rfl (by decide) ?_ | refine OP.indexArr (j := 1) rfl rfl rfl rfl (by decide) ?_ | refine OP.load rfl rfl (Sees.old0 hc0) ?_ | refine OP.load rfl rfl (Sees.old0 hc1) ?_ | (refine OP.store0 (vs := [.complex .f64 (w11' v.1) (w11' v.2)]) rfl rfl rfl rfl sz ?_; rw [st]) | refine OP.fieldAddr rfl rfl ?_)
        refine WH.take (i := 1) rfl (by kernel_rfl) (by kernel_rfl) (by kernel_rfl) rfl ?_
        (first | refine OP.indexAddr (j := i) rfl rfl rfl rfl i3 ?_ | refine OP.indexAddr (j := i) rfl rfl rfl rfl i4 ?_ | refine OP.indexArr (j := 0) rfl rfl rfl rfl (by decide) ?_ | refine OP.indexArr (j := 1) rfl rfl rfl rfl (by decide) ?_ | refine OP.load rfl rfl (Sees.old0 hc0) ?_ | refine OP.load rfl rfl (Sees.old0 hc1) ?_ | (refine OP.store0 (vs := [.complex .f64 (w11' v.1) (w11' v.2)]) rfl rfl rfl rfl sz ?_; rw [st]) | refine OP.ld rfl rfl inferInstance rfl ?_ | refine OP.load rfl rfl (Sees.old0 (by assumption)) ?_ | refine OP.ldA rfl rfl inferInstance rfl ?_)
        refine WH.take (i := 2) rfl (by kernel_rfl) (by kernel_rfl) (by kernel_rfl) rfl ?_
        (first | refine OP.indexAddr (j := i) rfl rfl rfl rfl i3 ?_ | refine OP.indexAddr (j := i) rfl rfl rfl rfl i4 ?_ | refine OP.indexArr (j := 0) rfl rfl rfl rfl (by decide) ?_ | refine OP.indexArr (j := 1) rfl rfl rfl rfl (by decide) ?_ | refine OP.load rfl rfl (Sees.old0 hc0) ?_ | refine OP.load rfl rfl (Sees.old0 hc1) ?_ | (refine OP.store0 (vs := [.complex .f64 (w11' v.1) (w11' v.2)]) rfl rfl rfl rfl sz ?_; rw [st]) | refine OP.mI rfl rfl ?_ | refine OP.mB rfl rfl ?_ | refine OP.mC rfl rfl ?_ | refine OP.mF rfl rfl ?_ | refine OP.mS rfl rfl ?_ | refine OP.mP rfl rfl ?_ | refine OP.mA rfl rfl ?_ | refine OP.mT rfl rfl ?_ | refine OP.mM rfl rfl ?_ | refine OP.mU rfl rfl ?_ | refine OP.move rfl rfl ?_)
        refine WH.take (i := 3) rfl (by kernel_rfl) (by kernel_rfl) (by kernel_rfl) rfl ?_
        (first | refine OP.indexAddr (j := i) rfl rfl rfl rfl i3 ?_ | refine OP.indexAddr (j := i) rfl rfl rfl rfl i4 ?_ | refine OP.indexArr (j := 0) rfl rfl rfl rfl (by decide) ?_ | refine OP.indexArr (j := 1) rfl rfl rfl rfl (by decide) ?_ | refine OP.load rfl rfl (Sees.old0 hc0) ?_ | refine OP.load rfl rfl (Sees.old0 hc1) ?_ | (refine OP.store0 (vs := [.complex .f64 (w11' v.1) (w11' v.2)]) rfl rfl rfl rfl sz ?_; rw [st]) | refine OP.mI rfl rfl ?_ | refine OP.mB rfl rfl ?_ | refine OP.mC rfl rfl ?_ | refine OP.mF rfl rfl ?_ | refine OP.mS rfl rfl ?_ | refine OP.mP rfl rfl ?_ | refine OP.mA rfl rfl ?_ | refine OP.mT rfl rfl ?_ | refine OP.mM rfl rfl ?_ | refine OP.mU rfl rfl ?_ | refine OP.move rfl rfl ?_)
        refine WH.take (i := 4) rfl (by kernel_rfl) (by kernel_rfl) (by kernel_rfl) rfl ?_
        (first | refine OP.indexAddr (j := i) rfl rfl rfl rfl i3 ?_ | refine OP.indexAddr (j := i) rfl rfl rfl rfl i4 ?_ | refine OP.indexArr (j := 0) rfl rfl rfl rfl (by decide) ?_ | refine OP.indexArr (j := 1) rfl rfl rfl rfl (by decide) ?_ | refine OP.load rfl rfl (Sees.old0 hc0) ?_ | refine OP.load rfl rfl (Sees.old0 hc1) ?_ | (refine OP.store0 (vs := [.complex .f64 (w11' v.1) (w11' v.2)]) rfl rfl rfl rfl sz ?_; rw [st]) | refine OP.mI rfl rfl ?_ | refine OP.mB rfl rfl ?_ | refine OP.mC rfl rfl ?_ | refine OP.mF rfl rfl ?_ | refine OP.mS rfl rfl ?_ | refine OP.mP rfl rfl ?_ | refine OP.mA rfl rfl ?_ | refine OP.mT rfl rfl ?_ | refine OP.mM rfl rfl ?_ | refine OP.mU rfl rfl ?_ | refine OP.move rfl rfl ?_)
        refine WH.take (i := 5) rfl (by kernel_rfl) (by kernel_rfl) (by kernel_rfl) rfl ?_
        (first | refine OP.indexAddr (j := i) rfl rfl rfl rfl i3 ?_ | refine OP.indexAddr (j := i) rfl rfl rfl rfl i4 ?_ | refine OP.indexArr (j := 0) rfl rfl rfl rfl (by decide) ?_ | refine OP.indexArr (j := 1) rfl rfl rfl rfl (by decide) ?_ | refine OP.load rfl rfl (Sees.old0 hc0) ?_ | refine OP.load rfl rfl (Sees.old0 hc1) ?_ | (refine OP.store0 (vs := [.complex .f64 (w11' v.1) (w11' v.2)]) rfl rfl rfl rfl sz ?_; rw [st]))
        refine WH.take (i := 6) rfl (by kernel_rfl) (by kernel_rfl) (by kernel_rfl) rfl ?_
        (first | refine OP.indexAddr (j := i) rfl rfl rfl rfl i3 ?_ | refine OP.indexAddr (j := i) rfl rfl rfl rfl i4 ?_ | refine OP.indexArr (j := 0) rfl rfl rfl rfl (by decide) ?_ | refine OP.indexArr (j := 1) rfl rfl rfl rfl (by decide) ?_ | refine OP.load rfl rfl (Sees.old0 hc0) ?_ | refine OP.load rfl rfl (Sees.old0 hc1) ?_ | (refine OP.store0 (vs := [.complex .f64 (w11' v.1) (w11' v.2)]) rfl rfl rfl rfl sz ?_; rw [st]))
        refine WH.take (i := 7) rfl (by kernel_rfl) (by kernel_rfl) (by kernel_rfl) rfl ?_
        (first | refine OP.indexAddr (j := i) rfl rfl rfl rfl i3 ?_ | refine OP.indexAddr (j := i) rfl rfl rfl rfl i4 ?_ | refine OP.indexArr (j := 0) rfl rfl rfl rfl (by decide) ?_ | refine OP.indexArr (j := 1) rfl rfl rfl rfl (by decide) ?_ | refine OP.load rfl rfl (Sees.old0 hc0) ?_ | refine OP.load rfl rfl (Sees.old0 hc1) ?_ | (refine OP.store0 (vs := [.complex .f64 (w11' v.1) (w11' v.2)]) rfl rfl rfl rfl sz ?_; rw [st]) | refine OP.ld rfl rfl inferInstance rfl ?_ | refine OP.load rfl rfl (Sees.old0 (by assumption)) ?_ | refine OP.ldA rfl rfl inferInstance rfl ?_)
        refine WH.take (i := 8) rfl (by kernel_rfl) (by kernel_rfl) (by kernel_rfl) rfl ?_
        (first | refine OP.indexAddr (j := i) rfl rfl rfl rfl i3 ?_ | refine OP.indexAddr (j := i) rfl rfl rfl rfl i4 ?_ | refine OP.indexArr (j := 0) rfl rfl rfl rfl (by decide) ?_ | refine OP.indexArr (j := 1) rfl rfl rfl rfl (by decide) ?_ | refine OP.load rfl rfl (Sees.old0 hc0) ?_ | refine OP.load rfl rfl (Sees.old0 hc1) ?_ | (refine OP.store0 (vs := [.complex .f64 (w11' v.1) (w11' v.2)]) rfl rfl rfl rfl sz ?_; rw [st]) | refine OP.shrI (c := 11) rfl rfl rfl rfl (by decide) ?_)
        refine WH.take (i := 9) rfl (by kernel_rfl) (by kernel_rfl) (by kernel_rfl) rfl ?_
        (first | refine OP.indexAddr (j := i) rfl rfl rfl rfl i3 ?_ | refine OP.indexAddr (j := i) rfl rfl rfl rfl i4 ?_ | refine OP.indexArr (j := 0) rfl rfl rfl rfl (by decide) ?_ | refine OP.indexArr (j := 1) rfl rfl rfl rfl (by decide) ?_ | refine OP.load rfl rfl (Sees.old0 hc0) ?_ | refine OP.load rfl rfl (Sees.old0 hc1) ?_ | (refine OP.store0 (vs := [.complex .f64 (w11' v.1) (w11' v.2)]) rfl rfl rfl rfl sz ?_; rw [st]) | refine OP.convIF rfl rfl rfl e0 ?_ | refine OP.convIF rfl rfl rfl e1 ?_ | (refine OP.conv rfl rfl ?_ ?_ ?_; omega; omega))
        refine WH.take (i := 10) rfl (by kernel_rfl) (by kernel_rfl) (by kernel_rfl) rfl ?_
        (first | refine OP.indexAddr (j := i) rfl rfl rfl rfl i3 ?_ | refine OP.indexAddr (j := i) rfl rfl rfl rfl i4 ?_ | refine OP.indexArr (j := 0) rfl rfl rfl rfl (by decide) ?_ | refine OP.indexArr (j := 1) rfl rfl rfl rfl (by decide) ?_ | refine OP.load rfl rfl (Sees.old0 hc0) ?_ | refine OP.load rfl rfl (Sees.old0 hc1) ?_ | (refine OP.store0 (vs := [.complex .f64 (w11' v.1) (w11' v.2)]) rfl rfl rfl rfl sz ?_; rw [st]) | refine OP.mI rfl rfl ?_ | refine OP.mB rfl rfl ?_ | refine OP.mC rfl rfl ?_ | refine OP.mF rfl rfl ?_ | refine OP.mS rfl rfl ?_ | refine OP.mP rfl rfl ?_ | refine OP.mA rfl rfl ?_ | refine OP.mT rfl rfl ?_ | refine OP.mM rfl rfl ?_ | refine OP.mU rfl rfl ?_ | refine OP.move rfl rfl ?_)
        refine WH.take (i := 11) rfl (by kernel_rfl) (by kernel_rfl) (by kernel_rfl) rfl ?_
        (first | refine OP.indexAddr (j := i) rfl rfl rfl rfl i3 ?_ | refine OP.indexAddr (j := i) rfl rfl rfl rfl i4 ?_ | refine OP.indexArr (j := 0) rfl rfl rfl rfl (by decide) ?_ | refine OP.indexArr (j := 1) rfl rfl rfl rfl (by decide) ?_ | refine OP.load rfl rfl (Sees.old0 hc0) ?_ | refine OP.load rfl rfl (Sees.old0 hc1) ?_ | (refine OP.store0 (vs := [.complex .f64 (w11' v.1) (w11' v.2)]) rfl rfl rfl rfl sz ?_; rw [st]) | refine OP.mI rfl rfl ?_ | refine OP.mB rfl rfl ?_ | refine OP.mC rfl rfl ?_ | refine OP.mF rfl rfl ?_ | refine OP.mS rfl rfl ?_ | refine OP.mP rfl rfl ?_ | refine OP.mA rfl rfl ?_ | refine OP.mT rfl rfl ?_ | refine OP.mM rfl rfl ?_ | refine OP.mU rfl rfl ?_ | refine OP.move rfl rfl ?_)
        refine WH.take (i := 12) rfl (by kernel_rfl) (by kernel_rfl) (by kernel_rfl) rfl ?_
        (first | refine OP.indexAddr (j := i) rfl rfl rfl rfl i3 ?_ | refine OP.indexAddr (j := i) rfl rfl rfl rfl i4 ?_ | refine OP.indexArr (j := 0) rfl rfl rfl rfl (by decide) ?_ | refine OP.indexArr (j := 1) rfl rfl rfl rfl (by decide) ?_ | refine OP.load rfl rfl (Sees.old0 hc0) ?_ | refine OP.load rfl rfl (Sees.old0 hc1) ?_ | (refine OP.store0 (vs := [.complex .f64 (w11' v.1) (w11' v.2)]) rfl rfl rfl rfl sz ?_; rw [st]))
        refine WH.take (i := 13) rfl (by kernel_rfl) (by kernel_rfl) (by kernel_rfl) rfl ?_
        (first | refine OP.indexAddr (j := i) rfl rfl rfl rfl i3 ?_ | refine OP.indexAddr (j := i) rfl rfl rfl rfl i4 ?_ | refine OP.indexArr (j := 0) rfl rfl rfl rfl (by decide) ?_ | refine OP.indexArr (j := 1) rfl rfl rfl rfl (by decide) ?_ | refine OP.load rfl rfl (Sees.old0 hc0) ?_ | refine OP.load rfl rfl (Sees.old0 hc1) ?_ | (refine OP.store0 (vs := [.complex .f64 (w11' v.1) (w11' v.2)]) rfl rfl rfl rfl sz ?_; rw [st]))
        refine WH.take (i := 14) rfl (by kernel_rfl) (by kernel_rfl) (by kernel_rfl) rfl ?_
        (first | refine OP.indexAddr (j := i) rfl rfl rfl rfl i3 ?_ | refine OP.indexAddr (j := i) rfl rfl rfl rfl i4 ?_ | refine OP.indexArr (j := 0) rfl rfl rfl rfl (by decide) ?_ | refine OP.indexArr (j := 1) rfl rfl rfl rfl (by decide) ?_ | refine OP.load rfl rfl (Sees.old0 hc0) ?_ | refine OP.load rfl rfl (Sees.old0 hc1) ?_ | (refine OP.store0 (vs := [.complex .f64 (w11' v.1) (w11' v.2)]) rfl rfl rfl rfl sz ?_; rw [st]) | refine OP.ld rfl rfl inferInstance rfl ?_ | refine OP.load rfl rfl (Sees.old0 (by assumption)) ?_ | refine OP.ldA rfl rfl inferInstance rfl ?_)
        refine WH.take (i := 15) rfl (by kernel_rfl) (by kernel_rfl) (by kernel_rfl) rfl ?_
        (first | refine OP.indexAddr (j := i) rfl rfl rfl rfl i3 ?_ | refine OP.indexAddr (j := i) rfl rfl rfl rfl i4 ?_ | refine OP.indexArr (j := 0) rfl rfl rfl rfl (by decide) ?_ | refine OP.indexArr (j := 1) rfl rfl rfl rfl (by decide) ?_ | refine OP.load rfl rfl (Sees.old0 hc0) ?_ | refine OP.load rfl rfl (Sees.old0 hc1) ?_ | (refine OP.store0 (vs := [.complex .f64 (w11' v.1) (w11' v.2)]) rfl rfl rfl rfl sz ?_; rw [st]) | refine OP.shrI (c := 11) rfl rfl rfl rfl (by decide) ?_)
        refine WH.take (i := 16) rfl (by kernel_rfl) (by kernel_rfl) (by kernel_rfl) rfl ?_
        (first | refine OP.indexAddr (j := i) rfl rfl rfl rfl i3 ?_ | refine OP.indexAddr (j := i) rfl rfl rfl rfl i4 ?_ | refine OP.indexArr (j := 0) rfl rfl rfl rfl (by decide) ?_ | refine OP.indexArr (j := 1) rfl rfl rfl rfl (by decide) ?_ | refine OP.load rfl rfl (Sees.old0 hc0) ?_ | refine OP.load rfl rfl (Sees.old0 hc1) ?_ | (refine OP.store0 (vs := [.complex .f64 (w11' v.1) (w11' v.2)]) rfl rfl rfl rfl sz ?_; rw [st]) | refine OP.convIF rfl rfl rfl e0 ?_ | refine OP.convIF rfl rfl rfl e1 ?_ | (refine OP.conv rfl rfl ?_ ?_ ?_; omega; omega))
        refine WH.take (i := 17) rfl (by kernel_rfl) (by kernel_rfl) (by kernel_rfl) rfl ?_
        (first | refine OP.indexAddr (j := i) rfl rfl rfl rfl i3 ?_ | refine OP.indexAddr (j := i) rfl rfl rfl rfl i4 ?_ | refine OP.indexArr (j := 0) rfl rfl rfl rfl (by decide) ?_ | refine OP.indexArr (j := 1) rfl rfl rfl rfl (by decide) ?_ | refine OP.load rfl rfl (Sees.old0 hc0) ?_ | refine OP.load rfl rfl (Sees.old0 hc1) ?_ | (refine OP.store0 (vs := [.complex .f64 (w11' v.1) (w11' v.2)]) rfl rfl rfl rfl sz ?_; rw [st]) | refine OP.complex rfl rfl rfl ?_)
        refine WH.take (i := 18) rfl (by kernel_rfl) (by kernel_rfl) (by kernel_rfl) rfl ?_
        (first | refine OP.indexAddr (j := i) rfl rfl rfl rfl i3 ?_ | refine OP.indexAddr (j := i) rfl rfl rfl rfl i4 ?_ | refine OP.indexArr (j := 0) rfl rfl rfl rfl (by decide) ?_ | refine OP.indexArr (j := 1) rfl rfl rfl rfl (by decide) ?_ | refine OP.load rfl rfl (Sees.old0 hc0) ?_ | refine OP.load rfl rfl (Sees.old0 hc1) ?_ | (refine OP.store0 (vs := [.complex .f64 (w11' v.1) (w11' v.2)]) rfl rfl rfl rfl sz ?_; rw [st]))
        refine WH.step (rs := [19]) (by kernel_rfl) rfl (all_cons ⟨_, rfl, ?_⟩ all_nil)
        (first | refine OP.indexAddr (j := i) rfl rfl rfl rfl i3 ?_ | refine OP.indexAddr (j := i) rfl rfl rfl rfl i4 ?_ | refine OP.indexArr (j := 0) rfl rfl rfl rfl (by decide) ?_ | refine OP.indexArr (j := 1) rfl rfl rfl rfl (by decide) ?_ | refine OP.load rfl rfl (Sees.old0 hc0) ?_ | refine OP.load rfl rfl (Sees.old0 hc1) ?_ | (refine OP.store0 (vs := [.complex .f64 (w11' v.1) (w11' v.2)]) rfl rfl rfl rfl sz ?_; rw [st]) | refine OP.stI rfl rfl inferInstance rfl ?_ | refine OP.stB rfl rfl inferInstance rfl ?_ | refine OP.stC rfl rfl inferInstance rfl ?_ | refine OP.stF rfl rfl inferInstance rfl ?_ | refine OP.stS rfl rfl inferInstance rfl ?_ | refine OP.stP rfl rfl inferInstance rfl ?_ | refine OP.stM rfl rfl inferInstance rfl ?_ | refine OP.stU rfl rfl inferInstance rfl ?_ | refine OP.st (vs := [_]) rfl rfl inferInstance rfl rfl rfl ?_ | refine OP.st (vs := [_, _]) rfl rfl inferInstance rfl rfl rfl ?_ | refine OP.st (vs := [_, _, _]) rfl rfl inferInstance rfl rfl rfl ?_)
        refine next.mk (_ :: []) rfl ?_
        refine WH.done (by kernel_rfl) ?_
        rotate_left
        all_goals repeat' (first | refine Fin.tail ?_ | refine Fin.then_normal ?_ | refine Fin.then_exit ?_ | refine Fin.then_ret ?_ | refine Fin.block_normal ?_ | refine Fin.block_ret ?_ | refine Fin.block_hit ?_ | refine Fin.block_miss rfl ?_ | refine Fin.loop_exit ?_ | refine Fin.loop_ret ?_ | refine WP.seq ?_ | (refine WP.regionQ (by kernel_rfl) (by kernel_rfl) ?_) | refine WP.block ?_ | refine WP.region ?_ | refine WP.skip ?_ | refine WP.exit ?_ | refine WP.ret ?_ | refine WP.label ?_ | refine WP.cond_true rfl ?_ | refine WP.cond_false rfl ?_ | (refine WP.cond_dec rfl (fun h => ?_) (fun h => ?_) <;> (try (exfalso; omega))) | (refine WP.cond_bool rfl (fun h => ?_) (fun h => ?_)) | refine WL.nil ?_ | refine WL.cons ?_ | (show OP _ _ _ _ _ _ _ ⟨_, _, _, _, _, some _⟩ _ _; first | refine OP.guard_yes rfl rfl ?_ | refine OP.guard_no rfl rfl rfl rfl ?_ | refine OP.guard_un rfl rfl rfl ?_ | refine OP.guard_no0 rfl rfl rfl ?_ | (refine OP.guard_dec rfl rfl (fun h => ?_) (fun h => ?_) <;> (try (exfalso; omega))) | refine OP.guard_bool rfl rfl (fun h => ?_) (fun h => ?_)) | (show OP _ _ _ _ _ _ _ ⟨_, .move _, _, _, _, none⟩ _ _; first | refine OP.mI rfl rfl ?_ | refine OP.mB rfl rfl ?_ | refine OP.mC rfl rfl ?_ | refine OP.mF rfl rfl ?_ | refine OP.mS rfl rfl ?_ | refine OP.mP rfl rfl ?_ | refine OP.mA rfl rfl ?_ | refine OP.mT rfl rfl ?_ | refine OP.mM rfl rfl ?_ | refine OP.mU rfl rfl ?_ | refine OP.move rfl rfl ?_) | (show OP _ _ _ _ _ _ _ ⟨_, .assign _, _, _, _, none⟩ _ _; first | refine OP.aI rfl rfl ?_ | refine OP.aB rfl rfl ?_ | refine OP.aC rfl rfl ?_ | refine OP.aF rfl rfl ?_ | refine OP.aS rfl rfl ?_ | refine OP.aP rfl rfl ?_ | refine OP.aA rfl rfl ?_ | refine OP.aT rfl rfl ?_ | refine OP.aM rfl rfl ?_ | refine OP.aU rfl rfl ?_ | refine OP.assign rfl rfl ?_) | (show OP _ _ _ _ _ _ _ ⟨_, .call _, _, _, _, none⟩ _ _; first | refine OP.len rfl rfl rfl ?_ | refine OP.complex rfl rfl rfl ?_) | (show OP _ _ _ _ _ _ _ ⟨_, .binOp _ _ _ _ _, _, _, _, none⟩ _ _; first | (refine OP.add rfl rfl rfl ?_ ?_ ?_; omega; omega) | refine OP.lss rfl rfl rfl ?_ | refine OP.leq rfl rfl rfl ?_ | (refine OP.mul rfl rfl rfl ?_ ?_ ?_; omega; omega)) | (refine OP.conv rfl rfl ?_ ?_ ?_; omega; omega) | (show OP _ _ _ _ _ _ _ ⟨_, .pick _ _ _, _, _, _, none⟩ _ _; first | refine OP.pick_true rfl rfl ?_ | refine OP.pick_false rfl rfl ?_) | refine OP.fieldAddr rfl rfl ?_ | (show OP _ _ _ _ _ _ _ ⟨_, .load _ _, _, _, _, none⟩ _ _; first | refine OP.ld rfl rfl inferInstance rfl ?_ | refine OP.load rfl rfl (Sees.old0 (by assumption)) ?_ | refine OP.ldA rfl rfl inferInstance rfl ?_) | (show OP _ _ _ _ _ _ _ ⟨_, .store _ _ _, _, _, _, none⟩ _ _; first | refine OP.stI rfl rfl inferInstance rfl ?_ | refine OP.stB rfl rfl inferInstance rfl ?_ | refine OP.stC rfl rfl inferInstance rfl ?_ | refine OP.stF rfl rfl inferInstance rfl ?_ | refine OP.stS rfl rfl inferInstance rfl ?_ | refine OP.stP rfl rfl inferInstance rfl ?_ | refine OP.stM rfl rfl inferInstance rfl ?_ | refine OP.stU rfl rfl inferInstance rfl ?_ | refine OP.st (vs := [_]) rfl rfl inferInstance rfl rfl rfl ?_ | refine OP.st (vs := [_, _]) rfl rfl inferInstance rfl rfl rfl ?_ | refine OP.st (vs := [_, _, _]) rfl rfl inferInstance rfl rfl rfl ?_) | refine OP.alI rfl (fun al => ?_) | refine OP.alA rfl (fun al => ?_) | refine OP.alloc rfl rfl (fun al => ?_) | refine OP.build rfl rfl ?_)
        all_goals refine Fin.loop_normal fun w' hst => ⟨i + 1, ⟨by omega, by omega⟩, by omega, by (repeat' (first | exact Agree.refl _ _ | refine Agree.upd rfl ?_ | refine Agree.hav rfl ?_)), ⟨rfl, trivial⟩, hst⟩
      · have hend : filC (whl xs (k + k)) i = whl xs (k + k) := by
          by_cases h0 : xs.length = 0
          · have hx : xs = [] := List.eq_nil_of_length_eq_zero h0
            subst hx
            have : i = 0 := by
              rcases Nat.eq_zero_or_pos i with h | h
              · exact h
              · have := i2 h; omega
            subst this
            rw [filC_zero, whl_len, whl_nil]
          · have : i = (whl xs (k + k)).length := by
              rcases k2 with hk | hk
              · subst hk
                rw [Nat.pow_zero] at hn
                subst hn
                omega
              · omega
            subst this
            exact filC_all _
        rw [hend]
        have hsq' : IntKind.i64.wrap ((n : Int) * (n : Int)) = (((whl xs (k + k)).length : Nat) : Int) := by rw [hwl]; exact hsq
        repeat' (first | refine Fin.tail ?_ | refine Fin.then_normal ?_ | refine Fin.then_exit ?_ | refine Fin.then_ret ?_ | refine Fin.block_normal ?_ | refine Fin.block_ret ?_ | refine Fin.block_hit ?_ | refine Fin.block_miss rfl ?_ | refine Fin.loop_exit ?_ | refine Fin.loop_ret ?_ | refine WP.seq ?_ | (refine WP.regionQ (by kernel_rfl) (by kernel_rfl) ?_) | refine WP.block ?_ | refine WP.region ?_ | refine WP.skip ?_ | refine WP.exit ?_ | refine WP.ret ?_ | refine WP.label ?_ | refine WP.cond_true rfl ?_ | refine WP.cond_false rfl ?_ | (refine WP.cond_dec rfl (fun h => ?_) (fun h => ?_) <;> (try (exfalso; omega))) | (refine WP.cond_bool rfl (fun h => ?_) (fun h => ?_)) | refine WL.nil ?_ | refine WL.cons ?_ | (show OP _ _ _ _ _ _ _ ⟨_, _, _, _, _, some _⟩ _ _; first | refine OP.guard_yes rfl rfl ?_ | refine OP.guard_no rfl rfl rfl rfl ?_ | refine OP.guard_un rfl rfl rfl ?_ | refine OP.guard_no0 rfl rfl rfl ?_ | (refine OP.guard_dec rfl rfl (fun h => ?_) (fun h => ?_) <;> (try (exfalso; omega))) | refine OP.guard_bool rfl rfl (fun h => ?_) (fun h => ?_)) | (show OP _ _ _ _ _ _ _ ⟨_, .move _, _, _, _, none⟩ _ _; first | refine OP.mI rfl rfl ?_ | refine OP.mB rfl rfl ?_ | refine OP.mC rfl rfl ?_ | refine OP.mF rfl rfl ?_ | refine OP.mS rfl rfl ?_ | refine OP.mP rfl rfl ?_ | refine OP.mA rfl rfl ?_ | refine OP.mT rfl rfl ?_ | refine OP.mM rfl rfl ?_ | refine OP.mU rfl rfl ?_ | refine OP.move rfl rfl ?_) | (show OP _ _ _ _ _ _ _ ⟨_, .assign _, _, _, _, none⟩ _ _; first | refine OP.aI rfl rfl ?_ | refine OP.aB rfl rfl ?_ | refine OP.aC rfl rfl ?_ | refine OP.aF rfl rfl ?_ | refine OP.aS rfl rfl ?_ | refine OP.aP rfl rfl ?_ | refine OP.aA rfl rfl ?_ | refine OP.aT rfl rfl ?_ | refine OP.aM rfl rfl ?_ | refine OP.aU rfl rfl ?_ | refine OP.assign rfl rfl ?_) | (show OP _ _ _ _ _ _ _ ⟨_, .call _, _, _, _, none⟩ _ _; first | refine OP.len rfl rfl rfl ?_ | refine OP.complex rfl rfl rfl ?_) | (show OP _ _ _ _ _ _ _ ⟨_, .binOp _ _ _ _ _, _, _, _, none⟩ _ _; first | refine OP.mulR hsq' rfl rfl rfl ?_ | (refine OP.add rfl rfl rfl ?_ ?_ ?_; omega; omega) | refine OP.lss rfl rfl rfl ?_ | refine OP.leq rfl rfl rfl ?_ | (refine OP.mul rfl rfl rfl ?_ ?_ ?_; omega; omega)) | (refine OP.conv rfl rfl ?_ ?_ ?_; omega; omega) | (show OP _ _ _ _ _ _ _ ⟨_, .pick _ _ _, _, _, _, none⟩ _ _; first | refine OP.pick_true rfl rfl ?_ | refine OP.pick_false rfl rfl ?_) | refine OP.fieldAddr rfl rfl ?_ | (show OP _ _ _ _ _ _ _ ⟨_, .load _ _, _, _, _, none⟩ _ _; first | refine OP.ld rfl rfl inferInstance rfl ?_ | refine OP.load rfl rfl (Sees.old0 (by assumption)) ?_ | refine OP.ldA rfl rfl inferInstance rfl ?_) | (show OP _ _ _ _ _ _ _ ⟨_, .store _ _ _, _, _, _, none⟩ _ _; first | refine OP.stI rfl rfl inferInstance rfl ?_ | refine OP.stB rfl rfl inferInstance rfl ?_ | refine OP.stC rfl rfl inferInstance rfl ?_ | refine OP.stF rfl rfl inferInstance rfl ?_ | refine OP.stS rfl rfl inferInstance rfl ?_ | refine OP.stP rfl rfl inferInstance rfl ?_ | refine OP.stM rfl rfl inferInstance rfl ?_ | refine OP.stU rfl rfl inferInstance rfl ?_ | refine OP.st (vs := [_]) rfl rfl inferInstance rfl rfl rfl ?_ | refine OP.st (vs := [_, _]) rfl rfl inferInstance rfl rfl rfl ?_ | refine OP.st (vs := [_, _, _]) rfl rfl inferInstance rfl rfl rfl ?_) | refine OP.alI rfl (fun al => ?_) | refine OP.alA rfl (fun al => ?_) | refine OP.alloc rfl rfl (fun al => ?_) | refine OP.build rfl rfl ?_)
        all_goals refine Fin.retA1 (h0 := .inl rfl) (Γ' := [(q, .cells (cxs (whl xs (k + k)) ++ []).toArray 28 (0, 0))]) rfl rfl (SeesN.own 2 (List.Mem.tail _ (List.Mem.tail _ (List.Mem.head _))) rfl) rfl (.cons_cons _ (List.nil_sublist _)) ?_
        all_goals exact ⟨k, q, k1, (by rw [hn, hnn, ← hwl]; rfl), rfl⟩)
/-! rows and columns exchanged -/
def acrTo (N : Nat) (c : List Cx) : Nat → List Cx
  | 0 => List.replicate (N * N) (0, 0)
  | i + 1 => (acrTo N c i).set (rowP N (i % N) (i / N)) (c.getD i (0, 0))
theorem acrTo_len (N : Nat) (c : List Cx) : ∀ i, (acrTo N c i).length = N * N
  | 0 => by simp [acrTo]
  | i + 1 => by unfold acrTo; rw [List.length_set, acrTo_len N c i]
theorem acrTo_get {N : Nat} {c : List Cx} (hc : c.length = N * N) : ∀ {k : Nat}, k ≤ N * N → ∀ y x, y < N → x < N → rowP N y x < k → (acrTo N c k)[rowP N x y]? = some (c.getD (rowP N y x) (0, 0))
  | 0, _, y, x, _, _, h => absurd h (by omega)
  | k + 1, hk, y, x, hy, hx, h => by
    have hN : 0 < N := by omega
    have hdm := Nat.div_add_mod k N
    have hq : k / N < N := Nat.div_lt_of_lt_mul (by omega)
    have hr : k % N < N := Nat.mod_lt _ hN
    have hk' : rowP N (k / N) (k % N) = k := by unfold rowP; rw [Nat.mul_one, Nat.mul_comm]; exact hdm
    unfold acrTo
    by_cases he : rowP N y x = k
    · have := (row_lay N).inj y x (k / N) (k % N) hy hx hq hr (by rw [he, hk'])
      obtain ⟨rfl, rfl⟩ := this
      rw [List.getElem?_set_self (by rw [acrTo_len]; exact (row_lay N).lt _ _ hr hq), he]
    · rw [List.getElem?_set_ne (fun e => by
        have := (row_lay N).inj _ _ _ _ hr hq hx hy e
        rw [← this.1, ← this.2, hk'] at he
        exact he rfl)]
      exact acrTo_get hc (by omega) y x hy hx (by omega)
end Go.Proofs.YthecbhegjdcjfaaDoor
end
