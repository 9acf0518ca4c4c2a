/- The law DirCells: what the lines hold, in plain words. -/
import Derived.Test.YtabnokfanhaihaaDirN
set_option linter.unusedVariables false
namespace Go.Proofs.Ytabnokfanhaihaa
open Go.Pen

theorem idx_same {n p q x y x' y' : Int} (h : idx n p q x y = idx n p q x' y') : (x - x') * q = (y - y') * p := by
  rw [Int.mul_comm _ q, Int.mul_comm _ p]
  unfold idx at h
  split at h
  · simp only [Int.mul_sub] at h ⊢; omega
  · simp only [Int.mul_sub]; omega
theorem idx_step (n p q x y : Int) : idx n p q (x + p) (y + q) = idx n p q x y := by
  have hc : p * q = q * p := Int.mul_comm _ _
  unfold idx
  split
  · simp only [Int.mul_add, Int.mul_sub]; omega
  · simp only [Int.mul_add]; omega
theorem idx_bd {n p q x y : Int} (hd : isDir p q = true) (x1 : 0 ≤ x) (x2 : x < n) (y1 : 0 ≤ y) (y2 : y < n) : 0 ≤ idx n p q x y ∧ idx n p q x y < binsN n p q := by
  have b := isDir_bd hd
  have a1 : 0 ≤ q * x := Int.mul_nonneg (by omega) x1
  have a2 : q * x ≤ q * (n - 1) := Int.mul_le_mul_of_nonneg_left (by omega) (by omega)
  have e : (n - 1) * ((p.natAbs : Int) + q) = (p.natAbs : Int) * (n - 1) + q * (n - 1) := by rw [Int.mul_add, Int.mul_comm, Int.mul_comm _ q]
  unfold idx binsN
  rw [e]
  split
  · rename_i hp
    have a3 : 0 ≤ p * (n - 1 - y) := Int.mul_nonneg (by omega) (by omega)
    have a4 : p * (n - 1 - y) ≤ p * (n - 1) := Int.mul_le_mul_of_nonneg_left (by omega) (by omega)
    have : (p.natAbs : Int) = p := by omega
    rw [this]; omega
  · rename_i hp
    have h' : (p.natAbs : Int) = -p := by omega
    have a3 : 0 ≤ (p.natAbs : Int) * y := Int.mul_nonneg (by omega) y1
    have a4 : (p.natAbs : Int) * y ≤ (p.natAbs : Int) * (n - 1) := Int.mul_le_mul_of_nonneg_left (by omega) (by omega)
    have a5 : (p.natAbs : Int) * y = -(p * y) := by rw [h', Int.neg_mul]
    omega

theorem rowC_mem {n p q i : Int} {y : Nat} {c : Int × Int} (hd : isDir p q = true) (n1 : 1 ≤ n) : c ∈ rowC n p q i y ↔ (0 ≤ c.1 ∧ c.1 < n ∧ c.2 = y ∧ idx n p q c.1 c.2 = i) := by
  have b := isDir_bd hd
  have hx : ∀ x : Int, idx n p q x y = idx n p q 0 y + q * x := fun x => by unfold idx; split <;> omega
  unfold rowC
  split
  · rename_i hq
    subst hq
    split
    · rename_i h
      rw [List.mem_map]
      constructor
      · rintro ⟨x, hx1, rfl⟩
        have := List.mem_range.1 hx1
        refine ⟨by dsimp only; omega, by dsimp only; omega, rfl, ?_⟩
        dsimp only; rw [hx]; omega
      · rintro ⟨h1, h2, h3, h4⟩
        exact ⟨c.1.toNat, List.mem_range.2 (by omega), Prod.ext (by dsimp only; omega) h3.symm⟩
    · rename_i h
      constructor
      · intro h; cases h
      · rintro ⟨h1, h2, h3, h4⟩; rw [h3, hx] at h4; omega
  · rename_i hq
    have hmod : ∀ x : Int, i - idx n p q 0 y = q * x → (i - idx n p q 0 y) / q = x ∧ (i - idx n p q 0 y) % q = 0 := fun x e => by
      rw [e]; exact ⟨Int.mul_ediv_cancel_left _ hq, Int.mul_emod_right _ _⟩
    split
    · rename_i h
      rw [List.mem_singleton]
      constructor
      · rintro rfl
        have e := Int.mul_ediv_add_emod (i - idx n p q 0 y) q
        refine ⟨Int.ediv_nonneg h.1 (by omega), h.2.2, rfl, ?_⟩
        dsimp only; rw [hx]; omega
      · rintro ⟨h1, h2, h3, h4⟩
        rw [h3, hx] at h4
        exact Prod.ext (hmod c.1 (by omega)).1.symm h3
    · rename_i h
      constructor
      · intro h; cases h
      · rintro ⟨h1, h2, h3, h4⟩
        rw [h3, hx] at h4
        obtain ⟨e1, e2⟩ := hmod c.1 (by omega)
        exact absurd ⟨by have := Int.mul_nonneg (show 0 ≤ q by omega) h1; omega, e2, by omega⟩ h
theorem rowC_nodup (n p q i : Int) (y : Nat) : (rowC n p q i y).Nodup := by
  unfold rowC
  split
  · split
    · refine List.Pairwise.map _ (fun a b hab he => ?_) List.nodup_range
      exact hab (by have := congrArg Prod.fst he; dsimp only at this; omega)
    · exact List.nodup_nil
  · split
    · exact List.nodup_cons.2 ⟨by simp, List.nodup_nil⟩
    · exact List.nodup_nil
theorem lnY_mem {n p q i : Int} (hd : isDir p q = true) (n1 : 1 ≤ n) {c : Int × Int} : ∀ {y : Nat}, c ∈ lnY n p q i y ↔ (0 ≤ c.1 ∧ c.1 < n ∧ 0 ≤ c.2 ∧ c.2 < y ∧ idx n p q c.1 c.2 = i)
  | 0 => ⟨fun h => (by cases h), fun ⟨_, _, h1, h2, _⟩ => by omega⟩
  | y + 1 => by
    show c ∈ _ ++ _ ↔ _
    rw [List.mem_append, lnY_mem hd n1, rowC_mem hd n1]
    constructor
    · rintro (⟨h1, h2, h3, h4, h5⟩ | ⟨h1, h2, h3, h4⟩)
      · exact ⟨h1, h2, h3, by omega, h5⟩
      · exact ⟨h1, h2, by omega, by omega, h4⟩
    · rintro ⟨h1, h2, h3, h4, h5⟩
      by_cases h : c.2 < y
      · exact .inl ⟨h1, h2, h3, h, h5⟩
      · exact .inr ⟨h1, h2, by omega, h5⟩
theorem lnY_nodup {n p q i : Int} (hd : isDir p q = true) (n1 : 1 ≤ n) : ∀ y : Nat, (lnY n p q i y).Nodup
  | 0 => List.nodup_nil
  | y + 1 => by
    show List.Nodup (_ ++ _)
    rw [List.nodup_append]
    refine ⟨lnY_nodup hd n1 y, rowC_nodup _ _ _ _ _, fun a ha b hb e => ?_⟩
    subst e
    have h1 := (lnY_mem hd n1).1 ha
    have h2 := (rowC_mem hd n1).1 hb
    omega
/-- All cells of the lines ahead of line i. -/
def cellsTo (n p q : Int) : Nat → List (Int × Int)
  | 0 => []
  | i + 1 => cellsTo n p q i ++ lnY n p q i n.toNat
theorem cellsTo_mem {n p q : Int} (hd : isDir p q = true) (n1 : 1 ≤ n) {c : Int × Int} : ∀ {i : Nat}, c ∈ cellsTo n p q i ↔ (0 ≤ c.1 ∧ c.1 < n ∧ 0 ≤ c.2 ∧ c.2 < n ∧ 0 ≤ idx n p q c.1 c.2 ∧ idx n p q c.1 c.2 < i)
  | 0 => ⟨fun h => (by cases h), fun ⟨_, _, _, _, h1, h2⟩ => by omega⟩
  | i + 1 => by
    have e : (n.toNat : Int) = n := by omega
    show c ∈ _ ++ _ ↔ _
    rw [List.mem_append, cellsTo_mem hd n1, lnY_mem hd n1, e]
    constructor
    · rintro (⟨h1, h2, h3, h4, h5, h6⟩ | ⟨h1, h2, h3, h4, h5⟩)
      · exact ⟨h1, h2, h3, h4, h5, by omega⟩
      · exact ⟨h1, h2, h3, h4, by omega, by omega⟩
    · rintro ⟨h1, h2, h3, h4, h5, h6⟩
      by_cases h : idx n p q c.1 c.2 < i
      · exact .inl ⟨h1, h2, h3, h4, h5, h⟩
      · exact .inr ⟨h1, h2, h3, h4, by omega⟩
theorem cellsTo_nodup {n p q : Int} (hd : isDir p q = true) (n1 : 1 ≤ n) : ∀ i : Nat, (cellsTo n p q i).Nodup
  | 0 => List.nodup_nil
  | i + 1 => by
    show List.Nodup (_ ++ _)
    rw [List.nodup_append]
    refine ⟨cellsTo_nodup hd n1 i, lnY_nodup hd n1 _, fun a ha b hb e => ?_⟩
    subst e
    have h1 := (cellsTo_mem hd n1).1 ha
    have h2 := (lnY_mem hd n1).1 hb
    omega
theorem nodup_len {α : Type} [DecidableEq α] : ∀ {l l' : List α}, l.Nodup → (∀ a ∈ l, a ∈ l') → l.length ≤ l'.length
  | [], _, _, _ => Nat.zero_le _
  | a :: l, l', hn, hs => by
    rw [List.nodup_cons] at hn
    have ha := hs a List.mem_cons_self
    have ih := nodup_len (l := l) (l' := l'.erase a) hn.2 (fun b hb => (List.mem_erase_of_ne (by intro e; subst e; exact hn.1 hb)).2 (hs b (List.mem_cons_of_mem _ hb)))
    rw [List.length_erase_of_mem ha] at ih
    have := List.length_pos_of_mem ha
    simp only [List.length_cons]; omega
/-- The grid, row by row. -/
def grid (n : Nat) : Nat → List (Int × Int)
  | 0 => []
  | y + 1 => grid n y ++ rowX n y
theorem grid_len (n : Nat) : ∀ y, (grid n y).length = y * n
  | 0 => by simp [grid]
  | y + 1 => by simp only [grid, List.length_append, grid_len n y, rowX_len, Nat.succ_mul]
theorem grid_mem (n : Nat) {c : Int × Int} : ∀ {y : Nat}, c ∈ grid n y ↔ (0 ≤ c.1 ∧ c.1 < n ∧ 0 ≤ c.2 ∧ c.2 < y)
  | 0 => ⟨fun h => (by cases h), fun h => by omega⟩
  | y + 1 => by
    show c ∈ _ ++ _ ↔ _
    rw [List.mem_append, grid_mem n]
    unfold rowX
    rw [List.mem_map]
    constructor
    · rintro (h | ⟨x, hx, rfl⟩)
      · omega
      · have := List.mem_range.1 hx; dsimp only; omega
    · intro h
      by_cases hy : c.2 < y
      · exact .inl (by omega)
      · exact .inr ⟨c.1.toNat, List.mem_range.2 (by omega), Prod.ext (by dsimp only; omega) (by dsimp only; omega)⟩
theorem grid_nodup (n : Nat) : ∀ y, (grid n y).Nodup
  | 0 => List.nodup_nil
  | y + 1 => by
    show List.Nodup (_ ++ _)
    rw [List.nodup_append]
    refine ⟨grid_nodup n y, ?_, fun a ha b hb e => ?_⟩
    · refine List.Pairwise.map _ (fun a b hab he => ?_) List.nodup_range
      exact hab (by have := congrArg Prod.fst he; dsimp only at this; omega)
    · subst e
      have h1 := (grid_mem n).1 ha
      unfold rowX at hb
      rw [List.mem_map] at hb
      obtain ⟨x, _, rfl⟩ := hb
      dsimp only at h1; omega
theorem cells_all {n p q : Int} (hd : isDir p q = true) (n1 : 1 ≤ n) : ((cellsTo n p q (binsN n p q).toNat).length : Int) = n * n := by
  have e : (n.toNat : Int) = n := by omega
  have h1 : (cellsTo n p q (binsN n p q).toNat).length ≤ (grid n.toNat n.toNat).length := nodup_len (cellsTo_nodup hd n1 _) (fun c hc => by
    have := (cellsTo_mem hd n1).1 hc
    exact (grid_mem _).2 (by omega))
  have h2 : (grid n.toNat n.toNat).length ≤ (cellsTo n p q (binsN n p q).toNat).length := nodup_len (grid_nodup _ _) (fun c hc => by
    have h := (grid_mem _).1 hc
    have := idx_bd (n := n) hd h.1 (by omega) h.2.2.1 (by omega)
    exact (cellsTo_mem hd n1).2 (by omega))
  have h3 := grid_len n.toNat n.toNat
  have : (cellsTo n p q (binsN n p q).toNat).length = n.toNat * n.toNat := by omega
  rw [this, Int.natCast_mul, e]

/-- What the map holds when these cells are in. -/
def mp (n p q : Int) (l : List (Int × Int)) : Pairs := l.map fun c => (c, .int .i64 (idx n p q c.1 c.2 + 1))
theorem find_mp {n p q : Int} {c : Int × Int} : ∀ (l : List (Int × Int)) (j : Nat), (c ∈ l → ∃ k, find2 c j (mp n p q l) = some (k, .int .i64 (idx n p q c.1 c.2 + 1))) ∧ (¬ c ∈ l → find2 c j (mp n p q l) = none)
  | [], j => ⟨fun h => (by cases h), fun _ => rfl⟩
  | a :: l, j => by
    obtain ⟨h1, h2⟩ := find_mp (c := c) l (j + 1)
    show (_ → ∃ k, (if c = a then _ else _) = _) ∧ (_ → (if c = a then _ else _) = _)
    by_cases e : c = a
    · subst e; rw [if_pos rfl]; exact ⟨fun _ => ⟨j, rfl⟩, fun h => absurd List.mem_cons_self h⟩
    · rw [if_neg e]
      exact ⟨fun h => h1 ((List.mem_cons.1 h).resolve_left e), fun h => h2 fun h' => h (List.mem_cons_of_mem _ h')⟩
theorem look_in {n p q : Int} {c : Int × Int} {l : List (Int × Int)} (h : c ∈ l) : (match find2 c 0 (mp n p q l) with | some r => r.2 | none => Value.int .i64 0) = .int .i64 (idx n p q c.1 c.2 + 1) := by
  obtain ⟨k, e⟩ := (find_mp l 0).1 h; rw [e]
theorem look_out {n p q : Int} {c : Int × Int} {l : List (Int × Int)} (h : ¬ c ∈ l) : (match find2 c 0 (mp n p q l) with | some r => r.2 | none => Value.int .i64 0) = .int .i64 0 := by
  rw [(find_mp l 0).2 h]
theorem put_mp {n p q i : Int} {c : Int × Int} {l : List (Int × Int)} (h : ¬ c ∈ l) (hi : idx n p q c.1 c.2 = i) : put2 c (.int .i64 (i + 1)) (mp n p q l) = mp n p q (l ++ [c]) := by
  rw [find2_none ((find_mp l 0).2 h)]; simp [mp, hi]
theorem mp_len (n p q : Int) (l : List (Int × Int)) : (mp n p q l).length = l.length := by simp [mp]

/-- All that the walk wants of cell k of line i. -/
structure AtLine (n p q : Int) (i : Nat) (k : Nat) (c : Int × Int) : Prop where
  bx : 0 ≤ c.1 ∧ c.1 < n ∧ 0 ≤ c.2 ∧ c.2 < n
  ix : idx n p q c.1 c.2 = i
  new : ¬ c ∈ cellsTo n p q i ++ (lnY n p q i n.toNat).take k
theorem atLine {n p q : Int} (hd : isDir p q = true) (n1 : 1 ≤ n) {i k : Nat} {c : Int × Int} (h : (lnY n p q i n.toNat)[k]? = some c) : AtLine n p q i k c := by
  have e : (n.toNat : Int) = n := by omega
  have hm := (lnY_mem hd n1).1 (List.mem_of_getElem? h)
  refine ⟨by omega, hm.2.2.2.2, fun hc => ?_⟩
  rcases List.mem_append.1 hc with hc | hc
  · have := (cellsTo_mem hd n1).1 hc; omega
  · obtain ⟨j, hj⟩ := List.getElem?_of_mem hc
    have hjk : j < k := by
      have := (List.getElem?_eq_some_iff.1 hj).1
      simp at this; omega
    rw [List.getElem?_take_of_lt hjk] at hj
    have hnd := lnY_nodup (i := (i : Int)) hd n1 n.toNat
    rw [List.getElem?_eq_some_iff] at hj h
    obtain ⟨hj1, hj2⟩ := hj
    obtain ⟨hk1, hk2⟩ := h
    have := (List.getElem_inj hnd).1 (hj2.trans hk2.symm)
    omega
theorem atLine2 {n p q : Int} (hd : isDir p q = true) (n1 : 1 ≤ n) {i k : Nat} {c c' : Int × Int} (h : (lnY n p q i n.toNat)[k + 1]? = some c) (h' : (lnY n p q i n.toNat)[k]? = some c') :
    (c.1 - c'.1) * q = (c.2 - c'.2) * p ∧ ¬ (c.1 = c'.1 ∧ c.2 = c'.2) := by
  refine ⟨idx_same ((atLine hd n1 h).ix.trans (atLine hd n1 h').ix.symm), fun e => ?_⟩
  have hn := (atLine hd n1 h).new
  refine hn (List.mem_append_right _ ?_)
  have : c = c' := Prod.ext e.1 e.2
  rw [this]
  refine List.mem_of_getElem? (i := k) ?_
  rw [List.getElem?_take_of_lt (Nat.lt_succ_self k)]; exact h'
end Go.Proofs.Ytabnokfanhaihaa
