/- Layer 19: the lines of projections, in plain numbers and in memory. -/
import Derived.Test.YtghmkheoopakaaaBndS
set_option linter.unusedVariables false
namespace Go.Proofs.Ytghmkheoopakaaa
open Go.Pen

/-- The cells of a line lie in the grid. -/
theorem rowC_in {n p q i : Int} {y : Nat} (hq : 0 ≤ q) (hy : (y : Int) < n) : ∀ c ∈ rowC n p q i y, 0 ≤ c.1 ∧ c.1 < n ∧ 0 ≤ c.2 ∧ c.2 < n := by
  intro c hc
  unfold rowC at hc
  split at hc
  · split at hc
    · obtain ⟨x, hx, rfl⟩ := List.mem_map.1 hc
      have := List.mem_range.1 hx
      dsimp only; omega
    · cases hc
  · rename_i hq0
    split at hc
    · rename_i h
      have : c = _ := List.mem_singleton.1 hc
      subst this
      have : 0 ≤ (i - idx n p q 0 y) / q := Int.ediv_nonneg h.1 hq
      dsimp only; omega
    · cases hc
theorem lnY_in {n p q i : Int} (hq : 0 ≤ q) : ∀ {m : Nat}, (m : Int) ≤ n → ∀ c ∈ lnY n p q i m, 0 ≤ c.1 ∧ c.1 < n ∧ 0 ≤ c.2 ∧ c.2 < n
  | 0, _, c, hc => by cases hc
  | m + 1, h, c, hc => by
    rcases List.mem_append.1 hc with hc | hc
    · exact lnY_in hq (by omega) c hc
    · exact rowC_in hq (by omega) c hc

/-- A cell's place. -/
def place (n : Int) (c : Int × Int) : Nat := (c.2 * n + c.1).toNat
theorem place_bd {n : Int} {c : Int × Int} (h : 0 ≤ c.1 ∧ c.1 < n ∧ 0 ≤ c.2 ∧ c.2 < n) : 0 ≤ c.2 * n + c.1 ∧ c.2 * n + c.1 < n * n := by
  have h1 : 0 ≤ c.2 * n := Int.mul_nonneg h.2.2.1 (by omega)
  have h2 : c.2 * n ≤ (n - 1) * n := Int.mul_le_mul_of_nonneg_right (by omega) (by omega)
  rw [Int.sub_mul] at h2
  omega
theorem place_val {n : Int} {c : Int × Int} (h : 0 ≤ c.1 ∧ c.1 < n ∧ 0 ≤ c.2 ∧ c.2 < n) : ((place n c : Nat) : Int) = c.2 * n + c.1 := by
  have := place_bd h
  unfold place; omega

abbrev Pj : Type := (Int × Int) × List Nat
def lineOf (n : Int) (d : Int × Int) (j : Nat) (v : Nat) : Int × List Nat := ((v : Int), (lnY n d.1 d.2 j n.toNat).map (place n))
def linesP (n : Int) (d : Int × Int) (vs : List Nat) : List (Int × List Nat) := (List.range vs.length).map fun j => lineOf n d j (vs.getD j 0)
def linesOf (n : Int) : List Pj → List (Int × List Nat)
  | [] => []
  | x :: l => linesP n x.1 x.2 ++ linesOf n l
theorem linesOf_append (n : Int) : ∀ l l', linesOf n (l ++ l') = linesOf n l ++ linesOf n l'
  | [], l' => rfl
  | x :: l, l' => by simp [linesOf, linesOf_append n l l']
theorem linesOf_take {n : Int} {l : List Pj} {k : Nat} {x : Pj} (h : l[k]? = some x) : linesOf n (l.take (k + 1)) = linesOf n (l.take k) ++ linesP n x.1 x.2 := by
  rw [List.take_add_one, linesOf_append, h]; simp [linesOf]
theorem linesP_len (n : Int) (d : Int × Int) (vs : List Nat) : (linesP n d vs).length = vs.length := by simp [linesP]
theorem linesP_take {n : Int} {d : Int × Int} {vs : List Nat} {j v : Nat} (h : vs[j]? = some v) : (linesP n d vs).take (j + 1) = (linesP n d vs).take j ++ [lineOf n d j v] := by
  have hj : j < vs.length := (List.getElem?_eq_some_iff.1 h).1
  have e : vs.getD j 0 = v := by rw [List.getD_eq_getElem?_getD, h]; rfl
  rw [List.take_add_one]
  have e2 : vs[j] = v := (List.getElem?_eq_some_iff.1 h).2
  simp [linesP, hj, e2]

/-- A line in memory: its bin, its cells, their block. -/
structure Ln where
  bin : Int
  cs : List Nat
  b : Nat
  cap : Nat
  sp : List Value
def lnS (l : Ln) : Int × List Nat := (l.bin, l.cs)
def natV (l : List Nat) : List Value := l.map fun (x : Nat) => Value.int .i64 (x : Int)
def lnV : List Ln → List Value
  | [] => []
  | l :: ls => .int .i64 l.bin :: rowV l.cs.length l.b l.cap :: lnV ls
def lnM : List Ln → List (Nat × Obj)
  | [] => []
  | l :: ls => rowM l.cs.length l.b (natV l.cs) l.sp 3 ++ lnM ls
theorem lnV_append : ∀ l l', lnV (l ++ l') = lnV l ++ lnV l'
  | [], _ => rfl
  | x :: l, l' => by simp [lnV, lnV_append l l']
theorem lnM_append : ∀ l l', lnM (l ++ l') = lnM l ++ lnM l'
  | [], _ => rfl
  | x :: l, l' => by simp [lnM, lnM_append l l']
theorem lnV_len : ∀ l, (lnV l).length = l.length * 2
  | [] => rfl
  | x :: l => by simp [lnV, lnV_len l]; omega
theorem lnV_at : ∀ {ls : List Ln} {i : Nat} {l : Ln}, ls[i]? = some l → (lnV ls)[i * 2]? = some (.int .i64 l.bin) ∧ (lnV ls)[i * 2 + 1]? = some (rowV l.cs.length l.b l.cap)
  | [], i, l, h => by simp at h
  | x :: ls, 0, l, h => by simp at h; subst h; exact ⟨rfl, rfl⟩
  | x :: ls, i + 1, l, h => by
    have := lnV_at (ls := ls) (i := i) (l := l) (by simpa using h)
    have e1 : (i + 1) * 2 = i * 2 + 1 + 1 := by omega
    have e2 : (i + 1) * 2 + 1 = i * 2 + 1 + 1 + 1 := by omega
    rw [e2, e1]
    simp only [lnV, List.getElem?_cons_succ]; exact this
theorem natV_len (l : List Nat) : (natV l).length = l.length := by simp [natV]
theorem natV_append (l l' : List Nat) : natV (l ++ l') = natV l ++ natV l' := by simp [natV]
theorem natV_at {l : List Nat} {j c : Nat} (h : l[j]? = some c) : (natV l)[j]? = some (.int .i64 (c : Int)) := by simp [natV, h]

theorem flatL_own {l : List (Int × Int)} {sp : List Value} {k : Nat} {c : Int × Int} (h : l[k]? = some c) : (flatL l ++ sp).toArray[0 + k * 2]? = some (.int .i64 c.1) ∧ (flatL l ++ sp).toArray[0 + k * 2 + 1]? = some (.int .i64 c.2) := by
  have hk : k < l.length := (List.getElem?_eq_some_iff.1 h).1
  have g := flatL_at h
  have e := flatL_length l
  constructor
  · rw [List.getElem?_toArray, Nat.zero_add, List.getElem?_append_left (by omega)]; exact g.1
  · rw [List.getElem?_toArray, Nat.zero_add, List.getElem?_append_left (by omega)]; exact g.2
theorem perm_row {α : Type} (A X Y R L : List α) (p : α) : (A ++ (X ++ (Y ++ (p :: (R ++ L))))).Perm (A ++ (R ++ (X ++ (Y ++ (p :: L))))) := by
  classical
  rw [List.perm_iff_count]
  intro x
  simp only [List.count_append, List.count_cons]
  omega
theorem perm_round {α : Type} (R X Y L : List α) (a p : α) : ([a] ++ (R ++ (X ++ (Y ++ (p :: L))))).Perm (([p] ++ (R ++ (L ++ (X ++ [])))) ++ (a :: Y)) := by
  classical
  rw [List.perm_iff_count]
  intro x
  simp only [List.count_append, List.count_cons, List.count_nil]
  omega
theorem rowM_mem {len b : Nat} {xs sp : List Value} {e : TypeId} (h : 0 < len) : (b, Obj.cells (xs ++ sp).toArray e (0, 0)) ∈ rowM len b xs sp e := by
  cases len with
  | zero => omega
  | succ m => exact List.Mem.head _
theorem rowV_pos {len b cap : Nat} (h : 0 < len) : rowV len b cap = .slice (some ⟨b, 0, none⟩) len cap := by
  cases len with
  | zero => omega
  | succ m => rfl
theorem rowV_one (len b cap : Nat) : (rowV len b cap).oneCell' = true := by cases len <;> rfl
theorem rowV_is (len b cap : Nat) : ∃ a c, rowV len b cap = .slice a len c ∧ (0 < len → a = some ⟨b, 0, none⟩) := by
  cases len with
  | zero => exact ⟨none, 0, rfl, fun h => by omega⟩
  | succ m => exact ⟨_, _, rfl, fun _ => rfl⟩
theorem lnM_mem : ∀ {ls : List Ln} {l : Ln}, l ∈ ls → ∀ p ∈ rowM l.cs.length l.b (natV l.cs) l.sp 3, p ∈ lnM ls
  | x :: ls, l, h, p, hp => by
    rcases List.mem_cons.1 h with rfl | h
    · exact List.mem_append_left _ hp
    · exact List.mem_append_right _ (lnM_mem h p hp)
end Go.Proofs.Ytghmkheoopakaaa
