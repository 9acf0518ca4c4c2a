/- Layer 19: a cell's bounds drawn together, in plain numbers. -/
import Derived.Below
set_option linter.unusedVariables false
namespace Go.Proofs.Ytghmkheoopakaaa

/-- The bounds, and whether one has turned. -/
structure BX where
  lo : List Int
  hi : List Int
  ch : Bool
def lwr (s : BX) (c : Nat) (bin high : Int) : Int := bin - (high - s.hi.getD c 0)
def upr (s : BX) (c : Nat) (bin low : Int) : Int := bin - (low - s.lo.getD c 0)
def dlo (s : BX) (c : Nat) (bin high : Int) : Int := if s.lo.getD c 0 < lwr s c bin high then lwr s c bin high else s.lo.getD c 0
def dhi (s : BX) (c : Nat) (bin low : Int) : Int := if upr s c bin low < s.hi.getD c 0 then upr s c bin low else s.hi.getD c 0
/-- A cell: the bounds behind it. -/
def drw (s : BX) (c : Nat) (bin low high : Int) : BX :=
  ⟨s.lo.set c (dlo s c bin high), s.hi.set c (dhi s c bin low), s.ch || decide (s.lo.getD c 0 < lwr s c bin high) || decide (upr s c bin low < s.hi.getD c 0)⟩
theorem set_self {l : List Int} {c : Nat} : l.set c (l.getD c 0) = l := by
  apply List.ext_getElem?
  intro i
  rw [List.getElem?_set]
  split
  · rename_i h; subst h
    split
    · rename_i hl; rw [List.getD_eq_getElem?_getD, List.getElem?_eq_getElem hl]; rfl
    · rename_i hl; rw [List.getElem?_eq_none (by omega)]
  · rfl
theorem getD_of {l : List Int} {c : Nat} (h : c < l.length) : l[c]? = some (l.getD c 0) := by
  rw [List.getD_eq_getElem?_getD, List.getElem?_eq_getElem h]; rfl
theorem getD_set {l : List Int} {c : Nat} (h : c < l.length) (v : Int) : (l.set c v).getD c 0 = v := by
  rw [List.getD_eq_getElem?_getD, List.getElem?_set_self h]; rfl

/-- The cells of a line, one after the other; false: a contradiction. -/
def thrL (bin : Int) : List Nat → BX → Int → Int → BX × Bool
  | [], s, _, _ => (s, true)
  | c :: l, s, low, high => if dlo s c bin high ≤ dhi s c bin low then thrL bin l (drw s c bin low high) (low + (dlo s c bin high - s.lo.getD c 0)) (high + (dhi s c bin low - s.hi.getD c 0)) else (drw s c bin low high, false)
def sumB (f : List Int) : List Nat → Int
  | [] => 0
  | c :: l => f.getD c 0 + sumB f l
def thr (s : BX) (l : Int × List Nat) : BX × Bool :=
  match thrL l.1 l.2 s (sumB s.lo l.2) (sumB s.hi l.2) with
  | (s', ok) => (s', ok && (decide (0 < l.2.length) || decide (l.1 = 0)))
/-- All lines; false: a contradiction. -/
def swpL : List (Int × List Nat) → BX → BX × Bool
  | [], s => (s, true)
  | l :: ls, s => if (thr s l).2 = true then swpL ls (thr s l).1 else ((thr s l).1, false)
def swp (s : BX) (ls : List (Int × List Nat)) : BX × Bool := swpL ls ⟨s.lo, s.hi, false⟩
/-- At most N sweeps: the bounds, or the error. -/
def swps (ls : List (Int × List Nat)) : Nat → BX → BX × Int
  | 0, s => (s, 112)
  | N + 1, s => if (swp s ls).2 = true then (if (swp s ls).1.ch = true then swps ls N (swp s ls).1 else ((swp s ls).1, 0)) else ((swp s ls).1, 111)

theorem thrL_step {bin : Int} {cells : List Nat} {k c : Nat} (h : cells[k]? = some c) (s : BX) (low high : Int) :
    thrL bin (cells.drop k) s low high = if dlo s c bin high ≤ dhi s c bin low then thrL bin (cells.drop (k + 1)) (drw s c bin low high) (low + (dlo s c bin high - s.lo.getD c 0)) (high + (dhi s c bin low - s.hi.getD c 0)) else (drw s c bin low high, false) := by
  have hk : k < cells.length := (List.getElem?_eq_some_iff.1 h).1
  have e : cells[k] = c := (List.getElem?_eq_some_iff.1 h).2
  rw [List.drop_eq_getElem_cons hk, e]; rfl
theorem thr_of {s s' : BX} {l : Int × List Nat} {ok : Bool} (h : thrL l.1 l.2 s (sumB s.lo l.2) (sumB s.hi l.2) = (s', ok)) : thr s l = (s', ok && (decide (0 < l.2.length) || decide (l.1 = 0))) := by
  unfold thr; rw [h]

/-- Levels, the lower below the upper. -/
structure Good (n : Nat) (s : BX) : Prop where
  l1 : s.lo.length = n
  l2 : s.hi.length = n
  bd : ∀ c, c < n → 0 ≤ s.lo.getD c 0 ∧ s.lo.getD c 0 ≤ s.hi.getD c 0 ∧ s.hi.getD c 0 ≤ 255
theorem getD_set_ne {l : List Int} {c d : Nat} (h : c ≠ d) (v : Int) : (l.set c v).getD d 0 = l.getD d 0 := by
  simp only [List.getD_eq_getElem?_getD, List.getElem?_set_ne h]
theorem dlo_ge (s : BX) (c : Nat) (bin high : Int) : s.lo.getD c 0 ≤ dlo s c bin high := by unfold dlo; split <;> omega
theorem dhi_le (s : BX) (c : Nat) (bin low : Int) : dhi s c bin low ≤ s.hi.getD c 0 := by unfold dhi; split <;> omega
theorem Good.drw {n : Nat} {s : BX} (G : Good n s) {c : Nat} (hc : c < n) {bin low high : Int} (h : dlo s c bin high ≤ dhi s c bin low) : Good n (drw s c bin low high) where
  l1 := by unfold Go.Proofs.Ytghmkheoopakaaa.drw; simp [G.l1]
  l2 := by unfold Go.Proofs.Ytghmkheoopakaaa.drw; simp [G.l2]
  bd := fun d hd => by
    have g := G.bd c hc
    have a := dlo_ge s c bin high
    have b := dhi_le s c bin low
    unfold Go.Proofs.Ytghmkheoopakaaa.drw
    by_cases e : c = d
    · subst e
      simp only
      rw [getD_set (by rw [G.l1]; exact hc), getD_set (by rw [G.l2]; exact hc)]
      omega
    · simp only
      rw [getD_set_ne e, getD_set_ne e]; exact G.bd d hd
theorem thrL_good {n : Nat} {bin : Int} : ∀ (l : List Nat) (s : BX) (low high : Int), Good n s → (∀ c ∈ l, c < n) → (thrL bin l s low high).2 = true → Good n (thrL bin l s low high).1
  | [], s, _, _, G, _, _ => G
  | c :: l, s, low, high, G, hl, h => by
    unfold thrL at h ⊢
    split
    · rename_i hd
      rw [if_pos hd] at h
      exact thrL_good l _ _ _ (G.drw (hl c List.mem_cons_self) hd) (fun d hd => hl d (List.mem_cons_of_mem _ hd)) h
    · rename_i hd
      rw [if_neg hd] at h; cases h
theorem thr_good {n : Nat} {s : BX} {l : Int × List Nat} (G : Good n s) (hl : ∀ c ∈ l.2, c < n) (h : (thr s l).2 = true) : Good n (thr s l).1 := by
  unfold thr at h ⊢
  have g := thrL_good l.2 s (sumB s.lo l.2) (sumB s.hi l.2) G hl (bin := l.1)
  generalize thrL l.1 l.2 s (sumB s.lo l.2) (sumB s.hi l.2) = r at *
  obtain ⟨s', ok⟩ := r
  dsimp only at h g ⊢
  exact g (by cases ok <;> simp_all)
theorem swpL_step {ls : List (Int × List Nat)} {k : Nat} {l : Int × List Nat} (h : ls[k]? = some l) (s : BX) :
    swpL (ls.drop k) s = if (thr s l).2 = true then swpL (ls.drop (k + 1)) (thr s l).1 else ((thr s l).1, false) := by
  have hk : k < ls.length := (List.getElem?_eq_some_iff.1 h).1
  have e : ls[k] = l := (List.getElem?_eq_some_iff.1 h).2
  rw [List.drop_eq_getElem_cons hk, e]; rfl
theorem swpL_good {n : Nat} : ∀ (ls : List (Int × List Nat)) (s : BX), Good n s → (∀ l ∈ ls, ∀ c ∈ l.2, c < n) → (swpL ls s).2 = true → Good n (swpL ls s).1
  | [], s, G, _, _ => G
  | l :: ls, s, G, hl, h => by
    unfold swpL at h ⊢
    split
    · rename_i hd
      rw [if_pos hd] at h
      exact swpL_good ls _ (thr_good G (hl l List.mem_cons_self) hd) (fun d hd => hl d (List.mem_cons_of_mem _ hd)) h
    · rename_i hd
      rw [if_neg hd] at h; cases h
theorem Good.ch {n : Nat} {s : BX} (G : Good n s) (b : Bool) : Good n ⟨s.lo, s.hi, b⟩ := ⟨G.l1, G.l2, G.bd⟩
theorem sumB_append (f : List Int) : ∀ l l', sumB f (l ++ l') = sumB f l + sumB f l'
  | [], l' => by simp [sumB]
  | c :: l, l' => by simp [sumB, sumB_append f l l']; omega
theorem sumB_take (f : List Int) {l : List Nat} {k c : Nat} (h : l[k]? = some c) : sumB f (l.take (k + 1)) = sumB f (l.take k) + f.getD c 0 := by
  rw [List.take_add_one, sumB_append, h]; simp [sumB]
theorem sumB_bd {n : Nat} {s : BX} (G : Good n s) : ∀ l : List Nat, (∀ c ∈ l, c < n) → (0 ≤ sumB s.lo l ∧ sumB s.lo l ≤ 255 * l.length) ∧ (0 ≤ sumB s.hi l ∧ sumB s.hi l ≤ 255 * l.length)
  | [], _ => by simp [sumB]
  | c :: l, h => by
    have := sumB_bd G l (fun d hd => h d (List.mem_cons_of_mem _ hd))
    have g := G.bd c (h c List.mem_cons_self)
    simp only [sumB, List.length_cons]; omega
end Go.Proofs.Ytghmkheoopakaaa
