/- The law DirAll: the directions listed and sorted, in plain words. -/
import Derived.Test.YtabnokfanhaihaaDirO
set_option linter.unusedVariables false
namespace Go.Proofs.Ytabnokfanhaihaa
open Go.Pen

abbrev Dr := { c : Int × Int // isDir c.1 c.2 = true }
theorem dir10 : isDir 1 0 = true := by decide
instance : Inhabited Dr := ⟨⟨(1, 0), dir10⟩⟩
def ltD (a b : Int × Int) : Prop := cmpD a.1 a.2 b.1 b.2 < 0
theorem cmp_self {a b : Int} (h : isDir a b = true) : cmpD a b a b = 0 := ((cmp_order h h h).2.1).2 ⟨rfl, rfl⟩
theorem cmp_vals {a b c d : Int} (h : isDir a b = true) (h' : isDir c d = true) : cmpD a b c d = -1 ∨ cmpD a b c d = 0 ∨ cmpD a b c d = 1 := by
  rw [cmp_crs h h']; split
  · omega
  · split <;> omega
theorem ltD_trans {a b c : Int × Int} (ha : isDir a.1 a.2 = true) (hb : isDir b.1 b.2 = true) (hc : isDir c.1 c.2 = true) (h1 : ltD a b) (h2 : ltD b c) : ltD a c := by
  unfold ltD at *
  have := (cmp_order ha hb hc).2.2
  omega
theorem ltD_irrefl {a : Int × Int} (ha : isDir a.1 a.2 = true) : ¬ ltD a a := by unfold ltD; rw [cmp_self ha]; omega
theorem ltD_flip {a b : Int × Int} (ha : isDir a.1 a.2 = true) (hb : isDir b.1 b.2 = true) : cmpD b.1 b.2 a.1 a.2 = -cmpD a.1 a.2 b.1 b.2 := (cmp_order ha hb ha).1
theorem ltD_total {a b : Int × Int} (ha : isDir a.1 a.2 = true) (hb : isDir b.1 b.2 = true) (h1 : ¬ ltD a b) (h2 : ¬ ltD b a) : a = b := by
  unfold ltD at *
  rw [ltD_flip ha hb] at h2
  have := (cmp_order ha hb ha).2.1.1 (by omega)
  exact Prod.ext this.1 this.2

/-- A row of the list: p from -k on, m steps. -/
def rowQ (k q : Int) : Nat → List (Int × Int)
  | 0 => []
  | j + 1 => rowQ k q j ++ (if isDir (-k + (j : Int)) q = true then [(-k + (j : Int), q)] else [])
def allQ (k : Int) : Nat → List (Int × Int)
  | 0 => []
  | q + 1 => allQ k q ++ rowQ k q (2 * k + 1).toNat
/-- The list as dir.All makes it: (1, 0) ahead. -/
def lisD (k : Int) : Nat → List (Int × Int)
  | 0 => [(1, 0)]
  | q + 1 => lisD k q ++ (if q = 0 then [] else rowQ k q (2 * k + 1).toNat)
theorem rowQ_mem {k q : Int} {c : Int × Int} : ∀ {m : Nat}, c ∈ rowQ k q m ↔ (c.2 = q ∧ -k ≤ c.1 ∧ c.1 < -k + (m : Int) ∧ isDir c.1 c.2 = true)
  | 0 => ⟨fun h => (by cases h), fun ⟨_, h1, h2, _⟩ => by omega⟩
  | j + 1 => by
    show c ∈ _ ++ _ ↔ _
    rw [List.mem_append, rowQ_mem]
    constructor
    · rintro (⟨h1, h2, h3, h4⟩ | h)
      · exact ⟨h1, h2, by omega, h4⟩
      · split at h
        · rename_i hd
          rw [List.mem_singleton] at h; subst h
          exact ⟨rfl, by dsimp only; omega, by dsimp only; omega, hd⟩
        · cases h
    · rintro ⟨h1, h2, h3, h4⟩
      by_cases e : c.1 < -k + (j : Int)
      · exact .inl ⟨h1, h2, e, h4⟩
      · have e1 : c.1 = -k + (j : Int) := by omega
        have e2 : c = (-k + (j : Int), q) := Prod.ext e1 h1
        subst e2
        rw [if_pos h4]; exact .inr (List.mem_singleton.2 rfl)
theorem rowQ_nodup (k q : Int) : ∀ m, (rowQ k q m).Nodup
  | 0 => List.nodup_nil
  | j + 1 => by
    show List.Nodup (_ ++ _)
    rw [List.nodup_append]
    refine ⟨rowQ_nodup k q j, ?_, fun a ha b hb e => ?_⟩
    · split
      · exact List.nodup_cons.2 ⟨by simp, List.nodup_nil⟩
      · exact List.nodup_nil
    · subst e
      have h1 := rowQ_mem.1 ha
      split at hb
      · rw [List.mem_singleton] at hb; subst hb; dsimp only at h1; omega
      · cases hb
theorem rowQ_len (k q : Int) : ∀ m, (rowQ k q m).length ≤ m
  | 0 => Nat.le_refl _
  | j + 1 => by
    have := rowQ_len k q j
    simp only [rowQ, List.length_append]
    split <;> simp <;> omega
theorem rowQ_zero {k : Int} (h1 : 1 ≤ k) (h2 : k ≤ 16) : rowQ k 0 (2 * k + 1).toNat = [(1, 0)] := by
  have hm : ∀ c, c ∈ rowQ k 0 (2 * k + 1).toNat ↔ c = (1, 0) := fun c => by
    rw [rowQ_mem]
    constructor
    · rintro ⟨e, _, _, hd⟩
      have := ((isDir_iff _ _).1 hd).2.2.2.2 e
      exact Prod.ext this e
    · rintro rfl; exact ⟨rfl, by dsimp only; omega, by dsimp only; omega, dir10⟩
  have hn := rowQ_nodup k 0 (2 * k + 1).toNat
  generalize rowQ k 0 (2 * k + 1).toNat = l at hm hn
  match l with
  | [] => exact absurd ((hm (1, 0)).2 rfl) (by simp)
  | [a] => rw [(hm a).1 (by simp)]
  | a :: b :: r =>
    have e1 := (hm a).1 (by simp)
    have e2 := (hm b).1 (by simp)
    rw [e1, e2] at hn; simp at hn
theorem lisD_eq {k : Int} (h1 : 1 ≤ k) (h2 : k ≤ 16) : ∀ q : Nat, lisD k (q + 1) = allQ k (q + 1)
  | 0 => by
    show [(1, 0)] ++ _ = [] ++ rowQ k 0 _
    rw [rowQ_zero h1 h2]; rfl
  | q + 1 => by
    show lisD k (q + 1) ++ _ = allQ k (q + 1) ++ _
    rw [lisD_eq h1 h2 q, if_neg (by omega)]
theorem allQ_mem {k : Int} {c : Int × Int} : ∀ {q : Nat}, c ∈ allQ k q → (0 ≤ c.2 ∧ c.2 < q ∧ isDir c.1 c.2 = true)
  | 0, h => by cases h
  | q + 1, h => by
    rcases List.mem_append.1 h with h | h
    · have := allQ_mem h; exact ⟨this.1, by omega, this.2.2⟩
    · have := rowQ_mem.1 h; exact ⟨by omega, by omega, this.2.2.2⟩
theorem allQ_nodup (k : Int) : ∀ q : Nat, (allQ k q).Nodup
  | 0 => List.nodup_nil
  | q + 1 => by
    show List.Nodup (_ ++ _)
    rw [List.nodup_append]
    refine ⟨allQ_nodup k q, rowQ_nodup _ _ _, fun a ha b hb e => ?_⟩
    subst e
    have h1 := allQ_mem ha
    have h2 := rowQ_mem.1 hb
    omega
theorem allQ_len {k : Int} (h2 : k ≤ 16) : ∀ q : Nat, (allQ k q).length ≤ q * 33
  | 0 => Nat.le_refl _
  | q + 1 => by
    have := allQ_len h2 q
    have := rowQ_len k q (2 * k + 1).toNat
    simp only [allQ, List.length_append]; omega
theorem lisD_len {k : Int} (h2 : k ≤ 16) : ∀ q : Nat, (lisD k q).length ≤ 1 + q * 33
  | 0 => Nat.le_refl _
  | q + 1 => by
    have := lisD_len h2 q
    have := rowQ_len k q (2 * k + 1).toNat
    simp only [lisD, List.length_append]
    split <;> simp <;> omega
theorem lisD_dir {k : Int} {c : Int × Int} : ∀ {q : Nat}, c ∈ lisD k q → isDir c.1 c.2 = true
  | 0, h => by rw [List.mem_singleton.1 h]; exact dir10
  | q + 1, h => by
    rcases List.mem_append.1 h with h | h
    · exact lisD_dir h
    · split at h
      · cases h
      · exact (rowQ_mem.1 h).2.2.2

/-- The sorted list of all directions: what both calls return. -/
structure Srt (k : Int) (l : List (Int × Int)) : Prop where
  perm : l.Perm (allQ k (k.toNat + 1))
  sorted : l.Pairwise ltD
theorem Srt.dir {k : Int} {l : List (Int × Int)} (h : Srt k l) {c : Int × Int} (hc : c ∈ l) : isDir c.1 c.2 = true := (allQ_mem (h.perm.mem_iff.1 hc)).2.2
theorem Srt.uniq {k : Int} {l l' : List (Int × Int)} (h : Srt k l) (h' : Srt k l') : l = l' :=
  List.Perm.eq_of_pairwise (fun a b ha hb h1 h2 => absurd (ltD_trans (h.dir ha) (h'.dir hb) (h.dir ha) h1 h2) (ltD_irrefl (h.dir ha))) h.sorted h'.sorted (h.perm.trans h'.perm.symm)
theorem Srt.len {k : Int} {l : List (Int × Int)} (h : Srt k l) (h2 : k ≤ 16) : l.length ≤ 561 := by
  rw [h.perm.length_eq]
  have := allQ_len h2 (k.toNat + 1)
  omega
/-- Two neighbours. -/
theorem Srt.next {k : Int} {l : List (Int × Int)} (h : Srt k l) {i : Nat} {a b : Int × Int} (ha : l[i]? = some a) (hb : l[i + 1]? = some b) : cmpD a.1 a.2 b.1 b.2 = -1 ∧ cmpD b.1 b.2 a.1 a.2 = 1 := by
  have hda := h.dir (List.mem_of_getElem? ha)
  have hdb := h.dir (List.mem_of_getElem? hb)
  obtain ⟨h1, rfl⟩ := List.getElem?_eq_some_iff.1 ha
  obtain ⟨h2, rfl⟩ := List.getElem?_eq_some_iff.1 hb
  have hlt : ltD l[i] l[i + 1] := (List.pairwise_iff_getElem.1 h.sorted) i (i + 1) h1 h2 (Nat.lt_succ_self i)
  have := cmp_vals hda hdb
  rw [ltD_flip hda hdb]
  unfold ltD at hlt
  omega

/-! ## The insertion, from the end -/
/-- c stands at place i of what was l. -/
def ins (l : List (Int × Int)) (c : Int × Int) (i : Nat) : List (Int × Int) := l.take i ++ c :: l.drop i
theorem ins_len (l : List (Int × Int)) (c : Int × Int) (i : Nat) (h : i ≤ l.length) : (ins l c i).length = l.length + 1 := by
  simp [ins]; omega
theorem ins_end (l : List (Int × Int)) (c : Int × Int) : ins l c l.length = l ++ [c] := by simp [ins]
theorem ins_perm (l : List (Int × Int)) (c : Int × Int) (i : Nat) : (ins l c i).Perm (l ++ [c]) := by
  have h := (List.perm_middle (a := c) (l₁ := l.take i) (l₂ := l.drop i))
  rw [List.take_append_drop] at h
  exact h.trans (List.perm_append_singleton c l).symm
theorem ins_at {l : List (Int × Int)} {c : Int × Int} {i : Nat} (h : i ≤ l.length) : (ins l c i)[i]? = some c := by
  unfold ins
  rw [List.getElem?_append_right (by simp; omega)]
  simp [List.length_take, Nat.min_eq_left h]
theorem ins_before {l : List (Int × Int)} {c : Int × Int} {i : Nat} (h : i + 1 ≤ l.length) : (ins l c (i + 1))[i]? = l[i]? := by
  unfold ins
  rw [List.getElem?_append_left (by simp; omega), List.getElem?_take_of_lt (Nat.lt_succ_self i)]
theorem ins_swap {l : List (Int × Int)} {c a : Int × Int} {i : Nat} (h : l[i]? = some a) : ((ins l c (i + 1)).set (i + 1) a).set i c = ins l c i := by
  obtain ⟨hi, rfl⟩ := List.getElem?_eq_some_iff.1 h
  apply List.ext_getElem?
  intro j
  unfold ins
  have e : l.drop i = l[i] :: l.drop (i + 1) := List.drop_eq_getElem_cons hi
  rw [e]
  simp only [List.getElem?_set, List.length_set, List.length_append, List.length_take, List.length_cons, List.length_drop]
  rcases Nat.lt_trichotomy j i with hj | rfl | hj
  · rw [if_neg (by omega), if_neg (by omega), List.getElem?_append_left (by simp; omega), List.getElem?_append_left (by simp; omega), List.getElem?_take_of_lt (by omega), List.getElem?_take_of_lt hj]
  · rw [if_pos rfl, if_pos (by omega), List.getElem?_append_right (by simp; omega)]
    simp [Nat.min_eq_left (Nat.le_of_lt hi)]
  · rw [if_neg (by omega)]
    by_cases hj1 : j = i + 1
    · subst hj1
      rw [if_pos rfl, if_pos (by omega), List.getElem?_append_right (by simp; omega)]
      simp [Nat.min_eq_left (Nat.le_of_lt hi)]
    · rw [if_neg (by omega), List.getElem?_append_right (by simp; omega), List.getElem?_append_right (by simp; omega)]
      simp only [List.length_take, Nat.min_eq_left (Nat.le_of_lt hi), Nat.min_eq_left (show i + 1 ≤ l.length from hi)]
      obtain ⟨d, rfl⟩ : ∃ d, j = i + 2 + d := ⟨j - (i + 2), by omega⟩
      rw [show i + 2 + d - (i + 1) = d + 1 by omega, show i + 2 + d - i = d + 1 + 1 by omega]
      simp
      congr 1; omega
/-- It has come to its place. -/
theorem ins_sorted {l : List (Int × Int)} {c : Int × Int} {i : Nat} (hs : l.Pairwise ltD) (hd : ∀ a ∈ l, isDir a.1 a.2 = true) (hc : isDir c.1 c.2 = true) (hi : i ≤ l.length) (h1 : ∀ a ∈ l.drop i, ltD c a) (h2 : ∀ a ∈ l.take i, ltD a c) : (ins l c i).Pairwise ltD := by
  have hsplit : (l.take i ++ l.drop i).Pairwise ltD := by rw [List.take_append_drop]; exact hs
  rw [List.pairwise_append] at hsplit
  unfold ins
  rw [List.pairwise_append]
  refine ⟨hsplit.1, List.pairwise_cons.2 ⟨h1, hsplit.2.1⟩, fun a ha b hb => ?_⟩
  rcases List.mem_cons.1 hb with rfl | hb
  · exact h2 a ha
  · exact hsplit.2.2 a ha b hb
theorem before_all {l : List (Int × Int)} {c a : Int × Int} {i : Nat} (hs : l.Pairwise ltD) (hd : ∀ a ∈ l, isDir a.1 a.2 = true) (hc : isDir c.1 c.2 = true) (hn : ¬ c ∈ l) (h : l[i]? = some a) (hca : ¬ ltD c a) : ∀ b ∈ l.take (i + 1), ltD b c := by
  have ham := List.mem_of_getElem? h
  have hac : ltD a c := by
    by_cases hx : ltD a c
    · exact hx
    · exact absurd (ltD_total hc (hd a ham) hca hx ▸ ham) hn
  intro b hb
  obtain ⟨j, hj⟩ := List.getElem?_of_mem hb
  have hji : j < i + 1 := by
    have := (List.getElem?_eq_some_iff.1 hj).1
    simp at this; omega
  rw [List.getElem?_take_of_lt hji] at hj
  by_cases e : j = i
  · subst e; rw [h] at hj; cases hj; exact hac
  · have hbm := List.mem_of_getElem? hj
    obtain ⟨p1, rfl⟩ := List.getElem?_eq_some_iff.1 hj
    obtain ⟨p2, rfl⟩ := List.getElem?_eq_some_iff.1 h
    exact ltD_trans (hd _ hbm) (hd _ ham) hc ((List.pairwise_iff_getElem.1 hs) j i p1 p2 (by omega)) hac
theorem drop_step {l : List (Int × Int)} {c a : Int × Int} {i : Nat} (h : l[i]? = some a) (hca : ltD c a) (h1 : ∀ b ∈ l.drop (i + 1), ltD c b) : ∀ b ∈ l.drop i, ltD c b := by
  obtain ⟨hi, rfl⟩ := List.getElem?_eq_some_iff.1 h
  intro b hb
  rw [List.drop_eq_getElem_cons hi] at hb
  rcases List.mem_cons.1 hb with rfl | hb
  · exact hca
  · exact h1 b hb
end Go.Proofs.Ytabnokfanhaihaa
