/- Layer 19: Run, walked. -/
import Derived.Test.YtghmkheoopakaaaBndR
import Derived.Test.YtghmkheoopakaaaBndK
set_option linter.unusedVariables false
set_option maxRecDepth 100000
namespace Go.Proofs.Ytghmkheoopakaaa
open Go.Pen

def ilist (f : Nat → Int) (n : Nat) : List Int := (List.range n).map f
theorem ilist_len (f : Nat → Int) (n : Nat) : (ilist f n).length = n := by simp [ilist]
theorem ilist_at {f : Nat → Int} {n i : Nat} (h : i < n) : (ilist f n).getD i 0 = f i := by simp [ilist, List.getD_eq_getElem?_getD, h]
theorem ints_vals (f : Nat → Int) (n : Nat) : ints f n = vals (ilist f n) := by simp [ints, vals, ilist]

/-- What Run answers: the bounds, the error. -/
def runV (n : Int) (N1 : Nat) (f : Nat → Int) (N2 : Nat) (g : Nat → Int) (pj : List Pj) : BX × Int :=
  if okL n N1 f = true ∧ okL n N2 g = true then (if allUpto (fun i => decide (f i ≤ g i)) N1 = true then swps (linesOf n pj) 512 ⟨ilist f N1, ilist g N2, false⟩ else (⟨[], [], false⟩, 111)) else (⟨[], [], false⟩, 1)

theorem okL_iff {n : Int} {m : Nat} {f : Nat → Int} : okL n m f = true ↔ (1 ≤ n ∧ n ≤ 16 ∧ (m : Int) = n * n) ∧ ∀ i, i < m → 0 ≤ f i ∧ f i ≤ 255 := by
  unfold okL
  rw [Bool.and_eq_true, decide_eq_true_iff, allUpto_iff]
  refine and_congr_right fun _ => ⟨fun h i hi => of_decide_eq_true (h i hi), fun h i hi => decide_eq_true (h i hi)⟩
theorem swps_err {ls : List (Int × List Nat)} : ∀ {k : Nat} {s : BX}, (swps ls k s).2 = 0 ∨ (swps ls k s).2 = 111 ∨ (swps ls k s).2 = 112
  | 0, s => .inr (.inr rfl)
  | k + 1, s => by
    unfold swps
    split
    · split
      · exact swps_err
      · exact .inl rfl
    · exact .inr (.inl rfl)
theorem swp_good {n : Nat} {ls : List (Int × List Nat)} {s : BX} (G : Good n s) (h : ∀ l ∈ ls, ∀ c ∈ l.2, c < n) (hs : (swp s ls).2 = true) : Good n (swp s ls).1 := swpL_good ls _ (G.ch false) h hs

theorem lines_bd {n : Int} (n1 : 1 ≤ n) (n2 : n ≤ 16) {d : Int × Int} (hd : isDir d.1 d.2 = true) {vs : List Nat} (hv : ∀ v ∈ vs, v ≤ 4294967296) {N : Nat} (hN : (N : Int) = n * n) :
    ∀ l ∈ linesP n d vs, (l.2.length ≤ 65536 ∧ -4294967296 ≤ l.1 ∧ l.1 ≤ 4294967296) ∧ ∀ c ∈ l.2, c < N := by
  intro l hl
  obtain ⟨j, hj, rfl⟩ := List.mem_map.1 hl
  have hj := List.mem_range.1 hj
  have hb := isDir_bd hd
  have hlen := lnY_len n d.1 d.2 (j : Int) n1 (by omega) n.toNat
  have hval : vs.getD j 0 ≤ 4294967296 := by
    rw [List.getD_eq_getElem?_getD, List.getElem?_eq_getElem hj]; exact hv _ (List.getElem_mem hj)
  refine ⟨⟨?_, ?_, ?_⟩, ?_⟩
  · unfold lineOf; rw [List.length_map]; omega
  · unfold lineOf; dsimp only; omega
  · unfold lineOf; dsimp only; omega
  · intro c hc
    unfold lineOf at hc
    obtain ⟨e, he, rfl⟩ := List.mem_map.1 hc
    have := place_bd (lnY_in hb.1 (by omega) e he)
    unfold place; omega
theorem linesOf_bd {n : Int} (n1 : 1 ≤ n) (n2 : n ≤ 16) {N : Nat} (hN : (N : Int) = n * n) : ∀ {pj : List Pj}, (∀ d ∈ pj, isDir d.1.1 d.1.2 = true ∧ (d.2.length : Int) = binsN n d.1.1 d.1.2 ∧ ∀ v ∈ d.2, v ≤ 4294967296) →
    ∀ l ∈ linesOf n pj, (l.2.length ≤ 65536 ∧ -4294967296 ≤ l.1 ∧ l.1 ≤ 4294967296) ∧ ∀ c ∈ l.2, c < N
  | [], _, l, hl => by cases hl
  | d :: pj, h, l, hl => by
    obtain ⟨h1, h2, h3⟩ := h d List.mem_cons_self
    rcases List.mem_append.1 hl with hl | hl
    · exact lines_bd n1 n2 h1 h3 hN l hl
    · exact linesOf_bd n1 n2 hN (fun d hd => h d (List.mem_cons_of_mem _ hd)) l hl

theorem linesOf_len {n : Int} (n1 : 1 ≤ n) (n2 : n ≤ 16) : ∀ {pj : List Pj}, (∀ d ∈ pj, isDir d.1.1 d.1.2 = true ∧ (d.2.length : Int) = binsN n d.1.1 d.1.2 ∧ ∀ v ∈ d.2, v ≤ 4294967296) → (linesOf n pj).length ≤ 2017 * pj.length
  | [], _ => Nat.le_refl _
  | d :: pj, h => by
    obtain ⟨h1, h2, h3⟩ := h d List.mem_cons_self
    have := linesOf_len n1 n2 (fun d hd => h d (List.mem_cons_of_mem _ hd))
    have hb := binsN_bd n1 (by omega) h1
    simp only [linesOf, List.length_append, linesP_len, List.length_cons]; omega
/-- The lines as they lie behind drawn. -/
theorem LnIn.own {B w : World} {I : List Nat} {Γb : List (Nat × Obj)} {ls : List Ln} {lb N : Nat} {sp : List Value} (hst : St B I (Γb ++ (rowM ls.length lb (lnV ls) sp 70 ++ lnM ls)) w)
    (hb : ∀ l ∈ ls.map lnS, (l.2.length ≤ 65536 ∧ -4294967296 ≤ l.1 ∧ l.1 ≤ 4294967296) ∧ ∀ c ∈ l.2, c < N) : LnIn w (keys Γb) N lb (ls.map lnS) := by
  have hnd := hst.nodup
  rw [List.map_append, List.nodup_append] at hnd
  have apart : ∀ p ∈ rowM ls.length lb (lnV ls) sp 70 ++ lnM ls, p.1 ∉ keys Γb := fun p hp hk => hnd.2.2 _ hk _ (List.mem_map_of_mem hp) rfl
  have hrow : 0 < ls.length → (lb, Obj.cells (lnV ls ++ sp).toArray 70 (0, 0)) ∈ rowM ls.length lb (lnV ls) sp 70 ++ lnM ls := fun h => List.mem_append_left _ (rowM_mem h)
  refine ⟨fun i l hl => ?_, fun h => apart _ (hrow (by simpa using h)), fun l hl => (hb l hl).1⟩
  rw [List.getElem?_map] at hl
  cases hq : ls[i]? with
  | none => rw [hq] at hl; cases hl
  | some x =>
    rw [hq] at hl
    simp only [Option.map_some, Option.some.injEq] at hl
    subst hl
    have hi : i < ls.length := (List.getElem?_eq_some_iff.1 hq).1
    have hx : x ∈ ls := List.mem_of_getElem? hq
    have e1 := lnV_at hq
    have e2 := lnV_len ls
    obtain ⟨a, cc, ra, rb⟩ := rowV_is x.cs.length x.b x.cap
    have hblk := hst.has _ (List.mem_append_right Γb (hrow (by omega)))
    refine ⟨a, x.b, cc, cell_of hblk ?_, cell_of hblk ?_, fun h => ⟨rb h, ?_⟩, fun j c hj => ⟨?_, ?_⟩⟩
    · rw [List.getElem?_toArray, Nat.zero_add, List.getElem?_append_left (by omega)]; exact e1.1
    · rw [List.getElem?_toArray, Nat.zero_add, List.getElem?_append_left (by omega), e1.2, ra]; rfl
    · exact apart (x.b, _) (List.mem_append_right _ (lnM_mem hx _ (rowM_mem h)))
    · exact (hb (lnS x) (List.mem_map_of_mem hx)).2 c (List.mem_of_getElem? hj)
    · have hjl : j < x.cs.length := (List.getElem?_eq_some_iff.1 hj).1
      have hb2 := hst.has _ (List.mem_append_right Γb (List.mem_append_right _ (lnM_mem hx _ (rowM_mem (b := x.b) (xs := natV x.cs) (sp := x.sp) (e := 3) (by omega : 0 < x.cs.length)))))
      refine cell_of hb2 ?_
      rw [List.getElem?_toArray, Nat.zero_add, Nat.mul_one, List.getElem?_append_left (by rw [natV_len]; exact hjl)]
      exact natV_at hj
end Go.Proofs.Ytghmkheoopakaaa
