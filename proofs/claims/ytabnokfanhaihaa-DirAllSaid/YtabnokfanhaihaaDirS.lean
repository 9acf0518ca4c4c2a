/- slices.SortFunc over the directions, by the kit's contract. -/
import Derived.Shelf.SlSortCmp.NoneTotal
import Derived.Shelf.Lay
import Derived.Ground.SlsfProg
import Derived.Test.YtabnokfanhaihaaDirA
import Derived.Test.YtabnokfanhaihaaDirN
set_option linter.unusedVariables false
set_option maxRecDepth 100000
namespace Go.Proofs.Ytabnokfanhaihaa
open Go.Pen Go.Shelf Go.RowKit Go.Lib Go.Sort

shelf_lay_g SlLaysF0.n6 Slsf 6 at Try 31 as sortDirs

/-- What a call leaves, as an equation on the world. -/
theorem exact_world {P : Program} {f : FuncId} {args : Array Value} {w : World} {R : Value → List (Nat × Obj) → Prop} (h : Does P f args [] w R) :
    Calls P f args w fun e w' => ∃ v Γ, e = .returned v ∧ R v Γ ∧ ∃ q os', w' = grow (w.drewN q) os' :=
  Calls.mono h.out fun e w' ⟨v, Γ, he, hR, hst⟩ => ⟨v, Γ, he, hR, w'.drawn - w.drawn, w'.heap.extract w.heap.size w'.heap.size, by
    have hh : w'.heap = w.heap ++ w'.heap.extract w.heap.size w'.heap.size := by
      apply Array.ext_getElem?
      intro k
      rw [Array.getElem?_append]
      split
      · rename_i hk; exact hst.keep k hk (by simp)
      · rename_i hk
        rw [Array.getElem?_extract]
        split
        · congr 1; omega
        · rw [Array.getElem?_eq_none (by omega)]
    have hd := hst.drawn
    have h1 := hst.os
    have h2 := hst.tape
    have h3 := hst.output
    cases w'
    cases w
    simp only [World.drewN, grow] at *
    subst h1 h2 h3
    congr 1
    omega⟩

def cfD (x y : Dr) : Int := cmpD x.1.1 x.1.2 y.1.1 y.1.2
def encD (x : Dr) : List Value := [.int .i64 x.1.1, .int .i64 x.1.2]
theorem lt_cf (x y : Dr) : ltOf cfD x y = true ↔ ltD x.1 y.1 := by unfold ltOf cfD ltD; simp
theorem swoD : SWO (ltOf cfD) where
  irrefl x := by rw [Bool.eq_false_iff]; intro h; exact ltD_irrefl x.2 ((lt_cf x x).1 h)
  trans x y z h1 h2 := (lt_cf x z).2 (ltD_trans x.2 y.2 z.2 ((lt_cf x y).1 h1) ((lt_cf y z).1 h2))
  ntrans x y z h1 h2 := by
    rw [Bool.eq_false_iff] at *
    intro h
    have h := (lt_cf x z).1 h
    by_cases e : ltD y.1 x.1
    · exact h2 ((lt_cf y z).2 (ltD_trans y.2 x.2 z.2 e h))
    · have := ltD_total x.2 y.2 (fun h' => h1 ((lt_cf x y).2 h')) e
      exact h2 ((lt_cf y z).2 (this ▸ h))
theorem cmpLaysD (blk off size : Nat) (w : World) : CmpLays Try.prog 18 #[] encD 2 cfD blk off size w := fun m os dk _ x y => by
  have bx := isDir_bd x.2
  have byy := isDir_bd y.2
  refine Calls.mono (exact_world (Cmp_fn x.1.1 x.1.2 y.1.1 y.1.2 (by omega) (by omega) (by omega) (by omega) (by omega) (by omega) (by omega) (by omega) _)) ?_
  rintro e w' ⟨v, Γ, rfl, ⟨rfl, _⟩, q, os', hw⟩
  exact ⟨rfl, q, os', hw⟩

theorem flatK_eq (d : Array Dr) : flatK encD 2 d = (flatL (d.toList.map (·.1))).toArray := by
  apply Array.ext
  · simp [flatL_length]
  · intro i h1 h2
    have hs : i < d.size * 2 := by simpa using h1
    have e : (flatK encD 2 d)[i] = (flatK encD 2 d)[i]! := (getElem!_pos _ i h1).symm
    rw [e, get_flatK encD 2 d i hs]
    have hq : i / 2 < d.size := by omega
    have hm : (d.toList.map (·.1))[i / 2]? = some (d[i / 2].1) := by simp [hq]
    obtain ⟨g1, g2⟩ := flatL_at hm
    rw [getElem!_pos d (i / 2) hq]
    obtain ⟨x, hx⟩ : ∃ x, d[i / 2] = x := ⟨_, rfl⟩
    rw [hx] at g1 g2 ⊢
    have : (flatL (d.toList.map (·.1))).toArray[i]? = some ((encD x)[i % 2]!) := by
      rcases (by omega : i % 2 = 0 ∨ i % 2 = 1) with h | h
      · rw [show i / 2 * 2 = i by omega] at g1
        rw [h, List.getElem?_toArray, g1]; rfl
      · rw [show i / 2 * 2 + 1 = i by omega] at g2
        rw [h, List.getElem?_toArray, g2]; rfl
    rw [Array.getElem?_eq_getElem h2] at this
    exact (Option.some.inj this).symm

theorem SortD_fn (blk cap : Nat) (l : List (Int × Int)) (sp : List Value) (T : TypeId) (hdir : ∀ c ∈ l, isDir c.1 c.2 = true) (hnd : l.Nodup) (hlen : l.length < 4611686018427387904) (w : World) (hw : w.heap[blk]? = some (.cells (flatL l ++ sp).toArray T (0, 0))) :
    Does Try.prog 31 #[.slice (some ⟨blk, 0, none⟩) l.length cap, .func (.func 18) #[] #[]] [blk] w fun v Γ => ∃ l', l'.Perm l ∧ l'.Pairwise ltD ∧ v = .tuple #[] ∧ Γ = [(blk, .cells (flatL l' ++ sp).toArray T (0, 0))] := by
  obtain ⟨dl, hdl⟩ : ∃ dl : List Dr, dl.map (·.1) = l := ⟨l.attach.map (fun c => ⟨c.1, hdir c.1 c.2⟩), by rw [List.map_map]; exact List.attach_map_subtype_val l⟩
  have hsz : dl.toArray.size = l.length := by rw [← hdl]; simp
  have hF : flatK encD 2 dl.toArray = (flatL l).toArray := by rw [flatK_eq]; simp [hdl]
  have hH : HoldsK encD 2 w blk 0 dl.toArray := by
    unfold HoldsK
    rw [hF]
    intro j hj
    have hj' : j < (flatL l).length := by simpa using hj
    refine ⟨?_, frozen_of hw⟩
    rw [Nat.zero_add]
    refine cell_of hw ?_
    rw [List.getElem?_toArray, List.getElem?_append_left hj', List.getElem?_eq_getElem hj', getElem!_pos _ j hj]
    simp
  have eg : ∀ args w, (callFunc 18 args).run Try.prog w = .ok (.enter 18 args) w := enters_of Try.func18 (by kernel_rfl) rfl
  have hcon := AnyQ.slices_SortFunc_total sortDirs 2 Try.isAgg30 Try.sizeOf30 encD (fun _ => rfl) (fun x v hv => by simp [encD] at hv; rcases hv with rfl | rfl <;> rfl) cfD swoD 18 #[] blk 0 cap dl.toArray w eg (cmpLaysD blk 0 _ w) hH (lt_of_some hw) (by omega)
    (fun x y h1 h2 => Subtype.ext (ltD_total x.2 y.2 (fun h => by rw [(lt_cf x y).2 h] at h1; cases h1) (fun h => by rw [(lt_cf y x).2 h] at h2; cases h2)))
  rw [hsz] at hcon
  refine ⟨Calls.mono hcon ?_⟩
  rintro e w' ⟨rfl, n, os, rfl⟩
  generalize hm : (dl.toArray.toList.mergeSort fun x y => !(ltOf cfD) y x) = ml
  have hperm : ml.Perm dl := by rw [← hm]; exact List.mergeSort_perm _ _
  have hlenm : (ml.map (·.1)).length = l.length := by rw [List.length_map, hperm.length_eq, ← hdl, List.length_map]
  have hFm : flatK encD 2 ml.toArray = (flatL (ml.map (·.1))).toArray := by rw [flatK_eq]
  have hb : (sortWorldK encD 2 w blk 0 n ml.toArray os).heap[blk]? = some (.cells (flatL (ml.map (·.1)) ++ sp).toArray T (0, 0)) := by
    have hlt := lt_of_some hw
    unfold sortWorldK putRowK putRow mapBlock
    rw [hFm]
    simp only [grow, heap_ahead]
    rw [Array.getElem?_append_left (by simpa using hlt), Array.getElem?_modify, if_pos rfl, hw]
    simp only [Option.map_some, onCells]
    congr 2
    apply Array.ext_getElem?
    intro i
    simp only [putCells, Array.getElem?_mapIdx, List.getElem?_toArray, Nat.sub_zero, Nat.zero_le, true_and, Nat.zero_add, List.size_toArray, id]
    by_cases hi : i < (flatL (ml.map (·.1))).length
    · have hi' : i < (flatL l).length := by rw [flatL_length] at *; omega
      rw [List.getElem?_append_left hi, List.getElem?_append_left hi', List.getElem?_eq_getElem hi', List.getElem?_eq_getElem hi]
      simp [hi]
    · have e1 : (flatL (ml.map (·.1))).length = (flatL l).length := by rw [flatL_length, flatL_length, hlenm]
      rw [List.getElem?_append_right (by omega), List.getElem?_append_right (by omega), e1]
      cases sp[i - (flatL l).length]? with
      | none => rfl
      | some v => simp only [Option.map_some]; rw [if_neg (by omega)]
  refine ⟨_, _, rfl, ⟨ml.map (·.1), ?_, ?_, rfl, rfl⟩, ?_⟩
  · rw [← hdl]; exact hperm.map _
  · have hnm : (ml.map (·.1)).Nodup := (hperm.map (·.1)).nodup_iff.2 (by rw [hdl]; exact hnd)
    have hpw := List.pairwise_mergeSort (le := fun x y : Dr => !(ltOf cfD) y x)
      (fun a b c h1 h2 => by
        simp only [Bool.not_eq_true'] at *
        exact swoD.ntrans c b a h2 h1)
      (fun a b => by
        by_cases h : ltOf cfD b a = true
        · have : ltOf cfD a b = false := by
            rw [Bool.eq_false_iff]; intro h'
            have := swoD.trans _ _ _ h h'
            rw [swoD.irrefl] at this; cases this
          simp [this]
        · simp [Bool.eq_false_iff.2 h]) dl
    rw [show dl = dl.toArray.toList from rfl, hm] at hpw
    rw [List.pairwise_map]
    rw [List.Nodup, List.pairwise_map] at hnm
    refine List.Pairwise.imp₂ (fun a b h1 h2 => ?_) hpw hnm
    by_cases h : ltD a.1 b.1
    · exact h
    · refine absurd (ltD_total a.2 b.2 h (fun h' => ?_)) h2
      rw [(lt_cf b a).2 h'] at h1; cases h1
  · exact
    { os := rfl, tape := rfl, output := rfl
      size := by unfold sortWorldK putRowK; simp [size_grow]
      keep := fun k hk hI => by
        have hne : blk ≠ k := fun e => hI (by simp [e])
        unfold sortWorldK putRowK putRow mapBlock
        simp only [grow, heap_ahead]
        rw [Array.getElem?_append_left (by simpa using hk), Array.getElem?_modify, if_neg hne]
      has := fun p hp => by rw [List.mem_singleton.1 hp]; exact hb
      own := fun p hp => by rw [List.mem_singleton.1 hp]; exact .inl (by simp)
      nodup := by simp
      drawn := by show w.drawn ≤ w.drawn + n; omega }
end Go.Proofs.Ytabnokfanhaihaa
