/-
  DirKatz: whatever the side and the list of directions: true, and the arguments read as they did. The list is of at most 2^47 bytes (the form's own reach).
-/
import Derived.Test.YtabnokfanhaihaaRowKit
import Derived.Test.YtabnokfanhaihaaDirKz
import Derived.SizedLaws
import Derived.Deep.SlicePairs
set_option linter.unusedVariables false
namespace Go.Proofs.Ytabnokfanhaihaa
open Go.ChangeShapes Go.WideShapes Go.ChangeAt Go.RowKit Go.Joins Go.Pen Go.Deep

theorem cellsDirK : Try.prog.cellsOf 30 = 2 := by kernel_rfl
theorem cellsIntK : Try.prog.cellsOf 3 = 1 := by kernel_rfl
theorem bytesDirK : Try.prog.bytesOf 30 = 16 := by kernel_rfl

/-- A list of directions, opened. -/
theorem open_dirs {H : Type} {enc : TypeId × Value → H} {W : World} {fuel : Nat} {cs : List Value} {x : DataW H × List MemPlace} (h : DataW.trod enc Try.prog W 0 (fun _ => true) true fuel 22 cs = some x) :
    ∃ (a : Option Addr) (n c b o : Nat) (f g : Nat → Int), cs = [.slice a n c] ∧ (0 < n → a = some ⟨b, o, none⟩) ∧ Rd W b o n f g ∧ Bd n f g ∧
      (n = 0 ∨ ∃ el sp, x.1 = .slice el sp ∧ n ≤ el.length) := by
  rcases open_slice_pairs Try.underlying22 Try.underlying30 cellsDirK rfl rfl cellsIntK cellsIntK h with ⟨rfl, rfl⟩ | ⟨a, len, cap, m, q, V0, V1, D0, D1, P0, P1, rfl, hb, hl, hm, hmm, rfl, hx⟩
  · exact ⟨none, 0, 0, 0, 0, fun _ => 0, fun _ => 0, rfl, fun h => absurd h (by omega), ⟨fun i h => absurd h (by omega), fun i h => absurd h (by omega)⟩, ⟨fun i h => absurd h (by omega), fun i h => absurd h (by omega), fun i h => absurd h (by omega), fun i h => absurd h (by omega)⟩, .inl rfl⟩
  · have hm' : m = cap := by rw [hmm, if_pos rfl]
    subst hm'
    have key : ∀ i, i < len → ∃ p : Int × Int, W.cell? (a.add (i * 2)) = some (.int .i64 p.1) ∧ W.cell? (a.add (i * 2 + 1)) = some (.int .i64 p.2) ∧
        -9223372036854775808 ≤ p.1 ∧ p.1 ≤ 9223372036854775807 ∧ -9223372036854775808 ≤ p.2 ∧ p.2 ≤ 9223372036854775807 := by
      intro i hi
      obtain ⟨h1, h2, h3, h4⟩ := hx i (by omega)
      obtain ⟨u, e0, _, wu⟩ := DataW.trod_int Try.underlying3 h3
      obtain ⟨v, e1, _, wv⟩ := DataW.trod_int Try.underlying3 h4
      simp at e0 e1
      have b1 := bounds_i64 wu
      have b2 := bounds_i64 wv
      exact ⟨(u, v), by rw [h1, e0], by rw [h2, e1], b1.1, b1.2, b2.1, b2.2⟩
    obtain ⟨pf, hpf⟩ := choose_lt key
    have hspot : 0 < len → a = ⟨a.block, a.off, none⟩ := by
      intro h0
      have := (hpf 0 h0).1
      have e : a.spot = none := by
        obtain ⟨ab, ao, sp⟩ := a
        cases sp with
        | none => rfl
        | some s =>
          exfalso
          have h := this
          unfold World.cell? at h
          cases hb : W.heap[(({ block := ab, off := ao, spot := some s } : Addr).add (0 * 2)).block]? with
          | none => rw [hb] at h; cases h
          | some o =>
            rw [hb] at h
            cases o with
            | cells c _ _ => cases h
            | _ => cases h
      obtain ⟨ab, ao, sp⟩ := a
      simp only at e; subst e; rfl
    refine ⟨some a, len, m, a.block, a.off, fun i => (pf i).1, fun i => (pf i).2, rfl, fun h => by rw [hspot h], ⟨fun i hi => ?_, fun i hi => ?_⟩, ⟨fun i hi => (hpf i hi).2.2.1, fun i hi => (hpf i hi).2.2.2.1, fun i hi => (hpf i hi).2.2.2.2.1, fun i hi => (hpf i hi).2.2.2.2.2⟩, .inr ⟨_, _, rfl, by rw [List.length_map, List.length_range]; exact Nat.le_refl _⟩⟩
    · have := (hpf i hi).1; rw [hspot (by omega), add_mk] at this; exact this
    · have := (hpf i hi).2.1; rw [hspot (by omega), add_mk, ← Nat.add_assoc] at this; exact this

set_option maxRecDepth 100000 in
theorem katz_lifted (os : Os) (started : os.Started) (H : Type) (enc : TypeId × Value → H) :
    ReturnsInHanded {} Try.checked os 3 .any (Rows.dirKatzSpec.pre6 enc Try.prog Try.f3 Rows.dirKatzRow.domain false) (Rows.dirKatzSpec.post enc Try.prog Try.f3 false true false false) := by
  refine returnsInHanded_of_change_sized (C := Try.checked) own started (by kernel_rfl) Try.func3
    (ChangeSpec.witness6 (enc := enc) (C := Try.checked) false ⟨#[], #[.int .i64 0, .slice none 0 0], []⟩ 8 (by kernel_rfl) (by kernel_rfl) (by kernel_rfl) (by kernel_rfl)) ?_
  intro W base args ds gs before hval0 hW hcnd hsz _
  have hval : ∀ (j : Nat) t v, Try.f3.params[j]? = some t → args[j]? = some v → Value.okWide Try.prog W .any base t v := hval0
  have hW' := hW
  obtain ⟨p, q, hA0, hV, rfl, hfz, hnd⟩ := hW
  have hA : DataW.TrodAll enc Try.prog W 0 (fun _ => true) true Try.f3.params.toList args.toList ds p := hA0
  rw [Try.params3] at hA hval hsz
  obtain ⟨v0, vs0, d0, ds0, p0, q0, hargs, rfl, rfl, h0, r0⟩ := trodAll_cons hA
  obtain ⟨v1, vs1, d1, ds1, p1, q1, rfl, rfl, rfl, h1, r1⟩ := trodAll_cons r0
  obtain ⟨rfl, rfl, rfl⟩ := trodAll_nil r1
  obtain rfl : args = #[v0, v1] := by cases args; simp_all
  obtain ⟨rfl, rfl⟩ := trodVars_none hV
  obtain ⟨s, rfl, rfl, rfl, ws⟩ := open_int Try.underlying3 (hval 0 3 v0 rfl rfl) h0
  have bs := bounds_i64 ws
  obtain ⟨fuel, h1'⟩ := h1
  obtain ⟨a, n, c, b, o, f, g, e1, ha, hr, hb, hlen⟩ := open_dirs h1'
  obtain ⟨oa, ol, oc, rfl⟩ := okWide_slice Try.underlying22 (hval 1 22 v1 rfl rfl)
  simp only [Value.cells, List.cons.injEq, and_true, Value.slice.injEq] at e1
  obtain ⟨g1, g2, g3⟩ := e1
  subst g1 g2 g3
  have hn : ol ≤ 8796093022207 := by
    rcases hlen with rfl | ⟨el, sp, e2, hle⟩
    · omega
    · try dsimp only at e2
      subst e2
      have := sized_slice (j := 1) hsz rfl rfl Try.underlying22
      rw [show Try.checked.prog.bytesOf 30 = 16 from bytesDirK] at this
      have h47 : reachBytes = 140737488351232 := by decide
      omega
  clear hA0 hval0
  refine ((DirKatz_fn s oa ol oc b o f g ha (by omega) hb bs.1 bs.2 W hr).out).mono fun ex W' ⟨v, Γ, he, ⟨hv, hΓ⟩, hst⟩ => ?_
  subst he; subst hv; subst hΓ
  exact ⟨_, rfl, post_law laidOut hW' hst.below rfl Try.underlying4 rfl rfl rfl rfl (by kernel_rfl)⟩

theorem DirKatz_holds : Rows.DirKatzSaid :=
  OpenClaim.holds_of_wide 3 Try.f3 rfl rfl rfl rfl rfl rfl rfl ⟨rfl, rfl, rfl, rfl, rfl⟩ rfl rfl rfl rfl rfl (by kernel_rfl) Try.func3 (by kernel_rfl)
    (of_decide_eq_true (by kernel_rfl)) (by unfold Func.isWrapper; first | (rw [if_pos (by decide +kernel)]; kernel_rfl) | (rw [if_neg (by decide +kernel)]; exact ⟨rfl, rfl⟩))
    (fun os started H enc _ => katz_lifted os started H enc)
#print axioms DirKatz_holds
end Go.Proofs.Ytabnokfanhaihaa
