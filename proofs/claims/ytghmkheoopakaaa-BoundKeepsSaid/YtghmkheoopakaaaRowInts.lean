/- A list of whole numbers among the arguments, opened. -/
import Derived.Test.YtghmkheoopakaaaRowKit
import Derived.SizedLaws
import Derived.ChangeSlices
import Derived.Test.YtghmkheoopakaaaBndA
set_option linter.unusedVariables false
namespace Go.Proofs.Ytghmkheoopakaaa
open Go.ChangeShapes Go.WideShapes Go.ChangeAt Go.RowKit Go.Joins Go.Pen

theorem cellsIntL : Try.prog.cellsOf 3 = 1 := by kernel_rfl
theorem bytesIntL : Try.prog.bytesOf 3 = 8 := by kernel_rfl

theorem spot_none {W : World} {a : Addr} {i : Nat} {v : Value} (h : W.cell? (a.add i) = some v) (hi : a.spot ≠ none → False ∨ True) : True := trivial
theorem spot_of {W : World} {a : Addr} {v : Value} (h : W.cell? (a.add 0) = some v) : a = ⟨a.block, a.off, none⟩ := by
  have e : a.spot = none := by
    obtain ⟨ab, ao, sp⟩ := a
    cases sp with
    | none => rfl
    | some s =>
      exfalso
      unfold World.cell? at h
      cases hb : W.heap[(({ block := ab, off := ao, spot := some s } : Addr).add 0).block]? with
      | none => rw [hb] at h; cases h
      | some o =>
        rw [hb] at h
        cases o with
        | cells c _ _ => cases h
        | _ => cases h
  obtain ⟨ab, ao, sp⟩ := a
  simp only at e; subst e; rfl

/-- A list of whole numbers, opened. -/
theorem open_intL {H : Type} {enc : TypeId × Value → H} {W : World} {fuel : Nat} {cs : List Value} {x : DataW H × List MemPlace} (h : DataW.trod enc Try.prog W 0 (fun _ => true) true fuel 22 cs = some x) :
    ∃ (a : Option Addr) (n c b o : Nat) (f : Nat → Int), cs = [.slice a n c] ∧ (0 < n → a = some ⟨b, o, none⟩) ∧ RdI W b o n f ∧ (n = 0 ∨ ∃ el sp, x.1 = .slice el sp ∧ n ≤ el.length) := by
  rcases open_ints Try.underlying22 Try.underlying3 cellsIntL h with ⟨rfl, rfl⟩ | ⟨a, len, cap, zs, rfl, hb, hl, hm, hz, rfl, hc, hw⟩
  · exact ⟨none, 0, 0, 0, 0, fun _ => 0, rfl, fun h => absurd h (by omega), ⟨fun i h => absurd h (by omega)⟩, .inl rfl⟩
  · have hz' : zs.length = cap := by rw [hz, if_pos rfl]
    refine ⟨some a, len, cap, a.block, a.off, fun i => zs.getD i 0, rfl, fun h => by rw [← spot_of (hc 0 (by omega))], ⟨fun i hi => ?_⟩, .inr ⟨_, _, rfl, ?_⟩⟩
    · have := hc i (by omega)
      rw [spot_of (hc 0 (by omega)), add_mk] at this
      rw [Nat.mul_one]; exact this
    · unfold lits; rw [List.length_map, List.length_take]; omega
end Go.Proofs.Ytghmkheoopakaaa
