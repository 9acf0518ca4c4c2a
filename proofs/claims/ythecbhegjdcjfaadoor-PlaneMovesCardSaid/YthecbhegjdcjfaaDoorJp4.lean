/- Texts joined: RowKit. -/
import Derived.Test.YthecbhegjdcjfaaDoorJp3
import Derived.Test.YthecbhegjdcjfaaDoorRows
import Derived.ProofKit
import Derived.OpenShut
import Derived.Lib.SmallJoins
section
/- What every row of this seat shares: how the arguments read behind a call that leaves old memory alone. -/
set_option linter.unusedVariables false
namespace Go.Proofs.YthecbhegjdcjfaaDoor
open Go.ChangeShapes Go.WideShapes Go.ChangeAt Go.RowKit Go.Joins

theorem own : ownKnob Tryd.prog.godebug = none := by kernel_rfl
theorem laidOut : laidOutB Tryd.prog = true := by kernel_rfl

/-- The row's 'post', for a law: true; the arguments as they were; old memory below. -/
theorem post_law {H : Type} {enc : TypeId × Value → H} {P : Program} {f : Func} {s : ChangeSpec} {W W' : World} {args : Array Value} {ds gs : List (DataW H)} {before : List MemPlace} {bt : TypeId}
    (hl : laidOutB P = true) (hW : DataW.Whole enc P f.params.toList s.vars false W args.toList ds gs before) (hb : Below W.heap.size W W')
    (hrt : f.resultTypes = #[bt]) (hbt : P.underlying bt = some .bool) (hfn : (s.fn H (ds ++ gs)).results = [.lit (.bool true)]) (hfa : (s.fn H (ds ++ gs)).args = ds) (hfv : (s.fn H (ds ++ gs)).vars = [])
    (hv : s.vars = []) (hr : f.params.toList.all (fun t => P.readableRec t && decide (t < P.types.size)) = true) :
    s.post enc P f false true false false W args (.bool true) W' := by
  have hlt := hW.lt
  obtain ⟨p, q, hA, hV, rfl, hfz, hnd⟩ := id hW
  have hgs : gs = [] ∧ q = [] := by rw [hv] at hV; exact trodVars_none hV
  obtain ⟨rfl, rfl⟩ := hgs
  have hargs : ∀ (ts : List TypeId) (vs : List Value) (ds : List (DataW H)) (p : List MemPlace), ts.all (fun t => P.readableRec t && decide (t < P.types.size)) = true → (∀ x ∈ p, x.block < W.heap.size) →
      DataW.TrodAll enc P W 0 (fun _ => true) true ts vs ds p → DataW.TrodAll enc P W' 0 (fun b => decide (b < W.heap.size)) true ts vs ds p := by
    intro ts
    induction ts with
    | nil => intro vs ds p _ _ h; obtain ⟨rfl, rfl, rfl⟩ := trodAll_nil h; exact trodAll_mk0
    | cons t ts ih =>
      intro vs ds p hall hp h
      obtain ⟨v0, vs0, d0, ds0, p0, q0, rfl, rfl, rfl, h0, r0⟩ := trodAll_cons h
      rw [List.all_cons, Bool.and_eq_true, Bool.and_eq_true, decide_eq_true_iff] at hall
      exact trodAll_cons_mk (Below.trod hl hall.1.1 hall.1.2 h0 hb (fun x hx => hp x (List.mem_append_left _ hx))) (ih _ _ _ hall.2 (fun x hx => hp x (List.mem_append_right _ hx)) r0)
  have hres : DataW.TrodAll enc P W' W.heap.size (fun _ => false) false f.resultTypes.toList ((Value.bool true).resultList f.resultTypes.size) (s.fn H (ds ++ [])).results [] := by
    rw [hrt, hfn]; exact trodAll_cons_mk (shut_bool hbt _) trodAll_mk0
  refine ⟨ds, [], p ++ [], [], p, [], hW, hres, ?_, ?_, hb.frame _, fun h => by cases h⟩
  · rw [hfa]; exact hargs _ _ _ _ hr (fun x hx => hlt x (by simpa using hx)) hA
  · rw [hv, hfv]; rfl
end Go.Proofs.YthecbhegjdcjfaaDoor
end
