/- The pen's rules, more: a region whose order is open and that writes some blocks while it reads others: what reads those others is taken first. -/
import Derived.Test.YtjckoflcjkajiaaDoorPenI
import Derived.OrdersHeld
set_option linter.unusedVariables false
set_option linter.unusedSimpArgs false
namespace Go.Pen

section
variable {P : Program} {n : Nat} {B : World} {I : List Nat} {Γ Γv Γs : List (Nat × Obj)} {ρ : Env} {ops : Array Oper} {Q : Post} {fuel : Nat} {listed : Array Bool} {i : Nat}

/-- Whatever order is picked of those that are still open; 'Γs': what nobody in the region writes. -/
structure WH (P : Program) (n : Nat) (B : World) (I : List Nat) (Γv Γs : List (Nat × Obj)) (ops : Array Oper) (fuel : Nat) (listed : Array Bool) (Q : Post) (ρ : Env) : Prop where
  out : ∀ a, a.defers = [] → a.tmps.size = n → envOf a = ρ → ∀ w, St B I (Γv ++ Γs) w → wpAnyH P .any ops (lift n Q) (St B I Γs) fuel listed a w
theorem WP.regionH {id : Nat} {l : List Oper} (Γv Γs : List (Nat × Obj)) (hΓ : Γ = Γv ++ Γs) (hm : P.follows .mixedOrders = true) (h : WH P n B I Γv Γs l.toArray l.length (Array.replicate l.length false) Q ρ) : WP P n B I Γ (.region id l.toArray true) Q ρ :=
  ⟨fun a w h1 h2 h3 h4 => wp_region_held (S := St B I Γs) hm (by simpa using h.out a h1 h2 h3 _ ((hΓ ▸ h4).drew (w.drawn + 1) (Nat.le_succ _)))⟩
theorem WH.take [hQ : NoPan Q] {o : Oper} (ho : ops[i]? = some o) (hs : Region.noSelect ops = true) (hf : Region.free .any ops listed i = true) (hr : (Region.ready .any ops listed).contains i = true) (hnc : noCall o = true)
    (h : OP P n B I Γs true ops o (fun _ ρ' => WH P n B I Γv Γs ops fuel (listed.setIfInBounds i true) Q ρ') ρ) : WH P n B I Γv Γs ops (fuel + 1) listed Q ρ :=
  ⟨fun a h1 h2 h3 w h4 => by
    have hS : St B I Γs w := h4.drop (List.sublist_append_right Γv Γs)
    by_cases hw : Region.wanted o (yielded ops a.tmps) = true
    · obtain ⟨v, hv, hK⟩ := (h.yes a h1 h2 h3 hw).2.2 hnc
      refine wpAnyH_take (v := v) ho hs hf hr (fun c a' w' hp => absurd hp.2.2 (hQ.out c _ w')) (.inl ⟨hw, hv⟩) hS ?_
      exact hK (fun a' => wpAnyH P .any ops (lift n Q) (St B I Γs) fuel (listed.setIfInBounds i true) a' w) (fun a' k1 k2 k4 => k4.out a' k1 k2 rfl w h4)
    · have hw' : Region.wanted o (yielded ops a.tmps) = false := by simpa using hw
      refine wpAnyH_take (v := undef) ho hs hf hr (fun c a' w' hp => absurd hp.2.2 (hQ.out c _ w')) (.inr ⟨hw', rfl⟩) hS ?_
      exact (h.no a h1 h2 h3 hw').out _ (by rw [put_defers]; exact h1) (by rw [put_size]; exact h2) rfl w h4⟩
/-- What follows a step: the memory that is written, anew. -/
def next (P : Program) (n : Nat) (B : World) (I : List Nat) (Γs : List (Nat × Obj)) (ops : Array Oper) (fuel : Nat) (listed : Array Bool) (Q : Post) (Γ' : List (Nat × Obj)) (ρ' : Env) : Prop :=
  ∃ Γv', Γ'.Perm (Γv' ++ Γs) ∧ WH P n B I Γv' Γs ops fuel listed Q ρ'
theorem next.mk {ρ' : Env} {Γ' : List (Nat × Obj)} (Γv' : List (Nat × Obj)) (hp : Γ' = Γv' ++ Γs) (h : WH P n B I Γv' Γs ops fuel listed Q ρ') : next P n B I Γs ops fuel listed Q Γ' ρ' := ⟨Γv', hp ▸ List.Perm.refl _, h⟩
theorem next.perm {ρ' : Env} {Γ' : List (Nat × Obj)} (Γv' : List (Nat × Obj)) (hp : Γ'.Perm (Γv' ++ Γs)) (h : WH P n B I Γv' Γs ops fuel listed Q ρ') : next P n B I Γs ops fuel listed Q Γ' ρ' := ⟨Γv', hp, h⟩
theorem WH.step {rs : List Nat} (hr : Region.ready .any ops listed = rs) (hne : rs.isEmpty = false)
    (h : ∀ i ∈ rs, ∃ o, ops[i]? = some o ∧ OP P n B I (Γv ++ Γs) false ops o (next P n B I Γs ops fuel (listed.setIfInBounds i true) Q) ρ) : WH P n B I Γv Γs ops (fuel + 1) listed Q ρ :=
  ⟨fun a h1 h2 h3 w h4 => by
    have hS : St B I Γs w := h4.drop (List.sublist_append_right Γv Γs)
    refine wpAnyH_all hr (fun h0 => by subst h0; cases hne) fun i hi => ?_
    obtain ⟨o, ho, hop⟩ := h i hi
    unfold wpOp
    rw [ho]
    dsimp only
    split
    · rename_i hw
      refine .inl (hop.yes a h1 h2 h3 hw w h4 _ _ fun a' w' Γ' k1 k2 k3 ⟨Γv', kp, k4⟩ => ?_)
      have k3' := k3.perm kp
      exact ⟨k3'.drop (List.sublist_append_right Γv' Γs), k4.out a' k1 k2 rfl w' k3'⟩
    · rename_i hw
      obtain ⟨Γv', kp, hno⟩ := hop.no a h1 h2 h3 (by simpa using hw)
      have h4' := h4.perm kp
      exact ⟨h4'.drop (List.sublist_append_right Γv' Γs), hno.out _ (by rw [put_defers]; exact h1) (by rw [put_size]; exact h2) rfl w h4'⟩⟩
theorem WH.done (hr : Region.ready .any ops listed = []) (h : Fin B I (Γv ++ Γs) .normal ρ Q) : WH P n B I Γv Γs ops fuel listed Q ρ :=
  ⟨fun a h1 h2 h3 w h4 => wpAnyH_done hr ⟨h1, h2, h3 ▸ h.out w h4⟩ fuel⟩
/-! ## Memory in another order, by places -/
def noBlk : Nat × Obj := (0, .cells #[] 0 (0, 0))
theorem perm_places (Γ : List (Nat × Obj)) (q : List Nat) (hq : decide ((List.range Γ.length).Perm q) = true) : Γ.Perm (q.map (Γ.getD · noBlk)) := by
  have e : Γ = (List.range Γ.length).map (Γ.getD · noBlk) := by
    apply List.ext_getElem?
    intro i
    simp only [List.getElem?_map, List.getD_eq_getElem?_getD]
    by_cases hi : i < Γ.length
    · rw [List.getElem?_range hi, List.getElem?_eq_getElem hi]; simp [List.getElem?_eq_getElem hi]
    · rw [List.getElem?_eq_none (by omega), List.getElem?_eq_none (by simpa using hi)]; rfl
  have h := (of_decide_eq_true hq).map (Γ.getD · noBlk)
  rwa [← e] at h
theorem WP.by {c : Code} (q : List Nat) (hq : decide ((List.range Γ.length).Perm q) = true) (h : WP P n B I (q.map (Γ.getD · noBlk)) c Q ρ) : WP P n B I Γ c Q ρ := WP.perm (perm_places Γ q hq) h
theorem Fin.by {e : Exit} (q : List Nat) (hq : decide ((List.range Γ.length).Perm q) = true) (h : Fin B I (q.map (Γ.getD · noBlk)) e ρ Q) : Fin B I Γ e ρ Q := Fin.perm (perm_places Γ q hq) h
end
end Go.Pen
