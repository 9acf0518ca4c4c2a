/- The pen's rules, more: a row that grows, and that may be nil. -/
import Derived.Test.YtjckoflcjkajiaaDoorPenE
set_option linter.unusedVariables false
set_option linter.unusedSimpArgs false
namespace Go.Pen

/-- A row's slice; nil while it is empty. -/
def rowV (len b cap : Nat) : Value := match len with | 0 => .slice none 0 0 | _ + 1 => .slice (some ⟨b, 0, none⟩) len cap
def rowM (len b : Nat) (xs sp : List Value) (e : TypeId) : List (Nat × Obj) := match len with | 0 => [] | _ + 1 => [(b, .cells (xs ++ sp).toArray e (0, 0))]

section
variable {P : Program} {n : Nat} {B : World} {I : List Nat} {Γ Γ1 Γ2 : List (Nat × Obj)} {ρ : Env} {ops : Array Oper} {md : Bool} {K : List (Nat × Obj) → Env → Prop}
  {d : Nat} {ty : TypeId} {pos : String} {af : Array Edge} {t e t' : TypeId} {x y : Operand} {b i : Nat} {v : Value} {k : IntKind}

theorem OP.lenRow {len cap : Nat} {tys : Array TypeId} [hS : TSlice P t e] (hd : Nat.blt d n = true) (ht : tys = #[t]) (hx : ev ρ x = rowV len b cap) (h : K Γ (upd ρ d (.int .i64 (len : Int)))) :
    OP P n B I Γ md ops ⟨some d, .call ⟨.builtin .len, #[x], tys⟩, ty, pos, af, none⟩ K ρ := by
  cases len with
  | zero => exact OP.len hd ht hx h
  | succ m => exact OP.len hd ht hx h

/-- 'append(s, v)', v in a row of one that was made for it. -/
theorem OP.push {m bytes : Nat} {z : Value} {len cap : Nat} {xb xc : Nat} {cs : Array Value} {tys : Array TypeId} {xs sp vs : List Value} [hS : TSlice P t e] [hI : TI P e m bytes z]
    (hK : ∀ Γ Γ' ρ, Γ'.Sublist Γ → K Γ' ρ → K Γ ρ)
    (hd : Nat.blt d n = true) (ht : tys = #[t, t]) (hz : z.cells.size = m) (hx : ev ρ x = rowV len b cap) (hy : ev ρ y = .slice (some ⟨xb, 0, none⟩) 1 xc)
    (hcs : readN cs 0 m = some vs) (h1 : (vs.all (·.oneCell')) = true)
    (hxl : xs.length = len * m) (hsp : len = 0 ∨ xs.length + sp.length = cap * m)
    (hby : (len + 1) * bytes ≤ 140737488355328) (h63 : len + 1 ≤ 9223372036854775807)
    (h : ∀ b' sp' cap', (len + 1 = 0 ∨ (xs ++ vs).length + sp'.length = cap' * m) → K (rowM (len + 1) b' (xs ++ vs) sp' e ++ Γ2) (upd ρ d (rowV (len + 1) b' cap'))) :
    OP P n B I ((xb, .cells cs e (0, 0)) :: (rowM len b xs sp e ++ Γ2)) false ops ⟨some d, .call ⟨.builtin .append, #[x, y], tys⟩, ty, pos, af, none⟩ K ρ := by
  have hvl : vs.length = m := (readN_spec hcs).1
  have h1' : ∀ u ∈ vs, u.oneCell' = true := List.all_eq_true.1 h1
  cases len with
  | zero =>
    have hx0 : xs = [] := List.length_eq_zero_iff.1 (by simpa using hxl)
    subst hx0
    simp only [rowM, List.nil_append] at h ⊢
    refine OP.appendNil (vs := vs) hd ht hz hx hy (SeesN.own m (List.Mem.head _) hcs) (by rw [hvl, Nat.one_mul]) (by decide) (by omega) (by omega) (fun b' sp' sc' hl hc => ?_)
    exact hK _ _ _ (List.Sublist.cons_cons _ (List.sublist_cons_self _ _)) (h b' sp' sc' (.inr hl))
  | succ l =>
    rcases hsp with hsp | hsp
    · cases hsp
    simp only [rowM, List.cons_append, List.nil_append] at h ⊢
    refine OP.appendP (Γ1 := [(xb, .cells cs e (0, 0))]) (vs := vs) hd ht hz hx hy hxl hsp (SeesN.own m (List.Mem.head _) hcs) (by rw [hvl, Nat.one_mul]) h1' hby h63 (fun b' sp' sc' hl hc => ?_)
    exact hK _ _ _ (List.sublist_cons_self _ _) (h b' sp' sc' (.inr hl))
/-- What is known with less memory, or in another order, is known with more. -/
abbrev Slack (K : List (Nat × Obj) → Env → Prop) : Prop := ∀ Γ Δ Γ' ρ, Γ.Perm Δ → Γ'.Sublist Δ → K Γ' ρ → K Γ ρ
theorem WL.slack {rest : List Oper} {Q : Post} : Slack (fun Γ' ρ' => WL P n B I Γ' false ops rest Q ρ') := fun _ _ _ _ hp hs h => WL.perm hp (WL.drop hs h)
theorem OP.permIn {Γ' : List (Nat × Obj)} {o : Oper} (hK : Slack K) (hp : Γ.Perm Γ') (h : OP P n B I Γ' false ops o K ρ) : OP P n B I Γ false ops o K ρ :=
  ⟨fun a h1 h2 h3 hw w h4 K' Q' hK => h.yes a h1 h2 h3 hw w (h4.perm hp) K' Q' hK, fun a h1 h2 h3 hw => hK _ _ _ _ hp (List.Sublist.refl _) (h.no a h1 h2 h3 hw)⟩
theorem OP.mono {o : Oper} {K' : List (Nat × Obj) → Env → Prop} (hK : ∀ Γ ρ, K' Γ ρ → K Γ ρ) (h : OP P n B I Γ false ops o K' ρ) : OP P n B I Γ false ops o K ρ :=
  ⟨fun a h1 h2 h3 hw w h4 K'' Q' hKK => h.yes a h1 h2 h3 hw w h4 K'' Q' (fun a' w' Γ' g1 g2 g3 g4 => hKK a' w' Γ' g1 g2 g3 (hK _ _ g4)), fun a h1 h2 h3 hw => hK _ _ (h.no a h1 h2 h3 hw)⟩
/-- OP.push where the row stands behind other blocks. -/
theorem OP.pushP {m bytes : Nat} {z : Value} {len cap : Nat} {xb xc : Nat} {cs : Array Value} {tys : Array TypeId} {xs sp vs : List Value} [hS : TSlice P t e] [hI : TI P e m bytes z]
    (hK : Slack K)
    (hd : Nat.blt d n = true) (ht : tys = #[t, t]) (hz : z.cells.size = m) (hx : ev ρ x = rowV len b cap) (hy : ev ρ y = .slice (some ⟨xb, 0, none⟩) 1 xc)
    (hcs : readN cs 0 m = some vs) (h1 : (vs.all (·.oneCell')) = true)
    (hxl : xs.length = len * m) (hsp : len = 0 ∨ xs.length + sp.length = cap * m)
    (hby : (len + 1) * bytes ≤ 140737488355328) (h63 : len + 1 ≤ 9223372036854775807)
    (h : ∀ b' sp' cap', (len + 1 = 0 ∨ (xs ++ vs).length + sp'.length = cap' * m) → K (Γ1 ++ (rowM (len + 1) b' (xs ++ vs) sp' e ++ Γ2)) (upd ρ d (rowV (len + 1) b' cap'))) :
    OP P n B I ((xb, .cells cs e (0, 0)) :: (Γ1 ++ (rowM len b xs sp e ++ Γ2))) false ops ⟨some d, .call ⟨.builtin .append, #[x, y], tys⟩, ty, pos, af, none⟩ K ρ := by
  refine OP.permIn hK (List.Perm.cons _ (List.perm_append_comm_assoc _ _ _)) (OP.push (Γ2 := Γ1 ++ Γ2) (fun Γ Γ' ρ hs h => hK _ _ _ _ (List.Perm.refl _) hs h) hd ht hz hx hy hcs h1 hxl hsp hby h63 fun b' sp' cap' hl => ?_)
  exact hK _ _ _ _ (List.perm_append_comm_assoc _ _ _) (List.Sublist.refl _) (h b' sp' cap' hl)
end
end Go.Pen
