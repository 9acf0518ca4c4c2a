/- Texts joined: PenH. -/
import Derived.Test.YthecbhegjdcjfaaDoorJp7
import Derived.LoopN
section
/- The pen's rules, more: a loop whose number of rounds is known, round by round. -/
set_option linter.unusedVariables false
namespace Go.Pen
/-- At most N rounds more. -/
structure WR (P : Program) (n : Nat) (B : World) (I : List Nat) (Γ : List (Nat × Obj)) (c : Code) (N : Nat) (Q : Post) (ρ : Env) : Prop where
  out : ∀ a w, a.defers = [] → a.tmps.size = n → envOf a = ρ → St B I Γ w → Code.rounds P c (lift n Q) N a w
def roundsQ (P : Program) (n : Nat) (c : Code) (N : Nat) (Q : Post) : Post := fun e ρ w =>
  match e with
  | .normal => ∀ a, a.defers = [] → a.tmps.size = n → envOf a = ρ → Code.rounds P c (lift n Q) N a w
  | e => Q e ρ w
section
variable {P : Program} {n : Nat} {B : World} {I : List Nat} {Γ : List (Nat × Obj)} {Q : Post} {ρ : Env} {c : Code} {N : Nat}
theorem WP.rounds (N : Nat) (h : WR P n B I Γ c N Q ρ) : WP P n B I Γ (.loop c) Q ρ := ⟨fun a w h1 h2 h3 h4 => wp_loop_rounds N (h.out a w h1 h2 h3 h4)⟩
theorem WR.succ (h : WP P n B I Γ c (roundsQ P n c N Q) ρ) : WR P n B I Γ c (N + 1) Q ρ := ⟨fun a w h1 h2 h3 h4 => by
  rw [rounds_succ]
  refine wp_mono (h.out a w h1 h2 h3 h4) ?_
  rintro e a' w' ⟨k1, k2, k3⟩
  cases e with
  | normal => exact k3 a' k1 k2 rfl
  | exit id => exact ⟨k1, k2, k3⟩
  | goto l => exact ⟨k1, k2, k3⟩
  | ret => exact ⟨k1, k2, k3⟩
  | panic ch => exact ⟨k1, k2, k3⟩
  | outgrown => exact ⟨k1, k2, k3⟩⟩
theorem Fin.rounds (h : WR P n B I Γ c N Q ρ) : Fin B I Γ .normal ρ (roundsQ P n c N Q) := ⟨fun w hw a h1 h2 h3 => h.out a w h1 h2 h3 hw⟩
theorem Fin.rounds_exit {id : Nat} (h : Fin B I Γ (.exit id) ρ Q) : Fin B I Γ (.exit id) ρ (roundsQ P n c N Q) := ⟨h.out⟩
theorem Fin.rounds_ret (h : Fin B I Γ .ret ρ Q) : Fin B I Γ .ret ρ (roundsQ P n c N Q) := ⟨h.out⟩
instance [h : NoPan Q] : NoPan (roundsQ P n c N Q) := ⟨fun ch ρ w hq => h.out ch ρ w hq⟩
end

section
variable {P : Program} {n : Nat} {B : World} {I : List Nat} {Γ : List (Nat × Obj)} {ρ : Env} {ops : Array Oper} {md : Bool} {K : List (Nat × Obj) → Env → Prop}
  {d : Nat} {ty : TypeId} {pos : String} {af : Array Edge}
/-- A call of a function without a Go body that yields at once. -/
theorem OP.callx {f : FuncId} {args : Array Operand} {tys : Array TypeId} {vals : Array Value} (v : Value) (hd : Nat.blt d n = true) (hv : (args.toList.map (ev ρ)).toArray = vals)
    (hx : ∀ w, (callFunc f vals).run P w = .ok (.value v) w) (h : K Γ (upd ρ d v)) :
    OP P n B I Γ md ops ⟨some d, .call ⟨.value (.func f), args, tys⟩, ty, pos, af, none⟩ K ρ :=
  OP.pure1 v hd (fun w _ => by
    have hv' : (#[] ++ args.map (ev ρ)) ++ #[] = (args.toList.map (ev ρ)).toArray := call_vals (first := #[]) (captured := #[]) (by simp)
    have := hx w
    subst hv
    simp only [execOp, resolve, ev, Deferred.ofValue, Sem.run_bind, Sem.run_pure, Result.andThen_ok, invoke, hv', this]) h
end
end Go.Pen
end
