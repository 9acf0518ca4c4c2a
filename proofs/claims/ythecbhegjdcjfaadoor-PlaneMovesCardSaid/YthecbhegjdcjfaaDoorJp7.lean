/- Texts joined: PenG. -/
import Derived.Test.YthecbhegjdcjfaaDoorJp6
import Derived.Orders
section
/- The pen's rules, more: a region whose order is open and that writes: what looks at no memory is taken first. -/
set_option linter.unusedVariables false
set_option linter.unusedSimpArgs false
namespace Go.Pen

/-- At a panic's end nothing holds. -/
class NoPan (Q : Post) : Prop where
  out : ∀ c ρ w, ¬ Q (.panic c) ρ w
instance {P : Program} {fn : Func} {B : World} {I : List Nat} {R : Value → List (Nat × Obj) → Prop} : NoPan (retQ P fn B I R) := ⟨fun _ _ _ h => h⟩
instance {P : Program} {n : Nat} {y : Code} {Q : Post} [h : NoPan Q] : NoPan (thenQ P n y Q) := ⟨fun c ρ w hq => h.out c ρ w hq⟩
instance {id : Nat} {Q : Post} [h : NoPan Q] : NoPan (blockQ id Q) := ⟨fun c ρ w hq => h.out c ρ w hq⟩
instance {R : Env → World → Prop} {Q : Post} [h : NoPan Q] : NoPan (loopQ R Q) := ⟨fun c ρ w hq => h.out c ρ w hq⟩

section
variable {P : Program} {n : Nat} {B : World} {I : List Nat} {Γ Γ1 Γ2 : List (Nat × Obj)} {ρ : Env} {ops : Array Oper} {Q : Post} {fuel : Nat} {listed : Array Bool}
  {d : Nat} {ty : TypeId} {pos : String} {af : Array Edge} {t e t' : TypeId} {x y : Operand} {b i : Nat} {k : IntKind} {lo hi : Int}

theorem WA.take [hQ : NoPan Q] {op : Op} {v : Value} (ho : ops[i]? = some ⟨some d, op, ty, pos, af, none⟩) (hs : Region.noSelect ops = true) (hf : Region.free .any ops listed i = true) (hr : (Region.ready .any ops listed).contains i = true)
    (hd : Nat.blt d n = true) (hrun : ∀ w, (execOp (ev ρ) ⟨some d, op, ty, pos, af, none⟩).run P w = .ok (.value v) w)
    (h : WA P n B I Γ ops fuel (listed.setIfInBounds i true) Q (upd ρ d v)) : WA P n B I Γ ops (fuel + 1) listed Q ρ :=
  ⟨fun a h1 h2 h3 w h4 => by
    refine wpAny_take (v := v) ho hs hf hr (fun c a' w' hp => absurd hp.2.2 (hQ.out c _ w')) (.inl ⟨by simp [Region.wanted], fun w' => by rw [eval_env, h3]; exact hrun w'⟩) ?_
    have hlt : d < a.tmps.size := by rw [h2]; exact blt_lt hd
    exact h.out _ (by rw [put_defers]; exact h1) (by rw [put_size]; exact h2) (by rw [env_put a d v hlt, h3]) w h4⟩
theorem WA.takeMove [NoPan Q] {v : Value} (ho : ops[i]? = some ⟨some d, .move x, ty, pos, af, none⟩) (hs : Region.noSelect ops = true) (hf : Region.free .any ops listed i = true) (hr : (Region.ready .any ops listed).contains i = true)
    (hd : Nat.blt d n = true) (hv : ev ρ x = v) (h : WA P n B I Γ ops fuel (listed.setIfInBounds i true) Q (upd ρ d v)) : WA P n B I Γ ops (fuel + 1) listed Q ρ :=
  WA.take ho hs hf hr hd (fun _ => by subst hv; rfl) h
theorem WA.takeAssign [NoPan Q] {v : Value} (ho : ops[i]? = some ⟨some d, .assign x, ty, pos, af, none⟩) (hs : Region.noSelect ops = true) (hf : Region.free .any ops listed i = true) (hr : (Region.ready .any ops listed).contains i = true)
    (hd : Nat.blt d n = true) (hv : ev ρ x = v) (h : WA P n B I Γ ops fuel (listed.setIfInBounds i true) Q (upd ρ d v)) : WA P n B I Γ ops (fuel + 1) listed Q ρ :=
  WA.take ho hs hf hr hd (fun _ => by subst hv; rfl) h
theorem WA.takeSub [NoPan Q] [Fits k lo hi] {a c : Int} (ho : ops[i]? = some ⟨some d, .binOp .sub t x y t', ty, pos, af, none⟩) (hs : Region.noSelect ops = true) (hf : Region.free .any ops listed i = true) (hr : (Region.ready .any ops listed).contains i = true)
    (hd : Nat.blt d n = true) (hx : ev ρ x = .int k a) (hy : ev ρ y = .int k c) (h1 : lo ≤ a - c) (h2 : a - c ≤ hi) (h : WA P n B I Γ ops fuel (listed.setIfInBounds i true) Q (upd ρ d (.int k (a - c)))) : WA P n B I Γ ops (fuel + 1) listed Q ρ :=
  WA.take ho hs hf hr hd (fun w => by
    have g1 := eqGuard_int (P := P) .sub t x y k k a c w
    have g2 : (binOp .sub t (.int k a) (.int k c)).run P w = .ok (.int k (a - c)) w := by rw [bin_sub, Fits.mem _ h1 h2]
    simp only [execOp, hx, hy, Sem.run_bind, g1, g2, Result.andThen_ok, Sem.run_pure]) h
theorem WA.takeMul [NoPan Q] [Fits k lo hi] {a c : Int} (ho : ops[i]? = some ⟨some d, .binOp .mul t x y t', ty, pos, af, none⟩) (hs : Region.noSelect ops = true) (hf : Region.free .any ops listed i = true) (hr : (Region.ready .any ops listed).contains i = true)
    (hd : Nat.blt d n = true) (hx : ev ρ x = .int k a) (hy : ev ρ y = .int k c) (h1 : lo ≤ a * c) (h2 : a * c ≤ hi) (h : WA P n B I Γ ops fuel (listed.setIfInBounds i true) Q (upd ρ d (.int k (a * c)))) : WA P n B I Γ ops (fuel + 1) listed Q ρ :=
  WA.take ho hs hf hr hd (fun w => by
    have g1 := eqGuard_int (P := P) .mul t x y k k a c w
    have g2 : (binOp .mul t (.int k a) (.int k c)).run P w = .ok (.int k (a * c)) w := by rw [bin_mul, Fits.mem _ h1 h2]
    simp only [execOp, hx, hy, Sem.run_bind, g1, g2, Result.andThen_ok, Sem.run_pure]) h
theorem WA.takeIdx [NoPan Q] {m bytes len cap o j : Nat} {z : Value} {jj : Int} [hS : TSlice P t e] [hI : TI P e m bytes z] (ho : ops[i]? = some ⟨some d, .indexAddr t x y, ty, pos, af, none⟩) (hs : Region.noSelect ops = true) (hf : Region.free .any ops listed i = true) (hr : (Region.ready .any ops listed).contains i = true)
    (hd : Nat.blt d n = true) (ha : ev ρ x = .slice (some ⟨b, o, none⟩) len cap) (hj : ev ρ y = .int k jj) (hjj : jj = (j : Int)) (hlt : j < len)
    (h : WA P n B I Γ ops fuel (listed.setIfInBounds i true) Q (upd ρ d (.pointer (some ⟨b, o + j * m, none⟩)))) : WA P n B I Γ ops (fuel + 1) listed Q ρ :=
  WA.take ho hs hf hr hd (fun w => by
    have := run_indexAt (P := P) (t := t) (e := e) (b := b) (cap := cap) (o := o) (k := k) hlt w
    simp only [execOp, ha, hj, hjj, Sem.run_bind, this, Result.andThen_ok, Sem.run_pure]) h
theorem WA.takeIdxO [NoPan Q] {m bytes len cap o j : Nat} {z : Value} {jj : Int} {a : Option Addr} [hS : TSlice P t e] [hI : TI P e m bytes z] (ho : ops[i]? = some ⟨some d, .indexAddr t x y, ty, pos, af, none⟩) (hs : Region.noSelect ops = true) (hf : Region.free .any ops listed i = true) (hr : (Region.ready .any ops listed).contains i = true)
    (hd : Nat.blt d n = true) (ha : ev ρ x = .slice a len cap) (hb : a = some ⟨b, o, none⟩) (hj : ev ρ y = .int k jj) (hjj : jj = (j : Int)) (hlt : j < len)
    (h : WA P n B I Γ ops fuel (listed.setIfInBounds i true) Q (upd ρ d (.pointer (some ⟨b, o + j * m, none⟩)))) : WA P n B I Γ ops (fuel + 1) listed Q ρ := by
  subst hb; exact WA.takeIdx ho hs hf hr hd ha hj hjj hlt h
theorem WA.perm {Γ' : List (Nat × Obj)} (hs : Γ.Perm Γ') (h : WA P n B I Γ' ops fuel listed Q ρ) : WA P n B I Γ ops fuel listed Q ρ := ⟨fun a h1 h2 h3 w h4 => h.out a h1 h2 h3 w (h4.perm hs)⟩
theorem WA.drop {Γ' : List (Nat × Obj)} (hs : Γ'.Sublist Γ) (h : WA P n B I Γ' ops fuel listed Q ρ) : WA P n B I Γ ops fuel listed Q ρ := ⟨fun a h1 h2 h3 w h4 => h.out a h1 h2 h3 w (h4.drop hs)⟩
theorem WA.slack : Slack (fun Γ' ρ' => WA P n B I Γ' ops fuel listed Q ρ') := fun _ _ _ _ hp hs h => WA.perm hp (WA.drop hs h)
end
end Go.Pen
end
