/- Texts joined: PenP, PenQ, Far, Sum, Tha. -/
import Derived.Test.YthecbhegjdcjfaaDoorJp16
import Derived.Laws.Slices
import Derived.Laws.CopyRow
section
/- The pen's rules, more: a slice cut to a length and a room; copy into a row of the caller's own. -/
set_option linter.unusedVariables false
set_option linter.unusedSimpArgs false
namespace Go.Pen
section
variable {P : Program} {n : Nat} {B : World} {I : List Nat} {Γ Γ1 Γ2 : List (Nat × Obj)} {ρ : Env} {ops : Array Oper} {md : Bool} {K : List (Nat × Obj) → Env → Prop}
  {d : Nat} {ty : TypeId} {pos : String} {af : Array Edge} {t t' e : TypeId} {x y z : Operand} {k k' : IntKind} {b : Nat}

theorem OP.slice3 {m bytes : Nat} {zv : Value} {o len cap : Nat} {h' m' : Nat} {hh mm : Int} [hS : TSlice P t e] [hI : TI P e m bytes zv] (hd : Nat.blt d n = true) (hx : ev ρ x = .slice (some ⟨b, o, none⟩) len cap) (hy : ev ρ y = .int k hh) (hz : ev ρ z = .int k' mm)
    (hhh : hh = (h' : Int)) (hmm : mm = (m' : Int)) (h1 : h' ≤ m') (h2 : m' ≤ cap) (h : K Γ (upd ρ d (.slice (some ⟨b, o, none⟩) h' m'))) :
    OP P n B I Γ md ops ⟨some d, .slice t x none (some y) (some z), ty, pos, af, none⟩ K ρ :=
  OP.pure1 _ hd (fun w _ => by
    obtain ⟨i, i1, i2, i3, i4⟩ := hI.out
    subst hhh hmm
    have he : P.underlying t = some (.slice (P.elem t)) := by rw [hS.out]; simp [Program.elem, hS.out]
    have e1 := run_slice_hm (P := P) w t (some ⟨b, o, none⟩) len cap he k k' (h' : Int) (m' : Int) (by omega) (by omega) (by omega)
    have e0 : P.elem t = e := by simp [Program.elem, hS.out]
    have e2 : (sizeOf (P.elem t)).run P w = .ok m w := by rw [e0]; simp [sizeOf, typeInfo, i1, i2]
    rw [e2] at e1
    have e3 : sliced (some ⟨b, o, none⟩) 0 (Int.toNat (h' : Int)) (Int.toNat (m' : Int)) m = .slice (some ⟨b, o, none⟩) h' m' := by
      unfold sliced
      simp only [Int.toNat_natCast, Nat.sub_zero, Nat.zero_mul, Option.map_some, add_mk, Nat.add_zero, ite_self]
    simp only [Result.andThen_ok, e3] at e1
    simp only [execOp, hx, hy, hz, Sem.run_bind, Sem.run_pure, Option.map_none, Option.map_some, run_sliceAt_slice w t _ _ _ _ he, e1, Result.andThen_ok]) h
/-- 'copy(dst, src)' of elements of one cell; dst's row is the caller's own and is written from its first place. -/
theorem OP.copy1 {bytes : Nat} {zv : Value} {dn dc xo xn xc xb : Nat} {tys : Array TypeId} {cur : List Value} {vs : List Value} {T : TypeId} [hS : TSlice P t e] [hI : TI P e 1 bytes zv]
    (hd : Nat.blt d n = true) (ht : tys = #[t, t']) (hx : ev ρ x = .slice (some ⟨b, 0, none⟩) dn dc) (hy : ev ρ y = .slice (some ⟨xb, xo, none⟩) xn xc)
    (hvl : vs.length = Nat.min xn dn) (hfit : vs.length ≤ cur.length) (hvs : SeesN B I ((b, .cells cur.toArray T (0, 0)) :: Γ) xb xo vs) (h1 : ∀ u ∈ vs, u.oneCell' = true)
    (h : K ((b, .cells (vs ++ cur.drop vs.length).toArray T (0, 0)) :: Γ) (upd ρ d (.int .i64 (vs.length : Int)))) :
    OP P n B I ((b, .cells cur.toArray T (0, 0)) :: Γ) false ops ⟨some d, .call ⟨.builtin .copy, #[x, y], tys⟩, ty, pos, af, none⟩ K ρ :=
  OP.gen hd fun w hw => by
    obtain ⟨i, i1, i2, i3, i4⟩ := hI.out
    have hblk : w.heap[b]? = some (.cells cur.toArray T (0, 0)) := hw.has (b, _) (by simp)
    have hs : (P.info? e).map (·.size) = some 1 := by rw [i1]; simp [i2]
    have hrun := run_copy_row (P := P) w t t' ty e b 0 dn dc ⟨xb, xo, none⟩ xn xc cur.toArray T vs hS.out hs hblk hvl (hvs.cells hw) (by simpa using hfit) h1
    have hrow : (cur.toArray.toList.take 0 ++ vs ++ cur.toArray.toList.drop (0 + vs.length)).toArray = (vs ++ cur.drop vs.length).toArray := by simp
    rw [hrow] at hrun
    refine ⟨_, _, _, ?_, hw.setRow, h⟩
    simp only [execOp, resolve, invoke, builtin, ht, hx, hy, List.map_toArray, List.map_cons, List.map_nil, Sem.run_bind, Sem.run_pure, Result.andThen_ok, hrun]
    rfl
end
end Go.Pen
end
section
/- The pen's rules, more: a slice made with room. -/
set_option linter.unusedVariables false
namespace Go.Pen
section
variable {P : Program} {n : Nat} {B : World} {I : List Nat} {Γ : List (Nat × Obj)} {ρ : Env} {ops : Array Oper} {K : List (Nat × Obj) → Env → Prop}
  {d : Nat} {ty : TypeId} {pos : String} {af : Array Edge} {t e : TypeId} {x y : Operand} {k k' : IntKind}
theorem OP.makeC {bytes : Nat} {z : Value} {l c : Nat} {ll cc : Int} [hS : TSlice P t e] [hI : TI P e 1 bytes z] (hd : Nat.blt d n = true) (hz : z.cells = #[z]) (hl : ev ρ x = .int k ll) (hc : ev ρ y = .int k' cc) (hll : ll = (l : Int)) (hcc : cc = (c : Int)) (hlc : l ≤ c) (hb : bytes * c ≤ 281474976710656) (h63 : c ≤ 9223372036854775807)
    (h : ∀ b, K ((b, .cells (Array.replicate c z) e (0, 0)) :: Γ) (upd ρ d (.slice (some ⟨b, 0, none⟩) l c))) :
    OP P n B I Γ false ops ⟨some d, .makeSlice t x y, ty, pos, af, none⟩ K ρ :=
  OP.gen hd fun w hw => ⟨.slice (some ⟨w.heap.size, 0, none⟩) l c, _, _, by
    obtain ⟨i, h1, h2, h3, h4⟩ := hI.out
    have := run_make (P := P) w t e i z hS.out h1 h4 k k' l c (by omega) (by omega) (by rw [h3, ← Int.natCast_mul]; omega) (by omega)
    rw [h2, Int.toNat_natCast, Int.toNat_natCast, madeCells_one z hz] at this
    simp only [execOp, hl, hc, hll, hcc, Sem.run_bind, this, Result.andThen_ok, Sem.run_pure], hw.new _, h _⟩
end
theorem rep_list (c : Nat) (z : Value) : Array.replicate c z = (List.replicate c z).toArray := by simp
end Go.Pen
end
section
/- The statements' own helpers: how far numbers are apart, lists near or alike, sums; rounding a list. Walked. %compact -/
set_option linter.unusedVariables false
set_option maxRecDepth 100000
namespace Go.Proofs.YthecbhegjdcjfaaDoor
open Go.Pen Go.Flt Go.Wav Go.Cyc Go.Qc

theorem subC_parts {a b r : Cx} (h : subC a b = some r) : floatBits .sub .f64 a.1 b.1 = some r.1 ∧ floatBits .sub .f64 a.2 b.2 = some r.2 := by
  unfold subC cSumBits at h
  simp only [Option.bind_eq_some_iff, Option.some.injEq] at h
  obtain ⟨x, h1, y, h2, rfl⟩ := h
  exact ⟨h1, h2⟩
theorem addC_parts {a b r : Cx} (h : addC a b = some r) : floatBits .add .f64 a.1 b.1 = some r.1 ∧ floatBits .add .f64 a.2 b.2 = some r.2 := by
  unfold addC cSumBits at h
  simp only [Option.bind_eq_some_iff, Option.some.injEq] at h
  obtain ⟨x, h1, y, h2, rfl⟩ := h
  exact ⟨h1, h2⟩
set_option maxHeartbeats 1000000 in
theorem RSub_fn (a b r : Cx) (h : subC a b = some r) (w : World) : Does Tryd.prog 39 #[.complex .f64 a.1 a.2, .complex .f64 b.1 b.2] [] w fun v Γ => v = .complex .f64 r.1 r.2 ∧ Γ = [] := by
  obtain ⟨h1, h2⟩ := subC_parts h
  refine Does.enter Tryd.func39 rfl Tryd.ntmps39 rfl (St.start w) ?_
  repeat' (first | refine Fin.tail ?_ | refine Fin.then_normal ?_ | refine Fin.then_exit ?_ | refine Fin.then_ret ?_ | refine Fin.block_normal ?_ | refine Fin.block_ret ?_ | refine Fin.block_hit ?_ | refine Fin.block_miss rfl ?_ | refine Fin.loop_exit ?_ | refine Fin.loop_ret ?_ | refine WP.seq ?_ | (refine WP.regionQ (by kernel_rfl) (by kernel_rfl) ?_) | refine WP.block ?_ | refine WP.region ?_ | refine WP.skip ?_ | refine WP.exit ?_ | refine WP.ret ?_ | refine WP.label ?_ | refine WP.cond_true rfl ?_ | refine WP.cond_false rfl ?_ | (refine WP.cond_dec rfl (fun h => ?_) (fun h => ?_) <;> (try (exfalso; omega))) | (refine WP.cond_bool rfl (fun h => ?_) (fun h => ?_)) | refine WL.nil ?_ | refine WL.cons ?_ | (show OP _ _ _ _ _ _ _ ⟨_, .move _, _, _, _, none⟩ _ _; first | refine OP.mI rfl rfl ?_ | refine OP.mB rfl rfl ?_ | refine OP.mC rfl rfl ?_ | refine OP.mF rfl rfl ?_ | refine OP.mS rfl rfl ?_ | refine OP.mP rfl rfl ?_ | refine OP.mA rfl rfl ?_ | refine OP.mT rfl rfl ?_ | refine OP.mM rfl rfl ?_ | refine OP.mU rfl rfl ?_ | refine OP.move rfl rfl ?_) | (show OP _ _ _ _ _ _ _ ⟨_, .assign _, _, _, _, none⟩ _ _; first | refine OP.aI rfl rfl ?_ | refine OP.aB rfl rfl ?_ | refine OP.aC rfl rfl ?_ | refine OP.aF rfl rfl ?_ | refine OP.aS rfl rfl ?_ | refine OP.aP rfl rfl ?_ | refine OP.aA rfl rfl ?_ | refine OP.aT rfl rfl ?_ | refine OP.aM rfl rfl ?_ | refine OP.aU rfl rfl ?_ | refine OP.assign rfl rfl ?_) | (show OP _ _ _ _ _ _ _ ⟨_, .call _, _, _, _, none⟩ _ _; first | refine OP.real rfl rfl ?_ | refine OP.imag rfl rfl ?_ | refine OP.complex rfl rfl rfl ?_) | (show OP _ _ _ _ _ _ _ ⟨_, .binOp _ _ _ _ _, _, _, _, none⟩ _ _; first | refine OP.farith (r := r.1) rfl rfl rfl h1 ?_ | refine OP.farith (r := r.2) rfl rfl rfl h2 ?_ | (refine OP.sub rfl rfl rfl ?_ ?_ ?_; omega; omega)))
  refine Fin.ret1 (h0 := .inl rfl) rfl rfl ?_
  exact ⟨rfl, rfl⟩
set_option maxHeartbeats 1000000 in
theorem RAdd_fn (a b r : Cx) (h : addC a b = some r) (w : World) : Does Tryd.prog 16 #[.complex .f64 a.1 a.2, .complex .f64 b.1 b.2] [] w fun v Γ => v = .complex .f64 r.1 r.2 ∧ Γ = [] := by
  obtain ⟨h1, h2⟩ := addC_parts h
  refine Does.enter Tryd.func16 rfl Tryd.ntmps16 rfl (St.start w) ?_
  repeat' (first | refine Fin.tail ?_ | refine Fin.then_normal ?_ | refine Fin.then_exit ?_ | refine Fin.then_ret ?_ | refine Fin.block_normal ?_ | refine Fin.block_ret ?_ | refine Fin.block_hit ?_ | refine Fin.block_miss rfl ?_ | refine Fin.loop_exit ?_ | refine Fin.loop_ret ?_ | refine WP.seq ?_ | (refine WP.regionQ (by kernel_rfl) (by kernel_rfl) ?_) | refine WP.block ?_ | refine WP.region ?_ | refine WP.skip ?_ | refine WP.exit ?_ | refine WP.ret ?_ | refine WP.label ?_ | refine WP.cond_true rfl ?_ | refine WP.cond_false rfl ?_ | (refine WP.cond_dec rfl (fun h => ?_) (fun h => ?_) <;> (try (exfalso; omega))) | (refine WP.cond_bool rfl (fun h => ?_) (fun h => ?_)) | refine WL.nil ?_ | refine WL.cons ?_ | (show OP _ _ _ _ _ _ _ ⟨_, .move _, _, _, _, none⟩ _ _; first | refine OP.mI rfl rfl ?_ | refine OP.mB rfl rfl ?_ | refine OP.mC rfl rfl ?_ | refine OP.mF rfl rfl ?_ | refine OP.mS rfl rfl ?_ | refine OP.mP rfl rfl ?_ | refine OP.mA rfl rfl ?_ | refine OP.mT rfl rfl ?_ | refine OP.mM rfl rfl ?_ | refine OP.mU rfl rfl ?_ | refine OP.move rfl rfl ?_) | (show OP _ _ _ _ _ _ _ ⟨_, .assign _, _, _, _, none⟩ _ _; first | refine OP.aI rfl rfl ?_ | refine OP.aB rfl rfl ?_ | refine OP.aC rfl rfl ?_ | refine OP.aF rfl rfl ?_ | refine OP.aS rfl rfl ?_ | refine OP.aP rfl rfl ?_ | refine OP.aA rfl rfl ?_ | refine OP.aT rfl rfl ?_ | refine OP.aM rfl rfl ?_ | refine OP.aU rfl rfl ?_ | refine OP.assign rfl rfl ?_) | (show OP _ _ _ _ _ _ _ ⟨_, .call _, _, _, _, none⟩ _ _; first | refine OP.real rfl rfl ?_ | refine OP.imag rfl rfl ?_ | refine OP.complex rfl rfl rfl ?_) | (show OP _ _ _ _ _ _ _ ⟨_, .binOp _ _ _ _ _, _, _, _, none⟩ _ _; first | refine OP.farith (r := r.1) rfl rfl rfl h1 ?_ | refine OP.farith (r := r.2) rfl rfl rfl h2 ?_ | (refine OP.add rfl rfl rfl ?_ ?_ ?_; omega; omega)))
  refine Fin.ret1 (h0 := .inl rfl) rfl rfl ?_
  exact ⟨rfl, rfl⟩
/-- The greater part, without its sign. -/
def sizeF (d : Cx) : Nat := if (Ieee.double.order (abF d.1) (abF d.2) == some .lt) = true then abF d.2 else abF d.1
set_option maxHeartbeats 1000000 in
theorem RSize_fn (a : Cx) (ha : Ok a) (w : World) : Does Tryd.prog 38 #[.complex .f64 a.1 a.2] [] w fun v Γ => v = .float .f64 (sizeF a) ∧ Γ = [] := by
  have e1 := self_eq (abF_fin ha.f1)
  have e2 := self_eq (abF_fin ha.f2)
  unfold sizeF
  obtain ⟨b, hb⟩ : ∃ b, b = (Ieee.double.order (abF a.1) (abF a.2) == some .lt) := ⟨_, rfl⟩
  rw [← hb]
  refine Does.enter Tryd.func38 rfl Tryd.ntmps38 rfl (St.start w) ?_
  repeat' (first | refine Fin.tail ?_ | refine Fin.then_normal ?_ | refine Fin.then_exit ?_ | refine Fin.then_ret ?_ | refine Fin.block_normal ?_ | refine Fin.block_ret ?_ | refine Fin.block_hit ?_ | refine Fin.block_miss rfl ?_ | refine Fin.loop_exit ?_ | refine Fin.loop_ret ?_ | refine WP.seq ?_ | (refine WP.regionQ (by kernel_rfl) (by kernel_rfl) ?_) | refine WP.block ?_ | refine WP.region ?_ | refine WP.skip ?_ | refine WP.exit ?_ | refine WP.ret ?_ | refine WP.label ?_ | refine WP.cond_true rfl ?_ | refine WP.cond_false rfl ?_ | (refine WP.cond_dec rfl (fun h => ?_) (fun h => ?_) <;> (try (exfalso; omega))) | (refine WP.cond_bool rfl (fun h => ?_) (fun h => ?_)) | refine WL.nil ?_ | refine WL.cons ?_ | (show OP _ _ _ _ _ _ _ ⟨_, _, _, _, _, some _⟩ _ _; first | refine OP.guard_yes rfl rfl ?_ | refine OP.guard_no rfl rfl rfl rfl ?_ | refine OP.guard_un rfl rfl rfl ?_ | refine OP.guard_no0 rfl rfl rfl ?_ | (refine OP.guard_dec rfl rfl (fun h => ?_) (fun h => ?_) <;> (try (exfalso; omega))) | refine OP.guard_bool rfl rfl (fun h => ?_) (fun h => ?_)) | (show OP _ _ _ _ _ _ _ ⟨_, .move _, _, _, _, none⟩ _ _; first | refine OP.mI rfl rfl ?_ | refine OP.mB rfl rfl ?_ | refine OP.mC rfl rfl ?_ | refine OP.mF rfl rfl ?_ | refine OP.mS rfl rfl ?_ | refine OP.mP rfl rfl ?_ | refine OP.mA rfl rfl ?_ | refine OP.mT rfl rfl ?_ | refine OP.mM rfl rfl ?_ | refine OP.mU rfl rfl ?_ | refine OP.move rfl rfl ?_) | (show OP _ _ _ _ _ _ _ ⟨_, .assign _, _, _, _, none⟩ _ _; first | refine OP.aI rfl rfl ?_ | refine OP.aB rfl rfl ?_ | refine OP.aC rfl rfl ?_ | refine OP.aF rfl rfl ?_ | refine OP.aS rfl rfl ?_ | refine OP.aP rfl rfl ?_ | refine OP.aA rfl rfl ?_ | refine OP.aT rfl rfl ?_ | refine OP.aM rfl rfl ?_ | refine OP.aU rfl rfl ?_ | refine OP.assign rfl rfl ?_) | (show OP _ _ _ _ _ _ _ ⟨_, .call _, _, _, _, none⟩ _ _; first | refine OP.callq _ rfl (fun w _ => AbsG_fn a.1 ha.w.1 w) (fun _ _ h => h.1) ?_ | refine OP.callq _ rfl (fun w _ => AbsG_fn a.2 ha.w.2 w) (fun _ _ h => h.1) ?_ | refine OP.real rfl rfl ?_ | refine OP.imag rfl rfl ?_) | (show OP _ _ _ _ _ _ _ ⟨_, .binOp _ _ _ _ _, _, _, _, none⟩ _ _; first | refine OP.fcmpK (r := false) _ rfl rfl rfl e1 rfl ?_ | refine OP.fcmpK (r := false) _ rfl rfl rfl e2 rfl ?_ | refine OP.fcmpK (op := .lss) (r := b) _ rfl rfl rfl rfl (by rw [hb]) ?_ | refine OP.lss rfl rfl rfl ?_ | refine OP.neq rfl rfl rfl ?_ | refine OP.neq2 rfl rfl rfl ?_ | refine OP.neqd rfl rfl rfl ?_) | (show OP _ _ _ _ _ _ _ ⟨_, .pick _ _ _, _, _, _, none⟩ _ _; first | refine OP.pick_true rfl rfl ?_ | refine OP.pick_false rfl rfl ?_))
  · rw [if_pos h]
    refine Fin.ret1 (h0 := .inl rfl) rfl rfl ?_
    exact ⟨rfl, rfl⟩
  · rw [if_neg (by rw [h]; decide)]
    refine Fin.ret1 (h0 := .inl rfl) rfl rfl ?_
    exact ⟨rfl, rfl⟩
set_option maxHeartbeats 1000000 in
theorem RFar_fn (a b d : Cx) (h : subC a b = some d) (hd : Ok d) (w : World) : Does Tryd.prog 23 #[.complex .f64 a.1 a.2, .complex .f64 b.1 b.2] [] w fun v Γ => v = .float .f64 (sizeF d) ∧ Γ = [] := by
  refine Does.enter Tryd.func23 rfl Tryd.ntmps23 rfl (St.start w) ?_
  repeat' (first | refine Fin.tail ?_ | refine Fin.then_normal ?_ | refine Fin.then_exit ?_ | refine Fin.then_ret ?_ | refine Fin.block_normal ?_ | refine Fin.block_ret ?_ | refine Fin.block_hit ?_ | refine Fin.block_miss rfl ?_ | refine Fin.loop_exit ?_ | refine Fin.loop_ret ?_ | refine WP.seq ?_ | (refine WP.regionQ (by kernel_rfl) (by kernel_rfl) ?_) | refine WP.block ?_ | refine WP.region ?_ | refine WP.skip ?_ | refine WP.exit ?_ | refine WP.ret ?_ | refine WP.label ?_ | refine WP.cond_true rfl ?_ | refine WP.cond_false rfl ?_ | (refine WP.cond_dec rfl (fun h => ?_) (fun h => ?_) <;> (try (exfalso; omega))) | (refine WP.cond_bool rfl (fun h => ?_) (fun h => ?_)) | refine WL.nil ?_ | refine WL.cons ?_ | (show OP _ _ _ _ _ _ _ ⟨_, .move _, _, _, _, none⟩ _ _; first | refine OP.mI rfl rfl ?_ | refine OP.mB rfl rfl ?_ | refine OP.mC rfl rfl ?_ | refine OP.mF rfl rfl ?_ | refine OP.mS rfl rfl ?_ | refine OP.mP rfl rfl ?_ | refine OP.mA rfl rfl ?_ | refine OP.mT rfl rfl ?_ | refine OP.mM rfl rfl ?_ | refine OP.mU rfl rfl ?_ | refine OP.move rfl rfl ?_) | (show OP _ _ _ _ _ _ _ ⟨_, .assign _, _, _, _, none⟩ _ _; first | refine OP.aI rfl rfl ?_ | refine OP.aB rfl rfl ?_ | refine OP.aC rfl rfl ?_ | refine OP.aF rfl rfl ?_ | refine OP.aS rfl rfl ?_ | refine OP.aP rfl rfl ?_ | refine OP.aA rfl rfl ?_ | refine OP.aT rfl rfl ?_ | refine OP.aM rfl rfl ?_ | refine OP.aU rfl rfl ?_ | refine OP.assign rfl rfl ?_) | (show OP _ _ _ _ _ _ _ ⟨_, .call _, _, _, _, none⟩ _ _; first | refine OP.callq _ rfl (fun w _ => RSub_fn a b d h w) (fun _ _ h => h.1) ?_ | refine OP.callq _ rfl (fun w _ => RSize_fn d hd w) (fun _ _ h => h.1) ?_))
  refine Fin.ret1 (h0 := .inl rfl) rfl rfl ?_
  exact ⟨rfl, rfl⟩
theorem rv_abF {p : Nat} (hp : p < 18446744073709551616) {B : Rat} (h : bd (rv p) B) : bd (rv (abF p)) B := by
  unfold rv at *
  rw [val_abF hp]
  rcases Int.le_total 0 (val p) with h0 | h0
  · rw [Int.natAbs_of_nonneg h0]; exact h
  · have e : ((val p).natAbs : Int) = -(val p) := by omega
    rw [e, Rat.intCast_neg, Rat.div_def, Rat.neg_mul, ← Rat.div_def]
    exact bd_neg h
/-- 2^-k's bits read as 2^-k. -/
theorem rv_c8 : rv 4571153621781053440 = 1 / 256 := by decide +kernel
theorem near_lt {a b : Cx} (ha : Ok a) (hb : Ok b) (h : bq (cv a - cv b) (1 / 300)) : ∃ d, subC a b = some d ∧ Ok d ∧ (Ieee.double.order (sizeF d) 4571153621781053440 == some .lt) = true := by
  obtain ⟨d, h1, h2, h3⟩ := subC_err 0 (by decide) ha hb h (by decide +kernel)
  have hu : ulp 0 = 1 / 18014398509481984 := by unfold ulp; decide +kernel
  rw [hu] at h3
  have hd := (h3.of h).mono (B := 1 / 299) (by decide +kernel)
  have k1 := rv_abF h2.w.1 hd.r
  have k2 := rv_abF h2.w.2 hd.i
  refine ⟨d, h1, h2, ?_⟩
  have hlt : ∀ p, finB p = true → bd (rv p) (1 / 299) → (Ieee.double.order p 4571153621781053440 == some .lt) = true := by
    intro p hp hb
    rw [order_lt hp (by decide) (by rw [rv_c8]; have := hb.2; grind)]; rfl
  unfold sizeF
  split
  · exact hlt _ (abF_fin h2.f2) k2
  · exact hlt _ (abF_fin h2.f1) k1
theorem pow12 {m : Nat} (hm : m ≤ 12) : 2 ^ m ≤ 4096 := Nat.le_trans (Nat.pow_le_pow_right (by decide) hm) (by decide)
/-- Nearer than a bound. -/
theorem near_ltB {a b : Cx} {bb : Nat} {B C : Rat} (hbb : finB bb = true) (ha : Ok a) (hb : Ok b) (h : bq (cv a - cv b) B) (hB : B < 1) (hC : B + 1 / 18014398509481984 ≤ C) (hlt : C < rv bb) : ∃ d, subC a b = some d ∧ Ok d ∧ (Ieee.double.order (sizeF d) bb == some .lt) = true := by
  obtain ⟨d, h1, h2, h3⟩ := subC_err 0 (by decide) ha hb h (by rw [Rat.pow_zero]; exact hB)
  have hu : ulp 0 = 1 / 18014398509481984 := by unfold ulp; decide +kernel
  rw [hu] at h3
  have hd := (h3.of h).mono (B := C) (by grind)
  have k1 := rv_abF h2.w.1 hd.r
  have k2 := rv_abF h2.w.2 hd.i
  refine ⟨d, h1, h2, ?_⟩
  have hl : ∀ p, finB p = true → bd (rv p) C → (Ieee.double.order p bb == some .lt) = true := by
    intro p hp hb
    rw [order_lt hp hbb (by have := hb.2; grind)]; rfl
  unfold sizeF
  split
  · exact hl _ (abF_fin h2.f2) k2
  · exact hl _ (abF_fin h2.f1) k1
theorem wf_whC {a : Cx} (ha : Ok a) : finB a.1 = true ∧ finB a.2 = true := ⟨ha.f1, ha.f2⟩
theorem rte_run {p : Nat} (hp : finB p = true) (w : World) : (callFunc 26 #[.float .f64 p]).run Tryd.prog w = .ok (.value (.float .f64 (rte p))) w := by
  rw [run_callFunc_extern (e := Go.Extern.MathFloor.toIntegral "math.RoundToEven" .even) Tryd.func26 (by kernel_rfl) rfl (by kernel_rfl) (by kernel_rfl)]
  obtain ⟨s, m, e, er, _⟩ := fin_num hp
  rw [whole_run "math.RoundToEven" .even er]
  rfl
theorem rte_lt {p : Nat} (hp : finB p = true) : rte p < 18446744073709551616 := Ieee.Format.write_lt _ _
set_option maxHeartbeats 2000000 in
theorem Whole_fn (N : Nat) (hN : N ≤ 4096) (x : List Cx) (hx : x.length = N) (hox : ∀ (i : Nat) (a : Cx), x[i]? = some a → Ok a) (b o c : Nat) (w : World) (hr : RdC w b o x) :
    Does Tryd.prog 15 #[.slice (some ⟨b, o, none⟩) N c] [] w fun v Γ => ∃ q c sp, v = .slice (some ⟨q, 0, none⟩) N c ∧ Γ = [(q, .cells (cxs (x.map whC) ++ sp).toArray 28 (0, 0))] := by
  refine Does.enter Tryd.func15 rfl Tryd.ntmps15 rfl (St.start w) ?_
  repeat' (first | refine Fin.tail ?_ | refine Fin.then_normal ?_ | refine Fin.then_exit ?_ | refine Fin.then_ret ?_ | refine Fin.block_normal ?_ | refine Fin.block_ret ?_ | refine Fin.block_hit ?_ | refine Fin.block_miss rfl ?_ | refine Fin.loop_exit ?_ | refine Fin.loop_ret ?_ | refine WP.seq ?_ | (refine WP.regionQ (by kernel_rfl) (by kernel_rfl) ?_) | refine WP.block ?_ | refine WP.region ?_ | refine WP.skip ?_ | refine WP.exit ?_ | refine WP.ret ?_ | refine WP.label ?_ | refine WP.cond_true rfl ?_ | refine WP.cond_false rfl ?_ | (refine WP.cond_dec rfl (fun h => ?_) (fun h => ?_) <;> (try (exfalso; omega))) | (refine WP.cond_bool rfl (fun h => ?_) (fun h => ?_)) | refine WL.nil ?_ | refine WL.cons ?_ | (show OP _ _ _ _ _ _ _ ⟨_, .move _, _, _, _, none⟩ _ _; first | refine OP.mI rfl rfl ?_ | refine OP.mB rfl rfl ?_ | refine OP.mC rfl rfl ?_ | refine OP.mF rfl rfl ?_ | refine OP.mS rfl rfl ?_ | refine OP.mP rfl rfl ?_ | refine OP.mA rfl rfl ?_ | refine OP.mT rfl rfl ?_ | refine OP.mM rfl rfl ?_ | refine OP.mU rfl rfl ?_ | refine OP.move rfl rfl ?_) | (show OP _ _ _ _ _ _ _ ⟨_, .assign _, _, _, _, none⟩ _ _; first | refine OP.aI rfl rfl ?_ | refine OP.aB rfl rfl ?_ | refine OP.aC rfl rfl ?_ | refine OP.aF rfl rfl ?_ | refine OP.aS rfl rfl ?_ | refine OP.aP rfl rfl ?_ | refine OP.aA rfl rfl ?_ | refine OP.aT rfl rfl ?_ | refine OP.aM rfl rfl ?_ | refine OP.aU rfl rfl ?_ | refine OP.assign rfl rfl ?_) | (show OP _ _ _ _ _ _ _ ⟨_, .call _, _, _, _, none⟩ _ _; first | refine OP.len rfl rfl rfl ?_ | refine OP.real rfl rfl ?_ | refine OP.imag rfl rfl ?_ | refine OP.complex rfl rfl rfl ?_) | (show OP _ _ _ _ _ _ _ ⟨_, .binOp _ _ _ _ _, _, _, _, none⟩ _ _; first | (refine OP.add rfl rfl rfl ?_ ?_ ?_; omega; omega) | refine OP.lss rfl rfl rfl ?_) | (show OP _ _ _ _ _ _ _ ⟨_, .load _ _, _, _, _, none⟩ _ _; first | refine OP.ld rfl rfl inferInstance rfl ?_ | refine OP.load rfl rfl (Sees.old0 (by assumption)) ?_ | refine OP.ldA rfl rfl inferInstance rfl ?_) | (refine OP.buildSlice rfl rfl ?_ rfl rfl (fun bs => ?_); (decide)) | refine OP.buildSlice0 rfl rfl (fun bs => ?_))
  refine OP.makeC (z := .complex .f64 0 0) (l := 0) (c := N) rfl rfl rfl rfl rfl rfl (by omega) (by omega) (by omega) (fun q0 => ?_)
  rw [rep_list]
  repeat' (first | refine Fin.tail ?_ | refine Fin.then_normal ?_ | refine Fin.then_exit ?_ | refine Fin.then_ret ?_ | refine Fin.block_normal ?_ | refine Fin.block_ret ?_ | refine Fin.block_hit ?_ | refine Fin.block_miss rfl ?_ | refine Fin.loop_exit ?_ | refine Fin.loop_ret ?_ | refine WP.seq ?_ | (refine WP.regionQ (by kernel_rfl) (by kernel_rfl) ?_) | refine WP.block ?_ | refine WP.region ?_ | refine WP.skip ?_ | refine WP.exit ?_ | refine WP.ret ?_ | refine WP.label ?_ | refine WP.cond_true rfl ?_ | refine WP.cond_false rfl ?_ | (refine WP.cond_dec rfl (fun h => ?_) (fun h => ?_) <;> (try (exfalso; omega))) | (refine WP.cond_bool rfl (fun h => ?_) (fun h => ?_)) | refine WL.nil ?_ | refine WL.cons ?_ | (show OP _ _ _ _ _ _ _ ⟨_, .move _, _, _, _, none⟩ _ _; first | refine OP.mI rfl rfl ?_ | refine OP.mB rfl rfl ?_ | refine OP.mC rfl rfl ?_ | refine OP.mF rfl rfl ?_ | refine OP.mS rfl rfl ?_ | refine OP.mP rfl rfl ?_ | refine OP.mA rfl rfl ?_ | refine OP.mT rfl rfl ?_ | refine OP.mM rfl rfl ?_ | refine OP.mU rfl rfl ?_ | refine OP.move rfl rfl ?_) | (show OP _ _ _ _ _ _ _ ⟨_, .assign _, _, _, _, none⟩ _ _; first | refine OP.aI rfl rfl ?_ | refine OP.aB rfl rfl ?_ | refine OP.aC rfl rfl ?_ | refine OP.aF rfl rfl ?_ | refine OP.aS rfl rfl ?_ | refine OP.aP rfl rfl ?_ | refine OP.aA rfl rfl ?_ | refine OP.aT rfl rfl ?_ | refine OP.aM rfl rfl ?_ | refine OP.aU rfl rfl ?_ | refine OP.assign rfl rfl ?_) | (show OP _ _ _ _ _ _ _ ⟨_, .call _, _, _, _, none⟩ _ _; first | refine OP.len rfl rfl rfl ?_ | refine OP.real rfl rfl ?_ | refine OP.imag rfl rfl ?_ | refine OP.complex rfl rfl rfl ?_) | (show OP _ _ _ _ _ _ _ ⟨_, .binOp _ _ _ _ _, _, _, _, none⟩ _ _; first | (refine OP.add rfl rfl rfl ?_ ?_ ?_; omega; omega) | refine OP.lss rfl rfl rfl ?_) | (show OP _ _ _ _ _ _ _ ⟨_, .load _ _, _, _, _, none⟩ _ _; first | refine OP.ld rfl rfl inferInstance rfl ?_ | refine OP.load rfl rfl (Sees.old0 (by assumption)) ?_ | refine OP.ldA rfl rfl inferInstance rfl ?_) | (refine OP.buildSlice rfl rfl ?_ rfl rfl (fun bs => ?_); (decide)) | refine OP.buildSlice0 rfl rfl (fun bs => ?_))
  refine WP.loop [3, 4, 5, 11, 12, 13, 14, 15, 16, 17, 18, 19, 20, 21, 22, 23, 24, 25, 26] (fun z : Nat × Nat × Nat × List Value => [(11, .int .i64 z.1), (3, .slice (some ⟨z.2.1, 0, none⟩) z.1 z.2.2.1)]) (fun z => [(z.2.1, .cells (cxs ((x.map whC).take z.1) ++ z.2.2.2).toArray 28 (0, 0))])
    (fun z => z.1 ≤ N ∧ z.1 + z.2.2.2.length = z.2.2.1) (fun z => N - z.1) (0, q0, N, List.replicate N (.complex .f64 0 0)) ⟨by dsimp only; omega, by dsimp only; simp⟩ rfl ⟨rfl, rfl, trivial⟩ ?_
  rintro ⟨k, bk, cap, sp⟩ jk ⟨k1, k2⟩
  dsimp only [updL] at k1 k2 ⊢
  by_cases hk : k < N
  · obtain ⟨a, ha⟩ : ∃ a, x[k]? = some a := ⟨x[k], List.getElem?_eq_getElem (by omega)⟩
    have oa := hox k a ha
    have la := hr.see ha
    have hcl : (cxs ((x.map whC).take k)).length = k := by rw [cxs_len, List.length_take, List.length_map, hx]; omega
    have hnx : cxs ((x.map whC).take k) ++ [Value.complex .f64 (whC a).1 (whC a).2] = cxs ((x.map whC).take (k + 1)) := by
      rw [List.take_add_one, List.getElem?_map, ha, cxs_append]; rfl
    repeat' (first | refine OP.indexAddr (j := k) rfl rfl rfl rfl hk ?_ | refine OP.load rfl rfl (la _) ?_ | refine Fin.tail ?_ | refine Fin.then_normal ?_ | refine Fin.then_exit ?_ | refine Fin.then_ret ?_ | refine Fin.block_normal ?_ | refine Fin.block_ret ?_ | refine Fin.block_hit ?_ | refine Fin.block_miss rfl ?_ | refine Fin.loop_exit ?_ | refine Fin.loop_ret ?_ | refine WP.seq ?_ | (refine WP.regionQ (by kernel_rfl) (by kernel_rfl) ?_) | refine WP.block ?_ | refine WP.region ?_ | refine WP.skip ?_ | refine WP.exit ?_ | refine WP.ret ?_ | refine WP.label ?_ | refine WP.cond_true rfl ?_ | refine WP.cond_false rfl ?_ | (refine WP.cond_dec rfl (fun h => ?_) (fun h => ?_) <;> (try (exfalso; omega))) | (refine WP.cond_bool rfl (fun h => ?_) (fun h => ?_)) | refine WL.nil ?_ | refine WL.cons ?_ | (show OP _ _ _ _ _ _ _ ⟨_, .move _, _, _, _, none⟩ _ _; first | refine OP.mI rfl rfl ?_ | refine OP.mB rfl rfl ?_ | refine OP.mC rfl rfl ?_ | refine OP.mF rfl rfl ?_ | refine OP.mS rfl rfl ?_ | refine OP.mP rfl rfl ?_ | refine OP.mA rfl rfl ?_ | refine OP.mT rfl rfl ?_ | refine OP.mM rfl rfl ?_ | refine OP.mU rfl rfl ?_ | refine OP.move rfl rfl ?_) | (show OP _ _ _ _ _ _ _ ⟨_, .assign _, _, _, _, none⟩ _ _; first | refine OP.aI rfl rfl ?_ | refine OP.aB rfl rfl ?_ | refine OP.aC rfl rfl ?_ | refine OP.aF rfl rfl ?_ | refine OP.aS rfl rfl ?_ | refine OP.aP rfl rfl ?_ | refine OP.aA rfl rfl ?_ | refine OP.aT rfl rfl ?_ | refine OP.aM rfl rfl ?_ | refine OP.aU rfl rfl ?_ | refine OP.assign rfl rfl ?_) | (show OP _ _ _ _ _ _ _ ⟨_, .call _, _, _, _, none⟩ _ _; first | refine OP.callx (f := 26) (.float .f64 (rte a.1)) rfl rfl (fun w => by exact rte_run oa.f1 w) ?_ | refine OP.callx (f := 26) (.float .f64 (rte a.2)) rfl rfl (fun w => by exact rte_run oa.f2 w) ?_ | refine OP.callq _ rfl (fun w _ => Plain_fn (rte a.1, rte a.2) (rte_lt oa.f1) (rte_lt oa.f2) w) (fun _ _ h => h.1) ?_ | (refine OP.appendP (m := 1) (bytes := 16) (z := Value.complex .f64 0 0) (Γ1 := [_]) (Γ2 := []) (sn := k) (sc := cap) (xs := cxs ((x.map whC).take k)) (sp := sp) (vs := [.complex .f64 (whC a).1 (whC a).2]) rfl rfl rfl rfl rfl (by rw [hcl, Nat.mul_one]) (by rw [hcl]; omega) (SeesN.cons (Sees.own (List.Mem.head _) rfl) SeesN.nil) rfl (cxs_one [whC a]) (by omega) (by omega) (fun pb sp' cap' hl hc => ?_)) | refine OP.len rfl rfl rfl ?_ | refine OP.real rfl rfl ?_ | refine OP.imag rfl rfl ?_ | refine OP.complex rfl rfl rfl ?_) | (show OP _ _ _ _ _ _ _ ⟨_, .binOp _ _ _ _ _, _, _, _, none⟩ _ _; first | (refine OP.add rfl rfl rfl ?_ ?_ ?_; omega; omega) | refine OP.lss rfl rfl rfl ?_) | (show OP _ _ _ _ _ _ _ ⟨_, .load _ _, _, _, _, none⟩ _ _; first | refine OP.ld rfl rfl inferInstance rfl ?_ | refine OP.load rfl rfl (Sees.old0 (by assumption)) ?_ | refine OP.ldA rfl rfl inferInstance rfl ?_) | (refine OP.buildSlice rfl rfl ?_ rfl rfl (fun bs => ?_); (decide)) | refine OP.buildSlice0 rfl rfl (fun bs => ?_))
    refine Fin.drop (Γ' := [(pb, .cells (cxs ((x.map whC).take k) ++ [Value.complex .f64 (whC a).1 (whC a).2] ++ sp').toArray 28 (0, 0))]) (List.Sublist.cons _ (List.Sublist.refl _)) ?_
    rw [hnx] at hl ⊢
    have hcl2 : (cxs ((x.map whC).take (k + 1))).length = k + 1 := by rw [cxs_len, List.length_take, List.length_map, hx]; omega
    refine Fin.loop_normal fun w' hst => ⟨(k + 1, pb, cap', sp'), ⟨by dsimp only; omega, by dsimp only; omega⟩, by dsimp only; omega, by (repeat' (first | exact Agree.refl _ _ | refine Agree.upd rfl ?_ | refine Agree.hav rfl ?_)), ⟨rfl, rfl, trivial⟩, hst⟩
  · have ek : k = N := by omega
    have e1 : (x.map whC).take k = x.map whC := List.take_of_length_le (by rw [List.length_map, hx]; omega)
    rw [e1]
    subst ek
    repeat' (first | refine Fin.tail ?_ | refine Fin.then_normal ?_ | refine Fin.then_exit ?_ | refine Fin.then_ret ?_ | refine Fin.block_normal ?_ | refine Fin.block_ret ?_ | refine Fin.block_hit ?_ | refine Fin.block_miss rfl ?_ | refine Fin.loop_exit ?_ | refine Fin.loop_ret ?_ | refine WP.seq ?_ | (refine WP.regionQ (by kernel_rfl) (by kernel_rfl) ?_) | refine WP.block ?_ | refine WP.region ?_ | refine WP.skip ?_ | refine WP.exit ?_ | refine WP.ret ?_ | refine WP.label ?_ | refine WP.cond_true rfl ?_ | refine WP.cond_false rfl ?_ | (refine WP.cond_dec rfl (fun h => ?_) (fun h => ?_) <;> (try (exfalso; omega))) | (refine WP.cond_bool rfl (fun h => ?_) (fun h => ?_)) | refine WL.nil ?_ | refine WL.cons ?_ | (show OP _ _ _ _ _ _ _ ⟨_, .move _, _, _, _, none⟩ _ _; first | refine OP.mI rfl rfl ?_ | refine OP.mB rfl rfl ?_ | refine OP.mC rfl rfl ?_ | refine OP.mF rfl rfl ?_ | refine OP.mS rfl rfl ?_ | refine OP.mP rfl rfl ?_ | refine OP.mA rfl rfl ?_ | refine OP.mT rfl rfl ?_ | refine OP.mM rfl rfl ?_ | refine OP.mU rfl rfl ?_ | refine OP.move rfl rfl ?_) | (show OP _ _ _ _ _ _ _ ⟨_, .assign _, _, _, _, none⟩ _ _; first | refine OP.aI rfl rfl ?_ | refine OP.aB rfl rfl ?_ | refine OP.aC rfl rfl ?_ | refine OP.aF rfl rfl ?_ | refine OP.aS rfl rfl ?_ | refine OP.aP rfl rfl ?_ | refine OP.aA rfl rfl ?_ | refine OP.aT rfl rfl ?_ | refine OP.aM rfl rfl ?_ | refine OP.aU rfl rfl ?_ | refine OP.assign rfl rfl ?_) | (show OP _ _ _ _ _ _ _ ⟨_, .call _, _, _, _, none⟩ _ _; first | refine OP.len rfl rfl rfl ?_ | refine OP.real rfl rfl ?_ | refine OP.imag rfl rfl ?_ | refine OP.complex rfl rfl rfl ?_) | (show OP _ _ _ _ _ _ _ ⟨_, .binOp _ _ _ _ _, _, _, _, none⟩ _ _; first | (refine OP.add rfl rfl rfl ?_ ?_ ?_; omega; omega) | refine OP.lss rfl rfl rfl ?_) | (show OP _ _ _ _ _ _ _ ⟨_, .load _ _, _, _, _, none⟩ _ _; first | refine OP.ld rfl rfl inferInstance rfl ?_ | refine OP.load rfl rfl (Sees.old0 (by assumption)) ?_ | refine OP.ldA rfl rfl inferInstance rfl ?_) | (refine OP.buildSlice rfl rfl ?_ rfl rfl (fun bs => ?_); (decide)) | refine OP.buildSlice0 rfl rfl (fun bs => ?_))
    refine Fin.ret1 (h0 := .inl rfl) rfl rfl ?_
    exact ⟨bk, cap, sp, rfl, rfl⟩
set_option maxHeartbeats 2000000 in
theorem Alike_fn (N : Nat) (hN : N ≤ 4096) (x y : List Cx) (hx : x.length = N) (hy : y.length = N) (hn : ∀ (i : Nat) (a b : Cx), x[i]? = some a → y[i]? = some b → ((Ieee.double.order a.1 b.1 == some .eq) && (Ieee.double.order a.2 b.2 == some .eq)) = true)
    (b o c b' o' c' : Nat) (w : World) (hr : RdC w b o x) (hr' : RdC w b' o' y) :
    Does Tryd.prog 14 #[.slice (some ⟨b, o, none⟩) N c, .slice (some ⟨b', o', none⟩) N c'] [] w fun v Γ => v = .bool true ∧ Γ = [] := by
  refine Does.enter Tryd.func14 rfl Tryd.ntmps14 rfl (St.start w) ?_
  repeat' (first | refine Fin.tail ?_ | refine Fin.then_normal ?_ | refine Fin.then_exit ?_ | refine Fin.then_ret ?_ | refine Fin.block_normal ?_ | refine Fin.block_ret ?_ | refine Fin.block_hit ?_ | refine Fin.block_miss rfl ?_ | refine Fin.loop_exit ?_ | refine Fin.loop_ret ?_ | refine WP.seq ?_ | (refine WP.regionQ (by kernel_rfl) (by kernel_rfl) ?_) | refine WP.block ?_ | refine WP.region ?_ | refine WP.skip ?_ | refine WP.exit ?_ | refine WP.ret ?_ | refine WP.label ?_ | refine WP.cond_true rfl ?_ | refine WP.cond_false rfl ?_ | (refine WP.cond_dec rfl (fun h => ?_) (fun h => ?_) <;> (try (exfalso; omega))) | (refine WP.cond_bool rfl (fun h => ?_) (fun h => ?_)) | refine WL.nil ?_ | refine WL.cons ?_ | (show OP _ _ _ _ _ _ _ ⟨_, .move _, _, _, _, none⟩ _ _; first | refine OP.mI rfl rfl ?_ | refine OP.mB rfl rfl ?_ | refine OP.mC rfl rfl ?_ | refine OP.mF rfl rfl ?_ | refine OP.mS rfl rfl ?_ | refine OP.mP rfl rfl ?_ | refine OP.mA rfl rfl ?_ | refine OP.mT rfl rfl ?_ | refine OP.mM rfl rfl ?_ | refine OP.mU rfl rfl ?_ | refine OP.move rfl rfl ?_) | (show OP _ _ _ _ _ _ _ ⟨_, .assign _, _, _, _, none⟩ _ _; first | refine OP.aI rfl rfl ?_ | refine OP.aB rfl rfl ?_ | refine OP.aC rfl rfl ?_ | refine OP.aF rfl rfl ?_ | refine OP.aS rfl rfl ?_ | refine OP.aP rfl rfl ?_ | refine OP.aA rfl rfl ?_ | refine OP.aT rfl rfl ?_ | refine OP.aM rfl rfl ?_ | refine OP.aU rfl rfl ?_ | refine OP.assign rfl rfl ?_) | refine OP.len rfl rfl rfl ?_ | (show OP _ _ _ _ _ _ _ ⟨_, .binOp _ _ _ _ _, _, _, _, none⟩ _ _; first | (refine OP.add rfl rfl rfl ?_ ?_ ?_; omega; omega) | refine OP.lss rfl rfl rfl ?_ | refine OP.neq rfl rfl rfl ?_ | refine OP.neq2 rfl rfl rfl ?_ | refine OP.neqd rfl rfl rfl ?_) | (show OP _ _ _ _ _ _ _ ⟨_, .load _ _, _, _, _, none⟩ _ _; first | refine OP.ld rfl rfl inferInstance rfl ?_ | refine OP.load rfl rfl (Sees.old0 (by assumption)) ?_ | refine OP.ldA rfl rfl inferInstance rfl ?_))
  refine WP.loop [5, 11, 12, 13, 14, 15, 16, 17, 18, 19, 20, 21, 22, 23, 24, 25] (fun k : Nat => [(5, .int .i64 k)]) (fun k => []) (fun k => k ≤ N) (fun k => N - k) 0 (by omega) rfl ⟨rfl, trivial⟩ ?_
  rintro k jk k1
  dsimp only [updL]
  by_cases hk : k < N
  · obtain ⟨a, ha⟩ : ∃ a, x[k]? = some a := ⟨x[k], List.getElem?_eq_getElem (by omega)⟩
    obtain ⟨e, he⟩ : ∃ e, y[k]? = some e := ⟨y[k], List.getElem?_eq_getElem (by omega)⟩
    have hcmp := hn k a e ha he
    have la := hr.see ha []
    have le := hr'.see he []
    repeat' (first | refine OP.indexAddr (j := k) rfl rfl rfl rfl hk ?_ | refine OP.load rfl rfl la ?_ | refine OP.load rfl rfl le ?_ | refine Fin.tail ?_ | refine Fin.then_normal ?_ | refine Fin.then_exit ?_ | refine Fin.then_ret ?_ | refine Fin.block_normal ?_ | refine Fin.block_ret ?_ | refine Fin.block_hit ?_ | refine Fin.block_miss rfl ?_ | refine Fin.loop_exit ?_ | refine Fin.loop_ret ?_ | refine WP.seq ?_ | (refine WP.regionQ (by kernel_rfl) (by kernel_rfl) ?_) | refine WP.block ?_ | refine WP.region ?_ | refine WP.skip ?_ | refine WP.exit ?_ | refine WP.ret ?_ | refine WP.label ?_ | refine WP.cond_true rfl ?_ | refine WP.cond_false rfl ?_ | (refine WP.cond_dec rfl (fun h => ?_) (fun h => ?_) <;> (try (exfalso; omega))) | (refine WP.cond_bool rfl (fun h => ?_) (fun h => ?_)) | refine WL.nil ?_ | refine WL.cons ?_ | (show OP _ _ _ _ _ _ _ ⟨_, .move _, _, _, _, none⟩ _ _; first | refine OP.mI rfl rfl ?_ | refine OP.mB rfl rfl ?_ | refine OP.mC rfl rfl ?_ | refine OP.mF rfl rfl ?_ | refine OP.mS rfl rfl ?_ | refine OP.mP rfl rfl ?_ | refine OP.mA rfl rfl ?_ | refine OP.mT rfl rfl ?_ | refine OP.mM rfl rfl ?_ | refine OP.mU rfl rfl ?_ | refine OP.move rfl rfl ?_) | (show OP _ _ _ _ _ _ _ ⟨_, .assign _, _, _, _, none⟩ _ _; first | refine OP.aI rfl rfl ?_ | refine OP.aB rfl rfl ?_ | refine OP.aC rfl rfl ?_ | refine OP.aF rfl rfl ?_ | refine OP.aS rfl rfl ?_ | refine OP.aP rfl rfl ?_ | refine OP.aA rfl rfl ?_ | refine OP.aT rfl rfl ?_ | refine OP.aM rfl rfl ?_ | refine OP.aU rfl rfl ?_ | refine OP.assign rfl rfl ?_) | refine OP.len rfl rfl rfl ?_ | (show OP _ _ _ _ _ _ _ ⟨_, .binOp _ _ _ _ _, _, _, _, none⟩ _ _; first | refine OP.cneq hcmp rfl rfl rfl ?_ | (refine OP.add rfl rfl rfl ?_ ?_ ?_; omega; omega) | refine OP.lss rfl rfl rfl ?_ | refine OP.neq rfl rfl rfl ?_ | refine OP.neq2 rfl rfl rfl ?_ | refine OP.neqd rfl rfl rfl ?_) | (show OP _ _ _ _ _ _ _ ⟨_, .load _ _, _, _, _, none⟩ _ _; first | refine OP.ld rfl rfl inferInstance rfl ?_ | refine OP.load rfl rfl (Sees.old0 (by assumption)) ?_ | refine OP.ldA rfl rfl inferInstance rfl ?_))
    refine Fin.loop_normal fun w' hst => ⟨k + 1, by omega, by omega, by (repeat' (first | exact Agree.refl _ _ | refine Agree.upd rfl ?_ | refine Agree.hav rfl ?_)), ⟨rfl, trivial⟩, hst⟩
  · repeat' (first | refine Fin.tail ?_ | refine Fin.then_normal ?_ | refine Fin.then_exit ?_ | refine Fin.then_ret ?_ | refine Fin.block_normal ?_ | refine Fin.block_ret ?_ | refine Fin.block_hit ?_ | refine Fin.block_miss rfl ?_ | refine Fin.loop_exit ?_ | refine Fin.loop_ret ?_ | refine WP.seq ?_ | (refine WP.regionQ (by kernel_rfl) (by kernel_rfl) ?_) | refine WP.block ?_ | refine WP.region ?_ | refine WP.skip ?_ | refine WP.exit ?_ | refine WP.ret ?_ | refine WP.label ?_ | refine WP.cond_true rfl ?_ | refine WP.cond_false rfl ?_ | (refine WP.cond_dec rfl (fun h => ?_) (fun h => ?_) <;> (try (exfalso; omega))) | (refine WP.cond_bool rfl (fun h => ?_) (fun h => ?_)) | refine WL.nil ?_ | refine WL.cons ?_ | (show OP _ _ _ _ _ _ _ ⟨_, .move _, _, _, _, none⟩ _ _; first | refine OP.mI rfl rfl ?_ | refine OP.mB rfl rfl ?_ | refine OP.mC rfl rfl ?_ | refine OP.mF rfl rfl ?_ | refine OP.mS rfl rfl ?_ | refine OP.mP rfl rfl ?_ | refine OP.mA rfl rfl ?_ | refine OP.mT rfl rfl ?_ | refine OP.mM rfl rfl ?_ | refine OP.mU rfl rfl ?_ | refine OP.move rfl rfl ?_) | (show OP _ _ _ _ _ _ _ ⟨_, .assign _, _, _, _, none⟩ _ _; first | refine OP.aI rfl rfl ?_ | refine OP.aB rfl rfl ?_ | refine OP.aC rfl rfl ?_ | refine OP.aF rfl rfl ?_ | refine OP.aS rfl rfl ?_ | refine OP.aP rfl rfl ?_ | refine OP.aA rfl rfl ?_ | refine OP.aT rfl rfl ?_ | refine OP.aM rfl rfl ?_ | refine OP.aU rfl rfl ?_ | refine OP.assign rfl rfl ?_) | refine OP.len rfl rfl rfl ?_ | (show OP _ _ _ _ _ _ _ ⟨_, .binOp _ _ _ _ _, _, _, _, none⟩ _ _; first | (refine OP.add rfl rfl rfl ?_ ?_ ?_; omega; omega) | refine OP.lss rfl rfl rfl ?_ | refine OP.neq rfl rfl rfl ?_ | refine OP.neq2 rfl rfl rfl ?_ | refine OP.neqd rfl rfl rfl ?_) | (show OP _ _ _ _ _ _ _ ⟨_, .load _ _, _, _, _, none⟩ _ _; first | refine OP.ld rfl rfl inferInstance rfl ?_ | refine OP.load rfl rfl (Sees.old0 (by assumption)) ?_ | refine OP.ldA rfl rfl inferInstance rfl ?_))
    refine Fin.ret1 (h0 := .inl rfl) rfl rfl ?_
    exact ⟨rfl, rfl⟩
end Go.Proofs.YthecbhegjdcjfaaDoor
end
section
/- The first number of the transform of whole numbers is their sum, exactly. Nothing of the program. -/
set_option linter.unusedVariables false
set_option maxRecDepth 100000
namespace Go.Cyc
open Go.Flt Go.Qc Go.Wav Go.Pen

def ad (u v : Int × Int) : Int × Int := (u.1 + v.1, u.2 + v.2)
def isum (f : Nat → Int × Int) : Nat → Int × Int
  | 0 => (0, 0)
  | n + 1 => ad (isum f n) (f n)
theorem ad_assoc (a b c : Int × Int) : ad (ad a b) c = ad a (ad b c) := by unfold ad; rw [Int.add_assoc, Int.add_assoc]
theorem isum_two (f : Nat → Int × Int) : ∀ n, isum f (2 * n) = ad (isum (fun i => f (2 * i)) n) (isum (fun i => f (2 * i + 1)) n)
  | 0 => rfl
  | n + 1 => by
    rw [show 2 * (n + 1) = 2 * n + 1 + 1 by omega]
    show ad (ad (isum f (2 * n)) (f (2 * n))) (f (2 * n + 1)) = ad (ad _ (f (2 * n))) (ad _ (f (2 * n + 1)))
    rw [isum_two f n]
    unfold ad
    ext <;> simp <;> omega
theorem isum_congr {f g : Nat → Int × Int} : ∀ {n}, (∀ i, i < n → f i = g i) → isum f n = isum g n
  | 0, _ => rfl
  | n + 1, h => by
    unfold isum
    rw [isum_congr (fun i hi => h i (by omega)), h n (by omega)]
theorem isum_sm {f : Nat → Int × Int} {B : Nat} (h : ∀ i, Sm (f i) B) : ∀ n, Sm (isum f n) (n * B)
  | 0 => by unfold Sm isum; simp
  | n + 1 => by
    obtain ⟨a1, a2⟩ := isum_sm h n
    obtain ⟨b1, b2⟩ := h n
    have e1 : (isum f (n + 1)).1 = (isum f n).1 + (f n).1 := rfl
    have e2 : (isum f (n + 1)).2 = (isum f n).2 + (f n).2 := rfl
    unfold Sm
    rw [e1, e2, Nat.add_mul, Nat.one_mul]
    generalize n * B = nB at *
    omega
theorem cls_fin {a : Cx} {u : Int × Int} (ha : cls a u) (h1 : u.1.natAbs < 9007199254740992) (h2 : u.2.natAbs < 9007199254740992) :
    (finB a.1 = true ∧ a.1 < 18446744073709551616 ∧ val a.1 = u.1 * P74) ∧ (finB a.2 = true ∧ a.2 < 18446744073709551616 ∧ val a.2 = u.2 * P74) := ⟨isI_val h1 ha.1, isI_val h2 ha.2⟩
/-- Small enough to be exact. -/
def Lt (u : Int × Int) : Prop := u.1.natAbs < 9007199254740992 ∧ u.2.natAbs < 9007199254740992
theorem addC_cls {a b : Cx} {u v : Int × Int} (ha : cls a u) (hb : cls b v) (hu : Lt u) (hv : Lt v) (h : Lt (ad u v)) : ∃ r, addC a b = some r ∧ cls r (ad u v) := by
  obtain ⟨⟨a1, a2, a3⟩, ⟨a4, a5, a6⟩⟩ := cls_fin ha hu.1 hu.2
  obtain ⟨⟨b1, b2, b3⟩, ⟨b4, b5, b6⟩⟩ := cls_fin hb hv.1 hv.2
  obtain ⟨x, e1, i1⟩ := add_exact h.1 a1 b1 (by rw [a3, b3, ← Int.add_mul]; rfl)
  obtain ⟨y, e2, i2⟩ := add_exact h.2 a4 b4 (by rw [a6, b6, ← Int.add_mul]; rfl)
  refine ⟨(x, y), ?_, i1, i2⟩
  unfold addC cSumBits floatBits
  simp only [FloatKind.format, e1, e2, Option.bind_some]
theorem val_one : val one = 1 * P74 := by rw [Int.one_mul]; decide +kernel
/-- Times 1. -/
theorem mulC_one {b : Cx} {v : Int × Int} (hb : cls b v) (hv : Lt v) : ∃ r, mulC (one, 0) b = some r ∧ cls r v := by
  obtain ⟨⟨b1, b2, b3⟩, ⟨b4, b5, b6⟩⟩ := cls_fin hb hv.1 hv.2
  have f1 : finB one = true := by decide
  have f0 : finB 0 = true := by decide
  have v0 : val 0 = 0 := by decide
  have hz : (0 : Int).natAbs < 9007199254740992 := by decide
  obtain ⟨pu, e1, i1⟩ := mul_exact hv.1 f1 b1 (by rw [val_one, b3, Int.one_mul, Int.mul_comm])
  obtain ⟨qv, e2, i2⟩ := mul_exact (z := 0) hz f0 b4 (by rw [v0, Int.zero_mul, Int.zero_mul, Int.zero_mul])
  obtain ⟨pv, e3, i3⟩ := mul_exact hv.2 f1 b4 (by rw [val_one, b6, Int.one_mul, Int.mul_comm])
  obtain ⟨qu, e4, i4⟩ := mul_exact (z := 0) hz f0 b1 (by rw [v0, Int.zero_mul, Int.zero_mul, Int.zero_mul])
  obtain ⟨g1, g2, g3⟩ := isI_val hv.1 i1
  obtain ⟨k1, k2, k3⟩ := isI_val hz i2
  obtain ⟨l1, l2, l3⟩ := isI_val hv.2 i3
  obtain ⟨n1, n2, n3⟩ := isI_val hz i4
  obtain ⟨re, e5, i5⟩ := sub_exact hv.1 g1 k1 k2 (by rw [g3, k3, Int.zero_mul, Int.sub_zero])
  obtain ⟨im, e6, i6⟩ := add_exact hv.2 l1 n1 (by rw [l3, n3, Int.zero_mul, Int.add_zero])
  refine ⟨(re, im), ?_, i5, i6⟩
  unfold mulC
  simp only [e1, e2, e3, e4, e5, e6, Option.bind_some]
theorem bt_one {e o p d : Cx} {u v : Int × Int} (he : cls e u) (ho : cls o v) (hu : Lt u) (hv : Lt v) (h : Lt (ad u v)) (hb : bt (one, 0) e o = some (p, d)) : cls p (ad u v) := by
  obtain ⟨t, h1, h2⟩ := mulC_one ho hv
  obtain ⟨r, h3, h4⟩ := addC_cls he h2 hu hv h
  unfold bt at hb
  rw [h1, Option.bind_some, h3, Option.bind_some] at hb
  cases hs : subC e t with
  | none => rw [hs] at hb; cases hb
  | some x =>
    rw [hs, Option.bind_some] at hb
    have := Option.some.inj hb
    rw [Prod.mk.injEq] at this
    rw [← this.1]; exact h4
def V (U : Nat → Int × Int) (c s F : Nat) : Int × Int := isum (fun i => U (i * 2 ^ c + brev c F)) (2 ^ s)
theorem V_two (U : Nat → Int × Int) (c s F : Nat) : V U c (s + 1) F = ad (V U (c + 1) s (2 * F)) (V U (c + 1) s (2 * F + 1)) := by
  unfold V
  rw [Nat.pow_succ 2 s, Nat.mul_comm (2 ^ s) 2, isum_two, brev_even, brev_odd]
  congr 1
  · refine isum_congr fun i _ => ?_
    rw [show 2 * i * 2 ^ c = i * 2 ^ (c + 1) by rw [Nat.pow_succ, Nat.mul_comm 2 i, Nat.mul_assoc, Nat.mul_comm 2]]
  · refine isum_congr fun i _ => ?_
    rw [show (2 * i + 1) * 2 ^ c + brev c F = i * 2 ^ (c + 1) + (2 ^ c + brev c F) by rw [Nat.pow_succ, Nat.add_mul, Nat.one_mul, Nat.mul_comm 2 i, Nat.mul_assoc, Nat.mul_comm 2, Nat.add_assoc]]
theorem V_lt {U : Nat → Int × Int} {B : Nat} (hU : ∀ j, Sm (U j) B) (hB : B ≤ 1073741824) {c s F : Nat} (hs : s ≤ 12) : Lt (V U c s F) := by
  have := isum_sm (f := fun i => U (i * 2 ^ c + brev c F)) (fun i => hU _) (2 ^ s)
  have h2 : 2 ^ s * B ≤ 4096 * 1073741824 := Nat.mul_le_mul (Nat.le_trans (Nat.pow_le_pow_right (by decide) hs) (by decide)) hB
  unfold V Lt
  unfold Sm at this
  omega
/-- Whole numbers at the blocks' heads. -/
def Heads (U : Nat → Int × Int) (m s : Nat) (y : List Cx) : Prop := ∀ F, F < 2 ^ (m - s) → ∃ a, y[F * 2 ^ s]? = some a ∧ cls a (V U (m - s) s F)
theorem heads_next {U : Nat → Int × Int} {B : Nat} (hU : ∀ j, Sm (U j) B) (hB : B ≤ 1073741824) {m s : Nat} (hm : m ≤ 12) (hs : s < m) {w y r : List Cx} (hw : w[0]? = some (one, 0)) (hy : Heads U m s y) (hd : Desc w y m s r) : Heads U m (s + 1) r := by
  intro F hF
  obtain ⟨c, rfl⟩ : ∃ c, m = c + 1 + s := ⟨m - s - 1, by omega⟩
  have hc1 : c + 1 + s - s = c + 1 := by omega
  have hc0 : c + 1 + s - (s + 1) = c := by omega
  obtain ⟨a, e, o, p, d, h1, h2, h3, h4, h5, h6⟩ := hd F 0 hF (Nat.two_pow_pos s)
  rw [hc0] at hF
  rw [Nat.zero_mul, hw] at h1
  obtain rfl := Option.some.inj h1
  have hF2 : 2 * F + 1 < 2 ^ (c + 1) := by rw [Nat.pow_succ]; omega
  obtain ⟨x, g1, g2⟩ := hy (2 * F) (by rw [hc1]; omega)
  obtain ⟨z, k1, k2⟩ := hy (2 * F + 1) (by rw [hc1]; omega)
  have hS : 2 ^ (s + 1) = 2 * 2 ^ s := by rw [Nat.pow_succ, Nat.mul_comm]
  have p1 : 2 * F * 2 ^ s = F * 2 ^ (s + 1) + 0 := by rw [hS, Nat.mul_comm 2 F, Nat.mul_assoc, Nat.add_zero]
  have p2 : (2 * F + 1) * 2 ^ s = F * 2 ^ (s + 1) + 0 + 2 ^ s := by rw [hS, Nat.add_mul, Nat.mul_comm 2 F, Nat.mul_assoc]; omega
  rw [p1, h2] at g1
  rw [p2, h3] at k1
  obtain rfl := Option.some.inj g1
  obtain rfl := Option.some.inj k1
  rw [hc1] at g2 k2
  refine ⟨p, h5, ?_⟩
  rw [hc0, V_two]
  have hl := V_lt hU hB (c := c) (s := s + 1) (F := F) (by omega)
  rw [V_two] at hl
  exact bt_one g2 k2 (V_lt hU hB (by omega)) (V_lt hU hB (by omega)) hl h4
theorem conjs_zero {m : Nat} (hm : m ≤ 12) {l : List Cx} (hl : tabC m = some l) : (conjs l)[0]? = some (one, 0) := by
  obtain ⟨f, hf, _⟩ := eighth_all hm
  have h0 := (tab_get hf hl).2 0 (Nat.two_pow_pos m)
  have hat : atC (2 ^ m) 0 f = some (one, 0) := by
    unfold atC
    split
    · rfl
    · have hq : quarterC (2 ^ m) 0 f = some (one, 0) := by
        unfold quarterC
        rw [if_pos (Nat.zero_le _)]
        by_cases h3 : 3 ≤ m
        · obtain ⟨t, rfl⟩ : ∃ t, m = t + 3 := ⟨m - 3, by omega⟩
          have := eighth_lev t (by omega)
          rw [hf] at this
          rw [Option.some.inj this, lev_get, Nat.zero_mul]
          rfl
        · have : f = [(one, 0)] := by
            rcases (by omega : m = 0 ∨ m = 1 ∨ m = 2) with rfl | rfl | rfl <;> exact Option.some.inj (hf.symm.trans rfl)
          rw [this]; rfl
      rw [Nat.zero_mod, Nat.zero_div, hq]; rfl
  unfold conjs
  rw [List.getElem?_map, h0, hat]
  rfl
/-- Whole numbers, transformed: near to the sums; the first is exact. -/
theorem forward_whole {m : Nat} (hm : m ≤ 12) {x : List Cx} {U : Nat → Int × Int} (hw : Wh x m U) {P : Nat} (hP : P ≤ 30) (hU : ∀ j, Sm (U j) (2 ^ P)) :
    ∃ y, forwardC m x = some y ∧ Near y m (Fw (fun j => uq (U j)) m) (2 ^ P * G m) ∧ ∃ a, y[0]? = some a ∧ cls a (isum U (2 ^ m)) := by
  have hPb : 2 ^ P ≤ 1073741824 := Nat.le_trans (Nat.pow_le_pow_right (by decide) hP) (by decide)
  have hX : ∀ j, bq (uq (U j)) (2 ^ P) := fun j => by
    have := uq_bd (hU j)
    rwa [cast_pow] at this
  obtain ⟨l, hl⟩ := tab_ex hm
  have hi := hw.is (B := 2 ^ P) (by omega) hU
  obtain ⟨r, h1, h2, h4, h3⟩ := wave_ext (h_ch.bar) (by omega) hm (tab_there hm hl) hi.len hi.at_ hX (Heads U m) (by
    intro F hF
    rw [Nat.sub_zero] at hF
    have hlt : brev m F < x.length := by rw [hw.len]; exact brev_lt _ _
    refine ⟨x[brev m F], ?_, ?_⟩
    · rw [Nat.pow_zero, Nat.mul_one, trn_get hF, List.getD_eq_getElem?_getD, List.getElem?_eq_getElem hlt]; rfl
    · have := hw.at_ (brev m F) x[brev m F] (List.getElem?_eq_getElem hlt)
      have e : V U (m - 0) 0 F = U (brev m F) := by
        unfold V
        show ad (0, 0) (U (0 * 2 ^ m + brev m F)) = _
        rw [Nat.zero_mul, Nat.zero_add]
        unfold ad
        simp
      rw [e]; exact this) (fun s hs y r hy hd => heads_next hU hPb hm hs (conjs_zero hm hl) hy hd)
  refine ⟨r, by unfold forwardC; rw [hl, Option.bind_some, h1], ⟨h2, h3⟩, ?_⟩
  obtain ⟨a, g1, g2⟩ := h4 0 (Nat.two_pow_pos _)
  rw [Nat.zero_mul] at g1
  refine ⟨a, g1, ?_⟩
  have e : V U (m - m) m 0 = isum U (2 ^ m) := by
    unfold V
    refine isum_congr fun i _ => ?_
    rw [Nat.sub_self, Nat.pow_zero, Nat.mul_one]; rfl
  rw [e] at g2
  exact g2
end Go.Cyc
end
section
/- The statements' lists of whole numbers; a list of pairs in memory. %compact -/
set_option linter.unusedVariables false
set_option maxRecDepth 100000
namespace Go.Wav
open Go.Pen Go.Flt Go.Cyc
def w11' (a : Int) : Nat := flI (a.fdiv (2 ^ 11))
/-- The list of right length out of any numbers. -/
def whl (xs : List (Int × Int)) (m : Nat) : List Cx := (List.range (2 ^ m)).map fun i => match xs[i]? with
  | some v => (w11' v.1, w11' v.2)
  | none => (0, 0)
def whU (xs : List (Int × Int)) (i : Nat) : Int × Int := match xs[i]? with
  | some v => (v.1.fdiv (2 ^ 11), v.2.fdiv (2 ^ 11))
  | none => (0, 0)
theorem whl_len (xs : List (Int × Int)) (m : Nat) : (whl xs m).length = 2 ^ m := by simp [whl]
theorem whl_get (xs : List (Int × Int)) {m i : Nat} (h : i < 2 ^ m) : (whl xs m)[i]? = some (match xs[i]? with | some v => (w11' v.1, w11' v.2) | none => (0, 0)) := by
  unfold whl
  rw [List.getElem?_map, List.getElem?_range h]; rfl
theorem isI_flI' (z : Int) : isI (flI z) z := by
  unfold isI
  split
  · rename_i h; subst h; exact .inl rfl
  · rfl
def In32 (xs : List (Int × Int)) : Prop := ∀ v ∈ xs, (-2147483648 ≤ v.1 ∧ v.1 ≤ 2147483647) ∧ (-2147483648 ≤ v.2 ∧ v.2 ≤ 2147483647)
theorem fd_bd {a : Int} (h1 : -2147483648 ≤ a) (h2 : a ≤ 2147483647) : (a.fdiv (2 ^ 11)).natAbs ≤ 1048576 := by
  rw [show ((2 : Int) ^ 11) = 2048 by decide, Int.fdiv_eq_ediv_of_nonneg _ (by decide)]; omega
theorem whU_sm {xs : List (Int × Int)} (h : In32 xs) (i : Nat) : Sm (whU xs i) 1048576 := by
  unfold whU
  cases hi : xs[i]? with
  | none => exact ⟨by decide, by decide⟩
  | some v =>
    obtain ⟨⟨a, b⟩, c, d⟩ := h v (List.mem_of_getElem? hi)
    exact ⟨fd_bd a b, fd_bd c d⟩
theorem whl_wh (xs : List (Int × Int)) (m : Nat) : Wh (whl xs m) m (whU xs) where
  len := whl_len xs m
  at_ j a h := by
    have hj : j < 2 ^ m := by rw [← whl_len xs m]; exact (List.getElem?_eq_some_iff.1 h).1
    rw [whl_get xs hj] at h
    obtain rfl := Option.some.inj h
    unfold whU
    cases xs[j]? with
    | none => exact ⟨.inl rfl, .inl rfl⟩
    | some v => exact ⟨isI_flI' _, isI_flI' _⟩
/-- The first k laid. -/
def filC (l : List Cx) (k : Nat) : List Cx := l.take k ++ List.replicate (l.length - k) (0, 0)
theorem filC_len (l : List Cx) {k : Nat} (h : k ≤ l.length) : (filC l k).length = l.length := by unfold filC; simp; omega
theorem filC_set (l : List Cx) {k : Nat} {a : Cx} (h : l[k]? = some a) : (filC l k).set k a = filC l (k + 1) := by
  have hk : k < l.length := (List.getElem?_eq_some_iff.1 h).1
  unfold filC
  rw [List.set_append_right _ _ (by simp; omega)]
  have e1 : k - (l.take k).length = 0 := by simp; omega
  rw [e1, show l.length - k = (l.length - (k + 1)) + 1 by omega, List.replicate_succ, List.set_cons_zero, List.take_add_one, h]
  simp
theorem filC_zero (l : List Cx) : filC l 0 = List.replicate l.length (0, 0) := by simp [filC]
theorem filC_all (l : List Cx) : filC l l.length = l := by simp [filC]
theorem whl_nil (m : Nat) : whl [] m = List.replicate (2 ^ m) (0, 0) := by
  apply List.ext_getElem?
  intro i
  by_cases hi : i < 2 ^ m
  · rw [whl_get [] hi, List.getElem?_replicate, if_pos hi]; rfl
  · rw [List.getElem?_eq_none (by rw [whl_len]; omega), List.getElem?_eq_none (by rw [List.length_replicate]; omega)]
end Go.Wav
namespace Go.Proofs.YthecbhegjdcjfaaDoor
open Go.Pen Go.Flt Go.Wav Go.Cyc Go.Qc

/-- A list of pairs of numbers of 32 bits, in memory. -/
structure RdP (w : World) (b o : Nat) (xs : List (Int × Int)) : Prop where
  c : ∀ (i : Nat) (v : Int × Int), xs[i]? = some v → w.cell? ⟨b, o + i * 2 + 0 * 1, none⟩ = some (.int .i32 v.1) ∧ w.cell? ⟨b, o + i * 2 + 1 * 1, none⟩ = some (.int .i32 v.2)
theorem RdP.over {w w' : World} {b o : Nat} {xs : List (Int × Int)} {Γ : List (Nat × Obj)} {I : List Nat} (h : RdP w b o xs) (hw : St w I Γ w') (hb : b ∉ I) : RdP w' b o xs :=
  ⟨fun i v hi => ⟨hw.old (h.c i v hi).1 hb, hw.old (h.c i v hi).2 hb⟩⟩
theorem pow_iff {k M : Nat} (h : k ≤ M) : 2 * 2 ^ k ≤ 2 ^ M ↔ k < M := by
  rw [Nat.mul_comm, ← Nat.pow_succ]
  constructor
  · intro h1
    rcases Nat.lt_or_ge k M with h2 | h2
    · exact h2
    · exfalso
      have : k = M := by omega
      subst this
      have := Nat.two_pow_pos k
      rw [Nat.pow_succ] at h1; omega
  · intro h1; exact Nat.pow_le_pow_right (by decide) h1
theorem cxs_rep (n : Nat) : Array.replicate n (Value.complex .f64 0 0) = (cxs (List.replicate n ((0, 0) : Cx)) ++ []).toArray := by
  rw [rep_list]; simp [cxs]
theorem cls_eq {a b : Cx} {u : Int × Int} (ha : cls a u) (hb : cls b u) (hu : Lt u) : ((Ieee.double.order a.1 b.1 == some .eq) && (Ieee.double.order a.2 b.2 == some .eq)) = true := by
  obtain ⟨a1, _, a2⟩ := isI_rv hu.1 ha.1
  obtain ⟨a3, _, a4⟩ := isI_rv hu.2 ha.2
  obtain ⟨b1, _, b2⟩ := isI_rv hu.1 hb.1
  obtain ⟨b3, _, b4⟩ := isI_rv hu.2 hb.2
  rw [order_eq a1 b1 (by rw [a2, b2]), order_eq a3 b3 (by rw [a4, b4])]; rfl
theorem sm_lt {u : Int × Int} (h : Sm u 1048576) : Lt u := ⟨by have := h.1; omega, by have := h.2; omega⟩
/-- The sum so far, as the statement makes it. -/
def sumC (l : List Cx) : Nat → Option Cx
  | 0 => some (0, 0)
  | k + 1 => (sumC l k).bind fun s => (l[k]?).bind fun a => addC s a
theorem sumC_cls {l : List Cx} {m : Nat} {U : Nat → Int × Int} (hw : Wh l m U) (hm : m ≤ 12) (hU : ∀ j, Sm (U j) 1048576) : ∀ k, k ≤ 2 ^ m → ∃ s, sumC l k = some s ∧ cls s (isum U k)
  | 0, _ => ⟨(0, 0), rfl, .inl rfl, .inl rfl⟩
  | k + 1, hk => by
    obtain ⟨s, e, c⟩ := sumC_cls hw hm hU k (by omega)
    have hlt : k < l.length := by rw [hw.len]; omega
    have ha := hw.at_ k l[k] (List.getElem?_eq_getElem hlt)
    have hp := pow12 hm
    have hsm : ∀ j, j ≤ 4096 → Lt (isum U j) := fun j hj => by
      have := isum_sm hU j
      have h2 : j * 1048576 ≤ 4096 * 1048576 := Nat.mul_le_mul_right _ hj
      unfold Sm at this; unfold Lt; omega
    obtain ⟨r, h1, h2⟩ := addC_cls c ha (hsm k (by omega)) (sm_lt (hU k)) (hsm (k + 1) (by omega))
    exact ⟨r, by unfold sumC; rw [e, Option.bind_some, List.getElem?_eq_getElem hlt, Option.bind_some, h1], h2⟩
end Go.Proofs.YthecbhegjdcjfaaDoor
end
