/- Texts joined: RowPairs, WgtA, WgtB, WgtH, Flp, WgtD, WavG, WgtE, WgtF, Fla. -/
import Derived.Test.YtjckoflcjkajiaaDoorJf17
import Derived.SizedLaws
import Derived.Deep.SlicePairs
section
/- A list of pairs of numbers of 32 bits, opened. -/
set_option linter.unusedVariables false
set_option maxRecDepth 100000
namespace Go.Proofs.YtjckoflcjkajiaaDoor
open Go.ChangeShapes Go.WideShapes Go.ChangeAt Go.RowKit Go.Joins Go.Pen Go.Deep Go.Wav

theorem bytesA2 : Tryd.prog.bytesOf 22 = 8 := by kernel_rfl
/-- A list of pairs, opened. -/
theorem open_pairs32 {H : Type} {enc : TypeId × Value → H} {W : World} {fuel : Nat} {cs : List Value} {x : DataW H × List MemPlace} (h : DataW.trod enc Tryd.prog W 0 (fun _ => true) true fuel 26 cs = some x) :
    ∃ (a : Option Addr) (xs : List (Int × Int)) (c b o : Nat), cs = [.slice a xs.length c] ∧ (0 < xs.length → a = some ⟨b, o, none⟩) ∧ RdP W b o xs ∧ In32 xs ∧
      (xs.length = 0 ∨ ∃ el sp, x.1 = .slice el sp ∧ xs.length ≤ el.length) := by
  rcases open_slice Tryd.underlying26 h with ⟨rfl, rfl⟩ | ⟨a, len, cap, m, q, D, Pl, rfl, hb, hl, hm, hmm, rfl, hx⟩
  · exact ⟨none, [], 0, 0, 0, rfl, fun h => absurd h (by simp), ⟨fun i v h => by simp at h⟩, fun v h => by simp at h, .inl rfl⟩
  · have hm' : m = cap := by rw [hmm, if_pos rfl]
    subst hm'
    have key : ∀ i, i < len → ∃ p : Int × Int, W.cell? (a.add (i * 2)) = some (.int .i32 p.1) ∧ W.cell? (a.add (i * 2 + 1)) = some (.int .i32 p.2) ∧
        (-2147483648 ≤ p.1 ∧ p.1 ≤ 2147483647) ∧ (-2147483648 ≤ p.2 ∧ p.2 ≤ 2147483647) := by
      intro i hi
      obtain ⟨cs', h1, h2⟩ := hx i (by omega)
      rw [cA2] at h1
      obtain ⟨_, hlen, hcell⟩ := World.cells?_some h1
      obtain ⟨ys, k, rfl, hxe, _, hn, hel⟩ := DataW.trod_array Tryd.underlying22 h2
      rw [cI32] at hel
      match ys, hn, cs', hlen with
      | [y0, y1], _, [v0, v1], _ =>
        obtain ⟨u, eu, _, wu⟩ := DataW.trod_int Tryd.underlying21 (hel 0 (by decide))
        obtain ⟨v, ev, _, wv⟩ := DataW.trod_int Tryd.underlying21 (hel 1 (by decide))
        simp at eu ev
        subst eu ev
        have e0 := hcell 0 (by omega)
        have e1 := hcell 1 (by omega)
        rw [add_add] at e0 e1
        exact ⟨(u, v), by simpa using e0, by simpa using e1, bounds_i32 wu, bounds_i32 wv⟩
    obtain ⟨pf, hpf⟩ := choose_lt key
    have hspot : 0 < len → a = ⟨a.block, a.off, none⟩ := by
      intro h0
      have := (hpf 0 h0).1
      have e : a.spot = none := by
        obtain ⟨ab, ao, sp⟩ := a
        cases sp with
        | none => rfl
        | some s =>
          exfalso
          have h := this
          unfold World.cell? at h
          cases hb : W.heap[(({ block := ab, off := ao, spot := some s } : Addr).add (0 * 2)).block]? with
          | none => rw [hb] at h; cases h
          | some o =>
            rw [hb] at h
            cases o with
            | cells c _ _ => cases h
            | _ => cases h
      obtain ⟨ab, ao, sp⟩ := a
      simp only at e; subst e; rfl
    have hxl : ((List.range len).map pf).length = len := by simp
    refine ⟨some a, (List.range len).map pf, m, a.block, a.off, by rw [hxl], fun h => by rw [hxl] at h; rw [hspot h], ⟨fun i v hv => ?_⟩, fun v hv => ?_, .inr ⟨_, _, rfl, by rw [hxl, List.length_map, List.length_range]; exact Nat.le_refl _⟩⟩
    · have hi : i < len := by rw [← hxl]; exact (List.getElem?_eq_some_iff.1 hv).1
      rw [List.getElem?_map, List.getElem?_range hi] at hv
      obtain rfl := Option.some.inj hv
      have h1 := (hpf i hi).1
      have h2 := (hpf i hi).2.1
      rw [hspot (by omega), add_mk] at h1 h2
      refine ⟨?_, ?_⟩
      · rw [Nat.zero_mul, Nat.add_zero]; exact h1
      · rw [Nat.one_mul, Nat.add_assoc]; exact h2
    · rw [List.mem_map] at hv
      obtain ⟨i, hi, rfl⟩ := hv
      exact (hpf i (List.mem_range.1 hi)).2.2
end Go.Proofs.YtjckoflcjkajiaaDoor
end
section
/- Weights: the rules, walked. %compact -/
set_option linter.unusedVariables false
set_option maxRecDepth 100000
namespace Go.Wav
open Go.Flt Go.Pen
/-- The triangle. -/
def triC (N i : Nat) : Option Nat := Ieee.double.div (fl (min i (N - i))) (fl N)
/-- Half of one more. -/
def halfC (a : Cx) : Option Nat := (Ieee.double.add one a.1).bind fun s => Ieee.double.mul half s
def wgtC (kind N i : Nat) (a : Cx) : Option Nat :=
  if kind = 1 then some one else if kind = 2 then triC N i else (triC N i).bind fun t => (halfC a).bind fun x => Ieee.double.mul t x
end Go.Wav
namespace Go.Proofs.YtjckoflcjkajiaaDoor
open Go.Pen Go.Flt Go.Wav

theorem fl_conv {n : Nat} (h : n < 9007199254740992) : Ieee.double.write (.number ((n : Int) < 0) (n : Int).natAbs 0) = fl n := by
  have e : (decide ((n : Int) < 0)) = false := decide_eq_false (by omega)
  rw [e, Int.natAbs_natCast]
  exact write_nat h
set_option maxHeartbeats 1000000 in
theorem tri_fn (N i : Nat) (hN : N ≤ 4096) (hi : i < N) (t : Nat) (ht : triC N i = some t) (b : Nat) (w : World) (hc : w.cell? ⟨b, 0, none⟩ = some (.int .i64 (N : Int))) :
    Does Tryd.prog 53 #[.int .i64 (i : Int), .pointer (some ⟨b, 0, none⟩)] [] w fun v Γ => v = .float .f64 t ∧ Γ = [] := by
  unfold triC at ht
  have c1 := fl_conv (n := N) (by omega)
  have c2 := fl_conv (n := min i (N - i)) (by omega)
  rw [show ((min i (N - i) : Nat) : Int) = min (i : Int) ((N : Int) - (i : Int)) by omega] at c2
  refine Does.enter Tryd.func53 rfl Tryd.ntmps53 rfl (St.start w) ?_
  repeat' (first | refine Fin.tail ?_ | refine Fin.then_normal ?_ | refine Fin.then_exit ?_ | refine Fin.then_ret ?_ | refine Fin.block_normal ?_ | refine Fin.block_ret ?_ | refine Fin.block_hit ?_ | refine Fin.block_miss rfl ?_ | refine Fin.loop_exit ?_ | refine Fin.loop_ret ?_ | refine WP.seq ?_ | (refine WP.regionQ (by kernel_rfl) (by kernel_rfl) ?_) | refine WP.block ?_ | refine WP.region ?_ | refine WP.skip ?_ | refine WP.exit ?_ | refine WP.ret ?_ | refine WP.label ?_ | refine WP.cond_true rfl ?_ | refine WP.cond_false rfl ?_ | (refine WP.cond_dec rfl (fun h => ?_) (fun h => ?_) <;> (try (exfalso; omega))) | (refine WP.cond_bool rfl (fun h => ?_) (fun h => ?_)) | refine WL.nil ?_ | refine WL.cons ?_ | (show OP _ _ _ _ _ _ _ ⟨_, .move _, _, _, _, none⟩ _ _; first | refine OP.mI rfl rfl ?_ | refine OP.mB rfl rfl ?_ | refine OP.mC rfl rfl ?_ | refine OP.mF rfl rfl ?_ | refine OP.mS rfl rfl ?_ | refine OP.mP rfl rfl ?_ | refine OP.mA rfl rfl ?_ | refine OP.mT rfl rfl ?_ | refine OP.mM rfl rfl ?_ | refine OP.mU rfl rfl ?_ | refine OP.move rfl rfl ?_) | (show OP _ _ _ _ _ _ _ ⟨_, .assign _, _, _, _, none⟩ _ _; first | refine OP.aI rfl rfl ?_ | refine OP.aB rfl rfl ?_ | refine OP.aC rfl rfl ?_ | refine OP.aF rfl rfl ?_ | refine OP.aS rfl rfl ?_ | refine OP.aP rfl rfl ?_ | refine OP.aA rfl rfl ?_ | refine OP.aT rfl rfl ?_ | refine OP.aM rfl rfl ?_ | refine OP.aU rfl rfl ?_ | refine OP.assign rfl rfl ?_) | refine OP.min2 rfl rfl rfl ?_ | (show OP _ _ _ _ _ _ _ ⟨_, .binOp _ _ _ _ _, _, _, _, none⟩ _ _; first | refine OP.farith (r := t) rfl rfl rfl ht ?_ | (refine OP.sub rfl rfl rfl ?_ ?_ ?_; omega; omega) | (refine OP.quoN rfl rfl rfl ?_ ?_ ?_ ?_; omega; omega; omega) | (refine OP.quo rfl rfl rfl ?_ ?_ ?_ ?_ ?_; omega; omega; omega; omega)) | (show OP _ _ _ _ _ _ _ ⟨_, .convert _ _ _, _, _, _, none⟩ _ _; first | refine OP.convIF rfl rfl rfl c1 ?_ | refine OP.convIF rfl rfl rfl c2 ?_ | (refine OP.conv rfl rfl ?_ ?_ ?_; omega; omega)) | (show OP _ _ _ _ _ _ _ ⟨_, .load _ _, _, _, _, none⟩ _ _; first | refine OP.ld rfl rfl inferInstance rfl ?_ | refine OP.load rfl rfl (Sees.old0 (by assumption)) ?_ | refine OP.ldA rfl rfl inferInstance rfl ?_))
  all_goals refine Fin.ret1 (h0 := .inl rfl) rfl rfl ?_
  exact ⟨rfl, rfl⟩
set_option maxHeartbeats 1000000 in
theorem flat_fn (i : Nat) (w : World) : Does Tryd.prog 54 #[.int .i64 (i : Int)] [] w fun v Γ => v = .float .f64 one ∧ Γ = [] := by
  refine Does.enter Tryd.func54 rfl Tryd.ntmps54 rfl (St.start w) ?_
  repeat' (first | refine Fin.tail ?_ | refine Fin.then_normal ?_ | refine Fin.then_exit ?_ | refine Fin.then_ret ?_ | refine Fin.block_normal ?_ | refine Fin.block_ret ?_ | refine Fin.block_hit ?_ | refine Fin.block_miss rfl ?_ | refine Fin.loop_exit ?_ | refine Fin.loop_ret ?_ | refine WP.seq ?_ | (refine WP.regionQ (by kernel_rfl) (by kernel_rfl) ?_) | refine WP.block ?_ | refine WP.region ?_ | refine WP.skip ?_ | refine WP.exit ?_ | refine WP.ret ?_ | refine WP.label ?_ | refine WP.cond_true rfl ?_ | refine WP.cond_false rfl ?_ | (refine WP.cond_dec rfl (fun h => ?_) (fun h => ?_) <;> (try (exfalso; omega))) | (refine WP.cond_bool rfl (fun h => ?_) (fun h => ?_)) | refine WL.nil ?_ | refine WL.cons ?_ | (show OP _ _ _ _ _ _ _ ⟨_, .assign _, _, _, _, none⟩ _ _; first | refine OP.aI rfl rfl ?_ | refine OP.aB rfl rfl ?_ | refine OP.aC rfl rfl ?_ | refine OP.aF rfl rfl ?_ | refine OP.aS rfl rfl ?_ | refine OP.aP rfl rfl ?_ | refine OP.aA rfl rfl ?_ | refine OP.aT rfl rfl ?_ | refine OP.aM rfl rfl ?_ | refine OP.aU rfl rfl ?_ | refine OP.assign rfl rfl ?_))
  all_goals refine Fin.ret1 (h0 := .inl rfl) rfl rfl ?_
  exact ⟨rfl, rfl⟩
def triV (b3 : Nat) : Value := .func (.func 53) #[] #[.pointer (some ⟨b3, 0, none⟩)]
set_option maxHeartbeats 1000000 in
theorem tri3_fn (N i : Nat) (hN : N ≤ 4096) (hi : i < N) (l : List Cx) (a : Cx) (ha : l[i]? = some a) (r : Nat) (hr : wgtC 3 N i a = some r) (tb o c b3 b5 b7 : Nat) (w : World) (hT : RdC w tb o l)
    (h3 : w.cell? ⟨b3, 0, none⟩ = some (.int .i64 (N : Int))) (h5 : w.cell? ⟨b5, 0, none⟩ = some (.slice (some ⟨tb, o, none⟩) N c)) (h7 : w.cell? ⟨b7, 0, none⟩ = some (triV b3)) :
    Does Tryd.prog 55 #[.int .i64 (i : Int), .pointer (some ⟨b5, 0, none⟩), .pointer (some ⟨b7, 0, none⟩)] [] w fun v Γ => v = .float .f64 r ∧ Γ = [] := by
  unfold wgtC at hr
  rw [if_neg (by decide), if_neg (by decide)] at hr
  unfold halfC at hr
  simp only [Option.bind_eq_some_iff] at hr
  obtain ⟨t, ht, x, ⟨s, hs, hx⟩, hm⟩ := hr
  unfold triV at h7
  have hc := hT.c i a ha
  refine Does.enter Tryd.func55 rfl Tryd.ntmps55 rfl (St.start w) ?_
  repeat' (first | refine OP.load rfl rfl (Sees.old0 h5) ?_ | refine OP.load rfl rfl (Sees.old0 h7) ?_ | refine OP.indexAddr (j := i) rfl rfl rfl rfl hi ?_ | refine OP.load rfl rfl (Sees.old0 hc) ?_ | refine Fin.tail ?_ | refine Fin.then_normal ?_ | refine Fin.then_exit ?_ | refine Fin.then_ret ?_ | refine Fin.block_normal ?_ | refine Fin.block_ret ?_ | refine Fin.block_hit ?_ | refine Fin.block_miss rfl ?_ | refine Fin.loop_exit ?_ | refine Fin.loop_ret ?_ | refine WP.seq ?_ | (refine WP.regionQ (by kernel_rfl) (by kernel_rfl) ?_) | refine WP.block ?_ | refine WP.region ?_ | refine WP.skip ?_ | refine WP.exit ?_ | refine WP.ret ?_ | refine WP.label ?_ | refine WP.cond_true rfl ?_ | refine WP.cond_false rfl ?_ | (refine WP.cond_dec rfl (fun h => ?_) (fun h => ?_) <;> (try (exfalso; omega))) | (refine WP.cond_bool rfl (fun h => ?_) (fun h => ?_)) | refine WL.nil ?_ | refine WL.cons ?_ | (show OP _ _ _ _ _ _ _ ⟨_, .move _, _, _, _, none⟩ _ _; first | refine OP.mI rfl rfl ?_ | refine OP.mB rfl rfl ?_ | refine OP.mC rfl rfl ?_ | refine OP.mF rfl rfl ?_ | refine OP.mS rfl rfl ?_ | refine OP.mP rfl rfl ?_ | refine OP.mA rfl rfl ?_ | refine OP.mT rfl rfl ?_ | refine OP.mM rfl rfl ?_ | refine OP.mU rfl rfl ?_ | refine OP.move rfl rfl ?_) | (show OP _ _ _ _ _ _ _ ⟨_, .assign _, _, _, _, none⟩ _ _; first | refine OP.aI rfl rfl ?_ | refine OP.aB rfl rfl ?_ | refine OP.aC rfl rfl ?_ | refine OP.aF rfl rfl ?_ | refine OP.aS rfl rfl ?_ | refine OP.aP rfl rfl ?_ | refine OP.aA rfl rfl ?_ | refine OP.aT rfl rfl ?_ | refine OP.aM rfl rfl ?_ | refine OP.aU rfl rfl ?_ | refine OP.assign rfl rfl ?_) | (show OP _ _ _ _ _ _ _ ⟨_, .call _, _, _, _, none⟩ _ _; first | refine OP.callvq (f := 53) (.float .f64 t) rfl rfl rfl (fun w' hst => tri_fn N i hN hi t ht b3 w' (hst.old h3 (by simp))) (fun _ _ h => h.1) ?_ | refine OP.real rfl rfl ?_) | (show OP _ _ _ _ _ _ _ ⟨_, .binOp _ _ _ _ _, _, _, _, none⟩ _ _; first | refine OP.farith (r := s) rfl rfl rfl hs ?_ | refine OP.farith (r := x) rfl rfl rfl hx ?_ | refine OP.farith (r := r) rfl rfl rfl hm ?_ | (refine OP.add rfl rfl rfl ?_ ?_ ?_; omega; omega) | (refine OP.mul rfl rfl rfl ?_ ?_ ?_; omega; omega)) | (show OP _ _ _ _ _ _ _ ⟨_, .load _ _, _, _, _, none⟩ _ _; first | refine OP.ld rfl rfl inferInstance rfl ?_ | refine OP.load rfl rfl (Sees.old0 (by assumption)) ?_ | refine OP.ldA rfl rfl inferInstance rfl ?_))
  all_goals refine Fin.ret1 (h0 := .inl rfl) rfl rfl ?_
  exact ⟨rfl, rfl⟩

/-- What the rule's value is and what it keeps. -/
def RuleR (kind N : Nat) (tb o c : Nat) (v : Value) (Γ : List (Nat × Obj)) : Prop :=
  if kind = 1 then v = .func (.func 54) #[] #[] ∧ Γ = []
  else if kind = 2 then ∃ b3, v = triV b3 ∧ Γ = [(b3, .cells #[.int .i64 (N : Int)] 3 (0, 0))]
  else ∃ b3 b5 b7, v = .func (.func 55) #[] #[.pointer (some ⟨b5, 0, none⟩), .pointer (some ⟨b7, 0, none⟩)] ∧
    Γ = [(b7, .cells #[triV b3] 53 (0, 0)), (b5, .cells #[.slice (some ⟨tb, o, none⟩) N c] 24 (0, 0)), (b3, .cells #[.int .i64 (N : Int)] 3 (0, 0))]
set_option maxHeartbeats 1000000 in
theorem rule_fn (kind N : Nat) (hk : 1 ≤ kind ∧ kind ≤ 3) (tb o c : Nat) (w : World) :
    Does Tryd.prog 35 #[.int .i64 (N : Int), .int .i64 (kind : Int), .slice (some ⟨tb, o, none⟩) N c] [] w (RuleR kind N tb o c) := by
  rcases (by omega : kind = 1 ∨ kind = 2 ∨ kind = 3) with rfl | rfl | rfl
  · refine Does.enter Tryd.func35 rfl Tryd.ntmps35 rfl (St.start w) ?_
    repeat' (first | refine Fin.tail ?_ | refine Fin.then_normal ?_ | refine Fin.then_exit ?_ | refine Fin.then_ret ?_ | refine Fin.block_normal ?_ | refine Fin.block_ret ?_ | refine Fin.block_hit ?_ | refine Fin.block_miss rfl ?_ | refine Fin.loop_exit ?_ | refine Fin.loop_ret ?_ | refine WP.seq ?_ | (refine WP.regionQ (by kernel_rfl) (by kernel_rfl) ?_) | refine WP.block ?_ | refine WP.region ?_ | refine WP.skip ?_ | refine WP.exit ?_ | refine WP.ret ?_ | refine WP.label ?_ | refine WP.cond_true rfl ?_ | refine WP.cond_false rfl ?_ | (refine WP.cond_dec rfl (fun h => ?_) (fun h => ?_) <;> (try (exfalso; omega))) | (refine WP.cond_bool rfl (fun h => ?_) (fun h => ?_)) | refine WL.nil ?_ | refine WL.cons ?_ | (show OP _ _ _ _ _ _ _ ⟨_, .move _, _, _, _, none⟩ _ _; first | refine OP.mI rfl rfl ?_ | refine OP.mB rfl rfl ?_ | refine OP.mC rfl rfl ?_ | refine OP.mF rfl rfl ?_ | refine OP.mS rfl rfl ?_ | refine OP.mP rfl rfl ?_ | refine OP.mA rfl rfl ?_ | refine OP.mT rfl rfl ?_ | refine OP.mM rfl rfl ?_ | refine OP.mU rfl rfl ?_ | refine OP.move rfl rfl ?_) | (show OP _ _ _ _ _ _ _ ⟨_, .assign _, _, _, _, none⟩ _ _; first | refine OP.aI rfl rfl ?_ | refine OP.aB rfl rfl ?_ | refine OP.aC rfl rfl ?_ | refine OP.aF rfl rfl ?_ | refine OP.aS rfl rfl ?_ | refine OP.aP rfl rfl ?_ | refine OP.aA rfl rfl ?_ | refine OP.aT rfl rfl ?_ | refine OP.aM rfl rfl ?_ | refine OP.aU rfl rfl ?_ | refine OP.assign rfl rfl ?_) | (show OP _ _ _ _ _ _ _ ⟨_, .binOp _ _ _ _ _, _, _, _, none⟩ _ _; first | refine OP.eql rfl rfl rfl ?_ | refine OP.eql2 rfl rfl rfl ?_ | refine OP.eqd rfl rfl rfl ?_ | refine OP.eqlb rfl rfl rfl ?_) | (show OP _ _ _ _ _ _ _ ⟨_, .load _ _, _, _, _, none⟩ _ _; first | refine OP.ld rfl rfl inferInstance rfl ?_ | refine OP.load rfl rfl (Sees.old0 (by assumption)) ?_ | refine OP.ldA rfl rfl inferInstance rfl ?_) | (show OP _ _ _ _ _ _ _ ⟨_, .store _ _ _, _, _, _, none⟩ _ _; first | refine OP.stI rfl rfl inferInstance rfl ?_ | refine OP.stB rfl rfl inferInstance rfl ?_ | refine OP.stC rfl rfl inferInstance rfl ?_ | refine OP.stF rfl rfl inferInstance rfl ?_ | refine OP.stS rfl rfl inferInstance rfl ?_ | refine OP.stP rfl rfl inferInstance rfl ?_ | refine OP.stM rfl rfl inferInstance rfl ?_ | refine OP.stU rfl rfl inferInstance rfl ?_ | refine OP.st (vs := [_]) rfl rfl inferInstance rfl rfl rfl ?_ | refine OP.st (vs := [_, _]) rfl rfl inferInstance rfl rfl rfl ?_ | refine OP.st (vs := [_, _, _]) rfl rfl inferInstance rfl rfl rfl ?_) | (show OP _ _ _ _ _ _ _ ⟨_, .box _ _, _, _, _, none⟩ _ _; first | refine OP.bxI rfl rfl (fun bx => ?_) | refine OP.bxB rfl rfl (fun bx => ?_) | refine OP.bxC rfl rfl (fun bx => ?_) | refine OP.bxF rfl rfl (fun bx => ?_) | refine OP.bxS rfl rfl (fun bx => ?_) | refine OP.bxP rfl rfl (fun bx => ?_) | refine OP.bxA rfl rfl (fun bx => ?_) | refine OP.bxM rfl rfl (fun bx => ?_) | refine OP.bxU rfl rfl (fun bx => ?_) | refine OP.box rfl rfl (fun bx => ?_)) | refine OP.alI rfl (fun al => ?_) | refine OP.alA rfl (fun al => ?_) | refine OP.alloc rfl rfl (fun al => ?_) | refine OP.makeFunc rfl ?_)
    all_goals refine Fin.drop (List.nil_sublist _) ?_
    all_goals refine Fin.ret1 (h0 := .inl rfl) rfl rfl ?_
    exact ⟨rfl, rfl⟩
  · refine Does.enter Tryd.func35 rfl Tryd.ntmps35 rfl (St.start w) ?_
    repeat' (first | refine Fin.tail ?_ | refine Fin.then_normal ?_ | refine Fin.then_exit ?_ | refine Fin.then_ret ?_ | refine Fin.block_normal ?_ | refine Fin.block_ret ?_ | refine Fin.block_hit ?_ | refine Fin.block_miss rfl ?_ | refine Fin.loop_exit ?_ | refine Fin.loop_ret ?_ | refine WP.seq ?_ | (refine WP.regionQ (by kernel_rfl) (by kernel_rfl) ?_) | refine WP.block ?_ | refine WP.region ?_ | refine WP.skip ?_ | refine WP.exit ?_ | refine WP.ret ?_ | refine WP.label ?_ | refine WP.cond_true rfl ?_ | refine WP.cond_false rfl ?_ | (refine WP.cond_dec rfl (fun h => ?_) (fun h => ?_) <;> (try (exfalso; omega))) | (refine WP.cond_bool rfl (fun h => ?_) (fun h => ?_)) | refine WL.nil ?_ | refine WL.cons ?_ | (show OP _ _ _ _ _ _ _ ⟨_, .move _, _, _, _, none⟩ _ _; first | refine OP.mI rfl rfl ?_ | refine OP.mB rfl rfl ?_ | refine OP.mC rfl rfl ?_ | refine OP.mF rfl rfl ?_ | refine OP.mS rfl rfl ?_ | refine OP.mP rfl rfl ?_ | refine OP.mA rfl rfl ?_ | refine OP.mT rfl rfl ?_ | refine OP.mM rfl rfl ?_ | refine OP.mU rfl rfl ?_ | refine OP.move rfl rfl ?_) | (show OP _ _ _ _ _ _ _ ⟨_, .assign _, _, _, _, none⟩ _ _; first | refine OP.aI rfl rfl ?_ | refine OP.aB rfl rfl ?_ | refine OP.aC rfl rfl ?_ | refine OP.aF rfl rfl ?_ | refine OP.aS rfl rfl ?_ | refine OP.aP rfl rfl ?_ | refine OP.aA rfl rfl ?_ | refine OP.aT rfl rfl ?_ | refine OP.aM rfl rfl ?_ | refine OP.aU rfl rfl ?_ | refine OP.assign rfl rfl ?_) | (show OP _ _ _ _ _ _ _ ⟨_, .binOp _ _ _ _ _, _, _, _, none⟩ _ _; first | refine OP.eql rfl rfl rfl ?_ | refine OP.eql2 rfl rfl rfl ?_ | refine OP.eqd rfl rfl rfl ?_ | refine OP.eqlb rfl rfl rfl ?_) | (show OP _ _ _ _ _ _ _ ⟨_, .load _ _, _, _, _, none⟩ _ _; first | refine OP.ld rfl rfl inferInstance rfl ?_ | refine OP.load rfl rfl (Sees.old0 (by assumption)) ?_ | refine OP.ldA rfl rfl inferInstance rfl ?_) | (show OP _ _ _ _ _ _ _ ⟨_, .store _ _ _, _, _, _, none⟩ _ _; first | refine OP.stI rfl rfl inferInstance rfl ?_ | refine OP.stB rfl rfl inferInstance rfl ?_ | refine OP.stC rfl rfl inferInstance rfl ?_ | refine OP.stF rfl rfl inferInstance rfl ?_ | refine OP.stS rfl rfl inferInstance rfl ?_ | refine OP.stP rfl rfl inferInstance rfl ?_ | refine OP.stM rfl rfl inferInstance rfl ?_ | refine OP.stU rfl rfl inferInstance rfl ?_ | refine OP.st (vs := [_]) rfl rfl inferInstance rfl rfl rfl ?_ | refine OP.st (vs := [_, _]) rfl rfl inferInstance rfl rfl rfl ?_ | refine OP.st (vs := [_, _, _]) rfl rfl inferInstance rfl rfl rfl ?_) | (show OP _ _ _ _ _ _ _ ⟨_, .box _ _, _, _, _, none⟩ _ _; first | refine OP.bxI rfl rfl (fun bx => ?_) | refine OP.bxB rfl rfl (fun bx => ?_) | refine OP.bxC rfl rfl (fun bx => ?_) | refine OP.bxF rfl rfl (fun bx => ?_) | refine OP.bxS rfl rfl (fun bx => ?_) | refine OP.bxP rfl rfl (fun bx => ?_) | refine OP.bxA rfl rfl (fun bx => ?_) | refine OP.bxM rfl rfl (fun bx => ?_) | refine OP.bxU rfl rfl (fun bx => ?_) | refine OP.box rfl rfl (fun bx => ?_)) | refine OP.alI rfl (fun al => ?_) | refine OP.alA rfl (fun al => ?_) | refine OP.alloc rfl rfl (fun al => ?_) | refine OP.makeFunc rfl ?_)
    all_goals refine Fin.drop (.cons _ (.cons _ (.refl _))) ?_
    all_goals refine Fin.ret1 (h0 := .inl rfl) rfl rfl ?_
    exact ⟨_, rfl, rfl⟩
  · refine Does.enter Tryd.func35 rfl Tryd.ntmps35 rfl (St.start w) ?_
    repeat' (first | refine Fin.tail ?_ | refine Fin.then_normal ?_ | refine Fin.then_exit ?_ | refine Fin.then_ret ?_ | refine Fin.block_normal ?_ | refine Fin.block_ret ?_ | refine Fin.block_hit ?_ | refine Fin.block_miss rfl ?_ | refine Fin.loop_exit ?_ | refine Fin.loop_ret ?_ | refine WP.seq ?_ | (refine WP.regionQ (by kernel_rfl) (by kernel_rfl) ?_) | refine WP.block ?_ | refine WP.region ?_ | refine WP.skip ?_ | refine WP.exit ?_ | refine WP.ret ?_ | refine WP.label ?_ | refine WP.cond_true rfl ?_ | refine WP.cond_false rfl ?_ | (refine WP.cond_dec rfl (fun h => ?_) (fun h => ?_) <;> (try (exfalso; omega))) | (refine WP.cond_bool rfl (fun h => ?_) (fun h => ?_)) | refine WL.nil ?_ | refine WL.cons ?_ | (show OP _ _ _ _ _ _ _ ⟨_, .move _, _, _, _, none⟩ _ _; first | refine OP.mI rfl rfl ?_ | refine OP.mB rfl rfl ?_ | refine OP.mC rfl rfl ?_ | refine OP.mF rfl rfl ?_ | refine OP.mS rfl rfl ?_ | refine OP.mP rfl rfl ?_ | refine OP.mA rfl rfl ?_ | refine OP.mT rfl rfl ?_ | refine OP.mM rfl rfl ?_ | refine OP.mU rfl rfl ?_ | refine OP.move rfl rfl ?_) | (show OP _ _ _ _ _ _ _ ⟨_, .assign _, _, _, _, none⟩ _ _; first | refine OP.aI rfl rfl ?_ | refine OP.aB rfl rfl ?_ | refine OP.aC rfl rfl ?_ | refine OP.aF rfl rfl ?_ | refine OP.aS rfl rfl ?_ | refine OP.aP rfl rfl ?_ | refine OP.aA rfl rfl ?_ | refine OP.aT rfl rfl ?_ | refine OP.aM rfl rfl ?_ | refine OP.aU rfl rfl ?_ | refine OP.assign rfl rfl ?_) | (show OP _ _ _ _ _ _ _ ⟨_, .binOp _ _ _ _ _, _, _, _, none⟩ _ _; first | refine OP.eql rfl rfl rfl ?_ | refine OP.eql2 rfl rfl rfl ?_ | refine OP.eqd rfl rfl rfl ?_ | refine OP.eqlb rfl rfl rfl ?_) | (show OP _ _ _ _ _ _ _ ⟨_, .load _ _, _, _, _, none⟩ _ _; first | refine OP.ld rfl rfl inferInstance rfl ?_ | refine OP.load rfl rfl (Sees.old0 (by assumption)) ?_ | refine OP.ldA rfl rfl inferInstance rfl ?_) | (show OP _ _ _ _ _ _ _ ⟨_, .store _ _ _, _, _, _, none⟩ _ _; first | refine OP.stI rfl rfl inferInstance rfl ?_ | refine OP.stB rfl rfl inferInstance rfl ?_ | refine OP.stC rfl rfl inferInstance rfl ?_ | refine OP.stF rfl rfl inferInstance rfl ?_ | refine OP.stS rfl rfl inferInstance rfl ?_ | refine OP.stP rfl rfl inferInstance rfl ?_ | refine OP.stM rfl rfl inferInstance rfl ?_ | refine OP.stU rfl rfl inferInstance rfl ?_ | refine OP.st (vs := [_]) rfl rfl inferInstance rfl rfl rfl ?_ | refine OP.st (vs := [_, _]) rfl rfl inferInstance rfl rfl rfl ?_ | refine OP.st (vs := [_, _, _]) rfl rfl inferInstance rfl rfl rfl ?_) | (show OP _ _ _ _ _ _ _ ⟨_, .box _ _, _, _, _, none⟩ _ _; first | refine OP.bxI rfl rfl (fun bx => ?_) | refine OP.bxB rfl rfl (fun bx => ?_) | refine OP.bxC rfl rfl (fun bx => ?_) | refine OP.bxF rfl rfl (fun bx => ?_) | refine OP.bxS rfl rfl (fun bx => ?_) | refine OP.bxP rfl rfl (fun bx => ?_) | refine OP.bxA rfl rfl (fun bx => ?_) | refine OP.bxM rfl rfl (fun bx => ?_) | refine OP.bxU rfl rfl (fun bx => ?_) | refine OP.box rfl rfl (fun bx => ?_)) | refine OP.alI rfl (fun al => ?_) | refine OP.alA rfl (fun al => ?_) | refine OP.alloc rfl rfl (fun al => ?_) | refine OP.makeFunc rfl ?_)
    all_goals refine Fin.ret1 (h0 := .inl rfl) rfl rfl ?_
    exact ⟨_, _, _, rfl, rfl⟩
set_option maxHeartbeats 1000000 in
theorem ruleNo_fn (kind N : Int) (hk : ¬ (1 ≤ kind ∧ kind ≤ 3)) (s : Value) (w : World) :
    Does Tryd.prog 35 #[.int .i64 N, .int .i64 kind, s] [] w fun v Γ => v = .nilFunc ∧ Γ = [] := by
  refine Does.enter Tryd.func35 rfl Tryd.ntmps35 rfl (St.start w) ?_
  repeat' (first | refine Fin.tail ?_ | refine Fin.then_normal ?_ | refine Fin.then_exit ?_ | refine Fin.then_ret ?_ | refine Fin.block_normal ?_ | refine Fin.block_ret ?_ | refine Fin.block_hit ?_ | refine Fin.block_miss rfl ?_ | refine Fin.loop_exit ?_ | refine Fin.loop_ret ?_ | refine WP.seq ?_ | (refine WP.regionQ (by kernel_rfl) (by kernel_rfl) ?_) | refine WP.block ?_ | refine WP.region ?_ | refine WP.skip ?_ | refine WP.exit ?_ | refine WP.ret ?_ | refine WP.label ?_ | refine WP.cond_true rfl ?_ | refine WP.cond_false rfl ?_ | (refine WP.cond_dec rfl (fun h => ?_) (fun h => ?_) <;> (try (exfalso; omega))) | (refine WP.cond_bool rfl (fun h => ?_) (fun h => ?_)) | refine WL.nil ?_ | refine WL.cons ?_ | (show OP _ _ _ _ _ _ _ ⟨_, .move _, _, _, _, none⟩ _ _; first | refine OP.mI rfl rfl ?_ | refine OP.mB rfl rfl ?_ | refine OP.mC rfl rfl ?_ | refine OP.mF rfl rfl ?_ | refine OP.mS rfl rfl ?_ | refine OP.mP rfl rfl ?_ | refine OP.mA rfl rfl ?_ | refine OP.mT rfl rfl ?_ | refine OP.mM rfl rfl ?_ | refine OP.mU rfl rfl ?_ | refine OP.move rfl rfl ?_) | (show OP _ _ _ _ _ _ _ ⟨_, .assign _, _, _, _, none⟩ _ _; first | refine OP.aI rfl rfl ?_ | refine OP.aB rfl rfl ?_ | refine OP.aC rfl rfl ?_ | refine OP.aF rfl rfl ?_ | refine OP.aS rfl rfl ?_ | refine OP.aP rfl rfl ?_ | refine OP.aA rfl rfl ?_ | refine OP.aT rfl rfl ?_ | refine OP.aM rfl rfl ?_ | refine OP.aU rfl rfl ?_ | refine OP.assign rfl rfl ?_) | (show OP _ _ _ _ _ _ _ ⟨_, .binOp _ _ _ _ _, _, _, _, none⟩ _ _; first | refine OP.eql rfl rfl rfl ?_ | refine OP.eql2 rfl rfl rfl ?_ | refine OP.eqd rfl rfl rfl ?_ | refine OP.eqlb rfl rfl rfl ?_) | (show OP _ _ _ _ _ _ _ ⟨_, .load _ _, _, _, _, none⟩ _ _; first | refine OP.ld rfl rfl inferInstance rfl ?_ | refine OP.load rfl rfl (Sees.old0 (by assumption)) ?_ | refine OP.ldA rfl rfl inferInstance rfl ?_) | (show OP _ _ _ _ _ _ _ ⟨_, .store _ _ _, _, _, _, none⟩ _ _; first | refine OP.stI rfl rfl inferInstance rfl ?_ | refine OP.stB rfl rfl inferInstance rfl ?_ | refine OP.stC rfl rfl inferInstance rfl ?_ | refine OP.stF rfl rfl inferInstance rfl ?_ | refine OP.stS rfl rfl inferInstance rfl ?_ | refine OP.stP rfl rfl inferInstance rfl ?_ | refine OP.stM rfl rfl inferInstance rfl ?_ | refine OP.stU rfl rfl inferInstance rfl ?_ | refine OP.st (vs := [_]) rfl rfl inferInstance rfl rfl rfl ?_ | refine OP.st (vs := [_, _]) rfl rfl inferInstance rfl rfl rfl ?_ | refine OP.st (vs := [_, _, _]) rfl rfl inferInstance rfl rfl rfl ?_) | (show OP _ _ _ _ _ _ _ ⟨_, .box _ _, _, _, _, none⟩ _ _; first | refine OP.bxI rfl rfl (fun bx => ?_) | refine OP.bxB rfl rfl (fun bx => ?_) | refine OP.bxC rfl rfl (fun bx => ?_) | refine OP.bxF rfl rfl (fun bx => ?_) | refine OP.bxS rfl rfl (fun bx => ?_) | refine OP.bxP rfl rfl (fun bx => ?_) | refine OP.bxA rfl rfl (fun bx => ?_) | refine OP.bxM rfl rfl (fun bx => ?_) | refine OP.bxU rfl rfl (fun bx => ?_) | refine OP.box rfl rfl (fun bx => ?_)) | refine OP.alI rfl (fun al => ?_) | refine OP.alA rfl (fun al => ?_) | refine OP.alloc rfl rfl (fun al => ?_) | refine OP.makeFunc rfl ?_)
  all_goals refine Fin.drop (List.nil_sublist _) ?_
  all_goals refine Fin.ret1 (h0 := .inl rfl) rfl rfl ?_
  exact ⟨rfl, rfl⟩
end Go.Proofs.YtjckoflcjkajiaaDoor
end
section
/- Weights: the list, walked. %compact -/
set_option linter.unusedVariables false
set_option maxRecDepth 100000
namespace Go.Wav
open Go.Flt Go.Pen
def wgtTo (kind N : Nat) (l : List Cx) : Nat → Option (List Nat)
  | 0 => some []
  | k + 1 => (wgtTo kind N l k).bind fun o => (l[k]?).bind fun a => (wgtC kind N k a).bind fun r => some (o ++ [r])
/-- The weights of a kind, 2 ^ m of them. -/
def wgtsC (kind m : Nat) : Option (List Nat) := (tabC m).bind fun l => wgtTo kind (2 ^ m) l (2 ^ m)
theorem wgtTo_len {kind N : Nat} {f : List Cx} : ∀ {k : Nat} {l : List Nat}, wgtTo kind N f k = some l → l.length = k
  | 0, l, e => by
    obtain rfl : [] = l := by simpa [wgtTo] using e
    rfl
  | k + 1, l, e => by
    unfold wgtTo at e
    simp only [Option.bind_eq_some_iff, Option.some.injEq] at e
    obtain ⟨l', h1, a, h2, r, h3, rfl⟩ := e
    simp [wgtTo_len h1]
theorem wgtTo_some {kind N : Nat} {f : List Cx} : ∀ {i j : Nat} {l : List Nat}, i ≤ j → wgtTo kind N f j = some l → ∃ l', wgtTo kind N f i = some l'
  | i, 0, l, hij, e => by obtain rfl : i = 0 := by omega
                          exact ⟨l, e⟩
  | i, j + 1, l, hij, e => by
    by_cases h' : i = j + 1
    · subst h'; exact ⟨l, e⟩
    · unfold wgtTo at e
      simp only [Option.bind_eq_some_iff] at e
      obtain ⟨l', h1, _⟩ := e
      exact wgtTo_some (by omega) h1
end Go.Wav
namespace Go.Proofs.YtjckoflcjkajiaaDoor
open Go.Pen Go.Flt Go.Wav

def RuleOk (kind N : Nat) (l : List Cx) (tb o : Nat) (v : Value) (Γ : List (Nat × Obj)) : Prop :=
  ∃ f cap, Body Tryd.prog f ∧ v = .func (.func f) #[] cap ∧ ∀ (i : Nat) (a : Cx) (r : Nat), i < N → l[i]? = some a → wgtC kind N i a = some r → ∀ w' : World, (∀ x ∈ Γ, w'.heap[x.1]? = some x.2) → RdC w' tb o l →
    Does Tryd.prog f ([Value.int .i64 (i : Int)] ++ cap.toList).toArray [] w' fun v Γ => v = .float .f64 r ∧ Γ = []
theorem ruleOk_fn (kind N : Nat) (hk : 1 ≤ kind ∧ kind ≤ 3) (hN : N ≤ 4096) (l : List Cx) (tb o c : Nat) (w : World) :
    Does Tryd.prog 35 #[.int .i64 (N : Int), .int .i64 (kind : Int), .slice (some ⟨tb, o, none⟩) N c] [] w (RuleOk kind N l tb o) := by
  refine (rule_fn kind N hk tb o c w).mono fun v Γ hR => ?_
  unfold RuleR at hR
  rcases (by omega : kind = 1 ∨ kind = 2 ∨ kind = 3) with rfl | rfl | rfl
  · rw [if_pos rfl] at hR
    obtain ⟨rfl, rfl⟩ := hR
    refine ⟨54, #[], inferInstance, rfl, fun i a r hi ha hr w' _ _ => ?_⟩
    obtain rfl : one = r := by unfold wgtC at hr; simpa using hr
    exact flat_fn i w'
  · rw [if_neg (by decide), if_pos rfl] at hR
    obtain ⟨b3, rfl, rfl⟩ := hR
    refine ⟨53, _, inferInstance, rfl, fun i a r hi ha hr w' hb _ => ?_⟩
    have ht : triC N i = some r := by unfold wgtC at hr; simpa using hr
    exact tri_fn N i hN hi r ht b3 w' (cell_of (hb _ (List.mem_cons_self ..)) rfl)
  · rw [if_neg (by decide), if_neg (by decide)] at hR
    obtain ⟨b3, b5, b7, rfl, rfl⟩ := hR
    refine ⟨55, _, inferInstance, rfl, fun i a r hi ha hr w' hb hT => ?_⟩
    exact tri3_fn N i hN hi l a ha r hr tb o c b3 b5 b7 w' hT (cell_of (hb _ (.tail _ (.tail _ (.head _)))) rfl) (cell_of (hb _ (.tail _ (.head _))) rfl) (cell_of (hb _ (.head _)) rfl)

set_option maxHeartbeats 1000000 in
theorem TableNo_fn (n : Int) (h1 : -9223372036854775808 ≤ n) (h2 : n ≤ 9223372036854775807) (hn : rightB n = false) (w : World) :
    Does Tryd.prog 24 #[.int .i64 n] [] w fun v Γ => v = .tuple #[.slice none 0 0, .int .i64 30] ∧ Γ = [] := by
  refine Does.enter Tryd.func24 rfl Tryd.ntmps24 rfl (St.start w) ?_
  repeat' (first | refine Fin.tail ?_ | refine Fin.then_normal ?_ | refine Fin.then_exit ?_ | refine Fin.then_ret ?_ | refine Fin.block_normal ?_ | refine Fin.block_ret ?_ | refine Fin.block_hit ?_ | refine Fin.block_miss rfl ?_ | refine Fin.loop_exit ?_ | refine Fin.loop_ret ?_ | refine WP.seq ?_ | (refine WP.regionQ (by kernel_rfl) (by kernel_rfl) ?_) | refine WP.block ?_ | refine WP.region ?_ | refine WP.skip ?_ | refine WP.exit ?_ | refine WP.ret ?_ | refine WP.label ?_ | refine WP.cond_true rfl ?_ | refine WP.cond_false rfl ?_ | (refine WP.cond_dec rfl (fun h => ?_) (fun h => ?_) <;> (try (exfalso; omega))) | (refine WP.cond_bool rfl (fun h => ?_) (fun h => ?_)) | refine WL.nil ?_ | refine WL.cons ?_ | (show OP _ _ _ _ _ _ _ ⟨_, .move _, _, _, _, none⟩ _ _; first | refine OP.mI rfl rfl ?_ | refine OP.mB rfl rfl ?_ | refine OP.mC rfl rfl ?_ | refine OP.mF rfl rfl ?_ | refine OP.mS rfl rfl ?_ | refine OP.mP rfl rfl ?_ | refine OP.mA rfl rfl ?_ | refine OP.mT rfl rfl ?_ | refine OP.mM rfl rfl ?_ | refine OP.mU rfl rfl ?_ | refine OP.move rfl rfl ?_) | (show OP _ _ _ _ _ _ _ ⟨_, .assign _, _, _, _, none⟩ _ _; first | refine OP.aI rfl rfl ?_ | refine OP.aB rfl rfl ?_ | refine OP.aC rfl rfl ?_ | refine OP.aF rfl rfl ?_ | refine OP.aS rfl rfl ?_ | refine OP.aP rfl rfl ?_ | refine OP.aA rfl rfl ?_ | refine OP.aT rfl rfl ?_ | refine OP.aM rfl rfl ?_ | refine OP.aU rfl rfl ?_ | refine OP.assign rfl rfl ?_) | refine OP.callq (.bool false) rfl (fun w' hst => right_fn n h1 h2 w') (fun _ _ h => by rw [h.1, hn]) ?_ | (show OP _ _ _ _ _ _ _ ⟨_, .binOp _ _ _ _ _, _, _, _, none⟩ _ _; first | (refine OP.add rfl rfl rfl ?_ ?_ ?_; omega; omega) | refine OP.lss rfl rfl rfl ?_) | (show OP _ _ _ _ _ _ _ ⟨_, .unOp _ _ _, _, _, _, none⟩ _ _; first | refine OP.notd rfl rfl ?_ | refine OP.not rfl rfl ?_ | (refine OP.neg rfl rfl ?_ ?_ ?_; omega; omega)) | (show OP _ _ _ _ _ _ _ ⟨_, .store _ _ _, _, _, _, none⟩ _ _; first | refine OP.stI rfl rfl inferInstance rfl ?_ | refine OP.stB rfl rfl inferInstance rfl ?_ | refine OP.stC rfl rfl inferInstance rfl ?_ | refine OP.stF rfl rfl inferInstance rfl ?_ | refine OP.stS rfl rfl inferInstance rfl ?_ | refine OP.stP rfl rfl inferInstance rfl ?_ | refine OP.stM rfl rfl inferInstance rfl ?_ | refine OP.stU rfl rfl inferInstance rfl ?_ | refine OP.st (vs := [_]) rfl rfl inferInstance rfl rfl rfl ?_ | refine OP.st (vs := [_, _]) rfl rfl inferInstance rfl rfl rfl ?_ | refine OP.st (vs := [_, _, _]) rfl rfl inferInstance rfl rfl rfl ?_))
  refine Fin.ret2 (h0 := .inl rfl) rfl rfl rfl ?_
  exact ⟨rfl, rfl⟩
set_option maxHeartbeats 1000000 in
theorem WeightsNo_fn (n kind : Int) (h1 : -9223372036854775808 ≤ n) (h2 : n ≤ 9223372036854775807) (hn : rightB n = false) (w : World) :
    Does Tryd.prog 18 #[.int .i64 n, .int .i64 kind] [] w fun v Γ => v = .tuple #[.slice none 0 0, .int .i64 30] ∧ Γ = [] := by
  refine Does.enter Tryd.func18 rfl Tryd.ntmps18 rfl (St.start w) ?_
  repeat' (first | refine Fin.tail ?_ | refine Fin.then_normal ?_ | refine Fin.then_exit ?_ | refine Fin.then_ret ?_ | refine Fin.block_normal ?_ | refine Fin.block_ret ?_ | refine Fin.block_hit ?_ | refine Fin.block_miss rfl ?_ | refine Fin.loop_exit ?_ | refine Fin.loop_ret ?_ | refine WP.seq ?_ | (refine WP.regionQ (by kernel_rfl) (by kernel_rfl) ?_) | refine WP.block ?_ | refine WP.region ?_ | refine WP.skip ?_ | refine WP.exit ?_ | refine WP.ret ?_ | refine WP.label ?_ | refine WP.cond_true rfl ?_ | refine WP.cond_false rfl ?_ | (refine WP.cond_dec rfl (fun h => ?_) (fun h => ?_) <;> (try (exfalso; omega))) | (refine WP.cond_bool rfl (fun h => ?_) (fun h => ?_)) | refine WL.nil ?_ | refine WL.cons ?_ | (show OP _ _ _ _ _ _ _ ⟨_, .move _, _, _, _, none⟩ _ _; first | refine OP.mI rfl rfl ?_ | refine OP.mB rfl rfl ?_ | refine OP.mC rfl rfl ?_ | refine OP.mF rfl rfl ?_ | refine OP.mS rfl rfl ?_ | refine OP.mP rfl rfl ?_ | refine OP.mA rfl rfl ?_ | refine OP.mT rfl rfl ?_ | refine OP.mM rfl rfl ?_ | refine OP.mU rfl rfl ?_ | refine OP.move rfl rfl ?_) | (show OP _ _ _ _ _ _ _ ⟨_, .assign _, _, _, _, none⟩ _ _; first | refine OP.aI rfl rfl ?_ | refine OP.aB rfl rfl ?_ | refine OP.aC rfl rfl ?_ | refine OP.aF rfl rfl ?_ | refine OP.aS rfl rfl ?_ | refine OP.aP rfl rfl ?_ | refine OP.aA rfl rfl ?_ | refine OP.aT rfl rfl ?_ | refine OP.aM rfl rfl ?_ | refine OP.aU rfl rfl ?_ | refine OP.assign rfl rfl ?_) | (show OP _ _ _ _ _ _ _ ⟨_, .call _, _, _, _, none⟩ _ _; first | refine OP.callq _ rfl (fun w _ => TableNo_fn n h1 h2 hn w) (fun _ _ h => h.1) ?_ | refine OP.len rfl rfl rfl ?_) | (show OP _ _ _ _ _ _ _ ⟨_, .binOp _ _ _ _ _, _, _, _, none⟩ _ _; first | (refine OP.add rfl rfl rfl ?_ ?_ ?_; omega; omega) | refine OP.lss rfl rfl rfl ?_ | refine OP.eql rfl rfl rfl ?_ | refine OP.neq rfl rfl rfl ?_ | refine OP.eql2 rfl rfl rfl ?_ | refine OP.eqd rfl rfl rfl ?_ | refine OP.eqlb rfl rfl rfl ?_ | refine OP.neq2 rfl rfl rfl ?_ | refine OP.neqd rfl rfl rfl ?_) | refine OP.extract rfl rfl rfl ?_ | (show OP _ _ _ _ _ _ _ ⟨_, .store _ _ _, _, _, _, none⟩ _ _; first | refine OP.stI rfl rfl inferInstance rfl ?_ | refine OP.stB rfl rfl inferInstance rfl ?_ | refine OP.stC rfl rfl inferInstance rfl ?_ | refine OP.stF rfl rfl inferInstance rfl ?_ | refine OP.stS rfl rfl inferInstance rfl ?_ | refine OP.stP rfl rfl inferInstance rfl ?_ | refine OP.stM rfl rfl inferInstance rfl ?_ | refine OP.stU rfl rfl inferInstance rfl ?_ | refine OP.st (vs := [_]) rfl rfl inferInstance rfl rfl rfl ?_ | refine OP.st (vs := [_, _]) rfl rfl inferInstance rfl rfl rfl ?_ | refine OP.st (vs := [_, _, _]) rfl rfl inferInstance rfl rfl rfl ?_))
  refine Fin.ret2 (h0 := .inl rfl) rfl rfl rfl ?_
  exact ⟨rfl, rfl⟩
set_option maxHeartbeats 1000000 in
theorem WeightsOdd_fn (m : Nat) (hm : m ≤ 12) (l : List Cx) (hl : tabC m = some l) (kind : Int) (hk : ¬ (1 ≤ kind ∧ kind ≤ 3)) (w : World) :
    Does Tryd.prog 18 #[.int .i64 ((2 ^ m : Nat) : Int), .int .i64 kind] [] w fun v Γ => v = .tuple #[.slice none 0 0, .int .i64 160] ∧ Γ = [] := by
  have ht2 := fun w => Table2_fn m l hm hl w
  generalize 2 ^ m = N at *
  refine Does.enter Tryd.func18 rfl Tryd.ntmps18 rfl (St.start w) ?_
  repeat' (first | refine Fin.tail ?_ | refine Fin.then_normal ?_ | refine Fin.then_exit ?_ | refine Fin.then_ret ?_ | refine Fin.block_normal ?_ | refine Fin.block_ret ?_ | refine Fin.block_hit ?_ | refine Fin.block_miss rfl ?_ | refine Fin.loop_exit ?_ | refine Fin.loop_ret ?_ | refine WP.seq ?_ | (refine WP.regionQ (by kernel_rfl) (by kernel_rfl) ?_) | refine WP.block ?_ | refine WP.region ?_ | refine WP.skip ?_ | refine WP.exit ?_ | refine WP.ret ?_ | refine WP.label ?_ | refine WP.cond_true rfl ?_ | refine WP.cond_false rfl ?_ | (refine WP.cond_dec rfl (fun h => ?_) (fun h => ?_) <;> (try (exfalso; omega))) | (refine WP.cond_bool rfl (fun h => ?_) (fun h => ?_)) | refine WL.nil ?_ | refine WL.cons ?_ | (show OP _ _ _ _ _ _ _ ⟨_, .move _, _, _, _, none⟩ _ _; first | refine OP.mI rfl rfl ?_ | refine OP.mB rfl rfl ?_ | refine OP.mC rfl rfl ?_ | refine OP.mF rfl rfl ?_ | refine OP.mS rfl rfl ?_ | refine OP.mP rfl rfl ?_ | refine OP.mA rfl rfl ?_ | refine OP.mT rfl rfl ?_ | refine OP.mM rfl rfl ?_ | refine OP.mU rfl rfl ?_ | refine OP.move rfl rfl ?_) | (show OP _ _ _ _ _ _ _ ⟨_, .assign _, _, _, _, none⟩ _ _; first | refine OP.aI rfl rfl ?_ | refine OP.aB rfl rfl ?_ | refine OP.aC rfl rfl ?_ | refine OP.aF rfl rfl ?_ | refine OP.aS rfl rfl ?_ | refine OP.aP rfl rfl ?_ | refine OP.aA rfl rfl ?_ | refine OP.aT rfl rfl ?_ | refine OP.aM rfl rfl ?_ | refine OP.aU rfl rfl ?_ | refine OP.assign rfl rfl ?_) | (show OP _ _ _ _ _ _ _ ⟨_, .call _, _, _, _, none⟩ _ _; first | (refine OP.call rfl (fun w' _ => ht2 w') (fun _ _ hR => ?_); obtain ⟨tb, rfl, rfl⟩ := hR) | refine OP.callq _ rfl (fun w _ => ruleNo_fn kind N hk _ w) (fun _ _ h => h.1) ?_ | refine OP.len rfl rfl rfl ?_) | (show OP _ _ _ _ _ _ _ ⟨_, .binOp _ _ _ _ _, _, _, _, none⟩ _ _; first | refine OP.eqlF0 Tryd.underlying53 rfl rfl rfl ?_ | (refine OP.add rfl rfl rfl ?_ ?_ ?_; omega; omega) | refine OP.lss rfl rfl rfl ?_ | refine OP.eql rfl rfl rfl ?_ | refine OP.neq rfl rfl rfl ?_ | refine OP.eql2 rfl rfl rfl ?_ | refine OP.eqd rfl rfl rfl ?_ | refine OP.eqlb rfl rfl rfl ?_ | refine OP.neq2 rfl rfl rfl ?_ | refine OP.neqd rfl rfl rfl ?_) | refine OP.extract rfl rfl rfl ?_ | (show OP _ _ _ _ _ _ _ ⟨_, .store _ _ _, _, _, _, none⟩ _ _; first | refine OP.stI rfl rfl inferInstance rfl ?_ | refine OP.stB rfl rfl inferInstance rfl ?_ | refine OP.stC rfl rfl inferInstance rfl ?_ | refine OP.stF rfl rfl inferInstance rfl ?_ | refine OP.stS rfl rfl inferInstance rfl ?_ | refine OP.stP rfl rfl inferInstance rfl ?_ | refine OP.stM rfl rfl inferInstance rfl ?_ | refine OP.stU rfl rfl inferInstance rfl ?_ | refine OP.st (vs := [_]) rfl rfl inferInstance rfl rfl rfl ?_ | refine OP.st (vs := [_, _]) rfl rfl inferInstance rfl rfl rfl ?_ | refine OP.st (vs := [_, _, _]) rfl rfl inferInstance rfl rfl rfl ?_))
  all_goals refine Fin.drop (List.nil_sublist _) ?_
  all_goals refine Fin.ret2 (h0 := .inl rfl) rfl rfl rfl ?_
  exact ⟨rfl, rfl⟩
set_option maxHeartbeats 4000000 in
theorem Weights_fn (m : Nat) (hm : m ≤ 12) (kind : Nat) (hk : 1 ≤ kind ∧ kind ≤ 3) (ws : List Nat) (hw : wgtsC kind m = some ws) (w : World) :
    Does Tryd.prog 18 #[.int .i64 ((2 ^ m : Nat) : Int), .int .i64 (kind : Int)] [] w fun v Γ => ∃ b, v = .tuple #[.slice (some ⟨b, 0, none⟩) (2 ^ m) (2 ^ m), .int .i64 0] ∧ Γ = [(b, .cells (fls ws ++ []).toArray 41 (0, 0))] := by
  unfold wgtsC at hw
  rw [Option.bind_eq_some_iff] at hw
  obtain ⟨l, hl, hw⟩ := hw
  have ht2 := fun w => Table2_fn m l hm hl w
  have hp := pow_bd hm
  have ll := tab_len hl
  have mk : (fls (List.replicate (2 ^ m) 0) ++ []).toArray = Array.replicate (2 ^ m) (Value.float .f64 0) := by apply Array.ext'; simp [fls]
  generalize 2 ^ m = N at *
  have hru := fun tb w => ruleOk_fn kind N hk hp l tb 0 N w
  refine Does.enter Tryd.func18 rfl Tryd.ntmps18 rfl (St.start w) ?_
  repeat' (first | refine Fin.tail ?_ | refine Fin.then_normal ?_ | refine Fin.then_exit ?_ | refine Fin.then_ret ?_ | refine Fin.block_normal ?_ | refine Fin.block_ret ?_ | refine Fin.block_hit ?_ | refine Fin.block_miss rfl ?_ | refine Fin.loop_exit ?_ | refine Fin.loop_ret ?_ | refine WP.seq ?_ | (refine WP.regionQ (by kernel_rfl) (by kernel_rfl) ?_) | refine WP.block ?_ | refine WP.region ?_ | refine WP.skip ?_ | refine WP.exit ?_ | refine WP.ret ?_ | refine WP.label ?_ | refine WP.cond_true rfl ?_ | refine WP.cond_false rfl ?_ | (refine WP.cond_dec rfl (fun h => ?_) (fun h => ?_) <;> (try (exfalso; omega))) | (refine WP.cond_bool rfl (fun h => ?_) (fun h => ?_)) | refine WL.nil ?_ | refine WL.cons ?_ | (show OP _ _ _ _ _ _ _ ⟨_, .move _, _, _, _, none⟩ _ _; first | refine OP.mI rfl rfl ?_ | refine OP.mB rfl rfl ?_ | refine OP.mC rfl rfl ?_ | refine OP.mF rfl rfl ?_ | refine OP.mS rfl rfl ?_ | refine OP.mP rfl rfl ?_ | refine OP.mA rfl rfl ?_ | refine OP.mT rfl rfl ?_ | refine OP.mM rfl rfl ?_ | refine OP.mU rfl rfl ?_ | refine OP.move rfl rfl ?_) | (show OP _ _ _ _ _ _ _ ⟨_, .assign _, _, _, _, none⟩ _ _; first | refine OP.aI rfl rfl ?_ | refine OP.aB rfl rfl ?_ | refine OP.aC rfl rfl ?_ | refine OP.aF rfl rfl ?_ | refine OP.aS rfl rfl ?_ | refine OP.aP rfl rfl ?_ | refine OP.aA rfl rfl ?_ | refine OP.aT rfl rfl ?_ | refine OP.aM rfl rfl ?_ | refine OP.aU rfl rfl ?_ | refine OP.assign rfl rfl ?_) | (show OP _ _ _ _ _ _ _ ⟨_, .call _, _, _, _, none⟩ _ _; first | (refine OP.call rfl (fun w' _ => ht2 w') (fun _ _ hR => ?_); obtain ⟨tb, rfl, rfl⟩ := hR) | (refine OP.call rfl (fun w' _ => hru tb w') (fun v1 Γr hR => ?_); obtain ⟨f, cap, hB, rfl, hcall⟩ := hR) | refine OP.len rfl rfl rfl ?_) | (show OP _ _ _ _ _ _ _ ⟨_, .binOp _ _ _ _ _, _, _, _, none⟩ _ _; first | refine OP.eqlF Tryd.underlying53 rfl rfl rfl ?_ | (refine OP.add rfl rfl rfl ?_ ?_ ?_; omega; omega) | refine OP.lss rfl rfl rfl ?_ | refine OP.eql rfl rfl rfl ?_ | refine OP.neq rfl rfl rfl ?_ | refine OP.eql2 rfl rfl rfl ?_ | refine OP.eqd rfl rfl rfl ?_ | refine OP.eqlb rfl rfl rfl ?_ | refine OP.neq2 rfl rfl rfl ?_ | refine OP.neqd rfl rfl rfl ?_) | refine OP.extract rfl rfl rfl ?_ | (show OP _ _ _ _ _ _ _ ⟨_, .store _ _ _, _, _, _, none⟩ _ _; first | refine OP.stI rfl rfl inferInstance rfl ?_ | refine OP.stB rfl rfl inferInstance rfl ?_ | refine OP.stC rfl rfl inferInstance rfl ?_ | refine OP.stF rfl rfl inferInstance rfl ?_ | refine OP.stS rfl rfl inferInstance rfl ?_ | refine OP.stP rfl rfl inferInstance rfl ?_ | refine OP.stM rfl rfl inferInstance rfl ?_ | refine OP.stU rfl rfl inferInstance rfl ?_ | refine OP.st (vs := [_]) rfl rfl inferInstance rfl rfl rfl ?_ | refine OP.st (vs := [_, _]) rfl rfl inferInstance rfl rfl rfl ?_ | refine OP.st (vs := [_, _, _]) rfl rfl inferInstance rfl rfl rfl ?_))
  refine OP.make1 (z := .float .f64 0) (l := N) rfl rfl rfl rfl rfl (by omega) (by omega) (fun b => ?_)
  rw [← mk]
  repeat' (first | refine Fin.tail ?_ | refine Fin.then_normal ?_ | refine Fin.then_exit ?_ | refine Fin.then_ret ?_ | refine Fin.block_normal ?_ | refine Fin.block_ret ?_ | refine Fin.block_hit ?_ | refine Fin.block_miss rfl ?_ | refine Fin.loop_exit ?_ | refine Fin.loop_ret ?_ | refine WP.seq ?_ | (refine WP.regionQ (by kernel_rfl) (by kernel_rfl) ?_) | refine WP.block ?_ | refine WP.region ?_ | refine WP.skip ?_ | refine WP.exit ?_ | refine WP.ret ?_ | refine WP.label ?_ | refine WP.cond_true rfl ?_ | refine WP.cond_false rfl ?_ | (refine WP.cond_dec rfl (fun h => ?_) (fun h => ?_) <;> (try (exfalso; omega))) | (refine WP.cond_bool rfl (fun h => ?_) (fun h => ?_)) | refine WL.nil ?_ | refine WL.cons ?_ | (show OP _ _ _ _ _ _ _ ⟨_, .move _, _, _, _, none⟩ _ _; first | refine OP.mI rfl rfl ?_ | refine OP.mB rfl rfl ?_ | refine OP.mC rfl rfl ?_ | refine OP.mF rfl rfl ?_ | refine OP.mS rfl rfl ?_ | refine OP.mP rfl rfl ?_ | refine OP.mA rfl rfl ?_ | refine OP.mT rfl rfl ?_ | refine OP.mM rfl rfl ?_ | refine OP.mU rfl rfl ?_ | refine OP.move rfl rfl ?_) | (show OP _ _ _ _ _ _ _ ⟨_, .assign _, _, _, _, none⟩ _ _; first | refine OP.aI rfl rfl ?_ | refine OP.aB rfl rfl ?_ | refine OP.aC rfl rfl ?_ | refine OP.aF rfl rfl ?_ | refine OP.aS rfl rfl ?_ | refine OP.aP rfl rfl ?_ | refine OP.aA rfl rfl ?_ | refine OP.aT rfl rfl ?_ | refine OP.aM rfl rfl ?_ | refine OP.aU rfl rfl ?_ | refine OP.assign rfl rfl ?_) | refine OP.len rfl rfl rfl ?_ | (show OP _ _ _ _ _ _ _ ⟨_, .binOp _ _ _ _ _, _, _, _, none⟩ _ _; first | (refine OP.add rfl rfl rfl ?_ ?_ ?_; omega; omega) | refine OP.lss rfl rfl rfl ?_ | refine OP.eql rfl rfl rfl ?_ | refine OP.neq rfl rfl rfl ?_ | refine OP.eql2 rfl rfl rfl ?_ | refine OP.eqd rfl rfl rfl ?_ | refine OP.eqlb rfl rfl rfl ?_ | refine OP.neq2 rfl rfl rfl ?_ | refine OP.neqd rfl rfl rfl ?_) | refine OP.extract rfl rfl rfl ?_ | (show OP _ _ _ _ _ _ _ ⟨_, .store _ _ _, _, _, _, none⟩ _ _; first | refine OP.stI rfl rfl inferInstance rfl ?_ | refine OP.stB rfl rfl inferInstance rfl ?_ | refine OP.stC rfl rfl inferInstance rfl ?_ | refine OP.stF rfl rfl inferInstance rfl ?_ | refine OP.stS rfl rfl inferInstance rfl ?_ | refine OP.stP rfl rfl inferInstance rfl ?_ | refine OP.stM rfl rfl inferInstance rfl ?_ | refine OP.stU rfl rfl inferInstance rfl ?_ | refine OP.st (vs := [_]) rfl rfl inferInstance rfl rfl rfl ?_ | refine OP.st (vs := [_, _]) rfl rfl inferInstance rfl rfl rfl ?_ | refine OP.st (vs := [_, _, _]) rfl rfl inferInstance rfl rfl rfl ?_))
  refine WP.loop [10, 29, 30, 31, 32, 33, 34, 35, 36, 37, 38] (fun k : Nat => [(29, .int .i64 k)]) (fun k => match wgtTo kind N l k with | some o => (b, Obj.cells (fls (o ++ List.replicate (N - k) 0) ++ []).toArray 41 (0, 0)) :: (Γr ++ ([(tb, Obj.cells (cxs l ++ []).toArray 31 (0, 0))] ++ [])) | none => []) (fun k => k ≤ N) (fun k => N - k) 0 (by omega) rfl ⟨rfl, trivial⟩ ?_
  rintro k jk k1
  dsimp only [updL]
  obtain ⟨o, ho⟩ := wgtTo_some (show k ≤ N by omega) hw
  have ol := wgtTo_len ho
  rw [ho]
  dsimp only
  by_cases hk : k < N
  · obtain ⟨o', ho'⟩ := wgtTo_some (show k + 1 ≤ N by omega) hw
    have ho2 := ho'
    unfold wgtTo at ho2
    rw [ho] at ho2
    simp only [Option.bind_some, Option.bind_eq_some_iff, Option.some.injEq] at ho2
    obtain ⟨a, ha, r, hr, rfl⟩ := ho2
    obtain ⟨R, hR⟩ : ∃ R, N - k = R + 1 := ⟨N - k - 1, by omega⟩
    rw [hR]
    have hset := fls_fill o R r 0
    rw [ol] at hset
    have hsz := fls_size (l := o ++ List.replicate (R + 1) 0) (sp := []) (i := k) (by rw [List.length_append, ol, List.length_replicate]; omega)
    repeat' (first | refine OP.indexAddr (j := k) rfl rfl rfl rfl hk ?_ | (refine OP.store0 (vs := [.float .f64 r]) rfl rfl rfl rfl hsz ?_; rw [hset]) | refine Fin.tail ?_ | refine Fin.then_normal ?_ | refine Fin.then_exit ?_ | refine Fin.then_ret ?_ | refine Fin.block_normal ?_ | refine Fin.block_ret ?_ | refine Fin.block_hit ?_ | refine Fin.block_miss rfl ?_ | refine Fin.loop_exit ?_ | refine Fin.loop_ret ?_ | refine WP.seq ?_ | (refine WP.regionQ (by kernel_rfl) (by kernel_rfl) ?_) | refine WP.block ?_ | refine WP.region ?_ | refine WP.skip ?_ | refine WP.exit ?_ | refine WP.ret ?_ | refine WP.label ?_ | refine WP.cond_true rfl ?_ | refine WP.cond_false rfl ?_ | (refine WP.cond_dec rfl (fun h => ?_) (fun h => ?_) <;> (try (exfalso; omega))) | (refine WP.cond_bool rfl (fun h => ?_) (fun h => ?_)) | refine WL.nil ?_ | refine WL.cons ?_ | (show OP _ _ _ _ _ _ _ ⟨_, .move _, _, _, _, none⟩ _ _; first | refine OP.mI rfl rfl ?_ | refine OP.mB rfl rfl ?_ | refine OP.mC rfl rfl ?_ | refine OP.mF rfl rfl ?_ | refine OP.mS rfl rfl ?_ | refine OP.mP rfl rfl ?_ | refine OP.mA rfl rfl ?_ | refine OP.mT rfl rfl ?_ | refine OP.mM rfl rfl ?_ | refine OP.mU rfl rfl ?_ | refine OP.move rfl rfl ?_) | (show OP _ _ _ _ _ _ _ ⟨_, .assign _, _, _, _, none⟩ _ _; first | refine OP.aI rfl rfl ?_ | refine OP.aB rfl rfl ?_ | refine OP.aC rfl rfl ?_ | refine OP.aF rfl rfl ?_ | refine OP.aS rfl rfl ?_ | refine OP.aP rfl rfl ?_ | refine OP.aA rfl rfl ?_ | refine OP.aT rfl rfl ?_ | refine OP.aM rfl rfl ?_ | refine OP.aU rfl rfl ?_ | refine OP.assign rfl rfl ?_) | (show OP _ _ _ _ _ _ _ ⟨_, .call _, _, _, _, none⟩ _ _; first | refine OP.callvq (f := f) (.float .f64 r) rfl rfl rfl (fun w' hst => hcall k a r hk ha hr w' (fun x hx => hst.has x (List.mem_cons_of_mem _ (List.mem_append_left _ hx))) (RdC.own hst (List.mem_cons_of_mem _ (List.mem_append_right _ (.head _))))) (fun _ _ h => h.1) ?_ | refine OP.len rfl rfl rfl ?_) | (show OP _ _ _ _ _ _ _ ⟨_, .binOp _ _ _ _ _, _, _, _, none⟩ _ _; first | (refine OP.add rfl rfl rfl ?_ ?_ ?_; omega; omega) | refine OP.lss rfl rfl rfl ?_ | refine OP.eql rfl rfl rfl ?_ | refine OP.neq rfl rfl rfl ?_ | refine OP.eql2 rfl rfl rfl ?_ | refine OP.eqd rfl rfl rfl ?_ | refine OP.eqlb rfl rfl rfl ?_ | refine OP.neq2 rfl rfl rfl ?_ | refine OP.neqd rfl rfl rfl ?_) | refine OP.extract rfl rfl rfl ?_ | (show OP _ _ _ _ _ _ _ ⟨_, .store _ _ _, _, _, _, none⟩ _ _; first | refine OP.stI rfl rfl inferInstance rfl ?_ | refine OP.stB rfl rfl inferInstance rfl ?_ | refine OP.stC rfl rfl inferInstance rfl ?_ | refine OP.stF rfl rfl inferInstance rfl ?_ | refine OP.stS rfl rfl inferInstance rfl ?_ | refine OP.stP rfl rfl inferInstance rfl ?_ | refine OP.stM rfl rfl inferInstance rfl ?_ | refine OP.stU rfl rfl inferInstance rfl ?_ | refine OP.st (vs := [_]) rfl rfl inferInstance rfl rfl rfl ?_ | refine OP.st (vs := [_, _]) rfl rfl inferInstance rfl rfl rfl ?_ | refine OP.st (vs := [_, _, _]) rfl rfl inferInstance rfl rfl rfl ?_))
    refine Fin.loop_normal fun w' hst => ⟨k + 1, by omega, by omega, by (repeat' (first | exact Agree.refl _ _ | refine Agree.upd rfl ?_ | refine Agree.hav rfl ?_)), ⟨rfl, trivial⟩, by rw [ho', show N - (k + 1) = R by omega]; exact hst⟩
  · have ek : k = N := by omega
    subst ek
    obtain rfl : o = ws := by rw [ho] at hw; exact Option.some.inj hw
    rw [Nat.sub_self, List.replicate_zero, List.append_nil]
    repeat' (first | refine Fin.tail ?_ | refine Fin.then_normal ?_ | refine Fin.then_exit ?_ | refine Fin.then_ret ?_ | refine Fin.block_normal ?_ | refine Fin.block_ret ?_ | refine Fin.block_hit ?_ | refine Fin.block_miss rfl ?_ | refine Fin.loop_exit ?_ | refine Fin.loop_ret ?_ | refine WP.seq ?_ | (refine WP.regionQ (by kernel_rfl) (by kernel_rfl) ?_) | refine WP.block ?_ | refine WP.region ?_ | refine WP.skip ?_ | refine WP.exit ?_ | refine WP.ret ?_ | refine WP.label ?_ | refine WP.cond_true rfl ?_ | refine WP.cond_false rfl ?_ | (refine WP.cond_dec rfl (fun h => ?_) (fun h => ?_) <;> (try (exfalso; omega))) | (refine WP.cond_bool rfl (fun h => ?_) (fun h => ?_)) | refine WL.nil ?_ | refine WL.cons ?_ | (show OP _ _ _ _ _ _ _ ⟨_, .move _, _, _, _, none⟩ _ _; first | refine OP.mI rfl rfl ?_ | refine OP.mB rfl rfl ?_ | refine OP.mC rfl rfl ?_ | refine OP.mF rfl rfl ?_ | refine OP.mS rfl rfl ?_ | refine OP.mP rfl rfl ?_ | refine OP.mA rfl rfl ?_ | refine OP.mT rfl rfl ?_ | refine OP.mM rfl rfl ?_ | refine OP.mU rfl rfl ?_ | refine OP.move rfl rfl ?_) | (show OP _ _ _ _ _ _ _ ⟨_, .assign _, _, _, _, none⟩ _ _; first | refine OP.aI rfl rfl ?_ | refine OP.aB rfl rfl ?_ | refine OP.aC rfl rfl ?_ | refine OP.aF rfl rfl ?_ | refine OP.aS rfl rfl ?_ | refine OP.aP rfl rfl ?_ | refine OP.aA rfl rfl ?_ | refine OP.aT rfl rfl ?_ | refine OP.aM rfl rfl ?_ | refine OP.aU rfl rfl ?_ | refine OP.assign rfl rfl ?_) | refine OP.len rfl rfl rfl ?_ | (show OP _ _ _ _ _ _ _ ⟨_, .binOp _ _ _ _ _, _, _, _, none⟩ _ _; first | (refine OP.add rfl rfl rfl ?_ ?_ ?_; omega; omega) | refine OP.lss rfl rfl rfl ?_ | refine OP.eql rfl rfl rfl ?_ | refine OP.neq rfl rfl rfl ?_ | refine OP.eql2 rfl rfl rfl ?_ | refine OP.eqd rfl rfl rfl ?_ | refine OP.eqlb rfl rfl rfl ?_ | refine OP.neq2 rfl rfl rfl ?_ | refine OP.neqd rfl rfl rfl ?_) | refine OP.extract rfl rfl rfl ?_ | (show OP _ _ _ _ _ _ _ ⟨_, .store _ _ _, _, _, _, none⟩ _ _; first | refine OP.stI rfl rfl inferInstance rfl ?_ | refine OP.stB rfl rfl inferInstance rfl ?_ | refine OP.stC rfl rfl inferInstance rfl ?_ | refine OP.stF rfl rfl inferInstance rfl ?_ | refine OP.stS rfl rfl inferInstance rfl ?_ | refine OP.stP rfl rfl inferInstance rfl ?_ | refine OP.stM rfl rfl inferInstance rfl ?_ | refine OP.stU rfl rfl inferInstance rfl ?_ | refine OP.st (vs := [_]) rfl rfl inferInstance rfl rfl rfl ?_ | refine OP.st (vs := [_, _]) rfl rfl inferInstance rfl rfl rfl ?_ | refine OP.st (vs := [_, _, _]) rfl rfl inferInstance rfl rfl rfl ?_))
    refine Fin.drop (List.Sublist.cons_cons _ (List.nil_sublist _)) ?_
    refine Fin.ret2 (h0 := .inl rfl) rfl rfl rfl ?_
    exact ⟨b, rfl, by simp⟩
end Go.Proofs.YtjckoflcjkajiaaDoor
end
section
/- The weights in plain numbers: they stand, lie from 0 to 1, and read alike from both ends. Nothing of the program. -/
set_option linter.unusedVariables false
set_option maxRecDepth 100000
namespace Go.Wav
open Go.Flt Go.Pen
theorem one_lt : one < 9223372036854775808 := by decide
theorem plain_bd {p : Nat} (h : p ≤ one) : plainF p = p := by
  unfold plainF
  have := one_lt
  split
  · omega
  · rfl
theorem flip_flip (p : Nat) : flipF (flipF p) = p := by unfold flipF; rw [Nat.xor_assoc, Nat.xor_self, Nat.xor_zero]
theorem flip_mod (p : Nat) : flipF p % 9223372036854775808 = p % 9223372036854775808 := by
  have := Nat.xor_mod_two_pow (a := p) (b := 9223372036854775808) (n := 63)
  unfold flipF
  rw [show (2 : Nat) ^ 63 = 9223372036854775808 by decide] at this
  rw [this, Nat.mod_self, Nat.xor_zero]
theorem plain_mod {p : Nat} {b : Nat} (h : p % 9223372036854775808 ≤ b) : plainF p % 9223372036854775808 ≤ b := by
  unfold plainF
  split
  · exact Nat.zero_le _
  · exact h
def Mb (a : Cx) : Prop := a.1 % 9223372036854775808 ≤ one ∧ a.2 % 9223372036854775808 ≤ one
theorem mb_turns {a : Cx} (h : Mb a) : ∀ j, Mb (turns j a)
  | 0 => h
  | j + 1 => ⟨plain_mod (by show flipF _ % _ ≤ _; rw [flip_mod]; exact (mb_turns h j).2), plain_mod (mb_turns h j).1⟩
theorem bd_mb {a : Cx} (h : Bd a) : Mb a := ⟨Nat.le_trans (Nat.mod_le _ _) h.1, Nat.le_trans (Nat.mod_le _ _) h.2⟩

section
variable {m : Nat} {f : List Cx} (hm : m ≤ 12) (hb : ∀ a ∈ f, Bd a) (hl : f.length = 2 ^ m / 8 + 1)
include hm hb hl
/-- A quarter's number stands. -/
theorem quarter_some (h2 : 2 ≤ m) {k : Nat} (hk : k < 2 ^ m / 4) : ∃ a, quarterC (2 ^ m) k f = some a ∧ Bd a := by
  have hq : 2 ^ m / 4 ≤ 2 * (2 ^ m / 8) ∨ 2 ^ m / 4 = 1 := by
    rcases (by omega : m = 2 ∨ 3 ≤ m) with rfl | h3
    · right; rfl
    · left
      obtain ⟨t, rfl⟩ : ∃ t, m = t + 3 := ⟨m - 3, by omega⟩
      rw [Nat.pow_add]; omega
  unfold quarterC
  by_cases h8 : k ≤ 2 ^ m / 8
  · rw [if_pos h8]
    have : k < f.length := by omega
    exact ⟨f[k], List.getElem?_eq_getElem this, hb _ (List.getElem_mem this)⟩
  · rw [if_neg h8]
    have : 2 ^ m / 4 - k < f.length := by omega
    have hbd := hb _ (List.getElem_mem this)
    exact ⟨(f[2 ^ m / 4 - k].2, f[2 ^ m / 4 - k].1), by rw [List.getElem?_eq_getElem this]; rfl, hbd.2, hbd.1⟩
theorem at_some {k : Nat} (hk : k < 2 ^ m) : ∃ a, atC (2 ^ m) k f = some a ∧ Mb a := by
  unfold atC
  by_cases h4 : 2 ^ m < 4
  · rw [if_pos h4]
    refine ⟨_, rfl, ?_⟩
    split
    · exact ⟨by decide, by decide⟩
    · exact ⟨by decide, by decide⟩
  · rw [if_neg h4]
    have h2 : 2 ≤ m := by
      rcases Nat.lt_or_ge m 2 with h | h
      · exfalso
        rcases (by omega : m = 0 ∨ m = 1) with rfl | rfl <;> simp at h4
      · exact h
    obtain ⟨a, ha, hbd⟩ := quarter_some hm hb hl h2 (k := k % (2 ^ m / 4)) (Nat.mod_lt _ (by omega))
    rw [ha]
    exact ⟨_, rfl, mb_turns (bd_mb hbd) _⟩
theorem tab_some : ∃ l, tabTo (2 ^ m) f (2 ^ m) = some l := by
  have go : ∀ k, k ≤ 2 ^ m → ∃ l, tabTo (2 ^ m) f k = some l := by
    intro k
    induction k with
    | zero => intro _; exact ⟨[], rfl⟩
    | succ k ih =>
      intro hk
      obtain ⟨l, hl'⟩ := ih (by omega)
      obtain ⟨a, ha, _⟩ := at_some hm hb hl (k := k) (by omega)
      exact ⟨l ++ [a], by unfold tabTo; rw [hl', Option.bind_some, ha, Option.bind_some]⟩
  exact go _ (Nat.le_refl _)
end
/-- The table of every order stands. -/
theorem tabC_some {m : Nat} (hm : m ≤ 12) : ∃ l, tabC m = some l := by
  obtain ⟨f, hf, hb, hl, _⟩ := eighth_all hm
  obtain ⟨l, h⟩ := tab_some hm hb hl
  exact ⟨l, by unfold tabC; rw [hf, Option.bind_some, h]⟩
theorem one_eq : one' = one := rfl
theorem half_some {a : Cx} (hw : Wf a) (h : Mb a) : ∃ x, halfC a = some x ∧ x ≤ one := by
  obtain ⟨s, h1, h2⟩ := addone_le (p := a.1) hw.1 h.1
  obtain ⟨x, h3, h4⟩ := half_le h2
  refine ⟨x, ?_, h4⟩
  unfold halfC
  rw [show one = one' from rfl, h1, Option.bind_some]; exact h3
theorem tri_some {N i : Nat} (hN : 0 < N) (hb : N ≤ 4096) (hi : i < N) : ∃ t, triC N i = some t ∧ t ≤ one := tri_le (by omega) hN (by omega)
theorem wgt_some {kind N i : Nat} {a : Cx} (hN : 0 < N) (hb : N ≤ 4096) (hi : i < N) (hw : Wf a) (h : Mb a) : ∃ r, wgtC kind N i a = some r ∧ r ≤ one := by
  obtain ⟨t, h1, h2⟩ := tri_some hN hb hi
  obtain ⟨x, h3, h4⟩ := half_some hw h
  unfold wgtC
  by_cases k1 : kind = 1
  · rw [if_pos k1]; exact ⟨one, rfl, Nat.le_refl _⟩
  · rw [if_neg k1]
    by_cases k2 : kind = 2
    · rw [if_pos k2]; exact ⟨t, h1, h2⟩
    · rw [if_neg k2, h1, Option.bind_some, h3, Option.bind_some]
      exact mul_le1 h2 h4
theorem plain_plain (p : Nat) : plainF (plainF p) = plainF p := by
  unfold plainF
  split
  · rfl
  · rfl
theorem pfpf {p : Nat} (h : p ≤ one) : plainF (flipF (plainF (flipF p))) = p := by
  by_cases h0 : p = 0
  · subst h0; decide
  · have := one_lt
    have e : plainF (flipF p) = flipF p := by
      unfold plainF
      split
      · rename_i hz
        exfalso
        have hm := flip_mod p
        rw [Nat.mod_eq_of_lt (a := p) (by omega)] at hm
        rcases hz with hz | hz <;> rw [hz] at hm <;> omega
      · rfl
    rw [e, flip_flip, plain_bd h]
theorem turn_sym {c s : Nat} (hc : c ≤ one) (hs : s ≤ one) : ∀ q, q ≤ 3 → (turns q (c, s)).1 = (turns (3 - q) (s, c)).1 := by
  intro q hq
  rcases (by omega : q = 0 ∨ q = 1 ∨ q = 2 ∨ q = 3) with rfl | rfl | rfl | rfl
  · show c = plainF (flipF (plainF (plainF (flipF c))))
    rw [plain_plain, pfpf hc]
  · show plainF (flipF s) = plainF (flipF (plainF s))
    rw [plain_bd hs]
  · show plainF (flipF (plainF c)) = plainF (flipF c)
    rw [plain_bd hc]
  · show plainF (flipF (plainF (plainF (flipF s)))) = s
    rw [plain_plain, pfpf hs]
theorem quarter_swap {m : Nat} {f : List Cx} {Q E : Nat} (hQ : 2 ^ m / 4 = Q) (hE : 2 ^ m / 8 = E) (h2 : Q = 2 * E) (hlast : ∃ c, f[E]? = some (c, c)) {r : Nat} (hr0 : 0 < r) (hr : r < Q) {a : Cx} (h : quarterC (2 ^ m) r f = some a) : quarterC (2 ^ m) (Q - r) f = some (a.2, a.1) := by
  unfold quarterC at h ⊢
  rw [hQ, hE] at h ⊢
  by_cases h8 : r ≤ E
  · rw [if_pos h8] at h
    by_cases he : r = E
    · obtain ⟨c, hc⟩ := hlast
      subst he
      rw [if_pos (by omega), show Q - r = r by omega, hc]
      rw [hc] at h
      obtain rfl := Option.some.inj h
      rfl
    · rw [if_neg (by omega), show Q - (Q - r) = r by omega, h]; rfl
  · rw [if_neg h8, Option.map_eq_some_iff] at h
    obtain ⟨b, hb, rfl⟩ := h
    rw [if_pos (by omega), hb]
theorem at_sym {m : Nat} (hm : m ≤ 12) {f : List Cx} (hf : eighthC m = some f) (hb : ∀ a ∈ f, Bd a) (hl : f.length = 2 ^ m / 8 + 1) (hlast : 3 ≤ m → ∃ c, f[2 ^ m / 8]? = some (c, c)) {i : Nat} (h0 : 0 < i) (hi : i < 2 ^ m) {a b : Cx} (ha : atC (2 ^ m) i f = some a) (hb' : atC (2 ^ m) (2 ^ m - i) f = some b) : a.1 = b.1 := by
  by_cases h4 : 2 ^ m < 4
  · have : 2 ^ m = 2 := by
      rcases (by omega : m = 0 ∨ m = 1 ∨ 2 ≤ m) with rfl | rfl | h
      · simp at hi; omega
      · rfl
      · have := Nat.pow_le_pow_right (n := 2) (by decide) h; omega
    obtain rfl : i = 1 := by omega
    rw [this] at ha hb'
    rw [ha] at hb'
    rw [Option.some.inj hb']
  · have hm2 : 2 ≤ m := by
      rcases Nat.lt_or_ge m 2 with h | h
      · exfalso
        rcases (by omega : m = 0 ∨ m = 1) with rfl | rfl <;> simp at h4
      · exact h
    have hN : 2 ^ m = 4 * (2 ^ m / 4) := by
      obtain ⟨t, rfl⟩ : ∃ t, m = t + 2 := ⟨m - 2, by omega⟩
      rw [Nat.pow_add]; omega
    have hqs := fun k (hk : k < 2 ^ m / 4) => quarter_some hm hb hl hm2 hk
    have hsw : ∀ r, 0 < r → r < 2 ^ m / 4 → ∀ a, quarterC (2 ^ m) r f = some a → quarterC (2 ^ m) (2 ^ m / 4 - r) f = some (a.2, a.1) := by
      intro r hr0 hr a h
      have hm3 : 3 ≤ m := by
        rcases (by omega : m = 2 ∨ 3 ≤ m) with rfl | h
        · simp at hr; omega
        · exact h
      have h2 : 2 ^ m / 4 = 2 * (2 ^ m / 8) := by
        obtain ⟨t, rfl⟩ : ∃ t, m = t + 3 := ⟨m - 3, by omega⟩
        rw [Nat.pow_add]; omega
      exact quarter_swap rfl rfl h2 (hlast hm3) hr0 hr h
    have hz : quarterC (2 ^ m) 0 f = some (one, 0) := by
      unfold quarterC
      rw [if_pos (Nat.zero_le _)]
      exact eighth_head hf
    unfold atC at ha hb'
    rw [if_neg h4] at ha hb'
    generalize 2 ^ m / 4 = Q at *
    have hdm := Nat.div_add_mod i Q
    have hQ0 : 0 < Q := by omega
    have hlt := Nat.mod_lt i hQ0
    obtain ⟨q, hq⟩ : ∃ q, q = i / Q := ⟨_, rfl⟩
    obtain ⟨r, hr⟩ : ∃ r, r = i % Q := ⟨_, rfl⟩
    rw [← hq, ← hr] at ha hdm
    rw [← hr] at hlt
    have hq4 : q < 4 := by
      rw [hq]; exact Nat.div_lt_of_lt_mul (by rw [Nat.mul_comm]; omega)
    by_cases hr0 : r = 0
    · subst hr0
      have e1 : 2 ^ m - i = Q * (4 - q) := by rw [← hdm, hN, Nat.mul_sub, Nat.mul_comm 4 Q]; omega
      rw [e1, Nat.mul_mod_right, Nat.mul_div_cancel_left _ hQ0, hz] at hb'
      rw [hz] at ha
      obtain rfl := Option.some.inj ha
      obtain rfl := Option.some.inj hb'
      have hq1 : 1 ≤ q := by
        rcases Nat.eq_zero_or_pos q with h | h
        · subst h; omega
        · exact h
      rcases (by omega : q = 1 ∨ q = 2 ∨ q = 3) with rfl | rfl | rfl <;> decide
    · have e1 : 2 ^ m - i = Q * (3 - q) + (Q - r) := by
        have : Q * (3 - q) + Q * q + Q = 4 * Q := by
          rw [← Nat.mul_add, show 3 - q + q = 3 by omega]; omega
        omega
      have e2 : (Q * (3 - q) + (Q - r)) % Q = Q - r := by rw [Nat.mul_add_mod, Nat.mod_eq_of_lt (by omega)]
      have e3 : (Q * (3 - q) + (Q - r)) / Q = 3 - q := by rw [Nat.mul_add_div hQ0, Nat.div_eq_of_lt (by omega), Nat.add_zero]
      rw [e1, e2, e3] at hb'
      obtain ⟨c, hc, hbd⟩ := hqs r hlt
      rw [hsw r (by omega) hlt c hc] at hb'
      rw [hc] at ha
      obtain rfl := Option.some.inj ha
      obtain rfl := Option.some.inj hb'
      exact turn_sym hbd.1 hbd.2 q (by omega)
theorem wgtTo_get {kind N : Nat} {l : List Cx} : ∀ {k : Nat} {ws : List Nat}, wgtTo kind N l k = some ws → ∀ j, j < k → ∃ a r, l[j]? = some a ∧ wgtC kind N j a = some r ∧ ws[j]? = some r
  | 0, ws, e, j, hj => absurd hj (by omega)
  | k + 1, ws, e, j, hj => by
    unfold wgtTo at e
    simp only [Option.bind_eq_some_iff, Option.some.injEq] at e
    obtain ⟨o, h1, a, h2, r, h3, rfl⟩ := e
    have hl := wgtTo_len h1
    by_cases hjk : j < k
    · obtain ⟨a', r', g1, g2, g3⟩ := wgtTo_get h1 j hjk
      exact ⟨a', r', g1, g2, by rw [List.getElem?_append_left (by omega)]; exact g3⟩
    · obtain rfl : j = k := by omega
      exact ⟨a, r, h2, h3, by rw [List.getElem?_append_right (by omega), hl, Nat.sub_self]; rfl⟩
/-- The weights of every kind and order. -/
theorem wgts_all {kind m : Nat} (hm : m ≤ 12) : ∃ ws, wgtsC kind m = some ws ∧ ws.length = 2 ^ m ∧ (∀ (i r : Nat), ws[i]? = some r → r ≤ one) ∧ ∀ i, 0 < i → i < 2 ^ m → ∀ r r', ws[i]? = some r → ws[2 ^ m - i]? = some r' → r = r' := by
  obtain ⟨f, hf, hb, hl, hlast⟩ := eighth_all hm
  obtain ⟨l, ht⟩ := tab_some hm hb hl
  have hN := Nat.two_pow_pos m
  have hN4 : 2 ^ m ≤ 4096 := Nat.le_trans (Nat.pow_le_pow_right (by decide) hm) (by decide)
  have hg : ∀ j, j < 2 ^ m → ∃ a, l[j]? = some a ∧ atC (2 ^ m) j f = some a ∧ Wf a ∧ Mb a := by
    intro j hj
    obtain ⟨a, ha, hmb⟩ := at_some hm hb hl hj
    have hgj : l[j]? = atC (2 ^ m) j f := by
      have go : ∀ {k : Nat} {l : List Cx}, tabTo (2 ^ m) f k = some l → ∀ j, j < k → l[j]? = atC (2 ^ m) j f := by
        intro k
        induction k with
        | zero => intro l _ j hj; omega
        | succ k ih =>
          intro l e j hj
          unfold tabTo at e
          simp only [Option.bind_eq_some_iff, Option.some.injEq] at e
          obtain ⟨l', h1, a, h2, rfl⟩ := e
          have hl := Go.Proofs.YtjckoflcjkajiaaDoor.tabTo_len h1
          by_cases hjk : j < k
          · rw [List.getElem?_append_left (by omega)]; exact ih h1 j hjk
          · obtain rfl : j = k := by omega
            rw [List.getElem?_append_right (by omega), hl, Nat.sub_self, h2]; rfl
      exact go ht j hj
    exact ⟨a, by rw [hgj, ha], ha, wf_at (wf_eighth hf) ha, hmb⟩
  have ex : ∀ k, k ≤ 2 ^ m → ∃ ws, wgtTo kind (2 ^ m) l k = some ws := by
    intro k
    induction k with
    | zero => intro _; exact ⟨[], rfl⟩
    | succ k ih =>
      intro hk
      obtain ⟨ws, hw⟩ := ih (by omega)
      obtain ⟨a, h1, _, h2, h3⟩ := hg k (by omega)
      obtain ⟨r, hr, _⟩ := wgt_some (kind := kind) hN hN4 (show k < 2 ^ m by omega) h2 h3
      exact ⟨ws ++ [r], by unfold wgtTo; rw [hw, Option.bind_some, h1, Option.bind_some, hr, Option.bind_some]⟩
  obtain ⟨ws, hw⟩ := ex _ (Nat.le_refl _)
  have hwl := wgtTo_len hw
  refine ⟨ws, by unfold wgtsC tabC; rw [hf, Option.bind_some, ht, Option.bind_some, hw], hwl, fun i r hi => ?_, fun i h0 hi r r' hr hr' => ?_⟩
  · have hlt : i < 2 ^ m := by rw [← hwl]; exact (List.getElem?_eq_some_iff.1 hi).1
    obtain ⟨a, r2, g1, g2, g3⟩ := wgtTo_get hw i hlt
    obtain ⟨a', q1, _, q2, q3⟩ := hg i hlt
    obtain rfl : a = a' := by rw [g1] at q1; exact Option.some.inj q1
    obtain ⟨r3, k1, k2⟩ := wgt_some (kind := kind) hN hN4 hlt q2 q3
    obtain rfl : r2 = r3 := by rw [g2] at k1; exact Option.some.inj k1
    obtain rfl : r = r2 := by rw [hi] at g3; exact Option.some.inj g3
    exact k2
  · obtain ⟨a, r2, g1, g2, g3⟩ := wgtTo_get hw i hi
    obtain ⟨b, r3, p1, p2, p3⟩ := wgtTo_get hw (2 ^ m - i) (by omega)
    obtain ⟨a', q1, qa, _⟩ := hg i hi
    obtain ⟨b', s1, sa, _⟩ := hg (2 ^ m - i) (by omega)
    obtain rfl : a = a' := by rw [g1] at q1; exact Option.some.inj q1
    obtain rfl : b = b' := by rw [p1] at s1; exact Option.some.inj s1
    obtain rfl : r = r2 := by rw [hr] at g3; exact Option.some.inj g3
    obtain rfl : r' = r3 := by rw [hr'] at p3; exact Option.some.inj p3
    have hre := at_sym hm hf hb hl hlast h0 hi qa sa
    have htri : triC (2 ^ m) i = triC (2 ^ m) (2 ^ m - i) := by
      unfold triC
      rw [show 2 ^ m - (2 ^ m - i) = i by omega, Nat.min_comm]
    have hhalf : halfC a = halfC b := by unfold halfC; rw [hre]
    have : wgtC kind (2 ^ m) i a = wgtC kind (2 ^ m) (2 ^ m - i) b := by unfold wgtC; rw [htri, hhalf]
    rw [g2, p2] at this
    exact Option.some.inj this
end Go.Wav
end
section
/- The filter in plain numbers: the flat one gives whole numbers back, noughts stay noughts. Nothing of the program. -/
set_option linter.unusedVariables false
set_option maxRecDepth 100000
namespace Go.Cyc
open Go.Flt Go.Qc Go.Wav Go.Pen

/-- A number times a weight. -/
def wtC (w : Nat) (a : Cx) : Option Cx := (Ieee.double.mul a.1 w).bind fun p => (Ieee.double.mul a.2 w).bind fun q => some (p, q)
def wtTo (ws : List Nat) (y : List Cx) : Nat → Option (List Cx)
  | 0 => some []
  | k + 1 => (wtTo ws y k).bind fun l => (ws[k]?).bind fun w => (y[k]?).bind fun a => (wtC w a).bind fun b => some (l ++ [b])
def padC (x : List Cx) (N : Nat) : List Cx := x ++ List.replicate (N - x.length) (0, 0)
theorem padC_len {x : List Cx} {N : Nat} (h : x.length ≤ N) : (padC x N).length = N := by unfold padC; simp; omega
theorem wtTo_get {ws : List Nat} {y : List Cx} : ∀ {k : Nat} {l : List Cx}, wtTo ws y k = some l → l.length = k ∧ ∀ i, i < k → ∃ w a b, ws[i]? = some w ∧ y[i]? = some a ∧ wtC w a = some b ∧ l[i]? = some b
  | 0, l, e => by
    obtain rfl : [] = l := by simpa [wtTo] using e
    exact ⟨rfl, fun i hi => absurd hi (by omega)⟩
  | k + 1, l, e => by
    unfold wtTo at e
    simp only [Option.bind_eq_some_iff, Option.some.injEq] at e
    obtain ⟨l', h1, w, hw, a, ha, b, hb, rfl⟩ := e
    obtain ⟨g1, g2⟩ := wtTo_get h1
    refine ⟨by simp [g1], fun i hi => ?_⟩
    by_cases hik : i < k
    · rw [List.getElem?_append_left (by omega)]; exact g2 i hik
    · obtain rfl : i = k := by omega
      exact ⟨w, a, b, hw, ha, hb, by rw [List.getElem?_append_right (by omega), g1, Nat.sub_self]; rfl⟩
/-- All numbers weighted: what holds of each. -/
theorem wtTo_all {ws : List Nat} {y : List Cx} {N : Nat} {Pr : Nat → Cx → Prop} (h : ∀ i, i < N → ∃ w a b, ws[i]? = some w ∧ y[i]? = some a ∧ wtC w a = some b ∧ Pr i b) :
    ∃ l, wtTo ws y N = some l ∧ l.length = N ∧ ∀ i, i < N → ∃ b, l[i]? = some b ∧ Pr i b := by
  have go : ∀ k, k ≤ N → ∃ l, wtTo ws y k = some l ∧ l.length = k ∧ ∀ i, i < k → ∃ b, l[i]? = some b ∧ Pr i b := by
    intro k
    induction k with
    | zero => intro _; exact ⟨[], rfl, rfl, fun i hi => absurd hi (by omega)⟩
    | succ k ih =>
      intro hk
      obtain ⟨l, e, hl, hp⟩ := ih (by omega)
      obtain ⟨w, a, b, hw, ha, hb, hpr⟩ := h k (by omega)
      refine ⟨l ++ [b], by unfold wtTo; rw [e, Option.bind_some, hw, Option.bind_some, ha, Option.bind_some, hb, Option.bind_some], by simp [hl], fun i hi => ?_⟩
      by_cases hik : i < k
      · rw [List.getElem?_append_left (by omega)]; exact hp i hik
      · obtain rfl : i = k := by omega
        exact ⟨b, by rw [List.getElem?_append_right (by omega), hl, Nat.sub_self]; rfl, hpr⟩
  exact go N (Nat.le_refl _)
/-- The filter but for the scaling. -/
def applyC (m kind : Nat) (x : List Cx) : Option (List Cx) := (wgtsC kind m).bind fun ws => (forwardC m (padC x (2 ^ m))).bind fun y => (wtTo ws y (2 ^ m)).bind fun v => backT m v

/-! noughts -/
def Zs (m : Nat) (y : List Cx) : Prop := ∀ (i : Nat) (a : Cx), i < 2 ^ m → y[i]? = some a → cls a (0, 0)
theorem Lt0 : Lt (0, 0) := ⟨by decide, by decide⟩
theorem mul_z {x y : Nat} (hx : finB x = true) (hy : isZ y) : (∃ r, Ieee.double.mul x y = some r ∧ isZ r) ∧ (∃ r, Ieee.double.mul y x = some r ∧ isZ r) := by
  obtain ⟨f, v, _⟩ := isZ_fin hy
  obtain ⟨r, e, i⟩ := mul_exact (z := 0) (by decide) hx f (by rw [v, Int.mul_zero, Int.zero_mul, Int.zero_mul])
  obtain ⟨r', e', i'⟩ := mul_exact (z := 0) (by decide) f hx (by rw [v, Int.zero_mul, Int.zero_mul, Int.zero_mul])
  exact ⟨⟨r, e, (isI_zero rfl).1 i⟩, ⟨r', e', (isI_zero rfl).1 i'⟩⟩
theorem add_z {x y : Nat} (hx : isZ x) (hy : isZ y) : (∃ r, Ieee.double.add x y = some r ∧ isZ r) ∧ (∃ r, Ieee.double.sub x y = some r ∧ isZ r) := by
  obtain ⟨f, v, w⟩ := isZ_fin hx
  obtain ⟨f', v', w'⟩ := isZ_fin hy
  obtain ⟨r, e, i⟩ := add_exact (z := 0) (by decide) f f' (by rw [v, v', Int.zero_mul]; rfl)
  obtain ⟨r', e', i'⟩ := sub_exact (z := 0) (by decide) f f' w' (by rw [v, v', Int.zero_mul]; rfl)
  exact ⟨⟨r, e, (isI_zero rfl).1 i⟩, ⟨r', e', (isI_zero rfl).1 i'⟩⟩
theorem cls_z {a : Cx} (h : cls a (0, 0)) : isZ a.1 ∧ isZ a.2 := ⟨(isI_zero rfl).1 h.1, (isI_zero rfl).1 h.2⟩
theorem z_cls {a : Cx} (h1 : isZ a.1) (h2 : isZ a.2) : cls a (0, 0) := ⟨(isI_zero rfl).2 h1, (isI_zero rfl).2 h2⟩
theorem mulC_z {a o : Cx} (ha : Ok a) (ho : cls o (0, 0)) : ∃ t, mulC a o = some t ∧ cls t (0, 0) := by
  obtain ⟨o1, o2⟩ := cls_z ho
  obtain ⟨pu, e1, z1⟩ := (mul_z ha.f1 o1).1
  obtain ⟨qv, e2, z2⟩ := (mul_z ha.f2 o2).1
  obtain ⟨pv, e3, z3⟩ := (mul_z ha.f1 o2).1
  obtain ⟨qu, e4, z4⟩ := (mul_z ha.f2 o1).1
  obtain ⟨re, e5, z5⟩ := (add_z z1 z2).2
  obtain ⟨im, e6, z6⟩ := (add_z z3 z4).1
  refine ⟨(re, im), ?_, z_cls z5 z6⟩
  unfold mulC
  simp only [e1, e2, e3, e4, e5, e6, Option.bind_some]
theorem bt_z {a e o p d : Cx} (ha : Ok a) (he : cls e (0, 0)) (ho : cls o (0, 0)) (hb : bt a e o = some (p, d)) : cls p (0, 0) ∧ cls d (0, 0) := by
  obtain ⟨t, h1, h2⟩ := mulC_z ha ho
  obtain ⟨e1, e2⟩ := cls_z he
  obtain ⟨t1, t2⟩ := cls_z h2
  obtain ⟨⟨a1, g1, z1⟩, ⟨s1, k1, y1⟩⟩ := add_z e1 t1
  obtain ⟨⟨a2, g2, z2⟩, ⟨s2, k2, y2⟩⟩ := add_z e2 t2
  have ea : addC e t = some (a1, a2) := by unfold addC cSumBits floatBits; simp only [FloatKind.format, g1, g2, Option.bind_some]
  have es : subC e t = some (s1, s2) := by unfold subC cSumBits floatBits; simp only [FloatKind.format, k1, k2, Option.bind_some]
  unfold bt at hb
  rw [h1, Option.bind_some, ea, Option.bind_some, es, Option.bind_some] at hb
  have := Option.some.inj hb
  rw [Prod.mk.injEq] at this
  rw [← this.1, ← this.2]
  exact ⟨z_cls z1 z2, z_cls y1 y2⟩
theorem zs_next {h : Nat → Q2} {m s : Nat} (hm : m ≤ 12) (hs : s < m) {w y r : List Cx} (tw : Tab h m w) (hy : Zs m y) (hd : Desc w y m s r) : Zs m r := by
  intro i v hlt hi
  obtain ⟨c, rfl⟩ : ∃ c, m = c + 1 + s := ⟨m - s - 1, by omega⟩
  have hc0 : c + 1 + s - (s + 1) = c := by omega
  have hq : 2 ^ (c + 1 + s) = 2 ^ c * 2 ^ (s + 1) := by rw [← Nat.pow_add]; congr 1; omega
  have hS : 2 ^ (s + 1) = 2 * 2 ^ s := by rw [Nat.pow_succ, Nat.mul_comm]
  have hF : i / 2 ^ (s + 1) < 2 ^ c := Nat.div_lt_of_lt_mul (by rw [Nat.mul_comm, ← hq]; exact hlt)
  have hdm := Nat.div_add_mod i (2 ^ (s + 1))
  have hmod := Nat.mod_lt i (Nat.two_pow_pos (s + 1))
  rw [Nat.mul_comm] at hdm
  have hk : i % 2 ^ (s + 1) % 2 ^ s < 2 ^ s := Nat.mod_lt _ (Nat.two_pow_pos s)
  have e1 : ¬ i % 2 ^ (s + 1) < 2 ^ s → i % 2 ^ (s + 1) % 2 ^ s = i % 2 ^ (s + 1) - 2 ^ s := fun hl => by
    rw [Nat.mod_eq_sub_mod (by omega), Nat.mod_eq_of_lt (by omega)]
  have e0 : i % 2 ^ (s + 1) < 2 ^ s → i % 2 ^ (s + 1) % 2 ^ s = i % 2 ^ (s + 1) := fun hl => Nat.mod_eq_of_lt hl
  generalize i / 2 ^ (s + 1) = F at *
  generalize i % 2 ^ (s + 1) % 2 ^ s = k at *
  generalize i % 2 ^ (s + 1) = R at *
  obtain ⟨a, e, o, p, d, h1, h2, h3, h4, h5, h6⟩ := hd F k (by rw [hc0]; exact hF) hk
  have hp := Nat.two_pow_pos c
  have hk1 : k * 2 ^ c < 2 ^ (c + 1 + s) := by
    rw [show c + 1 + s = s + c + 1 by omega, Nat.pow_succ, Nat.pow_add]
    have := Nat.mul_lt_mul_of_pos_right hk hp
    omega
  rw [hc0] at h1
  obtain ⟨a', g1, g2, _⟩ := tw.at_ _ hk1
  rw [h1] at g1
  obtain rfl := Option.some.inj g1
  have hFS : F * 2 ^ (s + 1) + 2 ^ (s + 1) ≤ 2 ^ (c + 1 + s) := by
    rw [hq]
    have := Nat.mul_le_mul_right (2 ^ (s + 1)) (show F + 1 ≤ 2 ^ c by omega)
    rwa [Nat.add_mul, Nat.one_mul] at this
  obtain ⟨z1, z2⟩ := bt_z g2 (hy _ _ (by omega) h2) (hy _ _ (by omega) h3) h4
  by_cases hl : R < 2 ^ s
  · rw [e0 hl, hdm, hi] at h5
    obtain rfl := Option.some.inj h5
    exact z1
  · rw [e1 hl, show F * 2 ^ (s + 1) + (R - 2 ^ s) + 2 ^ s = F * 2 ^ (s + 1) + R by omega, hdm, hi] at h6
    obtain rfl := Option.some.inj h6
    exact z2
/-- The transform of noughts. -/
theorem zero_wave {h : Nat → Q2} (ch : Ch h) {m : Nat} (hm : m ≤ 12) {w x : List Cx} (tw : Tab h m w) (hx : x.length = 2 ^ m) (hz : Zs m x) :
    ∃ r, waveC m w x = some r ∧ r.length = 2 ^ m ∧ Zs m r ∧ ∀ (i : Nat) (a : Cx), r[i]? = some a → Ok a := by
  have hlt : ∀ (j : Nat) (a : Cx), x[j]? = some a → j < 2 ^ m := fun j a h => by rw [← hx]; exact (List.getElem?_eq_some_iff.1 h).1
  obtain ⟨r, h1, h2, h3, h4⟩ := wave_ext ch (P := 0) (by decide) hm tw hx (X := fun _ => q0) (fun j a ha => by
    obtain ⟨o, c⟩ := cls_ok (hz j a (hlt j a ha) ha) (by decide) (by decide)
    exact ⟨o, by rw [c]; rfl⟩) (fun j => bq.zero.mono (Rat.le_of_lt (pow_pos2 0))) (fun _ y => Zs m y) (by
      intro i a hi ha
      rw [trn_get hi] at ha
      obtain rfl := Option.some.inj ha
      rw [List.getD_eq_getElem?_getD]
      cases hb : x[brev m i]? with
      | none => exact ⟨.inl rfl, .inl rfl⟩
      | some b => exact hz _ b (brev_lt _ _) hb) (fun s hs y r hy hd => zs_next hm hs tw hy hd)
  refine ⟨r, h1, h2, h3, fun i a ha => ?_⟩
  obtain ⟨b, g1, g2, _⟩ := h4 i (by rw [← h2]; exact (List.getElem?_eq_some_iff.1 ha).1)
  rw [ha] at g1
  obtain rfl := Option.some.inj g1
  exact g2
theorem ldx_z {m p : Nat} (h : isZ p) : ldx m p = p := by
  unfold ldx
  rw [if_pos]
  rcases h with rfl | rfl <;> decide
/-- Noughts, filtered. -/
theorem apply_zero {m kind : Nat} (hm : m ≤ 12) {n : Nat} (hn : n ≤ 2 ^ m) : ∃ z, applyC m kind (List.replicate n (0, 0)) = some z ∧ z.length = 2 ^ m ∧ (∀ (i : Nat) (a : Cx), z[i]? = some a → Ok a) ∧ ∀ (i : Nat) (a : Cx), (sclL m z)[i]? = some a → cls a (0, 0) := by
  obtain ⟨ws, hw, hwl, hwb, _⟩ := wgts_all (kind := kind) hm
  obtain ⟨l, hl⟩ := tab_ex hm
  have hpad : padC (List.replicate n (0, 0)) (2 ^ m) = List.replicate (2 ^ m) (0, 0) := by
    unfold padC
    rw [List.length_replicate, List.replicate_append_replicate]
    congr 1; omega
  have hz0 : Zs m (List.replicate (2 ^ m) (0, 0)) := fun i a hi ha => by
    rw [List.getElem?_replicate, if_pos hi] at ha
    obtain rfl := Option.some.inj ha; exact ⟨.inl rfl, .inl rfl⟩
  obtain ⟨y, y1, y2, y3, y4⟩ := zero_wave h_ch.bar hm (tab_there hm hl) (by simp) hz0
  obtain ⟨v, v1, v2, v3⟩ := wtTo_all (ws := ws) (y := y) (N := 2 ^ m) (Pr := fun _ b => cls b (0, 0)) (fun i hi => by
    have hwi : ws[i]? = some (ws[i]'(by omega)) := List.getElem?_eq_getElem _
    have hyi : y[i]? = some (y[i]'(by omega)) := List.getElem?_eq_getElem _
    have hb := hwb i _ hwi
    have hfin : finB (ws[i]'(by omega)) = true := by
      have : one < 9218868437227405312 := by decide
      exact decide_eq_true (by rw [Nat.mod_eq_of_lt (by omega)]; omega)
    obtain ⟨c1, c2⟩ := cls_z (y3 i _ hi hyi)
    obtain ⟨r1, e1, z1⟩ := (mul_z hfin c1).2
    obtain ⟨r2, e2, z2⟩ := (mul_z hfin c2).2
    exact ⟨_, _, (r1, r2), hwi, hyi, by unfold wtC; rw [e1, Option.bind_some, e2]; rfl, z_cls z1 z2⟩)
  obtain ⟨z, z1, z2, z3, z4⟩ := zero_wave h_ch hm (tab_back hm hl) (x := v) v2 (fun i a hi ha => by
    obtain ⟨b, g1, g2⟩ := v3 i hi
    rw [ha] at g1
    obtain rfl := Option.some.inj g1
    exact g2)
  refine ⟨z, ?_, z2, z4, fun i a ha => ?_⟩
  · unfold applyC forwardC backT
    rw [hw, Option.bind_some, hpad, hl, Option.bind_some, y1, Option.bind_some, v1, Option.bind_some, Option.bind_some, z1]
  · unfold sclL at ha
    rw [List.getElem?_map, Option.map_eq_some_iff] at ha
    obtain ⟨c, hc, rfl⟩ := ha
    obtain ⟨c1, c2⟩ := cls_z (z3 i c (by rw [← z2]; exact (List.getElem?_eq_some_iff.1 hc).1) hc)
    refine z_cls ?_ ?_
    · show isZ (ldx m c.1)
      rw [ldx_z c1]; exact c1
    · show isZ (ldx m c.2)
      rw [ldx_z c2]; exact c2

/-! the flat filter -/
theorem wgtTo_flat {N : Nat} {l : List Cx} : ∀ {k : Nat} {ws : List Nat}, wgtTo 1 N l k = some ws → ∀ (i w : Nat), ws[i]? = some w → w = one
  | 0, ws, e, i, w, hi => by
    obtain rfl : [] = ws := by simpa [wgtTo] using e
    simp at hi
  | k + 1, ws, e, i, w, hi => by
    unfold wgtTo at e
    simp only [Option.bind_eq_some_iff, Option.some.injEq] at e
    obtain ⟨o, h1, a, h2, r, h3, rfl⟩ := e
    unfold wgtC at h3
    rw [if_pos rfl] at h3
    obtain rfl := Option.some.inj h3
    rw [List.getElem?_append] at hi
    split at hi
    · exact wgtTo_flat h1 i w hi
    · rw [List.getElem?_cons] at hi
      split at hi
      · exact (Option.some.inj hi).symm
      · simp at hi
theorem there_backE {X Y : Nat → Q2} {m P : Nat} {E F : Rat} {z : List Cx} (hm : m ≤ 12) (hX : ∀ j, j < 2 ^ m → bq (X j) (2 ^ P)) (hY : ∀ k, k < 2 ^ m → bq (Y k - Fw X m k) E) (hz : Near z m (Bk Y m) F) :
    ∀ i, i < 2 ^ m → ∃ a, z[i]? = some a ∧ Ok a ∧ bq (cv a - sc (2 ^ m) (X i)) (F + 3 / 2 * (2 ^ m * E) + 2 ^ m * (2 ^ m * (30 * eta) * 2 ^ P)) := by
  intro i hi
  obtain ⟨a, h1, h2, h3⟩ := hz.at_ i hi
  refine ⟨a, h1, h2, ?_⟩
  have b1 : bq (Bk Y m i - Bk (Fw X m) m i) (3 / 2 * (2 ^ m * E)) := by
    rw [Bk_sub]; exact Bk_bd hY
  exact (h3.tri b1).tri (back_there hm hi hX)
theorem mul_one_err {p k : Nat} (hk : k ≤ 900) (hf : finB p = true) {B : Rat} (hb : bd (rv p) B) (hB : B < 2 ^ k) : ∃ r, Ieee.double.mul p one = some r ∧ finB r = true ∧ r < 18446744073709551616 ∧ bd (rv r - rv p) (ulp k) := by
  have e1 : rv one = 1 := rv_one'
  obtain ⟨r, h1, h2, h3, h4⟩ := mul_err (x := p) (y := one) k hk hf (by decide) (by rw [e1, Rat.mul_one]; exact hb) hB
  rw [e1, Rat.mul_one] at h4
  exact ⟨r, h1, h2, h3, h4⟩
theorem pow21 (m : Nat) : (2 : Rat) ^ (20 + m + 1) = 2097152 * 2 ^ m := by
  rw [← cast_pow, show 20 + m + 1 = 21 + m by omega, Nat.pow_add, Rat.natCast_mul, cast_pow m]
  congr 1
def Fl (m : Nat) : Rat := 2 ^ 20 * G m + 1 / 1048576
theorem Fl_le : ∀ m, m < 13 → 2 ^ (20 + m + 1) * G m + 3 / 2 * (2 ^ m * Fl m) + 2 ^ m * (2 ^ m * (30 * eta) * 2 ^ 20) ≤ 2 ^ m * (1 / 600) ∧ Fl m ≤ 1 / 4 := by decide +kernel
theorem flat_back {m : Nat} (hm : m ≤ 12) {x : List Cx} {U : Nat → Int × Int} (hn : x.length ≤ 2 ^ m) (hx : ∀ (j : Nat) (a : Cx), x[j]? = some a → cls a (U j)) (hU : ∀ j, Sm (U j) 1048576) :
    ∃ z, applyC m 1 x = some z ∧ z.length = 2 ^ m ∧ (∀ (i : Nat) (a : Cx), z[i]? = some a → Ok a) ∧ (∀ (i : Nat) (a : Cx), (sclL m z)[i]? = some a → Ok a) ∧ ∀ (i : Nat) (a : Cx), i < x.length → (sclL m z)[i]? = some a → cls (whC a) (U i) := by
  obtain ⟨ws, hw, hwl, _, _⟩ := wgts_all (kind := 1) hm
  obtain ⟨l, hl⟩ := tab_ex hm
  have hw1 : ∀ (i w : Nat), ws[i]? = some w → w = one := by
    unfold wgtsC at hw
    rw [hl, Option.bind_some] at hw
    exact wgtTo_flat hw
  obtain ⟨U', hU'⟩ : ∃ U' : Nat → Int × Int, U' = fun j => if j < x.length then U j else (0, 0) := ⟨_, rfl⟩
  have hU's : ∀ j, Sm (U' j) 1048576 := fun j => by
    rw [hU']
    dsimp only
    split
    · exact hU j
    · exact ⟨by decide, by decide⟩
  have hp : Wh (padC x (2 ^ m)) m U' := ⟨padC_len hn, fun j a ha => by
    unfold padC at ha
    rw [hU']
    dsimp only
    by_cases hj : j < x.length
    · rw [List.getElem?_append_left hj] at ha
      rw [if_pos hj]; exact hx j a ha
    · rw [List.getElem?_append_right (by omega), List.getElem?_replicate] at ha
      rw [if_neg hj]
      split at ha
      · obtain rfl := Option.some.inj ha; exact ⟨.inl rfl, .inl rfl⟩
      · cases ha⟩
  have hX : ∀ j, bq (uq (U' j)) (2 ^ 20) := fun j => Sm20 (hU's j)
  obtain ⟨y, hy, ny⟩ := forward_err (P := 20) (by decide) hm (hp.is (by decide) hU's) hX
  obtain ⟨g1, g2⟩ := Fl_le m (by omega)
  have p34 : ulp 34 = 1 / 1048576 := by unfold ulp; decide +kernel
  have hm13 : 2 ^ (20 + m + 1) ≤ 8589934592 := Nat.le_trans (Nat.pow_le_pow_right (by decide) (show 20 + m + 1 ≤ 33 by omega)) (by decide)
  have hm13' : (2 : Rat) ^ (20 + m + 1) ≤ 8589934592 := by
    have := Rat.natCast_le_natCast.2 hm13
    rw [cast_pow] at this
    exact this
  obtain ⟨v, v1, v2, v3⟩ := wtTo_all (ws := ws) (y := y) (N := 2 ^ m) (Pr := fun i b => Ok b ∧ bq (cv b - Fw (fun j => uq (U' j)) m i) (Fl m)) (fun i hi => by
    have hwi : ws[i]? = some (ws[i]'(by omega)) := List.getElem?_eq_getElem _
    obtain ⟨a, h1, h2, h3⟩ := ny.at_ i hi
    have hsz : bq (cv a) (2 ^ (20 + m + 1)) := Fw_size (Y := fun _ => cv a) (k := i) hm (fun j _ => hX j) h3
    have e34 : (8589934592 : Rat) < 2 ^ 34 := by decide +kernel
    have hlt : (2 : Rat) ^ (20 + m + 1) < 2 ^ 34 := by grind
    obtain ⟨r1, e1, f1, w1, b1⟩ := mul_one_err (k := 34) (by decide) h2.f1 hsz.r hlt
    obtain ⟨r2, e2, f2, w2, b2⟩ := mul_one_err (k := 34) (by decide) h2.f2 hsz.i hlt
    have hone := hw1 i _ hwi
    refine ⟨_, a, (r1, r2), hwi, h1, by rw [hone]; unfold wtC; rw [e1, Option.bind_some, e2]; rfl, Ok.of f1 f2 w1 w2, ?_⟩
    have hd : bq (cv (r1, r2) - cv a) (1 / 1048576) := by rw [← p34]; exact ⟨b1, b2⟩
    exact (hd.tri h3).mono (by unfold Fl; grind))
  have nv : Near v m (Fw (fun j => uq (U' j)) m) (Fl m) := ⟨v2, fun k hk => by
    obtain ⟨b, k1, k2, k3⟩ := v3 k hk
    exact ⟨b, k1, k2, k3⟩⟩
  have hY : ∀ k, k < 2 ^ m → bq (cv (v.getD k (0, 0)) - Fw (fun j => uq (U' j)) m k) (Fl m) := by
    intro k hk
    obtain ⟨a, h1, h2, h3⟩ := nv.at_ k hk
    rw [List.getD_eq_getElem?_getD, h1]; exact h3
  have hYb : ∀ j, bq (cv (v.getD j (0, 0))) (2 ^ (20 + m + 1)) := by
    intro j
    by_cases hj : j < 2 ^ m
    · have h1 := (hY j hj).of (Fw_bd (k := j) (fun i _ => hX i))
      refine h1.mono ?_
      rw [pow21]
      have hq : 1 ≤ (2 : Rat) ^ m := by
        rw [← cast_pow]
        have : ((1 : Nat) : Rat) ≤ ((2 ^ m : Nat) : Rat) := Rat.natCast_le_natCast.2 (Nat.two_pow_pos m)
        exact this
      have e20 : (2 : Rat) ^ 20 = 1048576 := by decide +kernel
      rw [e20]
      generalize (2 : Rat) ^ m = q at *
      grind
    · rw [List.getD_eq_getElem?_getD, List.getElem?_eq_none (by rw [nv.len]; omega)]
      show bq (cv (0, 0)) _
      rw [zero_cv]
      exact bq.zero.mono (Rat.le_of_lt (pow_pos2 _))
  obtain ⟨z, hz, nz⟩ := back_err (P := 20 + m + 1) (by omega) hm nv.is hYb
  have tb := there_backE (P := 20) hm (fun j _ => hX j) hY nz
  have hs : ∀ (i : Nat) (a : Cx), (sclL m z)[i]? = some a → Ok a ∧ bq (cv a - uq (U' i)) (1 / 4) := fun i a ha => by
    unfold sclL at ha
    rw [List.getElem?_map, Option.map_eq_some_iff] at ha
    obtain ⟨c, hc, rfl⟩ := ha
    obtain ⟨b, h1, h2, h3⟩ := tb i (by rw [← nz.len]; exact (List.getElem?_eq_some_iff.1 hc).1)
    rw [hc] at h1
    obtain rfl := Option.some.inj h1
    obtain ⟨s1, s2⟩ := scl_err (k := 21) hm (by decide) h2 (h3.mono g1) (hX i) (by
      have : (2 : Rat) ^ 21 = 2 ^ 20 + 2 ^ 20 := by decide +kernel
      rw [this]
      have : (1 : Rat) < 2 ^ 20 := by decide +kernel
      grind)
    exact ⟨s1, s2.mono (by decide +kernel)⟩
  refine ⟨z, ?_, nz.len, fun i a h => (nz.is.at_ i a h).1, fun i a h => (hs i a h).1, fun i a hi ha => ?_⟩
  · unfold applyC
    rw [hw, Option.bind_some, hy, Option.bind_some, v1, Option.bind_some, hz]
  · obtain ⟨o, b⟩ := hs i a ha
    have e : U' i = U i := by rw [hU']; dsimp only; rw [if_pos hi]
    rw [e] at b
    exact whC_near (B := 1048576) (by decide) (hU i) o b
end Go.Cyc
end
section
/- Weights: lengths, walked. %compact -/
set_option linter.unusedVariables false
set_option maxRecDepth 100000
namespace Go.Wav
def lenTab : ByteArray := ⟨[0, 1, 2, 2, 3, 3, 3, 3, 4, 4, 4, 4, 4, 4, 4, 4, 5, 5, 5, 5, 5, 5, 5, 5, 5, 5, 5, 5, 5, 5, 5, 5, 6, 6, 6, 6, 6, 6, 6, 6, 6, 6, 6, 6, 6, 6, 6, 6, 6, 6, 6, 6, 6, 6, 6, 6, 6, 6, 6, 6, 6, 6, 6, 6, 7, 7, 7, 7, 7, 7, 7, 7, 7, 7, 7, 7, 7, 7, 7, 7, 7, 7, 7, 7, 7, 7, 7, 7, 7, 7, 7, 7, 7, 7, 7, 7, 7, 7, 7, 7, 7, 7, 7, 7, 7, 7, 7, 7, 7, 7, 7, 7, 7, 7, 7, 7, 7, 7, 7, 7, 7, 7, 7, 7, 7, 7, 7, 7, 8, 8, 8, 8, 8, 8, 8, 8, 8, 8, 8, 8, 8, 8, 8, 8, 8, 8, 8, 8, 8, 8, 8, 8, 8, 8, 8, 8, 8, 8, 8, 8, 8, 8, 8, 8, 8, 8, 8, 8, 8, 8, 8, 8, 8, 8, 8, 8, 8, 8, 8, 8, 8, 8, 8, 8, 8, 8, 8, 8, 8, 8, 8, 8, 8, 8, 8, 8, 8, 8, 8, 8, 8, 8, 8, 8, 8, 8, 8, 8, 8, 8, 8, 8, 8, 8, 8, 8, 8, 8, 8, 8, 8, 8, 8, 8, 8, 8, 8, 8, 8, 8, 8, 8, 8, 8, 8, 8, 8, 8, 8, 8, 8, 8, 8, 8, 8, 8, 8, 8, 8, 8, 8, 8, 8, 8, 8, 8].toArray⟩
def lenN (x : Nat) : Nat := if 256 ≤ x then 8 + ((x / 256).log2 + 1) else x.log2 + 1
theorem tab_all : ((List.range 256).all fun i => i == 0 || (lenTab.data[i]?).map UInt8.toNat == some (i.log2 + 1)) = true := by decide +kernel
theorem tab_at {i : Nat} (h : i < 256) (h0 : i ≠ 0) : (lenTab.data[i]?).map UInt8.toNat = some (i.log2 + 1) := by
  have := List.all_eq_true.1 tab_all i (List.mem_range.2 h)
  simpa [h0] using this
theorem len_all : ((List.range 2049).all fun n => n == 0 || (decide (2 ^ (lenN (2 * n - 1) - 1) < 2 * n) && (decide (2 * n ≤ 2 ^ lenN (2 * n - 1)) && (decide (1 ≤ lenN (2 * n - 1)) && decide (lenN (2 * n - 1) ≤ 12))))) = true := by decide +kernel
theorem len_at {n : Nat} (h : n ≤ 2048) (h0 : n ≠ 0) : 2 ^ (lenN (2 * n - 1) - 1) < 2 * n ∧ 2 * n ≤ 2 ^ lenN (2 * n - 1) ∧ 1 ≤ lenN (2 * n - 1) ∧ lenN (2 * n - 1) ≤ 12 := by
  have := List.all_eq_true.1 len_all n (List.mem_range.2 (by omega))
  simpa [h0] using this
end Go.Wav
namespace Go.Proofs.YtjckoflcjkajiaaDoor
open Go.Pen Go.Flt Go.Wav

set_option maxHeartbeats 2000000 in
theorem len64_fn (x : Nat) (h0 : x ≠ 0) (hx : x < 65536) (w : World) : Does Tryd.prog 60 #[.int .u64 (x : Int)] [] w fun v Γ => v = .int .i64 (lenN x : Int) ∧ Γ = [] := by
  unfold lenN
  by_cases h8 : 256 ≤ x
  · rw [if_pos h8]
    have ht := tab_at (i := x / 256) (by omega) (by omega)
    have hl : (x / 256).log2 + 1 ≤ 8 := (Nat.log2_lt (by omega)).2 (by omega)
    refine Does.enter Tryd.func60 rfl Tryd.ntmps60 rfl (St.start w) ?_
    repeat' (first | refine OP.indexS (s := lenTab) Tryd.underlying9 ht rfl rfl rfl rfl ?_ | refine Fin.tail ?_ | refine Fin.then_normal ?_ | refine Fin.then_exit ?_ | refine Fin.then_ret ?_ | refine Fin.block_normal ?_ | refine Fin.block_ret ?_ | refine Fin.block_hit ?_ | refine Fin.block_miss rfl ?_ | refine Fin.loop_exit ?_ | refine Fin.loop_ret ?_ | refine WP.seq ?_ | (refine WP.regionQ (by kernel_rfl) (by kernel_rfl) ?_) | refine WP.block ?_ | refine WP.region ?_ | refine WP.skip ?_ | refine WP.exit ?_ | refine WP.ret ?_ | refine WP.label ?_ | refine WP.cond_true rfl ?_ | refine WP.cond_false rfl ?_ | (refine WP.cond_dec rfl (fun h => ?_) (fun h => ?_) <;> (try (exfalso; omega))) | (refine WP.cond_bool rfl (fun h => ?_) (fun h => ?_)) | refine WL.nil ?_ | refine WL.cons ?_ | (show OP _ _ _ _ _ _ _ ⟨_, .move _, _, _, _, none⟩ _ _; first | refine OP.mI rfl rfl ?_ | refine OP.mB rfl rfl ?_ | refine OP.mC rfl rfl ?_ | refine OP.mF rfl rfl ?_ | refine OP.mS rfl rfl ?_ | refine OP.mP rfl rfl ?_ | refine OP.mA rfl rfl ?_ | refine OP.mT rfl rfl ?_ | refine OP.mM rfl rfl ?_ | refine OP.mU rfl rfl ?_ | refine OP.move rfl rfl ?_) | (show OP _ _ _ _ _ _ _ ⟨_, .assign _, _, _, _, none⟩ _ _; first | refine OP.aI rfl rfl ?_ | refine OP.aB rfl rfl ?_ | refine OP.aC rfl rfl ?_ | refine OP.aF rfl rfl ?_ | refine OP.aS rfl rfl ?_ | refine OP.aP rfl rfl ?_ | refine OP.aA rfl rfl ?_ | refine OP.aT rfl rfl ?_ | refine OP.aM rfl rfl ?_ | refine OP.aU rfl rfl ?_ | refine OP.assign rfl rfl ?_) | (show OP _ _ _ _ _ _ _ ⟨_, .binOp _ _ _ _ _, _, _, _, none⟩ _ _; first | refine OP.shrN (c := 8) rfl rfl rfl rfl (by decide) ?_ | (refine OP.add rfl rfl rfl ?_ ?_ ?_; omega; omega) | refine OP.geq rfl rfl rfl ?_) | (refine OP.conv rfl rfl ?_ ?_ ?_; omega; omega))
    all_goals refine Fin.ret1 (h0 := .inl rfl) rfl rfl ?_
    all_goals refine ⟨congrArg (Value.int .i64) ?_, rfl⟩
    all_goals (try omega)
  · rw [if_neg h8]
    have ht := tab_at (i := x) (by omega) h0
    have hl : x.log2 + 1 ≤ 8 := (Nat.log2_lt h0).2 (by omega)
    refine Does.enter Tryd.func60 rfl Tryd.ntmps60 rfl (St.start w) ?_
    repeat' (first | refine OP.indexS (s := lenTab) Tryd.underlying9 ht rfl rfl rfl rfl ?_ | refine Fin.tail ?_ | refine Fin.then_normal ?_ | refine Fin.then_exit ?_ | refine Fin.then_ret ?_ | refine Fin.block_normal ?_ | refine Fin.block_ret ?_ | refine Fin.block_hit ?_ | refine Fin.block_miss rfl ?_ | refine Fin.loop_exit ?_ | refine Fin.loop_ret ?_ | refine WP.seq ?_ | (refine WP.regionQ (by kernel_rfl) (by kernel_rfl) ?_) | refine WP.block ?_ | refine WP.region ?_ | refine WP.skip ?_ | refine WP.exit ?_ | refine WP.ret ?_ | refine WP.label ?_ | refine WP.cond_true rfl ?_ | refine WP.cond_false rfl ?_ | (refine WP.cond_dec rfl (fun h => ?_) (fun h => ?_) <;> (try (exfalso; omega))) | (refine WP.cond_bool rfl (fun h => ?_) (fun h => ?_)) | refine WL.nil ?_ | refine WL.cons ?_ | (show OP _ _ _ _ _ _ _ ⟨_, .move _, _, _, _, none⟩ _ _; first | refine OP.mI rfl rfl ?_ | refine OP.mB rfl rfl ?_ | refine OP.mC rfl rfl ?_ | refine OP.mF rfl rfl ?_ | refine OP.mS rfl rfl ?_ | refine OP.mP rfl rfl ?_ | refine OP.mA rfl rfl ?_ | refine OP.mT rfl rfl ?_ | refine OP.mM rfl rfl ?_ | refine OP.mU rfl rfl ?_ | refine OP.move rfl rfl ?_) | (show OP _ _ _ _ _ _ _ ⟨_, .assign _, _, _, _, none⟩ _ _; first | refine OP.aI rfl rfl ?_ | refine OP.aB rfl rfl ?_ | refine OP.aC rfl rfl ?_ | refine OP.aF rfl rfl ?_ | refine OP.aS rfl rfl ?_ | refine OP.aP rfl rfl ?_ | refine OP.aA rfl rfl ?_ | refine OP.aT rfl rfl ?_ | refine OP.aM rfl rfl ?_ | refine OP.aU rfl rfl ?_ | refine OP.assign rfl rfl ?_) | (show OP _ _ _ _ _ _ _ ⟨_, .binOp _ _ _ _ _, _, _, _, none⟩ _ _; first | (refine OP.add rfl rfl rfl ?_ ?_ ?_; omega; omega) | refine OP.geq rfl rfl rfl ?_) | (refine OP.conv rfl rfl ?_ ?_ ?_; omega; omega))
    all_goals refine Fin.ret1 (h0 := .inl rfl) rfl rfl ?_
    all_goals refine ⟨congrArg (Value.int .i64) ?_, rfl⟩
    all_goals (try omega)
set_option maxHeartbeats 1000000 in
theorem lenU_fn (x : Nat) (h0 : x ≠ 0) (hx : x < 65536) (w : World) : Does Tryd.prog 38 #[.int .u64 (x : Int)] [] w fun v Γ => v = .int .i64 (lenN x : Int) ∧ Γ = [] := by
  refine Does.enter Tryd.func38 rfl Tryd.ntmps38 rfl (St.start w) ?_
  repeat' (first | refine Fin.tail ?_ | refine Fin.then_normal ?_ | refine Fin.then_exit ?_ | refine Fin.then_ret ?_ | refine Fin.block_normal ?_ | refine Fin.block_ret ?_ | refine Fin.block_hit ?_ | refine Fin.block_miss rfl ?_ | refine Fin.loop_exit ?_ | refine Fin.loop_ret ?_ | refine WP.seq ?_ | (refine WP.regionQ (by kernel_rfl) (by kernel_rfl) ?_) | refine WP.block ?_ | refine WP.region ?_ | refine WP.skip ?_ | refine WP.exit ?_ | refine WP.ret ?_ | refine WP.label ?_ | refine WP.cond_true rfl ?_ | refine WP.cond_false rfl ?_ | (refine WP.cond_dec rfl (fun h => ?_) (fun h => ?_) <;> (try (exfalso; omega))) | (refine WP.cond_bool rfl (fun h => ?_) (fun h => ?_)) | refine WL.nil ?_ | refine WL.cons ?_ | (show OP _ _ _ _ _ _ _ ⟨_, .move _, _, _, _, none⟩ _ _; first | refine OP.mI rfl rfl ?_ | refine OP.mB rfl rfl ?_ | refine OP.mC rfl rfl ?_ | refine OP.mF rfl rfl ?_ | refine OP.mS rfl rfl ?_ | refine OP.mP rfl rfl ?_ | refine OP.mA rfl rfl ?_ | refine OP.mT rfl rfl ?_ | refine OP.mM rfl rfl ?_ | refine OP.mU rfl rfl ?_ | refine OP.move rfl rfl ?_) | (show OP _ _ _ _ _ _ _ ⟨_, .assign _, _, _, _, none⟩ _ _; first | refine OP.aI rfl rfl ?_ | refine OP.aB rfl rfl ?_ | refine OP.aC rfl rfl ?_ | refine OP.aF rfl rfl ?_ | refine OP.aS rfl rfl ?_ | refine OP.aP rfl rfl ?_ | refine OP.aA rfl rfl ?_ | refine OP.aT rfl rfl ?_ | refine OP.aM rfl rfl ?_ | refine OP.aU rfl rfl ?_ | refine OP.assign rfl rfl ?_) | refine OP.callq _ rfl (fun w _ => len64_fn x h0 hx w) (fun _ _ h => h.1) ?_ | (refine OP.conv rfl rfl ?_ ?_ ?_; omega; omega))
  all_goals refine Fin.ret1 (h0 := .inl rfl) rfl rfl ?_
  exact ⟨rfl, rfl⟩
/-- What both lengths give. -/
def lenV (n : Int) : Value := if 1 ≤ n ∧ n ≤ 2048 then .tuple #[.int .i64 ((2 ^ lenN (2 * n.toNat - 1) : Nat) : Int), .int .i64 0] else .tuple #[.int .i64 0, .int .i64 30]
set_option maxHeartbeats 1000000 in
theorem FLength_fn (n : Int) (w : World) : Does Tryd.prog 20 #[.int .i64 n] [] w fun v Γ => v = lenV n ∧ Γ = [] := by
  unfold lenV
  by_cases hn : 1 ≤ n ∧ n ≤ 2048
  · rw [if_pos hn]
    obtain ⟨k, rfl⟩ := Int.eq_ofNat_of_zero_le (show 0 ≤ n by omega)
    obtain ⟨g1, g2, g3, g4⟩ := len_at (n := k) (by omega) (by omega)
    have hl := fun w => lenU_fn (2 * k - 1) (by omega) (by omega) w
    rw [show ((2 * k - 1 : Nat) : Int) = 2 * (k : Int) - 1 by omega] at hl
    rw [Int.toNat_natCast]
    generalize lenN (2 * k - 1) = L at *
    have hw : IntKind.i64.wrap (1 * 2 ^ L) = ((2 ^ L : Nat) : Int) := by
      have := Nat.pow_le_pow_right (n := 2) (by decide) g4
      rw [Int.one_mul, show (2 : Int) ^ L = ((2 ^ L : Nat) : Int) by rw [Int.natCast_pow]; rfl]
      exact Fits.mem _ (by omega) (by omega)
    refine Does.enter Tryd.func20 rfl Tryd.ntmps20 rfl (St.start w) ?_
    repeat' (first | refine Fin.tail ?_ | refine Fin.then_normal ?_ | refine Fin.then_exit ?_ | refine Fin.then_ret ?_ | refine Fin.block_normal ?_ | refine Fin.block_ret ?_ | refine Fin.block_hit ?_ | refine Fin.block_miss rfl ?_ | refine Fin.loop_exit ?_ | refine Fin.loop_ret ?_ | refine WP.seq ?_ | (refine WP.regionQ (by kernel_rfl) (by kernel_rfl) ?_) | refine WP.block ?_ | refine WP.region ?_ | refine WP.skip ?_ | refine WP.exit ?_ | refine WP.ret ?_ | refine WP.label ?_ | refine WP.cond_true rfl ?_ | refine WP.cond_false rfl ?_ | (refine WP.cond_dec rfl (fun h => ?_) (fun h => ?_) <;> (try (exfalso; omega))) | (refine WP.cond_bool rfl (fun h => ?_) (fun h => ?_)) | refine WL.nil ?_ | refine WL.cons ?_ | (show OP _ _ _ _ _ _ _ ⟨_, _, _, _, _, some _⟩ _ _; first | refine OP.guard_yes rfl rfl ?_ | refine OP.guard_no rfl rfl rfl rfl ?_ | refine OP.guard_un rfl rfl rfl ?_ | refine OP.guard_no0 rfl rfl rfl ?_ | (refine OP.guard_dec rfl rfl (fun h => ?_) (fun h => ?_) <;> (try (exfalso; omega))) | refine OP.guard_bool rfl rfl (fun h => ?_) (fun h => ?_)) | (show OP _ _ _ _ _ _ _ ⟨_, .move _, _, _, _, none⟩ _ _; first | refine OP.mI rfl rfl ?_ | refine OP.mB rfl rfl ?_ | refine OP.mC rfl rfl ?_ | refine OP.mF rfl rfl ?_ | refine OP.mS rfl rfl ?_ | refine OP.mP rfl rfl ?_ | refine OP.mA rfl rfl ?_ | refine OP.mT rfl rfl ?_ | refine OP.mM rfl rfl ?_ | refine OP.mU rfl rfl ?_ | refine OP.move rfl rfl ?_) | (show OP _ _ _ _ _ _ _ ⟨_, .assign _, _, _, _, none⟩ _ _; first | refine OP.aI rfl rfl ?_ | refine OP.aB rfl rfl ?_ | refine OP.aC rfl rfl ?_ | refine OP.aF rfl rfl ?_ | refine OP.aS rfl rfl ?_ | refine OP.aP rfl rfl ?_ | refine OP.aA rfl rfl ?_ | refine OP.aT rfl rfl ?_ | refine OP.aM rfl rfl ?_ | refine OP.aU rfl rfl ?_ | refine OP.assign rfl rfl ?_) | refine OP.callq _ rfl (fun w _ => hl w) (fun _ _ h => h.1) ?_ | (show OP _ _ _ _ _ _ _ ⟨_, .binOp _ _ _ _ _, _, _, _, none⟩ _ _; first | refine OP.shlI (c := L) rfl rfl rfl rfl (by show L ≤ 64; omega) hw ?_ | (refine OP.sub rfl rfl rfl ?_ ?_ ?_; omega; omega) | refine OP.lss rfl rfl rfl ?_ | refine OP.gtr rfl rfl rfl ?_ | (refine OP.mul rfl rfl rfl ?_ ?_ ?_; omega; omega)) | (refine OP.conv rfl rfl ?_ ?_ ?_; omega; omega) | (show OP _ _ _ _ _ _ _ ⟨_, .pick _ _ _, _, _, _, none⟩ _ _; first | refine OP.pick_true rfl rfl ?_ | refine OP.pick_false rfl rfl ?_))
    all_goals refine Fin.ret2 (h0 := .inl rfl) rfl rfl rfl ?_
    exact ⟨rfl, rfl⟩
  · rw [if_neg hn]
    refine Does.enter Tryd.func20 rfl Tryd.ntmps20 rfl (St.start w) ?_
    repeat' (first | refine Fin.tail ?_ | refine Fin.then_normal ?_ | refine Fin.then_exit ?_ | refine Fin.then_ret ?_ | refine Fin.block_normal ?_ | refine Fin.block_ret ?_ | refine Fin.block_hit ?_ | refine Fin.block_miss rfl ?_ | refine Fin.loop_exit ?_ | refine Fin.loop_ret ?_ | refine WP.seq ?_ | (refine WP.regionQ (by kernel_rfl) (by kernel_rfl) ?_) | refine WP.block ?_ | refine WP.region ?_ | refine WP.skip ?_ | refine WP.exit ?_ | refine WP.ret ?_ | refine WP.label ?_ | refine WP.cond_true rfl ?_ | refine WP.cond_false rfl ?_ | (refine WP.cond_dec rfl (fun h => ?_) (fun h => ?_) <;> (try (exfalso; omega))) | (refine WP.cond_bool rfl (fun h => ?_) (fun h => ?_)) | refine WL.nil ?_ | refine WL.cons ?_ | (show OP _ _ _ _ _ _ _ ⟨_, _, _, _, _, some _⟩ _ _; first | refine OP.guard_yes rfl rfl ?_ | refine OP.guard_no rfl rfl rfl rfl ?_ | refine OP.guard_un rfl rfl rfl ?_ | refine OP.guard_no0 rfl rfl rfl ?_ | (refine OP.guard_dec rfl rfl (fun h => ?_) (fun h => ?_) <;> (try (exfalso; omega))) | refine OP.guard_bool rfl rfl (fun h => ?_) (fun h => ?_)) | (show OP _ _ _ _ _ _ _ ⟨_, .move _, _, _, _, none⟩ _ _; first | refine OP.mI rfl rfl ?_ | refine OP.mB rfl rfl ?_ | refine OP.mC rfl rfl ?_ | refine OP.mF rfl rfl ?_ | refine OP.mS rfl rfl ?_ | refine OP.mP rfl rfl ?_ | refine OP.mA rfl rfl ?_ | refine OP.mT rfl rfl ?_ | refine OP.mM rfl rfl ?_ | refine OP.mU rfl rfl ?_ | refine OP.move rfl rfl ?_) | (show OP _ _ _ _ _ _ _ ⟨_, .assign _, _, _, _, none⟩ _ _; first | refine OP.aI rfl rfl ?_ | refine OP.aB rfl rfl ?_ | refine OP.aC rfl rfl ?_ | refine OP.aF rfl rfl ?_ | refine OP.aS rfl rfl ?_ | refine OP.aP rfl rfl ?_ | refine OP.aA rfl rfl ?_ | refine OP.aT rfl rfl ?_ | refine OP.aM rfl rfl ?_ | refine OP.aU rfl rfl ?_ | refine OP.assign rfl rfl ?_) | (show OP _ _ _ _ _ _ _ ⟨_, .binOp _ _ _ _ _, _, _, _, none⟩ _ _; first | (refine OP.sub rfl rfl rfl ?_ ?_ ?_; omega; omega) | refine OP.lss rfl rfl rfl ?_ | refine OP.gtr rfl rfl rfl ?_ | (refine OP.mul rfl rfl rfl ?_ ?_ ?_; omega; omega)) | (refine OP.conv rfl rfl ?_ ?_ ?_; omega; omega) | (show OP _ _ _ _ _ _ _ ⟨_, .pick _ _ _, _, _, _, none⟩ _ _; first | refine OP.pick_true rfl rfl ?_ | refine OP.pick_false rfl rfl ?_))
    all_goals refine Fin.ret2 (h0 := .inl rfl) rfl rfl rfl ?_
    all_goals exact ⟨rfl, rfl⟩
set_option maxHeartbeats 1000000 in
theorem RFLength_fn (n : Int) (w : World) : Does Tryd.prog 21 #[.int .i64 n] [] w fun v Γ => v = lenV n ∧ Γ = [] := by
  unfold lenV
  by_cases hn : 1 ≤ n ∧ n ≤ 2048
  · rw [if_pos hn]
    obtain ⟨k, rfl⟩ := Int.eq_ofNat_of_zero_le (show 0 ≤ n by omega)
    obtain ⟨g1, g2, g3, g4⟩ := len_at (n := k) (by omega) (by omega)
    rw [Int.toNat_natCast]
    generalize lenN (2 * k - 1) = L at *
    refine Does.enter Tryd.func21 rfl Tryd.ntmps21 rfl (St.start w) ?_
    repeat' (first | refine Fin.tail ?_ | refine Fin.then_normal ?_ | refine Fin.then_exit ?_ | refine Fin.then_ret ?_ | refine Fin.block_normal ?_ | refine Fin.block_ret ?_ | refine Fin.block_hit ?_ | refine Fin.block_miss rfl ?_ | refine Fin.loop_exit ?_ | refine Fin.loop_ret ?_ | refine WP.seq ?_ | (refine WP.regionQ (by kernel_rfl) (by kernel_rfl) ?_) | refine WP.block ?_ | refine WP.region ?_ | refine WP.skip ?_ | refine WP.exit ?_ | refine WP.ret ?_ | refine WP.label ?_ | refine WP.cond_true rfl ?_ | refine WP.cond_false rfl ?_ | (refine WP.cond_dec rfl (fun h => ?_) (fun h => ?_) <;> (try (exfalso; omega))) | (refine WP.cond_bool rfl (fun h => ?_) (fun h => ?_)) | refine WL.nil ?_ | refine WL.cons ?_ | (show OP _ _ _ _ _ _ _ ⟨_, _, _, _, _, some _⟩ _ _; first | refine OP.guard_yes rfl rfl ?_ | refine OP.guard_no rfl rfl rfl rfl ?_ | refine OP.guard_un rfl rfl rfl ?_ | refine OP.guard_no0 rfl rfl rfl ?_ | (refine OP.guard_dec rfl rfl (fun h => ?_) (fun h => ?_) <;> (try (exfalso; omega))) | refine OP.guard_bool rfl rfl (fun h => ?_) (fun h => ?_)) | (show OP _ _ _ _ _ _ _ ⟨_, .move _, _, _, _, none⟩ _ _; first | refine OP.mI rfl rfl ?_ | refine OP.mB rfl rfl ?_ | refine OP.mC rfl rfl ?_ | refine OP.mF rfl rfl ?_ | refine OP.mS rfl rfl ?_ | refine OP.mP rfl rfl ?_ | refine OP.mA rfl rfl ?_ | refine OP.mT rfl rfl ?_ | refine OP.mM rfl rfl ?_ | refine OP.mU rfl rfl ?_ | refine OP.move rfl rfl ?_) | (show OP _ _ _ _ _ _ _ ⟨_, .assign _, _, _, _, none⟩ _ _; first | refine OP.aI rfl rfl ?_ | refine OP.aB rfl rfl ?_ | refine OP.aC rfl rfl ?_ | refine OP.aF rfl rfl ?_ | refine OP.aS rfl rfl ?_ | refine OP.aP rfl rfl ?_ | refine OP.aA rfl rfl ?_ | refine OP.aT rfl rfl ?_ | refine OP.aM rfl rfl ?_ | refine OP.aU rfl rfl ?_ | refine OP.assign rfl rfl ?_) | (show OP _ _ _ _ _ _ _ ⟨_, .binOp _ _ _ _ _, _, _, _, none⟩ _ _; first | refine OP.lss rfl rfl rfl ?_ | refine OP.gtr rfl rfl rfl ?_ | (refine OP.mul rfl rfl rfl ?_ ?_ ?_; omega; omega)) | (show OP _ _ _ _ _ _ _ ⟨_, .pick _ _ _, _, _, _, none⟩ _ _; first | refine OP.pick_true rfl rfl ?_ | refine OP.pick_false rfl rfl ?_))
    refine WP.loop [4, 11, 12, 13, 14, 15, 16] (fun j : Nat => [(4, .int .i64 ((2 ^ j : Nat) : Int))]) (fun j => []) (fun j => j ≤ L) (fun j => L - j) 0 (Nat.zero_le _) rfl ⟨rfl, trivial⟩ ?_
    rintro j jj j1
    dsimp only [updL]
    by_cases hj : j < L
    · have h2 : 2 ^ j ≤ 2 ^ (L - 1) := Nat.pow_le_pow_right (by decide) (by omega)
      have h3 : 2 ^ (j + 1) = 2 ^ j * 2 := Nat.pow_succ _ _
      generalize 2 ^ j = X at h2 h3 ⊢
      repeat' (first | refine Fin.tail ?_ | refine Fin.then_normal ?_ | refine Fin.then_exit ?_ | refine Fin.then_ret ?_ | refine Fin.block_normal ?_ | refine Fin.block_ret ?_ | refine Fin.block_hit ?_ | refine Fin.block_miss rfl ?_ | refine Fin.loop_exit ?_ | refine Fin.loop_ret ?_ | refine WP.seq ?_ | (refine WP.regionQ (by kernel_rfl) (by kernel_rfl) ?_) | refine WP.block ?_ | refine WP.region ?_ | refine WP.skip ?_ | refine WP.exit ?_ | refine WP.ret ?_ | refine WP.label ?_ | refine WP.cond_true rfl ?_ | refine WP.cond_false rfl ?_ | (refine WP.cond_dec rfl (fun h => ?_) (fun h => ?_) <;> (try (exfalso; omega))) | (refine WP.cond_bool rfl (fun h => ?_) (fun h => ?_)) | refine WL.nil ?_ | refine WL.cons ?_ | (show OP _ _ _ _ _ _ _ ⟨_, _, _, _, _, some _⟩ _ _; first | refine OP.guard_yes rfl rfl ?_ | refine OP.guard_no rfl rfl rfl rfl ?_ | refine OP.guard_un rfl rfl rfl ?_ | refine OP.guard_no0 rfl rfl rfl ?_ | (refine OP.guard_dec rfl rfl (fun h => ?_) (fun h => ?_) <;> (try (exfalso; omega))) | refine OP.guard_bool rfl rfl (fun h => ?_) (fun h => ?_)) | (show OP _ _ _ _ _ _ _ ⟨_, .move _, _, _, _, none⟩ _ _; first | refine OP.mI rfl rfl ?_ | refine OP.mB rfl rfl ?_ | refine OP.mC rfl rfl ?_ | refine OP.mF rfl rfl ?_ | refine OP.mS rfl rfl ?_ | refine OP.mP rfl rfl ?_ | refine OP.mA rfl rfl ?_ | refine OP.mT rfl rfl ?_ | refine OP.mM rfl rfl ?_ | refine OP.mU rfl rfl ?_ | refine OP.move rfl rfl ?_) | (show OP _ _ _ _ _ _ _ ⟨_, .assign _, _, _, _, none⟩ _ _; first | refine OP.aI rfl rfl ?_ | refine OP.aB rfl rfl ?_ | refine OP.aC rfl rfl ?_ | refine OP.aF rfl rfl ?_ | refine OP.aS rfl rfl ?_ | refine OP.aP rfl rfl ?_ | refine OP.aA rfl rfl ?_ | refine OP.aT rfl rfl ?_ | refine OP.aM rfl rfl ?_ | refine OP.aU rfl rfl ?_ | refine OP.assign rfl rfl ?_) | (show OP _ _ _ _ _ _ _ ⟨_, .binOp _ _ _ _ _, _, _, _, none⟩ _ _; first | refine OP.lss rfl rfl rfl ?_ | refine OP.gtr rfl rfl rfl ?_ | (refine OP.mul rfl rfl rfl ?_ ?_ ?_; omega; omega)) | (show OP _ _ _ _ _ _ _ ⟨_, .pick _ _ _, _, _, _, none⟩ _ _; first | refine OP.pick_true rfl rfl ?_ | refine OP.pick_false rfl rfl ?_))
      refine Fin.loop_normal fun w' hst => ⟨j + 1, by omega, by omega, by (repeat' (first | exact Agree.refl _ _ | refine Agree.upd rfl ?_ | refine Agree.hav rfl ?_)), ⟨?_, trivial⟩, hst⟩
      rw [h3, Int.natCast_mul]; rfl
    · obtain rfl : j = L := by omega
      generalize 2 ^ j = X at *
      repeat' (first | refine Fin.tail ?_ | refine Fin.then_normal ?_ | refine Fin.then_exit ?_ | refine Fin.then_ret ?_ | refine Fin.block_normal ?_ | refine Fin.block_ret ?_ | refine Fin.block_hit ?_ | refine Fin.block_miss rfl ?_ | refine Fin.loop_exit ?_ | refine Fin.loop_ret ?_ | refine WP.seq ?_ | (refine WP.regionQ (by kernel_rfl) (by kernel_rfl) ?_) | refine WP.block ?_ | refine WP.region ?_ | refine WP.skip ?_ | refine WP.exit ?_ | refine WP.ret ?_ | refine WP.label ?_ | refine WP.cond_true rfl ?_ | refine WP.cond_false rfl ?_ | (refine WP.cond_dec rfl (fun h => ?_) (fun h => ?_) <;> (try (exfalso; omega))) | (refine WP.cond_bool rfl (fun h => ?_) (fun h => ?_)) | refine WL.nil ?_ | refine WL.cons ?_ | (show OP _ _ _ _ _ _ _ ⟨_, _, _, _, _, some _⟩ _ _; first | refine OP.guard_yes rfl rfl ?_ | refine OP.guard_no rfl rfl rfl rfl ?_ | refine OP.guard_un rfl rfl rfl ?_ | refine OP.guard_no0 rfl rfl rfl ?_ | (refine OP.guard_dec rfl rfl (fun h => ?_) (fun h => ?_) <;> (try (exfalso; omega))) | refine OP.guard_bool rfl rfl (fun h => ?_) (fun h => ?_)) | (show OP _ _ _ _ _ _ _ ⟨_, .move _, _, _, _, none⟩ _ _; first | refine OP.mI rfl rfl ?_ | refine OP.mB rfl rfl ?_ | refine OP.mC rfl rfl ?_ | refine OP.mF rfl rfl ?_ | refine OP.mS rfl rfl ?_ | refine OP.mP rfl rfl ?_ | refine OP.mA rfl rfl ?_ | refine OP.mT rfl rfl ?_ | refine OP.mM rfl rfl ?_ | refine OP.mU rfl rfl ?_ | refine OP.move rfl rfl ?_) | (show OP _ _ _ _ _ _ _ ⟨_, .assign _, _, _, _, none⟩ _ _; first | refine OP.aI rfl rfl ?_ | refine OP.aB rfl rfl ?_ | refine OP.aC rfl rfl ?_ | refine OP.aF rfl rfl ?_ | refine OP.aS rfl rfl ?_ | refine OP.aP rfl rfl ?_ | refine OP.aA rfl rfl ?_ | refine OP.aT rfl rfl ?_ | refine OP.aM rfl rfl ?_ | refine OP.aU rfl rfl ?_ | refine OP.assign rfl rfl ?_) | (show OP _ _ _ _ _ _ _ ⟨_, .binOp _ _ _ _ _, _, _, _, none⟩ _ _; first | refine OP.lss rfl rfl rfl ?_ | refine OP.gtr rfl rfl rfl ?_ | (refine OP.mul rfl rfl rfl ?_ ?_ ?_; omega; omega)) | (show OP _ _ _ _ _ _ _ ⟨_, .pick _ _ _, _, _, _, none⟩ _ _; first | refine OP.pick_true rfl rfl ?_ | refine OP.pick_false rfl rfl ?_))
      all_goals refine Fin.ret2 (h0 := .inl rfl) rfl rfl rfl ?_
      exact ⟨rfl, rfl⟩
  · rw [if_neg hn]
    refine Does.enter Tryd.func21 rfl Tryd.ntmps21 rfl (St.start w) ?_
    repeat' (first | refine Fin.tail ?_ | refine Fin.then_normal ?_ | refine Fin.then_exit ?_ | refine Fin.then_ret ?_ | refine Fin.block_normal ?_ | refine Fin.block_ret ?_ | refine Fin.block_hit ?_ | refine Fin.block_miss rfl ?_ | refine Fin.loop_exit ?_ | refine Fin.loop_ret ?_ | refine WP.seq ?_ | (refine WP.regionQ (by kernel_rfl) (by kernel_rfl) ?_) | refine WP.block ?_ | refine WP.region ?_ | refine WP.skip ?_ | refine WP.exit ?_ | refine WP.ret ?_ | refine WP.label ?_ | refine WP.cond_true rfl ?_ | refine WP.cond_false rfl ?_ | (refine WP.cond_dec rfl (fun h => ?_) (fun h => ?_) <;> (try (exfalso; omega))) | (refine WP.cond_bool rfl (fun h => ?_) (fun h => ?_)) | refine WL.nil ?_ | refine WL.cons ?_ | (show OP _ _ _ _ _ _ _ ⟨_, _, _, _, _, some _⟩ _ _; first | refine OP.guard_yes rfl rfl ?_ | refine OP.guard_no rfl rfl rfl rfl ?_ | refine OP.guard_un rfl rfl rfl ?_ | refine OP.guard_no0 rfl rfl rfl ?_ | (refine OP.guard_dec rfl rfl (fun h => ?_) (fun h => ?_) <;> (try (exfalso; omega))) | refine OP.guard_bool rfl rfl (fun h => ?_) (fun h => ?_)) | (show OP _ _ _ _ _ _ _ ⟨_, .move _, _, _, _, none⟩ _ _; first | refine OP.mI rfl rfl ?_ | refine OP.mB rfl rfl ?_ | refine OP.mC rfl rfl ?_ | refine OP.mF rfl rfl ?_ | refine OP.mS rfl rfl ?_ | refine OP.mP rfl rfl ?_ | refine OP.mA rfl rfl ?_ | refine OP.mT rfl rfl ?_ | refine OP.mM rfl rfl ?_ | refine OP.mU rfl rfl ?_ | refine OP.move rfl rfl ?_) | (show OP _ _ _ _ _ _ _ ⟨_, .assign _, _, _, _, none⟩ _ _; first | refine OP.aI rfl rfl ?_ | refine OP.aB rfl rfl ?_ | refine OP.aC rfl rfl ?_ | refine OP.aF rfl rfl ?_ | refine OP.aS rfl rfl ?_ | refine OP.aP rfl rfl ?_ | refine OP.aA rfl rfl ?_ | refine OP.aT rfl rfl ?_ | refine OP.aM rfl rfl ?_ | refine OP.aU rfl rfl ?_ | refine OP.assign rfl rfl ?_) | (show OP _ _ _ _ _ _ _ ⟨_, .binOp _ _ _ _ _, _, _, _, none⟩ _ _; first | refine OP.lss rfl rfl rfl ?_ | refine OP.gtr rfl rfl rfl ?_ | (refine OP.mul rfl rfl rfl ?_ ?_ ?_; omega; omega)) | (show OP _ _ _ _ _ _ _ ⟨_, .pick _ _ _, _, _, _, none⟩ _ _; first | refine OP.pick_true rfl rfl ?_ | refine OP.pick_false rfl rfl ?_))
    all_goals refine Fin.ret2 (h0 := .inl rfl) rfl rfl rfl ?_
    all_goals exact ⟨rfl, rfl⟩
end Go.Proofs.YtjckoflcjkajiaaDoor
end
section
/- Layer 3: scaling at the fixed numbers of alive, walked. %compact -/
set_option linter.unusedVariables false
set_option maxRecDepth 100000
namespace Go.Proofs.YtjckoflcjkajiaaDoor
open Go.Pen Go.Flt Go.Wav

theorem andnot_abs {x : Nat} (h : x < 9223372036854775808) : bits .andNot .u64 (x : Int) 9223372036854775808 = (x : Int) :=
  (u64_andNot_nat x 9223372036854775808 (Nat.lt_trans h (by decide)) (by decide)).trans (congrArg Nat.cast ((Nat.and_two_pow_sub_one_eq_mod x 63).trans (Nat.mod_eq_of_lt h)))
set_option maxHeartbeats 1000000 in
theorem absP_fn (x : Nat) (h : x < 9223372036854775808) (w : World) : Does Tryd.prog 68 #[.float .f64 x] [] w fun r Γ => r = .float .f64 x ∧ Γ = [] := by
  refine Does.enter Tryd.func68 rfl Tryd.ntmps68 rfl (St.start w) ?_
  repeat' (first | refine Fin.tail ?_ | refine Fin.then_normal ?_ | refine Fin.then_exit ?_ | refine Fin.then_ret ?_ | refine Fin.block_normal ?_ | refine Fin.block_ret ?_ | refine Fin.block_hit ?_ | refine Fin.block_miss rfl ?_ | refine Fin.loop_exit ?_ | refine Fin.loop_ret ?_ | refine WP.seq ?_ | (refine WP.regionQ (by kernel_rfl) (by kernel_rfl) ?_) | refine WP.block ?_ | refine WP.region ?_ | refine WP.skip ?_ | refine WP.exit ?_ | refine WP.ret ?_ | refine WP.label ?_ | refine WP.cond_true rfl ?_ | refine WP.cond_false rfl ?_ | (refine WP.cond_dec rfl (fun h => ?_) (fun h => ?_) <;> (try (exfalso; omega))) | (refine WP.cond_bool rfl (fun h => ?_) (fun h => ?_)) | refine WL.nil ?_ | refine WL.cons ?_ | (show OP _ _ _ _ _ _ _ ⟨_, .move _, _, _, _, none⟩ _ _; first | refine OP.mI rfl rfl ?_ | refine OP.mB rfl rfl ?_ | refine OP.mC rfl rfl ?_ | refine OP.mF rfl rfl ?_ | refine OP.mS rfl rfl ?_ | refine OP.mP rfl rfl ?_ | refine OP.mA rfl rfl ?_ | refine OP.mT rfl rfl ?_ | refine OP.mM rfl rfl ?_ | refine OP.mU rfl rfl ?_ | refine OP.move rfl rfl ?_) | (show OP _ _ _ _ _ _ _ ⟨_, .assign _, _, _, _, none⟩ _ _; first | refine OP.aI rfl rfl ?_ | refine OP.aB rfl rfl ?_ | refine OP.aC rfl rfl ?_ | refine OP.aF rfl rfl ?_ | refine OP.aS rfl rfl ?_ | refine OP.aP rfl rfl ?_ | refine OP.aA rfl rfl ?_ | refine OP.aT rfl rfl ?_ | refine OP.aM rfl rfl ?_ | refine OP.aU rfl rfl ?_ | refine OP.assign rfl rfl ?_) | (show OP _ _ _ _ _ _ _ ⟨_, .call _, _, _, _, none⟩ _ _; first | refine OP.callx (f := 79) (.int .u64 x) rfl rfl (fun w => by exact bits_bits x w) ?_ | refine OP.callx (f := 81) (.float .f64 x) rfl rfl (fun w => by exact bits_frombits x w) ?_) | refine OP.bitop (r := x) (.inr (.inr (.inr rfl))) rfl rfl rfl (andnot_abs h) ?_)
  all_goals refine Fin.ret1 (h0 := .inl rfl) rfl rfl ?_
  exact ⟨rfl, rfl⟩
set_option maxHeartbeats 1000000 in
theorem isInf2_fn (w : World) : Does Tryd.prog 76 #[.float .f64 two, .int .i64 0] [] w fun r Γ => r = .bool false ∧ Γ = [] := by
  refine Does.enter Tryd.func76 rfl Tryd.ntmps76 rfl (St.start w) ?_
  repeat' (first | refine Fin.tail ?_ | refine Fin.then_normal ?_ | refine Fin.then_exit ?_ | refine Fin.then_ret ?_ | refine Fin.block_normal ?_ | refine Fin.block_ret ?_ | refine Fin.block_hit ?_ | refine Fin.block_miss rfl ?_ | refine Fin.loop_exit ?_ | refine Fin.loop_ret ?_ | refine WP.seq ?_ | (refine WP.regionQ (by kernel_rfl) (by kernel_rfl) ?_) | refine WP.block ?_ | refine WP.region ?_ | refine WP.skip ?_ | refine WP.exit ?_ | refine WP.ret ?_ | refine WP.label ?_ | refine WP.cond_true rfl ?_ | refine WP.cond_false rfl ?_ | (refine WP.cond_dec rfl (fun h => ?_) (fun h => ?_) <;> (try (exfalso; omega))) | (refine WP.cond_bool rfl (fun h => ?_) (fun h => ?_)) | refine WL.nil ?_ | refine WL.cons ?_ | (show OP _ _ _ _ _ _ _ ⟨_, .move _, _, _, _, none⟩ _ _; first | refine OP.mI rfl rfl ?_ | refine OP.mB rfl rfl ?_ | refine OP.mC rfl rfl ?_ | refine OP.mF rfl rfl ?_ | refine OP.mS rfl rfl ?_ | refine OP.mP rfl rfl ?_ | refine OP.mA rfl rfl ?_ | refine OP.mT rfl rfl ?_ | refine OP.mM rfl rfl ?_ | refine OP.mU rfl rfl ?_ | refine OP.move rfl rfl ?_) | (show OP _ _ _ _ _ _ _ ⟨_, .assign _, _, _, _, none⟩ _ _; first | refine OP.aI rfl rfl ?_ | refine OP.aB rfl rfl ?_ | refine OP.aC rfl rfl ?_ | refine OP.aF rfl rfl ?_ | refine OP.aS rfl rfl ?_ | refine OP.aP rfl rfl ?_ | refine OP.aA rfl rfl ?_ | refine OP.aT rfl rfl ?_ | refine OP.aM rfl rfl ?_ | refine OP.aU rfl rfl ?_ | refine OP.assign rfl rfl ?_) | refine OP.callq _ rfl (fun w _ => absP_fn two (by decide) w) (fun _ _ h => h.1) ?_ | (show OP _ _ _ _ _ _ _ ⟨_, .binOp _ _ _ _ _, _, _, _, none⟩ _ _; first | refine OP.fcmpK (r := false) _ rfl rfl rfl rfl (by decide +kernel) ?_ | refine OP.lss rfl rfl rfl ?_ | refine OP.eql rfl rfl rfl ?_ | refine OP.gtr rfl rfl rfl ?_ | refine OP.eql2 rfl rfl rfl ?_ | refine OP.eqd rfl rfl rfl ?_ | refine OP.eqlb rfl rfl rfl ?_) | (show OP _ _ _ _ _ _ _ ⟨_, .unOp _ _ _, _, _, _, none⟩ _ _; first | refine OP.notd rfl rfl ?_ | refine OP.not rfl rfl ?_ | (refine OP.neg rfl rfl ?_ ?_ ?_; omega; omega)))
  all_goals refine Fin.ret1 (h0 := .inl rfl) rfl rfl ?_
  exact ⟨rfl, rfl⟩
set_option maxHeartbeats 1000000 in
theorem isNaN2_fn (w : World) : Does Tryd.prog 77 #[.float .f64 two] [] w fun r Γ => r = .bool false ∧ Γ = [] := by
  refine Does.enter Tryd.func77 rfl Tryd.ntmps77 rfl (St.start w) ?_
  repeat' (first | refine Fin.tail ?_ | refine Fin.then_normal ?_ | refine Fin.then_exit ?_ | refine Fin.then_ret ?_ | refine Fin.block_normal ?_ | refine Fin.block_ret ?_ | refine Fin.block_hit ?_ | refine Fin.block_miss rfl ?_ | refine Fin.loop_exit ?_ | refine Fin.loop_ret ?_ | refine WP.seq ?_ | (refine WP.regionQ (by kernel_rfl) (by kernel_rfl) ?_) | refine WP.block ?_ | refine WP.region ?_ | refine WP.skip ?_ | refine WP.exit ?_ | refine WP.ret ?_ | refine WP.label ?_ | refine WP.cond_true rfl ?_ | refine WP.cond_false rfl ?_ | (refine WP.cond_dec rfl (fun h => ?_) (fun h => ?_) <;> (try (exfalso; omega))) | (refine WP.cond_bool rfl (fun h => ?_) (fun h => ?_)) | refine WL.nil ?_ | refine WL.cons ?_ | (show OP _ _ _ _ _ _ _ ⟨_, .move _, _, _, _, none⟩ _ _; first | refine OP.mI rfl rfl ?_ | refine OP.mB rfl rfl ?_ | refine OP.mC rfl rfl ?_ | refine OP.mF rfl rfl ?_ | refine OP.mS rfl rfl ?_ | refine OP.mP rfl rfl ?_ | refine OP.mA rfl rfl ?_ | refine OP.mT rfl rfl ?_ | refine OP.mM rfl rfl ?_ | refine OP.mU rfl rfl ?_ | refine OP.move rfl rfl ?_) | (show OP _ _ _ _ _ _ _ ⟨_, .assign _, _, _, _, none⟩ _ _; first | refine OP.aI rfl rfl ?_ | refine OP.aB rfl rfl ?_ | refine OP.aC rfl rfl ?_ | refine OP.aF rfl rfl ?_ | refine OP.aS rfl rfl ?_ | refine OP.aP rfl rfl ?_ | refine OP.aA rfl rfl ?_ | refine OP.aT rfl rfl ?_ | refine OP.aM rfl rfl ?_ | refine OP.aU rfl rfl ?_ | refine OP.assign rfl rfl ?_) | (show OP _ _ _ _ _ _ _ ⟨_, .binOp _ _ _ _ _, _, _, _, none⟩ _ _; first | refine OP.fcmpK (r := false) _ rfl rfl rfl rfl (by decide +kernel) ?_ | refine OP.neq rfl rfl rfl ?_ | refine OP.neq2 rfl rfl rfl ?_ | refine OP.neqd rfl rfl rfl ?_))
  all_goals refine Fin.ret1 (h0 := .inl rfl) rfl rfl ?_
  exact ⟨rfl, rfl⟩
set_option maxHeartbeats 1000000 in
theorem norm2_fn (w : World) : Does Tryd.prog 78 #[.float .f64 two] [] w fun r Γ => r = .tuple #[.float .f64 two, .int .i64 0] ∧ Γ = [] := by
  refine Does.enter Tryd.func78 rfl Tryd.ntmps78 rfl (St.start w) ?_
  repeat' (first | refine Fin.tail ?_ | refine Fin.then_normal ?_ | refine Fin.then_exit ?_ | refine Fin.then_ret ?_ | refine Fin.block_normal ?_ | refine Fin.block_ret ?_ | refine Fin.block_hit ?_ | refine Fin.block_miss rfl ?_ | refine Fin.loop_exit ?_ | refine Fin.loop_ret ?_ | refine WP.seq ?_ | (refine WP.regionQ (by kernel_rfl) (by kernel_rfl) ?_) | refine WP.block ?_ | refine WP.region ?_ | refine WP.skip ?_ | refine WP.exit ?_ | refine WP.ret ?_ | refine WP.label ?_ | refine WP.cond_true rfl ?_ | refine WP.cond_false rfl ?_ | (refine WP.cond_dec rfl (fun h => ?_) (fun h => ?_) <;> (try (exfalso; omega))) | (refine WP.cond_bool rfl (fun h => ?_) (fun h => ?_)) | refine WL.nil ?_ | refine WL.cons ?_ | (show OP _ _ _ _ _ _ _ ⟨_, .move _, _, _, _, none⟩ _ _; first | refine OP.mI rfl rfl ?_ | refine OP.mB rfl rfl ?_ | refine OP.mC rfl rfl ?_ | refine OP.mF rfl rfl ?_ | refine OP.mS rfl rfl ?_ | refine OP.mP rfl rfl ?_ | refine OP.mA rfl rfl ?_ | refine OP.mT rfl rfl ?_ | refine OP.mM rfl rfl ?_ | refine OP.mU rfl rfl ?_ | refine OP.move rfl rfl ?_) | (show OP _ _ _ _ _ _ _ ⟨_, .assign _, _, _, _, none⟩ _ _; first | refine OP.aI rfl rfl ?_ | refine OP.aB rfl rfl ?_ | refine OP.aC rfl rfl ?_ | refine OP.aF rfl rfl ?_ | refine OP.aS rfl rfl ?_ | refine OP.aP rfl rfl ?_ | refine OP.aA rfl rfl ?_ | refine OP.aT rfl rfl ?_ | refine OP.aM rfl rfl ?_ | refine OP.aU rfl rfl ?_ | refine OP.assign rfl rfl ?_) | refine OP.callq _ rfl (fun w _ => absP_fn two (by decide) w) (fun _ _ h => h.1) ?_ | (show OP _ _ _ _ _ _ _ ⟨_, .binOp _ _ _ _ _, _, _, _, none⟩ _ _; first | refine OP.fcmpK (r := false) _ rfl rfl rfl rfl (by decide +kernel) ?_ | refine OP.lss rfl rfl rfl ?_ | (refine OP.mul rfl rfl rfl ?_ ?_ ?_; omega; omega)))
  all_goals refine Fin.ret2 (h0 := .inl rfl) rfl rfl rfl ?_
  exact ⟨rfl, rfl⟩
set_option maxHeartbeats 2000000 in
theorem ldexp2_fn (w : World) : Does Tryd.prog 67 #[.float .f64 two, .int .i64 (-1)] [] w fun r Γ => r = .float .f64 one ∧ Γ = [] := by
  refine Does.enter Tryd.func67 rfl Tryd.ntmps67 rfl (St.start w) ?_
  repeat' (first | refine Fin.tail ?_ | refine Fin.then_normal ?_ | refine Fin.then_exit ?_ | refine Fin.then_ret ?_ | refine Fin.block_normal ?_ | refine Fin.block_ret ?_ | refine Fin.block_hit ?_ | refine Fin.block_miss rfl ?_ | refine Fin.loop_exit ?_ | refine Fin.loop_ret ?_ | refine WP.seq ?_ | (refine WP.regionQ (by kernel_rfl) (by kernel_rfl) ?_) | refine WP.block ?_ | refine WP.region ?_ | refine WP.skip ?_ | refine WP.exit ?_ | refine WP.ret ?_ | refine WP.label ?_ | refine WP.cond_true rfl ?_ | refine WP.cond_false rfl ?_ | (refine WP.cond_dec rfl (fun h => ?_) (fun h => ?_) <;> (try (exfalso; omega))) | (refine WP.cond_bool rfl (fun h => ?_) (fun h => ?_)) | refine WL.nil ?_ | refine WL.cons ?_ | (show OP _ _ _ _ _ _ _ ⟨_, _, _, _, _, some _⟩ _ _; first | refine OP.guard_yes rfl rfl ?_ | refine OP.guard_no rfl rfl rfl rfl ?_ | refine OP.guard_un rfl rfl rfl ?_ | refine OP.guard_no0 rfl rfl rfl ?_ | (refine OP.guard_dec rfl rfl (fun h => ?_) (fun h => ?_) <;> (try (exfalso; omega))) | refine OP.guard_bool rfl rfl (fun h => ?_) (fun h => ?_)) | (show OP _ _ _ _ _ _ _ ⟨_, .move _, _, _, _, none⟩ _ _; first | refine OP.mI rfl rfl ?_ | refine OP.mB rfl rfl ?_ | refine OP.mC rfl rfl ?_ | refine OP.mF rfl rfl ?_ | refine OP.mS rfl rfl ?_ | refine OP.mP rfl rfl ?_ | refine OP.mA rfl rfl ?_ | refine OP.mT rfl rfl ?_ | refine OP.mM rfl rfl ?_ | refine OP.mU rfl rfl ?_ | refine OP.move rfl rfl ?_) | (show OP _ _ _ _ _ _ _ ⟨_, .assign _, _, _, _, none⟩ _ _; first | refine OP.aI rfl rfl ?_ | refine OP.aB rfl rfl ?_ | refine OP.aC rfl rfl ?_ | refine OP.aF rfl rfl ?_ | refine OP.aS rfl rfl ?_ | refine OP.aP rfl rfl ?_ | refine OP.aA rfl rfl ?_ | refine OP.aT rfl rfl ?_ | refine OP.aM rfl rfl ?_ | refine OP.aU rfl rfl ?_ | refine OP.assign rfl rfl ?_) | (show OP _ _ _ _ _ _ _ ⟨_, .call _, _, _, _, none⟩ _ _; first | refine OP.callq _ rfl (fun w _ => isInf2_fn w) (fun _ _ h => h.1) ?_ | refine OP.callq _ rfl (fun w _ => isNaN2_fn w) (fun _ _ h => h.1) ?_ | refine OP.callq _ rfl (fun w _ => norm2_fn w) (fun _ _ h => h.1) ?_ | refine OP.callx (f := 79) (.int .u64 two) rfl rfl (fun w => by exact bits_bits two w) ?_ | refine OP.callx (f := 81) (.float .f64 one) rfl rfl (fun w => by exact bits_frombits one w) ?_) | (show OP _ _ _ _ _ _ _ ⟨_, .binOp _ _ _ _ _, _, _, _, none⟩ _ _; first | refine OP.fcmpK (r := false) _ rfl rfl rfl rfl (by decide +kernel) ?_ | refine OP.shrI (c := 52) rfl rfl rfl rfl (by decide) ?_ | refine OP.shlI (r := 4607182418800017408) (c := 52) rfl rfl rfl rfl (by decide) (by decide +kernel) ?_ | refine OP.bitop (r := 1024) (.inl rfl) rfl rfl rfl (by decide +kernel) ?_ | refine OP.bitop (r := 0) (.inr (.inr (.inr rfl))) rfl rfl rfl (by decide +kernel) ?_ | refine OP.bitop (r := 4607182418800017408) (.inr (.inl rfl)) rfl rfl rfl (by decide +kernel) ?_ | refine OP.farith (r := one) rfl rfl rfl (by decide +kernel) ?_ | (refine OP.add rfl rfl rfl ?_ ?_ ?_; omega; omega) | (refine OP.sub rfl rfl rfl ?_ ?_ ?_; omega; omega) | refine OP.lss rfl rfl rfl ?_ | refine OP.eql rfl rfl rfl ?_ | refine OP.gtr rfl rfl rfl ?_ | refine OP.eql2 rfl rfl rfl ?_ | refine OP.eqd rfl rfl rfl ?_ | refine OP.eqlb rfl rfl rfl ?_ | (refine OP.mul rfl rfl rfl ?_ ?_ ?_; omega; omega)) | (show OP _ _ _ _ _ _ _ ⟨_, .convert _ _ _, _, _, _, none⟩ _ _; first | refine OP.convw rfl rfl ?_ | (refine OP.conv rfl rfl ?_ ?_ ?_; omega; omega)) | (show OP _ _ _ _ _ _ _ ⟨_, .pick _ _ _, _, _, _, none⟩ _ _; first | refine OP.pick_true rfl rfl ?_ | refine OP.pick_false rfl rfl ?_) | refine OP.extract rfl rfl rfl ?_)
  all_goals refine Fin.ret1 (h0 := .inl rfl) rfl rfl ?_
  all_goals exact ⟨rfl, rfl⟩
set_option maxHeartbeats 2000000 in
theorem ldexp0_fn (k : Int) (w : World) : Does Tryd.prog 67 #[.float .f64 0, .int .i64 k] [] w fun r Γ => r = .float .f64 0 ∧ Γ = [] := by
  refine Does.enter Tryd.func67 rfl Tryd.ntmps67 rfl (St.start w) ?_
  repeat' (first | refine Fin.tail ?_ | refine Fin.then_normal ?_ | refine Fin.then_exit ?_ | refine Fin.then_ret ?_ | refine Fin.block_normal ?_ | refine Fin.block_ret ?_ | refine Fin.block_hit ?_ | refine Fin.block_miss rfl ?_ | refine Fin.loop_exit ?_ | refine Fin.loop_ret ?_ | refine WP.seq ?_ | (refine WP.regionQ (by kernel_rfl) (by kernel_rfl) ?_) | refine WP.block ?_ | refine WP.region ?_ | refine WP.skip ?_ | refine WP.exit ?_ | refine WP.ret ?_ | refine WP.label ?_ | refine WP.cond_true rfl ?_ | refine WP.cond_false rfl ?_ | (refine WP.cond_dec rfl (fun h => ?_) (fun h => ?_) <;> (try (exfalso; omega))) | (refine WP.cond_bool rfl (fun h => ?_) (fun h => ?_)) | refine WL.nil ?_ | refine WL.cons ?_ | (show OP _ _ _ _ _ _ _ ⟨_, _, _, _, _, some _⟩ _ _; first | refine OP.guard_yes rfl rfl ?_ | refine OP.guard_no rfl rfl rfl rfl ?_ | refine OP.guard_un rfl rfl rfl ?_ | refine OP.guard_no0 rfl rfl rfl ?_ | (refine OP.guard_dec rfl rfl (fun h => ?_) (fun h => ?_) <;> (try (exfalso; omega))) | refine OP.guard_bool rfl rfl (fun h => ?_) (fun h => ?_)) | (show OP _ _ _ _ _ _ _ ⟨_, .move _, _, _, _, none⟩ _ _; first | refine OP.mI rfl rfl ?_ | refine OP.mB rfl rfl ?_ | refine OP.mC rfl rfl ?_ | refine OP.mF rfl rfl ?_ | refine OP.mS rfl rfl ?_ | refine OP.mP rfl rfl ?_ | refine OP.mA rfl rfl ?_ | refine OP.mT rfl rfl ?_ | refine OP.mM rfl rfl ?_ | refine OP.mU rfl rfl ?_ | refine OP.move rfl rfl ?_) | (show OP _ _ _ _ _ _ _ ⟨_, .assign _, _, _, _, none⟩ _ _; first | refine OP.aI rfl rfl ?_ | refine OP.aB rfl rfl ?_ | refine OP.aC rfl rfl ?_ | refine OP.aF rfl rfl ?_ | refine OP.aS rfl rfl ?_ | refine OP.aP rfl rfl ?_ | refine OP.aA rfl rfl ?_ | refine OP.aT rfl rfl ?_ | refine OP.aM rfl rfl ?_ | refine OP.aU rfl rfl ?_ | refine OP.assign rfl rfl ?_) | (show OP _ _ _ _ _ _ _ ⟨_, .binOp _ _ _ _ _, _, _, _, none⟩ _ _; first | refine OP.fcmpK (r := true) _ rfl rfl rfl rfl (by decide +kernel) ?_ | (refine OP.add rfl rfl rfl ?_ ?_ ?_; omega; omega) | (refine OP.sub rfl rfl rfl ?_ ?_ ?_; omega; omega) | refine OP.lss rfl rfl rfl ?_ | refine OP.eql rfl rfl rfl ?_ | refine OP.gtr rfl rfl rfl ?_ | refine OP.eql2 rfl rfl rfl ?_ | refine OP.eqd rfl rfl rfl ?_ | refine OP.eqlb rfl rfl rfl ?_ | (refine OP.mul rfl rfl rfl ?_ ?_ ?_; omega; omega)) | (refine OP.conv rfl rfl ?_ ?_ ?_; omega; omega) | (show OP _ _ _ _ _ _ _ ⟨_, .pick _ _ _, _, _, _, none⟩ _ _; first | refine OP.pick_true rfl rfl ?_ | refine OP.pick_false rfl rfl ?_) | refine OP.extract rfl rfl rfl ?_)
  all_goals refine Fin.ret1 (h0 := .inl rfl) rfl rfl ?_
  all_goals exact ⟨rfl, rfl⟩
theorem ldexp0m_fn (w : World) : Does Tryd.prog 67 #[.float .f64 0, .int .i64 (-1)] [] w fun r Γ => r = .float .f64 0 ∧ Γ = [] := ldexp0_fn (-1) w
set_option maxHeartbeats 1000000 in
theorem Ldexp2_fn (w : World) : Does Tryd.prog 49 #[.float .f64 two, .int .i64 (-1)] [] w fun r Γ => r = .float .f64 one ∧ Γ = [] := by
  refine Does.enter Tryd.func49 rfl Tryd.ntmps49 rfl (St.start w) ?_
  repeat' (first | refine Fin.tail ?_ | refine Fin.then_normal ?_ | refine Fin.then_exit ?_ | refine Fin.then_ret ?_ | refine Fin.block_normal ?_ | refine Fin.block_ret ?_ | refine Fin.block_hit ?_ | refine Fin.block_miss rfl ?_ | refine Fin.loop_exit ?_ | refine Fin.loop_ret ?_ | refine WP.seq ?_ | (refine WP.regionQ (by kernel_rfl) (by kernel_rfl) ?_) | refine WP.block ?_ | refine WP.region ?_ | refine WP.skip ?_ | refine WP.exit ?_ | refine WP.ret ?_ | refine WP.label ?_ | refine WP.cond_true rfl ?_ | refine WP.cond_false rfl ?_ | (refine WP.cond_dec rfl (fun h => ?_) (fun h => ?_) <;> (try (exfalso; omega))) | (refine WP.cond_bool rfl (fun h => ?_) (fun h => ?_)) | refine WL.nil ?_ | refine WL.cons ?_ | (show OP _ _ _ _ _ _ _ ⟨_, .move _, _, _, _, none⟩ _ _; first | refine OP.mI rfl rfl ?_ | refine OP.mB rfl rfl ?_ | refine OP.mC rfl rfl ?_ | refine OP.mF rfl rfl ?_ | refine OP.mS rfl rfl ?_ | refine OP.mP rfl rfl ?_ | refine OP.mA rfl rfl ?_ | refine OP.mT rfl rfl ?_ | refine OP.mM rfl rfl ?_ | refine OP.mU rfl rfl ?_ | refine OP.move rfl rfl ?_) | (show OP _ _ _ _ _ _ _ ⟨_, .assign _, _, _, _, none⟩ _ _; first | refine OP.aI rfl rfl ?_ | refine OP.aB rfl rfl ?_ | refine OP.aC rfl rfl ?_ | refine OP.aF rfl rfl ?_ | refine OP.aS rfl rfl ?_ | refine OP.aP rfl rfl ?_ | refine OP.aA rfl rfl ?_ | refine OP.aT rfl rfl ?_ | refine OP.aM rfl rfl ?_ | refine OP.aU rfl rfl ?_ | refine OP.assign rfl rfl ?_) | refine OP.callq _ rfl (fun w _ => ldexp2_fn w) (fun _ _ h => h.1) ?_)
  all_goals refine Fin.ret1 (h0 := .inl rfl) rfl rfl ?_
  all_goals exact ⟨rfl, rfl⟩
set_option maxHeartbeats 1000000 in
theorem Ldexp0_fn (w : World) : Does Tryd.prog 49 #[.float .f64 0, .int .i64 (-1)] [] w fun r Γ => r = .float .f64 0 ∧ Γ = [] := by
  refine Does.enter Tryd.func49 rfl Tryd.ntmps49 rfl (St.start w) ?_
  repeat' (first | refine Fin.tail ?_ | refine Fin.then_normal ?_ | refine Fin.then_exit ?_ | refine Fin.then_ret ?_ | refine Fin.block_normal ?_ | refine Fin.block_ret ?_ | refine Fin.block_hit ?_ | refine Fin.block_miss rfl ?_ | refine Fin.loop_exit ?_ | refine Fin.loop_ret ?_ | refine WP.seq ?_ | (refine WP.regionQ (by kernel_rfl) (by kernel_rfl) ?_) | refine WP.block ?_ | refine WP.region ?_ | refine WP.skip ?_ | refine WP.exit ?_ | refine WP.ret ?_ | refine WP.label ?_ | refine WP.cond_true rfl ?_ | refine WP.cond_false rfl ?_ | (refine WP.cond_dec rfl (fun h => ?_) (fun h => ?_) <;> (try (exfalso; omega))) | (refine WP.cond_bool rfl (fun h => ?_) (fun h => ?_)) | refine WL.nil ?_ | refine WL.cons ?_ | (show OP _ _ _ _ _ _ _ ⟨_, .move _, _, _, _, none⟩ _ _; first | refine OP.mI rfl rfl ?_ | refine OP.mB rfl rfl ?_ | refine OP.mC rfl rfl ?_ | refine OP.mF rfl rfl ?_ | refine OP.mS rfl rfl ?_ | refine OP.mP rfl rfl ?_ | refine OP.mA rfl rfl ?_ | refine OP.mT rfl rfl ?_ | refine OP.mM rfl rfl ?_ | refine OP.mU rfl rfl ?_ | refine OP.move rfl rfl ?_) | (show OP _ _ _ _ _ _ _ ⟨_, .assign _, _, _, _, none⟩ _ _; first | refine OP.aI rfl rfl ?_ | refine OP.aB rfl rfl ?_ | refine OP.aC rfl rfl ?_ | refine OP.aF rfl rfl ?_ | refine OP.aS rfl rfl ?_ | refine OP.aP rfl rfl ?_ | refine OP.aA rfl rfl ?_ | refine OP.aT rfl rfl ?_ | refine OP.aM rfl rfl ?_ | refine OP.aU rfl rfl ?_ | refine OP.assign rfl rfl ?_) | refine OP.callq _ rfl (fun w _ => ldexp0m_fn w) (fun _ _ h => h.1) ?_)
  all_goals refine Fin.ret1 (h0 := .inl rfl) rfl rfl ?_
  all_goals exact ⟨rfl, rfl⟩
set_option maxHeartbeats 1000000 in
theorem scl2_fn (b : Nat) (w : World) (hc : w.cell? ⟨b, 0, none⟩ = some (.int .i64 (-1))) : Does Tryd.prog 48 #[.float .f64 two, .pointer (some ⟨b, 0, none⟩)] [] w fun r Γ => r = .float .f64 one ∧ Γ = [] := by
  refine Does.enter Tryd.func48 rfl Tryd.ntmps48 rfl (St.start w) ?_
  repeat' (first | refine Fin.tail ?_ | refine Fin.then_normal ?_ | refine Fin.then_exit ?_ | refine Fin.then_ret ?_ | refine Fin.block_normal ?_ | refine Fin.block_ret ?_ | refine Fin.block_hit ?_ | refine Fin.block_miss rfl ?_ | refine Fin.loop_exit ?_ | refine Fin.loop_ret ?_ | refine WP.seq ?_ | (refine WP.regionQ (by kernel_rfl) (by kernel_rfl) ?_) | refine WP.block ?_ | refine WP.region ?_ | refine WP.skip ?_ | refine WP.exit ?_ | refine WP.ret ?_ | refine WP.label ?_ | refine WP.cond_true rfl ?_ | refine WP.cond_false rfl ?_ | (refine WP.cond_dec rfl (fun h => ?_) (fun h => ?_) <;> (try (exfalso; omega))) | (refine WP.cond_bool rfl (fun h => ?_) (fun h => ?_)) | refine WL.nil ?_ | refine WL.cons ?_ | (show OP _ _ _ _ _ _ _ ⟨_, .move _, _, _, _, none⟩ _ _; first | refine OP.mI rfl rfl ?_ | refine OP.mB rfl rfl ?_ | refine OP.mC rfl rfl ?_ | refine OP.mF rfl rfl ?_ | refine OP.mS rfl rfl ?_ | refine OP.mP rfl rfl ?_ | refine OP.mA rfl rfl ?_ | refine OP.mT rfl rfl ?_ | refine OP.mM rfl rfl ?_ | refine OP.mU rfl rfl ?_ | refine OP.move rfl rfl ?_) | (show OP _ _ _ _ _ _ _ ⟨_, .assign _, _, _, _, none⟩ _ _; first | refine OP.aI rfl rfl ?_ | refine OP.aB rfl rfl ?_ | refine OP.aC rfl rfl ?_ | refine OP.aF rfl rfl ?_ | refine OP.aS rfl rfl ?_ | refine OP.aP rfl rfl ?_ | refine OP.aA rfl rfl ?_ | refine OP.aT rfl rfl ?_ | refine OP.aM rfl rfl ?_ | refine OP.aU rfl rfl ?_ | refine OP.assign rfl rfl ?_) | refine OP.callq _ rfl (fun w _ => Ldexp2_fn w) (fun _ _ h => h.1) ?_ | (show OP _ _ _ _ _ _ _ ⟨_, .load _ _, _, _, _, none⟩ _ _; first | refine OP.ld rfl rfl inferInstance rfl ?_ | refine OP.load rfl rfl (Sees.old0 (by assumption)) ?_ | refine OP.ldA rfl rfl inferInstance rfl ?_))
  all_goals refine Fin.ret1 (h0 := .inl rfl) rfl rfl ?_
  all_goals exact ⟨rfl, rfl⟩
set_option maxHeartbeats 1000000 in
theorem scl0_fn (b : Nat) (w : World) (hc : w.cell? ⟨b, 0, none⟩ = some (.int .i64 (-1))) : Does Tryd.prog 48 #[.float .f64 0, .pointer (some ⟨b, 0, none⟩)] [] w fun r Γ => r = .float .f64 0 ∧ Γ = [] := by
  refine Does.enter Tryd.func48 rfl Tryd.ntmps48 rfl (St.start w) ?_
  repeat' (first | refine Fin.tail ?_ | refine Fin.then_normal ?_ | refine Fin.then_exit ?_ | refine Fin.then_ret ?_ | refine Fin.block_normal ?_ | refine Fin.block_ret ?_ | refine Fin.block_hit ?_ | refine Fin.block_miss rfl ?_ | refine Fin.loop_exit ?_ | refine Fin.loop_ret ?_ | refine WP.seq ?_ | (refine WP.regionQ (by kernel_rfl) (by kernel_rfl) ?_) | refine WP.block ?_ | refine WP.region ?_ | refine WP.skip ?_ | refine WP.exit ?_ | refine WP.ret ?_ | refine WP.label ?_ | refine WP.cond_true rfl ?_ | refine WP.cond_false rfl ?_ | (refine WP.cond_dec rfl (fun h => ?_) (fun h => ?_) <;> (try (exfalso; omega))) | (refine WP.cond_bool rfl (fun h => ?_) (fun h => ?_)) | refine WL.nil ?_ | refine WL.cons ?_ | (show OP _ _ _ _ _ _ _ ⟨_, .move _, _, _, _, none⟩ _ _; first | refine OP.mI rfl rfl ?_ | refine OP.mB rfl rfl ?_ | refine OP.mC rfl rfl ?_ | refine OP.mF rfl rfl ?_ | refine OP.mS rfl rfl ?_ | refine OP.mP rfl rfl ?_ | refine OP.mA rfl rfl ?_ | refine OP.mT rfl rfl ?_ | refine OP.mM rfl rfl ?_ | refine OP.mU rfl rfl ?_ | refine OP.move rfl rfl ?_) | (show OP _ _ _ _ _ _ _ ⟨_, .assign _, _, _, _, none⟩ _ _; first | refine OP.aI rfl rfl ?_ | refine OP.aB rfl rfl ?_ | refine OP.aC rfl rfl ?_ | refine OP.aF rfl rfl ?_ | refine OP.aS rfl rfl ?_ | refine OP.aP rfl rfl ?_ | refine OP.aA rfl rfl ?_ | refine OP.aT rfl rfl ?_ | refine OP.aM rfl rfl ?_ | refine OP.aU rfl rfl ?_ | refine OP.assign rfl rfl ?_) | refine OP.callq _ rfl (fun w _ => Ldexp0_fn w) (fun _ _ h => h.1) ?_ | (show OP _ _ _ _ _ _ _ ⟨_, .load _ _, _, _, _, none⟩ _ _; first | refine OP.ld rfl rfl inferInstance rfl ?_ | refine OP.load rfl rfl (Sees.old0 (by assumption)) ?_ | refine OP.ldA rfl rfl inferInstance rfl ?_))
  all_goals refine Fin.ret1 (h0 := .inl rfl) rfl rfl ?_
  all_goals exact ⟨rfl, rfl⟩
set_option maxHeartbeats 1000000 in
theorem each2_fn (b : Nat) (w : World) (hc : w.cell? ⟨b, 0, none⟩ = some (.int .i64 (-1))) : Does Tryd.prog 47 #[.complex .f64 two 0, .func (.func 48) #[] #[.pointer (some ⟨b, 0, none⟩)]] [] w fun v Γ => v = .complex .f64 one 0 ∧ Γ = [] := by
  refine Does.enter Tryd.func47 rfl Tryd.ntmps47 rfl (St.start w) ?_
  repeat' (first | refine Fin.tail ?_ | refine Fin.then_normal ?_ | refine Fin.then_exit ?_ | refine Fin.then_ret ?_ | refine Fin.block_normal ?_ | refine Fin.block_ret ?_ | refine Fin.block_hit ?_ | refine Fin.block_miss rfl ?_ | refine Fin.loop_exit ?_ | refine Fin.loop_ret ?_ | refine WP.seq ?_ | (refine WP.regionQ (by kernel_rfl) (by kernel_rfl) ?_) | refine WP.block ?_ | refine WP.region ?_ | refine WP.skip ?_ | refine WP.exit ?_ | refine WP.ret ?_ | refine WP.label ?_ | refine WP.cond_true rfl ?_ | refine WP.cond_false rfl ?_ | (refine WP.cond_dec rfl (fun h => ?_) (fun h => ?_) <;> (try (exfalso; omega))) | (refine WP.cond_bool rfl (fun h => ?_) (fun h => ?_)) | refine WL.nil ?_ | refine WL.cons ?_ | (show OP _ _ _ _ _ _ _ ⟨_, .move _, _, _, _, none⟩ _ _; first | refine OP.mI rfl rfl ?_ | refine OP.mB rfl rfl ?_ | refine OP.mC rfl rfl ?_ | refine OP.mF rfl rfl ?_ | refine OP.mS rfl rfl ?_ | refine OP.mP rfl rfl ?_ | refine OP.mA rfl rfl ?_ | refine OP.mT rfl rfl ?_ | refine OP.mM rfl rfl ?_ | refine OP.mU rfl rfl ?_ | refine OP.move rfl rfl ?_) | (show OP _ _ _ _ _ _ _ ⟨_, .assign _, _, _, _, none⟩ _ _; first | refine OP.aI rfl rfl ?_ | refine OP.aB rfl rfl ?_ | refine OP.aC rfl rfl ?_ | refine OP.aF rfl rfl ?_ | refine OP.aS rfl rfl ?_ | refine OP.aP rfl rfl ?_ | refine OP.aA rfl rfl ?_ | refine OP.aT rfl rfl ?_ | refine OP.aM rfl rfl ?_ | refine OP.aU rfl rfl ?_ | refine OP.assign rfl rfl ?_) | (show OP _ _ _ _ _ _ _ ⟨_, .call _, _, _, _, none⟩ _ _; first | refine OP.callvq (f := 48) (.float .f64 one) rfl rfl rfl (fun w' hst => scl2_fn b w' (hst.old hc (by simp))) (fun _ _ h => h.1) ?_ | refine OP.callvq (f := 48) (.float .f64 0) rfl rfl rfl (fun w' hst => scl0_fn b w' (hst.old hc (by simp))) (fun _ _ h => h.1) ?_ | refine OP.real rfl rfl ?_ | refine OP.imag rfl rfl ?_ | refine OP.complex rfl rfl rfl ?_))
  all_goals refine Fin.ret1 (h0 := .inl rfl) rfl rfl ?_
  exact ⟨rfl, rfl⟩
set_option maxHeartbeats 1000000 in
theorem Scale2_fn (w : World) : Does Tryd.prog 29 #[.complex .f64 two 0, .int .i64 (-1)] [] w fun v Γ => v = .complex .f64 one 0 ∧ Γ = [] := by
  refine Does.enter Tryd.func29 rfl Tryd.ntmps29 rfl (St.start w) ?_
  repeat' (first | (refine OP.store0 (vs := [.int .i64 (-1)]) rfl rfl rfl rfl rfl ?_) | refine Fin.tail ?_ | refine Fin.then_normal ?_ | refine Fin.then_exit ?_ | refine Fin.then_ret ?_ | refine Fin.block_normal ?_ | refine Fin.block_ret ?_ | refine Fin.block_hit ?_ | refine Fin.block_miss rfl ?_ | refine Fin.loop_exit ?_ | refine Fin.loop_ret ?_ | refine WP.seq ?_ | (refine WP.regionQ (by kernel_rfl) (by kernel_rfl) ?_) | refine WP.block ?_ | refine WP.region ?_ | refine WP.skip ?_ | refine WP.exit ?_ | refine WP.ret ?_ | refine WP.label ?_ | refine WP.cond_true rfl ?_ | refine WP.cond_false rfl ?_ | (refine WP.cond_dec rfl (fun h => ?_) (fun h => ?_) <;> (try (exfalso; omega))) | (refine WP.cond_bool rfl (fun h => ?_) (fun h => ?_)) | refine WL.nil ?_ | refine WL.cons ?_ | (show OP _ _ _ _ _ _ _ ⟨_, .move _, _, _, _, none⟩ _ _; first | refine OP.mI rfl rfl ?_ | refine OP.mB rfl rfl ?_ | refine OP.mC rfl rfl ?_ | refine OP.mF rfl rfl ?_ | refine OP.mS rfl rfl ?_ | refine OP.mP rfl rfl ?_ | refine OP.mA rfl rfl ?_ | refine OP.mT rfl rfl ?_ | refine OP.mM rfl rfl ?_ | refine OP.mU rfl rfl ?_ | refine OP.move rfl rfl ?_) | (show OP _ _ _ _ _ _ _ ⟨_, .assign _, _, _, _, none⟩ _ _; first | refine OP.aI rfl rfl ?_ | refine OP.aB rfl rfl ?_ | refine OP.aC rfl rfl ?_ | refine OP.aF rfl rfl ?_ | refine OP.aS rfl rfl ?_ | refine OP.aP rfl rfl ?_ | refine OP.aA rfl rfl ?_ | refine OP.aT rfl rfl ?_ | refine OP.aM rfl rfl ?_ | refine OP.aU rfl rfl ?_ | refine OP.assign rfl rfl ?_) | (show OP _ _ _ _ _ _ _ ⟨_, .call _, _, _, _, none⟩ _ _; first | refine OP.callq (.complex .f64 one 0) rfl (fun w' hst => each2_fn bx w' ((Sees.own (List.Mem.head _) rfl).out w' hst)) (fun _ _ h => h.1) ?_ | refine OP.max2 rfl rfl rfl ?_ | refine OP.min2 rfl rfl rfl ?_) | (show OP _ _ _ _ _ _ _ ⟨_, .load _ _, _, _, _, none⟩ _ _; first | refine OP.ld rfl rfl inferInstance rfl ?_ | refine OP.load rfl rfl (Sees.old0 (by assumption)) ?_ | refine OP.ldA rfl rfl inferInstance rfl ?_) | (show OP _ _ _ _ _ _ _ ⟨_, .store _ _ _, _, _, _, none⟩ _ _; first | refine OP.stI rfl rfl inferInstance rfl ?_ | refine OP.stB rfl rfl inferInstance rfl ?_ | refine OP.stC rfl rfl inferInstance rfl ?_ | refine OP.stF rfl rfl inferInstance rfl ?_ | refine OP.stS rfl rfl inferInstance rfl ?_ | refine OP.stP rfl rfl inferInstance rfl ?_ | refine OP.stM rfl rfl inferInstance rfl ?_ | refine OP.stU rfl rfl inferInstance rfl ?_ | refine OP.st (vs := [_]) rfl rfl inferInstance rfl rfl rfl ?_ | refine OP.st (vs := [_, _]) rfl rfl inferInstance rfl rfl rfl ?_ | refine OP.st (vs := [_, _, _]) rfl rfl inferInstance rfl rfl rfl ?_) | (show OP _ _ _ _ _ _ _ ⟨_, .box _ _, _, _, _, none⟩ _ _; first | refine OP.bxI rfl rfl (fun bx => ?_) | refine OP.bxB rfl rfl (fun bx => ?_) | refine OP.bxC rfl rfl (fun bx => ?_) | refine OP.bxF rfl rfl (fun bx => ?_) | refine OP.bxS rfl rfl (fun bx => ?_) | refine OP.bxP rfl rfl (fun bx => ?_) | refine OP.bxA rfl rfl (fun bx => ?_) | refine OP.bxM rfl rfl (fun bx => ?_) | refine OP.bxU rfl rfl (fun bx => ?_) | refine OP.box rfl rfl (fun bx => ?_)) | refine OP.makeFunc rfl ?_)
  all_goals refine Fin.drop (List.nil_sublist _) ?_
  all_goals refine Fin.ret1 (h0 := .inl rfl) rfl rfl ?_
  all_goals exact ⟨rfl, rfl⟩
end Go.Proofs.YtjckoflcjkajiaaDoor
end
section
/- Scaling of -2, walked. %compact -/
set_option linter.unusedVariables false
set_option maxRecDepth 100000
namespace Go.Wav
def ntwo : Nat := 13835058055282163712
def none1 : Nat := 13830554455654793216
end Go.Wav
namespace Go.Proofs.YtjckoflcjkajiaaDoor
open Go.Pen Go.Flt Go.Wav

set_option maxHeartbeats 1000000 in
theorem absN_fn (w : World) : Does Tryd.prog 68 #[.float .f64 ntwo] [] w fun r Γ => r = .float .f64 two ∧ Γ = [] := by
  refine Does.enter Tryd.func68 rfl Tryd.ntmps68 rfl (St.start w) ?_
  repeat' (first | refine Fin.tail ?_ | refine Fin.then_normal ?_ | refine Fin.then_exit ?_ | refine Fin.then_ret ?_ | refine Fin.block_normal ?_ | refine Fin.block_ret ?_ | refine Fin.block_hit ?_ | refine Fin.block_miss rfl ?_ | refine Fin.loop_exit ?_ | refine Fin.loop_ret ?_ | refine WP.seq ?_ | (refine WP.regionQ (by kernel_rfl) (by kernel_rfl) ?_) | refine WP.block ?_ | refine WP.region ?_ | refine WP.skip ?_ | refine WP.exit ?_ | refine WP.ret ?_ | refine WP.label ?_ | refine WP.cond_true rfl ?_ | refine WP.cond_false rfl ?_ | (refine WP.cond_dec rfl (fun h => ?_) (fun h => ?_) <;> (try (exfalso; omega))) | (refine WP.cond_bool rfl (fun h => ?_) (fun h => ?_)) | refine WL.nil ?_ | refine WL.cons ?_ | (show OP _ _ _ _ _ _ _ ⟨_, .move _, _, _, _, none⟩ _ _; first | refine OP.mI rfl rfl ?_ | refine OP.mB rfl rfl ?_ | refine OP.mC rfl rfl ?_ | refine OP.mF rfl rfl ?_ | refine OP.mS rfl rfl ?_ | refine OP.mP rfl rfl ?_ | refine OP.mA rfl rfl ?_ | refine OP.mT rfl rfl ?_ | refine OP.mM rfl rfl ?_ | refine OP.mU rfl rfl ?_ | refine OP.move rfl rfl ?_) | (show OP _ _ _ _ _ _ _ ⟨_, .assign _, _, _, _, none⟩ _ _; first | refine OP.aI rfl rfl ?_ | refine OP.aB rfl rfl ?_ | refine OP.aC rfl rfl ?_ | refine OP.aF rfl rfl ?_ | refine OP.aS rfl rfl ?_ | refine OP.aP rfl rfl ?_ | refine OP.aA rfl rfl ?_ | refine OP.aT rfl rfl ?_ | refine OP.aM rfl rfl ?_ | refine OP.aU rfl rfl ?_ | refine OP.assign rfl rfl ?_) | (show OP _ _ _ _ _ _ _ ⟨_, .call _, _, _, _, none⟩ _ _; first | refine OP.callx (f := 79) (.int .u64 ntwo) rfl rfl (fun w => by exact bits_bits ntwo w) ?_ | refine OP.callx (f := 81) (.float .f64 two) rfl rfl (fun w => by exact bits_frombits two w) ?_) | refine OP.bitop (r := two) (.inr (.inr (.inr rfl))) rfl rfl rfl (by decide +kernel) ?_)
  all_goals refine Fin.ret1 (h0 := .inl rfl) rfl rfl ?_
  exact ⟨rfl, rfl⟩
set_option maxHeartbeats 1000000 in
theorem isInfN_fn (w : World) : Does Tryd.prog 76 #[.float .f64 ntwo, .int .i64 0] [] w fun r Γ => r = .bool false ∧ Γ = [] := by
  refine Does.enter Tryd.func76 rfl Tryd.ntmps76 rfl (St.start w) ?_
  repeat' (first | refine Fin.tail ?_ | refine Fin.then_normal ?_ | refine Fin.then_exit ?_ | refine Fin.then_ret ?_ | refine Fin.block_normal ?_ | refine Fin.block_ret ?_ | refine Fin.block_hit ?_ | refine Fin.block_miss rfl ?_ | refine Fin.loop_exit ?_ | refine Fin.loop_ret ?_ | refine WP.seq ?_ | (refine WP.regionQ (by kernel_rfl) (by kernel_rfl) ?_) | refine WP.block ?_ | refine WP.region ?_ | refine WP.skip ?_ | refine WP.exit ?_ | refine WP.ret ?_ | refine WP.label ?_ | refine WP.cond_true rfl ?_ | refine WP.cond_false rfl ?_ | (refine WP.cond_dec rfl (fun h => ?_) (fun h => ?_) <;> (try (exfalso; omega))) | (refine WP.cond_bool rfl (fun h => ?_) (fun h => ?_)) | refine WL.nil ?_ | refine WL.cons ?_ | (show OP _ _ _ _ _ _ _ ⟨_, .move _, _, _, _, none⟩ _ _; first | refine OP.mI rfl rfl ?_ | refine OP.mB rfl rfl ?_ | refine OP.mC rfl rfl ?_ | refine OP.mF rfl rfl ?_ | refine OP.mS rfl rfl ?_ | refine OP.mP rfl rfl ?_ | refine OP.mA rfl rfl ?_ | refine OP.mT rfl rfl ?_ | refine OP.mM rfl rfl ?_ | refine OP.mU rfl rfl ?_ | refine OP.move rfl rfl ?_) | (show OP _ _ _ _ _ _ _ ⟨_, .assign _, _, _, _, none⟩ _ _; first | refine OP.aI rfl rfl ?_ | refine OP.aB rfl rfl ?_ | refine OP.aC rfl rfl ?_ | refine OP.aF rfl rfl ?_ | refine OP.aS rfl rfl ?_ | refine OP.aP rfl rfl ?_ | refine OP.aA rfl rfl ?_ | refine OP.aT rfl rfl ?_ | refine OP.aM rfl rfl ?_ | refine OP.aU rfl rfl ?_ | refine OP.assign rfl rfl ?_) | refine OP.callq _ rfl (fun w _ => absN_fn w) (fun _ _ h => h.1) ?_ | (show OP _ _ _ _ _ _ _ ⟨_, .binOp _ _ _ _ _, _, _, _, none⟩ _ _; first | refine OP.fcmpK (r := false) _ rfl rfl rfl rfl (by decide +kernel) ?_ | refine OP.lss rfl rfl rfl ?_ | refine OP.eql rfl rfl rfl ?_ | refine OP.gtr rfl rfl rfl ?_ | refine OP.eql2 rfl rfl rfl ?_ | refine OP.eqd rfl rfl rfl ?_ | refine OP.eqlb rfl rfl rfl ?_) | (show OP _ _ _ _ _ _ _ ⟨_, .unOp _ _ _, _, _, _, none⟩ _ _; first | refine OP.notd rfl rfl ?_ | refine OP.not rfl rfl ?_ | (refine OP.neg rfl rfl ?_ ?_ ?_; omega; omega)))
  all_goals refine Fin.ret1 (h0 := .inl rfl) rfl rfl ?_
  exact ⟨rfl, rfl⟩
set_option maxHeartbeats 1000000 in
theorem isNaNN_fn (w : World) : Does Tryd.prog 77 #[.float .f64 ntwo] [] w fun r Γ => r = .bool false ∧ Γ = [] := by
  refine Does.enter Tryd.func77 rfl Tryd.ntmps77 rfl (St.start w) ?_
  repeat' (first | refine Fin.tail ?_ | refine Fin.then_normal ?_ | refine Fin.then_exit ?_ | refine Fin.then_ret ?_ | refine Fin.block_normal ?_ | refine Fin.block_ret ?_ | refine Fin.block_hit ?_ | refine Fin.block_miss rfl ?_ | refine Fin.loop_exit ?_ | refine Fin.loop_ret ?_ | refine WP.seq ?_ | (refine WP.regionQ (by kernel_rfl) (by kernel_rfl) ?_) | refine WP.block ?_ | refine WP.region ?_ | refine WP.skip ?_ | refine WP.exit ?_ | refine WP.ret ?_ | refine WP.label ?_ | refine WP.cond_true rfl ?_ | refine WP.cond_false rfl ?_ | (refine WP.cond_dec rfl (fun h => ?_) (fun h => ?_) <;> (try (exfalso; omega))) | (refine WP.cond_bool rfl (fun h => ?_) (fun h => ?_)) | refine WL.nil ?_ | refine WL.cons ?_ | (show OP _ _ _ _ _ _ _ ⟨_, .move _, _, _, _, none⟩ _ _; first | refine OP.mI rfl rfl ?_ | refine OP.mB rfl rfl ?_ | refine OP.mC rfl rfl ?_ | refine OP.mF rfl rfl ?_ | refine OP.mS rfl rfl ?_ | refine OP.mP rfl rfl ?_ | refine OP.mA rfl rfl ?_ | refine OP.mT rfl rfl ?_ | refine OP.mM rfl rfl ?_ | refine OP.mU rfl rfl ?_ | refine OP.move rfl rfl ?_) | (show OP _ _ _ _ _ _ _ ⟨_, .assign _, _, _, _, none⟩ _ _; first | refine OP.aI rfl rfl ?_ | refine OP.aB rfl rfl ?_ | refine OP.aC rfl rfl ?_ | refine OP.aF rfl rfl ?_ | refine OP.aS rfl rfl ?_ | refine OP.aP rfl rfl ?_ | refine OP.aA rfl rfl ?_ | refine OP.aT rfl rfl ?_ | refine OP.aM rfl rfl ?_ | refine OP.aU rfl rfl ?_ | refine OP.assign rfl rfl ?_) | (show OP _ _ _ _ _ _ _ ⟨_, .binOp _ _ _ _ _, _, _, _, none⟩ _ _; first | refine OP.fcmpK (r := false) _ rfl rfl rfl rfl (by decide +kernel) ?_ | refine OP.neq rfl rfl rfl ?_ | refine OP.neq2 rfl rfl rfl ?_ | refine OP.neqd rfl rfl rfl ?_))
  all_goals refine Fin.ret1 (h0 := .inl rfl) rfl rfl ?_
  exact ⟨rfl, rfl⟩
set_option maxHeartbeats 1000000 in
theorem normN_fn (w : World) : Does Tryd.prog 78 #[.float .f64 ntwo] [] w fun r Γ => r = .tuple #[.float .f64 ntwo, .int .i64 0] ∧ Γ = [] := by
  refine Does.enter Tryd.func78 rfl Tryd.ntmps78 rfl (St.start w) ?_
  repeat' (first | refine Fin.tail ?_ | refine Fin.then_normal ?_ | refine Fin.then_exit ?_ | refine Fin.then_ret ?_ | refine Fin.block_normal ?_ | refine Fin.block_ret ?_ | refine Fin.block_hit ?_ | refine Fin.block_miss rfl ?_ | refine Fin.loop_exit ?_ | refine Fin.loop_ret ?_ | refine WP.seq ?_ | (refine WP.regionQ (by kernel_rfl) (by kernel_rfl) ?_) | refine WP.block ?_ | refine WP.region ?_ | refine WP.skip ?_ | refine WP.exit ?_ | refine WP.ret ?_ | refine WP.label ?_ | refine WP.cond_true rfl ?_ | refine WP.cond_false rfl ?_ | (refine WP.cond_dec rfl (fun h => ?_) (fun h => ?_) <;> (try (exfalso; omega))) | (refine WP.cond_bool rfl (fun h => ?_) (fun h => ?_)) | refine WL.nil ?_ | refine WL.cons ?_ | (show OP _ _ _ _ _ _ _ ⟨_, .move _, _, _, _, none⟩ _ _; first | refine OP.mI rfl rfl ?_ | refine OP.mB rfl rfl ?_ | refine OP.mC rfl rfl ?_ | refine OP.mF rfl rfl ?_ | refine OP.mS rfl rfl ?_ | refine OP.mP rfl rfl ?_ | refine OP.mA rfl rfl ?_ | refine OP.mT rfl rfl ?_ | refine OP.mM rfl rfl ?_ | refine OP.mU rfl rfl ?_ | refine OP.move rfl rfl ?_) | (show OP _ _ _ _ _ _ _ ⟨_, .assign _, _, _, _, none⟩ _ _; first | refine OP.aI rfl rfl ?_ | refine OP.aB rfl rfl ?_ | refine OP.aC rfl rfl ?_ | refine OP.aF rfl rfl ?_ | refine OP.aS rfl rfl ?_ | refine OP.aP rfl rfl ?_ | refine OP.aA rfl rfl ?_ | refine OP.aT rfl rfl ?_ | refine OP.aM rfl rfl ?_ | refine OP.aU rfl rfl ?_ | refine OP.assign rfl rfl ?_) | refine OP.callq _ rfl (fun w _ => absN_fn w) (fun _ _ h => h.1) ?_ | (show OP _ _ _ _ _ _ _ ⟨_, .binOp _ _ _ _ _, _, _, _, none⟩ _ _; first | refine OP.fcmpK (r := false) _ rfl rfl rfl rfl (by decide +kernel) ?_ | refine OP.lss rfl rfl rfl ?_ | (refine OP.mul rfl rfl rfl ?_ ?_ ?_; omega; omega)))
  all_goals refine Fin.ret2 (h0 := .inl rfl) rfl rfl rfl ?_
  exact ⟨rfl, rfl⟩
set_option maxHeartbeats 2000000 in
theorem ldexpN_fn (w : World) : Does Tryd.prog 67 #[.float .f64 ntwo, .int .i64 (-1)] [] w fun r Γ => r = .float .f64 none1 ∧ Γ = [] := by
  refine Does.enter Tryd.func67 rfl Tryd.ntmps67 rfl (St.start w) ?_
  repeat' (first | refine Fin.tail ?_ | refine Fin.then_normal ?_ | refine Fin.then_exit ?_ | refine Fin.then_ret ?_ | refine Fin.block_normal ?_ | refine Fin.block_ret ?_ | refine Fin.block_hit ?_ | refine Fin.block_miss rfl ?_ | refine Fin.loop_exit ?_ | refine Fin.loop_ret ?_ | refine WP.seq ?_ | (refine WP.regionQ (by kernel_rfl) (by kernel_rfl) ?_) | refine WP.block ?_ | refine WP.region ?_ | refine WP.skip ?_ | refine WP.exit ?_ | refine WP.ret ?_ | refine WP.label ?_ | refine WP.cond_true rfl ?_ | refine WP.cond_false rfl ?_ | (refine WP.cond_dec rfl (fun h => ?_) (fun h => ?_) <;> (try (exfalso; omega))) | (refine WP.cond_bool rfl (fun h => ?_) (fun h => ?_)) | refine WL.nil ?_ | refine WL.cons ?_ | (show OP _ _ _ _ _ _ _ ⟨_, _, _, _, _, some _⟩ _ _; first | refine OP.guard_yes rfl rfl ?_ | refine OP.guard_no rfl rfl rfl rfl ?_ | refine OP.guard_un rfl rfl rfl ?_ | refine OP.guard_no0 rfl rfl rfl ?_ | (refine OP.guard_dec rfl rfl (fun h => ?_) (fun h => ?_) <;> (try (exfalso; omega))) | refine OP.guard_bool rfl rfl (fun h => ?_) (fun h => ?_)) | (show OP _ _ _ _ _ _ _ ⟨_, .move _, _, _, _, none⟩ _ _; first | refine OP.mI rfl rfl ?_ | refine OP.mB rfl rfl ?_ | refine OP.mC rfl rfl ?_ | refine OP.mF rfl rfl ?_ | refine OP.mS rfl rfl ?_ | refine OP.mP rfl rfl ?_ | refine OP.mA rfl rfl ?_ | refine OP.mT rfl rfl ?_ | refine OP.mM rfl rfl ?_ | refine OP.mU rfl rfl ?_ | refine OP.move rfl rfl ?_) | (show OP _ _ _ _ _ _ _ ⟨_, .assign _, _, _, _, none⟩ _ _; first | refine OP.aI rfl rfl ?_ | refine OP.aB rfl rfl ?_ | refine OP.aC rfl rfl ?_ | refine OP.aF rfl rfl ?_ | refine OP.aS rfl rfl ?_ | refine OP.aP rfl rfl ?_ | refine OP.aA rfl rfl ?_ | refine OP.aT rfl rfl ?_ | refine OP.aM rfl rfl ?_ | refine OP.aU rfl rfl ?_ | refine OP.assign rfl rfl ?_) | (show OP _ _ _ _ _ _ _ ⟨_, .call _, _, _, _, none⟩ _ _; first | refine OP.callq _ rfl (fun w _ => isInfN_fn w) (fun _ _ h => h.1) ?_ | refine OP.callq _ rfl (fun w _ => isNaNN_fn w) (fun _ _ h => h.1) ?_ | refine OP.callq _ rfl (fun w _ => normN_fn w) (fun _ _ h => h.1) ?_ | refine OP.callx (f := 79) (.int .u64 ntwo) rfl rfl (fun w => by exact bits_bits ntwo w) ?_ | refine OP.callx (f := 81) (.float .f64 none1) rfl rfl (fun w => by exact bits_frombits none1 w) ?_) | (show OP _ _ _ _ _ _ _ ⟨_, .binOp _ _ _ _ _, _, _, _, none⟩ _ _; first | refine OP.fcmpK (r := false) _ rfl rfl rfl rfl (by decide +kernel) ?_ | refine OP.shrI (c := 52) rfl rfl rfl rfl (by decide) ?_ | refine OP.shlI (r := 4607182418800017408) (c := 52) rfl rfl rfl rfl (by decide) (by decide +kernel) ?_ | refine OP.bitop (r := 1024) (.inl rfl) rfl rfl rfl (by decide +kernel) ?_ | refine OP.bitop (r := 9223372036854775808) (.inr (.inr (.inr rfl))) rfl rfl rfl (by decide +kernel) ?_ | refine OP.bitop (r := none1) (.inr (.inl rfl)) rfl rfl rfl (by decide +kernel) ?_ | refine OP.farith (r := none1) rfl rfl rfl (by decide +kernel) ?_ | (refine OP.add rfl rfl rfl ?_ ?_ ?_; omega; omega) | (refine OP.sub rfl rfl rfl ?_ ?_ ?_; omega; omega) | refine OP.lss rfl rfl rfl ?_ | refine OP.eql rfl rfl rfl ?_ | refine OP.gtr rfl rfl rfl ?_ | refine OP.eql2 rfl rfl rfl ?_ | refine OP.eqd rfl rfl rfl ?_ | refine OP.eqlb rfl rfl rfl ?_ | (refine OP.mul rfl rfl rfl ?_ ?_ ?_; omega; omega)) | (show OP _ _ _ _ _ _ _ ⟨_, .convert _ _ _, _, _, _, none⟩ _ _; first | refine OP.convw rfl rfl ?_ | (refine OP.conv rfl rfl ?_ ?_ ?_; omega; omega)) | (show OP _ _ _ _ _ _ _ ⟨_, .pick _ _ _, _, _, _, none⟩ _ _; first | refine OP.pick_true rfl rfl ?_ | refine OP.pick_false rfl rfl ?_) | refine OP.extract rfl rfl rfl ?_)
  all_goals refine Fin.ret1 (h0 := .inl rfl) rfl rfl ?_
  all_goals exact ⟨rfl, rfl⟩
set_option maxHeartbeats 1000000 in
theorem LdexpN_fn (w : World) : Does Tryd.prog 49 #[.float .f64 ntwo, .int .i64 (-1)] [] w fun r Γ => r = .float .f64 none1 ∧ Γ = [] := by
  refine Does.enter Tryd.func49 rfl Tryd.ntmps49 rfl (St.start w) ?_
  repeat' (first | refine Fin.tail ?_ | refine Fin.then_normal ?_ | refine Fin.then_exit ?_ | refine Fin.then_ret ?_ | refine Fin.block_normal ?_ | refine Fin.block_ret ?_ | refine Fin.block_hit ?_ | refine Fin.block_miss rfl ?_ | refine Fin.loop_exit ?_ | refine Fin.loop_ret ?_ | refine WP.seq ?_ | (refine WP.regionQ (by kernel_rfl) (by kernel_rfl) ?_) | refine WP.block ?_ | refine WP.region ?_ | refine WP.skip ?_ | refine WP.exit ?_ | refine WP.ret ?_ | refine WP.label ?_ | refine WP.cond_true rfl ?_ | refine WP.cond_false rfl ?_ | (refine WP.cond_dec rfl (fun h => ?_) (fun h => ?_) <;> (try (exfalso; omega))) | (refine WP.cond_bool rfl (fun h => ?_) (fun h => ?_)) | refine WL.nil ?_ | refine WL.cons ?_ | (show OP _ _ _ _ _ _ _ ⟨_, .move _, _, _, _, none⟩ _ _; first | refine OP.mI rfl rfl ?_ | refine OP.mB rfl rfl ?_ | refine OP.mC rfl rfl ?_ | refine OP.mF rfl rfl ?_ | refine OP.mS rfl rfl ?_ | refine OP.mP rfl rfl ?_ | refine OP.mA rfl rfl ?_ | refine OP.mT rfl rfl ?_ | refine OP.mM rfl rfl ?_ | refine OP.mU rfl rfl ?_ | refine OP.move rfl rfl ?_) | (show OP _ _ _ _ _ _ _ ⟨_, .assign _, _, _, _, none⟩ _ _; first | refine OP.aI rfl rfl ?_ | refine OP.aB rfl rfl ?_ | refine OP.aC rfl rfl ?_ | refine OP.aF rfl rfl ?_ | refine OP.aS rfl rfl ?_ | refine OP.aP rfl rfl ?_ | refine OP.aA rfl rfl ?_ | refine OP.aT rfl rfl ?_ | refine OP.aM rfl rfl ?_ | refine OP.aU rfl rfl ?_ | refine OP.assign rfl rfl ?_) | refine OP.callq _ rfl (fun w _ => ldexpN_fn w) (fun _ _ h => h.1) ?_)
  all_goals refine Fin.ret1 (h0 := .inl rfl) rfl rfl ?_
  all_goals exact ⟨rfl, rfl⟩
set_option maxHeartbeats 1000000 in
theorem sclN_fn (b : Nat) (w : World) (hc : w.cell? ⟨b, 0, none⟩ = some (.int .i64 (-1))) : Does Tryd.prog 48 #[.float .f64 ntwo, .pointer (some ⟨b, 0, none⟩)] [] w fun r Γ => r = .float .f64 none1 ∧ Γ = [] := by
  refine Does.enter Tryd.func48 rfl Tryd.ntmps48 rfl (St.start w) ?_
  repeat' (first | refine Fin.tail ?_ | refine Fin.then_normal ?_ | refine Fin.then_exit ?_ | refine Fin.then_ret ?_ | refine Fin.block_normal ?_ | refine Fin.block_ret ?_ | refine Fin.block_hit ?_ | refine Fin.block_miss rfl ?_ | refine Fin.loop_exit ?_ | refine Fin.loop_ret ?_ | refine WP.seq ?_ | (refine WP.regionQ (by kernel_rfl) (by kernel_rfl) ?_) | refine WP.block ?_ | refine WP.region ?_ | refine WP.skip ?_ | refine WP.exit ?_ | refine WP.ret ?_ | refine WP.label ?_ | refine WP.cond_true rfl ?_ | refine WP.cond_false rfl ?_ | (refine WP.cond_dec rfl (fun h => ?_) (fun h => ?_) <;> (try (exfalso; omega))) | (refine WP.cond_bool rfl (fun h => ?_) (fun h => ?_)) | refine WL.nil ?_ | refine WL.cons ?_ | (show OP _ _ _ _ _ _ _ ⟨_, .move _, _, _, _, none⟩ _ _; first | refine OP.mI rfl rfl ?_ | refine OP.mB rfl rfl ?_ | refine OP.mC rfl rfl ?_ | refine OP.mF rfl rfl ?_ | refine OP.mS rfl rfl ?_ | refine OP.mP rfl rfl ?_ | refine OP.mA rfl rfl ?_ | refine OP.mT rfl rfl ?_ | refine OP.mM rfl rfl ?_ | refine OP.mU rfl rfl ?_ | refine OP.move rfl rfl ?_) | (show OP _ _ _ _ _ _ _ ⟨_, .assign _, _, _, _, none⟩ _ _; first | refine OP.aI rfl rfl ?_ | refine OP.aB rfl rfl ?_ | refine OP.aC rfl rfl ?_ | refine OP.aF rfl rfl ?_ | refine OP.aS rfl rfl ?_ | refine OP.aP rfl rfl ?_ | refine OP.aA rfl rfl ?_ | refine OP.aT rfl rfl ?_ | refine OP.aM rfl rfl ?_ | refine OP.aU rfl rfl ?_ | refine OP.assign rfl rfl ?_) | refine OP.callq _ rfl (fun w _ => LdexpN_fn w) (fun _ _ h => h.1) ?_ | (show OP _ _ _ _ _ _ _ ⟨_, .load _ _, _, _, _, none⟩ _ _; first | refine OP.ld rfl rfl inferInstance rfl ?_ | refine OP.load rfl rfl (Sees.old0 (by assumption)) ?_ | refine OP.ldA rfl rfl inferInstance rfl ?_))
  all_goals refine Fin.ret1 (h0 := .inl rfl) rfl rfl ?_
  all_goals exact ⟨rfl, rfl⟩
set_option maxHeartbeats 1000000 in
theorem eachN_fn (b : Nat) (w : World) (hc : w.cell? ⟨b, 0, none⟩ = some (.int .i64 (-1))) : Does Tryd.prog 47 #[.complex .f64 ntwo 0, .func (.func 48) #[] #[.pointer (some ⟨b, 0, none⟩)]] [] w fun v Γ => v = .complex .f64 none1 0 ∧ Γ = [] := by
  refine Does.enter Tryd.func47 rfl Tryd.ntmps47 rfl (St.start w) ?_
  repeat' (first | refine Fin.tail ?_ | refine Fin.then_normal ?_ | refine Fin.then_exit ?_ | refine Fin.then_ret ?_ | refine Fin.block_normal ?_ | refine Fin.block_ret ?_ | refine Fin.block_hit ?_ | refine Fin.block_miss rfl ?_ | refine Fin.loop_exit ?_ | refine Fin.loop_ret ?_ | refine WP.seq ?_ | (refine WP.regionQ (by kernel_rfl) (by kernel_rfl) ?_) | refine WP.block ?_ | refine WP.region ?_ | refine WP.skip ?_ | refine WP.exit ?_ | refine WP.ret ?_ | refine WP.label ?_ | refine WP.cond_true rfl ?_ | refine WP.cond_false rfl ?_ | (refine WP.cond_dec rfl (fun h => ?_) (fun h => ?_) <;> (try (exfalso; omega))) | (refine WP.cond_bool rfl (fun h => ?_) (fun h => ?_)) | refine WL.nil ?_ | refine WL.cons ?_ | (show OP _ _ _ _ _ _ _ ⟨_, .move _, _, _, _, none⟩ _ _; first | refine OP.mI rfl rfl ?_ | refine OP.mB rfl rfl ?_ | refine OP.mC rfl rfl ?_ | refine OP.mF rfl rfl ?_ | refine OP.mS rfl rfl ?_ | refine OP.mP rfl rfl ?_ | refine OP.mA rfl rfl ?_ | refine OP.mT rfl rfl ?_ | refine OP.mM rfl rfl ?_ | refine OP.mU rfl rfl ?_ | refine OP.move rfl rfl ?_) | (show OP _ _ _ _ _ _ _ ⟨_, .assign _, _, _, _, none⟩ _ _; first | refine OP.aI rfl rfl ?_ | refine OP.aB rfl rfl ?_ | refine OP.aC rfl rfl ?_ | refine OP.aF rfl rfl ?_ | refine OP.aS rfl rfl ?_ | refine OP.aP rfl rfl ?_ | refine OP.aA rfl rfl ?_ | refine OP.aT rfl rfl ?_ | refine OP.aM rfl rfl ?_ | refine OP.aU rfl rfl ?_ | refine OP.assign rfl rfl ?_) | (show OP _ _ _ _ _ _ _ ⟨_, .call _, _, _, _, none⟩ _ _; first | refine OP.callvq (f := 48) (.float .f64 none1) rfl rfl rfl (fun w' hst => sclN_fn b w' (hst.old hc (by simp))) (fun _ _ h => h.1) ?_ | refine OP.callvq (f := 48) (.float .f64 0) rfl rfl rfl (fun w' hst => scl0_fn b w' (hst.old hc (by simp))) (fun _ _ h => h.1) ?_ | refine OP.real rfl rfl ?_ | refine OP.imag rfl rfl ?_ | refine OP.complex rfl rfl rfl ?_))
  all_goals refine Fin.ret1 (h0 := .inl rfl) rfl rfl ?_
  exact ⟨rfl, rfl⟩
set_option maxHeartbeats 1000000 in
theorem ScaleN_fn (w : World) : Does Tryd.prog 29 #[.complex .f64 ntwo 0, .int .i64 (-1)] [] w fun v Γ => v = .complex .f64 none1 0 ∧ Γ = [] := by
  refine Does.enter Tryd.func29 rfl Tryd.ntmps29 rfl (St.start w) ?_
  repeat' (first | (refine OP.store0 (vs := [.int .i64 (-1)]) rfl rfl rfl rfl rfl ?_) | refine Fin.tail ?_ | refine Fin.then_normal ?_ | refine Fin.then_exit ?_ | refine Fin.then_ret ?_ | refine Fin.block_normal ?_ | refine Fin.block_ret ?_ | refine Fin.block_hit ?_ | refine Fin.block_miss rfl ?_ | refine Fin.loop_exit ?_ | refine Fin.loop_ret ?_ | refine WP.seq ?_ | (refine WP.regionQ (by kernel_rfl) (by kernel_rfl) ?_) | refine WP.block ?_ | refine WP.region ?_ | refine WP.skip ?_ | refine WP.exit ?_ | refine WP.ret ?_ | refine WP.label ?_ | refine WP.cond_true rfl ?_ | refine WP.cond_false rfl ?_ | (refine WP.cond_dec rfl (fun h => ?_) (fun h => ?_) <;> (try (exfalso; omega))) | (refine WP.cond_bool rfl (fun h => ?_) (fun h => ?_)) | refine WL.nil ?_ | refine WL.cons ?_ | (show OP _ _ _ _ _ _ _ ⟨_, .move _, _, _, _, none⟩ _ _; first | refine OP.mI rfl rfl ?_ | refine OP.mB rfl rfl ?_ | refine OP.mC rfl rfl ?_ | refine OP.mF rfl rfl ?_ | refine OP.mS rfl rfl ?_ | refine OP.mP rfl rfl ?_ | refine OP.mA rfl rfl ?_ | refine OP.mT rfl rfl ?_ | refine OP.mM rfl rfl ?_ | refine OP.mU rfl rfl ?_ | refine OP.move rfl rfl ?_) | (show OP _ _ _ _ _ _ _ ⟨_, .assign _, _, _, _, none⟩ _ _; first | refine OP.aI rfl rfl ?_ | refine OP.aB rfl rfl ?_ | refine OP.aC rfl rfl ?_ | refine OP.aF rfl rfl ?_ | refine OP.aS rfl rfl ?_ | refine OP.aP rfl rfl ?_ | refine OP.aA rfl rfl ?_ | refine OP.aT rfl rfl ?_ | refine OP.aM rfl rfl ?_ | refine OP.aU rfl rfl ?_ | refine OP.assign rfl rfl ?_) | (show OP _ _ _ _ _ _ _ ⟨_, .call _, _, _, _, none⟩ _ _; first | refine OP.callq (.complex .f64 none1 0) rfl (fun w' hst => eachN_fn bx w' ((Sees.own (List.Mem.head _) rfl).out w' hst)) (fun _ _ h => h.1) ?_ | refine OP.max2 rfl rfl rfl ?_ | refine OP.min2 rfl rfl rfl ?_) | (show OP _ _ _ _ _ _ _ ⟨_, .load _ _, _, _, _, none⟩ _ _; first | refine OP.ld rfl rfl inferInstance rfl ?_ | refine OP.load rfl rfl (Sees.old0 (by assumption)) ?_ | refine OP.ldA rfl rfl inferInstance rfl ?_) | (show OP _ _ _ _ _ _ _ ⟨_, .store _ _ _, _, _, _, none⟩ _ _; first | refine OP.stI rfl rfl inferInstance rfl ?_ | refine OP.stB rfl rfl inferInstance rfl ?_ | refine OP.stC rfl rfl inferInstance rfl ?_ | refine OP.stF rfl rfl inferInstance rfl ?_ | refine OP.stS rfl rfl inferInstance rfl ?_ | refine OP.stP rfl rfl inferInstance rfl ?_ | refine OP.stM rfl rfl inferInstance rfl ?_ | refine OP.stU rfl rfl inferInstance rfl ?_ | refine OP.st (vs := [_]) rfl rfl inferInstance rfl rfl rfl ?_ | refine OP.st (vs := [_, _]) rfl rfl inferInstance rfl rfl rfl ?_ | refine OP.st (vs := [_, _, _]) rfl rfl inferInstance rfl rfl rfl ?_) | (show OP _ _ _ _ _ _ _ ⟨_, .box _ _, _, _, _, none⟩ _ _; first | refine OP.bxI rfl rfl (fun bx => ?_) | refine OP.bxB rfl rfl (fun bx => ?_) | refine OP.bxC rfl rfl (fun bx => ?_) | refine OP.bxF rfl rfl (fun bx => ?_) | refine OP.bxS rfl rfl (fun bx => ?_) | refine OP.bxP rfl rfl (fun bx => ?_) | refine OP.bxA rfl rfl (fun bx => ?_) | refine OP.bxM rfl rfl (fun bx => ?_) | refine OP.bxU rfl rfl (fun bx => ?_) | refine OP.box rfl rfl (fun bx => ?_)) | refine OP.makeFunc rfl ?_)
  all_goals refine Fin.drop (List.nil_sublist _) ?_
  all_goals refine Fin.ret1 (h0 := .inl rfl) rfl rfl ?_
  all_goals exact ⟨rfl, rfl⟩
end Go.Proofs.YtjckoflcjkajiaaDoor
end
section
/- Filtering one number, and alive, walked. %compact -/
set_option linter.unusedVariables false
set_option maxRecDepth 100000
namespace Go.Wav
open Go.Flt Go.Pen
def four : Nat := 4616189618054758400
theorem apF : forwardC 1 [(four, 0), (0, 0)] = some [(four, 0), (four, 0)] := by decide +kernel
theorem apW : wgtsC 2 1 = some [0, half] := by decide +kernel
theorem apW2 : wgtsC 2 2 = some [0, 4598175219545276416, half, 4598175219545276416] := by decide +kernel
def apY (k : Nat) : List Cx := match k with | 0 => [(four, 0), (four, 0)] | 1 => [(0, 0), (four, 0)] | _ => [(0, 0), (two, 0)]
def apS (a : Cx) : Cx := if a = (two, 0) then (one, 0) else (none1, 0)
end Go.Wav
namespace Go.Proofs.YtjckoflcjkajiaaDoor
open Go.Pen Go.Flt Go.Wav
theorem apB : backC 1 [(0, 0), (two, 0)] = some [(two, 0), (ntwo, 0)] := by decide +kernel
theorem apSc : ∀ a ∈ [((two, 0) : Cx), (ntwo, 0)], ∀ w, Does Tryd.prog 29 #[.complex .f64 a.1 a.2, .int .i64 (-((1 : Nat) : Int))] [] w fun v Γ => v = .complex .f64 (apS a).1 (apS a).2 ∧ Γ = [] := by
  intro a ha w
  rcases List.mem_cons.1 ha with rfl | ha
  · exact Scale2_fn w
  · rcases List.mem_cons.1 ha with rfl | ha
    · exact ScaleN_fn w
    · cases ha
theorem lenV1 : lenV 1 = .tuple #[.int .i64 2, .int .i64 0] := by
  unfold lenV
  rw [if_pos (by decide)]
  have : lenN (2 * Int.toNat 1 - 1) = 1 := by decide +kernel
  rw [this]; rfl
set_option maxHeartbeats 4000000 in
theorem Apply_fn (b c : Nat) (w : World) (hr : RdC w b 0 [(four, 0)]) (hT : TzT w) :
    Does Tryd.prog 22 #[.slice (some ⟨b, 0, none⟩) 1 c, .int .i64 2] [] w fun v Γ => ∃ q, v = .tuple #[.slice (some ⟨q, 0, none⟩) 1 1, .int .i64 0] ∧ Γ = [(q, .cells (cxs [(one, 0), (none1, 0)] ++ []).toArray 31 (0, 0))] := by
  have hF := fun b o c w hr hT => Forward_fn 1 (by decide) [(four, 0), (0, 0)] _ rfl apF b o c w hr hT
  have hB := fun b o c w hr hT => Back_fn 1 (by decide) [(0, 0), (two, 0)] _ rfl apB apS apSc b o c w hr hT
  have hW := fun w => Weights_fn 1 (by decide) 2 (by decide) _ apW w
  rw [show 2 ^ 1 = 2 from rfl] at hF hB
  simp only [show 2 ^ 1 = 2 from rfl] at hW
  have mk : (cxs [((0, 0) : Cx), (0, 0)] ++ []).toArray = Array.replicate 2 (Value.complex .f64 0 0) := rfl
  have hcp : (cxs [((four, 0) : Cx)] ++ (cxs [((0, 0) : Cx), (0, 0)] ++ []).drop (cxs [((four, 0) : Cx)]).length).toArray = (cxs [((four, 0) : Cx), (0, 0)] ++ []).toArray := rfl
  refine Does.enter Tryd.func22 rfl Tryd.ntmps22 rfl (St.start w) ?_
  repeat' (first | refine Fin.tail ?_ | refine Fin.then_normal ?_ | refine Fin.then_exit ?_ | refine Fin.then_ret ?_ | refine Fin.block_normal ?_ | refine Fin.block_ret ?_ | refine Fin.block_hit ?_ | refine Fin.block_miss rfl ?_ | refine Fin.loop_exit ?_ | refine Fin.loop_ret ?_ | refine WP.seq ?_ | (refine WP.regionQ (by kernel_rfl) (by kernel_rfl) ?_) | refine WP.block ?_ | refine WP.region ?_ | refine WP.skip ?_ | refine WP.exit ?_ | refine WP.ret ?_ | refine WP.label ?_ | refine WP.cond_true rfl ?_ | refine WP.cond_false rfl ?_ | (refine WP.cond_dec rfl (fun h => ?_) (fun h => ?_) <;> (try (exfalso; omega))) | (refine WP.cond_bool rfl (fun h => ?_) (fun h => ?_)) | refine WL.nil ?_ | refine WL.cons ?_ | (show OP _ _ _ _ _ _ _ ⟨_, .move _, _, _, _, none⟩ _ _; first | refine OP.mI rfl rfl ?_ | refine OP.mB rfl rfl ?_ | refine OP.mC rfl rfl ?_ | refine OP.mF rfl rfl ?_ | refine OP.mS rfl rfl ?_ | refine OP.mP rfl rfl ?_ | refine OP.mA rfl rfl ?_ | refine OP.mT rfl rfl ?_ | refine OP.mM rfl rfl ?_ | refine OP.mU rfl rfl ?_ | refine OP.move rfl rfl ?_) | (show OP _ _ _ _ _ _ _ ⟨_, .assign _, _, _, _, none⟩ _ _; first | refine OP.aI rfl rfl ?_ | refine OP.aB rfl rfl ?_ | refine OP.aC rfl rfl ?_ | refine OP.aF rfl rfl ?_ | refine OP.aS rfl rfl ?_ | refine OP.aP rfl rfl ?_ | refine OP.aA rfl rfl ?_ | refine OP.aT rfl rfl ?_ | refine OP.aM rfl rfl ?_ | refine OP.aU rfl rfl ?_ | refine OP.assign rfl rfl ?_) | (show OP _ _ _ _ _ _ _ ⟨_, .call _, _, _, _, none⟩ _ _; first | refine OP.callq (.tuple #[.int .i64 2, .int .i64 0]) rfl (fun w' _ => FLength_fn 1 w') (fun _ _ h => h.1.trans lenV1) ?_ | (refine OP.call rfl (fun w' _ => hW w') (fun _ _ hR => ?_); obtain ⟨wb, rfl, rfl⟩ := hR) | refine OP.len rfl rfl rfl ?_ | refine OP.real rfl rfl ?_ | refine OP.imag rfl rfl ?_ | refine OP.complex rfl rfl rfl ?_) | (show OP _ _ _ _ _ _ _ ⟨_, .binOp _ _ _ _ _, _, _, _, none⟩ _ _; first | (refine OP.add rfl rfl rfl ?_ ?_ ?_; omega; omega) | refine OP.lss rfl rfl rfl ?_ | refine OP.neq rfl rfl rfl ?_ | refine OP.neq2 rfl rfl rfl ?_ | refine OP.neqd rfl rfl rfl ?_ | (refine OP.mul rfl rfl rfl ?_ ?_ ?_; omega; omega)) | refine OP.extract rfl rfl rfl ?_ | (show OP _ _ _ _ _ _ _ ⟨_, .load _ _, _, _, _, none⟩ _ _; first | refine OP.ld rfl rfl inferInstance rfl ?_ | refine OP.load rfl rfl (Sees.old0 (by assumption)) ?_ | refine OP.ldA rfl rfl inferInstance rfl ?_) | (show OP _ _ _ _ _ _ _ ⟨_, .store _ _ _, _, _, _, none⟩ _ _; first | refine OP.stI rfl rfl inferInstance rfl ?_ | refine OP.stB rfl rfl inferInstance rfl ?_ | refine OP.stC rfl rfl inferInstance rfl ?_ | refine OP.stF rfl rfl inferInstance rfl ?_ | refine OP.stS rfl rfl inferInstance rfl ?_ | refine OP.stP rfl rfl inferInstance rfl ?_ | refine OP.stM rfl rfl inferInstance rfl ?_ | refine OP.stU rfl rfl inferInstance rfl ?_ | refine OP.st (vs := [_]) rfl rfl inferInstance rfl rfl rfl ?_ | refine OP.st (vs := [_, _]) rfl rfl inferInstance rfl rfl rfl ?_ | refine OP.st (vs := [_, _, _]) rfl rfl inferInstance rfl rfl rfl ?_))
  refine OP.make1 (z := .complex .f64 0 0) (l := 2) rfl rfl rfl rfl rfl (by omega) (by omega) (fun g => ?_)
  rw [← mk]
  repeat' (first | refine Fin.tail ?_ | refine Fin.then_normal ?_ | refine Fin.then_exit ?_ | refine Fin.then_ret ?_ | refine Fin.block_normal ?_ | refine Fin.block_ret ?_ | refine Fin.block_hit ?_ | refine Fin.block_miss rfl ?_ | refine Fin.loop_exit ?_ | refine Fin.loop_ret ?_ | refine WP.seq ?_ | (refine WP.regionQ (by kernel_rfl) (by kernel_rfl) ?_) | refine WP.block ?_ | refine WP.region ?_ | refine WP.skip ?_ | refine WP.exit ?_ | refine WP.ret ?_ | refine WP.label ?_ | refine WP.cond_true rfl ?_ | refine WP.cond_false rfl ?_ | (refine WP.cond_dec rfl (fun h => ?_) (fun h => ?_) <;> (try (exfalso; omega))) | (refine WP.cond_bool rfl (fun h => ?_) (fun h => ?_)) | refine WL.nil ?_ | refine WL.cons ?_ | (show OP _ _ _ _ _ _ _ ⟨_, .move _, _, _, _, none⟩ _ _; first | refine OP.mI rfl rfl ?_ | refine OP.mB rfl rfl ?_ | refine OP.mC rfl rfl ?_ | refine OP.mF rfl rfl ?_ | refine OP.mS rfl rfl ?_ | refine OP.mP rfl rfl ?_ | refine OP.mA rfl rfl ?_ | refine OP.mT rfl rfl ?_ | refine OP.mM rfl rfl ?_ | refine OP.mU rfl rfl ?_ | refine OP.move rfl rfl ?_) | (show OP _ _ _ _ _ _ _ ⟨_, .assign _, _, _, _, none⟩ _ _; first | refine OP.aI rfl rfl ?_ | refine OP.aB rfl rfl ?_ | refine OP.aC rfl rfl ?_ | refine OP.aF rfl rfl ?_ | refine OP.aS rfl rfl ?_ | refine OP.aP rfl rfl ?_ | refine OP.aA rfl rfl ?_ | refine OP.aT rfl rfl ?_ | refine OP.aM rfl rfl ?_ | refine OP.aU rfl rfl ?_ | refine OP.assign rfl rfl ?_) | (show OP _ _ _ _ _ _ _ ⟨_, .call _, _, _, _, none⟩ _ _; first | (refine OP.copy1 (vs := cxs [((four, 0) : Cx)]) (cur := cxs [((0, 0) : Cx), (0, 0)] ++ []) rfl rfl rfl rfl rfl (by decide) (cxs_sees hr _) (cxs_one _) ?_; rw [hcp]) | (refine OP.call rfl (fun w' hst => hF _ _ _ w' (RdC.own hst (List.Mem.head _)) (hT.over hst (by simp))) (fun _ _ hR => ?_); obtain ⟨y, rfl, rfl⟩ := hR) | refine OP.len rfl rfl rfl ?_ | refine OP.real rfl rfl ?_ | refine OP.imag rfl rfl ?_ | refine OP.complex rfl rfl rfl ?_) | (show OP _ _ _ _ _ _ _ ⟨_, .binOp _ _ _ _ _, _, _, _, none⟩ _ _; first | (refine OP.add rfl rfl rfl ?_ ?_ ?_; omega; omega) | refine OP.lss rfl rfl rfl ?_ | refine OP.neq rfl rfl rfl ?_ | refine OP.neq2 rfl rfl rfl ?_ | refine OP.neqd rfl rfl rfl ?_ | (refine OP.mul rfl rfl rfl ?_ ?_ ?_; omega; omega)) | refine OP.extract rfl rfl rfl ?_ | (show OP _ _ _ _ _ _ _ ⟨_, .load _ _, _, _, _, none⟩ _ _; first | refine OP.ld rfl rfl inferInstance rfl ?_ | refine OP.load rfl rfl (Sees.old0 (by assumption)) ?_ | refine OP.ldA rfl rfl inferInstance rfl ?_) | (show OP _ _ _ _ _ _ _ ⟨_, .store _ _ _, _, _, _, none⟩ _ _; first | refine OP.stI rfl rfl inferInstance rfl ?_ | refine OP.stB rfl rfl inferInstance rfl ?_ | refine OP.stC rfl rfl inferInstance rfl ?_ | refine OP.stF rfl rfl inferInstance rfl ?_ | refine OP.stS rfl rfl inferInstance rfl ?_ | refine OP.stP rfl rfl inferInstance rfl ?_ | refine OP.stM rfl rfl inferInstance rfl ?_ | refine OP.stU rfl rfl inferInstance rfl ?_ | refine OP.st (vs := [_]) rfl rfl inferInstance rfl rfl rfl ?_ | refine OP.st (vs := [_, _]) rfl rfl inferInstance rfl rfl rfl ?_ | refine OP.st (vs := [_, _, _]) rfl rfl inferInstance rfl rfl rfl ?_))
  refine WP.loop [11, 12, 47, 48, 49, 50, 51, 52, 53, 54, 55, 56, 57, 58, 59, 60, 61, 62, 63, 64, 65, 66, 67, 68, 69, 70] (fun k : Nat => [(47, .int .i64 k)]) (fun k => [(y, .cells (cxs (apY k) ++ []).toArray 31 (0, 0)), (g, .cells (cxs [((four, 0) : Cx), (0, 0)] ++ []).toArray 31 (0, 0)), (wb, .cells (fls [0, half] ++ []).toArray 41 (0, 0))]) (fun k => k ≤ 2) (fun k => 2 - k) 0 (by omega) rfl ⟨rfl, trivial⟩ ?_
  rintro k jk k1
  dsimp only [updL]
  rcases (by omega : k = 0 ∨ k = 1 ∨ k = 2) with rfl | rfl | rfl
  · have st : setN (cxs (apY 0) ++ []).toArray (0 + 0 * 1) [.complex .f64 0 0] = (cxs (apY 1) ++ []).toArray := rfl
    repeat' (first | refine OP.indexAddr (j := 0) rfl rfl rfl rfl (by decide) ?_ | (show WP _ _ _ _ _ (.region 15 _ _) _ _; refine WP.regionH [_] [_, _] rfl (by kernel_rfl) ?_) | refine Fin.tail ?_ | refine Fin.then_normal ?_ | refine Fin.then_exit ?_ | refine Fin.then_ret ?_ | refine Fin.block_normal ?_ | refine Fin.block_ret ?_ | refine Fin.block_hit ?_ | refine Fin.block_miss rfl ?_ | refine Fin.loop_exit ?_ | refine Fin.loop_ret ?_ | refine WP.seq ?_ | (refine WP.regionQ (by kernel_rfl) (by kernel_rfl) ?_) | refine WP.block ?_ | refine WP.region ?_ | refine WP.skip ?_ | refine WP.exit ?_ | refine WP.ret ?_ | refine WP.label ?_ | refine WP.cond_true rfl ?_ | refine WP.cond_false rfl ?_ | (refine WP.cond_dec rfl (fun h => ?_) (fun h => ?_) <;> (try (exfalso; omega))) | (refine WP.cond_bool rfl (fun h => ?_) (fun h => ?_)) | refine WL.nil ?_ | refine WL.cons ?_ | (show OP _ _ _ _ _ _ _ ⟨_, .move _, _, _, _, none⟩ _ _; first | refine OP.mI rfl rfl ?_ | refine OP.mB rfl rfl ?_ | refine OP.mC rfl rfl ?_ | refine OP.mF rfl rfl ?_ | refine OP.mS rfl rfl ?_ | refine OP.mP rfl rfl ?_ | refine OP.mA rfl rfl ?_ | refine OP.mT rfl rfl ?_ | refine OP.mM rfl rfl ?_ | refine OP.mU rfl rfl ?_ | refine OP.move rfl rfl ?_) | (show OP _ _ _ _ _ _ _ ⟨_, .assign _, _, _, _, none⟩ _ _; first | refine OP.aI rfl rfl ?_ | refine OP.aB rfl rfl ?_ | refine OP.aC rfl rfl ?_ | refine OP.aF rfl rfl ?_ | refine OP.aS rfl rfl ?_ | refine OP.aP rfl rfl ?_ | refine OP.aA rfl rfl ?_ | refine OP.aT rfl rfl ?_ | refine OP.aM rfl rfl ?_ | refine OP.aU rfl rfl ?_ | refine OP.assign rfl rfl ?_) | (show OP _ _ _ _ _ _ _ ⟨_, .call _, _, _, _, none⟩ _ _; first | refine OP.len rfl rfl rfl ?_ | refine OP.real rfl rfl ?_ | refine OP.imag rfl rfl ?_ | refine OP.complex rfl rfl rfl ?_) | (show OP _ _ _ _ _ _ _ ⟨_, .binOp _ _ _ _ _, _, _, _, none⟩ _ _; first | (refine OP.add rfl rfl rfl ?_ ?_ ?_; omega; omega) | refine OP.lss rfl rfl rfl ?_ | refine OP.neq rfl rfl rfl ?_ | refine OP.neq2 rfl rfl rfl ?_ | refine OP.neqd rfl rfl rfl ?_ | (refine OP.mul rfl rfl rfl ?_ ?_ ?_; omega; omega)) | refine OP.extract rfl rfl rfl ?_ | (show OP _ _ _ _ _ _ _ ⟨_, .load _ _, _, _, _, none⟩ _ _; first | refine OP.ld rfl rfl inferInstance rfl ?_ | refine OP.load rfl rfl (Sees.old0 (by assumption)) ?_ | refine OP.ldA rfl rfl inferInstance rfl ?_) | (show OP _ _ _ _ _ _ _ ⟨_, .store _ _ _, _, _, _, none⟩ _ _; first | refine OP.stI rfl rfl inferInstance rfl ?_ | refine OP.stB rfl rfl inferInstance rfl ?_ | refine OP.stC rfl rfl inferInstance rfl ?_ | refine OP.stF rfl rfl inferInstance rfl ?_ | refine OP.stS rfl rfl inferInstance rfl ?_ | refine OP.stP rfl rfl inferInstance rfl ?_ | refine OP.stM rfl rfl inferInstance rfl ?_ | refine OP.stU rfl rfl inferInstance rfl ?_ | refine OP.st (vs := [_]) rfl rfl inferInstance rfl rfl rfl ?_ | refine OP.st (vs := [_, _]) rfl rfl inferInstance rfl rfl rfl ?_ | refine OP.st (vs := [_, _, _]) rfl rfl inferInstance rfl rfl rfl ?_))
    refine WH.take (i := 0) rfl (by kernel_rfl) (by kernel_rfl) (by kernel_rfl) rfl ?_
    (first | refine OP.indexAddr (j := 0) rfl rfl rfl rfl (by decide) ?_ | (refine OP.store0 (vs := [.complex .f64 0 0]) rfl rfl rfl rfl rfl ?_; rw [st]) | refine OP.mI rfl rfl ?_ | refine OP.mB rfl rfl ?_ | refine OP.mC rfl rfl ?_ | refine OP.mF rfl rfl ?_ | refine OP.mS rfl rfl ?_ | refine OP.mP rfl rfl ?_ | refine OP.mA rfl rfl ?_ | refine OP.mT rfl rfl ?_ | refine OP.mM rfl rfl ?_ | refine OP.mU rfl rfl ?_ | refine OP.move rfl rfl ?_)
    refine WH.take (i := 1) rfl (by kernel_rfl) (by kernel_rfl) (by kernel_rfl) rfl ?_
    (first | refine OP.indexAddr (j := 0) rfl rfl rfl rfl (by decide) ?_ | (refine OP.store0 (vs := [.complex .f64 0 0]) rfl rfl rfl rfl rfl ?_; rw [st]) | refine OP.mI rfl rfl ?_ | refine OP.mB rfl rfl ?_ | refine OP.mC rfl rfl ?_ | refine OP.mF rfl rfl ?_ | refine OP.mS rfl rfl ?_ | refine OP.mP rfl rfl ?_ | refine OP.mA rfl rfl ?_ | refine OP.mT rfl rfl ?_ | refine OP.mM rfl rfl ?_ | refine OP.mU rfl rfl ?_ | refine OP.move rfl rfl ?_)
    refine WH.take (i := 2) rfl (by kernel_rfl) (by kernel_rfl) (by kernel_rfl) rfl ?_
    (first | refine OP.indexAddr (j := 0) rfl rfl rfl rfl (by decide) ?_ | (refine OP.store0 (vs := [.complex .f64 0 0]) rfl rfl rfl rfl rfl ?_; rw [st]) | refine OP.mI rfl rfl ?_ | refine OP.mB rfl rfl ?_ | refine OP.mC rfl rfl ?_ | refine OP.mF rfl rfl ?_ | refine OP.mS rfl rfl ?_ | refine OP.mP rfl rfl ?_ | refine OP.mA rfl rfl ?_ | refine OP.mT rfl rfl ?_ | refine OP.mM rfl rfl ?_ | refine OP.mU rfl rfl ?_ | refine OP.move rfl rfl ?_)
    refine WH.take (i := 3) rfl (by kernel_rfl) (by kernel_rfl) (by kernel_rfl) rfl ?_
    (first | refine OP.indexAddr (j := 0) rfl rfl rfl rfl (by decide) ?_ | (refine OP.store0 (vs := [.complex .f64 0 0]) rfl rfl rfl rfl rfl ?_; rw [st]) | refine OP.mI rfl rfl ?_ | refine OP.mB rfl rfl ?_ | refine OP.mC rfl rfl ?_ | refine OP.mF rfl rfl ?_ | refine OP.mS rfl rfl ?_ | refine OP.mP rfl rfl ?_ | refine OP.mA rfl rfl ?_ | refine OP.mT rfl rfl ?_ | refine OP.mM rfl rfl ?_ | refine OP.mU rfl rfl ?_ | refine OP.move rfl rfl ?_)
    refine WH.take (i := 4) rfl (by kernel_rfl) (by kernel_rfl) (by kernel_rfl) rfl ?_
    (first | refine OP.indexAddr (j := 0) rfl rfl rfl rfl (by decide) ?_ | (refine OP.store0 (vs := [.complex .f64 0 0]) rfl rfl rfl rfl rfl ?_; rw [st]))
    refine WH.take (i := 7) rfl (by kernel_rfl) (by kernel_rfl) (by kernel_rfl) rfl ?_
    (first | refine OP.indexAddr (j := 0) rfl rfl rfl rfl (by decide) ?_ | (refine OP.store0 (vs := [.complex .f64 0 0]) rfl rfl rfl rfl rfl ?_; rw [st]) | refine OP.mI rfl rfl ?_ | refine OP.mB rfl rfl ?_ | refine OP.mC rfl rfl ?_ | refine OP.mF rfl rfl ?_ | refine OP.mS rfl rfl ?_ | refine OP.mP rfl rfl ?_ | refine OP.mA rfl rfl ?_ | refine OP.mT rfl rfl ?_ | refine OP.mM rfl rfl ?_ | refine OP.mU rfl rfl ?_ | refine OP.move rfl rfl ?_)
    refine WH.take (i := 9) rfl (by kernel_rfl) (by kernel_rfl) (by kernel_rfl) rfl ?_
    (first | refine OP.indexAddr (j := 0) rfl rfl rfl rfl (by decide) ?_ | (refine OP.store0 (vs := [.complex .f64 0 0]) rfl rfl rfl rfl rfl ?_; rw [st]) | refine OP.mI rfl rfl ?_ | refine OP.mB rfl rfl ?_ | refine OP.mC rfl rfl ?_ | refine OP.mF rfl rfl ?_ | refine OP.mS rfl rfl ?_ | refine OP.mP rfl rfl ?_ | refine OP.mA rfl rfl ?_ | refine OP.mT rfl rfl ?_ | refine OP.mM rfl rfl ?_ | refine OP.mU rfl rfl ?_ | refine OP.move rfl rfl ?_)
    refine WH.take (i := 10) rfl (by kernel_rfl) (by kernel_rfl) (by kernel_rfl) rfl ?_
    (first | refine OP.indexAddr (j := 0) rfl rfl rfl rfl (by decide) ?_ | (refine OP.store0 (vs := [.complex .f64 0 0]) rfl rfl rfl rfl rfl ?_; rw [st]) | refine OP.mI rfl rfl ?_ | refine OP.mB rfl rfl ?_ | refine OP.mC rfl rfl ?_ | refine OP.mF rfl rfl ?_ | refine OP.mS rfl rfl ?_ | refine OP.mP rfl rfl ?_ | refine OP.mA rfl rfl ?_ | refine OP.mT rfl rfl ?_ | refine OP.mM rfl rfl ?_ | refine OP.mU rfl rfl ?_ | refine OP.move rfl rfl ?_)
    refine WH.take (i := 11) rfl (by kernel_rfl) (by kernel_rfl) (by kernel_rfl) rfl ?_
    (first | refine OP.indexAddr (j := 0) rfl rfl rfl rfl (by decide) ?_ | (refine OP.store0 (vs := [.complex .f64 0 0]) rfl rfl rfl rfl rfl ?_; rw [st]))
    refine WH.take (i := 14) rfl (by kernel_rfl) (by kernel_rfl) (by kernel_rfl) rfl ?_
    (first | refine OP.indexAddr (j := 0) rfl rfl rfl rfl (by decide) ?_ | (refine OP.store0 (vs := [.complex .f64 0 0]) rfl rfl rfl rfl rfl ?_; rw [st]) | refine OP.mI rfl rfl ?_ | refine OP.mB rfl rfl ?_ | refine OP.mC rfl rfl ?_ | refine OP.mF rfl rfl ?_ | refine OP.mS rfl rfl ?_ | refine OP.mP rfl rfl ?_ | refine OP.mA rfl rfl ?_ | refine OP.mT rfl rfl ?_ | refine OP.mM rfl rfl ?_ | refine OP.mU rfl rfl ?_ | refine OP.move rfl rfl ?_)
    refine WH.step (rs := [5, 12]) (by kernel_rfl) rfl (all_cons ⟨_, rfl, ?_⟩ (all_cons ⟨_, rfl, ?_⟩ all_nil))
    (first | refine OP.indexAddr (j := 0) rfl rfl rfl rfl (by decide) ?_ | (refine OP.store0 (vs := [.complex .f64 0 0]) rfl rfl rfl rfl rfl ?_; rw [st]) | refine OP.ld rfl rfl inferInstance rfl ?_ | refine OP.load rfl rfl (Sees.old0 (by assumption)) ?_ | refine OP.ldA rfl rfl inferInstance rfl ?_)
    refine next.mk (_ :: []) rfl ?_
    refine WH.take (i := 6) rfl (by kernel_rfl) (by kernel_rfl) (by kernel_rfl) rfl ?_
    (first | refine OP.indexAddr (j := 0) rfl rfl rfl rfl (by decide) ?_ | (refine OP.store0 (vs := [.complex .f64 0 0]) rfl rfl rfl rfl rfl ?_; rw [st]) | refine OP.real rfl rfl ?_)
    refine WH.take (i := 8) rfl (by kernel_rfl) (by kernel_rfl) (by kernel_rfl) rfl ?_
    (first | refine OP.indexAddr (j := 0) rfl rfl rfl rfl (by decide) ?_ | (refine OP.store0 (vs := [.complex .f64 0 0]) rfl rfl rfl rfl rfl ?_; rw [st]) | refine OP.farith (r := 0) rfl rfl rfl (by decide +kernel) ?_ | (refine OP.mul rfl rfl rfl ?_ ?_ ?_; omega; omega))
    refine WH.step (rs := [12]) (by kernel_rfl) rfl (all_cons ⟨_, rfl, ?_⟩ all_nil)
    (first | refine OP.indexAddr (j := 0) rfl rfl rfl rfl (by decide) ?_ | (refine OP.store0 (vs := [.complex .f64 0 0]) rfl rfl rfl rfl rfl ?_; rw [st]) | refine OP.ld rfl rfl inferInstance rfl ?_ | refine OP.load rfl rfl (Sees.old0 (by assumption)) ?_ | refine OP.ldA rfl rfl inferInstance rfl ?_)
    refine next.mk (_ :: []) rfl ?_
    refine WH.take (i := 13) rfl (by kernel_rfl) (by kernel_rfl) (by kernel_rfl) rfl ?_
    (first | refine OP.indexAddr (j := 0) rfl rfl rfl rfl (by decide) ?_ | (refine OP.store0 (vs := [.complex .f64 0 0]) rfl rfl rfl rfl rfl ?_; rw [st]) | refine OP.imag rfl rfl ?_)
    refine WH.take (i := 15) rfl (by kernel_rfl) (by kernel_rfl) (by kernel_rfl) rfl ?_
    (first | refine OP.indexAddr (j := 0) rfl rfl rfl rfl (by decide) ?_ | (refine OP.store0 (vs := [.complex .f64 0 0]) rfl rfl rfl rfl rfl ?_; rw [st]) | refine OP.farith (r := 0) rfl rfl rfl (by decide +kernel) ?_ | (refine OP.mul rfl rfl rfl ?_ ?_ ?_; omega; omega))
    refine WH.take (i := 16) rfl (by kernel_rfl) (by kernel_rfl) (by kernel_rfl) rfl ?_
    (first | refine OP.indexAddr (j := 0) rfl rfl rfl rfl (by decide) ?_ | (refine OP.store0 (vs := [.complex .f64 0 0]) rfl rfl rfl rfl rfl ?_; rw [st]) | refine OP.complex rfl rfl rfl ?_)
    refine WH.take (i := 17) rfl (by kernel_rfl) (by kernel_rfl) (by kernel_rfl) rfl ?_
    (first | refine OP.indexAddr (j := 0) rfl rfl rfl rfl (by decide) ?_ | (refine OP.store0 (vs := [.complex .f64 0 0]) rfl rfl rfl rfl rfl ?_; rw [st]))
    refine WH.step (rs := [18]) (by kernel_rfl) rfl (all_cons ⟨_, rfl, ?_⟩ all_nil)
    (first | refine OP.indexAddr (j := 0) rfl rfl rfl rfl (by decide) ?_ | (refine OP.store0 (vs := [.complex .f64 0 0]) rfl rfl rfl rfl rfl ?_; rw [st]) | refine OP.stI rfl rfl inferInstance rfl ?_ | refine OP.stB rfl rfl inferInstance rfl ?_ | refine OP.stC rfl rfl inferInstance rfl ?_ | refine OP.stF rfl rfl inferInstance rfl ?_ | refine OP.stS rfl rfl inferInstance rfl ?_ | refine OP.stP rfl rfl inferInstance rfl ?_ | refine OP.stM rfl rfl inferInstance rfl ?_ | refine OP.stU rfl rfl inferInstance rfl ?_ | refine OP.st (vs := [_]) rfl rfl inferInstance rfl rfl rfl ?_ | refine OP.st (vs := [_, _]) rfl rfl inferInstance rfl rfl rfl ?_ | refine OP.st (vs := [_, _, _]) rfl rfl inferInstance rfl rfl rfl ?_)
    refine next.mk (_ :: []) rfl ?_
    refine WH.done (by kernel_rfl) ?_
    rotate_left
    (first | refine OP.indexAddr (j := 0) rfl rfl rfl rfl (by decide) ?_ | (refine OP.store0 (vs := [.complex .f64 0 0]) rfl rfl rfl rfl rfl ?_; rw [st]) | refine OP.ld rfl rfl inferInstance rfl ?_ | refine OP.load rfl rfl (Sees.old0 (by assumption)) ?_ | refine OP.ldA rfl rfl inferInstance rfl ?_)
    refine next.mk (_ :: []) rfl ?_
    refine WH.take (i := 13) rfl (by kernel_rfl) (by kernel_rfl) (by kernel_rfl) rfl ?_
    (first | refine OP.indexAddr (j := 0) rfl rfl rfl rfl (by decide) ?_ | (refine OP.store0 (vs := [.complex .f64 0 0]) rfl rfl rfl rfl rfl ?_; rw [st]) | refine OP.imag rfl rfl ?_)
    refine WH.take (i := 15) rfl (by kernel_rfl) (by kernel_rfl) (by kernel_rfl) rfl ?_
    (first | refine OP.indexAddr (j := 0) rfl rfl rfl rfl (by decide) ?_ | (refine OP.store0 (vs := [.complex .f64 0 0]) rfl rfl rfl rfl rfl ?_; rw [st]) | refine OP.farith (r := 0) rfl rfl rfl (by decide +kernel) ?_ | (refine OP.mul rfl rfl rfl ?_ ?_ ?_; omega; omega))
    refine WH.step (rs := [5]) (by kernel_rfl) rfl (all_cons ⟨_, rfl, ?_⟩ all_nil)
    (first | refine OP.indexAddr (j := 0) rfl rfl rfl rfl (by decide) ?_ | (refine OP.store0 (vs := [.complex .f64 0 0]) rfl rfl rfl rfl rfl ?_; rw [st]) | refine OP.ld rfl rfl inferInstance rfl ?_ | refine OP.load rfl rfl (Sees.old0 (by assumption)) ?_ | refine OP.ldA rfl rfl inferInstance rfl ?_)
    refine next.mk (_ :: []) rfl ?_
    refine WH.take (i := 6) rfl (by kernel_rfl) (by kernel_rfl) (by kernel_rfl) rfl ?_
    (first | refine OP.indexAddr (j := 0) rfl rfl rfl rfl (by decide) ?_ | (refine OP.store0 (vs := [.complex .f64 0 0]) rfl rfl rfl rfl rfl ?_; rw [st]) | refine OP.real rfl rfl ?_)
    refine WH.take (i := 8) rfl (by kernel_rfl) (by kernel_rfl) (by kernel_rfl) rfl ?_
    (first | refine OP.indexAddr (j := 0) rfl rfl rfl rfl (by decide) ?_ | (refine OP.store0 (vs := [.complex .f64 0 0]) rfl rfl rfl rfl rfl ?_; rw [st]) | refine OP.farith (r := 0) rfl rfl rfl (by decide +kernel) ?_ | (refine OP.mul rfl rfl rfl ?_ ?_ ?_; omega; omega))
    refine WH.take (i := 16) rfl (by kernel_rfl) (by kernel_rfl) (by kernel_rfl) rfl ?_
    (first | refine OP.indexAddr (j := 0) rfl rfl rfl rfl (by decide) ?_ | (refine OP.store0 (vs := [.complex .f64 0 0]) rfl rfl rfl rfl rfl ?_; rw [st]) | refine OP.complex rfl rfl rfl ?_)
    refine WH.take (i := 17) rfl (by kernel_rfl) (by kernel_rfl) (by kernel_rfl) rfl ?_
    (first | refine OP.indexAddr (j := 0) rfl rfl rfl rfl (by decide) ?_ | (refine OP.store0 (vs := [.complex .f64 0 0]) rfl rfl rfl rfl rfl ?_; rw [st]))
    refine WH.step (rs := [18]) (by kernel_rfl) rfl (all_cons ⟨_, rfl, ?_⟩ all_nil)
    (first | refine OP.indexAddr (j := 0) rfl rfl rfl rfl (by decide) ?_ | (refine OP.store0 (vs := [.complex .f64 0 0]) rfl rfl rfl rfl rfl ?_; rw [st]) | refine OP.stI rfl rfl inferInstance rfl ?_ | refine OP.stB rfl rfl inferInstance rfl ?_ | refine OP.stC rfl rfl inferInstance rfl ?_ | refine OP.stF rfl rfl inferInstance rfl ?_ | refine OP.stS rfl rfl inferInstance rfl ?_ | refine OP.stP rfl rfl inferInstance rfl ?_ | refine OP.stM rfl rfl inferInstance rfl ?_ | refine OP.stU rfl rfl inferInstance rfl ?_ | refine OP.st (vs := [_]) rfl rfl inferInstance rfl rfl rfl ?_ | refine OP.st (vs := [_, _]) rfl rfl inferInstance rfl rfl rfl ?_ | refine OP.st (vs := [_, _, _]) rfl rfl inferInstance rfl rfl rfl ?_)
    refine next.mk (_ :: []) rfl ?_
    refine WH.done (by kernel_rfl) ?_
    rotate_left
    all_goals repeat' (first | refine Fin.tail ?_ | refine Fin.then_normal ?_ | refine Fin.then_exit ?_ | refine Fin.then_ret ?_ | refine Fin.block_normal ?_ | refine Fin.block_ret ?_ | refine Fin.block_hit ?_ | refine Fin.block_miss rfl ?_ | refine Fin.loop_exit ?_ | refine Fin.loop_ret ?_ | refine WP.seq ?_ | (refine WP.regionQ (by kernel_rfl) (by kernel_rfl) ?_) | refine WP.block ?_ | refine WP.region ?_ | refine WP.skip ?_ | refine WP.exit ?_ | refine WP.ret ?_ | refine WP.label ?_ | refine WP.cond_true rfl ?_ | refine WP.cond_false rfl ?_ | (refine WP.cond_dec rfl (fun h => ?_) (fun h => ?_) <;> (try (exfalso; omega))) | (refine WP.cond_bool rfl (fun h => ?_) (fun h => ?_)) | refine WL.nil ?_ | refine WL.cons ?_ | (show OP _ _ _ _ _ _ _ ⟨_, .move _, _, _, _, none⟩ _ _; first | refine OP.mI rfl rfl ?_ | refine OP.mB rfl rfl ?_ | refine OP.mC rfl rfl ?_ | refine OP.mF rfl rfl ?_ | refine OP.mS rfl rfl ?_ | refine OP.mP rfl rfl ?_ | refine OP.mA rfl rfl ?_ | refine OP.mT rfl rfl ?_ | refine OP.mM rfl rfl ?_ | refine OP.mU rfl rfl ?_ | refine OP.move rfl rfl ?_) | (show OP _ _ _ _ _ _ _ ⟨_, .assign _, _, _, _, none⟩ _ _; first | refine OP.aI rfl rfl ?_ | refine OP.aB rfl rfl ?_ | refine OP.aC rfl rfl ?_ | refine OP.aF rfl rfl ?_ | refine OP.aS rfl rfl ?_ | refine OP.aP rfl rfl ?_ | refine OP.aA rfl rfl ?_ | refine OP.aT rfl rfl ?_ | refine OP.aM rfl rfl ?_ | refine OP.aU rfl rfl ?_ | refine OP.assign rfl rfl ?_) | (show OP _ _ _ _ _ _ _ ⟨_, .call _, _, _, _, none⟩ _ _; first | refine OP.len rfl rfl rfl ?_ | refine OP.real rfl rfl ?_ | refine OP.imag rfl rfl ?_ | refine OP.complex rfl rfl rfl ?_) | (show OP _ _ _ _ _ _ _ ⟨_, .binOp _ _ _ _ _, _, _, _, none⟩ _ _; first | (refine OP.add rfl rfl rfl ?_ ?_ ?_; omega; omega) | refine OP.lss rfl rfl rfl ?_ | refine OP.neq rfl rfl rfl ?_ | refine OP.neq2 rfl rfl rfl ?_ | refine OP.neqd rfl rfl rfl ?_ | (refine OP.mul rfl rfl rfl ?_ ?_ ?_; omega; omega)) | refine OP.extract rfl rfl rfl ?_ | (show OP _ _ _ _ _ _ _ ⟨_, .load _ _, _, _, _, none⟩ _ _; first | refine OP.ld rfl rfl inferInstance rfl ?_ | refine OP.load rfl rfl (Sees.old0 (by assumption)) ?_ | refine OP.ldA rfl rfl inferInstance rfl ?_) | (show OP _ _ _ _ _ _ _ ⟨_, .store _ _ _, _, _, _, none⟩ _ _; first | refine OP.stI rfl rfl inferInstance rfl ?_ | refine OP.stB rfl rfl inferInstance rfl ?_ | refine OP.stC rfl rfl inferInstance rfl ?_ | refine OP.stF rfl rfl inferInstance rfl ?_ | refine OP.stS rfl rfl inferInstance rfl ?_ | refine OP.stP rfl rfl inferInstance rfl ?_ | refine OP.stM rfl rfl inferInstance rfl ?_ | refine OP.stU rfl rfl inferInstance rfl ?_ | refine OP.st (vs := [_]) rfl rfl inferInstance rfl rfl rfl ?_ | refine OP.st (vs := [_, _]) rfl rfl inferInstance rfl rfl rfl ?_ | refine OP.st (vs := [_, _, _]) rfl rfl inferInstance rfl rfl rfl ?_))
    all_goals refine Fin.loop_normal fun w' hst => ⟨1, by omega, by omega, by (repeat' (first | exact Agree.refl _ _ | refine Agree.upd rfl ?_ | refine Agree.hav rfl ?_)), ⟨rfl, trivial⟩, hst⟩
  · have st : setN (cxs (apY 1) ++ []).toArray (0 + 1 * 1) [.complex .f64 two 0] = (cxs (apY 2) ++ []).toArray := rfl
    repeat' (first | refine OP.indexAddr (j := 1) rfl rfl rfl rfl (by decide) ?_ | (show WP _ _ _ _ _ (.region 15 _ _) _ _; refine WP.regionH [_] [_, _] rfl (by kernel_rfl) ?_) | refine Fin.tail ?_ | refine Fin.then_normal ?_ | refine Fin.then_exit ?_ | refine Fin.then_ret ?_ | refine Fin.block_normal ?_ | refine Fin.block_ret ?_ | refine Fin.block_hit ?_ | refine Fin.block_miss rfl ?_ | refine Fin.loop_exit ?_ | refine Fin.loop_ret ?_ | refine WP.seq ?_ | (refine WP.regionQ (by kernel_rfl) (by kernel_rfl) ?_) | refine WP.block ?_ | refine WP.region ?_ | refine WP.skip ?_ | refine WP.exit ?_ | refine WP.ret ?_ | refine WP.label ?_ | refine WP.cond_true rfl ?_ | refine WP.cond_false rfl ?_ | (refine WP.cond_dec rfl (fun h => ?_) (fun h => ?_) <;> (try (exfalso; omega))) | (refine WP.cond_bool rfl (fun h => ?_) (fun h => ?_)) | refine WL.nil ?_ | refine WL.cons ?_ | (show OP _ _ _ _ _ _ _ ⟨_, .move _, _, _, _, none⟩ _ _; first | refine OP.mI rfl rfl ?_ | refine OP.mB rfl rfl ?_ | refine OP.mC rfl rfl ?_ | refine OP.mF rfl rfl ?_ | refine OP.mS rfl rfl ?_ | refine OP.mP rfl rfl ?_ | refine OP.mA rfl rfl ?_ | refine OP.mT rfl rfl ?_ | refine OP.mM rfl rfl ?_ | refine OP.mU rfl rfl ?_ | refine OP.move rfl rfl ?_) | (show OP _ _ _ _ _ _ _ ⟨_, .assign _, _, _, _, none⟩ _ _; first | refine OP.aI rfl rfl ?_ | refine OP.aB rfl rfl ?_ | refine OP.aC rfl rfl ?_ | refine OP.aF rfl rfl ?_ | refine OP.aS rfl rfl ?_ | refine OP.aP rfl rfl ?_ | refine OP.aA rfl rfl ?_ | refine OP.aT rfl rfl ?_ | refine OP.aM rfl rfl ?_ | refine OP.aU rfl rfl ?_ | refine OP.assign rfl rfl ?_) | (show OP _ _ _ _ _ _ _ ⟨_, .call _, _, _, _, none⟩ _ _; first | refine OP.len rfl rfl rfl ?_ | refine OP.real rfl rfl ?_ | refine OP.imag rfl rfl ?_ | refine OP.complex rfl rfl rfl ?_) | (show OP _ _ _ _ _ _ _ ⟨_, .binOp _ _ _ _ _, _, _, _, none⟩ _ _; first | (refine OP.add rfl rfl rfl ?_ ?_ ?_; omega; omega) | refine OP.lss rfl rfl rfl ?_ | refine OP.neq rfl rfl rfl ?_ | refine OP.neq2 rfl rfl rfl ?_ | refine OP.neqd rfl rfl rfl ?_ | (refine OP.mul rfl rfl rfl ?_ ?_ ?_; omega; omega)) | refine OP.extract rfl rfl rfl ?_ | (show OP _ _ _ _ _ _ _ ⟨_, .load _ _, _, _, _, none⟩ _ _; first | refine OP.ld rfl rfl inferInstance rfl ?_ | refine OP.load rfl rfl (Sees.old0 (by assumption)) ?_ | refine OP.ldA rfl rfl inferInstance rfl ?_) | (show OP _ _ _ _ _ _ _ ⟨_, .store _ _ _, _, _, _, none⟩ _ _; first | refine OP.stI rfl rfl inferInstance rfl ?_ | refine OP.stB rfl rfl inferInstance rfl ?_ | refine OP.stC rfl rfl inferInstance rfl ?_ | refine OP.stF rfl rfl inferInstance rfl ?_ | refine OP.stS rfl rfl inferInstance rfl ?_ | refine OP.stP rfl rfl inferInstance rfl ?_ | refine OP.stM rfl rfl inferInstance rfl ?_ | refine OP.stU rfl rfl inferInstance rfl ?_ | refine OP.st (vs := [_]) rfl rfl inferInstance rfl rfl rfl ?_ | refine OP.st (vs := [_, _]) rfl rfl inferInstance rfl rfl rfl ?_ | refine OP.st (vs := [_, _, _]) rfl rfl inferInstance rfl rfl rfl ?_))
    refine WH.take (i := 0) rfl (by kernel_rfl) (by kernel_rfl) (by kernel_rfl) rfl ?_
    (first | refine OP.indexAddr (j := 1) rfl rfl rfl rfl (by decide) ?_ | (refine OP.store0 (vs := [.complex .f64 two 0]) rfl rfl rfl rfl rfl ?_; rw [st]) | refine OP.mI rfl rfl ?_ | refine OP.mB rfl rfl ?_ | refine OP.mC rfl rfl ?_ | refine OP.mF rfl rfl ?_ | refine OP.mS rfl rfl ?_ | refine OP.mP rfl rfl ?_ | refine OP.mA rfl rfl ?_ | refine OP.mT rfl rfl ?_ | refine OP.mM rfl rfl ?_ | refine OP.mU rfl rfl ?_ | refine OP.move rfl rfl ?_)
    refine WH.take (i := 1) rfl (by kernel_rfl) (by kernel_rfl) (by kernel_rfl) rfl ?_
    (first | refine OP.indexAddr (j := 1) rfl rfl rfl rfl (by decide) ?_ | (refine OP.store0 (vs := [.complex .f64 two 0]) rfl rfl rfl rfl rfl ?_; rw [st]) | refine OP.mI rfl rfl ?_ | refine OP.mB rfl rfl ?_ | refine OP.mC rfl rfl ?_ | refine OP.mF rfl rfl ?_ | refine OP.mS rfl rfl ?_ | refine OP.mP rfl rfl ?_ | refine OP.mA rfl rfl ?_ | refine OP.mT rfl rfl ?_ | refine OP.mM rfl rfl ?_ | refine OP.mU rfl rfl ?_ | refine OP.move rfl rfl ?_)
    refine WH.take (i := 2) rfl (by kernel_rfl) (by kernel_rfl) (by kernel_rfl) rfl ?_
    (first | refine OP.indexAddr (j := 1) rfl rfl rfl rfl (by decide) ?_ | (refine OP.store0 (vs := [.complex .f64 two 0]) rfl rfl rfl rfl rfl ?_; rw [st]) | refine OP.mI rfl rfl ?_ | refine OP.mB rfl rfl ?_ | refine OP.mC rfl rfl ?_ | refine OP.mF rfl rfl ?_ | refine OP.mS rfl rfl ?_ | refine OP.mP rfl rfl ?_ | refine OP.mA rfl rfl ?_ | refine OP.mT rfl rfl ?_ | refine OP.mM rfl rfl ?_ | refine OP.mU rfl rfl ?_ | refine OP.move rfl rfl ?_)
    refine WH.take (i := 3) rfl (by kernel_rfl) (by kernel_rfl) (by kernel_rfl) rfl ?_
    (first | refine OP.indexAddr (j := 1) rfl rfl rfl rfl (by decide) ?_ | (refine OP.store0 (vs := [.complex .f64 two 0]) rfl rfl rfl rfl rfl ?_; rw [st]) | refine OP.mI rfl rfl ?_ | refine OP.mB rfl rfl ?_ | refine OP.mC rfl rfl ?_ | refine OP.mF rfl rfl ?_ | refine OP.mS rfl rfl ?_ | refine OP.mP rfl rfl ?_ | refine OP.mA rfl rfl ?_ | refine OP.mT rfl rfl ?_ | refine OP.mM rfl rfl ?_ | refine OP.mU rfl rfl ?_ | refine OP.move rfl rfl ?_)
    refine WH.take (i := 4) rfl (by kernel_rfl) (by kernel_rfl) (by kernel_rfl) rfl ?_
    (first | refine OP.indexAddr (j := 1) rfl rfl rfl rfl (by decide) ?_ | (refine OP.store0 (vs := [.complex .f64 two 0]) rfl rfl rfl rfl rfl ?_; rw [st]))
    refine WH.take (i := 7) rfl (by kernel_rfl) (by kernel_rfl) (by kernel_rfl) rfl ?_
    (first | refine OP.indexAddr (j := 1) rfl rfl rfl rfl (by decide) ?_ | (refine OP.store0 (vs := [.complex .f64 two 0]) rfl rfl rfl rfl rfl ?_; rw [st]) | refine OP.mI rfl rfl ?_ | refine OP.mB rfl rfl ?_ | refine OP.mC rfl rfl ?_ | refine OP.mF rfl rfl ?_ | refine OP.mS rfl rfl ?_ | refine OP.mP rfl rfl ?_ | refine OP.mA rfl rfl ?_ | refine OP.mT rfl rfl ?_ | refine OP.mM rfl rfl ?_ | refine OP.mU rfl rfl ?_ | refine OP.move rfl rfl ?_)
    refine WH.take (i := 9) rfl (by kernel_rfl) (by kernel_rfl) (by kernel_rfl) rfl ?_
    (first | refine OP.indexAddr (j := 1) rfl rfl rfl rfl (by decide) ?_ | (refine OP.store0 (vs := [.complex .f64 two 0]) rfl rfl rfl rfl rfl ?_; rw [st]) | refine OP.mI rfl rfl ?_ | refine OP.mB rfl rfl ?_ | refine OP.mC rfl rfl ?_ | refine OP.mF rfl rfl ?_ | refine OP.mS rfl rfl ?_ | refine OP.mP rfl rfl ?_ | refine OP.mA rfl rfl ?_ | refine OP.mT rfl rfl ?_ | refine OP.mM rfl rfl ?_ | refine OP.mU rfl rfl ?_ | refine OP.move rfl rfl ?_)
    refine WH.take (i := 10) rfl (by kernel_rfl) (by kernel_rfl) (by kernel_rfl) rfl ?_
    (first | refine OP.indexAddr (j := 1) rfl rfl rfl rfl (by decide) ?_ | (refine OP.store0 (vs := [.complex .f64 two 0]) rfl rfl rfl rfl rfl ?_; rw [st]) | refine OP.mI rfl rfl ?_ | refine OP.mB rfl rfl ?_ | refine OP.mC rfl rfl ?_ | refine OP.mF rfl rfl ?_ | refine OP.mS rfl rfl ?_ | refine OP.mP rfl rfl ?_ | refine OP.mA rfl rfl ?_ | refine OP.mT rfl rfl ?_ | refine OP.mM rfl rfl ?_ | refine OP.mU rfl rfl ?_ | refine OP.move rfl rfl ?_)
    refine WH.take (i := 11) rfl (by kernel_rfl) (by kernel_rfl) (by kernel_rfl) rfl ?_
    (first | refine OP.indexAddr (j := 1) rfl rfl rfl rfl (by decide) ?_ | (refine OP.store0 (vs := [.complex .f64 two 0]) rfl rfl rfl rfl rfl ?_; rw [st]))
    refine WH.take (i := 14) rfl (by kernel_rfl) (by kernel_rfl) (by kernel_rfl) rfl ?_
    (first | refine OP.indexAddr (j := 1) rfl rfl rfl rfl (by decide) ?_ | (refine OP.store0 (vs := [.complex .f64 two 0]) rfl rfl rfl rfl rfl ?_; rw [st]) | refine OP.mI rfl rfl ?_ | refine OP.mB rfl rfl ?_ | refine OP.mC rfl rfl ?_ | refine OP.mF rfl rfl ?_ | refine OP.mS rfl rfl ?_ | refine OP.mP rfl rfl ?_ | refine OP.mA rfl rfl ?_ | refine OP.mT rfl rfl ?_ | refine OP.mM rfl rfl ?_ | refine OP.mU rfl rfl ?_ | refine OP.move rfl rfl ?_)
    refine WH.step (rs := [5, 12]) (by kernel_rfl) rfl (all_cons ⟨_, rfl, ?_⟩ (all_cons ⟨_, rfl, ?_⟩ all_nil))
    (first | refine OP.indexAddr (j := 1) rfl rfl rfl rfl (by decide) ?_ | (refine OP.store0 (vs := [.complex .f64 two 0]) rfl rfl rfl rfl rfl ?_; rw [st]) | refine OP.ld rfl rfl inferInstance rfl ?_ | refine OP.load rfl rfl (Sees.old0 (by assumption)) ?_ | refine OP.ldA rfl rfl inferInstance rfl ?_)
    refine next.mk (_ :: []) rfl ?_
    refine WH.take (i := 6) rfl (by kernel_rfl) (by kernel_rfl) (by kernel_rfl) rfl ?_
    (first | refine OP.indexAddr (j := 1) rfl rfl rfl rfl (by decide) ?_ | (refine OP.store0 (vs := [.complex .f64 two 0]) rfl rfl rfl rfl rfl ?_; rw [st]) | refine OP.real rfl rfl ?_)
    refine WH.take (i := 8) rfl (by kernel_rfl) (by kernel_rfl) (by kernel_rfl) rfl ?_
    (first | refine OP.indexAddr (j := 1) rfl rfl rfl rfl (by decide) ?_ | (refine OP.store0 (vs := [.complex .f64 two 0]) rfl rfl rfl rfl rfl ?_; rw [st]) | refine OP.farith (r := two) rfl rfl rfl (by decide +kernel) ?_ | refine OP.farith (r := 0) rfl rfl rfl (by decide +kernel) ?_ | (refine OP.mul rfl rfl rfl ?_ ?_ ?_; omega; omega))
    refine WH.step (rs := [12]) (by kernel_rfl) rfl (all_cons ⟨_, rfl, ?_⟩ all_nil)
    (first | refine OP.indexAddr (j := 1) rfl rfl rfl rfl (by decide) ?_ | (refine OP.store0 (vs := [.complex .f64 two 0]) rfl rfl rfl rfl rfl ?_; rw [st]) | refine OP.ld rfl rfl inferInstance rfl ?_ | refine OP.load rfl rfl (Sees.old0 (by assumption)) ?_ | refine OP.ldA rfl rfl inferInstance rfl ?_)
    refine next.mk (_ :: []) rfl ?_
    refine WH.take (i := 13) rfl (by kernel_rfl) (by kernel_rfl) (by kernel_rfl) rfl ?_
    (first | refine OP.indexAddr (j := 1) rfl rfl rfl rfl (by decide) ?_ | (refine OP.store0 (vs := [.complex .f64 two 0]) rfl rfl rfl rfl rfl ?_; rw [st]) | refine OP.imag rfl rfl ?_)
    refine WH.take (i := 15) rfl (by kernel_rfl) (by kernel_rfl) (by kernel_rfl) rfl ?_
    (first | refine OP.indexAddr (j := 1) rfl rfl rfl rfl (by decide) ?_ | (refine OP.store0 (vs := [.complex .f64 two 0]) rfl rfl rfl rfl rfl ?_; rw [st]) | refine OP.farith (r := two) rfl rfl rfl (by decide +kernel) ?_ | refine OP.farith (r := 0) rfl rfl rfl (by decide +kernel) ?_ | (refine OP.mul rfl rfl rfl ?_ ?_ ?_; omega; omega))
    refine WH.take (i := 16) rfl (by kernel_rfl) (by kernel_rfl) (by kernel_rfl) rfl ?_
    (first | refine OP.indexAddr (j := 1) rfl rfl rfl rfl (by decide) ?_ | (refine OP.store0 (vs := [.complex .f64 two 0]) rfl rfl rfl rfl rfl ?_; rw [st]) | refine OP.complex rfl rfl rfl ?_)
    refine WH.take (i := 17) rfl (by kernel_rfl) (by kernel_rfl) (by kernel_rfl) rfl ?_
    (first | refine OP.indexAddr (j := 1) rfl rfl rfl rfl (by decide) ?_ | (refine OP.store0 (vs := [.complex .f64 two 0]) rfl rfl rfl rfl rfl ?_; rw [st]))
    refine WH.step (rs := [18]) (by kernel_rfl) rfl (all_cons ⟨_, rfl, ?_⟩ all_nil)
    (first | refine OP.indexAddr (j := 1) rfl rfl rfl rfl (by decide) ?_ | (refine OP.store0 (vs := [.complex .f64 two 0]) rfl rfl rfl rfl rfl ?_; rw [st]) | refine OP.stI rfl rfl inferInstance rfl ?_ | refine OP.stB rfl rfl inferInstance rfl ?_ | refine OP.stC rfl rfl inferInstance rfl ?_ | refine OP.stF rfl rfl inferInstance rfl ?_ | refine OP.stS rfl rfl inferInstance rfl ?_ | refine OP.stP rfl rfl inferInstance rfl ?_ | refine OP.stM rfl rfl inferInstance rfl ?_ | refine OP.stU rfl rfl inferInstance rfl ?_ | refine OP.st (vs := [_]) rfl rfl inferInstance rfl rfl rfl ?_ | refine OP.st (vs := [_, _]) rfl rfl inferInstance rfl rfl rfl ?_ | refine OP.st (vs := [_, _, _]) rfl rfl inferInstance rfl rfl rfl ?_)
    refine next.mk (_ :: []) rfl ?_
    refine WH.done (by kernel_rfl) ?_
    rotate_left
    (first | refine OP.indexAddr (j := 1) rfl rfl rfl rfl (by decide) ?_ | (refine OP.store0 (vs := [.complex .f64 two 0]) rfl rfl rfl rfl rfl ?_; rw [st]) | refine OP.ld rfl rfl inferInstance rfl ?_ | refine OP.load rfl rfl (Sees.old0 (by assumption)) ?_ | refine OP.ldA rfl rfl inferInstance rfl ?_)
    refine next.mk (_ :: []) rfl ?_
    refine WH.take (i := 13) rfl (by kernel_rfl) (by kernel_rfl) (by kernel_rfl) rfl ?_
    (first | refine OP.indexAddr (j := 1) rfl rfl rfl rfl (by decide) ?_ | (refine OP.store0 (vs := [.complex .f64 two 0]) rfl rfl rfl rfl rfl ?_; rw [st]) | refine OP.imag rfl rfl ?_)
    refine WH.take (i := 15) rfl (by kernel_rfl) (by kernel_rfl) (by kernel_rfl) rfl ?_
    (first | refine OP.indexAddr (j := 1) rfl rfl rfl rfl (by decide) ?_ | (refine OP.store0 (vs := [.complex .f64 two 0]) rfl rfl rfl rfl rfl ?_; rw [st]) | refine OP.farith (r := two) rfl rfl rfl (by decide +kernel) ?_ | refine OP.farith (r := 0) rfl rfl rfl (by decide +kernel) ?_ | (refine OP.mul rfl rfl rfl ?_ ?_ ?_; omega; omega))
    refine WH.step (rs := [5]) (by kernel_rfl) rfl (all_cons ⟨_, rfl, ?_⟩ all_nil)
    (first | refine OP.indexAddr (j := 1) rfl rfl rfl rfl (by decide) ?_ | (refine OP.store0 (vs := [.complex .f64 two 0]) rfl rfl rfl rfl rfl ?_; rw [st]) | refine OP.ld rfl rfl inferInstance rfl ?_ | refine OP.load rfl rfl (Sees.old0 (by assumption)) ?_ | refine OP.ldA rfl rfl inferInstance rfl ?_)
    refine next.mk (_ :: []) rfl ?_
    refine WH.take (i := 6) rfl (by kernel_rfl) (by kernel_rfl) (by kernel_rfl) rfl ?_
    (first | refine OP.indexAddr (j := 1) rfl rfl rfl rfl (by decide) ?_ | (refine OP.store0 (vs := [.complex .f64 two 0]) rfl rfl rfl rfl rfl ?_; rw [st]) | refine OP.real rfl rfl ?_)
    refine WH.take (i := 8) rfl (by kernel_rfl) (by kernel_rfl) (by kernel_rfl) rfl ?_
    (first | refine OP.indexAddr (j := 1) rfl rfl rfl rfl (by decide) ?_ | (refine OP.store0 (vs := [.complex .f64 two 0]) rfl rfl rfl rfl rfl ?_; rw [st]) | refine OP.farith (r := two) rfl rfl rfl (by decide +kernel) ?_ | refine OP.farith (r := 0) rfl rfl rfl (by decide +kernel) ?_ | (refine OP.mul rfl rfl rfl ?_ ?_ ?_; omega; omega))
    refine WH.take (i := 16) rfl (by kernel_rfl) (by kernel_rfl) (by kernel_rfl) rfl ?_
    (first | refine OP.indexAddr (j := 1) rfl rfl rfl rfl (by decide) ?_ | (refine OP.store0 (vs := [.complex .f64 two 0]) rfl rfl rfl rfl rfl ?_; rw [st]) | refine OP.complex rfl rfl rfl ?_)
    refine WH.take (i := 17) rfl (by kernel_rfl) (by kernel_rfl) (by kernel_rfl) rfl ?_
    (first | refine OP.indexAddr (j := 1) rfl rfl rfl rfl (by decide) ?_ | (refine OP.store0 (vs := [.complex .f64 two 0]) rfl rfl rfl rfl rfl ?_; rw [st]))
    refine WH.step (rs := [18]) (by kernel_rfl) rfl (all_cons ⟨_, rfl, ?_⟩ all_nil)
    (first | refine OP.indexAddr (j := 1) rfl rfl rfl rfl (by decide) ?_ | (refine OP.store0 (vs := [.complex .f64 two 0]) rfl rfl rfl rfl rfl ?_; rw [st]) | refine OP.stI rfl rfl inferInstance rfl ?_ | refine OP.stB rfl rfl inferInstance rfl ?_ | refine OP.stC rfl rfl inferInstance rfl ?_ | refine OP.stF rfl rfl inferInstance rfl ?_ | refine OP.stS rfl rfl inferInstance rfl ?_ | refine OP.stP rfl rfl inferInstance rfl ?_ | refine OP.stM rfl rfl inferInstance rfl ?_ | refine OP.stU rfl rfl inferInstance rfl ?_ | refine OP.st (vs := [_]) rfl rfl inferInstance rfl rfl rfl ?_ | refine OP.st (vs := [_, _]) rfl rfl inferInstance rfl rfl rfl ?_ | refine OP.st (vs := [_, _, _]) rfl rfl inferInstance rfl rfl rfl ?_)
    refine next.mk (_ :: []) rfl ?_
    refine WH.done (by kernel_rfl) ?_
    rotate_left
    all_goals repeat' (first | refine Fin.tail ?_ | refine Fin.then_normal ?_ | refine Fin.then_exit ?_ | refine Fin.then_ret ?_ | refine Fin.block_normal ?_ | refine Fin.block_ret ?_ | refine Fin.block_hit ?_ | refine Fin.block_miss rfl ?_ | refine Fin.loop_exit ?_ | refine Fin.loop_ret ?_ | refine WP.seq ?_ | (refine WP.regionQ (by kernel_rfl) (by kernel_rfl) ?_) | refine WP.block ?_ | refine WP.region ?_ | refine WP.skip ?_ | refine WP.exit ?_ | refine WP.ret ?_ | refine WP.label ?_ | refine WP.cond_true rfl ?_ | refine WP.cond_false rfl ?_ | (refine WP.cond_dec rfl (fun h => ?_) (fun h => ?_) <;> (try (exfalso; omega))) | (refine WP.cond_bool rfl (fun h => ?_) (fun h => ?_)) | refine WL.nil ?_ | refine WL.cons ?_ | (show OP _ _ _ _ _ _ _ ⟨_, .move _, _, _, _, none⟩ _ _; first | refine OP.mI rfl rfl ?_ | refine OP.mB rfl rfl ?_ | refine OP.mC rfl rfl ?_ | refine OP.mF rfl rfl ?_ | refine OP.mS rfl rfl ?_ | refine OP.mP rfl rfl ?_ | refine OP.mA rfl rfl ?_ | refine OP.mT rfl rfl ?_ | refine OP.mM rfl rfl ?_ | refine OP.mU rfl rfl ?_ | refine OP.move rfl rfl ?_) | (show OP _ _ _ _ _ _ _ ⟨_, .assign _, _, _, _, none⟩ _ _; first | refine OP.aI rfl rfl ?_ | refine OP.aB rfl rfl ?_ | refine OP.aC rfl rfl ?_ | refine OP.aF rfl rfl ?_ | refine OP.aS rfl rfl ?_ | refine OP.aP rfl rfl ?_ | refine OP.aA rfl rfl ?_ | refine OP.aT rfl rfl ?_ | refine OP.aM rfl rfl ?_ | refine OP.aU rfl rfl ?_ | refine OP.assign rfl rfl ?_) | (show OP _ _ _ _ _ _ _ ⟨_, .call _, _, _, _, none⟩ _ _; first | refine OP.len rfl rfl rfl ?_ | refine OP.real rfl rfl ?_ | refine OP.imag rfl rfl ?_ | refine OP.complex rfl rfl rfl ?_) | (show OP _ _ _ _ _ _ _ ⟨_, .binOp _ _ _ _ _, _, _, _, none⟩ _ _; first | (refine OP.add rfl rfl rfl ?_ ?_ ?_; omega; omega) | refine OP.lss rfl rfl rfl ?_ | refine OP.neq rfl rfl rfl ?_ | refine OP.neq2 rfl rfl rfl ?_ | refine OP.neqd rfl rfl rfl ?_ | (refine OP.mul rfl rfl rfl ?_ ?_ ?_; omega; omega)) | refine OP.extract rfl rfl rfl ?_ | (show OP _ _ _ _ _ _ _ ⟨_, .load _ _, _, _, _, none⟩ _ _; first | refine OP.ld rfl rfl inferInstance rfl ?_ | refine OP.load rfl rfl (Sees.old0 (by assumption)) ?_ | refine OP.ldA rfl rfl inferInstance rfl ?_) | (show OP _ _ _ _ _ _ _ ⟨_, .store _ _ _, _, _, _, none⟩ _ _; first | refine OP.stI rfl rfl inferInstance rfl ?_ | refine OP.stB rfl rfl inferInstance rfl ?_ | refine OP.stC rfl rfl inferInstance rfl ?_ | refine OP.stF rfl rfl inferInstance rfl ?_ | refine OP.stS rfl rfl inferInstance rfl ?_ | refine OP.stP rfl rfl inferInstance rfl ?_ | refine OP.stM rfl rfl inferInstance rfl ?_ | refine OP.stU rfl rfl inferInstance rfl ?_ | refine OP.st (vs := [_]) rfl rfl inferInstance rfl rfl rfl ?_ | refine OP.st (vs := [_, _]) rfl rfl inferInstance rfl rfl rfl ?_ | refine OP.st (vs := [_, _, _]) rfl rfl inferInstance rfl rfl rfl ?_))
    all_goals refine Fin.loop_normal fun w' hst => ⟨2, by omega, by omega, by (repeat' (first | exact Agree.refl _ _ | refine Agree.upd rfl ?_ | refine Agree.hav rfl ?_)), ⟨rfl, trivial⟩, hst⟩
  · repeat' (first | refine OP.slice3 rfl rfl rfl rfl rfl rfl (by decide) (by decide) ?_ | refine Fin.tail ?_ | refine Fin.then_normal ?_ | refine Fin.then_exit ?_ | refine Fin.then_ret ?_ | refine Fin.block_normal ?_ | refine Fin.block_ret ?_ | refine Fin.block_hit ?_ | refine Fin.block_miss rfl ?_ | refine Fin.loop_exit ?_ | refine Fin.loop_ret ?_ | refine WP.seq ?_ | (refine WP.regionQ (by kernel_rfl) (by kernel_rfl) ?_) | refine WP.block ?_ | refine WP.region ?_ | refine WP.skip ?_ | refine WP.exit ?_ | refine WP.ret ?_ | refine WP.label ?_ | refine WP.cond_true rfl ?_ | refine WP.cond_false rfl ?_ | (refine WP.cond_dec rfl (fun h => ?_) (fun h => ?_) <;> (try (exfalso; omega))) | (refine WP.cond_bool rfl (fun h => ?_) (fun h => ?_)) | refine WL.nil ?_ | refine WL.cons ?_ | (show OP _ _ _ _ _ _ _ ⟨_, .move _, _, _, _, none⟩ _ _; first | refine OP.mI rfl rfl ?_ | refine OP.mB rfl rfl ?_ | refine OP.mC rfl rfl ?_ | refine OP.mF rfl rfl ?_ | refine OP.mS rfl rfl ?_ | refine OP.mP rfl rfl ?_ | refine OP.mA rfl rfl ?_ | refine OP.mT rfl rfl ?_ | refine OP.mM rfl rfl ?_ | refine OP.mU rfl rfl ?_ | refine OP.move rfl rfl ?_) | (show OP _ _ _ _ _ _ _ ⟨_, .assign _, _, _, _, none⟩ _ _; first | refine OP.aI rfl rfl ?_ | refine OP.aB rfl rfl ?_ | refine OP.aC rfl rfl ?_ | refine OP.aF rfl rfl ?_ | refine OP.aS rfl rfl ?_ | refine OP.aP rfl rfl ?_ | refine OP.aA rfl rfl ?_ | refine OP.aT rfl rfl ?_ | refine OP.aM rfl rfl ?_ | refine OP.aU rfl rfl ?_ | refine OP.assign rfl rfl ?_) | (show OP _ _ _ _ _ _ _ ⟨_, .call _, _, _, _, none⟩ _ _; first | (refine OP.call rfl (fun w' hst => hB _ _ _ w' (RdC.own (l := [(0, 0), (two, 0)]) (sp := []) hst (List.Mem.head _)) (hT.over hst (by simp))) (fun _ _ hR => ?_); obtain ⟨q, rfl, rfl⟩ := hR) | refine OP.len rfl rfl rfl ?_ | refine OP.real rfl rfl ?_ | refine OP.imag rfl rfl ?_ | refine OP.complex rfl rfl rfl ?_) | (show OP _ _ _ _ _ _ _ ⟨_, .binOp _ _ _ _ _, _, _, _, none⟩ _ _; first | (refine OP.add rfl rfl rfl ?_ ?_ ?_; omega; omega) | refine OP.lss rfl rfl rfl ?_ | refine OP.neq rfl rfl rfl ?_ | refine OP.neq2 rfl rfl rfl ?_ | refine OP.neqd rfl rfl rfl ?_ | (refine OP.mul rfl rfl rfl ?_ ?_ ?_; omega; omega)) | refine OP.extract rfl rfl rfl ?_ | (show OP _ _ _ _ _ _ _ ⟨_, .load _ _, _, _, _, none⟩ _ _; first | refine OP.ld rfl rfl inferInstance rfl ?_ | refine OP.load rfl rfl (Sees.old0 (by assumption)) ?_ | refine OP.ldA rfl rfl inferInstance rfl ?_) | (show OP _ _ _ _ _ _ _ ⟨_, .store _ _ _, _, _, _, none⟩ _ _; first | refine OP.stI rfl rfl inferInstance rfl ?_ | refine OP.stB rfl rfl inferInstance rfl ?_ | refine OP.stC rfl rfl inferInstance rfl ?_ | refine OP.stF rfl rfl inferInstance rfl ?_ | refine OP.stS rfl rfl inferInstance rfl ?_ | refine OP.stP rfl rfl inferInstance rfl ?_ | refine OP.stM rfl rfl inferInstance rfl ?_ | refine OP.stU rfl rfl inferInstance rfl ?_ | refine OP.st (vs := [_]) rfl rfl inferInstance rfl rfl rfl ?_ | refine OP.st (vs := [_, _]) rfl rfl inferInstance rfl rfl rfl ?_ | refine OP.st (vs := [_, _, _]) rfl rfl inferInstance rfl rfl rfl ?_))
    refine Fin.drop (List.Sublist.cons_cons _ (List.nil_sublist _)) ?_
    refine Fin.ret2 (h0 := .inl rfl) rfl rfl rfl ?_
    exact ⟨q, rfl, rfl⟩
set_option maxHeartbeats 4000000 in
theorem alive16_fn (w : World) (hT : TzT w) : Does Tryd.prog 17 #[] [] w fun v Γ => v = .bool true ∧ Γ = [] := by
  have hW := fun w => Weights_fn 2 (by decide) 2 (by decide) _ apW2 w
  simp only [show 2 ^ 2 = 4 from rfl] at hW
  refine Does.enter Tryd.func17 rfl Tryd.ntmps17 rfl (St.start w) ?_
  repeat' (first | refine OP.indexAddr (j := 0) rfl rfl rfl rfl (by decide) ?_ | refine OP.indexAddr (j := 1) rfl rfl rfl rfl (by decide) ?_ | refine Fin.tail ?_ | refine Fin.then_normal ?_ | refine Fin.then_exit ?_ | refine Fin.then_ret ?_ | refine Fin.block_normal ?_ | refine Fin.block_ret ?_ | refine Fin.block_hit ?_ | refine Fin.block_miss rfl ?_ | refine Fin.loop_exit ?_ | refine Fin.loop_ret ?_ | refine WP.seq ?_ | (refine WP.regionQ (by kernel_rfl) (by kernel_rfl) ?_) | refine WP.block ?_ | refine WP.region ?_ | refine WP.skip ?_ | refine WP.exit ?_ | refine WP.ret ?_ | refine WP.label ?_ | refine WP.cond_true rfl ?_ | refine WP.cond_false rfl ?_ | (refine WP.cond_dec rfl (fun h => ?_) (fun h => ?_) <;> (try (exfalso; omega))) | (refine WP.cond_bool rfl (fun h => ?_) (fun h => ?_)) | refine WL.nil ?_ | refine WL.cons ?_ | (show OP _ _ _ _ _ _ _ ⟨_, _, _, _, _, some _⟩ _ _; first | refine OP.guard_yes rfl rfl ?_ | refine OP.guard_no rfl rfl rfl rfl ?_ | refine OP.guard_un rfl rfl rfl ?_ | refine OP.guard_no0 rfl rfl rfl ?_ | (refine OP.guard_dec rfl rfl (fun h => ?_) (fun h => ?_) <;> (try (exfalso; omega))) | refine OP.guard_bool rfl rfl (fun h => ?_) (fun h => ?_)) | (show OP _ _ _ _ _ _ _ ⟨_, .move _, _, _, _, none⟩ _ _; first | refine OP.mI rfl rfl ?_ | refine OP.mB rfl rfl ?_ | refine OP.mC rfl rfl ?_ | refine OP.mF rfl rfl ?_ | refine OP.mS rfl rfl ?_ | refine OP.mP rfl rfl ?_ | refine OP.mA rfl rfl ?_ | refine OP.mT rfl rfl ?_ | refine OP.mM rfl rfl ?_ | refine OP.mU rfl rfl ?_ | refine OP.move rfl rfl ?_) | (show OP _ _ _ _ _ _ _ ⟨_, .assign _, _, _, _, none⟩ _ _; first | refine OP.aI rfl rfl ?_ | refine OP.aB rfl rfl ?_ | refine OP.aC rfl rfl ?_ | refine OP.aF rfl rfl ?_ | refine OP.aS rfl rfl ?_ | refine OP.aP rfl rfl ?_ | refine OP.aA rfl rfl ?_ | refine OP.aT rfl rfl ?_ | refine OP.aM rfl rfl ?_ | refine OP.aU rfl rfl ?_ | refine OP.assign rfl rfl ?_) | (show OP _ _ _ _ _ _ _ ⟨_, .call _, _, _, _, none⟩ _ _; first | (refine OP.call rfl (fun w' hst => hW w') (fun _ _ hR => ?_); obtain ⟨q, rfl, rfl⟩ := hR) | (refine OP.call rfl (fun w' hst => Apply_fn _ _ w' (RdC.own (l := [(four, 0)]) (sp := []) hst (List.Mem.head _)) (hT.over hst (by simp))) (fun _ _ hR => ?_); obtain ⟨q, rfl, rfl⟩ := hR) | refine OP.len rfl rfl rfl ?_) | (show OP _ _ _ _ _ _ _ ⟨_, .binOp _ _ _ _ _, _, _, _, none⟩ _ _; first | refine OP.fcmpK (r := true) _ rfl rfl rfl rfl (by decide +kernel) ?_ | refine OP.ceql (r := true) (by decide +kernel) rfl rfl rfl ?_ | refine OP.eql rfl rfl rfl ?_ | refine OP.eql2 rfl rfl rfl ?_ | refine OP.eqd rfl rfl rfl ?_ | refine OP.eqlb rfl rfl rfl ?_) | (show OP _ _ _ _ _ _ _ ⟨_, .pick _ _ _, _, _, _, none⟩ _ _; first | refine OP.pick_true rfl rfl ?_ | refine OP.pick_false rfl rfl ?_) | refine OP.extract rfl rfl rfl ?_ | (show OP _ _ _ _ _ _ _ ⟨_, .load _ _, _, _, _, none⟩ _ _; first | refine OP.ld rfl rfl inferInstance rfl ?_ | refine OP.load rfl rfl (Sees.old0 (by assumption)) ?_ | refine OP.ldA rfl rfl inferInstance rfl ?_) | (refine OP.buildSlice rfl rfl ?_ rfl rfl (fun bs => ?_); (decide)) | refine OP.buildSlice0 rfl rfl (fun bs => ?_))
  all_goals refine Fin.drop (List.nil_sublist _) ?_
  refine Fin.ret1 (h0 := .inl rfl) rfl rfl ?_
  exact ⟨rfl, rfl⟩
end Go.Proofs.YtjckoflcjkajiaaDoor
end
section
/- The filter applied; FilterFlat. Walked. %compact -/
set_option linter.unusedVariables false
set_option maxRecDepth 100000
namespace Go.Proofs.YtjckoflcjkajiaaDoor
open Go.Pen Go.Flt Go.Wav Go.Cyc Go.Qc

theorem lenV_ok {n : Nat} (h1 : 1 ≤ n) (h2 : n ≤ 2048) : lenV (n : Int) = .tuple #[.int .i64 ((2 ^ lenN (2 * n - 1) : Nat) : Int), .int .i64 0] := by
  unfold lenV
  rw [if_pos (by omega), Int.toNat_natCast]
theorem lenV_no : lenV 0 = .tuple #[.int .i64 0, .int .i64 30] := by
  unfold lenV
  rw [if_neg (by decide)]
theorem step_wt {l v : List Cx} {k : Nat} {b : Cx} (hl : l.length = v.length) (h : v[k]? = some b) : (v.take k ++ l.drop k).set k b = v.take (k + 1) ++ l.drop (k + 1) := by
  have hk : k < v.length := (List.getElem?_eq_some_iff.1 h).1
  rw [List.set_append_right _ _ (by simp; omega)]
  have e1 : k - (v.take k).length = 0 := by simp; omega
  rw [e1, List.drop_eq_getElem_cons (by omega), List.set_cons_zero, List.take_add_one, h]
  simp
set_option maxHeartbeats 8000000 in
theorem ApplyG_fn (n : Nat) (hn1 : 1 ≤ n) (hn2 : n ≤ 2048) (kind : Nat) (hk : 1 ≤ kind ∧ kind ≤ 3) (x z : List Cx) (hx : x.length = n) (hf : applyC (lenN (2 * n - 1)) kind x = some z) (hz : ∀ (i : Nat) (a : Cx), z[i]? = some a → Ok a)
    (b o c : Nat) (w : World) (hr : RdC w b o x) (hT : TzT w) :
    Does Tryd.prog 22 #[.slice (some ⟨b, o, none⟩) n c, .int .i64 (kind : Int)] [] w fun v Γ => ∃ q, v = .tuple #[.slice (some ⟨q, 0, none⟩) n n, .int .i64 0] ∧ Γ = [(q, .cells (cxs (sclL (lenN (2 * n - 1)) z) ++ []).toArray 31 (0, 0))] := by
  obtain ⟨q1, q2, q3, hm⟩ := len_at hn2 (by omega)
  have hlv := lenV_ok hn1 hn2
  generalize lenN (2 * n - 1) = m at *
  unfold applyC at hf
  simp only [Option.bind_eq_some_iff] at hf
  obtain ⟨ws, hws, y, hy, v, hv, hbk⟩ := hf
  have hpl : (padC x (2 ^ m)).length = 2 ^ m := padC_len (by omega)
  have hW := fun w => Weights_fn m hm kind hk ws hws w
  have hF := fun w b h hT => Forward_fn m hm (padC x (2 ^ m)) y hpl hy b 0 (2 ^ m) w h hT
  obtain ⟨hvl, hvg⟩ := wtTo_get hv
  have hB := fun w b h hT => Back_fn m hm v z hvl hbk (sclC m) (fun a ha w => by
    obtain ⟨i, hi⟩ := List.mem_iff_getElem?.1 ha
    have := hz i a hi
    exact ScaleG_fn m a hm this.f1 this.f2 this.w w) b 0 (2 ^ m) w h hT
  have hp := pow12 hm
  have hzz : z.map (sclC m) = sclL m z := rfl
  have hyl : y.length = 2 ^ m := by
    unfold forwardC waveC at hy
    rw [Option.bind_eq_some_iff] at hy
    obtain ⟨l, hl, hb⟩ := hy
    rw [bfS_len hb]
    exact trnTo_len m _ _
  generalize hN : 2 ^ m = N at *
  have hcp : (cxs x ++ (cxs (List.replicate N ((0, 0) : Cx)) ++ []).drop (cxs x).length).toArray = (cxs (padC x N) ++ []).toArray := by
    have e : (cxs (List.replicate N ((0, 0) : Cx)) ++ []).drop (cxs x).length = cxs (List.replicate (N - x.length) ((0, 0) : Cx)) := by
      rw [List.append_nil, cxs_len]; simp [cxs]
    rw [e, ← cxs_append, List.append_nil]; rfl
  refine Does.enter Tryd.func22 rfl Tryd.ntmps22 rfl (St.start w) ?_
  repeat' (first | refine Fin.tail ?_ | refine Fin.then_normal ?_ | refine Fin.then_exit ?_ | refine Fin.then_ret ?_ | refine Fin.block_normal ?_ | refine Fin.block_ret ?_ | refine Fin.block_hit ?_ | refine Fin.block_miss rfl ?_ | refine Fin.loop_exit ?_ | refine Fin.loop_ret ?_ | refine WP.seq ?_ | (refine WP.regionQ (by kernel_rfl) (by kernel_rfl) ?_) | refine WP.block ?_ | refine WP.region ?_ | refine WP.skip ?_ | refine WP.exit ?_ | refine WP.ret ?_ | refine WP.label ?_ | refine WP.cond_true rfl ?_ | refine WP.cond_false rfl ?_ | (refine WP.cond_dec rfl (fun h => ?_) (fun h => ?_) <;> (try (exfalso; omega))) | (refine WP.cond_bool rfl (fun h => ?_) (fun h => ?_)) | refine WL.nil ?_ | refine WL.cons ?_ | (show OP _ _ _ _ _ _ _ ⟨_, .move _, _, _, _, none⟩ _ _; first | refine OP.mI rfl rfl ?_ | refine OP.mB rfl rfl ?_ | refine OP.mC rfl rfl ?_ | refine OP.mF rfl rfl ?_ | refine OP.mS rfl rfl ?_ | refine OP.mP rfl rfl ?_ | refine OP.mA rfl rfl ?_ | refine OP.mT rfl rfl ?_ | refine OP.mM rfl rfl ?_ | refine OP.mU rfl rfl ?_ | refine OP.move rfl rfl ?_) | (show OP _ _ _ _ _ _ _ ⟨_, .assign _, _, _, _, none⟩ _ _; first | refine OP.aI rfl rfl ?_ | refine OP.aB rfl rfl ?_ | refine OP.aC rfl rfl ?_ | refine OP.aF rfl rfl ?_ | refine OP.aS rfl rfl ?_ | refine OP.aP rfl rfl ?_ | refine OP.aA rfl rfl ?_ | refine OP.aT rfl rfl ?_ | refine OP.aM rfl rfl ?_ | refine OP.aU rfl rfl ?_ | refine OP.assign rfl rfl ?_) | (show OP _ _ _ _ _ _ _ ⟨_, .call _, _, _, _, none⟩ _ _; first | refine OP.callq (.tuple #[.int .i64 ((N : Nat) : Int), .int .i64 0]) rfl (fun w' _ => FLength_fn n w') (fun _ _ h => h.1.trans hlv) ?_ | (refine OP.call rfl (fun w' _ => hW w') (fun _ _ hR => ?_); obtain ⟨wb, rfl, rfl⟩ := hR) | refine OP.len rfl rfl rfl ?_ | refine OP.real rfl rfl ?_ | refine OP.imag rfl rfl ?_ | refine OP.complex rfl rfl rfl ?_) | (show OP _ _ _ _ _ _ _ ⟨_, .binOp _ _ _ _ _, _, _, _, none⟩ _ _; first | (refine OP.add rfl rfl rfl ?_ ?_ ?_; omega; omega) | refine OP.lss rfl rfl rfl ?_ | refine OP.neq rfl rfl rfl ?_ | refine OP.neq2 rfl rfl rfl ?_ | refine OP.neqd rfl rfl rfl ?_ | (refine OP.mul rfl rfl rfl ?_ ?_ ?_; omega; omega)) | refine OP.extract rfl rfl rfl ?_ | (show OP _ _ _ _ _ _ _ ⟨_, .load _ _, _, _, _, none⟩ _ _; first | refine OP.ld rfl rfl inferInstance rfl ?_ | refine OP.load rfl rfl (Sees.old0 (by assumption)) ?_ | refine OP.ldA rfl rfl inferInstance rfl ?_) | (show OP _ _ _ _ _ _ _ ⟨_, .store _ _ _, _, _, _, none⟩ _ _; first | refine OP.stI rfl rfl inferInstance rfl ?_ | refine OP.stB rfl rfl inferInstance rfl ?_ | refine OP.stC rfl rfl inferInstance rfl ?_ | refine OP.stF rfl rfl inferInstance rfl ?_ | refine OP.stS rfl rfl inferInstance rfl ?_ | refine OP.stP rfl rfl inferInstance rfl ?_ | refine OP.stM rfl rfl inferInstance rfl ?_ | refine OP.stU rfl rfl inferInstance rfl ?_ | refine OP.st (vs := [_]) rfl rfl inferInstance rfl rfl rfl ?_ | refine OP.st (vs := [_, _]) rfl rfl inferInstance rfl rfl rfl ?_ | refine OP.st (vs := [_, _, _]) rfl rfl inferInstance rfl rfl rfl ?_))
  refine OP.make1 (z := .complex .f64 0 0) (l := N) rfl rfl rfl rfl rfl (by omega) (by omega) (fun g => ?_)
  rw [cxs_rep]
  repeat' (first | refine Fin.tail ?_ | refine Fin.then_normal ?_ | refine Fin.then_exit ?_ | refine Fin.then_ret ?_ | refine Fin.block_normal ?_ | refine Fin.block_ret ?_ | refine Fin.block_hit ?_ | refine Fin.block_miss rfl ?_ | refine Fin.loop_exit ?_ | refine Fin.loop_ret ?_ | refine WP.seq ?_ | (refine WP.regionQ (by kernel_rfl) (by kernel_rfl) ?_) | refine WP.block ?_ | refine WP.region ?_ | refine WP.skip ?_ | refine WP.exit ?_ | refine WP.ret ?_ | refine WP.label ?_ | refine WP.cond_true rfl ?_ | refine WP.cond_false rfl ?_ | (refine WP.cond_dec rfl (fun h => ?_) (fun h => ?_) <;> (try (exfalso; omega))) | (refine WP.cond_bool rfl (fun h => ?_) (fun h => ?_)) | refine WL.nil ?_ | refine WL.cons ?_ | (show OP _ _ _ _ _ _ _ ⟨_, .move _, _, _, _, none⟩ _ _; first | refine OP.mI rfl rfl ?_ | refine OP.mB rfl rfl ?_ | refine OP.mC rfl rfl ?_ | refine OP.mF rfl rfl ?_ | refine OP.mS rfl rfl ?_ | refine OP.mP rfl rfl ?_ | refine OP.mA rfl rfl ?_ | refine OP.mT rfl rfl ?_ | refine OP.mM rfl rfl ?_ | refine OP.mU rfl rfl ?_ | refine OP.move rfl rfl ?_) | (show OP _ _ _ _ _ _ _ ⟨_, .assign _, _, _, _, none⟩ _ _; first | refine OP.aI rfl rfl ?_ | refine OP.aB rfl rfl ?_ | refine OP.aC rfl rfl ?_ | refine OP.aF rfl rfl ?_ | refine OP.aS rfl rfl ?_ | refine OP.aP rfl rfl ?_ | refine OP.aA rfl rfl ?_ | refine OP.aT rfl rfl ?_ | refine OP.aM rfl rfl ?_ | refine OP.aU rfl rfl ?_ | refine OP.assign rfl rfl ?_) | (show OP _ _ _ _ _ _ _ ⟨_, .call _, _, _, _, none⟩ _ _; first | (refine OP.copy1 (vs := cxs x) (cur := cxs (List.replicate N ((0, 0) : Cx)) ++ []) rfl rfl rfl rfl (by rw [cxs_len, hx]; exact (Nat.min_eq_left (by omega)).symm) (by rw [List.append_nil, cxs_len, cxs_len, List.length_replicate]; omega) (cxs_sees hr _) (cxs_one _) ?_; rw [hcp]) | (refine OP.call rfl (fun w' hst => hF w' _ (RdC.own hst (List.Mem.head _)) (hT.over hst (by simp))) (fun _ _ hR => ?_); obtain ⟨yb, rfl, rfl⟩ := hR) | refine OP.len rfl rfl rfl ?_ | refine OP.real rfl rfl ?_ | refine OP.imag rfl rfl ?_ | refine OP.complex rfl rfl rfl ?_) | (show OP _ _ _ _ _ _ _ ⟨_, .binOp _ _ _ _ _, _, _, _, none⟩ _ _; first | (refine OP.add rfl rfl rfl ?_ ?_ ?_; omega; omega) | refine OP.lss rfl rfl rfl ?_ | refine OP.neq rfl rfl rfl ?_ | refine OP.neq2 rfl rfl rfl ?_ | refine OP.neqd rfl rfl rfl ?_ | (refine OP.mul rfl rfl rfl ?_ ?_ ?_; omega; omega)) | refine OP.extract rfl rfl rfl ?_ | (show OP _ _ _ _ _ _ _ ⟨_, .load _ _, _, _, _, none⟩ _ _; first | refine OP.ld rfl rfl inferInstance rfl ?_ | refine OP.load rfl rfl (Sees.old0 (by assumption)) ?_ | refine OP.ldA rfl rfl inferInstance rfl ?_) | (show OP _ _ _ _ _ _ _ ⟨_, .store _ _ _, _, _, _, none⟩ _ _; first | refine OP.stI rfl rfl inferInstance rfl ?_ | refine OP.stB rfl rfl inferInstance rfl ?_ | refine OP.stC rfl rfl inferInstance rfl ?_ | refine OP.stF rfl rfl inferInstance rfl ?_ | refine OP.stS rfl rfl inferInstance rfl ?_ | refine OP.stP rfl rfl inferInstance rfl ?_ | refine OP.stM rfl rfl inferInstance rfl ?_ | refine OP.stU rfl rfl inferInstance rfl ?_ | refine OP.st (vs := [_]) rfl rfl inferInstance rfl rfl rfl ?_ | refine OP.st (vs := [_, _]) rfl rfl inferInstance rfl rfl rfl ?_ | refine OP.st (vs := [_, _, _]) rfl rfl inferInstance rfl rfl rfl ?_))
  refine WP.loop [11, 12, 47, 48, 49, 50, 51, 52, 53, 54, 55, 56, 57, 58, 59, 60, 61, 62, 63, 64, 65, 66, 67, 68, 69, 70] (fun k : Nat => [(47, .int .i64 k)]) (fun k => [(yb, .cells (cxs (v.take k ++ y.drop k) ++ []).toArray 31 (0, 0)), (g, .cells (cxs (padC x N) ++ []).toArray 31 (0, 0)), (wb, .cells (fls ws ++ []).toArray 41 (0, 0))]) (fun k => k ≤ N) (fun k => N - k) 0 (by omega) rfl ⟨rfl, trivial⟩ ?_
  rintro k jk k1
  dsimp only [updL]
  by_cases hkN : k < N
  · obtain ⟨wk, ak, bk, e1, e2, e3, e4⟩ := hvg k hkN
    unfold wtC at e3
    simp only [Option.bind_eq_some_iff, Option.some.injEq] at e3
    obtain ⟨r1, m1, r2, m2, rfl⟩ := e3
    have hlen : (v.take k ++ y.drop k).length = N := by simp; omega
    have hak : (v.take k ++ y.drop k)[k]? = some ak := by
      rw [List.getElem?_append_right (by simp; omega)]
      have : k - (v.take k).length = 0 := by simp; omega
      rw [this, List.getElem?_drop]; exact e2
    have lw := fls_at (sp := []) e1
    have ly := cxs_at (sp := []) hak
    have sz := cxs_size (l := v.take k ++ y.drop k) (sp := []) (i := k) (by omega)
    have st := cxs_set (v.take k ++ y.drop k) [] k (r1, r2) (by omega)
    rw [step_wt (by omega) e4] at st
    repeat' (first | refine OP.indexAddr (j := k) rfl rfl rfl rfl hkN ?_ | refine OP.load rfl rfl (Sees.own (List.Mem.tail _ (List.Mem.tail _ (List.Mem.head _))) lw) ?_ | (show WP _ _ _ _ _ (.region 15 _ _) _ _; refine WP.regionH [_] [_, _] rfl (by kernel_rfl) ?_) | refine Fin.tail ?_ | refine Fin.then_normal ?_ | refine Fin.then_exit ?_ | refine Fin.then_ret ?_ | refine Fin.block_normal ?_ | refine Fin.block_ret ?_ | refine Fin.block_hit ?_ | refine Fin.block_miss rfl ?_ | refine Fin.loop_exit ?_ | refine Fin.loop_ret ?_ | refine WP.seq ?_ | (refine WP.regionQ (by kernel_rfl) (by kernel_rfl) ?_) | refine WP.block ?_ | refine WP.region ?_ | refine WP.skip ?_ | refine WP.exit ?_ | refine WP.ret ?_ | refine WP.label ?_ | refine WP.cond_true rfl ?_ | refine WP.cond_false rfl ?_ | (refine WP.cond_dec rfl (fun h => ?_) (fun h => ?_) <;> (try (exfalso; omega))) | (refine WP.cond_bool rfl (fun h => ?_) (fun h => ?_)) | refine WL.nil ?_ | refine WL.cons ?_ | (show OP _ _ _ _ _ _ _ ⟨_, .move _, _, _, _, none⟩ _ _; first | refine OP.mI rfl rfl ?_ | refine OP.mB rfl rfl ?_ | refine OP.mC rfl rfl ?_ | refine OP.mF rfl rfl ?_ | refine OP.mS rfl rfl ?_ | refine OP.mP rfl rfl ?_ | refine OP.mA rfl rfl ?_ | refine OP.mT rfl rfl ?_ | refine OP.mM rfl rfl ?_ | refine OP.mU rfl rfl ?_ | refine OP.move rfl rfl ?_) | (show OP _ _ _ _ _ _ _ ⟨_, .assign _, _, _, _, none⟩ _ _; first | refine OP.aI rfl rfl ?_ | refine OP.aB rfl rfl ?_ | refine OP.aC rfl rfl ?_ | refine OP.aF rfl rfl ?_ | refine OP.aS rfl rfl ?_ | refine OP.aP rfl rfl ?_ | refine OP.aA rfl rfl ?_ | refine OP.aT rfl rfl ?_ | refine OP.aM rfl rfl ?_ | refine OP.aU rfl rfl ?_ | refine OP.assign rfl rfl ?_) | (show OP _ _ _ _ _ _ _ ⟨_, .call _, _, _, _, none⟩ _ _; first | refine OP.len rfl rfl rfl ?_ | refine OP.real rfl rfl ?_ | refine OP.imag rfl rfl ?_ | refine OP.complex rfl rfl rfl ?_) | (show OP _ _ _ _ _ _ _ ⟨_, .binOp _ _ _ _ _, _, _, _, none⟩ _ _; first | (refine OP.add rfl rfl rfl ?_ ?_ ?_; omega; omega) | refine OP.lss rfl rfl rfl ?_ | refine OP.neq rfl rfl rfl ?_ | refine OP.neq2 rfl rfl rfl ?_ | refine OP.neqd rfl rfl rfl ?_ | (refine OP.mul rfl rfl rfl ?_ ?_ ?_; omega; omega)) | refine OP.extract rfl rfl rfl ?_ | (show OP _ _ _ _ _ _ _ ⟨_, .load _ _, _, _, _, none⟩ _ _; first | refine OP.ld rfl rfl inferInstance rfl ?_ | refine OP.load rfl rfl (Sees.old0 (by assumption)) ?_ | refine OP.ldA rfl rfl inferInstance rfl ?_) | (show OP _ _ _ _ _ _ _ ⟨_, .store _ _ _, _, _, _, none⟩ _ _; first | refine OP.stI rfl rfl inferInstance rfl ?_ | refine OP.stB rfl rfl inferInstance rfl ?_ | refine OP.stC rfl rfl inferInstance rfl ?_ | refine OP.stF rfl rfl inferInstance rfl ?_ | refine OP.stS rfl rfl inferInstance rfl ?_ | refine OP.stP rfl rfl inferInstance rfl ?_ | refine OP.stM rfl rfl inferInstance rfl ?_ | refine OP.stU rfl rfl inferInstance rfl ?_ | refine OP.st (vs := [_]) rfl rfl inferInstance rfl rfl rfl ?_ | refine OP.st (vs := [_, _]) rfl rfl inferInstance rfl rfl rfl ?_ | refine OP.st (vs := [_, _, _]) rfl rfl inferInstance rfl rfl rfl ?_))
    refine WH.take (i := 0) rfl (by kernel_rfl) (by kernel_rfl) (by kernel_rfl) rfl ?_
    (first | refine OP.indexAddr (j := k) rfl rfl rfl rfl hkN ?_ | refine OP.load rfl rfl (Sees.own (List.Mem.head _) ly) ?_ | (refine OP.store0 (vs := [.complex .f64 r1 r2]) rfl rfl rfl rfl sz ?_; rw [st]) | refine OP.mI rfl rfl ?_ | refine OP.mB rfl rfl ?_ | refine OP.mC rfl rfl ?_ | refine OP.mF rfl rfl ?_ | refine OP.mS rfl rfl ?_ | refine OP.mP rfl rfl ?_ | refine OP.mA rfl rfl ?_ | refine OP.mT rfl rfl ?_ | refine OP.mM rfl rfl ?_ | refine OP.mU rfl rfl ?_ | refine OP.move rfl rfl ?_)
    refine WH.take (i := 1) rfl (by kernel_rfl) (by kernel_rfl) (by kernel_rfl) rfl ?_
    (first | refine OP.indexAddr (j := k) rfl rfl rfl rfl hkN ?_ | refine OP.load rfl rfl (Sees.own (List.Mem.head _) ly) ?_ | (refine OP.store0 (vs := [.complex .f64 r1 r2]) rfl rfl rfl rfl sz ?_; rw [st]) | refine OP.mI rfl rfl ?_ | refine OP.mB rfl rfl ?_ | refine OP.mC rfl rfl ?_ | refine OP.mF rfl rfl ?_ | refine OP.mS rfl rfl ?_ | refine OP.mP rfl rfl ?_ | refine OP.mA rfl rfl ?_ | refine OP.mT rfl rfl ?_ | refine OP.mM rfl rfl ?_ | refine OP.mU rfl rfl ?_ | refine OP.move rfl rfl ?_)
    refine WH.take (i := 2) rfl (by kernel_rfl) (by kernel_rfl) (by kernel_rfl) rfl ?_
    (first | refine OP.indexAddr (j := k) rfl rfl rfl rfl hkN ?_ | refine OP.load rfl rfl (Sees.own (List.Mem.head _) ly) ?_ | (refine OP.store0 (vs := [.complex .f64 r1 r2]) rfl rfl rfl rfl sz ?_; rw [st]) | refine OP.mI rfl rfl ?_ | refine OP.mB rfl rfl ?_ | refine OP.mC rfl rfl ?_ | refine OP.mF rfl rfl ?_ | refine OP.mS rfl rfl ?_ | refine OP.mP rfl rfl ?_ | refine OP.mA rfl rfl ?_ | refine OP.mT rfl rfl ?_ | refine OP.mM rfl rfl ?_ | refine OP.mU rfl rfl ?_ | refine OP.move rfl rfl ?_)
    refine WH.take (i := 3) rfl (by kernel_rfl) (by kernel_rfl) (by kernel_rfl) rfl ?_
    (first | refine OP.indexAddr (j := k) rfl rfl rfl rfl hkN ?_ | refine OP.load rfl rfl (Sees.own (List.Mem.head _) ly) ?_ | (refine OP.store0 (vs := [.complex .f64 r1 r2]) rfl rfl rfl rfl sz ?_; rw [st]) | refine OP.mI rfl rfl ?_ | refine OP.mB rfl rfl ?_ | refine OP.mC rfl rfl ?_ | refine OP.mF rfl rfl ?_ | refine OP.mS rfl rfl ?_ | refine OP.mP rfl rfl ?_ | refine OP.mA rfl rfl ?_ | refine OP.mT rfl rfl ?_ | refine OP.mM rfl rfl ?_ | refine OP.mU rfl rfl ?_ | refine OP.move rfl rfl ?_)
    refine WH.take (i := 4) rfl (by kernel_rfl) (by kernel_rfl) (by kernel_rfl) rfl ?_
    (first | refine OP.indexAddr (j := k) rfl rfl rfl rfl hkN ?_ | refine OP.load rfl rfl (Sees.own (List.Mem.head _) ly) ?_ | (refine OP.store0 (vs := [.complex .f64 r1 r2]) rfl rfl rfl rfl sz ?_; rw [st]))
    refine WH.take (i := 7) rfl (by kernel_rfl) (by kernel_rfl) (by kernel_rfl) rfl ?_
    (first | refine OP.indexAddr (j := k) rfl rfl rfl rfl hkN ?_ | refine OP.load rfl rfl (Sees.own (List.Mem.head _) ly) ?_ | (refine OP.store0 (vs := [.complex .f64 r1 r2]) rfl rfl rfl rfl sz ?_; rw [st]) | refine OP.mI rfl rfl ?_ | refine OP.mB rfl rfl ?_ | refine OP.mC rfl rfl ?_ | refine OP.mF rfl rfl ?_ | refine OP.mS rfl rfl ?_ | refine OP.mP rfl rfl ?_ | refine OP.mA rfl rfl ?_ | refine OP.mT rfl rfl ?_ | refine OP.mM rfl rfl ?_ | refine OP.mU rfl rfl ?_ | refine OP.move rfl rfl ?_)
    refine WH.take (i := 9) rfl (by kernel_rfl) (by kernel_rfl) (by kernel_rfl) rfl ?_
    (first | refine OP.indexAddr (j := k) rfl rfl rfl rfl hkN ?_ | refine OP.load rfl rfl (Sees.own (List.Mem.head _) ly) ?_ | (refine OP.store0 (vs := [.complex .f64 r1 r2]) rfl rfl rfl rfl sz ?_; rw [st]) | refine OP.mI rfl rfl ?_ | refine OP.mB rfl rfl ?_ | refine OP.mC rfl rfl ?_ | refine OP.mF rfl rfl ?_ | refine OP.mS rfl rfl ?_ | refine OP.mP rfl rfl ?_ | refine OP.mA rfl rfl ?_ | refine OP.mT rfl rfl ?_ | refine OP.mM rfl rfl ?_ | refine OP.mU rfl rfl ?_ | refine OP.move rfl rfl ?_)
    refine WH.take (i := 10) rfl (by kernel_rfl) (by kernel_rfl) (by kernel_rfl) rfl ?_
    (first | refine OP.indexAddr (j := k) rfl rfl rfl rfl hkN ?_ | refine OP.load rfl rfl (Sees.own (List.Mem.head _) ly) ?_ | (refine OP.store0 (vs := [.complex .f64 r1 r2]) rfl rfl rfl rfl sz ?_; rw [st]) | refine OP.mI rfl rfl ?_ | refine OP.mB rfl rfl ?_ | refine OP.mC rfl rfl ?_ | refine OP.mF rfl rfl ?_ | refine OP.mS rfl rfl ?_ | refine OP.mP rfl rfl ?_ | refine OP.mA rfl rfl ?_ | refine OP.mT rfl rfl ?_ | refine OP.mM rfl rfl ?_ | refine OP.mU rfl rfl ?_ | refine OP.move rfl rfl ?_)
    refine WH.take (i := 11) rfl (by kernel_rfl) (by kernel_rfl) (by kernel_rfl) rfl ?_
    (first | refine OP.indexAddr (j := k) rfl rfl rfl rfl hkN ?_ | refine OP.load rfl rfl (Sees.own (List.Mem.head _) ly) ?_ | (refine OP.store0 (vs := [.complex .f64 r1 r2]) rfl rfl rfl rfl sz ?_; rw [st]))
    refine WH.take (i := 14) rfl (by kernel_rfl) (by kernel_rfl) (by kernel_rfl) rfl ?_
    (first | refine OP.indexAddr (j := k) rfl rfl rfl rfl hkN ?_ | refine OP.load rfl rfl (Sees.own (List.Mem.head _) ly) ?_ | (refine OP.store0 (vs := [.complex .f64 r1 r2]) rfl rfl rfl rfl sz ?_; rw [st]) | refine OP.mI rfl rfl ?_ | refine OP.mB rfl rfl ?_ | refine OP.mC rfl rfl ?_ | refine OP.mF rfl rfl ?_ | refine OP.mS rfl rfl ?_ | refine OP.mP rfl rfl ?_ | refine OP.mA rfl rfl ?_ | refine OP.mT rfl rfl ?_ | refine OP.mM rfl rfl ?_ | refine OP.mU rfl rfl ?_ | refine OP.move rfl rfl ?_)
    refine WH.step (rs := [5, 12]) (by kernel_rfl) rfl (all_cons ⟨_, rfl, ?_⟩ (all_cons ⟨_, rfl, ?_⟩ all_nil))
    (first | refine OP.indexAddr (j := k) rfl rfl rfl rfl hkN ?_ | refine OP.load rfl rfl (Sees.own (List.Mem.head _) ly) ?_ | (refine OP.store0 (vs := [.complex .f64 r1 r2]) rfl rfl rfl rfl sz ?_; rw [st]) | refine OP.ld rfl rfl inferInstance rfl ?_ | refine OP.load rfl rfl (Sees.old0 (by assumption)) ?_ | refine OP.ldA rfl rfl inferInstance rfl ?_)
    refine next.mk (_ :: []) rfl ?_
    refine WH.take (i := 6) rfl (by kernel_rfl) (by kernel_rfl) (by kernel_rfl) rfl ?_
    (first | refine OP.indexAddr (j := k) rfl rfl rfl rfl hkN ?_ | refine OP.load rfl rfl (Sees.own (List.Mem.head _) ly) ?_ | (refine OP.store0 (vs := [.complex .f64 r1 r2]) rfl rfl rfl rfl sz ?_; rw [st]) | refine OP.real rfl rfl ?_)
    refine WH.take (i := 8) rfl (by kernel_rfl) (by kernel_rfl) (by kernel_rfl) rfl ?_
    (first | refine OP.indexAddr (j := k) rfl rfl rfl rfl hkN ?_ | refine OP.load rfl rfl (Sees.own (List.Mem.head _) ly) ?_ | (refine OP.store0 (vs := [.complex .f64 r1 r2]) rfl rfl rfl rfl sz ?_; rw [st]) | refine OP.farith (r := r1) rfl rfl rfl m1 ?_ | refine OP.farith (r := r2) rfl rfl rfl m2 ?_ | (refine OP.mul rfl rfl rfl ?_ ?_ ?_; omega; omega))
    refine WH.step (rs := [12]) (by kernel_rfl) rfl (all_cons ⟨_, rfl, ?_⟩ all_nil)
    (first | refine OP.indexAddr (j := k) rfl rfl rfl rfl hkN ?_ | refine OP.load rfl rfl (Sees.own (List.Mem.head _) ly) ?_ | (refine OP.store0 (vs := [.complex .f64 r1 r2]) rfl rfl rfl rfl sz ?_; rw [st]) | refine OP.ld rfl rfl inferInstance rfl ?_ | refine OP.load rfl rfl (Sees.old0 (by assumption)) ?_ | refine OP.ldA rfl rfl inferInstance rfl ?_)
    refine next.mk (_ :: []) rfl ?_
    refine WH.take (i := 13) rfl (by kernel_rfl) (by kernel_rfl) (by kernel_rfl) rfl ?_
    (first | refine OP.indexAddr (j := k) rfl rfl rfl rfl hkN ?_ | refine OP.load rfl rfl (Sees.own (List.Mem.head _) ly) ?_ | (refine OP.store0 (vs := [.complex .f64 r1 r2]) rfl rfl rfl rfl sz ?_; rw [st]) | refine OP.imag rfl rfl ?_)
    refine WH.take (i := 15) rfl (by kernel_rfl) (by kernel_rfl) (by kernel_rfl) rfl ?_
    (first | refine OP.indexAddr (j := k) rfl rfl rfl rfl hkN ?_ | refine OP.load rfl rfl (Sees.own (List.Mem.head _) ly) ?_ | (refine OP.store0 (vs := [.complex .f64 r1 r2]) rfl rfl rfl rfl sz ?_; rw [st]) | refine OP.farith (r := r1) rfl rfl rfl m1 ?_ | refine OP.farith (r := r2) rfl rfl rfl m2 ?_ | (refine OP.mul rfl rfl rfl ?_ ?_ ?_; omega; omega))
    refine WH.take (i := 16) rfl (by kernel_rfl) (by kernel_rfl) (by kernel_rfl) rfl ?_
    (first | refine OP.indexAddr (j := k) rfl rfl rfl rfl hkN ?_ | refine OP.load rfl rfl (Sees.own (List.Mem.head _) ly) ?_ | (refine OP.store0 (vs := [.complex .f64 r1 r2]) rfl rfl rfl rfl sz ?_; rw [st]) | refine OP.complex rfl rfl rfl ?_)
    refine WH.take (i := 17) rfl (by kernel_rfl) (by kernel_rfl) (by kernel_rfl) rfl ?_
    (first | refine OP.indexAddr (j := k) rfl rfl rfl rfl hkN ?_ | refine OP.load rfl rfl (Sees.own (List.Mem.head _) ly) ?_ | (refine OP.store0 (vs := [.complex .f64 r1 r2]) rfl rfl rfl rfl sz ?_; rw [st]))
    refine WH.step (rs := [18]) (by kernel_rfl) rfl (all_cons ⟨_, rfl, ?_⟩ all_nil)
    (first | refine OP.indexAddr (j := k) rfl rfl rfl rfl hkN ?_ | refine OP.load rfl rfl (Sees.own (List.Mem.head _) ly) ?_ | (refine OP.store0 (vs := [.complex .f64 r1 r2]) rfl rfl rfl rfl sz ?_; rw [st]) | refine OP.stI rfl rfl inferInstance rfl ?_ | refine OP.stB rfl rfl inferInstance rfl ?_ | refine OP.stC rfl rfl inferInstance rfl ?_ | refine OP.stF rfl rfl inferInstance rfl ?_ | refine OP.stS rfl rfl inferInstance rfl ?_ | refine OP.stP rfl rfl inferInstance rfl ?_ | refine OP.stM rfl rfl inferInstance rfl ?_ | refine OP.stU rfl rfl inferInstance rfl ?_ | refine OP.st (vs := [_]) rfl rfl inferInstance rfl rfl rfl ?_ | refine OP.st (vs := [_, _]) rfl rfl inferInstance rfl rfl rfl ?_ | refine OP.st (vs := [_, _, _]) rfl rfl inferInstance rfl rfl rfl ?_)
    refine next.mk (_ :: []) rfl ?_
    refine WH.done (by kernel_rfl) ?_
    rotate_left
    (first | refine OP.indexAddr (j := k) rfl rfl rfl rfl hkN ?_ | refine OP.load rfl rfl (Sees.own (List.Mem.head _) ly) ?_ | (refine OP.store0 (vs := [.complex .f64 r1 r2]) rfl rfl rfl rfl sz ?_; rw [st]) | refine OP.ld rfl rfl inferInstance rfl ?_ | refine OP.load rfl rfl (Sees.old0 (by assumption)) ?_ | refine OP.ldA rfl rfl inferInstance rfl ?_)
    refine next.mk (_ :: []) rfl ?_
    refine WH.take (i := 13) rfl (by kernel_rfl) (by kernel_rfl) (by kernel_rfl) rfl ?_
    (first | refine OP.indexAddr (j := k) rfl rfl rfl rfl hkN ?_ | refine OP.load rfl rfl (Sees.own (List.Mem.head _) ly) ?_ | (refine OP.store0 (vs := [.complex .f64 r1 r2]) rfl rfl rfl rfl sz ?_; rw [st]) | refine OP.imag rfl rfl ?_)
    refine WH.take (i := 15) rfl (by kernel_rfl) (by kernel_rfl) (by kernel_rfl) rfl ?_
    (first | refine OP.indexAddr (j := k) rfl rfl rfl rfl hkN ?_ | refine OP.load rfl rfl (Sees.own (List.Mem.head _) ly) ?_ | (refine OP.store0 (vs := [.complex .f64 r1 r2]) rfl rfl rfl rfl sz ?_; rw [st]) | refine OP.farith (r := r1) rfl rfl rfl m1 ?_ | refine OP.farith (r := r2) rfl rfl rfl m2 ?_ | (refine OP.mul rfl rfl rfl ?_ ?_ ?_; omega; omega))
    refine WH.step (rs := [5]) (by kernel_rfl) rfl (all_cons ⟨_, rfl, ?_⟩ all_nil)
    (first | refine OP.indexAddr (j := k) rfl rfl rfl rfl hkN ?_ | refine OP.load rfl rfl (Sees.own (List.Mem.head _) ly) ?_ | (refine OP.store0 (vs := [.complex .f64 r1 r2]) rfl rfl rfl rfl sz ?_; rw [st]) | refine OP.ld rfl rfl inferInstance rfl ?_ | refine OP.load rfl rfl (Sees.old0 (by assumption)) ?_ | refine OP.ldA rfl rfl inferInstance rfl ?_)
    refine next.mk (_ :: []) rfl ?_
    refine WH.take (i := 6) rfl (by kernel_rfl) (by kernel_rfl) (by kernel_rfl) rfl ?_
    (first | refine OP.indexAddr (j := k) rfl rfl rfl rfl hkN ?_ | refine OP.load rfl rfl (Sees.own (List.Mem.head _) ly) ?_ | (refine OP.store0 (vs := [.complex .f64 r1 r2]) rfl rfl rfl rfl sz ?_; rw [st]) | refine OP.real rfl rfl ?_)
    refine WH.take (i := 8) rfl (by kernel_rfl) (by kernel_rfl) (by kernel_rfl) rfl ?_
    (first | refine OP.indexAddr (j := k) rfl rfl rfl rfl hkN ?_ | refine OP.load rfl rfl (Sees.own (List.Mem.head _) ly) ?_ | (refine OP.store0 (vs := [.complex .f64 r1 r2]) rfl rfl rfl rfl sz ?_; rw [st]) | refine OP.farith (r := r1) rfl rfl rfl m1 ?_ | refine OP.farith (r := r2) rfl rfl rfl m2 ?_ | (refine OP.mul rfl rfl rfl ?_ ?_ ?_; omega; omega))
    refine WH.take (i := 16) rfl (by kernel_rfl) (by kernel_rfl) (by kernel_rfl) rfl ?_
    (first | refine OP.indexAddr (j := k) rfl rfl rfl rfl hkN ?_ | refine OP.load rfl rfl (Sees.own (List.Mem.head _) ly) ?_ | (refine OP.store0 (vs := [.complex .f64 r1 r2]) rfl rfl rfl rfl sz ?_; rw [st]) | refine OP.complex rfl rfl rfl ?_)
    refine WH.take (i := 17) rfl (by kernel_rfl) (by kernel_rfl) (by kernel_rfl) rfl ?_
    (first | refine OP.indexAddr (j := k) rfl rfl rfl rfl hkN ?_ | refine OP.load rfl rfl (Sees.own (List.Mem.head _) ly) ?_ | (refine OP.store0 (vs := [.complex .f64 r1 r2]) rfl rfl rfl rfl sz ?_; rw [st]))
    refine WH.step (rs := [18]) (by kernel_rfl) rfl (all_cons ⟨_, rfl, ?_⟩ all_nil)
    (first | refine OP.indexAddr (j := k) rfl rfl rfl rfl hkN ?_ | refine OP.load rfl rfl (Sees.own (List.Mem.head _) ly) ?_ | (refine OP.store0 (vs := [.complex .f64 r1 r2]) rfl rfl rfl rfl sz ?_; rw [st]) | refine OP.stI rfl rfl inferInstance rfl ?_ | refine OP.stB rfl rfl inferInstance rfl ?_ | refine OP.stC rfl rfl inferInstance rfl ?_ | refine OP.stF rfl rfl inferInstance rfl ?_ | refine OP.stS rfl rfl inferInstance rfl ?_ | refine OP.stP rfl rfl inferInstance rfl ?_ | refine OP.stM rfl rfl inferInstance rfl ?_ | refine OP.stU rfl rfl inferInstance rfl ?_ | refine OP.st (vs := [_]) rfl rfl inferInstance rfl rfl rfl ?_ | refine OP.st (vs := [_, _]) rfl rfl inferInstance rfl rfl rfl ?_ | refine OP.st (vs := [_, _, _]) rfl rfl inferInstance rfl rfl rfl ?_)
    refine next.mk (_ :: []) rfl ?_
    refine WH.done (by kernel_rfl) ?_
    rotate_left
    all_goals repeat' (first | refine Fin.tail ?_ | refine Fin.then_normal ?_ | refine Fin.then_exit ?_ | refine Fin.then_ret ?_ | refine Fin.block_normal ?_ | refine Fin.block_ret ?_ | refine Fin.block_hit ?_ | refine Fin.block_miss rfl ?_ | refine Fin.loop_exit ?_ | refine Fin.loop_ret ?_ | refine WP.seq ?_ | (refine WP.regionQ (by kernel_rfl) (by kernel_rfl) ?_) | refine WP.block ?_ | refine WP.region ?_ | refine WP.skip ?_ | refine WP.exit ?_ | refine WP.ret ?_ | refine WP.label ?_ | refine WP.cond_true rfl ?_ | refine WP.cond_false rfl ?_ | (refine WP.cond_dec rfl (fun h => ?_) (fun h => ?_) <;> (try (exfalso; omega))) | (refine WP.cond_bool rfl (fun h => ?_) (fun h => ?_)) | refine WL.nil ?_ | refine WL.cons ?_ | (show OP _ _ _ _ _ _ _ ⟨_, .move _, _, _, _, none⟩ _ _; first | refine OP.mI rfl rfl ?_ | refine OP.mB rfl rfl ?_ | refine OP.mC rfl rfl ?_ | refine OP.mF rfl rfl ?_ | refine OP.mS rfl rfl ?_ | refine OP.mP rfl rfl ?_ | refine OP.mA rfl rfl ?_ | refine OP.mT rfl rfl ?_ | refine OP.mM rfl rfl ?_ | refine OP.mU rfl rfl ?_ | refine OP.move rfl rfl ?_) | (show OP _ _ _ _ _ _ _ ⟨_, .assign _, _, _, _, none⟩ _ _; first | refine OP.aI rfl rfl ?_ | refine OP.aB rfl rfl ?_ | refine OP.aC rfl rfl ?_ | refine OP.aF rfl rfl ?_ | refine OP.aS rfl rfl ?_ | refine OP.aP rfl rfl ?_ | refine OP.aA rfl rfl ?_ | refine OP.aT rfl rfl ?_ | refine OP.aM rfl rfl ?_ | refine OP.aU rfl rfl ?_ | refine OP.assign rfl rfl ?_) | (show OP _ _ _ _ _ _ _ ⟨_, .call _, _, _, _, none⟩ _ _; first | refine OP.len rfl rfl rfl ?_ | refine OP.real rfl rfl ?_ | refine OP.imag rfl rfl ?_ | refine OP.complex rfl rfl rfl ?_) | (show OP _ _ _ _ _ _ _ ⟨_, .binOp _ _ _ _ _, _, _, _, none⟩ _ _; first | (refine OP.add rfl rfl rfl ?_ ?_ ?_; omega; omega) | refine OP.lss rfl rfl rfl ?_ | refine OP.neq rfl rfl rfl ?_ | refine OP.neq2 rfl rfl rfl ?_ | refine OP.neqd rfl rfl rfl ?_ | (refine OP.mul rfl rfl rfl ?_ ?_ ?_; omega; omega)) | refine OP.extract rfl rfl rfl ?_ | (show OP _ _ _ _ _ _ _ ⟨_, .load _ _, _, _, _, none⟩ _ _; first | refine OP.ld rfl rfl inferInstance rfl ?_ | refine OP.load rfl rfl (Sees.old0 (by assumption)) ?_ | refine OP.ldA rfl rfl inferInstance rfl ?_) | (show OP _ _ _ _ _ _ _ ⟨_, .store _ _ _, _, _, _, none⟩ _ _; first | refine OP.stI rfl rfl inferInstance rfl ?_ | refine OP.stB rfl rfl inferInstance rfl ?_ | refine OP.stC rfl rfl inferInstance rfl ?_ | refine OP.stF rfl rfl inferInstance rfl ?_ | refine OP.stS rfl rfl inferInstance rfl ?_ | refine OP.stP rfl rfl inferInstance rfl ?_ | refine OP.stM rfl rfl inferInstance rfl ?_ | refine OP.stU rfl rfl inferInstance rfl ?_ | refine OP.st (vs := [_]) rfl rfl inferInstance rfl rfl rfl ?_ | refine OP.st (vs := [_, _]) rfl rfl inferInstance rfl rfl rfl ?_ | refine OP.st (vs := [_, _, _]) rfl rfl inferInstance rfl rfl rfl ?_))
    all_goals refine Fin.loop_normal fun w' hst => ⟨k + 1, by omega, by omega, by (repeat' (first | exact Agree.refl _ _ | refine Agree.upd rfl ?_ | refine Agree.hav rfl ?_)), ⟨rfl, trivial⟩, hst⟩
  · have ek : k = N := by omega
    have e1 : v.take k ++ y.drop k = v := by
      rw [List.take_of_length_le (by omega), List.drop_of_length_le (by omega), List.append_nil]
    rw [e1]
    repeat' (first | refine OP.slice3 rfl rfl rfl rfl rfl rfl (Nat.le_refl _) (by omega) ?_ | refine Fin.tail ?_ | refine Fin.then_normal ?_ | refine Fin.then_exit ?_ | refine Fin.then_ret ?_ | refine Fin.block_normal ?_ | refine Fin.block_ret ?_ | refine Fin.block_hit ?_ | refine Fin.block_miss rfl ?_ | refine Fin.loop_exit ?_ | refine Fin.loop_ret ?_ | refine WP.seq ?_ | (refine WP.regionQ (by kernel_rfl) (by kernel_rfl) ?_) | refine WP.block ?_ | refine WP.region ?_ | refine WP.skip ?_ | refine WP.exit ?_ | refine WP.ret ?_ | refine WP.label ?_ | refine WP.cond_true rfl ?_ | refine WP.cond_false rfl ?_ | (refine WP.cond_dec rfl (fun h => ?_) (fun h => ?_) <;> (try (exfalso; omega))) | (refine WP.cond_bool rfl (fun h => ?_) (fun h => ?_)) | refine WL.nil ?_ | refine WL.cons ?_ | (show OP _ _ _ _ _ _ _ ⟨_, .move _, _, _, _, none⟩ _ _; first | refine OP.mI rfl rfl ?_ | refine OP.mB rfl rfl ?_ | refine OP.mC rfl rfl ?_ | refine OP.mF rfl rfl ?_ | refine OP.mS rfl rfl ?_ | refine OP.mP rfl rfl ?_ | refine OP.mA rfl rfl ?_ | refine OP.mT rfl rfl ?_ | refine OP.mM rfl rfl ?_ | refine OP.mU rfl rfl ?_ | refine OP.move rfl rfl ?_) | (show OP _ _ _ _ _ _ _ ⟨_, .assign _, _, _, _, none⟩ _ _; first | refine OP.aI rfl rfl ?_ | refine OP.aB rfl rfl ?_ | refine OP.aC rfl rfl ?_ | refine OP.aF rfl rfl ?_ | refine OP.aS rfl rfl ?_ | refine OP.aP rfl rfl ?_ | refine OP.aA rfl rfl ?_ | refine OP.aT rfl rfl ?_ | refine OP.aM rfl rfl ?_ | refine OP.aU rfl rfl ?_ | refine OP.assign rfl rfl ?_) | (show OP _ _ _ _ _ _ _ ⟨_, .call _, _, _, _, none⟩ _ _; first | (refine OP.call rfl (fun w' hst => hB w' _ (RdC.own hst (List.Mem.head _)) (hT.over hst (by simp))) (fun _ _ hR => ?_); obtain ⟨q, rfl, rfl⟩ := hR) | refine OP.len rfl rfl rfl ?_ | refine OP.real rfl rfl ?_ | refine OP.imag rfl rfl ?_ | refine OP.complex rfl rfl rfl ?_) | (show OP _ _ _ _ _ _ _ ⟨_, .binOp _ _ _ _ _, _, _, _, none⟩ _ _; first | (refine OP.add rfl rfl rfl ?_ ?_ ?_; omega; omega) | refine OP.lss rfl rfl rfl ?_ | refine OP.neq rfl rfl rfl ?_ | refine OP.neq2 rfl rfl rfl ?_ | refine OP.neqd rfl rfl rfl ?_ | (refine OP.mul rfl rfl rfl ?_ ?_ ?_; omega; omega)) | refine OP.extract rfl rfl rfl ?_ | (show OP _ _ _ _ _ _ _ ⟨_, .load _ _, _, _, _, none⟩ _ _; first | refine OP.ld rfl rfl inferInstance rfl ?_ | refine OP.load rfl rfl (Sees.old0 (by assumption)) ?_ | refine OP.ldA rfl rfl inferInstance rfl ?_) | (show OP _ _ _ _ _ _ _ ⟨_, .store _ _ _, _, _, _, none⟩ _ _; first | refine OP.stI rfl rfl inferInstance rfl ?_ | refine OP.stB rfl rfl inferInstance rfl ?_ | refine OP.stC rfl rfl inferInstance rfl ?_ | refine OP.stF rfl rfl inferInstance rfl ?_ | refine OP.stS rfl rfl inferInstance rfl ?_ | refine OP.stP rfl rfl inferInstance rfl ?_ | refine OP.stM rfl rfl inferInstance rfl ?_ | refine OP.stU rfl rfl inferInstance rfl ?_ | refine OP.st (vs := [_]) rfl rfl inferInstance rfl rfl rfl ?_ | refine OP.st (vs := [_, _]) rfl rfl inferInstance rfl rfl rfl ?_ | refine OP.st (vs := [_, _, _]) rfl rfl inferInstance rfl rfl rfl ?_))
    refine Fin.drop (List.Sublist.cons_cons _ (List.nil_sublist _)) ?_
    refine Fin.ret2 (h0 := .inl rfl) rfl rfl rfl ?_
    exact ⟨q, rfl, rfl⟩
set_option maxHeartbeats 2000000 in
theorem ApplyNone_fn (a : Option Addr) (c : Nat) (kind : Int) (w : World) :
    Does Tryd.prog 22 #[.slice a 0 c, .int .i64 kind] [] w fun v Γ => v = .tuple #[.slice none 0 0, .int .i64 30] ∧ Γ = [] := by
  refine Does.enter Tryd.func22 rfl Tryd.ntmps22 rfl (St.start w) ?_
  repeat' (first | refine Fin.tail ?_ | refine Fin.then_normal ?_ | refine Fin.then_exit ?_ | refine Fin.then_ret ?_ | refine Fin.block_normal ?_ | refine Fin.block_ret ?_ | refine Fin.block_hit ?_ | refine Fin.block_miss rfl ?_ | refine Fin.loop_exit ?_ | refine Fin.loop_ret ?_ | refine WP.seq ?_ | (refine WP.regionQ (by kernel_rfl) (by kernel_rfl) ?_) | refine WP.block ?_ | refine WP.region ?_ | refine WP.skip ?_ | refine WP.exit ?_ | refine WP.ret ?_ | refine WP.label ?_ | refine WP.cond_true rfl ?_ | refine WP.cond_false rfl ?_ | (refine WP.cond_dec rfl (fun h => ?_) (fun h => ?_) <;> (try (exfalso; omega))) | (refine WP.cond_bool rfl (fun h => ?_) (fun h => ?_)) | refine WL.nil ?_ | refine WL.cons ?_ | (show OP _ _ _ _ _ _ _ ⟨_, .move _, _, _, _, none⟩ _ _; first | refine OP.mI rfl rfl ?_ | refine OP.mB rfl rfl ?_ | refine OP.mC rfl rfl ?_ | refine OP.mF rfl rfl ?_ | refine OP.mS rfl rfl ?_ | refine OP.mP rfl rfl ?_ | refine OP.mA rfl rfl ?_ | refine OP.mT rfl rfl ?_ | refine OP.mM rfl rfl ?_ | refine OP.mU rfl rfl ?_ | refine OP.move rfl rfl ?_) | (show OP _ _ _ _ _ _ _ ⟨_, .assign _, _, _, _, none⟩ _ _; first | refine OP.aI rfl rfl ?_ | refine OP.aB rfl rfl ?_ | refine OP.aC rfl rfl ?_ | refine OP.aF rfl rfl ?_ | refine OP.aS rfl rfl ?_ | refine OP.aP rfl rfl ?_ | refine OP.aA rfl rfl ?_ | refine OP.aT rfl rfl ?_ | refine OP.aM rfl rfl ?_ | refine OP.aU rfl rfl ?_ | refine OP.assign rfl rfl ?_) | (show OP _ _ _ _ _ _ _ ⟨_, .call _, _, _, _, none⟩ _ _; first | refine OP.callq (.tuple #[.int .i64 0, .int .i64 30]) rfl (fun w' _ => FLength_fn 0 w') (fun _ _ h => h.1.trans lenV_no) ?_ | refine OP.len rfl rfl rfl ?_ | refine OP.real rfl rfl ?_ | refine OP.imag rfl rfl ?_ | refine OP.complex rfl rfl rfl ?_) | (show OP _ _ _ _ _ _ _ ⟨_, .binOp _ _ _ _ _, _, _, _, none⟩ _ _; first | (refine OP.add rfl rfl rfl ?_ ?_ ?_; omega; omega) | refine OP.lss rfl rfl rfl ?_ | refine OP.neq rfl rfl rfl ?_ | refine OP.neq2 rfl rfl rfl ?_ | refine OP.neqd rfl rfl rfl ?_ | (refine OP.mul rfl rfl rfl ?_ ?_ ?_; omega; omega)) | refine OP.extract rfl rfl rfl ?_ | (show OP _ _ _ _ _ _ _ ⟨_, .load _ _, _, _, _, none⟩ _ _; first | refine OP.ld rfl rfl inferInstance rfl ?_ | refine OP.load rfl rfl (Sees.old0 (by assumption)) ?_ | refine OP.ldA rfl rfl inferInstance rfl ?_) | (show OP _ _ _ _ _ _ _ ⟨_, .store _ _ _, _, _, _, none⟩ _ _; first | refine OP.stI rfl rfl inferInstance rfl ?_ | refine OP.stB rfl rfl inferInstance rfl ?_ | refine OP.stC rfl rfl inferInstance rfl ?_ | refine OP.stF rfl rfl inferInstance rfl ?_ | refine OP.stS rfl rfl inferInstance rfl ?_ | refine OP.stP rfl rfl inferInstance rfl ?_ | refine OP.stM rfl rfl inferInstance rfl ?_ | refine OP.stU rfl rfl inferInstance rfl ?_ | refine OP.st (vs := [_]) rfl rfl inferInstance rfl rfl rfl ?_ | refine OP.st (vs := [_, _]) rfl rfl inferInstance rfl rfl rfl ?_ | refine OP.st (vs := [_, _, _]) rfl rfl inferInstance rfl rfl rfl ?_))
  all_goals refine Fin.ret2 (h0 := .inl rfl) rfl rfl rfl ?_
  all_goals exact ⟨rfl, rfl⟩
set_option maxHeartbeats 2000000 in
theorem ApplyOdd_fn (n : Nat) (hn1 : 1 ≤ n) (hn2 : n ≤ 2048) (kind : Int) (hk : ¬ (1 ≤ kind ∧ kind ≤ 3)) (a : Option Addr) (c : Nat) (w : World) :
    Does Tryd.prog 22 #[.slice a n c, .int .i64 kind] [] w fun v Γ => v = .tuple #[.slice none 0 0, .int .i64 160] ∧ Γ = [] := by
  obtain ⟨q1, q2, q3, hm⟩ := len_at hn2 (by omega)
  have hlv := lenV_ok hn1 hn2
  generalize lenN (2 * n - 1) = m at *
  obtain ⟨l, hl⟩ := tab_ex hm
  have hW := fun w => WeightsOdd_fn m hm l hl kind hk w
  refine Does.enter Tryd.func22 rfl Tryd.ntmps22 rfl (St.start w) ?_
  repeat' (first | refine Fin.tail ?_ | refine Fin.then_normal ?_ | refine Fin.then_exit ?_ | refine Fin.then_ret ?_ | refine Fin.block_normal ?_ | refine Fin.block_ret ?_ | refine Fin.block_hit ?_ | refine Fin.block_miss rfl ?_ | refine Fin.loop_exit ?_ | refine Fin.loop_ret ?_ | refine WP.seq ?_ | (refine WP.regionQ (by kernel_rfl) (by kernel_rfl) ?_) | refine WP.block ?_ | refine WP.region ?_ | refine WP.skip ?_ | refine WP.exit ?_ | refine WP.ret ?_ | refine WP.label ?_ | refine WP.cond_true rfl ?_ | refine WP.cond_false rfl ?_ | (refine WP.cond_dec rfl (fun h => ?_) (fun h => ?_) <;> (try (exfalso; omega))) | (refine WP.cond_bool rfl (fun h => ?_) (fun h => ?_)) | refine WL.nil ?_ | refine WL.cons ?_ | (show OP _ _ _ _ _ _ _ ⟨_, .move _, _, _, _, none⟩ _ _; first | refine OP.mI rfl rfl ?_ | refine OP.mB rfl rfl ?_ | refine OP.mC rfl rfl ?_ | refine OP.mF rfl rfl ?_ | refine OP.mS rfl rfl ?_ | refine OP.mP rfl rfl ?_ | refine OP.mA rfl rfl ?_ | refine OP.mT rfl rfl ?_ | refine OP.mM rfl rfl ?_ | refine OP.mU rfl rfl ?_ | refine OP.move rfl rfl ?_) | (show OP _ _ _ _ _ _ _ ⟨_, .assign _, _, _, _, none⟩ _ _; first | refine OP.aI rfl rfl ?_ | refine OP.aB rfl rfl ?_ | refine OP.aC rfl rfl ?_ | refine OP.aF rfl rfl ?_ | refine OP.aS rfl rfl ?_ | refine OP.aP rfl rfl ?_ | refine OP.aA rfl rfl ?_ | refine OP.aT rfl rfl ?_ | refine OP.aM rfl rfl ?_ | refine OP.aU rfl rfl ?_ | refine OP.assign rfl rfl ?_) | (show OP _ _ _ _ _ _ _ ⟨_, .call _, _, _, _, none⟩ _ _; first | refine OP.callq (.tuple #[.int .i64 ((2 ^ m : Nat) : Int), .int .i64 0]) rfl (fun w' _ => FLength_fn n w') (fun _ _ h => h.1.trans hlv) ?_ | refine OP.callq (.tuple #[.slice none 0 0, .int .i64 160]) rfl (fun w' _ => hW w') (fun _ _ h => h.1) ?_ | refine OP.len rfl rfl rfl ?_ | refine OP.real rfl rfl ?_ | refine OP.imag rfl rfl ?_ | refine OP.complex rfl rfl rfl ?_) | (show OP _ _ _ _ _ _ _ ⟨_, .binOp _ _ _ _ _, _, _, _, none⟩ _ _; first | (refine OP.add rfl rfl rfl ?_ ?_ ?_; omega; omega) | refine OP.lss rfl rfl rfl ?_ | refine OP.neq rfl rfl rfl ?_ | refine OP.neq2 rfl rfl rfl ?_ | refine OP.neqd rfl rfl rfl ?_ | (refine OP.mul rfl rfl rfl ?_ ?_ ?_; omega; omega)) | refine OP.extract rfl rfl rfl ?_ | (show OP _ _ _ _ _ _ _ ⟨_, .load _ _, _, _, _, none⟩ _ _; first | refine OP.ld rfl rfl inferInstance rfl ?_ | refine OP.load rfl rfl (Sees.old0 (by assumption)) ?_ | refine OP.ldA rfl rfl inferInstance rfl ?_) | (show OP _ _ _ _ _ _ _ ⟨_, .store _ _ _, _, _, _, none⟩ _ _; first | refine OP.stI rfl rfl inferInstance rfl ?_ | refine OP.stB rfl rfl inferInstance rfl ?_ | refine OP.stC rfl rfl inferInstance rfl ?_ | refine OP.stF rfl rfl inferInstance rfl ?_ | refine OP.stS rfl rfl inferInstance rfl ?_ | refine OP.stP rfl rfl inferInstance rfl ?_ | refine OP.stM rfl rfl inferInstance rfl ?_ | refine OP.stU rfl rfl inferInstance rfl ?_ | refine OP.st (vs := [_]) rfl rfl inferInstance rfl rfl rfl ?_ | refine OP.st (vs := [_, _]) rfl rfl inferInstance rfl rfl rfl ?_ | refine OP.st (vs := [_, _, _]) rfl rfl inferInstance rfl rfl rfl ?_))
  all_goals refine Fin.ret2 (h0 := .inl rfl) rfl rfl rfl ?_
  all_goals exact ⟨rfl, rfl⟩
end Go.Proofs.YtjckoflcjkajiaaDoor
end
