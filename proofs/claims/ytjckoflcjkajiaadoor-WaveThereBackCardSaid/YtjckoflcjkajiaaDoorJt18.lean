/-
  WaveThereBack: whatever the list of pairs: true, and the argument reads as it did. The row lists the two tables of math/bits. The list is of at most 2^47 bytes (the form's own reach).
-/
import Derived.Test.YtjckoflcjkajiaaDoorJt17
import Derived.SizedLaws
import Derived.Deep.SlicePairs
section
/- A list of pairs of numbers of 32 bits, opened. -/
set_option linter.unusedVariables false
set_option maxRecDepth 100000
namespace Go.Proofs.YtjckoflcjkajiaaDoor
open Go.ChangeShapes Go.WideShapes Go.ChangeAt Go.RowKit Go.Joins Go.Pen Go.Deep Go.Wav

theorem bytesA2 : Tryd.prog.bytesOf 22 = 8 := by kernel_rfl
/-- A list of pairs, opened. -/
theorem open_pairs32 {H : Type} {enc : TypeId × Value → H} {W : World} {fuel : Nat} {cs : List Value} {x : DataW H × List MemPlace} (h : DataW.trod enc Tryd.prog W 0 (fun _ => true) true fuel 26 cs = some x) :
    ∃ (a : Option Addr) (xs : List (Int × Int)) (c b o : Nat), cs = [.slice a xs.length c] ∧ (0 < xs.length → a = some ⟨b, o, none⟩) ∧ RdP W b o xs ∧ In32 xs ∧
      (xs.length = 0 ∨ ∃ el sp, x.1 = .slice el sp ∧ xs.length ≤ el.length) := by
  rcases open_slice Tryd.underlying26 h with ⟨rfl, rfl⟩ | ⟨a, len, cap, m, q, D, Pl, rfl, hb, hl, hm, hmm, rfl, hx⟩
  · exact ⟨none, [], 0, 0, 0, rfl, fun h => absurd h (by simp), ⟨fun i v h => by simp at h⟩, fun v h => by simp at h, .inl rfl⟩
  · have hm' : m = cap := by rw [hmm, if_pos rfl]
    subst hm'
    have key : ∀ i, i < len → ∃ p : Int × Int, W.cell? (a.add (i * 2)) = some (.int .i32 p.1) ∧ W.cell? (a.add (i * 2 + 1)) = some (.int .i32 p.2) ∧
        (-2147483648 ≤ p.1 ∧ p.1 ≤ 2147483647) ∧ (-2147483648 ≤ p.2 ∧ p.2 ≤ 2147483647) := by
      intro i hi
      obtain ⟨cs', h1, h2⟩ := hx i (by omega)
      rw [cA2] at h1
      obtain ⟨_, hlen, hcell⟩ := World.cells?_some h1
      obtain ⟨ys, k, rfl, hxe, _, hn, hel⟩ := DataW.trod_array Tryd.underlying22 h2
      rw [cI32] at hel
      match ys, hn, cs', hlen with
      | [y0, y1], _, [v0, v1], _ =>
        obtain ⟨u, eu, _, wu⟩ := DataW.trod_int Tryd.underlying21 (hel 0 (by decide))
        obtain ⟨v, ev, _, wv⟩ := DataW.trod_int Tryd.underlying21 (hel 1 (by decide))
        simp at eu ev
        subst eu ev
        have e0 := hcell 0 (by omega)
        have e1 := hcell 1 (by omega)
        rw [add_add] at e0 e1
        exact ⟨(u, v), by simpa using e0, by simpa using e1, bounds_i32 wu, bounds_i32 wv⟩
    obtain ⟨pf, hpf⟩ := choose_lt key
    have hspot : 0 < len → a = ⟨a.block, a.off, none⟩ := by
      intro h0
      have := (hpf 0 h0).1
      have e : a.spot = none := by
        obtain ⟨ab, ao, sp⟩ := a
        cases sp with
        | none => rfl
        | some s =>
          exfalso
          have h := this
          unfold World.cell? at h
          cases hb : W.heap[(({ block := ab, off := ao, spot := some s } : Addr).add (0 * 2)).block]? with
          | none => rw [hb] at h; cases h
          | some o =>
            rw [hb] at h
            cases o with
            | cells c _ _ => cases h
            | _ => cases h
      obtain ⟨ab, ao, sp⟩ := a
      simp only at e; subst e; rfl
    have hxl : ((List.range len).map pf).length = len := by simp
    refine ⟨some a, (List.range len).map pf, m, a.block, a.off, by rw [hxl], fun h => by rw [hxl] at h; rw [hspot h], ⟨fun i v hv => ?_⟩, fun v hv => ?_, .inr ⟨_, _, rfl, by rw [hxl, List.length_map, List.length_range]; exact Nat.le_refl _⟩⟩
    · have hi : i < len := by rw [← hxl]; exact (List.getElem?_eq_some_iff.1 hv).1
      rw [List.getElem?_map, List.getElem?_range hi] at hv
      obtain rfl := Option.some.inj hv
      have h1 := (hpf i hi).1
      have h2 := (hpf i hi).2.1
      rw [hspot (by omega), add_mk] at h1 h2
      refine ⟨?_, ?_⟩
      · rw [Nat.zero_mul, Nat.add_zero]; exact h1
      · rw [Nat.one_mul, Nat.add_assoc]; exact h2
    · rw [List.mem_map] at hv
      obtain ⟨i, hi, rfl⟩ := hv
      exact (hpf i (List.mem_range.1 hi)).2.2
end Go.Proofs.YtjckoflcjkajiaaDoor
end
section
/- WaveThereBack, walked. %compact -/
set_option linter.unusedVariables false
set_option maxRecDepth 100000
namespace Go.Proofs.YtjckoflcjkajiaaDoor
open Go.Pen Go.Flt Go.Wav Go.Cyc Go.Qc

theorem cls_eq {a b : Cx} {u : Int × Int} (ha : cls a u) (hb : cls b u) (hu : Lt u) : ((Ieee.double.order a.1 b.1 == some .eq) && (Ieee.double.order a.2 b.2 == some .eq)) = true := by
  obtain ⟨a1, _, a2⟩ := isI_rv hu.1 ha.1
  obtain ⟨a3, _, a4⟩ := isI_rv hu.2 ha.2
  obtain ⟨b1, _, b2⟩ := isI_rv hu.1 hb.1
  obtain ⟨b3, _, b4⟩ := isI_rv hu.2 hb.2
  rw [order_eq a1 b1 (by rw [a2, b2]), order_eq a3 b3 (by rw [a4, b4])]; rfl
theorem sm_lt {u : Int × Int} (h : Sm u 1048576) : Lt u := ⟨by have := h.1; omega, by have := h.2; omega⟩
theorem E8_le : ∀ m, m < 9 → (2 : Rat) ^ 20 * G m + 1 / 32768 ≤ 1 / 300 := by decide +kernel
/-- What is known of the lists of the first half. -/
structure Half (xs : List (Int × Int)) (m : Nat) (y z : List Cx) : Prop where
  fw : forwardC m (whl xs m) = some y
  bk : backC m y = some z
  yl : y.length = 2 ^ m
  zl : z.length = 2 ^ m
  yo : ∀ (i : Nat) (a : Cx), y[i]? = some a → Ok a
  zo : ∀ (i : Nat) (a : Cx), z[i]? = some a → Ok a
  so : ∀ (i : Nat) (a : Cx), (z.map (sclC m))[i]? = some a → Ok a
  xo : ∀ (i : Nat) (a : Cx), (whl xs m)[i]? = some a → Ok a
  nr : ∀ (i : Nat) (a b : Cx), (whl xs m)[i]? = some a → (z.map (sclC m))[i]? = some b → bq (cv a - cv b) (1 / 300)
  al : ∀ (i : Nat) (a b : Cx), ((z.map (sclC m)).map whC)[i]? = some a → (whl xs m)[i]? = some b → ((Ieee.double.order a.1 b.1 == some .eq) && (Ieee.double.order a.2 b.2 == some .eq)) = true
  hd : ∃ a, y[0]? = some a ∧ cls a (isum (whU xs) (2 ^ m))
theorem half_of {xs : List (Int × Int)} (h32 : In32 xs) {m : Nat} (hm : m ≤ 12) : ∃ y z, Half xs m y z := by
  obtain ⟨y, z, h1, h2, h3, h4, h5, h6, h7, h8⟩ := whole_back hm (whl_wh xs m) (whU_sm h32)
  have hsz : sclL m z = z.map (sclC m) := rfl
  rw [hsz] at h8
  obtain ⟨y', k1, k2, k3⟩ := forward_whole (P := 20) hm (whl_wh xs m) (by decide) (fun j => whU_sm h32 j)
  obtain rfl : y = y' := by rw [h1] at k1; exact Option.some.inj k1
  have hx : ∀ (i : Nat) (a : Cx), (whl xs m)[i]? = some a → Ok a ∧ cv a = uq (whU xs i) ∧ cls a (whU xs i) := fun i a h => by
    have := (whl_wh xs m).at_ i a h
    have hl := sm_lt (whU_sm h32 i)
    obtain ⟨o, c⟩ := cls_ok this hl.1 hl.2
    exact ⟨o, c, this⟩
  have hlt : ∀ (i : Nat) (a : Cx), (z.map (sclC m))[i]? = some a → i < 2 ^ m := fun i a h => by
    have := (List.getElem?_eq_some_iff.1 h).1
    rwa [List.length_map, h4] at this
  have hz : ∀ (i : Nat) (a : Cx), (z.map (sclC m))[i]? = some a → Ok a ∧ bq (cv a - uq (whU xs i)) (1 / 640) := fun i a h => by
    obtain ⟨b, g1, g2, g3⟩ := h8.at_ i (hlt i a h)
    rw [h] at g1
    obtain rfl := Option.some.inj g1
    exact ⟨g2, g3⟩
  refine ⟨y, z, h1, h3, h2, h4, h5, h6, fun i a h => (hz i a h).1, fun i a h => (hx i a h).1, fun i a b ha hb => ?_, fun i a b ha hb => ?_, k3⟩
  · rw [(hx i a ha).2.1]
    exact (hz i b hb).2.swap.mono (by decide +kernel)
  · rw [List.getElem?_map, Option.map_eq_some_iff] at ha
    obtain ⟨c, hc, rfl⟩ := ha
    obtain ⟨o, n⟩ := hz i c hc
    exact cls_eq (whC_near (B := 1048576) (by decide) (whU_sm h32 i) o (n.mono (by decide +kernel))) (hx i b hb).2.2 (sm_lt (whU_sm h32 i))
/-- What is known of the lists of the second half. -/
structure Low (xs : List (Int × Int)) (m : Nat) (y d : List Cx) : Prop where
  fw : forwardC m (whl xs m) = some y
  di : directC m (whl xs m) = some d
  yl : y.length = 2 ^ m
  dl : d.length = 2 ^ m
  yo : ∀ (i : Nat) (a : Cx), y[i]? = some a → Ok a
  do_ : ∀ (i : Nat) (a : Cx), d[i]? = some a → Ok a
  nr : ∀ (i : Nat) (a b : Cx), y[i]? = some a → d[i]? = some b → bq (cv a - cv b) (1 / 300)
theorem low_of {xs : List (Int × Int)} (h32 : In32 xs) {m : Nat} (hm : m ≤ 8) : ∃ y d, Low xs m y d := by
  obtain ⟨y, k1, k2, k3⟩ := forward_whole (P := 20) (by omega : m ≤ 12) (whl_wh xs m) (by decide) (fun j => whU_sm h32 j)
  have hi := (whl_wh xs m).is (by decide) (whU_sm h32)
  obtain ⟨d, d1, d2⟩ := direct_err hm hi (fun j => Sm20 (whU_sm h32 j))
  refine ⟨y, d, k1, d1, k2.len, d2.len, fun i a h => (k2.is.at_ i a h).1, fun i a h => (d2.is.at_ i a h).1, fun i a b ha hb => ?_⟩
  have hlt : i < 2 ^ m := by
    have := (List.getElem?_eq_some_iff.1 ha).1
    rwa [k2.len] at this
  obtain ⟨a', g1, g2, g3⟩ := k2.at_ i hlt
  obtain ⟨b', f1, f2, f3⟩ := d2.at_ i hlt
  rw [ha] at g1
  rw [hb] at f1
  obtain rfl := Option.some.inj g1
  obtain rfl := Option.some.inj f1
  exact (g3.tri f3.swap).mono (E8_le m (by omega))
/-- The sum so far, as the statement makes it. -/
def sumC (l : List Cx) : Nat → Option Cx
  | 0 => some (0, 0)
  | k + 1 => (sumC l k).bind fun s => (l[k]?).bind fun a => addC s a
theorem sumC_cls {l : List Cx} {m : Nat} {U : Nat → Int × Int} (hw : Wh l m U) (hm : m ≤ 12) (hU : ∀ j, Sm (U j) 1048576) : ∀ k, k ≤ 2 ^ m → ∃ s, sumC l k = some s ∧ cls s (isum U k)
  | 0, _ => ⟨(0, 0), rfl, .inl rfl, .inl rfl⟩
  | k + 1, hk => by
    obtain ⟨s, e, c⟩ := sumC_cls hw hm hU k (by omega)
    have hlt : k < l.length := by rw [hw.len]; omega
    have ha := hw.at_ k l[k] (List.getElem?_eq_getElem hlt)
    have hp := pow12 hm
    have hsm : ∀ j, j ≤ 4096 → Lt (isum U j) := fun j hj => by
      have := isum_sm hU j
      have h2 : j * 1048576 ≤ 4096 * 1048576 := Nat.mul_le_mul_right _ hj
      unfold Sm at this; unfold Lt; omega
    obtain ⟨r, h1, h2⟩ := addC_cls c ha (hsm k (by omega)) (sm_lt (hU k)) (hsm (k + 1) (by omega))
    exact ⟨r, by unfold sumC; rw [e, Option.bind_some, List.getElem?_eq_getElem hlt, Option.bind_some, h1], h2⟩
set_option maxHeartbeats 8000000 in
theorem ThereBack_fn (xs : List (Int × Int)) (h32 : In32 xs) (hl : xs.length ≤ 1152921504606846976) (a : Option Addr) (b o c : Nat) (ha : 0 < xs.length → a = some ⟨b, o, none⟩) (w : World) (hr : RdP w b o xs) (hT : TzT w) :
    Does Tryd.prog 4 #[.slice a xs.length c] [] w fun v Γ => v = .bool true ∧ Γ = [] := by
  have hal := fun w h => alive3_fn w h
  have hw12 := fun w h => wholes_fn xs h32 hl 12 (by decide) a b o c ha w h
  have hw8 := fun w h => wholes_fn xs h32 hl 8 (by decide) a b o c ha w h
  rw [show ((2 ^ 12 : Nat) : Int) = 4096 by decide] at hw12
  rw [show ((2 ^ 8 : Nat) : Int) = 256 by decide] at hw8
  refine Does.enter Tryd.func4 rfl Tryd.ntmps4 rfl (St.start w) ?_
  repeat' (first | refine Fin.tail ?_ | refine Fin.then_normal ?_ | refine Fin.then_exit ?_ | refine Fin.then_ret ?_ | refine Fin.block_normal ?_ | refine Fin.block_ret ?_ | refine Fin.block_hit ?_ | refine Fin.block_miss rfl ?_ | refine Fin.loop_exit ?_ | refine Fin.loop_ret ?_ | refine WP.seq ?_ | (refine WP.regionQ (by kernel_rfl) (by kernel_rfl) ?_) | refine WP.block ?_ | refine WP.region ?_ | refine WP.skip ?_ | refine WP.exit ?_ | refine WP.ret ?_ | refine WP.label ?_ | refine WP.cond_true rfl ?_ | refine WP.cond_false rfl ?_ | (refine WP.cond_dec rfl (fun h => ?_) (fun h => ?_) <;> (try (exfalso; omega))) | (refine WP.cond_bool rfl (fun h => ?_) (fun h => ?_)) | refine WL.nil ?_ | refine WL.cons ?_ | (show OP _ _ _ _ _ _ _ ⟨_, _, _, _, _, some _⟩ _ _; first | refine OP.guard_yes rfl rfl ?_ | refine OP.guard_no rfl rfl rfl rfl ?_ | refine OP.guard_un rfl rfl rfl ?_ | refine OP.guard_no0 rfl rfl rfl ?_ | (refine OP.guard_dec rfl rfl (fun h => ?_) (fun h => ?_) <;> (try (exfalso; omega))) | refine OP.guard_bool rfl rfl (fun h => ?_) (fun h => ?_)) | (show OP _ _ _ _ _ _ _ ⟨_, .move _, _, _, _, none⟩ _ _; first | refine OP.mI rfl rfl ?_ | refine OP.mB rfl rfl ?_ | refine OP.mC rfl rfl ?_ | refine OP.mF rfl rfl ?_ | refine OP.mS rfl rfl ?_ | refine OP.mP rfl rfl ?_ | refine OP.mA rfl rfl ?_ | refine OP.mT rfl rfl ?_ | refine OP.mM rfl rfl ?_ | refine OP.mU rfl rfl ?_ | refine OP.move rfl rfl ?_) | (show OP _ _ _ _ _ _ _ ⟨_, .assign _, _, _, _, none⟩ _ _; first | refine OP.aI rfl rfl ?_ | refine OP.aB rfl rfl ?_ | refine OP.aC rfl rfl ?_ | refine OP.aF rfl rfl ?_ | refine OP.aS rfl rfl ?_ | refine OP.aP rfl rfl ?_ | refine OP.aA rfl rfl ?_ | refine OP.aT rfl rfl ?_ | refine OP.aM rfl rfl ?_ | refine OP.aU rfl rfl ?_ | refine OP.assign rfl rfl ?_) | (show OP _ _ _ _ _ _ _ ⟨_, .call _, _, _, _, none⟩ _ _; first | refine OP.callq _ rfl (fun w' hst => hal w' (hT.over hst (by simp))) (fun _ _ h => h.1) ?_ | (refine OP.call rfl (fun w' hst => hw12 w' (hr.over hst (by simp))) (fun _ _ hR => ?_); obtain ⟨m, q, hm, rfl, rfl⟩ := hR) | refine OP.len rfl rfl rfl ?_) | (show OP _ _ _ _ _ _ _ ⟨_, .binOp _ _ _ _ _, _, _, _, none⟩ _ _; first | (refine OP.add rfl rfl rfl ?_ ?_ ?_; omega; omega) | refine OP.lss rfl rfl rfl ?_ | refine OP.eql rfl rfl rfl ?_ | refine OP.neq rfl rfl rfl ?_ | refine OP.eql2 rfl rfl rfl ?_ | refine OP.eqd rfl rfl rfl ?_ | refine OP.eqlb rfl rfl rfl ?_ | refine OP.neq2 rfl rfl rfl ?_ | refine OP.neqd rfl rfl rfl ?_) | (show OP _ _ _ _ _ _ _ ⟨_, .unOp _ _ _, _, _, _, none⟩ _ _; first | refine OP.notd rfl rfl ?_ | refine OP.not rfl rfl ?_ | (refine OP.neg rfl rfl ?_ ?_ ?_; omega; omega)) | (show OP _ _ _ _ _ _ _ ⟨_, .pick _ _ _, _, _, _, none⟩ _ _; first | refine OP.pick_true rfl rfl ?_ | refine OP.pick_false rfl rfl ?_) | refine OP.extract rfl rfl rfl ?_ | (show OP _ _ _ _ _ _ _ ⟨_, .load _ _, _, _, _, none⟩ _ _; first | refine OP.ld rfl rfl inferInstance rfl ?_ | refine OP.load rfl rfl (Sees.old0 (by assumption)) ?_ | refine OP.ldA rfl rfl inferInstance rfl ?_))
  obtain ⟨y, z, H⟩ := half_of h32 hm
  have hxl := whl_len xs m
  have hp := pow12 hm
  have hp0 := Nat.two_pow_pos m
  have hcp := fun w b c h => copied3_fn (whl xs m) (by omega) b 0 c w h
  have hcp2 := fun w b c h => copied3_fn y (by rw [H.yl]; omega) b 0 c w h
  have hfw := fun w b c h hT => Forward_fn m hm _ y hxl H.fw b 0 c w h hT
  have hbk := fun w b c h hT => Back_fn m hm y z H.yl H.bk (sclC m) (fun a ha w => by
    obtain ⟨i, hi⟩ := List.mem_iff_getElem?.1 ha
    have := H.zo i a hi
    exact ScaleG_fn m a hm this.f1 this.f2 this.w w) b 0 c w h hT
  have hsl : (z.map (sclC m)).length = 2 ^ m := by rw [List.length_map, H.zl]
  have hne := fun w b c b' c' h h' => near_fn (2 ^ m) hp (whl xs m) (z.map (sclC m)) hxl hsl H.xo H.so H.nr b 0 c b' 0 c' w h h'
  have hwh := fun w b c h => Whole_fn (2 ^ m) hp (z.map (sclC m)) hsl H.so b 0 c w h
  have hali := fun w b c b' c' h h' => Alike_fn (2 ^ m) hp ((z.map (sclC m)).map whC) (whl xs m) (by rw [List.length_map, hsl]) hxl H.al b 0 c b' 0 c' w h h'
  obtain ⟨y0, hy0, hy0c⟩ := H.hd
  obtain ⟨s0, hs0, hs0c⟩ := sumC_cls (whl_wh xs m) hm (whU_sm h32) (2 ^ m) (Nat.le_refl _)
  have hsc := fun k hk => sumC_cls (whl_wh xs m) hm (whU_sm h32) k hk
  have hcmp : ((Ieee.double.order y0.1 s0.1 == some .eq) && (Ieee.double.order y0.2 s0.2 == some .eq)) = true := by
    refine cls_eq hy0c hs0c ?_
    have := isum_sm (whU_sm h32) (2 ^ m)
    have h2 : 2 ^ m * 1048576 ≤ 4096 * 1048576 := Nat.mul_le_mul_right _ hp
    unfold Sm at this; unfold Lt; omega
  rw [hxl] at hcp
  rw [H.yl] at hcp2
  obtain ⟨hyl, hzl⟩ := H.yl, H.zl
  generalize hN : 2 ^ m = N at *
  repeat' (first | refine Fin.tail ?_ | refine Fin.then_normal ?_ | refine Fin.then_exit ?_ | refine Fin.then_ret ?_ | refine Fin.block_normal ?_ | refine Fin.block_ret ?_ | refine Fin.block_hit ?_ | refine Fin.block_miss rfl ?_ | refine Fin.loop_exit ?_ | refine Fin.loop_ret ?_ | refine WP.seq ?_ | (refine WP.regionQ (by kernel_rfl) (by kernel_rfl) ?_) | refine WP.block ?_ | refine WP.region ?_ | refine WP.skip ?_ | refine WP.exit ?_ | refine WP.ret ?_ | refine WP.label ?_ | refine WP.cond_true rfl ?_ | refine WP.cond_false rfl ?_ | (refine WP.cond_dec rfl (fun h => ?_) (fun h => ?_) <;> (try (exfalso; omega))) | (refine WP.cond_bool rfl (fun h => ?_) (fun h => ?_)) | refine WL.nil ?_ | refine WL.cons ?_ | (show OP _ _ _ _ _ _ _ ⟨_, _, _, _, _, some _⟩ _ _; first | refine OP.guard_yes rfl rfl ?_ | refine OP.guard_no rfl rfl rfl rfl ?_ | refine OP.guard_un rfl rfl rfl ?_ | refine OP.guard_no0 rfl rfl rfl ?_ | (refine OP.guard_dec rfl rfl (fun h => ?_) (fun h => ?_) <;> (try (exfalso; omega))) | refine OP.guard_bool rfl rfl (fun h => ?_) (fun h => ?_)) | (show OP _ _ _ _ _ _ _ ⟨_, .move _, _, _, _, none⟩ _ _; first | refine OP.mI rfl rfl ?_ | refine OP.mB rfl rfl ?_ | refine OP.mC rfl rfl ?_ | refine OP.mF rfl rfl ?_ | refine OP.mS rfl rfl ?_ | refine OP.mP rfl rfl ?_ | refine OP.mA rfl rfl ?_ | refine OP.mT rfl rfl ?_ | refine OP.mM rfl rfl ?_ | refine OP.mU rfl rfl ?_ | refine OP.move rfl rfl ?_) | (show OP _ _ _ _ _ _ _ ⟨_, .assign _, _, _, _, none⟩ _ _; first | refine OP.aI rfl rfl ?_ | refine OP.aB rfl rfl ?_ | refine OP.aC rfl rfl ?_ | refine OP.aF rfl rfl ?_ | refine OP.aS rfl rfl ?_ | refine OP.aP rfl rfl ?_ | refine OP.aA rfl rfl ?_ | refine OP.aT rfl rfl ?_ | refine OP.aM rfl rfl ?_ | refine OP.aU rfl rfl ?_ | refine OP.assign rfl rfl ?_) | (show OP _ _ _ _ _ _ _ ⟨_, .call _, _, _, _, none⟩ _ _; first | (refine OP.call rfl (fun w' hst => hcp w' _ _ (RdC.own hst (List.Mem.head _))) (fun _ _ hR => ?_); obtain ⟨cb, cc, csp, rfl, rfl⟩ := hR) | (refine OP.call rfl (fun w' hst => hfw w' _ _ (RdC.own hst (List.Mem.head _)) (hT.over hst (by simp))) (fun _ _ hR => ?_); obtain ⟨yb, rfl, rfl⟩ := hR) | refine OP.len rfl rfl rfl ?_) | (show OP _ _ _ _ _ _ _ ⟨_, .binOp _ _ _ _ _, _, _, _, none⟩ _ _; first | (refine OP.add rfl rfl rfl ?_ ?_ ?_; omega; omega) | refine OP.lss rfl rfl rfl ?_ | refine OP.eql rfl rfl rfl ?_ | refine OP.neq rfl rfl rfl ?_ | refine OP.eql2 rfl rfl rfl ?_ | refine OP.eqd rfl rfl rfl ?_ | refine OP.eqlb rfl rfl rfl ?_ | refine OP.neq2 rfl rfl rfl ?_ | refine OP.neqd rfl rfl rfl ?_) | (show OP _ _ _ _ _ _ _ ⟨_, .unOp _ _ _, _, _, _, none⟩ _ _; first | refine OP.notd rfl rfl ?_ | refine OP.not rfl rfl ?_ | (refine OP.neg rfl rfl ?_ ?_ ?_; omega; omega)) | (show OP _ _ _ _ _ _ _ ⟨_, .pick _ _ _, _, _, _, none⟩ _ _; first | refine OP.pick_true rfl rfl ?_ | refine OP.pick_false rfl rfl ?_) | refine OP.extract rfl rfl rfl ?_ | (show OP _ _ _ _ _ _ _ ⟨_, .load _ _, _, _, _, none⟩ _ _; first | refine OP.ld rfl rfl inferInstance rfl ?_ | refine OP.load rfl rfl (Sees.old0 (by assumption)) ?_ | refine OP.ldA rfl rfl inferInstance rfl ?_))
  repeat' (first | refine Fin.tail ?_ | refine Fin.then_normal ?_ | refine Fin.then_exit ?_ | refine Fin.then_ret ?_ | refine Fin.block_normal ?_ | refine Fin.block_ret ?_ | refine Fin.block_hit ?_ | refine Fin.block_miss rfl ?_ | refine Fin.loop_exit ?_ | refine Fin.loop_ret ?_ | refine WP.seq ?_ | (refine WP.regionQ (by kernel_rfl) (by kernel_rfl) ?_) | refine WP.block ?_ | refine WP.region ?_ | refine WP.skip ?_ | refine WP.exit ?_ | refine WP.ret ?_ | refine WP.label ?_ | refine WP.cond_true rfl ?_ | refine WP.cond_false rfl ?_ | (refine WP.cond_dec rfl (fun h => ?_) (fun h => ?_) <;> (try (exfalso; omega))) | (refine WP.cond_bool rfl (fun h => ?_) (fun h => ?_)) | refine WL.nil ?_ | refine WL.cons ?_ | (show OP _ _ _ _ _ _ _ ⟨_, _, _, _, _, some _⟩ _ _; first | refine OP.guard_yes rfl rfl ?_ | refine OP.guard_no rfl rfl rfl rfl ?_ | refine OP.guard_un rfl rfl rfl ?_ | refine OP.guard_no0 rfl rfl rfl ?_ | (refine OP.guard_dec rfl rfl (fun h => ?_) (fun h => ?_) <;> (try (exfalso; omega))) | refine OP.guard_bool rfl rfl (fun h => ?_) (fun h => ?_)) | (show OP _ _ _ _ _ _ _ ⟨_, .move _, _, _, _, none⟩ _ _; first | refine OP.mI rfl rfl ?_ | refine OP.mB rfl rfl ?_ | refine OP.mC rfl rfl ?_ | refine OP.mF rfl rfl ?_ | refine OP.mS rfl rfl ?_ | refine OP.mP rfl rfl ?_ | refine OP.mA rfl rfl ?_ | refine OP.mT rfl rfl ?_ | refine OP.mM rfl rfl ?_ | refine OP.mU rfl rfl ?_ | refine OP.move rfl rfl ?_) | (show OP _ _ _ _ _ _ _ ⟨_, .assign _, _, _, _, none⟩ _ _; first | refine OP.aI rfl rfl ?_ | refine OP.aB rfl rfl ?_ | refine OP.aC rfl rfl ?_ | refine OP.aF rfl rfl ?_ | refine OP.aS rfl rfl ?_ | refine OP.aP rfl rfl ?_ | refine OP.aA rfl rfl ?_ | refine OP.aT rfl rfl ?_ | refine OP.aM rfl rfl ?_ | refine OP.aU rfl rfl ?_ | refine OP.assign rfl rfl ?_) | (show OP _ _ _ _ _ _ _ ⟨_, .call _, _, _, _, none⟩ _ _; first | (refine OP.call rfl (fun w' hst => hcp2 w' _ _ (RdC.own hst (List.Mem.head _))) (fun _ _ hR => ?_); obtain ⟨cb2, cc2, csp2, rfl, rfl⟩ := hR) | (refine OP.call rfl (fun w' hst => hbk w' _ _ (RdC.own hst (List.Mem.head _)) (hT.over hst (by simp))) (fun _ _ hR => ?_); obtain ⟨zb, rfl, rfl⟩ := hR) | refine OP.callq (.bool true) rfl (fun w' hst => hne w' _ _ _ _ (RdC.own hst (List.Mem.tail _ (List.Mem.tail _ (List.Mem.tail _ (List.Mem.tail _ (List.Mem.head _)))))) (RdC.own hst (List.Mem.head _))) (fun _ _ h => h.1) ?_ | (refine OP.call rfl (fun w' hst => hwh w' _ _ (RdC.own hst (List.Mem.head _))) (fun _ _ hR => ?_); obtain ⟨hb, hc, hsp, rfl, rfl⟩ := hR) | refine OP.callq (.bool true) rfl (fun w' hst => hali w' _ _ _ _ (RdC.own hst (List.Mem.head _)) (RdC.own hst (List.Mem.tail _ (List.Mem.tail _ (List.Mem.tail _ (List.Mem.tail _ (List.Mem.tail _ (List.Mem.head _)))))))) (fun _ _ h => h.1) ?_ | refine OP.len rfl rfl rfl ?_) | (show OP _ _ _ _ _ _ _ ⟨_, .binOp _ _ _ _ _, _, _, _, none⟩ _ _; first | (refine OP.add rfl rfl rfl ?_ ?_ ?_; omega; omega) | refine OP.lss rfl rfl rfl ?_ | refine OP.eql rfl rfl rfl ?_ | refine OP.neq rfl rfl rfl ?_ | refine OP.eql2 rfl rfl rfl ?_ | refine OP.eqd rfl rfl rfl ?_ | refine OP.eqlb rfl rfl rfl ?_ | refine OP.neq2 rfl rfl rfl ?_ | refine OP.neqd rfl rfl rfl ?_) | (show OP _ _ _ _ _ _ _ ⟨_, .unOp _ _ _, _, _, _, none⟩ _ _; first | refine OP.notd rfl rfl ?_ | refine OP.not rfl rfl ?_ | (refine OP.neg rfl rfl ?_ ?_ ?_; omega; omega)) | (show OP _ _ _ _ _ _ _ ⟨_, .pick _ _ _, _, _, _, none⟩ _ _; first | refine OP.pick_true rfl rfl ?_ | refine OP.pick_false rfl rfl ?_) | refine OP.extract rfl rfl rfl ?_ | (show OP _ _ _ _ _ _ _ ⟨_, .load _ _, _, _, _, none⟩ _ _; first | refine OP.ld rfl rfl inferInstance rfl ?_ | refine OP.load rfl rfl (Sees.old0 (by assumption)) ?_ | refine OP.ldA rfl rfl inferInstance rfl ?_))
  refine WP.drop (Γ' := [(yb, .cells (cxs y ++ []).toArray 31 (0, 0)), (q, .cells (cxs (whl xs m) ++ []).toArray 31 (0, 0))]) (.cons _ (.cons _ (.cons _ (.cons_cons _ (.cons _ (.cons_cons _ (List.nil_sublist _))))))) ?_
  refine WP.loop [8, 9, 53, 54, 55, 56, 57, 58, 59, 60, 61, 62, 63, 64] (fun z : Nat × Cx => [(9, .int .i64 z.1), (8, .complex .f64 z.2.1 z.2.2)]) (fun z => [(yb, .cells (cxs y ++ []).toArray 31 (0, 0)), (q, .cells (cxs (whl xs m) ++ []).toArray 31 (0, 0))]) (fun z => z.1 ≤ N ∧ sumC (whl xs m) z.1 = some z.2) (fun z => N - z.1) (0, (0, 0)) ⟨by dsimp only; omega, rfl⟩ rfl ⟨rfl, rfl, trivial⟩ ?_
  rintro ⟨k, acc⟩ jk ⟨k1, k2⟩
  dsimp only [updL] at k1 k2 ⊢
  by_cases hk : k < N
  · obtain ⟨s1, hs1, _⟩ := hsc (k + 1) (by omega)
    have hs2 := hs1
    unfold sumC at hs2
    rw [k2, Option.bind_some] at hs2
    simp only [Option.bind_eq_some_iff] at hs2
    obtain ⟨e, he, had⟩ := hs2
    have le := cxs_at (sp := []) he
    repeat' (first | refine OP.indexAddr (j := k) rfl rfl rfl rfl hk ?_ | refine OP.load rfl rfl (Sees.own (List.Mem.tail _ (List.Mem.head _)) le) ?_ | refine Fin.tail ?_ | refine Fin.then_normal ?_ | refine Fin.then_exit ?_ | refine Fin.then_ret ?_ | refine Fin.block_normal ?_ | refine Fin.block_ret ?_ | refine Fin.block_hit ?_ | refine Fin.block_miss rfl ?_ | refine Fin.loop_exit ?_ | refine Fin.loop_ret ?_ | refine WP.seq ?_ | (refine WP.regionQ (by kernel_rfl) (by kernel_rfl) ?_) | refine WP.block ?_ | refine WP.region ?_ | refine WP.skip ?_ | refine WP.exit ?_ | refine WP.ret ?_ | refine WP.label ?_ | refine WP.cond_true rfl ?_ | refine WP.cond_false rfl ?_ | (refine WP.cond_dec rfl (fun h => ?_) (fun h => ?_) <;> (try (exfalso; omega))) | (refine WP.cond_bool rfl (fun h => ?_) (fun h => ?_)) | refine WL.nil ?_ | refine WL.cons ?_ | (show OP _ _ _ _ _ _ _ ⟨_, _, _, _, _, some _⟩ _ _; first | refine OP.guard_yes rfl rfl ?_ | refine OP.guard_no rfl rfl rfl rfl ?_ | refine OP.guard_un rfl rfl rfl ?_ | refine OP.guard_no0 rfl rfl rfl ?_ | (refine OP.guard_dec rfl rfl (fun h => ?_) (fun h => ?_) <;> (try (exfalso; omega))) | refine OP.guard_bool rfl rfl (fun h => ?_) (fun h => ?_)) | (show OP _ _ _ _ _ _ _ ⟨_, .move _, _, _, _, none⟩ _ _; first | refine OP.mI rfl rfl ?_ | refine OP.mB rfl rfl ?_ | refine OP.mC rfl rfl ?_ | refine OP.mF rfl rfl ?_ | refine OP.mS rfl rfl ?_ | refine OP.mP rfl rfl ?_ | refine OP.mA rfl rfl ?_ | refine OP.mT rfl rfl ?_ | refine OP.mM rfl rfl ?_ | refine OP.mU rfl rfl ?_ | refine OP.move rfl rfl ?_) | (show OP _ _ _ _ _ _ _ ⟨_, .assign _, _, _, _, none⟩ _ _; first | refine OP.aI rfl rfl ?_ | refine OP.aB rfl rfl ?_ | refine OP.aC rfl rfl ?_ | refine OP.aF rfl rfl ?_ | refine OP.aS rfl rfl ?_ | refine OP.aP rfl rfl ?_ | refine OP.aA rfl rfl ?_ | refine OP.aT rfl rfl ?_ | refine OP.aM rfl rfl ?_ | refine OP.aU rfl rfl ?_ | refine OP.assign rfl rfl ?_) | (show OP _ _ _ _ _ _ _ ⟨_, .call _, _, _, _, none⟩ _ _; first | refine OP.callq _ rfl (fun w _ => RAdd_fn acc e s1 had w) (fun _ _ h => h.1) ?_ | refine OP.len rfl rfl rfl ?_) | (show OP _ _ _ _ _ _ _ ⟨_, .binOp _ _ _ _ _, _, _, _, none⟩ _ _; first | (refine OP.add rfl rfl rfl ?_ ?_ ?_; omega; omega) | refine OP.lss rfl rfl rfl ?_ | refine OP.eql rfl rfl rfl ?_ | refine OP.neq rfl rfl rfl ?_ | refine OP.eql2 rfl rfl rfl ?_ | refine OP.eqd rfl rfl rfl ?_ | refine OP.eqlb rfl rfl rfl ?_ | refine OP.neq2 rfl rfl rfl ?_ | refine OP.neqd rfl rfl rfl ?_) | (show OP _ _ _ _ _ _ _ ⟨_, .unOp _ _ _, _, _, _, none⟩ _ _; first | refine OP.notd rfl rfl ?_ | refine OP.not rfl rfl ?_ | (refine OP.neg rfl rfl ?_ ?_ ?_; omega; omega)) | (show OP _ _ _ _ _ _ _ ⟨_, .pick _ _ _, _, _, _, none⟩ _ _; first | refine OP.pick_true rfl rfl ?_ | refine OP.pick_false rfl rfl ?_) | refine OP.extract rfl rfl rfl ?_ | (show OP _ _ _ _ _ _ _ ⟨_, .load _ _, _, _, _, none⟩ _ _; first | refine OP.ld rfl rfl inferInstance rfl ?_ | refine OP.load rfl rfl (Sees.old0 (by assumption)) ?_ | refine OP.ldA rfl rfl inferInstance rfl ?_))
    refine Fin.loop_normal fun w' hst => ⟨(k + 1, s1), ⟨by dsimp only; omega, hs1⟩, by dsimp only; omega, by (repeat' (first | exact Agree.refl _ _ | refine Agree.upd rfl ?_ | refine Agree.hav rfl ?_)), ⟨rfl, rfl, trivial⟩, hst⟩
  · have ek : k = N := by omega
    subst ek
    obtain rfl : acc = s0 := by rw [k2] at hs0; exact Option.some.inj hs0
    have ly := cxs_at (sp := []) hy0
    repeat' (first | refine OP.indexAddr (j := 0) rfl rfl rfl rfl hp0 ?_ | refine OP.load rfl rfl (Sees.own (List.Mem.head _) ly) ?_ | refine Fin.tail ?_ | refine Fin.then_normal ?_ | refine Fin.then_exit ?_ | refine Fin.then_ret ?_ | refine Fin.block_normal ?_ | refine Fin.block_ret ?_ | refine Fin.block_hit ?_ | refine Fin.block_miss rfl ?_ | refine Fin.loop_exit ?_ | refine Fin.loop_ret ?_ | refine WP.seq ?_ | (refine WP.regionQ (by kernel_rfl) (by kernel_rfl) ?_) | refine WP.block ?_ | refine WP.region ?_ | refine WP.skip ?_ | refine WP.exit ?_ | refine WP.ret ?_ | refine WP.label ?_ | refine WP.cond_true rfl ?_ | refine WP.cond_false rfl ?_ | (refine WP.cond_dec rfl (fun h => ?_) (fun h => ?_) <;> (try (exfalso; omega))) | (refine WP.cond_bool rfl (fun h => ?_) (fun h => ?_)) | refine WL.nil ?_ | refine WL.cons ?_ | (show OP _ _ _ _ _ _ _ ⟨_, _, _, _, _, some _⟩ _ _; first | refine OP.guard_yes rfl rfl ?_ | refine OP.guard_no rfl rfl rfl rfl ?_ | refine OP.guard_un rfl rfl rfl ?_ | refine OP.guard_no0 rfl rfl rfl ?_ | (refine OP.guard_dec rfl rfl (fun h => ?_) (fun h => ?_) <;> (try (exfalso; omega))) | refine OP.guard_bool rfl rfl (fun h => ?_) (fun h => ?_)) | (show OP _ _ _ _ _ _ _ ⟨_, .move _, _, _, _, none⟩ _ _; first | refine OP.mI rfl rfl ?_ | refine OP.mB rfl rfl ?_ | refine OP.mC rfl rfl ?_ | refine OP.mF rfl rfl ?_ | refine OP.mS rfl rfl ?_ | refine OP.mP rfl rfl ?_ | refine OP.mA rfl rfl ?_ | refine OP.mT rfl rfl ?_ | refine OP.mM rfl rfl ?_ | refine OP.mU rfl rfl ?_ | refine OP.move rfl rfl ?_) | (show OP _ _ _ _ _ _ _ ⟨_, .assign _, _, _, _, none⟩ _ _; first | refine OP.aI rfl rfl ?_ | refine OP.aB rfl rfl ?_ | refine OP.aC rfl rfl ?_ | refine OP.aF rfl rfl ?_ | refine OP.aS rfl rfl ?_ | refine OP.aP rfl rfl ?_ | refine OP.aA rfl rfl ?_ | refine OP.aT rfl rfl ?_ | refine OP.aM rfl rfl ?_ | refine OP.aU rfl rfl ?_ | refine OP.assign rfl rfl ?_) | (show OP _ _ _ _ _ _ _ ⟨_, .call _, _, _, _, none⟩ _ _; first | (refine OP.call rfl (fun w' hst => hw8 w' (hr.over hst (by simp))) (fun _ _ hR => ?_); obtain ⟨m2, q2, hm2, rfl, rfl⟩ := hR) | refine OP.len rfl rfl rfl ?_) | (show OP _ _ _ _ _ _ _ ⟨_, .binOp _ _ _ _ _, _, _, _, none⟩ _ _; first | refine OP.cneq hcmp rfl rfl rfl ?_ | (refine OP.add rfl rfl rfl ?_ ?_ ?_; omega; omega) | refine OP.lss rfl rfl rfl ?_ | refine OP.eql rfl rfl rfl ?_ | refine OP.neq rfl rfl rfl ?_ | refine OP.eql2 rfl rfl rfl ?_ | refine OP.eqd rfl rfl rfl ?_ | refine OP.eqlb rfl rfl rfl ?_ | refine OP.neq2 rfl rfl rfl ?_ | refine OP.neqd rfl rfl rfl ?_) | (show OP _ _ _ _ _ _ _ ⟨_, .unOp _ _ _, _, _, _, none⟩ _ _; first | refine OP.notd rfl rfl ?_ | refine OP.not rfl rfl ?_ | (refine OP.neg rfl rfl ?_ ?_ ?_; omega; omega)) | (show OP _ _ _ _ _ _ _ ⟨_, .pick _ _ _, _, _, _, none⟩ _ _; first | refine OP.pick_true rfl rfl ?_ | refine OP.pick_false rfl rfl ?_) | refine OP.extract rfl rfl rfl ?_ | (show OP _ _ _ _ _ _ _ ⟨_, .load _ _, _, _, _, none⟩ _ _; first | refine OP.ld rfl rfl inferInstance rfl ?_ | refine OP.load rfl rfl (Sees.old0 (by assumption)) ?_ | refine OP.ldA rfl rfl inferInstance rfl ?_))
    obtain ⟨y2, d2, L⟩ := low_of h32 hm2
    have hxl2 := whl_len xs m2
    have hp2 := pow12 (show m2 ≤ 12 by omega)
    have hcp3 := fun w b c h => copied3_fn (whl xs m2) (by omega) b 0 c w h
    have hfw2 := fun w b c h hT => Forward_fn m2 (by omega) _ y2 hxl2 L.fw b 0 c w h hT
    have hdi := fun w b c h => Direct_fn m2 hm2 _ d2 hxl2 L.di b 0 c w h
    have hne2 := fun w b c b' c' h h' => near_fn (2 ^ m2) hp2 y2 d2 L.yl L.dl L.yo L.do_ L.nr b 0 c b' 0 c' w h h'
    rw [hxl2] at hcp3
    generalize hN2 : 2 ^ m2 = N2 at *
    repeat' (first | refine Fin.tail ?_ | refine Fin.then_normal ?_ | refine Fin.then_exit ?_ | refine Fin.then_ret ?_ | refine Fin.block_normal ?_ | refine Fin.block_ret ?_ | refine Fin.block_hit ?_ | refine Fin.block_miss rfl ?_ | refine Fin.loop_exit ?_ | refine Fin.loop_ret ?_ | refine WP.seq ?_ | (refine WP.regionQ (by kernel_rfl) (by kernel_rfl) ?_) | refine WP.block ?_ | refine WP.region ?_ | refine WP.skip ?_ | refine WP.exit ?_ | refine WP.ret ?_ | refine WP.label ?_ | refine WP.cond_true rfl ?_ | refine WP.cond_false rfl ?_ | (refine WP.cond_dec rfl (fun h => ?_) (fun h => ?_) <;> (try (exfalso; omega))) | (refine WP.cond_bool rfl (fun h => ?_) (fun h => ?_)) | refine WL.nil ?_ | refine WL.cons ?_ | (show OP _ _ _ _ _ _ _ ⟨_, _, _, _, _, some _⟩ _ _; first | refine OP.guard_yes rfl rfl ?_ | refine OP.guard_no rfl rfl rfl rfl ?_ | refine OP.guard_un rfl rfl rfl ?_ | refine OP.guard_no0 rfl rfl rfl ?_ | (refine OP.guard_dec rfl rfl (fun h => ?_) (fun h => ?_) <;> (try (exfalso; omega))) | refine OP.guard_bool rfl rfl (fun h => ?_) (fun h => ?_)) | (show OP _ _ _ _ _ _ _ ⟨_, .move _, _, _, _, none⟩ _ _; first | refine OP.mI rfl rfl ?_ | refine OP.mB rfl rfl ?_ | refine OP.mC rfl rfl ?_ | refine OP.mF rfl rfl ?_ | refine OP.mS rfl rfl ?_ | refine OP.mP rfl rfl ?_ | refine OP.mA rfl rfl ?_ | refine OP.mT rfl rfl ?_ | refine OP.mM rfl rfl ?_ | refine OP.mU rfl rfl ?_ | refine OP.move rfl rfl ?_) | (show OP _ _ _ _ _ _ _ ⟨_, .assign _, _, _, _, none⟩ _ _; first | refine OP.aI rfl rfl ?_ | refine OP.aB rfl rfl ?_ | refine OP.aC rfl rfl ?_ | refine OP.aF rfl rfl ?_ | refine OP.aS rfl rfl ?_ | refine OP.aP rfl rfl ?_ | refine OP.aA rfl rfl ?_ | refine OP.aT rfl rfl ?_ | refine OP.aM rfl rfl ?_ | refine OP.aU rfl rfl ?_ | refine OP.assign rfl rfl ?_) | (show OP _ _ _ _ _ _ _ ⟨_, .call _, _, _, _, none⟩ _ _; first | (refine OP.call rfl (fun w' hst => hcp3 w' _ _ (RdC.own hst (List.Mem.head _))) (fun _ _ hR => ?_); obtain ⟨cb3, cc3, csp3, rfl, rfl⟩ := hR) | (refine OP.call rfl (fun w' hst => hfw2 w' _ _ (RdC.own hst (List.Mem.head _)) (hT.over hst (by simp))) (fun _ _ hR => ?_); obtain ⟨yb2, rfl, rfl⟩ := hR) | refine OP.len rfl rfl rfl ?_) | (show OP _ _ _ _ _ _ _ ⟨_, .binOp _ _ _ _ _, _, _, _, none⟩ _ _; first | (refine OP.add rfl rfl rfl ?_ ?_ ?_; omega; omega) | refine OP.lss rfl rfl rfl ?_ | refine OP.eql rfl rfl rfl ?_ | refine OP.neq rfl rfl rfl ?_ | refine OP.eql2 rfl rfl rfl ?_ | refine OP.eqd rfl rfl rfl ?_ | refine OP.eqlb rfl rfl rfl ?_ | refine OP.neq2 rfl rfl rfl ?_ | refine OP.neqd rfl rfl rfl ?_) | (show OP _ _ _ _ _ _ _ ⟨_, .unOp _ _ _, _, _, _, none⟩ _ _; first | refine OP.notd rfl rfl ?_ | refine OP.not rfl rfl ?_ | (refine OP.neg rfl rfl ?_ ?_ ?_; omega; omega)) | (show OP _ _ _ _ _ _ _ ⟨_, .pick _ _ _, _, _, _, none⟩ _ _; first | refine OP.pick_true rfl rfl ?_ | refine OP.pick_false rfl rfl ?_) | refine OP.extract rfl rfl rfl ?_ | (show OP _ _ _ _ _ _ _ ⟨_, .load _ _, _, _, _, none⟩ _ _; first | refine OP.ld rfl rfl inferInstance rfl ?_ | refine OP.load rfl rfl (Sees.old0 (by assumption)) ?_ | refine OP.ldA rfl rfl inferInstance rfl ?_))
    repeat' (first | refine Fin.tail ?_ | refine Fin.then_normal ?_ | refine Fin.then_exit ?_ | refine Fin.then_ret ?_ | refine Fin.block_normal ?_ | refine Fin.block_ret ?_ | refine Fin.block_hit ?_ | refine Fin.block_miss rfl ?_ | refine Fin.loop_exit ?_ | refine Fin.loop_ret ?_ | refine WP.seq ?_ | (refine WP.regionQ (by kernel_rfl) (by kernel_rfl) ?_) | refine WP.block ?_ | refine WP.region ?_ | refine WP.skip ?_ | refine WP.exit ?_ | refine WP.ret ?_ | refine WP.label ?_ | refine WP.cond_true rfl ?_ | refine WP.cond_false rfl ?_ | (refine WP.cond_dec rfl (fun h => ?_) (fun h => ?_) <;> (try (exfalso; omega))) | (refine WP.cond_bool rfl (fun h => ?_) (fun h => ?_)) | refine WL.nil ?_ | refine WL.cons ?_ | (show OP _ _ _ _ _ _ _ ⟨_, _, _, _, _, some _⟩ _ _; first | refine OP.guard_yes rfl rfl ?_ | refine OP.guard_no rfl rfl rfl rfl ?_ | refine OP.guard_un rfl rfl rfl ?_ | refine OP.guard_no0 rfl rfl rfl ?_ | (refine OP.guard_dec rfl rfl (fun h => ?_) (fun h => ?_) <;> (try (exfalso; omega))) | refine OP.guard_bool rfl rfl (fun h => ?_) (fun h => ?_)) | (show OP _ _ _ _ _ _ _ ⟨_, .move _, _, _, _, none⟩ _ _; first | refine OP.mI rfl rfl ?_ | refine OP.mB rfl rfl ?_ | refine OP.mC rfl rfl ?_ | refine OP.mF rfl rfl ?_ | refine OP.mS rfl rfl ?_ | refine OP.mP rfl rfl ?_ | refine OP.mA rfl rfl ?_ | refine OP.mT rfl rfl ?_ | refine OP.mM rfl rfl ?_ | refine OP.mU rfl rfl ?_ | refine OP.move rfl rfl ?_) | (show OP _ _ _ _ _ _ _ ⟨_, .assign _, _, _, _, none⟩ _ _; first | refine OP.aI rfl rfl ?_ | refine OP.aB rfl rfl ?_ | refine OP.aC rfl rfl ?_ | refine OP.aF rfl rfl ?_ | refine OP.aS rfl rfl ?_ | refine OP.aP rfl rfl ?_ | refine OP.aA rfl rfl ?_ | refine OP.aT rfl rfl ?_ | refine OP.aM rfl rfl ?_ | refine OP.aU rfl rfl ?_ | refine OP.assign rfl rfl ?_) | (show OP _ _ _ _ _ _ _ ⟨_, .call _, _, _, _, none⟩ _ _; first | (refine OP.call rfl (fun w' hst => hcp3 w' _ _ (RdC.own hst (List.Mem.tail _ (List.Mem.tail _ (List.Mem.head _))))) (fun _ _ hR => ?_); obtain ⟨cb4, cc4, csp4, rfl, rfl⟩ := hR) | (refine OP.call rfl (fun w' hst => hdi w' _ _ (RdC.own hst (List.Mem.head _))) (fun _ _ hR => ?_); obtain ⟨db, rfl, rfl⟩ := hR) | refine OP.callq (.bool true) rfl (fun w' hst => hne2 w' _ _ _ _ (RdC.own hst (List.Mem.tail _ (List.Mem.tail _ (List.Mem.head _)))) (RdC.own hst (List.Mem.head _))) (fun _ _ h => h.1) ?_ | refine OP.len rfl rfl rfl ?_) | (show OP _ _ _ _ _ _ _ ⟨_, .binOp _ _ _ _ _, _, _, _, none⟩ _ _; first | (refine OP.add rfl rfl rfl ?_ ?_ ?_; omega; omega) | refine OP.lss rfl rfl rfl ?_ | refine OP.eql rfl rfl rfl ?_ | refine OP.neq rfl rfl rfl ?_ | refine OP.eql2 rfl rfl rfl ?_ | refine OP.eqd rfl rfl rfl ?_ | refine OP.eqlb rfl rfl rfl ?_ | refine OP.neq2 rfl rfl rfl ?_ | refine OP.neqd rfl rfl rfl ?_) | (show OP _ _ _ _ _ _ _ ⟨_, .unOp _ _ _, _, _, _, none⟩ _ _; first | refine OP.notd rfl rfl ?_ | refine OP.not rfl rfl ?_ | (refine OP.neg rfl rfl ?_ ?_ ?_; omega; omega)) | (show OP _ _ _ _ _ _ _ ⟨_, .pick _ _ _, _, _, _, none⟩ _ _; first | refine OP.pick_true rfl rfl ?_ | refine OP.pick_false rfl rfl ?_) | refine OP.extract rfl rfl rfl ?_ | (show OP _ _ _ _ _ _ _ ⟨_, .load _ _, _, _, _, none⟩ _ _; first | refine OP.ld rfl rfl inferInstance rfl ?_ | refine OP.load rfl rfl (Sees.old0 (by assumption)) ?_ | refine OP.ldA rfl rfl inferInstance rfl ?_))
    refine Fin.drop (List.nil_sublist _) ?_
    refine Fin.ret1 (h0 := .inl rfl) rfl rfl ?_
    exact ⟨rfl, rfl⟩
end Go.Proofs.YtjckoflcjkajiaaDoor
end
section
set_option linter.unusedVariables false
set_option maxRecDepth 100000
namespace Go.Proofs.YtjckoflcjkajiaaDoor
open Go.ChangeShapes Go.WideShapes Go.ChangeAt Go.RowKit Go.Joins Go.Pen Go.Deep Go.Wav

theorem there_contract (H : Type) (enc : TypeId × Value → H) (W : World) (base : Nat) (args : Array Value) (ds gs : List (DataW H)) (before : List MemPlace)
    (hval : ∀ (j : Nat) t v, Tryd.f4.params[j]? = some t → args[j]? = some v → Value.okWide Tryd.prog W .any base t v)
    (hW : DataW.Whole enc Tryd.prog Tryd.f4.params.toList Rows.waveThereBackSpec.vars false W args.toList ds gs before)
    (hsz : (DataW.weightsEach Tryd.checked.prog (Tryd.f4.params.toList ++ Rows.waveThereBackSpec.plain.varTypes Tryd.checked.prog) (ds ++ gs)).all (· ≤ reachBytes) = true)
    (hL : laidMetH Tryd.prog Rows.waveThereBackRow.laid W) :
    Calls Tryd.prog 4 args W fun e W' => ∃ v, e = .returned v ∧ Rows.waveThereBackSpec.post enc Tryd.prog Tryd.f4 false true false false W args v W' := by
  have hW' := hW
  obtain ⟨p, q, hA0, hV, rfl, hfz, hnd⟩ := hW
  have hA : DataW.TrodAll enc Tryd.prog W 0 (fun _ => true) true Tryd.f4.params.toList args.toList ds p := hA0
  rw [Tryd.params4] at hA hval hsz
  obtain ⟨v0, vs0, d0, ds0, p0, q0, hargs, rfl, rfl, h0, r0⟩ := trodAll_cons hA
  obtain ⟨rfl, rfl, rfl⟩ := trodAll_nil r0
  obtain rfl : args = #[v0] := by cases args; simp_all
  obtain ⟨rfl, rfl⟩ := trodVars_none hV
  obtain ⟨fuel, h0'⟩ := h0
  obtain ⟨a, xs, c, b, o, e1, ha, hr, h32, hlen⟩ := open_pairs32 h0'
  obtain ⟨oa, ol, oc, rfl⟩ := okWide_slice Tryd.underlying26 (hval 0 26 v0 rfl rfl)
  simp only [Value.cells, List.cons.injEq, and_true, Value.slice.injEq] at e1
  obtain ⟨g1, g2, g3⟩ := e1
  subst g1 g2 g3
  have hn : xs.length ≤ 17592186044416 := by
    rcases hlen with h | ⟨el, sp, e2, hle⟩
    · omega
    · try dsimp only at e2
      subst e2
      have := sized_slice (j := 0) hsz rfl rfl Tryd.underlying26
      rw [show Tryd.checked.prog.bytesOf 22 = 8 from bytesA2] at this
      have h47 : reachBytes = 140737488351232 := by decide
      omega
  clear hA0 hval
  refine ((ThereBack_fn xs h32 (by omega) oa b o oc ha W hr (tz_laid hL)).out).mono fun ex W' ⟨v, Γ, he, ⟨hv, hΓ⟩, hst⟩ => ?_
  subst he; subst hv; subst hΓ
  exact ⟨_, rfl, post_law laidOut hW' hst.below rfl Tryd.underlying4 rfl rfl rfl rfl (by kernel_rfl)⟩

theorem there_met (os : Os) : laidMet Tryd.prog Rows.waveThereBackRow.laid ((laidWorld os).forCall (fun _ _ => 0) ⟨#[], #[.slice none 0 0], []⟩).memory :=
  laidMet_of_run' 8 (by kernel_rfl) (by kernel_rfl)
theorem there_reads (os : Os) {H : Type} (enc : TypeId × Value → H) : ∃ places, DataW.whole enc Tryd.prog ((laidWorld os).forCall (fun _ _ => 0) ⟨#[], #[.slice none 0 0], []⟩).memory Tryd.f4.params.toList Rows.waveThereBackSpec.vars false #[Value.slice none 0 0].toList 8 = some ([.nil], [], places) :=
  ⟨[], by kernel_rfl⟩
theorem there_lifted (os : Os) (started : os.Started) (H : Type) (enc : TypeId × Value → H) (F : Stop.Interp) :
    ReturnsInHanded {} Tryd.checked os 4 .any ((OpenSpec.ofChange Rows.waveThereBackSpec).preRow enc Tryd.prog Tryd.f4 Rows.waveThereBackRow.domain false Rows.waveThereBackRow.laid) (((OpenSpec.ofChange Rows.waveThereBackSpec).at F).post enc Tryd.prog Tryd.f4 false true false false) := by
  obtain ⟨places, hx⟩ := there_reads os enc
  refine returnsInHanded_of_row (C := Tryd.checked) (s := OpenSpec.ofChange Rows.waveThereBackSpec) own started (by kernel_rfl) Tryd.func4
    (witness_row_at (enc := enc) (C := Tryd.checked) false (laidWorld os) #[.slice none 0 0] rfl (by kernel_rfl) (by kernel_rfl) (by kernel_rfl)
      (OpenSpec.preRow_of_cond 8 hx (by kernel_rfl) (fun k hk => by cases hk) (by kernel_rfl) (there_met os))) ?_
  intro W base args ds gs before hval hW _ _ hsz hL _ _
  exact there_contract H enc W base args ds gs before hval hW hsz hL
theorem WaveThereBack_row : Rows.WaveThereBackSaid :=
  OpenClaim.holds_of_cond 4 Tryd.f4 rfl rfl rfl rfl rfl rfl rfl ⟨rfl, rfl, rfl, rfl, rfl⟩ rfl rfl rfl rfl rfl (by kernel_rfl) Tryd.func4 (by kernel_rfl)
    (of_decide_eq_true (by kernel_rfl)) (by unfold Func.isWrapper; first | (rw [if_pos (by decide +kernel)]; kernel_rfl) | (rw [if_neg (by decide +kernel)]; exact ⟨rfl, rfl⟩))
    (fun os started H enc _ F => by rw [OpenClaim.pre_eq_preRow]; exact there_lifted os started H enc F)
theorem there_plain (f : FuncId) (fn : Func) (hf : Tryd.pinned.checked.prog.funcNamed "penumbra/penumbralaw03.WaveThereBack" = some f) (hfn : Tryd.pinned.checked.prog.funcs[f]? = some fn) :
    false = Tryd.pinned.checked.prog.looks [] ∧ ∀ (j : Nat) t, fn.params[j]? = some t → Tryd.pinned.checked.prog.wantsStandIn t = false := by
  obtain rfl : f = 4 := Option.some.inj ((show Tryd.prog.funcNamed "penumbra/penumbralaw03.WaveThereBack" = some 4 by kernel_rfl).symm.trans hf) |>.symm
  obtain rfl : fn = Tryd.f4 := (Option.some.inj (Tryd.func4.symm.trans hfn)).symm
  refine ⟨by kernel_rfl, fun j t ht => ?_⟩
  rw [Tryd.params4] at ht
  have hm : t ∈ [26] := by simpa using Array.mem_of_getElem? ht
  have hall : ([26].all fun u => !Tryd.prog.wantsStandIn u) = true := by kernel_rfl
  exact (show Tryd.prog.wantsStandIn t = false by simpa using List.all_eq_true.1 hall t hm)
theorem WaveThereBackCard_holds : Rows.WaveThereBackCardSaid :=
  Claim7.holds_tied_plain_at .later [] _ _ _ _ WaveThereBack_row (fun _ h => by cases h) (by kernel_rfl) (fun _ h => by cases h) waveThereBack_row_tie rfl ⟨rfl, rfl⟩ (by kernel_rfl) rfl there_plain (by kernel_rfl)
#print axioms WaveThereBackCard_holds
end Go.Proofs.YtjckoflcjkajiaaDoor
end
