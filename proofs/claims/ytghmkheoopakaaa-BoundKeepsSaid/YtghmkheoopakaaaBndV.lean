/- Layer 19: Run, walked. -/
import Derived.Test.YtghmkheoopakaaaBndU
set_option linter.unusedVariables false
set_option maxRecDepth 100000
namespace Go.Proofs.Ytghmkheoopakaaa
open Go.Pen

/-- What Run leaves. -/
def RunR (r : BX × Int) (v : Value) (Γ : List (Nat × Obj)) : Prop :=
  (r.2 = 0 ∧ ∃ p q c1 c2 s1 s2, v = .tuple #[.slice (some ⟨p, 0, none⟩) r.1.lo.length c1, .slice (some ⟨q, 0, none⟩) r.1.hi.length c2, .int .i64 0] ∧ r.1.lo.length ≤ c1 ∧ r.1.hi.length ≤ c2 ∧
    (vals r.1.lo ++ s1).length = c1 ∧ (vals r.1.hi ++ s2).length = c2 ∧
    Γ = [(p, .cells (vals r.1.lo ++ s1).toArray 3 (0, 0)), (q, .cells (vals r.1.hi ++ s2).toArray 3 (0, 0))]) ∨
  (r.2 ≠ 0 ∧ v = .tuple #[.slice none 0 0, .slice none 0 0, .int .i64 r.2] ∧ Γ = [])

theorem check2_fn (n : Int) (a a' : Option Addr) (N1 N2 d1 d2 b b' o o' : Nat) (f g : Nat → Int) (w : World) (ha : 0 < N1 → a = some ⟨b, o, none⟩) (ha' : 0 < N2 → a' = some ⟨b', o', none⟩) (hN1 : N1 ≤ 4611686018427387904) (hN2 : N2 ≤ 4611686018427387904)
    (r : RdI w b o N1 f) (r' : RdI w b' o' N2 g) (vb : Nat) (hv : w.cell? ⟨vb, 0, none⟩ = some (.slice a N1 d1)) (hv' : w.cell? ⟨vb, 1, none⟩ = some (.slice a' N2 d2)) :
    Does Try.prog 16 #[.int .i64 n, .slice (some ⟨vb, 0, none⟩) 2 2] [] w fun r Γ => r = .bool (okL n N1 f && okL n N2 g) ∧ Γ = [] := by
  have two : ∀ k : Nat, k < 2 → k = 0 ∨ k = 1 := fun k h => by omega
  refine (check_fn n 2 (fun k => if k = 0 then a else a') (fun k => if k = 0 then N1 else N2) (fun k => if k = 0 then d1 else d2) (fun k => if k = 0 then b else b') (fun k => if k = 0 then o else o') (fun k => if k = 0 then f else g) vb w (by omega)
    (fun k hk => ?_) (fun k hk => ?_) (fun k hk => ?_) (fun k hk => ?_)).mono fun v Γ h => ⟨by rw [h.1]; rfl, h.2⟩
  all_goals rcases two k hk with rfl | rfl
  · exact ha
  · exact ha'
  · exact hN1
  · exact hN2
  · exact r
  · exact r'
  · exact hv
  · exact hv'
theorem PjIn.over {w w' : World} {pb po : Nat} {n : Int} {pj : List Pj} {Γ : List (Nat × Obj)} (h : PjIn w pb po n pj) (hw : St w [] Γ w') : PjIn w' pb po n pj where
  at' := fun k d hd => by
    obtain ⟨a, bb, bo, bc, h1, h2, h3, h4, h5⟩ := h.at' k d hd
    exact ⟨a, bb, bo, bc, hw.old h1 (by simp), hw.old h2 (by simp), hw.old h3 (by simp), h4, fun j v hv => hw.old (h5 j v hv) (by simp)⟩
  ok := h.ok
theorem RdI.gt {w : World} {b o n : Nat} {f : Nat → Int} (h : RdI w b o n f) : SeesN w [] [] b o (ints f n) := h.all []

set_option maxHeartbeats 8000000 in
theorem Run_fn (n : Int) (pj : List Pj) (ap a a' : Option Addr) (pb po pc N1 N2 d1 d2 b b' o o' : Nat) (f g : Nat → Int) (w : World) (hap : 0 < pj.length → ap = some ⟨pb, po, none⟩) (hk : pj.length ≤ 64) (hP : PjIn w pb po n pj)
    (ha : 0 < N1 → a = some ⟨b, o, none⟩) (ha' : 0 < N2 → a' = some ⟨b', o', none⟩) (hN1 : N1 ≤ 4611686018427387904) (hN2 : N2 ≤ 4611686018427387904) (r : RdI w b o N1 f) (r' : RdI w b' o' N2 g) :
    Does Try.prog 7 #[.int .i64 n, .slice ap pj.length pc, .slice a N1 d1, .slice a' N2 d2] [] w (RunR (runV n N1 f N2 g pj)) := by
  by_cases hok : okL n N1 f = true ∧ okL n N2 g = true
  · have hand : (okL n N1 f && okL n N2 g) = true := by rw [hok.1, hok.2]; rfl
    obtain ⟨⟨n1, n2, e1⟩, l1⟩ := okL_iff.1 hok.1
    obtain ⟨⟨_, _, e2⟩, l2⟩ := okL_iff.1 hok.2
    have hnn : 1 ≤ n * n ∧ n * n ≤ 256 := by
      have h1 : (n * n).natAbs ≤ 16 * 16 := by rw [Int.natAbs_mul]; exact Nat.mul_le_mul (by omega) (by omega)
      have h2 : 0 < n * n := Int.mul_pos (by omega) (by omega)
      omega
    have e12 : N2 = N1 := by omega
    subst e12
    obtain rfl := ha (by omega)
    obtain rfl := ha' (by omega)
    have hr : runV n N2 f N2 g pj = (if allUpto (fun i => decide (f i ≤ g i)) N2 = true then swps (linesOf n pj) 512 ⟨ilist f N2, ilist g N2, false⟩ else (⟨[], [], false⟩, 111)) := by unfold runV; rw [if_pos hok]
    rw [hr]
    clear hr
    refine Does.enter Try.func7 rfl Try.ntmps7 rfl (St.start w) ?_
    repeat' (first
      | (refine Fin.tail ?_)
      | (refine Fin.then_normal ?_)
      | (refine Fin.then_exit ?_)
      | (refine Fin.then_ret ?_)
      | (refine Fin.block_normal ?_)
      | (refine Fin.block_ret ?_)
      | (refine Fin.block_hit ?_)
      | (refine Fin.block_miss rfl ?_)
      | (refine Fin.loop_exit ?_)
      | (refine Fin.loop_ret ?_)
      | (refine WP.seq ?_)
      | (refine WP.regionQ (by kernel_rfl) (by kernel_rfl) ?_)
      | (refine WP.block ?_)
      | (refine WP.region ?_)
      | (refine WP.skip ?_)
      | (refine WP.exit ?_)
      | (refine WP.ret ?_)
      | (refine WP.label ?_)
      | (refine WP.cond_true rfl ?_)
      | (refine WP.cond_false rfl ?_)
      | (refine WP.cond_dec rfl (fun h => ?_) (fun h => ?_) <;> (try (exfalso; omega)))
      | (refine WP.cond_bool rfl (fun h => ?_) (fun h => ?_))
      | (refine WL.nil ?_)
      | (refine WL.cons ?_)
      | ((show OP _ _ _ _ _ _ _ ⟨some _, .move _, _, _, _, none⟩ _ _); first | refine OP.move (v := .int _ _) rfl rfl ?_ | refine OP.move (v := .bool _) rfl rfl ?_ | refine OP.move (v := .complex _ _ _) rfl rfl ?_ | refine OP.move (v := .float _ _) rfl rfl ?_ | refine OP.move (v := .slice _ _ _) rfl rfl ?_ | refine OP.move (v := .pointer _) rfl rfl ?_ | refine OP.move (v := .agg _) rfl rfl ?_ | refine OP.move (v := .tuple _) rfl rfl ?_ | refine OP.move (v := .map _) rfl rfl ?_ | refine OP.move (v := .func _ _ _) rfl rfl ?_ | refine OP.move (v := _) rfl rfl ?_)
      | ((show OP _ _ _ _ _ _ _ ⟨some _, .assign _, _, _, _, none⟩ _ _); first | refine OP.assign (v := .int _ _) rfl rfl ?_ | refine OP.assign (v := .bool _) rfl rfl ?_ | refine OP.assign (v := .complex _ _ _) rfl rfl ?_ | refine OP.assign (v := .float _ _) rfl rfl ?_ | refine OP.assign (v := .slice _ _ _) rfl rfl ?_ | refine OP.assign (v := .pointer _) rfl rfl ?_ | refine OP.assign (v := .agg _) rfl rfl ?_ | refine OP.assign (v := .tuple _) rfl rfl ?_ | refine OP.assign (v := .map _) rfl rfl ?_ | refine OP.assign (v := .func _ _ _) rfl rfl ?_ | refine OP.assign (v := _) rfl rfl ?_)
      | ((show OP _ _ _ _ _ _ _ ⟨_, _, _, _, _, some _⟩ _ _); first | refine OP.guard_yes rfl rfl ?_ | refine OP.guard_no rfl rfl rfl rfl ?_ | refine OP.guard_un rfl rfl rfl ?_ | refine OP.guard_no0 rfl rfl rfl ?_ | (refine OP.guard_dec rfl rfl (fun h => ?_) (fun h => ?_) <;> (try (exfalso; omega))) | refine OP.guard_bool rfl rfl (fun h => ?_) (fun h => ?_))
      | ((show OP _ _ _ _ _ _ _ ⟨some _, .call _, _, _, _, none⟩ _ _); first | refine OP.callq (.bool true) rfl (fun w' hst => check2_fn n _ _ N2 N2 d1 d2 b b' o o' f g w' (fun _ => rfl) (fun _ => rfl) hN2 hN2 (r.over hst) (r'.over hst) _ ((Sees.own (List.Mem.head _) rfl).out w' hst) ((Sees.own (List.Mem.head _) rfl).out w' hst)) (fun _ _ h => by rw [h.1, hand]) ?_ | (refine OP.call rfl (fun w' hst => drawn_fn n n1 n2 pj ap pb po pc w' hap hk (hP.over hst)) (fun _ _ hR => ?_); obtain ⟨ls, lb, cap, sp, hls, rfl, rfl⟩ := hR) | refine OP.len rfl rfl rfl ?_ | refine OP.real rfl rfl ?_ | refine OP.imag rfl rfl ?_ | refine OP.complex rfl rfl rfl ?_ | refine OP.max2 rfl rfl rfl ?_ | refine OP.min2 rfl rfl rfl ?_)
      | ((show OP _ _ _ _ _ _ _ ⟨some _, .binOp _ _ _ _ _, _, _, _, none⟩ _ _); first | (refine OP.add rfl rfl rfl ?_ ?_ ?_; omega; omega) | (refine OP.sub rfl rfl rfl ?_ ?_ ?_; omega; omega) | refine OP.lss rfl rfl rfl ?_ | refine OP.eql rfl rfl rfl ?_ | refine OP.neq rfl rfl rfl ?_ | refine OP.gtr rfl rfl rfl ?_ | refine OP.geq rfl rfl rfl ?_ | refine OP.leq rfl rfl rfl ?_ | refine OP.eql2 rfl rfl rfl ?_ | refine OP.neq2 rfl rfl rfl ?_ | refine OP.neqd rfl rfl rfl ?_ | refine OP.eqd rfl rfl rfl ?_ | refine OP.eqlb rfl rfl rfl ?_ | (refine OP.mul rfl rfl rfl ?_ ?_ ?_; omega; omega) | (refine OP.quoN rfl rfl rfl ?_ ?_ ?_ ?_; omega; omega; omega) | (refine OP.remN rfl rfl rfl ?_ ?_; omega) | (refine OP.quo rfl rfl rfl ?_ ?_ ?_ ?_ ?_; omega; omega; omega; omega) | (refine OP.rem rfl rfl rfl ?_ ?_ ?_; omega; omega))
      | ((show OP _ _ _ _ _ _ _ ⟨some _, .pick _ _ _, _, _, _, none⟩ _ _); first | refine OP.pick_true rfl rfl ?_ | refine OP.pick_false rfl rfl ?_)
      | (refine OP.extract rfl rfl rfl ?_)
      | (refine OP.fieldAddr rfl rfl ?_)
      | ((show OP _ _ _ _ _ _ _ ⟨some _, .load _ _, _, _, _, none⟩ _ _); first | refine OP.load rfl rfl (Sees.own (List.Mem.head _) rfl) ?_ | refine OP.load rfl rfl (Sees.own (List.Mem.tail _ (List.Mem.head _)) rfl) ?_ | refine OP.load rfl rfl (Sees.own (List.Mem.tail _ (List.Mem.tail _ (List.Mem.head _))) rfl) ?_ | refine OP.load rfl rfl (Sees.own (List.Mem.tail _ (List.Mem.tail _ (List.Mem.tail _ (List.Mem.head _)))) rfl) ?_ | refine OP.load rfl rfl (Sees.own (List.Mem.tail _ (List.Mem.tail _ (List.Mem.tail _ (List.Mem.tail _ (List.Mem.head _))))) rfl) ?_ | refine OP.load rfl rfl (Sees.own (List.Mem.tail _ (List.Mem.tail _ (List.Mem.tail _ (List.Mem.tail _ (List.Mem.tail _ (List.Mem.head _)))))) rfl) ?_ | refine OP.load rfl rfl (Sees.own (List.Mem.tail _ (List.Mem.tail _ (List.Mem.tail _ (List.Mem.tail _ (List.Mem.tail _ (List.Mem.tail _ (List.Mem.head _))))))) rfl) ?_ | refine OP.load rfl rfl (Sees.own (List.Mem.tail _ (List.Mem.tail _ (List.Mem.tail _ (List.Mem.tail _ (List.Mem.tail _ (List.Mem.tail _ (List.Mem.tail _ (List.Mem.head _)))))))) rfl) ?_ | refine OP.load rfl rfl (Sees.old0 (by assumption)) ?_ | refine OP.loadA rfl rfl (SeesN.own 2 (List.Mem.head _) rfl) rfl ?_ | refine OP.loadA rfl rfl (SeesN.own 3 (List.Mem.head _) rfl) rfl ?_ | refine OP.loadA rfl rfl (SeesN.own 2 (List.Mem.tail _ (List.Mem.head _)) rfl) rfl ?_ | refine OP.loadA rfl rfl (SeesN.own 3 (List.Mem.tail _ (List.Mem.head _)) rfl) rfl ?_ | refine OP.loadA rfl rfl (SeesN.own 2 (List.Mem.tail _ (List.Mem.tail _ (List.Mem.head _))) rfl) rfl ?_ | refine OP.loadA rfl rfl (SeesN.own 3 (List.Mem.tail _ (List.Mem.tail _ (List.Mem.head _))) rfl) rfl ?_ | refine OP.loadA rfl rfl (SeesN.own 2 (List.Mem.tail _ (List.Mem.tail _ (List.Mem.tail _ (List.Mem.head _)))) rfl) rfl ?_ | refine OP.loadA rfl rfl (SeesN.own 3 (List.Mem.tail _ (List.Mem.tail _ (List.Mem.tail _ (List.Mem.head _)))) rfl) rfl ?_ | refine OP.loadA rfl rfl (SeesN.own 2 (List.Mem.tail _ (List.Mem.tail _ (List.Mem.tail _ (List.Mem.tail _ (List.Mem.head _))))) rfl) rfl ?_ | refine OP.loadA rfl rfl (SeesN.own 3 (List.Mem.tail _ (List.Mem.tail _ (List.Mem.tail _ (List.Mem.tail _ (List.Mem.head _))))) rfl) rfl ?_ | refine OP.loadA rfl rfl (SeesN.own 2 (List.Mem.tail _ (List.Mem.tail _ (List.Mem.tail _ (List.Mem.tail _ (List.Mem.tail _ (List.Mem.head _)))))) rfl) rfl ?_ | refine OP.loadA rfl rfl (SeesN.own 3 (List.Mem.tail _ (List.Mem.tail _ (List.Mem.tail _ (List.Mem.tail _ (List.Mem.tail _ (List.Mem.head _)))))) rfl) rfl ?_ | refine OP.loadA rfl rfl (SeesN.own 2 (List.Mem.tail _ (List.Mem.tail _ (List.Mem.tail _ (List.Mem.tail _ (List.Mem.tail _ (List.Mem.tail _ (List.Mem.head _))))))) rfl) rfl ?_ | refine OP.loadA rfl rfl (SeesN.own 3 (List.Mem.tail _ (List.Mem.tail _ (List.Mem.tail _ (List.Mem.tail _ (List.Mem.tail _ (List.Mem.tail _ (List.Mem.head _))))))) rfl) rfl ?_ | refine OP.loadA rfl rfl (SeesN.own 2 (List.Mem.tail _ (List.Mem.tail _ (List.Mem.tail _ (List.Mem.tail _ (List.Mem.tail _ (List.Mem.tail _ (List.Mem.tail _ (List.Mem.head _)))))))) rfl) rfl ?_ | refine OP.loadA rfl rfl (SeesN.own 3 (List.Mem.tail _ (List.Mem.tail _ (List.Mem.tail _ (List.Mem.tail _ (List.Mem.tail _ (List.Mem.tail _ (List.Mem.tail _ (List.Mem.head _)))))))) rfl) rfl ?_)
      | ((show OP _ _ _ _ _ _ _ ⟨none, .store _ _ _, _, _, _, none⟩ _ _); first | refine OP.store0 (vs := [_]) rfl rfl rfl rfl rfl ?_ | refine OP.store0 (vs := [_, _]) rfl rfl rfl rfl rfl ?_ | refine OP.store0 (vs := [_, _, _]) rfl rfl rfl rfl rfl ?_ | refine OP.store1 (vs := [_]) rfl rfl rfl rfl rfl ?_ | refine OP.store1 (vs := [_, _]) rfl rfl rfl rfl rfl ?_ | refine OP.store1 (vs := [_, _, _]) rfl rfl rfl rfl rfl ?_ | refine OP.store2 (vs := [_]) rfl rfl rfl rfl rfl ?_ | refine OP.store2 (vs := [_, _]) rfl rfl rfl rfl rfl ?_ | refine OP.store2 (vs := [_, _, _]) rfl rfl rfl rfl rfl ?_ | refine OP.store3 (vs := [_]) rfl rfl rfl rfl rfl ?_ | refine OP.store3 (vs := [_, _]) rfl rfl rfl rfl rfl ?_ | refine OP.store3 (vs := [_, _, _]) rfl rfl rfl rfl rfl ?_ | refine OP.store4 (vs := [_]) rfl rfl rfl rfl rfl ?_ | refine OP.store4 (vs := [_, _]) rfl rfl rfl rfl rfl ?_ | refine OP.store4 (vs := [_, _, _]) rfl rfl rfl rfl rfl ?_ | refine OP.store5 (vs := [_]) rfl rfl rfl rfl rfl ?_ | refine OP.store5 (vs := [_, _]) rfl rfl rfl rfl rfl ?_ | refine OP.store5 (vs := [_, _, _]) rfl rfl rfl rfl rfl ?_ | refine OP.store6 (vs := [_]) rfl rfl rfl rfl rfl ?_ | refine OP.store6 (vs := [_, _]) rfl rfl rfl rfl rfl ?_ | refine OP.store6 (vs := [_, _, _]) rfl rfl rfl rfl rfl ?_ | refine OP.store7 (vs := [_]) rfl rfl rfl rfl rfl ?_ | refine OP.store7 (vs := [_, _]) rfl rfl rfl rfl rfl ?_ | refine OP.store7 (vs := [_, _, _]) rfl rfl rfl rfl rfl ?_)
      | ((show OP _ _ _ _ _ _ _ ⟨_, .unOp _ _ _, _, _, _, none⟩ _ _); first | refine OP.notd rfl rfl ?_ | refine OP.not rfl rfl ?_ | (refine OP.neg rfl rfl ?_ ?_ ?_; omega; omega))
      | ((show OP _ _ _ _ _ _ _ ⟨_, .convert _ _ _, _, _, _, none⟩ _ _); first | (refine OP.conv rfl rfl ?_ ?_ ?_; omega; omega))
      | (refine OP.makeMap rfl (fun bm => ?_))
      | (refine OP.box rfl rfl (fun bx => ?_))
      | (refine OP.alloc rfl rfl (fun al => ?_))
      | (refine OP.build rfl rfl ?_)
      | (refine OP.buildSlice rfl rfl ?_ rfl rfl (fun bs => ?_); (decide))
      | (refine OP.buildSlice0 rfl rfl (fun bs => ?_))
      | (refine OP.makeFunc rfl ?_)
      | (refine OP.field1 rfl rfl rfl ?_))
    have hbd := linesOf_bd n1 n2 e1 (pj := pj) hP.ok
    have hlen := linesOf_len n1 n2 (pj := pj) hP.ok
    generalize linesOf n pj = L at *
    subst hls
    refine WP.drop (List.sublist_append_left _ _) ?_
    refine WP.loop [13, 32, 33, 34, 35, 36, 37, 38, 39, 40, 41, 42, 43, 44] (fun k : Nat => [(32, .int .i64 k)]) (fun _ => rowM ls.length lb (lnV ls) sp 70 ++ lnM ls) (fun k => k ≤ N2 ∧ allUpto (fun i => decide (f i ≤ g i)) k = true) (fun k => N2 - k) 0 ⟨by omega, rfl⟩ rfl ⟨rfl, trivial⟩ ?_
    rintro k jk ⟨k1, kall⟩
    dsimp only [updL]
    by_cases hkn : k < N2
    · have fk := l1 k hkn
      have gk := l2 k hkn
      repeat' (first
        | refine OP.indexAddr (j := k) rfl rfl rfl rfl hkn ?_
        | refine OP.load rfl rfl (r.see hkn _) ?_
        | refine OP.load rfl rfl (r'.see hkn _) ?_
        | (refine Fin.tail ?_)
        | (refine Fin.then_normal ?_)
        | (refine Fin.then_exit ?_)
        | (refine Fin.then_ret ?_)
        | (refine Fin.block_normal ?_)
        | (refine Fin.block_ret ?_)
        | (refine Fin.block_hit ?_)
        | (refine Fin.block_miss rfl ?_)
        | (refine Fin.loop_exit ?_)
        | (refine Fin.loop_ret ?_)
        | (refine WP.seq ?_)
        | (refine WP.regionQ (by kernel_rfl) (by kernel_rfl) ?_)
        | (refine WP.block ?_)
        | (refine WP.region ?_)
        | (refine WP.skip ?_)
        | (refine WP.exit ?_)
        | (refine WP.ret ?_)
        | (refine WP.label ?_)
        | (refine WP.cond_true rfl ?_)
        | (refine WP.cond_false rfl ?_)
        | (refine WP.cond_dec rfl (fun h => ?_) (fun h => ?_) <;> (try (exfalso; omega)))
        | (refine WP.cond_bool rfl (fun h => ?_) (fun h => ?_))
        | (refine WL.nil ?_)
        | (refine WL.cons ?_)
        | ((show OP _ _ _ _ _ _ _ ⟨some _, .move _, _, _, _, none⟩ _ _); first | refine OP.move (v := .int _ _) rfl rfl ?_ | refine OP.move (v := .bool _) rfl rfl ?_ | refine OP.move (v := .complex _ _ _) rfl rfl ?_ | refine OP.move (v := .float _ _) rfl rfl ?_ | refine OP.move (v := .slice _ _ _) rfl rfl ?_ | refine OP.move (v := .pointer _) rfl rfl ?_ | refine OP.move (v := .agg _) rfl rfl ?_ | refine OP.move (v := .tuple _) rfl rfl ?_ | refine OP.move (v := .map _) rfl rfl ?_ | refine OP.move (v := .func _ _ _) rfl rfl ?_ | refine OP.move (v := _) rfl rfl ?_)
        | ((show OP _ _ _ _ _ _ _ ⟨some _, .assign _, _, _, _, none⟩ _ _); first | refine OP.assign (v := .int _ _) rfl rfl ?_ | refine OP.assign (v := .bool _) rfl rfl ?_ | refine OP.assign (v := .complex _ _ _) rfl rfl ?_ | refine OP.assign (v := .float _ _) rfl rfl ?_ | refine OP.assign (v := .slice _ _ _) rfl rfl ?_ | refine OP.assign (v := .pointer _) rfl rfl ?_ | refine OP.assign (v := .agg _) rfl rfl ?_ | refine OP.assign (v := .tuple _) rfl rfl ?_ | refine OP.assign (v := .map _) rfl rfl ?_ | refine OP.assign (v := .func _ _ _) rfl rfl ?_ | refine OP.assign (v := _) rfl rfl ?_)
        | ((show OP _ _ _ _ _ _ _ ⟨_, _, _, _, _, some _⟩ _ _); first | refine OP.guard_yes rfl rfl ?_ | refine OP.guard_no rfl rfl rfl rfl ?_ | refine OP.guard_un rfl rfl rfl ?_ | refine OP.guard_no0 rfl rfl rfl ?_ | (refine OP.guard_dec rfl rfl (fun h => ?_) (fun h => ?_) <;> (try (exfalso; omega))) | refine OP.guard_bool rfl rfl (fun h => ?_) (fun h => ?_))
        | ((show OP _ _ _ _ _ _ _ ⟨some _, .call _, _, _, _, none⟩ _ _); first | refine OP.len rfl rfl rfl ?_ | refine OP.real rfl rfl ?_ | refine OP.imag rfl rfl ?_ | refine OP.complex rfl rfl rfl ?_ | refine OP.max2 rfl rfl rfl ?_ | refine OP.min2 rfl rfl rfl ?_)
        | ((show OP _ _ _ _ _ _ _ ⟨some _, .binOp _ _ _ _ _, _, _, _, none⟩ _ _); first | (refine OP.add rfl rfl rfl ?_ ?_ ?_; omega; omega) | (refine OP.sub rfl rfl rfl ?_ ?_ ?_; omega; omega) | refine OP.lss rfl rfl rfl ?_ | refine OP.eql rfl rfl rfl ?_ | refine OP.neq rfl rfl rfl ?_ | refine OP.gtr rfl rfl rfl ?_ | refine OP.geq rfl rfl rfl ?_ | refine OP.leq rfl rfl rfl ?_ | refine OP.eql2 rfl rfl rfl ?_ | refine OP.neq2 rfl rfl rfl ?_ | refine OP.neqd rfl rfl rfl ?_ | refine OP.eqd rfl rfl rfl ?_ | refine OP.eqlb rfl rfl rfl ?_ | (refine OP.mul rfl rfl rfl ?_ ?_ ?_; omega; omega) | (refine OP.quoN rfl rfl rfl ?_ ?_ ?_ ?_; omega; omega; omega) | (refine OP.remN rfl rfl rfl ?_ ?_; omega) | (refine OP.quo rfl rfl rfl ?_ ?_ ?_ ?_ ?_; omega; omega; omega; omega) | (refine OP.rem rfl rfl rfl ?_ ?_ ?_; omega; omega))
        | ((show OP _ _ _ _ _ _ _ ⟨some _, .pick _ _ _, _, _, _, none⟩ _ _); first | refine OP.pick_true rfl rfl ?_ | refine OP.pick_false rfl rfl ?_)
        | (refine OP.extract rfl rfl rfl ?_)
        | (refine OP.fieldAddr rfl rfl ?_)
        | ((show OP _ _ _ _ _ _ _ ⟨some _, .load _ _, _, _, _, none⟩ _ _); first | refine OP.load rfl rfl (Sees.own (List.Mem.head _) rfl) ?_ | refine OP.load rfl rfl (Sees.own (List.Mem.tail _ (List.Mem.head _)) rfl) ?_ | refine OP.load rfl rfl (Sees.own (List.Mem.tail _ (List.Mem.tail _ (List.Mem.head _))) rfl) ?_ | refine OP.load rfl rfl (Sees.own (List.Mem.tail _ (List.Mem.tail _ (List.Mem.tail _ (List.Mem.head _)))) rfl) ?_ | refine OP.load rfl rfl (Sees.own (List.Mem.tail _ (List.Mem.tail _ (List.Mem.tail _ (List.Mem.tail _ (List.Mem.head _))))) rfl) ?_ | refine OP.load rfl rfl (Sees.own (List.Mem.tail _ (List.Mem.tail _ (List.Mem.tail _ (List.Mem.tail _ (List.Mem.tail _ (List.Mem.head _)))))) rfl) ?_ | refine OP.load rfl rfl (Sees.own (List.Mem.tail _ (List.Mem.tail _ (List.Mem.tail _ (List.Mem.tail _ (List.Mem.tail _ (List.Mem.tail _ (List.Mem.head _))))))) rfl) ?_ | refine OP.load rfl rfl (Sees.own (List.Mem.tail _ (List.Mem.tail _ (List.Mem.tail _ (List.Mem.tail _ (List.Mem.tail _ (List.Mem.tail _ (List.Mem.tail _ (List.Mem.head _)))))))) rfl) ?_ | refine OP.load rfl rfl (Sees.old0 (by assumption)) ?_ | refine OP.loadA rfl rfl (SeesN.own 2 (List.Mem.head _) rfl) rfl ?_ | refine OP.loadA rfl rfl (SeesN.own 3 (List.Mem.head _) rfl) rfl ?_ | refine OP.loadA rfl rfl (SeesN.own 2 (List.Mem.tail _ (List.Mem.head _)) rfl) rfl ?_ | refine OP.loadA rfl rfl (SeesN.own 3 (List.Mem.tail _ (List.Mem.head _)) rfl) rfl ?_ | refine OP.loadA rfl rfl (SeesN.own 2 (List.Mem.tail _ (List.Mem.tail _ (List.Mem.head _))) rfl) rfl ?_ | refine OP.loadA rfl rfl (SeesN.own 3 (List.Mem.tail _ (List.Mem.tail _ (List.Mem.head _))) rfl) rfl ?_ | refine OP.loadA rfl rfl (SeesN.own 2 (List.Mem.tail _ (List.Mem.tail _ (List.Mem.tail _ (List.Mem.head _)))) rfl) rfl ?_ | refine OP.loadA rfl rfl (SeesN.own 3 (List.Mem.tail _ (List.Mem.tail _ (List.Mem.tail _ (List.Mem.head _)))) rfl) rfl ?_ | refine OP.loadA rfl rfl (SeesN.own 2 (List.Mem.tail _ (List.Mem.tail _ (List.Mem.tail _ (List.Mem.tail _ (List.Mem.head _))))) rfl) rfl ?_ | refine OP.loadA rfl rfl (SeesN.own 3 (List.Mem.tail _ (List.Mem.tail _ (List.Mem.tail _ (List.Mem.tail _ (List.Mem.head _))))) rfl) rfl ?_ | refine OP.loadA rfl rfl (SeesN.own 2 (List.Mem.tail _ (List.Mem.tail _ (List.Mem.tail _ (List.Mem.tail _ (List.Mem.tail _ (List.Mem.head _)))))) rfl) rfl ?_ | refine OP.loadA rfl rfl (SeesN.own 3 (List.Mem.tail _ (List.Mem.tail _ (List.Mem.tail _ (List.Mem.tail _ (List.Mem.tail _ (List.Mem.head _)))))) rfl) rfl ?_ | refine OP.loadA rfl rfl (SeesN.own 2 (List.Mem.tail _ (List.Mem.tail _ (List.Mem.tail _ (List.Mem.tail _ (List.Mem.tail _ (List.Mem.tail _ (List.Mem.head _))))))) rfl) rfl ?_ | refine OP.loadA rfl rfl (SeesN.own 3 (List.Mem.tail _ (List.Mem.tail _ (List.Mem.tail _ (List.Mem.tail _ (List.Mem.tail _ (List.Mem.tail _ (List.Mem.head _))))))) rfl) rfl ?_ | refine OP.loadA rfl rfl (SeesN.own 2 (List.Mem.tail _ (List.Mem.tail _ (List.Mem.tail _ (List.Mem.tail _ (List.Mem.tail _ (List.Mem.tail _ (List.Mem.tail _ (List.Mem.head _)))))))) rfl) rfl ?_ | refine OP.loadA rfl rfl (SeesN.own 3 (List.Mem.tail _ (List.Mem.tail _ (List.Mem.tail _ (List.Mem.tail _ (List.Mem.tail _ (List.Mem.tail _ (List.Mem.tail _ (List.Mem.head _)))))))) rfl) rfl ?_)
        | ((show OP _ _ _ _ _ _ _ ⟨none, .store _ _ _, _, _, _, none⟩ _ _); first | refine OP.store0 (vs := [_]) rfl rfl rfl rfl rfl ?_ | refine OP.store0 (vs := [_, _]) rfl rfl rfl rfl rfl ?_ | refine OP.store0 (vs := [_, _, _]) rfl rfl rfl rfl rfl ?_ | refine OP.store1 (vs := [_]) rfl rfl rfl rfl rfl ?_ | refine OP.store1 (vs := [_, _]) rfl rfl rfl rfl rfl ?_ | refine OP.store1 (vs := [_, _, _]) rfl rfl rfl rfl rfl ?_ | refine OP.store2 (vs := [_]) rfl rfl rfl rfl rfl ?_ | refine OP.store2 (vs := [_, _]) rfl rfl rfl rfl rfl ?_ | refine OP.store2 (vs := [_, _, _]) rfl rfl rfl rfl rfl ?_ | refine OP.store3 (vs := [_]) rfl rfl rfl rfl rfl ?_ | refine OP.store3 (vs := [_, _]) rfl rfl rfl rfl rfl ?_ | refine OP.store3 (vs := [_, _, _]) rfl rfl rfl rfl rfl ?_ | refine OP.store4 (vs := [_]) rfl rfl rfl rfl rfl ?_ | refine OP.store4 (vs := [_, _]) rfl rfl rfl rfl rfl ?_ | refine OP.store4 (vs := [_, _, _]) rfl rfl rfl rfl rfl ?_ | refine OP.store5 (vs := [_]) rfl rfl rfl rfl rfl ?_ | refine OP.store5 (vs := [_, _]) rfl rfl rfl rfl rfl ?_ | refine OP.store5 (vs := [_, _, _]) rfl rfl rfl rfl rfl ?_ | refine OP.store6 (vs := [_]) rfl rfl rfl rfl rfl ?_ | refine OP.store6 (vs := [_, _]) rfl rfl rfl rfl rfl ?_ | refine OP.store6 (vs := [_, _, _]) rfl rfl rfl rfl rfl ?_ | refine OP.store7 (vs := [_]) rfl rfl rfl rfl rfl ?_ | refine OP.store7 (vs := [_, _]) rfl rfl rfl rfl rfl ?_ | refine OP.store7 (vs := [_, _, _]) rfl rfl rfl rfl rfl ?_)
        | ((show OP _ _ _ _ _ _ _ ⟨_, .unOp _ _ _, _, _, _, none⟩ _ _); first | refine OP.notd rfl rfl ?_ | refine OP.not rfl rfl ?_ | (refine OP.neg rfl rfl ?_ ?_ ?_; omega; omega))
        | ((show OP _ _ _ _ _ _ _ ⟨_, .convert _ _ _, _, _, _, none⟩ _ _); first | (refine OP.conv rfl rfl ?_ ?_ ?_; omega; omega))
        | (refine OP.makeMap rfl (fun bm => ?_))
        | (refine OP.box rfl rfl (fun bx => ?_))
        | (refine OP.alloc rfl rfl (fun al => ?_))
        | (refine OP.build rfl rfl ?_)
        | (refine OP.buildSlice rfl rfl ?_ rfl rfl (fun bs => ?_); (decide))
        | (refine OP.buildSlice0 rfl rfl (fun bs => ?_))
        | (refine OP.makeFunc rfl ?_)
        | (refine OP.field1 rfl rfl rfl ?_))
      · refine Fin.drop (List.nil_sublist _) ?_
        refine Fin.ret3 (h0 := .inl rfl) rfl rfl rfl rfl ?_
        have hno : allUpto (fun i => decide (f i ≤ g i)) N2 = false := allUpto_no hkn (decide_eq_false (by omega))
        rw [hno, if_neg (by decide)]
        exact .inr ⟨by decide, rfl, rfl⟩
      · refine Fin.loop_normal fun w' hst => ⟨k + 1, ⟨by omega, allUpto_succ kall (decide_eq_true (by omega))⟩, by omega, by (repeat' (first | exact Agree.refl _ _ | refine Agree.upd rfl ?_ | refine Agree.hav rfl ?_)), ⟨rfl, trivial⟩, hst⟩
    · have ek : k = N2 := by omega
      subst ek
      rw [kall, if_pos rfl]
      have G0 : Good k ⟨ilist f k, ilist g k, false⟩ := ⟨ilist_len f k, ilist_len g k, fun c hc => by
        have h1 := l1 c hc
        have h2 := l2 c hc
        have h3 := of_decide_eq_true (allUpto_iff.1 kall c hc)
        dsimp only
        rw [ilist_at hc, ilist_at hc]; omega⟩
      have hra : ∀ Γ, SeesN w [] Γ b o (vals (ilist f k)) := fun Γ => by rw [← ints_vals]; exact r.all Γ
      have hra' : ∀ Γ, SeesN w [] Γ b' o' (vals (ilist g k)) := fun Γ => by rw [← ints_vals]; exact r'.all Γ
      repeat' (first
        | refine OP.appendNil (m := 1) (bytes := 8) (z := .int .i64 0) (vs := vals (ilist f k)) rfl rfl rfl rfl rfl (hra _) (by rw [vals_len, ilist_len, Nat.mul_one]) (by omega) (by omega) (by omega) (fun p s1 c1 hl1 hc1 => ?_)
        | refine OP.appendNil (m := 1) (bytes := 8) (z := .int .i64 0) (vs := vals (ilist g k)) rfl rfl rfl rfl rfl (hra' _) (by rw [vals_len, ilist_len, Nat.mul_one]) (by omega) (by omega) (by omega) (fun q s2 c2 hl2 hc2 => ?_)
        | (refine Fin.tail ?_)
        | (refine Fin.then_normal ?_)
        | (refine Fin.then_exit ?_)
        | (refine Fin.then_ret ?_)
        | (refine Fin.block_normal ?_)
        | (refine Fin.block_ret ?_)
        | (refine Fin.block_hit ?_)
        | (refine Fin.block_miss rfl ?_)
        | (refine Fin.loop_exit ?_)
        | (refine Fin.loop_ret ?_)
        | (refine WP.seq ?_)
        | (refine WP.regionQ (by kernel_rfl) (by kernel_rfl) ?_)
        | (refine WP.block ?_)
        | (refine WP.region ?_)
        | (refine WP.skip ?_)
        | (refine WP.exit ?_)
        | (refine WP.ret ?_)
        | (refine WP.label ?_)
        | (refine WP.cond_true rfl ?_)
        | (refine WP.cond_false rfl ?_)
        | (refine WP.cond_dec rfl (fun h => ?_) (fun h => ?_) <;> (try (exfalso; omega)))
        | (refine WP.cond_bool rfl (fun h => ?_) (fun h => ?_))
        | (refine WL.nil ?_)
        | (refine WL.cons ?_)
        | ((show OP _ _ _ _ _ _ _ ⟨some _, .move _, _, _, _, none⟩ _ _); first | refine OP.move (v := .int _ _) rfl rfl ?_ | refine OP.move (v := .bool _) rfl rfl ?_ | refine OP.move (v := .complex _ _ _) rfl rfl ?_ | refine OP.move (v := .float _ _) rfl rfl ?_ | refine OP.move (v := .slice _ _ _) rfl rfl ?_ | refine OP.move (v := .pointer _) rfl rfl ?_ | refine OP.move (v := .agg _) rfl rfl ?_ | refine OP.move (v := .tuple _) rfl rfl ?_ | refine OP.move (v := .map _) rfl rfl ?_ | refine OP.move (v := .func _ _ _) rfl rfl ?_ | refine OP.move (v := _) rfl rfl ?_)
        | ((show OP _ _ _ _ _ _ _ ⟨some _, .assign _, _, _, _, none⟩ _ _); first | refine OP.assign (v := .int _ _) rfl rfl ?_ | refine OP.assign (v := .bool _) rfl rfl ?_ | refine OP.assign (v := .complex _ _ _) rfl rfl ?_ | refine OP.assign (v := .float _ _) rfl rfl ?_ | refine OP.assign (v := .slice _ _ _) rfl rfl ?_ | refine OP.assign (v := .pointer _) rfl rfl ?_ | refine OP.assign (v := .agg _) rfl rfl ?_ | refine OP.assign (v := .tuple _) rfl rfl ?_ | refine OP.assign (v := .map _) rfl rfl ?_ | refine OP.assign (v := .func _ _ _) rfl rfl ?_ | refine OP.assign (v := _) rfl rfl ?_)
        | ((show OP _ _ _ _ _ _ _ ⟨_, _, _, _, _, some _⟩ _ _); first | refine OP.guard_yes rfl rfl ?_ | refine OP.guard_no rfl rfl rfl rfl ?_ | refine OP.guard_un rfl rfl rfl ?_ | refine OP.guard_no0 rfl rfl rfl ?_ | (refine OP.guard_dec rfl rfl (fun h => ?_) (fun h => ?_) <;> (try (exfalso; omega))) | refine OP.guard_bool rfl rfl (fun h => ?_) (fun h => ?_))
        | ((show OP _ _ _ _ _ _ _ ⟨some _, .call _, _, _, _, none⟩ _ _); first | refine OP.len rfl rfl rfl ?_ | refine OP.real rfl rfl ?_ | refine OP.imag rfl rfl ?_ | refine OP.complex rfl rfl rfl ?_ | refine OP.max2 rfl rfl rfl ?_ | refine OP.min2 rfl rfl rfl ?_)
        | ((show OP _ _ _ _ _ _ _ ⟨some _, .binOp _ _ _ _ _, _, _, _, none⟩ _ _); first | (refine OP.add rfl rfl rfl ?_ ?_ ?_; omega; omega) | (refine OP.sub rfl rfl rfl ?_ ?_ ?_; omega; omega) | refine OP.lss rfl rfl rfl ?_ | refine OP.eql rfl rfl rfl ?_ | refine OP.neq rfl rfl rfl ?_ | refine OP.gtr rfl rfl rfl ?_ | refine OP.geq rfl rfl rfl ?_ | refine OP.leq rfl rfl rfl ?_ | refine OP.eql2 rfl rfl rfl ?_ | refine OP.neq2 rfl rfl rfl ?_ | refine OP.neqd rfl rfl rfl ?_ | refine OP.eqd rfl rfl rfl ?_ | refine OP.eqlb rfl rfl rfl ?_ | (refine OP.mul rfl rfl rfl ?_ ?_ ?_; omega; omega) | (refine OP.quoN rfl rfl rfl ?_ ?_ ?_ ?_; omega; omega; omega) | (refine OP.remN rfl rfl rfl ?_ ?_; omega) | (refine OP.quo rfl rfl rfl ?_ ?_ ?_ ?_ ?_; omega; omega; omega; omega) | (refine OP.rem rfl rfl rfl ?_ ?_ ?_; omega; omega))
        | ((show OP _ _ _ _ _ _ _ ⟨some _, .pick _ _ _, _, _, _, none⟩ _ _); first | refine OP.pick_true rfl rfl ?_ | refine OP.pick_false rfl rfl ?_)
        | (refine OP.extract rfl rfl rfl ?_)
        | (refine OP.fieldAddr rfl rfl ?_)
        | ((show OP _ _ _ _ _ _ _ ⟨some _, .load _ _, _, _, _, none⟩ _ _); first | refine OP.load rfl rfl (Sees.own (List.Mem.head _) rfl) ?_ | refine OP.load rfl rfl (Sees.own (List.Mem.tail _ (List.Mem.head _)) rfl) ?_ | refine OP.load rfl rfl (Sees.own (List.Mem.tail _ (List.Mem.tail _ (List.Mem.head _))) rfl) ?_ | refine OP.load rfl rfl (Sees.own (List.Mem.tail _ (List.Mem.tail _ (List.Mem.tail _ (List.Mem.head _)))) rfl) ?_ | refine OP.load rfl rfl (Sees.own (List.Mem.tail _ (List.Mem.tail _ (List.Mem.tail _ (List.Mem.tail _ (List.Mem.head _))))) rfl) ?_ | refine OP.load rfl rfl (Sees.own (List.Mem.tail _ (List.Mem.tail _ (List.Mem.tail _ (List.Mem.tail _ (List.Mem.tail _ (List.Mem.head _)))))) rfl) ?_ | refine OP.load rfl rfl (Sees.own (List.Mem.tail _ (List.Mem.tail _ (List.Mem.tail _ (List.Mem.tail _ (List.Mem.tail _ (List.Mem.tail _ (List.Mem.head _))))))) rfl) ?_ | refine OP.load rfl rfl (Sees.own (List.Mem.tail _ (List.Mem.tail _ (List.Mem.tail _ (List.Mem.tail _ (List.Mem.tail _ (List.Mem.tail _ (List.Mem.tail _ (List.Mem.head _)))))))) rfl) ?_ | refine OP.load rfl rfl (Sees.old0 (by assumption)) ?_ | refine OP.loadA rfl rfl (SeesN.own 2 (List.Mem.head _) rfl) rfl ?_ | refine OP.loadA rfl rfl (SeesN.own 3 (List.Mem.head _) rfl) rfl ?_ | refine OP.loadA rfl rfl (SeesN.own 2 (List.Mem.tail _ (List.Mem.head _)) rfl) rfl ?_ | refine OP.loadA rfl rfl (SeesN.own 3 (List.Mem.tail _ (List.Mem.head _)) rfl) rfl ?_ | refine OP.loadA rfl rfl (SeesN.own 2 (List.Mem.tail _ (List.Mem.tail _ (List.Mem.head _))) rfl) rfl ?_ | refine OP.loadA rfl rfl (SeesN.own 3 (List.Mem.tail _ (List.Mem.tail _ (List.Mem.head _))) rfl) rfl ?_ | refine OP.loadA rfl rfl (SeesN.own 2 (List.Mem.tail _ (List.Mem.tail _ (List.Mem.tail _ (List.Mem.head _)))) rfl) rfl ?_ | refine OP.loadA rfl rfl (SeesN.own 3 (List.Mem.tail _ (List.Mem.tail _ (List.Mem.tail _ (List.Mem.head _)))) rfl) rfl ?_ | refine OP.loadA rfl rfl (SeesN.own 2 (List.Mem.tail _ (List.Mem.tail _ (List.Mem.tail _ (List.Mem.tail _ (List.Mem.head _))))) rfl) rfl ?_ | refine OP.loadA rfl rfl (SeesN.own 3 (List.Mem.tail _ (List.Mem.tail _ (List.Mem.tail _ (List.Mem.tail _ (List.Mem.head _))))) rfl) rfl ?_ | refine OP.loadA rfl rfl (SeesN.own 2 (List.Mem.tail _ (List.Mem.tail _ (List.Mem.tail _ (List.Mem.tail _ (List.Mem.tail _ (List.Mem.head _)))))) rfl) rfl ?_ | refine OP.loadA rfl rfl (SeesN.own 3 (List.Mem.tail _ (List.Mem.tail _ (List.Mem.tail _ (List.Mem.tail _ (List.Mem.tail _ (List.Mem.head _)))))) rfl) rfl ?_ | refine OP.loadA rfl rfl (SeesN.own 2 (List.Mem.tail _ (List.Mem.tail _ (List.Mem.tail _ (List.Mem.tail _ (List.Mem.tail _ (List.Mem.tail _ (List.Mem.head _))))))) rfl) rfl ?_ | refine OP.loadA rfl rfl (SeesN.own 3 (List.Mem.tail _ (List.Mem.tail _ (List.Mem.tail _ (List.Mem.tail _ (List.Mem.tail _ (List.Mem.tail _ (List.Mem.head _))))))) rfl) rfl ?_ | refine OP.loadA rfl rfl (SeesN.own 2 (List.Mem.tail _ (List.Mem.tail _ (List.Mem.tail _ (List.Mem.tail _ (List.Mem.tail _ (List.Mem.tail _ (List.Mem.tail _ (List.Mem.head _)))))))) rfl) rfl ?_ | refine OP.loadA rfl rfl (SeesN.own 3 (List.Mem.tail _ (List.Mem.tail _ (List.Mem.tail _ (List.Mem.tail _ (List.Mem.tail _ (List.Mem.tail _ (List.Mem.tail _ (List.Mem.head _)))))))) rfl) rfl ?_)
        | ((show OP _ _ _ _ _ _ _ ⟨none, .store _ _ _, _, _, _, none⟩ _ _); first | refine OP.store0 (vs := [_]) rfl rfl rfl rfl rfl ?_ | refine OP.store0 (vs := [_, _]) rfl rfl rfl rfl rfl ?_ | refine OP.store0 (vs := [_, _, _]) rfl rfl rfl rfl rfl ?_ | refine OP.store1 (vs := [_]) rfl rfl rfl rfl rfl ?_ | refine OP.store1 (vs := [_, _]) rfl rfl rfl rfl rfl ?_ | refine OP.store1 (vs := [_, _, _]) rfl rfl rfl rfl rfl ?_ | refine OP.store2 (vs := [_]) rfl rfl rfl rfl rfl ?_ | refine OP.store2 (vs := [_, _]) rfl rfl rfl rfl rfl ?_ | refine OP.store2 (vs := [_, _, _]) rfl rfl rfl rfl rfl ?_ | refine OP.store3 (vs := [_]) rfl rfl rfl rfl rfl ?_ | refine OP.store3 (vs := [_, _]) rfl rfl rfl rfl rfl ?_ | refine OP.store3 (vs := [_, _, _]) rfl rfl rfl rfl rfl ?_ | refine OP.store4 (vs := [_]) rfl rfl rfl rfl rfl ?_ | refine OP.store4 (vs := [_, _]) rfl rfl rfl rfl rfl ?_ | refine OP.store4 (vs := [_, _, _]) rfl rfl rfl rfl rfl ?_ | refine OP.store5 (vs := [_]) rfl rfl rfl rfl rfl ?_ | refine OP.store5 (vs := [_, _]) rfl rfl rfl rfl rfl ?_ | refine OP.store5 (vs := [_, _, _]) rfl rfl rfl rfl rfl ?_ | refine OP.store6 (vs := [_]) rfl rfl rfl rfl rfl ?_ | refine OP.store6 (vs := [_, _]) rfl rfl rfl rfl rfl ?_ | refine OP.store6 (vs := [_, _, _]) rfl rfl rfl rfl rfl ?_ | refine OP.store7 (vs := [_]) rfl rfl rfl rfl rfl ?_ | refine OP.store7 (vs := [_, _]) rfl rfl rfl rfl rfl ?_ | refine OP.store7 (vs := [_, _, _]) rfl rfl rfl rfl rfl ?_)
        | ((show OP _ _ _ _ _ _ _ ⟨_, .unOp _ _ _, _, _, _, none⟩ _ _); first | refine OP.notd rfl rfl ?_ | refine OP.not rfl rfl ?_ | (refine OP.neg rfl rfl ?_ ?_ ?_; omega; omega))
        | ((show OP _ _ _ _ _ _ _ ⟨_, .convert _ _ _, _, _, _, none⟩ _ _); first | (refine OP.conv rfl rfl ?_ ?_ ?_; omega; omega))
        | (refine OP.makeMap rfl (fun bm => ?_))
        | (refine OP.box rfl rfl (fun bx => ?_))
        | (refine OP.alloc rfl rfl (fun al => ?_))
        | (refine OP.build rfl rfl ?_)
        | (refine OP.buildSlice rfl rfl ?_ rfl rfl (fun bs => ?_); (decide))
        | (refine OP.buildSlice0 rfl rfl (fun bs => ?_))
        | (refine OP.makeFunc rfl ?_)
        | (refine OP.field1 rfl rfl rfl ?_))
      obtain ⟨bb, rfl⟩ : ∃ x, x = bx := ⟨_, rfl⟩
      refine WP.perm (List.Perm.cons _ (List.Perm.swap _ _ _)) ?_
      obtain ⟨R0, hR0⟩ : ∃ R0, R0 = swps (ls.map lnS) 512 ⟨ilist f k, ilist g k, false⟩ := ⟨_, rfl⟩
      rw [← hR0]
      obtain ⟨la, lc, hrv, hla⟩ := rowV_is ls.length lb cap
      refine WP.loop [8, 9, 10, 51, 52, 53, 54, 55, 56, 57, 58, 59, 60, 61, 62, 63, 64, 65, 66, 67, 68, 69, 70] (fun z : Nat × BX => [(51, .int .i64 z.1)]) (fun z => boxN bb p q k c1 c2 s1 s2 z.2 ++ (rowM ls.length lb (lnV ls) sp 70 ++ lnM ls))
        (fun z => z.1 ≤ 512 ∧ Good k z.2 ∧ swps (ls.map lnS) (512 - z.1) z.2 = R0) (fun z => 512 - z.1) (0, ⟨ilist f k, ilist g k, false⟩) ⟨by dsimp only; omega, G0, hR0.symm⟩ rfl ⟨rfl, trivial⟩ ?_
      rintro ⟨i, s⟩ ji ⟨i1, Gs, his⟩
      dsimp only [updL] at i1 Gs his ⊢
      by_cases hi : i < 512
      · obtain ⟨m, hm⟩ : ∃ m, 512 - i = m + 1 := ⟨511 - i, by omega⟩
        rw [hm] at his
        unfold swps at his
        repeat' (first
          | refine OP.nilCheck rfl rfl ?_
          | (refine Fin.tail ?_)
          | (refine Fin.then_normal ?_)
          | (refine Fin.then_exit ?_)
          | (refine Fin.then_ret ?_)
          | (refine Fin.block_normal ?_)
          | (refine Fin.block_ret ?_)
          | (refine Fin.block_hit ?_)
          | (refine Fin.block_miss rfl ?_)
          | (refine Fin.loop_exit ?_)
          | (refine Fin.loop_ret ?_)
          | (refine WP.seq ?_)
          | (refine WP.regionQ (by kernel_rfl) (by kernel_rfl) ?_)
          | (refine WP.block ?_)
          | (refine WP.region ?_)
          | (refine WP.skip ?_)
          | (refine WP.exit ?_)
          | (refine WP.ret ?_)
          | (refine WP.label ?_)
          | (refine WP.cond_true rfl ?_)
          | (refine WP.cond_false rfl ?_)
          | (refine WP.cond_dec rfl (fun h => ?_) (fun h => ?_) <;> (try (exfalso; omega)))
          | (refine WP.cond_bool rfl (fun h => ?_) (fun h => ?_))
          | (refine WL.nil ?_)
          | (refine WL.cons ?_)
          | ((show OP _ _ _ _ _ _ _ ⟨some _, .move _, _, _, _, none⟩ _ _); first | refine OP.move (v := .int _ _) rfl rfl ?_ | refine OP.move (v := .bool _) rfl rfl ?_ | refine OP.move (v := .complex _ _ _) rfl rfl ?_ | refine OP.move (v := .float _ _) rfl rfl ?_ | refine OP.move (v := .slice _ _ _) rfl rfl ?_ | refine OP.move (v := .pointer _) rfl rfl ?_ | refine OP.move (v := .agg _) rfl rfl ?_ | refine OP.move (v := .tuple _) rfl rfl ?_ | refine OP.move (v := .map _) rfl rfl ?_ | refine OP.move (v := .func _ _ _) rfl rfl ?_ | refine OP.move (v := _) rfl rfl ?_)
          | ((show OP _ _ _ _ _ _ _ ⟨some _, .assign _, _, _, _, none⟩ _ _); first | refine OP.assign (v := .int _ _) rfl rfl ?_ | refine OP.assign (v := .bool _) rfl rfl ?_ | refine OP.assign (v := .complex _ _ _) rfl rfl ?_ | refine OP.assign (v := .float _ _) rfl rfl ?_ | refine OP.assign (v := .slice _ _ _) rfl rfl ?_ | refine OP.assign (v := .pointer _) rfl rfl ?_ | refine OP.assign (v := .agg _) rfl rfl ?_ | refine OP.assign (v := .tuple _) rfl rfl ?_ | refine OP.assign (v := .map _) rfl rfl ?_ | refine OP.assign (v := .func _ _ _) rfl rfl ?_ | refine OP.assign (v := _) rfl rfl ?_)
          | ((show OP _ _ _ _ _ _ _ ⟨_, _, _, _, _, some _⟩ _ _); first | refine OP.guard_yes rfl rfl ?_ | refine OP.guard_no rfl rfl rfl rfl ?_ | refine OP.guard_un rfl rfl rfl ?_ | refine OP.guard_no0 rfl rfl rfl ?_ | (refine OP.guard_dec rfl rfl (fun h => ?_) (fun h => ?_) <;> (try (exfalso; omega))) | refine OP.guard_bool rfl rfl (fun h => ?_) (fun h => ?_))
          | ((show OP _ _ _ _ _ _ _ ⟨some _, .call _, _, _, _, none⟩ _ _); first | (refine OP.callI (f := 18) (vals := #[.pointer (some ⟨bb, 0, none⟩), .slice la (ls.map lnS).length lc]) (Γb := boxN bb p q k c1 c2 s1 s2 s) (Γr := rowM ls.length lb (lnV ls) sp 70 ++ lnM ls) rfl rfl (by show #[_, rowV ls.length lb cap] = _; rw [hrv, List.length_map]; rfl) (List.Perm.refl _) (fun w' hm hn hst => sweep_fn bb p q k c1 c2 s1 s2 s (ls.map lnS) la lb lc w' (fun h => hla (by simpa using h)) Gs (LnIn.own hst hbd) (by omega) hm hn) (fun v Γ' hR => ?_); obtain ⟨rfl, rfl⟩ := hR) | refine OP.len rfl rfl rfl ?_ | refine OP.real rfl rfl ?_ | refine OP.imag rfl rfl ?_ | refine OP.complex rfl rfl rfl ?_ | refine OP.max2 rfl rfl rfl ?_ | refine OP.min2 rfl rfl rfl ?_)
          | ((show OP _ _ _ _ _ _ _ ⟨some _, .binOp _ _ _ _ _, _, _, _, none⟩ _ _); first | (refine OP.add rfl rfl rfl ?_ ?_ ?_; omega; omega) | (refine OP.sub rfl rfl rfl ?_ ?_ ?_; omega; omega) | refine OP.lss rfl rfl rfl ?_ | refine OP.eql rfl rfl rfl ?_ | refine OP.neq rfl rfl rfl ?_ | refine OP.gtr rfl rfl rfl ?_ | refine OP.geq rfl rfl rfl ?_ | refine OP.leq rfl rfl rfl ?_ | refine OP.eql2 rfl rfl rfl ?_ | refine OP.neq2 rfl rfl rfl ?_ | refine OP.neqd rfl rfl rfl ?_ | refine OP.eqd rfl rfl rfl ?_ | refine OP.eqlb rfl rfl rfl ?_ | (refine OP.mul rfl rfl rfl ?_ ?_ ?_; omega; omega) | (refine OP.quoN rfl rfl rfl ?_ ?_ ?_ ?_; omega; omega; omega) | (refine OP.remN rfl rfl rfl ?_ ?_; omega) | (refine OP.quo rfl rfl rfl ?_ ?_ ?_ ?_ ?_; omega; omega; omega; omega) | (refine OP.rem rfl rfl rfl ?_ ?_ ?_; omega; omega))
          | ((show OP _ _ _ _ _ _ _ ⟨some _, .pick _ _ _, _, _, _, none⟩ _ _); first | refine OP.pick_true rfl rfl ?_ | refine OP.pick_false rfl rfl ?_)
          | (refine OP.extract rfl rfl rfl ?_)
          | (refine OP.fieldAddr rfl rfl ?_)
          | ((show OP _ _ _ _ _ _ _ ⟨some _, .load _ _, _, _, _, none⟩ _ _); first | refine OP.load rfl rfl (Sees.own (List.Mem.head _) rfl) ?_ | refine OP.load rfl rfl (Sees.own (List.Mem.tail _ (List.Mem.head _)) rfl) ?_ | refine OP.load rfl rfl (Sees.own (List.Mem.tail _ (List.Mem.tail _ (List.Mem.head _))) rfl) ?_ | refine OP.load rfl rfl (Sees.own (List.Mem.tail _ (List.Mem.tail _ (List.Mem.tail _ (List.Mem.head _)))) rfl) ?_ | refine OP.load rfl rfl (Sees.own (List.Mem.tail _ (List.Mem.tail _ (List.Mem.tail _ (List.Mem.tail _ (List.Mem.head _))))) rfl) ?_ | refine OP.load rfl rfl (Sees.own (List.Mem.tail _ (List.Mem.tail _ (List.Mem.tail _ (List.Mem.tail _ (List.Mem.tail _ (List.Mem.head _)))))) rfl) ?_ | refine OP.load rfl rfl (Sees.own (List.Mem.tail _ (List.Mem.tail _ (List.Mem.tail _ (List.Mem.tail _ (List.Mem.tail _ (List.Mem.tail _ (List.Mem.head _))))))) rfl) ?_ | refine OP.load rfl rfl (Sees.own (List.Mem.tail _ (List.Mem.tail _ (List.Mem.tail _ (List.Mem.tail _ (List.Mem.tail _ (List.Mem.tail _ (List.Mem.tail _ (List.Mem.head _)))))))) rfl) ?_ | refine OP.load rfl rfl (Sees.old0 (by assumption)) ?_ | refine OP.loadA rfl rfl (SeesN.own 2 (List.Mem.head _) rfl) rfl ?_ | refine OP.loadA rfl rfl (SeesN.own 3 (List.Mem.head _) rfl) rfl ?_ | refine OP.loadA rfl rfl (SeesN.own 2 (List.Mem.tail _ (List.Mem.head _)) rfl) rfl ?_ | refine OP.loadA rfl rfl (SeesN.own 3 (List.Mem.tail _ (List.Mem.head _)) rfl) rfl ?_ | refine OP.loadA rfl rfl (SeesN.own 2 (List.Mem.tail _ (List.Mem.tail _ (List.Mem.head _))) rfl) rfl ?_ | refine OP.loadA rfl rfl (SeesN.own 3 (List.Mem.tail _ (List.Mem.tail _ (List.Mem.head _))) rfl) rfl ?_ | refine OP.loadA rfl rfl (SeesN.own 2 (List.Mem.tail _ (List.Mem.tail _ (List.Mem.tail _ (List.Mem.head _)))) rfl) rfl ?_ | refine OP.loadA rfl rfl (SeesN.own 3 (List.Mem.tail _ (List.Mem.tail _ (List.Mem.tail _ (List.Mem.head _)))) rfl) rfl ?_ | refine OP.loadA rfl rfl (SeesN.own 2 (List.Mem.tail _ (List.Mem.tail _ (List.Mem.tail _ (List.Mem.tail _ (List.Mem.head _))))) rfl) rfl ?_ | refine OP.loadA rfl rfl (SeesN.own 3 (List.Mem.tail _ (List.Mem.tail _ (List.Mem.tail _ (List.Mem.tail _ (List.Mem.head _))))) rfl) rfl ?_ | refine OP.loadA rfl rfl (SeesN.own 2 (List.Mem.tail _ (List.Mem.tail _ (List.Mem.tail _ (List.Mem.tail _ (List.Mem.tail _ (List.Mem.head _)))))) rfl) rfl ?_ | refine OP.loadA rfl rfl (SeesN.own 3 (List.Mem.tail _ (List.Mem.tail _ (List.Mem.tail _ (List.Mem.tail _ (List.Mem.tail _ (List.Mem.head _)))))) rfl) rfl ?_ | refine OP.loadA rfl rfl (SeesN.own 2 (List.Mem.tail _ (List.Mem.tail _ (List.Mem.tail _ (List.Mem.tail _ (List.Mem.tail _ (List.Mem.tail _ (List.Mem.head _))))))) rfl) rfl ?_ | refine OP.loadA rfl rfl (SeesN.own 3 (List.Mem.tail _ (List.Mem.tail _ (List.Mem.tail _ (List.Mem.tail _ (List.Mem.tail _ (List.Mem.tail _ (List.Mem.head _))))))) rfl) rfl ?_ | refine OP.loadA rfl rfl (SeesN.own 2 (List.Mem.tail _ (List.Mem.tail _ (List.Mem.tail _ (List.Mem.tail _ (List.Mem.tail _ (List.Mem.tail _ (List.Mem.tail _ (List.Mem.head _)))))))) rfl) rfl ?_ | refine OP.loadA rfl rfl (SeesN.own 3 (List.Mem.tail _ (List.Mem.tail _ (List.Mem.tail _ (List.Mem.tail _ (List.Mem.tail _ (List.Mem.tail _ (List.Mem.tail _ (List.Mem.head _)))))))) rfl) rfl ?_)
          | ((show OP _ _ _ _ _ _ _ ⟨none, .store _ _ _, _, _, _, none⟩ _ _); first | refine OP.store0 (vs := [_]) rfl rfl rfl rfl rfl ?_ | refine OP.store0 (vs := [_, _]) rfl rfl rfl rfl rfl ?_ | refine OP.store0 (vs := [_, _, _]) rfl rfl rfl rfl rfl ?_ | refine OP.store1 (vs := [_]) rfl rfl rfl rfl rfl ?_ | refine OP.store1 (vs := [_, _]) rfl rfl rfl rfl rfl ?_ | refine OP.store1 (vs := [_, _, _]) rfl rfl rfl rfl rfl ?_ | refine OP.store2 (vs := [_]) rfl rfl rfl rfl rfl ?_ | refine OP.store2 (vs := [_, _]) rfl rfl rfl rfl rfl ?_ | refine OP.store2 (vs := [_, _, _]) rfl rfl rfl rfl rfl ?_ | refine OP.store3 (vs := [_]) rfl rfl rfl rfl rfl ?_ | refine OP.store3 (vs := [_, _]) rfl rfl rfl rfl rfl ?_ | refine OP.store3 (vs := [_, _, _]) rfl rfl rfl rfl rfl ?_ | refine OP.store4 (vs := [_]) rfl rfl rfl rfl rfl ?_ | refine OP.store4 (vs := [_, _]) rfl rfl rfl rfl rfl ?_ | refine OP.store4 (vs := [_, _, _]) rfl rfl rfl rfl rfl ?_ | refine OP.store5 (vs := [_]) rfl rfl rfl rfl rfl ?_ | refine OP.store5 (vs := [_, _]) rfl rfl rfl rfl rfl ?_ | refine OP.store5 (vs := [_, _, _]) rfl rfl rfl rfl rfl ?_ | refine OP.store6 (vs := [_]) rfl rfl rfl rfl rfl ?_ | refine OP.store6 (vs := [_, _]) rfl rfl rfl rfl rfl ?_ | refine OP.store6 (vs := [_, _, _]) rfl rfl rfl rfl rfl ?_ | refine OP.store7 (vs := [_]) rfl rfl rfl rfl rfl ?_ | refine OP.store7 (vs := [_, _]) rfl rfl rfl rfl rfl ?_ | refine OP.store7 (vs := [_, _, _]) rfl rfl rfl rfl rfl ?_)
          | ((show OP _ _ _ _ _ _ _ ⟨_, .unOp _ _ _, _, _, _, none⟩ _ _); first | refine OP.notd rfl rfl ?_ | refine OP.not rfl rfl ?_ | (refine OP.neg rfl rfl ?_ ?_ ?_; omega; omega))
          | ((show OP _ _ _ _ _ _ _ ⟨_, .convert _ _ _, _, _, _, none⟩ _ _); first | (refine OP.conv rfl rfl ?_ ?_ ?_; omega; omega))
          | (refine OP.makeMap rfl (fun bm => ?_))
          | (refine OP.box rfl rfl (fun bx => ?_))
          | (refine OP.alloc rfl rfl (fun al => ?_))
          | (refine OP.build rfl rfl ?_)
          | (refine OP.buildSlice rfl rfl ?_ rfl rfl (fun bs => ?_); (decide))
          | (refine OP.buildSlice0 rfl rfl (fun bs => ?_))
          | (refine OP.makeFunc rfl ?_)
          | (refine OP.field1 rfl rfl rfl ?_))
        · rw [if_neg (by simpa using h)] at his
          refine Fin.drop (List.nil_sublist _) ?_
          refine Fin.ret3 (h0 := .inl rfl) rfl rfl rfl rfl ?_
          rw [← his]
          exact .inr ⟨by show (111 : Int) ≠ 0; decide, rfl, rfl⟩
        · rename_i hsw
          have hsw' : (swp s (ls.map lnS)).2 = true := by simpa using hsw
          have hch : (swp s (ls.map lnS)).1.ch = false := by simpa using h
          have G' := swp_good Gs (fun l hl => (hbd l hl).2) hsw'
          rw [if_pos hsw', hch, if_neg (by decide)] at his
          refine Fin.drop (Γ' := [(p, .cells (vals (swp s (ls.map lnS)).1.lo ++ s1).toArray 3 (0, 0)), (q, .cells (vals (swp s (ls.map lnS)).1.hi ++ s2).toArray 3 (0, 0))]) (List.Sublist.cons _ (List.Sublist.cons_cons _ (List.Sublist.cons_cons _ (List.nil_sublist _)))) ?_
          refine Fin.ret3 (h0 := .inl rfl) rfl rfl rfl rfl ?_
          rw [← his]
          rw [vals_len, ilist_len] at hl1 hl2
          refine .inl ⟨rfl, p, q, c1, c2, s1, s2, ?_, ?_, ?_, ?_, ?_, rfl⟩
          · dsimp only; rw [G'.l1, G'.l2]; rfl
          · dsimp only; rw [G'.l1]; exact hc1
          · dsimp only; rw [G'.l2]; exact hc2
          · dsimp only; rw [List.length_append, vals_len, G'.l1]; omega
          · dsimp only; rw [List.length_append, vals_len, G'.l2]; omega
        · rename_i hsw
          have hsw' : (swp s (ls.map lnS)).2 = true := by simpa using hsw
          have hch : (swp s (ls.map lnS)).1.ch = true := by simpa using h
          rw [if_pos hsw', if_pos hch] at his
          refine Fin.loop_normal fun w' hst => ⟨(i + 1, (swp s (ls.map lnS)).1), ⟨by dsimp only; omega, swp_good Gs (fun l hl => (hbd l hl).2) hsw', by dsimp only; rw [show 512 - (i + 1) = m by omega]; exact his⟩, by dsimp only; omega, by (repeat' (first | exact Agree.refl _ _ | refine Agree.upd rfl ?_ | refine Agree.hav rfl ?_)), ⟨rfl, trivial⟩, hst⟩
      · rw [show 512 - i = 0 by omega] at his
        repeat' (first
          | (refine Fin.tail ?_)
          | (refine Fin.then_normal ?_)
          | (refine Fin.then_exit ?_)
          | (refine Fin.then_ret ?_)
          | (refine Fin.block_normal ?_)
          | (refine Fin.block_ret ?_)
          | (refine Fin.block_hit ?_)
          | (refine Fin.block_miss rfl ?_)
          | (refine Fin.loop_exit ?_)
          | (refine Fin.loop_ret ?_)
          | (refine WP.seq ?_)
          | (refine WP.regionQ (by kernel_rfl) (by kernel_rfl) ?_)
          | (refine WP.block ?_)
          | (refine WP.region ?_)
          | (refine WP.skip ?_)
          | (refine WP.exit ?_)
          | (refine WP.ret ?_)
          | (refine WP.label ?_)
          | (refine WP.cond_true rfl ?_)
          | (refine WP.cond_false rfl ?_)
          | (refine WP.cond_dec rfl (fun h => ?_) (fun h => ?_) <;> (try (exfalso; omega)))
          | (refine WP.cond_bool rfl (fun h => ?_) (fun h => ?_))
          | (refine WL.nil ?_)
          | (refine WL.cons ?_)
          | ((show OP _ _ _ _ _ _ _ ⟨some _, .move _, _, _, _, none⟩ _ _); first | refine OP.move (v := .int _ _) rfl rfl ?_ | refine OP.move (v := .bool _) rfl rfl ?_ | refine OP.move (v := .complex _ _ _) rfl rfl ?_ | refine OP.move (v := .float _ _) rfl rfl ?_ | refine OP.move (v := .slice _ _ _) rfl rfl ?_ | refine OP.move (v := .pointer _) rfl rfl ?_ | refine OP.move (v := .agg _) rfl rfl ?_ | refine OP.move (v := .tuple _) rfl rfl ?_ | refine OP.move (v := .map _) rfl rfl ?_ | refine OP.move (v := .func _ _ _) rfl rfl ?_ | refine OP.move (v := _) rfl rfl ?_)
          | ((show OP _ _ _ _ _ _ _ ⟨some _, .assign _, _, _, _, none⟩ _ _); first | refine OP.assign (v := .int _ _) rfl rfl ?_ | refine OP.assign (v := .bool _) rfl rfl ?_ | refine OP.assign (v := .complex _ _ _) rfl rfl ?_ | refine OP.assign (v := .float _ _) rfl rfl ?_ | refine OP.assign (v := .slice _ _ _) rfl rfl ?_ | refine OP.assign (v := .pointer _) rfl rfl ?_ | refine OP.assign (v := .agg _) rfl rfl ?_ | refine OP.assign (v := .tuple _) rfl rfl ?_ | refine OP.assign (v := .map _) rfl rfl ?_ | refine OP.assign (v := .func _ _ _) rfl rfl ?_ | refine OP.assign (v := _) rfl rfl ?_)
          | ((show OP _ _ _ _ _ _ _ ⟨_, _, _, _, _, some _⟩ _ _); first | refine OP.guard_yes rfl rfl ?_ | refine OP.guard_no rfl rfl rfl rfl ?_ | refine OP.guard_un rfl rfl rfl ?_ | refine OP.guard_no0 rfl rfl rfl ?_ | (refine OP.guard_dec rfl rfl (fun h => ?_) (fun h => ?_) <;> (try (exfalso; omega))) | refine OP.guard_bool rfl rfl (fun h => ?_) (fun h => ?_))
          | ((show OP _ _ _ _ _ _ _ ⟨some _, .call _, _, _, _, none⟩ _ _); first | refine OP.len rfl rfl rfl ?_ | refine OP.real rfl rfl ?_ | refine OP.imag rfl rfl ?_ | refine OP.complex rfl rfl rfl ?_ | refine OP.max2 rfl rfl rfl ?_ | refine OP.min2 rfl rfl rfl ?_)
          | ((show OP _ _ _ _ _ _ _ ⟨some _, .binOp _ _ _ _ _, _, _, _, none⟩ _ _); first | (refine OP.add rfl rfl rfl ?_ ?_ ?_; omega; omega) | (refine OP.sub rfl rfl rfl ?_ ?_ ?_; omega; omega) | refine OP.lss rfl rfl rfl ?_ | refine OP.eql rfl rfl rfl ?_ | refine OP.neq rfl rfl rfl ?_ | refine OP.gtr rfl rfl rfl ?_ | refine OP.geq rfl rfl rfl ?_ | refine OP.leq rfl rfl rfl ?_ | refine OP.eql2 rfl rfl rfl ?_ | refine OP.neq2 rfl rfl rfl ?_ | refine OP.neqd rfl rfl rfl ?_ | refine OP.eqd rfl rfl rfl ?_ | refine OP.eqlb rfl rfl rfl ?_ | (refine OP.mul rfl rfl rfl ?_ ?_ ?_; omega; omega) | (refine OP.quoN rfl rfl rfl ?_ ?_ ?_ ?_; omega; omega; omega) | (refine OP.remN rfl rfl rfl ?_ ?_; omega) | (refine OP.quo rfl rfl rfl ?_ ?_ ?_ ?_ ?_; omega; omega; omega; omega) | (refine OP.rem rfl rfl rfl ?_ ?_ ?_; omega; omega))
          | ((show OP _ _ _ _ _ _ _ ⟨some _, .pick _ _ _, _, _, _, none⟩ _ _); first | refine OP.pick_true rfl rfl ?_ | refine OP.pick_false rfl rfl ?_)
          | (refine OP.extract rfl rfl rfl ?_)
          | (refine OP.fieldAddr rfl rfl ?_)
          | ((show OP _ _ _ _ _ _ _ ⟨some _, .load _ _, _, _, _, none⟩ _ _); first | refine OP.load rfl rfl (Sees.own (List.Mem.head _) rfl) ?_ | refine OP.load rfl rfl (Sees.own (List.Mem.tail _ (List.Mem.head _)) rfl) ?_ | refine OP.load rfl rfl (Sees.own (List.Mem.tail _ (List.Mem.tail _ (List.Mem.head _))) rfl) ?_ | refine OP.load rfl rfl (Sees.own (List.Mem.tail _ (List.Mem.tail _ (List.Mem.tail _ (List.Mem.head _)))) rfl) ?_ | refine OP.load rfl rfl (Sees.own (List.Mem.tail _ (List.Mem.tail _ (List.Mem.tail _ (List.Mem.tail _ (List.Mem.head _))))) rfl) ?_ | refine OP.load rfl rfl (Sees.own (List.Mem.tail _ (List.Mem.tail _ (List.Mem.tail _ (List.Mem.tail _ (List.Mem.tail _ (List.Mem.head _)))))) rfl) ?_ | refine OP.load rfl rfl (Sees.own (List.Mem.tail _ (List.Mem.tail _ (List.Mem.tail _ (List.Mem.tail _ (List.Mem.tail _ (List.Mem.tail _ (List.Mem.head _))))))) rfl) ?_ | refine OP.load rfl rfl (Sees.own (List.Mem.tail _ (List.Mem.tail _ (List.Mem.tail _ (List.Mem.tail _ (List.Mem.tail _ (List.Mem.tail _ (List.Mem.tail _ (List.Mem.head _)))))))) rfl) ?_ | refine OP.load rfl rfl (Sees.old0 (by assumption)) ?_ | refine OP.loadA rfl rfl (SeesN.own 2 (List.Mem.head _) rfl) rfl ?_ | refine OP.loadA rfl rfl (SeesN.own 3 (List.Mem.head _) rfl) rfl ?_ | refine OP.loadA rfl rfl (SeesN.own 2 (List.Mem.tail _ (List.Mem.head _)) rfl) rfl ?_ | refine OP.loadA rfl rfl (SeesN.own 3 (List.Mem.tail _ (List.Mem.head _)) rfl) rfl ?_ | refine OP.loadA rfl rfl (SeesN.own 2 (List.Mem.tail _ (List.Mem.tail _ (List.Mem.head _))) rfl) rfl ?_ | refine OP.loadA rfl rfl (SeesN.own 3 (List.Mem.tail _ (List.Mem.tail _ (List.Mem.head _))) rfl) rfl ?_ | refine OP.loadA rfl rfl (SeesN.own 2 (List.Mem.tail _ (List.Mem.tail _ (List.Mem.tail _ (List.Mem.head _)))) rfl) rfl ?_ | refine OP.loadA rfl rfl (SeesN.own 3 (List.Mem.tail _ (List.Mem.tail _ (List.Mem.tail _ (List.Mem.head _)))) rfl) rfl ?_ | refine OP.loadA rfl rfl (SeesN.own 2 (List.Mem.tail _ (List.Mem.tail _ (List.Mem.tail _ (List.Mem.tail _ (List.Mem.head _))))) rfl) rfl ?_ | refine OP.loadA rfl rfl (SeesN.own 3 (List.Mem.tail _ (List.Mem.tail _ (List.Mem.tail _ (List.Mem.tail _ (List.Mem.head _))))) rfl) rfl ?_ | refine OP.loadA rfl rfl (SeesN.own 2 (List.Mem.tail _ (List.Mem.tail _ (List.Mem.tail _ (List.Mem.tail _ (List.Mem.tail _ (List.Mem.head _)))))) rfl) rfl ?_ | refine OP.loadA rfl rfl (SeesN.own 3 (List.Mem.tail _ (List.Mem.tail _ (List.Mem.tail _ (List.Mem.tail _ (List.Mem.tail _ (List.Mem.head _)))))) rfl) rfl ?_ | refine OP.loadA rfl rfl (SeesN.own 2 (List.Mem.tail _ (List.Mem.tail _ (List.Mem.tail _ (List.Mem.tail _ (List.Mem.tail _ (List.Mem.tail _ (List.Mem.head _))))))) rfl) rfl ?_ | refine OP.loadA rfl rfl (SeesN.own 3 (List.Mem.tail _ (List.Mem.tail _ (List.Mem.tail _ (List.Mem.tail _ (List.Mem.tail _ (List.Mem.tail _ (List.Mem.head _))))))) rfl) rfl ?_ | refine OP.loadA rfl rfl (SeesN.own 2 (List.Mem.tail _ (List.Mem.tail _ (List.Mem.tail _ (List.Mem.tail _ (List.Mem.tail _ (List.Mem.tail _ (List.Mem.tail _ (List.Mem.head _)))))))) rfl) rfl ?_ | refine OP.loadA rfl rfl (SeesN.own 3 (List.Mem.tail _ (List.Mem.tail _ (List.Mem.tail _ (List.Mem.tail _ (List.Mem.tail _ (List.Mem.tail _ (List.Mem.tail _ (List.Mem.head _)))))))) rfl) rfl ?_)
          | ((show OP _ _ _ _ _ _ _ ⟨none, .store _ _ _, _, _, _, none⟩ _ _); first | refine OP.store0 (vs := [_]) rfl rfl rfl rfl rfl ?_ | refine OP.store0 (vs := [_, _]) rfl rfl rfl rfl rfl ?_ | refine OP.store0 (vs := [_, _, _]) rfl rfl rfl rfl rfl ?_ | refine OP.store1 (vs := [_]) rfl rfl rfl rfl rfl ?_ | refine OP.store1 (vs := [_, _]) rfl rfl rfl rfl rfl ?_ | refine OP.store1 (vs := [_, _, _]) rfl rfl rfl rfl rfl ?_ | refine OP.store2 (vs := [_]) rfl rfl rfl rfl rfl ?_ | refine OP.store2 (vs := [_, _]) rfl rfl rfl rfl rfl ?_ | refine OP.store2 (vs := [_, _, _]) rfl rfl rfl rfl rfl ?_ | refine OP.store3 (vs := [_]) rfl rfl rfl rfl rfl ?_ | refine OP.store3 (vs := [_, _]) rfl rfl rfl rfl rfl ?_ | refine OP.store3 (vs := [_, _, _]) rfl rfl rfl rfl rfl ?_ | refine OP.store4 (vs := [_]) rfl rfl rfl rfl rfl ?_ | refine OP.store4 (vs := [_, _]) rfl rfl rfl rfl rfl ?_ | refine OP.store4 (vs := [_, _, _]) rfl rfl rfl rfl rfl ?_ | refine OP.store5 (vs := [_]) rfl rfl rfl rfl rfl ?_ | refine OP.store5 (vs := [_, _]) rfl rfl rfl rfl rfl ?_ | refine OP.store5 (vs := [_, _, _]) rfl rfl rfl rfl rfl ?_ | refine OP.store6 (vs := [_]) rfl rfl rfl rfl rfl ?_ | refine OP.store6 (vs := [_, _]) rfl rfl rfl rfl rfl ?_ | refine OP.store6 (vs := [_, _, _]) rfl rfl rfl rfl rfl ?_ | refine OP.store7 (vs := [_]) rfl rfl rfl rfl rfl ?_ | refine OP.store7 (vs := [_, _]) rfl rfl rfl rfl rfl ?_ | refine OP.store7 (vs := [_, _, _]) rfl rfl rfl rfl rfl ?_)
          | ((show OP _ _ _ _ _ _ _ ⟨_, .unOp _ _ _, _, _, _, none⟩ _ _); first | refine OP.notd rfl rfl ?_ | refine OP.not rfl rfl ?_ | (refine OP.neg rfl rfl ?_ ?_ ?_; omega; omega))
          | ((show OP _ _ _ _ _ _ _ ⟨_, .convert _ _ _, _, _, _, none⟩ _ _); first | (refine OP.conv rfl rfl ?_ ?_ ?_; omega; omega))
          | (refine OP.makeMap rfl (fun bm => ?_))
          | (refine OP.box rfl rfl (fun bx => ?_))
          | (refine OP.alloc rfl rfl (fun al => ?_))
          | (refine OP.build rfl rfl ?_)
          | (refine OP.buildSlice rfl rfl ?_ rfl rfl (fun bs => ?_); (decide))
          | (refine OP.buildSlice0 rfl rfl (fun bs => ?_))
          | (refine OP.makeFunc rfl ?_)
          | (refine OP.field1 rfl rfl rfl ?_))
        refine Fin.drop (List.nil_sublist _) ?_
        refine Fin.ret3 (h0 := .inl rfl) rfl rfl rfl rfl ?_
        rw [← his]
        exact .inr ⟨by show (112 : Int) ≠ 0; decide, rfl, rfl⟩
  · have hand : (okL n N1 f && okL n N2 g) = false := by
      cases h1 : okL n N1 f
      · rfl
      · cases h2 : okL n N2 g
        · rfl
        · exact absurd ⟨h1, h2⟩ hok
    have hr : runV n N1 f N2 g pj = (⟨[], [], false⟩, 1) := by unfold runV; rw [if_neg hok]
    rw [hr]
    refine Does.enter Try.func7 rfl Try.ntmps7 rfl (St.start w) ?_
    repeat' (first
      | (refine Fin.tail ?_)
      | (refine Fin.then_normal ?_)
      | (refine Fin.then_exit ?_)
      | (refine Fin.then_ret ?_)
      | (refine Fin.block_normal ?_)
      | (refine Fin.block_ret ?_)
      | (refine Fin.block_hit ?_)
      | (refine Fin.block_miss rfl ?_)
      | (refine Fin.loop_exit ?_)
      | (refine Fin.loop_ret ?_)
      | (refine WP.seq ?_)
      | (refine WP.regionQ (by kernel_rfl) (by kernel_rfl) ?_)
      | (refine WP.block ?_)
      | (refine WP.region ?_)
      | (refine WP.skip ?_)
      | (refine WP.exit ?_)
      | (refine WP.ret ?_)
      | (refine WP.label ?_)
      | (refine WP.cond_true rfl ?_)
      | (refine WP.cond_false rfl ?_)
      | (refine WP.cond_dec rfl (fun h => ?_) (fun h => ?_) <;> (try (exfalso; omega)))
      | (refine WP.cond_bool rfl (fun h => ?_) (fun h => ?_))
      | (refine WL.nil ?_)
      | (refine WL.cons ?_)
      | ((show OP _ _ _ _ _ _ _ ⟨some _, .move _, _, _, _, none⟩ _ _); first | refine OP.move (v := .int _ _) rfl rfl ?_ | refine OP.move (v := .bool _) rfl rfl ?_ | refine OP.move (v := .complex _ _ _) rfl rfl ?_ | refine OP.move (v := .float _ _) rfl rfl ?_ | refine OP.move (v := .slice _ _ _) rfl rfl ?_ | refine OP.move (v := .pointer _) rfl rfl ?_ | refine OP.move (v := .agg _) rfl rfl ?_ | refine OP.move (v := .tuple _) rfl rfl ?_ | refine OP.move (v := .map _) rfl rfl ?_ | refine OP.move (v := .func _ _ _) rfl rfl ?_ | refine OP.move (v := _) rfl rfl ?_)
      | ((show OP _ _ _ _ _ _ _ ⟨some _, .assign _, _, _, _, none⟩ _ _); first | refine OP.assign (v := .int _ _) rfl rfl ?_ | refine OP.assign (v := .bool _) rfl rfl ?_ | refine OP.assign (v := .complex _ _ _) rfl rfl ?_ | refine OP.assign (v := .float _ _) rfl rfl ?_ | refine OP.assign (v := .slice _ _ _) rfl rfl ?_ | refine OP.assign (v := .pointer _) rfl rfl ?_ | refine OP.assign (v := .agg _) rfl rfl ?_ | refine OP.assign (v := .tuple _) rfl rfl ?_ | refine OP.assign (v := .map _) rfl rfl ?_ | refine OP.assign (v := .func _ _ _) rfl rfl ?_ | refine OP.assign (v := _) rfl rfl ?_)
      | ((show OP _ _ _ _ _ _ _ ⟨_, _, _, _, _, some _⟩ _ _); first | refine OP.guard_yes rfl rfl ?_ | refine OP.guard_no rfl rfl rfl rfl ?_ | refine OP.guard_un rfl rfl rfl ?_ | refine OP.guard_no0 rfl rfl rfl ?_ | (refine OP.guard_dec rfl rfl (fun h => ?_) (fun h => ?_) <;> (try (exfalso; omega))) | refine OP.guard_bool rfl rfl (fun h => ?_) (fun h => ?_))
      | ((show OP _ _ _ _ _ _ _ ⟨some _, .call _, _, _, _, none⟩ _ _); first | refine OP.callq (.bool false) rfl (fun w' hst => check2_fn n _ _ N1 N2 d1 d2 b b' o o' f g w' ha ha' hN1 hN2 (r.over hst) (r'.over hst) _ ((Sees.own (List.Mem.head _) rfl).out w' hst) ((Sees.own (List.Mem.head _) rfl).out w' hst)) (fun _ _ h => by rw [h.1, hand]) ?_ | refine OP.len rfl rfl rfl ?_ | refine OP.real rfl rfl ?_ | refine OP.imag rfl rfl ?_ | refine OP.complex rfl rfl rfl ?_ | refine OP.max2 rfl rfl rfl ?_ | refine OP.min2 rfl rfl rfl ?_)
      | ((show OP _ _ _ _ _ _ _ ⟨some _, .binOp _ _ _ _ _, _, _, _, none⟩ _ _); first | (refine OP.add rfl rfl rfl ?_ ?_ ?_; omega; omega) | (refine OP.sub rfl rfl rfl ?_ ?_ ?_; omega; omega) | refine OP.lss rfl rfl rfl ?_ | refine OP.eql rfl rfl rfl ?_ | refine OP.neq rfl rfl rfl ?_ | refine OP.gtr rfl rfl rfl ?_ | refine OP.geq rfl rfl rfl ?_ | refine OP.leq rfl rfl rfl ?_ | refine OP.eql2 rfl rfl rfl ?_ | refine OP.neq2 rfl rfl rfl ?_ | refine OP.neqd rfl rfl rfl ?_ | refine OP.eqd rfl rfl rfl ?_ | refine OP.eqlb rfl rfl rfl ?_ | (refine OP.mul rfl rfl rfl ?_ ?_ ?_; omega; omega) | (refine OP.quoN rfl rfl rfl ?_ ?_ ?_ ?_; omega; omega; omega) | (refine OP.remN rfl rfl rfl ?_ ?_; omega) | (refine OP.quo rfl rfl rfl ?_ ?_ ?_ ?_ ?_; omega; omega; omega; omega) | (refine OP.rem rfl rfl rfl ?_ ?_ ?_; omega; omega))
      | ((show OP _ _ _ _ _ _ _ ⟨some _, .pick _ _ _, _, _, _, none⟩ _ _); first | refine OP.pick_true rfl rfl ?_ | refine OP.pick_false rfl rfl ?_)
      | (refine OP.extract rfl rfl rfl ?_)
      | (refine OP.fieldAddr rfl rfl ?_)
      | ((show OP _ _ _ _ _ _ _ ⟨some _, .load _ _, _, _, _, none⟩ _ _); first | refine OP.load rfl rfl (Sees.own (List.Mem.head _) rfl) ?_ | refine OP.load rfl rfl (Sees.own (List.Mem.tail _ (List.Mem.head _)) rfl) ?_ | refine OP.load rfl rfl (Sees.own (List.Mem.tail _ (List.Mem.tail _ (List.Mem.head _))) rfl) ?_ | refine OP.load rfl rfl (Sees.own (List.Mem.tail _ (List.Mem.tail _ (List.Mem.tail _ (List.Mem.head _)))) rfl) ?_ | refine OP.load rfl rfl (Sees.own (List.Mem.tail _ (List.Mem.tail _ (List.Mem.tail _ (List.Mem.tail _ (List.Mem.head _))))) rfl) ?_ | refine OP.load rfl rfl (Sees.own (List.Mem.tail _ (List.Mem.tail _ (List.Mem.tail _ (List.Mem.tail _ (List.Mem.tail _ (List.Mem.head _)))))) rfl) ?_ | refine OP.load rfl rfl (Sees.own (List.Mem.tail _ (List.Mem.tail _ (List.Mem.tail _ (List.Mem.tail _ (List.Mem.tail _ (List.Mem.tail _ (List.Mem.head _))))))) rfl) ?_ | refine OP.load rfl rfl (Sees.own (List.Mem.tail _ (List.Mem.tail _ (List.Mem.tail _ (List.Mem.tail _ (List.Mem.tail _ (List.Mem.tail _ (List.Mem.tail _ (List.Mem.head _)))))))) rfl) ?_ | refine OP.load rfl rfl (Sees.old0 (by assumption)) ?_ | refine OP.loadA rfl rfl (SeesN.own 2 (List.Mem.head _) rfl) rfl ?_ | refine OP.loadA rfl rfl (SeesN.own 3 (List.Mem.head _) rfl) rfl ?_ | refine OP.loadA rfl rfl (SeesN.own 2 (List.Mem.tail _ (List.Mem.head _)) rfl) rfl ?_ | refine OP.loadA rfl rfl (SeesN.own 3 (List.Mem.tail _ (List.Mem.head _)) rfl) rfl ?_ | refine OP.loadA rfl rfl (SeesN.own 2 (List.Mem.tail _ (List.Mem.tail _ (List.Mem.head _))) rfl) rfl ?_ | refine OP.loadA rfl rfl (SeesN.own 3 (List.Mem.tail _ (List.Mem.tail _ (List.Mem.head _))) rfl) rfl ?_ | refine OP.loadA rfl rfl (SeesN.own 2 (List.Mem.tail _ (List.Mem.tail _ (List.Mem.tail _ (List.Mem.head _)))) rfl) rfl ?_ | refine OP.loadA rfl rfl (SeesN.own 3 (List.Mem.tail _ (List.Mem.tail _ (List.Mem.tail _ (List.Mem.head _)))) rfl) rfl ?_ | refine OP.loadA rfl rfl (SeesN.own 2 (List.Mem.tail _ (List.Mem.tail _ (List.Mem.tail _ (List.Mem.tail _ (List.Mem.head _))))) rfl) rfl ?_ | refine OP.loadA rfl rfl (SeesN.own 3 (List.Mem.tail _ (List.Mem.tail _ (List.Mem.tail _ (List.Mem.tail _ (List.Mem.head _))))) rfl) rfl ?_ | refine OP.loadA rfl rfl (SeesN.own 2 (List.Mem.tail _ (List.Mem.tail _ (List.Mem.tail _ (List.Mem.tail _ (List.Mem.tail _ (List.Mem.head _)))))) rfl) rfl ?_ | refine OP.loadA rfl rfl (SeesN.own 3 (List.Mem.tail _ (List.Mem.tail _ (List.Mem.tail _ (List.Mem.tail _ (List.Mem.tail _ (List.Mem.head _)))))) rfl) rfl ?_ | refine OP.loadA rfl rfl (SeesN.own 2 (List.Mem.tail _ (List.Mem.tail _ (List.Mem.tail _ (List.Mem.tail _ (List.Mem.tail _ (List.Mem.tail _ (List.Mem.head _))))))) rfl) rfl ?_ | refine OP.loadA rfl rfl (SeesN.own 3 (List.Mem.tail _ (List.Mem.tail _ (List.Mem.tail _ (List.Mem.tail _ (List.Mem.tail _ (List.Mem.tail _ (List.Mem.head _))))))) rfl) rfl ?_ | refine OP.loadA rfl rfl (SeesN.own 2 (List.Mem.tail _ (List.Mem.tail _ (List.Mem.tail _ (List.Mem.tail _ (List.Mem.tail _ (List.Mem.tail _ (List.Mem.tail _ (List.Mem.head _)))))))) rfl) rfl ?_ | refine OP.loadA rfl rfl (SeesN.own 3 (List.Mem.tail _ (List.Mem.tail _ (List.Mem.tail _ (List.Mem.tail _ (List.Mem.tail _ (List.Mem.tail _ (List.Mem.tail _ (List.Mem.head _)))))))) rfl) rfl ?_)
      | ((show OP _ _ _ _ _ _ _ ⟨none, .store _ _ _, _, _, _, none⟩ _ _); first | refine OP.store0 (vs := [_]) rfl rfl rfl rfl rfl ?_ | refine OP.store0 (vs := [_, _]) rfl rfl rfl rfl rfl ?_ | refine OP.store0 (vs := [_, _, _]) rfl rfl rfl rfl rfl ?_ | refine OP.store1 (vs := [_]) rfl rfl rfl rfl rfl ?_ | refine OP.store1 (vs := [_, _]) rfl rfl rfl rfl rfl ?_ | refine OP.store1 (vs := [_, _, _]) rfl rfl rfl rfl rfl ?_ | refine OP.store2 (vs := [_]) rfl rfl rfl rfl rfl ?_ | refine OP.store2 (vs := [_, _]) rfl rfl rfl rfl rfl ?_ | refine OP.store2 (vs := [_, _, _]) rfl rfl rfl rfl rfl ?_ | refine OP.store3 (vs := [_]) rfl rfl rfl rfl rfl ?_ | refine OP.store3 (vs := [_, _]) rfl rfl rfl rfl rfl ?_ | refine OP.store3 (vs := [_, _, _]) rfl rfl rfl rfl rfl ?_ | refine OP.store4 (vs := [_]) rfl rfl rfl rfl rfl ?_ | refine OP.store4 (vs := [_, _]) rfl rfl rfl rfl rfl ?_ | refine OP.store4 (vs := [_, _, _]) rfl rfl rfl rfl rfl ?_ | refine OP.store5 (vs := [_]) rfl rfl rfl rfl rfl ?_ | refine OP.store5 (vs := [_, _]) rfl rfl rfl rfl rfl ?_ | refine OP.store5 (vs := [_, _, _]) rfl rfl rfl rfl rfl ?_ | refine OP.store6 (vs := [_]) rfl rfl rfl rfl rfl ?_ | refine OP.store6 (vs := [_, _]) rfl rfl rfl rfl rfl ?_ | refine OP.store6 (vs := [_, _, _]) rfl rfl rfl rfl rfl ?_ | refine OP.store7 (vs := [_]) rfl rfl rfl rfl rfl ?_ | refine OP.store7 (vs := [_, _]) rfl rfl rfl rfl rfl ?_ | refine OP.store7 (vs := [_, _, _]) rfl rfl rfl rfl rfl ?_)
      | ((show OP _ _ _ _ _ _ _ ⟨_, .unOp _ _ _, _, _, _, none⟩ _ _); first | refine OP.notd rfl rfl ?_ | refine OP.not rfl rfl ?_ | (refine OP.neg rfl rfl ?_ ?_ ?_; omega; omega))
      | ((show OP _ _ _ _ _ _ _ ⟨_, .convert _ _ _, _, _, _, none⟩ _ _); first | (refine OP.conv rfl rfl ?_ ?_ ?_; omega; omega))
      | (refine OP.makeMap rfl (fun bm => ?_))
      | (refine OP.box rfl rfl (fun bx => ?_))
      | (refine OP.alloc rfl rfl (fun al => ?_))
      | (refine OP.build rfl rfl ?_)
      | (refine OP.buildSlice rfl rfl ?_ rfl rfl (fun bs => ?_); (decide))
      | (refine OP.buildSlice0 rfl rfl (fun bs => ?_))
      | (refine OP.makeFunc rfl ?_)
      | (refine OP.field1 rfl rfl rfl ?_))
    refine Fin.drop (List.nil_sublist _) ?_
    refine Fin.ret3 (h0 := .inl rfl) rfl rfl rfl rfl ?_
    exact .inr ⟨by decide, rfl, rfl⟩
end Go.Proofs.Ytghmkheoopakaaa
