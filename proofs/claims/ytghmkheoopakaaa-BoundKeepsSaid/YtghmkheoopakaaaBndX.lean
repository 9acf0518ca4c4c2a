/- Layer 19's laws: the fixed fact. -/
import Derived.Test.YtghmkheoopakaaaBndV
import Derived.Test.YtghmkheoopakaaaBndC
set_option linter.unusedVariables false
set_option maxRecDepth 100000
namespace Go.Proofs.Ytghmkheoopakaaa
open Go.Pen Go.Flt

theorem RdI.of_cells {w : World} {b n : Nat} {f : Nat → Int} {cs : Array Value} {T : TypeId} {fz : Nat × Nat} (h : w.heap[b]? = some (.cells cs T fz)) (hc : ∀ i, i < n → cs[0 + i * 1]? = some (.int .i64 (f i))) : RdI w b 0 n f :=
  ⟨fun i hi => cell_of h (hc i hi)⟩
def alivePj : List Pj := [((1, 0), [255, 0]), ((0, 1), [0, 255])]
theorem alive_run : runV 2 4 (fun _ => 0) 4 (fun _ => 255) alivePj = (⟨[0, 0, 0, 255], [0, 0, 0, 255], false⟩, 0) := by kernel_rfl
theorem fl255 : fl 255 = 4643176031446892544 := by decide
theorem fil4 : fil 4 4 = #[.int .i64 255, .int .i64 255, .int .i64 255, .int .i64 255] := rfl
theorem lt4 {i : Nat} (h : i < 4) : i = 0 ∨ i = 1 ∨ i = 2 ∨ i = 3 := by omega
theorem lt2 {i : Nat} (h : i < 2) : i = 0 ∨ i = 1 := by omega
theorem alive_ok : ∀ d ∈ alivePj, isDir d.1.1 d.1.2 = true ∧ (d.2.length : Int) = binsN 2 d.1.1 d.1.2 ∧ ∀ v ∈ d.2, v ≤ 4294967296 := by
  unfold alivePj
  intro d hd
  simp only [List.mem_cons, List.not_mem_nil, or_false] at hd
  rcases hd with rfl | rfl
  · exact ⟨by decide, by decide, by decide⟩
  · exact ⟨by decide, by decide, by decide⟩

set_option maxHeartbeats 4000000 in
theorem alive_fn (w : World) : Does Try.prog 5 #[] [] w fun v Γ => v = .bool true ∧ Γ = [] := by
  refine Does.enter Try.func5 rfl Try.ntmps5 rfl (St.start w) ?_
  repeat' (first
    | (refine Fin.tail ?_)
    | (refine Fin.then_normal ?_)
    | (refine Fin.then_exit ?_)
    | (refine Fin.then_ret ?_)
    | (refine Fin.block_normal ?_)
    | (refine Fin.block_ret ?_)
    | (refine Fin.block_hit ?_)
    | (refine Fin.block_miss rfl ?_)
    | (refine Fin.loop_exit ?_)
    | (refine Fin.loop_ret ?_)
    | (refine WP.seq ?_)
    | (refine WP.regionQ (by kernel_rfl) (by kernel_rfl) ?_)
    | (refine WP.block ?_)
    | (refine WP.region ?_)
    | (refine WP.skip ?_)
    | (refine WP.exit ?_)
    | (refine WP.ret ?_)
    | (refine WP.label ?_)
    | (refine WP.cond_true rfl ?_)
    | (refine WP.cond_false rfl ?_)
    | (refine WP.cond_dec rfl (fun h => ?_) (fun h => ?_) <;> (try (exfalso; omega)))
    | (refine WP.cond_bool rfl (fun h => ?_) (fun h => ?_))
    | (refine WL.nil ?_)
    | (refine WL.cons ?_)
    | ((show OP _ _ _ _ _ _ _ ⟨some _, .move _, _, _, _, none⟩ _ _); first | refine OP.move (v := .int _ _) rfl rfl ?_ | refine OP.move (v := .bool _) rfl rfl ?_ | refine OP.move (v := .complex _ _ _) rfl rfl ?_ | refine OP.move (v := .float _ _) rfl rfl ?_ | refine OP.move (v := .slice _ _ _) rfl rfl ?_ | refine OP.move (v := .pointer _) rfl rfl ?_ | refine OP.move (v := .agg _) rfl rfl ?_ | refine OP.move (v := .tuple _) rfl rfl ?_ | refine OP.move (v := .map _) rfl rfl ?_ | refine OP.move (v := .func _ _ _) rfl rfl ?_ | refine OP.move (v := _) rfl rfl ?_)
    | ((show OP _ _ _ _ _ _ _ ⟨some _, .assign _, _, _, _, none⟩ _ _); first | refine OP.assign (v := .int _ _) rfl rfl ?_ | refine OP.assign (v := .bool _) rfl rfl ?_ | refine OP.assign (v := .complex _ _ _) rfl rfl ?_ | refine OP.assign (v := .float _ _) rfl rfl ?_ | refine OP.assign (v := .slice _ _ _) rfl rfl ?_ | refine OP.assign (v := .pointer _) rfl rfl ?_ | refine OP.assign (v := .agg _) rfl rfl ?_ | refine OP.assign (v := .tuple _) rfl rfl ?_ | refine OP.assign (v := .map _) rfl rfl ?_ | refine OP.assign (v := .func _ _ _) rfl rfl ?_ | refine OP.assign (v := _) rfl rfl ?_)
    | ((show OP _ _ _ _ _ _ _ ⟨_, _, _, _, _, some _⟩ _ _); first | refine OP.guard_yes rfl rfl ?_ | refine OP.guard_no rfl rfl rfl rfl ?_ | refine OP.guard_un rfl rfl rfl ?_ | refine OP.guard_no0 rfl rfl rfl ?_ | (refine OP.guard_dec rfl rfl (fun h => ?_) (fun h => ?_) <;> (try (exfalso; omega))) | refine OP.guard_bool rfl rfl (fun h => ?_) (fun h => ?_))
    | ((show OP _ _ _ _ _ _ _ ⟨some _, .call _, _, _, _, none⟩ _ _); first | (refine OP.call rfl (fun w _ => Wide_fn 2 (by omega) (by omega) w) (fun _ _ hR => ?_); obtain ⟨b, b', N, hN, rfl, hp⟩ := hR; obtain rfl : N = 4 := (by omega); refine WL.perm (hp.append_right _) ?_) | refine OP.len rfl rfl rfl ?_ | refine OP.real rfl rfl ?_ | refine OP.imag rfl rfl ?_ | refine OP.complex rfl rfl rfl ?_ | refine OP.max2 rfl rfl rfl ?_ | refine OP.min2 rfl rfl rfl ?_)
    | ((show OP _ _ _ _ _ _ _ ⟨some _, .binOp _ _ _ _ _, _, _, _, none⟩ _ _); first | (refine OP.add rfl rfl rfl ?_ ?_ ?_; omega; omega) | (refine OP.sub rfl rfl rfl ?_ ?_ ?_; omega; omega) | refine OP.lss rfl rfl rfl ?_ | refine OP.eql rfl rfl rfl ?_ | refine OP.neq rfl rfl rfl ?_ | refine OP.gtr rfl rfl rfl ?_ | refine OP.geq rfl rfl rfl ?_ | refine OP.leq rfl rfl rfl ?_ | refine OP.eql2 rfl rfl rfl ?_ | refine OP.neq2 rfl rfl rfl ?_ | refine OP.neqd rfl rfl rfl ?_ | refine OP.eqd rfl rfl rfl ?_ | refine OP.eqlb rfl rfl rfl ?_ | (refine OP.mul rfl rfl rfl ?_ ?_ ?_; omega; omega) | (refine OP.quoN rfl rfl rfl ?_ ?_ ?_ ?_; omega; omega; omega) | (refine OP.remN rfl rfl rfl ?_ ?_; omega) | (refine OP.quo rfl rfl rfl ?_ ?_ ?_ ?_ ?_; omega; omega; omega; omega) | (refine OP.rem rfl rfl rfl ?_ ?_ ?_; omega; omega))
    | ((show OP _ _ _ _ _ _ _ ⟨some _, .pick _ _ _, _, _, _, none⟩ _ _); first | refine OP.pick_true rfl rfl ?_ | refine OP.pick_false rfl rfl ?_)
    | (refine OP.extract rfl rfl rfl ?_)
    | (refine OP.fieldAddr rfl rfl ?_)
    | ((show OP _ _ _ _ _ _ _ ⟨some _, .load _ _, _, _, _, none⟩ _ _); first | refine OP.load rfl rfl (Sees.own (List.Mem.head _) rfl) ?_ | refine OP.load rfl rfl (Sees.own (List.Mem.tail _ (List.Mem.head _)) rfl) ?_ | refine OP.load rfl rfl (Sees.own (List.Mem.tail _ (List.Mem.tail _ (List.Mem.head _))) rfl) ?_ | refine OP.load rfl rfl (Sees.own (List.Mem.tail _ (List.Mem.tail _ (List.Mem.tail _ (List.Mem.head _)))) rfl) ?_ | refine OP.load rfl rfl (Sees.own (List.Mem.tail _ (List.Mem.tail _ (List.Mem.tail _ (List.Mem.tail _ (List.Mem.head _))))) rfl) ?_ | refine OP.load rfl rfl (Sees.own (List.Mem.tail _ (List.Mem.tail _ (List.Mem.tail _ (List.Mem.tail _ (List.Mem.tail _ (List.Mem.head _)))))) rfl) ?_ | refine OP.load rfl rfl (Sees.own (List.Mem.tail _ (List.Mem.tail _ (List.Mem.tail _ (List.Mem.tail _ (List.Mem.tail _ (List.Mem.tail _ (List.Mem.head _))))))) rfl) ?_ | refine OP.load rfl rfl (Sees.own (List.Mem.tail _ (List.Mem.tail _ (List.Mem.tail _ (List.Mem.tail _ (List.Mem.tail _ (List.Mem.tail _ (List.Mem.tail _ (List.Mem.head _)))))))) rfl) ?_ | refine OP.load rfl rfl (Sees.old0 (by assumption)) ?_ | refine OP.loadA rfl rfl (SeesN.own 2 (List.Mem.head _) rfl) rfl ?_ | refine OP.loadA rfl rfl (SeesN.own 3 (List.Mem.head _) rfl) rfl ?_ | refine OP.loadA rfl rfl (SeesN.own 2 (List.Mem.tail _ (List.Mem.head _)) rfl) rfl ?_ | refine OP.loadA rfl rfl (SeesN.own 3 (List.Mem.tail _ (List.Mem.head _)) rfl) rfl ?_ | refine OP.loadA rfl rfl (SeesN.own 2 (List.Mem.tail _ (List.Mem.tail _ (List.Mem.head _))) rfl) rfl ?_ | refine OP.loadA rfl rfl (SeesN.own 3 (List.Mem.tail _ (List.Mem.tail _ (List.Mem.head _))) rfl) rfl ?_ | refine OP.loadA rfl rfl (SeesN.own 2 (List.Mem.tail _ (List.Mem.tail _ (List.Mem.tail _ (List.Mem.head _)))) rfl) rfl ?_ | refine OP.loadA rfl rfl (SeesN.own 3 (List.Mem.tail _ (List.Mem.tail _ (List.Mem.tail _ (List.Mem.head _)))) rfl) rfl ?_ | refine OP.loadA rfl rfl (SeesN.own 2 (List.Mem.tail _ (List.Mem.tail _ (List.Mem.tail _ (List.Mem.tail _ (List.Mem.head _))))) rfl) rfl ?_ | refine OP.loadA rfl rfl (SeesN.own 3 (List.Mem.tail _ (List.Mem.tail _ (List.Mem.tail _ (List.Mem.tail _ (List.Mem.head _))))) rfl) rfl ?_ | refine OP.loadA rfl rfl (SeesN.own 2 (List.Mem.tail _ (List.Mem.tail _ (List.Mem.tail _ (List.Mem.tail _ (List.Mem.tail _ (List.Mem.head _)))))) rfl) rfl ?_ | refine OP.loadA rfl rfl (SeesN.own 3 (List.Mem.tail _ (List.Mem.tail _ (List.Mem.tail _ (List.Mem.tail _ (List.Mem.tail _ (List.Mem.head _)))))) rfl) rfl ?_ | refine OP.loadA rfl rfl (SeesN.own 2 (List.Mem.tail _ (List.Mem.tail _ (List.Mem.tail _ (List.Mem.tail _ (List.Mem.tail _ (List.Mem.tail _ (List.Mem.head _))))))) rfl) rfl ?_ | refine OP.loadA rfl rfl (SeesN.own 3 (List.Mem.tail _ (List.Mem.tail _ (List.Mem.tail _ (List.Mem.tail _ (List.Mem.tail _ (List.Mem.tail _ (List.Mem.head _))))))) rfl) rfl ?_ | refine OP.loadA rfl rfl (SeesN.own 2 (List.Mem.tail _ (List.Mem.tail _ (List.Mem.tail _ (List.Mem.tail _ (List.Mem.tail _ (List.Mem.tail _ (List.Mem.tail _ (List.Mem.head _)))))))) rfl) rfl ?_ | refine OP.loadA rfl rfl (SeesN.own 3 (List.Mem.tail _ (List.Mem.tail _ (List.Mem.tail _ (List.Mem.tail _ (List.Mem.tail _ (List.Mem.tail _ (List.Mem.tail _ (List.Mem.head _)))))))) rfl) rfl ?_)
    | ((show OP _ _ _ _ _ _ _ ⟨none, .store _ _ _, _, _, _, none⟩ _ _); first | refine OP.store0 (vs := [_]) rfl rfl rfl rfl rfl ?_ | refine OP.store0 (vs := [_, _]) rfl rfl rfl rfl rfl ?_ | refine OP.store0 (vs := [_, _, _]) rfl rfl rfl rfl rfl ?_ | refine OP.store1 (vs := [_]) rfl rfl rfl rfl rfl ?_ | refine OP.store1 (vs := [_, _]) rfl rfl rfl rfl rfl ?_ | refine OP.store1 (vs := [_, _, _]) rfl rfl rfl rfl rfl ?_ | refine OP.store2 (vs := [_]) rfl rfl rfl rfl rfl ?_ | refine OP.store2 (vs := [_, _]) rfl rfl rfl rfl rfl ?_ | refine OP.store2 (vs := [_, _, _]) rfl rfl rfl rfl rfl ?_ | refine OP.store3 (vs := [_]) rfl rfl rfl rfl rfl ?_ | refine OP.store3 (vs := [_, _]) rfl rfl rfl rfl rfl ?_ | refine OP.store3 (vs := [_, _, _]) rfl rfl rfl rfl rfl ?_ | refine OP.store4 (vs := [_]) rfl rfl rfl rfl rfl ?_ | refine OP.store4 (vs := [_, _]) rfl rfl rfl rfl rfl ?_ | refine OP.store4 (vs := [_, _, _]) rfl rfl rfl rfl rfl ?_ | refine OP.store5 (vs := [_]) rfl rfl rfl rfl rfl ?_ | refine OP.store5 (vs := [_, _]) rfl rfl rfl rfl rfl ?_ | refine OP.store5 (vs := [_, _, _]) rfl rfl rfl rfl rfl ?_ | refine OP.store6 (vs := [_]) rfl rfl rfl rfl rfl ?_ | refine OP.store6 (vs := [_, _]) rfl rfl rfl rfl rfl ?_ | refine OP.store6 (vs := [_, _, _]) rfl rfl rfl rfl rfl ?_ | refine OP.store7 (vs := [_]) rfl rfl rfl rfl rfl ?_ | refine OP.store7 (vs := [_, _]) rfl rfl rfl rfl rfl ?_ | refine OP.store7 (vs := [_, _, _]) rfl rfl rfl rfl rfl ?_)
    | ((show OP _ _ _ _ _ _ _ ⟨_, .unOp _ _ _, _, _, _, none⟩ _ _); first | refine OP.notd rfl rfl ?_ | refine OP.not rfl rfl ?_ | (refine OP.neg rfl rfl ?_ ?_ ?_; omega; omega))
    | ((show OP _ _ _ _ _ _ _ ⟨_, .convert _ _ _, _, _, _, none⟩ _ _); first | (refine OP.conv rfl rfl ?_ ?_ ?_; omega; omega))
    | (refine OP.makeMap rfl (fun bm => ?_))
    | (refine OP.box rfl rfl (fun bx => ?_))
    | (refine OP.alloc rfl rfl (fun al => ?_))
    | (refine OP.build rfl rfl ?_)
    | (refine OP.buildSlice rfl rfl ?_ rfl rfl (fun bs => ?_); (decide))
    | (refine OP.buildSlice0 rfl rfl (fun bs => ?_))
    | (refine OP.makeFunc rfl ?_)
    | (refine OP.field1 rfl rfl rfl ?_))
  rename_i _ b1 b2
  refine OP.call (f := 7) (R := RunR (runV 2 4 (fun _ => 0) 4 (fun _ => 255) alivePj)) rfl (fun w' hst => ?_) (fun v Γ' hR => ?_)
  · have g0 := hst.has _ (List.Mem.head _)
    have g1 := hst.has _ (List.Mem.tail _ (List.Mem.head _))
    have g2 := hst.has _ (List.Mem.tail _ (List.Mem.tail _ (List.Mem.head _)))
    have g3 := hst.has _ (List.Mem.tail _ (List.Mem.tail _ (List.Mem.tail _ (List.Mem.head _))))
    have g4 := hst.has _ (List.Mem.tail _ (List.Mem.tail _ (List.Mem.tail _ (List.Mem.tail _ (List.Mem.head _)))))
    refine Run_fn 2 alivePj (some ⟨bs, 0, none⟩) (some ⟨b, 0, none⟩) (some ⟨b', 0, none⟩) bs 0 2 4 4 4 4 b b' 0 0 (fun _ => 0) (fun _ => 255) w' (fun _ => rfl) (by decide) ⟨fun k d hd => ?_, alive_ok⟩ (fun _ => rfl) (fun _ => rfl) (by omega) (by omega) (RdI.of_cells g4 fun i hi => ?_) (RdI.of_cells g3 fun i hi => ?_)
    · rcases k with _ | _ | k
      · obtain rfl : ((1, 0), [255, 0]) = d := by simpa [alivePj] using hd
        refine ⟨some ⟨b1, 0, none⟩, b1, 0, 2, cell_of g0 rfl, cell_of g0 rfl, cell_of g0 rfl, fun _ => rfl, fun j v hj => ?_⟩
        rcases j with _ | _ | j
        · obtain rfl : 255 = v := by simpa using hj
          rw [fl255]; exact cell_of g2 rfl
        · obtain rfl : 0 = v := by simpa using hj
          exact cell_of g2 rfl
        · simp at hj
      · obtain rfl : ((0, 1), [0, 255]) = d := by simpa [alivePj] using hd
        refine ⟨some ⟨b2, 0, none⟩, b2, 0, 2, cell_of g0 rfl, cell_of g0 rfl, cell_of g0 rfl, fun _ => rfl, fun j v hj => ?_⟩
        rcases j with _ | _ | j
        · obtain rfl : 0 = v := by simpa using hj
          exact cell_of g1 rfl
        · obtain rfl : 255 = v := by simpa using hj
          rw [fl255]; exact cell_of g1 rfl
        · simp at hj
      · simp [alivePj] at hd
    · rcases lt4 hi with rfl | rfl | rfl | rfl <;> rfl
    · rcases lt4 hi with rfl | rfl | rfl | rfl <;> rfl
  · rw [alive_run] at hR
    rcases hR with ⟨_, p, q, c1, c2, s1, s2, rfl, _, _, _, _, rfl⟩ | ⟨h, _⟩
    · repeat' (first
        | refine OP.indexAddr (j := 3) rfl rfl rfl rfl (by decide) ?_
        | refine OP.indexAddr (j := 0) rfl rfl rfl rfl (by decide) ?_
        | refine OP.indexAddr (j := 2) rfl rfl rfl rfl (by decide) ?_
        | refine OP.load rfl rfl (Sees.own (List.Mem.head _) (vals_at (i := 3) rfl)) ?_
        | refine OP.load rfl rfl (Sees.own (List.Mem.tail _ (List.Mem.head _)) (vals_at (i := 0) rfl)) ?_
        | refine OP.load rfl rfl (Sees.own (List.Mem.tail _ (List.Mem.head _)) (vals_at (i := 2) rfl)) ?_
        | (refine Fin.tail ?_)
        | (refine Fin.then_normal ?_)
        | (refine Fin.then_exit ?_)
        | (refine Fin.then_ret ?_)
        | (refine Fin.block_normal ?_)
        | (refine Fin.block_ret ?_)
        | (refine Fin.block_hit ?_)
        | (refine Fin.block_miss rfl ?_)
        | (refine Fin.loop_exit ?_)
        | (refine Fin.loop_ret ?_)
        | (refine WP.seq ?_)
        | (refine WP.regionQ (by kernel_rfl) (by kernel_rfl) ?_)
        | (refine WP.block ?_)
        | (refine WP.region ?_)
        | (refine WP.skip ?_)
        | (refine WP.exit ?_)
        | (refine WP.ret ?_)
        | (refine WP.label ?_)
        | (refine WP.cond_true rfl ?_)
        | (refine WP.cond_false rfl ?_)
        | (refine WP.cond_dec rfl (fun h => ?_) (fun h => ?_) <;> (try (exfalso; omega)))
        | (refine WP.cond_bool rfl (fun h => ?_) (fun h => ?_))
        | (refine WL.nil ?_)
        | (refine WL.cons ?_)
        | ((show OP _ _ _ _ _ _ _ ⟨some _, .move _, _, _, _, none⟩ _ _); first | refine OP.move (v := .int _ _) rfl rfl ?_ | refine OP.move (v := .bool _) rfl rfl ?_ | refine OP.move (v := .complex _ _ _) rfl rfl ?_ | refine OP.move (v := .float _ _) rfl rfl ?_ | refine OP.move (v := .slice _ _ _) rfl rfl ?_ | refine OP.move (v := .pointer _) rfl rfl ?_ | refine OP.move (v := .agg _) rfl rfl ?_ | refine OP.move (v := .tuple _) rfl rfl ?_ | refine OP.move (v := .map _) rfl rfl ?_ | refine OP.move (v := .func _ _ _) rfl rfl ?_ | refine OP.move (v := _) rfl rfl ?_)
        | ((show OP _ _ _ _ _ _ _ ⟨some _, .assign _, _, _, _, none⟩ _ _); first | refine OP.assign (v := .int _ _) rfl rfl ?_ | refine OP.assign (v := .bool _) rfl rfl ?_ | refine OP.assign (v := .complex _ _ _) rfl rfl ?_ | refine OP.assign (v := .float _ _) rfl rfl ?_ | refine OP.assign (v := .slice _ _ _) rfl rfl ?_ | refine OP.assign (v := .pointer _) rfl rfl ?_ | refine OP.assign (v := .agg _) rfl rfl ?_ | refine OP.assign (v := .tuple _) rfl rfl ?_ | refine OP.assign (v := .map _) rfl rfl ?_ | refine OP.assign (v := .func _ _ _) rfl rfl ?_ | refine OP.assign (v := _) rfl rfl ?_)
        | ((show OP _ _ _ _ _ _ _ ⟨_, _, _, _, _, some _⟩ _ _); first | refine OP.guard_yes rfl rfl ?_ | refine OP.guard_no rfl rfl rfl rfl ?_ | refine OP.guard_un rfl rfl rfl ?_ | refine OP.guard_no0 rfl rfl rfl ?_ | (refine OP.guard_dec rfl rfl (fun h => ?_) (fun h => ?_) <;> (try (exfalso; omega))) | refine OP.guard_bool rfl rfl (fun h => ?_) (fun h => ?_))
        | ((show OP _ _ _ _ _ _ _ ⟨some _, .call _, _, _, _, none⟩ _ _); first | refine OP.len rfl rfl rfl ?_ | refine OP.real rfl rfl ?_ | refine OP.imag rfl rfl ?_ | refine OP.complex rfl rfl rfl ?_ | refine OP.max2 rfl rfl rfl ?_ | refine OP.min2 rfl rfl rfl ?_)
        | ((show OP _ _ _ _ _ _ _ ⟨some _, .binOp _ _ _ _ _, _, _, _, none⟩ _ _); first | (refine OP.add rfl rfl rfl ?_ ?_ ?_; omega; omega) | (refine OP.sub rfl rfl rfl ?_ ?_ ?_; omega; omega) | refine OP.lss rfl rfl rfl ?_ | refine OP.eql rfl rfl rfl ?_ | refine OP.neq rfl rfl rfl ?_ | refine OP.gtr rfl rfl rfl ?_ | refine OP.geq rfl rfl rfl ?_ | refine OP.leq rfl rfl rfl ?_ | refine OP.eql2 rfl rfl rfl ?_ | refine OP.neq2 rfl rfl rfl ?_ | refine OP.neqd rfl rfl rfl ?_ | refine OP.eqd rfl rfl rfl ?_ | refine OP.eqlb rfl rfl rfl ?_ | (refine OP.mul rfl rfl rfl ?_ ?_ ?_; omega; omega) | (refine OP.quoN rfl rfl rfl ?_ ?_ ?_ ?_; omega; omega; omega) | (refine OP.remN rfl rfl rfl ?_ ?_; omega) | (refine OP.quo rfl rfl rfl ?_ ?_ ?_ ?_ ?_; omega; omega; omega; omega) | (refine OP.rem rfl rfl rfl ?_ ?_ ?_; omega; omega))
        | ((show OP _ _ _ _ _ _ _ ⟨some _, .pick _ _ _, _, _, _, none⟩ _ _); first | refine OP.pick_true rfl rfl ?_ | refine OP.pick_false rfl rfl ?_)
        | (refine OP.extract rfl rfl rfl ?_)
        | (refine OP.fieldAddr rfl rfl ?_)
        | ((show OP _ _ _ _ _ _ _ ⟨some _, .load _ _, _, _, _, none⟩ _ _); first | refine OP.load rfl rfl (Sees.own (List.Mem.head _) rfl) ?_ | refine OP.load rfl rfl (Sees.own (List.Mem.tail _ (List.Mem.head _)) rfl) ?_ | refine OP.load rfl rfl (Sees.own (List.Mem.tail _ (List.Mem.tail _ (List.Mem.head _))) rfl) ?_ | refine OP.load rfl rfl (Sees.own (List.Mem.tail _ (List.Mem.tail _ (List.Mem.tail _ (List.Mem.head _)))) rfl) ?_ | refine OP.load rfl rfl (Sees.own (List.Mem.tail _ (List.Mem.tail _ (List.Mem.tail _ (List.Mem.tail _ (List.Mem.head _))))) rfl) ?_ | refine OP.load rfl rfl (Sees.own (List.Mem.tail _ (List.Mem.tail _ (List.Mem.tail _ (List.Mem.tail _ (List.Mem.tail _ (List.Mem.head _)))))) rfl) ?_ | refine OP.load rfl rfl (Sees.own (List.Mem.tail _ (List.Mem.tail _ (List.Mem.tail _ (List.Mem.tail _ (List.Mem.tail _ (List.Mem.tail _ (List.Mem.head _))))))) rfl) ?_ | refine OP.load rfl rfl (Sees.own (List.Mem.tail _ (List.Mem.tail _ (List.Mem.tail _ (List.Mem.tail _ (List.Mem.tail _ (List.Mem.tail _ (List.Mem.tail _ (List.Mem.head _)))))))) rfl) ?_ | refine OP.load rfl rfl (Sees.old0 (by assumption)) ?_ | refine OP.loadA rfl rfl (SeesN.own 2 (List.Mem.head _) rfl) rfl ?_ | refine OP.loadA rfl rfl (SeesN.own 3 (List.Mem.head _) rfl) rfl ?_ | refine OP.loadA rfl rfl (SeesN.own 2 (List.Mem.tail _ (List.Mem.head _)) rfl) rfl ?_ | refine OP.loadA rfl rfl (SeesN.own 3 (List.Mem.tail _ (List.Mem.head _)) rfl) rfl ?_ | refine OP.loadA rfl rfl (SeesN.own 2 (List.Mem.tail _ (List.Mem.tail _ (List.Mem.head _))) rfl) rfl ?_ | refine OP.loadA rfl rfl (SeesN.own 3 (List.Mem.tail _ (List.Mem.tail _ (List.Mem.head _))) rfl) rfl ?_ | refine OP.loadA rfl rfl (SeesN.own 2 (List.Mem.tail _ (List.Mem.tail _ (List.Mem.tail _ (List.Mem.head _)))) rfl) rfl ?_ | refine OP.loadA rfl rfl (SeesN.own 3 (List.Mem.tail _ (List.Mem.tail _ (List.Mem.tail _ (List.Mem.head _)))) rfl) rfl ?_ | refine OP.loadA rfl rfl (SeesN.own 2 (List.Mem.tail _ (List.Mem.tail _ (List.Mem.tail _ (List.Mem.tail _ (List.Mem.head _))))) rfl) rfl ?_ | refine OP.loadA rfl rfl (SeesN.own 3 (List.Mem.tail _ (List.Mem.tail _ (List.Mem.tail _ (List.Mem.tail _ (List.Mem.head _))))) rfl) rfl ?_ | refine OP.loadA rfl rfl (SeesN.own 2 (List.Mem.tail _ (List.Mem.tail _ (List.Mem.tail _ (List.Mem.tail _ (List.Mem.tail _ (List.Mem.head _)))))) rfl) rfl ?_ | refine OP.loadA rfl rfl (SeesN.own 3 (List.Mem.tail _ (List.Mem.tail _ (List.Mem.tail _ (List.Mem.tail _ (List.Mem.tail _ (List.Mem.head _)))))) rfl) rfl ?_ | refine OP.loadA rfl rfl (SeesN.own 2 (List.Mem.tail _ (List.Mem.tail _ (List.Mem.tail _ (List.Mem.tail _ (List.Mem.tail _ (List.Mem.tail _ (List.Mem.head _))))))) rfl) rfl ?_ | refine OP.loadA rfl rfl (SeesN.own 3 (List.Mem.tail _ (List.Mem.tail _ (List.Mem.tail _ (List.Mem.tail _ (List.Mem.tail _ (List.Mem.tail _ (List.Mem.head _))))))) rfl) rfl ?_ | refine OP.loadA rfl rfl (SeesN.own 2 (List.Mem.tail _ (List.Mem.tail _ (List.Mem.tail _ (List.Mem.tail _ (List.Mem.tail _ (List.Mem.tail _ (List.Mem.tail _ (List.Mem.head _)))))))) rfl) rfl ?_ | refine OP.loadA rfl rfl (SeesN.own 3 (List.Mem.tail _ (List.Mem.tail _ (List.Mem.tail _ (List.Mem.tail _ (List.Mem.tail _ (List.Mem.tail _ (List.Mem.tail _ (List.Mem.head _)))))))) rfl) rfl ?_)
        | ((show OP _ _ _ _ _ _ _ ⟨none, .store _ _ _, _, _, _, none⟩ _ _); first | refine OP.store0 (vs := [_]) rfl rfl rfl rfl rfl ?_ | refine OP.store0 (vs := [_, _]) rfl rfl rfl rfl rfl ?_ | refine OP.store0 (vs := [_, _, _]) rfl rfl rfl rfl rfl ?_ | refine OP.store1 (vs := [_]) rfl rfl rfl rfl rfl ?_ | refine OP.store1 (vs := [_, _]) rfl rfl rfl rfl rfl ?_ | refine OP.store1 (vs := [_, _, _]) rfl rfl rfl rfl rfl ?_ | refine OP.store2 (vs := [_]) rfl rfl rfl rfl rfl ?_ | refine OP.store2 (vs := [_, _]) rfl rfl rfl rfl rfl ?_ | refine OP.store2 (vs := [_, _, _]) rfl rfl rfl rfl rfl ?_ | refine OP.store3 (vs := [_]) rfl rfl rfl rfl rfl ?_ | refine OP.store3 (vs := [_, _]) rfl rfl rfl rfl rfl ?_ | refine OP.store3 (vs := [_, _, _]) rfl rfl rfl rfl rfl ?_ | refine OP.store4 (vs := [_]) rfl rfl rfl rfl rfl ?_ | refine OP.store4 (vs := [_, _]) rfl rfl rfl rfl rfl ?_ | refine OP.store4 (vs := [_, _, _]) rfl rfl rfl rfl rfl ?_ | refine OP.store5 (vs := [_]) rfl rfl rfl rfl rfl ?_ | refine OP.store5 (vs := [_, _]) rfl rfl rfl rfl rfl ?_ | refine OP.store5 (vs := [_, _, _]) rfl rfl rfl rfl rfl ?_ | refine OP.store6 (vs := [_]) rfl rfl rfl rfl rfl ?_ | refine OP.store6 (vs := [_, _]) rfl rfl rfl rfl rfl ?_ | refine OP.store6 (vs := [_, _, _]) rfl rfl rfl rfl rfl ?_ | refine OP.store7 (vs := [_]) rfl rfl rfl rfl rfl ?_ | refine OP.store7 (vs := [_, _]) rfl rfl rfl rfl rfl ?_ | refine OP.store7 (vs := [_, _, _]) rfl rfl rfl rfl rfl ?_)
        | ((show OP _ _ _ _ _ _ _ ⟨_, .unOp _ _ _, _, _, _, none⟩ _ _); first | refine OP.notd rfl rfl ?_ | refine OP.not rfl rfl ?_ | (refine OP.neg rfl rfl ?_ ?_ ?_; omega; omega))
        | ((show OP _ _ _ _ _ _ _ ⟨_, .convert _ _ _, _, _, _, none⟩ _ _); first | (refine OP.conv rfl rfl ?_ ?_ ?_; omega; omega))
        | (refine OP.makeMap rfl (fun bm => ?_))
        | (refine OP.box rfl rfl (fun bx => ?_))
        | (refine OP.alloc rfl rfl (fun al => ?_))
        | (refine OP.build rfl rfl ?_)
        | (refine OP.buildSlice rfl rfl ?_ rfl rfl (fun bs => ?_); (decide))
        | (refine OP.buildSlice0 rfl rfl (fun bs => ?_))
        | (refine OP.makeFunc rfl ?_)
        | (refine OP.field1 rfl rfl rfl ?_))
      all_goals refine Fin.drop (List.nil_sublist _) ?_
      all_goals refine Fin.ret1 (h0 := .inl rfl) rfl rfl ?_
      all_goals exact ⟨rfl, rfl⟩
    · exact absurd rfl h
end Go.Proofs.Ytghmkheoopakaaa
