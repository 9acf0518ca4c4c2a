/- What dir's small functions and the reference's do, each as a function of numbers. -/
import Derived.Test.YtghmkheoopakaaaFacts
import Derived.Test.YtghmkheoopakaaaDirP
set_option linter.unusedVariables false
set_option maxRecDepth 100000
namespace Go.Proofs.Ytghmkheoopakaaa
open Go.Pen

theorem wrap_u64_neg {p : Int} (h1 : -9223372036854775808 ≤ p) (h : p < 0) : IntKind.u64.wrap (-IntKind.u64.wrap p) = -p := by
  simp [IntKind.wrap, IntKind.signed, IntKind.bits]; omega
theorem wrap_u64_pos {p : Int} (h1 : 0 ≤ p) (h : p ≤ 9223372036854775807) : IntKind.u64.wrap p = p := by
  simp [IntKind.wrap, IntKind.signed, IntKind.bits]; omega
theorem vint {k : IntKind} {a b : Int} (h : a = b) : Value.int k a = Value.int k b := by rw [h]

set_option maxHeartbeats 400000 in
theorem abs_fn (p : Int) (h1 : -9223372036854775808 ≤ p) (h2 : p ≤ 9223372036854775807) (w : World) :
    Does Try.prog 33 #[.int .i64 p] [] w fun v Γ => v = .int .u64 p.natAbs ∧ Γ = [] := by
  refine Does.enter Try.func33 rfl Try.ntmps33 rfl (St.start w) ?_
  repeat' (first
    | (refine Fin.tail ?_)
    | (refine Fin.then_normal ?_)
    | (refine Fin.then_exit ?_)
    | (refine Fin.then_ret ?_)
    | (refine Fin.block_normal ?_)
    | (refine Fin.block_ret ?_)
    | (refine Fin.block_hit ?_)
    | (refine Fin.block_miss rfl ?_)
    | (refine Fin.loop_exit ?_)
    | (refine Fin.loop_ret ?_)
    | (refine WP.seq ?_)
    | (refine WP.regionQ (by kernel_rfl) (by kernel_rfl) ?_)
    | (refine WP.block ?_)
    | (refine WP.region ?_)
    | (refine WP.skip ?_)
    | (refine WP.exit ?_)
    | (refine WP.ret ?_)
    | (refine WP.label ?_)
    | (refine WP.cond_true rfl ?_)
    | (refine WP.cond_false rfl ?_)
    | (refine WP.cond_dec rfl (fun h => ?_) (fun h => ?_) <;> (try (exfalso; omega)))
    | (refine WP.cond_bool rfl (fun h => ?_) (fun h => ?_))
    | (refine WL.nil ?_)
    | (refine WL.cons ?_)
    | ((show OP _ _ _ _ _ _ _ ⟨some _, .move _, _, _, _, none⟩ _ _); first | refine OP.move (v := .int _ _) rfl rfl ?_ | refine OP.move (v := .bool _) rfl rfl ?_ | refine OP.move (v := .complex _ _ _) rfl rfl ?_ | refine OP.move (v := .float _ _) rfl rfl ?_ | refine OP.move (v := .slice _ _ _) rfl rfl ?_ | refine OP.move (v := .pointer _) rfl rfl ?_ | refine OP.move (v := .agg _) rfl rfl ?_ | refine OP.move (v := .tuple _) rfl rfl ?_ | refine OP.move (v := .map _) rfl rfl ?_ | refine OP.move (v := .func _ _ _) rfl rfl ?_ | refine OP.move (v := _) rfl rfl ?_)
    | ((show OP _ _ _ _ _ _ _ ⟨some _, .assign _, _, _, _, none⟩ _ _); first | refine OP.assign (v := .int _ _) rfl rfl ?_ | refine OP.assign (v := .bool _) rfl rfl ?_ | refine OP.assign (v := .complex _ _ _) rfl rfl ?_ | refine OP.assign (v := .float _ _) rfl rfl ?_ | refine OP.assign (v := .slice _ _ _) rfl rfl ?_ | refine OP.assign (v := .pointer _) rfl rfl ?_ | refine OP.assign (v := .agg _) rfl rfl ?_ | refine OP.assign (v := .tuple _) rfl rfl ?_ | refine OP.assign (v := .map _) rfl rfl ?_ | refine OP.assign (v := .func _ _ _) rfl rfl ?_ | refine OP.assign (v := _) rfl rfl ?_)
    | ((show OP _ _ _ _ _ _ _ ⟨_, _, _, _, _, some _⟩ _ _); first | refine OP.guard_yes rfl rfl ?_ | refine OP.guard_no rfl rfl rfl rfl ?_ | refine OP.guard_un rfl rfl rfl ?_ | refine OP.guard_no0 rfl rfl rfl ?_ | (refine OP.guard_dec rfl rfl (fun h => ?_) (fun h => ?_) <;> (try (exfalso; omega))) | refine OP.guard_bool rfl rfl (fun h => ?_) (fun h => ?_))
    | ((show OP _ _ _ _ _ _ _ ⟨some _, .call _, _, _, _, none⟩ _ _); first | refine OP.len rfl rfl rfl ?_ | refine OP.real rfl rfl ?_ | refine OP.imag rfl rfl ?_ | refine OP.complex rfl rfl rfl ?_ | refine OP.max2 rfl rfl rfl ?_ | refine OP.min2 rfl rfl rfl ?_)
    | ((show OP _ _ _ _ _ _ _ ⟨some _, .binOp _ _ _ _ _, _, _, _, none⟩ _ _); first | (refine OP.add rfl rfl rfl ?_ ?_ ?_; omega; omega) | (refine OP.sub rfl rfl rfl ?_ ?_ ?_; omega; omega) | refine OP.lss rfl rfl rfl ?_ | refine OP.eql rfl rfl rfl ?_ | refine OP.neq rfl rfl rfl ?_ | refine OP.gtr rfl rfl rfl ?_ | refine OP.geq rfl rfl rfl ?_ | refine OP.leq rfl rfl rfl ?_ | refine OP.eql2 rfl rfl rfl ?_ | refine OP.neq2 rfl rfl rfl ?_ | refine OP.neqd rfl rfl rfl ?_ | refine OP.eqd rfl rfl rfl ?_ | refine OP.eqlb rfl rfl rfl ?_ | (refine OP.mul rfl rfl rfl ?_ ?_ ?_; omega; omega) | (refine OP.quoN rfl rfl rfl ?_ ?_ ?_ ?_; omega; omega; omega) | (refine OP.remN rfl rfl rfl ?_ ?_; omega) | (refine OP.quo rfl rfl rfl ?_ ?_ ?_ ?_ ?_; omega; omega; omega; omega) | (refine OP.rem rfl rfl rfl ?_ ?_ ?_; omega; omega))
    | ((show OP _ _ _ _ _ _ _ ⟨some _, .pick _ _ _, _, _, _, none⟩ _ _); first | refine OP.pick_true rfl rfl ?_ | refine OP.pick_false rfl rfl ?_)
    | (refine OP.extract rfl rfl rfl ?_)
    | (refine OP.fieldAddr rfl rfl ?_)
    | ((show OP _ _ _ _ _ _ _ ⟨some _, .load _ _, _, _, _, none⟩ _ _); first | refine OP.load rfl rfl (Sees.own (List.Mem.head _) rfl) ?_ | refine OP.load rfl rfl (Sees.own (List.Mem.tail _ (List.Mem.head _)) rfl) ?_ | refine OP.load rfl rfl (Sees.own (List.Mem.tail _ (List.Mem.tail _ (List.Mem.head _))) rfl) ?_ | refine OP.load rfl rfl (Sees.own (List.Mem.tail _ (List.Mem.tail _ (List.Mem.tail _ (List.Mem.head _)))) rfl) ?_ | refine OP.load rfl rfl (Sees.own (List.Mem.tail _ (List.Mem.tail _ (List.Mem.tail _ (List.Mem.tail _ (List.Mem.head _))))) rfl) ?_ | refine OP.load rfl rfl (Sees.own (List.Mem.tail _ (List.Mem.tail _ (List.Mem.tail _ (List.Mem.tail _ (List.Mem.tail _ (List.Mem.head _)))))) rfl) ?_ | refine OP.load rfl rfl (Sees.own (List.Mem.tail _ (List.Mem.tail _ (List.Mem.tail _ (List.Mem.tail _ (List.Mem.tail _ (List.Mem.tail _ (List.Mem.head _))))))) rfl) ?_ | refine OP.load rfl rfl (Sees.own (List.Mem.tail _ (List.Mem.tail _ (List.Mem.tail _ (List.Mem.tail _ (List.Mem.tail _ (List.Mem.tail _ (List.Mem.tail _ (List.Mem.head _)))))))) rfl) ?_ | refine OP.load rfl rfl (Sees.old0 (by assumption)) ?_ | refine OP.loadA rfl rfl (SeesN.own 2 (List.Mem.head _) rfl) rfl ?_ | refine OP.loadA rfl rfl (SeesN.own 3 (List.Mem.head _) rfl) rfl ?_ | refine OP.loadA rfl rfl (SeesN.own 2 (List.Mem.tail _ (List.Mem.head _)) rfl) rfl ?_ | refine OP.loadA rfl rfl (SeesN.own 3 (List.Mem.tail _ (List.Mem.head _)) rfl) rfl ?_ | refine OP.loadA rfl rfl (SeesN.own 2 (List.Mem.tail _ (List.Mem.tail _ (List.Mem.head _))) rfl) rfl ?_ | refine OP.loadA rfl rfl (SeesN.own 3 (List.Mem.tail _ (List.Mem.tail _ (List.Mem.head _))) rfl) rfl ?_ | refine OP.loadA rfl rfl (SeesN.own 2 (List.Mem.tail _ (List.Mem.tail _ (List.Mem.tail _ (List.Mem.head _)))) rfl) rfl ?_ | refine OP.loadA rfl rfl (SeesN.own 3 (List.Mem.tail _ (List.Mem.tail _ (List.Mem.tail _ (List.Mem.head _)))) rfl) rfl ?_ | refine OP.loadA rfl rfl (SeesN.own 2 (List.Mem.tail _ (List.Mem.tail _ (List.Mem.tail _ (List.Mem.tail _ (List.Mem.head _))))) rfl) rfl ?_ | refine OP.loadA rfl rfl (SeesN.own 3 (List.Mem.tail _ (List.Mem.tail _ (List.Mem.tail _ (List.Mem.tail _ (List.Mem.head _))))) rfl) rfl ?_ | refine OP.loadA rfl rfl (SeesN.own 2 (List.Mem.tail _ (List.Mem.tail _ (List.Mem.tail _ (List.Mem.tail _ (List.Mem.tail _ (List.Mem.head _)))))) rfl) rfl ?_ | refine OP.loadA rfl rfl (SeesN.own 3 (List.Mem.tail _ (List.Mem.tail _ (List.Mem.tail _ (List.Mem.tail _ (List.Mem.tail _ (List.Mem.head _)))))) rfl) rfl ?_ | refine OP.loadA rfl rfl (SeesN.own 2 (List.Mem.tail _ (List.Mem.tail _ (List.Mem.tail _ (List.Mem.tail _ (List.Mem.tail _ (List.Mem.tail _ (List.Mem.head _))))))) rfl) rfl ?_ | refine OP.loadA rfl rfl (SeesN.own 3 (List.Mem.tail _ (List.Mem.tail _ (List.Mem.tail _ (List.Mem.tail _ (List.Mem.tail _ (List.Mem.tail _ (List.Mem.head _))))))) rfl) rfl ?_ | refine OP.loadA rfl rfl (SeesN.own 2 (List.Mem.tail _ (List.Mem.tail _ (List.Mem.tail _ (List.Mem.tail _ (List.Mem.tail _ (List.Mem.tail _ (List.Mem.tail _ (List.Mem.head _)))))))) rfl) rfl ?_ | refine OP.loadA rfl rfl (SeesN.own 3 (List.Mem.tail _ (List.Mem.tail _ (List.Mem.tail _ (List.Mem.tail _ (List.Mem.tail _ (List.Mem.tail _ (List.Mem.tail _ (List.Mem.head _)))))))) rfl) rfl ?_)
    | ((show OP _ _ _ _ _ _ _ ⟨none, .store _ _ _, _, _, _, none⟩ _ _); first | refine OP.store0 (vs := [_]) rfl rfl rfl rfl rfl ?_ | refine OP.store0 (vs := [_, _]) rfl rfl rfl rfl rfl ?_ | refine OP.store0 (vs := [_, _, _]) rfl rfl rfl rfl rfl ?_ | refine OP.store1 (vs := [_]) rfl rfl rfl rfl rfl ?_ | refine OP.store1 (vs := [_, _]) rfl rfl rfl rfl rfl ?_ | refine OP.store1 (vs := [_, _, _]) rfl rfl rfl rfl rfl ?_ | refine OP.store2 (vs := [_]) rfl rfl rfl rfl rfl ?_ | refine OP.store2 (vs := [_, _]) rfl rfl rfl rfl rfl ?_ | refine OP.store2 (vs := [_, _, _]) rfl rfl rfl rfl rfl ?_ | refine OP.store3 (vs := [_]) rfl rfl rfl rfl rfl ?_ | refine OP.store3 (vs := [_, _]) rfl rfl rfl rfl rfl ?_ | refine OP.store3 (vs := [_, _, _]) rfl rfl rfl rfl rfl ?_ | refine OP.store4 (vs := [_]) rfl rfl rfl rfl rfl ?_ | refine OP.store4 (vs := [_, _]) rfl rfl rfl rfl rfl ?_ | refine OP.store4 (vs := [_, _, _]) rfl rfl rfl rfl rfl ?_ | refine OP.store5 (vs := [_]) rfl rfl rfl rfl rfl ?_ | refine OP.store5 (vs := [_, _]) rfl rfl rfl rfl rfl ?_ | refine OP.store5 (vs := [_, _, _]) rfl rfl rfl rfl rfl ?_ | refine OP.store6 (vs := [_]) rfl rfl rfl rfl rfl ?_ | refine OP.store6 (vs := [_, _]) rfl rfl rfl rfl rfl ?_ | refine OP.store6 (vs := [_, _, _]) rfl rfl rfl rfl rfl ?_ | refine OP.store7 (vs := [_]) rfl rfl rfl rfl rfl ?_ | refine OP.store7 (vs := [_, _]) rfl rfl rfl rfl rfl ?_ | refine OP.store7 (vs := [_, _, _]) rfl rfl rfl rfl rfl ?_)
    | ((show OP _ _ _ _ _ _ _ ⟨_, .unOp _ _ _, _, _, _, none⟩ _ _); first | refine OP.notd rfl rfl ?_ | refine OP.not rfl rfl ?_ | (refine OP.neg rfl rfl ?_ ?_ ?_; omega; omega) | refine OP.negw rfl rfl ?_)
    | ((show OP _ _ _ _ _ _ _ ⟨_, .convert _ _ _, _, _, _, none⟩ _ _); first | (refine OP.conv rfl rfl ?_ ?_ ?_; omega; omega) | refine OP.convw rfl rfl ?_)
    | (refine OP.makeMap rfl (fun _ => ?_))
    | (refine OP.box rfl rfl (fun _ => ?_))
    | (refine OP.alloc rfl rfl (fun _ => ?_))
    | (refine OP.build rfl rfl ?_)
    | (refine OP.buildSlice rfl rfl ?_ rfl rfl (fun _ => ?_); (decide))
    | (refine OP.buildSlice0 rfl rfl (fun _ => ?_))
    | (refine OP.makeFunc rfl ?_)
    | (refine OP.field1 rfl rfl rfl ?_))
  · refine Fin.ret1 (h0 := .inl rfl) rfl rfl ?_
    exact ⟨vint (by rw [wrap_u64_neg h1 (by omega)]; omega), rfl⟩
  · refine Fin.ret1 (h0 := .inl rfl) rfl rfl ?_
    exact ⟨vint (by omega), rfl⟩
set_option maxHeartbeats 400000 in
theorem size_fn (p : Int) (h1 : -9223372036854775808 ≤ p) (h2 : p ≤ 9223372036854775807) (w : World) :
    Does Try.prog 47 #[.int .i64 p] [] w fun v Γ => v = .int .u64 p.natAbs ∧ Γ = [] := by
  refine Does.enter Try.func47 rfl Try.ntmps47 rfl (St.start w) ?_
  repeat' (first
    | (refine Fin.tail ?_)
    | (refine Fin.then_normal ?_)
    | (refine Fin.then_exit ?_)
    | (refine Fin.then_ret ?_)
    | (refine Fin.block_normal ?_)
    | (refine Fin.block_ret ?_)
    | (refine Fin.block_hit ?_)
    | (refine Fin.block_miss rfl ?_)
    | (refine Fin.loop_exit ?_)
    | (refine Fin.loop_ret ?_)
    | (refine WP.seq ?_)
    | (refine WP.regionQ (by kernel_rfl) (by kernel_rfl) ?_)
    | (refine WP.block ?_)
    | (refine WP.region ?_)
    | (refine WP.skip ?_)
    | (refine WP.exit ?_)
    | (refine WP.ret ?_)
    | (refine WP.label ?_)
    | (refine WP.cond_true rfl ?_)
    | (refine WP.cond_false rfl ?_)
    | (refine WP.cond_dec rfl (fun h => ?_) (fun h => ?_) <;> (try (exfalso; omega)))
    | (refine WP.cond_bool rfl (fun h => ?_) (fun h => ?_))
    | (refine WL.nil ?_)
    | (refine WL.cons ?_)
    | ((show OP _ _ _ _ _ _ _ ⟨some _, .move _, _, _, _, none⟩ _ _); first | refine OP.move (v := .int _ _) rfl rfl ?_ | refine OP.move (v := .bool _) rfl rfl ?_ | refine OP.move (v := .complex _ _ _) rfl rfl ?_ | refine OP.move (v := .float _ _) rfl rfl ?_ | refine OP.move (v := .slice _ _ _) rfl rfl ?_ | refine OP.move (v := .pointer _) rfl rfl ?_ | refine OP.move (v := .agg _) rfl rfl ?_ | refine OP.move (v := .tuple _) rfl rfl ?_ | refine OP.move (v := .map _) rfl rfl ?_ | refine OP.move (v := .func _ _ _) rfl rfl ?_ | refine OP.move (v := _) rfl rfl ?_)
    | ((show OP _ _ _ _ _ _ _ ⟨some _, .assign _, _, _, _, none⟩ _ _); first | refine OP.assign (v := .int _ _) rfl rfl ?_ | refine OP.assign (v := .bool _) rfl rfl ?_ | refine OP.assign (v := .complex _ _ _) rfl rfl ?_ | refine OP.assign (v := .float _ _) rfl rfl ?_ | refine OP.assign (v := .slice _ _ _) rfl rfl ?_ | refine OP.assign (v := .pointer _) rfl rfl ?_ | refine OP.assign (v := .agg _) rfl rfl ?_ | refine OP.assign (v := .tuple _) rfl rfl ?_ | refine OP.assign (v := .map _) rfl rfl ?_ | refine OP.assign (v := .func _ _ _) rfl rfl ?_ | refine OP.assign (v := _) rfl rfl ?_)
    | ((show OP _ _ _ _ _ _ _ ⟨_, _, _, _, _, some _⟩ _ _); first | refine OP.guard_yes rfl rfl ?_ | refine OP.guard_no rfl rfl rfl rfl ?_ | refine OP.guard_un rfl rfl rfl ?_ | refine OP.guard_no0 rfl rfl rfl ?_ | (refine OP.guard_dec rfl rfl (fun h => ?_) (fun h => ?_) <;> (try (exfalso; omega))) | refine OP.guard_bool rfl rfl (fun h => ?_) (fun h => ?_))
    | ((show OP _ _ _ _ _ _ _ ⟨some _, .call _, _, _, _, none⟩ _ _); first | refine OP.len rfl rfl rfl ?_ | refine OP.real rfl rfl ?_ | refine OP.imag rfl rfl ?_ | refine OP.complex rfl rfl rfl ?_ | refine OP.max2 rfl rfl rfl ?_ | refine OP.min2 rfl rfl rfl ?_)
    | ((show OP _ _ _ _ _ _ _ ⟨some _, .binOp _ _ _ _ _, _, _, _, none⟩ _ _); first | (refine OP.add rfl rfl rfl ?_ ?_ ?_; omega; omega) | (refine OP.sub rfl rfl rfl ?_ ?_ ?_; omega; omega) | refine OP.lss rfl rfl rfl ?_ | refine OP.eql rfl rfl rfl ?_ | refine OP.neq rfl rfl rfl ?_ | refine OP.gtr rfl rfl rfl ?_ | refine OP.geq rfl rfl rfl ?_ | refine OP.leq rfl rfl rfl ?_ | refine OP.eql2 rfl rfl rfl ?_ | refine OP.neq2 rfl rfl rfl ?_ | refine OP.neqd rfl rfl rfl ?_ | refine OP.eqd rfl rfl rfl ?_ | refine OP.eqlb rfl rfl rfl ?_ | (refine OP.mul rfl rfl rfl ?_ ?_ ?_; omega; omega) | (refine OP.quoN rfl rfl rfl ?_ ?_ ?_ ?_; omega; omega; omega) | (refine OP.remN rfl rfl rfl ?_ ?_; omega) | (refine OP.quo rfl rfl rfl ?_ ?_ ?_ ?_ ?_; omega; omega; omega; omega) | (refine OP.rem rfl rfl rfl ?_ ?_ ?_; omega; omega))
    | ((show OP _ _ _ _ _ _ _ ⟨some _, .pick _ _ _, _, _, _, none⟩ _ _); first | refine OP.pick_true rfl rfl ?_ | refine OP.pick_false rfl rfl ?_)
    | (refine OP.extract rfl rfl rfl ?_)
    | (refine OP.fieldAddr rfl rfl ?_)
    | ((show OP _ _ _ _ _ _ _ ⟨some _, .load _ _, _, _, _, none⟩ _ _); first | refine OP.load rfl rfl (Sees.own (List.Mem.head _) rfl) ?_ | refine OP.load rfl rfl (Sees.own (List.Mem.tail _ (List.Mem.head _)) rfl) ?_ | refine OP.load rfl rfl (Sees.own (List.Mem.tail _ (List.Mem.tail _ (List.Mem.head _))) rfl) ?_ | refine OP.load rfl rfl (Sees.own (List.Mem.tail _ (List.Mem.tail _ (List.Mem.tail _ (List.Mem.head _)))) rfl) ?_ | refine OP.load rfl rfl (Sees.own (List.Mem.tail _ (List.Mem.tail _ (List.Mem.tail _ (List.Mem.tail _ (List.Mem.head _))))) rfl) ?_ | refine OP.load rfl rfl (Sees.own (List.Mem.tail _ (List.Mem.tail _ (List.Mem.tail _ (List.Mem.tail _ (List.Mem.tail _ (List.Mem.head _)))))) rfl) ?_ | refine OP.load rfl rfl (Sees.own (List.Mem.tail _ (List.Mem.tail _ (List.Mem.tail _ (List.Mem.tail _ (List.Mem.tail _ (List.Mem.tail _ (List.Mem.head _))))))) rfl) ?_ | refine OP.load rfl rfl (Sees.own (List.Mem.tail _ (List.Mem.tail _ (List.Mem.tail _ (List.Mem.tail _ (List.Mem.tail _ (List.Mem.tail _ (List.Mem.tail _ (List.Mem.head _)))))))) rfl) ?_ | refine OP.load rfl rfl (Sees.old0 (by assumption)) ?_ | refine OP.loadA rfl rfl (SeesN.own 2 (List.Mem.head _) rfl) rfl ?_ | refine OP.loadA rfl rfl (SeesN.own 3 (List.Mem.head _) rfl) rfl ?_ | refine OP.loadA rfl rfl (SeesN.own 2 (List.Mem.tail _ (List.Mem.head _)) rfl) rfl ?_ | refine OP.loadA rfl rfl (SeesN.own 3 (List.Mem.tail _ (List.Mem.head _)) rfl) rfl ?_ | refine OP.loadA rfl rfl (SeesN.own 2 (List.Mem.tail _ (List.Mem.tail _ (List.Mem.head _))) rfl) rfl ?_ | refine OP.loadA rfl rfl (SeesN.own 3 (List.Mem.tail _ (List.Mem.tail _ (List.Mem.head _))) rfl) rfl ?_ | refine OP.loadA rfl rfl (SeesN.own 2 (List.Mem.tail _ (List.Mem.tail _ (List.Mem.tail _ (List.Mem.head _)))) rfl) rfl ?_ | refine OP.loadA rfl rfl (SeesN.own 3 (List.Mem.tail _ (List.Mem.tail _ (List.Mem.tail _ (List.Mem.head _)))) rfl) rfl ?_ | refine OP.loadA rfl rfl (SeesN.own 2 (List.Mem.tail _ (List.Mem.tail _ (List.Mem.tail _ (List.Mem.tail _ (List.Mem.head _))))) rfl) rfl ?_ | refine OP.loadA rfl rfl (SeesN.own 3 (List.Mem.tail _ (List.Mem.tail _ (List.Mem.tail _ (List.Mem.tail _ (List.Mem.head _))))) rfl) rfl ?_ | refine OP.loadA rfl rfl (SeesN.own 2 (List.Mem.tail _ (List.Mem.tail _ (List.Mem.tail _ (List.Mem.tail _ (List.Mem.tail _ (List.Mem.head _)))))) rfl) rfl ?_ | refine OP.loadA rfl rfl (SeesN.own 3 (List.Mem.tail _ (List.Mem.tail _ (List.Mem.tail _ (List.Mem.tail _ (List.Mem.tail _ (List.Mem.head _)))))) rfl) rfl ?_ | refine OP.loadA rfl rfl (SeesN.own 2 (List.Mem.tail _ (List.Mem.tail _ (List.Mem.tail _ (List.Mem.tail _ (List.Mem.tail _ (List.Mem.tail _ (List.Mem.head _))))))) rfl) rfl ?_ | refine OP.loadA rfl rfl (SeesN.own 3 (List.Mem.tail _ (List.Mem.tail _ (List.Mem.tail _ (List.Mem.tail _ (List.Mem.tail _ (List.Mem.tail _ (List.Mem.head _))))))) rfl) rfl ?_ | refine OP.loadA rfl rfl (SeesN.own 2 (List.Mem.tail _ (List.Mem.tail _ (List.Mem.tail _ (List.Mem.tail _ (List.Mem.tail _ (List.Mem.tail _ (List.Mem.tail _ (List.Mem.head _)))))))) rfl) rfl ?_ | refine OP.loadA rfl rfl (SeesN.own 3 (List.Mem.tail _ (List.Mem.tail _ (List.Mem.tail _ (List.Mem.tail _ (List.Mem.tail _ (List.Mem.tail _ (List.Mem.tail _ (List.Mem.head _)))))))) rfl) rfl ?_)
    | ((show OP _ _ _ _ _ _ _ ⟨none, .store _ _ _, _, _, _, none⟩ _ _); first | refine OP.store0 (vs := [_]) rfl rfl rfl rfl rfl ?_ | refine OP.store0 (vs := [_, _]) rfl rfl rfl rfl rfl ?_ | refine OP.store0 (vs := [_, _, _]) rfl rfl rfl rfl rfl ?_ | refine OP.store1 (vs := [_]) rfl rfl rfl rfl rfl ?_ | refine OP.store1 (vs := [_, _]) rfl rfl rfl rfl rfl ?_ | refine OP.store1 (vs := [_, _, _]) rfl rfl rfl rfl rfl ?_ | refine OP.store2 (vs := [_]) rfl rfl rfl rfl rfl ?_ | refine OP.store2 (vs := [_, _]) rfl rfl rfl rfl rfl ?_ | refine OP.store2 (vs := [_, _, _]) rfl rfl rfl rfl rfl ?_ | refine OP.store3 (vs := [_]) rfl rfl rfl rfl rfl ?_ | refine OP.store3 (vs := [_, _]) rfl rfl rfl rfl rfl ?_ | refine OP.store3 (vs := [_, _, _]) rfl rfl rfl rfl rfl ?_ | refine OP.store4 (vs := [_]) rfl rfl rfl rfl rfl ?_ | refine OP.store4 (vs := [_, _]) rfl rfl rfl rfl rfl ?_ | refine OP.store4 (vs := [_, _, _]) rfl rfl rfl rfl rfl ?_ | refine OP.store5 (vs := [_]) rfl rfl rfl rfl rfl ?_ | refine OP.store5 (vs := [_, _]) rfl rfl rfl rfl rfl ?_ | refine OP.store5 (vs := [_, _, _]) rfl rfl rfl rfl rfl ?_ | refine OP.store6 (vs := [_]) rfl rfl rfl rfl rfl ?_ | refine OP.store6 (vs := [_, _]) rfl rfl rfl rfl rfl ?_ | refine OP.store6 (vs := [_, _, _]) rfl rfl rfl rfl rfl ?_ | refine OP.store7 (vs := [_]) rfl rfl rfl rfl rfl ?_ | refine OP.store7 (vs := [_, _]) rfl rfl rfl rfl rfl ?_ | refine OP.store7 (vs := [_, _, _]) rfl rfl rfl rfl rfl ?_)
    | ((show OP _ _ _ _ _ _ _ ⟨_, .unOp _ _ _, _, _, _, none⟩ _ _); first | refine OP.notd rfl rfl ?_ | refine OP.not rfl rfl ?_ | (refine OP.neg rfl rfl ?_ ?_ ?_; omega; omega) | refine OP.negw rfl rfl ?_)
    | ((show OP _ _ _ _ _ _ _ ⟨_, .convert _ _ _, _, _, _, none⟩ _ _); first | (refine OP.conv rfl rfl ?_ ?_ ?_; omega; omega) | refine OP.convw rfl rfl ?_)
    | (refine OP.makeMap rfl (fun _ => ?_))
    | (refine OP.box rfl rfl (fun _ => ?_))
    | (refine OP.alloc rfl rfl (fun _ => ?_))
    | (refine OP.build rfl rfl ?_)
    | (refine OP.buildSlice rfl rfl ?_ rfl rfl (fun _ => ?_); (decide))
    | (refine OP.buildSlice0 rfl rfl (fun _ => ?_))
    | (refine OP.makeFunc rfl ?_)
    | (refine OP.field1 rfl rfl rfl ?_))
  · refine Fin.ret1 (h0 := .inl rfl) rfl rfl ?_
    exact ⟨vint (by rw [wrap_u64_neg h1 (by omega)]; omega), rfl⟩
  · refine Fin.ret1 (h0 := .inl rfl) rfl rfl ?_
    exact ⟨vint (by omega), rfl⟩

set_option maxHeartbeats 400000 in
theorem div_fn (a b : Nat) (h1 : a < 18446744073709551616) (h2 : b < 18446744073709551616) (w : World) :
    Does Try.prog 51 #[.int .u64 a, .int .u64 b] [] w fun v Γ => v = .int .u64 (Nat.gcd a b : Nat) ∧ Γ = [] := by
  refine Does.enter Try.func51 rfl Try.ntmps51 rfl (St.start w) ?_
  repeat' (first
    | (refine Fin.tail ?_)
    | (refine Fin.then_normal ?_)
    | (refine Fin.then_exit ?_)
    | (refine Fin.then_ret ?_)
    | (refine Fin.block_normal ?_)
    | (refine Fin.block_ret ?_)
    | (refine Fin.block_hit ?_)
    | (refine Fin.block_miss rfl ?_)
    | (refine Fin.loop_exit ?_)
    | (refine Fin.loop_ret ?_)
    | (refine WP.seq ?_)
    | (refine WP.regionQ (by kernel_rfl) (by kernel_rfl) ?_)
    | (refine WP.block ?_)
    | (refine WP.region ?_)
    | (refine WP.skip ?_)
    | (refine WP.exit ?_)
    | (refine WP.ret ?_)
    | (refine WP.label ?_)
    | (refine WP.cond_true rfl ?_)
    | (refine WP.cond_false rfl ?_)
    | (refine WP.cond_dec rfl (fun h => ?_) (fun h => ?_) <;> (try (exfalso; omega)))
    | (refine WP.cond_bool rfl (fun h => ?_) (fun h => ?_))
    | (refine WL.nil ?_)
    | (refine WL.cons ?_)
    | ((show OP _ _ _ _ _ _ _ ⟨some _, .move _, _, _, _, none⟩ _ _); first | refine OP.move (v := .int _ _) rfl rfl ?_ | refine OP.move (v := .bool _) rfl rfl ?_ | refine OP.move (v := .complex _ _ _) rfl rfl ?_ | refine OP.move (v := .float _ _) rfl rfl ?_ | refine OP.move (v := .slice _ _ _) rfl rfl ?_ | refine OP.move (v := .pointer _) rfl rfl ?_ | refine OP.move (v := .agg _) rfl rfl ?_ | refine OP.move (v := .tuple _) rfl rfl ?_ | refine OP.move (v := .map _) rfl rfl ?_ | refine OP.move (v := .func _ _ _) rfl rfl ?_ | refine OP.move (v := _) rfl rfl ?_)
    | ((show OP _ _ _ _ _ _ _ ⟨some _, .assign _, _, _, _, none⟩ _ _); first | refine OP.assign (v := .int _ _) rfl rfl ?_ | refine OP.assign (v := .bool _) rfl rfl ?_ | refine OP.assign (v := .complex _ _ _) rfl rfl ?_ | refine OP.assign (v := .float _ _) rfl rfl ?_ | refine OP.assign (v := .slice _ _ _) rfl rfl ?_ | refine OP.assign (v := .pointer _) rfl rfl ?_ | refine OP.assign (v := .agg _) rfl rfl ?_ | refine OP.assign (v := .tuple _) rfl rfl ?_ | refine OP.assign (v := .map _) rfl rfl ?_ | refine OP.assign (v := .func _ _ _) rfl rfl ?_ | refine OP.assign (v := _) rfl rfl ?_)
    | ((show OP _ _ _ _ _ _ _ ⟨_, _, _, _, _, some _⟩ _ _); first | refine OP.guard_yes rfl rfl ?_ | refine OP.guard_no rfl rfl rfl rfl ?_ | refine OP.guard_un rfl rfl rfl ?_ | refine OP.guard_no0 rfl rfl rfl ?_ | (refine OP.guard_dec rfl rfl (fun h => ?_) (fun h => ?_) <;> (try (exfalso; omega))) | refine OP.guard_bool rfl rfl (fun h => ?_) (fun h => ?_))
    | ((show OP _ _ _ _ _ _ _ ⟨some _, .call _, _, _, _, none⟩ _ _); first | refine OP.len rfl rfl rfl ?_ | refine OP.real rfl rfl ?_ | refine OP.imag rfl rfl ?_ | refine OP.complex rfl rfl rfl ?_ | refine OP.max2 rfl rfl rfl ?_ | refine OP.min2 rfl rfl rfl ?_)
    | ((show OP _ _ _ _ _ _ _ ⟨some _, .binOp _ _ _ _ _, _, _, _, none⟩ _ _); first | (refine OP.add rfl rfl rfl ?_ ?_ ?_; omega; omega) | (refine OP.sub rfl rfl rfl ?_ ?_ ?_; omega; omega) | refine OP.lss rfl rfl rfl ?_ | refine OP.eql rfl rfl rfl ?_ | refine OP.neq rfl rfl rfl ?_ | refine OP.gtr rfl rfl rfl ?_ | refine OP.geq rfl rfl rfl ?_ | refine OP.leq rfl rfl rfl ?_ | refine OP.eql2 rfl rfl rfl ?_ | refine OP.neq2 rfl rfl rfl ?_ | refine OP.neqd rfl rfl rfl ?_ | refine OP.eqd rfl rfl rfl ?_ | refine OP.eqlb rfl rfl rfl ?_ | (refine OP.mul rfl rfl rfl ?_ ?_ ?_; omega; omega) | (refine OP.quoN rfl rfl rfl ?_ ?_ ?_ ?_; omega; omega; omega) | (refine OP.remN rfl rfl rfl ?_ ?_; omega) | (refine OP.quo rfl rfl rfl ?_ ?_ ?_ ?_ ?_; omega; omega; omega; omega) | (refine OP.rem rfl rfl rfl ?_ ?_ ?_; omega; omega))
    | ((show OP _ _ _ _ _ _ _ ⟨some _, .pick _ _ _, _, _, _, none⟩ _ _); first | refine OP.pick_true rfl rfl ?_ | refine OP.pick_false rfl rfl ?_)
    | (refine OP.extract rfl rfl rfl ?_)
    | (refine OP.fieldAddr rfl rfl ?_)
    | ((show OP _ _ _ _ _ _ _ ⟨some _, .load _ _, _, _, _, none⟩ _ _); first | refine OP.load rfl rfl (Sees.own (List.Mem.head _) rfl) ?_ | refine OP.load rfl rfl (Sees.own (List.Mem.tail _ (List.Mem.head _)) rfl) ?_ | refine OP.load rfl rfl (Sees.own (List.Mem.tail _ (List.Mem.tail _ (List.Mem.head _))) rfl) ?_ | refine OP.load rfl rfl (Sees.own (List.Mem.tail _ (List.Mem.tail _ (List.Mem.tail _ (List.Mem.head _)))) rfl) ?_ | refine OP.load rfl rfl (Sees.own (List.Mem.tail _ (List.Mem.tail _ (List.Mem.tail _ (List.Mem.tail _ (List.Mem.head _))))) rfl) ?_ | refine OP.load rfl rfl (Sees.own (List.Mem.tail _ (List.Mem.tail _ (List.Mem.tail _ (List.Mem.tail _ (List.Mem.tail _ (List.Mem.head _)))))) rfl) ?_ | refine OP.load rfl rfl (Sees.own (List.Mem.tail _ (List.Mem.tail _ (List.Mem.tail _ (List.Mem.tail _ (List.Mem.tail _ (List.Mem.tail _ (List.Mem.head _))))))) rfl) ?_ | refine OP.load rfl rfl (Sees.own (List.Mem.tail _ (List.Mem.tail _ (List.Mem.tail _ (List.Mem.tail _ (List.Mem.tail _ (List.Mem.tail _ (List.Mem.tail _ (List.Mem.head _)))))))) rfl) ?_ | refine OP.load rfl rfl (Sees.old0 (by assumption)) ?_ | refine OP.loadA rfl rfl (SeesN.own 2 (List.Mem.head _) rfl) rfl ?_ | refine OP.loadA rfl rfl (SeesN.own 3 (List.Mem.head _) rfl) rfl ?_ | refine OP.loadA rfl rfl (SeesN.own 2 (List.Mem.tail _ (List.Mem.head _)) rfl) rfl ?_ | refine OP.loadA rfl rfl (SeesN.own 3 (List.Mem.tail _ (List.Mem.head _)) rfl) rfl ?_ | refine OP.loadA rfl rfl (SeesN.own 2 (List.Mem.tail _ (List.Mem.tail _ (List.Mem.head _))) rfl) rfl ?_ | refine OP.loadA rfl rfl (SeesN.own 3 (List.Mem.tail _ (List.Mem.tail _ (List.Mem.head _))) rfl) rfl ?_ | refine OP.loadA rfl rfl (SeesN.own 2 (List.Mem.tail _ (List.Mem.tail _ (List.Mem.tail _ (List.Mem.head _)))) rfl) rfl ?_ | refine OP.loadA rfl rfl (SeesN.own 3 (List.Mem.tail _ (List.Mem.tail _ (List.Mem.tail _ (List.Mem.head _)))) rfl) rfl ?_ | refine OP.loadA rfl rfl (SeesN.own 2 (List.Mem.tail _ (List.Mem.tail _ (List.Mem.tail _ (List.Mem.tail _ (List.Mem.head _))))) rfl) rfl ?_ | refine OP.loadA rfl rfl (SeesN.own 3 (List.Mem.tail _ (List.Mem.tail _ (List.Mem.tail _ (List.Mem.tail _ (List.Mem.head _))))) rfl) rfl ?_ | refine OP.loadA rfl rfl (SeesN.own 2 (List.Mem.tail _ (List.Mem.tail _ (List.Mem.tail _ (List.Mem.tail _ (List.Mem.tail _ (List.Mem.head _)))))) rfl) rfl ?_ | refine OP.loadA rfl rfl (SeesN.own 3 (List.Mem.tail _ (List.Mem.tail _ (List.Mem.tail _ (List.Mem.tail _ (List.Mem.tail _ (List.Mem.head _)))))) rfl) rfl ?_ | refine OP.loadA rfl rfl (SeesN.own 2 (List.Mem.tail _ (List.Mem.tail _ (List.Mem.tail _ (List.Mem.tail _ (List.Mem.tail _ (List.Mem.tail _ (List.Mem.head _))))))) rfl) rfl ?_ | refine OP.loadA rfl rfl (SeesN.own 3 (List.Mem.tail _ (List.Mem.tail _ (List.Mem.tail _ (List.Mem.tail _ (List.Mem.tail _ (List.Mem.tail _ (List.Mem.head _))))))) rfl) rfl ?_ | refine OP.loadA rfl rfl (SeesN.own 2 (List.Mem.tail _ (List.Mem.tail _ (List.Mem.tail _ (List.Mem.tail _ (List.Mem.tail _ (List.Mem.tail _ (List.Mem.tail _ (List.Mem.head _)))))))) rfl) rfl ?_ | refine OP.loadA rfl rfl (SeesN.own 3 (List.Mem.tail _ (List.Mem.tail _ (List.Mem.tail _ (List.Mem.tail _ (List.Mem.tail _ (List.Mem.tail _ (List.Mem.tail _ (List.Mem.head _)))))))) rfl) rfl ?_)
    | ((show OP _ _ _ _ _ _ _ ⟨none, .store _ _ _, _, _, _, none⟩ _ _); first | refine OP.store0 (vs := [_]) rfl rfl rfl rfl rfl ?_ | refine OP.store0 (vs := [_, _]) rfl rfl rfl rfl rfl ?_ | refine OP.store0 (vs := [_, _, _]) rfl rfl rfl rfl rfl ?_ | refine OP.store1 (vs := [_]) rfl rfl rfl rfl rfl ?_ | refine OP.store1 (vs := [_, _]) rfl rfl rfl rfl rfl ?_ | refine OP.store1 (vs := [_, _, _]) rfl rfl rfl rfl rfl ?_ | refine OP.store2 (vs := [_]) rfl rfl rfl rfl rfl ?_ | refine OP.store2 (vs := [_, _]) rfl rfl rfl rfl rfl ?_ | refine OP.store2 (vs := [_, _, _]) rfl rfl rfl rfl rfl ?_ | refine OP.store3 (vs := [_]) rfl rfl rfl rfl rfl ?_ | refine OP.store3 (vs := [_, _]) rfl rfl rfl rfl rfl ?_ | refine OP.store3 (vs := [_, _, _]) rfl rfl rfl rfl rfl ?_ | refine OP.store4 (vs := [_]) rfl rfl rfl rfl rfl ?_ | refine OP.store4 (vs := [_, _]) rfl rfl rfl rfl rfl ?_ | refine OP.store4 (vs := [_, _, _]) rfl rfl rfl rfl rfl ?_ | refine OP.store5 (vs := [_]) rfl rfl rfl rfl rfl ?_ | refine OP.store5 (vs := [_, _]) rfl rfl rfl rfl rfl ?_ | refine OP.store5 (vs := [_, _, _]) rfl rfl rfl rfl rfl ?_ | refine OP.store6 (vs := [_]) rfl rfl rfl rfl rfl ?_ | refine OP.store6 (vs := [_, _]) rfl rfl rfl rfl rfl ?_ | refine OP.store6 (vs := [_, _, _]) rfl rfl rfl rfl rfl ?_ | refine OP.store7 (vs := [_]) rfl rfl rfl rfl rfl ?_ | refine OP.store7 (vs := [_, _]) rfl rfl rfl rfl rfl ?_ | refine OP.store7 (vs := [_, _, _]) rfl rfl rfl rfl rfl ?_)
    | ((show OP _ _ _ _ _ _ _ ⟨_, .unOp _ _ _, _, _, _, none⟩ _ _); first | refine OP.notd rfl rfl ?_ | refine OP.not rfl rfl ?_ | (refine OP.neg rfl rfl ?_ ?_ ?_; omega; omega))
    | ((show OP _ _ _ _ _ _ _ ⟨_, .convert _ _ _, _, _, _, none⟩ _ _); first | (refine OP.conv rfl rfl ?_ ?_ ?_; omega; omega))
    | (refine OP.makeMap rfl (fun _ => ?_))
    | (refine OP.box rfl rfl (fun _ => ?_))
    | (refine OP.alloc rfl rfl (fun _ => ?_))
    | (refine OP.build rfl rfl ?_)
    | (refine OP.buildSlice rfl rfl ?_ rfl rfl (fun _ => ?_); (decide))
    | (refine OP.buildSlice0 rfl rfl (fun _ => ?_))
    | (refine OP.makeFunc rfl ?_)
    | (refine OP.field1 rfl rfl rfl ?_))
  refine WP.loop [0, 1, 5, 6, 7, 8, 9, 10] (fun x : Nat × Nat => [(0, .int .u64 x.1), (1, .int .u64 x.2)]) (fun _ => []) (fun x => x.1 < 18446744073709551616 ∧ x.2 < 18446744073709551616 ∧ Nat.gcd x.1 x.2 = Nat.gcd a b) (fun x => x.2) (a, b) ⟨h1, h2, rfl⟩ rfl ⟨rfl, rfl, trivial⟩ ?_
  rintro ⟨x, y⟩ j ⟨k1, k2, k3⟩
  dsimp only [updL] at k1 k2 k3 ⊢
  repeat' (first
    | (refine Fin.tail ?_)
    | (refine Fin.then_normal ?_)
    | (refine Fin.then_exit ?_)
    | (refine Fin.then_ret ?_)
    | (refine Fin.block_normal ?_)
    | (refine Fin.block_ret ?_)
    | (refine Fin.block_hit ?_)
    | (refine Fin.block_miss rfl ?_)
    | (refine Fin.loop_exit ?_)
    | (refine Fin.loop_ret ?_)
    | (refine WP.seq ?_)
    | (refine WP.regionQ (by kernel_rfl) (by kernel_rfl) ?_)
    | (refine WP.block ?_)
    | (refine WP.region ?_)
    | (refine WP.skip ?_)
    | (refine WP.exit ?_)
    | (refine WP.ret ?_)
    | (refine WP.label ?_)
    | (refine WP.cond_true rfl ?_)
    | (refine WP.cond_false rfl ?_)
    | (refine WP.cond_dec rfl (fun h => ?_) (fun h => ?_) <;> (try (exfalso; omega)))
    | (refine WP.cond_bool rfl (fun h => ?_) (fun h => ?_))
    | (refine WL.nil ?_)
    | (refine WL.cons ?_)
    | ((show OP _ _ _ _ _ _ _ ⟨some _, .move _, _, _, _, none⟩ _ _); first | refine OP.move (v := .int _ _) rfl rfl ?_ | refine OP.move (v := .bool _) rfl rfl ?_ | refine OP.move (v := .complex _ _ _) rfl rfl ?_ | refine OP.move (v := .float _ _) rfl rfl ?_ | refine OP.move (v := .slice _ _ _) rfl rfl ?_ | refine OP.move (v := .pointer _) rfl rfl ?_ | refine OP.move (v := .agg _) rfl rfl ?_ | refine OP.move (v := .tuple _) rfl rfl ?_ | refine OP.move (v := .map _) rfl rfl ?_ | refine OP.move (v := .func _ _ _) rfl rfl ?_ | refine OP.move (v := _) rfl rfl ?_)
    | ((show OP _ _ _ _ _ _ _ ⟨some _, .assign _, _, _, _, none⟩ _ _); first | refine OP.assign (v := .int _ _) rfl rfl ?_ | refine OP.assign (v := .bool _) rfl rfl ?_ | refine OP.assign (v := .complex _ _ _) rfl rfl ?_ | refine OP.assign (v := .float _ _) rfl rfl ?_ | refine OP.assign (v := .slice _ _ _) rfl rfl ?_ | refine OP.assign (v := .pointer _) rfl rfl ?_ | refine OP.assign (v := .agg _) rfl rfl ?_ | refine OP.assign (v := .tuple _) rfl rfl ?_ | refine OP.assign (v := .map _) rfl rfl ?_ | refine OP.assign (v := .func _ _ _) rfl rfl ?_ | refine OP.assign (v := _) rfl rfl ?_)
    | ((show OP _ _ _ _ _ _ _ ⟨_, _, _, _, _, some _⟩ _ _); first | refine OP.guard_yes rfl rfl ?_ | refine OP.guard_no rfl rfl rfl rfl ?_ | refine OP.guard_un rfl rfl rfl ?_ | refine OP.guard_no0 rfl rfl rfl ?_ | (refine OP.guard_dec rfl rfl (fun h => ?_) (fun h => ?_) <;> (try (exfalso; omega))) | refine OP.guard_bool rfl rfl (fun h => ?_) (fun h => ?_))
    | ((show OP _ _ _ _ _ _ _ ⟨some _, .call _, _, _, _, none⟩ _ _); first | refine OP.len rfl rfl rfl ?_ | refine OP.real rfl rfl ?_ | refine OP.imag rfl rfl ?_ | refine OP.complex rfl rfl rfl ?_ | refine OP.max2 rfl rfl rfl ?_ | refine OP.min2 rfl rfl rfl ?_)
    | ((show OP _ _ _ _ _ _ _ ⟨some _, .binOp _ _ _ _ _, _, _, _, none⟩ _ _); first | (refine OP.add rfl rfl rfl ?_ ?_ ?_; omega; omega) | (refine OP.sub rfl rfl rfl ?_ ?_ ?_; omega; omega) | refine OP.lss rfl rfl rfl ?_ | refine OP.eql rfl rfl rfl ?_ | refine OP.neq rfl rfl rfl ?_ | refine OP.gtr rfl rfl rfl ?_ | refine OP.geq rfl rfl rfl ?_ | refine OP.leq rfl rfl rfl ?_ | refine OP.eql2 rfl rfl rfl ?_ | refine OP.neq2 rfl rfl rfl ?_ | refine OP.neqd rfl rfl rfl ?_ | refine OP.eqd rfl rfl rfl ?_ | refine OP.eqlb rfl rfl rfl ?_ | (refine OP.mul rfl rfl rfl ?_ ?_ ?_; omega; omega) | (refine OP.quoN rfl rfl rfl ?_ ?_ ?_ ?_; omega; omega; omega) | (refine OP.remN rfl rfl rfl ?_ ?_; omega) | (refine OP.quo rfl rfl rfl ?_ ?_ ?_ ?_ ?_; omega; omega; omega; omega) | (refine OP.rem rfl rfl rfl ?_ ?_ ?_; omega; omega))
    | ((show OP _ _ _ _ _ _ _ ⟨some _, .pick _ _ _, _, _, _, none⟩ _ _); first | refine OP.pick_true rfl rfl ?_ | refine OP.pick_false rfl rfl ?_)
    | (refine OP.extract rfl rfl rfl ?_)
    | (refine OP.fieldAddr rfl rfl ?_)
    | ((show OP _ _ _ _ _ _ _ ⟨some _, .load _ _, _, _, _, none⟩ _ _); first | refine OP.load rfl rfl (Sees.own (List.Mem.head _) rfl) ?_ | refine OP.load rfl rfl (Sees.own (List.Mem.tail _ (List.Mem.head _)) rfl) ?_ | refine OP.load rfl rfl (Sees.own (List.Mem.tail _ (List.Mem.tail _ (List.Mem.head _))) rfl) ?_ | refine OP.load rfl rfl (Sees.own (List.Mem.tail _ (List.Mem.tail _ (List.Mem.tail _ (List.Mem.head _)))) rfl) ?_ | refine OP.load rfl rfl (Sees.own (List.Mem.tail _ (List.Mem.tail _ (List.Mem.tail _ (List.Mem.tail _ (List.Mem.head _))))) rfl) ?_ | refine OP.load rfl rfl (Sees.own (List.Mem.tail _ (List.Mem.tail _ (List.Mem.tail _ (List.Mem.tail _ (List.Mem.tail _ (List.Mem.head _)))))) rfl) ?_ | refine OP.load rfl rfl (Sees.own (List.Mem.tail _ (List.Mem.tail _ (List.Mem.tail _ (List.Mem.tail _ (List.Mem.tail _ (List.Mem.tail _ (List.Mem.head _))))))) rfl) ?_ | refine OP.load rfl rfl (Sees.own (List.Mem.tail _ (List.Mem.tail _ (List.Mem.tail _ (List.Mem.tail _ (List.Mem.tail _ (List.Mem.tail _ (List.Mem.tail _ (List.Mem.head _)))))))) rfl) ?_ | refine OP.load rfl rfl (Sees.old0 (by assumption)) ?_ | refine OP.loadA rfl rfl (SeesN.own 2 (List.Mem.head _) rfl) rfl ?_ | refine OP.loadA rfl rfl (SeesN.own 3 (List.Mem.head _) rfl) rfl ?_ | refine OP.loadA rfl rfl (SeesN.own 2 (List.Mem.tail _ (List.Mem.head _)) rfl) rfl ?_ | refine OP.loadA rfl rfl (SeesN.own 3 (List.Mem.tail _ (List.Mem.head _)) rfl) rfl ?_ | refine OP.loadA rfl rfl (SeesN.own 2 (List.Mem.tail _ (List.Mem.tail _ (List.Mem.head _))) rfl) rfl ?_ | refine OP.loadA rfl rfl (SeesN.own 3 (List.Mem.tail _ (List.Mem.tail _ (List.Mem.head _))) rfl) rfl ?_ | refine OP.loadA rfl rfl (SeesN.own 2 (List.Mem.tail _ (List.Mem.tail _ (List.Mem.tail _ (List.Mem.head _)))) rfl) rfl ?_ | refine OP.loadA rfl rfl (SeesN.own 3 (List.Mem.tail _ (List.Mem.tail _ (List.Mem.tail _ (List.Mem.head _)))) rfl) rfl ?_ | refine OP.loadA rfl rfl (SeesN.own 2 (List.Mem.tail _ (List.Mem.tail _ (List.Mem.tail _ (List.Mem.tail _ (List.Mem.head _))))) rfl) rfl ?_ | refine OP.loadA rfl rfl (SeesN.own 3 (List.Mem.tail _ (List.Mem.tail _ (List.Mem.tail _ (List.Mem.tail _ (List.Mem.head _))))) rfl) rfl ?_ | refine OP.loadA rfl rfl (SeesN.own 2 (List.Mem.tail _ (List.Mem.tail _ (List.Mem.tail _ (List.Mem.tail _ (List.Mem.tail _ (List.Mem.head _)))))) rfl) rfl ?_ | refine OP.loadA rfl rfl (SeesN.own 3 (List.Mem.tail _ (List.Mem.tail _ (List.Mem.tail _ (List.Mem.tail _ (List.Mem.tail _ (List.Mem.head _)))))) rfl) rfl ?_ | refine OP.loadA rfl rfl (SeesN.own 2 (List.Mem.tail _ (List.Mem.tail _ (List.Mem.tail _ (List.Mem.tail _ (List.Mem.tail _ (List.Mem.tail _ (List.Mem.head _))))))) rfl) rfl ?_ | refine OP.loadA rfl rfl (SeesN.own 3 (List.Mem.tail _ (List.Mem.tail _ (List.Mem.tail _ (List.Mem.tail _ (List.Mem.tail _ (List.Mem.tail _ (List.Mem.head _))))))) rfl) rfl ?_ | refine OP.loadA rfl rfl (SeesN.own 2 (List.Mem.tail _ (List.Mem.tail _ (List.Mem.tail _ (List.Mem.tail _ (List.Mem.tail _ (List.Mem.tail _ (List.Mem.tail _ (List.Mem.head _)))))))) rfl) rfl ?_ | refine OP.loadA rfl rfl (SeesN.own 3 (List.Mem.tail _ (List.Mem.tail _ (List.Mem.tail _ (List.Mem.tail _ (List.Mem.tail _ (List.Mem.tail _ (List.Mem.tail _ (List.Mem.head _)))))))) rfl) rfl ?_)
    | ((show OP _ _ _ _ _ _ _ ⟨none, .store _ _ _, _, _, _, none⟩ _ _); first | refine OP.store0 (vs := [_]) rfl rfl rfl rfl rfl ?_ | refine OP.store0 (vs := [_, _]) rfl rfl rfl rfl rfl ?_ | refine OP.store0 (vs := [_, _, _]) rfl rfl rfl rfl rfl ?_ | refine OP.store1 (vs := [_]) rfl rfl rfl rfl rfl ?_ | refine OP.store1 (vs := [_, _]) rfl rfl rfl rfl rfl ?_ | refine OP.store1 (vs := [_, _, _]) rfl rfl rfl rfl rfl ?_ | refine OP.store2 (vs := [_]) rfl rfl rfl rfl rfl ?_ | refine OP.store2 (vs := [_, _]) rfl rfl rfl rfl rfl ?_ | refine OP.store2 (vs := [_, _, _]) rfl rfl rfl rfl rfl ?_ | refine OP.store3 (vs := [_]) rfl rfl rfl rfl rfl ?_ | refine OP.store3 (vs := [_, _]) rfl rfl rfl rfl rfl ?_ | refine OP.store3 (vs := [_, _, _]) rfl rfl rfl rfl rfl ?_ | refine OP.store4 (vs := [_]) rfl rfl rfl rfl rfl ?_ | refine OP.store4 (vs := [_, _]) rfl rfl rfl rfl rfl ?_ | refine OP.store4 (vs := [_, _, _]) rfl rfl rfl rfl rfl ?_ | refine OP.store5 (vs := [_]) rfl rfl rfl rfl rfl ?_ | refine OP.store5 (vs := [_, _]) rfl rfl rfl rfl rfl ?_ | refine OP.store5 (vs := [_, _, _]) rfl rfl rfl rfl rfl ?_ | refine OP.store6 (vs := [_]) rfl rfl rfl rfl rfl ?_ | refine OP.store6 (vs := [_, _]) rfl rfl rfl rfl rfl ?_ | refine OP.store6 (vs := [_, _, _]) rfl rfl rfl rfl rfl ?_ | refine OP.store7 (vs := [_]) rfl rfl rfl rfl rfl ?_ | refine OP.store7 (vs := [_, _]) rfl rfl rfl rfl rfl ?_ | refine OP.store7 (vs := [_, _, _]) rfl rfl rfl rfl rfl ?_)
    | ((show OP _ _ _ _ _ _ _ ⟨_, .unOp _ _ _, _, _, _, none⟩ _ _); first | refine OP.notd rfl rfl ?_ | refine OP.not rfl rfl ?_ | (refine OP.neg rfl rfl ?_ ?_ ?_; omega; omega))
    | ((show OP _ _ _ _ _ _ _ ⟨_, .convert _ _ _, _, _, _, none⟩ _ _); first | (refine OP.conv rfl rfl ?_ ?_ ?_; omega; omega))
    | (refine OP.makeMap rfl (fun _ => ?_))
    | (refine OP.box rfl rfl (fun _ => ?_))
    | (refine OP.alloc rfl rfl (fun _ => ?_))
    | (refine OP.build rfl rfl ?_)
    | (refine OP.buildSlice rfl rfl ?_ rfl rfl (fun _ => ?_); (decide))
    | (refine OP.buildSlice0 rfl rfl (fun _ => ?_))
    | (refine OP.makeFunc rfl ?_)
    | (refine OP.field1 rfl rfl rfl ?_))
  · have hy : 0 < y := by omega
    refine Fin.loop_normal fun w' hst => ⟨(y, rn x y), ?_, ?_, by (repeat' (first | exact Agree.refl _ _ | refine Agree.upd rfl ?_ | refine Agree.hav rfl ?_)), ?_, hst⟩
    · exact ⟨k2, Nat.lt_trans (Nat.mod_lt _ hy) k2, by show Nat.gcd y (x % y) = _; rw [← k3, Nat.gcd_comm x y, Nat.gcd_rec y x, Nat.gcd_comm]⟩
    · exact Nat.mod_lt _ hy
    · exact ⟨rfl, rfl, trivial⟩
  · refine Fin.ret1 (h0 := .inl rfl) rfl rfl ?_
    have : y = 0 := by omega
    subst this
    exact ⟨vint (by rw [← k3]; simp), rfl⟩
set_option maxHeartbeats 400000 in
theorem rdiv_fn (a b : Nat) (h1 : a < 18446744073709551616) (h2 : b < 18446744073709551616) (w : World) :
    Does Try.prog 48 #[.int .u64 a, .int .u64 b] [] w fun v Γ => v = .int .u64 (Nat.gcd a b : Nat) ∧ Γ = [] := by
  refine Does.enter Try.func48 rfl Try.ntmps48 rfl (St.start w) ?_
  repeat' (first
    | (refine Fin.tail ?_)
    | (refine Fin.then_normal ?_)
    | (refine Fin.then_exit ?_)
    | (refine Fin.then_ret ?_)
    | (refine Fin.block_normal ?_)
    | (refine Fin.block_ret ?_)
    | (refine Fin.block_hit ?_)
    | (refine Fin.block_miss rfl ?_)
    | (refine Fin.loop_exit ?_)
    | (refine Fin.loop_ret ?_)
    | (refine WP.seq ?_)
    | (refine WP.regionQ (by kernel_rfl) (by kernel_rfl) ?_)
    | (refine WP.block ?_)
    | (refine WP.region ?_)
    | (refine WP.skip ?_)
    | (refine WP.exit ?_)
    | (refine WP.ret ?_)
    | (refine WP.label ?_)
    | (refine WP.cond_true rfl ?_)
    | (refine WP.cond_false rfl ?_)
    | (refine WP.cond_dec rfl (fun h => ?_) (fun h => ?_) <;> (try (exfalso; omega)))
    | (refine WP.cond_bool rfl (fun h => ?_) (fun h => ?_))
    | (refine WL.nil ?_)
    | (refine WL.cons ?_)
    | ((show OP _ _ _ _ _ _ _ ⟨some _, .move _, _, _, _, none⟩ _ _); first | refine OP.move (v := .int _ _) rfl rfl ?_ | refine OP.move (v := .bool _) rfl rfl ?_ | refine OP.move (v := .complex _ _ _) rfl rfl ?_ | refine OP.move (v := .float _ _) rfl rfl ?_ | refine OP.move (v := .slice _ _ _) rfl rfl ?_ | refine OP.move (v := .pointer _) rfl rfl ?_ | refine OP.move (v := .agg _) rfl rfl ?_ | refine OP.move (v := .tuple _) rfl rfl ?_ | refine OP.move (v := .map _) rfl rfl ?_ | refine OP.move (v := .func _ _ _) rfl rfl ?_ | refine OP.move (v := _) rfl rfl ?_)
    | ((show OP _ _ _ _ _ _ _ ⟨some _, .assign _, _, _, _, none⟩ _ _); first | refine OP.assign (v := .int _ _) rfl rfl ?_ | refine OP.assign (v := .bool _) rfl rfl ?_ | refine OP.assign (v := .complex _ _ _) rfl rfl ?_ | refine OP.assign (v := .float _ _) rfl rfl ?_ | refine OP.assign (v := .slice _ _ _) rfl rfl ?_ | refine OP.assign (v := .pointer _) rfl rfl ?_ | refine OP.assign (v := .agg _) rfl rfl ?_ | refine OP.assign (v := .tuple _) rfl rfl ?_ | refine OP.assign (v := .map _) rfl rfl ?_ | refine OP.assign (v := .func _ _ _) rfl rfl ?_ | refine OP.assign (v := _) rfl rfl ?_)
    | ((show OP _ _ _ _ _ _ _ ⟨_, _, _, _, _, some _⟩ _ _); first | refine OP.guard_yes rfl rfl ?_ | refine OP.guard_no rfl rfl rfl rfl ?_ | refine OP.guard_un rfl rfl rfl ?_ | refine OP.guard_no0 rfl rfl rfl ?_ | (refine OP.guard_dec rfl rfl (fun h => ?_) (fun h => ?_) <;> (try (exfalso; omega))) | refine OP.guard_bool rfl rfl (fun h => ?_) (fun h => ?_))
    | ((show OP _ _ _ _ _ _ _ ⟨some _, .call _, _, _, _, none⟩ _ _); first | refine OP.len rfl rfl rfl ?_ | refine OP.real rfl rfl ?_ | refine OP.imag rfl rfl ?_ | refine OP.complex rfl rfl rfl ?_ | refine OP.max2 rfl rfl rfl ?_ | refine OP.min2 rfl rfl rfl ?_)
    | ((show OP _ _ _ _ _ _ _ ⟨some _, .binOp _ _ _ _ _, _, _, _, none⟩ _ _); first | (refine OP.add rfl rfl rfl ?_ ?_ ?_; omega; omega) | (refine OP.sub rfl rfl rfl ?_ ?_ ?_; omega; omega) | refine OP.lss rfl rfl rfl ?_ | refine OP.eql rfl rfl rfl ?_ | refine OP.neq rfl rfl rfl ?_ | refine OP.gtr rfl rfl rfl ?_ | refine OP.geq rfl rfl rfl ?_ | refine OP.leq rfl rfl rfl ?_ | refine OP.eql2 rfl rfl rfl ?_ | refine OP.neq2 rfl rfl rfl ?_ | refine OP.neqd rfl rfl rfl ?_ | refine OP.eqd rfl rfl rfl ?_ | refine OP.eqlb rfl rfl rfl ?_ | (refine OP.mul rfl rfl rfl ?_ ?_ ?_; omega; omega) | (refine OP.quoN rfl rfl rfl ?_ ?_ ?_ ?_; omega; omega; omega) | (refine OP.remN rfl rfl rfl ?_ ?_; omega) | (refine OP.quo rfl rfl rfl ?_ ?_ ?_ ?_ ?_; omega; omega; omega; omega) | (refine OP.rem rfl rfl rfl ?_ ?_ ?_; omega; omega))
    | ((show OP _ _ _ _ _ _ _ ⟨some _, .pick _ _ _, _, _, _, none⟩ _ _); first | refine OP.pick_true rfl rfl ?_ | refine OP.pick_false rfl rfl ?_)
    | (refine OP.extract rfl rfl rfl ?_)
    | (refine OP.fieldAddr rfl rfl ?_)
    | ((show OP _ _ _ _ _ _ _ ⟨some _, .load _ _, _, _, _, none⟩ _ _); first | refine OP.load rfl rfl (Sees.own (List.Mem.head _) rfl) ?_ | refine OP.load rfl rfl (Sees.own (List.Mem.tail _ (List.Mem.head _)) rfl) ?_ | refine OP.load rfl rfl (Sees.own (List.Mem.tail _ (List.Mem.tail _ (List.Mem.head _))) rfl) ?_ | refine OP.load rfl rfl (Sees.own (List.Mem.tail _ (List.Mem.tail _ (List.Mem.tail _ (List.Mem.head _)))) rfl) ?_ | refine OP.load rfl rfl (Sees.own (List.Mem.tail _ (List.Mem.tail _ (List.Mem.tail _ (List.Mem.tail _ (List.Mem.head _))))) rfl) ?_ | refine OP.load rfl rfl (Sees.own (List.Mem.tail _ (List.Mem.tail _ (List.Mem.tail _ (List.Mem.tail _ (List.Mem.tail _ (List.Mem.head _)))))) rfl) ?_ | refine OP.load rfl rfl (Sees.own (List.Mem.tail _ (List.Mem.tail _ (List.Mem.tail _ (List.Mem.tail _ (List.Mem.tail _ (List.Mem.tail _ (List.Mem.head _))))))) rfl) ?_ | refine OP.load rfl rfl (Sees.own (List.Mem.tail _ (List.Mem.tail _ (List.Mem.tail _ (List.Mem.tail _ (List.Mem.tail _ (List.Mem.tail _ (List.Mem.tail _ (List.Mem.head _)))))))) rfl) ?_ | refine OP.load rfl rfl (Sees.old0 (by assumption)) ?_ | refine OP.loadA rfl rfl (SeesN.own 2 (List.Mem.head _) rfl) rfl ?_ | refine OP.loadA rfl rfl (SeesN.own 3 (List.Mem.head _) rfl) rfl ?_ | refine OP.loadA rfl rfl (SeesN.own 2 (List.Mem.tail _ (List.Mem.head _)) rfl) rfl ?_ | refine OP.loadA rfl rfl (SeesN.own 3 (List.Mem.tail _ (List.Mem.head _)) rfl) rfl ?_ | refine OP.loadA rfl rfl (SeesN.own 2 (List.Mem.tail _ (List.Mem.tail _ (List.Mem.head _))) rfl) rfl ?_ | refine OP.loadA rfl rfl (SeesN.own 3 (List.Mem.tail _ (List.Mem.tail _ (List.Mem.head _))) rfl) rfl ?_ | refine OP.loadA rfl rfl (SeesN.own 2 (List.Mem.tail _ (List.Mem.tail _ (List.Mem.tail _ (List.Mem.head _)))) rfl) rfl ?_ | refine OP.loadA rfl rfl (SeesN.own 3 (List.Mem.tail _ (List.Mem.tail _ (List.Mem.tail _ (List.Mem.head _)))) rfl) rfl ?_ | refine OP.loadA rfl rfl (SeesN.own 2 (List.Mem.tail _ (List.Mem.tail _ (List.Mem.tail _ (List.Mem.tail _ (List.Mem.head _))))) rfl) rfl ?_ | refine OP.loadA rfl rfl (SeesN.own 3 (List.Mem.tail _ (List.Mem.tail _ (List.Mem.tail _ (List.Mem.tail _ (List.Mem.head _))))) rfl) rfl ?_ | refine OP.loadA rfl rfl (SeesN.own 2 (List.Mem.tail _ (List.Mem.tail _ (List.Mem.tail _ (List.Mem.tail _ (List.Mem.tail _ (List.Mem.head _)))))) rfl) rfl ?_ | refine OP.loadA rfl rfl (SeesN.own 3 (List.Mem.tail _ (List.Mem.tail _ (List.Mem.tail _ (List.Mem.tail _ (List.Mem.tail _ (List.Mem.head _)))))) rfl) rfl ?_ | refine OP.loadA rfl rfl (SeesN.own 2 (List.Mem.tail _ (List.Mem.tail _ (List.Mem.tail _ (List.Mem.tail _ (List.Mem.tail _ (List.Mem.tail _ (List.Mem.head _))))))) rfl) rfl ?_ | refine OP.loadA rfl rfl (SeesN.own 3 (List.Mem.tail _ (List.Mem.tail _ (List.Mem.tail _ (List.Mem.tail _ (List.Mem.tail _ (List.Mem.tail _ (List.Mem.head _))))))) rfl) rfl ?_ | refine OP.loadA rfl rfl (SeesN.own 2 (List.Mem.tail _ (List.Mem.tail _ (List.Mem.tail _ (List.Mem.tail _ (List.Mem.tail _ (List.Mem.tail _ (List.Mem.tail _ (List.Mem.head _)))))))) rfl) rfl ?_ | refine OP.loadA rfl rfl (SeesN.own 3 (List.Mem.tail _ (List.Mem.tail _ (List.Mem.tail _ (List.Mem.tail _ (List.Mem.tail _ (List.Mem.tail _ (List.Mem.tail _ (List.Mem.head _)))))))) rfl) rfl ?_)
    | ((show OP _ _ _ _ _ _ _ ⟨none, .store _ _ _, _, _, _, none⟩ _ _); first | refine OP.store0 (vs := [_]) rfl rfl rfl rfl rfl ?_ | refine OP.store0 (vs := [_, _]) rfl rfl rfl rfl rfl ?_ | refine OP.store0 (vs := [_, _, _]) rfl rfl rfl rfl rfl ?_ | refine OP.store1 (vs := [_]) rfl rfl rfl rfl rfl ?_ | refine OP.store1 (vs := [_, _]) rfl rfl rfl rfl rfl ?_ | refine OP.store1 (vs := [_, _, _]) rfl rfl rfl rfl rfl ?_ | refine OP.store2 (vs := [_]) rfl rfl rfl rfl rfl ?_ | refine OP.store2 (vs := [_, _]) rfl rfl rfl rfl rfl ?_ | refine OP.store2 (vs := [_, _, _]) rfl rfl rfl rfl rfl ?_ | refine OP.store3 (vs := [_]) rfl rfl rfl rfl rfl ?_ | refine OP.store3 (vs := [_, _]) rfl rfl rfl rfl rfl ?_ | refine OP.store3 (vs := [_, _, _]) rfl rfl rfl rfl rfl ?_ | refine OP.store4 (vs := [_]) rfl rfl rfl rfl rfl ?_ | refine OP.store4 (vs := [_, _]) rfl rfl rfl rfl rfl ?_ | refine OP.store4 (vs := [_, _, _]) rfl rfl rfl rfl rfl ?_ | refine OP.store5 (vs := [_]) rfl rfl rfl rfl rfl ?_ | refine OP.store5 (vs := [_, _]) rfl rfl rfl rfl rfl ?_ | refine OP.store5 (vs := [_, _, _]) rfl rfl rfl rfl rfl ?_ | refine OP.store6 (vs := [_]) rfl rfl rfl rfl rfl ?_ | refine OP.store6 (vs := [_, _]) rfl rfl rfl rfl rfl ?_ | refine OP.store6 (vs := [_, _, _]) rfl rfl rfl rfl rfl ?_ | refine OP.store7 (vs := [_]) rfl rfl rfl rfl rfl ?_ | refine OP.store7 (vs := [_, _]) rfl rfl rfl rfl rfl ?_ | refine OP.store7 (vs := [_, _, _]) rfl rfl rfl rfl rfl ?_)
    | ((show OP _ _ _ _ _ _ _ ⟨_, .unOp _ _ _, _, _, _, none⟩ _ _); first | refine OP.notd rfl rfl ?_ | refine OP.not rfl rfl ?_ | (refine OP.neg rfl rfl ?_ ?_ ?_; omega; omega))
    | ((show OP _ _ _ _ _ _ _ ⟨_, .convert _ _ _, _, _, _, none⟩ _ _); first | (refine OP.conv rfl rfl ?_ ?_ ?_; omega; omega))
    | (refine OP.makeMap rfl (fun _ => ?_))
    | (refine OP.box rfl rfl (fun _ => ?_))
    | (refine OP.alloc rfl rfl (fun _ => ?_))
    | (refine OP.build rfl rfl ?_)
    | (refine OP.buildSlice rfl rfl ?_ rfl rfl (fun _ => ?_); (decide))
    | (refine OP.buildSlice0 rfl rfl (fun _ => ?_))
    | (refine OP.makeFunc rfl ?_)
    | (refine OP.field1 rfl rfl rfl ?_))
  refine WP.loop [0, 1, 5, 6, 7, 8, 9, 10] (fun x : Nat × Nat => [(0, .int .u64 x.1), (1, .int .u64 x.2)]) (fun _ => []) (fun x => x.1 < 18446744073709551616 ∧ x.2 < 18446744073709551616 ∧ Nat.gcd x.1 x.2 = Nat.gcd a b) (fun x => x.2) (a, b) ⟨h1, h2, rfl⟩ rfl ⟨rfl, rfl, trivial⟩ ?_
  rintro ⟨x, y⟩ j ⟨k1, k2, k3⟩
  dsimp only [updL] at k1 k2 k3 ⊢
  repeat' (first
    | (refine Fin.tail ?_)
    | (refine Fin.then_normal ?_)
    | (refine Fin.then_exit ?_)
    | (refine Fin.then_ret ?_)
    | (refine Fin.block_normal ?_)
    | (refine Fin.block_ret ?_)
    | (refine Fin.block_hit ?_)
    | (refine Fin.block_miss rfl ?_)
    | (refine Fin.loop_exit ?_)
    | (refine Fin.loop_ret ?_)
    | (refine WP.seq ?_)
    | (refine WP.regionQ (by kernel_rfl) (by kernel_rfl) ?_)
    | (refine WP.block ?_)
    | (refine WP.region ?_)
    | (refine WP.skip ?_)
    | (refine WP.exit ?_)
    | (refine WP.ret ?_)
    | (refine WP.label ?_)
    | (refine WP.cond_true rfl ?_)
    | (refine WP.cond_false rfl ?_)
    | (refine WP.cond_dec rfl (fun h => ?_) (fun h => ?_) <;> (try (exfalso; omega)))
    | (refine WP.cond_bool rfl (fun h => ?_) (fun h => ?_))
    | (refine WL.nil ?_)
    | (refine WL.cons ?_)
    | ((show OP _ _ _ _ _ _ _ ⟨some _, .move _, _, _, _, none⟩ _ _); first | refine OP.move (v := .int _ _) rfl rfl ?_ | refine OP.move (v := .bool _) rfl rfl ?_ | refine OP.move (v := .complex _ _ _) rfl rfl ?_ | refine OP.move (v := .float _ _) rfl rfl ?_ | refine OP.move (v := .slice _ _ _) rfl rfl ?_ | refine OP.move (v := .pointer _) rfl rfl ?_ | refine OP.move (v := .agg _) rfl rfl ?_ | refine OP.move (v := .tuple _) rfl rfl ?_ | refine OP.move (v := .map _) rfl rfl ?_ | refine OP.move (v := .func _ _ _) rfl rfl ?_ | refine OP.move (v := _) rfl rfl ?_)
    | ((show OP _ _ _ _ _ _ _ ⟨some _, .assign _, _, _, _, none⟩ _ _); first | refine OP.assign (v := .int _ _) rfl rfl ?_ | refine OP.assign (v := .bool _) rfl rfl ?_ | refine OP.assign (v := .complex _ _ _) rfl rfl ?_ | refine OP.assign (v := .float _ _) rfl rfl ?_ | refine OP.assign (v := .slice _ _ _) rfl rfl ?_ | refine OP.assign (v := .pointer _) rfl rfl ?_ | refine OP.assign (v := .agg _) rfl rfl ?_ | refine OP.assign (v := .tuple _) rfl rfl ?_ | refine OP.assign (v := .map _) rfl rfl ?_ | refine OP.assign (v := .func _ _ _) rfl rfl ?_ | refine OP.assign (v := _) rfl rfl ?_)
    | ((show OP _ _ _ _ _ _ _ ⟨_, _, _, _, _, some _⟩ _ _); first | refine OP.guard_yes rfl rfl ?_ | refine OP.guard_no rfl rfl rfl rfl ?_ | refine OP.guard_un rfl rfl rfl ?_ | refine OP.guard_no0 rfl rfl rfl ?_ | (refine OP.guard_dec rfl rfl (fun h => ?_) (fun h => ?_) <;> (try (exfalso; omega))) | refine OP.guard_bool rfl rfl (fun h => ?_) (fun h => ?_))
    | ((show OP _ _ _ _ _ _ _ ⟨some _, .call _, _, _, _, none⟩ _ _); first | refine OP.len rfl rfl rfl ?_ | refine OP.real rfl rfl ?_ | refine OP.imag rfl rfl ?_ | refine OP.complex rfl rfl rfl ?_ | refine OP.max2 rfl rfl rfl ?_ | refine OP.min2 rfl rfl rfl ?_)
    | ((show OP _ _ _ _ _ _ _ ⟨some _, .binOp _ _ _ _ _, _, _, _, none⟩ _ _); first | (refine OP.add rfl rfl rfl ?_ ?_ ?_; omega; omega) | (refine OP.sub rfl rfl rfl ?_ ?_ ?_; omega; omega) | refine OP.lss rfl rfl rfl ?_ | refine OP.eql rfl rfl rfl ?_ | refine OP.neq rfl rfl rfl ?_ | refine OP.gtr rfl rfl rfl ?_ | refine OP.geq rfl rfl rfl ?_ | refine OP.leq rfl rfl rfl ?_ | refine OP.eql2 rfl rfl rfl ?_ | refine OP.neq2 rfl rfl rfl ?_ | refine OP.neqd rfl rfl rfl ?_ | refine OP.eqd rfl rfl rfl ?_ | refine OP.eqlb rfl rfl rfl ?_ | (refine OP.mul rfl rfl rfl ?_ ?_ ?_; omega; omega) | (refine OP.quoN rfl rfl rfl ?_ ?_ ?_ ?_; omega; omega; omega) | (refine OP.remN rfl rfl rfl ?_ ?_; omega) | (refine OP.quo rfl rfl rfl ?_ ?_ ?_ ?_ ?_; omega; omega; omega; omega) | (refine OP.rem rfl rfl rfl ?_ ?_ ?_; omega; omega))
    | ((show OP _ _ _ _ _ _ _ ⟨some _, .pick _ _ _, _, _, _, none⟩ _ _); first | refine OP.pick_true rfl rfl ?_ | refine OP.pick_false rfl rfl ?_)
    | (refine OP.extract rfl rfl rfl ?_)
    | (refine OP.fieldAddr rfl rfl ?_)
    | ((show OP _ _ _ _ _ _ _ ⟨some _, .load _ _, _, _, _, none⟩ _ _); first | refine OP.load rfl rfl (Sees.own (List.Mem.head _) rfl) ?_ | refine OP.load rfl rfl (Sees.own (List.Mem.tail _ (List.Mem.head _)) rfl) ?_ | refine OP.load rfl rfl (Sees.own (List.Mem.tail _ (List.Mem.tail _ (List.Mem.head _))) rfl) ?_ | refine OP.load rfl rfl (Sees.own (List.Mem.tail _ (List.Mem.tail _ (List.Mem.tail _ (List.Mem.head _)))) rfl) ?_ | refine OP.load rfl rfl (Sees.own (List.Mem.tail _ (List.Mem.tail _ (List.Mem.tail _ (List.Mem.tail _ (List.Mem.head _))))) rfl) ?_ | refine OP.load rfl rfl (Sees.own (List.Mem.tail _ (List.Mem.tail _ (List.Mem.tail _ (List.Mem.tail _ (List.Mem.tail _ (List.Mem.head _)))))) rfl) ?_ | refine OP.load rfl rfl (Sees.own (List.Mem.tail _ (List.Mem.tail _ (List.Mem.tail _ (List.Mem.tail _ (List.Mem.tail _ (List.Mem.tail _ (List.Mem.head _))))))) rfl) ?_ | refine OP.load rfl rfl (Sees.own (List.Mem.tail _ (List.Mem.tail _ (List.Mem.tail _ (List.Mem.tail _ (List.Mem.tail _ (List.Mem.tail _ (List.Mem.tail _ (List.Mem.head _)))))))) rfl) ?_ | refine OP.load rfl rfl (Sees.old0 (by assumption)) ?_ | refine OP.loadA rfl rfl (SeesN.own 2 (List.Mem.head _) rfl) rfl ?_ | refine OP.loadA rfl rfl (SeesN.own 3 (List.Mem.head _) rfl) rfl ?_ | refine OP.loadA rfl rfl (SeesN.own 2 (List.Mem.tail _ (List.Mem.head _)) rfl) rfl ?_ | refine OP.loadA rfl rfl (SeesN.own 3 (List.Mem.tail _ (List.Mem.head _)) rfl) rfl ?_ | refine OP.loadA rfl rfl (SeesN.own 2 (List.Mem.tail _ (List.Mem.tail _ (List.Mem.head _))) rfl) rfl ?_ | refine OP.loadA rfl rfl (SeesN.own 3 (List.Mem.tail _ (List.Mem.tail _ (List.Mem.head _))) rfl) rfl ?_ | refine OP.loadA rfl rfl (SeesN.own 2 (List.Mem.tail _ (List.Mem.tail _ (List.Mem.tail _ (List.Mem.head _)))) rfl) rfl ?_ | refine OP.loadA rfl rfl (SeesN.own 3 (List.Mem.tail _ (List.Mem.tail _ (List.Mem.tail _ (List.Mem.head _)))) rfl) rfl ?_ | refine OP.loadA rfl rfl (SeesN.own 2 (List.Mem.tail _ (List.Mem.tail _ (List.Mem.tail _ (List.Mem.tail _ (List.Mem.head _))))) rfl) rfl ?_ | refine OP.loadA rfl rfl (SeesN.own 3 (List.Mem.tail _ (List.Mem.tail _ (List.Mem.tail _ (List.Mem.tail _ (List.Mem.head _))))) rfl) rfl ?_ | refine OP.loadA rfl rfl (SeesN.own 2 (List.Mem.tail _ (List.Mem.tail _ (List.Mem.tail _ (List.Mem.tail _ (List.Mem.tail _ (List.Mem.head _)))))) rfl) rfl ?_ | refine OP.loadA rfl rfl (SeesN.own 3 (List.Mem.tail _ (List.Mem.tail _ (List.Mem.tail _ (List.Mem.tail _ (List.Mem.tail _ (List.Mem.head _)))))) rfl) rfl ?_ | refine OP.loadA rfl rfl (SeesN.own 2 (List.Mem.tail _ (List.Mem.tail _ (List.Mem.tail _ (List.Mem.tail _ (List.Mem.tail _ (List.Mem.tail _ (List.Mem.head _))))))) rfl) rfl ?_ | refine OP.loadA rfl rfl (SeesN.own 3 (List.Mem.tail _ (List.Mem.tail _ (List.Mem.tail _ (List.Mem.tail _ (List.Mem.tail _ (List.Mem.tail _ (List.Mem.head _))))))) rfl) rfl ?_ | refine OP.loadA rfl rfl (SeesN.own 2 (List.Mem.tail _ (List.Mem.tail _ (List.Mem.tail _ (List.Mem.tail _ (List.Mem.tail _ (List.Mem.tail _ (List.Mem.tail _ (List.Mem.head _)))))))) rfl) rfl ?_ | refine OP.loadA rfl rfl (SeesN.own 3 (List.Mem.tail _ (List.Mem.tail _ (List.Mem.tail _ (List.Mem.tail _ (List.Mem.tail _ (List.Mem.tail _ (List.Mem.tail _ (List.Mem.head _)))))))) rfl) rfl ?_)
    | ((show OP _ _ _ _ _ _ _ ⟨none, .store _ _ _, _, _, _, none⟩ _ _); first | refine OP.store0 (vs := [_]) rfl rfl rfl rfl rfl ?_ | refine OP.store0 (vs := [_, _]) rfl rfl rfl rfl rfl ?_ | refine OP.store0 (vs := [_, _, _]) rfl rfl rfl rfl rfl ?_ | refine OP.store1 (vs := [_]) rfl rfl rfl rfl rfl ?_ | refine OP.store1 (vs := [_, _]) rfl rfl rfl rfl rfl ?_ | refine OP.store1 (vs := [_, _, _]) rfl rfl rfl rfl rfl ?_ | refine OP.store2 (vs := [_]) rfl rfl rfl rfl rfl ?_ | refine OP.store2 (vs := [_, _]) rfl rfl rfl rfl rfl ?_ | refine OP.store2 (vs := [_, _, _]) rfl rfl rfl rfl rfl ?_ | refine OP.store3 (vs := [_]) rfl rfl rfl rfl rfl ?_ | refine OP.store3 (vs := [_, _]) rfl rfl rfl rfl rfl ?_ | refine OP.store3 (vs := [_, _, _]) rfl rfl rfl rfl rfl ?_ | refine OP.store4 (vs := [_]) rfl rfl rfl rfl rfl ?_ | refine OP.store4 (vs := [_, _]) rfl rfl rfl rfl rfl ?_ | refine OP.store4 (vs := [_, _, _]) rfl rfl rfl rfl rfl ?_ | refine OP.store5 (vs := [_]) rfl rfl rfl rfl rfl ?_ | refine OP.store5 (vs := [_, _]) rfl rfl rfl rfl rfl ?_ | refine OP.store5 (vs := [_, _, _]) rfl rfl rfl rfl rfl ?_ | refine OP.store6 (vs := [_]) rfl rfl rfl rfl rfl ?_ | refine OP.store6 (vs := [_, _]) rfl rfl rfl rfl rfl ?_ | refine OP.store6 (vs := [_, _, _]) rfl rfl rfl rfl rfl ?_ | refine OP.store7 (vs := [_]) rfl rfl rfl rfl rfl ?_ | refine OP.store7 (vs := [_, _]) rfl rfl rfl rfl rfl ?_ | refine OP.store7 (vs := [_, _, _]) rfl rfl rfl rfl rfl ?_)
    | ((show OP _ _ _ _ _ _ _ ⟨_, .unOp _ _ _, _, _, _, none⟩ _ _); first | refine OP.notd rfl rfl ?_ | refine OP.not rfl rfl ?_ | (refine OP.neg rfl rfl ?_ ?_ ?_; omega; omega))
    | ((show OP _ _ _ _ _ _ _ ⟨_, .convert _ _ _, _, _, _, none⟩ _ _); first | (refine OP.conv rfl rfl ?_ ?_ ?_; omega; omega))
    | (refine OP.makeMap rfl (fun _ => ?_))
    | (refine OP.box rfl rfl (fun _ => ?_))
    | (refine OP.alloc rfl rfl (fun _ => ?_))
    | (refine OP.build rfl rfl ?_)
    | (refine OP.buildSlice rfl rfl ?_ rfl rfl (fun _ => ?_); (decide))
    | (refine OP.buildSlice0 rfl rfl (fun _ => ?_))
    | (refine OP.makeFunc rfl ?_)
    | (refine OP.field1 rfl rfl rfl ?_))
  · have hy : 0 < y := by omega
    refine Fin.loop_normal fun w' hst => ⟨(y, rn x y), ?_, ?_, by (repeat' (first | exact Agree.refl _ _ | refine Agree.upd rfl ?_ | refine Agree.hav rfl ?_)), ?_, hst⟩
    · exact ⟨k2, Nat.lt_trans (Nat.mod_lt _ hy) k2, by show Nat.gcd y (x % y) = _; rw [← k3, Nat.gcd_comm x y, Nat.gcd_rec y x, Nat.gcd_comm]⟩
    · exact Nat.mod_lt _ hy
    · exact ⟨rfl, rfl, trivial⟩
  · refine Fin.ret1 (h0 := .inl rfl) rfl rfl ?_
    have : y = 0 := by omega
    subst this
    exact ⟨vint (by rw [← k3]; simp), rfl⟩

/-! the one form, as the walk spells it -/
theorem nrm_far' {p q : Int} (h : ¬ ((Nat.gcd p.natAbs q.natAbs : Nat) : Int) = 0) (h' : (16 : Int) < (qn p.natAbs (Nat.gcd p.natAbs q.natAbs) : Nat) ∨ (16 : Int) < (qn q.natAbs (Nat.gcd p.natAbs q.natAbs) : Nat)) : nrm p q = (0, 0, 60) :=
  nrm_far (by omega) (by show 16 < qn _ _ ∨ 16 < qn _ _; omega)
theorem nrm_neg' {p q : Int} (h : ¬ ((Nat.gcd p.natAbs q.natAbs : Nat) : Int) = 0) (h1 : ¬ (16 : Int) < (qn p.natAbs (Nat.gcd p.natAbs q.natAbs) : Nat)) (h2 : ¬ (16 : Int) < (qn q.natAbs (Nat.gcd p.natAbs q.natAbs) : Nat)) (h' : (p < 0 ∧ 0 < q) ∨ (0 < p ∧ q < 0)) :
    nrm p q = (-((qn p.natAbs (Nat.gcd p.natAbs q.natAbs) : Nat) : Int), ((qn q.natAbs (Nat.gcd p.natAbs q.natAbs) : Nat) : Int), 0) :=
  nrm_neg (by omega) (by show qn _ _ ≤ 16; omega) (by show qn _ _ ≤ 16; omega) h'
theorem nrm_pos' {p q : Int} (h : ¬ ((Nat.gcd p.natAbs q.natAbs : Nat) : Int) = 0) (h1 : ¬ (16 : Int) < (qn p.natAbs (Nat.gcd p.natAbs q.natAbs) : Nat)) (h2 : ¬ (16 : Int) < (qn q.natAbs (Nat.gcd p.natAbs q.natAbs) : Nat)) (h' : ¬ ((p < 0 ∧ 0 < q) ∨ (0 < p ∧ q < 0))) :
    nrm p q = (((qn p.natAbs (Nat.gcd p.natAbs q.natAbs) : Nat) : Int), ((qn q.natAbs (Nat.gcd p.natAbs q.natAbs) : Nat) : Int), 0) :=
  nrm_pos (by omega) (by show qn _ _ ≤ 16; omega) (by show qn _ _ ≤ 16; omega) h'

theorem nrm_nought {p q : Int} (h : ¬ ((Nat.gcd p.natAbs q.natAbs : Nat) : Int) = 0) (h1 : ¬ (16 : Int) < (qn p.natAbs (Nat.gcd p.natAbs q.natAbs) : Nat)) (h2 : ¬ (16 : Int) < (qn q.natAbs (Nat.gcd p.natAbs q.natAbs) : Nat)) (h' : p = 0 ∧ q < 0) :
    nrm p q = (-((qn p.natAbs (Nat.gcd p.natAbs q.natAbs) : Nat) : Int), ((qn q.natAbs (Nat.gcd p.natAbs q.natAbs) : Nat) : Int), 0) := by
  rw [nrm_pos' h h1 h2 (by omega)]
  have : qn p.natAbs (Nat.gcd p.natAbs q.natAbs) = 0 := by rw [h'.1]; simp [qn]
  rw [this]; rfl

set_option maxHeartbeats 800000 in
theorem Normal_fn (p q : Int) (h1 : -9223372036854775808 ≤ p) (h2 : p ≤ 9223372036854775807) (h3 : -9223372036854775808 ≤ q) (h4 : q ≤ 9223372036854775807) (w : World) :
    Does Try.prog 42 #[.int .i64 p, .int .i64 q] [] w fun v Γ => v = .tuple #[.agg #[.int .i64 (nrm p q).1, .int .i64 (nrm p q).2.1], .int .i64 (nrm p q).2.2] ∧ Γ = [] := by
  refine Does.enter Try.func42 rfl Try.ntmps42 rfl (St.start w) ?_
  repeat' (first
    | (refine Fin.tail ?_)
    | (refine Fin.then_normal ?_)
    | (refine Fin.then_exit ?_)
    | (refine Fin.then_ret ?_)
    | (refine Fin.block_normal ?_)
    | (refine Fin.block_ret ?_)
    | (refine Fin.block_hit ?_)
    | (refine Fin.block_miss rfl ?_)
    | (refine Fin.loop_exit ?_)
    | (refine Fin.loop_ret ?_)
    | (refine WP.seq ?_)
    | (refine WP.regionQ (by kernel_rfl) (by kernel_rfl) ?_)
    | (refine WP.block ?_)
    | (refine WP.region ?_)
    | (refine WP.skip ?_)
    | (refine WP.exit ?_)
    | (refine WP.ret ?_)
    | (refine WP.label ?_)
    | (refine WP.cond_true rfl ?_)
    | (refine WP.cond_false rfl ?_)
    | (refine WP.cond_dec rfl (fun h => ?_) (fun h => ?_) <;> (try (exfalso; omega)))
    | (refine WP.cond_bool rfl (fun h => ?_) (fun h => ?_))
    | (refine WL.nil ?_)
    | (refine WL.cons ?_)
    | ((show OP _ _ _ _ _ _ _ ⟨some _, .move _, _, _, _, none⟩ _ _); first | refine OP.move (v := .int _ _) rfl rfl ?_ | refine OP.move (v := .bool _) rfl rfl ?_ | refine OP.move (v := .complex _ _ _) rfl rfl ?_ | refine OP.move (v := .float _ _) rfl rfl ?_ | refine OP.move (v := .slice _ _ _) rfl rfl ?_ | refine OP.move (v := .pointer _) rfl rfl ?_ | refine OP.move (v := .agg _) rfl rfl ?_ | refine OP.move (v := .tuple _) rfl rfl ?_ | refine OP.move (v := .map _) rfl rfl ?_ | refine OP.move (v := .func _ _ _) rfl rfl ?_ | refine OP.move (v := _) rfl rfl ?_)
    | ((show OP _ _ _ _ _ _ _ ⟨some _, .assign _, _, _, _, none⟩ _ _); first | refine OP.assign (v := .int _ _) rfl rfl ?_ | refine OP.assign (v := .bool _) rfl rfl ?_ | refine OP.assign (v := .complex _ _ _) rfl rfl ?_ | refine OP.assign (v := .float _ _) rfl rfl ?_ | refine OP.assign (v := .slice _ _ _) rfl rfl ?_ | refine OP.assign (v := .pointer _) rfl rfl ?_ | refine OP.assign (v := .agg _) rfl rfl ?_ | refine OP.assign (v := .tuple _) rfl rfl ?_ | refine OP.assign (v := .map _) rfl rfl ?_ | refine OP.assign (v := .func _ _ _) rfl rfl ?_ | refine OP.assign (v := _) rfl rfl ?_)
    | ((show OP _ _ _ _ _ _ _ ⟨_, _, _, _, _, some _⟩ _ _); first | refine OP.guard_yes rfl rfl ?_ | refine OP.guard_no rfl rfl rfl rfl ?_ | refine OP.guard_un rfl rfl rfl ?_ | refine OP.guard_no0 rfl rfl rfl ?_ | (refine OP.guard_dec rfl rfl (fun h => ?_) (fun h => ?_) <;> (try (exfalso; omega))) | refine OP.guard_bool rfl rfl (fun h => ?_) (fun h => ?_))
    | ((show OP _ _ _ _ _ _ _ ⟨some _, .call _, _, _, _, none⟩ _ _); first | refine OP.callq _ rfl (fun w _ => abs_fn _ (by omega) (by omega) w) (fun _ _ h => h.1) ?_ | refine OP.callq _ rfl (fun w _ => div_fn _ _ (by omega) (by omega) w) (fun _ _ h => h.1) ?_ | refine OP.len rfl rfl rfl ?_ | refine OP.real rfl rfl ?_ | refine OP.imag rfl rfl ?_ | refine OP.complex rfl rfl rfl ?_ | refine OP.max2 rfl rfl rfl ?_ | refine OP.min2 rfl rfl rfl ?_)
    | ((show OP _ _ _ _ _ _ _ ⟨some _, .binOp _ _ _ _ _, _, _, _, none⟩ _ _); first | (refine OP.add rfl rfl rfl ?_ ?_ ?_; omega; omega) | (refine OP.sub rfl rfl rfl ?_ ?_ ?_; omega; omega) | refine OP.lss rfl rfl rfl ?_ | refine OP.eql rfl rfl rfl ?_ | refine OP.neq rfl rfl rfl ?_ | refine OP.gtr rfl rfl rfl ?_ | refine OP.geq rfl rfl rfl ?_ | refine OP.leq rfl rfl rfl ?_ | refine OP.eql2 rfl rfl rfl ?_ | refine OP.neq2 rfl rfl rfl ?_ | refine OP.neqd rfl rfl rfl ?_ | refine OP.eqd rfl rfl rfl ?_ | refine OP.eqlb rfl rfl rfl ?_ | (refine OP.mul rfl rfl rfl ?_ ?_ ?_; omega; omega) | (refine OP.quoN rfl rfl rfl ?_ ?_ ?_ ?_; omega; omega; omega) | (refine OP.remN rfl rfl rfl ?_ ?_; omega) | (refine OP.quo rfl rfl rfl ?_ ?_ ?_ ?_ ?_; omega; omega; omega; omega) | (refine OP.rem rfl rfl rfl ?_ ?_ ?_; omega; omega))
    | ((show OP _ _ _ _ _ _ _ ⟨some _, .pick _ _ _, _, _, _, none⟩ _ _); first | refine OP.pick_true rfl rfl ?_ | refine OP.pick_false rfl rfl ?_)
    | (refine OP.extract rfl rfl rfl ?_)
    | (refine OP.fieldAddr rfl rfl ?_)
    | ((show OP _ _ _ _ _ _ _ ⟨some _, .load _ _, _, _, _, none⟩ _ _); first | refine OP.load rfl rfl (Sees.own (List.Mem.head _) rfl) ?_ | refine OP.load rfl rfl (Sees.own (List.Mem.tail _ (List.Mem.head _)) rfl) ?_ | refine OP.load rfl rfl (Sees.own (List.Mem.tail _ (List.Mem.tail _ (List.Mem.head _))) rfl) ?_ | refine OP.load rfl rfl (Sees.own (List.Mem.tail _ (List.Mem.tail _ (List.Mem.tail _ (List.Mem.head _)))) rfl) ?_ | refine OP.load rfl rfl (Sees.own (List.Mem.tail _ (List.Mem.tail _ (List.Mem.tail _ (List.Mem.tail _ (List.Mem.head _))))) rfl) ?_ | refine OP.load rfl rfl (Sees.own (List.Mem.tail _ (List.Mem.tail _ (List.Mem.tail _ (List.Mem.tail _ (List.Mem.tail _ (List.Mem.head _)))))) rfl) ?_ | refine OP.load rfl rfl (Sees.own (List.Mem.tail _ (List.Mem.tail _ (List.Mem.tail _ (List.Mem.tail _ (List.Mem.tail _ (List.Mem.tail _ (List.Mem.head _))))))) rfl) ?_ | refine OP.load rfl rfl (Sees.own (List.Mem.tail _ (List.Mem.tail _ (List.Mem.tail _ (List.Mem.tail _ (List.Mem.tail _ (List.Mem.tail _ (List.Mem.tail _ (List.Mem.head _)))))))) rfl) ?_ | refine OP.load rfl rfl (Sees.old0 (by assumption)) ?_ | refine OP.loadA rfl rfl (SeesN.own 2 (List.Mem.head _) rfl) rfl ?_ | refine OP.loadA rfl rfl (SeesN.own 3 (List.Mem.head _) rfl) rfl ?_ | refine OP.loadA rfl rfl (SeesN.own 2 (List.Mem.tail _ (List.Mem.head _)) rfl) rfl ?_ | refine OP.loadA rfl rfl (SeesN.own 3 (List.Mem.tail _ (List.Mem.head _)) rfl) rfl ?_ | refine OP.loadA rfl rfl (SeesN.own 2 (List.Mem.tail _ (List.Mem.tail _ (List.Mem.head _))) rfl) rfl ?_ | refine OP.loadA rfl rfl (SeesN.own 3 (List.Mem.tail _ (List.Mem.tail _ (List.Mem.head _))) rfl) rfl ?_ | refine OP.loadA rfl rfl (SeesN.own 2 (List.Mem.tail _ (List.Mem.tail _ (List.Mem.tail _ (List.Mem.head _)))) rfl) rfl ?_ | refine OP.loadA rfl rfl (SeesN.own 3 (List.Mem.tail _ (List.Mem.tail _ (List.Mem.tail _ (List.Mem.head _)))) rfl) rfl ?_ | refine OP.loadA rfl rfl (SeesN.own 2 (List.Mem.tail _ (List.Mem.tail _ (List.Mem.tail _ (List.Mem.tail _ (List.Mem.head _))))) rfl) rfl ?_ | refine OP.loadA rfl rfl (SeesN.own 3 (List.Mem.tail _ (List.Mem.tail _ (List.Mem.tail _ (List.Mem.tail _ (List.Mem.head _))))) rfl) rfl ?_ | refine OP.loadA rfl rfl (SeesN.own 2 (List.Mem.tail _ (List.Mem.tail _ (List.Mem.tail _ (List.Mem.tail _ (List.Mem.tail _ (List.Mem.head _)))))) rfl) rfl ?_ | refine OP.loadA rfl rfl (SeesN.own 3 (List.Mem.tail _ (List.Mem.tail _ (List.Mem.tail _ (List.Mem.tail _ (List.Mem.tail _ (List.Mem.head _)))))) rfl) rfl ?_ | refine OP.loadA rfl rfl (SeesN.own 2 (List.Mem.tail _ (List.Mem.tail _ (List.Mem.tail _ (List.Mem.tail _ (List.Mem.tail _ (List.Mem.tail _ (List.Mem.head _))))))) rfl) rfl ?_ | refine OP.loadA rfl rfl (SeesN.own 3 (List.Mem.tail _ (List.Mem.tail _ (List.Mem.tail _ (List.Mem.tail _ (List.Mem.tail _ (List.Mem.tail _ (List.Mem.head _))))))) rfl) rfl ?_ | refine OP.loadA rfl rfl (SeesN.own 2 (List.Mem.tail _ (List.Mem.tail _ (List.Mem.tail _ (List.Mem.tail _ (List.Mem.tail _ (List.Mem.tail _ (List.Mem.tail _ (List.Mem.head _)))))))) rfl) rfl ?_ | refine OP.loadA rfl rfl (SeesN.own 3 (List.Mem.tail _ (List.Mem.tail _ (List.Mem.tail _ (List.Mem.tail _ (List.Mem.tail _ (List.Mem.tail _ (List.Mem.tail _ (List.Mem.head _)))))))) rfl) rfl ?_)
    | ((show OP _ _ _ _ _ _ _ ⟨none, .store _ _ _, _, _, _, none⟩ _ _); first | refine OP.store0 (vs := [_]) rfl rfl rfl rfl rfl ?_ | refine OP.store0 (vs := [_, _]) rfl rfl rfl rfl rfl ?_ | refine OP.store0 (vs := [_, _, _]) rfl rfl rfl rfl rfl ?_ | refine OP.store1 (vs := [_]) rfl rfl rfl rfl rfl ?_ | refine OP.store1 (vs := [_, _]) rfl rfl rfl rfl rfl ?_ | refine OP.store1 (vs := [_, _, _]) rfl rfl rfl rfl rfl ?_ | refine OP.store2 (vs := [_]) rfl rfl rfl rfl rfl ?_ | refine OP.store2 (vs := [_, _]) rfl rfl rfl rfl rfl ?_ | refine OP.store2 (vs := [_, _, _]) rfl rfl rfl rfl rfl ?_ | refine OP.store3 (vs := [_]) rfl rfl rfl rfl rfl ?_ | refine OP.store3 (vs := [_, _]) rfl rfl rfl rfl rfl ?_ | refine OP.store3 (vs := [_, _, _]) rfl rfl rfl rfl rfl ?_ | refine OP.store4 (vs := [_]) rfl rfl rfl rfl rfl ?_ | refine OP.store4 (vs := [_, _]) rfl rfl rfl rfl rfl ?_ | refine OP.store4 (vs := [_, _, _]) rfl rfl rfl rfl rfl ?_ | refine OP.store5 (vs := [_]) rfl rfl rfl rfl rfl ?_ | refine OP.store5 (vs := [_, _]) rfl rfl rfl rfl rfl ?_ | refine OP.store5 (vs := [_, _, _]) rfl rfl rfl rfl rfl ?_ | refine OP.store6 (vs := [_]) rfl rfl rfl rfl rfl ?_ | refine OP.store6 (vs := [_, _]) rfl rfl rfl rfl rfl ?_ | refine OP.store6 (vs := [_, _, _]) rfl rfl rfl rfl rfl ?_ | refine OP.store7 (vs := [_]) rfl rfl rfl rfl rfl ?_ | refine OP.store7 (vs := [_, _]) rfl rfl rfl rfl rfl ?_ | refine OP.store7 (vs := [_, _, _]) rfl rfl rfl rfl rfl ?_)
    | ((show OP _ _ _ _ _ _ _ ⟨_, .unOp _ _ _, _, _, _, none⟩ _ _); first | refine OP.notd rfl rfl ?_ | refine OP.not rfl rfl ?_ | (refine OP.neg rfl rfl ?_ ?_ ?_; omega; omega))
    | ((show OP _ _ _ _ _ _ _ ⟨_, .convert _ _ _, _, _, _, none⟩ _ _); first | (refine OP.conv rfl rfl ?_ ?_ ?_; omega; omega))
    | (refine OP.makeMap rfl (fun _ => ?_))
    | (refine OP.box rfl rfl (fun _ => ?_))
    | (refine OP.alloc rfl rfl (fun _ => ?_))
    | (refine OP.build rfl rfl ?_)
    | (refine OP.buildSlice rfl rfl ?_ rfl rfl (fun _ => ?_); (decide))
    | (refine OP.buildSlice0 rfl rfl (fun _ => ?_))
    | (refine OP.makeFunc rfl ?_)
    | (refine OP.field1 rfl rfl rfl ?_))
  all_goals (first | refine Fin.retA2 (h0 := .inl rfl) rfl rfl (SeesN.own 2 (List.Mem.head _) rfl) rfl rfl (List.nil_sublist _) ?_ | refine Fin.retA2 (h0 := .inl rfl) rfl rfl (SeesN.own 2 (List.Mem.tail _ (List.Mem.head _)) rfl) rfl rfl (List.nil_sublist _) ?_ | refine Fin.retA2 (h0 := .inl rfl) rfl rfl (SeesN.own 2 (List.Mem.tail _ (List.Mem.tail _ (List.Mem.head _))) rfl) rfl rfl (List.nil_sublist _) ?_ | refine Fin.retA2 (h0 := .inl rfl) rfl rfl (SeesN.own 2 (List.Mem.tail _ (List.Mem.tail _ (List.Mem.tail _ (List.Mem.head _)))) rfl) rfl rfl (List.nil_sublist _) ?_ | refine Fin.retA2 (h0 := .inl rfl) rfl rfl (SeesN.own 2 (List.Mem.tail _ (List.Mem.tail _ (List.Mem.tail _ (List.Mem.tail _ (List.Mem.head _))))) rfl) rfl rfl (List.nil_sublist _) ?_ | refine Fin.retA2 (h0 := .inl rfl) rfl rfl (SeesN.own 2 (List.Mem.tail _ (List.Mem.tail _ (List.Mem.tail _ (List.Mem.tail _ (List.Mem.tail _ (List.Mem.head _)))))) rfl) rfl rfl (List.nil_sublist _) ?_ | refine Fin.retA2 (h0 := .inl rfl) rfl rfl (SeesN.own 2 (List.Mem.tail _ (List.Mem.tail _ (List.Mem.tail _ (List.Mem.tail _ (List.Mem.tail _ (List.Mem.tail _ (List.Mem.head _))))))) rfl) rfl rfl (List.nil_sublist _) ?_ | refine Fin.retA2 (h0 := .inl rfl) rfl rfl (SeesN.own 2 (List.Mem.tail _ (List.Mem.tail _ (List.Mem.tail _ (List.Mem.tail _ (List.Mem.tail _ (List.Mem.tail _ (List.Mem.tail _ (List.Mem.head _)))))))) rfl) rfl rfl (List.nil_sublist _) ?_)
  · exact ⟨by rw [nrm_zero (by omega)]; rfl, rfl⟩
  · exact ⟨by rw [nrm_far' (by omega) (by omega)]; rfl, rfl⟩
  · exact ⟨by rw [nrm_far' (by omega) (by omega)]; rfl, rfl⟩
  · exact ⟨by rw [nrm_neg' (by omega) (by omega) (by omega) (by omega)]; rfl, rfl⟩
  · exact ⟨by rw [nrm_pos' (by omega) (by omega) (by omega) (by omega)]; rfl, rfl⟩
  · exact ⟨by rw [nrm_neg' (by omega) (by omega) (by omega) (by omega)]; rfl, rfl⟩
  · exact ⟨by rw [nrm_pos' (by omega) (by omega) (by omega) (by omega)]; rfl, rfl⟩
  · exact ⟨by rw [nrm_pos' (by omega) (by omega) (by omega) (by omega)]; rfl, rfl⟩


/-- What a look at the one form comes to. -/
theorem isDir_of {p q : Int} (h0 : (nrm p q).2.2 = 0) (h1 : (nrm p q).1 = p) (h2 : (nrm p q).2.1 = q) : isDir p q = true := by
  unfold isDir
  rw [decide_eq_true_iff]
  exact Prod.ext h1 (Prod.ext h2 h0)
theorem isDir_parts {p q : Int} (h : isDir p q = true) : (nrm p q).1 = p ∧ (nrm p q).2.1 = q ∧ (nrm p q).2.2 = 0 := by
  unfold isDir at h
  rw [decide_eq_true_iff] at h
  rw [h]; exact ⟨rfl, rfl, rfl⟩
theorem chk_yes {p q : Int} (h : isDir p q = true) : chk p q = 0 := by simp [chk, h]
theorem chk_no {p q : Int} (h : ¬ isDir p q = true) : chk p q = 60 := by simp [chk, h]

set_option maxHeartbeats 400000 in
theorem Check_fn (p q : Int) (h1 : -9223372036854775808 ≤ p) (h2 : p ≤ 9223372036854775807) (h3 : -9223372036854775808 ≤ q) (h4 : q ≤ 9223372036854775807) (w : World) :
    Does Try.prog 32 #[.agg #[.int .i64 p, .int .i64 q]] [] w fun v Γ => v = .int .i64 (chk p q) ∧ Γ = [] := by
  refine Does.enter Try.func32 rfl Try.ntmps32 rfl (St.start w) ?_
  repeat' (first
    | (refine Fin.tail ?_)
    | (refine Fin.then_normal ?_)
    | (refine Fin.then_exit ?_)
    | (refine Fin.then_ret ?_)
    | (refine Fin.block_normal ?_)
    | (refine Fin.block_ret ?_)
    | (refine Fin.block_hit ?_)
    | (refine Fin.block_miss rfl ?_)
    | (refine Fin.loop_exit ?_)
    | (refine Fin.loop_ret ?_)
    | (refine WP.seq ?_)
    | (refine WP.regionQ (by kernel_rfl) (by kernel_rfl) ?_)
    | (refine WP.block ?_)
    | (refine WP.region ?_)
    | (refine WP.skip ?_)
    | (refine WP.exit ?_)
    | (refine WP.ret ?_)
    | (refine WP.label ?_)
    | (refine WP.cond_true rfl ?_)
    | (refine WP.cond_false rfl ?_)
    | (refine WP.cond_dec rfl (fun h => ?_) (fun h => ?_) <;> (try (exfalso; omega)))
    | (refine WP.cond_bool rfl (fun h => ?_) (fun h => ?_))
    | (refine WL.nil ?_)
    | (refine WL.cons ?_)
    | ((show OP _ _ _ _ _ _ _ ⟨some _, .move _, _, _, _, none⟩ _ _); first | refine OP.move (v := .int _ _) rfl rfl ?_ | refine OP.move (v := .bool _) rfl rfl ?_ | refine OP.move (v := .complex _ _ _) rfl rfl ?_ | refine OP.move (v := .float _ _) rfl rfl ?_ | refine OP.move (v := .slice _ _ _) rfl rfl ?_ | refine OP.move (v := .pointer _) rfl rfl ?_ | refine OP.move (v := .agg _) rfl rfl ?_ | refine OP.move (v := .tuple _) rfl rfl ?_ | refine OP.move (v := .map _) rfl rfl ?_ | refine OP.move (v := .func _ _ _) rfl rfl ?_ | refine OP.move (v := _) rfl rfl ?_)
    | ((show OP _ _ _ _ _ _ _ ⟨some _, .assign _, _, _, _, none⟩ _ _); first | refine OP.assign (v := .int _ _) rfl rfl ?_ | refine OP.assign (v := .bool _) rfl rfl ?_ | refine OP.assign (v := .complex _ _ _) rfl rfl ?_ | refine OP.assign (v := .float _ _) rfl rfl ?_ | refine OP.assign (v := .slice _ _ _) rfl rfl ?_ | refine OP.assign (v := .pointer _) rfl rfl ?_ | refine OP.assign (v := .agg _) rfl rfl ?_ | refine OP.assign (v := .tuple _) rfl rfl ?_ | refine OP.assign (v := .map _) rfl rfl ?_ | refine OP.assign (v := .func _ _ _) rfl rfl ?_ | refine OP.assign (v := _) rfl rfl ?_)
    | ((show OP _ _ _ _ _ _ _ ⟨_, _, _, _, _, some _⟩ _ _); first | refine OP.guard_yes rfl rfl ?_ | refine OP.guard_no rfl rfl rfl rfl ?_ | refine OP.guard_un rfl rfl rfl ?_ | refine OP.guard_no0 rfl rfl rfl ?_ | (refine OP.guard_dec rfl rfl (fun h => ?_) (fun h => ?_) <;> (try (exfalso; omega))) | refine OP.guard_bool rfl rfl (fun h => ?_) (fun h => ?_))
    | ((show OP _ _ _ _ _ _ _ ⟨some _, .call _, _, _, _, none⟩ _ _); first | refine OP.callq _ rfl (fun w _ => Normal_fn _ _ (by omega) (by omega) (by omega) (by omega) w) (fun _ _ h => h.1) ?_ | refine OP.len rfl rfl rfl ?_ | refine OP.real rfl rfl ?_ | refine OP.imag rfl rfl ?_ | refine OP.complex rfl rfl rfl ?_ | refine OP.max2 rfl rfl rfl ?_ | refine OP.min2 rfl rfl rfl ?_)
    | ((show OP _ _ _ _ _ _ _ ⟨some _, .binOp _ _ _ _ _, _, _, _, none⟩ _ _); first | (refine OP.add rfl rfl rfl ?_ ?_ ?_; omega; omega) | (refine OP.sub rfl rfl rfl ?_ ?_ ?_; omega; omega) | refine OP.lss rfl rfl rfl ?_ | refine OP.eql rfl rfl rfl ?_ | refine OP.neq rfl rfl rfl ?_ | refine OP.gtr rfl rfl rfl ?_ | refine OP.geq rfl rfl rfl ?_ | refine OP.leq rfl rfl rfl ?_ | refine OP.eql2 rfl rfl rfl ?_ | refine OP.neq2 rfl rfl rfl ?_ | refine OP.neqd rfl rfl rfl ?_ | refine OP.eqd rfl rfl rfl ?_ | refine OP.eqlb rfl rfl rfl ?_ | (refine OP.mul rfl rfl rfl ?_ ?_ ?_; omega; omega) | (refine OP.quoN rfl rfl rfl ?_ ?_ ?_ ?_; omega; omega; omega) | (refine OP.remN rfl rfl rfl ?_ ?_; omega) | (refine OP.quo rfl rfl rfl ?_ ?_ ?_ ?_ ?_; omega; omega; omega; omega) | (refine OP.rem rfl rfl rfl ?_ ?_ ?_; omega; omega))
    | ((show OP _ _ _ _ _ _ _ ⟨some _, .pick _ _ _, _, _, _, none⟩ _ _); first | refine OP.pick_true rfl rfl ?_ | refine OP.pick_false rfl rfl ?_)
    | (refine OP.extract rfl rfl rfl ?_)
    | (refine OP.fieldAddr rfl rfl ?_)
    | ((show OP _ _ _ _ _ _ _ ⟨some _, .load _ _, _, _, _, none⟩ _ _); first | refine OP.load rfl rfl (Sees.own (List.Mem.head _) rfl) ?_ | refine OP.load rfl rfl (Sees.own (List.Mem.tail _ (List.Mem.head _)) rfl) ?_ | refine OP.load rfl rfl (Sees.own (List.Mem.tail _ (List.Mem.tail _ (List.Mem.head _))) rfl) ?_ | refine OP.load rfl rfl (Sees.own (List.Mem.tail _ (List.Mem.tail _ (List.Mem.tail _ (List.Mem.head _)))) rfl) ?_ | refine OP.load rfl rfl (Sees.own (List.Mem.tail _ (List.Mem.tail _ (List.Mem.tail _ (List.Mem.tail _ (List.Mem.head _))))) rfl) ?_ | refine OP.load rfl rfl (Sees.own (List.Mem.tail _ (List.Mem.tail _ (List.Mem.tail _ (List.Mem.tail _ (List.Mem.tail _ (List.Mem.head _)))))) rfl) ?_ | refine OP.load rfl rfl (Sees.own (List.Mem.tail _ (List.Mem.tail _ (List.Mem.tail _ (List.Mem.tail _ (List.Mem.tail _ (List.Mem.tail _ (List.Mem.head _))))))) rfl) ?_ | refine OP.load rfl rfl (Sees.own (List.Mem.tail _ (List.Mem.tail _ (List.Mem.tail _ (List.Mem.tail _ (List.Mem.tail _ (List.Mem.tail _ (List.Mem.tail _ (List.Mem.head _)))))))) rfl) ?_ | refine OP.load rfl rfl (Sees.old0 (by assumption)) ?_ | refine OP.loadA rfl rfl (SeesN.own 2 (List.Mem.head _) rfl) rfl ?_ | refine OP.loadA rfl rfl (SeesN.own 3 (List.Mem.head _) rfl) rfl ?_ | refine OP.loadA rfl rfl (SeesN.own 2 (List.Mem.tail _ (List.Mem.head _)) rfl) rfl ?_ | refine OP.loadA rfl rfl (SeesN.own 3 (List.Mem.tail _ (List.Mem.head _)) rfl) rfl ?_ | refine OP.loadA rfl rfl (SeesN.own 2 (List.Mem.tail _ (List.Mem.tail _ (List.Mem.head _))) rfl) rfl ?_ | refine OP.loadA rfl rfl (SeesN.own 3 (List.Mem.tail _ (List.Mem.tail _ (List.Mem.head _))) rfl) rfl ?_ | refine OP.loadA rfl rfl (SeesN.own 2 (List.Mem.tail _ (List.Mem.tail _ (List.Mem.tail _ (List.Mem.head _)))) rfl) rfl ?_ | refine OP.loadA rfl rfl (SeesN.own 3 (List.Mem.tail _ (List.Mem.tail _ (List.Mem.tail _ (List.Mem.head _)))) rfl) rfl ?_ | refine OP.loadA rfl rfl (SeesN.own 2 (List.Mem.tail _ (List.Mem.tail _ (List.Mem.tail _ (List.Mem.tail _ (List.Mem.head _))))) rfl) rfl ?_ | refine OP.loadA rfl rfl (SeesN.own 3 (List.Mem.tail _ (List.Mem.tail _ (List.Mem.tail _ (List.Mem.tail _ (List.Mem.head _))))) rfl) rfl ?_ | refine OP.loadA rfl rfl (SeesN.own 2 (List.Mem.tail _ (List.Mem.tail _ (List.Mem.tail _ (List.Mem.tail _ (List.Mem.tail _ (List.Mem.head _)))))) rfl) rfl ?_ | refine OP.loadA rfl rfl (SeesN.own 3 (List.Mem.tail _ (List.Mem.tail _ (List.Mem.tail _ (List.Mem.tail _ (List.Mem.tail _ (List.Mem.head _)))))) rfl) rfl ?_ | refine OP.loadA rfl rfl (SeesN.own 2 (List.Mem.tail _ (List.Mem.tail _ (List.Mem.tail _ (List.Mem.tail _ (List.Mem.tail _ (List.Mem.tail _ (List.Mem.head _))))))) rfl) rfl ?_ | refine OP.loadA rfl rfl (SeesN.own 3 (List.Mem.tail _ (List.Mem.tail _ (List.Mem.tail _ (List.Mem.tail _ (List.Mem.tail _ (List.Mem.tail _ (List.Mem.head _))))))) rfl) rfl ?_ | refine OP.loadA rfl rfl (SeesN.own 2 (List.Mem.tail _ (List.Mem.tail _ (List.Mem.tail _ (List.Mem.tail _ (List.Mem.tail _ (List.Mem.tail _ (List.Mem.tail _ (List.Mem.head _)))))))) rfl) rfl ?_ | refine OP.loadA rfl rfl (SeesN.own 3 (List.Mem.tail _ (List.Mem.tail _ (List.Mem.tail _ (List.Mem.tail _ (List.Mem.tail _ (List.Mem.tail _ (List.Mem.tail _ (List.Mem.head _)))))))) rfl) rfl ?_)
    | ((show OP _ _ _ _ _ _ _ ⟨none, .store _ _ _, _, _, _, none⟩ _ _); first | refine OP.store0 (vs := [_]) rfl rfl rfl rfl rfl ?_ | refine OP.store0 (vs := [_, _]) rfl rfl rfl rfl rfl ?_ | refine OP.store0 (vs := [_, _, _]) rfl rfl rfl rfl rfl ?_ | refine OP.store1 (vs := [_]) rfl rfl rfl rfl rfl ?_ | refine OP.store1 (vs := [_, _]) rfl rfl rfl rfl rfl ?_ | refine OP.store1 (vs := [_, _, _]) rfl rfl rfl rfl rfl ?_ | refine OP.store2 (vs := [_]) rfl rfl rfl rfl rfl ?_ | refine OP.store2 (vs := [_, _]) rfl rfl rfl rfl rfl ?_ | refine OP.store2 (vs := [_, _, _]) rfl rfl rfl rfl rfl ?_ | refine OP.store3 (vs := [_]) rfl rfl rfl rfl rfl ?_ | refine OP.store3 (vs := [_, _]) rfl rfl rfl rfl rfl ?_ | refine OP.store3 (vs := [_, _, _]) rfl rfl rfl rfl rfl ?_ | refine OP.store4 (vs := [_]) rfl rfl rfl rfl rfl ?_ | refine OP.store4 (vs := [_, _]) rfl rfl rfl rfl rfl ?_ | refine OP.store4 (vs := [_, _, _]) rfl rfl rfl rfl rfl ?_ | refine OP.store5 (vs := [_]) rfl rfl rfl rfl rfl ?_ | refine OP.store5 (vs := [_, _]) rfl rfl rfl rfl rfl ?_ | refine OP.store5 (vs := [_, _, _]) rfl rfl rfl rfl rfl ?_ | refine OP.store6 (vs := [_]) rfl rfl rfl rfl rfl ?_ | refine OP.store6 (vs := [_, _]) rfl rfl rfl rfl rfl ?_ | refine OP.store6 (vs := [_, _, _]) rfl rfl rfl rfl rfl ?_ | refine OP.store7 (vs := [_]) rfl rfl rfl rfl rfl ?_ | refine OP.store7 (vs := [_, _]) rfl rfl rfl rfl rfl ?_ | refine OP.store7 (vs := [_, _, _]) rfl rfl rfl rfl rfl ?_)
    | ((show OP _ _ _ _ _ _ _ ⟨_, .unOp _ _ _, _, _, _, none⟩ _ _); first | refine OP.notd rfl rfl ?_ | refine OP.not rfl rfl ?_ | (refine OP.neg rfl rfl ?_ ?_ ?_; omega; omega))
    | ((show OP _ _ _ _ _ _ _ ⟨_, .convert _ _ _, _, _, _, none⟩ _ _); first | (refine OP.conv rfl rfl ?_ ?_ ?_; omega; omega))
    | (refine OP.makeMap rfl (fun _ => ?_))
    | (refine OP.box rfl rfl (fun _ => ?_))
    | (refine OP.alloc rfl rfl (fun _ => ?_))
    | (refine OP.build rfl rfl ?_)
    | (refine OP.buildSlice rfl rfl ?_ rfl rfl (fun _ => ?_); (decide))
    | (refine OP.buildSlice0 rfl rfl (fun _ => ?_))
    | (refine OP.makeFunc rfl ?_)
    | (refine OP.field1 rfl rfl rfl ?_))
  all_goals refine Fin.drop (List.nil_sublist _) ?_
  all_goals refine Fin.ret1 (h0 := .inl rfl) rfl rfl ?_
  all_goals refine ⟨?_, rfl⟩
  · rw [chk_no (fun c => h (isDir_parts c).2.2)]; rfl
  · rw [chk_no (fun c => h ⟨(isDir_parts c).1, (isDir_parts c).2.1⟩)]; rfl
  · rename_i h'
    rw [chk_yes (isDir_of (Decidable.not_not.1 h') (Decidable.not_not.1 h).1 (Decidable.not_not.1 h).2)]; rfl

set_option maxHeartbeats 800000 in
theorem rCheck_fn (p q : Int) (h1 : -9223372036854775808 ≤ p) (h2 : p ≤ 9223372036854775807) (h3 : -9223372036854775808 ≤ q) (h4 : q ≤ 9223372036854775807) (w : World) :
    Does Try.prog 40 #[.agg #[.int .i64 p, .int .i64 q]] [] w fun v Γ => v = .int .i64 (chk p q) ∧ Γ = [] := by
  have hi := isDir_iff p q
  refine Does.enter Try.func40 rfl Try.ntmps40 rfl (St.start w) ?_
  repeat' (first
    | (refine Fin.tail ?_)
    | (refine Fin.then_normal ?_)
    | (refine Fin.then_exit ?_)
    | (refine Fin.then_ret ?_)
    | (refine Fin.block_normal ?_)
    | (refine Fin.block_ret ?_)
    | (refine Fin.block_hit ?_)
    | (refine Fin.block_miss rfl ?_)
    | (refine Fin.loop_exit ?_)
    | (refine Fin.loop_ret ?_)
    | (refine WP.seq ?_)
    | (refine WP.regionQ (by kernel_rfl) (by kernel_rfl) ?_)
    | (refine WP.block ?_)
    | (refine WP.region ?_)
    | (refine WP.skip ?_)
    | (refine WP.exit ?_)
    | (refine WP.ret ?_)
    | (refine WP.label ?_)
    | (refine WP.cond_true rfl ?_)
    | (refine WP.cond_false rfl ?_)
    | (refine WP.cond_dec rfl (fun h => ?_) (fun h => ?_) <;> (try (exfalso; omega)))
    | (refine WP.cond_bool rfl (fun h => ?_) (fun h => ?_))
    | (refine WL.nil ?_)
    | (refine WL.cons ?_)
    | ((show OP _ _ _ _ _ _ _ ⟨some _, .move _, _, _, _, none⟩ _ _); first | refine OP.move (v := .int _ _) rfl rfl ?_ | refine OP.move (v := .bool _) rfl rfl ?_ | refine OP.move (v := .complex _ _ _) rfl rfl ?_ | refine OP.move (v := .float _ _) rfl rfl ?_ | refine OP.move (v := .slice _ _ _) rfl rfl ?_ | refine OP.move (v := .pointer _) rfl rfl ?_ | refine OP.move (v := .agg _) rfl rfl ?_ | refine OP.move (v := .tuple _) rfl rfl ?_ | refine OP.move (v := .map _) rfl rfl ?_ | refine OP.move (v := .func _ _ _) rfl rfl ?_ | refine OP.move (v := _) rfl rfl ?_)
    | ((show OP _ _ _ _ _ _ _ ⟨some _, .assign _, _, _, _, none⟩ _ _); first | refine OP.assign (v := .int _ _) rfl rfl ?_ | refine OP.assign (v := .bool _) rfl rfl ?_ | refine OP.assign (v := .complex _ _ _) rfl rfl ?_ | refine OP.assign (v := .float _ _) rfl rfl ?_ | refine OP.assign (v := .slice _ _ _) rfl rfl ?_ | refine OP.assign (v := .pointer _) rfl rfl ?_ | refine OP.assign (v := .agg _) rfl rfl ?_ | refine OP.assign (v := .tuple _) rfl rfl ?_ | refine OP.assign (v := .map _) rfl rfl ?_ | refine OP.assign (v := .func _ _ _) rfl rfl ?_ | refine OP.assign (v := _) rfl rfl ?_)
    | ((show OP _ _ _ _ _ _ _ ⟨_, _, _, _, _, some _⟩ _ _); first | refine OP.guard_yes rfl rfl ?_ | refine OP.guard_no rfl rfl rfl rfl ?_ | refine OP.guard_un rfl rfl rfl ?_ | refine OP.guard_no0 rfl rfl rfl ?_ | (refine OP.guard_dec rfl rfl (fun h => ?_) (fun h => ?_) <;> (try (exfalso; omega))) | refine OP.guard_bool rfl rfl (fun h => ?_) (fun h => ?_))
    | ((show OP _ _ _ _ _ _ _ ⟨some _, .call _, _, _, _, none⟩ _ _); first | refine OP.callq _ rfl (fun w _ => size_fn _ (by omega) (by omega) w) (fun _ _ h => h.1) ?_ | refine OP.callq _ rfl (fun w _ => rdiv_fn _ _ (by omega) (by omega) w) (fun _ _ h => h.1) ?_ | refine OP.len rfl rfl rfl ?_ | refine OP.real rfl rfl ?_ | refine OP.imag rfl rfl ?_ | refine OP.complex rfl rfl rfl ?_ | refine OP.max2 rfl rfl rfl ?_ | refine OP.min2 rfl rfl rfl ?_)
    | ((show OP _ _ _ _ _ _ _ ⟨some _, .binOp _ _ _ _ _, _, _, _, none⟩ _ _); first | (refine OP.add rfl rfl rfl ?_ ?_ ?_; omega; omega) | (refine OP.sub rfl rfl rfl ?_ ?_ ?_; omega; omega) | refine OP.lss rfl rfl rfl ?_ | refine OP.eql rfl rfl rfl ?_ | refine OP.neq rfl rfl rfl ?_ | refine OP.gtr rfl rfl rfl ?_ | refine OP.geq rfl rfl rfl ?_ | refine OP.leq rfl rfl rfl ?_ | refine OP.eql2 rfl rfl rfl ?_ | refine OP.neq2 rfl rfl rfl ?_ | refine OP.neqd rfl rfl rfl ?_ | refine OP.eqd rfl rfl rfl ?_ | refine OP.eqlb rfl rfl rfl ?_ | (refine OP.mul rfl rfl rfl ?_ ?_ ?_; omega; omega) | (refine OP.quoN rfl rfl rfl ?_ ?_ ?_ ?_; omega; omega; omega) | (refine OP.remN rfl rfl rfl ?_ ?_; omega) | (refine OP.quo rfl rfl rfl ?_ ?_ ?_ ?_ ?_; omega; omega; omega; omega) | (refine OP.rem rfl rfl rfl ?_ ?_ ?_; omega; omega))
    | ((show OP _ _ _ _ _ _ _ ⟨some _, .pick _ _ _, _, _, _, none⟩ _ _); first | refine OP.pick_true rfl rfl ?_ | refine OP.pick_false rfl rfl ?_)
    | (refine OP.extract rfl rfl rfl ?_)
    | (refine OP.fieldAddr rfl rfl ?_)
    | ((show OP _ _ _ _ _ _ _ ⟨some _, .load _ _, _, _, _, none⟩ _ _); first | refine OP.load rfl rfl (Sees.own (List.Mem.head _) rfl) ?_ | refine OP.load rfl rfl (Sees.own (List.Mem.tail _ (List.Mem.head _)) rfl) ?_ | refine OP.load rfl rfl (Sees.own (List.Mem.tail _ (List.Mem.tail _ (List.Mem.head _))) rfl) ?_ | refine OP.load rfl rfl (Sees.own (List.Mem.tail _ (List.Mem.tail _ (List.Mem.tail _ (List.Mem.head _)))) rfl) ?_ | refine OP.load rfl rfl (Sees.own (List.Mem.tail _ (List.Mem.tail _ (List.Mem.tail _ (List.Mem.tail _ (List.Mem.head _))))) rfl) ?_ | refine OP.load rfl rfl (Sees.own (List.Mem.tail _ (List.Mem.tail _ (List.Mem.tail _ (List.Mem.tail _ (List.Mem.tail _ (List.Mem.head _)))))) rfl) ?_ | refine OP.load rfl rfl (Sees.own (List.Mem.tail _ (List.Mem.tail _ (List.Mem.tail _ (List.Mem.tail _ (List.Mem.tail _ (List.Mem.tail _ (List.Mem.head _))))))) rfl) ?_ | refine OP.load rfl rfl (Sees.own (List.Mem.tail _ (List.Mem.tail _ (List.Mem.tail _ (List.Mem.tail _ (List.Mem.tail _ (List.Mem.tail _ (List.Mem.tail _ (List.Mem.head _)))))))) rfl) ?_ | refine OP.load rfl rfl (Sees.old0 (by assumption)) ?_ | refine OP.loadA rfl rfl (SeesN.own 2 (List.Mem.head _) rfl) rfl ?_ | refine OP.loadA rfl rfl (SeesN.own 3 (List.Mem.head _) rfl) rfl ?_ | refine OP.loadA rfl rfl (SeesN.own 2 (List.Mem.tail _ (List.Mem.head _)) rfl) rfl ?_ | refine OP.loadA rfl rfl (SeesN.own 3 (List.Mem.tail _ (List.Mem.head _)) rfl) rfl ?_ | refine OP.loadA rfl rfl (SeesN.own 2 (List.Mem.tail _ (List.Mem.tail _ (List.Mem.head _))) rfl) rfl ?_ | refine OP.loadA rfl rfl (SeesN.own 3 (List.Mem.tail _ (List.Mem.tail _ (List.Mem.head _))) rfl) rfl ?_ | refine OP.loadA rfl rfl (SeesN.own 2 (List.Mem.tail _ (List.Mem.tail _ (List.Mem.tail _ (List.Mem.head _)))) rfl) rfl ?_ | refine OP.loadA rfl rfl (SeesN.own 3 (List.Mem.tail _ (List.Mem.tail _ (List.Mem.tail _ (List.Mem.head _)))) rfl) rfl ?_ | refine OP.loadA rfl rfl (SeesN.own 2 (List.Mem.tail _ (List.Mem.tail _ (List.Mem.tail _ (List.Mem.tail _ (List.Mem.head _))))) rfl) rfl ?_ | refine OP.loadA rfl rfl (SeesN.own 3 (List.Mem.tail _ (List.Mem.tail _ (List.Mem.tail _ (List.Mem.tail _ (List.Mem.head _))))) rfl) rfl ?_ | refine OP.loadA rfl rfl (SeesN.own 2 (List.Mem.tail _ (List.Mem.tail _ (List.Mem.tail _ (List.Mem.tail _ (List.Mem.tail _ (List.Mem.head _)))))) rfl) rfl ?_ | refine OP.loadA rfl rfl (SeesN.own 3 (List.Mem.tail _ (List.Mem.tail _ (List.Mem.tail _ (List.Mem.tail _ (List.Mem.tail _ (List.Mem.head _)))))) rfl) rfl ?_ | refine OP.loadA rfl rfl (SeesN.own 2 (List.Mem.tail _ (List.Mem.tail _ (List.Mem.tail _ (List.Mem.tail _ (List.Mem.tail _ (List.Mem.tail _ (List.Mem.head _))))))) rfl) rfl ?_ | refine OP.loadA rfl rfl (SeesN.own 3 (List.Mem.tail _ (List.Mem.tail _ (List.Mem.tail _ (List.Mem.tail _ (List.Mem.tail _ (List.Mem.tail _ (List.Mem.head _))))))) rfl) rfl ?_ | refine OP.loadA rfl rfl (SeesN.own 2 (List.Mem.tail _ (List.Mem.tail _ (List.Mem.tail _ (List.Mem.tail _ (List.Mem.tail _ (List.Mem.tail _ (List.Mem.tail _ (List.Mem.head _)))))))) rfl) rfl ?_ | refine OP.loadA rfl rfl (SeesN.own 3 (List.Mem.tail _ (List.Mem.tail _ (List.Mem.tail _ (List.Mem.tail _ (List.Mem.tail _ (List.Mem.tail _ (List.Mem.tail _ (List.Mem.head _)))))))) rfl) rfl ?_)
    | ((show OP _ _ _ _ _ _ _ ⟨none, .store _ _ _, _, _, _, none⟩ _ _); first | refine OP.store0 (vs := [_]) rfl rfl rfl rfl rfl ?_ | refine OP.store0 (vs := [_, _]) rfl rfl rfl rfl rfl ?_ | refine OP.store0 (vs := [_, _, _]) rfl rfl rfl rfl rfl ?_ | refine OP.store1 (vs := [_]) rfl rfl rfl rfl rfl ?_ | refine OP.store1 (vs := [_, _]) rfl rfl rfl rfl rfl ?_ | refine OP.store1 (vs := [_, _, _]) rfl rfl rfl rfl rfl ?_ | refine OP.store2 (vs := [_]) rfl rfl rfl rfl rfl ?_ | refine OP.store2 (vs := [_, _]) rfl rfl rfl rfl rfl ?_ | refine OP.store2 (vs := [_, _, _]) rfl rfl rfl rfl rfl ?_ | refine OP.store3 (vs := [_]) rfl rfl rfl rfl rfl ?_ | refine OP.store3 (vs := [_, _]) rfl rfl rfl rfl rfl ?_ | refine OP.store3 (vs := [_, _, _]) rfl rfl rfl rfl rfl ?_ | refine OP.store4 (vs := [_]) rfl rfl rfl rfl rfl ?_ | refine OP.store4 (vs := [_, _]) rfl rfl rfl rfl rfl ?_ | refine OP.store4 (vs := [_, _, _]) rfl rfl rfl rfl rfl ?_ | refine OP.store5 (vs := [_]) rfl rfl rfl rfl rfl ?_ | refine OP.store5 (vs := [_, _]) rfl rfl rfl rfl rfl ?_ | refine OP.store5 (vs := [_, _, _]) rfl rfl rfl rfl rfl ?_ | refine OP.store6 (vs := [_]) rfl rfl rfl rfl rfl ?_ | refine OP.store6 (vs := [_, _]) rfl rfl rfl rfl rfl ?_ | refine OP.store6 (vs := [_, _, _]) rfl rfl rfl rfl rfl ?_ | refine OP.store7 (vs := [_]) rfl rfl rfl rfl rfl ?_ | refine OP.store7 (vs := [_, _]) rfl rfl rfl rfl rfl ?_ | refine OP.store7 (vs := [_, _, _]) rfl rfl rfl rfl rfl ?_)
    | ((show OP _ _ _ _ _ _ _ ⟨_, .unOp _ _ _, _, _, _, none⟩ _ _); first | refine OP.notd rfl rfl ?_ | refine OP.not rfl rfl ?_ | (refine OP.neg rfl rfl ?_ ?_ ?_; omega; omega))
    | ((show OP _ _ _ _ _ _ _ ⟨_, .convert _ _ _, _, _, _, none⟩ _ _); first | (refine OP.conv rfl rfl ?_ ?_ ?_; omega; omega))
    | (refine OP.makeMap rfl (fun _ => ?_))
    | (refine OP.box rfl rfl (fun _ => ?_))
    | (refine OP.alloc rfl rfl (fun _ => ?_))
    | (refine OP.build rfl rfl ?_)
    | (refine OP.buildSlice rfl rfl ?_ rfl rfl (fun _ => ?_); (decide))
    | (refine OP.buildSlice0 rfl rfl (fun _ => ?_))
    | (refine OP.makeFunc rfl ?_)
    | (refine OP.field1 rfl rfl rfl ?_))
  all_goals refine Fin.drop (List.nil_sublist _) ?_
  all_goals refine Fin.ret1 (h0 := .inl rfl) rfl rfl ?_
  all_goals refine ⟨?_, rfl⟩
  all_goals first | (rw [chk_no (fun c => by have := hi.1 c; omega)]; rfl) | (rw [chk_yes (hi.2 (by omega))]; rfl)

theorem mul_bd {a b : Int} (h1 : -16 ≤ a) (h2 : a ≤ 16) (h3 : -16 ≤ b) (h4 : b ≤ 16) : -256 ≤ a * b ∧ a * b ≤ 256 := by
  have : (a * b).natAbs ≤ 256 := by rw [Int.natAbs_mul]; exact Nat.mul_le_mul (show a.natAbs ≤ 16 by omega) (show b.natAbs ≤ 16 by omega)
  omega


/-- The direction across. -/
def acr (p q : Int) : Int × Int × Int := if isDir p q = true then nrm (-q) p else (0, 0, 60)
end Go.Proofs.Ytghmkheoopakaaa
