/- Layer 1 at natural numbers: math.Abs, Floor, Signbit; cx.Whole. -/
import Derived.Test.YtghmkheoopakaaaFacts
import Derived.Test.YtghmkheoopakaaaPenI
set_option linter.unusedVariables false
set_option maxRecDepth 100000
namespace Go.Proofs.Ytghmkheoopakaaa
open Go.Pen Go.Flt

theorem bits_frombits (x : Nat) (w : World) : (callFunc 43 #[.int .u64 x]).run Try.prog w = .ok (.value (.float .f64 x)) w := by kernel_rfl
theorem bits_bits (x : Nat) (w : World) : (callFunc 44 #[.float .f64 x]).run Try.prog w = .ok (.value (.int .u64 x)) w := by kernel_rfl
theorem and_low {x : Nat} (h : x < 9223372036854775808) : x &&& 9223372036854775807 = x :=
  (Nat.and_two_pow_sub_one_eq_mod x 63).trans (Nat.mod_eq_of_lt h)
theorem bits_abs {x : Nat} (h : x < 9223372036854775808) : bits .andNot .u64 (x : Int) 9223372036854775808 = (x : Int) :=
  (u64_andNot_nat x 9223372036854775808 (Nat.lt_trans h (by decide)) (by decide)).trans (congrArg Nat.cast (and_low h))

set_option maxHeartbeats 1000000 in
theorem Abs_fn (x : Nat) (h : x < 9223372036854775808) (w : World) : Does Try.prog 35 #[.float .f64 x] [] w fun r Γ => r = .float .f64 x ∧ Γ = [] := by
  refine Does.enter Try.func35 rfl Try.ntmps35 rfl (St.start w) ?_
  repeat' (first
    | (refine Fin.tail ?_)
    | (refine Fin.then_normal ?_)
    | (refine Fin.then_exit ?_)
    | (refine Fin.then_ret ?_)
    | (refine Fin.block_normal ?_)
    | (refine Fin.block_ret ?_)
    | (refine Fin.block_hit ?_)
    | (refine Fin.block_miss rfl ?_)
    | (refine Fin.loop_exit ?_)
    | (refine Fin.loop_ret ?_)
    | (refine WP.seq ?_)
    | (refine WP.regionQ (by kernel_rfl) (by kernel_rfl) ?_)
    | (refine WP.block ?_)
    | (refine WP.region ?_)
    | (refine WP.skip ?_)
    | (refine WP.exit ?_)
    | (refine WP.ret ?_)
    | (refine WP.label ?_)
    | (refine WP.cond_true rfl ?_)
    | (refine WP.cond_false rfl ?_)
    | (refine WP.cond_dec rfl (fun h => ?_) (fun h => ?_) <;> (try (exfalso; omega)))
    | (refine WP.cond_bool rfl (fun h => ?_) (fun h => ?_))
    | (refine WL.nil ?_)
    | (refine WL.cons ?_)
    | ((show OP _ _ _ _ _ _ _ ⟨some _, .move _, _, _, _, none⟩ _ _); first | refine OP.move (v := .int _ _) rfl rfl ?_ | refine OP.move (v := .bool _) rfl rfl ?_ | refine OP.move (v := .complex _ _ _) rfl rfl ?_ | refine OP.move (v := .float _ _) rfl rfl ?_ | refine OP.move (v := .slice _ _ _) rfl rfl ?_ | refine OP.move (v := .pointer _) rfl rfl ?_ | refine OP.move (v := .agg _) rfl rfl ?_ | refine OP.move (v := .tuple _) rfl rfl ?_ | refine OP.move (v := .map _) rfl rfl ?_ | refine OP.move (v := .func _ _ _) rfl rfl ?_ | refine OP.move (v := _) rfl rfl ?_)
    | ((show OP _ _ _ _ _ _ _ ⟨some _, .assign _, _, _, _, none⟩ _ _); first | refine OP.assign (v := .int _ _) rfl rfl ?_ | refine OP.assign (v := .bool _) rfl rfl ?_ | refine OP.assign (v := .complex _ _ _) rfl rfl ?_ | refine OP.assign (v := .float _ _) rfl rfl ?_ | refine OP.assign (v := .slice _ _ _) rfl rfl ?_ | refine OP.assign (v := .pointer _) rfl rfl ?_ | refine OP.assign (v := .agg _) rfl rfl ?_ | refine OP.assign (v := .tuple _) rfl rfl ?_ | refine OP.assign (v := .map _) rfl rfl ?_ | refine OP.assign (v := .func _ _ _) rfl rfl ?_ | refine OP.assign (v := _) rfl rfl ?_)
    | ((show OP _ _ _ _ _ _ _ ⟨_, _, _, _, _, some _⟩ _ _); first | refine OP.guard_yes rfl rfl ?_ | refine OP.guard_no rfl rfl rfl rfl ?_ | refine OP.guard_un rfl rfl rfl ?_ | refine OP.guard_no0 rfl rfl rfl ?_ | (refine OP.guard_dec rfl rfl (fun h => ?_) (fun h => ?_) <;> (try (exfalso; omega))) | refine OP.guard_bool rfl rfl (fun h => ?_) (fun h => ?_))
    | ((show OP _ _ _ _ _ _ _ ⟨some _, .call _, _, _, _, none⟩ _ _); first | refine OP.callx (f := 44) (.int .u64 x) rfl rfl (fun w => by exact bits_bits x w) ?_ | refine OP.callx (f := 43) (.float .f64 x) rfl rfl (fun w => by exact bits_frombits x w) ?_ | refine OP.len rfl rfl rfl ?_ | refine OP.real rfl rfl ?_ | refine OP.imag rfl rfl ?_ | refine OP.complex rfl rfl rfl ?_ | refine OP.max2 rfl rfl rfl ?_ | refine OP.min2 rfl rfl rfl ?_)
    | ((show OP _ _ _ _ _ _ _ ⟨some _, .binOp _ _ _ _ _, _, _, _, none⟩ _ _); first | refine OP.bitop (r := x) (by simp) rfl rfl rfl (bits_abs h) ?_ | (refine OP.add rfl rfl rfl ?_ ?_ ?_; omega; omega) | (refine OP.sub rfl rfl rfl ?_ ?_ ?_; omega; omega) | refine OP.lss rfl rfl rfl ?_ | refine OP.eql rfl rfl rfl ?_ | refine OP.neq rfl rfl rfl ?_ | refine OP.gtr rfl rfl rfl ?_ | refine OP.geq rfl rfl rfl ?_ | refine OP.leq rfl rfl rfl ?_ | refine OP.eql2 rfl rfl rfl ?_ | refine OP.neq2 rfl rfl rfl ?_ | refine OP.neqd rfl rfl rfl ?_ | refine OP.eqd rfl rfl rfl ?_ | refine OP.eqlb rfl rfl rfl ?_ | (refine OP.mul rfl rfl rfl ?_ ?_ ?_; omega; omega) | (refine OP.quoN rfl rfl rfl ?_ ?_ ?_ ?_; omega; omega; omega) | (refine OP.remN rfl rfl rfl ?_ ?_; omega) | (refine OP.quo rfl rfl rfl ?_ ?_ ?_ ?_ ?_; omega; omega; omega; omega) | (refine OP.rem rfl rfl rfl ?_ ?_ ?_; omega; omega))
    | ((show OP _ _ _ _ _ _ _ ⟨some _, .pick _ _ _, _, _, _, none⟩ _ _); first | refine OP.pick_true rfl rfl ?_ | refine OP.pick_false rfl rfl ?_)
    | (refine OP.extract rfl rfl rfl ?_)
    | (refine OP.fieldAddr rfl rfl ?_)
    | ((show OP _ _ _ _ _ _ _ ⟨some _, .load _ _, _, _, _, none⟩ _ _); first | refine OP.load rfl rfl (Sees.own (List.Mem.head _) rfl) ?_ | refine OP.load rfl rfl (Sees.own (List.Mem.tail _ (List.Mem.head _)) rfl) ?_ | refine OP.load rfl rfl (Sees.own (List.Mem.tail _ (List.Mem.tail _ (List.Mem.head _))) rfl) ?_ | refine OP.load rfl rfl (Sees.own (List.Mem.tail _ (List.Mem.tail _ (List.Mem.tail _ (List.Mem.head _)))) rfl) ?_ | refine OP.load rfl rfl (Sees.own (List.Mem.tail _ (List.Mem.tail _ (List.Mem.tail _ (List.Mem.tail _ (List.Mem.head _))))) rfl) ?_ | refine OP.load rfl rfl (Sees.own (List.Mem.tail _ (List.Mem.tail _ (List.Mem.tail _ (List.Mem.tail _ (List.Mem.tail _ (List.Mem.head _)))))) rfl) ?_ | refine OP.load rfl rfl (Sees.own (List.Mem.tail _ (List.Mem.tail _ (List.Mem.tail _ (List.Mem.tail _ (List.Mem.tail _ (List.Mem.tail _ (List.Mem.head _))))))) rfl) ?_ | refine OP.load rfl rfl (Sees.own (List.Mem.tail _ (List.Mem.tail _ (List.Mem.tail _ (List.Mem.tail _ (List.Mem.tail _ (List.Mem.tail _ (List.Mem.tail _ (List.Mem.head _)))))))) rfl) ?_ | refine OP.load rfl rfl (Sees.old0 (by assumption)) ?_ | refine OP.loadA rfl rfl (SeesN.own 2 (List.Mem.head _) rfl) rfl ?_ | refine OP.loadA rfl rfl (SeesN.own 3 (List.Mem.head _) rfl) rfl ?_ | refine OP.loadA rfl rfl (SeesN.own 2 (List.Mem.tail _ (List.Mem.head _)) rfl) rfl ?_ | refine OP.loadA rfl rfl (SeesN.own 3 (List.Mem.tail _ (List.Mem.head _)) rfl) rfl ?_ | refine OP.loadA rfl rfl (SeesN.own 2 (List.Mem.tail _ (List.Mem.tail _ (List.Mem.head _))) rfl) rfl ?_ | refine OP.loadA rfl rfl (SeesN.own 3 (List.Mem.tail _ (List.Mem.tail _ (List.Mem.head _))) rfl) rfl ?_ | refine OP.loadA rfl rfl (SeesN.own 2 (List.Mem.tail _ (List.Mem.tail _ (List.Mem.tail _ (List.Mem.head _)))) rfl) rfl ?_ | refine OP.loadA rfl rfl (SeesN.own 3 (List.Mem.tail _ (List.Mem.tail _ (List.Mem.tail _ (List.Mem.head _)))) rfl) rfl ?_ | refine OP.loadA rfl rfl (SeesN.own 2 (List.Mem.tail _ (List.Mem.tail _ (List.Mem.tail _ (List.Mem.tail _ (List.Mem.head _))))) rfl) rfl ?_ | refine OP.loadA rfl rfl (SeesN.own 3 (List.Mem.tail _ (List.Mem.tail _ (List.Mem.tail _ (List.Mem.tail _ (List.Mem.head _))))) rfl) rfl ?_ | refine OP.loadA rfl rfl (SeesN.own 2 (List.Mem.tail _ (List.Mem.tail _ (List.Mem.tail _ (List.Mem.tail _ (List.Mem.tail _ (List.Mem.head _)))))) rfl) rfl ?_ | refine OP.loadA rfl rfl (SeesN.own 3 (List.Mem.tail _ (List.Mem.tail _ (List.Mem.tail _ (List.Mem.tail _ (List.Mem.tail _ (List.Mem.head _)))))) rfl) rfl ?_ | refine OP.loadA rfl rfl (SeesN.own 2 (List.Mem.tail _ (List.Mem.tail _ (List.Mem.tail _ (List.Mem.tail _ (List.Mem.tail _ (List.Mem.tail _ (List.Mem.head _))))))) rfl) rfl ?_ | refine OP.loadA rfl rfl (SeesN.own 3 (List.Mem.tail _ (List.Mem.tail _ (List.Mem.tail _ (List.Mem.tail _ (List.Mem.tail _ (List.Mem.tail _ (List.Mem.head _))))))) rfl) rfl ?_ | refine OP.loadA rfl rfl (SeesN.own 2 (List.Mem.tail _ (List.Mem.tail _ (List.Mem.tail _ (List.Mem.tail _ (List.Mem.tail _ (List.Mem.tail _ (List.Mem.tail _ (List.Mem.head _)))))))) rfl) rfl ?_ | refine OP.loadA rfl rfl (SeesN.own 3 (List.Mem.tail _ (List.Mem.tail _ (List.Mem.tail _ (List.Mem.tail _ (List.Mem.tail _ (List.Mem.tail _ (List.Mem.tail _ (List.Mem.head _)))))))) rfl) rfl ?_)
    | ((show OP _ _ _ _ _ _ _ ⟨none, .store _ _ _, _, _, _, none⟩ _ _); first | refine OP.store0 (vs := [_]) rfl rfl rfl rfl rfl ?_ | refine OP.store0 (vs := [_, _]) rfl rfl rfl rfl rfl ?_ | refine OP.store0 (vs := [_, _, _]) rfl rfl rfl rfl rfl ?_ | refine OP.store1 (vs := [_]) rfl rfl rfl rfl rfl ?_ | refine OP.store1 (vs := [_, _]) rfl rfl rfl rfl rfl ?_ | refine OP.store1 (vs := [_, _, _]) rfl rfl rfl rfl rfl ?_ | refine OP.store2 (vs := [_]) rfl rfl rfl rfl rfl ?_ | refine OP.store2 (vs := [_, _]) rfl rfl rfl rfl rfl ?_ | refine OP.store2 (vs := [_, _, _]) rfl rfl rfl rfl rfl ?_ | refine OP.store3 (vs := [_]) rfl rfl rfl rfl rfl ?_ | refine OP.store3 (vs := [_, _]) rfl rfl rfl rfl rfl ?_ | refine OP.store3 (vs := [_, _, _]) rfl rfl rfl rfl rfl ?_ | refine OP.store4 (vs := [_]) rfl rfl rfl rfl rfl ?_ | refine OP.store4 (vs := [_, _]) rfl rfl rfl rfl rfl ?_ | refine OP.store4 (vs := [_, _, _]) rfl rfl rfl rfl rfl ?_ | refine OP.store5 (vs := [_]) rfl rfl rfl rfl rfl ?_ | refine OP.store5 (vs := [_, _]) rfl rfl rfl rfl rfl ?_ | refine OP.store5 (vs := [_, _, _]) rfl rfl rfl rfl rfl ?_ | refine OP.store6 (vs := [_]) rfl rfl rfl rfl rfl ?_ | refine OP.store6 (vs := [_, _]) rfl rfl rfl rfl rfl ?_ | refine OP.store6 (vs := [_, _, _]) rfl rfl rfl rfl rfl ?_ | refine OP.store7 (vs := [_]) rfl rfl rfl rfl rfl ?_ | refine OP.store7 (vs := [_, _]) rfl rfl rfl rfl rfl ?_ | refine OP.store7 (vs := [_, _, _]) rfl rfl rfl rfl rfl ?_)
    | ((show OP _ _ _ _ _ _ _ ⟨_, .unOp _ _ _, _, _, _, none⟩ _ _); first | refine OP.notd rfl rfl ?_ | refine OP.not rfl rfl ?_ | (refine OP.neg rfl rfl ?_ ?_ ?_; omega; omega))
    | ((show OP _ _ _ _ _ _ _ ⟨_, .convert _ _ _, _, _, _, none⟩ _ _); first | (refine OP.conv rfl rfl ?_ ?_ ?_; omega; omega))
    | (refine OP.makeMap rfl (fun _ => ?_))
    | (refine OP.box rfl rfl (fun _ => ?_))
    | (refine OP.alloc rfl rfl (fun _ => ?_))
    | (refine OP.build rfl rfl ?_)
    | (refine OP.buildSlice rfl rfl ?_ rfl rfl (fun _ => ?_); (decide))
    | (refine OP.buildSlice0 rfl rfl (fun _ => ?_))
    | (refine OP.makeFunc rfl ?_)
    | (refine OP.field1 rfl rfl rfl ?_))
  all_goals refine Fin.ret1 (h0 := .inl rfl) rfl rfl ?_
  exact ⟨rfl, rfl⟩

theorem arch_floor {v : Nat} (h : v < 9007199254740992) (w : World) : (callFunc 45 #[.float .f64 (fl v)]).run Try.prog w = .ok (.value (.float .f64 (fl v))) w := by
  rw [run_callFunc_extern (e := Go.Extern.MathFloor.toIntegral "math.archFloor" .down) Try.func45 (by kernel_rfl) rfl (by kernel_rfl) (by kernel_rfl)]
  by_cases h0 : v = 0
  · subst h0; rw [fl_zero, whole_run "math.archFloor" .down read_zero]; rfl
  · rw [whole_run "math.archFloor" .down (fl_read h0 h), floor_nat h]; rfl

set_option maxHeartbeats 1000000 in
theorem Floor_fn {v : Nat} (h : v < 9007199254740992) (w : World) : Does Try.prog 36 #[.float .f64 (fl v)] [] w fun r Γ => r = .float .f64 (fl v) ∧ Γ = [] := by
  refine Does.enter Try.func36 rfl Try.ntmps36 rfl (St.start w) ?_
  repeat' (first
    | (refine Fin.tail ?_)
    | (refine Fin.then_normal ?_)
    | (refine Fin.then_exit ?_)
    | (refine Fin.then_ret ?_)
    | (refine Fin.block_normal ?_)
    | (refine Fin.block_ret ?_)
    | (refine Fin.block_hit ?_)
    | (refine Fin.block_miss rfl ?_)
    | (refine Fin.loop_exit ?_)
    | (refine Fin.loop_ret ?_)
    | (refine WP.seq ?_)
    | (refine WP.regionQ (by kernel_rfl) (by kernel_rfl) ?_)
    | (refine WP.block ?_)
    | (refine WP.region ?_)
    | (refine WP.skip ?_)
    | (refine WP.exit ?_)
    | (refine WP.ret ?_)
    | (refine WP.label ?_)
    | (refine WP.cond_true rfl ?_)
    | (refine WP.cond_false rfl ?_)
    | (refine WP.cond_dec rfl (fun h => ?_) (fun h => ?_) <;> (try (exfalso; omega)))
    | (refine WP.cond_bool rfl (fun h => ?_) (fun h => ?_))
    | (refine WL.nil ?_)
    | (refine WL.cons ?_)
    | ((show OP _ _ _ _ _ _ _ ⟨some _, .move _, _, _, _, none⟩ _ _); first | refine OP.move (v := .int _ _) rfl rfl ?_ | refine OP.move (v := .bool _) rfl rfl ?_ | refine OP.move (v := .complex _ _ _) rfl rfl ?_ | refine OP.move (v := .float _ _) rfl rfl ?_ | refine OP.move (v := .slice _ _ _) rfl rfl ?_ | refine OP.move (v := .pointer _) rfl rfl ?_ | refine OP.move (v := .agg _) rfl rfl ?_ | refine OP.move (v := .tuple _) rfl rfl ?_ | refine OP.move (v := .map _) rfl rfl ?_ | refine OP.move (v := .func _ _ _) rfl rfl ?_ | refine OP.move (v := _) rfl rfl ?_)
    | ((show OP _ _ _ _ _ _ _ ⟨some _, .assign _, _, _, _, none⟩ _ _); first | refine OP.assign (v := .int _ _) rfl rfl ?_ | refine OP.assign (v := .bool _) rfl rfl ?_ | refine OP.assign (v := .complex _ _ _) rfl rfl ?_ | refine OP.assign (v := .float _ _) rfl rfl ?_ | refine OP.assign (v := .slice _ _ _) rfl rfl ?_ | refine OP.assign (v := .pointer _) rfl rfl ?_ | refine OP.assign (v := .agg _) rfl rfl ?_ | refine OP.assign (v := .tuple _) rfl rfl ?_ | refine OP.assign (v := .map _) rfl rfl ?_ | refine OP.assign (v := .func _ _ _) rfl rfl ?_ | refine OP.assign (v := _) rfl rfl ?_)
    | ((show OP _ _ _ _ _ _ _ ⟨_, _, _, _, _, some _⟩ _ _); first | refine OP.guard_yes rfl rfl ?_ | refine OP.guard_no rfl rfl rfl rfl ?_ | refine OP.guard_un rfl rfl rfl ?_ | refine OP.guard_no0 rfl rfl rfl ?_ | (refine OP.guard_dec rfl rfl (fun h => ?_) (fun h => ?_) <;> (try (exfalso; omega))) | refine OP.guard_bool rfl rfl (fun h => ?_) (fun h => ?_))
    | ((show OP _ _ _ _ _ _ _ ⟨some _, .call _, _, _, _, none⟩ _ _); first | refine OP.callx (f := 45) (.float .f64 (fl v)) rfl rfl (fun w => by exact arch_floor h w) ?_ | refine OP.len rfl rfl rfl ?_ | refine OP.real rfl rfl ?_ | refine OP.imag rfl rfl ?_ | refine OP.complex rfl rfl rfl ?_ | refine OP.max2 rfl rfl rfl ?_ | refine OP.min2 rfl rfl rfl ?_)
    | ((show OP _ _ _ _ _ _ _ ⟨some _, .binOp _ _ _ _ _, _, _, _, none⟩ _ _); first | (refine OP.add rfl rfl rfl ?_ ?_ ?_; omega; omega) | (refine OP.sub rfl rfl rfl ?_ ?_ ?_; omega; omega) | refine OP.lss rfl rfl rfl ?_ | refine OP.eql rfl rfl rfl ?_ | refine OP.neq rfl rfl rfl ?_ | refine OP.gtr rfl rfl rfl ?_ | refine OP.geq rfl rfl rfl ?_ | refine OP.leq rfl rfl rfl ?_ | refine OP.eql2 rfl rfl rfl ?_ | refine OP.neq2 rfl rfl rfl ?_ | refine OP.neqd rfl rfl rfl ?_ | refine OP.eqd rfl rfl rfl ?_ | refine OP.eqlb rfl rfl rfl ?_ | (refine OP.mul rfl rfl rfl ?_ ?_ ?_; omega; omega) | (refine OP.quoN rfl rfl rfl ?_ ?_ ?_ ?_; omega; omega; omega) | (refine OP.remN rfl rfl rfl ?_ ?_; omega) | (refine OP.quo rfl rfl rfl ?_ ?_ ?_ ?_ ?_; omega; omega; omega; omega) | (refine OP.rem rfl rfl rfl ?_ ?_ ?_; omega; omega))
    | ((show OP _ _ _ _ _ _ _ ⟨some _, .pick _ _ _, _, _, _, none⟩ _ _); first | refine OP.pick_true rfl rfl ?_ | refine OP.pick_false rfl rfl ?_)
    | (refine OP.extract rfl rfl rfl ?_)
    | (refine OP.fieldAddr rfl rfl ?_)
    | ((show OP _ _ _ _ _ _ _ ⟨some _, .load _ _, _, _, _, none⟩ _ _); first | refine OP.load rfl rfl (Sees.own (List.Mem.head _) rfl) ?_ | refine OP.load rfl rfl (Sees.own (List.Mem.tail _ (List.Mem.head _)) rfl) ?_ | refine OP.load rfl rfl (Sees.own (List.Mem.tail _ (List.Mem.tail _ (List.Mem.head _))) rfl) ?_ | refine OP.load rfl rfl (Sees.own (List.Mem.tail _ (List.Mem.tail _ (List.Mem.tail _ (List.Mem.head _)))) rfl) ?_ | refine OP.load rfl rfl (Sees.own (List.Mem.tail _ (List.Mem.tail _ (List.Mem.tail _ (List.Mem.tail _ (List.Mem.head _))))) rfl) ?_ | refine OP.load rfl rfl (Sees.own (List.Mem.tail _ (List.Mem.tail _ (List.Mem.tail _ (List.Mem.tail _ (List.Mem.tail _ (List.Mem.head _)))))) rfl) ?_ | refine OP.load rfl rfl (Sees.own (List.Mem.tail _ (List.Mem.tail _ (List.Mem.tail _ (List.Mem.tail _ (List.Mem.tail _ (List.Mem.tail _ (List.Mem.head _))))))) rfl) ?_ | refine OP.load rfl rfl (Sees.own (List.Mem.tail _ (List.Mem.tail _ (List.Mem.tail _ (List.Mem.tail _ (List.Mem.tail _ (List.Mem.tail _ (List.Mem.tail _ (List.Mem.head _)))))))) rfl) ?_ | refine OP.load rfl rfl (Sees.old0 (by assumption)) ?_ | refine OP.loadA rfl rfl (SeesN.own 2 (List.Mem.head _) rfl) rfl ?_ | refine OP.loadA rfl rfl (SeesN.own 3 (List.Mem.head _) rfl) rfl ?_ | refine OP.loadA rfl rfl (SeesN.own 2 (List.Mem.tail _ (List.Mem.head _)) rfl) rfl ?_ | refine OP.loadA rfl rfl (SeesN.own 3 (List.Mem.tail _ (List.Mem.head _)) rfl) rfl ?_ | refine OP.loadA rfl rfl (SeesN.own 2 (List.Mem.tail _ (List.Mem.tail _ (List.Mem.head _))) rfl) rfl ?_ | refine OP.loadA rfl rfl (SeesN.own 3 (List.Mem.tail _ (List.Mem.tail _ (List.Mem.head _))) rfl) rfl ?_ | refine OP.loadA rfl rfl (SeesN.own 2 (List.Mem.tail _ (List.Mem.tail _ (List.Mem.tail _ (List.Mem.head _)))) rfl) rfl ?_ | refine OP.loadA rfl rfl (SeesN.own 3 (List.Mem.tail _ (List.Mem.tail _ (List.Mem.tail _ (List.Mem.head _)))) rfl) rfl ?_ | refine OP.loadA rfl rfl (SeesN.own 2 (List.Mem.tail _ (List.Mem.tail _ (List.Mem.tail _ (List.Mem.tail _ (List.Mem.head _))))) rfl) rfl ?_ | refine OP.loadA rfl rfl (SeesN.own 3 (List.Mem.tail _ (List.Mem.tail _ (List.Mem.tail _ (List.Mem.tail _ (List.Mem.head _))))) rfl) rfl ?_ | refine OP.loadA rfl rfl (SeesN.own 2 (List.Mem.tail _ (List.Mem.tail _ (List.Mem.tail _ (List.Mem.tail _ (List.Mem.tail _ (List.Mem.head _)))))) rfl) rfl ?_ | refine OP.loadA rfl rfl (SeesN.own 3 (List.Mem.tail _ (List.Mem.tail _ (List.Mem.tail _ (List.Mem.tail _ (List.Mem.tail _ (List.Mem.head _)))))) rfl) rfl ?_ | refine OP.loadA rfl rfl (SeesN.own 2 (List.Mem.tail _ (List.Mem.tail _ (List.Mem.tail _ (List.Mem.tail _ (List.Mem.tail _ (List.Mem.tail _ (List.Mem.head _))))))) rfl) rfl ?_ | refine OP.loadA rfl rfl (SeesN.own 3 (List.Mem.tail _ (List.Mem.tail _ (List.Mem.tail _ (List.Mem.tail _ (List.Mem.tail _ (List.Mem.tail _ (List.Mem.head _))))))) rfl) rfl ?_ | refine OP.loadA rfl rfl (SeesN.own 2 (List.Mem.tail _ (List.Mem.tail _ (List.Mem.tail _ (List.Mem.tail _ (List.Mem.tail _ (List.Mem.tail _ (List.Mem.tail _ (List.Mem.head _)))))))) rfl) rfl ?_ | refine OP.loadA rfl rfl (SeesN.own 3 (List.Mem.tail _ (List.Mem.tail _ (List.Mem.tail _ (List.Mem.tail _ (List.Mem.tail _ (List.Mem.tail _ (List.Mem.tail _ (List.Mem.head _)))))))) rfl) rfl ?_)
    | ((show OP _ _ _ _ _ _ _ ⟨none, .store _ _ _, _, _, _, none⟩ _ _); first | refine OP.store0 (vs := [_]) rfl rfl rfl rfl rfl ?_ | refine OP.store0 (vs := [_, _]) rfl rfl rfl rfl rfl ?_ | refine OP.store0 (vs := [_, _, _]) rfl rfl rfl rfl rfl ?_ | refine OP.store1 (vs := [_]) rfl rfl rfl rfl rfl ?_ | refine OP.store1 (vs := [_, _]) rfl rfl rfl rfl rfl ?_ | refine OP.store1 (vs := [_, _, _]) rfl rfl rfl rfl rfl ?_ | refine OP.store2 (vs := [_]) rfl rfl rfl rfl rfl ?_ | refine OP.store2 (vs := [_, _]) rfl rfl rfl rfl rfl ?_ | refine OP.store2 (vs := [_, _, _]) rfl rfl rfl rfl rfl ?_ | refine OP.store3 (vs := [_]) rfl rfl rfl rfl rfl ?_ | refine OP.store3 (vs := [_, _]) rfl rfl rfl rfl rfl ?_ | refine OP.store3 (vs := [_, _, _]) rfl rfl rfl rfl rfl ?_ | refine OP.store4 (vs := [_]) rfl rfl rfl rfl rfl ?_ | refine OP.store4 (vs := [_, _]) rfl rfl rfl rfl rfl ?_ | refine OP.store4 (vs := [_, _, _]) rfl rfl rfl rfl rfl ?_ | refine OP.store5 (vs := [_]) rfl rfl rfl rfl rfl ?_ | refine OP.store5 (vs := [_, _]) rfl rfl rfl rfl rfl ?_ | refine OP.store5 (vs := [_, _, _]) rfl rfl rfl rfl rfl ?_ | refine OP.store6 (vs := [_]) rfl rfl rfl rfl rfl ?_ | refine OP.store6 (vs := [_, _]) rfl rfl rfl rfl rfl ?_ | refine OP.store6 (vs := [_, _, _]) rfl rfl rfl rfl rfl ?_ | refine OP.store7 (vs := [_]) rfl rfl rfl rfl rfl ?_ | refine OP.store7 (vs := [_, _]) rfl rfl rfl rfl rfl ?_ | refine OP.store7 (vs := [_, _, _]) rfl rfl rfl rfl rfl ?_)
    | ((show OP _ _ _ _ _ _ _ ⟨_, .unOp _ _ _, _, _, _, none⟩ _ _); first | refine OP.notd rfl rfl ?_ | refine OP.not rfl rfl ?_ | (refine OP.neg rfl rfl ?_ ?_ ?_; omega; omega))
    | ((show OP _ _ _ _ _ _ _ ⟨_, .convert _ _ _, _, _, _, none⟩ _ _); first | (refine OP.conv rfl rfl ?_ ?_ ?_; omega; omega))
    | (refine OP.makeMap rfl (fun _ => ?_))
    | (refine OP.box rfl rfl (fun _ => ?_))
    | (refine OP.alloc rfl rfl (fun _ => ?_))
    | (refine OP.build rfl rfl ?_)
    | (refine OP.buildSlice rfl rfl ?_ rfl rfl (fun _ => ?_); (decide))
    | (refine OP.buildSlice0 rfl rfl (fun _ => ?_))
    | (refine OP.makeFunc rfl ?_)
    | (refine OP.field1 rfl rfl rfl ?_))
  all_goals refine Fin.ret1 (h0 := .inl rfl) rfl rfl ?_
  exact ⟨rfl, rfl⟩

set_option maxHeartbeats 1000000 in
theorem Signbit_fn (x : Nat) (h : x < 9223372036854775808) (w : World) : Does Try.prog 37 #[.float .f64 x] [] w fun r Γ => r = .bool false ∧ Γ = [] := by
  have e : IntKind.i64.wrap (x : Int) = x := by simp [IntKind.wrap, IntKind.signed, IntKind.bits]; omega
  refine Does.enter Try.func37 rfl Try.ntmps37 rfl (St.start w) ?_
  repeat' (first
    | (refine Fin.tail ?_)
    | (refine Fin.then_normal ?_)
    | (refine Fin.then_exit ?_)
    | (refine Fin.then_ret ?_)
    | (refine Fin.block_normal ?_)
    | (refine Fin.block_ret ?_)
    | (refine Fin.block_hit ?_)
    | (refine Fin.block_miss rfl ?_)
    | (refine Fin.loop_exit ?_)
    | (refine Fin.loop_ret ?_)
    | (refine WP.seq ?_)
    | (refine WP.regionQ (by kernel_rfl) (by kernel_rfl) ?_)
    | (refine WP.block ?_)
    | (refine WP.region ?_)
    | (refine WP.skip ?_)
    | (refine WP.exit ?_)
    | (refine WP.ret ?_)
    | (refine WP.label ?_)
    | (refine WP.cond_true rfl ?_)
    | (refine WP.cond_false rfl ?_)
    | (refine WP.cond_dec rfl (fun h => ?_) (fun h => ?_) <;> (try (exfalso; omega)))
    | (refine WP.cond_bool rfl (fun h => ?_) (fun h => ?_))
    | (refine WL.nil ?_)
    | (refine WL.cons ?_)
    | ((show OP _ _ _ _ _ _ _ ⟨some _, .move _, _, _, _, none⟩ _ _); first | refine OP.move (v := .int _ _) rfl rfl ?_ | refine OP.move (v := .bool _) rfl rfl ?_ | refine OP.move (v := .complex _ _ _) rfl rfl ?_ | refine OP.move (v := .float _ _) rfl rfl ?_ | refine OP.move (v := .slice _ _ _) rfl rfl ?_ | refine OP.move (v := .pointer _) rfl rfl ?_ | refine OP.move (v := .agg _) rfl rfl ?_ | refine OP.move (v := .tuple _) rfl rfl ?_ | refine OP.move (v := .map _) rfl rfl ?_ | refine OP.move (v := .func _ _ _) rfl rfl ?_ | refine OP.move (v := _) rfl rfl ?_)
    | ((show OP _ _ _ _ _ _ _ ⟨some _, .assign _, _, _, _, none⟩ _ _); first | refine OP.assign (v := .int _ _) rfl rfl ?_ | refine OP.assign (v := .bool _) rfl rfl ?_ | refine OP.assign (v := .complex _ _ _) rfl rfl ?_ | refine OP.assign (v := .float _ _) rfl rfl ?_ | refine OP.assign (v := .slice _ _ _) rfl rfl ?_ | refine OP.assign (v := .pointer _) rfl rfl ?_ | refine OP.assign (v := .agg _) rfl rfl ?_ | refine OP.assign (v := .tuple _) rfl rfl ?_ | refine OP.assign (v := .map _) rfl rfl ?_ | refine OP.assign (v := .func _ _ _) rfl rfl ?_ | refine OP.assign (v := _) rfl rfl ?_)
    | ((show OP _ _ _ _ _ _ _ ⟨_, _, _, _, _, some _⟩ _ _); first | refine OP.guard_yes rfl rfl ?_ | refine OP.guard_no rfl rfl rfl rfl ?_ | refine OP.guard_un rfl rfl rfl ?_ | refine OP.guard_no0 rfl rfl rfl ?_ | (refine OP.guard_dec rfl rfl (fun h => ?_) (fun h => ?_) <;> (try (exfalso; omega))) | refine OP.guard_bool rfl rfl (fun h => ?_) (fun h => ?_))
    | ((show OP _ _ _ _ _ _ _ ⟨some _, .call _, _, _, _, none⟩ _ _); first | refine OP.callx (f := 44) (.int .u64 x) rfl rfl (fun w => by exact bits_bits x w) ?_ | refine OP.len rfl rfl rfl ?_ | refine OP.real rfl rfl ?_ | refine OP.imag rfl rfl ?_ | refine OP.complex rfl rfl rfl ?_ | refine OP.max2 rfl rfl rfl ?_ | refine OP.min2 rfl rfl rfl ?_)
    | ((show OP _ _ _ _ _ _ _ ⟨some _, .binOp _ _ _ _ _, _, _, _, none⟩ _ _); first | (refine OP.add rfl rfl rfl ?_ ?_ ?_; omega; omega) | (refine OP.sub rfl rfl rfl ?_ ?_ ?_; omega; omega) | refine OP.lss rfl rfl rfl ?_ | refine OP.eql rfl rfl rfl ?_ | refine OP.neq rfl rfl rfl ?_ | refine OP.gtr rfl rfl rfl ?_ | refine OP.geq rfl rfl rfl ?_ | refine OP.leq rfl rfl rfl ?_ | refine OP.eql2 rfl rfl rfl ?_ | refine OP.neq2 rfl rfl rfl ?_ | refine OP.neqd rfl rfl rfl ?_ | refine OP.eqd rfl rfl rfl ?_ | refine OP.eqlb rfl rfl rfl ?_ | (refine OP.mul rfl rfl rfl ?_ ?_ ?_; omega; omega) | (refine OP.quoN rfl rfl rfl ?_ ?_ ?_ ?_; omega; omega; omega) | (refine OP.remN rfl rfl rfl ?_ ?_; omega) | (refine OP.quo rfl rfl rfl ?_ ?_ ?_ ?_ ?_; omega; omega; omega; omega) | (refine OP.rem rfl rfl rfl ?_ ?_ ?_; omega; omega))
    | ((show OP _ _ _ _ _ _ _ ⟨some _, .pick _ _ _, _, _, _, none⟩ _ _); first | refine OP.pick_true rfl rfl ?_ | refine OP.pick_false rfl rfl ?_)
    | (refine OP.extract rfl rfl rfl ?_)
    | (refine OP.fieldAddr rfl rfl ?_)
    | ((show OP _ _ _ _ _ _ _ ⟨some _, .load _ _, _, _, _, none⟩ _ _); first | refine OP.load rfl rfl (Sees.own (List.Mem.head _) rfl) ?_ | refine OP.load rfl rfl (Sees.own (List.Mem.tail _ (List.Mem.head _)) rfl) ?_ | refine OP.load rfl rfl (Sees.own (List.Mem.tail _ (List.Mem.tail _ (List.Mem.head _))) rfl) ?_ | refine OP.load rfl rfl (Sees.own (List.Mem.tail _ (List.Mem.tail _ (List.Mem.tail _ (List.Mem.head _)))) rfl) ?_ | refine OP.load rfl rfl (Sees.own (List.Mem.tail _ (List.Mem.tail _ (List.Mem.tail _ (List.Mem.tail _ (List.Mem.head _))))) rfl) ?_ | refine OP.load rfl rfl (Sees.own (List.Mem.tail _ (List.Mem.tail _ (List.Mem.tail _ (List.Mem.tail _ (List.Mem.tail _ (List.Mem.head _)))))) rfl) ?_ | refine OP.load rfl rfl (Sees.own (List.Mem.tail _ (List.Mem.tail _ (List.Mem.tail _ (List.Mem.tail _ (List.Mem.tail _ (List.Mem.tail _ (List.Mem.head _))))))) rfl) ?_ | refine OP.load rfl rfl (Sees.own (List.Mem.tail _ (List.Mem.tail _ (List.Mem.tail _ (List.Mem.tail _ (List.Mem.tail _ (List.Mem.tail _ (List.Mem.tail _ (List.Mem.head _)))))))) rfl) ?_ | refine OP.load rfl rfl (Sees.old0 (by assumption)) ?_ | refine OP.loadA rfl rfl (SeesN.own 2 (List.Mem.head _) rfl) rfl ?_ | refine OP.loadA rfl rfl (SeesN.own 3 (List.Mem.head _) rfl) rfl ?_ | refine OP.loadA rfl rfl (SeesN.own 2 (List.Mem.tail _ (List.Mem.head _)) rfl) rfl ?_ | refine OP.loadA rfl rfl (SeesN.own 3 (List.Mem.tail _ (List.Mem.head _)) rfl) rfl ?_ | refine OP.loadA rfl rfl (SeesN.own 2 (List.Mem.tail _ (List.Mem.tail _ (List.Mem.head _))) rfl) rfl ?_ | refine OP.loadA rfl rfl (SeesN.own 3 (List.Mem.tail _ (List.Mem.tail _ (List.Mem.head _))) rfl) rfl ?_ | refine OP.loadA rfl rfl (SeesN.own 2 (List.Mem.tail _ (List.Mem.tail _ (List.Mem.tail _ (List.Mem.head _)))) rfl) rfl ?_ | refine OP.loadA rfl rfl (SeesN.own 3 (List.Mem.tail _ (List.Mem.tail _ (List.Mem.tail _ (List.Mem.head _)))) rfl) rfl ?_ | refine OP.loadA rfl rfl (SeesN.own 2 (List.Mem.tail _ (List.Mem.tail _ (List.Mem.tail _ (List.Mem.tail _ (List.Mem.head _))))) rfl) rfl ?_ | refine OP.loadA rfl rfl (SeesN.own 3 (List.Mem.tail _ (List.Mem.tail _ (List.Mem.tail _ (List.Mem.tail _ (List.Mem.head _))))) rfl) rfl ?_ | refine OP.loadA rfl rfl (SeesN.own 2 (List.Mem.tail _ (List.Mem.tail _ (List.Mem.tail _ (List.Mem.tail _ (List.Mem.tail _ (List.Mem.head _)))))) rfl) rfl ?_ | refine OP.loadA rfl rfl (SeesN.own 3 (List.Mem.tail _ (List.Mem.tail _ (List.Mem.tail _ (List.Mem.tail _ (List.Mem.tail _ (List.Mem.head _)))))) rfl) rfl ?_ | refine OP.loadA rfl rfl (SeesN.own 2 (List.Mem.tail _ (List.Mem.tail _ (List.Mem.tail _ (List.Mem.tail _ (List.Mem.tail _ (List.Mem.tail _ (List.Mem.head _))))))) rfl) rfl ?_ | refine OP.loadA rfl rfl (SeesN.own 3 (List.Mem.tail _ (List.Mem.tail _ (List.Mem.tail _ (List.Mem.tail _ (List.Mem.tail _ (List.Mem.tail _ (List.Mem.head _))))))) rfl) rfl ?_ | refine OP.loadA rfl rfl (SeesN.own 2 (List.Mem.tail _ (List.Mem.tail _ (List.Mem.tail _ (List.Mem.tail _ (List.Mem.tail _ (List.Mem.tail _ (List.Mem.tail _ (List.Mem.head _)))))))) rfl) rfl ?_ | refine OP.loadA rfl rfl (SeesN.own 3 (List.Mem.tail _ (List.Mem.tail _ (List.Mem.tail _ (List.Mem.tail _ (List.Mem.tail _ (List.Mem.tail _ (List.Mem.tail _ (List.Mem.head _)))))))) rfl) rfl ?_)
    | ((show OP _ _ _ _ _ _ _ ⟨none, .store _ _ _, _, _, _, none⟩ _ _); first | refine OP.store0 (vs := [_]) rfl rfl rfl rfl rfl ?_ | refine OP.store0 (vs := [_, _]) rfl rfl rfl rfl rfl ?_ | refine OP.store0 (vs := [_, _, _]) rfl rfl rfl rfl rfl ?_ | refine OP.store1 (vs := [_]) rfl rfl rfl rfl rfl ?_ | refine OP.store1 (vs := [_, _]) rfl rfl rfl rfl rfl ?_ | refine OP.store1 (vs := [_, _, _]) rfl rfl rfl rfl rfl ?_ | refine OP.store2 (vs := [_]) rfl rfl rfl rfl rfl ?_ | refine OP.store2 (vs := [_, _]) rfl rfl rfl rfl rfl ?_ | refine OP.store2 (vs := [_, _, _]) rfl rfl rfl rfl rfl ?_ | refine OP.store3 (vs := [_]) rfl rfl rfl rfl rfl ?_ | refine OP.store3 (vs := [_, _]) rfl rfl rfl rfl rfl ?_ | refine OP.store3 (vs := [_, _, _]) rfl rfl rfl rfl rfl ?_ | refine OP.store4 (vs := [_]) rfl rfl rfl rfl rfl ?_ | refine OP.store4 (vs := [_, _]) rfl rfl rfl rfl rfl ?_ | refine OP.store4 (vs := [_, _, _]) rfl rfl rfl rfl rfl ?_ | refine OP.store5 (vs := [_]) rfl rfl rfl rfl rfl ?_ | refine OP.store5 (vs := [_, _]) rfl rfl rfl rfl rfl ?_ | refine OP.store5 (vs := [_, _, _]) rfl rfl rfl rfl rfl ?_ | refine OP.store6 (vs := [_]) rfl rfl rfl rfl rfl ?_ | refine OP.store6 (vs := [_, _]) rfl rfl rfl rfl rfl ?_ | refine OP.store6 (vs := [_, _, _]) rfl rfl rfl rfl rfl ?_ | refine OP.store7 (vs := [_]) rfl rfl rfl rfl rfl ?_ | refine OP.store7 (vs := [_, _]) rfl rfl rfl rfl rfl ?_ | refine OP.store7 (vs := [_, _, _]) rfl rfl rfl rfl rfl ?_)
    | ((show OP _ _ _ _ _ _ _ ⟨_, .unOp _ _ _, _, _, _, none⟩ _ _); first | refine OP.notd rfl rfl ?_ | refine OP.not rfl rfl ?_ | (refine OP.neg rfl rfl ?_ ?_ ?_; omega; omega))
    | ((show OP _ _ _ _ _ _ _ ⟨_, .convert _ _ _, _, _, _, none⟩ _ _); first | (refine OP.conv rfl rfl ?_ ?_ ?_; omega; omega) | refine OP.convw rfl rfl ?_)
    | (refine OP.makeMap rfl (fun _ => ?_))
    | (refine OP.box rfl rfl (fun _ => ?_))
    | (refine OP.alloc rfl rfl (fun _ => ?_))
    | (refine OP.build rfl rfl ?_)
    | (refine OP.buildSlice rfl rfl ?_ rfl rfl (fun _ => ?_); (decide))
    | (refine OP.buildSlice0 rfl rfl (fun _ => ?_))
    | (refine OP.makeFunc rfl ?_)
    | (refine OP.field1 rfl rfl rfl ?_))
  all_goals refine Fin.ret1 (h0 := .inl rfl) rfl rfl ?_
  exact ⟨by show Value.bool (decide _) = _; rw [decide_eq_false (by omega)], rfl⟩
end Go.Proofs.Ytghmkheoopakaaa
