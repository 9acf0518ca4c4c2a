/- Layer 19: a cell's bounds drawn together, walked. -/
import Derived.Test.YtghmkheoopakaaaCxW
import Derived.Test.YtghmkheoopakaaaBndD
import Derived.Test.YtghmkheoopakaaaBndE
set_option linter.unusedVariables false
set_option maxRecDepth 100000
namespace Go.Proofs.Ytghmkheoopakaaa
open Go.Pen

def boxV (p q n c1 c2 : Nat) (ch : Bool) : Array Value := #[.slice (some ⟨p, 0, none⟩) n c1, .slice (some ⟨q, 0, none⟩) n c2, .bool ch]
/-- The box, its lists and the sums of a line, in memory. -/
abbrev boxM (bb p q bl bh n c1 c2 : Nat) (s1 s2 : List Value) (s : BX) (low high : Int) : List (Nat × Obj) :=
  [(bb, .cells #[.slice (some ⟨p, 0, none⟩) n c1, .slice (some ⟨q, 0, none⟩) n c2, .bool s.ch] 50 (0, 0)), (p, .cells (vals s.lo ++ s1).toArray 3 (0, 0)), (q, .cells (vals s.hi ++ s2).toArray 3 (0, 0)), (bl, .cells #[.int .i64 low] 3 (0, 0)), (bh, .cells #[.int .i64 high] 3 (0, 0))]

set_option maxHeartbeats 4000000 in
theorem draw_fn (bb p q bl bh n c1 c2 c : Nat) (s1 s2 : List Value) (s : BX) (bin low high : Int) (hl : s.lo.length = n) (hh : s.hi.length = n) (hc : c < n)
    (b1 : -1099511627776 ≤ bin) (b2 : bin ≤ 1099511627776) (l1 : -1099511627776 ≤ low) (l2 : low ≤ 1099511627776) (h1 : -1099511627776 ≤ high) (h2 : high ≤ 1099511627776)
    (u1 : -1099511627776 ≤ s.lo.getD c 0) (u2 : s.lo.getD c 0 ≤ 1099511627776) (v1 : -1099511627776 ≤ s.hi.getD c 0) (v2 : s.hi.getD c 0 ≤ 1099511627776) (w : World)
    (hm : ∀ x ∈ boxM bb p q bl bh n c1 c2 s1 s2 s low high, w.heap[x.1]? = some x.2) (hn : (keys (boxM bb p q bl bh n c1 c2 s1 s2 s low high)).Nodup) :
    Does Try.prog 39 #[.pointer (some ⟨bb, 0, none⟩), .int .i64 c, .int .i64 bin, .pointer (some ⟨bl, 0, none⟩), .pointer (some ⟨bh, 0, none⟩)] (keys (boxM bb p q bl bh n c1 c2 s1 s2 s low high)) w fun r Γ =>
      r = .bool (decide (dlo s c bin high ≤ dhi s c bin low)) ∧ Γ = boxM bb p q bl bh n c1 c2 s1 s2 (drw s c bin low high) (low + (dlo s c bin high - s.lo.getD c 0)) (high + (dhi s c bin low - s.hi.getD c 0)) := by
  obtain ⟨x, hx⟩ : ∃ x, x = s.lo.getD c 0 := ⟨_, rfl⟩
  obtain ⟨y, hy⟩ : ∃ y, y = s.hi.getD c 0 := ⟨_, rfl⟩
  have e1 := vals_at (sp := s1) (getD_of (hl ▸ hc))
  have e2 := vals_at (sp := s2) (getD_of (hh ▸ hc))
  have z1 := vals_size (l := s.lo) (sp := s1) (hl ▸ hc)
  have z2 := vals_size (l := s.hi) (sp := s2) (hh ▸ hc)
  unfold drw dlo dhi lwr upr
  rw [← hx] at e1 u1 u2 ⊢
  rw [← hy] at e2 v1 v2 ⊢
  have w1 := vals_set s.lo s1 c (bin - (high - y)) (hl ▸ hc)
  have w2 := vals_set s.hi s2 c (bin - (low - x)) (hh ▸ hc)
  have e1' := vals_at (l := s.lo.set c (bin - (high - y))) (sp := s1) (i := c) (v := bin - (high - y)) (List.getElem?_set_self (hl ▸ hc))
  have e2' := vals_at (l := s.hi.set c (bin - (low - x))) (sp := s2) (i := c) (v := bin - (low - x)) (List.getElem?_set_self (hh ▸ hc))
  have k1 : s.lo.set c x = s.lo := by rw [hx]; exact set_self
  have k2 : s.hi.set c y = s.hi := by rw [hy]; exact set_self
  refine Does.enter Try.func39 rfl Try.ntmps39 rfl (St.startI hm hn) ?_
  repeat' (first
    | (show WP _ _ _ _ _ (.region 3 _ _) _ _; refine WP.regionT 13 rfl rfl (by kernel_rfl) (by kernel_rfl) (by kernel_rfl) ?_)
    | (show WP _ _ _ _ _ (.region 6 _ _) _ _; refine WP.regionT 13 rfl rfl (by kernel_rfl) (by kernel_rfl) (by kernel_rfl) ?_)
    | refine OP.nilCheck rfl rfl ?_
    | refine OP.indexAddr (j := c) rfl rfl rfl rfl hc ?_
    | refine OP.load rfl rfl (Sees.own (List.Mem.tail _ (List.Mem.head _)) e1) ?_
    | refine OP.load rfl rfl (Sees.own (List.Mem.tail _ (List.Mem.tail _ (List.Mem.head _))) e2) ?_
    | refine OP.load rfl rfl (Sees.own (List.Mem.tail _ (List.Mem.head _)) e1') ?_
    | refine OP.load rfl rfl (Sees.own (List.Mem.tail _ (List.Mem.tail _ (List.Mem.head _))) e2') ?_
    | (refine OP.store1 (vs := [.int .i64 (bin - (high - y))]) rfl rfl rfl rfl z1 ?_; rw [w1])
    | (refine OP.store2 (vs := [.int .i64 (bin - (low - x))]) rfl rfl rfl rfl z2 ?_; rw [w2])
    | (refine Fin.tail ?_)
    | (refine Fin.then_normal ?_)
    | (refine Fin.then_exit ?_)
    | (refine Fin.then_ret ?_)
    | (refine Fin.block_normal ?_)
    | (refine Fin.block_ret ?_)
    | (refine Fin.block_hit ?_)
    | (refine Fin.block_miss rfl ?_)
    | (refine Fin.loop_exit ?_)
    | (refine Fin.loop_ret ?_)
    | (refine WP.seq ?_)
    | (refine WP.regionQ (by kernel_rfl) (by kernel_rfl) ?_)
    | (refine WP.block ?_)
    | (refine WP.region ?_)
    | (refine WP.skip ?_)
    | (refine WP.exit ?_)
    | (refine WP.ret ?_)
    | (refine WP.label ?_)
    | (refine WP.cond_true rfl ?_)
    | (refine WP.cond_false rfl ?_)
    | (refine WP.cond_dec rfl (fun h => ?_) (fun h => ?_) <;> (try (exfalso; omega)))
    | (refine WP.cond_bool rfl (fun h => ?_) (fun h => ?_))
    | (refine WL.nil ?_)
    | (refine WL.cons ?_)
    | ((show OP _ _ _ _ _ _ _ ⟨some _, .move _, _, _, _, none⟩ _ _); first | refine OP.move (v := .int _ _) rfl rfl ?_ | refine OP.move (v := .bool _) rfl rfl ?_ | refine OP.move (v := .complex _ _ _) rfl rfl ?_ | refine OP.move (v := .float _ _) rfl rfl ?_ | refine OP.move (v := .slice _ _ _) rfl rfl ?_ | refine OP.move (v := .pointer _) rfl rfl ?_ | refine OP.move (v := .agg _) rfl rfl ?_ | refine OP.move (v := .tuple _) rfl rfl ?_ | refine OP.move (v := .map _) rfl rfl ?_ | refine OP.move (v := .func _ _ _) rfl rfl ?_ | refine OP.move (v := _) rfl rfl ?_)
    | ((show OP _ _ _ _ _ _ _ ⟨some _, .assign _, _, _, _, none⟩ _ _); first | refine OP.assign (v := .int _ _) rfl rfl ?_ | refine OP.assign (v := .bool _) rfl rfl ?_ | refine OP.assign (v := .complex _ _ _) rfl rfl ?_ | refine OP.assign (v := .float _ _) rfl rfl ?_ | refine OP.assign (v := .slice _ _ _) rfl rfl ?_ | refine OP.assign (v := .pointer _) rfl rfl ?_ | refine OP.assign (v := .agg _) rfl rfl ?_ | refine OP.assign (v := .tuple _) rfl rfl ?_ | refine OP.assign (v := .map _) rfl rfl ?_ | refine OP.assign (v := .func _ _ _) rfl rfl ?_ | refine OP.assign (v := _) rfl rfl ?_)
    | ((show OP _ _ _ _ _ _ _ ⟨_, _, _, _, _, some _⟩ _ _); first | refine OP.guard_yes rfl rfl ?_ | refine OP.guard_no rfl rfl rfl rfl ?_ | refine OP.guard_un rfl rfl rfl ?_ | refine OP.guard_no0 rfl rfl rfl ?_ | (refine OP.guard_dec rfl rfl (fun h => ?_) (fun h => ?_) <;> (try (exfalso; omega))) | refine OP.guard_bool rfl rfl (fun h => ?_) (fun h => ?_))
    | ((show OP _ _ _ _ _ _ _ ⟨some _, .call _, _, _, _, none⟩ _ _); first | refine OP.len rfl rfl rfl ?_ | refine OP.real rfl rfl ?_ | refine OP.imag rfl rfl ?_ | refine OP.complex rfl rfl rfl ?_ | refine OP.max2 rfl rfl rfl ?_ | refine OP.min2 rfl rfl rfl ?_)
    | ((show OP _ _ _ _ _ _ _ ⟨some _, .binOp _ _ _ _ _, _, _, _, none⟩ _ _); first | (refine OP.add rfl rfl rfl ?_ ?_ ?_; omega; omega) | (refine OP.sub rfl rfl rfl ?_ ?_ ?_; omega; omega) | refine OP.lss rfl rfl rfl ?_ | refine OP.eql rfl rfl rfl ?_ | refine OP.neq rfl rfl rfl ?_ | refine OP.gtr rfl rfl rfl ?_ | refine OP.geq rfl rfl rfl ?_ | refine OP.leq rfl rfl rfl ?_ | refine OP.eql2 rfl rfl rfl ?_ | refine OP.neq2 rfl rfl rfl ?_ | refine OP.neqd rfl rfl rfl ?_ | refine OP.eqd rfl rfl rfl ?_ | refine OP.eqlb rfl rfl rfl ?_ | (refine OP.mul rfl rfl rfl ?_ ?_ ?_; omega; omega) | (refine OP.quoN rfl rfl rfl ?_ ?_ ?_ ?_; omega; omega; omega) | (refine OP.remN rfl rfl rfl ?_ ?_; omega) | (refine OP.quo rfl rfl rfl ?_ ?_ ?_ ?_ ?_; omega; omega; omega; omega) | (refine OP.rem rfl rfl rfl ?_ ?_ ?_; omega; omega))
    | ((show OP _ _ _ _ _ _ _ ⟨some _, .pick _ _ _, _, _, _, none⟩ _ _); first | refine OP.pick_true rfl rfl ?_ | refine OP.pick_false rfl rfl ?_)
    | (refine OP.extract rfl rfl rfl ?_)
    | (refine OP.fieldAddr rfl rfl ?_)
    | ((show OP _ _ _ _ _ _ _ ⟨some _, .load _ _, _, _, _, none⟩ _ _); first | refine OP.load rfl rfl (Sees.own (List.Mem.head _) rfl) ?_ | refine OP.load rfl rfl (Sees.own (List.Mem.tail _ (List.Mem.head _)) rfl) ?_ | refine OP.load rfl rfl (Sees.own (List.Mem.tail _ (List.Mem.tail _ (List.Mem.head _))) rfl) ?_ | refine OP.load rfl rfl (Sees.own (List.Mem.tail _ (List.Mem.tail _ (List.Mem.tail _ (List.Mem.head _)))) rfl) ?_ | refine OP.load rfl rfl (Sees.own (List.Mem.tail _ (List.Mem.tail _ (List.Mem.tail _ (List.Mem.tail _ (List.Mem.head _))))) rfl) ?_ | refine OP.load rfl rfl (Sees.own (List.Mem.tail _ (List.Mem.tail _ (List.Mem.tail _ (List.Mem.tail _ (List.Mem.tail _ (List.Mem.head _)))))) rfl) ?_ | refine OP.load rfl rfl (Sees.own (List.Mem.tail _ (List.Mem.tail _ (List.Mem.tail _ (List.Mem.tail _ (List.Mem.tail _ (List.Mem.tail _ (List.Mem.head _))))))) rfl) ?_ | refine OP.load rfl rfl (Sees.own (List.Mem.tail _ (List.Mem.tail _ (List.Mem.tail _ (List.Mem.tail _ (List.Mem.tail _ (List.Mem.tail _ (List.Mem.tail _ (List.Mem.head _)))))))) rfl) ?_ | refine OP.load rfl rfl (Sees.old0 (by assumption)) ?_ | refine OP.loadA rfl rfl (SeesN.own 2 (List.Mem.head _) rfl) rfl ?_ | refine OP.loadA rfl rfl (SeesN.own 3 (List.Mem.head _) rfl) rfl ?_ | refine OP.loadA rfl rfl (SeesN.own 2 (List.Mem.tail _ (List.Mem.head _)) rfl) rfl ?_ | refine OP.loadA rfl rfl (SeesN.own 3 (List.Mem.tail _ (List.Mem.head _)) rfl) rfl ?_ | refine OP.loadA rfl rfl (SeesN.own 2 (List.Mem.tail _ (List.Mem.tail _ (List.Mem.head _))) rfl) rfl ?_ | refine OP.loadA rfl rfl (SeesN.own 3 (List.Mem.tail _ (List.Mem.tail _ (List.Mem.head _))) rfl) rfl ?_ | refine OP.loadA rfl rfl (SeesN.own 2 (List.Mem.tail _ (List.Mem.tail _ (List.Mem.tail _ (List.Mem.head _)))) rfl) rfl ?_ | refine OP.loadA rfl rfl (SeesN.own 3 (List.Mem.tail _ (List.Mem.tail _ (List.Mem.tail _ (List.Mem.head _)))) rfl) rfl ?_ | refine OP.loadA rfl rfl (SeesN.own 2 (List.Mem.tail _ (List.Mem.tail _ (List.Mem.tail _ (List.Mem.tail _ (List.Mem.head _))))) rfl) rfl ?_ | refine OP.loadA rfl rfl (SeesN.own 3 (List.Mem.tail _ (List.Mem.tail _ (List.Mem.tail _ (List.Mem.tail _ (List.Mem.head _))))) rfl) rfl ?_ | refine OP.loadA rfl rfl (SeesN.own 2 (List.Mem.tail _ (List.Mem.tail _ (List.Mem.tail _ (List.Mem.tail _ (List.Mem.tail _ (List.Mem.head _)))))) rfl) rfl ?_ | refine OP.loadA rfl rfl (SeesN.own 3 (List.Mem.tail _ (List.Mem.tail _ (List.Mem.tail _ (List.Mem.tail _ (List.Mem.tail _ (List.Mem.head _)))))) rfl) rfl ?_ | refine OP.loadA rfl rfl (SeesN.own 2 (List.Mem.tail _ (List.Mem.tail _ (List.Mem.tail _ (List.Mem.tail _ (List.Mem.tail _ (List.Mem.tail _ (List.Mem.head _))))))) rfl) rfl ?_ | refine OP.loadA rfl rfl (SeesN.own 3 (List.Mem.tail _ (List.Mem.tail _ (List.Mem.tail _ (List.Mem.tail _ (List.Mem.tail _ (List.Mem.tail _ (List.Mem.head _))))))) rfl) rfl ?_ | refine OP.loadA rfl rfl (SeesN.own 2 (List.Mem.tail _ (List.Mem.tail _ (List.Mem.tail _ (List.Mem.tail _ (List.Mem.tail _ (List.Mem.tail _ (List.Mem.tail _ (List.Mem.head _)))))))) rfl) rfl ?_ | refine OP.loadA rfl rfl (SeesN.own 3 (List.Mem.tail _ (List.Mem.tail _ (List.Mem.tail _ (List.Mem.tail _ (List.Mem.tail _ (List.Mem.tail _ (List.Mem.tail _ (List.Mem.head _)))))))) rfl) rfl ?_)
    | ((show OP _ _ _ _ _ _ _ ⟨none, .store _ _ _, _, _, _, none⟩ _ _); first | refine OP.store0 (vs := [_]) rfl rfl rfl rfl rfl ?_ | refine OP.store0 (vs := [_, _]) rfl rfl rfl rfl rfl ?_ | refine OP.store0 (vs := [_, _, _]) rfl rfl rfl rfl rfl ?_ | refine OP.store1 (vs := [_]) rfl rfl rfl rfl rfl ?_ | refine OP.store1 (vs := [_, _]) rfl rfl rfl rfl rfl ?_ | refine OP.store1 (vs := [_, _, _]) rfl rfl rfl rfl rfl ?_ | refine OP.store2 (vs := [_]) rfl rfl rfl rfl rfl ?_ | refine OP.store2 (vs := [_, _]) rfl rfl rfl rfl rfl ?_ | refine OP.store2 (vs := [_, _, _]) rfl rfl rfl rfl rfl ?_ | refine OP.store3 (vs := [_]) rfl rfl rfl rfl rfl ?_ | refine OP.store3 (vs := [_, _]) rfl rfl rfl rfl rfl ?_ | refine OP.store3 (vs := [_, _, _]) rfl rfl rfl rfl rfl ?_ | refine OP.store4 (vs := [_]) rfl rfl rfl rfl rfl ?_ | refine OP.store4 (vs := [_, _]) rfl rfl rfl rfl rfl ?_ | refine OP.store4 (vs := [_, _, _]) rfl rfl rfl rfl rfl ?_ | refine OP.store5 (vs := [_]) rfl rfl rfl rfl rfl ?_ | refine OP.store5 (vs := [_, _]) rfl rfl rfl rfl rfl ?_ | refine OP.store5 (vs := [_, _, _]) rfl rfl rfl rfl rfl ?_ | refine OP.store6 (vs := [_]) rfl rfl rfl rfl rfl ?_ | refine OP.store6 (vs := [_, _]) rfl rfl rfl rfl rfl ?_ | refine OP.store6 (vs := [_, _, _]) rfl rfl rfl rfl rfl ?_ | refine OP.store7 (vs := [_]) rfl rfl rfl rfl rfl ?_ | refine OP.store7 (vs := [_, _]) rfl rfl rfl rfl rfl ?_ | refine OP.store7 (vs := [_, _, _]) rfl rfl rfl rfl rfl ?_)
    | ((show OP _ _ _ _ _ _ _ ⟨_, .unOp _ _ _, _, _, _, none⟩ _ _); first | refine OP.notd rfl rfl ?_ | refine OP.not rfl rfl ?_ | (refine OP.neg rfl rfl ?_ ?_ ?_; omega; omega))
    | ((show OP _ _ _ _ _ _ _ ⟨_, .convert _ _ _, _, _, _, none⟩ _ _); first | (refine OP.conv rfl rfl ?_ ?_ ?_; omega; omega))
    | (refine OP.makeMap rfl (fun bm => ?_))
    | (refine OP.box rfl rfl (fun bx => ?_))
    | (refine OP.alloc rfl rfl (fun al => ?_))
    | (refine OP.build rfl rfl ?_)
    | (refine OP.buildSlice rfl rfl ?_ rfl rfl (fun bs => ?_); (decide))
    | (refine OP.buildSlice0 rfl rfl (fun bs => ?_))
    | (refine OP.makeFunc rfl ?_)
    | (refine OP.field1 rfl rfl rfl ?_))
  all_goals rename_i g
  all_goals refine Fin.ret1 (h0 := .inl rfl) rfl rfl ?_
  · simp only [if_pos g, if_pos h, decide_eq_true g, decide_eq_true h, Bool.or_true]; exact ⟨rfl, rfl⟩
  · simp only [if_pos g, if_neg h, decide_eq_true g, decide_eq_false h, Bool.or_true, Bool.or_false, k2, Int.sub_self, Int.add_zero]; exact ⟨rfl, rfl⟩
  · simp only [if_neg g, if_pos h, decide_eq_false g, decide_eq_true h, Bool.or_true, Bool.or_false, k1, Int.sub_self, Int.add_zero]; exact ⟨rfl, rfl⟩
  · simp only [if_neg g, if_neg h, decide_eq_false g, decide_eq_false h, Bool.or_false, k1, k2, Int.sub_self, Int.add_zero]; exact ⟨rfl, trivial⟩
end Go.Proofs.Ytghmkheoopakaaa
