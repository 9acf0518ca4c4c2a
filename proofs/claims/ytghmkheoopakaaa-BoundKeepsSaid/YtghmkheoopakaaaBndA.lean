/- Layer 19's small functions: SameInts, Width. -/
import Derived.Test.YtghmkheoopakaaaDirN
import Derived.Test.YtghmkheoopakaaaPenG
set_option linter.unusedVariables false
set_option maxRecDepth 100000
namespace Go.Proofs.Ytghmkheoopakaaa
open Go.Pen

/-- n whole numbers, read at one place. -/
structure RdI (w : World) (b o n : Nat) (f : Nat → Int) : Prop where
  c : ∀ i, i < n → w.cell? ⟨b, o + i * 1, none⟩ = some (.int .i64 (f i))
theorem RdI.over {w w' : World} {b o n : Nat} {f : Nat → Int} {Γ : List (Nat × Obj)} (h : RdI w b o n f) (hw : St w [] Γ w') : RdI w' b o n f := ⟨fun i hi => hw.old (h.c i hi) (by simp)⟩
theorem RdI.see {w : World} {b o n : Nat} {f : Nat → Int} (h : RdI w b o n f) {i : Nat} (hi : i < n) (Γ : List (Nat × Obj)) : Sees w [] Γ b (o + i * 1) (.int .i64 (f i)) := Sees.old0 (h.c i hi)
def ints (f : Nat → Int) (n : Nat) : List Value := (List.range n).map fun i => .int .i64 (f i)
theorem ints_len (f : Nat → Int) (n : Nat) : (ints f n).length = n := by simp [ints]
theorem ints_at {f : Nat → Int} {n i : Nat} (h : i < n) : (ints f n)[i]? = some (.int .i64 (f i)) := by simp [ints, h]
theorem RdI.own {w B : World} {I : List Nat} {Γ : List (Nat × Obj)} {b n : Nat} {f : Nat → Int} {sp : List Value} {T : TypeId} (hw : St B I Γ w) (hm : (b, .cells (ints f n ++ sp).toArray T (0, 0)) ∈ Γ) : RdI w b 0 n f := by
  have hb := hw.has _ hm
  refine ⟨fun i hi => cell_of hb ?_⟩
  rw [List.getElem?_toArray, Nat.zero_add, Nat.mul_one, List.getElem?_append_left (by rw [ints_len]; exact hi)]
  exact ints_at hi

set_option maxHeartbeats 1000000 in
theorem SameInts_fn (a a' : Option Addr) (n c c' b b' o o' : Nat) (f : Nat → Int) (ha : 0 < n → a = some ⟨b, o, none⟩) (ha' : 0 < n → a' = some ⟨b', o', none⟩) (hn : n ≤ 4611686018427387904) (w : World) (r : RdI w b o n f) (r' : RdI w b' o' n f) :
    Does Try.prog 9 #[.slice a n c, .slice a' n c'] [] w fun v Γ => v = .bool true ∧ Γ = [] := by
  refine Does.enter Try.func9 rfl Try.ntmps9 rfl (St.start w) ?_
  repeat' (first
    | (refine Fin.tail ?_)
    | (refine Fin.then_normal ?_)
    | (refine Fin.then_exit ?_)
    | (refine Fin.then_ret ?_)
    | (refine Fin.block_normal ?_)
    | (refine Fin.block_ret ?_)
    | (refine Fin.block_hit ?_)
    | (refine Fin.block_miss rfl ?_)
    | (refine Fin.loop_exit ?_)
    | (refine Fin.loop_ret ?_)
    | (refine WP.seq ?_)
    | (refine WP.regionQ (by kernel_rfl) (by kernel_rfl) ?_)
    | (refine WP.block ?_)
    | (refine WP.region ?_)
    | (refine WP.skip ?_)
    | (refine WP.exit ?_)
    | (refine WP.ret ?_)
    | (refine WP.label ?_)
    | (refine WP.cond_true rfl ?_)
    | (refine WP.cond_false rfl ?_)
    | (refine WP.cond_dec rfl (fun h => ?_) (fun h => ?_) <;> (try (exfalso; omega)))
    | (refine WP.cond_bool rfl (fun h => ?_) (fun h => ?_))
    | (refine WL.nil ?_)
    | (refine WL.cons ?_)
    | ((show OP _ _ _ _ _ _ _ ⟨some _, .move _, _, _, _, none⟩ _ _); first | refine OP.move (v := .int _ _) rfl rfl ?_ | refine OP.move (v := .bool _) rfl rfl ?_ | refine OP.move (v := .complex _ _ _) rfl rfl ?_ | refine OP.move (v := .float _ _) rfl rfl ?_ | refine OP.move (v := .slice _ _ _) rfl rfl ?_ | refine OP.move (v := .pointer _) rfl rfl ?_ | refine OP.move (v := .agg _) rfl rfl ?_ | refine OP.move (v := .tuple _) rfl rfl ?_ | refine OP.move (v := .map _) rfl rfl ?_ | refine OP.move (v := .func _ _ _) rfl rfl ?_ | refine OP.move (v := _) rfl rfl ?_)
    | ((show OP _ _ _ _ _ _ _ ⟨some _, .assign _, _, _, _, none⟩ _ _); first | refine OP.assign (v := .int _ _) rfl rfl ?_ | refine OP.assign (v := .bool _) rfl rfl ?_ | refine OP.assign (v := .complex _ _ _) rfl rfl ?_ | refine OP.assign (v := .float _ _) rfl rfl ?_ | refine OP.assign (v := .slice _ _ _) rfl rfl ?_ | refine OP.assign (v := .pointer _) rfl rfl ?_ | refine OP.assign (v := .agg _) rfl rfl ?_ | refine OP.assign (v := .tuple _) rfl rfl ?_ | refine OP.assign (v := .map _) rfl rfl ?_ | refine OP.assign (v := .func _ _ _) rfl rfl ?_ | refine OP.assign (v := _) rfl rfl ?_)
    | ((show OP _ _ _ _ _ _ _ ⟨_, _, _, _, _, some _⟩ _ _); first | refine OP.guard_yes rfl rfl ?_ | refine OP.guard_no rfl rfl rfl rfl ?_ | refine OP.guard_un rfl rfl rfl ?_ | refine OP.guard_no0 rfl rfl rfl ?_ | (refine OP.guard_dec rfl rfl (fun h => ?_) (fun h => ?_) <;> (try (exfalso; omega))) | refine OP.guard_bool rfl rfl (fun h => ?_) (fun h => ?_))
    | ((show OP _ _ _ _ _ _ _ ⟨some _, .call _, _, _, _, none⟩ _ _); first | refine OP.len rfl rfl rfl ?_ | refine OP.real rfl rfl ?_ | refine OP.imag rfl rfl ?_ | refine OP.complex rfl rfl rfl ?_ | refine OP.max2 rfl rfl rfl ?_ | refine OP.min2 rfl rfl rfl ?_)
    | ((show OP _ _ _ _ _ _ _ ⟨some _, .binOp _ _ _ _ _, _, _, _, none⟩ _ _); first | (refine OP.add rfl rfl rfl ?_ ?_ ?_; omega; omega) | (refine OP.sub rfl rfl rfl ?_ ?_ ?_; omega; omega) | refine OP.lss rfl rfl rfl ?_ | refine OP.eql rfl rfl rfl ?_ | refine OP.neq rfl rfl rfl ?_ | refine OP.gtr rfl rfl rfl ?_ | refine OP.geq rfl rfl rfl ?_ | refine OP.leq rfl rfl rfl ?_ | refine OP.eql2 rfl rfl rfl ?_ | refine OP.neq2 rfl rfl rfl ?_ | refine OP.neqd rfl rfl rfl ?_ | refine OP.eqd rfl rfl rfl ?_ | refine OP.eqlb rfl rfl rfl ?_ | (refine OP.mul rfl rfl rfl ?_ ?_ ?_; omega; omega) | (refine OP.quoN rfl rfl rfl ?_ ?_ ?_ ?_; omega; omega; omega) | (refine OP.remN rfl rfl rfl ?_ ?_; omega) | (refine OP.quo rfl rfl rfl ?_ ?_ ?_ ?_ ?_; omega; omega; omega; omega) | (refine OP.rem rfl rfl rfl ?_ ?_ ?_; omega; omega))
    | ((show OP _ _ _ _ _ _ _ ⟨some _, .pick _ _ _, _, _, _, none⟩ _ _); first | refine OP.pick_true rfl rfl ?_ | refine OP.pick_false rfl rfl ?_)
    | (refine OP.extract rfl rfl rfl ?_)
    | (refine OP.fieldAddr rfl rfl ?_)
    | ((show OP _ _ _ _ _ _ _ ⟨some _, .load _ _, _, _, _, none⟩ _ _); first | refine OP.load rfl rfl (Sees.own (List.Mem.head _) rfl) ?_ | refine OP.load rfl rfl (Sees.own (List.Mem.tail _ (List.Mem.head _)) rfl) ?_ | refine OP.load rfl rfl (Sees.own (List.Mem.tail _ (List.Mem.tail _ (List.Mem.head _))) rfl) ?_ | refine OP.load rfl rfl (Sees.own (List.Mem.tail _ (List.Mem.tail _ (List.Mem.tail _ (List.Mem.head _)))) rfl) ?_ | refine OP.load rfl rfl (Sees.own (List.Mem.tail _ (List.Mem.tail _ (List.Mem.tail _ (List.Mem.tail _ (List.Mem.head _))))) rfl) ?_ | refine OP.load rfl rfl (Sees.own (List.Mem.tail _ (List.Mem.tail _ (List.Mem.tail _ (List.Mem.tail _ (List.Mem.tail _ (List.Mem.head _)))))) rfl) ?_ | refine OP.load rfl rfl (Sees.own (List.Mem.tail _ (List.Mem.tail _ (List.Mem.tail _ (List.Mem.tail _ (List.Mem.tail _ (List.Mem.tail _ (List.Mem.head _))))))) rfl) ?_ | refine OP.load rfl rfl (Sees.own (List.Mem.tail _ (List.Mem.tail _ (List.Mem.tail _ (List.Mem.tail _ (List.Mem.tail _ (List.Mem.tail _ (List.Mem.tail _ (List.Mem.head _)))))))) rfl) ?_ | refine OP.load rfl rfl (Sees.old0 (by assumption)) ?_ | refine OP.loadA rfl rfl (SeesN.own 2 (List.Mem.head _) rfl) rfl ?_ | refine OP.loadA rfl rfl (SeesN.own 3 (List.Mem.head _) rfl) rfl ?_ | refine OP.loadA rfl rfl (SeesN.own 2 (List.Mem.tail _ (List.Mem.head _)) rfl) rfl ?_ | refine OP.loadA rfl rfl (SeesN.own 3 (List.Mem.tail _ (List.Mem.head _)) rfl) rfl ?_ | refine OP.loadA rfl rfl (SeesN.own 2 (List.Mem.tail _ (List.Mem.tail _ (List.Mem.head _))) rfl) rfl ?_ | refine OP.loadA rfl rfl (SeesN.own 3 (List.Mem.tail _ (List.Mem.tail _ (List.Mem.head _))) rfl) rfl ?_ | refine OP.loadA rfl rfl (SeesN.own 2 (List.Mem.tail _ (List.Mem.tail _ (List.Mem.tail _ (List.Mem.head _)))) rfl) rfl ?_ | refine OP.loadA rfl rfl (SeesN.own 3 (List.Mem.tail _ (List.Mem.tail _ (List.Mem.tail _ (List.Mem.head _)))) rfl) rfl ?_ | refine OP.loadA rfl rfl (SeesN.own 2 (List.Mem.tail _ (List.Mem.tail _ (List.Mem.tail _ (List.Mem.tail _ (List.Mem.head _))))) rfl) rfl ?_ | refine OP.loadA rfl rfl (SeesN.own 3 (List.Mem.tail _ (List.Mem.tail _ (List.Mem.tail _ (List.Mem.tail _ (List.Mem.head _))))) rfl) rfl ?_ | refine OP.loadA rfl rfl (SeesN.own 2 (List.Mem.tail _ (List.Mem.tail _ (List.Mem.tail _ (List.Mem.tail _ (List.Mem.tail _ (List.Mem.head _)))))) rfl) rfl ?_ | refine OP.loadA rfl rfl (SeesN.own 3 (List.Mem.tail _ (List.Mem.tail _ (List.Mem.tail _ (List.Mem.tail _ (List.Mem.tail _ (List.Mem.head _)))))) rfl) rfl ?_ | refine OP.loadA rfl rfl (SeesN.own 2 (List.Mem.tail _ (List.Mem.tail _ (List.Mem.tail _ (List.Mem.tail _ (List.Mem.tail _ (List.Mem.tail _ (List.Mem.head _))))))) rfl) rfl ?_ | refine OP.loadA rfl rfl (SeesN.own 3 (List.Mem.tail _ (List.Mem.tail _ (List.Mem.tail _ (List.Mem.tail _ (List.Mem.tail _ (List.Mem.tail _ (List.Mem.head _))))))) rfl) rfl ?_ | refine OP.loadA rfl rfl (SeesN.own 2 (List.Mem.tail _ (List.Mem.tail _ (List.Mem.tail _ (List.Mem.tail _ (List.Mem.tail _ (List.Mem.tail _ (List.Mem.tail _ (List.Mem.head _)))))))) rfl) rfl ?_ | refine OP.loadA rfl rfl (SeesN.own 3 (List.Mem.tail _ (List.Mem.tail _ (List.Mem.tail _ (List.Mem.tail _ (List.Mem.tail _ (List.Mem.tail _ (List.Mem.tail _ (List.Mem.head _)))))))) rfl) rfl ?_)
    | ((show OP _ _ _ _ _ _ _ ⟨none, .store _ _ _, _, _, _, none⟩ _ _); first | refine OP.store0 (vs := [_]) rfl rfl rfl rfl rfl ?_ | refine OP.store0 (vs := [_, _]) rfl rfl rfl rfl rfl ?_ | refine OP.store0 (vs := [_, _, _]) rfl rfl rfl rfl rfl ?_ | refine OP.store1 (vs := [_]) rfl rfl rfl rfl rfl ?_ | refine OP.store1 (vs := [_, _]) rfl rfl rfl rfl rfl ?_ | refine OP.store1 (vs := [_, _, _]) rfl rfl rfl rfl rfl ?_ | refine OP.store2 (vs := [_]) rfl rfl rfl rfl rfl ?_ | refine OP.store2 (vs := [_, _]) rfl rfl rfl rfl rfl ?_ | refine OP.store2 (vs := [_, _, _]) rfl rfl rfl rfl rfl ?_ | refine OP.store3 (vs := [_]) rfl rfl rfl rfl rfl ?_ | refine OP.store3 (vs := [_, _]) rfl rfl rfl rfl rfl ?_ | refine OP.store3 (vs := [_, _, _]) rfl rfl rfl rfl rfl ?_ | refine OP.store4 (vs := [_]) rfl rfl rfl rfl rfl ?_ | refine OP.store4 (vs := [_, _]) rfl rfl rfl rfl rfl ?_ | refine OP.store4 (vs := [_, _, _]) rfl rfl rfl rfl rfl ?_ | refine OP.store5 (vs := [_]) rfl rfl rfl rfl rfl ?_ | refine OP.store5 (vs := [_, _]) rfl rfl rfl rfl rfl ?_ | refine OP.store5 (vs := [_, _, _]) rfl rfl rfl rfl rfl ?_ | refine OP.store6 (vs := [_]) rfl rfl rfl rfl rfl ?_ | refine OP.store6 (vs := [_, _]) rfl rfl rfl rfl rfl ?_ | refine OP.store6 (vs := [_, _, _]) rfl rfl rfl rfl rfl ?_ | refine OP.store7 (vs := [_]) rfl rfl rfl rfl rfl ?_ | refine OP.store7 (vs := [_, _]) rfl rfl rfl rfl rfl ?_ | refine OP.store7 (vs := [_, _, _]) rfl rfl rfl rfl rfl ?_)
    | ((show OP _ _ _ _ _ _ _ ⟨_, .unOp _ _ _, _, _, _, none⟩ _ _); first | refine OP.notd rfl rfl ?_ | refine OP.not rfl rfl ?_ | (refine OP.neg rfl rfl ?_ ?_ ?_; omega; omega))
    | ((show OP _ _ _ _ _ _ _ ⟨_, .convert _ _ _, _, _, _, none⟩ _ _); first | (refine OP.conv rfl rfl ?_ ?_ ?_; omega; omega))
    | (refine OP.makeMap rfl (fun _ => ?_))
    | (refine OP.box rfl rfl (fun _ => ?_))
    | (refine OP.alloc rfl rfl (fun _ => ?_))
    | (refine OP.build rfl rfl ?_)
    | (refine OP.buildSlice rfl rfl ?_ rfl rfl (fun _ => ?_); (decide))
    | (refine OP.buildSlice0 rfl rfl (fun _ => ?_))
    | (refine OP.makeFunc rfl ?_)
    | (refine OP.field1 rfl rfl rfl ?_))
  refine WP.loop [5, 11, 12, 13, 14, 15, 16, 17, 18, 19, 20, 21, 22, 23, 24, 25] (fun k : Nat => [(5, .int .i64 k)]) (fun _ => _) (fun k => k ≤ n) (fun k => n - k) 0 (by omega) rfl ⟨rfl, trivial⟩ ?_
  rintro k j k1
  dsimp only [updL]
  repeat' (first
    | refine OP.indexAddrO (j := k) rfl rfl (ha (by omega)) rfl rfl (by omega) ?_
    | refine OP.indexAddrO (j := k) rfl rfl (ha' (by omega)) rfl rfl (by omega) ?_
    | refine OP.load rfl rfl (r.see (by omega) _) ?_
    | refine OP.load rfl rfl (r'.see (by omega) _) ?_
    | (refine Fin.tail ?_)
    | (refine Fin.then_normal ?_)
    | (refine Fin.then_exit ?_)
    | (refine Fin.then_ret ?_)
    | (refine Fin.block_normal ?_)
    | (refine Fin.block_ret ?_)
    | (refine Fin.block_hit ?_)
    | (refine Fin.block_miss rfl ?_)
    | (refine Fin.loop_exit ?_)
    | (refine Fin.loop_ret ?_)
    | (refine WP.seq ?_)
    | (refine WP.regionQ (by kernel_rfl) (by kernel_rfl) ?_)
    | (refine WP.block ?_)
    | (refine WP.region ?_)
    | (refine WP.skip ?_)
    | (refine WP.exit ?_)
    | (refine WP.ret ?_)
    | (refine WP.label ?_)
    | (refine WP.cond_true rfl ?_)
    | (refine WP.cond_false rfl ?_)
    | (refine WP.cond_dec rfl (fun h => ?_) (fun h => ?_) <;> (try (exfalso; omega)))
    | (refine WP.cond_bool rfl (fun h => ?_) (fun h => ?_))
    | (refine WL.nil ?_)
    | (refine WL.cons ?_)
    | ((show OP _ _ _ _ _ _ _ ⟨some _, .move _, _, _, _, none⟩ _ _); first | refine OP.move (v := .int _ _) rfl rfl ?_ | refine OP.move (v := .bool _) rfl rfl ?_ | refine OP.move (v := .complex _ _ _) rfl rfl ?_ | refine OP.move (v := .float _ _) rfl rfl ?_ | refine OP.move (v := .slice _ _ _) rfl rfl ?_ | refine OP.move (v := .pointer _) rfl rfl ?_ | refine OP.move (v := .agg _) rfl rfl ?_ | refine OP.move (v := .tuple _) rfl rfl ?_ | refine OP.move (v := .map _) rfl rfl ?_ | refine OP.move (v := .func _ _ _) rfl rfl ?_ | refine OP.move (v := _) rfl rfl ?_)
    | ((show OP _ _ _ _ _ _ _ ⟨some _, .assign _, _, _, _, none⟩ _ _); first | refine OP.assign (v := .int _ _) rfl rfl ?_ | refine OP.assign (v := .bool _) rfl rfl ?_ | refine OP.assign (v := .complex _ _ _) rfl rfl ?_ | refine OP.assign (v := .float _ _) rfl rfl ?_ | refine OP.assign (v := .slice _ _ _) rfl rfl ?_ | refine OP.assign (v := .pointer _) rfl rfl ?_ | refine OP.assign (v := .agg _) rfl rfl ?_ | refine OP.assign (v := .tuple _) rfl rfl ?_ | refine OP.assign (v := .map _) rfl rfl ?_ | refine OP.assign (v := .func _ _ _) rfl rfl ?_ | refine OP.assign (v := _) rfl rfl ?_)
    | ((show OP _ _ _ _ _ _ _ ⟨_, _, _, _, _, some _⟩ _ _); first | refine OP.guard_yes rfl rfl ?_ | refine OP.guard_no rfl rfl rfl rfl ?_ | refine OP.guard_un rfl rfl rfl ?_ | refine OP.guard_no0 rfl rfl rfl ?_ | (refine OP.guard_dec rfl rfl (fun h => ?_) (fun h => ?_) <;> (try (exfalso; omega))) | refine OP.guard_bool rfl rfl (fun h => ?_) (fun h => ?_))
    | ((show OP _ _ _ _ _ _ _ ⟨some _, .call _, _, _, _, none⟩ _ _); first | refine OP.len rfl rfl rfl ?_ | refine OP.real rfl rfl ?_ | refine OP.imag rfl rfl ?_ | refine OP.complex rfl rfl rfl ?_ | refine OP.max2 rfl rfl rfl ?_ | refine OP.min2 rfl rfl rfl ?_)
    | ((show OP _ _ _ _ _ _ _ ⟨some _, .binOp _ _ _ _ _, _, _, _, none⟩ _ _); first | (refine OP.add rfl rfl rfl ?_ ?_ ?_; omega; omega) | (refine OP.sub rfl rfl rfl ?_ ?_ ?_; omega; omega) | refine OP.lss rfl rfl rfl ?_ | refine OP.eql rfl rfl rfl ?_ | refine OP.neq rfl rfl rfl ?_ | refine OP.gtr rfl rfl rfl ?_ | refine OP.geq rfl rfl rfl ?_ | refine OP.leq rfl rfl rfl ?_ | refine OP.eql2 rfl rfl rfl ?_ | refine OP.neq2 rfl rfl rfl ?_ | refine OP.neqd rfl rfl rfl ?_ | refine OP.eqd rfl rfl rfl ?_ | refine OP.eqlb rfl rfl rfl ?_ | (refine OP.mul rfl rfl rfl ?_ ?_ ?_; omega; omega) | (refine OP.quoN rfl rfl rfl ?_ ?_ ?_ ?_; omega; omega; omega) | (refine OP.remN rfl rfl rfl ?_ ?_; omega) | (refine OP.quo rfl rfl rfl ?_ ?_ ?_ ?_ ?_; omega; omega; omega; omega) | (refine OP.rem rfl rfl rfl ?_ ?_ ?_; omega; omega))
    | ((show OP _ _ _ _ _ _ _ ⟨some _, .pick _ _ _, _, _, _, none⟩ _ _); first | refine OP.pick_true rfl rfl ?_ | refine OP.pick_false rfl rfl ?_)
    | (refine OP.extract rfl rfl rfl ?_)
    | (refine OP.fieldAddr rfl rfl ?_)
    | ((show OP _ _ _ _ _ _ _ ⟨some _, .load _ _, _, _, _, none⟩ _ _); first | refine OP.load rfl rfl (Sees.own (List.Mem.head _) rfl) ?_ | refine OP.load rfl rfl (Sees.own (List.Mem.tail _ (List.Mem.head _)) rfl) ?_ | refine OP.load rfl rfl (Sees.own (List.Mem.tail _ (List.Mem.tail _ (List.Mem.head _))) rfl) ?_ | refine OP.load rfl rfl (Sees.own (List.Mem.tail _ (List.Mem.tail _ (List.Mem.tail _ (List.Mem.head _)))) rfl) ?_ | refine OP.load rfl rfl (Sees.own (List.Mem.tail _ (List.Mem.tail _ (List.Mem.tail _ (List.Mem.tail _ (List.Mem.head _))))) rfl) ?_ | refine OP.load rfl rfl (Sees.own (List.Mem.tail _ (List.Mem.tail _ (List.Mem.tail _ (List.Mem.tail _ (List.Mem.tail _ (List.Mem.head _)))))) rfl) ?_ | refine OP.load rfl rfl (Sees.own (List.Mem.tail _ (List.Mem.tail _ (List.Mem.tail _ (List.Mem.tail _ (List.Mem.tail _ (List.Mem.tail _ (List.Mem.head _))))))) rfl) ?_ | refine OP.load rfl rfl (Sees.own (List.Mem.tail _ (List.Mem.tail _ (List.Mem.tail _ (List.Mem.tail _ (List.Mem.tail _ (List.Mem.tail _ (List.Mem.tail _ (List.Mem.head _)))))))) rfl) ?_ | refine OP.load rfl rfl (Sees.old0 (by assumption)) ?_ | refine OP.loadA rfl rfl (SeesN.own 2 (List.Mem.head _) rfl) rfl ?_ | refine OP.loadA rfl rfl (SeesN.own 3 (List.Mem.head _) rfl) rfl ?_ | refine OP.loadA rfl rfl (SeesN.own 2 (List.Mem.tail _ (List.Mem.head _)) rfl) rfl ?_ | refine OP.loadA rfl rfl (SeesN.own 3 (List.Mem.tail _ (List.Mem.head _)) rfl) rfl ?_ | refine OP.loadA rfl rfl (SeesN.own 2 (List.Mem.tail _ (List.Mem.tail _ (List.Mem.head _))) rfl) rfl ?_ | refine OP.loadA rfl rfl (SeesN.own 3 (List.Mem.tail _ (List.Mem.tail _ (List.Mem.head _))) rfl) rfl ?_ | refine OP.loadA rfl rfl (SeesN.own 2 (List.Mem.tail _ (List.Mem.tail _ (List.Mem.tail _ (List.Mem.head _)))) rfl) rfl ?_ | refine OP.loadA rfl rfl (SeesN.own 3 (List.Mem.tail _ (List.Mem.tail _ (List.Mem.tail _ (List.Mem.head _)))) rfl) rfl ?_ | refine OP.loadA rfl rfl (SeesN.own 2 (List.Mem.tail _ (List.Mem.tail _ (List.Mem.tail _ (List.Mem.tail _ (List.Mem.head _))))) rfl) rfl ?_ | refine OP.loadA rfl rfl (SeesN.own 3 (List.Mem.tail _ (List.Mem.tail _ (List.Mem.tail _ (List.Mem.tail _ (List.Mem.head _))))) rfl) rfl ?_ | refine OP.loadA rfl rfl (SeesN.own 2 (List.Mem.tail _ (List.Mem.tail _ (List.Mem.tail _ (List.Mem.tail _ (List.Mem.tail _ (List.Mem.head _)))))) rfl) rfl ?_ | refine OP.loadA rfl rfl (SeesN.own 3 (List.Mem.tail _ (List.Mem.tail _ (List.Mem.tail _ (List.Mem.tail _ (List.Mem.tail _ (List.Mem.head _)))))) rfl) rfl ?_ | refine OP.loadA rfl rfl (SeesN.own 2 (List.Mem.tail _ (List.Mem.tail _ (List.Mem.tail _ (List.Mem.tail _ (List.Mem.tail _ (List.Mem.tail _ (List.Mem.head _))))))) rfl) rfl ?_ | refine OP.loadA rfl rfl (SeesN.own 3 (List.Mem.tail _ (List.Mem.tail _ (List.Mem.tail _ (List.Mem.tail _ (List.Mem.tail _ (List.Mem.tail _ (List.Mem.head _))))))) rfl) rfl ?_ | refine OP.loadA rfl rfl (SeesN.own 2 (List.Mem.tail _ (List.Mem.tail _ (List.Mem.tail _ (List.Mem.tail _ (List.Mem.tail _ (List.Mem.tail _ (List.Mem.tail _ (List.Mem.head _)))))))) rfl) rfl ?_ | refine OP.loadA rfl rfl (SeesN.own 3 (List.Mem.tail _ (List.Mem.tail _ (List.Mem.tail _ (List.Mem.tail _ (List.Mem.tail _ (List.Mem.tail _ (List.Mem.tail _ (List.Mem.head _)))))))) rfl) rfl ?_)
    | ((show OP _ _ _ _ _ _ _ ⟨none, .store _ _ _, _, _, _, none⟩ _ _); first | refine OP.store0 (vs := [_]) rfl rfl rfl rfl rfl ?_ | refine OP.store0 (vs := [_, _]) rfl rfl rfl rfl rfl ?_ | refine OP.store0 (vs := [_, _, _]) rfl rfl rfl rfl rfl ?_ | refine OP.store1 (vs := [_]) rfl rfl rfl rfl rfl ?_ | refine OP.store1 (vs := [_, _]) rfl rfl rfl rfl rfl ?_ | refine OP.store1 (vs := [_, _, _]) rfl rfl rfl rfl rfl ?_ | refine OP.store2 (vs := [_]) rfl rfl rfl rfl rfl ?_ | refine OP.store2 (vs := [_, _]) rfl rfl rfl rfl rfl ?_ | refine OP.store2 (vs := [_, _, _]) rfl rfl rfl rfl rfl ?_ | refine OP.store3 (vs := [_]) rfl rfl rfl rfl rfl ?_ | refine OP.store3 (vs := [_, _]) rfl rfl rfl rfl rfl ?_ | refine OP.store3 (vs := [_, _, _]) rfl rfl rfl rfl rfl ?_ | refine OP.store4 (vs := [_]) rfl rfl rfl rfl rfl ?_ | refine OP.store4 (vs := [_, _]) rfl rfl rfl rfl rfl ?_ | refine OP.store4 (vs := [_, _, _]) rfl rfl rfl rfl rfl ?_ | refine OP.store5 (vs := [_]) rfl rfl rfl rfl rfl ?_ | refine OP.store5 (vs := [_, _]) rfl rfl rfl rfl rfl ?_ | refine OP.store5 (vs := [_, _, _]) rfl rfl rfl rfl rfl ?_ | refine OP.store6 (vs := [_]) rfl rfl rfl rfl rfl ?_ | refine OP.store6 (vs := [_, _]) rfl rfl rfl rfl rfl ?_ | refine OP.store6 (vs := [_, _, _]) rfl rfl rfl rfl rfl ?_ | refine OP.store7 (vs := [_]) rfl rfl rfl rfl rfl ?_ | refine OP.store7 (vs := [_, _]) rfl rfl rfl rfl rfl ?_ | refine OP.store7 (vs := [_, _, _]) rfl rfl rfl rfl rfl ?_)
    | ((show OP _ _ _ _ _ _ _ ⟨_, .unOp _ _ _, _, _, _, none⟩ _ _); first | refine OP.notd rfl rfl ?_ | refine OP.not rfl rfl ?_ | (refine OP.neg rfl rfl ?_ ?_ ?_; omega; omega))
    | ((show OP _ _ _ _ _ _ _ ⟨_, .convert _ _ _, _, _, _, none⟩ _ _); first | (refine OP.conv rfl rfl ?_ ?_ ?_; omega; omega))
    | (refine OP.makeMap rfl (fun _ => ?_))
    | (refine OP.box rfl rfl (fun _ => ?_))
    | (refine OP.alloc rfl rfl (fun _ => ?_))
    | (refine OP.build rfl rfl ?_)
    | (refine OP.buildSlice rfl rfl ?_ rfl rfl (fun _ => ?_); (decide))
    | (refine OP.buildSlice0 rfl rfl (fun _ => ?_))
    | (refine OP.makeFunc rfl ?_)
    | (refine OP.field1 rfl rfl rfl ?_))
  all_goals first
    | (refine Fin.loop_normal fun w' hst => ⟨k + 1, by omega, by omega, by (repeat' (first | exact Agree.refl _ _ | refine Agree.upd rfl ?_ | refine Agree.hav rfl ?_)), ⟨rfl, trivial⟩, hst⟩)
    | (refine Fin.drop (List.nil_sublist _) ?_; refine Fin.ret1 (h0 := .inl rfl) rfl rfl ?_; exact ⟨rfl, rfl⟩)

def widF (f g : Nat → Int) : Nat → Int
  | 0 => 0
  | k + 1 => IntKind.i64.wrap (widF f g k + IntKind.i64.wrap (g k - f k))

set_option maxHeartbeats 1000000 in
theorem Width_fn (a a' : Option Addr) (n n' c c' b b' o o' : Nat) (f g : Nat → Int) (ha : 0 < n → a = some ⟨b, o, none⟩) (ha' : 0 < n' → a' = some ⟨b', o', none⟩) (hn : n ≤ 4611686018427387904) (hn' : n' ≤ 4611686018427387904) (w : World) (r : RdI w b o n f) (r' : RdI w b' o' n' g) :
    Does Try.prog 14 #[.slice a n c, .slice a' n' c'] [] w fun v Γ => v = .int .i64 (widF f g (min n n')) ∧ Γ = [] := by
  refine Does.enter Try.func14 rfl Try.ntmps14 rfl (St.start w) ?_
  repeat' (first
    | (refine Fin.tail ?_)
    | (refine Fin.then_normal ?_)
    | (refine Fin.then_exit ?_)
    | (refine Fin.then_ret ?_)
    | (refine Fin.block_normal ?_)
    | (refine Fin.block_ret ?_)
    | (refine Fin.block_hit ?_)
    | (refine Fin.block_miss rfl ?_)
    | (refine Fin.loop_exit ?_)
    | (refine Fin.loop_ret ?_)
    | (refine WP.seq ?_)
    | (refine WP.regionQ (by kernel_rfl) (by kernel_rfl) ?_)
    | (refine WP.block ?_)
    | (refine WP.region ?_)
    | (refine WP.skip ?_)
    | (refine WP.exit ?_)
    | (refine WP.ret ?_)
    | (refine WP.label ?_)
    | (refine WP.cond_true rfl ?_)
    | (refine WP.cond_false rfl ?_)
    | (refine WP.cond_dec rfl (fun h => ?_) (fun h => ?_) <;> (try (exfalso; omega)))
    | (refine WP.cond_bool rfl (fun h => ?_) (fun h => ?_))
    | (refine WL.nil ?_)
    | (refine WL.cons ?_)
    | ((show OP _ _ _ _ _ _ _ ⟨some _, .move _, _, _, _, none⟩ _ _); first | refine OP.move (v := .int _ _) rfl rfl ?_ | refine OP.move (v := .bool _) rfl rfl ?_ | refine OP.move (v := .complex _ _ _) rfl rfl ?_ | refine OP.move (v := .float _ _) rfl rfl ?_ | refine OP.move (v := .slice _ _ _) rfl rfl ?_ | refine OP.move (v := .pointer _) rfl rfl ?_ | refine OP.move (v := .agg _) rfl rfl ?_ | refine OP.move (v := .tuple _) rfl rfl ?_ | refine OP.move (v := .map _) rfl rfl ?_ | refine OP.move (v := .func _ _ _) rfl rfl ?_ | refine OP.move (v := _) rfl rfl ?_)
    | ((show OP _ _ _ _ _ _ _ ⟨some _, .assign _, _, _, _, none⟩ _ _); first | refine OP.assign (v := .int _ _) rfl rfl ?_ | refine OP.assign (v := .bool _) rfl rfl ?_ | refine OP.assign (v := .complex _ _ _) rfl rfl ?_ | refine OP.assign (v := .float _ _) rfl rfl ?_ | refine OP.assign (v := .slice _ _ _) rfl rfl ?_ | refine OP.assign (v := .pointer _) rfl rfl ?_ | refine OP.assign (v := .agg _) rfl rfl ?_ | refine OP.assign (v := .tuple _) rfl rfl ?_ | refine OP.assign (v := .map _) rfl rfl ?_ | refine OP.assign (v := .func _ _ _) rfl rfl ?_ | refine OP.assign (v := _) rfl rfl ?_)
    | ((show OP _ _ _ _ _ _ _ ⟨_, _, _, _, _, some _⟩ _ _); first | refine OP.guard_yes rfl rfl ?_ | refine OP.guard_no rfl rfl rfl rfl ?_ | refine OP.guard_un rfl rfl rfl ?_ | refine OP.guard_no0 rfl rfl rfl ?_ | (refine OP.guard_dec rfl rfl (fun h => ?_) (fun h => ?_) <;> (try (exfalso; omega))) | refine OP.guard_bool rfl rfl (fun h => ?_) (fun h => ?_))
    | ((show OP _ _ _ _ _ _ _ ⟨some _, .call _, _, _, _, none⟩ _ _); first | refine OP.len rfl rfl rfl ?_ | refine OP.real rfl rfl ?_ | refine OP.imag rfl rfl ?_ | refine OP.complex rfl rfl rfl ?_ | refine OP.max2 rfl rfl rfl ?_ | refine OP.min2 rfl rfl rfl ?_)
    | ((show OP _ _ _ _ _ _ _ ⟨some _, .binOp _ _ _ _ _, _, _, _, none⟩ _ _); first | (refine OP.add rfl rfl rfl ?_ ?_ ?_; omega; omega) | (refine OP.sub rfl rfl rfl ?_ ?_ ?_; omega; omega) | refine OP.lss rfl rfl rfl ?_ | refine OP.eql rfl rfl rfl ?_ | refine OP.neq rfl rfl rfl ?_ | refine OP.gtr rfl rfl rfl ?_ | refine OP.geq rfl rfl rfl ?_ | refine OP.leq rfl rfl rfl ?_ | refine OP.eql2 rfl rfl rfl ?_ | refine OP.neq2 rfl rfl rfl ?_ | refine OP.neqd rfl rfl rfl ?_ | refine OP.eqd rfl rfl rfl ?_ | refine OP.eqlb rfl rfl rfl ?_ | (refine OP.mul rfl rfl rfl ?_ ?_ ?_; omega; omega) | (refine OP.quoN rfl rfl rfl ?_ ?_ ?_ ?_; omega; omega; omega) | (refine OP.remN rfl rfl rfl ?_ ?_; omega) | (refine OP.quo rfl rfl rfl ?_ ?_ ?_ ?_ ?_; omega; omega; omega; omega) | (refine OP.rem rfl rfl rfl ?_ ?_ ?_; omega; omega))
    | ((show OP _ _ _ _ _ _ _ ⟨some _, .pick _ _ _, _, _, _, none⟩ _ _); first | refine OP.pick_true rfl rfl ?_ | refine OP.pick_false rfl rfl ?_)
    | (refine OP.extract rfl rfl rfl ?_)
    | (refine OP.fieldAddr rfl rfl ?_)
    | ((show OP _ _ _ _ _ _ _ ⟨some _, .load _ _, _, _, _, none⟩ _ _); first | refine OP.load rfl rfl (Sees.own (List.Mem.head _) rfl) ?_ | refine OP.load rfl rfl (Sees.own (List.Mem.tail _ (List.Mem.head _)) rfl) ?_ | refine OP.load rfl rfl (Sees.own (List.Mem.tail _ (List.Mem.tail _ (List.Mem.head _))) rfl) ?_ | refine OP.load rfl rfl (Sees.own (List.Mem.tail _ (List.Mem.tail _ (List.Mem.tail _ (List.Mem.head _)))) rfl) ?_ | refine OP.load rfl rfl (Sees.own (List.Mem.tail _ (List.Mem.tail _ (List.Mem.tail _ (List.Mem.tail _ (List.Mem.head _))))) rfl) ?_ | refine OP.load rfl rfl (Sees.own (List.Mem.tail _ (List.Mem.tail _ (List.Mem.tail _ (List.Mem.tail _ (List.Mem.tail _ (List.Mem.head _)))))) rfl) ?_ | refine OP.load rfl rfl (Sees.own (List.Mem.tail _ (List.Mem.tail _ (List.Mem.tail _ (List.Mem.tail _ (List.Mem.tail _ (List.Mem.tail _ (List.Mem.head _))))))) rfl) ?_ | refine OP.load rfl rfl (Sees.own (List.Mem.tail _ (List.Mem.tail _ (List.Mem.tail _ (List.Mem.tail _ (List.Mem.tail _ (List.Mem.tail _ (List.Mem.tail _ (List.Mem.head _)))))))) rfl) ?_ | refine OP.load rfl rfl (Sees.old0 (by assumption)) ?_ | refine OP.loadA rfl rfl (SeesN.own 2 (List.Mem.head _) rfl) rfl ?_ | refine OP.loadA rfl rfl (SeesN.own 3 (List.Mem.head _) rfl) rfl ?_ | refine OP.loadA rfl rfl (SeesN.own 2 (List.Mem.tail _ (List.Mem.head _)) rfl) rfl ?_ | refine OP.loadA rfl rfl (SeesN.own 3 (List.Mem.tail _ (List.Mem.head _)) rfl) rfl ?_ | refine OP.loadA rfl rfl (SeesN.own 2 (List.Mem.tail _ (List.Mem.tail _ (List.Mem.head _))) rfl) rfl ?_ | refine OP.loadA rfl rfl (SeesN.own 3 (List.Mem.tail _ (List.Mem.tail _ (List.Mem.head _))) rfl) rfl ?_ | refine OP.loadA rfl rfl (SeesN.own 2 (List.Mem.tail _ (List.Mem.tail _ (List.Mem.tail _ (List.Mem.head _)))) rfl) rfl ?_ | refine OP.loadA rfl rfl (SeesN.own 3 (List.Mem.tail _ (List.Mem.tail _ (List.Mem.tail _ (List.Mem.head _)))) rfl) rfl ?_ | refine OP.loadA rfl rfl (SeesN.own 2 (List.Mem.tail _ (List.Mem.tail _ (List.Mem.tail _ (List.Mem.tail _ (List.Mem.head _))))) rfl) rfl ?_ | refine OP.loadA rfl rfl (SeesN.own 3 (List.Mem.tail _ (List.Mem.tail _ (List.Mem.tail _ (List.Mem.tail _ (List.Mem.head _))))) rfl) rfl ?_ | refine OP.loadA rfl rfl (SeesN.own 2 (List.Mem.tail _ (List.Mem.tail _ (List.Mem.tail _ (List.Mem.tail _ (List.Mem.tail _ (List.Mem.head _)))))) rfl) rfl ?_ | refine OP.loadA rfl rfl (SeesN.own 3 (List.Mem.tail _ (List.Mem.tail _ (List.Mem.tail _ (List.Mem.tail _ (List.Mem.tail _ (List.Mem.head _)))))) rfl) rfl ?_ | refine OP.loadA rfl rfl (SeesN.own 2 (List.Mem.tail _ (List.Mem.tail _ (List.Mem.tail _ (List.Mem.tail _ (List.Mem.tail _ (List.Mem.tail _ (List.Mem.head _))))))) rfl) rfl ?_ | refine OP.loadA rfl rfl (SeesN.own 3 (List.Mem.tail _ (List.Mem.tail _ (List.Mem.tail _ (List.Mem.tail _ (List.Mem.tail _ (List.Mem.tail _ (List.Mem.head _))))))) rfl) rfl ?_ | refine OP.loadA rfl rfl (SeesN.own 2 (List.Mem.tail _ (List.Mem.tail _ (List.Mem.tail _ (List.Mem.tail _ (List.Mem.tail _ (List.Mem.tail _ (List.Mem.tail _ (List.Mem.head _)))))))) rfl) rfl ?_ | refine OP.loadA rfl rfl (SeesN.own 3 (List.Mem.tail _ (List.Mem.tail _ (List.Mem.tail _ (List.Mem.tail _ (List.Mem.tail _ (List.Mem.tail _ (List.Mem.tail _ (List.Mem.head _)))))))) rfl) rfl ?_)
    | ((show OP _ _ _ _ _ _ _ ⟨none, .store _ _ _, _, _, _, none⟩ _ _); first | refine OP.store0 (vs := [_]) rfl rfl rfl rfl rfl ?_ | refine OP.store0 (vs := [_, _]) rfl rfl rfl rfl rfl ?_ | refine OP.store0 (vs := [_, _, _]) rfl rfl rfl rfl rfl ?_ | refine OP.store1 (vs := [_]) rfl rfl rfl rfl rfl ?_ | refine OP.store1 (vs := [_, _]) rfl rfl rfl rfl rfl ?_ | refine OP.store1 (vs := [_, _, _]) rfl rfl rfl rfl rfl ?_ | refine OP.store2 (vs := [_]) rfl rfl rfl rfl rfl ?_ | refine OP.store2 (vs := [_, _]) rfl rfl rfl rfl rfl ?_ | refine OP.store2 (vs := [_, _, _]) rfl rfl rfl rfl rfl ?_ | refine OP.store3 (vs := [_]) rfl rfl rfl rfl rfl ?_ | refine OP.store3 (vs := [_, _]) rfl rfl rfl rfl rfl ?_ | refine OP.store3 (vs := [_, _, _]) rfl rfl rfl rfl rfl ?_ | refine OP.store4 (vs := [_]) rfl rfl rfl rfl rfl ?_ | refine OP.store4 (vs := [_, _]) rfl rfl rfl rfl rfl ?_ | refine OP.store4 (vs := [_, _, _]) rfl rfl rfl rfl rfl ?_ | refine OP.store5 (vs := [_]) rfl rfl rfl rfl rfl ?_ | refine OP.store5 (vs := [_, _]) rfl rfl rfl rfl rfl ?_ | refine OP.store5 (vs := [_, _, _]) rfl rfl rfl rfl rfl ?_ | refine OP.store6 (vs := [_]) rfl rfl rfl rfl rfl ?_ | refine OP.store6 (vs := [_, _]) rfl rfl rfl rfl rfl ?_ | refine OP.store6 (vs := [_, _, _]) rfl rfl rfl rfl rfl ?_ | refine OP.store7 (vs := [_]) rfl rfl rfl rfl rfl ?_ | refine OP.store7 (vs := [_, _]) rfl rfl rfl rfl rfl ?_ | refine OP.store7 (vs := [_, _, _]) rfl rfl rfl rfl rfl ?_)
    | ((show OP _ _ _ _ _ _ _ ⟨_, .unOp _ _ _, _, _, _, none⟩ _ _); first | refine OP.notd rfl rfl ?_ | refine OP.not rfl rfl ?_ | (refine OP.neg rfl rfl ?_ ?_ ?_; omega; omega))
    | ((show OP _ _ _ _ _ _ _ ⟨_, .convert _ _ _, _, _, _, none⟩ _ _); first | (refine OP.conv rfl rfl ?_ ?_ ?_; omega; omega))
    | (refine OP.makeMap rfl (fun _ => ?_))
    | (refine OP.box rfl rfl (fun _ => ?_))
    | (refine OP.alloc rfl rfl (fun _ => ?_))
    | (refine OP.build rfl rfl ?_)
    | (refine OP.buildSlice rfl rfl ?_ rfl rfl (fun _ => ?_); (decide))
    | (refine OP.buildSlice0 rfl rfl (fun _ => ?_))
    | (refine OP.makeFunc rfl ?_)
    | (refine OP.field1 rfl rfl rfl ?_))
  refine WP.loop [5, 6, 12, 13, 14, 15, 16, 17, 18, 19, 20, 21, 22, 23, 24, 25, 26] (fun k : Nat => [(5, .int .i64 (widF f g k)), (12, .int .i64 k)]) (fun _ => _) (fun k => k ≤ min n n') (fun k => min n n' - k) 0 (by omega) rfl ⟨rfl, rfl, trivial⟩ ?_
  rintro k j k1
  dsimp only [updL]
  repeat' (first
    | refine OP.indexAddrO (j := k) rfl rfl (ha (by omega)) rfl rfl (by omega) ?_
    | refine OP.indexAddrO (j := k) rfl rfl (ha' (by omega)) rfl rfl (by omega) ?_
    | refine OP.load rfl rfl (r.see (by omega) _) ?_
    | refine OP.load rfl rfl (r'.see (by omega) _) ?_
    | (refine Fin.tail ?_)
    | (refine Fin.then_normal ?_)
    | (refine Fin.then_exit ?_)
    | (refine Fin.then_ret ?_)
    | (refine Fin.block_normal ?_)
    | (refine Fin.block_ret ?_)
    | (refine Fin.block_hit ?_)
    | (refine Fin.block_miss rfl ?_)
    | (refine Fin.loop_exit ?_)
    | (refine Fin.loop_ret ?_)
    | (refine WP.seq ?_)
    | (refine WP.regionQ (by kernel_rfl) (by kernel_rfl) ?_)
    | (refine WP.block ?_)
    | (refine WP.region ?_)
    | (refine WP.skip ?_)
    | (refine WP.exit ?_)
    | (refine WP.ret ?_)
    | (refine WP.label ?_)
    | (refine WP.cond_true rfl ?_)
    | (refine WP.cond_false rfl ?_)
    | (refine WP.cond_dec rfl (fun h => ?_) (fun h => ?_) <;> (try (exfalso; omega)))
    | (refine WP.cond_bool rfl (fun h => ?_) (fun h => ?_))
    | (refine WL.nil ?_)
    | (refine WL.cons ?_)
    | ((show OP _ _ _ _ _ _ _ ⟨some _, .move _, _, _, _, none⟩ _ _); first | refine OP.move (v := .int _ _) rfl rfl ?_ | refine OP.move (v := .bool _) rfl rfl ?_ | refine OP.move (v := .complex _ _ _) rfl rfl ?_ | refine OP.move (v := .float _ _) rfl rfl ?_ | refine OP.move (v := .slice _ _ _) rfl rfl ?_ | refine OP.move (v := .pointer _) rfl rfl ?_ | refine OP.move (v := .agg _) rfl rfl ?_ | refine OP.move (v := .tuple _) rfl rfl ?_ | refine OP.move (v := .map _) rfl rfl ?_ | refine OP.move (v := .func _ _ _) rfl rfl ?_ | refine OP.move (v := _) rfl rfl ?_)
    | ((show OP _ _ _ _ _ _ _ ⟨some _, .assign _, _, _, _, none⟩ _ _); first | refine OP.assign (v := .int _ _) rfl rfl ?_ | refine OP.assign (v := .bool _) rfl rfl ?_ | refine OP.assign (v := .complex _ _ _) rfl rfl ?_ | refine OP.assign (v := .float _ _) rfl rfl ?_ | refine OP.assign (v := .slice _ _ _) rfl rfl ?_ | refine OP.assign (v := .pointer _) rfl rfl ?_ | refine OP.assign (v := .agg _) rfl rfl ?_ | refine OP.assign (v := .tuple _) rfl rfl ?_ | refine OP.assign (v := .map _) rfl rfl ?_ | refine OP.assign (v := .func _ _ _) rfl rfl ?_ | refine OP.assign (v := _) rfl rfl ?_)
    | ((show OP _ _ _ _ _ _ _ ⟨_, _, _, _, _, some _⟩ _ _); first | refine OP.guard_yes rfl rfl ?_ | refine OP.guard_no rfl rfl rfl rfl ?_ | refine OP.guard_un rfl rfl rfl ?_ | refine OP.guard_no0 rfl rfl rfl ?_ | (refine OP.guard_dec rfl rfl (fun h => ?_) (fun h => ?_) <;> (try (exfalso; omega))) | refine OP.guard_bool rfl rfl (fun h => ?_) (fun h => ?_))
    | ((show OP _ _ _ _ _ _ _ ⟨some _, .call _, _, _, _, none⟩ _ _); first | refine OP.len rfl rfl rfl ?_ | refine OP.real rfl rfl ?_ | refine OP.imag rfl rfl ?_ | refine OP.complex rfl rfl rfl ?_ | refine OP.max2 rfl rfl rfl ?_ | refine OP.min2 rfl rfl rfl ?_)
    | ((show OP _ _ _ _ _ _ _ ⟨some _, .binOp _ _ _ _ _, _, _, _, none⟩ _ _); first | (refine OP.add rfl rfl rfl ?_ ?_ ?_; omega; omega) | (refine OP.sub rfl rfl rfl ?_ ?_ ?_; omega; omega) | refine OP.lss rfl rfl rfl ?_ | refine OP.eql rfl rfl rfl ?_ | refine OP.neq rfl rfl rfl ?_ | refine OP.gtr rfl rfl rfl ?_ | refine OP.geq rfl rfl rfl ?_ | refine OP.leq rfl rfl rfl ?_ | refine OP.eql2 rfl rfl rfl ?_ | refine OP.neq2 rfl rfl rfl ?_ | refine OP.neqd rfl rfl rfl ?_ | refine OP.eqd rfl rfl rfl ?_ | refine OP.eqlb rfl rfl rfl ?_ | (refine OP.mul rfl rfl rfl ?_ ?_ ?_; omega; omega) | (refine OP.quoN rfl rfl rfl ?_ ?_ ?_ ?_; omega; omega; omega) | (refine OP.remN rfl rfl rfl ?_ ?_; omega) | (refine OP.quo rfl rfl rfl ?_ ?_ ?_ ?_ ?_; omega; omega; omega; omega) | (refine OP.rem rfl rfl rfl ?_ ?_ ?_; omega; omega) | refine OP.addw rfl rfl rfl ?_ | refine OP.subw rfl rfl rfl ?_)
    | ((show OP _ _ _ _ _ _ _ ⟨some _, .pick _ _ _, _, _, _, none⟩ _ _); first | refine OP.pick_true rfl rfl ?_ | refine OP.pick_false rfl rfl ?_)
    | (refine OP.extract rfl rfl rfl ?_)
    | (refine OP.fieldAddr rfl rfl ?_)
    | ((show OP _ _ _ _ _ _ _ ⟨some _, .load _ _, _, _, _, none⟩ _ _); first | refine OP.load rfl rfl (Sees.own (List.Mem.head _) rfl) ?_ | refine OP.load rfl rfl (Sees.own (List.Mem.tail _ (List.Mem.head _)) rfl) ?_ | refine OP.load rfl rfl (Sees.own (List.Mem.tail _ (List.Mem.tail _ (List.Mem.head _))) rfl) ?_ | refine OP.load rfl rfl (Sees.own (List.Mem.tail _ (List.Mem.tail _ (List.Mem.tail _ (List.Mem.head _)))) rfl) ?_ | refine OP.load rfl rfl (Sees.own (List.Mem.tail _ (List.Mem.tail _ (List.Mem.tail _ (List.Mem.tail _ (List.Mem.head _))))) rfl) ?_ | refine OP.load rfl rfl (Sees.own (List.Mem.tail _ (List.Mem.tail _ (List.Mem.tail _ (List.Mem.tail _ (List.Mem.tail _ (List.Mem.head _)))))) rfl) ?_ | refine OP.load rfl rfl (Sees.own (List.Mem.tail _ (List.Mem.tail _ (List.Mem.tail _ (List.Mem.tail _ (List.Mem.tail _ (List.Mem.tail _ (List.Mem.head _))))))) rfl) ?_ | refine OP.load rfl rfl (Sees.own (List.Mem.tail _ (List.Mem.tail _ (List.Mem.tail _ (List.Mem.tail _ (List.Mem.tail _ (List.Mem.tail _ (List.Mem.tail _ (List.Mem.head _)))))))) rfl) ?_ | refine OP.load rfl rfl (Sees.old0 (by assumption)) ?_ | refine OP.loadA rfl rfl (SeesN.own 2 (List.Mem.head _) rfl) rfl ?_ | refine OP.loadA rfl rfl (SeesN.own 3 (List.Mem.head _) rfl) rfl ?_ | refine OP.loadA rfl rfl (SeesN.own 2 (List.Mem.tail _ (List.Mem.head _)) rfl) rfl ?_ | refine OP.loadA rfl rfl (SeesN.own 3 (List.Mem.tail _ (List.Mem.head _)) rfl) rfl ?_ | refine OP.loadA rfl rfl (SeesN.own 2 (List.Mem.tail _ (List.Mem.tail _ (List.Mem.head _))) rfl) rfl ?_ | refine OP.loadA rfl rfl (SeesN.own 3 (List.Mem.tail _ (List.Mem.tail _ (List.Mem.head _))) rfl) rfl ?_ | refine OP.loadA rfl rfl (SeesN.own 2 (List.Mem.tail _ (List.Mem.tail _ (List.Mem.tail _ (List.Mem.head _)))) rfl) rfl ?_ | refine OP.loadA rfl rfl (SeesN.own 3 (List.Mem.tail _ (List.Mem.tail _ (List.Mem.tail _ (List.Mem.head _)))) rfl) rfl ?_ | refine OP.loadA rfl rfl (SeesN.own 2 (List.Mem.tail _ (List.Mem.tail _ (List.Mem.tail _ (List.Mem.tail _ (List.Mem.head _))))) rfl) rfl ?_ | refine OP.loadA rfl rfl (SeesN.own 3 (List.Mem.tail _ (List.Mem.tail _ (List.Mem.tail _ (List.Mem.tail _ (List.Mem.head _))))) rfl) rfl ?_ | refine OP.loadA rfl rfl (SeesN.own 2 (List.Mem.tail _ (List.Mem.tail _ (List.Mem.tail _ (List.Mem.tail _ (List.Mem.tail _ (List.Mem.head _)))))) rfl) rfl ?_ | refine OP.loadA rfl rfl (SeesN.own 3 (List.Mem.tail _ (List.Mem.tail _ (List.Mem.tail _ (List.Mem.tail _ (List.Mem.tail _ (List.Mem.head _)))))) rfl) rfl ?_ | refine OP.loadA rfl rfl (SeesN.own 2 (List.Mem.tail _ (List.Mem.tail _ (List.Mem.tail _ (List.Mem.tail _ (List.Mem.tail _ (List.Mem.tail _ (List.Mem.head _))))))) rfl) rfl ?_ | refine OP.loadA rfl rfl (SeesN.own 3 (List.Mem.tail _ (List.Mem.tail _ (List.Mem.tail _ (List.Mem.tail _ (List.Mem.tail _ (List.Mem.tail _ (List.Mem.head _))))))) rfl) rfl ?_ | refine OP.loadA rfl rfl (SeesN.own 2 (List.Mem.tail _ (List.Mem.tail _ (List.Mem.tail _ (List.Mem.tail _ (List.Mem.tail _ (List.Mem.tail _ (List.Mem.tail _ (List.Mem.head _)))))))) rfl) rfl ?_ | refine OP.loadA rfl rfl (SeesN.own 3 (List.Mem.tail _ (List.Mem.tail _ (List.Mem.tail _ (List.Mem.tail _ (List.Mem.tail _ (List.Mem.tail _ (List.Mem.tail _ (List.Mem.head _)))))))) rfl) rfl ?_)
    | ((show OP _ _ _ _ _ _ _ ⟨none, .store _ _ _, _, _, _, none⟩ _ _); first | refine OP.store0 (vs := [_]) rfl rfl rfl rfl rfl ?_ | refine OP.store0 (vs := [_, _]) rfl rfl rfl rfl rfl ?_ | refine OP.store0 (vs := [_, _, _]) rfl rfl rfl rfl rfl ?_ | refine OP.store1 (vs := [_]) rfl rfl rfl rfl rfl ?_ | refine OP.store1 (vs := [_, _]) rfl rfl rfl rfl rfl ?_ | refine OP.store1 (vs := [_, _, _]) rfl rfl rfl rfl rfl ?_ | refine OP.store2 (vs := [_]) rfl rfl rfl rfl rfl ?_ | refine OP.store2 (vs := [_, _]) rfl rfl rfl rfl rfl ?_ | refine OP.store2 (vs := [_, _, _]) rfl rfl rfl rfl rfl ?_ | refine OP.store3 (vs := [_]) rfl rfl rfl rfl rfl ?_ | refine OP.store3 (vs := [_, _]) rfl rfl rfl rfl rfl ?_ | refine OP.store3 (vs := [_, _, _]) rfl rfl rfl rfl rfl ?_ | refine OP.store4 (vs := [_]) rfl rfl rfl rfl rfl ?_ | refine OP.store4 (vs := [_, _]) rfl rfl rfl rfl rfl ?_ | refine OP.store4 (vs := [_, _, _]) rfl rfl rfl rfl rfl ?_ | refine OP.store5 (vs := [_]) rfl rfl rfl rfl rfl ?_ | refine OP.store5 (vs := [_, _]) rfl rfl rfl rfl rfl ?_ | refine OP.store5 (vs := [_, _, _]) rfl rfl rfl rfl rfl ?_ | refine OP.store6 (vs := [_]) rfl rfl rfl rfl rfl ?_ | refine OP.store6 (vs := [_, _]) rfl rfl rfl rfl rfl ?_ | refine OP.store6 (vs := [_, _, _]) rfl rfl rfl rfl rfl ?_ | refine OP.store7 (vs := [_]) rfl rfl rfl rfl rfl ?_ | refine OP.store7 (vs := [_, _]) rfl rfl rfl rfl rfl ?_ | refine OP.store7 (vs := [_, _, _]) rfl rfl rfl rfl rfl ?_)
    | ((show OP _ _ _ _ _ _ _ ⟨_, .unOp _ _ _, _, _, _, none⟩ _ _); first | refine OP.notd rfl rfl ?_ | refine OP.not rfl rfl ?_ | (refine OP.neg rfl rfl ?_ ?_ ?_; omega; omega))
    | ((show OP _ _ _ _ _ _ _ ⟨_, .convert _ _ _, _, _, _, none⟩ _ _); first | (refine OP.conv rfl rfl ?_ ?_ ?_; omega; omega))
    | (refine OP.makeMap rfl (fun _ => ?_))
    | (refine OP.box rfl rfl (fun _ => ?_))
    | (refine OP.alloc rfl rfl (fun _ => ?_))
    | (refine OP.build rfl rfl ?_)
    | (refine OP.buildSlice rfl rfl ?_ rfl rfl (fun _ => ?_); (decide))
    | (refine OP.buildSlice0 rfl rfl (fun _ => ?_))
    | (refine OP.makeFunc rfl ?_)
    | (refine OP.field1 rfl rfl rfl ?_))
  · refine Fin.loop_normal fun w' hst => ⟨k + 1, by omega, by omega, by (repeat' (first | exact Agree.refl _ _ | refine Agree.upd rfl ?_ | refine Agree.hav rfl ?_)), ⟨rfl, rfl, trivial⟩, hst⟩
  · have e : k = min n n' := by omega
    refine Fin.drop (List.nil_sublist _) ?_
    refine Fin.ret1 (h0 := .inl rfl) rfl rfl ?_
    exact ⟨by rw [← e]; rfl, rfl⟩

set_option maxHeartbeats 1000000 in
theorem rWidth_fn (a a' : Option Addr) (n n' c c' b b' o o' : Nat) (f g : Nat → Int) (ha : 0 < n → a = some ⟨b, o, none⟩) (ha' : 0 < n' → a' = some ⟨b', o', none⟩) (hn : n ≤ 4611686018427387904) (hn' : n' ≤ 4611686018427387904) (w : World) (r : RdI w b o n f) (r' : RdI w b' o' n' g) :
    Does Try.prog 15 #[.slice a n c, .slice a' n' c'] [] w fun v Γ => v = .int .i64 (widF f g (min n n')) ∧ Γ = [] := by
  refine Does.enter Try.func15 rfl Try.ntmps15 rfl (St.start w) ?_
  repeat' (first
    | (refine Fin.tail ?_)
    | (refine Fin.then_normal ?_)
    | (refine Fin.then_exit ?_)
    | (refine Fin.then_ret ?_)
    | (refine Fin.block_normal ?_)
    | (refine Fin.block_ret ?_)
    | (refine Fin.block_hit ?_)
    | (refine Fin.block_miss rfl ?_)
    | (refine Fin.loop_exit ?_)
    | (refine Fin.loop_ret ?_)
    | (refine WP.seq ?_)
    | (refine WP.regionQ (by kernel_rfl) (by kernel_rfl) ?_)
    | (refine WP.block ?_)
    | (refine WP.region ?_)
    | (refine WP.skip ?_)
    | (refine WP.exit ?_)
    | (refine WP.ret ?_)
    | (refine WP.label ?_)
    | (refine WP.cond_true rfl ?_)
    | (refine WP.cond_false rfl ?_)
    | (refine WP.cond_dec rfl (fun h => ?_) (fun h => ?_) <;> (try (exfalso; omega)))
    | (refine WP.cond_bool rfl (fun h => ?_) (fun h => ?_))
    | (refine WL.nil ?_)
    | (refine WL.cons ?_)
    | ((show OP _ _ _ _ _ _ _ ⟨some _, .move _, _, _, _, none⟩ _ _); first | refine OP.move (v := .int _ _) rfl rfl ?_ | refine OP.move (v := .bool _) rfl rfl ?_ | refine OP.move (v := .complex _ _ _) rfl rfl ?_ | refine OP.move (v := .float _ _) rfl rfl ?_ | refine OP.move (v := .slice _ _ _) rfl rfl ?_ | refine OP.move (v := .pointer _) rfl rfl ?_ | refine OP.move (v := .agg _) rfl rfl ?_ | refine OP.move (v := .tuple _) rfl rfl ?_ | refine OP.move (v := .map _) rfl rfl ?_ | refine OP.move (v := .func _ _ _) rfl rfl ?_ | refine OP.move (v := _) rfl rfl ?_)
    | ((show OP _ _ _ _ _ _ _ ⟨some _, .assign _, _, _, _, none⟩ _ _); first | refine OP.assign (v := .int _ _) rfl rfl ?_ | refine OP.assign (v := .bool _) rfl rfl ?_ | refine OP.assign (v := .complex _ _ _) rfl rfl ?_ | refine OP.assign (v := .float _ _) rfl rfl ?_ | refine OP.assign (v := .slice _ _ _) rfl rfl ?_ | refine OP.assign (v := .pointer _) rfl rfl ?_ | refine OP.assign (v := .agg _) rfl rfl ?_ | refine OP.assign (v := .tuple _) rfl rfl ?_ | refine OP.assign (v := .map _) rfl rfl ?_ | refine OP.assign (v := .func _ _ _) rfl rfl ?_ | refine OP.assign (v := _) rfl rfl ?_)
    | ((show OP _ _ _ _ _ _ _ ⟨_, _, _, _, _, some _⟩ _ _); first | refine OP.guard_yes rfl rfl ?_ | refine OP.guard_no rfl rfl rfl rfl ?_ | refine OP.guard_un rfl rfl rfl ?_ | refine OP.guard_no0 rfl rfl rfl ?_ | (refine OP.guard_dec rfl rfl (fun h => ?_) (fun h => ?_) <;> (try (exfalso; omega))) | refine OP.guard_bool rfl rfl (fun h => ?_) (fun h => ?_))
    | ((show OP _ _ _ _ _ _ _ ⟨some _, .call _, _, _, _, none⟩ _ _); first | refine OP.len rfl rfl rfl ?_ | refine OP.real rfl rfl ?_ | refine OP.imag rfl rfl ?_ | refine OP.complex rfl rfl rfl ?_ | refine OP.max2 rfl rfl rfl ?_ | refine OP.min2 rfl rfl rfl ?_)
    | ((show OP _ _ _ _ _ _ _ ⟨some _, .binOp _ _ _ _ _, _, _, _, none⟩ _ _); first | (refine OP.add rfl rfl rfl ?_ ?_ ?_; omega; omega) | (refine OP.sub rfl rfl rfl ?_ ?_ ?_; omega; omega) | refine OP.lss rfl rfl rfl ?_ | refine OP.eql rfl rfl rfl ?_ | refine OP.neq rfl rfl rfl ?_ | refine OP.gtr rfl rfl rfl ?_ | refine OP.geq rfl rfl rfl ?_ | refine OP.leq rfl rfl rfl ?_ | refine OP.eql2 rfl rfl rfl ?_ | refine OP.neq2 rfl rfl rfl ?_ | refine OP.neqd rfl rfl rfl ?_ | refine OP.eqd rfl rfl rfl ?_ | refine OP.eqlb rfl rfl rfl ?_ | (refine OP.mul rfl rfl rfl ?_ ?_ ?_; omega; omega) | (refine OP.quoN rfl rfl rfl ?_ ?_ ?_ ?_; omega; omega; omega) | (refine OP.remN rfl rfl rfl ?_ ?_; omega) | (refine OP.quo rfl rfl rfl ?_ ?_ ?_ ?_ ?_; omega; omega; omega; omega) | (refine OP.rem rfl rfl rfl ?_ ?_ ?_; omega; omega))
    | ((show OP _ _ _ _ _ _ _ ⟨some _, .pick _ _ _, _, _, _, none⟩ _ _); first | refine OP.pick_true rfl rfl ?_ | refine OP.pick_false rfl rfl ?_)
    | (refine OP.extract rfl rfl rfl ?_)
    | (refine OP.fieldAddr rfl rfl ?_)
    | ((show OP _ _ _ _ _ _ _ ⟨some _, .load _ _, _, _, _, none⟩ _ _); first | refine OP.load rfl rfl (Sees.own (List.Mem.head _) rfl) ?_ | refine OP.load rfl rfl (Sees.own (List.Mem.tail _ (List.Mem.head _)) rfl) ?_ | refine OP.load rfl rfl (Sees.own (List.Mem.tail _ (List.Mem.tail _ (List.Mem.head _))) rfl) ?_ | refine OP.load rfl rfl (Sees.own (List.Mem.tail _ (List.Mem.tail _ (List.Mem.tail _ (List.Mem.head _)))) rfl) ?_ | refine OP.load rfl rfl (Sees.own (List.Mem.tail _ (List.Mem.tail _ (List.Mem.tail _ (List.Mem.tail _ (List.Mem.head _))))) rfl) ?_ | refine OP.load rfl rfl (Sees.own (List.Mem.tail _ (List.Mem.tail _ (List.Mem.tail _ (List.Mem.tail _ (List.Mem.tail _ (List.Mem.head _)))))) rfl) ?_ | refine OP.load rfl rfl (Sees.own (List.Mem.tail _ (List.Mem.tail _ (List.Mem.tail _ (List.Mem.tail _ (List.Mem.tail _ (List.Mem.tail _ (List.Mem.head _))))))) rfl) ?_ | refine OP.load rfl rfl (Sees.own (List.Mem.tail _ (List.Mem.tail _ (List.Mem.tail _ (List.Mem.tail _ (List.Mem.tail _ (List.Mem.tail _ (List.Mem.tail _ (List.Mem.head _)))))))) rfl) ?_ | refine OP.load rfl rfl (Sees.old0 (by assumption)) ?_ | refine OP.loadA rfl rfl (SeesN.own 2 (List.Mem.head _) rfl) rfl ?_ | refine OP.loadA rfl rfl (SeesN.own 3 (List.Mem.head _) rfl) rfl ?_ | refine OP.loadA rfl rfl (SeesN.own 2 (List.Mem.tail _ (List.Mem.head _)) rfl) rfl ?_ | refine OP.loadA rfl rfl (SeesN.own 3 (List.Mem.tail _ (List.Mem.head _)) rfl) rfl ?_ | refine OP.loadA rfl rfl (SeesN.own 2 (List.Mem.tail _ (List.Mem.tail _ (List.Mem.head _))) rfl) rfl ?_ | refine OP.loadA rfl rfl (SeesN.own 3 (List.Mem.tail _ (List.Mem.tail _ (List.Mem.head _))) rfl) rfl ?_ | refine OP.loadA rfl rfl (SeesN.own 2 (List.Mem.tail _ (List.Mem.tail _ (List.Mem.tail _ (List.Mem.head _)))) rfl) rfl ?_ | refine OP.loadA rfl rfl (SeesN.own 3 (List.Mem.tail _ (List.Mem.tail _ (List.Mem.tail _ (List.Mem.head _)))) rfl) rfl ?_ | refine OP.loadA rfl rfl (SeesN.own 2 (List.Mem.tail _ (List.Mem.tail _ (List.Mem.tail _ (List.Mem.tail _ (List.Mem.head _))))) rfl) rfl ?_ | refine OP.loadA rfl rfl (SeesN.own 3 (List.Mem.tail _ (List.Mem.tail _ (List.Mem.tail _ (List.Mem.tail _ (List.Mem.head _))))) rfl) rfl ?_ | refine OP.loadA rfl rfl (SeesN.own 2 (List.Mem.tail _ (List.Mem.tail _ (List.Mem.tail _ (List.Mem.tail _ (List.Mem.tail _ (List.Mem.head _)))))) rfl) rfl ?_ | refine OP.loadA rfl rfl (SeesN.own 3 (List.Mem.tail _ (List.Mem.tail _ (List.Mem.tail _ (List.Mem.tail _ (List.Mem.tail _ (List.Mem.head _)))))) rfl) rfl ?_ | refine OP.loadA rfl rfl (SeesN.own 2 (List.Mem.tail _ (List.Mem.tail _ (List.Mem.tail _ (List.Mem.tail _ (List.Mem.tail _ (List.Mem.tail _ (List.Mem.head _))))))) rfl) rfl ?_ | refine OP.loadA rfl rfl (SeesN.own 3 (List.Mem.tail _ (List.Mem.tail _ (List.Mem.tail _ (List.Mem.tail _ (List.Mem.tail _ (List.Mem.tail _ (List.Mem.head _))))))) rfl) rfl ?_ | refine OP.loadA rfl rfl (SeesN.own 2 (List.Mem.tail _ (List.Mem.tail _ (List.Mem.tail _ (List.Mem.tail _ (List.Mem.tail _ (List.Mem.tail _ (List.Mem.tail _ (List.Mem.head _)))))))) rfl) rfl ?_ | refine OP.loadA rfl rfl (SeesN.own 3 (List.Mem.tail _ (List.Mem.tail _ (List.Mem.tail _ (List.Mem.tail _ (List.Mem.tail _ (List.Mem.tail _ (List.Mem.tail _ (List.Mem.head _)))))))) rfl) rfl ?_)
    | ((show OP _ _ _ _ _ _ _ ⟨none, .store _ _ _, _, _, _, none⟩ _ _); first | refine OP.store0 (vs := [_]) rfl rfl rfl rfl rfl ?_ | refine OP.store0 (vs := [_, _]) rfl rfl rfl rfl rfl ?_ | refine OP.store0 (vs := [_, _, _]) rfl rfl rfl rfl rfl ?_ | refine OP.store1 (vs := [_]) rfl rfl rfl rfl rfl ?_ | refine OP.store1 (vs := [_, _]) rfl rfl rfl rfl rfl ?_ | refine OP.store1 (vs := [_, _, _]) rfl rfl rfl rfl rfl ?_ | refine OP.store2 (vs := [_]) rfl rfl rfl rfl rfl ?_ | refine OP.store2 (vs := [_, _]) rfl rfl rfl rfl rfl ?_ | refine OP.store2 (vs := [_, _, _]) rfl rfl rfl rfl rfl ?_ | refine OP.store3 (vs := [_]) rfl rfl rfl rfl rfl ?_ | refine OP.store3 (vs := [_, _]) rfl rfl rfl rfl rfl ?_ | refine OP.store3 (vs := [_, _, _]) rfl rfl rfl rfl rfl ?_ | refine OP.store4 (vs := [_]) rfl rfl rfl rfl rfl ?_ | refine OP.store4 (vs := [_, _]) rfl rfl rfl rfl rfl ?_ | refine OP.store4 (vs := [_, _, _]) rfl rfl rfl rfl rfl ?_ | refine OP.store5 (vs := [_]) rfl rfl rfl rfl rfl ?_ | refine OP.store5 (vs := [_, _]) rfl rfl rfl rfl rfl ?_ | refine OP.store5 (vs := [_, _, _]) rfl rfl rfl rfl rfl ?_ | refine OP.store6 (vs := [_]) rfl rfl rfl rfl rfl ?_ | refine OP.store6 (vs := [_, _]) rfl rfl rfl rfl rfl ?_ | refine OP.store6 (vs := [_, _, _]) rfl rfl rfl rfl rfl ?_ | refine OP.store7 (vs := [_]) rfl rfl rfl rfl rfl ?_ | refine OP.store7 (vs := [_, _]) rfl rfl rfl rfl rfl ?_ | refine OP.store7 (vs := [_, _, _]) rfl rfl rfl rfl rfl ?_)
    | ((show OP _ _ _ _ _ _ _ ⟨_, .unOp _ _ _, _, _, _, none⟩ _ _); first | refine OP.notd rfl rfl ?_ | refine OP.not rfl rfl ?_ | (refine OP.neg rfl rfl ?_ ?_ ?_; omega; omega))
    | ((show OP _ _ _ _ _ _ _ ⟨_, .convert _ _ _, _, _, _, none⟩ _ _); first | (refine OP.conv rfl rfl ?_ ?_ ?_; omega; omega))
    | (refine OP.makeMap rfl (fun _ => ?_))
    | (refine OP.box rfl rfl (fun _ => ?_))
    | (refine OP.alloc rfl rfl (fun _ => ?_))
    | (refine OP.build rfl rfl ?_)
    | (refine OP.buildSlice rfl rfl ?_ rfl rfl (fun _ => ?_); (decide))
    | (refine OP.buildSlice0 rfl rfl (fun _ => ?_))
    | (refine OP.makeFunc rfl ?_)
    | (refine OP.field1 rfl rfl rfl ?_))
  refine WP.loop [5, 6, 7, 8, 9, 10, 11, 12, 13, 14, 15, 16, 17, 18, 19, 20, 21, 22, 23, 24, 25, 26, 27, 28, 29] (fun k : Nat => [(5, .int .i64 (widF f g k)), (6, .int .i64 k)]) (fun _ => _) (fun k => k ≤ min n n') (fun k => min n n' - k) 0 (by omega) rfl ⟨rfl, rfl, trivial⟩ ?_
  rintro k j k1
  dsimp only [updL]
  repeat' (first
    | refine OP.indexAddrO (j := k) rfl rfl (ha (by omega)) rfl rfl (by omega) ?_
    | refine OP.indexAddrO (j := k) rfl rfl (ha' (by omega)) rfl rfl (by omega) ?_
    | refine OP.load rfl rfl (r.see (by omega) _) ?_
    | refine OP.load rfl rfl (r'.see (by omega) _) ?_
    | (refine Fin.tail ?_)
    | (refine Fin.then_normal ?_)
    | (refine Fin.then_exit ?_)
    | (refine Fin.then_ret ?_)
    | (refine Fin.block_normal ?_)
    | (refine Fin.block_ret ?_)
    | (refine Fin.block_hit ?_)
    | (refine Fin.block_miss rfl ?_)
    | (refine Fin.loop_exit ?_)
    | (refine Fin.loop_ret ?_)
    | (refine WP.seq ?_)
    | (refine WP.regionQ (by kernel_rfl) (by kernel_rfl) ?_)
    | (refine WP.block ?_)
    | (refine WP.region ?_)
    | (refine WP.skip ?_)
    | (refine WP.exit ?_)
    | (refine WP.ret ?_)
    | (refine WP.label ?_)
    | (refine WP.cond_true rfl ?_)
    | (refine WP.cond_false rfl ?_)
    | (refine WP.cond_dec rfl (fun h => ?_) (fun h => ?_) <;> (try (exfalso; omega)))
    | (refine WP.cond_bool rfl (fun h => ?_) (fun h => ?_))
    | (refine WL.nil ?_)
    | (refine WL.cons ?_)
    | ((show OP _ _ _ _ _ _ _ ⟨some _, .move _, _, _, _, none⟩ _ _); first | refine OP.move (v := .int _ _) rfl rfl ?_ | refine OP.move (v := .bool _) rfl rfl ?_ | refine OP.move (v := .complex _ _ _) rfl rfl ?_ | refine OP.move (v := .float _ _) rfl rfl ?_ | refine OP.move (v := .slice _ _ _) rfl rfl ?_ | refine OP.move (v := .pointer _) rfl rfl ?_ | refine OP.move (v := .agg _) rfl rfl ?_ | refine OP.move (v := .tuple _) rfl rfl ?_ | refine OP.move (v := .map _) rfl rfl ?_ | refine OP.move (v := .func _ _ _) rfl rfl ?_ | refine OP.move (v := _) rfl rfl ?_)
    | ((show OP _ _ _ _ _ _ _ ⟨some _, .assign _, _, _, _, none⟩ _ _); first | refine OP.assign (v := .int _ _) rfl rfl ?_ | refine OP.assign (v := .bool _) rfl rfl ?_ | refine OP.assign (v := .complex _ _ _) rfl rfl ?_ | refine OP.assign (v := .float _ _) rfl rfl ?_ | refine OP.assign (v := .slice _ _ _) rfl rfl ?_ | refine OP.assign (v := .pointer _) rfl rfl ?_ | refine OP.assign (v := .agg _) rfl rfl ?_ | refine OP.assign (v := .tuple _) rfl rfl ?_ | refine OP.assign (v := .map _) rfl rfl ?_ | refine OP.assign (v := .func _ _ _) rfl rfl ?_ | refine OP.assign (v := _) rfl rfl ?_)
    | ((show OP _ _ _ _ _ _ _ ⟨_, _, _, _, _, some _⟩ _ _); first | refine OP.guard_yes rfl rfl ?_ | refine OP.guard_no rfl rfl rfl rfl ?_ | refine OP.guard_un rfl rfl rfl ?_ | refine OP.guard_no0 rfl rfl rfl ?_ | (refine OP.guard_dec rfl rfl (fun h => ?_) (fun h => ?_) <;> (try (exfalso; omega))) | refine OP.guard_bool rfl rfl (fun h => ?_) (fun h => ?_))
    | ((show OP _ _ _ _ _ _ _ ⟨some _, .call _, _, _, _, none⟩ _ _); first | refine OP.len rfl rfl rfl ?_ | refine OP.real rfl rfl ?_ | refine OP.imag rfl rfl ?_ | refine OP.complex rfl rfl rfl ?_ | refine OP.max2 rfl rfl rfl ?_ | refine OP.min2 rfl rfl rfl ?_)
    | ((show OP _ _ _ _ _ _ _ ⟨some _, .binOp _ _ _ _ _, _, _, _, none⟩ _ _); first | (refine OP.add rfl rfl rfl ?_ ?_ ?_; omega; omega) | (refine OP.sub rfl rfl rfl ?_ ?_ ?_; omega; omega) | refine OP.lss rfl rfl rfl ?_ | refine OP.eql rfl rfl rfl ?_ | refine OP.neq rfl rfl rfl ?_ | refine OP.gtr rfl rfl rfl ?_ | refine OP.geq rfl rfl rfl ?_ | refine OP.leq rfl rfl rfl ?_ | refine OP.eql2 rfl rfl rfl ?_ | refine OP.neq2 rfl rfl rfl ?_ | refine OP.neqd rfl rfl rfl ?_ | refine OP.eqd rfl rfl rfl ?_ | refine OP.eqlb rfl rfl rfl ?_ | (refine OP.mul rfl rfl rfl ?_ ?_ ?_; omega; omega) | (refine OP.quoN rfl rfl rfl ?_ ?_ ?_ ?_; omega; omega; omega) | (refine OP.remN rfl rfl rfl ?_ ?_; omega) | (refine OP.quo rfl rfl rfl ?_ ?_ ?_ ?_ ?_; omega; omega; omega; omega) | (refine OP.rem rfl rfl rfl ?_ ?_ ?_; omega; omega) | refine OP.addw rfl rfl rfl ?_ | refine OP.subw rfl rfl rfl ?_)
    | ((show OP _ _ _ _ _ _ _ ⟨some _, .pick _ _ _, _, _, _, none⟩ _ _); first | refine OP.pick_true rfl rfl ?_ | refine OP.pick_false rfl rfl ?_)
    | (refine OP.extract rfl rfl rfl ?_)
    | (refine OP.fieldAddr rfl rfl ?_)
    | ((show OP _ _ _ _ _ _ _ ⟨some _, .load _ _, _, _, _, none⟩ _ _); first | refine OP.load rfl rfl (Sees.own (List.Mem.head _) rfl) ?_ | refine OP.load rfl rfl (Sees.own (List.Mem.tail _ (List.Mem.head _)) rfl) ?_ | refine OP.load rfl rfl (Sees.own (List.Mem.tail _ (List.Mem.tail _ (List.Mem.head _))) rfl) ?_ | refine OP.load rfl rfl (Sees.own (List.Mem.tail _ (List.Mem.tail _ (List.Mem.tail _ (List.Mem.head _)))) rfl) ?_ | refine OP.load rfl rfl (Sees.own (List.Mem.tail _ (List.Mem.tail _ (List.Mem.tail _ (List.Mem.tail _ (List.Mem.head _))))) rfl) ?_ | refine OP.load rfl rfl (Sees.own (List.Mem.tail _ (List.Mem.tail _ (List.Mem.tail _ (List.Mem.tail _ (List.Mem.tail _ (List.Mem.head _)))))) rfl) ?_ | refine OP.load rfl rfl (Sees.own (List.Mem.tail _ (List.Mem.tail _ (List.Mem.tail _ (List.Mem.tail _ (List.Mem.tail _ (List.Mem.tail _ (List.Mem.head _))))))) rfl) ?_ | refine OP.load rfl rfl (Sees.own (List.Mem.tail _ (List.Mem.tail _ (List.Mem.tail _ (List.Mem.tail _ (List.Mem.tail _ (List.Mem.tail _ (List.Mem.tail _ (List.Mem.head _)))))))) rfl) ?_ | refine OP.load rfl rfl (Sees.old0 (by assumption)) ?_ | refine OP.loadA rfl rfl (SeesN.own 2 (List.Mem.head _) rfl) rfl ?_ | refine OP.loadA rfl rfl (SeesN.own 3 (List.Mem.head _) rfl) rfl ?_ | refine OP.loadA rfl rfl (SeesN.own 2 (List.Mem.tail _ (List.Mem.head _)) rfl) rfl ?_ | refine OP.loadA rfl rfl (SeesN.own 3 (List.Mem.tail _ (List.Mem.head _)) rfl) rfl ?_ | refine OP.loadA rfl rfl (SeesN.own 2 (List.Mem.tail _ (List.Mem.tail _ (List.Mem.head _))) rfl) rfl ?_ | refine OP.loadA rfl rfl (SeesN.own 3 (List.Mem.tail _ (List.Mem.tail _ (List.Mem.head _))) rfl) rfl ?_ | refine OP.loadA rfl rfl (SeesN.own 2 (List.Mem.tail _ (List.Mem.tail _ (List.Mem.tail _ (List.Mem.head _)))) rfl) rfl ?_ | refine OP.loadA rfl rfl (SeesN.own 3 (List.Mem.tail _ (List.Mem.tail _ (List.Mem.tail _ (List.Mem.head _)))) rfl) rfl ?_ | refine OP.loadA rfl rfl (SeesN.own 2 (List.Mem.tail _ (List.Mem.tail _ (List.Mem.tail _ (List.Mem.tail _ (List.Mem.head _))))) rfl) rfl ?_ | refine OP.loadA rfl rfl (SeesN.own 3 (List.Mem.tail _ (List.Mem.tail _ (List.Mem.tail _ (List.Mem.tail _ (List.Mem.head _))))) rfl) rfl ?_ | refine OP.loadA rfl rfl (SeesN.own 2 (List.Mem.tail _ (List.Mem.tail _ (List.Mem.tail _ (List.Mem.tail _ (List.Mem.tail _ (List.Mem.head _)))))) rfl) rfl ?_ | refine OP.loadA rfl rfl (SeesN.own 3 (List.Mem.tail _ (List.Mem.tail _ (List.Mem.tail _ (List.Mem.tail _ (List.Mem.tail _ (List.Mem.head _)))))) rfl) rfl ?_ | refine OP.loadA rfl rfl (SeesN.own 2 (List.Mem.tail _ (List.Mem.tail _ (List.Mem.tail _ (List.Mem.tail _ (List.Mem.tail _ (List.Mem.tail _ (List.Mem.head _))))))) rfl) rfl ?_ | refine OP.loadA rfl rfl (SeesN.own 3 (List.Mem.tail _ (List.Mem.tail _ (List.Mem.tail _ (List.Mem.tail _ (List.Mem.tail _ (List.Mem.tail _ (List.Mem.head _))))))) rfl) rfl ?_ | refine OP.loadA rfl rfl (SeesN.own 2 (List.Mem.tail _ (List.Mem.tail _ (List.Mem.tail _ (List.Mem.tail _ (List.Mem.tail _ (List.Mem.tail _ (List.Mem.tail _ (List.Mem.head _)))))))) rfl) rfl ?_ | refine OP.loadA rfl rfl (SeesN.own 3 (List.Mem.tail _ (List.Mem.tail _ (List.Mem.tail _ (List.Mem.tail _ (List.Mem.tail _ (List.Mem.tail _ (List.Mem.tail _ (List.Mem.head _)))))))) rfl) rfl ?_)
    | ((show OP _ _ _ _ _ _ _ ⟨none, .store _ _ _, _, _, _, none⟩ _ _); first | refine OP.store0 (vs := [_]) rfl rfl rfl rfl rfl ?_ | refine OP.store0 (vs := [_, _]) rfl rfl rfl rfl rfl ?_ | refine OP.store0 (vs := [_, _, _]) rfl rfl rfl rfl rfl ?_ | refine OP.store1 (vs := [_]) rfl rfl rfl rfl rfl ?_ | refine OP.store1 (vs := [_, _]) rfl rfl rfl rfl rfl ?_ | refine OP.store1 (vs := [_, _, _]) rfl rfl rfl rfl rfl ?_ | refine OP.store2 (vs := [_]) rfl rfl rfl rfl rfl ?_ | refine OP.store2 (vs := [_, _]) rfl rfl rfl rfl rfl ?_ | refine OP.store2 (vs := [_, _, _]) rfl rfl rfl rfl rfl ?_ | refine OP.store3 (vs := [_]) rfl rfl rfl rfl rfl ?_ | refine OP.store3 (vs := [_, _]) rfl rfl rfl rfl rfl ?_ | refine OP.store3 (vs := [_, _, _]) rfl rfl rfl rfl rfl ?_ | refine OP.store4 (vs := [_]) rfl rfl rfl rfl rfl ?_ | refine OP.store4 (vs := [_, _]) rfl rfl rfl rfl rfl ?_ | refine OP.store4 (vs := [_, _, _]) rfl rfl rfl rfl rfl ?_ | refine OP.store5 (vs := [_]) rfl rfl rfl rfl rfl ?_ | refine OP.store5 (vs := [_, _]) rfl rfl rfl rfl rfl ?_ | refine OP.store5 (vs := [_, _, _]) rfl rfl rfl rfl rfl ?_ | refine OP.store6 (vs := [_]) rfl rfl rfl rfl rfl ?_ | refine OP.store6 (vs := [_, _]) rfl rfl rfl rfl rfl ?_ | refine OP.store6 (vs := [_, _, _]) rfl rfl rfl rfl rfl ?_ | refine OP.store7 (vs := [_]) rfl rfl rfl rfl rfl ?_ | refine OP.store7 (vs := [_, _]) rfl rfl rfl rfl rfl ?_ | refine OP.store7 (vs := [_, _, _]) rfl rfl rfl rfl rfl ?_)
    | ((show OP _ _ _ _ _ _ _ ⟨_, .unOp _ _ _, _, _, _, none⟩ _ _); first | refine OP.notd rfl rfl ?_ | refine OP.not rfl rfl ?_ | (refine OP.neg rfl rfl ?_ ?_ ?_; omega; omega))
    | ((show OP _ _ _ _ _ _ _ ⟨_, .convert _ _ _, _, _, _, none⟩ _ _); first | (refine OP.conv rfl rfl ?_ ?_ ?_; omega; omega))
    | (refine OP.makeMap rfl (fun _ => ?_))
    | (refine OP.box rfl rfl (fun _ => ?_))
    | (refine OP.alloc rfl rfl (fun _ => ?_))
    | (refine OP.build rfl rfl ?_)
    | (refine OP.buildSlice rfl rfl ?_ rfl rfl (fun _ => ?_); (decide))
    | (refine OP.buildSlice0 rfl rfl (fun _ => ?_))
    | (refine OP.makeFunc rfl ?_)
    | (refine OP.field1 rfl rfl rfl ?_))
  · refine Fin.loop_normal fun w' hst => ⟨k + 1, by omega, by omega, by (repeat' (first | exact Agree.refl _ _ | refine Agree.upd rfl ?_ | refine Agree.hav rfl ?_)), ⟨rfl, rfl, trivial⟩, hst⟩
  all_goals
    have e : k = min n n' := by omega
    refine Fin.drop (List.nil_sublist _) ?_
    refine Fin.ret1 (h0 := .inl rfl) rfl rfl ?_
    exact ⟨by rw [← e]; rfl, rfl⟩
end Go.Proofs.Ytghmkheoopakaaa
