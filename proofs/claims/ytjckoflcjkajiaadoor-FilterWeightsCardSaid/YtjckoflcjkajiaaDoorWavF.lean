/- Layer 3: Forward, walked. %compact -/
import Derived.Test.YtjckoflcjkajiaaDoorWavE
set_option linter.unusedVariables false
set_option maxRecDepth 100000
namespace Go.Proofs.YtjckoflcjkajiaaDoor
open Go.Pen Go.Flt Go.Wav

theorem tab_wf {m : Nat} {l : List Cx} (h : tabC m = some l) : ∀ a ∈ l, Wf a := by
  unfold tabC at h
  rw [Option.bind_eq_some_iff] at h
  obtain ⟨f, hf, hl⟩ := h
  have go : ∀ (k : Nat) (l : List Cx), tabTo (2 ^ m) f k = some l → ∀ a ∈ l, Wf a := by
    intro k
    induction k with
    | zero => intro l e a ha; obtain rfl : [] = l := by simpa [tabTo] using e
              cases ha
    | succ k ih =>
      intro l e a ha
      unfold tabTo at e
      simp only [Option.bind_eq_some_iff, Option.some.injEq] at e
      obtain ⟨l', h1, r, h2, rfl⟩ := e
      rcases List.mem_append.1 ha with ha | ha
      · exact ih l' h1 a ha
      · rw [List.mem_singleton.1 ha]; exact wf_at (wf_eighth hf) h2
  exact go _ l hl
theorem tab_len {m : Nat} {l : List Cx} (h : tabC m = some l) : l.length = 2 ^ m := by
  unfold tabC at h
  rw [Option.bind_eq_some_iff] at h
  obtain ⟨f, hf, hl⟩ := h
  exact tabTo_len hl
theorem Table2_fn (m : Nat) (l : List Cx) (hm : m ≤ 12) (ht : tabC m = some l) (w : World) :
    Does Tryd.prog 24 #[.int .i64 ((2 ^ m : Nat) : Int)] [] w fun v Γ => ∃ b, v = .tuple #[.slice (some ⟨b, 0, none⟩) (2 ^ m) (2 ^ m), .int .i64 0] ∧ Γ = [(b, .cells (cxs l ++ []).toArray 31 (0, 0))] :=
  (Table_fn m l hm ht w).mono fun v Γ ⟨b, h1, h2, h3⟩ => ⟨b, by rw [h1, h2], h3⟩
theorem conj2_fn (m : Nat) (l : List Cx) (hm : m ≤ 12) (hll : l.length = 2 ^ m) (hwf : ∀ a ∈ l, Wf a) (b c : Nat) (sp : List Value) (w : World) (hmm : ∀ x ∈ [(b, Obj.cells (cxs l ++ sp).toArray 31 (0, 0))], w.heap[x.1]? = some x.2) (hn : (keys [(b, Obj.cells (cxs l ++ sp).toArray 31 (0, 0))]).Nodup) :
    Does Tryd.prog 27 #[.slice (some ⟨b, 0, none⟩) (2 ^ m) c] (keys [(b, Obj.cells (cxs l ++ sp).toArray 31 (0, 0))]) w fun v Γ => v = .slice (some ⟨b, 0, none⟩) (2 ^ m) c ∧ Γ = [(b, .cells (cxs (conjs l) ++ sp).toArray 31 (0, 0))] := by
  have := conjugates_fn l hwf (by rw [hll]; exact pow_bd hm) b c sp w hmm hn
  rw [hll] at this
  exact this
theorem turned2_fn (m : Nat) (hm : m ≤ 12) (x : List Cx) (hx : x.length = 2 ^ m) (b o c : Nat) (w : World) (hr : RdC w b o x) (hT : TzT w) :
    Does Tryd.prog 25 #[.slice (some ⟨b, o, none⟩) (2 ^ m) c] [] w fun v Γ => ∃ q, v = .slice (some ⟨q, 0, none⟩) (2 ^ m) (2 ^ m) ∧ Γ = [(q, .cells (cxs (trn m x) ++ []).toArray 31 (0, 0))] := by
  have := turned_fn m hm x hx b o c w hr hT
  rw [hx] at this
  exact this

set_option maxHeartbeats 4000000 in
theorem Forward_fn (m : Nat) (hm : m ≤ 12) (x r : List Cx) (hx : x.length = 2 ^ m) (hf : forwardC m x = some r) (b o c : Nat) (w : World) (hr : RdC w b o x) (hT : TzT w) :
    Does Tryd.prog 9 #[.slice (some ⟨b, o, none⟩) (2 ^ m) c] [] w fun v Γ => ∃ q, v = .tuple #[.slice (some ⟨q, 0, none⟩) (2 ^ m) (2 ^ m), .int .i64 0] ∧ Γ = [(q, .cells (cxs r ++ []).toArray 31 (0, 0))] := by
  unfold forwardC waveC at hf
  rw [Option.bind_eq_some_iff] at hf
  obtain ⟨l, hl, hb⟩ := hf
  have hlw := tab_wf hl
  have hll := tab_len hl
  have htl : (trn m x).length = 2 ^ m := trnTo_len m x _
  have hcl : (conjs l).length = 2 ^ m := by unfold conjs; rw [List.length_map, hll]
  have ht2 := fun w => Table2_fn m l hm hl w
  have htu := fun w hr hT => turned2_fn m hm x hx b o c w hr hT
  have hco := conj2_fn m l hm hll hlw
  have hbu := butterflies_fn m hm (trn m x) (conjs l) r htl hcl hb
  have hp := pow_bd hm
  generalize 2 ^ m = N at *
  refine Does.enter Tryd.func9 rfl Tryd.ntmps9 rfl (St.start w) ?_
  repeat' (first | refine Fin.tail ?_ | refine Fin.then_normal ?_ | refine Fin.then_exit ?_ | refine Fin.then_ret ?_ | refine Fin.block_normal ?_ | refine Fin.block_ret ?_ | refine Fin.block_hit ?_ | refine Fin.block_miss rfl ?_ | refine Fin.loop_exit ?_ | refine Fin.loop_ret ?_ | refine WP.seq ?_ | (refine WP.regionQ (by kernel_rfl) (by kernel_rfl) ?_) | refine WP.block ?_ | refine WP.region ?_ | refine WP.skip ?_ | refine WP.exit ?_ | refine WP.ret ?_ | refine WP.label ?_ | refine WP.cond_true rfl ?_ | refine WP.cond_false rfl ?_ | (refine WP.cond_dec rfl (fun h => ?_) (fun h => ?_) <;> (try (exfalso; omega))) | (refine WP.cond_bool rfl (fun h => ?_) (fun h => ?_)) | refine WL.nil ?_ | refine WL.cons ?_ | (show OP _ _ _ _ _ _ _ ⟨_, .move _, _, _, _, none⟩ _ _; first | refine OP.mI rfl rfl ?_ | refine OP.mB rfl rfl ?_ | refine OP.mC rfl rfl ?_ | refine OP.mF rfl rfl ?_ | refine OP.mS rfl rfl ?_ | refine OP.mP rfl rfl ?_ | refine OP.mA rfl rfl ?_ | refine OP.mT rfl rfl ?_ | refine OP.mM rfl rfl ?_ | refine OP.mU rfl rfl ?_ | refine OP.move rfl rfl ?_) | (show OP _ _ _ _ _ _ _ ⟨_, .assign _, _, _, _, none⟩ _ _; first | refine OP.aI rfl rfl ?_ | refine OP.aB rfl rfl ?_ | refine OP.aC rfl rfl ?_ | refine OP.aF rfl rfl ?_ | refine OP.aS rfl rfl ?_ | refine OP.aP rfl rfl ?_ | refine OP.aA rfl rfl ?_ | refine OP.aT rfl rfl ?_ | refine OP.aM rfl rfl ?_ | refine OP.aU rfl rfl ?_ | refine OP.assign rfl rfl ?_) | (show OP _ _ _ _ _ _ _ ⟨_, .call _, _, _, _, none⟩ _ _; first | (refine OP.call rfl (fun w' _ => ht2 w') (fun _ _ hR => ?_); obtain ⟨tb, rfl, rfl⟩ := hR) | (refine OP.call rfl (fun w' hst => htu w' (hr.over hst (by simp)) (hT.over hst (by simp))) (fun _ _ hR => ?_); obtain ⟨q, rfl, rfl⟩ := hR) | (refine OP.callI (f := 27) (Γb := [(tb, .cells (cxs l ++ []).toArray 31 (0, 0))]) (Γr := [(q, .cells (cxs (trn m x) ++ []).toArray 31 (0, 0))]) rfl rfl rfl (perm_places _ [1, 0] rfl) (fun w' hm hn _ => hco tb N [] w' hm hn) (fun _ _ hR => ?_); obtain ⟨rfl, rfl⟩ := hR) | (refine OP.callI (f := 26) (Γb := [(q, .cells (cxs (trn m x) ++ []).toArray 31 (0, 0))]) (Γr := [(tb, .cells (cxs (conjs l) ++ []).toArray 31 (0, 0))]) rfl rfl rfl (perm_places _ [1, 0] rfl) (fun w' hm hn hst => hbu q N tb 0 N [] w' hm hn (RdC.own hst (List.Mem.tail _ (List.Mem.head _))) (fun h => by have := hst.nodup; simp [keys] at h this; exact this h.symm)) (fun _ _ hR => ?_); obtain ⟨rfl, rfl⟩ := hR) | refine OP.len rfl rfl rfl ?_) | (show OP _ _ _ _ _ _ _ ⟨_, .binOp _ _ _ _ _, _, _, _, none⟩ _ _; first | refine OP.neq rfl rfl rfl ?_ | refine OP.neq2 rfl rfl rfl ?_ | refine OP.neqd rfl rfl rfl ?_) | refine OP.extract rfl rfl rfl ?_)
  refine Fin.drop (List.Sublist.cons_cons _ (List.nil_sublist _)) ?_
  refine Fin.ret2 (h0 := .inl rfl) rfl rfl rfl ?_
  exact ⟨q, rfl, rfl⟩

theorem scale_step (l : List Cx) (f : Cx → Cx) (k : Nat) (a : Cx) (h : l[k]? = some a) : ((l.map f).take k ++ l.drop k).set k (f a) = (l.map f).take (k + 1) ++ l.drop (k + 1) := by
  have hk : k < l.length := (List.getElem?_eq_some_iff.1 h).1
  have e : l[k] = a := (List.getElem?_eq_some_iff.1 h).2
  rw [List.set_append_right _ _ (by simp; omega)]
  have e1 : k - ((l.map f).take k).length = 0 := by simp; omega
  rw [e1, List.drop_eq_getElem_cons hk, List.set_cons_zero, List.take_add_one]
  simp [hk, e]
/-- The way back but for the scaling. -/
def backC (m : Nat) (x : List Cx) : Option (List Cx) := (tabC m).bind fun w => waveC m w x

set_option maxHeartbeats 4000000 in
theorem Back_fn (m : Nat) (hm : m ≤ 12) (x r : List Cx) (hx : x.length = 2 ^ m) (hf : backC m x = some r) (sc : Cx → Cx) (hsc : ∀ a ∈ r, ∀ w, Does Tryd.prog 29 #[.complex .f64 a.1 a.2, .int .i64 (-(m : Int))] [] w fun v Γ => v = .complex .f64 (sc a).1 (sc a).2 ∧ Γ = [])
    (b o c : Nat) (w : World) (hr : RdC w b o x) (hT : TzT w) :
    Does Tryd.prog 11 #[.slice (some ⟨b, o, none⟩) (2 ^ m) c] [] w fun v Γ => ∃ q, v = .tuple #[.slice (some ⟨q, 0, none⟩) (2 ^ m) (2 ^ m), .int .i64 0] ∧ Γ = [(q, .cells (cxs (r.map sc) ++ []).toArray 31 (0, 0))] := by
  unfold backC waveC at hf
  rw [Option.bind_eq_some_iff] at hf
  obtain ⟨l, hl, hb⟩ := hf
  have hll := tab_len hl
  have htl : (trn m x).length = 2 ^ m := trnTo_len m x _
  have hrl : r.length = 2 ^ m := by rw [bfS_len hb, htl]
  have ht2 := fun w => Table2_fn m l hm hl w
  have htu := fun w hr hT => turned2_fn m hm x hx b o c w hr hT
  have hbu := butterflies_fn m hm (trn m x) l r htl hll hb
  have htz := fun w h => tz_fn m hm w h
  have hp := pow_bd hm
  generalize 2 ^ m = N at *
  refine Does.enter Tryd.func11 rfl Tryd.ntmps11 rfl (St.start w) ?_
  repeat' (first | refine Fin.tail ?_ | refine Fin.then_normal ?_ | refine Fin.then_exit ?_ | refine Fin.then_ret ?_ | refine Fin.block_normal ?_ | refine Fin.block_ret ?_ | refine Fin.block_hit ?_ | refine Fin.block_miss rfl ?_ | refine Fin.loop_exit ?_ | refine Fin.loop_ret ?_ | refine WP.seq ?_ | (refine WP.regionQ (by kernel_rfl) (by kernel_rfl) ?_) | refine WP.block ?_ | refine WP.region ?_ | refine WP.skip ?_ | refine WP.exit ?_ | refine WP.ret ?_ | refine WP.label ?_ | refine WP.cond_true rfl ?_ | refine WP.cond_false rfl ?_ | (refine WP.cond_dec rfl (fun h => ?_) (fun h => ?_) <;> (try (exfalso; omega))) | (refine WP.cond_bool rfl (fun h => ?_) (fun h => ?_)) | refine WL.nil ?_ | refine WL.cons ?_ | (show OP _ _ _ _ _ _ _ ⟨_, .move _, _, _, _, none⟩ _ _; first | refine OP.mI rfl rfl ?_ | refine OP.mB rfl rfl ?_ | refine OP.mC rfl rfl ?_ | refine OP.mF rfl rfl ?_ | refine OP.mS rfl rfl ?_ | refine OP.mP rfl rfl ?_ | refine OP.mA rfl rfl ?_ | refine OP.mT rfl rfl ?_ | refine OP.mM rfl rfl ?_ | refine OP.mU rfl rfl ?_ | refine OP.move rfl rfl ?_) | (show OP _ _ _ _ _ _ _ ⟨_, .assign _, _, _, _, none⟩ _ _; first | refine OP.aI rfl rfl ?_ | refine OP.aB rfl rfl ?_ | refine OP.aC rfl rfl ?_ | refine OP.aF rfl rfl ?_ | refine OP.aS rfl rfl ?_ | refine OP.aP rfl rfl ?_ | refine OP.aA rfl rfl ?_ | refine OP.aT rfl rfl ?_ | refine OP.aM rfl rfl ?_ | refine OP.aU rfl rfl ?_ | refine OP.assign rfl rfl ?_) | (show OP _ _ _ _ _ _ _ ⟨_, .call _, _, _, _, none⟩ _ _; first | (refine OP.call rfl (fun w' _ => ht2 w') (fun _ _ hR => ?_); obtain ⟨tb, rfl, rfl⟩ := hR) | (refine OP.call rfl (fun w' hst => htu w' (hr.over hst (by simp)) (hT.over hst (by simp))) (fun _ _ hR => ?_); obtain ⟨q, rfl, rfl⟩ := hR) | (refine OP.callI (f := 26) (Γb := [(q, .cells (cxs (trn m x) ++ []).toArray 31 (0, 0))]) (Γr := [(tb, .cells (cxs l ++ []).toArray 31 (0, 0))]) rfl rfl rfl (List.Perm.refl _) (fun w' hm hn hst => hbu q N tb 0 N [] w' hm hn (RdC.own hst (List.Mem.tail _ (List.Mem.head _))) (fun h => by have := hst.nodup; simp [keys] at h this; exact this h.symm)) (fun _ _ hR => ?_); obtain ⟨rfl, rfl⟩ := hR) | refine OP.callq _ rfl (fun w' hst => htz w' (hT.over hst (by simp))) (fun _ _ h => h.1) ?_ | refine OP.len rfl rfl rfl ?_) | (show OP _ _ _ _ _ _ _ ⟨_, .binOp _ _ _ _ _, _, _, _, none⟩ _ _; first | (refine OP.add rfl rfl rfl ?_ ?_ ?_; omega; omega) | refine OP.lss rfl rfl rfl ?_ | refine OP.neq rfl rfl rfl ?_ | refine OP.neq2 rfl rfl rfl ?_ | refine OP.neqd rfl rfl rfl ?_) | (show OP _ _ _ _ _ _ _ ⟨_, .unOp _ _ _, _, _, _, none⟩ _ _; first | refine OP.notd rfl rfl ?_ | refine OP.not rfl rfl ?_ | (refine OP.neg rfl rfl ?_ ?_ ?_; omega; omega)) | (refine OP.conv rfl rfl ?_ ?_ ?_; omega; omega) | refine OP.extract rfl rfl rfl ?_ | (show OP _ _ _ _ _ _ _ ⟨_, .load _ _, _, _, _, none⟩ _ _; first | refine OP.ld rfl rfl inferInstance rfl ?_ | refine OP.load rfl rfl (Sees.old0 (by assumption)) ?_ | refine OP.ldA rfl rfl inferInstance rfl ?_) | (show OP _ _ _ _ _ _ _ ⟨_, .store _ _ _, _, _, _, none⟩ _ _; first | refine OP.stI rfl rfl inferInstance rfl ?_ | refine OP.stB rfl rfl inferInstance rfl ?_ | refine OP.stC rfl rfl inferInstance rfl ?_ | refine OP.stF rfl rfl inferInstance rfl ?_ | refine OP.stS rfl rfl inferInstance rfl ?_ | refine OP.stP rfl rfl inferInstance rfl ?_ | refine OP.stM rfl rfl inferInstance rfl ?_ | refine OP.stU rfl rfl inferInstance rfl ?_ | refine OP.st (vs := [_]) rfl rfl inferInstance rfl rfl rfl ?_ | refine OP.st (vs := [_, _]) rfl rfl inferInstance rfl rfl rfl ?_ | refine OP.st (vs := [_, _, _]) rfl rfl inferInstance rfl rfl rfl ?_))
  refine WP.drop (Γ' := [(q, .cells (cxs r ++ []).toArray 31 (0, 0))]) (List.Sublist.cons_cons _ (List.nil_sublist _)) ?_
  refine WP.loop [8, 9, 30, 31, 32, 33, 34, 35, 36, 37, 38, 39, 40, 41, 42] (fun k : Nat => [(30, .int .i64 k)]) (fun k => [(q, .cells (cxs ((r.map sc).take k ++ r.drop k) ++ []).toArray 31 (0, 0))]) (fun k => k ≤ N) (fun k => N - k) 0 (by omega) rfl ⟨rfl, trivial⟩ ?_
  rintro k jk k1
  dsimp only [updL]
  have hcl : ((r.map sc).take k ++ r.drop k).length = N := by simp; omega
  by_cases hk : k < N
  · obtain ⟨a, ha⟩ : ∃ a, r[k]? = some a := ⟨r[k], List.getElem?_eq_getElem (by omega)⟩
    have hwa := hsc a (List.mem_of_getElem? ha)
    have hca : ((r.map sc).take k ++ r.drop k)[k]? = some a := by
      rw [List.getElem?_append_right (by simp; omega)]
      have e1 : k - ((r.map sc).take k).length = 0 := by simp; omega
      rw [e1, List.getElem?_drop]; exact ha
    have hld := cxs_at (sp := []) hca
    have hsz := cxs_size (l := (r.map sc).take k ++ r.drop k) (sp := []) (i := k) (by omega)
    have hset : setN (cxs ((r.map sc).take k ++ r.drop k) ++ []).toArray (0 + k * 1) [.complex .f64 (sc a).1 (sc a).2] = (cxs ((r.map sc).take (k + 1) ++ r.drop (k + 1)) ++ []).toArray := by rw [cxs_set _ _ _ _ (by omega), scale_step r sc k a ha]
    repeat' (first | refine OP.indexAddr (j := k) rfl rfl rfl rfl hk ?_ | refine OP.load rfl rfl (Sees.own (List.Mem.head _) hld) ?_ | (refine OP.store0 (vs := [.complex .f64 (sc a).1 (sc a).2]) rfl rfl rfl rfl hsz ?_; rw [hset]) | refine Fin.tail ?_ | refine Fin.then_normal ?_ | refine Fin.then_exit ?_ | refine Fin.then_ret ?_ | refine Fin.block_normal ?_ | refine Fin.block_ret ?_ | refine Fin.block_hit ?_ | refine Fin.block_miss rfl ?_ | refine Fin.loop_exit ?_ | refine Fin.loop_ret ?_ | refine WP.seq ?_ | (refine WP.regionQ (by kernel_rfl) (by kernel_rfl) ?_) | refine WP.block ?_ | refine WP.region ?_ | refine WP.skip ?_ | refine WP.exit ?_ | refine WP.ret ?_ | refine WP.label ?_ | refine WP.cond_true rfl ?_ | refine WP.cond_false rfl ?_ | (refine WP.cond_dec rfl (fun h => ?_) (fun h => ?_) <;> (try (exfalso; omega))) | (refine WP.cond_bool rfl (fun h => ?_) (fun h => ?_)) | refine WL.nil ?_ | refine WL.cons ?_ | (show OP _ _ _ _ _ _ _ ⟨_, .move _, _, _, _, none⟩ _ _; first | refine OP.mI rfl rfl ?_ | refine OP.mB rfl rfl ?_ | refine OP.mC rfl rfl ?_ | refine OP.mF rfl rfl ?_ | refine OP.mS rfl rfl ?_ | refine OP.mP rfl rfl ?_ | refine OP.mA rfl rfl ?_ | refine OP.mT rfl rfl ?_ | refine OP.mM rfl rfl ?_ | refine OP.mU rfl rfl ?_ | refine OP.move rfl rfl ?_) | (show OP _ _ _ _ _ _ _ ⟨_, .assign _, _, _, _, none⟩ _ _; first | refine OP.aI rfl rfl ?_ | refine OP.aB rfl rfl ?_ | refine OP.aC rfl rfl ?_ | refine OP.aF rfl rfl ?_ | refine OP.aS rfl rfl ?_ | refine OP.aP rfl rfl ?_ | refine OP.aA rfl rfl ?_ | refine OP.aT rfl rfl ?_ | refine OP.aM rfl rfl ?_ | refine OP.aU rfl rfl ?_ | refine OP.assign rfl rfl ?_) | (show OP _ _ _ _ _ _ _ ⟨_, .call _, _, _, _, none⟩ _ _; first | refine OP.callq _ rfl (fun w _ => hwa w) (fun _ _ h => h.1) ?_ | refine OP.len rfl rfl rfl ?_) | (show OP _ _ _ _ _ _ _ ⟨_, .binOp _ _ _ _ _, _, _, _, none⟩ _ _; first | (refine OP.add rfl rfl rfl ?_ ?_ ?_; omega; omega) | refine OP.lss rfl rfl rfl ?_ | refine OP.neq rfl rfl rfl ?_ | refine OP.neq2 rfl rfl rfl ?_ | refine OP.neqd rfl rfl rfl ?_) | (show OP _ _ _ _ _ _ _ ⟨_, .unOp _ _ _, _, _, _, none⟩ _ _; first | refine OP.notd rfl rfl ?_ | refine OP.not rfl rfl ?_ | (refine OP.neg rfl rfl ?_ ?_ ?_; omega; omega)) | (refine OP.conv rfl rfl ?_ ?_ ?_; omega; omega) | refine OP.extract rfl rfl rfl ?_ | (show OP _ _ _ _ _ _ _ ⟨_, .load _ _, _, _, _, none⟩ _ _; first | refine OP.ld rfl rfl inferInstance rfl ?_ | refine OP.load rfl rfl (Sees.old0 (by assumption)) ?_ | refine OP.ldA rfl rfl inferInstance rfl ?_) | (show OP _ _ _ _ _ _ _ ⟨_, .store _ _ _, _, _, _, none⟩ _ _; first | refine OP.stI rfl rfl inferInstance rfl ?_ | refine OP.stB rfl rfl inferInstance rfl ?_ | refine OP.stC rfl rfl inferInstance rfl ?_ | refine OP.stF rfl rfl inferInstance rfl ?_ | refine OP.stS rfl rfl inferInstance rfl ?_ | refine OP.stP rfl rfl inferInstance rfl ?_ | refine OP.stM rfl rfl inferInstance rfl ?_ | refine OP.stU rfl rfl inferInstance rfl ?_ | refine OP.st (vs := [_]) rfl rfl inferInstance rfl rfl rfl ?_ | refine OP.st (vs := [_, _]) rfl rfl inferInstance rfl rfl rfl ?_ | refine OP.st (vs := [_, _, _]) rfl rfl inferInstance rfl rfl rfl ?_))
    refine Fin.loop_normal fun w' hst => ⟨k + 1, by omega, by omega, by (repeat' (first | exact Agree.refl _ _ | refine Agree.upd rfl ?_ | refine Agree.hav rfl ?_)), ⟨rfl, trivial⟩, hst⟩
  · have ek : k = N := by omega
    have e1 : (r.map sc).take k = r.map sc := List.take_of_length_le (by simp; omega)
    have e2 : r.drop k = [] := List.drop_of_length_le (by omega)
    rw [e1, e2]
    repeat' (first | refine Fin.tail ?_ | refine Fin.then_normal ?_ | refine Fin.then_exit ?_ | refine Fin.then_ret ?_ | refine Fin.block_normal ?_ | refine Fin.block_ret ?_ | refine Fin.block_hit ?_ | refine Fin.block_miss rfl ?_ | refine Fin.loop_exit ?_ | refine Fin.loop_ret ?_ | refine WP.seq ?_ | (refine WP.regionQ (by kernel_rfl) (by kernel_rfl) ?_) | refine WP.block ?_ | refine WP.region ?_ | refine WP.skip ?_ | refine WP.exit ?_ | refine WP.ret ?_ | refine WP.label ?_ | refine WP.cond_true rfl ?_ | refine WP.cond_false rfl ?_ | (refine WP.cond_dec rfl (fun h => ?_) (fun h => ?_) <;> (try (exfalso; omega))) | (refine WP.cond_bool rfl (fun h => ?_) (fun h => ?_)) | refine WL.nil ?_ | refine WL.cons ?_ | (show OP _ _ _ _ _ _ _ ⟨_, .move _, _, _, _, none⟩ _ _; first | refine OP.mI rfl rfl ?_ | refine OP.mB rfl rfl ?_ | refine OP.mC rfl rfl ?_ | refine OP.mF rfl rfl ?_ | refine OP.mS rfl rfl ?_ | refine OP.mP rfl rfl ?_ | refine OP.mA rfl rfl ?_ | refine OP.mT rfl rfl ?_ | refine OP.mM rfl rfl ?_ | refine OP.mU rfl rfl ?_ | refine OP.move rfl rfl ?_) | (show OP _ _ _ _ _ _ _ ⟨_, .assign _, _, _, _, none⟩ _ _; first | refine OP.aI rfl rfl ?_ | refine OP.aB rfl rfl ?_ | refine OP.aC rfl rfl ?_ | refine OP.aF rfl rfl ?_ | refine OP.aS rfl rfl ?_ | refine OP.aP rfl rfl ?_ | refine OP.aA rfl rfl ?_ | refine OP.aT rfl rfl ?_ | refine OP.aM rfl rfl ?_ | refine OP.aU rfl rfl ?_ | refine OP.assign rfl rfl ?_) | refine OP.len rfl rfl rfl ?_ | (show OP _ _ _ _ _ _ _ ⟨_, .binOp _ _ _ _ _, _, _, _, none⟩ _ _; first | (refine OP.add rfl rfl rfl ?_ ?_ ?_; omega; omega) | refine OP.lss rfl rfl rfl ?_ | refine OP.neq rfl rfl rfl ?_ | refine OP.neq2 rfl rfl rfl ?_ | refine OP.neqd rfl rfl rfl ?_) | (show OP _ _ _ _ _ _ _ ⟨_, .unOp _ _ _, _, _, _, none⟩ _ _; first | refine OP.notd rfl rfl ?_ | refine OP.not rfl rfl ?_ | (refine OP.neg rfl rfl ?_ ?_ ?_; omega; omega)) | (refine OP.conv rfl rfl ?_ ?_ ?_; omega; omega) | refine OP.extract rfl rfl rfl ?_ | (show OP _ _ _ _ _ _ _ ⟨_, .load _ _, _, _, _, none⟩ _ _; first | refine OP.ld rfl rfl inferInstance rfl ?_ | refine OP.load rfl rfl (Sees.old0 (by assumption)) ?_ | refine OP.ldA rfl rfl inferInstance rfl ?_) | (show OP _ _ _ _ _ _ _ ⟨_, .store _ _ _, _, _, _, none⟩ _ _; first | refine OP.stI rfl rfl inferInstance rfl ?_ | refine OP.stB rfl rfl inferInstance rfl ?_ | refine OP.stC rfl rfl inferInstance rfl ?_ | refine OP.stF rfl rfl inferInstance rfl ?_ | refine OP.stS rfl rfl inferInstance rfl ?_ | refine OP.stP rfl rfl inferInstance rfl ?_ | refine OP.stM rfl rfl inferInstance rfl ?_ | refine OP.stU rfl rfl inferInstance rfl ?_ | refine OP.st (vs := [_]) rfl rfl inferInstance rfl rfl rfl ?_ | refine OP.st (vs := [_, _]) rfl rfl inferInstance rfl rfl rfl ?_ | refine OP.st (vs := [_, _, _]) rfl rfl inferInstance rfl rfl rfl ?_))
    refine Fin.ret2 (h0 := .inl rfl) rfl rfl rfl ?_
    exact ⟨q, rfl, by simp⟩
end Go.Proofs.YtjckoflcjkajiaaDoor
