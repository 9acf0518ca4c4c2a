/- Texts joined: PenC. -/
import Derived.Test.YthecbhegjdcjfaaDoorJp1
import Derived.Laws.ResultCell
section
/- The pen's rules for what is written: stores, append, copy; floats and complex numbers; the ends of a call. -/
set_option linter.unusedVariables false
set_option linter.unusedSimpArgs false
namespace Go.Pen

/-! ## Stores -/
def putN (w : World) (b p : Nat) : List Value → World
  | [] => w
  | v :: vs => putN (w.setCell ⟨b, p, none⟩ v) b (p + 1) vs

section
variable {P : Program} {n : Nat} {B : World} {I : List Nat} {Γ Γ1 Γ2 : List (Nat × Obj)} {ρ : Env} {ops : Array Oper} {md : Bool} {K : List (Nat × Obj) → Env → Prop}
  {d : Nat} {ty : TypeId} {pos : String} {af : Array Edge} {t e : TypeId} {x y : Operand} {b i : Nat} {v : Value} {k : IntKind}

theorem setCell_heap {w : World} {cs : Array Value} {T : TypeId} {fz : Nat × Nat} (h : w.heap[b]? = some (.cells cs T fz)) (p : Nat) (v : Value) : (w.setCell ⟨b, p, none⟩ v).heap[b]? = some (.cells (cs.setIfInBounds p v) T fz) := by
  simp only [World.setCell, Array.getElem?_modify, if_true]
  rw [h]; rfl

theorem run_storeCells_put (b o : Nat) (T : TypeId) : ∀ (vs : List Value) (i : Nat) (w : World) (cs : Array Value), w.heap[b]? = some (.cells cs T (0, 0)) → o + i + vs.length ≤ cs.size → (∀ v ∈ vs, v.oneCell' = true) →
    (storeCells ⟨b, o, none⟩ vs i).run P w = .ok () (putN w b (o + i) vs)
  | [], i, w, cs, _, _, _ => rfl
  | v :: vs, i, w, cs, hb, hl, h1 => by
    have hlt : o + i < cs.size := by simp at hl; omega
    have hc : w.cell? ⟨b, o + i, none⟩ = some cs[o + i] := by simp [World.cell?, hb, hlt]
    have hf : w.frozen? ⟨b, o + i, none⟩ = false := by simp [World.frozen?, hb]
    have ih := run_storeCells_put b o T vs (i + 1) (w.setCell ⟨b, o + i, none⟩ v) (cs.setIfInBounds (o + i) v) (setCell_heap hb _ _) (by simp at hl ⊢; omega) (fun u hu => h1 u (by simp [hu]))
    have hst : (store ((⟨b, o, none⟩ : Addr).add i) v).run P w = .ok () (w.setCell ⟨b, o + i, none⟩ v) := by
      rw [add_mk, run_store P w _ v _ (h1 v (by simp)), hc]; simp [hf]
    simp only [storeCells, Sem.run_bind, hst, Result.andThen_ok, ih, putN]
    rfl

theorem St.putN {T : TypeId} : ∀ (vs : List Value) (cs : Array Value) (p : Nat) (w : World), St B I ((b, .cells cs T (0, 0)) :: Γ) w → St B I ((b, .cells (setN cs p vs) T (0, 0)) :: Γ) (Pen.putN w b p vs)
  | [], _, _, _, h => h
  | v :: vs, cs, p, w, h => St.putN vs _ _ _ (h.store p v)

theorem run_storeVarN {m bytes : Nat} {z : Value} [hI : TI P t m bytes z] {vs : List Value} {w : World} {cs : Array Value} {T : TypeId} (hv : v.cells.toList = vs) (hl : vs.length = m) (hb : w.heap[b]? = some (.cells cs T (0, 0)))
    (hi : i + m ≤ cs.size) (h1 : ∀ u ∈ vs, u.oneCell' = true) : (storeVar t ⟨b, i, none⟩ v).run P w = .ok () (putN w b i vs) := by
  obtain ⟨inf, i1, i2, _, _⟩ := hI.out
  have hs : (sizeOf t).run P w = .ok m w := by simp [sizeOf, typeInfo, i1, i2]
  have hsz : v.cells.size = m := by rw [← hl, ← hv]; simp
  have := run_storeCells_put (P := P) b i T vs 0 w cs hb (by omega) h1
  simp only [Nat.add_zero] at this
  simp [storeVar, hs, hsz, hv, this]

/-- A store into the block at its place in the list. -/
theorem OP.storeP {m bytes : Nat} {z : Value} [hI : TI P t m bytes z] {vs : List Value} {cs : Array Value} {T : TypeId} (ha : ev ρ x = .pointer (some ⟨b, i, none⟩)) (hv : (ev ρ y).cells.toList = vs) (hl : vs.length = m)
    (h1 : (vs.all (·.oneCell')) = true) (hi : Nat.ble (i + m) cs.size = true) (h : K (Γ1 ++ (b, .cells (setN cs i vs) T (0, 0)) :: Γ2) ρ) :
    OP P n B I (Γ1 ++ (b, .cells cs T (0, 0)) :: Γ2) false ops ⟨none, .store t x y, ty, pos, af, none⟩ K ρ :=
  OP.skip0 (fun w hw => ⟨putN w b i vs, by
    have := run_storeVarN (P := P) (t := t) (b := b) (i := i) (v := ev ρ y) (w := w) (cs := cs) (T := T) hv hl (hw.has (b, _) (by simp)) (Nat.le_of_ble_eq_true hi) (List.all_eq_true.1 h1)
    simp only [execOp, ha, Instr.storeAt, Instr.sureAddr, Sem.run_bind, Sem.run_pure, Result.andThen_ok, this],
    (St.putN vs cs i w (hw.perm List.perm_middle)).perm List.perm_middle.symm⟩) h

theorem OP.store0 {m bytes : Nat} {z : Value} [hI : TI P t m bytes z] {vs : List Value} {cs : Array Value} {T : TypeId} (ha : ev ρ x = .pointer (some ⟨b, i, none⟩)) (hv : (ev ρ y).cells.toList = vs) (hl : vs.length = m)
    (h1 : (vs.all (·.oneCell')) = true) (hi : Nat.ble (i + m) cs.size = true) (h : K ((b, .cells (setN cs i vs) T (0, 0)) :: Γ2) ρ) :
    OP P n B I ((b, .cells cs T (0, 0)) :: Γ2) false ops ⟨none, .store t x y, ty, pos, af, none⟩ K ρ :=
  OP.storeP (Γ1 := []) ha hv hl h1 hi h

theorem OP.store1 {m bytes : Nat} {z : Value} [hI : TI P t m bytes z] {vs : List Value} {cs : Array Value} {T : TypeId} {p0 : Nat × Obj} (ha : ev ρ x = .pointer (some ⟨b, i, none⟩)) (hv : (ev ρ y).cells.toList = vs) (hl : vs.length = m)
    (h1 : (vs.all (·.oneCell')) = true) (hi : Nat.ble (i + m) cs.size = true) (h : K (p0 :: (b, .cells (setN cs i vs) T (0, 0)) :: Γ2) ρ) :
    OP P n B I (p0 :: (b, .cells cs T (0, 0)) :: Γ2) false ops ⟨none, .store t x y, ty, pos, af, none⟩ K ρ :=
  OP.storeP (Γ1 := [p0]) ha hv hl h1 hi h

theorem OP.store2 {m bytes : Nat} {z : Value} [hI : TI P t m bytes z] {vs : List Value} {cs : Array Value} {T : TypeId} {p0 p1 : Nat × Obj} (ha : ev ρ x = .pointer (some ⟨b, i, none⟩)) (hv : (ev ρ y).cells.toList = vs) (hl : vs.length = m)
    (h1 : (vs.all (·.oneCell')) = true) (hi : Nat.ble (i + m) cs.size = true) (h : K (p0 :: p1 :: (b, .cells (setN cs i vs) T (0, 0)) :: Γ2) ρ) :
    OP P n B I (p0 :: p1 :: (b, .cells cs T (0, 0)) :: Γ2) false ops ⟨none, .store t x y, ty, pos, af, none⟩ K ρ :=
  OP.storeP (Γ1 := [p0, p1]) ha hv hl h1 hi h

theorem OP.store3 {m bytes : Nat} {z : Value} [hI : TI P t m bytes z] {vs : List Value} {cs : Array Value} {T : TypeId} {p0 p1 p2 : Nat × Obj} (ha : ev ρ x = .pointer (some ⟨b, i, none⟩)) (hv : (ev ρ y).cells.toList = vs) (hl : vs.length = m)
    (h1 : (vs.all (·.oneCell')) = true) (hi : Nat.ble (i + m) cs.size = true) (h : K (p0 :: p1 :: p2 :: (b, .cells (setN cs i vs) T (0, 0)) :: Γ2) ρ) :
    OP P n B I (p0 :: p1 :: p2 :: (b, .cells cs T (0, 0)) :: Γ2) false ops ⟨none, .store t x y, ty, pos, af, none⟩ K ρ :=
  OP.storeP (Γ1 := [p0, p1, p2]) ha hv hl h1 hi h

theorem OP.store4 {m bytes : Nat} {z : Value} [hI : TI P t m bytes z] {vs : List Value} {cs : Array Value} {T : TypeId} {p0 p1 p2 p3 : Nat × Obj} (ha : ev ρ x = .pointer (some ⟨b, i, none⟩)) (hv : (ev ρ y).cells.toList = vs) (hl : vs.length = m)
    (h1 : (vs.all (·.oneCell')) = true) (hi : Nat.ble (i + m) cs.size = true) (h : K (p0 :: p1 :: p2 :: p3 :: (b, .cells (setN cs i vs) T (0, 0)) :: Γ2) ρ) :
    OP P n B I (p0 :: p1 :: p2 :: p3 :: (b, .cells cs T (0, 0)) :: Γ2) false ops ⟨none, .store t x y, ty, pos, af, none⟩ K ρ :=
  OP.storeP (Γ1 := [p0, p1, p2, p3]) ha hv hl h1 hi h

theorem OP.store5 {m bytes : Nat} {z : Value} [hI : TI P t m bytes z] {vs : List Value} {cs : Array Value} {T : TypeId} {p0 p1 p2 p3 p4 : Nat × Obj} (ha : ev ρ x = .pointer (some ⟨b, i, none⟩)) (hv : (ev ρ y).cells.toList = vs) (hl : vs.length = m)
    (h1 : (vs.all (·.oneCell')) = true) (hi : Nat.ble (i + m) cs.size = true) (h : K (p0 :: p1 :: p2 :: p3 :: p4 :: (b, .cells (setN cs i vs) T (0, 0)) :: Γ2) ρ) :
    OP P n B I (p0 :: p1 :: p2 :: p3 :: p4 :: (b, .cells cs T (0, 0)) :: Γ2) false ops ⟨none, .store t x y, ty, pos, af, none⟩ K ρ :=
  OP.storeP (Γ1 := [p0, p1, p2, p3, p4]) ha hv hl h1 hi h

theorem OP.store6 {m bytes : Nat} {z : Value} [hI : TI P t m bytes z] {vs : List Value} {cs : Array Value} {T : TypeId} {p0 p1 p2 p3 p4 p5 : Nat × Obj} (ha : ev ρ x = .pointer (some ⟨b, i, none⟩)) (hv : (ev ρ y).cells.toList = vs) (hl : vs.length = m)
    (h1 : (vs.all (·.oneCell')) = true) (hi : Nat.ble (i + m) cs.size = true) (h : K (p0 :: p1 :: p2 :: p3 :: p4 :: p5 :: (b, .cells (setN cs i vs) T (0, 0)) :: Γ2) ρ) :
    OP P n B I (p0 :: p1 :: p2 :: p3 :: p4 :: p5 :: (b, .cells cs T (0, 0)) :: Γ2) false ops ⟨none, .store t x y, ty, pos, af, none⟩ K ρ :=
  OP.storeP (Γ1 := [p0, p1, p2, p3, p4, p5]) ha hv hl h1 hi h

theorem OP.store7 {m bytes : Nat} {z : Value} [hI : TI P t m bytes z] {vs : List Value} {cs : Array Value} {T : TypeId} {p0 p1 p2 p3 p4 p5 p6 : Nat × Obj} (ha : ev ρ x = .pointer (some ⟨b, i, none⟩)) (hv : (ev ρ y).cells.toList = vs) (hl : vs.length = m)
    (h1 : (vs.all (·.oneCell')) = true) (hi : Nat.ble (i + m) cs.size = true) (h : K (p0 :: p1 :: p2 :: p3 :: p4 :: p5 :: p6 :: (b, .cells (setN cs i vs) T (0, 0)) :: Γ2) ρ) :
    OP P n B I (p0 :: p1 :: p2 :: p3 :: p4 :: p5 :: p6 :: (b, .cells cs T (0, 0)) :: Γ2) false ops ⟨none, .store t x y, ty, pos, af, none⟩ K ρ :=
  OP.storeP (Γ1 := [p0, p1, p2, p3, p4, p5, p6]) ha hv hl h1 hi h

theorem OP.store8 {m bytes : Nat} {z : Value} [hI : TI P t m bytes z] {vs : List Value} {cs : Array Value} {T : TypeId} {p0 p1 p2 p3 p4 p5 p6 p7 : Nat × Obj} (ha : ev ρ x = .pointer (some ⟨b, i, none⟩)) (hv : (ev ρ y).cells.toList = vs) (hl : vs.length = m)
    (h1 : (vs.all (·.oneCell')) = true) (hi : Nat.ble (i + m) cs.size = true) (h : K (p0 :: p1 :: p2 :: p3 :: p4 :: p5 :: p6 :: p7 :: (b, .cells (setN cs i vs) T (0, 0)) :: Γ2) ρ) :
    OP P n B I (p0 :: p1 :: p2 :: p3 :: p4 :: p5 :: p6 :: p7 :: (b, .cells cs T (0, 0)) :: Γ2) false ops ⟨none, .store t x y, ty, pos, af, none⟩ K ρ :=
  OP.storeP (Γ1 := [p0, p1, p2, p3, p4, p5, p6, p7]) ha hv hl h1 hi h


/-! ## append, copy -/
theorem SeesN.cells {vs : List Value} {w : World} (h : SeesN B I Γ b i vs) (hw : St B I Γ w) : ∀ j u, vs[j]? = some u → w.cell? ((⟨b, i, none⟩ : Addr).add j) = some u :=
  fun j u hu => by rw [add_mk]; exact (h.out j u hu).out w hw

theorem St.setRow {w : World} {cs cs' : Array Value} {T : TypeId} {fz : Nat × Nat} (h : St B I ((b, .cells cs T fz) :: Γ) w) : St B I ((b, .cells cs' T fz) :: Γ) (w.setRow b cs') :=
  h.set rfl rfl rfl (by simp [World.setRow]) (setRow_heap w b cs cs' T fz (h.has _ List.mem_cons_self)) (fun k hk => setRow_other w b k cs' hk)

/-- 'append(s, x...)', s a row of the caller's own; x any slice that is no nil. -/
theorem OP.appendP {m bytes : Nat} {z : Value} {sn sc xo xn xc : Nat} {xb : Nat} {tys : Array TypeId} {xs sp vs : List Value} [hS : TSlice P t e] [hI : TI P e m bytes z]
    (hd : Nat.blt d n = true) (ht : tys = #[t, t]) (hz : z.cells.size = m) (hs : ev ρ x = .slice (some ⟨b, 0, none⟩) sn sc) (hx : ev ρ y = .slice (some ⟨xb, xo, none⟩) xn xc)
    (hxl : xs.length = sn * m) (hsp : xs.length + sp.length = sc * m)
    (hvs : SeesN B I (Γ1 ++ (b, .cells (xs ++ sp).toArray e (0, 0)) :: Γ2) xb xo vs) (hvl : vs.length = xn * m) (h1 : ∀ u ∈ vs, u.oneCell' = true)
    (hby : (sn + xn) * bytes ≤ 140737488355328) (h63 : sn + xn ≤ 9223372036854775807)
    (h : ∀ b' sp' sc', (xs ++ vs).length + sp'.length = sc' * m → sn + xn ≤ sc' → K (Γ1 ++ (b', .cells ((xs ++ vs) ++ sp').toArray e (0, 0)) :: Γ2) (upd ρ d (.slice (some ⟨b', 0, none⟩) (sn + xn) sc'))) :
    OP P n B I (Γ1 ++ (b, .cells (xs ++ sp).toArray e (0, 0)) :: Γ2) false ops ⟨some d, .call ⟨.builtin .append, #[x, y], tys⟩, ty, pos, af, none⟩ K ρ :=
  OP.gen hd fun w hw => by
    obtain ⟨i, i1, i2, i3, i4⟩ := hI.out
    have hblk : w.heap[b]? = some (.cells (xs ++ sp).toArray e (0, 0)) := hw.has (b, _) (by simp)
    by_cases hroom : sn + xn ≤ sc
    · have hfit : sn * i.size + vs.length ≤ (xs ++ sp).toArray.size := by
        have := Nat.mul_le_mul_right m hroom
        simp only [List.size_toArray, List.length_append]
        rw [i2, hsp, hvl, ← Nat.add_mul]; exact this
      have hrun := run_append_room (P := P) w t ty e i hS.out i1 b sn sc _ hblk ⟨xb, xo, none⟩ xn xc vs (by rw [i2]; exact hvl) (hvs.cells hw) h1 hroom hfit
      have hrow : ((xs ++ sp).toArray.toList.take (sn * i.size) ++ vs ++ (xs ++ sp).toArray.toList.drop (sn * i.size + vs.length)).toArray = ((xs ++ vs) ++ sp.drop vs.length).toArray := by
        rw [i2, ← hxl]; simp
      rw [hrow] at hrun
      refine ⟨_, Γ1 ++ (b, .cells ((xs ++ vs) ++ sp.drop vs.length).toArray e (0, 0)) :: Γ2, _, ?_, ((hw.perm List.perm_middle).setRow).perm List.perm_middle.symm, h b _ sc ?_ hroom⟩
      · simp only [execOp, resolve, invoke, builtin, ht, hs, hx, List.map_toArray, List.map_cons, List.map_nil, Sem.run_bind, Sem.run_pure, Result.andThen_ok, hrun]
      · have := Nat.mul_le_mul_right m hroom
        rw [Nat.add_mul] at this
        simp only [List.length_append, List.length_drop]; omega
    · have hrun := run_append_grow (P := P) w t ty e i z hS.out i1 i4 ⟨b, 0, none⟩ sn sc xs (by rw [i2]; exact hxl)
        (fun j u hu => by
          rw [add_mk, Nat.zero_add]
          refine cell_of hblk ?_
          simp only [List.getElem?_toArray]
          rw [List.getElem?_append_left (List.getElem?_eq_some_iff.1 hu).1]; exact hu)
        ⟨xb, xo, none⟩ xn xc vs (by rw [i2]; exact hvl) (hvs.cells hw) (by omega) (by omega) (growslice_fits (by omega) (by rw [i3]; exact hby))
      have hge := grownCap_ge w (sn + xn) sc e
      generalize grownCap w (sn + xn) sc e = gc at *
      have hrow : (xs.toArray ++ vs.toArray ++ Builtin.zeroCells z.cells (gc - (sn + xn))) = ((xs ++ vs) ++ (Builtin.zeroCells z.cells (gc - (sn + xn))).toList).toArray := by
        apply Array.ext'; simp
      rw [hrow] at hrun
      have hst := (hw.drew (w.drawn + 1) (Nat.le_succ _)).new (.cells ((xs ++ vs) ++ (Builtin.zeroCells z.cells (gc - (sn + xn))).toList).toArray e (0, 0))
      refine ⟨_, Γ1 ++ (w.heap.size, .cells ((xs ++ vs) ++ (Builtin.zeroCells z.cells (gc - (sn + xn))).toList).toArray e (0, 0)) :: Γ2, w.drew.alloc (.cells ((xs ++ vs) ++ (Builtin.zeroCells z.cells (gc - (sn + xn))).toList).toArray e), ?_, ?_, h w.heap.size _ gc ?_ hge⟩
      · simp only [execOp, resolve, invoke, builtin, ht, hs, hx, List.map_toArray, List.map_cons, List.map_nil, Sem.run_bind, Sem.run_pure, Result.andThen_ok, hrun]
      · refine St.perm ?_ List.perm_middle.symm
        exact St.drop hst (List.Sublist.cons_cons _ ((List.Sublist.refl Γ1).append (List.sublist_cons_self _ _)))
      · simp only [List.length_append, Array.length_toList, size_zeroCells, hz, hxl, hvl, ← Nat.add_mul]
        congr 1; omega

/-- 'append(nil, x...)', x not empty. -/
theorem OP.appendNil {m bytes : Nat} {z : Value} {xo xn xc : Nat} {xb : Nat} {tys : Array TypeId} {vs : List Value} [hS : TSlice P t e] [hI : TI P e m bytes z]
    (hd : Nat.blt d n = true) (ht : tys = #[t, t]) (hz : z.cells.size = m) (hs : ev ρ x = .slice none 0 0) (hx : ev ρ y = .slice (some ⟨xb, xo, none⟩) xn xc)
    (hvs : SeesN B I Γ xb xo vs) (hvl : vs.length = xn * m) (h0 : 0 < xn) (hby : xn * bytes ≤ 140737488355328) (h63 : xn ≤ 9223372036854775807)
    (h : ∀ b' sp' sc', vs.length + sp'.length = sc' * m → xn ≤ sc' → K ((b', .cells (vs ++ sp').toArray e (0, 0)) :: Γ) (upd ρ d (.slice (some ⟨b', 0, none⟩) xn sc'))) :
    OP P n B I Γ false ops ⟨some d, .call ⟨.builtin .append, #[x, y], tys⟩, ty, pos, af, none⟩ K ρ :=
  OP.gen hd fun w hw => by
    obtain ⟨i, i1, i2, i3, i4⟩ := hI.out
    have hrun := run_append_nil (P := P) w t ty e i z hS.out i1 i4 ⟨xb, xo, none⟩ xn xc vs (by rw [i2]; exact hvl) (hvs.cells hw) h0 (by omega) (by rw [i3]; omega)
    have hge := grownCap_ge w xn 0 e
    generalize grownCap w xn 0 e = gc at *
    have hrow : (vs.toArray ++ Builtin.zeroCells z.cells (gc - xn)) = (vs ++ (Builtin.zeroCells z.cells (gc - xn)).toList).toArray := by
      apply Array.ext'; simp
    rw [hrow] at hrun
    refine ⟨_, _, _, ?_, (hw.drew (w.drawn + 1) (Nat.le_succ _)).new (.cells (vs ++ (Builtin.zeroCells z.cells (gc - xn)).toList).toArray e (0, 0)), h w.heap.size (Builtin.zeroCells z.cells (gc - xn)).toList gc ?_ hge⟩
    · simp only [execOp, resolve, invoke, builtin, ht, hs, hx, List.map_toArray, List.map_cons, List.map_nil, Sem.run_bind, Sem.run_pure, Result.andThen_ok, hrun]
      rfl
    · simp only [Array.length_toList, size_zeroCells, hz, hvl, ← Nat.add_mul]
      congr 1; omega

/-- 'append(s, x...)' where x is nil: s. -/
theorem OP.appendNone {m bytes : Nat} {z : Value} {a : Option Addr} {sn sc : Nat} {tys : Array TypeId} [hS : TSlice P t e] [hI : TI P e m bytes z]
    (hd : Nat.blt d n = true) (ht : tys = #[t, t]) (hs : ev ρ x = .slice a sn sc) (hx : ev ρ y = .slice none 0 0) (hc : sn ≤ sc)
    (h : K Γ (upd ρ d (.slice a sn sc))) :
    OP P n B I Γ md ops ⟨some d, .call ⟨.builtin .append, #[x, y], tys⟩, ty, pos, af, none⟩ K ρ :=
  OP.pure1 _ hd (fun w hw => by
    obtain ⟨i, i1, i2, i3, i4⟩ := hI.out
    cases a with
    | none => simp [execOp, resolve, invoke, builtin, ht, hs, hx, Builtin.append_, run_underlying hS.out, sizeOf, typeInfo, i1, Builtin.lenOf, Builtin.firstCells, hc]
    | some a => simp [execOp, resolve, invoke, builtin, ht, hs, hx, Builtin.append_, run_underlying hS.out, sizeOf, typeInfo, i1, Builtin.lenOf, Builtin.firstCells, hc, storeCells]) h

/-! ## Floats, complex numbers -/
theorem eqGuard_float (op : BinOp) (t : TypeId) (x y : Operand) (a b : Nat) (w : World) : (eqGuard op t x y (.float .f64 a) (.float .f64 b)).run P w = .ok () w := by cases op <;> rfl
theorem eqGuard_cx (op : BinOp) (t : TypeId) (x y : Operand) (a b c d : Nat) (w : World) : (eqGuard op t x y (.complex .f64 a b) (.complex .f64 c d)).run P w = .ok () w := by cases op <;> rfl
theorem OP.farith {op : BinOp} {a b r : Nat} {t' : TypeId} (hd : Nat.blt d n = true) (hx : ev ρ x = .float .f64 a) (hy : ev ρ y = .float .f64 b) (hr : floatBits op .f64 a b = some r) (h : K Γ (upd ρ d (.float .f64 r))) :
    OP P n B I Γ md ops ⟨some d, .binOp op t x y t', ty, pos, af, none⟩ K ρ :=
  OP.pure1 _ hd (fun w _ => by
    have h1 := eqGuard_float (P := P) op t x y a b w
    have h2 := run_float_arith (P := P) w op t .f64 a b r hr
    simp only [execOp, hx, hy, Sem.run_bind, h1, h2, Result.andThen_ok, Sem.run_pure]) h
/-- How two floats stand. -/
def ford (a b : Nat) : Option Ordering := Ieee.double.order a b
theorem OP.flss {a b : Nat} {t' : TypeId} (hd : Nat.blt d n = true) (hx : ev ρ x = .float .f64 a) (hy : ev ρ y = .float .f64 b) (h : K Γ (upd ρ d (.bool (ford a b == some .lt)))) :
    OP P n B I Γ md ops ⟨some d, .binOp .lss t x y t', ty, pos, af, none⟩ K ρ :=
  OP.pure1 _ hd (fun w _ => by
    have h1 := eqGuard_float (P := P) .lss t x y a b w
    simp only [execOp, hx, hy, Sem.run_bind, h1, Result.andThen_ok]; rfl) h
theorem OP.fleq {a b : Nat} {t' : TypeId} (hd : Nat.blt d n = true) (hx : ev ρ x = .float .f64 a) (hy : ev ρ y = .float .f64 b) (h : K Γ (upd ρ d (.bool (ford a b == some .lt || ford a b == some .eq)))) :
    OP P n B I Γ md ops ⟨some d, .binOp .leq t x y t', ty, pos, af, none⟩ K ρ :=
  OP.pure1 _ hd (fun w _ => by
    have h1 := eqGuard_float (P := P) .leq t x y a b w
    simp only [execOp, hx, hy, Sem.run_bind, h1, Result.andThen_ok]; rfl) h
theorem OP.fgtr {a b : Nat} {t' : TypeId} (hd : Nat.blt d n = true) (hx : ev ρ x = .float .f64 a) (hy : ev ρ y = .float .f64 b) (h : K Γ (upd ρ d (.bool (ford a b == some .gt)))) :
    OP P n B I Γ md ops ⟨some d, .binOp .gtr t x y t', ty, pos, af, none⟩ K ρ :=
  OP.pure1 _ hd (fun w _ => by
    have h1 := eqGuard_float (P := P) .gtr t x y a b w
    simp only [execOp, hx, hy, Sem.run_bind, h1, Result.andThen_ok]; rfl) h
theorem OP.feql {a b : Nat} {t' : TypeId} (hd : Nat.blt d n = true) (hx : ev ρ x = .float .f64 a) (hy : ev ρ y = .float .f64 b) (h : K Γ (upd ρ d (.bool (ford a b == some .eq)))) :
    OP P n B I Γ md ops ⟨some d, .binOp .eql t x y t', ty, pos, af, none⟩ K ρ :=
  OP.pure1 _ hd (fun w _ => by
    have h1 := eqGuard_float (P := P) .eql t x y a b w
    simp only [execOp, hx, hy, Sem.run_bind, h1, Result.andThen_ok]; rfl) h
theorem OP.fneq {a b : Nat} {t' : TypeId} (hd : Nat.blt d n = true) (hx : ev ρ x = .float .f64 a) (hy : ev ρ y = .float .f64 b) (h : K Γ (upd ρ d (.bool (ford a b != some .eq)))) :
    OP P n B I Γ md ops ⟨some d, .binOp .neq t x y t', ty, pos, af, none⟩ K ρ :=
  OP.pure1 _ hd (fun w _ => by
    have h1 := eqGuard_float (P := P) .neq t x y a b w
    simp only [execOp, hx, hy, Sem.run_bind, h1, Result.andThen_ok]; rfl) h
theorem OP.real {a b : Nat} {tys : Array TypeId} (hd : Nat.blt d n = true) (hx : ev ρ x = .complex .f64 a b) (h : K Γ (upd ρ d (.float .f64 a))) :
    OP P n B I Γ md ops ⟨some d, .call ⟨.builtin .real, #[x], tys⟩, ty, pos, af, none⟩ K ρ :=
  OP.pure1 _ hd (fun w _ => by simp only [execOp, resolve, invoke, builtin, List.map_toArray, List.map_cons, List.map_nil, hx, Sem.run_bind, Sem.run_pure, Result.andThen_ok]; rfl) h
theorem OP.imag {a b : Nat} {tys : Array TypeId} (hd : Nat.blt d n = true) (hx : ev ρ x = .complex .f64 a b) (h : K Γ (upd ρ d (.float .f64 b))) :
    OP P n B I Γ md ops ⟨some d, .call ⟨.builtin .imag, #[x], tys⟩, ty, pos, af, none⟩ K ρ :=
  OP.pure1 _ hd (fun w _ => by simp only [execOp, resolve, invoke, builtin, List.map_toArray, List.map_cons, List.map_nil, hx, Sem.run_bind, Sem.run_pure, Result.andThen_ok]; rfl) h
theorem OP.complex {a b : Nat} {tys : Array TypeId} (hd : Nat.blt d n = true) (hx : ev ρ x = .float .f64 a) (hy : ev ρ y = .float .f64 b) (h : K Γ (upd ρ d (.complex .f64 a b))) :
    OP P n B I Γ md ops ⟨some d, .call ⟨.builtin .complex, #[x, y], tys⟩, ty, pos, af, none⟩ K ρ :=
  OP.pure1 _ hd (fun w _ => by simp only [execOp, resolve, invoke, builtin, List.map_toArray, List.map_cons, List.map_nil, hx, hy, Sem.run_bind, Sem.run_pure, Result.andThen_ok]; rfl) h
theorem OP.max2 {a b : Int} {tys : Array TypeId} (hd : Nat.blt d n = true) (hx : ev ρ x = .int k a) (hy : ev ρ y = .int k b) (h : K Γ (upd ρ d (.int k (max a b)))) :
    OP P n B I Γ md ops ⟨some d, .call ⟨.builtin .max, #[x, y], tys⟩, ty, pos, af, none⟩ K ρ :=
  OP.pure1 _ hd (fun w _ => by
    have e : (if b > a then b else a) = max a b := by rw [Int.max_def]; split <;> split <;> omega
    simp [execOp, resolve, invoke, builtin, Builtin.max_, Builtin.max2, hx, hy, e, List.foldlM]) h
theorem OP.min2 {a b : Int} {tys : Array TypeId} (hd : Nat.blt d n = true) (hx : ev ρ x = .int k a) (hy : ev ρ y = .int k b) (h : K Γ (upd ρ d (.int k (min a b)))) :
    OP P n B I Γ md ops ⟨some d, .call ⟨.builtin .min, #[x, y], tys⟩, ty, pos, af, none⟩ K ρ :=
  OP.pure1 _ hd (fun w _ => by
    have e : (if b < a then b else a) = min a b := by rw [Int.min_def]; split <;> split <;> omega
    simp [execOp, resolve, invoke, builtin, Builtin.min_, Builtin.min2, hx, hy, e, List.foldlM]) h

/-! ## The ends of a call -/
section
variable {fn : Func} {R : Value → List (Nat × Obj) → Prop} {ex : Exit}
theorem env_get {tmps : Array Value} (he : (fun t => tmps.getD t undef) = ρ) (t : Nat) : tmps.getD t undef = ρ t := by rw [← he]
theorem Fin.ret0 {h0 : ex = .ret ∨ ex = .normal} (hr : fn.results = #[]) (h : R (.tuple #[]) Γ) : Fin B I Γ ex ρ (retQ P fn B I R) := ⟨fun w hw => by
  rcases h0 with rfl | rfl <;> exact ⟨_, Γ, fun tmps _ => by simp [ResVals, results, hr], h, hw⟩⟩
theorem Fin.ret1 {h0 : ex = .ret ∨ ex = .normal} {s : Nat} {v : Value} (hr : fn.results = #[.tmp s]) (hv : ρ s = v) (h : R v Γ) : Fin B I Γ ex ρ (retQ P fn B I R) := ⟨fun w hw => by
  rcases h0 with rfl | rfl <;> exact ⟨_, Γ, fun tmps he => by subst hv; simp only [ResVals]; rw [results_tmp hr, env_get he], h, hw⟩⟩
theorem Fin.ret2 {h0 : ex = .ret ∨ ex = .normal} {s s' : Nat} {v v' : Value} (hr : fn.results = #[.tmp s, .tmp s']) (hv : ρ s = v) (hv' : ρ s' = v') (h : R (.tuple #[v, v']) Γ) : Fin B I Γ ex ρ (retQ P fn B I R) := ⟨fun w hw => by
  rcases h0 with rfl | rfl <;> exact ⟨_, Γ, fun tmps he => by subst hv; subst hv'; simp only [ResVals]; rw [results_tmp2 hr, env_get he, env_get he], h, hw⟩⟩
theorem Fin.ret3 {h0 : ex = .ret ∨ ex = .normal} {s s' s'' : Nat} {v v' v'' : Value} (hr : fn.results = #[.tmp s, .tmp s', .tmp s'']) (hv : ρ s = v) (hv' : ρ s' = v') (hv'' : ρ s'' = v'') (h : R (.tuple #[v, v', v'']) Γ) : Fin B I Γ ex ρ (retQ P fn B I R) := ⟨fun w hw => by
  rcases h0 with rfl | rfl <;> exact ⟨_, Γ, fun tmps he => by
    subst hv; subst hv'; subst hv''
    simp [ResVals, results, hr, env_get he], h, hw⟩⟩
theorem results_cell1 {fn : Func} {p : Tmp} {ty : TypeId} (h : fn.results = #[.cell p ty]) (tmps : Array Value) (P : Program) (w : World) :
    (results fn tmps).run P w = ((asAddr (tmps.getD p undef)).run P w).andThen fun a w₁ => ((loadVar ty a).run P w₁).andThen fun v w₂ => .ok v w₂ := by
  simp only [results, h]
  simp [Sem.run_bind, Result.andThen]
  cases Sem.run P (asAddr (tmps[p]?.getD undef)) w with
  | ok a w1 => dsimp only; cases Sem.run P (loadVar ty a) w1 <;> rfl
  | halt e w1 => rfl
/-- A struct result, which lies in a box, alone or with others behind it. -/
theorem Fin.retA1 {h0 : ex = .ret ∨ ex = .normal} {m bytes s : Nat} {z : Value} [TAggr P t] [TI P t m bytes z] {vs : List Value} {Γ' : List (Nat × Obj)} (hr : fn.results = #[.cell s t]) (ha : ρ s = .pointer (some ⟨b, i, none⟩)) (hs : SeesN B I Γ b i vs) (hl : vs.length = m)
    (hsub : Γ'.Sublist Γ) (h : R (.agg vs.toArray) Γ') : Fin B I Γ ex ρ (retQ P fn B I R) := ⟨fun w hw => by
  rcases h0 with rfl | rfl <;> exact ⟨_, Γ', fun tmps he => by
    have h1 := env_get he s
    rw [ha] at h1
    have := run_loadVarN (P := P) (t := t) (b := b) (i := i) (w := w) hl (fun j v hv => (hs.out j v hv).out w hw)
    simp only [ResVals]; rw [results_cell1 hr, h1]; simp only [asAddr, Sem.run_pure, Result.andThen_ok, this], h, hw.drop hsub⟩⟩
theorem Fin.retA2 {h0 : ex = .ret ∨ ex = .normal} {m bytes s s' : Nat} {z v' : Value} [TAggr P t] [TI P t m bytes z] {vs : List Value} {Γ' : List (Nat × Obj)} (hr : fn.results = #[.cell s t, .tmp s']) (ha : ρ s = .pointer (some ⟨b, i, none⟩)) (hs : SeesN B I Γ b i vs) (hl : vs.length = m)
    (hv : ρ s' = v') (hsub : Γ'.Sublist Γ) (h : R (.tuple #[.agg vs.toArray, v']) Γ') : Fin B I Γ ex ρ (retQ P fn B I R) := ⟨fun w hw => by
  rcases h0 with rfl | rfl <;> exact ⟨_, Γ', fun tmps he => by
    subst hv
    have h1 := env_get he s
    rw [ha] at h1
    have := run_loadVarN (P := P) (t := t) (b := b) (i := i) (w := w) hl (fun j v hv => (hs.out j v hv).out w hw)
    simp only [ResVals]; rw [results_cell_tmp hr, h1, env_get he]; simp only [asAddr, Sem.run_pure, Result.andThen_ok, this], h, hw.drop hsub⟩⟩
end
end
end Go.Pen
end
