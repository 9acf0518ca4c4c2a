/- The pen's rules, more: 'append(s, make(T, k)...)'; whole products and shifts as they are. -/
import Derived.Test.YtjckoflcjkajiaaDoorPenL
import Derived.Lib.AppendZerosOnto
set_option linter.unusedVariables false
set_option linter.unusedSimpArgs false
namespace Go.Pen
section
variable {P : Program} {n : Nat} {B : World} {I : List Nat} {Γ Γ1 Γ2 : List (Nat × Obj)} {ρ : Env} {ops : Array Oper} {md : Bool} {K : List (Nat × Obj) → Env → Prop}
  {d : Nat} {ty : TypeId} {pos : String} {af : Array Edge} {t t' tn e : TypeId} {x y : Operand} {k k' kn kq : IntKind} {b : Nat}

theorem zeroCells_rep (z : Value) (hz : z.cells = #[z]) (c : Nat) : (Builtin.zeroCells z.cells c).toList = List.replicate c z := by
  apply List.ext_getElem
  · simp [Builtin.zeroCells, hz]
  · intro j h1 h2
    simp [Builtin.zeroCells, hz, Nat.mod_one]
theorem run_append_room_zeros (w : World) (i : TypeInfo) (z : Value) (ht : P.underlying t = some (.slice e)) (htn : P.underlying tn = some (.int kn)) (hi : P.info? e = some i) (hiz : i.zero = some z) (hsz : i.size = 1) (hz : z.cells = #[z]) (hone : z.oneCell' = true)
    (g sLen sCap : Nat) (cur : Array Value) (hg : w.heap[g]? = some (.cells cur e (0, 0))) (c : Nat) (h0 : 0 < c) (h63 : c ≤ 9223372036854775807) (h48 : c * i.bytes ≤ 281474976710656) (hroom : sLen + c ≤ sCap) (hfit : sLen + c ≤ cur.size) :
    (Builtin.append_ #[t, tn] ty #[.slice (some ⟨g, 0, none⟩) sLen sCap, .int kq (c : Int)]).run P w =
      .ok (.slice (some ⟨g, 0, none⟩) (sLen + c) sCap) (w.setRow g (cur.toList.take sLen ++ List.replicate c z ++ cur.toList.drop (sLen + c)).toArray) := by
  have hw : IntKind.i64.wrap (c : Int) = c := by rw [IntKind.wrap_i64]; omega
  have hneg : ¬ ((c : Int) < 0) := by omega
  have hc0 : c ≠ 0 := by omega
  have h48i : ¬ (281474976710656 < (c : Int) * (i.bytes : Int)) := by rw [← Int.natCast_mul]; omega
  have hst := run_storeCells_at P g sLen e (List.replicate c z) 0 cur w hg (by simpa using hfit) (fun u hu => by rw [(List.mem_replicate.1 hu).2]; exact hone)
  simp only [Nat.add_zero, List.length_replicate] at hst
  have hzc := zeroCells_rep z hz c
  simp [Builtin.append_, run_underlying ht, run_underlying htn, sizeOf, typeInfo, zeroValue, hi, hiz, hsz, asInt, asIntOf, hw, hneg, hc0, h48i, hroom, hzc, Addr.add_lit, hst]
/-- 'append(s, make(T, c)...)', s a row of the caller's own of elements of one cell. -/
theorem OP.appendZ {bytes : Nat} {z : Value} {sn sc c : Nat} {cc : Int} {tys : Array TypeId} {xs sp : List Value} [hS : TSlice P t e] [hI : TI P e 1 bytes z] [hN : TInt P tn kn]
    (hd : Nat.blt d n = true) (ht : tys = #[t, tn]) (hz : z.cells = #[z]) (hone : z.oneCell' = true) (hs : ev ρ x = .slice (some ⟨b, 0, none⟩) sn sc) (hx : ev ρ y = .int kq cc) (hcc : cc = (c : Int)) (h0 : 0 < c)
    (hxl : xs.length = sn) (hsp : xs.length + sp.length = sc) (hby : (sn + c) * bytes ≤ 140737488355328) (h63 : sn + c ≤ 9223372036854775807)
    (h : ∀ b' sp' sc', (xs ++ List.replicate c z).length + sp'.length = sc' → sn + c ≤ sc' → K (Γ1 ++ (b', .cells ((xs ++ List.replicate c z) ++ sp').toArray e (0, 0)) :: Γ2) (upd ρ d (.slice (some ⟨b', 0, none⟩) (sn + c) sc'))) :
    OP P n B I (Γ1 ++ (b, .cells (xs ++ sp).toArray e (0, 0)) :: Γ2) false ops ⟨some d, .call ⟨.builtin .append, #[x, y], tys⟩, ty, pos, af, none⟩ K ρ :=
  OP.gen hd fun w hw => by
    obtain ⟨i, i1, i2, i3, i4⟩ := hI.out
    have hblk : w.heap[b]? = some (.cells (xs ++ sp).toArray e (0, 0)) := hw.has (b, _) (by simp)
    have hcb : c * i.bytes ≤ 281474976710656 := by
      rw [i3]
      have := Nat.mul_le_mul_right bytes (show c ≤ sn + c by omega)
      omega
    subst hcc
    by_cases hroom : sn + c ≤ sc
    · have hrun := run_append_room_zeros (P := P) (ty := ty) (kq := kq) w i z hS.out hN.out i1 i4 i2 hz hone b sn sc _ hblk c h0 (by omega) hcb hroom (by simp only [List.size_toArray, List.length_append]; omega)
      have hrow : ((xs ++ sp).toArray.toList.take sn ++ List.replicate c z ++ (xs ++ sp).toArray.toList.drop (sn + c)).toArray = ((xs ++ List.replicate c z) ++ sp.drop c).toArray := by
        subst hxl; simp
      rw [hrow] at hrun
      refine ⟨_, Γ1 ++ (b, .cells ((xs ++ List.replicate c z) ++ sp.drop c).toArray e (0, 0)) :: Γ2, _, ?_, ((hw.perm List.perm_middle).setRow).perm List.perm_middle.symm, h b _ sc ?_ hroom⟩
      · simp only [execOp, resolve, invoke, builtin, ht, hs, hx, List.map_toArray, List.map_cons, List.map_nil, Sem.run_bind, Sem.run_pure, Result.andThen_ok, hrun]
      · simp only [List.length_append, List.length_replicate, List.length_drop]; omega
    · have hold := run_firstCells_some (P := P) w.drew i.size sn ⟨b, 0, none⟩ sn sc xs (by rw [i2, hxl, Nat.mul_one]) (fun j u hu => by
        rw [add_mk, Nat.zero_add]
        refine cell_of (w := w.drew) hblk ?_
        simp only [List.getElem?_toArray]
        rw [List.getElem?_append_left (List.getElem?_eq_some_iff.1 hu).1]; exact hu)
      have hrun := Go.Lib.run_append_grow_zeros (P := P) w t tn ty e i z kq kn hS.out hN.out i1 i4 (some ⟨b, 0, none⟩) sn sc xs hold c h0 (by omega) (by omega) (by omega) hcb (growslice_fits (by omega) (by rw [i3]; exact hby))
      have hge := grownCap_ge w (sn + c) sc e
      generalize grownCap w (sn + c) sc e = gc at *
      have hrow : (xs.toArray ++ Builtin.zeroCells z.cells c ++ Builtin.zeroCells z.cells (gc - (sn + c))) = ((xs ++ List.replicate c z) ++ (Builtin.zeroCells z.cells (gc - (sn + c))).toList).toArray := by
        apply Array.ext'; simp [zeroCells_rep z hz c]
      rw [hrow] at hrun
      have hst := (hw.drew (w.drawn + 1) (Nat.le_succ _)).new (.cells ((xs ++ List.replicate c z) ++ (Builtin.zeroCells z.cells (gc - (sn + c))).toList).toArray e (0, 0))
      refine ⟨_, Γ1 ++ (w.heap.size, .cells ((xs ++ List.replicate c z) ++ (Builtin.zeroCells z.cells (gc - (sn + c))).toList).toArray e (0, 0)) :: Γ2, w.drew.alloc (.cells ((xs ++ List.replicate c z) ++ (Builtin.zeroCells z.cells (gc - (sn + c))).toList).toArray e), ?_, ?_, h w.heap.size _ gc ?_ hge⟩
      · simp only [execOp, resolve, invoke, builtin, ht, hs, hx, List.map_toArray, List.map_cons, List.map_nil, Sem.run_bind, Sem.run_pure, Result.andThen_ok, hrun]
      · refine St.perm ?_ List.perm_middle.symm
        exact St.drop hst (List.Sublist.cons_cons _ ((List.Sublist.refl Γ1).append (List.sublist_cons_self _ _)))
      · simp only [List.length_append, List.length_replicate, Array.length_toList, size_zeroCells, hz]
        simp; omega
theorem OP.mulR {a c r : Int} (hr : k.wrap (a * c) = r) (hd : Nat.blt d n = true) (hx : ev ρ x = .int k a) (hy : ev ρ y = .int k c) (h : K Γ (upd ρ d (.int k r))) :
    OP P n B I Γ md ops ⟨some d, .binOp .mul t x y t', ty, pos, af, none⟩ K ρ := OP.mulw hd hx hy (by rw [hr]; exact h)
/-- A shift to the right by a number that is known, of whatever number. -/
theorem OP.shrI {a cc : Int} {c : Nat} (hcc : cc = (c : Int)) (hd : Nat.blt d n = true) (hx : ev ρ x = .int k a) (hy : ev ρ y = .int k' cc) (hc : c ≤ k.bits) (h : K Γ (upd ρ d (.int k (a.fdiv (2 ^ c))))) :
    OP P n B I Γ md ops ⟨some d, .binOp .shr t x y t', ty, pos, af, none⟩ K ρ := by
  subst hcc
  refine OP.pure1 _ hd (fun w _ => ?_) h
  have h1 := eqGuard_int (P := P) .shr t x y k k' a (c : Int) w
  have h2 := run_shr (P := P) (t := t) (k := k) (k' := k') a c hc w
  simp only [execOp, hx, hy, Sem.run_bind, h1, h2, Result.andThen_ok, Sem.run_pure]
end
end Go.Pen
