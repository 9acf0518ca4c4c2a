/- The pen's rules, more: a slice cut to a length and a room; copy into a row of the caller's own. -/
import Derived.Test.YtjckoflcjkajiaaDoorPenO
import Derived.Laws.Slices
import Derived.Laws.CopyRow
set_option linter.unusedVariables false
set_option linter.unusedSimpArgs false
namespace Go.Pen
section
variable {P : Program} {n : Nat} {B : World} {I : List Nat} {Γ Γ1 Γ2 : List (Nat × Obj)} {ρ : Env} {ops : Array Oper} {md : Bool} {K : List (Nat × Obj) → Env → Prop}
  {d : Nat} {ty : TypeId} {pos : String} {af : Array Edge} {t t' e : TypeId} {x y z : Operand} {k k' : IntKind} {b : Nat}

theorem OP.slice3 {m bytes : Nat} {zv : Value} {o len cap : Nat} {h' m' : Nat} {hh mm : Int} [hS : TSlice P t e] [hI : TI P e m bytes zv] (hd : Nat.blt d n = true) (hx : ev ρ x = .slice (some ⟨b, o, none⟩) len cap) (hy : ev ρ y = .int k hh) (hz : ev ρ z = .int k' mm)
    (hhh : hh = (h' : Int)) (hmm : mm = (m' : Int)) (h1 : h' ≤ m') (h2 : m' ≤ cap) (h : K Γ (upd ρ d (.slice (some ⟨b, o, none⟩) h' m'))) :
    OP P n B I Γ md ops ⟨some d, .slice t x none (some y) (some z), ty, pos, af, none⟩ K ρ :=
  OP.pure1 _ hd (fun w _ => by
    obtain ⟨i, i1, i2, i3, i4⟩ := hI.out
    subst hhh hmm
    have he : P.underlying t = some (.slice (P.elem t)) := by rw [hS.out]; simp [Program.elem, hS.out]
    have e1 := run_slice_hm (P := P) w t (some ⟨b, o, none⟩) len cap he k k' (h' : Int) (m' : Int) (by omega) (by omega) (by omega)
    have e0 : P.elem t = e := by simp [Program.elem, hS.out]
    have e2 : (sizeOf (P.elem t)).run P w = .ok m w := by rw [e0]; simp [sizeOf, typeInfo, i1, i2]
    rw [e2] at e1
    have e3 : sliced (some ⟨b, o, none⟩) 0 (Int.toNat (h' : Int)) (Int.toNat (m' : Int)) m = .slice (some ⟨b, o, none⟩) h' m' := by
      unfold sliced
      simp only [Int.toNat_natCast, Nat.sub_zero, Nat.zero_mul, Option.map_some, add_mk, Nat.add_zero, ite_self]
    simp only [Result.andThen_ok, e3] at e1
    simp only [execOp, hx, hy, hz, Sem.run_bind, Sem.run_pure, Option.map_none, Option.map_some, run_sliceAt_slice w t _ _ _ _ he, e1, Result.andThen_ok]) h
/-- 'copy(dst, src)' of elements of one cell; dst's row is the caller's own and is written from its first place. -/
theorem OP.copy1 {bytes : Nat} {zv : Value} {dn dc xo xn xc xb : Nat} {tys : Array TypeId} {cur : List Value} {vs : List Value} {T : TypeId} [hS : TSlice P t e] [hI : TI P e 1 bytes zv]
    (hd : Nat.blt d n = true) (ht : tys = #[t, t']) (hx : ev ρ x = .slice (some ⟨b, 0, none⟩) dn dc) (hy : ev ρ y = .slice (some ⟨xb, xo, none⟩) xn xc)
    (hvl : vs.length = Nat.min xn dn) (hfit : vs.length ≤ cur.length) (hvs : SeesN B I ((b, .cells cur.toArray T (0, 0)) :: Γ) xb xo vs) (h1 : ∀ u ∈ vs, u.oneCell' = true)
    (h : K ((b, .cells (vs ++ cur.drop vs.length).toArray T (0, 0)) :: Γ) (upd ρ d (.int .i64 (vs.length : Int)))) :
    OP P n B I ((b, .cells cur.toArray T (0, 0)) :: Γ) false ops ⟨some d, .call ⟨.builtin .copy, #[x, y], tys⟩, ty, pos, af, none⟩ K ρ :=
  OP.gen hd fun w hw => by
    obtain ⟨i, i1, i2, i3, i4⟩ := hI.out
    have hblk : w.heap[b]? = some (.cells cur.toArray T (0, 0)) := hw.has (b, _) (by simp)
    have hs : (P.info? e).map (·.size) = some 1 := by rw [i1]; simp [i2]
    have hrun := run_copy_row (P := P) w t t' ty e b 0 dn dc ⟨xb, xo, none⟩ xn xc cur.toArray T vs hS.out hs hblk hvl (hvs.cells hw) (by simpa using hfit) h1
    have hrow : (cur.toArray.toList.take 0 ++ vs ++ cur.toArray.toList.drop (0 + vs.length)).toArray = (vs ++ cur.drop vs.length).toArray := by simp
    rw [hrow] at hrun
    refine ⟨_, _, _, ?_, hw.setRow, h⟩
    simp only [execOp, resolve, invoke, builtin, ht, hx, hy, List.map_toArray, List.map_cons, List.map_nil, Sem.run_bind, Sem.run_pure, Result.andThen_ok, hrun]
    rfl
end
end Go.Pen
