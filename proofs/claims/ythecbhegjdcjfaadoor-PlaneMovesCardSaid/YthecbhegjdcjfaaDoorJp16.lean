/- Texts joined: PenN, PenO. -/
import Derived.Test.YthecbhegjdcjfaaDoorJp15
import Derived.Laws.Cover3
section
/- The pen's rules, more: complex numbers compared; the low bits of an int. -/
set_option linter.unusedVariables false
set_option linter.unusedSimpArgs false
namespace Go.Pen
section
variable {P : Program} {n : Nat} {B : World} {I : List Nat} {Γ : List (Nat × Obj)} {ρ : Env} {ops : Array Oper} {md : Bool} {K : List (Nat × Obj) → Env → Prop}
  {d : Nat} {ty : TypeId} {pos : String} {af : Array Edge} {t t' e : TypeId} {x y : Operand} {k k' : IntKind}

theorem OP.ceql {a b c e : Nat} {r : Bool} (hr : ((Ieee.double.order a c == some .eq) && (Ieee.double.order b e == some .eq)) = r) (hd : Nat.blt d n = true) (hx : ev ρ x = .complex .f64 a b) (hy : ev ρ y = .complex .f64 c e) (h : K Γ (upd ρ d (.bool r))) :
    OP P n B I Γ md ops ⟨some d, .binOp .eql t x y t', ty, pos, af, none⟩ K ρ :=
  OP.pure1 _ hd (fun w _ => by
    have h1 := eqGuard_cx (P := P) .eql t x y a b c e w
    have h2 := run_eql_complex (P := P) (w := w) t .f64 a b c e
    rw [show FloatKind.f64.format = Ieee.double from rfl, hr] at h2
    simp only [execOp, hx, hy, Sem.run_bind, h1, h2, Result.andThen_ok, Sem.run_pure]) h
theorem OP.cneq {a b c e : Nat} {r : Bool} (hr : ((Ieee.double.order a c == some .eq) && (Ieee.double.order b e == some .eq)) = r) (hd : Nat.blt d n = true) (hx : ev ρ x = .complex .f64 a b) (hy : ev ρ y = .complex .f64 c e) (h : K Γ (upd ρ d (.bool !r))) :
    OP P n B I Γ md ops ⟨some d, .binOp .neq t x y t', ty, pos, af, none⟩ K ρ :=
  OP.pure1 _ hd (fun w _ => by
    have h1 := eqGuard_cx (P := P) .neq t x y a b c e w
    have h2 := run_neq_complex (P := P) (w := w) t .f64 a b c e
    rw [show FloatKind.f64.format = Ieee.double from rfl, hr] at h2
    simp only [execOp, hx, hy, Sem.run_bind, h1, h2, Result.andThen_ok, Sem.run_pure]) h
end
theorem i64_and7 (n : Int) : bits .and .i64 n 7 = n % 8 := by
  have h7 : (BitVec.ofInt 64 7).toNat = 2 ^ 3 - 1 := by decide
  have key : (BitVec.ofInt 64 n &&& BitVec.ofInt 64 7).toNat = (n % ((2 ^ 64 : Nat) : Int)).toNat % 2 ^ 3 := by
    rw [BitVec.toNat_and, BitVec.toNat_ofInt, h7, Nat.and_two_pow_sub_one_eq_mod]
  show IntKind.i64.wrap ((BitVec.ofInt 64 n &&& BitVec.ofInt 64 7).toNat : Nat) = n % 8
  rw [key, IntKind.wrap_i64]
  omega
theorem cxs_sees {w : World} {b o : Nat} {l : List Cx} (h : RdC w b o l) (Γ : List (Nat × Obj)) : SeesN w [] Γ b o (cxs l) := ⟨fun j v hv => by
  have hj : j < l.length := by have := (List.getElem?_eq_some_iff.1 hv).1; rwa [cxs_len] at this
  have e : v = .complex .f64 l[j].1 l[j].2 := by
    have := hv; unfold cxs at this; rw [List.getElem?_map, List.getElem?_eq_getElem hj] at this; exact (Option.some.inj this).symm
  rw [e]
  have := h.see (List.getElem?_eq_getElem hj) Γ
  rwa [Nat.mul_one] at this⟩
end Go.Pen
end
section
/- The pen's rules, more: a function's value against nil; rows of floats; an index into a string's bytes. -/
set_option linter.unusedVariables false
set_option linter.unusedSimpArgs false
namespace Go.Pen
section
variable {P : Program} {n : Nat} {B : World} {I : List Nat} {Γ : List (Nat × Obj)} {ρ : Env} {ops : Array Oper} {md : Bool} {K : List (Nat × Obj) → Env → Prop}
  {d : Nat} {ty : TypeId} {pos : String} {af : Array Edge} {t t' e : TypeId} {x y : Operand} {k k' : IntKind}

theorem run_equalIn_func_nil (w : World) (dd : Nat) (t : TypeId) {ats rs : Array TypeId} {vr : Bool} (h : P.underlying t = some (.func ats rs vr)) (f : Fn) (first captured : Array Value) :
    (Op.equalIn (dd + 1) t (.func f first captured) .nilFunc).run P w = .ok false w := by
  unfold Op.equalIn
  simp [run_underlying h]
theorem run_equalIn_nil_nil (w : World) (dd : Nat) (t : TypeId) {ats rs : Array TypeId} {vr : Bool} (h : P.underlying t = some (.func ats rs vr)) :
    (Op.equalIn (dd + 1) t .nilFunc .nilFunc).run P w = .ok true w := by
  unfold Op.equalIn
  simp [run_underlying h]
theorem OP.eqlF {f : Fn} {first captured : Array Value} {ats rs : Array TypeId} {vr : Bool} (ht : P.underlying t = some (.func ats rs vr)) (hd : Nat.blt d n = true) (hx : ev ρ x = .func f first captured) (hy : ev ρ y = .nilFunc) (h : K Γ (upd ρ d (.bool false))) :
    OP P n B I Γ md ops ⟨some d, .binOp .eql t x y t', ty, pos, af, none⟩ K ρ :=
  OP.pure1 _ hd (fun w _ => by
    have e1 : (binOp .eql t (.func f first captured) .nilFunc).run P w = .ok (.bool false) w := by
      simp only [binOp]
      simp [Op.equal, Op.maxDepth, run_equalIn_func_nil w 9999 t ht f first captured]
    simp only [execOp, hx, hy, eqGuard_at_func, Sem.run_bind, Sem.run_pure, e1, Result.andThen_ok]) h
theorem OP.eqlF0 {ats rs : Array TypeId} {vr : Bool} (ht : P.underlying t = some (.func ats rs vr)) (hd : Nat.blt d n = true) (hx : ev ρ x = .nilFunc) (hy : ev ρ y = .nilFunc) (h : K Γ (upd ρ d (.bool true))) :
    OP P n B I Γ md ops ⟨some d, .binOp .eql t x y t', ty, pos, af, none⟩ K ρ :=
  OP.pure1 _ hd (fun w _ => by
    have e1 : (binOp .eql t .nilFunc .nilFunc).run P w = .ok (.bool true) w := by
      simp only [binOp]
      simp [Op.equal, Op.maxDepth, run_equalIn_nil_nil w 9999 t ht]
    simp only [execOp, hx, hy, eqGuard_at_nilFunc, Sem.run_bind, Sem.run_pure, e1, Result.andThen_ok]) h
theorem OP.indexS {s : ByteArray} {i v : Nat} {jj : Int} (ht : P.underlying t = some .string) (hv : (s.data[i]?).map UInt8.toNat = some v) (hd : Nat.blt d n = true) (hx : ev ρ x = .string s) (hy : ev ρ y = .int k jj) (hj : jj = (i : Int)) (h : K Γ (upd ρ d (.int .u8 (v : Int)))) :
    OP P n B I Γ md ops ⟨some d, .index t x y, ty, pos, af, none⟩ K ρ :=
  OP.pure1 _ hd (fun w _ => by
    rw [Option.map_eq_some_iff] at hv
    obtain ⟨u, hu, rfl⟩ := hv
    have hi : i < s.data.size := (Array.getElem?_eq_some_iff.1 hu).1
    have he : s.data[i] = u := (Array.getElem?_eq_some_iff.1 hu).2
    have e1 := run_index_string (P := P) (w := w) t s k jj ht
    rw [dif_pos ⟨by omega, by subst hj; exact Int.ofNat_lt.2 hi⟩] at e1
    have e2 : (s[jj.toNat]'(by subst hj; exact hi)) = u := by
      subst hj; exact he
    rw [e2] at e1
    simp only [execOp, hx, hy, Sem.run_bind, Sem.run_pure, e1, Result.andThen_ok]) h
end
/-! ## A row of floats -/
def fls (l : List Nat) : List Value := l.map (.float .f64)
theorem fls_len (l : List Nat) : (fls l).length = l.length := by simp [fls]
theorem fls_at {l : List Nat} {sp : List Value} {i : Nat} {v : Nat} (h : l[i]? = some v) : (fls l ++ sp).toArray[0 + i * 1]? = some (.float .f64 v) := by
  have hi : i < l.length := (List.getElem?_eq_some_iff.1 h).1
  rw [List.getElem?_toArray, Nat.zero_add, Nat.mul_one, List.getElem?_append_left (by rw [fls_len]; exact hi)]
  simp [fls, h]
theorem fls_set (l : List Nat) (sp : List Value) (i : Nat) (v : Nat) (h : i < l.length) : setN (fls l ++ sp).toArray (0 + i * 1) [.float .f64 v] = (fls (l.set i v) ++ sp).toArray := by
  apply Array.ext'
  simp only [setN, Nat.zero_add, Nat.mul_one, Array.toList_setIfInBounds]
  rw [List.set_append_left _ _ (by rw [fls_len]; exact h)]
  simp [fls]
theorem fls_size {l : List Nat} {sp : List Value} {i : Nat} (h : i < l.length) : Nat.ble (0 + i * 1 + 1) (fls l ++ sp).toArray.size = true := by
  rw [Nat.ble_eq]; simp [fls_len]; omega
theorem fls_one (l : List Nat) : ∀ u ∈ fls l, u.oneCell' = true := fun u hu => by
  unfold fls at hu
  rw [List.mem_map] at hu
  obtain ⟨i, _, rfl⟩ := hu; rfl
theorem fls_append (l l' : List Nat) : fls (l ++ l') = fls l ++ fls l' := by simp [fls]
/-- Floats, read at one place. -/
structure RdF (w : World) (b o : Nat) (l : List Nat) : Prop where
  c : ∀ (i : Nat) (v : Nat), l[i]? = some v → w.cell? ⟨b, o + i * 1, none⟩ = some (.float .f64 v)
theorem RdF.over {w w' : World} {b o : Nat} {l : List Nat} {Γ : List (Nat × Obj)} {I : List Nat} (h : RdF w b o l) (hw : St w I Γ w') (hb : b ∉ I) : RdF w' b o l := ⟨fun i v hi => hw.old (h.c i v hi) hb⟩
theorem RdF.see {w : World} {b o : Nat} {l : List Nat} (h : RdF w b o l) {i : Nat} {v : Nat} (hi : l[i]? = some v) (Γ : List (Nat × Obj)) : Sees w [] Γ b (o + i * 1) (.float .f64 v) := Sees.old0 (h.c i v hi)
theorem RdF.own {w B : World} {I : List Nat} {Γ : List (Nat × Obj)} {b : Nat} {l : List Nat} {sp : List Value} {T : TypeId} (hw : St B I Γ w) (hm : (b, .cells (fls l ++ sp).toArray T (0, 0)) ∈ Γ) : RdF w b 0 l := ⟨fun i v hi => cell_of (hw.has _ hm) (fls_at hi)⟩
theorem fls_fill (l : List Nat) (k : Nat) (a z : Nat) : setN (fls (l ++ List.replicate (k + 1) z) ++ []).toArray (0 + l.length * 1) [.float .f64 a] = (fls ((l ++ [a]) ++ List.replicate k z) ++ []).toArray := by
  rw [fls_set _ _ _ _ (by simp), List.set_append_right _ _ (Nat.le_refl _), Nat.sub_self, List.replicate_succ, List.set_cons_zero]; simp
end Go.Pen
end
