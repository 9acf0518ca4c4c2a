/- Texts joined: PenE. -/
import Derived.Test.YthecbhegjdcjfaaDoorJp4
import Derived.MapKept
import Derived.Carry
import Derived.WideKeyRuns
section
/- The pen's rules, more: maps whose keys are structs of two whole numbers; slices that may be nil. -/
set_option linter.unusedVariables false
set_option linter.unusedSimpArgs false
namespace Go.Pen

theorem getObj_map {P : Program} {w : World} {r : Nat} {es : Array MapEntry} {clock : Nat} (hb : w.heap[r]? = some (.map es clock)) : (getObj r).run P w = .ok (.map es clock) w := by
  simp [getObj, Sem.run, hb]
theorem setObj_map {P : Program} {w : World} {r : Nat} {es : Array MapEntry} {clock : Nat} (o : Obj) (hb : w.heap[r]? = some (.map es clock)) : (setObj r o).run P w = .ok () { w with heap := w.heap.setIfInBounds r o } := by
  simp [setObj, Sem.run, hb]
theorem heap_set' {w : World} {r : Nat} {o o' : Obj} (hb : w.heap[r]? = some o) : (w.heap.setIfInBounds r o')[r]? = some o' ∧ ∀ r', r' ≠ r → (w.heap.setIfInBounds r o')[r']? = w.heap[r']? := by
  have hlt : r < w.heap.size := (Array.getElem?_eq_some_iff.1 hb).1
  exact ⟨by simp [hlt], fun r' hne => by simp [Ne.symm hne]⟩

/-! ## The list of a map's entries -/
abbrev Pairs := List ((Int × Int) × Value)
def key2 (p : Int × Int) : Value := .agg #[.int .i64 p.1, .int .i64 p.2]
def ents : Nat → Pairs → List MapEntry
  | _, [] => []
  | i, x :: l => ⟨key2 x.1, x.2, i⟩ :: ents (i + 1) l
def mapObj (l : Pairs) : Obj := .map (ents 0 l).toArray l.length
def find2 (p : Int × Int) : Nat → Pairs → Option (Nat × Value)
  | _, [] => none
  | i, x :: l => if p = x.1 then some (i, x.2) else find2 p (i + 1) l
def put2 (p : Int × Int) (v : Value) : Pairs → Pairs
  | [] => [(p, v)]
  | x :: l => if p = x.1 then (x.1, v) :: l else x :: put2 p v l
theorem ents_length : ∀ (l : Pairs) (i : Nat), (ents i l).length = l.length
  | [], _ => rfl
  | _ :: l, i => by simp [ents, ents_length l]
theorem ents_append : ∀ (l : Pairs) (i : Nat) (x : (Int × Int) × Value), ents i (l ++ [x]) = ents i l ++ [⟨key2 x.1, x.2, i + l.length⟩]
  | [], i, x => by simp [ents]
  | y :: l, i, x => by simp [ents, ents_append l, Nat.add_assoc, Nat.add_comm 1]
theorem find2_none : ∀ {l : Pairs} {i : Nat} {p : Int × Int}, find2 p i l = none → ∀ v, put2 p v l = l ++ [(p, v)]
  | [], _, _, _, _ => rfl
  | x :: l, i, p, h, v => by
    simp only [find2] at h
    split at h
    · cases h
    · rename_i hne; simp [put2, hne, find2_none h]
theorem find2_some : ∀ {l : Pairs} {i j : Nat} {p : Int × Int} {u : Value}, find2 p i l = some (j, u) →
    i ≤ j ∧ (∀ v, (ents i (put2 p v l)).toArray = (ents i l).toArray.modify (j - i) fun e => { e with key := key2 p, val := v }) ∧ ((ents i l)[j - i]?).map (·.key) = some (key2 p) ∧ (∀ v, (put2 p v l).length = l.length)
  | [], _, _, _, _, h => by cases h
  | x :: l, i, j, p, u, h => by
    simp only [find2] at h
    split at h
    · rename_i he
      simp only [Option.some.injEq, Prod.mk.injEq] at h
      obtain ⟨rfl, rfl⟩ := h
      refine ⟨Nat.le_refl _, fun v => ?_, ?_, fun v => ?_⟩
      · simp only [put2, if_pos he, Nat.sub_self, ents]
        apply Array.ext'
        simp [Array.toList_modify, List.modify, he]
      · simp [ents, he]
      · simp [put2, he]
    · rename_i hne
      obtain ⟨h1, h2, h3, h4⟩ := find2_some h
      have hj : j - i = j - (i + 1) + 1 := by omega
      refine ⟨by omega, fun v => ?_, ?_, fun v => ?_⟩
      · have := congrArg Array.toList (h2 v)
        apply Array.ext'
        simp only [put2, if_neg hne, ents, hj, Array.toList_modify] at this ⊢
        simp only [List.modify_succ_cons]
        rw [← this]
      · rw [hj]; simpa [ents] using h3
      · simp [put2, hne, h4]

theorem chk0 {P : Program} {t : TypeId} (h : P.underlying t = some (.int .i64)) (em : Bool) (n : Nat) (a : Int) (w : World) : (Instr.checkKey em (n + 1) t (.int .i64 a)).run P w = .ok () w := by
  unfold Instr.checkKey; simp [run_underlying h]
/-- A map type whose keys are structs of two whole numbers. -/
class TMap2 (P : Program) (t : TypeId) (k e : outParam TypeId) : Prop where
  map : P.underlying t = some (.map k e)
  check : ∀ em a b w, (Instr.checkKey em 10000 k (.agg #[.int .i64 a, .int .i64 b])).run P w = .ok () w
  find : ∀ x es w, (Instr.findKey k x es).run P w = (Instr.findAsking k x es).run P w
theorem TMap2.mk' {P : Program} {t k e : TypeId} {f0 f1 : Field} (h : P.underlying t = some (.map k e)) (hk : P.underlying k = some (.struct #[f0, f1])) (o0 : f0.offset = 0) (o1 : f1.offset = 1)
    (t0 : TInt P f0.type .i64) (t1 : TInt P f1.type .i64) : TMap2 P t k e where
  map := h
  find := fun x es w => run_findKey_eq w (by rw [hk]) x es
  check := fun em a b w => by
    have s0 : ∀ w, (isAgg f0.type).run P w = .ok false w := fun w => by simp [isAgg, run_underlying t0.out]
    have s1 : ∀ w, (isAgg f1.type).run P w = .ok false w := fun w => by simp [isAgg, run_underlying t1.out]
    have c0 : ∀ a w, (Instr.checkKey em 9999 f0.type (.int .i64 a)).run P w = .ok () w := fun a w => chk0 t0.out em 9998 a w
    have c1 : ∀ a w, (Instr.checkKey em 9999 f1.type (.int .i64 a)).run P w = .ok () w := fun a w => chk0 t1.out em 9998 a w
    unfold Instr.checkKey
    simp only [Sem.run_bind, run_underlying hk, Result.andThen_ok]
    by_cases n0 : f0.name ≠ "_" <;> by_cases n1 : f1.name ≠ "_" <;> simp [n0, n1, part, s0, s1, o0, o1, c0, c1]

section
variable {P : Program} {n : Nat} {B : World} {I : List Nat} {Γ Γ1 Γ2 : List (Nat × Obj)} {ρ : Env} {ops : Array Oper} {md : Bool} {K : List (Nat × Obj) → Env → Prop}
  {d : Nat} {ty : TypeId} {pos : String} {af : Array Edge} {t e t' : TypeId} {x y : Operand} {b i : Nat} {v : Value} {k : IntKind}

theorem run_asking [hE : TEq2 P t] (p : Int × Int) (w : World) : ∀ (l : Pairs) (i : Nat), (Instr.findAsking t (key2 p) (ents i l) i).run P w = .ok (find2 p i l) w
  | [], i => rfl
  | x :: l, i => by
    have h := hE.eq p.1 p.2 x.1.1 x.1.2 w
    have ih := run_asking p w l (i + 1)
    by_cases hp : p = x.1
    · have : (decide (p.1 = x.1.1 ∧ p.2 = x.1.2)) = true := by simp [hp]
      rw [this] at h
      simp only [ents, Instr.findAsking, key2, Sem.run_bind, h, Result.andThen_ok, find2, if_pos hp]
      simp
    · have : (decide (p.1 = x.1.1 ∧ p.2 = x.1.2)) = false := by
        have : ¬ (p.1 = x.1.1 ∧ p.2 = x.1.2) := fun h => hp (Prod.ext h.1 h.2)
        simpa using this
      rw [this] at h
      simp only [ents, Instr.findAsking, key2, Sem.run_bind, h, Result.andThen_ok, find2, if_neg hp]
      simpa [key2] using ih

theorem ents_ofAsking [hM : TMap2 P t e t'] [hE : TEq2 P e] (p : Int × Int) (w : World) (l : Pairs) : (Instr.findKey e (key2 p) (ents 0 l).toArray.toList).run P w = .ok (find2 p 0 l) w := by
  rw [hM.find]; exact run_asking p w l 0

/-- 'v, ok := m[k]' -/
theorem OP.lookOk {mk el : TypeId} {z u : Value} {m bytes : Nat} {l : Pairs} {p : Int × Int} {r : Bool} [hM : TMap2 P t mk el] [hE : TEq2 P mk] [hI : TI P el m bytes z] (hd : Nat.blt d n = true)
    (hx : ev ρ x = .map (some b)) (hy : ev ρ y = .agg #[.int .i64 p.1, .int .i64 p.2]) (hm : (b, mapObj l) ∈ Γ)
    (hr : (match find2 p 0 l with | some q => (q.2, true) | none => (z, false)) = (u, r)) (h : K Γ (upd ρ d (.tuple #[u, .bool r]))) :
    OP P n B I Γ md ops ⟨some d, .lookup t x y true, ty, pos, af, none⟩ K ρ :=
  OP.pure1 _ hd (fun w hw => by
    obtain ⟨inf, i1, i2, i3, i4⟩ := hI.out
    have h1 := getObj_map (P := P) (hw.has _ hm)
    have h2 := hM.check (ents 0 l).toArray.isEmpty p.1 p.2 w
    have h3 := ents_ofAsking (P := P) (t := t) (t' := el) (e := mk) p w l
    have h4 : (zeroValue el).run P w = .ok z w := by simp [zeroValue, typeInfo, i1, i4]
    simp only [key2] at h3
    simp only [execOp, hx, hy, Instr.lookup, Sem.run_bind, run_underlying hM.map, Result.andThen_ok, h1, Sem.run_pure, h2, h3]
    cases hf : find2 p 0 l with
    | none =>
      rw [hf] at hr; simp only [Prod.mk.injEq] at hr; obtain ⟨rfl, rfl⟩ := hr
      simp only [Sem.run_bind, h4, Result.andThen_ok, Sem.run_pure, if_true]
    | some q =>
      rw [hf] at hr; simp only [Prod.mk.injEq] at hr; obtain ⟨rfl, rfl⟩ := hr
      simp only [Sem.run_bind, Result.andThen_ok, Sem.run_pure, if_true]) h
/-- 'm[k]' -/
theorem OP.look {mk el : TypeId} {z u : Value} {m bytes : Nat} {l : Pairs} {p : Int × Int} [hM : TMap2 P t mk el] [hE : TEq2 P mk] [hI : TI P el m bytes z] (hd : Nat.blt d n = true)
    (hx : ev ρ x = .map (some b)) (hy : ev ρ y = .agg #[.int .i64 p.1, .int .i64 p.2]) (hm : (b, mapObj l) ∈ Γ)
    (hr : (match find2 p 0 l with | some q => q.2 | none => z) = u) (h : K Γ (upd ρ d u)) :
    OP P n B I Γ md ops ⟨some d, .lookup t x y false, ty, pos, af, none⟩ K ρ :=
  OP.pure1 _ hd (fun w hw => by
    obtain ⟨inf, i1, i2, i3, i4⟩ := hI.out
    have h1 := getObj_map (P := P) (hw.has _ hm)
    have h2 := hM.check (ents 0 l).toArray.isEmpty p.1 p.2 w
    have h3 := ents_ofAsking (P := P) (t := t) (t' := el) (e := mk) p w l
    have h4 : (zeroValue el).run P w = .ok z w := by simp [zeroValue, typeInfo, i1, i4]
    simp only [key2] at h3
    simp only [execOp, hx, hy, Instr.lookup, Sem.run_bind, run_underlying hM.map, Result.andThen_ok, h1, Sem.run_pure, h2, h3]
    cases hf : find2 p 0 l with
    | none =>
      rw [hf] at hr; simp only at hr; subst hr
      simp [h4]
    | some q =>
      rw [hf] at hr; simp only at hr; subst hr
      simp) h
/-- 'len(m)' -/
theorem OP.lenMap {mk el : TypeId} {l : Pairs} {tys : Array TypeId} [hM : TMap2 P t mk el] (hd : Nat.blt d n = true) (ht : tys = #[t]) (hx : ev ρ x = .map (some b)) (hm : (b, mapObj l) ∈ Γ)
    (h : K Γ (upd ρ d (.int .i64 l.length))) :
    OP P n B I Γ md ops ⟨some d, .call ⟨.builtin .len, #[x], tys⟩, ty, pos, af, none⟩ K ρ :=
  OP.pure1 _ hd (fun w hw => by
    have h1 := getObj_map (P := P) (hw.has _ hm)
    simp [execOp, resolve, invoke, builtin, Builtin.len_, ht, hx, run_underlying hM.map, h1, ents_length, goInt]) h

theorem sameBits_key2 (p : Int × Int) : Instr.sameBits 10000 (key2 p) (key2 p) = true := by
  show Instr.sameBits (9999 + 1) _ _ = true
  simp [key2, Instr.sameBits]
theorem run_setMap {w : World} {l l' : Pairs} (hw : St B I (Γ1 ++ (b, mapObj l) :: Γ2) w) : ∃ w', (setObj b (mapObj l')).run P w = .ok () w' ∧ St B I (Γ1 ++ (b, mapObj l') :: Γ2) w' := by
  have hb := hw.has (b, mapObj l) (by simp)
  refine ⟨_, setObj_map _ hb, ?_⟩
  refine St.perm (St.set (hw.perm List.perm_middle) rfl rfl rfl (by simp) (heap_set' hb).1 (heap_set' hb).2) List.perm_middle.symm

/-- 'm[k] = v' -/
theorem OP.putP {mk el : TypeId} {l : Pairs} {p : Int × Int} {g : Operand} [hM : TMap2 P t mk el] [hE : TEq2 P mk]
    (hx : ev ρ x = .map (some b)) (hy : ev ρ y = .agg #[.int .i64 p.1, .int .i64 p.2]) (hv : ev ρ g = v) (h : K (Γ1 ++ (b, mapObj (put2 p v l)) :: Γ2) ρ) :
    OP P n B I (Γ1 ++ (b, mapObj l) :: Γ2) false ops ⟨none, .mapUpdate t x y g, ty, pos, af, none⟩ K ρ :=
  OP.skip0 (fun w hw => by
    have h1 := getObj_map (P := P) (hw.has (b, mapObj l) (by simp))
    have h2 := hM.check false p.1 p.2 w
    have h3 := ents_ofAsking (P := P) (t := t) (t' := el) (e := mk) p w l
    obtain ⟨w', h5, h6⟩ := run_setMap (P := P) (l' := put2 p v l) hw
    refine ⟨w', ?_, h6⟩
    simp only [key2] at h3
    simp only [execOp, hx, hy, hv, Instr.mapUpdate, Sem.run_bind, run_underlying hM.map, Result.andThen_ok, h1, Sem.run_pure, h2, h3]
    cases hf : find2 p 0 l with
    | none =>
      have e1 : mapObj (put2 p v l) = .map ((ents 0 l).toArray.push ⟨.agg #[.int .i64 p.1, .int .i64 p.2], v, l.length⟩) (l.length + 1) := by
        rw [find2_none hf v, mapObj, ents_append]; simp [key2]
      rw [e1] at h5
      simp only [h5, Result.andThen_ok, Sem.run_pure, Sem.run_bind]
    | some q =>
      obtain ⟨j, u⟩ := q
      obtain ⟨g1, g2, g3, g4⟩ := find2_some hf
      have e1 : mapObj (put2 p v l) = .map ((ents 0 l).toArray.modify j fun e => { e with key := key2 p, val := v }) l.length := by
        rw [mapObj, g2 v, g4 v]; rfl
      rw [e1] at h5
      have e2 : (((ents 0 l).toArray[j]?).map (·.key)).getD (.agg #[.int .i64 p.1, .int .i64 p.2]) = key2 p := by
        simp only [List.getElem?_toArray]; rw [Nat.sub_zero] at g3; rw [g3]; rfl
      have e3 : (Instr.keyThatStays (key2 p) (key2 p)).run P w = .ok (key2 p) w := by
        unfold Instr.keyThatStays; rw [if_pos (sameBits_key2 p)]; rfl
      simp only [e2, Sem.run_bind]
      rw [show (Value.agg #[.int .i64 p.1, .int .i64 p.2]) = key2 p from rfl, e3]
      simp only [h5, Result.andThen_ok, Sem.run_pure, Sem.run_bind]) h
theorem OP.put0 {mk el : TypeId} {l : Pairs} {p : Int × Int} {g : Operand} [hM : TMap2 P t mk el] [hE : TEq2 P mk]
    (hx : ev ρ x = .map (some b)) (hy : ev ρ y = .agg #[.int .i64 p.1, .int .i64 p.2]) (hv : ev ρ g = v) (h : K ((b, mapObj (put2 p v l)) :: Γ2) ρ) :
    OP P n B I ((b, mapObj l) :: Γ2) false ops ⟨none, .mapUpdate t x y g, ty, pos, af, none⟩ K ρ := OP.putP (Γ1 := []) hx hy hv h
theorem OP.put1 {p0 : Nat × Obj} {mk el : TypeId} {l : Pairs} {p : Int × Int} {g : Operand} [hM : TMap2 P t mk el] [hE : TEq2 P mk]
    (hx : ev ρ x = .map (some b)) (hy : ev ρ y = .agg #[.int .i64 p.1, .int .i64 p.2]) (hv : ev ρ g = v) (h : K (p0 :: (b, mapObj (put2 p v l)) :: Γ2) ρ) :
    OP P n B I (p0 :: (b, mapObj l) :: Γ2) false ops ⟨none, .mapUpdate t x y g, ty, pos, af, none⟩ K ρ := OP.putP (Γ1 := [p0]) hx hy hv h
theorem OP.put2' {p0 p1 : Nat × Obj} {mk el : TypeId} {l : Pairs} {p : Int × Int} {g : Operand} [hM : TMap2 P t mk el] [hE : TEq2 P mk]
    (hx : ev ρ x = .map (some b)) (hy : ev ρ y = .agg #[.int .i64 p.1, .int .i64 p.2]) (hv : ev ρ g = v) (h : K (p0 :: p1 :: (b, mapObj (put2 p v l)) :: Γ2) ρ) :
    OP P n B I (p0 :: p1 :: (b, mapObj l) :: Γ2) false ops ⟨none, .mapUpdate t x y g, ty, pos, af, none⟩ K ρ := OP.putP (Γ1 := [p0, p1]) hx hy hv h
theorem OP.put3 {p0 p1 p2 : Nat × Obj} {mk el : TypeId} {l : Pairs} {p : Int × Int} {g : Operand} [hM : TMap2 P t mk el] [hE : TEq2 P mk]
    (hx : ev ρ x = .map (some b)) (hy : ev ρ y = .agg #[.int .i64 p.1, .int .i64 p.2]) (hv : ev ρ g = v) (h : K (p0 :: p1 :: p2 :: (b, mapObj (put2 p v l)) :: Γ2) ρ) :
    OP P n B I (p0 :: p1 :: p2 :: (b, mapObj l) :: Γ2) false ops ⟨none, .mapUpdate t x y g, ty, pos, af, none⟩ K ρ := OP.putP (Γ1 := [p0, p1, p2]) hx hy hv h

theorem OP.makeMap (hd : Nat.blt d n = true) (h : ∀ b, K ((b, mapObj []) :: Γ) (upd ρ d (.map (some b)))) :
    OP P n B I Γ false ops ⟨some d, .makeMap t none, ty, pos, af, none⟩ K ρ :=
  OP.gen hd fun w hw => ⟨_, _, _, by
    have : (Instr.makeMap t none).run P w = .ok (.map (some w.heap.size)) (w.alloc (.map #[] 0)) := rfl
    simp only [execOp, Option.map, Sem.run_bind, this, Result.andThen_ok, Sem.run_pure]
    rfl, hw.new _, h w.heap.size⟩

/-- 'xs[j]' of a slice that may be nil. -/
theorem OP.indexAddrO {m bytes len cap o j : Nat} {z : Value} {jj : Int} {a : Option Addr} [hS : TSlice P t e] [hI : TI P e m bytes z] (hd : Nat.blt d n = true) (ha : ev ρ x = .slice a len cap) (hb : a = some ⟨b, o, none⟩) (hj : ev ρ y = .int k jj) (hjj : jj = (j : Int)) (hlt : j < len)
    (h : K Γ (upd ρ d (.pointer (some ⟨b, o + j * m, none⟩)))) : OP P n B I Γ md ops ⟨some d, .indexAddr t x y, ty, pos, af, none⟩ K ρ := by
  subst hb; exact OP.indexAddr hd ha hj hjj hlt h
/-- 'append(s, x...)' where x is empty: s. -/
theorem OP.append0 {m bytes : Nat} {z : Value} {a a' : Option Addr} {sn sc c' : Nat} {tys : Array TypeId} [hS : TSlice P t e] [hI : TI P e m bytes z]
    (hd : Nat.blt d n = true) (ht : tys = #[t, t]) (hs : ev ρ x = .slice a sn sc) (hx : ev ρ y = .slice a' 0 c') (hc : sn ≤ sc)
    (h : K Γ (upd ρ d (.slice a sn sc))) :
    OP P n B I Γ md ops ⟨some d, .call ⟨.builtin .append, #[x, y], tys⟩, ty, pos, af, none⟩ K ρ :=
  OP.pure1 _ hd (fun w hw => by
    obtain ⟨i, i1, i2, i3, i4⟩ := hI.out
    have hl : ∀ v w, (loadCells v 0).run P w = .ok #[] w := fun v w => by first | rfl | simp [loadCells]
    cases a with
    | none => cases a' <;> simp [execOp, resolve, invoke, builtin, ht, hs, hx, Builtin.append_, run_underlying hS.out, sizeOf, typeInfo, i1, Builtin.lenOf, Builtin.firstCells, hc, storeCells, hl]
    | some a => cases a' <;> simp [execOp, resolve, invoke, builtin, ht, hs, hx, Builtin.append_, run_underlying hS.out, sizeOf, typeInfo, i1, Builtin.lenOf, Builtin.firstCells, hc, storeCells, hl]) h
/-- 'append(s, x...)' where x may be nil. -/
theorem OP.appendO {m bytes : Nat} {z : Value} {sn sc xo xn xc : Nat} {xb : Nat} {a : Option Addr} {tys : Array TypeId} {xs sp vs : List Value} [hS : TSlice P t e] [hI : TI P e m bytes z]
    (hd : Nat.blt d n = true) (ht : tys = #[t, t]) (hz : z.cells.size = m) (hs : ev ρ x = .slice (some ⟨b, 0, none⟩) sn sc) (hx : ev ρ y = .slice a xn xc)
    (ha : 0 < xn → a = some ⟨xb, xo, none⟩)
    (hxl : xs.length = sn * m) (hsp : xs.length + sp.length = sc * m)
    (hvs : SeesN B I (Γ1 ++ (b, .cells (xs ++ sp).toArray e (0, 0)) :: Γ2) xb xo vs) (hvl : vs.length = xn * m) (h1 : ∀ u ∈ vs, u.oneCell' = true)
    (hby : (sn + xn) * bytes ≤ 140737488355328) (h63 : sn + xn ≤ 9223372036854775807) (hsc : sn ≤ sc)
    (h : ∀ b' sp' sc', (xs ++ vs).length + sp'.length = sc' * m → sn + xn ≤ sc' → K (Γ1 ++ (b', .cells ((xs ++ vs) ++ sp').toArray e (0, 0)) :: Γ2) (upd ρ d (.slice (some ⟨b', 0, none⟩) (sn + xn) sc'))) :
    OP P n B I (Γ1 ++ (b, .cells (xs ++ sp).toArray e (0, 0)) :: Γ2) false ops ⟨some d, .call ⟨.builtin .append, #[x, y], tys⟩, ty, pos, af, none⟩ K ρ := by
  rcases Nat.eq_zero_or_pos xn with rfl | hp
  · have : vs = [] := List.length_eq_zero_iff.1 (by simpa using hvl)
    subst this
    refine OP.append0 hd ht hs hx hsc ?_
    have := h b sp sc (by simpa using hsp) hsc
    simpa using this
  · obtain rfl := ha hp
    exact OP.appendP hd ht hz hs hx hxl hsp hvs hvl h1 hby h63 h
end
end Go.Pen
end
