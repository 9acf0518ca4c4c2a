/- Texts joined: PenB. -/
import Derived.Test.YthecbhegjdcjfaaDoorJp0
import Derived.WalkLawsBesides
section
/- The pen's rules for memory: boxes, loads, stores, places, slices that are made, cut, appended to and copied. -/
set_option linter.unusedVariables false
set_option linter.unusedSimpArgs false
namespace Go.Pen

theorem add_mk (b i k : Nat) : (⟨b, i, none⟩ : Addr).add k = ⟨b, i + k, none⟩ := by
  unfold Addr.add
  split
  · rename_i h; subst h; rfl
  · rfl

/-! ## Types -/
def plainDesc : TypeDesc → Bool
  | .struct _ | .array _ _ => false
  | _ => true
class TI (P : Program) (t : TypeId) (size bytes : outParam Nat) (zero : outParam Value) : Prop where
  out : ∃ i, P.info? t = some i ∧ i.size = size ∧ i.bytes = bytes ∧ i.zero = some zero
theorem TI.mk' {P : Program} {t : TypeId} {size bytes : Nat} {zero : Value} (h : (P.info? t).map (fun i => (i.size, i.bytes, i.zero)) = some (size, bytes, some zero)) : TI P t size bytes zero := by
  cases hi : P.info? t with
  | none => rw [hi] at h; cases h
  | some i => rw [hi] at h; simp at h; exact ⟨i, hi, h.1, h.2.1, h.2.2⟩
class TScal (P : Program) (t : TypeId) : Prop where
  agg : ∀ w, (isAgg t).run P w = .ok false w
class TAggr (P : Program) (t : TypeId) : Prop where
  agg : ∀ w, (isAgg t).run P w = .ok true w
theorem TScal.mk' {P : Program} {t : TypeId} {d : TypeDesc} (h : P.underlying t = some d) (hp : plainDesc d = true) : TScal P t :=
  ⟨fun w => by cases d <;> first | (simp [plainDesc] at hp; done) | simp [isAgg, run_underlying h]⟩
theorem TAggr.mk' {P : Program} {t : TypeId} {d : TypeDesc} (h : P.underlying t = some d) (hp : plainDesc d = false) : TAggr P t :=
  ⟨fun w => by cases d <;> first | (simp [plainDesc] at hp; done) | simp [isAgg, run_underlying h]⟩
class TSlice (P : Program) (t : TypeId) (e : outParam TypeId) : Prop where
  out : P.underlying t = some (.slice e)
class TArray (P : Program) (t : TypeId) (len : outParam Nat) (e : outParam TypeId) : Prop where
  out : P.underlying t = some (.array len e)
/-- Field 'f' of the struct 's' lies 'off' cells in. -/
class TFld (P : Program) (s : TypeId) (f : Nat) (off : outParam Nat) : Prop where
  out : ∀ (a : Addr) (w : World), (Instr.fieldAt s (.pointer (some a)) f).run P w = .ok (.pointer (some (a.add off))) w
theorem TFld.mk' {P : Program} {s : TypeId} {fs : Array Field} {fl : Field} {f m bytes : Nat} {z : Value} (h : P.underlying s = some (.struct fs)) (hf : fs[f]? = some fl) (hi : TI P fl.type m bytes z) (h0 : m ≠ 0) : TFld P s f fl.offset :=
  ⟨fun a w => by
    obtain ⟨i, h1, h2, _, _⟩ := hi.out
    simp [Instr.fieldAt, run_underlying h, hf, Instr.sureAddr, fieldPlace, sizeOf, typeInfo, h1, h2, h0]⟩

section
variable {P : Program} {n : Nat} {B : World} {I : List Nat} {Γ : List (Nat × Obj)} {ρ : Env} {ops : Array Oper} {md : Bool} {K : List (Nat × Obj) → Env → Prop}
  {d : Nat} {ty : TypeId} {pos : String} {af : Array Edge} {t e : TypeId} {x y : Operand} {b i : Nat} {v : Value} {k : IntKind}

/-! ## What memory holds, whatever the world is -/
structure Sees (B : World) (I : List Nat) (Γ : List (Nat × Obj)) (b i : Nat) (v : Value) : Prop where
  out : ∀ w, St B I Γ w → w.cell? ⟨b, i, none⟩ = some v
theorem Sees.own {cs : Array Value} {T : TypeId} {fz : Nat × Nat} (hm : (b, .cells cs T fz) ∈ Γ) (hc : cs[i]? = some v) : Sees B I Γ b i v :=
  ⟨fun w hw => cell_of (hw.has _ hm) hc⟩
theorem Sees.old (hc : B.cell? ⟨b, i, none⟩ = some v) (hb : b ∉ I) : Sees B I Γ b i v := ⟨fun w hw => hw.old hc hb⟩
theorem Sees.old0 (hc : B.cell? ⟨b, i, none⟩ = some v) : Sees B [] Γ b i v := ⟨fun w hw => hw.old hc (by simp)⟩
/-- A run of cells. -/
structure SeesN (B : World) (I : List Nat) (Γ : List (Nat × Obj)) (b i : Nat) (vs : List Value) : Prop where
  out : ∀ j v, vs[j]? = some v → Sees B I Γ b (i + j) v
def readN (cs : Array Value) (i : Nat) : Nat → Option (List Value)
  | 0 => some []
  | m + 1 => cs[i]?.bind fun v => (readN cs (i + 1) m).map (v :: ·)
theorem readN_spec {cs : Array Value} : ∀ {m i : Nat} {vs : List Value}, readN cs i m = some vs → vs.length = m ∧ ∀ j v, vs[j]? = some v → cs[i + j]? = some v
  | 0, i, vs, h => by simp [readN] at h; subst h; simp
  | m + 1, i, vs, h => by
    simp only [readN] at h
    cases hc : cs[i]? with
    | none => rw [hc] at h; simp at h
    | some u =>
      rw [hc] at h
      simp only [Option.bind_some] at h
      cases hr : readN cs (i + 1) m with
      | none => rw [hr] at h; simp at h
      | some us =>
        rw [hr] at h
        simp at h
        subst h
        obtain ⟨h1, h2⟩ := readN_spec hr
        refine ⟨by simp [h1], ?_⟩
        intro j v hv
        cases j with
        | zero => simpa [hc] using hv
        | succ j =>
          have := h2 j v (by simpa using hv)
          rwa [show i + (j + 1) = i + 1 + j by omega]
theorem SeesN.own {cs : Array Value} {T : TypeId} {fz : Nat × Nat} {vs : List Value} (m : Nat) (hm : (b, .cells cs T fz) ∈ Γ) (hc : readN cs i m = some vs) : SeesN B I Γ b i vs :=
  ⟨fun j v hv => Sees.own hm ((readN_spec hc).2 j v hv)⟩
theorem SeesN.nil : SeesN B I Γ b i [] := ⟨fun j v hv => by simp at hv⟩
theorem SeesN.cons {vs : List Value} (h : Sees B I Γ b i v) (h' : SeesN B I Γ b (i + 1) vs) : SeesN B I Γ b i (v :: vs) := ⟨fun j u hu => by
  cases j with
  | zero => simp at hu; subst hu; exact h
  | succ j => have := h'.out j u (by simpa using hu); rwa [show i + (j + 1) = i + 1 + j by omega]⟩

/-! ## Boxes -/
theorem run_box (T : TypeId) (v : Value) (w : World) : (Instr.box T v).run P w = .ok (.pointer (some ⟨w.heap.size, 0, none⟩)) (w.alloc (.cells v.cells T)) := rfl
theorem OP.box {T : TypeId} {cs : Array Value} (hd : Nat.blt d n = true) (hc : (ev ρ x).cells = cs)
    (h : ∀ b, K ((b, .cells cs T (0, 0)) :: Γ) (upd ρ d (.pointer (some ⟨b, 0, none⟩)))) : OP P n B I Γ false ops ⟨some d, .box T x, ty, pos, af, none⟩ K ρ :=
  OP.gen hd fun w hw => ⟨_, _, _, by simp only [execOp, Sem.run_bind, run_box, Result.andThen_ok, Sem.run_pure, hc], hw.new _, h _⟩
theorem OP.alloc {T : TypeId} {m bytes : Nat} {z : Value} {cs : Array Value} [hT : TI P T m bytes z] (hd : Nat.blt d n = true) (hz : z.cells = cs)
    (h : ∀ b, K ((b, .cells cs T (0, 0)) :: Γ) (upd ρ d (.pointer (some ⟨b, 0, none⟩)))) : OP P n B I Γ false ops ⟨some d, .alloc T, ty, pos, af, none⟩ K ρ :=
  OP.gen hd fun w hw => ⟨_, _, _, by
    obtain ⟨i, h1, h2, h3, h4⟩ := hT.out
    have hzv : (zeroValue T).run P w = .ok z w := by simp [zeroValue, typeInfo, h1, h4]
    have hnew : (newVar T z).run P w = .ok ⟨w.heap.size, 0, none⟩ (w.alloc (.cells cs T)) := by rw [← hz]; rfl
    simp [execOp, Instr.alloc, hzv, hnew], hw.new _, h _⟩

/-! ## Loads -/
theorem run_loadVar1 [hT : TScal P t] {w : World} (h : w.cell? ⟨b, i, none⟩ = some v) : (loadVar t ⟨b, i, none⟩).run P w = .ok v w := by
  simp only [loadVar, Sem.run_bind, hT.agg w, Result.andThen_ok, Bool.false_eq_true, if_false, run_load, h]
theorem run_loadVarN {m bytes : Nat} {z : Value} [hT : TAggr P t] [hI : TI P t m bytes z] {vs : List Value} {w : World} (hl : vs.length = m) (h : ∀ j v, vs[j]? = some v → w.cell? ⟨b, i + j, none⟩ = some v) :
    (loadVar t ⟨b, i, none⟩).run P w = .ok (.agg vs.toArray) w := by
  obtain ⟨inf, h1, h2, _, _⟩ := hI.out
  have hl2 := run_loadCells_list (P := P) w ⟨b, i, none⟩ vs (fun j v hv => by rw [add_mk]; exact h j v hv)
  rw [hl] at hl2
  have hs : (sizeOf t).run P w = .ok m w := by simp [sizeOf, typeInfo, h1, h2]
  simp only [loadVar, Sem.run_bind, hT.agg w, Result.andThen_ok, if_true, hs, hl2, Sem.run_pure]
theorem OP.load [TScal P t] (hd : Nat.blt d n = true) (ha : ev ρ x = .pointer (some ⟨b, i, none⟩)) (hs : Sees B I Γ b i v) (h : K Γ (upd ρ d v)) :
    OP P n B I Γ md ops ⟨some d, .load t x, ty, pos, af, none⟩ K ρ :=
  OP.pure1 v hd (fun w hw => by
    have := run_loadVar1 (P := P) (t := t) (hs.out w hw)
    simp only [execOp, ha, Instr.loadAt, Instr.sureAddr, Sem.run_bind, Sem.run_pure, Result.andThen_ok, this]) h
theorem OP.loadA {m bytes : Nat} {z : Value} [TAggr P t] [TI P t m bytes z] {vs : List Value} (hd : Nat.blt d n = true) (ha : ev ρ x = .pointer (some ⟨b, i, none⟩)) (hs : SeesN B I Γ b i vs) (hl : vs.length = m)
    (h : K Γ (upd ρ d (.agg vs.toArray))) : OP P n B I Γ md ops ⟨some d, .load t x, ty, pos, af, none⟩ K ρ :=
  OP.pure1 _ hd (fun w hw => by
    have := run_loadVarN (P := P) (t := t) (b := b) (i := i) (w := w) hl (fun j v hv => (hs.out j v hv).out w hw)
    simp only [execOp, ha, Instr.loadAt, Instr.sureAddr, Sem.run_bind, Sem.run_pure, Result.andThen_ok, this]) h

/-! ## Places -/
theorem OP.fieldAddr {s : TypeId} {f off : Nat} [hF : TFld P s f off] (hd : Nat.blt d n = true) (ha : ev ρ x = .pointer (some ⟨b, i, none⟩)) (h : K Γ (upd ρ d (.pointer (some ⟨b, i + off, none⟩)))) :
    OP P n B I Γ md ops ⟨some d, .fieldAddr s x f, ty, pos, af, none⟩ K ρ :=
  OP.pure1 _ hd (fun w _ => by
    have := hF.out ⟨b, i, none⟩ w
    rw [add_mk] at this
    simp only [execOp, ha, Sem.run_bind, this, Result.andThen_ok, Sem.run_pure]) h
theorem run_indexAt {m bytes len cap o j : Nat} {z : Value} [hS : TSlice P t e] [hI : TI P e m bytes z] (hj : j < len) (w : World) :
    (Instr.indexAt t (.slice (some ⟨b, o, none⟩) len cap) (.int k (j : Int))).run P w = .ok (.pointer (some ⟨b, o + j * m, none⟩)) w := by
  obtain ⟨inf, h1, h2, _, _⟩ := hI.out
  simp [Instr.indexAt, asIntOf, run_underlying hS.out, sizeOf, typeInfo, h1, h2, hj, add_mk]
/-- 'xs[j]', j from 0 on and below the length. -/
theorem OP.indexAddr {m bytes len cap o j : Nat} {z : Value} {jj : Int} [hS : TSlice P t e] [hI : TI P e m bytes z] (hd : Nat.blt d n = true) (ha : ev ρ x = .slice (some ⟨b, o, none⟩) len cap) (hj : ev ρ y = .int k jj) (hjj : jj = (j : Int)) (hlt : j < len)
    (h : K Γ (upd ρ d (.pointer (some ⟨b, o + j * m, none⟩)))) : OP P n B I Γ md ops ⟨some d, .indexAddr t x y, ty, pos, af, none⟩ K ρ :=
  OP.pure1 _ hd (fun w _ => by
    have := run_indexAt (P := P) (t := t) (e := e) (b := b) (cap := cap) (o := o) (k := k) hlt w
    simp only [execOp, ha, hj, hjj, Sem.run_bind, this, Result.andThen_ok, Sem.run_pure]) h
theorem run_indexArr {m bytes len o j : Nat} {z : Value} [hS : TArray P t len e] [hI : TI P e m bytes z] (hj : j < len) (w : World) :
    (Instr.indexAt t (.pointer (some ⟨b, o, none⟩)) (.int k (j : Int))).run P w = .ok (.pointer (some ⟨b, o + j * m, none⟩)) w := by
  obtain ⟨inf, h1, h2, _, _⟩ := hI.out
  simp [Instr.indexAt, asIntOf, run_underlying hS.out, sizeOf, typeInfo, h1, h2, hj, add_mk, Instr.sureAddr]
theorem OP.indexArr {m bytes len o j : Nat} {z : Value} {jj : Int} [hS : TArray P t len e] [hI : TI P e m bytes z] (hd : Nat.blt d n = true) (ha : ev ρ x = .pointer (some ⟨b, o, none⟩)) (hj : ev ρ y = .int k jj) (hjj : jj = (j : Int)) (hlt : j < len)
    (h : K Γ (upd ρ d (.pointer (some ⟨b, o + j * m, none⟩)))) : OP P n B I Γ md ops ⟨some d, .indexAddr t x y, ty, pos, af, none⟩ K ρ :=
  OP.pure1 _ hd (fun w _ => by
    have := run_indexArr (P := P) (t := t) (e := e) (b := b) (o := o) (k := k) hlt w
    simp only [execOp, ha, hj, hjj, Sem.run_bind, this, Result.andThen_ok, Sem.run_pure]) h

/-! ## Cells written -/
def setN (cs : Array Value) (i : Nat) : List Value → Array Value
  | [] => cs
  | v :: vs => setN (cs.setIfInBounds i v) (i + 1) vs
theorem setN_size : ∀ (vs : List Value) (cs : Array Value) (i : Nat), (setN cs i vs).size = cs.size
  | [], _, _ => rfl
  | v :: vs, cs, i => by simp [setN, setN_size vs]
/-- 'Instr.fill', over lists. -/
def fillL (place : Nat → Option (Nat × Nat)) (cells : Array Value) : List (Nat × Value) → Option (Array Value)
  | [] => some cells
  | (i, v) :: rest => match place i with
    | none => none
    | some (off, size) => bif (Nat.beq v.cells.toList.length size && Nat.ble (off + v.cells.toList.length) cells.size) then fillL place (setN cells off v.cells.toList) rest else none
theorem setN_fold : ∀ (vs : List Value) (cs : Array Value) (off k : Nat), setN cs (off + k) vs = (vs.zipIdx k).foldl (fun cs (c, j) => cs.setIfInBounds (off + j) c) cs
  | [], _, _, _ => rfl
  | v :: vs, cs, off, k => by
    simp only [setN, List.zipIdx_cons, List.foldl_cons]
    exact setN_fold vs _ off (k + 1)
theorem fillL_eq {place : Nat → Option (Nat × Nat)} : ∀ {parts : List (Nat × Value)} {cells out : Array Value}, fillL place cells parts = some out → Instr.fill place cells parts = some out
  | [], _, _, h => h
  | (i, v) :: rest, cells, out, h => by
    simp only [fillL] at h
    simp only [Instr.fill]
    cases hp : place i with
    | none => rw [hp] at h; cases h
    | some q =>
      obtain ⟨off, size⟩ := q
      rw [hp] at h
      dsimp only at h ⊢
      cases hb : (Nat.beq v.cells.toList.length size && Nat.ble (off + v.cells.toList.length) cells.size) with
      | false => rw [hb] at h; cases h
      | true =>
        rw [hb] at h
        simp only [cond_true] at h
        rw [Bool.and_eq_true] at hb
        have e1 : v.cells.size = size := by have := Nat.eq_of_beq_eq_true hb.1; simpa using this
        have e2 : off + v.cells.size ≤ cells.size := by have := Nat.le_of_ble_eq_true hb.2; simpa using this
        rw [if_neg (by simp [e1]; omega)]
        have e3 : Array.foldl (fun cs (x : Value × Nat) => cs.setIfInBounds (off + x.2) x.1) cells v.cells.zipIdx = setN cells off v.cells.toList := by
          have := setN_fold v.cells.toList cells off 0
          simp only [Nat.add_zero] at this
          rw [this, ← Array.foldl_toList, Array.toList_zipIdx]
        have e4 := fillL_eq h
        rw [← e3] at e4
        exact e4

/-! ## Structs by value -/
/-- A part of a struct's or an array's value. -/
class TPart (P : Program) (t : TypeId) (sc : outParam Bool) (m : outParam Nat) : Prop where
  agg : ∀ w, (isAgg t).run P w = .ok (!sc) w
  size : ∀ w, (sizeOf t).run P w = .ok m w
class TFieldV (P : Program) (s : TypeId) (f : Nat) (ft : outParam TypeId) (off : outParam Nat) : Prop where
  out : ∃ fs fl, P.underlying s = some (.struct fs) ∧ fs[f]? = some fl ∧ fl.type = ft ∧ fl.offset = off
theorem OP.field1 {s ft : TypeId} {f off : Nat} {cs : Array Value} [hF : TFieldV P s f ft off] [hT : TScal P ft] (hd : Nat.blt d n = true) (ha : ev ρ x = .agg cs) (hc : cs[off]? = some v) (h : K Γ (upd ρ d v)) :
    OP P n B I Γ md ops ⟨some d, .field s x f, ty, pos, af, none⟩ K ρ :=
  OP.pure1 v hd (fun w _ => by
    obtain ⟨fs, fl, h1, h2, h3, h4⟩ := hF.out
    simp [execOp, ha, Instr.field, run_underlying h1, h2, asAgg, part, h3, h4, hT.agg w, hc]) h
theorem OP.fieldA {s ft : TypeId} {f off m bytes : Nat} {z : Value} {cs vs : Array Value} [hF : TFieldV P s f ft off] [hT : TAggr P ft] [hI : TI P ft m bytes z] (hd : Nat.blt d n = true) (ha : ev ρ x = .agg cs) (hc : cs.extract off (off + m) = vs) (h : K Γ (upd ρ d (.agg vs))) :
    OP P n B I Γ md ops ⟨some d, .field s x f, ty, pos, af, none⟩ K ρ :=
  OP.pure1 _ hd (fun w _ => by
    obtain ⟨fs, fl, h1, h2, h3, h4⟩ := hF.out
    obtain ⟨inf, i1, i2, _, _⟩ := hI.out
    simp [execOp, ha, Instr.field, run_underlying h1, h2, asAgg, part, h3, h4, hT.agg w, sizeOf, typeInfo, i1, i2, hc]) h
/-- 'arr[j]' of an array's value, one cell each. -/
theorem OP.index1 {len j m bytes : Nat} {z : Value} {jj : Int} {cs : Array Value} [hA : TArray P t len e] [hT : TScal P e] [hI : TI P e m bytes z] (hd : Nat.blt d n = true) (ha : ev ρ x = .agg cs) (hj : ev ρ y = .int k jj) (hjj : jj = (j : Int)) (hlt : j < len) (hc : cs[j * m]? = some v)
    (h : K Γ (upd ρ d v)) : OP P n B I Γ md ops ⟨some d, .index t x y, ty, pos, af, none⟩ K ρ :=
  OP.pure1 v hd (fun w _ => by
    obtain ⟨inf, i1, i2, _, _⟩ := hI.out
    simp [execOp, ha, hj, hjj, Instr.index, asIntOf, run_underlying hA.out, hlt, part, hT.agg w, sizeOf, typeInfo, i1, i2, hc]) h
/-- A struct or an array put together. -/
class TBuild (P : Program) (t : TypeId) (zero : outParam (Array Value)) (place : outParam (Nat → Option (Nat × Nat))) : Prop where
  out : ∀ (parts : Array (Nat × Value)) (cells : Array Value) (w : World), Instr.fill place zero parts.toList = some cells → (Instr.build t parts).run P w = .ok (.agg cells) w
theorem run_mapM_list {α β : Type} {f : α → Sem β} {g : α → β} {w : World} : ∀ {l : List α}, (∀ x ∈ l, (f x).run P w = .ok (g x) w) → (l.mapM f).run P w = .ok (l.map g) w
  | [], _ => rfl
  | x :: l, h => by
    have h1 := h x (by simp)
    have h2 := run_mapM_list (l := l) (fun y hy => h y (by simp [hy]))
    simp [List.mapM_cons, h1, h2]
theorem run_mapM_array {α β : Type} {f : α → Sem β} {g : α → β} {w : World} {l : Array α} (h : ∀ x ∈ l.toList, (f x).run P w = .ok (g x) w) : (l.mapM f).run P w = .ok (l.map g) w := by
  have h1 := run_mapM_list (P := P) h
  have e2 : (List.map g l.toList).toArray = Array.map g l := by apply Array.ext'; simp
  rw [Array.mapM_eq_mapM_toList]; simp only [Sem.run_map, h1, Result.andThen_ok, e2]
theorem TBuild.struct {t : TypeId} {fs : Array Field} {zero : Value} {m bytes : Nat} {places : Array (Nat × Nat)} (h : P.underlying t = some (.struct fs)) (hz : TI P t m bytes zero) (hp : fs.map (fun (f : Field) => (f.offset, P.cellsOf f.type)) = places) (hs : fs.all (fun (f : Field) => (P.info? f.type).isSome) = true) :
    TBuild P t zero.cells (fun i => places[i]?) :=
  ⟨fun parts cells w hf => by
    obtain ⟨i, h1, h2, h3, h4⟩ := hz.out
    have hzv : (zeroValue t).run P w = .ok zero w := by simp [zeroValue, typeInfo, h1, h4]
    have hm : (fs.mapM fun (f : Field) => (do pure (f.offset, ← sizeOf f.type) : Sem (Nat × Nat))).run P w = .ok places w := by
      rw [← hp]
      refine run_mapM_array fun f hf => ?_
      have hsome := (Array.all_eq_true_iff_forall_mem.1 hs) f (by simpa using hf)
      cases hi : P.info? f.type with
      | none => rw [hi] at hsome; cases hsome
      | some inf => simp [sizeOf, typeInfo, hi, Program.cellsOf]
    simp only [Instr.build, Sem.run_bind, hzv, Result.andThen_ok, run_underlying h, hm]
    rw [hf]; rfl⟩
theorem TBuild.array {t e : TypeId} {len : Nat} {zero ze : Value} {m bytes m' bytes' : Nat} (h : P.underlying t = some (.array len e)) (hz : TI P t m bytes zero) (he : TI P e m' bytes' ze) : TBuild P t zero.cells (fun i => some (i * m', m')) :=
  ⟨fun parts cells w hf => by
    obtain ⟨i, h1, h2, h3, h4⟩ := hz.out
    obtain ⟨i', k1, k2, _, _⟩ := he.out
    have hzv : (zeroValue t).run P w = .ok zero w := by simp [zeroValue, typeInfo, h1, h4]
    have hs : (sizeOf e).run P w = .ok m' w := by simp [sizeOf, typeInfo, k1, k2]
    simp only [Instr.build, Sem.run_bind, hzv, Result.andThen_ok, run_underlying h, hs]
    rw [hf]; rfl⟩
theorem OP.build {zero cells : Array Value} {place : Nat → Option (Nat × Nat)} {parts : Array (Nat × Operand)} [hB : TBuild P t zero place] (hd : Nat.blt d n = true)
    (hf : fillL place zero (parts.toList.map fun (i, x) => (i, ev ρ x)) = some cells) (h : K Γ (upd ρ d (.agg cells))) :
    OP P n B I Γ md ops ⟨some d, .build t parts, ty, pos, af, none⟩ K ρ :=
  OP.pure1 _ hd (fun w _ => by
    have := hB.out (parts.map fun (i, x) => (i, ev ρ x)) _ w (by rw [Array.toList_map]; exact fillL_eq hf)
    simp only [execOp, Sem.run_bind, this, Result.andThen_ok, Sem.run_pure]) h
theorem rep_cells {zs : Array Value} {m : Nat} (hz : zs.size = m) (len : Nat) : (Array.range (len * m)).map (zs[· % zs.size]!) = (List.replicate len zs.toList).flatten.toArray := by
  apply Array.ext'
  show _ = (List.replicate len zs.toList).flatten
  induction len with
  | zero => simp
  | succ k ih =>
    rw [List.replicate_succ', List.flatten_append, ← ih]
    apply List.ext_getElem?
    intro j
    subst hz
    simp only [Array.toList_map, Array.toList_range, List.getElem?_map, List.getElem?_append, List.length_map, List.length_range, List.flatten_cons, List.flatten_nil, List.append_nil]
    by_cases h1 : j < k * zs.size
    · have h2 : j < (k + 1) * zs.size := by rw [Nat.add_mul]; omega
      simp [h1, h2]
    · rw [if_neg h1]
      by_cases h2 : j < (k + 1) * zs.size
      · have h3 : j - k * zs.size < zs.size := by rw [Nat.add_mul] at h2; omega
        have h4 : j % zs.size = j - k * zs.size := by
          have e : j = (j - k * zs.size) + zs.size * k := by rw [Nat.mul_comm zs.size k]; omega
          conv => lhs; rw [e]
          rw [Nat.add_mul_mod_self_left, Nat.mod_eq_of_lt h3]
        simp [h2, h3, h4]
      · have h3 : ¬ j - k * zs.size < zs.size := by rw [Nat.add_mul] at h2; omega
        simp [h2, h3]
/-- '[]T{..}' written out. -/
theorem OP.buildSlice {m bytes len : Nat} {z : Value} {cells : Array Value} {parts : Array (Nat × Operand)} [hS : TSlice P t e] [hI : TI P e m bytes z] (hd : Nat.blt d n = true) (hlen : Nat.ble (len * m) 16777216 = true) (h0 : len * m ≠ 0)
    (hf : fillL (fun i => some (i * m, m)) (List.replicate len z.cells.toList).flatten.toArray (parts.toList.map fun (i, x) => (i, ev ρ x)) = some cells) (hzm : Nat.beq z.cells.toList.length m = true)
    (h : ∀ b, K ((b, .cells cells e (0, 0)) :: Γ) (upd ρ d (.slice (some ⟨b, 0, none⟩) len len))) :
    OP P n B I Γ false ops ⟨some d, .buildSlice t len parts, ty, pos, af, none⟩ K ρ :=
  OP.gen hd fun w hw => ⟨_, _, _, by
    obtain ⟨i, h1, h2, h3, h4⟩ := hI.out
    have hzv : (zeroValue e).run P w = .ok z w := by simp [zeroValue, typeInfo, h1, h4]
    have hs : (sizeOf e).run P w = .ok m w := by simp [sizeOf, typeInfo, h1, h2]
    have hle : ¬ len * m > 2 ^ 24 := by have := Nat.le_of_ble_eq_true hlen; omega
    have hnew : (newRow e cells).run P w = .ok ⟨w.heap.size, 0, none⟩ (w.alloc (.cells cells e)) := rfl
    have hf : Instr.fill (fun i => some (i * m, m)) ((Array.range (len * m)).map (z.cells[· % z.cells.size]!)) (parts.map fun (i, x) => (i, ev ρ x)).toList = some cells := by
      rw [Array.toList_map, rep_cells (by have := Nat.eq_of_beq_eq_true hzm; simpa using this)]; exact fillL_eq hf
    simp only [execOp, Instr.buildSlice, Sem.run_bind, run_underlying hS.out, Result.andThen_ok, hs, if_neg hle, if_neg h0, hzv, Sem.run_pure, hf, hnew], hw.new _, h _⟩
theorem OP.buildSlice0 {m bytes : Nat} {z : Value} {parts : Array (Nat × Operand)} [hS : TSlice P t e] [hI : TI P e m bytes z] (hd : Nat.blt d n = true) (hp : parts = #[])
    (h : ∀ b, K ((b, .cells #[] e (0, 0)) :: Γ) (upd ρ d (.slice (some ⟨b, 0, none⟩) 0 0))) :
    OP P n B I Γ false ops ⟨some d, .buildSlice t 0 parts, ty, pos, af, none⟩ K ρ :=
  OP.gen hd fun w hw => ⟨_, _, _, by
    obtain ⟨i, h1, h2, h3, h4⟩ := hI.out
    subst hp
    have hs : (sizeOf e).run P w = .ok m w := by simp [sizeOf, typeInfo, h1, h2]
    have hnew : (newRow e (Array.map (fun _ => (default : Value)) (Array.range 0))).run P w = .ok ⟨w.heap.size, 0, none⟩ (w.alloc (.cells #[] e)) := by
      have e0 : (Array.map (fun _ => (default : Value)) (Array.range 0)) = #[] := by simp
      rw [e0]; rfl
    simp [execOp, Instr.buildSlice, run_underlying hS.out, hs, Instr.fill, hnew], hw.new _, h _⟩

/-! ## Slices made -/
/-- 'len' of a slice. -/
theorem OP.len {a : Option Addr} {l c : Nat} {tys : Array TypeId} [hS : TSlice P t e] (hd : Nat.blt d n = true) (ht : tys = #[t]) (ha : ev ρ x = .slice a l c) (h : K Γ (upd ρ d (.int .i64 (l : Int)))) :
    OP P n B I Γ md ops ⟨some d, .call ⟨.builtin .len, #[x], tys⟩, ty, pos, af, none⟩ K ρ :=
  OP.pure1 _ hd (fun w _ => by subst ht; simp [execOp, resolve, invoke, builtin, Builtin.len_, run_underlying hS.out, ha, goInt]) h
theorem madeCells_one (z : Value) (hz : z.cells = #[z]) (c : Nat) : madeCells z.cells (c * 1) = Array.replicate c z := by
  apply Array.ext
  · simp [madeCells]
  · intro j h1 h2
    simp [madeCells, hz, Nat.mod_one]
theorem OP.make1 {bytes : Nat} {z : Value} {l : Nat} {ll : Int} {k k' : IntKind} {y' : Operand} [hS : TSlice P t e] [hI : TI P e 1 bytes z] (hd : Nat.blt d n = true) (hz : z.cells = #[z]) (hl : ev ρ x = .int k ll) (hc : ev ρ y' = .int k' ll) (hll : ll = (l : Int)) (hb : bytes * l ≤ 281474976710656) (h63 : l ≤ 9223372036854775807)
    (h : ∀ b, K ((b, .cells (Array.replicate l z) e (0, 0)) :: Γ) (upd ρ d (.slice (some ⟨b, 0, none⟩) l l))) :
    OP P n B I Γ false ops ⟨some d, .makeSlice t x y', ty, pos, af, none⟩ K ρ :=
  OP.gen hd fun w hw => ⟨.slice (some ⟨w.heap.size, 0, none⟩) l l, _, _, by
    obtain ⟨i, h1, h2, h3, h4⟩ := hI.out
    have := run_make (P := P) w t e i z hS.out h1 h4 k k' l l (by omega) (by omega) (by rw [h3, ← Int.natCast_mul]; omega) (by omega)
    rw [h2, Int.toNat_natCast, madeCells_one z hz] at this
    simp only [execOp, hl, hc, hll, Sem.run_bind, this, Result.andThen_ok, Sem.run_pure], hw.new _, h _⟩
end
end Go.Pen
end
