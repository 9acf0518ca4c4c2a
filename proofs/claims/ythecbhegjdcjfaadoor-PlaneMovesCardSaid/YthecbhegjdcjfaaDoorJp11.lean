/- Texts joined: PenJ, PenK. -/
import Derived.Test.YthecbhegjdcjfaaDoorJp10
import Derived.OrdersHeld
section
/- The pen's rules, more: a region whose order is open and that writes some blocks while it reads others: what reads those others is taken first. -/
set_option linter.unusedVariables false
set_option linter.unusedSimpArgs false
namespace Go.Pen

section
variable {P : Program} {n : Nat} {B : World} {I : List Nat} {Γ Γv Γs : List (Nat × Obj)} {ρ : Env} {ops : Array Oper} {Q : Post} {fuel : Nat} {listed : Array Bool} {i : Nat}

/-- Whatever order is picked of those that are still open; 'Γs': what nobody in the region writes. -/
structure WH (P : Program) (n : Nat) (B : World) (I : List Nat) (Γv Γs : List (Nat × Obj)) (ops : Array Oper) (fuel : Nat) (listed : Array Bool) (Q : Post) (ρ : Env) : Prop where
  out : ∀ a, a.defers = [] → a.tmps.size = n → envOf a = ρ → ∀ w, St B I (Γv ++ Γs) w → wpAnyH P .any ops (lift n Q) (St B I Γs) fuel listed a w
theorem WP.regionH {id : Nat} {l : List Oper} (Γv Γs : List (Nat × Obj)) (hΓ : Γ = Γv ++ Γs) (hm : P.follows .mixedOrders = true) (h : WH P n B I Γv Γs l.toArray l.length (Array.replicate l.length false) Q ρ) : WP P n B I Γ (.region id l.toArray true) Q ρ :=
  ⟨fun a w h1 h2 h3 h4 => wp_region_held (S := St B I Γs) hm (by simpa using h.out a h1 h2 h3 _ ((hΓ ▸ h4).drew (w.drawn + 1) (Nat.le_succ _)))⟩
theorem WH.take [hQ : NoPan Q] {o : Oper} (ho : ops[i]? = some o) (hs : Region.noSelect ops = true) (hf : Region.free .any ops listed i = true) (hr : (Region.ready .any ops listed).contains i = true) (hnc : noCall o = true)
    (h : OP P n B I Γs true ops o (fun _ ρ' => WH P n B I Γv Γs ops fuel (listed.setIfInBounds i true) Q ρ') ρ) : WH P n B I Γv Γs ops (fuel + 1) listed Q ρ :=
  ⟨fun a h1 h2 h3 w h4 => by
    have hS : St B I Γs w := h4.drop (List.sublist_append_right Γv Γs)
    by_cases hw : Region.wanted o (yielded ops a.tmps) = true
    · obtain ⟨v, hv, hK⟩ := (h.yes a h1 h2 h3 hw).2.2 hnc
      refine wpAnyH_take (v := v) ho hs hf hr (fun c a' w' hp => absurd hp.2.2 (hQ.out c _ w')) (.inl ⟨hw, hv⟩) hS ?_
      exact hK (fun a' => wpAnyH P .any ops (lift n Q) (St B I Γs) fuel (listed.setIfInBounds i true) a' w) (fun a' k1 k2 k4 => k4.out a' k1 k2 rfl w h4)
    · have hw' : Region.wanted o (yielded ops a.tmps) = false := by simpa using hw
      refine wpAnyH_take (v := undef) ho hs hf hr (fun c a' w' hp => absurd hp.2.2 (hQ.out c _ w')) (.inr ⟨hw', rfl⟩) hS ?_
      exact (h.no a h1 h2 h3 hw').out _ (by rw [put_defers]; exact h1) (by rw [put_size]; exact h2) rfl w h4⟩
/-- What follows a step: the memory that is written, anew. -/
def next (P : Program) (n : Nat) (B : World) (I : List Nat) (Γs : List (Nat × Obj)) (ops : Array Oper) (fuel : Nat) (listed : Array Bool) (Q : Post) (Γ' : List (Nat × Obj)) (ρ' : Env) : Prop :=
  ∃ Γv', Γ'.Perm (Γv' ++ Γs) ∧ WH P n B I Γv' Γs ops fuel listed Q ρ'
theorem next.mk {ρ' : Env} {Γ' : List (Nat × Obj)} (Γv' : List (Nat × Obj)) (hp : Γ' = Γv' ++ Γs) (h : WH P n B I Γv' Γs ops fuel listed Q ρ') : next P n B I Γs ops fuel listed Q Γ' ρ' := ⟨Γv', hp ▸ List.Perm.refl _, h⟩
theorem next.perm {ρ' : Env} {Γ' : List (Nat × Obj)} (Γv' : List (Nat × Obj)) (hp : Γ'.Perm (Γv' ++ Γs)) (h : WH P n B I Γv' Γs ops fuel listed Q ρ') : next P n B I Γs ops fuel listed Q Γ' ρ' := ⟨Γv', hp, h⟩
theorem WH.step {rs : List Nat} (hr : Region.ready .any ops listed = rs) (hne : rs.isEmpty = false)
    (h : ∀ i ∈ rs, ∃ o, ops[i]? = some o ∧ OP P n B I (Γv ++ Γs) false ops o (next P n B I Γs ops fuel (listed.setIfInBounds i true) Q) ρ) : WH P n B I Γv Γs ops (fuel + 1) listed Q ρ :=
  ⟨fun a h1 h2 h3 w h4 => by
    have hS : St B I Γs w := h4.drop (List.sublist_append_right Γv Γs)
    refine wpAnyH_all hr (fun h0 => by subst h0; cases hne) fun i hi => ?_
    obtain ⟨o, ho, hop⟩ := h i hi
    unfold wpOp
    rw [ho]
    dsimp only
    split
    · rename_i hw
      refine .inl (hop.yes a h1 h2 h3 hw w h4 _ _ fun a' w' Γ' k1 k2 k3 ⟨Γv', kp, k4⟩ => ?_)
      have k3' := k3.perm kp
      exact ⟨k3'.drop (List.sublist_append_right Γv' Γs), k4.out a' k1 k2 rfl w' k3'⟩
    · rename_i hw
      obtain ⟨Γv', kp, hno⟩ := hop.no a h1 h2 h3 (by simpa using hw)
      have h4' := h4.perm kp
      exact ⟨h4'.drop (List.sublist_append_right Γv' Γs), hno.out _ (by rw [put_defers]; exact h1) (by rw [put_size]; exact h2) rfl w h4'⟩⟩
theorem WH.done (hr : Region.ready .any ops listed = []) (h : Fin B I (Γv ++ Γs) .normal ρ Q) : WH P n B I Γv Γs ops fuel listed Q ρ :=
  ⟨fun a h1 h2 h3 w h4 => wpAnyH_done hr ⟨h1, h2, h3 ▸ h.out w h4⟩ fuel⟩
/-! ## Memory in another order, by places -/
def noBlk : Nat × Obj := (0, .cells #[] 0 (0, 0))
theorem perm_places (Γ : List (Nat × Obj)) (q : List Nat) (hq : decide ((List.range Γ.length).Perm q) = true) : Γ.Perm (q.map (Γ.getD · noBlk)) := by
  have e : Γ = (List.range Γ.length).map (Γ.getD · noBlk) := by
    apply List.ext_getElem?
    intro i
    simp only [List.getElem?_map, List.getD_eq_getElem?_getD]
    by_cases hi : i < Γ.length
    · rw [List.getElem?_range hi, List.getElem?_eq_getElem hi]; simp [List.getElem?_eq_getElem hi]
    · rw [List.getElem?_eq_none (by omega), List.getElem?_eq_none (by simpa using hi)]; rfl
  have h := (of_decide_eq_true hq).map (Γ.getD · noBlk)
  rwa [← e] at h
theorem WP.by {c : Code} (q : List Nat) (hq : decide ((List.range Γ.length).Perm q) = true) (h : WP P n B I (q.map (Γ.getD · noBlk)) c Q ρ) : WP P n B I Γ c Q ρ := WP.perm (perm_places Γ q hq) h
theorem Fin.by {e : Exit} (q : List Nat) (hq : decide ((List.range Γ.length).Perm q) = true) (h : Fin B I (q.map (Γ.getD · noBlk)) e ρ Q) : Fin B I Γ e ρ Q := Fin.perm (perm_places Γ q hq) h
end
end Go.Pen
end
section
/- The pen's rules, in short: where a block lies is found by the instances 'At' and 'Put'. -/
set_option linter.unusedVariables false
set_option linter.unusedSimpArgs false
namespace Go.Pen

/-- Block 'b' of the memory 'Γ' is 'o'. -/
class At (Γ : List (Nat × Obj)) (b : Nat) (o : outParam Obj) : Prop where
  mem : (b, o) ∈ Γ
instance At.head {Γ : List (Nat × Obj)} {b : Nat} {o : Obj} : At ((b, o) :: Γ) b o := ⟨List.Mem.head _⟩
instance (priority := 900) At.tail {Γ : List (Nat × Obj)} {p : Nat × Obj} {b : Nat} {o : Obj} [h : At Γ b o] : At (p :: Γ) b o := ⟨List.Mem.tail _ h.mem⟩
instance (priority := 950) At.left {Γ Δ : List (Nat × Obj)} {b : Nat} {o : Obj} [h : At Γ b o] : At (Γ ++ Δ) b o := ⟨List.mem_append_left _ h.mem⟩
instance (priority := 900) At.right {Γ Δ : List (Nat × Obj)} {b : Nat} {o : Obj} [h : At Δ b o] : At (Γ ++ Δ) b o := ⟨List.mem_append_right _ h.mem⟩
/-- Block 'b', which is 'o', written anew as 'o'': the memory is 'Γ''. -/
class Put (Γ : List (Nat × Obj)) (b : Nat) (o : outParam Obj) (o' : Obj) (Γ' : outParam (List (Nat × Obj))) : Prop where
  out : ∃ Γ1 Γ2, Γ = Γ1 ++ (b, o) :: Γ2 ∧ Γ' = Γ1 ++ (b, o') :: Γ2
instance Put.head {Γ : List (Nat × Obj)} {b : Nat} {o o' : Obj} : Put ((b, o) :: Γ) b o o' ((b, o') :: Γ) := ⟨[], Γ, rfl, rfl⟩
instance (priority := 900) Put.tail {Γ Γ' : List (Nat × Obj)} {p : Nat × Obj} {b : Nat} {o o' : Obj} [h : Put Γ b o o' Γ'] : Put (p :: Γ) b o o' (p :: Γ') := by
  obtain ⟨Γ1, Γ2, e1, e2⟩ := h.out
  exact ⟨p :: Γ1, Γ2, by rw [e1]; rfl, by rw [e2]; rfl⟩
instance (priority := 950) Put.left {Γ Γ' Δ : List (Nat × Obj)} {b : Nat} {o o' : Obj} [h : Put Γ b o o' Γ'] : Put (Γ ++ Δ) b o o' (Γ' ++ Δ) := by
  obtain ⟨Γ1, Γ2, e1, e2⟩ := h.out
  exact ⟨Γ1, Γ2 ++ Δ, by rw [e1]; simp, by rw [e2]; simp⟩
instance (priority := 900) Put.right {Γ Δ Δ' : List (Nat × Obj)} {b : Nat} {o o' : Obj} [h : Put Δ b o o' Δ'] : Put (Γ ++ Δ) b o o' (Γ ++ Δ') := by
  obtain ⟨Γ1, Γ2, e1, e2⟩ := h.out
  exact ⟨Γ ++ Γ1, Γ2, by rw [e1]; simp, by rw [e2]; simp⟩

section
variable {P : Program} {n : Nat} {B : World} {I : List Nat} {Γ Γ' Γ1 Γ2 : List (Nat × Obj)} {ρ : Env} {ops : Array Oper} {md : Bool} {K : List (Nat × Obj) → Env → Prop}
  {d : Nat} {ty : TypeId} {pos : String} {af : Array Edge} {t t' e : TypeId} {x y : Operand} {b i : Nat} {v : Value} {k : IntKind}

theorem Sees.at {cs : Array Value} {T : TypeId} {fz : Nat × Nat} [h : At Γ b (.cells cs T fz)] (hc : cs[i]? = some v) : Sees B I Γ b i v := Sees.own h.mem hc
theorem OP.ld [TScal P t] {cs : Array Value} {T : TypeId} {fz : Nat × Nat} (hd : Nat.blt d n = true) (ha : ev ρ x = .pointer (some ⟨b, i, none⟩)) (hA : At Γ b (.cells cs T fz)) (hc : cs[i]? = some v) (h : K Γ (upd ρ d v)) :
    OP P n B I Γ md ops ⟨some d, .load t x, ty, pos, af, none⟩ K ρ := OP.load hd ha (Sees.own hA.mem hc) h
theorem OP.ldA {m bytes : Nat} {z : Value} [TAggr P t] [TI P t m bytes z] {cs : Array Value} {T : TypeId} {fz : Nat × Nat} {vs : List Value} (hd : Nat.blt d n = true) (ha : ev ρ x = .pointer (some ⟨b, i, none⟩)) (hA : At Γ b (.cells cs T fz)) (hc : readN cs i m = some vs)
    (h : K Γ (upd ρ d (.agg vs.toArray))) : OP P n B I Γ md ops ⟨some d, .load t x, ty, pos, af, none⟩ K ρ := OP.loadA hd ha (SeesN.own m hA.mem hc) (readN_spec hc).1 h
theorem OP.st {m bytes : Nat} {z : Value} [hI : TI P t m bytes z] {vs : List Value} {cs : Array Value} {T : TypeId} (ha : ev ρ x = .pointer (some ⟨b, i, none⟩)) (hv : (ev ρ y).cells.toList = vs) (hP : Put Γ b (.cells cs T (0, 0)) (.cells (setN cs i vs) T (0, 0)) Γ')
    (hl : vs.length = m) (h1 : (vs.all (·.oneCell')) = true) (hi : Nat.ble (i + m) cs.size = true) (h : K Γ' ρ) :
    OP P n B I Γ false ops ⟨none, .store t x y, ty, pos, af, none⟩ K ρ := by
  obtain ⟨Γ1, Γ2, rfl, rfl⟩ := hP.out
  exact OP.storeP ha hv hl h1 hi h
/-- A store whose row is known behind it. -/
theorem OP.stR {m bytes : Nat} {z : Value} [hI : TI P t m bytes z] {vs : List Value} {cs cs' : Array Value} {T : TypeId} (hs : setN cs i vs = cs') (ha : ev ρ x = .pointer (some ⟨b, i, none⟩)) (hv : (ev ρ y).cells.toList = vs) (hP : Put Γ b (.cells cs T (0, 0)) (.cells cs' T (0, 0)) Γ')
    (hl : vs.length = m) (h1 : (vs.all (·.oneCell')) = true) (hi : Nat.ble (i + m) cs.size = true) (h : K Γ' ρ) :
    OP P n B I Γ false ops ⟨none, .store t x y, ty, pos, af, none⟩ K ρ := by
  subst hs
  exact OP.st ha hv hP hl h1 hi h

/-! registers, boxes and stores, by what they hold -/
theorem OP.mI {a : Int} (hd : Nat.blt d n = true) (hv : ev ρ x = .int k a) (h : K Γ (upd ρ d (.int k a))) : OP P n B I Γ md ops ⟨some d, .move x, ty, pos, af, none⟩ K ρ := OP.move hd hv h
theorem OP.mB {a : Bool} (hd : Nat.blt d n = true) (hv : ev ρ x = .bool a) (h : K Γ (upd ρ d (.bool a))) : OP P n B I Γ md ops ⟨some d, .move x, ty, pos, af, none⟩ K ρ := OP.move hd hv h
theorem OP.mC {f : FloatKind} {a c : Nat} (hd : Nat.blt d n = true) (hv : ev ρ x = .complex f a c) (h : K Γ (upd ρ d (.complex f a c))) : OP P n B I Γ md ops ⟨some d, .move x, ty, pos, af, none⟩ K ρ := OP.move hd hv h
theorem OP.mF {f : FloatKind} {a : Nat} (hd : Nat.blt d n = true) (hv : ev ρ x = .float f a) (h : K Γ (upd ρ d (.float f a))) : OP P n B I Γ md ops ⟨some d, .move x, ty, pos, af, none⟩ K ρ := OP.move hd hv h
theorem OP.mS {a : Option Addr} {l c : Nat} (hd : Nat.blt d n = true) (hv : ev ρ x = .slice a l c) (h : K Γ (upd ρ d (.slice a l c))) : OP P n B I Γ md ops ⟨some d, .move x, ty, pos, af, none⟩ K ρ := OP.move hd hv h
theorem OP.mP {a : Option Addr} (hd : Nat.blt d n = true) (hv : ev ρ x = .pointer a) (h : K Γ (upd ρ d (.pointer a))) : OP P n B I Γ md ops ⟨some d, .move x, ty, pos, af, none⟩ K ρ := OP.move hd hv h
theorem OP.mA {a : Array Value} (hd : Nat.blt d n = true) (hv : ev ρ x = .agg a) (h : K Γ (upd ρ d (.agg a))) : OP P n B I Γ md ops ⟨some d, .move x, ty, pos, af, none⟩ K ρ := OP.move hd hv h
theorem OP.mT {a : Array Value} (hd : Nat.blt d n = true) (hv : ev ρ x = .tuple a) (h : K Γ (upd ρ d (.tuple a))) : OP P n B I Γ md ops ⟨some d, .move x, ty, pos, af, none⟩ K ρ := OP.move hd hv h
theorem OP.mM {a : Option Nat} (hd : Nat.blt d n = true) (hv : ev ρ x = .map a) (h : K Γ (upd ρ d (.map a))) : OP P n B I Γ md ops ⟨some d, .move x, ty, pos, af, none⟩ K ρ := OP.move hd hv h
theorem OP.mU {f : Go.Fn} {a c : Array Value} (hd : Nat.blt d n = true) (hv : ev ρ x = .func f a c) (h : K Γ (upd ρ d (.func f a c))) : OP P n B I Γ md ops ⟨some d, .move x, ty, pos, af, none⟩ K ρ := OP.move hd hv h
theorem OP.aI {a : Int} (hd : Nat.blt d n = true) (hv : ev ρ x = .int k a) (h : K Γ (upd ρ d (.int k a))) : OP P n B I Γ md ops ⟨some d, .assign x, ty, pos, af, none⟩ K ρ := OP.assign hd hv h
theorem OP.aB {a : Bool} (hd : Nat.blt d n = true) (hv : ev ρ x = .bool a) (h : K Γ (upd ρ d (.bool a))) : OP P n B I Γ md ops ⟨some d, .assign x, ty, pos, af, none⟩ K ρ := OP.assign hd hv h
theorem OP.aC {f : FloatKind} {a c : Nat} (hd : Nat.blt d n = true) (hv : ev ρ x = .complex f a c) (h : K Γ (upd ρ d (.complex f a c))) : OP P n B I Γ md ops ⟨some d, .assign x, ty, pos, af, none⟩ K ρ := OP.assign hd hv h
theorem OP.aF {f : FloatKind} {a : Nat} (hd : Nat.blt d n = true) (hv : ev ρ x = .float f a) (h : K Γ (upd ρ d (.float f a))) : OP P n B I Γ md ops ⟨some d, .assign x, ty, pos, af, none⟩ K ρ := OP.assign hd hv h
theorem OP.aS {a : Option Addr} {l c : Nat} (hd : Nat.blt d n = true) (hv : ev ρ x = .slice a l c) (h : K Γ (upd ρ d (.slice a l c))) : OP P n B I Γ md ops ⟨some d, .assign x, ty, pos, af, none⟩ K ρ := OP.assign hd hv h
theorem OP.aP {a : Option Addr} (hd : Nat.blt d n = true) (hv : ev ρ x = .pointer a) (h : K Γ (upd ρ d (.pointer a))) : OP P n B I Γ md ops ⟨some d, .assign x, ty, pos, af, none⟩ K ρ := OP.assign hd hv h
theorem OP.aA {a : Array Value} (hd : Nat.blt d n = true) (hv : ev ρ x = .agg a) (h : K Γ (upd ρ d (.agg a))) : OP P n B I Γ md ops ⟨some d, .assign x, ty, pos, af, none⟩ K ρ := OP.assign hd hv h
theorem OP.aT {a : Array Value} (hd : Nat.blt d n = true) (hv : ev ρ x = .tuple a) (h : K Γ (upd ρ d (.tuple a))) : OP P n B I Γ md ops ⟨some d, .assign x, ty, pos, af, none⟩ K ρ := OP.assign hd hv h
theorem OP.aM {a : Option Nat} (hd : Nat.blt d n = true) (hv : ev ρ x = .map a) (h : K Γ (upd ρ d (.map a))) : OP P n B I Γ md ops ⟨some d, .assign x, ty, pos, af, none⟩ K ρ := OP.assign hd hv h
theorem OP.aU {f : Go.Fn} {a c : Array Value} (hd : Nat.blt d n = true) (hv : ev ρ x = .func f a c) (h : K Γ (upd ρ d (.func f a c))) : OP P n B I Γ md ops ⟨some d, .assign x, ty, pos, af, none⟩ K ρ := OP.assign hd hv h
theorem OP.bxI {T : TypeId} {a : Int} (hd : Nat.blt d n = true) (hv : ev ρ x = .int k a) (h : ∀ b, K ((b, .cells #[.int k a] T (0, 0)) :: Γ) (upd ρ d (.pointer (some ⟨b, 0, none⟩)))) : OP P n B I Γ false ops ⟨some d, .box T x, ty, pos, af, none⟩ K ρ := OP.box hd (by rw [hv]; rfl) h
theorem OP.bxB {T : TypeId} {a : Bool} (hd : Nat.blt d n = true) (hv : ev ρ x = .bool a) (h : ∀ b, K ((b, .cells #[.bool a] T (0, 0)) :: Γ) (upd ρ d (.pointer (some ⟨b, 0, none⟩)))) : OP P n B I Γ false ops ⟨some d, .box T x, ty, pos, af, none⟩ K ρ := OP.box hd (by rw [hv]; rfl) h
theorem OP.bxC {T : TypeId} {f : FloatKind} {a c : Nat} (hd : Nat.blt d n = true) (hv : ev ρ x = .complex f a c) (h : ∀ b, K ((b, .cells #[.complex f a c] T (0, 0)) :: Γ) (upd ρ d (.pointer (some ⟨b, 0, none⟩)))) : OP P n B I Γ false ops ⟨some d, .box T x, ty, pos, af, none⟩ K ρ := OP.box hd (by rw [hv]; rfl) h
theorem OP.bxF {T : TypeId} {f : FloatKind} {a : Nat} (hd : Nat.blt d n = true) (hv : ev ρ x = .float f a) (h : ∀ b, K ((b, .cells #[.float f a] T (0, 0)) :: Γ) (upd ρ d (.pointer (some ⟨b, 0, none⟩)))) : OP P n B I Γ false ops ⟨some d, .box T x, ty, pos, af, none⟩ K ρ := OP.box hd (by rw [hv]; rfl) h
theorem OP.bxS {T : TypeId} {a : Option Addr} {l c : Nat} (hd : Nat.blt d n = true) (hv : ev ρ x = .slice a l c) (h : ∀ b, K ((b, .cells #[.slice a l c] T (0, 0)) :: Γ) (upd ρ d (.pointer (some ⟨b, 0, none⟩)))) : OP P n B I Γ false ops ⟨some d, .box T x, ty, pos, af, none⟩ K ρ := OP.box hd (by rw [hv]; rfl) h
theorem OP.bxP {T : TypeId} {a : Option Addr} (hd : Nat.blt d n = true) (hv : ev ρ x = .pointer a) (h : ∀ b, K ((b, .cells #[.pointer a] T (0, 0)) :: Γ) (upd ρ d (.pointer (some ⟨b, 0, none⟩)))) : OP P n B I Γ false ops ⟨some d, .box T x, ty, pos, af, none⟩ K ρ := OP.box hd (by rw [hv]; rfl) h
theorem OP.bxA {T : TypeId} {a : Array Value} (hd : Nat.blt d n = true) (hv : ev ρ x = .agg a) (h : ∀ b, K ((b, .cells a T (0, 0)) :: Γ) (upd ρ d (.pointer (some ⟨b, 0, none⟩)))) : OP P n B I Γ false ops ⟨some d, .box T x, ty, pos, af, none⟩ K ρ := OP.box hd (by rw [hv]; rfl) h
theorem OP.bxM {T : TypeId} {a : Option Nat} (hd : Nat.blt d n = true) (hv : ev ρ x = .map a) (h : ∀ b, K ((b, .cells #[.map a] T (0, 0)) :: Γ) (upd ρ d (.pointer (some ⟨b, 0, none⟩)))) : OP P n B I Γ false ops ⟨some d, .box T x, ty, pos, af, none⟩ K ρ := OP.box hd (by rw [hv]; rfl) h
theorem OP.bxU {T : TypeId} {f : Go.Fn} {a c : Array Value} (hd : Nat.blt d n = true) (hv : ev ρ x = .func f a c) (h : ∀ b, K ((b, .cells #[.func f a c] T (0, 0)) :: Γ) (upd ρ d (.pointer (some ⟨b, 0, none⟩)))) : OP P n B I Γ false ops ⟨some d, .box T x, ty, pos, af, none⟩ K ρ := OP.box hd (by rw [hv]; rfl) h
theorem OP.stI {a : Int} {bytes : Nat} {z : Value} [hI : TI P t 1 bytes z] {cs : Array Value} {T : TypeId} (ha : ev ρ x = .pointer (some ⟨b, i, none⟩)) (hv : ev ρ y = .int k a) (hP : Put Γ b (.cells cs T (0, 0)) (.cells (setN cs i [.int k a]) T (0, 0)) Γ') (hi : Nat.ble (i + 1) cs.size = true) (h : K Γ' ρ) : OP P n B I Γ false ops ⟨none, .store t x y, ty, pos, af, none⟩ K ρ := OP.st ha (by rw [hv]; rfl) hP rfl rfl hi h
theorem OP.stB {a : Bool} {bytes : Nat} {z : Value} [hI : TI P t 1 bytes z] {cs : Array Value} {T : TypeId} (ha : ev ρ x = .pointer (some ⟨b, i, none⟩)) (hv : ev ρ y = .bool a) (hP : Put Γ b (.cells cs T (0, 0)) (.cells (setN cs i [.bool a]) T (0, 0)) Γ') (hi : Nat.ble (i + 1) cs.size = true) (h : K Γ' ρ) : OP P n B I Γ false ops ⟨none, .store t x y, ty, pos, af, none⟩ K ρ := OP.st ha (by rw [hv]; rfl) hP rfl rfl hi h
theorem OP.stC {f : FloatKind} {a c : Nat} {bytes : Nat} {z : Value} [hI : TI P t 1 bytes z] {cs : Array Value} {T : TypeId} (ha : ev ρ x = .pointer (some ⟨b, i, none⟩)) (hv : ev ρ y = .complex f a c) (hP : Put Γ b (.cells cs T (0, 0)) (.cells (setN cs i [.complex f a c]) T (0, 0)) Γ') (hi : Nat.ble (i + 1) cs.size = true) (h : K Γ' ρ) : OP P n B I Γ false ops ⟨none, .store t x y, ty, pos, af, none⟩ K ρ := OP.st ha (by rw [hv]; rfl) hP rfl rfl hi h
theorem OP.stF {f : FloatKind} {a : Nat} {bytes : Nat} {z : Value} [hI : TI P t 1 bytes z] {cs : Array Value} {T : TypeId} (ha : ev ρ x = .pointer (some ⟨b, i, none⟩)) (hv : ev ρ y = .float f a) (hP : Put Γ b (.cells cs T (0, 0)) (.cells (setN cs i [.float f a]) T (0, 0)) Γ') (hi : Nat.ble (i + 1) cs.size = true) (h : K Γ' ρ) : OP P n B I Γ false ops ⟨none, .store t x y, ty, pos, af, none⟩ K ρ := OP.st ha (by rw [hv]; rfl) hP rfl rfl hi h
theorem OP.stS {a : Option Addr} {l c : Nat} {bytes : Nat} {z : Value} [hI : TI P t 1 bytes z] {cs : Array Value} {T : TypeId} (ha : ev ρ x = .pointer (some ⟨b, i, none⟩)) (hv : ev ρ y = .slice a l c) (hP : Put Γ b (.cells cs T (0, 0)) (.cells (setN cs i [.slice a l c]) T (0, 0)) Γ') (hi : Nat.ble (i + 1) cs.size = true) (h : K Γ' ρ) : OP P n B I Γ false ops ⟨none, .store t x y, ty, pos, af, none⟩ K ρ := OP.st ha (by rw [hv]; rfl) hP rfl rfl hi h
theorem OP.stP {a : Option Addr} {bytes : Nat} {z : Value} [hI : TI P t 1 bytes z] {cs : Array Value} {T : TypeId} (ha : ev ρ x = .pointer (some ⟨b, i, none⟩)) (hv : ev ρ y = .pointer a) (hP : Put Γ b (.cells cs T (0, 0)) (.cells (setN cs i [.pointer a]) T (0, 0)) Γ') (hi : Nat.ble (i + 1) cs.size = true) (h : K Γ' ρ) : OP P n B I Γ false ops ⟨none, .store t x y, ty, pos, af, none⟩ K ρ := OP.st ha (by rw [hv]; rfl) hP rfl rfl hi h
theorem OP.stM {a : Option Nat} {bytes : Nat} {z : Value} [hI : TI P t 1 bytes z] {cs : Array Value} {T : TypeId} (ha : ev ρ x = .pointer (some ⟨b, i, none⟩)) (hv : ev ρ y = .map a) (hP : Put Γ b (.cells cs T (0, 0)) (.cells (setN cs i [.map a]) T (0, 0)) Γ') (hi : Nat.ble (i + 1) cs.size = true) (h : K Γ' ρ) : OP P n B I Γ false ops ⟨none, .store t x y, ty, pos, af, none⟩ K ρ := OP.st ha (by rw [hv]; rfl) hP rfl rfl hi h
theorem OP.stU {f : Go.Fn} {a c : Array Value} {bytes : Nat} {z : Value} [hI : TI P t 1 bytes z] {cs : Array Value} {T : TypeId} (ha : ev ρ x = .pointer (some ⟨b, i, none⟩)) (hv : ev ρ y = .func f a c) (hP : Put Γ b (.cells cs T (0, 0)) (.cells (setN cs i [.func f a c]) T (0, 0)) Γ') (hi : Nat.ble (i + 1) cs.size = true) (h : K Γ' ρ) : OP P n B I Γ false ops ⟨none, .store t x y, ty, pos, af, none⟩ K ρ := OP.st ha (by rw [hv]; rfl) hP rfl rfl hi h
theorem OP.alI {T : TypeId} {bytes : Nat} {a : Int} [hT : TI P T 1 bytes (.int k a)] (hd : Nat.blt d n = true) (h : ∀ b, K ((b, .cells #[.int k a] T (0, 0)) :: Γ) (upd ρ d (.pointer (some ⟨b, 0, none⟩)))) : OP P n B I Γ false ops ⟨some d, .alloc T, ty, pos, af, none⟩ K ρ := OP.alloc (cs := #[.int k a]) hd rfl h
theorem OP.alA {T : TypeId} {m bytes : Nat} {a : Array Value} [hT : TI P T m bytes (.agg a)] (hd : Nat.blt d n = true) (h : ∀ b, K ((b, .cells a T (0, 0)) :: Γ) (upd ρ d (.pointer (some ⟨b, 0, none⟩)))) : OP P n B I Γ false ops ⟨some d, .alloc T, ty, pos, af, none⟩ K ρ := OP.alloc (cs := a) hd rfl h
end
end Go.Pen
end
