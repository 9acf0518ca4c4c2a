/- Texts joined: Pen, PenA. -/
import Derived.WalkKit
import Derived.KernelRfl
import Derived.Deep.LoopGhost
import Derived.Deep.Quiet
import Derived.StillTail
section
/- The pen's own calculus of one call: slots as a function, memory as a list of owned blocks over a base world, a rule for each operation. Nothing here speaks of the program. -/
namespace Go.Pen

/-! ## Slots -/
abbrev Env := Nat → Value
def upd (ρ : Env) (d : Nat) (v : Value) : Env := fun t => bif Nat.beq t d then v else ρ t
theorem upd_same (ρ : Env) (d : Nat) (v : Value) : upd ρ d v d = v := by simp [upd]
theorem upd_ne (ρ : Env) {d t : Nat} (v : Value) (h : t ≠ d) : upd ρ d v t = ρ t := by
  have : Nat.beq t d = false := by
    cases hb : Nat.beq t d
    · rfl
    · exact absurd (Nat.eq_of_beq_eq_true hb) h
  simp [upd, this]
theorem upd_self (ρ : Env) (d : Nat) : upd ρ d (ρ d) = ρ := by
  funext t
  by_cases h : t = d
  · subst h; exact upd_same _ _ _
  · exact upd_ne _ _ h
def ev (ρ : Env) : Operand → Value
  | .tmp t => ρ t
  | .const v => v
  | .global g => .pointer (some ⟨g, 0, none⟩)
  | .func f => .func (.func f) #[] #[]
def envOf (a : Act) : Env := fun t => a.tmps.getD t undef
theorem eval_env (a : Act) : a.eval = ev (envOf a) := by funext x; cases x <;> rfl
theorem env_put (a : Act) (d : Nat) (v : Value) (h : d < a.tmps.size) : envOf (a.put (some d) v) = upd (envOf a) d v := by
  funext t
  by_cases ht : t = d
  · subst ht; rw [upd_same]; simp [envOf, Act.put, Array.getD_eq_getD_getElem?, h]
  · rw [upd_ne _ _ ht]; simp [envOf, Act.put, Array.getD_eq_getD_getElem?, Ne.symm ht]
theorem put_size (a : Act) (d : Option Nat) (v : Value) : (a.put d v).tmps.size = a.tmps.size := by cases d <;> simp [Act.put]
theorem put_defers (a : Act) (d : Option Nat) (v : Value) : (a.put d v).defers = a.defers := by cases d <;> rfl

/-! ## Memory -/
/-- Over the base world 'B': what lies below its size has not turned but for the blocks 'I'; the blocks of 'Γ' hold what 'Γ' says; each is of 'I' or new. -/
structure St (B : World) (I : List Nat) (Γ : List (Nat × Obj)) (w : World) : Prop where
  os : w.os = B.os
  tape : w.tape = B.tape
  output : w.output = B.output
  size : B.heap.size ≤ w.heap.size
  keep : ∀ k, k < B.heap.size → k ∉ I → w.heap[k]? = B.heap[k]?
  has : ∀ p ∈ Γ, w.heap[p.1]? = some p.2
  own : ∀ p ∈ Γ, p.1 ∈ I ∨ B.heap.size ≤ p.1
  nodup : (Γ.map (·.1)).Nodup
  drawn : B.drawn ≤ w.drawn

def keys (Γ : List (Nat × Obj)) : List Nat := Γ.map (·.1)

theorem St.start (w : World) : St w [] [] w := ⟨rfl, rfl, rfl, Nat.le_refl _, fun _ _ _ => rfl, (fun _ h => nomatch h), (fun _ h => nomatch h), List.nodup_nil, Nat.le_refl _⟩
theorem St.startI {w : World} {Γ : List (Nat × Obj)} (h : ∀ p ∈ Γ, w.heap[p.1]? = some p.2) (hn : (keys Γ).Nodup) : St w (keys Γ) Γ w :=
  ⟨rfl, rfl, rfl, Nat.le_refl _, fun _ _ _ => rfl, h, fun _ hp => .inl (List.mem_map_of_mem hp), hn, Nat.le_refl _⟩
theorem St.rebase {B : World} {I : List Nat} {Γ : List (Nat × Obj)} {w : World} (h : St B I Γ w) : St w (keys Γ) Γ w := St.startI h.has h.nodup

theorem St.below {B : World} {Γ : List (Nat × Obj)} {w : World} (h : St B [] Γ w) : Go.RowKit.Below B.heap.size B w := ⟨h.os, h.tape, h.output, h.size, fun k hk => h.keep k hk (by simp)⟩

/-- What was done over a later base counts over the first. -/
theorem St.trans {B w w' : World} {I : List Nat} {Γ Γ' : List (Nat × Obj)} (h : St B I Γ w) (h' : St w (keys Γ) Γ' w') : St B I Γ' w' where
  os := h'.os.trans h.os
  tape := h'.tape.trans h.tape
  drawn := Nat.le_trans h.drawn h'.drawn
  output := h'.output.trans h.output
  size := Nat.le_trans h.size h'.size
  keep := fun k hk hI => by
    rw [h'.keep k (Nat.lt_of_lt_of_le hk h.size) ?_, h.keep k hk hI]
    intro hm
    obtain ⟨p, hp, rfl⟩ := List.mem_map.1 hm
    rcases h.own p hp with h1 | h1
    · exact hI h1
    · exact absurd hk (Nat.not_lt.2 h1)
  has := h'.has
  own := fun p hp => by
    rcases h'.own p hp with h1 | h1
    · obtain ⟨q, hq, e⟩ := List.mem_map.1 h1
      rw [← e]; exact h.own q hq
    · exact .inr (Nat.le_trans h.size h1)
  nodup := h'.nodup

/-- A call that borrows none: what the caller owns stays. -/
theorem St.over {B w w' : World} {I : List Nat} {Γ Γ' : List (Nat × Obj)} (h : St B I Γ w) (h' : St w [] Γ' w') : St B I (Γ' ++ Γ) w' where
  os := h'.os.trans h.os
  tape := h'.tape.trans h.tape
  drawn := Nat.le_trans h.drawn h'.drawn
  output := h'.output.trans h.output
  size := Nat.le_trans h.size h'.size
  keep := fun k hk hI => by rw [h'.keep k (Nat.lt_of_lt_of_le hk h.size) (by simp), h.keep k hk hI]
  has := fun p hp => by
    rcases List.mem_append.1 hp with hp | hp
    · exact h'.has p hp
    · have h1 := h.has p hp
      have hl : p.1 < w.heap.size := by
        rcases Nat.lt_or_ge p.1 w.heap.size with hl | hl
        · exact hl
        · rw [Array.getElem?_eq_none hl] at h1; cases h1
      rw [h'.keep p.1 hl (by simp), h1]
  own := fun p hp => by
    rcases List.mem_append.1 hp with hp | hp
    · rcases h'.own p hp with h1 | h1
      · cases h1
      · exact .inr (Nat.le_trans h.size h1)
    · exact h.own p hp
  nodup := by
    rw [List.map_append, List.nodup_append]
    refine ⟨h'.nodup, h.nodup, ?_⟩
    intro a ha b hb e
    obtain ⟨p, hp, rfl⟩ := List.mem_map.1 ha
    obtain ⟨q, hq, rfl⟩ := List.mem_map.1 hb
    have h1 : w.heap.size ≤ p.1 := (h'.own p hp).resolve_left (by simp)
    have h2 := h.has q hq
    rw [← e, Array.getElem?_eq_none h1] at h2
    cases h2

/-- A call that borrows 'Γb' of what the caller owns. -/
theorem St.overI {B w w' : World} {I : List Nat} {Γb Γ Γ' : List (Nat × Obj)} (h : St B I (Γb ++ Γ) w) (h' : St w (keys Γb) Γ' w') : St B I (Γ' ++ Γ) w' where
  os := h'.os.trans h.os
  tape := h'.tape.trans h.tape
  drawn := Nat.le_trans h.drawn h'.drawn
  output := h'.output.trans h.output
  size := Nat.le_trans h.size h'.size
  keep := fun k hk hI => by
    rw [h'.keep k (Nat.lt_of_lt_of_le hk h.size) ?_, h.keep k hk hI]
    intro hm
    obtain ⟨p, hp, rfl⟩ := List.mem_map.1 hm
    rcases h.own p (List.mem_append_left _ hp) with h1 | h1
    · exact hI h1
    · exact absurd hk (Nat.not_lt.2 h1)
  has := fun p hp => by
    rcases List.mem_append.1 hp with hp | hp
    · exact h'.has p hp
    · have h1 := h.has p (List.mem_append_right _ hp)
      have hl : p.1 < w.heap.size := by
        rcases Nat.lt_or_ge p.1 w.heap.size with hl | hl
        · exact hl
        · rw [Array.getElem?_eq_none hl] at h1; cases h1
      rw [h'.keep p.1 hl ?_, h1]
      intro hm
      obtain ⟨q, hq, e⟩ := List.mem_map.1 hm
      have hnd := h.nodup
      rw [List.map_append, List.nodup_append] at hnd
      exact hnd.2.2 _ (List.mem_map_of_mem hq) _ (List.mem_map_of_mem hp) e
  own := fun p hp => by
    rcases List.mem_append.1 hp with hp | hp
    · rcases h'.own p hp with h1 | h1
      · obtain ⟨q, hq, e⟩ := List.mem_map.1 h1
        rw [← e]; exact h.own q (List.mem_append_left _ hq)
      · exact .inr (Nat.le_trans h.size h1)
    · exact h.own p (List.mem_append_right _ hp)
  nodup := by
    have hnd := h.nodup
    rw [List.map_append, List.nodup_append] at hnd
    rw [List.map_append, List.nodup_append]
    refine ⟨h'.nodup, hnd.2.1, ?_⟩
    intro a ha b hb e
    obtain ⟨p, hp, rfl⟩ := List.mem_map.1 ha
    rcases h'.own p hp with h1 | h1
    · exact hnd.2.2 _ h1 _ hb e
    · obtain ⟨q, hq, rfl⟩ := List.mem_map.1 hb
      have h2 := h.has q (List.mem_append_right _ hq)
      rw [← e, Array.getElem?_eq_none h1] at h2
      cases h2

theorem St.perm {B w : World} {I : List Nat} {Γ Γ' : List (Nat × Obj)} (h : St B I Γ w) (hp : Γ.Perm Γ') : St B I Γ' w where
  os := h.os
  tape := h.tape
  drawn := h.drawn
  output := h.output
  size := h.size
  keep := h.keep
  has := fun p hm => h.has p (hp.mem_iff.2 hm)
  own := fun p hm => h.own p (hp.mem_iff.2 hm)
  nodup := (hp.map _).nodup_iff.1 h.nodup

/-- What is not needed any more is let go. -/
theorem St.drop {B w : World} {I : List Nat} {Γ Γ' : List (Nat × Obj)} (h : St B I Γ w) (hs : Γ'.Sublist Γ) : St B I Γ' w where
  os := h.os
  tape := h.tape
  drawn := h.drawn
  output := h.output
  size := h.size
  keep := h.keep
  has := fun p hm => h.has p (hs.subset hm)
  own := fun p hm => h.own p (hs.subset hm)
  nodup := h.nodup.sublist (hs.map _)

theorem St.drew {B w : World} {I : List Nat} {Γ : List (Nat × Obj)} (h : St B I Γ w) (n : Nat) (hn : w.drawn ≤ n) : St B I Γ { w with drawn := n } := ⟨h.os, h.tape, h.output, h.size, h.keep, h.has, h.own, h.nodup, Nat.le_trans h.drawn hn⟩

theorem lt_of_some {α : Type} {a : Array α} {k : Nat} {x : α} (h : a[k]? = some x) : k < a.size := by
  rcases Nat.lt_or_ge k a.size with hl | hl
  · exact hl
  · rw [Array.getElem?_eq_none hl] at h; cases h

theorem St.new {B w : World} {I : List Nat} {Γ : List (Nat × Obj)} (h : St B I Γ w) (o : Obj) : St B I ((w.heap.size, o) :: Γ) (w.alloc o) where
  os := h.os
  tape := h.tape
  drawn := h.drawn
  output := h.output
  size := Nat.le_trans h.size (by show _ ≤ (w.heap.push o).size; simp)
  keep := fun k hk hI => by
    rw [← h.keep k hk hI]
    show (w.heap.push o)[k]? = _
    rw [Array.getElem?_push, if_neg (by have := h.size; omega)]
  has := fun p hp => by
    show (w.heap.push o)[p.1]? = _
    rcases List.mem_cons.1 hp with rfl | hp
    · simp
    · have h1 := h.has p hp
      rw [Array.getElem?_push, if_neg (by have := lt_of_some h1; omega), h1]
  own := fun p hp => by
    rcases List.mem_cons.1 hp with rfl | hp
    · exact .inr h.size
    · exact h.own p hp
  nodup := by
    rw [List.map_cons, List.nodup_cons]
    refine ⟨fun hm => ?_, h.nodup⟩
    obtain ⟨q, hq, e⟩ := List.mem_map.1 hm
    have := lt_of_some (h.has q hq)
    simp at e; omega

theorem St.key_lt {B w : World} {I : List Nat} {Γ : List (Nat × Obj)} (h : St B I Γ w) {p : Nat × Obj} (hp : p ∈ Γ) : p.1 < w.heap.size := lt_of_some (h.has p hp)

/-- The block at the head is written anew (as a whole, of whatever make). -/
theorem St.set {B w w' : World} {I : List Nat} {Γ : List (Nat × Obj)} {b : Nat} {o o' : Obj} (h : St B I ((b, o) :: Γ) w)
    (hos : w'.os = w.os) (htape : w'.tape = w.tape) (hout : w'.output = w.output) (hsz : w'.heap.size = w.heap.size)
    (hb : w'.heap[b]? = some o') (hk : ∀ k, k ≠ b → w'.heap[k]? = w.heap[k]?) (hdr : w.drawn ≤ w'.drawn := by exact Nat.le_refl _) : St B I ((b, o') :: Γ) w' where
  os := hos.trans h.os
  tape := htape.trans h.tape
  drawn := Nat.le_trans h.drawn hdr
  output := hout.trans h.output
  size := by rw [hsz]; exact h.size
  keep := fun k hk' hI => by
    rw [hk k ?_, h.keep k hk' hI]
    rintro rfl
    rcases h.own _ List.mem_cons_self with h1 | h1
    · exact hI h1
    · exact absurd hk' (Nat.not_lt.2 h1)
  has := fun p hp => by
    rcases List.mem_cons.1 hp with rfl | hp
    · exact hb
    · rw [hk p.1 ?_]
      · exact h.has p (List.mem_cons_of_mem _ hp)
      · intro e
        have hnd := h.nodup
        rw [List.map_cons, List.nodup_cons] at hnd
        exact hnd.1 (List.mem_map.2 ⟨p, hp, e⟩)
  own := fun p hp => by
    rcases List.mem_cons.1 hp with rfl | hp
    · exact h.own (b, o) List.mem_cons_self
    · exact h.own p (List.mem_cons_of_mem _ hp)
  nodup := h.nodup

theorem St.store {B w : World} {I : List Nat} {Γ : List (Nat × Obj)} {b : Nat} {cs : Array Value} {T : TypeId} {fz : Nat × Nat} (h : St B I ((b, .cells cs T fz) :: Γ) w) (i : Nat) (v : Value) :
    St B I ((b, .cells (cs.setIfInBounds i v) T fz) :: Γ) (w.setCell ⟨b, i, none⟩ v) := by
  have hb := h.has _ List.mem_cons_self
  refine h.set rfl rfl rfl (by simp [World.setCell]) ?_ (fun k hk => Go.RowKit.Below.heap_setCell _ _ _ _ hk)
  simp only [World.setCell, Array.getElem?_modify, if_true]
  simp only at hb
  rw [hb]; rfl

theorem cell_of {w : World} {b i : Nat} {cs : Array Value} {T : TypeId} {fz : Nat × Nat} {v : Value} (h : w.heap[b]? = some (.cells cs T fz)) (hv : cs[i]? = some v) : w.cell? ⟨b, i, none⟩ = some v := by
  simp [World.cell?, h, hv]
theorem frozen_of {w : World} {b i : Nat} {cs : Array Value} {T : TypeId} (h : w.heap[b]? = some (.cells cs T (0, 0))) : w.frozen? ⟨b, i, none⟩ = false := by
  simp [World.frozen?, h]

/-- A cell of the base, read later. -/
theorem St.old {B w : World} {I : List Nat} {Γ : List (Nat × Obj)} (h : St B I Γ w) {b i : Nat} {v : Value} (hc : B.cell? ⟨b, i, none⟩ = some v) (hb : b ∉ I) : w.cell? ⟨b, i, none⟩ = some v := by
  have hlt : b < B.heap.size := by
    rcases Nat.lt_or_ge b B.heap.size with hl | hl
    · exact hl
    · simp [World.cell?, Array.getElem?_eq_none hl] at hc
  have := h.keep b hlt hb
  simp only [World.cell?] at hc ⊢
  rw [this]; exact hc

/-! ## A call's body -/
abbrev Post := Exit → Env → World → Prop
def lift (n : Nat) (Q : Post) : Exit → Act → World → Prop := fun e a w => a.defers = [] ∧ a.tmps.size = n ∧ Q e (envOf a) w
structure WP (P : Program) (n : Nat) (B : World) (I : List Nat) (Γ : List (Nat × Obj)) (c : Code) (Q : Post) (ρ : Env) : Prop where
  out : ∀ a w, a.defers = [] → a.tmps.size = n → envOf a = ρ → St B I Γ w → c.wp P (lift n Q) a w
/-- A list of operations in its order; 'm = true': one that only reads, of a region whose order is open. -/
theorem stillUpon_mono {P : Program} {o : Oper} {a : Act} {w : World} {f g : Act → Prop} (h : ∀ a, f a → g a) : ∀ r, o.stillUpon P a w f r → o.stillUpon P a w g r := fun r hr => by
  unfold Oper.stillUpon at *
  split at hr
  · exact ⟨hr.1, h _ hr.2⟩
  · exact ⟨hr.1, h _ hr.2⟩
  · obtain ⟨h1, v, h2, h3⟩ := hr
    exact ⟨h1, v, h2, h _ h3⟩
  · exact hr.elim
theorem wpStill_mono {P : Program} {ops : Array Oper} {w : World} {Q Q' : Act → Prop} (h : ∀ a, Q a → Q' a) : ∀ (l : List Oper) (a : Act), wpStill P ops w Q l a → wpStill P ops w Q' l a
  | [], a, x => h a x
  | o :: l, a, x => by
    unfold wpStill at *
    split
    · rename_i hw
      rw [if_pos hw] at x
      exact stillUpon_mono (fun a' => wpStill_mono h l a') _ x
    · rename_i hw
      rw [if_neg hw] at x
      exact wpStill_mono h l _ x
def noCall (o : Oper) : Bool := match o.op with | .call c => (match c.callee with | .builtin _ => true | _ => false) | _ => true
structure WL (P : Program) (n : Nat) (B : World) (I : List Nat) (Γ : List (Nat × Obj)) (m : Bool) (ops : Array Oper) (l : List Oper) (Q : Post) (ρ : Env) : Prop where
  out : ∀ a, a.defers = [] → a.tmps.size = n → envOf a = ρ →
    match m with
    | false => ∀ w, St B I Γ w → wpList P ops (lift n Q) l a w
    | true => wpQuiet P ops (St B I Γ) (fun a' => ∀ w', St B I Γ w' → lift n Q .normal a' w') l a ∧
        (l.all noCall = true → ∀ w, St B I Γ w → wpStill P ops w (fun a' => ∀ w', St B I Γ w' → lift n Q .normal a' w') l a)
/-- The end of a piece. -/
structure Fin (B : World) (I : List Nat) (Γ : List (Nat × Obj)) (e : Exit) (ρ : Env) (Q : Post) : Prop where
  out : ∀ w, St B I Γ w → Q e ρ w
def thenQ (P : Program) (n : Nat) (y : Code) (Q : Post) : Post := fun e ρ w =>
  match e with
  | .normal => ∀ a, a.defers = [] → a.tmps.size = n → envOf a = ρ → y.wp P (lift n Q) a w
  | e => Q e ρ w
def blockQ (id : Nat) (Q : Post) : Post := fun e ρ w =>
  match e with
  | .exit id' => if id' = id then Q .normal ρ w else Q (.exit id') ρ w
  | e => Q e ρ w
def loopQ (R : Env → World → Prop) (Q : Post) : Post := fun e ρ w =>
  match e with
  | .normal => R ρ w
  | e => Q e ρ w

section rules
variable {P : Program} {n : Nat} {B : World} {I : List Nat} {Γ : List (Nat × Obj)} {Q : Post} {ρ : Env}

theorem WP.seq {x y : Code} (h : WP P n B I Γ x (thenQ P n y Q) ρ) : WP P n B I Γ (.seq x y) Q ρ := by
  refine ⟨fun a w h1 h2 h3 h4 => ?_⟩
  refine wp_seq (wp_mono (h.out a w h1 h2 h3 h4) ?_)
  rintro e a' w' ⟨k1, k2, k3⟩
  cases e with
  | normal => exact k3 a' k1 k2 rfl
  | exit id => exact ⟨k1, k2, k3⟩
  | goto l => exact ⟨k1, k2, k3⟩
  | ret => exact ⟨k1, k2, k3⟩
  | panic ch => exact ⟨k1, k2, k3⟩
  | outgrown => exact ⟨k1, k2, k3⟩

theorem WP.skip (h : Fin B I Γ .normal ρ Q) : WP P n B I Γ .skip Q ρ := ⟨fun _ w h1 h2 h3 h4 => wp_skip ⟨h1, h2, h3 ▸ h.out w h4⟩⟩
theorem WP.label {l : Nat} (h : Fin B I Γ .normal ρ Q) : WP P n B I Γ (.label l) Q ρ := ⟨fun _ w h1 h2 h3 h4 => wp_label ⟨h1, h2, h3 ▸ h.out w h4⟩⟩
theorem WP.exit {id : Nat} (h : Fin B I Γ (.exit id) ρ Q) : WP P n B I Γ (.exit id) Q ρ := ⟨fun _ w h1 h2 h3 h4 => wp_exit ⟨h1, h2, h3 ▸ h.out w h4⟩⟩
theorem WP.ret (h : Fin B I Γ .ret ρ Q) : WP P n B I Γ .ret Q ρ := ⟨fun _ w h1 h2 h3 h4 => wp_ret ⟨h1, h2, h3 ▸ h.out w h4⟩⟩
theorem WP.block {id : Nat} {c : Code} (h : WP P n B I Γ c (blockQ id Q) ρ) : WP P n B I Γ (.block id c) Q ρ := by
  refine ⟨fun a w h1 h2 h3 h4 => ?_⟩
  refine wp_block (wp_mono (h.out a w h1 h2 h3 h4) ?_)
  rintro e a' w' ⟨k1, k2, k3⟩
  cases e with
  | exit id' =>
    simp only [Exit.inBlock]
    simp only [blockQ] at k3
    split
    · rename_i he; rw [if_pos he] at k3; exact ⟨k1, k2, k3⟩
    · rename_i he; rw [if_neg he] at k3; exact ⟨k1, k2, k3⟩
  | normal => exact ⟨k1, k2, k3⟩
  | goto l => exact ⟨k1, k2, k3⟩
  | ret => exact ⟨k1, k2, k3⟩
  | panic ch => exact ⟨k1, k2, k3⟩
  | outgrown => exact ⟨k1, k2, k3⟩
theorem WP.region {id : Nat} {l : List Oper} (h : WL P n B I Γ false l.toArray l Q ρ) : WP P n B I Γ (.region id l.toArray false) Q ρ :=
  ⟨fun a w h1 h2 h3 h4 => wp_region_lit (h.out a h1 h2 h3 w h4)⟩
/-- A region whose order is open, all of whose operations only read. -/
theorem WP.regionQ {id : Nat} {l : List Oper} (hm : P.follows .mixedOrders = true) (hB : Region.lexB .any l.toArray = true) (h : WL P n B I Γ true l.toArray l Q ρ) : WP P n B I Γ (.region id l.toArray true) Q ρ :=
  ⟨fun a w h1 h2 h3 h4 => wp_region_quiet (C := St B I Γ) hm hB (h4.drew _ (Nat.le_succ _)) (by simpa using (h.out a h1 h2 h3).1)⟩
/-- What is left of a region whose head only reads: in its one order. -/
def tailQ (P : Program) (n : Nat) (ops : Array Oper) (tl : List Oper) (Q : Post) : Post := fun e ρ w =>
  match e with
  | .normal => ∀ a, a.defers = [] → a.tmps.size = n → envOf a = ρ → wpList P ops (lift n Q) tl a w
  | _ => False
theorem Fin.tail {ops : Array Oper} {tl : List Oper} (h : WL P n B I Γ false ops tl Q ρ) : Fin B I Γ .normal ρ (tailQ P n ops tl Q) := ⟨fun w hw a h1 h2 h3 => h.out a h1 h2 h3 w hw⟩
/-- A region whose order is open: N operations that read, no call among them; then a tail in one order. -/
theorem WP.regionT {id : Nat} {l hd tl : List Oper} (N : Nat) (hh : l.take N = hd) (ht : l.drop N = tl) (hm : P.follows .mixedOrders = true) (hB : Region.lexTailB .any l.toArray N = true) (hc : hd.all noCall = true)
    (h : WL P n B I Γ true l.toArray hd (tailQ P n l.toArray tl Q) ρ) : WP P n B I Γ (.region id l.toArray true) Q ρ :=
  ⟨fun a w h1 h2 h3 h4 => by
    have hw := h4.drew (w.drawn + 1) (Nat.le_succ _)
    refine wp_region_still_tail N hm hB ?_
    rw [hh, ht]
    have := (h.out a h1 h2 h3).2 hc _ hw
    exact wpStill_mono (fun a' ha' => by
      obtain ⟨k1, k2, k3⟩ := ha' _ hw
      exact k3 a' k1 k2 rfl) _ _ this⟩
theorem WP.cond_true {c : Operand} {x y : Code} (hc : ev ρ c = .bool true) (h : WP P n B I Γ x Q ρ) : WP P n B I Γ (.cond c x y) Q ρ :=
  ⟨fun a w h1 h2 h3 h4 => wp_cond_true (by rw [eval_env, h3, hc]) (h.out a w h1 h2 h3 h4)⟩
theorem WP.cond_false {c : Operand} {x y : Code} (hc : ev ρ c = .bool false) (h : WP P n B I Γ y Q ρ) : WP P n B I Γ (.cond c x y) Q ρ :=
  ⟨fun a w h1 h2 h3 h4 => wp_cond_false (by rw [eval_env, h3, hc]) (h.out a w h1 h2 h3 h4)⟩
theorem WP.cond_dec {c : Operand} {x y : Code} {p : Prop} [Decidable p] (hc : ev ρ c = .bool (decide p)) (ht : p → WP P n B I Γ x Q ρ) (hf : ¬ p → WP P n B I Γ y Q ρ) : WP P n B I Γ (.cond c x y) Q ρ := by
  by_cases hp : p
  · exact WP.cond_true (by simp [hc, hp]) (ht hp)
  · exact WP.cond_false (by simp [hc, hp]) (hf hp)
theorem WP.cond_bool {c : Operand} {x y : Code} {b : Bool} (hc : ev ρ c = .bool b) (ht : b = true → WP P n B I Γ x Q ρ) (hf : b = false → WP P n B I Γ y Q ρ) : WP P n B I Γ (.cond c x y) Q ρ := by
  cases b
  · exact WP.cond_false hc (hf rfl)
  · exact WP.cond_true hc (ht rfl)

theorem WP.rebase {c : Code} (h : ∀ w, St B I Γ w → WP P n w (keys Γ) Γ c Q ρ) : WP P n B I Γ c Q ρ :=
  ⟨fun a w h1 h2 h3 h4 => (h w h4).out a w h1 h2 h3 h4.rebase⟩
theorem WP.drop {Γ' : List (Nat × Obj)} {c : Code} (hs : Γ'.Sublist Γ) (h : WP P n B I Γ' c Q ρ) : WP P n B I Γ c Q ρ :=
  ⟨fun a w h1 h2 h3 h4 => h.out a w h1 h2 h3 (h4.drop hs)⟩
theorem WP.perm {Γ' : List (Nat × Obj)} {c : Code} (hs : Γ.Perm Γ') (h : WP P n B I Γ' c Q ρ) : WP P n B I Γ c Q ρ :=
  ⟨fun a w h1 h2 h3 h4 => h.out a w h1 h2 h3 (h4.perm hs)⟩
theorem WL.perm {Γ' : List (Nat × Obj)} {ops : Array Oper} {l : List Oper} (hs : Γ.Perm Γ') (h : WL P n B I Γ' false ops l Q ρ) : WL P n B I Γ false ops l Q ρ :=
  ⟨fun a h1 h2 h3 w h4 => h.out a h1 h2 h3 w (h4.perm hs)⟩
theorem WL.drop {Γ' : List (Nat × Obj)} {ops : Array Oper} {l : List Oper} (hs : Γ'.Sublist Γ) (h : WL P n B I Γ' false ops l Q ρ) : WL P n B I Γ false ops l Q ρ :=
  ⟨fun a h1 h2 h3 w h4 => h.out a h1 h2 h3 w (h4.drop hs)⟩
theorem WL.rebase {ops : Array Oper} {l : List Oper} (h : ∀ w, St B I Γ w → WL P n w (keys Γ) Γ false ops l Q ρ) : WL P n B I Γ false ops l Q ρ :=
  ⟨fun a h1 h2 h3 w h4 => (h w h4).out a h1 h2 h3 w h4.rebase⟩

theorem WL.nil {m : Bool} {ops : Array Oper} (h : Fin B I Γ .normal ρ Q) : WL P n B I Γ m ops [] Q ρ :=
  ⟨fun _ h1 h2 h3 => match m with
    | false => fun w h4 => ⟨h1, h2, h3 ▸ h.out w h4⟩
    | true => ⟨wpQuiet_nil fun w h4 => ⟨h1, h2, h3 ▸ h.out w h4⟩, fun _ _ _ => wpStill_nil fun w h4 => ⟨h1, h2, h3 ▸ h.out w h4⟩⟩⟩

theorem Fin.drop {Γ' : List (Nat × Obj)} {e : Exit} (hs : Γ'.Sublist Γ) (h : Fin B I Γ' e ρ Q) : Fin B I Γ e ρ Q := ⟨fun w hw => h.out w (hw.drop hs)⟩
theorem Fin.perm {Γ' : List (Nat × Obj)} {e : Exit} (hs : Γ.Perm Γ') (h : Fin B I Γ' e ρ Q) : Fin B I Γ e ρ Q := ⟨fun w hw => h.out w (hw.perm hs)⟩
theorem Fin.then_normal {y : Code} (h : WP P n B I Γ y Q ρ) : Fin B I Γ .normal ρ (thenQ P n y Q) := ⟨fun w hw a h1 h2 h3 => h.out a w h1 h2 h3 hw⟩
theorem Fin.then_exit {y : Code} {id : Nat} (h : Fin B I Γ (.exit id) ρ Q) : Fin B I Γ (.exit id) ρ (thenQ P n y Q) := ⟨h.out⟩
theorem Fin.then_ret {y : Code} (h : Fin B I Γ .ret ρ Q) : Fin B I Γ .ret ρ (thenQ P n y Q) := ⟨h.out⟩
theorem Fin.block_normal {id : Nat} (h : Fin B I Γ .normal ρ Q) : Fin B I Γ .normal ρ (blockQ id Q) := ⟨h.out⟩
theorem Fin.block_ret {id : Nat} (h : Fin B I Γ .ret ρ Q) : Fin B I Γ .ret ρ (blockQ id Q) := ⟨h.out⟩
theorem Fin.block_hit {id : Nat} (h : Fin B I Γ .normal ρ Q) : Fin B I Γ (.exit id) ρ (blockQ id Q) := ⟨fun w hw => by
  show (if id = id then _ else _); rw [if_pos rfl]; exact h.out w hw⟩
theorem Fin.block_miss {id id' : Nat} (hne : Nat.beq id' id = false) (h : Fin B I Γ (.exit id') ρ Q) : Fin B I Γ (.exit id') ρ (blockQ id Q) := ⟨fun w hw => by
  have : id' ≠ id := fun e => by subst e; simp at hne
  show (if id' = id then _ else _); rw [if_neg this]; exact h.out w hw⟩
theorem Fin.loop_exit {R : Env → World → Prop} {id : Nat} (h : Fin B I Γ (.exit id) ρ Q) : Fin B I Γ (.exit id) ρ (loopQ R Q) := ⟨h.out⟩
theorem Fin.loop_ret {R : Env → World → Prop} (h : Fin B I Γ .ret ρ Q) : Fin B I Γ .ret ρ (loopQ R Q) := ⟨h.out⟩
theorem Fin.loop_normal {R : Env → World → Prop} (h : ∀ w, St B I Γ w → R ρ w) : Fin B I Γ .normal ρ (loopQ R Q) := ⟨h⟩

/-! ## Loops -/
def hav (ρ : Env) (T : List Nat) (j : Env) : Env := fun t => bif T.elem t then j t else ρ t
def updL (ρ : Env) : List (Nat × Value) → Env
  | [] => ρ
  | (t, v) :: l => upd (updL ρ l) t v
def Vals (ρ : Env) : List (Nat × Value) → Prop
  | [] => True
  | (t, v) :: l => ρ t = v ∧ Vals ρ l
/-- 'ρ'' is 'ρ' but for the slots 'T'. -/
def Agree (T : List Nat) (ρ ρ' : Env) : Prop := ∀ t, T.elem t = false → ρ' t = ρ t
theorem Agree.refl (T : List Nat) (ρ : Env) : Agree T ρ ρ := fun _ _ => rfl
theorem Agree.upd {T : List Nat} {ρ ρ' : Env} {d : Nat} {v : Value} (hd : T.elem d = true) (h : Agree T ρ ρ') : Agree T ρ (Pen.upd ρ' d v) := fun t ht => by
  rw [upd_ne _ _ (fun e => by subst e; rw [hd] at ht; cases ht)]; exact h t ht
theorem Agree.hav {T S : List Nat} {ρ ρ' j : Env} (hs : (S.all fun t => T.elem t) = true) (h : Agree T ρ ρ') : Agree T ρ (Pen.hav ρ' S j) := fun t ht => by
  have : S.elem t = false := by
    cases he : S.elem t
    · rfl
    · rw [List.all_eq_true] at hs
      rw [hs t (by simpa using he)] at ht; cases ht
  simp only [Pen.hav, this, cond_false]; exact h t ht
theorem updL_vals {ρ : Env} {l : List (Nat × Value)} (h : Vals ρ l) : updL ρ l = ρ := by
  induction l with
  | nil => rfl
  | cons p l ih => simp only [updL, ih h.2]; rw [← h.1, upd_self]
theorem hav_agree {T : List Nat} {ρ ρ' : Env} (h : Agree T ρ ρ') : hav ρ T ρ' = ρ' := by
  funext t
  simp only [hav]
  cases he : T.elem t
  · simp only [cond_false]; exact (h t he).symm
  · rfl

/-- A loop whose base world stays: 'T': the slots that its body writes; at the head of a round: the slots 'vals x', the memory 'M x'. -/
theorem WP.loop {c : Code} {α : Type} (T : List Nat) (vals : α → List (Nat × Value)) (M : α → List (Nat × Obj)) (inv : α → Prop) (μ : α → Nat) (x₀ : α)
    (hi : inv x₀) (hM : Γ = M x₀) (hv : Vals ρ (vals x₀))
    (round : ∀ x j, inv x → WP P n B I (M x) c (loopQ (fun ρ' w' => ∃ x', inv x' ∧ μ x' < μ x ∧ Agree T ρ ρ' ∧ Vals ρ' (vals x') ∧ St B I (M x') w') Q) (updL (hav ρ T j) (vals x))) :
    WP P n B I Γ (.loop c) Q ρ := by
  refine ⟨fun a w h1 h2 h3 h4 => ?_⟩
  refine wp_loop_ghost (fun k a w => ∃ x, μ x = k ∧ inv x ∧ a.defers = [] ∧ a.tmps.size = n ∧ Agree T ρ (envOf a) ∧ Vals (envOf a) (vals x) ∧ St B I (M x) w) (μ x₀)
    ⟨x₀, rfl, hi, h1, h2, h3 ▸ Agree.refl _ _, h3 ▸ hv, hM ▸ h4⟩ ?_
  rintro k a w ⟨x, rfl, hx, h1, h2, h3, h4, h5⟩
  have hr := (round x (envOf a) hx).out a w h1 h2 (by rw [hav_agree h3, updL_vals h4]) h5
  refine wp_mono hr ?_
  rintro e a' w' ⟨k1, k2, k3⟩
  cases e with
  | normal =>
    obtain ⟨x', i1, i2, i3, i4, i5⟩ := k3
    exact ⟨μ x', i2, x', rfl, i1, k1, k2, i3, i4, i5⟩
  | exit id => exact ⟨k1, k2, k3⟩
  | goto l => exact ⟨k1, k2, k3⟩
  | ret => exact ⟨k1, k2, k3⟩
  | panic ch => exact ⟨k1, k2, k3⟩
  | outgrown => exact ⟨k1, k2, k3⟩

/-- A loop whose base moves: each round may lay what it has made into the base. 'base x': the base at the head of a round; it must be reached from 'B' (the caller's fact, 'reach'). -/
theorem WP.loopB {c : Code} {α : Type} (T : List Nat) (vals : α → List (Nat × Value)) (base : α → World) (J : α → List Nat) (M : α → List (Nat × Obj)) (inv : α → Prop) (μ : α → Nat)
    (start : ∀ w, St B I Γ w → ∃ x₀, inv x₀ ∧ Vals ρ (vals x₀) ∧ St (base x₀) (J x₀) (M x₀) w)
    (round : ∀ x j, inv x → WP P n (base x) (J x) (M x) c (loopQ (fun ρ' w' => ∃ x', inv x' ∧ μ x' < μ x ∧ Agree T ρ ρ' ∧ Vals ρ' (vals x') ∧ St (base x') (J x') (M x') w') Q) (updL (hav ρ T j) (vals x))) :
    WP P n B I Γ (.loop c) Q ρ := by
  refine ⟨fun a w h1 h2 h3 h4 => ?_⟩
  obtain ⟨x₀, hi, hv, hM⟩ := start w h4
  refine wp_loop_ghost (fun k a w => ∃ x, μ x = k ∧ inv x ∧ a.defers = [] ∧ a.tmps.size = n ∧ Agree T ρ (envOf a) ∧ Vals (envOf a) (vals x) ∧ St (base x) (J x) (M x) w) (μ x₀)
    ⟨x₀, rfl, hi, h1, h2, h3 ▸ Agree.refl _ _, h3 ▸ hv, hM⟩ ?_
  rintro k a w ⟨x, rfl, hx, h1, h2, h3, h4, h5⟩
  have hr := (round x (envOf a) hx).out a w h1 h2 (by rw [hav_agree h3, updL_vals h4]) h5
  refine wp_mono hr ?_
  rintro e a' w' ⟨k1, k2, k3⟩
  cases e with
  | normal =>
    obtain ⟨x', i1, i2, i3, i4, i5⟩ := k3
    exact ⟨μ x', i2, x', rfl, i1, k1, k2, i3, i4, i5⟩
  | exit id => exact ⟨k1, k2, k3⟩
  | goto l => exact ⟨k1, k2, k3⟩
  | ret => exact ⟨k1, k2, k3⟩
  | panic ch => exact ⟨k1, k2, k3⟩
  | outgrown => exact ⟨k1, k2, k3⟩

/-- The ways through a piece meet again: 'T': the slots that it writes; what is known behind it: the slots 'vals x', the memory 'M x', for some x with 'inv x'. -/
theorem WP.cut {x y : Code} {α : Type} (T : List Nat) (vals : α → List (Nat × Value)) (M : α → List (Nat × Obj)) (inv : α → Prop)
    (h : WP P n B I Γ x (loopQ (fun ρ' w' => ∃ z, inv z ∧ Agree T ρ ρ' ∧ Vals ρ' (vals z) ∧ St B I (M z) w') Q) ρ)
    (h' : ∀ z j, inv z → WP P n B I (M z) y Q (updL (hav ρ T j) (vals z))) : WP P n B I Γ (.seq x y) Q ρ := by
  refine WP.seq ⟨fun a w h1 h2 h3 h4 => wp_mono (h.out a w h1 h2 h3 h4) ?_⟩
  rintro e a' w' ⟨k1, k2, k3⟩
  cases e with
  | normal =>
    obtain ⟨z, i1, i2, i3, i4⟩ := k3
    refine ⟨k1, k2, fun a'' l1 l2 l3 => ?_⟩
    exact (h' z (envOf a') i1).out a'' w' l1 l2 (by rw [l3, hav_agree i2, updL_vals i3]) i4
  | exit id => exact ⟨k1, k2, k3⟩
  | goto l => exact ⟨k1, k2, k3⟩
  | ret => exact ⟨k1, k2, k3⟩
  | panic ch => exact ⟨k1, k2, k3⟩
  | outgrown => exact ⟨k1, k2, k3⟩
end rules

/-! ## A function -/
/-- Function 'f' called in the world 'w': it returns a value and leaves memory of which 'R' holds. -/
structure Does (P : Program) (f : FuncId) (args : Array Value) (I : List Nat) (w : World) (R : Value → List (Nat × Obj) → Prop) : Prop where
  out : Calls P f args w fun e w' => ∃ v Γ, e = .returned v ∧ R v Γ ∧ St w I Γ w'
theorem Does.mono {P : Program} {f : FuncId} {args : Array Value} {I : List Nat} {w : World} {R R' : Value → List (Nat × Obj) → Prop} (h : Does P f args I w R) (hr : ∀ v Γ, R v Γ → R' v Γ) : Does P f args I w R' :=
  ⟨Calls.mono h.out fun _ _ ⟨v, Γ, he, hR, hs⟩ => ⟨v, Γ, he, hr _ _ hR, hs⟩⟩

/-- What the results' list reads. -/
def ResVals (P : Program) (fn : Func) (tmps : Array Value) (w : World) (v : Value) : Prop := (results fn tmps).run P w = .ok v w
def retQ (P : Program) (fn : Func) (B : World) (I : List Nat) (R : Value → List (Nat × Obj) → Prop) : Post := fun e ρ w =>
  match e with
  | .normal | .ret => ∃ v Γ, (∀ tmps : Array Value, (fun t => tmps.getD t undef) = ρ → ResVals P fn tmps w v) ∧ R v Γ ∧ St B I Γ w
  | _ => False

def argE (args : Array Value) : Env := fun t => args.getD t undef

theorem Does.enter {P : Program} {f : FuncId} {fn : Func} {c : Code} {n : Nat} {args : Array Value} {I : List Nat} {Γ : List (Nat × Obj)} {w : World} {R : Value → List (Nat × Obj) → Prop}
    (hf : P.funcs[f]? = some fn) (hb : fn.body = some c) (hn : fn.ntmps = n) (ha : Nat.ble args.size n = true) (hs : St w I Γ w)
    (h : WP P n w I Γ c (retQ P fn w I R) (argE args)) : Does P f args I w R := by
  subst hn
  refine ⟨?_⟩
  refine calls_of_wp hf hb (wp_mono (h.out _ w rfl ?_ ?_ hs) ?_)
  · have := Nat.le_of_ble_eq_true ha; simp; omega
  · funext t
    simp only [envOf, argE, Array.getD_eq_getD_getElem?]
    rcases Nat.lt_or_ge t args.size with hl | hl
    · rw [Array.getElem?_append_left hl]
    · rw [Array.getElem?_append_right hl, Array.getElem?_eq_none hl, Array.getElem?_replicate]
      split <;> rfl
  · rintro e a' w' ⟨k1, _, k3⟩
    cases e with
    | normal => obtain ⟨v, Γ', h1, h2, h3⟩ := k3; exact ⟨k1, v, h1 a'.tmps rfl, v, Γ', rfl, h2, h3⟩
    | ret => obtain ⟨v, Γ', h1, h2, h3⟩ := k3; exact ⟨k1, v, h1 a'.tmps rfl, v, Γ', rfl, h2, h3⟩
    | exit id => exact k3.elim
    | goto l => exact k3.elim
    | panic ch => exact k3.elim
    | outgrown => exact k3.elim

end Go.Pen
end
section
/- The pen's rules, one for each plain operation: registers, numbers, guards, calls. -/
set_option linter.unusedVariables false
set_option linter.unusedSimpArgs false
namespace Go.Pen

theorem blt_lt {d n : Nat} (h : Nat.blt d n = true) : d < n := Nat.le_of_ble_eq_true h

section
variable {P : Program} {n : Nat} {B : World} {I : List Nat} {Γ : List (Nat × Obj)} {Q : Post} {ρ : Env} {ops : Array Oper} {rest : List Oper}
  {d : Nat} {ty : TypeId} {pos : String} {af : Array Edge} {m : Bool} {K : List (Nat × Obj) → Env → Prop}

/-- One operation: whatever it does, 'K' holds of the memory and the slots behind it. -/
structure OP (P : Program) (n : Nat) (B : World) (I : List Nat) (Γ : List (Nat × Obj)) (m : Bool) (ops : Array Oper) (o : Oper) (K : List (Nat × Obj) → Env → Prop) (ρ : Env) : Prop where
  yes : ∀ a, a.defers = [] → a.tmps.size = n → envOf a = ρ → Region.wanted o (yielded ops a.tmps) = true →
    match m with
    | false => ∀ w, St B I Γ w → ∀ (K' : Act → World → Prop) (Q' : Exit → Act → World → Prop), (∀ a' w' Γ', a'.defers = [] → a'.tmps.size = n → St B I Γ' w' → K Γ' (envOf a') → K' a' w') → o.wp P a w K' Q'
    | true => (∀ (K' : Act → Prop), (∀ a', a'.defers = [] → a'.tmps.size = n → K Γ (envOf a') → K' a') → o.quiet P a (St B I Γ) K') ∧
        (noCall o = true → ∀ w, St B I Γ w → ∀ (K' : Act → Prop), (∀ a', a'.defers = [] → a'.tmps.size = n → K Γ (envOf a') → K' a') → o.still P a w K') ∧
        (noCall o = true → ∃ v, (∀ w, St B I Γ w → (execOp a.eval o).run P w = .ok (.value v) w) ∧ ∀ (K' : Act → Prop), (∀ a', a'.defers = [] → a'.tmps.size = n → K Γ (envOf a') → K' a') → K' (a.put o.dst v))
  no : ∀ a, a.defers = [] → a.tmps.size = n → envOf a = ρ → Region.wanted o (yielded ops a.tmps) = false → K Γ (envOf (a.put o.dst undef))

theorem WL.cons {o : Oper} (h : OP P n B I Γ m ops o (fun Γ' ρ' => WL P n B I Γ' m ops rest Q ρ') ρ) : WL P n B I Γ m ops (o :: rest) Q ρ := by
  refine ⟨fun a h1 h2 h3 => ?_⟩
  cases m with
  | false =>
    intro w h4
    refine wpList_step fun K hK => ?_
    split
    · rename_i hw
      exact h.yes a h1 h2 h3 hw w h4 K _ fun a' w' Γ' k1 k2 k3 k4 => hK _ _ (k4.out a' k1 k2 rfl w' k3)
    · rename_i hw
      have hno := h.no a h1 h2 h3 (by simpa using hw)
      exact hK _ _ (hno.out _ (by rw [put_defers]; exact h1) (by rw [put_size]; exact h2) rfl w h4)
  | true =>
    refine ⟨wpQuiet_step fun K hK => ?_, fun hnc w hw0 => wpStill_step fun K hK => ?_⟩
    · split
      · rename_i hw
        exact (h.yes a h1 h2 h3 hw).1 K fun a' k1 k2 k4 => hK _ (k4.out a' k1 k2 rfl).1
      · rename_i hw
        have hno := h.no a h1 h2 h3 (by simpa using hw)
        exact hK _ (hno.out _ (by rw [put_defers]; exact h1) (by rw [put_size]; exact h2) rfl).1
    · rw [List.all_cons, Bool.and_eq_true] at hnc
      split
      · rename_i hw
        exact (h.yes a h1 h2 h3 hw).2.1 hnc.1 w hw0 K fun a' k1 k2 k4 => hK _ ((k4.out a' k1 k2 rfl).2 hnc.2 w hw0)
      · rename_i hw
        have hno := h.no a h1 h2 h3 (by simpa using hw)
        exact hK _ ((hno.out _ (by rw [put_defers]; exact h1) (by rw [put_size]; exact h2) rfl).2 hnc.2 w hw0)

/-- Whatever order is picked of those that are still open. -/
structure WA (P : Program) (n : Nat) (B : World) (I : List Nat) (Γ : List (Nat × Obj)) (ops : Array Oper) (fuel : Nat) (listed : Array Bool) (Q : Post) (ρ : Env) : Prop where
  out : ∀ a, a.defers = [] → a.tmps.size = n → envOf a = ρ → ∀ w, St B I Γ w → wpAny P .any ops (lift n Q) fuel listed a w
theorem WP.regionA {id : Nat} {l : List Oper} (hm : P.follows .mixedOrders = true) (h : WA P n B I Γ l.toArray l.length (Array.replicate l.length false) Q ρ) : WP P n B I Γ (.region id l.toArray true) Q ρ :=
  ⟨fun a w h1 h2 h3 h4 => wp_region_any hm (by simpa using h.out a h1 h2 h3 _ (h4.drew (w.drawn + 1) (Nat.le_succ _)))⟩
theorem WA.done {fuel : Nat} {listed : Array Bool} (hr : Region.ready .any ops listed = []) (h : Fin B I Γ .normal ρ Q) : WA P n B I Γ ops fuel listed Q ρ :=
  ⟨fun a h1 h2 h3 w h4 => by
    cases fuel with
    | zero => exact ⟨hr, h1, h2, h3 ▸ h.out w h4⟩
    | succ k => exact ⟨fun _ => ⟨h1, h2, h3 ▸ h.out w h4⟩, fun i hi => by rw [hr] at hi; cases hi⟩⟩
/-- Those that may come up, one after the other. -/
theorem WA.step {fuel : Nat} {listed : Array Bool} {rs : List Nat} (hr : Region.ready .any ops listed = rs) (hne : rs.isEmpty = false)
    (h : ∀ i ∈ rs, ∃ o, ops[i]? = some o ∧ OP P n B I Γ false ops o (fun Γ' ρ' => WA P n B I Γ' ops fuel (listed.setIfInBounds i true) Q ρ') ρ) : WA P n B I Γ ops (fuel + 1) listed Q ρ :=
  ⟨fun a h1 h2 h3 w h4 => by
    refine ⟨fun h0 => ?_, fun i hi => ?_⟩
    · rw [hr] at h0; subst h0; cases hne
    · rw [hr] at hi
      obtain ⟨o, ho, hop⟩ := h i hi
      unfold wpOp
      rw [ho]
      dsimp only
      split
      · rename_i hw
        exact .inl (hop.yes a h1 h2 h3 hw w h4 _ _ fun a' w' Γ' k1 k2 k3 k4 => k4.out a' k1 k2 rfl w' k3)
      · rename_i hw
        have hno := hop.no a h1 h2 h3 (by simpa using hw)
        exact hno.out _ (by rw [put_defers]; exact h1) (by rw [put_size]; exact h2) rfl w h4⟩
theorem all_nil {p : Nat → Prop} : ∀ i ∈ ([] : List Nat), p i := fun i hi => by cases hi
theorem all_cons {p : Nat → Prop} {i : Nat} {l : List Nat} (h : p i) (h' : ∀ j ∈ l, p j) : ∀ j ∈ i :: l, p j := fun j hj => by
  rcases List.mem_cons.1 hj with rfl | hj
  · exact h
  · exact h' j hj

/-- One operation without a guard: whatever it yields, and however the world turns. -/
theorem OP.gen {op : Op} (hd : Nat.blt d n = true)
    (h : ∀ w, St B I Γ w → ∃ v Γ' w', (execOp (ev ρ) ⟨some d, op, ty, pos, af, none⟩).run P w = .ok (.value v) w' ∧ St B I Γ' w' ∧ K Γ' (upd ρ d v)) :
    OP P n B I Γ false ops ⟨some d, op, ty, pos, af, none⟩ K ρ where
  yes := fun a h1 h2 h3 _ w h4 K' Q' hK => by
    obtain ⟨v, Γ', w', hrun, hst, hwl⟩ := h w h4
    unfold Oper.wp
    rw [eval_env, h3, hrun]
    have hlt : d < a.tmps.size := by rw [h2]; exact blt_lt hd
    exact hK _ _ Γ' (by rw [put_defers]; exact h1) (by rw [put_size]; exact h2) hst (by show K Γ' (envOf (a.put (some d) v)); rw [env_put a d v hlt, h3]; exact hwl)
  no := fun a _ _ _ hw => by simp [Region.wanted] at hw

theorem OP.pure1 {op : Op} (v : Value) (hd : Nat.blt d n = true)
    (hrun : ∀ w, St B I Γ w → (execOp (ev ρ) ⟨some d, op, ty, pos, af, none⟩).run P w = .ok (.value v) w) (h : K Γ (upd ρ d v)) :
    OP P n B I Γ m ops ⟨some d, op, ty, pos, af, none⟩ K ρ := by
  cases m with
  | false => exact OP.gen hd fun w hw => ⟨v, Γ, w, hrun w hw, hw, h⟩
  | true =>
    refine ⟨fun a h1 h2 h3 _ => ⟨fun K' hK => ⟨v, fun w hw => ?_, ?_⟩, fun _ w hw K' hK => ?_, fun _ => ⟨v, fun w hw => ?_, fun K' hK => ?_⟩⟩, fun a _ _ _ hw => by simp [Region.wanted] at hw⟩
    · unfold Oper.quietAt
      rw [eval_env, h3, hrun w hw]
      exact ⟨rfl, rfl⟩
    · have hlt : d < a.tmps.size := by rw [h2]; exact blt_lt hd
      exact hK _ (by rw [put_defers]; exact h1) (by rw [put_size]; exact h2) (by show K Γ (envOf (a.put (some d) v)); rw [env_put a d v hlt, h3]; exact h)
    · have hlt : d < a.tmps.size := by rw [h2]; exact blt_lt hd
      unfold Oper.still
      rw [eval_env, h3, hrun w hw]
      exact ⟨rfl, hK _ (by rw [put_defers]; exact h1) (by rw [put_size]; exact h2) (by show K Γ (envOf (a.put (some d) v)); rw [env_put a d v hlt, h3]; exact h)⟩
    · rw [eval_env, h3, hrun w hw]
    · have hlt : d < a.tmps.size := by rw [h2]; exact blt_lt hd
      exact hK _ (by rw [put_defers]; exact h1) (by rw [put_size]; exact h2) (by show K Γ (envOf (a.put (some d) v)); rw [env_put a d v hlt, h3]; exact h)

/-- An operation that yields nothing (a store). -/
theorem OP.skip0 {op : Op} {Γ' : List (Nat × Obj)}
    (h : ∀ w, St B I Γ w → ∃ w', (execOp (ev ρ) ⟨none, op, ty, pos, af, none⟩).run P w = .ok .skip w' ∧ St B I Γ' w') (h' : K Γ' ρ) :
    OP P n B I Γ false ops ⟨none, op, ty, pos, af, none⟩ K ρ where
  yes := fun a h1 h2 h3 _ w h4 K' Q' hK => by
    obtain ⟨w', hrun, hst⟩ := h w h4
    unfold Oper.wp
    rw [eval_env, h3, hrun]
    exact hK _ _ Γ' h1 h2 hst (by show K Γ' (envOf a); rw [h3]; exact h')
  no := fun a _ _ _ hw => by simp [Region.wanted] at hw

/-! guards -/
theorem yielded_env {a : Act} {j s : Nat} {b : Bool} (hj : (ops[j]?).bind (·.dst) = some s) (h : envOf a s = .bool b) : yielded ops a.tmps j = some b := by
  unfold yielded
  rw [hj]
  simp only [envOf, Array.getD_eq_getD_getElem?] at h
  cases hs : a.tmps[s]? with
  | none => rw [hs] at h; cases h
  | some v => rw [hs] at h; simp at h; subst h; simp [hs]

theorem OP.guard_yes {j s : Nat} {b : Bool} {op : Op} {dst : Option Nat} (hj : (ops[j]?).bind (·.dst) = some s) (hs : ρ s = .bool b)
    (h : OP P n B I Γ m ops ⟨dst, op, ty, pos, af, none⟩ K ρ) : OP P n B I Γ m ops ⟨dst, op, ty, pos, af, some (j, b)⟩ K ρ where
  yes := fun a h1 h2 h3 _ => h.yes a h1 h2 h3 rfl
  no := fun a h1 h2 h3 hw => by
    have hy := yielded_env (a := a) hj (h3 ▸ hs)
    simp [Region.wanted, hy] at hw
theorem OP.guard_no {j s : Nat} {b c : Bool} {op : Op} (hd : Nat.blt d n = true) (hj : (ops[j]?).bind (·.dst) = some s) (hs : ρ s = .bool c) (hc : (c == b) = false)
    (h : K Γ (upd ρ d undef)) : OP P n B I Γ m ops ⟨some d, op, ty, pos, af, some (j, b)⟩ K ρ where
  yes := fun a h1 h2 h3 hw => by
    have hy := yielded_env (a := a) hj (h3 ▸ hs)
    have w2 : Region.wanted ⟨some d, op, ty, pos, af, some (j, b)⟩ (yielded ops a.tmps) = false := by simpa [Region.wanted, hy] using hc
    rw [w2] at hw; cases hw
  no := fun a h1 h2 h3 _ => by
    have hlt : d < a.tmps.size := by rw [h2]; exact blt_lt hd
    show K Γ (envOf (a.put (some d) undef)); rw [env_put a d _ hlt, h3]; exact h
theorem OP.guard_no0 {j s : Nat} {b c : Bool} {op : Op} (hj : (ops[j]?).bind (·.dst) = some s) (hs : ρ s = .bool c) (hc : (c == b) = false)
    (h : K Γ ρ) : OP P n B I Γ m ops ⟨none, op, ty, pos, af, some (j, b)⟩ K ρ where
  yes := fun a h1 h2 h3 hw => by
    have hy := yielded_env (a := a) hj (h3 ▸ hs)
    have w2 : Region.wanted ⟨none, op, ty, pos, af, some (j, b)⟩ (yielded ops a.tmps) = false := by simpa [Region.wanted, hy] using hc
    rw [w2] at hw; cases hw
  no := fun a h1 h2 h3 _ => by show K Γ (envOf a); rw [h3]; exact h
/-- The test itself was passed over. -/
theorem OP.guard_un {j s : Nat} {b : Bool} {op : Op} (hd : Nat.blt d n = true) (hj : (ops[j]?).bind (·.dst) = some s) (hs : ρ s = undef)
    (h : K Γ (upd ρ d undef)) : OP P n B I Γ m ops ⟨some d, op, ty, pos, af, some (j, b)⟩ K ρ where
  yes := fun a h1 h2 h3 hw => by
    have hy : yielded ops a.tmps j = none := by
      unfold yielded
      rw [hj]
      have hs' : envOf a s = undef := h3 ▸ hs
      simp only [envOf, Array.getD_eq_getD_getElem?] at hs'
      cases hq : a.tmps[s]? with
      | none => simp [hq]
      | some v => rw [hq] at hs'; simp at hs'; subst hs'; simp [hq, undef]
    simp [Region.wanted, hy] at hw
  no := fun a h1 h2 h3 _ => by
    have hlt : d < a.tmps.size := by rw [h2]; exact blt_lt hd
    show K Γ (envOf (a.put (some d) undef)); rw [env_put a d _ hlt, h3]; exact h
/-- A test that is not known yet: both ways. -/
theorem OP.guard_dec {j s : Nat} {b : Bool} {op : Op} {dst : Option Nat} {p : Prop} [Decidable p] (hj : (ops[j]?).bind (·.dst) = some s) (hs : ρ s = .bool (decide p))
    (ht : p → OP P n B I Γ m ops ⟨dst, op, ty, pos, af, some (j, b)⟩ K (upd ρ s (.bool true)))
    (hf : ¬ p → OP P n B I Γ m ops ⟨dst, op, ty, pos, af, some (j, b)⟩ K (upd ρ s (.bool false))) :
    OP P n B I Γ m ops ⟨dst, op, ty, pos, af, some (j, b)⟩ K ρ := by
  have _ := hj
  by_cases hp : p
  · have e : upd ρ s (.bool true) = ρ := by have := upd_self ρ s; rwa [hs, decide_eq_true hp] at this
    exact e ▸ ht hp
  · have e : upd ρ s (.bool false) = ρ := by have := upd_self ρ s; rwa [hs, decide_eq_false hp] at this
    exact e ▸ hf hp
theorem OP.guard_bool {j s : Nat} {b c : Bool} {op : Op} {dst : Option Nat} (hj : (ops[j]?).bind (·.dst) = some s) (hs : ρ s = .bool c)
    (ht : c = true → OP P n B I Γ m ops ⟨dst, op, ty, pos, af, some (j, b)⟩ K (upd ρ s (.bool true)))
    (hf : c = false → OP P n B I Γ m ops ⟨dst, op, ty, pos, af, some (j, b)⟩ K (upd ρ s (.bool false))) :
    OP P n B I Γ m ops ⟨dst, op, ty, pos, af, some (j, b)⟩ K ρ := by
  have _ := hj
  cases c
  · have e : upd ρ s (.bool false) = ρ := by have := upd_self ρ s; rwa [hs] at this
    exact e ▸ hf rfl
  · have e : upd ρ s (.bool true) = ρ := by have := upd_self ρ s; rwa [hs] at this
    exact e ▸ ht rfl

/-! registers -/
theorem OP.move {x : Operand} {v : Value} (hd : Nat.blt d n = true) (hv : ev ρ x = v) (h : K Γ (upd ρ d v)) : OP P n B I Γ m ops ⟨some d, .move x, ty, pos, af, none⟩ K ρ :=
  OP.pure1 _ hd (fun _ _ => by subst hv; rfl) h
theorem OP.assign {x : Operand} {v : Value} (hd : Nat.blt d n = true) (hv : ev ρ x = v) (h : K Γ (upd ρ d v)) : OP P n B I Γ m ops ⟨some d, .assign x, ty, pos, af, none⟩ K ρ :=
  OP.pure1 _ hd (fun _ _ => by subst hv; rfl) h
theorem OP.pick_true {c x y : Operand} (hd : Nat.blt d n = true) (hc : ev ρ c = .bool true) (h : K Γ (upd ρ d (ev ρ x))) :
    OP P n B I Γ m ops ⟨some d, .pick c x y, ty, pos, af, none⟩ K ρ :=
  OP.pure1 _ hd (fun w _ => by simp only [execOp, hc]; rfl) h
theorem OP.pick_false {c x y : Operand} (hd : Nat.blt d n = true) (hc : ev ρ c = .bool false) (h : K Γ (upd ρ d (ev ρ y))) :
    OP P n B I Γ m ops ⟨some d, .pick c x y, ty, pos, af, none⟩ K ρ :=
  OP.pure1 _ hd (fun w _ => by simp only [execOp, hc]; rfl) h
theorem OP.extract {x : Operand} {i : Nat} {vs : Array Value} {v : Value} (hd : Nat.blt d n = true) (hx : ev ρ x = .tuple vs) (hv : vs[i]? = some v) (h : K Γ (upd ρ d v)) :
    OP P n B I Γ m ops ⟨some d, .extract x i, ty, pos, af, none⟩ K ρ :=
  OP.pure1 v hd (fun w _ => by simp only [execOp, hx, Instr.extract, hv]; rfl) h
theorem map_list {α β : Type} (f : α → β) (a : Array α) : a.map f = (a.toList.map f).toArray := by apply Array.ext'; simp
theorem OP.makeFunc {f : Go.Fn} {first captured : Array Operand} (hd : Nat.blt d n = true) (h : K Γ (upd ρ d (.func f (first.toList.map (ev ρ)).toArray (captured.toList.map (ev ρ)).toArray))) :
    OP P n B I Γ m ops ⟨some d, .makeFunc f first captured, ty, pos, af, none⟩ K ρ :=
  OP.pure1 _ hd (fun w _ => by rw [← map_list, ← map_list]; rfl) h

/-! numbers -/
theorem eqGuard_int (op : BinOp) (t : TypeId) (x y : Operand) (k k' : IntKind) (a b : Int) (w : World) : (eqGuard op t x y (.int k a) (.int k' b)).run P w = .ok () w := by
  cases op <;> rfl

theorem wrap_id {k : IntKind} {z : Int} (h1 : k.min ≤ z) (h2 : z ≤ k.max) : k.wrap z = z := by
  cases k <;> simp [IntKind.min, IntKind.max, IntKind.signed, IntKind.bits] at h1 h2 <;> simp [IntKind.wrap, IntKind.signed, IntKind.bits] <;> (try split) <;> omega

/-- The kinds, each with its bounds written out. -/
class Fits (k : IntKind) (lo hi : outParam Int) : Prop where
  mem : ∀ z, lo ≤ z → z ≤ hi → k.wrap z = z
instance : Fits .i64 (-9223372036854775808) 9223372036854775807 := ⟨fun _ h1 h2 => wrap_id h1 h2⟩
instance : Fits .u64 0 18446744073709551615 := ⟨fun _ h1 h2 => wrap_id h1 h2⟩
instance : Fits .i32 (-2147483648) 2147483647 := ⟨fun _ h1 h2 => wrap_id h1 h2⟩
instance : Fits .u32 0 4294967295 := ⟨fun _ h1 h2 => wrap_id h1 h2⟩
instance : Fits .i16 (-32768) 32767 := ⟨fun _ h1 h2 => wrap_id h1 h2⟩
instance : Fits .u16 0 65535 := ⟨fun _ h1 h2 => wrap_id h1 h2⟩
instance : Fits .i8 (-128) 127 := ⟨fun _ h1 h2 => wrap_id h1 h2⟩
instance : Fits .u8 0 255 := ⟨fun _ h1 h2 => wrap_id h1 h2⟩

variable {t t' : TypeId} {x y : Operand} {k : IntKind} {lo hi : Int} {a b : Int}

theorem bin_add (w : World) : (binOp .add t (.int k a) (.int k b)).run P w = .ok (.int k (k.wrap (a + b))) w := by simp only [binOp, ne_eq, not_true, if_false]; rfl
theorem bin_sub (w : World) : (binOp .sub t (.int k a) (.int k b)).run P w = .ok (.int k (k.wrap (a - b))) w := by simp only [binOp, ne_eq, not_true, if_false]; rfl
theorem bin_mul (w : World) : (binOp .mul t (.int k a) (.int k b)).run P w = .ok (.int k (k.wrap (a * b))) w := by simp only [binOp, ne_eq, not_true, if_false]; rfl
theorem bin_quo (w : World) (h : b ≠ 0) : (binOp .quo t (.int k a) (.int k b)).run P w = .ok (.int k (k.wrap (a.tdiv b))) w := by
  simp only [binOp, ne_eq, not_true, if_false, Op.intDiv]; rw [if_neg h]; rfl
theorem bin_rem (w : World) (h : b ≠ 0) : (binOp .rem t (.int k a) (.int k b)).run P w = .ok (.int k (a.tmod b)) w := by
  simp only [binOp, ne_eq, not_true, if_false, Op.intDiv]; rw [if_neg h]; rfl

theorem binop {op : BinOp} {v : Value} (hd : Nat.blt d n = true) (hx : ev ρ x = .int k a) (hy : ev ρ y = .int k b)
    (hb : ∀ w, (binOp op t (.int k a) (.int k b)).run P w = .ok v w) (h : K Γ (upd ρ d v)) :
    OP P n B I Γ m ops ⟨some d, .binOp op t x y t', ty, pos, af, none⟩ K ρ :=
  OP.pure1 v hd (fun w _ => by
    have h1 := eqGuard_int (P := P) op t x y k k a b w
    have h2 := hb w
    simp only [execOp, hx, hy, Sem.run_bind, h1, h2, Result.andThen_ok, Sem.run_pure]) h

theorem OP.add [Fits k lo hi] (hd : Nat.blt d n = true) (hx : ev ρ x = .int k a) (hy : ev ρ y = .int k b) (h1 : lo ≤ a + b) (h2 : a + b ≤ hi)
    (h : K Γ (upd ρ d (.int k (a + b)))) : OP P n B I Γ m ops ⟨some d, .binOp .add t x y t', ty, pos, af, none⟩ K ρ :=
  binop hd hx hy (fun w => by rw [bin_add, Fits.mem _ h1 h2]) h
theorem OP.addw (hd : Nat.blt d n = true) (hx : ev ρ x = .int k a) (hy : ev ρ y = .int k b)
    (h : K Γ (upd ρ d (.int k (k.wrap (a + b))))) : OP P n B I Γ m ops ⟨some d, .binOp .add t x y t', ty, pos, af, none⟩ K ρ :=
  binop hd hx hy bin_add h
theorem OP.sub [Fits k lo hi] (hd : Nat.blt d n = true) (hx : ev ρ x = .int k a) (hy : ev ρ y = .int k b) (h1 : lo ≤ a - b) (h2 : a - b ≤ hi)
    (h : K Γ (upd ρ d (.int k (a - b)))) : OP P n B I Γ m ops ⟨some d, .binOp .sub t x y t', ty, pos, af, none⟩ K ρ :=
  binop hd hx hy (fun w => by rw [bin_sub, Fits.mem _ h1 h2]) h
theorem OP.subw (hd : Nat.blt d n = true) (hx : ev ρ x = .int k a) (hy : ev ρ y = .int k b)
    (h : K Γ (upd ρ d (.int k (k.wrap (a - b))))) : OP P n B I Γ m ops ⟨some d, .binOp .sub t x y t', ty, pos, af, none⟩ K ρ :=
  binop hd hx hy bin_sub h
theorem OP.mul [Fits k lo hi] (hd : Nat.blt d n = true) (hx : ev ρ x = .int k a) (hy : ev ρ y = .int k b) (h1 : lo ≤ a * b) (h2 : a * b ≤ hi)
    (h : K Γ (upd ρ d (.int k (a * b)))) : OP P n B I Γ m ops ⟨some d, .binOp .mul t x y t', ty, pos, af, none⟩ K ρ :=
  binop hd hx hy (fun w => by rw [bin_mul, Fits.mem _ h1 h2]) h
theorem OP.mulw (hd : Nat.blt d n = true) (hx : ev ρ x = .int k a) (hy : ev ρ y = .int k b)
    (h : K Γ (upd ρ d (.int k (k.wrap (a * b))))) : OP P n B I Γ m ops ⟨some d, .binOp .mul t x y t', ty, pos, af, none⟩ K ρ :=
  binop hd hx hy bin_mul h
/-- '/' and '%' of natural numbers, behind names (so that 'omega' takes them for numbers from 0 on). -/
def qn (a b : Nat) : Nat := a / b
def rn (a b : Nat) : Nat := a % b
theorem rn_lt {a b : Nat} (h : 0 < b) : rn a b < b := Nat.mod_lt _ h
theorem OP.quoN {a b : Nat} [Fits k lo hi] (hd : Nat.blt d n = true) (hx : ev ρ x = .int k (a : Int)) (hy : ev ρ y = .int k (b : Int)) (hb : 0 < b) (hl : lo ≤ 0) (h2 : (a : Int) ≤ hi)
    (h : K Γ (upd ρ d (.int k ((qn a b : Nat) : Int)))) : OP P n B I Γ m ops ⟨some d, .binOp .quo t x y t', ty, pos, af, none⟩ K ρ :=
  binop hd hx hy (fun w => by
    have l2 : qn a b ≤ a := Nat.div_le_self a b
    rw [bin_quo w (by omega), Int.tdiv_eq_ediv_of_nonneg (by omega), ← Int.natCast_ediv]
    show Result.ok (Value.int k (k.wrap ((qn a b : Nat) : Int))) w = _
    rw [Fits.mem _ (by omega) (by omega)]) h
theorem OP.remN {a b : Nat} (hd : Nat.blt d n = true) (hx : ev ρ x = .int k (a : Int)) (hy : ev ρ y = .int k (b : Int)) (hb : 0 < b)
    (h : K Γ (upd ρ d (.int k ((rn a b : Nat) : Int)))) : OP P n B I Γ m ops ⟨some d, .binOp .rem t x y t', ty, pos, af, none⟩ K ρ :=
  binop hd hx hy (fun w => by rw [bin_rem w (by omega), Int.tmod_eq_emod_of_nonneg (by omega), ← Int.natCast_emod]; rfl) h
/-- '/' where both are from 0 on. -/
theorem OP.quo [Fits k lo hi] (hd : Nat.blt d n = true) (hx : ev ρ x = .int k a) (hy : ev ρ y = .int k b) (h0 : 0 ≤ a) (hb : 0 < b) (hl : lo ≤ 0) (h2 : a ≤ hi)
    (h : K Γ (upd ρ d (.int k (a / b)))) : OP P n B I Γ m ops ⟨some d, .binOp .quo t x y t', ty, pos, af, none⟩ K ρ :=
  binop hd hx hy (fun w => by
    have e : a.tdiv b = a / b := Int.tdiv_eq_ediv_of_nonneg h0
    have l1 : 0 ≤ a / b := Int.ediv_nonneg h0 (Int.le_of_lt hb)
    have l2 : a / b ≤ a := Int.ediv_le_self _ h0
    rw [bin_quo w (by omega), e, Fits.mem _ (Int.le_trans hl l1) (Int.le_trans l2 h2)]) h
theorem OP.rem (hd : Nat.blt d n = true) (hx : ev ρ x = .int k a) (hy : ev ρ y = .int k b) (h0 : 0 ≤ a) (hb : 0 < b)
    (h : K Γ (upd ρ d (.int k (a % b)))) : OP P n B I Γ m ops ⟨some d, .binOp .rem t x y t', ty, pos, af, none⟩ K ρ :=
  binop hd hx hy (fun w => by rw [bin_rem w (by omega), Int.tmod_eq_emod_of_nonneg h0]) h
theorem OP.quot (hd : Nat.blt d n = true) (hx : ev ρ x = .int k a) (hy : ev ρ y = .int k b) (hb : b ≠ 0)
    (h : K Γ (upd ρ d (.int k (k.wrap (a.tdiv b))))) : OP P n B I Γ m ops ⟨some d, .binOp .quo t x y t', ty, pos, af, none⟩ K ρ :=
  binop hd hx hy (fun w => bin_quo w hb) h
theorem OP.remt (hd : Nat.blt d n = true) (hx : ev ρ x = .int k a) (hy : ev ρ y = .int k b) (hb : b ≠ 0)
    (h : K Γ (upd ρ d (.int k (a.tmod b)))) : OP P n B I Γ m ops ⟨some d, .binOp .rem t x y t', ty, pos, af, none⟩ K ρ :=
  binop hd hx hy (fun w => bin_rem w hb) h

theorem OP.lss (hd : Nat.blt d n = true) (hx : ev ρ x = .int k a) (hy : ev ρ y = .int k b) (h : K Γ (upd ρ d (.bool (decide (a < b))))) :
    OP P n B I Γ m ops ⟨some d, .binOp .lss t x y t', ty, pos, af, none⟩ K ρ :=
  binop hd hx hy (fun w => by simp only [binOp, ne_eq, not_true, if_false]; rfl) h
theorem OP.leq (hd : Nat.blt d n = true) (hx : ev ρ x = .int k a) (hy : ev ρ y = .int k b) (h : K Γ (upd ρ d (.bool (decide (a ≤ b))))) :
    OP P n B I Γ m ops ⟨some d, .binOp .leq t x y t', ty, pos, af, none⟩ K ρ :=
  binop hd hx hy (fun w => by simp only [binOp, ne_eq, not_true, if_false]; rfl) h
theorem OP.gtr (hd : Nat.blt d n = true) (hx : ev ρ x = .int k a) (hy : ev ρ y = .int k b) (h : K Γ (upd ρ d (.bool (decide (b < a))))) :
    OP P n B I Γ m ops ⟨some d, .binOp .gtr t x y t', ty, pos, af, none⟩ K ρ :=
  binop hd hx hy (fun w => by simp only [binOp, ne_eq, not_true, if_false]; rfl) h
theorem OP.geq (hd : Nat.blt d n = true) (hx : ev ρ x = .int k a) (hy : ev ρ y = .int k b) (h : K Γ (upd ρ d (.bool (decide (b ≤ a))))) :
    OP P n B I Γ m ops ⟨some d, .binOp .geq t x y t', ty, pos, af, none⟩ K ρ :=
  binop hd hx hy (fun w => by simp only [binOp, ne_eq, not_true, if_false]; rfl) h
theorem OP.eql (hd : Nat.blt d n = true) (hx : ev ρ x = .int k a) (hy : ev ρ y = .int k b) (h : K Γ (upd ρ d (.bool (decide (a = b))))) :
    OP P n B I Γ m ops ⟨some d, .binOp .eql t x y t', ty, pos, af, none⟩ K ρ :=
  binop hd hx hy (fun w => by simp only [binOp, ne_eq, not_true, if_false]; rfl) h
theorem OP.neq (hd : Nat.blt d n = true) (hx : ev ρ x = .int k a) (hy : ev ρ y = .int k b) (h : K Γ (upd ρ d (.bool (decide (a ≠ b))))) :
    OP P n B I Γ m ops ⟨some d, .binOp .neq t x y t', ty, pos, af, none⟩ K ρ :=
  binop hd hx hy (fun w => by
    have e : decide (a ≠ b) = (a != b) := by
      by_cases hab : a = b
      · simp [hab]
      · simp [hab]
    rw [e]; simp only [binOp, ne_eq, not_true, if_false]; rfl) h

theorem OP.not {c : Bool} (hd : Nat.blt d n = true) (hx : ev ρ x = .bool c) (h : K Γ (upd ρ d (.bool (!c)))) :
    OP P n B I Γ m ops ⟨some d, .unOp .not t x, ty, pos, af, none⟩ K ρ :=
  OP.pure1 _ hd (fun w _ => by simp only [execOp, hx]; rfl) h
theorem OP.notd {p : Prop} [Decidable p] (hd : Nat.blt d n = true) (hx : ev ρ x = .bool (decide p)) (h : K Γ (upd ρ d (.bool (decide (¬ p))))) :
    OP P n B I Γ m ops ⟨some d, .unOp .not t x, ty, pos, af, none⟩ K ρ :=
  OP.not hd hx (by rw [decide_not] at h; exact h)
theorem OP.neg [Fits k lo hi] (hd : Nat.blt d n = true) (hx : ev ρ x = .int k a) (h1 : lo ≤ -a) (h2 : -a ≤ hi) (h : K Γ (upd ρ d (.int k (-a)))) :
    OP P n B I Γ m ops ⟨some d, .unOp .neg t x, ty, pos, af, none⟩ K ρ :=
  OP.pure1 _ hd (fun w _ => by
    simp only [execOp, hx, Op.unary, Op.intArith, Int.zero_sub, Fits.mem _ h1 h2]; rfl) h
theorem OP.negw (hd : Nat.blt d n = true) (hx : ev ρ x = .int k a) (h : K Γ (upd ρ d (.int k (k.wrap (-a))))) :
    OP P n B I Γ m ops ⟨some d, .unOp .neg t x, ty, pos, af, none⟩ K ρ :=
  OP.pure1 _ hd (fun w _ => by
    simp only [execOp, hx, Op.unary, Op.intArith, Int.zero_sub]; rfl) h

/-! conversions of whole numbers -/
class TInt (P : Program) (t : TypeId) (k : outParam IntKind) : Prop where
  out : P.underlying t = some (.int k)
theorem run_conv {s t : TypeId} {k k' : IntKind} [hs : TInt P s k'] [ht : TInt P t k] (w : World) : (convert s t (.int k' a)).run P w = .ok (.int k (k.wrap a)) w := by
  simp [convert, run_underlying hs.out, run_underlying ht.out, Conv.intToInt]
theorem OP.conv {s : TypeId} {k' : IntKind} [TInt P s k'] [TInt P t k] [Fits k lo hi] (hd : Nat.blt d n = true) (hx : ev ρ x = .int k' a) (h1 : lo ≤ a) (h2 : a ≤ hi)
    (h : K Γ (upd ρ d (.int k a))) : OP P n B I Γ m ops ⟨some d, .convert s t x, ty, pos, af, none⟩ K ρ :=
  OP.pure1 _ hd (fun w _ => by
    have := run_conv (P := P) (s := s) (t := t) (k := k) (k' := k') (a := a) w
    rw [Fits.mem _ h1 h2] at this
    simp only [execOp, hx, Sem.run_bind, this, Result.andThen_ok, Sem.run_pure]) h
theorem OP.convw {s : TypeId} {k' : IntKind} [TInt P s k'] [TInt P t k] (hd : Nat.blt d n = true) (hx : ev ρ x = .int k' a)
    (h : K Γ (upd ρ d (.int k (k.wrap a)))) : OP P n B I Γ m ops ⟨some d, .convert s t x, ty, pos, af, none⟩ K ρ :=
  OP.pure1 _ hd (fun w _ => by
    have := run_conv (P := P) (s := s) (t := t) (k := k) (k' := k') (a := a) w
    simp only [execOp, hx, Sem.run_bind, this, Result.andThen_ok, Sem.run_pure]) h

/-! calls -/
/-- The function has a body (a call enters it). -/
class Body (P : Program) (f : FuncId) : Prop where
  out : ∀ args (w : World), (callFunc f args).run P w = .ok (.enter f args) w
theorem Body.mk' {f : FuncId} {fn : Func} {c : Code} (h1 : P.funcs[f]? = some fn) (h2 : (fn.name == "runtime.NumGoroutine") = false) (h3 : fn.body = some c) : Body P f :=
  ⟨fun args w => by simp only [callFunc, Sem.run_bind, run_program, Result.andThen_ok, h1, h2, h3, Option.isNone_some, Bool.false_eq_true, if_false, Sem.run_pure]⟩

theorem call_vals {ρ : Env} {first captured : Array Value} {args : Array Operand} {vals : Array Value} (hv : (first.toList ++ args.toList.map (ev ρ) ++ captured.toList).toArray = vals) : (first ++ args.map (ev ρ)) ++ captured = vals := by
  rw [← hv]; apply Array.ext'; simp
theorem OP.callv {f : FuncId} [hB : Body P f] {c : Operand} {args : Array Operand} {vals first captured : Array Value} {tys : Array TypeId} {R : Value → List (Nat × Obj) → Prop}
    (hd : Nat.blt d n = true) (hc : ev ρ c = .func (.func f) first captured) (hv : (first.toList ++ args.toList.map (ev ρ) ++ captured.toList).toArray = vals)
    (hf : ∀ w, St B I Γ w → Does P f vals [] w R) (h : ∀ v Γ', R v Γ' → K (Γ' ++ Γ) (upd ρ d v)) :
    OP P n B I Γ false ops ⟨some d, .call ⟨.value c, args, tys⟩, ty, pos, af, none⟩ K ρ := by
  refine ⟨fun a h1 h2 h3 _ w h4 K' Q' hK => ?_, fun a _ _ _ hw => by simp [Region.wanted] at hw⟩
  unfold Oper.wp
  have hrun : (execOp (ev ρ) ⟨some d, .call ⟨.value c, args, tys⟩, ty, pos, af, none⟩).run P w = .ok (.enter f vals) w := by
    have := hB.out vals w
    simp only [execOp, resolve, hc, Deferred.ofValue, Sem.run_bind, Sem.run_pure, Result.andThen_ok, invoke, call_vals hv, this]
  rw [eval_env, h3, hrun]
  show Calls P f vals w _
  refine Calls.mono (hf w h4).out ?_
  rintro e w' ⟨v, Γ', rfl, hR, hst⟩
  have hlt : d < a.tmps.size := by rw [h2]; exact blt_lt hd
  exact hK _ _ _ (by rw [put_defers]; exact h1) (by rw [put_size]; exact h2) (h4.over hst) (by show K _ (envOf (a.put (some d) v)); rw [env_put a d v hlt, h3]; exact h v Γ' hR)

/-- A call whose value is known and whatever it makes is let go. -/
theorem OP.callq {f : FuncId} [hB : Body P f] {args : Array Operand} {tys : Array TypeId} {R : Value → List (Nat × Obj) → Prop} (v : Value)
    (hd : Nat.blt d n = true) (hf : ∀ w, St B I Γ w → Does P f (args.toList.map (ev ρ)).toArray [] w R) (hR : ∀ u Γ', R u Γ' → u = v) (h : K Γ (upd ρ d v)) :
    OP P n B I Γ m ops ⟨some d, .call ⟨.value (.func f), args, tys⟩, ty, pos, af, none⟩ K ρ := by
  have hrun : ∀ w, (execOp (ev ρ) ⟨some d, .call ⟨.value (.func f), args, tys⟩, ty, pos, af, none⟩).run P w = .ok (.enter f (args.toList.map (ev ρ)).toArray) w := fun w => by
    have := hB.out (args.toList.map (ev ρ)).toArray w
    have hv : (#[] ++ args.map (ev ρ)) ++ #[] = (args.toList.map (ev ρ)).toArray := call_vals (first := #[]) (captured := #[]) (by simp)
    simp only [execOp, resolve, ev, Deferred.ofValue, Sem.run_bind, Sem.run_pure, Result.andThen_ok, invoke, hv, this]
  cases m with
  | true =>
    refine ⟨fun a h1 h2 h3 _ => ⟨fun K' hK => ⟨v, fun w hw => ?_, ?_⟩, fun hnc => by simp [noCall] at hnc, fun hnc => by simp [noCall] at hnc⟩, fun a _ _ _ hw => by simp [Region.wanted] at hw⟩
    · unfold Oper.quietAt
      rw [eval_env, h3, hrun]
      refine ⟨rfl, Calls.mono (hf w hw).out ?_⟩
      rintro e w' ⟨u, Γ', rfl, hu, hst⟩
      exact ⟨by rw [hR u Γ' hu], (hw.over hst).drop (List.sublist_append_right _ _)⟩
    · have hlt : d < a.tmps.size := by rw [h2]; exact blt_lt hd
      exact hK _ (by rw [put_defers]; exact h1) (by rw [put_size]; exact h2) (by show K Γ (envOf (a.put (some d) v)); rw [env_put a d v hlt, h3]; exact h)
  | false =>
    refine ⟨fun a h1 h2 h3 _ w h4 K' Q' hK => ?_, fun a _ _ _ hw => by simp [Region.wanted] at hw⟩
    unfold Oper.wp
    rw [eval_env, h3, hrun]
    show Calls P f _ w _
    refine Calls.mono (hf w h4).out ?_
    rintro e w' ⟨u, Γ', rfl, hu, hst⟩
    have hlt : d < a.tmps.size := by rw [h2]; exact blt_lt hd
    have := hR u Γ' hu
    subst this
    exact hK _ _ Γ (by rw [put_defers]; exact h1) (by rw [put_size]; exact h2) ((h4.over hst).drop (List.sublist_append_right _ _)) (by show K Γ (envOf (a.put (some d) _)); rw [env_put a d _ hlt, h3]; exact h)

theorem OP.call {f : FuncId} [hB : Body P f] {args : Array Operand} {tys : Array TypeId} {R : Value → List (Nat × Obj) → Prop}
    (hd : Nat.blt d n = true) (hf : ∀ w, St B I Γ w → Does P f (args.toList.map (ev ρ)).toArray [] w R) (h : ∀ v Γ', R v Γ' → K (Γ' ++ Γ) (upd ρ d v)) :
    OP P n B I Γ false ops ⟨some d, .call ⟨.value (.func f), args, tys⟩, ty, pos, af, none⟩ K ρ :=
  OP.callv (f := f) hd (first := #[]) (captured := #[]) rfl (by simp) hf h

/-- A call that borrows 'Γb'. -/
theorem OP.callI {f : FuncId} [hB : Body P f] {c : Operand} {args : Array Operand} {vals first captured : Array Value} {tys : Array TypeId} {R : Value → List (Nat × Obj) → Prop}
    {Γb Γr : List (Nat × Obj)} {dst : Option Nat} (hd : (dst.all fun d => Nat.blt d n) = true) (hc : ev ρ c = .func (.func f) first captured) (hv : (first.toList ++ args.toList.map (ev ρ) ++ captured.toList).toArray = vals)
    (hp : Γ.Perm (Γb ++ Γr)) (hf : ∀ w, (∀ p ∈ Γb, w.heap[p.1]? = some p.2) → (keys Γb).Nodup → St B I (Γb ++ Γr) w → Does P f vals (keys Γb) w R)
    (h : ∀ v Γ', R v Γ' → K (Γ' ++ Γr) (match dst with | some d => upd ρ d v | none => ρ)) :
    OP P n B I Γ false ops ⟨dst, .call ⟨.value c, args, tys⟩, ty, pos, af, none⟩ K ρ := by
  refine ⟨fun a h1 h2 h3 _ w h4 K' Q' hK => ?_, fun a _ _ _ hw => by simp [Region.wanted] at hw⟩
  unfold Oper.wp
  have hrun : (execOp (ev ρ) ⟨dst, .call ⟨.value c, args, tys⟩, ty, pos, af, none⟩).run P w = .ok (.enter f vals) w := by
    have := hB.out vals w
    simp only [execOp, resolve, hc, Deferred.ofValue, Sem.run_bind, Sem.run_pure, Result.andThen_ok, invoke, call_vals hv, this]
  rw [eval_env, h3, hrun]
  show Calls P f vals w _
  have h4' := h4.perm hp
  have hnd : (keys Γb).Nodup := by
    have := h4'.nodup
    rw [List.map_append, List.nodup_append] at this
    exact this.1
  refine Calls.mono (hf w (fun p hp => h4'.has p (List.mem_append_left _ hp)) hnd h4').out ?_
  rintro e w' ⟨v, Γ', rfl, hR, hst⟩
  refine hK _ _ _ (by rw [put_defers]; exact h1) (by rw [put_size]; exact h2) (h4'.overI hst) ?_
  have hres := h v Γ' hR
  cases dst with
  | none => show K _ (envOf a); rw [h3]; exact hres
  | some d =>
    have hlt : d < a.tmps.size := by rw [h2]; exact blt_lt hd
    show K _ (envOf (a.put (some d) v))
    rw [env_put a d v hlt, h3]; exact hres
end
end Go.Pen
end
