/-
  The engine, part 1: frames as partial lists, judgements over code and regions, in plain theorems over any program P.
-/
import Derived.WalkKit
import Derived.BigQuiet
namespace Go.Proofs.Ytpiimkfonlijdaa
open Go Go.RowKit
set_option linter.unusedVariables false
set_option linter.unusedSimpArgs false

abbrev Fr := List (Nat × Value)
def lk : Fr → Nat → Option Value
  | [], _ => none
  | (j, v) :: r, i => bif Nat.beq j i then some v else lk r i
def ev (f : Fr) : Operand → Option Value
  | .tmp t => lk f t
  | .const v => some v
  | .global g => some (.pointer (some { block := g, off := 0 }))
  | .func g => some (.func (.func g) #[] #[])
structure Good (a : Act) (n : Nat) (f : Fr) : Prop where
  size : a.tmps.size = n
  defers : a.defers = []
  at_ : ∀ i v, lk f i = some v → a.tmps.getD i undef = v
theorem Good.ev {a : Act} {n : Nat} {f : Fr} (h : Good a n f) {x : Operand} {v : Value} (hx : ev f x = some v) : a.eval x = v := by
  cases x with
  | tmp t => exact h.at_ t v hx
  | const c => exact Option.some.inj hx
  | global g => exact Option.some.inj hx
  | func g => exact Option.some.inj hx
theorem Good.put {a : Act} {n : Nat} {f : Fr} (h : Good a n f) {d : Nat} (hd : Nat.blt d n = true) (v : Value) : Good (a.put (some d) v) n ((d, v) :: f) := by
  have hd' : d < a.tmps.size := by rw [h.size]; exact Nat.le_of_ble_eq_true hd
  refine ⟨by simpa [Act.put] using h.size, by simpa [Act.put] using h.defers, fun i u hu => ?_⟩
  unfold lk at hu
  by_cases hdi : d = i
  · subst hdi
    simp at hu
    subst hu
    simp [Act.put, Array.getD, hd']
  · have : Nat.beq d i = false := by
      cases hb : Nat.beq d i with
      | true => exact absurd (Nat.eq_of_beq_eq_true hb) hdi
      | false => rfl
    rw [this] at hu
    have := h.at_ i u hu
    rw [← this]
    simp only [Act.put, Array.getD_eq_getD_getElem?, Array.getElem?_setIfInBounds, hdi, if_false]
/-- The frame forgets. -/
def Sub : Fr → Fr → Prop
  | [], _ => True
  | (i, v) :: r, f => lk f i = some v ∧ Sub r f
theorem lk_sub {F f : Fr} (h : Sub F f) {i : Nat} {v : Value} (hi : lk F i = some v) : lk f i = some v := by
  induction F with
  | nil => simp [lk] at hi
  | cons p r ih =>
    obtain ⟨j, u⟩ := p
    unfold lk at hi
    cases hb : Nat.beq j i with
    | true =>
      rw [hb] at hi
      simp at hi
      subst hi
      rw [← Nat.eq_of_beq_eq_true hb]
      exact h.1
    | false =>
      rw [hb] at hi
      exact ih h.2 hi
theorem Good.sub {a : Act} {n : Nat} {F f : Fr} (h : Good a n f) (hs : Sub F f) : Good a n F :=
  ⟨h.size, h.defers, fun i v hv => h.at_ i v (lk_sub hs hv)⟩

theorem exists_least {p : Nat → Prop} (h : ∃ k, p k) : ∃ k, p k ∧ ∀ j, p j → k ≤ j := by
  obtain ⟨k, hk⟩ := h
  induction k using Nat.strongRecOn with
  | ind k ih =>
    by_cases hl : ∃ j, j < k ∧ p j
    · obtain ⟨j, hj, hp⟩ := hl
      exact ih j hj hp
    · exact ⟨k, hk, fun j hj => Nat.le_of_not_lt fun hlt => hl ⟨j, hlt, hj⟩⟩
noncomputable def leastOf (p : Nat → Prop) : Nat := Classical.epsilon fun k => p k ∧ ∀ j, p j → k ≤ j
theorem leastOf_spec {p : Nat → Prop} (h : ∃ k, p k) : p (leastOf p) ∧ ∀ j, p j → leastOf p ≤ j := Classical.epsilon_spec (exists_least h)

/-! code -/
abbrev Kont := Exit → Fr → World → Prop
def qa (n : Nat) (Q : Kont) : Exit → Act → World → Prop := fun e a w => ∃ f, Good a n f ∧ Q e f w
def WC (P : Program) (n : Nat) (c : Code) (Q : Kont) (f : Fr) (w : World) : Prop := ∀ a, Good a n f → c.wp P (qa n Q) a w
def thenK (K : Fr → World → Prop) (Q : Kont) : Kont
  | .normal, f, w => K f w
  | e, f, w => Q e f w
def inB (id : Nat) (Q : Kont) : Kont
  | .exit i, f, w => bif Nat.beq i id then Q .normal f w else Q (.exit i) f w
  | e, f, w => Q e f w
section
variable {K : Fr → World → Prop} {Q : Kont} {f : Fr} {w : World}
theorem tkN (h : K f w) : thenK K Q .normal f w := h
theorem tkR (h : Q .ret f w) : thenK K Q .ret f w := h
theorem tkE {i : Nat} (h : Q (.exit i) f w) : thenK K Q (.exit i) f w := h
theorem ibN {id : Nat} (h : Q .normal f w) : inB id Q .normal f w := h
theorem ibR {id : Nat} (h : Q .ret f w) : inB id Q .ret f w := h
theorem ibE {id : Nat} (h : Q .normal f w) : inB id Q (.exit id) f w := by simp [inB, h]
theorem ibX {id i : Nat} (hi : Nat.beq i id = false) (h : Q (.exit i) f w) : inB id Q (.exit i) f w := by simp [inB, hi, h]
end
section
variable {P : Program} {n : Nat} {Q : Kont} {f : Fr} {w : World}
theorem WC.mono {c : Code} {Q' : Kont} (h : WC P n c Q f w) (hq : ∀ e f w, Q e f w → Q' e f w) : WC P n c Q' f w := fun a ha =>
  Code.wp_mono (fun _ _ _ ⟨f', hg, hh⟩ => ⟨f', hg, hq _ _ _ hh⟩) (h a ha)
theorem WC.sub {c : Code} (F : Fr) (hs : Sub F f) (h : WC P n c Q F w) : WC P n c Q f w := fun a ha => h a (ha.sub hs)
theorem WC.seq {x y : Code} (h : ∀ K : Fr → World → Prop, (∀ f w, WC P n y Q f w → K f w) → WC P n x (thenK K Q) f w) : WC P n (.seq x y) Q f w := fun a ha => by
  apply wp_seq_k
  intro K' hK'
  refine Code.wp_mono ?_ (h (fun f w => ∀ a, Good a n f → K' a w) (fun f w hy a ha => hK' _ _ (hy a ha)) a ha)
  rintro e a w ⟨f', hg, hq⟩
  cases e
  case normal => exact hq a hg
  all_goals exact ⟨f', hg, hq⟩
/-- A sequence whose second part is proved once, for whatever the first leaves. -/
theorem WC.seqJ {x y : Code} (K : Fr → World → Prop) (hx : WC P n x (thenK K Q) f w) (hy : ∀ f w, K f w → WC P n y Q f w) : WC P n (.seq x y) Q f w :=
  WC.seq fun K' hK' => hx.mono fun e f w h => by cases e <;> first | exact hK' _ _ (hy _ _ h) | exact h
theorem WC.block {id : Nat} {c : Code} (h : WC P n c (inB id Q) f w) : WC P n (.block id c) Q f w := fun a ha => by
  apply wp_block
  refine Code.wp_mono ?_ (h a ha)
  rintro e a w ⟨f', hg, hq⟩
  cases e
  case exit i =>
    by_cases hi : i = id
    · subst hi
      simp only [Exit.inBlock, if_true]
      refine ⟨f', hg, ?_⟩
      simpa [inB] using hq
    · simp only [Exit.inBlock, hi, if_false]
      refine ⟨f', hg, ?_⟩
      have : Nat.beq i id = false := by
        cases hb : Nat.beq i id with
        | true => exact absurd (Nat.eq_of_beq_eq_true hb) hi
        | false => rfl
      simpa [inB, this] using hq
  all_goals exact ⟨f', hg, hq⟩
theorem WC.skip (h : Q .normal f w) : WC P n .skip Q f w := fun _ ha => wp_skip ⟨f, ha, h⟩
theorem WC.exit {id : Nat} (h : Q (.exit id) f w) : WC P n (.exit id) Q f w := fun _ ha => wp_exit ⟨f, ha, h⟩
theorem WC.ret (h : Q .ret f w) : WC P n .ret Q f w := fun _ ha => wp_ret ⟨f, ha, h⟩
theorem WC.cond {c : Operand} {x y : Code} {t : Bool} (hc : ev f c = some (.bool t)) (hx : t = true → WC P n x Q f w) (hy : t = false → WC P n y Q f w) : WC P n (.cond c x y) Q f w := fun a ha =>
  wp_cond_split (ha.ev hc) (fun h => hx h a ha) (fun h => hy h a ha)
theorem WC.condT {c : Operand} {x y : Code} {t : Bool} (hc : ev f c = some (.bool t)) (ht : t = true) (hx : WC P n x Q f w) : WC P n (.cond c x y) Q f w :=
  WC.cond hc (fun _ => hx) (fun h => by rw [ht] at h; cases h)
theorem WC.condF {c : Operand} {x y : Code} {t : Bool} (hc : ev f c = some (.bool t)) (ht : t = false) (hx : WC P n y Q f w) : WC P n (.cond c x y) Q f w :=
  WC.cond hc (fun h => by rw [ht] at h; cases h) (fun _ => hx)
/-- A loop whose measure is carried by the relation. -/
theorem WC.loopN {c : Code} (I : Nat → Fr → World → Prop) : ∀ k, I k f w → (∀ k f w, I k f w → WC P n c (thenK (fun f' w' => ∃ k', k' < k ∧ I k' f' w') Q) f w) → WC P n (.loop c) Q f w := fun k0 h0 hr a ha => by
  refine wp_loop (fun a w => ∃ k, ∃ f, Good a n f ∧ I k f w) (fun a w => leastOf fun k => ∃ f, Good a n f ∧ I k f w) ⟨k0, f, ha, h0⟩ ?_
  intro a w hI
  obtain ⟨⟨f, hg, hi⟩, -⟩ := leastOf_spec hI
  refine Code.wp_mono ?_ (hr _ f w hi a hg)
  rintro e a' w' ⟨f', hg', hq⟩
  cases e
  case normal =>
    obtain ⟨k', hlt, hi'⟩ := hq
    refine ⟨⟨k', f', hg', hi'⟩, Nat.lt_of_le_of_lt ((leastOf_spec (p := fun k => ∃ f, Good a' n f ∧ I k f w') ⟨k', f', hg', hi'⟩).2 k' ⟨f', hg', hi'⟩) hlt⟩
  all_goals exact ⟨f', hg', hq⟩
end
end Go.Proofs.Ytpiimkfonlijdaa
