/-
  The engine, part 1: frames as partial lists, judgements over code and regions, in plain theorems over any program P.
  The engine, part 2: the world as a list of owned blocks; judgements over regions; the rules of operations.
  The engine, part 3: what each kind of operation yields.
  The engine, part 4: loads, stores, new blocks, and how a body is entered and left.
-/
import Derived.WalkKit
import Derived.BigQuiet
namespace Go.Proofs.Ytlmcekfdlgkffaa
open Go Go.RowKit
set_option linter.unusedVariables false
set_option linter.unusedSimpArgs false

abbrev Fr := List (Nat × Value)
def lk : Fr → Nat → Option Value
  | [], _ => none
  | (j, v) :: r, i => bif Nat.beq j i then some v else lk r i
def ev (f : Fr) : Operand → Option Value
  | .tmp t => lk f t
  | .const v => some v
  | .global g => some (.pointer (some { block := g, off := 0 }))
  | .func g => some (.func (.func g) #[] #[])
structure Good (a : Act) (n : Nat) (f : Fr) : Prop where
  size : a.tmps.size = n
  defers : a.defers = []
  at_ : ∀ i v, lk f i = some v → a.tmps.getD i undef = v
theorem Good.ev {a : Act} {n : Nat} {f : Fr} (h : Good a n f) {x : Operand} {v : Value} (hx : ev f x = some v) : a.eval x = v := by
  cases x with
  | tmp t => exact h.at_ t v hx
  | const c => exact Option.some.inj hx
  | global g => exact Option.some.inj hx
  | func g => exact Option.some.inj hx
theorem Good.put {a : Act} {n : Nat} {f : Fr} (h : Good a n f) {d : Nat} (hd : Nat.blt d n = true) (v : Value) : Good (a.put (some d) v) n ((d, v) :: f) := by
  have hd' : d < a.tmps.size := by rw [h.size]; exact Nat.le_of_ble_eq_true hd
  refine ⟨by simpa [Act.put] using h.size, by simpa [Act.put] using h.defers, fun i u hu => ?_⟩
  unfold lk at hu
  by_cases hdi : d = i
  · subst hdi
    simp at hu
    subst hu
    simp [Act.put, Array.getD, hd']
  · have : Nat.beq d i = false := by
      cases hb : Nat.beq d i with
      | true => exact absurd (Nat.eq_of_beq_eq_true hb) hdi
      | false => rfl
    rw [this] at hu
    have := h.at_ i u hu
    rw [← this]
    simp only [Act.put, Array.getD_eq_getD_getElem?, Array.getElem?_setIfInBounds, hdi, if_false]
/-- The frame forgets. -/
def Sub : Fr → Fr → Prop
  | [], _ => True
  | (i, v) :: r, f => lk f i = some v ∧ Sub r f
theorem lk_sub {F f : Fr} (h : Sub F f) {i : Nat} {v : Value} (hi : lk F i = some v) : lk f i = some v := by
  induction F with
  | nil => simp [lk] at hi
  | cons p r ih =>
    obtain ⟨j, u⟩ := p
    unfold lk at hi
    cases hb : Nat.beq j i with
    | true =>
      rw [hb] at hi
      simp at hi
      subst hi
      rw [← Nat.eq_of_beq_eq_true hb]
      exact h.1
    | false =>
      rw [hb] at hi
      exact ih h.2 hi
theorem Good.sub {a : Act} {n : Nat} {F f : Fr} (h : Good a n f) (hs : Sub F f) : Good a n F :=
  ⟨h.size, h.defers, fun i v hv => h.at_ i v (lk_sub hs hv)⟩

theorem exists_least {p : Nat → Prop} (h : ∃ k, p k) : ∃ k, p k ∧ ∀ j, p j → k ≤ j := by
  obtain ⟨k, hk⟩ := h
  induction k using Nat.strongRecOn with
  | ind k ih =>
    by_cases hl : ∃ j, j < k ∧ p j
    · obtain ⟨j, hj, hp⟩ := hl
      exact ih j hj hp
    · exact ⟨k, hk, fun j hj => Nat.le_of_not_lt fun hlt => hl ⟨j, hlt, hj⟩⟩
noncomputable def leastOf (p : Nat → Prop) : Nat := Classical.epsilon fun k => p k ∧ ∀ j, p j → k ≤ j
theorem leastOf_spec {p : Nat → Prop} (h : ∃ k, p k) : p (leastOf p) ∧ ∀ j, p j → leastOf p ≤ j := Classical.epsilon_spec (exists_least h)

/-! code -/
abbrev Kont := Exit → Fr → World → Prop
def qa (n : Nat) (Q : Kont) : Exit → Act → World → Prop := fun e a w => ∃ f, Good a n f ∧ Q e f w
def WC (P : Program) (n : Nat) (c : Code) (Q : Kont) (f : Fr) (w : World) : Prop := ∀ a, Good a n f → c.wp P (qa n Q) a w
def thenK (K : Fr → World → Prop) (Q : Kont) : Kont
  | .normal, f, w => K f w
  | e, f, w => Q e f w
def inB (id : Nat) (Q : Kont) : Kont
  | .exit i, f, w => bif Nat.beq i id then Q .normal f w else Q (.exit i) f w
  | e, f, w => Q e f w
section
variable {K : Fr → World → Prop} {Q : Kont} {f : Fr} {w : World}
theorem tkN (h : K f w) : thenK K Q .normal f w := h
theorem tkR (h : Q .ret f w) : thenK K Q .ret f w := h
theorem tkE {i : Nat} (h : Q (.exit i) f w) : thenK K Q (.exit i) f w := h
theorem ibN {id : Nat} (h : Q .normal f w) : inB id Q .normal f w := h
theorem ibR {id : Nat} (h : Q .ret f w) : inB id Q .ret f w := h
theorem ibE {id : Nat} (h : Q .normal f w) : inB id Q (.exit id) f w := by simp [inB, h]
theorem ibX {id i : Nat} (hi : Nat.beq i id = false) (h : Q (.exit i) f w) : inB id Q (.exit i) f w := by simp [inB, hi, h]
end
section
variable {P : Program} {n : Nat} {Q : Kont} {f : Fr} {w : World}
theorem WC.mono {c : Code} {Q' : Kont} (h : WC P n c Q f w) (hq : ∀ e f w, Q e f w → Q' e f w) : WC P n c Q' f w := fun a ha =>
  Code.wp_mono (fun _ _ _ ⟨f', hg, hh⟩ => ⟨f', hg, hq _ _ _ hh⟩) (h a ha)
theorem WC.sub {c : Code} (F : Fr) (hs : Sub F f) (h : WC P n c Q F w) : WC P n c Q f w := fun a ha => h a (ha.sub hs)
theorem WC.seq {x y : Code} (h : ∀ K : Fr → World → Prop, (∀ f w, WC P n y Q f w → K f w) → WC P n x (thenK K Q) f w) : WC P n (.seq x y) Q f w := fun a ha => by
  apply wp_seq_k
  intro K' hK'
  refine Code.wp_mono ?_ (h (fun f w => ∀ a, Good a n f → K' a w) (fun f w hy a ha => hK' _ _ (hy a ha)) a ha)
  rintro e a w ⟨f', hg, hq⟩
  cases e
  case normal => exact hq a hg
  all_goals exact ⟨f', hg, hq⟩
/-- A sequence whose second part is proved once, for whatever the first leaves. -/
theorem WC.seqJ {x y : Code} (K : Fr → World → Prop) (hx : WC P n x (thenK K Q) f w) (hy : ∀ f w, K f w → WC P n y Q f w) : WC P n (.seq x y) Q f w :=
  WC.seq fun K' hK' => hx.mono fun e f w h => by cases e <;> first | exact hK' _ _ (hy _ _ h) | exact h
theorem WC.block {id : Nat} {c : Code} (h : WC P n c (inB id Q) f w) : WC P n (.block id c) Q f w := fun a ha => by
  apply wp_block
  refine Code.wp_mono ?_ (h a ha)
  rintro e a w ⟨f', hg, hq⟩
  cases e
  case exit i =>
    by_cases hi : i = id
    · subst hi
      simp only [Exit.inBlock, if_true]
      refine ⟨f', hg, ?_⟩
      simpa [inB] using hq
    · simp only [Exit.inBlock, hi, if_false]
      refine ⟨f', hg, ?_⟩
      have : Nat.beq i id = false := by
        cases hb : Nat.beq i id with
        | true => exact absurd (Nat.eq_of_beq_eq_true hb) hi
        | false => rfl
      simpa [inB, this] using hq
  all_goals exact ⟨f', hg, hq⟩
theorem WC.skip (h : Q .normal f w) : WC P n .skip Q f w := fun _ ha => wp_skip ⟨f, ha, h⟩
theorem WC.exit {id : Nat} (h : Q (.exit id) f w) : WC P n (.exit id) Q f w := fun _ ha => wp_exit ⟨f, ha, h⟩
theorem WC.ret (h : Q .ret f w) : WC P n .ret Q f w := fun _ ha => wp_ret ⟨f, ha, h⟩
theorem WC.cond {c : Operand} {x y : Code} {t : Bool} (hc : ev f c = some (.bool t)) (hx : t = true → WC P n x Q f w) (hy : t = false → WC P n y Q f w) : WC P n (.cond c x y) Q f w := fun a ha =>
  wp_cond_split (ha.ev hc) (fun h => hx h a ha) (fun h => hy h a ha)
theorem WC.condT {c : Operand} {x y : Code} {t : Bool} (hc : ev f c = some (.bool t)) (ht : t = true) (hx : WC P n x Q f w) : WC P n (.cond c x y) Q f w :=
  WC.cond hc (fun _ => hx) (fun h => by rw [ht] at h; cases h)
theorem WC.condF {c : Operand} {x y : Code} {t : Bool} (hc : ev f c = some (.bool t)) (ht : t = false) (hx : WC P n y Q f w) : WC P n (.cond c x y) Q f w :=
  WC.cond hc (fun h => by rw [ht] at h; cases h) (fun _ => hx)
/-- A loop whose measure is carried by the relation. -/
theorem WC.loopN {c : Code} (I : Nat → Fr → World → Prop) : ∀ k, I k f w → (∀ k f w, I k f w → WC P n c (thenK (fun f' w' => ∃ k', k' < k ∧ I k' f' w') Q) f w) → WC P n (.loop c) Q f w := fun k0 h0 hr a ha => by
  refine wp_loop (fun a w => ∃ k, ∃ f, Good a n f ∧ I k f w) (fun a w => leastOf fun k => ∃ f, Good a n f ∧ I k f w) ⟨k0, f, ha, h0⟩ ?_
  intro a w hI
  obtain ⟨⟨f, hg, hi⟩, -⟩ := leastOf_spec hI
  refine Code.wp_mono ?_ (hr _ f w hi a hg)
  rintro e a' w' ⟨f', hg', hq⟩
  cases e
  case normal =>
    obtain ⟨k', hlt, hi'⟩ := hq
    refine ⟨⟨k', f', hg', hi'⟩, Nat.lt_of_le_of_lt ((leastOf_spec (p := fun k => ∃ f, Good a' n f ∧ I k f w') ⟨k', f', hg', hi'⟩).2 k' ⟨f', hg', hi'⟩) hlt⟩
  all_goals exact ⟨f', hg', hq⟩
end
end Go.Proofs.Ytlmcekfdlgkffaa
namespace Go.Proofs.Ytlmcekfdlgkffaa
open Go Go.RowKit
set_option linter.unusedVariables false
set_option linter.unusedSimpArgs false

abbrev Hp := List (Nat × Obj)
/-- Since w0 nothing below has turned but the blocks T; the blocks of L are ours (new, or of T). -/
structure St (w0 : World) (T : List Nat) (L : Hp) (w : World) : Prop where
  os : w.os = w0.os
  tape : w.tape = w0.tape
  output : w.output = w0.output
  size : w0.heap.size ≤ w.heap.size
  keep : ∀ k, k < w0.heap.size → k ∉ T → w.heap[k]? = w0.heap[k]?
  own : ∀ p, p ∈ L → w.heap[p.1]? = some p.2 ∧ (w0.heap.size ≤ p.1 ∨ p.1 ∈ T)
  nodup : (L.map (·.1)).Nodup
theorem lt_of_heap {w : World} {b : Nat} {o : Obj} (h : w.heap[b]? = some o) : b < w.heap.size := (Array.getElem?_eq_some_iff.1 h).1
section
variable {w0 w w' : World} {T : List Nat} {L : Hp}
theorem St.init (w : World) : St w [] [] w := ⟨rfl, rfl, rfl, Nat.le_refl _, fun _ _ _ => rfl, (fun _ h => (by cases h)), List.nodup_nil⟩
theorem St.take (w : World) (L : Hp) (ho : ∀ p, p ∈ L → w.heap[p.1]? = some p.2) (hn : (L.map (·.1)).Nodup) : St w (L.map (·.1)) L w :=
  ⟨rfl, rfl, rfl, Nat.le_refl _, fun _ _ _ => rfl, fun p h => ⟨ho p h, .inr (List.mem_map_of_mem h)⟩, hn⟩
theorem St.drew (h : St w0 T L w) : St w0 T L { heap := w.heap, tape := w.tape, drawn := w.drawn + 1, os := w.os, output := w.output } := ⟨h.os, h.tape, h.output, h.size, h.keep, h.own, h.nodup⟩
theorem St.alloc (h : St w0 T L w) (o : Obj) : St w0 T ((w.heap.size, o) :: L) (w.alloc o) := by
  have hlt : ∀ p, p ∈ L → p.1 < w.heap.size := fun p hp => lt_of_heap (h.own p hp).1
  refine ⟨h.os, h.tape, h.output, Nat.le_trans h.size (by show _ ≤ (w.heap.push o).size; simp), fun k hk hT => ?_, fun p hp => ?_, ?_⟩
  · exact (Below.heap_alloc w o k (Nat.lt_of_lt_of_le hk h.size)).trans (h.keep k hk hT)
  · rcases List.mem_cons.1 hp with rfl | hp
    · exact ⟨by show (w.heap.push o)[w.heap.size]? = _; simp, .inl h.size⟩
    · exact ⟨(Below.heap_alloc w o p.1 (hlt p hp)).trans (h.own p hp).1, (h.own p hp).2⟩
  · simp only [List.map_cons, List.nodup_cons]
    refine ⟨fun hm => ?_, h.nodup⟩
    obtain ⟨p, hp, e⟩ := List.mem_map.1 hm
    have := hlt p hp
    omega
/-- A callee that was lent nothing. -/
theorem St.callF {L1 : Hp} (h : St w0 T L w) (k : St w [] L1 w') : St w0 T (L1 ++ L) w' := by
  have hlt : ∀ p, p ∈ L → p.1 < w.heap.size := fun p hp => lt_of_heap (h.own p hp).1
  have hge : ∀ p, p ∈ L1 → w.heap.size ≤ p.1 := fun p hp => (k.own p hp).2.elim id (fun h => by cases h)
  refine ⟨k.os.trans h.os, k.tape.trans h.tape, k.output.trans h.output, Nat.le_trans h.size k.size, fun i hi hT => ?_, fun p hp => ?_, ?_⟩
  · exact (k.keep i (Nat.lt_of_lt_of_le hi h.size) (by simp)).trans (h.keep i hi hT)
  · rcases List.mem_append.1 hp with hp | hp
    · exact ⟨(k.own p hp).1, .inl (Nat.le_trans h.size (hge p hp))⟩
    · exact ⟨(k.keep p.1 (hlt p hp) (by simp)).trans (h.own p hp).1, (h.own p hp).2⟩
  · rw [List.map_append, List.nodup_append]
    refine ⟨k.nodup, h.nodup, fun a ha b hb e => ?_⟩
    obtain ⟨p, hp, rfl⟩ := List.mem_map.1 ha
    obtain ⟨q, hq, rfl⟩ := List.mem_map.1 hb
    have := hlt q hq
    have := hge p hp
    omega
theorem St.perm {L' : Hp} (h : St w0 T L w) (hp : L'.Perm L) : St w0 T L' w :=
  ⟨h.os, h.tape, h.output, h.size, h.keep, fun p hm => h.own p (hp.mem_iff.1 hm), ((hp.map _).nodup_iff).2 h.nodup⟩
theorem St.call {L1 : Hp} (h : St w0 T L w) (k : St w [] L1 w') : St w0 T (L ++ L1) w' := (h.callF k).perm List.perm_append_comm
theorem St.drop {L' : Hp} (h : St w0 T L w) (hs : L'.Sublist L) : St w0 T L' w :=
  ⟨h.os, h.tape, h.output, h.size, h.keep, fun p hm => h.own p (hs.subset hm), (hs.map _).nodup h.nodup⟩
theorem St.nil (h : St w0 T L w) : St w0 T [] w := h.drop (List.nil_sublist _)
/-- A callee that was lent the blocks of A. -/
theorem St.lend {A C L1 : Hp} (h : St w0 T (A ++ C) w) (k : St w (A.map (·.1)) L1 w') : St w0 T (L1 ++ C) w' := by
  have hlt : ∀ p, p ∈ A ++ C → p.1 < w.heap.size := fun p hp => lt_of_heap (h.own p hp).1
  have hn := h.nodup
  rw [List.map_append, List.nodup_append] at hn
  have hC : ∀ p, p ∈ C → p.1 ∉ A.map (·.1) := fun p hp hm => hn.2.2 _ hm _ (List.mem_map_of_mem hp) rfl
  have hA : ∀ i, i ∈ A.map (·.1) → w0.heap.size ≤ i ∨ i ∈ T := fun i hi => by
    obtain ⟨p, hp, rfl⟩ := List.mem_map.1 hi
    exact (h.own p (List.mem_append_left _ hp)).2
  refine ⟨k.os.trans h.os, k.tape.trans h.tape, k.output.trans h.output, Nat.le_trans h.size k.size, fun i hi hT => ?_, fun p hp => ?_, ?_⟩
  · refine (k.keep i (Nat.lt_of_lt_of_le hi h.size) (fun hm => ?_)).trans (h.keep i hi hT)
    rcases hA i hm with h1 | h1
    · omega
    · exact hT h1
  · rcases List.mem_append.1 hp with hp | hp
    · refine ⟨(k.own p hp).1, ?_⟩
      rcases (k.own p hp).2 with h1 | h1
      · exact .inl (Nat.le_trans h.size h1)
      · exact hA _ h1
    · exact ⟨(k.keep p.1 (hlt p (List.mem_append_right _ hp)) (hC p hp)).trans (h.own p (List.mem_append_right _ hp)).1, (h.own p (List.mem_append_right _ hp)).2⟩
  · rw [List.map_append, List.nodup_append]
    refine ⟨k.nodup, hn.2.1, fun a ha b hb e => ?_⟩
    subst e
    obtain ⟨p, hp, rfl⟩ := List.mem_map.1 ha
    obtain ⟨q, hq, e⟩ := List.mem_map.1 hb
    rcases (k.own p hp).2 with h1 | h1
    · have := hlt q (List.mem_append_right _ hq)
      omega
    · exact hn.2.2 _ h1 _ (List.mem_map_of_mem hq) e.symm
theorem St.toBelow (h : St w0 [] L w) : Below w0.heap.size w0 w := ⟨h.os, h.tape, h.output, h.size, fun k hk => h.keep k hk (by simp)⟩
theorem St.ofBelow (h : Below w0.heap.size w0 w) : St w0 [] [] w := ⟨h.os, h.tape, h.output, h.size, fun k hk _ => h.block k hk, fun _ h => (by cases h), List.nodup_nil⟩
/-- The i-th owned block is replaced. -/
def setL : Hp → Nat → Obj → Hp
  | [], _, _ => []
  | (b, _) :: r, 0, o => (b, o) :: r
  | p :: r, k + 1, o => p :: setL r k o
def nthL : Hp → Nat → Option (Nat × Obj)
  | [], _ => none
  | p :: _, 0 => some p
  | _ :: r, k + 1 => nthL r k
theorem nthL_mem : ∀ {L : Hp} {i : Nat} {p : Nat × Obj}, nthL L i = some p → p ∈ L
  | [], _, _, h => by cases h
  | q :: r, 0, p, h => by simp [nthL] at h; simp [h]
  | q :: r, k + 1, p, h => List.mem_cons_of_mem _ (nthL_mem (L := r) h)
theorem setL_keys : ∀ (L : Hp) (i : Nat) (o : Obj), (setL L i o).map (·.1) = L.map (·.1)
  | [], _, _ => rfl
  | (b, _) :: r, 0, o => rfl
  | p :: r, k + 1, o => by simp [setL, setL_keys r k o]
theorem setL_mem : ∀ {L : Hp} {i : Nat} {b : Nat} {o o' : Obj} {p : Nat × Obj}, nthL L i = some (b, o) → (L.map (·.1)).Nodup → p ∈ setL L i o' → p = (b, o') ∨ (p ∈ L ∧ p.1 ≠ b)
  | [], _, _, _, _, _, h, _, _ => by cases h
  | (c, oc) :: r, 0, b, o, o', p, h, hn, hm => by
    simp only [nthL, Option.some.injEq, Prod.mk.injEq] at h
    obtain ⟨rfl, rfl⟩ := h
    simp only [setL, List.mem_cons] at hm
    rcases hm with rfl | hm
    · exact .inl rfl
    · refine .inr ⟨List.mem_cons_of_mem _ hm, fun e => ?_⟩
      simp only [List.map_cons, List.nodup_cons] at hn
      exact hn.1 (e ▸ List.mem_map_of_mem hm)
  | q :: r, k + 1, b, o, o', p, h, hn, hm => by
    simp only [setL, List.mem_cons] at hm
    simp only [List.map_cons, List.nodup_cons] at hn
    rcases hm with rfl | hm
    · refine .inr ⟨List.mem_cons_self, fun e => ?_⟩
      exact hn.1 (e ▸ List.mem_map_of_mem (f := (·.1)) (nthL_mem (L := r) h))
    · rcases setL_mem (L := r) h hn.2 hm with h1 | ⟨h1, h2⟩
      · exact .inl h1
      · exact .inr ⟨List.mem_cons_of_mem _ h1, h2⟩
theorem St.setCell (h : St w0 T L w) {i b off : Nat} {cs : Array Value} {e : TypeId} {fz : Nat × Nat} (hi : nthL L i = some (b, .cells cs e fz)) (v : Value) :
    St w0 T (setL L i (.cells (cs.setIfInBounds off v) e fz)) (w.setCell ⟨b, off, none⟩ v) := by
  have hb := (h.own _ (nthL_mem hi))
  refine ⟨h.os, h.tape, h.output, by simpa [World.setCell] using h.size, fun k hk hT => ?_, fun p hp => ?_, by rw [setL_keys]; exact h.nodup⟩
  · refine (Below.heap_setCell w _ v k ?_).trans (h.keep k hk hT)
    rintro rfl
    rcases hb.2 with h1 | h1
    · simp at h1; omega
    · exact hT h1
  · rcases setL_mem hi h.nodup hp with rfl | ⟨hm, hne⟩
    · refine ⟨?_, hb.2⟩
      have := hb.1
      simp only at this
      simp [World.setCell, Array.getElem?_modify, this]
    · exact ⟨(Below.heap_setCell w _ v p.1 hne).trans (h.own p hm).1, (h.own p hm).2⟩
end

/-! regions -/
def nthO : List Oper → Nat → Option Oper
  | [], _ => none
  | o :: _, 0 => some o
  | _ :: r, k + 1 => nthO r k
theorem nthO_eq : ∀ (l : List Oper) (j : Nat), nthO l j = l[j]?
  | [], _ => by simp [nthO]
  | o :: _, 0 => by simp [nthO]
  | _ :: r, k + 1 => by simp [nthO, nthO_eq r k]
def want (ol : List Oper) (o : Oper) (f : Fr) : Option Bool :=
  match o.guard with
  | none => some true
  | some (j, b) =>
    match nthO ol j with
    | none => some false
    | some oj =>
      match oj.dst with
      | none => some false
      | some d =>
        match lk f d with
        | some (.bool x) => some (x == b)
        | some _ => some false
        | none => none
theorem want_eq {ol : List Oper} {o : Oper} {f : Fr} {a : Act} {n : Nat} {b : Bool} (hg : Good a n f) (h : want ol o f = some b) : Region.wanted o (yielded ol.toArray a.tmps) = b := by
  unfold want at h
  unfold Region.wanted
  cases hgd : o.guard with
  | none => simpa [hgd] using h
  | some p =>
    obtain ⟨j, c⟩ := p
    simp only [hgd] at h ⊢
    unfold yielded
    rw [nthO_eq] at h
    simp only [List.getElem?_toArray]
    cases hj : ol[j]? with
    | none => simp [hj] at h ⊢; exact h
    | some oj =>
      simp only [hj] at h
      simp only [Option.bind_some]
      cases hd : oj.dst with
      | none => simp [hd] at h ⊢; exact h
      | some d =>
        simp only [hd] at h
        simp only [Option.bind_some]
        cases hl : lk f d with
        | none => simp [hl] at h
        | some v =>
          have hv := hg.at_ d v hl
          rw [Array.getD_eq_getD_getElem?] at hv
          simp only [hl] at h
          cases ht : a.tmps[d]? with
          | none =>
            rw [ht] at hv
            simp only [Option.getD_none] at hv
            subst hv
            simp [undef] at h
            simpa using h
          | some u =>
            rw [ht] at hv
            simp only [Option.getD_some] at hv
            subst hv
            cases u <;> simp_all
theorem wantT {ol : List Oper} {o : Oper} {f : Fr} {g : Bool} (h : want ol o f = some (g == true)) (hg : g = true) : want ol o f = some true := by rw [h, hg]; rfl
theorem wantF {ol : List Oper} {o : Oper} {f : Fr} {g : Bool} (h : want ol o f = some (g == false)) (hg : g = false) : want ol o f = some true := by rw [h, hg]; rfl
theorem wantNT {ol : List Oper} {o : Oper} {f : Fr} {g : Bool} (h : want ol o f = some (g == true)) (hg : g = false) : want ol o f = some false := by rw [h, hg]; rfl
theorem wantNF {ol : List Oper} {o : Oper} {f : Fr} {g : Bool} (h : want ol o f = some (g == false)) (hg : g = true) : want ol o f = some false := by rw [h, hg]; rfl

/-- The operation's run, from whatever frame holds at least f. -/
def Run (P : Program) (o : Oper) (f : Fr) (w : World) (r : Next) (w' : World) : Prop :=
  ∀ ρ : Operand → Value, (∀ x v, ev f x = some v → ρ x = v) → (execOp ρ o).run P w = .ok r w'
def WL (P : Program) (n : Nat) (ol l : List Oper) (K : Fr → World → Prop) (f : Fr) (w : World) : Prop :=
  ∀ (Q : Exit → Act → World → Prop) (a : Act), Good a n f → (∀ a' f' w', Good a' n f' → K f' w' → Q .normal a' w') → wpList P ol.toArray Q l a w
def WQ (P : Program) (n : Nat) (ol l : List Oper) (C : World → Prop) (K : Fr → Prop) (f : Fr) : Prop :=
  ∀ a, Good a n f → wpQuiet P ol.toArray C (fun a' => ∃ f', Good a' n f' ∧ K f') l a
section
variable {P : Program} {n : Nat} {ol rest : List Oper} {o : Oper} {K : Fr → World → Prop} {f : Fr} {w w' : World} {d : Nat} {v : Value}
theorem WC.region {id : Nat} {l : List Oper} {Q : Kont} (h : WL P n l l (fun f w => Q .normal f w) f w) : WC P n (.region id l.toArray false) Q f w := fun a ha =>
  wp_region_lit (h (qa n Q) a ha fun _ f' _ hg hk => ⟨f', hg, hk⟩)
theorem WC.regionQ {id : Nat} {l : List Oper} {Q : Kont} (C : World → Prop) (hm : P.follows .mixedOrders = true) (hl : Region.lexB .any l.toArray = true)
    (hC : C { heap := w.heap, tape := w.tape, drawn := w.drawn + 1, os := w.os, output := w.output }) (h : WQ P n l l C (fun f' => ∀ w', C w' → Q .normal f' w') f) : WC P n (.region id l.toArray true) Q f w := fun a ha =>
  wp_region_quiet hm hl hC (by
    have h1 := h a ha
    have e : (l.toArray).toList = l := by simp
    rw [e]
    refine (?_ : ∀ (l : List Oper) (a : Act), wpQuiet P _ C (fun a' => ∃ f', Good a' n f' ∧ ∀ w', C w' → Q .normal f' w') l a → wpQuiet P _ C (fun a' => ∀ w', C w' → qa n Q .normal a' w') l a) l a h1
    intro l
    induction l with
    | nil =>
      rintro a ⟨f', hg, hk⟩ w' hw'
      exact ⟨f', hg, hk w' hw'⟩
    | cons o r ih =>
      intro a ha
      unfold wpQuiet at ha ⊢
      split
      · rename_i hw
        rw [if_pos hw] at ha
        exact Oper.quiet_mono ih ha
      · rename_i hw
        rw [if_neg hw] at ha
        exact ih _ ha)
theorem WL.nil (h : K f w) : WL P n ol [] K f w := fun _ a ha hk => wpList_nil (hk a f w ha h)
theorem WL.sub {l : List Oper} (F : Fr) (hs : Sub F f) (h : WL P n ol l K F w) : WL P n ol l K f w := fun Q a ha hk => h Q a (ha.sub hs) hk
theorem WL.val (hw : want ol o f = some true) (hd : o.dst = some d) (hn : Nat.blt d n = true) (hy : Run P o f w (.value v) w') (k : WL P n ol rest K ((d, v) :: f) w') : WL P n ol (o :: rest) K f w := fun Q a ha hk => by
  unfold wpList
  rw [if_pos (want_eq ha hw)]
  refine .inl ?_
  unfold Oper.wp
  rw [hy a.eval fun x v hx => ha.ev hx]
  show wpList _ _ _ _ _ _
  rw [hd]
  exact k Q _ (ha.put hn v) hk
theorem WL.unit (hw : want ol o f = some true) (hd : o.dst = none) (hy : Run P o f w .skip w') (k : WL P n ol rest K f w') : WL P n ol (o :: rest) K f w := fun Q a ha hk => by
  unfold wpList
  rw [if_pos (want_eq ha hw)]
  refine .inl ?_
  unfold Oper.wp
  rw [hy a.eval fun x v hx => ha.ev hx]
  show wpList _ _ _ _ _ _
  rw [hd]
  exact k Q _ ha hk
theorem WL.skip (hw : want ol o f = some false) (hd : o.dst = some d) (hn : Nat.blt d n = true) (k : WL P n ol rest K ((d, undef) :: f) w) : WL P n ol (o :: rest) K f w := fun Q a ha hk => by
  unfold wpList
  rw [if_neg (by rw [want_eq ha hw]; exact Bool.false_ne_true), hd]
  exact k Q _ (ha.put hn undef) hk
theorem WL.call {g : FuncId} {args : Array Value} {R : Ending → World → Prop} (hw : want ol o f = some true) (hd : o.dst = some d) (hn : Nat.blt d n = true) (hy : Run P o f w (.enter g args) w) (hc : Calls P g args w R)
    (k : ∀ e w', R e w' → ∃ v, e = .returned v ∧ WL P n ol rest K ((d, v) :: f) w') : WL P n ol (o :: rest) K f w := fun Q a ha hk => by
  unfold wpList
  rw [if_pos (want_eq ha hw)]
  refine .inl ?_
  unfold Oper.wp
  rw [hy a.eval fun x v hx => ha.ev hx]
  refine hc.mono ?_
  intro e w' hr
  obtain ⟨v, rfl, hk'⟩ := k e w' hr
  show wpList _ _ _ _ _ _
  rw [hd]
  exact hk' Q _ (ha.put hn v) hk
theorem WL.call0 {g : FuncId} {args : Array Value} {R : Ending → World → Prop} (hw : want ol o f = some true) (hd : o.dst = none) (hy : Run P o f w (.enter g args) w) (hc : Calls P g args w R)
    (k : ∀ e w', R e w' → ∃ v, e = .returned v ∧ WL P n ol rest K f w') : WL P n ol (o :: rest) K f w := fun Q a ha hk => by
  unfold wpList
  rw [if_pos (want_eq ha hw)]
  refine .inl ?_
  unfold Oper.wp
  rw [hy a.eval fun x v hx => ha.ev hx]
  refine hc.mono ?_
  intro e w' hr
  obtain ⟨v, rfl, hk'⟩ := k e w' hr
  show wpList _ _ _ _ _ _
  rw [hd]
  exact hk' Q _ ha hk
/-- A guarded group that ends in '&&' or '||': both ways meet behind the pick. -/
theorem WL.meetAnd {l : List Oper} {w0 : World} {T : List Nat} {L : Hp} {g b : Bool} (k s d : Nat) (F : Fr) (hs : lk f s = some (.bool g)) (hst : St w0 T L w)
    (hT : g = true → (∀ w', St w0 T L w' → WL P n ol (l.drop k) K ((d, .bool (g && b)) :: F) w') → WL P n ol l K f w)
    (hF : g = false → (∀ w', St w0 T L w' → WL P n ol (l.drop k) K ((d, .bool (g && b)) :: F) w') → WL P n ol l K f w)
    (J : ∀ w', St w0 T L w' → WL P n ol (l.drop k) K ((d, .bool (g && b)) :: F) w') : WL P n ol l K f w := by
  cases h : g
  · exact hF h J
  · exact hT h J
theorem WL.meetOr {l : List Oper} {w0 : World} {T : List Nat} {L : Hp} {g b : Bool} (k s d : Nat) (F : Fr) (hs : lk f s = some (.bool g)) (hst : St w0 T L w)
    (hF : g = false → (∀ w', St w0 T L w' → WL P n ol (l.drop k) K ((d, .bool (g || b)) :: F) w') → WL P n ol l K f w)
    (hT : g = true → (∀ w', St w0 T L w' → WL P n ol (l.drop k) K ((d, .bool (g || b)) :: F) w') → WL P n ol l K f w)
    (J : ∀ w', St w0 T L w' → WL P n ol (l.drop k) K ((d, .bool (g || b)) :: F) w') : WL P n ol l K f w := by
  cases h : g
  · exact hF h J
  · exact hT h J
theorem WL.fin {l : List Oper} {w0 : World} {T : List Nat} {L : Hp} {V V' : Value} {F : Fr} (J : ∀ w', St w0 T L w' → WL P n ol l K ((d, V) :: F) w') (hst : St w0 T L w) (hv : lk f d = some V') (e : V' = V) (hsub : Sub F f) : WL P n ol l K f w :=
  WL.sub ((d, V) :: F) ⟨e ▸ hv, hsub⟩ (J w hst)
theorem andT {g b : Bool} (h : g = true) : Value.bool b = .bool (g && b) := by rw [h]; rfl
theorem andF {g b : Bool} (h : g = false) : Value.bool false = .bool (g && b) := by rw [h]; rfl
theorem orT {g b : Bool} (h : g = true) : Value.bool true = .bool (g || b) := by rw [h]; rfl
theorem orF {g b : Bool} (h : g = false) : Value.bool b = .bool (g || b) := by rw [h]; rfl
end
section
variable {P : Program} {n : Nat} {ol rest : List Oper} {o : Oper} {C : World → Prop} {K : Fr → Prop} {f : Fr} {d : Nat} {v : Value}
theorem WQ.nil (h : K f) : WQ P n ol [] C K f := fun _ ha => wpQuiet_nil ⟨f, ha, h⟩
theorem WQ.sub {l : List Oper} (F : Fr) (hs : Sub F f) (h : WQ P n ol l C K F) : WQ P n ol l C K f := fun a ha => h a (ha.sub hs)
theorem WQ.val (hw : want ol o f = some true) (hd : o.dst = some d) (hn : Nat.blt d n = true) (hy : ∀ w, C w → Run P o f w (.value v) w) (k : WQ P n ol rest C K ((d, v) :: f)) : WQ P n ol (o :: rest) C K f := fun a ha => by
  unfold wpQuiet
  rw [if_pos (want_eq ha hw)]
  refine ⟨v, fun w hC => ?_, ?_⟩
  · unfold Oper.quietAt
    rw [hy w hC a.eval fun x v hx => ha.ev hx]
    exact ⟨rfl, rfl⟩
  · rw [hd]
    exact k _ (ha.put hn v)
theorem WQ.call {g : FuncId} {args : Array Value} (hw : want ol o f = some true) (hd : o.dst = some d) (hn : Nat.blt d n = true) (hy : ∀ w, C w → Run P o f w (.enter g args) w)
    (hc : ∀ w, C w → Calls P g args w fun e w' => e = .returned v ∧ C w') (k : WQ P n ol rest C K ((d, v) :: f)) : WQ P n ol (o :: rest) C K f := fun a ha => by
  unfold wpQuiet
  rw [if_pos (want_eq ha hw)]
  refine ⟨v, fun w hC => ?_, ?_⟩
  · unfold Oper.quietAt
    rw [hy w hC a.eval fun x v hx => ha.ev hx]
    exact ⟨rfl, hc w hC⟩
  · rw [hd]
    exact k _ (ha.put hn v)
theorem WQ.skip (hw : want ol o f = some false) (hd : o.dst = some d) (hn : Nat.blt d n = true) (k : WQ P n ol rest C K ((d, undef) :: f)) : WQ P n ol (o :: rest) C K f := fun a ha => by
  unfold wpQuiet
  rw [if_neg (by rw [want_eq ha hw]; exact Bool.false_ne_true), hd]
  exact k _ (ha.put hn undef)
theorem WQ.meetAnd {l : List Oper} {g b : Bool} (k s d : Nat) (F : Fr) (hs : lk f s = some (.bool g))
    (hT : g = true → WQ P n ol (l.drop k) C K ((d, .bool (g && b)) :: F) → WQ P n ol l C K f)
    (hF : g = false → WQ P n ol (l.drop k) C K ((d, .bool (g && b)) :: F) → WQ P n ol l C K f)
    (J : WQ P n ol (l.drop k) C K ((d, .bool (g && b)) :: F)) : WQ P n ol l C K f := by
  cases h : g
  · exact hF h J
  · exact hT h J
theorem WQ.meetOr {l : List Oper} {g b : Bool} (k s d : Nat) (F : Fr) (hs : lk f s = some (.bool g))
    (hF : g = false → WQ P n ol (l.drop k) C K ((d, .bool (g || b)) :: F) → WQ P n ol l C K f)
    (hT : g = true → WQ P n ol (l.drop k) C K ((d, .bool (g || b)) :: F) → WQ P n ol l C K f)
    (J : WQ P n ol (l.drop k) C K ((d, .bool (g || b)) :: F)) : WQ P n ol l C K f := by
  cases h : g
  · exact hF h J
  · exact hT h J
theorem WQ.fin {l : List Oper} {V V' : Value} {F : Fr} (J : WQ P n ol l C K ((d, V) :: F)) (hv : lk f d = some V') (e : V' = V) (hsub : Sub F f) : WQ P n ol l C K f :=
  WQ.sub ((d, V) :: F) ⟨e ▸ hv, hsub⟩ J
end
end Go.Proofs.Ytlmcekfdlgkffaa
namespace Go.Proofs.Ytlmcekfdlgkffaa
open Go Go.RowKit
set_option linter.unusedVariables false
set_option linter.unusedSimpArgs false

abbrev i64 (n : Int) : Value := .int .i64 n
section
variable {P : Program} {o : Oper} {f : Fr} {w : World} {v : Value}
theorem Run.move {x : Operand} (ho : o.op = .move x) (hx : ev f x = some v) : Run P o f w (.value v) w := fun ρ hρ => by
  simp [execOp, ho, hρ _ _ hx]
theorem Run.assign {x : Operand} (ho : o.op = .assign x) (hx : ev f x = some v) : Run P o f w (.value v) w := fun ρ hρ => by
  simp [execOp, ho, hρ _ _ hx]
theorem Run.pick {c a b : Operand} {g x y : Bool} (ho : o.op = .pick c a b) (hc : ev f c = some (.bool g)) (ha : ev f a = some (.bool x)) (hb : ev f b = some (.bool y)) : Run P o f w (.value (.bool (bif g then x else y))) w := fun ρ hρ => by
  cases g <;> simp [execOp, ho, hρ _ _ hc, hρ _ _ ha, hρ _ _ hb, asBool]
theorem Run.pickT {c a b : Operand} {g : Bool} (ho : o.op = .pick c a b) (hc : ev f c = some (.bool g)) (hg : g = true) (ha : ev f a = some v) : Run P o f w (.value v) w := fun ρ hρ => by
  subst hg
  simp [execOp, ho, hρ _ _ hc, hρ _ _ ha, asBool]
theorem Run.pickF {c a b : Operand} {g : Bool} (ho : o.op = .pick c a b) (hc : ev f c = some (.bool g)) (hg : g = false) (ha : ev f b = some v) : Run P o f w (.value v) w := fun ρ hρ => by
  subst hg
  simp [execOp, ho, hρ _ _ hc, hρ _ _ ha, asBool]
theorem Run.not {t : TypeId} {x : Operand} {b : Bool} (ho : o.op = .unOp .not t x) (hx : ev f x = some (.bool b)) : Run P o f w (.value (.bool (!b))) w := fun ρ hρ => by
  simp [execOp, ho, hρ _ _ hx, Op.unary]
theorem Run.neg {t : TypeId} {x : Operand} {k : IntKind} {a : Int} (ho : o.op = .unOp .neg t x) (hx : ev f x = some (.int k a)) (h : k.wrap (0 - a) = -a) : Run P o f w (.value (.int k (-a))) w := fun ρ hρ => by
  simp [execOp, ho, hρ _ _ hx, Op.unary, Op.intArith]
  simpa using h
section
variable {t t' : TypeId} {x y : Operand} {k : IntKind} {a b : Int}
theorem Run.lss (ho : o.op = .binOp .lss t x y t') (hx : ev f x = some (.int k a)) (hy : ev f y = some (.int k b)) : Run P o f w (.value (.bool (decide (a < b)))) w := fun ρ hρ => by
  simp [execOp, ho, hρ _ _ hx, hρ _ _ hy, eqGuard, binOp, Op.intCmp]
theorem Run.leq (ho : o.op = .binOp .leq t x y t') (hx : ev f x = some (.int k a)) (hy : ev f y = some (.int k b)) : Run P o f w (.value (.bool (decide (a ≤ b)))) w := fun ρ hρ => by
  simp [execOp, ho, hρ _ _ hx, hρ _ _ hy, eqGuard, binOp, Op.intCmp]
theorem Run.gtr (ho : o.op = .binOp .gtr t x y t') (hx : ev f x = some (.int k a)) (hy : ev f y = some (.int k b)) : Run P o f w (.value (.bool (decide (b < a)))) w := fun ρ hρ => by
  simp [execOp, ho, hρ _ _ hx, hρ _ _ hy, eqGuard, binOp, Op.intCmp]
theorem Run.geq (ho : o.op = .binOp .geq t x y t') (hx : ev f x = some (.int k a)) (hy : ev f y = some (.int k b)) : Run P o f w (.value (.bool (decide (b ≤ a)))) w := fun ρ hρ => by
  simp [execOp, ho, hρ _ _ hx, hρ _ _ hy, eqGuard, binOp, Op.intCmp]
theorem Run.eql (ho : o.op = .binOp .eql t x y t') (hx : ev f x = some (.int k a)) (hy : ev f y = some (.int k b)) : Run P o f w (.value (.bool (decide (a = b)))) w := fun ρ hρ => by
  simp [execOp, ho, hρ _ _ hx, hρ _ _ hy, eqGuard, binOp, Op.intCmp]
  rfl
theorem Run.neq (ho : o.op = .binOp .neq t x y t') (hx : ev f x = some (.int k a)) (hy : ev f y = some (.int k b)) : Run P o f w (.value (.bool (!decide (a = b)))) w := fun ρ hρ => by
  simp [execOp, ho, hρ _ _ hx, hρ _ _ hy, eqGuard, binOp, Op.intCmp]
  rfl
theorem Run.addW (ho : o.op = .binOp .add t x y t') (hx : ev f x = some (.int k a)) (hy : ev f y = some (.int k b)) : Run P o f w (.value (.int k (k.wrap (a + b)))) w := fun ρ hρ => by
  simp [execOp, ho, hρ _ _ hx, hρ _ _ hy, eqGuard, binOp, Op.intArith]
theorem Run.subW (ho : o.op = .binOp .sub t x y t') (hx : ev f x = some (.int k a)) (hy : ev f y = some (.int k b)) : Run P o f w (.value (.int k (k.wrap (a - b)))) w := fun ρ hρ => by
  simp [execOp, ho, hρ _ _ hx, hρ _ _ hy, eqGuard, binOp, Op.intArith]
theorem Run.mulW (ho : o.op = .binOp .mul t x y t') (hx : ev f x = some (.int k a)) (hy : ev f y = some (.int k b)) : Run P o f w (.value (.int k (k.wrap (a * b)))) w := fun ρ hρ => by
  simp [execOp, ho, hρ _ _ hx, hρ _ _ hy, eqGuard, binOp, Op.intArith]
end
/-- Within int's bounds. -/
abbrev In64 (a : Int) : Prop := -9223372036854775808 ≤ a ∧ a ≤ 9223372036854775807
theorem wrap_in {a : Int} (h : In64 a) : IntKind.i64.wrap a = a := IntWalk.i64_in a h
section
variable {t t' : TypeId} {x y : Operand} {a b : Int}
theorem Run.add (ho : o.op = .binOp .add t x y t') (hx : ev f x = some (.int .i64 a)) (hy : ev f y = some (.int .i64 b)) (h : In64 (a + b)) : Run P o f w (.value (.int .i64 (a + b))) w := by
  have := Run.addW (P := P) (w := w) ho hx hy
  rwa [wrap_in h] at this
theorem Run.sub (ho : o.op = .binOp .sub t x y t') (hx : ev f x = some (.int .i64 a)) (hy : ev f y = some (.int .i64 b)) (h : In64 (a - b)) : Run P o f w (.value (.int .i64 (a - b))) w := by
  have := Run.subW (P := P) (w := w) ho hx hy
  rwa [wrap_in h] at this
theorem Run.mul (ho : o.op = .binOp .mul t x y t') (hx : ev f x = some (.int .i64 a)) (hy : ev f y = some (.int .i64 b)) (h : In64 (a * b)) : Run P o f w (.value (.int .i64 (a * b))) w := by
  have := Run.mulW (P := P) (w := w) ho hx hy
  rwa [wrap_in h] at this
theorem Run.quo (ho : o.op = .binOp .quo t x y t') (hx : ev f x = some (.int .i64 a)) (hy : ev f y = some (.int .i64 b)) (h0 : 0 ≤ a) (h1 : 0 < b) (h : a ≤ 9223372036854775807) : Run P o f w (.value (.int .i64 (a / b))) w := fun ρ hρ => by
  have hb : b ≠ 0 := by omega
  have e : IntKind.i64.wrap (a.tdiv b) = a / b := by
    rw [Int.tdiv_eq_ediv_of_nonneg h0]
    refine wrap_in ⟨?_, ?_⟩
    · have := Int.ediv_nonneg h0 (Int.le_of_lt h1); omega
    · exact Int.le_trans (Int.ediv_le_self b h0) h
  simp [execOp, ho, hρ _ _ hx, hρ _ _ hy, eqGuard, binOp, Op.intDiv, hb, e]
theorem Run.rem (ho : o.op = .binOp .rem t x y t') (hx : ev f x = some (.int .i64 a)) (hy : ev f y = some (.int .i64 b)) (h0 : 0 ≤ a) (h1 : 0 < b) : Run P o f w (.value (.int .i64 (a % b))) w := fun ρ hρ => by
  have hb : b ≠ 0 := by omega
  have e : a.tmod b = a % b := Int.tmod_eq_emod_of_nonneg h0
  simp [execOp, ho, hρ _ _ hx, hρ _ _ hy, eqGuard, binOp, Op.intDiv, hb, e]
theorem Run.quoT (ho : o.op = .binOp .quo t x y t') (hx : ev f x = some (.int .i64 a)) (hy : ev f y = some (.int .i64 b)) (h1 : b ≠ 0) : Run P o f w (.value (.int .i64 (IntKind.i64.wrap (a.tdiv b)))) w := fun ρ hρ => by
  simp [execOp, ho, hρ _ _ hx, hρ _ _ hy, eqGuard, binOp, Op.intDiv, h1]
theorem Run.remT (ho : o.op = .binOp .rem t x y t') (hx : ev f x = some (.int .i64 a)) (hy : ev f y = some (.int .i64 b)) (h1 : b ≠ 0) : Run P o f w (.value (.int .i64 (a.tmod b))) w := fun ρ hρ => by
  simp [execOp, ho, hρ _ _ hx, hρ _ _ hy, eqGuard, binOp, Op.intDiv, h1]
end
section
variable {t t' : TypeId} {x y : Operand} {a b : ByteArray}
theorem toList_inj {a b : ByteArray} : (a.toList == b.toList) = decide (a = b) := by
  rw [ByteArray.toList_eq, ByteArray.toList_eq, Bool.eq_iff_iff]
  simp only [beq_iff_eq, decide_eq_true_eq]
  constructor
  · intro h
    have := Array.toList_inj.1 h
    cases a; cases b
    simp_all
  · rintro rfl
    rfl
theorem Run.eqlS (ho : o.op = .binOp .eql t x y t') (hx : ev f x = some (.string a)) (hy : ev f y = some (.string b)) : Run P o f w (.value (.bool (decide (a = b)))) w := fun ρ hρ => by
  rw [← toList_inj]
  simp [execOp, ho, hρ _ _ hx, hρ _ _ hy, eqGuard, binOp, Op.stringOp]
theorem Run.neqS (ho : o.op = .binOp .neq t x y t') (hx : ev f x = some (.string a)) (hy : ev f y = some (.string b)) : Run P o f w (.value (.bool (!decide (a = b)))) w := fun ρ hρ => by
  rw [← toList_inj]
  simp [execOp, ho, hρ _ _ hx, hρ _ _ hy, eqGuard, binOp, Op.stringOp]
end
theorem equalIn_bool {t : TypeId} {a b : Bool} (d : Nat) (hu : ∀ w, (underlying t).run P w = .ok .bool w) : (Op.equalIn (d + 1) t (.bool a) (.bool b)).run P w = .ok (a == b) w := by
  rw [Op.equalIn]
  simp [hu]
theorem equal_bool {t : TypeId} {a b : Bool} (hu : ∀ w, (underlying t).run P w = .ok .bool w) : (Op.equal t (.bool a) (.bool b)).run P w = .ok (a == b) w := equalIn_bool 9999 hu
theorem Run.eqlB {t t' : TypeId} {x y : Operand} {a b : Bool} (hu : ∀ w, (underlying t).run P w = .ok .bool w) (ho : o.op = .binOp .eql t x y t') (hx : ev f x = some (.bool a)) (hy : ev f y = some (.bool b)) : Run P o f w (.value (.bool (a == b))) w := fun ρ hρ => by
  simp [execOp, ho, hρ _ _ hx, hρ _ _ hy, eqGuard, binOp, equal_bool hu]
theorem Run.neqB {t t' : TypeId} {x y : Operand} {a b : Bool} (hu : ∀ w, (underlying t).run P w = .ok .bool w) (ho : o.op = .binOp .neq t x y t') (hx : ev f x = some (.bool a)) (hy : ev f y = some (.bool b)) : Run P o f w (.value (.bool (!(a == b)))) w := fun ρ hρ => by
  simp [execOp, ho, hρ _ _ hx, hρ _ _ hy, eqGuard, binOp, equal_bool hu]
theorem neg_in {a : Int} (h : In64 (-a)) : IntKind.i64.wrap (0 - a) = -a := by rw [Int.zero_sub]; exact wrap_in h
theorem Run.conv {s d : TypeId} {x : Operand} {k k' : IntKind} {a : Int} (hs : ∀ w, (underlying s).run P w = .ok (.int k') w) (hd : ∀ w, (underlying d).run P w = .ok (.int k) w) (ho : o.op = .convert s d x) (hx : ev f x = some (.int k' a)) : Run P o f w (.value (.int k (k.wrap a))) w := fun ρ hρ => by
  simp [execOp, ho, hρ _ _ hx, convert, hs, hd, Conv.intToInt]
theorem Run.lenStr {t : TypeId} {x : Operand} {s : ByteArray} (hu : ∀ w, (underlying t).run P w = .ok .string w) (ho : o.op = .call { callee := .builtin .len, args := #[x], argTypes := #[t] }) (hx : ev f x = some (.string s)) : Run P o f w (.value (.int .i64 s.size)) w := fun ρ hρ => by
  simp [execOp, ho, hρ _ _ hx, resolve, invoke, builtin, Builtin.len_, hu, goInt]
theorem Run.lenSl {t e : TypeId} {x : Operand} {a : Option Addr} {l c : Nat} (hu : ∀ w, (underlying t).run P w = .ok (.slice e) w) (ho : o.op = .call { callee := .builtin .len, args := #[x], argTypes := #[t] }) (hx : ev f x = some (.slice a l c)) : Run P o f w (.value (.int .i64 l)) w := fun ρ hρ => by
  simp [execOp, ho, hρ _ _ hx, resolve, invoke, builtin, Builtin.len_, hu, goInt]
theorem Run.extract {x : Operand} {i : Nat} {vs : Array Value} (ho : o.op = .extract x i) (hx : ev f x = some (.tuple vs)) (hv : vs.toList[i]? = some v) : Run P o f w (.value v) w := fun ρ hρ => by
  have : vs[i]? = some v := by simpa using hv
  simp [execOp, ho, hρ _ _ hx, Instr.extract, this]
/-- A string's byte. -/
def sbyte (s : ByteArray) (k : Nat) : UInt8 := s.data.toList.getD k 0
theorem Run.idxStr {t : TypeId} {x i : Operand} {s : ByteArray} {k : IntKind} {n : Int} (hu : ∀ w, (underlying t).run P w = .ok .string w) (ho : o.op = .index t x i) (hx : ev f x = some (.string s)) (hi : ev f i = some (.int k n)) (h0 : 0 ≤ n) (h : n.toNat < s.size) : Run P o f w (.value (.int .u8 ((sbyte s n.toNat).toNat))) w := fun ρ hρ => by
  have e : s[n.toNat]? = some s[n.toNat] := getElem?_pos s n.toNat h
  have e2 : sbyte s n.toNat = s[n.toNat] := by
    unfold sbyte
    have : n.toNat < s.data.toList.length := by simpa using h
    rw [List.getD_eq_getElem?_getD, List.getElem?_eq_getElem this]
    rfl
  rw [e2]
  simp [execOp, ho, hρ _ _ hx, hρ _ _ hi, Instr.index, hu, asIntOf, h0, e]
/-- Several operands. -/
def evs (f : Fr) : List Operand → Option (List Value)
  | [] => some []
  | x :: r => match ev f x, evs f r with
    | some v, some vs => some (v :: vs)
    | _, _ => none
theorem evs_map {f : Fr} {ρ : Operand → Value} (hρ : ∀ x v, ev f x = some v → ρ x = v) : ∀ {xs : List Operand} {vs : List Value}, evs f xs = some vs → xs.map ρ = vs
  | [], vs, h => by simp [evs] at h; subst h; rfl
  | x :: r, vs, h => by
    unfold evs at h
    split at h
    · rename_i v us h1 h2
      cases h
      rw [List.map_cons, hρ _ _ h1, evs_map hρ h2]
    · cases h
theorem Run.ext {fo : Operand} {args : Array Operand} {ts : Array TypeId} {g : FuncId} {vl : List Value} (hc : ∀ w, (callFunc g vl.toArray).run P w = .ok (.value v) w) (ho : o.op = .call { callee := .value fo, args := args, argTypes := ts })
    (hfo : ev f fo = some (.func (.func g) #[] #[])) (hv : evs f args.toList = some vl) : Run P o f w (.value v) w := fun ρ hρ => by
  have e : args.map ρ = vl.toArray := by apply Array.toList_inj.1; rw [Array.toList_map, evs_map hρ hv]
  simp [execOp, ho, resolve, hρ _ _ hfo, Deferred.ofValue, invoke, hc, e]
/-- The place of a field. -/
theorem Run.field {s : TypeId} {x : Operand} {fs : Array Field} {i : Nat} {fd : Field} {sz : Nat} {b off : Nat} (hu : ∀ w, (underlying s).run P w = .ok (.struct fs) w) (ho : o.op = .fieldAddr s x i) (hx : ev f x = some (.pointer (some ⟨b, off, none⟩)))
    (hf : fs.toList[i]? = some fd) (hz : ∀ w, (sizeOf fd.type).run P w = .ok sz w) (hs : Nat.beq sz 0 = false) : Run P o f w (.value (.pointer (some ⟨b, off + fd.offset, none⟩))) w := fun ρ hρ => by
  have hf' : fs[i]? = some fd := by simpa using hf
  have hs' : ¬ sz = 0 := by rintro rfl; simp at hs
  simp [execOp, ho, hρ _ _ hx, Instr.fieldAt, hu, hf', Instr.sureAddr, fieldPlace, hz, hs', Addr.add]
theorem Run.fieldO {s : TypeId} {x : Operand} {fs : Array Field} {i : Nat} {fd : Field} {sz : Nat} {a : Addr} (hu : ∀ w, (underlying s).run P w = .ok (.struct fs) w) (ho : o.op = .fieldAddr s x i) (hx : ev f x = some (.pointer (some a)))
    (hf : fs.toList[i]? = some fd) (hz : ∀ w, (sizeOf fd.type).run P w = .ok sz w) (hs : Nat.beq sz 0 = false) : Run P o f w (.value (.pointer (some (a.add fd.offset)))) w := fun ρ hρ => by
  have hf' : fs[i]? = some fd := by simpa using hf
  have hs' : ¬ sz = 0 := by rintro rfl; simp at hs
  simp [execOp, ho, hρ _ _ hx, Instr.fieldAt, hu, hf', Instr.sureAddr, fieldPlace, hz, hs']
theorem Addr.add_add' (a : Addr) (i j : Nat) : (a.add i).add j = a.add (i + j) := by
  unfold Addr.add
  by_cases hi : i = 0 <;> by_cases hj : j = 0 <;> simp [hi, hj, Nat.add_assoc]
theorem Run.fieldE {s : TypeId} {x : Operand} {fs : Array Field} {i k : Nat} {fd : Field} {sz : Nat} {a : Addr} (hu : ∀ w, (underlying s).run P w = .ok (.struct fs) w) (ho : o.op = .fieldAddr s x i) (hx : ev f x = some (.pointer (some (a.add k))))
    (hf : fs.toList[i]? = some fd) (hz : ∀ w, (sizeOf fd.type).run P w = .ok sz w) (hs : Nat.beq sz 0 = false) : Run P o f w (.value (.pointer (some (a.add (k + fd.offset))))) w := by
  have := Run.fieldO (P := P) (w := w) hu ho hx hf hz hs
  rwa [Addr.add_add'] at this
/-- Where a slice begins. -/
def adr (A : Option Addr) : Addr := A.getD ⟨0, 0, none⟩
theorem Run.idx {t e : TypeId} {x i : Operand} {A : Option Addr} {l c sz : Nat} {k : IntKind} {n : Int} (hu : ∀ w, (underlying t).run P w = .ok (.slice e) w) (hz : ∀ w, (sizeOf e).run P w = .ok sz w) (ho : o.op = .indexAddr t x i) (hx : ev f x = some (.slice A l c)) (hi : ev f i = some (.int k n))
    (hA : 0 < l → A.isSome = true) (h0 : 0 ≤ n) (h1 : n < l) : Run P o f w (.value (.pointer (some ((adr A).add (n.toNat * sz))))) w := fun ρ hρ => by
  obtain ⟨a, rfl⟩ := Option.isSome_iff_exists.1 (hA (by omega))
  simp [execOp, ho, hρ _ _ hx, hρ _ _ hi, Instr.indexAt, hu, hz, asIntOf, h0, h1, adr]
/-- A place in a slice that begins in a block that is known. -/
theorem Run.idxB {t e : TypeId} {x i : Operand} {b off : Nat} {l c sz : Nat} {k : IntKind} {n : Int} (hu : ∀ w, (underlying t).run P w = .ok (.slice e) w) (hz : ∀ w, (sizeOf e).run P w = .ok sz w) (ho : o.op = .indexAddr t x i) (hx : ev f x = some (.slice (some ⟨b, off, none⟩) l c)) (hi : ev f i = some (.int k n))
    (h0 : 0 ≤ n) (h1 : n < l) : Run P o f w (.value (.pointer (some ⟨b, off + n.toNat * sz, none⟩))) w := fun ρ hρ => by
  have e1 : (⟨b, off, none⟩ : Addr).add (n.toNat * sz) = ⟨b, off + n.toNat * sz, none⟩ := by unfold Addr.add; split <;> simp_all
  simp [execOp, ho, hρ _ _ hx, hρ _ _ hi, Instr.indexAt, hu, hz, asIntOf, h0, h1, e1]
theorem Run.call {fo : Operand} {args : Array Operand} {ts : Array TypeId} {g : FuncId} {vl : List Value} (hc : ∀ args w, (callFunc g args).run P w = .ok (.enter g args) w) (ho : o.op = .call { callee := .value fo, args := args, argTypes := ts })
    (hfo : ev f fo = some (.func (.func g) #[] #[])) (hv : evs f args.toList = some vl) : Run P o f w (.enter g vl.toArray) w := fun ρ hρ => by
  have e : args.map ρ = vl.toArray := by apply Array.toList_inj.1; rw [Array.toList_map, evs_map hρ hv]
  simp [execOp, ho, resolve, hρ _ _ hfo, Deferred.ofValue, invoke, hc, e]
/-- A call of a function value that has captured something. -/
theorem Run.callC {fo : Operand} {args : Array Operand} {ts : Array TypeId} {g : FuncId} {vl cl : List Value} (hc : ∀ args w, (callFunc g args).run P w = .ok (.enter g args) w) (ho : o.op = .call { callee := .value fo, args := args, argTypes := ts })
    (hfo : ev f fo = some (.func (.func g) #[] cl.toArray)) (hv : evs f args.toList = some vl) : Run P o f w (.enter g (vl ++ cl).toArray) w := fun ρ hρ => by
  have e : args.map ρ = vl.toArray := by apply Array.toList_inj.1; rw [Array.toList_map, evs_map hρ hv]
  simp [execOp, ho, resolve, hρ _ _ hfo, Deferred.ofValue, invoke, hc, e]
end
end Go.Proofs.Ytlmcekfdlgkffaa
namespace Go.Proofs.Ytlmcekfdlgkffaa
open Go Go.RowKit
set_option linter.unusedVariables false
set_option linter.unusedSimpArgs false

section
variable {w0 w w' : World} {T : List Nat} {L : Hp}
theorem cell_of_heap {b off : Nat} {cl : List Value} {e : TypeId} {fz : Nat × Nat} {v : Value} (h : w.heap[b]? = some (.cells cl.toArray e fz)) (hv : cl[off]? = some v) : w.cell? ⟨b, off, none⟩ = some v := by
  simp [World.cell?, h, hv]
theorem St.at_ (h : St w0 T L w) {i b off : Nat} {cl : List Value} {e : TypeId} {fz : Nat × Nat} {v : Value} (hi : nthL L i = some (b, .cells cl.toArray e fz)) (hv : cl[off]? = some v) : w.cell? ⟨b, off, none⟩ = some v :=
  cell_of_heap (h.own _ (nthL_mem hi)).1 hv
theorem cells_of_heap {P : Program} {b off sz : Nat} {cl vs : List Value} {e : TypeId} {fz : Nat × Nat} (h : w.heap[b]? = some (.cells cl.toArray e fz)) (hv : (cl.drop off).take sz = vs) (hs : vs.length = sz) :
    (loadCells ⟨b, off, none⟩ sz).run P w = .ok vs.toArray w := by
  rw [run_loadCells w _ sz (fun j => vs.getD j undef) (fun j hj => ?_)]
  · congr 1
    congr 1
    apply List.ext_getElem?
    intro j
    simp only [List.getElem?_map]
    by_cases hj : j < sz
    · simp [List.getElem?_range hj, List.getD, show j < vs.length by omega]
    · simp [List.getElem?_eq_none (l := List.range sz) (i := j) (by simp; omega), List.getElem?_eq_none (l := vs) (i := j) (by omega)]
  · have e1 : (⟨b, off, none⟩ : Addr).add j = ⟨b, off + j, none⟩ := by unfold Addr.add; split <;> simp_all
    rw [e1]
    refine cell_of_heap h ?_
    have h1 : vs[j]? = cl[off + j]? := by
      rw [← hv, List.getElem?_take, if_pos hj, List.getElem?_drop]
    rw [← h1]
    simp [List.getD, show j < vs.length by omega]
end
def cellsOf : Value → List Value
  | .agg cs => cs.toList
  | v => [v]
theorem cellsOf_eq (v : Value) : v.cells = (cellsOf v).toArray := by cases v <;> simp [Value.cells, cellsOf]
/-- One cell of a row is replaced. -/
def setV : List Value → Nat → Value → List Value
  | [], _, _ => []
  | _ :: r, 0, v => v :: r
  | x :: r, k + 1, v => x :: setV r k v
theorem setV_eq : ∀ (l : List Value) (i : Nat) (v : Value), setV l i v = l.set i v
  | [], _, _ => by simp [setV]
  | _ :: r, 0, v => rfl
  | x :: r, k + 1, v => by simp [setV, setV_eq r k v]
theorem St.call0 {w0 w w' : World} {T : List Nat} {L : Hp} (h : St w0 T L w) (k : St w [] [] w') : St w0 T L w' := by simpa using h.call k
section
variable {P : Program} {n : Nat} {ol rest : List Oper} {o : Oper} {K : Fr → World → Prop} {f : Fr} {w0 w w' : World} {T : List Nat} {L : Hp} {d : Nat} {v : Value}
theorem Run.load {t : TypeId} {x : Operand} {a : Addr} (ha : ∀ w, (isAgg t).run P w = .ok false w) (ho : o.op = .load t x) (hx : ev f x = some (.pointer (some a))) (hc : w.cell? a = some v) : Run P o f w (.value v) w := fun ρ hρ => by
  simp [execOp, ho, hρ _ _ hx, Instr.loadAt, Instr.sureAddr, loadVar, ha, hc]
theorem Run.loadA {t : TypeId} {x : Operand} {a : Addr} {sz : Nat} {vs : List Value} (ha : ∀ w, (isAgg t).run P w = .ok true w) (hz : ∀ w, (sizeOf t).run P w = .ok sz w) (ho : o.op = .load t x) (hx : ev f x = some (.pointer (some a)))
    (hc : (loadCells a sz).run P w = .ok vs.toArray w) : Run P o f w (.value (.agg vs.toArray)) w := fun ρ hρ => by
  simp [execOp, ho, hρ _ _ hx, Instr.loadAt, Instr.sureAddr, loadVar, ha, hz, hc]
/-- A load out of a block of ours: one cell. -/
theorem Run.loadL (hst : St w0 T L w) (i : Nat) {t : TypeId} {x : Operand} {b off : Nat} {cl : List Value} {e : TypeId} {fz : Nat × Nat} (ha : ∀ w, (isAgg t).run P w = .ok false w) (ho : o.op = .load t x) (hx : ev f x = some (.pointer (some ⟨b, off, none⟩)))
    (hi : nthL L i = some (b, .cells cl.toArray e fz)) (hv : cl[off]? = some v) : Run P o f w (.value v) w := Run.load ha ho hx (hst.at_ hi hv)
/-- A load out of a block of ours: a struct. -/
theorem Run.loadLA (hst : St w0 T L w) (i : Nat) {t : TypeId} {x : Operand} {b off sz : Nat} {cl vs : List Value} {e : TypeId} {fz : Nat × Nat} (ha : ∀ w, (isAgg t).run P w = .ok true w) (hz : ∀ w, (sizeOf t).run P w = .ok sz w) (ho : o.op = .load t x)
    (hx : ev f x = some (.pointer (some ⟨b, off, none⟩))) (hi : nthL L i = some (b, .cells cl.toArray e fz)) (hv : (cl.drop off).take sz = vs) (hs : Nat.beq vs.length sz = true) : Run P o f w (.value (.agg vs.toArray)) w :=
  Run.loadA ha hz ho hx (cells_of_heap (hst.own _ (nthL_mem hi)).1 hv (Nat.eq_of_beq_eq_true hs))
/-- A variable of a parameter's own, or of a struct that is passed by value. -/
theorem WL.box (hst : St w0 T L w) {t : TypeId} {x : Operand} {cl : List Value} (ho : o.op = .box t x) (hw : want ol o f = some true) (hd : o.dst = some d) (hn : Nat.blt d n = true) (hx : ev f x = some v) (hc : cellsOf v = cl)
    (k : ∀ b w', St w0 T ((b, .cells cl.toArray t (0, 0)) :: L) w' → WL P n ol rest K ((d, .pointer (some ⟨b, 0, none⟩)) :: f) w') : WL P n ol (o :: rest) K f w := by
  refine WL.val (w' := w.alloc (.cells cl.toArray t (0, 0))) hw hd hn (fun ρ hρ => ?_) (k _ _ (hst.alloc _))
  simp [execOp, ho, hρ _ _ hx, Instr.box, newVar, newRow, cellsOf_eq, hc]
theorem WL.alloc (hst : St w0 T L w) {t : TypeId} {z : Value} {cl : List Value} (hz : ∀ w, (zeroValue t).run P w = .ok z w) (ho : o.op = .alloc t) (hw : want ol o f = some true) (hd : o.dst = some d) (hn : Nat.blt d n = true) (hc : cellsOf z = cl)
    (k : ∀ b w', St w0 T ((b, .cells cl.toArray t (0, 0)) :: L) w' → WL P n ol rest K ((d, .pointer (some ⟨b, 0, none⟩)) :: f) w') : WL P n ol (o :: rest) K f w := by
  refine WL.val (w' := w.alloc (.cells cl.toArray t (0, 0))) hw hd hn (fun ρ hρ => ?_) (k _ _ (hst.alloc _))
  simp [execOp, ho, Instr.alloc, hz, newVar, newRow, cellsOf_eq, hc]
theorem run_store_ours {a : Addr} {u : Value} (hv : u.oneCell' = true) (hc : (w.cell? a).isSome = true) (hf : w.frozen? a = false) : (store a u).run P w = .ok () (w.setCell a u) := by
  obtain ⟨x, hx⟩ := Option.isSome_iff_exists.1 hc
  cases u <;> simp_all [store, Sem.run, Value.oneCell']
/-- A store of one cell into a block of ours. -/
theorem WL.store (hst : St w0 T L w) (i : Nat) {t : TypeId} {x y : Operand} {b off : Nat} {cl cl' : List Value} {e : TypeId} {lo hi : Nat} (hz : ∀ w, (sizeOf t).run P w = .ok 1 w) (ho : o.op = .store t x y) (hw : want ol o f = some true) (hd : o.dst = none)
    (hx : ev f x = some (.pointer (some ⟨b, off, none⟩))) (hy : ev f y = some v) (hi' : nthL L i = some (b, .cells cl.toArray e (lo, hi))) (hv : v.oneCell' = true) (hoff : Nat.blt off cl.length = true) (hfz : (Nat.ble lo off && Nat.blt off hi) = false) (hcl : setV cl off v = cl')
    (k : ∀ w', St w0 T (setL L i (.cells cl'.toArray e (lo, hi))) w' → WL P n ol rest K f w') : WL P n ol (o :: rest) K f w := by
  have hlt : off < cl.length := Nat.le_of_ble_eq_true hoff
  have hh := (hst.own _ (nthL_mem hi')).1
  have hs := hst.setCell (off := off) hi' v
  have e1 : cl.toArray.setIfInBounds off v = cl'.toArray := by rw [← hcl, setV_eq]; simp
  rw [e1] at hs
  refine WL.unit (w' := w.setCell ⟨b, off, none⟩ v) hw hd (fun ρ hρ => ?_) (k _ hs)
  have hc : (w.cell? ⟨b, off, none⟩).isSome = true := by
    rw [cell_of_heap (v := cl[off]) hh (by simp [hlt])]
    rfl
  have hf : w.frozen? ⟨b, off, none⟩ = false := by
    simp only [World.frozen?, hh]
    rw [Bool.eq_false_iff]
    intro hh2
    simp only [Bool.and_eq_true, decide_eq_true_eq] at hh2
    have a1 : Nat.ble lo off = true := Nat.ble_eq_true_of_le hh2.1
    have a2 : Nat.blt off hi = true := Nat.ble_eq_true_of_le hh2.2
    rw [a1, a2] at hfz
    cases hfz
  have hcs : v.cells = #[v] := by cases v <;> simp_all [Value.oneCell', Value.cells]
  simp [execOp, ho, hρ _ _ hx, hρ _ _ hy, Instr.storeAt, Instr.sureAddr, storeVar, hz, hcs, storeCells, Addr.add, run_store_ours hv hc hf]
end

theorem Sub.app {F G f : Fr} (h : Sub F f) (k : Sub G f) : Sub (F ++ G) f := by
  induction F with
  | nil => exact k
  | cons p r ih => exact ⟨h.1, ih h.2⟩
/-- A loop: the slots of F and the blocks of L stay as they are; I speaks of what turns. -/
theorem WC.loopS {P : Program} {n : Nat} {c : Code} {Q : Kont} {f : Fr} {w0 w : World} {T : List Nat} {L : Hp} (F : Fr) (hF : Sub F f) (hst : St w0 T L w) (I : Nat → Fr → World → Prop) (k0 : Nat) (h0 : I k0 f w)
    (hr : ∀ k f w, I k f w → Sub F f → St w0 T L w → WC P n c (thenK (fun f' w' => Sub F f' ∧ St w0 T L w' ∧ ∃ k', k' < k ∧ I k' f' w') Q) f w) : WC P n (.loop c) Q f w :=
  WC.loopN (fun k f w => I k f w ∧ Sub F f ∧ St w0 T L w) k0 ⟨h0, hF, hst⟩ fun k f w h => (hr k f w h.1 h.2.1 h.2.2).mono fun e f' w' q => by
    cases e
    case normal =>
      obtain ⟨q1, q2, k', q3, q4⟩ := q
      exact ⟨k', q3, q4, q1, q2⟩
    all_goals exact q
/-- A loop whose round turns blocks of ours too: I speaks of them. -/
theorem WC.loopH {P : Program} {n : Nat} {c : Code} {Q : Kont} {f : Fr} {w : World} (F : Fr) (hF : Sub F f) (I : Nat → Fr → World → Prop) (k0 : Nat) (h0 : I k0 f w)
    (hr : ∀ k f w, I k f w → Sub F f → WC P n c (thenK (fun f' w' => Sub F f' ∧ ∃ k', k' < k ∧ I k' f' w') Q) f w) : WC P n (.loop c) Q f w :=
  WC.loopN (fun k f w => I k f w ∧ Sub F f) k0 ⟨h0, hF⟩ fun k f w h => (hr k f w h.1 h.2).mono fun e f' w' q => by
    cases e
    case normal =>
      obtain ⟨q1, k', q3, q4⟩ := q
      exact ⟨k', q3, q4, q1⟩
    all_goals exact q

/-! a body -/
def f0 : List Value → Nat → Fr
  | [], _ => []
  | v :: r, i => (i, v) :: f0 r (i + 1)
theorem f0_spec : ∀ (vs : List Value) (k i : Nat) (v : Value), lk (f0 vs k) i = some v → k ≤ i ∧ vs[i - k]? = some v
  | [], _, _, _, h => by simp [f0, lk] at h
  | u :: r, k, i, v, h => by
    simp only [f0, lk] at h
    cases hb : Nat.beq k i with
    | true =>
      rw [hb] at h
      have := Nat.eq_of_beq_eq_true hb
      subst this
      simp at h
      simp [h]
    | false =>
      rw [hb] at h
      obtain ⟨h1, h2⟩ := f0_spec r (k + 1) i v h
      refine ⟨by omega, ?_⟩
      obtain ⟨j, rfl⟩ : ∃ j, i = k + 1 + j := ⟨i - (k + 1), by omega⟩
      have e1 : k + 1 + j - (k + 1) = j := by omega
      have e2 : k + 1 + j - k = j + 1 := by omega
      rw [e1] at h2
      rw [e2]
      simpa using h2
def retK (P : Program) (fn : Func) (R : Ending → World → Prop) : Kont := fun e f w =>
  (e = .normal ∨ e = .ret) ∧ ∃ v, (∀ tmps : Array Value, (∀ i u, lk f i = some u → tmps.getD i undef = u) → (results fn tmps).run P w = .ok v w) ∧ R (.returned v) w
theorem enter {P : Program} {g : FuncId} {fn : Func} {c : Code} {args : Array Value} {w : World} {R : Ending → World → Prop} {vs : List Value} (n : Nat) (hf : P.funcs[g]? = some fn) (hb : fn.body = some c) (hn : fn.ntmps = n) (ha : args = vs.toArray) (hl : Nat.ble vs.length n = true)
    (h : WC P n c (retK P fn R) (f0 vs 0) w) : Calls P g args w R := by
  refine calls_of_wp hf hb ?_
  subst ha
  have hl' : vs.length ≤ n := Nat.le_of_ble_eq_true hl
  refine Code.wp_mono ?_ (h _ ⟨?_, rfl, ?_⟩)
  · rintro e a w ⟨f, hg, he, v, hv, hR⟩
    have := hv a.tmps hg.at_
    rcases he with rfl | rfl
    · exact ⟨hg.defers, v, this, hR⟩
    · exact ⟨hg.defers, v, this, hR⟩
  · simp [hn]; omega
  · intro i v hi
    obtain ⟨-, h2⟩ := f0_spec vs 0 i v hi
    simp only [Nat.sub_zero] at h2
    rw [Array.getD_eq_getD_getElem?, Array.getElem?_append]
    have hlt : i < vs.length := (List.getElem?_eq_some_iff.1 h2).1
    simp [hlt]
    rw [List.getElem?_eq_getElem hlt] at h2
    exact Option.some.inj h2
section
variable {P : Program} {fn : Func} {R : Ending → World → Prop} {f : Fr} {w : World} {v u x : Value}
theorem retK0 (hr : fn.results = #[]) (h : R (.returned (.tuple #[])) w) : retK P fn R .normal f w := ⟨.inl rfl, _, fun tmps _ => results_none hr tmps P w, h⟩
theorem retK0' (hr : fn.results = #[]) (h : R (.returned (.tuple #[])) w) : retK P fn R .ret f w := ⟨.inr rfl, _, fun tmps _ => results_none hr tmps P w, h⟩
theorem retK1 {t : Nat} (hr : fn.results = #[.tmp t]) (hv : lk f t = some v) (h : R (.returned v) w) : retK P fn R .ret f w :=
  ⟨.inr rfl, v, fun tmps ht => by rw [results_tmp hr, ht _ _ hv], h⟩
theorem retK2 {t t1 : Nat} (hr : fn.results = #[.tmp t, .tmp t1]) (hv : lk f t = some v) (hu : lk f t1 = some u) (h : R (.returned (.tuple #[v, u])) w) : retK P fn R .ret f w :=
  ⟨.inr rfl, _, fun tmps ht => by rw [results_tmp2 hr, ht _ _ hv, ht _ _ hu], h⟩
theorem retK3 {t t1 t2 : Nat} (hr : fn.results = #[.tmp t, .tmp t1, .tmp t2]) (hv : lk f t = some v) (hu : lk f t1 = some u) (hx : lk f t2 = some x) (h : R (.returned (.tuple #[v, u, x])) w) : retK P fn R .ret f w :=
  ⟨.inr rfl, _, fun tmps ht => by rw [results_tmp3 hr, ht _ _ hv, ht _ _ hu, ht _ _ hx], h⟩
/-- The value of a result, whether it lies in a temporary or in a variable. -/
def resV (P : Program) (f : Fr) (w : World) : ResultVar → Value → Prop
  | .tmp t, v => lk f t = some v
  | .cell a t, v => ∃ ad, lk f a = some (.pointer (some ad)) ∧ (loadVar t ad).run P w = .ok v w
theorem resV_or {r : ResultVar} {tmps : Array Value} (ht : ∀ i u, lk f i = some u → tmps.getD i undef = u) (h : resV P f w r v) :
    (∃ t, r = .tmp t ∧ tmps[t]?.getD undef = v) ∨ (∃ a t ad, r = .cell a t ∧ tmps[a]?.getD undef = .pointer (some ad) ∧ (loadVar t ad).run P w = .ok v w) := by
  cases r with
  | tmp t => exact .inl ⟨t, rfl, by simpa using ht _ _ h⟩
  | cell a t =>
    obtain ⟨ad, h1, h2⟩ := h
    exact .inr ⟨a, t, ad, rfl, by simpa using ht _ _ h1, h2⟩
theorem retV1 {r : ResultVar} (hr : fn.results = #[r]) (hv : resV P f w r v) (h : R (.returned v) w) : retK P fn R .ret f w :=
  ⟨.inr rfl, v, fun tmps ht => by
    rcases resV_or ht hv with ⟨t, rfl, h1⟩ | ⟨a, t, ad, rfl, h1, h2⟩ <;> simp_all [results, asAddr], h⟩
theorem retV2 {r1 r2 : ResultVar} (hr : fn.results = #[r1, r2]) (hv : resV P f w r1 v) (hu : resV P f w r2 u) (h : R (.returned (.tuple #[v, u])) w) : retK P fn R .ret f w :=
  ⟨.inr rfl, _, fun tmps ht => by
    rcases resV_or ht hv with ⟨t, rfl, h1⟩ | ⟨a, t, ad, rfl, h1, h2⟩ <;> rcases resV_or ht hu with ⟨t', rfl, h1'⟩ | ⟨a', t', ad', rfl, h1', h2'⟩ <;> simp_all [results, asAddr], h⟩
theorem retV3 {r1 r2 r3 : ResultVar} (hr : fn.results = #[r1, r2, r3]) (hv : resV P f w r1 v) (hu : resV P f w r2 u) (hx : resV P f w r3 x) (h : R (.returned (.tuple #[v, u, x])) w) : retK P fn R .ret f w :=
  ⟨.inr rfl, _, fun tmps ht => by
    rcases resV_or ht hv with ⟨t, rfl, h1⟩ | ⟨a, t, ad, rfl, h1, h2⟩ <;> rcases resV_or ht hu with ⟨t', rfl, h1'⟩ | ⟨a', t', ad', rfl, h1', h2'⟩ <;> rcases resV_or ht hx with ⟨t'', rfl, h1''⟩ | ⟨a'', t'', ad'', rfl, h1'', h2''⟩ <;> simp_all [results, asAddr], h⟩
theorem resV.tmp {t : Nat} (h : lk f t = some v) : resV P f w (.tmp t) v := h
theorem resV.cell {a : Nat} {t : TypeId} {ad : Addr} (h : lk f a = some (.pointer (some ad))) (hv : (loadVar t ad).run P w = .ok v w) : resV P f w (.cell a t) v := ⟨ad, h, hv⟩
theorem run_loadVarA {t : TypeId} {a : Addr} {sz : Nat} {vs : List Value} (ha : ∀ w, (isAgg t).run P w = .ok true w) (hz : ∀ w, (sizeOf t).run P w = .ok sz w) (hc : (loadCells a sz).run P w = .ok vs.toArray w) : (loadVar t a).run P w = .ok (.agg vs.toArray) w := by
  simp [loadVar, ha, hz, hc]
end
end Go.Proofs.Ytlmcekfdlgkffaa
