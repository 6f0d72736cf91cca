/-
  The engine, part 2: the world as a list of owned blocks; judgements over regions; the rules of operations.
-/
import Derived.Test.YtpiimkfonlijdaaE1
namespace Go.Proofs.Ytpiimkfonlijdaa
open Go Go.RowKit
set_option linter.unusedVariables false
set_option linter.unusedSimpArgs false

abbrev Hp := List (Nat × Obj)
/-- Since w0 nothing below has turned but the blocks T; the blocks of L are ours (new, or of T). -/
structure St (w0 : World) (T : List Nat) (L : Hp) (w : World) : Prop where
  os : w.os = w0.os
  tape : w.tape = w0.tape
  output : w.output = w0.output
  size : w0.heap.size ≤ w.heap.size
  keep : ∀ k, k < w0.heap.size → k ∉ T → w.heap[k]? = w0.heap[k]?
  own : ∀ p, p ∈ L → w.heap[p.1]? = some p.2 ∧ (w0.heap.size ≤ p.1 ∨ p.1 ∈ T)
  nodup : (L.map (·.1)).Nodup
theorem lt_of_heap {w : World} {b : Nat} {o : Obj} (h : w.heap[b]? = some o) : b < w.heap.size := (Array.getElem?_eq_some_iff.1 h).1
section
variable {w0 w w' : World} {T : List Nat} {L : Hp}
theorem St.init (w : World) : St w [] [] w := ⟨rfl, rfl, rfl, Nat.le_refl _, fun _ _ _ => rfl, (fun _ h => (by cases h)), List.nodup_nil⟩
theorem St.take (w : World) (L : Hp) (ho : ∀ p, p ∈ L → w.heap[p.1]? = some p.2) (hn : (L.map (·.1)).Nodup) : St w (L.map (·.1)) L w :=
  ⟨rfl, rfl, rfl, Nat.le_refl _, fun _ _ _ => rfl, fun p h => ⟨ho p h, .inr (List.mem_map_of_mem h)⟩, hn⟩
theorem St.drew (h : St w0 T L w) : St w0 T L { heap := w.heap, tape := w.tape, drawn := w.drawn + 1, os := w.os, output := w.output } := ⟨h.os, h.tape, h.output, h.size, h.keep, h.own, h.nodup⟩
theorem St.alloc (h : St w0 T L w) (o : Obj) : St w0 T ((w.heap.size, o) :: L) (w.alloc o) := by
  have hlt : ∀ p, p ∈ L → p.1 < w.heap.size := fun p hp => lt_of_heap (h.own p hp).1
  refine ⟨h.os, h.tape, h.output, Nat.le_trans h.size (by show _ ≤ (w.heap.push o).size; simp), fun k hk hT => ?_, fun p hp => ?_, ?_⟩
  · exact (Below.heap_alloc w o k (Nat.lt_of_lt_of_le hk h.size)).trans (h.keep k hk hT)
  · rcases List.mem_cons.1 hp with rfl | hp
    · exact ⟨by show (w.heap.push o)[w.heap.size]? = _; simp, .inl h.size⟩
    · exact ⟨(Below.heap_alloc w o p.1 (hlt p hp)).trans (h.own p hp).1, (h.own p hp).2⟩
  · simp only [List.map_cons, List.nodup_cons]
    refine ⟨fun hm => ?_, h.nodup⟩
    obtain ⟨p, hp, e⟩ := List.mem_map.1 hm
    have := hlt p hp
    omega
/-- A callee that was lent nothing. -/
theorem St.callF {L1 : Hp} (h : St w0 T L w) (k : St w [] L1 w') : St w0 T (L1 ++ L) w' := by
  have hlt : ∀ p, p ∈ L → p.1 < w.heap.size := fun p hp => lt_of_heap (h.own p hp).1
  have hge : ∀ p, p ∈ L1 → w.heap.size ≤ p.1 := fun p hp => (k.own p hp).2.elim id (fun h => by cases h)
  refine ⟨k.os.trans h.os, k.tape.trans h.tape, k.output.trans h.output, Nat.le_trans h.size k.size, fun i hi hT => ?_, fun p hp => ?_, ?_⟩
  · exact (k.keep i (Nat.lt_of_lt_of_le hi h.size) (by simp)).trans (h.keep i hi hT)
  · rcases List.mem_append.1 hp with hp | hp
    · exact ⟨(k.own p hp).1, .inl (Nat.le_trans h.size (hge p hp))⟩
    · exact ⟨(k.keep p.1 (hlt p hp) (by simp)).trans (h.own p hp).1, (h.own p hp).2⟩
  · rw [List.map_append, List.nodup_append]
    refine ⟨k.nodup, h.nodup, fun a ha b hb e => ?_⟩
    obtain ⟨p, hp, rfl⟩ := List.mem_map.1 ha
    obtain ⟨q, hq, rfl⟩ := List.mem_map.1 hb
    have := hlt q hq
    have := hge p hp
    omega
theorem St.perm {L' : Hp} (h : St w0 T L w) (hp : L'.Perm L) : St w0 T L' w :=
  ⟨h.os, h.tape, h.output, h.size, h.keep, fun p hm => h.own p (hp.mem_iff.1 hm), ((hp.map _).nodup_iff).2 h.nodup⟩
theorem St.call {L1 : Hp} (h : St w0 T L w) (k : St w [] L1 w') : St w0 T (L ++ L1) w' := (h.callF k).perm List.perm_append_comm
theorem St.drop {L' : Hp} (h : St w0 T L w) (hs : L'.Sublist L) : St w0 T L' w :=
  ⟨h.os, h.tape, h.output, h.size, h.keep, fun p hm => h.own p (hs.subset hm), (hs.map _).nodup h.nodup⟩
theorem St.nil (h : St w0 T L w) : St w0 T [] w := h.drop (List.nil_sublist _)
/-- A callee that was lent the blocks of A. -/
theorem St.lend {A C L1 : Hp} (h : St w0 T (A ++ C) w) (k : St w (A.map (·.1)) L1 w') : St w0 T (L1 ++ C) w' := by
  have hlt : ∀ p, p ∈ A ++ C → p.1 < w.heap.size := fun p hp => lt_of_heap (h.own p hp).1
  have hn := h.nodup
  rw [List.map_append, List.nodup_append] at hn
  have hC : ∀ p, p ∈ C → p.1 ∉ A.map (·.1) := fun p hp hm => hn.2.2 _ hm _ (List.mem_map_of_mem hp) rfl
  have hA : ∀ i, i ∈ A.map (·.1) → w0.heap.size ≤ i ∨ i ∈ T := fun i hi => by
    obtain ⟨p, hp, rfl⟩ := List.mem_map.1 hi
    exact (h.own p (List.mem_append_left _ hp)).2
  refine ⟨k.os.trans h.os, k.tape.trans h.tape, k.output.trans h.output, Nat.le_trans h.size k.size, fun i hi hT => ?_, fun p hp => ?_, ?_⟩
  · refine (k.keep i (Nat.lt_of_lt_of_le hi h.size) (fun hm => ?_)).trans (h.keep i hi hT)
    rcases hA i hm with h1 | h1
    · omega
    · exact hT h1
  · rcases List.mem_append.1 hp with hp | hp
    · refine ⟨(k.own p hp).1, ?_⟩
      rcases (k.own p hp).2 with h1 | h1
      · exact .inl (Nat.le_trans h.size h1)
      · exact hA _ h1
    · exact ⟨(k.keep p.1 (hlt p (List.mem_append_right _ hp)) (hC p hp)).trans (h.own p (List.mem_append_right _ hp)).1, (h.own p (List.mem_append_right _ hp)).2⟩
  · rw [List.map_append, List.nodup_append]
    refine ⟨k.nodup, hn.2.1, fun a ha b hb e => ?_⟩
    subst e
    obtain ⟨p, hp, rfl⟩ := List.mem_map.1 ha
    obtain ⟨q, hq, e⟩ := List.mem_map.1 hb
    rcases (k.own p hp).2 with h1 | h1
    · have := hlt q (List.mem_append_right _ hq)
      omega
    · exact hn.2.2 _ h1 _ (List.mem_map_of_mem hq) e.symm
theorem St.toBelow (h : St w0 [] L w) : Below w0.heap.size w0 w := ⟨h.os, h.tape, h.output, h.size, fun k hk => h.keep k hk (by simp)⟩
theorem St.ofBelow (h : Below w0.heap.size w0 w) : St w0 [] [] w := ⟨h.os, h.tape, h.output, h.size, fun k hk _ => h.block k hk, fun _ h => (by cases h), List.nodup_nil⟩
/-- The i-th owned block is replaced. -/
def setL : Hp → Nat → Obj → Hp
  | [], _, _ => []
  | (b, _) :: r, 0, o => (b, o) :: r
  | p :: r, k + 1, o => p :: setL r k o
def nthL : Hp → Nat → Option (Nat × Obj)
  | [], _ => none
  | p :: _, 0 => some p
  | _ :: r, k + 1 => nthL r k
theorem nthL_mem : ∀ {L : Hp} {i : Nat} {p : Nat × Obj}, nthL L i = some p → p ∈ L
  | [], _, _, h => by cases h
  | q :: r, 0, p, h => by simp [nthL] at h; simp [h]
  | q :: r, k + 1, p, h => List.mem_cons_of_mem _ (nthL_mem (L := r) h)
theorem setL_keys : ∀ (L : Hp) (i : Nat) (o : Obj), (setL L i o).map (·.1) = L.map (·.1)
  | [], _, _ => rfl
  | (b, _) :: r, 0, o => rfl
  | p :: r, k + 1, o => by simp [setL, setL_keys r k o]
theorem setL_mem : ∀ {L : Hp} {i : Nat} {b : Nat} {o o' : Obj} {p : Nat × Obj}, nthL L i = some (b, o) → (L.map (·.1)).Nodup → p ∈ setL L i o' → p = (b, o') ∨ (p ∈ L ∧ p.1 ≠ b)
  | [], _, _, _, _, _, h, _, _ => by cases h
  | (c, oc) :: r, 0, b, o, o', p, h, hn, hm => by
    simp only [nthL, Option.some.injEq, Prod.mk.injEq] at h
    obtain ⟨rfl, rfl⟩ := h
    simp only [setL, List.mem_cons] at hm
    rcases hm with rfl | hm
    · exact .inl rfl
    · refine .inr ⟨List.mem_cons_of_mem _ hm, fun e => ?_⟩
      simp only [List.map_cons, List.nodup_cons] at hn
      exact hn.1 (e ▸ List.mem_map_of_mem hm)
  | q :: r, k + 1, b, o, o', p, h, hn, hm => by
    simp only [setL, List.mem_cons] at hm
    simp only [List.map_cons, List.nodup_cons] at hn
    rcases hm with rfl | hm
    · refine .inr ⟨List.mem_cons_self, fun e => ?_⟩
      exact hn.1 (e ▸ List.mem_map_of_mem (f := (·.1)) (nthL_mem (L := r) h))
    · rcases setL_mem (L := r) h hn.2 hm with h1 | ⟨h1, h2⟩
      · exact .inl h1
      · exact .inr ⟨List.mem_cons_of_mem _ h1, h2⟩
theorem St.setCell (h : St w0 T L w) {i b off : Nat} {cs : Array Value} {e : TypeId} {fz : Nat × Nat} (hi : nthL L i = some (b, .cells cs e fz)) (v : Value) :
    St w0 T (setL L i (.cells (cs.setIfInBounds off v) e fz)) (w.setCell ⟨b, off, none⟩ v) := by
  have hb := (h.own _ (nthL_mem hi))
  refine ⟨h.os, h.tape, h.output, by simpa [World.setCell] using h.size, fun k hk hT => ?_, fun p hp => ?_, by rw [setL_keys]; exact h.nodup⟩
  · refine (Below.heap_setCell w _ v k ?_).trans (h.keep k hk hT)
    rintro rfl
    rcases hb.2 with h1 | h1
    · simp at h1; omega
    · exact hT h1
  · rcases setL_mem hi h.nodup hp with rfl | ⟨hm, hne⟩
    · refine ⟨?_, hb.2⟩
      have := hb.1
      simp only at this
      simp [World.setCell, Array.getElem?_modify, this]
    · exact ⟨(Below.heap_setCell w _ v p.1 hne).trans (h.own p hm).1, (h.own p hm).2⟩
end

/-! regions -/
def nthO : List Oper → Nat → Option Oper
  | [], _ => none
  | o :: _, 0 => some o
  | _ :: r, k + 1 => nthO r k
theorem nthO_eq : ∀ (l : List Oper) (j : Nat), nthO l j = l[j]?
  | [], _ => by simp [nthO]
  | o :: _, 0 => by simp [nthO]
  | _ :: r, k + 1 => by simp [nthO, nthO_eq r k]
def want (ol : List Oper) (o : Oper) (f : Fr) : Option Bool :=
  match o.guard with
  | none => some true
  | some (j, b) =>
    match nthO ol j with
    | none => some false
    | some oj =>
      match oj.dst with
      | none => some false
      | some d =>
        match lk f d with
        | some (.bool x) => some (x == b)
        | some _ => some false
        | none => none
theorem want_eq {ol : List Oper} {o : Oper} {f : Fr} {a : Act} {n : Nat} {b : Bool} (hg : Good a n f) (h : want ol o f = some b) : Region.wanted o (yielded ol.toArray a.tmps) = b := by
  unfold want at h
  unfold Region.wanted
  cases hgd : o.guard with
  | none => simpa [hgd] using h
  | some p =>
    obtain ⟨j, c⟩ := p
    simp only [hgd] at h ⊢
    unfold yielded
    rw [nthO_eq] at h
    simp only [List.getElem?_toArray]
    cases hj : ol[j]? with
    | none => simp [hj] at h ⊢; exact h
    | some oj =>
      simp only [hj] at h
      simp only [Option.bind_some]
      cases hd : oj.dst with
      | none => simp [hd] at h ⊢; exact h
      | some d =>
        simp only [hd] at h
        simp only [Option.bind_some]
        cases hl : lk f d with
        | none => simp [hl] at h
        | some v =>
          have hv := hg.at_ d v hl
          rw [Array.getD_eq_getD_getElem?] at hv
          simp only [hl] at h
          cases ht : a.tmps[d]? with
          | none =>
            rw [ht] at hv
            simp only [Option.getD_none] at hv
            subst hv
            simp [undef] at h
            simpa using h
          | some u =>
            rw [ht] at hv
            simp only [Option.getD_some] at hv
            subst hv
            cases u <;> simp_all
theorem wantT {ol : List Oper} {o : Oper} {f : Fr} {g : Bool} (h : want ol o f = some (g == true)) (hg : g = true) : want ol o f = some true := by rw [h, hg]; rfl
theorem wantF {ol : List Oper} {o : Oper} {f : Fr} {g : Bool} (h : want ol o f = some (g == false)) (hg : g = false) : want ol o f = some true := by rw [h, hg]; rfl
theorem wantNT {ol : List Oper} {o : Oper} {f : Fr} {g : Bool} (h : want ol o f = some (g == true)) (hg : g = false) : want ol o f = some false := by rw [h, hg]; rfl
theorem wantNF {ol : List Oper} {o : Oper} {f : Fr} {g : Bool} (h : want ol o f = some (g == false)) (hg : g = true) : want ol o f = some false := by rw [h, hg]; rfl

/-- The operation's run, from whatever frame holds at least f. -/
def Run (P : Program) (o : Oper) (f : Fr) (w : World) (r : Next) (w' : World) : Prop :=
  ∀ ρ : Operand → Value, (∀ x v, ev f x = some v → ρ x = v) → (execOp ρ o).run P w = .ok r w'
def WL (P : Program) (n : Nat) (ol l : List Oper) (K : Fr → World → Prop) (f : Fr) (w : World) : Prop :=
  ∀ (Q : Exit → Act → World → Prop) (a : Act), Good a n f → (∀ a' f' w', Good a' n f' → K f' w' → Q .normal a' w') → wpList P ol.toArray Q l a w
def WQ (P : Program) (n : Nat) (ol l : List Oper) (C : World → Prop) (K : Fr → Prop) (f : Fr) : Prop :=
  ∀ a, Good a n f → wpQuiet P ol.toArray C (fun a' => ∃ f', Good a' n f' ∧ K f') l a
section
variable {P : Program} {n : Nat} {ol rest : List Oper} {o : Oper} {K : Fr → World → Prop} {f : Fr} {w w' : World} {d : Nat} {v : Value}
theorem WC.region {id : Nat} {l : List Oper} {Q : Kont} (h : WL P n l l (fun f w => Q .normal f w) f w) : WC P n (.region id l.toArray false) Q f w := fun a ha =>
  wp_region_lit (h (qa n Q) a ha fun _ f' _ hg hk => ⟨f', hg, hk⟩)
theorem WC.regionQ {id : Nat} {l : List Oper} {Q : Kont} (C : World → Prop) (hm : P.follows .mixedOrders = true) (hl : Region.lexB .any l.toArray = true)
    (hC : C { heap := w.heap, tape := w.tape, drawn := w.drawn + 1, os := w.os, output := w.output }) (h : WQ P n l l C (fun f' => ∀ w', C w' → Q .normal f' w') f) : WC P n (.region id l.toArray true) Q f w := fun a ha =>
  wp_region_quiet hm hl hC (by
    have h1 := h a ha
    have e : (l.toArray).toList = l := by simp
    rw [e]
    refine (?_ : ∀ (l : List Oper) (a : Act), wpQuiet P _ C (fun a' => ∃ f', Good a' n f' ∧ ∀ w', C w' → Q .normal f' w') l a → wpQuiet P _ C (fun a' => ∀ w', C w' → qa n Q .normal a' w') l a) l a h1
    intro l
    induction l with
    | nil =>
      rintro a ⟨f', hg, hk⟩ w' hw'
      exact ⟨f', hg, hk w' hw'⟩
    | cons o r ih =>
      intro a ha
      unfold wpQuiet at ha ⊢
      split
      · rename_i hw
        rw [if_pos hw] at ha
        exact Oper.quiet_mono ih ha
      · rename_i hw
        rw [if_neg hw] at ha
        exact ih _ ha)
theorem WL.nil (h : K f w) : WL P n ol [] K f w := fun _ a ha hk => wpList_nil (hk a f w ha h)
theorem WL.sub {l : List Oper} (F : Fr) (hs : Sub F f) (h : WL P n ol l K F w) : WL P n ol l K f w := fun Q a ha hk => h Q a (ha.sub hs) hk
theorem WL.val (hw : want ol o f = some true) (hd : o.dst = some d) (hn : Nat.blt d n = true) (hy : Run P o f w (.value v) w') (k : WL P n ol rest K ((d, v) :: f) w') : WL P n ol (o :: rest) K f w := fun Q a ha hk => by
  unfold wpList
  rw [if_pos (want_eq ha hw)]
  refine .inl ?_
  unfold Oper.wp
  rw [hy a.eval fun x v hx => ha.ev hx]
  show wpList _ _ _ _ _ _
  rw [hd]
  exact k Q _ (ha.put hn v) hk
theorem WL.unit (hw : want ol o f = some true) (hd : o.dst = none) (hy : Run P o f w .skip w') (k : WL P n ol rest K f w') : WL P n ol (o :: rest) K f w := fun Q a ha hk => by
  unfold wpList
  rw [if_pos (want_eq ha hw)]
  refine .inl ?_
  unfold Oper.wp
  rw [hy a.eval fun x v hx => ha.ev hx]
  show wpList _ _ _ _ _ _
  rw [hd]
  exact k Q _ ha hk
theorem WL.skip (hw : want ol o f = some false) (hd : o.dst = some d) (hn : Nat.blt d n = true) (k : WL P n ol rest K ((d, undef) :: f) w) : WL P n ol (o :: rest) K f w := fun Q a ha hk => by
  unfold wpList
  rw [if_neg (by rw [want_eq ha hw]; exact Bool.false_ne_true), hd]
  exact k Q _ (ha.put hn undef) hk
theorem WL.call {g : FuncId} {args : Array Value} {R : Ending → World → Prop} (hw : want ol o f = some true) (hd : o.dst = some d) (hn : Nat.blt d n = true) (hy : Run P o f w (.enter g args) w) (hc : Calls P g args w R)
    (k : ∀ e w', R e w' → ∃ v, e = .returned v ∧ WL P n ol rest K ((d, v) :: f) w') : WL P n ol (o :: rest) K f w := fun Q a ha hk => by
  unfold wpList
  rw [if_pos (want_eq ha hw)]
  refine .inl ?_
  unfold Oper.wp
  rw [hy a.eval fun x v hx => ha.ev hx]
  refine hc.mono ?_
  intro e w' hr
  obtain ⟨v, rfl, hk'⟩ := k e w' hr
  show wpList _ _ _ _ _ _
  rw [hd]
  exact hk' Q _ (ha.put hn v) hk
theorem WL.call0 {g : FuncId} {args : Array Value} {R : Ending → World → Prop} (hw : want ol o f = some true) (hd : o.dst = none) (hy : Run P o f w (.enter g args) w) (hc : Calls P g args w R)
    (k : ∀ e w', R e w' → ∃ v, e = .returned v ∧ WL P n ol rest K f w') : WL P n ol (o :: rest) K f w := fun Q a ha hk => by
  unfold wpList
  rw [if_pos (want_eq ha hw)]
  refine .inl ?_
  unfold Oper.wp
  rw [hy a.eval fun x v hx => ha.ev hx]
  refine hc.mono ?_
  intro e w' hr
  obtain ⟨v, rfl, hk'⟩ := k e w' hr
  show wpList _ _ _ _ _ _
  rw [hd]
  exact hk' Q _ ha hk
/-- A guarded group that ends in '&&' or '||': both ways meet behind the pick. -/
theorem WL.meetAnd {l : List Oper} {w0 : World} {T : List Nat} {L : Hp} {g b : Bool} (k s d : Nat) (F : Fr) (hs : lk f s = some (.bool g)) (hst : St w0 T L w)
    (hT : g = true → (∀ w', St w0 T L w' → WL P n ol (l.drop k) K ((d, .bool (g && b)) :: F) w') → WL P n ol l K f w)
    (hF : g = false → (∀ w', St w0 T L w' → WL P n ol (l.drop k) K ((d, .bool (g && b)) :: F) w') → WL P n ol l K f w)
    (J : ∀ w', St w0 T L w' → WL P n ol (l.drop k) K ((d, .bool (g && b)) :: F) w') : WL P n ol l K f w := by
  cases h : g
  · exact hF h J
  · exact hT h J
theorem WL.meetOr {l : List Oper} {w0 : World} {T : List Nat} {L : Hp} {g b : Bool} (k s d : Nat) (F : Fr) (hs : lk f s = some (.bool g)) (hst : St w0 T L w)
    (hF : g = false → (∀ w', St w0 T L w' → WL P n ol (l.drop k) K ((d, .bool (g || b)) :: F) w') → WL P n ol l K f w)
    (hT : g = true → (∀ w', St w0 T L w' → WL P n ol (l.drop k) K ((d, .bool (g || b)) :: F) w') → WL P n ol l K f w)
    (J : ∀ w', St w0 T L w' → WL P n ol (l.drop k) K ((d, .bool (g || b)) :: F) w') : WL P n ol l K f w := by
  cases h : g
  · exact hF h J
  · exact hT h J
theorem WL.fin {l : List Oper} {w0 : World} {T : List Nat} {L : Hp} {V V' : Value} {F : Fr} (J : ∀ w', St w0 T L w' → WL P n ol l K ((d, V) :: F) w') (hst : St w0 T L w) (hv : lk f d = some V') (e : V' = V) (hsub : Sub F f) : WL P n ol l K f w :=
  WL.sub ((d, V) :: F) ⟨e ▸ hv, hsub⟩ (J w hst)
theorem andT {g b : Bool} (h : g = true) : Value.bool b = .bool (g && b) := by rw [h]; rfl
theorem andF {g b : Bool} (h : g = false) : Value.bool false = .bool (g && b) := by rw [h]; rfl
theorem orT {g b : Bool} (h : g = true) : Value.bool true = .bool (g || b) := by rw [h]; rfl
theorem orF {g b : Bool} (h : g = false) : Value.bool b = .bool (g || b) := by rw [h]; rfl
end
section
variable {P : Program} {n : Nat} {ol rest : List Oper} {o : Oper} {C : World → Prop} {K : Fr → Prop} {f : Fr} {d : Nat} {v : Value}
theorem WQ.nil (h : K f) : WQ P n ol [] C K f := fun _ ha => wpQuiet_nil ⟨f, ha, h⟩
theorem WQ.sub {l : List Oper} (F : Fr) (hs : Sub F f) (h : WQ P n ol l C K F) : WQ P n ol l C K f := fun a ha => h a (ha.sub hs)
theorem WQ.val (hw : want ol o f = some true) (hd : o.dst = some d) (hn : Nat.blt d n = true) (hy : ∀ w, C w → Run P o f w (.value v) w) (k : WQ P n ol rest C K ((d, v) :: f)) : WQ P n ol (o :: rest) C K f := fun a ha => by
  unfold wpQuiet
  rw [if_pos (want_eq ha hw)]
  refine ⟨v, fun w hC => ?_, ?_⟩
  · unfold Oper.quietAt
    rw [hy w hC a.eval fun x v hx => ha.ev hx]
    exact ⟨rfl, rfl⟩
  · rw [hd]
    exact k _ (ha.put hn v)
theorem WQ.call {g : FuncId} {args : Array Value} (hw : want ol o f = some true) (hd : o.dst = some d) (hn : Nat.blt d n = true) (hy : ∀ w, C w → Run P o f w (.enter g args) w)
    (hc : ∀ w, C w → Calls P g args w fun e w' => e = .returned v ∧ C w') (k : WQ P n ol rest C K ((d, v) :: f)) : WQ P n ol (o :: rest) C K f := fun a ha => by
  unfold wpQuiet
  rw [if_pos (want_eq ha hw)]
  refine ⟨v, fun w hC => ?_, ?_⟩
  · unfold Oper.quietAt
    rw [hy w hC a.eval fun x v hx => ha.ev hx]
    exact ⟨rfl, hc w hC⟩
  · rw [hd]
    exact k _ (ha.put hn v)
theorem WQ.skip (hw : want ol o f = some false) (hd : o.dst = some d) (hn : Nat.blt d n = true) (k : WQ P n ol rest C K ((d, undef) :: f)) : WQ P n ol (o :: rest) C K f := fun a ha => by
  unfold wpQuiet
  rw [if_neg (by rw [want_eq ha hw]; exact Bool.false_ne_true), hd]
  exact k _ (ha.put hn undef)
theorem WQ.meetAnd {l : List Oper} {g b : Bool} (k s d : Nat) (F : Fr) (hs : lk f s = some (.bool g))
    (hT : g = true → WQ P n ol (l.drop k) C K ((d, .bool (g && b)) :: F) → WQ P n ol l C K f)
    (hF : g = false → WQ P n ol (l.drop k) C K ((d, .bool (g && b)) :: F) → WQ P n ol l C K f)
    (J : WQ P n ol (l.drop k) C K ((d, .bool (g && b)) :: F)) : WQ P n ol l C K f := by
  cases h : g
  · exact hF h J
  · exact hT h J
theorem WQ.meetOr {l : List Oper} {g b : Bool} (k s d : Nat) (F : Fr) (hs : lk f s = some (.bool g))
    (hF : g = false → WQ P n ol (l.drop k) C K ((d, .bool (g || b)) :: F) → WQ P n ol l C K f)
    (hT : g = true → WQ P n ol (l.drop k) C K ((d, .bool (g || b)) :: F) → WQ P n ol l C K f)
    (J : WQ P n ol (l.drop k) C K ((d, .bool (g || b)) :: F)) : WQ P n ol l C K f := by
  cases h : g
  · exact hF h J
  · exact hT h J
theorem WQ.fin {l : List Oper} {V V' : Value} {F : Fr} (J : WQ P n ol l C K ((d, V) :: F)) (hv : lk f d = some V') (e : V' = V) (hsub : Sub F f) : WQ P n ol l C K f :=
  WQ.sub ((d, V) :: F) ⟨e ▸ hv, hsub⟩ J
end
end Go.Proofs.Ytpiimkfonlijdaa
