/-
  The engine, part 4: loads, stores, new blocks, and how a body is entered and left.
-/
import Derived.Test.YtpiimkfonlijdaaE3
namespace Go.Proofs.Ytpiimkfonlijdaa
open Go Go.RowKit
set_option linter.unusedVariables false
set_option linter.unusedSimpArgs false

section
variable {w0 w w' : World} {T : List Nat} {L : Hp}
theorem cell_of_heap {b off : Nat} {cl : List Value} {e : TypeId} {fz : Nat × Nat} {v : Value} (h : w.heap[b]? = some (.cells cl.toArray e fz)) (hv : cl[off]? = some v) : w.cell? ⟨b, off, none⟩ = some v := by
  simp [World.cell?, h, hv]
theorem St.at_ (h : St w0 T L w) {i b off : Nat} {cl : List Value} {e : TypeId} {fz : Nat × Nat} {v : Value} (hi : nthL L i = some (b, .cells cl.toArray e fz)) (hv : cl[off]? = some v) : w.cell? ⟨b, off, none⟩ = some v :=
  cell_of_heap (h.own _ (nthL_mem hi)).1 hv
theorem cells_of_heap {P : Program} {b off sz : Nat} {cl vs : List Value} {e : TypeId} {fz : Nat × Nat} (h : w.heap[b]? = some (.cells cl.toArray e fz)) (hv : (cl.drop off).take sz = vs) (hs : vs.length = sz) :
    (loadCells ⟨b, off, none⟩ sz).run P w = .ok vs.toArray w := by
  rw [run_loadCells w _ sz (fun j => vs.getD j undef) (fun j hj => ?_)]
  · congr 1
    congr 1
    apply List.ext_getElem?
    intro j
    simp only [List.getElem?_map]
    by_cases hj : j < sz
    · simp [List.getElem?_range hj, List.getD, show j < vs.length by omega]
    · simp [List.getElem?_eq_none (l := List.range sz) (i := j) (by simp; omega), List.getElem?_eq_none (l := vs) (i := j) (by omega)]
  · have e1 : (⟨b, off, none⟩ : Addr).add j = ⟨b, off + j, none⟩ := by unfold Addr.add; split <;> simp_all
    rw [e1]
    refine cell_of_heap h ?_
    have h1 : vs[j]? = cl[off + j]? := by
      rw [← hv, List.getElem?_take, if_pos hj, List.getElem?_drop]
    rw [← h1]
    simp [List.getD, show j < vs.length by omega]
end
def cellsOf : Value → List Value
  | .agg cs => cs.toList
  | v => [v]
theorem cellsOf_eq (v : Value) : v.cells = (cellsOf v).toArray := by cases v <;> simp [Value.cells, cellsOf]
/-- One cell of a row is replaced. -/
def setV : List Value → Nat → Value → List Value
  | [], _, _ => []
  | _ :: r, 0, v => v :: r
  | x :: r, k + 1, v => x :: setV r k v
theorem setV_eq : ∀ (l : List Value) (i : Nat) (v : Value), setV l i v = l.set i v
  | [], _, _ => by simp [setV]
  | _ :: r, 0, v => rfl
  | x :: r, k + 1, v => by simp [setV, setV_eq r k v]
theorem St.call0 {w0 w w' : World} {T : List Nat} {L : Hp} (h : St w0 T L w) (k : St w [] [] w') : St w0 T L w' := by simpa using h.call k
section
variable {P : Program} {n : Nat} {ol rest : List Oper} {o : Oper} {K : Fr → World → Prop} {f : Fr} {w0 w w' : World} {T : List Nat} {L : Hp} {d : Nat} {v : Value}
theorem Run.load {t : TypeId} {x : Operand} {a : Addr} (ha : ∀ w, (isAgg t).run P w = .ok false w) (ho : o.op = .load t x) (hx : ev f x = some (.pointer (some a))) (hc : w.cell? a = some v) : Run P o f w (.value v) w := fun ρ hρ => by
  simp [execOp, ho, hρ _ _ hx, Instr.loadAt, Instr.sureAddr, loadVar, ha, hc]
theorem Run.loadA {t : TypeId} {x : Operand} {a : Addr} {sz : Nat} {vs : List Value} (ha : ∀ w, (isAgg t).run P w = .ok true w) (hz : ∀ w, (sizeOf t).run P w = .ok sz w) (ho : o.op = .load t x) (hx : ev f x = some (.pointer (some a)))
    (hc : (loadCells a sz).run P w = .ok vs.toArray w) : Run P o f w (.value (.agg vs.toArray)) w := fun ρ hρ => by
  simp [execOp, ho, hρ _ _ hx, Instr.loadAt, Instr.sureAddr, loadVar, ha, hz, hc]
/-- A load out of a block of ours: one cell. -/
theorem Run.loadL (hst : St w0 T L w) (i : Nat) {t : TypeId} {x : Operand} {b off : Nat} {cl : List Value} {e : TypeId} {fz : Nat × Nat} (ha : ∀ w, (isAgg t).run P w = .ok false w) (ho : o.op = .load t x) (hx : ev f x = some (.pointer (some ⟨b, off, none⟩)))
    (hi : nthL L i = some (b, .cells cl.toArray e fz)) (hv : cl[off]? = some v) : Run P o f w (.value v) w := Run.load ha ho hx (hst.at_ hi hv)
/-- A load out of a block of ours: a struct. -/
theorem Run.loadLA (hst : St w0 T L w) (i : Nat) {t : TypeId} {x : Operand} {b off sz : Nat} {cl vs : List Value} {e : TypeId} {fz : Nat × Nat} (ha : ∀ w, (isAgg t).run P w = .ok true w) (hz : ∀ w, (sizeOf t).run P w = .ok sz w) (ho : o.op = .load t x)
    (hx : ev f x = some (.pointer (some ⟨b, off, none⟩))) (hi : nthL L i = some (b, .cells cl.toArray e fz)) (hv : (cl.drop off).take sz = vs) (hs : Nat.beq vs.length sz = true) : Run P o f w (.value (.agg vs.toArray)) w :=
  Run.loadA ha hz ho hx (cells_of_heap (hst.own _ (nthL_mem hi)).1 hv (Nat.eq_of_beq_eq_true hs))
/-- A variable of a parameter's own, or of a struct that is passed by value. -/
theorem WL.box (hst : St w0 T L w) {t : TypeId} {x : Operand} {cl : List Value} (ho : o.op = .box t x) (hw : want ol o f = some true) (hd : o.dst = some d) (hn : Nat.blt d n = true) (hx : ev f x = some v) (hc : cellsOf v = cl)
    (k : ∀ b w', St w0 T ((b, .cells cl.toArray t (0, 0)) :: L) w' → WL P n ol rest K ((d, .pointer (some ⟨b, 0, none⟩)) :: f) w') : WL P n ol (o :: rest) K f w := by
  refine WL.val (w' := w.alloc (.cells cl.toArray t (0, 0))) hw hd hn (fun ρ hρ => ?_) (k _ _ (hst.alloc _))
  simp [execOp, ho, hρ _ _ hx, Instr.box, newVar, newRow, cellsOf_eq, hc]
theorem WL.alloc (hst : St w0 T L w) {t : TypeId} {z : Value} {cl : List Value} (hz : ∀ w, (zeroValue t).run P w = .ok z w) (ho : o.op = .alloc t) (hw : want ol o f = some true) (hd : o.dst = some d) (hn : Nat.blt d n = true) (hc : cellsOf z = cl)
    (k : ∀ b w', St w0 T ((b, .cells cl.toArray t (0, 0)) :: L) w' → WL P n ol rest K ((d, .pointer (some ⟨b, 0, none⟩)) :: f) w') : WL P n ol (o :: rest) K f w := by
  refine WL.val (w' := w.alloc (.cells cl.toArray t (0, 0))) hw hd hn (fun ρ hρ => ?_) (k _ _ (hst.alloc _))
  simp [execOp, ho, Instr.alloc, hz, newVar, newRow, cellsOf_eq, hc]
theorem run_store_ours {a : Addr} {u : Value} (hv : u.oneCell' = true) (hc : (w.cell? a).isSome = true) (hf : w.frozen? a = false) : (store a u).run P w = .ok () (w.setCell a u) := by
  obtain ⟨x, hx⟩ := Option.isSome_iff_exists.1 hc
  cases u <;> simp_all [store, Sem.run, Value.oneCell']
/-- A store of one cell into a block of ours. -/
theorem WL.store (hst : St w0 T L w) (i : Nat) {t : TypeId} {x y : Operand} {b off : Nat} {cl cl' : List Value} {e : TypeId} {lo hi : Nat} (hz : ∀ w, (sizeOf t).run P w = .ok 1 w) (ho : o.op = .store t x y) (hw : want ol o f = some true) (hd : o.dst = none)
    (hx : ev f x = some (.pointer (some ⟨b, off, none⟩))) (hy : ev f y = some v) (hi' : nthL L i = some (b, .cells cl.toArray e (lo, hi))) (hv : v.oneCell' = true) (hoff : Nat.blt off cl.length = true) (hfz : (Nat.ble lo off && Nat.blt off hi) = false) (hcl : setV cl off v = cl')
    (k : ∀ w', St w0 T (setL L i (.cells cl'.toArray e (lo, hi))) w' → WL P n ol rest K f w') : WL P n ol (o :: rest) K f w := by
  have hlt : off < cl.length := Nat.le_of_ble_eq_true hoff
  have hh := (hst.own _ (nthL_mem hi')).1
  have hs := hst.setCell (off := off) hi' v
  have e1 : cl.toArray.setIfInBounds off v = cl'.toArray := by rw [← hcl, setV_eq]; simp
  rw [e1] at hs
  refine WL.unit (w' := w.setCell ⟨b, off, none⟩ v) hw hd (fun ρ hρ => ?_) (k _ hs)
  have hc : (w.cell? ⟨b, off, none⟩).isSome = true := by
    rw [cell_of_heap (v := cl[off]) hh (by simp [hlt])]
    rfl
  have hf : w.frozen? ⟨b, off, none⟩ = false := by
    simp only [World.frozen?, hh]
    rw [Bool.eq_false_iff]
    intro hh2
    simp only [Bool.and_eq_true, decide_eq_true_eq] at hh2
    have a1 : Nat.ble lo off = true := Nat.ble_eq_true_of_le hh2.1
    have a2 : Nat.blt off hi = true := Nat.ble_eq_true_of_le hh2.2
    rw [a1, a2] at hfz
    cases hfz
  have hcs : v.cells = #[v] := by cases v <;> simp_all [Value.oneCell', Value.cells]
  simp [execOp, ho, hρ _ _ hx, hρ _ _ hy, Instr.storeAt, Instr.sureAddr, storeVar, hz, hcs, storeCells, Addr.add, run_store_ours hv hc hf]
end

theorem Sub.app {F G f : Fr} (h : Sub F f) (k : Sub G f) : Sub (F ++ G) f := by
  induction F with
  | nil => exact k
  | cons p r ih => exact ⟨h.1, ih h.2⟩
/-- A loop: the slots of F and the blocks of L stay as they are; I speaks of what turns. -/
theorem WC.loopS {P : Program} {n : Nat} {c : Code} {Q : Kont} {f : Fr} {w0 w : World} {T : List Nat} {L : Hp} (F : Fr) (hF : Sub F f) (hst : St w0 T L w) (I : Nat → Fr → World → Prop) (k0 : Nat) (h0 : I k0 f w)
    (hr : ∀ k f w, I k f w → Sub F f → St w0 T L w → WC P n c (thenK (fun f' w' => Sub F f' ∧ St w0 T L w' ∧ ∃ k', k' < k ∧ I k' f' w') Q) f w) : WC P n (.loop c) Q f w :=
  WC.loopN (fun k f w => I k f w ∧ Sub F f ∧ St w0 T L w) k0 ⟨h0, hF, hst⟩ fun k f w h => (hr k f w h.1 h.2.1 h.2.2).mono fun e f' w' q => by
    cases e
    case normal =>
      obtain ⟨q1, q2, k', q3, q4⟩ := q
      exact ⟨k', q3, q4, q1, q2⟩
    all_goals exact q
/-- A loop whose round turns blocks of ours too: I speaks of them. -/
theorem WC.loopH {P : Program} {n : Nat} {c : Code} {Q : Kont} {f : Fr} {w : World} (F : Fr) (hF : Sub F f) (I : Nat → Fr → World → Prop) (k0 : Nat) (h0 : I k0 f w)
    (hr : ∀ k f w, I k f w → Sub F f → WC P n c (thenK (fun f' w' => Sub F f' ∧ ∃ k', k' < k ∧ I k' f' w') Q) f w) : WC P n (.loop c) Q f w :=
  WC.loopN (fun k f w => I k f w ∧ Sub F f) k0 ⟨h0, hF⟩ fun k f w h => (hr k f w h.1 h.2).mono fun e f' w' q => by
    cases e
    case normal =>
      obtain ⟨q1, k', q3, q4⟩ := q
      exact ⟨k', q3, q4, q1⟩
    all_goals exact q

/-! a body -/
def f0 : List Value → Nat → Fr
  | [], _ => []
  | v :: r, i => (i, v) :: f0 r (i + 1)
theorem f0_spec : ∀ (vs : List Value) (k i : Nat) (v : Value), lk (f0 vs k) i = some v → k ≤ i ∧ vs[i - k]? = some v
  | [], _, _, _, h => by simp [f0, lk] at h
  | u :: r, k, i, v, h => by
    simp only [f0, lk] at h
    cases hb : Nat.beq k i with
    | true =>
      rw [hb] at h
      have := Nat.eq_of_beq_eq_true hb
      subst this
      simp at h
      simp [h]
    | false =>
      rw [hb] at h
      obtain ⟨h1, h2⟩ := f0_spec r (k + 1) i v h
      refine ⟨by omega, ?_⟩
      obtain ⟨j, rfl⟩ : ∃ j, i = k + 1 + j := ⟨i - (k + 1), by omega⟩
      have e1 : k + 1 + j - (k + 1) = j := by omega
      have e2 : k + 1 + j - k = j + 1 := by omega
      rw [e1] at h2
      rw [e2]
      simpa using h2
def retK (P : Program) (fn : Func) (R : Ending → World → Prop) : Kont := fun e f w =>
  (e = .normal ∨ e = .ret) ∧ ∃ v, (∀ tmps : Array Value, (∀ i u, lk f i = some u → tmps.getD i undef = u) → (results fn tmps).run P w = .ok v w) ∧ R (.returned v) w
theorem enter {P : Program} {g : FuncId} {fn : Func} {c : Code} {args : Array Value} {w : World} {R : Ending → World → Prop} {vs : List Value} (n : Nat) (hf : P.funcs[g]? = some fn) (hb : fn.body = some c) (hn : fn.ntmps = n) (ha : args = vs.toArray) (hl : Nat.ble vs.length n = true)
    (h : WC P n c (retK P fn R) (f0 vs 0) w) : Calls P g args w R := by
  refine calls_of_wp hf hb ?_
  subst ha
  have hl' : vs.length ≤ n := Nat.le_of_ble_eq_true hl
  refine Code.wp_mono ?_ (h _ ⟨?_, rfl, ?_⟩)
  · rintro e a w ⟨f, hg, he, v, hv, hR⟩
    have := hv a.tmps hg.at_
    rcases he with rfl | rfl
    · exact ⟨hg.defers, v, this, hR⟩
    · exact ⟨hg.defers, v, this, hR⟩
  · simp [hn]; omega
  · intro i v hi
    obtain ⟨-, h2⟩ := f0_spec vs 0 i v hi
    simp only [Nat.sub_zero] at h2
    rw [Array.getD_eq_getD_getElem?, Array.getElem?_append]
    have hlt : i < vs.length := (List.getElem?_eq_some_iff.1 h2).1
    simp [hlt]
    rw [List.getElem?_eq_getElem hlt] at h2
    exact Option.some.inj h2
section
variable {P : Program} {fn : Func} {R : Ending → World → Prop} {f : Fr} {w : World} {v u x : Value}
theorem retK0 (hr : fn.results = #[]) (h : R (.returned (.tuple #[])) w) : retK P fn R .normal f w := ⟨.inl rfl, _, fun tmps _ => results_none hr tmps P w, h⟩
theorem retK0' (hr : fn.results = #[]) (h : R (.returned (.tuple #[])) w) : retK P fn R .ret f w := ⟨.inr rfl, _, fun tmps _ => results_none hr tmps P w, h⟩
theorem retK1 {t : Nat} (hr : fn.results = #[.tmp t]) (hv : lk f t = some v) (h : R (.returned v) w) : retK P fn R .ret f w :=
  ⟨.inr rfl, v, fun tmps ht => by rw [results_tmp hr, ht _ _ hv], h⟩
theorem retK2 {t t1 : Nat} (hr : fn.results = #[.tmp t, .tmp t1]) (hv : lk f t = some v) (hu : lk f t1 = some u) (h : R (.returned (.tuple #[v, u])) w) : retK P fn R .ret f w :=
  ⟨.inr rfl, _, fun tmps ht => by rw [results_tmp2 hr, ht _ _ hv, ht _ _ hu], h⟩
theorem retK3 {t t1 t2 : Nat} (hr : fn.results = #[.tmp t, .tmp t1, .tmp t2]) (hv : lk f t = some v) (hu : lk f t1 = some u) (hx : lk f t2 = some x) (h : R (.returned (.tuple #[v, u, x])) w) : retK P fn R .ret f w :=
  ⟨.inr rfl, _, fun tmps ht => by rw [results_tmp3 hr, ht _ _ hv, ht _ _ hu, ht _ _ hx], h⟩
/-- The value of a result, whether it lies in a temporary or in a variable. -/
def resV (P : Program) (f : Fr) (w : World) : ResultVar → Value → Prop
  | .tmp t, v => lk f t = some v
  | .cell a t, v => ∃ ad, lk f a = some (.pointer (some ad)) ∧ (loadVar t ad).run P w = .ok v w
theorem resV_or {r : ResultVar} {tmps : Array Value} (ht : ∀ i u, lk f i = some u → tmps.getD i undef = u) (h : resV P f w r v) :
    (∃ t, r = .tmp t ∧ tmps[t]?.getD undef = v) ∨ (∃ a t ad, r = .cell a t ∧ tmps[a]?.getD undef = .pointer (some ad) ∧ (loadVar t ad).run P w = .ok v w) := by
  cases r with
  | tmp t => exact .inl ⟨t, rfl, by simpa using ht _ _ h⟩
  | cell a t =>
    obtain ⟨ad, h1, h2⟩ := h
    exact .inr ⟨a, t, ad, rfl, by simpa using ht _ _ h1, h2⟩
theorem retV1 {r : ResultVar} (hr : fn.results = #[r]) (hv : resV P f w r v) (h : R (.returned v) w) : retK P fn R .ret f w :=
  ⟨.inr rfl, v, fun tmps ht => by
    rcases resV_or ht hv with ⟨t, rfl, h1⟩ | ⟨a, t, ad, rfl, h1, h2⟩ <;> simp_all [results, asAddr], h⟩
theorem retV2 {r1 r2 : ResultVar} (hr : fn.results = #[r1, r2]) (hv : resV P f w r1 v) (hu : resV P f w r2 u) (h : R (.returned (.tuple #[v, u])) w) : retK P fn R .ret f w :=
  ⟨.inr rfl, _, fun tmps ht => by
    rcases resV_or ht hv with ⟨t, rfl, h1⟩ | ⟨a, t, ad, rfl, h1, h2⟩ <;> rcases resV_or ht hu with ⟨t', rfl, h1'⟩ | ⟨a', t', ad', rfl, h1', h2'⟩ <;> simp_all [results, asAddr], h⟩
theorem retV3 {r1 r2 r3 : ResultVar} (hr : fn.results = #[r1, r2, r3]) (hv : resV P f w r1 v) (hu : resV P f w r2 u) (hx : resV P f w r3 x) (h : R (.returned (.tuple #[v, u, x])) w) : retK P fn R .ret f w :=
  ⟨.inr rfl, _, fun tmps ht => by
    rcases resV_or ht hv with ⟨t, rfl, h1⟩ | ⟨a, t, ad, rfl, h1, h2⟩ <;> rcases resV_or ht hu with ⟨t', rfl, h1'⟩ | ⟨a', t', ad', rfl, h1', h2'⟩ <;> rcases resV_or ht hx with ⟨t'', rfl, h1''⟩ | ⟨a'', t'', ad'', rfl, h1'', h2''⟩ <;> simp_all [results, asAddr], h⟩
theorem resV.tmp {t : Nat} (h : lk f t = some v) : resV P f w (.tmp t) v := h
theorem resV.cell {a : Nat} {t : TypeId} {ad : Addr} (h : lk f a = some (.pointer (some ad))) (hv : (loadVar t ad).run P w = .ok v w) : resV P f w (.cell a t) v := ⟨ad, h, hv⟩
theorem run_loadVarA {t : TypeId} {a : Addr} {sz : Nat} {vs : List Value} (ha : ∀ w, (isAgg t).run P w = .ok true w) (hz : ∀ w, (sizeOf t).run P w = .ok sz w) (hc : (loadCells a sz).run P w = .ok vs.toArray w) : (loadVar t a).run P w = .ok (.agg vs.toArray) w := by
  simp [loadVar, ha, hz, hc]
end
end Go.Proofs.Ytpiimkfonlijdaa
