/-
  The engine, part 5: regions in whatever order; slices that are read; slices that are ours.
-/
import Derived.Test.YtpiimkfonlijdaaE4
import Derived.OrdersHeld
import Derived.Deep.RegionHeld3
import Derived.Maps.AppendAt
namespace Go.Proofs.Ytpiimkfonlijdaa
open Go Go.RowKit
set_option linter.unusedVariables false
set_option linter.unusedSimpArgs false

/-! whatever order -/
def setB : List Bool → Nat → List Bool
  | [], _ => []
  | _ :: r, 0 => true :: r
  | x :: r, k + 1 => x :: setB r k
theorem setB_eq : ∀ (l : List Bool) (i : Nat), setB l i = l.set i true
  | [], _ => by simp [setB]
  | _ :: r, 0 => rfl
  | x :: r, k + 1 => by simp [setB, setB_eq r k]
def WH (P : Program) (n : Nat) (ol : List Oper) (S : World → Prop) (fuel : Nat) (listed : List Bool) (K : Fr → World → Prop) (f : Fr) (w : World) : Prop :=
  ∀ (Q : Exit → Act → World → Prop) (a : Act), (∀ c a w, ¬ Q (.panic c) a w) → Good a n f → (∀ a' f' w', Good a' n f' → K f' w' → Q .normal a' w') → wpAnyH P .any ol.toArray Q S fuel listed.toArray a w
section
variable {P : Program} {n : Nat} {ol : List Oper} {o : Oper} {K : Fr → World → Prop} {f : Fr} {w : World} {d : Nat} {v : Value} {S : World → Prop} {fuel : Nat} {listed : List Bool}
theorem WC.regionH {id : Nat} {l : List Oper} {Q : Kont} (S : World → Prop) (hm : P.follows .mixedOrders = true)
    (hS : S { heap := w.heap, tape := w.tape, drawn := w.drawn + 1, os := w.os, output := w.output })
    (h : ∀ w', S w' → WH P n l S l.length (List.replicate l.length false) (fun f w => Q .normal f w) f w') : WC P n (.region id l.toArray true) Q f w := fun a ha => by
  refine wp_region_noPanic (wp_region_held (S := S) hm ?_)
  have e : (Array.replicate l.toArray.size false) = (List.replicate l.length false).toArray := by simp
  rw [e]
  have e2 : l.toArray.size = l.length := by simp
  rw [e2]
  exact h _ hS (NoPanic (qa n Q)) a (fun c a w hh => hh) ha (fun a' f' w' hg hk => ⟨f', hg, hk⟩)
theorem WC.regionH2 {id : Nat} {l : List Oper} {Q : Kont} (S S1 : World → Prop) (hm : P.follows .mixedOrders = true)
    (hS : S { heap := w.heap, tape := w.tape, drawn := w.drawn + 1, os := w.os, output := w.output })
    (hS1 : S1 { heap := w.heap, tape := w.tape, drawn := w.drawn + 1, os := w.os, output := w.output })
    (h : ∀ w', S1 w' → WH P n l S l.length (List.replicate l.length false) (fun f w => Q .normal f w) f w') : WC P n (.region id l.toArray true) Q f w := fun a ha => by
  refine wp_region_noPanic (wp_region_held (S := S) hm ?_)
  have e : (Array.replicate l.toArray.size false) = (List.replicate l.length false).toArray := by simp
  rw [e]
  have e2 : l.toArray.size = l.length := by simp
  rw [e2]
  exact h _ hS1 (NoPanic (qa n Q)) a (fun c a w hh => hh) ha (fun a' f' w' hg hk => ⟨f', hg, hk⟩)
theorem WH.sub (F : Fr) (hs : Sub F f) (h : WH P n ol S fuel listed K F w) : WH P n ol S fuel listed K f w := fun Q a hp ha hk => h Q a hp (ha.sub hs) hk
def canTake (ol : List Oper) (listed : List Bool) (i : Nat) : Bool :=
  Region.noSelect ol.toArray && Region.free .any ol.toArray listed.toArray i && (Region.ready .any ol.toArray listed.toArray).contains i
theorem WH.take (i : Nat) (hi : nthO ol i = some o) (hb : canTake ol listed i = true) (hw : want ol o f = some true) (hd : o.dst = some d) (hn : Nat.blt d n = true) (hS : S w) (hy : ∀ w, S w → Run P o f w (.value v) w)
    (k : WH P n ol S fuel (setB listed i) K ((d, v) :: f) w) : WH P n ol S (fuel + 1) listed K f w := fun Q a hp ha hk => by
  simp only [canTake, Bool.and_eq_true] at hb
  have hi' : ol.toArray[i]? = some o := by rw [List.getElem?_toArray, ← nthO_eq]; exact hi
  refine wpAnyH_take (v := v) hi' hb.1.1 hb.1.2 hb.2 (fun c a w hh => absurd hh (hp _ _ _)) (.inl ⟨want_eq ha hw, fun w hSw => hy w hSw a.eval fun x u hx => ha.ev hx⟩) hS ?_
  have := k Q _ hp (ha.put hn v) hk
  rw [setB_eq] at this
  rw [hd]
  simpa using this
theorem WH.takeSkip (i : Nat) (hi : nthO ol i = some o) (hb : canTake ol listed i = true) (hw : want ol o f = some false) (hd : o.dst = some d) (hn : Nat.blt d n = true) (hS : S w)
    (k : WH P n ol S fuel (setB listed i) K ((d, undef) :: f) w) : WH P n ol S (fuel + 1) listed K f w := fun Q a hp ha hk => by
  simp only [canTake, Bool.and_eq_true] at hb
  have hi' : ol.toArray[i]? = some o := by rw [List.getElem?_toArray, ← nthO_eq]; exact hi
  refine wpAnyH_take (v := undef) hi' hb.1.1 hb.1.2 hb.2 (fun c a w hh => absurd hh (hp _ _ _)) (.inr ⟨want_eq ha hw, rfl⟩) hS ?_
  have := k Q _ hp (ha.put hn undef) hk
  rw [setB_eq] at this
  rw [hd]
  simpa using this
def WHs (P : Program) (n : Nat) (ol : List Oper) (S : World → Prop) (fuel : Nat) (listed : List Bool) (K : Fr → World → Prop) (f : Fr) (w : World) (rs : List Nat) : Prop :=
  ∀ i, i ∈ rs → ∃ o, nthO ol i = some o ∧ WL P n ol [o] (fun f' w' => S w' ∧ WH P n ol S fuel (setB listed i) K f' w') f w
theorem WHs.nil : WHs P n ol S fuel listed K f w [] := fun _ h => by cases h
theorem WHs.cons {i : Nat} {rs : List Nat} (hi : nthO ol i = some o) (h : WL P n ol [o] (fun f' w' => S w' ∧ WH P n ol S fuel (setB listed i) K f' w') f w) (hr : WHs P n ol S fuel listed K f w rs) : WHs P n ol S fuel listed K f w (i :: rs) := fun j hj => by
  rcases List.mem_cons.1 hj with rfl | hj
  · exact ⟨o, hi, h⟩
  · exact hr j hj
theorem wp_then {o : Oper} {a : Act} {K : Act → World → Prop} {Q : Exit → Act → World → Prop} (h : o.wp P a w K (Exit.then K Q) ∨ (o.asks P a w ∧ LetsOut (Exit.then K Q))) : o.wp P a w K Q ∨ (o.asks P a w ∧ LetsOut Q) := by
  rcases h with h | h
  · refine .inl ?_
    unfold Oper.wp at h ⊢
    generalize (execOp a.eval o).run P w = r at h ⊢
    cases r with
    | ok x w' =>
      cases x <;> exact h
    | halt x w' => cases x <;> exact h
  · exact .inr h
theorem WH.all (rs : List Nat) (hr : Region.ready .any ol.toArray listed.toArray = rs) (hne : rs.isEmpty = false) (h : WHs P n ol S fuel listed K f w rs) : WH P n ol S (fuel + 1) listed K f w := fun Q a hp ha hk => by
  refine wpAnyH_all hr (by rintro rfl; cases hne) fun i hi => ?_
  obtain ⟨o, ho, hw⟩ := h i hi
  have hi' : ol.toArray[i]? = some o := by rw [List.getElem?_toArray, ← nthO_eq]; exact ho
  unfold wpOp
  rw [hi']
  show if Region.wanted o (yielded ol.toArray a.tmps) = true then _ else _
  have h1 := hw (Exit.then (fun a' w' => S w' ∧ wpAnyH P .any ol.toArray Q S fuel (listed.toArray.setIfInBounds i true) a' w') Q) a ha (fun a' f' w' hg hh => ⟨hh.1, by
    have := hh.2 Q a' hp hg hk
    rw [setB_eq] at this
    simpa using this⟩)
  unfold wpList at h1
  split
  · rename_i hwd
    rw [if_pos hwd] at h1
    exact wp_then h1
  · rename_i hwd
    rw [if_neg hwd] at h1
    exact h1
theorem WH.done (hr : Region.ready .any ol.toArray listed.toArray = []) (h : K f w) : WH P n ol S fuel listed K f w := fun Q a hp ha hk => wpAnyH_done hr (hk a f w ha h) fuel
end

theorem WH.split {P : Program} {n : Nat} {ol : List Oper} {K : Fr → World → Prop} {f : Fr} {w : World} {S : World → Prop} {fuel : Nat} {listed : List Bool} {g : Bool} (s : Nat) (_hs : lk f s = some (.bool g))
    (hT : g = true → WH P n ol S fuel listed K f w) (hF : g = false → WH P n ol S fuel listed K f w) : WH P n ol S fuel listed K f w := by
  cases h : g
  · exact hF h
  · exact hT h
theorem St.eq {w0 w : World} {T : List Nat} {L L' : Hp} (h : St w0 T L w) (e : L = L') : St w0 T L' w := e ▸ h

/-! slices that are read -/
/-- The slice of n elements of sz cells that begins at A reads vs in w. -/
structure SlR (w : World) (A : Option Addr) (n sz : Nat) (vs : List Value) : Prop where
  len : vs.length = n * sz
  some_ : 0 < n → A.isSome = true
  cell : ∀ j v, vs[j]? = some v → w.cell? ((adr A).add j) = some v
theorem cell?_lt {w : World} {a : Addr} {v : Value} (h : w.cell? a = some v) : a.block < w.heap.size := by
  unfold World.cell? at h
  split at h
  · rename_i hb; exact lt_of_heap hb
  · cases h
theorem add_block (a : Addr) (k : Nat) : (a.add k).block = a.block := by unfold Addr.add; split <;> rfl
theorem add_add (a : Addr) (i j : Nat) : (a.add i).add j = a.add (i + j) := by
  unfold Addr.add
  by_cases hi : i = 0 <;> by_cases hj : j = 0 <;> simp [hi, hj, Nat.add_assoc]
theorem St.cellKeep {w0 w : World} {T : List Nat} {L : Hp} (h : St w0 T L w) {a : Addr} {v : Value} (hc : w0.cell? a = some v) (hT : a.block ∉ T) : w.cell? a = some v := by
  rw [World.cell?_of_block (h.keep _ (cell?_lt hc) hT)]; exact hc
section
variable {w0 w w' : World} {A : Option Addr} {n sz : Nat} {vs : List Value} {T : List Nat} {L : Hp}
theorem SlR.st (h : SlR w0 A n sz vs) (hs : St w0 T L w) (hT : 0 < n → (adr A).block ∉ T) : SlR w A n sz vs :=
  ⟨h.len, h.some_, fun j v hv => hs.cellKeep (h.cell j v hv) (by
    rw [add_block]
    refine hT ?_
    have := (List.getElem?_eq_some_iff.1 hv).1
    rw [h.len] at this
    rcases Nat.eq_zero_or_pos n with h0 | h0
    · rw [h0] at this; omega
    · exact h0)⟩
theorem SlR.st0 (h : SlR w0 A n sz vs) (hs : St w0 [] L w) : SlR w A n sz vs := h.st hs (fun _ => by simp)
theorem SlR.nil (w : World) (A : Option Addr) (sz : Nat) : SlR w A 0 sz [] := ⟨by simp, fun h => absurd h (by omega), fun j v h => by simp at h⟩
theorem SlR.block {b off : Nat} {cl : List Value} {e : TypeId} {fz : Nat × Nat} (h : w.heap[b]? = some (.cells cl.toArray e fz)) (hv : (cl.drop off).take (n * sz) = vs) (hl : vs.length = n * sz) : SlR w (some ⟨b, off, none⟩) n sz vs :=
  ⟨hl, fun _ => rfl, fun j v hj => by
    have e1 : (adr (some ⟨b, off, none⟩)).add j = ⟨b, off + j, none⟩ := by unfold adr Addr.add; split <;> simp_all
    rw [e1]
    refine cell_of_heap h ?_
    rw [← hj, ← hv]
    have : j < n * sz := by
      rw [← hl]; exact (List.getElem?_eq_some_iff.1 hj).1
    rw [List.getElem?_take, if_pos this, List.getElem?_drop]⟩
/-- A load of one cell out of a slice. -/
theorem SlR.ld (h : SlR w A n sz vs) {j : Nat} {v : Value} (hv : vs[j]? = some v) : w.cell? ((adr A).add j) = some v := h.cell j v hv
theorem SlR.lds {P : Program} (h : SlR w A n sz vs) {j m : Nat} {us : List Value} (hv : (vs.drop j).take m = us) (hl : us.length = m) : (loadCells ((adr A).add j) m).run P w = .ok us.toArray w := by
  rw [run_loadCells w _ m (fun i => us.getD i undef) (fun i hi => ?_)]
  · congr 1
    congr 1
    apply List.ext_getElem?
    intro i
    simp only [List.getElem?_map]
    by_cases hi : i < m
    · simp [List.getElem?_range hi, List.getD, show i < us.length by omega]
    · simp [List.getElem?_eq_none (l := List.range m) (i := i) (by simp; omega), List.getElem?_eq_none (l := us) (i := i) (by omega)]
  · rw [add_add]
    refine h.cell _ _ ?_
    have h1 : us[i]? = vs[j + i]? := by
      rw [← hv, List.getElem?_take, if_pos hi, List.getElem?_drop]
    rw [← h1]
    simp [List.getD, show i < us.length by omega]
/-- A cut of a slice. -/
theorem SlR.cut (h : SlR w A n sz vs) {lo hi : Nat} (h1 : lo ≤ hi) (h2 : hi ≤ n) : SlR w (A.map (·.add (lo * sz))) (hi - lo) sz ((vs.drop (lo * sz)).take ((hi - lo) * sz)) := by
  refine ⟨?_, fun hp => ?_, fun j v hv => ?_⟩
  · rw [List.length_take, List.length_drop, h.len]
    have : (hi - lo) * sz ≤ n * sz - lo * sz := by rw [← Nat.sub_mul]; exact Nat.mul_le_mul_right _ (by omega)
    omega
  · have := h.some_ (by omega)
    cases A <;> simp_all
  · by_cases hp : 0 < hi - lo
    · have hA := h.some_ (by omega)
      obtain ⟨a, rfl⟩ := Option.isSome_iff_exists.1 hA
      have e : (adr ((some a).map (·.add (lo * sz)))).add j = (adr (some a)).add (lo * sz + j) := by simp [adr, add_add]
      rw [e]
      refine h.cell _ _ ?_
      rw [List.getElem?_take] at hv
      split at hv
      · rw [List.getElem?_drop] at hv; exact hv
      · cases hv
    · have : hi - lo = 0 := by omega
      rw [this] at hv
      simp at hv
end

/-! what bytes, numbers and structs look like in memory -/
/-- How data of a kind lies in cells. -/
structure Enc (α : Type) where
  sz : Nat
  enc : α → List Value
  dflt : α
  len : ∀ x, (enc x).length = sz
  one : ∀ x v, v ∈ enc x → v.oneCell' = true
  pos : 0 < sz
def rows {α : Type} (F : Enc α) (xs : List α) : List Value := xs.flatMap F.enc
def gat {α : Type} (F : Enc α) (xs : List α) (k : Nat) : α := xs.getD k F.dflt
section
variable {α : Type} {F : Enc α} {xs : List α} {k : Nat}
theorem rows_nil : rows F [] = [] := rfl
theorem rows_cons (x : α) : rows F (x :: xs) = F.enc x ++ rows F xs := rfl
theorem rows_append (a b : List α) : rows F (a ++ b) = rows F a ++ rows F b := by simp [rows]
theorem rows_len : ∀ (xs : List α), (rows F xs).length = xs.length * F.sz
  | [] => by simp [rows]
  | x :: r => by rw [rows_cons, List.length_append, F.len, rows_len r, List.length_cons, Nat.succ_mul]; omega
theorem rows_one : ∀ u, u ∈ rows F xs → u.oneCell' = true := by
  intro u hu
  obtain ⟨x, _, hx⟩ := List.mem_flatMap.1 hu
  exact F.one x u hx
theorem gat_get (h : k < xs.length) : xs[k]? = some (gat F xs k) := by simp [gat, List.getElem?_eq_getElem h, List.getD]
theorem gat_mem (h : k < xs.length) : gat F xs k ∈ xs := List.mem_of_getElem? (gat_get h)
theorem rows_drop : ∀ (xs : List α) (k : Nat), (rows F xs).drop (k * F.sz) = rows F (xs.drop k)
  | xs, 0 => by simp
  | [], k + 1 => by simp [rows]
  | x :: r, k + 1 => by
    rw [rows_cons, List.drop_append, List.drop_of_length_le (by rw [F.len, Nat.succ_mul]; omega), F.len, List.nil_append, List.drop_succ_cons, ← rows_drop r k]
    congr 1
    rw [Nat.succ_mul]; omega
theorem rows_take : ∀ (xs : List α) (k : Nat), (rows F xs).take (k * F.sz) = rows F (xs.take k)
  | xs, 0 => by simp [rows]
  | [], k + 1 => by simp [rows]
  | x :: r, k + 1 => by
    rw [rows_cons, List.take_append, List.take_of_length_le (by rw [F.len, Nat.succ_mul]; omega), F.len, List.take_succ_cons, rows_cons, ← rows_take r k]
    congr 2
    rw [Nat.succ_mul]; omega
theorem rows_at (h : k < xs.length) : ((rows F xs).drop (k * F.sz)).take F.sz = F.enc (gat F xs k) := by
  have e : xs.drop k = gat F xs k :: xs.drop (k + 1) := by
    rw [List.drop_eq_getElem_cons h]; congr 1; simp [gat, List.getElem?_eq_getElem h, List.getD]
  rw [rows_drop, e, rows_cons, List.take_append_of_le_length (by rw [F.len]; exact Nat.le_refl _), List.take_of_length_le (by rw [F.len]; exact Nat.le_refl _)]
theorem rows_get (h : k < xs.length) {off : Nat} (ho : off < F.sz) : (rows F xs)[k * F.sz + off]? = (F.enc (gat F xs k))[off]? := by
  rw [← rows_at h, List.getElem?_take, if_pos ho, List.getElem?_drop]
end
def encB : Enc UInt8 := ⟨1, fun b => [.int .u8 b.toNat], 0, fun _ => rfl, fun x v h => by simp at h; subst h; rfl, by decide⟩
def encI : Enc Int := ⟨1, fun n => [i64 n], 0, fun _ => rfl, fun x v h => by simp at h; subst h; rfl, by decide⟩
def encT : Enc Bool := ⟨1, fun n => [.bool n], false, fun _ => rfl, fun x v h => by simp at h; subst h; rfl, by decide⟩
def encS : Enc ByteArray := ⟨1, fun n => [.string n], { data := #[] }, fun _ => rfl, fun x v h => by simp at h; subst h; rfl, by decide⟩
abbrev bytesV (l : List UInt8) : List Value := rows encB l
abbrev intsV (l : List Int) : List Value := rows encI l
abbrev boolsV (l : List Bool) : List Value := rows encT l
abbrev bat (l : List UInt8) (k : Nat) : UInt8 := gat encB l k
abbrev iat (l : List Int) (k : Nat) : Int := gat encI l k
theorem bytesV_map (l : List UInt8) : bytesV l = l.map fun b => .int .u8 b.toNat := by
  induction l with
  | nil => rfl
  | cons x r ih => exact congrArg (List.cons _) ih
theorem intsV_map (l : List Int) : intsV l = l.map i64 := by
  induction l with
  | nil => rfl
  | cons x r ih => exact congrArg (List.cons _) ih
theorem bytesV_get {l : List UInt8} {k : Nat} (h : k < l.length) : (bytesV l)[k]? = some (.int .u8 (bat l k).toNat) := by
  have := rows_get (F := encB) h (off := 0) (by decide)
  rw [show k * encB.sz + 0 = k from by show k * 1 + 0 = k; omega] at this
  exact this
theorem intsV_get {l : List Int} {k : Nat} (h : k < l.length) : (intsV l)[k]? = some (i64 (iat l k)) := by
  have := rows_get (F := encI) h (off := 0) (by decide)
  rw [show k * encI.sz + 0 = k from by show k * 1 + 0 = k; omega] at this
  exact this
theorem bytesV_len (l : List UInt8) : (bytesV l).length = l.length := by rw [rows_len]; simp [encB]
theorem intsV_len (l : List Int) : (intsV l).length = l.length := by rw [rows_len]; simp [encI]
/-- A slice that is read. -/
structure SlF {α : Type} (F : Enc α) (w : World) (A : Option Addr) (n : Nat) (xs : List α) : Prop where
  len : xs.length = n
  rd : SlR w A n F.sz (rows F xs)
abbrev SlB := SlF encB
abbrev SlI := SlF encI
section
variable {α : Type} {F : Enc α} {w0 w w' : World} {A : Option Addr} {n k : Nat} {T : List Nat} {L : Hp} {xs : List α}
theorem SlF.nil (w : World) (A : Option Addr) : SlF F w A 0 [] := ⟨rfl, SlR.nil _ _ _⟩
theorem SlF.st0 (h : SlF F w0 A n xs) (hs : St w0 [] L w) : SlF F w A n xs := ⟨h.len, h.rd.st0 hs⟩
theorem SlF.st (h : SlF F w0 A n xs) (hs : St w0 T L w) (hT : 0 < n → (adr A).block ∉ T) : SlF F w A n xs := ⟨h.len, h.rd.st hs hT⟩
theorem SlF.some_ (h : SlF F w A n xs) : 0 < n → A.isSome = true := h.rd.some_
/-- One cell of an element. -/
theorem SlF.fld (h : SlF F w A n xs) {off : Nat} {v : Value} (hk : k < n) (hv : (F.enc (gat F xs k))[off]? = some v) : w.cell? (((adr A).add (k * F.sz)).add off) = some v := by
  have ho : off < F.sz := by rw [← F.len (gat F xs k)]; exact (List.getElem?_eq_some_iff.1 hv).1
  rw [add_add]
  exact h.rd.cell _ _ ((rows_get (by rw [h.len]; exact hk) ho).trans hv)
theorem SlF.one1 (h : SlF F w A n xs) {v : Value} (hk : k < n) (hv : (F.enc (gat F xs k))[0]? = some v) : w.cell? ((adr A).add (k * F.sz)) = some v := by
  have := h.fld (off := 0) hk hv
  rwa [add_add, Nat.add_zero] at this
/-- A part of an element. -/
theorem SlF.part {P : Program} (h : SlF F w A n xs) {off m : Nat} {us : List Value} (hk : k < n) (hv : ((F.enc (gat F xs k)).drop off).take m = us) (hl : Nat.beq us.length m = true) : (loadCells (((adr A).add (k * F.sz)).add off) m).run P w = .ok us.toArray w := by
  have hl' := Nat.eq_of_beq_eq_true hl
  rw [add_add]
  rcases Nat.eq_zero_or_pos m with h0 | h0
  · subst h0
    obtain rfl := List.eq_nil_of_length_eq_zero hl'
    rw [run_loadCells w _ 0 (fun _ => undef) (fun j hj => by omega)]; rfl
  have hle : off + m ≤ F.sz := by
    have := congrArg List.length hv
    rw [List.length_take, List.length_drop, F.len, hl'] at this
    omega
  refine h.rd.lds ?_ hl'
  have e := rows_at (F := F) (xs := xs) (k := k) (by rw [h.len]; exact hk)
  rw [← hv, ← e, List.drop_take, List.take_take, List.drop_drop, Nat.min_eq_left (by omega)]
/-- A whole element. -/
theorem SlF.whole {P : Program} (h : SlF F w A n xs) (hk : k < n) : (loadCells ((adr A).add (k * F.sz)) F.sz).run P w = .ok (F.enc (gat F xs k)).toArray w :=
  h.rd.lds (rows_at (by rw [h.len]; exact hk)) (F.len _)
theorem SlB.ld {xs : List UInt8} (h : SlB w A n xs) {k : Nat} (hk : k < n) : w.cell? ((adr A).add (k * 1)) = some (.int .u8 (bat xs k).toNat) := by
  rw [Nat.mul_one]; exact h.rd.cell _ _ (bytesV_get (by rw [h.len]; exact hk))
theorem SlI.ld {xs : List Int} (h : SlI w A n xs) {k : Nat} (hk : k < n) : w.cell? ((adr A).add (k * 1)) = some (i64 (iat xs k)) := by
  rw [Nat.mul_one]; exact h.rd.cell _ _ (intsV_get (by rw [h.len]; exact hk))
theorem SlF.own {b : Nat} {e : TypeId} {fz : Nat × Nat} (h : w.heap[b]? = some (.cells (rows F xs).toArray e fz)) : SlF F w (some ⟨b, 0, none⟩) xs.length xs :=
  ⟨rfl, SlR.block (off := 0) h (by rw [List.drop_zero, List.take_of_length_le (by rw [rows_len]; exact Nat.le_refl _)]) (by rw [rows_len])⟩
theorem SlF.ownN {b n : Nat} {e : TypeId} {fz : Nat × Nat} (hl : xs.length = n) (h : w.heap[b]? = some (.cells (rows F xs).toArray e fz)) : SlF F w (some ⟨b, 0, none⟩) n xs := by subst hl; exact SlF.own h
end
theorem SlB.ownN {w : World} {b n : Nat} {xs : List UInt8} {e : TypeId} {fz : Nat × Nat} (hl : xs.length = n) (h : w.heap[b]? = some (.cells (bytesV xs).toArray e fz)) : SlB w (some ⟨b, 0, none⟩) n xs := SlF.ownN hl h
theorem SlI.ownN {w : World} {b n : Nat} {xs : List Int} {e : TypeId} {fz : Nat × Nat} (hl : xs.length = n) (h : w.heap[b]? = some (.cells (intsV xs).toArray e fz)) : SlI w (some ⟨b, 0, none⟩) n xs := SlF.ownN hl h
/-- A row of elements that has been filled up to i. -/
def fillF {α : Type} (F : Enc α) (z : List Value) (xs : List α) (i : Nat) : List Value := rows F (xs.take i) ++ (List.replicate (xs.length - i) z).flatten
section
variable {α : Type} {F : Enc α} {z : List Value} {xs : List α} {i n : Nat}
theorem fillF_zero (h : xs.length = n) : (List.replicate n z).flatten = fillF F z xs 0 := by simp [fillF, rows, h]
theorem fillF_full (h : xs.length ≤ i) : fillF F z xs i = rows F xs := by
  unfold fillF
  rw [List.take_of_length_le h, Nat.sub_eq_zero_of_le h]; simp
theorem fillF_len (hz : z.length = F.sz) (h : i ≤ xs.length) : (fillF F z xs i).length = xs.length * F.sz := by
  unfold fillF
  rw [List.length_append, rows_len, List.length_take, Nat.min_eq_left h, List.length_flatten, List.map_replicate, List.sum_replicate_nat, hz, ← Nat.add_mul]
  congr 1; omega
theorem fillF_next (hz : z.length = F.sz) {off m : Nat} {vs : List Value} (h : i < xs.length) (ho : off = i * F.sz) (hm : m = F.sz) (hv : vs = F.enc (gat F xs i)) :
    (fillF F z xs i).take off ++ vs ++ (fillF F z xs i).drop (off + m) = fillF F z xs (i + 1) := by
  subst ho hm hv
  have hl : (rows F (xs.take i)).length = i * F.sz := by rw [rows_len, List.length_take, Nat.min_eq_left (Nat.le_of_lt h)]
  obtain ⟨r, hr⟩ : ∃ r, xs.length - i = r + 1 := ⟨xs.length - i - 1, by omega⟩
  have hr2 : xs.length - (i + 1) = r := by omega
  unfold fillF
  rw [hr, hr2, List.take_append_of_le_length (by omega), List.take_of_length_le (by omega), List.replicate_succ, List.flatten_cons, List.drop_append, List.drop_of_length_le (by omega), hl]
  rw [show i * F.sz + F.sz - i * F.sz = F.sz by omega, List.nil_append, List.drop_append_of_le_length (by omega), List.drop_of_length_le (by omega), List.nil_append]
  rw [List.take_add_one, gat_get (F := F) h, rows_append]
  simp [rows]
theorem set_eq_cut : ∀ (l : List Value) (k : Nat) (v : Value), k < l.length → l.set k v = l.take k ++ [v] ++ l.drop (k + 1)
  | [], _, _, h => by simp at h
  | x :: r, 0, v, _ => by simp
  | x :: r, k + 1, v, h => by simp [set_eq_cut r k v (by simpa using h)]
theorem fillF_next1 (hz : z.length = F.sz) (h1 : F.sz = 1) {off : Nat} {v : Value} (h : i < xs.length) (ho : off = i) (hv : [v] = F.enc (gat F xs i)) : (fillF F z xs i).set off v = fillF F z xs (i + 1) := by
  have hl : (fillF F z xs i).length = xs.length := by rw [fillF_len hz (Nat.le_of_lt h), h1, Nat.mul_one]
  rw [set_eq_cut _ _ _ (by omega), ← fillF_next (F := F) hz (off := off) (m := 1) h (by rw [h1, Nat.mul_one]; exact ho) h1.symm hv]
/-- A cell of an element is replaced. -/
theorem rows_set {x' : α} {k off idx : Nat} {v : Value} (hk : k < xs.length) (ho : off < F.sz) (hi : idx = k * F.sz + off) (hx : F.enc x' = (F.enc (gat F xs k)).set off v) : (rows F xs).set idx v = rows F (xs.set k x') := by
  subst hi
  induction xs generalizing k with
  | nil => simp at hk
  | cons x r ih =>
    cases k with
    | zero =>
      have hg : gat F (x :: r) 0 = x := rfl
      rw [hg] at hx
      rw [rows_cons, List.set_cons_zero, rows_cons, hx, Nat.zero_mul, Nat.zero_add, List.set_append_left _ _ (by rw [F.len]; exact ho)]
    | succ k =>
      have hg : gat F (x :: r) (k + 1) = gat F r k := by simp [gat]
      rw [hg] at hx
      rw [rows_cons, List.set_cons_succ, rows_cons, ← ih (by simpa using hk) hx, List.set_append_right _ _ (by rw [F.len, Nat.succ_mul]; omega), F.len]
      congr 2
      rw [Nat.succ_mul]; omega
end
/-- A row that has been filled up to i. -/
def fillV (vs : List Value) (z : Value) (i : Nat) : List Value := vs.take i ++ List.replicate (vs.length - i) z
theorem fillV_zero (vs : List Value) (z : Value) : fillV vs z 0 = (List.replicate vs.length [z]).flatten := by
  simp [fillV]
theorem fillV_len (vs : List Value) (z : Value) (i : Nat) (h : i ≤ vs.length) : (fillV vs z i).length = vs.length := by
  simp [fillV]; omega
theorem fillV_set {vs : List Value} {z v : Value} {i : Nat} (h : vs[i]? = some v) : (fillV vs z i).set i v = fillV vs z (i + 1) := by
  obtain ⟨hi, rfl⟩ := List.getElem?_eq_some_iff.1 h
  unfold fillV
  obtain ⟨m, hm⟩ : ∃ m, vs.length - i = m + 1 := ⟨vs.length - i - 1, by omega⟩
  have hm2 : vs.length - (i + 1) = m := by omega
  rw [hm, hm2, List.replicate_succ, List.set_append_right _ _ (by simp; omega)]
  simp only [List.length_take, Nat.min_eq_left (Nat.le_of_lt hi), Nat.sub_self, List.set_cons_zero]
  rw [List.take_add_one, List.getElem?_eq_getElem hi, List.append_assoc]
  rfl
theorem fillV_setI {vs : List Value} {z v : Value} {i off : Nat} (ho : off = i) (h : vs[i]? = some v) : (fillV vs z i).set off v = fillV vs z (i + 1) := by subst ho; exact fillV_set h
theorem fillV_full (vs : List Value) (z : Value) : fillV vs z vs.length = vs := by simp [fillV]

/-! new rows -/
theorem madeCells_list (z : List Value) (n : Nat) : (madeCells z.toArray (n * z.length)).toList = (List.replicate n z).flatten := by
  unfold madeCells
  apply List.ext_getElem?
  intro i
  simp only [Array.toList_map, Array.toList_range, List.size_toArray, List.getElem?_map]
  by_cases hi : i < n * z.length
  · have hz : 0 < z.length := by
      rcases Nat.eq_zero_or_pos z.length with h | h
      · rw [h] at hi; omega
      · exact h
    rw [List.getElem?_range hi]
    have hm : i % z.length < z.length := Nat.mod_lt _ hz
    simp only [Option.map_some]
    have e1 : z.toArray[i % z.length]! = z[i % z.length] := by simp [hm]
    rw [e1]
    clear e1
    induction n generalizing i with
    | zero => omega
    | succ n ih =>
      rw [List.replicate_succ, List.flatten_cons]
      by_cases hlt : i < z.length
      · rw [List.getElem?_append_left hlt]
        simp [Nat.mod_eq_of_lt hlt, hlt]
      · rw [List.getElem?_append_right (by omega)]
        have h2 : i - z.length < n * z.length := by rw [Nat.succ_mul] at hi; omega
        have h3 : i % z.length = (i - z.length) % z.length := by
          rw [Nat.mod_eq_sub_mod (by omega)]
        have := ih (i := i - z.length) h2 (Nat.mod_lt _ hz)
        rw [← this]
        congr 1
        simp only [h3]
  · rw [List.getElem?_eq_none (by simp; omega), List.getElem?_eq_none (by simp; omega)]
    rfl
section
variable {P : Program} {n : Nat} {ol rest : List Oper} {o : Oper} {K : Fr → World → Prop} {f : Fr} {w0 w w' : World} {T : List Nat} {L : Hp} {d : Nat} {v : Value}
theorem WL.make (hst : St w0 T L w) {t e : TypeId} {i : TypeInfo} {z : Value} {zl : List Value} {x y : Operand} {m : Nat} (ht : P.underlying t = some (.slice e)) (hi : P.info? e = some i) (hz : i.zero = some z) (hzl : cellsOf z = zl) (hsz : Nat.beq i.size zl.length = true)
    (ho : o.op = .makeSlice t x y) (hw : want ol o f = some true) (hd : o.dst = some d) (hn : Nat.blt d n = true) (hx : ev f x = some (.int .i64 m)) (hy : ev f y = some (.int .i64 m)) (hb : i.bytes * m ≤ 281474976710656) (hm : m ≤ 9223372036854775807)
    (k : ∀ b w', St w0 T ((b, .cells ((List.replicate m zl).flatten).toArray e (0, 0)) :: L) w' → WL P n ol rest K ((d, .slice (some ⟨b, 0, none⟩) m m) :: f) w') : WL P n ol (o :: rest) K f w := by
  have hb' : (i.bytes : Int) * (m : Int) ≤ 281474976710656 := by rw [← Int.natCast_mul]; omega
  have hr := run_make (P := P) w t e i z ht hi hz .i64 .i64 m m (by omega) (Int.le_refl _) hb' (by omega)
  simp only [Int.toNat_natCast] at hr
  have e1 : (madeCells z.cells (m * i.size)) = ((List.replicate m zl).flatten).toArray := by
    rw [cellsOf_eq, hzl, Nat.eq_of_beq_eq_true hsz]
    apply Array.toList_inj.1
    rw [madeCells_list]
  rw [e1] at hr
  refine WL.val (w' := w.alloc (.cells ((List.replicate m zl).flatten).toArray e (0, 0))) hw hd hn (fun ρ hρ => ?_) (k _ _ (hst.alloc _))
  simp [execOp, ho, hρ _ _ hx, hρ _ _ hy, hr]
/-- A store of one cell into a block of ours, at a place that is reckoned. -/
theorem WL.storeI (hst : St w0 T L w) (i : Nat) {t : TypeId} {x y : Operand} {b off : Nat} {cl : List Value} {e : TypeId} {lo hi : Nat} (hz : ∀ w, (sizeOf t).run P w = .ok 1 w) (ho : o.op = .store t x y) (hw : want ol o f = some true) (hd : o.dst = none)
    (hx : ev f x = some (.pointer (some ⟨b, off, none⟩))) (hy : ev f y = some v) (hi' : nthL L i = some (b, .cells cl.toArray e (lo, hi))) (hv : v.oneCell' = true) (hlt : off < cl.length) (hfz : ¬ (lo ≤ off ∧ off < hi))
    (k : ∀ w', St w0 T (setL L i (.cells (cl.set off v).toArray e (lo, hi))) w' → WL P n ol rest K f w') : WL P n ol (o :: rest) K f w := by
  refine WL.store hst i hz ho hw hd hx hy hi' hv (Nat.ble_eq_true_of_le hlt) ?_ (cl' := cl.set off v) (setV_eq _ _ _) k
  cases h1 : Nat.ble lo off <;> cases h2 : Nat.blt off hi <;> try rfl
  exact absurd ⟨Nat.le_of_ble_eq_true h1, Nat.le_of_ble_eq_true h2⟩ hfz
theorem storeCells_ours : ∀ (vs : List Value) (i : Nat) (w : World) (b off : Nat) (cl : List Value) (e : TypeId) (fz : Nat × Nat), w.heap[b]? = some (.cells cl.toArray e fz) → (∀ v, v ∈ vs → v.oneCell' = true) → off + i + vs.length ≤ cl.length → (∀ j, ¬ (fz.1 ≤ j ∧ j < fz.2) ∨ ¬ (off + i ≤ j ∧ j < off + i + vs.length)) →
    ∃ w', (storeCells ⟨b, off, none⟩ vs i).run P w = .ok () w' ∧ w'.heap[b]? = some (.cells (cl.take (off + i) ++ vs ++ cl.drop (off + i + vs.length)).toArray e fz) ∧ (∀ k, k ≠ b → w'.heap[k]? = w.heap[k]?) ∧ w'.os = w.os ∧ w'.tape = w.tape ∧ w'.output = w.output ∧ w'.heap.size = w.heap.size
  | [], i, w, b, off, cl, e, fz, hh, _, _, _ => ⟨w, by simp [storeCells], by simp [hh], fun _ _ => rfl, rfl, rfl, rfl, rfl⟩
  | v :: r, i, w, b, off, cl, e, fz, hh, h1, hl, hf => by
    simp only [List.length_cons] at hl hf
    have hlt : off + i < cl.length := by omega
    have e1 : (⟨b, off, none⟩ : Addr).add i = ⟨b, off + i, none⟩ := by unfold Addr.add; split <;> simp_all
    have hst : (store (⟨b, off + i, none⟩ : Addr) v).run P w = .ok () (w.setCell ⟨b, off + i, none⟩ v) := by
      refine run_store_ours (h1 v List.mem_cons_self) ?_ ?_
      · rw [cell_of_heap (v := cl[off + i]) hh (by simp [hlt])]; rfl
      · simp only [World.frozen?, hh]
        rw [Bool.eq_false_iff]
        intro hh2
        simp only [Bool.and_eq_true, decide_eq_true_eq] at hh2
        rcases hf (off + i) with h | h
        · exact h hh2
        · exact h ⟨by omega, by omega⟩
    have hh' : (w.setCell ⟨b, off + i, none⟩ v).heap[b]? = some (.cells (cl.set (off + i) v).toArray e fz) := by
      simp [World.setCell, Array.getElem?_modify, hh]
    obtain ⟨w', hr, g1, g2, g3, g4, g5, g6⟩ := storeCells_ours r (i + 1) _ b off (cl.set (off + i) v) e fz hh' (fun u hu => h1 u (List.mem_cons_of_mem _ hu)) (by simp; omega) (fun j => (hf j).imp id (fun h hh => h ⟨by omega, by omega⟩))
    refine ⟨w', ?_, ?_, fun k hk => (g2 k hk).trans (Below.heap_setCell _ _ _ _ hk), g3, g4, g5, by rw [g6]; simp [World.setCell]⟩
    · simp only [storeCells, e1, Sem.run_bind, hst, Result.andThen]
      exact hr
    · rw [g1]
      congr 3
      have e2 : off + (i + 1) = off + i + 1 := by omega
      rw [e2, List.take_add_one, List.take_set_of_le (Nat.le_refl _), List.drop_set_of_lt (by omega)]
      simp [hlt]
      omega
/-- A store of a struct into a block of ours. -/
theorem WL.storeA (hst : St w0 T L w) (i : Nat) {t : TypeId} {x y : Operand} {b off sz : Nat} {cl vs : List Value} {e : TypeId} {lo hi : Nat} (hz : ∀ w, (sizeOf t).run P w = .ok sz w) (ho : o.op = .store t x y) (hw : want ol o f = some true) (hd : o.dst = none)
    (hx : ev f x = some (.pointer (some ⟨b, off, none⟩))) (hy : ev f y = some v) (hvs : cellsOf v = vs) (hi' : nthL L i = some (b, .cells cl.toArray e (lo, hi))) (h1 : vs.all (·.oneCell') = true) (hsz : vs.length = sz) (hlt : off + sz ≤ cl.length) (hfz : hi ≤ lo ∨ hi ≤ off ∨ off + sz ≤ lo)
    (k : ∀ w', St w0 T (setL L i (.cells (cl.take off ++ vs ++ cl.drop (off + sz)).toArray e (lo, hi))) w' → WL P n ol rest K f w') : WL P n ol (o :: rest) K f w := by
  subst hsz
  have hown := hst.own _ (nthL_mem hi')
  obtain ⟨w', hr, g1, g2, g3, g4, g5, g6⟩ := storeCells_ours (P := P) vs 0 w b off cl e (lo, hi) hown.1 (fun u hu => List.all_eq_true.1 h1 u hu) (by omega) (fun j => by
    by_cases hj : lo ≤ j ∧ j < hi
    · exact .inr (by omega)
    · exact .inl hj)
  refine WL.unit (w' := w') hw hd (fun ρ hρ => ?_) (k _ ?_)
  · have hc : v.cells.size = vs.length := by rw [cellsOf_eq, hvs]; simp
    have hc2 : v.cells.toList = vs := by rw [cellsOf_eq, hvs]
    simp [execOp, ho, hρ _ _ hx, hρ _ _ hy, Instr.storeAt, Instr.sureAddr, storeVar, hz, hc, hc2, hr]
  · refine ⟨g3.trans hst.os, g4.trans hst.tape, g5.trans hst.output, by rw [g6]; exact hst.size, fun k hk hT => ?_, fun p hp => ?_, by rw [setL_keys]; exact hst.nodup⟩
    · refine (g2 k ?_).trans (hst.keep k hk hT)
      rintro rfl
      rcases hown.2 with h | h
      · simp only at h; omega
      · exact hT h
    · rcases setL_mem hi' hst.nodup hp with rfl | ⟨hm, hne⟩
      · exact ⟨by simpa using g1, hown.2⟩
      · exact ⟨(g2 _ hne).trans (hst.own p hm).1, (hst.own p hm).2⟩
end

/-! slices that are written out -/
theorem foldl_set (off : Nat) : ∀ (vs : List Value) (j : Nat) (cells : Array Value), off + j + vs.length ≤ cells.size →
    ((vs.zipIdx j).foldl (fun cs (p : Value × Nat) => cs.setIfInBounds (off + p.2) p.1) cells).toList = cells.toList.take (off + j) ++ vs ++ cells.toList.drop (off + j + vs.length)
  | [], j, cells, h => by simp
  | v :: r, j, cells, h => by
    simp only [List.length_cons] at h
    rw [List.zipIdx_cons, List.foldl_cons, foldl_set off r (j + 1) _ (by simp; omega)]
    have hlt : off + j < cells.toList.length := by simp; omega
    simp only [Array.toList_setIfInBounds]
    have e2 : off + (j + 1) = off + j + 1 := by omega
    rw [e2, List.take_add_one, List.take_set_of_le (Nat.le_refl _), List.drop_set_of_lt (by omega)]
    simp [show off + j < cells.size by omega]
    omega
theorem foldl_set_size (off : Nat) : ∀ (zs : List (Value × Nat)) (cells : Array Value), (zs.foldl (fun cs (p : Value × Nat) => cs.setIfInBounds (off + p.2) p.1) cells).size = cells.size
  | [], _ => rfl
  | p :: q, cells => by rw [List.foldl_cons, foldl_set_size off q]; simp
theorem fill_full {sz : Nat} : ∀ (vs : List Value) (k : Nat) (cells : Array Value), (∀ v, v ∈ vs → (cellsOf v).length = sz) → k * sz + vs.length * sz ≤ cells.size →
    ∃ out, Instr.fill (fun i => some (i * sz, sz)) cells ((vs.zipIdx k).map fun p => (p.2, p.1)) = some out ∧ out.toList = cells.toList.take (k * sz) ++ vs.flatMap cellsOf ++ cells.toList.drop (k * sz + vs.length * sz)
  | [], k, cells, _, _ => ⟨cells, rfl, by simp⟩
  | v :: r, k, cells, hv, h => by
    have h0 := hv v List.mem_cons_self
    have hc : v.cells.size = sz := by rw [cellsOf_eq]; simpa using h0
    simp only [List.length_cons, Nat.succ_mul] at h
    have hf := foldl_set (k * sz) (cellsOf v) 0 cells (by rw [h0]; omega)
    generalize hg : (((cellsOf v).zipIdx 0).foldl (fun cs (p : Value × Nat) => cs.setIfInBounds (k * sz + p.2) p.1) cells) = c1 at hf
    have hsz : c1.size = cells.size := by
      rw [← hg]
      generalize (cellsOf v).zipIdx 0 = zs
      exact foldl_set_size _ zs cells
    obtain ⟨out, ho, hl⟩ := fill_full r (k + 1) c1 (fun u hu => hv u (List.mem_cons_of_mem _ hu)) (by rw [hsz, Nat.succ_mul]; omega)
    refine ⟨out, ?_, ?_⟩
    · rw [List.zipIdx_cons, List.map_cons]
      unfold Instr.fill
      have hn : ¬ (v.cells.size ≠ sz ∨ k * sz + v.cells.size > cells.size) := by rw [hc]; omega
      simp only [hc]
      have e1 : (decide (sz ≠ sz) || decide (k * sz + sz > cells.size)) = false := by simp; omega
      simp only [e1, Bool.false_eq_true, if_false]
      have e2 : (v.cells.zipIdx.foldl (fun cs (x : Value × Nat) => match x with | (c, j) => cs.setIfInBounds (k * sz + j) c) cells) = c1 := by
        rw [cellsOf_eq, ← Array.foldl_toList, Array.toList_zipIdx]
        exact hg
      rw [e2]
      exact ho
    · rw [hl, hf]
      simp only [List.length_cons, List.flatMap_cons, Nat.succ_mul, Nat.add_zero, h0]
      have e3 : (cells.toList.take (k * sz) ++ cellsOf v).length = k * sz + sz := by simp [h0]; omega
      rw [List.take_append_of_le_length (by rw [e3]; exact Nat.le_refl _), List.take_of_length_le (by rw [e3]; exact Nat.le_refl _)]
      rw [List.drop_append, List.drop_of_length_le (by rw [e3]; omega), e3, List.drop_drop]
      simp only [List.nil_append, List.append_assoc]
      congr 4
      omega
section
variable {P : Program} {n : Nat} {ol rest : List Oper} {o : Oper} {K : Fr → World → Prop} {f : Fr} {w0 w w' : World} {T : List Nat} {L : Hp} {d : Nat} {v : Value}
theorem WL.buildSlice (hst : St w0 T L w) {t e : TypeId} {len sz : Nat} {z : Value} {parts : Array (Nat × Operand)} {vs : List Value} (hu : ∀ w, (underlying t).run P w = .ok (.slice e) w) (hz : ∀ w, (sizeOf e).run P w = .ok sz w) (hzv : ∀ w, (zeroValue e).run P w = .ok z w) (hzs : Nat.beq (cellsOf z).length sz = true)
    (ho : o.op = .buildSlice t len parts) (hw : want ol o f = some true) (hd : o.dst = some d) (hn : Nat.blt d n = true) (hv : evs f (parts.toList.map (·.2)) = some vs) (hix : parts.toList.map (·.1) = List.range len) (hl : Nat.beq vs.length len = true) (hcs : vs.all (fun v => Nat.beq (cellsOf v).length sz) = true) (hbig : Nat.ble (len * sz) 16777216 = true)
    (k : ∀ b w', St w0 T ((b, .cells (vs.flatMap cellsOf).toArray e (0, 0)) :: L) w' → WL P n ol rest K ((d, .slice (some ⟨b, 0, none⟩) len len) :: f) w') : WL P n ol (o :: rest) K f w := by
  have hl' := Nat.eq_of_beq_eq_true hl
  have hb' := Nat.le_of_ble_eq_true hbig
  have hcs' : ∀ v, v ∈ vs → (cellsOf v).length = sz := fun v hm => Nat.eq_of_beq_eq_true (List.all_eq_true.1 hcs v hm)
  refine WL.val (w' := w.alloc (.cells (vs.flatMap cellsOf).toArray e (0, 0))) hw hd hn (fun ρ hρ => ?_) (k _ _ (hst.alloc _))
  have hp : (parts.map fun p => (p.1, ρ p.2)).toList = (vs.zipIdx 0).map fun p => (p.2, p.1) := by
    have hm := evs_map hρ hv
    apply List.ext_getElem?
    intro i
    simp only [Array.toList_map, List.getElem?_map, List.getElem?_zipIdx]
    have h1 := congrArg (fun l => l[i]?) hm
    have h2 := congrArg (fun l => l[i]?) hix
    simp only [List.map_map, List.getElem?_map] at h1 h2
    cases hpi : parts.toList[i]? with
    | none =>
      rw [hpi] at h1
      cases hvi : vs[i]? with
      | none => simp
      | some u => rw [hvi] at h1; simp at h1
    | some p =>
      rw [hpi] at h1 h2
      cases hvi : vs[i]? with
      | none => rw [hvi] at h1; simp at h1
      | some u =>
        rw [hvi] at h1
        simp only [Option.map_some, Option.some.injEq, Function.comp_apply] at h1
        have hlt : i < len := by rw [← hl']; exact (List.getElem?_eq_some_iff.1 hvi).1
        rw [List.getElem?_range hlt] at h2
        simp only [Option.map_some, Option.some.injEq] at h2
        simp [h2, h1]
  obtain ⟨out, hf, hol⟩ := fill_full (sz := sz) vs 0 ((Array.range (len * sz)).map (fun i => z.cells[i % z.cells.size]!)) hcs' (by simp [hl'])
  have hout : out = (vs.flatMap cellsOf).toArray := by
    apply Array.toList_inj.1
    rw [hol]
    simp [hl']
  by_cases h0 : len * sz = 0
  · have hv0 : vs.flatMap cellsOf = [] := by
      rw [List.eq_nil_iff_length_eq_zero]
      have : out.toList.length = _ := congrArg List.length hol
      have hz0 : (vs.flatMap cellsOf).length = len * sz := by
        rw [List.length_flatMap]
        have : vs.map (fun a => (cellsOf a).length) = vs.map (fun _ => sz) := List.map_congr_left hcs'
        rw [this, List.map_const', List.sum_replicate_nat, hl']
      rw [hz0, h0]
    have hf0 : Instr.fill (fun i => some (i * sz, sz)) #[] ((vs.zipIdx 0).map fun p => (p.2, p.1)) = some #[] := by
      have hr : (Array.range (len * sz)).map (fun i => z.cells[i % z.cells.size]!) = #[] := by rw [h0]; simp
      rw [hr] at hf
      rw [hf, hout, hv0]
    simp [execOp, ho, Instr.buildSlice, hu, hz, h0, newRow, hv0]
    have := hp
    simp only [Array.toList_map] at this
    rw [this, show (Array.map (fun _ => (default : Value)) (Array.range 0)) = #[] from by simp, hf0]
    simp
  · simp [execOp, ho, Instr.buildSlice, hu, hz, h0, newRow, hzv]
    have h16 : ¬ 16777216 < len * sz := by omega
    have := hp
    simp only [Array.toList_map] at this
    simp only [h16, if_false]
    rw [this, hf, hout]
    simp
end
end Go.Proofs.Ytpiimkfonlijdaa
