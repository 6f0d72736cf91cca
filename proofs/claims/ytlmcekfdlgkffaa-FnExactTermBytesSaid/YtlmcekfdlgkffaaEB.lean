/-
  The engine, part 5: regions in whatever order; slices that are read; slices that are ours.
  The engine, part 6: a slice that is ours and grows; cuts; bytes and strings.
  The engine, part 7: slices that are ours, by their data: new, stored into, appended to, lent.
  The engine, part 8: comparing structs; bits; calls of function values.
  The engine, part 9: slices of slices, slices of strings.
-/
import Derived.Test.YtlmcekfdlgkffaaEA
import Derived.OrdersHeld
import Derived.Deep.RegionHeld3
import Derived.Maps.AppendAt
import Derived.Deep.AppendSrc
import Derived.Laws.IdiomStrings
import Derived.Laws.StructEq
namespace Go.Proofs.Ytlmcekfdlgkffaa
open Go Go.RowKit
set_option linter.unusedVariables false
set_option linter.unusedSimpArgs false

/-! whatever order -/
def setB : List Bool → Nat → List Bool
  | [], _ => []
  | _ :: r, 0 => true :: r
  | x :: r, k + 1 => x :: setB r k
theorem setB_eq : ∀ (l : List Bool) (i : Nat), setB l i = l.set i true
  | [], _ => by simp [setB]
  | _ :: r, 0 => rfl
  | x :: r, k + 1 => by simp [setB, setB_eq r k]
def WH (P : Program) (n : Nat) (ol : List Oper) (S : World → Prop) (fuel : Nat) (listed : List Bool) (K : Fr → World → Prop) (f : Fr) (w : World) : Prop :=
  ∀ (Q : Exit → Act → World → Prop) (a : Act), (∀ c a w, ¬ Q (.panic c) a w) → Good a n f → (∀ a' f' w', Good a' n f' → K f' w' → Q .normal a' w') → wpAnyH P .any ol.toArray Q S fuel listed.toArray a w
section
variable {P : Program} {n : Nat} {ol : List Oper} {o : Oper} {K : Fr → World → Prop} {f : Fr} {w : World} {d : Nat} {v : Value} {S : World → Prop} {fuel : Nat} {listed : List Bool}
theorem WC.regionH {id : Nat} {l : List Oper} {Q : Kont} (S : World → Prop) (hm : P.follows .mixedOrders = true)
    (hS : S { heap := w.heap, tape := w.tape, drawn := w.drawn + 1, os := w.os, output := w.output })
    (h : ∀ w', S w' → WH P n l S l.length (List.replicate l.length false) (fun f w => Q .normal f w) f w') : WC P n (.region id l.toArray true) Q f w := fun a ha => by
  refine wp_region_noPanic (wp_region_held (S := S) hm ?_)
  have e : (Array.replicate l.toArray.size false) = (List.replicate l.length false).toArray := by simp
  rw [e]
  have e2 : l.toArray.size = l.length := by simp
  rw [e2]
  exact h _ hS (NoPanic (qa n Q)) a (fun c a w hh => hh) ha (fun a' f' w' hg hk => ⟨f', hg, hk⟩)
theorem WC.regionH2 {id : Nat} {l : List Oper} {Q : Kont} (S S1 : World → Prop) (hm : P.follows .mixedOrders = true)
    (hS : S { heap := w.heap, tape := w.tape, drawn := w.drawn + 1, os := w.os, output := w.output })
    (hS1 : S1 { heap := w.heap, tape := w.tape, drawn := w.drawn + 1, os := w.os, output := w.output })
    (h : ∀ w', S1 w' → WH P n l S l.length (List.replicate l.length false) (fun f w => Q .normal f w) f w') : WC P n (.region id l.toArray true) Q f w := fun a ha => by
  refine wp_region_noPanic (wp_region_held (S := S) hm ?_)
  have e : (Array.replicate l.toArray.size false) = (List.replicate l.length false).toArray := by simp
  rw [e]
  have e2 : l.toArray.size = l.length := by simp
  rw [e2]
  exact h _ hS1 (NoPanic (qa n Q)) a (fun c a w hh => hh) ha (fun a' f' w' hg hk => ⟨f', hg, hk⟩)
theorem WH.sub (F : Fr) (hs : Sub F f) (h : WH P n ol S fuel listed K F w) : WH P n ol S fuel listed K f w := fun Q a hp ha hk => h Q a hp (ha.sub hs) hk
def canTake (ol : List Oper) (listed : List Bool) (i : Nat) : Bool :=
  Region.noSelect ol.toArray && Region.free .any ol.toArray listed.toArray i && (Region.ready .any ol.toArray listed.toArray).contains i
theorem WH.take (i : Nat) (hi : nthO ol i = some o) (hb : canTake ol listed i = true) (hw : want ol o f = some true) (hd : o.dst = some d) (hn : Nat.blt d n = true) (hS : S w) (hy : ∀ w, S w → Run P o f w (.value v) w)
    (k : WH P n ol S fuel (setB listed i) K ((d, v) :: f) w) : WH P n ol S (fuel + 1) listed K f w := fun Q a hp ha hk => by
  simp only [canTake, Bool.and_eq_true] at hb
  have hi' : ol.toArray[i]? = some o := by rw [List.getElem?_toArray, ← nthO_eq]; exact hi
  refine wpAnyH_take (v := v) hi' hb.1.1 hb.1.2 hb.2 (fun c a w hh => absurd hh (hp _ _ _)) (.inl ⟨want_eq ha hw, fun w hSw => hy w hSw a.eval fun x u hx => ha.ev hx⟩) hS ?_
  have := k Q _ hp (ha.put hn v) hk
  rw [setB_eq] at this
  rw [hd]
  simpa using this
theorem WH.takeSkip (i : Nat) (hi : nthO ol i = some o) (hb : canTake ol listed i = true) (hw : want ol o f = some false) (hd : o.dst = some d) (hn : Nat.blt d n = true) (hS : S w)
    (k : WH P n ol S fuel (setB listed i) K ((d, undef) :: f) w) : WH P n ol S (fuel + 1) listed K f w := fun Q a hp ha hk => by
  simp only [canTake, Bool.and_eq_true] at hb
  have hi' : ol.toArray[i]? = some o := by rw [List.getElem?_toArray, ← nthO_eq]; exact hi
  refine wpAnyH_take (v := undef) hi' hb.1.1 hb.1.2 hb.2 (fun c a w hh => absurd hh (hp _ _ _)) (.inr ⟨want_eq ha hw, rfl⟩) hS ?_
  have := k Q _ hp (ha.put hn undef) hk
  rw [setB_eq] at this
  rw [hd]
  simpa using this
def WHs (P : Program) (n : Nat) (ol : List Oper) (S : World → Prop) (fuel : Nat) (listed : List Bool) (K : Fr → World → Prop) (f : Fr) (w : World) (rs : List Nat) : Prop :=
  ∀ i, i ∈ rs → ∃ o, nthO ol i = some o ∧ WL P n ol [o] (fun f' w' => S w' ∧ WH P n ol S fuel (setB listed i) K f' w') f w
theorem WHs.nil : WHs P n ol S fuel listed K f w [] := fun _ h => by cases h
theorem WHs.cons {i : Nat} {rs : List Nat} (hi : nthO ol i = some o) (h : WL P n ol [o] (fun f' w' => S w' ∧ WH P n ol S fuel (setB listed i) K f' w') f w) (hr : WHs P n ol S fuel listed K f w rs) : WHs P n ol S fuel listed K f w (i :: rs) := fun j hj => by
  rcases List.mem_cons.1 hj with rfl | hj
  · exact ⟨o, hi, h⟩
  · exact hr j hj
theorem wp_then {o : Oper} {a : Act} {K : Act → World → Prop} {Q : Exit → Act → World → Prop} (h : o.wp P a w K (Exit.then K Q) ∨ (o.asks P a w ∧ LetsOut (Exit.then K Q))) : o.wp P a w K Q ∨ (o.asks P a w ∧ LetsOut Q) := by
  rcases h with h | h
  · refine .inl ?_
    unfold Oper.wp at h ⊢
    generalize (execOp a.eval o).run P w = r at h ⊢
    cases r with
    | ok x w' =>
      cases x <;> exact h
    | halt x w' => cases x <;> exact h
  · exact .inr h
theorem WH.all (rs : List Nat) (hr : Region.ready .any ol.toArray listed.toArray = rs) (hne : rs.isEmpty = false) (h : WHs P n ol S fuel listed K f w rs) : WH P n ol S (fuel + 1) listed K f w := fun Q a hp ha hk => by
  refine wpAnyH_all hr (by rintro rfl; cases hne) fun i hi => ?_
  obtain ⟨o, ho, hw⟩ := h i hi
  have hi' : ol.toArray[i]? = some o := by rw [List.getElem?_toArray, ← nthO_eq]; exact ho
  unfold wpOp
  rw [hi']
  show if Region.wanted o (yielded ol.toArray a.tmps) = true then _ else _
  have h1 := hw (Exit.then (fun a' w' => S w' ∧ wpAnyH P .any ol.toArray Q S fuel (listed.toArray.setIfInBounds i true) a' w') Q) a ha (fun a' f' w' hg hh => ⟨hh.1, by
    have := hh.2 Q a' hp hg hk
    rw [setB_eq] at this
    simpa using this⟩)
  unfold wpList at h1
  split
  · rename_i hwd
    rw [if_pos hwd] at h1
    exact wp_then h1
  · rename_i hwd
    rw [if_neg hwd] at h1
    exact h1
theorem WH.done (hr : Region.ready .any ol.toArray listed.toArray = []) (h : K f w) : WH P n ol S fuel listed K f w := fun Q a hp ha hk => wpAnyH_done hr (hk a f w ha h) fuel
end

theorem WH.split {P : Program} {n : Nat} {ol : List Oper} {K : Fr → World → Prop} {f : Fr} {w : World} {S : World → Prop} {fuel : Nat} {listed : List Bool} {g : Bool} (s : Nat) (_hs : lk f s = some (.bool g))
    (hT : g = true → WH P n ol S fuel listed K f w) (hF : g = false → WH P n ol S fuel listed K f w) : WH P n ol S fuel listed K f w := by
  cases h : g
  · exact hF h
  · exact hT h
theorem St.eq {w0 w : World} {T : List Nat} {L L' : Hp} (h : St w0 T L w) (e : L = L') : St w0 T L' w := e ▸ h

/-! slices that are read -/
/-- The slice of n elements of sz cells that begins at A reads vs in w. -/
structure SlR (w : World) (A : Option Addr) (n sz : Nat) (vs : List Value) : Prop where
  len : vs.length = n * sz
  some_ : 0 < n → A.isSome = true
  cell : ∀ j v, vs[j]? = some v → w.cell? ((adr A).add j) = some v
theorem cell?_lt {w : World} {a : Addr} {v : Value} (h : w.cell? a = some v) : a.block < w.heap.size := by
  unfold World.cell? at h
  split at h
  · rename_i hb; exact lt_of_heap hb
  · cases h
theorem add_block (a : Addr) (k : Nat) : (a.add k).block = a.block := by unfold Addr.add; split <;> rfl
theorem add_add (a : Addr) (i j : Nat) : (a.add i).add j = a.add (i + j) := by
  unfold Addr.add
  by_cases hi : i = 0 <;> by_cases hj : j = 0 <;> simp [hi, hj, Nat.add_assoc]
theorem St.cellKeep {w0 w : World} {T : List Nat} {L : Hp} (h : St w0 T L w) {a : Addr} {v : Value} (hc : w0.cell? a = some v) (hT : a.block ∉ T) : w.cell? a = some v := by
  rw [World.cell?_of_block (h.keep _ (cell?_lt hc) hT)]; exact hc
section
variable {w0 w w' : World} {A : Option Addr} {n sz : Nat} {vs : List Value} {T : List Nat} {L : Hp}
theorem SlR.st (h : SlR w0 A n sz vs) (hs : St w0 T L w) (hT : 0 < n → (adr A).block ∉ T) : SlR w A n sz vs :=
  ⟨h.len, h.some_, fun j v hv => hs.cellKeep (h.cell j v hv) (by
    rw [add_block]
    refine hT ?_
    have := (List.getElem?_eq_some_iff.1 hv).1
    rw [h.len] at this
    rcases Nat.eq_zero_or_pos n with h0 | h0
    · rw [h0] at this; omega
    · exact h0)⟩
theorem SlR.st0 (h : SlR w0 A n sz vs) (hs : St w0 [] L w) : SlR w A n sz vs := h.st hs (fun _ => by simp)
theorem SlR.nil (w : World) (A : Option Addr) (sz : Nat) : SlR w A 0 sz [] := ⟨by simp, fun h => absurd h (by omega), fun j v h => by simp at h⟩
theorem SlR.block {b off : Nat} {cl : List Value} {e : TypeId} {fz : Nat × Nat} (h : w.heap[b]? = some (.cells cl.toArray e fz)) (hv : (cl.drop off).take (n * sz) = vs) (hl : vs.length = n * sz) : SlR w (some ⟨b, off, none⟩) n sz vs :=
  ⟨hl, fun _ => rfl, fun j v hj => by
    have e1 : (adr (some ⟨b, off, none⟩)).add j = ⟨b, off + j, none⟩ := by unfold adr Addr.add; split <;> simp_all
    rw [e1]
    refine cell_of_heap h ?_
    rw [← hj, ← hv]
    have : j < n * sz := by
      rw [← hl]; exact (List.getElem?_eq_some_iff.1 hj).1
    rw [List.getElem?_take, if_pos this, List.getElem?_drop]⟩
/-- A load of one cell out of a slice. -/
theorem SlR.ld (h : SlR w A n sz vs) {j : Nat} {v : Value} (hv : vs[j]? = some v) : w.cell? ((adr A).add j) = some v := h.cell j v hv
theorem SlR.lds {P : Program} (h : SlR w A n sz vs) {j m : Nat} {us : List Value} (hv : (vs.drop j).take m = us) (hl : us.length = m) : (loadCells ((adr A).add j) m).run P w = .ok us.toArray w := by
  rw [run_loadCells w _ m (fun i => us.getD i undef) (fun i hi => ?_)]
  · congr 1
    congr 1
    apply List.ext_getElem?
    intro i
    simp only [List.getElem?_map]
    by_cases hi : i < m
    · simp [List.getElem?_range hi, List.getD, show i < us.length by omega]
    · simp [List.getElem?_eq_none (l := List.range m) (i := i) (by simp; omega), List.getElem?_eq_none (l := us) (i := i) (by omega)]
  · rw [add_add]
    refine h.cell _ _ ?_
    have h1 : us[i]? = vs[j + i]? := by
      rw [← hv, List.getElem?_take, if_pos hi, List.getElem?_drop]
    rw [← h1]
    simp [List.getD, show i < us.length by omega]
/-- A cut of a slice. -/
theorem SlR.cut (h : SlR w A n sz vs) {lo hi : Nat} (h1 : lo ≤ hi) (h2 : hi ≤ n) : SlR w (A.map (·.add (lo * sz))) (hi - lo) sz ((vs.drop (lo * sz)).take ((hi - lo) * sz)) := by
  refine ⟨?_, fun hp => ?_, fun j v hv => ?_⟩
  · rw [List.length_take, List.length_drop, h.len]
    have : (hi - lo) * sz ≤ n * sz - lo * sz := by rw [← Nat.sub_mul]; exact Nat.mul_le_mul_right _ (by omega)
    omega
  · have := h.some_ (by omega)
    cases A <;> simp_all
  · by_cases hp : 0 < hi - lo
    · have hA := h.some_ (by omega)
      obtain ⟨a, rfl⟩ := Option.isSome_iff_exists.1 hA
      have e : (adr ((some a).map (·.add (lo * sz)))).add j = (adr (some a)).add (lo * sz + j) := by simp [adr, add_add]
      rw [e]
      refine h.cell _ _ ?_
      rw [List.getElem?_take] at hv
      split at hv
      · rw [List.getElem?_drop] at hv; exact hv
      · cases hv
    · have : hi - lo = 0 := by omega
      rw [this] at hv
      simp at hv
end

/-! what bytes, numbers and structs look like in memory -/
/-- How data of a kind lies in cells. -/
structure Enc (α : Type) where
  sz : Nat
  enc : α → List Value
  dflt : α
  len : ∀ x, (enc x).length = sz
  one : ∀ x v, v ∈ enc x → v.oneCell' = true
  pos : 0 < sz
def rows {α : Type} (F : Enc α) (xs : List α) : List Value := xs.flatMap F.enc
def gat {α : Type} (F : Enc α) (xs : List α) (k : Nat) : α := xs.getD k F.dflt
section
variable {α : Type} {F : Enc α} {xs : List α} {k : Nat}
theorem rows_nil : rows F [] = [] := rfl
theorem rows_cons (x : α) : rows F (x :: xs) = F.enc x ++ rows F xs := rfl
theorem rows_append (a b : List α) : rows F (a ++ b) = rows F a ++ rows F b := by simp [rows]
theorem rows_len : ∀ (xs : List α), (rows F xs).length = xs.length * F.sz
  | [] => by simp [rows]
  | x :: r => by rw [rows_cons, List.length_append, F.len, rows_len r, List.length_cons, Nat.succ_mul]; omega
theorem rows_one : ∀ u, u ∈ rows F xs → u.oneCell' = true := by
  intro u hu
  obtain ⟨x, _, hx⟩ := List.mem_flatMap.1 hu
  exact F.one x u hx
theorem gat_get (h : k < xs.length) : xs[k]? = some (gat F xs k) := by simp [gat, List.getElem?_eq_getElem h, List.getD]
theorem gat_mem (h : k < xs.length) : gat F xs k ∈ xs := List.mem_of_getElem? (gat_get h)
theorem rows_drop : ∀ (xs : List α) (k : Nat), (rows F xs).drop (k * F.sz) = rows F (xs.drop k)
  | xs, 0 => by simp
  | [], k + 1 => by simp [rows]
  | x :: r, k + 1 => by
    rw [rows_cons, List.drop_append, List.drop_of_length_le (by rw [F.len, Nat.succ_mul]; omega), F.len, List.nil_append, List.drop_succ_cons, ← rows_drop r k]
    congr 1
    rw [Nat.succ_mul]; omega
theorem rows_take : ∀ (xs : List α) (k : Nat), (rows F xs).take (k * F.sz) = rows F (xs.take k)
  | xs, 0 => by simp [rows]
  | [], k + 1 => by simp [rows]
  | x :: r, k + 1 => by
    rw [rows_cons, List.take_append, List.take_of_length_le (by rw [F.len, Nat.succ_mul]; omega), F.len, List.take_succ_cons, rows_cons, ← rows_take r k]
    congr 2
    rw [Nat.succ_mul]; omega
theorem rows_at (h : k < xs.length) : ((rows F xs).drop (k * F.sz)).take F.sz = F.enc (gat F xs k) := by
  have e : xs.drop k = gat F xs k :: xs.drop (k + 1) := by
    rw [List.drop_eq_getElem_cons h]; congr 1; simp [gat, List.getElem?_eq_getElem h, List.getD]
  rw [rows_drop, e, rows_cons, List.take_append_of_le_length (by rw [F.len]; exact Nat.le_refl _), List.take_of_length_le (by rw [F.len]; exact Nat.le_refl _)]
theorem rows_get (h : k < xs.length) {off : Nat} (ho : off < F.sz) : (rows F xs)[k * F.sz + off]? = (F.enc (gat F xs k))[off]? := by
  rw [← rows_at h, List.getElem?_take, if_pos ho, List.getElem?_drop]
end
def encB : Enc UInt8 := ⟨1, fun b => [.int .u8 b.toNat], 0, fun _ => rfl, fun x v h => by simp at h; subst h; rfl, by decide⟩
def encI : Enc Int := ⟨1, fun n => [i64 n], 0, fun _ => rfl, fun x v h => by simp at h; subst h; rfl, by decide⟩
def encT : Enc Bool := ⟨1, fun n => [.bool n], false, fun _ => rfl, fun x v h => by simp at h; subst h; rfl, by decide⟩
def encS : Enc ByteArray := ⟨1, fun n => [.string n], { data := #[] }, fun _ => rfl, fun x v h => by simp at h; subst h; rfl, by decide⟩
abbrev bytesV (l : List UInt8) : List Value := rows encB l
abbrev intsV (l : List Int) : List Value := rows encI l
abbrev boolsV (l : List Bool) : List Value := rows encT l
abbrev bat (l : List UInt8) (k : Nat) : UInt8 := gat encB l k
abbrev iat (l : List Int) (k : Nat) : Int := gat encI l k
theorem bytesV_map (l : List UInt8) : bytesV l = l.map fun b => .int .u8 b.toNat := by
  induction l with
  | nil => rfl
  | cons x r ih => exact congrArg (List.cons _) ih
theorem intsV_map (l : List Int) : intsV l = l.map i64 := by
  induction l with
  | nil => rfl
  | cons x r ih => exact congrArg (List.cons _) ih
theorem bytesV_get {l : List UInt8} {k : Nat} (h : k < l.length) : (bytesV l)[k]? = some (.int .u8 (bat l k).toNat) := by
  have := rows_get (F := encB) h (off := 0) (by decide)
  rw [show k * encB.sz + 0 = k from by show k * 1 + 0 = k; omega] at this
  exact this
theorem intsV_get {l : List Int} {k : Nat} (h : k < l.length) : (intsV l)[k]? = some (i64 (iat l k)) := by
  have := rows_get (F := encI) h (off := 0) (by decide)
  rw [show k * encI.sz + 0 = k from by show k * 1 + 0 = k; omega] at this
  exact this
theorem bytesV_len (l : List UInt8) : (bytesV l).length = l.length := by rw [rows_len]; simp [encB]
theorem intsV_len (l : List Int) : (intsV l).length = l.length := by rw [rows_len]; simp [encI]
/-- A slice that is read. -/
structure SlF {α : Type} (F : Enc α) (w : World) (A : Option Addr) (n : Nat) (xs : List α) : Prop where
  len : xs.length = n
  rd : SlR w A n F.sz (rows F xs)
abbrev SlB := SlF encB
abbrev SlI := SlF encI
section
variable {α : Type} {F : Enc α} {w0 w w' : World} {A : Option Addr} {n k : Nat} {T : List Nat} {L : Hp} {xs : List α}
theorem SlF.nil (w : World) (A : Option Addr) : SlF F w A 0 [] := ⟨rfl, SlR.nil _ _ _⟩
theorem SlF.st0 (h : SlF F w0 A n xs) (hs : St w0 [] L w) : SlF F w A n xs := ⟨h.len, h.rd.st0 hs⟩
theorem SlF.st (h : SlF F w0 A n xs) (hs : St w0 T L w) (hT : 0 < n → (adr A).block ∉ T) : SlF F w A n xs := ⟨h.len, h.rd.st hs hT⟩
theorem SlF.some_ (h : SlF F w A n xs) : 0 < n → A.isSome = true := h.rd.some_
/-- One cell of an element. -/
theorem SlF.fld (h : SlF F w A n xs) {off : Nat} {v : Value} (hk : k < n) (hv : (F.enc (gat F xs k))[off]? = some v) : w.cell? (((adr A).add (k * F.sz)).add off) = some v := by
  have ho : off < F.sz := by rw [← F.len (gat F xs k)]; exact (List.getElem?_eq_some_iff.1 hv).1
  rw [add_add]
  exact h.rd.cell _ _ ((rows_get (by rw [h.len]; exact hk) ho).trans hv)
theorem SlF.one1 (h : SlF F w A n xs) {v : Value} (hk : k < n) (hv : (F.enc (gat F xs k))[0]? = some v) : w.cell? ((adr A).add (k * F.sz)) = some v := by
  have := h.fld (off := 0) hk hv
  rwa [add_add, Nat.add_zero] at this
/-- A part of an element. -/
theorem SlF.part {P : Program} (h : SlF F w A n xs) {off m : Nat} {us : List Value} (hk : k < n) (hv : ((F.enc (gat F xs k)).drop off).take m = us) (hl : Nat.beq us.length m = true) : (loadCells (((adr A).add (k * F.sz)).add off) m).run P w = .ok us.toArray w := by
  have hl' := Nat.eq_of_beq_eq_true hl
  rw [add_add]
  rcases Nat.eq_zero_or_pos m with h0 | h0
  · subst h0
    obtain rfl := List.eq_nil_of_length_eq_zero hl'
    rw [run_loadCells w _ 0 (fun _ => undef) (fun j hj => by omega)]; rfl
  have hle : off + m ≤ F.sz := by
    have := congrArg List.length hv
    rw [List.length_take, List.length_drop, F.len, hl'] at this
    omega
  refine h.rd.lds ?_ hl'
  have e := rows_at (F := F) (xs := xs) (k := k) (by rw [h.len]; exact hk)
  rw [← hv, ← e, List.drop_take, List.take_take, List.drop_drop, Nat.min_eq_left (by omega)]
/-- A whole element. -/
theorem SlF.whole {P : Program} (h : SlF F w A n xs) (hk : k < n) : (loadCells ((adr A).add (k * F.sz)) F.sz).run P w = .ok (F.enc (gat F xs k)).toArray w :=
  h.rd.lds (rows_at (by rw [h.len]; exact hk)) (F.len _)
theorem SlB.ld {xs : List UInt8} (h : SlB w A n xs) {k : Nat} (hk : k < n) : w.cell? ((adr A).add (k * 1)) = some (.int .u8 (bat xs k).toNat) := by
  rw [Nat.mul_one]; exact h.rd.cell _ _ (bytesV_get (by rw [h.len]; exact hk))
theorem SlI.ld {xs : List Int} (h : SlI w A n xs) {k : Nat} (hk : k < n) : w.cell? ((adr A).add (k * 1)) = some (i64 (iat xs k)) := by
  rw [Nat.mul_one]; exact h.rd.cell _ _ (intsV_get (by rw [h.len]; exact hk))
theorem SlF.own {b : Nat} {e : TypeId} {fz : Nat × Nat} (h : w.heap[b]? = some (.cells (rows F xs).toArray e fz)) : SlF F w (some ⟨b, 0, none⟩) xs.length xs :=
  ⟨rfl, SlR.block (off := 0) h (by rw [List.drop_zero, List.take_of_length_le (by rw [rows_len]; exact Nat.le_refl _)]) (by rw [rows_len])⟩
theorem SlF.ownN {b n : Nat} {e : TypeId} {fz : Nat × Nat} (hl : xs.length = n) (h : w.heap[b]? = some (.cells (rows F xs).toArray e fz)) : SlF F w (some ⟨b, 0, none⟩) n xs := by subst hl; exact SlF.own h
end
theorem SlB.ownN {w : World} {b n : Nat} {xs : List UInt8} {e : TypeId} {fz : Nat × Nat} (hl : xs.length = n) (h : w.heap[b]? = some (.cells (bytesV xs).toArray e fz)) : SlB w (some ⟨b, 0, none⟩) n xs := SlF.ownN hl h
theorem SlI.ownN {w : World} {b n : Nat} {xs : List Int} {e : TypeId} {fz : Nat × Nat} (hl : xs.length = n) (h : w.heap[b]? = some (.cells (intsV xs).toArray e fz)) : SlI w (some ⟨b, 0, none⟩) n xs := SlF.ownN hl h
/-- A row of elements that has been filled up to i. -/
def fillF {α : Type} (F : Enc α) (z : List Value) (xs : List α) (i : Nat) : List Value := rows F (xs.take i) ++ (List.replicate (xs.length - i) z).flatten
section
variable {α : Type} {F : Enc α} {z : List Value} {xs : List α} {i n : Nat}
theorem fillF_zero (h : xs.length = n) : (List.replicate n z).flatten = fillF F z xs 0 := by simp [fillF, rows, h]
theorem fillF_full (h : xs.length ≤ i) : fillF F z xs i = rows F xs := by
  unfold fillF
  rw [List.take_of_length_le h, Nat.sub_eq_zero_of_le h]; simp
theorem fillF_len (hz : z.length = F.sz) (h : i ≤ xs.length) : (fillF F z xs i).length = xs.length * F.sz := by
  unfold fillF
  rw [List.length_append, rows_len, List.length_take, Nat.min_eq_left h, List.length_flatten, List.map_replicate, List.sum_replicate_nat, hz, ← Nat.add_mul]
  congr 1; omega
theorem fillF_next (hz : z.length = F.sz) {off m : Nat} {vs : List Value} (h : i < xs.length) (ho : off = i * F.sz) (hm : m = F.sz) (hv : vs = F.enc (gat F xs i)) :
    (fillF F z xs i).take off ++ vs ++ (fillF F z xs i).drop (off + m) = fillF F z xs (i + 1) := by
  subst ho hm hv
  have hl : (rows F (xs.take i)).length = i * F.sz := by rw [rows_len, List.length_take, Nat.min_eq_left (Nat.le_of_lt h)]
  obtain ⟨r, hr⟩ : ∃ r, xs.length - i = r + 1 := ⟨xs.length - i - 1, by omega⟩
  have hr2 : xs.length - (i + 1) = r := by omega
  unfold fillF
  rw [hr, hr2, List.take_append_of_le_length (by omega), List.take_of_length_le (by omega), List.replicate_succ, List.flatten_cons, List.drop_append, List.drop_of_length_le (by omega), hl]
  rw [show i * F.sz + F.sz - i * F.sz = F.sz by omega, List.nil_append, List.drop_append_of_le_length (by omega), List.drop_of_length_le (by omega), List.nil_append]
  rw [List.take_add_one, gat_get (F := F) h, rows_append]
  simp [rows]
theorem set_eq_cut : ∀ (l : List Value) (k : Nat) (v : Value), k < l.length → l.set k v = l.take k ++ [v] ++ l.drop (k + 1)
  | [], _, _, h => by simp at h
  | x :: r, 0, v, _ => by simp
  | x :: r, k + 1, v, h => by simp [set_eq_cut r k v (by simpa using h)]
theorem fillF_next1 (hz : z.length = F.sz) (h1 : F.sz = 1) {off : Nat} {v : Value} (h : i < xs.length) (ho : off = i) (hv : [v] = F.enc (gat F xs i)) : (fillF F z xs i).set off v = fillF F z xs (i + 1) := by
  have hl : (fillF F z xs i).length = xs.length := by rw [fillF_len hz (Nat.le_of_lt h), h1, Nat.mul_one]
  rw [set_eq_cut _ _ _ (by omega), ← fillF_next (F := F) hz (off := off) (m := 1) h (by rw [h1, Nat.mul_one]; exact ho) h1.symm hv]
/-- A cell of an element is replaced. -/
theorem rows_set {x' : α} {k off idx : Nat} {v : Value} (hk : k < xs.length) (ho : off < F.sz) (hi : idx = k * F.sz + off) (hx : F.enc x' = (F.enc (gat F xs k)).set off v) : (rows F xs).set idx v = rows F (xs.set k x') := by
  subst hi
  induction xs generalizing k with
  | nil => simp at hk
  | cons x r ih =>
    cases k with
    | zero =>
      have hg : gat F (x :: r) 0 = x := rfl
      rw [hg] at hx
      rw [rows_cons, List.set_cons_zero, rows_cons, hx, Nat.zero_mul, Nat.zero_add, List.set_append_left _ _ (by rw [F.len]; exact ho)]
    | succ k =>
      have hg : gat F (x :: r) (k + 1) = gat F r k := by simp [gat]
      rw [hg] at hx
      rw [rows_cons, List.set_cons_succ, rows_cons, ← ih (by simpa using hk) hx, List.set_append_right _ _ (by rw [F.len, Nat.succ_mul]; omega), F.len]
      congr 2
      rw [Nat.succ_mul]; omega
end
/-- A row that has been filled up to i. -/
def fillV (vs : List Value) (z : Value) (i : Nat) : List Value := vs.take i ++ List.replicate (vs.length - i) z
theorem fillV_zero (vs : List Value) (z : Value) : fillV vs z 0 = (List.replicate vs.length [z]).flatten := by
  simp [fillV]
theorem fillV_len (vs : List Value) (z : Value) (i : Nat) (h : i ≤ vs.length) : (fillV vs z i).length = vs.length := by
  simp [fillV]; omega
theorem fillV_set {vs : List Value} {z v : Value} {i : Nat} (h : vs[i]? = some v) : (fillV vs z i).set i v = fillV vs z (i + 1) := by
  obtain ⟨hi, rfl⟩ := List.getElem?_eq_some_iff.1 h
  unfold fillV
  obtain ⟨m, hm⟩ : ∃ m, vs.length - i = m + 1 := ⟨vs.length - i - 1, by omega⟩
  have hm2 : vs.length - (i + 1) = m := by omega
  rw [hm, hm2, List.replicate_succ, List.set_append_right _ _ (by simp; omega)]
  simp only [List.length_take, Nat.min_eq_left (Nat.le_of_lt hi), Nat.sub_self, List.set_cons_zero]
  rw [List.take_add_one, List.getElem?_eq_getElem hi, List.append_assoc]
  rfl
theorem fillV_setI {vs : List Value} {z v : Value} {i off : Nat} (ho : off = i) (h : vs[i]? = some v) : (fillV vs z i).set off v = fillV vs z (i + 1) := by subst ho; exact fillV_set h
theorem fillV_full (vs : List Value) (z : Value) : fillV vs z vs.length = vs := by simp [fillV]

/-! new rows -/
theorem madeCells_list (z : List Value) (n : Nat) : (madeCells z.toArray (n * z.length)).toList = (List.replicate n z).flatten := by
  unfold madeCells
  apply List.ext_getElem?
  intro i
  simp only [Array.toList_map, Array.toList_range, List.size_toArray, List.getElem?_map]
  by_cases hi : i < n * z.length
  · have hz : 0 < z.length := by
      rcases Nat.eq_zero_or_pos z.length with h | h
      · rw [h] at hi; omega
      · exact h
    rw [List.getElem?_range hi]
    have hm : i % z.length < z.length := Nat.mod_lt _ hz
    simp only [Option.map_some]
    have e1 : z.toArray[i % z.length]! = z[i % z.length] := by simp [hm]
    rw [e1]
    clear e1
    induction n generalizing i with
    | zero => omega
    | succ n ih =>
      rw [List.replicate_succ, List.flatten_cons]
      by_cases hlt : i < z.length
      · rw [List.getElem?_append_left hlt]
        simp [Nat.mod_eq_of_lt hlt, hlt]
      · rw [List.getElem?_append_right (by omega)]
        have h2 : i - z.length < n * z.length := by rw [Nat.succ_mul] at hi; omega
        have h3 : i % z.length = (i - z.length) % z.length := by
          rw [Nat.mod_eq_sub_mod (by omega)]
        have := ih (i := i - z.length) h2 (Nat.mod_lt _ hz)
        rw [← this]
        congr 1
        simp only [h3]
  · rw [List.getElem?_eq_none (by simp; omega), List.getElem?_eq_none (by simp; omega)]
    rfl
section
variable {P : Program} {n : Nat} {ol rest : List Oper} {o : Oper} {K : Fr → World → Prop} {f : Fr} {w0 w w' : World} {T : List Nat} {L : Hp} {d : Nat} {v : Value}
theorem WL.make (hst : St w0 T L w) {t e : TypeId} {i : TypeInfo} {z : Value} {zl : List Value} {x y : Operand} {m : Nat} (ht : P.underlying t = some (.slice e)) (hi : P.info? e = some i) (hz : i.zero = some z) (hzl : cellsOf z = zl) (hsz : Nat.beq i.size zl.length = true)
    (ho : o.op = .makeSlice t x y) (hw : want ol o f = some true) (hd : o.dst = some d) (hn : Nat.blt d n = true) (hx : ev f x = some (.int .i64 m)) (hy : ev f y = some (.int .i64 m)) (hb : i.bytes * m ≤ 281474976710656) (hm : m ≤ 9223372036854775807)
    (k : ∀ b w', St w0 T ((b, .cells ((List.replicate m zl).flatten).toArray e (0, 0)) :: L) w' → WL P n ol rest K ((d, .slice (some ⟨b, 0, none⟩) m m) :: f) w') : WL P n ol (o :: rest) K f w := by
  have hb' : (i.bytes : Int) * (m : Int) ≤ 281474976710656 := by rw [← Int.natCast_mul]; omega
  have hr := run_make (P := P) w t e i z ht hi hz .i64 .i64 m m (by omega) (Int.le_refl _) hb' (by omega)
  simp only [Int.toNat_natCast] at hr
  have e1 : (madeCells z.cells (m * i.size)) = ((List.replicate m zl).flatten).toArray := by
    rw [cellsOf_eq, hzl, Nat.eq_of_beq_eq_true hsz]
    apply Array.toList_inj.1
    rw [madeCells_list]
  rw [e1] at hr
  refine WL.val (w' := w.alloc (.cells ((List.replicate m zl).flatten).toArray e (0, 0))) hw hd hn (fun ρ hρ => ?_) (k _ _ (hst.alloc _))
  simp [execOp, ho, hρ _ _ hx, hρ _ _ hy, hr]
/-- A store of one cell into a block of ours, at a place that is reckoned. -/
theorem WL.storeI (hst : St w0 T L w) (i : Nat) {t : TypeId} {x y : Operand} {b off : Nat} {cl : List Value} {e : TypeId} {lo hi : Nat} (hz : ∀ w, (sizeOf t).run P w = .ok 1 w) (ho : o.op = .store t x y) (hw : want ol o f = some true) (hd : o.dst = none)
    (hx : ev f x = some (.pointer (some ⟨b, off, none⟩))) (hy : ev f y = some v) (hi' : nthL L i = some (b, .cells cl.toArray e (lo, hi))) (hv : v.oneCell' = true) (hlt : off < cl.length) (hfz : ¬ (lo ≤ off ∧ off < hi))
    (k : ∀ w', St w0 T (setL L i (.cells (cl.set off v).toArray e (lo, hi))) w' → WL P n ol rest K f w') : WL P n ol (o :: rest) K f w := by
  refine WL.store hst i hz ho hw hd hx hy hi' hv (Nat.ble_eq_true_of_le hlt) ?_ (cl' := cl.set off v) (setV_eq _ _ _) k
  cases h1 : Nat.ble lo off <;> cases h2 : Nat.blt off hi <;> try rfl
  exact absurd ⟨Nat.le_of_ble_eq_true h1, Nat.le_of_ble_eq_true h2⟩ hfz
theorem storeCells_ours : ∀ (vs : List Value) (i : Nat) (w : World) (b off : Nat) (cl : List Value) (e : TypeId) (fz : Nat × Nat), w.heap[b]? = some (.cells cl.toArray e fz) → (∀ v, v ∈ vs → v.oneCell' = true) → off + i + vs.length ≤ cl.length → (∀ j, ¬ (fz.1 ≤ j ∧ j < fz.2) ∨ ¬ (off + i ≤ j ∧ j < off + i + vs.length)) →
    ∃ w', (storeCells ⟨b, off, none⟩ vs i).run P w = .ok () w' ∧ w'.heap[b]? = some (.cells (cl.take (off + i) ++ vs ++ cl.drop (off + i + vs.length)).toArray e fz) ∧ (∀ k, k ≠ b → w'.heap[k]? = w.heap[k]?) ∧ w'.os = w.os ∧ w'.tape = w.tape ∧ w'.output = w.output ∧ w'.heap.size = w.heap.size
  | [], i, w, b, off, cl, e, fz, hh, _, _, _ => ⟨w, by simp [storeCells], by simp [hh], fun _ _ => rfl, rfl, rfl, rfl, rfl⟩
  | v :: r, i, w, b, off, cl, e, fz, hh, h1, hl, hf => by
    simp only [List.length_cons] at hl hf
    have hlt : off + i < cl.length := by omega
    have e1 : (⟨b, off, none⟩ : Addr).add i = ⟨b, off + i, none⟩ := by unfold Addr.add; split <;> simp_all
    have hst : (store (⟨b, off + i, none⟩ : Addr) v).run P w = .ok () (w.setCell ⟨b, off + i, none⟩ v) := by
      refine run_store_ours (h1 v List.mem_cons_self) ?_ ?_
      · rw [cell_of_heap (v := cl[off + i]) hh (by simp [hlt])]; rfl
      · simp only [World.frozen?, hh]
        rw [Bool.eq_false_iff]
        intro hh2
        simp only [Bool.and_eq_true, decide_eq_true_eq] at hh2
        rcases hf (off + i) with h | h
        · exact h hh2
        · exact h ⟨by omega, by omega⟩
    have hh' : (w.setCell ⟨b, off + i, none⟩ v).heap[b]? = some (.cells (cl.set (off + i) v).toArray e fz) := by
      simp [World.setCell, Array.getElem?_modify, hh]
    obtain ⟨w', hr, g1, g2, g3, g4, g5, g6⟩ := storeCells_ours r (i + 1) _ b off (cl.set (off + i) v) e fz hh' (fun u hu => h1 u (List.mem_cons_of_mem _ hu)) (by simp; omega) (fun j => (hf j).imp id (fun h hh => h ⟨by omega, by omega⟩))
    refine ⟨w', ?_, ?_, fun k hk => (g2 k hk).trans (Below.heap_setCell _ _ _ _ hk), g3, g4, g5, by rw [g6]; simp [World.setCell]⟩
    · simp only [storeCells, e1, Sem.run_bind, hst, Result.andThen]
      exact hr
    · rw [g1]
      congr 3
      have e2 : off + (i + 1) = off + i + 1 := by omega
      rw [e2, List.take_add_one, List.take_set_of_le (Nat.le_refl _), List.drop_set_of_lt (by omega)]
      simp [hlt]
      omega
/-- A store of a struct into a block of ours. -/
theorem WL.storeA (hst : St w0 T L w) (i : Nat) {t : TypeId} {x y : Operand} {b off sz : Nat} {cl vs : List Value} {e : TypeId} {lo hi : Nat} (hz : ∀ w, (sizeOf t).run P w = .ok sz w) (ho : o.op = .store t x y) (hw : want ol o f = some true) (hd : o.dst = none)
    (hx : ev f x = some (.pointer (some ⟨b, off, none⟩))) (hy : ev f y = some v) (hvs : cellsOf v = vs) (hi' : nthL L i = some (b, .cells cl.toArray e (lo, hi))) (h1 : vs.all (·.oneCell') = true) (hsz : vs.length = sz) (hlt : off + sz ≤ cl.length) (hfz : hi ≤ lo ∨ hi ≤ off ∨ off + sz ≤ lo)
    (k : ∀ w', St w0 T (setL L i (.cells (cl.take off ++ vs ++ cl.drop (off + sz)).toArray e (lo, hi))) w' → WL P n ol rest K f w') : WL P n ol (o :: rest) K f w := by
  subst hsz
  have hown := hst.own _ (nthL_mem hi')
  obtain ⟨w', hr, g1, g2, g3, g4, g5, g6⟩ := storeCells_ours (P := P) vs 0 w b off cl e (lo, hi) hown.1 (fun u hu => List.all_eq_true.1 h1 u hu) (by omega) (fun j => by
    by_cases hj : lo ≤ j ∧ j < hi
    · exact .inr (by omega)
    · exact .inl hj)
  refine WL.unit (w' := w') hw hd (fun ρ hρ => ?_) (k _ ?_)
  · have hc : v.cells.size = vs.length := by rw [cellsOf_eq, hvs]; simp
    have hc2 : v.cells.toList = vs := by rw [cellsOf_eq, hvs]
    simp [execOp, ho, hρ _ _ hx, hρ _ _ hy, Instr.storeAt, Instr.sureAddr, storeVar, hz, hc, hc2, hr]
  · refine ⟨g3.trans hst.os, g4.trans hst.tape, g5.trans hst.output, by rw [g6]; exact hst.size, fun k hk hT => ?_, fun p hp => ?_, by rw [setL_keys]; exact hst.nodup⟩
    · refine (g2 k ?_).trans (hst.keep k hk hT)
      rintro rfl
      rcases hown.2 with h | h
      · simp only at h; omega
      · exact hT h
    · rcases setL_mem hi' hst.nodup hp with rfl | ⟨hm, hne⟩
      · exact ⟨by simpa using g1, hown.2⟩
      · exact ⟨(g2 _ hne).trans (hst.own p hm).1, (hst.own p hm).2⟩
end

/-! slices that are written out -/
theorem foldl_set (off : Nat) : ∀ (vs : List Value) (j : Nat) (cells : Array Value), off + j + vs.length ≤ cells.size →
    ((vs.zipIdx j).foldl (fun cs (p : Value × Nat) => cs.setIfInBounds (off + p.2) p.1) cells).toList = cells.toList.take (off + j) ++ vs ++ cells.toList.drop (off + j + vs.length)
  | [], j, cells, h => by simp
  | v :: r, j, cells, h => by
    simp only [List.length_cons] at h
    rw [List.zipIdx_cons, List.foldl_cons, foldl_set off r (j + 1) _ (by simp; omega)]
    have hlt : off + j < cells.toList.length := by simp; omega
    simp only [Array.toList_setIfInBounds]
    have e2 : off + (j + 1) = off + j + 1 := by omega
    rw [e2, List.take_add_one, List.take_set_of_le (Nat.le_refl _), List.drop_set_of_lt (by omega)]
    simp [show off + j < cells.size by omega]
    omega
theorem foldl_set_size (off : Nat) : ∀ (zs : List (Value × Nat)) (cells : Array Value), (zs.foldl (fun cs (p : Value × Nat) => cs.setIfInBounds (off + p.2) p.1) cells).size = cells.size
  | [], _ => rfl
  | p :: q, cells => by rw [List.foldl_cons, foldl_set_size off q]; simp
theorem fill_full {sz : Nat} : ∀ (vs : List Value) (k : Nat) (cells : Array Value), (∀ v, v ∈ vs → (cellsOf v).length = sz) → k * sz + vs.length * sz ≤ cells.size →
    ∃ out, Instr.fill (fun i => some (i * sz, sz)) cells ((vs.zipIdx k).map fun p => (p.2, p.1)) = some out ∧ out.toList = cells.toList.take (k * sz) ++ vs.flatMap cellsOf ++ cells.toList.drop (k * sz + vs.length * sz)
  | [], k, cells, _, _ => ⟨cells, rfl, by simp⟩
  | v :: r, k, cells, hv, h => by
    have h0 := hv v List.mem_cons_self
    have hc : v.cells.size = sz := by rw [cellsOf_eq]; simpa using h0
    simp only [List.length_cons, Nat.succ_mul] at h
    have hf := foldl_set (k * sz) (cellsOf v) 0 cells (by rw [h0]; omega)
    generalize hg : (((cellsOf v).zipIdx 0).foldl (fun cs (p : Value × Nat) => cs.setIfInBounds (k * sz + p.2) p.1) cells) = c1 at hf
    have hsz : c1.size = cells.size := by
      rw [← hg]
      generalize (cellsOf v).zipIdx 0 = zs
      exact foldl_set_size _ zs cells
    obtain ⟨out, ho, hl⟩ := fill_full r (k + 1) c1 (fun u hu => hv u (List.mem_cons_of_mem _ hu)) (by rw [hsz, Nat.succ_mul]; omega)
    refine ⟨out, ?_, ?_⟩
    · rw [List.zipIdx_cons, List.map_cons]
      unfold Instr.fill
      have hn : ¬ (v.cells.size ≠ sz ∨ k * sz + v.cells.size > cells.size) := by rw [hc]; omega
      simp only [hc]
      have e1 : (decide (sz ≠ sz) || decide (k * sz + sz > cells.size)) = false := by simp; omega
      simp only [e1, Bool.false_eq_true, if_false]
      have e2 : (v.cells.zipIdx.foldl (fun cs (x : Value × Nat) => match x with | (c, j) => cs.setIfInBounds (k * sz + j) c) cells) = c1 := by
        rw [cellsOf_eq, ← Array.foldl_toList, Array.toList_zipIdx]
        exact hg
      rw [e2]
      exact ho
    · rw [hl, hf]
      simp only [List.length_cons, List.flatMap_cons, Nat.succ_mul, Nat.add_zero, h0]
      have e3 : (cells.toList.take (k * sz) ++ cellsOf v).length = k * sz + sz := by simp [h0]; omega
      rw [List.take_append_of_le_length (by rw [e3]; exact Nat.le_refl _), List.take_of_length_le (by rw [e3]; exact Nat.le_refl _)]
      rw [List.drop_append, List.drop_of_length_le (by rw [e3]; omega), e3, List.drop_drop]
      simp only [List.nil_append, List.append_assoc]
      congr 4
      omega
section
variable {P : Program} {n : Nat} {ol rest : List Oper} {o : Oper} {K : Fr → World → Prop} {f : Fr} {w0 w w' : World} {T : List Nat} {L : Hp} {d : Nat} {v : Value}
theorem WL.buildSlice (hst : St w0 T L w) {t e : TypeId} {len sz : Nat} {z : Value} {parts : Array (Nat × Operand)} {vs : List Value} (hu : ∀ w, (underlying t).run P w = .ok (.slice e) w) (hz : ∀ w, (sizeOf e).run P w = .ok sz w) (hzv : ∀ w, (zeroValue e).run P w = .ok z w) (hzs : Nat.beq (cellsOf z).length sz = true)
    (ho : o.op = .buildSlice t len parts) (hw : want ol o f = some true) (hd : o.dst = some d) (hn : Nat.blt d n = true) (hv : evs f (parts.toList.map (·.2)) = some vs) (hix : parts.toList.map (·.1) = List.range len) (hl : Nat.beq vs.length len = true) (hcs : vs.all (fun v => Nat.beq (cellsOf v).length sz) = true) (hbig : Nat.ble (len * sz) 16777216 = true)
    (k : ∀ b w', St w0 T ((b, .cells (vs.flatMap cellsOf).toArray e (0, 0)) :: L) w' → WL P n ol rest K ((d, .slice (some ⟨b, 0, none⟩) len len) :: f) w') : WL P n ol (o :: rest) K f w := by
  have hl' := Nat.eq_of_beq_eq_true hl
  have hb' := Nat.le_of_ble_eq_true hbig
  have hcs' : ∀ v, v ∈ vs → (cellsOf v).length = sz := fun v hm => Nat.eq_of_beq_eq_true (List.all_eq_true.1 hcs v hm)
  refine WL.val (w' := w.alloc (.cells (vs.flatMap cellsOf).toArray e (0, 0))) hw hd hn (fun ρ hρ => ?_) (k _ _ (hst.alloc _))
  have hp : (parts.map fun p => (p.1, ρ p.2)).toList = (vs.zipIdx 0).map fun p => (p.2, p.1) := by
    have hm := evs_map hρ hv
    apply List.ext_getElem?
    intro i
    simp only [Array.toList_map, List.getElem?_map, List.getElem?_zipIdx]
    have h1 := congrArg (fun l => l[i]?) hm
    have h2 := congrArg (fun l => l[i]?) hix
    simp only [List.map_map, List.getElem?_map] at h1 h2
    cases hpi : parts.toList[i]? with
    | none =>
      rw [hpi] at h1
      cases hvi : vs[i]? with
      | none => simp
      | some u => rw [hvi] at h1; simp at h1
    | some p =>
      rw [hpi] at h1 h2
      cases hvi : vs[i]? with
      | none => rw [hvi] at h1; simp at h1
      | some u =>
        rw [hvi] at h1
        simp only [Option.map_some, Option.some.injEq, Function.comp_apply] at h1
        have hlt : i < len := by rw [← hl']; exact (List.getElem?_eq_some_iff.1 hvi).1
        rw [List.getElem?_range hlt] at h2
        simp only [Option.map_some, Option.some.injEq] at h2
        simp [h2, h1]
  obtain ⟨out, hf, hol⟩ := fill_full (sz := sz) vs 0 ((Array.range (len * sz)).map (fun i => z.cells[i % z.cells.size]!)) hcs' (by simp [hl'])
  have hout : out = (vs.flatMap cellsOf).toArray := by
    apply Array.toList_inj.1
    rw [hol]
    simp [hl']
  by_cases h0 : len * sz = 0
  · have hv0 : vs.flatMap cellsOf = [] := by
      rw [List.eq_nil_iff_length_eq_zero]
      have : out.toList.length = _ := congrArg List.length hol
      have hz0 : (vs.flatMap cellsOf).length = len * sz := by
        rw [List.length_flatMap]
        have : vs.map (fun a => (cellsOf a).length) = vs.map (fun _ => sz) := List.map_congr_left hcs'
        rw [this, List.map_const', List.sum_replicate_nat, hl']
      rw [hz0, h0]
    have hf0 : Instr.fill (fun i => some (i * sz, sz)) #[] ((vs.zipIdx 0).map fun p => (p.2, p.1)) = some #[] := by
      have hr : (Array.range (len * sz)).map (fun i => z.cells[i % z.cells.size]!) = #[] := by rw [h0]; simp
      rw [hr] at hf
      rw [hf, hout, hv0]
    simp [execOp, ho, Instr.buildSlice, hu, hz, h0, newRow, hv0]
    have := hp
    simp only [Array.toList_map] at this
    rw [this, show (Array.map (fun _ => (default : Value)) (Array.range 0)) = #[] from by simp, hf0]
    simp
  · simp [execOp, ho, Instr.buildSlice, hu, hz, h0, newRow, hzv]
    have h16 : ¬ 16777216 < len * sz := by omega
    have := hp
    simp only [Array.toList_map] at this
    simp only [h16, if_false]
    rw [this, hf, hout]
    simp
end
end Go.Proofs.Ytlmcekfdlgkffaa
namespace Go.Proofs.Ytlmcekfdlgkffaa
open Go Go.RowKit
set_option linter.unusedVariables false
set_option linter.unusedSimpArgs false

/-- The slice v of n elements of sz cells (type e) is ours: its cells are vs, its block is all that L holds. -/
def Own (e : TypeId) (sz : Nat) (v : Value) (n : Nat) (vs : List Value) (L : Hp) : Prop :=
  vs.length = n * sz ∧ (((∃ A, v = .slice A 0 0) ∧ n = 0 ∧ L = []) ∨
    ∃ (g cap o : Nat) (pre cl : List Value) (fz : Nat × Nat), v = .slice (some ⟨g, o, none⟩) n cap ∧ L = [(g, .cells (pre ++ cl).toArray e fz)] ∧ n ≤ cap ∧ cap ≤ maxLen ∧ cl.length = cap * sz ∧ cl.take (n * sz) = vs ∧ (fz.2 ≤ fz.1 ∨ (pre ++ cl).length ≤ fz.1) ∧ pre.length = o)
theorem splice_pre {pre cl vs : List Value} {k s : Nat} : (pre ++ cl).take (pre.length + k) ++ vs ++ (pre ++ cl).drop (pre.length + k + s) = pre ++ (cl.take k ++ vs ++ cl.drop (k + s)) := by
  rw [Nat.add_assoc, List.take_length_add_append, List.drop_length_add_append]
  simp only [List.append_assoc]
theorem addr_at (g o k : Nat) : (⟨g, o, none⟩ : Addr).add k = ⟨g, o + k, none⟩ := by unfold Addr.add; split <;> simp_all
section
variable {e : TypeId} {sz n : Nat} {v : Value} {vs : List Value} {L : Hp} {w : World}
theorem Own.nil (e : TypeId) (sz : Nat) : Own e sz (.slice none 0 0) 0 [] [] := ⟨by simp, .inl ⟨⟨none, rfl⟩, rfl, rfl⟩⟩
theorem Own.nilA (e : TypeId) (sz : Nat) (A : Option Addr) : Own e sz (.slice A 0 0) 0 [] [] := ⟨by simp, .inl ⟨⟨A, rfl⟩, rfl, rfl⟩⟩
theorem Own.rd (h : Own e sz v n vs L) (ho : ∀ p, p ∈ L → w.heap[p.1]? = some p.2) : ∃ A c, v = .slice A n c ∧ SlR w A n sz vs := by
  rcases h.2 with ⟨⟨A, rfl⟩, rfl, rfl⟩ | ⟨g, cap, o, pre, cl, fz, rfl, rfl, hn, hc, hl, ht, hfz, rfl⟩
  · have : vs = [] := List.eq_nil_of_length_eq_zero (by simpa using h.1)
    subst this
    exact ⟨A, 0, rfl, SlR.nil _ _ _⟩
  · exact ⟨_, cap, rfl, SlR.block (off := pre.length) (ho _ List.mem_cons_self) (by rw [List.drop_left]; exact ht) h.1⟩
theorem Own.keys (h : Own e sz v n vs L) : (L.map (·.1)).Nodup := by
  rcases h.2 with ⟨⟨A, rfl⟩, rfl, rfl⟩ | ⟨g, cap, o, pre, cl, fz, rfl, rfl, _⟩ <;> simp
/-- A row that is full. -/
theorem Own.row {g : Nat} {cl : List Value} (hl : cl.length = n * sz) (hn : n ≤ maxLen) : Own e sz (.slice (some ⟨g, 0, none⟩) n n) n cl [(g, .cells cl.toArray e (0, 0))] :=
  ⟨hl, .inr ⟨g, n, 0, [], cl, (0, 0), rfl, rfl, Nat.le_refl _, hn, hl, by rw [List.take_of_length_le (by omega)], .inl (Nat.le_refl _), rfl⟩⟩
end
section
variable {P : Program} {w0 w : World} {T : List Nat} {L : Hp}
theorem St.stored (hst : St w0 T L w) (i : Nat) {b off : Nat} {cl vs : List Value} {e : TypeId} {lo hi : Nat} (hi' : nthL L i = some (b, .cells cl.toArray e (lo, hi))) (h1 : ∀ v, v ∈ vs → v.oneCell' = true) (hlt : off + vs.length ≤ cl.length) (hfz : hi ≤ lo ∨ hi ≤ off ∨ off + vs.length ≤ lo) :
    ∃ w', (storeCells ⟨b, off, none⟩ vs).run P w = .ok () w' ∧ St w0 T (setL L i (.cells (cl.take off ++ vs ++ cl.drop (off + vs.length)).toArray e (lo, hi))) w' := by
  have hown := hst.own _ (nthL_mem hi')
  obtain ⟨w', hr, g1, g2, g3, g4, g5, g6⟩ := storeCells_ours (P := P) vs 0 w b off cl e (lo, hi) hown.1 h1 (by omega) (fun j => by
    by_cases hj : lo ≤ j ∧ j < hi
    · exact .inr (by omega)
    · exact .inl hj)
  refine ⟨w', hr, g3.trans hst.os, g4.trans hst.tape, g5.trans hst.output, by rw [g6]; exact hst.size, fun k hk hT => ?_, fun p hp => ?_, by rw [setL_keys]; exact hst.nodup⟩
  · refine (g2 k ?_).trans (hst.keep k hk hT)
    rintro rfl
    rcases hown.2 with h | h
    · simp only at h; omega
    · exact hT h
  · rcases setL_mem hi' hst.nodup hp with rfl | ⟨hm, hne⟩
    · exact ⟨by simpa using g1, hown.2⟩
    · exact ⟨(g2 _ hne).trans (hst.own p hm).1, (hst.own p hm).2⟩
theorem run_append_ours {t tx ty e : TypeId} {i : TypeInfo} {z : Value} {zl : List Value} {sz n m : Nat} {v x : Value} {vs news : List Value} {L1 R : Hp} (ht : P.underlying t = some (.slice e)) (hi : P.info? e = some i) (hz : i.zero = some z) (hzl : cellsOf z = zl) (hs1 : i.size = sz) (hs2 : zl.length = sz)
    (hst : St w0 T (L1 ++ R) w) (hown : Own e sz v n vs L1) (hs : Src P sz tx x m news w) (hbytes : (n + m) * i.bytes ≤ 140737488355328) (h63 : n + m ≤ maxLen) :
    ∃ v' L1' w', (Builtin.append_ #[t, tx] ty #[v, x]).run P w = .ok v' w' ∧ St w0 T (L1' ++ R) w' ∧ Own e sz v' (n + m) (vs ++ news) L1' := by
  subst hs1
  have hzc : z.cells.size = i.size := by rw [cellsOf_eq, hzl]; simpa using hs2
  have hlen : (vs ++ news).length = (n + m) * i.size := by rw [List.length_append, hown.1, hs.newsLen, Nat.add_mul]
  have h63' : ((n + m : Nat) : Int) ≤ 9223372036854775807 := by simp only [maxLen] at h63; omega
  -- a new row
  have grow : ∀ (base : Option Addr) (cap : Nat), v = .slice base n cap → cap < n + m → (Builtin.firstCells i.size n (.slice base n cap)).run P w.drew = .ok vs.toArray w.drew →
      ∃ v' L1' w', (Builtin.append_ #[t, tx] ty #[v, x]).run P w = .ok v' w' ∧ St w0 T (L1' ++ R) w' ∧ Own e i.size v' (n + m) (vs ++ news) L1' := by
    intro base cap hv hcap hold
    subst hv
    have hr := run_append_grow_src (P := P) w t tx ty e i z ht hi hz base n cap vs hold x m news hs hcap h63' (growslice_fits hcap hbytes)
    have hge := grownCap_ge w (n + m) cap e
    have hcm : grownCap w (n + m) cap e ≤ maxLen := grownCap_le_maxLen w (n + m) cap e h63
    have ec : ((vs ++ news).toArray ++ Builtin.zeroCells z.cells (grownCap w (n + m) cap e - (n + m))) = ((vs ++ news) ++ (Builtin.zeroCells z.cells (grownCap w (n + m) cap e - (n + m))).toList).toArray := by apply Array.toList_inj.1; simp
    rw [ec] at hr
    refine ⟨_, [(w.heap.size, .cells ((vs ++ news) ++ (Builtin.zeroCells z.cells (grownCap w (n + m) cap e - (n + m))).toList).toArray e (0, 0))], _, hr, ?_, hlen, .inr ⟨w.heap.size, _, 0, [], (vs ++ news) ++ (Builtin.zeroCells z.cells (grownCap w (n + m) cap e - (n + m))).toList, (0, 0), rfl, rfl, hge, hcm, ?_, ?_, .inl (Nat.le_refl _), rfl⟩⟩
    · have h1 := (hst.drew.alloc (.cells ((vs ++ news) ++ (Builtin.zeroCells z.cells (grownCap w (n + m) cap e - (n + m))).toList).toArray e (0, 0)))
      refine (h1.drop (L' := (w.heap.size, _) :: R) ?_)
      exact List.Sublist.cons_cons _ (List.sublist_append_right L1 R)
    · rw [List.length_append, hlen, Array.length_toList, size_zeroCells, hzc, ← Nat.add_mul]
      congr 1
      omega
    · rw [← hlen]; exact List.take_left
  rcases hown.2 with ⟨⟨A, rfl⟩, rfl, rfl⟩ | ⟨g, cap, o, pre, cl, fz, rfl, rfl, hn, hc, hl, htk, hfz, rfl⟩
  · have hvs : vs = [] := List.eq_nil_of_length_eq_zero (by simpa using hown.1)
    subst hvs
    by_cases hm : m = 0
    · subst hm
      have hnews : news = [] := List.eq_nil_of_length_eq_zero (by simpa using hs.newsLen)
      subst hnews
      refine ⟨.slice A 0 0, [], w, ?_, hst, by simpa using Own.nilA e i.size A⟩
      have hst0 : ∀ a, (storeCells a []).run P w = .ok () w := fun a => by simp [storeCells]
      cases A <;> rcases hs.kind with ⟨e', hk⟩ | hk <;> simp [Builtin.append_, run_underlying ht, run_underlying hk, sizeOf, typeInfo, hi, hs.len, hs.cells, hst0]
    · refine grow A 0 rfl (by omega) ?_
      cases A <;> simp [Builtin.firstCells, loadCells, loadCellsFrom]
  · by_cases hroom : n + m ≤ cap
    · have hfit : n * i.size + news.length ≤ cl.length := by rw [hs.newsLen, hl, ← Nat.add_mul]; exact Nat.mul_le_mul_right _ hroom
      have hpl : (pre ++ cl).length = pre.length + cl.length := List.length_append
      obtain ⟨w', hr, hs'⟩ := hst.stored (P := P) 0 (off := pre.length + n * i.size) (vs := news) rfl hs.one (by rw [hpl]; omega) (by rcases hfz with h | h <;> omega)
      rw [splice_pre] at hs'
      refine ⟨.slice (some ⟨g, pre.length, none⟩) (n + m) cap, [(g, .cells (pre ++ (cl.take (n * i.size) ++ news ++ cl.drop (n * i.size + news.length))).toArray e fz)], w', ?_, hs', hlen, .inr ⟨g, cap, _, pre, _, fz, rfl, rfl, hroom, hc, ?_, ?_, ?_, rfl⟩⟩
      · rcases hs.kind with ⟨e', hk⟩ | hk <;> simp [Builtin.append_, run_underlying ht, run_underlying hk, sizeOf, typeInfo, hi, hs.len, hroom, hs.cells, addr_at, hr]
      · simp only [List.length_append, List.length_take, List.length_drop]
        omega
      · rw [htk, ← hlen]; exact List.take_left
      · rcases hfz with h | h
        · exact .inl h
        · refine .inr ?_
          simp only [List.length_append, List.length_take, List.length_drop] at h ⊢; omega
    · refine grow _ cap rfl (by omega) ?_
      have hrd := (SlR.block (w := w.drew) (off := pre.length) (b := g) (cl := pre ++ cl) (e := e) (fz := fz) (n := n) (sz := i.size) (vs := vs) (hst.own _ List.mem_cons_self).1 (by rw [List.drop_left]; exact htk) hown.1)
      have := hrd.lds (P := P) (j := 0) (m := n * i.size) (us := vs) (by simp [← hown.1]) hown.1
      simpa [Builtin.firstCells, adr, Addr.add] using this
/-- What is appended. -/
theorem SlR.src {A : Option Addr} {m c sz : Nat} {news : List Value} {tx e' : TypeId} (h : SlR w A m sz news) (hk : P.underlying tx = some (.slice e')) (h1 : ∀ u, u ∈ news → u.oneCell' = true) : Src P sz tx (.slice A m c) m news w := by
  have hlds : ∀ w' : World, (∀ j u, news[j]? = some u → w'.cell? ((adr A).add j) = some u) → (Builtin.firstCells sz m (.slice A m c)).run P w' = .ok news.toArray w' := by
    intro w' hc
    cases A with
    | none =>
      have : m = 0 := by
        rcases Nat.eq_zero_or_pos m with h0 | h0
        · exact h0
        · have := h.some_ h0; simp at this
      subst this
      have : news = [] := List.eq_nil_of_length_eq_zero (by simpa using h.len)
      subst this
      simp [Builtin.firstCells]
    | some a =>
      have h2 : SlR w' (some a) m sz news := ⟨h.len, h.some_, hc⟩
      have := h2.lds (P := P) (j := 0) (m := m * sz) (us := news) (by simp [← h.len]) h.len
      simpa [Builtin.firstCells, adr, Addr.add] using this
  exact ⟨.inl ⟨e', hk⟩, fun _ => rfl, hlds w h.cell, hlds w.drew h.cell, h.len, h1⟩
theorem oneCell_bytes (l : List UInt8) : ∀ u, u ∈ bytesV l → u.oneCell' = true := rows_one
theorem oneCell_ints (l : List Int) : ∀ u, u ∈ intsV l → u.oneCell' = true := rows_one
end
section
variable {P : Program} {n : Nat} {ol rest : List Oper} {o : Oper} {K : Fr → World → Prop} {f : Fr} {w0 w w' : World} {T : List Nat} {L : Hp} {d : Nat} {v : Value}
theorem WL.append {L1 R : Hp} (hst : St w0 T (L1 ++ R) w) {t tx e : TypeId} {i : TypeInfo} {z x : Value} {zl vs news : List Value} {sz k m : Nat} {s y : Operand} (hown : Own e sz v k vs L1) (hs : Src P sz tx x m news w) (ht : P.underlying t = some (.slice e)) (hi : P.info? e = some i) (hz : i.zero = some z) (hzl : cellsOf z = zl) (hs1 : i.size = sz) (hs2 : zl.length = sz)
    (ho : o.op = .call { callee := .builtin .append, args := #[s, y], argTypes := #[t, tx] }) (hw : want ol o f = some true) (hd : o.dst = some d) (hn : Nat.blt d n = true) (hx : ev f s = some v) (hy : ev f y = some x) (hb : (k + m) * i.bytes ≤ 140737488355328) (hm : k + m ≤ 9223372036854775807)
    (kk : ∀ v' L1' w', St w0 T (L1' ++ R) w' → Own e sz v' (k + m) (vs ++ news) L1' → WL P n ol rest K ((d, v') :: f) w') : WL P n ol (o :: rest) K f w := by
  obtain ⟨v', L1', w', hr, h1, h2⟩ := run_append_ours (P := P) (ty := o.type) ht hi hz hzl hs1 hs2 hst hown hs hb (by simpa [maxLen] using hm)
  refine WL.val (w' := w') hw hd hn (fun ρ hρ => ?_) (kk _ _ _ h1 h2)
  simp [execOp, ho, hρ _ _ hx, hρ _ _ hy, resolve, invoke, builtin, hr]
end
theorem St.front {w0 w : World} {T : List Nat} {L1 R : Hp} (A : Hp) (h : St w0 T (A ++ (L1 ++ R)) w) : St w0 T (L1 ++ (A ++ R)) w :=
  h.perm (by rw [← List.append_assoc, ← List.append_assoc]; exact List.perm_append_comm.append_right R)
theorem St.lent (w : World) (L : Hp) (ho : ∀ p, p ∈ L → w.heap[p.1]? = some p.2) (hn : (L.map (·.1)).Nodup) : St w (L.map (·.1)) (L ++ []) w := by
  rw [List.append_nil]; exact St.take w L ho hn
/-- A slice that is ours. -/
def OwnF {α : Type} (F : Enc α) (e : TypeId) (v : Value) (xs : List α) (L : Hp) : Prop := Own e F.sz v xs.length (rows F xs) L
abbrev OwnB := OwnF encB
abbrev OwnI := OwnF encI
section
variable {α : Type} {F : Enc α} {e : TypeId} {v : Value} {xs : List α} {L : Hp} {w : World}
theorem OwnF.keys (h : OwnF F e v xs L) : (L.map (·.1)).Nodup := Own.keys h
theorem OwnF.nil (F : Enc α) (e : TypeId) : OwnF F e (.slice none 0 0) [] [] := Own.nil e F.sz
theorem OwnF.rd (h : OwnF F e v xs L) (ho : ∀ p, p ∈ L → w.heap[p.1]? = some p.2) : ∃ A c, v = .slice A xs.length c ∧ SlF F w A xs.length xs := by
  obtain ⟨A, c, hv, hr⟩ := Own.rd h ho
  exact ⟨A, c, hv, rfl, hr⟩
/-- A row that is full. -/
theorem OwnF.row {g n : Nat} (hl : xs.length = n) (hn : n ≤ maxLen) : OwnF F e (.slice (some ⟨g, 0, none⟩) n n) xs [(g, .cells (rows F xs).toArray e (0, 0))] := by
  subst hl; exact Own.row (rows_len xs) hn
end
theorem bytesV_append (a b : List UInt8) : bytesV (a ++ b) = bytesV a ++ bytesV b := rows_append a b
theorem intsV_append (a b : List Int) : intsV (a ++ b) = intsV a ++ intsV b := rows_append a b
theorem OwnB.keys {e : TypeId} {v : Value} {xs : List UInt8} {L : Hp} (h : OwnB e v xs L) : (L.map (·.1)).Nodup := Own.keys h
theorem OwnB.nil (e : TypeId) : OwnB e (.slice none 0 0) [] [] := Own.nil e 1
theorem OwnB.rd {e : TypeId} {v : Value} {xs : List UInt8} {L : Hp} {w : World} (h : OwnB e v xs L) (ho : ∀ p, p ∈ L → w.heap[p.1]? = some p.2) : ∃ A c, v = .slice A xs.length c ∧ SlB w A xs.length xs := OwnF.rd h ho
/-- The byte that a number becomes. -/
def ub (n : Int) : UInt8 := UInt8.ofNat (n % 256).toNat
theorem ub_toNat (n : Int) : ((ub n).toNat : Int) = n % 256 := by
  unfold ub
  rw [UInt8.toNat_ofNat']
  have := Int.emod_nonneg n (show (256 : Int) ≠ 0 by omega)
  have := Int.emod_lt_of_pos n (show (0 : Int) < 256 by omega)
  omega
theorem wrap_u8 (n : Int) : IntKind.u8.wrap n = ((ub n).toNat : Int) := by
  rw [ub_toNat]
  simp [IntKind.wrap, IntKind.bits, IntKind.signed]
theorem Run.convU8 {P : Program} {o : Oper} {f : Fr} {w : World} {s d : TypeId} {x : Operand} {k' : IntKind} {a : Int} (hs : ∀ w, (underlying s).run P w = .ok (.int k') w) (hd : ∀ w, (underlying d).run P w = .ok (.int .u8) w) (ho : o.op = .convert s d x) (hx : ev f x = some (.int k' a)) : Run P o f w (.value (.int .u8 ((ub a).toNat))) w := by
  have := Run.conv (P := P) (w := w) hs hd ho hx
  rwa [wrap_u8] at this
theorem Run.convB {P : Program} {o : Oper} {f : Fr} {w : World} {s d : TypeId} {x : Operand} {b : UInt8} (hs : ∀ w, (underlying s).run P w = .ok (.int .u8) w) (hd : ∀ w, (underlying d).run P w = .ok (.int .i64) w) (ho : o.op = .convert s d x) (hx : ev f x = some (.int .u8 b.toNat)) : Run P o f w (.value (.int .i64 (b.toNat))) w := by
  have := Run.conv (P := P) (w := w) hs hd ho hx
  rwa [wrap_in (by have := b.toNat_lt; constructor <;> omega)] at this
theorem srcB1 {P : Program} {w : World} {b : Nat} {c : UInt8} {e tx e' : TypeId} {fz : Nat × Nat} (hk : P.underlying tx = some (.slice e')) (h : w.heap[b]? = some (.cells ([Value.int .u8 c.toNat].flatMap cellsOf).toArray e fz)) : Src P 1 tx (.slice (some ⟨b, 0, none⟩) 1 1) [c].length (bytesV [c]) w :=
  (SlR.block (off := 0) (n := 1) (sz := 1) (vs := bytesV [c]) h rfl rfl).src hk (oneCell_bytes _)
theorem SlB.src {P : Program} {w : World} {A : Option Addr} {m c : Nat} {ys : List UInt8} {tx e' : TypeId} (h : SlB w A m ys) (hk : P.underlying tx = some (.slice e')) : Src P 1 tx (.slice A m c) ys.length (bytesV ys) w := by
  have := h.rd.src (c := c) hk (oneCell_bytes _)
  rwa [h.len]
theorem SlF.src {α : Type} {F : Enc α} {P : Program} {w : World} {A : Option Addr} {m c : Nat} {ys : List α} {tx e' : TypeId} (h : SlF F w A m ys) (hk : P.underlying tx = some (.slice e')) : Src P F.sz tx (.slice A m c) ys.length (rows F ys) w := by
  have := h.rd.src (c := c) hk rows_one
  rwa [h.len]
/-- Elements that are written out, laid into a block of their own. -/
theorem srcF {α : Type} {F : Enc α} {P : Program} {w : World} {b m : Nat} {ys : List α} {vs : List Value} {e tx e' : TypeId} {fz : Nat × Nat} (hk : P.underlying tx = some (.slice e')) (hl : ys.length = m) (hv : vs.flatMap cellsOf = rows F ys) (h : w.heap[b]? = some (.cells (vs.flatMap cellsOf).toArray e fz)) : Src P F.sz tx (.slice (some ⟨b, 0, none⟩) m m) ys.length (rows F ys) w := by
  rw [hv] at h
  exact (SlF.ownN hl h).src hk
theorem srcStr {P : Program} {w : World} {tx : TypeId} (hk : P.underlying tx = some .string) (s : ByteArray) : Src P 1 tx (.string s) s.data.toList.length (bytesV s.data.toList) w := by
  have h := Src.ofString (P := P) w hk s
  have e : s.data.toList.length = s.size := by simp
  rw [e, bytesV_map]; exact h
section
variable {P : Program} {n : Nat} {ol rest : List Oper} {o : Oper} {K : Fr → World → Prop} {f : Fr} {w0 w w' : World} {T : List Nat} {L : Hp} {d : Nat} {v : Value}
theorem WL.appendF {α : Type} {F : Enc α} {L1 R : Hp} {xs ys : List α} {t tx e : TypeId} {i : TypeInfo} {z x : Value} {zl : List Value} {s y : Operand} (hst : St w0 T (L1 ++ R) w) (hown : OwnF F e v xs L1) (hs : Src P F.sz tx x ys.length (rows F ys) w) (ht : P.underlying t = some (.slice e)) (hi : P.info? e = some i) (hz : i.zero = some z) (hzl : cellsOf z = zl) (hs1 : i.size = F.sz) (hs3 : Nat.beq zl.length F.sz = true) (hs2 : Nat.ble i.bytes 128 = true)
    (ho : o.op = .call { callee := .builtin .append, args := #[s, y], argTypes := #[t, tx] }) (hw : want ol o f = some true) (hd : o.dst = some d) (hn : Nat.blt d n = true) (hx : ev f s = some v) (hy : ev f y = some x) (hb : xs.length + ys.length ≤ 1099511627776)
    (kk : ∀ v' L1' w', St w0 T (L1' ++ R) w' → OwnF F e v' (xs ++ ys) L1' → WL P n ol rest K ((d, v') :: f) w') : WL P n ol (o :: rest) K f w := by
  have hs2' := Nat.le_of_ble_eq_true hs2
  have hbb : (xs.length + ys.length) * i.bytes ≤ 1099511627776 * 128 := Nat.mul_le_mul hb hs2'
  exact WL.append hst hown hs ht hi hz hzl hs1 (Nat.eq_of_beq_eq_true hs3) ho hw hd hn hx hy (by omega) (by omega) fun v' L1' w' h1 h2 => kk v' L1' w' h1 (by unfold OwnF; rw [List.length_append, rows_append]; exact h2)
theorem WL.appendB {L1 R : Hp} {xs ys : List UInt8} {t tx e : TypeId} {i : TypeInfo} {x : Value} {s y : Operand} (hst : St w0 T (L1 ++ R) w) (hown : OwnB e v xs L1) (hs : Src P 1 tx x ys.length (bytesV ys) w) (ht : P.underlying t = some (.slice e)) (hi : P.info? e = some i) (hz : i.zero = some (.int .u8 0)) (hs1 : i.size = 1) (hs2 : i.bytes = 1)
    (ho : o.op = .call { callee := .builtin .append, args := #[s, y], argTypes := #[t, tx] }) (hw : want ol o f = some true) (hd : o.dst = some d) (hn : Nat.blt d n = true) (hx : ev f s = some v) (hy : ev f y = some x) (hb : xs.length + ys.length ≤ 1099511627776)
    (kk : ∀ v' L1' w', St w0 T (L1' ++ R) w' → OwnB e v' (xs ++ ys) L1' → WL P n ol rest K ((d, v') :: f) w') : WL P n ol (o :: rest) K f w :=
  WL.append hst hown hs ht hi hz rfl hs1 rfl ho hw hd hn hx hy (by rw [hs2]; omega) (by omega) fun v' L1' w' h1 h2 => kk v' L1' w' h1 (by unfold OwnB OwnF; rw [List.length_append, rows_append]; exact h2)
end
end Go.Proofs.Ytlmcekfdlgkffaa
namespace Go.Proofs.Ytlmcekfdlgkffaa
open Go Go.RowKit
set_option linter.unusedVariables false
set_option linter.unusedSimpArgs false

/-! moving owned blocks about -/
theorem perm_front {L1 A R X : Hp} (h : (L1 ++ R).Perm X) : (L1 ++ (A ++ R)).Perm (A ++ X) :=
  (List.perm_append_comm_assoc L1 A R).trans (h.append_left A)
theorem perm_back {L1 A R : Hp} : (A ++ (L1 ++ R)).Perm (L1 ++ (A ++ R)) := List.perm_append_comm_assoc A L1 R
section
variable {w0 w w' : World} {T : List Nat} {L L1 L2 R A : Hp}
theorem St.back (A : Hp) (h : St w0 T (L1 ++ (A ++ R)) w) : St w0 T (A ++ (L1 ++ R)) w := h.perm perm_back
theorem St.back2 (A : Hp) (h : St w0 T (L1 ++ (L2 ++ (A ++ R))) w) : St w0 T (A ++ (L1 ++ (L2 ++ R))) w := by
  refine h.perm ?_
  have e : L1 ++ (L2 ++ (A ++ R)) = (L1 ++ L2) ++ (A ++ R) := by simp
  have e2 : A ++ (L1 ++ (L2 ++ R)) = A ++ ((L1 ++ L2) ++ R) := by simp
  rw [e, e2]; exact perm_back
theorem St.assoc (h : St w0 T ((L1 ++ L2) ++ R) w) : St w0 T (L1 ++ (L2 ++ R)) w := by rwa [List.append_assoc] at h
theorem St.keep1 (h : St w0 T (L1 ++ R) w) : St w0 T L1 w := h.drop (List.sublist_append_left _ _)
theorem St.keep2 (h : St w0 T (L1 ++ (L2 ++ R)) w) : St w0 T (L1 ++ L2) w := h.drop ((List.sublist_append_left L2 R).append_left L1)
theorem St.ownL (h : St w0 T (L1 ++ R) w) : ∀ p, p ∈ L1 → w.heap[p.1]? = some p.2 := fun p hp => (h.own p (List.mem_append_left _ hp)).1
end
section
variable {α : Type} {F : Enc α} {e : TypeId} {v : Value} {xs : List α} {L : Hp} {w : World} {A : Option Addr} {n c : Nat}
theorem OwnF.shape (h : OwnF F e v xs L) : ∃ A c, v = .slice A xs.length c := by
  rcases h.2 with ⟨⟨A, rfl⟩, h0, rfl⟩ | ⟨g, cap, o, pre, cl, fz, rfl, _⟩
  · exact ⟨A, 0, by rw [h0]⟩
  · exact ⟨_, cap, rfl⟩
theorem SlF.ofOwn (h : OwnF F e (.slice A n c) xs L) (ho : ∀ p, p ∈ L → w.heap[p.1]? = some p.2) : SlF F w A n xs := by
  obtain ⟨A', c', hv, hr⟩ := OwnF.rd h ho
  cases hv
  exact hr
theorem OwnF.len_ (h : OwnF F e (.slice A n c) xs L) : xs.length = n := by
  obtain ⟨A', c', hv⟩ := h.shape
  cases hv; rfl
/-- What a store does to a slice of ours. -/
theorem OwnF.upd {i : Nat} (h : OwnF F e (.slice A n c) xs L) (hi : i < n) : ∃ (g : Nat) (pre cl : List Value) (lo hi : Nat), A = some ⟨g, pre.length, none⟩ ∧ L = [(g, .cells (pre ++ cl).toArray e (lo, hi))] ∧ (hi ≤ lo ∨ (pre ++ cl).length ≤ lo) ∧ (i + 1) * F.sz ≤ cl.length ∧ (cl.drop (i * F.sz)).take F.sz = F.enc (gat F xs i) ∧
    ∀ (cl' : List Value) (x' : α), cl' = cl.take (i * F.sz) ++ F.enc x' ++ cl.drop (i * F.sz + F.sz) → OwnF F e (.slice A n c) (xs.set i x') [(g, .cells (pre ++ cl').toArray e (lo, hi))] := by
  have hl := h.len_
  rcases h.2 with ⟨hv, h0, rfl⟩ | ⟨g, cap, o, pre, cl, ⟨lo, hi'⟩, hv, rfl, hn, hc, hcl, ht, hfz, rfl⟩
  · omega
  · cases hv
    have hlt : i < xs.length := by omega
    have h1 : (i + 1) * F.sz ≤ xs.length * F.sz := Nat.mul_le_mul_right _ hlt
    have h2 : xs.length * F.sz ≤ c * F.sz := Nat.mul_le_mul_right _ hn
    refine ⟨g, pre, cl, lo, hi', rfl, rfl, hfz, by omega, ?_, ?_⟩
    · have e1 := rows_at (F := F) hlt
      rw [← ht, List.drop_take, List.take_take, Nat.min_eq_left (by rw [Nat.succ_mul] at h1; omega)] at e1
      exact e1
    · intro cl' x' hcl'
      have hlen' : cl'.length = cl.length := by
        rw [hcl']; simp only [List.length_append, List.length_take, List.length_drop, F.len]; rw [Nat.succ_mul] at h1; omega
      refine ⟨by rw [rows_len, List.length_set], .inr ⟨g, c, pre.length, pre, cl', (lo, hi'), by rw [List.length_set], rfl, by rw [List.length_set]; exact hn, hc, by rw [hlen', hcl], ?_, by rw [List.length_append, hlen', ← List.length_append]; exact hfz, rfl⟩⟩
      rw [List.length_set, hcl']
      have e2 : rows F (xs.set i x') = rows F (xs.take i) ++ F.enc x' ++ rows F (xs.drop (i + 1)) := by
        rw [List.set_eq_take_append_cons_drop, if_pos hlt, rows_append, rows_cons, List.append_assoc]
      rw [e2, ← rows_take, ← rows_drop, ← ht, List.take_take, Nat.min_eq_left (by rw [Nat.succ_mul] at h1; omega), List.drop_take]
      have e3 : (cl.take (i * F.sz) ++ F.enc x').length = i * F.sz + F.sz := by
        rw [List.length_append, List.length_take, F.len]; rw [Nat.succ_mul] at h1; omega
      rw [List.take_append, e3, List.take_of_length_le (by rw [e3]; rw [Nat.succ_mul] at h1; omega), Nat.succ_mul]
end
section
variable {P : Program} {n : Nat} {ol rest : List Oper} {o : Oper} {K : Fr → World → Prop} {f : Fr} {w0 w w' : World} {T : List Nat} {L : Hp} {d : Nat} {v : Value} {α : Type} {F : Enc α}
theorem cut_eq {cl vs : List Value} {B S off s : Nat} (h : off + s ≤ S) :
    cl.take (B + off) ++ vs ++ cl.drop (B + off + s) = cl.take B ++ (((cl.drop B).take S).take off ++ vs ++ ((cl.drop B).take S).drop (off + s)) ++ cl.drop (B + S) := by
  have e1 : cl.take (B + off) = cl.take B ++ ((cl.drop B).take S).take off := by rw [List.take_take, Nat.min_eq_left (by omega), List.take_add]
  have e2 : cl.drop (B + off + s) = ((cl.drop B).take S).drop (off + s) ++ cl.drop (B + S) := by
    rw [List.drop_take, List.drop_drop]
    have e3 : cl.drop (B + S) = (cl.drop (B + (off + s))).drop (S - (off + s)) := by rw [List.drop_drop]; congr 1; omega
    rw [e3, List.take_append_drop, Nat.add_assoc]
  rw [e1, e2]
  simp only [List.append_assoc]
/-- A store of an element, or of a part of one, into a slice of ours. -/
theorem WL.storeF {L1 R : Hp} {xs : List α} {x' : α} {A : Option Addr} {m c i off sz : Nat} {e : TypeId} {t : TypeId} {x y : Operand} {vs : List Value} (hst : St w0 T (L1 ++ R) w) (hown : OwnF F e (.slice A m c) xs L1) (hz : ∀ w, (sizeOf t).run P w = .ok sz w) (ho : o.op = .store t x y) (hw : want ol o f = some true) (hd : o.dst = none)
    (hx : ev f x = some (.pointer (some (((adr A).add (i * F.sz)).add off)))) (hy : ev f y = some v) (hvs : cellsOf v = vs) (h1 : vs.all (·.oneCell') = true) (hsz : Nat.beq vs.length sz = true) (hoff : Nat.ble (off + sz) F.sz = true) (hi : i < m)
    (hx' : F.enc x' = (F.enc (gat F xs i)).take off ++ vs ++ (F.enc (gat F xs i)).drop (off + sz))
    (k : ∀ L1' w', St w0 T (L1' ++ R) w' → OwnF F e (.slice A m c) (xs.set i x') L1' → L1'.map (·.1) = L1.map (·.1) → WL P n ol rest K f w') : WL P n ol (o :: rest) K f w := by
  have hsz' := Nat.eq_of_beq_eq_true hsz
  have hoff' := Nat.le_of_ble_eq_true hoff
  obtain ⟨g, pre, cl, lo, hi', rfl, rfl, hfz, hlen, hat, hupd⟩ := hown.upd hi
  have ea : ((adr (some ⟨g, pre.length, none⟩)).add (i * F.sz)).add off = ⟨g, pre.length + (i * F.sz + off), none⟩ := by
    rw [Addr.add_add']; exact addr_at _ _ _
  have hpl : (pre ++ cl).length = pre.length + cl.length := List.length_append
  rw [ea] at hx
  rw [Nat.succ_mul] at hlen
  have hq : cl.take (i * F.sz + off) ++ vs ++ cl.drop (i * F.sz + off + sz) = cl.take (i * F.sz) ++ F.enc x' ++ cl.drop (i * F.sz + F.sz) := by
    rw [hx', ← hat]
    exact cut_eq hoff'
  refine WL.storeA hst 0 hz ho hw hd hx hy hvs rfl h1 hsz' (by omega) (by rcases hfz with h | h <;> omega) fun w' hw' => ?_
  refine k [(g, .cells (pre ++ (cl.take (i * F.sz + off) ++ vs ++ cl.drop (i * F.sz + off + sz))).toArray e (lo, hi'))] w' ?_ (hupd _ x' hq) rfl
  rw [← splice_pre]; exact hw'
theorem WL.storeF1 {L1 R : Hp} {xs : List α} {x' : α} {A : Option Addr} {m c i sz : Nat} {e : TypeId} {t : TypeId} {x y : Operand} {vs : List Value} (hst : St w0 T (L1 ++ R) w) (hown : OwnF F e (.slice A m c) xs L1) (hz : ∀ w, (sizeOf t).run P w = .ok sz w) (ho : o.op = .store t x y) (hw : want ol o f = some true) (hd : o.dst = none)
    (hx : ev f x = some (.pointer (some ((adr A).add (i * F.sz))))) (hy : ev f y = some v) (hvs : cellsOf v = vs) (h1 : vs.all (·.oneCell') = true) (hsz : Nat.beq vs.length sz = true) (hoff : Nat.beq sz F.sz = true) (hi : i < m)
    (hx' : F.enc x' = vs)
    (k : ∀ L1' w', St w0 T (L1' ++ R) w' → OwnF F e (.slice A m c) (xs.set i x') L1' → L1'.map (·.1) = L1.map (·.1) → WL P n ol rest K f w') : WL P n ol (o :: rest) K f w := by
  have hsz' := Nat.eq_of_beq_eq_true hsz
  have hoff' := Nat.eq_of_beq_eq_true hoff
  refine WL.storeF (off := 0) hst hown hz ho hw hd (by rw [Addr.add_add', Nat.add_zero]; exact hx) hy hvs h1 hsz (Nat.ble_eq_true_of_le (by omega)) hi ?_ k
  rw [hx', List.take_zero, List.nil_append, List.drop_of_length_le (by rw [F.len]; omega), List.append_nil]
/-- A new slice of zero elements. -/
theorem WL.makeF (hst : St w0 T L w) {t e : TypeId} {i : TypeInfo} {z : Value} {x y : Operand} {m : Nat} (ht : P.underlying t = some (.slice e)) (hi : P.info? e = some i) (hz : i.zero = some z) (hzl : cellsOf z = F.enc F.dflt) (hsz : Nat.beq i.size F.sz = true)
    (ho : o.op = .makeSlice t x y) (hw : want ol o f = some true) (hd : o.dst = some d) (hn : Nat.blt d n = true) (hx : ev f x = some (.int .i64 m)) (hy : ev f y = some (.int .i64 m)) (hb : i.bytes * m ≤ 281474976710656) (hm : m ≤ 9223372036854775807)
    (k : ∀ A c L1 w', St w0 T (L1 ++ L) w' → OwnF F e (.slice A m c) (List.replicate m F.dflt) L1 → WL P n ol rest K ((d, .slice A m c) :: f) w') : WL P n ol (o :: rest) K f w := by
  have hsz' := Nat.eq_of_beq_eq_true hsz
  refine WL.make hst ht hi hz hzl (by rw [F.len, hsz']; exact Nat.beq_refl _) ho hw hd hn hx hy hb hm fun b w' h => ?_
  have e1 : (List.replicate m (F.enc F.dflt)).flatten = rows F (List.replicate m F.dflt) := by
    unfold rows; rw [List.flatMap_def, List.map_replicate]
  rw [e1] at h
  exact k _ _ [(b, .cells (rows F (List.replicate m F.dflt)).toArray e (0, 0))] w' h (OwnF.row (by simp) (by simpa [maxLen] using hm))
theorem WL.appendG {L1 R : Hp} {xs ys : List α} {t tx e : TypeId} {i : TypeInfo} {z x : Value} {s y : Operand} (hst : St w0 T (L1 ++ R) w) (hown : OwnF F e v xs L1) (hs : Src P F.sz tx x ys.length (rows F ys) w) (ht : P.underlying t = some (.slice e)) (hi : P.info? e = some i) (hz : i.zero = some z) (hs1 : Nat.beq i.size F.sz = true) (hs3 : Nat.beq (cellsOf z).length F.sz = true) (hs2 : Nat.ble i.bytes 512 = true)
    (ho : o.op = .call { callee := .builtin .append, args := #[s, y], argTypes := #[t, tx] }) (hw : want ol o f = some true) (hd : o.dst = some d) (hn : Nat.blt d n = true) (hx : ev f s = some v) (hy : ev f y = some x) (hb : xs.length + ys.length ≤ 274877906944)
    (kk : ∀ A' c' L1' w', St w0 T (L1' ++ R) w' → OwnF F e (.slice A' (xs ++ ys).length c') (xs ++ ys) L1' → WL P n ol rest K ((d, .slice A' (xs ++ ys).length c') :: f) w') : WL P n ol (o :: rest) K f w := by
  have hs2' := Nat.le_of_ble_eq_true hs2
  have hbb : (xs.length + ys.length) * i.bytes ≤ 274877906944 * 512 := Nat.mul_le_mul hb hs2'
  refine WL.append hst hown hs ht hi hz rfl (Nat.eq_of_beq_eq_true hs1) (Nat.eq_of_beq_eq_true hs3) ho hw hd hn hx hy (by omega) (by omega) fun v' L1' w' h1 h2 => ?_
  have h3 : OwnF F e v' (xs ++ ys) L1' := by unfold OwnF; rw [List.length_append, rows_append]; exact h2
  obtain ⟨A', c', rfl⟩ := h3.shape
  exact kk A' c' L1' w' h1 h3
/-- A slice that is written out. -/
theorem WL.buildF (hst : St w0 T L w) (xs : List α) {t e : TypeId} {len sz : Nat} {z : Value} {parts : Array (Nat × Operand)} {vs : List Value} (hu : ∀ w, (underlying t).run P w = .ok (.slice e) w) (hz : ∀ w, (sizeOf e).run P w = .ok sz w) (hzv : ∀ w, (zeroValue e).run P w = .ok z w) (hzs : Nat.beq (cellsOf z).length sz = true)
    (ho : o.op = .buildSlice t len parts) (hw : want ol o f = some true) (hd : o.dst = some d) (hn : Nat.blt d n = true) (hv : evs f (parts.toList.map (·.2)) = some vs) (hix : parts.toList.map (·.1) = List.range len) (hl : Nat.beq vs.length len = true) (hcs : vs.all (fun v => Nat.beq (cellsOf v).length sz) = true) (hbig : Nat.ble (len * sz) 16777216 = true)
    (hxs : vs.flatMap cellsOf = rows F xs) (hlen : Nat.beq xs.length len = true)
    (k : ∀ A c L1 w', St w0 T (L1 ++ L) w' → OwnF F e (.slice A xs.length c) xs L1 → WL P n ol rest K ((d, .slice A xs.length c) :: f) w') : WL P n ol (o :: rest) K f w := by
  have hlen' := Nat.eq_of_beq_eq_true hlen
  refine WL.buildSlice hst hu hz hzv hzs ho hw hd hn hv hix hl hcs hbig fun b w' h => ?_
  rw [hxs] at h
  rw [← hlen']
  refine k _ _ [(b, .cells (rows F xs).toArray e (0, 0))] w' h (OwnF.row rfl ?_)
  have h3 := Nat.le_of_ble_eq_true hbig
  have h4 := congrArg List.length hxs
  rw [rows_len] at h4
  have h5 : xs.length * 1 ≤ xs.length * F.sz := Nat.mul_le_mul_left _ F.pos
  have h6 : (vs.flatMap cellsOf).length = len * sz := by
    rw [List.length_flatMap]
    have : vs.map (fun a => (cellsOf a).length) = vs.map (fun _ => sz) := List.map_congr_left fun v hm => Nat.eq_of_beq_eq_true (List.all_eq_true.1 hcs v hm)
    rw [this, List.map_const', List.sum_replicate_nat, Nat.eq_of_beq_eq_true hl]
  simp only [maxLen]; omega
end
theorem St.lent1 (w : World) (L : Hp) {α : Type} {F : Enc α} {e : TypeId} {v : Value} {xs : List α} (hown : OwnF F e v xs L) (ho : ∀ p, p ∈ L → w.heap[p.1]? = some p.2) : St w (L.map (·.1)) (L ++ []) w := St.lent w L ho hown.keys
/-- '[]byte(s)'. -/
theorem WL.bytesOf {P : Program} {n : Nat} {ol rest : List Oper} {o : Oper} {K : Fr → World → Prop} {f : Fr} {w0 w : World} {T : List Nat} {L : Hp} {d : Nat} (hst : St w0 T L w) {src dst e : TypeId} {x : Operand} {s : ByteArray} (hs : P.underlying src = some .string) (hd' : P.underlying dst = some (.slice e)) (he : P.underlying e = some (.int .u8))
    (ho : o.op = .convert src dst x) (hw : want ol o f = some true) (hd : o.dst = some d) (hn : Nat.blt d n = true) (hx : ev f x = some (.string s)) (hb : s.size ≤ 9223372036854775807)
    (k : ∀ A c L1 w', St w0 T (L1 ++ L) w' → OwnF encB e (.slice A s.data.toList.length c) s.data.toList L1 → WL P n ol rest K ((d, .slice A s.data.toList.length c) :: f) w') : WL P n ol (o :: rest) K f w := by
  have hr := run_bytes_of_string (P := P) w src dst e s hs hd' he
  have hl : s.data.toList.length = s.size := by simp
  have hcap := grownCap_ge w s.size 0 e
  have hcm : grownCap w s.size 0 e ≤ maxLen := grownCap_le_maxLen w s.size 0 e (by simp only [maxLen]; omega)
  generalize hC : grownCap w s.size 0 e = C at hr hcap hcm
  have e1 : bytesRow s C = (bytesV s.data.toList ++ List.replicate (C - s.size) (Value.int .u8 0)).toArray := by
    apply Array.toList_inj.1
    simp [bytesRow, bytesV_map]
  have hsz : (bytesRow s C).size = C := by simp [bytesRow]; omega
  refine WL.val (w' := w.drew.alloc (.cells (bytesRow s C) e (C, C + 1))) hw hd hn (fun ρ hρ => ?_) ?_ (v := .slice (some ⟨w.heap.size, 0, none⟩) s.data.toList.length C)
  · rw [hsz] at hr
    simp [execOp, ho, hρ _ _ hx, hr]
  · refine k _ _ [(w.heap.size, .cells (bytesRow s C) e (C, C + 1))] _ (hst.drew.alloc _) ?_
    rw [e1]
    refine ⟨by rw [rows_len], .inr ⟨_, C, 0, [], bytesV s.data.toList ++ List.replicate (C - s.size) (.int .u8 0), (C, C + 1), rfl, rfl, by omega, hcm, ?_, ?_, .inr ?_, rfl⟩⟩
    · simp [bytesV_len, encB]; omega
    · rw [List.take_append_of_le_length (by rw [rows_len]; exact Nat.le_refl _), List.take_of_length_le (by rw [rows_len]; exact Nat.le_refl _)]
    · simp [bytesV_len]; omega
/-- 'string(b)'. -/
theorem Run.strOf {P : Program} {o : Oper} {f : Fr} {w : World} {src dst e : TypeId} {x : Operand} {A : Option Addr} {n c : Nat} {xs : List UInt8} (h : SlB w A n xs) (hs : P.underlying src = some (.slice e)) (he : P.underlying e = some (.int .u8)) (hd : P.underlying dst = some .string)
    (ho : o.op = .convert src dst x) (hx : ev f x = some (.slice A n c)) : Run P o f w (.value (.string ⟨xs.toArray⟩)) w := fun ρ hρ => by
  obtain ⟨hl, hr⟩ := h
  subst hl
  have hc : (convert src dst (.slice A xs.length c)).run P w = .ok (.string ⟨xs.toArray⟩) w := by
    cases A with
    | some a =>
      refine run_convert_bytes_back w src dst e a c xs hs he hd fun j hj => ?_
      have := hr.cell j _ (bytesV_get hj)
      simpa [adr, gat, List.getD, hj] using this
    | none =>
      have h0 : xs = [] := by
        rcases Nat.eq_zero_or_pos xs.length with h0 | h0
        · exact List.eq_nil_of_length_eq_zero h0
        · have := hr.some_ h0; simp at this
      subst h0
      show (convert src dst (.slice none 0 c)).run P w = _
      rw [run_convert_bytes_string w src dst e none 0 c hs he hd]
      simp [Conv.bytesToString]
      rfl
  simp [execOp, ho, hρ _ _ hx, hc]
theorem lt_of_SlF {α : Type} {F : Enc α} {w : World} {A : Option Addr} {n : Nat} {xs : List α} (h : SlF F w A n xs) (hn : 0 < n) : (adr A).block < w.heap.size := by
  have h0 : 0 < (rows F xs).length := by rw [h.rd.len]; exact Nat.mul_pos hn F.pos
  have := cell?_lt (h.rd.cell 0 _ (List.getElem?_eq_getElem h0))
  rwa [add_block] at this
/-- What lay there before is none of what is new. -/
theorem St.sep {α : Type} {F : Enc α} {w0 w : World} {L1 R : Hp} {A : Option Addr} {n : Nat} {xs : List α} (hs : St w0 [] (L1 ++ R) w) (h : SlF F w0 A n xs) : 0 < n → (adr A).block ∉ L1.map (·.1) := fun hn hm => by
  obtain ⟨p, hp, e⟩ := List.mem_map.1 hm
  have h1 := lt_of_SlF h hn
  rcases (hs.own p (List.mem_append_left _ hp)).2 with h2 | h2
  · omega
  · cases h2
theorem sep_nil {A : Option Addr} {n : Nat} : 0 < n → (adr A).block ∉ ([] : Hp).map (·.1) := fun _ h => by cases h
/-- One slice of ours is none of another. -/
theorem OwnF.sep {α : Type} {F : Enc α} {e : TypeId} {w0 w : World} {T : List Nat} {L1 L2 R : Hp} {A : Option Addr} {n c : Nat} {xs : List α} (hs : St w0 T (L1 ++ R) w) (hm : ∀ p, p ∈ L2 → p ∈ R) (h : OwnF F e (.slice A n c) xs L2) : 0 < n → (adr A).block ∉ L1.map (·.1) := fun hn hmm => by
  have hl := h.len_
  rcases h.2 with ⟨hv, h0, rfl⟩ | ⟨g, cap, o, pre, cl, fz, hv, rfl, _⟩
  · omega
  · cases hv
    have hd := hs.nodup
    rw [List.map_append, List.nodup_append] at hd
    exact hd.2.2 _ hmm _ (List.mem_map_of_mem (hm _ List.mem_cons_self)) rfl
theorem srcI1 {P : Program} {w : World} {b : Nat} {c : Int} {e tx e' : TypeId} {fz : Nat × Nat} (hk : P.underlying tx = some (.slice e')) (h : w.heap[b]? = some (.cells ([i64 c].flatMap cellsOf).toArray e fz)) : Src P 1 tx (.slice (some ⟨b, 0, none⟩) 1 1) [c].length (intsV [c]) w :=
  srcF (F := encI) (ys := [c]) hk rfl rfl h
/-- A loop that turns one slice of ours; the rest stays. -/
theorem WC.loopO {P : Program} {n : Nat} {c : Code} {Q : Kont} {f : Fr} {w0 w : World} {T : List Nat} {L0 R : Hp} (F : Fr) (hF : Sub F f) (hst : St w0 T (L0 ++ R) w) (I : Nat → Fr → Hp → Prop) (k0 : Nat) (h0 : I k0 f L0)
    (hr : ∀ k f w L1, I k f L1 → Sub F f → St w0 T (L1 ++ R) w → WC P n c (thenK (fun f' w' => Sub F f' ∧ ∃ L1', St w0 T (L1' ++ R) w' ∧ ∃ k', k' < k ∧ I k' f' L1') Q) f w) : WC P n (.loop c) Q f w :=
  WC.loopN (fun k f w => ∃ L1, I k f L1 ∧ Sub F f ∧ St w0 T (L1 ++ R) w) k0 ⟨L0, h0, hF, hst⟩ fun k f w ⟨L1, h1, h2, h3⟩ => (hr k f w L1 h1 h2 h3).mono fun e f' w' q => by
    cases e
    case normal =>
      obtain ⟨q1, L1', q2, k', q3, q4⟩ := q
      exact ⟨k', q3, L1', q4, q1, q2⟩
    all_goals exact q
theorem OwnF.eqOf {α : Type} {F : Enc α} {e : TypeId} {v : Value} {ys xs : List α} {L : Hp} (_ : OwnF F e v ys L) (h : ys = xs) : ys = xs := h
/-- A row filled up to i. -/
def fillG {α : Type} (F : Enc α) (xs : List α) (i : Nat) : List α := xs.take i ++ List.replicate (xs.length - i) F.dflt
section
variable {α : Type} {F : Enc α} {xs : List α} {i n : Nat}
theorem fillG_zero (h : xs.length = n) : List.replicate n F.dflt = fillG F xs 0 := by simp [fillG, h]
theorem fillG_full (h : xs.length ≤ i) : fillG F xs i = xs := by simp [fillG, List.take_of_length_le h, Nat.sub_eq_zero_of_le h]
theorem fillG_len (h : i ≤ xs.length) : (fillG F xs i).length = xs.length := by simp [fillG]; omega
theorem fillG_set (h : i < xs.length) {x : α} (hx : x = gat F xs i) {j : Nat} (hj : j = i) : (fillG F xs i).set j x = fillG F xs (i + 1) := by
  subst hx hj
  obtain ⟨r, hr⟩ : ∃ r, xs.length - j = r + 1 := ⟨xs.length - j - 1, by omega⟩
  have hr2 : xs.length - (j + 1) = r := by omega
  unfold fillG
  rw [hr, hr2, List.replicate_succ, List.set_append_right _ _ (by simp; omega)]
  simp only [List.length_take, Nat.min_eq_left (Nat.le_of_lt h), Nat.sub_self, List.set_cons_zero]
  rw [List.take_add_one, gat_get (F := F) h, List.append_assoc]
  rfl
end
theorem gat_set {α : Type} {F : Enc α} {xs : List α} {i j : Nat} {x : α} (h : i < xs.length) (hj : j = i) : gat F (xs.set i x) j = x := by
  subst hj; simp [gat, List.getD, h]
/-- What a law writes into memory to see whether it is shared. -/
def marks {α : Type} (mk : Int → α) (s : Nat) (k : Int) (n : Nat) : List α := (List.range n).map fun (i : Nat) => mk (k + s * (i : Int))
def fillM {α : Type} (mk : Int → α) (s : Nat) (k : Int) (xs : List α) (i : Nat) : List α := marks mk s k i ++ xs.drop i
section
variable {α : Type} {F : Enc α} {mk : Int → α} {s : Nat} {k : Int} {xs : List α} {i n : Nat}
theorem marks_len : (marks mk s k n).length = n := by simp [marks]
theorem marks_gat (h : i < n) : gat F (marks mk s k n) i = mk (k + s * i) := by simp [gat, marks, h, List.getD]
theorem fillM_zero : fillM mk s k xs 0 = xs := by simp [fillM, marks]
theorem fillM_full (h : i = xs.length) : fillM mk s k xs i = marks mk s k xs.length := by subst h; simp [fillM]
theorem fillM_len (h : i ≤ xs.length) : (fillM mk s k xs i).length = xs.length := by simp [fillM, marks]; omega
theorem fillM_set (h : i < xs.length) {x : α} (hx : x = mk (k + s * i)) {j : Nat} (hj : j = i) : (fillM mk s k xs i).set j x = fillM mk s k xs (i + 1) := by
  subst hx hj
  unfold fillM
  have hl : (marks mk s k j).length = j := marks_len
  rw [List.set_append_right _ _ (by omega), hl, Nat.sub_self, List.drop_eq_getElem_cons h, List.set_cons_zero]
  unfold marks
  rw [List.range_succ, List.map_append, List.append_assoc]
  rfl
end
end Go.Proofs.Ytlmcekfdlgkffaa
namespace Go.Proofs.Ytlmcekfdlgkffaa
open Go Go.RowKit
set_option linter.unusedVariables false
set_option linter.unusedSimpArgs false

section
variable {P : Program} {w : World} {d : Nat}
theorem part_one {t : TypeId} {cl : List Value} {off : Nat} {v : Value} (ha : ∀ w, (isAgg t).run P w = .ok false w) (hv : cl[off]? = some v) : (part t cl.toArray off).run P w = .ok v w := by
  simp [part, ha, hv]
theorem part_agg {t : TypeId} {cl us : List Value} {off n : Nat} (ha : ∀ w, (isAgg t).run P w = .ok true w) (hz : ∀ w, (sizeOf t).run P w = .ok n w) (hv : (cl.drop off).take n = us) : (part t cl.toArray off).run P w = .ok (.agg us.toArray) w := by
  have e : cl.toArray.extract off (off + n) = us.toArray := by
    apply Array.toList_inj.1
    rw [← hv]
    simp [List.extract_eq_take_drop]
  simp [part, ha, hz]
  exact hv
theorem eqFields_nil {xs ys : Array Value} : (Op.eqFields d xs ys []).run P w = .ok true w := by simp [Op.eqFields]
theorem eqFields_cons {xs ys : Array Value} {f : Field} {fs : List Field} {a b : Value} {r R : Bool} (hn : (f.name == "_") = false) (h1 : (part f.type xs f.offset).run P w = .ok a w) (h2 : (part f.type ys f.offset).run P w = .ok b w) (h3 : (Op.equalIn d f.type a b).run P w = .ok r w) (h4 : (Op.eqFields d xs ys fs).run P w = .ok R w) :
    (Op.eqFields d xs ys (f :: fs)).run P w = .ok (r && R) w := by
  have hn' : f.name ≠ "_" := by simpa using hn
  unfold Op.eqFields
  rw [if_pos hn']
  simp only [Sem.run_bind, h1, h2, h3, Result.andThen_ok]
  cases r
  · simp
  · simp [h4]
theorem equalIn_struct {t : TypeId} {fs : Array Field} {fl : List Field} {xs ys : Array Value} {R : Bool} (ht : P.underlying t = some (.struct fs)) (hfl : fs.toList = fl) (hp : P.stoodInHeld t = false) (h : (Op.eqFields d xs ys fl).run P w = .ok R w) : (Op.equalIn (d + 1) t (.agg xs) (.agg ys)).run P w = .ok R w := by
  have e : P.fieldsOf t = fs := by unfold Program.fieldsOf; rw [ht]
  rw [run_equalIn_struct w d t xs ys (by rw [e]; exact ht) hp, e, hfl, h]
theorem equalIn_int {t : TypeId} {k k' : IntKind} {a b : Int} (h : P.underlying t = some (.int k')) : (Op.equalIn (d + 1) t (.int k a) (.int k b)).run P w = .ok (a == b) w := run_equalIn_int w d t k k' a b h
theorem equalIn_bool' {t : TypeId} {a b : Bool} (h : P.underlying t = some .bool) : (Op.equalIn (d + 1) t (.bool a) (.bool b)).run P w = .ok (a == b) w := run_equalIn_bool' w d t a b h
theorem equalIn_str {t : TypeId} {a b : ByteArray} (h : P.underlying t = some .string) : (Op.equalIn (d + 1) t (.string a) (.string b)).run P w = .ok (a == b) w := by
  simp [Op.equalIn, run_underlying h]
theorem Run.eqlA {o : Oper} {f : Fr} {t t' : TypeId} {x y : Operand} {a b : Array Value} {r : Bool} (heq : ∀ w, (Op.equalIn 10000 t (.agg a) (.agg b)).run P w = .ok r w) (hg : P.eqGuardType P.depth t = false) (ho : o.op = .binOp .eql t x y t') (hx : ev f x = some (.agg a)) (hy : ev f y = some (.agg b)) : Run P o f w (.value (.bool r)) w := fun ρ hρ => by
  simp [execOp, ho, hρ _ _ hx, hρ _ _ hy, run_eqGuard_agg w _ _ _ _ _ _ hg, run_eql_struct, heq]
theorem Run.neqA {o : Oper} {f : Fr} {t t' : TypeId} {x y : Operand} {a b : Array Value} {r : Bool} (heq : ∀ w, (Op.equalIn 10000 t (.agg a) (.agg b)).run P w = .ok r w) (hg : P.eqGuardType P.depth t = false) (ho : o.op = .binOp .neq t x y t') (hx : ev f x = some (.agg a)) (hy : ev f y = some (.agg b)) : Run P o f w (.value (.bool (!r))) w := fun ρ hρ => by
  simp [execOp, ho, hρ _ _ hx, hρ _ _ hy, run_eqGuard_agg w _ _ _ _ _ _ hg, run_neq_struct, heq]
end
/-! bits -/
section
variable {P : Program} {w : World} {o : Oper} {f : Fr} {t t' : TypeId} {x y : Operand} {a b : Int}
theorem bvNat {a : Int} (h0 : 0 ≤ a) (h1 : a ≤ 9223372036854775807) : (BitVec.ofInt 64 a).toNat = a.toNat := by
  rw [BitVec.toNat_ofInt]
  omega
theorem nat_lt {a : Int} (h1 : a ≤ 9223372036854775807) : a.toNat < 2 ^ 63 := by
  have : (2 : Nat) ^ 63 = 9223372036854775808 := by decide
  omega
theorem or_in {a b : Int} (h1 : a ≤ 9223372036854775807) (h2 : b ≤ 9223372036854775807) : In64 ((a.toNat ||| b.toNat : Nat) : Int) := by
  have := Nat.or_lt_two_pow (nat_lt h1) (nat_lt h2)
  have e : (2 : Nat) ^ 63 = 9223372036854775808 := by decide
  constructor <;> omega
theorem and_in {a b : Int} (h1 : a ≤ 9223372036854775807) : In64 ((a.toNat &&& b.toNat : Nat) : Int) := by
  have := Nat.and_lt_two_pow b.toNat (nat_lt h1)
  have h3 : a.toNat &&& b.toNat ≤ a.toNat := Nat.and_le_left
  constructor <;> omega
theorem xor_in {a b : Int} (h1 : a ≤ 9223372036854775807) (h2 : b ≤ 9223372036854775807) : In64 ((a.toNat ^^^ b.toNat : Nat) : Int) := by
  have := Nat.xor_lt_two_pow (nat_lt h1) (nat_lt h2)
  have e : (2 : Nat) ^ 63 = 9223372036854775808 := by decide
  constructor <;> omega
theorem Run.or (ho : o.op = .binOp .or t x y t') (hx : ev f x = some (.int .i64 a)) (hy : ev f y = some (.int .i64 b)) (h0 : 0 ≤ a) (h1 : a ≤ 9223372036854775807) (h2 : 0 ≤ b) (h3 : b ≤ 9223372036854775807) : Run P o f w (.value (.int .i64 ((a.toNat ||| b.toNat : Nat)))) w := fun ρ hρ => by
  have e : (BitVec.ofInt 64 a ||| BitVec.ofInt 64 b).toNat = a.toNat ||| b.toNat := by rw [BitVec.toNat_or, bvNat h0 h1, bvNat h2 h3]
  have e2 := wrap_in (or_in h1 h3)
  simp [execOp, ho, hρ _ _ hx, hρ _ _ hy, eqGuard, binOp, Op.intBits]
  exact (congrArg (fun n : Nat => IntKind.i64.wrap (n : Int)) e).trans e2
theorem Run.and (ho : o.op = .binOp .and t x y t') (hx : ev f x = some (.int .i64 a)) (hy : ev f y = some (.int .i64 b)) (h0 : 0 ≤ a) (h1 : a ≤ 9223372036854775807) (h2 : 0 ≤ b) (h3 : b ≤ 9223372036854775807) : Run P o f w (.value (.int .i64 ((a.toNat &&& b.toNat : Nat)))) w := fun ρ hρ => by
  have e : (BitVec.ofInt 64 a &&& BitVec.ofInt 64 b).toNat = a.toNat &&& b.toNat := by rw [BitVec.toNat_and, bvNat h0 h1, bvNat h2 h3]
  have e2 := wrap_in (and_in (a := a) (b := b) h1)
  simp [execOp, ho, hρ _ _ hx, hρ _ _ hy, eqGuard, binOp, Op.intBits]
  exact (congrArg (fun n : Nat => IntKind.i64.wrap (n : Int)) e).trans e2
theorem Run.xor (ho : o.op = .binOp .xor t x y t') (hx : ev f x = some (.int .i64 a)) (hy : ev f y = some (.int .i64 b)) (h0 : 0 ≤ a) (h1 : a ≤ 9223372036854775807) (h2 : 0 ≤ b) (h3 : b ≤ 9223372036854775807) : Run P o f w (.value (.int .i64 ((a.toNat ^^^ b.toNat : Nat)))) w := fun ρ hρ => by
  have e : (BitVec.ofInt 64 a ^^^ BitVec.ofInt 64 b).toNat = a.toNat ^^^ b.toNat := by rw [BitVec.toNat_xor, bvNat h0 h1, bvNat h2 h3]
  have e2 := wrap_in (xor_in h1 h3)
  simp [execOp, ho, hρ _ _ hx, hρ _ _ hy, eqGuard, binOp, Op.intBits]
  exact (congrArg (fun n : Nat => IntKind.i64.wrap (n : Int)) e).trans e2
theorem Run.remB {a : UInt8} (k : Nat) (ho : o.op = .binOp .rem t x y t') (hx : ev f x = some (.int .u8 a.toNat)) (hy : ev f y = some (.int .u8 (k : Int))) (h0 : 0 < k) (h1 : k ≤ 255) : Run P o f w (.value (.int .u8 ((UInt8.ofNat (a.toNat % k)).toNat))) w := fun ρ hρ => by
  have h3 := a.toNat_lt
  have h4 : a.toNat % k ≤ a.toNat := Nat.mod_le _ _
  have e : (a.toNat : Int).tmod (k : Int) = ((UInt8.ofNat (a.toNat % k)).toNat : Int) := by
    rw [UInt8.toNat_ofNat', Nat.mod_eq_of_lt (by omega), Int.tmod_eq_emod_of_nonneg (by omega)]
    omega
  have hk0 : k ≠ 0 := by omega
  rw [← e]
  simp [execOp, ho, hρ _ _ hx, hρ _ _ hy, eqGuard, binOp, Op.intDiv, hk0]
theorem Run.shl {k : IntKind} (ho : o.op = .binOp .shl t x y t') (hx : ev f x = some (.int .i64 a)) (hy : ev f y = some (.int k b)) (h0 : 0 ≤ b) (h1 : b ≤ 63) (h : In64 (a * 2 ^ b.toNat)) : Run P o f w (.value (.int .i64 (a * 2 ^ b.toNat))) w := fun ρ hρ => by
  have e : min b.toNat 64 = b.toNat := by omega
  have h2 : ¬ b < 0 := by omega
  have e2 := wrap_in h
  simp [execOp, ho, hρ _ _ hx, hρ _ _ hy, eqGuard, binOp, Op.shift, IntKind.bits, e, h2, e2]
theorem Run.shr {k : IntKind} (ho : o.op = .binOp .shr t x y t') (hx : ev f x = some (.int .i64 a)) (hy : ev f y = some (.int k b)) (h0 : 0 ≤ b) (h1 : b ≤ 63) : Run P o f w (.value (.int .i64 (a / 2 ^ b.toNat))) w := fun ρ hρ => by
  have e : min b.toNat 64 = b.toNat := by omega
  have h2 : ¬ b < 0 := by omega
  have e3 : a.fdiv (2 ^ b.toNat) = a / 2 ^ b.toNat := Int.fdiv_eq_ediv_of_nonneg a (by exact Int.le_of_lt (Int.pow_pos (by decide)))
  simp [execOp, ho, hρ _ _ hx, hρ _ _ hy, eqGuard, binOp, Op.shift, IntKind.bits, e, h2, e3]
end
/-! places told by a natural number -/
section
variable {P : Program} {w : World} {o : Oper} {f : Fr}
theorem Run.idxN {t e : TypeId} {x i : Operand} {A : Option Addr} {l c sz : Nat} {k : IntKind} {n : Nat} (hu : ∀ w, (underlying t).run P w = .ok (.slice e) w) (hz : ∀ w, (sizeOf e).run P w = .ok sz w) (ho : o.op = .indexAddr t x i) (hx : ev f x = some (.slice A l c)) (hi : ev f i = some (.int k ((n : Nat) : Int)))
    (hA : 0 < l → A.isSome = true) (h0 : 0 ≤ (n : Int)) (h1 : (n : Int) < l) : Run P o f w (.value (.pointer (some ((adr A).add (n * sz))))) w := by
  have := Run.idx (w := w) hu hz ho hx hi hA h0 h1
  rwa [Int.toNat_natCast] at this
theorem Run.idxBN {t e : TypeId} {x i : Operand} {b off : Nat} {l c sz : Nat} {k : IntKind} {n : Nat} (hu : ∀ w, (underlying t).run P w = .ok (.slice e) w) (hz : ∀ w, (sizeOf e).run P w = .ok sz w) (ho : o.op = .indexAddr t x i) (hx : ev f x = some (.slice (some ⟨b, off, none⟩) l c)) (hi : ev f i = some (.int k ((n : Nat) : Int)))
    (h0 : 0 ≤ (n : Int)) (h1 : (n : Int) < l) : Run P o f w (.value (.pointer (some ⟨b, off + n * sz, none⟩))) w := by
  have := Run.idxB (w := w) hu hz ho hx hi h0 h1
  rwa [Int.toNat_natCast] at this
theorem Run.idxK {t e : TypeId} {x i : Operand} {A : Option Addr} {l c sz : Nat} {k : IntKind} {m : Int} (n : Nat) (hu : ∀ w, (underlying t).run P w = .ok (.slice e) w) (hz : ∀ w, (sizeOf e).run P w = .ok sz w) (ho : o.op = .indexAddr t x i) (hx : ev f x = some (.slice A l c)) (hi : ev f i = some (.int k m))
    (hA : 0 < l → A.isSome = true) (hm : m = (n : Int)) (h1 : (n : Int) < l) : Run P o f w (.value (.pointer (some ((adr A).add (n * sz))))) w := by
  subst hm
  exact Run.idxN hu hz ho hx hi hA (Int.natCast_nonneg _) h1
theorem Run.idxStrN {t : TypeId} {x i : Operand} {s : ByteArray} {k : IntKind} {n : Nat} (hu : ∀ w, (underlying t).run P w = .ok .string w) (ho : o.op = .index t x i) (hx : ev f x = some (.string s)) (hi : ev f i = some (.int k ((n : Nat) : Int))) (h0 : 0 ≤ (n : Int)) (h : ((n : Int)).toNat < s.size) : Run P o f w (.value (.int .u8 ((sbyte s n).toNat))) w := by
  have := Run.idxStr (w := w) hu ho hx hi h0 h
  rwa [Int.toNat_natCast] at this
end
end Go.Proofs.Ytlmcekfdlgkffaa
namespace Go.Proofs.Ytlmcekfdlgkffaa
open Go Go.RowKit
set_option linter.unusedVariables false
set_option linter.unusedSimpArgs false

/-- Where a part of a slice begins. -/
def cutA (A : Option Addr) (lo sz c : Nat) : Option Addr := if c = lo then A else A.map (·.add (lo * sz))
theorem SlF.cutC {α : Type} {F : Enc α} {w : World} {A : Option Addr} {n lo hi c : Nat} {xs : List α} (h : SlF F w A n xs) (hc : lo ≤ hi ∧ hi ≤ n ∧ n ≤ c) : SlF F w (cutA A lo F.sz c) (hi - lo) ((xs.drop lo).take (hi - lo)) := by
  obtain ⟨h1, h2, h3⟩ := hc
  have hl := h.len
  refine ⟨by rw [List.length_take, List.length_drop]; omega, ?_⟩
  unfold cutA
  split
  · rename_i e
    have : hi - lo = 0 := by omega
    rw [this]
    simp only [List.take_zero]
    exact SlR.nil _ _ _
  · have := h.rd.cut h1 h2
    rw [rows_drop, rows_take] at this
    exact this
theorem SlF.cutL {α : Type} {F : Enc α} {w : World} {A : Option Addr} {n c : Nat} {xs : List α} (lo : Nat) (h : SlF F w A n xs) (hc : lo ≤ n ∧ n ≤ n ∧ n ≤ c) : SlF F w (cutA A lo F.sz c) (n - lo) (xs.drop lo) := by
  have := h.cutC hc
  rwa [List.take_of_length_le (by rw [List.length_drop, h.len]; exact Nat.le_refl _)] at this
theorem SlF.cutH {α : Type} {F : Enc α} {w : World} {A : Option Addr} {n c : Nat} {xs : List α} (hi : Nat) (h : SlF F w A n xs) (hc : 0 ≤ hi ∧ hi ≤ n ∧ n ≤ c) : SlF F w (cutA A 0 F.sz c) (hi - 0) (xs.take hi) := by
  have := h.cutC hc
  rwa [List.drop_zero] at this
section
variable {P : Program} {w : World} {o : Oper} {f : Fr} {t e : TypeId} {x y z : Operand} {A : Option Addr} {n c sz lo hi : Nat} {k k' : IntKind} {a b : Int}
theorem Run.sliceLH (lo hi : Nat) (hu : ∀ w, (underlying t).run P w = .ok (.slice e) w) (hz : ∀ w, (sizeOf e).run P w = .ok sz w) (ho : o.op = .slice t x (some y) (some z) none) (hx : ev f x = some (.slice A n c)) (hy : ev f y = some (.int k a)) (hw : ev f z = some (.int k' b))
    (ha : a = (lo : Int)) (hb : b = (hi : Int)) (h : lo ≤ hi ∧ hi ≤ n ∧ n ≤ c) : Run P o f w (.value (.slice (cutA A lo sz c) (hi - lo) (c - lo))) w := fun ρ hρ => by
  subst ha hb
  have h1 : lo ≤ hi := by omega
  have h2 : hi ≤ c := by omega
  simp [execOp, ho, hρ _ _ hx, hρ _ _ hy, hρ _ _ hw, Instr.sliceAt, Instr.slice, Instr.sliceBounds, Instr.sliceBound, asIntOf, hu, hz, cutA, h1, h2]
theorem Run.sliceL (lo : Nat) (hu : ∀ w, (underlying t).run P w = .ok (.slice e) w) (hz : ∀ w, (sizeOf e).run P w = .ok sz w) (ho : o.op = .slice t x (some y) none none) (hx : ev f x = some (.slice A n c)) (hy : ev f y = some (.int k a))
    (ha : a = (lo : Int)) (h : lo ≤ n ∧ n ≤ n ∧ n ≤ c) : Run P o f w (.value (.slice (cutA A lo sz c) (n - lo) (c - lo))) w := fun ρ hρ => by
  subst ha
  have h1 : lo ≤ n := by omega
  simp [execOp, ho, hρ _ _ hx, hρ _ _ hy, Instr.sliceAt, Instr.slice, Instr.sliceBounds, Instr.sliceBound, asIntOf, hu, hz, cutA, h1]
theorem Run.sliceH (hi : Nat) (hu : ∀ w, (underlying t).run P w = .ok (.slice e) w) (hz : ∀ w, (sizeOf e).run P w = .ok sz w) (ho : o.op = .slice t x none (some z) none) (hx : ev f x = some (.slice A n c)) (hw : ev f z = some (.int k' b))
    (hb : b = (hi : Int)) (h : 0 ≤ hi ∧ hi ≤ n ∧ n ≤ c) : Run P o f w (.value (.slice (cutA A 0 sz c) (hi - 0) (c - 0))) w := fun ρ hρ => by
  subst hb
  have h2 : hi ≤ c := by omega
  simp [execOp, ho, hρ _ _ hx, hρ _ _ hw, Instr.sliceAt, Instr.slice, Instr.sliceBounds, Instr.sliceBound, asIntOf, hu, hz, cutA, h2]
theorem cutA_zero {A : Option Addr} {sz c : Nat} : cutA A 0 sz c = A := by
  unfold cutA
  split
  · rfl
  · cases A with
    | none => rfl
    | some a =>
      simp only [Option.map_some, Nat.zero_mul]
      unfold Addr.add
      split <;> simp_all
/-- The first part of a slice, as a slice that begins at the same place. -/
theorem Run.sliceH0 (hi : Nat) (hu : ∀ w, (underlying t).run P w = .ok (.slice e) w) (hz : ∀ w, (sizeOf e).run P w = .ok sz w) (ho : o.op = .slice t x none (some z) none) (hx : ev f x = some (.slice A n c)) (hw : ev f z = some (.int k' b))
    (hb : b = (hi : Int)) (h : hi ≤ c) : Run P o f w (.value (.slice A hi c)) w := fun ρ hρ => by
  subst hb
  have h2 : hi ≤ c := by omega
  have := @cutA_zero A sz c
  unfold cutA at this
  simp [execOp, ho, hρ _ _ hx, hρ _ _ hw, Instr.sliceAt, Instr.slice, Instr.sliceBounds, Instr.sliceBound, asIntOf, hu, hz, h2]
  simpa using this
theorem Run.sliceStr (lo hi : Nat) {s : ByteArray} (hu : ∀ w, (underlying t).run P w = .ok .string w) (ho : o.op = .slice t x (some y) (some z) none) (hx : ev f x = some (.string s)) (hy : ev f y = some (.int k a)) (hw : ev f z = some (.int k' b))
    (ha : a = (lo : Int)) (hb : b = (hi : Int)) (h : lo ≤ hi ∧ hi ≤ s.size) : Run P o f w (.value (.string (s.extract lo hi))) w := fun ρ hρ => by
  subst ha hb
  have h1 : lo ≤ hi := by omega
  have h2 : hi ≤ s.size := by omega
  simp [execOp, ho, hρ _ _ hx, hρ _ _ hy, hρ _ _ hw, Instr.sliceAt, Instr.slice, Instr.sliceBounds, Instr.sliceBound, asIntOf, hu, h1, h2]
end
/-! the first part of what is ours; functions that hold something; nil -/
section
variable {α : Type} {F : Enc α} {e : TypeId} {xs : List α} {L : Hp} {A : Option Addr} {n c k : Nat}
theorem OwnF.nilA (F : Enc α) (e : TypeId) (A : Option Addr) : OwnF F e (.slice A 0 0) [] [] := Own.nilA e F.sz A
theorem OwnF.take (h : OwnF F e (.slice A n c) xs L) (hk : k ≤ n) : OwnF F e (.slice A k c) (xs.take k) L := by
  have hl := h.len_
  have hk' : (xs.take k).length = k := by rw [List.length_take]; omega
  rcases h.2 with ⟨⟨A', hv⟩, h0, rfl⟩ | ⟨g, cap, o, pre, cl, fz, hv, rfl, hn, hc, hcl, ht, hfz, ho⟩
  · cases hv
    obtain rfl : k = 0 := by omega
    exact OwnF.nilA F e A
  · cases hv
    refine ⟨by rw [rows_len], .inr ⟨g, c, _, pre, cl, fz, by rw [hk'], rfl, by rw [hk']; omega, hc, hcl, ?_, hfz, ho⟩⟩
    have h1 : k * F.sz ≤ xs.length * F.sz := Nat.mul_le_mul_right _ (by omega)
    rw [hk', ← rows_take, ← ht, List.take_take, Nat.min_eq_left h1]
theorem OwnF.cap (h : OwnF F e (.slice A n c) xs L) : n ≤ c := by
  have hl := h.len_
  rcases h.2 with ⟨⟨A', hv⟩, h0, rfl⟩ | ⟨g, cap, o, pre, cl, fz, hv, rfl, hn, _⟩
  · omega
  · cases hv
    omega
/-- What a store of some elements does to a slice of ours. -/
theorem OwnF.updR {i : Nat} {ys : List α} (h : OwnF F e (.slice A n c) xs L) (h0 : 0 < n) (hi : i + ys.length ≤ n) : ∃ (g : Nat) (pre cl : List Value) (lo hi : Nat), A = some ⟨g, pre.length, none⟩ ∧ L = [(g, .cells (pre ++ cl).toArray e (lo, hi))] ∧ (hi ≤ lo ∨ (pre ++ cl).length ≤ lo) ∧ (i + ys.length) * F.sz ≤ cl.length ∧
    ∀ (cl' : List Value), cl' = cl.take (i * F.sz) ++ rows F ys ++ cl.drop ((i + ys.length) * F.sz) → OwnF F e (.slice A n c) (xs.take i ++ ys ++ xs.drop (i + ys.length)) [(g, .cells (pre ++ cl').toArray e (lo, hi))] := by
  have hl := h.len_
  rcases h.2 with ⟨⟨A', hv⟩, h0', rfl⟩ | ⟨g, cap, o, pre, cl, ⟨lo, hi'⟩, hv, rfl, hn, hc, hcl, ht, hfz, rfl⟩
  · omega
  · cases hv
    have h1 : (i + ys.length) * F.sz ≤ xs.length * F.sz := Nat.mul_le_mul_right _ (by omega)
    have h2 : xs.length * F.sz ≤ c * F.sz := Nat.mul_le_mul_right _ hn
    have h3 : i * F.sz ≤ (i + ys.length) * F.sz := Nat.mul_le_mul_right _ (by omega)
    refine ⟨g, pre, cl, lo, hi', rfl, rfl, hfz, by omega, ?_⟩
    intro cl' hcl'
    have hly : (rows F ys).length = ys.length * F.sz := rows_len ys
    have hadd : (i + ys.length) * F.sz = i * F.sz + ys.length * F.sz := Nat.add_mul _ _ _
    have hlen' : cl'.length = cl.length := by
      rw [hcl']; simp only [List.length_append, List.length_take, List.length_drop, hly]; omega
    have hlx : (xs.take i ++ ys ++ xs.drop (i + ys.length)).length = xs.length := by
      simp only [List.length_append, List.length_take, List.length_drop]; omega
    refine ⟨by rw [rows_len], .inr ⟨g, c, pre.length, pre, cl', (lo, hi'), by rw [hlx], rfl, by rw [hlx]; exact hn, hc, by rw [hlen', hcl], ?_, by rw [List.length_append, hlen', ← List.length_append]; exact hfz, rfl⟩⟩
    rw [hlx, hcl', rows_append, rows_append, ← rows_take, ← rows_drop, ← ht, List.take_take, Nat.min_eq_left (by omega), List.drop_take]
    have e3 : (cl.take (i * F.sz) ++ rows F ys).length = (i + ys.length) * F.sz := by
      rw [List.length_append, List.length_take, hly]; omega
    rw [List.take_append, e3, List.take_of_length_le (by rw [e3]; exact h1)]
end
section
variable {P : Program} {w : World} {o : Oper} {f : Fr} {t e : TypeId} {x y : Operand} {A : Option Addr} {n c : Nat}
theorem equalIn_nil {d : Nat} {w : World} (hu : P.underlying t = some (.slice e)) : (Op.equalIn (d + 1) t (.slice A n c) (.slice none 0 0)).run P w = .ok A.isNone w := by
  cases A <;> simp [Op.equalIn, run_underlying hu]
theorem Run.eqlNil {t' : TypeId} (hu : P.underlying t = some (.slice e)) (ho : o.op = .binOp .eql t x y t') (hx : ev f x = some (.slice A n c)) (hy : ev f y = some (.slice none 0 0)) : Run P o f w (.value (.bool A.isNone)) w := fun ρ hρ => by
  have h1 : (binOp .eql t (.slice A n c) (.slice none 0 0)).run P w = .ok (.bool A.isNone) w := by
    simp only [binOp]
    simp [Op.equal, Op.maxDepth, equalIn_nil hu]
  simp [execOp, ho, hρ _ _ hx, hρ _ _ hy, eqGuard, h1]
theorem Run.neqNil {t' : TypeId} (hu : P.underlying t = some (.slice e)) (ho : o.op = .binOp .neq t x y t') (hx : ev f x = some (.slice A n c)) (hy : ev f y = some (.slice none 0 0)) : Run P o f w (.value (.bool (!A.isNone))) w := fun ρ hρ => by
  have h1 : (binOp .neq t (.slice A n c) (.slice none 0 0)).run P w = .ok (.bool (!A.isNone)) w := by
    simp only [binOp]
    simp [Op.equal, Op.maxDepth, equalIn_nil hu]
  simp [execOp, ho, hρ _ _ hx, hρ _ _ hy, eqGuard, h1]
theorem Run.makeFunc {fn : Fn} {caps : Array Operand} {vl : List Value} (ho : o.op = .makeFunc fn #[] caps) (hv : evs f caps.toList = some vl) : Run P o f w (.value (.func fn #[] vl.toArray)) w := fun ρ hρ => by
  have e : caps.map ρ = vl.toArray := by apply Array.toList_inj.1; rw [Array.toList_map, evs_map hρ hv]
  simp [execOp, ho, Instr.makeFunc, e]
theorem Run.capSl (hu : ∀ w, (underlying t).run P w = .ok (.slice e) w) (ho : o.op = .call { callee := .builtin .cap, args := #[x], argTypes := #[t] }) (hx : ev f x = some (.slice A n c)) : Run P o f w (.value (.int .i64 c)) w := fun ρ hρ => by
  simp [execOp, ho, hρ _ _ hx, resolve, invoke, builtin, Builtin.cap_, hu, goInt]
end
section
variable {P : Program} {n : Nat} {ol rest : List Oper} {o : Oper} {K : Fr → World → Prop} {f : Fr} {w0 w w' : World} {T : List Nat} {L : Hp} {d : Nat} {v : Value} {α : Type} {F : Enc α}
theorem WL.eff (hw : want ol o f = some true) (hd : o.dst = none) (hy : Run P o f w (.value v) w') (k : WL P n ol rest K f w') : WL P n ol (o :: rest) K f w := fun Q a ha hk => by
  unfold wpList
  rw [if_pos (want_eq ha hw)]
  refine .inl ?_
  unfold Oper.wp
  rw [hy a.eval fun x v hx => ha.ev hx]
  show wpList _ _ _ _ _ _
  rw [hd]
  exact k Q _ ha hk
theorem zeros_rows {z : Value} {k : Nat} (h : cellsOf z = F.enc F.dflt) : Builtin.zeroCells z.cells k = (rows F (List.replicate k F.dflt)).toArray := by
  apply Array.toList_inj.1
  have e0 : z.cells = (F.enc F.dflt).toArray := by rw [cellsOf_eq, h]
  have e1 := madeCells_list (F.enc F.dflt) k
  have e2 : (F.enc F.dflt).toArray.size = (F.enc F.dflt).length := by simp
  rw [rows, List.flatMap_def, List.map_replicate]
  show (Builtin.zeroCells z.cells k).toList = _
  rw [← e1, e0]
  simp [Builtin.zeroCells, madeCells]
/-- Sets the rest of a slice of ours to zero. -/
theorem WL.clearF {L1 R : Hp} {xs : List α} {A : Option Addr} {m c lo : Nat} {e t : TypeId} {z : Value} {x : Operand} (hst : St w0 T (L1 ++ R) w) (hown : OwnF F e (.slice A m c) xs L1) (ht : P.underlying t = some (.slice e)) (hzv : ∀ w, (zeroValue e).run P w = .ok z w) (hz : cellsOf z = F.enc F.dflt)
    (ho : o.op = .call { callee := .builtin .clear, args := #[x], argTypes := #[t] }) (hw : want ol o f = some true) (hd : o.dst = none) (hx : ev f x = some (.slice (cutA A lo F.sz c) (m - lo) (c - lo))) (hlo : lo ≤ m)
    (k : ∀ L1' w', St w0 T (L1' ++ R) w' → OwnF F e (.slice A m c) (xs.take lo ++ List.replicate (m - lo) F.dflt) L1' → L1'.map (·.1) = L1.map (·.1) → WL P n ol rest K f w') : WL P n ol (o :: rest) K f w := by
  have hl := hown.len_
  by_cases h0 : m - lo = 0
  · have e1 : xs.take lo = xs := List.take_of_length_le (by omega)
    refine WL.eff (w' := w) (v := .tuple #[]) hw hd (fun ρ hρ => ?_) (k L1 w hst (by rw [e1, h0]; simpa using hown) rfl)
    rw [h0] at hx
    simp [execOp, ho, hρ _ _ hx, resolve, invoke, builtin, Builtin.clear_, run_underlying ht]
    cases cutA A lo F.sz c <;> simp
  · obtain ⟨g, pre, cl, a, b, rfl, rfl, hfz, hle, hupd⟩ := hown.updR (i := lo) (ys := List.replicate (m - lo) F.dflt) (by omega) (by simp; omega)
    have hc := hown.cap
    have hpl : (pre ++ cl).length = pre.length + cl.length := List.length_append
    have hrl : (rows F (List.replicate (m - lo) F.dflt)).length = (m - lo) * F.sz := by rw [rows_len]; simp
    simp only [List.length_replicate] at hle hupd
    have e0 : (lo + (m - lo)) * F.sz = lo * F.sz + (m - lo) * F.sz := Nat.add_mul _ _ _
    obtain ⟨w', hr, hs'⟩ := hst.stored (P := P) 0 (off := pre.length + lo * F.sz) (vs := rows F (List.replicate (m - lo) F.dflt)) rfl rows_one (by rw [hrl]; omega) (by rcases hfz with h | h <;> omega)
    rw [splice_pre] at hs'
    have e2 : cutA (some ⟨g, pre.length, none⟩) lo F.sz c = some ⟨g, pre.length + lo * F.sz, none⟩ := by
      unfold cutA
      rw [if_neg (by omega)]
      simp only [Option.map_some, addr_at]
    rw [e2] at hx
    refine WL.eff (w' := w') (v := .tuple #[]) hw hd (fun ρ hρ => ?_) (k [(g, .cells (pre ++ (cl.take (lo * F.sz) ++ rows F (List.replicate (m - lo) F.dflt) ++ cl.drop (lo * F.sz + (rows F (List.replicate (m - lo) F.dflt)).length))).toArray e (a, b))] w' hs' ?_ rfl)
    · obtain ⟨q, hq⟩ : ∃ q, m - lo = q + 1 := ⟨m - lo - 1, by omega⟩
      rw [hq] at hx hr
      simp [execOp, ho, hρ _ _ hx, resolve, invoke, builtin, Builtin.clear_, run_underlying ht, hzv, zeros_rows hz, hr]
    · have := hupd _ (by rw [e0])
      rw [List.drop_of_length_le (i := lo + (m - lo)) (by omega), List.append_nil] at this
      rw [hrl]
      exact this
/-- Room for some elements, in a slice that was nil. -/
theorem WL.appendZ (m : Nat) (hst : St w0 T L w) {t tx e : TypeId} {i : TypeInfo} {z : Value} {x y : Operand} {q : Int} (ht : P.underlying t = some (.slice e)) (htx : P.underlying tx = some (.int .i64)) (hi : P.info? e = some i) (hz : i.zero = some z) (hs1 : Nat.beq i.size F.sz = true) (hs3 : Nat.beq (cellsOf z).length F.sz = true) (hs2 : Nat.ble i.bytes 512 = true)
    (ho : o.op = .call { callee := .builtin .append, args := #[x, y], argTypes := #[t, tx] }) (hw : want ol o f = some true) (hd : o.dst = some d) (hn : Nat.blt d n = true) (hx : ev f x = some (.slice none 0 0)) (hy : ev f y = some (.int .i64 q)) (hq : q = (m : Int)) (h0 : 0 < m) (hb : m ≤ 274877906944)
    (k : ∀ A c L1 w', m ≤ c → St w0 T (L1 ++ L) w' → OwnF F e (.slice A 0 c) [] L1 → WL P n ol rest K ((d, .slice A m c) :: f) w') : WL P n ol (o :: rest) K f w := by
  subst hq
  have hs1' := Nat.eq_of_beq_eq_true hs1
  have hs3' := Nat.eq_of_beq_eq_true hs3
  have hs2' := Nat.le_of_ble_eq_true hs2
  have hzs : z.cells.size = i.size := by rw [cellsOf_eq]; simp; omega
  have hge := grownCap_ge w m 0 e
  have hcm : grownCap w m 0 e ≤ maxLen := grownCap_le_maxLen w m 0 e (by simp only [maxLen]; omega)
  have hfit : Builtin.nextslicecap m 0 * i.bytes ≤ 281474976710656 := growslice_fits (by omega) (by
    have : m * i.bytes ≤ 274877906944 * 512 := Nat.mul_le_mul hb hs2'
    omega)
  have hr : (Builtin.append_ #[t, tx] o.type #[.slice none 0 0, .int .i64 m]).run P w = .ok (.slice (some ⟨w.heap.size, 0, none⟩) m (grownCap w m 0 e)) (w.drew.alloc (.cells (Builtin.zeroCells z.cells m ++ Builtin.zeroCells z.cells (grownCap w m 0 e - m)) e)) := by
    have e1 : IntKind.i64.wrap (m : Int) = m := wrap_in (by constructor <;> omega)
    have e2 : ¬ ((m : Int) < 0) := by omega
    have e3 : ¬ (281474976710656 < (m : Int) * (i.bytes : Int)) := by
      have : m * i.bytes ≤ 274877906944 * 512 := Nat.mul_le_mul hb hs2'
      have h2 : ((m * i.bytes : Nat) : Int) ≤ 281474976710656 := by omega
      rw [Int.natCast_mul] at h2
      omega
    have e4 : ¬ m = 0 := by omega
    have e5 : ¬ (281474976710656 < Builtin.nextslicecap m 0 * i.bytes) := by omega
    have e6 : ¬ (9223372036854775807 < (m : Int)) := by omega
    have hsz : ¬ i.size = 0 := by rw [hs1']; exact Nat.ne_of_gt F.pos
    have e7 : ¬ (m * i.size = 0) := fun h => by rcases Nat.mul_eq_zero.1 h with h | h <;> contradiction
    simp [Builtin.append_, run_underlying ht, run_underlying htx, sizeOf, typeInfo, zeroValue, hi, hz, asInt, asIntOf, e7, e1, e2, e3, e4, e5, e6, hsz, Question.forced, Builtin.firstCells, newRow, grownCap]
  refine WL.val (w' := _) hw hd hn (fun ρ hρ => ?_) (k (some ⟨w.heap.size, 0, none⟩) (grownCap w m 0 e) [(w.heap.size, .cells (Builtin.zeroCells z.cells m ++ Builtin.zeroCells z.cells (grownCap w m 0 e - m)).toList.toArray e (0, 0))] _ hge (hst.drew.alloc _) ?_)
  · simp [execOp, ho, hρ _ _ hx, hρ _ _ hy, resolve, invoke, builtin, hr]
    congr 1
    simp
  · refine ⟨by simp [rows], .inr ⟨w.heap.size, _, 0, [], (Builtin.zeroCells z.cells m ++ Builtin.zeroCells z.cells (grownCap w m 0 e - m)).toList, (0, 0), rfl, rfl, Nat.zero_le _, hcm, ?_, by simp [rows], .inl (Nat.le_refl _), rfl⟩⟩
    rw [Array.length_toList, Array.size_append, size_zeroCells, size_zeroCells, hzs, hs1', ← Nat.add_mul]
    congr 1
    omega
end
/-- A variable that another function holds. -/
theorem SlF.var {α : Type} {F : Enc α} {w : World} {a : Addr} {x : α} {v : Value} (h : SlF F w (some a) 1 [x]) (hv : (F.enc x)[0]? = some v) : w.cell? a = some v := by
  have := SlF.one1 (k := 0) h (by omega) (v := v) hv
  have e : (adr (some a)).add (0 * F.sz) = a := by
    rw [Nat.zero_mul]
    show a.add 0 = a
    unfold Addr.add
    split <;> simp_all
  rwa [e] at this
theorem SlF.own1 {α : Type} {F : Enc α} {w : World} {b : Nat} {x : α} {cl : List Value} {e : TypeId} {fz : Nat × Nat} (h : w.heap[b]? = some (.cells cl.toArray e fz)) (hx : cl = F.enc x := by rfl) : SlF F w (some ⟨b, 0, none⟩) 1 [x] := by
  subst hx
  refine ⟨rfl, SlR.block (off := 0) h ?_ ?_⟩
  · rw [List.drop_zero, Nat.one_mul, List.take_of_length_le (by rw [F.len]; exact Nat.le_refl _)]
    simp [rows]
  · rw [rows_len]; simp
theorem SlF.none_ {α : Type} {F : Enc α} {w : World} {n : Nat} {xs : List α} (h : SlF F w none n xs) : n = 0 := by
  rcases Nat.eq_zero_or_pos n with h0 | h0
  · exact h0
  · have := h.rd.some_ h0
    cases this
/-- A number that is natural. -/
theorem Run.asN {P : Program} {w w' : World} {o : Oper} {f : Fr} {k : IntKind} {z : Int} (n : Nat) (h : Run P o f w (.value (.int k z)) w') (hz : z = (n : Int)) : Run P o f w (.value (.int k (n : Int))) w' := hz ▸ h
/-- The head of a slice, as it lies in a cell. -/
structure HdrD where
  A : Option Addr
  n : Nat
  c : Nat
def encH : Enc HdrD := ⟨1, fun h => [.slice h.A h.n h.c], ⟨none, 0, 0⟩, fun _ => rfl, fun x v h => by simp at h; subst h; rfl, by decide⟩
end Go.Proofs.Ytlmcekfdlgkffaa
