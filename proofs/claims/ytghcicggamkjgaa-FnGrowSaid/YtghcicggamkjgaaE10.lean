/-
  The engine, part 10: a sort of a slice of ours, by the library's contract.
-/
import Derived.Test.YtghcicggamkjgaaE9
import Derived.Sort.Grow
import Derived.Shelf.Sort.Plain
namespace Go.Proofs.Ytghcicggamkjgaa
open Go Go.RowKit Go.Sort
set_option linter.unusedVariables false
set_option linter.unusedSimpArgs false

theorem mapBlock_get {w : World} {b : Nat} {f : Array Value → Array Value} {k : Nat} : (mapBlock w b f).heap[k]? = if k = b then (w.heap[k]?).map (onCells f) else w.heap[k]? := by
  unfold mapBlock
  simp only [Array.getElem?_modify]
  by_cases h : b = k
  · subst h; simp
  · rw [if_neg h, if_neg (fun e => h e.symm)]
theorem rows_int (l : List Int) : rows encI l = l.map (Value.int .i64) := by
  induction l with
  | nil => rfl
  | cons x r ih => rw [rows_cons, ih]; rfl
theorem putCells_row {cl : List Value} {zs : List Int} (h : zs.length ≤ cl.length) : putCells (Value.int .i64) 0 zs.toArray cl.toArray = (rows encI zs ++ cl.drop zs.length).toArray := by
  apply Array.toList_inj.1
  rw [rows_int]
  apply List.ext_getElem?
  intro k
  simp only [putCells, Array.toList_mapIdx, List.getElem?_mapIdx, List.getElem?_append, List.length_map, List.getElem?_drop, List.size_toArray]
  by_cases hk : k < zs.length
  · have hk' : k < cl.length := by omega
    simp [hk, List.getElem?_eq_getElem hk', List.getElem?_eq_getElem hk]
  · have e : zs.length + (k - zs.length) = k := by omega
    simp [hk, e]
/-- A sort of what is ours. -/
theorem sort_own {P : Program} {g3 : TypeId} {fid : FuncId} {v : Value} {xs : List Int} {L : Hp} {w : World} {srt : List Int → List Int} (hperm : ∀ l, (srt l).length = l.length)
    (hs : ∀ (blk off cap : Nat) (zs : List Int) (w : World), Holds (Value.int .i64) w blk off zs.toArray → blk < w.heap.size → zs.length < 4611686018427387904 →
      Calls P fid #[.slice (some ⟨blk, off, none⟩) zs.length cap] w fun e w' => e = .returned (.tuple #[]) ∧ ∃ n os, w' = grow (putRow (Value.int .i64) (Sort.ahead w n) blk off (srt zs).toArray) os)
    (hn : ∀ (p : Option Addr) (cap : Nat) (w : World), Calls P fid #[.slice p 0 cap] w fun e w' => e = .returned (.tuple #[]) ∧ w' = w)
    (h : OwnF encI g3 v xs L) (hh : ∀ p, p ∈ L → w.heap[p.1]? = some p.2) (hx : xs.length ≤ 268435456) :
    Calls P fid #[v] w fun e w' => ∃ L1, e = .returned (.tuple #[]) ∧ St w (L.map (·.1)) L1 w' ∧ OwnF encI g3 v (srt xs) L1 := by
  have hkeys := h.keys
  by_cases h0 : xs.length = 0
  · obtain ⟨A, c, rfl⟩ := h.shape
    have e : xs = [] := List.eq_nil_of_length_eq_zero h0
    have e2 : srt xs = [] := List.eq_nil_of_length_eq_zero (by rw [hperm]; exact h0)
    rw [h0]
    refine (hn A c w).mono fun e' w' ⟨he, hw⟩ => ?_
    subst hw
    refine ⟨L, he, St.take _ L hh hkeys, ?_⟩
    rw [e2]
    have := h
    rw [h0, e] at this
    exact this
  · rcases h.2 with ⟨⟨A', hv⟩, h0', rfl⟩ | ⟨g, cap, cl, ⟨lo, hi⟩, hv, rfl, hcap, hcm, hcl, ht, hfz⟩
    · omega
    · subst hv
      have hg := hh _ List.mem_cons_self
      simp only at hg
      have hsz : encI.sz = 1 := rfl
      simp only [hsz, Nat.mul_one] at hcl ht
      have hget : ∀ j (hj : j < xs.length), cl[j]? = some (Value.int .i64 xs[j]) := by
        intro j hj
        have : (cl.take xs.length)[j]? = (rows encI xs)[j]? := by rw [ht]
        rw [List.getElem?_take, if_pos hj] at this
        rw [this, rows_int]
        simp [List.getElem?_eq_getElem hj]
      have hold : Holds (Value.int .i64) w g 0 xs.toArray := by
        intro j hj
        have hj' : j < xs.length := by simpa using hj
        refine ⟨?_, ?_⟩
        · rw [Nat.zero_add]
          refine cell_of_heap hg ?_
          rw [hget j hj']
          simp [hj']
        · simp only [World.frozen?, hg, Nat.zero_add]
          rcases hfz with h | h
          · simp; omega
          · simp; omega
      refine (hs g 0 cap xs w hold (lt_of_heap hg) (by omega)).mono fun e' w' ⟨he, n, os, hw⟩ => ?_
      have hget' : ∀ k, k < w.heap.size → w'.heap[k]? = (mapBlock (Sort.ahead w n) g (putCells (Value.int .i64) 0 (srt xs).toArray)).heap[k]? := by
        intro k hk
        rw [hw]
        show ((mapBlock (Sort.ahead w n) g (putCells (Value.int .i64) 0 (srt xs).toArray)).heap ++ os)[k]? = _
        rw [Array.getElem?_append_left]
        unfold mapBlock
        simpa using hk
      have hsize : w.heap.size ≤ w'.heap.size := by
        rw [hw]
        show _ ≤ ((mapBlock (Sort.ahead w n) g (putCells (Value.int .i64) 0 (srt xs).toArray)).heap ++ os).size
        unfold mapBlock
        simp [Sort.ahead]
      have hlen := hperm xs
      have hnew : w'.heap[g]? = some (.cells (rows encI (srt xs) ++ cl.drop (srt xs).length).toArray g3 (lo, hi)) := by
        rw [hget' g (lt_of_heap hg), mapBlock_get, if_pos rfl]
        show (w.heap[g]?).map _ = _
        rw [hg]
        simp only [Option.map_some, onCells]
        rw [putCells_row (by omega)]
      refine ⟨[(g, .cells (rows encI (srt xs) ++ cl.drop (srt xs).length).toArray g3 (lo, hi))], he, ⟨by rw [hw]; rfl, by rw [hw]; rfl, by rw [hw]; rfl, hsize, fun k hk hT => ?_, fun p hp => ?_, by simp⟩, ?_⟩
      · rw [hget' k hk, mapBlock_get, if_neg (by intro e; apply hT; simp [e])]
        rfl
      · simp at hp
        subst hp
        exact ⟨hnew, .inr (by simp)⟩
      · refine ⟨by rw [rows_len], .inr ⟨g, cap, _, (lo, hi), by rw [hlen], rfl, by rw [hlen]; exact hcap, hcm, ?_, ?_, ?_⟩⟩
        · rw [List.length_append, rows_len, List.length_drop, hlen, hsz]; omega
        · rw [hsz, Nat.mul_one, List.take_append_of_le_length (by rw [rows_len, hsz]; omega), List.take_of_length_le (by rw [rows_len, hsz]; omega)]
        · rcases hfz with h | h
          · exact .inl h
          · refine .inr ?_
            simp only [List.length_append, rows_len, List.length_drop, hlen, hsz]; omega
end Go.Proofs.Ytghcicggamkjgaa
