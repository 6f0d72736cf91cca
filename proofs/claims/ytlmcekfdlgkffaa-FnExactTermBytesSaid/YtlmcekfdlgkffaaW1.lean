/-
  From the form's readings to what the walks are told.
-/
import Derived.Test.YtlmcekfdlgkffaaEB
import Derived.ProofKit
import Derived.OpenShut
import Derived.ShutString
import Derived.ChangeOld
import Derived.Deep.Slices
namespace Go.Proofs.Ytlmcekfdlgkffaa
open Go Go.RowKit Go.ChangeShapes Go.WideShapes Go.ChangeAt Go.Deep
set_option linter.unusedVariables false
set_option linter.unusedSimpArgs false

theorem list_succ {n : Nat} {l : List Value} (h : l.length = n + 1) : ∃ c r, l = c :: r ∧ r.length = n := by
  cases l with
  | nil => simp at h
  | cons c r => exact ⟨c, r, rfl, by simpa using h⟩
theorem list_zero {l : List Value} (h : l.length = 0) : l = [] := List.eq_nil_of_length_eq_zero h
section
variable {H : Type} {enc : TypeId × Value → H} {P : Program} {w : World} {base : Nat} {spare : Nat → Bool} {held : Bool} {fuel : Nat} {t e : TypeId} {cs : List Value} {x : DataW H × List MemPlace}
theorem trod_flds {fs : Array Field} (ht : P.underlying t = some (.struct fs)) (h : DataW.trod enc P w base spare held fuel t cs = some x) :
    cs.length = P.cellsOf t ∧ ∃ n, ∀ (i : Nat) (f : Field), fs.toList[i]? = some f → ∃ y, DataW.trod enc P w base spare held n f.type ((cs.drop f.offset).take (P.cellsOf f.type)) = some y := by
  obtain ⟨xs, n, _, _, hl, hlen, hg⟩ := DataW.trod_struct ht h
  refine ⟨hl, n, fun i f hf => ?_⟩
  have hf' : fs[i]? = some f := by simpa using hf
  have hi : i < xs.length := by rw [hlen]; exact (Array.getElem?_eq_some_iff.1 hf').1
  exact ⟨xs[i], (hg i f hf').trans (List.getElem?_eq_getElem hi)⟩
theorem open_i64 (ht : P.underlying t = some (.int .i64)) (h : DataW.trod enc P w base spare held fuel t cs = some x) : ∃ n, cs = [i64 n] ∧ In64 n := by
  obtain ⟨n, rfl, _, hw⟩ := DataW.trod_int ht h
  refine ⟨n, rfl, ?_⟩
  simp [Lit.wf, IntKind.min, IntKind.max, IntKind.signed, IntKind.bits] at hw
  exact hw
theorem open_str (ht : P.underlying t = some .string) (h : DataW.trod enc P w base spare held fuel t cs = some x) : ∃ s, cs = [.string s] ∧ s.size ≤ 9223372036854775807 := by
  obtain ⟨s, rfl, _, hw⟩ := DataW.trod_string ht h
  exact ⟨s, rfl, by simpa [maxLen] using hw⟩
theorem open_bool' (ht : P.underlying t = some .bool) (h : DataW.trod enc P w base spare held fuel t cs = some x) : ∃ b, cs = [.bool b] := by
  obtain ⟨b, rfl, _⟩ := DataW.trod_bool ht h
  exact ⟨b, rfl⟩
theorem open_SlB (ht : P.underlying t = some (.slice e)) (he : P.underlying e = some (.int .u8)) (hc : P.cellsOf e = 1) (h : DataW.trod enc P w base spare held fuel t cs = some x) :
    ∃ A n c xs, cs = [.slice A n c] ∧ SlB w A n xs ∧ n ≤ 9223372036854775807 := by
  rcases open_ints ht he hc h with ⟨rfl, _⟩ | ⟨a, l, c, zs, rfl, _, hl, hm, hz, _, hcell, hwz⟩
  · exact ⟨none, 0, 0, [], rfl, ⟨rfl, SlR.nil _ _ _⟩, by omega⟩
  · have hlz : l ≤ zs.length := by rw [hz]; split <;> omega
    refine ⟨some a, l, c, (zs.take l).map (fun z => UInt8.ofNat z.toNat), rfl, ⟨by simp; omega, ⟨by rw [rows_len]; simp [encB]; omega, fun _ => rfl, fun j v hv => ?_⟩⟩, by simp only [maxLen] at hm; omega⟩
    have hj : j < l := by
      have := (List.getElem?_eq_some_iff.1 hv).1
      simp [bytesV_len] at this; omega
    have hc1 := hcell j (by omega)
    have hw := hwz (zs.getD j 0) (by rw [List.getD_eq_getElem?_getD, List.getElem?_eq_getElem (show j < zs.length by omega)]; exact List.getElem_mem _)
    simp [Lit.wf, IntKind.min, IntKind.max, IntKind.signed, IntKind.bits] at hw
    show w.cell? (a.add j) = some v
    rw [hc1, ← hv]
    have hlt : j < zs.length := by omega
    have e1 : zs.getD j 0 = zs[j] := by rw [List.getD_eq_getElem?_getD, List.getElem?_eq_getElem hlt]; rfl
    rw [e1]
    simp only [List.getElem?_eq_getElem hlt, Option.getD_some] at hw
    simp [bytesV_map, hj, List.getElem?_eq_getElem hlt, UInt8.toNat_ofNat']
    omega
theorem open_SlI (ht : P.underlying t = some (.slice e)) (he : P.underlying e = some (.int .i64)) (hc : P.cellsOf e = 1) (h : DataW.trod enc P w base spare held fuel t cs = some x) :
    ∃ A n c xs, cs = [.slice A n c] ∧ SlI w A n xs ∧ n ≤ 9223372036854775807 ∧ ∀ z, z ∈ xs → In64 z := by
  rcases open_ints ht he hc h with ⟨rfl, _⟩ | ⟨a, l, c, zs, rfl, _, hl, hm, hz, _, hcell, hwz⟩
  · exact ⟨none, 0, 0, [], rfl, ⟨rfl, SlR.nil _ _ _⟩, by omega, fun z h => by cases h⟩
  · have hlz : l ≤ zs.length := by rw [hz]; split <;> omega
    refine ⟨some a, l, c, zs.take l, rfl, ⟨by simp; omega, ⟨by rw [rows_len]; simp [encI]; omega, fun _ => rfl, fun j v hv => ?_⟩⟩, by simp only [maxLen] at hm; omega, fun z hz => ?_⟩
    · have hj : j < l := by
        have := (List.getElem?_eq_some_iff.1 hv).1
        simp [intsV_len] at this; omega
      have hc1 := hcell j (by omega)
      show w.cell? (a.add j) = some v
      rw [hc1, ← hv]
      simp [intsV_map, hj, List.getElem?_eq_getElem (show j < zs.length by omega)]
    · have hw := hwz z (List.mem_of_mem_take hz)
      simp [Lit.wf, IntKind.min, IntKind.max, IntKind.signed, IntKind.bits] at hw
      exact hw
theorem open_SlF {α : Type} {F : Enc α} {good : α → Prop} (ht : P.underlying t = some (.slice e)) (hc : P.cellsOf e = F.sz)
    (hE : ∀ n cs' y, DataW.trod enc P w base spare held n e cs' = some y → ∃ d, cs' = F.enc d ∧ good d) (h : DataW.trod enc P w base spare held fuel t cs = some x) :
    ∃ A n c xs, cs = [.slice A n c] ∧ SlF F w A n xs ∧ n ≤ 9223372036854775807 ∧ ∀ d, d ∈ xs → good d := by
  rcases open_slice ht h with ⟨rfl, _⟩ | ⟨a, l, c, m, n, D, Pl, rfl, _, hl, hm, hmm, _, hx⟩
  · exact ⟨none, 0, 0, [], rfl, ⟨rfl, SlR.nil _ _ _⟩, by omega, fun z h => by cases h⟩
  · have hlm : l ≤ m := by rw [hmm]; split <;> omega
    have : Inhabited α := ⟨F.dflt⟩
    have each : ∀ i, i < l → ∃ d : α, good d ∧ ∀ r, r < F.sz → w.cell? (a.add (i * F.sz + r)) = (F.enc d)[r]? := by
      intro i hi
      obtain ⟨cs', h1, h2⟩ := hx i (by omega)
      obtain ⟨d, rfl, hg⟩ := hE _ _ _ h2
      obtain ⟨_, _, h3⟩ := World.cells?_some h1
      refine ⟨d, hg, fun r hr => ?_⟩
      have := h3 r (by rw [hc]; exact hr)
      rw [← this, hc]
      congr 1
      rw [Addr.add_add']
    obtain ⟨d, hd⟩ := choose_lt each
    have hlen : ((List.range l).map d).length = l := by simp
    refine ⟨some a, l, c, (List.range l).map d, rfl, ⟨hlen, ⟨by rw [rows_len, hlen], fun _ => rfl, fun j v hv => ?_⟩⟩, by simp only [maxLen] at hm; omega, fun z hz => ?_⟩
    · have hj := (List.getElem?_eq_some_iff.1 hv).1
      rw [rows_len, hlen] at hj
      have hp := F.pos
      have hi : j / F.sz < l := Nat.div_lt_of_lt_mul (by rw [Nat.mul_comm]; exact hj)
      have hr : j % F.sz < F.sz := Nat.mod_lt _ hp
      have ej : j / F.sz * F.sz + j % F.sz = j := by rw [Nat.mul_comm]; exact Nat.div_add_mod _ _
      have e1 := (hd (j / F.sz) hi).2 (j % F.sz) hr
      rw [ej] at e1
      show w.cell? (a.add j) = some v
      rw [e1, ← hv]
      have e2 := rows_get (F := F) (xs := (List.range l).map d) (k := j / F.sz) (by rw [hlen]; exact hi) hr
      rw [ej] at e2
      rw [e2]
      have e3 : gat F ((List.range l).map d) (j / F.sz) = d (j / F.sz) := by
        have := gat_get (F := F) (xs := (List.range l).map d) (k := j / F.sz) (by rw [hlen]; exact hi)
        rw [List.getElem?_map, List.getElem?_range hi] at this
        exact (Option.some.inj this).symm
      rw [e3]
    · obtain ⟨i, hi, rfl⟩ := List.mem_map.1 hz
      exact (hd i (by simpa using hi)).1
theorem open_u8 (ht : P.underlying t = some (.int .u8)) (h : DataW.trod enc P w base spare held fuel t cs = some x) : ∃ b : UInt8, cs = encB.enc b ∧ True := by
  obtain ⟨n, rfl, _, hw⟩ := DataW.trod_int ht h
  simp [Lit.wf, IntKind.min, IntKind.max, IntKind.signed, IntKind.bits] at hw
  refine ⟨UInt8.ofNat n.toNat, ?_, trivial⟩
  show [Value.int .u8 n] = [Value.int .u8 (UInt8.ofNat n.toNat).toNat]
  congr 2
  rw [UInt8.toNat_ofNat']
  omega
theorem open_e64 (ht : P.underlying t = some (.int .i64)) (h : DataW.trod enc P w base spare held fuel t cs = some x) : ∃ n : Int, cs = encI.enc n ∧ In64 n := open_i64 ht h
theorem open_SlE {α : Type} {F : Enc α} {good : α → Prop} (ht : P.underlying t = some (.slice e)) (hc : P.cellsOf e = F.sz)
    (hE : ∀ n cs' y, DataW.trod enc P w base spare held n e cs' = some y → ∃ d, cs' = F.enc d ∧ good d) (h : DataW.trod enc P w base spare held fuel t cs = some x) :
    ∃ A n c xs, cs = [.slice A n c] ∧ SlF F w A n xs ∧ n ≤ c ∧ n ≤ 9223372036854775807 ∧ ∀ d, d ∈ xs → good d := by
  obtain ⟨A, n, c, xs, e1, f, hn, hg⟩ := open_SlF ht hc hE h
  refine ⟨A, n, c, xs, e1, f, ?_, hn, hg⟩
  rcases open_slice ht h with ⟨e2, _⟩ | ⟨a, l, c', m, n', D, Pl, e2, _, hl, _⟩
  · rw [e1] at e2
    cases e2
    exact Nat.le_refl _
  · rw [e1] at e2
    cases e2
    exact hl
end
end Go.Proofs.Ytlmcekfdlgkffaa
