/-
  What the proof stands on, part 1.
-/
import Derived.WalkKit
import Derived.BigQuiet
import Derived.OrdersHeld
import Derived.Deep.RegionHeld3
import Derived.Maps.AppendAt
import Derived.Deep.AppendSrc
import Derived.Laws.IdiomStrings
import Derived.Laws.StructEq
import Derived.Laws.Tables
import Derived.Test.YtcpnlodkmkfplaaGreatDoorProg
import Derived.MapKept
import Derived.Lib.Bytealg
import Derived.Shelf.Slices.Empties
import Derived.Shelf.Spec.SlicesInsertGrow
import Derived.Lib.AppendZerosOnto
import Derived.Lib.Overlaps
import Derived.Sort.Grow
import Derived.Shelf.Sort.Plain
import Derived.Shelf.Small.Bits
import Derived.Shelf.Small.Strs
import Derived.Shelf.Small.Wraps
import Derived.Shelf.Strconv.Itoa0
import Derived.Shelf.Strconv.Itoa1
import Derived.Shelf.LaysM
import Derived.Shelf.Strconv.Itoa2
import Derived.Shelf.Strconv.Itoa3
import Derived.Shelf.Strings.Search1
import Derived.Shelf.Strings.Search2
import Derived.Shelf.Strings.Cut
import Derived.Shelf.Strings.Shaped
import Derived.Shelf.Strings.Prefix
import Derived.Ground.Names2Prog
import Derived.Shelf.Slices.SearchI
import Derived.Shelf.Slices.In.SortNone
import Derived.Lib.ItoaNum
import Derived.Lib.ItoaMem
import Derived.Lib.ItoaLen
import Derived.Lib.AtoiTie
import Derived.Lib.CutLaws
import Derived.Shelf.Strconv.Atoi
import Derived.Shelf.Strconv.AtoiErrFast
import Derived.Shelf.Strconv.ParseIntEmpty
import Derived.Shelf.Strconv.AtoiFail
import Derived.Shelf.Strconv.Clone
import Derived.Shelf.Strconv.SyntaxError
import Derived.Shelf.LaysC
import Derived.Shelf.Strconv.ToError
import Derived.Shelf.Strconv.Lower
import Derived.Shelf.Strconv.ParseUint10
import Derived.Shelf.Strconv.ParseUint10Empty
import Derived.Shelf.Strconv.ParseUint10Any
import Derived.Shelf.Strconv.ParseInt10
import Derived.Shelf.Strconv.AtoiLong
import Derived.Shelf.Strconv.AtoiInnerAll
import Derived.Shelf.Strconv.RangeError
import Derived.Shelf.Strconv.ToErrorRange
import Derived.Shelf.Strconv.AtoiAll
import Derived.Shelf.Strconv.ParseUintEmpty
import Derived.Shelf.Strconv.ParseUint10b64
import Derived.Shelf.Strconv.ParseUint10b32
import Derived.Shelf.Strconv.ParseUint10b16
import Derived.Shelf.Strconv.ParseUint10b8
import Derived.ProofKit
import Derived.OpenShut
import Derived.ShutString
import Derived.ChangeOld
import Derived.Deep.Slices
import Derived.Test.YtcpnlodkmkfplaaGreatDoorRows
import Derived.Test.YtcpnlodkmkfplaaGreatDoorCards
import Derived.Test.YtcpnlodkmkfplaaGreatDoorTie
import Derived.SevenTiedAt
import Derived.LaidMore
import Derived.Stop.Joined
import Derived.Lib.LaidTab
import Derived.LaidLaws
import Derived.Handed
namespace Go.Proofs.YtcpnlodkmkfplaaGreatDoor
open Go Go.RowKit
set_option linter.unusedVariables false
set_option linter.unusedSimpArgs false
abbrev Fr := List (Nat × Value)
def lk : Fr → Nat → Option Value
 | [], _ => none
 | (j, v) :: r, i => bif Nat.beq j i then some v else lk r i
def ev (f : Fr) : Operand → Option Value
 | .tmp t => lk f t
 | .const v => some v
 | .global g => some (.pointer (some { block := g, off := 0 }))
 | .func g => some (.func (.func g) #[] #[])
structure Good (a : Act) (n : Nat) (f : Fr) : Prop where
 size : a.tmps.size = n
 defers : a.defers = []
 at_ : ∀ i v, lk f i = some v → a.tmps.getD i undef = v
theorem Good.ev {a : Act} {n : Nat} {f : Fr} (h : Good a n f) {x : Operand} {v : Value} (hx : ev f x = some v) : a.eval x = v := by
 cases x with
 | tmp t => exact h.at_ t v hx
 | const c => exact Option.some.inj hx
 | global g => exact Option.some.inj hx
 | func g => exact Option.some.inj hx
theorem Good.put {a : Act} {n : Nat} {f : Fr} (h : Good a n f) {d : Nat} (hd : Nat.blt d n = true) (v : Value) : Good (a.put (some d) v) n ((d, v) :: f) := by
 have hd' : d < a.tmps.size := by rw [h.size]; exact Nat.le_of_ble_eq_true hd
 refine ⟨by simpa [Act.put] using h.size, by simpa [Act.put] using h.defers, fun i u hu => ?_⟩
 unfold lk at hu
 by_cases hdi : d = i
 ·subst hdi
  simp at hu
  subst hu
  simp [Act.put, Array.getD, hd']
 ·have : Nat.beq d i = false := by
   cases hb : Nat.beq d i with
   | true => exact absurd (Nat.eq_of_beq_eq_true hb) hdi
   | false => rfl
  rw [this] at hu
  have := h.at_ i u hu
  rw [← this]
  simp only [Act.put, Array.getD_eq_getD_getElem?, Array.getElem?_setIfInBounds, hdi, if_false]
def Sub : Fr → Fr → Prop
 | [], _ => True
 | (i, v) :: r, f => lk f i = some v ∧ Sub r f
theorem lk_sub {F f : Fr} (h : Sub F f) {i : Nat} {v : Value} (hi : lk F i = some v) : lk f i = some v := by
 induction F with
 | nil => simp [lk] at hi
 | cons p r ih =>
  obtain ⟨j, u⟩ := p
  unfold lk at hi
  cases hb : Nat.beq j i with
  | true =>
   rw [hb] at hi
   simp at hi
   subst hi
   rw [← Nat.eq_of_beq_eq_true hb]
   exact h.1
  | false =>
   rw [hb] at hi
   exact ih h.2 hi
theorem Good.sub {a : Act} {n : Nat} {F f : Fr} (h : Good a n f) (hs : Sub F f) : Good a n F :=
 ⟨h.size, h.defers, fun i v hv => h.at_ i v (lk_sub hs hv)⟩
theorem exists_least {p : Nat → Prop} (h : ∃ k, p k) : ∃ k, p k ∧ ∀ j, p j → k ≤ j := by
 obtain ⟨k, hk⟩ := h
 induction k using Nat.strongRecOn with
 | ind k ih =>
  by_cases hl : ∃ j, j < k ∧ p j
  ·obtain ⟨j, hj, hp⟩ := hl
   exact ih j hj hp
  ·exact ⟨k, hk, fun j hj => Nat.le_of_not_lt fun hlt => hl ⟨j, hlt, hj⟩⟩
noncomputable def leastOf (p : Nat → Prop) : Nat := Classical.epsilon fun k => p k ∧ ∀ j, p j → k ≤ j
theorem leastOf_spec {p : Nat → Prop} (h : ∃ k, p k) : p (leastOf p) ∧ ∀ j, p j → leastOf p ≤ j := Classical.epsilon_spec (exists_least h)
abbrev Kont := Exit → Fr → World → Prop
def qa (n : Nat) (Q : Kont) : Exit → Act → World → Prop := fun e a w => ∃ f, Good a n f ∧ Q e f w
def WC (P : Program) (n : Nat) (c : Code) (Q : Kont) (f : Fr) (w : World) : Prop := ∀ a, Good a n f → c.wp P (qa n Q) a w
def thenK (K : Fr → World → Prop) (Q : Kont) : Kont
 | .normal, f, w => K f w
 | e, f, w => Q e f w
def inB (id : Nat) (Q : Kont) : Kont
 | .exit i, f, w => bif Nat.beq i id then Q .normal f w else Q (.exit i) f w
 | e, f, w => Q e f w
section
variable {K : Fr → World → Prop} {Q : Kont} {f : Fr} {w : World}
theorem tkN (h : K f w) : thenK K Q .normal f w := h
theorem tkR (h : Q .ret f w) : thenK K Q .ret f w := h
theorem ibN {id : Nat} (h : Q .normal f w) : inB id Q .normal f w := h
theorem ibR {id : Nat} (h : Q .ret f w) : inB id Q .ret f w := h
end
section
variable {P : Program} {n : Nat} {Q : Kont} {f : Fr} {w : World}
theorem WC.mono {c : Code} {Q' : Kont} (h : WC P n c Q f w) (hq : ∀ e f w, Q e f w → Q' e f w) : WC P n c Q' f w := fun a ha =>
 Code.wp_mono (fun _ _ _ ⟨f', hg, hh⟩ => ⟨f', hg, hq _ _ _ hh⟩) (h a ha)
theorem WC.sub {c : Code} (F : Fr) (hs : Sub F f) (h : WC P n c Q F w) : WC P n c Q f w := fun a ha => h a (ha.sub hs)
theorem WC.seq {x y : Code} (h : ∀ K : Fr → World → Prop, (∀ f w, WC P n y Q f w → K f w) → WC P n x (thenK K Q) f w) : WC P n (.seq x y) Q f w := fun a ha => by
 apply wp_seq_k
 intro K' hK'
 refine Code.wp_mono ?_ (h (fun f w => ∀ a, Good a n f → K' a w) (fun f w hy a ha => hK' _ _ (hy a ha)) a ha)
 rintro e a w ⟨f', hg, hq⟩
 cases e
 case normal => exact hq a hg
 all_goals exact ⟨f', hg, hq⟩
theorem WC.block {id : Nat} {c : Code} (h : WC P n c (inB id Q) f w) : WC P n (.block id c) Q f w := fun a ha => by
 apply wp_block
 refine Code.wp_mono ?_ (h a ha)
 rintro e a w ⟨f', hg, hq⟩
 cases e
 case exit i =>
  by_cases hi : i = id
  ·subst hi
   simp only [Exit.inBlock, if_true]
   refine ⟨f', hg, ?_⟩
   simpa [inB] using hq
  ·simp only [Exit.inBlock, hi, if_false]
   refine ⟨f', hg, ?_⟩
   have : Nat.beq i id = false := by
    cases hb : Nat.beq i id with
    | true => exact absurd (Nat.eq_of_beq_eq_true hb) hi
    | false => rfl
   simpa [inB, this] using hq
 all_goals exact ⟨f', hg, hq⟩
theorem WC.skip (h : Q .normal f w) : WC P n .skip Q f w := fun _ ha => wp_skip ⟨f, ha, h⟩
theorem WC.exit {id : Nat} (h : Q (.exit id) f w) : WC P n (.exit id) Q f w := fun _ ha => wp_exit ⟨f, ha, h⟩
theorem WC.ret (h : Q .ret f w) : WC P n .ret Q f w := fun _ ha => wp_ret ⟨f, ha, h⟩
theorem WC.cond {c : Operand} {x y : Code} {t : Bool} (hc : ev f c = some (.bool t)) (hx : t = true → WC P n x Q f w) (hy : t = false → WC P n y Q f w) : WC P n (.cond c x y) Q f w := fun a ha =>
 wp_cond_split (ha.ev hc) (fun h => hx h a ha) (fun h => hy h a ha)
theorem WC.condT {c : Operand} {x y : Code} {t : Bool} (hc : ev f c = some (.bool t)) (ht : t = true) (hx : WC P n x Q f w) : WC P n (.cond c x y) Q f w :=
 WC.cond hc (fun _ => hx) (fun h => by rw [ht] at h; cases h)
theorem WC.condF {c : Operand} {x y : Code} {t : Bool} (hc : ev f c = some (.bool t)) (ht : t = false) (hx : WC P n y Q f w) : WC P n (.cond c x y) Q f w :=
 WC.cond hc (fun h => by rw [ht] at h; cases h) (fun _ => hx)
theorem WC.loopN {c : Code} (I : Nat → Fr → World → Prop) : ∀ k, I k f w → (∀ k f w, I k f w → WC P n c (thenK (fun f' w' => ∃ k', k' < k ∧ I k' f' w') Q) f w) → WC P n (.loop c) Q f w := fun k0 h0 hr a ha => by
 refine wp_loop (fun a w => ∃ k, ∃ f, Good a n f ∧ I k f w) (fun a w => leastOf fun k => ∃ f, Good a n f ∧ I k f w) ⟨k0, f, ha, h0⟩ ?_
 intro a w hI
 obtain ⟨⟨f, hg, hi⟩, -⟩ := leastOf_spec hI
 refine Code.wp_mono ?_ (hr _ f w hi a hg)
 rintro e a' w' ⟨f', hg', hq⟩
 cases e
 case normal =>
  obtain ⟨k', hlt, hi'⟩ := hq
  refine ⟨⟨k', f', hg', hi'⟩, Nat.lt_of_le_of_lt ((leastOf_spec (p := fun k => ∃ f, Good a' n f ∧ I k f w') ⟨k', f', hg', hi'⟩).2 k' ⟨f', hg', hi'⟩) hlt⟩
 all_goals exact ⟨f', hg', hq⟩
end
abbrev Hp := List (Nat × Obj)
structure St (w0 : World) (T : List Nat) (L : Hp) (w : World) : Prop where
 os : w.os = w0.os
 tape : w.tape = w0.tape
 output : w.output = w0.output
 size : w0.heap.size ≤ w.heap.size
 keep : ∀ k, k < w0.heap.size → k ∉ T → w.heap[k]? = w0.heap[k]?
 own : ∀ p, p ∈ L → w.heap[p.1]? = some p.2 ∧ (w0.heap.size ≤ p.1 ∨ p.1 ∈ T)
 nodup : (L.map (·.1)).Nodup
theorem lt_of_heap {w : World} {b : Nat} {o : Obj} (h : w.heap[b]? = some o) : b < w.heap.size := (Array.getElem?_eq_some_iff.1 h).1
section
variable {w0 w w' : World} {T : List Nat} {L : Hp}
theorem St.init (w : World) : St w [] [] w := ⟨rfl, rfl, rfl, Nat.le_refl _, fun _ _ _ => rfl, (fun _ h => (by cases h)), List.nodup_nil⟩
theorem St.take (w : World) (L : Hp) (ho : ∀ p, p ∈ L → w.heap[p.1]? = some p.2) (hn : (L.map (·.1)).Nodup) : St w (L.map (·.1)) L w :=
 ⟨rfl, rfl, rfl, Nat.le_refl _, fun _ _ _ => rfl, fun p h => ⟨ho p h, .inr (List.mem_map_of_mem h)⟩, hn⟩
theorem St.drew (h : St w0 T L w) : St w0 T L { heap := w.heap, tape := w.tape, drawn := w.drawn + 1, os := w.os, output := w.output } := ⟨h.os, h.tape, h.output, h.size, h.keep, h.own, h.nodup⟩
theorem St.alloc (h : St w0 T L w) (o : Obj) : St w0 T ((w.heap.size, o) :: L) (w.alloc o) := by
 have hlt : ∀ p, p ∈ L → p.1 < w.heap.size := fun p hp => lt_of_heap (h.own p hp).1
 refine ⟨h.os, h.tape, h.output, Nat.le_trans h.size (by show _ ≤ (w.heap.push o).size; simp), fun k hk hT => ?_, fun p hp => ?_, ?_⟩
 ·exact (Below.heap_alloc w o k (Nat.lt_of_lt_of_le hk h.size)).trans (h.keep k hk hT)
 ·rcases List.mem_cons.1 hp with rfl | hp
  ·exact ⟨by show (w.heap.push o)[w.heap.size]? = _; simp, .inl h.size⟩
  ·exact ⟨(Below.heap_alloc w o p.1 (hlt p hp)).trans (h.own p hp).1, (h.own p hp).2⟩
 ·simp only [List.map_cons, List.nodup_cons]
  refine ⟨fun hm => ?_, h.nodup⟩
  obtain ⟨p, hp, e⟩ := List.mem_map.1 hm
  have := hlt p hp
  omega
theorem St.callF {L1 : Hp} (h : St w0 T L w) (k : St w [] L1 w') : St w0 T (L1 ++ L) w' := by
 have hlt : ∀ p, p ∈ L → p.1 < w.heap.size := fun p hp => lt_of_heap (h.own p hp).1
 have hge : ∀ p, p ∈ L1 → w.heap.size ≤ p.1 := fun p hp => (k.own p hp).2.elim id (fun h => by cases h)
 refine ⟨k.os.trans h.os, k.tape.trans h.tape, k.output.trans h.output, Nat.le_trans h.size k.size, fun i hi hT => ?_, fun p hp => ?_, ?_⟩
 ·exact (k.keep i (Nat.lt_of_lt_of_le hi h.size) (by simp)).trans (h.keep i hi hT)
 ·rcases List.mem_append.1 hp with hp | hp
  ·exact ⟨(k.own p hp).1, .inl (Nat.le_trans h.size (hge p hp))⟩
  ·exact ⟨(k.keep p.1 (hlt p hp) (by simp)).trans (h.own p hp).1, (h.own p hp).2⟩
 ·rw [List.map_append, List.nodup_append]
  refine ⟨k.nodup, h.nodup, fun a ha b hb e => ?_⟩
  obtain ⟨p, hp, rfl⟩ := List.mem_map.1 ha
  obtain ⟨q, hq, rfl⟩ := List.mem_map.1 hb
  have := hlt q hq
  have := hge p hp
  omega
theorem St.perm {L' : Hp} (h : St w0 T L w) (hp : L'.Perm L) : St w0 T L' w :=
 ⟨h.os, h.tape, h.output, h.size, h.keep, fun p hm => h.own p (hp.mem_iff.1 hm), ((hp.map _).nodup_iff).2 h.nodup⟩
theorem St.call {L1 : Hp} (h : St w0 T L w) (k : St w [] L1 w') : St w0 T (L ++ L1) w' := (h.callF k).perm List.perm_append_comm
theorem St.drop {L' : Hp} (h : St w0 T L w) (hs : L'.Sublist L) : St w0 T L' w :=
 ⟨h.os, h.tape, h.output, h.size, h.keep, fun p hm => h.own p (hs.subset hm), (hs.map _).nodup h.nodup⟩
theorem St.nil (h : St w0 T L w) : St w0 T [] w := h.drop (List.nil_sublist _)
theorem St.lend {A C L1 : Hp} (h : St w0 T (A ++ C) w) (k : St w (A.map (·.1)) L1 w') : St w0 T (L1 ++ C) w' := by
 have hlt : ∀ p, p ∈ A ++ C → p.1 < w.heap.size := fun p hp => lt_of_heap (h.own p hp).1
 have hn := h.nodup
 rw [List.map_append, List.nodup_append] at hn
 have hC : ∀ p, p ∈ C → p.1 ∉ A.map (·.1) := fun p hp hm => hn.2.2 _ hm _ (List.mem_map_of_mem hp) rfl
 have hA : ∀ i, i ∈ A.map (·.1) → w0.heap.size ≤ i ∨ i ∈ T := fun i hi => by
  obtain ⟨p, hp, rfl⟩ := List.mem_map.1 hi
  exact (h.own p (List.mem_append_left _ hp)).2
 refine ⟨k.os.trans h.os, k.tape.trans h.tape, k.output.trans h.output, Nat.le_trans h.size k.size, fun i hi hT => ?_, fun p hp => ?_, ?_⟩
 ·refine (k.keep i (Nat.lt_of_lt_of_le hi h.size) (fun hm => ?_)).trans (h.keep i hi hT)
  rcases hA i hm with h1 | h1
  ·omega
  ·exact hT h1
 ·rcases List.mem_append.1 hp with hp | hp
  ·refine ⟨(k.own p hp).1, ?_⟩
   rcases (k.own p hp).2 with h1 | h1
   ·exact .inl (Nat.le_trans h.size h1)
   ·exact hA _ h1
  ·exact ⟨(k.keep p.1 (hlt p (List.mem_append_right _ hp)) (hC p hp)).trans (h.own p (List.mem_append_right _ hp)).1, (h.own p (List.mem_append_right _ hp)).2⟩
 ·rw [List.map_append, List.nodup_append]
  refine ⟨k.nodup, hn.2.1, fun a ha b hb e => ?_⟩
  subst e
  obtain ⟨p, hp, rfl⟩ := List.mem_map.1 ha
  obtain ⟨q, hq, e⟩ := List.mem_map.1 hb
  rcases (k.own p hp).2 with h1 | h1
  ·have := hlt q (List.mem_append_right _ hq)
   omega
  ·exact hn.2.2 _ h1 _ (List.mem_map_of_mem hq) e.symm
theorem St.toBelow (h : St w0 [] L w) : Below w0.heap.size w0 w := ⟨h.os, h.tape, h.output, h.size, fun k hk => h.keep k hk (by simp)⟩
theorem St.ofBelow (h : Below w0.heap.size w0 w) : St w0 [] [] w := ⟨h.os, h.tape, h.output, h.size, fun k hk _ => h.block k hk, fun _ h => (by cases h), List.nodup_nil⟩
def setL : Hp → Nat → Obj → Hp
 | [], _, _ => []
 | (b, _) :: r, 0, o => (b, o) :: r
 | p :: r, k + 1, o => p :: setL r k o
def nthL : Hp → Nat → Option (Nat × Obj)
 | [], _ => none
 | p :: _, 0 => some p
 | _ :: r, k + 1 => nthL r k
theorem nthL_mem : ∀ {L : Hp} {i : Nat} {p : Nat × Obj}, nthL L i = some p → p ∈ L
 | [], _, _, h => by cases h
 | q :: r, 0, p, h => by simp [nthL] at h; simp [h]
 | q :: r, k + 1, p, h => List.mem_cons_of_mem _ (nthL_mem (L := r) h)
theorem setL_keys : ∀ (L : Hp) (i : Nat) (o : Obj), (setL L i o).map (·.1) = L.map (·.1)
 | [], _, _ => rfl
 | (b, _) :: r, 0, o => rfl
 | p :: r, k + 1, o => by simp [setL, setL_keys r k o]
theorem setL_mem : ∀ {L : Hp} {i : Nat} {b : Nat} {o o' : Obj} {p : Nat × Obj}, nthL L i = some (b, o) → (L.map (·.1)).Nodup → p ∈ setL L i o' → p = (b, o') ∨ (p ∈ L ∧ p.1 ≠ b)
 | [], _, _, _, _, _, h, _, _ => by cases h
 | (c, oc) :: r, 0, b, o, o', p, h, hn, hm => by
  simp only [nthL, Option.some.injEq, Prod.mk.injEq] at h
  obtain ⟨rfl, rfl⟩ := h
  simp only [setL, List.mem_cons] at hm
  rcases hm with rfl | hm
  ·exact .inl rfl
  ·refine .inr ⟨List.mem_cons_of_mem _ hm, fun e => ?_⟩
   simp only [List.map_cons, List.nodup_cons] at hn
   exact hn.1 (e ▸ List.mem_map_of_mem hm)
 | q :: r, k + 1, b, o, o', p, h, hn, hm => by
  simp only [setL, List.mem_cons] at hm
  simp only [List.map_cons, List.nodup_cons] at hn
  rcases hm with rfl | hm
  ·refine .inr ⟨List.mem_cons_self, fun e => ?_⟩
   exact hn.1 (e ▸ List.mem_map_of_mem (f := (·.1)) (nthL_mem (L := r) h))
  ·rcases setL_mem (L := r) h hn.2 hm with h1 | ⟨h1, h2⟩
   ·exact .inl h1
   ·exact .inr ⟨List.mem_cons_of_mem _ h1, h2⟩
theorem St.setCell (h : St w0 T L w) {i b off : Nat} {cs : Array Value} {e : TypeId} {fz : Nat × Nat} (hi : nthL L i = some (b, .cells cs e fz)) (v : Value) :
  St w0 T (setL L i (.cells (cs.setIfInBounds off v) e fz)) (w.setCell ⟨b, off, none⟩ v) := by
 have hb := (h.own _ (nthL_mem hi))
 refine ⟨h.os, h.tape, h.output, by simpa [World.setCell] using h.size, fun k hk hT => ?_, fun p hp => ?_, by rw [setL_keys]; exact h.nodup⟩
 ·refine (Below.heap_setCell w _ v k ?_).trans (h.keep k hk hT)
  rintro rfl
  rcases hb.2 with h1 | h1
  ·simp at h1; omega
  ·exact hT h1
 ·rcases setL_mem hi h.nodup hp with rfl | ⟨hm, hne⟩
  ·refine ⟨?_, hb.2⟩
   have := hb.1
   simp only at this
   simp [World.setCell, Array.getElem?_modify, this]
  ·exact ⟨(Below.heap_setCell w _ v p.1 hne).trans (h.own p hm).1, (h.own p hm).2⟩
end
def nthO : List Oper → Nat → Option Oper
 | [], _ => none
 | o :: _, 0 => some o
 | _ :: r, k + 1 => nthO r k
theorem nthO_eq : ∀ (l : List Oper) (j : Nat), nthO l j = l[j]?
 | [], _ => by simp [nthO]
 | o :: _, 0 => by simp [nthO]
 | _ :: r, k + 1 => by simp [nthO, nthO_eq r k]
def want (ol : List Oper) (o : Oper) (f : Fr) : Option Bool :=
 match o.guard with
 | none => some true
 | some (j, b) =>
  match nthO ol j with
  | none => some false
  | some oj =>
   match oj.dst with
   | none => some false
   | some d =>
    match lk f d with
    | some (.bool x) => some (x == b)
    | some _ => some false
    | none => none
theorem want_eq {ol : List Oper} {o : Oper} {f : Fr} {a : Act} {n : Nat} {b : Bool} (hg : Good a n f) (h : want ol o f = some b) : Region.wanted o (yielded ol.toArray a.tmps) = b := by
 unfold want at h
 unfold Region.wanted
 cases hgd : o.guard with
 | none => simpa [hgd] using h
 | some p =>
  obtain ⟨j, c⟩ := p
  simp only [hgd] at h ⊢
  unfold yielded
  rw [nthO_eq] at h
  simp only [List.getElem?_toArray]
  cases hj : ol[j]? with
  | none => simp [hj] at h ⊢; exact h
  | some oj =>
   simp only [hj] at h
   simp only [Option.bind_some]
   cases hd : oj.dst with
   | none => simp [hd] at h ⊢; exact h
   | some d =>
    simp only [hd] at h
    simp only [Option.bind_some]
    cases hl : lk f d with
    | none => simp [hl] at h
    | some v =>
     have hv := hg.at_ d v hl
     rw [Array.getD_eq_getD_getElem?] at hv
     simp only [hl] at h
     cases ht : a.tmps[d]? with
     | none =>
      rw [ht] at hv
      simp only [Option.getD_none] at hv
      subst hv
      simp [undef] at h
      simpa using h
     | some u =>
      rw [ht] at hv
      simp only [Option.getD_some] at hv
      subst hv
      cases u <;> simp_all
theorem wantT {ol : List Oper} {o : Oper} {f : Fr} {g : Bool} (h : want ol o f = some (g == true)) (hg : g = true) : want ol o f = some true := by rw [h, hg]; rfl
theorem wantF {ol : List Oper} {o : Oper} {f : Fr} {g : Bool} (h : want ol o f = some (g == false)) (hg : g = false) : want ol o f = some true := by rw [h, hg]; rfl
theorem wantNT {ol : List Oper} {o : Oper} {f : Fr} {g : Bool} (h : want ol o f = some (g == true)) (hg : g = false) : want ol o f = some false := by rw [h, hg]; rfl
def Run (P : Program) (o : Oper) (f : Fr) (w : World) (r : Next) (w' : World) : Prop :=
 ∀ ρ : Operand → Value, (∀ x v, ev f x = some v → ρ x = v) → (execOp ρ o).run P w = .ok r w'
def WL (P : Program) (n : Nat) (ol l : List Oper) (K : Fr → World → Prop) (f : Fr) (w : World) : Prop :=
 ∀ (Q : Exit → Act → World → Prop) (a : Act), Good a n f → (∀ a' f' w', Good a' n f' → K f' w' → Q .normal a' w') → wpList P ol.toArray Q l a w
def WQ (P : Program) (n : Nat) (ol l : List Oper) (C : World → Prop) (K : Fr → Prop) (f : Fr) : Prop :=
 ∀ a, Good a n f → wpQuiet P ol.toArray C (fun a' => ∃ f', Good a' n f' ∧ K f') l a
section
variable {P : Program} {n : Nat} {ol rest : List Oper} {o : Oper} {K : Fr → World → Prop} {f : Fr} {w w' : World} {d : Nat} {v : Value}
theorem WC.region {id : Nat} {l : List Oper} {Q : Kont} (h : WL P n l l (fun f w => Q .normal f w) f w) : WC P n (.region id l.toArray false) Q f w := fun a ha =>
 wp_region_lit (h (qa n Q) a ha fun _ f' _ hg hk => ⟨f', hg, hk⟩)
theorem WC.regionQ {id : Nat} {l : List Oper} {Q : Kont} (C : World → Prop) (hm : P.follows .mixedOrders = true) (hl : Region.lexB .any l.toArray = true)
  (hC : C { heap := w.heap, tape := w.tape, drawn := w.drawn + 1, os := w.os, output := w.output }) (h : WQ P n l l C (fun f' => ∀ w', C w' → Q .normal f' w') f) : WC P n (.region id l.toArray true) Q f w := fun a ha =>
 wp_region_quiet hm hl hC (by
  have h1 := h a ha
  have e : (l.toArray).toList = l := by simp
  rw [e]
  refine (?_ : ∀ (l : List Oper) (a : Act), wpQuiet P _ C (fun a' => ∃ f', Good a' n f' ∧ ∀ w', C w' → Q .normal f' w') l a → wpQuiet P _ C (fun a' => ∀ w', C w' → qa n Q .normal a' w') l a) l a h1
  intro l
  induction l with
  | nil =>
   rintro a ⟨f', hg, hk⟩ w' hw'
   exact ⟨f', hg, hk w' hw'⟩
  | cons o r ih =>
   intro a ha
   unfold wpQuiet at ha ⊢
   split
   ·rename_i hw
    rw [if_pos hw] at ha
    exact Oper.quiet_mono ih ha
   ·rename_i hw
    rw [if_neg hw] at ha
    exact ih _ ha)
theorem WL.nil (h : K f w) : WL P n ol [] K f w := fun _ a ha hk => wpList_nil (hk a f w ha h)
theorem WL.sub {l : List Oper} (F : Fr) (hs : Sub F f) (h : WL P n ol l K F w) : WL P n ol l K f w := fun Q a ha hk => h Q a (ha.sub hs) hk
theorem WL.val (hw : want ol o f = some true) (hd : o.dst = some d) (hn : Nat.blt d n = true) (hy : Run P o f w (.value v) w') (k : WL P n ol rest K ((d, v) :: f) w') : WL P n ol (o :: rest) K f w := fun Q a ha hk => by
 unfold wpList
 rw [if_pos (want_eq ha hw)]
 refine .inl ?_
 unfold Oper.wp
 rw [hy a.eval fun x v hx => ha.ev hx]
 show wpList _ _ _ _ _ _
 rw [hd]
 exact k Q _ (ha.put hn v) hk
theorem WL.unit (hw : want ol o f = some true) (hd : o.dst = none) (hy : Run P o f w .skip w') (k : WL P n ol rest K f w') : WL P n ol (o :: rest) K f w := fun Q a ha hk => by
 unfold wpList
 rw [if_pos (want_eq ha hw)]
 refine .inl ?_
 unfold Oper.wp
 rw [hy a.eval fun x v hx => ha.ev hx]
 show wpList _ _ _ _ _ _
 rw [hd]
 exact k Q _ ha hk
theorem WL.skip (hw : want ol o f = some false) (hd : o.dst = some d) (hn : Nat.blt d n = true) (k : WL P n ol rest K ((d, undef) :: f) w) : WL P n ol (o :: rest) K f w := fun Q a ha hk => by
 unfold wpList
 rw [if_neg (by rw [want_eq ha hw]; exact Bool.false_ne_true), hd]
 exact k Q _ (ha.put hn undef) hk
theorem WL.call {g : FuncId} {args : Array Value} {R : Ending → World → Prop} (hw : want ol o f = some true) (hd : o.dst = some d) (hn : Nat.blt d n = true) (hy : Run P o f w (.enter g args) w) (hc : Calls P g args w R)
  (k : ∀ e w', R e w' → ∃ v, e = .returned v ∧ WL P n ol rest K ((d, v) :: f) w') : WL P n ol (o :: rest) K f w := fun Q a ha hk => by
 unfold wpList
 rw [if_pos (want_eq ha hw)]
 refine .inl ?_
 unfold Oper.wp
 rw [hy a.eval fun x v hx => ha.ev hx]
 refine hc.mono ?_
 intro e w' hr
 obtain ⟨v, rfl, hk'⟩ := k e w' hr
 show wpList _ _ _ _ _ _
 rw [hd]
 exact hk' Q _ (ha.put hn v) hk
theorem WL.call0 {g : FuncId} {args : Array Value} {R : Ending → World → Prop} (hw : want ol o f = some true) (hd : o.dst = none) (hy : Run P o f w (.enter g args) w) (hc : Calls P g args w R)
  (k : ∀ e w', R e w' → ∃ v, e = .returned v ∧ WL P n ol rest K f w') : WL P n ol (o :: rest) K f w := fun Q a ha hk => by
 unfold wpList
 rw [if_pos (want_eq ha hw)]
 refine .inl ?_
 unfold Oper.wp
 rw [hy a.eval fun x v hx => ha.ev hx]
 refine hc.mono ?_
 intro e w' hr
 obtain ⟨v, rfl, hk'⟩ := k e w' hr
 show wpList _ _ _ _ _ _
 rw [hd]
 exact hk' Q _ ha hk
theorem WL.fin {l : List Oper} {w0 : World} {T : List Nat} {L : Hp} {V V' : Value} {F : Fr} (J : ∀ w', St w0 T L w' → WL P n ol l K ((d, V) :: F) w') (hst : St w0 T L w) (hv : lk f d = some V') (e : V' = V) (hsub : Sub F f) : WL P n ol l K f w :=
 WL.sub ((d, V) :: F) ⟨e ▸ hv, hsub⟩ (J w hst)
end
section
variable {P : Program} {n : Nat} {ol rest : List Oper} {o : Oper} {C : World → Prop} {K : Fr → Prop} {f : Fr} {d : Nat} {v : Value}
theorem WQ.nil (h : K f) : WQ P n ol [] C K f := fun _ ha => wpQuiet_nil ⟨f, ha, h⟩
theorem WQ.sub {l : List Oper} (F : Fr) (hs : Sub F f) (h : WQ P n ol l C K F) : WQ P n ol l C K f := fun a ha => h a (ha.sub hs)
theorem WQ.val (hw : want ol o f = some true) (hd : o.dst = some d) (hn : Nat.blt d n = true) (hy : ∀ w, C w → Run P o f w (.value v) w) (k : WQ P n ol rest C K ((d, v) :: f)) : WQ P n ol (o :: rest) C K f := fun a ha => by
 unfold wpQuiet
 rw [if_pos (want_eq ha hw)]
 refine ⟨v, fun w hC => ?_, ?_⟩
 ·unfold Oper.quietAt
  rw [hy w hC a.eval fun x v hx => ha.ev hx]
  exact ⟨rfl, rfl⟩
 ·rw [hd]
  exact k _ (ha.put hn v)
theorem WQ.call {g : FuncId} {args : Array Value} (hw : want ol o f = some true) (hd : o.dst = some d) (hn : Nat.blt d n = true) (hy : ∀ w, C w → Run P o f w (.enter g args) w)
  (hc : ∀ w, C w → Calls P g args w fun e w' => e = .returned v ∧ C w') (k : WQ P n ol rest C K ((d, v) :: f)) : WQ P n ol (o :: rest) C K f := fun a ha => by
 unfold wpQuiet
 rw [if_pos (want_eq ha hw)]
 refine ⟨v, fun w hC => ?_, ?_⟩
 ·unfold Oper.quietAt
  rw [hy w hC a.eval fun x v hx => ha.ev hx]
  exact ⟨rfl, hc w hC⟩
 ·rw [hd]
  exact k _ (ha.put hn v)
theorem WQ.skip (hw : want ol o f = some false) (hd : o.dst = some d) (hn : Nat.blt d n = true) (k : WQ P n ol rest C K ((d, undef) :: f)) : WQ P n ol (o :: rest) C K f := fun a ha => by
 unfold wpQuiet
 rw [if_neg (by rw [want_eq ha hw]; exact Bool.false_ne_true), hd]
 exact k _ (ha.put hn undef)
theorem WQ.fin {l : List Oper} {V V' : Value} {F : Fr} (J : WQ P n ol l C K ((d, V) :: F)) (hv : lk f d = some V') (e : V' = V) (hsub : Sub F f) : WQ P n ol l C K f :=
 WQ.sub ((d, V) :: F) ⟨e ▸ hv, hsub⟩ J
end
abbrev i64 (n : Int) : Value := .int .i64 n
section
variable {P : Program} {o : Oper} {f : Fr} {w : World} {v : Value}
theorem Run.move {x : Operand} (ho : o.op = .move x) (hx : ev f x = some v) : Run P o f w (.value v) w := fun ρ hρ => by
 simp [execOp, ho, hρ _ _ hx]
theorem Run.assign {x : Operand} (ho : o.op = .assign x) (hx : ev f x = some v) : Run P o f w (.value v) w := fun ρ hρ => by
 simp [execOp, ho, hρ _ _ hx]
theorem Run.pick {c a b : Operand} {g x y : Bool} (ho : o.op = .pick c a b) (hc : ev f c = some (.bool g)) (ha : ev f a = some (.bool x)) (hb : ev f b = some (.bool y)) : Run P o f w (.value (.bool (bif g then x else y))) w := fun ρ hρ => by
 cases g <;> simp [execOp, ho, hρ _ _ hc, hρ _ _ ha, hρ _ _ hb, asBool]
theorem Run.pickT {c a b : Operand} {g : Bool} (ho : o.op = .pick c a b) (hc : ev f c = some (.bool g)) (hg : g = true) (ha : ev f a = some v) : Run P o f w (.value v) w := fun ρ hρ => by
 subst hg
 simp [execOp, ho, hρ _ _ hc, hρ _ _ ha, asBool]
theorem Run.pickF {c a b : Operand} {g : Bool} (ho : o.op = .pick c a b) (hc : ev f c = some (.bool g)) (hg : g = false) (ha : ev f b = some v) : Run P o f w (.value v) w := fun ρ hρ => by
 subst hg
 simp [execOp, ho, hρ _ _ hc, hρ _ _ ha, asBool]
theorem Run.not {t : TypeId} {x : Operand} {b : Bool} (ho : o.op = .unOp .not t x) (hx : ev f x = some (.bool b)) : Run P o f w (.value (.bool (!b))) w := fun ρ hρ => by
 simp [execOp, ho, hρ _ _ hx, Op.unary]
theorem Run.neg {t : TypeId} {x : Operand} {k : IntKind} {a : Int} (ho : o.op = .unOp .neg t x) (hx : ev f x = some (.int k a)) (h : k.wrap (0 - a) = -a) : Run P o f w (.value (.int k (-a))) w := fun ρ hρ => by
 simp [execOp, ho, hρ _ _ hx, Op.unary, Op.intArith]
 simpa using h
section
variable {t t' : TypeId} {x y : Operand} {k : IntKind} {a b : Int}
theorem Run.lss (ho : o.op = .binOp .lss t x y t') (hx : ev f x = some (.int k a)) (hy : ev f y = some (.int k b)) : Run P o f w (.value (.bool (decide (a < b)))) w := fun ρ hρ => by
 simp [execOp, ho, hρ _ _ hx, hρ _ _ hy, eqGuard, binOp, Op.intCmp]
theorem Run.leq (ho : o.op = .binOp .leq t x y t') (hx : ev f x = some (.int k a)) (hy : ev f y = some (.int k b)) : Run P o f w (.value (.bool (decide (a ≤ b)))) w := fun ρ hρ => by
 simp [execOp, ho, hρ _ _ hx, hρ _ _ hy, eqGuard, binOp, Op.intCmp]
theorem Run.gtr (ho : o.op = .binOp .gtr t x y t') (hx : ev f x = some (.int k a)) (hy : ev f y = some (.int k b)) : Run P o f w (.value (.bool (decide (b < a)))) w := fun ρ hρ => by
 simp [execOp, ho, hρ _ _ hx, hρ _ _ hy, eqGuard, binOp, Op.intCmp]
theorem Run.geq (ho : o.op = .binOp .geq t x y t') (hx : ev f x = some (.int k a)) (hy : ev f y = some (.int k b)) : Run P o f w (.value (.bool (decide (b ≤ a)))) w := fun ρ hρ => by
 simp [execOp, ho, hρ _ _ hx, hρ _ _ hy, eqGuard, binOp, Op.intCmp]
theorem Run.eql (ho : o.op = .binOp .eql t x y t') (hx : ev f x = some (.int k a)) (hy : ev f y = some (.int k b)) : Run P o f w (.value (.bool (decide (a = b)))) w := fun ρ hρ => by
 simp [execOp, ho, hρ _ _ hx, hρ _ _ hy, eqGuard, binOp, Op.intCmp]
 rfl
theorem Run.neq (ho : o.op = .binOp .neq t x y t') (hx : ev f x = some (.int k a)) (hy : ev f y = some (.int k b)) : Run P o f w (.value (.bool (!decide (a = b)))) w := fun ρ hρ => by
 simp [execOp, ho, hρ _ _ hx, hρ _ _ hy, eqGuard, binOp, Op.intCmp]
 rfl
theorem Run.addW (ho : o.op = .binOp .add t x y t') (hx : ev f x = some (.int k a)) (hy : ev f y = some (.int k b)) : Run P o f w (.value (.int k (k.wrap (a + b)))) w := fun ρ hρ => by
 simp [execOp, ho, hρ _ _ hx, hρ _ _ hy, eqGuard, binOp, Op.intArith]
theorem Run.subW (ho : o.op = .binOp .sub t x y t') (hx : ev f x = some (.int k a)) (hy : ev f y = some (.int k b)) : Run P o f w (.value (.int k (k.wrap (a - b)))) w := fun ρ hρ => by
 simp [execOp, ho, hρ _ _ hx, hρ _ _ hy, eqGuard, binOp, Op.intArith]
theorem Run.mulW (ho : o.op = .binOp .mul t x y t') (hx : ev f x = some (.int k a)) (hy : ev f y = some (.int k b)) : Run P o f w (.value (.int k (k.wrap (a * b)))) w := fun ρ hρ => by
 simp [execOp, ho, hρ _ _ hx, hρ _ _ hy, eqGuard, binOp, Op.intArith]
end
abbrev In64 (a : Int) : Prop := -9223372036854775808 ≤ a ∧ a ≤ 9223372036854775807
theorem wrap_in {a : Int} (h : In64 a) : IntKind.i64.wrap a = a := IntWalk.i64_in a h
section
variable {t t' : TypeId} {x y : Operand} {a b : Int}
theorem Run.add (ho : o.op = .binOp .add t x y t') (hx : ev f x = some (.int .i64 a)) (hy : ev f y = some (.int .i64 b)) (h : In64 (a + b)) : Run P o f w (.value (.int .i64 (a + b))) w := by
 have := Run.addW (P := P) (w := w) ho hx hy
 rwa [wrap_in h] at this
theorem Run.sub (ho : o.op = .binOp .sub t x y t') (hx : ev f x = some (.int .i64 a)) (hy : ev f y = some (.int .i64 b)) (h : In64 (a - b)) : Run P o f w (.value (.int .i64 (a - b))) w := by
 have := Run.subW (P := P) (w := w) ho hx hy
 rwa [wrap_in h] at this
theorem Run.mul (ho : o.op = .binOp .mul t x y t') (hx : ev f x = some (.int .i64 a)) (hy : ev f y = some (.int .i64 b)) (h : In64 (a * b)) : Run P o f w (.value (.int .i64 (a * b))) w := by
 have := Run.mulW (P := P) (w := w) ho hx hy
 rwa [wrap_in h] at this
theorem Run.quo (ho : o.op = .binOp .quo t x y t') (hx : ev f x = some (.int .i64 a)) (hy : ev f y = some (.int .i64 b)) (h0 : 0 ≤ a) (h1 : 0 < b) (h : a ≤ 9223372036854775807) : Run P o f w (.value (.int .i64 (a / b))) w := fun ρ hρ => by
 have hb : b ≠ 0 := by omega
 have e : IntKind.i64.wrap (a.tdiv b) = a / b := by
  rw [Int.tdiv_eq_ediv_of_nonneg h0]
  refine wrap_in ⟨?_, ?_⟩
  ·have := Int.ediv_nonneg h0 (Int.le_of_lt h1); omega
  ·exact Int.le_trans (Int.ediv_le_self b h0) h
 simp [execOp, ho, hρ _ _ hx, hρ _ _ hy, eqGuard, binOp, Op.intDiv, hb, e]
theorem Run.rem (ho : o.op = .binOp .rem t x y t') (hx : ev f x = some (.int .i64 a)) (hy : ev f y = some (.int .i64 b)) (h0 : 0 ≤ a) (h1 : 0 < b) : Run P o f w (.value (.int .i64 (a % b))) w := fun ρ hρ => by
 have hb : b ≠ 0 := by omega
 have e : a.tmod b = a % b := Int.tmod_eq_emod_of_nonneg h0
 simp [execOp, ho, hρ _ _ hx, hρ _ _ hy, eqGuard, binOp, Op.intDiv, hb, e]
end
section
variable {t t' : TypeId} {x y : Operand} {a b : ByteArray}
theorem toList_inj {a b : ByteArray} : (a.toList == b.toList) = decide (a = b) := by
 rw [ByteArray.toList_eq, ByteArray.toList_eq, Bool.eq_iff_iff]
 simp only [beq_iff_eq, decide_eq_true_eq]
 constructor
 ·intro h
  have := Array.toList_inj.1 h
  cases a; cases b
  simp_all
 ·rintro rfl
  rfl
theorem Run.eqlS (ho : o.op = .binOp .eql t x y t') (hx : ev f x = some (.string a)) (hy : ev f y = some (.string b)) : Run P o f w (.value (.bool (decide (a = b)))) w := fun ρ hρ => by
 rw [← toList_inj]
 simp [execOp, ho, hρ _ _ hx, hρ _ _ hy, eqGuard, binOp, Op.stringOp]
theorem Run.neqS (ho : o.op = .binOp .neq t x y t') (hx : ev f x = some (.string a)) (hy : ev f y = some (.string b)) : Run P o f w (.value (.bool (!decide (a = b)))) w := fun ρ hρ => by
 rw [← toList_inj]
 simp [execOp, ho, hρ _ _ hx, hρ _ _ hy, eqGuard, binOp, Op.stringOp]
end
theorem equalIn_bool {t : TypeId} {a b : Bool} (d : Nat) (hu : ∀ w, (underlying t).run P w = .ok .bool w) : (Op.equalIn (d + 1) t (.bool a) (.bool b)).run P w = .ok (a == b) w := by
 rw [Op.equalIn]
 simp [hu]
theorem equal_bool {t : TypeId} {a b : Bool} (hu : ∀ w, (underlying t).run P w = .ok .bool w) : (Op.equal t (.bool a) (.bool b)).run P w = .ok (a == b) w := equalIn_bool 9999 hu
theorem Run.eqlB {t t' : TypeId} {x y : Operand} {a b : Bool} (hu : ∀ w, (underlying t).run P w = .ok .bool w) (ho : o.op = .binOp .eql t x y t') (hx : ev f x = some (.bool a)) (hy : ev f y = some (.bool b)) : Run P o f w (.value (.bool (a == b))) w := fun ρ hρ => by
 simp [execOp, ho, hρ _ _ hx, hρ _ _ hy, eqGuard, binOp, equal_bool hu]
theorem Run.neqB {t t' : TypeId} {x y : Operand} {a b : Bool} (hu : ∀ w, (underlying t).run P w = .ok .bool w) (ho : o.op = .binOp .neq t x y t') (hx : ev f x = some (.bool a)) (hy : ev f y = some (.bool b)) : Run P o f w (.value (.bool (!(a == b)))) w := fun ρ hρ => by
 simp [execOp, ho, hρ _ _ hx, hρ _ _ hy, eqGuard, binOp, equal_bool hu]
theorem neg_in {a : Int} (h : In64 (-a)) : IntKind.i64.wrap (0 - a) = -a := by rw [Int.zero_sub]; exact wrap_in h
theorem Run.conv {s d : TypeId} {x : Operand} {k k' : IntKind} {a : Int} (hs : ∀ w, (underlying s).run P w = .ok (.int k') w) (hd : ∀ w, (underlying d).run P w = .ok (.int k) w) (ho : o.op = .convert s d x) (hx : ev f x = some (.int k' a)) : Run P o f w (.value (.int k (k.wrap a))) w := fun ρ hρ => by
 simp [execOp, ho, hρ _ _ hx, convert, hs, hd, Conv.intToInt]
theorem Run.lenStr {t : TypeId} {x : Operand} {s : ByteArray} (hu : ∀ w, (underlying t).run P w = .ok .string w) (ho : o.op = .call { callee := .builtin .len, args := #[x], argTypes := #[t] }) (hx : ev f x = some (.string s)) : Run P o f w (.value (.int .i64 s.size)) w := fun ρ hρ => by
 simp [execOp, ho, hρ _ _ hx, resolve, invoke, builtin, Builtin.len_, hu, goInt]
theorem Run.lenSl {t e : TypeId} {x : Operand} {a : Option Addr} {l c : Nat} (hu : ∀ w, (underlying t).run P w = .ok (.slice e) w) (ho : o.op = .call { callee := .builtin .len, args := #[x], argTypes := #[t] }) (hx : ev f x = some (.slice a l c)) : Run P o f w (.value (.int .i64 l)) w := fun ρ hρ => by
 simp [execOp, ho, hρ _ _ hx, resolve, invoke, builtin, Builtin.len_, hu, goInt]
theorem Run.extract {x : Operand} {i : Nat} {vs : Array Value} (ho : o.op = .extract x i) (hx : ev f x = some (.tuple vs)) (hv : vs.toList[i]? = some v) : Run P o f w (.value v) w := fun ρ hρ => by
 have : vs[i]? = some v := by simpa using hv
 simp [execOp, ho, hρ _ _ hx, Instr.extract, this]
def sbyte (s : ByteArray) (k : Nat) : UInt8 := s.data.toList.getD k 0
theorem Run.idxStr {t : TypeId} {x i : Operand} {s : ByteArray} {k : IntKind} {n : Int} (hu : ∀ w, (underlying t).run P w = .ok .string w) (ho : o.op = .index t x i) (hx : ev f x = some (.string s)) (hi : ev f i = some (.int k n)) (h0 : 0 ≤ n) (h : n.toNat < s.size) : Run P o f w (.value (.int .u8 ((sbyte s n.toNat).toNat))) w := fun ρ hρ => by
 have e : s[n.toNat]? = some s[n.toNat] := getElem?_pos s n.toNat h
 have e2 : sbyte s n.toNat = s[n.toNat] := by
  unfold sbyte
  have : n.toNat < s.data.toList.length := by simpa using h
  rw [List.getD_eq_getElem?_getD, List.getElem?_eq_getElem this]
  rfl
 rw [e2]
 simp [execOp, ho, hρ _ _ hx, hρ _ _ hi, Instr.index, hu, asIntOf, h0, e]
def evs (f : Fr) : List Operand → Option (List Value)
 | [] => some []
 | x :: r => match ev f x, evs f r with
  | some v, some vs => some (v :: vs)
  | _, _ => none
theorem evs_map {f : Fr} {ρ : Operand → Value} (hρ : ∀ x v, ev f x = some v → ρ x = v) : ∀ {xs : List Operand} {vs : List Value}, evs f xs = some vs → xs.map ρ = vs
 | [], vs, h => by simp [evs] at h; subst h; rfl
 | x :: r, vs, h => by
  unfold evs at h
  split at h
  ·rename_i v us h1 h2
   cases h
   rw [List.map_cons, hρ _ _ h1, evs_map hρ h2]
  ·cases h
theorem Run.ext {fo : Operand} {args : Array Operand} {ts : Array TypeId} {g : FuncId} {vl : List Value} (hc : ∀ w, (callFunc g vl.toArray).run P w = .ok (.value v) w) (ho : o.op = .call { callee := .value fo, args := args, argTypes := ts })
  (hfo : ev f fo = some (.func (.func g) #[] #[])) (hv : evs f args.toList = some vl) : Run P o f w (.value v) w := fun ρ hρ => by
 have e : args.map ρ = vl.toArray := by apply Array.toList_inj.1; rw [Array.toList_map, evs_map hρ hv]
 simp [execOp, ho, resolve, hρ _ _ hfo, Deferred.ofValue, invoke, hc, e]
theorem Run.field {s : TypeId} {x : Operand} {fs : Array Field} {i : Nat} {fd : Field} {sz : Nat} {b off : Nat} (hu : ∀ w, (underlying s).run P w = .ok (.struct fs) w) (ho : o.op = .fieldAddr s x i) (hx : ev f x = some (.pointer (some ⟨b, off, none⟩)))
  (hf : fs.toList[i]? = some fd) (hz : ∀ w, (sizeOf fd.type).run P w = .ok sz w) (hs : Nat.beq sz 0 = false) : Run P o f w (.value (.pointer (some ⟨b, off + fd.offset, none⟩))) w := fun ρ hρ => by
 have hf' : fs[i]? = some fd := by simpa using hf
 have hs' : ¬ sz = 0 := by rintro rfl; simp at hs
 simp [execOp, ho, hρ _ _ hx, Instr.fieldAt, hu, hf', Instr.sureAddr, fieldPlace, hz, hs', Addr.add]
theorem Run.fieldO {s : TypeId} {x : Operand} {fs : Array Field} {i : Nat} {fd : Field} {sz : Nat} {a : Addr} (hu : ∀ w, (underlying s).run P w = .ok (.struct fs) w) (ho : o.op = .fieldAddr s x i) (hx : ev f x = some (.pointer (some a)))
  (hf : fs.toList[i]? = some fd) (hz : ∀ w, (sizeOf fd.type).run P w = .ok sz w) (hs : Nat.beq sz 0 = false) : Run P o f w (.value (.pointer (some (a.add fd.offset)))) w := fun ρ hρ => by
 have hf' : fs[i]? = some fd := by simpa using hf
 have hs' : ¬ sz = 0 := by rintro rfl; simp at hs
 simp [execOp, ho, hρ _ _ hx, Instr.fieldAt, hu, hf', Instr.sureAddr, fieldPlace, hz, hs']
theorem Addr.add_add' (a : Addr) (i j : Nat) : (a.add i).add j = a.add (i + j) := by
 unfold Addr.add
 by_cases hi : i = 0 <;> by_cases hj : j = 0 <;> simp [hi, hj, Nat.add_assoc]
def adr (A : Option Addr) : Addr := A.getD ⟨0, 0, none⟩
theorem Run.idx {t e : TypeId} {x i : Operand} {A : Option Addr} {l c sz : Nat} {k : IntKind} {n : Int} (hu : ∀ w, (underlying t).run P w = .ok (.slice e) w) (hz : ∀ w, (sizeOf e).run P w = .ok sz w) (ho : o.op = .indexAddr t x i) (hx : ev f x = some (.slice A l c)) (hi : ev f i = some (.int k n))
  (hA : 0 < l → A.isSome = true) (h0 : 0 ≤ n) (h1 : n < l) : Run P o f w (.value (.pointer (some ((adr A).add (n.toNat * sz))))) w := fun ρ hρ => by
 obtain ⟨a, rfl⟩ := Option.isSome_iff_exists.1 (hA (by omega))
 simp [execOp, ho, hρ _ _ hx, hρ _ _ hi, Instr.indexAt, hu, hz, asIntOf, h0, h1, adr]
theorem Run.call {fo : Operand} {args : Array Operand} {ts : Array TypeId} {g : FuncId} {vl : List Value} (hc : ∀ args w, (callFunc g args).run P w = .ok (.enter g args) w) (ho : o.op = .call { callee := .value fo, args := args, argTypes := ts })
  (hfo : ev f fo = some (.func (.func g) #[] #[])) (hv : evs f args.toList = some vl) : Run P o f w (.enter g vl.toArray) w := fun ρ hρ => by
 have e : args.map ρ = vl.toArray := by apply Array.toList_inj.1; rw [Array.toList_map, evs_map hρ hv]
 simp [execOp, ho, resolve, hρ _ _ hfo, Deferred.ofValue, invoke, hc, e]
theorem Run.callC {fo : Operand} {args : Array Operand} {ts : Array TypeId} {g : FuncId} {vl cl : List Value} (hc : ∀ args w, (callFunc g args).run P w = .ok (.enter g args) w) (ho : o.op = .call { callee := .value fo, args := args, argTypes := ts })
  (hfo : ev f fo = some (.func (.func g) #[] cl.toArray)) (hv : evs f args.toList = some vl) : Run P o f w (.enter g (vl ++ cl).toArray) w := fun ρ hρ => by
 have e : args.map ρ = vl.toArray := by apply Array.toList_inj.1; rw [Array.toList_map, evs_map hρ hv]
 simp [execOp, ho, resolve, hρ _ _ hfo, Deferred.ofValue, invoke, hc, e]
end
section
variable {w0 w w' : World} {T : List Nat} {L : Hp}
theorem cell_of_heap {b off : Nat} {cl : List Value} {e : TypeId} {fz : Nat × Nat} {v : Value} (h : w.heap[b]? = some (.cells cl.toArray e fz)) (hv : cl[off]? = some v) : w.cell? ⟨b, off, none⟩ = some v := by
 simp [World.cell?, h, hv]
theorem St.at_ (h : St w0 T L w) {i b off : Nat} {cl : List Value} {e : TypeId} {fz : Nat × Nat} {v : Value} (hi : nthL L i = some (b, .cells cl.toArray e fz)) (hv : cl[off]? = some v) : w.cell? ⟨b, off, none⟩ = some v :=
 cell_of_heap (h.own _ (nthL_mem hi)).1 hv
theorem cells_of_heap {P : Program} {b off sz : Nat} {cl vs : List Value} {e : TypeId} {fz : Nat × Nat} (h : w.heap[b]? = some (.cells cl.toArray e fz)) (hv : (cl.drop off).take sz = vs) (hs : vs.length = sz) :
  (loadCells ⟨b, off, none⟩ sz).run P w = .ok vs.toArray w := by
 rw [run_loadCells w _ sz (fun j => vs.getD j undef) (fun j hj => ?_)]
 ·congr 1
  congr 1
  apply List.ext_getElem?
  intro j
  simp only [List.getElem?_map]
  by_cases hj : j < sz
  ·simp [List.getElem?_range hj, List.getD, show j < vs.length by omega]
  ·simp [List.getElem?_eq_none (l := List.range sz) (i := j) (by simp; omega), List.getElem?_eq_none (l := vs) (i := j) (by omega)]
 ·have e1 : (⟨b, off, none⟩ : Addr).add j = ⟨b, off + j, none⟩ := by unfold Addr.add; split <;> simp_all
  rw [e1]
  refine cell_of_heap h ?_
  have h1 : vs[j]? = cl[off + j]? := by
   rw [← hv, List.getElem?_take, if_pos hj, List.getElem?_drop]
  rw [← h1]
  simp [List.getD, show j < vs.length by omega]
end
def cellsOf : Value → List Value
 | .agg cs => cs.toList
 | v => [v]
theorem cellsOf_eq (v : Value) : v.cells = (cellsOf v).toArray := by cases v <;> simp [Value.cells, cellsOf]
def setV : List Value → Nat → Value → List Value
 | [], _, _ => []
 | _ :: r, 0, v => v :: r
 | x :: r, k + 1, v => x :: setV r k v
theorem setV_eq : ∀ (l : List Value) (i : Nat) (v : Value), setV l i v = l.set i v
 | [], _, _ => by simp [setV]
 | _ :: r, 0, v => rfl
 | x :: r, k + 1, v => by simp [setV, setV_eq r k v]
theorem St.call0 {w0 w w' : World} {T : List Nat} {L : Hp} (h : St w0 T L w) (k : St w [] [] w') : St w0 T L w' := by simpa using h.call k
section
variable {P : Program} {n : Nat} {ol rest : List Oper} {o : Oper} {K : Fr → World → Prop} {f : Fr} {w0 w w' : World} {T : List Nat} {L : Hp} {d : Nat} {v : Value}
theorem Run.load {t : TypeId} {x : Operand} {a : Addr} (ha : ∀ w, (isAgg t).run P w = .ok false w) (ho : o.op = .load t x) (hx : ev f x = some (.pointer (some a))) (hc : w.cell? a = some v) : Run P o f w (.value v) w := fun ρ hρ => by
 simp [execOp, ho, hρ _ _ hx, Instr.loadAt, Instr.sureAddr, loadVar, ha, hc]
theorem Run.loadA {t : TypeId} {x : Operand} {a : Addr} {sz : Nat} {vs : List Value} (ha : ∀ w, (isAgg t).run P w = .ok true w) (hz : ∀ w, (sizeOf t).run P w = .ok sz w) (ho : o.op = .load t x) (hx : ev f x = some (.pointer (some a)))
  (hc : (loadCells a sz).run P w = .ok vs.toArray w) : Run P o f w (.value (.agg vs.toArray)) w := fun ρ hρ => by
 simp [execOp, ho, hρ _ _ hx, Instr.loadAt, Instr.sureAddr, loadVar, ha, hz, hc]
theorem WL.box (hst : St w0 T L w) {t : TypeId} {x : Operand} {cl : List Value} (ho : o.op = .box t x) (hw : want ol o f = some true) (hd : o.dst = some d) (hn : Nat.blt d n = true) (hx : ev f x = some v) (hc : cellsOf v = cl)
  (k : ∀ b w', St w0 T ((b, .cells cl.toArray t (0, 0)) :: L) w' → WL P n ol rest K ((d, .pointer (some ⟨b, 0, none⟩)) :: f) w') : WL P n ol (o :: rest) K f w := by
 refine WL.val (w' := w.alloc (.cells cl.toArray t (0, 0))) hw hd hn (fun ρ hρ => ?_) (k _ _ (hst.alloc _))
 simp [execOp, ho, hρ _ _ hx, Instr.box, newVar, newRow, cellsOf_eq, hc]
theorem WL.alloc (hst : St w0 T L w) {t : TypeId} {z : Value} {cl : List Value} (hz : ∀ w, (zeroValue t).run P w = .ok z w) (ho : o.op = .alloc t) (hw : want ol o f = some true) (hd : o.dst = some d) (hn : Nat.blt d n = true) (hc : cellsOf z = cl)
  (k : ∀ b w', St w0 T ((b, .cells cl.toArray t (0, 0)) :: L) w' → WL P n ol rest K ((d, .pointer (some ⟨b, 0, none⟩)) :: f) w') : WL P n ol (o :: rest) K f w := by
 refine WL.val (w' := w.alloc (.cells cl.toArray t (0, 0))) hw hd hn (fun ρ hρ => ?_) (k _ _ (hst.alloc _))
 simp [execOp, ho, Instr.alloc, hz, newVar, newRow, cellsOf_eq, hc]
theorem run_store_ours {a : Addr} {u : Value} (hv : u.oneCell' = true) (hc : (w.cell? a).isSome = true) (hf : w.frozen? a = false) : (store a u).run P w = .ok () (w.setCell a u) := by
 obtain ⟨x, hx⟩ := Option.isSome_iff_exists.1 hc
 cases u <;> simp_all [store, Sem.run, Value.oneCell']
theorem WL.store (hst : St w0 T L w) (i : Nat) {t : TypeId} {x y : Operand} {b off : Nat} {cl cl' : List Value} {e : TypeId} {lo hi : Nat} (hz : ∀ w, (sizeOf t).run P w = .ok 1 w) (ho : o.op = .store t x y) (hw : want ol o f = some true) (hd : o.dst = none)
  (hx : ev f x = some (.pointer (some ⟨b, off, none⟩))) (hy : ev f y = some v) (hi' : nthL L i = some (b, .cells cl.toArray e (lo, hi))) (hv : v.oneCell' = true) (hoff : Nat.blt off cl.length = true) (hfz : (Nat.ble lo off && Nat.blt off hi) = false) (hcl : setV cl off v = cl')
  (k : ∀ w', St w0 T (setL L i (.cells cl'.toArray e (lo, hi))) w' → WL P n ol rest K f w') : WL P n ol (o :: rest) K f w := by
 have hlt : off < cl.length := Nat.le_of_ble_eq_true hoff
 have hh := (hst.own _ (nthL_mem hi')).1
 have hs := hst.setCell (off := off) hi' v
 have e1 : cl.toArray.setIfInBounds off v = cl'.toArray := by rw [← hcl, setV_eq]; simp
 rw [e1] at hs
 refine WL.unit (w' := w.setCell ⟨b, off, none⟩ v) hw hd (fun ρ hρ => ?_) (k _ hs)
 have hc : (w.cell? ⟨b, off, none⟩).isSome = true := by
  rw [cell_of_heap (v := cl[off]) hh (by simp [hlt])]
  rfl
 have hf : w.frozen? ⟨b, off, none⟩ = false := by
  simp only [World.frozen?, hh]
  rw [Bool.eq_false_iff]
  intro hh2
  simp only [Bool.and_eq_true, decide_eq_true_eq] at hh2
  have a1 : Nat.ble lo off = true := Nat.ble_eq_true_of_le hh2.1
  have a2 : Nat.blt off hi = true := Nat.ble_eq_true_of_le hh2.2
  rw [a1, a2] at hfz
  cases hfz
 have hcs : v.cells = #[v] := by cases v <;> simp_all [Value.oneCell', Value.cells]
 simp [execOp, ho, hρ _ _ hx, hρ _ _ hy, Instr.storeAt, Instr.sureAddr, storeVar, hz, hcs, storeCells, Addr.add, run_store_ours hv hc hf]
end
theorem Sub.app {F G f : Fr} (h : Sub F f) (k : Sub G f) : Sub (F ++ G) f := by
 induction F with
 | nil => exact k
 | cons p r ih => exact ⟨h.1, ih h.2⟩
theorem WC.loopS {P : Program} {n : Nat} {c : Code} {Q : Kont} {f : Fr} {w0 w : World} {T : List Nat} {L : Hp} (F : Fr) (hF : Sub F f) (hst : St w0 T L w) (I : Nat → Fr → World → Prop) (k0 : Nat) (h0 : I k0 f w)
  (hr : ∀ k f w, I k f w → Sub F f → St w0 T L w → WC P n c (thenK (fun f' w' => Sub F f' ∧ St w0 T L w' ∧ ∃ k', k' < k ∧ I k' f' w') Q) f w) : WC P n (.loop c) Q f w :=
 WC.loopN (fun k f w => I k f w ∧ Sub F f ∧ St w0 T L w) k0 ⟨h0, hF, hst⟩ fun k f w h => (hr k f w h.1 h.2.1 h.2.2).mono fun e f' w' q => by
  cases e
  case normal =>
   obtain ⟨q1, q2, k', q3, q4⟩ := q
   exact ⟨k', q3, q4, q1, q2⟩
  all_goals exact q
def f0 : List Value → Nat → Fr
 | [], _ => []
 | v :: r, i => (i, v) :: f0 r (i + 1)
theorem f0_spec : ∀ (vs : List Value) (k i : Nat) (v : Value), lk (f0 vs k) i = some v → k ≤ i ∧ vs[i - k]? = some v
 | [], _, _, _, h => by simp [f0, lk] at h
 | u :: r, k, i, v, h => by
  simp only [f0, lk] at h
  cases hb : Nat.beq k i with
  | true =>
   rw [hb] at h
   have := Nat.eq_of_beq_eq_true hb
   subst this
   simp at h
   simp [h]
  | false =>
   rw [hb] at h
   obtain ⟨h1, h2⟩ := f0_spec r (k + 1) i v h
   refine ⟨by omega, ?_⟩
   obtain ⟨j, rfl⟩ : ∃ j, i = k + 1 + j := ⟨i - (k + 1), by omega⟩
   have e1 : k + 1 + j - (k + 1) = j := by omega
   have e2 : k + 1 + j - k = j + 1 := by omega
   rw [e1] at h2
   rw [e2]
   simpa using h2
def retK (P : Program) (fn : Func) (R : Ending → World → Prop) : Kont := fun e f w =>
 (e = .normal ∨ e = .ret) ∧ ∃ v, (∀ tmps : Array Value, (∀ i u, lk f i = some u → tmps.getD i undef = u) → (results fn tmps).run P w = .ok v w) ∧ R (.returned v) w
theorem enter {P : Program} {g : FuncId} {fn : Func} {c : Code} {args : Array Value} {w : World} {R : Ending → World → Prop} {vs : List Value} (n : Nat) (hf : P.funcs[g]? = some fn) (hb : fn.body = some c) (hn : fn.ntmps = n) (ha : args = vs.toArray) (hl : Nat.ble vs.length n = true)
  (h : WC P n c (retK P fn R) (f0 vs 0) w) : Calls P g args w R := by
 refine calls_of_wp hf hb ?_
 subst ha
 have hl' : vs.length ≤ n := Nat.le_of_ble_eq_true hl
 refine Code.wp_mono ?_ (h _ ⟨?_, rfl, ?_⟩)
 ·rintro e a w ⟨f, hg, he, v, hv, hR⟩
  have := hv a.tmps hg.at_
  rcases he with rfl | rfl
  ·exact ⟨hg.defers, v, this, hR⟩
  ·exact ⟨hg.defers, v, this, hR⟩
 ·simp [hn]; omega
 ·intro i v hi
  obtain ⟨-, h2⟩ := f0_spec vs 0 i v hi
  simp only [Nat.sub_zero] at h2
  rw [Array.getD_eq_getD_getElem?, Array.getElem?_append]
  have hlt : i < vs.length := (List.getElem?_eq_some_iff.1 h2).1
  simp [hlt]
  rw [List.getElem?_eq_getElem hlt] at h2
  exact Option.some.inj h2
section
variable {P : Program} {fn : Func} {R : Ending → World → Prop} {f : Fr} {w : World} {v u x : Value}
theorem retK0 (hr : fn.results = #[]) (h : R (.returned (.tuple #[])) w) : retK P fn R .normal f w := ⟨.inl rfl, _, fun tmps _ => results_none hr tmps P w, h⟩
def resV (P : Program) (f : Fr) (w : World) : ResultVar → Value → Prop
 | .tmp t, v => lk f t = some v
 | .cell a t, v => ∃ ad, lk f a = some (.pointer (some ad)) ∧ (loadVar t ad).run P w = .ok v w
theorem resV_or {r : ResultVar} {tmps : Array Value} (ht : ∀ i u, lk f i = some u → tmps.getD i undef = u) (h : resV P f w r v) :
  (∃ t, r = .tmp t ∧ tmps[t]?.getD undef = v) ∨ (∃ a t ad, r = .cell a t ∧ tmps[a]?.getD undef = .pointer (some ad) ∧ (loadVar t ad).run P w = .ok v w) := by
 cases r with
 | tmp t => exact .inl ⟨t, rfl, by simpa using ht _ _ h⟩
 | cell a t =>
  obtain ⟨ad, h1, h2⟩ := h
  exact .inr ⟨a, t, ad, rfl, by simpa using ht _ _ h1, h2⟩
theorem retV1 {r : ResultVar} (hr : fn.results = #[r]) (hv : resV P f w r v) (h : R (.returned v) w) : retK P fn R .ret f w :=
 ⟨.inr rfl, v, fun tmps ht => by
  rcases resV_or ht hv with ⟨t, rfl, h1⟩ | ⟨a, t, ad, rfl, h1, h2⟩ <;> simp_all [results, asAddr], h⟩
theorem retV2 {r1 r2 : ResultVar} (hr : fn.results = #[r1, r2]) (hv : resV P f w r1 v) (hu : resV P f w r2 u) (h : R (.returned (.tuple #[v, u])) w) : retK P fn R .ret f w :=
 ⟨.inr rfl, _, fun tmps ht => by
  rcases resV_or ht hv with ⟨t, rfl, h1⟩ | ⟨a, t, ad, rfl, h1, h2⟩ <;> rcases resV_or ht hu with ⟨t', rfl, h1'⟩ | ⟨a', t', ad', rfl, h1', h2'⟩ <;> simp_all [results, asAddr], h⟩
theorem retV3 {r1 r2 r3 : ResultVar} (hr : fn.results = #[r1, r2, r3]) (hv : resV P f w r1 v) (hu : resV P f w r2 u) (hx : resV P f w r3 x) (h : R (.returned (.tuple #[v, u, x])) w) : retK P fn R .ret f w :=
 ⟨.inr rfl, _, fun tmps ht => by
  rcases resV_or ht hv with ⟨t, rfl, h1⟩ | ⟨a, t, ad, rfl, h1, h2⟩ <;> rcases resV_or ht hu with ⟨t', rfl, h1'⟩ | ⟨a', t', ad', rfl, h1', h2'⟩ <;> rcases resV_or ht hx with ⟨t'', rfl, h1''⟩ | ⟨a'', t'', ad'', rfl, h1'', h2''⟩ <;> simp_all [results, asAddr], h⟩
theorem resV.tmp {t : Nat} (h : lk f t = some v) : resV P f w (.tmp t) v := h
theorem resV.cell {a : Nat} {t : TypeId} {ad : Addr} (h : lk f a = some (.pointer (some ad))) (hv : (loadVar t ad).run P w = .ok v w) : resV P f w (.cell a t) v := ⟨ad, h, hv⟩
theorem run_loadVarA {t : TypeId} {a : Addr} {sz : Nat} {vs : List Value} (ha : ∀ w, (isAgg t).run P w = .ok true w) (hz : ∀ w, (sizeOf t).run P w = .ok sz w) (hc : (loadCells a sz).run P w = .ok vs.toArray w) : (loadVar t a).run P w = .ok (.agg vs.toArray) w := by
 simp [loadVar, ha, hz, hc]
end
def setB : List Bool → Nat → List Bool
 | [], _ => []
 | _ :: r, 0 => true :: r
 | x :: r, k + 1 => x :: setB r k
theorem setB_eq : ∀ (l : List Bool) (i : Nat), setB l i = l.set i true
 | [], _ => by simp [setB]
 | _ :: r, 0 => rfl
 | x :: r, k + 1 => by simp [setB, setB_eq r k]
def WH (P : Program) (n : Nat) (ol : List Oper) (S : World → Prop) (fuel : Nat) (listed : List Bool) (K : Fr → World → Prop) (f : Fr) (w : World) : Prop :=
 ∀ (Q : Exit → Act → World → Prop) (a : Act), (∀ c a w, ¬ Q (.panic c) a w) → Good a n f → (∀ a' f' w', Good a' n f' → K f' w' → Q .normal a' w') → wpAnyH P .any ol.toArray Q S fuel listed.toArray a w
section
variable {P : Program} {n : Nat} {ol : List Oper} {o : Oper} {K : Fr → World → Prop} {f : Fr} {w : World} {d : Nat} {v : Value} {S : World → Prop} {fuel : Nat} {listed : List Bool}
theorem WC.regionH2 {id : Nat} {l : List Oper} {Q : Kont} (S S1 : World → Prop) (hm : P.follows .mixedOrders = true)
  (hS : S { heap := w.heap, tape := w.tape, drawn := w.drawn + 1, os := w.os, output := w.output })
  (hS1 : S1 { heap := w.heap, tape := w.tape, drawn := w.drawn + 1, os := w.os, output := w.output })
  (h : ∀ w', S1 w' → WH P n l S l.length (List.replicate l.length false) (fun f w => Q .normal f w) f w') : WC P n (.region id l.toArray true) Q f w := fun a ha => by
 refine wp_region_noPanic (wp_region_held (S := S) hm ?_)
 have e : (Array.replicate l.toArray.size false) = (List.replicate l.length false).toArray := by simp
 rw [e]
 have e2 : l.toArray.size = l.length := by simp
 rw [e2]
 exact h _ hS1 (NoPanic (qa n Q)) a (fun c a w hh => hh) ha (fun a' f' w' hg hk => ⟨f', hg, hk⟩)
theorem WH.sub (F : Fr) (hs : Sub F f) (h : WH P n ol S fuel listed K F w) : WH P n ol S fuel listed K f w := fun Q a hp ha hk => h Q a hp (ha.sub hs) hk
def canTake (ol : List Oper) (listed : List Bool) (i : Nat) : Bool :=
 Region.noSelect ol.toArray && Region.free .any ol.toArray listed.toArray i && (Region.ready .any ol.toArray listed.toArray).contains i
theorem WH.take (i : Nat) (hi : nthO ol i = some o) (hb : canTake ol listed i = true) (hw : want ol o f = some true) (hd : o.dst = some d) (hn : Nat.blt d n = true) (hS : S w) (hy : ∀ w, S w → Run P o f w (.value v) w)
  (k : WH P n ol S fuel (setB listed i) K ((d, v) :: f) w) : WH P n ol S (fuel + 1) listed K f w := fun Q a hp ha hk => by
 simp only [canTake, Bool.and_eq_true] at hb
 have hi' : ol.toArray[i]? = some o := by rw [List.getElem?_toArray, ← nthO_eq]; exact hi
 refine wpAnyH_take (v := v) hi' hb.1.1 hb.1.2 hb.2 (fun c a w hh => absurd hh (hp _ _ _)) (.inl ⟨want_eq ha hw, fun w hSw => hy w hSw a.eval fun x u hx => ha.ev hx⟩) hS ?_
 have := k Q _ hp (ha.put hn v) hk
 rw [setB_eq] at this
 rw [hd]
 simpa using this
theorem WH.takeSkip (i : Nat) (hi : nthO ol i = some o) (hb : canTake ol listed i = true) (hw : want ol o f = some false) (hd : o.dst = some d) (hn : Nat.blt d n = true) (hS : S w)
  (k : WH P n ol S fuel (setB listed i) K ((d, undef) :: f) w) : WH P n ol S (fuel + 1) listed K f w := fun Q a hp ha hk => by
 simp only [canTake, Bool.and_eq_true] at hb
 have hi' : ol.toArray[i]? = some o := by rw [List.getElem?_toArray, ← nthO_eq]; exact hi
 refine wpAnyH_take (v := undef) hi' hb.1.1 hb.1.2 hb.2 (fun c a w hh => absurd hh (hp _ _ _)) (.inr ⟨want_eq ha hw, rfl⟩) hS ?_
 have := k Q _ hp (ha.put hn undef) hk
 rw [setB_eq] at this
 rw [hd]
 simpa using this
def WHs (P : Program) (n : Nat) (ol : List Oper) (S : World → Prop) (fuel : Nat) (listed : List Bool) (K : Fr → World → Prop) (f : Fr) (w : World) (rs : List Nat) : Prop :=
 ∀ i, i ∈ rs → ∃ o, nthO ol i = some o ∧ WL P n ol [o] (fun f' w' => S w' ∧ WH P n ol S fuel (setB listed i) K f' w') f w
theorem WHs.nil : WHs P n ol S fuel listed K f w [] := fun _ h => by cases h
theorem WHs.cons {i : Nat} {rs : List Nat} (hi : nthO ol i = some o) (h : WL P n ol [o] (fun f' w' => S w' ∧ WH P n ol S fuel (setB listed i) K f' w') f w) (hr : WHs P n ol S fuel listed K f w rs) : WHs P n ol S fuel listed K f w (i :: rs) := fun j hj => by
 rcases List.mem_cons.1 hj with rfl | hj
 ·exact ⟨o, hi, h⟩
 ·exact hr j hj
theorem wp_then {o : Oper} {a : Act} {K : Act → World → Prop} {Q : Exit → Act → World → Prop} (h : o.wp P a w K (Exit.then K Q) ∨ (o.asks P a w ∧ LetsOut (Exit.then K Q))) : o.wp P a w K Q ∨ (o.asks P a w ∧ LetsOut Q) := by
 rcases h with h | h
 ·refine .inl ?_
  unfold Oper.wp at h ⊢
  generalize (execOp a.eval o).run P w = r at h ⊢
  cases r with
  | ok x w' =>
   cases x <;> exact h
  | halt x w' => cases x <;> exact h
 ·exact .inr h
theorem WH.all (rs : List Nat) (hr : Region.ready .any ol.toArray listed.toArray = rs) (hne : rs.isEmpty = false) (h : WHs P n ol S fuel listed K f w rs) : WH P n ol S (fuel + 1) listed K f w := fun Q a hp ha hk => by
 refine wpAnyH_all hr (by rintro rfl; cases hne) fun i hi => ?_
 obtain ⟨o, ho, hw⟩ := h i hi
 have hi' : ol.toArray[i]? = some o := by rw [List.getElem?_toArray, ← nthO_eq]; exact ho
 unfold wpOp
 rw [hi']
 show if Region.wanted o (yielded ol.toArray a.tmps) = true then _ else _
 have h1 := hw (Exit.then (fun a' w' => S w' ∧ wpAnyH P .any ol.toArray Q S fuel (listed.toArray.setIfInBounds i true) a' w') Q) a ha (fun a' f' w' hg hh => ⟨hh.1, by
  have := hh.2 Q a' hp hg hk
  rw [setB_eq] at this
  simpa using this⟩)
 unfold wpList at h1
 split
 ·rename_i hwd
  rw [if_pos hwd] at h1
  exact wp_then h1
 ·rename_i hwd
  rw [if_neg hwd] at h1
  exact h1
theorem WH.done (hr : Region.ready .any ol.toArray listed.toArray = []) (h : K f w) : WH P n ol S fuel listed K f w := fun Q a hp ha hk => wpAnyH_done hr (hk a f w ha h) fuel
end
theorem WH.split {P : Program} {n : Nat} {ol : List Oper} {K : Fr → World → Prop} {f : Fr} {w : World} {S : World → Prop} {fuel : Nat} {listed : List Bool} {g : Bool} (s : Nat) (_hs : lk f s = some (.bool g))
  (hT : g = true → WH P n ol S fuel listed K f w) (hF : g = false → WH P n ol S fuel listed K f w) : WH P n ol S fuel listed K f w := by
 cases h : g
 ·exact hF h
 ·exact hT h
theorem St.eq {w0 w : World} {T : List Nat} {L L' : Hp} (h : St w0 T L w) (e : L = L') : St w0 T L' w := e ▸ h
structure SlR (w : World) (A : Option Addr) (n sz : Nat) (vs : List Value) : Prop where
 len : vs.length = n * sz
 some_ : 0 < n → A.isSome = true
 cell : ∀ j v, vs[j]? = some v → w.cell? ((adr A).add j) = some v
theorem cell?_lt {w : World} {a : Addr} {v : Value} (h : w.cell? a = some v) : a.block < w.heap.size := by
 unfold World.cell? at h
 split at h
 ·rename_i hb; exact lt_of_heap hb
 ·cases h
theorem add_block (a : Addr) (k : Nat) : (a.add k).block = a.block := by unfold Addr.add; split <;> rfl
theorem add_add (a : Addr) (i j : Nat) : (a.add i).add j = a.add (i + j) := by
 unfold Addr.add
 by_cases hi : i = 0 <;> by_cases hj : j = 0 <;> simp [hi, hj, Nat.add_assoc]
theorem St.cellKeep {w0 w : World} {T : List Nat} {L : Hp} (h : St w0 T L w) {a : Addr} {v : Value} (hc : w0.cell? a = some v) (hT : a.block ∉ T) : w.cell? a = some v := by
 rw [World.cell?_of_block (h.keep _ (cell?_lt hc) hT)]; exact hc
section
variable {w0 w w' : World} {A : Option Addr} {n sz : Nat} {vs : List Value} {T : List Nat} {L : Hp}
theorem SlR.st (h : SlR w0 A n sz vs) (hs : St w0 T L w) (hT : 0 < n → (adr A).block ∉ T) : SlR w A n sz vs :=
 ⟨h.len, h.some_, fun j v hv => hs.cellKeep (h.cell j v hv) (by
  rw [add_block]
  refine hT ?_
  have := (List.getElem?_eq_some_iff.1 hv).1
  rw [h.len] at this
  rcases Nat.eq_zero_or_pos n with h0 | h0
  ·rw [h0] at this; omega
  ·exact h0)⟩
theorem SlR.st0 (h : SlR w0 A n sz vs) (hs : St w0 [] L w) : SlR w A n sz vs := h.st hs (fun _ => by simp)
theorem SlR.nil (w : World) (A : Option Addr) (sz : Nat) : SlR w A 0 sz [] := ⟨by simp, fun h => absurd h (by omega), fun j v h => by simp at h⟩
theorem SlR.block {b off : Nat} {cl : List Value} {e : TypeId} {fz : Nat × Nat} (h : w.heap[b]? = some (.cells cl.toArray e fz)) (hv : (cl.drop off).take (n * sz) = vs) (hl : vs.length = n * sz) : SlR w (some ⟨b, off, none⟩) n sz vs :=
 ⟨hl, fun _ => rfl, fun j v hj => by
  have e1 : (adr (some ⟨b, off, none⟩)).add j = ⟨b, off + j, none⟩ := by unfold adr Addr.add; split <;> simp_all
  rw [e1]
  refine cell_of_heap h ?_
  rw [← hj, ← hv]
  have : j < n * sz := by
   rw [← hl]; exact (List.getElem?_eq_some_iff.1 hj).1
  rw [List.getElem?_take, if_pos this, List.getElem?_drop]⟩
theorem SlR.lds {P : Program} (h : SlR w A n sz vs) {j m : Nat} {us : List Value} (hv : (vs.drop j).take m = us) (hl : us.length = m) : (loadCells ((adr A).add j) m).run P w = .ok us.toArray w := by
 rw [run_loadCells w _ m (fun i => us.getD i undef) (fun i hi => ?_)]
 ·congr 1
  congr 1
  apply List.ext_getElem?
  intro i
  simp only [List.getElem?_map]
  by_cases hi : i < m
  ·simp [List.getElem?_range hi, List.getD, show i < us.length by omega]
  ·simp [List.getElem?_eq_none (l := List.range m) (i := i) (by simp; omega), List.getElem?_eq_none (l := us) (i := i) (by omega)]
 ·rw [add_add]
  refine h.cell _ _ ?_
  have h1 : us[i]? = vs[j + i]? := by
   rw [← hv, List.getElem?_take, if_pos hi, List.getElem?_drop]
  rw [← h1]
  simp [List.getD, show i < us.length by omega]
theorem SlR.cut (h : SlR w A n sz vs) {lo hi : Nat} (h1 : lo ≤ hi) (h2 : hi ≤ n) : SlR w (A.map (·.add (lo * sz))) (hi - lo) sz ((vs.drop (lo * sz)).take ((hi - lo) * sz)) := by
 refine ⟨?_, fun hp => ?_, fun j v hv => ?_⟩
 ·rw [List.length_take, List.length_drop, h.len]
  have : (hi - lo) * sz ≤ n * sz - lo * sz := by rw [← Nat.sub_mul]; exact Nat.mul_le_mul_right _ (by omega)
  omega
 ·have := h.some_ (by omega)
  cases A <;> simp_all
 ·by_cases hp : 0 < hi - lo
  ·have hA := h.some_ (by omega)
   obtain ⟨a, rfl⟩ := Option.isSome_iff_exists.1 hA
   have e : (adr ((some a).map (·.add (lo * sz)))).add j = (adr (some a)).add (lo * sz + j) := by simp [adr, add_add]
   rw [e]
   refine h.cell _ _ ?_
   rw [List.getElem?_take] at hv
   split at hv
   ·rw [List.getElem?_drop] at hv; exact hv
   ·cases hv
  ·have : hi - lo = 0 := by omega
   rw [this] at hv
   simp at hv
end
structure Enc (α : Type) where
 sz : Nat
 enc : α → List Value
 dflt : α
 len : ∀ x, (enc x).length = sz
 one : ∀ x v, v ∈ enc x → v.oneCell' = true
 pos : 0 < sz
def rows {α : Type} (F : Enc α) (xs : List α) : List Value := xs.flatMap F.enc
def gat {α : Type} (F : Enc α) (xs : List α) (k : Nat) : α := xs.getD k F.dflt
section
variable {α : Type} {F : Enc α} {xs : List α} {k : Nat}
theorem rows_cons (x : α) : rows F (x :: xs) = F.enc x ++ rows F xs := rfl
theorem rows_append (a b : List α) : rows F (a ++ b) = rows F a ++ rows F b := by simp [rows]
theorem rows_len : ∀ (xs : List α), (rows F xs).length = xs.length * F.sz
 | [] => by simp [rows]
 | x :: r => by rw [rows_cons, List.length_append, F.len, rows_len r, List.length_cons, Nat.succ_mul]; omega
theorem rows_one : ∀ u, u ∈ rows F xs → u.oneCell' = true := by
 intro u hu
 obtain ⟨x, _, hx⟩ := List.mem_flatMap.1 hu
 exact F.one x u hx
theorem gat_get (h : k < xs.length) : xs[k]? = some (gat F xs k) := by simp [gat, List.getElem?_eq_getElem h, List.getD]
theorem gat_mem (h : k < xs.length) : gat F xs k ∈ xs := List.mem_of_getElem? (gat_get h)
theorem rows_drop : ∀ (xs : List α) (k : Nat), (rows F xs).drop (k * F.sz) = rows F (xs.drop k)
 | xs, 0 => by simp
 | [], k + 1 => by simp [rows]
 | x :: r, k + 1 => by
  rw [rows_cons, List.drop_append, List.drop_of_length_le (by rw [F.len, Nat.succ_mul]; omega), F.len, List.nil_append, List.drop_succ_cons, ← rows_drop r k]
  congr 1
  rw [Nat.succ_mul]; omega
theorem rows_take : ∀ (xs : List α) (k : Nat), (rows F xs).take (k * F.sz) = rows F (xs.take k)
 | xs, 0 => by simp [rows]
 | [], k + 1 => by simp [rows]
 | x :: r, k + 1 => by
  rw [rows_cons, List.take_append, List.take_of_length_le (by rw [F.len, Nat.succ_mul]; omega), F.len, List.take_succ_cons, rows_cons, ← rows_take r k]
  congr 2
  rw [Nat.succ_mul]; omega
theorem rows_at (h : k < xs.length) : ((rows F xs).drop (k * F.sz)).take F.sz = F.enc (gat F xs k) := by
 have e : xs.drop k = gat F xs k :: xs.drop (k + 1) := by
  rw [List.drop_eq_getElem_cons h]; congr 1; simp [gat, List.getElem?_eq_getElem h, List.getD]
 rw [rows_drop, e, rows_cons, List.take_append_of_le_length (by rw [F.len]; exact Nat.le_refl _), List.take_of_length_le (by rw [F.len]; exact Nat.le_refl _)]
theorem rows_get (h : k < xs.length) {off : Nat} (ho : off < F.sz) : (rows F xs)[k * F.sz + off]? = (F.enc (gat F xs k))[off]? := by
 rw [← rows_at h, List.getElem?_take, if_pos ho, List.getElem?_drop]
end
def encB : Enc UInt8 := ⟨1, fun b => [.int .u8 b.toNat], 0, fun _ => rfl, fun x v h => by simp at h; subst h; rfl, by decide⟩
def encI : Enc Int := ⟨1, fun n => [i64 n], 0, fun _ => rfl, fun x v h => by simp at h; subst h; rfl, by decide⟩
def encS : Enc ByteArray := ⟨1, fun n => [.string n], { data := #[] }, fun _ => rfl, fun x v h => by simp at h; subst h; rfl, by decide⟩
abbrev bytesV (l : List UInt8) : List Value := rows encB l
abbrev intsV (l : List Int) : List Value := rows encI l
abbrev bat (l : List UInt8) (k : Nat) : UInt8 := gat encB l k
abbrev iat (l : List Int) (k : Nat) : Int := gat encI l k
theorem bytesV_map (l : List UInt8) : bytesV l = l.map fun b => .int .u8 b.toNat := by
 induction l with
 | nil => rfl
 | cons x r ih => exact congrArg (List.cons _) ih
theorem bytesV_get {l : List UInt8} {k : Nat} (h : k < l.length) : (bytesV l)[k]? = some (.int .u8 (bat l k).toNat) := by
 have := rows_get (F := encB) h (off := 0) (by decide)
 rw [show k * encB.sz + 0 = k from by show k * 1 + 0 = k; omega] at this
 exact this
theorem bytesV_len (l : List UInt8) : (bytesV l).length = l.length := by rw [rows_len]; simp [encB]
structure SlF {α : Type} (F : Enc α) (w : World) (A : Option Addr) (n : Nat) (xs : List α) : Prop where
 len : xs.length = n
 rd : SlR w A n F.sz (rows F xs)
abbrev SlB := SlF encB
abbrev SlI := SlF encI
section
variable {α : Type} {F : Enc α} {w0 w w' : World} {A : Option Addr} {n k : Nat} {T : List Nat} {L : Hp} {xs : List α}
theorem SlF.nil (w : World) (A : Option Addr) : SlF F w A 0 [] := ⟨rfl, SlR.nil _ _ _⟩
theorem SlF.st0 (h : SlF F w0 A n xs) (hs : St w0 [] L w) : SlF F w A n xs := ⟨h.len, h.rd.st0 hs⟩
theorem SlF.st (h : SlF F w0 A n xs) (hs : St w0 T L w) (hT : 0 < n → (adr A).block ∉ T) : SlF F w A n xs := ⟨h.len, h.rd.st hs hT⟩
theorem SlF.some_ (h : SlF F w A n xs) : 0 < n → A.isSome = true := h.rd.some_
theorem SlF.fld (h : SlF F w A n xs) {off : Nat} {v : Value} (hk : k < n) (hv : (F.enc (gat F xs k))[off]? = some v) : w.cell? (((adr A).add (k * F.sz)).add off) = some v := by
 have ho : off < F.sz := by rw [← F.len (gat F xs k)]; exact (List.getElem?_eq_some_iff.1 hv).1
 rw [add_add]
 exact h.rd.cell _ _ ((rows_get (by rw [h.len]; exact hk) ho).trans hv)
theorem SlF.one1 (h : SlF F w A n xs) {v : Value} (hk : k < n) (hv : (F.enc (gat F xs k))[0]? = some v) : w.cell? ((adr A).add (k * F.sz)) = some v := by
 have := h.fld (off := 0) hk hv
 rwa [add_add, Nat.add_zero] at this
theorem SlF.whole {P : Program} (h : SlF F w A n xs) (hk : k < n) : (loadCells ((adr A).add (k * F.sz)) F.sz).run P w = .ok (F.enc (gat F xs k)).toArray w :=
 h.rd.lds (rows_at (by rw [h.len]; exact hk)) (F.len _)
theorem SlF.own {b : Nat} {e : TypeId} {fz : Nat × Nat} (h : w.heap[b]? = some (.cells (rows F xs).toArray e fz)) : SlF F w (some ⟨b, 0, none⟩) xs.length xs :=
 ⟨rfl, SlR.block (off := 0) h (by rw [List.drop_zero, List.take_of_length_le (by rw [rows_len]; exact Nat.le_refl _)]) (by rw [rows_len])⟩
theorem SlF.ownN {b n : Nat} {e : TypeId} {fz : Nat × Nat} (hl : xs.length = n) (h : w.heap[b]? = some (.cells (rows F xs).toArray e fz)) : SlF F w (some ⟨b, 0, none⟩) n xs := by subst hl; exact SlF.own h
end
theorem SlB.ownN {w : World} {b n : Nat} {xs : List UInt8} {e : TypeId} {fz : Nat × Nat} (hl : xs.length = n) (h : w.heap[b]? = some (.cells (bytesV xs).toArray e fz)) : SlB w (some ⟨b, 0, none⟩) n xs := SlF.ownN hl h
theorem SlI.ownN {w : World} {b n : Nat} {xs : List Int} {e : TypeId} {fz : Nat × Nat} (hl : xs.length = n) (h : w.heap[b]? = some (.cells (intsV xs).toArray e fz)) : SlI w (some ⟨b, 0, none⟩) n xs := SlF.ownN hl h
theorem madeCells_list (z : List Value) (n : Nat) : (madeCells z.toArray (n * z.length)).toList = (List.replicate n z).flatten := by
 unfold madeCells
 apply List.ext_getElem?
 intro i
 simp only [Array.toList_map, Array.toList_range, List.size_toArray, List.getElem?_map]
 by_cases hi : i < n * z.length
 ·have hz : 0 < z.length := by
   rcases Nat.eq_zero_or_pos z.length with h | h
   ·rw [h] at hi; omega
   ·exact h
  rw [List.getElem?_range hi]
  have hm : i % z.length < z.length := Nat.mod_lt _ hz
  simp only [Option.map_some]
  have e1 : z.toArray[i % z.length]! = z[i % z.length] := by simp [hm]
  rw [e1]
  clear e1
  induction n generalizing i with
  | zero => omega
  | succ n ih =>
   rw [List.replicate_succ, List.flatten_cons]
   by_cases hlt : i < z.length
   ·rw [List.getElem?_append_left hlt]
    simp [Nat.mod_eq_of_lt hlt, hlt]
   ·rw [List.getElem?_append_right (by omega)]
    have h2 : i - z.length < n * z.length := by rw [Nat.succ_mul] at hi; omega
    have h3 : i % z.length = (i - z.length) % z.length := by
     rw [Nat.mod_eq_sub_mod (by omega)]
    have := ih (i := i - z.length) h2 (Nat.mod_lt _ hz)
    rw [← this]
    congr 1
    simp only [h3]
 ·rw [List.getElem?_eq_none (by simp; omega), List.getElem?_eq_none (by simp; omega)]
  rfl
section
variable {P : Program} {n : Nat} {ol rest : List Oper} {o : Oper} {K : Fr → World → Prop} {f : Fr} {w0 w w' : World} {T : List Nat} {L : Hp} {d : Nat} {v : Value}
theorem WL.storeI (hst : St w0 T L w) (i : Nat) {t : TypeId} {x y : Operand} {b off : Nat} {cl : List Value} {e : TypeId} {lo hi : Nat} (hz : ∀ w, (sizeOf t).run P w = .ok 1 w) (ho : o.op = .store t x y) (hw : want ol o f = some true) (hd : o.dst = none)
  (hx : ev f x = some (.pointer (some ⟨b, off, none⟩))) (hy : ev f y = some v) (hi' : nthL L i = some (b, .cells cl.toArray e (lo, hi))) (hv : v.oneCell' = true) (hlt : off < cl.length) (hfz : ¬ (lo ≤ off ∧ off < hi))
  (k : ∀ w', St w0 T (setL L i (.cells (cl.set off v).toArray e (lo, hi))) w' → WL P n ol rest K f w') : WL P n ol (o :: rest) K f w := by
 refine WL.store hst i hz ho hw hd hx hy hi' hv (Nat.ble_eq_true_of_le hlt) ?_ (cl' := cl.set off v) (setV_eq _ _ _) k
 cases h1 : Nat.ble lo off <;> cases h2 : Nat.blt off hi <;> try rfl
 exact absurd ⟨Nat.le_of_ble_eq_true h1, Nat.le_of_ble_eq_true h2⟩ hfz
theorem storeCells_ours : ∀ (vs : List Value) (i : Nat) (w : World) (b off : Nat) (cl : List Value) (e : TypeId) (fz : Nat × Nat), w.heap[b]? = some (.cells cl.toArray e fz) → (∀ v, v ∈ vs → v.oneCell' = true) → off + i + vs.length ≤ cl.length → (∀ j, ¬ (fz.1 ≤ j ∧ j < fz.2) ∨ ¬ (off + i ≤ j ∧ j < off + i + vs.length)) →
  ∃ w', (storeCells ⟨b, off, none⟩ vs i).run P w = .ok () w' ∧ w'.heap[b]? = some (.cells (cl.take (off + i) ++ vs ++ cl.drop (off + i + vs.length)).toArray e fz) ∧ (∀ k, k ≠ b → w'.heap[k]? = w.heap[k]?) ∧ w'.os = w.os ∧ w'.tape = w.tape ∧ w'.output = w.output ∧ w'.heap.size = w.heap.size
 | [], i, w, b, off, cl, e, fz, hh, _, _, _ => ⟨w, by simp [storeCells], by simp [hh], fun _ _ => rfl, rfl, rfl, rfl, rfl⟩
 | v :: r, i, w, b, off, cl, e, fz, hh, h1, hl, hf => by
  simp only [List.length_cons] at hl hf
  have hlt : off + i < cl.length := by omega
  have e1 : (⟨b, off, none⟩ : Addr).add i = ⟨b, off + i, none⟩ := by unfold Addr.add; split <;> simp_all
  have hst : (store (⟨b, off + i, none⟩ : Addr) v).run P w = .ok () (w.setCell ⟨b, off + i, none⟩ v) := by
   refine run_store_ours (h1 v List.mem_cons_self) ?_ ?_
   ·rw [cell_of_heap (v := cl[off + i]) hh (by simp [hlt])]; rfl
   ·simp only [World.frozen?, hh]
    rw [Bool.eq_false_iff]
    intro hh2
    simp only [Bool.and_eq_true, decide_eq_true_eq] at hh2
    rcases hf (off + i) with h | h
    ·exact h hh2
    ·exact h ⟨by omega, by omega⟩
  have hh' : (w.setCell ⟨b, off + i, none⟩ v).heap[b]? = some (.cells (cl.set (off + i) v).toArray e fz) := by
   simp [World.setCell, Array.getElem?_modify, hh]
  obtain ⟨w', hr, g1, g2, g3, g4, g5, g6⟩ := storeCells_ours r (i + 1) _ b off (cl.set (off + i) v) e fz hh' (fun u hu => h1 u (List.mem_cons_of_mem _ hu)) (by simp; omega) (fun j => (hf j).imp id (fun h hh => h ⟨by omega, by omega⟩))
  refine ⟨w', ?_, ?_, fun k hk => (g2 k hk).trans (Below.heap_setCell _ _ _ _ hk), g3, g4, g5, by rw [g6]; simp [World.setCell]⟩
  ·simp only [storeCells, e1, Sem.run_bind, hst, Result.andThen]
   exact hr
  ·rw [g1]
   congr 3
   have e2 : off + (i + 1) = off + i + 1 := by omega
   rw [e2, List.take_add_one, List.take_set_of_le (Nat.le_refl _), List.drop_set_of_lt (by omega)]
   simp [hlt]
   omega
theorem WL.storeA (hst : St w0 T L w) (i : Nat) {t : TypeId} {x y : Operand} {b off sz : Nat} {cl vs : List Value} {e : TypeId} {lo hi : Nat} (hz : ∀ w, (sizeOf t).run P w = .ok sz w) (ho : o.op = .store t x y) (hw : want ol o f = some true) (hd : o.dst = none)
  (hx : ev f x = some (.pointer (some ⟨b, off, none⟩))) (hy : ev f y = some v) (hvs : cellsOf v = vs) (hi' : nthL L i = some (b, .cells cl.toArray e (lo, hi))) (h1 : vs.all (·.oneCell') = true) (hsz : vs.length = sz) (hlt : off + sz ≤ cl.length) (hfz : hi ≤ lo ∨ hi ≤ off ∨ off + sz ≤ lo)
  (k : ∀ w', St w0 T (setL L i (.cells (cl.take off ++ vs ++ cl.drop (off + sz)).toArray e (lo, hi))) w' → WL P n ol rest K f w') : WL P n ol (o :: rest) K f w := by
 subst hsz
 have hown := hst.own _ (nthL_mem hi')
 obtain ⟨w', hr, g1, g2, g3, g4, g5, g6⟩ := storeCells_ours (P := P) vs 0 w b off cl e (lo, hi) hown.1 (fun u hu => List.all_eq_true.1 h1 u hu) (by omega) (fun j => by
  by_cases hj : lo ≤ j ∧ j < hi
  ·exact .inr (by omega)
  ·exact .inl hj)
 refine WL.unit (w' := w') hw hd (fun ρ hρ => ?_) (k _ ?_)
 ·have hc : v.cells.size = vs.length := by rw [cellsOf_eq, hvs]; simp
  have hc2 : v.cells.toList = vs := by rw [cellsOf_eq, hvs]
  simp [execOp, ho, hρ _ _ hx, hρ _ _ hy, Instr.storeAt, Instr.sureAddr, storeVar, hz, hc, hc2, hr]
 ·refine ⟨g3.trans hst.os, g4.trans hst.tape, g5.trans hst.output, by rw [g6]; exact hst.size, fun k hk hT => ?_, fun p hp => ?_, by rw [setL_keys]; exact hst.nodup⟩
  ·refine (g2 k ?_).trans (hst.keep k hk hT)
   rintro rfl
   rcases hown.2 with h | h
   ·simp only at h; omega
   ·exact hT h
  ·rcases setL_mem hi' hst.nodup hp with rfl | ⟨hm, hne⟩
   ·exact ⟨by simpa using g1, hown.2⟩
   ·exact ⟨(g2 _ hne).trans (hst.own p hm).1, (hst.own p hm).2⟩
end
theorem foldl_set (off : Nat) : ∀ (vs : List Value) (j : Nat) (cells : Array Value), off + j + vs.length ≤ cells.size →
  ((vs.zipIdx j).foldl (fun cs (p : Value × Nat) => cs.setIfInBounds (off + p.2) p.1) cells).toList = cells.toList.take (off + j) ++ vs ++ cells.toList.drop (off + j + vs.length)
 | [], j, cells, h => by simp
 | v :: r, j, cells, h => by
  simp only [List.length_cons] at h
  rw [List.zipIdx_cons, List.foldl_cons, foldl_set off r (j + 1) _ (by simp; omega)]
  have hlt : off + j < cells.toList.length := by simp; omega
  simp only [Array.toList_setIfInBounds]
  have e2 : off + (j + 1) = off + j + 1 := by omega
  rw [e2, List.take_add_one, List.take_set_of_le (Nat.le_refl _), List.drop_set_of_lt (by omega)]
  simp [show off + j < cells.size by omega]
  omega
theorem foldl_set_size (off : Nat) : ∀ (zs : List (Value × Nat)) (cells : Array Value), (zs.foldl (fun cs (p : Value × Nat) => cs.setIfInBounds (off + p.2) p.1) cells).size = cells.size
 | [], _ => rfl
 | p :: q, cells => by rw [List.foldl_cons, foldl_set_size off q]; simp
theorem fill_full {sz : Nat} : ∀ (vs : List Value) (k : Nat) (cells : Array Value), (∀ v, v ∈ vs → (cellsOf v).length = sz) → k * sz + vs.length * sz ≤ cells.size →
  ∃ out, Instr.fill (fun i => some (i * sz, sz)) cells ((vs.zipIdx k).map fun p => (p.2, p.1)) = some out ∧ out.toList = cells.toList.take (k * sz) ++ vs.flatMap cellsOf ++ cells.toList.drop (k * sz + vs.length * sz)
 | [], k, cells, _, _ => ⟨cells, rfl, by simp⟩
 | v :: r, k, cells, hv, h => by
  have h0 := hv v List.mem_cons_self
  have hc : v.cells.size = sz := by rw [cellsOf_eq]; simpa using h0
  simp only [List.length_cons, Nat.succ_mul] at h
  have hf := foldl_set (k * sz) (cellsOf v) 0 cells (by rw [h0]; omega)
  generalize hg : (((cellsOf v).zipIdx 0).foldl (fun cs (p : Value × Nat) => cs.setIfInBounds (k * sz + p.2) p.1) cells) = c1 at hf
  have hsz : c1.size = cells.size := by
   rw [← hg]
   generalize (cellsOf v).zipIdx 0 = zs
   exact foldl_set_size _ zs cells
  obtain ⟨out, ho, hl⟩ := fill_full r (k + 1) c1 (fun u hu => hv u (List.mem_cons_of_mem _ hu)) (by rw [hsz, Nat.succ_mul]; omega)
  refine ⟨out, ?_, ?_⟩
  ·rw [List.zipIdx_cons, List.map_cons]
   unfold Instr.fill
   have hn : ¬ (v.cells.size ≠ sz ∨ k * sz + v.cells.size > cells.size) := by rw [hc]; omega
   simp only [hc]
   have e1 : (decide (sz ≠ sz) || decide (k * sz + sz > cells.size)) = false := by simp; omega
   simp only [e1, Bool.false_eq_true, if_false]
   have e2 : (v.cells.zipIdx.foldl (fun cs (x : Value × Nat) => match x with | (c, j) => cs.setIfInBounds (k * sz + j) c) cells) = c1 := by
    rw [cellsOf_eq, ← Array.foldl_toList, Array.toList_zipIdx]
    exact hg
   rw [e2]
   exact ho
  ·rw [hl, hf]
   simp only [List.length_cons, List.flatMap_cons, Nat.succ_mul, Nat.add_zero, h0]
   have e3 : (cells.toList.take (k * sz) ++ cellsOf v).length = k * sz + sz := by simp [h0]; omega
   rw [List.take_append_of_le_length (by rw [e3]; exact Nat.le_refl _), List.take_of_length_le (by rw [e3]; exact Nat.le_refl _)]
   rw [List.drop_append, List.drop_of_length_le (by rw [e3]; omega), e3, List.drop_drop]
   simp only [List.nil_append, List.append_assoc]
   congr 4
   omega
section
variable {P : Program} {n : Nat} {ol rest : List Oper} {o : Oper} {K : Fr → World → Prop} {f : Fr} {w0 w w' : World} {T : List Nat} {L : Hp} {d : Nat} {v : Value}
theorem WL.buildSlice (hst : St w0 T L w) {t e : TypeId} {len sz : Nat} {z : Value} {parts : Array (Nat × Operand)} {vs : List Value} (hu : ∀ w, (underlying t).run P w = .ok (.slice e) w) (hz : ∀ w, (sizeOf e).run P w = .ok sz w) (hzv : ∀ w, (zeroValue e).run P w = .ok z w) (hzs : Nat.beq (cellsOf z).length sz = true)
  (ho : o.op = .buildSlice t len parts) (hw : want ol o f = some true) (hd : o.dst = some d) (hn : Nat.blt d n = true) (hv : evs f (parts.toList.map (·.2)) = some vs) (hix : parts.toList.map (·.1) = List.range len) (hl : Nat.beq vs.length len = true) (hcs : vs.all (fun v => Nat.beq (cellsOf v).length sz) = true) (hbig : Nat.ble (len * sz) 16777216 = true)
  (k : ∀ b w', St w0 T ((b, .cells (vs.flatMap cellsOf).toArray e (0, 0)) :: L) w' → WL P n ol rest K ((d, .slice (some ⟨b, 0, none⟩) len len) :: f) w') : WL P n ol (o :: rest) K f w := by
 have hl' := Nat.eq_of_beq_eq_true hl
 have hb' := Nat.le_of_ble_eq_true hbig
 have hcs' : ∀ v, v ∈ vs → (cellsOf v).length = sz := fun v hm => Nat.eq_of_beq_eq_true (List.all_eq_true.1 hcs v hm)
 refine WL.val (w' := w.alloc (.cells (vs.flatMap cellsOf).toArray e (0, 0))) hw hd hn (fun ρ hρ => ?_) (k _ _ (hst.alloc _))
 have hp : (parts.map fun p => (p.1, ρ p.2)).toList = (vs.zipIdx 0).map fun p => (p.2, p.1) := by
  have hm := evs_map hρ hv
  apply List.ext_getElem?
  intro i
  simp only [Array.toList_map, List.getElem?_map, List.getElem?_zipIdx]
  have h1 := congrArg (fun l => l[i]?) hm
  have h2 := congrArg (fun l => l[i]?) hix
  simp only [List.map_map, List.getElem?_map] at h1 h2
  cases hpi : parts.toList[i]? with
  | none =>
   rw [hpi] at h1
   cases hvi : vs[i]? with
   | none => simp
   | some u => rw [hvi] at h1; simp at h1
  | some p =>
   rw [hpi] at h1 h2
   cases hvi : vs[i]? with
   | none => rw [hvi] at h1; simp at h1
   | some u =>
    rw [hvi] at h1
    simp only [Option.map_some, Option.some.injEq, Function.comp_apply] at h1
    have hlt : i < len := by rw [← hl']; exact (List.getElem?_eq_some_iff.1 hvi).1
    rw [List.getElem?_range hlt] at h2
    simp only [Option.map_some, Option.some.injEq] at h2
    simp [h2, h1]
 obtain ⟨out, hf, hol⟩ := fill_full (sz := sz) vs 0 ((Array.range (len * sz)).map (fun i => z.cells[i % z.cells.size]!)) hcs' (by simp [hl'])
 have hout : out = (vs.flatMap cellsOf).toArray := by
  apply Array.toList_inj.1
  rw [hol]
  simp [hl']
 by_cases h0 : len * sz = 0
 ·have hv0 : vs.flatMap cellsOf = [] := by
   rw [List.eq_nil_iff_length_eq_zero]
   have : out.toList.length = _ := congrArg List.length hol
   have hz0 : (vs.flatMap cellsOf).length = len * sz := by
    rw [List.length_flatMap]
    have : vs.map (fun a => (cellsOf a).length) = vs.map (fun _ => sz) := List.map_congr_left hcs'
    rw [this, List.map_const', List.sum_replicate_nat, hl']
   rw [hz0, h0]
  have hf0 : Instr.fill (fun i => some (i * sz, sz)) #[] ((vs.zipIdx 0).map fun p => (p.2, p.1)) = some #[] := by
   have hr : (Array.range (len * sz)).map (fun i => z.cells[i % z.cells.size]!) = #[] := by rw [h0]; simp
   rw [hr] at hf
   rw [hf, hout, hv0]
  simp [execOp, ho, Instr.buildSlice, hu, hz, h0, newRow, hv0]
  have := hp
  simp only [Array.toList_map] at this
  rw [this, show (Array.map (fun _ => (default : Value)) (Array.range 0)) = #[] from by simp, hf0]
  simp
 ·simp [execOp, ho, Instr.buildSlice, hu, hz, h0, newRow, hzv]
  have h16 : ¬ 16777216 < len * sz := by omega
  have := hp
  simp only [Array.toList_map] at this
  simp only [h16, if_false]
  rw [this, hf, hout]
  simp
end
def Own (e : TypeId) (sz : Nat) (v : Value) (n : Nat) (vs : List Value) (L : Hp) : Prop :=
 vs.length = n * sz ∧ (((∃ A, v = .slice A 0 0) ∧ n = 0 ∧ L = []) ∨
  ∃ (g cap o : Nat) (pre cl : List Value) (fz : Nat × Nat), v = .slice (some ⟨g, o, none⟩) n cap ∧ L = [(g, .cells (pre ++ cl).toArray e fz)] ∧ n ≤ cap ∧ cap ≤ maxLen ∧ cl.length = cap * sz ∧ cl.take (n * sz) = vs ∧ (fz.2 ≤ fz.1 ∨ (pre ++ cl).length ≤ fz.1) ∧ pre.length = o)
theorem splice_pre {pre cl vs : List Value} {k s : Nat} : (pre ++ cl).take (pre.length + k) ++ vs ++ (pre ++ cl).drop (pre.length + k + s) = pre ++ (cl.take k ++ vs ++ cl.drop (k + s)) := by
 rw [Nat.add_assoc, List.take_length_add_append, List.drop_length_add_append]
 simp only [List.append_assoc]
theorem addr_at (g o k : Nat) : (⟨g, o, none⟩ : Addr).add k = ⟨g, o + k, none⟩ := by unfold Addr.add; split <;> simp_all
section
variable {e : TypeId} {sz n : Nat} {v : Value} {vs : List Value} {L : Hp} {w : World}
theorem Own.nil (e : TypeId) (sz : Nat) : Own e sz (.slice none 0 0) 0 [] [] := ⟨by simp, .inl ⟨⟨none, rfl⟩, rfl, rfl⟩⟩
theorem Own.nilA (e : TypeId) (sz : Nat) (A : Option Addr) : Own e sz (.slice A 0 0) 0 [] [] := ⟨by simp, .inl ⟨⟨A, rfl⟩, rfl, rfl⟩⟩
theorem Own.rd (h : Own e sz v n vs L) (ho : ∀ p, p ∈ L → w.heap[p.1]? = some p.2) : ∃ A c, v = .slice A n c ∧ SlR w A n sz vs := by
 rcases h.2 with ⟨⟨A, rfl⟩, rfl, rfl⟩ | ⟨g, cap, o, pre, cl, fz, rfl, rfl, hn, hc, hl, ht, hfz, rfl⟩
 ·have : vs = [] := List.eq_nil_of_length_eq_zero (by simpa using h.1)
  subst this
  exact ⟨A, 0, rfl, SlR.nil _ _ _⟩
 ·exact ⟨_, cap, rfl, SlR.block (off := pre.length) (ho _ List.mem_cons_self) (by rw [List.drop_left]; exact ht) h.1⟩
theorem Own.keys (h : Own e sz v n vs L) : (L.map (·.1)).Nodup := by
 rcases h.2 with ⟨⟨A, rfl⟩, rfl, rfl⟩ | ⟨g, cap, o, pre, cl, fz, rfl, rfl, _⟩ <;> simp
theorem Own.row {g : Nat} {cl : List Value} (hl : cl.length = n * sz) (hn : n ≤ maxLen) : Own e sz (.slice (some ⟨g, 0, none⟩) n n) n cl [(g, .cells cl.toArray e (0, 0))] :=
 ⟨hl, .inr ⟨g, n, 0, [], cl, (0, 0), rfl, rfl, Nat.le_refl _, hn, hl, by rw [List.take_of_length_le (by omega)], .inl (Nat.le_refl _), rfl⟩⟩
end
section
variable {P : Program} {w0 w : World} {T : List Nat} {L : Hp}
theorem St.stored (hst : St w0 T L w) (i : Nat) {b off : Nat} {cl vs : List Value} {e : TypeId} {lo hi : Nat} (hi' : nthL L i = some (b, .cells cl.toArray e (lo, hi))) (h1 : ∀ v, v ∈ vs → v.oneCell' = true) (hlt : off + vs.length ≤ cl.length) (hfz : hi ≤ lo ∨ hi ≤ off ∨ off + vs.length ≤ lo) :
  ∃ w', (storeCells ⟨b, off, none⟩ vs).run P w = .ok () w' ∧ St w0 T (setL L i (.cells (cl.take off ++ vs ++ cl.drop (off + vs.length)).toArray e (lo, hi))) w' := by
 have hown := hst.own _ (nthL_mem hi')
 obtain ⟨w', hr, g1, g2, g3, g4, g5, g6⟩ := storeCells_ours (P := P) vs 0 w b off cl e (lo, hi) hown.1 h1 (by omega) (fun j => by
  by_cases hj : lo ≤ j ∧ j < hi
  ·exact .inr (by omega)
  ·exact .inl hj)
 refine ⟨w', hr, g3.trans hst.os, g4.trans hst.tape, g5.trans hst.output, by rw [g6]; exact hst.size, fun k hk hT => ?_, fun p hp => ?_, by rw [setL_keys]; exact hst.nodup⟩
 ·refine (g2 k ?_).trans (hst.keep k hk hT)
  rintro rfl
  rcases hown.2 with h | h
  ·simp only at h; omega
  ·exact hT h
 ·rcases setL_mem hi' hst.nodup hp with rfl | ⟨hm, hne⟩
  ·exact ⟨by simpa using g1, hown.2⟩
  ·exact ⟨(g2 _ hne).trans (hst.own p hm).1, (hst.own p hm).2⟩
theorem run_append_ours {t tx ty e : TypeId} {i : TypeInfo} {z : Value} {zl : List Value} {sz n m : Nat} {v x : Value} {vs news : List Value} {L1 R : Hp} (ht : P.underlying t = some (.slice e)) (hi : P.info? e = some i) (hz : i.zero = some z) (hzl : cellsOf z = zl) (hs1 : i.size = sz) (hs2 : zl.length = sz)
  (hst : St w0 T (L1 ++ R) w) (hown : Own e sz v n vs L1) (hs : Src P sz tx x m news w) (hbytes : (n + m) * i.bytes ≤ 140737488355328) (h63 : n + m ≤ maxLen) :
  ∃ v' L1' w', (Builtin.append_ #[t, tx] ty #[v, x]).run P w = .ok v' w' ∧ St w0 T (L1' ++ R) w' ∧ Own e sz v' (n + m) (vs ++ news) L1' := by
 subst hs1
 have hzc : z.cells.size = i.size := by rw [cellsOf_eq, hzl]; simpa using hs2
 have hlen : (vs ++ news).length = (n + m) * i.size := by rw [List.length_append, hown.1, hs.newsLen, Nat.add_mul]
 have h63' : ((n + m : Nat) : Int) ≤ 9223372036854775807 := by simp only [maxLen] at h63; omega
 -- a new row
 have grow : ∀ (base : Option Addr) (cap : Nat), v = .slice base n cap → cap < n + m → (Builtin.firstCells i.size n (.slice base n cap)).run P w.drew = .ok vs.toArray w.drew →
   ∃ v' L1' w', (Builtin.append_ #[t, tx] ty #[v, x]).run P w = .ok v' w' ∧ St w0 T (L1' ++ R) w' ∧ Own e i.size v' (n + m) (vs ++ news) L1' := by
  intro base cap hv hcap hold
  subst hv
  have hr := run_append_grow_src (P := P) w t tx ty e i z ht hi hz base n cap vs hold x m news hs hcap h63' (growslice_fits hcap hbytes)
  have hge := grownCap_ge w (n + m) cap e
  have hcm : grownCap w (n + m) cap e ≤ maxLen := grownCap_le_maxLen w (n + m) cap e h63
  have ec : ((vs ++ news).toArray ++ Builtin.zeroCells z.cells (grownCap w (n + m) cap e - (n + m))) = ((vs ++ news) ++ (Builtin.zeroCells z.cells (grownCap w (n + m) cap e - (n + m))).toList).toArray := by apply Array.toList_inj.1; simp
  rw [ec] at hr
  refine ⟨_, [(w.heap.size, .cells ((vs ++ news) ++ (Builtin.zeroCells z.cells (grownCap w (n + m) cap e - (n + m))).toList).toArray e (0, 0))], _, hr, ?_, hlen, .inr ⟨w.heap.size, _, 0, [], (vs ++ news) ++ (Builtin.zeroCells z.cells (grownCap w (n + m) cap e - (n + m))).toList, (0, 0), rfl, rfl, hge, hcm, ?_, ?_, .inl (Nat.le_refl _), rfl⟩⟩
  ·have h1 := (hst.drew.alloc (.cells ((vs ++ news) ++ (Builtin.zeroCells z.cells (grownCap w (n + m) cap e - (n + m))).toList).toArray e (0, 0)))
   refine (h1.drop (L' := (w.heap.size, _) :: R) ?_)
   exact List.Sublist.cons_cons _ (List.sublist_append_right L1 R)
  ·rw [List.length_append, hlen, Array.length_toList, size_zeroCells, hzc, ← Nat.add_mul]
   congr 1
   omega
  ·rw [← hlen]; exact List.take_left
 rcases hown.2 with ⟨⟨A, rfl⟩, rfl, rfl⟩ | ⟨g, cap, o, pre, cl, fz, rfl, rfl, hn, hc, hl, htk, hfz, rfl⟩
 ·have hvs : vs = [] := List.eq_nil_of_length_eq_zero (by simpa using hown.1)
  subst hvs
  by_cases hm : m = 0
  ·subst hm
   have hnews : news = [] := List.eq_nil_of_length_eq_zero (by simpa using hs.newsLen)
   subst hnews
   refine ⟨.slice A 0 0, [], w, ?_, hst, by simpa using Own.nilA e i.size A⟩
   have hst0 : ∀ a, (storeCells a []).run P w = .ok () w := fun a => by simp [storeCells]
   cases A <;> rcases hs.kind with ⟨e', hk⟩ | hk <;> simp [Builtin.append_, run_underlying ht, run_underlying hk, sizeOf, typeInfo, hi, hs.len, hs.cells, hst0]
  ·refine grow A 0 rfl (by omega) ?_
   cases A <;> simp [Builtin.firstCells, loadCells, loadCellsFrom]
 ·by_cases hroom : n + m ≤ cap
  ·have hfit : n * i.size + news.length ≤ cl.length := by rw [hs.newsLen, hl, ← Nat.add_mul]; exact Nat.mul_le_mul_right _ hroom
   have hpl : (pre ++ cl).length = pre.length + cl.length := List.length_append
   obtain ⟨w', hr, hs'⟩ := hst.stored (P := P) 0 (off := pre.length + n * i.size) (vs := news) rfl hs.one (by rw [hpl]; omega) (by rcases hfz with h | h <;> omega)
   rw [splice_pre] at hs'
   refine ⟨.slice (some ⟨g, pre.length, none⟩) (n + m) cap, [(g, .cells (pre ++ (cl.take (n * i.size) ++ news ++ cl.drop (n * i.size + news.length))).toArray e fz)], w', ?_, hs', hlen, .inr ⟨g, cap, _, pre, _, fz, rfl, rfl, hroom, hc, ?_, ?_, ?_, rfl⟩⟩
   ·rcases hs.kind with ⟨e', hk⟩ | hk <;> simp [Builtin.append_, run_underlying ht, run_underlying hk, sizeOf, typeInfo, hi, hs.len, hroom, hs.cells, addr_at, hr]
   ·simp only [List.length_append, List.length_take, List.length_drop]
    omega
   ·rw [htk, ← hlen]; exact List.take_left
   ·rcases hfz with h | h
    ·exact .inl h
    ·refine .inr ?_
     simp only [List.length_append, List.length_take, List.length_drop] at h ⊢; omega
  ·refine grow _ cap rfl (by omega) ?_
   have hrd := (SlR.block (w := w.drew) (off := pre.length) (b := g) (cl := pre ++ cl) (e := e) (fz := fz) (n := n) (sz := i.size) (vs := vs) (hst.own _ List.mem_cons_self).1 (by rw [List.drop_left]; exact htk) hown.1)
   have := hrd.lds (P := P) (j := 0) (m := n * i.size) (us := vs) (by simp [← hown.1]) hown.1
   simpa [Builtin.firstCells, adr, Addr.add] using this
theorem SlR.src {A : Option Addr} {m c sz : Nat} {news : List Value} {tx e' : TypeId} (h : SlR w A m sz news) (hk : P.underlying tx = some (.slice e')) (h1 : ∀ u, u ∈ news → u.oneCell' = true) : Src P sz tx (.slice A m c) m news w := by
 have hlds : ∀ w' : World, (∀ j u, news[j]? = some u → w'.cell? ((adr A).add j) = some u) → (Builtin.firstCells sz m (.slice A m c)).run P w' = .ok news.toArray w' := by
  intro w' hc
  cases A with
  | none =>
   have : m = 0 := by
    rcases Nat.eq_zero_or_pos m with h0 | h0
    ·exact h0
    ·have := h.some_ h0; simp at this
   subst this
   have : news = [] := List.eq_nil_of_length_eq_zero (by simpa using h.len)
   subst this
   simp [Builtin.firstCells]
  | some a =>
   have h2 : SlR w' (some a) m sz news := ⟨h.len, h.some_, hc⟩
   have := h2.lds (P := P) (j := 0) (m := m * sz) (us := news) (by simp [← h.len]) h.len
   simpa [Builtin.firstCells, adr, Addr.add] using this
 exact ⟨.inl ⟨e', hk⟩, fun _ => rfl, hlds w h.cell, hlds w.drew h.cell, h.len, h1⟩
theorem oneCell_bytes (l : List UInt8) : ∀ u, u ∈ bytesV l → u.oneCell' = true := rows_one
end
section
variable {P : Program} {n : Nat} {ol rest : List Oper} {o : Oper} {K : Fr → World → Prop} {f : Fr} {w0 w w' : World} {T : List Nat} {L : Hp} {d : Nat} {v : Value}
theorem WL.append {L1 R : Hp} (hst : St w0 T (L1 ++ R) w) {t tx e : TypeId} {i : TypeInfo} {z x : Value} {zl vs news : List Value} {sz k m : Nat} {s y : Operand} (hown : Own e sz v k vs L1) (hs : Src P sz tx x m news w) (ht : P.underlying t = some (.slice e)) (hi : P.info? e = some i) (hz : i.zero = some z) (hzl : cellsOf z = zl) (hs1 : i.size = sz) (hs2 : zl.length = sz)
  (ho : o.op = .call { callee := .builtin .append, args := #[s, y], argTypes := #[t, tx] }) (hw : want ol o f = some true) (hd : o.dst = some d) (hn : Nat.blt d n = true) (hx : ev f s = some v) (hy : ev f y = some x) (hb : (k + m) * i.bytes ≤ 140737488355328) (hm : k + m ≤ 9223372036854775807)
  (kk : ∀ v' L1' w', St w0 T (L1' ++ R) w' → Own e sz v' (k + m) (vs ++ news) L1' → WL P n ol rest K ((d, v') :: f) w') : WL P n ol (o :: rest) K f w := by
 obtain ⟨v', L1', w', hr, h1, h2⟩ := run_append_ours (P := P) (ty := o.type) ht hi hz hzl hs1 hs2 hst hown hs hb (by simpa [maxLen] using hm)
 refine WL.val (w' := w') hw hd hn (fun ρ hρ => ?_) (kk _ _ _ h1 h2)
 simp [execOp, ho, hρ _ _ hx, hρ _ _ hy, resolve, invoke, builtin, hr]
end
theorem St.lent (w : World) (L : Hp) (ho : ∀ p, p ∈ L → w.heap[p.1]? = some p.2) (hn : (L.map (·.1)).Nodup) : St w (L.map (·.1)) (L ++ []) w := by
 rw [List.append_nil]; exact St.take w L ho hn
def OwnF {α : Type} (F : Enc α) (e : TypeId) (v : Value) (xs : List α) (L : Hp) : Prop := Own e F.sz v xs.length (rows F xs) L
abbrev OwnB := OwnF encB
section
variable {α : Type} {F : Enc α} {e : TypeId} {v : Value} {xs : List α} {L : Hp} {w : World}
theorem OwnF.keys (h : OwnF F e v xs L) : (L.map (·.1)).Nodup := Own.keys h
theorem OwnF.nil (F : Enc α) (e : TypeId) : OwnF F e (.slice none 0 0) [] [] := Own.nil e F.sz
theorem OwnF.rd (h : OwnF F e v xs L) (ho : ∀ p, p ∈ L → w.heap[p.1]? = some p.2) : ∃ A c, v = .slice A xs.length c ∧ SlF F w A xs.length xs := by
 obtain ⟨A, c, hv, hr⟩ := Own.rd h ho
 exact ⟨A, c, hv, rfl, hr⟩
theorem OwnF.row {g n : Nat} (hl : xs.length = n) (hn : n ≤ maxLen) : OwnF F e (.slice (some ⟨g, 0, none⟩) n n) xs [(g, .cells (rows F xs).toArray e (0, 0))] := by
 subst hl; exact Own.row (rows_len xs) hn
end
theorem OwnB.keys {e : TypeId} {v : Value} {xs : List UInt8} {L : Hp} (h : OwnB e v xs L) : (L.map (·.1)).Nodup := Own.keys h
theorem OwnB.nil (e : TypeId) : OwnB e (.slice none 0 0) [] [] := Own.nil e 1
theorem OwnB.rd {e : TypeId} {v : Value} {xs : List UInt8} {L : Hp} {w : World} (h : OwnB e v xs L) (ho : ∀ p, p ∈ L → w.heap[p.1]? = some p.2) : ∃ A c, v = .slice A xs.length c ∧ SlB w A xs.length xs := OwnF.rd h ho
def ub (n : Int) : UInt8 := UInt8.ofNat (n % 256).toNat
theorem ub_toNat (n : Int) : ((ub n).toNat : Int) = n % 256 := by
 unfold ub
 rw [UInt8.toNat_ofNat']
 have := Int.emod_nonneg n (show (256 : Int) ≠ 0 by omega)
 have := Int.emod_lt_of_pos n (show (0 : Int) < 256 by omega)
 omega
theorem wrap_u8 (n : Int) : IntKind.u8.wrap n = ((ub n).toNat : Int) := by
 rw [ub_toNat]
 simp [IntKind.wrap, IntKind.bits, IntKind.signed]
theorem Run.convU8 {P : Program} {o : Oper} {f : Fr} {w : World} {s d : TypeId} {x : Operand} {k' : IntKind} {a : Int} (hs : ∀ w, (underlying s).run P w = .ok (.int k') w) (hd : ∀ w, (underlying d).run P w = .ok (.int .u8) w) (ho : o.op = .convert s d x) (hx : ev f x = some (.int k' a)) : Run P o f w (.value (.int .u8 ((ub a).toNat))) w := by
 have := Run.conv (P := P) (w := w) hs hd ho hx
 rwa [wrap_u8] at this
theorem srcB1 {P : Program} {w : World} {b : Nat} {c : UInt8} {e tx e' : TypeId} {fz : Nat × Nat} (hk : P.underlying tx = some (.slice e')) (h : w.heap[b]? = some (.cells ([Value.int .u8 c.toNat].flatMap cellsOf).toArray e fz)) : Src P 1 tx (.slice (some ⟨b, 0, none⟩) 1 1) [c].length (bytesV [c]) w :=
 (SlR.block (off := 0) (n := 1) (sz := 1) (vs := bytesV [c]) h rfl rfl).src hk (oneCell_bytes _)
theorem SlB.src {P : Program} {w : World} {A : Option Addr} {m c : Nat} {ys : List UInt8} {tx e' : TypeId} (h : SlB w A m ys) (hk : P.underlying tx = some (.slice e')) : Src P 1 tx (.slice A m c) ys.length (bytesV ys) w := by
 have := h.rd.src (c := c) hk (oneCell_bytes _)
 rwa [h.len]
theorem SlF.src {α : Type} {F : Enc α} {P : Program} {w : World} {A : Option Addr} {m c : Nat} {ys : List α} {tx e' : TypeId} (h : SlF F w A m ys) (hk : P.underlying tx = some (.slice e')) : Src P F.sz tx (.slice A m c) ys.length (rows F ys) w := by
 have := h.rd.src (c := c) hk rows_one
 rwa [h.len]
theorem srcF {α : Type} {F : Enc α} {P : Program} {w : World} {b m : Nat} {ys : List α} {vs : List Value} {e tx e' : TypeId} {fz : Nat × Nat} (hk : P.underlying tx = some (.slice e')) (hl : ys.length = m) (hv : vs.flatMap cellsOf = rows F ys) (h : w.heap[b]? = some (.cells (vs.flatMap cellsOf).toArray e fz)) : Src P F.sz tx (.slice (some ⟨b, 0, none⟩) m m) ys.length (rows F ys) w := by
 rw [hv] at h
 exact (SlF.ownN hl h).src hk
theorem perm_front {L1 A R X : Hp} (h : (L1 ++ R).Perm X) : (L1 ++ (A ++ R)).Perm (A ++ X) :=
 (List.perm_append_comm_assoc L1 A R).trans (h.append_left A)
theorem pR {α : Type} {l : List α} : l.Perm l := List.Perm.refl l
theorem sR {α : Type} (l : List α) {m : List α} : m.Sublist (l ++ m) := List.sublist_append_right l m
theorem rtv {P : Program} {fn : Func} {t : Nat} {v v' : Value} {f : Fr} {w0 w : World} {T : List Nat} {L : Hp} (hr : fn.results = #[.tmp t]) (hv : lk f t = some v) (hst : St w0 T L w) (h : v = v') : retK P fn (fun e w' => e = .returned v' ∧ St w0 T [] w') .ret f w := retV1 hr (resV.tmp hv) ⟨congrArg Ending.returned h, hst.nil⟩
abbrev Hh (w : World) (L : Hp) : Prop := ∀ p, p ∈ L → w.heap[p.1]? = some p.2
theorem pf {L1 R X : Hp} (A : Hp) (h : (L1 ++ R).Perm X) : (L1 ++ (A ++ R)).Perm (A ++ X) := perm_front (A := A) h
theorem perm_back {L1 A R : Hp} : (A ++ (L1 ++ R)).Perm (L1 ++ (A ++ R)) := List.perm_append_comm_assoc A L1 R
section
variable {w0 w w' : World} {T : List Nat} {L L1 L2 R A : Hp}
theorem St.back (A : Hp) (h : St w0 T (L1 ++ (A ++ R)) w) : St w0 T (A ++ (L1 ++ R)) w := h.perm perm_back
theorem St.back2 (A : Hp) (h : St w0 T (L1 ++ (L2 ++ (A ++ R))) w) : St w0 T (A ++ (L1 ++ (L2 ++ R))) w := by
 refine h.perm ?_
 have e : L1 ++ (L2 ++ (A ++ R)) = (L1 ++ L2) ++ (A ++ R) := by simp
 have e2 : A ++ (L1 ++ (L2 ++ R)) = A ++ ((L1 ++ L2) ++ R) := by simp
 rw [e, e2]; exact perm_back
theorem St.assoc (h : St w0 T ((L1 ++ L2) ++ R) w) : St w0 T (L1 ++ (L2 ++ R)) w := by rwa [List.append_assoc] at h
theorem St.keep1 (h : St w0 T (L1 ++ R) w) : St w0 T L1 w := h.drop (List.sublist_append_left _ _)
end
section
variable {α : Type} {F : Enc α} {e : TypeId} {v : Value} {xs : List α} {L : Hp} {w : World} {A : Option Addr} {n c : Nat}
theorem OwnF.shape (h : OwnF F e v xs L) : ∃ A c, v = .slice A xs.length c := by
 rcases h.2 with ⟨⟨A, rfl⟩, h0, rfl⟩ | ⟨g, cap, o, pre, cl, fz, rfl, _⟩
 ·exact ⟨A, 0, by rw [h0]⟩
 ·exact ⟨_, cap, rfl⟩
theorem SlF.ofOwn (h : OwnF F e (.slice A n c) xs L) (ho : ∀ p, p ∈ L → w.heap[p.1]? = some p.2) : SlF F w A n xs := by
 obtain ⟨A', c', hv, hr⟩ := OwnF.rd h ho
 cases hv
 exact hr
theorem OwnF.len_ (h : OwnF F e (.slice A n c) xs L) : xs.length = n := by
 obtain ⟨A', c', hv⟩ := h.shape
 cases hv; rfl
theorem OwnF.upd {i : Nat} (h : OwnF F e (.slice A n c) xs L) (hi : i < n) : ∃ (g : Nat) (pre cl : List Value) (lo hi : Nat), A = some ⟨g, pre.length, none⟩ ∧ L = [(g, .cells (pre ++ cl).toArray e (lo, hi))] ∧ (hi ≤ lo ∨ (pre ++ cl).length ≤ lo) ∧ (i + 1) * F.sz ≤ cl.length ∧ (cl.drop (i * F.sz)).take F.sz = F.enc (gat F xs i) ∧
  ∀ (cl' : List Value) (x' : α), cl' = cl.take (i * F.sz) ++ F.enc x' ++ cl.drop (i * F.sz + F.sz) → OwnF F e (.slice A n c) (xs.set i x') [(g, .cells (pre ++ cl').toArray e (lo, hi))] := by
 have hl := h.len_
 rcases h.2 with ⟨hv, h0, rfl⟩ | ⟨g, cap, o, pre, cl, ⟨lo, hi'⟩, hv, rfl, hn, hc, hcl, ht, hfz, rfl⟩
 ·omega
 ·cases hv
  have hlt : i < xs.length := by omega
  have h1 : (i + 1) * F.sz ≤ xs.length * F.sz := Nat.mul_le_mul_right _ hlt
  have h2 : xs.length * F.sz ≤ c * F.sz := Nat.mul_le_mul_right _ hn
  refine ⟨g, pre, cl, lo, hi', rfl, rfl, hfz, by omega, ?_, ?_⟩
  ·have e1 := rows_at (F := F) hlt
   rw [← ht, List.drop_take, List.take_take, Nat.min_eq_left (by rw [Nat.succ_mul] at h1; omega)] at e1
   exact e1
  ·intro cl' x' hcl'
   have hlen' : cl'.length = cl.length := by
    rw [hcl']; simp only [List.length_append, List.length_take, List.length_drop, F.len]; rw [Nat.succ_mul] at h1; omega
   refine ⟨by rw [rows_len, List.length_set], .inr ⟨g, c, pre.length, pre, cl', (lo, hi'), by rw [List.length_set], rfl, by rw [List.length_set]; exact hn, hc, by rw [hlen', hcl], ?_, by rw [List.length_append, hlen', ← List.length_append]; exact hfz, rfl⟩⟩
   rw [List.length_set, hcl']
   have e2 : rows F (xs.set i x') = rows F (xs.take i) ++ F.enc x' ++ rows F (xs.drop (i + 1)) := by
    rw [List.set_eq_take_append_cons_drop, if_pos hlt, rows_append, rows_cons, List.append_assoc]
   rw [e2, ← rows_take, ← rows_drop, ← ht, List.take_take, Nat.min_eq_left (by rw [Nat.succ_mul] at h1; omega), List.drop_take]
   have e3 : (cl.take (i * F.sz) ++ F.enc x').length = i * F.sz + F.sz := by
    rw [List.length_append, List.length_take, F.len]; rw [Nat.succ_mul] at h1; omega
   rw [List.take_append, e3, List.take_of_length_le (by rw [e3]; rw [Nat.succ_mul] at h1; omega), Nat.succ_mul]
end
section
variable {P : Program} {n : Nat} {ol rest : List Oper} {o : Oper} {K : Fr → World → Prop} {f : Fr} {w0 w w' : World} {T : List Nat} {L : Hp} {d : Nat} {v : Value} {α : Type} {F : Enc α}
theorem cut_eq {cl vs : List Value} {B S off s : Nat} (h : off + s ≤ S) :
  cl.take (B + off) ++ vs ++ cl.drop (B + off + s) = cl.take B ++ (((cl.drop B).take S).take off ++ vs ++ ((cl.drop B).take S).drop (off + s)) ++ cl.drop (B + S) := by
 have e1 : cl.take (B + off) = cl.take B ++ ((cl.drop B).take S).take off := by rw [List.take_take, Nat.min_eq_left (by omega), List.take_add]
 have e2 : cl.drop (B + off + s) = ((cl.drop B).take S).drop (off + s) ++ cl.drop (B + S) := by
  rw [List.drop_take, List.drop_drop]
  have e3 : cl.drop (B + S) = (cl.drop (B + (off + s))).drop (S - (off + s)) := by rw [List.drop_drop]; congr 1; omega
  rw [e3, List.take_append_drop, Nat.add_assoc]
 rw [e1, e2]
 simp only [List.append_assoc]
theorem WL.storeF {L1 R : Hp} {xs : List α} {x' : α} {A : Option Addr} {m c i off sz : Nat} {e : TypeId} {t : TypeId} {x y : Operand} {vs : List Value} (hst : St w0 T (L1 ++ R) w) (hown : OwnF F e (.slice A m c) xs L1) (hz : ∀ w, (sizeOf t).run P w = .ok sz w) (ho : o.op = .store t x y) (hw : want ol o f = some true) (hd : o.dst = none)
  (hx : ev f x = some (.pointer (some (((adr A).add (i * F.sz)).add off)))) (hy : ev f y = some v) (hvs : cellsOf v = vs) (h1 : vs.all (·.oneCell') = true) (hsz : Nat.beq vs.length sz = true) (hoff : Nat.ble (off + sz) F.sz = true) (hi : i < m)
  (hx' : F.enc x' = (F.enc (gat F xs i)).take off ++ vs ++ (F.enc (gat F xs i)).drop (off + sz))
  (k : ∀ L1' w', St w0 T (L1' ++ R) w' → OwnF F e (.slice A m c) (xs.set i x') L1' → L1'.map (·.1) = L1.map (·.1) → WL P n ol rest K f w') : WL P n ol (o :: rest) K f w := by
 have hsz' := Nat.eq_of_beq_eq_true hsz
 have hoff' := Nat.le_of_ble_eq_true hoff
 obtain ⟨g, pre, cl, lo, hi', rfl, rfl, hfz, hlen, hat, hupd⟩ := hown.upd hi
 have ea : ((adr (some ⟨g, pre.length, none⟩)).add (i * F.sz)).add off = ⟨g, pre.length + (i * F.sz + off), none⟩ := by
  rw [Addr.add_add']; exact addr_at _ _ _
 have hpl : (pre ++ cl).length = pre.length + cl.length := List.length_append
 rw [ea] at hx
 rw [Nat.succ_mul] at hlen
 have hq : cl.take (i * F.sz + off) ++ vs ++ cl.drop (i * F.sz + off + sz) = cl.take (i * F.sz) ++ F.enc x' ++ cl.drop (i * F.sz + F.sz) := by
  rw [hx', ← hat]
  exact cut_eq hoff'
 refine WL.storeA hst 0 hz ho hw hd hx hy hvs rfl h1 hsz' (by omega) (by rcases hfz with h | h <;> omega) fun w' hw' => ?_
 refine k [(g, .cells (pre ++ (cl.take (i * F.sz + off) ++ vs ++ cl.drop (i * F.sz + off + sz))).toArray e (lo, hi'))] w' ?_ (hupd _ x' hq) rfl
 rw [← splice_pre]; exact hw'
theorem WL.storeF1 {L1 R : Hp} {xs : List α} {x' : α} {A : Option Addr} {m c i sz : Nat} {e : TypeId} {t : TypeId} {x y : Operand} {vs : List Value} (hst : St w0 T (L1 ++ R) w) (hown : OwnF F e (.slice A m c) xs L1) (hz : ∀ w, (sizeOf t).run P w = .ok sz w) (ho : o.op = .store t x y) (hw : want ol o f = some true) (hd : o.dst = none)
  (hx : ev f x = some (.pointer (some ((adr A).add (i * F.sz))))) (hy : ev f y = some v) (hvs : cellsOf v = vs) (h1 : vs.all (·.oneCell') = true) (hsz : Nat.beq vs.length sz = true) (hoff : Nat.beq sz F.sz = true) (hi : i < m)
  (hx' : F.enc x' = vs)
  (k : ∀ L1' w', St w0 T (L1' ++ R) w' → OwnF F e (.slice A m c) (xs.set i x') L1' → L1'.map (·.1) = L1.map (·.1) → WL P n ol rest K f w') : WL P n ol (o :: rest) K f w := by
 have hsz' := Nat.eq_of_beq_eq_true hsz
 have hoff' := Nat.eq_of_beq_eq_true hoff
 refine WL.storeF (off := 0) hst hown hz ho hw hd (by rw [Addr.add_add', Nat.add_zero]; exact hx) hy hvs h1 hsz (Nat.ble_eq_true_of_le (by omega)) hi ?_ k
 rw [hx', List.take_zero, List.nil_append, List.drop_of_length_le (by rw [F.len]; omega), List.append_nil]
theorem WL.appendG {L1 R : Hp} {xs ys : List α} {t tx e : TypeId} {i : TypeInfo} {z x : Value} {s y : Operand} (hst : St w0 T (L1 ++ R) w) (hown : OwnF F e v xs L1) (hs : Src P F.sz tx x ys.length (rows F ys) w) (ht : P.underlying t = some (.slice e)) (hi : P.info? e = some i) (hz : i.zero = some z) (hs1 : Nat.beq i.size F.sz = true) (hs3 : Nat.beq (cellsOf z).length F.sz = true) (hs2 : Nat.ble i.bytes 512 = true)
  (ho : o.op = .call { callee := .builtin .append, args := #[s, y], argTypes := #[t, tx] }) (hw : want ol o f = some true) (hd : o.dst = some d) (hn : Nat.blt d n = true) (hx : ev f s = some v) (hy : ev f y = some x) (hb : xs.length + ys.length ≤ 274877906944)
  (kk : ∀ A' c' L1' w', St w0 T (L1' ++ R) w' → OwnF F e (.slice A' (xs ++ ys).length c') (xs ++ ys) L1' → WL P n ol rest K ((d, .slice A' (xs ++ ys).length c') :: f) w') : WL P n ol (o :: rest) K f w := by
 have hs2' := Nat.le_of_ble_eq_true hs2
 have hbb : (xs.length + ys.length) * i.bytes ≤ 274877906944 * 512 := Nat.mul_le_mul hb hs2'
 refine WL.append hst hown hs ht hi hz rfl (Nat.eq_of_beq_eq_true hs1) (Nat.eq_of_beq_eq_true hs3) ho hw hd hn hx hy (by omega) (by omega) fun v' L1' w' h1 h2 => ?_
 have h3 : OwnF F e v' (xs ++ ys) L1' := by unfold OwnF; rw [List.length_append, rows_append]; exact h2
 obtain ⟨A', c', rfl⟩ := h3.shape
 exact kk A' c' L1' w' h1 h3
theorem WL.buildF (hst : St w0 T L w) (xs : List α) {t e : TypeId} {len sz : Nat} {z : Value} {parts : Array (Nat × Operand)} {vs : List Value} (hu : ∀ w, (underlying t).run P w = .ok (.slice e) w) (hz : ∀ w, (sizeOf e).run P w = .ok sz w) (hzv : ∀ w, (zeroValue e).run P w = .ok z w) (hzs : Nat.beq (cellsOf z).length sz = true)
  (ho : o.op = .buildSlice t len parts) (hw : want ol o f = some true) (hd : o.dst = some d) (hn : Nat.blt d n = true) (hv : evs f (parts.toList.map (·.2)) = some vs) (hix : parts.toList.map (·.1) = List.range len) (hl : Nat.beq vs.length len = true) (hcs : vs.all (fun v => Nat.beq (cellsOf v).length sz) = true) (hbig : Nat.ble (len * sz) 16777216 = true)
  (hxs : vs.flatMap cellsOf = rows F xs) (hlen : Nat.beq xs.length len = true)
  (k : ∀ A c L1 w', St w0 T (L1 ++ L) w' → OwnF F e (.slice A xs.length c) xs L1 → WL P n ol rest K ((d, .slice A xs.length c) :: f) w') : WL P n ol (o :: rest) K f w := by
 have hlen' := Nat.eq_of_beq_eq_true hlen
 refine WL.buildSlice hst hu hz hzv hzs ho hw hd hn hv hix hl hcs hbig fun b w' h => ?_
 rw [hxs] at h
 rw [← hlen']
 refine k _ _ [(b, .cells (rows F xs).toArray e (0, 0))] w' h (OwnF.row rfl ?_)
 have h3 := Nat.le_of_ble_eq_true hbig
 have h4 := congrArg List.length hxs
 rw [rows_len] at h4
 have h5 : xs.length * 1 ≤ xs.length * F.sz := Nat.mul_le_mul_left _ F.pos
 have h6 : (vs.flatMap cellsOf).length = len * sz := by
  rw [List.length_flatMap]
  have : vs.map (fun a => (cellsOf a).length) = vs.map (fun _ => sz) := List.map_congr_left fun v hm => Nat.eq_of_beq_eq_true (List.all_eq_true.1 hcs v hm)
  rw [this, List.map_const', List.sum_replicate_nat, Nat.eq_of_beq_eq_true hl]
 simp only [maxLen]; omega
end
theorem St.lent1 (w : World) (L : Hp) {α : Type} {F : Enc α} {e : TypeId} {v : Value} {xs : List α} (hown : OwnF F e v xs L) (ho : ∀ p, p ∈ L → w.heap[p.1]? = some p.2) : St w (L.map (·.1)) (L ++ []) w := St.lent w L ho hown.keys
theorem Run.strOf {P : Program} {o : Oper} {f : Fr} {w : World} {src dst e : TypeId} {x : Operand} {A : Option Addr} {n c : Nat} {xs : List UInt8} (h : SlB w A n xs) (hs : P.underlying src = some (.slice e)) (he : P.underlying e = some (.int .u8)) (hd : P.underlying dst = some .string)
  (ho : o.op = .convert src dst x) (hx : ev f x = some (.slice A n c)) : Run P o f w (.value (.string ⟨xs.toArray⟩)) w := fun ρ hρ => by
 obtain ⟨hl, hr⟩ := h
 subst hl
 have hc : (convert src dst (.slice A xs.length c)).run P w = .ok (.string ⟨xs.toArray⟩) w := by
  cases A with
  | some a =>
   refine run_convert_bytes_back w src dst e a c xs hs he hd fun j hj => ?_
   have := hr.cell j _ (bytesV_get hj)
   simpa [adr, gat, List.getD, hj] using this
  | none =>
   have h0 : xs = [] := by
    rcases Nat.eq_zero_or_pos xs.length with h0 | h0
    ·exact List.eq_nil_of_length_eq_zero h0
    ·have := hr.some_ h0; simp at this
   subst h0
   show (convert src dst (.slice none 0 c)).run P w = _
   rw [run_convert_bytes_string w src dst e none 0 c hs he hd]
   simp [Conv.bytesToString]
   rfl
 simp [execOp, ho, hρ _ _ hx, hc]
theorem lt_of_SlF {α : Type} {F : Enc α} {w : World} {A : Option Addr} {n : Nat} {xs : List α} (h : SlF F w A n xs) (hn : 0 < n) : (adr A).block < w.heap.size := by
 have h0 : 0 < (rows F xs).length := by rw [h.rd.len]; exact Nat.mul_pos hn F.pos
 have := cell?_lt (h.rd.cell 0 _ (List.getElem?_eq_getElem h0))
 rwa [add_block] at this
theorem St.sep {α : Type} {F : Enc α} {w0 w : World} {L1 R : Hp} {A : Option Addr} {n : Nat} {xs : List α} (hs : St w0 [] (L1 ++ R) w) (h : SlF F w0 A n xs) : 0 < n → (adr A).block ∉ L1.map (·.1) := fun hn hm => by
 obtain ⟨p, hp, e⟩ := List.mem_map.1 hm
 have h1 := lt_of_SlF h hn
 rcases (hs.own p (List.mem_append_left _ hp)).2 with h2 | h2
 ·omega
 ·cases h2
theorem OwnF.sep {α : Type} {F : Enc α} {e : TypeId} {w0 w : World} {T : List Nat} {L1 L2 R : Hp} {A : Option Addr} {n c : Nat} {xs : List α} (hs : St w0 T (L1 ++ R) w) (hm : ∀ p, p ∈ L2 → p ∈ R) (h : OwnF F e (.slice A n c) xs L2) : 0 < n → (adr A).block ∉ L1.map (·.1) := fun hn hmm => by
 have hl := h.len_
 rcases h.2 with ⟨hv, h0, rfl⟩ | ⟨g, cap, o, pre, cl, fz, hv, rfl, _⟩
 ·omega
 ·cases hv
  have hd := hs.nodup
  rw [List.map_append, List.nodup_append] at hd
  exact hd.2.2 _ hmm _ (List.mem_map_of_mem (hm _ List.mem_cons_self)) rfl
theorem srcI1 {P : Program} {w : World} {b : Nat} {c : Int} {e tx e' : TypeId} {fz : Nat × Nat} (hk : P.underlying tx = some (.slice e')) (h : w.heap[b]? = some (.cells ([i64 c].flatMap cellsOf).toArray e fz)) : Src P 1 tx (.slice (some ⟨b, 0, none⟩) 1 1) [c].length (intsV [c]) w :=
 srcF (F := encI) (ys := [c]) hk rfl rfl h
theorem WC.loopO {P : Program} {n : Nat} {c : Code} {Q : Kont} {f : Fr} {w0 w : World} {T : List Nat} {L0 R : Hp} (F : Fr) (hF : Sub F f) (hst : St w0 T (L0 ++ R) w) (I : Nat → Fr → Hp → Prop) (k0 : Nat) (h0 : I k0 f L0)
  (hr : ∀ k f w L1, I k f L1 → Sub F f → St w0 T (L1 ++ R) w → WC P n c (thenK (fun f' w' => Sub F f' ∧ ∃ L1', St w0 T (L1' ++ R) w' ∧ ∃ k', k' < k ∧ I k' f' L1') Q) f w) : WC P n (.loop c) Q f w :=
 WC.loopN (fun k f w => ∃ L1, I k f L1 ∧ Sub F f ∧ St w0 T (L1 ++ R) w) k0 ⟨L0, h0, hF, hst⟩ fun k f w ⟨L1, h1, h2, h3⟩ => (hr k f w L1 h1 h2 h3).mono fun e f' w' q => by
  cases e
  case normal =>
   obtain ⟨q1, L1', q2, k', q3, q4⟩ := q
   exact ⟨k', q3, L1', q4, q1, q2⟩
  all_goals exact q
theorem OwnF.eqOf {α : Type} {F : Enc α} {e : TypeId} {v : Value} {ys xs : List α} {L : Hp} (_ : OwnF F e v ys L) (h : ys = xs) : ys = xs := h
theorem gat_set {α : Type} {F : Enc α} {xs : List α} {i j : Nat} {x : α} (h : i < xs.length) (hj : j = i) : gat F (xs.set i x) j = x := by
 subst hj; simp [gat, List.getD, h]
section
variable {P : Program} {w : World} {o : Oper} {f : Fr} {t t' : TypeId} {x y : Operand} {a b : Int}
theorem bvNat {a : Int} (h0 : 0 ≤ a) (h1 : a ≤ 9223372036854775807) : (BitVec.ofInt 64 a).toNat = a.toNat := by
 rw [BitVec.toNat_ofInt]
 omega
theorem nat_lt {a : Int} (h1 : a ≤ 9223372036854775807) : a.toNat < 2 ^ 63 := by
 have : (2 : Nat) ^ 63 = 9223372036854775808 := by decide
 omega
theorem or_in {a b : Int} (h1 : a ≤ 9223372036854775807) (h2 : b ≤ 9223372036854775807) : In64 ((a.toNat ||| b.toNat : Nat) : Int) := by
 have := Nat.or_lt_two_pow (nat_lt h1) (nat_lt h2)
 have e : (2 : Nat) ^ 63 = 9223372036854775808 := by decide
 constructor <;> omega
theorem and_in {a b : Int} (h1 : a ≤ 9223372036854775807) : In64 ((a.toNat &&& b.toNat : Nat) : Int) := by
 have := Nat.and_lt_two_pow b.toNat (nat_lt h1)
 have h3 : a.toNat &&& b.toNat ≤ a.toNat := Nat.and_le_left
 constructor <;> omega
theorem xor_in {a b : Int} (h1 : a ≤ 9223372036854775807) (h2 : b ≤ 9223372036854775807) : In64 ((a.toNat ^^^ b.toNat : Nat) : Int) := by
 have := Nat.xor_lt_two_pow (nat_lt h1) (nat_lt h2)
 have e : (2 : Nat) ^ 63 = 9223372036854775808 := by decide
 constructor <;> omega
theorem Run.or (ho : o.op = .binOp .or t x y t') (hx : ev f x = some (.int .i64 a)) (hy : ev f y = some (.int .i64 b)) (h0 : 0 ≤ a) (h1 : a ≤ 9223372036854775807) (h2 : 0 ≤ b) (h3 : b ≤ 9223372036854775807) : Run P o f w (.value (.int .i64 ((a.toNat ||| b.toNat : Nat)))) w := fun ρ hρ => by
 have e : (BitVec.ofInt 64 a ||| BitVec.ofInt 64 b).toNat = a.toNat ||| b.toNat := by rw [BitVec.toNat_or, bvNat h0 h1, bvNat h2 h3]
 have e2 := wrap_in (or_in h1 h3)
 simp [execOp, ho, hρ _ _ hx, hρ _ _ hy, eqGuard, binOp, Op.intBits]
 exact (congrArg (fun n : Nat => IntKind.i64.wrap (n : Int)) e).trans e2
theorem Run.and (ho : o.op = .binOp .and t x y t') (hx : ev f x = some (.int .i64 a)) (hy : ev f y = some (.int .i64 b)) (h0 : 0 ≤ a) (h1 : a ≤ 9223372036854775807) (h2 : 0 ≤ b) (h3 : b ≤ 9223372036854775807) : Run P o f w (.value (.int .i64 ((a.toNat &&& b.toNat : Nat)))) w := fun ρ hρ => by
 have e : (BitVec.ofInt 64 a &&& BitVec.ofInt 64 b).toNat = a.toNat &&& b.toNat := by rw [BitVec.toNat_and, bvNat h0 h1, bvNat h2 h3]
 have e2 := wrap_in (and_in (a := a) (b := b) h1)
 simp [execOp, ho, hρ _ _ hx, hρ _ _ hy, eqGuard, binOp, Op.intBits]
 exact (congrArg (fun n : Nat => IntKind.i64.wrap (n : Int)) e).trans e2
theorem Run.xor (ho : o.op = .binOp .xor t x y t') (hx : ev f x = some (.int .i64 a)) (hy : ev f y = some (.int .i64 b)) (h0 : 0 ≤ a) (h1 : a ≤ 9223372036854775807) (h2 : 0 ≤ b) (h3 : b ≤ 9223372036854775807) : Run P o f w (.value (.int .i64 ((a.toNat ^^^ b.toNat : Nat)))) w := fun ρ hρ => by
 have e : (BitVec.ofInt 64 a ^^^ BitVec.ofInt 64 b).toNat = a.toNat ^^^ b.toNat := by rw [BitVec.toNat_xor, bvNat h0 h1, bvNat h2 h3]
 have e2 := wrap_in (xor_in h1 h3)
 simp [execOp, ho, hρ _ _ hx, hρ _ _ hy, eqGuard, binOp, Op.intBits]
 exact (congrArg (fun n : Nat => IntKind.i64.wrap (n : Int)) e).trans e2
theorem Run.remB {a : UInt8} (k : Nat) (ho : o.op = .binOp .rem t x y t') (hx : ev f x = some (.int .u8 a.toNat)) (hy : ev f y = some (.int .u8 (k : Int))) (h0 : 0 < k) (h1 : k ≤ 255) : Run P o f w (.value (.int .u8 ((UInt8.ofNat (a.toNat % k)).toNat))) w := fun ρ hρ => by
 have h3 := a.toNat_lt
 have h4 : a.toNat % k ≤ a.toNat := Nat.mod_le _ _
 have e : (a.toNat : Int).tmod (k : Int) = ((UInt8.ofNat (a.toNat % k)).toNat : Int) := by
  rw [UInt8.toNat_ofNat', Nat.mod_eq_of_lt (by omega), Int.tmod_eq_emod_of_nonneg (by omega)]
  omega
 have hk0 : k ≠ 0 := by omega
 rw [← e]
 simp [execOp, ho, hρ _ _ hx, hρ _ _ hy, eqGuard, binOp, Op.intDiv, hk0]
theorem Run.shl {k : IntKind} (ho : o.op = .binOp .shl t x y t') (hx : ev f x = some (.int .i64 a)) (hy : ev f y = some (.int k b)) (h0 : 0 ≤ b) (h1 : b ≤ 63) (h : In64 (a * 2 ^ b.toNat)) : Run P o f w (.value (.int .i64 (a * 2 ^ b.toNat))) w := fun ρ hρ => by
 have e : min b.toNat 64 = b.toNat := by omega
 have h2 : ¬ b < 0 := by omega
 have e2 := wrap_in h
 simp [execOp, ho, hρ _ _ hx, hρ _ _ hy, eqGuard, binOp, Op.shift, IntKind.bits, e, h2, e2]
theorem Run.shr {k : IntKind} (ho : o.op = .binOp .shr t x y t') (hx : ev f x = some (.int .i64 a)) (hy : ev f y = some (.int k b)) (h0 : 0 ≤ b) (h1 : b ≤ 63) : Run P o f w (.value (.int .i64 (a / 2 ^ b.toNat))) w := fun ρ hρ => by
 have e : min b.toNat 64 = b.toNat := by omega
 have h2 : ¬ b < 0 := by omega
 have e3 : a.fdiv (2 ^ b.toNat) = a / 2 ^ b.toNat := Int.fdiv_eq_ediv_of_nonneg a (by exact Int.le_of_lt (Int.pow_pos (by decide)))
 simp [execOp, ho, hρ _ _ hx, hρ _ _ hy, eqGuard, binOp, Op.shift, IntKind.bits, e, h2, e3]
end
section
variable {P : Program} {w : World} {o : Oper} {f : Fr}
theorem Run.idxN {t e : TypeId} {x i : Operand} {A : Option Addr} {l c sz : Nat} {k : IntKind} {n : Nat} (hu : ∀ w, (underlying t).run P w = .ok (.slice e) w) (hz : ∀ w, (sizeOf e).run P w = .ok sz w) (ho : o.op = .indexAddr t x i) (hx : ev f x = some (.slice A l c)) (hi : ev f i = some (.int k ((n : Nat) : Int)))
  (hA : 0 < l → A.isSome = true) (h0 : 0 ≤ (n : Int)) (h1 : (n : Int) < l) : Run P o f w (.value (.pointer (some ((adr A).add (n * sz))))) w := by
 have := Run.idx (w := w) hu hz ho hx hi hA h0 h1
 rwa [Int.toNat_natCast] at this
theorem Run.idxK {t e : TypeId} {x i : Operand} {A : Option Addr} {l c sz : Nat} {k : IntKind} {m : Int} (n : Nat) (hu : ∀ w, (underlying t).run P w = .ok (.slice e) w) (hz : ∀ w, (sizeOf e).run P w = .ok sz w) (ho : o.op = .indexAddr t x i) (hx : ev f x = some (.slice A l c)) (hi : ev f i = some (.int k m))
  (hA : 0 < l → A.isSome = true) (hm : m = (n : Int)) (h1 : (n : Int) < l) : Run P o f w (.value (.pointer (some ((adr A).add (n * sz))))) w := by
 subst hm
 exact Run.idxN hu hz ho hx hi hA (Int.natCast_nonneg _) h1
theorem Run.idxStrN {t : TypeId} {x i : Operand} {s : ByteArray} {k : IntKind} {n : Nat} (hu : ∀ w, (underlying t).run P w = .ok .string w) (ho : o.op = .index t x i) (hx : ev f x = some (.string s)) (hi : ev f i = some (.int k ((n : Nat) : Int))) (h0 : 0 ≤ (n : Int)) (h : ((n : Int)).toNat < s.size) : Run P o f w (.value (.int .u8 ((sbyte s n).toNat))) w := by
 have := Run.idxStr (w := w) hu ho hx hi h0 h
 rwa [Int.toNat_natCast] at this
end
def cutA (A : Option Addr) (lo sz c : Nat) : Option Addr := if c = lo then A else A.map (·.add (lo * sz))
theorem SlF.cutC {α : Type} {F : Enc α} {w : World} {A : Option Addr} {n lo hi c : Nat} {xs : List α} (h : SlF F w A n xs) (hc : lo ≤ hi ∧ hi ≤ n ∧ n ≤ c) : SlF F w (cutA A lo F.sz c) (hi - lo) ((xs.drop lo).take (hi - lo)) := by
 obtain ⟨h1, h2, h3⟩ := hc
 have hl := h.len
 refine ⟨by rw [List.length_take, List.length_drop]; omega, ?_⟩
 unfold cutA
 split
 ·rename_i e
  have : hi - lo = 0 := by omega
  rw [this]
  simp only [List.take_zero]
  exact SlR.nil _ _ _
 ·have := h.rd.cut h1 h2
  rw [rows_drop, rows_take] at this
  exact this
theorem SlF.cutL {α : Type} {F : Enc α} {w : World} {A : Option Addr} {n c : Nat} {xs : List α} (lo : Nat) (h : SlF F w A n xs) (hc : lo ≤ n ∧ n ≤ n ∧ n ≤ c) : SlF F w (cutA A lo F.sz c) (n - lo) (xs.drop lo) := by
 have := h.cutC hc
 rwa [List.take_of_length_le (by rw [List.length_drop, h.len]; exact Nat.le_refl _)] at this
theorem SlF.cutH {α : Type} {F : Enc α} {w : World} {A : Option Addr} {n c : Nat} {xs : List α} (hi : Nat) (h : SlF F w A n xs) (hc : 0 ≤ hi ∧ hi ≤ n ∧ n ≤ c) : SlF F w (cutA A 0 F.sz c) (hi - 0) (xs.take hi) := by
 have := h.cutC hc
 rwa [List.drop_zero] at this
section
variable {P : Program} {w : World} {o : Oper} {f : Fr} {t e : TypeId} {x y z : Operand} {A : Option Addr} {n c sz lo hi : Nat} {k k' : IntKind} {a b : Int}
theorem Run.sliceLH (lo hi : Nat) (hu : ∀ w, (underlying t).run P w = .ok (.slice e) w) (hz : ∀ w, (sizeOf e).run P w = .ok sz w) (ho : o.op = .slice t x (some y) (some z) none) (hx : ev f x = some (.slice A n c)) (hy : ev f y = some (.int k a)) (hw : ev f z = some (.int k' b))
  (ha : a = (lo : Int)) (hb : b = (hi : Int)) (h : lo ≤ hi ∧ hi ≤ n ∧ n ≤ c) : Run P o f w (.value (.slice (cutA A lo sz c) (hi - lo) (c - lo))) w := fun ρ hρ => by
 subst ha hb
 have h1 : lo ≤ hi := by omega
 have h2 : hi ≤ c := by omega
 simp [execOp, ho, hρ _ _ hx, hρ _ _ hy, hρ _ _ hw, Instr.sliceAt, Instr.slice, Instr.sliceBounds, Instr.sliceBound, asIntOf, hu, hz, cutA, h1, h2]
theorem Run.sliceL (lo : Nat) (hu : ∀ w, (underlying t).run P w = .ok (.slice e) w) (hz : ∀ w, (sizeOf e).run P w = .ok sz w) (ho : o.op = .slice t x (some y) none none) (hx : ev f x = some (.slice A n c)) (hy : ev f y = some (.int k a))
  (ha : a = (lo : Int)) (h : lo ≤ n ∧ n ≤ n ∧ n ≤ c) : Run P o f w (.value (.slice (cutA A lo sz c) (n - lo) (c - lo))) w := fun ρ hρ => by
 subst ha
 have h1 : lo ≤ n := by omega
 simp [execOp, ho, hρ _ _ hx, hρ _ _ hy, Instr.sliceAt, Instr.slice, Instr.sliceBounds, Instr.sliceBound, asIntOf, hu, hz, cutA, h1]
theorem Run.sliceH (hi : Nat) (hu : ∀ w, (underlying t).run P w = .ok (.slice e) w) (hz : ∀ w, (sizeOf e).run P w = .ok sz w) (ho : o.op = .slice t x none (some z) none) (hx : ev f x = some (.slice A n c)) (hw : ev f z = some (.int k' b))
  (hb : b = (hi : Int)) (h : 0 ≤ hi ∧ hi ≤ n ∧ n ≤ c) : Run P o f w (.value (.slice (cutA A 0 sz c) (hi - 0) (c - 0))) w := fun ρ hρ => by
 subst hb
 have h2 : hi ≤ c := by omega
 simp [execOp, ho, hρ _ _ hx, hρ _ _ hw, Instr.sliceAt, Instr.slice, Instr.sliceBounds, Instr.sliceBound, asIntOf, hu, hz, cutA, h2]
theorem cutA_zero {A : Option Addr} {sz c : Nat} : cutA A 0 sz c = A := by
 unfold cutA
 split
 ·rfl
 ·cases A with
  | none => rfl
  | some a =>
   simp only [Option.map_some, Nat.zero_mul]
   unfold Addr.add
   split <;> simp_all
theorem Run.sliceH0 (hi : Nat) (hu : ∀ w, (underlying t).run P w = .ok (.slice e) w) (hz : ∀ w, (sizeOf e).run P w = .ok sz w) (ho : o.op = .slice t x none (some z) none) (hx : ev f x = some (.slice A n c)) (hw : ev f z = some (.int k' b))
  (hb : b = (hi : Int)) (h : hi ≤ c) : Run P o f w (.value (.slice A hi c)) w := fun ρ hρ => by
 subst hb
 have h2 : hi ≤ c := by omega
 have := @cutA_zero A sz c
 unfold cutA at this
 simp [execOp, ho, hρ _ _ hx, hρ _ _ hw, Instr.sliceAt, Instr.slice, Instr.sliceBounds, Instr.sliceBound, asIntOf, hu, hz, h2]
 simpa using this
end
section
variable {α : Type} {F : Enc α} {e : TypeId} {xs : List α} {L : Hp} {A : Option Addr} {n c k : Nat}
theorem OwnF.nilA (F : Enc α) (e : TypeId) (A : Option Addr) : OwnF F e (.slice A 0 0) [] [] := Own.nilA e F.sz A
theorem OwnF.take (h : OwnF F e (.slice A n c) xs L) (hk : k ≤ n) : OwnF F e (.slice A k c) (xs.take k) L := by
 have hl := h.len_
 have hk' : (xs.take k).length = k := by rw [List.length_take]; omega
 rcases h.2 with ⟨⟨A', hv⟩, h0, rfl⟩ | ⟨g, cap, o, pre, cl, fz, hv, rfl, hn, hc, hcl, ht, hfz, ho⟩
 ·cases hv
  obtain rfl : k = 0 := by omega
  exact OwnF.nilA F e A
 ·cases hv
  refine ⟨by rw [rows_len], .inr ⟨g, c, _, pre, cl, fz, by rw [hk'], rfl, by rw [hk']; omega, hc, hcl, ?_, hfz, ho⟩⟩
  have h1 : k * F.sz ≤ xs.length * F.sz := Nat.mul_le_mul_right _ (by omega)
  rw [hk', ← rows_take, ← ht, List.take_take, Nat.min_eq_left h1]
theorem OwnF.cap (h : OwnF F e (.slice A n c) xs L) : n ≤ c := by
 have hl := h.len_
 rcases h.2 with ⟨⟨A', hv⟩, h0, rfl⟩ | ⟨g, cap, o, pre, cl, fz, hv, rfl, hn, _⟩
 ·omega
 ·cases hv
  omega
theorem OwnF.updR {i : Nat} {ys : List α} (h : OwnF F e (.slice A n c) xs L) (h0 : 0 < n) (hi : i + ys.length ≤ n) : ∃ (g : Nat) (pre cl : List Value) (lo hi : Nat), A = some ⟨g, pre.length, none⟩ ∧ L = [(g, .cells (pre ++ cl).toArray e (lo, hi))] ∧ (hi ≤ lo ∨ (pre ++ cl).length ≤ lo) ∧ (i + ys.length) * F.sz ≤ cl.length ∧
  ∀ (cl' : List Value), cl' = cl.take (i * F.sz) ++ rows F ys ++ cl.drop ((i + ys.length) * F.sz) → OwnF F e (.slice A n c) (xs.take i ++ ys ++ xs.drop (i + ys.length)) [(g, .cells (pre ++ cl').toArray e (lo, hi))] := by
 have hl := h.len_
 rcases h.2 with ⟨⟨A', hv⟩, h0', rfl⟩ | ⟨g, cap, o, pre, cl, ⟨lo, hi'⟩, hv, rfl, hn, hc, hcl, ht, hfz, rfl⟩
 ·omega
 ·cases hv
  have h1 : (i + ys.length) * F.sz ≤ xs.length * F.sz := Nat.mul_le_mul_right _ (by omega)
  have h2 : xs.length * F.sz ≤ c * F.sz := Nat.mul_le_mul_right _ hn
  have h3 : i * F.sz ≤ (i + ys.length) * F.sz := Nat.mul_le_mul_right _ (by omega)
  refine ⟨g, pre, cl, lo, hi', rfl, rfl, hfz, by omega, ?_⟩
  intro cl' hcl'
  have hly : (rows F ys).length = ys.length * F.sz := rows_len ys
  have hadd : (i + ys.length) * F.sz = i * F.sz + ys.length * F.sz := Nat.add_mul _ _ _
  have hlen' : cl'.length = cl.length := by
   rw [hcl']; simp only [List.length_append, List.length_take, List.length_drop, hly]; omega
  have hlx : (xs.take i ++ ys ++ xs.drop (i + ys.length)).length = xs.length := by
   simp only [List.length_append, List.length_take, List.length_drop]; omega
  refine ⟨by rw [rows_len], .inr ⟨g, c, pre.length, pre, cl', (lo, hi'), by rw [hlx], rfl, by rw [hlx]; exact hn, hc, by rw [hlen', hcl], ?_, by rw [List.length_append, hlen', ← List.length_append]; exact hfz, rfl⟩⟩
  rw [hlx, hcl', rows_append, rows_append, ← rows_take, ← rows_drop, ← ht, List.take_take, Nat.min_eq_left (by omega), List.drop_take]
  have e3 : (cl.take (i * F.sz) ++ rows F ys).length = (i + ys.length) * F.sz := by
   rw [List.length_append, List.length_take, hly]; omega
  rw [List.take_append, e3, List.take_of_length_le (by rw [e3]; exact h1)]
end
section
variable {P : Program} {w : World} {o : Oper} {f : Fr} {t e : TypeId} {x y : Operand} {A : Option Addr} {n c : Nat}
theorem equalIn_nil {d : Nat} {w : World} (hu : P.underlying t = some (.slice e)) : (Op.equalIn (d + 1) t (.slice A n c) (.slice none 0 0)).run P w = .ok A.isNone w := by
 cases A <;> simp [Op.equalIn, run_underlying hu]
theorem Run.eqlNil {t' : TypeId} (hu : P.underlying t = some (.slice e)) (ho : o.op = .binOp .eql t x y t') (hx : ev f x = some (.slice A n c)) (hy : ev f y = some (.slice none 0 0)) : Run P o f w (.value (.bool A.isNone)) w := fun ρ hρ => by
 have h1 : (binOp .eql t (.slice A n c) (.slice none 0 0)).run P w = .ok (.bool A.isNone) w := by
  simp only [binOp]
  simp [Op.equal, Op.maxDepth, equalIn_nil hu]
 simp [execOp, ho, hρ _ _ hx, hρ _ _ hy, eqGuard, h1]
theorem Run.makeFunc {fn : Fn} {caps : Array Operand} {vl : List Value} (ho : o.op = .makeFunc fn #[] caps) (hv : evs f caps.toList = some vl) : Run P o f w (.value (.func fn #[] vl.toArray)) w := fun ρ hρ => by
 have e : caps.map ρ = vl.toArray := by apply Array.toList_inj.1; rw [Array.toList_map, evs_map hρ hv]
 simp [execOp, ho, Instr.makeFunc, e]
theorem Run.capSl (hu : ∀ w, (underlying t).run P w = .ok (.slice e) w) (ho : o.op = .call { callee := .builtin .cap, args := #[x], argTypes := #[t] }) (hx : ev f x = some (.slice A n c)) : Run P o f w (.value (.int .i64 c)) w := fun ρ hρ => by
 simp [execOp, ho, hρ _ _ hx, resolve, invoke, builtin, Builtin.cap_, hu, goInt]
end
section
variable {P : Program} {n : Nat} {ol rest : List Oper} {o : Oper} {K : Fr → World → Prop} {f : Fr} {w0 w w' : World} {T : List Nat} {L : Hp} {d : Nat} {v : Value} {α : Type} {F : Enc α}
theorem WL.eff (hw : want ol o f = some true) (hd : o.dst = none) (hy : Run P o f w (.value v) w') (k : WL P n ol rest K f w') : WL P n ol (o :: rest) K f w := fun Q a ha hk => by
 unfold wpList
 rw [if_pos (want_eq ha hw)]
 refine .inl ?_
 unfold Oper.wp
 rw [hy a.eval fun x v hx => ha.ev hx]
 show wpList _ _ _ _ _ _
 rw [hd]
 exact k Q _ ha hk
theorem zeros_rows {z : Value} {k : Nat} (h : cellsOf z = F.enc F.dflt) : Builtin.zeroCells z.cells k = (rows F (List.replicate k F.dflt)).toArray := by
 apply Array.toList_inj.1
 have e0 : z.cells = (F.enc F.dflt).toArray := by rw [cellsOf_eq, h]
 have e1 := madeCells_list (F.enc F.dflt) k
 have e2 : (F.enc F.dflt).toArray.size = (F.enc F.dflt).length := by simp
 rw [rows, List.flatMap_def, List.map_replicate]
 show (Builtin.zeroCells z.cells k).toList = _
 rw [← e1, e0]
 simp [Builtin.zeroCells, madeCells]
theorem WL.clearF {L1 R : Hp} {xs : List α} {A : Option Addr} {m c lo : Nat} {e t : TypeId} {z : Value} {x : Operand} (hst : St w0 T (L1 ++ R) w) (hown : OwnF F e (.slice A m c) xs L1) (ht : P.underlying t = some (.slice e)) (hzv : ∀ w, (zeroValue e).run P w = .ok z w) (hz : cellsOf z = F.enc F.dflt)
  (ho : o.op = .call { callee := .builtin .clear, args := #[x], argTypes := #[t] }) (hw : want ol o f = some true) (hd : o.dst = none) (hx : ev f x = some (.slice (cutA A lo F.sz c) (m - lo) (c - lo))) (hlo : lo ≤ m)
  (k : ∀ L1' w', St w0 T (L1' ++ R) w' → OwnF F e (.slice A m c) (xs.take lo ++ List.replicate (m - lo) F.dflt) L1' → L1'.map (·.1) = L1.map (·.1) → WL P n ol rest K f w') : WL P n ol (o :: rest) K f w := by
 have hl := hown.len_
 by_cases h0 : m - lo = 0
 ·have e1 : xs.take lo = xs := List.take_of_length_le (by omega)
  refine WL.eff (w' := w) (v := .tuple #[]) hw hd (fun ρ hρ => ?_) (k L1 w hst (by rw [e1, h0]; simpa using hown) rfl)
  rw [h0] at hx
  simp [execOp, ho, hρ _ _ hx, resolve, invoke, builtin, Builtin.clear_, run_underlying ht]
  cases cutA A lo F.sz c <;> simp
 ·obtain ⟨g, pre, cl, a, b, rfl, rfl, hfz, hle, hupd⟩ := hown.updR (i := lo) (ys := List.replicate (m - lo) F.dflt) (by omega) (by simp; omega)
  have hc := hown.cap
  have hpl : (pre ++ cl).length = pre.length + cl.length := List.length_append
  have hrl : (rows F (List.replicate (m - lo) F.dflt)).length = (m - lo) * F.sz := by rw [rows_len]; simp
  simp only [List.length_replicate] at hle hupd
  have e0 : (lo + (m - lo)) * F.sz = lo * F.sz + (m - lo) * F.sz := Nat.add_mul _ _ _
  obtain ⟨w', hr, hs'⟩ := hst.stored (P := P) 0 (off := pre.length + lo * F.sz) (vs := rows F (List.replicate (m - lo) F.dflt)) rfl rows_one (by rw [hrl]; omega) (by rcases hfz with h | h <;> omega)
  rw [splice_pre] at hs'
  have e2 : cutA (some ⟨g, pre.length, none⟩) lo F.sz c = some ⟨g, pre.length + lo * F.sz, none⟩ := by
   unfold cutA
   rw [if_neg (by omega)]
   simp only [Option.map_some, addr_at]
  rw [e2] at hx
  refine WL.eff (w' := w') (v := .tuple #[]) hw hd (fun ρ hρ => ?_) (k [(g, .cells (pre ++ (cl.take (lo * F.sz) ++ rows F (List.replicate (m - lo) F.dflt) ++ cl.drop (lo * F.sz + (rows F (List.replicate (m - lo) F.dflt)).length))).toArray e (a, b))] w' hs' ?_ rfl)
  ·obtain ⟨q, hq⟩ : ∃ q, m - lo = q + 1 := ⟨m - lo - 1, by omega⟩
   rw [hq] at hx hr
   simp [execOp, ho, hρ _ _ hx, resolve, invoke, builtin, Builtin.clear_, run_underlying ht, hzv, zeros_rows hz, hr]
  ·have := hupd _ (by rw [e0])
   rw [List.drop_of_length_le (i := lo + (m - lo)) (by omega), List.append_nil] at this
   rw [hrl]
   exact this
theorem WL.appendZ (m : Nat) (hst : St w0 T L w) {t tx e : TypeId} {i : TypeInfo} {z : Value} {x y : Operand} {q : Int} (ht : P.underlying t = some (.slice e)) (htx : P.underlying tx = some (.int .i64)) (hi : P.info? e = some i) (hz : i.zero = some z) (hs1 : Nat.beq i.size F.sz = true) (hs3 : Nat.beq (cellsOf z).length F.sz = true) (hs2 : Nat.ble i.bytes 512 = true)
  (ho : o.op = .call { callee := .builtin .append, args := #[x, y], argTypes := #[t, tx] }) (hw : want ol o f = some true) (hd : o.dst = some d) (hn : Nat.blt d n = true) (hx : ev f x = some (.slice none 0 0)) (hy : ev f y = some (.int .i64 q)) (hq : q = (m : Int)) (h0 : 0 < m) (hb : m ≤ 274877906944)
  (k : ∀ A c L1 w', m ≤ c → St w0 T (L1 ++ L) w' → OwnF F e (.slice A 0 c) [] L1 → WL P n ol rest K ((d, .slice A m c) :: f) w') : WL P n ol (o :: rest) K f w := by
 subst hq
 have hs1' := Nat.eq_of_beq_eq_true hs1
 have hs3' := Nat.eq_of_beq_eq_true hs3
 have hs2' := Nat.le_of_ble_eq_true hs2
 have hzs : z.cells.size = i.size := by rw [cellsOf_eq]; simp; omega
 have hge := grownCap_ge w m 0 e
 have hcm : grownCap w m 0 e ≤ maxLen := grownCap_le_maxLen w m 0 e (by simp only [maxLen]; omega)
 have hfit : Builtin.nextslicecap m 0 * i.bytes ≤ 281474976710656 := growslice_fits (by omega) (by
  have : m * i.bytes ≤ 274877906944 * 512 := Nat.mul_le_mul hb hs2'
  omega)
 have hr : (Builtin.append_ #[t, tx] o.type #[.slice none 0 0, .int .i64 m]).run P w = .ok (.slice (some ⟨w.heap.size, 0, none⟩) m (grownCap w m 0 e)) (w.drew.alloc (.cells (Builtin.zeroCells z.cells m ++ Builtin.zeroCells z.cells (grownCap w m 0 e - m)) e)) := by
  have e1 : IntKind.i64.wrap (m : Int) = m := wrap_in (by constructor <;> omega)
  have e2 : ¬ ((m : Int) < 0) := by omega
  have e3 : ¬ (281474976710656 < (m : Int) * (i.bytes : Int)) := by
   have : m * i.bytes ≤ 274877906944 * 512 := Nat.mul_le_mul hb hs2'
   have h2 : ((m * i.bytes : Nat) : Int) ≤ 281474976710656 := by omega
   rw [Int.natCast_mul] at h2
   omega
  have e4 : ¬ m = 0 := by omega
  have e5 : ¬ (281474976710656 < Builtin.nextslicecap m 0 * i.bytes) := by omega
  have e6 : ¬ (9223372036854775807 < (m : Int)) := by omega
  have hsz : ¬ i.size = 0 := by rw [hs1']; exact Nat.ne_of_gt F.pos
  have e7 : ¬ (m * i.size = 0) := fun h => by rcases Nat.mul_eq_zero.1 h with h | h <;> contradiction
  simp [Builtin.append_, run_underlying ht, run_underlying htx, sizeOf, typeInfo, zeroValue, hi, hz, asInt, asIntOf, e7, e1, e2, e3, e4, e5, e6, hsz, Question.forced, Builtin.firstCells, newRow, grownCap]
 refine WL.val (w' := _) hw hd hn (fun ρ hρ => ?_) (k (some ⟨w.heap.size, 0, none⟩) (grownCap w m 0 e) [(w.heap.size, .cells (Builtin.zeroCells z.cells m ++ Builtin.zeroCells z.cells (grownCap w m 0 e - m)).toList.toArray e (0, 0))] _ hge (hst.drew.alloc _) ?_)
 ·simp [execOp, ho, hρ _ _ hx, hρ _ _ hy, resolve, invoke, builtin, hr]
  congr 1
  simp
 ·refine ⟨by simp [rows], .inr ⟨w.heap.size, _, 0, [], (Builtin.zeroCells z.cells m ++ Builtin.zeroCells z.cells (grownCap w m 0 e - m)).toList, (0, 0), rfl, rfl, Nat.zero_le _, hcm, ?_, by simp [rows], .inl (Nat.le_refl _), rfl⟩⟩
  rw [Array.length_toList, Array.size_append, size_zeroCells, size_zeroCells, hzs, hs1', ← Nat.add_mul]
  congr 1
  omega
end
theorem SlF.var {α : Type} {F : Enc α} {w : World} {a : Addr} {x : α} {v : Value} (h : SlF F w (some a) 1 [x]) (hv : (F.enc x)[0]? = some v) : w.cell? a = some v := by
 have := SlF.one1 (k := 0) h (by omega) (v := v) hv
 have e : (adr (some a)).add (0 * F.sz) = a := by
  rw [Nat.zero_mul]
  show a.add 0 = a
  unfold Addr.add
  split <;> simp_all
 rwa [e] at this
theorem SlF.own1 {α : Type} {F : Enc α} {w : World} {b : Nat} {x : α} {cl : List Value} {e : TypeId} {fz : Nat × Nat} (h : w.heap[b]? = some (.cells cl.toArray e fz)) (hx : cl = F.enc x := by rfl) : SlF F w (some ⟨b, 0, none⟩) 1 [x] := by
 subst hx
 refine ⟨rfl, SlR.block (off := 0) h ?_ ?_⟩
 ·rw [List.drop_zero, Nat.one_mul, List.take_of_length_le (by rw [F.len]; exact Nat.le_refl _)]
  simp [rows]
 ·rw [rows_len]; simp
theorem SlF.none_ {α : Type} {F : Enc α} {w : World} {n : Nat} {xs : List α} (h : SlF F w none n xs) : n = 0 := by
 rcases Nat.eq_zero_or_pos n with h0 | h0
 ·exact h0
 ·have := h.rd.some_ h0
  cases this
theorem Run.asN {P : Program} {w w' : World} {o : Oper} {f : Fr} {k : IntKind} {z : Int} (n : Nat) (h : Run P o f w (.value (.int k z)) w') (hz : z = (n : Int)) : Run P o f w (.value (.int k (n : Int))) w' := hz ▸ h
structure HdrD where
 A : Option Addr
 n : Nat
 c : Nat
def encH : Enc HdrD := ⟨1, fun h => [.slice h.A h.n h.c], ⟨none, 0, 0⟩, fun _ => rfl, fun x v h => by simp at h; subst h; rfl, by decide⟩
structure FileD where
 Id : Int
 Body : List UInt8
 Safe : Int
theorem FileD.ext' {x y : FileD} (h0 : x.Id = y.Id) (h1 : x.Body = y.Body) (h2 : x.Safe = y.Safe) : x = y := by cases x; cases y; simp_all
theorem FileD.iff' {x y : FileD} : x = y ↔ x.Id = y.Id ∧ x.Body = y.Body ∧ x.Safe = y.Safe := ⟨fun h => by subst h; simp, fun h => by cases x; cases y; simp_all⟩
instance : DecidableEq FileD := fun x y => decidable_of_iff (x.Id = y.Id ∧ x.Body = y.Body ∧ x.Safe = y.Safe) FileD.iff'.symm
structure LinkD where
 Name : ByteArray
 Id : Int
theorem LinkD.ext' {x y : LinkD} (h0 : x.Name = y.Name) (h1 : x.Id = y.Id) : x = y := by cases x; cases y; simp_all
theorem LinkD.iff' {x y : LinkD} : x = y ↔ x.Name = y.Name ∧ x.Id = y.Id := ⟨fun h => by subst h; simp, fun h => by cases x; cases y; simp_all⟩
instance : DecidableEq LinkD := fun x y => decidable_of_iff (x.Name = y.Name ∧ x.Id = y.Id) LinkD.iff'.symm
def encLink : Enc LinkD := ⟨2, fun d => [.string d.Name, i64 d.Id], ⟨{ data := #[] }, 0⟩, fun _ => rfl, fun x v h => by simp at h; rcases h with rfl | rfl <;> rfl, by decide⟩
structure TurnD where
 Kind : Int
 Name : ByteArray
 To : ByteArray
 Id : Int
theorem TurnD.ext' {x y : TurnD} (h0 : x.Kind = y.Kind) (h1 : x.Name = y.Name) (h2 : x.To = y.To) (h3 : x.Id = y.Id) : x = y := by cases x; cases y; simp_all
theorem TurnD.iff' {x y : TurnD} : x = y ↔ x.Kind = y.Kind ∧ x.Name = y.Name ∧ x.To = y.To ∧ x.Id = y.Id := ⟨fun h => by subst h; simp, fun h => by cases x; cases y; simp_all⟩
instance : DecidableEq TurnD := fun x y => decidable_of_iff (x.Kind = y.Kind ∧ x.Name = y.Name ∧ x.To = y.To ∧ x.Id = y.Id) TurnD.iff'.symm
def encTurn : Enc TurnD := ⟨4, fun d => [i64 d.Kind, .string d.Name, .string d.To, i64 d.Id], ⟨0, { data := #[] }, { data := #[] }, 0⟩, fun _ => rfl, fun x v h => by simp at h; rcases h with rfl | rfl | rfl | rfl <;> rfl, by decide⟩
structure DiskD where
 Room : Int
 Fuse : Int
 Next : Int
 Files : List FileD
 Kept : List LinkD
 Turns : List TurnD
theorem DiskD.ext' {x y : DiskD} (h0 : x.Room = y.Room) (h1 : x.Fuse = y.Fuse) (h2 : x.Next = y.Next) (h3 : x.Files = y.Files) (h4 : x.Kept = y.Kept) (h5 : x.Turns = y.Turns) : x = y := by cases x; cases y; simp_all
theorem DiskD.iff' {x y : DiskD} : x = y ↔ x.Room = y.Room ∧ x.Fuse = y.Fuse ∧ x.Next = y.Next ∧ x.Files = y.Files ∧ x.Kept = y.Kept ∧ x.Turns = y.Turns := ⟨fun h => by subst h; simp, fun h => by cases x; cases y; simp_all⟩
instance : DecidableEq DiskD := fun x y => decidable_of_iff (x.Room = y.Room ∧ x.Fuse = y.Fuse ∧ x.Next = y.Next ∧ x.Files = y.Files ∧ x.Kept = y.Kept ∧ x.Turns = y.Turns) DiskD.iff'.symm
structure DiskOpD where
 Kind : Int
 Name : ByteArray
 To : ByteArray
 Data : List UInt8
theorem DiskOpD.ext' {x y : DiskOpD} (h0 : x.Kind = y.Kind) (h1 : x.Name = y.Name) (h2 : x.To = y.To) (h3 : x.Data = y.Data) : x = y := by cases x; cases y; simp_all
theorem DiskOpD.iff' {x y : DiskOpD} : x = y ↔ x.Kind = y.Kind ∧ x.Name = y.Name ∧ x.To = y.To ∧ x.Data = y.Data := ⟨fun h => by subst h; simp, fun h => by cases x; cases y; simp_all⟩
instance : DecidableEq DiskOpD := fun x y => decidable_of_iff (x.Kind = y.Kind ∧ x.Name = y.Name ∧ x.To = y.To ∧ x.Data = y.Data) DiskOpD.iff'.symm
structure LoadD where
 Data : List UInt8
theorem LoadD.ext' {x y : LoadD} (h0 : x.Data = y.Data) : x = y := by cases x; cases y; simp_all
theorem LoadD.iff' {x y : LoadD} : x = y ↔ x.Data = y.Data := ⟨fun h => by subst h; simp, fun h => by cases x; cases y; simp_all⟩
instance : DecidableEq LoadD := fun x y => decidable_of_iff (x.Data = y.Data) LoadD.iff'.symm
structure DepotD where
 Disk : DiskD
 Gen : Int
 Seq : Int
 Size : Int
 Stuck : Bool
theorem DepotD.ext' {x y : DepotD} (h0 : x.Disk = y.Disk) (h1 : x.Gen = y.Gen) (h2 : x.Seq = y.Seq) (h3 : x.Size = y.Size) (h4 : x.Stuck = y.Stuck) : x = y := by cases x; cases y; simp_all
theorem DepotD.iff' {x y : DepotD} : x = y ↔ x.Disk = y.Disk ∧ x.Gen = y.Gen ∧ x.Seq = y.Seq ∧ x.Size = y.Size ∧ x.Stuck = y.Stuck := ⟨fun h => by subst h; simp, fun h => by cases x; cases y; simp_all⟩
instance : DecidableEq DepotD := fun x y => decidable_of_iff (x.Disk = y.Disk ∧ x.Gen = y.Gen ∧ x.Seq = y.Seq ∧ x.Size = y.Size ∧ x.Stuck = y.Stuck) DepotD.iff'.symm
structure AttrD where
 Fg : Int
 Bg : Int
 Bold : Bool
 Under : Bool
 Turn : Bool
theorem AttrD.ext' {x y : AttrD} (h0 : x.Fg = y.Fg) (h1 : x.Bg = y.Bg) (h2 : x.Bold = y.Bold) (h3 : x.Under = y.Under) (h4 : x.Turn = y.Turn) : x = y := by cases x; cases y; simp_all
theorem AttrD.iff' {x y : AttrD} : x = y ↔ x.Fg = y.Fg ∧ x.Bg = y.Bg ∧ x.Bold = y.Bold ∧ x.Under = y.Under ∧ x.Turn = y.Turn := ⟨fun h => by subst h; simp, fun h => by cases x; cases y; simp_all⟩
instance : DecidableEq AttrD := fun x y => decidable_of_iff (x.Fg = y.Fg ∧ x.Bg = y.Bg ∧ x.Bold = y.Bold ∧ x.Under = y.Under ∧ x.Turn = y.Turn) AttrD.iff'.symm
structure CellD where
 R : Int
 A : AttrD
theorem CellD.ext' {x y : CellD} (h0 : x.R = y.R) (h1 : x.A = y.A) : x = y := by cases x; cases y; simp_all
theorem CellD.iff' {x y : CellD} : x = y ↔ x.R = y.R ∧ x.A = y.A := ⟨fun h => by subst h; simp, fun h => by cases x; cases y; simp_all⟩
instance : DecidableEq CellD := fun x y => decidable_of_iff (x.R = y.R ∧ x.A = y.A) CellD.iff'.symm
structure GridD where
 W : Int
 H : Int
 Cells : List CellD
theorem GridD.ext' {x y : GridD} (h0 : x.W = y.W) (h1 : x.H = y.H) (h2 : x.Cells = y.Cells) : x = y := by cases x; cases y; simp_all
theorem GridD.iff' {x y : GridD} : x = y ↔ x.W = y.W ∧ x.H = y.H ∧ x.Cells = y.Cells := ⟨fun h => by subst h; simp, fun h => by cases x; cases y; simp_all⟩
instance : DecidableEq GridD := fun x y => decidable_of_iff (x.W = y.W ∧ x.H = y.H ∧ x.Cells = y.Cells) GridD.iff'.symm
structure VpD where
 State : Int
 Mark : Bool
 Args : List Int
 Part : List UInt8
theorem VpD.ext' {x y : VpD} (h0 : x.State = y.State) (h1 : x.Mark = y.Mark) (h2 : x.Args = y.Args) (h3 : x.Part = y.Part) : x = y := by cases x; cases y; simp_all
theorem VpD.iff' {x y : VpD} : x = y ↔ x.State = y.State ∧ x.Mark = y.Mark ∧ x.Args = y.Args ∧ x.Part = y.Part := ⟨fun h => by subst h; simp, fun h => by cases x; cases y; simp_all⟩
instance : DecidableEq VpD := fun x y => decidable_of_iff (x.State = y.State ∧ x.Mark = y.Mark ∧ x.Args = y.Args ∧ x.Part = y.Part) VpD.iff'.symm
structure ActD where
 Kind : Int
 R : Int
 Mark : Bool
 Args : List Int
theorem ActD.ext' {x y : ActD} (h0 : x.Kind = y.Kind) (h1 : x.R = y.R) (h2 : x.Mark = y.Mark) (h3 : x.Args = y.Args) : x = y := by cases x; cases y; simp_all
theorem ActD.iff' {x y : ActD} : x = y ↔ x.Kind = y.Kind ∧ x.R = y.R ∧ x.Mark = y.Mark ∧ x.Args = y.Args := ⟨fun h => by subst h; simp, fun h => by cases x; cases y; simp_all⟩
instance : DecidableEq ActD := fun x y => decidable_of_iff (x.Kind = y.Kind ∧ x.R = y.R ∧ x.Mark = y.Mark ∧ x.Args = y.Args) ActD.iff'.symm
structure RowD where
 Cells : List CellD
theorem RowD.ext' {x y : RowD} (h0 : x.Cells = y.Cells) : x = y := by cases x; cases y; simp_all
theorem RowD.iff' {x y : RowD} : x = y ↔ x.Cells = y.Cells := ⟨fun h => by subst h; simp, fun h => by cases x; cases y; simp_all⟩
instance : DecidableEq RowD := fun x y => decidable_of_iff (x.Cells = y.Cells) RowD.iff'.symm
structure ScrD where
 W : Int
 H : Int
 Main : GridD
 Alt : GridD
 OnAlt : Bool
 X : Int
 Y : Int
 Wrap : Bool
 A : AttrD
 Top : Int
 Bot : Int
 NoWrap : Bool
 Hide : Bool
 SaveX : Int
 SaveY : Int
 SaveA : AttrD
 Tabs : List Int
 Limit : Int
 Back : List RowD
theorem ScrD.ext' {x y : ScrD} (h0 : x.W = y.W) (h1 : x.H = y.H) (h2 : x.Main = y.Main) (h3 : x.Alt = y.Alt) (h4 : x.OnAlt = y.OnAlt) (h5 : x.X = y.X) (h6 : x.Y = y.Y) (h7 : x.Wrap = y.Wrap) (h8 : x.A = y.A) (h9 : x.Top = y.Top) (h10 : x.Bot = y.Bot) (h11 : x.NoWrap = y.NoWrap) (h12 : x.Hide = y.Hide) (h13 : x.SaveX = y.SaveX) (h14 : x.SaveY = y.SaveY) (h15 : x.SaveA = y.SaveA) (h16 : x.Tabs = y.Tabs) (h17 : x.Limit = y.Limit) (h18 : x.Back = y.Back) : x = y := by cases x; cases y; simp_all
theorem ScrD.iff' {x y : ScrD} : x = y ↔ x.W = y.W ∧ x.H = y.H ∧ x.Main = y.Main ∧ x.Alt = y.Alt ∧ x.OnAlt = y.OnAlt ∧ x.X = y.X ∧ x.Y = y.Y ∧ x.Wrap = y.Wrap ∧ x.A = y.A ∧ x.Top = y.Top ∧ x.Bot = y.Bot ∧ x.NoWrap = y.NoWrap ∧ x.Hide = y.Hide ∧ x.SaveX = y.SaveX ∧ x.SaveY = y.SaveY ∧ x.SaveA = y.SaveA ∧ x.Tabs = y.Tabs ∧ x.Limit = y.Limit ∧ x.Back = y.Back := ⟨fun h => by subst h; simp, fun h => by cases x; cases y; simp_all⟩
instance : DecidableEq ScrD := fun x y => decidable_of_iff (x.W = y.W ∧ x.H = y.H ∧ x.Main = y.Main ∧ x.Alt = y.Alt ∧ x.OnAlt = y.OnAlt ∧ x.X = y.X ∧ x.Y = y.Y ∧ x.Wrap = y.Wrap ∧ x.A = y.A ∧ x.Top = y.Top ∧ x.Bot = y.Bot ∧ x.NoWrap = y.NoWrap ∧ x.Hide = y.Hide ∧ x.SaveX = y.SaveX ∧ x.SaveY = y.SaveY ∧ x.SaveA = y.SaveA ∧ x.Tabs = y.Tabs ∧ x.Limit = y.Limit ∧ x.Back = y.Back) ScrD.iff'.symm
structure TermD where
 P : VpD
 S : ScrD
theorem TermD.ext' {x y : TermD} (h0 : x.P = y.P) (h1 : x.S = y.S) : x = y := by cases x; cases y; simp_all
theorem TermD.iff' {x y : TermD} : x = y ↔ x.P = y.P ∧ x.S = y.S := ⟨fun h => by subst h; simp, fun h => by cases x; cases y; simp_all⟩
instance : DecidableEq TermD := fun x y => decidable_of_iff (x.P = y.P ∧ x.S = y.S) TermD.iff'.symm
structure NodeD where
 Pane : Int
 Down : Bool
 First : Int
theorem NodeD.ext' {x y : NodeD} (h0 : x.Pane = y.Pane) (h1 : x.Down = y.Down) (h2 : x.First = y.First) : x = y := by cases x; cases y; simp_all
theorem NodeD.iff' {x y : NodeD} : x = y ↔ x.Pane = y.Pane ∧ x.Down = y.Down ∧ x.First = y.First := ⟨fun h => by subst h; simp, fun h => by cases x; cases y; simp_all⟩
instance : DecidableEq NodeD := fun x y => decidable_of_iff (x.Pane = y.Pane ∧ x.Down = y.Down ∧ x.First = y.First) NodeD.iff'.symm
def encNode : Enc NodeD := ⟨3, fun d => [i64 d.Pane, .bool d.Down, i64 d.First], ⟨0, false, 0⟩, fun _ => rfl, fun x v h => by simp at h; rcases h with rfl | rfl | rfl <;> rfl, by decide⟩
structure PaneD where
 Id : Int
 Cmd : ByteArray
 Dir : ByteArray
 Life : Int
 Code : Int
 Pid : Int
 Term : TermD
theorem PaneD.ext' {x y : PaneD} (h0 : x.Id = y.Id) (h1 : x.Cmd = y.Cmd) (h2 : x.Dir = y.Dir) (h3 : x.Life = y.Life) (h4 : x.Code = y.Code) (h5 : x.Pid = y.Pid) (h6 : x.Term = y.Term) : x = y := by cases x; cases y; simp_all
theorem PaneD.iff' {x y : PaneD} : x = y ↔ x.Id = y.Id ∧ x.Cmd = y.Cmd ∧ x.Dir = y.Dir ∧ x.Life = y.Life ∧ x.Code = y.Code ∧ x.Pid = y.Pid ∧ x.Term = y.Term := ⟨fun h => by subst h; simp, fun h => by cases x; cases y; simp_all⟩
instance : DecidableEq PaneD := fun x y => decidable_of_iff (x.Id = y.Id ∧ x.Cmd = y.Cmd ∧ x.Dir = y.Dir ∧ x.Life = y.Life ∧ x.Code = y.Code ∧ x.Pid = y.Pid ∧ x.Term = y.Term) PaneD.iff'.symm
structure WinD where
 Id : Int
 Name : ByteArray
 Tree : List NodeD
 Active : Int
 Zoom : Bool
theorem WinD.ext' {x y : WinD} (h0 : x.Id = y.Id) (h1 : x.Name = y.Name) (h2 : x.Tree = y.Tree) (h3 : x.Active = y.Active) (h4 : x.Zoom = y.Zoom) : x = y := by cases x; cases y; simp_all
theorem WinD.iff' {x y : WinD} : x = y ↔ x.Id = y.Id ∧ x.Name = y.Name ∧ x.Tree = y.Tree ∧ x.Active = y.Active ∧ x.Zoom = y.Zoom := ⟨fun h => by subst h; simp, fun h => by cases x; cases y; simp_all⟩
instance : DecidableEq WinD := fun x y => decidable_of_iff (x.Id = y.Id ∧ x.Name = y.Name ∧ x.Tree = y.Tree ∧ x.Active = y.Active ∧ x.Zoom = y.Zoom) WinD.iff'.symm
structure SessD where
 Name : ByteArray
 Wins : List Int
 Active : Int
theorem SessD.ext' {x y : SessD} (h0 : x.Name = y.Name) (h1 : x.Wins = y.Wins) (h2 : x.Active = y.Active) : x = y := by cases x; cases y; simp_all
theorem SessD.iff' {x y : SessD} : x = y ↔ x.Name = y.Name ∧ x.Wins = y.Wins ∧ x.Active = y.Active := ⟨fun h => by subst h; simp, fun h => by cases x; cases y; simp_all⟩
instance : DecidableEq SessD := fun x y => decidable_of_iff (x.Name = y.Name ∧ x.Wins = y.Wins ∧ x.Active = y.Active) SessD.iff'.symm
structure StateD where
 W : Int
 H : Int
 Limit : Int
 Next : Int
 Panes : List PaneD
 Wins : List WinD
 Sess : List SessD
theorem StateD.ext' {x y : StateD} (h0 : x.W = y.W) (h1 : x.H = y.H) (h2 : x.Limit = y.Limit) (h3 : x.Next = y.Next) (h4 : x.Panes = y.Panes) (h5 : x.Wins = y.Wins) (h6 : x.Sess = y.Sess) : x = y := by cases x; cases y; simp_all
theorem StateD.iff' {x y : StateD} : x = y ↔ x.W = y.W ∧ x.H = y.H ∧ x.Limit = y.Limit ∧ x.Next = y.Next ∧ x.Panes = y.Panes ∧ x.Wins = y.Wins ∧ x.Sess = y.Sess := ⟨fun h => by subst h; simp, fun h => by cases x; cases y; simp_all⟩
instance : DecidableEq StateD := fun x y => decidable_of_iff (x.W = y.W ∧ x.H = y.H ∧ x.Limit = y.Limit ∧ x.Next = y.Next ∧ x.Panes = y.Panes ∧ x.Wins = y.Wins ∧ x.Sess = y.Sess) StateD.iff'.symm
structure OpD where
 Kind : Int
 A : Int
 B : Int
 C : Int
 Name : ByteArray
 Text : ByteArray
 Dir : ByteArray
 Data : List UInt8
theorem OpD.ext' {x y : OpD} (h0 : x.Kind = y.Kind) (h1 : x.A = y.A) (h2 : x.B = y.B) (h3 : x.C = y.C) (h4 : x.Name = y.Name) (h5 : x.Text = y.Text) (h6 : x.Dir = y.Dir) (h7 : x.Data = y.Data) : x = y := by cases x; cases y; simp_all
theorem OpD.iff' {x y : OpD} : x = y ↔ x.Kind = y.Kind ∧ x.A = y.A ∧ x.B = y.B ∧ x.C = y.C ∧ x.Name = y.Name ∧ x.Text = y.Text ∧ x.Dir = y.Dir ∧ x.Data = y.Data := ⟨fun h => by subst h; simp, fun h => by cases x; cases y; simp_all⟩
instance : DecidableEq OpD := fun x y => decidable_of_iff (x.Kind = y.Kind ∧ x.A = y.A ∧ x.B = y.B ∧ x.C = y.C ∧ x.Name = y.Name ∧ x.Text = y.Text ∧ x.Dir = y.Dir ∧ x.Data = y.Data) OpD.iff'.symm
structure ViewD where
 Grid : GridD
 X : Int
 Y : Int
 Hide : Bool
theorem ViewD.ext' {x y : ViewD} (h0 : x.Grid = y.Grid) (h1 : x.X = y.X) (h2 : x.Y = y.Y) (h3 : x.Hide = y.Hide) : x = y := by cases x; cases y; simp_all
theorem ViewD.iff' {x y : ViewD} : x = y ↔ x.Grid = y.Grid ∧ x.X = y.X ∧ x.Y = y.Y ∧ x.Hide = y.Hide := ⟨fun h => by subst h; simp, fun h => by cases x; cases y; simp_all⟩
instance : DecidableEq ViewD := fun x y => decidable_of_iff (x.Grid = y.Grid ∧ x.X = y.X ∧ x.Y = y.Y ∧ x.Hide = y.Hide) ViewD.iff'.symm
structure ProcD where
 Pid : Int
 Pane : Int
theorem ProcD.ext' {x y : ProcD} (h0 : x.Pid = y.Pid) (h1 : x.Pane = y.Pane) : x = y := by cases x; cases y; simp_all
theorem ProcD.iff' {x y : ProcD} : x = y ↔ x.Pid = y.Pid ∧ x.Pane = y.Pane := ⟨fun h => by subst h; simp, fun h => by cases x; cases y; simp_all⟩
instance : DecidableEq ProcD := fun x y => decidable_of_iff (x.Pid = y.Pid ∧ x.Pane = y.Pane) ProcD.iff'.symm
structure AskD where
 Pane : Int
 Cmd : ByteArray
 Dir : ByteArray
 W : Int
 H : Int
 Pid : Int
theorem AskD.ext' {x y : AskD} (h0 : x.Pane = y.Pane) (h1 : x.Cmd = y.Cmd) (h2 : x.Dir = y.Dir) (h3 : x.W = y.W) (h4 : x.H = y.H) (h5 : x.Pid = y.Pid) : x = y := by cases x; cases y; simp_all
theorem AskD.iff' {x y : AskD} : x = y ↔ x.Pane = y.Pane ∧ x.Cmd = y.Cmd ∧ x.Dir = y.Dir ∧ x.W = y.W ∧ x.H = y.H ∧ x.Pid = y.Pid := ⟨fun h => by subst h; simp, fun h => by cases x; cases y; simp_all⟩
instance : DecidableEq AskD := fun x y => decidable_of_iff (x.Pane = y.Pane ∧ x.Cmd = y.Cmd ∧ x.Dir = y.Dir ∧ x.W = y.W ∧ x.H = y.H ∧ x.Pid = y.Pid) AskD.iff'.symm
structure TableD where
 Next : Int
 Live : List ProcD
 Asked : List AskD
theorem TableD.ext' {x y : TableD} (h0 : x.Next = y.Next) (h1 : x.Live = y.Live) (h2 : x.Asked = y.Asked) : x = y := by cases x; cases y; simp_all
theorem TableD.iff' {x y : TableD} : x = y ↔ x.Next = y.Next ∧ x.Live = y.Live ∧ x.Asked = y.Asked := ⟨fun h => by subst h; simp, fun h => by cases x; cases y; simp_all⟩
instance : DecidableEq TableD := fun x y => decidable_of_iff (x.Next = y.Next ∧ x.Live = y.Live ∧ x.Asked = y.Asked) TableD.iff'.symm
structure HistD where
 Lost : Bool
 Op : OpD
theorem HistD.ext' {x y : HistD} (h0 : x.Lost = y.Lost) (h1 : x.Op = y.Op) : x = y := by cases x; cases y; simp_all
theorem HistD.iff' {x y : HistD} : x = y ↔ x.Lost = y.Lost ∧ x.Op = y.Op := ⟨fun h => by subst h; simp, fun h => by cases x; cases y; simp_all⟩
instance : DecidableEq HistD := fun x y => decidable_of_iff (x.Lost = y.Lost ∧ x.Op = y.Op) HistD.iff'.symm
structure SrvD where
 Base : StateD
 Top : Int
 Up : Bool
 St : StateD
 Dep : DepotD
 Disk : DiskD
 Tab : TableD
 Sure : Int
 Done : List HistD
theorem SrvD.ext' {x y : SrvD} (h0 : x.Base = y.Base) (h1 : x.Top = y.Top) (h2 : x.Up = y.Up) (h3 : x.St = y.St) (h4 : x.Dep = y.Dep) (h5 : x.Disk = y.Disk) (h6 : x.Tab = y.Tab) (h7 : x.Sure = y.Sure) (h8 : x.Done = y.Done) : x = y := by cases x; cases y; simp_all
theorem SrvD.iff' {x y : SrvD} : x = y ↔ x.Base = y.Base ∧ x.Top = y.Top ∧ x.Up = y.Up ∧ x.St = y.St ∧ x.Dep = y.Dep ∧ x.Disk = y.Disk ∧ x.Tab = y.Tab ∧ x.Sure = y.Sure ∧ x.Done = y.Done := ⟨fun h => by subst h; simp, fun h => by cases x; cases y; simp_all⟩
instance : DecidableEq SrvD := fun x y => decidable_of_iff (x.Base = y.Base ∧ x.Top = y.Top ∧ x.Up = y.Up ∧ x.St = y.St ∧ x.Dep = y.Dep ∧ x.Disk = y.Disk ∧ x.Tab = y.Tab ∧ x.Sure = y.Sure ∧ x.Done = y.Done) SrvD.iff'.symm
structure StepD where
 Kind : Int
 A : Int
 B : Int
 Text : ByteArray
 Data : List UInt8
 Cuts : List Int
theorem StepD.ext' {x y : StepD} (h0 : x.Kind = y.Kind) (h1 : x.A = y.A) (h2 : x.B = y.B) (h3 : x.Text = y.Text) (h4 : x.Data = y.Data) (h5 : x.Cuts = y.Cuts) : x = y := by cases x; cases y; simp_all
theorem StepD.iff' {x y : StepD} : x = y ↔ x.Kind = y.Kind ∧ x.A = y.A ∧ x.B = y.B ∧ x.Text = y.Text ∧ x.Data = y.Data ∧ x.Cuts = y.Cuts := ⟨fun h => by subst h; simp, fun h => by cases x; cases y; simp_all⟩
instance : DecidableEq StepD := fun x y => decidable_of_iff (x.Kind = y.Kind ∧ x.A = y.A ∧ x.B = y.B ∧ x.Text = y.Text ∧ x.Data = y.Data ∧ x.Cuts = y.Cuts) StepD.iff'.symm
structure RectD where
 Pane : Int
 X : Int
 Y : Int
 W : Int
 H : Int
theorem RectD.ext' {x y : RectD} (h0 : x.Pane = y.Pane) (h1 : x.X = y.X) (h2 : x.Y = y.Y) (h3 : x.W = y.W) (h4 : x.H = y.H) : x = y := by cases x; cases y; simp_all
theorem RectD.iff' {x y : RectD} : x = y ↔ x.Pane = y.Pane ∧ x.X = y.X ∧ x.Y = y.Y ∧ x.W = y.W ∧ x.H = y.H := ⟨fun h => by subst h; simp, fun h => by cases x; cases y; simp_all⟩
instance : DecidableEq RectD := fun x y => decidable_of_iff (x.Pane = y.Pane ∧ x.X = y.X ∧ x.Y = y.Y ∧ x.W = y.W ∧ x.H = y.H) RectD.iff'.symm
def within (n lo hi : Int) : Bool := decide (lo ≤ n) && decide (n ≤ hi)
theorem within_iff {n lo hi : Int} : within n lo hi = true ↔ lo ≤ n ∧ n ≤ hi := by simp [within]
theorem within_not {n lo hi : Int} : within n lo hi = false ↔ ¬ (lo ≤ n ∧ n ≤ hi) := by rw [← within_iff]; simp
def wordB (c : Int) : Bool := decide (97 ≤ c) && decide (c ≤ 122) || decide (48 ≤ c) && decide (c ≤ 57)
def upto (p : UInt8 → Bool) (s : ByteArray) (k : Nat) : Prop := ∀ j, j < k → p (sbyte s j) = true
def allB (p : UInt8 → Bool) (s : ByteArray) : Bool := s.data.toList.all p
theorem sbyte_get {s : ByteArray} {j : Nat} (h : j < s.size) : s.data.toList[j]? = some (sbyte s j) := by
 unfold sbyte
 have : j < s.data.toList.length := by simpa using h
 rw [List.getD_eq_getElem?_getD, List.getElem?_eq_getElem this]; rfl
theorem allB_true {p : UInt8 → Bool} {s : ByteArray} {k : Nat} (h : upto p s k) (hk : s.size ≤ k) : allB p s = true := by
 unfold allB
 rw [List.all_eq_true]
 intro x hx
 obtain ⟨j, hj, rfl⟩ := List.mem_iff_getElem.1 hx
 have hj' : j < s.size := by simpa using hj
 have h1 := sbyte_get hj'
 rw [List.getElem?_eq_getElem hj] at h1
 rw [Option.some.inj h1]
 exact h j (by omega)
theorem allB_false {p : UInt8 → Bool} {s : ByteArray} {k : Nat} (hk : k < s.size) (h : p (sbyte s k) = false) : allB p s = false := by
 unfold allB
 rw [← Bool.not_eq_true, List.all_eq_true]
 intro hh
 have := hh (sbyte s k) (List.mem_of_getElem? (sbyte_get hk))
 rw [h] at this
 cases this
theorem upto_zero {p : UInt8 → Bool} {s : ByteArray} : upto p s 0 := fun _ h => absurd h (by omega)
theorem upto_succ {p : UInt8 → Bool} {s : ByteArray} {k : Nat} (h : upto p s k) (hk : p (sbyte s k) = true) : upto p s (k + 1) := fun j hj => by
 rcases Nat.lt_or_ge j k with h1 | h1
 ·exact h j h1
 ·have : j = k := by omega
  subst this; exact hk
def plainB (more : ByteArray) (c : UInt8) : Bool := wordB c.toNat || decide (0 ≤ firstIdx more c)
def isPlain (s : ByteArray) (most : Int) (more : ByteArray) : Bool := allB (plainB more) s && within s.size 1 most
def isNumB (n : Int) : Bool := decide (0 ≤ n) && decide (n ≤ 4294967295)
def isId (n : Int) : Bool := within n 1 1000000
def varL (n : Nat) : List UInt8 := if n < 128 then [UInt8.ofNat n] else UInt8.ofNat (n % 128 + 128) :: varL (n / 128)
termination_by n
decreasing_by omega
theorem varL_small {n : Nat} (h : n < 128) : varL n = [UInt8.ofNat n] := by rw [varL, if_pos h]
theorem varL_big {n : Nat} (h : ¬ n < 128) : varL n = UInt8.ofNat (n % 128 + 128) :: varL (n / 128) := by rw [varL, if_neg h]
theorem ub_small {k : Int} (h0 : 0 ≤ k) (h : k < 128) : [ub k] = varL k.toNat := by
 rw [varL_small (by omega)]
 unfold ub
 congr 2
 omega
theorem ub_big {k : Int} (h : 128 ≤ k) : ub (k % 128 + 128) :: varL (k / 128).toNat = varL k.toNat := by
 rw [varL_big (n := k.toNat) (by omega)]
 unfold ub
 have e1 : ((k % 128 + 128) % 256).toNat = k.toNat % 128 + 128 := by omega
 have e2 : (k / 128).toNat = k.toNat / 128 := by omega
 rw [e1, e2]
theorem varL_len (n : Nat) (h : n < 34359738368) : (varL n).length ≤ 5 := by
 have step : ∀ n, (varL n).length ≤ 1 + (if n < 128 then 0 else (varL (n / 128)).length) := by
  intro n
  by_cases h : n < 128
  ·rw [varL_small h, if_pos h]; simp
  ·rw [varL_big h, if_neg h]; simp; omega
 have h1 := step n
 have h2 := step (n / 128)
 have h3 := step (n / 128 / 128)
 have h4 := step (n / 128 / 128 / 128)
 have h5 := step (n / 128 / 128 / 128 / 128)
 have h6 : n / 128 / 128 / 128 / 128 < 128 := by omega
 rw [if_pos h6] at h5
 split at h1 <;> split at h2 <;> split at h3 <;> split at h4 <;> omega
def findI {α : Type} (p : α → Bool) (xs : List α) : Int := match xs.findIdx? p with | some i => (i : Int) | none => -1
theorem findI_some {α : Type} {F : Enc α} {p : α → Bool} {xs : List α} {i : Nat} (hi : i < xs.length) (h : ∀ j, j < i → p (gat F xs j) = false) (hp : p (gat F xs i) = true) : findI p xs = i := by
 have e : ∀ j (hj : j < xs.length), gat F xs j = xs[j] := fun j hj => by
  have := gat_get (F := F) hj
  rw [List.getElem?_eq_getElem hj] at this
  exact (Option.some.inj this).symm
 have : xs.findIdx? p = some i := by
  rw [List.findIdx?_eq_some_iff_getElem]
  refine ⟨hi, by rw [← e i hi]; exact hp, fun j hj => ?_⟩
  rw [← e j (by omega), h j hj]
  simp
 simp [findI, this]
theorem findI_none {α : Type} {F : Enc α} {p : α → Bool} {xs : List α} (h : ∀ j, j < xs.length → p (gat F xs j) = false) : findI p xs = -1 := by
 have : xs.findIdx? p = none := by
  rw [List.findIdx?_eq_none_iff]
  intro x hx
  obtain ⟨i, hi, rfl⟩ := List.mem_iff_getElem.1 hx
  have e := gat_get (F := F) hi
  rw [List.getElem?_eq_getElem hi] at e
  rw [Option.some.inj e]
  exact h i hi
 simp [findI, this]
theorem findI_cases {α : Type} {p : α → Bool} {xs : List α} : (findI p xs = -1 ∧ ∀ x, x ∈ xs → p x = false) ∨ ∃ i, ∃ h : i < xs.length, findI p xs = (i : Int) ∧ p xs[i] = true ∧ ∀ j, (hj : j < i) → p (xs[j]'(by omega)) = false := by
 cases e : xs.findIdx? p with
 | none => exact Or.inl ⟨by simp [findI, e], List.findIdx?_eq_none_iff.1 e⟩
 | some i =>
  obtain ⟨h1, h2, h3⟩ := List.findIdx?_eq_some_iff_getElem.1 e
  exact Or.inr ⟨i, h1, by simp [findI, e], h2, fun j hj => by simpa using h3 j hj⟩
def contLen : List UInt8 → Nat
 | [] => 0
 | x :: r => if 128 ≤ x.toNat then contLen r + 1 else 0
def valL : List UInt8 → Nat
 | [] => 0
 | x :: r => x.toNat % 128 + 128 * valL r
theorem contLen_lt : ∀ {l : List UInt8} {i : Nat}, i < contLen l → 128 ≤ (gat encB l i).toNat
 | [], _, h => by simp [contLen] at h
 | x :: r, 0, h => by
  simp only [contLen] at h
  split at h
  ·rename_i hx; exact hx
  ·omega
 | x :: r, i + 1, h => by
  simp only [contLen] at h
  split at h
  ·have := contLen_lt (l := r) (i := i) (by omega)
   simpa [gat] using this
  ·omega
theorem contLen_at : ∀ {l : List UInt8}, contLen l < l.length → (gat encB l (contLen l)).toNat < 128
 | [], h => by simp at h
 | x :: r, h => by
  simp only [contLen] at h ⊢
  split
  ·rename_i hx
   rw [if_pos hx] at h
   have := contLen_at (l := r) (by simpa using h)
   simpa [gat] using this
  ·simp [gat]; omega
theorem contLen_next {l : List UInt8} {i : Nat} (h : i ≤ contLen l) (hi : i < l.length) (hx : 128 ≤ (gat encB l i).toNat) : i + 1 ≤ contLen l := by
 rcases Nat.lt_or_ge i (contLen l) with h1 | h1
 ·exact h1
 ·obtain rfl : i = contLen l := by omega
  have := contLen_at hi
  omega
theorem contLen_stop {l : List UInt8} {i : Nat} (h : i ≤ contLen l) (hx : (gat encB l i).toNat < 128) : contLen l = i := by
 rcases Nat.lt_or_ge i (contLen l) with h1 | h1
 ·have := contLen_lt h1
  omega
 ·omega
theorem valL_append : ∀ (a b : List UInt8), valL (a ++ b) = valL a + 128 ^ a.length * valL b
 | [], b => by simp [valL]
 | x :: r, b => by
  simp only [List.cons_append, valL, valL_append r b, List.length_cons, Nat.pow_succ]
  rw [Nat.mul_add, ← Nat.mul_assoc, Nat.mul_comm 128 (128 ^ r.length)]
  omega
theorem valL_lt : ∀ l : List UInt8, valL l < 128 ^ l.length
 | [] => by simp [valL]
 | x :: r => by
  have := valL_lt r
  simp only [valL, List.length_cons, Nat.pow_succ]
  have h1 : x.toNat % 128 < 128 := Nat.mod_lt _ (by omega)
  have h2 : 128 * (valL r + 1) ≤ 128 * 128 ^ r.length := Nat.mul_le_mul_left _ this
  rw [Nat.mul_comm (128 ^ r.length)]
  omega
theorem valL_take {l : List UInt8} {i : Nat} (h : i < l.length) : valL (l.take (i + 1)) = valL (l.take i) + (gat encB l i).toNat % 128 * 128 ^ i := by
 rw [List.take_add_one, gat_get (F := encB) h, valL_append]
 simp only [Option.toList, valL, List.length_take, Nat.min_eq_left (Nat.le_of_lt h), Nat.mul_zero, Nat.add_zero]
 rw [Nat.mul_comm]
theorem valL_or {l : List UInt8} {i : Nat} (h : i < l.length) : valL (l.take i) ||| (gat encB l i).toNat % 128 * 2 ^ (7 * i) = valL (l.take (i + 1)) := by
 have e : (2 : Nat) ^ (7 * i) = 128 ^ i := by rw [Nat.pow_mul]
 have h1 := valL_lt (l.take i)
 rw [List.length_take, Nat.min_eq_left (Nat.le_of_lt h), ← e] at h1
 rw [valL_take h, ← e, Nat.or_comm, Nat.mul_comm, ← Nat.two_pow_add_eq_or_of_lt h1]
 omega
theorem u8_of (x : UInt8) : UInt8.ofNat x.toNat = x := by simp
theorem valL_zero {p : List UInt8} {x : UInt8} (hx : x.toNat < 128) (h : valL (p ++ [x]) = 0) : x.toNat = 0 := by
 rw [valL_append] at h
 have h1 : 128 ^ p.length * valL [x] = 0 := by omega
 have h2 : 0 < 128 ^ p.length := Nat.pow_pos (by omega)
 rcases Nat.mul_eq_zero.1 h1 with h3 | h3
 ·omega
 ·simp only [valL] at h3
  omega
theorem varL_term : ∀ (p : List UInt8) (x : UInt8), (∀ b, b ∈ p → 128 ≤ b.toNat) → x.toNat < 128 → (varL (valL (p ++ [x])) = p ++ [x] ↔ (p = [] ∨ x.toNat ≠ 0))
 | [], x, _, hx => by
  have e : valL [x] = x.toNat := by simp only [valL]; omega
  rw [List.nil_append, e, varL_small hx, u8_of]
  simp
 | b :: p, x, hp, hx => by
  have ih := varL_term p x (fun c hc => hp c (List.mem_cons_of_mem _ hc)) hx
  have hb := hp b List.mem_cons_self
  have hb2 := b.toNat_lt
  have e : valL (b :: p ++ [x]) = b.toNat % 128 + 128 * valL (p ++ [x]) := rfl
  rw [e]
  by_cases hV : valL (p ++ [x]) = 0
  ·have hx0 := valL_zero hx hV
   rw [hV, varL_small (by omega)]
   constructor
   ·intro h
    have := congrArg List.length h
    simp at this
   ·rintro (h | h)
    ·cases h
    ·exact absurd hx0 h
  ·rw [varL_big (by omega)]
   have e1 : (b.toNat % 128 + 128 * valL (p ++ [x])) / 128 = valL (p ++ [x]) := by omega
   have e2 : (b.toNat % 128 + 128 * valL (p ++ [x])) % 128 + 128 = b.toNat := by omega
   rw [e1, e2, u8_of, List.cons_append, List.cons.injEq]
   constructor
   ·rintro ⟨_, h⟩
    rcases ih.1 h with h1 | h1
    ·subst h1
     refine .inr ?_
     intro h0
     apply hV
     simp [valL, h0]
    ·exact .inr h1
   ·rintro (h | h)
    ·cases h
    ·exact ⟨rfl, ih.2 (.inr h)⟩
def getL (l : List UInt8) : Option (Nat × Nat) :=
 if contLen l < 5 ∧ contLen l < l.length ∧ valL (l.take (contLen l + 1)) ≤ 4294967295 ∧ varL (valL (l.take (contLen l + 1))) = l.take (contLen l + 1) then some (valL (l.take (contLen l + 1)), contLen l + 1) else none
theorem getL_eq {l : List UInt8} {i : Nat} (h : i ≤ contLen l) (hi : i < l.length) (hx : (gat encB l i).toNat < 128) (h4 : i ≤ 4) :
  getL l = if valL (l.take (i + 1)) ≤ 4294967295 ∧ (i = 0 ∨ (gat encB l i).toNat ≠ 0) then some (valL (l.take (i + 1)), i + 1) else none := by
 have e := contLen_stop h hx
 have ht : l.take (i + 1) = l.take i ++ [gat encB l i] := by
  rw [List.take_add_one, gat_get (F := encB) hi]; rfl
 have hall : ∀ b, b ∈ l.take i → 128 ≤ b.toNat := by
  intro b hb
  obtain ⟨j, hj, rfl⟩ := List.mem_iff_getElem.1 hb
  rw [List.length_take] at hj
  have := contLen_lt (l := l) (i := j) (by omega)
  rw [List.getElem_take]
  have h2 := gat_get (F := encB) (xs := l) (k := j) (by omega)
  rw [List.getElem?_eq_getElem (by omega)] at h2
  rw [Option.some.inj h2]; exact this
 have hv := varL_term (l.take i) (gat encB l i) hall hx
 rw [← ht] at hv
 have h0 : l.take i = [] ↔ i = 0 := by
  rw [← List.length_eq_zero_iff, List.length_take]; omega
 rw [h0] at hv
 unfold getL
 rw [e]
 by_cases hc : valL (l.take (i + 1)) ≤ 4294967295 ∧ (i = 0 ∨ (gat encB l i).toNat ≠ 0)
 ·rw [if_pos hc, if_pos ⟨by omega, hi, hc.1, hv.2 hc.2⟩]
 ·rw [if_neg hc, if_neg (fun hh => hc ⟨hh.2.2.1, hv.1 hh.2.2.2⟩)]
theorem getL_none {l : List UInt8} (h : 5 ≤ contLen l ∨ l.length ≤ contLen l) : getL l = none := by
 unfold getL
 rw [if_neg]
 rintro ⟨h1, h2, _⟩
 omega
theorem getL_some {l : List UInt8} {n k : Nat} (h : getL l = some (n, k)) : 1 ≤ k ∧ k ≤ 5 ∧ k ≤ l.length ∧ n ≤ 4294967295 ∧ varL n = l.take k := by
 unfold getL at h
 split at h
 ·rename_i hh
  simp only [Option.some.injEq, Prod.mk.injEq] at h
  obtain ⟨rfl, rfl⟩ := h
  exact ⟨by omega, by omega, by omega, hh.2.2.1, hh.2.2.2⟩
 ·cases h
def getAt (b : List UInt8) (p : Int) : Option (Nat × Nat) := if 0 ≤ p ∧ p ≤ b.length then getL (b.drop p.toNat) else none
def gvN : Option (Nat × Nat) → Int
 | none => 0
 | some x => x.1
def gvE (p : Int) : Option (Nat × Nat) → Int
 | none => 0
 | some x => p + x.2
theorem getAt_some {b : List UInt8} {p : Int} {n k : Nat} (h : getAt b p = some (n, k)) : 0 ≤ p ∧ p + k ≤ b.length ∧ 1 ≤ k ∧ k ≤ 5 ∧ n ≤ 4294967295 ∧ varL n = (b.drop p.toNat).take k := by
 unfold getAt at h
 split at h
 ·rename_i hh
  have := getL_some h
  rw [List.length_drop] at this
  exact ⟨hh.1, by omega, this.1, this.2.1, this.2.2.2.1, this.2.2.2.2⟩
 ·cases h
theorem gv_bounds (b : List UInt8) (p : Int) : 0 ≤ gvN (getAt b p) ∧ gvN (getAt b p) ≤ 4294967295 ∧ 0 ≤ gvE p (getAt b p) ∧ gvE p (getAt b p) ≤ b.length := by
 cases h : getAt b p with
 | none => simp [gvN, gvE]
 | some x =>
  obtain ⟨n, k⟩ := x
  have := getAt_some h
  simp only [gvN, gvE]
  omega
theorem varL_prefix : ∀ (a : Nat) {b : Nat} {X Y : List UInt8}, varL a ++ X = varL b ++ Y → a = b ∧ X = Y := by
 intro a
 induction a using Nat.strongRecOn with
 | ind a ih =>
  intro b X Y h
  have hof : ∀ m n : Nat, m < 256 → n < 256 → UInt8.ofNat m = UInt8.ofNat n → m = n := fun m n hm hn he => by
   have := congrArg UInt8.toNat he
   simp only [UInt8.toNat_ofNat'] at this
   omega
  by_cases ha : a < 128 <;> by_cases hb : b < 128
  ·rw [varL_small ha, varL_small hb] at h
   simp only [List.singleton_append, List.cons.injEq] at h
   exact ⟨hof _ _ (by omega) (by omega) h.1, h.2⟩
  ·rw [varL_small ha, varL_big hb] at h
   simp only [List.singleton_append, List.cons_append, List.cons.injEq] at h
   have := hof _ _ (by omega) (by omega) h.1
   omega
  ·rw [varL_big ha, varL_small hb] at h
   simp only [List.singleton_append, List.cons_append, List.cons.injEq] at h
   have := hof _ _ (by omega) (by omega) h.1
   omega
  ·rw [varL_big ha, varL_big hb] at h
   simp only [List.cons_append, List.cons.injEq] at h
   have h1 := hof _ _ (by omega) (by omega) h.1
   have h2 := ih (a / 128) (by omega) h.2
   exact ⟨by omega, h2.2⟩
theorem shl7 {x i : Nat} (hx : x < 128) (hi : i ≤ 4) : (0 : Int) ≤ (x : Int) * 2 ^ ((7 : Int) * (i : Int)).toNat ∧ (x : Int) * 2 ^ ((7 : Int) * (i : Int)).toNat ≤ 34359738367 ∧ ((x : Int) * 2 ^ ((7 : Int) * (i : Int)).toNat).toNat = x * 2 ^ (7 * i) := by
 have e : ((7 : Int) * (i : Int)).toNat = 7 * i := by omega
 have h : i = 0 ∨ i = 1 ∨ i = 2 ∨ i = 3 ∨ i = 4 := by omega
 rw [e]
 rcases h with rfl | rfl | rfl | rfl | rfl <;> simp <;> omega
theorem valL_drop_lt {l : List UInt8} {m j : Nat} (hm : m ≤ 5) : valL ((l.take m).drop j) < 34359738368 := by
 have h1 := valL_lt ((l.take m).drop j)
 have h2 : ((l.take m).drop j).length ≤ 5 := by simp; omega
 have h3 : 128 ^ ((l.take m).drop j).length ≤ 128 ^ 5 := Nat.pow_le_pow_right (by omega) h2
 omega
theorem valL_take_lt {l : List UInt8} {m : Nat} (hm : m ≤ 5) : valL (l.take m) < 34359738368 := by
 have := valL_drop_lt (l := l) (m := m) (j := 0) hm
 simpa using this
theorem getAt_none {b : List UInt8} {p : Int} (h : ¬ (0 ≤ p ∧ p ≤ b.length)) : getAt b p = none := by unfold getAt; rw [if_neg h]
theorem getAt_in {b : List UInt8} {p : Int} (h : 0 ≤ p ∧ p ≤ b.length) : getAt b p = getL (b.drop p.toNat) := by unfold getAt; rw [if_pos h]
def getMany (b : List UInt8) : Nat → Int → Option (List (Int × Int))
 | 0, _ => some []
 | m + 1, p => match getAt b p with
  | none => none
  | some x => (getMany b m (p + x.2)).map ((((x.1 : Nat) : Int), p + x.2) :: ·)
def manyN (o : Option (List (Int × Int))) : List Int := (o.getD []).map (·.1)
def manyE (o : Option (List (Int × Int))) : List Int := (o.getD []).map (·.2)
theorem gvE_some {q : Int} {v : Nat × Nat} : gvE q (some v) = q + v.2 := rfl
theorem u8_inj {a b : UInt8} (h : (a.toNat : Int) = (b.toNat : Int)) : a = b := UInt8.toNat_inj.1 (by omega)
end Go.Proofs.YtcpnlodkmkfplaaGreatDoor
