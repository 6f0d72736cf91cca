/-
  What the proof stands on, part 5.
-/
import Derived.Test.YtcpnlodkmkfplaaGreatDoorKX4
namespace Go.Proofs.YtcpnlodkmkfplaaGreatDoor
open Go Go.RowKit
set_option linter.unusedVariables false
set_option linter.unusedSimpArgs false
def snapP4 : List UInt8 := [83, 78, 65, 80]
def snapHd (gen seq : Int) (n : Nat) : List UInt8 := ((snapP4 ++ varL gen.toNat) ++ varL seq.toNat) ++ varL n
def snapL (gen seq : Int) (b : List UInt8) : List UInt8 := (snapHd gen seq b.length ++ varL (crcN (snapHd gen seq b.length ++ b))) ++ b
def snapOk (gen seq : Int) (b : List UInt8) : Bool := (isGenB gen && isSeqB seq) && decide ((b.length : Int) ≤ 150000)
def snapOut (gen seq : Int) (b : List UInt8) : List UInt8 := if snapOk gen seq b then snapL gen seq b else []
theorem snapOut_y {gen seq : Int} {b : List UInt8} (h : snapOk gen seq b = true) : snapOut gen seq b = snapL gen seq b := if_pos h
theorem snapOk_P {gen seq : Int} {b : List UInt8} (h : snapOk gen seq b = true) : isGenB gen = true ∧ (1 ≤ gen ∧ gen ≤ 1000000000) ∧ (1 ≤ seq ∧ seq ≤ 1000000000) ∧ b.length ≤ 150000 := by
 unfold snapOk at h
 rw [Bool.and_eq_true, Bool.and_eq_true, decide_eq_true_eq] at h
 have h1 := h.1.1
 have h2 := h.1.2
 unfold isGenB at h1
 unfold isSeqB at h2
 rw [within_iff] at h1 h2
 exact ⟨h.1.1, h1, h2, by omega⟩
theorem snapHd_len {gen seq : Int} {n : Nat} (h1 : 1 ≤ gen ∧ gen ≤ 1000000000) (h2 : 1 ≤ seq ∧ seq ≤ 1000000000) (hn : n ≤ 4294967295) : (snapHd gen seq n).length ≤ 19 := by
 unfold snapHd snapP4
 have a1 := varL_len gen.toNat (by omega)
 have a2 := varL_len seq.toNat (by omega)
 have a3 := varL_len n (by omega)
 simp only [List.length_append, List.length_cons, List.length_nil]
 omega
theorem snapL_len {gen seq : Int} {b : List UInt8} (h : snapOk gen seq b = true) : (snapL gen seq b).length ≤ 150024 := by
 obtain ⟨_, h1, h2, h3⟩ := snapOk_P h
 have a1 := snapHd_len (n := b.length) h1 h2 (by omega)
 have a2 := varL_len (crcN (snapHd gen seq b.length ++ b)) (by have := crcN_lt (snapHd gen seq b.length ++ b); omega)
 unfold snapL
 simp only [List.length_append]
 omega
abbrev SD := DiskD × Int
def opC (n : ByteArray) : DiskOpD := ⟨1, n, noName, []⟩
def opA (n : ByteArray) (b : List UInt8) : DiskOpD := ⟨2, n, noName, b⟩
def opM (a b : ByteArray) : DiskOpD := ⟨4, a, b, []⟩
def opR (n : ByteArray) : DiskOpD := ⟨5, n, noName, []⟩
def opY : DiskOpD := ⟨6, noName, noName, []⟩
def stp (s : SD) (op : DiskOpD) : SD := (stepD s.1 s.2 op, stepC s.1 s.2 op)
def gone (s : SD) (n : ByteArray) : SD := if hasN (dirD s.1) n then stp s (opR n) else s
def backS (s : SD) : SD := (fun t : SD => (t.1, if t.2 = 0 then 5 else t.2)) (stp (stp (s.1, 0) (opR tempP)) opY)
def fill1 (s : SD) (b : List UInt8) : SD := stp (stp s (opC tempP)) (opA tempP b)
def fillS (s : SD) (b : List UInt8) : SD := if (fill1 s b).2 = 5 then backS (fill1 s b) else fill1 s b
def head1 (d : DiskD) (g1 : Int) : SD := stp (gone (gone (stp (d, 0) opY) tempP) (logName g1)) opY
def sweep1 (g1 : Int) (s : SD) (x : LinkD) : SD := if (genOk x.Name && !decide (genV x.Name = g1)) then stp s (opR x.Name) else s
def sweepS (s : SD) (g1 : Int) (l : List LinkD) : SD := l.foldl (sweep1 g1) s
def tail1 (s : SD) (g1 : Int) : SD := stp (stp (stp (stp s (syncOp tempP)) (opM tempP (snapName g1))) (opC (logName g1))) opY
def tailS (s : SD) (g1 : Int) : SD := stp (sweepS (tail1 s g1) g1 (dirD (tail1 s g1).1)) opY
def beginS (d : DiskD) (g1 : Int) (b : List UInt8) : SD := tailS (fillS (head1 d g1) b) g1
def beginOk (d : DiskD) (gen seq : Int) (b : List UInt8) : Bool := (diskOk d && within gen 0 999999999) && snapOk (gen + 1) seq b
def beginP (d : DiskD) (gen seq : Int) (b : List UInt8) : SD := beginS d (gen + 1) (snapL (gen + 1) seq b)
def beginD (d : DiskD) (gen seq : Int) (b : List UInt8) : DepotD := if beginOk d gen seq b then ⟨(beginP d gen seq b).1, if (beginP d gen seq b).2 = 0 then gen + 1 else gen, seq, 0, false⟩ else depot0
def beginC (d : DiskD) (gen seq : Int) (b : List UInt8) : Int := if beginOk d gen seq b then (beginP d gen seq b).2 else 1
theorem begin_bad {d : DiskD} {gen seq : Int} {b : List UInt8} (h : beginOk d gen seq b = false) : beginD d gen seq b = depot0 ∧ beginC d gen seq b = 1 := by unfold beginD beginC; rw [h]; exact ⟨rfl, rfl⟩
theorem begin_do {d : DiskD} {gen seq : Int} {b : List UInt8} (h : beginOk d gen seq b = true) : beginD d gen seq b = ⟨(beginP d gen seq b).1, if (beginP d gen seq b).2 = 0 then gen + 1 else gen, seq, 0, false⟩ ∧ beginC d gen seq b = (beginP d gen seq b).2 := ⟨if_pos h, if_pos h⟩
theorem stp_ne {s : SD} {op : DiskOpD} (h : ¬ s.2 = 0) : stp s op = s := by unfold stp stepD stepC; rw [if_neg h, if_neg h]
theorem stp_0 {s : SD} {op : DiskOpD} (h : s.2 = 0) : stp s op = (doneD s.1 op, doneC s.1 op) := by unfold stp stepD stepC; rw [if_pos h, if_pos h]
theorem gone_ne {s : SD} {n : ByteArray} (h : ¬ s.2 = 0) : gone s n = s := by unfold gone; split; exact stp_ne h; rfl
theorem sweep_ne {s : SD} {g1 : Int} (h : ¬ s.2 = 0) : ∀ {l : List LinkD}, sweepS s g1 l = s
 | [] => rfl
 | x :: r => by
  have e : sweep1 g1 s x = s := by unfold sweep1; split; exact stp_ne h; rfl
  show sweepS (sweep1 g1 s x) g1 r = s
  rw [e]; exact sweep_ne h
theorem tail_ne {s : SD} {g1 : Int} (h : ¬ s.2 = 0) : tailS s g1 = s := by
 have e : tail1 s g1 = s := by unfold tail1; rw [stp_ne h, stp_ne h, stp_ne h, stp_ne h]
 unfold tailS
 rw [e, sweep_ne h, stp_ne h]
theorem back_ne (s : SD) : ¬ (backS s).2 = 0 := by
 show ¬ (if _ = 0 then 5 else _) = (0 : Int)
 split
 ·decide
 ·assumption
theorem begin_5 {d : DiskD} {g1 : Int} {b : List UInt8} (h : (fill1 (head1 d g1) b).2 = 5) : beginS d g1 b = backS (fill1 (head1 d g1) b) := by
 unfold beginS fillS
 rw [if_pos h]; exact tail_ne (back_ne _)
theorem begin_n {d : DiskD} {g1 : Int} {b : List UInt8} (h : ¬ (fill1 (head1 d g1) b).2 = 5) : beginS d g1 b = tailS (fill1 (head1 d g1) b) g1 := by
 unfold beginS fillS
 rw [if_neg h]
theorem dop_mk {op : DiskOpD} (k : 1 ≤ op.Kind ∧ op.Kind ≤ 6) (h1 : opName op = true) (h2 : opTo op = true) (h3 : op.Data.length ≤ 400000) (h4 : op.Kind = 2 ∨ op.Data = []) : dopOk op = true := by
 unfold dopOk
 rw [within_iff.2 k, h1, h2, decide_eq_true (show (op.Data.length : Int) ≤ 400000 by omega)]
 rcases h4 with h4 | h4
 ·rw [h4]; rfl
 ·rw [h4]; simp
theorem opY_ok : dopOk opY = true := by decide
theorem opC_ok {n : ByteArray} (h : nameOk n = true) : dopOk (opC n) = true := dop_mk (op := opC n) ⟨by show (1 : Int) ≤ 1; decide, by show (1 : Int) ≤ 6; decide⟩ h (by show decide (noName = noName) = true; simp) (by show 0 ≤ 400000; decide) (.inr rfl)
theorem opA_ok {n : ByteArray} {b : List UInt8} (h : nameOk n = true) (hb : b.length ≤ 400000) : dopOk (opA n b) = true := dop_mk (op := opA n b) ⟨by show (1 : Int) ≤ 2; decide, by show (2 : Int) ≤ 6; decide⟩ h (by show decide (noName = noName) = true; simp) hb (.inl rfl)
theorem opM_ok {a b : ByteArray} (h : nameOk a = true) (hb : nameOk b = true) : dopOk (opM a b) = true := dop_mk (op := opM a b) ⟨by show (1 : Int) ≤ 4; decide, by show (4 : Int) ≤ 6; decide⟩ h hb (by show 0 ≤ 400000; decide) (.inr rfl)
theorem opR_ok {n : ByteArray} (h : nameOk n = true) : dopOk (opR n) = true := dop_mk (op := opR n) ⟨by show (1 : Int) ≤ 5; decide, by show (5 : Int) ≤ 6; decide⟩ h (by show decide (noName = noName) = true; simp) (by show 0 ≤ 400000; decide) (.inr rfl)
theorem opS_ok {n : ByteArray} (h : nameOk n = true) : dopOk (syncOp n) = true := dop_mk (op := syncOp n) ⟨by show (1 : Int) ≤ 3; decide, by show (3 : Int) ≤ 6; decide⟩ h (by show decide (noName = noName) = true; simp) (by show 0 ≤ 400000; decide) (.inr rfl)
theorem stp_ok {s : SD} {op : DiskOpD} (h : diskOk s.1 = true) (ho : dopOk op = true) : diskOk (stp s op).1 = true := by
 by_cases h0 : s.2 = 0
 ·rw [stp_0 h0]; exact doneD_ok h ho
 ·rw [stp_ne h0]; exact h
theorem gone_ok {s : SD} {n : ByteArray} (h : diskOk s.1 = true) (hn : nameOk n = true) : diskOk (gone s n).1 = true := by
 unfold gone
 split
 ·exact stp_ok h (opR_ok hn)
 ·exact h
theorem fill1_ok {s : SD} {b : List UInt8} (h : diskOk s.1 = true) (hb : b.length ≤ 400000) : diskOk (fill1 s b).1 = true := stp_ok (stp_ok h (opC_ok temp_ok)) (opA_ok temp_ok hb)
theorem back_ok {s : SD} (h : diskOk s.1 = true) : diskOk (backS s).1 = true := stp_ok (stp_ok (s := (s.1, 0)) h (opR_ok temp_ok)) opY_ok
theorem fill_ok {s : SD} {b : List UInt8} (h : diskOk s.1 = true) (hb : b.length ≤ 400000) : diskOk (fillS s b).1 = true := by
 unfold fillS
 split
 ·exact back_ok (fill1_ok h hb)
 ·exact fill1_ok h hb
theorem sweep1_ok {s : SD} {g1 : Int} {x : LinkD} (h : diskOk s.1 = true) (hn : nameOk x.Name = true) : diskOk (sweep1 g1 s x).1 = true := by
 unfold sweep1
 split
 ·exact stp_ok h (opR_ok hn)
 ·exact h
theorem sweep_ok {g1 : Int} : ∀ {l : List LinkD} {s : SD}, diskOk s.1 = true → (∀ x, x ∈ l → nameOk x.Name = true) → diskOk (sweepS s g1 l).1 = true
 | [], _, h, _ => h
 | x :: r, s, h, hn => sweep_ok (l := r) (s := sweep1 g1 s x) (sweep1_ok h (hn x List.mem_cons_self)) fun y hy => hn y (List.mem_cons_of_mem _ hy)
theorem rm_dir {d : DiskD} {n : ByteArray} (h : refuse d (opR n) = 0) (ho : (diskOk d && dopOk (opR n)) = true) : dirD (doneD d (opR n)) = lessL (dirD d) n := by
 unfold doneD
 rw [ho, if_pos h]
 show turnsL d.Kept (d.Turns ++ [⟨5, n, noName, 0⟩]) = _
 unfold turnsL
 rw [List.foldl_append]
 rfl
theorem hasN_less {dir : List LinkD} {n m : ByteArray} (h : hasN dir m = true) (hm : m ≠ n) : hasN (lessL dir n) m = true := by
 unfold hasN at h ⊢
 obtain ⟨x, hx, hp⟩ := List.any_eq_true.1 h
 refine List.any_eq_true.2 ⟨x, ?_, hp⟩
 unfold lessL
 refine List.mem_filter.2 ⟨hx, ?_⟩
 have : x.Name = m := by simpa [isN] using hp
 simp [isN, this, hm]
theorem doneC_ref {d : DiskD} {n : ByteArray} (h : doneC d (opR n) = 0) : (diskOk d && dopOk (opR n)) = true ∧ refuse d (opR n) = 0 := by
 unfold doneC at h
 split at h
 ·rename_i h1
  split at h
  ·rename_i h2; exact ⟨h1, h2⟩
  ·rename_i h2; exact absurd h h2
 ·cases h
def there (s : SD) (l : List LinkD) : Prop := s.2 = 0 → ∀ x, x ∈ l → hasN (dirD s.1) x.Name = true
theorem there_next {s : SD} {g1 : Int} {x : LinkD} {r : List LinkD} (h : there s (x :: r)) (hd : ∀ y, y ∈ r → y.Name ≠ x.Name) : there (sweep1 g1 s x) r := by
 intro h0 y hy
 unfold sweep1 at h0 ⊢
 split
 ·rename_i hc
  rw [if_pos hc] at h0
  by_cases hs : s.2 = 0
  ·rw [stp_0 hs] at h0 ⊢
   obtain ⟨a, b⟩ := doneC_ref h0
   rw [show dirD (doneD s.1 (opR x.Name), doneC s.1 (opR x.Name)).1 = lessL (dirD s.1) x.Name from rm_dir b a]
   exact hasN_less (h hs y (List.mem_cons_of_mem _ hy)) (hd y hy)
  ·rw [stp_ne hs] at h0; exact absurd h0 hs
 ·rename_i hc
  rw [if_neg hc] at h0
  exact h h0 y (List.mem_cons_of_mem _ hy)
theorem there_gone {s : SD} {x : LinkD} {r : List LinkD} (h : there s (x :: r)) : gone s x.Name = stp s (opR x.Name) := by
 unfold gone
 by_cases hs : s.2 = 0
 ·rw [if_pos (h hs x List.mem_cons_self)]
 ·rw [stp_ne hs]; split <;> rfl
theorem sorted_ne {l : List LinkD} (h : sortedL l) {i j : Nat} (hj : j < l.length) (hij : i < j) : (gat encLink l j).Name ≠ (gat encLink l i).Name := by
 have h1 := sorted_lt h hij hj
 intro e
 rw [e, cmpS_refl] at h1
 exact absurd h1 (by decide)
theorem sweep_take {s : SD} {g1 : Int} {l : List LinkD} {i : Nat} (h : i < l.length) : sweepS s g1 (l.take (i + 1)) = sweep1 g1 (sweepS s g1 (l.take i)) (gat encLink l i) := by
 unfold sweepS
 rw [List.take_add_one, gat_get (F := encLink) h, List.foldl_append]; rfl
def setP (q : DepotD) (s : SD) : DepotD := { q with Disk := s.1 }
theorem dep_sm {q : DepotD} (h : totDisk q.Disk ≤ 1048576) : smDepot 549755813888 q := totDepot_sm (by unfold totDepot; unfold totDisk at h; omega)
theorem there_sweep {s : SD} {g1 : Int} {l : List LinkD} {i : Nat} (hp : sortedL l) (hi : i < l.length) (h : there (sweepS s g1 (l.take i)) (l.drop i)) : there (sweepS s g1 (l.take (i + 1))) (l.drop (i + 1)) := by
 rw [sweep_take hi]
 rw [drop_link (F := encLink) hi] at h
 refine there_next h fun y hy => ?_
 obtain ⟨j, hj, rfl⟩ := List.mem_iff_getElem.1 hy
 rw [List.length_drop] at hj
 have h9 := sorted_ne hp (i := i) (j := i + 1 + j) (by omega) (by omega)
 rw [link_gat (show i + 1 + j < l.length by omega)] at h9
 rw [List.getElem_drop]
 exact h9
theorem there_at {s : SD} {l : List LinkD} {i : Nat} (hi : i < l.length) (h : there s (l.drop i)) : gone s (gat encLink l i).Name = stp s (opR (gat encLink l i).Name) := by
 rw [drop_link (F := encLink) hi] at h
 exact there_gone h
theorem there_init (s : SD) : there s (dirD s.1) := fun _ x hx => List.any_eq_true.2 ⟨x, hx, by simp [isN]⟩
def rA (b : List UInt8) (q : Int) : Int := gvN (getAt b q)
def eA (b : List UInt8) (q : Int) : Int := gvE q (getAt b q)
def rB (b : List UInt8) (q : Int) : Int := gvN (getAt b (eA b q))
def eB (b : List UInt8) (q : Int) : Int := gvE (eA b q) (getAt b (eA b q))
def rC (b : List UInt8) (q : Int) : Int := gvN (getAt b (eB b q))
def eC (b : List UInt8) (q : Int) : Int := gvE (eB b q) (getAt b (eB b q))
def rE (b : List UInt8) (q : Int) : Int := gvN (getAt b (eC b q))
def eE (b : List UInt8) (q : Int) : Int := gvE (eC b q) (getAt b (eC b q))
def three (b : List UInt8) (q : Int) : Bool := ((getAt b q).isSome && (getAt b (eA b q)).isSome) && (getAt b (eB b q)).isSome
def four (b : List UInt8) (q : Int) : Bool := three b q && (getAt b (eC b q)).isSome
theorem getAt_is {b : List UInt8} {q : Int} (h : (getAt b q).isSome = true) : ∃ n k : Nat, getAt b q = some (n, k) ∧ 0 ≤ q ∧ q + k ≤ b.length ∧ 1 ≤ k ∧ k ≤ 5 ∧ n ≤ 4294967295 ∧ varL n = (b.drop q.toNat).take k := by
 obtain ⟨⟨n, k⟩, e⟩ := Option.isSome_iff_exists.1 h
 exact ⟨n, k, e, getAt_some e⟩
structure Three (b : List UInt8) (q : Int) : Prop where
 ra : 0 ≤ rA b q ∧ rA b q ≤ 4294967295
 rb : 0 ≤ rB b q ∧ rB b q ≤ 4294967295
 rc : 0 ≤ rC b q ∧ rC b q ≤ 4294967295
 o : 0 ≤ q ∧ q < eA b q ∧ eA b q < eB b q ∧ eB b q < eC b q ∧ eC b q ≤ b.length
 two : (b.drop q.toNat).take (eB b q - q).toNat = varL (rA b q).toNat ++ varL (rB b q).toNat
 all : (b.drop q.toNat).take (eC b q - q).toNat = varL (rA b q).toNat ++ varL (rB b q).toNat ++ varL (rC b q).toNat
theorem take_two {b : List UInt8} {q : Int} {j k : Nat} (h : 0 ≤ q) : (b.drop q.toNat).take (j + k) = (b.drop q.toNat).take j ++ (b.drop (q + j).toNat).take k := by
 rw [List.take_add, List.drop_drop]
 congr 3
 omega
theorem three_P {b : List UInt8} {q : Int} (h : three b q = true) : Three b q := by
 unfold three at h
 simp only [Bool.and_eq_true] at h
 obtain ⟨⟨h1, h2⟩, h3⟩ := h
 obtain ⟨n1, k1, g1, f1⟩ := getAt_is h1
 have e1 : eA b q = q + k1 := by unfold eA; rw [g1]; rfl
 have m1 : rA b q = n1 := by unfold rA; rw [g1]; rfl
 rw [e1] at h2
 obtain ⟨n2, k2, g2, f2⟩ := getAt_is h2
 have e2 : eB b q = q + k1 + k2 := by unfold eB; rw [e1, g2]; rfl
 have m2 : rB b q = n2 := by unfold rB; rw [e1, g2]; rfl
 rw [e2] at h3
 obtain ⟨n3, k3, g3, f3⟩ := getAt_is h3
 have e3 : eC b q = q + k1 + k2 + k3 := by unfold eC; rw [e2, g3]; rfl
 have m3 : rC b q = n3 := by unfold rC; rw [e2, g3]; rfl
 have t2 : (b.drop q.toNat).take (eB b q - q).toNat = varL (rA b q).toNat ++ varL (rB b q).toNat := by
  rw [m1, m2, Int.toNat_natCast, Int.toNat_natCast, f1.2.2.2.2.2, f2.2.2.2.2.2, show (eB b q - q).toNat = k1 + k2 by omega, take_two f1.1]
 refine ⟨by omega, by omega, by omega, by omega, t2, ?_⟩
 rw [← t2, m3, Int.toNat_natCast, f3.2.2.2.2.2, show (eC b q - q).toNat = (eB b q - q).toNat + k3 by omega, take_two f1.1]
 congr 3
 omega
theorem many_cons {b : List UInt8} {m : Nat} {q : Int} : (getMany b (m + 1) q).isSome = ((getAt b q).isSome && (getMany b m (eA b q)).isSome) ∧ ((getMany b (m + 1) q).isSome = true → manyN (getMany b (m + 1) q) = rA b q :: manyN (getMany b m (eA b q)) ∧ manyE (getMany b (m + 1) q) = eA b q :: manyE (getMany b m (eA b q))) := by
 unfold rA eA
 cases h : getAt b q with
 | none => simp [getMany, h]
 | some x =>
  rw [gvE_some]
  have e : getMany b (m + 1) q = (getMany b m (q + x.2)).map ((((x.1 : Nat) : Int), q + x.2) :: ·) := by simp [getMany, h]
  rw [e]
  cases h2 : getMany b m (q + x.2) with
  | none => simp
  | some l => simp [manyN, manyE, gvN]
theorem eA_B {b : List UInt8} {q : Int} : eA b (eA b q) = eB b q := rfl
theorem rA_B {b : List UInt8} {q : Int} : rA b (eA b q) = rB b q := rfl
theorem eA_C {b : List UInt8} {q : Int} : eA b (eB b q) = eC b q := rfl
theorem rA_C {b : List UInt8} {q : Int} : rA b (eB b q) = rC b q := rfl
theorem many_three {b : List UInt8} {q : Int} : (getMany b 3 q).isSome = three b q ∧ (three b q = true → manyN (getMany b 3 q) = [rA b q, rB b q, rC b q] ∧ manyE (getMany b 3 q) = [eA b q, eB b q, eC b q]) := by
 obtain ⟨a1, a2⟩ := many_cons (b := b) (m := 2) (q := q)
 obtain ⟨b1, b2⟩ := many_cons (b := b) (m := 1) (q := eA b q)
 obtain ⟨c1, c2⟩ := many_cons (b := b) (m := 0) (q := eB b q)
 rw [eA_B, rA_B] at b2
 rw [eA_B] at b1
 rw [eA_C, rA_C] at c2
 have e0 : (getMany b 0 (eA b (eB b q))).isSome = true := rfl
 rw [b1, c1, e0, Bool.and_true] at a1
 have ht : (getMany b 3 q).isSome = three b q := by rw [a1]; unfold three; rw [Bool.and_assoc]
 refine ⟨ht, fun h => ?_⟩
 have h2 := h
 unfold three at h2
 simp only [Bool.and_eq_true] at h2
 obtain ⟨d1, d2⟩ := c2 (by rw [c1, h2.2, e0]; rfl)
 obtain ⟨e1, e2⟩ := b2 (by rw [b1, c1, h2.2, h2.1.2, e0]; rfl)
 obtain ⟨f1, f2⟩ := a2 (by rw [ht, h])
 rw [f1, f2, e1, e2, d1, d2]
 exact ⟨rfl, rfl⟩
theorem many_four {b : List UInt8} {q : Int} : (getMany b 4 q).isSome = four b q ∧ (four b q = true → manyN (getMany b 4 q) = [rA b q, rB b q, rC b q, rE b q] ∧ manyE (getMany b 4 q) = [eA b q, eB b q, eC b q, eE b q]) := by
 obtain ⟨a1, a2⟩ := many_cons (b := b) (m := 3) (q := q)
 obtain ⟨b1, b2⟩ := many_three (b := b) (q := eA b q)
 have e1 : eB b (eA b q) = eC b q := rfl
 have e2 : eC b (eA b q) = eE b q := rfl
 have e3 : rB b (eA b q) = rC b q := rfl
 have e4 : rC b (eA b q) = rE b q := rfl
 have hf : (getMany b 4 q).isSome = four b q := by
  rw [a1, b1]; unfold four three; rw [eA_B, e1, Bool.and_assoc, Bool.and_assoc, Bool.and_assoc]
 refine ⟨hf, fun h => ?_⟩
 have hb : three b (eA b q) = true := by
  unfold four three at h
  simp only [Bool.and_eq_true] at h
  unfold three
  rw [eA_B, e1, h.1.1.2, h.1.2, h.2]; rfl
 obtain ⟨c1, c2⟩ := a2 (by rw [hf, h])
 obtain ⟨d1, d2⟩ := b2 hb
 rw [c1, c2, d1, d2, rA_B, e3, e4, eA_B, e1, e2]
 exact ⟨rfl, rfl⟩
def dat3 (b : List UInt8) (q : Int) : List UInt8 := (b.drop (eC b q).toNat).take (rB b q).toNat
def frPre (b : List UInt8) (p : Int) : Bool := (((decide (0 ≤ p ∧ p < b.length) && decide (gat encB b p.toNat = 167)) && three b (p + 1)) && (isSeqB (rA b (p + 1)) && decide (rB b (p + 1) ≤ 60000))) && decide (rB b (p + 1) ≤ b.length - eC b (p + 1))
def frOk (b : List UInt8) (p : Int) : Bool := frPre b p && decide (frameL (rA b (p + 1)) (dat3 b (p + 1)) = (b.drop p.toNat).take (eC b (p + 1) + rB b (p + 1) - p).toNat)
def frS (b : List UInt8) (p : Int) : Int := if frOk b p then rA b (p + 1) else 0
def frD (b : List UInt8) (p : Int) : List UInt8 := if frOk b p then dat3 b (p + 1) else []
def frN (b : List UInt8) (p : Int) : Int := if frOk b p then eC b (p + 1) + rB b (p + 1) else 0
structure FrPre (b : List UInt8) (p : Int) : Prop where
 tb : three b (p + 1) = true
 hp : 0 ≤ p ∧ p < b.length
 m : gat encB b p.toNat = 167
 t : Three b (p + 1)
 s : 1 ≤ rA b (p + 1) ∧ rA b (p + 1) ≤ 1000000000
 n : rB b (p + 1) ≤ 60000
 r : rB b (p + 1) ≤ b.length - eC b (p + 1)
theorem frPre_P {b : List UInt8} {p : Int} (h : frPre b p = true) : FrPre b p := by
 unfold frPre isSeqB at h
 simp only [Bool.and_eq_true, decide_eq_true_eq, within_iff] at h
 obtain ⟨⟨⟨⟨h1, h2⟩, h3⟩, h4, h5⟩, h6⟩ := h
 exact ⟨h3, h1, h2, three_P h3, h4, h5, h6⟩
theorem FrPre.len {b : List UInt8} {p : Int} (h : FrPre b p) : (dat3 b (p + 1)).length = (rB b (p + 1)).toNat := by
 unfold dat3
 have h1 := h.r
 have h2 := h.t.rb
 rw [List.length_take, List.length_drop]
 have := h.t.o
 omega
theorem drop_cons {b : List UInt8} {p : Int} (h : 0 ≤ p ∧ p < b.length) : b.drop p.toNat = gat encB b p.toNat :: b.drop (p + 1).toNat := by
 have hi : p.toNat < b.length := by omega
 rw [drop_link (F := encB) hi]
 congr 2
 omega
theorem FrPre.head {b : List UInt8} {p : Int} (h : FrPre b p) : (b.drop p.toNat).take (eB b (p + 1) - p).toNat = headL (rA b (p + 1)) (rB b (p + 1)).toNat := by
 have ho := h.t.o
 rw [drop_cons h.hp, h.m, show (eB b (p + 1) - p).toNat = (eB b (p + 1) - (p + 1)).toNat + 1 by omega, List.take_succ_cons, h.t.two]
 unfold headL
 simp
theorem FrPre.whole {b : List UInt8} {p : Int} (h : FrPre b p) : (b.drop p.toNat).take (eC b (p + 1) + rB b (p + 1) - p).toNat = (headL (rA b (p + 1)) (rB b (p + 1)).toNat ++ varL (rC b (p + 1)).toNat) ++ dat3 b (p + 1) := by
 have ho := h.t.o
 have hb := h.t.rb
 rw [drop_cons h.hp, h.m, show (eC b (p + 1) + rB b (p + 1) - p).toNat = ((eC b (p + 1) - (p + 1)).toNat + (rB b (p + 1)).toNat) + 1 by omega, List.take_succ_cons, take_two ho.1, h.t.all]
 unfold headL dat3
 rw [show (p + 1 + ((eC b (p + 1) - (p + 1)).toNat : Nat) : Int).toNat = (eC b (p + 1)).toNat by omega]
 simp
theorem FrPre.sum {b : List UInt8} {p : Int} (h : FrPre b p) : frameL (rA b (p + 1)) (dat3 b (p + 1)) = (b.drop p.toNat).take (eC b (p + 1) + rB b (p + 1) - p).toNat ↔ (crcN (headL (rA b (p + 1)) (rB b (p + 1)).toNat ++ dat3 b (p + 1)) : Int) = rC b (p + 1) := by
 rw [h.whole]
 unfold frameL
 rw [h.len]
 have hc := h.t.rc
 constructor
 ·intro e
  rw [List.append_assoc, List.append_assoc] at e
  have := (varL_prefix _ (List.append_cancel_left e)).1
  omega
 ·intro e
  rw [show (rC b (p + 1)).toNat = crcN (headL (rA b (p + 1)) (rB b (p + 1)).toNat ++ dat3 b (p + 1)) by omega]
theorem frOk_P {b : List UInt8} {p : Int} (h : frOk b p = true) : FrPre b p ∧ frameL (rA b (p + 1)) (dat3 b (p + 1)) = (b.drop p.toNat).take (eC b (p + 1) + rB b (p + 1) - p).toNat := by
 unfold frOk at h
 rw [Bool.and_eq_true, decide_eq_true_eq] at h
 exact ⟨frPre_P h.1, h.2⟩
theorem frOk_not {b : List UInt8} {p : Int} (h : FrPre b p → frameL (rA b (p + 1)) (dat3 b (p + 1)) = (b.drop p.toNat).take (eC b (p + 1) + rB b (p + 1) - p).toNat → False) : frOk b p = false := by
 cases ho : frOk b p with
 | false => rfl
 | true => exact (h (frOk_P ho).1 (frOk_P ho).2).elim
theorem frOk_mk {b : List UInt8} {p : Int} (h : FrPre b p) (h2 : frameL (rA b (p + 1)) (dat3 b (p + 1)) = (b.drop p.toNat).take (eC b (p + 1) + rB b (p + 1) - p).toNat) : frOk b p = true := by
 unfold frOk frPre isSeqB
 rw [h.tb, h.m, decide_eq_true h2, within_iff.2 h.s, decide_eq_true h.hp, decide_eq_true h.n, decide_eq_true h.r]; rfl
theorem fr_y {b : List UInt8} {p : Int} (h : frOk b p = true) : frS b p = rA b (p + 1) ∧ frD b p = dat3 b (p + 1) ∧ frN b p = eC b (p + 1) + rB b (p + 1) := ⟨if_pos h, if_pos h, if_pos h⟩
theorem fr_n {b : List UInt8} {p : Int} (h : frOk b p = false) : frS b p = 0 ∧ frD b p = [] ∧ frN b p = 0 := by
 unfold frS frD frN; rw [h]; exact ⟨rfl, rfl, rfl⟩
theorem frN_on {b : List UInt8} {p : Int} (h : frOk b p = true) : p < frN b p ∧ frN b p ≤ b.length := by
 obtain ⟨h1, _⟩ := frOk_P h
 rw [(fr_y h).2.2]
 have := h1.t.o; have := h1.t.rb; have := h1.r
 omega
theorem frameOk_P {s : Int} {d : List UInt8} (h : frameOk s d = true) : (1 ≤ s ∧ s ≤ 1000000000) ∧ d.length ≤ 60000 := by
 unfold frameOk at h
 rw [Bool.and_eq_true, within_iff, decide_eq_true_eq] at h
 omega
theorem frameL_cons (s : Int) (d X : List UInt8) : frameL s d ++ X = 167 :: (varL s.toNat ++ (varL d.length ++ (varL (crcN (headL s d.length ++ d)) ++ (d ++ X)))) := by
 unfold frameL
 generalize crcN (headL s d.length ++ d) = q
 unfold headL
 simp
theorem frame_back {b X : List UInt8} {p : Nat} {s : Int} {d : List UInt8} (h : b.drop p = frameL s d ++ X) (hk : frameOk s d = true) : frOk b p = true ∧ frS b p = s ∧ frD b p = d ∧ frN b p = p + (frameL s d).length := by
 obtain ⟨hs, hd⟩ := frameOk_P hk
 have hp : p < b.length := by
  rcases Nat.lt_or_ge p b.length with h' | h'
  ·exact h'
  ·rw [List.drop_eq_nil_of_le h'] at h
   have := congrArg List.length h
   unfold frameL headL at this
   simp at this
 have hc := crcN_lt (headL s d.length ++ d)
 have hcons := drop_cons (b := b) (p := (p : Int)) (by omega)
 have h0 := h
 rw [frameL_cons] at h0
 rw [Int.toNat_natCast, h0, List.cons.injEq] at hcons
 obtain ⟨hm, hn⟩ := hcons
 rw [show ((p : Int) + 1).toNat = p + 1 by omega] at hn
 have v1 := getAt_var (p := p + 1) hn.symm (by omega) (by omega)
 obtain ⟨n1, n2⟩ := drop_next hn.symm (by omega)
 have v2 := getAt_var n1 n2 (by omega)
 obtain ⟨n3, n4⟩ := drop_next n1 n2
 have v3 := getAt_var n3 n4 (by omega)
 obtain ⟨n5, n6⟩ := drop_next n3 n4
 have i1 : rA b ((p : Int) + 1) = s := by unfold rA; rw [show ((p : Int) + 1) = ((p + 1 : Nat) : Int) by omega, v1]; show ((s.toNat : Nat) : Int) = s; omega
 have j1 : eA b ((p : Int) + 1) = ((p + 1 + (varL s.toNat).length : Nat) : Int) := by unfold eA; rw [show ((p : Int) + 1) = ((p + 1 : Nat) : Int) by omega, v1]; show ((p + 1 : Nat) : Int) + ((varL s.toNat).length : Int) = _; omega
 have i2 : rB b ((p : Int) + 1) = d.length := by unfold rB; rw [j1, v2]; rfl
 have j2 : eB b ((p : Int) + 1) = ((p + 1 + (varL s.toNat).length + (varL d.length).length : Nat) : Int) := by unfold eB; rw [j1, v2]; show ((p + 1 + (varL s.toNat).length : Nat) : Int) + ((varL d.length).length : Int) = _; omega
 have j3 : eC b ((p : Int) + 1) = ((p + 1 + (varL s.toNat).length + (varL d.length).length + (varL (crcN (headL s d.length ++ d))).length : Nat) : Int) := by unfold eC; rw [j2]; rw [v3]; show ((p + 1 + (varL s.toNat).length + (varL d.length).length : Nat) : Int) + _ = _; simp only; omega
 have ht : three b ((p : Int) + 1) = true := by
  unfold three
  rw [j1, j2, v2, v3, show ((p : Int) + 1) = ((p + 1 : Nat) : Int) by omega, v1]; rfl
 have hfl : (frameL s d).length = 1 + (varL s.toNat).length + (varL d.length).length + (varL (crcN (headL s d.length ++ d))).length + d.length := by
  unfold frameL; rw [List.length_append, List.length_append]; unfold headL; simp only [List.length_append, List.length_singleton]
 have hX := congrArg List.length h
 rw [List.length_drop, List.length_append, hfl] at hX
 have hdt : dat3 b ((p : Int) + 1) = d := by
  unfold dat3
  rw [i2, j3, Int.toNat_natCast, Int.toNat_natCast, n5, List.take_left']; rfl
 have hpre : frPre b p = true := by
  unfold frPre isSeqB
  rw [ht, i1, i2, j3, Int.toNat_natCast, ← hm]
  simp only [Bool.and_eq_true, decide_eq_true_eq, within_iff, and_true]
  omega
 have hok : frOk b p = true := by
  unfold frOk
  rw [hpre, i1, i2, j3, hdt, Int.toNat_natCast, h, Bool.true_and, decide_eq_true_eq, List.take_left']
  rw [hfl]; omega
 obtain ⟨a1, a2, a3⟩ := fr_y hok
 refine ⟨hok, by rw [a1, i1], by rw [a2, hdt], ?_⟩
 rw [a3, i2, j3, hfl]; omega
def jrn (b : List UInt8) : Nat → Int → Int → List LoadD × Int
 | 0, p, _ => ([], p)
 | k + 1, p, s => if frOk b p && decide (frS b p = s) then (⟨frD b p⟩ :: (jrn b k (frN b p) (s + 1)).1, (jrn b k (frN b p) (s + 1)).2) else ([], p)
def jrnB (b : List UInt8) (s : Int) : List LoadD × Int := jrn b (b.length + 1) 0 s
theorem jrn_y {b : List UInt8} {k : Nat} {p s : Int} (h : frOk b p = true) (h2 : frS b p = s) : jrn b (k + 1) p s = (⟨frD b p⟩ :: (jrn b k (frN b p) (s + 1)).1, (jrn b k (frN b p) (s + 1)).2) := by
 show (if _ then _ else _) = _
 rw [h, h2, decide_eq_true rfl]; rfl
theorem jrn_n {b : List UInt8} {k : Nat} {p s : Int} (h : ¬ (frOk b p = true ∧ frS b p = s)) : jrn b k p s = ([], p) := by
 cases k with
 | zero => rfl
 | succ k =>
  show (if _ then _ else _) = _
  rw [if_neg (by simpa using h)]
theorem jrn_app {b : List UInt8} {k : Nat} {p s : Int} {r : List LoadD × Int} {zs : List LoadD} (h : r = (zs ++ (jrn b (k + 1) p s).1, (jrn b (k + 1) p s).2)) (h1 : frOk b p = true) (h2 : frS b p = s) : r = ((zs ++ [⟨frD b p⟩]) ++ (jrn b k (frN b p) (s + 1)).1, (jrn b k (frN b p) (s + 1)).2) := by
 rw [h, jrn_y h1 h2]; simp
theorem jrn_end {b : List UInt8} {k : Nat} {p s : Int} {r : List LoadD × Int} {zs : List LoadD} (h : r = (zs ++ (jrn b k p s).1, (jrn b k p s).2)) (h1 : ¬ (frOk b p = true ∧ frS b p = s)) : r.1 = zs ∧ r.2 = p := by
 rw [h, jrn_n h1]; simp
def jrnL : Int → List LoadD → List UInt8
 | _, [] => []
 | s, x :: r => frameL s x.Data ++ jrnL (s + 1) r
def jrnOk : Int → List LoadD → Bool
 | _, [] => true
 | s, x :: r => frameOk s x.Data && jrnOk (s + 1) r
theorem jrnL_app : ∀ {l m : List LoadD} {s : Int}, jrnL s (l ++ m) = jrnL s l ++ jrnL (s + l.length) m
 | [], m, s => by simp [jrnL]
 | x :: r, m, s => by
  show frameL s x.Data ++ jrnL (s + 1) (r ++ m) = (frameL s x.Data ++ jrnL (s + 1) r) ++ _
  rw [jrnL_app (l := r), List.append_assoc, List.length_cons]
  congr 3
  push_cast
  omega
theorem jrnOk_app : ∀ {l m : List LoadD} {s : Int}, jrnOk s (l ++ m) = (jrnOk s l && jrnOk (s + l.length) m)
 | [], m, s => by simp [jrnOk]
 | x :: r, m, s => by
  show (frameOk s x.Data && jrnOk (s + 1) (r ++ m)) = ((frameOk s x.Data && jrnOk (s + 1) r) && _)
  rw [jrnOk_app (l := r), Bool.and_assoc, List.length_cons]
  congr 3
  push_cast
  omega
theorem frameL_pos (s : Int) (d : List UInt8) : 1 ≤ (frameL s d).length := by unfold frameL headL; simp only [List.length_append, List.length_singleton]; omega
theorem jrn_back : ∀ {l : List LoadD} {b X : List UInt8} {p k : Nat} {s : Int}, b.drop p = jrnL s l ++ X → jrnOk s l = true → p ≤ b.length → b.length - p < k → frOk b ((p + (jrnL s l).length : Nat) : Int) = false →
  jrn b k p s = (l, ((p + (jrnL s l).length : Nat) : Int))
 | [], b, X, p, k, s, h, hk, hp, hl, hf => by
  have e : (p + (jrnL s ([] : List LoadD)).length) = p := rfl
  rw [e] at hf ⊢
  exact jrn_n fun hh => by rw [hf] at hh; cases hh.1
 | x :: r, b, X, p, k, s, h, hk, hp, hl, hf => by
  have hk2 : frameOk s x.Data = true ∧ jrnOk (s + 1) r = true := by simpa [jrnOk] using hk
  have h2 : b.drop p = frameL s x.Data ++ (jrnL (s + 1) r ++ X) := by rw [h]; show (frameL s x.Data ++ jrnL (s + 1) r) ++ X = _; rw [List.append_assoc]
  obtain ⟨a1, a2, a3, a4⟩ := frame_back h2 hk2.1
  obtain ⟨d1, d2⟩ := drop_next h2 hp
  have hpos := frameL_pos s x.Data
  obtain ⟨j, rfl⟩ : ∃ j, k = j + 1 := ⟨k - 1, by omega⟩
  have e : (p + (jrnL s (x :: r)).length) = p + (frameL s x.Data).length + (jrnL (s + 1) r).length := by
   show p + (frameL s x.Data ++ jrnL (s + 1) r).length = _
   rw [List.length_append]; omega
  rw [e] at hf ⊢
  rw [jrn_y a1 a2, a3, a4, show ((p : Int) + ((frameL s x.Data).length : Int)) = ((p + (frameL s x.Data).length : Nat) : Int) by omega, jrn_back (l := r) d1 hk2.2 d2 (by omega) hf]
theorem frOk_end {b : List UInt8} {p : Int} (h : (b.length : Int) ≤ p) : frOk b p = false := by
 cases ho : frOk b p with
 | false => rfl
 | true => have := (frOk_P ho).1.hp; omega
theorem jrn_whole {l : List LoadD} {s : Int} (h : jrnOk s l = true) : jrnB (jrnL s l) s = (l, ((jrnL s l).length : Int)) := by
 unfold jrnB
 have h1 := jrn_back (b := jrnL s l) (X := []) (p := 0) (k := (jrnL s l).length + 1) (s := s) (l := l) (by simp) h (Nat.zero_le _) (by omega) (frOk_end (by omega))
 rw [Nat.zero_add] at h1
 exact h1
def snPre (b : List UInt8) : Bool := ((decide (b.take 4 = snapP4) && four b 4) && (isGenB (rA b 4) && isSeqB (rB b 4))) && (decide (rC b 4 = b.length - eE b 4) && decide (rC b 4 ≤ 150000))
def snDat (b : List UInt8) : List UInt8 := b.drop (eE b 4).toNat
def snOk (b : List UInt8) : Bool := snPre b && decide (snapL (rA b 4) (rB b 4) (snDat b) = b)
def snG (b : List UInt8) : Int := if snOk b then rA b 4 else 0
def snS (b : List UInt8) : Int := if snOk b then rB b 4 else 0
def snD (b : List UInt8) : List UInt8 := if snOk b then snDat b else []
structure SnPre (b : List UInt8) : Prop where
 fb : four b 4 = true
 h : b.take 4 = snapP4
 t : Three b 4
 e : (0 ≤ rE b 4 ∧ rE b 4 ≤ 4294967295) ∧ eC b 4 < eE b 4 ∧ eE b 4 ≤ b.length
 v : (b.drop (eC b 4).toNat).take (eE b 4 - eC b 4).toNat = varL (rE b 4).toNat
 g : 1 ≤ rA b 4 ∧ rA b 4 ≤ 1000000000
 s : 1 ≤ rB b 4 ∧ rB b 4 ≤ 1000000000
 n : rC b 4 = b.length - eE b 4 ∧ rC b 4 ≤ 150000
theorem snPre_P {b : List UInt8} (h : snPre b = true) : SnPre b := by
 unfold snPre four isGenB isSeqB at h
 simp only [Bool.and_eq_true, decide_eq_true_eq, within_iff] at h
 obtain ⟨⟨⟨h1, h2, h3⟩, h4, h5⟩, h6⟩ := h
 obtain ⟨n, k, g1, f1⟩ := getAt_is h3
 have e1 : eE b 4 = eC b 4 + k := by unfold eE; rw [g1]; rfl
 have e2 : rE b 4 = n := by unfold rE; rw [g1]; rfl
 refine ⟨by unfold four; rw [h2, h3]; rfl, h1, three_P h2, by omega, ?_, h4, h5, h6⟩
 rw [e2, e1, Int.toNat_natCast, f1.2.2.2.2.2]
 congr 1
 omega
theorem SnPre.len {b : List UInt8} (h : SnPre b) : (snDat b).length = (rC b 4).toNat := by
 unfold snDat
 have h1 := h.n.1
 have h2 := h.e
 have h3 := h.t.o
 rw [List.length_drop]
 omega
theorem SnPre.head {b : List UInt8} (h : SnPre b) : b.take (eC b 4).toNat = snapHd (rA b 4) (rB b 4) (rC b 4).toNat := by
 have ho := h.t.o
 have := take_two (b := b) (q := 0) (j := 4) (k := (eC b 4 - 4).toNat) (by omega)
 rw [show ((0 : Int).toNat) = 0 from rfl, List.drop_zero, show 4 + (eC b 4 - 4).toNat = (eC b 4).toNat by omega] at this
 rw [this, h.h, show ((0 : Int) + ((4 : Nat) : Int)).toNat = (4 : Int).toNat from rfl, h.t.all]
 unfold snapHd
 simp
theorem SnPre.whole {b : List UInt8} (h : SnPre b) : b = (snapHd (rA b 4) (rB b 4) (rC b 4).toNat ++ varL (rE b 4).toNat) ++ snDat b := by
 have ho := h.t.o
 have he := h.e
 unfold snDat
 rw [← h.head, ← h.v]
 have h1 := take_two (b := b) (q := 0) (j := (eC b 4).toNat) (k := (eE b 4 - eC b 4).toNat) (by omega)
 rw [show ((0 : Int).toNat) = 0 from rfl, List.drop_zero, show (eC b 4).toNat + (eE b 4 - eC b 4).toNat = (eE b 4).toNat by omega, show ((0 : Int) + ((eC b 4).toNat : Int)).toNat = (eC b 4).toNat by omega] at h1
 rw [← h1, List.take_append_drop]
theorem SnPre.sum {b : List UInt8} (h : SnPre b) : snapL (rA b 4) (rB b 4) (snDat b) = b ↔ (crcN (snapHd (rA b 4) (rB b 4) (rC b 4).toNat ++ snDat b) : Int) = rE b 4 := by
 have hw := h.whole
 unfold snapL
 rw [h.len]
 have hc := h.e
 constructor
 ·intro e
  have e2 := e.trans hw
  rw [List.append_assoc, List.append_assoc] at e2
  have := (varL_prefix _ (List.append_cancel_left e2)).1
  omega
 ·intro e
  refine Eq.trans ?_ hw.symm
  rw [show (rE b 4).toNat = crcN (snapHd (rA b 4) (rB b 4) (rC b 4).toNat ++ snDat b) by omega]
theorem sn_y {b : List UInt8} (h : snOk b = true) : snG b = rA b 4 ∧ snS b = rB b 4 ∧ snD b = snDat b := ⟨if_pos h, if_pos h, if_pos h⟩
theorem sn_n {b : List UInt8} (h : snOk b = false) : snG b = 0 ∧ snS b = 0 ∧ snD b = [] := by
 unfold snG snS snD; rw [h]; exact ⟨rfl, rfl, rfl⟩
theorem snOk_P {b : List UInt8} (h : snOk b = true) : SnPre b ∧ snapL (rA b 4) (rB b 4) (snDat b) = b := by
 unfold snOk at h
 rw [Bool.and_eq_true, decide_eq_true_eq] at h
 exact ⟨snPre_P h.1, h.2⟩
theorem snOk_not {b : List UInt8} (h : SnPre b → snapL (rA b 4) (rB b 4) (snDat b) = b → False) : snOk b = false := by
 cases ho : snOk b with
 | false => rfl
 | true => exact (h (snOk_P ho).1 (snOk_P ho).2).elim
theorem snOk_mk {b : List UInt8} (h : SnPre b) (h2 : snapL (rA b 4) (rB b 4) (snDat b) = b) : snOk b = true := by
 unfold snOk snPre isGenB isSeqB
 rw [h.fb, decide_eq_true h.h, decide_eq_true h2, within_iff.2 h.g, within_iff.2 h.s, decide_eq_true h.n.1, decide_eq_true h.n.2]; rfl
theorem snPre_mk {b : List UInt8} (h1 : b.take 4 = snapP4) (h2 : four b 4 = true) (h3 : 1 ≤ rA b 4 ∧ rA b 4 ≤ 1000000000) (h4 : 1 ≤ rB b 4 ∧ rB b 4 ≤ 1000000000) (h5 : rC b 4 = b.length - eE b 4 ∧ rC b 4 ≤ 150000) : SnPre b :=
 snPre_P (by unfold snPre isGenB isSeqB; rw [decide_eq_true h1, h2, within_iff.2 h3, within_iff.2 h4, decide_eq_true h5.1, decide_eq_true h5.2]; rfl)
theorem frPre_mk {b : List UInt8} {p : Int} (h1 : 0 ≤ p ∧ p < b.length) (h2 : gat encB b p.toNat = 167) (h3 : three b (p + 1) = true) (h4 : 1 ≤ rA b (p + 1) ∧ rA b (p + 1) ≤ 1000000000) (h5 : rB b (p + 1) ≤ 60000) (h6 : rB b (p + 1) ≤ b.length - eC b (p + 1)) : FrPre b p :=
 ⟨h3, h1, h2, three_P h3, h4, h5, h6⟩
theorem snOk_gen {b : List UInt8} (h : snOk b = true) : isGenB (snG b) = true := by
 rw [(sn_y h).1]; unfold isGenB; rw [within_iff]; exact (snOk_P h).1.g
theorem snD_len {b : List UInt8} : (snD b).length ≤ b.length := by
 unfold snD snDat
 split
 ·rw [List.length_drop]; omega
 ·exact Nat.zero_le _
theorem snap_back {g s : Int} {d : List UInt8} (hk : snapOk g s d = true) : snOk (snapL g s d) = true ∧ snG (snapL g s d) = g ∧ snS (snapL g s d) = s ∧ snD (snapL g s d) = d := by
 obtain ⟨hg, hg1, hs, hd⟩ := snapOk_P hk
 have hc := crcN_lt (snapHd g s d.length ++ d)
 have h : (snapL g s d).drop 4 = varL g.toNat ++ (varL s.toNat ++ (varL d.length ++ (varL (crcN (snapHd g s d.length ++ d)) ++ d))) := by
  conv => lhs; unfold snapL
  unfold snapHd snapP4
  simp
 have h4 : (snapL g s d).take 4 = snapP4 := by
  conv => lhs; unfold snapL
  unfold snapHd snapP4
  simp
 have hl : 4 ≤ (snapL g s d).length := by
  have := congrArg List.length h4
  rw [List.length_take] at this
  have e : snapP4.length = 4 := rfl
  omega
 generalize hb : snapL g s d = b at h h4 hl ⊢
 generalize hq : crcN (snapHd g s d.length ++ d) = q at h hc
 have v1 := getAt_var (p := 4) h hl (by omega)
 obtain ⟨n1, m1⟩ := drop_next h hl
 have v2 := getAt_var n1 m1 (by omega)
 obtain ⟨n2, m2⟩ := drop_next n1 m1
 have v3 := getAt_var n2 m2 (by omega)
 obtain ⟨n3, m3⟩ := drop_next n2 m2
 have v4 := getAt_var n3 m3 (by omega)
 obtain ⟨n5, m5⟩ := drop_next n3 m3
 have i1 : rA b 4 = g := by unfold rA; rw [show (4 : Int) = ((4 : Nat) : Int) from rfl, v1]; show ((g.toNat : Nat) : Int) = g; omega
 have j1 : eA b 4 = ((4 + (varL g.toNat).length : Nat) : Int) := by unfold eA; rw [show (4 : Int) = ((4 : Nat) : Int) from rfl, v1]; show ((4 : Nat) : Int) + ((varL g.toNat).length : Int) = _; omega
 have i2 : rB b 4 = s := by unfold rB; rw [j1, v2]; show ((s.toNat : Nat) : Int) = s; omega
 have j2 : eB b 4 = ((4 + (varL g.toNat).length + (varL s.toNat).length : Nat) : Int) := by unfold eB; rw [j1, v2]; show ((4 + (varL g.toNat).length : Nat) : Int) + ((varL s.toNat).length : Int) = _; omega
 have i3 : rC b 4 = d.length := by unfold rC; rw [j2, v3]; rfl
 have j3 : eC b 4 = ((4 + (varL g.toNat).length + (varL s.toNat).length + (varL d.length).length : Nat) : Int) := by unfold eC; rw [j2, v3]; show ((4 + (varL g.toNat).length + (varL s.toNat).length : Nat) : Int) + ((varL d.length).length : Int) = _; omega
 have j4 : eE b 4 = ((4 + (varL g.toNat).length + (varL s.toNat).length + (varL d.length).length + (varL q).length : Nat) : Int) := by unfold eE; rw [j3, v4]; show ((4 + (varL g.toNat).length + (varL s.toNat).length + (varL d.length).length : Nat) : Int) + ((varL q).length : Int) = _; omega
 have ht : four b 4 = true := by
  unfold four three
  rw [j1, j2, j3, v2, v3, v4, show (4 : Int) = ((4 : Nat) : Int) from rfl, v1]; rfl
 have hdt : snDat b = d := by unfold snDat; rw [j4, Int.toNat_natCast, n5]
 have hlen := congrArg List.length n5
 rw [List.length_drop] at hlen
 have hpre : snPre b = true := by
  unfold snPre
  rw [ht, h4, i1, i2, i3, j4, hg, show isSeqB s = true from within_iff.2 hs]
  simp only [Bool.and_eq_true, decide_eq_true_eq, and_true, true_and]
  omega
 have hok : snOk b = true := by
  unfold snOk
  rw [hpre, i1, i2, hdt, hb, decide_eq_true rfl]; rfl
 obtain ⟨a1, a2, a3⟩ := sn_y hok
 exact ⟨hok, by rw [a1, i1], by rw [a2, i2], by rw [a3, hdt]⟩
theorem sn_no {b : List UInt8} (h : b.take 4 ≠ snapP4) : snOk b = false := by
 unfold snOk snPre
 rw [decide_eq_false h]; rfl
theorem jrn_noSnap : ∀ {l : List LoadD} {s : Int} {k : Nat}, snOk ((jrnL s l).take k) = false
 | [], s, k => sn_no (by simp [jrnL, snapP4])
 | x :: r, s, k => sn_no (by
  intro h
  cases k with
  | zero => simp [snapP4] at h
  | succ k =>
   have h2 : (List.take 4 (List.take (k + 1) (jrnL s (x :: r)))).head? = some 83 := by rw [h]; rfl
   have h3 : jrnL s (x :: r) = 167 :: ((varL s.toNat ++ varL x.Data.length ++ varL (crcN (headL s x.Data.length ++ x.Data)) ++ x.Data) ++ jrnL (s + 1) r) := by
    show frameL s x.Data ++ jrnL (s + 1) r = _
    unfold frameL
    conv => lhs; unfold headL
    simp [headL]
   rw [h3] at h2
   simp at h2)
theorem pre_take {b : List UInt8} : Go.Lib.hasPrefix (⟨b.toArray⟩ : ByteArray).data.toList (⟨#[83, 78, 65, 80]⟩ : ByteArray).data.toList = decide (b.take 4 = snapP4) := by
 show List.isPrefixOf snapP4 b = _
 rw [Bool.eq_iff_iff, List.isPrefixOf_iff_prefix, decide_eq_true_eq, List.prefix_iff_eq_take]
 exact ⟨fun h => h.symm, fun h => h.symm⟩
abbrev NS := Int × Int × List UInt8
def newStep (d : DiskD) (s : NS) (x : LinkD) : NS :=
 if (snOk (readB d x.Name) && decide (snapName (snG (readB d x.Name)) = x.Name)) && decide (s.1 < snG (readB d x.Name)) then (snG (readB d x.Name), snS (readB d x.Name), snD (readB d x.Name)) else s
def newest (d : DiskD) : NS := (dirS d).foldl (newStep d) (0, 0, [])
def newOk (s : NS) : Prop := (s.1 = 0 ∨ isGenB s.1 = true) ∧ (0 ≤ s.2.1 ∧ s.2.1 ≤ 1000000000) ∧ s.2.2.length ≤ 1048576
theorem newStep_ok {d : DiskD} {s : NS} {x : LinkD} (hs : newOk s) (hd : smDisk 1048576 d) : newOk (newStep d s x) := by
 unfold newStep
 split
 ·rename_i h
  simp only [Bool.and_eq_true, decide_eq_true_eq] at h
  have hk := h.1.1
  obtain ⟨e1, e2, e3⟩ := sn_y hk
  have h2 := (snOk_P hk).1.s
  have h3 := snD_len (b := readB d x.Name)
  have h4 := readB_len (n := x.Name) hd
  refine ⟨.inr (snOk_gen hk), ?_, by show (snD (readB d x.Name)).length ≤ _; omega⟩
  show 0 ≤ snS (readB d x.Name) ∧ snS (readB d x.Name) ≤ _
  rw [e2]; omega
 ·exact hs
theorem news_ok {d : DiskD} (hd : smDisk 1048576 d) : ∀ (l : List LinkD) (s : NS), newOk s → newOk (l.foldl (newStep d) s)
 | [], _, h => h
 | x :: r, s, h => news_ok hd r _ (newStep_ok h hd)
theorem newest_ok {d : DiskD} (hd : smDisk 1048576 d) : newOk (newest d) := news_ok hd _ _ ⟨.inl rfl, ⟨by decide, by decide⟩, Nat.zero_le _⟩
theorem new_take {d : DiskD} {l : List LinkD} {i : Nat} {s : NS} (h : i < l.length) : (l.take (i + 1)).foldl (newStep d) s = newStep d ((l.take i).foldl (newStep d) s) (gat encLink l i) := by
 rw [List.take_add_one, gat_get (F := encLink) h, List.foldl_append]; rfl
theorem newStep_n {d : DiskD} {s : NS} {x : LinkD} (h : ¬ (snOk (readB d x.Name) = true ∧ snapName (snG (readB d x.Name)) = x.Name ∧ s.1 < snG (readB d x.Name))) : newStep d s x = s := by
 unfold newStep
 rw [if_neg]
 simp only [Bool.and_eq_true, decide_eq_true_eq]
 exact fun hh => h ⟨hh.1.1, hh.1.2, hh.2⟩
theorem newStep_y {d : DiskD} {s : NS} {x : LinkD} (h : snOk (readB d x.Name) = true ∧ snapName (snG (readB d x.Name)) = x.Name ∧ s.1 < snG (readB d x.Name)) : newStep d s x = (snG (readB d x.Name), snS (readB d x.Name), snD (readB d x.Name)) := by
 unfold newStep
 rw [if_pos]
 simp only [Bool.and_eq_true, decide_eq_true_eq]
 exact ⟨⟨h.1, h.2.1⟩, h.2.2⟩
theorem newStep_skip {d : DiskD} {s : NS} {x : LinkD} (h : ¬ (genOk x.Name = true ∧ x.Name = snapName (genV x.Name) ∧ s.1 < genV x.Name)) : newStep d s x = s := by
 refine newStep_n fun ⟨h1, h2, h3⟩ => h ?_
 obtain ⟨g1, g2⟩ := genOk_snap (snOk_gen h1)
 rw [h2] at g1 g2
 rw [g2]
 exact ⟨g1, h2.symm, h3⟩
theorem newStep_read {d : DiskD} {s : NS} {x : LinkD} (h : genOk x.Name = true ∧ x.Name = snapName (genV x.Name) ∧ s.1 < genV x.Name) :
  newStep d s x = if snOk (readB d x.Name) = true ∧ snG (readB d x.Name) = genV x.Name then (genV x.Name, snS (readB d x.Name), snD (readB d x.Name)) else s := by
 obtain ⟨h1, h2, h3⟩ := h
 split
 ·rename_i hh
  rw [newStep_y ⟨hh.1, by rw [hh.2]; exact h2.symm, by rw [hh.2]; exact h3⟩, hh.2]
 ·rename_i hh
  refine newStep_n fun ⟨k1, k2, _⟩ => hh ⟨k1, ?_⟩
  have := (genOk_snap (snOk_gen k1)).2
  rw [k2] at this
  exact this.symm
structure FindD where
 G : Int
 S : Int
 D : List UInt8
 L : List LoadD
 C : Int
def findD (d : DiskD) : FindD :=
 if diskOk d then (if (newest d).1 = 0 then ⟨0, 1, [], [], 0⟩ else ⟨(newest d).1, (newest d).2.1, (newest d).2.2, (jrnB (readB d (logName (newest d).1)) (newest d).2.1).1, 0⟩) else ⟨0, 0, [], [], 1⟩
theorem find_bad {d : DiskD} (h : diskOk d = false) : findD d = ⟨0, 0, [], [], 1⟩ := by unfold findD; rw [h]; rfl
theorem find_0 {d : DiskD} (h : diskOk d = true) (h2 : (newest d).1 = 0) : findD d = ⟨0, 1, [], [], 0⟩ := by unfold findD; rw [h, h2]; rfl
theorem find_y {d : DiskD} (h : diskOk d = true) (h2 : ¬ (newest d).1 = 0) : findD d = ⟨(newest d).1, (newest d).2.1, (newest d).2.2, (jrnB (readB d (logName (newest d).1)) (newest d).2.1).1, 0⟩ := by
 unfold findD; rw [h]; exact if_neg h2
theorem read_no {d : DiskD} {n : ByteArray} (h : readOk d n = false) : readB d n = [] := if_neg (by rw [h]; decide)
theorem jrn_nil (s : Int) : (jrnB [] s).1 = [] := by
 have := jrn_whole (l := []) (s := s) rfl
 rw [show jrnL s [] = [] from rfl] at this
 rw [this]
theorem find_no {d : DiskD} (h : diskOk d = true) (h2 : ¬ (newest d).1 = 0) (h3 : readOk d (logName (newest d).1) = false) : findD d = ⟨(newest d).1, (newest d).2.1, (newest d).2.2, [], 0⟩ := by
 rw [find_y h h2, read_no h3, jrn_nil]
def cst (X : Nat → DiskD) (f : Int) (i : Nat) : SD := if f < 0 then ({ X i with Fuse := f }, 0) else if (i : Int) ≤ f then ({ X i with Fuse := f - i }, 0) else ({ X f.toNat with Fuse := 0 }, 2)
structure Chain (X : Nat → DiskD) (O : Nat → DiskOpD) (N : Nat) : Prop where
 ok : diskOk (X 0) = true
 fz : ∀ i, (X i).Fuse = -1
 op : ∀ i, i < N → dopOk (O i) = true
 go : ∀ i, i < N → refuse (X i) (O i) = 0 ∧ doD (X i) (O i) = X (i + 1) ∧ doC (X i) (O i) = 0
theorem fuse1_neg {d : DiskD} (h : d.Fuse = -1) : fuse1 d = d := by
 unfold fuse1
 rw [if_neg (by omega)]
theorem Chain.all {X : Nat → DiskD} {O : Nat → DiskOpD} {N : Nat} (h : Chain X O N) : ∀ i, i ≤ N → diskOk (X i) = true
 | 0, _ => h.ok
 | i + 1, hi => by
  have h1 := h.all i (by omega)
  have h2 := h.go i (by omega)
  have h3 := (done_do h1 (h.op i (by omega)) h2.1).1
  rw [fuse1_neg (h.fz i), h2.2.1] at h3
  rw [← h3]
  exact doneD_ok h1 (h.op i (by omega))
theorem any_fuse {d : DiskD} {f : Int} (h : diskOk d = true) (hf : -1 ≤ f ∧ f ≤ 1000) : diskOk { d with Fuse := f } = true := by
 unfold diskOk at h ⊢
 simp only [Bool.and_eq_true] at h ⊢
 obtain ⟨⟨⟨⟨⟨h1, h2⟩, h3⟩, h4⟩, h5⟩, h6⟩ := h
 refine ⟨⟨⟨⟨⟨?_, h2⟩, h3⟩, h4⟩, h5⟩, h6⟩
 unfold diskBnd at h1 ⊢
 simp only [Bool.and_eq_true] at h1 ⊢
 exact ⟨⟨h1.1.1, within_iff.2 hf⟩, h1.2⟩
theorem doD_fuse {d : DiskD} {op : DiskOpD} {f : Int} : doD { d with Fuse := f } op = { doD d op with Fuse := f } := by
 unfold doD
 split
 ·rfl
 ·split
  ·rfl
  ·split
   ·rfl
   ·split <;> rfl
theorem refuse_any {d : DiskD} {op : DiskOpD} {f : Int} (h : refuse d op = 0) (hf : f ≠ 0) : refuse { d with Fuse := f } op = 0 := by
 have h0 := refuse_fuse h
 unfold refuse at h ⊢
 rw [if_neg h0] at h
 rw [if_neg hf]
 exact h
theorem Chain.stp {X : Nat → DiskD} {O : Nat → DiskOpD} {N : Nat} (h : Chain X O N) {f : Int} (hf : -1 ≤ f ∧ f ≤ 1000) {i : Nat} (hi : i < N) : stp (cst X f i) (O i) = cst X f (i + 1) := by
 obtain ⟨h1, h2, h3⟩ := h.go i hi
 have hk := h.all i (by omega)
 unfold cst
 by_cases h0 : f < 0
 ·rw [if_pos h0, if_pos h0, stp_0 rfl]
  have hr := refuse_any (f := f) h1 (by omega)
  obtain ⟨a, b⟩ := done_do (any_fuse hk hf) (h.op i hi) hr
  rw [show doneD ({ X i with Fuse := f }, (0 : Int)).1 (O i) = _ from a, show doneC ({ X i with Fuse := f }, (0 : Int)).1 (O i) = _ from b]
  have e : fuse1 { X i with Fuse := f } = { X i with Fuse := f } := fuse1_neg (by show f = -1; omega)
  rw [e, doD_fuse, h2]
  exact congrArg _ h3
 ·rw [if_neg h0, if_neg h0]
  by_cases h4 : (i : Int) ≤ f
  ·rw [if_pos h4, stp_0 rfl]
   by_cases h5 : ((i + 1 : Nat) : Int) ≤ f
   ·rw [if_pos h5]
    have hr := refuse_any (f := f - i) h1 (by omega)
    obtain ⟨a, b⟩ := done_do (any_fuse (f := f - i) hk (by omega)) (h.op i hi) hr
    rw [show doneD ({ X i with Fuse := f - i }, (0 : Int)).1 (O i) = _ from a, show doneC ({ X i with Fuse := f - i }, (0 : Int)).1 (O i) = _ from b]
    have e : fuse1 { X i with Fuse := f - i } = { X i with Fuse := f - (i + 1 : Nat) } := by
     unfold fuse1
     show ({ X i with Fuse := if 0 < f - i then f - i - 1 else f - i } : DiskD) = _
     rw [if_pos (by omega), show f - (i : Int) - 1 = f - ((i + 1 : Nat) : Int) by omega]
    rw [e, doD_fuse, h2]
    exact congrArg _ h3
   ·rw [if_neg h5]
    have e : f = i := by omega
    have hz : ({ X i with Fuse := f - i } : DiskD).Fuse = 0 := by show f - (i : Int) = 0; omega
    obtain ⟨a, b⟩ := done_ref (any_fuse (f := f - i) hk (by omega)) (h.op i hi) (by rw [refuse_2 hz]; decide)
    rw [show doneD ({ X i with Fuse := f - i }, (0 : Int)).1 (O i) = _ from a, show doneC ({ X i with Fuse := f - i }, (0 : Int)).1 (O i) = _ from b, refuse_2 hz]
    rw [show f.toNat = i by omega, show f - (i : Int) = 0 by omega]
  ·rw [if_neg h4, if_neg (by omega), stp_ne (show ¬ (2 : Int) = 0 by decide)]
theorem cst_code {X : Nat → DiskD} {f : Int} {i : Nat} : (cst X f i).2 = 0 ∨ (cst X f i).2 = 2 := by
 unfold cst
 split
 ·exact .inl rfl
 ·split
  ·exact .inl rfl
  ·exact .inr rfl
theorem cst_gone {X : Nat → DiskD} {f : Int} {i : Nat} {n : ByteArray} (h : ∀ j, j ≤ i → hasN (dirD (X j)) n = false) : gone (cst X f i) n = cst X f i := by
 have hh : hasN (dirD (cst X f i).1) n = false := by
  unfold cst
  split
  ·exact h i (Nat.le_refl _)
  ·split
   ·exact h i (Nat.le_refl _)
   ·exact h _ (by omega)
 unfold gone
 rw [if_neg (by rw [hh]; decide)]
theorem cst_end {X : Nat → DiskD} {f : Int} {N : Nat} (hf : -1 ≤ f) : (∃ e, (cst X f N).1 = { X N with Fuse := e } ∧ (cst X f N).2 = 0) ∨ ∃ j, j < N ∧ (cst X f N).1 = { X j with Fuse := 0 } ∧ (cst X f N).2 = 2 := by
 unfold cst
 split
 ·exact .inl ⟨_, rfl, rfl⟩
 ·split
  ·exact .inl ⟨_, rfl, rfl⟩
  ·exact .inr ⟨_, by omega, rfl, rfl⟩
theorem cst_stop {X : Nat → DiskD} {f : Int} {i j : Nat} (hij : i ≤ j) (h : ¬ (cst X f i).2 = 0) : cst X f j = cst X f i := by
 unfold cst at h ⊢
 split
 ·rename_i h0; rw [if_pos h0] at h; exact absurd rfl h
 ·rename_i h0
  rw [if_neg h0] at h
  by_cases h1 : (i : Int) ≤ f
  ·rw [if_pos h1] at h; exact absurd rfl h
  ·rw [if_neg h1, if_neg (by omega)]
def ltF (a b : ByteArray) : Prop := ((0 < cmpS a b) = False ∧ (0 < cmpS b a) = True) ∧ (a = b) = False ∧ (b = a) = False
theorem lt_F {a b : ByteArray} (h : cmpS a b < 0) : ltF a b := by
 have h1 := cmpS_swap b a
 have hn : a ≠ b := fun e => by rw [e, cmpS_refl] at h; exact absurd h (by decide)
 exact ⟨⟨eq_false (by omega), eq_true (by omega)⟩, eq_false hn, eq_false hn.symm⟩
structure Five (L L2 S S2 T : ByteArray) : Prop where
 a : cmpS L L2 < 0
 b : cmpS L2 S < 0
 c : cmpS S S2 < 0
 d : cmpS S2 T < 0
structure Five2 (L L2 S S2 T : ByteArray) : Prop where
 a : ltF L L2
 b : ltF L2 S
 c : ltF S S2
 d : ltF S2 T
 e : ltF L S
 f : ltF L2 S2
 g : ltF S T
 h : ltF L S2
 i : ltF L2 T
 j : ltF L T
theorem Five.two {L L2 S S2 T : ByteArray} (h : Five L L2 S S2 T) : Five2 L L2 S S2 T := by
 have e := cmpS_trans h.a h.b
 have f := cmpS_trans h.b h.c
 have g := cmpS_trans h.c h.d
 exact ⟨lt_F h.a, lt_F h.b, lt_F h.c, lt_F h.d, lt_F e, lt_F f, lt_F g, lt_F (cmpS_trans e h.c), lt_F (cmpS_trans f h.d), lt_F (cmpS_trans e g)⟩
theorem numBA_1 {n : Int} (h : 0 ≤ n ∧ n < 10) : numBA n = ⟨#[UInt8.ofNat (48 + n.toNat)]⟩ := by
 have e : numT n = [UInt8.ofNat (48 + n.toNat)] := by
  unfold numT
  rw [if_pos (by omega), Go.Lib.decDigits, dif_pos (by omega)]
 unfold numBA
 rw [e]
theorem names_five {g : Int} (h : 1 ≤ g ∧ g ≤ 8) : Five (logName g) (logName (g + 1)) (snapName g) (snapName (g + 1)) tempP := by
 have hg : g = 1 ∨ g = 2 ∨ g = 3 ∨ g = 4 ∨ g = 5 ∨ g = 6 ∨ g = 7 ∨ g = 8 := by omega
 have e1 : ∀ k : Int, 1 ≤ k ∧ k ≤ 9 → logName k = logP ++ ⟨#[UInt8.ofNat (48 + k.toNat)]⟩ := fun k hk => by
  unfold logName; rw [genName_y (by unfold isGenB; rw [within_iff]; omega), numBA_1 (by omega)]
 have e2 : ∀ k : Int, 1 ≤ k ∧ k ≤ 9 → snapName k = snapP ++ ⟨#[UInt8.ofNat (48 + k.toNat)]⟩ := fun k hk => by
  unfold snapName; rw [genName_y (by unfold isGenB; rw [within_iff]; omega), numBA_1 (by omega)]
 rw [e1 g (by omega), e1 (g + 1) (by omega), e2 g (by omega), e2 (g + 1) (by omega)]
 rcases hg with rfl | rfl | rfl | rfl | rfl | rfl | rfl | rfl <;> exact ⟨by decide, by decide, by decide, by decide⟩
theorem temp_no : genOk tempP = false := by decide
theorem temp_name (n : Int) : snapName n ≠ tempP := by
 intro h
 cases hg : isGenB n with
 | true =>
  have := genOk_snap hg
  rw [h, temp_no] at this
  exact absurd this.1 (by decide)
 | false =>
  unfold snapName at h
  rw [genName_n hg] at h
  exact absurd h (by decide)
theorem atI_0 {f : FileD} {l : List FileD} : atI (f :: l) f.Id = 0 := by
 unfold atI findI
 rw [List.findIdx?_cons, decide_eq_true rfl]; rfl
theorem atI_s {f : FileD} {l : List FileD} {i : Int} {k : Nat} (h : f.Id ≠ i) (h2 : atI l i = (k : Int)) : atI (f :: l) i = ((k + 1 : Nat) : Int) := by
 unfold atI findI at h2 ⊢
 rw [List.findIdx?_cons, decide_eq_false h]
 cases e : List.findIdx? (fun f => decide (f.Id = i)) l with
 | none => rw [e] at h2; have h3 : (-1 : Int) = (k : Int) := h2; omega
 | some j => rw [e] at h2; have h3 : (j : Int) = (k : Int) := h2; show ((j + 1 : Nat) : Int) = _; omega
theorem dirS_name16 {d : DiskD} {i : Nat} (h : i < (dirS d).length) : (gat encLink (dirS d) i).Name.size ≤ 16 := by
 have hm : gat encLink (dirS d) i ∈ dirS d := gat_mem (F := encLink) h
 unfold dirS at hm
 cases hk : diskOk d with
 | false => rw [if_neg (by rw [hk]; decide)] at hm; exact absurd hm List.not_mem_nil
 | true => rw [if_pos hk] at hm; exact nameOk_size ((diskOk_P hk).names _ (by unfold dirS; rw [if_pos hk]; exact hm))
theorem dirS_name {d : DiskD} {i : Nat} (h : i < (dirS d).length) : (gat encLink (dirS d) i).Name.size ≤ 1048576 := Nat.le_trans (dirS_name16 h) (by decide)
def chX (L L2 S S2 : ByteArray) (a : Int) (sn lg nw : List UInt8) (sf : Int) : Nat → DiskD
 | 0 => ⟨400000, -1, a + 2, [⟨a, sn, sn.length⟩, ⟨a + 1, lg, sf⟩], [⟨L, a + 1⟩, ⟨S, a⟩], []⟩
 | 1 => ⟨400000, -1, a + 2, [⟨a, sn, sn.length⟩, ⟨a + 1, lg, sf⟩], [⟨L, a + 1⟩, ⟨S, a⟩], []⟩
 | 2 => ⟨400000, -1, a + 2, [⟨a, sn, sn.length⟩, ⟨a + 1, lg, sf⟩], [⟨L, a + 1⟩, ⟨S, a⟩], []⟩
 | 3 => ⟨400000, -1, a + 2 + 1, [⟨a, sn, sn.length⟩, ⟨a + 1, lg, sf⟩, ⟨a + 2, [], 0⟩], [⟨L, a + 1⟩, ⟨S, a⟩], [⟨1, tempP, noName, a + 2⟩]⟩
 | 4 => ⟨400000, -1, a + 2 + 1, [⟨a, sn, sn.length⟩, ⟨a + 1, lg, sf⟩, ⟨a + 2, nw, 0⟩], [⟨L, a + 1⟩, ⟨S, a⟩], [⟨1, tempP, noName, a + 2⟩]⟩
 | 5 => ⟨400000, -1, a + 2 + 1, [⟨a, sn, sn.length⟩, ⟨a + 1, lg, sf⟩, ⟨a + 2, nw, nw.length⟩], [⟨L, a + 1⟩, ⟨S, a⟩], [⟨1, tempP, noName, a + 2⟩]⟩
 | 6 => ⟨400000, -1, a + 2 + 1, [⟨a, sn, sn.length⟩, ⟨a + 1, lg, sf⟩, ⟨a + 2, nw, nw.length⟩], [⟨L, a + 1⟩, ⟨S, a⟩], [⟨1, tempP, noName, a + 2⟩, ⟨4, tempP, S2, 0⟩]⟩
 | 7 => ⟨400000, -1, a + 2 + 1 + 1, [⟨a, sn, sn.length⟩, ⟨a + 1, lg, sf⟩, ⟨a + 2, nw, nw.length⟩, ⟨a + 2 + 1, [], 0⟩], [⟨L, a + 1⟩, ⟨S, a⟩], [⟨1, tempP, noName, a + 2⟩, ⟨4, tempP, S2, 0⟩, ⟨1, L2, noName, a + 2 + 1⟩]⟩
 | 8 => ⟨400000, -1, a + 2 + 1 + 1, [⟨a, sn, sn.length⟩, ⟨a + 1, lg, sf⟩, ⟨a + 2, nw, nw.length⟩, ⟨a + 2 + 1, [], 0⟩], [⟨L, a + 1⟩, ⟨L2, a + 2 + 1⟩, ⟨S, a⟩, ⟨S2, a + 2⟩], []⟩
 | 9 => ⟨400000, -1, a + 2 + 1 + 1, [⟨a, sn, sn.length⟩, ⟨a + 1, lg, sf⟩, ⟨a + 2, nw, nw.length⟩, ⟨a + 2 + 1, [], 0⟩], [⟨L, a + 1⟩, ⟨L2, a + 2 + 1⟩, ⟨S, a⟩, ⟨S2, a + 2⟩], [⟨5, L, noName, 0⟩]⟩
 | 10 => ⟨400000, -1, a + 2 + 1 + 1, [⟨a, sn, sn.length⟩, ⟨a + 1, lg, sf⟩, ⟨a + 2, nw, nw.length⟩, ⟨a + 2 + 1, [], 0⟩], [⟨L, a + 1⟩, ⟨L2, a + 2 + 1⟩, ⟨S, a⟩, ⟨S2, a + 2⟩], [⟨5, L, noName, 0⟩, ⟨5, S, noName, 0⟩]⟩
 | _ => ⟨400000, -1, a + 2 + 1 + 1, [⟨a + 2, nw, nw.length⟩, ⟨a + 2 + 1, [], 0⟩], [⟨L2, a + 2 + 1⟩, ⟨S2, a + 2⟩], []⟩
def chO (L L2 S S2 : ByteArray) (nw : List UInt8) : Nat → DiskOpD
 | 0 => opY | 1 => opY | 2 => opC tempP | 3 => opA tempP nw | 4 => syncOp tempP | 5 => opM tempP S2 | 6 => opC L2 | 7 => opY | 8 => opR L | 9 => opR S | _ => opY
def goes (d : DiskD) (op : DiskOpD) (e : DiskD) : Prop := refuse d op = 0 ∧ doD d op = e ∧ doC d op = 0
theorem goY {d : DiskD} {K : List LinkD} {F : List FileD} (hf : d.Fuse = -1) (hK : dirD d = K) (hF : onlyL K d.Files = F) : goes d opY { d with Files := F, Kept := K, Turns := [] } := by
 refine ⟨refuse_0 (by omega) (fun h => h.1 rfl) (fun h => ?_), ?_, rfl⟩
 ·rcases h with ⟨h, _⟩ | ⟨h, _⟩ | ⟨h, _⟩
  ·exact absurd (show (6 : Int) = 1 from h) (by decide)
  ·exact absurd h (by decide)
  ·exact absurd (show (6 : Int) = 4 from h) (by decide)
 ·subst hK; subst hF; rfl
theorem goC {d : DiskD} {n : ByteArray} (hf : d.Fuse = -1) (hh : hasN (dirD d) n = false) (h1 : d.Files.length < 10) (h2 : d.Next < 1000000) (h3 : d.Turns.length < 30) : goes d (opC n) { d with Next := d.Next + 1, Files := d.Files ++ [⟨d.Next, [], 0⟩], Turns := d.Turns ++ [⟨1, n, noName, d.Next⟩] } := by
 refine ⟨refuse_0 (by omega) (fun h => ?_) (fun h => ?_), rfl, rfl⟩
 ·have : hasN (dirD d) n = decide ((1 : Int) = 1) := h.2
  rw [hh] at this; exact absurd this (by decide)
 ·rcases h with ⟨_, h⟩ | ⟨_, h⟩ | ⟨h, _⟩
  ·omega
  ·omega
  ·exact absurd (show (1 : Int) = 4 from h) (by decide)
theorem goA {d : DiskD} {n : ByteArray} {b : List UInt8} {k : Nat} {f : FileD} (hf : d.Fuse = -1) (hh : hasN (dirD d) n = true) (hk : fileN d n = k) (hg : fAt d.Files k = f) (hr : b.length ≤ roomD d) : goes d (opA n b) { d with Files := d.Files.set k { f with Body := f.Body ++ b } } := by
 refine ⟨refuse_0 (by omega) (fun h => ?_) (fun h => ?_), ?_, ?_⟩
 ·have : hasN (dirD d) n = decide ((2 : Int) = 1) := h.2
  rw [hh] at this; exact absurd this (by decide)
 ·rcases h with ⟨h, _⟩ | ⟨h, _⟩ | ⟨h, _⟩
  ·exact absurd (show (2 : Int) = 1 from h) (by decide)
  ·exact absurd (show turnK 2 = true from h) (by decide)
  ·exact absurd (show (2 : Int) = 4 from h) (by decide)
 ·show ({ d with Files := d.Files.set (fileN d n) (growF (fAt d.Files (fileN d n)) (b.take (roomD d))) } : DiskD) = _
  rw [hk, hg, List.take_of_length_le hr]; rfl
 ·exact if_neg fun h => by have : roomD d < b.length := h.2; omega
theorem goS {d : DiskD} {n : ByteArray} {k : Nat} {f : FileD} (hf : d.Fuse = -1) (hh : hasN (dirD d) n = true) (hk : fileN d n = k) (hg : fAt d.Files k = f) : goes d (syncOp n) { d with Files := d.Files.set k { f with Safe := (f.Body.length : Int) } } := by
 refine ⟨refuse_0 (by omega) (fun h => ?_) (fun h => ?_), ?_, rfl⟩
 ·have : hasN (dirD d) n = decide ((3 : Int) = 1) := h.2
  rw [hh] at this; exact absurd this (by decide)
 ·rcases h with ⟨h, _⟩ | ⟨h, _⟩ | ⟨h, _⟩
  ·exact absurd (show (3 : Int) = 1 from h) (by decide)
  ·exact absurd (show turnK 3 = true from h) (by decide)
  ·exact absurd (show (3 : Int) = 4 from h) (by decide)
 ·show ({ d with Files := d.Files.set (fileN d n) (safeF (fAt d.Files (fileN d n))) } : DiskD) = _
  rw [hk, hg]; rfl
theorem goM {d : DiskD} {n m : ByteArray} (hf : d.Fuse = -1) (hh : hasN (dirD d) n = true) (hm : m ≠ n) (h3 : d.Turns.length < 30) : goes d (opM n m) { d with Turns := d.Turns ++ [⟨4, n, m, 0⟩] } := by
 refine ⟨refuse_0 (by omega) (fun h => ?_) (fun h => ?_), rfl, rfl⟩
 ·have : hasN (dirD d) n = decide ((4 : Int) = 1) := h.2
  rw [hh] at this; exact absurd this (by decide)
 ·rcases h with ⟨h, _⟩ | ⟨_, h⟩ | ⟨_, h⟩
  ·exact absurd (show (4 : Int) = 1 from h) (by decide)
  ·omega
  ·exact hm h
theorem goR {d : DiskD} {n : ByteArray} (hf : d.Fuse = -1) (hh : hasN (dirD d) n = true) (h3 : d.Turns.length < 30) : goes d (opR n) { d with Turns := d.Turns ++ [⟨5, n, noName, 0⟩] } := by
 refine ⟨refuse_0 (by omega) (fun h => ?_) (fun h => ?_), rfl, rfl⟩
 ·have : hasN (dirD d) n = decide ((5 : Int) = 1) := h.2
  rw [hh] at this; exact absurd this (by decide)
 ·rcases h with ⟨h, _⟩ | ⟨_, h⟩ | ⟨h, _⟩
  ·exact absurd (show (5 : Int) = 1 from h) (by decide)
  ·omega
  ·exact absurd (show (5 : Int) = 4 from h) (by decide)
theorem chX_go {L L2 S S2 : ByteArray} {a : Int} {sn lg nw : List UInt8} {sf : Int} (h5 : Five L L2 S S2 tempP) (ha : 1 ≤ a ∧ a ≤ 100) (hr : sn.length + lg.length + nw.length ≤ 400000) :
  ∀ i, i < 11 → goes (chX L L2 S S2 a sn lg nw sf i) (chO L L2 S S2 nw i) (chX L L2 S S2 a sn lg nw sf (i + 1)) := by
 obtain ⟨⟨⟨a1, a2⟩, a3, a4⟩, ⟨⟨b1, b2⟩, b3, b4⟩, ⟨⟨c1, c2⟩, c3, c4⟩, ⟨⟨d1, d2⟩, d3, d4⟩, ⟨⟨e1, e2⟩, e3, e4⟩, ⟨⟨f1, f2⟩, f3, f4⟩, ⟨⟨g1, g2⟩, g3, g4⟩, ⟨⟨h1, h2⟩, h3, h4⟩, ⟨⟨i1, i2⟩, i3, i4⟩, ⟨⟨j1, j2⟩, j3, j4⟩⟩ := h5.two
 have i01 : (a = a + 1) = False := eq_false (by omega)
 have i10 : (a + 1 = a) = False := eq_false (by omega)
 have i02 : (a = a + 2) = False := eq_false (by omega)
 have i20 : (a + 2 = a) = False := eq_false (by omega)
 have i12 : (a + 1 = a + 2) = False := eq_false (by omega)
 have i21 : (a + 2 = a + 1) = False := eq_false (by omega)
 have i03 : (a = a + 2 + 1) = False := eq_false (by omega)
 have i30 : (a + 2 + 1 = a) = False := eq_false (by omega)
 have i13 : (a + 1 = a + 2 + 1) = False := eq_false (by omega)
 have i31 : (a + 2 + 1 = a + 1) = False := eq_false (by omega)
 have i23 : (a + 2 = a + 2 + 1) = False := eq_false (by omega)
 have i32 : (a + 2 + 1 = a + 2) = False := eq_false (by omega)
 intro i hi
 match i, hi with
 | 0, _ => exact goY rfl rfl (by simp [onlyL, chX, *])
 | 1, _ => exact goY rfl rfl (by simp [onlyL, chX, *])
 | 2, _ => exact goC rfl (by simp only [hasN, dirD, turnsL, chX, List.foldl_nil, List.any_cons, List.any_nil, isN, j3, g3, decide_false, Bool.or_false]) (by show (2 : Nat) < 10; decide) (by show a + 2 < 1000000; omega) (by show (0 : Nat) < 30; decide)
 | 3, _ => exact goA (k := 2) (f := ⟨a + 2, [], 0⟩) rfl (by simp [hasN, dirD, turnsL, chX, turnL, withL, isN, *]) (by simp [fileN, atI, findI, findL, isN, dirD, turnsL, chX, turnL, withL, List.findIdx?_cons, *]) rfl (by simp only [roomD, chX, usedF, List.map_cons, List.map_nil, List.sum_cons, List.sum_nil, List.length_nil]; omega)
 | 4, _ => exact goS (k := 2) (f := ⟨a + 2, nw, 0⟩) rfl (by simp [hasN, dirD, turnsL, chX, turnL, withL, isN, *]) (by simp [fileN, atI, findI, findL, isN, dirD, turnsL, chX, turnL, withL, List.findIdx?_cons, *]) rfl
 | 5, _ => exact goM rfl (by simp [hasN, dirD, turnsL, chX, turnL, withL, isN, *]) (fun h => by rw [d3] at h; exact h) (by show (1 : Nat) < 30; decide)
 | 6, _ => exact goC rfl (by simp [hasN, dirD, turnsL, chX, turnL, withL, lessL, findL, isN, *]) (by show (3 : Nat) < 10; decide) (by show a + 2 + 1 < 1000000; omega) (by show (2 : Nat) < 30; decide)
 | 7, _ => exact goY rfl (by simp [dirD, turnsL, chX, turnL, withL, lessL, findL, isN, *]) (by simp [onlyL, chX, *])
 | 8, _ => exact goR rfl (by simp [hasN, dirD, turnsL, chX, isN, *]) (by show (0 : Nat) < 30; decide)
 | 9, _ => exact goR rfl (by simp [hasN, dirD, turnsL, chX, turnL, lessL, isN, *]) (by show (1 : Nat) < 30; decide)
 | 10, _ => exact goY rfl (by simp [dirD, turnsL, chX, turnL, withL, lessL, findL, isN, *]) (by simp [onlyL, chX, *])
theorem chX_op {L L2 S S2 : ByteArray} {nw : List UInt8} (hL : nameOk L = true) (hL2 : nameOk L2 = true) (hS : nameOk S = true) (hS2 : nameOk S2 = true) (hn : nw.length ≤ 400000) : ∀ i, i < 11 → dopOk (chO L L2 S S2 nw i) = true := by
 intro i hi
 match i, hi with
 | 0, _ => exact opY_ok
 | 1, _ => exact opY_ok
 | 2, _ => exact opC_ok temp_ok
 | 3, _ => exact opA_ok temp_ok hn
 | 4, _ => exact opS_ok temp_ok
 | 5, _ => exact opM_ok temp_ok hS2
 | 6, _ => exact opC_ok hL2
 | 7, _ => exact opY_ok
 | 8, _ => exact opR_ok hL
 | 9, _ => exact opR_ok hS
 | 10, _ => exact opY_ok
theorem chX_fuse {L L2 S S2 : ByteArray} {a : Int} {sn lg nw : List UInt8} {sf : Int} : ∀ i, (chX L L2 S S2 a sn lg nw sf i).Fuse = -1
 | 0 => rfl | 1 => rfl | 2 => rfl | 3 => rfl | 4 => rfl | 5 => rfl | 6 => rfl | 7 => rfl | 8 => rfl | 9 => rfl | 10 => rfl | _ + 11 => rfl
def chY (L S : ByteArray) (nw : List UInt8) : Nat → DiskD
 | 0 => ⟨400000, -1, 1, [], [], []⟩
 | 1 => ⟨400000, -1, 1, [], [], []⟩
 | 2 => ⟨400000, -1, 1, [], [], []⟩
 | 3 => ⟨400000, -1, 1 + 1, [⟨1, [], 0⟩], [], [⟨1, tempP, noName, 1⟩]⟩
 | 4 => ⟨400000, -1, 1 + 1, [⟨1, nw, 0⟩], [], [⟨1, tempP, noName, 1⟩]⟩
 | 5 => ⟨400000, -1, 1 + 1, [⟨1, nw, nw.length⟩], [], [⟨1, tempP, noName, 1⟩]⟩
 | 6 => ⟨400000, -1, 1 + 1, [⟨1, nw, nw.length⟩], [], [⟨1, tempP, noName, 1⟩, ⟨4, tempP, S, 0⟩]⟩
 | 7 => ⟨400000, -1, 1 + 1 + 1, [⟨1, nw, nw.length⟩, ⟨1 + 1, [], 0⟩], [], [⟨1, tempP, noName, 1⟩, ⟨4, tempP, S, 0⟩, ⟨1, L, noName, 1 + 1⟩]⟩
 | _ => ⟨400000, -1, 1 + 1 + 1, [⟨1, nw, nw.length⟩, ⟨1 + 1, [], 0⟩], [⟨L, 1 + 1⟩, ⟨S, 1⟩], []⟩
def chP (L S : ByteArray) (nw : List UInt8) : Nat → DiskOpD
 | 0 => opY | 1 => opY | 2 => opC tempP | 3 => opA tempP nw | 4 => syncOp tempP | 5 => opM tempP S | 6 => opC L | 7 => opY | _ => opY
theorem chY_go {L S : ByteArray} {nw : List UInt8} (h1 : cmpS L S < 0) (h2 : cmpS S tempP < 0) (hr : nw.length ≤ 400000) :
  ∀ i, i < 9 → goes (chY L S nw i) (chP L S nw i) (chY L S nw (i + 1)) := by
 obtain ⟨⟨a1, a2⟩, a3, a4⟩ := lt_F h1
 obtain ⟨⟨b1, b2⟩, b3, b4⟩ := lt_F h2
 obtain ⟨⟨c1, c2⟩, c3, c4⟩ := lt_F (cmpS_trans h1 h2)
 intro i hi
 match i, hi with
 | 0, _ => exact goY rfl rfl rfl
 | 1, _ => exact goY rfl rfl rfl
 | 2, _ => exact goC rfl rfl (by show (0 : Nat) < 10; decide) (by show (1 : Int) < 1000000; decide) (by show (0 : Nat) < 30; decide)
 | 3, _ => exact goA (k := 0) (f := ⟨1, [], 0⟩) rfl (by simp [hasN, dirD, turnsL, chY, turnL, withL, isN]) (by simp [fileN, atI, findI, findL, isN, dirD, turnsL, chY, turnL, withL, List.findIdx?_cons]) rfl (by simp only [roomD, chY, usedF, List.map_cons, List.map_nil, List.sum_cons, List.sum_nil, List.length_nil]; omega)
 | 4, _ => exact goS (k := 0) (f := ⟨1, nw, 0⟩) rfl (by simp [hasN, dirD, turnsL, chY, turnL, withL, isN]) (by simp [fileN, atI, findI, findL, isN, dirD, turnsL, chY, turnL, withL, List.findIdx?_cons]) rfl
 | 5, _ => exact goM rfl (by simp [hasN, dirD, turnsL, chY, turnL, withL, isN]) (fun h => by rw [b3] at h; exact h) (by show (1 : Nat) < 30; decide)
 | 6, _ => exact goC rfl (by simp [hasN, dirD, turnsL, chY, turnL, withL, lessL, findL, isN, *]) (by show (1 : Nat) < 10; decide) (by show (1 : Int) + 1 < 1000000; decide) (by show (2 : Nat) < 30; decide)
 | 7, _ => exact goY rfl (by simp [dirD, turnsL, chY, turnL, withL, lessL, findL, isN, *]) (by simp [onlyL, chY])
 | 8, _ => exact goY rfl (by simp [dirD, turnsL, chY]) (by simp [onlyL, chY])
theorem chY_op {L S : ByteArray} {nw : List UInt8} (hL : nameOk L = true) (hS : nameOk S = true) (hn : nw.length ≤ 400000) : ∀ i, i < 9 → dopOk (chP L S nw i) = true := by
 intro i hi
 match i, hi with
 | 0, _ => exact opY_ok
 | 1, _ => exact opY_ok
 | 2, _ => exact opC_ok temp_ok
 | 3, _ => exact opA_ok temp_ok hn
 | 4, _ => exact opS_ok temp_ok
 | 5, _ => exact opM_ok temp_ok hS
 | 6, _ => exact opC_ok hL
 | 7, _ => exact opY_ok
 | 8, _ => exact opY_ok
theorem chY_fuse {L S : ByteArray} {nw : List UInt8} : ∀ i, (chY L S nw i).Fuse = -1
 | 0 => rfl | 1 => rfl | 2 => rfl | 3 => rfl | 4 => rfl | 5 => rfl | 6 => rfl | 7 => rfl | _ + 8 => rfl
theorem chain_begin {X : Nat → DiskD} {O : Nat → DiskOpD} {N : Nat} (hc : Chain X O N) {f : Int} (hf : -1 ≤ f ∧ f ≤ 1000) {g1 : Int} {b : List UInt8} (hN : 8 ≤ N)
  (o0 : O 0 = opY) (o1 : O 1 = opY) (o2 : O 2 = opC tempP) (o3 : O 3 = opA tempP b) (o4 : O 4 = syncOp tempP) (o5 : O 5 = opM tempP (snapName g1)) (o6 : O 6 = opC (logName g1)) (o7 : O 7 = opY)
  (x0 : X 1 = X 0) (t0 : hasN (dirD (X 0)) tempP = false) (l0 : hasN (dirD (X 0)) (logName g1) = false) :
  beginS { X 0 with Fuse := f } g1 b = stp (sweepS (cst X f 8) g1 (dirD (cst X f 8).1)) opY := by
 have h0 : (({ X 0 with Fuse := f }, 0) : SD) = cst X f 0 := by
  unfold cst
  split
  ·rfl
  ·rw [if_pos (by omega), show f - ((0 : Nat) : Int) = f by omega]
 have hT : ∀ j, j ≤ 1 → hasN (dirD (X j)) tempP = false := fun j hj => by
  rcases (by omega : j = 0 ∨ j = 1) with rfl | rfl
  ·exact t0
  ·rw [x0]; exact t0
 have hL : ∀ j, j ≤ 1 → hasN (dirD (X j)) (logName g1) = false := fun j hj => by
  rcases (by omega : j = 0 ∨ j = 1) with rfl | rfl
  ·exact l0
  ·rw [x0]; exact l0
 have e1 : head1 { X 0 with Fuse := f } g1 = cst X f 2 := by
  unfold head1
  rw [h0, ← o0, hc.stp hf (by omega), cst_gone hT, cst_gone hL, o0, ← o1, hc.stp hf (by omega)]
 have e2 : fill1 (cst X f 2) b = cst X f 4 := by
  unfold fill1
  rw [← o2, hc.stp hf (by omega), ← o3, hc.stp hf (by omega)]
 have e3 : tail1 (cst X f 4) g1 = cst X f 8 := by
  unfold tail1
  rw [← o4, hc.stp hf (by omega), ← o5, hc.stp hf (by omega), ← o6, hc.stp hf (by omega), ← o7, hc.stp hf (by omega)]
 have e4 : ¬ (fill1 (head1 { X 0 with Fuse := f } g1) b).2 = 5 := by
  rw [e1, e2]
  rcases cst_code (X := X) (f := f) (i := 4) with h | h <;> rw [h] <;> decide
 rw [begin_n e4, e1, e2]
 unfold tailS
 rw [e3]
theorem sweep_go {s : SD} {g1 : Int} {x : LinkD} {r : List LinkD} (h : genOk x.Name = true) (h2 : genV x.Name ≠ g1) : sweepS s g1 (x :: r) = sweepS (stp s (opR x.Name)) g1 r := by
 show sweepS (sweep1 g1 s x) g1 r = _
 unfold sweep1
 rw [if_pos (by rw [h, decide_eq_false h2]; rfl)]
theorem sweep_by {s : SD} {g1 : Int} {x : LinkD} {r : List LinkD} (h2 : genV x.Name = g1) : sweepS s g1 (x :: r) = sweepS s g1 r := by
 show sweepS (sweep1 g1 s x) g1 r = _
 unfold sweep1
 rw [if_neg (by rw [decide_eq_true h2]; simp)]
theorem cst_dir {X : Nat → DiskD} {f : Int} {i : Nat} (h : (cst X f i).2 = 0) : dirD (cst X f i).1 = dirD (X i) := by
 unfold cst at h ⊢
 split
 ·rfl
 ·rename_i h0
  rw [if_neg h0] at h
  split
  ·rfl
  ·rename_i h1; rw [if_neg h1] at h; exact absurd (show (2 : Int) = 0 from h) (by decide)
theorem chain_sweep {X : Nat → DiskD} {O : Nat → DiskOpD} (hc : Chain X O 11) {f : Int} (hf : -1 ≤ f ∧ f ≤ 1000) {g1 : Int} {L L2 S S2 : ByteArray} {i j k m : Int} (hd : dirD (X 8) = [⟨L, i⟩, ⟨L2, j⟩, ⟨S, k⟩, ⟨S2, m⟩]) (o8 : O 8 = opR L) (o9 : O 9 = opR S) (o10 : O 10 = opY)
  (gL : genOk L = true ∧ genV L ≠ g1) (gL2 : genV L2 = g1) (gS : genOk S = true ∧ genV S ≠ g1) (gS2 : genV S2 = g1) : stp (sweepS (cst X f 8) g1 (dirD (cst X f 8).1)) opY = cst X f 11 := by
 by_cases h8 : (cst X f 8).2 = 0
 ·rw [cst_dir h8, hd, sweep_go (x := ⟨L, i⟩) gL.1 gL.2, sweep_by (x := ⟨L2, j⟩) gL2, sweep_go (x := ⟨S, k⟩) gS.1 gS.2, sweep_by (x := ⟨S2, m⟩) gS2]
  show stp (stp (stp (cst X f 8) (opR L)) (opR S)) opY = _
  rw [← o8, hc.stp hf (by omega), ← o9, hc.stp hf (by omega), ← o10, hc.stp hf (by omega)]
 ·rw [sweep_ne h8, stp_ne h8]; exact (cst_stop (by omega) h8).symm
theorem chain_sweepY {X : Nat → DiskD} {O : Nat → DiskOpD} (hc : Chain X O 9) {f : Int} (hf : -1 ≤ f ∧ f ≤ 1000) {g1 : Int} {L2 S2 : ByteArray} {j m : Int} (hd : dirD (X 8) = [⟨L2, j⟩, ⟨S2, m⟩]) (o8 : O 8 = opY)
  (gL2 : genV L2 = g1) (gS2 : genV S2 = g1) : stp (sweepS (cst X f 8) g1 (dirD (cst X f 8).1)) opY = cst X f 9 := by
 by_cases h8 : (cst X f 8).2 = 0
 ·rw [cst_dir h8, hd, sweep_by (x := ⟨L2, j⟩) gL2, sweep_by (x := ⟨S2, m⟩) gS2]
  show stp (cst X f 8) opY = _
  rw [← o8, hc.stp hf (by omega)]
 ·rw [sweep_ne h8, stp_ne h8]; exact (cst_stop (by omega) h8).symm
theorem chX_has {L L2 S S2 : ByteArray} {a : Int} {sn lg nw : List UInt8} {sf : Int} (h5 : Five L L2 S S2 tempP) : hasN (dirD (chX L L2 S S2 a sn lg nw sf 0)) tempP = false ∧ hasN (dirD (chX L L2 S S2 a sn lg nw sf 0)) L2 = false := by
 obtain ⟨⟨_, a3, a4⟩, ⟨_, b3, b4⟩, _, _, _, _, ⟨_, g3, g4⟩, _, _, ⟨_, j3, j4⟩⟩ := h5.two
 exact ⟨by simp [hasN, dirD, turnsL, chX, isN, *], by simp [hasN, dirD, turnsL, chX, isN, *]⟩
theorem chX_begin {g a : Int} {sn lg nw : List UInt8} {sf f : Int} (hg : 1 ≤ g ∧ g ≤ 8) (ha : 1 ≤ a ∧ a ≤ 100) (hr : sn.length + lg.length + nw.length ≤ 400000) (hf : -1 ≤ f ∧ f ≤ 1000)
  (hk : diskOk (chX (logName g) (logName (g + 1)) (snapName g) (snapName (g + 1)) a sn lg nw sf 0) = true) :
  Chain (chX (logName g) (logName (g + 1)) (snapName g) (snapName (g + 1)) a sn lg nw sf) (chO (logName g) (logName (g + 1)) (snapName g) (snapName (g + 1)) nw) 11 ∧
  beginS { chX (logName g) (logName (g + 1)) (snapName g) (snapName (g + 1)) a sn lg nw sf 0 with Fuse := f } (g + 1) nw = cst (chX (logName g) (logName (g + 1)) (snapName g) (snapName (g + 1)) a sn lg nw sf) f 11 := by
 have i1 : isGenB g = true := by unfold isGenB; rw [within_iff]; omega
 have i2 : isGenB (g + 1) = true := by unfold isGenB; rw [within_iff]; omega
 have h5 := names_five hg
 have hc : Chain (chX (logName g) (logName (g + 1)) (snapName g) (snapName (g + 1)) a sn lg nw sf) (chO (logName g) (logName (g + 1)) (snapName g) (snapName (g + 1)) nw) 11 :=
  ⟨hk, chX_fuse, chX_op (log_ok i1) (log_ok i2) (snap_ok i1) (snap_ok i2) (by omega), chX_go h5 ha hr⟩
 refine ⟨hc, ?_⟩
 obtain ⟨t0, l0⟩ := chX_has (a := a) (sn := sn) (lg := lg) (nw := nw) (sf := sf) h5
 have x0 : chX (logName g) (logName (g + 1)) (snapName g) (snapName (g + 1)) a sn lg nw sf 1 = chX (logName g) (logName (g + 1)) (snapName g) (snapName (g + 1)) a sn lg nw sf 0 := rfl
 have hd : dirD (chX (logName g) (logName (g + 1)) (snapName g) (snapName (g + 1)) a sn lg nw sf 8) = [⟨logName g, a + 1⟩, ⟨logName (g + 1), a + 2 + 1⟩, ⟨snapName g, a⟩, ⟨snapName (g + 1), a + 2⟩] := rfl
 generalize hX : chX (logName g) (logName (g + 1)) (snapName g) (snapName (g + 1)) a sn lg nw sf = X at hc t0 l0 x0 hd ⊢
 have hb := chain_begin hc hf (g1 := g + 1) (b := nw) (by omega) rfl rfl rfl rfl rfl rfl rfl rfl x0 t0 l0
 rw [hb]
 exact chain_sweep hc hf hd rfl rfl rfl ⟨(genOk_log i1).1, by rw [(genOk_log i1).2]; omega⟩ (genOk_log i2).2 ⟨(genOk_snap i1).1, by rw [(genOk_snap i1).2]; omega⟩ (genOk_snap i2).2
theorem chY_begin {g : Int} {nw : List UInt8} (hg : 1 ≤ g ∧ g ≤ 8) (hr : nw.length ≤ 400000) :
  diskOk (chY (logName g) (snapName g) nw 9) = true ∧ beginS ⟨400000, -1, 1, [], [], []⟩ g nw = (chY (logName g) (snapName g) nw 9, 0) := by
 have i1 : isGenB g = true := by unfold isGenB; rw [within_iff]; omega
 have h5 := names_five hg
 have hc : Chain (chY (logName g) (snapName g) nw) (chP (logName g) (snapName g) nw) 9 :=
  ⟨by show diskOk ⟨400000, -1, 1, [], [], []⟩ = true; decide, chY_fuse, chY_op (log_ok i1) (snap_ok i1) hr, chY_go (cmpS_trans h5.a h5.b) (cmpS_trans h5.c h5.d) hr⟩
 refine ⟨hc.all 9 (by omega), ?_⟩
 have x0 : chY (logName g) (snapName g) nw 1 = chY (logName g) (snapName g) nw 0 := rfl
 have t0 : hasN (dirD (chY (logName g) (snapName g) nw 0)) tempP = false := rfl
 have l0 : hasN (dirD (chY (logName g) (snapName g) nw 0)) (logName g) = false := rfl
 have hd : dirD (chY (logName g) (snapName g) nw 8) = [⟨logName g, 1 + 1⟩, ⟨snapName g, 1⟩] := rfl
 have h0 : ({ chY (logName g) (snapName g) nw 0 with Fuse := -1 } : DiskD) = ⟨400000, -1, 1, [], [], []⟩ := rfl
 have h9 : ({ chY (logName g) (snapName g) nw 9 with Fuse := -1 } : DiskD) = chY (logName g) (snapName g) nw 9 := rfl
 generalize hX : chY (logName g) (snapName g) nw = X at hc x0 t0 l0 hd h0 h9 ⊢
 have hb := chain_begin hc (f := -1) (by omega) (g1 := g) (b := nw) (by omega) rfl rfl rfl rfl rfl rfl rfl rfl x0 t0 l0
 rw [h0] at hb
 rw [hb, chain_sweepY hc (by omega) hd rfl (genOk_log i1).2 (genOk_snap i1).2]
 show (if (-1 : Int) < 0 then _ else _ : SD) = _
 rw [if_pos (by decide), h9]
theorem ok_of {d : DiskD} {n : ByteArray} (h : diskOk d = true) (hh : hasN (dirD d) n = true) : readOk d n = true := by unfold readOk; rw [h, hh]; rfl
theorem asc_at : ∀ {l : List FileD} {f : FileD} {i : Int}, (l.map (·.Id)).Pairwise (· < ·) → f ∈ l → f.Id = i → fAt l (atI l i).toNat = f
 | [], _, _, _, hf, _ => absurd hf List.not_mem_nil
 | x :: r, f, i, hp, hf, hi => by
  subst hi
  rw [List.map_cons, List.pairwise_cons] at hp
  by_cases hx : x.Id = f.Id
  ·rcases List.mem_cons.1 hf with rfl | hf
   ·rw [atI_0]; rfl
   ·have := hp.1 _ (List.mem_map_of_mem hf)
    omega
  ·rcases List.mem_cons.1 hf with rfl | hf
   ·exact absurd rfl hx
   ·have ih := asc_at (l := r) (f := f) hp.2 hf rfl
    obtain ⟨k, hk1, hk2, _⟩ := atI_mem (l := r) (id := f.Id) (List.mem_map_of_mem hf)
    rw [atI_s hx hk2, Int.toNat_natCast]
    rw [hk2, Int.toNat_natCast] at ih
    exact ih
theorem read_at {d : DiskD} {n : ByteArray} {i : Int} {f : FileD} (h : diskOk d = true) (hh : hasN (dirD d) n = true) (hi : findL (dirD d) n = i) (hf : f ∈ d.Files) (hfi : f.Id = i) : readB d n = f.Body := by
 have hD := diskOk_P h
 unfold readB
 rw [if_pos (ok_of h hh)]
 unfold fileN
 rw [hi, asc_at (filesOk_iff.1 hD.files).1 hf hfi]
def cutN (f : FileD) (k : Int) : Int := f.Safe + max 0 (min k ((f.Body.length : Int) - f.Safe))
def cutF (f : FileD) (k : Int) : FileD := ⟨f.Id, f.Body.take (cutN f k).toNat, cutN f k⟩
def cutK (κ : Nat → Int) : Nat → List FileD → List FileD
 | _, [] => []
 | i, f :: r => cutF f (κ i) :: cutK κ (i + 1) r
def crashN (d : DiskD) (t : Int) : Nat := (max 0 (min t (d.Turns.length : Int))).toNat
def crashL (d : DiskD) (t : Int) : List LinkD := turnsL d.Kept (d.Turns.take (crashN d t))
def crashK (d : DiskD) (t : Int) (κ : Nat → Int) : DiskD := ⟨d.Room, -1, d.Next, cutK κ 0 (onlyL (crashL d t) d.Files), crashL d t, []⟩
theorem cutN_in {f : FileD} {k : Int} (h : 0 ≤ f.Safe ∧ f.Safe ≤ (f.Body.length : Int)) : f.Safe ≤ cutN f k ∧ cutN f k ≤ (f.Body.length : Int) := by unfold cutN; omega
theorem cut_ids {κ : Nat → Int} : ∀ {l : List FileD} {i : Nat}, (cutK κ i l).map (·.Id) = l.map (·.Id)
 | [], _ => rfl
 | f :: r, i => by show f.Id :: (cutK κ (i + 1) r).map (·.Id) = _; rw [cut_ids]; rfl
theorem cut_mem {κ : Nat → Int} : ∀ {l : List FileD} {i : Nat} {x : FileD}, x ∈ cutK κ i l → ∃ f k, f ∈ l ∧ x = cutF f k
 | [], _, _, h => absurd h List.not_mem_nil
 | f :: r, i, x, h => by
  rcases List.mem_cons.1 h with rfl | h
  ·exact ⟨f, _, List.mem_cons_self, rfl⟩
  ·obtain ⟨g, k, hg, e⟩ := cut_mem h
   exact ⟨g, k, List.mem_cons_of_mem _ hg, e⟩
theorem cut_has {κ : Nat → Int} : ∀ {l : List FileD} {i : Nat} {f : FileD}, f ∈ l → ∃ k, cutF f k ∈ cutK κ i l
 | [], _, _, h => absurd h List.not_mem_nil
 | g :: r, i, f, h => by
  rcases List.mem_cons.1 h with rfl | h
  ·exact ⟨κ i, List.mem_cons_self⟩
  ·obtain ⟨k, hk⟩ := cut_has (κ := κ) (i := i + 1) h
   exact ⟨k, List.mem_cons_of_mem _ hk⟩
theorem cut_used {κ : Nat → Int} : ∀ {l : List FileD} {i : Nat}, usedF (cutK κ i l) ≤ usedF l
 | [], _ => Nat.le_refl _
 | f :: r, i => by
  have := cut_used (κ := κ) (l := r) (i := i + 1)
  show (f.Body.take _).length + usedF (cutK κ (i + 1) r) ≤ f.Body.length + usedF r
  rw [List.length_take]
  omega
theorem ok_crash {d : DiskD} (h : diskOk d = true) (t : Int) (κ : Nat → Int) : diskOk (crashK d t κ) = true := by
 have hD := diskOk_P h
 have hS := hD.small
 obtain ⟨g1, g2⟩ := filesOk_iff.1 hD.files
 obtain ⟨i1, i2, i3⟩ := idsOk_iff.1 hD.ids
 have hr : runI d.Kept (d.Turns.take (crashN d t)) = true := runI_pre hD.runi
 have hmade : (made (d.Turns.take (crashN d t))).Sublist (made d.Turns) := ((List.take_sublist _ _).filter _).map _
 have hnd : (d.Kept.map (·.Id) ++ made (d.Turns.take (crashN d t))).Nodup := List.Nodup.sublist (List.Sublist.append_left hmade _) i2
 have hn : ((crashL d t).map (·.Id)).Nodup := turns_nodup hr hnd
 have hmem : ∀ x, x ∈ crashL d t → x.Id ∈ fileIds d := fun x hx => by
  have h1 := turns_ids hr hx
  rcases List.mem_append.1 h1 with h1 | h1
  ·exact i3 _ (List.mem_append_left _ h1)
  ·exact i3 _ (List.mem_append_right _ (hmade.subset h1))
 have hsub : (onlyL (crashL d t) d.Files).Sublist d.Files := List.filter_sublist
 have hids : ∀ a, a ∈ (crashL d t).map (·.Id) → a ∈ (onlyL (crashL d t) d.Files).map (·.Id) := fun a ha => by
  obtain ⟨x, hx, rfl⟩ := List.mem_map.1 ha
  obtain ⟨f, hf, e⟩ := List.mem_map.1 (hmem x hx)
  exact List.mem_map.2 ⟨f, List.mem_filter.2 ⟨hf, List.any_eq_true.2 ⟨x, hx, decide_eq_true e.symm⟩⟩, e⟩
 have hids2 : ∀ a, a ∈ (onlyL (crashL d t) d.Files).map (·.Id) → a ∈ (crashL d t).map (·.Id) := fun a ha => by
  obtain ⟨f, hf, rfl⟩ := List.mem_map.1 ha
  obtain ⟨x, hx, e⟩ := List.any_eq_true.1 (List.mem_filter.1 hf).2
  exact List.mem_map.2 ⟨x, hx, of_decide_eq_true e⟩
 have hasc : ((onlyL (crashL d t) d.Files).map (·.Id)).Pairwise (· < ·) := g1.sublist (hsub.map _)
 have hlen : (crashL d t).length ≤ (onlyL (crashL d t) d.Files).length := by
  have := sub_len hn hids
  simpa using this
 have hcl : (cutK κ 0 (onlyL (crashL d t) d.Files)).length = (onlyL (crashL d t) d.Files).length := by
  have := congrArg List.length (cut_ids (κ := κ) (l := onlyL (crashL d t) d.Files) (i := 0))
  simpa using this
 have hfl := hsub.length_le
 refine ok_mk ?_ ?_ ?_ ?_ ?_ rfl
 ·have hb := hD.bnd
  unfold diskBnd at hb ⊢
  simp only [Bool.and_eq_true] at hb ⊢
  exact ⟨⟨hb.1.1, show within (-1) (-1) 1000 = true by decide⟩, hb.2⟩
 ·have hb := hD.len
  have hu := usedF_filter (fun f => (crashL d t).any fun l => decide (l.Id = f.Id)) (l := d.Files)
  have hc := cut_used (κ := κ) (l := onlyL (crashL d t) d.Files) (i := 0)
  unfold diskLen at hb ⊢
  simp only [Bool.and_eq_true, decide_eq_true_eq] at hb ⊢
  refine ⟨⟨⟨?_, ?_⟩, ?_⟩, ?_⟩
  ·show (cutK κ 0 (onlyL (crashL d t) d.Files)).length ≤ 10; omega
  ·show (crashL d t).length ≤ 10; omega
  ·exact Nat.zero_le _
  ·show (usedF (cutK κ 0 (onlyL (crashL d t) d.Files)) : Int) ≤ d.Room
   unfold onlyL at hc ⊢
   omega
 ·refine filesOk_iff.2 ⟨by rw [show (crashK d t κ).Files = cutK κ 0 (onlyL (crashL d t) d.Files) from rfl, cut_ids]; exact hasc, fun x hx => ?_⟩
  obtain ⟨f, k, hf, rfl⟩ := cut_mem hx
  obtain ⟨q1, q2⟩ := g2 f (hsub.subset hf)
  have := cutN_in (k := k) q2
  refine ⟨q1, ?_, ?_⟩
  ·show 0 ≤ cutN f k; omega
  ·show cutN f k ≤ ((f.Body.take (cutN f k).toNat).length : Int)
   rw [List.length_take]; omega
 ·exact keptOk_mk (sorted_turns hD.sorted hr) (turns_names (fun _ hx => kept_names hD.kept hx) hr)
 ·have e1 : idsD (crashK d t κ) = (crashL d t).map (·.Id) := by
   show (crashL d t).map (·.Id) ++ made [] = _
   rw [show made [] = [] from rfl, List.append_nil]
  have e2 : fileIds (crashK d t κ) = (onlyL (crashL d t) d.Files).map (·.Id) := cut_ids
  rw [e1, e2]
  refine idsOk_iff.2 ⟨?_, hn, hids⟩
  exact Nat.le_antisymm (sub_len hn hids) (sub_len (asc_nodup hasc) hids2)
theorem crash_read {d : DiskD} (h : diskOk d = true) {t : Int} {κ : Nat → Int} {n : ByteArray} {i : Int} {f : FileD} (hh : hasN (crashL d t) n = true) (hi : findL (crashL d t) n = i) (hf : f ∈ d.Files) (hfi : f.Id = i) :
  ∃ c : Nat, f.Safe ≤ (c : Int) ∧ c ≤ f.Body.length ∧ readB (crashK d t κ) n = f.Body.take c := by
 obtain ⟨x, hx, _, e⟩ := findL_mem hh
 have hfo : f ∈ onlyL (crashL d t) d.Files := List.mem_filter.2 ⟨hf, List.any_eq_true.2 ⟨x, hx, decide_eq_true (by rw [← e, hi, hfi])⟩⟩
 obtain ⟨k, hk⟩ := cut_has (κ := κ) (i := 0) hfo
 have hs := (filesOk_iff.1 (diskOk_P h).files).2 f hf
 have hc := cutN_in (k := k) hs.2
 refine ⟨(cutN f k).toNat, by omega, by omega, ?_⟩
 exact read_at (d := crashK d t κ) (f := cutF f k) (i := i) (ok_crash h t κ) hh hi hk hfi
theorem news_le {e : DiskD} {s : NS} {x : LinkD} {g : Int} (hs : s.1 ≤ g) (h : snOk (readB e x.Name) = true → ∀ n, isGenB n = true → snapName n = x.Name → n ≤ g) : (newStep e s x).1 ≤ g := by
 unfold newStep
 split
 ·rename_i hh
  simp only [Bool.and_eq_true, decide_eq_true_eq] at hh
  exact h hh.1.1 _ (snOk_gen hh.1.1) hh.1.2
 ·exact hs
theorem newss_le {e : DiskD} {g : Int} : ∀ {l : List LinkD} {s : NS}, s.1 ≤ g → (∀ x, x ∈ l → snOk (readB e x.Name) = true → ∀ n, isGenB n = true → snapName n = x.Name → n ≤ g) → (l.foldl (newStep e) s).1 ≤ g
 | [], _, hs, _ => hs
 | x :: r, s, hs, h => newss_le (l := r) (news_le hs (h x List.mem_cons_self)) fun y hy => h y (List.mem_cons_of_mem _ hy)
theorem gen_le {m n g : Int} (h : m ≤ g) (hm : isGenB m = true) (hn : isGenB n = true) (e : snapName n = snapName m ∨ snapName n = logName m) : n ≤ g := by
 have h1 := (genOk_snap hn).2
 rcases e with e | e
 ·rw [e, (genOk_snap hm).2] at h1; omega
 ·rw [e, (genOk_log hm).2] at h1; omega
theorem news_snap {e : DiskD} {s : NS} {g q : Int} {y : List UInt8} {i : Int} (hk : snapOk g q y = true) (hr : readB e (snapName g) = snapL g q y) (hs : s.1 < g) : newStep e s ⟨snapName g, i⟩ = (g, q, y) := by
 obtain ⟨a1, a2, a3, a4⟩ := snap_back hk
 have := newStep_y (d := e) (s := s) (x := ⟨snapName g, i⟩) (by show snOk (readB e (snapName g)) = true ∧ snapName (snG (readB e (snapName g))) = snapName g ∧ s.1 < snG (readB e (snapName g)); rw [hr]; exact ⟨a1, by rw [a2], by rw [a2]; exact hs⟩)
 rw [this]
 show (snG (readB e (snapName g)), snS (readB e (snapName g)), snD (readB e (snapName g))) = _
 rw [hr, a2, a3, a4]
theorem news_no {e : DiskD} {s : NS} {x : LinkD} (h : snOk (readB e x.Name) = false) : newStep e s x = s := newStep_n fun hh => by rw [h] at hh; exact absurd hh.1 (by decide)
theorem news_temp {e : DiskD} {s : NS} {i : Int} : newStep e s ⟨tempP, i⟩ = s := newStep_n fun hh => temp_name _ hh.2.1
theorem find_old {e : DiskD} {g q : Int} {y lg : List UInt8} (hg : isGenB g = true) (hok : diskOk e = true) (hd : (∃ i j, dirD e = [⟨logName g, i⟩, ⟨snapName g, j⟩]) ∨ ∃ i j k, dirD e = [⟨logName g, i⟩, ⟨snapName g, j⟩, ⟨tempP, k⟩])
  (hL : readB e (logName g) = lg) (hn : snOk lg = false) (hS : readB e (snapName g) = snapL g q y) (hk : snapOk g q y = true) : findD e = ⟨g, q, y, (jrnB lg q).1, 0⟩ := by
 have h1 := (snapOk_P hk).2.1
 have hw : newest e = (g, q, y) := by
  unfold newest dirS
  rw [if_pos hok]
  rcases hd with ⟨i, j, hd⟩ | ⟨i, j, k, hd⟩
  ·rw [hd, List.foldl_cons, List.foldl_cons, List.foldl_nil, news_no (x := ⟨logName g, i⟩) (by show snOk (readB e (logName g)) = false; rw [hL]; exact hn), news_snap hk hS (by show (0 : Int) < g; omega)]
  ·rw [hd, List.foldl_cons, List.foldl_cons, List.foldl_cons, List.foldl_nil, news_no (x := ⟨logName g, i⟩) (by show snOk (readB e (logName g)) = false; rw [hL]; exact hn), news_snap hk hS (by show (0 : Int) < g; omega), news_temp]
 rw [find_y hok (by rw [hw]; show ¬ g = 0; omega), hw, hL]
theorem snOk_nil : snOk [] = false := sn_no (by unfold snapP4; decide)
theorem find_new {e : DiskD} {g q : Int} {y : List UInt8} {pre : List LinkD} {i : Int} (hg : isGenB g = true) (hok : diskOk e = true) (hd : dirD e = pre ++ [⟨snapName (g + 1), i⟩])
  (hp : ∀ x, x ∈ pre → x.Name = logName g ∨ x.Name = logName (g + 1) ∨ x.Name = snapName g) (hL2 : readB e (logName (g + 1)) = []) (hS2 : readB e (snapName (g + 1)) = snapL (g + 1) q y) (hk : snapOk (g + 1) q y = true) : findD e = ⟨g + 1, q, y, [], 0⟩ := by
 have h1 := (snapOk_P hk).2.1
 have hw : newest e = (g + 1, q, y) := by
  unfold newest dirS
  rw [if_pos hok, hd, List.foldl_append, List.foldl_cons, List.foldl_nil]
  refine news_snap hk hS2 ?_
  have := newss_le (e := e) (g := g) (l := pre) (s := ((0, 0, []) : NS)) (by show (0 : Int) ≤ g; omega) fun x hx hs n hn e' => by
   rcases hp x hx with h | h | h
   ·exact gen_le (Int.le_refl g) hg hn (.inr (by rw [← h]; exact e'))
   ·rw [h, hL2, snOk_nil] at hs; cases hs
   ·exact gen_le (Int.le_refl g) hg hn (.inl (by rw [← h]; exact e'))
  omega
 rw [find_y hok (by rw [hw]; show ¬ g + 1 = 0; omega), hw]
 show (⟨g + 1, q, y, (jrnB (readB e (logName (g + 1))) q).1, 0⟩ : FindD) = _
 rw [hL2, jrn_nil]
def cutAt (l : List Int) (i : Nat) : Int := if 0 < l.length then gat encI l (i % l.length) else 0
def ctI (κ : Nat → Int) (F : List FileD) (i : Nat) : List FileD := (cutK κ 0 F).take i ++ F.drop i
theorem cut_len {κ : Nat → Int} {l : List FileD} {i : Nat} : (cutK κ i l).length = l.length := by
 have := congrArg List.length (cut_ids (κ := κ) (l := l) (i := i))
 simpa using this
theorem cut_get {κ : Nat → Int} : ∀ {l : List FileD} {i j : Nat}, j < l.length → (cutK κ i l)[j]? = some (cutF (fAt l j) (κ (i + j)))
 | [], _, _, h => absurd h (Nat.not_lt_zero _)
 | f :: r, i, 0, _ => rfl
 | f :: r, i, j + 1, h => by
  show (cutK κ (i + 1) r)[j]? = _
  rw [cut_get (by simpa using h), show i + 1 + j = i + (j + 1) by omega]; rfl
theorem ctI_len {κ : Nat → Int} {F : List FileD} {i : Nat} : (ctI κ F i).length = F.length := by
 unfold ctI
 rw [List.length_append, List.length_take, List.length_drop, cut_len]; omega
theorem fAt_get {l : List FileD} {j : Nat} (h : j < l.length) : l[j]? = some (fAt l j) := by
 unfold fAt; rw [List.getD_eq_getElem?_getD, List.getElem?_eq_getElem h]; rfl
theorem ctI_at {κ : Nat → Int} {F : List FileD} {i : Nat} (h : i < F.length) : fAt (ctI κ F i) i = fAt F i := by
 have h1 : (ctI κ F i)[i]? = F[i]? := by
  unfold ctI
  rw [List.getElem?_append_right (by rw [List.length_take]; omega), List.length_take, cut_len, Nat.min_eq_left (by omega), Nat.sub_self, List.getElem?_drop]; rfl
 rw [fAt_get h, fAt_get (by rw [ctI_len]; exact h)] at h1
 exact Option.some.inj h1
theorem ctI_step {κ : Nat → Int} {F : List FileD} {i : Nat} (h : i < F.length) : (ctI κ F i).set i (cutF (fAt F i) (κ i)) = ctI κ F (i + 1) := by
 have hl : ((cutK κ 0 F).take i).length = i := by rw [List.length_take, cut_len]; omega
 unfold ctI
 rw [List.set_append_right _ _ (by omega), hl, Nat.sub_self, List.drop_eq_getElem_cons h, List.set_cons_zero, List.take_add_one, cut_get h]
 simp
theorem ctI_full {κ : Nat → Int} {F : List FileD} {i : Nat} (h : F.length ≤ i) : ctI κ F i = cutK κ 0 F := by
 unfold ctI
 rw [List.take_of_length_le (by rw [cut_len]; exact h), List.drop_eq_nil_of_le h, List.append_nil]
def crashI (d : DiskD) (t : Int) (κ : Nat → Int) (i : Nat) : DiskD := ⟨d.Room, -1, d.Next, ctI κ (onlyL (crashL d t) d.Files) i, crashL d t, []⟩
theorem crashI_full {d : DiskD} {t : Int} {κ : Nat → Int} {i : Nat} (h : (onlyL (crashL d t) d.Files).length ≤ i) : crashI d t κ i = crashK d t κ := by
 unfold crashI crashK; rw [ctI_full h]
theorem crashF_len {d : DiskD} (h : diskOk d = true) (t : Int) : (onlyL (crashL d t) d.Files).length ≤ 10 := by
 have := (diskOk_P h).small.1
 have h2 : (onlyL (crashL d t) d.Files).length ≤ d.Files.length := List.length_filter_le _ _
 omega
theorem crashF_at {d : DiskD} (h : diskOk d = true) {t : Int} {i : Nat} (hi : i < (onlyL (crashL d t) d.Files).length) : 0 ≤ (fAt (onlyL (crashL d t) d.Files) i).Safe ∧ (fAt (onlyL (crashL d t) d.Files) i).Safe ≤ ((fAt (onlyL (crashL d t) d.Files) i).Body.length : Int) ∧ (fAt (onlyL (crashL d t) d.Files) i).Body.length ≤ 1048576 := by
 have hm : fAt (onlyL (crashL d t) d.Files) i ∈ d.Files := (List.mem_filter.1 (fAt_mem hi)).1
 have h1 := (filesOk_iff.1 (diskOk_P h).files).2 _ hm
 have h2 : (fAt (onlyL (crashL d t) d.Files) i).Body.length ≤ 1048576 := (ok_sm h).2.1 _ hm
 exact ⟨h1.2.1, h1.2.2, h2⟩
theorem crashI_sm {d : DiskD} (h : diskOk d = true) (t : Int) (κ : Nat → Int) (i : Nat) : smDisk 1048576 (crashI d t κ i) := by
 have hc := ok_sm (ok_crash h t κ)
 have hl := crashF_len h t
 refine ⟨by show (ctI κ _ i).length ≤ _; rw [ctI_len]; omega, fun f hf => ?_, hc.2.2.1, hc.2.2.2.1, Nat.zero_le _, fun _ h => absurd h List.not_mem_nil⟩
 have hf2 : f ∈ ctI κ (onlyL (crashL d t) d.Files) i := hf
 unfold ctI at hf2
 rcases List.mem_append.1 hf2 with h1 | h1
 ·obtain ⟨g, k, hg, rfl⟩ := cut_mem (List.mem_of_mem_take h1)
  have h2 : g.Body.length ≤ 1048576 := (ok_sm h).2.1 _ (List.mem_filter.1 hg).1
  show (g.Body.take _).length ≤ 1048576
  rw [List.length_take]; omega
 ·exact (ok_sm h).2.1 _ (List.mem_filter.1 (List.mem_of_mem_drop h1)).1
theorem smDisk_le {B C : Nat} {d : DiskD} (h : smDisk B d) (hB : B ≤ C) : smDisk C d :=
 ⟨Nat.le_trans h.1 hB, fun f hf => Nat.le_trans (h.2.1 f hf) hB, Nat.le_trans h.2.2.1 hB, fun x hx => smLink_le (h.2.2.2.1 x hx) hB, Nat.le_trans h.2.2.2.2.1 hB, fun t ht => smTurn_le (h.2.2.2.2.2 t ht) hB⟩
def compX (p : DepotD) (b : List UInt8) : DepotD := beginD p.Disk p.Gen p.Seq b
def compK (p : DepotD) (b : List UInt8) : Int := beginC p.Disk p.Gen p.Seq b
def compD (p : DepotD) (b : List UInt8) : DepotD :=
 if depotOk p then (if p.Stuck then p else if compK p b = 0 then compX p b else if compK p b = 1 then p else { p with Disk := (compX p b).Disk }) else depot0
def compC (p : DepotD) (b : List UInt8) : Int := if depotOk p then (if p.Stuck then 7 else if compK p b = 0 then 0 else if compK p b = 1 then 4 else compK p b) else 1
theorem comp_bad {p : DepotD} {b : List UInt8} (h : depotOk p = false) : compD p b = depot0 ∧ compC p b = 1 := by unfold compD compC; rw [h]; exact ⟨rfl, rfl⟩
theorem comp_st {p : DepotD} {b : List UInt8} (h : depotOk p = true) (h2 : p.Stuck = true) : compD p b = p ∧ compC p b = 7 := by unfold compD compC; rw [h, h2]; exact ⟨rfl, rfl⟩
theorem comp_0 {p : DepotD} {b : List UInt8} (h : depotOk p = true) (h2 : p.Stuck = false) (h3 : compK p b = 0) : compD p b = compX p b ∧ compC p b = 0 := by
 unfold compD compC; rw [h, h2]; exact ⟨if_pos h3, if_pos h3⟩
theorem comp_1 {p : DepotD} {b : List UInt8} (h : depotOk p = true) (h2 : p.Stuck = false) (h3 : compK p b = 1) : compD p b = p ∧ compC p b = 4 := by
 unfold compD compC; rw [h, h2, h3]; exact ⟨rfl, rfl⟩
theorem comp_n {p : DepotD} {b : List UInt8} (h : depotOk p = true) (h2 : p.Stuck = false) (h3 : ¬ compK p b = 0) (h4 : ¬ compK p b = 1) : compD p b = { p with Disk := (compX p b).Disk } ∧ compC p b = compK p b := by
 unfold compD compC; rw [h, h2]; exact ⟨(if_neg h3).trans (if_neg h4), (if_neg h3).trans (if_neg h4)⟩
def liveD (g a s : Int) (y : List UInt8) (l : List LoadD) (sf : Int) : DiskD := ⟨400000, -1, a + 2, [⟨a, snapL g s y, (snapL g s y).length⟩, ⟨a + 1, jrnL s l, sf⟩], [⟨logName g, a + 1⟩, ⟨snapName g, a⟩], []⟩
structure Live (p : DepotD) (g a s : Int) (y : List UInt8) (l : List LoadD) (sf : Int) : Prop where
 eq : p = ⟨liveD g a s y l sf, g, s + l.length, (jrnL s l).length, false⟩
 ok : diskOk (liveD g a s y l sf) = true
 hg : 1 ≤ g ∧ g ≤ 9
 ha : 1 ≤ a ∧ a ≤ 100
 hs : snapOk g s y = true
 hj : jrnOk s l = true
 hn : y.length ≤ 20 ∧ (jrnL s l).length ≤ 1000 ∧ s + l.length ≤ 100
theorem Live.gen {p : DepotD} {g a s : Int} {y : List UInt8} {l : List LoadD} {sf : Int} (h : Live p g a s y l sf) : isGenB g = true := by
 have := h.hg
 unfold isGenB; rw [within_iff]; omega
theorem names_ne {g : Int} (h : isGenB g = true) : (logName g = snapName g) = False ∧ (snapName g = logName g) = False ∧ cmpS (logName g) (snapName g) < 0 := by
 have hl : cmpS (logName g) (snapName g) < 0 := by
  unfold logName snapName
  rw [genName_y h, genName_y h]
  unfold cmpS
  rw [ByteArray.data_append, ByteArray.data_append, Array.toList_append, Array.toList_append]
  show Go.Lib.compareBytes (108 :: _) (115 :: _) < 0
  unfold Go.Lib.compareBytes
  rw [if_pos (by decide)]
  decide
 have hn : logName g ≠ snapName g := fun e => by rw [e, cmpS_refl] at hl; exact absurd hl (by decide)
 exact ⟨eq_false hn, eq_false hn.symm, hl⟩
theorem live_read {g a s : Int} {y : List UInt8} {l : List LoadD} {sf f : Int} (hg : isGenB g = true) (hk : diskOk { liveD g a s y l sf with Fuse := f } = true) :
  (readOk { liveD g a s y l sf with Fuse := f } (logName g) = true ∧ readB { liveD g a s y l sf with Fuse := f } (logName g) = jrnL s l) ∧ readB { liveD g a s y l sf with Fuse := f } (snapName g) = snapL g s y := by
 obtain ⟨n1, n2, _⟩ := names_ne hg
 have hL : hasN (dirD { liveD g a s y l sf with Fuse := f }) (logName g) = true := by simp [hasN, dirD, turnsL, liveD, isN]
 have hS : hasN (dirD { liveD g a s y l sf with Fuse := f }) (snapName g) = true := by simp [hasN, dirD, turnsL, liveD, isN]
 refine ⟨⟨ok_of hk hL, ?_⟩, ?_⟩
 ·exact read_at (f := ⟨a + 1, jrnL s l, sf⟩) hk hL (i := a + 1) (by simp [findL, dirD, turnsL, liveD, isN]) (List.mem_cons_of_mem _ List.mem_cons_self) rfl
 ·exact read_at (f := ⟨a, snapL g s y, (snapL g s y).length⟩) hk hS (i := a) (by simp [findL, dirD, turnsL, liveD, isN, n1]) List.mem_cons_self rfl
theorem live_ok {g a s : Int} {y : List UInt8} {l : List LoadD} {sf f : Int} (h : Live ⟨liveD g a s y l sf, g, s + l.length, (jrnL s l).length, false⟩ g a s y l sf) (hf : -1 ≤ f ∧ f ≤ 1000) : depotOk ⟨{ liveD g a s y l sf with Fuse := f }, g, s + l.length, (jrnL s l).length, false⟩ = true := by
 have hk := any_fuse h.ok hf
 obtain ⟨⟨r1, r2⟩, _⟩ := live_read h.gen hk
 have hs := (snapOk_P h.hs).2.2.1
 have hn := h.hn
 have hA : depA ⟨{ liveD g a s y l sf with Fuse := f }, g, s + l.length, (jrnL s l).length, false⟩ = true := by
  unfold depA
  simp only [Bool.and_eq_true, decide_eq_true_eq, within_iff]
  exact ⟨⟨⟨hk, h.gen⟩, by omega⟩, by omega⟩
 cases hB : depB ⟨{ liveD g a s y l sf with Fuse := f }, g, s + l.length, (jrnL s l).length, false⟩ with
 | true => exact depotOk_b hA hB
 | false =>
  rw [depotOk_c hA hB]
  unfold depC
  show (readOk { liveD g a s y l sf with Fuse := f } (logName g) && decide (((readB { liveD g a s y l sf with Fuse := f } (logName g)).length : Int) = _)) = true
  rw [r1, r2, decide_eq_true rfl]; rfl
theorem Live.depot {p : DepotD} {g a s : Int} {y : List UInt8} {l : List LoadD} {sf : Int} (h : Live p g a s y l sf) : depotOk p = true := by
 have e := h.eq
 subst e
 exact live_ok h (by omega)
theorem Live.find {p : DepotD} {g a s : Int} {y : List UInt8} {l : List LoadD} {sf : Int} (h : Live p g a s y l sf) : findD p.Disk = ⟨g, s, y, l, 0⟩ := by
 have e := h.eq
 subst e
 obtain ⟨⟨_, r2⟩, r3⟩ := live_read (f := -1) h.gen h.ok
 have hn : snOk (jrnL s l) = false := by have := jrn_noSnap (l := l) (s := s) (k := (jrnL s l).length); rwa [List.take_length] at this
 have := find_old h.gen h.ok (.inl ⟨_, _, rfl⟩) r2 hn r3 h.hs
 rw [jrn_whole h.hj] at this
 exact this
theorem goes_done {d e : DiskD} {op : DiskOpD} (hf : d.Fuse = -1) (hk : diskOk d = true) (ho : dopOk op = true) (h : goes d op e) : doneD d op = e ∧ doneC d op = 0 ∧ diskOk e = true := by
 obtain ⟨h1, h2, h3⟩ := h
 obtain ⟨a, b⟩ := done_do hk ho h1
 rw [fuse1_neg hf, h2] at a
 exact ⟨a, b.trans h3, by rw [← a]; exact doneD_ok hk ho⟩
theorem live_file {g a s : Int} {y : List UInt8} {l : List LoadD} {sf : Int} (hg : isGenB g = true) : hasN (dirD (liveD g a s y l sf)) (logName g) = true ∧ fileN (liveD g a s y l sf) (logName g) = 1 := by
 have i01 : (a = a + 1) = False := eq_false (by omega)
 refine ⟨by simp [hasN, dirD, turnsL, liveD, isN], ?_⟩
 simp [fileN, atI, findI, findL, isN, dirD, turnsL, liveD, List.findIdx?_cons, i01]
theorem Live.flush {p : DepotD} {g a s : Int} {y : List UInt8} {l : List LoadD} {sf : Int} (h : Live p g a s y l sf) : flushC p = 0 ∧ Live (flushD p) g a s y l (jrnL s l).length := by
 have hd := h.depot
 have e := h.eq
 subst e
 obtain ⟨f1, f2⟩ := flush_do hd rfl
 obtain ⟨l1, l2⟩ := live_file (g := g) (a := a) (s := s) (y := y) (l := l) (sf := sf) h.gen
 obtain ⟨g1, g2, g3⟩ := goes_done (op := syncOp (logName g)) rfl h.ok (opS_ok (log_ok h.gen)) (goS (k := 1) (f := ⟨a + 1, jrnL s l, sf⟩) rfl l1 l2 rfl)
 refine ⟨f2.trans g2, ?_⟩
 rw [f1]
 refine ⟨?_, g3, h.hg, h.ha, h.hs, h.hj, h.hn⟩
 show (⟨doneD (liveD g a s y l sf) (syncOp (logName g)), g, _, _, false⟩ : DepotD) = _
 rw [g1]; rfl
theorem live_room {g a s : Int} {y : List UInt8} {l : List LoadD} {sf : Int} (hs : snapOk g s y = true) (hy : y.length ≤ 20) (hj : (jrnL s l).length ≤ 1000) : (snapL g s y).length ≤ 44 ∧ 390000 ≤ roomD (liveD g a s y l sf) := by
 have h1 : (snapL g s y).length ≤ 44 := by
  obtain ⟨_, q1, q2, q3⟩ := snapOk_P hs
  have a1 := snapHd_len (n := y.length) q1 q2 (by omega)
  have a2 := varL_len (crcN (snapHd g s y.length ++ y)) (by have := crcN_lt (snapHd g s y.length ++ y); omega)
  unfold snapL
  simp only [List.length_append]
  omega
 refine ⟨h1, ?_⟩
 show 390000 ≤ ((400000 : Int) - (((snapL g s y).length + ((jrnL s l).length + 0) : Nat) : Int)).toNat
 omega
theorem Live.put {p : DepotD} {g a s : Int} {y : List UInt8} {l : List LoadD} {sf : Int} {d : List UInt8} (h : Live p g a s y l sf) (hd : d.length ≤ 20) (hl : (jrnL s l).length ≤ 900) (hn : s + l.length ≤ 90) :
  putC p d = 0 ∧ Live (putD p d) g a s y (l ++ [⟨d⟩]) sf ∧ (jrnL s (l ++ [⟨d⟩])).length ≤ (jrnL s l).length + 40 := by
 have hdp := h.depot
 have e := h.eq
 subst e
 have hs := (snapOk_P h.hs).2.2.1
 have hfk : frameOk (s + l.length) d = true := by unfold frameOk; rw [Bool.and_eq_true, within_iff, decide_eq_true_eq]; omega
 have hfl := frameL_len (seq := s + l.length) (b := d) (by omega) (by omega)
 have hJ : jrnL s (l ++ [⟨d⟩]) = jrnL s l ++ frameL (s + l.length) d := by rw [jrnL_app]; simp [jrnL]
 have hJl : (jrnL s (l ++ [⟨d⟩])).length = (jrnL s l).length + (frameL (s + l.length) d).length := by rw [hJ, List.length_append]
 have hg : putGood (⟨liveD g a s y l sf, g, s + l.length, (jrnL s l).length, false⟩ : DepotD) d = true := by unfold putGood; rw [hdp, decide_eq_true (by omega)]; rfl
 obtain ⟨l1, l2⟩ := live_file (g := g) (a := a) (s := s) (y := y) (l := l) (sf := sf) h.gen
 obtain ⟨_, hroom⟩ := live_room (g := g) (a := a) (l := l) (sf := sf) h.hs h.hn.1 h.hn.2.1
 obtain ⟨g1, g2, g3⟩ := goes_done (op := opA (logName g) (frameL (s + l.length) d)) rfl h.ok (opA_ok (log_ok h.gen) (by omega)) (goA (k := 1) (f := ⟨a + 1, jrnL s l, sf⟩) rfl l1 l2 rfl (by omega))
 have h3 : ¬ 1000000000 < s + (l.length : Int) := by omega
 have hc : putC (⟨liveD g a s y l sf, g, s + l.length, (jrnL s l).length, false⟩ : DepotD) d = 0 := (put_code hg rfl h3).trans g2
 refine ⟨hc, ?_, by omega⟩
 rw [put_0 hg rfl h3 g2]
 refine ⟨?_, ?_, h.hg, h.ha, h.hs, by rw [jrnOk_app, h.hj]; simpa [jrnOk] using hfk, by rw [hJl, List.length_append, List.length_singleton]; have := h.hn; omega⟩
 ·show (⟨doneD (liveD g a s y l sf) (opA (logName g) (frameL (s + l.length) d)), g, s + l.length + 1, ((jrnL s l).length : Int) + ((frameL (s + l.length) d).length : Int), false⟩ : DepotD) = _
  rw [g1, hJl, List.length_append, List.length_singleton]
  refine DepotD.ext' ?_ rfl ?_ ?_ rfl
  ·show _ = liveD g a s y (l ++ [⟨d⟩]) sf
   unfold liveD
   rw [hJ]; rfl
  ·show s + (l.length : Int) + 1 = s + ((l.length + 1 : Nat) : Int); omega
  ·show ((jrnL s l).length : Int) + ((frameL (s + l.length) d).length : Int) = (((jrnL s l).length + (frameL (s + l.length) d).length : Nat) : Int); omega
 ·rw [show liveD g a s y (l ++ [⟨d⟩]) sf = { liveD g a s y l sf with Files := (liveD g a s y l sf).Files.set 1 { (⟨a + 1, jrnL s l, sf⟩ : FileD) with Body := jrnL s l ++ frameL (s + l.length) d } } from by unfold liveD; rw [hJ]; rfl]
  exact g3
theorem beginOk_mk {d : DiskD} {gen seq : Int} {b : List UInt8} (h1 : diskOk d = true) (h2 : 0 ≤ gen ∧ gen ≤ 999999999) (h3 : snapOk (gen + 1) seq b = true) : beginOk d gen seq b = true := by
 unfold beginOk; rw [h1, within_iff.2 h2, h3]; rfl
theorem snapOk_mk {g s : Int} {y : List UInt8} (h1 : 1 ≤ g ∧ g ≤ 1000) (h2 : 1 ≤ s ∧ s ≤ 1000) (h3 : y.length ≤ 1000) : snapOk g s y = true := by
 unfold snapOk isGenB isSeqB
 rw [within_iff.2 (by omega), within_iff.2 (by omega), decide_eq_true (by omega)]; rfl
theorem live_new {g s : Int} {y : List UInt8} (hg : 0 ≤ g ∧ g ≤ 7) (hs : 1 ≤ s ∧ s ≤ 90) (hy : y.length ≤ 20) : beginC ⟨400000, -1, 1, [], [], []⟩ g s y = 0 ∧ Live (beginD ⟨400000, -1, 1, [], [], []⟩ g s y) (g + 1) 1 s y [] 0 := by
 have hk : snapOk (g + 1) s y = true := snapOk_mk (by omega) (by omega) (by omega)
 have hb : beginOk ⟨400000, -1, 1, [], [], []⟩ g s y = true := beginOk_mk (by decide) (by omega) hk
 obtain ⟨b1, b2⟩ := begin_do hb
 obtain ⟨c1, c2⟩ := chY_begin (g := g + 1) (nw := snapL (g + 1) s y) (by omega) (by have := snapL_len hk; omega)
 have e : beginP ⟨400000, -1, 1, [], [], []⟩ g s y = (chY (logName (g + 1)) (snapName (g + 1)) (snapL (g + 1) s y) 9, 0) := c2
 rw [b1, b2, e]
 refine ⟨rfl, DepotD.ext' rfl rfl (by show s = s + 0; omega) rfl rfl, c1, by omega, by omega, hk, rfl, by omega, by show 0 ≤ 1000; decide, by show s + 0 ≤ 100; omega⟩
def liveX (g a s : Int) (y : List UInt8) (l : List LoadD) (sf : Int) (b : List UInt8) : Nat → DiskD := chX (logName g) (logName (g + 1)) (snapName g) (snapName (g + 1)) a (snapL g s y) (jrnL s l) (snapL (g + 1) (s + l.length) b) sf
theorem live_comp {g a s : Int} {y b : List UInt8} {l : List LoadD} {sf f : Int} (h : Live ⟨liveD g a s y l sf, g, s + l.length, (jrnL s l).length, false⟩ g a s y l sf) (hg : g ≤ 8) (hf : -1 ≤ f ∧ f ≤ 1000) (hb : b.length ≤ 20) :
  Chain (liveX g a s y l sf b) (chO (logName g) (logName (g + 1)) (snapName g) (snapName (g + 1)) (snapL (g + 1) (s + l.length) b)) 11 ∧
  (compD ⟨{ liveD g a s y l sf with Fuse := f }, g, s + l.length, (jrnL s l).length, false⟩ b).Disk = (cst (liveX g a s y l sf b) f 11).1 ∧
  compC ⟨{ liveD g a s y l sf with Fuse := f }, g, s + l.length, (jrnL s l).length, false⟩ b = (cst (liveX g a s y l sf b) f 11).2 ∧
  ((cst (liveX g a s y l sf b) f 11).2 = 0 → compD ⟨{ liveD g a s y l sf with Fuse := f }, g, s + l.length, (jrnL s l).length, false⟩ b = ⟨(cst (liveX g a s y l sf b) f 11).1, g + 1, s + l.length, 0, false⟩) := by
 have hs := (snapOk_P h.hs).2.2.1
 have hn := h.hn
 have ha := h.ha
 have hg1 := h.hg
 have hk : snapOk (g + 1) (s + l.length) b = true := snapOk_mk (by omega) (by omega) (by omega)
 have hdp := live_ok h hf
 obtain ⟨l1, _⟩ := live_room (g := g) (a := a) (l := l) (sf := sf) h.hs h.hn.1 h.hn.2.1
 have l2 := snapL_len hk
 obtain ⟨c1, c2⟩ := chX_begin (g := g) (a := a) (sn := snapL g s y) (lg := jrnL s l) (nw := snapL (g + 1) (s + l.length) b) (sf := sf) (f := f) (by omega) h.ha (by omega) hf h.ok
 refine ⟨c1, ?_⟩
 have hbo : beginOk { liveD g a s y l sf with Fuse := f } g (s + l.length) b = true := beginOk_mk (any_fuse h.ok hf) (by omega) hk
 obtain ⟨b1, b2⟩ := begin_do hbo
 have e : beginP { liveD g a s y l sf with Fuse := f } g (s + l.length) b = cst (liveX g a s y l sf b) f 11 := c2
 rw [e] at b1 b2
 have hK : compK ⟨{ liveD g a s y l sf with Fuse := f }, g, s + l.length, (jrnL s l).length, false⟩ b = (cst (liveX g a s y l sf b) f 11).2 := b2
 have hX : compX ⟨{ liveD g a s y l sf with Fuse := f }, g, s + l.length, (jrnL s l).length, false⟩ b = _ := b1
 rcases cst_code (X := liveX g a s y l sf b) (f := f) (i := 11) with h0 | h0
 ·obtain ⟨d1, d2⟩ := comp_0 (b := b) hdp rfl (hK.trans h0)
  refine ⟨by rw [d1, hX], d2.trans h0.symm, fun _ => ?_⟩
  rw [d1, hX]
  show (⟨_, if _ then _ else _, _, _, _⟩ : DepotD) = _
  rw [if_pos h0]
 ·obtain ⟨d1, d2⟩ := comp_n (b := b) hdp rfl (by rw [hK, h0]; decide) (by rw [hK, h0]; decide)
  refine ⟨by rw [d1, hX], d2.trans hK, fun h1 => by rw [h0] at h1; exact absurd h1 (by decide)⟩
theorem Live.compact {p : DepotD} {g a s : Int} {y b : List UInt8} {l : List LoadD} {sf : Int} (h : Live p g a s y l sf) (hg : g ≤ 8) (ha : a ≤ 90) (hb : b.length ≤ 20) :
  compC p b = 0 ∧ Live (compD p b) (g + 1) (a + 2) (s + l.length) b [] 0 := by
 have e := h.eq
 subst e
 obtain ⟨c0, c1, c2, c3⟩ := live_comp (f := -1) h hg (by omega) hb
 have e11 : cst (liveX g a s y l sf b) (-1) 11 = (liveX g a s y l sf b 11, 0) := rfl
 have hs := (snapOk_P h.hs).2.2.1
 have hn := h.hn
 have hg1 := h.hg
 have ha1 := h.ha
 have hk : snapOk (g + 1) (s + l.length) b = true := snapOk_mk (by omega) (by omega) (by omega)
 have hD : liveX g a s y l sf b 11 = liveD (g + 1) (a + 2) (s + l.length) b [] 0 := by
  show (⟨400000, -1, a + 2 + 1 + 1, _, _, _⟩ : DiskD) = ⟨400000, -1, a + 2 + 2, _, _, _⟩
  rw [show a + 2 + 1 + 1 = a + 2 + 2 by omega]; rfl
 have ho := c0.all 11 (by omega)
 rw [hD] at ho
 rw [e11] at c2 c3
 refine ⟨c2, ?_⟩
 have c4 := c3 rfl
 rw [show ({ liveD g a s y l sf with Fuse := -1 } : DiskD) = liveD g a s y l sf from rfl] at c4
 rw [c4]
 refine ⟨?_, ho, by omega, by omega, hk, rfl, hb, by show 0 ≤ 1000; decide, by show s + (l.length : Int) + 0 ≤ 100; omega⟩
 refine DepotD.ext' hD rfl ?_ rfl rfl
 show s + (l.length : Int) = s + (l.length : Int) + 0
 omega
def Made (i : Nat) (p : DepotD) : Prop := ∃ g a s y l sf, Live p g a s y l sf ∧ g ≤ 3 + i ∧ a ≤ 1 + 2 * i ∧ s + (l.length : Int) ≤ 9 + i ∧ (jrnL s l).length ≤ 40 * i
theorem Made.new {g s : Int} {y : List UInt8} (hg : 0 ≤ g ∧ g < 3) (hs : 1 ≤ s ∧ s ≤ 9) (hy : y.length ≤ 20) : Made 0 (beginD ⟨400000, -1, 1, [], [], []⟩ g s y) :=
 ⟨_, _, _, _, _, _, (live_new (by omega) (by omega) hy).2, by omega, by omega, by show s + 0 ≤ 9 + 0; omega, Nat.zero_le _⟩
theorem Made.put {i : Nat} {p : DepotD} {d : List UInt8} (h : Made i p) (hi : i ≤ 6) (hd : d.length ≤ 20) : Made (i + 1) (putD p d) := by
 obtain ⟨g, a, s, y, l, sf, h, h1, h2, h3, h4⟩ := h
 obtain ⟨_, b, c⟩ := h.put hd (by omega) (by omega)
 exact ⟨g, a, s, y, _, sf, b, by omega, by omega, by rw [List.length_append, List.length_singleton]; omega, by omega⟩
theorem Made.flush {i : Nat} {p : DepotD} (h : Made i p) : Made i (flushD p) := by
 obtain ⟨g, a, s, y, l, sf, h, h1⟩ := h
 exact ⟨g, a, s, y, l, _, h.flush.2, h1⟩
theorem Made.sub {i j : Nat} {p : DepotD} (h : Made i p) (hij : i ≤ j) : Made j p := by
 obtain ⟨g, a, s, y, l, sf, h, h1, h2, h3, h4⟩ := h
 exact ⟨g, a, s, y, l, sf, h, by omega, by omega, by omega, by omega⟩
def Made1 (i : Nat) (p : DepotD) : Prop := ∃ g a s y l sf, Live p g a s y l sf ∧ g ≤ 3 + i ∧ a ≤ 1 + 2 * i ∧ s + (l.length : Int) ≤ 10 + i ∧ (jrnL s l).length ≤ 40 * (i + 1)
theorem Made.put1 {i : Nat} {p : DepotD} {d : List UInt8} (h : Made i p) (hi : i ≤ 6) (hd : d.length ≤ 20) : Made1 i (putD p d) := by
 obtain ⟨g, a, s, y, l, sf, h, h1, h2, h3, h4⟩ := h
 obtain ⟨_, b, c⟩ := h.put hd (by omega) (by omega)
 exact ⟨g, a, s, y, _, sf, b, by omega, by omega, by rw [List.length_append, List.length_singleton]; omega, by omega⟩
theorem Made1.flush {i : Nat} {p : DepotD} (h : Made1 i p) : Made1 i (flushD p) := by
 obtain ⟨g, a, s, y, l, sf, h, h1⟩ := h
 exact ⟨g, a, s, y, l, _, h.flush.2, h1⟩
theorem Made1.up {i : Nat} {p : DepotD} (h : Made1 i p) : Made (i + 1) p := by
 obtain ⟨g, a, s, y, l, sf, h, h1, h2, h3, h4⟩ := h
 exact ⟨g, a, s, y, l, sf, h, by omega, by omega, by omega, by omega⟩
theorem Made1.compact {i : Nat} {p : DepotD} {b : List UInt8} (h : Made1 i p) (hi : i ≤ 5) (hb : b.length ≤ 20) : Made (i + 1) (compD p b) := by
 obtain ⟨g, a, s, y, l, sf, h, h1, h2, h3, h4⟩ := h
 exact ⟨_, _, _, _, _, _, (h.compact (by omega) (by omega) hb).2, by omega, by omega, by show s + (l.length : Int) + 0 ≤ _; omega, Nat.zero_le _⟩
theorem Live.tot {p : DepotD} {g a s : Int} {y : List UInt8} {l : List LoadD} {sf : Int} (h : Live p g a s y l sf) : totDisk p.Disk ≤ 1048576 := by
 have e := h.eq
 subst e
 exact ok_tot h.ok
theorem Made.tot {i : Nat} {p : DepotD} (h : Made i p) : totDisk p.Disk ≤ 1048576 := by
 obtain ⟨g, a, s, y, l, sf, h, _⟩ := h
 exact h.tot
theorem Made1.tot {i : Nat} {p : DepotD} (h : Made1 i p) : totDisk p.Disk ≤ 1048576 := by
 obtain ⟨g, a, s, y, l, sf, h, _⟩ := h
 exact h.tot
theorem built_34_0_1_2 (x0 : Int) (x1 : Int) (x2 : Int) : Tryz.prog.built 34 [(0, .int .i64 x0), (1, .int .i64 x1), (2, .int .i64 x2)] = some (List.toArray [.int .i64 x0, .int .i64 x1, .int .i64 x2, .slice none 0 0, .slice none 0 0, .slice none 0 0]) := by kernel_rfl
theorem k87_ (n : Int) (w : World) (hn : 0 ≤ n ∧ n ≤ 400000) :
    Calls Tryz.prog 49 #[i64 n] w fun e w' => ∃ r L1, e = .returned (.tuple #[.agg #[i64 r.Room, i64 r.Fuse, i64 r.Next, .slice r.Files.A r.Files.n r.Files.c, .slice r.Kept.A r.Kept.n r.Kept.c, .slice r.Turns.A r.Turns.n r.Turns.c], .bool true]) ∧ St w [] L1 w' ∧ ownDiskR r L1 ∧ r.dat = ⟨n, -1, 1, [], [], []⟩ := by
 refine enter 13 Tryz.func49 rfl Tryz.ntmps49 rfl rfl ?_
 have hs1 := St.init w
 refine WC.sr (WL.al hs1 Tryz.zeroValue34 rfl rfl (fun b2 _ hs3 => WL.r 1 hs3 [] rfl (WL.nil (WC.seq (fun K4 hK4 => WC.sr (WL.r 3 hs3 [] rfl (WL.pO tbk 2 Acts.nil hs3 [] rfl rfl rfl rfl (fun g_ => trivial) ?_)))))))
 refine WL.nil (WC.cq rfl (fun h5 qh5 => ?_) (fun h5 qh5 => ?_))
 ·exfalso; have h9 := h5; simp at h9; omega
 refine WC.skip (hK4 _ _ (WC.sr (WL.r 1 hs3 [] rfl ?_)))
 refine WL.val rfl rfl rfl (Run.build rfl rfl rfl rfl (built_34_0_1_2 _ _ _)) (WL.st tbk hs3 0 rfl rfl (fun _ hs6 => WL.r 1 hs6 [] rfl (WL.nil (WC.ret (retV2 rfl (resV.cellA tbk hs6 0 rfl rfl rfl rfl) (resV.tmp rfl) ?_)))))
 obtain ⟨L11, hs10, ho12⟩ := ownDiskR.fl hs6 (OwnN.nil _ _ _) (OwnF.nil _ _) (OwnF.nil _ _)
 have hs13 := (hs10.fb b2)
 refine ⟨⟨n, (-1), (1), ⟨none, 0, 0, []⟩, ⟨none, 0, 0, []⟩, ⟨none, 0, 0, []⟩⟩, _, rfl, (St.keep1 (hs13.fr L11)), ?_, ?_⟩
 · exact (by exact ho12)
 · rfl
theorem k88_ (d : DiskR) (name : ByteArray) (w : World) (f_d : okDiskR 549755813888 w d) (hb : totDisk d.dat ≤ 1048576) :
    Calls Tryz.prog 58 #[.agg #[i64 d.Room, i64 d.Fuse, i64 d.Next, .slice d.Files.A d.Files.n d.Files.c, .slice d.Kept.A d.Kept.n d.Kept.c, .slice d.Turns.A d.Turns.n d.Turns.c], .string name] w fun e w' => ∃ A c L1, e = .returned (.tuple #[.slice A (readB d.dat name).length c, .bool (readOk d.dat name)]) ∧ St w [] L1 w' ∧ OwnF encB 5 (.slice A (readB d.dat name).length c) (readB d.dat name) L1 := by
 have nb_d_Files := f_d.Files_n
 have nl_d_Files := f_d.Files.sl.len
 have nb_d_Kept := f_d.Kept_n
 have nl_d_Kept := f_d.Kept.len
 have nb_d_Turns := f_d.Turns_n
 have nl_d_Turns := f_d.Turns.len
 refine enter 22 Tryz.func58 rfl Tryz.ntmps58 rfl rfl ?_
 have hs1 := St.init w
 refine WC.sr (WL.bx hs1 rfl (fun b2 _ hs3 => WL.r 2 hs3 [] rfl (WL.nil (WC.seq (fun K4 hK4 => WC.sr (WL.r 1 hs3 [0] rfl ?_))))))
 refine WL.cl Tryz.call56 rfl (k53_ d _ (okDiskR.st0 f_d hs3) ?_) ?_
 · first | assumption | rfl | omega
 rintro _ whs5 ⟨rfl, hs5⟩
 replace hs5 := hs3.call0 hs5
 refine ⟨_, rfl, WL.r 1 hs5 [] rfl (WL.nil (WC.cq rfl (fun h6 qh6 => ?_) (fun h6 qh6 => ?_)))⟩
 ·have hok : diskOk d.dat = false := by have h9 := h6; simpa using h9
  have hf : readOk d.dat name = false := by unfold readOk; rw [hok]; simp
  have hB : readB d.dat name = [] := if_neg (by rw [hf]; decide)
  refine WC.r1 hs5 [] rfl (WC.ret (tkR ?_))
  clear hK4
  refine retV2 rfl (resV.tmp rfl) (resV.tmp rfl) ?_
  rw [hf]
  have hx_ := OwnF.eqOf (xs := readB d.dat name) (OwnF.nil encB 5) (by rw [hB])
  rw [← hx_]
  exact ⟨_, _, _, rfl, hs5.nil, (OwnF.nil encB 5)⟩
 have hok : diskOk d.dat = true := by have h9 := h6; simpa using h9
 have hD := diskOk_P hok
 refine WC.skip (hK4 _ _ (WC.sr (WL.r 2 hs5 [0] rfl ?_)))
 refine WL.cl Tryz.call117 rfl (k58_ d _ _ (okDiskR.st0 f_d hs5) ?_) ?_
 · first | assumption | rfl | omega
 rintro _ whs7 ⟨rfl, hs7⟩
 replace hs7 := hs5.call0 hs7
 refine ⟨_, rfl, WL.r 1 hs7 [] rfl (WL.nil (WC.seq (fun K8 hK8 => WC.r1 hs7 [] rfl ?_)))⟩
 refine WC.cq rfl (fun h9 qh9 => ?_) (fun h9 qh9 => ?_)
 ·have hh : hasN (dirD d.dat) name = false := by
    cases hh : hasN (dirD d.dat) name with
    | false => rfl
    | true => have h9 := h9; rw [fileI_y hh] at h9; simp at h9; omega
  have hf : readOk d.dat name = false := by unfold readOk; rw [hh]; simp
  have hB : readB d.dat name = [] := if_neg (by rw [hf]; decide)
  refine WC.r1 hs7 [] rfl (WC.ret (tkR ?_))
  clear hK8
  refine retV2 rfl (resV.tmp rfl) (resV.tmp rfl) ?_
  rw [hf]
  have hx_ := OwnF.eqOf (xs := readB d.dat name) (OwnF.nil encB 5) (by rw [hB])
  rw [← hx_]
  exact ⟨_, _, _, rfl, hs7.nil, (OwnF.nil encB 5)⟩
 have hh : hasN (dirD d.dat) name = true := by
   cases hh : hasN (dirD d.dat) name with
   | true => rfl
   | false => have h9 := h9; rw [fileI_n hh] at h9; simp at h9
 have hf : readOk d.dat name = true := by unfold readOk; rw [hok, hh]; rfl
 have hfn := (hD.at hh).1
 have hfn2 : fileN d.dat name < d.Files.xs.length := by rw [← List.length_map (f := FileR.dat)]; exact hfn
 have hB : readB d.dat name = (gat encFileR d.Files.xs (fileN d.dat name)).Body.xs := by unfold readB; rw [if_pos hf, show fAt d.dat.Files (fileN d.dat name) = FileR.dat (gat encFileR d.Files.xs (fileN d.dat name)) from fAt_dat hfn2]; rfl
 have hyb := (f_d.Files.all _ (gat_mem (F := encFileR) (xs := d.Files.xs) (k := fileN d.dat name) hfn2)).Body.len
 have hyu : (gat encFileR d.Files.xs (fileN d.dat name)).Body.xs.length ≤ usedF d.dat.Files := usedF_gat hfn2
 have hul := hD.room.2.1
 have hfl9 := f_d.Files.sl.len
 have hfi := fileI_y hh
 refine WC.skip (hK8 _ _ (WC.sr (WL.r 3 hs7 [0] rfl ?_)))
 refine WL.val rfl rfl rfl (Run.idxK ((fileN d.dat name)) Tryz.runUnderlying30 Tryz.sizeOf123 rfl rfl rfl ?_ ?_ ?_) ?_
 · exact SlF.some_ (SlF.st0 f_d.Files.sl hs7)
 · omega
 · omega
 refine WL.val rfl rfl rfl (Run.fieldO Tryz.runUnderlying123 rfl rfl rfl Tryz.sizeOf43 rfl) (WL.val rfl rfl rfl (Run.load Tryz.isAgg43 rfl rfl (SlF.fld (SlF.st0 f_d.Files.sl hs7) ?_ rfl)) ?_)
 · omega
 refine WL.cl Tryz.call118 rfl (k61_ _ _ _ _ _ (SlF.st0 (SlN.nth f_d.Files (by omega)).Body hs7) ?_) ?_
 · first | assumption | rfl | omega
 rintro _ whs10 ⟨A11, c12, L1_13, rfl, hs10, ho14⟩
 replace hs10 := hs7.callF hs10
 refine ⟨_, rfl, ?_⟩
 replace hs10 := St.back [_] hs10
 refine WL.r 2 hs10 [] rfl (WL.nil (WC.ret (retV2 rfl (resV.tmp rfl) (resV.tmp rfl) ?_)))
 rw [hf]
 have hx_ := OwnF.eqOf (xs := readB d.dat name) ho14 (by rw [hB]; first | done | rfl | simp)
 rw [← hx_]
 first | exact ⟨_, _, _, rfl, (St.keep1 (hs10.fr L1_13)), ho14⟩ | exact ⟨A11, c12, _, by rw [OwnF.len_ ho14], (St.keep1 (hs10.fr L1_13)), by rw [OwnF.len_ ho14]; exact ho14⟩
theorem k89_ (p : DepotR) (w : World) (f_p : okDepotR 549755813888 w p) (hb : totDisk p.dat.Disk ≤ 1048576) (ht : TabOk w) :
    Calls Tryz.prog 25 #[.agg #[i64 p.Disk.Room, i64 p.Disk.Fuse, i64 p.Disk.Next, .slice p.Disk.Files.A p.Disk.Files.n p.Disk.Files.c, .slice p.Disk.Kept.A p.Disk.Kept.n p.Disk.Kept.c, .slice p.Disk.Turns.A p.Disk.Turns.n p.Disk.Turns.c, i64 p.Gen, i64 p.Seq, i64 p.Size, .bool p.Stuck]] w fun e w' => e = .returned (.bool (depotOk p.dat)) ∧ St w [] [] w' := by
 have nb_p_Disk_Files := f_p.Disk.Files_n
 have nl_p_Disk_Files := f_p.Disk.Files.sl.len
 have nb_p_Disk_Kept := f_p.Disk.Kept_n
 have nl_p_Disk_Kept := f_p.Disk.Kept.len
 have nb_p_Disk_Turns := f_p.Disk.Turns_n
 have nl_p_Disk_Turns := f_p.Disk.Turns.len
 refine enter 51 Tryz.func25 rfl Tryz.ntmps25 rfl rfl ?_
 have hs1 := St.init w
 refine WC.sr (WL.bx hs1 rfl (fun b2 _ hs3 => WL.r 1 hs3 [] rfl (WL.nil (WC.seq (fun K4 hK4 => WC.sr (WL.r 2 hs3 [0] rfl ?_))))))
 refine WL.cl Tryz.call56 rfl (k53_ p.Disk _ (okDiskR.st0 f_p.Disk hs3) ?_) ?_
 · first | assumption | rfl | omega | exact tab_st ht (by assumption) | exact hb
 rintro _ whs5 ⟨rfl, hs5⟩
 replace hs5 := hs3.call0 hs5
 refine ⟨_, rfl, WL.r 2 hs5 [] rfl ?_⟩
 apply WL.gO 4 Acts.nil hs5 rfl
 ·intro g6 J7
  have qg6 := g6
  try simp only [bf, within_iff, within_not] at qg6
  refine WL.runA tbk 2 (Acts.nil.cons (j := 4) rfl g6) hs5 [0] rfl ⟨rfl, trivial⟩ (WL.call (wantF rfl g6) rfl rfl (Run.call Tryz.call60 rfl rfl rfl) (k13_ _ _) ?_)
  rintro _ whs8 ⟨rfl, hs8⟩
  replace hs8 := hs5.call0 hs8
  refine ⟨_, rfl, WL.runA tbk 1 (Acts.nil.cons (j := 4) rfl g6) hs8 [] rfl trivial (WL.eO 4 Acts.nil J7 hs8 g6 rfl rfl)⟩
 intro _ hs9
 refine WL.r 1 hs9 [] rfl ?_
 apply WL.gO 4 Acts.nil hs9 rfl
 ·intro g10 J11
  have qg10 := g10
  try simp only [bf, within_iff, within_not] at qg10
  refine WL.runA tbk 2 (Acts.nil.cons (j := 10) rfl g10) hs9 [0] rfl ⟨rfl, trivial⟩ (WL.call (wantF rfl g10) rfl rfl (Run.call Tryz.call61 rfl rfl rfl) (k0_ _ _ _ _) ?_)
  rintro _ whs12 ⟨rfl, hs12⟩
  replace hs12 := hs9.call0 hs12
  refine ⟨_, rfl, WL.runA tbk 1 (Acts.nil.cons (j := 10) rfl g10) hs12 [] rfl trivial (WL.eO 4 Acts.nil J11 hs12 g10 rfl rfl)⟩
 intro _ hs13
 refine WL.r 1 hs13 [] rfl (WL.pO tbk 3 Acts.nil hs13 [0] rfl rfl rfl rfl (fun g_ => ⟨rfl, trivial⟩) (WL.nil (WC.cq rfl (fun h14 qh14 => ?_) (fun h14 qh14 => ?_))))
 ·have hA : depA p.dat = false := by rw [depA_i, h14]; rfl
  refine WC.r1 hs13 [] rfl (WC.ret (tkR ?_))
  clear hK4
  refine rtv rfl rfl hs13 ?_
  rw [depotOk_n hA]
 have hA : depA p.dat = true := by rw [depA_i, h14]; rfl
 refine WC.skip (hK4 _ _ (WC.seq (fun K15 hK15 => WC.sr (WL.r 5 hs13 [0] rfl (WL.pO tbk 2 Acts.nil hs13 [0] rfl rfl rfl rfl (fun g_ => ⟨rfl, trivial⟩) (WL.nil ?_))))))
 refine WC.cq rfl (fun h16 qh16 => ?_) (fun h16 qh16 => ?_)
 ·have hB : depB p.dat = true := h16
  refine WC.r1 hs13 [] rfl (WC.ret (tkR ?_))
  clear hK15
  refine rtv rfl rfl hs13 ?_
  rw [depotOk_b hA hB]
 have hB : depB p.dat = false := h16
 refine WC.skip (hK15 _ _ (WC.seq (fun K17 hK17 => WC.rH hs13 hs13 (fun _ hs18 => ?_))))
 refine WH.rn [0, 1, 2, 3] hs18 [0, 0] rfl rfl (WH.o1 4 rfl (WL.cl Tryz.call44 rfl (k14_ _ _ ?_) ?_))
 · first | assumption | rfl | omega | exact tab_st ht (by assumption) | exact hb
 rintro _ whs19 ⟨rfl, hs19⟩
 replace hs19 := hs18.call0 hs19
 refine ⟨_, rfl, WL.nil ⟨hs19, WH.o1 5 rfl (WL.cl Tryz.call58 rfl (k88_ p.Disk _ _ (okDiskR.st0 f_p.Disk hs19) ?_) ?_)⟩⟩
 · first | assumption | rfl | omega | exact tab_st ht (by assumption) | exact hb
 rintro _ whs20 ⟨A21, c22, L1_23, rfl, hs20, ho24⟩
 replace hs20 := hs19.callF hs20
 refine ⟨_, rfl, ?_⟩
 replace hs20 := St.back [_] hs20
 refine WL.nil ⟨(hs20.rm L1_23), WH.rn [6, 7, 8, 9, 10] (hs20.rm L1_23) [] rfl rfl (WH.dn (hK17 _ _ (WC.sr (WL.r 2 hs20 [] rfl (WL.pA tbk 5 Acts.nil hs20 [0] rfl rfl rfl rfl (fun g_ => ⟨rfl, trivial⟩) (WL.r 1 hs20 [] rfl ?_))))))⟩
 refine WL.nil (WC.ret (rtv rfl rfl hs20 ?_))
 rw [depotOk_c hA hB]; rfl
theorem k90_ (p : DepotR) (w : World) (f_p : okDepotR 549755813888 w p) (hb : totDisk p.dat.Disk ≤ 1048576) :
    Calls Tryz.prog 42 #[.agg #[i64 p.Disk.Room, i64 p.Disk.Fuse, i64 p.Disk.Next, .slice p.Disk.Files.A p.Disk.Files.n p.Disk.Files.c, .slice p.Disk.Kept.A p.Disk.Kept.n p.Disk.Kept.c, .slice p.Disk.Turns.A p.Disk.Turns.n p.Disk.Turns.c, i64 p.Gen, i64 p.Seq, i64 p.Size, .bool p.Stuck]] w fun e w' => ∃ r L1, e = .returned (.agg #[i64 r.Disk.Room, i64 r.Disk.Fuse, i64 r.Disk.Next, .slice r.Disk.Files.A r.Disk.Files.n r.Disk.Files.c, .slice r.Disk.Kept.A r.Disk.Kept.n r.Disk.Kept.c, .slice r.Disk.Turns.A r.Disk.Turns.n r.Disk.Turns.c, i64 r.Gen, i64 r.Seq, i64 r.Size, .bool r.Stuck]) ∧ St w [] L1 w' ∧ ownDepotR r L1 ∧ r.dat = p.dat := by
 have nb_p_Disk_Files := f_p.Disk.Files_n
 have nl_p_Disk_Files := f_p.Disk.Files.sl.len
 have nb_p_Disk_Kept := f_p.Disk.Kept_n
 have nl_p_Disk_Kept := f_p.Disk.Kept.len
 have nb_p_Disk_Turns := f_p.Disk.Turns_n
 have nl_p_Disk_Turns := f_p.Disk.Turns.len
 have hsm : smDisk 1048576 p.dat.Disk := totDisk_sm hb
 refine enter 8 Tryz.func42 rfl Tryz.ntmps42 rfl rfl ?_
 have hs1 := St.init w
 refine WC.sr (WL.bx hs1 rfl (fun b2 _ hs3 => WL.al hs3 Tryz.zeroValue36 rfl rfl (fun b4 _ hs5 => WL.nil (WC.sr (WL.r 2 hs5 [1] rfl ?_)))))
 refine WL.cl Tryz.call75 rfl (k63_ p.Disk _ (okDiskR.st0 f_p.Disk hs5) ?_) ?_
 · first | assumption | rfl | omega | exact hsm
 rintro _ whs6 ⟨r7, L1_8, rfl, hs6, ho9, hd10⟩
 replace hs6 := hs5.callF hs6
 refine ⟨_, rfl, ?_⟩
 replace hs6 := St.back [_, _] hs6
 have hcp := hd10
 refine WL.r 1 hs6 [] rfl (WL.st tbk hs6 1 rfl rfl (fun _ hs11 => WL.nil (WC.sr (WL.r 1 hs11 [1] rfl (WL.st tbk hs11 0 rfl rfl (fun _ hs12 => WL.nil (WC.ret ?_)))))))
 refine retV1 rfl (resV.cellA tbk hs12 0 rfl rfl rfl rfl) ?_
 obtain ⟨L13, L14, L15, hs19, ho16, ho17, ho18⟩ := ownDiskR.op hs12 ho9
 have hs20 := ((hs19.fb b2).fb b4)
 obtain ⟨L22, hs21, ho23⟩ := ownDepotR.fl hs20 ho16 ho17 ho18
 have hs24 := ((hs21.fb b2).fb b4)
 refine ownDepotR.ret rfl (St.keep1 (hs24.fr L22)) ho23 ?_
 · exact DepotD.ext' hcp rfl rfl rfl rfl
theorem built_36 : Tryz.prog.built 36 [] = some (List.toArray [.int .i64 0, .int .i64 0, .int .i64 0, .slice none 0 0, .slice none 0 0, .slice none 0 0, .int .i64 0, .int .i64 0, .int .i64 0, .bool false]) := by kernel_rfl
theorem built_75_0_1 (x0 : Int) (x1 : ByteArray) : Tryz.prog.built 75 [(0, .int .i64 x0), (1, .string x1)] = some (List.toArray [.int .i64 x0, .string x1, .string ⟨#[]⟩, .slice none 0 0]) := by kernel_rfl
theorem k91_ (p : DepotR) (w : World) (f_p : okDepotR 549755813888 w p) (hb : totDisk p.dat.Disk ≤ 1048576) (ht : TabOk w) :
    Calls Tryz.prog 13 #[.agg #[i64 p.Disk.Room, i64 p.Disk.Fuse, i64 p.Disk.Next, .slice p.Disk.Files.A p.Disk.Files.n p.Disk.Files.c, .slice p.Disk.Kept.A p.Disk.Kept.n p.Disk.Kept.c, .slice p.Disk.Turns.A p.Disk.Turns.n p.Disk.Turns.c, i64 p.Gen, i64 p.Seq, i64 p.Size, .bool p.Stuck]] w fun e w' => ∃ r L1, e = .returned (.tuple #[.agg #[i64 r.Disk.Room, i64 r.Disk.Fuse, i64 r.Disk.Next, .slice r.Disk.Files.A r.Disk.Files.n r.Disk.Files.c, .slice r.Disk.Kept.A r.Disk.Kept.n r.Disk.Kept.c, .slice r.Disk.Turns.A r.Disk.Turns.n r.Disk.Turns.c, i64 r.Gen, i64 r.Seq, i64 r.Size, .bool r.Stuck], .int .i64 (flushC p.dat)]) ∧ St w [] L1 w' ∧ ownDepotR r L1 ∧ r.dat = flushD p.dat := by
 have nb_p_Disk_Files := f_p.Disk.Files_n
 have nl_p_Disk_Files := f_p.Disk.Files.sl.len
 have nb_p_Disk_Kept := f_p.Disk.Kept_n
 have nl_p_Disk_Kept := f_p.Disk.Kept.len
 have nb_p_Disk_Turns := f_p.Disk.Turns_n
 have nl_p_Disk_Turns := f_p.Disk.Turns.len
 have hsmD : smDisk 1048576 p.dat.Disk := totDisk_sm hb
 have hln := logName_size p.Gen
 refine enter 30 Tryz.func13 rfl Tryz.ntmps13 rfl rfl ?_
 have hs1 := St.init w
 refine WC.sr (WL.bx hs1 rfl (fun b2 _ hs3 => WL.al hs3 Tryz.zeroValue36 rfl rfl (fun b4 _ hs5 => WL.r 1 hs5 [] rfl (WL.nil (WC.seq (fun K6 hK6 => WC.block (WC.sr ?_)))))))
 refine WL.r 1 hs5 [1] rfl (WL.cl Tryz.call25 rfl (k89_ p _ (okDepotR.st0 f_p hs5) ?_ ?_) ?_)
 iterate 2 first | assumption | rfl | omega | exact tab_st ht (by assumption) | exact hb
 rintro _ whs7 ⟨rfl, hs7⟩
 replace hs7 := hs5.call0 hs7
 refine ⟨_, rfl, WL.r 2 hs7 [] rfl (WL.nil (WC.cq rfl (fun h8 qh8 => ?_) (fun h8 qh8 => ?_)))⟩
 ·have hk : depotOk p.dat = false := by have h9 := h8; simpa using h9
  obtain ⟨hdn, hc⟩ := flush_bad hk
  refine WC.sr ?_
  refine WL.val rfl rfl rfl (Run.build rfl rfl rfl rfl (built_36)) (WL.st tbk hs7 0 rfl rfl (fun _ hs9 => WL.r 1 hs9 [] rfl (WL.nil (WC.ret (ibR (tkR ?_))))))
  clear hK6
  refine retV2 rfl (resV.cellA tbk hs9 0 rfl rfl rfl rfl) (resV.tmp rfl) ?_
  obtain ⟨L14, hs13, ho15⟩ := ownDepotR.fl hs9 (OwnN.nil _ _ _) (OwnF.nil _ _) (OwnF.nil _ _)
  have hs16 := ((hs13.fb b2).fb b4)
  refine ⟨⟨⟨0, 0, 0, ⟨none, 0, 0, []⟩, ⟨none, 0, 0, []⟩, ⟨none, 0, 0, []⟩⟩, 0, 0, 0, false⟩, _, (by rw [hc]; first | done | rfl), (St.keep1 (hs16.fr L14)), ?_, ?_⟩
  · exact (by exact ho15)
  · rw [hdn]; rfl
 have hk : depotOk p.dat = true := by have h9 := h8; simpa using h9
 refine WC.r1 hs7 [1] rfl (WC.cq rfl (fun h17 qh17 => ?_) (fun h17 qh17 => ?_))
 ·have hst : p.dat.Stuck = true := by show p.Stuck = true; have h9 := h17; simpa using h9
  obtain ⟨hdn, hc⟩ := flush_st hk hst
  refine WC.sr (WL.r 1 hs7 [1] rfl (WL.cl Tryz.call42 rfl (k90_ p _ (okDepotR.st0 f_p hs7) ?_) ?_))
  · first | assumption | rfl | omega | exact tab_st ht (by assumption) | exact hb
  rintro _ whs18 ⟨r19, L1_20, rfl, hs18, ho21, hd22⟩
  replace hs18 := hs7.callF hs18
  refine ⟨_, rfl, ?_⟩
  replace hs18 := St.back [_, _] hs18
  refine WL.st tbk hs18 0 rfl rfl (fun _ hs23 => WL.r 1 hs23 [] rfl (WL.nil (WC.ret (ibR (tkR ?_)))))
  clear hK6
  refine retV2 rfl (resV.cellA tbk hs23 0 rfl rfl rfl rfl) (resV.tmp rfl) ?_
  refine ⟨r19, _, (by rw [hc]; first | done | rfl), (St.keep1 (hs23.fr L1_20)), ?_, ?_⟩
  · exact ho21
  · rw [hdn]; exact hd22
 have hst : p.dat.Stuck = false := by show p.Stuck = false; have h9 := h17; simpa using h9
 obtain ⟨hdn, hc⟩ := flush_do hk hst
 refine WC.skip (hK6 _ _ (WC.seq (fun K24 hK24 => ?_)))
 refine WC.jR2 4 5 (Value.int .i64 (doneC p.dat.Disk (syncOp (logName p.dat.Gen)))) [0, 1, 2, 3, 6, 7, 8, 9, 11, 12, 13] rfl hs7 (fun o_ L_ => ∃ r : DiskR, o_ = Obj.cells (List.toArray [i64 r.Room, i64 r.Fuse, i64 r.Next, .slice r.Files.A r.Files.n r.Files.c, .slice r.Kept.A r.Kept.n r.Kept.c, .slice r.Turns.A r.Turns.n r.Turns.c]) 34 (0, 0) ∧ ownDiskR r L_ ∧ r.dat = doneD p.dat.Disk (syncOp (logName p.dat.Gen))) ?_ ?_
 ·refine WC.rG 11 hs7 hs7 hs7 (fun _ hs25 => ?_)
  refine WG.rn [0, 1, 2, 3] hs25 [1, 1] rfl rfl (WG.all [4, 10] (by kernel_rfl) rfl (WGs.cons (i := 4) rfl rfl ?_ (WGs.cons (i := 10) rfl rfl ?_ WGs.nil)))
  ·refine WL.cl Tryz.call44 rfl (k14_ _ _ ?_) ?_
   · first | assumption | rfl | omega | exact tab_st ht (by assumption) | exact hb
   rintro _ whs26 ⟨rfl, hs26⟩
   replace hs26 := hs25.call0 hs26
   refine ⟨_, rfl, WL.nil ⟨hs26, ?_⟩⟩
   refine WG.tk 5 rfl (by kernel_rfl) rfl rfl rfl hs26 (fun w_ hs_ => (Run.build rfl rfl rfl rfl (built_75_0_1 _ _))) ?_
   refine WG.all [6, 10] (by kernel_rfl) rfl (WGs.cons (i := 6) rfl rfl ?_ (WGs.cons (i := 10) rfl rfl ?_ WGs.nil))
   ·refine WL.cl Tryz.call43 rfl (k82_ p.Disk ⟨_, _, _, ⟨_, _, _, _⟩⟩ _ (okDiskR.st0 f_p.Disk hs26) ⟨(by first | assumption | omega | exact Nat.zero_le _ | exact Nat.le_trans hln (by decide)), (by first | assumption | omega | exact Nat.zero_le _ | exact Nat.le_trans hln (by decide)), (SlF.nil _ _), (by first | assumption | omega | simp), (by first | assumption | omega | (simp; omega) | simp)⟩ ?_) ?_
    · first | assumption | rfl | omega | exact tab_st ht (by assumption) | exact hb
    rintro _ whs27 ⟨r28, L1_29, rfl, hs27, ho30, hd31⟩
    replace hs27 := hs26.callF hs27
    refine ⟨_, rfl, ?_⟩
    replace hs27 := St.back [_, _] hs27
    refine WL.nil ⟨(hs27.rm L1_29), WG.rn [7, 8, 9] (hs27.rm L1_29) [] rfl rfl (WG.o1 10 rfl rfl (WL.al hs27 Tryz.zeroValue34 rfl rfl (fun b32 _ hs33 => WL.nil ⟨(hs33.d1.rm L1_29), WG.oK rfl (WL.st tbk hs33 0 rfl rfl (fun _ hs34 => WL.nil ⟨(hs34.d1.rm L1_29), ?_⟩))⟩)))⟩
    refine WH.rn [12] (hs34.d1.rm L1_29) [] rfl rfl (WH.dn (⟨rfl, b32, _, _, ((((hs34.fb b2).fb b4).fr L1_29).fb b32), ⟨r28, rfl, ho30, by exact hd31⟩, ⟨rfl, by rfl, sbF rfl⟩⟩))
   refine WL.al hs26 Tryz.zeroValue34 rfl rfl (fun b35 _ hs36 => WL.nil ⟨hs36.d1, WG.o1 6 rfl rfl ?_⟩)
   refine WL.cl Tryz.call43 rfl (k82_ p.Disk ⟨_, _, _, ⟨_, _, _, _⟩⟩ _ (okDiskR.st0 f_p.Disk hs36) ⟨(by first | assumption | omega | exact Nat.zero_le _ | exact Nat.le_trans hln (by decide)), (by first | assumption | omega | exact Nat.zero_le _ | exact Nat.le_trans hln (by decide)), (SlF.nil _ _), (by first | assumption | omega | simp), (by first | assumption | omega | (simp; omega) | simp)⟩ ?_) ?_
   · first | assumption | rfl | omega | exact tab_st ht (by assumption) | exact hb
   rintro _ whs37 ⟨r38, L1_39, rfl, hs37, ho40, hd41⟩
   replace hs37 := hs36.callF hs37
   refine ⟨_, rfl, ?_⟩
   replace hs37 := St.back [_, _, _] hs37
   refine WL.nil ⟨(hs37.d1.rm L1_39), WG.rn [7, 8, 9] (hs37.d1.rm L1_39) [] rfl rfl (WG.oK rfl (WL.st tbk hs37 0 rfl rfl (fun _ hs42 => WL.nil ⟨(hs42.d1.rm L1_39), WH.rn [12] (hs42.d1.rm L1_39) [] rfl rfl (WH.dn (⟨rfl, b35, _, _, ((((hs42.fb b2).fb b4).fr L1_39).fb b35), ⟨r38, rfl, ho40, by exact hd41⟩, ⟨rfl, by rfl, sbF rfl⟩⟩))⟩)))⟩
  refine WL.al hs25 Tryz.zeroValue34 rfl rfl (fun b43 _ hs44 => WL.nil ⟨hs44.d1, WG.o1 4 rfl rfl ?_⟩)
  refine WL.cl Tryz.call44 rfl (k14_ _ _ ?_) ?_
  · first | assumption | rfl | omega | exact tab_st ht (by assumption) | exact hb
  rintro _ whs45 ⟨rfl, hs45⟩
  replace hs45 := hs44.call0 hs45
  refine ⟨_, rfl, WL.nil ⟨hs45.d1, ?_⟩⟩
  refine WG.tk 5 rfl (by kernel_rfl) rfl rfl rfl hs45.d1 (fun w_ hs_ => (Run.build rfl rfl rfl rfl (built_75_0_1 _ _))) ?_
  refine WG.o1 6 rfl rfl ?_
  refine WL.cl Tryz.call43 rfl (k82_ p.Disk ⟨_, _, _, ⟨_, _, _, _⟩⟩ _ (okDiskR.st0 f_p.Disk hs45) ⟨(by first | assumption | omega | exact Nat.zero_le _ | exact Nat.le_trans hln (by decide)), (by first | assumption | omega | exact Nat.zero_le _ | exact Nat.le_trans hln (by decide)), (SlF.nil _ _), (by first | assumption | omega | simp), (by first | assumption | omega | (simp; omega) | simp)⟩ ?_) ?_
  · first | assumption | rfl | omega | exact tab_st ht (by assumption) | exact hb
  rintro _ whs46 ⟨r47, L1_48, rfl, hs46, ho49, hd50⟩
  replace hs46 := hs45.callF hs46
  refine ⟨_, rfl, ?_⟩
  replace hs46 := St.back [_, _, _] hs46
  refine WL.nil ⟨(hs46.d1.rm L1_48), WG.rn [7, 8, 9] (hs46.d1.rm L1_48) [] rfl rfl (WG.oK rfl (WL.st tbk hs46 0 rfl rfl (fun _ hs51 => WL.nil ⟨(hs51.d1.rm L1_48), WH.rn [12] (hs51.d1.rm L1_48) [] rfl rfl (WH.dn (⟨rfl, b43, _, _, ((((hs51.fb b2).fb b4).fr L1_48).fb b43), ⟨r47, rfl, ho49, by exact hd50⟩, ⟨rfl, by rfl, sbF rfl⟩⟩))⟩)))⟩
 rintro b52 _ L53 _ ⟨r54, rfl, ho55, hd56⟩ hs57 _ hf58
 have hs59 := (((hs57.fb b2).fb b4).fb b52)
 have hdo := hd56
 refine hK24 _ _ (WC.sub _ hf58 (WC.sr (WL.r 2 hs59 [0] rfl (WL.st tbk hs59 2 rfl rfl (fun _ hs60 => WL.nil (WC.sr (WL.r 2 hs60 [2] rfl ?_)))))))
 refine WL.st tbk hs60 1 rfl rfl (fun _ hs61 => WL.r 1 hs61 [] rfl (WL.nil (WC.ret (retV2 rfl (resV.cellA tbk hs61 1 rfl rfl rfl rfl) (resV.tmp rfl) ?_))))
 obtain ⟨L62, L63, L64, hs68, ho65, ho66, ho67⟩ := ownDiskR.op hs61 ho55
 have hs69 := (((hs68.fb b2).fb b4).fb b52)
 obtain ⟨L71, hs70, ho72⟩ := ownDepotR.fl hs69 ho65 ho66 ho67
 have hs73 := (((hs70.fb b2).fb b4).fb b52)
 refine ⟨⟨⟨r54.Room, r54.Fuse, r54.Next, SlD.ofN ho65, SlD.of ho66, SlD.of ho67⟩, p.Gen, p.Seq, p.Size, p.Stuck⟩, _, (by rw [hc]; first | done | rfl), (St.keep1 (hs73.fr L71)), ?_, ?_⟩
 · exact (by exact ho72)
 · rw [hdn]; exact DepotD.ext' hdo rfl rfl rfl rfl
theorem k92_ (p : DepotR) (w : World) (f_p : okDepotR 549755813888 w p) (hb : totDisk p.dat.Disk ≤ 1048576) :
    Calls Tryz.prog 11 #[.agg #[i64 p.Disk.Room, i64 p.Disk.Fuse, i64 p.Disk.Next, .slice p.Disk.Files.A p.Disk.Files.n p.Disk.Files.c, .slice p.Disk.Kept.A p.Disk.Kept.n p.Disk.Kept.c, .slice p.Disk.Turns.A p.Disk.Turns.n p.Disk.Turns.c, i64 p.Gen, i64 p.Seq, i64 p.Size, .bool p.Stuck]] w fun e w' => ∃ r L1, e = .returned (.tuple #[.agg #[i64 r.Disk.Room, i64 r.Disk.Fuse, i64 r.Disk.Next, .slice r.Disk.Files.A r.Disk.Files.n r.Disk.Files.c, .slice r.Disk.Kept.A r.Disk.Kept.n r.Disk.Kept.c, .slice r.Disk.Turns.A r.Disk.Turns.n r.Disk.Turns.c, i64 r.Gen, i64 r.Seq, i64 r.Size, .bool r.Stuck], .int .i64 (flushC p.dat)]) ∧ St w [] L1 w' ∧ ownDepotR r L1 ∧ r.dat = flushD p.dat := by
 have nb_p_Disk_Files := f_p.Disk.Files_n
 have nl_p_Disk_Files := f_p.Disk.Files.sl.len
 have nb_p_Disk_Kept := f_p.Disk.Kept_n
 have nl_p_Disk_Kept := f_p.Disk.Kept.len
 have nb_p_Disk_Turns := f_p.Disk.Turns_n
 have nl_p_Disk_Turns := f_p.Disk.Turns.len
 have hsmD : smDisk 1048576 p.dat.Disk := totDisk_sm hb
 have hln := logName_size p.Gen
 have hsmB : smDepot 549755813888 p.dat := totDepot_sm (by show totDepot p.dat ≤ 549755813888; unfold totDepot; have := hb; unfold totDisk at this; omega)
 refine enter 22 Tryz.func11 rfl Tryz.ntmps11 rfl rfl ?_
 have hs1 := St.init w
 refine WC.sr (WL.bx hs1 rfl (fun b2 _ hs3 => WL.al hs3 Tryz.zeroValue36 rfl rfl (fun b4 _ hs5 => WL.r 1 hs5 [] rfl (WL.nil (WC.seq (fun K6 hK6 => WC.sr (WL.r 1 hs5 [1] rfl ?_)))))))
 refine WL.cl Tryz.call38 rfl (k84_ p _ (okDepotR.st0 f_p hs5) ?_) ?_
 · first | assumption | rfl | omega | exact hb | exact Nat.zero_le _ | exact Nat.le_trans hln (by decide)
 rintro _ whs7 ⟨rfl, hs7⟩
 replace hs7 := hs5.call0 hs7
 refine ⟨_, rfl, WL.r 1 hs7 [] rfl (WL.nil (WC.cq rfl (fun h8 qh8 => ?_) (fun h8 qh8 => ?_)))⟩
 ·have hk : depotOk p.dat = false := by have h9 := h8; simpa using h9
  obtain ⟨hdn, hc⟩ := flush_bad hk
  refine WC.sr ?_
  refine WL.val rfl rfl rfl (Run.build rfl rfl rfl rfl (built_36)) (WL.st tbk hs7 0 rfl rfl (fun _ hs9 => WL.r 1 hs9 [] rfl (WL.nil (WC.ret (tkR ?_)))))
  clear hK6
  refine retV2 rfl (resV.cellA tbk hs9 0 rfl rfl rfl rfl) (resV.tmp rfl) ?_
  obtain ⟨L14, hs13, ho15⟩ := ownDepotR.fl hs9 (OwnN.nil _ _ _) (OwnF.nil _ _) (OwnF.nil _ _)
  have hs16 := ((hs13.fb b2).fb b4)
  refine ⟨⟨⟨0, 0, 0, ⟨none, 0, 0, []⟩, ⟨none, 0, 0, []⟩, ⟨none, 0, 0, []⟩⟩, 0, 0, 0, false⟩, _, (by rw [hc]; first | done | rfl), (St.keep1 (hs16.fr L14)), ?_, ?_⟩
  · exact (by exact ho15)
  · rw [hdn]; rfl
 have hk : depotOk p.dat = true := by have h9 := h8; simpa using h9
 refine WC.skip (hK6 _ _ (WC.sr (WL.r 1 hs7 [1] rfl ?_)))
 refine WL.cl Tryz.call39 rfl (k85_ p _ (okDepotR.st0 f_p hs7) ?_) ?_
 · first | assumption | rfl | omega | exact hb | exact Nat.zero_le _ | exact Nat.le_trans hln (by decide)
 rintro _ whs17 ⟨r18, L1_19, rfl, hs17, ho20, hd21⟩
 replace hs17 := hs7.callF hs17
 refine ⟨_, rfl, ?_⟩
 replace hs17 := St.back [_, _] hs17
 have hcb : totDisk (DepotR.dat r18).Disk ≤ 1048576 := by rw [hd21]; exact hb
 have hcs : smDepot 549755813888 (DepotR.dat r18) := by rw [hd21]; exact hsmB
 refine WL.al hs17 Tryz.zeroValue36 rfl rfl (fun b22 _ hs23 => WL.st tbk hs23 0 rfl rfl (fun _ hs24 => WL.nil (WC.seq (fun K25 hK25 => WC.r1 hs24 [2] rfl ?_))))
 refine WC.cq rfl (fun h26 qh26 => ?_) (fun h26 qh26 => ?_)
 ·have hst : p.dat.Stuck = true := by show p.Stuck = true; have h9 := h26; simpa using h9
  obtain ⟨hdn, hc⟩ := flush_st hk hst
  refine WC.sr (WL.r 1 hs24 [0] rfl (WL.st tbk hs24 1 rfl rfl (fun _ hs27 => WL.r 1 hs27 [] rfl (WL.nil (WC.ret (tkR ?_))))))
  clear hK25
  refine retV2 rfl (resV.cellA tbk hs27 1 rfl rfl rfl rfl) (resV.tmp rfl) ?_
  refine ⟨r18, _, (by rw [hc]; first | done | rfl), (St.keep1 (hs27.fr L1_19)), ?_, ?_⟩
  · exact ho20
  · rw [hdn]; exact hd21
 have hst : p.dat.Stuck = false := by show p.Stuck = false; have h9 := h26; simpa using h9
 obtain ⟨hdn, hc⟩ := flush_do hk hst
 refine WC.skip (hK25 _ _ (WC.sr (WL.r 2 hs24 [2] rfl (WL.cl Tryz.call41 rfl (k17_ _ _) ?_))))
 rintro _ whs28 ⟨rfl, hs28⟩
 replace hs28 := hs24.call0 hs28
 refine ⟨_, rfl, ?_⟩
 refine WL.val rfl rfl rfl (Run.build rfl rfl rfl rfl (built_75_0_1 _ _)) ?_
 have hF29 := ((hs28.fr L1_19).fb b22)
 refine WL.cl Tryz.call40 rfl (k86_ _ r18 _ _ _ _ _ _ _ _ _ _ (St.headP hF29) ho20 (St.ownP hF29) (SlF.nil _ _) (by first | assumption | omega | simp) (St.nodupP hF29) (fun h_ => absurd h_ (by omega)) ?_ ?_ ?_ ?_ ?_) ?_
 iterate 5 first | assumption | rfl | omega | exact hb | exact Nat.zero_le _ | exact Nat.le_trans hln (by decide)
 rintro _ whs30 ⟨r31, L32, rfl, hs30, ho33, hd34⟩
 replace hs30 := St.lendP hF29 hs30
 refine ⟨_, rfl, ?_⟩
 have hs35 := (((hs30.fb b2).fb b4).fb b22)
 refine WL.r 1 hs35 [] rfl (WL.nil (WC.sr (WL.r 2 hs35 [0] rfl (WL.st tbk hs35 1 rfl rfl (fun _ hs36 => WL.r 1 hs36 [] rfl (WL.nil (WC.ret ?_)))))))
 refine retV2 rfl (resV.cellA tbk hs36 1 rfl rfl rfl rfl) (resV.tmp rfl) ?_
 have hcc : stepC (DepotR.dat r18).Disk 0 (syncOp (logName p.Gen)) = doneC p.dat.Disk (syncOp (logName p.dat.Gen)) := by rw [hd21]; rfl
 refine ⟨r31, _, (by rw [hc, ← hcc]; first | done | rfl), (St.keep1 (hs36.fr L32)), ?_, ?_⟩
 · exact ho33
 · rw [hdn]; refine (hd34).trans ?_; rw [hd21]; rfl
theorem k93_ (b_p : Nat) (p : DepotR) (L_p : Hp) (code : Int) (name : ByteArray) (w : World) (hb_p : w.heap[b_p]? = some (Obj.cells (List.toArray [i64 p.Disk.Room, i64 p.Disk.Fuse, i64 p.Disk.Next, .slice p.Disk.Files.A p.Disk.Files.n p.Disk.Files.c, .slice p.Disk.Kept.A p.Disk.Kept.n p.Disk.Kept.c, .slice p.Disk.Turns.A p.Disk.Turns.n p.Disk.Turns.c, i64 p.Gen, i64 p.Seq, i64 p.Size, .bool p.Stuck]) 36 (0, 0))) (o_p : ownDepotR p L_p) (h_p : Hh w L_p) (hd_ : (b_p :: L_p.map (·.1)).Nodup) (hb : totDisk p.dat.Disk ≤ 1048576) (hk : diskOk p.dat.Disk = true) (hnm : name.size ≤ 1048576) :
    Calls Tryz.prog 67 #[.pointer (some ⟨b_p, 0, none⟩), i64 code, .string name] w fun e w' => ∃ r L1, e = .returned (.int .i64 (gone ((p.dat.Disk, code) : SD) name).2) ∧ St w (b_p :: L_p.map (·.1)) ([(b_p, Obj.cells (List.toArray [i64 r.Disk.Room, i64 r.Disk.Fuse, i64 r.Disk.Next, .slice r.Disk.Files.A r.Disk.Files.n r.Disk.Files.c, .slice r.Disk.Kept.A r.Disk.Kept.n r.Disk.Kept.c, .slice r.Disk.Turns.A r.Disk.Turns.n r.Disk.Turns.c, i64 r.Gen, i64 r.Seq, i64 r.Size, .bool r.Stuck]) 36 (0, 0))] ++ L1) w' ∧ ownDepotR r L1 ∧ r.dat = setP p.dat (gone ((p.dat.Disk, code) : SD) name) := by
 have hsm := dep_sm hb
 have hsmD : smDisk 1048576 p.dat.Disk := totDisk_sm hb
 refine enter 30 Tryz.func67 rfl Tryz.ntmps67 rfl rfl ?_
 have hs1 := St.takeP w b_p _ L_p hb_p h_p hd_
 refine WC.r1 hs1 [] rfl (WC.sr (WL.r 5 hs1 [0] rfl (WL.cl Tryz.call54 rfl (k72_ p.Disk _ _ (ownDepotR.ok (B := 549755813888) o_p (hs1.ow L_p) (by assumption)).Disk ?_) ?_)))
 · first | assumption | rfl | omega | exact hb | exact hsm | exact hsmD | exact Nat.zero_le _ | decide
 rintro _ whs2 ⟨A3, c4, L1_5, rfl, hs2, ho6⟩
 replace hs2 := hs1.callF hs2
 refine ⟨_, rfl, ?_⟩
 replace hs2 := St.back [_] hs2
 refine WL.r 5 hs2 [] rfl (WL.nil (WC.seq (fun K7 hK7 => WC.sr (WL.r 3 hs2 [] rfl (WL.pO tbk 2 Acts.nil hs2 [] rfl rfl rfl rfl (fun g_ => trivial) (WL.nil ?_))))))
 refine WC.cq rfl (fun h8 qh8 => ?_) (fun h8 qh8 => ?_)
 ·have hgo : gone ((p.dat.Disk, code) : SD) name = ((p.dat.Disk, code) : SD) := by
    by_cases h0 : code = 0
    · unfold gone
      rw [if_neg]
      intro hx_
      have h9 := h8
      rw [show readOk p.Disk.dat name = true from by unfold readOk; rw [show diskOk p.Disk.dat = true from hk]; exact hx_, h0] at h9
      simp at h9
    · exact gone_ne h0
  refine WC.r1 hs2 [] rfl (WC.ret (tkR ?_))
  clear hK7
  refine retV1 rfl (resV.tmp rfl) (⟨p, _, (by rw [hgo]), St.keepP (L1 := L_p) ((hs2.fr L_p).fb b_p), o_p, ?_⟩)
  · rw [hgo]; rfl
 have hro : code = 0 ∧ readOk p.Disk.dat name = true := by have h9 := h8; revert h9; cases readOk p.Disk.dat name <;> simp
 have hgo : gone ((p.dat.Disk, code) : SD) name = stp ((p.dat.Disk, code) : SD) (opR name) := by
   unfold gone
   rw [if_pos]
   have h9 := hro.2
   unfold readOk at h9
   rw [show diskOk p.Disk.dat = true from hk] at h9
   exact h9
 refine WC.skip (hK7 _ _ (WC.sr (WL.r 3 hs2 [] rfl ?_)))
 refine WL.val rfl rfl rfl (Run.build rfl rfl rfl rfl (built_75_0_1 _ _)) ?_
 have hF9 := ((hs2.fr L_p).fb b_p)
 refine WL.cl Tryz.call40 rfl (k86_ _ p _ _ _ _ _ _ _ _ _ _ (St.headP hF9) o_p (St.ownP hF9) (SlF.nil _ _) (by first | assumption | omega | simp) (St.nodupP hF9) (fun h_ => absurd h_ (by omega)) ?_ ?_ ?_ ?_ ?_) ?_
 iterate 5 first | assumption | rfl | omega | exact hb | exact hsm | exact hsmD | exact Nat.zero_le _ | decide
 rintro _ whs10 ⟨r11, L12, rfl, hs10, ho13, hd14⟩
 replace hs10 := St.lendP hF9 hs10
 refine ⟨_, rfl, WL.r 1 hs10 [] rfl (WL.nil (WC.ret (retV1 rfl (resV.tmp rfl) ?_)))⟩
 refine ⟨r11, _, (by rw [hgo]; first | done | rfl), St.keepP (L1 := L12) ((hs10.fr L12).fb b_p), ho13, ?_⟩
 · rw [hgo]; exact hd14
theorem k94_ (b_p : Nat) (p : DepotR) (L_p : Hp) (code : Int) (op_Kind : Int) (op_Name : ByteArray) (op_To : ByteArray) (A_op_Data : Option Addr) (n_op_Data c_op_Data : Nat) (op_Data : List UInt8) (w : World) (hb_p : w.heap[b_p]? = some (Obj.cells (List.toArray [i64 p.Disk.Room, i64 p.Disk.Fuse, i64 p.Disk.Next, .slice p.Disk.Files.A p.Disk.Files.n p.Disk.Files.c, .slice p.Disk.Kept.A p.Disk.Kept.n p.Disk.Kept.c, .slice p.Disk.Turns.A p.Disk.Turns.n p.Disk.Turns.c, i64 p.Gen, i64 p.Seq, i64 p.Size, .bool p.Stuck]) 36 (0, 0))) (o_p : ownDepotR p L_p) (h_p : Hh w L_p) (f_op_Data : SlF encB w A_op_Data n_op_Data op_Data) (hcd : n_op_Data ≤ c_op_Data) (hd_ : (b_p :: L_p.map (·.1)).Nodup) (s_op_Data : 0 < n_op_Data → (adr A_op_Data).block ∉ (b_p :: L_p.map (·.1))) (hb : totDisk p.dat.Disk ≤ 1048576) (hsm : smDepot 549755813888 p.dat) (hz1 : op_Name.size ≤ 549755813888) (hz2 : op_To.size ≤ 549755813888) (hz3 : n_op_Data ≤ 549755813888) :
    Calls Tryz.prog 40 #[.pointer (some ⟨b_p, 0, none⟩), i64 code, .agg #[i64 op_Kind, .string op_Name, .string op_To, .slice A_op_Data n_op_Data c_op_Data]] w fun e w' => ∃ cc r L1, e = .returned (.int .i64 cc) ∧ St w (b_p :: L_p.map (·.1)) ([(b_p, Obj.cells (List.toArray [i64 r.Disk.Room, i64 r.Disk.Fuse, i64 r.Disk.Next, .slice r.Disk.Files.A r.Disk.Files.n r.Disk.Files.c, .slice r.Disk.Kept.A r.Disk.Kept.n r.Disk.Kept.c, .slice r.Disk.Turns.A r.Disk.Turns.n r.Disk.Turns.c, i64 r.Gen, i64 r.Seq, i64 r.Size, .bool r.Stuck]) 36 (0, 0))] ++ L1) w' ∧ ownDepotR r L1 ∧ r.dat = setP p.dat (stp ((p.dat.Disk, code) : SD) (⟨op_Kind, op_Name, op_To, op_Data⟩ : DiskOpD)) ∧ cc = (stp ((p.dat.Disk, code) : SD) (⟨op_Kind, op_Name, op_To, op_Data⟩ : DiskOpD)).2 :=
  (k86_ b_p p L_p code op_Kind op_Name op_To A_op_Data n_op_Data c_op_Data op_Data w hb_p o_p h_p f_op_Data hcd hd_ s_op_Data hb hsm hz1 hz2 hz3).mono (by rintro e w' ⟨r, L1, he, h1, h2, h3⟩; exact ⟨_, r, L1, he, h1, h2, h3, rfl⟩)
theorem k95_ (b_p : Nat) (p : DepotR) (L_p : Hp) (code : Int) (name : ByteArray) (w : World) (hb_p : w.heap[b_p]? = some (Obj.cells (List.toArray [i64 p.Disk.Room, i64 p.Disk.Fuse, i64 p.Disk.Next, .slice p.Disk.Files.A p.Disk.Files.n p.Disk.Files.c, .slice p.Disk.Kept.A p.Disk.Kept.n p.Disk.Kept.c, .slice p.Disk.Turns.A p.Disk.Turns.n p.Disk.Turns.c, i64 p.Gen, i64 p.Seq, i64 p.Size, .bool p.Stuck]) 36 (0, 0))) (o_p : ownDepotR p L_p) (h_p : Hh w L_p) (hd_ : (b_p :: L_p.map (·.1)).Nodup) (hb : totDisk p.dat.Disk ≤ 1048576) (hk : diskOk p.dat.Disk = true) (hnm : name.size ≤ 1048576) :
    Calls Tryz.prog 67 #[.pointer (some ⟨b_p, 0, none⟩), i64 code, .string name] w fun e w' => ∃ cc r L1, e = .returned (.int .i64 cc) ∧ St w (b_p :: L_p.map (·.1)) ([(b_p, Obj.cells (List.toArray [i64 r.Disk.Room, i64 r.Disk.Fuse, i64 r.Disk.Next, .slice r.Disk.Files.A r.Disk.Files.n r.Disk.Files.c, .slice r.Disk.Kept.A r.Disk.Kept.n r.Disk.Kept.c, .slice r.Disk.Turns.A r.Disk.Turns.n r.Disk.Turns.c, i64 r.Gen, i64 r.Seq, i64 r.Size, .bool r.Stuck]) 36 (0, 0))] ++ L1) w' ∧ ownDepotR r L1 ∧ r.dat = setP p.dat (gone ((p.dat.Disk, code) : SD) name) ∧ cc = (gone ((p.dat.Disk, code) : SD) name).2 :=
  (k93_ b_p p L_p code name w hb_p o_p h_p hd_ hb hk hnm).mono (by rintro e w' ⟨r, L1, he, h1, h2, h3⟩; exact ⟨_, r, L1, he, h1, h2, h3, rfl⟩)
structure starterD where
  depot : DepotD
  code : Int
theorem starterD.ext' {x y : starterD} (h0 : x.depot = y.depot) (h1 : x.code = y.code) : x = y := by cases x; cases y; simp_all
structure starterR where
  depot : DepotR
  code : Int
structure okstarterR (B : Nat) (w : World) (x : starterR) : Prop where
  depot : okDepotR B w x.depot
structure sepstarterR (T : List Nat) (x : starterR) : Prop where
  depot : sepDepotR T x.depot
theorem okstarterR.st0 {B : Nat} {w0 w : World} {L : Hp} {x : starterR} (h : okstarterR B w0 x) (hs : St w0 [] L w) : okstarterR B w x := ⟨okDepotR.st0 h.depot hs⟩
theorem okstarterR.st {B : Nat} {w0 w : World} {T : List Nat} {L : Hp} {x : starterR} (h : okstarterR B w0 x) (hs : St w0 T L w) (hp : sepstarterR T x) : okstarterR B w x := ⟨okDepotR.st h.depot hs hp.depot⟩
theorem okstarterR.le {B B' : Nat} {w : World} {x : starterR} (h : okstarterR B w x) (hB : B ≤ B') : okstarterR B' w x := ⟨okDepotR.le h.depot hB⟩
def starterR.dat (x : starterR) : starterD := ⟨x.depot.dat, x.code⟩
def smstarter (B : Nat) (d : starterD) : Prop := (smDepot B d.depot)
theorem okstarterR.to {B B' : Nat} {w : World} {x : starterR} (h : okstarterR B w x) (h2 : smstarter B' x.dat) : okstarterR B' w x := ⟨h.depot.to h2⟩
def ownstarterR (x : starterR) (L : Hp) : Prop := ∃ L1 L2 L3, L = L1 ++ (L2 ++ L3) ∧ OwnN encFileR ownFileR 123 (.slice x.depot.Disk.Files.A x.depot.Disk.Files.n x.depot.Disk.Files.c) x.depot.Disk.Files.xs L1 ∧ OwnF encLink 101 (.slice x.depot.Disk.Kept.A x.depot.Disk.Kept.n x.depot.Disk.Kept.c) x.depot.Disk.Kept.xs L2 ∧ OwnF encTurn 137 (.slice x.depot.Disk.Turns.A x.depot.Disk.Turns.n x.depot.Disk.Turns.c) x.depot.Disk.Turns.xs L3
theorem ownstarterR.fold {w0 w : World} {T : List Nat} {L1 L2 L3 R : Hp} (x : starterR) (hs : St w0 T (L1 ++ (L2 ++ (L3 ++ R))) w) (o1 : OwnN encFileR ownFileR 123 (.slice x.depot.Disk.Files.A x.depot.Disk.Files.n x.depot.Disk.Files.c) x.depot.Disk.Files.xs L1) (o2 : OwnF encLink 101 (.slice x.depot.Disk.Kept.A x.depot.Disk.Kept.n x.depot.Disk.Kept.c) x.depot.Disk.Kept.xs L2) (o3 : OwnF encTurn 137 (.slice x.depot.Disk.Turns.A x.depot.Disk.Turns.n x.depot.Disk.Turns.c) x.depot.Disk.Turns.xs L3) : ∃ L, St w0 T (L ++ R) w ∧ ownstarterR x L := ⟨L1 ++ (L2 ++ L3), by simpa only [List.append_assoc] using hs, L1, L2, L3, rfl, o1, o2, o3⟩
theorem ownstarterR.fl {w0 w : World} {T : List Nat} {L1 L2 L3 L S1 S2 S3 : Hp} [k1 : Fr1 L1 L S1] [k2 : Fr1 L2 S1 S2] [k3 : Fr1 L3 S2 S3] {A1 : Option Addr} {n1 c1 : Nat} {x1 : _} {A2 : Option Addr} {n2 c2 : Nat} {x2 : _} {A3 : Option Addr} {n3 c3 : Nat} {x3 : _} (hs : St w0 T L w) (o1 : OwnN encFileR ownFileR 123 (.slice A1 n1 c1) x1 L1) (o2 : OwnF encLink 101 (.slice A2 n2 c2) x2 L2) (o3 : OwnF encTurn 137 (.slice A3 n3 c3) x3 L3) : ∃ L', St w0 T (L' ++ S3) w ∧ ownstarterR ⟨⟨⟨0, 0, 0, ⟨A1, n1, c1, x1⟩, ⟨A2, n2, c2, x2⟩, ⟨A3, n3, c3, x3⟩⟩, 0, 0, 0, false⟩, 0⟩ L' := ⟨L1 ++ (L2 ++ L3), by simpa only [List.append_assoc] using hs.perm ((List.Perm.append_left L1 ((List.Perm.append_left L2 k3.pf).trans k2.pf)).trans k1.pf), L1, L2, L3, rfl, o1, o2, o3⟩
theorem ownstarterR.op {w0 w : World} {T : List Nat} {L LL R : Hp} {x : starterR} [k : Fr1 LL L R] (hs : St w0 T L w) (h : ownstarterR x LL) : ∃ L1 L2 L3, St w0 T (L1 ++ (L2 ++ (L3 ++ R))) w ∧ OwnN encFileR ownFileR 123 (.slice x.depot.Disk.Files.A x.depot.Disk.Files.n x.depot.Disk.Files.c) x.depot.Disk.Files.xs L1 ∧ OwnF encLink 101 (.slice x.depot.Disk.Kept.A x.depot.Disk.Kept.n x.depot.Disk.Kept.c) x.depot.Disk.Kept.xs L2 ∧ OwnF encTurn 137 (.slice x.depot.Disk.Turns.A x.depot.Disk.Turns.n x.depot.Disk.Turns.c) x.depot.Disk.Turns.xs L3 := by
  have hs := hs.fr LL
  obtain ⟨L1, L2, L3, rfl, h⟩ := h
  exact ⟨L1, L2, L3, by simpa only [List.append_assoc] using hs, h⟩
theorem ownstarterR.ret {w w' : World} {K : List Nat} {L1 : Hp} {e : Ending} {D : starterD} {v0 : Int} {v1 : Int} {v2 : Int} {A1 : Option Addr} {n1 c1 : Nat} {x1 : _} {A2 : Option Addr} {n2 c2 : Nat} {x2 : _} {A3 : Option Addr} {n3 c3 : Nat} {x3 : _} {v6 : Int} {v7 : Int} {v8 : Int} {v9 : Bool} {v10 : Int} (he : e = .returned (.agg (List.toArray [i64 v0, i64 v1, i64 v2, .slice A1 n1 c1, .slice A2 n2 c2, .slice A3 n3 c3, i64 v6, i64 v7, i64 v8, .bool v9, i64 v10]))) (hs : St w K L1 w') (ho : ownstarterR ⟨⟨⟨0, 0, 0, ⟨A1, n1, c1, x1⟩, ⟨A2, n2, c2, x2⟩, ⟨A3, n3, c3, x3⟩⟩, 0, 0, 0, false⟩, 0⟩ L1) (hd : (⟨⟨⟨v0, v1, v2, ⟨A1, n1, c1, x1⟩, ⟨A2, n2, c2, x2⟩, ⟨A3, n3, c3, x3⟩⟩, v6, v7, v8, v9⟩, v10⟩ : starterR).dat = D) : ∃ r L1, e = .returned (.agg #[i64 r.depot.Disk.Room, i64 r.depot.Disk.Fuse, i64 r.depot.Disk.Next, .slice r.depot.Disk.Files.A r.depot.Disk.Files.n r.depot.Disk.Files.c, .slice r.depot.Disk.Kept.A r.depot.Disk.Kept.n r.depot.Disk.Kept.c, .slice r.depot.Disk.Turns.A r.depot.Disk.Turns.n r.depot.Disk.Turns.c, i64 r.depot.Gen, i64 r.depot.Seq, i64 r.depot.Size, .bool r.depot.Stuck, i64 r.code]) ∧ St w K L1 w' ∧ ownstarterR r L1 ∧ r.dat = D := ⟨⟨⟨⟨v0, v1, v2, ⟨A1, n1, c1, x1⟩, ⟨A2, n2, c2, x2⟩, ⟨A3, n3, c3, x3⟩⟩, v6, v7, v8, v9⟩, v10⟩, L1, he, hs, ho, hd⟩
theorem ownstarterR.retp {R : Hp} {val : Value} {b t : Nat} {w w' : World} {K : List Nat} {L1 : Hp} {e : Ending} {D : starterD} {v0 : Int} {v1 : Int} {v2 : Int} {A1 : Option Addr} {n1 c1 : Nat} {x1 : _} {A2 : Option Addr} {n2 c2 : Nat} {x2 : _} {A3 : Option Addr} {n3 c3 : Nat} {x3 : _} {v6 : Int} {v7 : Int} {v8 : Int} {v9 : Bool} {v10 : Int} (he : e = .returned val) (hs : St w K ((b, .cells (List.toArray [i64 v0, i64 v1, i64 v2, .slice A1 n1 c1, .slice A2 n2 c2, .slice A3 n3 c3, i64 v6, i64 v7, i64 v8, .bool v9, i64 v10]) t (0, 0)) :: (L1 ++ R)) w') (ho : ownstarterR ⟨⟨⟨0, 0, 0, ⟨A1, n1, c1, x1⟩, ⟨A2, n2, c2, x2⟩, ⟨A3, n3, c3, x3⟩⟩, 0, 0, 0, false⟩, 0⟩ L1) (hd : (⟨⟨⟨v0, v1, v2, ⟨A1, n1, c1, x1⟩, ⟨A2, n2, c2, x2⟩, ⟨A3, n3, c3, x3⟩⟩, v6, v7, v8, v9⟩, v10⟩ : starterR).dat = D) : ∃ r L1, e = .returned val ∧ St w K ([(b, .cells (List.toArray [i64 r.depot.Disk.Room, i64 r.depot.Disk.Fuse, i64 r.depot.Disk.Next, .slice r.depot.Disk.Files.A r.depot.Disk.Files.n r.depot.Disk.Files.c, .slice r.depot.Disk.Kept.A r.depot.Disk.Kept.n r.depot.Disk.Kept.c, .slice r.depot.Disk.Turns.A r.depot.Disk.Turns.n r.depot.Disk.Turns.c, i64 r.depot.Gen, i64 r.depot.Seq, i64 r.depot.Size, .bool r.depot.Stuck, i64 r.code]) t (0, 0))] ++ L1) w' ∧ ownstarterR r L1 ∧ r.dat = D := ⟨⟨⟨⟨v0, v1, v2, ⟨A1, n1, c1, x1⟩, ⟨A2, n2, c2, x2⟩, ⟨A3, n3, c3, x3⟩⟩, v6, v7, v8, v9⟩, v10⟩, L1, he, St.keepP hs, ho, hd⟩
theorem ownstarterR.open_ {w0 w : World} {T : List Nat} {L R : Hp} {x : starterR} (hs : St w0 T (L ++ R) w) (h : ownstarterR x L) : ∃ L1 L2 L3, St w0 T (L1 ++ (L2 ++ (L3 ++ R))) w ∧ OwnN encFileR ownFileR 123 (.slice x.depot.Disk.Files.A x.depot.Disk.Files.n x.depot.Disk.Files.c) x.depot.Disk.Files.xs L1 ∧ OwnF encLink 101 (.slice x.depot.Disk.Kept.A x.depot.Disk.Kept.n x.depot.Disk.Kept.c) x.depot.Disk.Kept.xs L2 ∧ OwnF encTurn 137 (.slice x.depot.Disk.Turns.A x.depot.Disk.Turns.n x.depot.Disk.Turns.c) x.depot.Disk.Turns.xs L3 := by
  obtain ⟨L1, L2, L3, rfl, h⟩ := h
  exact ⟨L1, L2, L3, by simpa only [List.append_assoc] using hs, h⟩
theorem ownstarterR.len {x : starterR} {L : Hp} (h : ownstarterR x L) : x.depot.Disk.Files.xs.length = x.depot.Disk.Files.n ∧ x.depot.Disk.Kept.xs.length = x.depot.Disk.Kept.n ∧ x.depot.Disk.Turns.xs.length = x.depot.Disk.Turns.n := by
  obtain ⟨L1, L2, L3, rfl, o1, o2, o3⟩ := h
  exact ⟨(OwnN.len_ o1), (OwnF.len_ o2), (OwnF.len_ o3)⟩
theorem ownstarterR.ok {B : Nat} {w : World} {x : starterR} {L : Hp} (h : ownstarterR x L) (hh : ∀ p, p ∈ L → w.heap[p.1]? = some p.2) (h2 : smstarter B x.dat) : okstarterR B w x := by
  obtain ⟨L1, L2, L3, rfl, o1, o2, o3⟩ := h
  simp only [List.mem_append] at hh
  exact ⟨⟨⟨OwnN.ok o1 (fun p hp => hh p (.inl hp)) (fun y Li hy h3 hl => h3.ok hl (h2.2.1 _ (List.mem_map_of_mem hy))), OwnN.cap o1, (by have := OwnN.len_ o1; have h3 := h2.1; simp only [DepotR.dat, DiskR.dat, smDepot, smDisk, smstarter, starterR.dat, List.length_map] at h3; omega), SlF.ofOwn o2 (fun p hp => hh p (.inr (.inl hp))), OwnF.cap o2, (by have := OwnF.len_ o2; have h3 := h2.2.2.1; simp only [DepotR.dat, DiskR.dat, smDepot, smDisk, smstarter, starterR.dat] at h3; omega), (h2.2.2.2.1), SlF.ofOwn o3 (fun p hp => hh p (.inr (.inr (hp)))), OwnF.cap o3, (by have := OwnF.len_ o3; have h3 := h2.2.2.2.2.1; simp only [DepotR.dat, DiskR.dat, smDepot, smDisk, smstarter, starterR.dat] at h3; omega), (h2.2.2.2.2.2)⟩⟩⟩
def sd (q : starterD) : SD := (q.depot.Disk, q.code)
def setS (q : starterD) (s : SD) : starterD := ⟨{ q.depot with Disk := s.1 }, s.2⟩
theorem set_set (q : starterD) (s t : SD) : setS (setS q s) t = setS q t := rfl
theorem start_sm {q : starterD} (h : totDisk q.depot.Disk ≤ 1048576) : smstarter 549755813888 q :=
  (totDepot_sm (B := 549755813888) (d := q.depot) (by unfold totDepot; unfold totDisk at h; omega) :)
theorem k96_ (A_b : Option Addr) (n_b c_b : Nat) (b : List UInt8) (w : World) (f_b : SlF encB w A_b n_b b) (hn : n_b ≤ 1099511627776) :
    Calls Tryz.prog 157 #[.slice A_b n_b c_b] w fun e w' => e = .returned (.int .i64 (crcN b : Nat)) ∧ St w [] [] w' := by
 have hl := f_b.len
 refine enter 32 Tryz.func157 rfl Tryz.ntmps157 rfl rfl ?_
 have hs1 := St.init w
 refine WC.r1 hs1 [] rfl (WC.r1 hs1 [] rfl (WC.seq (fun K2 hK2 => WC.r1 hs1 [] rfl (WC.block ?_))))
 refine WC.lS [2, 7, 8] rfl hs1 (fun k_ f w' => ∃ (i : Nat), k_ = n_b - i ∧ (i ≤ n_b) ∧ Sub [(9, .int .i64 i), (3, .int .u32 (crcF (b.take i) : Nat))] f) ((fun (i : Nat) => n_b - i) (0)) ?_ ?_
 ·refine ⟨0, rfl, ?_, ⟨rfl, ?_, trivial⟩⟩
  · exact Nat.zero_le _
  · rfl
 clear hs1
 rintro _ f w ⟨i, rfl, p0, hG⟩ hF hs3
 refine WC.sub _ (hG.app hF) ?_
 clear hG hF
 refine WC.r1 hs3 [] rfl (WC.seq (fun K4 hK4 => ?_))
 refine WC.cq rfl (fun h5 qh5 => ?_) (fun h5 qh5 => ?_)
 ·have hY : (crcF (b.take i) ^^^ (gat encB b i).toNat) < 4294967296 := xor_lt (crcF_lt _) (by have := (gat encB b i).toNat_lt; omega)
  refine WC.skip (hK4 _ _ (WC.seq (fun K6 hK6 => WC.block (WC.sr ?_))))
  refine WL.val rfl rfl rfl (Run.idxN Tryz.runUnderlying43 Tryz.sizeOf5 rfl rfl rfl ?_ ?_ ?_) ?_
  · exact SlF.some_ (SlF.st0 f_b hs3)
  · omega
  · omega
  refine WL.val rfl rfl rfl (Run.load Tryz.isAgg5 rfl rfl (SlF.one1 (SlF.st0 f_b hs3) ?_ rfl)) ?_
  · omega
  refine WL.r 1 hs3 [] rfl (WL.nil (WC.sr (WL.r 2 hs3 [] rfl (WL.val rfl rfl rfl (Run.asN ((gat encB b i).toNat) (Run.conv Tryz.runUnderlying5 Tryz.runUnderlying194 rfl rfl) ?_) ?_))))
  · exact wrap_u32 (by have := (gat encB b i).toNat_lt; omega)
  refine WL.val rfl rfl rfl (Run.xorU (crcF (b.take i)) ((gat encB b i).toNat) rfl rfl rfl ?_ ?_) ?_
  · first | exact crcF_lt _ | exact hY | exact crcK_lt hY | decide | (have h9 := crcK_lt (k := j) hY; omega) | (have h9 := (gat encB b i).toNat_lt; omega)
  · first | exact crcF_lt _ | exact hY | exact crcK_lt hY | decide | (have h9 := crcK_lt (k := j) hY; omega) | (have h9 := (gat encB b i).toNat_lt; omega)
  refine WL.r 1 hs3 [] rfl (WL.nil (WC.r1 hs3 [] rfl (WC.block (WC.lS [2, 5, 7, 8, 9, 10, 11, 12, 13, 14, 15, 16] rfl hs3 (fun k_ f w' => ∃ (j : Nat), k_ = 8 - j ∧ (j ≤ 8) ∧ Sub [(17, .int .i64 j), (3, .int .u32 (crcK j (crcF (b.take i) ^^^ (gat encB b i).toNat) : Nat))] f) ((fun (j : Nat) => 8 - j) (0)) ?_ ?_))))
  ·refine ⟨0, rfl, ?_, ⟨rfl, ?_, trivial⟩⟩
   · exact Nat.zero_le _
   · rfl
  clear hs3
  rintro _ f w ⟨j, rfl, r0, hG⟩ hF hs7
  refine WC.sub _ (hG.app hF) ?_
  clear hG hF
  refine WC.r1 hs7 [] rfl (WC.seq (fun K8 hK8 => ?_))
  refine WC.cq rfl (fun h9 qh9 => ?_) (fun h9 qh9 => ?_)
  ·refine WC.skip (hK8 _ _ (WC.seq (fun K10 hK10 => WC.block (WC.sr (WL.r 1 hs7 [] rfl ?_)))))
   refine WL.val rfl rfl rfl (Run.and1 (crcK j (crcF (b.take i) ^^^ (gat encB b i).toNat)) rfl rfl rfl ?_) ?_
   · first | exact crcF_lt _ | exact hY | exact crcK_lt hY | decide | (have h9 := crcK_lt (k := j) hY; omega) | (have h9 := (gat encB b i).toNat_lt; omega)
   refine WL.r 2 hs7 [] rfl (WL.nil (WC.sr (WL.r 1 hs7 [] rfl (WL.val rfl rfl rfl (Run.shr1 (crcK j (crcF (b.take i) ^^^ (gat encB b i).toNat)) rfl rfl rfl) (WL.r 1 hs7 [] rfl (WL.nil (WC.r1 hs7 [] rfl ?_)))))))
   refine WC.cq rfl (fun h11 qh11 => ?_) (fun h11 qh11 => ?_)
   ·have hod : crcK j (crcF (b.take i) ^^^ (gat encB b i).toNat) % 2 = 1 := by have h9 := h11; simp at h9; omega
    refine WC.region (WL.r 1 hs7 [] rfl (WL.val rfl rfl rfl (Run.xorU (crcK j (crcF (b.take i) ^^^ (gat encB b i).toNat) / 2) (2197175160) rfl rfl rfl ?_ ?_) ?_))
    · first | exact crcF_lt _ | exact hY | exact crcK_lt hY | decide | (have h9 := crcK_lt (k := j) hY; omega) | (have h9 := (gat encB b i).toNat_lt; omega)
    · first | exact crcF_lt _ | exact hY | exact crcK_lt hY | decide | (have h9 := crcK_lt (k := j) hY; omega) | (have h9 := (gat encB b i).toNat_lt; omega)
    refine WL.r 1 hs7 [] rfl (WL.nil (hK10 _ _ (WC.region (WL.r 2 hs7 [] rfl (WL.nil (tkN ?_))))))
    refine ⟨sbF rfl, hs7, _, ?_, j + 1, rfl, ?_, ⟨rfl, ?_, trivial⟩⟩
    · omega
    · omega
    · (rw [crcK_succ]; unfold crcS; first | (rw [if_pos hod]; first | done | rfl) | (rw [if_neg hod]; first | done | rfl))
   have hod : ¬ crcK j (crcF (b.take i) ^^^ (gat encB b i).toNat) % 2 = 1 := by have h9 := h11; simp at h9; omega
   refine WC.skip (hK10 _ _ (WC.region (WL.r 2 hs7 [] rfl (WL.nil (tkN ?_)))))
   refine ⟨sbF rfl, hs7, _, ?_, j + 1, rfl, ?_, ⟨rfl, ?_, trivial⟩⟩
   · omega
   · omega
   · (rw [crcK_succ]; unfold crcS; first | (rw [if_pos hod]; first | done | rfl) | (rw [if_neg hod]; first | done | rfl))
  refine WC.exit (hK6 _ _ (WC.region (WL.r 2 hs7 [] rfl (WL.nil (tkN ?_)))))
  refine ⟨sbF rfl, hs7, _, ?_, i + 1, rfl, ?_, ⟨rfl, ?_, trivial⟩⟩
  · omega
  · omega
  · rw [crcF_take (by omega)]; unfold crcB; rw [show j = 8 from by omega]; first | done | rfl
 refine WC.exit (hK2 _ _ (WC.sr (WL.r 1 hs3 [] rfl ?_)))
 refine WL.val rfl rfl rfl (Run.notU (crcF (b.take i)) rfl rfl ?_) ?_
 · first | exact crcF_lt _ | exact hY | exact crcK_lt hY | decide | (have h9 := crcK_lt (k := j) hY; omega) | (have h9 := (gat encB b i).toNat_lt; omega)
 refine WL.val rfl rfl rfl (Run.asN ((4294967295 ^^^ crcF (b.take i))) (Run.conv Tryz.runUnderlying194 Tryz.runUnderlying3 rfl rfl) ?_) ?_
 · exact wrap_in (by constructor <;> (have h9 := xor_lt (a := 4294967295) (by decide) (crcF_lt (b.take i)); omega))
 refine WL.r 1 hs3 [] rfl (WL.nil (WC.ret (rtv rfl rfl hs3 ?_)))
 rw [List.take_of_length_le (by omega)]; unfold crcN; rw [Nat.xor_comm]
theorem k97_ (A_b : Option Addr) (n_b c_b : Nat) (b : List UInt8) (w : World) (f_b : SlF encB w A_b n_b b) (hn : n_b ≤ 1099511627776) :
    Calls Tryz.prog 96 #[.slice A_b n_b c_b] w fun e w' => e = .returned (.int .i64 (crcN b : Nat)) ∧ St w [] [] w' := by
 have hl := f_b.len
 refine enter 34 Tryz.func96 rfl Tryz.ntmps96 rfl rfl ?_
 have hs1 := St.init w
 refine WC.r1 hs1 [] rfl (WC.r1 hs1 [] rfl (WC.seq (fun K2 hK2 => WC.r1 hs1 [] rfl (WC.block ?_))))
 refine WC.lS [0, 2] rfl hs1 (fun k_ f w' => ∃ (i : Nat), k_ = n_b - i ∧ (i ≤ n_b) ∧ Sub [(4, .int .i64 i), (3, .int .i64 (crcF (b.take i) : Nat))] f) ((fun (i : Nat) => n_b - i) (0)) ?_ ?_
 ·refine ⟨0, rfl, ?_, ⟨rfl, ?_, trivial⟩⟩
  · exact Nat.zero_le _
  · rfl
 clear hs1
 rintro _ f w ⟨i, rfl, p0, hG⟩ hF hs3
 refine WC.sub _ (hG.app hF) ?_
 clear hG hF
 refine WC.seq (fun K4 hK4 => WC.r1 hs3 [] rfl ?_)
 refine WC.cq rfl (fun h5 qh5 => ?_) (fun h5 qh5 => ?_)
 ·have hY : (crcF (b.take i) ^^^ (gat encB b i).toNat) < 4294967296 := xor_lt (crcF_lt _) (by have := (gat encB b i).toNat_lt; omega)
  refine WC.skip (hK4 _ _ (WC.seq (fun K6 hK6 => WC.block (WC.sr (WL.r 3 hs3 [] rfl ?_)))))
  refine WL.val rfl rfl rfl (Run.idxN Tryz.runUnderlying43 Tryz.sizeOf5 rfl rfl rfl ?_ ?_ ?_) ?_
  · exact SlF.some_ (SlF.st0 f_b hs3)
  · omega
  · omega
  refine WL.val rfl rfl rfl (Run.load Tryz.isAgg5 rfl rfl (SlF.one1 (SlF.st0 f_b hs3) ?_ rfl)) ?_
  · omega
  refine WL.r 1 hs3 [] rfl (WL.val rfl rfl rfl (Run.asN ((crcF (b.take i) ^^^ (gat encB b i).toNat)) (Run.xor rfl rfl rfl ?_ ?_ ?_ ?_) ?_) ?_)
  · first | omega | (have h9 := crcK_lt (k := j) hY; omega) | (have h9 := crcF_lt (b.take i); omega) | (have h9 := (gat encB b i).toNat_lt; omega)
  · first | omega | (have h9 := crcK_lt (k := j) hY; omega) | (have h9 := crcF_lt (b.take i); omega) | (have h9 := (gat encB b i).toNat_lt; omega)
  · first | omega | (have h9 := crcK_lt (k := j) hY; omega) | (have h9 := crcF_lt (b.take i); omega) | (have h9 := (gat encB b i).toNat_lt; omega)
  · first | omega | (have h9 := crcK_lt (k := j) hY; omega) | (have h9 := crcF_lt (b.take i); omega) | (have h9 := (gat encB b i).toNat_lt; omega)
  · (simp only [Int.toNat_natCast])
  refine WL.r 1 hs3 [] rfl (WL.nil (WC.r1 hs3 [] rfl (WC.block (WC.lS [0, 2, 4, 7, 8, 9, 10, 13, 14, 15, 16, 17, 18, 19] rfl hs3 (fun k_ f w' => ∃ (j : Nat), k_ = 8 - j ∧ (j ≤ 8) ∧ Sub [(5, .int .i64 j), (3, .int .i64 (crcK j (crcF (b.take i) ^^^ (gat encB b i).toNat) : Nat))] f) ((fun (j : Nat) => 8 - j) (0)) ?_ ?_))))
  ·refine ⟨0, rfl, ?_, ⟨rfl, ?_, trivial⟩⟩
   · exact Nat.zero_le _
   · rfl
  clear hs3
  rintro _ f w ⟨j, rfl, r0, hG⟩ hF hs7
  refine WC.sub _ (hG.app hF) ?_
  clear hG hF
  refine WC.seq (fun K8 hK8 => WC.r1 hs7 [] rfl ?_)
  refine WC.cq rfl (fun h9 qh9 => ?_) (fun h9 qh9 => ?_)
  ·refine WC.skip (hK8 _ _ (WC.seq (fun K10 hK10 => WC.block (WC.sr (WL.r 1 hs7 [] rfl ?_)))))
   refine WL.val rfl rfl rfl (Run.asN ((crcK j (crcF (b.take i) ^^^ (gat encB b i).toNat) % 2)) (Run.rem rfl rfl rfl ?_ ?_) ?_) ?_
   · first | omega | (have h9 := crcK_lt (k := j) hY; omega) | (have h9 := crcF_lt (b.take i); omega) | (have h9 := (gat encB b i).toNat_lt; omega)
   · first | omega | (have h9 := crcK_lt (k := j) hY; omega) | (have h9 := crcF_lt (b.take i); omega) | (have h9 := (gat encB b i).toNat_lt; omega)
   · omega
   refine WL.r 1 hs7 [] rfl (WL.nil (WC.sr (WL.r 1 hs7 [] rfl (WL.val rfl rfl rfl (Run.asN ((crcK j (crcF (b.take i) ^^^ (gat encB b i).toNat) / 2)) (Run.quo rfl rfl rfl ?_ ?_ ?_) ?_) ?_))))
   · first | omega | (have h9 := crcK_lt (k := j) hY; omega) | (have h9 := crcF_lt (b.take i); omega) | (have h9 := (gat encB b i).toNat_lt; omega)
   · first | omega | (have h9 := crcK_lt (k := j) hY; omega) | (have h9 := crcF_lt (b.take i); omega) | (have h9 := (gat encB b i).toNat_lt; omega)
   · first | omega | (have h9 := crcK_lt (k := j) hY; omega) | (have h9 := crcF_lt (b.take i); omega) | (have h9 := (gat encB b i).toNat_lt; omega)
   · omega
   refine WL.r 1 hs7 [] rfl (WL.nil (WC.r1 hs7 [] rfl (WC.cq rfl (fun h11 qh11 => ?_) (fun h11 qh11 => ?_))))
   ·have hod : crcK j (crcF (b.take i) ^^^ (gat encB b i).toNat) % 2 = 1 := by have h9 := h11; simp at h9; omega
    refine WC.region (WL.r 1 hs7 [] rfl (WL.val rfl rfl rfl (Run.asN (((crcK j (crcF (b.take i) ^^^ (gat encB b i).toNat) / 2) ^^^ 2197175160)) (Run.xor rfl rfl rfl ?_ ?_ ?_ ?_) ?_) ?_))
    · first | omega | (have h9 := crcK_lt (k := j) hY; omega) | (have h9 := crcF_lt (b.take i); omega) | (have h9 := (gat encB b i).toNat_lt; omega)
    · first | omega | (have h9 := crcK_lt (k := j) hY; omega) | (have h9 := crcF_lt (b.take i); omega) | (have h9 := (gat encB b i).toNat_lt; omega)
    · first | omega | (have h9 := crcK_lt (k := j) hY; omega) | (have h9 := crcF_lt (b.take i); omega) | (have h9 := (gat encB b i).toNat_lt; omega)
    · first | omega | (have h9 := crcK_lt (k := j) hY; omega) | (have h9 := crcF_lt (b.take i); omega) | (have h9 := (gat encB b i).toNat_lt; omega)
    · (simp only [Int.toNat_natCast]; rfl)
    refine WL.r 1 hs7 [] rfl (WL.nil (hK10 _ _ (WC.region ?_)))
    refine WL.run tbk 3 hs7 [] rfl ⟨by first | omega | (have h9 := crcK_lt (k := j) hY; omega) | (have h9 := crcF_lt (b.take i); omega) | (have h9 := (gat encB b i).toNat_lt; omega), trivial⟩ (WL.nil (tkN (⟨sbF rfl, hs7, _, ?_, j + 1, rfl, ?_, ⟨rfl, ?_, trivial⟩⟩)))
    · omega
    · omega
    · (refine congrArg some (congrArg (Value.int _) ?_); rw [crcK_succ]; unfold crcS; first | (rw [if_pos hod]; first | done | rfl | omega) | (rw [if_neg hod]; first | done | rfl | omega))
   have hod : ¬ crcK j (crcF (b.take i) ^^^ (gat encB b i).toNat) % 2 = 1 := by have h9 := h11; simp at h9; omega
   refine WC.skip (hK10 _ _ (WC.region ?_))
   refine WL.run tbk 3 hs7 [] rfl ⟨by first | omega | (have h9 := crcK_lt (k := j) hY; omega) | (have h9 := crcF_lt (b.take i); omega) | (have h9 := (gat encB b i).toNat_lt; omega), trivial⟩ (WL.nil (tkN (⟨sbF rfl, hs7, _, ?_, j + 1, rfl, ?_, ⟨rfl, ?_, trivial⟩⟩)))
   · omega
   · omega
   · (refine congrArg some (congrArg (Value.int _) ?_); rw [crcK_succ]; unfold crcS; first | (rw [if_pos hod]; first | done | rfl | omega) | (rw [if_neg hod]; first | done | rfl | omega))
  refine WC.exit (hK6 _ _ (WC.region ?_))
  refine WL.run tbk 3 hs7 [] rfl ⟨by first | omega | (have h9 := crcK_lt (k := j) hY; omega) | (have h9 := crcF_lt (b.take i); omega) | (have h9 := (gat encB b i).toNat_lt; omega), trivial⟩ (WL.nil (tkN (⟨sbF rfl, hs7, _, ?_, i + 1, rfl, ?_, ⟨rfl, ?_, trivial⟩⟩)))
  · omega
  · omega
  · rw [crcF_take (by omega)]; unfold crcB; rw [show j = 8 from by omega]; first | done | rfl
 refine WC.exit (hK2 _ _ (WC.sr (WL.r 1 hs3 [] rfl ?_)))
 refine WL.val rfl rfl rfl (Run.asN ((crcF (b.take i) ^^^ 4294967295)) (Run.xor rfl rfl rfl ?_ ?_ ?_ ?_) ?_) ?_
 · first | omega | (have h9 := crcK_lt (k := j) hY; omega) | (have h9 := crcF_lt (b.take i); omega) | (have h9 := (gat encB b i).toNat_lt; omega)
 · first | omega | (have h9 := crcK_lt (k := j) hY; omega) | (have h9 := crcF_lt (b.take i); omega) | (have h9 := (gat encB b i).toNat_lt; omega)
 · first | omega | (have h9 := crcK_lt (k := j) hY; omega) | (have h9 := crcF_lt (b.take i); omega) | (have h9 := (gat encB b i).toNat_lt; omega)
 · first | omega | (have h9 := crcK_lt (k := j) hY; omega) | (have h9 := crcF_lt (b.take i); omega) | (have h9 := (gat encB b i).toNat_lt; omega)
 · (simp only [Int.toNat_natCast]; rfl)
 refine WL.r 1 hs3 [] rfl (WL.nil (WC.ret (rtv rfl rfl hs3 ?_)))
 rw [List.take_of_length_le (by omega)]; rfl
theorem k98_ (n : Nat) (w : World) (hn : n ≤ 268435456) :
    Calls Tryz.prog 179 #[.slice none 0 0, .int .i64 n] w fun e w' => ∃ A c L1, e = .returned (.slice A 0 c) ∧ St w [] L1 w' ∧ OwnF encB 5 (.slice A 0 c) [] L1 := by
 refine enter 27 Tryz.func179 rfl Tryz.ntmps179 rfl rfl ?_
 have hs1 := St.init w
 refine WC.r1 hs1 [] rfl (WC.seq (fun K2 hK2 => WC.r1 hs1 [] rfl (WC.condF rfl (by simp) (WC.skip (hK2 _ _ (WC.seq (fun K4 hK4 => WC.r1 hs1 [] rfl ?_)))))))
 refine WC.r1 hs1 [] rfl (WC.cD rfl (fun qh5 => ?_) (fun qh5 => ?_))
 ·refine WC.region (WL.r 3 hs1 [] rfl (WL.val rfl rfl rfl (Run.sliceH0 (0) Tryz.runUnderlying43 Tryz.sizeOf5 rfl rfl rfl ?_ ?_) ?_))
  · first | rfl | (omega)
  · first | (exact Nat.zero_le _) | (omega)
  refine WL.r 1 hs1 [] rfl (WL.appendZ (F := encB) (n) hs1 Tryz.underlying43 Tryz.underlying3 inf5 rfl rfl rfl rfl rfl rfl rfl rfl rfl rfl ?_ ?_ ?_ (fun A9 c10 L6 whs7 _ hs7 ho8 => ?_))
  · first | rfl | (omega)
  · omega
  · omega
  refine WL.r 2 hs7 [] rfl (WL.val rfl rfl rfl (Run.sliceH0 (0) Tryz.runUnderlying43 Tryz.sizeOf5 rfl rfl rfl ?_ ?_) ?_)
  · first | rfl | (omega)
  · first | (exact Nat.zero_le _) | (omega)
  refine WL.r 1 hs7 [] rfl (WL.nil (hK4 _ _ (WC.r1 hs7 [] rfl (WC.ret (retV1 rfl (resV.tmp rfl) (⟨_, _, _, rfl, (St.keep1 hs7), ho8⟩))))))
 refine WC.skip (hK4 _ _ (WC.r1 hs1 [] rfl (WC.ret (retV1 rfl (resV.tmp rfl) (⟨_, _, _, rfl, hs1.nil, OwnF.nil encB 5⟩)))))
theorem k99_ (A_s : Option Addr) (n_s c_s : Nat) (hs : List HdrD) (xss : List (List UInt8)) (w : World) (f_s : SlF encH w A_s n_s hs) (hf : ∀ i, i < n_s → SlF encB w (gat encH hs i).A (gat encH hs i).n (xss.getD i [])) (hl : xss.length = n_s) (ht : xss.flatten.length ≤ 268435456) (hn : n_s ≤ 1000) :
    Calls Tryz.prog 158 #[.slice A_s n_s c_s] w fun e w' => ∃ A c L1, e = .returned (.slice A (xss.flatten).length c) ∧ St w [] L1 w' ∧ OwnF encB 5 (.slice A (xss.flatten).length c) (xss.flatten) L1 := by
 refine enter 36 Tryz.func158 rfl Tryz.ntmps158 rfl rfl ?_
 have hs1 := St.init w
 refine WC.r1 hs1 [] rfl (WC.r1 hs1 [] rfl (WC.seq (fun K2 hK2 => WC.r1 hs1 [] rfl (WC.block ?_))))
 refine WC.lS [0, 2, 9, 10] rfl hs1 (fun k_ f w' => ∃ (i : Nat) (q : Int), k_ = n_s - i ∧ (i ≤ n_s) ∧ (q = (((xss.take i).flatten).length : Int)) ∧ Sub [(11, .int .i64 i), (3, .int .i64 q)] f) ((fun (i : Nat) (q : Int) => n_s - i) (0) (0)) ?_ ?_
 ·refine ⟨0, 0, rfl, ?_, ?_, ⟨rfl, rfl, trivial⟩⟩
  · exact Nat.zero_le _
  · simp
 clear hs1
 rintro _ f w ⟨i, q, rfl, p0, p1, hG⟩ hF hs3
 refine WC.sub _ (hG.app hF) ?_
 clear hG hF
 have hle := flat_le (xss := xss) (i := i)
 have hle2 := flat_le (xss := xss) (i := i + 1)
 refine WC.r1 hs3 [] rfl (WC.seq (fun K4 hK4 => ?_))
 refine WC.cD rfl (fun qh5 => ?_) (fun qh5 => ?_)
 ·have hli := (hf i (by omega)).len
  have hft := congrArg List.length (flat_take (xss := xss) (i := i) (by omega))
  simp only [List.length_append] at hft
  refine WC.skip (hK4 _ _ (WC.seq (fun K6 hK6 => WC.block (WC.sr ?_))))
  refine WL.val rfl rfl rfl (Run.idxN Tryz.runUnderlying195 Tryz.sizeOf43 rfl rfl rfl ?_ ?_ ?_) ?_
  · exact SlF.some_ (SlF.st0 f_s hs3)
  · omega
  · omega
  refine WL.val rfl rfl rfl (Run.load Tryz.isAgg43 rfl rfl (SlF.one1 (SlF.st0 f_s hs3) ?_ rfl)) ?_
  · omega
  refine WL.r 1 hs3 [] rfl (WL.nil (WC.r1 hs3 [] rfl (WC.r1 hs3 [] rfl ?_)))
  refine WC.condF rfl (by simp; omega) (WC.skip (hK6 _ _ (WC.region (WL.r 2 hs3 [] rfl (WL.nil (tkN ?_))))))
  refine ⟨sbF rfl, hs3, _, ?_, i + 1, _, rfl, ?_, ?_, ⟨rfl, rfl, trivial⟩⟩
  · omega
  · omega
  · rw [flat_take (by omega), List.length_append, p1, (hf i (by omega)).len]; simp
 have hqf : xss.take i = xss := List.take_of_length_le (by omega)
 rw [hqf] at p1
 subst p1
 refine WC.exit (hK2 _ _ (WC.sr (WL.r 1 hs3 [] rfl ?_)))
 refine WL.cl Tryz.call179 rfl (k98_ (xss.flatten.length) _ ?_) ?_
 · omega
 rintro _ whs8 ⟨A9, c10, L1_11, rfl, hs8, ho12⟩
 replace hs8 := hs3.callF hs8
 refine ⟨_, rfl, WL.r 1 hs8 [] rfl (WL.nil (WC.seq (fun K13 hK13 => WC.r1 hs8 [] rfl (WC.block ?_))))⟩
 refine WC.lO [2, 12, 25, 26] rfl hs8 (fun k_ f L_ => ∃ (zs : List UInt8) (i : Nat) (A14 : Option Addr) (c15 : Nat), k_ = n_s - i ∧ (i ≤ n_s) ∧ (zs = (xss.take i).flatten) ∧ OwnF encB 5 (.slice A14 (zs.length) c15) (zs) L_ ∧ Sub [(6, .slice A14 (zs.length) c15), (27, .int .i64 i)] f) (((fun (zs : List UInt8) (i : Nat) => n_s - i) ([]) (0))) ?_ ?_
 ·refine ⟨[], 0, _, _, rfl, ?_, ?_, ho12, ⟨rfl, rfl, trivial⟩⟩
  · exact Nat.zero_le _
  · simp
 clear hs8
 rintro _ f w L16 ⟨zs, i, A14, c15, rfl, p0, p1, ho17, hG⟩ hF hs18
 refine WC.sub _ (hG.app hF) ?_
 clear hG hF
 have hle := flat_le (xss := xss) (i := i)
 have hle2 := flat_le (xss := xss) (i := i + 1)
 refine WC.r1 hs18 [] rfl (WC.seq (fun K19 hK19 => ?_))
 refine WC.cD rfl (fun qh20 => ?_) (fun qh20 => ?_)
 ·have hli := (hf i (by omega)).len
  have hft := congrArg List.length (flat_take (xss := xss) (i := i) (by omega))
  simp only [List.length_append] at hft
  refine WC.skip (hK19 _ _ (WC.seq (fun K21 hK21 => WC.block (WC.sr ?_))))
  refine WL.val rfl rfl rfl (Run.idxN Tryz.runUnderlying195 Tryz.sizeOf43 rfl rfl rfl ?_ ?_ ?_) ?_
  · exact SlF.some_ (SlF.st0 f_s hs18)
  · omega
  · omega
  refine WL.val rfl rfl rfl (Run.load Tryz.isAgg43 rfl rfl (SlF.one1 (SlF.st0 f_s hs18) ?_ rfl)) ?_
  · omega
  refine WL.r 1 hs18 [] rfl (WL.nil (WC.region (WL.r 2 hs18 [] rfl (WL.appendG hs18 ho17 (SlF.src (SlF.st0 (hf i (by omega)) hs18) Tryz.underlying43) Tryz.underlying43 inf5 rfl rfl rfl rfl rfl rfl rfl rfl rfl rfl ?_ (fun A25 c26 L22 whs23 hs23 ho24 => ?_)))))
  · rw [p1]; omega
  refine WL.r 1 hs23 [] rfl (WL.nil (hK21 _ _ (WC.region (WL.r 2 hs23 [] rfl (WL.nil (tkN ?_))))))
  refine ⟨sbF rfl, _, hs23, _, ?_, _, i + 1, _, _, rfl, ?_, ?_, ho24, ⟨rfl, rfl, trivial⟩⟩
  · omega
  · omega
  · rw [flat_take (by omega), p1]
 refine WC.exit (hK13 _ _ (WC.r1 hs18 [] rfl (WC.ret (retV1 rfl (resV.tmp rfl) ?_))))
 have hx_ := OwnF.eqOf (xs := xss.flatten) ho17 (by rw [p1, List.take_of_length_le (by omega)])
 rw [← hx_]
 first | exact ⟨_, _, _, rfl, (St.keep1 hs18), ho17⟩ | exact ⟨A14, c15, _, by rw [OwnF.len_ ho17], (St.keep1 hs18), by rw [OwnF.len_ ho17]; exact ho17⟩
theorem k100_ (v_b : Value) (b : List UInt8) (L_b : Hp) (n : Int) (w : World) (o_b : OwnF encB 5 v_b b L_b) (h_b : Hh w L_b) (h0 : 0 ≤ n) (h1 : n ≤ 34359738367) (hx : b.length ≤ 268435456) :
    Calls Tryz.prog 98 #[v_b, i64 n] w fun e w' => ∃ A c L1, e = .returned (.slice A (b ++ varL n.toNat).length c) ∧ St w (L_b.map (·.1)) L1 w' ∧ OwnF encB 5 (.slice A (b ++ varL n.toNat).length c) (b ++ varL n.toNat) L1 := by
 obtain ⟨A_b, c_b, rfl⟩ := o_b.shape
 have hvl := varL_len n.toNat (by omega)
 refine enter 21 Tryz.func98 rfl Tryz.ntmps98 rfl rfl ?_
 have hs1 := St.lent1 w L_b o_b h_b
 refine WC.r1 hs1 [] rfl (WC.seq (fun K2 hK2 => WC.block ?_))
 refine WC.lO [4] rfl hs1 (fun k_ f L_ => ∃ (zs : List UInt8) (q : Int) (A3 : Option Addr) (c4 : Nat), k_ = q.toNat ∧ (0 ≤ q) ∧ (q ≤ n) ∧ (b ++ varL n.toNat = zs ++ varL q.toNat) ∧ OwnF encB 5 (.slice A3 (zs.length) c4) (zs) L_ ∧ Sub [(0, .slice A3 (zs.length) c4), (1, .int .i64 q)] f) (((fun (zs : List UInt8) (q : Int) => q.toNat) (b) (n))) ?_ ?_
 ·refine ⟨b, n, _, _, rfl, ?_, ?_, ?_, o_b, ⟨rfl, rfl, trivial⟩⟩
  · exact h0
  · exact Int.le_refl _
  · rfl
 clear hs1
 rintro _ f w L5 ⟨zs, q, A3, c4, rfl, p0, p1, p2, ho6, hG⟩ hF hs7
 refine WC.sub _ (hG.app hF) ?_
 clear hG hF
 have hlen := congrArg List.length p2
 simp only [List.length_append] at hlen
 refine WC.seq (fun K8 hK8 => WC.r1 hs7 [] rfl ?_)
 refine WC.cq rfl (fun h9 qh9 => ?_) (fun h9 qh9 => ?_)
 ·refine WC.skip (hK8 _ _ (WC.block (WC.sr (WL.r 2 hs7 [] rfl ?_))))
  refine WL.val rfl rfl rfl (Run.rem rfl rfl rfl ?_ ?_) ?_
  · omega
  · omega
  refine WL.r 2 hs7 [] rfl (WL.buildSlice hs7 Tryz.runUnderlying43 Tryz.sizeOf5 Tryz.zeroValue5 rfl rfl rfl rfl rfl rfl rfl rfl rfl rfl (fun b10 whs11 hs11 => ?_))
  refine WL.appendG (hs11.fr L5) ho6 (srcB1 Tryz.underlying43 (hs11.own _ (nthL_mem (i := 0) rfl)).1) Tryz.underlying43 inf5 rfl rfl rfl rfl rfl rfl rfl rfl rfl rfl ?_ (fun A15 c16 L12 whs13 hs13 ho14 => ?_)
  · simp only [List.length_append, List.length_singleton]; omega
  replace hs13 := St.back [_] hs13
  refine WL.r 1 hs13 [] rfl (WL.nil (WC.region (WL.r 1 hs13 [] rfl (WL.val rfl rfl rfl (Run.quo rfl rfl rfl ?_ ?_ ?_) ?_))))
  · omega
  · omega
  · omega
  refine WL.r 1 hs13 [] rfl (WL.nil (ibN (tkN ?_)))
  replace hs13 := hs13.d1
  refine ⟨sbF rfl, _, hs13, _, ?_, _, _, _, _, rfl, ?_, ?_, ?_, ho14, ⟨rfl, rfl, trivial⟩⟩
  · omega
  · omega
  · omega
  · rw [p2, List.append_assoc, List.singleton_append, ub_big (by omega)]
 refine WC.exit (hK2 _ _ (WC.sr (WL.r 3 hs7 [] rfl (WL.buildSlice hs7 Tryz.runUnderlying43 Tryz.sizeOf5 Tryz.zeroValue5 rfl rfl rfl rfl rfl rfl rfl rfl rfl rfl (fun b17 whs18 hs18 => ?_)))))
 refine WL.appendG (hs18.fr L5) ho6 (srcB1 Tryz.underlying43 (hs18.own _ (nthL_mem (i := 0) rfl)).1) Tryz.underlying43 inf5 rfl rfl rfl rfl rfl rfl rfl rfl rfl rfl ?_ (fun A22 c23 L19 whs20 hs20 ho21 => ?_)
 · simp only [List.length_append, List.length_singleton]; omega
 replace hs20 := St.back [_] hs20
 refine WL.r 1 hs20 [] rfl (WL.nil (WC.ret (retV1 rfl (resV.tmp rfl) ?_)))
 have hx_ := OwnF.eqOf (xs := b ++ varL n.toNat) ho21 (by rw [p2, ← ub_small p0 (by omega)])
 rw [← hx_]
 first | exact ⟨_, _, _, rfl, (St.keep1 (hs20.fr L19)), ho21⟩ | exact ⟨A22, c23, _, by rw [OwnF.len_ ho21], (St.keep1 (hs20.fr L19)), by rw [OwnF.len_ ho21]; exact ho21⟩
theorem k101_ (A_b : Option Addr) (n_b c_b : Nat) (b : List UInt8) (n : Int) (w : World) (f_b : SlF encB w A_b n_b b) (h0 : 0 ≤ n) (h1 : n ≤ 4294967295) (hx : b.length ≤ 268435456) :
    Calls Tryz.prog 95 #[.slice A_b n_b c_b, i64 n] w fun e w' => ∃ A c L1, e = .returned (.tuple #[.slice A (b ++ varL n.toNat).length c, .bool true]) ∧ St w [] L1 w' ∧ OwnF encB 5 (.slice A (b ++ varL n.toNat).length c) (b ++ varL n.toNat) L1 := by
 have hvl := varL_len n.toNat (by omega)
 refine enter 29 Tryz.func95 rfl Tryz.ntmps95 rfl rfl ?_
 have hs1 := St.init w
 refine WC.r1 hs1 [] rfl (WC.seq (fun K2 hK2 => WC.sr (WL.r 1 hs1 [] rfl (WL.cl Tryz.call156 rfl (k9_ _ _) ?_))))
 rintro _ whs3 ⟨rfl, hs3⟩
 replace hs3 := hs1.call0 hs3
 refine ⟨_, rfl, WL.r 1 hs3 [] rfl (WL.nil ?_)⟩
 refine WC.condF rfl (by simp [isNumB]; omega) (WC.skip (hK2 _ _ (WC.sr (WL.buildF (F := encB) hs3 ([]) Tryz.runUnderlying43 Tryz.sizeOf5 Tryz.zeroValue5 rfl rfl rfl rfl rfl rfl rfl rfl rfl rfl rfl rfl (fun A8 c9 L5 whs6 hs6 ho7 => WL.r 1 hs6 [] rfl ?_)))))
 refine WL.appendG hs6 ho7 (SlF.src (SlF.st0 f_b hs6) Tryz.underlying43) Tryz.underlying43 inf5 rfl rfl rfl rfl rfl rfl rfl rfl rfl rfl ?_ (fun A13 c14 L10 whs11 hs11 ho12 => ?_)
 · simp only [List.length_append, List.length_singleton, List.length_nil]; omega
 refine WL.r 1 hs11 [] rfl (WL.nil (WC.seq (fun K15 hK15 => WC.block ?_)))
 refine WC.lO [4, 5, 9] rfl hs11 (fun k_ f L_ => ∃ (zs : List UInt8) (q : Int) (A16 : Option Addr) (c17 : Nat), k_ = q.toNat ∧ (0 ≤ q) ∧ (q ≤ n) ∧ (b ++ varL n.toNat = zs ++ varL q.toNat) ∧ OwnF encB 5 (.slice A16 (zs.length) c17) (zs) L_ ∧ Sub [(6, .slice A16 (zs.length) c17), (1, .int .i64 q)] f) (((fun (zs : List UInt8) (q : Int) => q.toNat) (([] ++ b)) (n))) ?_ ?_
 ·refine ⟨([] ++ b), n, _, _, rfl, ?_, ?_, ?_, ho12, ⟨rfl, rfl, trivial⟩⟩
  · exact h0
  · exact Int.le_refl _
  · rfl
 clear hs11
 rintro _ f w L18 ⟨zs, q, A16, c17, rfl, p0, p1, p2, ho19, hG⟩ hF hs20
 refine WC.sub _ (hG.app hF) ?_
 clear hG hF
 have hlen := congrArg List.length p2
 simp only [List.length_append] at hlen
 refine WC.seq (fun K21 hK21 => WC.r1 hs20 [] rfl ?_)
 refine WC.cD rfl (fun qh22 => ?_) (fun qh22 => ?_)
 ·refine WC.skip (hK21 _ _ (WC.block (WC.sr (WL.r 2 hs20 [] rfl ?_))))
  refine WL.val rfl rfl rfl (Run.rem rfl rfl rfl ?_ ?_) ?_
  · omega
  · omega
  refine WL.r 2 hs20 [] rfl (WL.buildSlice hs20 Tryz.runUnderlying43 Tryz.sizeOf5 Tryz.zeroValue5 rfl rfl rfl rfl rfl rfl rfl rfl rfl rfl (fun b23 whs24 hs24 => ?_))
  refine WL.appendG (hs24.fr L18) ho19 (srcB1 Tryz.underlying43 (hs24.own _ (nthL_mem (i := 0) rfl)).1) Tryz.underlying43 inf5 rfl rfl rfl rfl rfl rfl rfl rfl rfl rfl ?_ (fun A28 c29 L25 whs26 hs26 ho27 => ?_)
  · simp only [List.length_append, List.length_singleton, List.length_nil]; omega
  replace hs26 := St.back [_] hs26
  refine WL.r 1 hs26 [] rfl (WL.nil (WC.region (WL.r 1 hs26 [] rfl (WL.val rfl rfl rfl (Run.quo rfl rfl rfl ?_ ?_ ?_) ?_))))
  · omega
  · omega
  · omega
  refine WL.r 1 hs26 [] rfl (WL.nil (ibN (tkN ?_)))
  replace hs26 := hs26.d1
  refine ⟨sbF rfl, _, hs26, _, ?_, _, _, _, _, rfl, ?_, ?_, ?_, ho27, ⟨rfl, rfl, trivial⟩⟩
  · omega
  · omega
  · omega
  · rw [p2, List.append_assoc, List.singleton_append, ub_big (by omega)]
 refine WC.exit (hK15 _ _ (WC.sr (WL.r 3 hs20 [] rfl (WL.buildSlice hs20 Tryz.runUnderlying43 Tryz.sizeOf5 Tryz.zeroValue5 rfl rfl rfl rfl rfl rfl rfl rfl rfl rfl (fun b30 whs31 hs31 => ?_)))))
 refine WL.appendG (hs31.fr L18) ho19 (srcB1 Tryz.underlying43 (hs31.own _ (nthL_mem (i := 0) rfl)).1) Tryz.underlying43 inf5 rfl rfl rfl rfl rfl rfl rfl rfl rfl rfl ?_ (fun A35 c36 L32 whs33 hs33 ho34 => ?_)
 · simp only [List.length_append, List.length_singleton, List.length_nil]; omega
 replace hs33 := St.back [_] hs33
 refine WL.r 2 hs33 [] rfl (WL.nil (WC.ret (retV2 rfl (resV.tmp rfl) (resV.tmp rfl) ?_)))
 have hx_ := OwnF.eqOf (xs := b ++ varL n.toNat) ho34 (by rw [p2, ← ub_small p0 (by omega)])
 rw [← hx_]
 first | exact ⟨_, _, _, rfl, (St.keep1 (hs33.fr L32)), ho34⟩ | exact ⟨A35, c36, _, by rw [OwnF.len_ ho34], (St.keep1 (hs33.fr L32)), by rw [OwnF.len_ ho34]; exact ho34⟩
theorem k102_ (n : Int) (w : World) :
    Calls Tryz.prog 97 #[i64 n] w fun e w' => e = .returned (.bool (isSeqB n)) ∧ St w [] [] w' := by
 refine enter 5 Tryz.func97 rfl Tryz.ntmps97 rfl rfl ?_
 have hs1 := St.init w
 refine WC.r1 hs1 [] rfl (WC.sr (WL.r 1 hs1 [] rfl (WL.cl Tryz.call61 rfl (k0_ _ _ _ _) ?_)))
 rintro _ whs2 ⟨rfl, hs2⟩
 replace hs2 := hs1.call0 hs2
 refine ⟨_, rfl, WL.r 1 hs2 [] rfl (WL.nil (WC.ret (rtv rfl rfl hs2 ?_)))⟩
 rfl
theorem k103_ (A_head : Option Addr) (n_head c_head : Nat) (head : List UInt8) (A_data : Option Addr) (n_data c_data : Nat) (data : List UInt8) (w : World) (f_head : SlF encB w A_head n_head head) (f_data : SlF encB w A_data n_data data) (h1 : n_head ≤ 100000000) (h2 : n_data ≤ 100000000) :
    Calls Tryz.prog 99 #[.slice A_head n_head c_head, .slice A_data n_data c_data] w fun e w' => e = .returned (.int .i64 (crcN (head ++ data) : Nat)) ∧ St w [] [] w' := by
 have hl1 := f_head.len
 have hl2 := f_data.len
 refine enter 10 Tryz.func99 rfl Tryz.ntmps99 rfl rfl ?_
 have hs1 := St.init w
 refine WC.r1 hs1 [] rfl (WC.sr (WL.r 2 hs1 [] rfl (WL.buildF (F := encH) hs1 ([⟨_, _, _⟩, ⟨_, _, _⟩]) Tryz.runUnderlying195 Tryz.sizeOf43 Tryz.zeroValue43 rfl rfl rfl rfl rfl rfl rfl rfl rfl rfl rfl rfl (fun A5 c6 L2 whs3 hs3 ho4 => ?_))))
 refine WL.cl Tryz.call158 rfl (k99_ _ _ _ _ [head, data] _ (SlF.ofOwn ho4 (hs3.ow L2)) ?_ ?_ ?_ ?_) ?_
 · first | (intro i hi; rcases i with _ | _ | i; exact (SlF.st0 f_head hs3); exact (SlF.st0 f_data hs3); (simp at hi; omega)) | omega | (simp; omega)
 · first | rfl | omega | (simp; omega)
 · first | (simp; omega) | omega
 · first | simp | omega | (simp; omega)
 rintro _ whs7 ⟨A8, c9, L1_10, rfl, hs7, ho11⟩
 replace hs7 := hs3.callF hs7
 refine ⟨_, rfl, WL.cl Tryz.call157 rfl (k96_ _ _ _ _ _ (SlF.ofOwn ho11 (hs7.ow L1_10)) ?_) ?_⟩
 · first | assumption | rfl | omega | (simp; omega)
 rintro _ whs12 ⟨rfl, hs12⟩
 replace hs12 := hs7.call0 hs12
 refine ⟨_, rfl, WL.r 1 hs12 [] rfl (WL.nil (WC.ret (rtv rfl rfl hs12 ?_)))⟩
 simp
theorem k104_ (seq : Int) (A_data : Option Addr) (n_data c_data : Nat) (data : List UInt8) (w : World) (f_data : SlF encB w A_data n_data data) (hn : n_data ≤ 100000000) :
    Calls Tryz.prog 46 #[i64 seq, .slice A_data n_data c_data] w fun e w' => ∃ A c L1, e = .returned (.tuple #[.slice A (frameOut seq data).length c, .bool (frameOk seq data)]) ∧ St w [] L1 w' ∧ OwnF encB 5 (.slice A (frameOut seq data).length c) (frameOut seq data) L1 := by
 have hl := f_data.len
 refine enter 48 Tryz.func46 rfl Tryz.ntmps46 rfl rfl ?_
 have hs1 := St.init w
 refine WC.r1 hs1 [] rfl (WC.seq (fun K2 hK2 => WC.sr (WL.r 3 hs1 [] rfl (WL.pO tbk 2 Acts.nil hs1 [] rfl rfl rfl rfl (fun g_ => trivial) (WL.r 1 hs1 [] rfl (WL.pO tbk 3 Acts.nil hs1 [] rfl rfl rfl rfl (fun g_ => trivial) (WL.nil ?_)))))))
 refine WC.cq rfl (fun h3 qh3 => ?_) (fun h3 qh3 => ?_)
 ·have hk : frameOk seq data = false := by unfold frameOk; have h9 := h3; rw [Bool.and_eq_false_iff, decide_eq_false_iff_not, within_not]; simp at h9; omega
  refine WC.r1 hs1 [] rfl (WC.ret (tkR ?_))
  clear hK2
  refine retV2 rfl (resV.tmp rfl) (resV.tmp rfl) ?_
  rw [hk]
  have hx_ := OwnF.eqOf (xs := frameOut seq data) (OwnF.nil encB 5) (by unfold frameOut; rw [hk]; rfl)
  rw [← hx_]
  exact ⟨_, _, _, rfl, hs1.nil, (OwnF.nil encB 5)⟩
 have hk : frameOk seq data = true := by unfold frameOk; have h9 := h3; rw [Bool.and_eq_true, decide_eq_true_eq, within_iff]; simp at h9; omega
 have hk2 := hk
 unfold frameOk at hk2
 rw [Bool.and_eq_true, within_iff, decide_eq_true_eq] at hk2
 have hv1 := varL_len seq.toNat (by omega)
 have hv2 := varL_len data.length (by omega)
 have hv2' := varL_len n_data (by omega)
 have hv3 := varL_len (crcN (headL seq data.length ++ data)) (by have h9 := crcN_lt (headL seq data.length ++ data); omega)
 have hcl := crcN_lt (headL seq data.length ++ data)
 have hhl := headL_len (seq := seq) (n := data.length) (by omega) (by omega)
 have hhd : headL seq data.length = ([167] ++ varL seq.toNat) ++ varL data.length := rfl
 have hcl2 := crcN_lt ([] ++ ([167] ++ varL seq.toNat ++ varL n_data) ++ data)
 have hv4 := varL_len (crcN ([] ++ ([167] ++ varL seq.toNat ++ varL n_data) ++ data)) (by omega)
 refine WC.skip (hK2 _ _ (WC.sr (WL.buildF (F := encB) hs1 ([167]) Tryz.runUnderlying43 Tryz.sizeOf5 Tryz.zeroValue5 rfl rfl rfl rfl rfl rfl rfl rfl rfl rfl rfl rfl (fun A7 c8 L4 whs5 hs5 ho6 => WL.r 1 hs5 [] rfl ?_))))
 refine WL.cl Tryz.call95 rfl (k101_ _ _ _ _ _ _ (SlF.ofOwn ho6 (hs5.ow L4)) ?_ ?_ ?_) ?_
 iterate 2 first | omega | assumption | (simp only [List.length_append, List.length_cons, List.length_nil, Int.toNat_natCast]; omega)
 · first | omega | (simp only [List.length_append, List.length_cons, List.length_nil, Int.toNat_natCast]; omega) | assumption
 rintro _ whs9 ⟨A10, c11, L1_12, rfl, hs9, ho13⟩
 replace hs9 := hs5.callF hs9
 refine ⟨_, rfl, WL.r 5 hs9 [] rfl (WL.nil (WC.sr (WL.r 3 hs9 [] rfl (WL.cl Tryz.call95 rfl (k101_ _ _ _ _ _ _ (SlF.ofOwn ho13 (hs9.ow L1_12)) ?_ ?_ ?_) ?_))))⟩
 iterate 2 first | omega | assumption | (simp only [List.length_append, List.length_cons, List.length_nil, Int.toNat_natCast]; omega)
 · first | omega | (simp only [List.length_append, List.length_cons, List.length_nil, Int.toNat_natCast]; omega) | assumption
 rintro _ whs14 ⟨A15, c16, L1_17, rfl, hs14, ho18⟩
 replace hs14 := hs9.callF hs14
 refine ⟨_, rfl, WL.r 4 hs14 [] rfl (WL.nil (WC.sr (WL.buildF (F := encB) hs14 ([]) Tryz.runUnderlying43 Tryz.sizeOf5 Tryz.zeroValue5 rfl rfl rfl rfl rfl rfl rfl rfl rfl rfl rfl rfl (fun A22 c23 L19 whs20 hs20 ho21 => WL.r 1 hs20 [] rfl ?_))))⟩
 refine WL.appendG hs20 ho21 (SlF.src (SlF.ofOwn ho18 (hs20.ow L1_17)) Tryz.underlying43) Tryz.underlying43 inf5 rfl rfl rfl rfl rfl rfl rfl rfl rfl rfl ?_ (fun A27 c28 L24 whs25 hs25 ho26 => ?_)
 · first | omega | (simp only [List.length_append, List.length_cons, List.length_nil, Int.toNat_natCast]; omega)
 refine WL.r 1 hs25 [] rfl (WL.appendG hs25 ho26 (SlF.src (SlF.st0 f_data hs25) Tryz.underlying43) Tryz.underlying43 inf5 rfl rfl rfl rfl rfl rfl rfl rfl rfl rfl ?_ (fun A32 c33 L29 whs30 hs30 ho31 => ?_))
 · first | omega | (simp only [List.length_append, List.length_cons, List.length_nil, Int.toNat_natCast]; omega)
 refine WL.cl Tryz.call96 rfl (k97_ _ _ _ _ _ (SlF.ofOwn ho31 (hs30.ow L29)) ?_) ?_
 · first | assumption | rfl | omega | (simp only [List.length_append, List.length_cons, List.length_nil, Int.toNat_natCast]; omega)
 rintro _ whs34 ⟨rfl, hs34⟩
 replace hs34 := hs30.call0 hs34
 refine ⟨_, rfl, WL.r 1 hs34 [] rfl (WL.nil (WC.sr (WL.r 2 hs34 [] rfl (WL.cl Tryz.call95 rfl (k101_ _ _ _ _ _ _ (SlF.ofOwn ho18 (hs34.ow L1_17)) ?_ ?_ ?_) ?_))))⟩
 iterate 2 first | omega | assumption | (simp only [List.length_append, List.length_cons, List.length_nil, Int.toNat_natCast]; omega)
 · first | omega | (simp only [List.length_append, List.length_cons, List.length_nil, Int.toNat_natCast]; omega) | assumption
 rintro _ whs35 ⟨A36, c37, L1_38, rfl, hs35, ho39⟩
 replace hs35 := hs34.callF hs35
 refine ⟨_, rfl, WL.r 4 hs35 [] rfl (WL.nil (WC.sr (WL.r 2 hs35 [] rfl (WL.appendG hs35 ho39 (SlF.src (SlF.st0 f_data hs35) Tryz.underlying43) Tryz.underlying43 inf5 rfl rfl rfl rfl rfl rfl rfl rfl rfl rfl ?_ (fun A43 c44 L40 whs41 hs41 ho42 => ?_)))))⟩
 · first | omega | (simp only [List.length_append, List.length_cons, List.length_nil, Int.toNat_natCast]; omega)
 refine WL.r 2 hs41 [] rfl (WL.nil (WC.ret (retV2 rfl (resV.tmp rfl) (resV.tmp rfl) ?_)))
 rw [hk]
 have hx_ := OwnF.eqOf (xs := frameOut seq data) ho42 (by unfold frameOut; rw [hk, if_pos rfl]; unfold frameL; first | done | rfl | simp [headL, hl])
 rw [← hx_]
 first | exact ⟨_, _, _, rfl, (St.keep1 hs41), ho42⟩ | exact ⟨A43, c44, _, by rw [OwnF.len_ ho42], (St.keep1 hs41), by rw [OwnF.len_ ho42]; exact ho42⟩
theorem WL.convLit {P : Program} {n : Nat} {ol rest : List Oper} {o : Oper} {K : Fr → World → Prop} {f : Fr} {w0 w : World} {T : List Nat} {L : Hp} {d b : Nat} {vs : List Value} {xs : List UInt8} {t e : TypeId} {x : Operand} (hst : St w0 T ((b, .cells vs.toArray e (0, 0)) :: L) w) (hv : vs = bytesV xs) (hm : Nat.ble xs.length 1000000 = true)
  (ht : P.underlying t = some (.slice e)) (he : P.underlying e = some (.int .u8)) (ho : o.op = .convert t t x) (hw : want ol o f = some true) (hd : o.dst = some d) (hn : Nat.blt d n = true) (hx : ev f x = some (.slice (some ⟨b, 0, none⟩) xs.length xs.length))
  (k : ∀ L1 w', St w0 T (L1 ++ L) w' → OwnF encB e (.slice (some ⟨b, 0, none⟩) xs.length xs.length) xs L1 → WL P n ol rest K ((d, .slice (some ⟨b, 0, none⟩) xs.length xs.length) :: f) w') : WL P n ol (o :: rest) K f w := by
 have hown := hst.own _ List.mem_cons_self
 have hb : w.heap[b]? = some (.cells vs.toArray e (0, 0)) := hown.1
 have hlt : b < w.heap.size := lt_of_heap hb
 have hsh : w.shape? b = some (e, vs.length) := by
  unfold World.shape?
  rw [hb]
  simp
 have hfr : (w.freeze ⟨b, vs.length, none⟩ 1).heap = w.heap.modify b fun
   | .cells c elem (lo, hi) => .cells c elem (if lo == hi then (vs.length, vs.length + 1) else (min lo vs.length, max hi (vs.length + 1)))
   | o => o := rfl
 have hvl : vs.length = xs.length := by rw [hv, bytesV_len]
 refine WL.val (w' := w.freeze ⟨b, vs.length, none⟩ 1) hw hd hn (fun ρ hρ => ?_) (k [(b, .cells vs.toArray e (vs.length, vs.length + 1))] _ ?_ ?_)
 ·simp [execOp, ho, hρ _ _ hx, convert, run_underlying ht, run_underlying he, markStringish, hsh]
 ·have hnd := hst.nodup
  simp only [List.map_cons, List.nodup_cons] at hnd
  refine ⟨hst.os, hst.tape, hst.output, ?_, fun j hj hT => ?_, fun p hp => ?_, hst.nodup⟩
  ·rw [hfr, Array.size_modify]; exact hst.size
  ·rw [hfr, Array.getElem?_modify, if_neg (by rintro rfl; rcases hown.2 with h9 | h9; exact absurd hj (by simp only at h9; omega); exact hT h9)]
   exact hst.keep j hj hT
  ·rw [List.singleton_append, List.mem_cons] at hp
   rcases hp with rfl | hp
   ·refine ⟨?_, hown.2⟩
    rw [hfr, Array.getElem?_modify, if_pos rfl, hb]
    rfl
   ·have h9 := hst.own p (List.mem_cons_of_mem _ hp)
    refine ⟨?_, h9.2⟩
    rw [hfr, Array.getElem?_modify, if_neg (by intro e9; exact hnd.1 (e9 ▸ List.mem_map_of_mem hp))]
    exact h9.1
 ·have hm' := Nat.le_of_ble_eq_true hm
  refine ⟨by rw [rows_len], .inr ⟨b, xs.length, 0, [], vs, (vs.length, vs.length + 1), rfl, rfl, Nat.le_refl _, by simp only [maxLen]; omega, ?_, ?_, .inr ?_, rfl⟩⟩
  ·rw [hvl]; simp [encB]
  ·rw [hv, List.take_of_length_le (by rw [rows_len]; exact Nat.le_refl _)]
  ·simp
theorem k105_ (gen : Int) (seq : Int) (A_data : Option Addr) (n_data c_data : Nat) (data : List UInt8) (w : World) (f_data : SlF encB w A_data n_data data) (hn : n_data ≤ 1048576) :
    Calls Tryz.prog 74 #[i64 gen, i64 seq, .slice A_data n_data c_data] w fun e w' => ∃ A c L1, e = .returned (.tuple #[.slice A (snapOut gen seq data).length c, .bool (snapOk gen seq data)]) ∧ St w [] L1 w' ∧ OwnF encB 5 (.slice A (snapOut gen seq data).length c) (snapOut gen seq data) L1 := by
 have hl := f_data.len
 refine enter 38 Tryz.func74 rfl Tryz.ntmps74 rfl rfl ?_
 have hs1 := St.init w
 refine WC.r1 hs1 [] rfl (WC.seq (fun K2 hK2 => WC.sr (WL.r 1 hs1 [] rfl (WL.cl Tryz.call60 rfl (k13_ _ _) ?_))))
 rintro _ whs3 ⟨rfl, hs3⟩
 replace hs3 := hs1.call0 hs3
 refine ⟨_, rfl, WL.r 2 hs3 [] rfl ?_⟩
 apply WL.gO 3 Acts.nil hs3 rfl
 ·intro g4 J5
  have qg4 := g4
  try simp only [bf, within_iff, within_not] at qg4
  refine WL.runA tbk 1 (Acts.nil.cons (j := 3) rfl g4) hs3 [] rfl trivial (WL.call (wantF rfl g4) rfl rfl (Run.call Tryz.call97 rfl rfl rfl) (k102_ _ _) ?_)
  rintro _ whs6 ⟨rfl, hs6⟩
  replace hs6 := hs3.call0 hs6
  refine ⟨_, rfl, WL.runA tbk 1 (Acts.nil.cons (j := 3) rfl g4) hs6 [] rfl trivial (WL.eO 3 Acts.nil J5 hs6 g4 rfl rfl)⟩
 intro _ hs7
 refine WL.r 1 hs7 [] rfl (WL.pO tbk 3 Acts.nil hs7 [] rfl rfl rfl rfl (fun g_ => trivial) (WL.nil (WC.cq rfl (fun h8 qh8 => ?_) (fun h8 qh8 => ?_))))
 ·have hk : snapOk gen seq data = false := by unfold snapOk; rw [hl]; have h9 := h8; rw [← Bool.not_eq_true] at *; revert h9; cases isGenB gen <;> cases isSeqB seq <;> simp <;> omega
  refine WC.r1 hs7 [] rfl (WC.ret (tkR ?_))
  clear hK2
  refine retV2 rfl (resV.tmp rfl) (resV.tmp rfl) ?_
  rw [hk]
  have hx_ := OwnF.eqOf (xs := snapOut gen seq data) (OwnF.nil encB 5) (by unfold snapOut; rw [hk]; rfl)
  rw [← hx_]
  exact ⟨_, _, _, rfl, hs7.nil, (OwnF.nil encB 5)⟩
 have hk : snapOk gen seq data = true := by unfold snapOk; rw [hl]; have h9 := h8; revert h9; cases isGenB gen <;> cases isSeqB seq <;> simp <;> omega
 obtain ⟨hgn, hg1, hg2, hg3⟩ := snapOk_P hk
 have hv1 := varL_len gen.toNat (by omega)
 have hv2 := varL_len seq.toNat (by omega)
 have hv3 := varL_len n_data (by omega)
 have hcl2 := crcN_lt ([83, 78, 65, 80] ++ varL gen.toNat ++ varL seq.toNat ++ varL n_data ++ data)
 have hv4 := varL_len (crcN ([83, 78, 65, 80] ++ varL gen.toNat ++ varL seq.toNat ++ varL n_data ++ data)) (by omega)
 refine WC.skip (hK2 _ _ (WC.sr (WL.buildSlice hs7 Tryz.runUnderlying43 Tryz.sizeOf5 Tryz.zeroValue5 rfl rfl rfl rfl rfl rfl rfl rfl rfl rfl (fun b9 whs10 hs10 => WL.convLit (xs := [83, 78, 65, 80]) hs10 rfl rfl Tryz.underlying43 Tryz.underlying5 rfl rfl rfl rfl rfl (fun L11 whs12 hs12 ho13 => WL.r 1 hs12 [] rfl ?_)))))
 refine WL.cl Tryz.call98 rfl (k100_ _ _ _ _ _ ho13 (hs12.ow L11) ?_ ?_ ?_) ?_
 iterate 2 first | omega | assumption | (simp only [List.length_append, List.length_cons, List.length_nil, Int.toNat_natCast]; omega)
 · first | omega | (simp only [List.length_append, List.length_cons, List.length_nil, Int.toNat_natCast]; omega) | assumption
 rintro _ whs14 ⟨A15, c16, L1_17, rfl, hs14, ho18⟩
 replace hs14 := St.lend hs12 hs14
 refine ⟨_, rfl, WL.r 1 hs14 [] rfl (WL.cl Tryz.call98 rfl (k100_ _ _ _ _ _ ho18 (hs14.ow L1_17) ?_ ?_ ?_) ?_)⟩
 iterate 2 first | omega | assumption | (simp only [List.length_append, List.length_cons, List.length_nil, Int.toNat_natCast]; omega)
 · first | omega | (simp only [List.length_append, List.length_cons, List.length_nil, Int.toNat_natCast]; omega) | assumption
 rintro _ whs19 ⟨A20, c21, L1_22, rfl, hs19, ho23⟩
 replace hs19 := St.lend hs14 hs19
 refine ⟨_, rfl, WL.r 2 hs19 [] rfl (WL.cl Tryz.call98 rfl (k100_ _ _ _ _ _ ho23 (hs19.ow L1_22) ?_ ?_ ?_) ?_)⟩
 iterate 2 first | omega | assumption | (simp only [List.length_append, List.length_cons, List.length_nil, Int.toNat_natCast]; omega)
 · first | omega | (simp only [List.length_append, List.length_cons, List.length_nil, Int.toNat_natCast]; omega) | assumption
 rintro _ whs24 ⟨A25, c26, L1_27, rfl, hs24, ho28⟩
 replace hs24 := St.lend hs19 hs24
 refine ⟨_, rfl, WL.r 1 hs24 [] rfl (WL.nil (WC.sr (WL.r 3 hs24 [] rfl (WL.cl Tryz.call99 rfl (k103_ _ _ _ _ _ _ _ _ _ (SlF.ofOwn ho28 (hs24.ow L1_27)) (SlF.st0 f_data hs24) ?_ ?_) ?_))))⟩
 iterate 2 first | assumption | rfl | omega | (simp only [List.length_append, List.length_cons, List.length_nil, Int.toNat_natCast]; omega)
 rintro _ whs29 ⟨rfl, hs29⟩
 replace hs29 := hs24.call0 hs29
 refine ⟨_, rfl, WL.cl Tryz.call98 rfl (k100_ _ _ _ _ _ ho28 (hs29.ow L1_27) ?_ ?_ ?_) ?_⟩
 iterate 2 first | omega | assumption | (simp only [List.length_append, List.length_cons, List.length_nil, Int.toNat_natCast]; omega)
 · first | omega | (simp only [List.length_append, List.length_cons, List.length_nil, Int.toNat_natCast]; omega) | assumption
 rintro _ whs30 ⟨A31, c32, L1_33, rfl, hs30, ho34⟩
 replace hs30 := St.lend hs29 hs30
 refine ⟨_, rfl, WL.r 1 hs30 [] rfl (WL.appendG hs30 ho34 (SlF.src (SlF.st0 f_data hs30) Tryz.underlying43) Tryz.underlying43 inf5 rfl rfl rfl rfl rfl rfl rfl rfl rfl rfl ?_ (fun A38 c39 L35 whs36 hs36 ho37 => ?_))⟩
 · first | omega | (simp only [List.length_append, List.length_cons, List.length_nil, Int.toNat_natCast]; omega)
 refine WL.r 2 hs36 [] rfl (WL.nil (WC.ret (retV2 rfl (resV.tmp rfl) (resV.tmp rfl) ?_)))
 rw [hk]
 have hx_ := OwnF.eqOf (xs := snapOut gen seq data) ho37 (by unfold snapOut; rw [hk, if_pos rfl]; unfold snapL snapHd snapP4; rw [hl]; first | done | rfl | simp)
 rw [← hx_]
 first | exact ⟨_, _, _, rfl, (St.keep1 hs36), ho37⟩ | exact ⟨A38, c39, _, by rw [OwnF.len_ ho37], (St.keep1 hs36), by rw [OwnF.len_ ho37]; exact ho37⟩
theorem k106_ (gen : Int) (seq : Int) (A_data : Option Addr) (n_data c_data : Nat) (data : List UInt8) (w : World) (f_data : SlF encB w A_data n_data data) (hn : n_data ≤ 1048576) :
    Calls Tryz.prog 65 #[i64 gen, i64 seq, .slice A_data n_data c_data] w fun e w' => ∃ A c L1, e = .returned (.tuple #[.slice A (snapOut gen seq data).length c, .bool (snapOk gen seq data)]) ∧ St w [] L1 w' ∧ OwnF encB 5 (.slice A (snapOut gen seq data).length c) (snapOut gen seq data) L1 := by
 have hl := f_data.len
 refine enter 65 Tryz.func65 rfl Tryz.ntmps65 rfl rfl ?_
 have hs1 := St.init w
 refine WC.r1 hs1 [] rfl (WC.seq (fun K2 hK2 => WC.sr (WL.r 3 hs1 [] rfl (WL.pO tbk 2 Acts.nil hs1 [] rfl rfl rfl rfl (fun g_ => trivial) (WL.r 1 hs1 [] rfl (WL.pO tbk 2 Acts.nil hs1 [] rfl rfl rfl rfl (fun g_ => trivial) (WL.r 1 hs1 [] rfl ?_)))))))
 refine WL.pO tbk 2 Acts.nil hs1 [] rfl rfl rfl rfl (fun g_ => trivial) (WL.r 1 hs1 [] rfl (WL.pO tbk 3 Acts.nil hs1 [] rfl rfl rfl rfl (fun g_ => trivial) (WL.nil (WC.cq rfl (fun h3 qh3 => ?_) (fun h3 qh3 => ?_)))))
 ·have hk : snapOk gen seq data = false := by unfold snapOk isGenB isSeqB; have h9 := h3; simp at h9; rw [Bool.and_eq_false_iff, Bool.and_eq_false_iff, within_not, within_not, decide_eq_false_iff_not]; omega
  refine WC.r1 hs1 [] rfl (WC.ret (tkR ?_))
  clear hK2
  refine retV2 rfl (resV.tmp rfl) (resV.tmp rfl) ?_
  rw [hk]
  have hx_ := OwnF.eqOf (xs := snapOut gen seq data) (OwnF.nil encB 5) (by unfold snapOut; rw [hk]; rfl)
  rw [← hx_]
  exact ⟨_, _, _, rfl, hs1.nil, (OwnF.nil encB 5)⟩
 have hk : snapOk gen seq data = true := by unfold snapOk isGenB isSeqB; have h9 := h3; simp at h9; rw [Bool.and_eq_true, Bool.and_eq_true, within_iff, within_iff, decide_eq_true_eq]; omega
 obtain ⟨hgn, hg1, hg2, hg3⟩ := snapOk_P hk
 have hv1 := varL_len gen.toNat (by omega)
 have hv2 := varL_len seq.toNat (by omega)
 have hv3 := varL_len n_data (by omega)
 have hcl2 := crcN_lt ([] ++ ([83, 78, 65, 80] ++ varL gen.toNat ++ varL seq.toNat ++ varL n_data) ++ data)
 have hv4 := varL_len (crcN ([] ++ ([83, 78, 65, 80] ++ varL gen.toNat ++ varL seq.toNat ++ varL n_data) ++ data)) (by omega)
 refine WC.skip (hK2 _ _ (WC.sr (WL.buildSlice hs1 Tryz.runUnderlying43 Tryz.sizeOf5 Tryz.zeroValue5 rfl rfl rfl rfl rfl rfl rfl rfl rfl rfl (fun b4 whs5 hs5 => WL.convLit (xs := [83, 78, 65, 80]) hs5 rfl rfl Tryz.underlying43 Tryz.underlying5 rfl rfl rfl rfl rfl (fun L6 whs7 hs7 ho8 => WL.r 1 hs7 [] rfl ?_)))))
 refine WL.cl Tryz.call95 rfl (k101_ _ _ _ _ _ _ (SlF.ofOwn ho8 (hs7.ow L6)) ?_ ?_ ?_) ?_
 iterate 2 first | omega | assumption | (simp only [List.length_append, List.length_cons, List.length_nil, Int.toNat_natCast]; omega)
 · first | omega | (simp only [List.length_append, List.length_cons, List.length_nil, Int.toNat_natCast]; omega) | assumption
 rintro _ whs9 ⟨A10, c11, L1_12, rfl, hs9, ho13⟩
 replace hs9 := hs7.callF hs9
 refine ⟨_, rfl, WL.r 5 hs9 [] rfl (WL.nil (WC.sr (WL.r 2 hs9 [] rfl (WL.cl Tryz.call95 rfl (k101_ _ _ _ _ _ _ (SlF.ofOwn ho13 (hs9.ow L1_12)) ?_ ?_ ?_) ?_))))⟩
 iterate 2 first | omega | assumption | (simp only [List.length_append, List.length_cons, List.length_nil, Int.toNat_natCast]; omega)
 · first | omega | (simp only [List.length_append, List.length_cons, List.length_nil, Int.toNat_natCast]; omega) | assumption
 rintro _ whs14 ⟨A15, c16, L1_17, rfl, hs14, ho18⟩
 replace hs14 := hs9.callF hs14
 refine ⟨_, rfl, WL.r 4 hs14 [] rfl (WL.nil (WC.sr (WL.r 3 hs14 [] rfl (WL.cl Tryz.call95 rfl (k101_ _ _ _ _ _ _ (SlF.ofOwn ho18 (hs14.ow L1_17)) ?_ ?_ ?_) ?_))))⟩
 iterate 2 first | omega | assumption | (simp only [List.length_append, List.length_cons, List.length_nil, Int.toNat_natCast]; omega)
 · first | omega | (simp only [List.length_append, List.length_cons, List.length_nil, Int.toNat_natCast]; omega) | assumption
 rintro _ whs19 ⟨A20, c21, L1_22, rfl, hs19, ho23⟩
 replace hs19 := hs14.callF hs19
 refine ⟨_, rfl, WL.r 4 hs19 [] rfl (WL.nil (WC.sr (WL.buildF (F := encB) hs19 ([]) Tryz.runUnderlying43 Tryz.sizeOf5 Tryz.zeroValue5 rfl rfl rfl rfl rfl rfl rfl rfl rfl rfl rfl rfl (fun A27 c28 L24 whs25 hs25 ho26 => WL.r 1 hs25 [] rfl ?_))))⟩
 refine WL.appendG hs25 ho26 (SlF.src (SlF.ofOwn ho23 (hs25.ow L1_22)) Tryz.underlying43) Tryz.underlying43 inf5 rfl rfl rfl rfl rfl rfl rfl rfl rfl rfl ?_ (fun A32 c33 L29 whs30 hs30 ho31 => ?_)
 · first | omega | (simp only [List.length_append, List.length_cons, List.length_nil, Int.toNat_natCast]; omega)
 refine WL.r 1 hs30 [] rfl (WL.appendG hs30 ho31 (SlF.src (SlF.st0 f_data hs30) Tryz.underlying43) Tryz.underlying43 inf5 rfl rfl rfl rfl rfl rfl rfl rfl rfl rfl ?_ (fun A37 c38 L34 whs35 hs35 ho36 => ?_))
 · first | omega | (simp only [List.length_append, List.length_cons, List.length_nil, Int.toNat_natCast]; omega)
 refine WL.cl Tryz.call96 rfl (k97_ _ _ _ _ _ (SlF.ofOwn ho36 (hs35.ow L34)) ?_) ?_
 · first | assumption | rfl | omega | (simp only [List.length_append, List.length_cons, List.length_nil, Int.toNat_natCast]; omega)
 rintro _ whs39 ⟨rfl, hs39⟩
 replace hs39 := hs35.call0 hs39
 refine ⟨_, rfl, WL.r 1 hs39 [] rfl (WL.nil (WC.sr (WL.r 2 hs39 [] rfl (WL.cl Tryz.call95 rfl (k101_ _ _ _ _ _ _ (SlF.ofOwn ho23 (hs39.ow L1_22)) ?_ ?_ ?_) ?_))))⟩
 iterate 2 first | omega | assumption | (simp only [List.length_append, List.length_cons, List.length_nil, Int.toNat_natCast]; omega)
 · first | omega | (simp only [List.length_append, List.length_cons, List.length_nil, Int.toNat_natCast]; omega) | assumption
 rintro _ whs40 ⟨A41, c42, L1_43, rfl, hs40, ho44⟩
 replace hs40 := hs39.callF hs40
 refine ⟨_, rfl, WL.r 4 hs40 [] rfl (WL.nil (WC.sr (WL.r 2 hs40 [] rfl (WL.appendG hs40 ho44 (SlF.src (SlF.st0 f_data hs40) Tryz.underlying43) Tryz.underlying43 inf5 rfl rfl rfl rfl rfl rfl rfl rfl rfl rfl ?_ (fun A48 c49 L45 whs46 hs46 ho47 => ?_)))))⟩
 · first | omega | (simp only [List.length_append, List.length_cons, List.length_nil, Int.toNat_natCast]; omega)
 refine WL.r 2 hs46 [] rfl (WL.nil (WC.ret (retV2 rfl (resV.tmp rfl) (resV.tmp rfl) ?_)))
 rw [hk]
 have hx_ := OwnF.eqOf (xs := snapOut gen seq data) ho47 (by unfold snapOut; rw [hk, if_pos rfl]; unfold snapL snapHd snapP4; rw [hl]; first | done | rfl | simp)
 rw [← hx_]
 first | exact ⟨_, _, _, rfl, (St.keep1 hs46), ho47⟩ | exact ⟨A48, c49, _, by rw [OwnF.len_ ho47], (St.keep1 hs46), by rw [OwnF.len_ ho47]; exact ho47⟩
theorem built_75_0_1_2_3 (x0 : Int) (x1 : ByteArray) (x2 : ByteArray) (x3 : Option Addr) (x4 : Nat) (x5 : Nat) : Tryz.prog.built 75 [(0, .int .i64 x0), (1, .string x1), (2, .string x2), (3, .slice x3 x4 x5)] = some (List.toArray [.int .i64 x0, .string x1, .string x2, .slice x3 x4 x5]) := by kernel_rfl
theorem k107_ (b_s : Nat) (s : starterR) (L_s : Hp) (kind : Int) (name : ByteArray) (to : ByteArray) (A_data : Option Addr) (n_data c_data : Nat) (data : List UInt8) (w : World) (hb_s : w.heap[b_s]? = some (Obj.cells (List.toArray [i64 s.depot.Disk.Room, i64 s.depot.Disk.Fuse, i64 s.depot.Disk.Next, .slice s.depot.Disk.Files.A s.depot.Disk.Files.n s.depot.Disk.Files.c, .slice s.depot.Disk.Kept.A s.depot.Disk.Kept.n s.depot.Disk.Kept.c, .slice s.depot.Disk.Turns.A s.depot.Disk.Turns.n s.depot.Disk.Turns.c, i64 s.depot.Gen, i64 s.depot.Seq, i64 s.depot.Size, .bool s.depot.Stuck, i64 s.code]) 109 (0, 0))) (o_s : ownstarterR s L_s) (h_s : Hh w L_s) (f_data : SlF encB w A_data n_data data) (hcd : n_data ≤ c_data) (hd_ : (b_s :: L_s.map (·.1)).Nodup) (s_data : 0 < n_data → (adr A_data).block ∉ (b_s :: L_s.map (·.1))) (hb : totDisk s.dat.depot.Disk ≤ 1048576) (hz1 : name.size ≤ 549755813888) (hz2 : to.size ≤ 549755813888) (hz3 : n_data ≤ 549755813888) :
    Calls Tryz.prog 133 #[.pointer (some ⟨b_s, 0, none⟩), i64 kind, .string name, .string to, .slice A_data n_data c_data] w fun e w' => ∃ r L1, e = .returned (.tuple #[]) ∧ St w (b_s :: L_s.map (·.1)) ([(b_s, Obj.cells (List.toArray [i64 r.depot.Disk.Room, i64 r.depot.Disk.Fuse, i64 r.depot.Disk.Next, .slice r.depot.Disk.Files.A r.depot.Disk.Files.n r.depot.Disk.Files.c, .slice r.depot.Disk.Kept.A r.depot.Disk.Kept.n r.depot.Disk.Kept.c, .slice r.depot.Disk.Turns.A r.depot.Disk.Turns.n r.depot.Disk.Turns.c, i64 r.depot.Gen, i64 r.depot.Seq, i64 r.depot.Size, .bool r.depot.Stuck, i64 r.code]) 109 (0, 0))] ++ L1) w' ∧ ownstarterR r L1 ∧ r.dat = setS s.dat (stp (sd s.dat) (⟨kind, name, to, data⟩ : DiskOpD)) := by
 have nl9 := f_data.len
 have hsm := start_sm hb
 refine enter 36 Tryz.func133 rfl Tryz.ntmps133 rfl rfl ?_
 have hs1 := St.takeP w b_s _ L_s hb_s h_s hd_
 refine WC.r1 hs1 [0] rfl (WC.cq rfl (fun h2 qh2 => ?_) (fun h2 qh2 => ?_))
 ·have hc : s.code = 0 := by have h9 := h2; simpa using h9
  refine WC.region (WL.r 11 hs1 [0] rfl ?_)
  refine WL.val rfl rfl rfl (Run.build rfl rfl rfl rfl (built_75_0_1_2_3 _ _ _ _ _ _)) ?_
  refine WL.cl Tryz.call43 rfl (k82_ s.depot.Disk ⟨_, _, _, ⟨_, _, _, _⟩⟩ _ (ownstarterR.ok (B := 549755813888) o_s (hs1.ow L_s) (by assumption)).depot.Disk ⟨(by first | assumption | omega), (by first | assumption | omega), (SlF.st f_data hs1 s_data), (by first | assumption | omega | simp), (by first | assumption | omega | (simp; omega) | simp)⟩ ?_) ?_
  · first | assumption | rfl | omega | exact hb
  rintro _ whs3 ⟨r4, L1_5, rfl, hs3, ho6, hd7⟩
  replace hs3 := hs1.callF hs3
  refine ⟨_, rfl, ?_⟩
  replace hs3 := St.back [_] hs3
  have hdo := hd7
  refine WL.r 6 hs3 [] rfl (WL.st tbk hs3 0 rfl rfl (fun _ hs8 => WL.r 2 hs8 [] rfl (WL.st tbk hs8 0 rfl rfl (fun _ hs9 => WL.nil (retK0 rfl ?_)))))
  obtain ⟨L10, L11, L12, hs16, ho13, ho14, ho15⟩ := ownDiskR.op hs9 ho6
  have hs17 := (hs16.fb b_s)
  obtain ⟨L19, hs18, ho20⟩ := ownstarterR.fl hs17 ho13 ho14 ho15
  have hs21 := (hs18.fb b_s)
  refine ownstarterR.retp rfl ((hs21.fr L19).fb b_s) ho20 ?_
  · exact starterD.ext' (DepotD.ext' (by show _ = stepD _ _ _; unfold stepD; rw [if_pos (show (sd s.dat).2 = 0 from hc)]; exact hdo) rfl rfl rfl rfl) (by show _ = stepC _ _ _; unfold stepC; rw [if_pos (show (sd s.dat).2 = 0 from hc)]; rfl)
 have hc : ¬ s.code = 0 := by have h9 := h2; simpa using h9
 refine WC.skip (retK0 rfl (⟨s, _, rfl, St.keepP (L1 := L_s) ((hs1.fr L_s).fb b_s), o_s, ?_⟩))
 · rw [stp_ne (s := sd s.dat) hc]; rfl
theorem k108_ (b_s : Nat) (s : starterR) (L_s : Hp) (name : ByteArray) (w : World) (hb_s : w.heap[b_s]? = some (Obj.cells (List.toArray [i64 s.depot.Disk.Room, i64 s.depot.Disk.Fuse, i64 s.depot.Disk.Next, .slice s.depot.Disk.Files.A s.depot.Disk.Files.n s.depot.Disk.Files.c, .slice s.depot.Disk.Kept.A s.depot.Disk.Kept.n s.depot.Disk.Kept.c, .slice s.depot.Disk.Turns.A s.depot.Disk.Turns.n s.depot.Disk.Turns.c, i64 s.depot.Gen, i64 s.depot.Seq, i64 s.depot.Size, .bool s.depot.Stuck, i64 s.code]) 109 (0, 0))) (o_s : ownstarterR s L_s) (h_s : Hh w L_s) (hd_ : (b_s :: L_s.map (·.1)).Nodup) (hb : totDisk s.dat.depot.Disk ≤ 1048576) (hk : diskOk s.dat.depot.Disk = true) (hnm : name.size ≤ 1048576) :
    Calls Tryz.prog 131 #[.pointer (some ⟨b_s, 0, none⟩), .string name] w fun e w' => ∃ r L1, e = .returned (.tuple #[]) ∧ St w (b_s :: L_s.map (·.1)) ([(b_s, Obj.cells (List.toArray [i64 r.depot.Disk.Room, i64 r.depot.Disk.Fuse, i64 r.depot.Disk.Next, .slice r.depot.Disk.Files.A r.depot.Disk.Files.n r.depot.Disk.Files.c, .slice r.depot.Disk.Kept.A r.depot.Disk.Kept.n r.depot.Disk.Kept.c, .slice r.depot.Disk.Turns.A r.depot.Disk.Turns.n r.depot.Disk.Turns.c, i64 r.depot.Gen, i64 r.depot.Seq, i64 r.depot.Size, .bool r.depot.Stuck, i64 r.code]) 109 (0, 0))] ++ L1) w' ∧ ownstarterR r L1 ∧ r.dat = setS s.dat (gone (sd s.dat) name) := by
 have hsm := start_sm hb
 have hD : DOk s.depot.Disk.dat := diskOk_P hk
 have hdl : (dirD s.depot.Disk.dat).length ≤ 40 := Nat.le_trans turnsL_len (by have h9 := hD.small; omega)
 refine enter 16 Tryz.func131 rfl Tryz.ntmps131 rfl rfl ?_
 have hs1 := St.takeP w b_s _ L_s hb_s h_s hd_
 refine WC.sr (WL.r 5 hs1 [0] rfl (WL.cl Tryz.call134 rfl (k55_ s.depot.Disk _ (ownstarterR.ok (B := 549755813888) o_s (hs1.ow L_s) (by assumption)).depot.Disk ?_) ?_))
 · first | assumption | rfl | omega | exact hb | exact Nat.zero_le _ | decide
 rintro _ whs2 ⟨A3, c4, L1_5, rfl, hs2, ho6⟩
 replace hs2 := hs1.callF hs2
 refine ⟨_, rfl, ?_⟩
 replace hs2 := St.back [_] hs2
 refine WL.r 1 hs2 [] rfl (WL.cl Tryz.call150 rfl (k37_ _ _ _ _ _ _ (SlF.ofOwn ho6 (hs2.ow L1_5)) ?_) ?_)
 · first | assumption | rfl | omega | exact hb | exact Nat.zero_le _ | decide
 rintro _ whs7 ⟨rfl, hs7⟩
 replace hs7 := hs2.call0 hs7
 refine ⟨_, rfl, WL.r 1 hs7 [] rfl (WL.nil (WC.cq rfl (fun h8 qh8 => ?_) (fun h8 qh8 => ?_)))⟩
 ·have hh : hasN (dirD s.depot.Disk.dat) name = true := has_idx (by have h9 := h8; simpa using h9)
  have hgo : gone (sd s.dat) name = stp (sd s.dat) (opR name) := if_pos hh
  refine WC.region (WL.r 2 hs7 [] rfl ?_)
  have hF9 := ((hs7.fr L_s).fb b_s)
  refine WL.cl Tryz.call133 rfl (k107_ _ s _ _ _ _ _ _ _ _ _ (St.headP hF9) o_s (St.ownP hF9) (SlF.nil _ _) (by first | assumption | omega | simp) (St.nodupP hF9) (fun h_ => absurd h_ (by omega)) ?_ ?_ ?_ ?_) ?_
  iterate 4 first | assumption | rfl | omega | exact hb | exact Nat.zero_le _ | decide
  rintro _ whs10 ⟨r11, L12, rfl, hs10, ho13, hd14⟩
  replace hs10 := St.lendP hF9 hs10
  refine ⟨_, rfl, WL.nil (retK0 rfl (⟨r11, _, rfl, St.keepP (L1 := L12) ((hs10.fr L12).fb b_s), ho13, ?_⟩))⟩
  · rw [hgo]; exact hd14
 have hh : hasN (dirD s.depot.Disk.dat) name = false := has_no (by have h9 := h8; simp at h9; omega)
 have hgo : gone (sd s.dat) name = sd s.dat := if_neg (by show ¬ hasN (dirD s.depot.Disk.dat) name = true; rw [hh]; decide)
 refine WC.skip (retK0 rfl (⟨s, _, rfl, St.keepP (L1 := L_s) ((hs7.fr L_s).fb b_s), o_s, ?_⟩))
 · rw [hgo]; rfl
theorem k109_ (b_s : Nat) (s : starterR) (L_s : Hp) (w : World) (hb_s : w.heap[b_s]? = some (Obj.cells (List.toArray [i64 s.depot.Disk.Room, i64 s.depot.Disk.Fuse, i64 s.depot.Disk.Next, .slice s.depot.Disk.Files.A s.depot.Disk.Files.n s.depot.Disk.Files.c, .slice s.depot.Disk.Kept.A s.depot.Disk.Kept.n s.depot.Disk.Kept.c, .slice s.depot.Disk.Turns.A s.depot.Disk.Turns.n s.depot.Disk.Turns.c, i64 s.depot.Gen, i64 s.depot.Seq, i64 s.depot.Size, .bool s.depot.Stuck, i64 s.code]) 109 (0, 0))) (o_s : ownstarterR s L_s) (h_s : Hh w L_s) (hd_ : (b_s :: L_s.map (·.1)).Nodup) (hb : totDisk s.dat.depot.Disk ≤ 1048576) :
    Calls Tryz.prog 130 #[.pointer (some ⟨b_s, 0, none⟩)] w fun e w' => ∃ r L1, e = .returned (.tuple #[]) ∧ St w (b_s :: L_s.map (·.1)) ([(b_s, Obj.cells (List.toArray [i64 r.depot.Disk.Room, i64 r.depot.Disk.Fuse, i64 r.depot.Disk.Next, .slice r.depot.Disk.Files.A r.depot.Disk.Files.n r.depot.Disk.Files.c, .slice r.depot.Disk.Kept.A r.depot.Disk.Kept.n r.depot.Disk.Kept.c, .slice r.depot.Disk.Turns.A r.depot.Disk.Turns.n r.depot.Disk.Turns.c, i64 r.depot.Gen, i64 r.depot.Seq, i64 r.depot.Size, .bool r.depot.Stuck, i64 r.code]) 109 (0, 0))] ++ L1) w' ∧ ownstarterR r L1 ∧ r.dat = setS s.dat (stp (sd s.dat) opY) := by
 refine enter 4 Tryz.func130 rfl Tryz.ntmps130 rfl rfl ?_
 have hs1 := St.takeP w b_s _ L_s hb_s h_s hd_
 refine WC.region (WL.r 1 hs1 [] rfl ?_)
 have hF2 := ((hs1.fr L_s).fb b_s)
 refine WL.cl Tryz.call133 rfl (k107_ _ s _ _ _ _ _ _ _ _ _ (St.headP hF2) o_s (St.ownP hF2) (SlF.nil _ _) (by first | assumption | omega | simp) (St.nodupP hF2) (fun h_ => absurd h_ (by omega)) ?_ ?_ ?_ ?_) ?_
 iterate 4 first | assumption | rfl | omega | exact hb | exact Nat.zero_le _ | decide
 rintro _ whs3 ⟨r4, L5, rfl, hs3, ho6, hd7⟩
 replace hs3 := St.lendP hF2 hs3
 refine ⟨_, rfl, WL.nil (retK0 rfl (⟨r4, _, rfl, St.keepP (L1 := L5) ((hs3.fr L5).fb b_s), ho6, ?_⟩))⟩
 · exact hd7
theorem k110_ (b_s : Nat) (s : starterR) (L_s : Hp) (A_data : Option Addr) (n_data c_data : Nat) (data : List UInt8) (w : World) (hb_s : w.heap[b_s]? = some (Obj.cells (List.toArray [i64 s.depot.Disk.Room, i64 s.depot.Disk.Fuse, i64 s.depot.Disk.Next, .slice s.depot.Disk.Files.A s.depot.Disk.Files.n s.depot.Disk.Files.c, .slice s.depot.Disk.Kept.A s.depot.Disk.Kept.n s.depot.Disk.Kept.c, .slice s.depot.Disk.Turns.A s.depot.Disk.Turns.n s.depot.Disk.Turns.c, i64 s.depot.Gen, i64 s.depot.Seq, i64 s.depot.Size, .bool s.depot.Stuck, i64 s.code]) 109 (0, 0))) (o_s : ownstarterR s L_s) (h_s : Hh w L_s) (f_data : SlF encB w A_data n_data data) (hcd : n_data ≤ c_data) (hd_ : (b_s :: L_s.map (·.1)).Nodup) (s_data : 0 < n_data → (adr A_data).block ∉ (b_s :: L_s.map (·.1))) (hb : totDisk s.dat.depot.Disk ≤ 1048576) (hk : diskOk s.dat.depot.Disk = true) (hn : n_data ≤ 400000) :
    Calls Tryz.prog 132 #[.pointer (some ⟨b_s, 0, none⟩), .slice A_data n_data c_data] w fun e w' => ∃ r L1, e = .returned (.tuple #[]) ∧ St w (b_s :: L_s.map (·.1)) ([(b_s, Obj.cells (List.toArray [i64 r.depot.Disk.Room, i64 r.depot.Disk.Fuse, i64 r.depot.Disk.Next, .slice r.depot.Disk.Files.A r.depot.Disk.Files.n r.depot.Disk.Files.c, .slice r.depot.Disk.Kept.A r.depot.Disk.Kept.n r.depot.Disk.Kept.c, .slice r.depot.Disk.Turns.A r.depot.Disk.Turns.n r.depot.Disk.Turns.c, i64 r.depot.Gen, i64 r.depot.Seq, i64 r.depot.Size, .bool r.depot.Stuck, i64 r.code]) 109 (0, 0))] ++ L1) w' ∧ ownstarterR r L1 ∧ r.dat = setS s.dat (stp (fillS (sd s.dat) data) (syncOp tempP)) := by
 have hsm := start_sm hb
 have hl9 := f_data.len
 have hdl : data.length ≤ 400000 := by omega
 refine enter 31 Tryz.func132 rfl Tryz.ntmps132 rfl rfl ?_
 have hs1 := St.takeP w b_s _ L_s hb_s h_s hd_
 refine WC.sr (WL.r 1 hs1 [] rfl ?_)
 have hF2 := ((hs1.fr L_s).fb b_s)
 refine WL.cl Tryz.call133 rfl (k107_ _ s _ _ _ _ _ _ _ _ _ (St.headP hF2) o_s (St.ownP hF2) (SlF.nil _ _) (by first | assumption | omega | simp) (St.nodupP hF2) (fun h_ => absurd h_ (by omega)) ?_ ?_ ?_ ?_) ?_
 iterate 4 first | assumption | rfl | omega | decide | exact hb
 rintro _ whs3 ⟨r4, L5, rfl, hs3, ho6, hd7⟩
 replace hs3 := St.lendP hF2 hs3
 refine ⟨_, rfl, ?_⟩
 have hS1 : starterR.dat r4 = setS s.dat (stp (sd s.dat) (opC tempP)) := hd7.trans (congrArg (a₂ := setS s.dat (sd s.dat)) (fun q => setS q (stp (sd q) (opC tempP))) (by exact rfl))
 have hk1 : diskOk (stp (sd s.dat) (opC tempP)).1 = true := stp_ok hk (opC_ok temp_ok)
 have hb1 : totDisk (starterR.dat r4).depot.Disk ≤ 1048576 := by rw [hS1]; exact ok_tot hk1
 have hq1 : diskOk (starterR.dat r4).depot.Disk = true := by rw [hS1]; exact hk1
 refine WL.nil (WC.sr (WL.r 2 hs3 [] rfl ?_))
 have hF8 := ((hs3.fr L5).fb b_s)
 refine WL.cl Tryz.call133 rfl (k107_ _ r4 _ _ _ _ _ _ _ _ _ (St.headP hF8) ho6 (St.ownP hF8) (SlF.st f_data hs3 s_data) (by first | assumption | omega | simp) (St.nodupP hF8) (St.sepTP hF8 f_data s_data) ?_ ?_ ?_ ?_) ?_
 iterate 4 first | assumption | rfl | omega | decide | exact hb1 | exact hq1
 rintro _ whs9 ⟨r10, L11, rfl, hs9, ho12, hd13⟩
 replace hs9 := St.lendP hF8 hs9
 refine ⟨_, rfl, ?_⟩
 have hS2 : starterR.dat r10 = setS s.dat (stp (stp (sd s.dat) (opC tempP)) (opA tempP data)) := hd13.trans (congrArg (a₂ := setS s.dat (stp (sd s.dat) (opC tempP))) (fun q => setS q (stp (sd q) (opA tempP data))) (by exact hS1))
 have hk2 : diskOk (stp (stp (sd s.dat) (opC tempP)) (opA tempP data)).1 = true := stp_ok hk1 (opA_ok temp_ok hdl)
 have hb2 : totDisk (starterR.dat r10).depot.Disk ≤ 1048576 := by rw [hS2]; exact ok_tot hk2
 have hq2 : diskOk (starterR.dat r10).depot.Disk = true := by rw [hS2]; exact hk2
 refine WL.nil (WC.seq (fun K14 hK14 => WC.r1 hs9 [0] rfl ?_))
 refine WC.cq rfl (fun h15 qh15 => ?_) (fun h15 qh15 => ?_)
 ·have h5 : (fill1 (sd s.dat) data).2 = 5 := (congrArg starterD.code hS2).symm.trans (of_decide_eq_true h15)
  refine WC.sr (WL.r 3 hs9 [] rfl (WL.st tbk hs9 0 rfl rfl (fun _ hs16 => WL.nil (WC.sr (WL.r 1 hs16 [] rfl ?_)))))
  obtain ⟨L17, L18, L19, hs23, ho20, ho21, ho22⟩ := ownstarterR.op hs16 ho12
  have hs24 := (hs23.fb b_s)
  obtain ⟨L26, hs25, ho27⟩ := ownstarterR.fl hs24 ho20 ho21 ho22
  have hs28 := (hs25.fb b_s)
  have hF29 := ((hs28.fr L26).fb b_s)
  refine WL.cl Tryz.call133 rfl (k107_ _ ⟨⟨⟨r10.depot.Disk.Room, r10.depot.Disk.Fuse, r10.depot.Disk.Next, SlD.ofN ho20, SlD.of ho21, SlD.of ho22⟩, r10.depot.Gen, r10.depot.Seq, r10.depot.Size, r10.depot.Stuck⟩, (0)⟩ _ _ _ _ _ _ _ _ _ (St.headP hF29) (by exact ho27) (St.ownP hF29) (SlF.nil _ _) (by first | assumption | omega | simp) (St.nodupP hF29) (fun h_ => absurd h_ (by omega)) ?_ ?_ ?_ ?_) ?_
  iterate 4 first | assumption | rfl | omega | decide | exact hb2 | exact hq2
  rintro _ whs30 ⟨r31, L32, rfl, hs30, ho33, hd34⟩
  replace hs30 := St.lendP hF29 hs30
  refine ⟨_, rfl, ?_⟩
  have hS3 : starterR.dat r31 = setS s.dat (stp (((stp (stp (sd s.dat) (opC tempP)) (opA tempP data)).1, 0) : SD) (opR tempP)) := hd34.trans (congrArg (a₂ := setS s.dat (((stp (stp (sd s.dat) (opC tempP)) (opA tempP data)).1, 0) : SD)) (fun q => setS q (stp (sd q) (opR tempP))) (by exact (starterD.ext' (by have h8 := congrArg starterD.depot hS2; exact h8) rfl)))
  have hk3 : diskOk (stp (((stp (stp (sd s.dat) (opC tempP)) (opA tempP data)).1, 0) : SD) (opR tempP)).1 = true := stp_ok hk2 (opR_ok temp_ok)
  have hb3 : totDisk (starterR.dat r31).depot.Disk ≤ 1048576 := by rw [hS3]; exact ok_tot hk3
  have hq3 : diskOk (starterR.dat r31).depot.Disk = true := by rw [hS3]; exact hk3
  refine WL.nil (WC.sr (WL.r 1 hs30 [] rfl ?_))
  have hF35 := ((hs30.fr L32).fb b_s)
  refine WL.cl Tryz.call130 rfl (k109_ _ r31 _ _ (St.headP hF35) ho33 (St.ownP hF35) (St.nodupP hF35) ?_) ?_
  · first | assumption | rfl | omega | decide | exact hb3 | exact hq3
  rintro _ whs36 ⟨r37, L38, rfl, hs36, ho39, hd40⟩
  replace hs36 := St.lendP hF35 hs36
  refine ⟨_, rfl, ?_⟩
  have hS4 : starterR.dat r37 = setS s.dat (stp (stp (((stp (stp (sd s.dat) (opC tempP)) (opA tempP data)).1, 0) : SD) (opR tempP)) opY) := hd40.trans (congrArg (a₂ := setS s.dat (stp (((stp (stp (sd s.dat) (opC tempP)) (opA tempP data)).1, 0) : SD) (opR tempP))) (fun q => setS q (stp (sd q) opY)) (by exact hS3))
  have hk4 : diskOk (stp (stp (((stp (stp (sd s.dat) (opC tempP)) (opA tempP data)).1, 0) : SD) (opR tempP)) opY).1 = true := stp_ok hk3 opY_ok
  have hb4 : totDisk (starterR.dat r37).depot.Disk ≤ 1048576 := by rw [hS4]; exact ok_tot hk4
  have hq4 : diskOk (starterR.dat r37).depot.Disk = true := by rw [hS4]; exact hk4
  refine WL.nil (WC.r1 hs36 [0] rfl (WC.cq rfl (fun h41 qh41 => ?_) (fun h41 qh41 => ?_)))
  ·have h0 : (stp (stp (((stp (stp (sd s.dat) (opC tempP)) (opA tempP data)).1, 0) : SD) (opR tempP)) opY).2 = 0 := (congrArg starterD.code hS4).symm.trans (of_decide_eq_true h41)
   have hX : (((stp (stp (((stp (stp (sd s.dat) (opC tempP)) (opA tempP data)).1, 0) : SD) (opR tempP)) opY).1, 5) : SD) = fillS (sd s.dat) data := by
     unfold fillS
     rw [if_pos h5]
     show _ = ((stp (stp (((stp (stp (sd s.dat) (opC tempP)) (opA tempP data)).1, 0) : SD) (opR tempP)) opY).1, if (stp (stp (((stp (stp (sd s.dat) (opC tempP)) (opA tempP data)).1, 0) : SD) (opR tempP)) opY).2 = 0 then 5 else (stp (stp (((stp (stp (sd s.dat) (opC tempP)) (opA tempP data)).1, 0) : SD) (opR tempP)) opY).2)
     rw [if_pos h0]
   refine WC.region (WL.r 3 hs36 [] rfl (WL.st tbk hs36 0 rfl rfl (fun _ hs42 => WL.nil (hK14 _ _ (WC.region (WL.r 1 hs42 [] rfl ?_))))))
   obtain ⟨L43, L44, L45, hs49, ho46, ho47, ho48⟩ := ownstarterR.op hs42 ho39
   have hs50 := (hs49.fb b_s)
   obtain ⟨L52, hs51, ho53⟩ := ownstarterR.fl hs50 ho46 ho47 ho48
   have hs54 := (hs51.fb b_s)
   have hF55 := ((hs54.fr L52).fb b_s)
   refine WL.cl Tryz.call133 rfl (k107_ _ ⟨⟨⟨r37.depot.Disk.Room, r37.depot.Disk.Fuse, r37.depot.Disk.Next, SlD.ofN ho46, SlD.of ho47, SlD.of ho48⟩, r37.depot.Gen, r37.depot.Seq, r37.depot.Size, r37.depot.Stuck⟩, (5)⟩ _ _ _ _ _ _ _ _ _ (St.headP hF55) (by exact ho53) (St.ownP hF55) (SlF.nil _ _) (by first | assumption | omega | simp) (St.nodupP hF55) (fun h_ => absurd h_ (by omega)) ?_ ?_ ?_ ?_) ?_
   iterate 4 first | assumption | rfl | omega | decide | exact hb4 | exact hq4
   rintro _ whs56 ⟨r57, L58, rfl, hs56, ho59, hd60⟩
   replace hs56 := St.lendP hF55 hs56
   refine ⟨_, rfl, ?_⟩
   have hS5 : starterR.dat r57 = setS s.dat (stp (((stp (stp (((stp (stp (sd s.dat) (opC tempP)) (opA tempP data)).1, 0) : SD) (opR tempP)) opY).1, 5) : SD) (syncOp tempP)) := hd60.trans (congrArg (a₂ := setS s.dat (((stp (stp (((stp (stp (sd s.dat) (opC tempP)) (opA tempP data)).1, 0) : SD) (opR tempP)) opY).1, 5) : SD)) (fun q => setS q (stp (sd q) (syncOp tempP))) (by exact (starterD.ext' (by have h8 := congrArg starterD.depot hS4; exact h8) rfl)))
   have hk5 : diskOk (stp (((stp (stp (((stp (stp (sd s.dat) (opC tempP)) (opA tempP data)).1, 0) : SD) (opR tempP)) opY).1, 5) : SD) (syncOp tempP)).1 = true := stp_ok hk4 (opS_ok temp_ok)
   have hb5 : totDisk (starterR.dat r57).depot.Disk ≤ 1048576 := by rw [hS5]; exact ok_tot hk5
   have hq5 : diskOk (starterR.dat r57).depot.Disk = true := by rw [hS5]; exact hk5
   refine WL.nil (retK0 rfl (⟨r57, _, rfl, St.keepP (L1 := L58) ((hs56.fr L58).fb b_s), ho59, ?_⟩))
   · exact hS5.trans (congrArg (fun q => setS s.dat (stp q (syncOp tempP))) hX)
  have h0 : ¬ (stp (stp (((stp (stp (sd s.dat) (opC tempP)) (opA tempP data)).1, 0) : SD) (opR tempP)) opY).2 = 0 := fun h8 => (of_decide_eq_false h41) ((congrArg starterD.code hS4).trans h8)
  have hX : (stp (stp (((stp (stp (sd s.dat) (opC tempP)) (opA tempP data)).1, 0) : SD) (opR tempP)) opY) = fillS (sd s.dat) data := by
    unfold fillS
    rw [if_pos h5]
    show _ = ((stp (stp (((stp (stp (sd s.dat) (opC tempP)) (opA tempP data)).1, 0) : SD) (opR tempP)) opY).1, if (stp (stp (((stp (stp (sd s.dat) (opC tempP)) (opA tempP data)).1, 0) : SD) (opR tempP)) opY).2 = 0 then 5 else (stp (stp (((stp (stp (sd s.dat) (opC tempP)) (opA tempP data)).1, 0) : SD) (opR tempP)) opY).2)
    rw [if_neg h0]
  refine WC.skip (hK14 _ _ (WC.region (WL.r 1 hs36 [] rfl ?_)))
  have hF61 := ((hs36.fr L38).fb b_s)
  refine WL.cl Tryz.call133 rfl (k107_ _ r37 _ _ _ _ _ _ _ _ _ (St.headP hF61) ho39 (St.ownP hF61) (SlF.nil _ _) (by first | assumption | omega | simp) (St.nodupP hF61) (fun h_ => absurd h_ (by omega)) ?_ ?_ ?_ ?_) ?_
  iterate 4 first | assumption | rfl | omega | decide | exact hb4 | exact hq4
  rintro _ whs62 ⟨r63, L64, rfl, hs62, ho65, hd66⟩
  replace hs62 := St.lendP hF61 hs62
  refine ⟨_, rfl, ?_⟩
  have hS6 : starterR.dat r63 = setS s.dat (stp (stp (stp (((stp (stp (sd s.dat) (opC tempP)) (opA tempP data)).1, 0) : SD) (opR tempP)) opY) (syncOp tempP)) := hd66.trans (congrArg (a₂ := setS s.dat (stp (stp (((stp (stp (sd s.dat) (opC tempP)) (opA tempP data)).1, 0) : SD) (opR tempP)) opY)) (fun q => setS q (stp (sd q) (syncOp tempP))) (by exact hS4))
  have hk6 : diskOk (stp (stp (stp (((stp (stp (sd s.dat) (opC tempP)) (opA tempP data)).1, 0) : SD) (opR tempP)) opY) (syncOp tempP)).1 = true := stp_ok hk4 (opS_ok temp_ok)
  have hb6 : totDisk (starterR.dat r63).depot.Disk ≤ 1048576 := by rw [hS6]; exact ok_tot hk6
  have hq6 : diskOk (starterR.dat r63).depot.Disk = true := by rw [hS6]; exact hk6
  refine WL.nil (retK0 rfl (⟨r63, _, rfl, St.keepP (L1 := L64) ((hs62.fr L64).fb b_s), ho65, ?_⟩))
  · exact hS6.trans (congrArg (fun q => setS s.dat (stp q (syncOp tempP))) hX)
 have h5 : ¬ (fill1 (sd s.dat) data).2 = 5 := fun h8 => (of_decide_eq_false h15) ((congrArg starterD.code hS2).trans h8)
 have hX : (stp (stp (sd s.dat) (opC tempP)) (opA tempP data)) = fillS (sd s.dat) data := (if_neg h5).symm
 refine WC.skip (hK14 _ _ (WC.region (WL.r 1 hs9 [] rfl ?_)))
 have hF67 := ((hs9.fr L11).fb b_s)
 refine WL.cl Tryz.call133 rfl (k107_ _ r10 _ _ _ _ _ _ _ _ _ (St.headP hF67) ho12 (St.ownP hF67) (SlF.nil _ _) (by first | assumption | omega | simp) (St.nodupP hF67) (fun h_ => absurd h_ (by omega)) ?_ ?_ ?_ ?_) ?_
 iterate 4 first | assumption | rfl | omega | decide | exact hb2 | exact hq2
 rintro _ whs68 ⟨r69, L70, rfl, hs68, ho71, hd72⟩
 replace hs68 := St.lendP hF67 hs68
 refine ⟨_, rfl, ?_⟩
 have hS7 : starterR.dat r69 = setS s.dat (stp (stp (stp (sd s.dat) (opC tempP)) (opA tempP data)) (syncOp tempP)) := hd72.trans (congrArg (a₂ := setS s.dat (stp (stp (sd s.dat) (opC tempP)) (opA tempP data))) (fun q => setS q (stp (sd q) (syncOp tempP))) (by exact hS2))
 have hk7 : diskOk (stp (stp (stp (sd s.dat) (opC tempP)) (opA tempP data)) (syncOp tempP)).1 = true := stp_ok hk2 (opS_ok temp_ok)
 have hb7 : totDisk (starterR.dat r69).depot.Disk ≤ 1048576 := by rw [hS7]; exact ok_tot hk7
 have hq7 : diskOk (starterR.dat r69).depot.Disk = true := by rw [hS7]; exact hk7
 refine WL.nil (retK0 rfl (⟨r69, _, rfl, St.keepP (L1 := L70) ((hs68.fr L70).fb b_s), ho71, ?_⟩))
 · exact hS7.trans (congrArg (fun q => setS s.dat (stp q (syncOp tempP))) hX)
end Go.Proofs.YtcpnlodkmkfplaaGreatDoor
